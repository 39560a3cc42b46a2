import Derived.Test.YtmjifnioaoamfaaGreatDoorBuildsShRange
import Derived.Test.YtmjifnioaoamfaaGreatDoorChecked
import Derived.Test.YtmjifnioaoamfaaGreatDoorBuildsShLoc
import Derived.Test.YtmjifnioaoamfaaGreatDoorBuildsShRow
import Derived.Test.YtmjifnioaoamfaaGreatDoorBuildsShDefer
import Derived.Test.YtmjifnioaoamfaaGreatDoorBuildsShAll
import Derived.Test.YtmjifnioaoamfaaGreatDoorBuildsShGlue
import Derived.Laws.Strings
import Derived.WideShapes
import Derived.MapKept
set_option linter.all false
set_option maxRecDepth 100000
set_option maxHeartbeats 1000000
namespace Go.Proofs.YtmjifnioaoamfaaGreatDoor
open Go Go.Sh Go.WideShapes
noncomputable abbrev aG:=Tryz.prog
abbrev Y4:TypeId:=1
abbrev Y6:TypeId:=3
abbrev Y8:TypeId:=5
abbrev qo:TypeId:=9
abbrev Y25:TypeId:=22
abbrev kH:TypeId:=24
abbrev iI:TypeId:=26
abbrev cg:TypeId:=32
abbrev PG:TypeId:=33
abbrev kG:TypeId:=67
abbrev Zd:TypeId:=76
abbrev PD:TypeId:=27
abbrev di:TypeId:=43
abbrev fI:TypeId:=44
abbrev agP:TypeId:=156
abbrev agO:TypeId:=266
abbrev avK:TypeId:=213
abbrev JO:TypeId:=252
abbrev agN:TypeId:=121
abbrev agM:TypeId:=182
abbrev agL:TypeId:=183
abbrev agK:TypeId:=184
abbrev agJ:TypeId:=185
abbrev agI:TypeId:=186
abbrev agH:TypeId:=187
abbrev JN:TypeId:=188
abbrev oK:TypeId:=231
abbrev agG:TypeId:=136
abbrev JM:TypeId:=141
abbrev Zo:TypeId:=163
abbrev Zn:TypeId:=168
abbrev agF:TypeId:=193
abbrev agE:TypeId:=194
abbrev agD:TypeId:=202
abbrev ET:TypeId:=52
abbrev JL:TypeId:=60
abbrev agC:TypeId:=63
abbrev ES:TypeId:=71
abbrev PE:TypeId:=84
abbrev nZ:TypeId:=87
abbrev Zm:TypeId:=89
abbrev nY:TypeId:=90
abbrev Zl:TypeId:=92
abbrev nW:TypeId:=93
abbrev Zk:TypeId:=95
abbrev nt:TypeId:=96
abbrev Zj:TypeId:=98
abbrev nk:TypeId:=99
abbrev Zi:TypeId:=101
abbrev oJ:TypeId:=102
abbrev Zh:TypeId:=104
abbrev oI:TypeId:=105
abbrev Zg:TypeId:=108
abbrev nV:TypeId:=109
abbrev Zf:TypeId:=111
abbrev oH:TypeId:=112
abbrev Ze:TypeId:=116
abbrev qS:TypeId:=134
abbrev agB:TypeId:=283
abbrev Zc:TypeId:=288
abbrev avI:TypeId:=293
abbrev oU:Array Value:=#[(ah 0),(ah 0),(ah 0),(ah 0),(.slice none 0 0)]
abbrev mV:Array Value:=#[(.string (bs [])),(.bool false),(ah 0),(ah 0),(ah 0),(ah 0),(.slice none 0 0)]
abbrev cY:Array Value:=#[(ah 0),(ah 0),(ah 0),(.slice none 0 0),(.slice none 0 0),(.slice none 0 0)]
abbrev kJ:Array Value:=#[(ah 0),(.slice none 0 0),(ah 0)]
abbrev gl:Array Value:=#[(.bool false),(ah 0),(.string (bs [])),(.slice none 0 0)]
abbrev MA:Array Value:=#[(.slice none 0 0),(ah 0),(.pointer none)]
abbrev Tz:Array Value:=#[(.slice none 0 0),(.string (bs [])),(.bool false),(ah 0),(ah 0),(ah 0),(ah 0),(.slice none 0 0),(.slice none 0 0),(.bool false)]
abbrev ah8:Array Value:=#[(.slice none 0 0),(.slice none 0 0),(.string (bs [])),(.bool false),(ah 0),(ah 0),(ah 0),(ah 0),(.slice none 0 0),(.bool false)]
abbrev Ty:Array Value:=#[(.string (bs [])),(.bool false),(ah 0),(ah 0),(ah 0),(ah 0),(.slice none 0 0),(ah 0),(ah 0),(.slice none 0 0),(ah 0),(.bool false),(ah 0),(.string (bs [])),(.slice none 0 0),(.bool false)]
abbrev wh(h:Hp)(t0 t1 t2 t3:Int)(t4:Sl)(K:Addr->HP):Prop:=aL h #[(ah t0),(ah t1),(ah t2),(ah t3),(Sl.v t4)] kH K
abbrev fV(h:Hp)(t0:BA)(t1:Bool)(t2 t3 t4 t5:Int)(t6:Sl)(K:Addr->HP):Prop:=aL h #[(.string t0),(.bool t1),(ah t2),(ah t3),(ah t4),(ah t5),(Sl.v t6)] iI K
abbrev n8(h:Hp)(t0 t1 t2:Int)(t3 t4 t5:Sl)(K:Addr->HP):Prop:=aL h #[(ah t0),(ah t1),(ah t2),(Sl.v t3),(Sl.v t4),(Sl.v t5)] cg K
abbrev iK(h:Hp)(t0:Bool)(t1:Int)(t2:BA)(t3:Sl)(K:Addr->HP):Prop:=aL h #[(.bool t0),(ah t1),(.string t2),(Sl.v t3)] di K
abbrev awd(h:Hp)(t0:BA)(t1:Bool)(t2 t3 t4 t5:Int)(t6:Sl)(t7 t8 t9:Int)(t10 t11 t12:Sl)(t13 t14:Int)(t15:PA)(t16:Value)(K:Addr->HP):Prop:=aL h #[(.string t0),(.bool t1),(ah t2),(ah t3),(ah t4),(ah t5),(Sl.v t6),(ah t7),(ah t8),(ah t9),(Sl.v t10),(Sl.v t11),(Sl.v t12),(ah t13),(ah t14),(.pointer t15),t16] agP K
abbrev Ch(h:Hp)(t0:Sl)(t1:Int)(t2:PA)(K:Addr->HP):Prop:=aL h #[(Sl.v t0),(ah t1),(.pointer t2)] JO K
abbrev awc(h:Hp)(t0 t1:Sl)(t2:BA)(t3:Bool)(t4 t5 t6 t7:Int)(t8:Sl)(t9:Bool)(K:Addr->HP):Prop:=aL h #[(Sl.v t0),(Sl.v t1),(.string t2),(.bool t3),(ah t4),(ah t5),(ah t6),(ah t7),(Sl.v t8),(.bool t9)] Zn K
abbrev awb(h:Hp)(t0:BA)(t1:Bool)(t2 t3 t4 t5:Int)(t6:Sl)(t7:Value)(t8:Bool)(K:Addr->HP):Prop:=aL h #[(.string t0),(.bool t1),(ah t2),(ah t3),(ah t4),(ah t5),(Sl.v t6),t7,(.bool t8)] agC K
abbrev awa(h:Hp)(t0:BA)(t1:Bool)(t2 t3 t4 t5:Int)(t6:Sl)(t7 t8 t9:Int)(t10 t11 t12 t13 t14 t15 t16 t17 t18:Sl)(K:Addr->HP):Prop:=aL h #[(.string t0),(.bool t1),(ah t2),(ah t3),(ah t4),(ah t5),(Sl.v t6),(ah t7),(ah t8),(ah t9),(Sl.v t10),(Sl.v t11),(Sl.v t12),(Sl.v t13),(Sl.v t14),(Sl.v t15),(Sl.v t16),(Sl.v t17),(Sl.v t18)] ES K
abbrev av9(h:Hp)(t0:BA)(t1:Bool)(t2 t3 t4 t5:Int)(t6:Sl)(t7 t8:Int)(t9:Sl)(t10:Int)(t11:Bool)(t12:Int)(t13:BA)(t14:Sl)(t15:Bool)(K:Addr->HP):Prop:=aL h #[(.string t0),(.bool t1),(ah t2),(ah t3),(ah t4),(ah t5),(Sl.v t6),(ah t7),(ah t8),(Sl.v t9),(ah t10),(.bool t11),(ah t12),(.string t13),(Sl.v t14),(.bool t15)] Zm K
abbrev av8(h:Hp)(t0:BA)(t1:Bool)(t2 t3 t4 t5:Int)(t6:Sl)(t7 t8:Int)(t9:Sl)(t10:Int)(t11:Bool)(t12:Int)(t13:BA)(t14:Sl)(t15:Bool)(t16 t17:Sl)(K:Addr->HP):Prop:=aL h #[(.string t0),(.bool t1),(ah t2),(ah t3),(ah t4),(ah t5),(Sl.v t6),(ah t7),(ah t8),(Sl.v t9),(ah t10),(.bool t11),(ah t12),(.string t13),(Sl.v t14),(.bool t15),(Sl.v t16),(Sl.v t17)] Zl K
abbrev av7(h:Hp)(t0:BA)(t1:Bool)(t2 t3 t4 t5:Int)(t6:Sl)(t7 t8:Int)(t9:Sl)(t10:Int)(t11:Bool)(t12:Int)(t13:BA)(t14:Sl)(t15:Bool)(t16:Sl)(t17:Value)(K:Addr->HP):Prop:=aL h #[(.string t0),(.bool t1),(ah t2),(ah t3),(ah t4),(ah t5),(Sl.v t6),(ah t7),(ah t8),(Sl.v t9),(ah t10),(.bool t11),(ah t12),(.string t13),(Sl.v t14),(.bool t15),(Sl.v t16),t17] Zk K
abbrev av6(h:Hp)(t0:BA)(t1:Bool)(t2 t3 t4 t5:Int)(t6:Sl)(t7 t8:Int)(t9:Sl)(t10:Int)(t11:Bool)(t12:Int)(t13:BA)(t14:Sl)(t15:Bool)(t16:Value)(K:Addr->HP):Prop:=aL h #[(.string t0),(.bool t1),(ah t2),(ah t3),(ah t4),(ah t5),(Sl.v t6),(ah t7),(ah t8),(Sl.v t9),(ah t10),(.bool t11),(ah t12),(.string t13),(Sl.v t14),(.bool t15),t16] Zj K
abbrev av5(h:Hp)(t0:BA)(t1:Bool)(t2 t3 t4 t5:Int)(t6:Sl)(t7 t8:Int)(t9:Sl)(t10:Int)(t11:Bool)(t12:Int)(t13:BA)(t14:Sl)(t15:Bool)(t16:Sl)(K:Addr->HP):Prop:=aL h #[(.string t0),(.bool t1),(ah t2),(ah t3),(ah t4),(ah t5),(Sl.v t6),(ah t7),(ah t8),(Sl.v t9),(ah t10),(.bool t11),(ah t12),(.string t13),(Sl.v t14),(.bool t15),(Sl.v t16)] Zi K
abbrev av4(h:Hp)(t0:BA)(t1:Bool)(t2 t3 t4 t5:Int)(t6:Sl)(t7 t8:Int)(t9:Sl)(t10:Int)(t11:Bool)(t12:Int)(t13:BA)(t14:Sl)(t15:Bool)(t16 t17 t18:Sl)(K:Addr->HP):Prop:=aL h #[(.string t0),(.bool t1),(ah t2),(ah t3),(ah t4),(ah t5),(Sl.v t6),(ah t7),(ah t8),(Sl.v t9),(ah t10),(.bool t11),(ah t12),(.string t13),(Sl.v t14),(.bool t15),(Sl.v t16),(Sl.v t17),(Sl.v t18)] Zh K
abbrev av3(h:Hp)(t0:BA)(t1:Bool)(t2 t3 t4 t5:Int)(t6:Sl)(t7 t8:Int)(t9:Sl)(t10:Int)(t11:Bool)(t12:Int)(t13:BA)(t14:Sl)(t15:Bool)(t16:Sl)(t17:Value)(t18:Sl)(t19:Option Nat)(K:Addr->HP):Prop:=aL h #[(.string t0),(.bool t1),(ah t2),(ah t3),(ah t4),(ah t5),(Sl.v t6),(ah t7),(ah t8),(Sl.v t9),(ah t10),(.bool t11),(ah t12),(.string t13),(Sl.v t14),(.bool t15),(Sl.v t16),t17,(Sl.v t18),(.map t19)] Zg K
abbrev av2(h:Hp)(t0:BA)(t1:Bool)(t2 t3 t4 t5:Int)(t6:Sl)(t7 t8:Int)(t9:Sl)(t10:Int)(t11:Bool)(t12:Int)(t13:BA)(t14:Sl)(t15:Bool)(t16:Sl)(t17:Value)(t18:Bool)(t19:Int)(t20:BA)(t21:Sl)(K:Addr->HP):Prop:=aL h #[(.string t0),(.bool t1),(ah t2),(ah t3),(ah t4),(ah t5),(Sl.v t6),(ah t7),(ah t8),(Sl.v t9),(ah t10),(.bool t11),(ah t12),(.string t13),(Sl.v t14),(.bool t15),(Sl.v t16),t17,(.bool t18),(ah t19),(.string t20),(Sl.v t21)] Zf K
abbrev av1(h:Hp)(t0:BA)(t1:Bool)(t2 t3 t4 t5:Int)(t6:Sl)(t7 t8:Int)(t9:Sl)(t10:Int)(t11:Bool)(t12:Int)(t13:BA)(t14:Sl)(t15:Bool)(t16 t17:Sl)(K:Addr->HP):Prop:=aL h #[(.string t0),(.bool t1),(ah t2),(ah t3),(ah t4),(ah t5),(Sl.v t6),(ah t7),(ah t8),(Sl.v t9),(ah t10),(.bool t11),(ah t12),(.string t13),(Sl.v t14),(.bool t15),(Sl.v t16),(Sl.v t17)] Ze K
def gX(h:Hp)(a:Addr)(K:Int->Int->Int->Int->Sl->Prop):Prop:=
 Ld h a mI λt0=>Ld h (a.add 1) mI λt1=>Ld h (a.add 2) mI λt2=>Ld h (a.add 3) mI λt3=>Ld h (a.add 4) Sl.v λt4=>K t0 t1 t2 t3 t4
def bP(h:Hp)(a:Addr)(K:BA->Bool->Int->Int->Int->Int->Sl->Prop):Prop:=
 Ld h a .string λt0=>Ld h (a.add 1) .bool λt1=>Ld h (a.add 2) mI λt2=>Ld h (a.add 3) mI λt3=>Ld h (a.add 4) mI λt4=>Ld h (a.add 5) mI λt5=>Ld h (a.add 6) Sl.v λt6=>K t0 t1 t2 t3 t4 t5 t6
def bY(h:Hp)(a:Addr)(K:Int->Int->Int->Sl->Sl->Sl->Prop):Prop:=
 Ld h a mI λt0=>Ld h (a.add 1) mI λt1=>Ld h (a.add 2) mI λt2=>Ld h (a.add 3) Sl.v λt3=>Ld h (a.add 4) Sl.v λt4=>Ld h (a.add 5) Sl.v λt5=>K t0 t1 t2 t3 t4 t5
def eu(h:Hp)(a:Addr)(K:Int->Sl->Int->Prop):Prop:=
 Ld h a mI λt0=>Ld h (a.add 1) Sl.v λt1=>Ld h (a.add 2) mI λt2=>K t0 t1 t2
def bN(h:Hp)(a:Addr)(K:Bool->Int->BA->Sl->Prop):Prop:=
 Ld h a .bool λt0=>Ld h (a.add 1) mI λt1=>Ld h (a.add 2) .string λt2=>Ld h (a.add 3) Sl.v λt3=>K t0 t1 t2 t3
def oN(h:Hp)(a:Addr)(K:Sl->Int->PA->Prop):Prop:=
 Ld h a Sl.v λt0=>Ld h (a.add 1) mI λt1=>Ld h (a.add 2) .pointer λt2=>K t0 t1 t2
def Fa(h:Hp)(a:Addr)(K:Sl->BA->Bool->Int->Int->Int->Int->Sl->Sl->Bool->Prop):Prop:=
 Ld h a Sl.v λt0=>Ld h (a.add 1) .string λt1=>Ld h (a.add 2) .bool λt2=>Ld h (a.add 3) mI λt3=>Ld h (a.add 4) mI λt4=>Ld h (a.add 5) mI λt5=>Ld h (a.add 6) mI λt6=>Ld h (a.add 7) Sl.v λt7=>Ld h (a.add 8) Sl.v λt8=>Ld h (a.add 9) .bool λt9=>K t0 t1 t2 t3 t4 t5 t6 t7 t8 t9
def awn(h:Hp)(a:Addr)(K:Sl->Sl->BA->Bool->Int->Int->Int->Int->Sl->Bool->Prop):Prop:=
 Ld h a Sl.v λt0=>Ld h (a.add 1) Sl.v λt1=>Ld h (a.add 2) .string λt2=>Ld h (a.add 3) .bool λt3=>Ld h (a.add 4) mI λt4=>Ld h (a.add 5) mI λt5=>Ld h (a.add 6) mI λt6=>Ld h (a.add 7) mI λt7=>Ld h (a.add 8) Sl.v λt8=>Ld h (a.add 9) .bool λt9=>K t0 t1 t2 t3 t4 t5 t6 t7 t8 t9
def oa(h:Hp)(a:Addr)(K:BA->Bool->Int->Int->Int->Int->Sl->Int->Int->Sl->Int->Bool->Int->BA->Sl->Bool->Prop):Prop:=
 Ld h a .string λt0=>Ld h (a.add 1) .bool λt1=>Ld h (a.add 2) mI λt2=>Ld h (a.add 3) mI λt3=>Ld h (a.add 4) mI λt4=>Ld h (a.add 5) mI λt5=>Ld h (a.add 6) Sl.v λt6=>Ld h (a.add 7) mI λt7=>Ld h (a.add 8) mI λt8=>Ld h (a.add 9) Sl.v λt9=>Ld h (a.add 10) mI λt10=>Ld h (a.add 11) .bool λt11=>Ld h (a.add 12) mI λt12=>Ld h (a.add 13) .string λt13=>Ld h (a.add 14) Sl.v λt14=>Ld h (a.add 15) .bool λt15=>K t0 t1 t2 t3 t4 t5 t6 t7 t8 t9 t10 t11 t12 t13 t14 t15
def lW(h:Hp)(a:Addr)(t0 t1 t2 t3:Int)(t4:Sl)(K:HP):Prop:=
 St h a (ah t0) λh1=>St h1 (a.add 1) (ah t1) λh2=>St h2 (a.add 2) (ah t2) λh3=>St h3 (a.add 3) (ah t3) λh4=>St h4 (a.add 4) (Sl.v t4) λh5=>K h5
def kg(h:Hp)(a:Addr)(t0:BA)(t1:Bool)(t2 t3 t4 t5:Int)(t6:Sl)(K:HP):Prop:=
 St h a (.string t0) λh1=>St h1 (a.add 1) (.bool t1) λh2=>St h2 (a.add 2) (ah t2) λh3=>St h3 (a.add 3) (ah t3) λh4=>St h4 (a.add 4) (ah t4) λh5=>St h5 (a.add 5) (ah t5) λh6=>St h6 (a.add 6) (Sl.v t6) λh7=>K h7
def cJ(h:Hp)(a:Addr)(t0 t1 t2:Int)(t3 t4 t5:Sl)(K:HP):Prop:=
 St h a (ah t0) λh1=>St h1 (a.add 1) (ah t1) λh2=>St h2 (a.add 2) (ah t2) λh3=>St h3 (a.add 3) (Sl.v t3) λh4=>St h4 (a.add 4) (Sl.v t4) λh5=>St h5 (a.add 5) (Sl.v t5) λh6=>K h6
def dS(h:Hp)(a:Addr)(t0:Int)(t1:Sl)(t2:Int)(K:HP):Prop:=
 St h a (ah t0) λh1=>St h1 (a.add 1) (Sl.v t1) λh2=>St h2 (a.add 2) (ah t2) λh3=>K h3
def dK(h:Hp)(a:Addr)(t0:Bool)(t1:Int)(t2:BA)(t3:Sl)(K:HP):Prop:=
 St h a (.bool t0) λh1=>St h1 (a.add 1) (ah t1) λh2=>St h2 (a.add 2) (.string t2) λh3=>St h3 (a.add 3) (Sl.v t3) λh4=>K h4
def sr(h:Hp)(a:Addr)(t0:Sl)(t1:Int)(t2:PA)(K:HP):Prop:=
 St h a (Sl.v t0) λh1=>St h1 (a.add 1) (ah t1) λh2=>St h2 (a.add 2) (.pointer t2) λh3=>K h3
def yq(h:Hp)(a:Addr)(t0:Sl)(t1:BA)(t2:Bool)(t3 t4 t5 t6:Int)(t7 t8:Sl)(t9:Bool)(K:HP):Prop:=
 St h a (Sl.v t0) λh1=>St h1 (a.add 1) (.string t1) λh2=>St h2 (a.add 2) (.bool t2) λh3=>St h3 (a.add 3) (ah t3) λh4=>St h4 (a.add 4) (ah t4) λh5=>St h5 (a.add 5) (ah t5) λh6=>St h6 (a.add 6) (ah t6) λh7=>St h7 (a.add 7) (Sl.v t7) λh8=>St h8 (a.add 8) (Sl.v t8) λh9=>St h9 (a.add 9) (.bool t9) λxq=>K xq
def avQ(h:Hp)(a:Addr)(t0 t1:Sl)(t2:BA)(t3:Bool)(t4 t5 t6 t7:Int)(t8:Sl)(t9:Bool)(K:HP):Prop:=
 St h a (Sl.v t0) λh1=>St h1 (a.add 1) (Sl.v t1) λh2=>St h2 (a.add 2) (.string t2) λh3=>St h3 (a.add 3) (.bool t3) λh4=>St h4 (a.add 4) (ah t4) λh5=>St h5 (a.add 5) (ah t5) λh6=>St h6 (a.add 6) (ah t6) λh7=>St h7 (a.add 7) (ah t7) λh8=>St h8 (a.add 8) (Sl.v t8) λh9=>St h9 (a.add 9) (.bool t9) λxq=>K xq
def qT(h:Hp)(a:Addr)(t0:BA)(t1:Bool)(t2 t3 t4 t5:Int)(t6:Sl)(t7 t8:Int)(t9:Sl)(t10:Int)(t11:Bool)(t12:Int)(t13:BA)(t14:Sl)(t15:Bool)(K:HP):Prop:=
 St h a (.string t0) λh1=>St h1 (a.add 1) (.bool t1) λh2=>St h2 (a.add 2) (ah t2) λh3=>St h3 (a.add 3) (ah t3) λh4=>St h4 (a.add 4) (ah t4) λh5=>St h5 (a.add 5) (ah t5) λh6=>St h6 (a.add 6) (Sl.v t6) λh7=>St h7 (a.add 7) (ah t7) λh8=>St h8 (a.add 8) (ah t8) λh9=>St h9 (a.add 9) (Sl.v t9) λxq=>St xq (a.add 10) (ah t10) λN5=>St N5 (a.add 11) (.bool t11) λN4=>St N4 (a.add 12) (ah t12) λh13=>St h13 (a.add 13) (.string t13) λzp=>St zp (a.add 14) (Sl.v t14) λh15=>St h15 (a.add 15) (.bool t15) λD0=>K D0
abbrev vE{R:Type}(k:Value->R)(t0 t1 t2 t3:Int)(t4:Sl):R:=k (.agg #[(ah t0),(ah t1),(ah t2),(ah t3),(Sl.v t4)])
abbrev fL{R:Type}(k:Value->R)(t0:BA)(t1:Bool)(t2 t3 t4 t5:Int)(t6:Sl):R:=k (.agg #[(.string t0),(.bool t1),(ah t2),(ah t3),(ah t4),(ah t5),(Sl.v t6)])
abbrev mg{R:Type}(k:Value->R)(t0 t1 t2:Int)(t3 t4 t5:Sl):R:=k (.agg #[(ah t0),(ah t1),(ah t2),(Sl.v t3),(Sl.v t4),(Sl.v t5)])
abbrev iN{R:Type}(k:Value->R)(t0:Bool)(t1:Int)(t2:BA)(t3:Sl):R:=k (.agg #[(.bool t0),(ah t1),(.string t2),(Sl.v t3)])
abbrev BD{R:Type}(k:Value->R)(t0:Sl)(t1:Int)(t2:PA):R:=k (.agg #[(Sl.v t0),(ah t1),(.pointer t2)])
abbrev auH{R:Type}(k:Value->R)(t0 t1:Sl)(t2:BA)(t3:Bool)(t4 t5 t6 t7:Int)(t8:Sl)(t9:Bool):R:=k (.agg #[(Sl.v t0),(Sl.v t1),(.string t2),(.bool t3),(ah t4),(ah t5),(ah t6),(ah t7),(Sl.v t8),(.bool t9)])
abbrev bG:=Bool->HP
abbrev dz:Rs:=[(false,[.b])]
abbrev fS(i:FuncId)(l:bg)(h:Hp)(K:bG)(Kp:PK):Prop:=dW aG i l h (xQ dz K) Kp
abbrev EX:=Int->Int->Int->Sl->Sl->Sl->Int->Int->HP
abbrev HZ:Rs:=[(true,[tI,tI,tI,.s,.s,.s]),(false,[tI]),(false,[tI])]
abbrev fR1(i:FuncId)(l:bg)(h:Hp)(K:EX)(Kp:PK):Prop:=dW aG i l h (xQ HZ K) Kp
abbrev PM:=Int->Int->Int->Sl->Sl->Sl->Int->HP
abbrev Ni:Rs:=[(true,[tI,tI,tI,.s,.s,.s]),(false,[tI])]
abbrev XL(i:FuncId)(l:bg)(h:Hp)(K:PM)(Kp:PK):Prop:=dW aG i l h (xQ Ni K) Kp
abbrev TR3:=PA->Int->HP
abbrev qR3:Rs:=[(false,[.p]),(false,[tI])]
abbrev fR3(i:FuncId)(l:bg)(h:Hp)(K:TR3)(Kp:PK):Prop:=dW aG i l h (xQ qR3 K) Kp
abbrev bT:=Int->HP
abbrev dm:Rs:=[(false,[tI])]
abbrev eR(i:FuncId)(l:bg)(h:Hp)(K:bT)(Kp:PK):Prop:=dW aG i l h (xQ dm K) Kp
abbrev Cd:=PA->HP
abbrev Ng:Rs:=[(false,[.p])]
abbrev fR5(i:FuncId)(l:bg)(h:Hp)(K:Cd)(Kp:PK):Prop:=dW aG i l h (xQ Ng K) Kp
abbrev jI:=Int->Int->Int->Sl->Sl->Sl->HP
abbrev lZ:Rs:=[(true,[tI,tI,tI,.s,.s,.s])]
abbrev sP(i:FuncId)(l:bg)(h:Hp)(K:jI)(Kp:PK):Prop:=dW aG i l h (xQ lZ K) Kp
abbrev EU:=BA->Bool->Int->Int->Int->Int->Sl->HP
abbrev Dy:Rs:=[(true,[.t,.b,tI,tI,tI,tI,.s])]
abbrev Oj(i:FuncId)(l:bg)(h:Hp)(K:EU)(Kp:PK):Prop:=dW aG i l h (xQ Dy K) Kp
abbrev zW:=Value->HP
abbrev HY:Rs:=[(false,[.a (.nilIface)])]
abbrev fR8(i:FuncId)(l:bg)(h:Hp)(K:zW)(Kp:PK):Prop:=dW aG i l h (xQ HY K) Kp
abbrev iP:=Int->Sl->Int->HP
abbrev nJ:Rs:=[(true,[tI,.s,tI])]
abbrev xx(i:FuncId)(l:bg)(h:Hp)(K:iP)(Kp:PK):Prop:=dW aG i l h (xQ nJ K) Kp
abbrev gw:=Sl->HP
abbrev gP:Rs:=[(false,[.s])]
abbrev me(i:FuncId)(l:bg)(h:Hp)(K:gw)(Kp:PK):Prop:=dW aG i l h (xQ gP K) Kp
abbrev Zu:=PA->Int->Sl->Int->HP
abbrev UI:Rs:=[(false,[.p]),(true,[tI,.s,tI])]
abbrev asf(i:FuncId)(l:bg)(h:Hp)(K:Zu)(Kp:PK):Prop:=dW aG i l h (xQ UI K) Kp
abbrev ag0:=BA->Bool->Int->Int->Int->Int->Sl->Int->Int->Sl->Int->Bool->Int->BA->Sl->Bool->HP
abbrev ab1:Rs:=[(true,[.t,.b,tI,tI,tI,tI,.s,tI,tI,.s,tI,.b,tI,.t,.s,.b])]
abbrev ase(i:FuncId)(l:bg)(h:Hp)(K:ag0)(Kp:PK):Prop:=dW aG i l h (xQ ab1 K) Kp
abbrev iY:=HP
abbrev kK:Rs:=[]
abbrev qJ(i:FuncId)(l:bg)(h:Hp)(K:iY)(Kp:PK):Prop:=dW aG i l h (xQ kK K) Kp
abbrev Ce:=Value->HP
abbrev AV:Rs:=[(false,[.a (.nilFunc)])]
abbrev rJ(i:FuncId)(l:bg)(h:Hp)(K:Ce)(Kp:PK):Prop:=dW aG i l h (xQ AV K) Kp
abbrev Zt:=Bool->Int->BA->Sl->Int->HP
abbrev UH:Rs:=[(true,[.b,tI,.t,.s]),(false,[tI])]
abbrev aex(i:FuncId)(l:bg)(h:Hp)(K:Zt)(Kp:PK):Prop:=dW aG i l h (xQ UH K) Kp
abbrev zX:=Int->Sl->Int->Sl->HP
abbrev UG:Rs:=[(true,[tI,.s,tI]),(false,[.s])]
abbrev asd(i:FuncId)(l:bg)(h:Hp)(K:zX)(Kp:PK):Prop:=dW aG i l h (xQ UG K) Kp
abbrev avO:=Bool->Int->BA->Sl->Int->Int->HP
abbrev amE:Rs:=[(true,[.b,tI,.t,.s]),(false,[tI]),(false,[tI])]
abbrev asb(i:FuncId)(l:bg)(h:Hp)(K:avO)(Kp:PK):Prop:=dW aG i l h (xQ amE K) Kp
abbrev qp:=Bool->Int->BA->Sl->HP
abbrev tO:Rs:=[(true,[.b,tI,.t,.s])]
abbrev IU(i:FuncId)(l:bg)(h:Hp)(K:qp)(Kp:PK):Prop:=dW aG i l h (xQ tO K) Kp
abbrev avN:=BA->HP
abbrev amD:Rs:=[(false,[.t])]
abbrev asa(i:FuncId)(l:bg)(h:Hp)(K:avN)(Kp:PK):Prop:=dW aG i l h (xQ amD K) Kp
abbrev EW:=Int->HP
abbrev Dz:Rs:=[(false,[.i .u64])]
abbrev XK(i:FuncId)(l:bg)(h:Hp)(K:EW)(Kp:PK):Prop:=dW aG i l h (xQ Dz K) Kp
abbrev agZ:=Int->Bool->HP
abbrev ab0:Rs:=[(false,[tI]),(false,[.b])]
abbrev ar9(i:FuncId)(l:bg)(h:Hp)(K:agZ)(Kp:PK):Prop:=dW aG i l h (xQ ab0 K) Kp
abbrev Zs:=Int->Int->Int->HP
abbrev UF:Rs:=[(false,[tI]),(false,[tI]),(false,[tI])]
abbrev ar8(i:FuncId)(l:bg)(h:Hp)(K:Zs)(Kp:PK):Prop:=dW aG i l h (xQ UF K) Kp
abbrev agY:=Bool->Int->HP
abbrev abZ:Rs:=[(false,[.b]),(false,[tI])]
abbrev ar7(i:FuncId)(l:bg)(h:Hp)(K:agY)(Kp:PK):Prop:=dW aG i l h (xQ abZ K) Kp
abbrev PL:=Sl->Int->PA->HP
abbrev Nh:Rs:=[(true,[.s,tI,.p])]
abbrev XJ(i:FuncId)(l:bg)(h:Hp)(K:PL)(Kp:PK):Prop:=dW aG i l h (xQ Nh K) Kp
abbrev agX:=Int->Int->HP
abbrev abY:Rs:=[(false,[.i .u8]),(false,[tI])]
abbrev ar6(i:FuncId)(l:bg)(h:Hp)(K:agX)(Kp:PK):Prop:=dW aG i l h (xQ abY K) Kp
abbrev agW:=Int->Int->HP
abbrev abX:Rs:=[(false,[tI]),(false,[tI])]
abbrev ar5(i:FuncId)(l:bg)(h:Hp)(K:agW)(Kp:PK):Prop:=dW aG i l h (xQ abX K) Kp
abbrev agV:=BA->Int->HP
abbrev abW:Rs:=[(false,[.t]),(false,[tI])]
abbrev ar4(i:FuncId)(l:bg)(h:Hp)(K:agV)(Kp:PK):Prop:=dW aG i l h (xQ abW K) Kp
abbrev agU:=Int->Int->HP
abbrev abV:Rs:=[(false,[.i .u64]),(false,[tI])]
abbrev ar3(i:FuncId)(l:bg)(h:Hp)(K:agU)(Kp:PK):Prop:=dW aG i l h (xQ abV K) Kp
def Te:=fL λa=>cS λb=>fS 3 [a,b]
def Lz:=fS 4 []
def qw:=fL λa=>cS λb=>fR1 5 [a,b]
def yJ:=fL λa=>cS λb=>fR1 6 [a,b]
def Td:=fL λa=>XL 7 [a]
def C1:=mg λa=>mg λb=>fS 8 [a,b]
def Lx:=fL λa=>mg λb=>fS 9 [a,b]
def C0:=fL λa=>fR3 10 [a]
def Lw:=cP λa=>iN λb=>eR 11 [a,b]
def Lu:=cP λa=>XL 12 [a]
def KW:=fL λa=>fS 13 [a]
def GM:=fL λa=>fR5 14 [a]
def Lr:=cP λa=>iN λb=>eR 15 [a,b]
def GL:=cP λa=>sP 16 [a]
def GO:=cS λa=>cS λb=>fS 17 [a,b]
def Ly:=fL λa=>mg λb=>XL 18 [a,b]
def GN:=mg λa=>mg λb=>fS 19 [a,b]
def CZ:=fL λa=>fS 20 [a]
def GK:=fL λa=>Oj 21 [a]
def GJ:=fL λa=>fR8 22 [a]
def Lq:=fL λa=>iN λb=>eR 23 [a,b]
def Lp:=cP λa=>iN λb=>eR 24 [a,b]
def Ga:=fL λa=>xx 25 [a]
def Lo:=fL λa=>iN λb=>fS 26 [a,b]
def q8:=cP λa=>iN λb=>eR 27 [a,b]
def GI:=cS λa=>me 28 [a]
def qv:=cS λa=>cI λb=>me 29 [a,b]
def CX:=cI λa=>eR 30 [a]
def Ml:=fL λa=>mg λb=>asf 31 [a,b]
def GR:=cP λa=>me 32 [a]
def KX:=cS λa=>cS λb=>cA λc=>fS 33 [a,b,c]
def Sr:=cS λa=>cS λb=>fS 34 [a,b]
def Gg:=cS λa=>cS λb=>cA λc=>fS 35 [a,b,c]
def Ao:=fL λa=>xx 36 [a]
def Ln:=fL λa=>ase 37 [a]
def CW:=fL λa=>fS 38 [a]
def Lm:=fL λa=>iN λb=>fS 39 [a,b]
def Mk(Ds Dr:Sl)(h:Hp)(K:iP)(Kp:PK):=dW aG 41 [(.agg #[(Sl.v Ds),(Sl.v Dr)])] h (xQ nJ K) Kp
def CY:=iN λa=>cI λb=>eR 42 [a,b]
def wJ:=fL λa=>iN λb=>fS 43 [a,b]
def GH:=cP λa=>iN λb=>eR 44 [a,b]
def At:=cS λa=>cI λb=>cI λc=>me 45 [a,b,c]
def KU:=fL λa=>mg λb=>xx 46 [a,b]
def KS:=fL λa=>mg λb=>cP λc=>fR5 47 [a,b,c]
def Gf:=fL λa=>Oj 48 [a]
def Ge:=mg λa=>sP 49 [a]
def Sq:=cP λa=>rJ 50 [a]
def Mh(Ds Dr:Sl)(h:Hp)(K:iP)(Kp:PK):=dW aG 51 [(.agg #[(Sl.v Ds),(Sl.v Dr)])] h (xQ nJ K) Kp
def Ll:=fL λa=>aex 52 [a]
def wI:=cP λa=>fL λb=>iN λc=>fS 53 [a,b,c]
def Ax:=cS λa=>cS λb=>cB λc=>cS λd=>me 54 [a,b,c,d]
def L8:=cS λa=>cI λb=>eR 55 [a,b]
def GC:=fL λa=>fS 56 [a]
def Li:=cI λa=>fS 57 [a]
def Lh:=cI λa=>cI λb=>fS 58 [a,b]
def Mj:=cT λa=>fS 59 [a]
def Lg:=vE λa=>iN λb=>fS 60 [a,b]
def Lf:=cP λa=>iN λb=>eR 61 [a,b]
def GB:=cP λa=>eR 62 [a]
def Tc:=cP λa=>iN λb=>eR 63 [a,b]
def mz:=cI λa=>cI λb=>xx 64 [a,b]
def Az:=fL λa=>mg λb=>asd 65 [a,b]
def Mp:=cI λa=>fR8 66 [a]
def Th:=cS λa=>me 67 [a]
def LF:=cS λa=>me 68 [a]
def GW:=cS λa=>me 69 [a]
def ZZ:=cA λa=>cD λb=>qJ 70 [a,b]
def KQ:=cP λa=>cI λb=>asb 71 [a,b]
def Tk:=cS λa=>cI λb=>rJ 72 [a,b]
def L6:=auH λa=>cI λb=>cM λc=>eR 73 [a,b,c]
def tH:=fL λa=>eR 74 [a]
def tG:=fL λa=>IU 75 [a]
def CU:=fL λa=>fS 76 [a]
def Le:=cP λa=>vE λb=>cS λc=>fS 77 [a,b,c]
def LA:=cT λa=>fS 78 [a]
def Lb:=cI λa=>fS 79 [a]
def tF:=cI λa=>cI λb=>fS 80 [a,b]
def LX:=cT λa=>fS 81 [a]
def LW:=vE λa=>fS 82 [a]
def LV:=fL λa=>fS 83 [a]
def L7:=cT λa=>cI λb=>eR 84 [a,b]
def CV:=iN λa=>iN λb=>fS 85 [a,b]
def qZ:=cP λa=>eR 86 [a]
def GA:=cI λa=>eR 87 [a]
def Mg:=fL λa=>mg λb=>xx 88 [a,b]
def Mf:=fL λa=>mg λb=>xx 89 [a,b]
def Mn:=mg λa=>me 90 [a]
def ahn:=fL λa=>cI λb=>Oj 91 [a,b]
def awB:=mg λa=>xx 92 [a]
def Me:=fL λa=>mg λb=>cS λc=>me 93 [a,b,c]
def Mo:=cP λa=>cI λb=>cP λc=>IU 95 [a,b,c]
def ZY:=cA λa=>cD λb=>cD λc=>qJ 96 [a,b,c]
def Ti:=cS λa=>cS λb=>cB λc=>cD λd=>cD λe=>cD λf=>fS 97 [a,b,c,d,e,f]
def LD:=cS λa=>me 98 [a]
def LU:=cT λa=>fS 99 [a]
def LC:=cS λa=>cA λb=>fS 100 [a,b]
def ZX:=fL λa=>cD λb=>fS 101 [a,b]
def LS:=vE λa=>fS 102 [a]
def LR:=fL λa=>fS 103 [a]
def ahm:=cT λa=>cI λb=>asa 104 [a,b]
def tJ:=cT λa=>XK 105 [a]
def uL:=cI λa=>ar9 106 [a]
def LL(c:Int)(h:Hp)(K:bG)(Kp:PK):=dW aG 107 [(.int .u8 c)] h (xQ dz K) Kp
def uM:=fL λa=>eR 108 [a]
def Lj:=fL λa=>aex 109 [a]
def L5:=vE λa=>ar8 110 [a]
def L4:=vE λa=>cI λb=>cI λc=>cI λd=>eR 111 [a,b,c,d]
def L3:=fL λa=>mg λb=>xx 112 [a,b]
def awA:=fL λa=>mg λb=>xx 113 [a,b]
def L0:=cS λa=>cI λb=>eR 114 [a,b]
def GV:=fL λa=>mg λb=>cI λc=>fS 115 [a,b,c]
def awz:=fL λa=>mg λb=>cI λc=>eR 116 [a,b,c]
def Tj:=cS λa=>cI λb=>cI λc=>me 117 [a,b,c]
def Mb:=cP λa=>cI λb=>cP λc=>IU 118 [a,b,c]
def LK(c:Int)(h:Hp)(K:bG)(Kp:PK):=dW aG 119 [(.int .u8 c)] h (xQ dz K) Kp
def Tf:=cS λa=>cA λb=>eR 120 [a,b]
def GQ:=cI λa=>fS 121 [a]
def La:=fL λa=>fS 128 [a]
def yI:=fL λa=>cI λb=>eR 129 [a,b]
def yH:=fL λa=>IU 130 [a]
def C2:=vE λa=>fS 131 [a]
def LQ:=vE λa=>me 132 [a]
def LP:=cI λa=>eR 133 [a]
def LN:=vE λa=>eR 134 [a]
def KR:=fL λa=>mg λb=>eR 135 [a,b]
def GU:=cI λa=>fS 137 [a]
def Mc:=cS λa=>cI λb=>ar7 138 [a,b]
def LM:=cI λa=>eR 139 [a]
def Gd:=cP λa=>cI λb=>fS 140 [a,b]
def C3:=cP λa=>cI λb=>qJ 141 [a,b]
def LJ:=vE λa=>Oj 147 [a]
def GP:=cS λa=>me 148 [a]
def LZ:=cS λa=>cI λb=>fS 150 [a,b]
def wK:=cP λa=>cI λb=>XJ 151 [a,b]
def GS:=BD λa=>cI λb=>ar6 152 [a,b]
def LB:=cS λa=>me 155 [a]
def Ma:=cS λa=>XJ 156 [a]
def L9:=BD λa=>cP λb=>XJ 157 [a,b]
def C5:=BD λa=>cI λb=>cI λc=>fS 158 [a,b,c]
def C4:=BD λa=>cI λb=>cI λc=>me 159 [a,b,c]
def Tb:=cP λa=>eR 178 [a]
def Ta:=cP λa=>sP 179 [a]
def S9:=cP λa=>rJ 180 [a]
def Gz:=cP λa=>iN λb=>eR 181 [a,b]
def SZ:=cP λa=>eR 182 [a]
def K9:=cP λa=>eR 183 [a]
def gZ:=cP λa=>cS λb=>sP 184 [a,b]
def qY:=cP λa=>rJ 185 [a]
def nx:=cP λa=>cB λb=>eR 186 [a,b]
def mA:=cP λa=>cI λb=>eR 187 [a,b]
def SY:=cD λa=>cD λb=>cD λc=>qJ 188 [a,b,c]
def SX:=cP λa=>sP 189 [a]
def SW:=cP λa=>rJ 190 [a]
def Gy:=cP λa=>iN λb=>eR 191 [a,b]
def K8:=cP λa=>eR 192 [a]
def qX:=cP λa=>me 193 [a]
def oQ:=cS λa=>cI λb=>me 194 [a,b]
def Aq:=cS λa=>me 195 [a]
def SV:=cD λa=>cD λb=>cD λc=>cD λd=>qJ 196 [a,b,c,d]
def SU:=cP λa=>sP 197 [a]
def SR:=cP λa=>rJ 198 [a]
def Gw:=cP λa=>iN λb=>eR 199 [a,b]
def K7:=cP λa=>eR 200 [a]
def SQ:=cD λa=>cD λb=>cD λc=>cD λd=>qJ 201 [a,b,c,d]
def SP:=cP λa=>sP 202 [a]
def SO:=cP λa=>rJ 203 [a]
def Gv:=cP λa=>iN λb=>eR 204 [a,b]
def K5:=cP λa=>eR 205 [a]
def SN:=cD λa=>cD λb=>qJ 206 [a,b]
def SM:=cP λa=>sP 207 [a]
def SL:=cP λa=>rJ 208 [a]
def Gu:=cP λa=>iN λb=>eR 209 [a,b]
def K4:=cP λa=>eR 210 [a]
def Gt:=cS λa=>me 211 [a]
def Gr:=cS λa=>rJ 212 [a]
def SK:=cD λa=>cD λb=>qJ 213 [a,b]
def Ar:=cS λa=>eR 214 [a]
def SJ:=cD λa=>qJ 215 [a]
def SI:=cP λa=>sP 216 [a]
def SH:=cP λa=>rJ 217 [a]
def Gq:=cP λa=>iN λb=>eR 218 [a,b]
def K3:=cP λa=>eR 219 [a]
def SG:=cD λa=>cD λb=>cD λc=>cD λd=>qJ 220 [a,b,c,d]
def Gp:=cP λa=>cI λb=>cA λc=>eR 221 [a,b,c]
def SF:=cA λa=>cD λb=>eR 222 [a,b]
def SE:=cP λa=>sP 223 [a]
def SD:=cP λa=>rJ 224 [a]
def Gn:=cP λa=>iN λb=>eR 225 [a,b]
def K1:=cP λa=>eR 226 [a]
def wH:=cI λa=>eR 227 [a]
def SC:=cD λa=>cD λb=>cD λc=>cD λd=>cD λe=>qJ 228 [a,b,c,d,e]
def CT:=iN λa=>XK 229 [a]
def K0:=cP λa=>iN λb=>eR 230 [a,b]
def Gm:=cP λa=>eR 231 [a]
def wG:=iN λa=>IU 232 [a]
def Au:=iN λa=>eR 233 [a]
def Gl:=cP λa=>iN λb=>qJ 234 [a,b]
def CS:=iN λa=>iN λb=>fS 235 [a,b]
def CR(hv:PA)(c:Int)(h:Hp)(K:iY)(Kp:PK):=dW aG 236 [(.pointer hv),(.int .u8 c)] h (xQ kK K) Kp
def CQ(hv:PA)(x:Int)(h:Hp)(K:iY)(Kp:PK):=dW aG 237 [(.pointer hv),(.int .u64 x)] h (xQ kK K) Kp
def SB:=cP λa=>sP 238 [a]
def SA:=cP λa=>rJ 239 [a]
def Gk:=cP λa=>iN λb=>eR 240 [a,b]
def KZ:=cP λa=>eR 241 [a]
def Sy:=cD λa=>cD λb=>cD λc=>cD λd=>cD λe=>cD λf=>qJ 242 [a,b,c,d,e,f]
def Sx:=cP λa=>sP 243 [a]
def Sw:=cP λa=>rJ 244 [a]
def Gj:=cP λa=>iN λb=>eR 245 [a,b]
def Su:=cP λa=>eR 246 [a]
def KY:=cS λa=>cI λb=>me 247 [a,b]
def Ss:=cD λa=>cD λb=>cD λc=>qJ 248 [a,b,c]
def LI:=BD λa=>cI λb=>cI λc=>ar4 252 [a,b,c]
def Mm:=BD λa=>cI λb=>cI λc=>ar5 253 [a,b,c]
def Ay:=BD λa=>cI λb=>cI λc=>ar3 254 [a,b,c]
def Aw:=cI λa=>fS 255 [a]
def LY:=cS λa=>XK 256 [a]
def LH:=cP λa=>cI λb=>cI λc=>eR 263 [a,b,c]
def LG(a:PA)(r:Int)(left:PA)(h:Hp)(K:qp)(Kp:PK):=dW aG 266 [(.agg #[]),(.pointer a),(ah r),(.pointer left)] h (xQ tO K) Kp
section
variable{a b c d e f g i j k l m ja jb jc jd je jg jh jk:Int}{n o p q r s t u v w qa qb qc qd qe qf qg qh:Addr}{A B C D E F G sa sb sc sd se sf sg sh:Sl}{P Q R S T U:PA}{x y z ya yb yc yd ye yf:Bool}{V W X wa wb wc wd we wf:BA}{Y Z va vb vc vd ve vf:Value}{M O:Option Nat}{h:Hp}{Kp:PK}{N1 N2 N3:Fr->HP}
noncomputable def zG:=mc aG Tryz.f3 (am [(2000004,230),(2000005,2020),(2000006,8164),(2000007,32736),(47008,1125899906873632),(47013,36028797018994688),(47018,1152921504606857216)]) [] dz
def Ko:=rK zG 6 254 [.d,.d,.b]
def Kq:=rK zG 5 254 [.d,tI,.d,tI,.b]
def Kr:=rK zG 4 254 [.d,.d,.d,tI,.d,tI,.b]
def R1:=jK zG 3 127 [.d,tI,tI,.d,tI,tI,.d,tI,.d,tI]
def R2:=jK zG 2 63 [.d,.d,tI,tI,.d,tI,tI,.d,tI]
def R3:=jK zG 1 31 [.d,.d,tI,tI,.d,tI,tI]
def R4:=jK zG 0 15 [.s,.d,.d,tI,tI]
theorem Ko.of{K:bG}(H:
 If x (bY h n λa b c d e f=>bY h o λg i j k l m=>C1 a b c d e f g i j k l m h (λa b=>K a b) Kp) (K false h)):
 Ko K Kp n o x h:=jf H
theorem Kq.of{K:bG}(H:
 If x (Ko K Kp n o (a==b) h) (Ko K Kp n o false h)):
 Kq K Kp n a o b x h:=jf H
theorem Kr.of{K:bG}(H:
 If x (bY h n λc d e f g i=>bY h o λj k l m n r=>C1 c d e f g i j k l m n r h (λc d=>Kq K Kp p a q b c d) Kp) (Kq K Kp p a q b false h)):
 Kr K Kp n o p a q b x h:=jf H
theorem R1.of{K:bG}(H:
 If (a==c) (Kr K Kp n o p e q f (b==d) h) (Kr K Kp n o p e q f false h)):
 R1 K Kp n a b o c d p e q f h:=jf H
theorem R2.of{K:bG}(H:
 bP h n λf g i j k l m=>yJ f g i j k l m bM h (λf g i j k l m _ n=>aL n cY cg λn r=>cJ r n f g i j k l λf=>R1 K Kp o a b p c d q e n m f) Kp):
 R2 K Kp n o a b p c d q e h:=jf H
theorem R3.of{K:bG}(H:
 bP h n λe f g i j k l=>Td e f g i j k l h (λe f g i j k l m=>aL m cY cg λm q=>cJ q m e f g i j k λe=>R2 K Kp n o a b p c d m l e) Kp):
 R3 K Kp n o a b p c d h:=jf H
theorem R4.of{K:bG}(H:
 bP h n λc d e f g i j=>yJ c d e f g i j A h (λc d e f g i j k l=>aL l cY cg λl m=>cJ m l c d e f g i λc=>R3 K Kp n o a b l j k c) Kp):
 R4 K Kp A n o a b h:=jf H
theorem Te.of{K:bG}(H:
 fV h V x a b c d A λa b=>Lz  b (λb c=>If (!b) (K false c) (bP c a λb d e f g i j=>qw b d e f g i j B c (λb c d e f g i j k=>aL k cY cg λk l=>cJ l k b c d e f g λb=>R4 K Kp B a k i j b) Kp)) Kp):
 Te V x a b c d A B h K Kp:=cK (zG K Kp) dz K Tryz.func3 H
noncomputable def vF:=mc aG Tryz.f4 (am [(2000003,14),(2000004,206),(44007,17179869382),(44012,549755814086),(44018,35184372089030),(44026,9007199254741190),(44034,2305843009213694150),(44038,36893488147419103366),(44042,590295810358705651718)]) [] dz
def Kh:=rK vF 8 62 [.d,.d,.b]
def Ki:=rK vF 7 62 [.d,.d,tI,.b]
def Kj:=rK vF 6 62 [.d,.d,tI,tI,.b]
def Kk:=rK vF 5 62 [.d,.d,tI,tI,.b]
def Kl:=rK vF 4 62 [.d,.d,tI,tI,.b]
def Km:=rK vF 3 62 [.d,.d,tI,tI,.b]
def Kn:=rK vF 2 62 [.d,.d,tI,tI,.b]
def RZ:=jK vF 1 31 [.d,.d,tI,tI,tI]
def R0:=jK vF 0 15 [.d,.d,tI]
theorem Kh.of{K:bG}(H:
 If x (bP h n λa b c d e f g=>bY h o λi j k l m n=>Lx a b c d e f g i j k l m n h (λa b=>K a b) Kp) (K false h)):
 Kh K Kp n o x h:=jf H
theorem Ki.of{K:bG}(H:
 If x (Kh K Kp n o (a==1) h) (Kh K Kp n o false h)):
 Ki K Kp n o a x h:=jf H
theorem Kj.of{K:bG}(H:
 If x (Ki K Kp n o b (a==7) h) (Ki K Kp n o b false h)):
 Kj K Kp n o a b x h:=jf H
theorem Kk.of{K:bG}(H:
 If x (Ld h (o.add 3) Sl.v λc=>Ix c.a c.n 1 1 λc=>Ld h c Sl.v λc=>sx h c λc=>Kj K Kp n o a b (c.toList==(bs [254,255,0,0]).toList) h) (Kj K Kp n o a b false h)):
 Kk K Kp n o a b x h:=jf H
theorem Kl.of{K:bG}(H:
 If x (Ld h (o.add 3) Sl.v λc=>Ix c.a c.n 1 0 λc=>Ld h c Sl.v λc=>sx h c λc=>Kk K Kp n o a b (c.toList==(bs [1]).toList) h) (Kk K Kp n o a b false h)):
 Kl K Kp n o a b x h:=jf H
theorem Km.of{K:bG}(H:
 If x (Ld h (o.add 3) Sl.v λc=>Kl K Kp n o a b ((c.n:Int)==2) h) (Kl K Kp n o a b false h)):
 Km K Kp n o a b x h:=jf H
theorem Kn.of{K:bG}(H:
 If x (Ld h (o.add 2) mI λc=>Km K Kp n o a b (c==1) h) (Km K Kp n o a b false h)):
 Kn K Kp n o a b x h:=jf H
theorem RZ.of{K:bG}(H:
 If (a==0) (Ld h o mI λa=>Kn K Kp n o b c (a==2) h) (Kn K Kp n o b c false h)):
 RZ K Kp n o a b c h:=jf H
theorem R0.of{K:bG}(H:
 bP h n λb c d e f g i=>aL h #[(.bool false),(ah 1),(.string (bs [])),(.slice none 0 0),(.bool false),(ah 40000),(.string (bs [])),(.slice none 0 0)] di λj k=>qw b c d e f g i (⟨some j,2,2⟩:Sl) k (λb c d e f g i j k=>aL k cY cg λk l=>cJ l k b c d e f g λb=>RZ K Kp n o a i j b) Kp):
 R0 K Kp n o a h:=jf H
theorem Lz.of{K:bG}(H:
 aL h mV iI λa b=>kg b a (bs [97]) true 4 0 0 0 bM λb=>bP b a λc d e f g i j=>aL b #[(.bool false),(ah (-2)),(.string (bs [])),(.slice none 0 0),(.bool true),(ah 0),(.string (bs [])),(.slice none 0 0)] di λb k=>qw c d e f g i j (⟨some b,2,2⟩:Sl) k (λb c d e f g i _ j=>aL j cY cg λj k=>cJ k j b c d e f g λb=>R0 K Kp a j i b) Kp):
 Lz  h K Kp:=cK (vF K Kp) dz K Tryz.func4 H
noncomputable def X9:=mc aG Tryz.f5 (am [(2000011,144),(2005,58720400)]) [] HZ
def RY:=jK X9 0 31 [.d,.p]
def V6:=fK 45 [4,7,23,24,25] [.d,.p,.s,tI,tI]
def QJ:=lK X9 2005 122 V6
theorem RY.of{K:EX}(H:
 Lu P h (λa b c d e f _ g=>aL g cY cg λg i=>cJ i g a b c d e f λa=>bY a g λb c d e f g=>cJ a n b c d e f g λa=>bY a n λb c d e f g=>K b c d e f g 0 0 a) Kp):
 RY K Kp n P h:=jf H
theorem QJ.bC{K:EX}:eX (A0:=Int) (QJ K Kp n P A a) (V6 n P A a) λb c d=>(aW (c<a) (Ix A.a A.n 4 c λe=>bN d e λe f g i=>aL d gl di λd j=>dK j d e f g i λe=>bN e d λd f g i=>Lw P d f g i e (λd e=>If (d !=0) (cJ e n 0 0 0 bM bM bM λa=>bY a n λb e f g i j=>K b e f g i j d c a) (aP (c+1) λc=>b (V6 n P A a c) e)) Kp) (RY K Kp n P d)):=ff
theorem qw.of{K:EX}(H:
 fV h V x a b c d A λa b=>aL b cY cg λb c=>bP c a λa d e f g i j=>C0 a d e f g i j c (λa c d=>If (c !=0) (cJ d b 0 0 0 bM bM bM λa=>bY a b λb d e f g i=>K b d e f g i c 0 a) (QJ K Kp b a B (B.n:Int) 0 d)) Kp):
 qw V x a b c d A B h K Kp:=cK (X9 K Kp) HZ K Tryz.func5 H
noncomputable def afF:=mc aG Tryz.f6 (am [(2005,402)]) [] HZ
def V5:=fK 35 [1,4,7,8] [.s,.d,.p,tI]
def QH:=lK afF 2005 122 V5
theorem QH.bC{K:EX}:eX (A0:=Int) (QH K Kp A n P) (V5 A n P) λa b c=>(aW (b<(A.n:Int)) (Ix A.a A.n 4 b λd=>bN c d λd e f g=>Lr P d e f g c (λc d=>If (c !=0) (cJ d n 0 0 0 bM bM bM λa=>bY a n λd e f g i j=>K d e f g i j c b a) (aP (b+1) λb=>a (V5 A n P b) d)) Kp) (GL P c (λa b c d e f g=>cJ g n a b c d e f λa=>bY a n λb c d e f g=>K b c d e f g 0 0 a) Kp)):=ff
theorem yJ.of{K:EX}(H:
 fV h V x a b c d A λa b=>aL b cY cg λb c=>bP c a λd e f g i j k=>KW d e f g i j k c (λc d=>If (!c) (cJ d b 0 0 0 bM bM bM λa=>bY a b λb c d e f g=>K b c d e f g 5 0 a) (bP d a λa c e f g i j=>GM a c e f g i j d (λa c=>QH K Kp B b a 0 c) Kp)) Kp):
 yJ V x a b c d A B h K Kp:=cK (afF K Kp) HZ K Tryz.func6 H
theorem Td.of{K:PM}(H:
 fV h V x a b c d A λa b=>aL b cY cg λb c=>bP c a λa d e f g i j=>qw a d e f g i j bM c (λa c d e f g i _ j=>aL j cY cg λj k=>cJ k j a c d e f g λa=>bY a j λc d e f g j=>cJ a b c d e f g j λa=>bY a b λb c d e f g=>K b c d e f g i a) Kp):
 Td V x a b c d A h K Kp:=c9 Ni K Tryz.func7 H
noncomputable def Er:=mc aG Tryz.f8 (am [(2000003,12),(2000008,12),(2004,44),(41012,131084),(41019,16777228)]) [(6,(OT.l [0,1,2,3,4,6,7,8,9,10] (.alt (OT.l [5,11,12] .fin) (OT.l [11,5,12] .fin))))] dz
def RW:=jK Er 1 15 [.d,.d]
def Ii:=fK 66 [2,3,5] [.d,.d,tI]
def QI:=lK Er 2004 58 Ii
def RX:=jK Er 0 7 [.d,.d]
def Kf:=rK Er 4 12 [.d,.d,.b]
def Kg:=rK Er 3 12 [.d,.d,.b]
theorem RW.of{K:bG}(H:
 Ld h (n.add 4) Sl.v λa=>Ld h (o.add 4) Sl.v λb=>GO a b h (λa b=>If a (Ld b (n.add 5) Sl.v λa=>Ld b (o.add 5) Sl.v λc=>GO a c b (λa b=>K a b) Kp) (K false b)) Kp):
 RW K Kp n o h:=jf H
theorem QI.bC{K:bG}:eX (A0:=Int) (QI K Kp n o) (Ii n o) λa b c=>(Ld c (n.add 3) Sl.v λd=>aW (b<(d.n:Int)) (Ld c (n.add 3) Sl.v λd=>Ix d.a d.n 1 b λd=>Ld c d Sl.v λe=>Ld c (o.add 3) Sl.v λf=>Ix f.a f.n 1 b λf=>Ld c f Sl.v λg=>(sx c e λe=>aT c c f 1 <|aT c c (o.add 3) 1 <|sx c g λf=>aT c c d 1 <|aT c c (n.add 3) 1 <|If (!(e.toList==f.toList)) (K false c) (aP (b+1) λb=>a (Ii n o b) c))/\(sx c g λg=>aT c c d 1 <|aT c c (n.add 3) 1 <|sx c e λd=>aT c c f 1 <|aT c c (o.add 3) 1 <|If (!(d.toList==g.toList)) (K false c) (aP (b+1) λb=>a (Ii n o b) c))) (RW K Kp n o c)):=ff
theorem RX.of{K:bG}(H:
 QI K Kp n o 0 h):
 RX K Kp n o h:=jf H
theorem Kf.of{K:bG}(H:
 If x (K false h) (Ld h (n.add 3) Sl.v λa=>Ld h (o.add 3) Sl.v λb=>If ((a.n:Int)!=(b.n:Int)) (K false h) (RX K Kp n o h))):
 Kf K Kp n o x h:=jf H
theorem Kg.of{K:bG}(H:
 If x (Kf K Kp n o true h) (Ld h (n.add 2) mI λa=>Ld h (o.add 2) mI λb=>Kf K Kp n o (a !=b) h)):
 Kg K Kp n o x h:=jf H
theorem C1.of{K:bG}(H:
 n8 h a b c A B C λa b=>n8 b d e f D E F λb c=>Ld c a mI λd=>Ld c b mI λe=>If (d !=e) (Kg K Kp a b true c) (Ld c (a.add 1) mI λd=>Ld c (b.add 1) mI λe=>Kg K Kp a b (d !=e) c)):
 C1 a b c A B C d e f D E F h K Kp:=cK (Er K Kp) dz K Tryz.func8 H
theorem Lx.of{K:bG}(H:
 fV h V x a b c d A λa b=>n8 b e f g B C D λb c=>bP c a λa d e f g i j=>bY c b λk l m n p q=>Ly a d e f g i j k l m n p q c (λa c d e f g i j=>aL j cY cg λj k=>cJ k j a c d e f g λa=>If (i==0) (bY a j λc d e f g i=>bY a b λb j k l m n=>GN c d e f g i b j k l m n a (λa b=>K a b) Kp) (K false a)) Kp):
 Lx V x a b c d A e f g B C D h K Kp:=c9 dz K Tryz.func9 H
theorem C0.of{K:TR3}(H:
 fV h V x a b c d A λa b=>bP b a λc d e f g i j=>CZ c d e f g i j b (λb c=>If (!b) (K none 5 c) (bP c a λa b d e f g i=>GK a b d e f g i c (λa b c d e f g i=>aL i mV iI λi j=>kg j i a b c d e f g λa=>bP a i λb c d e f g j=>bP a i λk l m n p q r=>GJ k l m n p q r a (λk l=>aT a l i 7 <|NA k <|awb l b c d e f g j k false λa b=>K (some a) 0 b) Kp) Kp)) Kp):
 C0 V x a b c d A h K Kp:=c9 qR3 K Tryz.func10 H
theorem Lw.of{K:bT}(H:
 iK h x a V A λa b=>NN P λc=>Ld b (c.add 8) .bool λc=>If c (K 9 b) (NN P λc=>bP b c λc d e f g i j=>bN b a λk l m n=>Lq c d e f g i j k l m n b (λb c=>If (b !=0) (K b c) (bN c a λa b d e=>Lp P a b d e c (λa b=>K a b) Kp)) Kp)):
 Lw P x a V A h K Kp:=c9 dm K Tryz.func11 H
theorem Lu.of{K:PM}(H:
 aL h cY cg λa b=>NN P λc=>Ld b (c.add 8) .bool λc=>If c (cJ b a 0 0 0 bM bM bM λb=>bY b a λa c d e f g=>K a c d e f g 9 b) (NN P λc=>St b (c.add 8) (.bool true) λb=>NN P λc=>Ld b (c.add 7) id λc=>fo aG c "colonnade/build.done" [] b (λb c=>∃d:Int,∃e:Int,∃f:Int,∃g:Sl,∃i:Sl,∃j:Sl,b=(.agg #[(ah d),(ah e),(ah f),(Sl.v g),(Sl.v i),(Sl.v j)])/\(cJ c a d e f g i j λb=>bY b a λa c d e f g=>K a c d e f g 0 b)) Kp)):
 Lu P h K Kp:=c9 Ni K Tryz.func12 H
theorem KW.of{K:bG}(H:
 fV h V x a b c d A λa b=>bP b a λa c d e f g i=>Ga a c d e f g i b (λa _ _ b=>K (a==0) b) Kp):
 KW V x a b c d A h K Kp:=c9 dz K Tryz.func13 H
noncomputable def Jf:=mc aG Tryz.f14 (am [(2000007,24),(3809999,35184372088840),(47008,1099511627800),(2004,56)]) [] Ng
def FL:=jK Jf 1 125 [.d,.b]
def FK:=rK Jf 2 124 [.d,.d,.b]
def RV:=jK Jf 0 31 [.d,.d]
def V0:=fK 56 [3,4,5] [.d,.d,tI]
def QE:=lK Jf 2004 122 V0
theorem FL.of{K:Cd}(H:
 If x (Ld h (n.add 13) Sl.v λa=>aL h #[(ah 0)] Y6 λb c=>Ap c Y6 #[(ah 0)] 1 8 a 1 (rd c (some b) (1*1)) λa b=>St b (n.add 13) (Sl.v a) λa=>K (some n) a) (K (some n) h)):
 FL K Kp n x h:=jf H
theorem FK.of{K:Cd}(H:
 If x (FL K Kp n true h) (Ld h o mI λa=>FL K Kp n (a==15) h)):
 FK K Kp n o x h:=jf H
theorem RV.of{K:Cd}(H:
 Ld h o mI λa=>If (a==12) (FK K Kp n o true h) (Ld h o mI λa=>FK K Kp n o (a==13) h)):
 RV K Kp n o h:=jf H
theorem QE.bC{K:Cd}:eX (A0:=Int) (QE K Kp n o) (V0 n o) λa b c=>(Ld c (o.add 4) Sl.v λd=>aW (b<(d.n:Int)) (Ld c (n.add 18) Sl.v λd=>Ld c (o.add 4) Sl.v λe=>Ix e.a e.n 7 b λe=>bP c e λe f g i j k l=>GM e f g i j k l c (λe f=>aT c f (n.add 18) 1 <|aL f #[(.pointer e)] ET λc e=>aT f e (n.add 18) 1 <|Ap e ET #[(.pointer none)] 1 8 d 1 (rd e (some c) (1*1)) λc d=>St d (n.add 18) (Sl.v c) λc=>aP (b+1) λb=>a (V0 n o b) c) Kp) (RV K Kp n o c)):=ff
theorem GM.of{K:Cd}(H:
 fV h V x a b c d A λa b=>bP b a λc d e f g i j=>awa b c d e f g i j 0 0 0 bM bM bM bM bM bM bM bM bM λb c=>gX c (a.add 2) λa d e f g=>aL c oU kH λc i=>lW i c a d e f g λa=>QE K Kp b c 0 a):
 GM V x a b c d A h K Kp:=cK (Jf K Kp) Ng K Tryz.func14 H
theorem Lr.of{K:bT}(H:
 iK h x a V A λa b=>NN P λc=>bP b c λc d e f g i j=>bN b a λk l m n=>Lo c d e f g i j k l m n b (λb c=>If (!b) (K 7 c) (bN c a λa b d e=>q8 P a b d e c (λa b=>K a b) Kp)) Kp):
 Lr P x a V A h K Kp:=c9 dm K Tryz.func15 H
noncomputable def Ep:=mc aG Tryz.f16 (am [(2000006,61),(2000011,125),(4900021,4835703854919269002248317),(5600028,5192296858534828204991248632643709),(2008,253)]) [(20,(OT.l [0,1,2,3,4,6,7,8,9,10,5,11,12,13,14] .fin)),(30,(OT.l [0,1,2,3,4,6,7,8,9,5,10,11,12,13] .fin)),(36,(OT.l [0,1,2,3,4,6,7,8,9] (.alt (OT.l [5] (.alt (OT.l [10] (.alt (OT.l [11,12,13,14] .fin) (OT.l [13,11,12,14] .fin))) (OT.l [13,10,11,12,14] .fin))) (OT.l [] (.alt (OT.l [10] (.alt (OT.l [5] (.alt (OT.l [11,12,13,14] .fin) (OT.l [13,11,12,14] .fin))) (OT.l [13,5,11,12,14] .fin))) (OT.l [13] (.alt (OT.l [5,10,11,12,14] .fin) (OT.l [10,5,11,12,14] .fin))))))))] lZ
def yD:=jK Ep 3 1046015 [.p,.d,.d,.d,.s,.s,tI,.b]
def FI:=jK Ep 2 65375 [.p,.d,.d,.d,.s,.s,tI,.b]
def FJ:=jK Ep 1 255 [.p,.d,.d,.d,.s,.s]
def VZ:=fK 175 [0,2,3,4,5,6,7] [.p,.d,.d,.d,.s,.s,tI]
def QD:=lK Ep 2008 1018 VZ
def CA:=jK Ep 0 63 [.p,.d,.d,.d,.s]
def qq(n p:Addr)(B:Sl)(K:jI)(x:Int)(h:Hp)(f c:Addr):Prop:=
 cJ h f x 0 0 (⟨some c,2,2⟩:Sl) bM bM λa=>bY a f λb c d e f g=>Ix B.a B.n 6 0 λi=>bY a i λi j k l m q=>aL a #[(ah b),(ah c),(ah d),(Sl.v e),(Sl.v f),(Sl.v g),(ah i),(ah j),(ah k),(Sl.v l),(Sl.v m),(Sl.v q)] cg λa b=>St b (p.add 4) (.slice (some a) 2 2) λa=>bY a p λb c d e f g=>cJ a n b c d e f g λa=>bY a n λb c d e f g=>K b c d e f g a
theorem yD.of{K:jI}(H:
 If x (aL h #[(Sl.v A)] fI λa b=>St b (p.add 3) (.slice (some a) 1 1) λa=>St a (p.add 4) (Sl.v B) λa=>bY a p λb c d e f g=>cJ a n b c d e f g λa=>bY a n λb c d e f g=>K b c d e f g a) (If (a==18) (aL h #[] Y8 λa b=>NN P λc=>Ld b (c.add 11) Sl.v λc=>NN P λd=>Ld b (d.add 13) Sl.v λe=>Ap b Y8 #[(.int .u8 0)] 1 1 (⟨some a,0,0⟩:Sl) c.n (rd b c.a (c.n*1)) λa c=>aT b c (d.add 13) 1 <|qv e 4 c (λb c=>aL c #[(Sl.v a),(Sl.v b)] fI λa b=>St b (p.add 3) (.slice (some a) 2 2) λa=>St a (p.add 4) (Sl.v B) λa=>bY a p λb c d e f g=>cJ a n b c d e f g λa=>bY a n λb c d e f g=>K b c d e f g a) Kp) (If (a==19) (NN P λa=>Ld h (a.add 15) Sl.v λb=>Ld h (o.add 3) mI λc=>CX c h (λc d=>aT h d (a.add 15) 1 <|qv b c d (λa b=>aL b #[(Sl.v A),(Sl.v a)] fI λa b=>St b (p.add 3) (.slice (some a) 2 2) λa=>St a (p.add 5) (Sl.v B) λa=>bY a p λb c d e f g=>cJ a n b c d e f g λa=>bY a n λb c d e f g=>K b c d e f g a) Kp) Kp) (If (a==20) (NN P λa=>Ld h (a.add 16) Sl.v λb=>NN P λc=>Ld h (c.add 16) Sl.v λd=>(aL h #[] Y8 λe f=>aT h f (c.add 16) 1 <|aT h f (a.add 16) 1 <|(qv d 4 f (λd g=>aT f g (a.add 16) 1 <|(aL g #[(.slice (some e) 0 0),(Sl.v d)] fI λd e=>aT g e (a.add 16) 1 <|aL e cY cg λf g=>aT e g (c.add 16) 1 <|aT e g (a.add 16) 1 <|qq n p B K (b.n:Int) g f d)/\(aL g cY cg λf i=>aT g i (c.add 16) 1 <|aT g i (a.add 16) 1 <|aL i #[(.slice (some e) 0 0),(Sl.v d)] fI λc d=>aT i d (a.add 16) 1 <|qq n p B K (b.n:Int) d f c)) Kp)/\(aL f cY cg λg i=>aT f i (c.add 16) 1 <|aT f i (a.add 16) 1 <|qv d 4 i (λc d=>aT i d (a.add 16) 1 <|aL d #[(.slice (some e) 0 0),(Sl.v c)] fI λc e=>aT d e (a.add 16) 1 <|qq n p B K (b.n:Int) e g c) Kp))/\((qv d 4 h (λd e=>aT h e (a.add 16) 1 <|(aL e #[] Y8 λf g=>aT e g (c.add 16) 1 <|aT e g (a.add 16) 1 <|(aL g #[(.slice (some f) 0 0),(Sl.v d)] fI λd e=>aT g e (a.add 16) 1 <|aL e cY cg λf g=>aT e g (c.add 16) 1 <|aT e g (a.add 16) 1 <|qq n p B K (b.n:Int) g f d)/\(aL g cY cg λe i=>aT g i (c.add 16) 1 <|aT g i (a.add 16) 1 <|aL i #[(.slice (some f) 0 0),(Sl.v d)] fI λc d=>aT i d (a.add 16) 1 <|qq n p B K (b.n:Int) d e c))/\(aL e cY cg λf g=>aT e g (c.add 16) 1 <|aT e g (a.add 16) 1 <|aL g #[] Y8 λe i=>aT g i (c.add 16) 1 <|aT g i (a.add 16) 1 <|aL i #[(.slice (some e) 0 0),(Sl.v d)] fI λc d=>aT i d (a.add 16) 1 <|qq n p B K (b.n:Int) d f c)) Kp)/\(aL h cY cg λe f=>aT h f (c.add 16) 1 <|aT h f (a.add 16) 1 <|(aL f #[] Y8 λg i=>aT f i (c.add 16) 1 <|aT f i (a.add 16) 1 <|qv d 4 i (λc d=>aT i d (a.add 16) 1 <|aL d #[(.slice (some g) 0 0),(Sl.v c)] fI λc f=>aT d f (a.add 16) 1 <|qq n p B K (b.n:Int) f e c) Kp)/\(qv d 4 f (λd g=>aT f g (a.add 16) 1 <|aL g #[] Y8 λf i=>aT g i (c.add 16) 1 <|aT g i (a.add 16) 1 <|aL i #[(.slice (some f) 0 0),(Sl.v d)] fI λc d=>aT i d (a.add 16) 1 <|qq n p B K (b.n:Int) d e c) Kp)))) (aL h #[] Y8 λa b=>NN P λc=>Ld b (c.add 12) Sl.v λc=>Ap b Y8 #[(.int .u8 0)] 1 1 (⟨some a,0,0⟩:Sl) c.n (rd b c.a (c.n*1)) λa b=>aL b #[(Sl.v A),(Sl.v a)] fI λa b=>St b (p.add 3) (.slice (some a) 2 2) λa=>bY a p λb c d e f g=>cJ a n b c d e f g λa=>bY a n λb c d e f g=>K b c d e f g a))))):
 yD K Kp P n o p A B a x h:=jf H
theorem FI.of{K:jI}(H:
 If x (aL h #[] Y8 λa b=>NN P λc=>Ld b (c.add 13) Sl.v λc=>NN P λd=>Ld b (d.add 14) Sl.v λe=>qv c 4 b (λc f=>aT b f (d.add 14) 1 <|Ap f Y8 #[(.int .u8 0)] 1 1 (⟨some a,0,0⟩:Sl) e.n (rd f e.a (e.n*1)) λa b=>aL b #[(Sl.v A),(Sl.v c),(Sl.v a)] fI λa b=>St b (p.add 3) (.slice (some a) 3 3) λa=>bY a p λb c d e f g=>cJ a n b c d e f g λa=>bY a n λb c d e f g=>K b c d e f g a) Kp) (If (a==15) (NN P λa=>Ld h (a.add 13) Sl.v λa=>qv a 4 h (λa b=>aL b #[(Sl.v A),(Sl.v a)] fI λa b=>St b (p.add 3) (.slice (some a) 2 2) λa=>St a (p.add 4) (Sl.v B) λa=>bY a p λb c d e f g=>cJ a n b c d e f g λa=>bY a n λb c d e f g=>K b c d e f g a) Kp) (If (a==16) (yD K Kp P n o p A B a (a==16) h) (yD K Kp P n o p A B a (a==17) h)))):
 FI K Kp P n o p A B a x h:=jf H
theorem FJ.of{K:jI}(H:
 Ld h o mI λa=>If (a==1) (bY h p λa b c d e f=>cJ h n a b c d e f λa=>bY a n λb c d e f g=>K b c d e f g a) (If (a==2) (NN P λa=>Ld h (a.add 12) Sl.v λa=>GI a h (λa b=>aL b #[(Sl.v A),(Sl.v a)] fI λa b=>St b (p.add 3) (.slice (some a) 2 2) λa=>bY a p λb c d e f g=>cJ a n b c d e f g λa=>bY a n λb c d e f g=>K b c d e f g a) Kp) (If (a==12) (FI K Kp P n o p A B a (a==12) h) (FI K Kp P n o p A B a (a==13) h)))):
 FJ K Kp P n o p A B h:=jf H
theorem QD.bC{K:jI}:jM (A0:=Sl) (A1:=Int) (QD K Kp P n o p A) (VZ P n o p A) λa b c d=>(NN P λe=>Ld d (e.add 18) Sl.v λe=>aW (c<(e.n:Int)) (NN P λe=>Ld d (e.add 18) Sl.v λe=>Ix e.a e.n 1 c λe=>Ld d e .pointer λe=>GL e d (λd e f g i j k=>aL k #[(ah d),(ah e),(ah f),(Sl.v g),(Sl.v i),(Sl.v j)] cg λd e=>Ap e cg cY 6 96 b 1 (rd e (some d) (1*6)) λb d=>aP (c+1) λc=>a (VZ P n o p A b c) d) Kp) (FJ K Kp P n o p A b d)):=jU
theorem CA.of{K:jI}(H:
 aL h #[] cg λa b=>QD K Kp P n o p A (⟨some a,0,0⟩:Sl) 0 b):
 CA K Kp P n o p A h:=jf H
theorem GL.of{K:jI}(H:
 aL h cY cg λa b=>NN P λc=>gX b (c.add 2) λc d e f g=>aL b oU kH λb i=>lW i b c d e f g λc=>NN P λd=>Ld c (d.add 7) mI λe=>NN P λf=>Ld c (f.add 8) mI λg=>aL c cY cg λi j=>aT c j (f.add 8) 1 <|aT c j (d.add 7) 1 <|cJ j i e 0 g bM bM bM λc=>aL c #[] Y8 λc d=>NN P λe=>Ld d (e.add 8) mI λe=>aW (e>0) (NN P λc=>Ld d (c.add 10) Sl.v λc=>GI c d (λc d=>CA K Kp P a b i c d) Kp) (CA K Kp P a b i (⟨some c,0,0⟩:Sl) d)):
 GL P h K Kp:=cK (Ep K Kp) lZ K Tryz.func16 H
noncomputable def afE:=mc aG Tryz.f17 (am [(2004,35)]) [] dz
def V4:=fK 27 [0,1,5] [.s,.s,tI]
def QG:=lK afE 2004 58 V4
theorem QG.bC{K:bG}:eX (A0:=Int) (QG K Kp A B) (V4 A B) λa b c=>(aW (b<(A.n:Int)) (Ix A.a A.n 6 b λd=>bY c d λd e f g i j=>Ix B.a B.n 6 b λk=>bY c k λk l m n p q=>C1 d e f g i j k l m n p q c (λc d=>If (!c) (K false d) (aP (b+1) λb=>a (V4 A B b) d)) Kp) (K true c)):=ff
theorem GO.of{K:bG}(H:
 If ((A.n:Int)!=(B.n:Int)) (K false h) (QG K Kp A B 0 h)):
 GO A B h K Kp:=cK (afE K Kp) dz K Tryz.func17 H
theorem Ly.of{K:PM}(H:
 fV h V x a b c d A λa b=>n8 b e f g B C D λb c=>aL c cY cg λc d=>bP d a λe f g i j k l=>CZ e f g i j k l d (λd e=>If (!d) (cJ e c 0 0 0 bM bM bM λa=>bY a c λb c d e f g=>K b c d e f g 5 a) (bP e a λd f g i j k l=>bY e b λb m n p q r=>Ml d f g i j k l b m n p q r e (λb d e f g=>aL g kJ kG λg i=>dS i g d e f λd=>Ld d g mI λe=>If (e !=0) (Ld d g mI λa=>cJ d c 0 0 0 bM bM bM λb=>aT d b g 1 <|bY b c λc d e f g i=>K c d e f g i a b) (bP d a λe f g i j k l=>(GR b d (λb m=>aT d m a 7 <|(qw e f g i j k l b m (λb d e f g i j _ k=>aL k cY cg λl m=>aT k m a 7 <|cJ m l b d e f g i λa=>bY a l λb d e f g i=>cJ a c b d e f g i λa=>bY a c λb c d e f g=>K b c d e f g j a) Kp)/\(aL m cY cg λd n=>aT m n a 7 <|qw e f g i j k l b n (λa b e f g i j _ k=>cJ k d a b e f g i λa=>bY a d λb d e f g i=>cJ a c b d e f g i λa=>bY a c λb c d e f g=>K b c d e f g j a) Kp)) Kp)/\(aL d cY cg λm n=>aT d n a 7 <|GR b n (λb d=>aT n d a 7 <|qw e f g i j k l b d (λa b d e f g i _ j=>cJ j m a b d e f g λa=>bY a m λb d e f g j=>cJ a c b d e f g j λa=>bY a c λb c d e f g=>K b c d e f g i a) Kp) Kp))) Kp)) Kp):
 Ly V x a b c d A e f g B C D h K Kp:=D8 [] [(6,(OT.l [0,1] (.alt (OT.l [2] (.alt (OT.l (List.range' 3 9) .fin) (OT.l [8,3,4,5,6,7,9,10,11] .fin))) (OT.l [8,2,3,4,5,6,7,9,10,11] .fin))))] Ni K Tryz.func18 H
noncomputable def Jg:=mc aG Tryz.f19 (am [(41012,65548),(41019,8388620),(41026,1073741836),(41033,137438953484)]) [] dz
def CB:=rK Jg 3 6 [.d,.d,.b]
def CC:=rK Jg 2 6 [.d,.d,.b]
def CD:=rK Jg 1 6 [.d,.d,.b]
def CE:=rK Jg 0 6 [.d,.d,.b]
theorem CB.of{K:bG}(H:
 If x (Ld h (n.add 5) Sl.v λa=>Ld h (o.add 5) Sl.v λb=>Gg a b (.func (.func 19) #[] #[]) h (λa b=>K a b) Kp) (K false h)):
 CB K Kp n o x h:=jf H
theorem CC.of{K:bG}(H:
 If x (Ld h (n.add 4) Sl.v λa=>Ld h (o.add 4) Sl.v λb=>Gg a b (.func (.func 19) #[] #[]) h (λa b=>CB K Kp n o a b) Kp) (CB K Kp n o false h)):
 CC K Kp n o x h:=jf H
theorem CD.of{K:bG}(H:
 If x (Ld h (n.add 3) Sl.v λa=>Ld h (o.add 3) Sl.v λb=>KX a b (.func (.func 34) #[] #[]) h (λa b=>CC K Kp n o a b) Kp) (CC K Kp n o false h)):
 CD K Kp n o x h:=jf H
theorem CE.of{K:bG}(H:
 If x (Ld h (n.add 2) mI λa=>Ld h (o.add 2) mI λb=>CD K Kp n o (a==b) h) (CD K Kp n o false h)):
 CE K Kp n o x h:=jf H
theorem GN.of{K:bG}(H:
 n8 h a b c A B C λa b=>n8 b d e f D E F λb c=>Ld c a mI λd=>Ld c b mI λe=>If (d==e) (Ld c (a.add 1) mI λd=>Ld c (b.add 1) mI λe=>CE K Kp a b (d==e) c) (CE K Kp a b false c)):
 GN a b c A B C d e f D E F h K Kp:=cK (Jg K Kp) dz K Tryz.func19 H
theorem CZ.of{K:bG}(H:
 fV h V x a b c d A λa b=>bP b a λa c d e f g i=>Ao a c d e f g i b (λa _ _ b=>K (a==0) b) Kp):
 CZ V x a b c d A h K Kp:=c9 dz K Tryz.func20 H
noncomputable def afC:=mc aG Tryz.f21 (am [(2003,1806)]) [] Dy
def VY:=fK 24 [1,2,8,9,3,10] [.d,.d,.s,tI,.s,tI]
def QC:=lK afC 2003 58 VY
theorem QC.bC{K:EU}:jM (A0:=Sl) (A1:=Int) (QC K Kp n o A a) (VY n o A a) λb c d e=>(aW (d<a) (Ix A.a A.n 7 d λf=>bP e f λf g i j k l m=>aL e mV iI λe p=>kg p e f g i j k l m λf=>bP f e λe g i j k l m=>GK e g i j k l m f (λe f g i j k l m=>aL m #[(.string e),(.bool f),(ah g),(ah i),(ah j),(ah k),(Sl.v l)] iI λe f=>Ap f iI mV 7 80 c 1 (rd f (some e) (1*7)) λc e=>aP (d+1) λd=>b (VY n o A a c d) e) Kp) (St e ((n.add 2).add 4) (Sl.v c) λa=>bP a n λb c d e f g i=>kg a o b c d e f g i λa=>bP a o λb c d e f g i=>K b c d e f g i a)):=jU
theorem GK.of{K:EU}(H:
 fV h V x a b c d A λa b=>aL b mV iI λb c=>Ld c ((a.add 2).add 4) Sl.v λd=>QC K Kp a b d (d.n:Int) bM 0 c):
 GK V x a b c d A h K Kp:=cK (afC K Kp) Dy K Tryz.func21 H
noncomputable def OS:=mc aG Tryz.f22 (am [(2000008,26),(4200013,17179869336),(2004,28698)]) [(14,(OT.l [0,2,3,4,1,5,6,7,8] .fin))] HY
def FH:=jK OS 1 2007 [.d,.s,tI,.b]
def RU:=jK OS 0 31 [.d,.d,.s]
def VX:=fK 108 [1,3,12,13,4,14] [.d,.d,.s,tI,.s,tI]
def QB:=lK OS 2004 122 VX
theorem FH.of{K:zW}(H:
 If x (oa h n λa b c d e f g i j k l m n p q r=>aL h #[(ah 0)] Y6 λs t=>av8 t a b c d e f g i j k l m n p q r (⟨some s,1,1⟩:Sl) bM λa b=>K (.iface nY (cU a)) b) (If (a==15) (oa h n λa b c d e f g i j k l m p q r s=>Ix A.a A.n 1 0 λt=>Ld h t id λu=>aL h #[(ah 0)] Y6 λv w=>aT h w t 1 <|aT h w n 16 <|NA u <|av7 w a b c d e f g i j k l m p q r s (⟨some v,1,1⟩:Sl) u λa b=>K (.iface nW (cU a)) b) (If (a==16) (oa h n λa b c d e f g i j k l m n p q r=>Ix A.a A.n 1 0 λs=>Ld h s id λs=>NA s <|av6 h a b c d e f g i j k l m n p q r s λa b=>K (.iface nt (cU a)) b) (If (a==17) (oa h n λa b c d e f g i j k l m n p q r=>av5 h a b c d e f g i j k l m n p q r A λa b=>K (.iface nk (cU a)) b) (If (a==18) (oa h n λa b c d e f g i j k l m n p q r=>av4 h a b c d e f g i j k l m n p q r bM bM A λa b=>K (.iface oJ (cU a)) b) (If (a==19) (oa h n λa b c d e f g i j k l m p q r s=>Ix A.a A.n 1 0 λt=>Ld h t id λu=>E0 h λv w=>aT h w t 1 <|aT h w n 16 <|NA u <|av3 w a b c d e f g i j k l m p q r s bM u bM (some v) λa b=>K (.iface oI (cU a)) b) (If (a==20) (oa h n λa b c d e f g i j k l m n p q r=>Ix A.a A.n 1 0 λs=>Ld h s id λs=>NA s <|av2 h a b c d e f g i j k l m n p q r bM s false 0 (bs []) bM λa b=>K (.iface nV (cU a)) b) (oa h n λa b c d e f g i j k l m n p q r=>av1 h a b c d e f g i j k l m n p q r bM bM λa b=>K (.iface oH (cU a)) b)))))))):
 FH K Kp n A a x h:=jf H
theorem RU.of{K:zW}(H:
 Ld h (n.add 2) mI λa=>If (a==1) (oa h o λa b c d e f g i j k l m n p q r=>av9 h a b c d e f g i j k l m n p q r λa b=>K (.iface nZ (cU a)) b) (If (a==12) (FH K Kp o A a true h) (FH K Kp o A a (a==13) h))):
 RU K Kp n o A h:=jf H
theorem QB.bC{K:zW}:jM (A0:=Sl) (A1:=Int) (QB K Kp n o A a) (VX n o A a) λb c d e=>(aW (d<a) (Ix A.a A.n 7 d λf=>bP e f λf g i j k l m=>aL e mV iI λe p=>kg p e f g i j k l m λf=>bP f e λe g i j k l m=>GJ e g i j k l m f (λe f=>NA e <|aL f #[e] JL λe f=>Ap f JL #[(.nilIface)] 1 16 c 1 (rd f (some e) (1*1)) λc e=>aP (d+1) λd=>b (VX n o A a c d) e) Kp) (RU K Kp n o c e)):=jU
theorem GJ.of{K:zW}(H:
 fV h V x a b c d A λa b=>bP b a λc d e f g i j=>Ln c d e f g i j b (λb c d e f g i j k l m n p q r s t=>aL t Ty PE λt u=>qT u t b c d e f g i j k l m n p q r s λb=>Ld b ((a.add 2).add 4) Sl.v λc=>QB K Kp a t c (c.n:Int) bM 0 b) Kp):
 GJ V x a b c d A h K Kp:=cK (OS K Kp) HY K Tryz.func22 H
theorem Lq.of{K:bT}(H:
 fV h V x a b c d A λa b=>iK b y e W B λb c=>bP c a λd e f g i j k=>CW d e f g i j k c (λc d=>If (!c) (K 5 d) (bP d a λa c e f g i j=>bN d b λb k l m=>Lm a c e f g i j b k l m d (λa b=>If (!a) (K 7 b) (K 0 b)) Kp)) Kp):
 Lq V x a b c d A y e W B h K Kp:=c9 dm K Tryz.func23 H
theorem Ga.of{K:iP}(H:
 fV h V x a b c d A λa b=>aL b kJ kG λb c=>bP c a λa d e f g i j=>aL c #[(.string a),(.bool d),(ah e),(ah f),(ah g),(ah i),(Sl.v j)] iI λa c=>Mk (⟨some a,1,1⟩:Sl) bM c (λa c d e=>aL e kJ kG λe f=>dS f e a c d λa=>Ld a (e.add 1) Sl.v λc=>aW ((c.n:Int)>0) (Ld a (e.add 1) Sl.v λc=>jA c 1 (some 1) none none λc=>St a (e.add 1) (Sl.v c) λa=>eu a e λc d e=>dS a b c d e λa=>eu a b λb c d=>K b c d a) (eu a e λc d e=>dS a b c d e λa=>eu a b λb c d=>K b c d a)) Kp):
 Ga V x a b c d A h K Kp:=c9 nJ K Tryz.func25 H
theorem Lo.of{K:bG}(H:
 fV h V x a b c d A λa b=>iK b y e W B λb c=>bN c b λd e f g=>CY d e f g 4194304 c (λc d=>aW (c<=4194304) (bP d a λa c e f g i j=>bN d b λb k l m=>wJ a c e f g i j b k l m d (λa b=>K a b) Kp) (K false d)) Kp):
 Lo V x a b c d A y e W B h K Kp:=c9 dz K Tryz.func26 H
theorem q8.of{K:bT}(H:
 iK h x a V A λa b=>bN b a λa c d e=>GH P a c d e b (λa b=>If (a==0) (NN P λc=>Ld b (c.add 9) mI λc=>aW (c>4194304) (K 3 b) (K a b)) (K a b)) Kp):
 q8 P x a V A h K Kp:=c9 dm K Tryz.func27 H
noncomputable def afA:=mc aG Tryz.f28 (am [(2003,25)]) [] gP
def ND:=fK 32 [0,3,4] [.s,.s,tI]
def Qz:=lK afA 2003 58 ND
theorem Qz.bC{K:gw}:eX (A0:=Int) (Qz K Kp A B) (ND A B) λa b c=>(aW (b<(A.n:Int)) (Ix A.a A.n 1 b λd=>Ld c d (.int .u8) λd=>If (d !=0) (Dv 8<|aP (Int.tdiv b 8) λd=>Ix B.a B.n 1 d λe=>Ld c e (.int .u8) λe=>Dv 8<|Lt (Int.tmod b 8) λf=>Nn f<|Wr .u8 ((1:Int)*2^(min (Int.toNat f) (IntKind.bits .u8))) λf=>Lt (gu .or .u8 e f) λe=>Ix B.a B.n 1 d λd=>St c d (.int .u8 e) λc=>aP (b+1) λb=>a (ND A B b) c) (aP (b+1) λb=>a (ND A B b) c)) (K B c)):=ff
theorem GI.of{K:gw}(H:
 aP ((A.n:Int)+7) λa=>Dv 8<|aP (Int.tdiv a 8) λa=>dO h Y8 #[(.int .u8 0)] 1 1 a a λa b=>Qz K Kp A a 0 b):
 GI A h K Kp:=cK (afA K Kp) gP K Tryz.func28 H
noncomputable def afz:=mc aG Tryz.f29 (am [(2003,99)]) [] gP
def VV:=fK 22 [0,1,5,6] [.s,tI,.s,tI]
def Qy:=lK afz 2003 58 VV
theorem Qy.bC{K:gw}:jM (A0:=Sl) (A1:=Int) (Qy K Kp A a) (VV A a) λb c d e=>(aW (d<(A.n:Int)) (Ix A.a A.n 1 d λf=>Ld e f mI λf=>At c f a e (λc e=>aP (d+1) λd=>b (VV A a c d) e) Kp) (K c e)):=jU
theorem qv.of{K:gw}(H:
 aL h #[] Y8 λb c=>Qy K Kp A a (⟨some b,0,0⟩:Sl) 0 c):
 qv A a h K Kp:=cK (afz K Kp) gP K Tryz.func29 H
noncomputable def afy:=mc aG Tryz.f30 (am [(3400005,24)]) [] dm
def Ke:=jK afy 0 53 [tI,.b]
theorem Ke.of{K:bT}(H:
 If x (K 1 h) (If (a==4) (If (a==4) (K 2 h) (If (a==5) (If (a==5) (K 4 h) (If (a==6) (If (a==6) (K 8 h) (K 0 h)) (If (a==10) (If (a==10) (K 8 h) (K 0 h)) (If (a==11) (K 8 h) (K 0 h))))) (If (a==9) (K 4 h) (If (a==6) (If (a==6) (K 8 h) (K 0 h)) (If (a==10) (If (a==10) (K 8 h) (K 0 h)) (If (a==11) (K 8 h) (K 0 h))))))) (If (a==8) (K 2 h) (If (a==5) (If (a==5) (K 4 h) (If (a==6) (If (a==6) (K 8 h) (K 0 h)) (If (a==10) (If (a==10) (K 8 h) (K 0 h)) (If (a==11) (K 8 h) (K 0 h))))) (If (a==9) (K 4 h) (If (a==6) (If (a==6) (K 8 h) (K 0 h)) (If (a==10) (If (a==10) (K 8 h) (K 0 h)) (If (a==11) (K 8 h) (K 0 h))))))))):
 Ke K Kp a x h:=jf H
theorem CX.of{K:bT}(H:
 If (a==3) (Ke K Kp a (a==3) h) (Ke K Kp a (a==7) h)):
 CX a h K Kp:=cK (afy K Kp) dm K Tryz.func30 H
noncomputable def rN:=mc aG Tryz.f31 (am [(2000004,44)]) [(4,(OT.l [0,2,5,1,3,4,6,7] .fin))] UI
def Sf:=jK rN 0 7 [.d,.d,.d]
theorem Sf.of{K:Zu}(H:
 bP h n λa b c d e f g=>bY h o λi j k l m n=>Gf a b c d e f g h (λa b c d e f g q=>aT h q o 6 <|Ge i j k l m n q (λi j k l m n q=>KS a b c d e f g i j k l m n none q (λa b=>dS b p 0 bM 0 λb=>eu b p λc d e=>K a c d e b) Kp) Kp) Kp):
 Sf K Kp n o p h:=jf H
theorem Ml.of{K:Zu}(H:
 fV h V x a b c d A λa b=>n8 b e f g B C D λb c=>aL c kJ kG λc d=>bP d a λe f g i j k l=>bY d b λm n p q r s=>KU e f g i j k l m n p q r s d (λd e f g=>aL g kJ kG λg i=>dS i g d e f λd=>Ld d g mI λe=>If (e !=0) (eu d g λa b e=>dS d c a b e λa=>eu a c λb c d=>K none b c d a) (Sf K Kp a b c d)) Kp):
 Ml V x a b c d A e f g B C D h K Kp:=cK (rN K Kp) UI K Tryz.func31 H
section
noncomputable def XW:Code:=Tryz.f32.body.getD .skip
abbrev TA:=zQ gP
abbrev apk(K:gw):=kQ gP K
def Yp:fP:=(am [(4003,140)])
def UZ:v7:=[(4,(OT.l [0,1,2,3,4,5] (.alt (OT.l [6,7] .fin) (OT.l [7,6] .fin))))]
variable(K:gw)(Kp:PK)(lb:Nat)(NB:HP)(XB:Code->HP)
noncomputable def fM:=mc aG Tryz.f32 Yp UZ gP K Kp
def ag9(x2:Sl)(x3:Addr)(x7:Value):HP:=abn (fM K Kp) [1,1,0,1,0] [] (fg [(2,vS x2),(0,vP x3),(3,some x7)] 9)
variable{K Kp lb NB XB}{x2:Sl}{x3:Addr}{x7:Value}{h:Hp}
def ag5(lb:Nat)(NB:HP)(XB:Code->HP)(x2:Sl)(x3:Addr)(x7:Value)(y8:Int)(aid:Bool)(aic:Int)(aib:BA)(aia:Sl)(h:Hp):Prop:=
 aL h gl di λa5 h1=>dK h1 a5 aid aic aib aia λh2=>Z1 lb h h2 λh3=>Ld h3 x3 Sl.v λt10=>bN h3 a5 λMS MR MQ MP=>aL h3 #[(.bool false),(ah 0),(.string (bs [])),(.slice none 0 0)] di λa13 h4=>aT h3 h4 a5 4 <|aT h3 h4 x3 1 <|Ap h4 di gl 4 56 t10 1 (rd h4 (some a13) (1*4)) λt14 h5=>Ix t14.a t14.n 4 (t10.n:Int) λZb=>(dK h5 Zb MS MR MQ MP λh6=>St h6 x3 (Sl.v t14) λh7=>NB h7)/\(St h5 x3 (Sl.v t14) λh6=>dK h6 Zb MS MR MQ MP λh7=>NB h7)
def ag7(K:gw)(Kp:PK)(x2:Sl)(x3:Addr)(x7:Value)(h:Hp):Prop:=
 Ld h x3 Sl.v λt16=>K t16 h
theorem GR.of{a:PA}(H:
 aL h #[(.slice none 0 0)] PD λb c=>Sq a c (λa c=>ag9 K Kp bM b a c) Kp):
 GR a h K Kp:=cK (fM K Kp) gP K Tryz.func32 H
end
noncomputable def aff:=mc aG Tryz.f33 (am [(2004,229382)]) [] dz
def Va:=fK 32 [1,2,15,16,17] [.s,uA,.s,tI,tI]
def PX:=lK aff 2004 58 Va
theorem PX.bC{K:bG}:eX (A0:=Int) (PX K Kp A Y B a) (Va A Y B a) λb c d=>(aW (c<a) (Ix B.a B.n 1 c λe=>Ld d e Sl.v λe=>Ix A.a A.n 1 c λf=>Ld d f Sl.v λf=>c8 aG Y [(Sl.v e),(Sl.v f)] d (λd e=>∃f:Bool,d=(.bool f)/\(If (!f) (K false e) (aP (c+1) λc=>b (Va A Y B a c) e))) Kp) (K true d)):=ff
theorem KX.of{K:bG}(H:
 If ((A.n:Int)!=(B.n:Int)) (K false h) (PX K Kp B Y A (A.n:Int) 0 h)):
 KX A B Y h K Kp:=cK (aff K Kp) dz K Tryz.func33 H
theorem Sr.of{K:bG}(H:
 sx h A λa=>sx h B λb=>K (a.toList==b.toList) h):
 Sr A B h K Kp:=c9 dz K Tryz.func34 H
noncomputable def afe:=mc aG Tryz.f35 (am [(2004,229382)]) [] dz
def U9:=fK 32 [1,2,15,16,17] [.s,uA,.s,tI,tI]
def PW:=lK afe 2004 58 U9
theorem PW.bC{K:bG}:eX (A0:=Int) (PW K Kp A Y B a) (U9 A Y B a) λb c d=>(aW (c<a) (Ix B.a B.n 6 c λe=>bY d e λe f g i j k=>aL d cY cg λd l=>cJ l d e f g i j k λe=>Ix A.a A.n 6 c λf=>bY e f λf g i j k l=>aL e cY cg λe m=>cJ m e f g i j k l λf=>bY f d λd g i j k l=>bY f e λe m n p q r=>c8 aG Y [(.agg #[(ah d),(ah g),(ah i),(Sl.v j),(Sl.v k),(Sl.v l)]),(.agg #[(ah e),(ah m),(ah n),(Sl.v p),(Sl.v q),(Sl.v r)])] f (λd e=>∃f:Bool,d=(.bool f)/\(If (!f) (K false e) (aP (c+1) λc=>b (U9 A Y B a c) e))) Kp) (K true d)):=ff
theorem Gg.of{K:bG}(H:
 If ((A.n:Int)!=(B.n:Int)) (K false h) (PW K Kp B Y A (A.n:Int) 0 h)):
 Gg A B Y h K Kp:=cK (afe K Kp) dz K Tryz.func35 H
theorem Ao.of{K:iP}(H:
 fV h V x a b c d A λa b=>aL b kJ kG λb c=>bP c a λa d e f g i j=>aL c #[(.string a),(.bool d),(ah e),(ah f),(ah g),(ah i),(Sl.v j)] iI λa c=>Mh (⟨some a,1,1⟩:Sl) bM c (λa c d e=>aL e kJ kG λe f=>dS f e a c d λa=>Ld a (e.add 1) Sl.v λc=>aW ((c.n:Int)>0) (Ld a (e.add 1) Sl.v λc=>jA c 1 (some 1) none none λc=>St a (e.add 1) (Sl.v c) λa=>eu a e λc d e=>dS a b c d e λa=>eu a b λb c d=>K b c d a) (eu a e λc d e=>dS a b c d e λa=>eu a b λb c d=>K b c d a)) Kp):
 Ao V x a b c d A h K Kp:=c9 nJ K Tryz.func36 H
theorem Ln.of{K:ag0}(H:
 fV h V x a b c d A λa b=>aL b Ty PE λb c=>bP c a λd e f g i j k=>Ll d e f g i j k c (λc d e f g i=>aL i gl di λi j=>dK j i c d e f λc=>bP c a λa d e f j k l=>bN c i λi m n p=>qT c b a d e f j k l 0 0 bM 0 i m n p (g==0) λa=>oa a b λb c d e f g i j k l m n p q r s=>K b c d e f g i j k l m n p q r s a) Kp):
 Ln V x a b c d A h K Kp:=c9 ab1 K Tryz.func37 H
theorem CW.of{K:bG}(H:
 fV h V x a b c d A λa b=>bP b a λa c d e f g i=>Ao a c d e f g i b (λa _ _ b=>K (a==0) b) Kp):
 CW V x a b c d A h K Kp:=c9 dz K Tryz.func38 H
theorem Lm.of{K:bG}(H:
 fV h V x a b c d A λa b=>iK b y e W B λb c=>aL c #[(ah 4194304)] qS λc d=>bP d a λa e f g i j k=>bN d b λb l m n=>wI (some c) a e f g i j k b l m n d (λa b=>K a b) Kp):
 Lm V x a b c d A y e W B h K Kp:=c9 dz K Tryz.func39 H
noncomputable def OZ:=mc aG Tryz.f41 (am [(2000011,6),(2013,26388279066660),(2006,3670022)]) [] nJ
def Wk:=fK 61 [2,5,43,44] [.d,.s,tI,tI]
def Rc:=lK OZ 2013 506 Wk
def Sj:=jK OZ 0 31 [.d,.d]
def Wj:=fK 61 [1,2,19,20,21] [.d,.d,.s,tI,tI]
def Ra:=lK OZ 2006 122 Wj
theorem Rc.bC{K:iP}:eX (A0:=Int) (Rc K Kp n A a) (Wk n A a) λb c d=>(aW (c<a) (L8 A c d (λd e=>If (d !=0) (Ix A.a A.n 10 c λa=>Ld e a Sl.v λa=>dS e n d a 0 λa=>eu a n λb c d=>K b c d a) (aP (c+1) λc=>b (Wk n A a c) e)) Kp) (dS d n 0 bM 0 λa=>eu a n λb c d=>K b c d a)):=ff
theorem Sj.of{K:iP}(H:
 Ld h n Sl.v λa=>Ax a bM false bM h (λa b=>Rc K Kp o a (a.n:Int) 0 b) Kp):
 Sj K Kp n o h:=jf H
theorem Ra.bC{K:iP}:eX (A0:=Int) (Ra K Kp n o A a) (Wj n o A a) λb c d=>(aW (c<a) (Ix A.a A.n 2 c λe=>Ld d e .string λf=>Ld d (e.add 1) .string λe=>aL d #[(.string (bs [])),(.string (bs []))] agG λd g=>St g d (.string f) λf=>St f (d.add 1) (.string e) λe=>Ld e d .string λf=>aW ((f.size:Int)>256) (dS e o 37 bM c λa=>eu a o λb c d=>K b c d a) (Ld e (d.add 1) .string λd=>aW ((d.size:Int)>256) (dS e o 37 bM c λa=>eu a o λb c d=>K b c d a) (aP (c+1) λc=>b (Wj n o A a c) e))) (Sj K Kp n o d)):=ff
theorem Mk.of{K:iP}(H:
 aL h #[(Sl.v A),(Sl.v B)] agN λa b=>aL b kJ kG λb c=>Ld c a Sl.v λd=>aW ((d.n:Int)>32) (dS c b 34 bM 32 λa=>eu a b λb c d=>K b c d a) (Ld c (a.add 1) Sl.v λd=>aW ((d.n:Int)>16) (dS c b 34 bM 16 λa=>eu a b λb c d=>K b c d a) (Ld c (a.add 1) Sl.v λd=>Ra K Kp a b d (d.n:Int) 0 c))):
 Mk A B h K Kp:=cK (OZ K Kp) nJ K Tryz.func41 H
noncomputable def afD:=mc aG Tryz.f42 (am [(2006,102)]) [] dm
def V3:=fK 52 [1,2,5,6] [tI,.d,tI,tI]
def QF:=lK afD 2006 250 V3
theorem QF.bC{K:bT}:jM (A0:=Int) (A1:=Int) (QF K Kp a n) (V3 a n) λb c d e=>(Ld e (n.add 3) Sl.v λf=>aW (d<(f.n:Int)) (aW (c>a) (aP (a+1) λa=>K a e) (Ld e (n.add 3) Sl.v λf=>Ix f.a f.n 4 d λf=>bN e f λf g i j=>aP (a-c) λk=>CY f g i j k e (λe f=>aP (c+e) λc=>aP (d+1) λd=>b (V3 a n c d) f) Kp)) (aW (c>a) (aP (a+1) λa=>K a e) (K c e))):=jU
theorem CY.of{K:bT}(H:
 iK h x a V A λa c=>Ld c (a.add 2) .string λd=>aP (b-16) λe=>aW ((d.size:Int)>e) (aP (b+1) λa=>K a c) (Ld c (a.add 2) .string λd=>aP ((16:Int)+(d.size:Int)) λd=>QF K Kp b a d 0 c)):
 CY x a V A b h K Kp:=cK (afD K Kp) dm K Tryz.func42 H
noncomputable def zF:=mc aG Tryz.f43 (am [(2000005,40),(2000018,40),(47010,70368744177672),(50006,36893488147419103240),(54009,158456325028528675187087900712),(44006,1048584),(44011,33554440)]) [] dz
def FG:=jK zF 1 63 [.d,.d]
def FF:=rK zF 2 996 [.d,.b]
def FE:=rK zF 3 7994 [.d,.b]
def FD:=rK zF 4 63996 [.d,.d,.b]
def RT:=jK zF 0 15 [.d,.d]
def FA:=rK zF 6 234 [.d,.b]
def FB:=rK zF 5 234 [.d,.b]
theorem FG.of{K:bG}(H:
 Ld h (n.add 2) .string λa=>If (a.toList==(bs []).toList) (gX h o λa b c d e=>bN h n λf g i j=>Lg a b c d e f g i j h (λa b=>K a b) Kp) (K false h)):
 FG K Kp n o h:=jf H
theorem FF.of{K:bG}(H:
 If x (Ld h (n.add 3) Sl.v λa=>K ((a.n:Int)==0) h) (K false h)):
 FF K Kp n x h:=jf H
theorem FE.of{K:bG}(H:
 If x (Ld h (n.add 3) Sl.v λa=>K ((a.n:Int)==0) h) (K false h)):
 FE K Kp n x h:=jf H
theorem FD.of{K:bG}(H:
 If x (Ld h (n.add 2) .string λa=>Ld h (o.add 1) mI λb=>K ((a.size:Int)==b) h) (K false h)):
 FD K Kp n o x h:=jf H
theorem RT.of{K:bG}(H:
 Ld h o mI λa=>Li a h (λa b=>If a (Ld b o mI λa=>Ld b (n.add 1) mI λc=>Lh a c b (λa b=>If a (Ld b (n.add 2) .string λa=>FF K Kp n (a.toList==(bs []).toList) b) (FF K Kp n false b)) Kp) (Ld b o mI λa=>If (a==12) (Ld b (n.add 2) .string λa=>Mj a b (λa b=>If a (Ld b (n.add 1) mI λa=>FE K Kp n (a==0) b) (FE K Kp n false b)) Kp) (Ld b o mI λa=>If (a==13) (Ld b (n.add 1) mI λa=>If (a==0) (Ld b (n.add 3) Sl.v λa=>K ((a.n:Int)==0) b) (K false b)) (Ld b o mI λa=>If (a==14) (Ld b (n.add 1) mI λa=>If (a==0) (Ld b (n.add 3) Sl.v λa=>FD K Kp n o ((a.n:Int)==0) b) (FD K Kp n o false b)) (Ld b o mI λa=>If (a==19) (If (a==19) (Ld b (o.add 4) Sl.v λa=>Ix a.a a.n 7 0 λa=>bP b a λa c d e f g i=>bN b n λj k l m=>wJ a c d e f g i j k l m b (λa b=>K a b) Kp) (FG K Kp n o b)) (Ld b o mI λa=>If (a==20) (Ld b (o.add 4) Sl.v λa=>Ix a.a a.n 7 0 λa=>bP b a λa c d e f g i=>bN b n λj k l m=>wJ a c d e f g i j k l m b (λa b=>K a b) Kp) (FG K Kp n o b))))))) Kp):
 RT K Kp n o h:=jf H
theorem FA.of{K:bG}(H:
 If x (Ld h (n.add 3) Sl.v λa=>K ((a.n:Int)==0) h) (K false h)):
 FA K Kp n x h:=jf H
theorem FB.of{K:bG}(H:
 If x (Ld h (n.add 2) .string λa=>FA K Kp n (a.toList==(bs []).toList) h) (FA K Kp n false h)):
 FB K Kp n x h:=jf H
theorem wJ.of{K:bG}(H:
 fV h V x a b c d A λa b=>iK b y e W B λb c=>gX c (a.add 2) λd e f g i=>aL c oU kH λc j=>lW j c d e f g i λd=>Ld d b .bool λe=>If e (bP d a λa c e f g i j=>GC a c e f g i j d (λa c=>If a (Ld c (b.add 1) mI λa=>FB K Kp b (a==0) c) (FB K Kp b false c)) Kp) (RT K Kp b c d)):
 wJ V x a b c d A y e W B h K Kp:=cK (zF K Kp) dz K Tryz.func43 H
noncomputable def xG:=mc aG Tryz.f44 (am [(2000011,41),(4600020,151124950823865501614121),(5400031,85070591730234615875067023894796828713),(2000030,1),(2025,73),(2033,265),(2000040,9),(2000041,9)]) [] dm
def Fy:=jK xG 3 523645 [.p]
def VS:=fK 260 [0,3,6] [.p,.d,tI]
def J7:=lK xG 2025 2094578 VS
def VR:=fK 260 [0,3,8] [.p,.d,tI]
def J6:=lK xG 2033 4189178 VR
def RR:=jK xG 7 16756731 [.p,.d]
def RS:=jK xG 6 8378365 [.p,.d]
def wD:=jK xG 2 130911 [.p,.d,.d,tI,.b]
def tB:=jK xG 1 8181 [.p,.d,.d,tI,.b]
def Fz:=jK xG 0 255 [.p,.d,.d]
theorem Fy.of{K:bT}(H:
 NN P λa=>Ld h (a.add 13) Sl.v λb=>NN P λc=>Ld h (c.add 18) Sl.v λc=>Ix c.a c.n 1 0 λc=>Ld h c .pointer λc=>NN c λc=>Ld h (c.add 7) mI λc=>aL h #[(ah c)] Y6 λc d=>aT h d (a.add 13) 1 <|Ap d Y6 #[(ah 0)] 1 8 b 1 (rd d (some c) (1*1)) λa b=>NN P λc=>St b (c.add 13) (Sl.v a) λa=>K 0 a):
 Fy K Kp P h:=jf H
theorem J7.bC{K:bT}:eX (A0:=Int) (J7 K Kp P n) (VS P n) λa b c=>(Ld c (n.add 3) Sl.v λd=>aW (b<(d.n:Int)) (NN P λd=>Ld c (d.add 18) Sl.v λd=>Ix d.a d.n 1 0 λd=>Ld c d .pointer λd=>Ld c (n.add 3) Sl.v λe=>Ix e.a e.n 4 b λe=>bN c e λe f g i=>q8 d e f g i c (λc d=>If (c !=0) (K c d) (aP (b+1) λb=>a (VS P n b) d)) Kp) (Fy K Kp P c)):=ff
theorem J6.bC{K:bT}:eX (A0:=Int) (J6 K Kp P n) (VR P n) λa b c=>(Ld c (n.add 3) Sl.v λd=>aW (b<(d.n:Int)) (NN P λd=>Ld c (d.add 18) Sl.v λd=>Ix d.a d.n 1 b λd=>Ld c d .pointer λd=>Ld c (n.add 3) Sl.v λe=>Ix e.a e.n 4 b λe=>bN c e λe f g i=>q8 d e f g i c (λc d=>If (c !=0) (K c d) (aP (b+1) λb=>a (VR P n b) d)) Kp) (K 0 c)):=ff
theorem RR.of{K:bT}(H:
 NN P λa=>Ld h (a.add 18) Sl.v λa=>Ld h (n.add 1) mI λb=>Ix a.a a.n 1 b λa=>Ld h a .pointer λa=>Ld h (n.add 3) Sl.v λb=>Ix b.a b.n 4 0 λb=>bN h b λb c d e=>q8 a b c d e h (λa b=>K a b) Kp):
 RR K Kp P n h:=jf H
theorem RS.of{K:bT}(H:
 NN P λa=>Ld h (a.add 13) Sl.v λb=>NN P λc=>Ld h (c.add 18) Sl.v λc=>Ld h (n.add 1) mI λd=>Ix c.a c.n 1 d λc=>Ld h c .pointer λc=>NN c λc=>Ld h (c.add 7) mI λc=>aL h #[(ah c)] Y6 λc d=>aT h d (a.add 13) 1 <|Ap d Y6 #[(ah 0)] 1 8 b 1 (rd d (some c) (1*1)) λa b=>NN P λc=>St b (c.add 13) (Sl.v a) λa=>RR K Kp P n a):
 RS K Kp P n h:=jf H
theorem wD.of{K:bT}(H:
 If x (J7 K Kp P n 0 h) (If (a==17) (J6 K Kp P n 0 h) (If (a==18) (NN P λa=>Ld h (a.add 11) Sl.v λb=>Ld h (n.add 1) mI λc=>Wr .u8 c λc=>aL h #[(.int .u8 c)] Y8 λc d=>aT h d (a.add 11) 1 <|Ap d Y8 #[(.int .u8 0)] 1 1 b 1 (rd d (some c) (1*1)) λa b=>NN P λc=>St b (c.add 11) (Sl.v a) λa=>RS K Kp P n a) (If (a==19) (bN h n λa b c d=>Tc P a b c d h (λa b=>K a b) Kp) (If (a==2) (NN P λa=>Ld h (a.add 12) Sl.v λb=>Ld h (n.add 1) mI λc=>Wr .u8 c λc=>aL h #[(.int .u8 c)] Y8 λc d=>aT h d (a.add 12) 1 <|Ap d Y8 #[(.int .u8 0)] 1 1 b 1 (rd d (some c) (1*1)) λa b=>NN P λc=>St b (c.add 12) (Sl.v a) λa=>K 0 a) (NN P λa=>Ld h (a.add 12) Sl.v λb=>Ld h (n.add 1) mI λc=>Ld h o mI λd=>CX d h (λd e=>aT h e (n.add 1) 1 <|aT h e (a.add 12) 1 <|At b c d e (λa b=>NN P λc=>St b (c.add 12) (Sl.v a) λa=>K 0 a) Kp) Kp)))))):
 wD K Kp P n o a x h:=jf H
theorem tB.of{K:bT}(H:
 If x (NN P λa=>Ld h (a.add 14) Sl.v λa=>Ld h (n.add 2) .string λb=>aP ((a.n:Int)+(b.size:Int)) λa=>aW (a>65536) (K 4 h) (NN P λa=>Ld h (a.add 14) Sl.v λa=>Ld h (n.add 2) .string λb=>Ap h Y8 #[(.int .u8 0)] 1 1 a b.size (λa=>a=b.data.toList.map λa=>Value.int .u8 a.toNat) λa b=>NN P λc=>St b (c.add 14) (Sl.v a) λa=>NN P λb=>Ld a (b.add 13) Sl.v λc=>NN P λd=>Ld a (d.add 14) Sl.v λd=>aL a #[(ah (d.n:Int))] Y6 λd e=>aT a e (b.add 13) 1 <|Ap e Y6 #[(ah 0)] 1 8 c 1 (rd e (some d) (1*1)) λa b=>NN P λc=>St b (c.add 13) (Sl.v a) λa=>K 0 a)) (If (a==14) (NN P λa=>Ld h (a.add 12) Sl.v λa=>Ld h (n.add 2) .string λb=>Ap h Y8 #[(.int .u8 0)] 1 1 a b.size (λa=>a=b.data.toList.map λa=>Value.int .u8 a.toNat) λa b=>NN P λc=>St b (c.add 12) (Sl.v a) λa=>K 0 a) (If (a==15) (wD K Kp P n o a (a==15) h) (wD K Kp P n o a (a==16) h)))):
 tB K Kp P n o a x h:=jf H
theorem Fz.of{K:bT}(H:
 NN P λa=>Ld h (a.add 10) Sl.v λa=>aL h #[(.int .u8 1)] Y8 λb c=>Ap c Y8 #[(.int .u8 0)] 1 1 a 1 (rd c (some b) (1*1)) λa b=>NN P λc=>St b (c.add 10) (Sl.v a) λa=>Ld a o mI λb=>If (b==12) (tB K Kp P n o b (b==12) a) (tB K Kp P n o b (b==13) a)):
 Fz K Kp P n o h:=jf H
theorem GH.of{K:bT}(H:
 iK h x a V A λa b=>NN P λc=>Ld b (c.add 7) mI λc=>aW (c>=4096) (K 3 b) (NN P λc=>Ld b (c.add 7) mI λc=>aP (c+1) λc=>NN P λd=>St b (d.add 7) (ah c) λb=>NN P λc=>Ld b (c.add 9) mI λd=>bN b a λe f g i=>CY e f g i 4194304 b (λe f=>aT b f (c.add 9) 1 <|aP (d+e) λb=>NN P λc=>St f (c.add 9) (ah b) λb=>NN P λc=>gX b (c.add 2) λc d e f g=>aL b oU kH λb i=>lW i b c d e f g λc=>Ld c b mI λd=>If (d==20) (bN c a λa b d e=>Lf P a b d e c (λa b=>K a b) Kp) (Ld c a .bool λd=>If d (NN P λa=>Ld c (a.add 8) mI λa=>aP (a+1) λa=>NN P λb=>St c (b.add 8) (ah a) λa=>GB P a (λa b=>K a b) Kp) (Fz K Kp P a b c))) Kp)):
 GH P x a V A h K Kp:=cK (xG K Kp) dm K Tryz.func44 H
noncomputable def afx:=mc aG Tryz.f45 (am [(2002,135)]) [] gP
def VU:=fK 21 [2,0,1,7] [tI,.s,tI,tI]
def Qx:=lK afx 2002 26 VU
theorem Qx.bC{K:gw}:LR3 (A0:=Sl) (A1:=Int) (A2:=Int) (Qx K Kp a) (VU a) λb c d e f=>(aW (e<a) (Wr .u8 d λg=>aL f #[(.int .u8 g)] Y8 λf g=>Ap g Y8 #[(.int .u8 0)] 1 1 c 1 (rd g (some f) (1*1)) λc f=>Nn 8<|Lt (Int.fdiv d (2^(min (Int.toNat 8) (IntKind.bits .i64)))) λd=>aP (e+1) λe=>b (VU a c d e) f) (K c f)):=aoK
theorem At.of{K:gw}(H:
 Qx K Kp b A a 0 h):
 At A a b h K Kp:=cK (afx K Kp) gP K Tryz.func45 H
theorem KU.of{K:iP}(H:
 fV h V x a b c d A λa b=>n8 b e f g B C D λb c=>aL c kJ kG λc d=>bP d a λe f g i j k l=>Ao e f g i j k l d (λd _ _ e=>If (d !=0) (mz 5 0 e (λa b d e=>dS e c a b d λa=>eu a c λb c d=>K b c d a) Kp) (bP e a λa d f g i j k=>bY e b λb l m n p q=>Az a d f g i j k b l m n p q e (λa b d _ e=>aL e kJ kG λe f=>dS f e a b d λa=>eu a e λb d e=>dS a c b d e λa=>eu a c λb c d=>K b c d a) Kp)) Kp):
 KU V x a b c d A e f g B C D h K Kp:=c9 nJ K Tryz.func46 H
theorem KS.of{K:Cd}(H:
 fV h V x a b c d A λa b=>n8 b e f g B C D λb c=>bP c a λd e f g i j k=>bY c b λl m n p q r=>Ld c (b.add 1) mI λs=>Ld c b mI λt=>Ld c (a.add 2) mI λu=>Mp u c (λu v=>aT c v b 1 <|aT c v (b.add 1) 1 <|aT c v b 6 <|aT c v a 7 <|NA u <|awd v d e f g i j k l m n p q r s t P u λa b=>K (some a) b) Kp):
 KS V x a b c d A e f g B C D P h K Kp:=c9 Ng K Tryz.func47 H
noncomputable def c51:=mc aG Tryz.f48 (am [(2003,24582)]) [] Dy
def U8:=fK 31 [1,2,13,14] [.d,.d,tI,tI]
def PV:=lK c51 2003 58 U8
theorem PV.bC{K:EU}:eX (A0:=Int) (PV K Kp n o a) (U8 n o a) λb c d=>(aW (c<a) (Ld d ((n.add 2).add 4) Sl.v λe=>Ld d ((n.add 2).add 4) Sl.v λf=>Ix f.a f.n 7 c λf=>bP d f λf g i j k l m=>Gf f g i j k l m d (λf g i j k l m p=>aT d p ((n.add 2).add 4) 1 <|Ix e.a e.n 7 c λd=>kg p d f g i j k l m λd=>aP (c+1) λc=>b (U8 n o a c) d) Kp) (bP d n λa b c e f g i=>kg d o a b c e f g i λa=>bP a o λb c d e f g i=>K b c d e f g i a)):=ff
theorem Gf.of{K:EU}(H:
 fV h V x a b c d A λa b=>aL b mV iI λb c=>Ld c ((a.add 2).add 4) Sl.v λd=>Th d c (λc d=>St d ((a.add 2).add 4) (Sl.v c) λc=>Ld c ((a.add 2).add 4) Sl.v λd=>PV K Kp a b (d.n:Int) 0 c) Kp):
 Gf V x a b c d A h K Kp:=cK (c51 K Kp) Dy K Tryz.func48 H
theorem Ge.of{K:jI}(H:
 n8 h a b c A B C λa b=>aL b cY cg λb c=>Ld c (a.add 3) Sl.v λd=>LF d c (λc d=>St d (a.add 3) (Sl.v c) λc=>Ld c (a.add 4) Sl.v λd=>GW d c (λc d=>St d (a.add 4) (Sl.v c) λc=>Ld c (a.add 5) Sl.v λd=>GW d c (λc d=>St d (a.add 5) (Sl.v c) λc=>bY c a λa d e f g i=>cJ c b a d e f g i λa=>bY a b λb c d e f g=>K b c d e f g a) Kp) Kp) Kp):
 Ge a b c A B C h K Kp:=c9 lZ K Tryz.func49 H
theorem Sq.of{K:Ce}(H:
 aL h #[(.pointer P)] Zd λa b=>K (.func (.func 70) #[] #[(cU a)]) b):
 Sq P h K Kp:=c9 AV K Tryz.func50 H
section
noncomputable def XX:Code:=Tryz.f51.body.getD .skip
def Yq:fP:=(am [(2000005,6),(2000011,6),(4014,35184372088932),(2006,29360134)])
def U0:v7:=[]
variable(K:iP)(Kp:PK)(lb:Nat)(NB:HP)(XB:Code->HP)
noncomputable def Jh:=mc aG Tryz.f51 Yq U0 nJ K Kp
def JR(x2 x5 x6:Addr)(q9:Value):HP:=abn (Jh K Kp) [1,1,1,1,1,0,1,0] [] (fg [(2,vP x2),(2,vP x5),(0,vP x6),(38,some q9)] 25)
def Sg(x1 x2:Addr):=jQ (Jh K Kp) 1 15 [] [vP x1,vP x2]
abbrev Wh(x1 x2:Addr)(wN:Sl)(yM TB:Int):Fr:=(fg [(1,vP x1),(0,vP x2),(19,vS wN),(0,vI yM),(0,vI TB)] 46)
def Q8(x1 x2:Addr)(wN:Sl)(yM TB:Int):=lQ (Jh K Kp) 2006 58 [] (Wh x1 x2 wN yM TB)
def Si(x1 x2:Addr):=jQ (Jh K Kp) 0 7 [] [vP x1,vP x2]
variable{K Kp lb NB XB}{x1 x2 x5 x6:Addr}{wN:Sl}{yM:Int}{q9:Value}{h:Hp}
def ag6(lb:Nat)(NB:HP)(XB:Code->HP)(x2 x5 x6:Addr)(q9:Value)(aio ain:Sl)(aim:BA)(ail:Bool)(aik aij aii aih:Int)(aif:Sl)(aie:Bool)(h:Hp):Prop:=
 aL h ah8 Zn λa7 h1=>avQ h1 a7 aio ain aim ail aik aij aii aih aif aie λh2=>Z1 lb h h2 λh3=>awn h3 a7 λaj8 aj7 aj6 aj5 aj4 aj3 aj2 aj1 aj0 ajZ=>Ld h3 x5 mI λt48=>Ld h3 x6 .map λt49=>L6 aj8 aj7 aj6 aj5 aj4 aj3 aj2 aj1 aj0 ajZ t48 t49 h3 (λt50 h4=>If (t50 !=0) (Ld h4 a7 Sl.v λt55=>dS h4 x2 t50 t55 0 λh5=>XB .ret h5) (Ld h4 x5 mI λt57=>aP (t57+1) λt58=>St h4 x5 (ah t58) λh5=>Ld h5 ((a7.add 2).add 2) mI λt62=>If (t62==19) (Ld h5 x6 .map λt64=>Ld h5 (((a7.add 2).add 2).add 2) mI λt68=>Ld h5 x5 mI λt69=>Up h5 t64 (.int .i64) (ah t68) (ah t69) λh6=>NB h6) (NB h5))) qt
def ag8(K:iP)(Kp:PK)(x2 x5 x6:Addr)(q9:Value)(h:Hp):Prop:=
 dS h x2 0 bM 0 λh1=>eu h1 x2 λvg u7 uZ=>K vg u7 uZ h1
def ag4(K:iP)(Kp:PK)(x2 x5 x6:Addr)(q9:Value)(h:Hp):Prop:=
 eu h x2 λvg u7 uZ=>K vg u7 uZ h
theorem JR.bC{x2 x5 x6:Addr}{q9:Value}{K:iP}{Kp:PK}{h:Hp}{α:Type}{xs:List α}(E:α->Sl->Sl->BA->Bool->Int->Int->Int->Int->Sl->Bool->Prop){tq:Hp->Prop}(vu:ZT aG q9 xs (λy args=>∃y0 y1 y2 y3 y4 y5 y6 y7 y8 y9,args=[(.agg #[(Sl.v y0),(Sl.v y1),(.string y2),(.bool y3),(ah y4),(ah y5),(ah y6),(ah y7),(Sl.v y8),(.bool y9)])]/\E y y0 y1 y2 y3 y4 y5 y6 y7 y8 y9) tq)(I:List α->HP)(CP:List α->HP)(h0:I [] h)
 (hG:∀pre h1 h2,aB h1 h2->I pre h1->I pre h2) (hI:∀l pre h1 h2,h.size<=l->Tw l h1 h2->I pre h1->I pre h2) (xp:∀pre h1,I pre h1->tq h1) (aq3:∀pre h1 h2,aB h1 h2->CP pre h1->CP pre h2) (aq2:∀l pre h1 h2,h.size<=l->Tw l h1 h2->CP pre h1->CP pre h2)
 (IN:∀l pre y gH h1 y0 y1 y2 y3 y4 y5 y6 y7 y8 y9,E y y0 y1 y2 y3 y4 y5 y6 y7 y8 y9->xs=pre++y::gH->h.size<=l->(∃r,h1[l]? =some (.loop r))->I pre h1->∀(N:Hp->Prop)(X:Code->HP),(∀h' h2,Tw l h1 h'->h2[l]? =h'[l]?->Tn (λc=>c<=l) h1 h2->I (pre++[y]) h2->N h2)->(∀h' h2,Tw l h1 h'->h2[l]? =h'[l]?->Tn (λc=>c<=l) h1 h2->CP (pre++[y]) h2->X .ret h2)->ag6 l N X x2 x5 x6 q9 y0 y1 y2 y3 y4 y5 y6 y7 y8 y9 h1)
 (done:∀h2,I xs h2->ag8 K Kp x2 x5 x6 q9 h2) (akn:∀pre gH h2,xs=pre++gH->CP pre h2->ag4 K Kp x2 x5 x6 q9 h2):JR K Kp x2 x5 x6 q9 h:=
 Eq.mp (by kernel_rfl) (amB (P:=aG) (bW:=Yq) (D:=(kT aG U0)) (λ_=>zy _) (rd:=none) (g:=.tmp 45) (ps:=#[46]) (assign:=sub [1,1,1,1,1,0,1,0,0] XX) (body:=sub [1,1,1,1,1,0,1,0,1] XX) (Q:=sQ aG Yq (kT aG U0) none Kp [1,1,1,1,1,0,1,0] XX [] (mF aG Tryz.f51.results.toList (zQ nJ) (kQ nJ K))) (Kp:=Kp) (fr:=(fg [(2,vP x2),(2,vP x5),(0,vP x6),(38,some q9)] 25)) (h:=h) (fv:=q9) (by kernel_rfl)
 vu (λ_ _ ea=>by obtain⟨_,_,_,_,_,_,_,_,_,_,rfl,_⟩:=ea;rfl) trivial I (λc=>match c with|.ret=>CP|_=>λ_ _=>False) h0 hG (by intro c pre h1 h2 hg hi;revert hi;cases c with
 |ret=>exact aq3 pre h1 h2 hg
 |_=>exact λhi=>hi.elim) hI (by intro l c pre h1 h2 hl ht hi;revert hi;cases c with
 |ret=>exact aq2 l pre h1 h2 hl ht
 |_=>exact λhi=>hi.elim) xp
 (by
 intro l pre y gH h1 args ea e1 e2 e3 e4 N X hN hX
 obtain⟨y0,y1,y2,y3,y4,y5,y6,y7,y8,y9,rfl,eE⟩:=ea
 exact Eq.mp (by kernel_rfl) (IN l pre y gH h1 y0 y1 y2 y3 y4 y5 y6 y7 y8 y9 eE e1 e2 e3 e4 N X hN (hX .ret)))
 (λh2 hi=>Eq.mp (by kernel_rfl) (done h2 hi)) (by
 intro c pre gH h2 e1 hi
 cases c with
 |ret=>exact Eq.mp (by kernel_rfl) (akn pre gH h2 e1 hi)
 |_=>exact hi.elim))
theorem Sg.of(H:
 aL h #[(ah 0)] Y6 λa b=>St b a (ah 0) λb=>E0 b λb c=>aL c #[(.map none)] Zo λc d=>St d c (.map (some b)) λb=>Ld b x1 Sl.v λd=>Tk d 65 b (λb d=>JR K Kp x2 a c b d) Kp):
 Sg K Kp x1 x2 h:=jf H
theorem Q8.bC:eX (Q8 K Kp x1 x2 wN yM) (Wh x1 x2 wN yM) λa b c=>(aW (b<yM) (Ix wN.a wN.n 2 b λd=>Ld c d .string λe=>Ld c (d.add 1) .string λd=>aL c #[(.string (bs [])),(.string (bs []))] agG λc f=>St f c (.string e) λe=>St e (c.add 1) (.string d) λd=>Ld d c .string λe=>aW ((e.size:Int)>256) (dS d x2 37 bM b λa=>eu a x2 λb c d=>K b c d a) (Ld d (c.add 1) .string λc=>aW ((c.size:Int)>256) (dS d x2 37 bM b λa=>eu a x2 λb c d=>K b c d a) (aP (b+1) λb=>a (Wh x1 x2 wN yM b) d))) (Sg K Kp x1 x2 c)):=ff
theorem Si.of(H:
 Ld h (x1.add 1) Sl.v λa=>Q8 K Kp x1 x2 a (a.n:Int) 0 h):
 Si K Kp x1 x2 h:=jf H
theorem Mh.of{Ds Dr:Sl}(H:
 aL h #[(Sl.v Ds),(Sl.v Dr)] agN λa b=>aL b kJ kG λb c=>Ld c a Sl.v λd=>aW ((d.n:Int)>32) (dS c b 34 bM 32 λa=>eu a b λb c d=>K b c d a) (Ld c (a.add 1) Sl.v λd=>aW ((d.n:Int)>16) (dS c b 34 bM 16 λa=>eu a b λb c d=>K b c d a) (Si K Kp a b c))):
 Mh Ds Dr h K Kp:=cK (Jh K Kp) nJ K Tryz.func51 H
end
theorem Ll.of{K:Zt}(H:
 fV h V x a b c d A λa b=>aL b gl di λb c=>bP c a λd e f g i j k=>CW d e f g i j k c (λc d=>If (!c) (dK d b false 0 (bs []) bM λa=>bN a b λb c d e=>K b c d e 5 a) (bP d a λc e f g i j k=>tH c e f g i j k d (λc d=>aW (c>4194304) (dK d b false 0 (bs []) bM λa=>bN a b λb c d e=>K b c d e 3 a) (bP d a λa c e f g i j=>tG a c e f g i j d (λa c d e f=>dK f b a c d e λa=>bN a b λb c d e=>K b c d e 0 a) Kp)) Kp)) Kp):
 Ll V x a b c d A h K Kp:=c9 UH K Tryz.func52 H
noncomputable def qm:=mc aG Tryz.f53 (am [(2000004,49),(2000005,49),(2000007,49),(2000023,160),(2001001,160),(2000029,160),(4100013,1770887431076116955297),(4800019,680564733841876927517045025222242074785),(58008,1393796574908163946345982392040522594123937),(5209999,356811923176489970264571492362373784095686816),(62009,1461501637330902918203684832716283019655932543136),(62019,1496577676626844588240573268701473812127674924007584),(46008,36028797018964016),(46014,2305843009213693968)]) [] dz
def RM:=jK qm 5 1023 [.d,.d]
def RN:=jK qm 4 511 [.d,.d]
def RO:=jK qm 3 255 [.d,.d]
def Ft:=rK qm 8 130428 [.p,.d,.d,.b]
def Cz:=rK qm 11 521724 [.d,.d,.b]
def Fx:=rK qm 10 521724 [.d,.d,.b]
def Ag:=jK qm 9 130431 [.d,.d,.b]
def yC:=jK qm 7 32607 [.p,.d,.d,tI,.b]
def wC:=jK qm 6 2037 [.p,.d,.d,tI,.b]
def Fu:=jK qm 2 63 [.p,.d,.d]
def Fv:=rK qm 13 500 [.d,.b]
def Fw:=rK qm 12 500 [.d,.d,.b]
def RP:=jK qm 1 31 [.p,.d,.d]
def RQ:=jK qm 0 15 [.p,.d,.d]
theorem RM.of{K:bG}(H:
 Ld h o mI λa=>Lb a h (λa b=>If a (Ld b o mI λa=>Ld b (n.add 1) mI λc=>tF a c b (λa b=>K a b) Kp) (K false b)) Kp):
 RM K Kp n o h:=jf H
theorem RN.of{K:bG}(H:
 Ld h o mI λa=>If (a==2) (Ld h (n.add 1) mI λa=>If (a==0) (K true h) (Ld h (n.add 1) mI λa=>K (a==1) h)) (Ld h o mI λa=>If (a==11) (K true h) (RM K Kp n o h))):
 RN K Kp n o h:=jf H
theorem RO.of{K:bG}(H:
 Ld h (n.add 2) .string λa=>If (!(a.toList==(bs []).toList)) (K false h) (Ld h (n.add 3) Sl.v λa=>aW ((a.n:Int)>0) (K false h) (RN K Kp n o h))):
 RO K Kp n o h:=jf H
theorem Ft.of{K:bG}(H:
 If x (gX h o λa b c d e=>Ld h (n.add 3) Sl.v λf=>Le P a b c d e f h (λa b=>K a b) Kp) (K false h)):
 Ft K Kp P n o x h:=jf H
theorem Cz.of{K:bG}(H:
 If x (Ld h o mI λa=>If (a !=14) (K true h) (Ld h (n.add 2) .string λa=>Ld h (o.add 1) mI λb=>K ((a.size:Int)==b) h)) (K false h)):
 Cz K Kp n o x h:=jf H
theorem Fx.of{K:bG}(H:
 If x (Ld h o mI λa=>If (a !=12) (Cz K Kp n o true h) (Ld h (n.add 2) .string λa=>LA a h (λa b=>Cz K Kp n o a b) Kp)) (Cz K Kp n o false h)):
 Fx K Kp n o x h:=jf H
theorem Ag.of{K:bG}(H:
 If x (Ld h (n.add 1) mI λa=>If (a==0) (Ld h (n.add 3) Sl.v λa=>Fx K Kp n o ((a.n:Int)==0) h) (Fx K Kp n o false h)) (RO K Kp n o h)):
 Ag K Kp n o x h:=jf H
theorem yC.of{K:bG}(H:
 If x (Ld h (n.add 1) mI λa=>If (a==0) (Ld h (n.add 2) .string λa=>Ft K Kp P n o (a.toList==(bs []).toList) h) (Ft K Kp P n o false h)) (If (a==12) (Ag K Kp n o (a==12) h) (If (a==13) (Ag K Kp n o (a==13) h) (Ag K Kp n o (a==14) h)))):
 yC K Kp P n o a x h:=jf H
theorem wC.of{K:bG}(H:
 If x (NN P λa=>Ld h a mI λa=>Ld h (n.add 2) .string λb=>aP ((16:Int)+(b.size:Int)) λb=>aP (a+b) λa=>NN P λb=>St h b (ah a) λa=>Ld a (o.add 4) Sl.v λb=>Ix b.a b.n 7 0 λb=>bP a b λb c d e f g i=>bN a n λj k l m=>wI P b c d e f g i j k l m a (λa b=>K a b) Kp) (If (a==18) (Ld h (n.add 2) .string λa=>If (a.toList==(bs []).toList) (Ld h (n.add 1) mI λa=>aW (a>=0) (Ld h (n.add 1) mI λa=>Ld h (o.add 4) Sl.v λb=>aW (a<(b.n:Int)) (Ld h (n.add 3) Sl.v λa=>If ((a.n:Int)==1) (Ld h (o.add 4) Sl.v λa=>Ld h (n.add 1) mI λb=>Ix a.a a.n 7 b λa=>bP h a λa b c d e f g=>Ld h (n.add 3) Sl.v λi=>Ix i.a i.n 4 0 λi=>bN h i λi j k l=>wI P a b c d e f g i j k l h (λa b=>K a b) Kp) (K false h)) (K false h)) (K false h)) (K false h)) (If (a==15) (yC K Kp P n o a (a==15) h) (If (a==16) (yC K Kp P n o a (a==16) h) (yC K Kp P n o a (a==17) h))))):
 wC K Kp P n o a x h:=jf H
theorem Fu.of{K:bG}(H:
 gX h (n.add 2) λa b c d e=>aL h oU kH λf g=>lW g f a b c d e λa=>Ld a f mI λb=>If (b==19) (wC K Kp P o f b (b==19) a) (wC K Kp P o f b (b==20) a)):
 Fu K Kp P n o h:=jf H
theorem Fv.of{K:bG}(H:
 If x (bP h n λa b c d e f g=>CU a b c d e f g h (λa b=>K a b) Kp) (K false h)):
 Fv K Kp n x h:=jf H
theorem Fw.of{K:bG}(H:
 If x (Ld h (o.add 3) Sl.v λa=>Fv K Kp n ((a.n:Int)==0) h) (Fv K Kp n false h)):
 Fw K Kp n o x h:=jf H
theorem RP.of{K:bG}(H:
 Ld h o .bool λa=>If a (Ld h (o.add 1) mI λa=>If (a==0) (Ld h (o.add 2) .string λa=>Fw K Kp n o (a.toList==(bs []).toList) h) (Fw K Kp n o false h)) (Fu K Kp P n o h)):
 RP K Kp P n o h:=jf H
theorem RQ.of{K:bG}(H:
 NN P λa=>Ld h a mI λa=>Ld h (o.add 2) .string λb=>aP (a-(b.size:Int)) λa=>NN P λb=>St h b (ah a) λa=>RP K Kp P n o a):
 RQ K Kp P n o h:=jf H
theorem wI.of{K:bG}(H:
 fV h V x a b c d A λa b=>iK b y e W B λb c=>NN P λd=>Ld c d mI λd=>aP (d-16) λd=>NN P λe=>St c e (ah d) λc=>NN P λd=>Ld c d mI λd=>aW (d<0) (K false c) (Ld c (b.add 2) .string λd=>NN P λe=>Ld c e mI λe=>aW ((d.size:Int)>e) (K false c) (Ld c (b.add 3) Sl.v λd=>aW ((d.n:Int)>4096) (K false c) (RQ K Kp P a b c)))):
 wI P V x a b c d A y e W B h K Kp:=cK (qm K Kp) dz K Tryz.func53 H
noncomputable def afP:=mc aG Tryz.f54 (am [(2002,28687)]) [] gP
def Ba:=fK 63 [0,1,2,12,13,3,14] [.s,.s,.b,.s,tI,.s,tI]
def QY:=lK afP 2002 26 Ba
theorem QY.bC{K:gw}:jM (A0:=Sl) (A1:=Int) (QY K Kp A B x C a) (Ba A B x C a) λb c d e=>(aW (d<a) (Ix C.a C.n 7 d λf=>bP e f λf g i j k l m=>aL e mV iI λe n=>kg n e f g i j k l m λf=>aW ((c.n:Int)>256) (K c f) (aP ((B.n:Int)+1) λg=>dO f Y6 #[(ah 0)] 1 8 g g λf g=>AA g f.a (rd g B.a (Nat.min B.n f.n*1)) λg=>Ix f.a f.n 1 (B.n:Int) λi=>St g i (ah d) λg=>bP g e λi j k l m n p=>jA A 7 none (some d) none λq=>aL g #[(Sl.v f),(.string i),(.bool j),(ah k),(ah l),(ah m),(ah n),(Sl.v p),(Sl.v q),(.bool x)] JM λg i=>Ap i JM Tz 10 136 c 1 (rd i (some g) (1*10)) λc g=>aW ((f.n:Int)<=64) (Ld g ((e.add 2).add 4) Sl.v λi=>If x (Ax i f true c g (λc e=>aP (d+1) λd=>b (Ba A B x C a c d) e) Kp) (Ld g (e.add 2) mI λe=>Ax i f (e==19) c g (λc e=>aP (d+1) λd=>b (Ba A B x C a c d) e) Kp)) (aP (d+1) λd=>b (Ba A B x C a c d) g))) (K c e)):=jU
theorem Ax.of{K:gw}(H:
 QY K Kp A B x A (A.n:Int) C 0 h):
 Ax A B x C h K Kp:=cK (afP K Kp) gP K Tryz.func54 H
noncomputable def Eu:=mc aG Tryz.f55 (am [(2000015,99),(2000021,67),(2025,66113130760175032991808),(59010,72057594037928035),(2010,1879048291)]) [] dm
def Ij:=fK 95 [6,73,74,75] [.d,.s,tI,tI]
def QX:=lK Eu 2025 131030 Ij
def F3:=jK Eu 1 2047 [.s,tI,.d]
def F2:=rK Eu 3 4092 [.s,tI,.d,.d,.b]
def Se:=jK Eu 0 255 [.s,tI,.d,.d]
def Wd:=fK 95 [0,1,5,6,28,29,30] [.s,tI,.d,.d,.s,tI,tI]
def QW:=lK Eu 2010 1018 Wd
theorem QX.bC{K:bT}:eX (A0:=Int) (QX K Kp n A a) (Ij n A a) λb c d=>(aW (c<a) (Ix A.a A.n 10 c λe=>Fa d e λe f g i j k l m p q=>aL d Tz JM λd r=>yq r d e f g i j k l m p q λe=>Ld e ((d.add 1).add 2) mI λf=>If (f==19) (Ld e (((d.add 1).add 2).add 2) mI λd=>Ld e ((n.add 2).add 2) mI λf=>If (d==f) (K 36 e) (aP (c+1) λc=>b (Ij n A a c) e)) (aP (c+1) λc=>b (Ij n A a c) e)) (K 0 d)):=ff
theorem F3.of{K:bT}(H:
 Ld h (n.add 2) mI λb=>If (b==19) (Ld h ((n.add 2).add 4) Sl.v λb=>Ix b.a b.n 7 0 λb=>Ld h (b.add 1) .bool λb=>If b (K 36 h) (jA A 10 none (some a) none λa=>QX K Kp n a (a.n:Int) 0 h)) (K 0 h)):
 F3 K Kp A a n h:=jf H
theorem F2.of{K:bT}(H:
 If x (Ld h (n.add 9) .bool λb=>If b (K 36 h) (F3 K Kp A a o h)) (F3 K Kp A a o h)):
 F2 K Kp A a n o x h:=jf H
theorem Se.of{K:bT}(H:
 gX h (o.add 2) λb c d e f=>LW b c d e f h (λb c=>If (!b) (K 32 c) (bP c o λb d e f g i j=>LV b d e f g i j c (λb c=>If (!b) (K 35 c) (Ld c (o.add 2) mI λb=>If (b==19) (F2 K Kp A a n o true c) (Ld c (o.add 2) mI λb=>F2 K Kp A a n o (b==20) c))) Kp)) Kp):
 Se K Kp A a n o h:=jf H
theorem QW.bC{K:bT}:eX (A0:=Int) (QW K Kp A a n o B b) (Wd A a n o B b) λc d e=>(aW (d<b) (Ix B.a B.n 7 d λf=>bP e f λf g i j k l m=>aL e mV iI λe p=>kg p e f g i j k l m λf=>Ld f e .string λe=>Ld f o .string λg=>If (e.toList==g.toList) (K 31 f) (aP (d+1) λd=>c (Wd A a n o B b d) f)) (Se K Kp A a n o e)):=ff
theorem L8.of{K:bT}(H:
 Ix A.a A.n 10 a λb=>Fa h b λb c d e f g i j k l=>aL h Tz JM λm n=>yq n m b c d e f g i j k l λb=>bP b (m.add 1) λc d e f g i j=>aL b mV iI λb k=>kg k b c d e f g i j λc=>Ld c m Sl.v λd=>aW ((d.n:Int)>64) (K 33 c) (aW (a>=256) (K 34 c) (Ld c b .string λd=>LX d c (λc d=>If (!c) (K 30 d) (Ld d (m.add 8) Sl.v λc=>QW K Kp A a m b c (c.n:Int) 0 d)) Kp))):
 L8 A a h K Kp:=cK (Eu K Kp) dm K Tryz.func55 H
noncomputable def afw:=mc aG Tryz.f56 (am [(2000003,2)]) [] dz
def RK:=jK afw 0 7 [.d]
theorem RK.of{K:bG}(H:
 Ld h (n.add 1) .bool λa=>If a (Ld h (n.add 2) mI λa=>K (a !=18) h) (K false h)):
 RK K Kp n h:=jf H
theorem GC.of{K:bG}(H:
 fV h V x a b c d A λa b=>Ld b (a.add 2) mI λc=>If (c==20) (Ld b ((a.add 2).add 4) Sl.v λa=>Ix a.a a.n 7 0 λa=>bP b a λa c d e f g i=>GC a c d e f g i b (λa b=>K a b) Kp) (RK K Kp a b)):
 GC V x a b c d A h K Kp:=cK (afw K Kp) dz K Tryz.func56 H
theorem Li.of{K:bG}(H:
 aW (a>=2) (K (decide (a<=11)) h) (K false h)):
 Li a h K Kp:=c9 dz K Tryz.func57 H
theorem Lh.of{K:bG}(H:
 If (a==2) (If (b==0) (K true h) (K (b==1) h)) (If (a==3) (aW (b>=(-128:Int)) (K (decide (b<=127)) h) (K false h)) (If (a==4) (aW (b>=(-32768:Int)) (K (decide (b<=32767)) h) (K false h)) (If (a==5) (aW (b>=(-2147483648:Int)) (K (decide (b<=2147483647)) h) (K false h)) (If (a==7) (aW (b>=0) (K (decide (b<=255)) h) (K false h)) (If (a==8) (aW (b>=0) (K (decide (b<=65535)) h) (K false h)) (If (a==9) (aW (b>=0) (K (decide (b<=4294967295)) h) (K false h)) (K true h)))))))):
 Lh a b h K Kp:=c9 dz K Tryz.func58 H
noncomputable def afR:=mc aG Tryz.f59 (am [(2002,9)]) [] dz
def Wi:=fK 17 [0,3] [.t,tI]
def Q9:=lK afR 2002 26 Wi
theorem Q9.bC{K:bG}:eX (A0:=Int) (Q9 K Kp V) (Wi V) λa b c=>(aW (b<(V.size:Int)) (L7 V b c (λc d=>If (c==0) (K false d) (aP (b+c) λb=>a (Wi V b) d)) Kp) (K true c)):=ff
theorem Mj.of{K:bG}(H:
 Q9 K Kp V 0 h):
 Mj V h K Kp:=cK (afR K Kp) dz K Tryz.func59 H
noncomputable def OQ:=mc aG Tryz.f60 (am [(2000015,44),(2016,108),(2000021,236)]) [] dz
def VO:=fK 98 [2,3,5,6] [.d,.d,tI,tI]
def Fq:=rE OQ 2 7827 [.d,.d,tI,tI,tI]
def Qu:=lK OQ 2016 122 VO
def Af:=jK OQ 0 15 [.d,.d,tI]
theorem Fq.of{K:bG}(H:
 Ld h (n.add 4) Sl.v λd=>Ix d.a d.n 7 c λc=>bP h c λc d e f g i j=>Ld h (o.add 3) Sl.v λk=>Ix k.a k.n 4 b λk=>bN h k λk l m p=>wJ c d e f g i j k l m p h (λc d=>If (!c) (K false d) (aP (b+1) λb=>N1 (VO n o a b) d)) Kp):
 Fq K Kp N1 n o a b c h:=jf H
theorem Qu.bC{K:bG}:eX (A0:=Int) (Qu K Kp n o a) (VO n o a) λb c d=>(aW (c<a) (Ld d n mI λe=>If (e==17) (Fq K Kp b n o a c c d) (Fq K Kp b n o a c 0 d)) (K true d)):=ff
theorem Af.of{K:bG}(H:
 Qu K Kp n o a 0 h):
 Af K Kp n o a h:=jf H
theorem Lg.of{K:bG}(H:
 wh h a b c d A λa b=>iK b x e V B λb c=>Ld c (b.add 3) Sl.v λd=>Ld c a mI λe=>If (e==15) (aW ((d.n:Int)>4096) (K false c) (Ld c (b.add 1) mI λe=>If (e !=0) (K false c) (Af K Kp a b (d.n:Int) c))) (If (e==16) (Ld c (a.add 1) mI λe=>If ((d.n:Int)!=e) (K false c) (Ld c (b.add 1) mI λe=>If (e !=0) (K false c) (Af K Kp a b (d.n:Int) c))) (If (e==17) (Ld c (a.add 4) Sl.v λe=>If ((d.n:Int)!=(e.n:Int)) (K false c) (Ld c (b.add 1) mI λe=>If (e !=0) (K false c) (Af K Kp a b (d.n:Int) c))) (If (e==18) (If ((d.n:Int)==1) (Ld c (b.add 1) mI λd=>aW (d>=0) (Ld c (b.add 1) mI λd=>Ld c (a.add 4) Sl.v λe=>aW (d<(e.n:Int)) (Ld c (a.add 4) Sl.v λa=>Ld c (b.add 1) mI λd=>Ix a.a a.n 7 d λa=>bP c a λa d e f g i j=>Ld c (b.add 3) Sl.v λb=>Ix b.a b.n 4 0 λb=>bN c b λb k l m=>wJ a d e f g i j b k l m c (λa b=>K a b) Kp) (K false c)) (K false c)) (K false c)) (K false c))))):
 Lg a b c d A x e V B h K Kp:=cK (OQ K Kp) dz K Tryz.func60 H
noncomputable def Je:=mc aG Tryz.f61 (am [(2000005,41),(2000008,9),(2000009,9),(3309999,16777257)]) [(7,(OT.l [0,1,2,3,4,5,6,7,8,10,11] (.alt (OT.l [9,12] .fin) (OT.l [12,9] .fin))))] dm
def RI:=jK Je 2 127 [.p,.d]
def Kc:=jK Je 1 63 [.p,.d]
def RJ:=jK Je 0 15 [.p,.d,tI]
def Cy:=jK Je 3 29 [.p,.d,tI,.b]
theorem RI.of{K:bT}(H:
 NN P λa=>Ld h (a.add 18) Sl.v λa=>Ix a.a a.n 1 0 λa=>Ld h a .pointer λa=>bN h n λb c d e=>q8 a b c d e h (λa b=>K a b) Kp):
 RI K Kp P n h:=jf H
theorem Kc.of{K:bT}(H:
 NN P λa=>Ld h (a.add 16) Sl.v λb=>NN P λc=>Ld h (c.add 7) mI λc=>aL h #[(ah c)] Y6 λc d=>aT h d (a.add 16) 1 <|Ap d Y6 #[(ah 0)] 1 8 b 1 (rd d (some c) (1*1)) λa b=>NN P λc=>St b (c.add 16) (Sl.v a) λa=>RI K Kp P n a):
 Kc K Kp P n h:=jf H
theorem RJ.of{K:bT}(H:
 aW (a>=4096) (K 3 h) (NN P λa=>Ld h (a.add 17) Sl.v λb=>bN h n λc d e f=>aL h #[(.bool false),(ah 0),(.string (bs [])),(.slice none 0 0)] di λg i=>aT h i n 4 <|aT h i (a.add 17) 1 <|Ap i di gl 4 56 b 1 (rd i (some g) (1*4)) λa g=>Ix a.a a.n 4 (b.n:Int) λb=>NN P λi=>(dK g b c d e f λb=>St b (i.add 17) (Sl.v a) λa=>Kc K Kp P n a)/\(St g (i.add 17) (Sl.v a) λa=>dK a b c d e f λa=>Kc K Kp P n a))):
 RJ K Kp P n a h:=jf H
theorem Cy.of{K:bT}(H:
 If x (NN P λb=>Ld h (b.add 16) Sl.v λb=>aP (a-1) λa=>Ix b.a b.n 1 a λc=>Ld h c mI λc=>aP (c+1) λc=>Ix b.a b.n 1 a λa=>St h a (ah c) λa=>K 0 a) (RJ K Kp P n a h)):
 Cy K Kp P n a x h:=jf H
theorem Lf.of{K:bT}(H:
 iK h x a V A λa b=>NN P λc=>Ld b (c.add 17) Sl.v λc=>aW ((c.n:Int)>0) (NN P λd=>Ld b (d.add 17) Sl.v λd=>aP ((c.n:Int)-1) λe=>Ix d.a d.n 4 e λd=>bN b d λd e f g=>bN b a λi j k l=>CV d e f g i j k l b (λb d=>Cy K Kp P a (c.n:Int) b d) Kp) (Cy K Kp P a (c.n:Int) false b)):
 Lf P x a V A h K Kp:=cK (Je K Kp) dm K Tryz.func61 H
noncomputable def Jd:=mc aG Tryz.f62 (am [(3800009,68736253961),(2011,25),(2016,41),(2023,129)]) [] dm
def VN:=fK 140 [0,3,4] [.p,.d,tI]
def J5:=lK Jd 2011 7866 VN
def VM:=fK 140 [0,3,5] [.p,.d,tI]
def J4:=lK Jd 2016 31482 VM
def VL:=fK 140 [0,7] [.p,tI]
def J3:=lK Jd 2023 125946 VL
def tA:=jK Jd 0 245 [.p,.d,tI,.b]
theorem J5.bC{K:bT}:eX (A0:=Int) (J5 K Kp P n) (VN P n) λa b c=>(Ld c (n.add 1) mI λd=>aW (b<d) (NN P λd=>Ld c (d.add 12) Sl.v λd=>aL c #[(.int .u8 0)] Y8 λc e=>Ap e Y8 #[(.int .u8 0)] 1 1 d 1 (rd e (some c) (1*1)) λc d=>NN P λe=>St d (e.add 12) (Sl.v c) λc=>aP (b+1) λb=>a (VN P n b) c) (K 0 c)):=ff
theorem J4.bC{K:bT}:eX (A0:=Int) (J4 K Kp P n) (VM P n) λa b c=>(Ld c (n.add 1) mI λd=>aW (b<d) (NN P λd=>Ld c (d.add 18) Sl.v λd=>Ix d.a d.n 1 0 λd=>Ld c d .pointer λd=>qZ d c (λc d=>If (c !=0) (K c d) (aP (b+1) λb=>a (VM P n b) d)) Kp) (K 0 c)):=ff
theorem J3.bC{K:bT}:eX (A0:=Int) (J3 K Kp P) (VL P) λa b c=>(NN P λd=>Ld c (d.add 18) Sl.v λd=>aW (b<(d.n:Int)) (NN P λd=>Ld c (d.add 18) Sl.v λd=>Ix d.a d.n 1 b λd=>Ld c d .pointer λd=>qZ d c (λc d=>If (c !=0) (K c d) (aP (b+1) λb=>a (VL P b) d)) Kp) (K 0 c)):=ff
theorem tA.of{K:bT}(H:
 If x (NN P λa=>Ld h (a.add 13) Sl.v λb=>NN P λc=>Ld h (c.add 13) Sl.v λc=>NN P λd=>Ld h (d.add 13) Sl.v λd=>aP ((d.n:Int)-1) λd=>Ix c.a c.n 1 d λc=>Ld h c mI λc=>aL h #[(ah c)] Y6 λc d=>aT h d (a.add 13) 1 <|Ap d Y6 #[(ah 0)] 1 8 b 1 (rd d (some c) (1*1)) λa b=>NN P λc=>St b (c.add 13) (Sl.v a) λa=>K 0 a) (If (a==14) (J5 K Kp P n 0 h) (If (a==16) (J4 K Kp P n 0 h) (If (a==17) (J3 K Kp P 0 h) (If (a==19) (NN P λa=>Ld h (a.add 15) Sl.v λa=>aL h #[(ah 0)] Y6 λb c=>Ap c Y6 #[(ah 0)] 1 8 a 1 (rd c (some b) (1*1)) λa b=>NN P λc=>St b (c.add 15) (Sl.v a) λa=>K 0 a) (If (a==2) (NN P λa=>Ld h (a.add 12) Sl.v λa=>aL h #[(.int .u8 0)] Y8 λb c=>Ap c Y8 #[(.int .u8 0)] 1 1 a 1 (rd c (some b) (1*1)) λa b=>NN P λc=>St b (c.add 12) (Sl.v a) λa=>K 0 a) (NN P λa=>Ld h (a.add 12) Sl.v λb=>Ld h n mI λc=>CX c h (λc d=>aT h d (a.add 12) 1 <|At b 0 c d (λa b=>NN P λc=>St b (c.add 12) (Sl.v a) λa=>K 0 a) Kp) Kp))))))):
 tA K Kp P n a x h:=jf H
theorem GB.of{K:bT}(H:
 NN P λa=>gX h (a.add 2) λa b c d e=>aL h oU kH λf g=>lW g f a b c d e λa=>NN P λb=>Ld a (b.add 10) Sl.v λb=>aL a #[(.int .u8 0)] Y8 λa c=>Ap c Y8 #[(.int .u8 0)] 1 1 b 1 (rd c (some a) (1*1)) λa b=>NN P λc=>St b (c.add 10) (Sl.v a) λa=>Ld a f mI λb=>If (b==12) (tA K Kp P f b (b==12) a) (If (b==13) (tA K Kp P f b (b==13) a) (tA K Kp P f b (b==15) a))):
 GB P h K Kp:=cK (Jd K Kp) dm K Tryz.func62 H
noncomputable def Eo:=mc aG Tryz.f63 (am [(2000007,9),(2000009,9),(2000010,9),(2000011,9),(2002,41)]) [(10,(OT.l [0,1,2,3,4,5,6,7,8,10,11] (.alt (OT.l [9,12] .fin) (OT.l [12,9] .fin))))] dm
def Kb:=jK Eo 3 63 [.p,.d]
def RF:=jK Eo 2 31 [.p,.d]
def RG:=jK Eo 1 15 [.p,.d]
def RH:=jK Eo 0 7 [.p,.d]
def VJ:=fK 80 [0,3,5] [.p,.d,tI]
def Qs:=lK Eo 2002 26 VJ
theorem Kb.of{K:bT}(H:
 NN P λa=>Ld h (a.add 18) Sl.v λa=>Ix a.a a.n 1 0 λa=>Ld h a .pointer λa=>bN h n λb c d e=>q8 a b c d e h (λa b=>K a b) Kp):
 Kb K Kp P n h:=jf H
theorem RF.of{K:bT}(H:
 NN P λa=>Ld h (a.add 17) Sl.v λb=>bN h n λc d e f=>aL h #[(.bool false),(ah 0),(.string (bs [])),(.slice none 0 0)] di λg i=>aT h i n 4 <|aT h i (a.add 17) 1 <|Ap i di gl 4 56 b 1 (rd i (some g) (1*4)) λa g=>Ix a.a a.n 4 (b.n:Int) λb=>NN P λi=>(dK g b c d e f λb=>St b (i.add 17) (Sl.v a) λa=>Kb K Kp P n a)/\(St g (i.add 17) (Sl.v a) λa=>dK a b c d e f λa=>Kb K Kp P n a)):
 RF K Kp P n h:=jf H
theorem RG.of{K:bT}(H:
 NN P λa=>Ld h (a.add 15) Sl.v λb=>NN P λc=>Ld h (c.add 17) Sl.v λc=>aL h #[(ah (c.n:Int))] Y6 λc d=>aT h d (a.add 15) 1 <|Ap d Y6 #[(ah 0)] 1 8 b 1 (rd d (some c) (1*1)) λa b=>NN P λc=>St b (c.add 15) (Sl.v a) λa=>RF K Kp P n a):
 RG K Kp P n h:=jf H
theorem RH.of{K:bT}(H:
 NN P λa=>Ld h (a.add 17) Sl.v λb=>NN P λc=>Ld h ((c.add 2).add 3) mI λc=>GA c h (λc d=>aT h d (a.add 17) 1 <|aW ((b.n:Int)>=c) (K 102 d) (RG K Kp P n d)) Kp):
 RH K Kp P n h:=jf H
theorem Qs.bC{K:bT}:eX (A0:=Int) (Qs K Kp P n) (VJ P n) λa b c=>(NN P λd=>Ld c (d.add 17) Sl.v λd=>aW (b<(d.n:Int)) (NN P λd=>Ld c (d.add 17) Sl.v λd=>Ix d.a d.n 4 b λd=>bN c d λd e f g=>bN c n λi j k l=>CV d e f g i j k l c (λc d=>If c (NN P λa=>Ld d (a.add 15) Sl.v λa=>aL d #[(ah b)] Y6 λb c=>Ap c Y6 #[(ah 0)] 1 8 a 1 (rd c (some b) (1*1)) λa b=>NN P λc=>St b (c.add 15) (Sl.v a) λa=>K 0 a) (aP (b+1) λb=>a (VJ P n b) d)) Kp) (RH K Kp P n c)):=ff
theorem Tc.of{K:bT}(H:
 iK h x a V A λa b=>Qs K Kp P a 0 b):
 Tc P x a V A h K Kp:=cK (Eo K Kp) dm K Tryz.func63 H
theorem mz.of{K:iP}(H:
 aL h kJ kG λc d=>dS d c a bM b λa=>eu a c λb c d=>K b c d a):
 mz a b h K Kp:=c9 nJ K Tryz.func64 H
noncomputable def zI:=mc aG Tryz.f65 (am [(2000004,28),(2000007,28),(2000017,284),(2000021,284),(2024,1057810092162800527917072),(2009,60129542428),(2000012,60129549084)]) [(11,(OT.l [0,1,3] (.alt (OT.l [2] (.alt (OT.l [4,5,6,7,8,9,10] .fin) (OT.l [8,4,5,6,7,9,10] .fin))) (OT.l [8,2,4,5,6,7,9,10] .fin))))] UG
def Wn:=fK 92 [4,14,77,78,15,79] [.d,.s,.s,tI,tI,tI]
def Rh:=lK zI 2024 4090 Wn
def KP:=jK zI 3 127 [.d,.d,.d,.s]
def Sm:=jK zI 2 63 [.d,.d,.d,.s]
def acT:=fK 92 [2,3,4,33,34,8,35] [.d,.d,.d,.s,tI,.s,tI]
def ZR:=rE zI 6 32051 [.d,.d,.d,.s,tI,.d,.s,.s,tI,tI]
def Rg:=lK zI 2009 250 acT
def Sn:=jK zI 1 15 [.d,.d,.d]
def So:=jK zI 0 7 [.d,.d,.d]
theorem Rh.bC{K:zX}:jM (A0:=Int) (A1:=Int) (Rh K Kp n A B a) (Wn n A B a) λb c d e=>(aW (d<a) (Ix B.a B.n 1 d λf=>Ld e f mI λf=>aP (c+f) λc=>aP (d+1) λd=>b (Wn n A B a c d) e) (aW (c>4194304) (mz 3 1 e (λa b c d=>dS d n a b c λa=>eu a n λb c d=>K b c d bM a) Kp) (dS e n 0 bM 0 λa=>eu a n λb c d=>K b c d A a))):=jU
theorem KP.of{K:zX}(H:
 bP h n λa b c d e f g=>bY h o λi j k l m n=>Me a b c d e f g i j k l m n A h (λa b=>Rh K Kp p a a (a.n:Int) 0 0 b) Kp):
 KP K Kp n o p A h:=jf H
theorem Sm.of{K:zX}(H:
 Ld h (n.add 2) mI λa=>If (a==20) (bY h o λa b c d e f=>awB a b c d e f h (λa b c d=>aL d kJ kG λd e=>dS e d a b c λa=>Ld a d mI λb=>If (b !=0) (eu a d λb c d=>dS a p b c d λa=>eu a p λb c d=>K b c d bM a) (KP K Kp n o p A a)) Kp) (KP K Kp n o p A h)):
 Sm K Kp n o p A h:=jf H
theorem Rg.bC{K:zX}:jM (A0:=Sl) (A1:=Int) (Rg K Kp n o p A a) (acT n o p A a) λb c d e=>(aW (d<a) (Ix A.a A.n 6 d λf=>bY e f λf g i j k l=>aL e cY cg λe m=>cJ m e f g i j k l λf=>bP f n λg i j k l m q=>bY f e λr s t u v w=>(ahn g i j k l m q d f (λg i j k l m q x=>aT f x e 6 <|(Az g i j k l m q r s t u v w x (λf g i j k=>aL k kJ kG λl m=>aT k m e 6 <|aT k m n 7 <|dS m l f g i λe=>ZR K Kp b n o p c d l j A a d e) Kp)/\(aL x kJ kG λf y=>aT x y e 6 <|aT x y n 7 <|Az g i j k l m q r s t u v w y (λe g i j k=>dS k f e g i λe=>ZR K Kp b n o p c d f j A a d e) Kp)) Kp)/\(aL f kJ kG λx y=>aT f y e 6 <|aT f y n 7 <|ahn g i j k l m q d y (λf g i j k l m q=>aT y q e 6 <|Az f g i j k l m r s t u v w q (λe f g i j=>dS j x e f g λe=>ZR K Kp b n o p c d x i A a d e) Kp) Kp)) (Sm K Kp n o p c e)):=jU
theorem Sn.of{K:zX}(H:
 bY h o λa b c d e f=>Mn a b c d e f h (λa b=>Rg K Kp n o p a (a.n:Int) bM 0 b) Kp):
 Sn K Kp n o p h:=jf H
theorem So.of{K:zX}(H:
 bP h n λa b c d e f g=>bY h o λi j k l m q=>Mf a b c d e f g i j k l m q h (λa b c d=>aL d kJ kG λd e=>dS e d a b c λa=>Ld a d mI λb=>If (b !=0) (eu a d λb c d=>dS a p b c d λa=>eu a p λb c d=>K b c d bM a) (Sn K Kp n o p a)) Kp):
 So K Kp n o p h:=jf H
theorem Az.of{K:zX}(H:
 fV h V x a b c d A λa b=>n8 b e f g B C D λb c=>aL c kJ kG λc d=>bP d a λe f g i j k l=>bY d b λm n p q r s=>Mg e f g i j k l m n p q r s d (λd e f g=>aL g kJ kG λg i=>dS i g d e f λd=>Ld d g mI λe=>If (e !=0) (eu d g λa b e=>dS d c a b e λa=>eu a c λb c d=>K b c d bM a) (So K Kp a b c d)) Kp):
 Az V x a b c d A e f g B C D h K Kp:=cK (zI K Kp) UG K Tryz.func65 H
noncomputable def Yd:=mc aG Tryz.f66 (am [(3400005,24),(3700008,520)]) [] HY
def F7:=jK Yd 1 215 [tI,.b]
def F8:=jK Yd 0 53 [tI,.b]
theorem F7.of{K:zW}(H:
 If x (K (.iface agL (.agg #[])) h) (If (a==17) (K (.iface agK (.agg #[])) h) (If (a==18) (K (.iface agJ (.agg #[])) h) (If (a==19) (K (.iface agI (.agg #[])) h) (If (a==20) (K (.iface agH (.agg #[])) h) (K (.iface JN (.agg #[])) h)))))):
 F7 K Kp a x h:=jf H
theorem F8.of{K:zW}(H:
 If x (K (.iface agM (.agg #[])) h) (If (a==15) (F7 K Kp a (a==15) h) (F7 K Kp a (a==16) h))):
 F8 K Kp a x h:=jf H
theorem Mp.of{K:zW}(H:
 If (a==12) (F8 K Kp a (a==12) h) (F8 K Kp a (a==13) h)):
 Mp a h K Kp:=cK (Yd K Kp) HY K Tryz.func66 H
theorem Th.of{K:gw}(H:
 If (Option.isNone A.a) (K bM h) (aL h #[] iI λa b=>Ap b iI mV 7 80 (⟨some a,0,0⟩:Sl) A.n (rd b A.a (A.n*7)) λa b=>K a b)):
 Th A h K Kp:=c9 gP K Tryz.func67 H
theorem LF.of{K:gw}(H:
 If (Option.isNone A.a) (K bM h) (aL h #[] fI λa b=>Ap b fI #[(.slice none 0 0)] 1 24 (⟨some a,0,0⟩:Sl) A.n (rd b A.a (A.n*1)) λa b=>K a b)):
 LF A h K Kp:=c9 gP K Tryz.func68 H
noncomputable def afU:=mc aG Tryz.f69 (am [(2003,456)]) [] gP
def Wm:=fK 19 [6,7,3,8] [.s,tI,.s,tI]
def Rf:=lK afU 2003 58 Wm
theorem Rf.bC{K:gw}:jM (A0:=Sl) (A1:=Int) (Rf K Kp A a) (Wm A a) λb c d e=>(aW (d<a) (Ix A.a A.n 6 d λf=>bY e f λf g i j k l=>aL e cY cg λe m=>cJ m e f g i j k l λf=>bY f e λe g i j k l=>Ge e g i j k l f (λe f g i j k l=>aL l #[(ah e),(ah f),(ah g),(Sl.v i),(Sl.v j),(Sl.v k)] cg λe f=>Ap f cg cY 6 96 c 1 (rd f (some e) (1*6)) λc e=>aP (d+1) λd=>b (Wm A a c d) e) Kp) (K c e)):=jU
theorem GW.of{K:gw}(H:
 Rf K Kp A (A.n:Int) bM 0 h):
 GW A h K Kp:=cK (afU K Kp) gP K Tryz.func69 H
noncomputable def Yc:=mc aG Tryz.f70 (am [(2002,6155),(46006,1073748027)]) [] kK
def Wl:=fK 39 [0,1,11,3,12] [uA,.d,tI,tI,tI]
def KO:=rK1 Yc 1 7374 [uA,.d,tI,tI,.d,tI,tI,.b]
def Re:=lK Yc 2002 14 Wl
theorem KO.of{K:iY}(H:
 If x (K  h) (bN h o λe f g i=>c8 aG Y [(ah b),(.agg #[(.bool e),(ah f),(.string g),(Sl.v i)])] h (λb e=>∃f:Bool,b=(.bool f)/\(If (!f) (K  e) (aP (d+1) λb=>N1 (Wl Y n c a b) e))) Kp)):
 KO K Kp N1 Y n a b o c d x h:=jf H
theorem Re.bC{K:iY}:jM (A0:=Int) (A1:=Int) (Re K Kp Y n a) (Wl Y n a) λb c d e=>(aW (d<a) (Ld e n .pointer λf=>KQ f d e (λe f g i j k l=>aL l gl di λl m=>dK m l e f g i λe=>aP (c-j) λc=>If (k !=0) (KO K Kp b Y n c d l a d true e) (KO K Kp b Y n c d l a d (decide (c<0)) e)) Kp) (K  e)):=jU
theorem ZZ.of{K:iY}(H:
 Ld h n .pointer λa=>NN a λa=>Ld h (a.add 14) mI λa=>Re K Kp Y n a 4194304 0 h):
 ZZ Y n h K Kp:=cK (Yc K Kp) kK K Tryz.func70 H
theorem Tk.of{K:Ce}(H:
 aL h #[(Sl.v A)] Y25 λb c=>aL c #[(ah a)] Y6 λa c=>K (.func (.func 96) #[] #[(cU a),(cU b)]) c):
 Tk A a h K Kp:=c9 AV K Tryz.func72 H
noncomputable def afO:=mc aG Tryz.f73 (am [(1002900016,281474976711296)]) [] dm
def CK:=jK afO 0 999421 [.d,.b,.b]
theorem CK.of{K:bT}(H:
 If y (If y (K 36 h) (K 0 h)) (Ld h n mI λa=>If (a==19) (Ld h (n.add 4) Sl.v λa=>Ix a.a a.n 7 0 λa=>Ld h (a.add 1) .bool λa=>If a (K 36 h) (If x (K 36 h) (K 0 h))) (K 0 h))):
 CK K Kp n x y h:=jf H
theorem L6.of{K:bT}(H:
 awc h A B V x a b c d C y λa b=>gX b ((a.add 2).add 2) λc d f g i=>aL b oU kH λb j=>lW j b c d f g i λc=>Ld c (b.add 2) mI λd=>Lk c M (.int .i64) (ah d) (ah 0) mI λ_ d=>Ld c a Sl.v λf=>If (decide ((f.n:Int)>64)) (K 33 c) (If (decide (e>=256)) (K 34 c) (Ld c (a.add 2) .string λe=>LU e c (λc e=>If (!c) (K 30 e) (Ld e (a.add 1) Sl.v λc=>LC c (.func (.func 101) #[] #[(cU a)]) e (λc e=>If c (K 31 e) (gX e b λc f g i j=>LS c f g i j e (λc e=>If (!c) (K 32 e) (bP e (a.add 2) λc f g i j k l=>LR c f g i j k l e (λc e=>If (!c) (K 35 e) (Ld e (a.add 9) .bool λa=>If a (Ld e b mI λa=>If (a==19) (CK K Kp b d true e) (Ld e b mI λa=>CK K Kp b d (a==20) e)) (CK K Kp b d false e))) Kp)) Kp)) Kp)) Kp))):
 L6 A B V x a b c d C y e M h K Kp:=cK (afO K Kp) dm K Tryz.func73 H
noncomputable def afv:=mc aG Tryz.f74 (am [(2012,120259084304)]) [] dm
def VI:=fK 64 [34,35,4,36] [.s,tI,tI,tI]
def Qr:=lK afv 2012 64250 VI
theorem Qr.bC{K:bT}:jM (A0:=Int) (A1:=Int) (Qr K Kp A a) (VI A a) λb c d e=>(aW (d<a) (Ix A.a A.n 7 d λf=>bP e f λf g i j k l m=>aL e mV iI λe n=>kg n e f g i j k l m λf=>bP f e λe g i j k l m=>tH e g i j k l m f (λe f=>aP (c+e) λc=>aP (d+1) λd=>b (VI A a c d) f) Kp) (Lt (if 4194305<c then 4194305 else c) λa=>K a e)):=jU
theorem tH.of{K:bT}(H:
 fV h V x a b c d A λa b=>bP b a λc d e f g i j=>CU c d e f g i j b (λb c=>If b (K 16 c) (gX c (a.add 2) λa b d e f=>aL c oU kH λc g=>lW g c a b d e f λa=>Ld a c mI λb=>If (b==14) (Ld a (c.add 1) mI λb=>aP ((16:Int)+b) λb=>Lt (if 4194305<b then 4194305 else b) λb=>K b a) (If (b==16) (Ld a (c.add 1) mI λb=>Ld a (c.add 4) Sl.v λd=>Ix d.a d.n 7 0 λd=>bP a d λd e f g i j k=>tH d e f g i j k a (λd e=>aT a e (c.add 1) 1 <|aP (b*d) λa=>aP ((16:Int)+a) λa=>Lt (if 4194305<a then 4194305 else a) λa=>K a e) Kp) (If (b==17) (Ld a (c.add 4) Sl.v λb=>Qr K Kp b (b.n:Int) 16 0 a) (If (b==18) (Ld a (c.add 4) Sl.v λb=>Ix b.a b.n 7 0 λb=>bP a b λb c d e f g i=>tH b c d e f g i a (λa b=>aP ((16:Int)+a) λa=>Lt (if 4194305<a then 4194305 else a) λa=>K a b) Kp) (If (b==19) (If (b==19) (Ld a (c.add 4) Sl.v λb=>Ix b.a b.n 7 0 λb=>bP a b λb c d e f g i=>tH b c d e f g i a (λa b=>Lt (if 4194305<a then 4194305 else a) λa=>K a b) Kp) (Lt (if 4194305<16 then 4194305 else 16) λb=>K b a)) (If (b==20) (Ld a (c.add 4) Sl.v λb=>Ix b.a b.n 7 0 λb=>bP a b λb c d e f g i=>tH b c d e f g i a (λa b=>Lt (if 4194305<a then 4194305 else a) λa=>K a b) Kp) (Lt (if 4194305<16 then 4194305 else 16) λb=>K b a)))))))) Kp):
 tH V x a b c d A h K Kp:=cK (afv K Kp) dm K Tryz.func74 H
noncomputable def X8:=mc aG Tryz.f75 (am [(2010,25165852),(2015,7696581394444)]) [] tO
def VH:=fK 72 [2,3,4,23,24] [.d,.d,.d,tI,tI]
def Qq:=lK X8 2010 16058 VH
def VG:=fK 72 [2,3,40,41,42] [.d,.d,.s,tI,tI]
def Qp:=lK X8 2015 64250 VG
theorem Qq.bC{K:qp}:eX (A0:=Int) (Qq K Kp n o p a) (VH n o p a) λb c d=>(aW (c<a) (Ld d (o.add 3) Sl.v λe=>Ld d (p.add 4) Sl.v λf=>Ix f.a f.n 7 0 λf=>bP d f λf g i j k l m=>tG f g i j k l m d (λf g i j k=>aT d k (o.add 3) 1 <|aL k #[(.bool f),(ah g),(.string i),(Sl.v j)] di λd f=>aT k f (o.add 3) 1 <|Ap f di gl 4 56 e 1 (rd f (some d) (1*4)) λd e=>St e (o.add 3) (Sl.v d) λd=>aP (c+1) λc=>b (VH n o p a c) d) Kp) (bN d o λa b c e=>dK d n a b c e λa=>bN a n λb c d e=>K b c d e a)):=ff
theorem Qp.bC{K:qp}:eX (A0:=Int) (Qp K Kp n o A a) (VG n o A a) λb c d=>(aW (c<a) (Ix A.a A.n 7 c λe=>bP d e λe f g i j k l=>aL d mV iI λd m=>kg m d e f g i j k l λe=>Ld e (o.add 3) Sl.v λf=>bP e d λd g i j k l m=>tG d g i j k l m e (λd g i j k=>aT e k (o.add 3) 1 <|aL k #[(.bool d),(ah g),(.string i),(Sl.v j)] di λd e=>aT k e (o.add 3) 1 <|Ap e di gl 4 56 f 1 (rd e (some d) (1*4)) λd e=>St e (o.add 3) (Sl.v d) λd=>aP (c+1) λc=>b (VG n o A a c) d) Kp) (bN d o λa b c e=>dK d n a b c e λa=>bN a n λb c d e=>K b c d e a)):=ff
theorem tG.of{K:qp}(H:
 fV h V x a b c d A λa b=>aL b gl di λb c=>bP c a λd e f g i j k=>CU d e f g i j k c (λc d=>If c (dK d b true 0 (bs []) bM λa=>bN a b λb c d e=>K b c d e a) (aL d gl di λc d=>gX d (a.add 2) λa e f g i=>aL d oU kH λd j=>lW j d a e f g i λa=>Ld a d mI λe=>If (e==14) (Ld a (d.add 1) mI λd=>ahm (bs [0]) d a (λa d=>St d (c.add 2) (.string a) λa=>bN a c λc d e f=>dK a b c d e f λa=>bN a b λb c d e=>K b c d e a) Kp) (If (e==16) (Ld a (d.add 1) mI λe=>Qq K Kp b c d e 0 a) (If (e==17) (Ld a (d.add 4) Sl.v λd=>Qp K Kp b c d (d.n:Int) 0 a) (If (e==18) (Ld a (d.add 4) Sl.v λd=>Ix d.a d.n 7 0 λd=>bP a d λd e f g i j k=>tG d e f g i j k a (λa d e f g=>aL g #[(.bool a),(ah d),(.string e),(Sl.v f)] di λa d=>St d (c.add 3) (.slice (some a) 1 1) λa=>bN a c λc d e f=>dK a b c d e f λa=>bN a b λb c d e=>K b c d e a) Kp) (If (e==19) (If (e==19) (Ld a (d.add 4) Sl.v λc=>Ix c.a c.n 7 0 λc=>bP a c λc d e f g i j=>tG c d e f g i j a (λa c d e f=>dK f b a c d e λa=>bN a b λb c d e=>K b c d e a) Kp) (bN a c λc d e f=>dK a b c d e f λa=>bN a b λb c d e=>K b c d e a)) (If (e==20) (Ld a (d.add 4) Sl.v λc=>Ix c.a c.n 7 0 λc=>bP a c λc d e f g i j=>tG c d e f g i j a (λa c d e f=>dK f b a c d e λa=>bN a b λb c d e=>K b c d e a) Kp) (bN a c λc d e f=>dK a b c d e f λa=>bN a b λb c d e=>K b c d e a)))))))) Kp):
 tG V x a b c d A h K Kp:=cK (X8 K Kp) tO K Tryz.func75 H
noncomputable def X7:=mc aG Tryz.f76 (am [(2000003,2),(2001,2)]) [] dz
def Fp:=jK X7 0 7 [.d]
def VE:=fK 27 [1] [.d]
def Qo:=lK X7 2001 12 VE
theorem Fp.of{K:bG}(H:
 Ld h (n.add 1) .bool λa=>If a (Ld h (n.add 2) mI λa=>K (a !=18) h) (K false h)):
 Fp K Kp n h:=jf H
theorem Qo.bC{K:bG}:ZQ (Qo K Kp n) (VE n) λa b=>(Ld b (n.add 2) mI λc=>If (c==20) (Ld b ((n.add 2).add 4) Sl.v λc=>If ((c.n:Int)==1) (Ld b ((n.add 2).add 4) Sl.v λc=>Ix c.a c.n 7 0 λc=>bP b c λc d e f g i j=>kg b n c d e f g i j λb=>a (VE n) b) (Fp K Kp n b)) (Fp K Kp n b)):=aoL
theorem CU.of{K:bG}(H:
 fV h V x a b c d A λa b=>Qo K Kp a b):
 CU V x a b c d A h K Kp:=cK (X7 K Kp) dz K Tryz.func76 H
noncomputable def Jb:=mc aG Tryz.f77 (am [(2000003,21),(2004,60129542161),(2000009,60129542929),(41010,524309)]) [] dz
def VD:=fK 54 [0,4,33,34,35] [.p,.d,.s,tI,tI]
def Fm:=rE Jb 2 14951 [.p,.d,.d,tI,.s,tI,tI]
def Qn:=lK Jb 2004 58 VD
def Fo:=jK Jb 0 7 [.p,.s,.d]
def Cw:=rK Jb 3 12 [.p,.s,.d,.b]
theorem Fm.of{K:bG}(H:
 Ld h (n.add 4) Sl.v λd=>Ix d.a d.n 7 a λa=>bP h a λa d e f g i j=>bN h o λk l m p=>wI P a d e f g i j k l m p h (λa d=>If (!a) (K false d) (aP (c+1) λa=>N1 (VD P n A b a) d)) Kp):
 Fm K Kp N1 P n o a A b c h:=jf H
theorem Qn.bC{K:bG}:eX (A0:=Int) (Qn K Kp P n A a) (VD P n A a) λb c d=>(aW (c<a) (Ix A.a A.n 4 c λe=>bN d e λe f g i=>aL d gl di λd j=>dK j d e f g i λe=>Ld e n mI λf=>If (f==17) (Fm K Kp b P n d c A a c e) (Fm K Kp b P n d 0 A a c e)) (K true d)):=ff
theorem Fo.of{K:bG}(H:
 Qn K Kp P n A (A.n:Int) 0 h):
 Fo K Kp P A n h:=jf H
theorem Cw.of{K:bG}(H:
 If x (K false h) (Ld h n mI λa=>If (a==17) (Ld h (n.add 4) Sl.v λa=>If ((A.n:Int)!=(a.n:Int)) (K false h) (Fo K Kp P A n h)) (Fo K Kp P A n h))):
 Cw K Kp P A n x h:=jf H
theorem Le.of{K:bG}(H:
 wh h a b c d A λa b=>Ld b a mI λc=>If (c==16) (Ld b (a.add 1) mI λc=>Cw K Kp P B a ((B.n:Int)!=c) b) (Cw K Kp P B a false b)):
 Le P a b c d A B h K Kp:=cK (Jb K Kp) dz K Tryz.func77 H
noncomputable def Es:=mc aG Tryz.f78 (am [(2001,1),(2000011,9),(3609999,16777217),(3809999,549755813889),(2009,1)]) [(9,(OT.l [0,1,2,3,4,6,7,10,11,13,14,5,8,9,12,15,16,17,18,19,20] .fin)),(7,(OT.l [0,1,2,3,4,6,7,5,8,9,10,11,12] .fin))] dz
def tV:=fK 169 [0] [.t]
def R6:=rE Es 1 395 [.t,.i .u8]
def V7:=fK 169 [0] [.t]
def QK:=DP Es 2009 808282 V7
def FM:=rE Es 3 101035 [.t,.b]
def FN:=rE Es 2 12629 [.t,.b]
def QM:=lK Es 2001 12 tV
theorem R6.of{K:bG}(H:
 Ix (some ((aF 0))) 256 1 a λa=>Ld h a (.int .u8) λa=>Lt (gu .and .u8 a 7) λb=>aP b λb=>Nn 4<|Lt (Int.fdiv a (2^(min (Int.toNat 4) (IntKind.bits .u8)))) λa=>Ix (some ((aF 1))) 16 2 a λa=>Ld h a (.int .u8) λc=>Ld h (a.add 1) (.int .u8) λa=>aL h #[(.int .u8 0),(.int .u8 0)] agD λd e=>St e d (.int .u8 c) λc=>St c (d.add 1) (.int .u8 a) λa=>If (b==2) (aW ((V.size:Int)<2) (K false a) (gY V 1 λb=>Ld a d (.int .u8) λc=>aW (b<c) (K false a) (Ld a (d.add 1) (.int .u8) λb=>gY V 1 λc=>aW (b<c) (K false a) (qs V (some 2) none λb=>N1 (tV b) a)))) (If (b==3) (aW ((V.size:Int)<3) (K false a) (gY V 1 λb=>Ld a d (.int .u8) λc=>aW (b<c) (K false a) (Ld a (d.add 1) (.int .u8) λb=>gY V 1 λc=>aW (b<c) (K false a) (gY V 2 λb=>aW (b<128) (K false a) (gY V 2 λb=>aW ((191:Int)<b) (K false a) (qs V (some 3) none λb=>N1 (tV b) a)))))) (If (b==4) (aW ((V.size:Int)<4) (K false a) (gY V 1 λb=>Ld a d (.int .u8) λc=>aW (b<c) (K false a) (Ld a (d.add 1) (.int .u8) λb=>gY V 1 λc=>aW (b<c) (K false a) (gY V 2 λb=>aW (b<128) (K false a) (gY V 2 λb=>aW ((191:Int)<b) (K false a) (gY V 3 λb=>aW (b<128) (K false a) (gY V 3 λb=>aW ((191:Int)<b) (K false a) (qs V (some 4) none λb=>N1 (tV b) a)))))))) (K false a)))):
 R6 K Kp N1 V a h:=jf H
theorem QK.bC{K:bG}:eX (A0:=BA) (QK K Kp N1) (V7) λa b c=>(aW ((b.size:Int)>32) (qs b (some 8) none λd=>qs b (some 16) none λe=>qs b (some 24) none λf=>tJ b c (λc g=>tJ d g (λd g=>Lt (gu .or .u64 c d) λc=>tJ e g (λd e=>tJ f e (λe f=>Lt (gu .or .u64 d e) λd=>Lt (gu .or .u64 c d) λc=>Lt (gu .and .u64 c 9259542123273814144) λc=>If (c==0) (qs b (some 32) none λb=>a (V7 b) f) (N1 (tV b) f)) Kp) Kp) Kp) Kp) (N1 (tV b) c)):=ff
theorem FM.of{K:bG}(H:
 If x (qs V (some 16) none λa=>QK K Kp N1 a h) (N1 (tV V) h)):
 FM K Kp N1 V x h:=jf H
theorem FN.of{K:bG}(H:
 If x (qs V (some 8) none λa=>aW ((a.size:Int)>16) (qs a (some 8) none λb=>tJ a h (λc d=>tJ b d (λb d=>Lt (gu .or .u64 c b) λb=>Lt (gu .and .u64 b 9259542123273814144) λb=>FM K Kp N1 a (b==0) d) Kp) Kp) (FM K Kp N1 a false h)) (N1 (tV V) h)):
 FN K Kp N1 V x h:=jf H
theorem QM.bC{K:bG}:eX (A0:=BA) (QM K Kp) (tV) λa b c=>(aW ((b.size:Int)>0) (gY b 0 λd=>aW (d<128) (qs b (some 1) none λb=>aW ((b.size:Int)>8) (tJ b c (λc d=>Lt (gu .and .u64 c 9259542123273814144) λc=>FN K Kp a b (c==0) d) Kp) (FN K Kp a b false c)) (R6 K Kp a b d c)) (K true c)):=ff
theorem LA.of{K:bG}(H:
 QM K Kp V h):
 LA V h K Kp:=cK (Es K Kp) dz K Tryz.func78 H
theorem Lb.of{K:bG}(H:
 aW (a>=3) (K (decide (a<=10)) h) (K false h)):
 Lb a h K Kp:=c9 dz K Tryz.func79 H
theorem tF.of{K:bG}(H:
 uL a h (λa c d=>If (a==64) (K true d) (If c (aP (a-1) λc=>Nn c<|aP ((-1:Int)*2^(min (Int.toNat c) (IntKind.bits .i64))) λc=>aW (b>=c) (aP (a-1) λa=>Nn a<|aP ((1:Int)*2^(min (Int.toNat a) (IntKind.bits .i64))) λa=>K (decide (b<a)) d) (K false d)) (aW (b>=0) (Nn a<|aP ((1:Int)*2^(min (Int.toNat a) (IntKind.bits .i64))) λa=>K (decide (b<a)) d) (K false d)))) Kp):
 tF a b h K Kp:=c9 dz K Tryz.func80 H
noncomputable def OW:=mc aG Tryz.f81 (am [(2000003,1),(2004,9),(41008,2049)]) [] dz
def Wa:=fK 33 [0,3] [.t,tI]
def QU:=lK OW 2004 58 Wa
def CG:=jK OW 0 7 [.t]
def FW:=rK OW 2 12 [.t,.b]
theorem QU.bC{K:bG}:eX (A0:=Int) (QU K Kp V) (Wa V) λa b c=>(aW (b<(V.size:Int)) (gY V b λd=>LL d c (λc d=>If (!c) (K false d) (aP (b+1) λb=>a (Wa V b) d)) Kp) (K true c)):=ff
theorem CG.of{K:bG}(H:
 QU K Kp V 0 h):
 CG K Kp V h:=jf H
theorem FW.of{K:bG}(H:
 If x (K false h) (gY V 0 λa=>aW (a>=48) (gY V 0 λa=>aW (a<=57) (K false h) (CG K Kp V h)) (CG K Kp V h))):
 FW K Kp V x h:=jf H
theorem LX.of{K:bG}(H:
 aW ((V.size:Int)<1) (FW K Kp V true h) (FW K Kp V (decide ((V.size:Int)>48)) h)):
 LX V h K Kp:=cK (OW K Kp) dz K Tryz.func81 H
noncomputable def xI:=mc aG Tryz.f82 (am [(2000020,250),(61008,37778931862957161710072),(61011,302231454903657293677016),(61014,2417851639229258349412760),(61017,19342813113834066795299096),(61022,618970019642690137449562384),(3800009,1074266362),(2000019,122)]) [] dz
def Ky:=rK xI 5 126 [tI,tI,.b]
def Kz:=rK xI 4 126 [tI,tI,tI,.b]
def KA:=rK xI 3 126 [tI,tI,.b,tI,.b]
def KB:=rK xI 2 126 [tI,tI,.b,.b,tI,.b]
def KC:=rK xI 1 126 [tI,tI,.b,.b,.b,tI,.b]
def qV:=jK xI 0 31 [.d,tI,tI,.b,.b,.b]
def Kw:=jK xI 7 2015227 [.d,tI,tI,.b,.b]
def Kx:=jK xI 6 983 [.d,tI,tI,.b,.b,.b,tI,.b]
theorem Ky.of{K:bG}(H:
 If x (K (decide (b<=a)) h) (K false h)):
 Ky K Kp a b x h:=jf H
theorem Kz.of{K:bG}(H:
 If x (Ky K Kp b c (decide (c>=a)) h) (Ky K Kp b c false h)):
 Kz K Kp a b c x h:=jf H
theorem KA.of{K:bG}(H:
 If y (Kz K Kp a b c x h) (Kz K Kp a b c false h)):
 KA K Kp a b x c y h:=jf H
theorem KB.of{K:bG}(H:
 If z (KA K Kp a b y c x h) (KA K Kp a b y c false h)):
 KB K Kp a b x y c z h:=jf H
theorem KC.of{K:bG}(H:
 If ya (KB K Kp a b y z c x h) (KB K Kp a b y z c false h)):
 KC K Kp a b x y z c ya h:=jf H
theorem qV.of{K:bG}(H:
 Ld h (n.add 4) Sl.v λc=>Ld h n mI λd=>aW (d>=1) (Ld h n mI λd=>KC K Kp a b x y z (c.n:Int) (decide (d<=20)) h) (KC K Kp a b x y z (c.n:Int) false h)):
 qV K Kp n a b x y z h:=jf H
theorem Kw.of{K:bG}(H:
 Ld h (n.add 3) mI λc=>aW (c>=3) (Ld h (n.add 3) mI λc=>qV K Kp n a b x y (decide (c<=10)) h) (qV K Kp n a b x y false h)):
 Kw K Kp n a b x y h:=jf H
theorem Kx.of{K:bG}(H:
 If ya (qV K Kp n 1 1 x y z h) (If (c==16) (Ld h (n.add 1) mI λa=>aW (a>=1) (Ld h (n.add 1) mI λa=>qV K Kp n 1 1 (decide (a<=64)) y z h) (qV K Kp n 1 1 false y z h)) (If (c==17) (qV K Kp n a 32 x y z h) (If (c==18) (qV K Kp n 1 32 x y z h) (If (c==19) (Ld h (n.add 2) mI λa=>aW (a>=0) (Ld h (n.add 2) mI λa=>Kw K Kp n 1 1 x (decide (a<32)) h) (Kw K Kp n 1 1 x false h)) (qV K Kp n a b x y z h)))))):
 Kx K Kp n a b x y z c ya h:=jf H
theorem LW.of{K:bG}(H:
 wh h a b c d A λa b=>Ld b (a.add 1) mI λc=>Ld b (a.add 2) mI λd=>Ld b (a.add 3) mI λe=>Ld b a mI λf=>If (f==14) (Ld b (a.add 1) mI λc=>aW (c>=1) (Ld b (a.add 1) mI λc=>qV K Kp a 0 0 (decide (c<=16)) (d==0) (e==0) b) (qV K Kp a 0 0 false (d==0) (e==0) b)) (If (f==15) (Kx K Kp a 0 0 (c==0) (d==0) (e==0) f (f==15) b) (Kx K Kp a 0 0 (c==0) (d==0) (e==0) f (f==20) b))):
 LW a b c d A h K Kp:=cK (xI K Kp) dz K Tryz.func82 H
theorem LV.of{K:bG}(H:
 fV h V x a b c d A λa b=>Ld b (a.add 2) mI λc=>If (c==1) (Ld b (a.add 1) .bool λa=>K a b) (If (c==18) (Ld b (a.add 1) .bool λa=>K (!a) b) (If (c==20) (Ld b (a.add 1) .bool λc=>Ld b ((a.add 2).add 4) Sl.v λa=>Ix a.a a.n 7 0 λa=>Ld b (a.add 1) .bool λa=>K (c==a) b) (K true b)))):
 LV V x a b c d A h K Kp:=c9 dz K Tryz.func83 H
noncomputable def Et:=mc aG Tryz.f84 (am [(2000016,483),(2000025,451),(2000027,259),(2028,771),(65014,9223372036854776195)]) [] dm
def Wc:=fK 92 [0,1,8,9] [.t,tI,tI,tI]
def J8:=lK Et 2028 8186 Wc
def Sd:=jK Et 2 1023 [.t,tI,tI]
def F1:=rK Et 4 2044 [.t,tI,.i .u8,tI,.b]
def wE:=jK Et 1 511 [.t,tI,.i .u8,.i .u8,tI]
def uK:=jK Et 0 255 [.t,tI,.i .u8,.i .u8,.i .u8,tI]
theorem J8.bC{K:bT}:eX (A0:=Int) (J8 K Kp V a b) (Wc V a b) λc d e=>(aW (d<b) (aP (a+d) λf=>gY V f λf=>aW (f<128) (K 0 e) (aP (a+d) λf=>gY V f λf=>aW (f>191) (K 0 e) (aP (d+1) λd=>c (Wc V a b d) e))) (K b e)):=ff
theorem Sd.of{K:bT}(H:
 J8 K Kp V a b 2 h):
 Sd K Kp V a b h:=jf H
theorem F1.of{K:bT}(H:
 If x (K 0 h) (aP (a+1) λd=>gY V d λd=>aW (d>b) (K 0 h) (Sd K Kp V a c h))):
 F1 K Kp V a b c x h:=jf H
theorem wE.of{K:bT}(H:
 aP (a+d) λe=>aW (e>(V.size:Int)) (F1 K Kp V a c d true h) (aP (a+1) λe=>gY V e λe=>F1 K Kp V a c d (decide (e<b)) h)):
 wE K Kp V a b c d h:=jf H
theorem uK.of{K:bT}(H:
 If (b==224) (wE K Kp V a 160 d e h) (If (b==237) (wE K Kp V a c 159 e h) (If (b==240) (wE K Kp V a 144 d e h) (If (b==244) (wE K Kp V a c 143 e h) (wE K Kp V a c d e h))))):
 uK K Kp V a b c d e h:=jf H
theorem L7.of{K:bT}(H:
 aW (a>=(V.size:Int)) (K 0 h) (gY V a λb=>aW (b<128) (K 1 h) (aW (b>=194) (aW (b<=223) (uK K Kp V a b 128 191 2 h) (aW (b>=224) (aW (b<=239) (uK K Kp V a b 128 191 3 h) (aW (b>=240) (aW (b<=244) (uK K Kp V a b 128 191 4 h) (K 0 h)) (K 0 h))) (aW (b>=240) (aW (b<=244) (uK K Kp V a b 128 191 4 h) (K 0 h)) (K 0 h)))) (aW (b>=224) (aW (b<=239) (uK K Kp V a b 128 191 3 h) (aW (b>=240) (aW (b<=244) (uK K Kp V a b 128 191 4 h) (K 0 h)) (K 0 h))) (aW (b>=240) (aW (b<=244) (uK K Kp V a b 128 191 4 h) (K 0 h)) (K 0 h)))))):
 L7 V a h K Kp:=cK (Et K Kp) dm K Tryz.func84 H
noncomputable def Jc:=mc aG Tryz.f85 (am [(2000003,12),(2004,44),(41012,262156),(41019,33554444)]) [] dz
def Vv:=fK 55 [2,3,5] [.d,.d,tI]
def Qj:=lK Jc 2004 58 Vv
def RD:=jK Jc 0 7 [.d,.d]
def Ct:=rK Jc 3 12 [.d,.d,.b]
def Cv:=rK Jc 2 12 [.d,.d,.b]
theorem Qj.bC{K:bG}:eX (A0:=Int) (Qj K Kp n o) (Vv n o) λa b c=>(Ld c (n.add 3) Sl.v λd=>aW (b<(d.n:Int)) (Ld c (n.add 3) Sl.v λd=>Ix d.a d.n 4 b λd=>bN c d λd e f g=>Ld c (o.add 3) Sl.v λi=>Ix i.a i.n 4 b λi=>bN c i λi j k l=>CV d e f g i j k l c (λc d=>If (!c) (K false d) (aP (b+1) λb=>a (Vv n o b) d)) Kp) (K true c)):=ff
theorem RD.of{K:bG}(H:
 Qj K Kp n o 0 h):
 RD K Kp n o h:=jf H
theorem Ct.of{K:bG}(H:
 If x (K false h) (Ld h (n.add 3) Sl.v λa=>Ld h (o.add 3) Sl.v λb=>If ((a.n:Int)!=(b.n:Int)) (K false h) (RD K Kp n o h))):
 Ct K Kp n o x h:=jf H
theorem Cv.of{K:bG}(H:
 If x (Ct K Kp n o true h) (Ld h (n.add 2) .string λa=>Ld h (o.add 2) .string λb=>Ct K Kp n o (!(a.toList==b.toList)) h)):
 Cv K Kp n o x h:=jf H
theorem CV.of{K:bG}(H:
 iK h x a V A λa c=>iK c y b W B λb c=>Ld c a .bool λd=>Ld c b .bool λe=>If (!(d==e)) (Cv K Kp a b true c) (Ld c (a.add 1) mI λd=>Ld c (b.add 1) mI λe=>Cv K Kp a b (d !=e) c)):
 CV x a V A y b W B h K Kp:=cK (Jc K Kp) dz K Tryz.func85 H
noncomputable def I9:=mc aG Tryz.f86 (am [(2000005,9),(2011,73),(2018,257),(6109999,649037107316853453566312041152513)]) [] dm
def Vx:=fK 122 [0,3,6] [.p,.d,tI]
def J1:=lK I9 2011 8106 Vx
def Vw:=fK 122 [0,8] [.p,tI]
def J0:=lK I9 2018 32442 Vw
def Fh:=jK I9 3 64895 [.p,.b]
def RE:=jK I9 0 15 [.p,.d]
theorem J1.bC{K:bT}:eX (A0:=Int) (J1 K Kp P n) (Vx P n) λa b c=>(Ld c (n.add 1) mI λd=>aW (b<d) (NN P λd=>Ld c (d.add 18) Sl.v λd=>Ix d.a d.n 1 0 λd=>Ld c d .pointer λd=>qZ d c (λc d=>If (c !=0) (K c d) (aP (b+1) λb=>a (Vx P n b) d)) Kp) (K 3 c)):=ff
theorem J0.bC{K:bT}:eX (A0:=Int) (J0 K Kp P) (Vw P) λa b c=>(NN P λd=>Ld c (d.add 18) Sl.v λd=>aW (b<(d.n:Int)) (NN P λd=>Ld c (d.add 18) Sl.v λd=>Ix d.a d.n 1 b λd=>Ld c d .pointer λd=>qZ d c (λc d=>If (c !=0) (K c d) (aP (b+1) λb=>a (Vw P b) d)) Kp) (K 3 c)):=ff
theorem Fh.of{K:bT}(H:
 If x (NN P λa=>Ld h (a.add 18) Sl.v λa=>Ix a.a a.n 1 0 λa=>Ld h a .pointer λa=>qZ a h (λa b=>If (a !=0) (K a b) (K 3 b)) Kp) (K 3 h)):
 Fh K Kp P x h:=jf H
theorem RE.of{K:bT}(H:
 NN P λa=>Ld h (a.add 7) mI λa=>aW (a>=4096) (K 3 h) (NN P λa=>Ld h (a.add 7) mI λa=>aP (a+1) λa=>NN P λb=>St h (b.add 7) (ah a) λa=>Ld a n mI λb=>If (b==16) (J1 K Kp P n 0 a) (If (b==17) (J0 K Kp P 0 a) (If (b==19) (NN P λb=>Ld a (b.add 17) Sl.v λc=>Ld a (n.add 3) mI λd=>GA d a (λd e=>aT a e (b.add 17) 1 <|aW ((c.n:Int)>=d) (K 102 e) (NN P λa=>Ld e (a.add 18) Sl.v λa=>Ix a.a a.n 1 0 λa=>Ld e a .pointer λa=>qZ a e (λa b=>If (a !=0) (K a b) (K 3 b)) Kp)) Kp) (If (b==18) (Fh K Kp P (b==18) a) (Fh K Kp P (b==20) a)))))):
 RE K Kp P n h:=jf H
theorem qZ.of{K:bT}(H:
 NN P λa=>gX h (a.add 2) λa b c d e=>aL h oU kH λf g=>lW g f a b c d e λa=>NN P λb=>bP a b λb c d e g i j=>uM b c d e g i j a (λa b=>aW (a<=4194304) (NN P λa=>bP b a λa c d e f g i=>Lj a c d e f g i b (λa b c d _ e=>aL e gl di λe f=>dK f e a b c d λa=>bN a e λb c d e=>q8 P b c d e a (λa b=>K a b) Kp) Kp) (RE K Kp P f b)) Kp):
 qZ P h K Kp:=cK (I9 K Kp) dm K Tryz.func86 H
theorem GA.of{K:bT}(H:
 If (a==3) (K 128 h) (If (a==7) (K 256 h) (K 4097 h))):
 GA a h K Kp:=c9 dm K Tryz.func87 H
noncomputable def qL:=mc aG Tryz.f88 (am [(2000009,316),(2000015,316),(2000021,316),(2022,9304595970494411110326649421962412348),(64014,1393805879504134440757092718689944556560700),(2016,4436777100798802905238461219132),(2010,270799383593676935134183740),(3400005,134218044),(3600007,281474976710972),(47008,302231454903657293676860),(45008,72057594037928252),(45013,2305843009213694268),(43012,549755814332)]) [] nJ
def Il:=fK 161 [2,3,4,5,8,120,121,122] [.d,.d,.d,tI,tI,.s,tI,tI]
def F5:=rK1 qL 4 130354 [.d,.d,.d,tI,tI,tI,.d,.s,tI,tI,.b]
def Q7:=lK qL 2022 1018 Il
def KK:=jK qL 2 127 [.d,.d,.d,tI,tI]
def Wg:=fK 161 [2,3,4,5,8,99,100,101] [.d,.d,.d,tI,tI,.s,tI,tI]
def Q6:=lK qL 2016 506 Wg
def KL:=jK qL 1 63 [.d,.d,.d,tI,tI]
def Wf:=fK 161 [2,3,4,5,8,85,86,87] [.d,.d,.d,tI,tI,.s,tI,tI]
def Q3:=lK qL 2010 250 Wf
def KN:=jK qL 0 31 [.d,.d,.d,tI,tI]
def CO:=rK qL 9 1950 [.d,.d,.d,tI,tI,.b]
def Ak:=jK qL 8 487 [.d,.d,.d,tI,tI,.b]
def An:=rK qL 11 486 [.d,.d,.d,tI,tI,.b]
def CN:=rK qL 10 486 [.d,.d,.d,tI,tI,.b]
def Al:=jK qL 7 121 [.d,.d,.d,tI,tI,.b]
def Am:=rK qL 12 120 [.d,.d,.d,tI,tI,tI,.b]
theorem F5.of{K:iP}(H:
 If x (aP (a+c) λa=>mz 82 a h (λa b c d=>dS d p a b c λa=>eu a p λb c d=>K b c d a) Kp) (Ld h (n.add 2) mI λf=>If (f==17) (Ld h q mI λf=>aW (f<b) (aP (a+c) λa=>mz 82 a h (λa b c d=>dS d p a b c λa=>eu a p λb c d=>K b c d a) Kp) (aP (e+1) λc=>N1 (Il n o p a b A d c) h)) (aP (e+1) λc=>N1 (Il n o p a b A d c) h))):
 F5 K Kp N1 n o p a b c q A d e x h:=jf H
theorem Q7.bC{K:iP}:eX (A0:=Int) (Q7 K Kp n o p a b A c) (Il n o p a b A c) λd e f=>(aW (e<c) (Ix A.a A.n 6 e λg=>bY f g λg i j k l m=>aL f cY cg λf q=>cJ q f g i j k l m λg=>Ld g (n.add 2) mI λi=>If (i==16) (Ld g f mI λi=>Ld g ((n.add 2).add 1) mI λj=>aP (b*j) λj=>F5 K Kp d n o p a b e f A c e (decide (i<j)) g) (F5 K Kp d n o p a b e f A c e false g)) (bP f n λa b c d e g i=>bY f o λj k l m n q=>L3 a b c d e g i j k l m n q f (λa b c d=>dS d p a b c λa=>eu a p λb c d=>K b c d a) Kp)):=ff
theorem KK.of{K:iP}(H:
 Ld h (o.add 4) Sl.v λc=>Q7 K Kp n o p a b c (c.n:Int) 0 h):
 KK K Kp n o p a b h:=jf H
theorem Q6.bC{K:iP}:eX (A0:=Int) (Q6 K Kp n o p a b A c) (Wg n o p a b A c) λd e f=>(aW (e<c) (Ix A.a A.n 1 e λg=>Ld f g Sl.v λg=>gX f (n.add 2) λi j k l m=>L4 i j k l m e b (g.n:Int) f (λf i=>aW ((g.n:Int)<f) (mz 82 e i (λa b c d=>dS d p a b c λa=>eu a p λb c d=>K b c d a) Kp) (aP (e+1) λe=>d (Wg n o p a b A c e) i)) Kp) (KK K Kp n o p a b f)):=ff
theorem KL.of{K:iP}(H:
 Ld h (o.add 3) Sl.v λc=>Q6 K Kp n o p a b c (c.n:Int) 0 h):
 KL K Kp n o p a b h:=jf H
theorem Q3.bC{K:iP}:eX (A0:=Int) (Q3 K Kp n o p a b A c) (Wf n o p a b A c) λd e f=>(aW (e<c) (Ix A.a A.n 1 e λg=>Ld f g Sl.v λg=>aW ((g.n:Int)>65536) (mz 4 e f (λa b c d=>dS d p a b c λa=>eu a p λb c d=>K b c d a) Kp) (aP (e+1) λe=>d (Wf n o p a b A c e) f)) (KL K Kp n o p a b f)):=ff
theorem KN.of{K:iP}(H:
 Ld h (o.add 3) Sl.v λc=>Q3 K Kp n o p a b c (c.n:Int) 0 h):
 KN K Kp n o p a b h:=jf H
theorem CO.of{K:iP}(H:
 If x (mz 3 0 h (λa b c d=>dS d p a b c λa=>eu a p λb c d=>K b c d a) Kp) (aW (b>4096) (mz 3 0 h (λa b c d=>dS d p a b c λa=>eu a p λb c d=>K b c d a) Kp) (KN K Kp n o p a b h))):
 CO K Kp n o p a b x h:=jf H
theorem Ak.of{K:iP}(H:
 If x (mz 81 0 h (λa b c d=>dS d p a b c λa=>eu a p λb c d=>K b c d a) Kp) (Ld h o mI λc=>aW (c>4096) (CO K Kp n o p a b true h) (Ld h (o.add 1) mI λc=>CO K Kp n o p a b (decide (c>4096)) h))):
 Ak K Kp n o p a b x h:=jf H
theorem An.of{K:iP}(H:
 If x (Ak K Kp n o p a b true h) (Ld h (o.add 2) mI λc=>Ld h o mI λd=>Ak K Kp n o p a b (decide (c>d)) h)):
 An K Kp n o p a b x h:=jf H
theorem CN.of{K:iP}(H:
 If x (An K Kp n o p a b true h) (Ld h (o.add 2) mI λc=>An K Kp n o p a b (decide (c<0)) h)):
 CN K Kp n o p a b x h:=jf H
theorem Al.of{K:iP}(H:
 If x (mz 80 0 h (λa b c d=>dS d p a b c λa=>eu a p λb c d=>K b c d a) Kp) (Ld h o mI λc=>aW (c<0) (CN K Kp n o p a b true h) (Ld h (o.add 1) mI λc=>CN K Kp n o p a b (decide (c<0)) h))):
 Al K Kp n o p a b x h:=jf H
theorem Am.of{K:iP}(H:
 If x (Al K Kp n o p a c true h) (Ld h (o.add 5) Sl.v λd=>Al K Kp n o p a c ((d.n:Int)!=b) h)):
 Am K Kp n o p a b c x h:=jf H
theorem Mg.of{K:iP}(H:
 fV h V x a b c d A λa b=>n8 b e f g B C D λb c=>aL c kJ kG λc d=>gX d (a.add 2) λe f g i j=>L5 e f g i j d (λd e f g=>Ld g (b.add 1) mI λi=>Ld g b mI λj=>aP (i+j) λi=>Ld g (b.add 3) Sl.v λj=>If ((j.n:Int)!=d) (Am K Kp a b c d f i true g) (Ld g (b.add 4) Sl.v λj=>Am K Kp a b c d f i ((j.n:Int)!=e) g)) Kp):
 Mg V x a b c d A e f g B C D h K Kp:=cK (qL K Kp) nJ K Tryz.func88 H
noncomputable def OY:=mc aG Tryz.f89 (am [(3500006,24604),(2008,50331672),(2020,7083549724304467820572)]) [] nJ
def aol:=fK 95 [3,4,24,25] [.d,.d,tI,tI]
def awr:=lK OY 2008 1722 aol
def aok:=fK 95 [2,3,4,71,72] [.d,.d,.d,tI,tI]
def awq:=lK OY 2020 6906 aok
def F4:=jK OY 0 53 [.d,.d,.d,tI,.b]
theorem F4.of{K:iP}(H:
 If x (bP h n λa b c d e f g=>bY h o λi j k l m n=>awA a b c d e f g i j k l m n h (λa b c d=>dS d p a b c λa=>eu a p λb c d=>K b c d a) Kp) (If (a==18) (Ld h o mI λa=>awr K Kp o p a 0 h) (If (a==19) (Ld h o mI λa=>awq K Kp n o p a 0 h) (dS h p 0 bM 0 λa=>eu a p λb c d=>K b c d a)))):
 F4 K Kp n o p a x h:=jf H
theorem Mf.of{K:iP}(H:
 fV h V x a b c d A λa b=>n8 b e f g B C D λb c=>aL c kJ kG λc d=>Ld d (a.add 2) mI λe=>If (e==12) (F4 K Kp a b c e (e==12) d) (If (e==13) (F4 K Kp a b c e (e==13) d) (F4 K Kp a b c e (e==15) d))):
 Mf V x a b c d A e f g B C D h K Kp:=cK (OY K Kp) nJ K Tryz.func89 H
theorem Mn.of{K:gw}(H:
 n8 h a b c A B C λa b=>Ld b (a.add 5) Sl.v λc=>aW ((c.n:Int)>0) (Ld b (a.add 5) Sl.v λa=>K a b) (Ld b (a.add 4) Sl.v λa=>K a b)):
 Mn a b c A B C h K Kp:=c9 gP K Tryz.func90 H
noncomputable def BH:=mc aG Tryz.f93 (am [(2005,100664220),(2000036,100677532),(2037,21969856073853382673425262981226832456358244055624221460380),(4600017,4505798751305628),(2023,70988433612780846483815480180636),(2033,100745116)]) [(16,(OT.l [0,1,2,3,4,5,6,7,8,9,11,12,13,14,15,10,16,17,18,19,20] .fin)),(18,(OT.l [0,1,2,3,4,6,7,8,9,10,11,5,12,13,14] .fin)),(33,(OT.l [0,1,2,3,4,5,6,7,9,8,10] .fin))] gP
def Ik:=fK 207 [2,3,4,7,8,25,9,26] [.s,.d,.d,.d,.s,tI,tI,tI]
def We:=fK 207 [2,3,4,7,8,9,10,25,26,191,192,193] [.s,.d,.d,.d,.s,tI,tI,tI,tI,.s,tI,tI]
def QZ:=DP BH 2037 2051326 We
def wF:=rE BH 1 512831 [.s,.d,.d,.d,.s,tI,tI,tI,tI,tI,tI]
def aoj:=fK 207 [2,3,4,7,8,9,10,11,12,13,25,26,103,104,105] [.s,.d,.d,.d,.s,tI,tI,tI,tI,tI,tI,tI,.s,tI,tI]
def awp:=DP BH 2023 8402219002 aoj
def aoi:=fK 207 [2,3,4,7,8,10,11,12,13,16,25,26,9] [.s,.d,.d,.d,.s,tI,tI,tI,tI,.d,tI,tI,tI]
def awo:=DP BH 2033 1075484033012 aoi
def KJ:=rE BH 3 16410583 [.s,.d,.d,.d,.s,tI,tI,tI,tI,tI,tI,tI,tI,.b]
def Q1:=lK BH 2005 250 Ik
theorem QZ.bC{K:gw}:eX (A0:=Int) (QZ K Kp N1 A n o p B a b c d C e) (We A n o p B a b c d C e) λf g i=>(aW (g<e) (Ix C.a C.n 1 g λj=>Ld i j mI λj=>Ix B.a B.n 1 b λk=>Ld i k mI λk=>aP (k+j) λj=>Ix B.a B.n 1 b λk=>St i k (ah j) λi=>aP (g+1) λg=>f (We A n o p B a b c d C e g) i) (aP (d+1) λb=>N1 (Ik A n o p B c a b) i)):=ff
theorem wF.of{K:gw}(H:
 Tj A c d h (λc d=>QZ K Kp N1 A n o p B a b e f c (c.n:Int) 0 d) Kp):
 wF K Kp N1 A n o p B a b c d e f h:=jf H
theorem KJ.of{K:gw}(H:
 If x (Ix B.a B.n 1 b λi=>Ld h i mI λj=>Ld h (o.add 3) Sl.v λk=>Ix k.a k.n 1 1 λk=>Ld h k Sl.v λk=>aP (c+1) λl=>Ld h (o.add 3) Sl.v λm=>Ix m.a m.n 1 1 λm=>Ld h m Sl.v λq=>L0 k l h (λk l=>aT h l m 1 <|aT h l (o.add 3) 1 <|aT h l i 1 <|L0 q c l (λc m=>aT l m i 1 <|aP (k-c) λc=>aP (j+c) λc=>Ix B.a B.n 1 b λi=>St m i (ah c) λc=>wF K Kp N1 A n o p B a b d e f g c) Kp) Kp) (If (i==15) (Ld h (o.add 3) Sl.v λd=>Ix d.a d.n 1 1 λd=>Ld h d Sl.v λd=>Ld h (o.add 3) Sl.v λe=>Ix e.a e.n 1 1 λe=>Ld h e Sl.v λi=>aP (c+1) λj=>L0 d c h (λc d=>aT h d e 1 <|aT h d (o.add 3) 1 <|L0 i j d (λd e=>wF K Kp N1 A n o p B a b c d f g e) Kp) Kp) (If (i==16) (Ld h (p.add 1) mI λd=>aP (c*d) λd=>aP (c+1) λc=>Ld h (p.add 1) mI λe=>aP (c*e) λc=>wF K Kp N1 A n o p B a b d c f g h) (If (i==17) (awp K Kp N1 A n o p B a b c d e f g A (A.n:Int) 0 h) (If (i==18) (Ix B.a B.n 1 b λi=>Ld h i mI λj=>Ld h (o.add 3) Sl.v λk=>Ix k.a k.n 1 0 λk=>Ld h k Sl.v λl=>Ix l.a l.n 1 c λl=>Ld h l (.int .u8) λm=>Ix A.a A.n 1 m λm=>Ld h m Sl.v λq=>Ld h (o.add 3) Sl.v λr=>Ix r.a r.n 1 1 λr=>Ld h r Sl.v λr=>L0 r c h (λc r=>aT h r m 1 <|aT h r l 1 <|aT h r k 1 <|aT h r (o.add 3) 1 <|aT h r i 1 <|Ix q.a q.n 1 c λc=>Ld r c mI λc=>aP (j+c) λc=>Ix B.a B.n 1 b λi=>St r i (ah c) λc=>wF K Kp N1 A n o p B a b d e f g c) Kp) (If (i==19) (Ix A.a A.n 1 0 λi=>Ld h i Sl.v λj=>bP h n λk l m q r s t=>bY h o λu v w x y z=>awz k l m q r s t u v w x y z c h (λc k=>aT h k i 1 <|Ix j.a j.n 1 c λc=>Ld k c mI λc=>Ix B.a B.n 1 b λi=>St k i (ah c) λc=>wF K Kp N1 A n o p B a b d e f g c) Kp) (If (i==20) (Ld h (o.add 4) Sl.v λi=>Ix i.a i.n 6 0 λi=>bY h i λi j k l m q=>aL h cY cg λr s=>cJ s r i j k l m q λi=>awo K Kp N1 A n o p B b c d e r f g a i) (wF K Kp N1 A n o p B a b d e f g h)))))))):
 KJ K Kp N1 A n o p B a b c d e f g i x h:=jf H
theorem Q1.bC{K:gw}:jM (A0:=Int) (A1:=Int) (Q1 K Kp A n o p B a) (Ik A n o p B a) λb c d e=>(aW (d<a) (Ld e (o.add 1) mI λf=>aP (f+d) λf=>Ix B.a B.n 1 d λg=>St e g (ah 16) λe=>bP e n λg i j k l m q=>bY e o λr s t u v w=>GV g i j k l m q r s t u v w f e (λe g=>If e (aP (d+1) λd=>b (Ik A n o p B a c d) g) (Ld g p mI λe=>If (e==14) (Ix B.a B.n 1 d λe=>Ld g e mI λe=>Ld g (p.add 1) mI λf=>aP (e+f) λe=>Ix B.a B.n 1 d λf=>St g f (ah e) λe=>wF K Kp b A n o p B c d 0 0 a d e) (If (e==12) (KJ K Kp b A n o p B c d f 0 0 a d e (e==12) g) (KJ K Kp b A n o p B c d f 0 0 a d e (e==13) g)))) Kp) (K B e)):=jU
theorem Me.of{K:gw}(H:
 fV h V x a b c d A λa b=>n8 b e f g B C D λb c=>gX c (a.add 2) λd e f g i=>aL c oU kH λc j=>lW j c d e f g i λd=>Ld d b mI λe=>dO d Y6 #[(ah 0)] 1 8 e e λd e=>Q1 K Kp E a b c d (d.n:Int) 0 0 e):
 Me V x a b c d A e f g B C D E h K Kp:=cK (BH K Kp) gP K Tryz.func93 H
theorem Mo.of{K:qp}(H:
 aL h gl di λb c=>NN P λd=>Ld c (d.add 13) mI λd=>aP (d+a) λa=>Mb P a Q c (λa c d e f=>dK f b a c d e λa=>bN a b λb c d e=>K b c d e a) Kp):
 Mo P a Q h K Kp:=c9 tO K Tryz.func95 H
theorem ZY.of{K:iY}(H:
 aL h (Value.cells Y) agF λa b=>aL b #[(.nilFunc)] agE λb c=>NA (.func (.func 97) #[] #[(cU a),(cU n),(cU b)]) <|St c b (.func (.func 97) #[] #[(cU a),(cU n),(cU b)]) λa=>Ld a b id λb=>Ld a o Sl.v λc=>c8 aG b [(.slice none 0 0),(Sl.v c),(.bool false)] a (λa b=>∃c:Bool,a=(.bool c)/\(K  b)) Kp):
 ZY Y n o h K Kp:=c9 kK K Tryz.func96 H
noncomputable def BG:=mc aG Tryz.f97 (am [(2001000,57407),(2002,57407),(1002903000,122943),(2000004,60479),(2000005,64575),(2000007,63551)]) [] dz
def zg:=fK 56 [0,1,2,3,4,5,13,14,15] [.s,.s,.b,.d,.d,.d,.s,tI,tI]
def R8:=rE BG 5 6759 [.s,.s,.b,.d,.d,.d,.d,.s,.s,tI,tI]
def R9:=rE BG 4 3379 [.s,.s,.b,.d,.d,.d,tI,.d,.s,.s,tI,tI]
def Sa:=rE BG 3 1689 [.s,.s,.b,.d,.d,.d,tI,.d,.s,tI,tI]
def Sb:=rE BG 2 105 [.s,.s,.b,.d,.d,.d,.s,tI,tI,.b]
def QT:=lK BG 2002 26 zg
def Sc:=jK BG 0 13 [.s,.s,.b,.d,.d,.d,.s,tI,tI]
theorem R8.of{K:bG}(H:
 Ld h o mI λc=>aW ((C.n:Int)<c) (Ld h p id λc=>Ld h ((q.add 2).add 4) Sl.v λd=>If x (c8 aG c [(Sl.v C),(Sl.v d),(.bool true)] h (λc d=>∃e:Bool,c=(.bool e)/\(If (!e) (K false d) (aP (b+1) λb=>N1 (zg A B x n o p D a b) d))) Kp) (Ld h (q.add 2) mI λe=>c8 aG c [(Sl.v C),(Sl.v d),(.bool (e==19))] h (λc d=>∃e:Bool,c=(.bool e)/\(If (!e) (K false d) (aP (b+1) λb=>N1 (zg A B x n o p D a b) d))) Kp)) (aP (b+1) λb=>N1 (zg A B x n o p D a b) h)):
 R8 K Kp N1 A B x n o p q C D a b h:=jf H
theorem R9.of{K:bG}(H:
 Ld h n id λd=>jA B 7 none (some a) none λa=>bP h q λe f g i j k l=>c8 aG d [(.agg #[(Sl.v C),(Sl.v a),(.string e),(.bool f),(ah g),(ah i),(ah j),(ah k),(Sl.v l),(.bool x)])] h (λa d=>∃e:Bool,a=(.bool e)/\(If (!e) (K false d) (R8 K Kp N1 A B x n o p q C D b c d))) Kp):
 R9 K Kp N1 A B x n o p a q C D b c h:=jf H
theorem Sa.of{K:bG}(H:
 LD A h (λd e=>aL e #[(ah a)] Y6 λe f=>Ap f Y6 #[(ah 0)] 1 8 d 1 (rd f (some e) (1*1)) λd e=>R9 K Kp N1 A B x n o p a q d C b c e) Kp):
 Sa K Kp N1 A B x n o p a q C b c h:=jf H
theorem Sb.of{K:bG}(H:
 If y (Ix C.a C.n 7 b λc=>bP h c λc d e f g i j=>aL h mV iI λk l=>kg l k c d e f g i j λc=>Sa K Kp N1 A B x n o p b k C a b c) (K true h)):
 Sb K Kp N1 A B x n o p C a b y h:=jf H
theorem QT.bC{K:bG}:eX (A0:=Int) (QT K Kp A B x n o p C a) (zg A B x n o p C a) λb c d=>(Sb K Kp b A B x n o p C a c (decide (c<a)) d):=ff
theorem Sc.of{K:bG}(H:
 QT K Kp A B x n o p C a b h):
 Sc K Kp A B x n o p C a b h:=jf H
theorem Ti.of{K:bG}(H:
 Sc K Kp A B x n o p B (B.n:Int) 0 h):
 Ti A B x n o p h K Kp:=cK (BG K Kp) dz K Tryz.func97 H
theorem LD.of{K:gw}(H:
 If (Option.isNone A.a) (K bM h) (aL h #[] Y6 λa b=>Ap b Y6 #[(ah 0)] 1 8 (⟨some a,0,0⟩:Sl) A.n (rd b A.a (A.n*1)) λa b=>K a b)):
 LD A h K Kp:=c9 gP K Tryz.func98 H
noncomputable def afL:=mc aG Tryz.f99 (am [(2002,193)]) [] dz
def DM:=fK 36 [0,6,7] [.t,tI,tI]
def QS:=lK afL 2002 26 DM
theorem QS.bC{K:bG}:eX (A0:=Int) (QS K Kp V a) (DM V a) λb c d=>(aW (c<a) (gY V c λe=>LK e d (λd f=>If (!d) (K false f) (If (c==0) (aW (e>=48) (aW (e<=57) (K false f) (aP (c+1) λc=>b (DM V a c) f)) (aP (c+1) λc=>b (DM V a c) f)) (aP (c+1) λc=>b (DM V a c) f))) Kp) (If (!(V.toList==(bs []).toList)) (K (decide ((V.size:Int)<=48)) d) (K false d))):=ff
theorem LU.of{K:bG}(H:
 QS K Kp V (V.size:Int) 0 h):
 LU V h K Kp:=cK (afL K Kp) dz K Tryz.func99 H
theorem LC.of{K:bG}(H:
 Tf A Y h (λa b=>K (decide (a>=0)) b) Kp):
 LC A Y h K Kp:=c9 dz K Tryz.func100 H
theorem ZX.of{K:bG}(H:
 fV h V x a b c d A λa b=>Ld b a .string λa=>Ld b (n.add 2) .string λc=>K (a.toList==c.toList) b):
 ZX V x a b c d A n h K Kp:=c9 dz K Tryz.func101 H
noncomputable def xH:=mc aG Tryz.f102 (am [(2000019,122),(2000022,218),(2000023,474),(2000025,410),(65004,18889465931478580854810),(65011,2417851639229258349412370),(64008,288230376151711898),(64013,9223372036854775962)]) [] dz
def yE:=rK xH 5 2046 [.d,tI,.b]
def yF:=rK xH 4 2046 [.d,tI,tI,.b]
def uJ:=jK xH 3 1023 [.d,tI,tI,.b,.b]
def Ah:=rK xH 7 4090 [.d,tI,tI,.b,.b]
def FU:=rK xH 6 4090 [.d,tI,tI,.b,.b]
def FV:=jK xH 2 511 [.d,tI,tI,.b,.b,.b]
def CF:=jK xH 1 255 [.d,tI,tI,.b,.b]
def oO:=jK xH 0 63 [.d,tI,tI,tI,.b]
theorem yE.of{K:bG}(H:
 If x (Ld h (n.add 4) Sl.v λb=>K (decide ((b.n:Int)<=a)) h) (K false h)):
 yE K Kp n a x h:=jf H
theorem yF.of{K:bG}(H:
 If x (Ld h (n.add 4) Sl.v λc=>yE K Kp n b (decide ((c.n:Int)>=a)) h) (yE K Kp n b false h)):
 yF K Kp n a b x h:=jf H
theorem uJ.of{K:bG}(H:
 If x (yF K Kp n a b y h) (yF K Kp n a b false h)):
 uJ K Kp n a b x y h:=jf H
theorem Ah.of{K:bG}(H:
 If y (Ld h (n.add 3) mI λc=>Ix (some ((aF 2))) 21 4 c λc=>Ld h (c.add 3) .bool λc=>uJ K Kp n a b x c h) (uJ K Kp n a b x false h)):
 Ah K Kp n a b x y h:=jf H
theorem FU.of{K:bG}(H:
 If y (Ld h (n.add 3) mI λc=>GQ c h (λc d=>Ah K Kp n a b x c d) Kp) (Ah K Kp n a b x false h)):
 FU K Kp n a b x y h:=jf H
theorem FV.of{K:bG}(H:
 If x (Ld h (n.add 2) mI λc=>aW (c>=0) (Ld h (n.add 2) mI λc=>FU K Kp n a b y (decide (c<32)) h) (FU K Kp n a b y false h)) (uJ K Kp n a b y z h)):
 FV K Kp n a b x y z h:=jf H
theorem CF.of{K:bG}(H:
 Ld h (n.add 2) mI λc=>If (c==0) (Ld h (n.add 3) mI λc=>FV K Kp n a b x y (c==0) h) (FV K Kp n a b x y false h)):
 CF K Kp n a b x y h:=jf H
theorem oO.of{K:bG}(H:
 Ld h (n.add 1) mI λd=>aW (c>0) (Ld h (n.add 1) mI λd=>aW (d>=1) (Ld h (n.add 1) mI λd=>CF K Kp n a b x (decide (d<=c)) h) (CF K Kp n a b x false h)) (CF K Kp n a b x (d==0) h)):
 oO K Kp n a b c x h:=jf H
theorem LS.of{K:bG}(H:
 wh h a b c d A λa b=>Ld b a mI λc=>GQ c b (λb c=>If (!b) (K false c) (Ld c a mI λb=>If (b==14) (oO K Kp a 0 0 16 false c) (If (b==15) (If (b==15) (oO K Kp a 1 1 0 false c) (If (b==16) (oO K Kp a 1 1 64 false c) (If (b==17) (oO K Kp a 0 32 0 false c) (If (b==18) (oO K Kp a 1 32 0 false c) (If (b==19) (oO K Kp a 1 1 0 true c) (oO K Kp a 0 0 0 false c)))))) (If (b==20) (oO K Kp a 1 1 0 false c) (If (b==16) (oO K Kp a 1 1 64 false c) (If (b==17) (oO K Kp a 0 32 0 false c) (If (b==18) (oO K Kp a 1 32 0 false c) (If (b==19) (oO K Kp a 1 1 0 true c) (oO K Kp a 0 0 0 false c))))))))) Kp):
 LS a b c d A h K Kp:=cK (xH K Kp) dz K Tryz.func102 H
theorem LR.of{K:bG}(H:
 fV h V x a b c d A λa b=>Ld b (a.add 2) mI λc=>If (c==1) (Ld b (a.add 1) .bool λa=>K a b) (If (c==18) (Ld b (a.add 1) .bool λa=>K (!a) b) (If (c==20) (Ld b (a.add 1) .bool λc=>Ld b ((a.add 2).add 4) Sl.v λa=>Ix a.a a.n 7 0 λa=>Ld b (a.add 1) .bool λa=>K (c==a) b) (K true b)))):
 LR V x a b c d A h K Kp:=c9 dz K Tryz.func103 H
noncomputable def afG:=mc aG Tryz.f105 (am [(2000002,1)]) [] Dz
def R5:=jK afG 0 7 [.t]
theorem R5.of{K:EW}(H:
 gY V 0 λa=>Wr .u64 a λa=>gY V 1 λb=>Wr .u64 b λb=>Nn 8<|Wr .u64 (b*2^(min (Int.toNat 8) (IntKind.bits .u64))) λb=>Lt (gu .or .u64 a b) λa=>gY V 2 λb=>Wr .u64 b λb=>Nn 16<|Wr .u64 (b*2^(min (Int.toNat 16) (IntKind.bits .u64))) λb=>Lt (gu .or .u64 a b) λa=>gY V 3 λb=>Wr .u64 b λb=>Nn 24<|Wr .u64 (b*2^(min (Int.toNat 24) (IntKind.bits .u64))) λb=>Lt (gu .or .u64 a b) λa=>gY V 4 λb=>Wr .u64 b λb=>Nn 32<|Wr .u64 (b*2^(min (Int.toNat 32) (IntKind.bits .u64))) λb=>Lt (gu .or .u64 a b) λa=>gY V 5 λb=>Wr .u64 b λb=>Nn 40<|Wr .u64 (b*2^(min (Int.toNat 40) (IntKind.bits .u64))) λb=>Lt (gu .or .u64 a b) λa=>gY V 6 λb=>Wr .u64 b λb=>Nn 48<|Wr .u64 (b*2^(min (Int.toNat 48) (IntKind.bits .u64))) λb=>Lt (gu .or .u64 a b) λa=>gY V 7 λb=>Wr .u64 b λb=>Nn 56<|Wr .u64 (b*2^(min (Int.toNat 56) (IntKind.bits .u64))) λb=>Lt (gu .or .u64 a b) λa=>K a h):
 R5 K Kp V h:=jf H
theorem tJ.of{K:EW}(H:
 R5 K Kp V h):
 tJ V h K Kp:=cK (afG K Kp) Dz K Tryz.func105 H
theorem uL.of{K:agZ}(H:
 aW (a>=3) (aW (a<=6) (aP (a-3) λa=>Nn a<|aP ((8:Int)*2^(min (Int.toNat a) (IntKind.bits .i64))) λa=>K a true h) (aP (a-7) λa=>Nn a<|aP ((8:Int)*2^(min (Int.toNat a) (IntKind.bits .i64))) λa=>K a false h)) (aP (a-7) λa=>Nn a<|aP ((8:Int)*2^(min (Int.toNat a) (IntKind.bits .i64))) λa=>K a false h)):
 uL a h K Kp:=c9 ab0 K Tryz.func106 H
noncomputable def OV:=mc aG Tryz.f107 (am [(41006,257),(41014,65537),(41022,16777217)]) [] dz
def FR:=rK OV 2 6 [.i .u8,.b]
def FT:=rK OV 1 6 [.i .u8,.b]
def Kt:=rK OV 0 6 [.i .u8,.b]
theorem FR.of{K:bG}(H:
 If x (K true h) (K (a==95) h)):
 FR K Kp a x h:=jf H
theorem FT.of{K:bG}(H:
 If x (FR K Kp a true h) (aW (a>=48) (FR K Kp a (decide (a<=57)) h) (FR K Kp a false h))):
 FT K Kp a x h:=jf H
theorem Kt.of{K:bG}(H:
 If x (FT K Kp a true h) (aW (a>=65) (FT K Kp a (decide (a<=90)) h) (FT K Kp a false h))):
 Kt K Kp a x h:=jf H
theorem LL.of{K:bG}(H:
 aW (a>=97) (Kt K Kp a (decide (a<=122)) h) (Kt K Kp a false h)):
 LL a h K Kp:=cK (OV K Kp) dz K Tryz.func107 H
noncomputable def OR:=mc aG Tryz.f108 (am [(2011,120),(2016,152),(2001004,844424930132120)]) [] dm
def VQ:=fK 81 [3,5,4,6] [.d,tI,tI,tI]
def Qw:=lK OR 2011 32118 VQ
def VP:=fK 81 [3,4,7] [.d,tI,tI]
def RL:=rE OR 2 257001 [.d,tI,tI,tI,.b]
def Qv:=lK OR 2016 64250 VP
theorem Qw.bC{K:bT}:jM (A0:=Int) (A1:=Int) (Qw K Kp n a) (VQ n a) λb c d e=>(Ld e (n.add 1) mI λf=>aW (d<f) (aW (c<=4194304) (aP (c+a) λc=>aP (d+1) λd=>b (VQ n a c d) e) (aW (c>4194304) (K 4194305 e) (K c e))) (aW (c>4194304) (K 4194305 e) (K c e))):=jU
theorem RL.of{K:bT}(H:
 Ld h (n.add 4) Sl.v λc=>Ix c.a c.n 7 b λc=>bP h c λc d e f g i j=>uM c d e f g i j h (λc d=>aP (a+c) λa=>aP (b+1) λb=>N1 (VP n a b) d) Kp):
 RL K Kp N1 n a b c x h:=jf H
theorem Qv.bC{K:bT}:jM (A0:=Int) (A1:=Int) (Qv K Kp n) (VP n) λa b c d=>(Ld d (n.add 4) Sl.v λe=>aW (c<(e.n:Int)) (aW (b<=4194304) (RL K Kp a n b c b (decide (b<=4194304)) d) (aW (b>4194304) (K 4194305 d) (K b d))) (aW (b>4194304) (K 4194305 d) (K b d))):=jU
theorem uM.of{K:bT}(H:
 fV h V x a b c d A λa b=>gX b (a.add 2) λc d e f g=>aL b oU kH λb i=>lW i b c d e f g λc=>Ld c (a.add 1) .bool λa=>If a (K 16 c) (Ld c b mI λa=>If (a==14) (Ld c (b.add 1) mI λa=>aP ((16:Int)+a) λa=>aW (a>4194304) (K 4194305 c) (K a c)) (If (a==16) (Ld c (b.add 4) Sl.v λa=>Ix a.a a.n 7 0 λa=>bP c a λa d e f g i j=>uM a d e f g i j c (λa c=>Qw K Kp b a 16 0 c) Kp) (If (a==17) (Qv K Kp b 16 0 c) (If (a==18) (Ld c (b.add 4) Sl.v λa=>Ix a.a a.n 7 0 λa=>bP c a λa b d e f g i=>uM a b d e f g i c (λa b=>aP ((16:Int)+a) λa=>aW (a>4194304) (K 4194305 b) (K a b)) Kp) (If (a==19) (If (a==19) (Ld c (b.add 4) Sl.v λa=>Ix a.a a.n 7 0 λa=>bP c a λa b d e f g i=>uM a b d e f g i c (λa b=>K a b) Kp) (aW ((16:Int)>4194304) (K 4194305 c) (K 16 c))) (If (a==20) (Ld c (b.add 4) Sl.v λa=>Ix a.a a.n 7 0 λa=>bP c a λa b d e f g i=>uM a b d e f g i c (λa b=>K a b) Kp) (aW ((16:Int)>4194304) (K 4194305 c) (K 16 c))))))))):
 uM V x a b c d A h K Kp:=cK (OR K Kp) dm K Tryz.func108 H
theorem Lj.of{K:Zt}(H:
 fV h V x a b c d A λa b=>aL b gl di λb c=>bP c a λd e f g i j k=>La d e f g i j k c (λc d=>If (!c) (dK d b false 0 (bs []) bM λa=>bN a b λb c d e=>K b c d e 5 a) (bP d a λc e f g i j k=>yI c e f g i j k 4194304 d (λc d=>aW (c>4194304) (dK d b false 0 (bs []) bM λa=>bN a b λb c d e=>K b c d e 3 a) (bP d a λa c e f g i j=>yH a c e f g i j d (λa c d e f=>dK f b a c d e λa=>bN a b λb c d e=>K b c d e 0 a) Kp)) Kp)) Kp):
 Lj V x a b c d A h K Kp:=c9 UH K Tryz.func109 H
noncomputable def afN:=mc aG Tryz.f110 (am [(2000005,18)]) [(5,(OT.l [0,1,2,3,4,5,8,6,7,9,10,11] .fin))] UF
def FZ:=jK afN 0 15 [.d,tI]
theorem FZ.of{K:Zs}(H:
 Ld h n mI λb=>Ix (some ((aF 2))) 21 4 b λb=>Ld h (b.add 2) mI λc=>gX h n λd e f g i=>LQ d e f g i h (λd e=>aT h e (b.add 2) 1 <|aT h e n 1 <|K c (d.n:Int) a e) Kp):
 FZ K Kp n a h:=jf H
theorem L5.of{K:Zs}(H:
 wh h a b c d A λa b=>gX b a λc d e f g=>C2 c d e f g b (λb c=>If (!b) (K (-1) (-1) (-1) c) (Ld c a mI λb=>If (b==19) (FZ K Kp a 1 c) (FZ K Kp a 0 c))) Kp):
 L5 a b c d A h K Kp:=cK (afN K Kp) UF K Tryz.func110 H
noncomputable def OX:=mc aG Tryz.f111 (am [(3500006,262166),(3700008,134217748),(48008,35184372088852)]) [] dm
def FX:=rK OX 2 1662 [tI,.d,.b]
def FY:=jK OX 1 415 [tI,.d,.b]
def CJ:=jK OX 0 103 [tI,tI,.d,.b]
theorem FX.of{K:bT}(H:
 If x (aP (a+1) λa=>aP ((4:Int)*a) λa=>K a h) (Ld h n mI λb=>If (b==15) (aP (a+1) λa=>aP ((4:Int)*a) λa=>K a h) (gX h n λb c d e f=>LN b c d e f h (λb c=>aP (a*b) λa=>K a c) Kp))):
 FX K Kp a n x h:=jf H
theorem FY.of{K:bT}(H:
 If x (LP a h (λa b=>K a b) Kp) (Ld h n mI λb=>If (b==12) (FX K Kp a n true h) (Ld h n mI λb=>FX K Kp a n (b==13) h))):
 FY K Kp a n x h:=jf H
theorem CJ.of{K:bT}(H:
 If x (K 0 h) (If (a==0) (FY K Kp b n true h) (Ld h n mI λa=>FY K Kp b n (a==2) h))):
 CJ K Kp a b n x h:=jf H
theorem L4.of{K:bT}(H:
 wh h a b c d A λa b=>Ld b a mI λc=>If (c==18) (aP ((3:Int)*e) λa=>aP ((1:Int)+a) λa=>aP (f*a) λa=>K a b) (If (e==0) (If (g==0) (CJ K Kp e f a (g==0) b) (CJ K Kp e f a (e==2) b)) (CJ K Kp e f a (e==2) b))):
 L4 a b c d A e f g h K Kp:=cK (OX K Kp) dm K Tryz.func111 H
theorem L3.of{K:iP}(H:
 fV h V x a b c d A λa b=>n8 b e f g B C D λb c=>aL c kJ kG λc d=>bP d a λe f g i j k l=>bY d b λm n p q r s=>KR e f g i j k l m n p q r s d (λd e=>Ld e (b.add 2) mI λb=>If (b !=d) (mz 81 1 e (λa b d e=>dS e c a b d λa=>eu a c λb c d=>K b c d a) Kp) (aW (d>0) (Ld e (a.add 1) .bool λa=>If (!a) (mz 81 1 e (λa b d e=>dS e c a b d λa=>eu a c λb c d=>K b c d a) Kp) (dS e c 0 bM 0 λa=>eu a c λb c d=>K b c d a)) (dS e c 0 bM 0 λa=>eu a c λb c d=>K b c d a))) Kp):
 L3 V x a b c d A e f g B C D h K Kp:=c9 nJ K Tryz.func112 H
noncomputable def afT:=mc aG Tryz.f115 (am [(2000005,20)]) [] dz
def Sk:=jK afT 0 15 [tI,.d]
theorem Sk.of{K:bG}(H:
 Ld h (n.add 3) Sl.v λb=>Ix b.a b.n 1 0 λb=>Ld h b Sl.v λb=>Mc b a h (λa _ b=>K (!a) b) Kp):
 Sk K Kp a n h:=jf H
theorem GV.of{K:bG}(H:
 fV h V x a b c d A λa b=>n8 b e f g B C D λb c=>Ld c (a.add 2) mI λd=>If (d==1) (K true c) (Ld c (a.add 2) mI λa=>GU a c (λa c=>If (!a) (K false c) (Ld c (b.add 3) Sl.v λa=>Ix a.a a.n 1 0 λa=>Ld c a Sl.v λa=>If ((a.n:Int)==0) (K false c) (Sk K Kp i b c))) Kp)):
 GV V x a b c d A e f g B C D i h K Kp:=cK (afT K Kp) dz K Tryz.func115 H
theorem Tj.of{K:gw}(H:
 If (a==b) (K bM h) (Ix A.a A.n 1 0 λc=>Ld h c Sl.v λc=>jA c 1 (some a) (some b) none λa=>K a h)):
 Tj A a b h K Kp:=c9 gP K Tryz.func117 H
theorem Mb.of{K:qp}(H:
 aL h gl di λb c=>Gd P a c (λc d=>If c (C3 Q 16 d (λa=>dK a b true 0 (bs []) bM λa=>bN a b λb c d e=>K b c d e a) Kp) (NN P λc=>Ld d (c.add 16) id λc=>fo aG c "colonnade/array.read" [(.pointer P),(ah a),(.pointer Q)] d (λa c=>∃d:Bool,∃e:Int,∃f:BA,∃g:Sl,a=(.agg #[(.bool d),(ah e),(.string f),(Sl.v g)])/\(dK c b d e f g λa=>bN a b λb c d e=>K b c d e a)) Kp)) Kp):
 Mb P a Q h K Kp:=c9 tO K Tryz.func118 H
noncomputable def OU:=mc aG Tryz.f119 (am [(41006,257),(41014,65537),(41022,16777217)]) [] dz
def FO:=rK OU 2 6 [.i .u8,.b]
def FQ:=rK OU 1 6 [.i .u8,.b]
def Ks:=rK OU 0 6 [.i .u8,.b]
theorem FO.of{K:bG}(H:
 If x (K true h) (K (a==95) h)):
 FO K Kp a x h:=jf H
theorem FQ.of{K:bG}(H:
 If x (FO K Kp a true h) (aW (a>=48) (FO K Kp a (decide (a<=57)) h) (FO K Kp a false h))):
 FQ K Kp a x h:=jf H
theorem Ks.of{K:bG}(H:
 If x (FQ K Kp a true h) (aW (a>=65) (FQ K Kp a (decide (a<=90)) h) (FQ K Kp a false h))):
 Ks K Kp a x h:=jf H
theorem LK.of{K:bG}(H:
 aW (a>=97) (Ks K Kp a (decide (a<=122)) h) (Ks K Kp a false h)):
 LK a h K Kp:=cK (OU K Kp) dz K Tryz.func119 H
noncomputable def afH:=mc aG Tryz.f120 (am [(2002,387)]) [] dm
def V8:=fK 19 [0,1,7,8] [.s,uA,tI,tI]
def QN:=lK afH 2002 26 V8
theorem QN.bC{K:bT}:eX (A0:=Int) (QN K Kp A Y a) (V8 A Y a) λb c d=>(aW (c<a) (Ix A.a A.n 7 c λe=>bP d e λe f g i j k l=>c8 aG Y [(.agg #[(.string e),(.bool f),(ah g),(ah i),(ah j),(ah k),(Sl.v l)])] d (λd e=>∃f:Bool,d=(.bool f)/\(If f (K c e) (aP (c+1) λc=>b (V8 A Y a c) e))) Kp) (K (-1) d)):=ff
theorem Tf.of{K:bT}(H:
 QN K Kp A Y (A.n:Int) 0 h):
 Tf A Y h K Kp:=cK (afH K Kp) dm K Tryz.func120 H
theorem GQ.of{K:bG}(H:
 aW (a>=1) (K (decide (a<=20)) h) (K false h)):
 GQ a h K Kp:=c9 dz K Tryz.func121 H
theorem La.of{K:bG}(H:
 fV h V x a b c d A λa b=>bP b a λa c d e f g i=>Ga a c d e f g i b (λa b c d=>aL d kJ kG λd e=>dS e d a b c λa=>Ld a d mI λb=>K (b==0) a) Kp):
 La V x a b c d A h K Kp:=c9 dz K Tryz.func128 H
noncomputable def OO:=mc aG Tryz.f129 (am [(2000005,98),(4000011,67633250),(2017,226)]) [] dm
def VC:=fK 82 [1,5,6,7] [tI,.d,tI,tI]
def Qm:=lK OO 2017 1028090 VC
def Fk:=jK OO 1 2007 [tI,.d,tI,tI,.b]
def Fl:=jK OO 0 31 [tI,.d,tI]
theorem Qm.bC{K:bT}:jM (A0:=Int) (A1:=Int) (Qm K Kp a n) (VC a n) λb c d e=>(Ld e (n.add 4) Sl.v λf=>aW (d<(f.n:Int)) (Ld e (n.add 4) Sl.v λf=>Ix f.a f.n 7 d λf=>bP e f λf g i j k l m=>yI f g i j k l m a e (λe f=>aP (c+e) λc=>aP (d+1) λd=>b (VC a n c d) f) Kp) (aW (c>a) (aP (a+1) λa=>K a e) (K c e))):=jU
theorem Fk.of{K:bT}(H:
 If x (Ld h (n.add 4) Sl.v λb=>Ix b.a b.n 7 0 λb=>bP h b λb c d e f g i=>yI b c d e f g i a h (λa b=>K a b) Kp) (If (c==18) (Ld h (n.add 4) Sl.v λc=>Ix c.a c.n 7 0 λc=>bP h c λc d e f g i j=>yI c d e f g i j a h (λc d=>aP (b+c) λb=>aW (b>a) (aP (a+1) λa=>K a d) (K b d)) Kp) (If (c==16) (Ld h (n.add 1) mI λc=>Ld h (n.add 4) Sl.v λd=>Ix d.a d.n 7 0 λd=>bP h d λd e f g i j k=>yI d e f g i j k a h (λd e=>aT h e (n.add 1) 1 <|aP (c*d) λc=>aP (b+c) λb=>aW (b>a) (aP (a+1) λa=>K a e) (K b e)) Kp) (If (c==17) (Qm K Kp a n b 0 h) (aW (b>a) (aP (a+1) λa=>K a h) (K b h)))))):
 Fk K Kp a n b c x h:=jf H
theorem Fl.of{K:bT}(H:
 Ld h n mI λc=>If (c==14) (Ld h (n.add 1) mI λc=>aP (b+c) λb=>aW (b>a) (aP (a+1) λa=>K a h) (K b h)) (If (c==19) (Fk K Kp a n b c (c==19) h) (Fk K Kp a n b c (c==20) h))):
 Fl K Kp a n b h:=jf H
theorem yI.of{K:bT}(H:
 fV h V x a b c d A λa b=>gX b (a.add 2) λc d f g i=>aL b oU kH λb j=>lW j b c d f g i λc=>Ld c (a.add 1) .bool λa=>If a (Ld c b mI λa=>If (a !=20) (K 16 c) (Fl K Kp e b 16 c)) (Fl K Kp e b 16 c)):
 yI V x a b c d A e h K Kp:=cK (OO K Kp) dm K Tryz.func129 H
noncomputable def Ja:=mc aG Tryz.f130 (am [(2000004,12),(4000011,134742044),(2015,60),(2020,92)]) [] tO
def Vz:=fK 86 [2,3,4,5] [.d,.d,.d,tI]
def Ql:=lK Ja 2015 257018 Vz
def Vy:=fK 86 [2,3,4,6] [.d,.d,.d,tI]
def Qk:=lK Ja 2020 1028090 Vy
def Fi:=jK Ja 1 2007 [.d,.d,.d,tI,.b]
def Fj:=jK Ja 0 15 [.d,.d]
theorem Ql.bC{K:qp}:eX (A0:=Int) (Ql K Kp n o p) (Vz n o p) λa b c=>(Ld c (o.add 1) mI λd=>aW (b<d) (Ld c (p.add 3) Sl.v λd=>Ld c (o.add 4) Sl.v λe=>Ix e.a e.n 7 0 λe=>bP c e λe f g i j k l=>yH e f g i j k l c (λe f g i j=>aT c j (p.add 3) 1 <|aL j #[(.bool e),(ah f),(.string g),(Sl.v i)] di λc e=>aT j e (p.add 3) 1 <|Ap e di gl 4 56 d 1 (rd e (some c) (1*4)) λc d=>St d (p.add 3) (Sl.v c) λc=>aP (b+1) λb=>a (Vz n o p b) c) Kp) (bN c p λa b d e=>dK c n a b d e λa=>bN a n λb c d e=>K b c d e a)):=ff
theorem Qk.bC{K:qp}:eX (A0:=Int) (Qk K Kp n o p) (Vy n o p) λa b c=>(Ld c (o.add 4) Sl.v λd=>aW (b<(d.n:Int)) (Ld c (p.add 3) Sl.v λd=>Ld c (o.add 4) Sl.v λe=>Ix e.a e.n 7 b λe=>bP c e λe f g i j k l=>yH e f g i j k l c (λe f g i j=>aT c j (p.add 3) 1 <|aL j #[(.bool e),(ah f),(.string g),(Sl.v i)] di λc e=>aT j e (p.add 3) 1 <|Ap e di gl 4 56 d 1 (rd e (some c) (1*4)) λc d=>St d (p.add 3) (Sl.v c) λc=>aP (b+1) λb=>a (Vy n o p b) c) Kp) (bN c p λa b d e=>dK c n a b d e λa=>bN a n λb c d e=>K b c d e a)):=ff
theorem Fi.of{K:qp}(H:
 If x (Ld h (o.add 4) Sl.v λa=>Ix a.a a.n 7 0 λa=>bP h a λa b c d e f g=>yH a b c d e f g h (λa b c d e=>dK e n a b c d λa=>bN a n λb c d e=>K b c d e a) Kp) (If (a==18) (Ld h (p.add 3) Sl.v λa=>Ld h (o.add 4) Sl.v λb=>Ix b.a b.n 7 0 λb=>bP h b λb c d e f g i=>yH b c d e f g i h (λb c d e f=>aT h f (p.add 3) 1 <|aL f #[(.bool b),(ah c),(.string d),(Sl.v e)] di λb c=>aT f c (p.add 3) 1 <|Ap c di gl 4 56 a 1 (rd c (some b) (1*4)) λa b=>St b (p.add 3) (Sl.v a) λa=>bN a p λb c d e=>dK a n b c d e λa=>bN a n λb c d e=>K b c d e a) Kp) (If (a==16) (Ql K Kp n o p 0 h) (If (a==17) (Qk K Kp n o p 0 h) (bN h p λa b c d=>dK h n a b c d λa=>bN a n λb c d e=>K b c d e a))))):
 Fi K Kp n o p a x h:=jf H
theorem Fj.of{K:qp}(H:
 aL h gl di λa b=>dK b a false 0 (bs []) bM λb=>Ld b o mI λc=>If (c==14) (Ld b (o.add 1) mI λc=>dO b Y8 #[(.int .u8 0)] 1 1 c c λb c=>sx c b λb=>St c (a.add 2) (.string b) λb=>bN b a λa c d e=>dK b n a c d e λa=>bN a n λb c d e=>K b c d e a) (If (c==19) (Fi K Kp n o a c (c==19) b) (Fi K Kp n o a c (c==20) b))):
 Fj K Kp n o h:=jf H
theorem yH.of{K:qp}(H:
 fV h V x a b c d A λa b=>aL b gl di λb c=>gX c (a.add 2) λd e f g i=>aL c oU kH λc j=>lW j c d e f g i λd=>Ld d (a.add 1) .bool λa=>If a (Ld d c mI λa=>If (a !=20) (dK d b true 0 (bs []) bM λa=>bN a b λb c d e=>K b c d e a) (Fj K Kp b c d)) (Fj K Kp b c d)):
 yH V x a b c d A h K Kp:=cK (Ja K Kp) tO K Tryz.func130 H
theorem C2.of{K:bG}(H:
 wh h a b c d A λa b=>gX b a λa c d e f=>LJ a c d e f b (λa b c d e f g i=>Ao a b c d e f g i (λa _ _ b=>K (a==0) b) Kp) Kp):
 C2 a b c d A h K Kp:=c9 dz K Tryz.func131 H
noncomputable def afK:=mc aG Tryz.f132 (am [(2000003,2)]) [] gP
def R7:=jK afK 0 7 [.d]
theorem R7.of{K:gw}(H:
 Ld h (n.add 4) Sl.v λa=>GP a h (λa b=>Ld b n mI λc=>If (c==20) (aL b #[(.string (bs [101,110,100,115])),(.bool false),(ah 5),(ah 0),(ah 0),(ah 0),(.slice none 0 0)] iI λb c=>Ap c iI mV 7 80 (⟨some b,1,1⟩:Sl) a.n (rd c a.a (a.n*7)) λa b=>K a b) (K a b)) Kp):
 R7 K Kp n h:=jf H
theorem LQ.of{K:gw}(H:
 wh h a b c d A λa b=>gX b a λc d e f g=>C2 c d e f g b (λb c=>If (!b) (K bM c) (Ld c a mI λb=>If (b==19) (K bM c) (R7 K Kp a c))) Kp):
 LQ a b c d A h K Kp:=cK (afK K Kp) gP K Tryz.func132 H
theorem LP.of{K:bT}(H:
 aW (a<=0) (K 0 h) (aP (a-1) λa=>Dv 8<|aP (Int.tdiv a 8) λa=>aP (a+1) λa=>K a h)):
 LP a h K Kp:=c9 dm K Tryz.func133 H
theorem LN.of{K:bT}(H:
 wh h a b c d A λa b=>gX b a λc d e f g=>C2 c d e f g b (λb c=>If (!b) (K 0 c) (Ld c a mI λb=>If (b==14) (Ld c (a.add 1) mI λa=>K a c) (If (b==19) (Ld c (a.add 3) mI λa=>Ix (some ((aF 2))) 21 4 a λa=>Ld c (a.add 1) mI λa=>K a c) (Ld c a mI λa=>Ix (some ((aF 2))) 21 4 a λa=>Ld c (a.add 1) mI λa=>K a c)))) Kp):
 LN a b c d A h K Kp:=c9 dm K Tryz.func134 H
noncomputable def c57:=mc aG Tryz.f135 (am [(2003,812)]) [] dm
def Nz:=fK 23 [2,3,8,5,9] [.d,.d,tI,tI,tI]
def PU:=lK c57 2003 58 Nz
theorem PU.bC{K:bT}:jM (A0:=Int) (A1:=Int) (PU K Kp n o a) (Nz n o a) λb c d e=>(aW (d<a) (bP e n λf g i j k l m=>bY e o λp q r s t u=>Ld e (o.add 1) mI λv=>aP (v+d) λv=>GV f g i j k l m p q r s t u v e (λe f=>If e (aP (c+1) λc=>aP (d+1) λd=>b (Nz n o a c d) f) (aP (d+1) λd=>b (Nz n o a c d) f)) Kp) (K c e)):=jU
theorem KR.of{K:bT}(H:
 fV h V x a b c d A λa b=>n8 b e f g B C D λb c=>Ld c b mI λd=>PU K Kp a b d 0 0 c):
 KR V x a b c d A e f g B C D h K Kp:=cK (c57 K Kp) dm K Tryz.func135 H
noncomputable def afS:=mc aG Tryz.f137 (am [(41006,257)]) [] dz
def F6:=rK afS 0 6 [tI,.b]
theorem F6.of{K:bG}(H:
 If x (K (a !=20) h) (K false h)):
 F6 K Kp a x h:=jf H
theorem GU.of{K:bG}(H:
 If (a !=1) (F6 K Kp a (a !=18) h) (F6 K Kp a false h)):
 GU a h K Kp:=cK (afS K Kp) dz K Tryz.func137 H
theorem Mc.of{K:agY}(H:
 aW (a<0) (K false 1 h) (Dv 8<|aP (Int.tdiv a 8) λb=>aW (b>=(A.n:Int)) (K false 2 h) (LZ A a h (λa b=>K a 0 b) Kp))):
 Mc A a h K Kp:=c9 abZ K Tryz.func138 H
noncomputable def afJ:=mc aG Tryz.f139 (am [(3400005,24)]) [] dm
def Ku:=jK afJ 0 53 [tI,.b]
theorem Ku.of{K:bT}(H:
 If x (K 1 h) (If (a==4) (If (a==4) (K 2 h) (If (a==5) (If (a==5) (K 4 h) (If (a==6) (If (a==6) (K 8 h) (K 0 h)) (If (a==10) (If (a==10) (K 8 h) (K 0 h)) (If (a==11) (K 8 h) (K 0 h))))) (If (a==9) (K 4 h) (If (a==6) (If (a==6) (K 8 h) (K 0 h)) (If (a==10) (If (a==10) (K 8 h) (K 0 h)) (If (a==11) (K 8 h) (K 0 h))))))) (If (a==8) (K 2 h) (If (a==5) (If (a==5) (K 4 h) (If (a==6) (If (a==6) (K 8 h) (K 0 h)) (If (a==10) (If (a==10) (K 8 h) (K 0 h)) (If (a==11) (K 8 h) (K 0 h))))) (If (a==9) (K 4 h) (If (a==6) (If (a==6) (K 8 h) (K 0 h)) (If (a==10) (If (a==10) (K 8 h) (K 0 h)) (If (a==11) (K 8 h) (K 0 h))))))))):
 Ku K Kp a x h:=jf H
theorem LM.of{K:bT}(H:
 If (a==3) (Ku K Kp a (a==3) h) (Ku K Kp a (a==7) h)):
 LM a h K Kp:=cK (afJ K Kp) dm K Tryz.func139 H
noncomputable def c68:=mc aG Tryz.f140 (am [(2000005,3)]) [] dz
def Rl:=jK c68 0 15 [.p,tI]
theorem Rl.of{K:bG}(H:
 wK P 0 h (λb c d e=>Dv 8<|aP (Int.tdiv a 8) λf=>GS b c d f e (λb _ c=>Dv 8<|Lt (Int.tmod a 8) λa=>Nn a<|Lt (Int.fdiv b (2^(min (Int.toNat a) (IntKind.bits .u8)))) λa=>Lt (gu .and .u8 a 1) λa=>K (a==0) c) Kp) Kp):
 Rl K Kp P a h:=jf H
theorem Gd.of{K:bG}(H:
 NN P λb=>Ld h (b.add 2) mI λb=>If (b==1) (K true h) (NN P λb=>Ld h (b.add 2) mI λb=>GU b h (λb c=>If (!b) (K false c) (NN P λb=>Ld c ((b.add 7).add 3) Sl.v λb=>Ix b.a b.n 1 0 λb=>Ld c b Sl.v λb=>If ((b.n:Int)==0) (K false c) (Rl K Kp P a c))) Kp)):
 Gd P a h K Kp:=cK (c68 K Kp) dz K Tryz.func140 H
theorem C3.of{K:iY}(H:
 NN P λb=>Ld h b mI λb=>aP (b-a) λa=>NN P λb=>St h b (ah a) λa=>NN P λb=>Ld a b mI λb=>aW (b<0) (Kp [{v:=(.iface avK (.agg #[])),recovered:=false}] a) (K  a)):
 C3 P a h K Kp:=c9 kK K Tryz.func141 H
theorem LJ.of{K:EU}(H:
 wh h a b c d A λa b=>aL b mV iI λb c=>gX c a λd e f g i=>aL c mV iI λc j=>kg j c (bs [97]) false d e f g i λd=>Ld d a mI λe=>If (e==1) (St d (c.add 1) (.bool true) λa=>bP a c λc d e f g i j=>kg a b c d e f g i j λa=>bP a b λb c d e f g i=>K b c d e f g i a) (Ld d a mI λe=>If (e==20) (Ld d (a.add 4) Sl.v λe=>aW ((e.n:Int)>0) (Ld d (a.add 4) Sl.v λa=>Ix a.a a.n 7 0 λa=>Ld d (a.add 1) .bool λa=>St d (c.add 1) (.bool a) λa=>bP a c λc d e f g i j=>kg a b c d e f g i j λa=>bP a b λb c d e f g i=>K b c d e f g i a) (St d (c.add 1) (.bool false) λa=>bP a c λc d e f g i j=>kg a b c d e f g i j λa=>bP a b λb c d e f g i=>K b c d e f g i a)) (St d (c.add 1) (.bool false) λa=>bP a c λc d e f g i j=>kg a b c d e f g i j λa=>bP a b λb c d e f g i=>K b c d e f g i a))):
 LJ a b c d A h K Kp:=c9 Dy K Tryz.func147 H
noncomputable def afI:=mc aG Tryz.f148 (am [(2003,456)]) [] gP
def V9:=fK 25 [6,7,3,8] [.s,tI,.s,tI]
def QO:=lK afI 2003 58 V9
theorem QO.bC{K:gw}:jM (A0:=Sl) (A1:=Int) (QO K Kp A a) (V9 A a) λb c d e=>(aW (d<a) (Ix A.a A.n 7 d λf=>bP e f λf g i j k l m=>aL e mV iI λe n=>kg n e f g i j k l m λf=>Ld f ((e.add 2).add 4) Sl.v λg=>GP g f (λf g=>St g ((e.add 2).add 4) (Sl.v f) λf=>bP f e λe g i j k l m=>aL f #[(.string e),(.bool g),(ah i),(ah j),(ah k),(ah l),(Sl.v m)] iI λe f=>Ap f iI mV 7 80 c 1 (rd f (some e) (1*7)) λc e=>aP (d+1) λd=>b (V9 A a c d) e) Kp) (LB c e (λa b=>K a b) Kp)):=jU
theorem GP.of{K:gw}(H:
 QO K Kp A (A.n:Int) bM 0 h):
 GP A h K Kp:=cK (afI K Kp) gP K Tryz.func148 H
theorem LZ.of{K:bG}(H:
 Dv 8<|aP (Int.tdiv a 8) λb=>Ix A.a A.n 1 b λb=>Ld h b (.int .u8) λb=>Dv 8<|Lt (Int.tmod a 8) λa=>Nn a<|Lt (Int.fdiv b (2^(min (Int.toNat a) (IntKind.bits .u8)))) λa=>Lt (gu .and .u8 a 1) λa=>K (a==1) h):
 LZ A a h K Kp:=c9 dz K Tryz.func150 H
theorem wK.of{K:PL}(H:
 aL h MA JO λb c=>NN P λd=>Ld c ((d.add 7).add 3) Sl.v λd=>Ix d.a d.n 1 a λa=>Ld c a Sl.v λa=>NN P λd=>Ld c (d.add 15) .pointer λe=>Ma a c (λa f g i=>aT c i (d.add 15) 1 <|L9 a f g e i (λa c d e=>sr e b a c d λa=>oN a b λb c d=>K b c d a) Kp) Kp):
 wK P a h K Kp:=D8 [] [(1,(OT.l [0,1,2,3,4,5,6,7,9,10,11,12,8,13,14] .fin))] Nh K Tryz.func151 H
theorem GS.of{K:agX}(H:
 Ch h A a P λa c=>oN c a λd e f=>C5 d e f b 1 c (λc d=>If (!c) (K 0 2 d) (oN d a λa c e=>C4 a c e b 1 d (λa b=>Ix a.a a.n 1 0 λa=>Ld b a (.int .u8) λa=>K a 0 b) Kp)) Kp):
 GS A a P b h K Kp:=c9 abY K Tryz.func152 H
theorem LB.of{K:gw}(H:
 jA A 7 none (some (A.n:Int)) (some (A.n:Int)) λa=>K a h):
 LB A h K Kp:=c9 gP K Tryz.func155 H
theorem Ma.of{K:PL}(H:
 aL h MA JO λa b=>jA A 1 none (some (A.n:Int)) (some (A.n:Int)) λc=>sr b a c 0 none λb=>oN b a λa c d=>K a c d b):
 Ma A h K Kp:=c9 Nh K Tryz.func156 H
theorem L9.of{K:PL}(H:
 Ch h A a P λa b=>aL b MA JO λb c=>St c (a.add 2) (.pointer Q) λc=>oN c a λa d e=>sr c b a d e λa=>oN a b λb c d=>K b c d a):
 L9 A a P Q h K Kp:=c9 Nh K Tryz.func157 H
noncomputable def Yb:=mc aG Tryz.f158 (am [(41006,4110),(41013,524302)]) [] dz
def KG:=rK Yb 1 6 [tI,tI,.d,.b]
def KH:=rK Yb 0 6 [tI,tI,.d,.b]
theorem KG.of{K:bG}(H:
 If x (Ld h n Sl.v λc=>aP ((c.n:Int)-a) λa=>K (decide (b<=a)) h) (K false h)):
 KG K Kp a b n x h:=jf H
theorem KH.of{K:bG}(H:
 If x (Ld h n Sl.v λc=>KG K Kp a b n (decide (a<=(c.n:Int))) h) (KG K Kp a b n false h)):
 KH K Kp a b n x h:=jf H
theorem C5.of{K:bG}(H:
 Ch h A a P λa d=>aW (b>=0) (KH K Kp b c a (decide (c>=0)) d) (KH K Kp b c a false d)):
 C5 A a P b c h K Kp:=cK (Yb K Kp) dz K Tryz.func158 H
noncomputable def afQ:=mc aG Tryz.f159 (am [(3209999,8206)]) [] gP
def KE:=jK afQ 0 13 [tI,tI,.d,.b]
theorem KE.of{K:gw}(H:
 If x (Ld h (n.add 2) .pointer λc=>Ld h (n.add 2) .pointer λd=>NN d λd=>Ld h d Sl.v λe=>Ld h (n.add 1) mI λf=>aP (f+a) λf=>Ld h (n.add 1) mI λg=>aP (g+a) λg=>aP (g+b) λg=>aL h #[(ah f),(ah g)] agO λf g=>aT h g d 1 <|aT h g (n.add 2) 1 <|aT h g (n.add 2) 1 <|Ap g agO #[(ah 0),(ah 0)] 2 16 e 1 (rd g (some f) (1*2)) λd e=>aT g e (n.add 2) 1 <|NN c λc=>St e c (Sl.v d) λc=>Ld c n Sl.v λd=>aP (a+b) λe=>aP (a+b) λb=>jA d 1 (some a) (some e) (some b) λa=>K a c) (Ld h n Sl.v λc=>aP (a+b) λd=>aP (a+b) λb=>jA c 1 (some a) (some d) (some b) λa=>K a h)):
 KE K Kp a b n x h:=jf H
theorem C4.of{K:gw}(H:
 Ch h A a P λa d=>Ld d (a.add 2) .pointer λe=>If (!(Option.isNone e)) (KE K Kp b c a (decide (c>0)) d) (KE K Kp b c a false d)):
 C4 A a P b c h K Kp:=cK (afQ K Kp) gP K Tryz.func159 H
theorem Tb.of{K:bT}(H:
 NN P λa=>Ld h (a.add 7) mI λa=>K a h):
 Tb P h K Kp:=c9 dm K Tryz.func178 H
theorem Ta.of{K:jI}(H:
 aL h cY cg λa b=>NN P λc=>gZ (some c) bM b (λb c d e f g i=>cJ i a b c d e f g λb=>bY b a λa c d e f g=>K a c d e f g b) Kp):
 Ta P h K Kp:=c9 lZ K Tryz.func179 H
theorem S9.of{K:Ce}(H:
 NN P λa=>qY (some a) h (λa b=>K a b) Kp):
 S9 P h K Kp:=c9 AV K Tryz.func180 H
theorem Gz.of{K:bT}(H:
 iK h x a V A λ_ a=>NN P λb=>nx (some b) true a (λa b=>If (a !=0) (K a b) (NN P λa=>mA (some a) 16 b (λa b=>K a b) Kp)) Kp):
 Gz P x a V A h K Kp:=c9 dm K Tryz.func181 H
theorem SZ.of{K:bT}(H:
 NN P λa=>Ld h (a.add 10) mI λa=>K a h):
 SZ P h K Kp:=c9 dm K Tryz.func182 H
theorem K9.of{K:bT}(H:
 NN P λa=>bN h (a.add 11) λa b c d=>Gz P a b c d h (λa b=>K a b) Kp):
 K9 P h K Kp:=c9 dm K Tryz.func183 H
theorem gZ.of{K:jI}(H:
 aL h cY cg λa b=>NN P λc=>Ld b (c.add 7) mI λc=>NN P λd=>Ld b (d.add 8) mI λd=>cJ b a c 0 d A bM bM λb=>bY b a λa c d e f g=>K a c d e f g b):
 gZ P A h K Kp:=c9 lZ K Tryz.func184 H
theorem qY.of{K:Ce}(H:
 aL h #[(.pointer P)] agB λa b=>Ld b a .pointer λc=>NN c λc=>oa b c λc d e f g i j k l m n p q r s t=>aL b Ty PE λb u=>qT u b c d e f g i j k l m n p q r s t λc=>aL c #[(.int .u8 0)] Y8 λc d=>St d c (.int .u8 0) λd=>Ld d a .pointer λe=>NN e λe=>Ld d (e.add 9) Sl.v λe=>aW ((e.n:Int)>0) (Ld d a .pointer λe=>NN e λe=>Ld d (e.add 9) Sl.v λe=>Ld d a .pointer λf=>NN f λf=>Ld d (f.add 9) Sl.v λf=>aP ((f.n:Int)-1) λf=>Ix e.a e.n 1 f λe=>Ld d e (.int .u8) λe=>St d c (.int .u8 e) λd=>K (.func (.func 188) #[] #[(cU b),(cU a),(cU c)]) d) (K (.func (.func 188) #[] #[(cU b),(cU a),(cU c)]) d)):
 qY P h K Kp:=c9 AV K Tryz.func185 H
noncomputable def X6:=mc aG Tryz.f186 (am [(2000005,3),(2000008,1)]) [] dm
def Ff:=jK X6 1 31 [.p]
def Fg:=jK X6 0 15 [.p,.b]
theorem Ff.of{K:bT}(H:
 NN P λa=>Ld h (a.add 7) mI λa=>aP (a+1) λa=>NN P λb=>St h (b.add 7) (ah a) λa=>K 0 a):
 Ff K Kp P h:=jf H
theorem Fg.of{K:bT}(H:
 If x (NN P λa=>Ld h (a.add 8) mI λa=>aP (a+1) λa=>NN P λb=>St h (b.add 8) (ah a) λa=>Ff K Kp P a) (NN P λa=>Ld h (a.add 9) Sl.v λa=>NN P λb=>Ld h (b.add 7) mI λb=>Dv 8<|aP (Int.tdiv b 8) λb=>Ix a.a a.n 1 b λc=>Ld h c (.int .u8) λc=>NN P λd=>Ld h (d.add 7) mI λd=>Dv 8<|Lt (Int.tmod d 8) λd=>Nn d<|Wr .u8 ((1:Int)*2^(min (Int.toNat d) (IntKind.bits .u8))) λd=>Lt (gu .or .u8 c d) λc=>Ix a.a a.n 1 b λa=>St h a (.int .u8 c) λa=>Ff K Kp P a)):
 Fg K Kp P x h:=jf H
theorem nx.of{K:bT}(H:
 NN P λa=>Ld h (a.add 7) mI λa=>aW (a>=4096) (K 3 h) (NN P λa=>Ld h (a.add 7) mI λa=>Dv 8<|Lt (Int.tmod a 8) λa=>If (a==0) (NN P λa=>Ld h (a.add 9) Sl.v λa=>aL h #[(.int .u8 0)] Y8 λb c=>Ap c Y8 #[(.int .u8 0)] 1 1 a 1 (rd c (some b) (1*1)) λa b=>NN P λc=>St b (c.add 9) (Sl.v a) λa=>Fg K Kp P x a) (Fg K Kp P x h))):
 nx P x h K Kp:=cK (X6 K Kp) dm K Tryz.func186 H
theorem mA.of{K:bT}(H:
 NN P λb=>Ld h (b.add 10) mI λb=>aP (b+a) λa=>NN P λb=>St h (b.add 10) (ah a) λa=>NN P λb=>Ld a (b.add 10) mI λb=>aW (b>4194304) (K 3 a) (K 0 a)):
 mA P a h K Kp:=c9 dm K Tryz.func187 H
theorem SY.of{K:iY}(H:
 Ld h o .pointer λa=>oa h n λb c d e f g i j k l m n q r s t=>NN a λa=>qT h a b c d e f g i j k l m n q r s t λa=>Ld a o .pointer λb=>NN b λb=>Ld a (b.add 9) Sl.v λb=>aW ((b.n:Int)>0) (Ld a o .pointer λb=>NN b λb=>Ld a (b.add 9) Sl.v λb=>Ld a o .pointer λc=>NN c λc=>Ld a (c.add 9) Sl.v λc=>aP ((c.n:Int)-1) λc=>Ld a p (.int .u8) λd=>Ix b.a b.n 1 c λb=>St a b (.int .u8 d) λa=>K  a) (K  a)):
 SY n o p h K Kp:=c9 kK K Tryz.func188 H
theorem SX.of{K:jI}(H:
 aL h cY cg λa b=>NN P λc=>NN P λd=>NN P λe=>Ld b (e.add 16) Sl.v λf=>NN P λg=>Ld b (g.add 17) Sl.v λi=>qX (some d) b (λd j=>aT b j (g.add 17) 1 <|aT b j (e.add 16) 1 <|oQ f 4 j (λb e=>aT j e (g.add 17) 1 <|Aq i e (λe f=>aL f #[(Sl.v d),(Sl.v b),(Sl.v e)] fI λb d=>gZ (some c) (⟨some b,3,3⟩:Sl) d (λb c d e f g i=>cJ i a b c d e f g λb=>bY b a λa c d e f g=>K a c d e f g b) Kp) Kp) Kp) Kp):
 SX P h K Kp:=D8 [] [(1,(OT.l [0,1,2,3,4,5,7,8,9,10,12,13,14,15,6,11,16,17,18,19] .fin))] lZ K Tryz.func189 H
noncomputable def zE:=mc aG Tryz.f191 (am [(2000008,9)]) [] dm
def RC:=jK zE 0 63 [.p,.d]
theorem RC.of{K:bT}(H:
 NN P λa=>Ld h (n.add 2) .string λb=>aP ((16:Int)+(b.size:Int)) λb=>mA (some a) b h (λa b=>K a b) Kp):
 RC K Kp P n h:=jf H
theorem Gy.of{K:bT}(H:
 iK h x a V A λa b=>NN P λc=>Ld b a .bool λd=>nx (some c) d b (λb c=>If (b !=0) (K b c) (NN P λb=>Ld c (b.add 17) Sl.v λb=>Ld c (a.add 2) .string λd=>aP ((b.n:Int)+(d.size:Int)) λb=>aW (b>65536) (K 4 c) (NN P λb=>Ld c (b.add 17) Sl.v λb=>Ld c (a.add 2) .string λd=>Ap c Y8 #[(.int .u8 0)] 1 1 b d.size (λa=>a=d.data.toList.map λa=>Value.int .u8 a.toNat) λb c=>NN P λd=>St c (d.add 17) (Sl.v b) λb=>NN P λc=>Ld b (c.add 16) Sl.v λd=>NN P λe=>Ld b (e.add 17) Sl.v λe=>aL b #[(ah (e.n:Int))] Y6 λe f=>aT b f (c.add 16) 1 <|Ap f Y6 #[(ah 0)] 1 8 d 1 (rd f (some e) (1*1)) λb c=>NN P λd=>St c (d.add 16) (Sl.v b) λb=>RC K Kp P a b))) Kp):
 Gy P x a V A h K Kp:=cK (zE K Kp) dm K Tryz.func191 H
theorem K8.of{K:bT}(H:
 NN P λa=>bN h (a.add 11) λa b c d=>Gy P a b c d h (λa b=>K a b) Kp):
 K8 P h K Kp:=c9 dm K Tryz.func192 H
theorem qX.of{K:gw}(H:
 NN P λa=>Ld h (a.add 8) mI λa=>If (a==0) (K bM h) (NN P λa=>Ld h (a.add 9) Sl.v λa=>Aq a h (λa b=>K a b) Kp)):
 qX P h K Kp:=c9 gP K Tryz.func193 H
noncomputable def xF:=mc aG Tryz.f194 (am [(2003,114722),(2006,3260578)]) [] gP
def Vu:=fK 36 [1,14,15,5,16] [tI,.s,tI,.s,tI]
def Vt:=fK 36 [1,7,14,15,16,20,5,21] [tI,tI,.s,tI,tI,tI,.s,tI]
def Qh:=DP xF 2006 14950 Vt
def Qi:=lK xF 2003 58 Vu
theorem Qh.bC{K:gw}:jM (A0:=Sl) (A1:=Int) (Qh K Kp N1 a b A c d e) (Vt a b A c d e) λf g i j=>(aW (i<e) (Wr .u64 b λk=>aP ((8:Int)*i) λl=>Nn l<|Lt (Int.fdiv k (2^(min (Int.toNat l) (IntKind.bits .u64)))) λk=>Wr .u8 k λk=>aL j #[(.int .u8 k)] Y8 λj k=>Ap k Y8 #[(.int .u8 0)] 1 1 g 1 (rd k (some j) (1*1)) λg j=>aP (i+1) λi=>f (Vt a b A c d e g i) j) (aP (d+1) λb=>N1 (Vu a A c g b) j)):=jU
theorem Qi.bC{K:gw}:jM (A0:=Sl) (A1:=Int) (Qi K Kp a A b) (Vu a A b) λc d e f=>(aW (e<b) (Ix A.a A.n 1 e λg=>Ld f g mI λg=>Qh K Kp c a g A b e a d 0 f) (K d f)):=jU
theorem oQ.of{K:gw}(H:
 aP (a*(A.n:Int)) λb=>dO h Y8 #[(.int .u8 0)] 1 1 0 b λb c=>Qi K Kp a A (A.n:Int) b 0 c):
 oQ A a h K Kp:=cK (xF K Kp) gP K Tryz.func194 H
theorem Aq.of{K:gw}(H:
 If (Option.isNone A.a) (K bM h) (aL h #[] Y8 λa b=>Ap b Y8 #[(.int .u8 0)] 1 1 (⟨some a,0,0⟩:Sl) A.n (rd b A.a (A.n*1)) λa b=>K a b)):
 Aq A h K Kp:=c9 gP K Tryz.func195 H
theorem SV.of{K:iY}(H:
 Ld h n id λa=>c8 aG a [] h (λa b=>a=(.tuple #[])/\(Ld b o .pointer λa=>Ld b o .pointer λc=>Ld b o .pointer λd=>NN d λd=>Ld b (d.add 16) Sl.v λd=>Ld b p mI λe=>jA d 1 none (some e) none λd=>Ld b o .pointer λe=>NN e λe=>Ld b (e.add 17) Sl.v λe=>Ld b q mI λf=>jA e 1 none (some f) none λe=>NN a λa=>St b (a.add 16) (Sl.v d) λa=>aT b a q 1 <|aT b a o 1 <|NN c λb=>St a (b.add 17) (Sl.v e) λa=>K  a)) Kp):
 SV n o p q h K Kp:=c9 kK K Tryz.func196 H
noncomputable def afu:=mc aG Tryz.f197 (am [(2000002,13)]) [(1,(OT.l [0,1,2,3,4,5,7,8,9,10] (.alt (OT.l [6] (.alt (OT.l [11] (.alt (OT.l [12] (.alt (OT.l [13,14,15] .fin) (OT.l [14,13,15] .fin))) (OT.l [14,12,13,15] .fin))) (OT.l [14,11,12,13,15] .fin))) (OT.l [14,6,11,12,13,15] .fin))))] lZ
def wA:=jK afu 0 7 [.p,.d,.d]
theorem wA.of{K:jI}(H:
 NN P λa=>Ld h (a.add 17) id λa=>fo aG a "colonnade/build.done" [] h (λa b=>∃c:Int,∃d:Int,∃e:Int,∃f:Sl,∃g:Sl,∃i:Sl,a=(.agg #[(ah c),(ah d),(ah e),(Sl.v f),(Sl.v g),(Sl.v i)])/\(aL b #[(ah c),(ah d),(ah e),(Sl.v f),(Sl.v g),(Sl.v i)] cg λa b=>St b (o.add 4) (.slice (some a) 1 1) λa=>bY a o λb c d e f g=>cJ a n b c d e f g λa=>bY a n λb c d e f g=>K b c d e f g a)) Kp):
 wA K Kp P n o h:=jf H
theorem SU.of{K:jI}(H:
 aL h cY cg λa b=>NN P λc=>NN P λd=>NN P λe=>Ld b (e.add 16) Sl.v λf=>(qX (some d) b (λd g=>aT b g (e.add 16) 1 <|(oQ f 4 g (λb f=>(aL f #[(Sl.v d),(Sl.v b)] fI λb d=>(gZ (some c) (⟨some b,2,2⟩:Sl) d (λb c d f g i j=>aL j cY cg λk l=>aT j l (e.add 16) 1 <|cJ l k b c d f g i λb=>wA K Kp P a k b) Kp)/\(aL d cY cg λf g=>aT d g (e.add 16) 1 <|gZ (some c) (⟨some b,2,2⟩:Sl) g (λb c d e g i j=>cJ j f b c d e g i λb=>wA K Kp P a f b) Kp))/\(aL f cY cg λg i=>aT f i (e.add 16) 1 <|aL i #[(Sl.v d),(Sl.v b)] fI λb d=>gZ (some c) (⟨some b,2,2⟩:Sl) d (λb c d e f i j=>cJ j g b c d e f i λb=>wA K Kp P a g b) Kp)) Kp)/\(aL g cY cg λb i=>aT g i (e.add 16) 1 <|oQ f 4 i (λe f=>aL f #[(Sl.v d),(Sl.v e)] fI λd e=>gZ (some c) (⟨some d,2,2⟩:Sl) e (λc d e f g i j=>cJ j b c d e f g i λc=>wA K Kp P a b c) Kp) Kp)) Kp)/\(aL b cY cg λg i=>aT b i (e.add 16) 1 <|qX (some d) i (λb d=>aT i d (e.add 16) 1 <|oQ f 4 d (λd e=>aL e #[(Sl.v b),(Sl.v d)] fI λb d=>gZ (some c) (⟨some b,2,2⟩:Sl) d (λb c d e f i j=>cJ j g b c d e f i λb=>wA K Kp P a g b) Kp) Kp) Kp)):
 SU P h K Kp:=cK (afu K Kp) lZ K Tryz.func197 H
noncomputable def ON:=mc aG Tryz.f199 (am [(2000012,65),(2000013,65),(2006,234881089)]) [(13,(OT.l [0,1,2,3,4,5,6,9,7,8,10,11,12] .fin))] dm
def RA:=jK ON 1 63 [.p,tI]
def RB:=jK ON 0 31 [.p,tI]
def Vs:=fK 67 [0,6,25,26,27] [.p,tI,.s,tI,tI]
def Qg:=lK ON 2006 122 Vs
theorem RA.of{K:bT}(H:
 NN P λb=>NN P λc=>Ld h (c.add 17) id λc=>fo aG c "colonnade/build.weight" [] h (λc d=>∃e:Int,c=(ah e)/\(aP ((16:Int)+e) λc=>aP (c-a) λa=>mA (some b) a d (λa b=>K a b) Kp)) Kp):
 RA K Kp P a h:=jf H
theorem RB.of{K:bT}(H:
 NN P λb=>Ld h (b.add 16) Sl.v λc=>NN P λd=>Ld h (d.add 17) id λd=>fo aG d "colonnade/build.count" [] h (λd e=>∃f:Int,d=(ah f)/\(aT h e (b.add 16) 1 <|aL e #[(ah f)] Y6 λd f=>aT e f (b.add 16) 1 <|Ap f Y6 #[(ah 0)] 1 8 c 1 (rd f (some d) (1*1)) λb c=>NN P λd=>St c (d.add 16) (Sl.v b) λb=>RA K Kp P a b)) Kp):
 RB K Kp P a h:=jf H
theorem Qg.bC{K:bT}:eX (A0:=Int) (Qg K Kp P a A b) (Vs P a A b) λc d e=>(aW (d<b) (Ix A.a A.n 4 d λf=>bN e f λf g i j=>aL e gl di λe k=>dK k e f g i j λf=>NN P λg=>Ld f (g.add 17) id λg=>bN f e λe i j k=>fo aG g "colonnade/build.take" [(.agg #[(.bool e),(ah i),(.string j),(Sl.v k)])] f (λe f=>∃g:Int,e=(ah g)/\(If (g !=0) (K g f) (aP (d+1) λd=>c (Vs P a A b d) f))) Kp) (RB K Kp P a e)):=ff
theorem Gw.of{K:bT}(H:
 iK h x a V A λa b=>NN P λc=>Ld b a .bool λd=>nx (some c) d b (λb c=>If (b !=0) (K b c) (NN P λb=>Ld c (b.add 17) id λb=>fo aG b "colonnade/build.weight" [] c (λb c=>∃d:Int,b=(ah d)/\(Ld c (a.add 3) Sl.v λa=>Qg K Kp P d a (a.n:Int) 0 c)) Kp)) Kp):
 Gw P x a V A h K Kp:=cK (ON K Kp) dm K Tryz.func199 H
theorem K7.of{K:bT}(H:
 NN P λa=>bN h (a.add 11) λa b c d=>Gw P a b c d h (λa b=>K a b) Kp):
 K7 P h K Kp:=c9 dm K Tryz.func200 H
theorem SQ.of{K:iY}(H:
 Ld h n id λa=>c8 aG a [] h (λa b=>a=(.tuple #[])/\(Ld b o id λa=>c8 aG a [] b (λa b=>a=(.tuple #[])/\(Ld b p .pointer λa=>Ld b p .pointer λc=>NN c λc=>Ld b (c.add 16) Sl.v λc=>Ld b q mI λd=>jA c 1 none (some d) none λc=>NN a λa=>St b (a.add 16) (Sl.v c) λa=>K  a)) Kp)) Kp):
 SQ n o p q h K Kp:=c9 kK K Tryz.func201 H
noncomputable def afr:=mc aG Tryz.f202 (am [(2000002,13)]) [(1,(OT.l [0,1,2,3,4,5] (.alt (OT.l [6] (.alt (OT.l [7] (.alt (OT.l [8,9,10] .fin) (OT.l [9,8,10] .fin))) (OT.l [9,7,8,10] .fin))) (OT.l [9,6,7,8,10] .fin))))] lZ
def yB:=jK afr 0 7 [.p,.d,.d]
theorem yB.of{K:jI}(H:
 NN P λa=>Ld h (a.add 16) id λa=>fo aG a "colonnade/build.done" [] h (λa b=>∃c:Int,∃d:Int,∃e:Int,∃f:Sl,∃g:Sl,∃i:Sl,a=(.agg #[(ah c),(ah d),(ah e),(Sl.v f),(Sl.v g),(Sl.v i)])/\(aL b #[(ah c),(ah d),(ah e),(Sl.v f),(Sl.v g),(Sl.v i)] cg λa b=>St b (o.add 4) (.slice (some a) 1 1) λa=>bY a o λb c d e f g=>cJ a n b c d e f g λa=>bY a n λb c d e f g=>K b c d e f g a)) Kp):
 yB K Kp P n o h:=jf H
theorem SP.of{K:jI}(H:
 aL h cY cg λa b=>NN P λc=>NN P λd=>(qX (some d) b (λb d=>(aL d #[(Sl.v b)] fI λb d=>(gZ (some c) (⟨some b,1,1⟩:Sl) d (λb c d e f g i=>aL i cY cg λi j=>cJ j i b c d e f g λb=>yB K Kp P a i b) Kp)/\(aL d cY cg λd e=>gZ (some c) (⟨some b,1,1⟩:Sl) e (λb c e f g i j=>cJ j d b c e f g i λb=>yB K Kp P a d b) Kp))/\(aL d cY cg λd e=>aL e #[(Sl.v b)] fI λb e=>gZ (some c) (⟨some b,1,1⟩:Sl) e (λb c e f g i j=>cJ j d b c e f g i λb=>yB K Kp P a d b) Kp)) Kp)/\(aL b cY cg λb e=>qX (some d) e (λd e=>aL e #[(Sl.v d)] fI λd e=>gZ (some c) (⟨some d,1,1⟩:Sl) e (λc d e f g i j=>cJ j b c d e f g i λc=>yB K Kp P a b c) Kp) Kp)):
 SP P h K Kp:=cK (afr K Kp) lZ K Tryz.func202 H
noncomputable def xE:=mc aG Tryz.f204 (am [(2000015,73),(2006,1610612809)]) [(17,(OT.l [0,1,2,3,4,5,6,9,7,8,10,11,12] .fin))] dm
def Rz:=jK xE 0 31 [.p,.d,tI]
def Ih:=fK 74 [0,3,6,29,30] [.p,.d,tI,tI,tI]
def Qf:=lK xE 2006 122 Ih
theorem Rz.of{K:bT}(H:
 Ld h n .bool λb=>If b (NN P λa=>mA (some a) 16 h (λa b=>K a b) Kp) (NN P λb=>NN P λc=>Ld h (c.add 16) id λc=>fo aG c "colonnade/build.weight" [] h (λc d=>∃e:Int,c=(ah e)/\(aP ((16:Int)+e) λc=>aP (c-a) λa=>mA (some b) a d (λa b=>K a b) Kp)) Kp)):
 Rz K Kp P n a h:=jf H
theorem Qf.bC{K:bT}:eX (A0:=Int) (Qf K Kp P n a b) (Ih P n a b) λc d e=>(aW (d<b) (Ld e n .bool λf=>If f (NN P λf=>Ld e (f.add 16) id λf=>fo aG f "colonnade/build.zero" [] e (λe f=>∃g:Int,e=(ah g)/\(If (g !=0) (K g f) (aP (d+1) λd=>c (Ih P n a b d) f))) Kp) (NN P λf=>Ld e (f.add 16) id λf=>Ld e (n.add 3) Sl.v λg=>Ix g.a g.n 4 d λg=>bN e g λg i j k=>su aG f λ_=>fo aG f "colonnade/build.take" [(.agg #[(.bool g),(ah i),(.string j),(Sl.v k)])] e (λe f=>∃g:Int,e=(ah g)/\(If (g !=0) (K g f) (aP (d+1) λd=>c (Ih P n a b d) f))) Kp)) (Rz K Kp P n a e)):=ff
theorem Gv.of{K:bT}(H:
 iK h x a V A λa b=>NN P λc=>Ld b a .bool λd=>nx (some c) d b (λb c=>If (b !=0) (K b c) (NN P λb=>Ld c (b.add 16) id λb=>fo aG b "colonnade/build.weight" [] c (λb c=>∃d:Int,b=(ah d)/\(NN P λb=>Ld c ((b.add 2).add 1) mI λb=>Qf K Kp P a d b 0 c)) Kp)) Kp):
 Gv P x a V A h K Kp:=cK (xE K Kp) dm K Tryz.func204 H
noncomputable def X5:=mc aG Tryz.f205 (am [(2000013,17),(2008,206158430225)]) [(13,(OT.l [0,1,2,3,4,5,6,9,7,8,10,11,12] .fin))] dm
def Ry:=jK X5 0 63 [.p,tI]
def Vr:=fK 60 [0,4,36,37] [.p,tI,tI,tI]
def Qe:=lK X5 2008 250 Vr
theorem Ry.of{K:bT}(H:
 NN P λb=>NN P λc=>Ld h (c.add 16) id λc=>fo aG c "colonnade/build.weight" [] h (λc d=>∃e:Int,c=(ah e)/\(aP ((16:Int)+e) λc=>aP (c-a) λa=>mA (some b) a d (λa b=>K a b) Kp)) Kp):
 Ry K Kp P a h:=jf H
theorem Qe.bC{K:bT}:eX (A0:=Int) (Qe K Kp P a b) (Vr P a b) λc d e=>(aW (d<b) (NN P λf=>Ld e (f.add 16) id λf=>fo aG f "colonnade/build.zero" [] e (λe f=>∃g:Int,e=(ah g)/\(If (g !=0) (K g f) (aP (d+1) λd=>c (Vr P a b d) f))) Kp) (Ry K Kp P a e)):=ff
theorem K5.of{K:bT}(H:
 NN P λa=>Ld h (a.add 15) .bool λa=>If a (NN P λa=>bN h (a.add 11) λa b c d=>Gv P a b c d h (λa b=>K a b) Kp) (NN P λa=>nx (some a) false h (λa b=>If (a !=0) (K a b) (NN P λa=>Ld b (a.add 16) id λa=>fo aG a "colonnade/build.weight" [] b (λa b=>∃c:Int,a=(ah c)/\(NN P λa=>Ld b ((a.add 2).add 1) mI λa=>Qe K Kp P c a 0 b)) Kp)) Kp)):
 K5 P h K Kp:=cK (X5 K Kp) dm K Tryz.func205 H
theorem SN.of{K:iY}(H:
 Ld h n id λa=>c8 aG a [] h (λa b=>a=(.tuple #[])/\(Ld b o id λa=>c8 aG a [] b (λa b=>a=(.tuple #[])/\(K  b)) Kp)) Kp):
 SN n o h K Kp:=c9 kK K Tryz.func206 H
noncomputable def zD:=mc aG Tryz.f207 (am [(2000002,13)]) [(1,(OT.l [0,1,2,3,4,5] (.alt (OT.l [6] (.alt (OT.l [7] (.alt (OT.l [8,9,10] .fin) (OT.l [9,8,10] .fin))) (OT.l [9,7,8,10] .fin))) (OT.l [9,6,7,8,10] .fin))))] lZ
def wv:=jK zD 0 7 [.p,.d,.d]
theorem wv.of{K:jI}(H:
 NN P λa=>Ld h (a.add 16) Sl.v λa=>Gt a h (λa b=>St b (o.add 4) (Sl.v a) λa=>bY a o λb c d e f g=>cJ a n b c d e f g λa=>bY a n λb c d e f g=>K b c d e f g a) Kp):
 wv K Kp P n o h:=jf H
theorem SM.of{K:jI}(H:
 aL h cY cg λa b=>NN P λc=>NN P λd=>(qX (some d) b (λb d=>(aL d #[(Sl.v b)] fI λb d=>(gZ (some c) (⟨some b,1,1⟩:Sl) d (λb c d e f g i=>aL i cY cg λi j=>cJ j i b c d e f g λb=>wv K Kp P a i b) Kp)/\(aL d cY cg λd e=>gZ (some c) (⟨some b,1,1⟩:Sl) e (λb c e f g i j=>cJ j d b c e f g i λb=>wv K Kp P a d b) Kp))/\(aL d cY cg λd e=>aL e #[(Sl.v b)] fI λb e=>gZ (some c) (⟨some b,1,1⟩:Sl) e (λb c e f g i j=>cJ j d b c e f g i λb=>wv K Kp P a d b) Kp)) Kp)/\(aL b cY cg λb e=>qX (some d) e (λd e=>aL e #[(Sl.v d)] fI λd e=>gZ (some c) (⟨some d,1,1⟩:Sl) e (λc d e f g i j=>cJ j b c d e f g i λc=>wv K Kp P a b c) Kp) Kp)):
 SM P h K Kp:=cK (zD K Kp) lZ K Tryz.func207 H
noncomputable def X4:=mc aG Tryz.f209 (am [(2000015,73),(2006,939524169)]) [(17,(OT.l [0,1,2,3,4,5,6,9,7,8,10,11,12] .fin))] dm
def Rx:=jK X4 0 31 [.p,.d,tI]
def Ig:=fK 70 [0,3,6,27,28,29] [.p,.d,tI,.s,tI,tI]
def Qd:=lK X4 2006 122 Ig
theorem Rx.of{K:bT}(H:
 Ld h n .bool λb=>If b (NN P λa=>mA (some a) 16 h (λa b=>K a b) Kp) (NN P λb=>NN P λc=>Ld h (c.add 16) Sl.v λc=>Ar c h (λc d=>aP ((16:Int)+c) λc=>aP (c-a) λa=>mA (some b) a d (λa b=>K a b) Kp) Kp)):
 Rx K Kp P n a h:=jf H
theorem Qd.bC{K:bT}:eX (A0:=Int) (Qd K Kp P n a A b) (Ig P n a A b) λc d e=>(aW (d<b) (Ix A.a A.n 1 d λf=>Ld e f id λf=>Ld e n .bool λg=>If g (fo aG f "colonnade/build.zero" [] e (λe f=>∃g:Int,e=(ah g)/\(If (g !=0) (K g f) (aP (d+1) λd=>c (Ig P n a A b d) f))) Kp) (Ld e (n.add 3) Sl.v λg=>Ix g.a g.n 4 d λg=>bN e g λg i j k=>Ck aG f "colonnade/build.take" <|fo aG f "colonnade/build.take" [(.agg #[(.bool g),(ah i),(.string j),(Sl.v k)])] e (λe f=>∃g:Int,e=(ah g)/\(If (g !=0) (K g f) (aP (d+1) λd=>c (Ig P n a A b d) f))) Kp)) (Rx K Kp P n a e)):=ff
theorem Gu.of{K:bT}(H:
 iK h x a V A λa b=>NN P λc=>Ld b a .bool λd=>nx (some c) d b (λb c=>If (b !=0) (K b c) (NN P λb=>Ld c (b.add 16) Sl.v λb=>Ar b c (λb c=>NN P λd=>Ld c (d.add 16) Sl.v λd=>Qd K Kp P a b d (d.n:Int) 0 c) Kp)) Kp):
 Gu P x a V A h K Kp:=cK (X4 K Kp) dm K Tryz.func209 H
noncomputable def xD:=mc aG Tryz.f210 (am [(2000014,17),(2008,240518168593)]) [(14,(OT.l [0,1,2,3,4,5,6,9,7,8,10,11,12] .fin))] dm
def Rw:=jK xD 0 63 [.p,tI]
def Vq:=fK 59 [0,4,35,36,37] [.p,tI,.s,tI,tI]
def Qc:=lK xD 2008 250 Vq
theorem Rw.of{K:bT}(H:
 NN P λb=>NN P λc=>Ld h (c.add 16) Sl.v λc=>Ar c h (λc d=>aP ((16:Int)+c) λc=>aP (c-a) λa=>mA (some b) a d (λa b=>K a b) Kp) Kp):
 Rw K Kp P a h:=jf H
theorem Qc.bC{K:bT}:eX (A0:=Int) (Qc K Kp P a A b) (Vq P a A b) λc d e=>(aW (d<b) (Ix A.a A.n 1 d λf=>Ld e f id λf=>fo aG f "colonnade/build.zero" [] e (λe f=>∃g:Int,e=(ah g)/\(If (g !=0) (K g f) (aP (d+1) λd=>c (Vq P a A b d) f))) Kp) (Rw K Kp P a e)):=ff
theorem K4.of{K:bT}(H:
 NN P λa=>Ld h (a.add 15) .bool λa=>If a (NN P λa=>bN h (a.add 11) λa b c d=>Gu P a b c d h (λa b=>K a b) Kp) (NN P λa=>nx (some a) false h (λa b=>If (a !=0) (K a b) (NN P λa=>Ld b (a.add 16) Sl.v λa=>Ar a b (λa b=>NN P λc=>Ld b (c.add 16) Sl.v λc=>Qc K Kp P a c (c.n:Int) 0 b) Kp)) Kp)):
 K4 P h K Kp:=cK (xD K Kp) dm K Tryz.func210 H
noncomputable def afq:=mc aG Tryz.f211 (am [(2003,456)]) [] gP
def Vp:=fK 19 [6,7,3,8] [.s,tI,.s,tI]
def Qb:=lK afq 2003 58 Vp
theorem Qb.bC{K:gw}:jM (A0:=Sl) (A1:=Int) (Qb K Kp A a) (Vp A a) λb c d e=>(aW (d<a) (Ix A.a A.n 1 d λf=>Ld e f id λf=>fo aG f "colonnade/build.done" [] e (λe f=>∃g:Int,∃i:Int,∃j:Int,∃k:Sl,∃l:Sl,∃m:Sl,e=(.agg #[(ah g),(ah i),(ah j),(Sl.v k),(Sl.v l),(Sl.v m)])/\(aL f #[(ah g),(ah i),(ah j),(Sl.v k),(Sl.v l),(Sl.v m)] cg λe f=>Ap f cg cY 6 96 c 1 (rd f (some e) (1*6)) λc e=>aP (d+1) λd=>b (Vp A a c d) e)) Kp) (K c e)):=jU
theorem Gt.of{K:gw}(H:
 Qb K Kp A (A.n:Int) bM 0 h):
 Gt A h K Kp:=cK (afq K Kp) gP K Tryz.func211 H
noncomputable def afp:=mc aG Tryz.f212 (am [(2003,456)]) [] AV
def Vo:=fK 19 [3,6,7,8] [.d,.s,tI,tI]
def Qa:=lK afp 2003 58 Vo
theorem Qa.bC{K:Ce}:eX (A0:=Int) (Qa K Kp n A a) (Vo n A a) λb c d=>(aW (c<a) (Ix A.a A.n 1 c λe=>Ld d e id λe=>Ld d n Sl.v λf=>fo aG e "colonnade/build.mark" [] d (λe g=>∃i:Value,e=i/\(aT d g n 1 <|NA i <|aL g #[i] Y4 λd e=>aT g e n 1 <|Ap e Y4 #[(.nilFunc)] 1 8 f 1 (rd e (some d) (1*1)) λd e=>St e n (Sl.v d) λd=>aP (c+1) λc=>b (Vo n A a c) d)) Kp) (K (.func (.func 215) #[] #[(cU n)]) d)):=ff
theorem Gr.of{K:Ce}(H:
 aL h #[(.slice none 0 0)] Zc λa b=>Qa K Kp a A (A.n:Int) 0 b):
 Gr A h K Kp:=cK (afp K Kp) AV K Tryz.func212 H
theorem SK.of{K:iY}(H:
 Ld h n id λa=>c8 aG a [] h (λa b=>a=(.tuple #[])/\(Ld b o id λa=>c8 aG a [] b (λa b=>a=(.tuple #[])/\(K  b)) Kp)) Kp):
 SK n o h K Kp:=c9 kK K Tryz.func213 H
noncomputable def OM:=mc aG Tryz.f214 (am [(2003,456)]) [] dm
def Vn:=fK 18 [6,7,3,8] [.s,tI,tI,tI]
def P9:=lK OM 2003 58 Vn
theorem P9.bC{K:bT}:jM (A0:=Int) (A1:=Int) (P9 K Kp A a) (Vn A a) λb c d e=>(aW (d<a) (Ix A.a A.n 1 d λf=>Ld e f id λf=>fo aG f "colonnade/build.weight" [] e (λe f=>∃g:Int,e=(ah g)/\(aP (c+g) λc=>aP (d+1) λd=>b (Vn A a c d) f)) Kp) (K c e)):=jU
theorem Ar.of{K:bT}(H:
 P9 K Kp A (A.n:Int) 0 0 h):
 Ar A h K Kp:=cK (OM K Kp) dm K Tryz.func214 H
noncomputable def afo:=mc aG Tryz.f215 (am [(2001,56)]) [] kK
def Vm:=fK 12 [3,4,5] [.s,tI,tI]
def P8:=lK afo 2001 6 Vm
theorem P8.bC{K:iY}:eX (A0:=Int) (P8 K Kp A a) (Vm A a) λb c d=>(aW (c<a) (Ix A.a A.n 1 c λe=>Ld d e id λe=>c8 aG e [] d (λd e=>d=(.tuple #[])/\(aP (c+1) λc=>b (Vm A a c) e)) Kp) (K  d)):=ff
theorem SJ.of{K:iY}(H:
 Ld h n Sl.v λa=>P8 K Kp a (a.n:Int) 0 h):
 SJ n h K Kp:=cK (afo K Kp) kK K Tryz.func215 H
noncomputable def afn:=mc aG Tryz.f216 (am [(2000002,13)]) [(1,(OT.l [0,1,2,3,4,5,6,8,9,10,11] (.alt (OT.l [7] (.alt (OT.l [12] (.alt (OT.l [13] (.alt (OT.l [14,15,16] .fin) (OT.l [15,14,16] .fin))) (OT.l [15,13,14,16] .fin))) (OT.l [15,12,13,14,16] .fin))) (OT.l [15,7,12,13,14,16] .fin))))] lZ
def wu:=jK afn 0 7 [.p,.d,.d]
theorem wu.of{K:jI}(H:
 NN P λa=>Ld h (a.add 18) Sl.v λa=>Gt a h (λa b=>St b (o.add 4) (Sl.v a) λa=>bY a o λb c d e f g=>cJ a n b c d e f g λa=>bY a n λb c d e f g=>K b c d e f g a) Kp):
 wu K Kp P n o h:=jf H
theorem SI.of{K:jI}(H:
 aL h cY cg λa b=>NN P λc=>NN P λd=>Ld b (d.add 16) Sl.v λe=>NN P λf=>Ld b (f.add 17) Sl.v λg=>(Aq e b (λe i=>aT b i (f.add 17) 1 <|(oQ g 4 i (λb g=>(aL g #[(Sl.v e),(Sl.v b)] fI λb e=>(gZ (some c) (⟨some b,2,2⟩:Sl) e (λb c e g i j k=>aL k cY cg λl m=>aT k m (f.add 17) 1 <|aT k m (d.add 16) 1 <|cJ m l b c e g i j λb=>wu K Kp P a l b) Kp)/\(aL e cY cg λg i=>aT e i (f.add 17) 1 <|aT e i (d.add 16) 1 <|gZ (some c) (⟨some b,2,2⟩:Sl) i (λb c d e f i j=>cJ j g b c d e f i λb=>wu K Kp P a g b) Kp))/\(aL g cY cg λi j=>aT g j (f.add 17) 1 <|aT g j (d.add 16) 1 <|aL j #[(Sl.v e),(Sl.v b)] fI λb d=>gZ (some c) (⟨some b,2,2⟩:Sl) d (λb c d e f g j=>cJ j i b c d e f g λb=>wu K Kp P a i b) Kp)) Kp)/\(aL i cY cg λb j=>aT i j (f.add 17) 1 <|aT i j (d.add 16) 1 <|oQ g 4 j (λd f=>aL f #[(Sl.v e),(Sl.v d)] fI λd e=>gZ (some c) (⟨some d,2,2⟩:Sl) e (λc d e f g i j=>cJ j b c d e f g i λc=>wu K Kp P a b c) Kp) Kp)) Kp)/\(aL b cY cg λi j=>aT b j (f.add 17) 1 <|aT b j (d.add 16) 1 <|Aq e j (λb d=>aT j d (f.add 17) 1 <|oQ g 4 d (λd e=>aL e #[(Sl.v b),(Sl.v d)] fI λb d=>gZ (some c) (⟨some b,2,2⟩:Sl) d (λb c d e f g j=>cJ j i b c d e f g λb=>wu K Kp P a i b) Kp) Kp) Kp)):
 SI P h K Kp:=cK (afn K Kp) lZ K Tryz.func216 H
theorem Gq.of{K:bT}(H:
 iK h x a V A λa b=>Ld b (a.add 1) mI λc=>Gp P c (.func (.func 222) #[] #[(cU a)]) b (λa b=>K a b) Kp):
 Gq P x a V A h K Kp:=c9 dm K Tryz.func218 H
theorem K3.of{K:bT}(H:
 NN P λa=>Ld h (a.add 15) .bool λa=>If a (NN P λa=>bN h (a.add 11) λa b c d=>Gq P a b c d h (λa b=>K a b) Kp) (Gp P 0 (.func (.methodOf JL "colonnade/build.zero") #[] #[]) h (λa b=>K a b) Kp)):
 K3 P h K Kp:=c9 dm K Tryz.func219 H
theorem SG.of{K:iY}(H:
 Ld h n id λa=>c8 aG a [] h (λa b=>a=(.tuple #[])/\(Ld b o id λa=>c8 aG a [] b (λa b=>a=(.tuple #[])/\(Ld b p .pointer λa=>Ld b p .pointer λc=>Ld b p .pointer λd=>NN d λd=>Ld b (d.add 16) Sl.v λd=>Ld b q mI λe=>jA d 1 none (some e) none λd=>Ld b p .pointer λe=>NN e λe=>Ld b (e.add 17) Sl.v λe=>Ld b q mI λf=>jA e 1 none (some f) none λe=>NN a λa=>St b (a.add 16) (Sl.v d) λa=>aT b a q 1 <|aT b a p 1 <|NN c λb=>St a (b.add 17) (Sl.v e) λa=>K  a)) Kp)) Kp):
 SG n o p q h K Kp:=c9 kK K Tryz.func220 H
theorem Gp.of{K:bT}(H:
 NN P λb=>nx (some b) false h (λb c=>If (b !=0) (K b c) (NN P λb=>Ld c (b.add 18) Sl.v λb=>Ix b.a b.n 1 a λb=>Ld c b id λb=>fo aG b "colonnade/build.weight" [] c (λc d=>∃e:Int,c=(ah e)/\(NN P λc=>Ld d (c.add 16) Sl.v λc=>Wr .u8 a λa=>aL d #[(.int .u8 a)] Y8 λa d=>Ap d Y8 #[(.int .u8 0)] 1 1 c 1 (rd d (some a) (1*1)) λa c=>NN P λd=>St c (d.add 16) (Sl.v a) λa=>NN P λc=>Ld a (c.add 17) Sl.v λd=>fo aG b "colonnade/build.count" [] a (λf g=>∃i:Int,f=(ah i)/\(aT a g (c.add 17) 1 <|aL g #[(ah i)] Y6 λa f=>aT g f (c.add 17) 1 <|Ap f Y6 #[(ah 0)] 1 8 d 1 (rd f (some a) (1*1)) λa c=>NN P λd=>St c (d.add 17) (Sl.v a) λa=>c8 aG Y [b] a (λa c=>∃d:Int,a=(ah d)/\(If (d !=0) (K d c) (NN P λa=>fo aG b "colonnade/build.weight" [] c (λb c=>∃d:Int,b=(ah d)/\(aP ((16:Int)+d) λb=>aP (b-e) λb=>mA (some a) b c (λa b=>K a b) Kp)) Kp))) Kp)) Kp)) Kp)) Kp):
 Gp P a Y h K Kp:=D8 [] [(11,(OT.l [0,1,2,3,6,4,5,7,8,9] .fin))] dm K Tryz.func221 H
theorem SF.of{K:bT}(H:
 Ld h (n.add 3) Sl.v λa=>Ix a.a a.n 4 0 λa=>bN h a λa b c d=>Ck aG Y "colonnade/build.take" <|fo aG Y "colonnade/build.take" [(.agg #[(.bool a),(ah b),(.string c),(Sl.v d)])] h (λa b=>∃c:Int,a=(ah c)/\(K c b)) Kp):
 SF Y n h K Kp:=c9 dm K Tryz.func222 H
noncomputable def afm:=mc aG Tryz.f223 (am [(2000002,13)]) [(1,(OT.l [0,1,2,3,4,5,7,8,9,10,11,12,13,14,15,16,17] (.alt (OT.l [6] (.alt (OT.l [18] (.alt (OT.l [19] (.alt (OT.l [20] (.alt (OT.l [21,22,23] .fin) (OT.l [22,21,23] .fin))) (OT.l [22,20,21,23] .fin))) (OT.l [22,19,20,21,23] .fin))) (OT.l [22,18,19,20,21,23] .fin))) (OT.l [22,6,18,19,20,21,23] .fin))))] lZ
def uI:=jK afm 0 7 [.p,.d,.d]
theorem uI.of{K:jI}(H:
 NN P λa=>Ld h (a.add 17) id λa=>fo aG a "colonnade/build.done" [] h (λa b=>∃c:Int,∃d:Int,∃e:Int,∃f:Sl,∃g:Sl,∃i:Sl,a=(.agg #[(ah c),(ah d),(ah e),(Sl.v f),(Sl.v g),(Sl.v i)])/\(aL b #[(ah c),(ah d),(ah e),(Sl.v f),(Sl.v g),(Sl.v i)] cg λa b=>St b (o.add 5) (.slice (some a) 1 1) λa=>bY a o λb c d e f g=>cJ a n b c d e f g λa=>bY a n λb c d e f g=>K b c d e f g a)) Kp):
 uI K Kp P n o h:=jf H
theorem SE.of{K:jI}(H:
 aL h cY cg λa b=>NN P λc=>NN P λd=>NN P λe=>Ld b (e.add 16) Sl.v λf=>NN P λg=>Ld b ((g.add 2).add 3) mI λi=>(qX (some d) b (λd j=>aT b j ((g.add 2).add 3) 1 <|aT b j (e.add 16) 1 <|(wH i j (λb i=>aT j i (e.add 16) 1 <|(oQ f b i (λb f=>(aL f #[(Sl.v d),(Sl.v b)] fI λb d=>(gZ (some c) (⟨some b,2,2⟩:Sl) d (λb c d f i j k=>aL k cY cg λl m=>aT k m ((g.add 2).add 3) 1 <|aT k m (e.add 16) 1 <|cJ m l b c d f i j λb=>uI K Kp P a l b) Kp)/\(aL d cY cg λf i=>aT d i ((g.add 2).add 3) 1 <|aT d i (e.add 16) 1 <|gZ (some c) (⟨some b,2,2⟩:Sl) i (λb c d e g i j=>cJ j f b c d e g i λb=>uI K Kp P a f b) Kp))/\(aL f cY cg λi j=>aT f j ((g.add 2).add 3) 1 <|aT f j (e.add 16) 1 <|aL j #[(Sl.v d),(Sl.v b)] fI λb d=>gZ (some c) (⟨some b,2,2⟩:Sl) d (λb c d e f g j=>cJ j i b c d e f g λb=>uI K Kp P a i b) Kp)) Kp)/\(aL i cY cg λj k=>aT i k ((g.add 2).add 3) 1 <|aT i k (e.add 16) 1 <|oQ f b k (λb e=>aL e #[(Sl.v d),(Sl.v b)] fI λb d=>gZ (some c) (⟨some b,2,2⟩:Sl) d (λb c d e f g i=>cJ i j b c d e f g λb=>uI K Kp P a j b) Kp) Kp)) Kp)/\(aL j cY cg λb k=>aT j k ((g.add 2).add 3) 1 <|aT j k (e.add 16) 1 <|wH i k (λg i=>aT k i (e.add 16) 1 <|oQ f g i (λe f=>aL f #[(Sl.v d),(Sl.v e)] fI λd e=>gZ (some c) (⟨some d,2,2⟩:Sl) e (λc d e f g i j=>cJ j b c d e f g i λc=>uI K Kp P a b c) Kp) Kp) Kp)) Kp)/\(aL b cY cg λj k=>aT b k ((g.add 2).add 3) 1 <|aT b k (e.add 16) 1 <|qX (some d) k (λb d=>aT k d ((g.add 2).add 3) 1 <|aT k d (e.add 16) 1 <|wH i d (λg i=>aT d i (e.add 16) 1 <|oQ f g i (λd e=>aL e #[(Sl.v b),(Sl.v d)] fI λb d=>gZ (some c) (⟨some b,2,2⟩:Sl) d (λb c d e f g i=>cJ i j b c d e f g λb=>uI K Kp P a j b) Kp) Kp) Kp) Kp)):
 SE P h K Kp:=cK (afm K Kp) lZ K Tryz.func223 H
noncomputable def OL:=mc aG Tryz.f225 (am [(2000007,9),(2000018,73),(2000017,329)]) [(17,(OT.l [0,1,2,3,4,5,6,7,8,9,11] (.alt (OT.l [10,12,13,14] .fin) (OT.l [12,10,13,14] .fin)))),(16,(OT.l [0,1,2,3,4,6] (.alt (OT.l [5,7,8,9,11,12] (.alt (OT.l [10,13] .fin) (OT.l [13,10] .fin))) (OT.l [7,5,8,9,11,12] (.alt (OT.l [10,13] .fin) (OT.l [13,10] .fin))))))] dm
def Ae:=jK OL 1 63 [.p,.d,tI]
def qU:=jK OL 2 8031 [.p,.d,tI,.i .u64]
def Rv:=jK OL 0 15 [.p,.d]
theorem Ae.of{K:bT}(H:
 NN P λb=>Ld h (b.add 16) Sl.v λb=>aL h #[(ah a)] Y6 λa c=>Ap c Y6 #[(ah 0)] 1 8 b 1 (rd c (some a) (1*1)) λa b=>NN P λc=>St b (c.add 16) (Sl.v a) λa=>NN P λb=>bN a n λc d e f=>Au c d e f a (λa c=>mA (some b) a c (λa b=>K a b) Kp) Kp):
 Ae K Kp P n a h:=jf H
theorem qU.of{K:bT}(H:
 NN P λc=>Ld h (c.add 19) .map λd=>NN P λe=>Ld h (e.add 19) .map λf=>(Lk h f (.int .u64) (.int .u64 b) (.slice none 0 0) Sl.v λf _=>aT h h (c.add 19) 1 <|aL h #[(ah a)] Y6 λg i=>aT h i (e.add 19) 1 <|aT h i (c.add 19) 1 <|Ap i Y6 #[(ah 0)] 1 8 f 1 (rd i (some g) (1*1)) λe f=>aT i f (c.add 19) 1 <|Up f d (.int .u64) (.int .u64 b) (Sl.v e) λb=>Ae K Kp P n a b)/\(aL h #[(ah a)] Y6 λg i=>aT h i (e.add 19) 1 <|aT h i (c.add 19) 1 <|Lk i f (.int .u64) (.int .u64 b) (.slice none 0 0) Sl.v λe _=>aT i i (c.add 19) 1 <|Ap i Y6 #[(ah 0)] 1 8 e 1 (rd i (some g) (1*1)) λe f=>aT i f (c.add 19) 1 <|Up f d (.int .u64) (.int .u64 b) (Sl.v e) λb=>Ae K Kp P n a b)):
 qU K Kp P n a b h:=jf H
theorem Rv.of{K:bT}(H:
 bN h n λa b c d=>K0 P a b c d h (λa b=>aW (a<0) (NN P λa=>Ld b (a.add 18) Sl.v λa=>Gm P b (λb c=>aW ((a.n:Int)>=b) (K 102 c) (NN P λb=>Ld c (b.add 17) id λb=>bN c n λd e f g=>fo aG b "colonnade/build.take" [(.agg #[(.bool d),(ah e),(.string f),(Sl.v g)])] c (λb c=>∃d:Int,b=(ah d)/\(If (d !=0) (K d c) (bN c n λb d e f=>CT b d e f c (λb c=>NN P λd=>Ld c (d.add 18) Sl.v λe=>bN c n λf g i j=>(wG f g i j c (λf g i j k=>aT c k (d.add 18) 1 <|aL k #[(.bool false),(ah 0),(.string (bs [])),(.slice none 0 0)] di λc l=>aT k l n 4 <|aT k l (d.add 18) 1 <|Ap l di gl 4 56 e 1 (rd l (some c) (1*4)) λc d=>Ix c.a c.n 4 (e.n:Int) λe=>NN P λk=>(dK d e f g i j λd=>St d (k.add 18) (Sl.v c) λc=>qU K Kp P n (a.n:Int) b c)/\(St d (k.add 18) (Sl.v c) λc=>dK c e f g i j λc=>qU K Kp P n (a.n:Int) b c)) Kp)/\(aL c #[(.bool false),(ah 0),(.string (bs [])),(.slice none 0 0)] di λk l=>aT c l n 4 <|aT c l (d.add 18) 1 <|wG f g i j l (λc f g i j=>aT l j (d.add 18) 1 <|Ap j di gl 4 56 e 1 (rd j (some k) (1*4)) λd j=>Ix d.a d.n 4 (e.n:Int) λe=>NN P λk=>(dK j e c f g i λc=>St c (k.add 18) (Sl.v d) λc=>qU K Kp P n (a.n:Int) b c)/\(St j (k.add 18) (Sl.v d) λd=>dK d e c f g i λc=>qU K Kp P n (a.n:Int) b c)) Kp)) Kp))) Kp)) Kp) (Ae K Kp P n a b)) Kp):
 Rv K Kp P n h:=jf H
theorem Gn.of{K:bT}(H:
 iK h x a V A λa b=>NN P λc=>Ld b a .bool λd=>nx (some c) d b (λb c=>If (b !=0) (K b c) (Ld c a .bool λb=>If b (NN P λa=>Ld c (a.add 16) Sl.v λa=>aL c #[(ah 0)] Y6 λb c=>Ap c Y6 #[(ah 0)] 1 8 a 1 (rd c (some b) (1*1)) λa b=>NN P λc=>St b (c.add 16) (Sl.v a) λa=>NN P λb=>mA (some b) 16 a (λa b=>K a b) Kp) (Rv K Kp P a c))) Kp):
 Gn P x a V A h K Kp:=cK (OL K Kp) dm K Tryz.func225 H
theorem K1.of{K:bT}(H:
 NN P λa=>Ld h (a.add 15) .bool λa=>If a (NN P λa=>bN h (a.add 11) λa b c d=>Gn P a b c d h (λa b=>K a b) Kp) (NN P λa=>nx (some a) false h (λa b=>If (a !=0) (K a b) (NN P λa=>Ld b (a.add 18) Sl.v λc=>Gm P b (λd e=>aT b e (a.add 18) 1 <|aW ((c.n:Int)>=d) (K 102 e) (NN P λa=>Ld e (a.add 17) id λa=>fo aG a "colonnade/build.zero" [] e (λa b=>∃c:Int,a=(ah c)/\(If (c !=0) (K c b) (K 3 b))) Kp)) Kp)) Kp)):
 K1 P h K Kp:=c9 dm K Tryz.func226 H
theorem wH.of{K:bT}(H:
 If (a==3) (If (a==3) (K 1 h) (If (a==4) (If (a==4) (K 2 h) (If (a==5) (If (a==5) (K 4 h) (K 8 h)) (If (a==9) (K 4 h) (K 8 h)))) (If (a==8) (K 2 h) (If (a==5) (If (a==5) (K 4 h) (K 8 h)) (If (a==9) (K 4 h) (K 8 h)))))) (If (a==7) (K 1 h) (If (a==4) (If (a==4) (K 2 h) (If (a==5) (If (a==5) (K 4 h) (K 8 h)) (If (a==9) (K 4 h) (K 8 h)))) (If (a==8) (K 2 h) (If (a==5) (If (a==5) (K 4 h) (K 8 h)) (If (a==9) (K 4 h) (K 8 h))))))):
 wH a h K Kp:=c9 dm K Tryz.func227 H
noncomputable def OK:=mc aG Tryz.f228 (am [(2000003,20),(2000011,20),(2004,52)]) [] kK
def Rt:=jK OK 1 31 [.d,.d]
def NC:=fK 73 [2,4,5] [.d,.d,tI]
def P7:=lK OK 2004 122 NC
def Ru:=jK OK 0 15 [.d,.d]
theorem Rt.of{K:iY}(H:
 Ld h n .pointer λa=>Ld h n .pointer λb=>NN b λb=>Ld h (b.add 18) Sl.v λb=>Ld h o mI λc=>jA b 4 none (some c) none λb=>NN a λa=>St h (a.add 18) (Sl.v b) λa=>K  a):
 Rt K Kp n o h:=jf H
theorem P7.bC{K:iY}:eX (A0:=Int) (P7 K Kp n o) (NC n o) λa b c=>(Ld c o mI λd=>aW (b>=d) (Ld c n .pointer λd=>NN d λd=>Ld c (d.add 18) Sl.v λd=>Ix d.a d.n 4 b λd=>bN c d λd e f g=>CT d e f g c (λc d=>Ld d n .pointer λe=>NN e λe=>Ld d (e.add 19) .map λe=>Lk d e (.int .u64) (.int .u64 c) (.slice none 0 0) Sl.v λe _=>Ld d n .pointer λf=>NN f λf=>Ld d (f.add 19) .map λf=>aP ((e.n:Int)-1) λg=>jA e 1 none (some g) none λg=>Up d f (.int .u64) (.int .u64 c) (Sl.v g) λd=>If ((e.n:Int)==1) (Ld d n .pointer λe=>NN e λe=>Ld d (e.add 19) .map λe=>yK d e (.int .u64) (.int .u64 c) λc=>aP (b-1) λb=>a (NC n o b) c) (aP (b-1) λb=>a (NC n o b) d)) Kp) (Rt K Kp n o c)):=ff
theorem Ru.of{K:iY}(H:
 Ld h n .pointer λa=>NN a λa=>Ld h (a.add 18) Sl.v λa=>aP ((a.n:Int)-1) λa=>P7 K Kp n o a h):
 Ru K Kp n o h:=jf H
theorem SC.of{K:iY}(H:
 Ld h n id λa=>c8 aG a [] h (λa b=>a=(.tuple #[])/\(Ld b o id λa=>c8 aG a [] b (λa b=>a=(.tuple #[])/\(Ld b p .pointer λa=>Ld b p .pointer λc=>NN c λc=>Ld b (c.add 16) Sl.v λc=>Ld b q mI λd=>jA c 1 none (some d) none λc=>NN a λa=>St b (a.add 16) (Sl.v c) λa=>Ru K Kp p r a)) Kp)) Kp):
 SC n o p q r h K Kp:=cK (OK K Kp) kK K Tryz.func228 H
theorem CT.of{K:EW}(H:
 iK h x a V A λa b=>aL b #[(.int .u64 0)] avI λb c=>St c b (.int .u64 14695981039346656037) λc=>bN c a λa d e f=>Gl (some b) a d e f c (λa=>Ld a b (.int .u64) λb=>K b a) Kp):
 CT x a V A h K Kp:=c9 Dz K Tryz.func229 H
noncomputable def afl:=mc aG Tryz.f230 (am [(2002,57353)]) [(1,(OT.l [0,1,2,3,4,8,5,6,7] .fin))] dm
def Vl:=fK 30 [0,3,13,14,15] [.p,.d,.s,tI,tI]
def P6:=lK afl 2002 26 Vl
theorem P6.bC{K:bT}:eX (A0:=Int) (P6 K Kp P n A a) (Vl P n A a) λb c d=>(aW (c<a) (Ix A.a A.n 1 c λe=>Ld d e mI λe=>NN P λf=>Ld d (f.add 18) Sl.v λf=>Ix f.a f.n 4 e λf=>bN d f λf g i j=>bN d n λk l m p=>CS f g i j k l m p d (λd f=>If d (K e f) (aP (c+1) λc=>b (Vl P n A a c) f)) Kp) (K (-1) d)):=ff
theorem K0.of{K:bT}(H:
 iK h x a V A λa b=>NN P λc=>Ld b (c.add 19) .map λd=>bN b a λe f g i=>CT e f g i b (λe f=>aT b f (c.add 19) 1 <|Lk f d (.int .u64) (.int .u64 e) (.slice none 0 0) Sl.v λb _=>P6 K Kp P a b (b.n:Int) 0 f) Kp):
 K0 P x a V A h K Kp:=cK (afl K Kp) dm K Tryz.func230 H
theorem Gm.of{K:bT}(H:
 NN P λa=>Ld h ((a.add 2).add 3) mI λa=>If (a==3) (K 128 h) (If (a==7) (K 256 h) (K 4097 h))):
 Gm P h K Kp:=c9 dm K Tryz.func231 H
noncomputable def afk:=mc aG Tryz.f232 (am [(2003,910)]) [] tO
def Vk:=fK 22 [1,2,7,8,3,9] [.d,.d,.s,tI,.s,tI]
def P5:=lK afk 2003 58 Vk
theorem P5.bC{K:qp}:jM (A0:=Sl) (A1:=Int) (P5 K Kp n o A a) (Vk n o A a) λb c d e=>(aW (d<a) (Ix A.a A.n 4 d λf=>bN e f λf g i j=>aL e gl di λe k=>dK k e f g i j λf=>bN f e λe g i j=>wG e g i j f (λe f g i j=>aL j #[(.bool e),(ah f),(.string g),(Sl.v i)] di λe f=>Ap f di gl 4 56 c 1 (rd f (some e) (1*4)) λc e=>aP (d+1) λd=>b (Vk n o A a c d) e) Kp) (St e (n.add 3) (Sl.v c) λa=>bN a n λb c d e=>dK a o b c d e λa=>bN a o λb c d e=>K b c d e a)):=jU
theorem wG.of{K:qp}(H:
 iK h x a V A λa b=>aL b gl di λb c=>Ld c (a.add 3) Sl.v λd=>P5 K Kp a b d (d.n:Int) bM 0 c):
 wG x a V A h K Kp:=cK (afk K Kp) tO K Tryz.func232 H
noncomputable def afB:=mc aG Tryz.f233 (am [(2003,14344)]) [] dm
def VW:=fK 23 [11,12,3,13] [.s,tI,tI,tI]
def QA:=lK afB 2003 58 VW
theorem QA.bC{K:bT}:jM (A0:=Int) (A1:=Int) (QA K Kp A a) (VW A a) λb c d e=>(aW (d<a) (Ix A.a A.n 4 d λf=>bN e f λf g i j=>aL e gl di λe k=>dK k e f g i j λf=>bN f e λe g i j=>Au e g i j f (λe f=>aP (c+e) λc=>aP (d+1) λd=>b (VW A a c d) f) Kp) (K c e)):=jU
theorem Au.of{K:bT}(H:
 iK h x a V A λa b=>Ld b (a.add 2) .string λc=>aP ((16:Int)+(c.size:Int)) λc=>Ld b (a.add 3) Sl.v λa=>QA K Kp a (a.n:Int) c 0 b):
 Au x a V A h K Kp:=cK (afB K Kp) dm K Tryz.func233 H
noncomputable def I8:=mc aG Tryz.f234 (am [(2000004,25),(2000012,9),(2014,123145302310913),(2008,201326601)]) [] kK
def Vj:=fK 54 [0,44,45,46] [.p,.s,tI,tI]
def P4:=lK I8 2014 2046 Vj
def Rr:=jK I8 1 255 [.p,.d]
def Vi:=fK 54 [0,3,26,27] [.p,.d,tI,tI]
def P3:=lK I8 2008 1018 Vi
def Fe:=jK I8 0 15 [.p,.d,.i .u8]
theorem P4.bC{K:iY}:eX (A0:=Int) (P4 K Kp P A a) (Vj P A a) λb c d=>(aW (c<a) (Ix A.a A.n 4 c λe=>bN d e λe f g i=>aL d gl di λd j=>dK j d e f g i λe=>bN e d λd f g i=>Gl P d f g i e (λd=>aP (c+1) λc=>b (Vj P A a c) d) Kp) (K  d)):=ff
theorem Rr.of{K:iY}(H:
 Ld h (n.add 3) Sl.v λa=>Wr .u64 (a.n:Int) λa=>CQ P a h (λa=>Ld a (n.add 3) Sl.v λb=>P4 K Kp P b (b.n:Int) 0 a) Kp):
 Rr K Kp P n h:=jf H
theorem P3.bC{K:iY}:eX (A0:=Int) (P3 K Kp P n a) (Vi P n a) λb c d=>(aW (c<a) (Ld d (n.add 2) .string λe=>gY e c λe=>CR P e d (λd=>aP (c+1) λc=>b (Vi P n a c) d) Kp) (Rr K Kp P n d)):=ff
theorem Fe.of{K:iY}(H:
 CR P a h (λa=>Ld a (n.add 1) mI λb=>Wr .u64 b λb=>CQ P b a (λa=>Ld a (n.add 2) .string λb=>Wr .u64 (b.size:Int) λb=>CQ P b a (λa=>Ld a (n.add 2) .string λb=>P3 K Kp P n (b.size:Int) 0 a) Kp) Kp) Kp):
 Fe K Kp P n a h:=jf H
theorem Gl.of{K:iY}(H:
 iK h x a V A λa b=>Ld b a .bool λc=>If c (Fe K Kp P a 1 b) (Fe K Kp P a 0 b)):
 Gl P x a V A h K Kp:=cK (I8 K Kp) kK K Tryz.func234 H
noncomputable def I7:=mc aG Tryz.f235 (am [(2000003,12),(2004,206158430220),(41012,131084),(41019,16777228)]) [] dz
def Vh:=fK 53 [2,3,36,37] [.d,.d,tI,tI]
def P2:=lK I7 2004 58 Vh
def Rq:=jK I7 0 7 [.d,.d]
def Cq:=rK I7 3 12 [.d,.d,.b]
def Cr:=rK I7 2 12 [.d,.d,.b]
theorem P2.bC{K:bG}:eX (A0:=Int) (P2 K Kp n o a) (Vh n o a) λb c d=>(aW (c<a) (Ld d (n.add 3) Sl.v λe=>Ix e.a e.n 4 c λe=>bN d e λe f g i=>Ld d (o.add 3) Sl.v λj=>Ix j.a j.n 4 c λj=>bN d j λj k l m=>CS e f g i j k l m d (λd e=>If (!d) (K false e) (aP (c+1) λc=>b (Vh n o a c) e)) Kp) (K true d)):=ff
theorem Rq.of{K:bG}(H:
 Ld h (n.add 3) Sl.v λa=>P2 K Kp n o (a.n:Int) 0 h):
 Rq K Kp n o h:=jf H
theorem Cq.of{K:bG}(H:
 If x (K false h) (Ld h (n.add 3) Sl.v λa=>Ld h (o.add 3) Sl.v λb=>If ((a.n:Int)!=(b.n:Int)) (K false h) (Rq K Kp n o h))):
 Cq K Kp n o x h:=jf H
theorem Cr.of{K:bG}(H:
 If x (Cq K Kp n o true h) (Ld h (n.add 2) .string λa=>Ld h (o.add 2) .string λb=>Cq K Kp n o (!(a.toList==b.toList)) h)):
 Cr K Kp n o x h:=jf H
theorem CS.of{K:bG}(H:
 iK h x a V A λa c=>iK c y b W B λb c=>Ld c a .bool λd=>Ld c b .bool λe=>If (!(d==e)) (Cr K Kp a b true c) (Ld c (a.add 1) mI λd=>Ld c (b.add 1) mI λe=>Cr K Kp a b (d !=e) c)):
 CS x a V A y b W B h K Kp:=cK (I7 K Kp) dz K Tryz.func235 H
theorem CR.of{K:iY}(H:
 NN P λb=>Ld h b (.int .u64) λb=>Wr .u64 a λa=>Lt (gu .xor .u64 b a) λa=>Wr .u64 (a*1099511628211) λa=>NN P λb=>St h b (.int .u64 a) λa=>K  a):
 CR P a h K Kp:=c9 kK K Tryz.func236 H
noncomputable def afj:=mc aG Tryz.f237 (am [(2001,19)]) [] kK
def Vg:=fK 13 [0,1,4] [.p,.i .u64,tI]
def P1:=lK afj 2001 6 Vg
theorem P1.bC{K:iY}:jM (A0:=Int) (A1:=Int) (P1 K Kp P) (Vg P) λa b c d=>(aW (c<8) (Wr .u8 b λe=>CR P e d (λd=>Nn 8<|Lt (Int.fdiv b (2^(min (Int.toNat 8) (IntKind.bits .u64)))) λb=>aP (c+1) λc=>a (Vg P b c) d) Kp) (K  d)):=jU
theorem CQ.of{K:iY}(H:
 P1 K Kp P a 0 h):
 CQ P a h K Kp:=cK (afj K Kp) kK K Tryz.func237 H
noncomputable def afi:=mc aG Tryz.f238 (am [(2000002,13)]) [(1,(OT.l (List.range' 0 9) (.alt (OT.l [9] (.alt (OT.l [10,11,12,13] .fin) (OT.l [12,10,11,13] .fin))) (OT.l [12,9,10,11,13] .fin))))] lZ
def Ad:=jK afi 0 7 [.p,.d,.d]
theorem Ad.of{K:jI}(H:
 NN P λa=>Ld h (a.add 7) mI λb=>bY h o λc d e f g i=>NN P λj=>Ld h (j.add 17) id λj=>fo aG j "colonnade/build.done" [] h (λj k=>∃l:Int,∃m:Int,∃p:Int,∃q:Sl,∃r:Sl,∃s:Sl,j=(.agg #[(ah l),(ah m),(ah p),(Sl.v q),(Sl.v r),(Sl.v s)])/\(aT h k o 6 <|aT h k (a.add 7) 1 <|aL k #[(ah c),(ah d),(ah e),(Sl.v f),(Sl.v g),(Sl.v i),(ah l),(ah m),(ah p),(Sl.v q),(Sl.v r),(Sl.v s)] cg λc d=>aT k d (a.add 7) 1 <|cJ d n b 0 0 bM (⟨some c,2,2⟩:Sl) bM λa=>bY a n λb c d e f g=>K b c d e f g a)) Kp):
 Ad K Kp P n o h:=jf H
theorem SB.of{K:jI}(H:
 aL h cY cg λa b=>NN P λc=>Ld b (c.add 16) Sl.v λd=>NN P λe=>Ld b (e.add 16) Sl.v λf=>(oQ f 4 b (λf g=>aT b g (c.add 16) 1 <|(aL g #[(.slice none 0 0),(Sl.v f)] fI λb f=>aT g f (c.add 16) 1 <|aL f cY cg λg i=>aT f i (e.add 16) 1 <|aT f i (c.add 16) 1 <|cJ i g (d.n:Int) 0 0 (⟨some b,2,2⟩:Sl) bM bM λb=>Ad K Kp P a g b)/\(aL g cY cg λb i=>aT g i (e.add 16) 1 <|aT g i (c.add 16) 1 <|aL i #[(.slice none 0 0),(Sl.v f)] fI λe f=>aT i f (c.add 16) 1 <|cJ f b (d.n:Int) 0 0 (⟨some e,2,2⟩:Sl) bM bM λc=>Ad K Kp P a b c)) Kp)/\(aL b cY cg λg i=>aT b i (e.add 16) 1 <|aT b i (c.add 16) 1 <|oQ f 4 i (λb e=>aT i e (c.add 16) 1 <|aL e #[(.slice none 0 0),(Sl.v b)] fI λb f=>aT e f (c.add 16) 1 <|cJ f g (d.n:Int) 0 0 (⟨some b,2,2⟩:Sl) bM bM λb=>Ad K Kp P a g b) Kp)):
 SB P h K Kp:=cK (afi K Kp) lZ K Tryz.func238 H
noncomputable def OJ:=mc aG Tryz.f240 (am [(2000007,9),(2000011,9),(3509999,134217737)]) [] dm
def Rp:=jK OJ 1 63 [.p,.d]
def Ka:=jK OJ 0 15 [.p,.d]
def Fb:=jK OJ 2 29 [.p,.d,.b]
theorem Rp.of{K:bT}(H:
 bN h n λa b c d=>wG a b c d h (λa b c d e=>NN P λf=>dK e (f.add 18) a b c d λa=>NN P λb=>bN a n λc d e f=>Au c d e f a (λa c=>mA (some b) a c (λa b=>K a b) Kp) Kp) Kp):
 Rp K Kp P n h:=jf H
theorem Ka.of{K:bT}(H:
 NN P λa=>Ld h (a.add 17) id λa=>bN h n λb c d e=>fo aG a "colonnade/build.take" [(.agg #[(.bool b),(ah c),(.string d),(Sl.v e)])] h (λa b=>∃c:Int,a=(ah c)/\(If (c !=0) (K c b) (NN P λa=>Ld b (a.add 16) Sl.v λc=>NN P λd=>Ld b (d.add 7) mI λd=>aL b #[(ah d)] Y6 λd e=>aT b e (a.add 16) 1 <|Ap e Y6 #[(ah 0)] 1 8 c 1 (rd e (some d) (1*1)) λa b=>NN P λc=>St b (c.add 16) (Sl.v a) λa=>Rp K Kp P n a))) Kp):
 Ka K Kp P n h:=jf H
theorem Fb.of{K:bT}(H:
 If x (NN P λa=>Ld h (a.add 16) Sl.v λa=>NN P λb=>Ld h (b.add 16) Sl.v λb=>aP ((b.n:Int)-1) λb=>NN P λc=>Ld h (c.add 7) mI λc=>Ix a.a a.n 1 b λa=>St h a (ah c) λa=>NN P λb=>bN a n λc d e f=>Au c d e f a (λa c=>mA (some b) a c (λa b=>K a b) Kp) Kp) (Ka K Kp P n h)):
 Fb K Kp P n x h:=jf H
theorem Gk.of{K:bT}(H:
 iK h x a V A λa b=>NN P λc=>nx (some c) false b (λb c=>If (b !=0) (K b c) (NN P λb=>Ld c (b.add 16) Sl.v λb=>aW ((b.n:Int)>0) (NN P λb=>bN c (b.add 18) λb d e f=>bN c a λg i j k=>CS b d e f g i j k c (λb c=>Fb K Kp P a b c) Kp) (Fb K Kp P a false c))) Kp):
 Gk P x a V A h K Kp:=cK (OJ K Kp) dm K Tryz.func240 H
theorem KZ.of{K:bT}(H:
 NN P λa=>Ld h (a.add 15) .bool λa=>If a (NN P λa=>bN h (a.add 11) λa b c d=>Gk P a b c d h (λa b=>K a b) Kp) (NN P λa=>nx (some a) false h (λa b=>If (a !=0) (K a b) (NN P λa=>Ld b (a.add 17) id λa=>fo aG a "colonnade/build.zero" [] b (λa b=>∃c:Int,a=(ah c)/\(If (c !=0) (K c b) (K 3 b))) Kp)) Kp)):
 KZ P h K Kp:=c9 dm K Tryz.func241 H
noncomputable def afg:=mc aG Tryz.f242 (am [(2000003,44)]) [] kK
def Ro:=jK afg 0 15 [.d,.d,.d]
theorem Ro.of{K:iY}(H:
 Ld h o mI λa=>aW (a>0) (Ld h n .pointer λa=>NN a λa=>Ld h (a.add 16) Sl.v λa=>Ld h o mI λb=>aP (b-1) λb=>Ld h p mI λc=>Ix a.a a.n 1 b λa=>St h a (ah c) λa=>K  a) (K  h)):
 Ro K Kp n o p h:=jf H
theorem Sy.of{K:iY}(H:
 Ld h n id λa=>c8 aG a [] h (λa b=>a=(.tuple #[])/\(Ld b o id λa=>c8 aG a [] b (λa b=>a=(.tuple #[])/\(Ld b p .pointer λa=>Ld b p .pointer λc=>Ld b p .pointer λd=>NN d λd=>Ld b (d.add 16) Sl.v λd=>Ld b q mI λe=>jA d 1 none (some e) none λd=>bN b r λe f g i=>NN a λa=>St b (a.add 16) (Sl.v d) λa=>aT b a r 4 <|aT b a p 1 <|NN c λb=>dK a (b.add 18) e f g i λa=>Ro K Kp p q s a)) Kp)) Kp):
 Sy n o p q r s h K Kp:=cK (afg K Kp) kK K Tryz.func242 H
noncomputable def OI:=mc aG Tryz.f243 (am [(2000019,13),(2008,1924145348621),(2015,33056565380087516495901)]) [(19,(OT.l [0,1,2,3,4,5,7,6,8,9,10] .fin))] lZ
def yA:=jK OI 0 15 [.p,.d,.s]
def Vf:=fK 98 [0,2,3,38,39,40] [.p,.d,.s,.s,tI,tI]
def JZ:=lK OI 2008 3798 Vf
def Ve:=fK 98 [0,2,3,4,72,73,74] [.p,.d,.s,.d,.s,tI,tI]
def JY:=lK OI 2015 15222 Ve
theorem yA.of{K:jI}(H:
 NN P λa=>NN P λb=>qX (some b) h (λb c=>aL c #[(Sl.v b),(Sl.v A)] fI λb c=>gZ (some a) (⟨some b,2,2⟩:Sl) c (λa b c d e f g=>cJ g n a b c d e f λa=>bY a n λb c d e f g=>K b c d e f g a) Kp) Kp):
 yA K Kp P n A h:=jf H
theorem JZ.bC{K:jI}:eX (A0:=Int) (JZ K Kp P n A B a) (Vf P n A B a) λb c d=>(aW (c<a) (Ix B.a B.n 1 c λe=>Ld d e (.int .u64) λe=>Dv 8<|aP (Int.tdiv c 8) λf=>Ix A.a A.n 1 f λg=>Ld d g (.int .u8) λg=>Wr .u8 e λe=>Dv 8<|Lt (Int.tmod c 8) λi=>Nn i<|Wr .u8 (e*2^(min (Int.toNat i) (IntKind.bits .u8))) λe=>Lt (gu .or .u8 g e) λe=>Ix A.a A.n 1 f λf=>St d f (.int .u8 e) λd=>aP (c+1) λc=>b (Vf P n A B a c) d) (yA K Kp P n A d)):=ff
theorem JY.bC{K:jI}:eX (A0:=Int) (JY K Kp P n A o B a) (Ve P n A o B a) λb c d=>(aW (c<a) (Ix B.a B.n 1 c λe=>Ld d e .string λe=>Ld d (o.add 1) mI λf=>aP (c*f) λf=>jA A 1 (some f) none none λf=>AA d f.a (λa=>a=(e.extract 0 (Nat.min e.size f.n)).data.toList.map λa=>Value.int .u8 a.toNat) λd=>aP (c+1) λc=>b (Ve P n A o B a c) d) (yA K Kp P n A d)):=ff
theorem Sx.of{K:jI}(H:
 aL h cY cg λa b=>NN P λc=>gX b (c.add 2) λc d e f g=>aL b oU kH λb i=>lW i b c d e f g λc=>Ld c b mI λd=>If (d==2) (NN P λb=>Ld c (b.add 16) Sl.v λb=>aP ((b.n:Int)+7) λb=>Dv 8<|aP (Int.tdiv b 8) λb=>dO c Y8 #[(.int .u8 0)] 1 1 b b λb c=>NN P λd=>Ld c (d.add 16) Sl.v λd=>JZ K Kp P a b d (d.n:Int) 0 c) (If (d==14) (NN P λd=>Ld c (d.add 17) Sl.v λd=>Ld c (b.add 1) mI λe=>aP ((d.n:Int)*e) λd=>dO c Y8 #[(.int .u8 0)] 1 1 d d λc d=>NN P λe=>Ld d (e.add 17) Sl.v λe=>JY K Kp P a c b e (e.n:Int) 0 d) (NN P λd=>Ld c (d.add 16) Sl.v λe=>Ld c b mI λb=>wH b c (λb f=>aT c f (d.add 16) 1 <|KY e b f (λb c=>yA K Kp P a b c) Kp) Kp))):
 Sx P h K Kp:=cK (OI K Kp) lZ K Tryz.func243 H
noncomputable def X3:=mc aG Tryz.f245 (am [(2000005,9),(2000006,9)]) [] dm
def Rm:=jK X3 1 31 [.p,.d]
def Rn:=jK X3 0 15 [.p,.d]
theorem Rm.of{K:bT}(H:
 NN P λa=>Ld h (n.add 2) .string λb=>aP ((16:Int)+(b.size:Int)) λb=>mA (some a) b h (λa b=>K a b) Kp):
 Rm K Kp P n h:=jf H
theorem Rn.of{K:bT}(H:
 NN P λa=>Ld h (a.add 17) Sl.v λb=>Ld h (n.add 2) .string λc=>aL h #[(.string c)] qo λc d=>aT h d (a.add 17) 1 <|Ap d qo #[(.string (bs []))] 1 16 b 1 (rd d (some c) (1*1)) λa b=>NN P λc=>St b (c.add 17) (Sl.v a) λa=>Rm K Kp P n a):
 Rn K Kp P n h:=jf H
theorem Gj.of{K:bT}(H:
 iK h x a V A λa b=>NN P λc=>Ld b a .bool λd=>nx (some c) d b (λb c=>If (b !=0) (K b c) (NN P λb=>Ld c (b.add 16) Sl.v λd=>Ld c (a.add 1) mI λe=>Wr .u64 e λe=>aL c #[(.int .u64 e)] oK λe f=>aT c f (b.add 16) 1 <|Ap f oK #[(.int .u64 0)] 1 8 d 1 (rd f (some e) (1*1)) λb c=>NN P λd=>St c (d.add 16) (Sl.v b) λb=>Rn K Kp P a b)) Kp):
 Gj P x a V A h K Kp:=cK (X3 K Kp) dm K Tryz.func245 H
theorem Su.of{K:bT}(H:
 NN P λa=>bN h (a.add 11) λa b c d=>Gj P a b c d h (λa b=>K a b) Kp):
 Su P h K Kp:=c9 dm K Tryz.func246 H
noncomputable def X2:=mc aG Tryz.f247 (am [(2003,114722),(2006,3260578)]) [] gP
def Vd:=fK 35 [1,14,15,5,16] [tI,.s,tI,.s,tI]
def Vb:=fK 35 [1,7,14,15,16,20,5,21] [tI,.i .u64,.s,tI,tI,tI,.s,tI]
def PY:=DP X2 2006 14950 Vb
def P0:=lK X2 2003 58 Vd
theorem PY.bC{K:gw}:jM (A0:=Sl) (A1:=Int) (PY K Kp N1 a b A c d e) (Vb a b A c d e) λf g i j=>(aW (i<e) (aP ((8:Int)*i) λk=>Nn k<|Lt (Int.fdiv b (2^(min (Int.toNat k) (IntKind.bits .u64)))) λk=>Wr .u8 k λk=>aL j #[(.int .u8 k)] Y8 λj k=>Ap k Y8 #[(.int .u8 0)] 1 1 g 1 (rd k (some j) (1*1)) λg j=>aP (i+1) λi=>f (Vb a b A c d e g i) j) (aP (d+1) λb=>N1 (Vd a A c g b) j)):=jU
theorem P0.bC{K:gw}:jM (A0:=Sl) (A1:=Int) (P0 K Kp a A b) (Vd a A b) λc d e f=>(aW (e<b) (Ix A.a A.n 1 e λg=>Ld f g (.int .u64) λg=>PY K Kp c a g A b e a d 0 f) (K d f)):=jU
theorem KY.of{K:gw}(H:
 aP (a*(A.n:Int)) λb=>dO h Y8 #[(.int .u8 0)] 1 1 0 b λb c=>P0 K Kp a A (A.n:Int) b 0 c):
 KY A a h K Kp:=cK (X2 K Kp) gP K Tryz.func247 H
theorem Ss.of{K:iY}(H:
 Ld h n id λa=>c8 aG a [] h (λa b=>a=(.tuple #[])/\(Ld b o .pointer λa=>Ld b o .pointer λc=>Ld b o .pointer λd=>NN d λd=>Ld b (d.add 16) Sl.v λd=>Ld b p mI λe=>jA d 1 none (some e) none λd=>Ld b o .pointer λe=>NN e λe=>Ld b (e.add 17) Sl.v λe=>Ld b p mI λf=>jA e 1 none (some f) none λe=>NN a λa=>St b (a.add 16) (Sl.v d) λa=>aT b a p 1 <|aT b a o 1 <|NN c λb=>St a (b.add 17) (Sl.v e) λa=>K  a)) Kp):
 Ss n o p h K Kp:=c9 kK K Tryz.func248 H
theorem LI.of{K:agV}(H:
 Ch h A a P λa d=>oN d a λe f g=>C5 e f g b c d (λd e=>If (!d) (K (bs []) 2 e) (oN e a λa d f=>C4 a d f b c e (λa b=>sx b a λa=>K a 0 b) Kp)) Kp):
 LI A a P b c h K Kp:=c9 abW K Tryz.func252 H
theorem Mm.of{K:agW}(H:
 Ch h A a P λa d=>oN d a λa e f=>Ay a e f b c d (λa b d=>If (b !=0) (K 0 b d) (aP ((8:Int)*c) λb=>aP ((64:Int)-b) λb=>Nn b<|Wr .u64 (a*2^(min (Int.toNat b) (IntKind.bits .u64))) λa=>aP a λa=>Nn b<|Lt (Int.fdiv a (2^(min (Int.toNat b) (IntKind.bits .i64)))) λa=>K a 0 d)) Kp):
 Mm A a P b c h K Kp:=c9 abX K Tryz.func253 H
theorem Ay.of{K:agU}(H:
 Ch h A a P λa d=>Aw c d (λd e=>If (!d) (K 0 1 e) (oN e a λd f g=>C5 d f g b c e (λd e=>If (!d) (K 0 2 e) (oN e a λa d f=>C4 a d f b c e (λa b=>LY a b (λa b=>K a 0 b) Kp) Kp)) Kp)) Kp):
 Ay A a P b c h K Kp:=c9 abV K Tryz.func254 H
noncomputable def Ya:=mc aG Tryz.f255 (am [(41006,257),(41010,4097)]) [] dz
def Ai:=rK Ya 1 6 [tI,.b]
def Aj:=rK Ya 0 6 [tI,.b]
theorem Ai.of{K:bG}(H:
 If x (K true h) (K (a==8) h)):
 Ai K Kp a x h:=jf H
theorem Aj.of{K:bG}(H:
 If x (Ai K Kp a true h) (Ai K Kp a (a==4) h)):
 Aj K Kp a x h:=jf H
theorem Aw.of{K:bG}(H:
 If (a==1) (Aj K Kp a true h) (Aj K Kp a (a==2) h)):
 Aw a h K Kp:=cK (Ya K Kp) dz K Tryz.func255 H
noncomputable def afM:=mc aG Tryz.f256 (am [(2003,456)]) [] Dz
def Wb:=fK 22 [6,7,3,8] [.s,tI,.i .u64,tI]
def QV:=lK afM 2003 58 Wb
theorem QV.bC{K:EW}:jM (A0:=Int) (A1:=Int) (QV K Kp A a) (Wb A a) λb c d e=>(aW (d<a) (Ix A.a A.n 1 d λf=>Ld e f (.int .u8) λf=>Wr .u64 f λf=>aP ((8:Int)*d) λg=>Nn g<|Wr .u64 (f*2^(min (Int.toNat g) (IntKind.bits .u64))) λf=>Lt (gu .or .u64 c f) λc=>aP (d+1) λd=>b (Wb A a c d) e) (K c e)):=jU
theorem LY.of{K:EW}(H:
 QV K Kp A (A.n:Int) 0 0 h):
 LY A h K Kp:=cK (afM K Kp) Dz K Tryz.func256 H
theorem LH.of{K:bT}(H:
 LM a h (λc d=>aW (a>=3) (aW (a<=6) (wK P 1 d (λa d e f=>aP (b*c) λb=>Mm a d e b c f (λa _ b=>K a b) Kp) Kp) (wK P 1 d (λa d e f=>aP (b*c) λb=>Ay a d e b c f (λa _ b=>aP a λa=>K a b) Kp) Kp)) (wK P 1 d (λa d e f=>aP (b*c) λb=>Ay a d e b c f (λa _ b=>aP a λa=>K a b) Kp) Kp)) Kp):
 LH P a b h K Kp:=c9 dm K Tryz.func263 H
theorem LG.of{K:qp}(H:
 aL h #[] JN λ_ b=>aL b gl di λb c=>NN P λd=>gX c (d.add 2) λd e f g i=>aL c oU kH λc j=>lW j c d e f g i λd=>wK P 1 d (λd e f g=>aL g MA JO λg i=>sr i g d e f λd=>C3 Q 16 d (λd=>Ld d c mI λe=>If (e==2) (oN d g λc e f=>Dv 8<|aP (Int.tdiv a 8) λg=>GS c e f g d (λc _ d=>Dv 8<|Lt (Int.tmod a 8) λa=>Nn a<|Lt (Int.fdiv c (2^(min (Int.toNat a) (IntKind.bits .u8)))) λa=>Lt (gu .and .u8 a 1) λa=>aP a λa=>dK d b false a (bs []) bM λa=>bN a b λb c d e=>K b c d e a) Kp) (If (e==14) (Ld d (c.add 1) mI λe=>C3 Q e d (λd=>oN d g λe f g=>Ld d (c.add 1) mI λi=>aP (a*i) λa=>Ld d (c.add 1) mI λc=>LI e f g a c d (λa _ c=>dK c b false 0 a bM λa=>bN a b λb c d e=>K b c d e a) Kp) Kp) (Ld d c mI λc=>LH P c a d (λa c=>dK c b false a (bs []) bM λa=>bN a b λb c d e=>K b c d e a) Kp))) Kp) Kp):
 LG P a Q h K Kp:=c9 tO K Tryz.func266 H
end
section
variable {h H:Hp} {el:TypeId} {t0 t1 t2 t3 t4 t5 t10 t12:Int} {K:HP} {a:Addr} {t6 t7 t8 t14 s:Sl} {t9 t11 t15 B:Bool} {t13:BA} {vs:bg} {Kp:PK} {d r:Nat}
theorem gX.b{b:Nat}{t4:Sl}{K:Int->Int->Int->Int->Sl->Prop}(k:aO h b #[(ah t0),(ah t1),(ah t2),(ah t3),(Sl.v t4)] el)(hk:K t0 t1 t2 t3 t4):gX h (aF b) K:=by
 unfold gX;simp only[bz,bX];exact aj k rfl (aj k rfl (aj k rfl (aj k rfl (aj k rfl (hk)))))
abbrev xV:=@gX.b
theorem gX.c{t4:Sl}{K:Int->Int->Int->Int->Sl->Prop}(c:Cs h a [(ah t0),(ah t1),(ah t2),(ah t3),(Sl.v t4)])(hk:K t0 t1 t2 t3 t4):gX h a K:=
 ⟨_,(EP a▸c 0 _ rfl:cell h a=_),_,c 1 _ rfl,_,c 2 _ rfl,_,c 3 _ rfl,_,c 4 _ rfl,hk⟩
abbrev nh:=@gX.c
theorem lW.l{t4:Sl}(H:iZ h a 0 [(ah t0),(ah t1),(ah t2),(ah t3),(Sl.v t4)] K):lW h a t0 t1 t2 t3 t4 K:=zZ H
theorem lW.b{b:Nat}{cs:Array Value}{t4:Sl}(k:aO h b cs el)(hs:cs.size=5)(hk:∀h',eJ b h h'->aO h' b #[(ah t0),(ah t1),(ah t2),(ah t3),(Sl.v t4)] el->K h'):lW h (aF b) t0 t1 t2 t3 t4 K:=
 lW.l (zY k hs (by simp[one,Sl.v]) hk)
abbrev pH:=@lW.b
theorem bP.b{b:Nat}{t0:BA}{t1:Bool}{K:BA->Bool->Int->Int->Int->Int->Sl->Prop}(k:aO h b #[(.string t0),(.bool t1),(ah t2),(ah t3),(ah t4),(ah t5),(Sl.v t6)] el)(hk:K t0 t1 t2 t3 t4 t5 t6):bP h (aF b) K:=by
 unfold bP;simp only[bz,bX];exact aj k rfl (aj k rfl (aj k rfl (aj k rfl (aj k rfl (aj k rfl (aj k rfl (hk)))))))
abbrev dM:=@bP.b
theorem bP.c{t0:BA}{t1:Bool}{K:BA->Bool->Int->Int->Int->Int->Sl->Prop}(c:Cs h a [(.string t0),(.bool t1),(ah t2),(ah t3),(ah t4),(ah t5),(Sl.v t6)])(hk:K t0 t1 t2 t3 t4 t5 t6):bP h a K:=
 ⟨_,(EP a▸c 0 _ rfl:cell h a=_),_,c 1 _ rfl,_,c 2 _ rfl,_,c 3 _ rfl,_,c 4 _ rfl,_,c 5 _ rfl,_,c 6 _ rfl,hk⟩
abbrev gQ:=@bP.c
theorem kg.l{t0:BA}{t1:Bool}(H:iZ h a 0 [(.string t0),(.bool t1),(ah t2),(ah t3),(ah t4),(ah t5),(Sl.v t6)] K):kg h a t0 t1 t2 t3 t4 t5 t6 K:=zZ H
theorem kg.b{b:Nat}{cs:Array Value}{t0:BA}{t1:Bool}(k:aO h b cs el)(hs:cs.size=7)(hk:∀h',eJ b h h'->aO h' b #[(.string t0),(.bool t1),(ah t2),(ah t3),(ah t4),(ah t5),(Sl.v t6)] el->K h'):kg h (aF b) t0 t1 t2 t3 t4 t5 t6 K:=
 kg.l (zY k hs (by simp[one,Sl.v]) hk)
abbrev pG:=@kg.b
theorem bY.b{b:Nat}{t3 t4 t5:Sl}{K:Int->Int->Int->Sl->Sl->Sl->Prop}(k:aO h b #[(ah t0),(ah t1),(ah t2),(Sl.v t3),(Sl.v t4),(Sl.v t5)] el)(hk:K t0 t1 t2 t3 t4 t5):bY h (aF b) K:=by
 unfold bY;simp only[bz,bX];exact aj k rfl (aj k rfl (aj k rfl (aj k rfl (aj k rfl (aj k rfl (hk))))))
abbrev fB:=@bY.b
theorem bY.c{t3 t4 t5:Sl}{K:Int->Int->Int->Sl->Sl->Sl->Prop}(c:Cs h a [(ah t0),(ah t1),(ah t2),(Sl.v t3),(Sl.v t4),(Sl.v t5)])(hk:K t0 t1 t2 t3 t4 t5):bY h a K:=
 ⟨_,(EP a▸c 0 _ rfl:cell h a=_),_,c 1 _ rfl,_,c 2 _ rfl,_,c 3 _ rfl,_,c 4 _ rfl,_,c 5 _ rfl,hk⟩
theorem cJ.l{t3 t4 t5:Sl}(H:iZ h a 0 [(ah t0),(ah t1),(ah t2),(Sl.v t3),(Sl.v t4),(Sl.v t5)] K):cJ h a t0 t1 t2 t3 t4 t5 K:=zZ H
theorem cJ.b{b:Nat}{cs:Array Value}{t3 t4 t5:Sl}(k:aO h b cs el)(hs:cs.size=6)(hk:∀h',eJ b h h'->aO h' b #[(ah t0),(ah t1),(ah t2),(Sl.v t3),(Sl.v t4),(Sl.v t5)] el->K h'):cJ h (aF b) t0 t1 t2 t3 t4 t5 K:=
 cJ.l (zY k hs (by simp[one,Sl.v]) hk)
abbrev iH:=@cJ.b
theorem eu.b{b:Nat}{t1:Sl}{K:Int->Sl->Int->Prop}(k:aO h b #[(ah t0),(Sl.v t1),(ah t2)] el)(hk:K t0 t1 t2):eu h (aF b) K:=by
 unfold eu;simp only[bz,bX];exact aj k rfl (aj k rfl (aj k rfl (hk)))
abbrev oB:=@eu.b
theorem dS.l{t1:Sl}(H:iZ h a 0 [(ah t0),(Sl.v t1),(ah t2)] K):dS h a t0 t1 t2 K:=zZ H
theorem dS.b{b:Nat}{cs:Array Value}{t1:Sl}(k:aO h b cs el)(hs:cs.size=3)(hk:∀h',eJ b h h'->aO h' b #[(ah t0),(Sl.v t1),(ah t2)] el->K h'):dS h (aF b) t0 t1 t2 K:=
 dS.l (zY k hs (by simp[one,Sl.v]) hk)
abbrev mN:=@dS.b
theorem bN.b{b:Nat}{t0:Bool}{t2:BA}{t3:Sl}{K:Bool->Int->BA->Sl->Prop}(k:aO h b #[(.bool t0),(ah t1),(.string t2),(Sl.v t3)] el)(hk:K t0 t1 t2 t3):bN h (aF b) K:=by
 unfold bN;simp only[bz,bX];exact aj k rfl (aj k rfl (aj k rfl (aj k rfl (hk))))
abbrev eW:=@bN.b
theorem bN.c{t0:Bool}{t2:BA}{t3:Sl}{K:Bool->Int->BA->Sl->Prop}(c:Cs h a [(.bool t0),(ah t1),(.string t2),(Sl.v t3)])(hk:K t0 t1 t2 t3):bN h a K:=
 ⟨_,(EP a▸c 0 _ rfl:cell h a=_),_,c 1 _ rfl,_,c 2 _ rfl,_,c 3 _ rfl,hk⟩
abbrev ig:=@bN.c
theorem dK.l{t0:Bool}{t2:BA}{t3:Sl}(H:iZ h a 0 [(.bool t0),(ah t1),(.string t2),(Sl.v t3)] K):dK h a t0 t1 t2 t3 K:=zZ H
abbrev xU:=@dK.l
theorem dK.b{b:Nat}{cs:Array Value}{t0:Bool}{t2:BA}{t3:Sl}(k:aO h b cs el)(hs:cs.size=4)(hk:∀h',eJ b h h'->aO h' b #[(.bool t0),(ah t1),(.string t2),(Sl.v t3)] el->K h'):dK h (aF b) t0 t1 t2 t3 K:=
 xU (zY k hs (by simp[one,Sl.v]) hk)
abbrev mj:=@dK.b
theorem oN.b{b:Nat}{t0:Sl}{t2:PA}{K:Sl->Int->PA->Prop}(k:aO h b #[(Sl.v t0),(ah t1),(.pointer t2)] el)(hk:K t0 t1 t2):oN h (aF b) K:=by
 unfold oN;simp only[bz,bX];exact aj k rfl (aj k rfl (aj k rfl (hk)))
abbrev rZ:=@oN.b
theorem sr.l{t0:Sl}{t2:PA}(H:iZ h a 0 [(Sl.v t0),(ah t1),(.pointer t2)] K):sr h a t0 t1 t2 K:=zZ H
theorem sr.b{b:Nat}{cs:Array Value}{t0:Sl}{t2:PA}(k:aO h b cs el)(hs:cs.size=3)(hk:∀h',eJ b h h'->aO h' b #[(Sl.v t0),(ah t1),(.pointer t2)] el->K h'):sr h (aF b) t0 t1 t2 K:=
 sr.l (zY k hs (by simp[one,Sl.v]) hk)
theorem Fa.c{t0:Sl}{t1:BA}{t2:Bool}{t6:Int}{K:Sl->BA->Bool->Int->Int->Int->Int->Sl->Sl->Bool->Prop}(c:Cs h a [(Sl.v t0),(.string t1),(.bool t2),(ah t3),(ah t4),(ah t5),(ah t6),(Sl.v t7),(Sl.v t8),(.bool t9)])(hk:K t0 t1 t2 t3 t4 t5 t6 t7 t8 t9):Fa h a K:=
 ⟨_,(EP a▸c 0 _ rfl:cell h a=_),_,c 1 _ rfl,_,c 2 _ rfl,_,c 3 _ rfl,_,c 4 _ rfl,_,c 5 _ rfl,_,c 6 _ rfl,_,c 7 _ rfl,_,c 8 _ rfl,_,c 9 _ rfl,hk⟩
theorem yq.l{t0:Sl}{t1:BA}{t2:Bool}{t6:Int}(H:iZ h a 0 [(Sl.v t0),(.string t1),(.bool t2),(ah t3),(ah t4),(ah t5),(ah t6),(Sl.v t7),(Sl.v t8),(.bool t9)] K):yq h a t0 t1 t2 t3 t4 t5 t6 t7 t8 t9 K:=zZ H
theorem yq.b{b:Nat}{cs:Array Value}{t0:Sl}{t1:BA}{t2:Bool}{t6:Int}(k:aO h b cs el)(hs:cs.size=10)(hk:∀h',eJ b h h'->aO h' b #[(Sl.v t0),(.string t1),(.bool t2),(ah t3),(ah t4),(ah t5),(ah t6),(Sl.v t7),(Sl.v t8),(.bool t9)] el->K h'):yq h (aF b) t0 t1 t2 t3 t4 t5 t6 t7 t8 t9 K:=
 yq.l (zY k hs (by simp[one,Sl.v]) hk)
theorem oa.b{b:Nat}{t0:BA}{t1:Bool}{t7 t8:Int}{t9:Sl}{K:BA->Bool->Int->Int->Int->Int->Sl->Int->Int->Sl->Int->Bool->Int->BA->Sl->Bool->Prop}(k:aO h b #[(.string t0),(.bool t1),(ah t2),(ah t3),(ah t4),(ah t5),(Sl.v t6),(ah t7),(ah t8),(Sl.v t9),(ah t10),(.bool t11),(ah t12),(.string t13),(Sl.v t14),(.bool t15)] el)(hk:K t0 t1 t2 t3 t4 t5 t6 t7 t8 t9 t10 t11 t12 t13 t14 t15):oa h (aF b) K:=by
 unfold oa;simp only[bz,bX];exact aj k rfl (aj k rfl (aj k rfl (aj k rfl (aj k rfl (aj k rfl (aj k rfl (aj k rfl (aj k rfl (aj k rfl (aj k rfl (aj k rfl (aj k rfl (aj k rfl (aj k rfl (aj k rfl (hk))))))))))))))))
abbrev uq:=@oa.b
theorem qT.l{t0:BA}{t1:Bool}{t7 t8:Int}{t9:Sl}(H:iZ h a 0 [(.string t0),(.bool t1),(ah t2),(ah t3),(ah t4),(ah t5),(Sl.v t6),(ah t7),(ah t8),(Sl.v t9),(ah t10),(.bool t11),(ah t12),(.string t13),(Sl.v t14),(.bool t15)] K):qT h a t0 t1 t2 t3 t4 t5 t6 t7 t8 t9 t10 t11 t12 t13 t14 t15 K:=zZ H
theorem qT.b{b:Nat}{cs:Array Value}{t0:BA}{t1:Bool}{t7 t8:Int}{t9:Sl}(k:aO h b cs el)(hs:cs.size=16)(hk:∀h',eJ b h h'->aO h' b #[(.string t0),(.bool t1),(ah t2),(ah t3),(ah t4),(ah t5),(Sl.v t6),(ah t7),(ah t8),(Sl.v t9),(ah t10),(.bool t11),(ah t12),(.string t13),(Sl.v t14),(.bool t15)] el->K h'):qT h (aF b) t0 t1 t2 t3 t4 t5 t6 t7 t8 t9 t10 t11 t12 t13 t14 t15 K:=
 qT.l (zY k hs (by simp[one,Sl.v]) hk)
theorem Cb{k:IntKind}{x:Int}{K:Int->Prop}(h:K (k.wrap x)):Wr k x K:=h
theorem yx{α:Type}{x:α}{K:α->Prop}(h:K x):Lt x K:=h
def bv(l:dw):List Value:=l.map λb=>.int .u8 b.toNat
theorem um(a b:dw):bv (a++b)=bv a++bv b:=by simp[bv]
theorem fH(a:dw):(bv a).length=a.length:=by simp[bv]
theorem auT{a:dw}:∀v∈bv a,one v=true:=by intro v b;simp only[bv,kZ]at b;obtain⟨x,_,rfl⟩:=b;rfl
inductive ak
 |mk (name:eU) (au:Bool) (kind width id ix:Int) (cs:List ak)
abbrev cN:=List ak
variable {f:ak}
def oh(n:eU)(au:Bool)(k w id ix:Int)(s:Sl):List Value:=[.string n,.bool au,ah k,ah w,ah id,ah ix,Sl.v s]
mutual
def cG(h:Hp)(s:Sl):List ak->Prop
 |[]=>s.n=0/\s.n<=s.c
 |f::fs=>s.n=fs.length+1/\s.n<=s.c/\∃a,s.a=some a/\jN h a f/\iw h a 1 fs
def iw(h:Hp)(a:Addr)(i:Nat):List ak->Prop
 |[]=>True
 |f::fs=>jN h (a.add (i*7)) f/\iw h a (i+1) fs
def jN(h:Hp)(a:Addr):ak->Prop
 |.mk n au k w id ix cs=>∃s,Cs h a (oh n au k w id ix s)/\cG h s cs
end
theorem iw.get:∀{d:cN}{i:Nat},iw h a i d->∀(j:Nat)f,d[j]? =some f->jN h (a.add ((i+j)*7)) f
  |[],_,_,_,_,b=>by simp at b
  |f::d,i,c,0,g,b=>by grind[iw]
  | f::d,i,c,j+1,g,b=>by
    unfold iw at c;have:=iw.get c.2 j g (by simpa using b)
    have e:i+(j+1)=i+1+j:=ag;rw[e];exact this
theorem cG.get{l:cN}(d:cG h s l){j:Nat}{f:ak}(c:l[j]? =some f):∃a,s.a=some a/\jN h (a.add (j*7)) f:=by
  cases l with
  |nil=>simp at c
  | cons g m=>
    unfold cG at d;obtain⟨_,_,a,b,k,i⟩:=d;refine⟨a,b,?_⟩;cases j with
    | zero=>
      simp at c;subst c;have e:a.add (0*7)=a:=by simp[Addr.add]
      rw[e];exact k
    | succ j=>
      have:=i.get j f (by simpa using c)
      have e:1+j=j+1:=ag;rw[e]at this;exact this
theorem cG.n{fs:cN}(z:cG h s fs):s.n=fs.length/\s.n<=s.c:=by
 cases fs with
 |nil=>unfold cG at z;exact z
 |cons g a=>grind[cG]
def Zz(h:Hp)(s:Sl)(sz:Nat)(rows:List (List Value)):Prop:=s.n=rows.length/\s.n<=s.c/\∀(j:Nat)r,rows[j]? =some r->∃a,s.a=some a/\Cs h (a.add (j*sz)) r
abbrev Md:=ByteArray×ByteArray
def aoo(m:Md):List Value:=[.string m.1,.string m.2]
theorem add_zero'(a:Addr):a.add 0=a:=by unfold Addr.add;split <;> simp_all
mutual
theorem cG.ai{h h':Hp}(g:aB h h'):∀{s:Sl}(fs:cN),cG h s fs->cG h' s fs
  |_,[],hh=>by unfold cG at hh ⊢;exact hh
  | _,f::fs,hh=>by
    unfold cG at hh⊢
    obtain⟨a,b,p,e,x,y⟩:=hh
    exact⟨a,b,p,e,jN.ai g f x,iw.ai g fs y⟩
theorem iw.ai{h h':Hp}(g:aB h h'):∀{a:Addr}{i:Nat}(fs:cN),iw h a i fs->iw h' a i fs
  |_,_,[],hh=>by unfold iw at hh ⊢;exact hh
  | _,_,f::fs,hh=>by
    unfold iw at hh⊢
    exact⟨jN.ai g f hh.1,iw.ai g fs hh.2⟩
theorem jN.ai{h h':Hp}(g:aB h h'):∀{a:Addr}(f:ak),jN h a f->jN h' a f
  | _,.mk n au k w id ix cs,hh=>by
    unfold jN at hh⊢
    obtain⟨s,c,x⟩:=hh
    exact⟨s,c.ai g,cG.ai g cs x⟩
end
theorem n9{K:Addr->Prop}:NN (some a) K=K a:=rfl
theorem bO{p q:Prop}(k:q)(e:q->p:=by intro h;simp only[n9,bz,bX];exact h):p:=e k
theorem Zz.ix{α:Type}{row:α->List Value}{m:Nat}{l:List α}(c:Zz h s m (l.map row)){x:Int}{i:Nat}(z:x=(i:Int)){r:α}(g:l[i]? =some r){K:Addr->Prop}(B:∀a,Cs h a (row r)->K a):Ix s.a s.n m x K:=by
 obtain⟨a,d,b⟩:=c.2.2 i (row r) (by rw[fy,g];rfl)
 have f:i<l.length:=(dy.1 g).1;have e:s.n=l.length:=by simpa using c.1
 subst z;rw[d];exact⟨ag,ag,by rw[gj];exact B _ b⟩
theorem Cs.c0{v:Value}(c:Cs h a (v::vs)):cell h a=some v:=by
 have:=c 0 _ rfl;rwa [add_zero']at this
def yy(c:Int):Prop:=(97<=c/\c<=122)\/(65<=c/\c<=90)\/c=95
def sw(c:Int):Prop:=48<=c/\c<=57
def GZ(j:Nat)(c:Int):Prop:=yy c\/(sw c/\j≠0)
def E6(s:eU):Prop:=1<=s.size/\s.size<=48/\∀(j:Nat)(b:UInt8),s[j]? =some b->GZ j (b.toNat:Int)
theorem aoQ{c:Int}{K:fD}(hk:∀b,(b=true↔(yy c\/sw c))->K b h):LK c h K Kp:=by
 apply LK.of;unfold yy sw at hk
 repeat' (first|((with_reducible refine Ks.of ?_);(try simp only[bz,Nat.reduceAdd]))|((with_reducible refine FQ.of ?_);(try simp only[bz,Nat.reduceAdd]))|((with_reducible refine FO.of ?_);(try simp only[bz,Nat.reduceAdd]))|((with_reducible refine bQ (by first|rfl|(simp only[sm,reduceCtorEq];omega)) ?_))|((with_reducible refine bu (by first|rfl|(simp only[sm,reduceCtorEq];omega)) ?_))|(((with_reducible refine aK (λc=>?_) (λc=>?_)) <;> (try simp only[sm,reduceCtorEq]at c))))
 all_goals apply hk _
 all_goals simp_all
 all_goals omega
theorem adq{k:Int}{K:fD}(hk:∀b,(b=true↔(1<=k/\k<=20))->K b h):GQ k h K Kp:=by
 apply GQ.of
 repeat' (first|((with_reducible refine bQ (by first|rfl|(simp only[sm,reduceCtorEq];omega)) ?_))|((with_reducible refine bu (by first|rfl|(simp only[sm,reduceCtorEq];omega)) ?_))|(((with_reducible refine aK (λc=>?_) (λc=>?_)) <;> (try simp only[sm,reduceCtorEq]at c))))
 all_goals apply hk _
 all_goals simp[dP,yp,true_iff,false_iff];omega
theorem BI{a b:eU}:(a.toList==b.toList)=true↔a=b:=by
 rw[nU,ByteArray.toList_eq,ByteArray.toList_eq];grind[bytes_inj]
theorem an5{s:eU}{K:fD}(hs:s.size<=9223372036854775807)(hk:∀b,(b=true↔E6 s)->K b h):LU s h K Kp:=by
 apply LU.of;have hF:¬E6 s->K false h:=λn=>hk false ⟨by simp,λx=>(n x).elim⟩
 apply QS.bC (λx h'=>h'=h/\∃i:Nat,x=i/\i<=s.size/\∀j b,j<i->s[j]? =some b->GZ j (b.toNat:Int)) (λx _=>s.size-x.toNat) ⟨rfl,0,rfl,by omega,λj b hj=>by omega⟩
 rintro x h1 ⟨rfl,i,rfl,hi,DZ⟩ N1 hN;refine aK (λc2=>?_) λc2=>?_
 ·simp only[dP]at c2;have pq:i<s.size:=ag;have hb:=Pr s i pq;generalize s[i]=b at hb;refine⟨b,by omega,by rw[gj];exact hb,?_⟩
  have U2:¬GZ i (b.toNat:Int)->K false h1:=λn=>hF λq=>n (q.2.2 i b hb);have step:GZ i (b.toNat:Int)->aP ((i:Int)+1) λt20=>N1 (DM s (s.size:Int) t20) h1:=λok=>by
   refine aY ag ag (hN _ _ ⟨rfl,i+1,by simp,by omega,λj b' hj Bl=>?_⟩ ag)
   by_cases e:j=i
   ·simp_all
   ·exact DZ j b' ag Bl
  refine aoQ λr hr=>?_;unfold GZ yy sw at U2 step;unfold yy sw at hr;generalize(b.toNat:Int)=t at U2 step hr;cases r <;> repeat' (first|((with_reducible refine bQ (by first|rfl|(simp only[sm,reduceCtorEq];omega)) ?_))|((with_reducible refine bu (by first|rfl|(simp only[sm,reduceCtorEq];omega)) ?_))|(((with_reducible refine aK (λc=>?_) (λc=>?_)) <;> (try simp only[sm,reduceCtorEq]at c))))
  all_goals first|refine step ?_|refine U2 ?_
  all_goals simp only[dP,yp,nU,PB,ne_eq,reduceCtorEq,true_iff,false_iff]at*
  all_goals omega
 ·simp only[yp]at c2;refine aK (λc3=>hk _ ?_) (λc3=>hF λq=>?_)
  ·rw[qR,YV,ne_eq,BI]at c3;rw[dP];constructor
   ·intro h48;refine⟨?_,by omega,λj b hb=>?_⟩
    ·rcases YY s.size with h0|h0
     ·exact(c3 (bytes_inj (vR (show s.data.toList.length=0 from h0)))).elim
     ·exact h0
    ·have:j<s.size:=by
      rcases Nat.lt_or_ge j s.size with h|h
      ·exact h
      ·simp_all
     exact DZ j b ag hb
   ·intro q;have:=q.2.1;omega
  ·rw[YU,BI]at c3;subst c3;exact absurd q.1 bh
def Shaped(k w id ix:Int)(n:Nat):Prop:=
 1<=k/\k<=20/\(k=14->1<=w/\w<=16)/\(k=16->1<=w/\w<=64)/\(k≠14/\k≠16->w=0)/\(k=19->0<=id/\id<=31/\3<=ix/\ix<=10)/\(k≠19->id=0/\ix=0)/\
  (k=15\/k=16\/k=19\/k=20->n=1)/\(k=17->n<=32)/\(k=18->1<=n/\n<=32)/\(k≠15/\k≠16/\k≠19/\k≠20/\k≠17/\k≠18->n=0)
def kS(h:Hp):Prop:=∀i:Nat,i<21->cell h ⟨2,i*4+3,none⟩=some (.bool (decide (3<=i/\i<=10)))
theorem kS.ai(t:kS h)(g:aB h H):kS H:=λi a=>g.cell (t i a)
theorem arJ{k w id ix:Int}{K:fD} (ht:kS h) (hk:∀b h',aB h h'->(b=true↔Shaped k w id ix s.n)->K b h'):LS k w id ix s h K Kp:=by
  refine LS.of (aJ λb1 h1 e1 g1 k1 _ => ?_);have hk:=λb=>hk b h1 g1;have ht:=ht.ai g1;have tab:∀(K:Bool->Prop),1<=ix->ix<=20->K (decide (3<=ix/\ix<=10))->Ix (some ((aF 2))) 21 4 ix λa67=>Ld h1 (a67.add 3) (Value.bool) λt69=>K t69:=by
    intro K h1 h2 hK;refine ⟨by omega,by omega,decide (3<=ix/\ix<=10),?_,hK⟩
    rw[bz,bz,bX,ht ix.toNat ag]
    congr 2
    rw[decide_eq_decide];omega
  clear ht e1;unfold Shaped at hk;refine aj k1 rfl (adq λb hb => ?_);cases b
  · refine bQ rfl (hk _ ?_);grind[sm]
  refine bu rfl (aj k1 rfl ?_);rcases (by omega:k=14\/k=15\/k=16\/k=17\/k=18\/k=19\/k=20\/(k≠14/\k≠15/\k≠16/\k≠17/\k≠18/\k≠19/\k≠20)) with e | e | e | e | e | e | e | e
  case inr.inr.inr.inr.inr.inl =>
    repeat' first | (with_reducible first | refine oO.of ?_ | refine CF.of ?_ | refine FV.of ?_ | refine FU.of ?_ | refine tC ?_ | refine tD ?_ | refine cE (λc => ?_) λc => ?_) | refine aj k1 rfl ?_
    all_goals simp only[sm,reduceCtorEq] at *
    all_goals first
      | (refine adq λb Bj => ?_
         cases b
         · have Bj:=aU Bj
           repeat' first | (with_reducible first | refine Ah.of ?_ | refine uJ.of ?_ | refine yF.of ?_ | refine yE.of ?_ | refine tC ?_ | refine tD ?_ | refine cE (λc => ?_) λc => ?_) | refine aj k1 rfl ?_
           all_goals apply hk _
           all_goals grind[sm]
         · have Bj:=aU Bj;apply Ah.of;simp only[bz,Nat.reduceAdd];refine bQ rfl (aj k1 rfl (tab (λb=>uJ K Kp (aF b1) 1 1 _ b h1) ag ag ?_))
           by_cases hx:3<=ix/\ix<=10
           · rw[Pq hx]
             repeat' first | (with_reducible first | refine uJ.of ?_ | refine yF.of ?_ | refine yE.of ?_ | refine tC ?_ | refine tD ?_ | refine cE (λc => ?_) λc => ?_) | refine aj k1 rfl ?_
             all_goals apply hk _
             all_goals simp only[sm,reduceCtorEq] at *
             all_goals omega
           · rw[decide_eq_false hx]
             repeat' first | (with_reducible first | refine uJ.of ?_ | refine yF.of ?_ | refine yE.of ?_ | refine tC ?_ | refine tD ?_ | refine cE (λc => ?_) λc => ?_) | refine aj k1 rfl ?_
             all_goals apply hk _
             all_goals grind[sm])
      | (repeat' first | (with_reducible first | refine Ah.of ?_ | refine uJ.of ?_ | refine yF.of ?_ | refine yE.of ?_ | refine tC ?_ | refine tD ?_ | refine cE (λc => ?_) λc => ?_) | refine aj k1 rfl ?_
         all_goals apply hk _
         all_goals grind[sm])
  all_goals repeat' first | (with_reducible first | refine oO.of ?_ | refine CF.of ?_ | refine FV.of ?_ | refine uJ.of ?_ | refine yF.of ?_ | refine yE.of ?_ | refine FU.of ?_ | refine Ah.of ?_ | refine tC ?_ | refine tD ?_ | refine cE (λc => ?_) λc => ?_) | refine aj k1 rfl ?_
  all_goals apply hk _
  all_goals simp only[sm,reduceCtorEq] at *
  all_goals omega
def ak.name:ak->ByteArray|.mk n _ _ _ _ _ _=>n
def ak.au:ak->Bool|.mk _ b _ _ _ _ _=>b
def ak.k:ak->Int|.mk _ _ k _ _ _ _=>k
def ak.w:ak->Int|.mk _ _ _ w _ _ _=>w
def ak.id:ak->Int|.mk _ _ _ _ i _ _=>i
def ak.ix:ak->Int|.mk _ _ _ _ _ i _=>i
def ak.cs:ak->List ak|.mk _ _ _ _ _ _ cs=>cs
theorem jN.cells(c:jN h a f):∃s,cG h s f.cs/\cell h a=some (.string f.name)/\cell h (a.add 1)=some (.bool f.au)/\cell h (a.add 2)=some (ah f.k)/\
  cell h (a.add 3)=some (ah f.w)/\cell h (a.add 4)=some (ah f.id)/\cell h (a.add 5)=some (ah f.ix)/\cell h (a.add 6)=some (Sl.v s):=by
 obtain⟨n,au,k,e,id,ix,ds⟩:=f;unfold jN at c;obtain⟨u,b,d⟩:=c;have c0:=b 0 _ rfl;rw[add_zero']at c0;exact⟨u,d,c0,b 1 _ rfl,b 2 _ rfl,b 3 _ rfl,b 4 _ rfl,b 5 _ rfl,b 6 _ rfl⟩
theorem cG.ix{cs:cN}(c:cG h s cs){x:Int}{i:Nat}(z:x=(i:Int)){f:ak}(g:cs[i]? =some f){K:Addr->Prop}(B:∀a,jN h a f->K a):Ix s.a s.n 7 x K:=by
 obtain⟨a,d,b⟩:=c.get g;have e:=c.n;have j:i<cs.length:=(dy.1 g).1;subst z;rw[d];exact⟨ag,ag,by rw[gj];exact B _ b⟩
def Ab(k:Int)(au:Bool)(cs:cN):Prop:=(k=1->au=true)/\(k=18->au=false)/\(k=20->∃c,cs[0]? =some c/\au=c.au)
theorem anQ{n:eU}{au:Bool}{k w id ix:Int}{cs:cN}{K:fD}{x:PK}(g:aB H h)(p:cG H s cs)(t:k=20->cs.length=1)(d:∀b m,aB h m->(b=true↔Ab k au cs)->K b m):LR n au k w id ix s h K x:=by
 refine LR.of (aJ λy r e1 o j _=>?_);have d:=λb=>d b r o;unfold Ab at d;simp only[bz,Nat.reduceAdd];refine aj j rfl (aK (λc=>?_) (λc=>?_))
 ·have c:=aU c;subst c;refine aj j rfl (d _ ?_);simp
 refine aK (λi=>?_) (λi=>?_)
 ·have i:=aU i;subst i;refine aj j rfl (d _ ?_);simp
 refine aK (λe=>?_) (λe=>?_)
 ·have e:=aU e;subst e;have l:cs[0]? =some cs[0]:=bL ag;refine aj j rfl (aj j rfl ?_);generalize cs[0]=f at l;refine p.ix rfl l λa q=>?_;obtain⟨u,_,_,v,_⟩:=q.cells;refine⟨_,(aq g o).cell v,d _ ?_⟩;simp[l]
 ·simp only[sm,reduceCtorEq]at c i e;apply d _;simp[c,i,e]
def Zr(cs:cN):Prop:=∀(i j:Nat)a b,j<i->cs[i]? =some a->cs[j]? =some b->a.name≠b.name
theorem avx{cs:cN}{p:Addr}{n:eU}{K:fD}{R:PK}(g:aB H h)(A:cG H s cs)(hl:cs.length<=9223372036854775807)(E:cell h (p.add 2)=some (.string n))
  (B:∀b m,aB h m->(b=true↔∃c∈cs,c.name=n)->K b m):LC s (.func (.func 101) #[] #[(cU p)]) h K R:=by
 refine LC.of (Tf.of ?_);have S:=A.n;have v:jT aG 101=true:=by kernel_rfl
 apply QN.bC (λx m=>aB h m/\∃i:Nat,x=i/\i<=cs.length/\∀(j:Nat)a,j<i->cs[j]? =some a->a.name≠n) (λx _=>cs.length-x.toNat) ⟨cW _,0,rfl,ag,λj a F=>ag⟩
 rintro x W ⟨l,i,rfl,F,d⟩ Y hN;refine aK (λc=>?_) (λc=>?_)
 ·have c:=aU c;have w:i<cs.length:=ag;have o:=bL w;generalize cs[i]=f at o;refine A.ix rfl o λU J=>?_;obtain⟨u,_,c0,P,O,k,N,M,L⟩:=J.cells;have G:=aq g l;refine⟨_,G.cell c0,_,G.cell P,_,G.cell O,_,G.cell k,_,G.cell N,_,G.cell M,_,G.cell L,?_⟩;unfold c8;simp only[v,EM];refine xq1 (ZX.of (aJ λX V e1 r D _=>aj D rfl ⟨_,r.cell (l.cell E),(aK (λk=>?_) (λk=>?_))⟩))
  ·rw[BI]at k;refine B _ _ (aq l r) ⟨λ_=>⟨f,bS o,k⟩,λ_=>by rw[dP];omega⟩
  ·rw[YV,ne_eq,BI]at k;refine aY ag ag (hN _ _ ⟨aq l r,i+1,aC,ag,λz Q T t=>?_⟩ ag)
   by_cases e:z=i
   ·subst e;rw[o]at t;cases t;exact k
   ·exact d z Q ag t
 ·refine B _ _ l ⟨λq=>?_,λ⟨f,I,e⟩=>?_⟩
  ·rw[dP]at q;omega
  grind[List.mem_iff_getElem?,List.getElem?_eq_some_iff]
structure Pl where
 deep:Nat
 ahead:List ak
 f:ak
 ins:Bool
mutual
def ak.places(d:Nat)(ahead:cN)(ins:Bool):ak->List Pl
 |.mk n au k w id ix cs=>⟨d,ahead,.mk n au k w id ix cs,ins⟩::(if d<65 then dX (d+1) [] (ins||k==19) cs else[])
def dX(d:Nat)(ahead:cN)(ins:Bool):List ak->List Pl
 |[]=>[]
 |f::fs=>f.places d ahead ins++dX d (ahead++[f]) ins fs
end
def lM(d:Nat)(ins:Bool):List ak->List Pl
 |[]=>[]
 |f::fs=>f.places d [] ins++lM d ins fs
def w7(ids:List Int)(f:ak):List Int:=if f.k=19 then ids++[f.id]else ids
def Aa(n:Nat)(ids:List Int)(x:Pl):Prop:=x.deep<=64/\n<256/\E6 x.f.name/\(∀g∈x.ahead,g.name≠x.f.name)/\Shaped x.f.k x.f.w x.f.id x.f.ix x.f.cs.length/\Ab x.f.k x.f.au x.f.cs/\
 ¬(x.ins=true/\(x.f.k=19\/x.f.k=20))/\(x.f.k=19->(∃c,x.f.cs[0]? =some c/\c.au=false)/\x.f.id∉ids)
def gC(n:Nat)(ids:List Int):List Pl->Prop
 |[]=>True
 |x::xs=>Aa n ids x/\gC (n+1) (w7 ids x.f) xs
def kX(ids:List Int):List Pl->List Int
 |[]=>ids
 |x::xs=>kX (w7 ids x.f) xs
theorem G9{a b:List Pl}:∀{n:Nat}{ids:List Int},gC n ids (a++b)↔gC n ids a/\gC (n+a.length) (kX ids a) b:=by
  induction a with
  |nil=>intro n ids;simp[gC,kX]
  | cons x c d=>
    intro n ids;simp only[uw,gC,kX,d,iq,and_assoc];grind
theorem adD{a b:List Pl}:∀{ids:List Int},kX ids (a++b)=kX (kX ids a) b:=by
 induction a with
 |nil=>intro ids;rfl
 |cons x d c=>intro ids;simp only[uw,kX,c]
theorem Z3{a:List Pl}:∀{n:Nat}{ids:List Int},gC n ids a->n<=256->n+a.length<=256:=by
  induction a with
  |nil=>simp
  | cons x d b=>
    intro n ids h _;obtain⟨⟨_,e,_⟩,c⟩:=h;grind
theorem amR{ahead:cN}{n:Nat}{h:List Int}:gC n h (f.places d ahead B)↔(∀g∈ahead,g.name≠f.name)/\gC n h (f.places d [] B):=by
 obtain⟨i,au,k,w,id,ix,cs⟩:=f;simp only[ak.places,gC,Aa,nS];grind
theorem amP{ahead:cN}:(f.places d ahead B).length=(f.places d [] B).length:=by
 obtain⟨a,au,k,w,id,ix,cs⟩:=f;simp only[ak.places,iq]
theorem amQ{ahead:cN}{a:List Int}:kX a (f.places d ahead B)=kX a (f.places d [] B):=by
 obtain⟨b,au,k,w,id,ix,cs⟩:=f;simp only[ak.places,kX]
def uO:List ak->List ak->Prop
 |_,[]=>True
 |ahead,f::fs=>(∀g∈ahead,g.name≠f.name)/\uO (ahead++[f]) fs
theorem awR{l:cN}:∀{ahead:cN}{n:Nat}{g:List Int},gC n g (dX d ahead B l)↔uO ahead l/\gC n g (lM d B l):=by
  induction l with
  |nil=>intro ahead n g;simp[dX,lM,uO,gC]
  | cons f l h=>
    intro ahead n g;simp only[dX,lM,uO,G9,h,amR (ahead:=ahead),amP,amQ];grind
theorem ai3{cs:cN}:Zr cs↔cs.Pairwise λa b=>a.name≠b.name:=by
 rw[ux];constructor
 ·intro u i j f d c e;exact u j i _ _ c (bL d) (bL f) e.symm
 ·intro u i j a b c h g e;grind
theorem avq{l:cN}:∀{ahead:cN},ahead.Pairwise (λa b=>a.name≠b.name)->(uO ahead l↔(ahead++l).Pairwise λa b=>a.name≠b.name):=by
  induction l with
  |nil=>intro ahead h;simp[uO,h]
  | cons f l i=>
    intro ahead h;simp only[uO];grind
theorem He{fs:cN}{n:Nat}{a:List Int}:gC n a (dX d [] B fs)↔Zr fs/\gC n a (lM d B fs):=by
 rw[awR,avq YT,x8,ai3]
def ZN(m:Md):Prop:=m.1.size<=256/\m.2.size<=256
def EY(fs:cN)(ms:List Md):Prop:=fs.length<=32/\ms.length<=16/\(∀(j:Nat)m,ms[j]? =some m->ZN m)/\Zr fs/\gC 0 [] (lM 1 false fs)
abbrev B61(h:Hp)(b:Nat)(k w id ix:Int)(s:Sl):Prop:=aO h b #[ah k,ah w,ah id,ah ix,Sl.v s] kH
theorem DC{a:eU}{au:Bool}{k w id ix:Int}{cs:cN}(b:d<=64):(ak.mk a au k w id ix cs).places d [] B=⟨d,[],.mk a au k w id ix cs,B⟩::dX (d+1) [] (B||k==19) cs:=by
 unfold ak.places;rw[dU]
def pP(h:Hp)(r:Nat)(ids:List Int):Prop:=∃es c,h[r]? =some (.map es c)/\(∀e∈es.toList,∃x v:Int,e.key=ah x/\e.val=ah v)/\∀x:Int,(∃e∈es.toList,e.key=ah x)↔x∈ids
theorem pP.fr{S:aR}{h':Hp}{z:List Int}(m:pP h r z)(f:Tn S h h')(B:¬S r):pP h' r z:=by
 obtain⟨a,c,e,q⟩:=m;exact⟨a,c,(f.2 r (mq.1 e).1 B).trans e,q⟩
theorem pP.ai{o:List Int}(m:pP h r o)(g:aB h H):pP H r o:=m.fr (S:=No) (bx g) id
theorem pP.find{b:Array MapEntry}(g:∀e∈b.toList,∃x v:Int,e.key=ah x/\e.val=ah v)(t:Int):(Instr.findNow (.int .i64) (ah t) b.toList 0=some none/\¬∃e∈b.toList,e.key=ah t)\/
  ∃(j:Nat)(v:Int),Instr.findNow (.int .i64) (ah t) b.toList 0=some (some (j,ah v))/\∃e,b.toList[j]? =some e/\e.key=ah t:=by
 rcases MapKept.findNow_spec (d:=.int .i64) (k:=ah t) rfl b.toList 0 (λx h=>by obtain⟨a,_,e,_⟩:=g x h;rw[e];rfl)with⟨f,c⟩|⟨j,e,f,c,l⟩
 ·grind
 ·obtain⟨_,v,_,m⟩:=g e (bS c);grind
theorem awm{a:List Int}{y:Int}{K:Int->Bool->Prop}(m:pP h r a)(i:∀x b,(b=true↔y∈a)->K x b):Lk h (some r) (.int .i64) (ah y) (ah (0:Int)) mI K:=by
 obtain⟨k,c,e,l,g⟩:=m;rcases pP.find l y with⟨f,d⟩|⟨j,v,f,o,d,n⟩
 ·exact⟨k,c,_,e,f,0,rfl,i 0 false ⟨aC,λq=>(d ((g y).2 q)).elim⟩⟩
 ·exact⟨k,c,_,e,f,v,rfl,i v true ⟨λ_=>(g y).1 ⟨o,bS d,n⟩,λ_=>rfl⟩⟩
theorem avM{n:List Int}{k v:Int}(m:pP h r n)(D:∀A,eJ r h A->pP A r (n++[k])->K A):Up h (some r) (.int .i64) (ah k) (ah v) K:=by
  obtain⟨s,c,e,u,C⟩:=m;have B:=(mq.1 e).1;have l:∀o,eJ r h (h.setIfInBounds r o):=λo=>⟨aC,λb F=>bZ⟩
  have get:∀o,(h.setIfInBounds r o)[r]? =some o:=dH
  rcases pP.find u k with⟨w,p⟩|⟨j,v0,w,H,p,G⟩
  · refine⟨s,c,_,e,w,D _ (l _) ⟨_,_,get _,λx d=>?_,λx=>?_⟩⟩
    ·grind
    ·rw[ni,<-C x];simp only[Pp,ni,mR];grind
  · refine⟨s,c,_,e,w,D _ (l _) ⟨_,_,get _,λx d=>?_,λx=>?_⟩⟩
    · rw[Array.toList_modify]at d;obtain⟨i,a⟩:=uy.1 d;rw[YS]at a;cases g:s.toList[i]? with
      |none=>simp[g]at a
      | some y=>
        have f:=u y (bS g);grind
    · rw[ni,<-C x,Array.toList_modify];constructor
      ·grind[List.mem_iff_getElem?]
      · rintro(⟨y,f,q⟩|d)
        · obtain⟨i,a⟩:=uy.1 f
          by_cases E:j=i
          · subst E;rw[p]at a;cases a;refine⟨_,bS (by rw[YS,p];simp;rfl),?_⟩
            rw[<-q,G]
          ·exact⟨y,bS (i:=i) dH,q⟩
        ·simp only[mR]at d;subst d;exact⟨_,bS (by rw[YS,p];simp;rfl),rfl⟩
abbrev kR:Nat:=9223372036854775807
theorem aiz{x:Pl}{n:Nat}{p:List Int}{sp t:Sl}{K:cL}(g:aB H h)(ht:kS H)(hp:sp.n=x.deep)(L:cG H s x.ahead)(E:cG H t x.f.cs)(X:x.ahead.length<=kR)(T:x.f.name.size<=kR)(hm:pP h r p)
  (Z:∀e A,aB h A->(e=0↔Aa n p x)->K e A):L6 sp s x.f.name x.f.au x.f.k x.f.w x.f.id x.f.ix t x.ins (n:Int) (some r) h K Kp:=by
 have R:=E.n;apply L6.of;have o:¬Aa n p x->∀(e:Int)A,e≠0->aB h A->K e A:=λq e A ne g=>Z e A g ⟨λy=>(ne y).elim,λy=>(q y).elim⟩;refine aJ λb3 h1 e3 g3 j _=>?_;simp only[bz,Nat.reduceAdd];refine aj j rfl (aj j rfl (aj j rfl (aj j rfl (aj j rfl ?_))));have d:=jJ.start No h1;refine d.new λb7 _ a' _ d=>?_
 repeat(first|refine d.qF 0 rfl rfl ?_|refine d.ld 0 rfl rfl ?_|refine d.qF 1 rfl rfl ?_|refine d.ld 1 rfl rfl ?_|refine d.qF 2 rfl rfl ?_|refine d.ld 2 rfl rfl ?_|refine d.qF 3 rfl rfl ?_|refine d.ld 3 rfl rfl ?_|refine d.qF 4 rfl rfl ?_|refine d.ld 4 rfl rfl ?_|refine d.qF 5 rfl rfl ?_|refine d.ld 5 rfl rfl ?_|refine d.qF 6 rfl rfl ?_|refine d.ld 6 rfl rfl ?_|(refine d.oo 0 rfl rfl rfl λ_ _ d=>?_;simp only[bX,ke,jG,jr]at d)|(refine d.st 0 rfl rfl rfl λ_ _ d=>?_;simp only[bX,ke,jG,jr]at d)|(refine d.oo 1 rfl rfl rfl λ_ _ d=>?_;simp only[bX,ke,jG,jr]at d)|(refine d.st 1 rfl rfl rfl λ_ _ d=>?_;simp only[bX,ke,jG,jr]at d)|(refine d.oo 2 rfl rfl rfl λ_ _ d=>?_;simp only[bX,ke,jG,jr]at d)|(refine d.st 2 rfl rfl rfl λ_ _ d=>?_;simp only[bX,ke,jG,jr]at d)|(refine d.oo 3 rfl rfl rfl λ_ _ d=>?_;simp only[bX,ke,jG,jr]at d)|(refine d.st 3 rfl rfl rfl λ_ _ d=>?_;simp only[bX,ke,jG,jr]at d)|(refine d.oo 4 rfl rfl rfl λ_ _ d=>?_;simp only[bX,ke,jG,jr]at d)|(refine d.st 4 rfl rfl rfl λ_ _ d=>?_;simp only[bX,ke,jG,jr]at d)|(refine d.oo 5 rfl rfl rfl λ_ _ d=>?_;simp only[bX,ke,jG,jr]at d)|(refine d.st 5 rfl rfl rfl λ_ _ d=>?_;simp only[bX,ke,jG,jr]at d)|(refine d.oo 6 rfl rfl rfl λ_ _ d=>?_;simp only[bX,ke,jG,jr]at d)|(refine d.st 6 rfl rfl rfl λ_ _ d=>?_;simp only[bX,ke,jG,jr]at d)|refine d.qF 0 rfl rfl ?_|refine d.ld 0 rfl rfl ?_|refine d.qF 1 rfl rfl ?_|refine d.ld 1 rfl rfl ?_|refine d.qF 2 rfl rfl ?_|refine d.ld 2 rfl rfl ?_|refine d.qF 3 rfl rfl ?_|refine d.ld 3 rfl rfl ?_|refine d.qF 4 rfl rfl ?_|refine d.ld 4 rfl rfl ?_|refine d.qF 5 rfl rfl ?_|refine d.ld 5 rfl rfl ?_|refine d.qF 6 rfl rfl ?_|refine d.ld 6 rfl rfl ?_|refine aY ag ag ?_|refine bQ rfl ?_|refine bu rfl ?_)
 have m:=d.bq (i:=0) rfl;have j:=j.ai d.ai;have D:=aq g3 d.ai;clear d e3
 rename_i h7 _
 refine awm (hm.ai D) λtv ok G=>aj j rfl (aK (λc=>o (λq=>?_) _ _ bh D) λc=>?_)
 ·have c:=aU c;have:=q.1;omega
 have c:=aU c;refine aK (λF=>o (λq=>?_) _ _ bh D) λF=>?_
 ·have F:=aU F;have:=q.2.1;omega
 have F:=aU F;refine aj j rfl (an5 T λb l=>?_);cases b
 ·exact bQ rfl (o (λq=>absurd (l.2 q.2.2.1) aC) _ _ bh D)
 have C:=l.1 rfl;clear l;refine bu rfl (aj j rfl (avx (aq g D) L X (by rw[bz,gU j];rfl) λb h8 N l=>?_))
 have Q:=aq D N;have j:=j.ai N;have m:=m.ai N;cases b;rotate_left
 ·obtain⟨f,V,U⟩:=l.1 rfl;exact bQ rfl (o (λq=>q.2.2.2.1 f V U) _ _ bh Q)
 have W:∀f∈x.ahead,f.name≠x.f.name:=bZ;clear l;refine bu rfl (aj m rfl (aj m rfl (aj m rfl (aj m rfl (aj m rfl (arJ (ht.ai (aq g Q)) λb h9 M l=>?_))))));have P:=aq Q M;have j:=j.ai M;have m:=m.ai M;rw[R.1]at l;cases b
 ·exact bQ rfl (o (λq=>absurd (l.2 q.2.2.2.2.1) aC) _ _ bh P)
 have m9:=l.1 rfl;clear l;refine bu rfl (aj j rfl (aj j rfl (aj j rfl (aj j rfl (aj j rfl (aj j rfl (aj j rfl (anQ (aq g P) E (λe=>by unfold Shaped at m9;omega) λb v B l=>?_))))))))
 have z:=aq P B;have j:=j.ai B;have m:=m.ai B;cases b
 ·exact bQ rfl (o (λq=>absurd (l.2 q.2.2.2.2.2.1) aC) _ _ bh z)
 have S:=l.1 rfl;clear l;have hT:¬(x.ins=true/\(x.f.k=19\/x.f.k=20))->(x.f.k=19->(∃c,x.f.cs[0]? =some c/\c.au=false)/\x.f.id∉p)->K 0 v:=λa b=>Z 0 v z ⟨λ_=>⟨ag,ag,C,W,m9,S,a,b⟩,λ_=>rfl⟩
 have o:=λq=>o q 36 v bh z;have j1:∀b,(b=true↔x.ins=true/\(x.f.k=19\/x.f.k=20))->CK K Kp (aF b7) ok b v:=by
  intro b l;apply CK.of;simp only[bz,Nat.reduceAdd];cases b
  ·have l:¬(x.ins=true/\(x.f.k=19\/x.f.k=20)):=bZ;refine bu rfl (aj m rfl (cE (λc=>?_) λc=>?_))
   ·have I:0<x.f.cs.length:=by unfold Shaped at m9;omega
    obtain⟨f,J⟩:∃f,x.f.cs[0]? =some f:=⟨x.f.cs[0],bL I⟩;refine aj m rfl (E.ix rfl J λa L=>?_);obtain⟨u,_,_,c1,_⟩:=L.cells;refine⟨_,(aq g z).cell c1,(aK (λO=>?_) λO=>?_)⟩
    ·refine o λq=>?_;obtain⟨y,Y,q⟩:=(q.2.2.2.2.2.2.2 c).1;grind
    ·cases ok
     ·exact bu rfl (hT l λ_=>⟨⟨f,J,ag⟩,λq=>absurd (G.2 q) aC⟩)
     ·exact bQ rfl (o λq=>(q.2.2.2.2.2.2.2 c).2 (G.1 rfl))
   ·grind
  ·exact bQ rfl (bQ rfl (o λq=>q.2.2.2.2.2.2.1 (l.1 rfl)))
 refine bu rfl (aj j rfl (aK (λe=>?_) λe=>?_))
 ·refine aj m rfl (aK (λc=>j1 _ ?_) λc=>?_)
  ·grind
  ·refine aj m rfl (j1 _ ?_);grind
 ·exact j1 _ (by simp[e])
theorem auf{lo:Nat}{K:Sl->HP}{B:PK}(o:Sh lo h.size 1 h s vs Y6)(w:∀v∈vs,one v=true)(hl:vs.length<=1000)
  (l:∀c f,aB h f->Sh h.size f.size 1 f c vs Y6->K c f):LD s h K B:=by
 apply LD.of;rcases o with⟨rfl,rfl⟩|⟨b,J,I,o⟩
 ·exact bQ rfl (l _ h (cW _) (Sh.nil _ _ _ _ _))
 ·obtain⟨e1,O,cs,k,N,M,A⟩:=o;refine bu (by rw[e1];rfl) (aJ λq g L j u F=>?_)
  have r:Sh h.size g.size 1 g ⟨some (aF q),0,0⟩ [] Y6:=.inr ⟨q,ag,ag,rfl,rfl,_,u,cr _,rfl,λi e=>by simp at e⟩
  refine Z2 r j.1 rfl ag w (by rw[e1];exact⟨ag,λi v e=>by
   have E:=(dy.1 e).1;rw[bz,gU (k.ai j),bX,A i ag];exact e⟩) bZ bZ λc p z G t C=>?_
  have y:=((bx j:Tn No h g).trans' z λd⟨a,m,x⟩D=>bZ).ai
  grind
theorem aiK{lo:Nat}{x:Int}{K:Sl->HP}(o:Sh lo h.size 1 h s vs Y6)(v:lo<=h.size)(hl:vs.length<=1000)
  (m:∀a e,Tn (In lo h.size) h e->Sh lo e.size 1 e a (vs++[ah x]) Y6->a.n=vs.length+1->K a e):
  aL h #[(ah x)] Y6 λj c=>Ap c Y6 #[(ah (0:Int))] 1 8 s 1 (rd c (some j) (1*1)) λg r=>K g r:=by
 have y:=o.n;exact aJ λb c z f l _=>Z2 ((o.ai f).wide (cr lo) f.1) ag rfl rfl (by simp[one]) (jn l rfl) ag ag λa q t w k u=>m a q ((bx f:Tn (In lo h.size) h c).trans' t λd p i=>⟨(o.at p).1,i⟩) k ag
theorem Nq{a b:cN}:∀{ahead:cN},dX d ahead B (a++b)=dX d ahead B a++dX d (ahead++a) B b:=by
 induction a with
 |nil=>intro ahead;simp[dX]
 |cons f e c=>intro ahead;simp only[uw,dX,c,oC,List.singleton_append,x8]
theorem iw.take:∀{c:cN}{i j:Nat},iw h a i c->iw h a i (c.take j)
  |[],_,j,b=>dH
  |f::c,_,0,b=>by simp[iw]
  | f::c,_,j+1,b=>by
    unfold iw at b;simp only[YR,iw];exact⟨b.1,iw.take b.2⟩
theorem cG.take{l:cN}(q:cG h s l){j:Nat}(g:j<=l.length){s':Sl}(r:s'.a=s.a)(u:s'.n=j)(y:s'.c=s.c):cG h s' (l.take j):=by
  have b:=q.n;cases l with
  |nil=>simp at g;subst g;simp only[List.take_nil,cG];omega
  | cons f l=>
    cases j with
    |zero=>simp only[JF,cG];omega
    | succ j=>
      simp only[iq]at g b;unfold cG at q;obtain⟨_,_,a,e,i,d⟩:=q;simp only[YR,cG,mP];exact⟨ag,ag,a,r.trans e,i,d.take⟩
mutual
def ak.fQ:ak->Prop
 |.mk n _ _ _ _ _ cs=>n.size<=kR/\cs.length<=kR/\iR cs
def iR:List ak->Prop
 |[]=>True
 |f::fs=>f.fQ/\iR fs
end
theorem iR.get:∀{c:cN},iR c->∀f∈c,f.fQ
  |[],_,_,h=>by simp at h
  | g::b,a,f,h=>by
    unfold iR at a;rcases lT.1 h with rfl|h
    ·exact a.1
    ·exact iR.get a.2 f h
end
end Go.Proofs.YtmjifnioaoamfaaGreatDoor
