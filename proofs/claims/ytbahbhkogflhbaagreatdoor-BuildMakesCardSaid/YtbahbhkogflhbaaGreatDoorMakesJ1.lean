import Derived.Test.YtbahbhkogflhbaaGreatDoorMakesShRange
import Derived.Test.YtbahbhkogflhbaaGreatDoorChecked
import Derived.Test.YtbahbhkogflhbaaGreatDoorMakesShLoc
import Derived.Test.YtbahbhkogflhbaaGreatDoorMakesShRow
import Derived.Test.YtbahbhkogflhbaaGreatDoorMakesShDefer
import Derived.Test.YtbahbhkogflhbaaGreatDoorMakesShAll
import Derived.Test.YtbahbhkogflhbaaGreatDoorMakesShGlue
import Derived.Laws.Strings
import Derived.WideShapes
import Derived.MapKept
set_option linter.all false
set_option maxRecDepth 99999
set_option maxHeartbeats 999999
noncomputable section
namespace Go.Proofs.YtbahbhkogflhbaaGreatDoor
open Go Go.Sh Go.WideShapes
abbrev aE:=Tryz.prog
abbrev Y4:TypeId:=1
abbrev Y6:TypeId:=3
abbrev Y7:TypeId:=4
abbrev Y8:TypeId:=5
abbrev rF:TypeId:=9
abbrev Y25:TypeId:=22
abbrev kJ:TypeId:=29
abbrev gO:TypeId:=31
abbrev ck:TypeId:=55
abbrev MN:TypeId:=25
abbrev kI:TypeId:=62
abbrev VI:TypeId:=118
abbrev yG:TypeId:=37
abbrev dh:TypeId:=39
abbrev fQ:TypeId:=58
abbrev agc:TypeId:=176
abbrev agb:TypeId:=274
abbrev azh:TypeId:=244
abbrev IM:TypeId:=263
abbrev aga:TypeId:=109
abbrev af9:TypeId:=211
abbrev af8:TypeId:=212
abbrev af7:TypeId:=213
abbrev af6:TypeId:=214
abbrev af5:TypeId:=215
abbrev af4:TypeId:=216
abbrev IL:TypeId:=217
abbrev pX:TypeId:=233
abbrev af3:TypeId:=126
abbrev IK:TypeId:=131
abbrev VW:TypeId:=140
abbrev VV:TypeId:=145
abbrev af2:TypeId:=162
abbrev af1:TypeId:=163
abbrev af0:TypeId:=225
abbrev IJ:TypeId:=24
abbrev VU:TypeId:=41
abbrev EX:TypeId:=111
abbrev II:TypeId:=48
abbrev afZ:TypeId:=51
abbrev EW:TypeId:=136
abbrev MM:TypeId:=72
abbrev pW:TypeId:=75
abbrev VS:TypeId:=77
abbrev pV:TypeId:=78
abbrev VR:TypeId:=80
abbrev pU:TypeId:=81
abbrev VQ:TypeId:=83
abbrev oU:TypeId:=84
abbrev VP:TypeId:=86
abbrev oT:TypeId:=87
abbrev VO:TypeId:=89
abbrev qC:TypeId:=90
abbrev VN:TypeId:=92
abbrev qB:TypeId:=93
abbrev VM:TypeId:=96
abbrev pT:TypeId:=97
abbrev VL:TypeId:=99
abbrev pS:TypeId:=100
abbrev VJ:TypeId:=104
abbrev rE:TypeId:=159
abbrev afY:TypeId:=288
abbrev VH:TypeId:=296
abbrev azf:TypeId:=301
abbrev pn:Array Value:=#[(ah 0),(ah 0),(ah 0),(ah 0),(.slice none 0 0)]
abbrev mg:Array Value:=#[(.string (bs [])),(.bool false),(ah 0),(ah 0),(ah 0),(ah 0),(.slice none 0 0)]
abbrev cX:Array Value:=#[(ah 0),(ah 0),(ah 0),(.slice none 0 0),(.slice none 0 0),(.slice none 0 0)]
abbrev kN:Array Value:=#[(ah 0),(.slice none 0 0),(ah 0)]
abbrev fY:Array Value:=#[(.bool false),(ah 0),(.string (bs [])),(.slice none 0 0)]
abbrev JH:Array Value:=#[(.slice none 0 0),(ah 0),(.pointer none)]
abbrev Pg:Array Value:=#[(.slice none 0 0),(.string (bs [])),(.bool false),(ah 0),(ah 0),(ah 0),(ah 0),(.slice none 0 0),(.slice none 0 0),(.bool false)]
abbrev akV:Array Value:=#[(.slice none 0 0),(.slice none 0 0),(.string (bs [])),(.bool false),(ah 0),(ah 0),(ah 0),(ah 0),(.slice none 0 0),(.bool false)]
abbrev akU:Array Value:=#[(ah 0),(ah 0),(.bool false),(ah 0),(.string (bs [])),(.slice none 0 0)]
abbrev Pf:Array Value:=#[(.string (bs [])),(.bool false),(ah 0),(ah 0),(ah 0),(ah 0),(.slice none 0 0),(ah 0),(ah 0),(.slice none 0 0),(ah 0),(.bool false),(ah 0),(.string (bs [])),(.slice none 0 0),(.bool false)]
abbrev wR(h:Hp)(t0 t1 t2 t3:Int)(t4:Sl)(K:Addr->HP):Prop:=aI h #[(ah t0),(ah t1),(ah t2),(ah t3),(Sl.v t4)] kJ K
abbrev gk(h:Hp)(t0:BA)(t1:Bool)(t2 t3 t4 t5:Int)(t6:Sl)(K:Addr->HP):Prop:=aI h #[(.string t0),(.bool t1),(ah t2),(ah t3),(ah t4),(ah t5),(Sl.v t6)] gO K
abbrev oo(h:Hp)(t0 t1 t2:Int)(t3 t4 t5:Sl)(K:Addr->HP):Prop:=aI h #[(ah t0),(ah t1),(ah t2),(Sl.v t3),(Sl.v t4),(Sl.v t5)] ck K
abbrev iP(h:Hp)(t0:Bool)(t1:Int)(t2:BA)(t3:Sl)(K:Addr->HP):Prop:=aI h #[(.bool t0),(ah t1),(.string t2),(Sl.v t3)] dh K
abbrev azJ(h:Hp)(t0:BA)(t1:Bool)(t2 t3 t4 t5:Int)(t6:Sl)(t7 t8 t9:Int)(t10 t11 t12:Sl)(t13 t14:Int)(t15:PA)(t16:Value)(K:Addr->HP):Prop:=aI h #[(.string t0),(.bool t1),(ah t2),(ah t3),(ah t4),(ah t5),(Sl.v t6),(ah t7),(ah t8),(ah t9),(Sl.v t10),(Sl.v t11),(Sl.v t12),(ah t13),(ah t14),(.pointer t15),t16] agc K
abbrev CU(h:Hp)(t0:Sl)(t1:Int)(t2:PA)(K:Addr->HP):Prop:=aI h #[(Sl.v t0),(ah t1),(.pointer t2)] IM K
abbrev azI(h:Hp)(t0 t1:Sl)(t2:BA)(t3:Bool)(t4 t5 t6 t7:Int)(t8:Sl)(t9:Bool)(K:Addr->HP):Prop:=aI h #[(Sl.v t0),(Sl.v t1),(.string t2),(.bool t3),(ah t4),(ah t5),(ah t6),(ah t7),(Sl.v t8),(.bool t9)] VV K
abbrev azH(h:Hp)(t0 t1:Int)(t2:Bool)(t3:Int)(t4:BA)(t5:Sl)(K:Addr->HP):Prop:=aI h #[(ah t0),(ah t1),(.bool t2),(ah t3),(.string t4),(Sl.v t5)] VU K
abbrev azG(h:Hp)(t0:BA)(t1:Bool)(t2 t3 t4 t5:Int)(t6:Sl)(t7:Value)(t8:Bool)(K:Addr->HP):Prop:=aI h #[(.string t0),(.bool t1),(ah t2),(ah t3),(ah t4),(ah t5),(Sl.v t6),t7,(.bool t8)] afZ K
abbrev azF(h:Hp)(t0:BA)(t1:Bool)(t2 t3 t4 t5:Int)(t6:Sl)(t7 t8 t9:Int)(t10 t11 t12 t13 t14 t15 t16 t17 t18:Sl)(K:Addr->HP):Prop:=aI h #[(.string t0),(.bool t1),(ah t2),(ah t3),(ah t4),(ah t5),(Sl.v t6),(ah t7),(ah t8),(ah t9),(Sl.v t10),(Sl.v t11),(Sl.v t12),(Sl.v t13),(Sl.v t14),(Sl.v t15),(Sl.v t16),(Sl.v t17),(Sl.v t18)] EW K
abbrev azE(h:Hp)(t0:BA)(t1:Bool)(t2 t3 t4 t5:Int)(t6:Sl)(t7 t8:Int)(t9:Sl)(t10:Int)(t11:Bool)(t12:Int)(t13:BA)(t14:Sl)(t15:Bool)(K:Addr->HP):Prop:=aI h #[(.string t0),(.bool t1),(ah t2),(ah t3),(ah t4),(ah t5),(Sl.v t6),(ah t7),(ah t8),(Sl.v t9),(ah t10),(.bool t11),(ah t12),(.string t13),(Sl.v t14),(.bool t15)] VS K
abbrev azD(h:Hp)(t0:BA)(t1:Bool)(t2 t3 t4 t5:Int)(t6:Sl)(t7 t8:Int)(t9:Sl)(t10:Int)(t11:Bool)(t12:Int)(t13:BA)(t14:Sl)(t15:Bool)(t16 t17:Sl)(K:Addr->HP):Prop:=aI h #[(.string t0),(.bool t1),(ah t2),(ah t3),(ah t4),(ah t5),(Sl.v t6),(ah t7),(ah t8),(Sl.v t9),(ah t10),(.bool t11),(ah t12),(.string t13),(Sl.v t14),(.bool t15),(Sl.v t16),(Sl.v t17)] VR K
abbrev azC(h:Hp)(t0:BA)(t1:Bool)(t2 t3 t4 t5:Int)(t6:Sl)(t7 t8:Int)(t9:Sl)(t10:Int)(t11:Bool)(t12:Int)(t13:BA)(t14:Sl)(t15:Bool)(t16:Sl)(t17:Value)(K:Addr->HP):Prop:=aI h #[(.string t0),(.bool t1),(ah t2),(ah t3),(ah t4),(ah t5),(Sl.v t6),(ah t7),(ah t8),(Sl.v t9),(ah t10),(.bool t11),(ah t12),(.string t13),(Sl.v t14),(.bool t15),(Sl.v t16),t17] VQ K
abbrev azB(h:Hp)(t0:BA)(t1:Bool)(t2 t3 t4 t5:Int)(t6:Sl)(t7 t8:Int)(t9:Sl)(t10:Int)(t11:Bool)(t12:Int)(t13:BA)(t14:Sl)(t15:Bool)(t16:Value)(K:Addr->HP):Prop:=aI h #[(.string t0),(.bool t1),(ah t2),(ah t3),(ah t4),(ah t5),(Sl.v t6),(ah t7),(ah t8),(Sl.v t9),(ah t10),(.bool t11),(ah t12),(.string t13),(Sl.v t14),(.bool t15),t16] VP K
abbrev azA(h:Hp)(t0:BA)(t1:Bool)(t2 t3 t4 t5:Int)(t6:Sl)(t7 t8:Int)(t9:Sl)(t10:Int)(t11:Bool)(t12:Int)(t13:BA)(t14:Sl)(t15:Bool)(t16:Sl)(K:Addr->HP):Prop:=aI h #[(.string t0),(.bool t1),(ah t2),(ah t3),(ah t4),(ah t5),(Sl.v t6),(ah t7),(ah t8),(Sl.v t9),(ah t10),(.bool t11),(ah t12),(.string t13),(Sl.v t14),(.bool t15),(Sl.v t16)] VO K
abbrev azz(h:Hp)(t0:BA)(t1:Bool)(t2 t3 t4 t5:Int)(t6:Sl)(t7 t8:Int)(t9:Sl)(t10:Int)(t11:Bool)(t12:Int)(t13:BA)(t14:Sl)(t15:Bool)(t16 t17 t18:Sl)(K:Addr->HP):Prop:=aI h #[(.string t0),(.bool t1),(ah t2),(ah t3),(ah t4),(ah t5),(Sl.v t6),(ah t7),(ah t8),(Sl.v t9),(ah t10),(.bool t11),(ah t12),(.string t13),(Sl.v t14),(.bool t15),(Sl.v t16),(Sl.v t17),(Sl.v t18)] VN K
abbrev azy(h:Hp)(t0:BA)(t1:Bool)(t2 t3 t4 t5:Int)(t6:Sl)(t7 t8:Int)(t9:Sl)(t10:Int)(t11:Bool)(t12:Int)(t13:BA)(t14:Sl)(t15:Bool)(t16:Sl)(t17:Value)(t18:Sl)(t19:Option Nat)(K:Addr->HP):Prop:=aI h #[(.string t0),(.bool t1),(ah t2),(ah t3),(ah t4),(ah t5),(Sl.v t6),(ah t7),(ah t8),(Sl.v t9),(ah t10),(.bool t11),(ah t12),(.string t13),(Sl.v t14),(.bool t15),(Sl.v t16),t17,(Sl.v t18),(.map t19)] VM K
abbrev azx(h:Hp)(t0:BA)(t1:Bool)(t2 t3 t4 t5:Int)(t6:Sl)(t7 t8:Int)(t9:Sl)(t10:Int)(t11:Bool)(t12:Int)(t13:BA)(t14:Sl)(t15:Bool)(t16:Sl)(t17:Value)(t18:Bool)(t19:Int)(t20:BA)(t21:Sl)(K:Addr->HP):Prop:=aI h #[(.string t0),(.bool t1),(ah t2),(ah t3),(ah t4),(ah t5),(Sl.v t6),(ah t7),(ah t8),(Sl.v t9),(ah t10),(.bool t11),(ah t12),(.string t13),(Sl.v t14),(.bool t15),(Sl.v t16),t17,(.bool t18),(ah t19),(.string t20),(Sl.v t21)] VL K
abbrev azw(h:Hp)(t0:BA)(t1:Bool)(t2 t3 t4 t5:Int)(t6:Sl)(t7 t8:Int)(t9:Sl)(t10:Int)(t11:Bool)(t12:Int)(t13:BA)(t14:Sl)(t15:Bool)(t16 t17:Sl)(K:Addr->HP):Prop:=aI h #[(.string t0),(.bool t1),(ah t2),(ah t3),(ah t4),(ah t5),(Sl.v t6),(ah t7),(ah t8),(Sl.v t9),(ah t10),(.bool t11),(ah t12),(.string t13),(Sl.v t14),(.bool t15),(Sl.v t16),(Sl.v t17)] VJ K
def iq(h:Hp)(a:Addr)(K:Int->Int->Int->Int->Sl->Prop):Prop:=
 Ld h a mI λt0=>Ld h (a.add 1) mI λt1=>Ld h (a.add 2) mI λt2=>Ld h (a.add 3) mI λt3=>Ld h (a.add 4) Sl.v λt4=>K t0 t1 t2 t3 t4
def bR(h:Hp)(a:Addr)(K:BA->Bool->Int->Int->Int->Int->Sl->Prop):Prop:=
 Ld h a .string λt0=>Ld h (a.add 1) .bool λt1=>Ld h (a.add 2) mI λt2=>Ld h (a.add 3) mI λt3=>Ld h (a.add 4) mI λt4=>Ld h (a.add 5) mI λt5=>Ld h (a.add 6) Sl.v λt6=>K t0 t1 t2 t3 t4 t5 t6
def cg(h:Hp)(a:Addr)(K:Int->Int->Int->Sl->Sl->Sl->Prop):Prop:=
 Ld h a mI λt0=>Ld h (a.add 1) mI λt1=>Ld h (a.add 2) mI λt2=>Ld h (a.add 3) Sl.v λt3=>Ld h (a.add 4) Sl.v λt4=>Ld h (a.add 5) Sl.v λt5=>K t0 t1 t2 t3 t4 t5
def eO(h:Hp)(a:Addr)(K:Int->Sl->Int->Prop):Prop:=
 Ld h a mI λt0=>Ld h (a.add 1) Sl.v λt1=>Ld h (a.add 2) mI λt2=>K t0 t1 t2
def bP(h:Hp)(a:Addr)(K:Bool->Int->BA->Sl->Prop):Prop:=
 Ld h a .bool λt0=>Ld h (a.add 1) mI λt1=>Ld h (a.add 2) .string λt2=>Ld h (a.add 3) Sl.v λt3=>K t0 t1 t2 t3
def oW(h:Hp)(a:Addr)(K:Sl->Int->PA->Prop):Prop:=
 Ld h a Sl.v λt0=>Ld h (a.add 1) mI λt1=>Ld h (a.add 2) .pointer λt2=>K t0 t1 t2
def Fe(h:Hp)(a:Addr)(K:Sl->BA->Bool->Int->Int->Int->Int->Sl->Sl->Bool->Prop):Prop:=
 Ld h a Sl.v λt0=>Ld h (a.add 1) .string λt1=>Ld h (a.add 2) .bool λt2=>Ld h (a.add 3) mI λt3=>Ld h (a.add 4) mI λt4=>Ld h (a.add 5) mI λt5=>Ld h (a.add 6) mI λt6=>Ld h (a.add 7) Sl.v λt7=>Ld h (a.add 8) Sl.v λt8=>Ld h (a.add 9) .bool λt9=>K t0 t1 t2 t3 t4 t5 t6 t7 t8 t9
def azU(h:Hp)(a:Addr)(K:Sl->Sl->BA->Bool->Int->Int->Int->Int->Sl->Bool->Prop):Prop:=
 Ld h a Sl.v λt0=>Ld h (a.add 1) Sl.v λt1=>Ld h (a.add 2) .string λt2=>Ld h (a.add 3) .bool λt3=>Ld h (a.add 4) mI λt4=>Ld h (a.add 5) mI λt5=>Ld h (a.add 6) mI λt6=>Ld h (a.add 7) mI λt7=>Ld h (a.add 8) Sl.v λt8=>Ld h (a.add 9) .bool λt9=>K t0 t1 t2 t3 t4 t5 t6 t7 t8 t9
def yR(h:Hp)(a:Addr)(K:Int->Int->Bool->Int->BA->Sl->Prop):Prop:=
 Ld h a mI λt0=>Ld h (a.add 1) mI λt1=>Ld h (a.add 2) .bool λt2=>Ld h (a.add 3) mI λt3=>Ld h (a.add 4) .string λt4=>Ld h (a.add 5) Sl.v λt5=>K t0 t1 t2 t3 t4 t5
def ou(h:Hp)(a:Addr)(K:BA->Bool->Int->Int->Int->Int->Sl->Int->Int->Sl->Int->Bool->Int->BA->Sl->Bool->Prop):Prop:=
 Ld h a .string λt0=>Ld h (a.add 1) .bool λt1=>Ld h (a.add 2) mI λt2=>Ld h (a.add 3) mI λt3=>Ld h (a.add 4) mI λt4=>Ld h (a.add 5) mI λt5=>Ld h (a.add 6) Sl.v λt6=>Ld h (a.add 7) mI λt7=>Ld h (a.add 8) mI λt8=>Ld h (a.add 9) Sl.v λt9=>Ld h (a.add 10) mI λt10=>Ld h (a.add 11) .bool λt11=>Ld h (a.add 12) mI λt12=>Ld h (a.add 13) .string λt13=>Ld h (a.add 14) Sl.v λt14=>Ld h (a.add 15) .bool λt15=>K t0 t1 t2 t3 t4 t5 t6 t7 t8 t9 t10 t11 t12 t13 t14 t15
def mb(h:Hp)(a:Addr)(t0 t1 t2 t3:Int)(t4:Sl)(K:HP):Prop:=
 St h a (ah t0) λh1=>St h1 (a.add 1) (ah t1) λh2=>St h2 (a.add 2) (ah t2) λh3=>St h3 (a.add 3) (ah t3) λh4=>St h4 (a.add 4) (Sl.v t4) λh5=>K h5
def jN(h:Hp)(a:Addr)(t0:BA)(t1:Bool)(t2 t3 t4 t5:Int)(t6:Sl)(K:HP):Prop:=
 St h a (.string t0) λh1=>St h1 (a.add 1) (.bool t1) λh2=>St h2 (a.add 2) (ah t2) λh3=>St h3 (a.add 3) (ah t3) λh4=>St h4 (a.add 4) (ah t4) λh5=>St h5 (a.add 5) (ah t5) λh6=>St h6 (a.add 6) (Sl.v t6) λh7=>K h7
def cL(h:Hp)(a:Addr)(t0 t1 t2:Int)(t3 t4 t5:Sl)(K:HP):Prop:=
 St h a (ah t0) λh1=>St h1 (a.add 1) (ah t1) λh2=>St h2 (a.add 2) (ah t2) λh3=>St h3 (a.add 3) (Sl.v t3) λh4=>St h4 (a.add 4) (Sl.v t4) λh5=>St h5 (a.add 5) (Sl.v t5) λh6=>K h6
def dZ(h:Hp)(a:Addr)(t0:Int)(t1:Sl)(t2:Int)(K:HP):Prop:=
 St h a (ah t0) λh1=>St h1 (a.add 1) (Sl.v t1) λh2=>St h2 (a.add 2) (ah t2) λh3=>K h3
def dL(h:Hp)(a:Addr)(t0:Bool)(t1:Int)(t2:BA)(t3:Sl)(K:HP):Prop:=
 St h a (.bool t0) λh1=>St h1 (a.add 1) (ah t1) λh2=>St h2 (a.add 2) (.string t2) λh3=>St h3 (a.add 3) (Sl.v t3) λh4=>K h4
def sH(h:Hp)(a:Addr)(t0:Sl)(t1:Int)(t2:PA)(K:HP):Prop:=
 St h a (Sl.v t0) λh1=>St h1 (a.add 1) (ah t1) λh2=>St h2 (a.add 2) (.pointer t2) λh3=>K h3
def yJ(h:Hp)(a:Addr)(t0:Sl)(t1:BA)(t2:Bool)(t3 t4 t5 t6:Int)(t7 t8:Sl)(t9:Bool)(K:HP):Prop:=
 St h a (Sl.v t0) λh1=>St h1 (a.add 1) (.string t1) λh2=>St h2 (a.add 2) (.bool t2) λh3=>St h3 (a.add 3) (ah t3) λh4=>St h4 (a.add 4) (ah t4) λh5=>St h5 (a.add 5) (ah t5) λh6=>St h6 (a.add 6) (ah t6) λh7=>St h7 (a.add 7) (Sl.v t7) λh8=>St h8 (a.add 8) (Sl.v t8) λh9=>St h9 (a.add 9) (.bool t9) λsr=>K sr
def azn(h:Hp)(a:Addr)(t0 t1:Sl)(t2:BA)(t3:Bool)(t4 t5 t6 t7:Int)(t8:Sl)(t9:Bool)(K:HP):Prop:=
 St h a (Sl.v t0) λh1=>St h1 (a.add 1) (Sl.v t1) λh2=>St h2 (a.add 2) (.string t2) λh3=>St h3 (a.add 3) (.bool t3) λh4=>St h4 (a.add 4) (ah t4) λh5=>St h5 (a.add 5) (ah t5) λh6=>St h6 (a.add 6) (ah t6) λh7=>St h7 (a.add 7) (ah t7) λh8=>St h8 (a.add 8) (Sl.v t8) λh9=>St h9 (a.add 9) (.bool t9) λsr=>K sr
def CR(h:Hp)(a:Addr)(t0 t1:Int)(t2:Bool)(t3:Int)(t4:BA)(t5:Sl)(K:HP):Prop:=
 St h a (ah t0) λh1=>St h1 (a.add 1) (ah t1) λh2=>St h2 (a.add 2) (.bool t2) λh3=>St h3 (a.add 3) (ah t3) λh4=>St h4 (a.add 4) (.string t4) λh5=>St h5 (a.add 5) (Sl.v t5) λh6=>K h6
def rH(h:Hp)(a:Addr)(t0:BA)(t1:Bool)(t2 t3 t4 t5:Int)(t6:Sl)(t7 t8:Int)(t9:Sl)(t10:Int)(t11:Bool)(t12:Int)(t13:BA)(t14:Sl)(t15:Bool)(K:HP):Prop:=
 St h a (.string t0) λh1=>St h1 (a.add 1) (.bool t1) λh2=>St h2 (a.add 2) (ah t2) λh3=>St h3 (a.add 3) (ah t3) λh4=>St h4 (a.add 4) (ah t4) λh5=>St h5 (a.add 5) (ah t5) λh6=>St h6 (a.add 6) (Sl.v t6) λh7=>St h7 (a.add 7) (ah t7) λh8=>St h8 (a.add 8) (ah t8) λh9=>St h9 (a.add 9) (Sl.v t9) λsr=>St sr (a.add 10) (ah t10) λBQ=>St BQ (a.add 11) (.bool t11) λzW=>St zW (a.add 12) (ah t12) λh13=>St h13 (a.add 13) (.string t13) λzV=>St zV (a.add 14) (Sl.v t14) λh15=>St h15 (a.add 15) (.bool t15) λEa=>K Ea
abbrev wo{R:Type}(k:Value->R)(t0 t1 t2 t3:Int)(t4:Sl):R:=k (.agg #[(ah t0),(ah t1),(ah t2),(ah t3),(Sl.v t4)])
abbrev fW{R:Type}(k:Value->R)(t0:BA)(t1:Bool)(t2 t3 t4 t5:Int)(t6:Sl):R:=k (.agg #[(.string t0),(.bool t1),(ah t2),(ah t3),(ah t4),(ah t5),(Sl.v t6)])
abbrev mA{R:Type}(k:Value->R)(t0 t1 t2:Int)(t3 t4 t5:Sl):R:=k (.agg #[(ah t0),(ah t1),(ah t2),(Sl.v t3),(Sl.v t4),(Sl.v t5)])
abbrev iT{R:Type}(k:Value->R)(t0:Bool)(t1:Int)(t2:BA)(t3:Sl):R:=k (.agg #[(.bool t0),(ah t1),(.string t2),(Sl.v t3)])
abbrev Ce{R:Type}(k:Value->R)(t0:Sl)(t1:Int)(t2:PA):R:=k (.agg #[(Sl.v t0),(ah t1),(.pointer t2)])
abbrev ayf{R:Type}(k:Value->R)(t0 t1:Sl)(t2:BA)(t3:Bool)(t4 t5 t6 t7:Int)(t8:Sl)(t9:Bool):R:=k (.agg #[(Sl.v t0),(Sl.v t1),(.string t2),(.bool t3),(ah t4),(ah t5),(ah t6),(ah t7),(Sl.v t8),(.bool t9)])
abbrev aye{R:Type}(k:Value->R)(t0 t1:Int)(t2:Bool)(t3:Int)(t4:BA)(t5:Sl):R:=k (.agg #[(ah t0),(ah t1),(.bool t2),(ah t3),(.string t4),(Sl.v t5)])
abbrev bE:=Bool->HP
abbrev dz:Rs:=[(false,[.b])]
abbrev fV(i:FuncId)(l:bq)(h:Hp)(K:bE)(Kp:PK):Prop:=dX aE i l h (xQ dz K) Kp
abbrev TR1:=PA->Int->HP
abbrev qR1:Rs:=[(false,[.p]),(false,[tI])]
abbrev fR1(i:FuncId)(l:bq)(h:Hp)(K:TR1)(Kp:PK):Prop:=dX aE i l h (xQ qR1 K) Kp
abbrev E0:=BA->Bool->Int->Int->Int->Int->Sl->HP
abbrev DE:Rs:=[(true,[.t,.b,tI,tI,tI,tI,.s])]
abbrev Lu(i:FuncId)(l:bq)(h:Hp)(K:E0)(Kp:PK):Prop:=dX aE i l h (xQ DE K) Kp
abbrev AE:=Value->HP
abbrev Gj:Rs:=[(false,[.a (.nilIface)])]
abbrev fR3(i:FuncId)(l:bq)(h:Hp)(K:AE)(Kp:PK):Prop:=dX aE i l h (xQ Gj K) Kp
abbrev EY:=Int->Int->Int->Sl->Sl->Sl->Int->Int->HP
abbrev Gg:Rs:=[(true,[tI,tI,tI,.s,.s,.s]),(false,[tI]),(false,[tI])]
abbrev fR4(i:FuncId)(l:bq)(h:Hp)(K:EY)(Kp:PK):Prop:=dX aE i l h (xQ Gg K) Kp
abbrev iY:=Int->Sl->Int->HP
abbrev n5:Rs:=[(true,[tI,.s,tI])]
abbrev xK(i:FuncId)(l:bq)(h:Hp)(K:iY)(Kp:PK):Prop:=dX aE i l h (xQ n5 K) Kp
abbrev bU:=Int->HP
abbrev dr:Rs:=[(false,[tI])]
abbrev eX(i:FuncId)(l:bq)(h:Hp)(K:bU)(Kp:PK):Prop:=dX aE i l h (xQ dr K) Kp
abbrev V0:=Int->Int->Int->Sl->Sl->Sl->Int->HP
abbrev Qq:Rs:=[(true,[tI,tI,tI,.s,.s,.s]),(false,[tI])]
abbrev fR7(i:FuncId)(l:bq)(h:Hp)(K:V0)(Kp:PK):Prop:=dX aE i l h (xQ Qq K) Kp
abbrev TR8:=BA->Bool->Int->Int->Int->Int->Sl->Int->Int->Sl->Int->Bool->Int->BA->Sl->Bool->HP
abbrev qR8:Rs:=[(true,[.t,.b,tI,tI,tI,tI,.s,tI,tI,.s,tI,.b,tI,.t,.s,.b])]
abbrev fR8(i:FuncId)(l:bq)(h:Hp)(K:TR8)(Kp:PK):Prop:=dX aE i l h (xQ qR8 K) Kp
abbrev CP:=PA->HP
abbrev Kl:Rs:=[(false,[.p])]
abbrev fR9(i:FuncId)(l:bq)(h:Hp)(K:CP)(Kp:PK):Prop:=dX aE i l h (xQ Kl K) Kp
abbrev jJ:=Int->Int->Int->Sl->Sl->Sl->HP
abbrev mq:Rs:=[(true,[tI,tI,tI,.s,.s,.s])]
abbrev tG(i:FuncId)(l:bq)(h:Hp)(K:jJ)(Kp:PK):Prop:=dX aE i l h (xQ mq K) Kp
abbrev V5:=Bool->Int->BA->Sl->Int->HP
abbrev Qv:Rs:=[(true,[.b,tI,.t,.s]),(false,[tI])]
abbrev adV(i:FuncId)(l:bq)(h:Hp)(K:V5)(Kp:PK):Prop:=dX aE i l h (xQ Qv K) Kp
abbrev V4:=PA->Int->Sl->Int->HP
abbrev Qu:Rs:=[(false,[.p]),(true,[tI,.s,tI])]
abbrev avL(i:FuncId)(l:bq)(h:Hp)(K:V4)(Kp:PK):Prop:=dX aE i l h (xQ Qu K) Kp
abbrev gE:=Sl->HP
abbrev gX:Rs:=[(false,[.s])]
abbrev mz(i:FuncId)(l:bq)(h:Hp)(K:gE)(Kp:PK):Prop:=dX aE i l h (xQ gX K) Kp
abbrev jn:=HP
abbrev kO:Rs:=[]
abbrev qZ(i:FuncId)(l:bq)(h:Hp)(K:jn)(Kp:PK):Prop:=dX aE i l h (xQ kO K) Kp
abbrev CQ:=Value->HP
abbrev Bm:Rs:=[(false,[.a (.nilFunc)])]
abbrev su(i:FuncId)(l:bq)(h:Hp)(K:CQ)(Kp:PK):Prop:=dX aE i l h (xQ Bm K) Kp
abbrev qE:=Bool->Int->BA->Sl->HP
abbrev ux:Rs:=[(true,[.b,tI,.t,.s])]
abbrev HC(i:FuncId)(l:bq)(h:Hp)(K:qE)(Kp:PK):Prop:=dX aE i l h (xQ ux K) Kp
abbrev azl:=BA->HP
abbrev apP:Rs:=[(false,[.t])]
abbrev avK(i:FuncId)(l:bq)(h:Hp)(K:azl)(Kp:PK):Prop:=dX aE i l h (xQ apP K) Kp
abbrev AF:=Int->Sl->Int->Sl->HP
abbrev Qs:Rs:=[(true,[tI,.s,tI]),(false,[.s])]
abbrev avJ(i:FuncId)(l:bq)(h:Hp)(K:AF)(Kp:PK):Prop:=dX aE i l h (xQ Qs K) Kp
abbrev azk:=Bool->Int->BA->Sl->Int->Int->HP
abbrev apO:Rs:=[(true,[.b,tI,.t,.s]),(false,[tI]),(false,[tI])]
abbrev avI(i:FuncId)(l:bq)(h:Hp)(K:azk)(Kp:PK):Prop:=dX aE i l h (xQ apO K) Kp
abbrev EZ:=Int->HP
abbrev DD:Rs:=[(false,[.i .u64])]
abbrev Ua(i:FuncId)(l:bq)(h:Hp)(K:EZ)(Kp:PK):Prop:=dX aE i l h (xQ DD K) Kp
abbrev agn:=Int->Bool->HP
abbrev aa4:Rs:=[(false,[tI]),(false,[.b])]
abbrev avH(i:FuncId)(l:bq)(h:Hp)(K:agn)(Kp:PK):Prop:=dX aE i l h (xQ aa4 K) Kp
abbrev V3:=Int->Int->Int->HP
abbrev Qr:Rs:=[(false,[tI]),(false,[tI]),(false,[tI])]
abbrev avG(i:FuncId)(l:bq)(h:Hp)(K:V3)(Kp:PK):Prop:=dX aE i l h (xQ Qr K) Kp
abbrev agm:=Bool->Int->HP
abbrev aa3:Rs:=[(false,[.b]),(false,[tI])]
abbrev avF(i:FuncId)(l:bq)(h:Hp)(K:agm)(Kp:PK):Prop:=dX aE i l h (xQ aa3 K) Kp
abbrev MQ:=Sl->Int->PA->HP
abbrev Km:Rs:=[(true,[.s,tI,.p])]
abbrev TZ(i:FuncId)(l:bq)(h:Hp)(K:MQ)(Kp:PK):Prop:=dX aE i l h (xQ Km K) Kp
abbrev agl:=Int->Int->HP
abbrev aa2:Rs:=[(false,[.i .u8]),(false,[tI])]
abbrev avE(i:FuncId)(l:bq)(h:Hp)(K:agl)(Kp:PK):Prop:=dX aE i l h (xQ aa2 K) Kp
abbrev agk:=Int->Int->HP
abbrev aa1:Rs:=[(false,[tI]),(false,[tI])]
abbrev avD(i:FuncId)(l:bq)(h:Hp)(K:agk)(Kp:PK):Prop:=dX aE i l h (xQ aa1 K) Kp
abbrev agj:=BA->Int->HP
abbrev aa0:Rs:=[(false,[.t]),(false,[tI])]
abbrev avC(i:FuncId)(l:bq)(h:Hp)(K:agj)(Kp:PK):Prop:=dX aE i l h (xQ aa0 K) Kp
abbrev agi:=Int->Int->HP
abbrev aaZ:Rs:=[(false,[.i .u64]),(false,[tI])]
abbrev avB(i:FuncId)(l:bq)(h:Hp)(K:agi)(Kp:PK):Prop:=dX aE i l h (xQ aaZ K) Kp
def Ye:=cS λa=>cS λb=>fV 3 [a,b]
def Fu:=fW λa=>fR1 4 [a]
def Yd:=fV 5 []
def Om:=fW λa=>fV 6 [a]
def Ya:=cP λa=>fW λb=>aye λc=>cP λd=>cP λe=>fV 7 [a,b,c,d,e]
def Jo:=fW λa=>fV 8 [a]
def OV:=fW λa=>Lu 9 [a]
def OU:=fW λa=>fR3 10 [a]
def AT:=fW λa=>cS λb=>fR4 11 [a,b]
def Yb:=fW λa=>mA λb=>fV 12 [a,b]
def Oi:=fW λa=>xK 13 [a]
def Jq:=cP λa=>iT λb=>eX 14 [a,b]
def C7:=fW λa=>cS λb=>fR4 15 [a,b]
def X9:=cP λa=>eX 16 [a]
def Jp:=cP λa=>fR7 17 [a]
def Fv:=mA λa=>mA λb=>fV 18 [a,b]
def Fm:=fW λa=>xK 19 [a]
def X4:=fW λa=>fR8 20 [a]
def Yc:=fW λa=>mA λb=>fR7 21 [a,b]
def OY:=mA λa=>mA λb=>fV 22 [a,b]
def YS(Dx Dw:Sl)(h:Hp)(K:iY)(Kp:PK):=dX aE 23 [(.agg #[(Sl.v Dx),(Sl.v Dw)])] h (xQ n5 K) Kp
def X7:=fW λa=>iT λb=>eX 24 [a,b]
def X6:=cP λa=>iT λb=>eX 25 [a,b]
def OX:=fW λa=>fR9 26 [a]
def X8:=cP λa=>iT λb=>eX 27 [a,b]
def OW:=cP λa=>tG 28 [a]
def OZ:=cS λa=>cS λb=>fV 29 [a,b]
def YQ(Dx Dw:Sl)(h:Hp)(K:iY)(Kp:PK):=dX aE 30 [(.agg #[(Sl.v Dx),(Sl.v Dw)])] h (xQ n5 K) Kp
def X2:=fW λa=>adV 31 [a]
def YT:=fW λa=>mA λb=>avL 32 [a,b]
def O2:=cP λa=>mz 33 [a]
def XI:=cS λa=>cS λb=>cA λc=>fV 34 [a,b,c]
def aju:=cS λa=>cS λb=>fV 35 [a,b]
def On:=cS λa=>cS λb=>cA λc=>fV 36 [a,b,c]
def Fw:=cS λa=>cS λb=>cB λc=>cS λd=>mz 37 [a,b,c,d]
def YI:=cS λa=>cI λb=>eX 38 [a,b]
def Jl:=fW λa=>fV 39 [a]
def X3:=fW λa=>iT λb=>fV 40 [a,b]
def X5:=fW λa=>iT λb=>fV 42 [a,b]
def uo:=cP λa=>iT λb=>eX 43 [a,b]
def OS:=cS λa=>mz 44 [a]
def sJ:=cS λa=>cI λb=>mz 45 [a,b]
def Jm:=cI λa=>eX 46 [a]
def aj6:=cS λa=>cI λb=>su 47 [a,b]
def YG:=ayf λa=>cI λb=>cM λc=>eX 48 [a,b,c]
def yW:=fW λa=>eX 49 [a]
def yV:=fW λa=>HC 50 [a]
def XH:=fW λa=>mA λb=>xK 51 [a,b]
def XG:=fW λa=>mA λb=>cP λc=>fR9 52 [a,b,c]
def Ol:=fW λa=>Lu 53 [a]
def Ok:=mA λa=>tG 54 [a]
def ajs:=cP λa=>su 55 [a]
def Yz:=cT λa=>fV 56 [a]
def Yy:=wo λa=>fV 57 [a]
def Yx:=fW λa=>fV 58 [a]
def AR:=cP λa=>fW λb=>iT λc=>fV 59 [a,b,c]
def Jn:=iT λa=>cI λb=>eX 60 [a,b]
def AS:=fW λa=>iT λb=>fV 61 [a,b]
def OR:=cP λa=>iT λb=>eX 62 [a,b]
def Fq:=cS λa=>cI λb=>cI λc=>mz 63 [a,b,c]
def aGx:=cA λa=>cD λb=>cD λc=>qZ 64 [a,b,c]
def aj4:=cS λa=>cS λb=>cB λc=>cD λd=>cD λe=>cD λf=>fV 65 [a,b,c,d,e,f]
def Yi:=cS λa=>mz 66 [a]
def Yw:=cT λa=>fV 67 [a]
def Yh:=cS λa=>cA λb=>fV 68 [a,b]
def aGt:=fW λa=>cD λb=>fV 69 [a,b]
def Yv:=wo λa=>fV 70 [a]
def Yu:=fW λa=>fV 71 [a]
def Jj:=fW λa=>fV 72 [a]
def ajt:=cT λa=>cI λb=>avK 73 [a,b]
def nJ:=cI λa=>cI λb=>xK 74 [a,b]
def Fy:=fW λa=>mA λb=>avJ 75 [a,b]
def YX:=cI λa=>fR3 76 [a]
def aj3:=cS λa=>mz 77 [a]
def Yj:=cS λa=>mz 78 [a]
def O7:=cS λa=>mz 79 [a]
def aHc:=cA λa=>cD λb=>qZ 80 [a,b]
def XE:=cP λa=>cI λb=>avI 81 [a,b]
def Yp(c:Int)(h:Hp)(K:bE)(Kp:PK):=dX aE 82 [(.int .u8 c)] h (xQ dz K) Kp
def XW:=cP λa=>wo λb=>cS λc=>fV 83 [a,b,c]
def Yf:=cT λa=>fV 84 [a]
def XV:=cI λa=>fV 85 [a]
def XU:=cI λa=>cI λb=>fV 86 [a,b]
def OQ:=fW λa=>fV 87 [a]
def X0:=cI λa=>fV 88 [a]
def XZ:=cI λa=>cI λb=>fV 89 [a,b]
def YR:=cT λa=>fV 90 [a]
def XY:=wo λa=>iT λb=>fV 91 [a,b]
def XX:=cP λa=>iT λb=>eX 92 [a,b]
def OO:=cP λa=>eX 93 [a]
def ajX:=cP λa=>iT λb=>eX 94 [a,b]
def Yo(c:Int)(h:Hp)(K:bE)(Kp:PK):=dX aE 95 [(.int .u8 c)] h (xQ dz K) Kp
def aj2:=cS λa=>cA λb=>eX 96 [a,b]
def O1:=cI λa=>fV 97 [a]
def YP:=fW λa=>mA λb=>xK 104 [a,b]
def YO:=fW λa=>mA λb=>xK 105 [a,b]
def YV:=mA λa=>mz 106 [a]
def aj7:=fW λa=>cI λb=>Lu 107 [a,b]
def aGX:=mA λa=>xK 108 [a]
def YN:=fW λa=>mA λb=>cS λc=>mz 109 [a,b,c]
def YW:=cP λa=>cI λb=>cP λc=>HC 111 [a,b,c]
def wV:=cT λa=>Ua 112 [a]
def ajU:=cI λa=>avH 113 [a]
def YH:=cT λa=>cI λb=>eX 114 [a,b]
def Jk:=iT λa=>iT λb=>fV 115 [a,b]
def um:=cP λa=>eX 116 [a]
def ON:=cI λa=>eX 117 [a]
def YF:=wo λa=>avG 123 [a]
def YE:=wo λa=>cI λb=>cI λc=>cI λd=>eX 124 [a,b,c,d]
def YD:=fW λa=>mA λb=>xK 125 [a,b]
def aGG:=fW λa=>mA λb=>xK 126 [a,b]
def Jt:=cS λa=>cI λb=>eX 127 [a,b]
def O6:=fW λa=>mA λb=>cI λc=>fV 128 [a,b,c]
def aGF:=fW λa=>mA λb=>cI λc=>eX 129 [a,b,c]
def aj5:=cS λa=>cI λb=>cI λc=>mz 130 [a,b,c]
def YL:=cP λa=>cI λb=>cP λc=>HC 131 [a,b,c]
def yX:=fW λa=>eX 132 [a]
def X1:=fW λa=>adV 133 [a]
def Jr:=wo λa=>fV 136 [a]
def Yt:=wo λa=>mz 137 [a]
def Ys:=cI λa=>eX 138 [a]
def Yr:=wo λa=>eX 139 [a]
def XF:=fW λa=>mA λb=>eX 140 [a,b]
def O5:=cI λa=>fV 142 [a]
def YM:=cS λa=>cI λb=>avF 143 [a,b]
def Yq:=cI λa=>eX 144 [a]
def Oj:=cP λa=>cI λb=>fV 145 [a,b]
def Js:=cP λa=>cI λb=>qZ 146 [a,b]
def XT:=fW λa=>fV 147 [a]
def C6:=fW λa=>cI λb=>eX 148 [a,b]
def C5:=fW λa=>HC 149 [a]
def Yn:=wo λa=>Lu 150 [a]
def O0:=cS λa=>mz 151 [a]
def YC:=cS λa=>cI λb=>fV 153 [a,b]
def AU:=cP λa=>cI λb=>TZ 154 [a,b]
def O4:=Ce λa=>cI λb=>avE 155 [a,b]
def Yg:=cS λa=>mz 156 [a]
def YK:=cS λa=>TZ 157 [a]
def YJ:=Ce λa=>cP λb=>TZ 158 [a,b]
def Jv:=Ce λa=>cI λb=>cI λc=>fV 159 [a,b,c]
def Ju:=Ce λa=>cI λb=>cI λc=>mz 160 [a,b,c]
def ajT:=cP λa=>eX 177 [a]
def ajS:=cP λa=>tG 178 [a]
def ajR:=cP λa=>su 179 [a]
def OM:=cP λa=>iT λb=>eX 180 [a,b]
def ajQ:=cP λa=>eX 181 [a]
def XS:=cP λa=>eX 182 [a]
def iF:=cP λa=>cS λb=>tG 183 [a,b]
def uk:=cP λa=>su 184 [a]
def oZ:=cP λa=>cB λb=>eX 185 [a,b]
def nL:=cP λa=>cI λb=>eX 186 [a,b]
def ajP:=cD λa=>cD λb=>cD λc=>qZ 187 [a,b,c]
def ajO:=cP λa=>tG 188 [a]
def OL:=cP λa=>su 189 [a]
def OK:=cP λa=>iT λb=>eX 190 [a,b]
def XR:=cP λa=>eX 191 [a]
def uj:=cP λa=>mz 192 [a]
def qK:=cS λa=>cI λb=>mz 193 [a,b]
def Fo:=cS λa=>mz 194 [a]
def ajN:=cD λa=>cD λb=>cD λc=>cD λd=>qZ 195 [a,b,c,d]
def ajM:=cP λa=>tG 196 [a]
def OJ:=cP λa=>su 197 [a]
def OI:=cP λa=>iT λb=>eX 198 [a,b]
def XQ:=cP λa=>eX 199 [a]
def ajL:=cD λa=>cD λb=>cD λc=>cD λd=>qZ 200 [a,b,c,d]
def ajK:=cP λa=>tG 201 [a]
def OH:=cP λa=>su 202 [a]
def OG:=cP λa=>iT λb=>eX 203 [a,b]
def XP:=cP λa=>eX 204 [a]
def ajJ:=cD λa=>cD λb=>qZ 205 [a,b]
def ajI:=cP λa=>tG 206 [a]
def OF:=cP λa=>su 207 [a]
def OE:=cP λa=>iT λb=>eX 208 [a,b]
def XO:=cP λa=>eX 209 [a]
def OD:=cS λa=>mz 210 [a]
def OC:=cS λa=>su 211 [a]
def ajH:=cD λa=>cD λb=>qZ 212 [a,b]
def Fp:=cS λa=>eX 213 [a]
def ajG:=cD λa=>qZ 214 [a]
def ajF:=cP λa=>tG 215 [a]
def OB:=cP λa=>su 216 [a]
def OA:=cP λa=>iT λb=>eX 217 [a,b]
def XN:=cP λa=>eX 218 [a]
def ajE:=cD λa=>cD λb=>cD λc=>cD λd=>qZ 219 [a,b,c,d]
def Oz:=cP λa=>cI λb=>cA λc=>eX 220 [a,b,c]
def ajD:=cA λa=>cD λb=>eX 221 [a,b]
def ajC:=cP λa=>tG 222 [a]
def Oy:=cP λa=>su 223 [a]
def Ox:=cP λa=>iT λb=>eX 224 [a,b]
def XM:=cP λa=>eX 225 [a]
def C4:=cI λa=>eX 226 [a]
def ajA:=cD λa=>cD λb=>cD λc=>cD λd=>cD λe=>qZ 227 [a,b,c,d,e]
def Ji:=iT λa=>Ua 228 [a]
def XL:=cP λa=>iT λb=>eX 229 [a,b]
def Ow:=cP λa=>eX 230 [a]
def AO:=iT λa=>HC 231 [a]
def Ft:=iT λa=>eX 232 [a]
def Ov:=cP λa=>iT λb=>qZ 233 [a,b]
def Jh:=iT λa=>iT λb=>fV 234 [a,b]
def Jg(hv:PA)(c:Int)(h:Hp)(K:jn)(Kp:PK):=dX aE 235 [(.pointer hv),(.int .u8 c)] h (xQ kO K) Kp
def Jf(hv:PA)(x:Int)(h:Hp)(K:jn)(Kp:PK):=dX aE 236 [(.pointer hv),(.int .u64 x)] h (xQ kO K) Kp
def ajz:=cP λa=>tG 237 [a]
def Ou:=cP λa=>su 238 [a]
def Ot:=cP λa=>iT λb=>eX 239 [a,b]
def XK:=cP λa=>eX 240 [a]
def ajy:=cD λa=>cD λb=>cD λc=>cD λd=>cD λe=>cD λf=>qZ 241 [a,b,c,d,e,f]
def ajx:=cP λa=>tG 242 [a]
def Oq:=cP λa=>su 243 [a]
def Oo:=cP λa=>iT λb=>eX 244 [a,b]
def ajw:=cP λa=>eX 245 [a]
def XJ:=cS λa=>cI λb=>mz 246 [a,b]
def ajv:=cD λa=>cD λb=>cD λc=>qZ 247 [a,b,c]
def Ym:=Ce λa=>cI λb=>cI λc=>avC 253 [a,b,c]
def YU:=Ce λa=>cI λb=>cI λc=>avD 254 [a,b,c]
def Fx:=Ce λa=>cI λb=>cI λc=>avB 255 [a,b,c]
def YB:=cI λa=>fV 256 [a]
def YA:=cS λa=>Ua 257 [a]
def Yl:=cP λa=>cI λb=>cI λc=>eX 264 [a,b,c]
def Yk(a:PA)(r:Int)(left:PA)(h:Hp)(K:qE)(Kp:PK):=dX aE 267 [(.agg #[]),(.pointer a),(ah r),(.pointer left)] h (xQ ux K) Kp
section
variable{a b c d e f g i j k l m ja jb jc jd je jg jh jk:Int}{n o p q r s t u v w qa qb qc qd qe qf qg qh:Addr}{A B C D E F G sa sb sc sd se sf sg sh:Sl}{P Q R S T U:PA}{x y z ya yb yc yd ye yf:Bool}{V W X wa wb wc wd we wf:BA}{Y Z va vb vc vd ve vf:Value}{M O:Option Nat}{h:Hp}{Kp:PK}{N1 N2 N3:Fr->HP}
def Ag:=mc aE Tryz.f3 (am [(2000007,3),(2000024,770),(2027,8665580274997661924293919488),(2000030,39305834187350109108322093417216),(2012,492581209244418),(2002,35),(2001001,50331683)]) [] dz
def DS:=fK 126 [8,9,14,15,90,91,92] [.s,.s,.s,.s,.s,tI,tI]
def aiX:=qt Ag 3 523571 [.s,.s,.s,.s,.d,.s,tI,tI,.d,tI,.s,tI,.b]
def WE:=lK Ag 2027 4090 DS
def I5:=jK Ag 1 127 [.s,.s,.s]
def Gw:=fK 126 [1,46,47,8,9,48] [.s,.s,tI,.s,.s,tI]
def ahv:=lK Ag 2012 506 Gw
def NQ:=jK Ag 0 7 [.s,.s]
def R2:=fK 126 [0,1,5] [.s,.s,tI]
def aiW:=qt Ag 6 105 [.s,.s,tI,tI,.b]
def ahu:=lK Ag 2002 26 R2
theorem aCV{K:bE}(H:Ld h (n.add 1) mI λc=>Ix A.a A.n 1 c λd=>Ld h d .pointer λd=>Ix B.a B.n 7 c λe=>bR h e λe f g i j k l=>yR h n λm n p q r s=>Ix C.a C.n 1 c λt=>Ix D.a D.n 1 c λc=>Ya d e f g i j k l m n p q r s (some t) (some c) h (λc d=>If (!c) (K false d) (aP (b+1) λb=>N1 (DS A B C D E a b) d)) Kp):aiX K Kp N1 A B C D n E a b o c F d x h:=jf H
theorem aAU{K:bE}:eZ (A0:=Int) (WE K Kp A B C D E a) (DS A B C D E a) λb c d=>(aV (c<a) (Ix E.a E.n 6 c λe=>yR d e λe f g i j k=>aI d akU VU λd l=>CR l d e f g i j k λe=>Ld e (d.add 1) mI λf=>aV (f<0) (aP (c+1) λc=>b (DS A B C D E a c) e) (Ld e (d.add 1) mI λf=>aV (f>=(A.n:Int)) (aP (c+1) λc=>b (DS A B C D E a c) e) (aiX K Kp b A B C D d E a c (d.add 1) f A (A.n:Int) (decide (f>=(A.n:Int))) e))) (K true d)):=fc
theorem aCW{K:bE}(H:dP h yG #[(.slice none 0 0)] 1 24 (B.n:Int) (B.n:Int) λa b=>dP b Y7 #[(.bool false)] 1 1 (B.n:Int) (B.n:Int) λb c=>WE K Kp B C a b A (A.n:Int) 0 c):I5 K Kp A B C h:=jf H
theorem aAT{K:bE}:Wt (A0:=Sl) (A1:=Sl) (A2:=Int) (ahv K Kp A B a) (Gw A B a) λb c d e f=>(aV (e<a) (Ix B.a B.n 7 e λg=>bR f g λg i j k l m n=>aI f mg gO λf p=>jN p f g i j k l m n λg=>If (e==8) (I5 K Kp A c d g) (bR g f λi j k l m n p=>Fu i j k l m n p g (λg i j=>bR j f λk l m n p q r=>Om k l m n p q r j (λj k=>If (!j) (If (i !=5) (K false k) (If (!(Option.isNone g)) (K false k) (aP (e+1) λe=>b (Gw A B a c d e) k))) (If (i !=0) (K false k) (If (Option.isNone g) (K false k) (aI k #[(.pointer g)] IJ λg i=>Ap i IJ #[(.pointer none)] 1 8 c 1 (rd i (some g) (1*1)) λc g=>bR g f λf i j k l m n=>aI g #[(.string f),(.bool i),(ah j),(ah k),(ah l),(ah m),(Sl.v n)] gO λf g=>Ap g gO mg 7 80 d 1 (rd g (some f) (1*7)) λd f=>aP (e+1) λe=>b (Gw A B a c d e) f)))) Kp) Kp)) (I5 K Kp A c d f)):=ab9
theorem aCX{K:bE}(H:Yd  h (λa b=>If (!a) (K false b) (aI b #[] IJ λa b=>aI b #[] gO λb c=>ahv K Kp B A (A.n:Int) (⟨some a,0,0⟩:Sl) (⟨some b,0,0⟩:Sl) 0 c)) Kp):NQ K Kp A B h:=jf H
theorem aCU{K:bE}(H:Ix A.a A.n 7 a λb=>bR h b λb c d e f g i=>Fu b c d e f g i h (λb c d=>If (!((Option.isNone b)==(c !=0))) (K false d) (aP (a+1) λa=>N1 (R2 A B a) d)) Kp):aiW K Kp N1 A B a b x h:=jf H
theorem aAS{K:bE}:eZ (A0:=Int) (ahu K Kp A B) (R2 A B) λa b c=>(aV (b<(A.n:Int)) (aV (b<8) (aiW K Kp a A B b b (decide (b<8)) c) (NQ K Kp A B c)) (NQ K Kp A B c)):=fc
theorem aF3{K:bE}(H:ahu K Kp A B 0 h):Ye A B h K Kp:=cJ (Ag K Kp) dz K Tryz.func3 H
theorem aj0{K:TR1}(H:gk h V x a b c d A λa b=>bR b a λc d e f g i j=>Jo c d e f g i j b (λb c=>If (!b) (K none 5 c) (bR c a λa b d e f g i=>OV a b d e f g i c (λa b c d e f g i=>aI i mg gO λi j=>jN j i a b c d e f g λa=>bR a i λb c d e f g j=>bR a i λk l m n p q r=>OU k l m n p q r a (λk l=>aT a l i 7 <|NA k <|azG l b c d e f g j k false λa b=>K (some a) 0 b) Kp) Kp)) Kp):Fu V x a b c d A h K Kp:=dc qR1 K Tryz.func4 H
def wq:=mc aE Tryz.f5 (am [(2000003,14),(2000004,206),(44007,17179869382),(44012,549755814086),(44018,35184372089030),(44026,9007199254741190),(44034,2305843009213694150),(44038,36893488147419103366),(44042,590295810358705651718)]) [] dz
def WV:=rK wq 8 62 [.d,.d,.b]
def WW:=rK wq 7 62 [.d,.d,tI,.b]
def WX:=rK wq 6 62 [.d,.d,tI,tI,.b]
def WY:=rK wq 5 62 [.d,.d,tI,tI,.b]
def WZ:=rK wq 4 62 [.d,.d,tI,tI,.b]
def W0:=rK wq 3 62 [.d,.d,tI,tI,.b]
def W1:=rK wq 2 62 [.d,.d,tI,tI,.b]
def aiU:=jK wq 1 31 [.d,.d,tI,tI,tI]
def aiV:=jK wq 0 15 [.d,.d,tI]
theorem aCL{K:bE}(H:If x (bR h n λa b c d e f g=>cg h o λi j k l m n=>Yb a b c d e f g i j k l m n h (λa b=>K a b) Kp) (K false h)):WV K Kp n o x h:=jf H
theorem aCM{K:bE}(H:If x (WV K Kp n o (a==1) h) (WV K Kp n o false h)):WW K Kp n o a x h:=jf H
theorem aCN{K:bE}(H:If x (WW K Kp n o b (a==7) h) (WW K Kp n o b false h)):WX K Kp n o a b x h:=jf H
theorem aCO{K:bE}(H:If x (Ld h (o.add 3) Sl.v λc=>Ix c.a c.n 1 1 λc=>Ld h c Sl.v λc=>sL h c λc=>WX K Kp n o a b (c.toList==(bs [254,255,0,0]).toList) h) (WX K Kp n o a b false h)):WY K Kp n o a b x h:=jf H
theorem aCP{K:bE}(H:If x (Ld h (o.add 3) Sl.v λc=>Ix c.a c.n 1 0 λc=>Ld h c Sl.v λc=>sL h c λc=>WY K Kp n o a b (c.toList==(bs [1]).toList) h) (WY K Kp n o a b false h)):WZ K Kp n o a b x h:=jf H
theorem aCQ{K:bE}(H:If x (Ld h (o.add 3) Sl.v λc=>WZ K Kp n o a b ((c.n:Int)==2) h) (WZ K Kp n o a b false h)):W0 K Kp n o a b x h:=jf H
theorem aCR{K:bE}(H:If x (Ld h (o.add 2) mI λc=>W0 K Kp n o a b (c==1) h) (W0 K Kp n o a b false h)):W1 K Kp n o a b x h:=jf H
theorem aCS{K:bE}(H:If (a==0) (Ld h o mI λa=>W1 K Kp n o b c (a==2) h) (W1 K Kp n o b c false h)):aiU K Kp n o a b c h:=jf H
theorem aCT{K:bE}(H:bR h n λb c d e f g i=>aI h #[(.bool false),(ah 1),(.string (bs [])),(.slice none 0 0),(.bool false),(ah 40000),(.string (bs [])),(.slice none 0 0)] dh λj k=>AT b c d e f g i (⟨some j,2,2⟩:Sl) k (λb c d e f g i j k=>aI k cX ck λk l=>cL l k b c d e f g λb=>aiU K Kp n o a i j b) Kp):aiV K Kp n o a h:=jf H
theorem aF2{K:bE}(H:aI h mg gO λa b=>jN b a (bs [97]) true 4 0 0 0 bN λb=>bR b a λc d e f g i j=>aI b #[(.bool false),(ah (-2)),(.string (bs [])),(.slice none 0 0),(.bool true),(ah 0),(.string (bs [])),(.slice none 0 0)] dh λb k=>AT c d e f g i j (⟨some b,2,2⟩:Sl) k (λb c d e f g i _ j=>aI j cX ck λj k=>cL k j b c d e f g λb=>aiV K Kp a j i b) Kp):Yd  h K Kp:=cJ (wq K Kp) dz K Tryz.func5 H
theorem aEc{K:bE}(H:gk h V x a b c d A λa b=>bR b a λa c d e f g i=>Oi a c d e f g i b (λa _ _ b=>K (a==0) b) Kp):Om V x a b c d A h K Kp:=dc dz K Tryz.func6 H
def aeY:=mc aE Tryz.f7 (am [(2000007,6216)]) [(14,(OT.l [0,2,3,4,5,1,6,7] .fin)),(20,(OT.l [0,1,2,3] (.alt (OT.l (List.range' 4 9) .fin) (OT.l [9,4,5,6,7,8,10,11,12] .fin))))] dz
def aiQ:=jK aeY 0 855 [.p,.d,tI,.s]
theorem aCF{K:bE}(H:bR h n λb c d e f g i=>C7 b c d e f g i A h (λb c d e f g i _ j=>aI j cX ck λj k=>cL k j b c d e f g λb=>If (a !=i) (K false b) (If (i==0) (NN P λa=>St b a (Sl.v A) λa=>K true a) (K true b))) Kp):aiQ K Kp P n a A h:=jf H
theorem aFX{K:bE}(H:gk h V x a b c d A λa b=>azH b e f y g W B λb c=>Ld c b mI λd=>If (d==0) (bP c (b.add 2) λd e f g=>Jq P d e f g c (λc d=>NN R λe=>Ld d e .bool λe=>If e (K (c==9) d) (NN Q λe=>Ld d e Sl.v λf=>NN Q λg=>Ld d g Sl.v λi=>NN Q λj=>Ld d j Sl.v λk=>jo f 4 none (some (i.n:Int)) (some (k.n:Int)) λf=>bP d (b.add 2) λb i k l=>aI d #[(.bool b),(ah i),(.string k),(Sl.v l)] dh λb i=>aT d i j 1 <|aT d i g 1 <|aT d i e 1 <|Ap i dh fY 4 56 f 1 (rd i (some b) (1*4)) λb d=>aiQ K Kp Q a c b d)) Kp) (If (d==1) (NN Q λa=>Ld c a Sl.v λb=>X9 P c (λd e=>aT c e a 1 <|K (d==(b.n:Int)) e) Kp) (If (d==2) (Jp P c (λb c d e f g i j=>aI j cX ck λj k=>cL k j b c d e f g λb=>NN R λc=>Ld b c .bool λc=>If c (If (i==9) (cg b j λa c d e f g=>Fv a c d e f g 0 0 0 bN bN bN b (λa b=>K a b) Kp) (K false b)) (NN R λc=>St b c (.bool true) λb=>bR b a λc d e f g k l=>NN Q λm=>Ld b m Sl.v λn=>(C7 c d e f g k l n b (λb c d e f g _ _ k=>aI k cX ck λl n=>aT k n m 1 <|aT k n a 7 <|cL n l b c d e f g λa=>If (i==0) (cg a j λb c d e f g=>cg a l λi j k l m n=>Fv b c d e f g i j k l m n a (λa b=>K a b) Kp) (K false a)) Kp)/\(aI b cX ck λp q=>aT b q m 1 <|aT b q a 7 <|C7 c d e f g k l n q (λa b c d e f _ _ g=>cL g p a b c d e f λa=>If (i==0) (cg a j λb c d e f g=>cg a p λi j k l m n=>Fv b c d e f g i j k l m n a (λa b=>K a b) Kp) (K false a)) Kp))) Kp) (K true c)))):Ya P V x a b c d A e f y g W B Q R h K Kp:=cJ (aeY K Kp) dz K Tryz.func7 H
theorem aFU{K:bE}(H:gk h V x a b c d A λa b=>bR b a λa c d e f g i=>Fm a c d e f g i b (λa _ _ b=>K (a==0) b) Kp):Jo V x a b c d A h K Kp:=dc dz K Tryz.func8 H
def aeV:=mc aE Tryz.f9 (am [(2003,1806)]) [] DE
def RV:=fK 24 [1,2,8,9,3,10] [.d,.d,.s,tI,.s,tI]
def ahm:=lK aeV 2003 58 RV
theorem aAK{K:E0}:jP (A0:=Sl) (A1:=Int) (ahm K Kp n o A a) (RV n o A a) λb c d e=>(aV (d<a) (Ix A.a A.n 7 d λf=>bR e f λf g i j k l m=>aI e mg gO λe p=>jN p e f g i j k l m λf=>bR f e λe g i j k l m=>OV e g i j k l m f (λe f g i j k l m=>aI m #[(.string e),(.bool f),(ah g),(ah i),(ah j),(ah k),(Sl.v l)] gO λe f=>Ap f gO mg 7 80 c 1 (rd f (some e) (1*7)) λc e=>aP (d+1) λd=>b (RV n o A a c d) e) Kp) (St e ((n.add 2).add 4) (Sl.v c) λa=>bR a n λb c d e f g i=>jN a o b c d e f g i λa=>bR a o λb c d e f g i=>K b c d e f g i a)):=jW
theorem aFO{K:E0}(H:gk h V x a b c d A λa b=>aI b mg gO λb c=>Ld c ((a.add 2).add 4) Sl.v λd=>ahm K Kp a b d (d.n:Int) bN 0 c):OV V x a b c d A h K Kp:=cJ (aeV K Kp) DE K Tryz.func9 H
def L4:=mc aE Tryz.f10 (am [(2000008,26),(4200013,17179869336),(2004,28698)]) [(14,(OT.l [0,2,3,4,1,5,6,7,8] .fin))] Gj
def NH:=jK L4 1 2007 [.d,.s,tI,.b]
def aiI:=jK L4 0 31 [.d,.d,.s]
def RU:=fK 108 [1,3,12,13,4,14] [.d,.d,.s,tI,.s,tI]
def ahl:=lK L4 2004 122 RU
theorem aCy{K:AE}(H:If x (ou h n λa b c d e f g i j k l m n p q r=>aI h #[(ah 0)] Y6 λs t=>azD t a b c d e f g i j k l m n p q r (⟨some s,1,1⟩:Sl) bN λa b=>K (.iface pV (c9 a)) b) (If (a==15) (ou h n λa b c d e f g i j k l m p q r s=>Ix A.a A.n 1 0 λt=>Ld h t id λu=>aI h #[(ah 0)] Y6 λv w=>aT h w t 1 <|aT h w n 16 <|NA u <|azC w a b c d e f g i j k l m p q r s (⟨some v,1,1⟩:Sl) u λa b=>K (.iface pU (c9 a)) b) (If (a==16) (ou h n λa b c d e f g i j k l m n p q r=>Ix A.a A.n 1 0 λs=>Ld h s id λs=>NA s <|azB h a b c d e f g i j k l m n p q r s λa b=>K (.iface oU (c9 a)) b) (If (a==17) (ou h n λa b c d e f g i j k l m n p q r=>azA h a b c d e f g i j k l m n p q r A λa b=>K (.iface oT (c9 a)) b) (If (a==18) (ou h n λa b c d e f g i j k l m n p q r=>azz h a b c d e f g i j k l m n p q r bN bN A λa b=>K (.iface qC (c9 a)) b) (If (a==19) (ou h n λa b c d e f g i j k l m p q r s=>Ix A.a A.n 1 0 λt=>Ld h t id λu=>E8 h λv w=>aT h w t 1 <|aT h w n 16 <|NA u <|azy w a b c d e f g i j k l m p q r s bN u bN (some v) λa b=>K (.iface qB (c9 a)) b) (If (a==20) (ou h n λa b c d e f g i j k l m n p q r=>Ix A.a A.n 1 0 λs=>Ld h s id λs=>NA s <|azx h a b c d e f g i j k l m n p q r bN s false 0 (bs []) bN λa b=>K (.iface pT (c9 a)) b) (ou h n λa b c d e f g i j k l m n p q r=>azw h a b c d e f g i j k l m n p q r bN bN λa b=>K (.iface pS (c9 a)) b)))))))):NH K Kp n A a x h:=jf H
theorem aCz{K:AE}(H:Ld h (n.add 2) mI λa=>If (a==1) (ou h o λa b c d e f g i j k l m n p q r=>azE h a b c d e f g i j k l m n p q r λa b=>K (.iface pW (c9 a)) b) (If (a==12) (NH K Kp o A a true h) (NH K Kp o A a (a==13) h))):aiI K Kp n o A h:=jf H
theorem aAJ{K:AE}:jP (A0:=Sl) (A1:=Int) (ahl K Kp n o A a) (RU n o A a) λb c d e=>(aV (d<a) (Ix A.a A.n 7 d λf=>bR e f λf g i j k l m=>aI e mg gO λe p=>jN p e f g i j k l m λf=>bR f e λe g i j k l m=>OU e g i j k l m f (λe f=>NA e <|aI f #[e] II λe f=>Ap f II #[(.nilIface)] 1 16 c 1 (rd f (some e) (1*1)) λc e=>aP (d+1) λd=>b (RU n o A a c d) e) Kp) (aiI K Kp n o c e)):=jW
theorem aFN{K:AE}(H:gk h V x a b c d A λa b=>bR b a λc d e f g i j=>X4 c d e f g i j b (λb c d e f g i j k l m n p q r s t=>aI t Pf MM λt u=>rH u t b c d e f g i j k l m n p q r s λb=>Ld b ((a.add 2).add 4) Sl.v λc=>ahl K Kp a t c (c.n:Int) bN 0 b) Kp):OU V x a b c d A h K Kp:=cJ (L4 K Kp) Gj K Tryz.func10 H
def UB:=mc aE Tryz.f11 (am [(2000011,144),(2005,58720400)]) [] Gg
def aiT:=jK UB 0 31 [.d,.p]
def R1:=fK 45 [4,7,23,24,25] [.d,.p,.s,tI,tI]
def aht:=lK UB 2005 122 R1
theorem aCK{K:EY}(H:Jp P h (λa b c d e f _ g=>aI g cX ck λg i=>cL i g a b c d e f λa=>cg a g λb c d e f g=>cL a n b c d e f g λa=>cg a n λb c d e f g=>K b c d e f g 0 0 a) Kp):aiT K Kp n P h:=jf H
theorem aAR{K:EY}:eZ (A0:=Int) (aht K Kp n P A a) (R1 n P A a) λb c d=>(aV (c<a) (Ix A.a A.n 4 c λe=>bP d e λe f g i=>aI d fY dh λd j=>dL j d e f g i λe=>bP e d λd f g i=>Jq P d f g i e (λd e=>If (d !=0) (cL e n 0 0 0 bN bN bN λa=>cg a n λb e f g i j=>K b e f g i j d c a) (aP (c+1) λc=>b (R1 n P A a c) e)) Kp) (aiT K Kp n P d)):=fc
theorem aF1{K:EY}(H:gk h V x a b c d A λa b=>aI b cX ck λb c=>bR c a λa d e f g i j=>Fu a d e f g i j c (λa c d=>If (c !=0) (cL d b 0 0 0 bN bN bN λa=>cg a b λb d e f g i=>K b d e f g i c 0 a) (aht K Kp b a B (B.n:Int) 0 d)) Kp):AT V x a b c d A B h K Kp:=cJ (UB K Kp) Gg K Tryz.func11 H
theorem aFY{K:bE}(H:gk h V x a b c d A λa b=>oo b e f g B C D λb c=>bR c a λa d e f g i j=>cg c b λk l m n p q=>Yc a d e f g i j k l m n p q c (λa c d e f g i j=>aI j cX ck λj k=>cL k j a c d e f g λa=>If (i==0) (cg a j λc d e f g i=>cg a b λb j k l m n=>OY c d e f g i b j k l m n a (λa b=>K a b) Kp) (K false a)) Kp):Yb V x a b c d A e f g B C D h K Kp:=dc dz K Tryz.func12 H
theorem aD3{K:iY}(H:gk h V x a b c d A λa b=>aI b kN kI λb c=>bR c a λa d e f g i j=>aI c #[(.string a),(.bool d),(ah e),(ah f),(ah g),(ah i),(Sl.v j)] gO λa c=>YS (⟨some a,1,1⟩:Sl) bN c (λa c d e=>aI e kN kI λe f=>dZ f e a c d λa=>Ld a (e.add 1) Sl.v λc=>aV ((c.n:Int)>0) (Ld a (e.add 1) Sl.v λc=>jo c 1 (some 1) none none λc=>St a (e.add 1) (Sl.v c) λa=>eO a e λc d e=>dZ a b c d e λa=>eO a b λb c d=>K b c d a) (eO a e λc d e=>dZ a b c d e λa=>eO a b λb c d=>K b c d a)) Kp):Oi V x a b c d A h K Kp:=dc n5 K Tryz.func13 H
theorem ajZ{K:bU}(H:iP h x a V A λa b=>NN P λc=>Ld b (c.add 8) .bool λc=>If c (K 9 b) (NN P λc=>bR b c λc d e f g i j=>bP b a λk l m n=>X7 c d e f g i j k l m n b (λb c=>If (b !=0) (K b c) (bP c a λa b d e=>X6 P a b d e c (λa b=>K a b) Kp)) Kp)):Jq P x a V A h K Kp:=dc dr K Tryz.func14 H
def aeZ:=mc aE Tryz.f15 (am [(2005,402)]) [] Gg
def R0:=fK 35 [1,4,7,8] [.s,.d,.p,tI]
def ahr:=lK aeZ 2005 122 R0
theorem aAP{K:EY}:eZ (A0:=Int) (ahr K Kp A n P) (R0 A n P) λa b c=>(aV (b<(A.n:Int)) (Ix A.a A.n 4 b λd=>bP c d λd e f g=>X8 P d e f g c (λc d=>If (c !=0) (cL d n 0 0 0 bN bN bN λa=>cg a n λd e f g i j=>K d e f g i j c b a) (aP (b+1) λb=>a (R0 A n P b) d)) Kp) (OW P c (λa b c d e f g=>cL g n a b c d e f λa=>cg a n λb c d e f g=>K b c d e f g 0 0 a) Kp)):=fc
theorem aj1{K:EY}(H:gk h V x a b c d A λa b=>aI b cX ck λb c=>bR c a λd e f g i j k=>Om d e f g i j k c (λc d=>If (!c) (cL d b 0 0 0 bN bN bN λa=>cg a b λb c d e f g=>K b c d e f g 5 0 a) (bR d a λa c e f g i j=>OX a c e f g i j d (λa c=>ahr K Kp B b a 0 c) Kp)) Kp):C7 V x a b c d A B h K Kp:=cJ (aeZ K Kp) Gg K Tryz.func15 H
theorem aFW{K:bU}(H:NN P λa=>Ld h (a.add 7) id λa=>fD aE a "colonnade/build.count" [] h (λa b=>∃c:Int,a=(ah c)/\(K c b)) Kp):X9 P h K Kp:=dc dr K Tryz.func16 H
theorem ajY{K:V0}(H:aI h cX ck λa b=>NN P λc=>Ld b (c.add 8) .bool λc=>If c (cL b a 0 0 0 bN bN bN λb=>cg b a λa c d e f g=>K a c d e f g 9 b) (NN P λc=>St b (c.add 8) (.bool true) λb=>NN P λc=>Ld b (c.add 7) id λc=>fD aE c "colonnade/build.done" [] b (λb c=>∃d:Int,∃e:Int,∃f:Int,∃g:Sl,∃i:Sl,∃j:Sl,b=(.agg #[(ah d),(ah e),(ah f),(Sl.v g),(Sl.v i),(Sl.v j)])/\(cL c a d e f g i j λb=>cg b a λa c d e f g=>K a c d e f g 0 b)) Kp)):Jp P h K Kp:=dc Qq K Tryz.func17 H
def Ew:=mc aE Tryz.f18 (am [(2000003,12),(2000008,12),(2004,44),(41012,131084),(41019,16777228)]) [(6,(OT.l [0,1,2,3,4,6,7,8,9,10] (.alt (OT.l [5,11,12] .fin) (OT.l [11,5,12] .fin))))] dz
def aiR:=jK Ew 1 15 [.d,.d]
def Gv:=fK 66 [2,3,5] [.d,.d,tI]
def ahs:=lK Ew 2004 58 Gv
def aiS:=jK Ew 0 7 [.d,.d]
def WT:=rK Ew 4 12 [.d,.d,.b]
def WU:=rK Ew 3 12 [.d,.d,.b]
theorem aCI{K:bE}(H:Ld h (n.add 4) Sl.v λa=>Ld h (o.add 4) Sl.v λb=>OZ a b h (λa b=>If a (Ld b (n.add 5) Sl.v λa=>Ld b (o.add 5) Sl.v λc=>OZ a c b (λa b=>K a b) Kp) (K false b)) Kp):aiR K Kp n o h:=jf H
theorem aAQ{K:bE}:eZ (A0:=Int) (ahs K Kp n o) (Gv n o) λa b c=>(Ld c (n.add 3) Sl.v λd=>aV (b<(d.n:Int)) (Ld c (n.add 3) Sl.v λd=>Ix d.a d.n 1 b λd=>Ld c d Sl.v λe=>Ld c (o.add 3) Sl.v λf=>Ix f.a f.n 1 b λf=>Ld c f Sl.v λg=>(sL c e λe=>aT c c f 1 <|aT c c (o.add 3) 1 <|sL c g λf=>aT c c d 1 <|aT c c (n.add 3) 1 <|If (!(e.toList==f.toList)) (K false c) (aP (b+1) λb=>a (Gv n o b) c))/\(sL c g λg=>aT c c d 1 <|aT c c (n.add 3) 1 <|sL c e λd=>aT c c f 1 <|aT c c (o.add 3) 1 <|If (!(d.toList==g.toList)) (K false c) (aP (b+1) λb=>a (Gv n o b) c))) (aiR K Kp n o c)):=fc
theorem aCJ{K:bE}(H:ahs K Kp n o 0 h):aiS K Kp n o h:=jf H
theorem aCG{K:bE}(H:If x (K false h) (Ld h (n.add 3) Sl.v λa=>Ld h (o.add 3) Sl.v λb=>If ((a.n:Int)!=(b.n:Int)) (K false h) (aiS K Kp n o h))):WT K Kp n o x h:=jf H
theorem aCH{K:bE}(H:If x (WT K Kp n o true h) (Ld h (n.add 2) mI λa=>Ld h (o.add 2) mI λb=>WT K Kp n o (a !=b) h)):WU K Kp n o x h:=jf H
theorem aF0{K:bE}(H:oo h a b c A B C λa b=>oo b d e f D E F λb c=>Ld c a mI λd=>Ld c b mI λe=>If (d !=e) (WU K Kp a b true c) (Ld c (a.add 1) mI λd=>Ld c (b.add 1) mI λe=>WU K Kp a b (d !=e) c)):Fv a b c A B C d e f D E F h K Kp:=cJ (Ew K Kp) dz K Tryz.func18 H
theorem aD2{K:iY}(H:gk h V x a b c d A λa b=>aI b kN kI λb c=>bR c a λa d e f g i j=>aI c #[(.string a),(.bool d),(ah e),(ah f),(ah g),(ah i),(Sl.v j)] gO λa c=>YQ (⟨some a,1,1⟩:Sl) bN c (λa c d e=>aI e kN kI λe f=>dZ f e a c d λa=>Ld a (e.add 1) Sl.v λc=>aV ((c.n:Int)>0) (Ld a (e.add 1) Sl.v λc=>jo c 1 (some 1) none none λc=>St a (e.add 1) (Sl.v c) λa=>eO a e λc d e=>dZ a b c d e λa=>eO a b λb c d=>K b c d a) (eO a e λc d e=>dZ a b c d e λa=>eO a b λb c d=>K b c d a)) Kp):Fm V x a b c d A h K Kp:=dc n5 K Tryz.func19 H
theorem aFE{K:TR8}(H:gk h V x a b c d A λa b=>aI b Pf MM λb c=>bR c a λd e f g i j k=>X2 d e f g i j k c (λc d e f g i=>aI i fY dh λi j=>dL j i c d e f λc=>bR c a λa d e f j k l=>bP c i λi m n p=>rH c b a d e f j k l 0 0 bN 0 i m n p (g==0) λa=>ou a b λb c d e f g i j k l m n p q r s=>K b c d e f g i j k l m n p q r s a) Kp):X4 V x a b c d A h K Kp:=dc qR8 K Tryz.func20 H
theorem aFZ{K:V0}(H:gk h V x a b c d A λa b=>oo b e f g B C D λb c=>aI c cX ck λc d=>bR d a λe f g i j k l=>Jo e f g i j k l d (λd e=>If (!d) (cL e c 0 0 0 bN bN bN λa=>cg a c λb c d e f g=>K b c d e f g 5 a) (bR e a λd f g i j k l=>cg e b λb m n p q r=>YT d f g i j k l b m n p q r e (λb d e f g=>aI g kN kI λg i=>dZ i g d e f λd=>Ld d g mI λe=>If (e !=0) (Ld d g mI λa=>cL d c 0 0 0 bN bN bN λb=>aT d b g 1 <|cg b c λc d e f g i=>K c d e f g i a b) (bR d a λe f g i j k l=>(O2 b d (λb m=>aT d m a 7 <|(AT e f g i j k l b m (λb d e f g i j _ k=>aI k cX ck λl m=>aT k m a 7 <|cL m l b d e f g i λa=>cg a l λb d e f g i=>cL a c b d e f g i λa=>cg a c λb c d e f g=>K b c d e f g j a) Kp)/\(aI m cX ck λd n=>aT m n a 7 <|AT e f g i j k l b n (λa b e f g i j _ k=>cL k d a b e f g i λa=>cg a d λb d e f g i=>cL a c b d e f g i λa=>cg a c λb c d e f g=>K b c d e f g j a) Kp)) Kp)/\(aI d cX ck λm n=>aT d n a 7 <|O2 b n (λb d=>aT n d a 7 <|AT e f g i j k l b d (λa b d e f g i _ j=>cL j m a b d e f g λa=>cg a m λb d e f g j=>cL a c b d e f g j λa=>cg a c λb c d e f g=>K b c d e f g i a) Kp) Kp))) Kp)) Kp):Yc V x a b c d A e f g B C D h K Kp:=Ef [] [(6,(OT.l [0,1] (.alt (OT.l [2] (.alt (OT.l (List.range' 3 9) .fin) (OT.l [8,3,4,5,6,7,9,10,11] .fin))) (OT.l [8,2,3,4,5,6,7,9,10,11] .fin))))] Qq K Tryz.func21 H
def H9:=mc aE Tryz.f22 (am [(41012,65548),(41019,8388620),(41026,1073741836),(41033,137438953484)]) [] dz
def NL:=rK H9 3 6 [.d,.d,.b]
def NM:=rK H9 2 6 [.d,.d,.b]
def NO:=rK H9 1 6 [.d,.d,.b]
def NP:=rK H9 0 6 [.d,.d,.b]
theorem aiM{K:bE}(H:If x (Ld h (n.add 5) Sl.v λa=>Ld h (o.add 5) Sl.v λb=>On a b (.func (.func 22) #[] #[]) h (λa b=>K a b) Kp) (K false h)):NL K Kp n o x h:=jf H
theorem aiN{K:bE}(H:If x (Ld h (n.add 4) Sl.v λa=>Ld h (o.add 4) Sl.v λb=>On a b (.func (.func 22) #[] #[]) h (λa b=>NL K Kp n o a b) Kp) (NL K Kp n o false h)):NM K Kp n o x h:=jf H
theorem aiO{K:bE}(H:If x (Ld h (n.add 3) Sl.v λa=>Ld h (o.add 3) Sl.v λb=>XI a b (.func (.func 35) #[] #[]) h (λa b=>NM K Kp n o a b) Kp) (NM K Kp n o false h)):NO K Kp n o x h:=jf H
theorem aiP{K:bE}(H:If x (Ld h (n.add 2) mI λa=>Ld h (o.add 2) mI λb=>NO K Kp n o (a==b) h) (NO K Kp n o false h)):NP K Kp n o x h:=jf H
theorem aFT{K:bE}(H:oo h a b c A B C λa b=>oo b d e f D E F λb c=>Ld c a mI λd=>Ld c b mI λe=>If (d==e) (Ld c (a.add 1) mI λd=>Ld c (b.add 1) mI λe=>NP K Kp a b (d==e) c) (NP K Kp a b false c)):OY a b c A B C d e f D E F h K Kp:=cJ (H9 K Kp) dz K Tryz.func22 H
def Ma:=mc aE Tryz.f23 (am [(2000011,6),(2013,26388279066660),(2006,3670022)]) [] n5
def Sg:=fK 61 [2,5,43,44] [.d,.s,tI,tI]
def ahP:=lK Ma 2013 506 Sg
def ajm:=jK Ma 0 31 [.d,.d]
def Sf:=fK 61 [1,2,19,20,21] [.d,.d,.s,tI,tI]
def ahO:=lK Ma 2006 122 Sf
theorem aBj{K:iY}:eZ (A0:=Int) (ahP K Kp n A a) (Sg n A a) λb c d=>(aV (c<a) (YI A c d (λd e=>If (d !=0) (Ix A.a A.n 10 c λa=>Ld e a Sl.v λa=>dZ e n d a 0 λa=>eO a n λb c d=>K b c d a) (aP (c+1) λc=>b (Sg n A a c) e)) Kp) (dZ d n 0 bN 0 λa=>eO a n λb c d=>K b c d a)):=fc
theorem aDM{K:iY}(H:Ld h n Sl.v λa=>Fw a bN false bN h (λa b=>ahP K Kp o a (a.n:Int) 0 b) Kp):ajm K Kp n o h:=jf H
theorem aBi{K:iY}:eZ (A0:=Int) (ahO K Kp n o A a) (Sf n o A a) λb c d=>(aV (c<a) (Ix A.a A.n 2 c λe=>Ld d e .string λf=>Ld d (e.add 1) .string λe=>aI d #[(.string (bs [])),(.string (bs []))] af3 λd g=>St g d (.string f) λf=>St f (d.add 1) (.string e) λe=>Ld e d .string λf=>aV ((f.size:Int)>256) (dZ e o 37 bN c λa=>eO a o λb c d=>K b c d a) (Ld e (d.add 1) .string λd=>aV ((d.size:Int)>256) (dZ e o 37 bN c λa=>eO a o λb c d=>K b c d a) (aP (c+1) λc=>b (Sf n o A a c) e))) (ajm K Kp n o d)):=fc
theorem aG3{K:iY}(H:aI h #[(Sl.v A),(Sl.v B)] aga λa b=>aI b kN kI λb c=>Ld c a Sl.v λd=>aV ((d.n:Int)>32) (dZ c b 34 bN 32 λa=>eO a b λb c d=>K b c d a) (Ld c (a.add 1) Sl.v λd=>aV ((d.n:Int)>16) (dZ c b 34 bN 16 λa=>eO a b λb c d=>K b c d a) (Ld c (a.add 1) Sl.v λd=>ahO K Kp a b d (d.n:Int) 0 c))):YS A B h K Kp:=cJ (Ma K Kp) n5 K Tryz.func23 H
theorem aFM{K:bU}(H:gk h V x a b c d A λa b=>iP b y e W B λb c=>bR c a λd e f g i j k=>Jl d e f g i j k c (λc d=>If (!c) (K 5 d) (bR d a λa c e f g i j=>bP d b λb k l m=>X3 a c e f g i j b k l m d (λa b=>If (!a) (K 7 b) (K 0 b)) Kp)) Kp):X7 V x a b c d A y e W B h K Kp:=dc dr K Tryz.func24 H
def H8:=mc aE Tryz.f26 (am [(2000007,24),(3809999,35184372088840),(47008,1099511627800),(2004,56)]) [] Kl
def NK:=jK H8 1 125 [.d,.b]
def WS:=rK H8 2 124 [.d,.d,.b]
def aiL:=jK H8 0 31 [.d,.d]
def RX:=fK 56 [3,4,5] [.d,.d,tI]
def aho:=lK H8 2004 122 RX
theorem aCD{K:CP}(H:If x (Ld h (n.add 13) Sl.v λa=>aI h #[(ah 0)] Y6 λb c=>Ap c Y6 #[(ah 0)] 1 8 a 1 (rd c (some b) (1*1)) λa b=>St b (n.add 13) (Sl.v a) λa=>K (some n) a) (K (some n) h)):NK K Kp n x h:=jf H
theorem aiK{K:CP}(H:If x (NK K Kp n true h) (Ld h o mI λa=>NK K Kp n (a==15) h)):WS K Kp n o x h:=jf H
theorem aCE{K:CP}(H:Ld h o mI λa=>If (a==12) (WS K Kp n o true h) (Ld h o mI λa=>WS K Kp n o (a==13) h)):aiL K Kp n o h:=jf H
theorem aAM{K:CP}:eZ (A0:=Int) (aho K Kp n o) (RX n o) λa b c=>(Ld c (o.add 4) Sl.v λd=>aV (b<(d.n:Int)) (Ld c (n.add 18) Sl.v λd=>Ld c (o.add 4) Sl.v λe=>Ix e.a e.n 7 b λe=>bR c e λe f g i j k l=>OX e f g i j k l c (λe f=>aT c f (n.add 18) 1 <|aI f #[(.pointer e)] EX λc e=>aT f e (n.add 18) 1 <|Ap e EX #[(.pointer none)] 1 8 d 1 (rd e (some c) (1*1)) λc d=>St d (n.add 18) (Sl.v c) λc=>aP (b+1) λb=>a (RX n o b) c) Kp) (aiL K Kp n o c)):=fc
theorem aFR{K:CP}(H:gk h V x a b c d A λa b=>bR b a λc d e f g i j=>azF b c d e f g i j 0 0 0 bN bN bN bN bN bN bN bN bN λb c=>iq c (a.add 2) λa d e f g=>aI c pn kJ λc i=>mb i c a d e f g λa=>aho K Kp b c 0 a):OX V x a b c d A h K Kp:=cJ (H8 K Kp) Kl K Tryz.func26 H
theorem aFQ{K:bU}(H:iP h x a V A λa b=>NN P λc=>bR b c λc d e f g i j=>bP b a λk l m n=>X5 c d e f g i j k l m n b (λb c=>If (!b) (K 7 c) (bP c a λa b d e=>uo P a b d e c (λa b=>K a b) Kp)) Kp):X8 P x a V A h K Kp:=dc dr K Tryz.func27 H
def Ev:=mc aE Tryz.f28 (am [(2000006,61),(2000011,125),(4900021,4835703854919269002248317),(5600028,5192296858534828204991248632643709),(2008,253)]) [(20,(OT.l [0,1,2,3,4,6,7,8,9,10,5,11,12,13,14] .fin)),(30,(OT.l [0,1,2,3,4,6,7,8,9,5,10,11,12,13] .fin)),(36,(OT.l [0,1,2,3,4,6,7,8,9] (.alt (OT.l [5] (.alt (OT.l [10] (.alt (OT.l [11,12,13,14] .fin) (OT.l [13,11,12,14] .fin))) (OT.l [13,10,11,12,14] .fin))) (OT.l [] (.alt (OT.l [10] (.alt (OT.l [5] (.alt (OT.l [11,12,13,14] .fin) (OT.l [13,11,12,14] .fin))) (OT.l [13,5,11,12,14] .fin))) (OT.l [13] (.alt (OT.l [5,10,11,12,14] .fin) (OT.l [10,5,11,12,14] .fin))))))))] mq
def Fk:=jK Ev 3 1046015 [.p,.d,.d,.d,.s,.s,tI,.b]
def NI:=jK Ev 2 65375 [.p,.d,.d,.d,.s,.s,tI,.b]
def NJ:=jK Ev 1 255 [.p,.d,.d,.d,.s,.s]
def RW:=fK 175 [0,2,3,4,5,6,7] [.p,.d,.d,.d,.s,.s,tI]
def ahn:=lK Ev 2008 1018 RW
def I4:=jK Ev 0 63 [.p,.d,.d,.d,.s]
def qF(n p:Addr)(B:Sl)(K:jJ)(x:Int)(h:Hp)(f c:Addr):Prop:=
 cL h f x 0 0 (⟨some c,2,2⟩:Sl) bN bN λa=>cg a f λb c d e f g=>Ix B.a B.n 6 0 λi=>cg a i λi j k l m q=>aI a #[(ah b),(ah c),(ah d),(Sl.v e),(Sl.v f),(Sl.v g),(ah i),(ah j),(ah k),(Sl.v l),(Sl.v m),(Sl.v q)] ck λa b=>St b (p.add 4) (.slice (some a) 2 2) λa=>cg a p λb c d e f g=>cL a n b c d e f g λa=>cg a n λb c d e f g=>K b c d e f g a
theorem aiJ{K:jJ}(H:If x (aI h #[(Sl.v A)] fQ λa b=>St b (p.add 3) (.slice (some a) 1 1) λa=>St a (p.add 4) (Sl.v B) λa=>cg a p λb c d e f g=>cL a n b c d e f g λa=>cg a n λb c d e f g=>K b c d e f g a) (If (a==18) (aI h #[] Y8 λa b=>NN P λc=>Ld b (c.add 11) Sl.v λc=>NN P λd=>Ld b (d.add 13) Sl.v λe=>Ap b Y8 #[(.int .u8 0)] 1 1 (⟨some a,0,0⟩:Sl) c.n (rd b c.a (c.n*1)) λa c=>aT b c (d.add 13) 1 <|sJ e 4 c (λb c=>aI c #[(Sl.v a),(Sl.v b)] fQ λa b=>St b (p.add 3) (.slice (some a) 2 2) λa=>St a (p.add 4) (Sl.v B) λa=>cg a p λb c d e f g=>cL a n b c d e f g λa=>cg a n λb c d e f g=>K b c d e f g a) Kp) (If (a==19) (NN P λa=>Ld h (a.add 15) Sl.v λb=>Ld h (o.add 3) mI λc=>Jm c h (λc d=>aT h d (a.add 15) 1 <|sJ b c d (λa b=>aI b #[(Sl.v A),(Sl.v a)] fQ λa b=>St b (p.add 3) (.slice (some a) 2 2) λa=>St a (p.add 5) (Sl.v B) λa=>cg a p λb c d e f g=>cL a n b c d e f g λa=>cg a n λb c d e f g=>K b c d e f g a) Kp) Kp) (If (a==20) (NN P λa=>Ld h (a.add 16) Sl.v λb=>NN P λc=>Ld h (c.add 16) Sl.v λd=>(aI h #[] Y8 λe f=>aT h f (c.add 16) 1 <|aT h f (a.add 16) 1 <|(sJ d 4 f (λd g=>aT f g (a.add 16) 1 <|(aI g #[(.slice (some e) 0 0),(Sl.v d)] fQ λd e=>aT g e (a.add 16) 1 <|aI e cX ck λf g=>aT e g (c.add 16) 1 <|aT e g (a.add 16) 1 <|qF n p B K (b.n:Int) g f d)/\(aI g cX ck λf i=>aT g i (c.add 16) 1 <|aT g i (a.add 16) 1 <|aI i #[(.slice (some e) 0 0),(Sl.v d)] fQ λc d=>aT i d (a.add 16) 1 <|qF n p B K (b.n:Int) d f c)) Kp)/\(aI f cX ck λg i=>aT f i (c.add 16) 1 <|aT f i (a.add 16) 1 <|sJ d 4 i (λc d=>aT i d (a.add 16) 1 <|aI d #[(.slice (some e) 0 0),(Sl.v c)] fQ λc e=>aT d e (a.add 16) 1 <|qF n p B K (b.n:Int) e g c) Kp))/\((sJ d 4 h (λd e=>aT h e (a.add 16) 1 <|(aI e #[] Y8 λf g=>aT e g (c.add 16) 1 <|aT e g (a.add 16) 1 <|(aI g #[(.slice (some f) 0 0),(Sl.v d)] fQ λd e=>aT g e (a.add 16) 1 <|aI e cX ck λf g=>aT e g (c.add 16) 1 <|aT e g (a.add 16) 1 <|qF n p B K (b.n:Int) g f d)/\(aI g cX ck λe i=>aT g i (c.add 16) 1 <|aT g i (a.add 16) 1 <|aI i #[(.slice (some f) 0 0),(Sl.v d)] fQ λc d=>aT i d (a.add 16) 1 <|qF n p B K (b.n:Int) d e c))/\(aI e cX ck λf g=>aT e g (c.add 16) 1 <|aT e g (a.add 16) 1 <|aI g #[] Y8 λe i=>aT g i (c.add 16) 1 <|aT g i (a.add 16) 1 <|aI i #[(.slice (some e) 0 0),(Sl.v d)] fQ λc d=>aT i d (a.add 16) 1 <|qF n p B K (b.n:Int) d f c)) Kp)/\(aI h cX ck λe f=>aT h f (c.add 16) 1 <|aT h f (a.add 16) 1 <|(aI f #[] Y8 λg i=>aT f i (c.add 16) 1 <|aT f i (a.add 16) 1 <|sJ d 4 i (λc d=>aT i d (a.add 16) 1 <|aI d #[(.slice (some g) 0 0),(Sl.v c)] fQ λc f=>aT d f (a.add 16) 1 <|qF n p B K (b.n:Int) f e c) Kp)/\(sJ d 4 f (λd g=>aT f g (a.add 16) 1 <|aI g #[] Y8 λf i=>aT g i (c.add 16) 1 <|aT g i (a.add 16) 1 <|aI i #[(.slice (some f) 0 0),(Sl.v d)] fQ λc d=>aT i d (a.add 16) 1 <|qF n p B K (b.n:Int) d e c) Kp)))) (aI h #[] Y8 λa b=>NN P λc=>Ld b (c.add 12) Sl.v λc=>Ap b Y8 #[(.int .u8 0)] 1 1 (⟨some a,0,0⟩:Sl) c.n (rd b c.a (c.n*1)) λa b=>aI b #[(Sl.v A),(Sl.v a)] fQ λa b=>St b (p.add 3) (.slice (some a) 2 2) λa=>cg a p λb c d e f g=>cL a n b c d e f g λa=>cg a n λb c d e f g=>K b c d e f g a))))):Fk K Kp P n o p A B a x h:=jf H
theorem aCA{K:jJ}(H:If x (aI h #[] Y8 λa b=>NN P λc=>Ld b (c.add 13) Sl.v λc=>NN P λd=>Ld b (d.add 14) Sl.v λe=>sJ c 4 b (λc f=>aT b f (d.add 14) 1 <|Ap f Y8 #[(.int .u8 0)] 1 1 (⟨some a,0,0⟩:Sl) e.n (rd f e.a (e.n*1)) λa b=>aI b #[(Sl.v A),(Sl.v c),(Sl.v a)] fQ λa b=>St b (p.add 3) (.slice (some a) 3 3) λa=>cg a p λb c d e f g=>cL a n b c d e f g λa=>cg a n λb c d e f g=>K b c d e f g a) Kp) (If (a==15) (NN P λa=>Ld h (a.add 13) Sl.v λa=>sJ a 4 h (λa b=>aI b #[(Sl.v A),(Sl.v a)] fQ λa b=>St b (p.add 3) (.slice (some a) 2 2) λa=>St a (p.add 4) (Sl.v B) λa=>cg a p λb c d e f g=>cL a n b c d e f g λa=>cg a n λb c d e f g=>K b c d e f g a) Kp) (If (a==16) (Fk K Kp P n o p A B a (a==16) h) (Fk K Kp P n o p A B a (a==17) h)))):NI K Kp P n o p A B a x h:=jf H
theorem aCB{K:jJ}(H:Ld h o mI λa=>If (a==1) (cg h p λa b c d e f=>cL h n a b c d e f λa=>cg a n λb c d e f g=>K b c d e f g a) (If (a==2) (NN P λa=>Ld h (a.add 12) Sl.v λa=>OS a h (λa b=>aI b #[(Sl.v A),(Sl.v a)] fQ λa b=>St b (p.add 3) (.slice (some a) 2 2) λa=>cg a p λb c d e f g=>cL a n b c d e f g λa=>cg a n λb c d e f g=>K b c d e f g a) Kp) (If (a==12) (NI K Kp P n o p A B a (a==12) h) (NI K Kp P n o p A B a (a==13) h)))):NJ K Kp P n o p A B h:=jf H
theorem aAL{K:jJ}:jP (A0:=Sl) (A1:=Int) (ahn K Kp P n o p A) (RW P n o p A) λa b c d=>(NN P λe=>Ld d (e.add 18) Sl.v λe=>aV (c<(e.n:Int)) (NN P λe=>Ld d (e.add 18) Sl.v λe=>Ix e.a e.n 1 c λe=>Ld d e .pointer λe=>OW e d (λd e f g i j k=>aI k #[(ah d),(ah e),(ah f),(Sl.v g),(Sl.v i),(Sl.v j)] ck λd e=>Ap e ck cX 6 96 b 1 (rd e (some d) (1*6)) λb d=>aP (c+1) λc=>a (RW P n o p A b c) d) Kp) (NJ K Kp P n o p A b d)):=jW
theorem aCC{K:jJ}(H:aI h #[] ck λa b=>ahn K Kp P n o p A (⟨some a,0,0⟩:Sl) 0 b):I4 K Kp P n o p A h:=jf H
theorem aFP{K:jJ}(H:aI h cX ck λa b=>NN P λc=>iq b (c.add 2) λc d e f g=>aI b pn kJ λb i=>mb i b c d e f g λc=>NN P λd=>Ld c (d.add 7) mI λe=>NN P λf=>Ld c (f.add 8) mI λg=>aI c cX ck λi j=>aT c j (f.add 8) 1 <|aT c j (d.add 7) 1 <|cL j i e 0 g bN bN bN λc=>aI c #[] Y8 λc d=>NN P λe=>Ld d (e.add 8) mI λe=>aV (e>0) (NN P λc=>Ld d (c.add 10) Sl.v λc=>OS c d (λc d=>I4 K Kp P a b i c d) Kp) (I4 K Kp P a b i (⟨some c,0,0⟩:Sl) d)):OW P h K Kp:=cJ (Ev K Kp) mq K Tryz.func28 H
def aeX:=mc aE Tryz.f29 (am [(2004,35)]) [] dz
def RZ:=fK 27 [0,1,5] [.s,.s,tI]
def ahq:=lK aeX 2004 58 RZ
theorem aAO{K:bE}:eZ (A0:=Int) (ahq K Kp A B) (RZ A B) λa b c=>(aV (b<(A.n:Int)) (Ix A.a A.n 6 b λd=>cg c d λd e f g i j=>Ix B.a B.n 6 b λk=>cg c k λk l m n p q=>Fv d e f g i j k l m n p q c (λc d=>If (!c) (K false d) (aP (b+1) λb=>a (RZ A B b) d)) Kp) (K true c)):=fc
theorem aFV{K:bE}(H:If ((A.n:Int)!=(B.n:Int)) (K false h) (ahq K Kp A B 0 h)):OZ A B h K Kp:=cJ (aeX K Kp) dz K Tryz.func29 H
section
def Uo:Code:=Tryz.f30.body.getD .skip
def UT:fX:=(am [(2000005,6),(2000011,6),(4014,35184372088932),(2006,29360134)])
def QV:wQ:=[]
variable(K:iY)(Kp:PK)(lb:Nat)(NB:HP)(XB:Code->HP)
def Ia:=mc aE Tryz.f30 UT QV n5 K Kp
def Wg(x2 x5 x6:Addr)(rN:Value):HP:=aav (Ia K Kp) [1,1,1,1,1,0,1,0] [] (fg [(2,vP x2),(2,vP x5),(0,vP x6),(38,some rN)] 25)
def ajk(x1 x2:Addr):=jQ (Ia K Kp) 1 15 [] [vP x1,vP x2]
abbrev Sd(x1 x2:Addr)(wY:Sl)(za Pp:Int):Fr:=(fg [(1,vP x1),(0,vP x2),(19,vS wY),(0,vI za),(0,vI Pp)] 46)
def ahM(x1 x2:Addr)(wY:Sl)(za Pp:Int):=lQ (Ia K Kp) 2006 58 [] (Sd x1 x2 wY za Pp)
def ajl(x1 x2:Addr):=jQ (Ia K Kp) 0 7 [] [vP x1,vP x2]
variable{K Kp lb NB XB}{x1 x2 x5 x6:Addr}{wY:Sl}{za:Int}{rN:Value}{h:Hp}
def agu(lb:Nat)(NB:HP)(XB:Code->HP)(x2 x5 x6:Addr)(rN:Value)(alb ala:Sl)(ak9:BA)(ak8:Bool)(ak7 ak6 ak5 ak4:Int)(ak3:Sl)(ak2:Bool)(h:Hp):Prop:=
 aI h akV VV λa7 h1=>azn h1 a7 alb ala ak9 ak8 ak7 ak6 ak5 ak4 ak3 ak2 λh2=>YZ lb h h2 λh3=>azU h3 a7 λam7 am6 am5 am4 am3 am2 am1 am0 amZ amY=>Ld h3 x5 mI λt48=>Ld h3 x6 .map λt49=>YG am7 am6 am5 am4 am3 am2 am1 am0 amZ amY t48 t49 h3 (λt50 h4=>If (t50 !=0) (Ld h4 a7 Sl.v λt55=>dZ h4 x2 t50 t55 0 λh5=>XB .ret h5) (Ld h4 x5 mI λt57=>aP (t57+1) λt58=>St h4 x5 (ah t58) λh5=>Ld h5 ((a7.add 2).add 2) mI λt62=>If (t62==19) (Ld h5 x6 .map λt64=>Ld h5 (((a7.add 2).add 2).add 2) mI λt68=>Ld h5 x5 mI λt69=>Up h5 t64 (.int .i64) (ah t68) (ah t69) λh6=>NB h6) (NB h5))) qI
def agw(K:iY)(Kp:PK)(x2 x5 x6:Addr)(rN:Value)(h:Hp):Prop:=
 dZ h x2 0 bN 0 λh1=>eO h1 x2 λvO vM vL=>K vO vM vL h1
def ags(K:iY)(Kp:PK)(x2 x5 x6:Addr)(rN:Value)(h:Hp):Prop:=
 eO h x2 λvO vM vL=>K vO vM vL h
theorem azs{x2 x5 x6:Addr}{rN:Value}{K:iY}{Kp:PK}{h:Hp}{α:Type}{xs:List α}(E:α->Sl->Sl->BA->Bool->Int->Int->Int->Int->Sl->Bool->Prop){qH:Hp->Prop}(tF:Xz aE rN xs (λy args=>∃y0 y1 y2 y3 y4 y5 y6 y7 y8 y9,args=[(.agg #[(Sl.v y0),(Sl.v y1),(.string y2),(.bool y3),(ah y4),(ah y5),(ah y6),(ah y7),(Sl.v y8),(.bool y9)])]/\E y y0 y1 y2 y3 y4 y5 y6 y7 y8 y9) qH)(I:List α->HP)(C3:List α->HP)(h0:I [] h)
 (hG:∀pre h1 h2,az h1 h2->I pre h1->I pre h2) (hI:∀l pre h1 h2,h.size<=l->Tw l h1 h2->I pre h1->I pre h2) (qX:∀pre h1,I pre h1->qH h1) (auE:∀pre h1 h2,az h1 h2->C3 pre h1->C3 pre h2) (auD:∀l pre h1 h2,h.size<=l->Tw l h1 h2->C3 pre h1->C3 pre h2)
 (BN:∀l pre y gq h1 y0 y1 y2 y3 y4 y5 y6 y7 y8 y9,E y y0 y1 y2 y3 y4 y5 y6 y7 y8 y9->xs=pre++y::gq->h.size<=l->(∃r,h1[l]? =some (.loop r))->I pre h1->∀(N:Hp->Prop)(X:Code->HP),(∀h' h2,Tw l h1 h'->h2[l]? =h'[l]?->Tn (λc=>c<=l) h1 h2->I (pre++[y]) h2->N h2)->(∀h' h2,Tw l h1 h'->h2[l]? =h'[l]?->Tn (λc=>c<=l) h1 h2->C3 (pre++[y]) h2->X .ret h2)->agu l N X x2 x5 x6 rN y0 y1 y2 y3 y4 y5 y6 y7 y8 y9 h1)
 (done:∀h2,I xs h2->agw K Kp x2 x5 x6 rN h2) (anq:∀pre gq h2,xs=pre++gq->C3 pre h2->ags K Kp x2 x5 x6 rN h2):Wg K Kp x2 x5 x6 rN h:=
 Eq.mp (by kernel_rfl) (apK (P:=aE) (bY:=UT) (D:=(kT aE QV)) (λ_=>zZ _) (rd:=none) (g:=.tmp 45) (ps:=#[46]) (assign:=sub [1,1,1,1,1,0,1,0,0] Uo) (body:=sub [1,1,1,1,1,0,1,0,1] Uo) (Q:=tH aE UT (kT aE QV) none Kp [1,1,1,1,1,0,1,0] Uo [] (mO aE Tryz.f30.results.toList (zQ n5) (kQ n5 K))) (Kp:=Kp) (fr:=(fg [(2,vP x2),(2,vP x5),(0,vP x6),(38,some rN)] 25)) (h:=h) (fv:=rN) (by kernel_rfl)
 tF (λ_ _ ea=>by obtain⟨_,_,_,_,_,_,_,_,_,_,rfl,_⟩:=ea;rfl) trivial I (λc=>match c with|.ret=>C3|_=>λ_ _=>False) h0 hG (by intro c pre h1 h2 hg hi;revert hi;cases c with
 |ret=>exact auE pre h1 h2 hg
 |_=>exact λhi=>hi.elim) hI (by intro l c pre h1 h2 hl ht hi;revert hi;cases c with
 |ret=>exact auD l pre h1 h2 hl ht
 |_=>exact λhi=>hi.elim) qX
 (by
 intro l pre y gq h1 args ea e1 e2 e3 e4 N X hN hX
 obtain⟨y0,y1,y2,y3,y4,y5,y6,y7,y8,y9,rfl,eE⟩:=ea
 exact Eq.mp (by kernel_rfl) (BN l pre y gq h1 y0 y1 y2 y3 y4 y5 y6 y7 y8 y9 eE e1 e2 e3 e4 N X hN (hX .ret)))
 (λh2 hi=>Eq.mp (by kernel_rfl) (done h2 hi)) (by
 intro c pre gq h2 e1 hi
 cases c with
 |ret=>exact Eq.mp (by kernel_rfl) (anq pre gq h2 e1 hi)
 |_=>exact hi.elim))
theorem aDK(H:aI h #[(ah 0)] Y6 λa b=>St b a (ah 0) λb=>E8 b λb c=>aI c #[(.map none)] VW λc d=>St d c (.map (some b)) λb=>Ld b x1 Sl.v λd=>aj6 d 65 b (λb d=>Wg K Kp x2 a c b d) Kp):ajk K Kp x1 x2 h:=jf H
theorem aBg:eZ (ahM K Kp x1 x2 wY za) (Sd x1 x2 wY za) λa b c=>(aV (b<za) (Ix wY.a wY.n 2 b λd=>Ld c d .string λe=>Ld c (d.add 1) .string λd=>aI c #[(.string (bs [])),(.string (bs []))] af3 λc f=>St f c (.string e) λe=>St e (c.add 1) (.string d) λd=>Ld d c .string λe=>aV ((e.size:Int)>256) (dZ d x2 37 bN b λa=>eO a x2 λb c d=>K b c d a) (Ld d (c.add 1) .string λc=>aV ((c.size:Int)>256) (dZ d x2 37 bN b λa=>eO a x2 λb c d=>K b c d a) (aP (b+1) λb=>a (Sd x1 x2 wY za b) d))) (ajk K Kp x1 x2 c)):=fc
theorem aDL(H:Ld h (x1.add 1) Sl.v λa=>ahM K Kp x1 x2 a (a.n:Int) 0 h):ajl K Kp x1 x2 h:=jf H
theorem aG1{Dx Dw:Sl}(H:aI h #[(Sl.v Dx),(Sl.v Dw)] aga λa b=>aI b kN kI λb c=>Ld c a Sl.v λd=>aV ((d.n:Int)>32) (dZ c b 34 bN 32 λa=>eO a b λb c d=>K b c d a) (Ld c (a.add 1) Sl.v λd=>aV ((d.n:Int)>16) (dZ c b 34 bN 16 λa=>eO a b λb c d=>K b c d a) (ajl K Kp a b c))):YQ Dx Dw h K Kp:=cJ (Ia K Kp) n5 K Tryz.func30 H
end
theorem aFy{K:V5}(H:gk h V x a b c d A λa b=>aI b fY dh λb c=>bR c a λd e f g i j k=>Jl d e f g i j k c (λc d=>If (!c) (dL d b false 0 (bs []) bN λa=>bP a b λb c d e=>K b c d e 5 a) (bR d a λc e f g i j k=>yW c e f g i j k d (λc d=>aV (c>4194304) (dL d b false 0 (bs []) bN λa=>bP a b λb c d e=>K b c d e 3 a) (bR d a λa c e f g i j=>yV a c e f g i j d (λa c d e f=>dL f b a c d e λa=>bP a b λb c d e=>K b c d e 0 a) Kp)) Kp)) Kp):X2 V x a b c d A h K Kp:=dc Qv K Tryz.func31 H
def sx:=mc aE Tryz.f32 (am [(2000004,44)]) [(4,(OT.l [0,2,5,1,3,4,6,7] .fin))] Qu
def ajj:=jK sx 0 7 [.d,.d,.d]
theorem aDJ{K:V4}(H:bR h n λa b c d e f g=>cg h o λi j k l m n=>Ol a b c d e f g h (λa b c d e f g q=>aT h q o 6 <|Ok i j k l m n q (λi j k l m n q=>XG a b c d e f g i j k l m n none q (λa b=>dZ b p 0 bN 0 λb=>eO b p λc d e=>K a c d e b) Kp) Kp) Kp):ajj K Kp n o p h:=jf H
theorem aG0{K:V4}(H:gk h V x a b c d A λa b=>oo b e f g B C D λb c=>aI c kN kI λc d=>bR d a λe f g i j k l=>cg d b λm n p q r s=>XH e f g i j k l m n p q r s d (λd e f g=>aI g kN kI λg i=>dZ i g d e f λd=>Ld d g mI λe=>If (e !=0) (eO d g λa b e=>dZ d c a b e λa=>eO a c λb c d=>K none b c d a) (ajj K Kp a b c d)) Kp):YT V x a b c d A e f g B C D h K Kp:=cJ (sx K Kp) Qu K Tryz.func32 H
section
def Un:Code:=Tryz.f33.body.getD .skip
abbrev Ph:=zQ gX
abbrev asH(K:gE):=kQ gX K
def US:fX:=(am [(4003,140)])
def QU:wQ:=[(4,(OT.l [0,1,2,3,4,5] (.alt (OT.l [6,7] .fin) (OT.l [7,6] .fin))))]
variable(K:gE)(Kp:PK)(lb:Nat)(NB:HP)(XB:Code->HP)
def fS:=mc aE Tryz.f33 US QU gX K Kp
def agx(x2:Sl)(x3:Addr)(x7:Value):HP:=aav (fS K Kp) [1,1,0,1,0] [] (fg [(2,vS x2),(0,vP x3),(3,some x7)] 9)
variable{K Kp lb NB XB}{x2:Sl}{x3:Addr}{x7:Value}{h:Hp}
def agt(lb:Nat)(NB:HP)(XB:Code->HP)(x2:Sl)(x3:Addr)(x7:Value)(y8:Int)(ak1:Bool)(ak0:Int)(akZ:BA)(akY:Sl)(h:Hp):Prop:=
 aI h fY dh λa5 h1=>dL h1 a5 ak1 ak0 akZ akY λh2=>YZ lb h h2 λh3=>Ld h3 x3 Sl.v λt10=>bP h3 a5 λJ0 JZ JY JX=>aI h3 #[(.bool false),(ah 0),(.string (bs [])),(.slice none 0 0)] dh λa13 h4=>aT h3 h4 a5 4 <|aT h3 h4 x3 1 <|Ap h4 dh fY 4 56 t10 1 (rd h4 (some a13) (1*4)) λt14 h5=>Ix t14.a t14.n 4 (t10.n:Int) λVG=>(dL h5 VG J0 JZ JY JX λh6=>St h6 x3 (Sl.v t14) λh7=>NB h7)/\(St h5 x3 (Sl.v t14) λh6=>dL h6 VG J0 JZ JY JX λh7=>NB h7)
def agv(K:gE)(Kp:PK)(x2:Sl)(x3:Addr)(x7:Value)(h:Hp):Prop:=
 Ld h x3 Sl.v λt16=>K t16 h
theorem aGe{a:PA}(H:aI h #[(.slice none 0 0)] yG λb c=>ajs a c (λa c=>agx K Kp bN b a c) Kp):O2 a h K Kp:=cJ (fS K Kp) gX K Tryz.func33 H
end
def aeA:=mc aE Tryz.f34 (am [(2004,229382)]) [] dz
def Ra:=fK 32 [1,2,15,16,17] [.s,uA,.s,tI,tI]
def agI:=lK aeA 2004 58 Ra
theorem azY{K:bE}:eZ (A0:=Int) (agI K Kp A Y B a) (Ra A Y B a) λb c d=>(aV (c<a) (Ix B.a B.n 1 c λe=>Ld d e Sl.v λe=>Ix A.a A.n 1 c λf=>Ld d f Sl.v λf=>cZ aE Y [(Sl.v e),(Sl.v f)] d (λd e=>∃f:Bool,d=(.bool f)/\(If (!f) (K false e) (aP (c+1) λc=>b (Ra A Y B a c) e))) Kp) (K true d)):=fc
theorem aEg{K:bE}(H:If ((A.n:Int)!=(B.n:Int)) (K false h) (agI K Kp B Y A (A.n:Int) 0 h)):XI A B Y h K Kp:=cJ (aeA K Kp) dz K Tryz.func34 H
theorem aEf{K:bE}(H:sL h A λa=>sL h B λb=>K (a.toList==b.toList) h):aju A B h K Kp:=dc dz K Tryz.func35 H
def aez:=mc aE Tryz.f36 (am [(2004,229382)]) [] dz
def Q9:=fK 32 [1,2,15,16,17] [.s,uA,.s,tI,tI]
def agH:=lK aez 2004 58 Q9
theorem azX{K:bE}:eZ (A0:=Int) (agH K Kp A Y B a) (Q9 A Y B a) λb c d=>(aV (c<a) (Ix B.a B.n 6 c λe=>cg d e λe f g i j k=>aI d cX ck λd l=>cL l d e f g i j k λe=>Ix A.a A.n 6 c λf=>cg e f λf g i j k l=>aI e cX ck λe m=>cL m e f g i j k l λf=>cg f d λd g i j k l=>cg f e λe m n p q r=>cZ aE Y [(.agg #[(ah d),(ah g),(ah i),(Sl.v j),(Sl.v k),(Sl.v l)]),(.agg #[(ah e),(ah m),(ah n),(Sl.v p),(Sl.v q),(Sl.v r)])] f (λd e=>∃f:Bool,d=(.bool f)/\(If (!f) (K false e) (aP (c+1) λc=>b (Q9 A Y B a c) e))) Kp) (K true d)):=fc
theorem aEe{K:bE}(H:If ((A.n:Int)!=(B.n:Int)) (K false h) (agH K Kp B Y A (A.n:Int) 0 h)):On A B Y h K Kp:=cJ (aez K Kp) dz K Tryz.func36 H
def ae9:=mc aE Tryz.f37 (am [(2002,28687)]) [] gX
def By:=fK 63 [0,1,2,12,13,3,14] [.s,.s,.b,.s,tI,.s,tI]
def ahG:=lK ae9 2002 26 By
theorem aA6{K:gE}:jP (A0:=Sl) (A1:=Int) (ahG K Kp A B x C a) (By A B x C a) λb c d e=>(aV (d<a) (Ix C.a C.n 7 d λf=>bR e f λf g i j k l m=>aI e mg gO λe n=>jN n e f g i j k l m λf=>aV ((c.n:Int)>256) (K c f) (aP ((B.n:Int)+1) λg=>dP f Y6 #[(ah 0)] 1 8 g g λf g=>AW g f.a (rd g B.a (Nat.min B.n f.n*1)) λg=>Ix f.a f.n 1 (B.n:Int) λi=>St g i (ah d) λg=>bR g e λi j k l m n p=>jo A 7 none (some d) none λq=>aI g #[(Sl.v f),(.string i),(.bool j),(ah k),(ah l),(ah m),(ah n),(Sl.v p),(Sl.v q),(.bool x)] IK λg i=>Ap i IK Pg 10 136 c 1 (rd i (some g) (1*10)) λc g=>aV ((f.n:Int)<=64) (Ld g ((e.add 2).add 4) Sl.v λi=>If x (Fw i f true c g (λc e=>aP (d+1) λd=>b (By A B x C a c d) e) Kp) (Ld g (e.add 2) mI λe=>Fw i f (e==19) c g (λc e=>aP (d+1) λd=>b (By A B x C a c d) e) Kp)) (aP (d+1) λd=>b (By A B x C a c d) g))) (K c e)):=jW
theorem aGO{K:gE}(H:ahG K Kp A B x A (A.n:Int) C 0 h):Fw A B x C h K Kp:=cJ (ae9 K Kp) gX K Tryz.func37 H
def EA:=mc aE Tryz.f38 (am [(2000015,99),(2000021,67),(2025,66113130760175032991808),(59010,72057594037928035),(2010,1879048291)]) [] dr
def Gz:=fK 95 [6,73,74,75] [.d,.s,tI,tI]
def ahF:=lK EA 2025 131030 Gz
def N9:=jK EA 1 2047 [.s,tI,.d]
def N8:=rK EA 3 4092 [.s,tI,.d,.d,.b]
def ajd:=jK EA 0 255 [.s,tI,.d,.d]
def R9:=fK 95 [0,1,5,6,28,29,30] [.s,tI,.d,.d,.s,tI,tI]
def ahE:=lK EA 2010 1018 R9
theorem aA5{K:bU}:eZ (A0:=Int) (ahF K Kp n A a) (Gz n A a) λb c d=>(aV (c<a) (Ix A.a A.n 10 c λe=>Fe d e λe f g i j k l m p q=>aI d Pg IK λd r=>yJ r d e f g i j k l m p q λe=>Ld e ((d.add 1).add 2) mI λf=>If (f==19) (Ld e (((d.add 1).add 2).add 2) mI λd=>Ld e ((n.add 2).add 2) mI λf=>If (d==f) (K 36 e) (aP (c+1) λc=>b (Gz n A a c) e)) (aP (c+1) λc=>b (Gz n A a c) e)) (K 0 d)):=fc
theorem aDx{K:bU}(H:Ld h (n.add 2) mI λb=>If (b==19) (Ld h ((n.add 2).add 4) Sl.v λb=>Ix b.a b.n 7 0 λb=>Ld h (b.add 1) .bool λb=>If b (K 36 h) (jo A 10 none (some a) none λa=>ahF K Kp n a (a.n:Int) 0 h)) (K 0 h)):N9 K Kp A a n h:=jf H
theorem aDw{K:bU}(H:If x (Ld h (n.add 9) .bool λb=>If b (K 36 h) (N9 K Kp A a o h)) (N9 K Kp A a o h)):N8 K Kp A a n o x h:=jf H
theorem aDy{K:bU}(H:iq h (o.add 2) λb c d e f=>Yy b c d e f h (λb c=>If (!b) (K 32 c) (bR c o λb d e f g i j=>Yx b d e f g i j c (λb c=>If (!b) (K 35 c) (Ld c (o.add 2) mI λb=>If (b==19) (N8 K Kp A a n o true c) (Ld c (o.add 2) mI λb=>N8 K Kp A a n o (b==20) c))) Kp)) Kp):ajd K Kp A a n o h:=jf H
theorem aA4{K:bU}:eZ (A0:=Int) (ahE K Kp A a n o B b) (R9 A a n o B b) λc d e=>(aV (d<b) (Ix B.a B.n 7 d λf=>bR e f λf g i j k l m=>aI e mg gO λe p=>jN p e f g i j k l m λf=>Ld f e .string λe=>Ld f o .string λg=>If (e.toList==g.toList) (K 31 f) (aP (d+1) λd=>c (R9 A a n o B b d) f)) (ajd K Kp A a n o e)):=fc
theorem aGN{K:bU}(H:Ix A.a A.n 10 a λb=>Fe h b λb c d e f g i j k l=>aI h Pg IK λm n=>yJ n m b c d e f g i j k l λb=>bR b (m.add 1) λc d e f g i j=>aI b mg gO λb k=>jN k b c d e f g i j λc=>Ld c m Sl.v λd=>aV ((d.n:Int)>64) (K 33 c) (aV (a>=256) (K 34 c) (Ld c b .string λd=>Yz d c (λc d=>If (!c) (K 30 d) (Ld d (m.add 8) Sl.v λc=>ahE K Kp A a m b c (c.n:Int) 0 d)) Kp))):YI A a h K Kp:=cJ (EA K Kp) dr K Tryz.func38 H
theorem aFD{K:bE}(H:gk h V x a b c d A λa b=>bR b a λa c d e f g i=>Fm a c d e f g i b (λa _ _ b=>K (a==0) b) Kp):Jl V x a b c d A h K Kp:=dc dz K Tryz.func39 H
theorem aFC{K:bE}(H:gk h V x a b c d A λa b=>iP b y e W B λb c=>aI c #[(ah 4194304)] rE λc d=>bR d a λa e f g i j k=>bP d b λb l m n=>AR (some c) a e f g i j k b l m n d (λa b=>K a b) Kp):X3 V x a b c d A y e W B h K Kp:=dc dz K Tryz.func40 H
theorem aFJ{K:bE}(H:gk h V x a b c d A λa b=>iP b y e W B λb c=>bP c b λd e f g=>Jn d e f g 4194304 c (λc d=>aV (c<=4194304) (bR d a λa c e f g i j=>bP d b λb k l m=>AS a c e f g i j b k l m d (λa b=>K a b) Kp) (K false d)) Kp):X5 V x a b c d A y e W B h K Kp:=dc dz K Tryz.func42 H
theorem aFI{K:bU}(H:iP h x a V A λa b=>bP b a λa c d e=>OR P a c d e b (λa b=>If (a==0) (NN P λc=>Ld b (c.add 9) mI λc=>aV (c>4194304) (K 3 b) (K a b)) (K a b)) Kp):uo P x a V A h K Kp:=dc dr K Tryz.func43 H
def aeT:=mc aE Tryz.f44 (am [(2003,25)]) [] gX
def KA:=fK 32 [0,3,4] [.s,.s,tI]
def ahi:=lK aeT 2003 58 KA
theorem aAH{K:gE}:eZ (A0:=Int) (ahi K Kp A B) (KA A B) λa b c=>(aV (b<(A.n:Int)) (Ix A.a A.n 1 b λd=>Ld c d (.int .u8) λd=>If (d !=0) (Dv 8<|aP (Int.tdiv b 8) λd=>Ix B.a B.n 1 d λe=>Ld c e (.int .u8) λe=>Dv 8<|Lt (Int.tmod b 8) λf=>Nn f<|Wr .u8 ((1:Int)*2^(min (Int.toNat f) (IntKind.bits .u8))) λf=>Lt (gJ .or .u8 e f) λe=>Ix B.a B.n 1 d λd=>St c d (.int .u8 e) λc=>aP (b+1) λb=>a (KA A B b) c) (aP (b+1) λb=>a (KA A B b) c)) (K B c)):=fc
theorem aFH{K:gE}(H:aP ((A.n:Int)+7) λa=>Dv 8<|aP (Int.tdiv a 8) λa=>dP h Y8 #[(.int .u8 0)] 1 1 a a λa b=>ahi K Kp A a 0 b):OS A h K Kp:=cJ (aeT K Kp) gX K Tryz.func44 H
def aeS:=mc aE Tryz.f45 (am [(2003,99)]) [] gX
def RS:=fK 22 [0,1,5,6] [.s,tI,.s,tI]
def ahh:=lK aeS 2003 58 RS
theorem aAG{K:gE}:jP (A0:=Sl) (A1:=Int) (ahh K Kp A a) (RS A a) λb c d e=>(aV (d<(A.n:Int)) (Ix A.a A.n 1 d λf=>Ld e f mI λf=>Fq c f a e (λc e=>aP (d+1) λd=>b (RS A a c d) e) Kp) (K c e)):=jW
theorem aFG{K:gE}(H:aI h #[] Y8 λb c=>ahh K Kp A a (⟨some b,0,0⟩:Sl) 0 c):sJ A a h K Kp:=cJ (aeS K Kp) gX K Tryz.func45 H
def aeR:=mc aE Tryz.f46 (am [(3400005,24)]) [] dr
def WR:=jK aeR 0 53 [tI,.b]
theorem aCx{K:bU}(H:If x (K 1 h) (If (a==4) (If (a==4) (K 2 h) (If (a==5) (If (a==5) (K 4 h) (If (a==6) (If (a==6) (K 8 h) (K 0 h)) (If (a==10) (If (a==10) (K 8 h) (K 0 h)) (If (a==11) (K 8 h) (K 0 h))))) (If (a==9) (K 4 h) (If (a==6) (If (a==6) (K 8 h) (K 0 h)) (If (a==10) (If (a==10) (K 8 h) (K 0 h)) (If (a==11) (K 8 h) (K 0 h))))))) (If (a==8) (K 2 h) (If (a==5) (If (a==5) (K 4 h) (If (a==6) (If (a==6) (K 8 h) (K 0 h)) (If (a==10) (If (a==10) (K 8 h) (K 0 h)) (If (a==11) (K 8 h) (K 0 h))))) (If (a==9) (K 4 h) (If (a==6) (If (a==6) (K 8 h) (K 0 h)) (If (a==10) (If (a==10) (K 8 h) (K 0 h)) (If (a==11) (K 8 h) (K 0 h))))))))):WR K Kp a x h:=jf H
theorem aFF{K:bU}(H:If (a==3) (WR K Kp a (a==3) h) (WR K Kp a (a==7) h)):Jm a h K Kp:=cJ (aeR K Kp) dr K Tryz.func46 H
theorem aGL{K:CQ}(H:aI h #[(Sl.v A)] Y25 λb c=>aI c #[(ah a)] Y6 λa c=>K (.func (.func 64) #[] #[(c9 a),(c9 b)]) c):aj6 A a h K Kp:=dc Bm K Tryz.func47 H
def ae8:=mc aE Tryz.f48 (am [(1002900016,281474976711296)]) [] dr
def Jb:=jK ae8 0 999421 [.d,.b,.b]
theorem aDs{K:bU}(H:If y (If y (K 36 h) (K 0 h)) (Ld h n mI λa=>If (a==19) (Ld h (n.add 4) Sl.v λa=>Ix a.a a.n 7 0 λa=>Ld h (a.add 1) .bool λa=>If a (K 36 h) (If x (K 36 h) (K 0 h))) (K 0 h))):Jb K Kp n x y h:=jf H
theorem aGK{K:bU}(H:azI h A B V x a b c d C y λa b=>iq b ((a.add 2).add 2) λc d f g i=>aI b pn kJ λb j=>mb j b c d f g i λc=>Ld c (b.add 2) mI λd=>Lk c M (.int .i64) (ah d) (ah 0) mI λ_ d=>Ld c a Sl.v λf=>If (decide ((f.n:Int)>64)) (K 33 c) (If (decide (e>=256)) (K 34 c) (Ld c (a.add 2) .string λe=>Yw e c (λc e=>If (!c) (K 30 e) (Ld e (a.add 1) Sl.v λc=>Yh c (.func (.func 69) #[] #[(c9 a)]) e (λc e=>If c (K 31 e) (iq e b λc f g i j=>Yv c f g i j e (λc e=>If (!c) (K 32 e) (bR e (a.add 2) λc f g i j k l=>Yu c f g i j k l e (λc e=>If (!c) (K 35 e) (Ld e (a.add 9) .bool λa=>If a (Ld e b mI λa=>If (a==19) (Jb K Kp b d true e) (Ld e b mI λa=>Jb K Kp b d (a==20) e)) (Jb K Kp b d false e))) Kp)) Kp)) Kp)) Kp))):YG A B V x a b c d C y e M h K Kp:=cJ (ae8 K Kp) dr K Tryz.func48 H
def aeO:=mc aE Tryz.f49 (am [(2012,120259084304)]) [] dr
def RH:=fK 64 [34,35,4,36] [.s,tI,tI,tI]
def ahb:=lK aeO 2012 64250 RH
theorem aAv{K:bU}:jP (A0:=Int) (A1:=Int) (ahb K Kp A a) (RH A a) λb c d e=>(aV (d<a) (Ix A.a A.n 7 d λf=>bR e f λf g i j k l m=>aI e mg gO λe n=>jN n e f g i j k l m λf=>bR f e λe g i j k l m=>yW e g i j k l m f (λe f=>aP (c+e) λc=>aP (d+1) λd=>b (RH A a c d) f) Kp) (Lt (if 4194305<c then 4194305 else c) λa=>K a e)):=jW
theorem ajW{K:bU}(H:gk h V x a b c d A λa b=>bR b a λc d e f g i j=>Jj c d e f g i j b (λb c=>If b (K 16 c) (iq c (a.add 2) λa b d e f=>aI c pn kJ λc g=>mb g c a b d e f λa=>Ld a c mI λb=>If (b==14) (Ld a (c.add 1) mI λb=>aP ((16:Int)+b) λb=>Lt (if 4194305<b then 4194305 else b) λb=>K b a) (If (b==16) (Ld a (c.add 1) mI λb=>Ld a (c.add 4) Sl.v λd=>Ix d.a d.n 7 0 λd=>bR a d λd e f g i j k=>yW d e f g i j k a (λd e=>aT a e (c.add 1) 1 <|aP (b*d) λa=>aP ((16:Int)+a) λa=>Lt (if 4194305<a then 4194305 else a) λa=>K a e) Kp) (If (b==17) (Ld a (c.add 4) Sl.v λb=>ahb K Kp b (b.n:Int) 16 0 a) (If (b==18) (Ld a (c.add 4) Sl.v λb=>Ix b.a b.n 7 0 λb=>bR a b λb c d e f g i=>yW b c d e f g i a (λa b=>aP ((16:Int)+a) λa=>Lt (if 4194305<a then 4194305 else a) λa=>K a b) Kp) (If (b==19) (If (b==19) (Ld a (c.add 4) Sl.v λb=>Ix b.a b.n 7 0 λb=>bR a b λb c d e f g i=>yW b c d e f g i a (λa b=>Lt (if 4194305<a then 4194305 else a) λa=>K a b) Kp) (Lt (if 4194305<16 then 4194305 else 16) λb=>K b a)) (If (b==20) (Ld a (c.add 4) Sl.v λb=>Ix b.a b.n 7 0 λb=>bR a b λb c d e f g i=>yW b c d e f g i a (λa b=>Lt (if 4194305<a then 4194305 else a) λa=>K a b) Kp) (Lt (if 4194305<16 then 4194305 else 16) λb=>K b a)))))))) Kp):yW V x a b c d A h K Kp:=cJ (aeO K Kp) dr K Tryz.func49 H
def UA:=mc aE Tryz.f50 (am [(2010,25165852),(2015,7696581394444)]) [] ux
def RG:=fK 72 [2,3,4,23,24] [.d,.d,.d,tI,tI]
def aha:=lK UA 2010 16058 RG
def RF:=fK 72 [2,3,40,41,42] [.d,.d,.s,tI,tI]
def ag9:=lK UA 2015 64250 RF
theorem aAu{K:qE}:eZ (A0:=Int) (aha K Kp n o p a) (RG n o p a) λb c d=>(aV (c<a) (Ld d (o.add 3) Sl.v λe=>Ld d (p.add 4) Sl.v λf=>Ix f.a f.n 7 0 λf=>bR d f λf g i j k l m=>yV f g i j k l m d (λf g i j k=>aT d k (o.add 3) 1 <|aI k #[(.bool f),(ah g),(.string i),(Sl.v j)] dh λd f=>aT k f (o.add 3) 1 <|Ap f dh fY 4 56 e 1 (rd f (some d) (1*4)) λd e=>St e (o.add 3) (Sl.v d) λd=>aP (c+1) λc=>b (RG n o p a c) d) Kp) (bP d o λa b c e=>dL d n a b c e λa=>bP a n λb c d e=>K b c d e a)):=fc
theorem aAt{K:qE}:eZ (A0:=Int) (ag9 K Kp n o A a) (RF n o A a) λb c d=>(aV (c<a) (Ix A.a A.n 7 c λe=>bR d e λe f g i j k l=>aI d mg gO λd m=>jN m d e f g i j k l λe=>Ld e (o.add 3) Sl.v λf=>bR e d λd g i j k l m=>yV d g i j k l m e (λd g i j k=>aT e k (o.add 3) 1 <|aI k #[(.bool d),(ah g),(.string i),(Sl.v j)] dh λd e=>aT k e (o.add 3) 1 <|Ap e dh fY 4 56 f 1 (rd e (some d) (1*4)) λd e=>St e (o.add 3) (Sl.v d) λd=>aP (c+1) λc=>b (RF n o A a c) d) Kp) (bP d o λa b c e=>dL d n a b c e λa=>bP a n λb c d e=>K b c d e a)):=fc
theorem ajV{K:qE}(H:gk h V x a b c d A λa b=>aI b fY dh λb c=>bR c a λd e f g i j k=>Jj d e f g i j k c (λc d=>If c (dL d b true 0 (bs []) bN λa=>bP a b λb c d e=>K b c d e a) (aI d fY dh λc d=>iq d (a.add 2) λa e f g i=>aI d pn kJ λd j=>mb j d a e f g i λa=>Ld a d mI λe=>If (e==14) (Ld a (d.add 1) mI λd=>ajt (bs [0]) d a (λa d=>St d (c.add 2) (.string a) λa=>bP a c λc d e f=>dL a b c d e f λa=>bP a b λb c d e=>K b c d e a) Kp) (If (e==16) (Ld a (d.add 1) mI λe=>aha K Kp b c d e 0 a) (If (e==17) (Ld a (d.add 4) Sl.v λd=>ag9 K Kp b c d (d.n:Int) 0 a) (If (e==18) (Ld a (d.add 4) Sl.v λd=>Ix d.a d.n 7 0 λd=>bR a d λd e f g i j k=>yV d e f g i j k a (λa d e f g=>aI g #[(.bool a),(ah d),(.string e),(Sl.v f)] dh λa d=>St d (c.add 3) (.slice (some a) 1 1) λa=>bP a c λc d e f=>dL a b c d e f λa=>bP a b λb c d e=>K b c d e a) Kp) (If (e==19) (If (e==19) (Ld a (d.add 4) Sl.v λc=>Ix c.a c.n 7 0 λc=>bR a c λc d e f g i j=>yV c d e f g i j a (λa c d e f=>dL f b a c d e λa=>bP a b λb c d e=>K b c d e a) Kp) (bP a c λc d e f=>dL a b c d e f λa=>bP a b λb c d e=>K b c d e a)) (If (e==20) (Ld a (d.add 4) Sl.v λc=>Ix c.a c.n 7 0 λc=>bR a c λc d e f g i j=>yV c d e f g i j a (λa c d e f=>dL f b a c d e λa=>bP a b λb c d e=>K b c d e a) Kp) (bP a c λc d e f=>dL a b c d e f λa=>bP a b λb c d e=>K b c d e a)))))))) Kp):yV V x a b c d A h K Kp:=cJ (UA K Kp) ux K Tryz.func50 H
theorem aEb{K:iY}(H:gk h V x a b c d A λa b=>oo b e f g B C D λb c=>aI c kN kI λc d=>bR d a λe f g i j k l=>Fm e f g i j k l d (λd _ _ e=>If (d !=0) (nJ 5 0 e (λa b d e=>dZ e c a b d λa=>eO a c λb c d=>K b c d a) Kp) (bR e a λa d f g i j k=>cg e b λb l m n p q=>Fy a d f g i j k b l m n p q e (λa b d _ e=>aI e kN kI λe f=>dZ f e a b d λa=>eO a e λb d e=>dZ a c b d e λa=>eO a c λb c d=>K b c d a) Kp)) Kp):XH V x a b c d A e f g B C D h K Kp:=dc n5 K Tryz.func51 H
theorem aEa{K:CP}(H:gk h V x a b c d A λa b=>oo b e f g B C D λb c=>bR c a λd e f g i j k=>cg c b λl m n p q r=>Ld c (b.add 1) mI λs=>Ld c b mI λt=>Ld c (a.add 2) mI λu=>YX u c (λu v=>aT c v b 1 <|aT c v (b.add 1) 1 <|aT c v b 6 <|aT c v a 7 <|NA u <|azJ v d e f g i j k l m n p q r s t P u λa b=>K (some a) b) Kp):XG V x a b c d A e f g B C D P h K Kp:=dc Kl K Tryz.func52 H
def c51:=mc aE Tryz.f53 (am [(2003,24582)]) [] DE
def Q8:=fK 31 [1,2,13,14] [.d,.d,tI,tI]
def agG:=lK c51 2003 58 Q8
theorem azW{K:E0}:eZ (A0:=Int) (agG K Kp n o a) (Q8 n o a) λb c d=>(aV (c<a) (Ld d ((n.add 2).add 4) Sl.v λe=>Ld d ((n.add 2).add 4) Sl.v λf=>Ix f.a f.n 7 c λf=>bR d f λf g i j k l m=>Ol f g i j k l m d (λf g i j k l m p=>aT d p ((n.add 2).add 4) 1 <|Ix e.a e.n 7 c λd=>jN p d f g i j k l m λd=>aP (c+1) λc=>b (Q8 n o a c) d) Kp) (bR d n λa b c e f g i=>jN d o a b c e f g i λa=>bR a o λb c d e f g i=>K b c d e f g i a)):=fc
theorem aD9{K:E0}(H:gk h V x a b c d A λa b=>aI b mg gO λb c=>Ld c ((a.add 2).add 4) Sl.v λd=>aj3 d c (λc d=>St d ((a.add 2).add 4) (Sl.v c) λc=>Ld c ((a.add 2).add 4) Sl.v λd=>agG K Kp a b (d.n:Int) 0 c) Kp):Ol V x a b c d A h K Kp:=cJ (c51 K Kp) DE K Tryz.func53 H
theorem aD8{K:jJ}(H:oo h a b c A B C λa b=>aI b cX ck λb c=>Ld c (a.add 3) Sl.v λd=>Yj d c (λc d=>St d (a.add 3) (Sl.v c) λc=>Ld c (a.add 4) Sl.v λd=>O7 d c (λc d=>St d (a.add 4) (Sl.v c) λc=>Ld c (a.add 5) Sl.v λd=>O7 d c (λc d=>St d (a.add 5) (Sl.v c) λc=>cg c a λa d e f g i=>cL c b a d e f g i λa=>cg a b λb c d e f g=>K b c d e f g a) Kp) Kp) Kp):Ok a b c A B C h K Kp:=dc mq K Tryz.func54 H
theorem aD7{K:CQ}(H:aI h #[(.pointer P)] VI λa b=>K (.func (.func 80) #[] #[(c9 a)]) b):ajs P h K Kp:=dc Bm K Tryz.func55 H
def L7:=mc aE Tryz.f56 (am [(2000003,1),(2004,9),(41008,2049)]) [] dz
def R6:=fK 33 [0,3] [.t,tI]
def ahC:=lK L7 2004 58 R6
def I9:=jK L7 0 7 [.t]
def Xj:=rK L7 2 12 [.t,.b]
theorem aA1{K:bE}:eZ (A0:=Int) (ahC K Kp V) (R6 V) λa b c=>(aV (b<(V.size:Int)) (iu V b λd=>Yp d c (λc d=>If (!c) (K false d) (aP (b+1) λb=>a (R6 V b) d)) Kp) (K true c)):=fc
theorem aDn{K:bE}(H:ahC K Kp V 0 h):I9 K Kp V h:=jf H
theorem aja{K:bE}(H:If x (K false h) (iu V 0 λa=>aV (a>=48) (iu V 0 λa=>aV (a<=57) (K false h) (I9 K Kp V h)) (I9 K Kp V h))):Xj K Kp V x h:=jf H
theorem aGA{K:bE}(H:aV ((V.size:Int)<1) (Xj K Kp V true h) (Xj K Kp V (decide ((V.size:Int)>48)) h)):Yz V h K Kp:=cJ (L7 K Kp) dz K Tryz.func56 H
def xX:=mc aE Tryz.f57 (am [(2000020,250),(61008,37778931862957161710072),(61011,302231454903657293677016),(61014,2417851639229258349412760),(61017,19342813113834066795299096),(61022,618970019642690137449562384),(3800009,1074266362),(2000019,122)]) [] dz
def Xd:=rK xX 5 126 [tI,tI,.b]
def Xe:=rK xX 4 126 [tI,tI,tI,.b]
def Xf:=rK xX 3 126 [tI,tI,.b,tI,.b]
def Xg:=rK xX 2 126 [tI,tI,.b,.b,tI,.b]
def Xh:=rK xX 1 126 [tI,tI,.b,.b,.b,tI,.b]
def uf:=jK xX 0 31 [.d,tI,tI,.b,.b,.b]
def Xb:=jK xX 7 2015227 [.d,tI,tI,.b,.b]
def Xc:=jK xX 6 983 [.d,tI,tI,.b,.b,.b,tI,.b]
theorem aDh{K:bE}(H:If x (K (decide (b<=a)) h) (K false h)):Xd K Kp a b x h:=jf H
theorem aDi{K:bE}(H:If x (Xd K Kp b c (decide (c>=a)) h) (Xd K Kp b c false h)):Xe K Kp a b c x h:=jf H
theorem aDj{K:bE}(H:If y (Xe K Kp a b c x h) (Xe K Kp a b c false h)):Xf K Kp a b x c y h:=jf H
theorem aDk{K:bE}(H:If z (Xf K Kp a b y c x h) (Xf K Kp a b y c false h)):Xg K Kp a b x y c z h:=jf H
theorem aDl{K:bE}(H:If ya (Xg K Kp a b y z c x h) (Xg K Kp a b y z c false h)):Xh K Kp a b x y z c ya h:=jf H
theorem aDm{K:bE}(H:Ld h (n.add 4) Sl.v λc=>Ld h n mI λd=>aV (d>=1) (Ld h n mI λd=>Xh K Kp a b x y z (c.n:Int) (decide (d<=20)) h) (Xh K Kp a b x y z (c.n:Int) false h)):uf K Kp n a b x y z h:=jf H
theorem aDf{K:bE}(H:Ld h (n.add 3) mI λc=>aV (c>=3) (Ld h (n.add 3) mI λc=>uf K Kp n a b x y (decide (c<=10)) h) (uf K Kp n a b x y false h)):Xb K Kp n a b x y h:=jf H
theorem aDg{K:bE}(H:If ya (uf K Kp n 1 1 x y z h) (If (c==16) (Ld h (n.add 1) mI λa=>aV (a>=1) (Ld h (n.add 1) mI λa=>uf K Kp n 1 1 (decide (a<=64)) y z h) (uf K Kp n 1 1 false y z h)) (If (c==17) (uf K Kp n a 32 x y z h) (If (c==18) (uf K Kp n 1 32 x y z h) (If (c==19) (Ld h (n.add 2) mI λa=>aV (a>=0) (Ld h (n.add 2) mI λa=>Xb K Kp n 1 1 x (decide (a<32)) h) (Xb K Kp n 1 1 x false h)) (uf K Kp n a b x y z h)))))):Xc K Kp n a b x y z c ya h:=jf H
theorem aGz{K:bE}(H:wR h a b c d A λa b=>Ld b (a.add 1) mI λc=>Ld b (a.add 2) mI λd=>Ld b (a.add 3) mI λe=>Ld b a mI λf=>If (f==14) (Ld b (a.add 1) mI λc=>aV (c>=1) (Ld b (a.add 1) mI λc=>uf K Kp a 0 0 (decide (c<=16)) (d==0) (e==0) b) (uf K Kp a 0 0 false (d==0) (e==0) b)) (If (f==15) (Xc K Kp a 0 0 (c==0) (d==0) (e==0) f (f==15) b) (Xc K Kp a 0 0 (c==0) (d==0) (e==0) f (f==20) b))):Yy a b c d A h K Kp:=cJ (xX K Kp) dz K Tryz.func57 H
theorem aGy{K:bE}(H:gk h V x a b c d A λa b=>Ld b (a.add 2) mI λc=>If (c==1) (Ld b (a.add 1) .bool λa=>K a b) (If (c==18) (Ld b (a.add 1) .bool λa=>K (!a) b) (If (c==20) (Ld b (a.add 1) .bool λc=>Ld b ((a.add 2).add 4) Sl.v λa=>Ix a.a a.n 7 0 λa=>Ld b (a.add 1) .bool λa=>K (c==a) b) (K true b)))):Yx V x a b c d A h K Kp:=dc dz K Tryz.func58 H
def qw:=mc aE Tryz.f59 (am [(2000004,49),(2000005,49),(2000007,49),(2000023,160),(2001001,160),(2000029,160),(4100013,1770887431076116955297),(4800019,680564733841876927517045025222242074785),(58008,1393796574908163946345982392040522594123937),(5209999,356811923176489970264571492362373784095686816),(62009,1461501637330902918203684832716283019655932543136),(62019,1496577676626844588240573268701473812127674924007584),(46008,36028797018964016),(46014,2305843009213693968)]) [] dz
def aix:=jK qw 5 1023 [.d,.d]
def aiy:=jK qw 4 511 [.d,.d]
def aiz:=jK qw 3 255 [.d,.d]
def Nl:=rK qw 8 130428 [.p,.d,.d,.b]
def I2:=rK qw 11 521724 [.d,.d,.b]
def Nr:=rK qw 10 521724 [.d,.d,.b]
def I3:=jK qw 9 130431 [.d,.d,.b]
def I0:=jK qw 7 32607 [.p,.d,.d,tI,.b]
def Np:=jK qw 6 2037 [.p,.d,.d,tI,.b]
def WN:=jK qw 2 63 [.p,.d,.d]
def Nq:=rK qw 13 500 [.d,.b]
def WO:=rK qw 12 500 [.d,.d,.b]
def aiB:=jK qw 1 31 [.p,.d,.d]
def aiE:=jK qw 0 15 [.p,.d,.d]
theorem aCe{K:bE}(H:Ld h o mI λa=>XV a h (λa b=>If a (Ld b o mI λa=>Ld b (n.add 1) mI λc=>XU a c b (λa b=>K a b) Kp) (K false b)) Kp):aix K Kp n o h:=jf H
theorem aCf{K:bE}(H:Ld h o mI λa=>If (a==2) (Ld h (n.add 1) mI λa=>If (a==0) (K true h) (Ld h (n.add 1) mI λa=>K (a==1) h)) (Ld h o mI λa=>If (a==11) (K true h) (aix K Kp n o h))):aiy K Kp n o h:=jf H
theorem aCg{K:bE}(H:Ld h (n.add 2) .string λa=>If (!(a.toList==(bs []).toList)) (K false h) (Ld h (n.add 3) Sl.v λa=>aV ((a.n:Int)>0) (K false h) (aiy K Kp n o h))):aiz K Kp n o h:=jf H
theorem aCd{K:bE}(H:If x (iq h o λa b c d e=>Ld h (n.add 3) Sl.v λf=>XW P a b c d e f h (λa b=>K a b) Kp) (K false h)):Nl K Kp P n o x h:=jf H
theorem aCk{K:bE}(H:If x (Ld h o mI λa=>If (a !=14) (K true h) (Ld h (n.add 2) .string λa=>Ld h (o.add 1) mI λb=>K ((a.size:Int)==b) h)) (K false h)):I2 K Kp n o x h:=jf H
theorem aCl{K:bE}(H:If x (Ld h o mI λa=>If (a !=12) (I2 K Kp n o true h) (Ld h (n.add 2) .string λa=>Yf a h (λa b=>I2 K Kp n o a b) Kp)) (I2 K Kp n o false h)):Nr K Kp n o x h:=jf H
theorem aiD{K:bE}(H:If x (Ld h (n.add 1) mI λa=>If (a==0) (Ld h (n.add 3) Sl.v λa=>Nr K Kp n o ((a.n:Int)==0) h) (Nr K Kp n o false h)) (aiz K Kp n o h)):I3 K Kp n o x h:=jf H
theorem WM{K:bE}(H:If x (Ld h (n.add 1) mI λa=>If (a==0) (Ld h (n.add 2) .string λa=>Nl K Kp P n o (a.toList==(bs []).toList) h) (Nl K Kp P n o false h)) (If (a==12) (I3 K Kp n o (a==12) h) (If (a==13) (I3 K Kp n o (a==13) h) (I3 K Kp n o (a==14) h)))):I0 K Kp P n o a x h:=jf H
theorem I1{K:bE}(H:If x (NN P λa=>Ld h a mI λa=>Ld h (n.add 2) .string λb=>aP ((16:Int)+(b.size:Int)) λb=>aP (a+b) λa=>NN P λb=>St h b (ah a) λa=>Ld a (o.add 4) Sl.v λb=>Ix b.a b.n 7 0 λb=>bR a b λb c d e f g i=>bP a n λj k l m=>AR P b c d e f g i j k l m a (λa b=>K a b) Kp) (If (a==18) (Ld h (n.add 2) .string λa=>If (a.toList==(bs []).toList) (Ld h (n.add 1) mI λa=>aV (a>=0) (Ld h (n.add 1) mI λa=>Ld h (o.add 4) Sl.v λb=>aV (a<(b.n:Int)) (Ld h (n.add 3) Sl.v λa=>If ((a.n:Int)==1) (Ld h (o.add 4) Sl.v λa=>Ld h (n.add 1) mI λb=>Ix a.a a.n 7 b λa=>bR h a λa b c d e f g=>Ld h (n.add 3) Sl.v λi=>Ix i.a i.n 4 0 λi=>bP h i λi j k l=>AR P a b c d e f g i j k l h (λa b=>K a b) Kp) (K false h)) (K false h)) (K false h)) (K false h)) (If (a==15) (I0 K Kp P n o a (a==15) h) (If (a==16) (I0 K Kp P n o a (a==16) h) (I0 K Kp P n o a (a==17) h))))):Np K Kp P n o a x h:=jf H
theorem aiA{K:bE}(H:iq h (n.add 2) λa b c d e=>aI h pn kJ λf g=>mb g f a b c d e λa=>Ld a f mI λb=>If (b==19) (Np K Kp P o f b (b==19) a) (Np K Kp P o f b (b==20) a)):WN K Kp P n o h:=jf H
theorem aCj{K:bE}(H:If x (bR h n λa b c d e f g=>Jj a b c d e f g h (λa b=>K a b) Kp) (K false h)):Nq K Kp n x h:=jf H
theorem aiC{K:bE}(H:If x (Ld h (o.add 3) Sl.v λa=>Nq K Kp n ((a.n:Int)==0) h) (Nq K Kp n false h)):WO K Kp n o x h:=jf H
theorem aCh{K:bE}(H:Ld h o .bool λa=>If a (Ld h (o.add 1) mI λa=>If (a==0) (Ld h (o.add 2) .string λa=>WO K Kp n o (a.toList==(bs []).toList) h) (WO K Kp n o false h)) (WN K Kp P n o h)):aiB K Kp P n o h:=jf H
theorem aCi{K:bE}(H:NN P λa=>Ld h a mI λa=>Ld h (o.add 2) .string λb=>aP (a-(b.size:Int)) λa=>NN P λb=>St h b (ah a) λa=>aiB K Kp P n o a):aiE K Kp P n o h:=jf H
theorem aFx{K:bE}(H:gk h V x a b c d A λa b=>iP b y e W B λb c=>NN P λd=>Ld c d mI λd=>aP (d-16) λd=>NN P λe=>St c e (ah d) λc=>NN P λd=>Ld c d mI λd=>aV (d<0) (K false c) (Ld c (b.add 2) .string λd=>NN P λe=>Ld c e mI λe=>aV ((d.size:Int)>e) (K false c) (Ld c (b.add 3) Sl.v λd=>aV ((d.n:Int)>4096) (K false c) (aiE K Kp P a b c)))):AR P V x a b c d A y e W B h K Kp:=cJ (qw K Kp) dz K Tryz.func59 H
def aeW:=mc aE Tryz.f60 (am [(2006,102)]) [] dr
def RY:=fK 52 [1,2,5,6] [tI,.d,tI,tI]
def ahp:=lK aeW 2006 250 RY
theorem aAN{K:bU}:jP (A0:=Int) (A1:=Int) (ahp K Kp a n) (RY a n) λb c d e=>(Ld e (n.add 3) Sl.v λf=>aV (d<(f.n:Int)) (aV (c>a) (aP (a+1) λa=>K a e) (Ld e (n.add 3) Sl.v λf=>Ix f.a f.n 4 d λf=>bP e f λf g i j=>aP (a-c) λk=>Jn f g i j k e (λe f=>aP (c+e) λc=>aP (d+1) λd=>b (RY a n c d) f) Kp)) (aV (c>a) (aP (a+1) λa=>K a e) (K c e))):=jW
theorem aFS{K:bU}(H:iP h x a V A λa c=>Ld c (a.add 2) .string λd=>aP (b-16) λe=>aV ((d.size:Int)>e) (aP (b+1) λa=>K a c) (Ld c (a.add 2) .string λd=>aP ((16:Int)+(d.size:Int)) λd=>ahp K Kp b a d 0 c)):Jn x a V A b h K Kp:=cJ (aeW K Kp) dr K Tryz.func60 H
def Af:=mc aE Tryz.f61 (am [(2000005,40),(2000018,40),(47010,70368744177672),(50006,36893488147419103240),(54009,158456325028528675187087900712),(44006,1048584),(44011,33554440)]) [] dz
def NG:=jK Af 1 63 [.d,.d]
def NF:=rK Af 2 996 [.d,.b]
def ND:=rK Af 3 7994 [.d,.b]
def NC:=rK Af 4 63996 [.d,.d,.b]
def aiH:=jK Af 0 15 [.d,.d]
def Ny:=rK Af 6 234 [.d,.b]
def Nz:=rK Af 5 234 [.d,.b]
theorem aCv{K:bE}(H:Ld h (n.add 2) .string λa=>If (a.toList==(bs []).toList) (iq h o λa b c d e=>bP h n λf g i j=>XY a b c d e f g i j h (λa b=>K a b) Kp) (K false h)):NG K Kp n o h:=jf H
theorem aCu{K:bE}(H:If x (Ld h (n.add 3) Sl.v λa=>K ((a.n:Int)==0) h) (K false h)):NF K Kp n x h:=jf H
theorem aCt{K:bE}(H:If x (Ld h (n.add 3) Sl.v λa=>K ((a.n:Int)==0) h) (K false h)):ND K Kp n x h:=jf H
theorem aCs{K:bE}(H:If x (Ld h (n.add 2) .string λa=>Ld h (o.add 1) mI λb=>K ((a.size:Int)==b) h) (K false h)):NC K Kp n o x h:=jf H
theorem aCw{K:bE}(H:Ld h o mI λa=>X0 a h (λa b=>If a (Ld b o mI λa=>Ld b (n.add 1) mI λc=>XZ a c b (λa b=>If a (Ld b (n.add 2) .string λa=>NF K Kp n (a.toList==(bs []).toList) b) (NF K Kp n false b)) Kp) (Ld b o mI λa=>If (a==12) (Ld b (n.add 2) .string λa=>YR a b (λa b=>If a (Ld b (n.add 1) mI λa=>ND K Kp n (a==0) b) (ND K Kp n false b)) Kp) (Ld b o mI λa=>If (a==13) (Ld b (n.add 1) mI λa=>If (a==0) (Ld b (n.add 3) Sl.v λa=>K ((a.n:Int)==0) b) (K false b)) (Ld b o mI λa=>If (a==14) (Ld b (n.add 1) mI λa=>If (a==0) (Ld b (n.add 3) Sl.v λa=>NC K Kp n o ((a.n:Int)==0) b) (NC K Kp n o false b)) (Ld b o mI λa=>If (a==19) (If (a==19) (Ld b (o.add 4) Sl.v λa=>Ix a.a a.n 7 0 λa=>bR b a λa c d e f g i=>bP b n λj k l m=>AS a c d e f g i j k l m b (λa b=>K a b) Kp) (NG K Kp n o b)) (Ld b o mI λa=>If (a==20) (Ld b (o.add 4) Sl.v λa=>Ix a.a a.n 7 0 λa=>bR b a λa c d e f g i=>bP b n λj k l m=>AS a c d e f g i j k l m b (λa b=>K a b) Kp) (NG K Kp n o b))))))) Kp):aiH K Kp n o h:=jf H
theorem aCq{K:bE}(H:If x (Ld h (n.add 3) Sl.v λa=>K ((a.n:Int)==0) h) (K false h)):Ny K Kp n x h:=jf H
theorem aCr{K:bE}(H:If x (Ld h (n.add 2) .string λa=>Ny K Kp n (a.toList==(bs []).toList) h) (Ny K Kp n false h)):Nz K Kp n x h:=jf H
theorem aFA{K:bE}(H:gk h V x a b c d A λa b=>iP b y e W B λb c=>iq c (a.add 2) λd e f g i=>aI c pn kJ λc j=>mb j c d e f g i λd=>Ld d b .bool λe=>If e (bR d a λa c e f g i j=>OQ a c e f g i j d (λa c=>If a (Ld c (b.add 1) mI λa=>Nz K Kp b (a==0) c) (Nz K Kp b false c)) Kp) (aiH K Kp b c d)):AS V x a b c d A y e W B h K Kp:=cJ (Af K Kp) dz K Tryz.func61 H
def xV:=mc aE Tryz.f62 (am [(2000011,41),(4600020,151124950823865501614121),(5400031,85070591730234615875067023894796828713),(2000030,1),(2025,73),(2033,265),(2000040,9),(2000041,9)]) [] dr
def Nt:=jK xV 3 523645 [.p]
def RQ:=fK 260 [0,3,6] [.p,.d,tI]
def WD:=lK xV 2025 2094578 RQ
def RP:=fK 260 [0,3,8] [.p,.d,tI]
def WC:=lK xV 2033 4189178 RP
def aiF:=jK xV 7 16756731 [.p,.d]
def aiG:=jK xV 6 8378365 [.p,.d]
def WQ:=jK xV 2 130911 [.p,.d,.d,tI,.b]
def Nu:=jK xV 1 8181 [.p,.d,.d,tI,.b]
def Nx:=jK xV 0 255 [.p,.d,.d]
theorem aCo{K:bU}(H:NN P λa=>Ld h (a.add 13) Sl.v λb=>NN P λc=>Ld h (c.add 18) Sl.v λc=>Ix c.a c.n 1 0 λc=>Ld h c .pointer λc=>NN c λc=>Ld h (c.add 7) mI λc=>aI h #[(ah c)] Y6 λc d=>aT h d (a.add 13) 1 <|Ap d Y6 #[(ah 0)] 1 8 b 1 (rd d (some c) (1*1)) λa b=>NN P λc=>St b (c.add 13) (Sl.v a) λa=>K 0 a):Nt K Kp P h:=jf H
theorem aAE{K:bU}:eZ (A0:=Int) (WD K Kp P n) (RQ P n) λa b c=>(Ld c (n.add 3) Sl.v λd=>aV (b<(d.n:Int)) (NN P λd=>Ld c (d.add 18) Sl.v λd=>Ix d.a d.n 1 0 λd=>Ld c d .pointer λd=>Ld c (n.add 3) Sl.v λe=>Ix e.a e.n 4 b λe=>bP c e λe f g i=>uo d e f g i c (λc d=>If (c !=0) (K c d) (aP (b+1) λb=>a (RQ P n b) d)) Kp) (Nt K Kp P c)):=fc
theorem aAD{K:bU}:eZ (A0:=Int) (WC K Kp P n) (RP P n) λa b c=>(Ld c (n.add 3) Sl.v λd=>aV (b<(d.n:Int)) (NN P λd=>Ld c (d.add 18) Sl.v λd=>Ix d.a d.n 1 b λd=>Ld c d .pointer λd=>Ld c (n.add 3) Sl.v λe=>Ix e.a e.n 4 b λe=>bP c e λe f g i=>uo d e f g i c (λc d=>If (c !=0) (K c d) (aP (b+1) λb=>a (RP P n b) d)) Kp) (K 0 c)):=fc
theorem aCm{K:bU}(H:NN P λa=>Ld h (a.add 18) Sl.v λa=>Ld h (n.add 1) mI λb=>Ix a.a a.n 1 b λa=>Ld h a .pointer λa=>Ld h (n.add 3) Sl.v λb=>Ix b.a b.n 4 0 λb=>bP h b λb c d e=>uo a b c d e h (λa b=>K a b) Kp):aiF K Kp P n h:=jf H
theorem aCn{K:bU}(H:NN P λa=>Ld h (a.add 13) Sl.v λb=>NN P λc=>Ld h (c.add 18) Sl.v λc=>Ld h (n.add 1) mI λd=>Ix c.a c.n 1 d λc=>Ld h c .pointer λc=>NN c λc=>Ld h (c.add 7) mI λc=>aI h #[(ah c)] Y6 λc d=>aT h d (a.add 13) 1 <|Ap d Y6 #[(ah 0)] 1 8 b 1 (rd d (some c) (1*1)) λa b=>NN P λc=>St b (c.add 13) (Sl.v a) λa=>aiF K Kp P n a):aiG K Kp P n h:=jf H
theorem Fj{K:bU}(H:If x (WD K Kp P n 0 h) (If (a==17) (WC K Kp P n 0 h) (If (a==18) (NN P λa=>Ld h (a.add 11) Sl.v λb=>Ld h (n.add 1) mI λc=>Wr .u8 c λc=>aI h #[(.int .u8 c)] Y8 λc d=>aT h d (a.add 11) 1 <|Ap d Y8 #[(.int .u8 0)] 1 1 b 1 (rd d (some c) (1*1)) λa b=>NN P λc=>St b (c.add 11) (Sl.v a) λa=>aiG K Kp P n a) (If (a==19) (bP h n λa b c d=>ajX P a b c d h (λa b=>K a b) Kp) (If (a==2) (NN P λa=>Ld h (a.add 12) Sl.v λb=>Ld h (n.add 1) mI λc=>Wr .u8 c λc=>aI h #[(.int .u8 c)] Y8 λc d=>aT h d (a.add 12) 1 <|Ap d Y8 #[(.int .u8 0)] 1 1 b 1 (rd d (some c) (1*1)) λa b=>NN P λc=>St b (c.add 12) (Sl.v a) λa=>K 0 a) (NN P λa=>Ld h (a.add 12) Sl.v λb=>Ld h (n.add 1) mI λc=>Ld h o mI λd=>Jm d h (λd e=>aT h e (n.add 1) 1 <|aT h e (a.add 12) 1 <|Fq b c d e (λa b=>NN P λc=>St b (c.add 12) (Sl.v a) λa=>K 0 a) Kp) Kp)))))):WQ K Kp P n o a x h:=jf H
theorem C2{K:bU}(H:If x (NN P λa=>Ld h (a.add 14) Sl.v λa=>Ld h (n.add 2) .string λb=>aP ((a.n:Int)+(b.size:Int)) λa=>aV (a>65536) (K 4 h) (NN P λa=>Ld h (a.add 14) Sl.v λa=>Ld h (n.add 2) .string λb=>Ap h Y8 #[(.int .u8 0)] 1 1 a b.size (λa=>a=b.data.toList.map λa=>Value.int .u8 a.toNat) λa b=>NN P λc=>St b (c.add 14) (Sl.v a) λa=>NN P λb=>Ld a (b.add 13) Sl.v λc=>NN P λd=>Ld a (d.add 14) Sl.v λd=>aI a #[(ah (d.n:Int))] Y6 λd e=>aT a e (b.add 13) 1 <|Ap e Y6 #[(ah 0)] 1 8 c 1 (rd e (some d) (1*1)) λa b=>NN P λc=>St b (c.add 13) (Sl.v a) λa=>K 0 a)) (If (a==14) (NN P λa=>Ld h (a.add 12) Sl.v λa=>Ld h (n.add 2) .string λb=>Ap h Y8 #[(.int .u8 0)] 1 1 a b.size (λa=>a=b.data.toList.map λa=>Value.int .u8 a.toNat) λa b=>NN P λc=>St b (c.add 12) (Sl.v a) λa=>K 0 a) (If (a==15) (WQ K Kp P n o a (a==15) h) (WQ K Kp P n o a (a==16) h)))):Nu K Kp P n o a x h:=jf H
theorem aCp{K:bU}(H:NN P λa=>Ld h (a.add 10) Sl.v λa=>aI h #[(.int .u8 1)] Y8 λb c=>Ap c Y8 #[(.int .u8 0)] 1 1 a 1 (rd c (some b) (1*1)) λa b=>NN P λc=>St b (c.add 10) (Sl.v a) λa=>Ld a o mI λb=>If (b==12) (Nu K Kp P n o b (b==12) a) (Nu K Kp P n o b (b==13) a)):Nx K Kp P n o h:=jf H
theorem aFz{K:bU}(H:iP h x a V A λa b=>NN P λc=>Ld b (c.add 7) mI λc=>aV (c>=4096) (K 3 b) (NN P λc=>Ld b (c.add 7) mI λc=>aP (c+1) λc=>NN P λd=>St b (d.add 7) (ah c) λb=>NN P λc=>Ld b (c.add 9) mI λd=>bP b a λe f g i=>Jn e f g i 4194304 b (λe f=>aT b f (c.add 9) 1 <|aP (d+e) λb=>NN P λc=>St f (c.add 9) (ah b) λb=>NN P λc=>iq b (c.add 2) λc d e f g=>aI b pn kJ λb i=>mb i b c d e f g λc=>Ld c b mI λd=>If (d==20) (bP c a λa b d e=>XX P a b d e c (λa b=>K a b) Kp) (Ld c a .bool λd=>If d (NN P λa=>Ld c (a.add 8) mI λa=>aP (a+1) λa=>NN P λb=>St c (b.add 8) (ah a) λa=>OO P a (λa b=>K a b) Kp) (Nx K Kp P a b c))) Kp)):OR P x a V A h K Kp:=cJ (xV K Kp) dr K Tryz.func62 H
def aeQ:=mc aE Tryz.f63 (am [(2002,135)]) [] gX
def RR:=fK 21 [2,0,1,7] [tI,.s,tI,tI]
def ahg:=lK aeQ 2002 26 RR
theorem aAF{K:gE}:Wt (A0:=Sl) (A1:=Int) (A2:=Int) (ahg K Kp a) (RR a) λb c d e f=>(aV (e<a) (Wr .u8 d λg=>aI f #[(.int .u8 g)] Y8 λf g=>Ap g Y8 #[(.int .u8 0)] 1 1 c 1 (rd g (some f) (1*1)) λc f=>Nn 8<|Lt (Int.fdiv d (2^(min (Int.toNat 8) (IntKind.bits .i64)))) λd=>aP (e+1) λe=>b (RR a c d e) f) (K c f)):=ab9
theorem aFB{K:gE}(H:ahg K Kp b A a 0 h):Fq A a b h K Kp:=cJ (aeQ K Kp) gX K Tryz.func63 H
theorem aGw{K:jn}(H:aI h (Value.cells Y) af2 λa b=>aI b #[(.nilFunc)] af1 λb c=>NA (.func (.func 65) #[] #[(c9 a),(c9 n),(c9 b)]) <|St c b (.func (.func 65) #[] #[(c9 a),(c9 n),(c9 b)]) λa=>Ld a b id λb=>Ld a o Sl.v λc=>cZ aE b [(.slice none 0 0),(Sl.v c),(.bool false)] a (λa b=>∃c:Bool,a=(.bool c)/\(K  b)) Kp):aGx Y n o h K Kp:=dc kO K Tryz.func64 H
def Cg:=mc aE Tryz.f65 (am [(2001000,57407),(2002,57407),(1002903000,122943),(2000004,60479),(2000005,64575),(2000007,63551)]) [] dz
def zI:=fK 56 [0,1,2,3,4,5,13,14,15] [.s,.s,.b,.d,.d,.d,.s,tI,tI]
def ai5:=qt Cg 5 6759 [.s,.s,.b,.d,.d,.d,.d,.s,.s,tI,tI]
def ai6:=qt Cg 4 3379 [.s,.s,.b,.d,.d,.d,tI,.d,.s,.s,tI,tI]
def ai7:=qt Cg 3 1689 [.s,.s,.b,.d,.d,.d,tI,.d,.s,tI,tI]
def ai8:=qt Cg 2 105 [.s,.s,.b,.d,.d,.d,.s,tI,tI,.b]
def ahB:=lK Cg 2002 26 zI
def ai9:=jK Cg 0 13 [.s,.s,.b,.d,.d,.d,.s,tI,tI]
theorem aDa{K:bE}(H:Ld h o mI λc=>aV ((C.n:Int)<c) (Ld h p id λc=>Ld h ((q.add 2).add 4) Sl.v λd=>If x (cZ aE c [(Sl.v C),(Sl.v d),(.bool true)] h (λc d=>∃e:Bool,c=(.bool e)/\(If (!e) (K false d) (aP (b+1) λb=>N1 (zI A B x n o p D a b) d))) Kp) (Ld h (q.add 2) mI λe=>cZ aE c [(Sl.v C),(Sl.v d),(.bool (e==19))] h (λc d=>∃e:Bool,c=(.bool e)/\(If (!e) (K false d) (aP (b+1) λb=>N1 (zI A B x n o p D a b) d))) Kp)) (aP (b+1) λb=>N1 (zI A B x n o p D a b) h)):ai5 K Kp N1 A B x n o p q C D a b h:=jf H
theorem aDb{K:bE}(H:Ld h n id λd=>jo B 7 none (some a) none λa=>bR h q λe f g i j k l=>cZ aE d [(.agg #[(Sl.v C),(Sl.v a),(.string e),(.bool f),(ah g),(ah i),(ah j),(ah k),(Sl.v l),(.bool x)])] h (λa d=>∃e:Bool,a=(.bool e)/\(If (!e) (K false d) (ai5 K Kp N1 A B x n o p q C D b c d))) Kp):ai6 K Kp N1 A B x n o p a q C D b c h:=jf H
theorem aDc{K:bE}(H:Yi A h (λd e=>aI e #[(ah a)] Y6 λe f=>Ap f Y6 #[(ah 0)] 1 8 d 1 (rd f (some e) (1*1)) λd e=>ai6 K Kp N1 A B x n o p a q d C b c e) Kp):ai7 K Kp N1 A B x n o p a q C b c h:=jf H
theorem aDd{K:bE}(H:If y (Ix C.a C.n 7 b λc=>bR h c λc d e f g i j=>aI h mg gO λk l=>jN l k c d e f g i j λc=>ai7 K Kp N1 A B x n o p b k C a b c) (K true h)):ai8 K Kp N1 A B x n o p C a b y h:=jf H
theorem aA0{K:bE}:eZ (A0:=Int) (ahB K Kp A B x n o p C a) (zI A B x n o p C a) λb c d=>(ai8 K Kp b A B x n o p C a c (decide (c<a)) d):=fc
theorem aDe{K:bE}(H:ahB K Kp A B x n o p C a b h):ai9 K Kp A B x n o p C a b h:=jf H
theorem aGv{K:bE}(H:ai9 K Kp A B x n o p B (B.n:Int) 0 h):aj4 A B x n o p h K Kp:=cJ (Cg K Kp) dz K Tryz.func65 H
theorem aF9{K:gE}(H:If (Option.isNone A.a) (K bN h) (aI h #[] Y6 λa b=>Ap b Y6 #[(ah 0)] 1 8 (⟨some a,0,0⟩:Sl) A.n (rd b A.a (A.n*1)) λa b=>K a b)):Yi A h K Kp:=dc gX K Tryz.func66 H
def ae5:=mc aE Tryz.f67 (am [(2002,193)]) [] dz
def Gy:=fK 36 [0,6,7] [.t,tI,tI]
def ahA:=lK ae5 2002 26 Gy
theorem aAZ{K:bE}:eZ (A0:=Int) (ahA K Kp V a) (Gy V a) λb c d=>(aV (c<a) (iu V c λe=>Yo e d (λd f=>If (!d) (K false f) (If (c==0) (aV (e>=48) (aV (e<=57) (K false f) (aP (c+1) λc=>b (Gy V a c) f)) (aP (c+1) λc=>b (Gy V a c) f)) (aP (c+1) λc=>b (Gy V a c) f))) Kp) (If (!(V.toList==(bs []).toList)) (K (decide ((V.size:Int)<=48)) d) (K false d))):=fc
theorem aGu{K:bE}(H:ahA K Kp V (V.size:Int) 0 h):Yw V h K Kp:=cJ (ae5 K Kp) dz K Tryz.func67 H
theorem aF8{K:bE}(H:aj2 A Y h (λa b=>K (decide (a>=0)) b) Kp):Yh A Y h K Kp:=dc dz K Tryz.func68 H
theorem aGs{K:bE}(H:gk h V x a b c d A λa b=>Ld b a .string λa=>Ld b (n.add 2) .string λc=>K (a.toList==c.toList) b):aGt V x a b c d A n h K Kp:=dc dz K Tryz.func69 H
def xW:=mc aE Tryz.f70 (am [(2000019,122),(2000022,218),(2000023,474),(2000025,410),(65004,18889465931478580854810),(65011,2417851639229258349412370),(64008,288230376151711898),(64013,9223372036854775962)]) [] dz
def W8:=rK xW 5 2046 [.d,tI,.b]
def W9:=rK xW 4 2046 [.d,tI,tI,.b]
def NY:=jK xW 3 1023 [.d,tI,tI,.b,.b]
def W6:=rK xW 7 4090 [.d,tI,tI,.b,.b]
def W7:=rK xW 6 4090 [.d,tI,tI,.b,.b]
def Xa:=jK xW 2 511 [.d,tI,tI,.b,.b,.b]
def NZ:=jK xW 1 255 [.d,tI,tI,.b,.b]
def rJ:=jK xW 0 63 [.d,tI,tI,tI,.b]
theorem I6{K:bE}(H:If x (Ld h (n.add 4) Sl.v λb=>K (decide ((b.n:Int)<=a)) h) (K false h)):W8 K Kp n a x h:=jf H
theorem I7{K:bE}(H:If x (Ld h (n.add 4) Sl.v λc=>W8 K Kp n b (decide ((c.n:Int)>=a)) h) (W8 K Kp n b false h)):W9 K Kp n a b x h:=jf H
theorem I8{K:bE}(H:If x (W9 K Kp n a b y h) (W9 K Kp n a b false h)):NY K Kp n a b x y h:=jf H
theorem NX{K:bE}(H:If y (Ld h (n.add 3) mI λc=>Ix (some ((aJ 0))) 21 4 c λc=>Ld h (c.add 3) .bool λc=>NY K Kp n a b x c h) (NY K Kp n a b x false h)):W6 K Kp n a b x y h:=jf H
theorem ai1{K:bE}(H:If y (Ld h (n.add 3) mI λc=>O1 c h (λc d=>W6 K Kp n a b x c d) Kp) (W6 K Kp n a b x false h)):W7 K Kp n a b x y h:=jf H
theorem ai2{K:bE}(H:If x (Ld h (n.add 2) mI λc=>aV (c>=0) (Ld h (n.add 2) mI λc=>W7 K Kp n a b y (decide (c<32)) h) (W7 K Kp n a b y false h)) (NY K Kp n a b y z h)):Xa K Kp n a b x y z h:=jf H
theorem ai3{K:bE}(H:Ld h (n.add 2) mI λc=>If (c==0) (Ld h (n.add 3) mI λc=>Xa K Kp n a b x y (c==0) h) (Xa K Kp n a b x y false h)):NZ K Kp n a b x y h:=jf H
theorem ai4{K:bE}(H:Ld h (n.add 1) mI λd=>aV (c>0) (Ld h (n.add 1) mI λd=>aV (d>=1) (Ld h (n.add 1) mI λd=>NZ K Kp n a b x (decide (d<=c)) h) (NZ K Kp n a b x false h)) (NZ K Kp n a b x (d==0) h)):rJ K Kp n a b c x h:=jf H
theorem aGr{K:bE}(H:wR h a b c d A λa b=>Ld b a mI λc=>O1 c b (λb c=>If (!b) (K false c) (Ld c a mI λb=>If (b==14) (rJ K Kp a 0 0 16 false c) (If (b==15) (If (b==15) (rJ K Kp a 1 1 0 false c) (If (b==16) (rJ K Kp a 1 1 64 false c) (If (b==17) (rJ K Kp a 0 32 0 false c) (If (b==18) (rJ K Kp a 1 32 0 false c) (If (b==19) (rJ K Kp a 1 1 0 true c) (rJ K Kp a 0 0 0 false c)))))) (If (b==20) (rJ K Kp a 1 1 0 false c) (If (b==16) (rJ K Kp a 1 1 64 false c) (If (b==17) (rJ K Kp a 0 32 0 false c) (If (b==18) (rJ K Kp a 1 32 0 false c) (If (b==19) (rJ K Kp a 1 1 0 true c) (rJ K Kp a 0 0 0 false c))))))))) Kp):Yv a b c d A h K Kp:=cJ (xW K Kp) dz K Tryz.func70 H
theorem aGq{K:bE}(H:gk h V x a b c d A λa b=>Ld b (a.add 2) mI λc=>If (c==1) (Ld b (a.add 1) .bool λa=>K a b) (If (c==18) (Ld b (a.add 1) .bool λa=>K (!a) b) (If (c==20) (Ld b (a.add 1) .bool λc=>Ld b ((a.add 2).add 4) Sl.v λa=>Ix a.a a.n 7 0 λa=>Ld b (a.add 1) .bool λa=>K (c==a) b) (K true b)))):Yu V x a b c d A h K Kp:=dc dz K Tryz.func71 H
def Uz:=mc aE Tryz.f72 (am [(2000003,2),(2001,2)]) [] dz
def Ni:=jK Uz 0 7 [.d]
def RE:=fK 27 [1] [.d]
def ag8:=lK Uz 2001 12 RE
theorem aB1{K:bE}(H:Ld h (n.add 1) .bool λa=>If a (Ld h (n.add 2) mI λa=>K (a !=18) h) (K false h)):Ni K Kp n h:=jf H
theorem aAs{K:bE}:Wu (ag8 K Kp n) (RE n) λa b=>(Ld b (n.add 2) mI λc=>If (c==20) (Ld b ((n.add 2).add 4) Sl.v λc=>If ((c.n:Int)==1) (Ld b ((n.add 2).add 4) Sl.v λc=>Ix c.a c.n 7 0 λc=>bR b c λc d e f g i j=>jN b n c d e f g i j λb=>a (RE n) b) (Ni K Kp n b)) (Ni K Kp n b)):=ar7
theorem aFn{K:bE}(H:gk h V x a b c d A λa b=>ag8 K Kp a b):Jj V x a b c d A h K Kp:=cJ (Uz K Kp) dz K Tryz.func72 H
theorem aD1{K:iY}(H:aI h kN kI λc d=>dZ d c a bN b λa=>eO a c λb c d=>K b c d a):nJ a b h K Kp:=dc n5 K Tryz.func74 H
def Ai:=mc aE Tryz.f75 (am [(2000004,28),(2000007,28),(2000017,284),(2000021,284),(2024,1057810092162800527917072),(2009,60129542428),(2000012,60129549084)]) [(11,(OT.l [0,1,3] (.alt (OT.l [2] (.alt (OT.l [4,5,6,7,8,9,10] .fin) (OT.l [8,4,5,6,7,9,10] .fin))) (OT.l [8,2,4,5,6,7,9,10] .fin))))] Qs
def Sk:=fK 92 [4,14,77,78,15,79] [.d,.s,.s,tI,tI,tI]
def ahT:=lK Ai 2024 4090 Sk
def Xy:=jK Ai 3 127 [.d,.d,.d,.s]
def ajp:=jK Ai 2 63 [.d,.d,.d,.s]
def abY:=fK 92 [2,3,4,33,34,8,35] [.d,.d,.d,.s,tI,.s,tI]
def Xx:=qt Ai 6 32051 [.d,.d,.d,.s,tI,.d,.s,.s,tI,tI]
def ahS:=lK Ai 2009 250 abY
def ajq:=jK Ai 1 15 [.d,.d,.d]
def ajr:=jK Ai 0 7 [.d,.d,.d]
theorem aBn{K:AF}:jP (A0:=Int) (A1:=Int) (ahT K Kp n A B a) (Sk n A B a) λb c d e=>(aV (d<a) (Ix B.a B.n 1 d λf=>Ld e f mI λf=>aP (c+f) λc=>aP (d+1) λd=>b (Sk n A B a c d) e) (aV (c>4194304) (nJ 3 1 e (λa b c d=>dZ d n a b c λa=>eO a n λb c d=>K b c d bN a) Kp) (dZ e n 0 bN 0 λa=>eO a n λb c d=>K b c d A a))):=jW
theorem aDR{K:AF}(H:bR h n λa b c d e f g=>cg h o λi j k l m n=>YN a b c d e f g i j k l m n A h (λa b=>ahT K Kp p a a (a.n:Int) 0 0 b) Kp):Xy K Kp n o p A h:=jf H
theorem aDS{K:AF}(H:Ld h (n.add 2) mI λa=>If (a==20) (cg h o λa b c d e f=>aGX a b c d e f h (λa b c d=>aI d kN kI λd e=>dZ e d a b c λa=>Ld a d mI λb=>If (b !=0) (eO a d λb c d=>dZ a p b c d λa=>eO a p λb c d=>K b c d bN a) (Xy K Kp n o p A a)) Kp) (Xy K Kp n o p A h)):ajp K Kp n o p A h:=jf H
theorem aBm{K:AF}:jP (A0:=Sl) (A1:=Int) (ahS K Kp n o p A a) (abY n o p A a) λb c d e=>(aV (d<a) (Ix A.a A.n 6 d λf=>cg e f λf g i j k l=>aI e cX ck λe m=>cL m e f g i j k l λf=>bR f n λg i j k l m q=>cg f e λr s t u v w=>(aj7 g i j k l m q d f (λg i j k l m q x=>aT f x e 6 <|(Fy g i j k l m q r s t u v w x (λf g i j k=>aI k kN kI λl m=>aT k m e 6 <|aT k m n 7 <|dZ m l f g i λe=>Xx K Kp b n o p c d l j A a d e) Kp)/\(aI x kN kI λf y=>aT x y e 6 <|aT x y n 7 <|Fy g i j k l m q r s t u v w y (λe g i j k=>dZ k f e g i λe=>Xx K Kp b n o p c d f j A a d e) Kp)) Kp)/\(aI f kN kI λx y=>aT f y e 6 <|aT f y n 7 <|aj7 g i j k l m q d y (λf g i j k l m q=>aT y q e 6 <|Fy f g i j k l m r s t u v w q (λe f g i j=>dZ j x e f g λe=>Xx K Kp b n o p c d x i A a d e) Kp) Kp)) (ajp K Kp n o p c e)):=jW
theorem aDT{K:AF}(H:cg h o λa b c d e f=>YV a b c d e f h (λa b=>ahS K Kp n o p a (a.n:Int) bN 0 b) Kp):ajq K Kp n o p h:=jf H
theorem aDU{K:AF}(H:bR h n λa b c d e f g=>cg h o λi j k l m q=>YO a b c d e f g i j k l m q h (λa b c d=>aI d kN kI λd e=>dZ e d a b c λa=>Ld a d mI λb=>If (b !=0) (eO a d λb c d=>dZ a p b c d λa=>eO a p λb c d=>K b c d bN a) (ajq K Kp n o p a)) Kp):ajr K Kp n o p h:=jf H
theorem aHf{K:AF}(H:gk h V x a b c d A λa b=>oo b e f g B C D λb c=>aI c kN kI λc d=>bR d a λe f g i j k l=>cg d b λm n p q r s=>YP e f g i j k l m n p q r s d (λd e f g=>aI g kN kI λg i=>dZ i g d e f λd=>Ld d g mI λe=>If (e !=0) (eO d g λa b e=>dZ d c a b e λa=>eO a c λb c d=>K b c d bN a) (ajr K Kp a b c d)) Kp):Fy V x a b c d A e f g B C D h K Kp:=cJ (Ai K Kp) Qs K Tryz.func75 H
def UF:=mc aE Tryz.f76 (am [(3400005,24),(3700008,520)]) [] Gj
def Of:=jK UF 1 215 [tI,.b]
def Og:=jK UF 0 53 [tI,.b]
theorem aDP{K:AE}(H:If x (K (.iface af8 (.agg #[])) h) (If (a==17) (K (.iface af7 (.agg #[])) h) (If (a==18) (K (.iface af6 (.agg #[])) h) (If (a==19) (K (.iface af5 (.agg #[])) h) (If (a==20) (K (.iface af4 (.agg #[])) h) (K (.iface IL (.agg #[])) h)))))):Of K Kp a x h:=jf H
theorem aDQ{K:AE}(H:If x (K (.iface af9 (.agg #[])) h) (If (a==15) (Of K Kp a (a==15) h) (Of K Kp a (a==16) h))):Og K Kp a x h:=jf H
theorem aHe{K:AE}(H:If (a==12) (Og K Kp a (a==12) h) (Og K Kp a (a==13) h)):YX a h K Kp:=cJ (UF K Kp) Gj K Tryz.func76 H
theorem aGb{K:gE}(H:If (Option.isNone A.a) (K bN h) (aI h #[] gO λa b=>Ap b gO mg 7 80 (⟨some a,0,0⟩:Sl) A.n (rd b A.a (A.n*7)) λa b=>K a b)):aj3 A h K Kp:=dc gX K Tryz.func77 H
theorem aGa{K:gE}(H:If (Option.isNone A.a) (K bN h) (aI h #[] fQ λa b=>Ap b fQ #[(.slice none 0 0)] 1 24 (⟨some a,0,0⟩:Sl) A.n (rd b A.a (A.n*1)) λa b=>K a b)):Yj A h K Kp:=dc gX K Tryz.func78 H
def afe:=mc aE Tryz.f79 (am [(2003,456)]) [] gX
def Sj:=fK 19 [6,7,3,8] [.s,tI,.s,tI]
def ahR:=lK afe 2003 58 Sj
theorem aBl{K:gE}:jP (A0:=Sl) (A1:=Int) (ahR K Kp A a) (Sj A a) λb c d e=>(aV (d<a) (Ix A.a A.n 6 d λf=>cg e f λf g i j k l=>aI e cX ck λe m=>cL m e f g i j k l λf=>cg f e λe g i j k l=>Ok e g i j k l f (λe f g i j k l=>aI l #[(ah e),(ah f),(ah g),(Sl.v i),(Sl.v j),(Sl.v k)] ck λe f=>Ap f ck cX 6 96 c 1 (rd f (some e) (1*6)) λc e=>aP (d+1) λd=>b (Sj A a c d) e) Kp) (K c e)):=jW
theorem aHd{K:gE}(H:ahR K Kp A (A.n:Int) bN 0 h):O7 A h K Kp:=cJ (afe K Kp) gX K Tryz.func79 H
def UE:=mc aE Tryz.f80 (am [(2002,6155),(46006,1073748027)]) [] kO
def Si:=fK 39 [0,1,11,3,12] [uA,.d,tI,tI,tI]
def Xw:=rK1 UE 1 7374 [uA,.d,tI,tI,.d,tI,tI,.b]
def ahQ:=lK UE 2002 14 Si
theorem aDO{K:jn}(H:If x (K  h) (bP h o λe f g i=>cZ aE Y [(ah b),(.agg #[(.bool e),(ah f),(.string g),(Sl.v i)])] h (λb e=>∃f:Bool,b=(.bool f)/\(If (!f) (K  e) (aP (d+1) λb=>N1 (Si Y n c a b) e))) Kp)):Xw K Kp N1 Y n a b o c d x h:=jf H
theorem aBk{K:jn}:jP (A0:=Int) (A1:=Int) (ahQ K Kp Y n a) (Si Y n a) λb c d e=>(aV (d<a) (Ld e n .pointer λf=>XE f d e (λe f g i j k l=>aI l fY dh λl m=>dL m l e f g i λe=>aP (c-j) λc=>If (k !=0) (Xw K Kp b Y n c d l a d true e) (Xw K Kp b Y n c d l a d (decide (c<0)) e)) Kp) (K  e)):=jW
theorem aHb{K:jn}(H:Ld h n .pointer λa=>NN a λa=>Ld h (a.add 14) mI λa=>ahQ K Kp Y n a 4194304 0 h):aHc Y n h K Kp:=cJ (UE K Kp) kO K Tryz.func80 H
def L6:=mc aE Tryz.f82 (am [(41006,257),(41014,65537),(41022,16777217)]) [] dz
def NV:=rK L6 2 6 [.i .u8,.b]
def NW:=rK L6 1 6 [.i .u8,.b]
def W3:=rK L6 0 6 [.i .u8,.b]
theorem aC5{K:bE}(H:If x (K true h) (K (a==95) h)):NV K Kp a x h:=jf H
theorem aC6{K:bE}(H:If x (NV K Kp a true h) (aV (a>=48) (NV K Kp a (decide (a<=57)) h) (NV K Kp a false h))):NW K Kp a x h:=jf H
theorem aC7{K:bE}(H:If x (NW K Kp a true h) (aV (a>=65) (NW K Kp a (decide (a<=90)) h) (NW K Kp a false h))):W3 K Kp a x h:=jf H
theorem aGk{K:bE}(H:aV (a>=97) (W3 K Kp a (decide (a<=122)) h) (W3 K Kp a false h)):Yp a h K Kp:=cJ (L6 K Kp) dz K Tryz.func82 H
def HY:=mc aE Tryz.f83 (am [(2000003,21),(2004,60129542161),(2000009,60129542929),(41010,524309)]) [] dz
def RD:=fK 54 [0,4,33,34,35] [.p,.d,.s,tI,tI]
def Ng:=qt HY 2 14951 [.p,.d,.d,tI,.s,tI,tI]
def ag7:=lK HY 2004 58 RD
def Nh:=jK HY 0 7 [.p,.s,.d]
def Nf:=rK HY 3 12 [.p,.s,.d,.b]
theorem aBZ{K:bE}(H:Ld h (n.add 4) Sl.v λd=>Ix d.a d.n 7 a λa=>bR h a λa d e f g i j=>bP h o λk l m p=>AR P a d e f g i j k l m p h (λa d=>If (!a) (K false d) (aP (c+1) λa=>N1 (RD P n A b a) d)) Kp):Ng K Kp N1 P n o a A b c h:=jf H
theorem aAr{K:bE}:eZ (A0:=Int) (ag7 K Kp P n A a) (RD P n A a) λb c d=>(aV (c<a) (Ix A.a A.n 4 c λe=>bP d e λe f g i=>aI d fY dh λd j=>dL j d e f g i λe=>Ld e n mI λf=>If (f==17) (Ng K Kp b P n d c A a c e) (Ng K Kp b P n d 0 A a c e)) (K true d)):=fc
theorem aB0{K:bE}(H:ag7 K Kp P n A (A.n:Int) 0 h):Nh K Kp P A n h:=jf H
theorem aio{K:bE}(H:If x (K false h) (Ld h n mI λa=>If (a==17) (Ld h (n.add 4) Sl.v λa=>If ((A.n:Int)!=(a.n:Int)) (K false h) (Nh K Kp P A n h)) (Nh K Kp P A n h))):Nf K Kp P A n x h:=jf H
theorem aFm{K:bE}(H:wR h a b c d A λa b=>Ld b a mI λc=>If (c==16) (Ld b (a.add 1) mI λc=>Nf K Kp P B a ((B.n:Int)!=c) b) (Nf K Kp P B a false b)):XW P a b c d A B h K Kp:=cJ (HY K Kp) dz K Tryz.func83 H
def Ey:=mc aE Tryz.f84 (am [(2001,1),(2000011,9),(3609999,16777217),(3809999,549755813889),(2009,1)]) [(9,(OT.l [0,1,2,3,4,6,7,10,11,13,14,5,8,9,12,15,16,17,18,19,20] .fin)),(7,(OT.l [0,1,2,3,4,6,7,5,8,9,10,11,12] .fin))] dz
def vT:=fK 169 [0] [.t]
def aiZ:=qt Ey 1 395 [.t,.i .u8]
def R3:=fK 169 [0] [.t]
def ahw:=DV Ey 2009 808282 R3
def NR:=qt Ey 3 101035 [.t,.b]
def NS:=qt Ey 2 12629 [.t,.b]
def ahx:=lK Ey 2001 12 vT
theorem aC1{K:bE}(H:Ix (some ((aJ 1))) 256 1 a λa=>Ld h a (.int .u8) λa=>Lt (gJ .and .u8 a 7) λb=>aP b λb=>Nn 4<|Lt (Int.fdiv a (2^(min (Int.toNat 4) (IntKind.bits .u8)))) λa=>Ix (some ((aJ 2))) 16 2 a λa=>Ld h a (.int .u8) λc=>Ld h (a.add 1) (.int .u8) λa=>aI h #[(.int .u8 0),(.int .u8 0)] af0 λd e=>St e d (.int .u8 c) λc=>St c (d.add 1) (.int .u8 a) λa=>If (b==2) (aV ((V.size:Int)<2) (K false a) (iu V 1 λb=>Ld a d (.int .u8) λc=>aV (b<c) (K false a) (Ld a (d.add 1) (.int .u8) λb=>iu V 1 λc=>aV (b<c) (K false a) (qG V (some 2) none λb=>N1 (vT b) a)))) (If (b==3) (aV ((V.size:Int)<3) (K false a) (iu V 1 λb=>Ld a d (.int .u8) λc=>aV (b<c) (K false a) (Ld a (d.add 1) (.int .u8) λb=>iu V 1 λc=>aV (b<c) (K false a) (iu V 2 λb=>aV (b<128) (K false a) (iu V 2 λb=>aV ((191:Int)<b) (K false a) (qG V (some 3) none λb=>N1 (vT b) a)))))) (If (b==4) (aV ((V.size:Int)<4) (K false a) (iu V 1 λb=>Ld a d (.int .u8) λc=>aV (b<c) (K false a) (Ld a (d.add 1) (.int .u8) λb=>iu V 1 λc=>aV (b<c) (K false a) (iu V 2 λb=>aV (b<128) (K false a) (iu V 2 λb=>aV ((191:Int)<b) (K false a) (iu V 3 λb=>aV (b<128) (K false a) (iu V 3 λb=>aV ((191:Int)<b) (K false a) (qG V (some 4) none λb=>N1 (vT b) a)))))))) (K false a)))):aiZ K Kp N1 V a h:=jf H
theorem aAV{K:bE}:eZ (A0:=BA) (ahw K Kp N1) (R3) λa b c=>(aV ((b.size:Int)>32) (qG b (some 8) none λd=>qG b (some 16) none λe=>qG b (some 24) none λf=>wV b c (λc g=>wV d g (λd g=>Lt (gJ .or .u64 c d) λc=>wV e g (λd e=>wV f e (λe f=>Lt (gJ .or .u64 d e) λd=>Lt (gJ .or .u64 c d) λc=>Lt (gJ .and .u64 c 9259542123273814144) λc=>If (c==0) (qG b (some 32) none λb=>a (R3 b) f) (N1 (vT b) f)) Kp) Kp) Kp) Kp) (N1 (vT b) c)):=fc
theorem aCZ{K:bE}(H:If x (qG V (some 16) none λa=>ahw K Kp N1 a h) (N1 (vT V) h)):NR K Kp N1 V x h:=jf H
theorem aC0{K:bE}(H:If x (qG V (some 8) none λa=>aV ((a.size:Int)>16) (qG a (some 8) none λb=>wV a h (λc d=>wV b d (λb d=>Lt (gJ .or .u64 c b) λb=>Lt (gJ .and .u64 b 9259542123273814144) λb=>NR K Kp N1 a (b==0) d) Kp) Kp) (NR K Kp N1 a false h)) (N1 (vT V) h)):NS K Kp N1 V x h:=jf H
theorem aAW{K:bE}:eZ (A0:=BA) (ahx K Kp) (vT) λa b c=>(aV ((b.size:Int)>0) (iu b 0 λd=>aV (d<128) (qG b (some 1) none λb=>aV ((b.size:Int)>8) (wV b c (λc d=>Lt (gJ .and .u64 c 9259542123273814144) λc=>NS K Kp a b (c==0) d) Kp) (NS K Kp a b false c)) (aiZ K Kp a b d c)) (K true c)):=fc
theorem aF5{K:bE}(H:ahx K Kp V h):Yf V h K Kp:=cJ (Ey K Kp) dz K Tryz.func84 H
theorem aFl{K:bE}(H:aV (a>=3) (K (decide (a<=10)) h) (K false h)):XV a h K Kp:=dc dz K Tryz.func85 H
theorem AQ{K:bE}(H:ajU a h (λa c d=>If (a==64) (K true d) (If c (aP (a-1) λc=>Nn c<|aP ((-1:Int)*2^(min (Int.toNat c) (IntKind.bits .i64))) λc=>aV (b>=c) (aP (a-1) λa=>Nn a<|aP ((1:Int)*2^(min (Int.toNat a) (IntKind.bits .i64))) λa=>K (decide (b<a)) d) (K false d)) (aV (b>=0) (Nn a<|aP ((1:Int)*2^(min (Int.toNat a) (IntKind.bits .i64))) λa=>K (decide (b<a)) d) (K false d)))) Kp):XU a b h K Kp:=dc dz K Tryz.func86 H
def aeP:=mc aE Tryz.f87 (am [(2000003,2)]) [] dz
def aiv:=jK aeP 0 7 [.d]
theorem aCb{K:bE}(H:Ld h (n.add 1) .bool λa=>If a (Ld h (n.add 2) mI λa=>K (a !=18) h) (K false h)):aiv K Kp n h:=jf H
theorem aFu{K:bE}(H:gk h V x a b c d A λa b=>Ld b (a.add 2) mI λc=>If (c==20) (Ld b ((a.add 2).add 4) Sl.v λa=>Ix a.a a.n 7 0 λa=>bR b a λa c d e f g i=>OQ a c d e f g i b (λa b=>K a b) Kp) (aiv K Kp a b)):OQ V x a b c d A h K Kp:=cJ (aeP K Kp) dz K Tryz.func87 H
theorem aFt{K:bE}(H:aV (a>=2) (K (decide (a<=11)) h) (K false h)):X0 a h K Kp:=dc dz K Tryz.func88 H
theorem aFs{K:bE}(H:If (a==2) (If (b==0) (K true h) (K (b==1) h)) (If (a==3) (aV (b>=(-128:Int)) (K (decide (b<=127)) h) (K false h)) (If (a==4) (aV (b>=(-32768:Int)) (K (decide (b<=32767)) h) (K false h)) (If (a==5) (aV (b>=(-2147483648:Int)) (K (decide (b<=2147483647)) h) (K false h)) (If (a==7) (aV (b>=0) (K (decide (b<=255)) h) (K false h)) (If (a==8) (aV (b>=0) (K (decide (b<=65535)) h) (K false h)) (If (a==9) (aV (b>=0) (K (decide (b<=4294967295)) h) (K false h)) (K true h)))))))):XZ a b h K Kp:=dc dz K Tryz.func89 H
def afb:=mc aE Tryz.f90 (am [(2002,9)]) [] dz
def Se:=fK 17 [0,3] [.t,tI]
def ahN:=lK afb 2002 26 Se
theorem aBh{K:bE}:eZ (A0:=Int) (ahN K Kp V) (Se V) λa b c=>(aV (b<(V.size:Int)) (YH V b c (λc d=>If (c==0) (K false d) (aP (b+c) λb=>a (Se V b) d)) Kp) (K true c)):=fc
theorem aG2{K:bE}(H:ahN K Kp V 0 h):YR V h K Kp:=cJ (afb K Kp) dz K Tryz.func90 H
def L0:=mc aE Tryz.f91 (am [(2000015,44),(2016,108),(2000021,236)]) [] dz
def RM:=fK 98 [2,3,5,6] [.d,.d,tI,tI]
def Nk:=qt L0 2 7827 [.d,.d,tI,tI,tI]
def ahd:=lK L0 2016 122 RM
def Fi:=jK L0 0 15 [.d,.d,tI]
theorem aB9{K:bE}(H:Ld h (n.add 4) Sl.v λd=>Ix d.a d.n 7 c λc=>bR h c λc d e f g i j=>Ld h (o.add 3) Sl.v λk=>Ix k.a k.n 4 b λk=>bP h k λk l m p=>AS c d e f g i j k l m p h (λc d=>If (!c) (K false d) (aP (b+1) λb=>N1 (RM n o a b) d)) Kp):Nk K Kp N1 n o a b c h:=jf H
theorem aAA{K:bE}:eZ (A0:=Int) (ahd K Kp n o a) (RM n o a) λb c d=>(aV (c<a) (Ld d n mI λe=>If (e==17) (Nk K Kp b n o a c c d) (Nk K Kp b n o a c 0 d)) (K true d)):=fc
theorem aCa{K:bE}(H:ahd K Kp n o a 0 h):Fi K Kp n o a h:=jf H
theorem aFr{K:bE}(H:wR h a b c d A λa b=>iP b x e V B λb c=>Ld c (b.add 3) Sl.v λd=>Ld c a mI λe=>If (e==15) (aV ((d.n:Int)>4096) (K false c) (Ld c (b.add 1) mI λe=>If (e !=0) (K false c) (Fi K Kp a b (d.n:Int) c))) (If (e==16) (Ld c (a.add 1) mI λe=>If ((d.n:Int)!=e) (K false c) (Ld c (b.add 1) mI λe=>If (e !=0) (K false c) (Fi K Kp a b (d.n:Int) c))) (If (e==17) (Ld c (a.add 4) Sl.v λe=>If ((d.n:Int)!=(e.n:Int)) (K false c) (Ld c (b.add 1) mI λe=>If (e !=0) (K false c) (Fi K Kp a b (d.n:Int) c))) (If (e==18) (If ((d.n:Int)==1) (Ld c (b.add 1) mI λd=>aV (d>=0) (Ld c (b.add 1) mI λd=>Ld c (a.add 4) Sl.v λe=>aV (d<(e.n:Int)) (Ld c (a.add 4) Sl.v λa=>Ld c (b.add 1) mI λd=>Ix a.a a.n 7 d λa=>bR c a λa d e f g i j=>Ld c (b.add 3) Sl.v λb=>Ix b.a b.n 4 0 λb=>bP c b λb k l m=>AS a d e f g i j b k l m c (λa b=>K a b) Kp) (K false c)) (K false c)) (K false c)) (K false c))))):XY a b c d A x e V B h K Kp:=cJ (L0 K Kp) dz K Tryz.func91 H
def H7:=mc aE Tryz.f92 (am [(2000005,41),(2000008,9),(2000009,9),(3309999,16777257)]) [(7,(OT.l [0,1,2,3,4,5,6,7,8,10,11] (.alt (OT.l [9,12] .fin) (OT.l [12,9] .fin))))] dr
def ait:=jK H7 2 127 [.p,.d]
def WL:=jK H7 1 63 [.p,.d]
def aiu:=jK H7 0 15 [.p,.d,tI]
def Nj:=jK H7 3 29 [.p,.d,tI,.b]
theorem aB6{K:bU}(H:NN P λa=>Ld h (a.add 18) Sl.v λa=>Ix a.a a.n 1 0 λa=>Ld h a .pointer λa=>bP h n λb c d e=>uo a b c d e h (λa b=>K a b) Kp):ait K Kp P n h:=jf H
theorem aB7{K:bU}(H:NN P λa=>Ld h (a.add 16) Sl.v λb=>NN P λc=>Ld h (c.add 7) mI λc=>aI h #[(ah c)] Y6 λc d=>aT h d (a.add 16) 1 <|Ap d Y6 #[(ah 0)] 1 8 b 1 (rd d (some c) (1*1)) λa b=>NN P λc=>St b (c.add 16) (Sl.v a) λa=>ait K Kp P n a):WL K Kp P n h:=jf H
theorem aB8{K:bU}(H:aV (a>=4096) (K 3 h) (NN P λa=>Ld h (a.add 17) Sl.v λb=>bP h n λc d e f=>aI h #[(.bool false),(ah 0),(.string (bs [])),(.slice none 0 0)] dh λg i=>aT h i n 4 <|aT h i (a.add 17) 1 <|Ap i dh fY 4 56 b 1 (rd i (some g) (1*4)) λa g=>Ix a.a a.n 4 (b.n:Int) λb=>NN P λi=>(dL g b c d e f λb=>St b (i.add 17) (Sl.v a) λa=>WL K Kp P n a)/\(St g (i.add 17) (Sl.v a) λa=>dL a b c d e f λa=>WL K Kp P n a))):aiu K Kp P n a h:=jf H
theorem ais{K:bU}(H:If x (NN P λb=>Ld h (b.add 16) Sl.v λb=>aP (a-1) λa=>Ix b.a b.n 1 a λc=>Ld h c mI λc=>aP (c+1) λc=>Ix b.a b.n 1 a λa=>St h a (ah c) λa=>K 0 a) (aiu K Kp P n a h)):Nj K Kp P n a x h:=jf H
theorem aFq{K:bU}(H:iP h x a V A λa b=>NN P λc=>Ld b (c.add 17) Sl.v λc=>aV ((c.n:Int)>0) (NN P λd=>Ld b (d.add 17) Sl.v λd=>aP ((c.n:Int)-1) λe=>Ix d.a d.n 4 e λd=>bP b d λd e f g=>bP b a λi j k l=>Jk d e f g i j k l b (λb d=>Nj K Kp P a (c.n:Int) b d) Kp) (Nj K Kp P a (c.n:Int) false b)):XX P x a V A h K Kp:=cJ (H7 K Kp) dr K Tryz.func92 H
def H6:=mc aE Tryz.f93 (am [(3800009,68736253961),(2011,25),(2016,41),(2023,129)]) [] dr
def RL:=fK 140 [0,3,4] [.p,.d,tI]
def WB:=lK H6 2011 7866 RL
def RK:=fK 140 [0,3,5] [.p,.d,tI]
def WA:=lK H6 2016 31482 RK
def RJ:=fK 140 [0,7] [.p,tI]
def Wz:=lK H6 2023 125946 RJ
def IZ:=jK H6 0 245 [.p,.d,tI,.b]
theorem aAz{K:bU}:eZ (A0:=Int) (WB K Kp P n) (RL P n) λa b c=>(Ld c (n.add 1) mI λd=>aV (b<d) (NN P λd=>Ld c (d.add 12) Sl.v λd=>aI c #[(.int .u8 0)] Y8 λc e=>Ap e Y8 #[(.int .u8 0)] 1 1 d 1 (rd e (some c) (1*1)) λc d=>NN P λe=>St d (e.add 12) (Sl.v c) λc=>aP (b+1) λb=>a (RL P n b) c) (K 0 c)):=fc
theorem aAy{K:bU}:eZ (A0:=Int) (WA K Kp P n) (RK P n) λa b c=>(Ld c (n.add 1) mI λd=>aV (b<d) (NN P λd=>Ld c (d.add 18) Sl.v λd=>Ix d.a d.n 1 0 λd=>Ld c d .pointer λd=>um d c (λc d=>If (c !=0) (K c d) (aP (b+1) λb=>a (RK P n b) d)) Kp) (K 0 c)):=fc
theorem aAx{K:bU}:eZ (A0:=Int) (Wz K Kp P) (RJ P) λa b c=>(NN P λd=>Ld c (d.add 18) Sl.v λd=>aV (b<(d.n:Int)) (NN P λd=>Ld c (d.add 18) Sl.v λd=>Ix d.a d.n 1 b λd=>Ld c d .pointer λd=>um d c (λc d=>If (c !=0) (K c d) (aP (b+1) λb=>a (RJ P b) d)) Kp) (K 0 c)):=fc
theorem Fh{K:bU}(H:If x (NN P λa=>Ld h (a.add 13) Sl.v λb=>NN P λc=>Ld h (c.add 13) Sl.v λc=>NN P λd=>Ld h (d.add 13) Sl.v λd=>aP ((d.n:Int)-1) λd=>Ix c.a c.n 1 d λc=>Ld h c mI λc=>aI h #[(ah c)] Y6 λc d=>aT h d (a.add 13) 1 <|Ap d Y6 #[(ah 0)] 1 8 b 1 (rd d (some c) (1*1)) λa b=>NN P λc=>St b (c.add 13) (Sl.v a) λa=>K 0 a) (If (a==14) (WB K Kp P n 0 h) (If (a==16) (WA K Kp P n 0 h) (If (a==17) (Wz K Kp P 0 h) (If (a==19) (NN P λa=>Ld h (a.add 15) Sl.v λa=>aI h #[(ah 0)] Y6 λb c=>Ap c Y6 #[(ah 0)] 1 8 a 1 (rd c (some b) (1*1)) λa b=>NN P λc=>St b (c.add 15) (Sl.v a) λa=>K 0 a) (If (a==2) (NN P λa=>Ld h (a.add 12) Sl.v λa=>aI h #[(.int .u8 0)] Y8 λb c=>Ap c Y8 #[(.int .u8 0)] 1 1 a 1 (rd c (some b) (1*1)) λa b=>NN P λc=>St b (c.add 12) (Sl.v a) λa=>K 0 a) (NN P λa=>Ld h (a.add 12) Sl.v λb=>Ld h n mI λc=>Jm c h (λc d=>aT h d (a.add 12) 1 <|Fq b 0 c d (λa b=>NN P λc=>St b (c.add 12) (Sl.v a) λa=>K 0 a) Kp) Kp))))))):IZ K Kp P n a x h:=jf H
theorem aFp{K:bU}(H:NN P λa=>iq h (a.add 2) λa b c d e=>aI h pn kJ λf g=>mb g f a b c d e λa=>NN P λb=>Ld a (b.add 10) Sl.v λb=>aI a #[(.int .u8 0)] Y8 λa c=>Ap c Y8 #[(.int .u8 0)] 1 1 b 1 (rd c (some a) (1*1)) λa b=>NN P λc=>St b (c.add 10) (Sl.v a) λa=>Ld a f mI λb=>If (b==12) (IZ K Kp P f b (b==12) a) (If (b==13) (IZ K Kp P f b (b==13) a) (IZ K Kp P f b (b==15) a))):OO P h K Kp:=cJ (H6 K Kp) dr K Tryz.func93 H
def Eu:=mc aE Tryz.f94 (am [(2000007,9),(2000009,9),(2000010,9),(2000011,9),(2002,41)]) [(10,(OT.l [0,1,2,3,4,5,6,7,8,10,11] (.alt (OT.l [9,12] .fin) (OT.l [12,9] .fin))))] dr
def WK:=jK Eu 3 63 [.p,.d]
def aip:=jK Eu 2 31 [.p,.d]
def aiq:=jK Eu 1 15 [.p,.d]
def air:=jK Eu 0 7 [.p,.d]
def RI:=fK 80 [0,3,5] [.p,.d,tI]
def ahc:=lK Eu 2002 26 RI
theorem aB2{K:bU}(H:NN P λa=>Ld h (a.add 18) Sl.v λa=>Ix a.a a.n 1 0 λa=>Ld h a .pointer λa=>bP h n λb c d e=>uo a b c d e h (λa b=>K a b) Kp):WK K Kp P n h:=jf H
theorem aB3{K:bU}(H:NN P λa=>Ld h (a.add 17) Sl.v λb=>bP h n λc d e f=>aI h #[(.bool false),(ah 0),(.string (bs [])),(.slice none 0 0)] dh λg i=>aT h i n 4 <|aT h i (a.add 17) 1 <|Ap i dh fY 4 56 b 1 (rd i (some g) (1*4)) λa g=>Ix a.a a.n 4 (b.n:Int) λb=>NN P λi=>(dL g b c d e f λb=>St b (i.add 17) (Sl.v a) λa=>WK K Kp P n a)/\(St g (i.add 17) (Sl.v a) λa=>dL a b c d e f λa=>WK K Kp P n a)):aip K Kp P n h:=jf H
theorem aB4{K:bU}(H:NN P λa=>Ld h (a.add 15) Sl.v λb=>NN P λc=>Ld h (c.add 17) Sl.v λc=>aI h #[(ah (c.n:Int))] Y6 λc d=>aT h d (a.add 15) 1 <|Ap d Y6 #[(ah 0)] 1 8 b 1 (rd d (some c) (1*1)) λa b=>NN P λc=>St b (c.add 15) (Sl.v a) λa=>aip K Kp P n a):aiq K Kp P n h:=jf H
theorem aB5{K:bU}(H:NN P λa=>Ld h (a.add 17) Sl.v λb=>NN P λc=>Ld h ((c.add 2).add 3) mI λc=>ON c h (λc d=>aT h d (a.add 17) 1 <|aV ((b.n:Int)>=c) (K 102 d) (aiq K Kp P n d)) Kp):air K Kp P n h:=jf H
theorem aAw{K:bU}:eZ (A0:=Int) (ahc K Kp P n) (RI P n) λa b c=>(NN P λd=>Ld c (d.add 17) Sl.v λd=>aV (b<(d.n:Int)) (NN P λd=>Ld c (d.add 17) Sl.v λd=>Ix d.a d.n 4 b λd=>bP c d λd e f g=>bP c n λi j k l=>Jk d e f g i j k l c (λc d=>If c (NN P λa=>Ld d (a.add 15) Sl.v λa=>aI d #[(ah b)] Y6 λb c=>Ap c Y6 #[(ah 0)] 1 8 a 1 (rd c (some b) (1*1)) λa b=>NN P λc=>St b (c.add 15) (Sl.v a) λa=>K 0 a) (aP (b+1) λb=>a (RI P n b) d)) Kp) (air K Kp P n c)):=fc
theorem aFo{K:bU}(H:iP h x a V A λa b=>ahc K Kp P a 0 b):ajX P x a V A h K Kp:=cJ (Eu K Kp) dr K Tryz.func94 H
def L5:=mc aE Tryz.f95 (am [(41006,257),(41014,65537),(41022,16777217)]) [] dz
def NT:=rK L5 2 6 [.i .u8,.b]
def NU:=rK L5 1 6 [.i .u8,.b]
def W2:=rK L5 0 6 [.i .u8,.b]
theorem aC2{K:bE}(H:If x (K true h) (K (a==95) h)):NT K Kp a x h:=jf H
theorem aC3{K:bE}(H:If x (NT K Kp a true h) (aV (a>=48) (NT K Kp a (decide (a<=57)) h) (NT K Kp a false h))):NU K Kp a x h:=jf H
theorem aC4{K:bE}(H:If x (NU K Kp a true h) (aV (a>=65) (NU K Kp a (decide (a<=90)) h) (NU K Kp a false h))):W2 K Kp a x h:=jf H
theorem aGj{K:bE}(H:aV (a>=97) (W2 K Kp a (decide (a<=122)) h) (W2 K Kp a false h)):Yo a h K Kp:=cJ (L5 K Kp) dz K Tryz.func95 H
def ae1:=mc aE Tryz.f96 (am [(2002,387)]) [] dr
def R4:=fK 19 [0,1,7,8] [.s,uA,tI,tI]
def ahy:=lK ae1 2002 26 R4
theorem aAX{K:bU}:eZ (A0:=Int) (ahy K Kp A Y a) (R4 A Y a) λb c d=>(aV (c<a) (Ix A.a A.n 7 c λe=>bR d e λe f g i j k l=>cZ aE Y [(.agg #[(.string e),(.bool f),(ah g),(ah i),(ah j),(ah k),(Sl.v l)])] d (λd e=>∃f:Bool,d=(.bool f)/\(If f (K c e) (aP (c+1) λc=>b (R4 A Y a c) e))) Kp) (K (-1) d)):=fc
theorem aF7{K:bU}(H:ahy K Kp A Y (A.n:Int) 0 h):aj2 A Y h K Kp:=cJ (ae1 K Kp) dr K Tryz.func96 H
theorem aGi{K:bE}(H:aV (a>=1) (K (decide (a<=20)) h) (K false h)):O1 a h K Kp:=dc dz K Tryz.func97 H
def rf:=mc aE Tryz.f104 (am [(2000009,316),(2000015,316),(2000021,316),(2022,9304595970494411110326649421962412348),(64014,1393805879504134440757092718689944556560700),(2016,4436777100798802905238461219132),(2010,270799383593676935134183740),(3400005,134218044),(3600007,281474976710972),(47008,302231454903657293676860),(45008,72057594037928252),(45013,2305843009213694268),(43012,549755814332)]) [] n5
def KB:=fK 161 [2,3,4,5,8,120,121,122] [.d,.d,.d,tI,tI,.s,tI,tI]
def Ob:=rK1 rf 4 130354 [.d,.d,.d,tI,tI,tI,.d,.s,tI,tI,.b]
def ahL:=lK rf 2022 1018 KB
def Xr:=jK rf 2 127 [.d,.d,.d,tI,tI]
def Sc:=fK 161 [2,3,4,5,8,99,100,101] [.d,.d,.d,tI,tI,.s,tI,tI]
def ahK:=lK rf 2016 506 Sc
def Xs:=jK rf 1 63 [.d,.d,.d,tI,tI]
def Sb:=fK 161 [2,3,4,5,8,85,86,87] [.d,.d,.d,tI,tI,.s,tI,tI]
def ahJ:=lK rf 2010 250 Sb
def Xu:=jK rf 0 31 [.d,.d,.d,tI,tI]
def Oe:=rK rf 9 1950 [.d,.d,.d,tI,tI,.b]
def Jc:=jK rf 8 487 [.d,.d,.d,tI,tI,.b]
def Je:=rK rf 11 486 [.d,.d,.d,tI,tI,.b]
def Od:=rK rf 10 486 [.d,.d,.d,tI,tI,.b]
def Jd:=jK rf 7 121 [.d,.d,.d,tI,tI,.b]
def Oc:=rK rf 12 120 [.d,.d,.d,tI,tI,tI,.b]
theorem aDF{K:iY}(H:If x (aP (a+c) λa=>nJ 82 a h (λa b c d=>dZ d p a b c λa=>eO a p λb c d=>K b c d a) Kp) (Ld h (n.add 2) mI λf=>If (f==17) (Ld h q mI λf=>aV (f<b) (aP (a+c) λa=>nJ 82 a h (λa b c d=>dZ d p a b c λa=>eO a p λb c d=>K b c d a) Kp) (aP (e+1) λc=>N1 (KB n o p a b A d c) h)) (aP (e+1) λc=>N1 (KB n o p a b A d c) h))):Ob K Kp N1 n o p a b c q A d e x h:=jf H
theorem aBf{K:iY}:eZ (A0:=Int) (ahL K Kp n o p a b A c) (KB n o p a b A c) λd e f=>(aV (e<c) (Ix A.a A.n 6 e λg=>cg f g λg i j k l m=>aI f cX ck λf q=>cL q f g i j k l m λg=>Ld g (n.add 2) mI λi=>If (i==16) (Ld g f mI λi=>Ld g ((n.add 2).add 1) mI λj=>aP (b*j) λj=>Ob K Kp d n o p a b e f A c e (decide (i<j)) g) (Ob K Kp d n o p a b e f A c e false g)) (bR f n λa b c d e g i=>cg f o λj k l m n q=>YD a b c d e g i j k l m n q f (λa b c d=>dZ d p a b c λa=>eO a p λb c d=>K b c d a) Kp)):=fc
theorem aDG{K:iY}(H:Ld h (o.add 4) Sl.v λc=>ahL K Kp n o p a b c (c.n:Int) 0 h):Xr K Kp n o p a b h:=jf H
theorem aBe{K:iY}:eZ (A0:=Int) (ahK K Kp n o p a b A c) (Sc n o p a b A c) λd e f=>(aV (e<c) (Ix A.a A.n 1 e λg=>Ld f g Sl.v λg=>iq f (n.add 2) λi j k l m=>YE i j k l m e b (g.n:Int) f (λf i=>aV ((g.n:Int)<f) (nJ 82 e i (λa b c d=>dZ d p a b c λa=>eO a p λb c d=>K b c d a) Kp) (aP (e+1) λe=>d (Sc n o p a b A c e) i)) Kp) (Xr K Kp n o p a b f)):=fc
theorem aDH{K:iY}(H:Ld h (o.add 3) Sl.v λc=>ahK K Kp n o p a b c (c.n:Int) 0 h):Xs K Kp n o p a b h:=jf H
theorem aBd{K:iY}:eZ (A0:=Int) (ahJ K Kp n o p a b A c) (Sb n o p a b A c) λd e f=>(aV (e<c) (Ix A.a A.n 1 e λg=>Ld f g Sl.v λg=>aV ((g.n:Int)>65536) (nJ 4 e f (λa b c d=>dZ d p a b c λa=>eO a p λb c d=>K b c d a) Kp) (aP (e+1) λe=>d (Sb n o p a b A c e) f)) (Xs K Kp n o p a b f)):=fc
theorem aDI{K:iY}(H:Ld h (o.add 3) Sl.v λc=>ahJ K Kp n o p a b c (c.n:Int) 0 h):Xu K Kp n o p a b h:=jf H
theorem aji{K:iY}(H:If x (nJ 3 0 h (λa b c d=>dZ d p a b c λa=>eO a p λb c d=>K b c d a) Kp) (aV (b>4096) (nJ 3 0 h (λa b c d=>dZ d p a b c λa=>eO a p λb c d=>K b c d a) Kp) (Xu K Kp n o p a b h))):Oe K Kp n o p a b x h:=jf H
theorem aje{K:iY}(H:If x (nJ 81 0 h (λa b c d=>dZ d p a b c λa=>eO a p λb c d=>K b c d a) Kp) (Ld h o mI λc=>aV (c>4096) (Oe K Kp n o p a b true h) (Ld h (o.add 1) mI λc=>Oe K Kp n o p a b (decide (c>4096)) h))):Jc K Kp n o p a b x h:=jf H
theorem ajg{K:iY}(H:If x (Jc K Kp n o p a b true h) (Ld h (o.add 2) mI λc=>Ld h o mI λd=>Jc K Kp n o p a b (decide (c>d)) h)):Je K Kp n o p a b x h:=jf H
theorem ajh{K:iY}(H:If x (Je K Kp n o p a b true h) (Ld h (o.add 2) mI λc=>Je K Kp n o p a b (decide (c<0)) h)):Od K Kp n o p a b x h:=jf H
theorem ajf{K:iY}(H:If x (nJ 80 0 h (λa b c d=>dZ d p a b c λa=>eO a p λb c d=>K b c d a) Kp) (Ld h o mI λc=>aV (c<0) (Od K Kp n o p a b true h) (Ld h (o.add 1) mI λc=>Od K Kp n o p a b (decide (c<0)) h))):Jd K Kp n o p a b x h:=jf H
theorem Xt{K:iY}(H:If x (Jd K Kp n o p a c true h) (Ld h (o.add 5) Sl.v λd=>Jd K Kp n o p a c ((d.n:Int)!=b) h)):Oc K Kp n o p a b c x h:=jf H
theorem aGZ{K:iY}(H:gk h V x a b c d A λa b=>oo b e f g B C D λb c=>aI c kN kI λc d=>iq d (a.add 2) λe f g i j=>YF e f g i j d (λd e f g=>Ld g (b.add 1) mI λi=>Ld g b mI λj=>aP (i+j) λi=>Ld g (b.add 3) Sl.v λj=>If ((j.n:Int)!=d) (Oc K Kp a b c d f i true g) (Ld g (b.add 4) Sl.v λj=>Oc K Kp a b c d f i ((j.n:Int)!=e) g)) Kp):YP V x a b c d A e f g B C D h K Kp:=cJ (rf K Kp) n5 K Tryz.func104 H
def L9:=mc aE Tryz.f105 (am [(3500006,24604),(2008,50331672),(2020,7083549724304467820572)]) [] n5
def arH:=fK 95 [3,4,24,25] [.d,.d,tI,tI]
def aBc:=lK L9 2008 1722 arH
def arG:=fK 95 [2,3,4,71,72] [.d,.d,.d,tI,tI]
def aBb:=lK L9 2020 6906 arG
def Oa:=jK L9 0 53 [.d,.d,.d,tI,.b]
theorem aDE{K:iY}(H:If x (bR h n λa b c d e f g=>cg h o λi j k l m n=>aGG a b c d e f g i j k l m n h (λa b c d=>dZ d p a b c λa=>eO a p λb c d=>K b c d a) Kp) (If (a==18) (Ld h o mI λa=>aBc K Kp o p a 0 h) (If (a==19) (Ld h o mI λa=>aBb K Kp n o p a 0 h) (dZ h p 0 bN 0 λa=>eO a p λb c d=>K b c d a)))):Oa K Kp n o p a x h:=jf H
theorem aGY{K:iY}(H:gk h V x a b c d A λa b=>oo b e f g B C D λb c=>aI c kN kI λc d=>Ld d (a.add 2) mI λe=>If (e==12) (Oa K Kp a b c e (e==12) d) (If (e==13) (Oa K Kp a b c e (e==13) d) (Oa K Kp a b c e (e==15) d))):YO V x a b c d A e f g B C D h K Kp:=cJ (L9 K Kp) n5 K Tryz.func105 H
theorem aG8{K:gE}(H:oo h a b c A B C λa b=>Ld b (a.add 5) Sl.v λc=>aV ((c.n:Int)>0) (Ld b (a.add 5) Sl.v λa=>K a b) (Ld b (a.add 4) Sl.v λa=>K a b)):YV a b c A B C h K Kp:=dc gX K Tryz.func106 H
def Ch:=mc aE Tryz.f109 (am [(2005,100664220),(2000036,100677532),(2037,21969856073853382673425262981226832456358244055624221460380),(4600017,4505798751305628),(2023,70988433612780846483815480180636),(2033,100745116)]) [(16,(OT.l [0,1,2,3,4,5,6,7,8,9,11,12,13,14,15,10,16,17,18,19,20] .fin)),(18,(OT.l [0,1,2,3,4,6,7,8,9,10,11,5,12,13,14] .fin)),(33,(OT.l [0,1,2,3,4,5,6,7,9,8,10] .fin))] gX
def GA:=fK 207 [2,3,4,7,8,25,9,26] [.s,.d,.d,.d,.s,tI,tI,tI]
def Sa:=fK 207 [2,3,4,7,8,9,10,25,26,191,192,193] [.s,.d,.d,.d,.s,tI,tI,tI,tI,.s,tI,tI]
def ahH:=DV Ch 2037 2051326 Sa
def AN:=qt Ch 1 512831 [.s,.d,.d,.d,.s,tI,tI,tI,tI,tI,tI]
def arF:=fK 207 [2,3,4,7,8,9,10,11,12,13,25,26,103,104,105] [.s,.d,.d,.d,.s,tI,tI,tI,tI,tI,tI,tI,.s,tI,tI]
def aA8:=DV Ch 2023 8402219002 arF
def arE:=fK 207 [2,3,4,7,8,10,11,12,13,16,25,26,9] [.s,.d,.d,.d,.s,tI,tI,tI,tI,.d,tI,tI,tI]
def aA7:=DV Ch 2033 1075484033012 arE
def Xq:=qt Ch 3 16410583 [.s,.d,.d,.d,.s,tI,tI,tI,tI,tI,tI,tI,tI,.b]
def ahI:=lK Ch 2005 250 GA
theorem aA9{K:gE}:eZ (A0:=Int) (ahH K Kp N1 A n o p B a b c d C e) (Sa A n o p B a b c d C e) λf g i=>(aV (g<e) (Ix C.a C.n 1 g λj=>Ld i j mI λj=>Ix B.a B.n 1 b λk=>Ld i k mI λk=>aP (k+j) λj=>Ix B.a B.n 1 b λk=>St i k (ah j) λi=>aP (g+1) λg=>f (Sa A n o p B a b c d C e g) i) (aP (d+1) λb=>N1 (GA A n o p B c a b) i)):=fc
theorem aDD{K:gE}(H:aj5 A c d h (λc d=>ahH K Kp N1 A n o p B a b e f c (c.n:Int) 0 d) Kp):AN K Kp N1 A n o p B a b c d e f h:=jf H
theorem aDC{K:gE}(H:If x (Ix B.a B.n 1 b λi=>Ld h i mI λj=>Ld h (o.add 3) Sl.v λk=>Ix k.a k.n 1 1 λk=>Ld h k Sl.v λk=>aP (c+1) λl=>Ld h (o.add 3) Sl.v λm=>Ix m.a m.n 1 1 λm=>Ld h m Sl.v λq=>Jt k l h (λk l=>aT h l m 1 <|aT h l (o.add 3) 1 <|aT h l i 1 <|Jt q c l (λc m=>aT l m i 1 <|aP (k-c) λc=>aP (j+c) λc=>Ix B.a B.n 1 b λi=>St m i (ah c) λc=>AN K Kp N1 A n o p B a b d e f g c) Kp) Kp) (If (i==15) (Ld h (o.add 3) Sl.v λd=>Ix d.a d.n 1 1 λd=>Ld h d Sl.v λd=>Ld h (o.add 3) Sl.v λe=>Ix e.a e.n 1 1 λe=>Ld h e Sl.v λi=>aP (c+1) λj=>Jt d c h (λc d=>aT h d e 1 <|aT h d (o.add 3) 1 <|Jt i j d (λd e=>AN K Kp N1 A n o p B a b c d f g e) Kp) Kp) (If (i==16) (Ld h (p.add 1) mI λd=>aP (c*d) λd=>aP (c+1) λc=>Ld h (p.add 1) mI λe=>aP (c*e) λc=>AN K Kp N1 A n o p B a b d c f g h) (If (i==17) (aA8 K Kp N1 A n o p B a b c d e f g A (A.n:Int) 0 h) (If (i==18) (Ix B.a B.n 1 b λi=>Ld h i mI λj=>Ld h (o.add 3) Sl.v λk=>Ix k.a k.n 1 0 λk=>Ld h k Sl.v λl=>Ix l.a l.n 1 c λl=>Ld h l (.int .u8) λm=>Ix A.a A.n 1 m λm=>Ld h m Sl.v λq=>Ld h (o.add 3) Sl.v λr=>Ix r.a r.n 1 1 λr=>Ld h r Sl.v λr=>Jt r c h (λc r=>aT h r m 1 <|aT h r l 1 <|aT h r k 1 <|aT h r (o.add 3) 1 <|aT h r i 1 <|Ix q.a q.n 1 c λc=>Ld r c mI λc=>aP (j+c) λc=>Ix B.a B.n 1 b λi=>St r i (ah c) λc=>AN K Kp N1 A n o p B a b d e f g c) Kp) (If (i==19) (Ix A.a A.n 1 0 λi=>Ld h i Sl.v λj=>bR h n λk l m q r s t=>cg h o λu v w x y z=>aGF k l m q r s t u v w x y z c h (λc k=>aT h k i 1 <|Ix j.a j.n 1 c λc=>Ld k c mI λc=>Ix B.a B.n 1 b λi=>St k i (ah c) λc=>AN K Kp N1 A n o p B a b d e f g c) Kp) (If (i==20) (Ld h (o.add 4) Sl.v λi=>Ix i.a i.n 6 0 λi=>cg h i λi j k l m q=>aI h cX ck λr s=>cL s r i j k l m q λi=>aA7 K Kp N1 A n o p B b c d e r f g a i) (AN K Kp N1 A n o p B a b d e f g h)))))))):Xq K Kp N1 A n o p B a b c d e f g i x h:=jf H
theorem aBa{K:gE}:jP (A0:=Int) (A1:=Int) (ahI K Kp A n o p B a) (GA A n o p B a) λb c d e=>(aV (d<a) (Ld e (o.add 1) mI λf=>aP (f+d) λf=>Ix B.a B.n 1 d λg=>St e g (ah 16) λe=>bR e n λg i j k l m q=>cg e o λr s t u v w=>O6 g i j k l m q r s t u v w f e (λe g=>If e (aP (d+1) λd=>b (GA A n o p B a c d) g) (Ld g p mI λe=>If (e==14) (Ix B.a B.n 1 d λe=>Ld g e mI λe=>Ld g (p.add 1) mI λf=>aP (e+f) λe=>Ix B.a B.n 1 d λf=>St g f (ah e) λe=>AN K Kp b A n o p B c d 0 0 a d e) (If (e==12) (Xq K Kp b A n o p B c d f 0 0 a d e (e==12) g) (Xq K Kp b A n o p B c d f 0 0 a d e (e==13) g)))) Kp) (K B e)):=jW
theorem aGW{K:gE}(H:gk h V x a b c d A λa b=>oo b e f g B C D λb c=>iq c (a.add 2) λd e f g i=>aI c pn kJ λc j=>mb j c d e f g i λd=>Ld d b mI λe=>dP d Y6 #[(ah 0)] 1 8 e e λd e=>ahI K Kp E a b c d (d.n:Int) 0 0 e):YN V x a b c d A e f g B C D E h K Kp:=cJ (Ch K Kp) gX K Tryz.func109 H
theorem aG9{K:qE}(H:aI h fY dh λb c=>NN P λd=>Ld c (d.add 13) mI λd=>aP (d+a) λa=>YL P a Q c (λa c d e f=>dL f b a c d e λa=>bP a b λb c d e=>K b c d e a) Kp):YW P a Q h K Kp:=dc ux K Tryz.func111 H
def ae0:=mc aE Tryz.f112 (am [(2000002,1)]) [] DD
def aiY:=jK ae0 0 7 [.t]
theorem aCY{K:EZ}(H:iu V 0 λa=>Wr .u64 a λa=>iu V 1 λb=>Wr .u64 b λb=>Nn 8<|Wr .u64 (b*2^(min (Int.toNat 8) (IntKind.bits .u64))) λb=>Lt (gJ .or .u64 a b) λa=>iu V 2 λb=>Wr .u64 b λb=>Nn 16<|Wr .u64 (b*2^(min (Int.toNat 16) (IntKind.bits .u64))) λb=>Lt (gJ .or .u64 a b) λa=>iu V 3 λb=>Wr .u64 b λb=>Nn 24<|Wr .u64 (b*2^(min (Int.toNat 24) (IntKind.bits .u64))) λb=>Lt (gJ .or .u64 a b) λa=>iu V 4 λb=>Wr .u64 b λb=>Nn 32<|Wr .u64 (b*2^(min (Int.toNat 32) (IntKind.bits .u64))) λb=>Lt (gJ .or .u64 a b) λa=>iu V 5 λb=>Wr .u64 b λb=>Nn 40<|Wr .u64 (b*2^(min (Int.toNat 40) (IntKind.bits .u64))) λb=>Lt (gJ .or .u64 a b) λa=>iu V 6 λb=>Wr .u64 b λb=>Nn 48<|Wr .u64 (b*2^(min (Int.toNat 48) (IntKind.bits .u64))) λb=>Lt (gJ .or .u64 a b) λa=>iu V 7 λb=>Wr .u64 b λb=>Nn 56<|Wr .u64 (b*2^(min (Int.toNat 56) (IntKind.bits .u64))) λb=>Lt (gJ .or .u64 a b) λa=>K a h):aiY K Kp V h:=jf H
theorem aF4{K:EZ}(H:aiY K Kp V h):wV V h K Kp:=cJ (ae0 K Kp) DD K Tryz.func112 H
theorem AP{K:agn}(H:aV (a>=3) (aV (a<=6) (aP (a-3) λa=>Nn a<|aP ((8:Int)*2^(min (Int.toNat a) (IntKind.bits .i64))) λa=>K a true h) (aP (a-7) λa=>Nn a<|aP ((8:Int)*2^(min (Int.toNat a) (IntKind.bits .i64))) λa=>K a false h)) (aP (a-7) λa=>Nn a<|aP ((8:Int)*2^(min (Int.toNat a) (IntKind.bits .i64))) λa=>K a false h)):ajU a h K Kp:=dc aa4 K Tryz.func113 H
def Ez:=mc aE Tryz.f114 (am [(2000016,483),(2000025,451),(2000027,259),(2028,771),(65014,9223372036854776195)]) [] dr
def R8:=fK 92 [0,1,8,9] [.t,tI,tI,tI]
def WG:=lK Ez 2028 8186 R8
def ajc:=jK Ez 2 1023 [.t,tI,tI]
def Xm:=rK Ez 4 2044 [.t,tI,.i .u8,tI,.b]
def AM:=jK Ez 1 511 [.t,tI,.i .u8,.i .u8,tI]
def yT:=jK Ez 0 255 [.t,tI,.i .u8,.i .u8,.i .u8,tI]
theorem aA3{K:bU}:eZ (A0:=Int) (WG K Kp V a b) (R8 V a b) λc d e=>(aV (d<b) (aP (a+d) λf=>iu V f λf=>aV (f<128) (K 0 e) (aP (a+d) λf=>iu V f λf=>aV (f>191) (K 0 e) (aP (d+1) λd=>c (R8 V a b d) e))) (K b e)):=fc
theorem aDt{K:bU}(H:WG K Kp V a b 2 h):ajc K Kp V a b h:=jf H
theorem ajb{K:bU}(H:If x (K 0 h) (aP (a+1) λd=>iu V d λd=>aV (d>b) (K 0 h) (ajc K Kp V a c h))):Xm K Kp V a b c x h:=jf H
theorem aDu{K:bU}(H:aP (a+d) λe=>aV (e>(V.size:Int)) (Xm K Kp V a c d true h) (aP (a+1) λe=>iu V e λe=>Xm K Kp V a c d (decide (e<b)) h)):AM K Kp V a b c d h:=jf H
theorem aDv{K:bU}(H:If (b==224) (AM K Kp V a 160 d e h) (If (b==237) (AM K Kp V a c 159 e h) (If (b==240) (AM K Kp V a 144 d e h) (If (b==244) (AM K Kp V a c 143 e h) (AM K Kp V a c d e h))))):yT K Kp V a b c d e h:=jf H
theorem aGM{K:bU}(H:aV (a>=(V.size:Int)) (K 0 h) (iu V a λb=>aV (b<128) (K 1 h) (aV (b>=194) (aV (b<=223) (yT K Kp V a b 128 191 2 h) (aV (b>=224) (aV (b<=239) (yT K Kp V a b 128 191 3 h) (aV (b>=240) (aV (b<=244) (yT K Kp V a b 128 191 4 h) (K 0 h)) (K 0 h))) (aV (b>=240) (aV (b<=244) (yT K Kp V a b 128 191 4 h) (K 0 h)) (K 0 h)))) (aV (b>=224) (aV (b<=239) (yT K Kp V a b 128 191 3 h) (aV (b>=240) (aV (b<=244) (yT K Kp V a b 128 191 4 h) (K 0 h)) (K 0 h))) (aV (b>=240) (aV (b<=244) (yT K Kp V a b 128 191 4 h) (K 0 h)) (K 0 h)))))):YH V a h K Kp:=cJ (Ez K Kp) dr K Tryz.func114 H
def HZ:=mc aE Tryz.f115 (am [(2000003,12),(2004,44),(41012,262156),(41019,33554444)]) [] dz
def Rx:=fK 55 [2,3,5] [.d,.d,tI]
def ag3:=lK HZ 2004 58 Rx
def ail:=jK HZ 0 7 [.d,.d]
def M1:=rK HZ 3 12 [.d,.d,.b]
def M9:=rK HZ 2 12 [.d,.d,.b]
theorem aAl{K:bE}:eZ (A0:=Int) (ag3 K Kp n o) (Rx n o) λa b c=>(Ld c (n.add 3) Sl.v λd=>aV (b<(d.n:Int)) (Ld c (n.add 3) Sl.v λd=>Ix d.a d.n 4 b λd=>bP c d λd e f g=>Ld c (o.add 3) Sl.v λi=>Ix i.a i.n 4 b λi=>bP c i λi j k l=>Jk d e f g i j k l c (λc d=>If (!c) (K false d) (aP (b+1) λb=>a (Rx n o b) d)) Kp) (K true c)):=fc
theorem aBT{K:bE}(H:ag3 K Kp n o 0 h):ail K Kp n o h:=jf H
theorem aij{K:bE}(H:If x (K false h) (Ld h (n.add 3) Sl.v λa=>Ld h (o.add 3) Sl.v λb=>If ((a.n:Int)!=(b.n:Int)) (K false h) (ail K Kp n o h))):M1 K Kp n o x h:=jf H
theorem aik{K:bE}(H:If x (M1 K Kp n o true h) (Ld h (n.add 2) .string λa=>Ld h (o.add 2) .string λb=>M1 K Kp n o (!(a.toList==b.toList)) h)):M9 K Kp n o x h:=jf H
theorem aFf{K:bE}(H:iP h x a V A λa c=>iP c y b W B λb c=>Ld c a .bool λd=>Ld c b .bool λe=>If (!(d==e)) (M9 K Kp a b true c) (Ld c (a.add 1) mI λd=>Ld c (b.add 1) mI λe=>M9 K Kp a b (d !=e) c)):Jk x a V A y b W B h K Kp:=cJ (HZ K Kp) dz K Tryz.func115 H
def HW:=mc aE Tryz.f116 (am [(2000005,9),(2011,73),(2018,257),(6109999,649037107316853453566312041152513)]) [] dr
def Rz:=fK 122 [0,3,6] [.p,.d,tI]
def Wy:=lK HW 2011 8106 Rz
def Ry:=fK 122 [0,8] [.p,tI]
def Wx:=lK HW 2018 32442 Ry
def WJ:=jK HW 3 64895 [.p,.b]
def ain:=jK HW 0 15 [.p,.d]
theorem aAn{K:bU}:eZ (A0:=Int) (Wy K Kp P n) (Rz P n) λa b c=>(Ld c (n.add 1) mI λd=>aV (b<d) (NN P λd=>Ld c (d.add 18) Sl.v λd=>Ix d.a d.n 1 0 λd=>Ld c d .pointer λd=>um d c (λc d=>If (c !=0) (K c d) (aP (b+1) λb=>a (Rz P n b) d)) Kp) (K 3 c)):=fc
theorem aAm{K:bU}:eZ (A0:=Int) (Wx K Kp P) (Ry P) λa b c=>(NN P λd=>Ld c (d.add 18) Sl.v λd=>aV (b<(d.n:Int)) (NN P λd=>Ld c (d.add 18) Sl.v λd=>Ix d.a d.n 1 b λd=>Ld c d .pointer λd=>um d c (λc d=>If (c !=0) (K c d) (aP (b+1) λb=>a (Ry P b) d)) Kp) (K 3 c)):=fc
theorem aim{K:bU}(H:If x (NN P λa=>Ld h (a.add 18) Sl.v λa=>Ix a.a a.n 1 0 λa=>Ld h a .pointer λa=>um a h (λa b=>If (a !=0) (K a b) (K 3 b)) Kp) (K 3 h)):WJ K Kp P x h:=jf H
theorem aBU{K:bU}(H:NN P λa=>Ld h (a.add 7) mI λa=>aV (a>=4096) (K 3 h) (NN P λa=>Ld h (a.add 7) mI λa=>aP (a+1) λa=>NN P λb=>St h (b.add 7) (ah a) λa=>Ld a n mI λb=>If (b==16) (Wy K Kp P n 0 a) (If (b==17) (Wx K Kp P 0 a) (If (b==19) (NN P λb=>Ld a (b.add 17) Sl.v λc=>Ld a (n.add 3) mI λd=>ON d a (λd e=>aT a e (b.add 17) 1 <|aV ((c.n:Int)>=d) (K 102 e) (NN P λa=>Ld e (a.add 18) Sl.v λa=>Ix a.a a.n 1 0 λa=>Ld e a .pointer λa=>um a e (λa b=>If (a !=0) (K a b) (K 3 b)) Kp)) Kp) (If (b==18) (WJ K Kp P (b==18) a) (WJ K Kp P (b==20) a)))))):ain K Kp P n h:=jf H
theorem aFh{K:bU}(H:NN P λa=>iq h (a.add 2) λa b c d e=>aI h pn kJ λf g=>mb g f a b c d e λa=>NN P λb=>bR a b λb c d e g i j=>yX b c d e g i j a (λa b=>aV (a<=4194304) (NN P λa=>bR b a λa c d e f g i=>X1 a c d e f g i b (λa b c d _ e=>aI e fY dh λe f=>dL f e a b c d λa=>bP a e λb c d e=>uo P b c d e a (λa b=>K a b) Kp) Kp) (ain K Kp P f b)) Kp):um P h K Kp:=cJ (HW K Kp) dr K Tryz.func116 H
theorem aFg{K:bU}(H:If (a==3) (K 128 h) (If (a==7) (K 256 h) (K 4097 h))):ON a h K Kp:=dc dr K Tryz.func117 H
def ae7:=mc aE Tryz.f123 (am [(2000005,18)]) [(5,(OT.l [0,1,2,3,4,5,8,6,7,9,10,11] .fin))] Qr
def N7:=jK ae7 0 15 [.d,tI]
theorem aDr{K:V3}(H:Ld h n mI λb=>Ix (some ((aJ 0))) 21 4 b λb=>Ld h (b.add 2) mI λc=>iq h n λd e f g i=>Yt d e f g i h (λd e=>aT h e (b.add 2) 1 <|aT h e n 1 <|K c (d.n:Int) a e) Kp):N7 K Kp n a h:=jf H
theorem aGJ{K:V3}(H:wR h a b c d A λa b=>iq b a λc d e f g=>Jr c d e f g b (λb c=>If (!b) (K (-1) (-1) (-1) c) (Ld c a mI λb=>If (b==19) (N7 K Kp a 1 c) (N7 K Kp a 0 c))) Kp):YF a b c d A h K Kp:=cJ (ae7 K Kp) Qr K Tryz.func123 H
def L8:=mc aE Tryz.f124 (am [(3500006,262166),(3700008,134217748),(48008,35184372088852)]) [] dr
def N5:=rK L8 2 1662 [tI,.d,.b]
def N6:=jK L8 1 415 [tI,.d,.b]
def Ja:=jK L8 0 103 [tI,tI,.d,.b]
theorem aDo{K:bU}(H:If x (aP (a+1) λa=>aP ((4:Int)*a) λa=>K a h) (Ld h n mI λb=>If (b==15) (aP (a+1) λa=>aP ((4:Int)*a) λa=>K a h) (iq h n λb c d e f=>Yr b c d e f h (λb c=>aP (a*b) λa=>K a c) Kp))):N5 K Kp a n x h:=jf H
theorem aDp{K:bU}(H:If x (Ys a h (λa b=>K a b) Kp) (Ld h n mI λb=>If (b==12) (N5 K Kp a n true h) (Ld h n mI λb=>N5 K Kp a n (b==13) h))):N6 K Kp a n x h:=jf H
theorem aDq{K:bU}(H:If x (K 0 h) (If (a==0) (N6 K Kp b n true h) (Ld h n mI λa=>N6 K Kp b n (a==2) h))):Ja K Kp a b n x h:=jf H
theorem aGI{K:bU}(H:wR h a b c d A λa b=>Ld b a mI λc=>If (c==18) (aP ((3:Int)*e) λa=>aP ((1:Int)+a) λa=>aP (f*a) λa=>K a b) (If (e==0) (If (g==0) (Ja K Kp e f a (g==0) b) (Ja K Kp e f a (e==2) b)) (Ja K Kp e f a (e==2) b))):YE a b c d A e f g h K Kp:=cJ (L8 K Kp) dr K Tryz.func124 H
theorem aGH{K:iY}(H:gk h V x a b c d A λa b=>oo b e f g B C D λb c=>aI c kN kI λc d=>bR d a λe f g i j k l=>cg d b λm n p q r s=>XF e f g i j k l m n p q r s d (λd e=>Ld e (b.add 2) mI λb=>If (b !=d) (nJ 81 1 e (λa b d e=>dZ e c a b d λa=>eO a c λb c d=>K b c d a) Kp) (aV (d>0) (Ld e (a.add 1) .bool λa=>If (!a) (nJ 81 1 e (λa b d e=>dZ e c a b d λa=>eO a c λb c d=>K b c d a) Kp) (dZ e c 0 bN 0 λa=>eO a c λb c d=>K b c d a)) (dZ e c 0 bN 0 λa=>eO a c λb c d=>K b c d a))) Kp):YD V x a b c d A e f g B C D h K Kp:=dc n5 K Tryz.func125 H
def afd:=mc aE Tryz.f128 (am [(2000005,20)]) [] dz
def ajo:=jK afd 0 15 [tI,.d]
theorem aDN{K:bE}(H:Ld h (n.add 3) Sl.v λb=>Ix b.a b.n 1 0 λb=>Ld h b Sl.v λb=>YM b a h (λa _ b=>K (!a) b) Kp):ajo K Kp a n h:=jf H
theorem aHa{K:bE}(H:gk h V x a b c d A λa b=>oo b e f g B C D λb c=>Ld c (a.add 2) mI λd=>If (d==1) (K true c) (Ld c (a.add 2) mI λa=>O5 a c (λa c=>If (!a) (K false c) (Ld c (b.add 3) Sl.v λa=>Ix a.a a.n 1 0 λa=>Ld c a Sl.v λa=>If ((a.n:Int)==0) (K false c) (ajo K Kp i b c))) Kp)):O6 V x a b c d A e f g B C D i h K Kp:=cJ (afd K Kp) dz K Tryz.func128 H
theorem aGE{K:gE}(H:If (a==b) (K bN h) (Ix A.a A.n 1 0 λc=>Ld h c Sl.v λc=>jo c 1 (some a) (some b) none λa=>K a h)):aj5 A a b h K Kp:=dc gX K Tryz.func130 H
theorem aGU{K:qE}(H:aI h fY dh λb c=>Oj P a c (λc d=>If c (Js Q 16 d (λa=>dL a b true 0 (bs []) bN λa=>bP a b λb c d e=>K b c d e a) Kp) (NN P λc=>Ld d (c.add 16) id λc=>fD aE c "colonnade/array.read" [(.pointer P),(ah a),(.pointer Q)] d (λa c=>∃d:Bool,∃e:Int,∃f:BA,∃g:Sl,a=(.agg #[(.bool d),(ah e),(.string f),(Sl.v g)])/\(dL c b d e f g λa=>bP a b λb c d e=>K b c d e a)) Kp)) Kp):YL P a Q h K Kp:=dc ux K Tryz.func131 H
def L3:=mc aE Tryz.f132 (am [(2011,120),(2016,152),(2001004,844424930132120)]) [] dr
def RO:=fK 81 [3,5,4,6] [.d,tI,tI,tI]
def ahf:=lK L3 2011 32118 RO
def RN:=fK 81 [3,4,7] [.d,tI,tI]
def aiw:=qt L3 2 257001 [.d,tI,tI,tI,.b]
def ahe:=lK L3 2016 64250 RN
theorem aAC{K:bU}:jP (A0:=Int) (A1:=Int) (ahf K Kp n a) (RO n a) λb c d e=>(Ld e (n.add 1) mI λf=>aV (d<f) (aV (c<=4194304) (aP (c+a) λc=>aP (d+1) λd=>b (RO n a c d) e) (aV (c>4194304) (K 4194305 e) (K c e))) (aV (c>4194304) (K 4194305 e) (K c e))):=jW
theorem aCc{K:bU}(H:Ld h (n.add 4) Sl.v λc=>Ix c.a c.n 7 b λc=>bR h c λc d e f g i j=>yX c d e f g i j h (λc d=>aP (a+c) λa=>aP (b+1) λb=>N1 (RN n a b) d) Kp):aiw K Kp N1 n a b c x h:=jf H
theorem aAB{K:bU}:jP (A0:=Int) (A1:=Int) (ahe K Kp n) (RN n) λa b c d=>(Ld d (n.add 4) Sl.v λe=>aV (c<(e.n:Int)) (aV (b<=4194304) (aiw K Kp a n b c b (decide (b<=4194304)) d) (aV (b>4194304) (K 4194305 d) (K b d))) (aV (b>4194304) (K 4194305 d) (K b d))):=jW
theorem aFw{K:bU}(H:gk h V x a b c d A λa b=>iq b (a.add 2) λc d e f g=>aI b pn kJ λb i=>mb i b c d e f g λc=>Ld c (a.add 1) .bool λa=>If a (K 16 c) (Ld c b mI λa=>If (a==14) (Ld c (b.add 1) mI λa=>aP ((16:Int)+a) λa=>aV (a>4194304) (K 4194305 c) (K a c)) (If (a==16) (Ld c (b.add 4) Sl.v λa=>Ix a.a a.n 7 0 λa=>bR c a λa d e f g i j=>yX a d e f g i j c (λa c=>ahf K Kp b a 16 0 c) Kp) (If (a==17) (ahe K Kp b 16 0 c) (If (a==18) (Ld c (b.add 4) Sl.v λa=>Ix a.a a.n 7 0 λa=>bR c a λa b d e f g i=>yX a b d e f g i c (λa b=>aP ((16:Int)+a) λa=>aV (a>4194304) (K 4194305 b) (K a b)) Kp) (If (a==19) (If (a==19) (Ld c (b.add 4) Sl.v λa=>Ix a.a a.n 7 0 λa=>bR c a λa b d e f g i=>yX a b d e f g i c (λa b=>K a b) Kp) (aV ((16:Int)>4194304) (K 4194305 c) (K 16 c))) (If (a==20) (Ld c (b.add 4) Sl.v λa=>Ix a.a a.n 7 0 λa=>bR c a λa b d e f g i=>yX a b d e f g i c (λa b=>K a b) Kp) (aV ((16:Int)>4194304) (K 4194305 c) (K 16 c))))))))):yX V x a b c d A h K Kp:=cJ (L3 K Kp) dr K Tryz.func132 H
theorem aFv{K:V5}(H:gk h V x a b c d A λa b=>aI b fY dh λb c=>bR c a λd e f g i j k=>XT d e f g i j k c (λc d=>If (!c) (dL d b false 0 (bs []) bN λa=>bP a b λb c d e=>K b c d e 5 a) (bR d a λc e f g i j k=>C6 c e f g i j k 4194304 d (λc d=>aV (c>4194304) (dL d b false 0 (bs []) bN λa=>bP a b λb c d e=>K b c d e 3 a) (bR d a λa c e f g i j=>C5 a c e f g i j d (λa c d e f=>dL f b a c d e λa=>bP a b λb c d e=>K b c d e 0 a) Kp)) Kp)) Kp):X1 V x a b c d A h K Kp:=dc Qv K Tryz.func133 H
theorem aGp{K:bE}(H:wR h a b c d A λa b=>iq b a λa c d e f=>Yn a c d e f b (λa b c d e f g i=>Fm a b c d e f g i (λa _ _ b=>K (a==0) b) Kp) Kp):Jr a b c d A h K Kp:=dc dz K Tryz.func136 H
def ae4:=mc aE Tryz.f137 (am [(2000003,2)]) [] gX
def ai0:=jK ae4 0 7 [.d]
theorem aC9{K:gE}(H:Ld h (n.add 4) Sl.v λa=>O0 a h (λa b=>Ld b n mI λc=>If (c==20) (aI b #[(.string (bs [101,110,100,115])),(.bool false),(ah 5),(ah 0),(ah 0),(ah 0),(.slice none 0 0)] gO λb c=>Ap c gO mg 7 80 (⟨some b,1,1⟩:Sl) a.n (rd c a.a (a.n*7)) λa b=>K a b) (K a b)) Kp):ai0 K Kp n h:=jf H
theorem aGo{K:gE}(H:wR h a b c d A λa b=>iq b a λc d e f g=>Jr c d e f g b (λb c=>If (!b) (K bN c) (Ld c a mI λb=>If (b==19) (K bN c) (ai0 K Kp a c))) Kp):Yt a b c d A h K Kp:=cJ (ae4 K Kp) gX K Tryz.func137 H
theorem aGn{K:bU}(H:aV (a<=0) (K 0 h) (aP (a-1) λa=>Dv 8<|aP (Int.tdiv a 8) λa=>aP (a+1) λa=>K a h)):Ys a h K Kp:=dc dr K Tryz.func138 H
theorem aGm{K:bU}(H:wR h a b c d A λa b=>iq b a λc d e f g=>Jr c d e f g b (λb c=>If (!b) (K 0 c) (Ld c a mI λb=>If (b==14) (Ld c (a.add 1) mI λa=>K a c) (If (b==19) (Ld c (a.add 3) mI λa=>Ix (some ((aJ 0))) 21 4 a λa=>Ld c (a.add 1) mI λa=>K a c) (Ld c a mI λa=>Ix (some ((aJ 0))) 21 4 a λa=>Ld c (a.add 1) mI λa=>K a c)))) Kp):Yr a b c d A h K Kp:=dc dr K Tryz.func139 H
def c57:=mc aE Tryz.f140 (am [(2003,812)]) [] dr
def Ky:=fK 23 [2,3,8,5,9] [.d,.d,tI,tI,tI]
def agF:=lK c57 2003 58 Ky
theorem azV{K:bU}:jP (A0:=Int) (A1:=Int) (agF K Kp n o a) (Ky n o a) λb c d e=>(aV (d<a) (bR e n λf g i j k l m=>cg e o λp q r s t u=>Ld e (o.add 1) mI λv=>aP (v+d) λv=>O6 f g i j k l m p q r s t u v e (λe f=>If e (aP (c+1) λc=>aP (d+1) λd=>b (Ky n o a c d) f) (aP (d+1) λd=>b (Ky n o a c d) f)) Kp) (K c e)):=jW
theorem aD6{K:bU}(H:gk h V x a b c d A λa b=>oo b e f g B C D λb c=>Ld c b mI λd=>agF K Kp a b d 0 0 c):XF V x a b c d A e f g B C D h K Kp:=cJ (c57 K Kp) dr K Tryz.func140 H
def afc:=mc aE Tryz.f142 (am [(41006,257)]) [] dz
def Xv:=rK afc 0 6 [tI,.b]
theorem ajn{K:bE}(H:If x (K (a !=20) h) (K false h)):Xv K Kp a x h:=jf H
theorem aG5{K:bE}(H:If (a !=1) (Xv K Kp a (a !=18) h) (Xv K Kp a false h)):O5 a h K Kp:=cJ (afc K Kp) dz K Tryz.func142 H
theorem aGV{K:agm}(H:aV (a<0) (K false 1 h) (Dv 8<|aP (Int.tdiv a 8) λb=>aV (b>=(A.n:Int)) (K false 2 h) (YC A a h (λa b=>K a 0 b) Kp))):YM A a h K Kp:=dc aa3 K Tryz.func143 H
def ae3:=mc aE Tryz.f144 (am [(3400005,24)]) [] dr
def W5:=jK ae3 0 53 [tI,.b]
theorem aC8{K:bU}(H:If x (K 1 h) (If (a==4) (If (a==4) (K 2 h) (If (a==5) (If (a==5) (K 4 h) (If (a==6) (If (a==6) (K 8 h) (K 0 h)) (If (a==10) (If (a==10) (K 8 h) (K 0 h)) (If (a==11) (K 8 h) (K 0 h))))) (If (a==9) (K 4 h) (If (a==6) (If (a==6) (K 8 h) (K 0 h)) (If (a==10) (If (a==10) (K 8 h) (K 0 h)) (If (a==11) (K 8 h) (K 0 h))))))) (If (a==8) (K 2 h) (If (a==5) (If (a==5) (K 4 h) (If (a==6) (If (a==6) (K 8 h) (K 0 h)) (If (a==10) (If (a==10) (K 8 h) (K 0 h)) (If (a==11) (K 8 h) (K 0 h))))) (If (a==9) (K 4 h) (If (a==6) (If (a==6) (K 8 h) (K 0 h)) (If (a==10) (If (a==10) (K 8 h) (K 0 h)) (If (a==11) (K 8 h) (K 0 h))))))))):W5 K Kp a x h:=jf H
theorem aGl{K:bU}(H:If (a==3) (W5 K Kp a (a==3) h) (W5 K Kp a (a==7) h)):Yq a h K Kp:=cJ (ae3 K Kp) dr K Tryz.func144 H
def c68:=mc aE Tryz.f145 (am [(2000005,3)]) [] dz
def ahY:=jK c68 0 15 [.p,tI]
theorem aBp{K:bE}(H:AU P 0 h (λb c d e=>Dv 8<|aP (Int.tdiv a 8) λf=>O4 b c d f e (λb _ c=>Dv 8<|Lt (Int.tmod a 8) λa=>Nn a<|Lt (Int.fdiv b (2^(min (Int.toNat a) (IntKind.bits .u8)))) λa=>Lt (gJ .and .u8 a 1) λa=>K (a==0) c) Kp) Kp):ahY K Kp P a h:=jf H
theorem aD4{K:bE}(H:NN P λb=>Ld h (b.add 2) mI λb=>If (b==1) (K true h) (NN P λb=>Ld h (b.add 2) mI λb=>O5 b h (λb c=>If (!b) (K false c) (NN P λb=>Ld c ((b.add 7).add 3) Sl.v λb=>Ix b.a b.n 1 0 λb=>Ld c b Sl.v λb=>If ((b.n:Int)==0) (K false c) (ahY K Kp P a c))) Kp)):Oj P a h K Kp:=cJ (c68 K Kp) dz K Tryz.func145 H
theorem aGC{K:jn}(H:NN P λb=>Ld h b mI λb=>aP (b-a) λa=>NN P λb=>St h b (ah a) λa=>NN P λb=>Ld a b mI λb=>aV (b<0) (Kp [{v:=(.iface azh (.agg #[])),recovered:=false}] a) (K  a)):Js P a h K Kp:=dc kO K Tryz.func146 H
theorem aFk{K:bE}(H:gk h V x a b c d A λa b=>bR b a λa c d e f g i=>Oi a c d e f g i b (λa b c d=>aI d kN kI λd e=>dZ e d a b c λa=>Ld a d mI λb=>K (b==0) a) Kp):XT V x a b c d A h K Kp:=dc dz K Tryz.func147 H
def LZ:=mc aE Tryz.f148 (am [(2000005,98),(4000011,67633250),(2017,226)]) [] dr
def RC:=fK 82 [1,5,6,7] [tI,.d,tI,tI]
def ag6:=lK LZ 2017 1028090 RC
def Nc:=jK LZ 1 2007 [tI,.d,tI,tI,.b]
def Nd:=jK LZ 0 31 [tI,.d,tI]
theorem aAq{K:bU}:jP (A0:=Int) (A1:=Int) (ag6 K Kp a n) (RC a n) λb c d e=>(Ld e (n.add 4) Sl.v λf=>aV (d<(f.n:Int)) (Ld e (n.add 4) Sl.v λf=>Ix f.a f.n 7 d λf=>bR e f λf g i j k l m=>C6 f g i j k l m a e (λe f=>aP (c+e) λc=>aP (d+1) λd=>b (RC a n c d) f) Kp) (aV (c>a) (aP (a+1) λa=>K a e) (K c e))):=jW
theorem aBX{K:bU}(H:If x (Ld h (n.add 4) Sl.v λb=>Ix b.a b.n 7 0 λb=>bR h b λb c d e f g i=>C6 b c d e f g i a h (λa b=>K a b) Kp) (If (c==18) (Ld h (n.add 4) Sl.v λc=>Ix c.a c.n 7 0 λc=>bR h c λc d e f g i j=>C6 c d e f g i j a h (λc d=>aP (b+c) λb=>aV (b>a) (aP (a+1) λa=>K a d) (K b d)) Kp) (If (c==16) (Ld h (n.add 1) mI λc=>Ld h (n.add 4) Sl.v λd=>Ix d.a d.n 7 0 λd=>bR h d λd e f g i j k=>C6 d e f g i j k a h (λd e=>aT h e (n.add 1) 1 <|aP (c*d) λc=>aP (b+c) λb=>aV (b>a) (aP (a+1) λa=>K a e) (K b e)) Kp) (If (c==17) (ag6 K Kp a n b 0 h) (aV (b>a) (aP (a+1) λa=>K a h) (K b h)))))):Nc K Kp a n b c x h:=jf H
theorem aBY{K:bU}(H:Ld h n mI λc=>If (c==14) (Ld h (n.add 1) mI λc=>aP (b+c) λb=>aV (b>a) (aP (a+1) λa=>K a h) (K b h)) (If (c==19) (Nc K Kp a n b c (c==19) h) (Nc K Kp a n b c (c==20) h))):Nd K Kp a n b h:=jf H
theorem aFj{K:bU}(H:gk h V x a b c d A λa b=>iq b (a.add 2) λc d f g i=>aI b pn kJ λb j=>mb j b c d f g i λc=>Ld c (a.add 1) .bool λa=>If a (Ld c b mI λa=>If (a !=20) (K 16 c) (Nd K Kp e b 16 c)) (Nd K Kp e b 16 c)):C6 V x a b c d A e h K Kp:=cJ (LZ K Kp) dr K Tryz.func148 H
def HX:=mc aE Tryz.f149 (am [(2000004,12),(4000011,134742044),(2015,60),(2020,92)]) [] ux
def RB:=fK 86 [2,3,4,5] [.d,.d,.d,tI]
def ag5:=lK HX 2015 257018 RB
def RA:=fK 86 [2,3,4,6] [.d,.d,.d,tI]
def ag4:=lK HX 2020 1028090 RA
def Na:=jK HX 1 2007 [.d,.d,.d,tI,.b]
def Nb:=jK HX 0 15 [.d,.d]
theorem aAp{K:qE}:eZ (A0:=Int) (ag5 K Kp n o p) (RB n o p) λa b c=>(Ld c (o.add 1) mI λd=>aV (b<d) (Ld c (p.add 3) Sl.v λd=>Ld c (o.add 4) Sl.v λe=>Ix e.a e.n 7 0 λe=>bR c e λe f g i j k l=>C5 e f g i j k l c (λe f g i j=>aT c j (p.add 3) 1 <|aI j #[(.bool e),(ah f),(.string g),(Sl.v i)] dh λc e=>aT j e (p.add 3) 1 <|Ap e dh fY 4 56 d 1 (rd e (some c) (1*4)) λc d=>St d (p.add 3) (Sl.v c) λc=>aP (b+1) λb=>a (RB n o p b) c) Kp) (bP c p λa b d e=>dL c n a b d e λa=>bP a n λb c d e=>K b c d e a)):=fc
theorem aAo{K:qE}:eZ (A0:=Int) (ag4 K Kp n o p) (RA n o p) λa b c=>(Ld c (o.add 4) Sl.v λd=>aV (b<(d.n:Int)) (Ld c (p.add 3) Sl.v λd=>Ld c (o.add 4) Sl.v λe=>Ix e.a e.n 7 b λe=>bR c e λe f g i j k l=>C5 e f g i j k l c (λe f g i j=>aT c j (p.add 3) 1 <|aI j #[(.bool e),(ah f),(.string g),(Sl.v i)] dh λc e=>aT j e (p.add 3) 1 <|Ap e dh fY 4 56 d 1 (rd e (some c) (1*4)) λc d=>St d (p.add 3) (Sl.v c) λc=>aP (b+1) λb=>a (RA n o p b) c) Kp) (bP c p λa b d e=>dL c n a b d e λa=>bP a n λb c d e=>K b c d e a)):=fc
theorem aBV{K:qE}(H:If x (Ld h (o.add 4) Sl.v λa=>Ix a.a a.n 7 0 λa=>bR h a λa b c d e f g=>C5 a b c d e f g h (λa b c d e=>dL e n a b c d λa=>bP a n λb c d e=>K b c d e a) Kp) (If (a==18) (Ld h (p.add 3) Sl.v λa=>Ld h (o.add 4) Sl.v λb=>Ix b.a b.n 7 0 λb=>bR h b λb c d e f g i=>C5 b c d e f g i h (λb c d e f=>aT h f (p.add 3) 1 <|aI f #[(.bool b),(ah c),(.string d),(Sl.v e)] dh λb c=>aT f c (p.add 3) 1 <|Ap c dh fY 4 56 a 1 (rd c (some b) (1*4)) λa b=>St b (p.add 3) (Sl.v a) λa=>bP a p λb c d e=>dL a n b c d e λa=>bP a n λb c d e=>K b c d e a) Kp) (If (a==16) (ag5 K Kp n o p 0 h) (If (a==17) (ag4 K Kp n o p 0 h) (bP h p λa b c d=>dL h n a b c d λa=>bP a n λb c d e=>K b c d e a))))):Na K Kp n o p a x h:=jf H
theorem aBW{K:qE}(H:aI h fY dh λa b=>dL b a false 0 (bs []) bN λb=>Ld b o mI λc=>If (c==14) (Ld b (o.add 1) mI λc=>dP b Y8 #[(.int .u8 0)] 1 1 c c λb c=>sL c b λb=>St c (a.add 2) (.string b) λb=>bP b a λa c d e=>dL b n a c d e λa=>bP a n λb c d e=>K b c d e a) (If (c==19) (Na K Kp n o a c (c==19) b) (Na K Kp n o a c (c==20) b))):Nb K Kp n o h:=jf H
theorem aFi{K:qE}(H:gk h V x a b c d A λa b=>aI b fY dh λb c=>iq c (a.add 2) λd e f g i=>aI c pn kJ λc j=>mb j c d e f g i λd=>Ld d (a.add 1) .bool λa=>If a (Ld d c mI λa=>If (a !=20) (dL d b true 0 (bs []) bN λa=>bP a b λb c d e=>K b c d e a) (Nb K Kp b c d)) (Nb K Kp b c d)):C5 V x a b c d A h K Kp:=cJ (HX K Kp) ux K Tryz.func149 H
theorem aGh{K:E0}(H:wR h a b c d A λa b=>aI b mg gO λb c=>iq c a λd e f g i=>aI c mg gO λc j=>jN j c (bs [97]) false d e f g i λd=>Ld d a mI λe=>If (e==1) (St d (c.add 1) (.bool true) λa=>bR a c λc d e f g i j=>jN a b c d e f g i j λa=>bR a b λb c d e f g i=>K b c d e f g i a) (Ld d a mI λe=>If (e==20) (Ld d (a.add 4) Sl.v λe=>aV ((e.n:Int)>0) (Ld d (a.add 4) Sl.v λa=>Ix a.a a.n 7 0 λa=>Ld d (a.add 1) .bool λa=>St d (c.add 1) (.bool a) λa=>bR a c λc d e f g i j=>jN a b c d e f g i j λa=>bR a b λb c d e f g i=>K b c d e f g i a) (St d (c.add 1) (.bool false) λa=>bR a c λc d e f g i j=>jN a b c d e f g i j λa=>bR a b λb c d e f g i=>K b c d e f g i a)) (St d (c.add 1) (.bool false) λa=>bR a c λc d e f g i j=>jN a b c d e f g i j λa=>bR a b λb c d e f g i=>K b c d e f g i a))):Yn a b c d A h K Kp:=dc DE K Tryz.func150 H
def ae2:=mc aE Tryz.f151 (am [(2003,456)]) [] gX
def R5:=fK 25 [6,7,3,8] [.s,tI,.s,tI]
def ahz:=lK ae2 2003 58 R5
theorem aAY{K:gE}:jP (A0:=Sl) (A1:=Int) (ahz K Kp A a) (R5 A a) λb c d e=>(aV (d<a) (Ix A.a A.n 7 d λf=>bR e f λf g i j k l m=>aI e mg gO λe n=>jN n e f g i j k l m λf=>Ld f ((e.add 2).add 4) Sl.v λg=>O0 g f (λf g=>St g ((e.add 2).add 4) (Sl.v f) λf=>bR f e λe g i j k l m=>aI f #[(.string e),(.bool g),(ah i),(ah j),(ah k),(ah l),(Sl.v m)] gO λe f=>Ap f gO mg 7 80 c 1 (rd f (some e) (1*7)) λc e=>aP (d+1) λd=>b (R5 A a c d) e) Kp) (Yg c e (λa b=>K a b) Kp)):=jW
theorem aGg{K:gE}(H:ahz K Kp A (A.n:Int) bN 0 h):O0 A h K Kp:=cJ (ae2 K Kp) gX K Tryz.func151 H
theorem aGD{K:bE}(H:Dv 8<|aP (Int.tdiv a 8) λb=>Ix A.a A.n 1 b λb=>Ld h b (.int .u8) λb=>Dv 8<|Lt (Int.tmod a 8) λa=>Nn a<|Lt (Int.fdiv b (2^(min (Int.toNat a) (IntKind.bits .u8)))) λa=>Lt (gJ .and .u8 a 1) λa=>K (a==1) h):YC A a h K Kp:=dc dz K Tryz.func153 H
theorem aG7{K:MQ}(H:aI h JH IM λb c=>NN P λd=>Ld c ((d.add 7).add 3) Sl.v λd=>Ix d.a d.n 1 a λa=>Ld c a Sl.v λa=>NN P λd=>Ld c (d.add 15) .pointer λe=>YK a c (λa f g i=>aT c i (d.add 15) 1 <|YJ a f g e i (λa c d e=>sH e b a c d λa=>oW a b λb c d=>K b c d a) Kp) Kp):AU P a h K Kp:=Ef [] [(1,(OT.l [0,1,2,3,4,5,6,7,9,10,11,12,8,13,14] .fin))] Km K Tryz.func154 H
theorem aG4{K:agl}(H:CU h A a P λa c=>oW c a λd e f=>Jv d e f b 1 c (λc d=>If (!c) (K 0 2 d) (oW d a λa c e=>Ju a c e b 1 d (λa b=>Ix a.a a.n 1 0 λa=>Ld b a (.int .u8) λa=>K a 0 b) Kp)) Kp):O4 A a P b h K Kp:=dc aa2 K Tryz.func155 H
theorem aF6{K:gE}(H:jo A 7 none (some (A.n:Int)) (some (A.n:Int)) λa=>K a h):Yg A h K Kp:=dc gX K Tryz.func156 H
theorem aGT{K:MQ}(H:aI h JH IM λa b=>jo A 1 none (some (A.n:Int)) (some (A.n:Int)) λc=>sH b a c 0 none λb=>oW b a λa c d=>K a c d b):YK A h K Kp:=dc Km K Tryz.func157 H
theorem aGS{K:MQ}(H:CU h A a P λa b=>aI b JH IM λb c=>St c (a.add 2) (.pointer Q) λc=>oW c a λa d e=>sH c b a d e λa=>oW a b λb c d=>K b c d a):YJ A a P Q h K Kp:=dc Km K Tryz.func158 H
def UD:=mc aE Tryz.f159 (am [(41006,4110),(41013,524302)]) [] dz
def Xo:=rK UD 1 6 [tI,tI,.d,.b]
def Xp:=rK UD 0 6 [tI,tI,.d,.b]
theorem aDA{K:bE}(H:If x (Ld h n Sl.v λc=>aP ((c.n:Int)-a) λa=>K (decide (b<=a)) h) (K false h)):Xo K Kp a b n x h:=jf H
theorem aDB{K:bE}(H:If x (Ld h n Sl.v λc=>Xo K Kp a b n (decide (a<=(c.n:Int))) h) (Xo K Kp a b n false h)):Xp K Kp a b n x h:=jf H
theorem aGQ{K:bE}(H:CU h A a P λa d=>aV (b>=0) (Xp K Kp b c a (decide (c>=0)) d) (Xp K Kp b c a false d)):Jv A a P b c h K Kp:=cJ (UD K Kp) dz K Tryz.func159 H
def afa:=mc aE Tryz.f160 (am [(3209999,8206)]) [] gX
def Xn:=jK afa 0 13 [tI,tI,.d,.b]
theorem aDz{K:gE}(H:If x (Ld h (n.add 2) .pointer λc=>Ld h (n.add 2) .pointer λd=>NN d λd=>Ld h d Sl.v λe=>Ld h (n.add 1) mI λf=>aP (f+a) λf=>Ld h (n.add 1) mI λg=>aP (g+a) λg=>aP (g+b) λg=>aI h #[(ah f),(ah g)] agb λf g=>aT h g d 1 <|aT h g (n.add 2) 1 <|aT h g (n.add 2) 1 <|Ap g agb #[(ah 0),(ah 0)] 2 16 e 1 (rd g (some f) (1*2)) λd e=>aT g e (n.add 2) 1 <|NN c λc=>St e c (Sl.v d) λc=>Ld c n Sl.v λd=>aP (a+b) λe=>aP (a+b) λb=>jo d 1 (some a) (some e) (some b) λa=>K a c) (Ld h n Sl.v λc=>aP (a+b) λd=>aP (a+b) λb=>jo c 1 (some a) (some d) (some b) λa=>K a h)):Xn K Kp a b n x h:=jf H
theorem aGP{K:gE}(H:CU h A a P λa d=>Ld d (a.add 2) .pointer λe=>If (!(Option.isNone e)) (Xn K Kp b c a (decide (c>0)) d) (Xn K Kp b c a false d)):Ju A a P b c h K Kp:=cJ (afa K Kp) gX K Tryz.func160 H
theorem aFe{K:bU}(H:NN P λa=>Ld h (a.add 7) mI λa=>K a h):ajT P h K Kp:=dc dr K Tryz.func177 H
theorem aFd{K:jJ}(H:aI h cX ck λa b=>NN P λc=>iF (some c) bN b (λb c d e f g i=>cL i a b c d e f g λb=>cg b a λa c d e f g=>K a c d e f g b) Kp):ajS P h K Kp:=dc mq K Tryz.func178 H
theorem aFc{K:CQ}(H:NN P λa=>uk (some a) h (λa b=>K a b) Kp):ajR P h K Kp:=dc Bm K Tryz.func179 H
theorem aFb{K:bU}(H:iP h x a V A λ_ a=>NN P λb=>oZ (some b) true a (λa b=>If (a !=0) (K a b) (NN P λa=>nL (some a) 16 b (λa b=>K a b) Kp)) Kp):OM P x a V A h K Kp:=dc dr K Tryz.func180 H
theorem aFa{K:bU}(H:NN P λa=>Ld h (a.add 10) mI λa=>K a h):ajQ P h K Kp:=dc dr K Tryz.func181 H
theorem aE9{K:bU}(H:NN P λa=>bP h (a.add 11) λa b c d=>OM P a b c d h (λa b=>K a b) Kp):XS P h K Kp:=dc dr K Tryz.func182 H
theorem aE8{K:jJ}(H:aI h cX ck λa b=>NN P λc=>Ld b (c.add 7) mI λc=>NN P λd=>Ld b (d.add 8) mI λd=>cL b a c 0 d A bN bN λb=>cg b a λa c d e f g=>K a c d e f g b):iF P A h K Kp:=dc mq K Tryz.func183 H
theorem aE7{K:CQ}(H:aI h #[(.pointer P)] afY λa b=>Ld b a .pointer λc=>NN c λc=>ou b c λc d e f g i j k l m n p q r s t=>aI b Pf MM λb u=>rH u b c d e f g i j k l m n p q r s t λc=>aI c #[(.int .u8 0)] Y8 λc d=>St d c (.int .u8 0) λd=>Ld d a .pointer λe=>NN e λe=>Ld d (e.add 9) Sl.v λe=>aV ((e.n:Int)>0) (Ld d a .pointer λe=>NN e λe=>Ld d (e.add 9) Sl.v λe=>Ld d a .pointer λf=>NN f λf=>Ld d (f.add 9) Sl.v λf=>aP ((f.n:Int)-1) λf=>Ix e.a e.n 1 f λe=>Ld d e (.int .u8) λe=>St d c (.int .u8 e) λd=>K (.func (.func 187) #[] #[(c9 b),(c9 a),(c9 c)]) d) (K (.func (.func 187) #[] #[(c9 b),(c9 a),(c9 c)]) d)):uk P h K Kp:=dc Bm K Tryz.func184 H
def Uy:=mc aE Tryz.f185 (am [(2000005,3),(2000008,1)]) [] dr
def MZ:=jK Uy 1 31 [.p]
def M0:=jK Uy 0 15 [.p,.b]
theorem aBR{K:bU}(H:NN P λa=>Ld h (a.add 7) mI λa=>aP (a+1) λa=>NN P λb=>St h (b.add 7) (ah a) λa=>K 0 a):MZ K Kp P h:=jf H
theorem aBS{K:bU}(H:If x (NN P λa=>Ld h (a.add 8) mI λa=>aP (a+1) λa=>NN P λb=>St h (b.add 8) (ah a) λa=>MZ K Kp P a) (NN P λa=>Ld h (a.add 9) Sl.v λa=>NN P λb=>Ld h (b.add 7) mI λb=>Dv 8<|aP (Int.tdiv b 8) λb=>Ix a.a a.n 1 b λc=>Ld h c (.int .u8) λc=>NN P λd=>Ld h (d.add 7) mI λd=>Dv 8<|Lt (Int.tmod d 8) λd=>Nn d<|Wr .u8 ((1:Int)*2^(min (Int.toNat d) (IntKind.bits .u8))) λd=>Lt (gJ .or .u8 c d) λc=>Ix a.a a.n 1 b λa=>St h a (.int .u8 c) λa=>MZ K Kp P a)):M0 K Kp P x h:=jf H
theorem aE6{K:bU}(H:NN P λa=>Ld h (a.add 7) mI λa=>aV (a>=4096) (K 3 h) (NN P λa=>Ld h (a.add 7) mI λa=>Dv 8<|Lt (Int.tmod a 8) λa=>If (a==0) (NN P λa=>Ld h (a.add 9) Sl.v λa=>aI h #[(.int .u8 0)] Y8 λb c=>Ap c Y8 #[(.int .u8 0)] 1 1 a 1 (rd c (some b) (1*1)) λa b=>NN P λc=>St b (c.add 9) (Sl.v a) λa=>M0 K Kp P x a) (M0 K Kp P x h))):oZ P x h K Kp:=cJ (Uy K Kp) dr K Tryz.func185 H
theorem aE5{K:bU}(H:NN P λb=>Ld h (b.add 10) mI λb=>aP (b+a) λa=>NN P λb=>St h (b.add 10) (ah a) λa=>NN P λb=>Ld a (b.add 10) mI λb=>aV (b>4194304) (K 3 a) (K 0 a)):nL P a h K Kp:=dc dr K Tryz.func186 H
theorem aE4{K:jn}(H:Ld h o .pointer λa=>ou h n λb c d e f g i j k l m n q r s t=>NN a λa=>rH h a b c d e f g i j k l m n q r s t λa=>Ld a o .pointer λb=>NN b λb=>Ld a (b.add 9) Sl.v λb=>aV ((b.n:Int)>0) (Ld a o .pointer λb=>NN b λb=>Ld a (b.add 9) Sl.v λb=>Ld a o .pointer λc=>NN c λc=>Ld a (c.add 9) Sl.v λc=>aP ((c.n:Int)-1) λc=>Ld a p (.int .u8) λd=>Ix b.a b.n 1 c λb=>St a b (.int .u8 d) λa=>K  a) (K  a)):ajP n o p h K Kp:=dc kO K Tryz.func187 H
theorem aE3{K:jJ}(H:aI h cX ck λa b=>NN P λc=>NN P λd=>NN P λe=>Ld b (e.add 16) Sl.v λf=>NN P λg=>Ld b (g.add 17) Sl.v λi=>uj (some d) b (λd j=>aT b j (g.add 17) 1 <|aT b j (e.add 16) 1 <|qK f 4 j (λb e=>aT j e (g.add 17) 1 <|Fo i e (λe f=>aI f #[(Sl.v d),(Sl.v b),(Sl.v e)] fQ λb d=>iF (some c) (⟨some b,3,3⟩:Sl) d (λb c d e f g i=>cL i a b c d e f g λb=>cg b a λa c d e f g=>K a c d e f g b) Kp) Kp) Kp) Kp):ajO P h K Kp:=Ef [] [(1,(OT.l [0,1,2,3,4,5,7,8,9,10,12,13,14,15,6,11,16,17,18,19] .fin))] mq K Tryz.func188 H
def Ae:=mc aE Tryz.f190 (am [(2000008,9)]) [] dr
def aii:=jK Ae 0 63 [.p,.d]
theorem aBQ{K:bU}(H:NN P λa=>Ld h (n.add 2) .string λb=>aP ((16:Int)+(b.size:Int)) λb=>nL (some a) b h (λa b=>K a b) Kp):aii K Kp P n h:=jf H
theorem aE2{K:bU}(H:iP h x a V A λa b=>NN P λc=>Ld b a .bool λd=>oZ (some c) d b (λb c=>If (b !=0) (K b c) (NN P λb=>Ld c (b.add 17) Sl.v λb=>Ld c (a.add 2) .string λd=>aP ((b.n:Int)+(d.size:Int)) λb=>aV (b>65536) (K 4 c) (NN P λb=>Ld c (b.add 17) Sl.v λb=>Ld c (a.add 2) .string λd=>Ap c Y8 #[(.int .u8 0)] 1 1 b d.size (λa=>a=d.data.toList.map λa=>Value.int .u8 a.toNat) λb c=>NN P λd=>St c (d.add 17) (Sl.v b) λb=>NN P λc=>Ld b (c.add 16) Sl.v λd=>NN P λe=>Ld b (e.add 17) Sl.v λe=>aI b #[(ah (e.n:Int))] Y6 λe f=>aT b f (c.add 16) 1 <|Ap f Y6 #[(ah 0)] 1 8 d 1 (rd f (some e) (1*1)) λb c=>NN P λd=>St c (d.add 16) (Sl.v b) λb=>aii K Kp P a b))) Kp):OK P x a V A h K Kp:=cJ (Ae K Kp) dr K Tryz.func190 H
theorem aE1{K:bU}(H:NN P λa=>bP h (a.add 11) λa b c d=>OK P a b c d h (λa b=>K a b) Kp):XR P h K Kp:=dc dr K Tryz.func191 H
theorem aE0{K:gE}(H:NN P λa=>Ld h (a.add 8) mI λa=>If (a==0) (K bN h) (NN P λa=>Ld h (a.add 9) Sl.v λa=>Fo a h (λa b=>K a b) Kp)):uj P h K Kp:=dc gX K Tryz.func192 H
def xU:=mc aE Tryz.f193 (am [(2003,114722),(2006,3260578)]) [] gX
def Rw:=fK 36 [1,14,15,5,16] [tI,.s,tI,.s,tI]
def Rv:=fK 36 [1,7,14,15,16,20,5,21] [tI,tI,.s,tI,tI,tI,.s,tI]
def ag1:=DV xU 2006 14950 Rv
def ag2:=lK xU 2003 58 Rw
theorem aAj{K:gE}:jP (A0:=Sl) (A1:=Int) (ag1 K Kp N1 a b A c d e) (Rv a b A c d e) λf g i j=>(aV (i<e) (Wr .u64 b λk=>aP ((8:Int)*i) λl=>Nn l<|Lt (Int.fdiv k (2^(min (Int.toNat l) (IntKind.bits .u64)))) λk=>Wr .u8 k λk=>aI j #[(.int .u8 k)] Y8 λj k=>Ap k Y8 #[(.int .u8 0)] 1 1 g 1 (rd k (some j) (1*1)) λg j=>aP (i+1) λi=>f (Rv a b A c d e g i) j) (aP (d+1) λb=>N1 (Rw a A c g b) j)):=jW
theorem aAk{K:gE}:jP (A0:=Sl) (A1:=Int) (ag2 K Kp a A b) (Rw a A b) λc d e f=>(aV (e<b) (Ix A.a A.n 1 e λg=>Ld f g mI λg=>ag1 K Kp c a g A b e a d 0 f) (K d f)):=jW
theorem aEZ{K:gE}(H:aP (a*(A.n:Int)) λb=>dP h Y8 #[(.int .u8 0)] 1 1 0 b λb c=>ag2 K Kp a A (A.n:Int) b 0 c):qK A a h K Kp:=cJ (xU K Kp) gX K Tryz.func193 H
theorem aEd{K:gE}(H:If (Option.isNone A.a) (K bN h) (aI h #[] Y8 λa b=>Ap b Y8 #[(.int .u8 0)] 1 1 (⟨some a,0,0⟩:Sl) A.n (rd b A.a (A.n*1)) λa b=>K a b)):Fo A h K Kp:=dc gX K Tryz.func194 H
theorem aEY{K:jn}(H:Ld h n id λa=>cZ aE a [] h (λa b=>a=(.tuple #[])/\(Ld b o .pointer λa=>Ld b o .pointer λc=>Ld b o .pointer λd=>NN d λd=>Ld b (d.add 16) Sl.v λd=>Ld b p mI λe=>jo d 1 none (some e) none λd=>Ld b o .pointer λe=>NN e λe=>Ld b (e.add 17) Sl.v λe=>Ld b q mI λf=>jo e 1 none (some f) none λe=>NN a λa=>St b (a.add 16) (Sl.v d) λa=>aT b a q 1 <|aT b a o 1 <|NN c λb=>St a (b.add 17) (Sl.v e) λa=>K  a)) Kp):ajN n o p q h K Kp:=dc kO K Tryz.func195 H
def aeN:=mc aE Tryz.f196 (am [(2000002,13)]) [(1,(OT.l [0,1,2,3,4,5,7,8,9,10] (.alt (OT.l [6] (.alt (OT.l [11] (.alt (OT.l [12] (.alt (OT.l [13,14,15] .fin) (OT.l [14,13,15] .fin))) (OT.l [14,12,13,15] .fin))) (OT.l [14,11,12,13,15] .fin))) (OT.l [14,6,11,12,13,15] .fin))))] mq
def AL:=jK aeN 0 7 [.p,.d,.d]
theorem aBP{K:jJ}(H:NN P λa=>Ld h (a.add 17) id λa=>fD aE a "colonnade/build.done" [] h (λa b=>∃c:Int,∃d:Int,∃e:Int,∃f:Sl,∃g:Sl,∃i:Sl,a=(.agg #[(ah c),(ah d),(ah e),(Sl.v f),(Sl.v g),(Sl.v i)])/\(aI b #[(ah c),(ah d),(ah e),(Sl.v f),(Sl.v g),(Sl.v i)] ck λa b=>St b (o.add 4) (.slice (some a) 1 1) λa=>cg a o λb c d e f g=>cL a n b c d e f g λa=>cg a n λb c d e f g=>K b c d e f g a)) Kp):AL K Kp P n o h:=jf H
theorem aEX{K:jJ}(H:aI h cX ck λa b=>NN P λc=>NN P λd=>NN P λe=>Ld b (e.add 16) Sl.v λf=>(uj (some d) b (λd g=>aT b g (e.add 16) 1 <|(qK f 4 g (λb f=>(aI f #[(Sl.v d),(Sl.v b)] fQ λb d=>(iF (some c) (⟨some b,2,2⟩:Sl) d (λb c d f g i j=>aI j cX ck λk l=>aT j l (e.add 16) 1 <|cL l k b c d f g i λb=>AL K Kp P a k b) Kp)/\(aI d cX ck λf g=>aT d g (e.add 16) 1 <|iF (some c) (⟨some b,2,2⟩:Sl) g (λb c d e g i j=>cL j f b c d e g i λb=>AL K Kp P a f b) Kp))/\(aI f cX ck λg i=>aT f i (e.add 16) 1 <|aI i #[(Sl.v d),(Sl.v b)] fQ λb d=>iF (some c) (⟨some b,2,2⟩:Sl) d (λb c d e f i j=>cL j g b c d e f i λb=>AL K Kp P a g b) Kp)) Kp)/\(aI g cX ck λb i=>aT g i (e.add 16) 1 <|qK f 4 i (λe f=>aI f #[(Sl.v d),(Sl.v e)] fQ λd e=>iF (some c) (⟨some d,2,2⟩:Sl) e (λc d e f g i j=>cL j b c d e f g i λc=>AL K Kp P a b c) Kp) Kp)) Kp)/\(aI b cX ck λg i=>aT b i (e.add 16) 1 <|uj (some d) i (λb d=>aT i d (e.add 16) 1 <|qK f 4 d (λd e=>aI e #[(Sl.v b),(Sl.v d)] fQ λb d=>iF (some c) (⟨some b,2,2⟩:Sl) d (λb c d e f i j=>cL j g b c d e f i λb=>AL K Kp P a g b) Kp) Kp) Kp)):ajM P h K Kp:=cJ (aeN K Kp) mq K Tryz.func196 H
def LY:=mc aE Tryz.f198 (am [(2000012,65),(2000013,65),(2006,234881089)]) [(13,(OT.l [0,1,2,3,4,5,6,9,7,8,10,11,12] .fin))] dr
def aif:=jK LY 1 63 [.p,tI]
def aih:=jK LY 0 31 [.p,tI]
def Ru:=fK 67 [0,6,25,26,27] [.p,tI,.s,tI,tI]
def ag0:=lK LY 2006 122 Ru
theorem aBN{K:bU}(H:NN P λb=>NN P λc=>Ld h (c.add 17) id λc=>fD aE c "colonnade/build.weight" [] h (λc d=>∃e:Int,c=(ah e)/\(aP ((16:Int)+e) λc=>aP (c-a) λa=>nL (some b) a d (λa b=>K a b) Kp)) Kp):aif K Kp P a h:=jf H
theorem aBO{K:bU}(H:NN P λb=>Ld h (b.add 16) Sl.v λc=>NN P λd=>Ld h (d.add 17) id λd=>fD aE d "colonnade/build.count" [] h (λd e=>∃f:Int,d=(ah f)/\(aT h e (b.add 16) 1 <|aI e #[(ah f)] Y6 λd f=>aT e f (b.add 16) 1 <|Ap f Y6 #[(ah 0)] 1 8 c 1 (rd f (some d) (1*1)) λb c=>NN P λd=>St c (d.add 16) (Sl.v b) λb=>aif K Kp P a b)) Kp):aih K Kp P a h:=jf H
theorem aAi{K:bU}:eZ (A0:=Int) (ag0 K Kp P a A b) (Ru P a A b) λc d e=>(aV (d<b) (Ix A.a A.n 4 d λf=>bP e f λf g i j=>aI e fY dh λe k=>dL k e f g i j λf=>NN P λg=>Ld f (g.add 17) id λg=>bP f e λe i j k=>fD aE g "colonnade/build.take" [(.agg #[(.bool e),(ah i),(.string j),(Sl.v k)])] f (λe f=>∃g:Int,e=(ah g)/\(If (g !=0) (K g f) (aP (d+1) λd=>c (Ru P a A b d) f))) Kp) (aih K Kp P a e)):=fc
theorem aEW{K:bU}(H:iP h x a V A λa b=>NN P λc=>Ld b a .bool λd=>oZ (some c) d b (λb c=>If (b !=0) (K b c) (NN P λb=>Ld c (b.add 17) id λb=>fD aE b "colonnade/build.weight" [] c (λb c=>∃d:Int,b=(ah d)/\(Ld c (a.add 3) Sl.v λa=>ag0 K Kp P d a (a.n:Int) 0 c)) Kp)) Kp):OI P x a V A h K Kp:=cJ (LY K Kp) dr K Tryz.func198 H
theorem aEV{K:bU}(H:NN P λa=>bP h (a.add 11) λa b c d=>OI P a b c d h (λa b=>K a b) Kp):XQ P h K Kp:=dc dr K Tryz.func199 H
theorem aEU{K:jn}(H:Ld h n id λa=>cZ aE a [] h (λa b=>a=(.tuple #[])/\(Ld b o id λa=>cZ aE a [] b (λa b=>a=(.tuple #[])/\(Ld b p .pointer λa=>Ld b p .pointer λc=>NN c λc=>Ld b (c.add 16) Sl.v λc=>Ld b q mI λd=>jo c 1 none (some d) none λc=>NN a λa=>St b (a.add 16) (Sl.v c) λa=>K  a)) Kp)) Kp):ajL n o p q h K Kp:=dc kO K Tryz.func200 H
def aeM:=mc aE Tryz.f201 (am [(2000002,13)]) [(1,(OT.l [0,1,2,3,4,5] (.alt (OT.l [6] (.alt (OT.l [7] (.alt (OT.l [8,9,10] .fin) (OT.l [9,8,10] .fin))) (OT.l [9,7,8,10] .fin))) (OT.l [9,6,7,8,10] .fin))))] mq
def C1:=jK aeM 0 7 [.p,.d,.d]
theorem aBM{K:jJ}(H:NN P λa=>Ld h (a.add 16) id λa=>fD aE a "colonnade/build.done" [] h (λa b=>∃c:Int,∃d:Int,∃e:Int,∃f:Sl,∃g:Sl,∃i:Sl,a=(.agg #[(ah c),(ah d),(ah e),(Sl.v f),(Sl.v g),(Sl.v i)])/\(aI b #[(ah c),(ah d),(ah e),(Sl.v f),(Sl.v g),(Sl.v i)] ck λa b=>St b (o.add 4) (.slice (some a) 1 1) λa=>cg a o λb c d e f g=>cL a n b c d e f g λa=>cg a n λb c d e f g=>K b c d e f g a)) Kp):C1 K Kp P n o h:=jf H
theorem aET{K:jJ}(H:aI h cX ck λa b=>NN P λc=>NN P λd=>(uj (some d) b (λb d=>(aI d #[(Sl.v b)] fQ λb d=>(iF (some c) (⟨some b,1,1⟩:Sl) d (λb c d e f g i=>aI i cX ck λi j=>cL j i b c d e f g λb=>C1 K Kp P a i b) Kp)/\(aI d cX ck λd e=>iF (some c) (⟨some b,1,1⟩:Sl) e (λb c e f g i j=>cL j d b c e f g i λb=>C1 K Kp P a d b) Kp))/\(aI d cX ck λd e=>aI e #[(Sl.v b)] fQ λb e=>iF (some c) (⟨some b,1,1⟩:Sl) e (λb c e f g i j=>cL j d b c e f g i λb=>C1 K Kp P a d b) Kp)) Kp)/\(aI b cX ck λb e=>uj (some d) e (λd e=>aI e #[(Sl.v d)] fQ λd e=>iF (some c) (⟨some d,1,1⟩:Sl) e (λc d e f g i j=>cL j b c d e f g i λc=>C1 K Kp P a b c) Kp) Kp)):ajK P h K Kp:=cJ (aeM K Kp) mq K Tryz.func201 H
def xT:=mc aE Tryz.f203 (am [(2000015,73),(2006,1610612809)]) [(17,(OT.l [0,1,2,3,4,5,6,9,7,8,10,11,12] .fin))] dr
def aie:=jK xT 0 31 [.p,.d,tI]
def Gu:=fK 74 [0,3,6,29,30] [.p,.d,tI,tI,tI]
def agZ:=lK xT 2006 122 Gu
theorem aBL{K:bU}(H:Ld h n .bool λb=>If b (NN P λa=>nL (some a) 16 h (λa b=>K a b) Kp) (NN P λb=>NN P λc=>Ld h (c.add 16) id λc=>fD aE c "colonnade/build.weight" [] h (λc d=>∃e:Int,c=(ah e)/\(aP ((16:Int)+e) λc=>aP (c-a) λa=>nL (some b) a d (λa b=>K a b) Kp)) Kp)):aie K Kp P n a h:=jf H
theorem aAh{K:bU}:eZ (A0:=Int) (agZ K Kp P n a b) (Gu P n a b) λc d e=>(aV (d<b) (Ld e n .bool λf=>If f (NN P λf=>Ld e (f.add 16) id λf=>fD aE f "colonnade/build.zero" [] e (λe f=>∃g:Int,e=(ah g)/\(If (g !=0) (K g f) (aP (d+1) λd=>c (Gu P n a b d) f))) Kp) (NN P λf=>Ld e (f.add 16) id λf=>Ld e (n.add 3) Sl.v λg=>Ix g.a g.n 4 d λg=>bP e g λg i j k=>sI aE f λ_=>fD aE f "colonnade/build.take" [(.agg #[(.bool g),(ah i),(.string j),(Sl.v k)])] e (λe f=>∃g:Int,e=(ah g)/\(If (g !=0) (K g f) (aP (d+1) λd=>c (Gu P n a b d) f))) Kp)) (aie K Kp P n a e)):=fc
theorem aES{K:bU}(H:iP h x a V A λa b=>NN P λc=>Ld b a .bool λd=>oZ (some c) d b (λb c=>If (b !=0) (K b c) (NN P λb=>Ld c (b.add 16) id λb=>fD aE b "colonnade/build.weight" [] c (λb c=>∃d:Int,b=(ah d)/\(NN P λb=>Ld c ((b.add 2).add 1) mI λb=>agZ K Kp P a d b 0 c)) Kp)) Kp):OG P x a V A h K Kp:=cJ (xT K Kp) dr K Tryz.func203 H
def Ux:=mc aE Tryz.f204 (am [(2000013,17),(2008,206158430225)]) [(13,(OT.l [0,1,2,3,4,5,6,9,7,8,10,11,12] .fin))] dr
def aid:=jK Ux 0 63 [.p,tI]
def Rt:=fK 60 [0,4,36,37] [.p,tI,tI,tI]
def agY:=lK Ux 2008 250 Rt
theorem aBK{K:bU}(H:NN P λb=>NN P λc=>Ld h (c.add 16) id λc=>fD aE c "colonnade/build.weight" [] h (λc d=>∃e:Int,c=(ah e)/\(aP ((16:Int)+e) λc=>aP (c-a) λa=>nL (some b) a d (λa b=>K a b) Kp)) Kp):aid K Kp P a h:=jf H
theorem aAg{K:bU}:eZ (A0:=Int) (agY K Kp P a b) (Rt P a b) λc d e=>(aV (d<b) (NN P λf=>Ld e (f.add 16) id λf=>fD aE f "colonnade/build.zero" [] e (λe f=>∃g:Int,e=(ah g)/\(If (g !=0) (K g f) (aP (d+1) λd=>c (Rt P a b d) f))) Kp) (aid K Kp P a e)):=fc
theorem aER{K:bU}(H:NN P λa=>Ld h (a.add 15) .bool λa=>If a (NN P λa=>bP h (a.add 11) λa b c d=>OG P a b c d h (λa b=>K a b) Kp) (NN P λa=>oZ (some a) false h (λa b=>If (a !=0) (K a b) (NN P λa=>Ld b (a.add 16) id λa=>fD aE a "colonnade/build.weight" [] b (λa b=>∃c:Int,a=(ah c)/\(NN P λa=>Ld b ((a.add 2).add 1) mI λa=>agY K Kp P c a 0 b)) Kp)) Kp)):XP P h K Kp:=cJ (Ux K Kp) dr K Tryz.func204 H
theorem aEQ{K:jn}(H:Ld h n id λa=>cZ aE a [] h (λa b=>a=(.tuple #[])/\(Ld b o id λa=>cZ aE a [] b (λa b=>a=(.tuple #[])/\(K  b)) Kp)) Kp):ajJ n o h K Kp:=dc kO K Tryz.func205 H
def Ad:=mc aE Tryz.f206 (am [(2000002,13)]) [(1,(OT.l [0,1,2,3,4,5] (.alt (OT.l [6] (.alt (OT.l [7] (.alt (OT.l [8,9,10] .fin) (OT.l [9,8,10] .fin))) (OT.l [9,7,8,10] .fin))) (OT.l [9,6,7,8,10] .fin))))] mq
def AK:=jK Ad 0 7 [.p,.d,.d]
theorem aBJ{K:jJ}(H:NN P λa=>Ld h (a.add 16) Sl.v λa=>OD a h (λa b=>St b (o.add 4) (Sl.v a) λa=>cg a o λb c d e f g=>cL a n b c d e f g λa=>cg a n λb c d e f g=>K b c d e f g a) Kp):AK K Kp P n o h:=jf H
theorem aEP{K:jJ}(H:aI h cX ck λa b=>NN P λc=>NN P λd=>(uj (some d) b (λb d=>(aI d #[(Sl.v b)] fQ λb d=>(iF (some c) (⟨some b,1,1⟩:Sl) d (λb c d e f g i=>aI i cX ck λi j=>cL j i b c d e f g λb=>AK K Kp P a i b) Kp)/\(aI d cX ck λd e=>iF (some c) (⟨some b,1,1⟩:Sl) e (λb c e f g i j=>cL j d b c e f g i λb=>AK K Kp P a d b) Kp))/\(aI d cX ck λd e=>aI e #[(Sl.v b)] fQ λb e=>iF (some c) (⟨some b,1,1⟩:Sl) e (λb c e f g i j=>cL j d b c e f g i λb=>AK K Kp P a d b) Kp)) Kp)/\(aI b cX ck λb e=>uj (some d) e (λd e=>aI e #[(Sl.v d)] fQ λd e=>iF (some c) (⟨some d,1,1⟩:Sl) e (λc d e f g i j=>cL j b c d e f g i λc=>AK K Kp P a b c) Kp) Kp)):ajI P h K Kp:=cJ (Ad K Kp) mq K Tryz.func206 H
def Uw:=mc aE Tryz.f208 (am [(2000015,73),(2006,939524169)]) [(17,(OT.l [0,1,2,3,4,5,6,9,7,8,10,11,12] .fin))] dr
def aic:=jK Uw 0 31 [.p,.d,tI]
def Gt:=fK 70 [0,3,6,27,28,29] [.p,.d,tI,.s,tI,tI]
def agX:=lK Uw 2006 122 Gt
theorem aBI{K:bU}(H:Ld h n .bool λb=>If b (NN P λa=>nL (some a) 16 h (λa b=>K a b) Kp) (NN P λb=>NN P λc=>Ld h (c.add 16) Sl.v λc=>Fp c h (λc d=>aP ((16:Int)+c) λc=>aP (c-a) λa=>nL (some b) a d (λa b=>K a b) Kp) Kp)):aic K Kp P n a h:=jf H
theorem aAf{K:bU}:eZ (A0:=Int) (agX K Kp P n a A b) (Gt P n a A b) λc d e=>(aV (d<b) (Ix A.a A.n 1 d λf=>Ld e f id λf=>Ld e n .bool λg=>If g (fD aE f "colonnade/build.zero" [] e (λe f=>∃g:Int,e=(ah g)/\(If (g !=0) (K g f) (aP (d+1) λd=>c (Gt P n a A b d) f))) Kp) (Ld e (n.add 3) Sl.v λg=>Ix g.a g.n 4 d λg=>bP e g λg i j k=>CV aE f "colonnade/build.take" <|fD aE f "colonnade/build.take" [(.agg #[(.bool g),(ah i),(.string j),(Sl.v k)])] e (λe f=>∃g:Int,e=(ah g)/\(If (g !=0) (K g f) (aP (d+1) λd=>c (Gt P n a A b d) f))) Kp)) (aic K Kp P n a e)):=fc
theorem aEO{K:bU}(H:iP h x a V A λa b=>NN P λc=>Ld b a .bool λd=>oZ (some c) d b (λb c=>If (b !=0) (K b c) (NN P λb=>Ld c (b.add 16) Sl.v λb=>Fp b c (λb c=>NN P λd=>Ld c (d.add 16) Sl.v λd=>agX K Kp P a b d (d.n:Int) 0 c) Kp)) Kp):OE P x a V A h K Kp:=cJ (Uw K Kp) dr K Tryz.func208 H
def xS:=mc aE Tryz.f209 (am [(2000014,17),(2008,240518168593)]) [(14,(OT.l [0,1,2,3,4,5,6,9,7,8,10,11,12] .fin))] dr
def aib:=jK xS 0 63 [.p,tI]
def Rr:=fK 59 [0,4,35,36,37] [.p,tI,.s,tI,tI]
def agW:=lK xS 2008 250 Rr
theorem aBH{K:bU}(H:NN P λb=>NN P λc=>Ld h (c.add 16) Sl.v λc=>Fp c h (λc d=>aP ((16:Int)+c) λc=>aP (c-a) λa=>nL (some b) a d (λa b=>K a b) Kp) Kp):aib K Kp P a h:=jf H
theorem aAe{K:bU}:eZ (A0:=Int) (agW K Kp P a A b) (Rr P a A b) λc d e=>(aV (d<b) (Ix A.a A.n 1 d λf=>Ld e f id λf=>fD aE f "colonnade/build.zero" [] e (λe f=>∃g:Int,e=(ah g)/\(If (g !=0) (K g f) (aP (d+1) λd=>c (Rr P a A b d) f))) Kp) (aib K Kp P a e)):=fc
theorem aEN{K:bU}(H:NN P λa=>Ld h (a.add 15) .bool λa=>If a (NN P λa=>bP h (a.add 11) λa b c d=>OE P a b c d h (λa b=>K a b) Kp) (NN P λa=>oZ (some a) false h (λa b=>If (a !=0) (K a b) (NN P λa=>Ld b (a.add 16) Sl.v λa=>Fp a b (λa b=>NN P λc=>Ld b (c.add 16) Sl.v λc=>agW K Kp P a c (c.n:Int) 0 b) Kp)) Kp)):XO P h K Kp:=cJ (xS K Kp) dr K Tryz.func209 H
def aeL:=mc aE Tryz.f210 (am [(2003,456)]) [] gX
def Rq:=fK 19 [6,7,3,8] [.s,tI,.s,tI]
def agV:=lK aeL 2003 58 Rq
theorem aAd{K:gE}:jP (A0:=Sl) (A1:=Int) (agV K Kp A a) (Rq A a) λb c d e=>(aV (d<a) (Ix A.a A.n 1 d λf=>Ld e f id λf=>fD aE f "colonnade/build.done" [] e (λe f=>∃g:Int,∃i:Int,∃j:Int,∃k:Sl,∃l:Sl,∃m:Sl,e=(.agg #[(ah g),(ah i),(ah j),(Sl.v k),(Sl.v l),(Sl.v m)])/\(aI f #[(ah g),(ah i),(ah j),(Sl.v k),(Sl.v l),(Sl.v m)] ck λe f=>Ap f ck cX 6 96 c 1 (rd f (some e) (1*6)) λc e=>aP (d+1) λd=>b (Rq A a c d) e)) Kp) (K c e)):=jW
theorem aEM{K:gE}(H:agV K Kp A (A.n:Int) bN 0 h):OD A h K Kp:=cJ (aeL K Kp) gX K Tryz.func210 H
def aeK:=mc aE Tryz.f211 (am [(2003,456)]) [] Bm
def Rp:=fK 19 [3,6,7,8] [.d,.s,tI,tI]
def agU:=lK aeK 2003 58 Rp
theorem aAc{K:CQ}:eZ (A0:=Int) (agU K Kp n A a) (Rp n A a) λb c d=>(aV (c<a) (Ix A.a A.n 1 c λe=>Ld d e id λe=>Ld d n Sl.v λf=>fD aE e "colonnade/build.mark" [] d (λe g=>∃i:Value,e=i/\(aT d g n 1 <|NA i <|aI g #[i] Y4 λd e=>aT g e n 1 <|Ap e Y4 #[(.nilFunc)] 1 8 f 1 (rd e (some d) (1*1)) λd e=>St e n (Sl.v d) λd=>aP (c+1) λc=>b (Rp n A a c) d)) Kp) (K (.func (.func 214) #[] #[(c9 n)]) d)):=fc
theorem aEL{K:CQ}(H:aI h #[(.slice none 0 0)] VH λa b=>agU K Kp a A (A.n:Int) 0 b):OC A h K Kp:=cJ (aeK K Kp) Bm K Tryz.func211 H
theorem aEK{K:jn}(H:Ld h n id λa=>cZ aE a [] h (λa b=>a=(.tuple #[])/\(Ld b o id λa=>cZ aE a [] b (λa b=>a=(.tuple #[])/\(K  b)) Kp)) Kp):ajH n o h K Kp:=dc kO K Tryz.func212 H
def LX:=mc aE Tryz.f213 (am [(2003,456)]) [] dr
def Ro:=fK 18 [6,7,3,8] [.s,tI,tI,tI]
def agT:=lK LX 2003 58 Ro
theorem aAb{K:bU}:jP (A0:=Int) (A1:=Int) (agT K Kp A a) (Ro A a) λb c d e=>(aV (d<a) (Ix A.a A.n 1 d λf=>Ld e f id λf=>fD aE f "colonnade/build.weight" [] e (λe f=>∃g:Int,e=(ah g)/\(aP (c+g) λc=>aP (d+1) λd=>b (Ro A a c d) f)) Kp) (K c e)):=jW
theorem aEJ{K:bU}(H:agT K Kp A (A.n:Int) 0 0 h):Fp A h K Kp:=cJ (LX K Kp) dr K Tryz.func213 H
def aeJ:=mc aE Tryz.f214 (am [(2001,56)]) [] kO
def Rn:=fK 12 [3,4,5] [.s,tI,tI]
def agS:=lK aeJ 2001 6 Rn
theorem aAa{K:jn}:eZ (A0:=Int) (agS K Kp A a) (Rn A a) λb c d=>(aV (c<a) (Ix A.a A.n 1 c λe=>Ld d e id λe=>cZ aE e [] d (λd e=>d=(.tuple #[])/\(aP (c+1) λc=>b (Rn A a c) e)) Kp) (K  d)):=fc
theorem aEI{K:jn}(H:Ld h n Sl.v λa=>agS K Kp a (a.n:Int) 0 h):ajG n h K Kp:=cJ (aeJ K Kp) kO K Tryz.func214 H
def aeI:=mc aE Tryz.f215 (am [(2000002,13)]) [(1,(OT.l [0,1,2,3,4,5,6,8,9,10,11] (.alt (OT.l [7] (.alt (OT.l [12] (.alt (OT.l [13] (.alt (OT.l [14,15,16] .fin) (OT.l [15,14,16] .fin))) (OT.l [15,13,14,16] .fin))) (OT.l [15,12,13,14,16] .fin))) (OT.l [15,7,12,13,14,16] .fin))))] mq
def AJ:=jK aeI 0 7 [.p,.d,.d]
theorem aBG{K:jJ}(H:NN P λa=>Ld h (a.add 18) Sl.v λa=>OD a h (λa b=>St b (o.add 4) (Sl.v a) λa=>cg a o λb c d e f g=>cL a n b c d e f g λa=>cg a n λb c d e f g=>K b c d e f g a) Kp):AJ K Kp P n o h:=jf H
theorem aEH{K:jJ}(H:aI h cX ck λa b=>NN P λc=>NN P λd=>Ld b (d.add 16) Sl.v λe=>NN P λf=>Ld b (f.add 17) Sl.v λg=>(Fo e b (λe i=>aT b i (f.add 17) 1 <|(qK g 4 i (λb g=>(aI g #[(Sl.v e),(Sl.v b)] fQ λb e=>(iF (some c) (⟨some b,2,2⟩:Sl) e (λb c e g i j k=>aI k cX ck λl m=>aT k m (f.add 17) 1 <|aT k m (d.add 16) 1 <|cL m l b c e g i j λb=>AJ K Kp P a l b) Kp)/\(aI e cX ck λg i=>aT e i (f.add 17) 1 <|aT e i (d.add 16) 1 <|iF (some c) (⟨some b,2,2⟩:Sl) i (λb c d e f i j=>cL j g b c d e f i λb=>AJ K Kp P a g b) Kp))/\(aI g cX ck λi j=>aT g j (f.add 17) 1 <|aT g j (d.add 16) 1 <|aI j #[(Sl.v e),(Sl.v b)] fQ λb d=>iF (some c) (⟨some b,2,2⟩:Sl) d (λb c d e f g j=>cL j i b c d e f g λb=>AJ K Kp P a i b) Kp)) Kp)/\(aI i cX ck λb j=>aT i j (f.add 17) 1 <|aT i j (d.add 16) 1 <|qK g 4 j (λd f=>aI f #[(Sl.v e),(Sl.v d)] fQ λd e=>iF (some c) (⟨some d,2,2⟩:Sl) e (λc d e f g i j=>cL j b c d e f g i λc=>AJ K Kp P a b c) Kp) Kp)) Kp)/\(aI b cX ck λi j=>aT b j (f.add 17) 1 <|aT b j (d.add 16) 1 <|Fo e j (λb d=>aT j d (f.add 17) 1 <|qK g 4 d (λd e=>aI e #[(Sl.v b),(Sl.v d)] fQ λb d=>iF (some c) (⟨some b,2,2⟩:Sl) d (λb c d e f g j=>cL j i b c d e f g λb=>AJ K Kp P a i b) Kp) Kp) Kp)):ajF P h K Kp:=cJ (aeI K Kp) mq K Tryz.func215 H
theorem aEG{K:bU}(H:iP h x a V A λa b=>Ld b (a.add 1) mI λc=>Oz P c (.func (.func 221) #[] #[(c9 a)]) b (λa b=>K a b) Kp):OA P x a V A h K Kp:=dc dr K Tryz.func217 H
theorem aEF{K:bU}(H:NN P λa=>Ld h (a.add 15) .bool λa=>If a (NN P λa=>bP h (a.add 11) λa b c d=>OA P a b c d h (λa b=>K a b) Kp) (Oz P 0 (.func (.methodOf II "colonnade/build.zero") #[] #[]) h (λa b=>K a b) Kp)):XN P h K Kp:=dc dr K Tryz.func218 H
theorem aEE{K:jn}(H:Ld h n id λa=>cZ aE a [] h (λa b=>a=(.tuple #[])/\(Ld b o id λa=>cZ aE a [] b (λa b=>a=(.tuple #[])/\(Ld b p .pointer λa=>Ld b p .pointer λc=>Ld b p .pointer λd=>NN d λd=>Ld b (d.add 16) Sl.v λd=>Ld b q mI λe=>jo d 1 none (some e) none λd=>Ld b p .pointer λe=>NN e λe=>Ld b (e.add 17) Sl.v λe=>Ld b q mI λf=>jo e 1 none (some f) none λe=>NN a λa=>St b (a.add 16) (Sl.v d) λa=>aT b a q 1 <|aT b a p 1 <|NN c λb=>St a (b.add 17) (Sl.v e) λa=>K  a)) Kp)) Kp):ajE n o p q h K Kp:=dc kO K Tryz.func219 H
theorem aED{K:bU}(H:NN P λb=>oZ (some b) false h (λb c=>If (b !=0) (K b c) (NN P λb=>Ld c (b.add 18) Sl.v λb=>Ix b.a b.n 1 a λb=>Ld c b id λb=>fD aE b "colonnade/build.weight" [] c (λc d=>∃e:Int,c=(ah e)/\(NN P λc=>Ld d (c.add 16) Sl.v λc=>Wr .u8 a λa=>aI d #[(.int .u8 a)] Y8 λa d=>Ap d Y8 #[(.int .u8 0)] 1 1 c 1 (rd d (some a) (1*1)) λa c=>NN P λd=>St c (d.add 16) (Sl.v a) λa=>NN P λc=>Ld a (c.add 17) Sl.v λd=>fD aE b "colonnade/build.count" [] a (λf g=>∃i:Int,f=(ah i)/\(aT a g (c.add 17) 1 <|aI g #[(ah i)] Y6 λa f=>aT g f (c.add 17) 1 <|Ap f Y6 #[(ah 0)] 1 8 d 1 (rd f (some a) (1*1)) λa c=>NN P λd=>St c (d.add 17) (Sl.v a) λa=>cZ aE Y [b] a (λa c=>∃d:Int,a=(ah d)/\(If (d !=0) (K d c) (NN P λa=>fD aE b "colonnade/build.weight" [] c (λb c=>∃d:Int,b=(ah d)/\(aP ((16:Int)+d) λb=>aP (b-e) λb=>nL (some a) b c (λa b=>K a b) Kp)) Kp))) Kp)) Kp)) Kp)) Kp):Oz P a Y h K Kp:=Ef [] [(11,(OT.l [0,1,2,3,6,4,5,7,8,9] .fin))] dr K Tryz.func220 H
theorem aEC{K:bU}(H:Ld h (n.add 3) Sl.v λa=>Ix a.a a.n 4 0 λa=>bP h a λa b c d=>CV aE Y "colonnade/build.take" <|fD aE Y "colonnade/build.take" [(.agg #[(.bool a),(ah b),(.string c),(Sl.v d)])] h (λa b=>∃c:Int,a=(ah c)/\(K c b)) Kp):ajD Y n h K Kp:=dc dr K Tryz.func221 H
def aeH:=mc aE Tryz.f222 (am [(2000002,13)]) [(1,(OT.l [0,1,2,3,4,5,7,8,9,10,11,12,13,14,15,16,17] (.alt (OT.l [6] (.alt (OT.l [18] (.alt (OT.l [19] (.alt (OT.l [20] (.alt (OT.l [21,22,23] .fin) (OT.l [22,21,23] .fin))) (OT.l [22,20,21,23] .fin))) (OT.l [22,19,20,21,23] .fin))) (OT.l [22,18,19,20,21,23] .fin))) (OT.l [22,6,18,19,20,21,23] .fin))))] mq
def yS:=jK aeH 0 7 [.p,.d,.d]
theorem aBF{K:jJ}(H:NN P λa=>Ld h (a.add 17) id λa=>fD aE a "colonnade/build.done" [] h (λa b=>∃c:Int,∃d:Int,∃e:Int,∃f:Sl,∃g:Sl,∃i:Sl,a=(.agg #[(ah c),(ah d),(ah e),(Sl.v f),(Sl.v g),(Sl.v i)])/\(aI b #[(ah c),(ah d),(ah e),(Sl.v f),(Sl.v g),(Sl.v i)] ck λa b=>St b (o.add 5) (.slice (some a) 1 1) λa=>cg a o λb c d e f g=>cL a n b c d e f g λa=>cg a n λb c d e f g=>K b c d e f g a)) Kp):yS K Kp P n o h:=jf H
theorem aEB{K:jJ}(H:aI h cX ck λa b=>NN P λc=>NN P λd=>NN P λe=>Ld b (e.add 16) Sl.v λf=>NN P λg=>Ld b ((g.add 2).add 3) mI λi=>(uj (some d) b (λd j=>aT b j ((g.add 2).add 3) 1 <|aT b j (e.add 16) 1 <|(C4 i j (λb i=>aT j i (e.add 16) 1 <|(qK f b i (λb f=>(aI f #[(Sl.v d),(Sl.v b)] fQ λb d=>(iF (some c) (⟨some b,2,2⟩:Sl) d (λb c d f i j k=>aI k cX ck λl m=>aT k m ((g.add 2).add 3) 1 <|aT k m (e.add 16) 1 <|cL m l b c d f i j λb=>yS K Kp P a l b) Kp)/\(aI d cX ck λf i=>aT d i ((g.add 2).add 3) 1 <|aT d i (e.add 16) 1 <|iF (some c) (⟨some b,2,2⟩:Sl) i (λb c d e g i j=>cL j f b c d e g i λb=>yS K Kp P a f b) Kp))/\(aI f cX ck λi j=>aT f j ((g.add 2).add 3) 1 <|aT f j (e.add 16) 1 <|aI j #[(Sl.v d),(Sl.v b)] fQ λb d=>iF (some c) (⟨some b,2,2⟩:Sl) d (λb c d e f g j=>cL j i b c d e f g λb=>yS K Kp P a i b) Kp)) Kp)/\(aI i cX ck λj k=>aT i k ((g.add 2).add 3) 1 <|aT i k (e.add 16) 1 <|qK f b k (λb e=>aI e #[(Sl.v d),(Sl.v b)] fQ λb d=>iF (some c) (⟨some b,2,2⟩:Sl) d (λb c d e f g i=>cL i j b c d e f g λb=>yS K Kp P a j b) Kp) Kp)) Kp)/\(aI j cX ck λb k=>aT j k ((g.add 2).add 3) 1 <|aT j k (e.add 16) 1 <|C4 i k (λg i=>aT k i (e.add 16) 1 <|qK f g i (λe f=>aI f #[(Sl.v d),(Sl.v e)] fQ λd e=>iF (some c) (⟨some d,2,2⟩:Sl) e (λc d e f g i j=>cL j b c d e f g i λc=>yS K Kp P a b c) Kp) Kp) Kp)) Kp)/\(aI b cX ck λj k=>aT b k ((g.add 2).add 3) 1 <|aT b k (e.add 16) 1 <|uj (some d) k (λb d=>aT k d ((g.add 2).add 3) 1 <|aT k d (e.add 16) 1 <|C4 i d (λg i=>aT d i (e.add 16) 1 <|qK f g i (λd e=>aI e #[(Sl.v b),(Sl.v d)] fQ λb d=>iF (some c) (⟨some b,2,2⟩:Sl) d (λb c d e f g i=>cL i j b c d e f g λb=>yS K Kp P a j b) Kp) Kp) Kp) Kp)):ajC P h K Kp:=cJ (aeH K Kp) mq K Tryz.func222 H
def LW:=mc aE Tryz.f224 (am [(2000007,9),(2000018,73),(2000017,329)]) [(17,(OT.l [0,1,2,3,4,5,6,7,8,9,11] (.alt (OT.l [10,12,13,14] .fin) (OT.l [12,10,13,14] .fin)))),(16,(OT.l [0,1,2,3,4,6] (.alt (OT.l [5,7,8,9,11,12] (.alt (OT.l [10,13] .fin) (OT.l [13,10] .fin))) (OT.l [7,5,8,9,11,12] (.alt (OT.l [10,13] .fin) (OT.l [13,10] .fin))))))] dr
def Fg:=jK LW 1 63 [.p,.d,tI]
def ue:=jK LW 2 8031 [.p,.d,tI,.i .u64]
def aia:=jK LW 0 15 [.p,.d]
theorem aBD{K:bU}(H:NN P λb=>Ld h (b.add 16) Sl.v λb=>aI h #[(ah a)] Y6 λa c=>Ap c Y6 #[(ah 0)] 1 8 b 1 (rd c (some a) (1*1)) λa b=>NN P λc=>St b (c.add 16) (Sl.v a) λa=>NN P λb=>bP a n λc d e f=>Ft c d e f a (λa c=>nL (some b) a c (λa b=>K a b) Kp) Kp):Fg K Kp P n a h:=jf H
theorem aBC{K:bU}(H:NN P λc=>Ld h (c.add 19) .map λd=>NN P λe=>Ld h (e.add 19) .map λf=>(Lk h f (.int .u64) (.int .u64 b) (.slice none 0 0) Sl.v λf _=>aT h h (c.add 19) 1 <|aI h #[(ah a)] Y6 λg i=>aT h i (e.add 19) 1 <|aT h i (c.add 19) 1 <|Ap i Y6 #[(ah 0)] 1 8 f 1 (rd i (some g) (1*1)) λe f=>aT i f (c.add 19) 1 <|Up f d (.int .u64) (.int .u64 b) (Sl.v e) λb=>Fg K Kp P n a b)/\(aI h #[(ah a)] Y6 λg i=>aT h i (e.add 19) 1 <|aT h i (c.add 19) 1 <|Lk i f (.int .u64) (.int .u64 b) (.slice none 0 0) Sl.v λe _=>aT i i (c.add 19) 1 <|Ap i Y6 #[(ah 0)] 1 8 e 1 (rd i (some g) (1*1)) λe f=>aT i f (c.add 19) 1 <|Up f d (.int .u64) (.int .u64 b) (Sl.v e) λb=>Fg K Kp P n a b)):ue K Kp P n a b h:=jf H
theorem aBE{K:bU}(H:bP h n λa b c d=>XL P a b c d h (λa b=>aV (a<0) (NN P λa=>Ld b (a.add 18) Sl.v λa=>Ow P b (λb c=>aV ((a.n:Int)>=b) (K 102 c) (NN P λb=>Ld c (b.add 17) id λb=>bP c n λd e f g=>fD aE b "colonnade/build.take" [(.agg #[(.bool d),(ah e),(.string f),(Sl.v g)])] c (λb c=>∃d:Int,b=(ah d)/\(If (d !=0) (K d c) (bP c n λb d e f=>Ji b d e f c (λb c=>NN P λd=>Ld c (d.add 18) Sl.v λe=>bP c n λf g i j=>(AO f g i j c (λf g i j k=>aT c k (d.add 18) 1 <|aI k #[(.bool false),(ah 0),(.string (bs [])),(.slice none 0 0)] dh λc l=>aT k l n 4 <|aT k l (d.add 18) 1 <|Ap l dh fY 4 56 e 1 (rd l (some c) (1*4)) λc d=>Ix c.a c.n 4 (e.n:Int) λe=>NN P λk=>(dL d e f g i j λd=>St d (k.add 18) (Sl.v c) λc=>ue K Kp P n (a.n:Int) b c)/\(St d (k.add 18) (Sl.v c) λc=>dL c e f g i j λc=>ue K Kp P n (a.n:Int) b c)) Kp)/\(aI c #[(.bool false),(ah 0),(.string (bs [])),(.slice none 0 0)] dh λk l=>aT c l n 4 <|aT c l (d.add 18) 1 <|AO f g i j l (λc f g i j=>aT l j (d.add 18) 1 <|Ap j dh fY 4 56 e 1 (rd j (some k) (1*4)) λd j=>Ix d.a d.n 4 (e.n:Int) λe=>NN P λk=>(dL j e c f g i λc=>St c (k.add 18) (Sl.v d) λc=>ue K Kp P n (a.n:Int) b c)/\(St j (k.add 18) (Sl.v d) λd=>dL d e c f g i λc=>ue K Kp P n (a.n:Int) b c)) Kp)) Kp))) Kp)) Kp) (Fg K Kp P n a b)) Kp):aia K Kp P n h:=jf H
theorem aEA{K:bU}(H:iP h x a V A λa b=>NN P λc=>Ld b a .bool λd=>oZ (some c) d b (λb c=>If (b !=0) (K b c) (Ld c a .bool λb=>If b (NN P λa=>Ld c (a.add 16) Sl.v λa=>aI c #[(ah 0)] Y6 λb c=>Ap c Y6 #[(ah 0)] 1 8 a 1 (rd c (some b) (1*1)) λa b=>NN P λc=>St b (c.add 16) (Sl.v a) λa=>NN P λb=>nL (some b) 16 a (λa b=>K a b) Kp) (aia K Kp P a c))) Kp):Ox P x a V A h K Kp:=cJ (LW K Kp) dr K Tryz.func224 H
theorem aEz{K:bU}(H:NN P λa=>Ld h (a.add 15) .bool λa=>If a (NN P λa=>bP h (a.add 11) λa b c d=>Ox P a b c d h (λa b=>K a b) Kp) (NN P λa=>oZ (some a) false h (λa b=>If (a !=0) (K a b) (NN P λa=>Ld b (a.add 18) Sl.v λc=>Ow P b (λd e=>aT b e (a.add 18) 1 <|aV ((c.n:Int)>=d) (K 102 e) (NN P λa=>Ld e (a.add 17) id λa=>fD aE a "colonnade/build.zero" [] e (λa b=>∃c:Int,a=(ah c)/\(If (c !=0) (K c b) (K 3 b))) Kp)) Kp)) Kp)):XM P h K Kp:=dc dr K Tryz.func225 H
theorem ajB{K:bU}(H:If (a==3) (If (a==3) (K 1 h) (If (a==4) (If (a==4) (K 2 h) (If (a==5) (If (a==5) (K 4 h) (K 8 h)) (If (a==9) (K 4 h) (K 8 h)))) (If (a==8) (K 2 h) (If (a==5) (If (a==5) (K 4 h) (K 8 h)) (If (a==9) (K 4 h) (K 8 h)))))) (If (a==7) (K 1 h) (If (a==4) (If (a==4) (K 2 h) (If (a==5) (If (a==5) (K 4 h) (K 8 h)) (If (a==9) (K 4 h) (K 8 h)))) (If (a==8) (K 2 h) (If (a==5) (If (a==5) (K 4 h) (K 8 h)) (If (a==9) (K 4 h) (K 8 h))))))):C4 a h K Kp:=dc dr K Tryz.func226 H
def LV:=mc aE Tryz.f227 (am [(2000003,20),(2000011,20),(2004,52)]) [] kO
def ah8:=jK LV 1 31 [.d,.d]
def Kz:=fK 73 [2,4,5] [.d,.d,tI]
def agR:=lK LV 2004 122 Kz
def ah9:=jK LV 0 15 [.d,.d]
theorem aBA{K:jn}(H:Ld h n .pointer λa=>Ld h n .pointer λb=>NN b λb=>Ld h (b.add 18) Sl.v λb=>Ld h o mI λc=>jo b 4 none (some c) none λb=>NN a λa=>St h (a.add 18) (Sl.v b) λa=>K  a):ah8 K Kp n o h:=jf H
theorem az9{K:jn}:eZ (A0:=Int) (agR K Kp n o) (Kz n o) λa b c=>(Ld c o mI λd=>aV (b>=d) (Ld c n .pointer λd=>NN d λd=>Ld c (d.add 18) Sl.v λd=>Ix d.a d.n 4 b λd=>bP c d λd e f g=>Ji d e f g c (λc d=>Ld d n .pointer λe=>NN e λe=>Ld d (e.add 19) .map λe=>Lk d e (.int .u64) (.int .u64 c) (.slice none 0 0) Sl.v λe _=>Ld d n .pointer λf=>NN f λf=>Ld d (f.add 19) .map λf=>aP ((e.n:Int)-1) λg=>jo e 1 none (some g) none λg=>Up d f (.int .u64) (.int .u64 c) (Sl.v g) λd=>If ((e.n:Int)==1) (Ld d n .pointer λe=>NN e λe=>Ld d (e.add 19) .map λe=>yY d e (.int .u64) (.int .u64 c) λc=>aP (b-1) λb=>a (Kz n o b) c) (aP (b-1) λb=>a (Kz n o b) d)) Kp) (ah8 K Kp n o c)):=fc
theorem aBB{K:jn}(H:Ld h n .pointer λa=>NN a λa=>Ld h (a.add 18) Sl.v λa=>aP ((a.n:Int)-1) λa=>agR K Kp n o a h):ah9 K Kp n o h:=jf H
theorem aEy{K:jn}(H:Ld h n id λa=>cZ aE a [] h (λa b=>a=(.tuple #[])/\(Ld b o id λa=>cZ aE a [] b (λa b=>a=(.tuple #[])/\(Ld b p .pointer λa=>Ld b p .pointer λc=>NN c λc=>Ld b (c.add 16) Sl.v λc=>Ld b q mI λd=>jo c 1 none (some d) none λc=>NN a λa=>St b (a.add 16) (Sl.v c) λa=>ah9 K Kp p r a)) Kp)) Kp):ajA n o p q r h K Kp:=cJ (LV K Kp) kO K Tryz.func227 H
theorem aEx{K:EZ}(H:iP h x a V A λa b=>aI b #[(.int .u64 0)] azf λb c=>St c b (.int .u64 14695981039346656037) λc=>bP c a λa d e f=>Ov (some b) a d e f c (λa=>Ld a b (.int .u64) λb=>K b a) Kp):Ji x a V A h K Kp:=dc DD K Tryz.func228 H
def aeG:=mc aE Tryz.f229 (am [(2002,57353)]) [(1,(OT.l [0,1,2,3,4,8,5,6,7] .fin))] dr
def Rm:=fK 30 [0,3,13,14,15] [.p,.d,.s,tI,tI]
def agQ:=lK aeG 2002 26 Rm
theorem az8{K:bU}:eZ (A0:=Int) (agQ K Kp P n A a) (Rm P n A a) λb c d=>(aV (c<a) (Ix A.a A.n 1 c λe=>Ld d e mI λe=>NN P λf=>Ld d (f.add 18) Sl.v λf=>Ix f.a f.n 4 e λf=>bP d f λf g i j=>bP d n λk l m p=>Jh f g i j k l m p d (λd f=>If d (K e f) (aP (c+1) λc=>b (Rm P n A a c) f)) Kp) (K (-1) d)):=fc
theorem aEw{K:bU}(H:iP h x a V A λa b=>NN P λc=>Ld b (c.add 19) .map λd=>bP b a λe f g i=>Ji e f g i b (λe f=>aT b f (c.add 19) 1 <|Lk f d (.int .u64) (.int .u64 e) (.slice none 0 0) Sl.v λb _=>agQ K Kp P a b (b.n:Int) 0 f) Kp):XL P x a V A h K Kp:=cJ (aeG K Kp) dr K Tryz.func229 H
theorem aEv{K:bU}(H:NN P λa=>Ld h ((a.add 2).add 3) mI λa=>If (a==3) (K 128 h) (If (a==7) (K 256 h) (K 4097 h))):Ow P h K Kp:=dc dr K Tryz.func230 H
def aeF:=mc aE Tryz.f231 (am [(2003,910)]) [] ux
def Rl:=fK 22 [1,2,7,8,3,9] [.d,.d,.s,tI,.s,tI]
def agP:=lK aeF 2003 58 Rl
theorem az7{K:qE}:jP (A0:=Sl) (A1:=Int) (agP K Kp n o A a) (Rl n o A a) λb c d e=>(aV (d<a) (Ix A.a A.n 4 d λf=>bP e f λf g i j=>aI e fY dh λe k=>dL k e f g i j λf=>bP f e λe g i j=>AO e g i j f (λe f g i j=>aI j #[(.bool e),(ah f),(.string g),(Sl.v i)] dh λe f=>Ap f dh fY 4 56 c 1 (rd f (some e) (1*4)) λc e=>aP (d+1) λd=>b (Rl n o A a c d) e) Kp) (St e (n.add 3) (Sl.v c) λa=>bP a n λb c d e=>dL a o b c d e λa=>bP a o λb c d e=>K b c d e a)):=jW
theorem aEu{K:qE}(H:iP h x a V A λa b=>aI b fY dh λb c=>Ld c (a.add 3) Sl.v λd=>agP K Kp a b d (d.n:Int) bN 0 c):AO x a V A h K Kp:=cJ (aeF K Kp) ux K Tryz.func231 H
def aeU:=mc aE Tryz.f232 (am [(2003,14344)]) [] dr
def RT:=fK 23 [11,12,3,13] [.s,tI,tI,tI]
def ahj:=lK aeU 2003 58 RT
theorem aAI{K:bU}:jP (A0:=Int) (A1:=Int) (ahj K Kp A a) (RT A a) λb c d e=>(aV (d<a) (Ix A.a A.n 4 d λf=>bP e f λf g i j=>aI e fY dh λe k=>dL k e f g i j λf=>bP f e λe g i j=>Ft e g i j f (λe f=>aP (c+e) λc=>aP (d+1) λd=>b (RT A a c d) f) Kp) (K c e)):=jW
theorem aFK{K:bU}(H:iP h x a V A λa b=>Ld b (a.add 2) .string λc=>aP ((16:Int)+(c.size:Int)) λc=>Ld b (a.add 3) Sl.v λa=>ahj K Kp a (a.n:Int) c 0 b):Ft x a V A h K Kp:=cJ (aeU K Kp) dr K Tryz.func232 H
def HV:=mc aE Tryz.f233 (am [(2000004,25),(2000012,9),(2014,123145302310913),(2008,201326601)]) [] kO
def Rk:=fK 54 [0,44,45,46] [.p,.s,tI,tI]
def agO:=lK HV 2014 2046 Rk
def ah7:=jK HV 1 255 [.p,.d]
def Rj:=fK 54 [0,3,26,27] [.p,.d,tI,tI]
def agN:=lK HV 2008 1018 Rj
def MY:=jK HV 0 15 [.p,.d,.i .u8]
theorem az6{K:jn}:eZ (A0:=Int) (agO K Kp P A a) (Rk P A a) λb c d=>(aV (c<a) (Ix A.a A.n 4 c λe=>bP d e λe f g i=>aI d fY dh λd j=>dL j d e f g i λe=>bP e d λd f g i=>Ov P d f g i e (λd=>aP (c+1) λc=>b (Rk P A a c) d) Kp) (K  d)):=fc
theorem aBy{K:jn}(H:Ld h (n.add 3) Sl.v λa=>Wr .u64 (a.n:Int) λa=>Jf P a h (λa=>Ld a (n.add 3) Sl.v λb=>agO K Kp P b (b.n:Int) 0 a) Kp):ah7 K Kp P n h:=jf H
theorem az5{K:jn}:eZ (A0:=Int) (agN K Kp P n a) (Rj P n a) λb c d=>(aV (c<a) (Ld d (n.add 2) .string λe=>iu e c λe=>Jg P e d (λd=>aP (c+1) λc=>b (Rj P n a c) d) Kp) (ah7 K Kp P n d)):=fc
theorem aBz{K:jn}(H:Jg P a h (λa=>Ld a (n.add 1) mI λb=>Wr .u64 b λb=>Jf P b a (λa=>Ld a (n.add 2) .string λb=>Wr .u64 (b.size:Int) λb=>Jf P b a (λa=>Ld a (n.add 2) .string λb=>agN K Kp P n (b.size:Int) 0 a) Kp) Kp) Kp):MY K Kp P n a h:=jf H
theorem aEt{K:jn}(H:iP h x a V A λa b=>Ld b a .bool λc=>If c (MY K Kp P a 1 b) (MY K Kp P a 0 b)):Ov P x a V A h K Kp:=cJ (HV K Kp) kO K Tryz.func233 H
def HU:=mc aE Tryz.f234 (am [(2000003,12),(2004,206158430220),(41012,131084),(41019,16777228)]) [] dz
def Ri:=fK 53 [2,3,36,37] [.d,.d,tI,tI]
def agM:=lK HU 2004 58 Ri
def ah6:=jK HU 0 7 [.d,.d]
def MW:=rK HU 3 12 [.d,.d,.b]
def MX:=rK HU 2 12 [.d,.d,.b]
theorem az4{K:bE}:eZ (A0:=Int) (agM K Kp n o a) (Ri n o a) λb c d=>(aV (c<a) (Ld d (n.add 3) Sl.v λe=>Ix e.a e.n 4 c λe=>bP d e λe f g i=>Ld d (o.add 3) Sl.v λj=>Ix j.a j.n 4 c λj=>bP d j λj k l m=>Jh e f g i j k l m d (λd e=>If (!d) (K false e) (aP (c+1) λc=>b (Ri n o a c) e)) Kp) (K true d)):=fc
theorem aBx{K:bE}(H:Ld h (n.add 3) Sl.v λa=>agM K Kp n o (a.n:Int) 0 h):ah6 K Kp n o h:=jf H
theorem ah4{K:bE}(H:If x (K false h) (Ld h (n.add 3) Sl.v λa=>Ld h (o.add 3) Sl.v λb=>If ((a.n:Int)!=(b.n:Int)) (K false h) (ah6 K Kp n o h))):MW K Kp n o x h:=jf H
theorem ah5{K:bE}(H:If x (MW K Kp n o true h) (Ld h (n.add 2) .string λa=>Ld h (o.add 2) .string λb=>MW K Kp n o (!(a.toList==b.toList)) h)):MX K Kp n o x h:=jf H
theorem aEs{K:bE}(H:iP h x a V A λa c=>iP c y b W B λb c=>Ld c a .bool λd=>Ld c b .bool λe=>If (!(d==e)) (MX K Kp a b true c) (Ld c (a.add 1) mI λd=>Ld c (b.add 1) mI λe=>MX K Kp a b (d !=e) c)):Jh x a V A y b W B h K Kp:=cJ (HU K Kp) dz K Tryz.func234 H
theorem aEr{K:jn}(H:NN P λb=>Ld h b (.int .u64) λb=>Wr .u64 a λa=>Lt (gJ .xor .u64 b a) λa=>Wr .u64 (a*1099511628211) λa=>NN P λb=>St h b (.int .u64 a) λa=>K  a):Jg P a h K Kp:=dc kO K Tryz.func235 H
def aeE:=mc aE Tryz.f236 (am [(2001,19)]) [] kO
def Rh:=fK 13 [0,1,4] [.p,.i .u64,tI]
def agL:=lK aeE 2001 6 Rh
theorem az3{K:jn}:jP (A0:=Int) (A1:=Int) (agL K Kp P) (Rh P) λa b c d=>(aV (c<8) (Wr .u8 b λe=>Jg P e d (λd=>Nn 8<|Lt (Int.fdiv b (2^(min (Int.toNat 8) (IntKind.bits .u64)))) λb=>aP (c+1) λc=>a (Rh P b c) d) Kp) (K  d)):=jW
theorem aEq{K:jn}(H:agL K Kp P a 0 h):Jf P a h K Kp:=cJ (aeE K Kp) kO K Tryz.func236 H
def aeD:=mc aE Tryz.f237 (am [(2000002,13)]) [(1,(OT.l (List.range' 0 9) (.alt (OT.l [9] (.alt (OT.l [10,11,12,13] .fin) (OT.l [12,10,11,13] .fin))) (OT.l [12,9,10,11,13] .fin))))] mq
def Ff:=jK aeD 0 7 [.p,.d,.d]
theorem aBw{K:jJ}(H:NN P λa=>Ld h (a.add 7) mI λb=>cg h o λc d e f g i=>NN P λj=>Ld h (j.add 17) id λj=>fD aE j "colonnade/build.done" [] h (λj k=>∃l:Int,∃m:Int,∃p:Int,∃q:Sl,∃r:Sl,∃s:Sl,j=(.agg #[(ah l),(ah m),(ah p),(Sl.v q),(Sl.v r),(Sl.v s)])/\(aT h k o 6 <|aT h k (a.add 7) 1 <|aI k #[(ah c),(ah d),(ah e),(Sl.v f),(Sl.v g),(Sl.v i),(ah l),(ah m),(ah p),(Sl.v q),(Sl.v r),(Sl.v s)] ck λc d=>aT k d (a.add 7) 1 <|cL d n b 0 0 bN (⟨some c,2,2⟩:Sl) bN λa=>cg a n λb c d e f g=>K b c d e f g a)) Kp):Ff K Kp P n o h:=jf H
theorem aEp{K:jJ}(H:aI h cX ck λa b=>NN P λc=>Ld b (c.add 16) Sl.v λd=>NN P λe=>Ld b (e.add 16) Sl.v λf=>(qK f 4 b (λf g=>aT b g (c.add 16) 1 <|(aI g #[(.slice none 0 0),(Sl.v f)] fQ λb f=>aT g f (c.add 16) 1 <|aI f cX ck λg i=>aT f i (e.add 16) 1 <|aT f i (c.add 16) 1 <|cL i g (d.n:Int) 0 0 (⟨some b,2,2⟩:Sl) bN bN λb=>Ff K Kp P a g b)/\(aI g cX ck λb i=>aT g i (e.add 16) 1 <|aT g i (c.add 16) 1 <|aI i #[(.slice none 0 0),(Sl.v f)] fQ λe f=>aT i f (c.add 16) 1 <|cL f b (d.n:Int) 0 0 (⟨some e,2,2⟩:Sl) bN bN λc=>Ff K Kp P a b c)) Kp)/\(aI b cX ck λg i=>aT b i (e.add 16) 1 <|aT b i (c.add 16) 1 <|qK f 4 i (λb e=>aT i e (c.add 16) 1 <|aI e #[(.slice none 0 0),(Sl.v b)] fQ λb f=>aT e f (c.add 16) 1 <|cL f g (d.n:Int) 0 0 (⟨some b,2,2⟩:Sl) bN bN λb=>Ff K Kp P a g b) Kp)):ajz P h K Kp:=cJ (aeD K Kp) mq K Tryz.func237 H
def LU:=mc aE Tryz.f239 (am [(2000007,9),(2000011,9),(3509999,134217737)]) [] dr
def ah3:=jK LU 1 63 [.p,.d]
def WI:=jK LU 0 15 [.p,.d]
def WH:=jK LU 2 29 [.p,.d,.b]
theorem aBu{K:bU}(H:bP h n λa b c d=>AO a b c d h (λa b c d e=>NN P λf=>dL e (f.add 18) a b c d λa=>NN P λb=>bP a n λc d e f=>Ft c d e f a (λa c=>nL (some b) a c (λa b=>K a b) Kp) Kp) Kp):ah3 K Kp P n h:=jf H
theorem aBv{K:bU}(H:NN P λa=>Ld h (a.add 17) id λa=>bP h n λb c d e=>fD aE a "colonnade/build.take" [(.agg #[(.bool b),(ah c),(.string d),(Sl.v e)])] h (λa b=>∃c:Int,a=(ah c)/\(If (c !=0) (K c b) (NN P λa=>Ld b (a.add 16) Sl.v λc=>NN P λd=>Ld b (d.add 7) mI λd=>aI b #[(ah d)] Y6 λd e=>aT b e (a.add 16) 1 <|Ap e Y6 #[(ah 0)] 1 8 c 1 (rd e (some d) (1*1)) λa b=>NN P λc=>St b (c.add 16) (Sl.v a) λa=>ah3 K Kp P n a))) Kp):WI K Kp P n h:=jf H
theorem ah2{K:bU}(H:If x (NN P λa=>Ld h (a.add 16) Sl.v λa=>NN P λb=>Ld h (b.add 16) Sl.v λb=>aP ((b.n:Int)-1) λb=>NN P λc=>Ld h (c.add 7) mI λc=>Ix a.a a.n 1 b λa=>St h a (ah c) λa=>NN P λb=>bP a n λc d e f=>Ft c d e f a (λa c=>nL (some b) a c (λa b=>K a b) Kp) Kp) (WI K Kp P n h)):WH K Kp P n x h:=jf H
theorem aEo{K:bU}(H:iP h x a V A λa b=>NN P λc=>oZ (some c) false b (λb c=>If (b !=0) (K b c) (NN P λb=>Ld c (b.add 16) Sl.v λb=>aV ((b.n:Int)>0) (NN P λb=>bP c (b.add 18) λb d e f=>bP c a λg i j k=>Jh b d e f g i j k c (λb c=>WH K Kp P a b c) Kp) (WH K Kp P a false c))) Kp):Ot P x a V A h K Kp:=cJ (LU K Kp) dr K Tryz.func239 H
theorem aEn{K:bU}(H:NN P λa=>Ld h (a.add 15) .bool λa=>If a (NN P λa=>bP h (a.add 11) λa b c d=>Ot P a b c d h (λa b=>K a b) Kp) (NN P λa=>oZ (some a) false h (λa b=>If (a !=0) (K a b) (NN P λa=>Ld b (a.add 17) id λa=>fD aE a "colonnade/build.zero" [] b (λa b=>∃c:Int,a=(ah c)/\(If (c !=0) (K c b) (K 3 b))) Kp)) Kp)):XK P h K Kp:=dc dr K Tryz.func240 H
def aeB:=mc aE Tryz.f241 (am [(2000003,44)]) [] kO
def ah1:=jK aeB 0 15 [.d,.d,.d]
theorem aBt{K:jn}(H:Ld h o mI λa=>aV (a>0) (Ld h n .pointer λa=>NN a λa=>Ld h (a.add 16) Sl.v λa=>Ld h o mI λb=>aP (b-1) λb=>Ld h p mI λc=>Ix a.a a.n 1 b λa=>St h a (ah c) λa=>K  a) (K  h)):ah1 K Kp n o p h:=jf H
theorem aEm{K:jn}(H:Ld h n id λa=>cZ aE a [] h (λa b=>a=(.tuple #[])/\(Ld b o id λa=>cZ aE a [] b (λa b=>a=(.tuple #[])/\(Ld b p .pointer λa=>Ld b p .pointer λc=>Ld b p .pointer λd=>NN d λd=>Ld b (d.add 16) Sl.v λd=>Ld b q mI λe=>jo d 1 none (some e) none λd=>bP b r λe f g i=>NN a λa=>St b (a.add 16) (Sl.v d) λa=>aT b a r 4 <|aT b a p 1 <|NN c λb=>dL a (b.add 18) e f g i λa=>ah1 K Kp p q s a)) Kp)) Kp):ajy n o p q r s h K Kp:=cJ (aeB K Kp) kO K Tryz.func241 H
def LS:=mc aE Tryz.f242 (am [(2000019,13),(2008,1924145348621),(2015,33056565380087516495901)]) [(19,(OT.l [0,1,2,3,4,5,7,6,8,9,10] .fin))] mq
def C0:=jK LS 0 15 [.p,.d,.s]
def Rg:=fK 98 [0,2,3,38,39,40] [.p,.d,.s,.s,tI,tI]
def Ww:=lK LS 2008 3798 Rg
def Rf:=fK 98 [0,2,3,4,72,73,74] [.p,.d,.s,.d,.s,tI,tI]
def Wv:=lK LS 2015 15222 Rf
theorem aBs{K:jJ}(H:NN P λa=>NN P λb=>uj (some b) h (λb c=>aI c #[(Sl.v b),(Sl.v A)] fQ λb c=>iF (some a) (⟨some b,2,2⟩:Sl) c (λa b c d e f g=>cL g n a b c d e f λa=>cg a n λb c d e f g=>K b c d e f g a) Kp) Kp):C0 K Kp P n A h:=jf H
theorem az2{K:jJ}:eZ (A0:=Int) (Ww K Kp P n A B a) (Rg P n A B a) λb c d=>(aV (c<a) (Ix B.a B.n 1 c λe=>Ld d e (.int .u64) λe=>Dv 8<|aP (Int.tdiv c 8) λf=>Ix A.a A.n 1 f λg=>Ld d g (.int .u8) λg=>Wr .u8 e λe=>Dv 8<|Lt (Int.tmod c 8) λi=>Nn i<|Wr .u8 (e*2^(min (Int.toNat i) (IntKind.bits .u8))) λe=>Lt (gJ .or .u8 g e) λe=>Ix A.a A.n 1 f λf=>St d f (.int .u8 e) λd=>aP (c+1) λc=>b (Rg P n A B a c) d) (C0 K Kp P n A d)):=fc
theorem az1{K:jJ}:eZ (A0:=Int) (Wv K Kp P n A o B a) (Rf P n A o B a) λb c d=>(aV (c<a) (Ix B.a B.n 1 c λe=>Ld d e .string λe=>Ld d (o.add 1) mI λf=>aP (c*f) λf=>jo A 1 (some f) none none λf=>AW d f.a (λa=>a=(e.extract 0 (Nat.min e.size f.n)).data.toList.map λa=>Value.int .u8 a.toNat) λd=>aP (c+1) λc=>b (Rf P n A o B a c) d) (C0 K Kp P n A d)):=fc
theorem aEl{K:jJ}(H:aI h cX ck λa b=>NN P λc=>iq b (c.add 2) λc d e f g=>aI b pn kJ λb i=>mb i b c d e f g λc=>Ld c b mI λd=>If (d==2) (NN P λb=>Ld c (b.add 16) Sl.v λb=>aP ((b.n:Int)+7) λb=>Dv 8<|aP (Int.tdiv b 8) λb=>dP c Y8 #[(.int .u8 0)] 1 1 b b λb c=>NN P λd=>Ld c (d.add 16) Sl.v λd=>Ww K Kp P a b d (d.n:Int) 0 c) (If (d==14) (NN P λd=>Ld c (d.add 17) Sl.v λd=>Ld c (b.add 1) mI λe=>aP ((d.n:Int)*e) λd=>dP c Y8 #[(.int .u8 0)] 1 1 d d λc d=>NN P λe=>Ld d (e.add 17) Sl.v λe=>Wv K Kp P a c b e (e.n:Int) 0 d) (NN P λd=>Ld c (d.add 16) Sl.v λe=>Ld c b mI λb=>C4 b c (λb f=>aT c f (d.add 16) 1 <|XJ e b f (λb c=>C0 K Kp P a b c) Kp) Kp))):ajx P h K Kp:=cJ (LS K Kp) mq K Tryz.func242 H
def Uv:=mc aE Tryz.f244 (am [(2000005,9),(2000006,9)]) [] dr
def ahZ:=jK Uv 1 31 [.p,.d]
def ah0:=jK Uv 0 15 [.p,.d]
theorem aBq{K:bU}(H:NN P λa=>Ld h (n.add 2) .string λb=>aP ((16:Int)+(b.size:Int)) λb=>nL (some a) b h (λa b=>K a b) Kp):ahZ K Kp P n h:=jf H
theorem aBr{K:bU}(H:NN P λa=>Ld h (a.add 17) Sl.v λb=>Ld h (n.add 2) .string λc=>aI h #[(.string c)] rF λc d=>aT h d (a.add 17) 1 <|Ap d rF #[(.string (bs []))] 1 16 b 1 (rd d (some c) (1*1)) λa b=>NN P λc=>St b (c.add 17) (Sl.v a) λa=>ahZ K Kp P n a):ah0 K Kp P n h:=jf H
theorem aEk{K:bU}(H:iP h x a V A λa b=>NN P λc=>Ld b a .bool λd=>oZ (some c) d b (λb c=>If (b !=0) (K b c) (NN P λb=>Ld c (b.add 16) Sl.v λd=>Ld c (a.add 1) mI λe=>Wr .u64 e λe=>aI c #[(.int .u64 e)] pX λe f=>aT c f (b.add 16) 1 <|Ap f pX #[(.int .u64 0)] 1 8 d 1 (rd f (some e) (1*1)) λb c=>NN P λd=>St c (d.add 16) (Sl.v b) λb=>ah0 K Kp P a b)) Kp):Oo P x a V A h K Kp:=cJ (Uv K Kp) dr K Tryz.func244 H
theorem aEj{K:bU}(H:NN P λa=>bP h (a.add 11) λa b c d=>Oo P a b c d h (λa b=>K a b) Kp):ajw P h K Kp:=dc dr K Tryz.func245 H
def Uu:=mc aE Tryz.f246 (am [(2003,114722),(2006,3260578)]) [] gX
def Re:=fK 35 [1,14,15,5,16] [tI,.s,tI,.s,tI]
def Rc:=fK 35 [1,7,14,15,16,20,5,21] [tI,.i .u64,.s,tI,tI,tI,.s,tI]
def agJ:=DV Uu 2006 14950 Rc
def agK:=lK Uu 2003 58 Re
theorem azZ{K:gE}:jP (A0:=Sl) (A1:=Int) (agJ K Kp N1 a b A c d e) (Rc a b A c d e) λf g i j=>(aV (i<e) (aP ((8:Int)*i) λk=>Nn k<|Lt (Int.fdiv b (2^(min (Int.toNat k) (IntKind.bits .u64)))) λk=>Wr .u8 k λk=>aI j #[(.int .u8 k)] Y8 λj k=>Ap k Y8 #[(.int .u8 0)] 1 1 g 1 (rd k (some j) (1*1)) λg j=>aP (i+1) λi=>f (Rc a b A c d e g i) j) (aP (d+1) λb=>N1 (Re a A c g b) j)):=jW
theorem az0{K:gE}:jP (A0:=Sl) (A1:=Int) (agK K Kp a A b) (Re a A b) λc d e f=>(aV (e<b) (Ix A.a A.n 1 e λg=>Ld f g (.int .u64) λg=>agJ K Kp c a g A b e a d 0 f) (K d f)):=jW
theorem aEi{K:gE}(H:aP (a*(A.n:Int)) λb=>dP h Y8 #[(.int .u8 0)] 1 1 0 b λb c=>agK K Kp a A (A.n:Int) b 0 c):XJ A a h K Kp:=cJ (Uu K Kp) gX K Tryz.func246 H
theorem aEh{K:jn}(H:Ld h n id λa=>cZ aE a [] h (λa b=>a=(.tuple #[])/\(Ld b o .pointer λa=>Ld b o .pointer λc=>Ld b o .pointer λd=>NN d λd=>Ld b (d.add 16) Sl.v λd=>Ld b p mI λe=>jo d 1 none (some e) none λd=>Ld b o .pointer λe=>NN e λe=>Ld b (e.add 17) Sl.v λe=>Ld b p mI λf=>jo e 1 none (some f) none λe=>NN a λa=>St b (a.add 16) (Sl.v d) λa=>aT b a p 1 <|aT b a o 1 <|NN c λb=>St a (b.add 17) (Sl.v e) λa=>K  a)) Kp):ajv n o p h K Kp:=dc kO K Tryz.func247 H
theorem aGf{K:agj}(H:CU h A a P λa d=>oW d a λe f g=>Jv e f g b c d (λd e=>If (!d) (K (bs []) 2 e) (oW e a λa d f=>Ju a d f b c e (λa b=>sL b a λa=>K a 0 b) Kp)) Kp):Ym A a P b c h K Kp:=dc aa0 K Tryz.func253 H
theorem aG6{K:agk}(H:CU h A a P λa d=>oW d a λa e f=>Fx a e f b c d (λa b d=>If (b !=0) (K 0 b d) (aP ((8:Int)*c) λb=>aP ((64:Int)-b) λb=>Nn b<|Wr .u64 (a*2^(min (Int.toNat b) (IntKind.bits .u64))) λa=>aP a λa=>Nn b<|Lt (Int.fdiv a (2^(min (Int.toNat b) (IntKind.bits .i64)))) λa=>K a 0 d)) Kp):YU A a P b c h K Kp:=dc aa1 K Tryz.func254 H
theorem aGR{K:agi}(H:CU h A a P λa d=>YB c d (λd e=>If (!d) (K 0 1 e) (oW e a λd f g=>Jv d f g b c e (λd e=>If (!d) (K 0 2 e) (oW e a λa d f=>Ju a d f b c e (λa b=>YA a b (λa b=>K a 0 b) Kp) Kp)) Kp)) Kp):Fx A a P b c h K Kp:=dc aaZ K Tryz.func255 H
def UC:=mc aE Tryz.f256 (am [(41006,257),(41010,4097)]) [] dz
def Xk:=rK UC 1 6 [tI,.b]
def Xl:=rK UC 0 6 [tI,.b]
theorem N0{K:bE}(H:If x (K true h) (K (a==8) h)):Xk K Kp a x h:=jf H
theorem N4{K:bE}(H:If x (Xk K Kp a true h) (Xk K Kp a (a==4) h)):Xl K Kp a x h:=jf H
theorem O3{K:bE}(H:If (a==1) (Xl K Kp a true h) (Xl K Kp a (a==2) h)):YB a h K Kp:=cJ (UC K Kp) dz K Tryz.func256 H
def ae6:=mc aE Tryz.f257 (am [(2003,456)]) [] DD
def R7:=fK 22 [6,7,3,8] [.s,tI,.i .u64,tI]
def ahD:=lK ae6 2003 58 R7
theorem aA2{K:EZ}:jP (A0:=Int) (A1:=Int) (ahD K Kp A a) (R7 A a) λb c d e=>(aV (d<a) (Ix A.a A.n 1 d λf=>Ld e f (.int .u8) λf=>Wr .u64 f λf=>aP ((8:Int)*d) λg=>Nn g<|Wr .u64 (f*2^(min (Int.toNat g) (IntKind.bits .u64))) λf=>Lt (gJ .or .u64 c f) λc=>aP (d+1) λd=>b (R7 A a c d) e) (K c e)):=jW
theorem aGB{K:EZ}(H:ahD K Kp A (A.n:Int) 0 0 h):YA A h K Kp:=cJ (ae6 K Kp) DD K Tryz.func257 H
theorem aGd{K:bU}(H:Yq a h (λc d=>aV (a>=3) (aV (a<=6) (AU P 1 d (λa d e f=>aP (b*c) λb=>YU a d e b c f (λa _ b=>K a b) Kp) Kp) (AU P 1 d (λa d e f=>aP (b*c) λb=>Fx a d e b c f (λa _ b=>aP a λa=>K a b) Kp) Kp)) (AU P 1 d (λa d e f=>aP (b*c) λb=>Fx a d e b c f (λa _ b=>aP a λa=>K a b) Kp) Kp)) Kp):Yl P a b h K Kp:=dc dr K Tryz.func264 H
theorem aGc{K:qE}(H:aI h #[] IL λ_ b=>aI b fY dh λb c=>NN P λd=>iq c (d.add 2) λd e f g i=>aI c pn kJ λc j=>mb j c d e f g i λd=>AU P 1 d (λd e f g=>aI g JH IM λg i=>sH i g d e f λd=>Js Q 16 d (λd=>Ld d c mI λe=>If (e==2) (oW d g λc e f=>Dv 8<|aP (Int.tdiv a 8) λg=>O4 c e f g d (λc _ d=>Dv 8<|Lt (Int.tmod a 8) λa=>Nn a<|Lt (Int.fdiv c (2^(min (Int.toNat a) (IntKind.bits .u8)))) λa=>Lt (gJ .and .u8 a 1) λa=>aP a λa=>dL d b false a (bs []) bN λa=>bP a b λb c d e=>K b c d e a) Kp) (If (e==14) (Ld d (c.add 1) mI λe=>Js Q e d (λd=>oW d g λe f g=>Ld d (c.add 1) mI λi=>aP (a*i) λa=>Ld d (c.add 1) mI λc=>Ym e f g a c d (λa _ c=>dL c b false 0 a bN λa=>bP a b λb c d e=>K b c d e a) Kp) Kp) (Ld d c mI λc=>Yl P c a d (λa c=>dL c b false a (bs []) bN λa=>bP a b λb c d e=>K b c d e a) Kp))) Kp) Kp):Yk P a Q h K Kp:=dc ux K Tryz.func267 H
end
section
variable {h h0 H:Hp} {el:TypeId} {t0 t1 t2 t3 t4 t5 t10 t12:Int} {K:HP} {a:Addr} {t6 t7 t8 t14 s:Sl} {t9 t11 t15 B:Bool} {t13:BA} {vs:bq} {Kp:PK} {d r:Nat}
theorem iq.b{b:Nat}{t4:Sl}{K:Int->Int->Int->Int->Sl->Prop}(k:aN h b #[(ah t0),(ah t1),(ah t2),(ah t3),(Sl.v t4)] el)(hk:K t0 t1 t2 t3 t4):iq h (aJ b) K:=by
 unfold iq;simp only[bz,cF];exact aj k rfl (aj k rfl (aj k rfl (aj k rfl (aj k rfl (hk)))))
abbrev yq:=@iq.b
theorem iq.c{t4:Sl}{K:Int->Int->Int->Int->Sl->Prop}(c:Cs h a [(ah t0),(ah t1),(ah t2),(ah t3),(Sl.v t4)])(hk:K t0 t1 t2 t3 t4):iq h a K:=
 ⟨_,(CJ a▸c 0 _ rfl:cell h a=_),_,c 1 _ rfl,_,c 2 _ rfl,_,c 3 _ rfl,_,c 4 _ rfl,hk⟩
abbrev nF:=@iq.c
theorem mb.l{t4:Sl}(H:iZ h a 0 [(ah t0),(ah t1),(ah t2),(ah t3),(Sl.v t4)] K):mb h a t0 t1 t2 t3 t4 K:=yI H
theorem mb.b{b:Nat}{cs:Array Value}{t4:Sl}(k:aN h b cs el)(hs:cs.size=5)(hk:∀h',eJ b h h'->aN h' b #[(ah t0),(ah t1),(ah t2),(ah t3),(Sl.v t4)] el->K h'):mb h (aJ b) t0 t1 t2 t3 t4 K:=
 mb.l (yH k hs (by simp[one,Sl.v]) hk)
abbrev pM:=@mb.b
theorem bR.b{b:Nat}{t0:BA}{t1:Bool}{K:BA->Bool->Int->Int->Int->Int->Sl->Prop}(k:aN h b #[(.string t0),(.bool t1),(ah t2),(ah t3),(ah t4),(ah t5),(Sl.v t6)] el)(hk:K t0 t1 t2 t3 t4 t5 t6):bR h (aJ b) K:=by
 unfold bR;simp only[bz,cF];exact aj k rfl (aj k rfl (aj k rfl (aj k rfl (aj k rfl (aj k rfl (aj k rfl (hk)))))))
abbrev dO:=@bR.b
theorem bR.c{t0:BA}{t1:Bool}{K:BA->Bool->Int->Int->Int->Int->Sl->Prop}(c:Cs h a [(.string t0),(.bool t1),(ah t2),(ah t3),(ah t4),(ah t5),(Sl.v t6)])(hk:K t0 t1 t2 t3 t4 t5 t6):bR h a K:=
 ⟨_,(CJ a▸c 0 _ rfl:cell h a=_),_,c 1 _ rfl,_,c 2 _ rfl,_,c 3 _ rfl,_,c 4 _ rfl,_,c 5 _ rfl,_,c 6 _ rfl,hk⟩
abbrev gH:=@bR.c
theorem jN.l{t0:BA}{t1:Bool}(H:iZ h a 0 [(.string t0),(.bool t1),(ah t2),(ah t3),(ah t4),(ah t5),(Sl.v t6)] K):jN h a t0 t1 t2 t3 t4 t5 t6 K:=yI H
theorem jN.b{b:Nat}{cs:Array Value}{t0:BA}{t1:Bool}(k:aN h b cs el)(hs:cs.size=7)(hk:∀h',eJ b h h'->aN h' b #[(.string t0),(.bool t1),(ah t2),(ah t3),(ah t4),(ah t5),(Sl.v t6)] el->K h'):jN h (aJ b) t0 t1 t2 t3 t4 t5 t6 K:=
 jN.l (yH k hs (by simp[one,Sl.v]) hk)
abbrev oO:=@jN.b
theorem cg.b{b:Nat}{t3 t4 t5:Sl}{K:Int->Int->Int->Sl->Sl->Sl->Prop}(k:aN h b #[(ah t0),(ah t1),(ah t2),(Sl.v t3),(Sl.v t4),(Sl.v t5)] el)(hk:K t0 t1 t2 t3 t4 t5):cg h (aJ b) K:=by
 unfold cg;simp only[bz,cF];exact aj k rfl (aj k rfl (aj k rfl (aj k rfl (aj k rfl (aj k rfl (hk))))))
abbrev fJ:=@cg.b
theorem cg.c{t3 t4 t5:Sl}{K:Int->Int->Int->Sl->Sl->Sl->Prop}(c:Cs h a [(ah t0),(ah t1),(ah t2),(Sl.v t3),(Sl.v t4),(Sl.v t5)])(hk:K t0 t1 t2 t3 t4 t5):cg h a K:=
 ⟨_,(CJ a▸c 0 _ rfl:cell h a=_),_,c 1 _ rfl,_,c 2 _ rfl,_,c 3 _ rfl,_,c 4 _ rfl,_,c 5 _ rfl,hk⟩
theorem cL.l{t3 t4 t5:Sl}(H:iZ h a 0 [(ah t0),(ah t1),(ah t2),(Sl.v t3),(Sl.v t4),(Sl.v t5)] K):cL h a t0 t1 t2 t3 t4 t5 K:=yI H
theorem cL.b{b:Nat}{cs:Array Value}{t3 t4 t5:Sl}(k:aN h b cs el)(hs:cs.size=6)(hk:∀h',eJ b h h'->aN h' b #[(ah t0),(ah t1),(ah t2),(Sl.v t3),(Sl.v t4),(Sl.v t5)] el->K h'):cL h (aJ b) t0 t1 t2 t3 t4 t5 K:=
 cL.l (yH k hs (by simp[one,Sl.v]) hk)
abbrev ig:=@cL.b
theorem eO.b{b:Nat}{t1:Sl}{K:Int->Sl->Int->Prop}(k:aN h b #[(ah t0),(Sl.v t1),(ah t2)] el)(hk:K t0 t1 t2):eO h (aJ b) K:=by
 unfold eO;simp only[bz,cF];exact aj k rfl (aj k rfl (aj k rfl (hk)))
abbrev oN:=@eO.b
theorem dZ.l{t1:Sl}(H:iZ h a 0 [(ah t0),(Sl.v t1),(ah t2)] K):dZ h a t0 t1 t2 K:=yI H
theorem dZ.b{b:Nat}{cs:Array Value}{t1:Sl}(k:aN h b cs el)(hs:cs.size=3)(hk:∀h',eJ b h h'->aN h' b #[(ah t0),(Sl.v t1),(ah t2)] el->K h'):dZ h (aJ b) t0 t1 t2 K:=
 dZ.l (yH k hs (by simp[one,Sl.v]) hk)
abbrev mZ:=@dZ.b
theorem bP.b{b:Nat}{t0:Bool}{t2:BA}{t3:Sl}{K:Bool->Int->BA->Sl->Prop}(k:aN h b #[(.bool t0),(ah t1),(.string t2),(Sl.v t3)] el)(hk:K t0 t1 t2 t3):bP h (aJ b) K:=by
 unfold bP;simp only[bz,cF];exact aj k rfl (aj k rfl (aj k rfl (aj k rfl (hk))))
abbrev fk:=@bP.b
theorem bP.c{t0:Bool}{t2:BA}{t3:Sl}{K:Bool->Int->BA->Sl->Prop}(c:Cs h a [(.bool t0),(ah t1),(.string t2),(Sl.v t3)])(hk:K t0 t1 t2 t3):bP h a K:=
 ⟨_,(CJ a▸c 0 _ rfl:cell h a=_),_,c 1 _ rfl,_,c 2 _ rfl,_,c 3 _ rfl,hk⟩
abbrev gY:=@bP.c
theorem dL.l{t0:Bool}{t2:BA}{t3:Sl}(H:iZ h a 0 [(.bool t0),(ah t1),(.string t2),(Sl.v t3)] K):dL h a t0 t1 t2 t3 K:=yI H
abbrev yp:=@dL.l
theorem dL.b{b:Nat}{cs:Array Value}{t0:Bool}{t2:BA}{t3:Sl}(k:aN h b cs el)(hs:cs.size=4)(hk:∀h',eJ b h h'->aN h' b #[(.bool t0),(ah t1),(.string t2),(Sl.v t3)] el->K h'):dL h (aJ b) t0 t1 t2 t3 K:=
 yp (yH k hs (by simp[one,Sl.v]) hk)
abbrev mC:=@dL.b
theorem oW.b{b:Nat}{t0:Sl}{t2:PA}{K:Sl->Int->PA->Prop}(k:aN h b #[(Sl.v t0),(ah t1),(.pointer t2)] el)(hk:K t0 t1 t2):oW h (aJ b) K:=by
 unfold oW;simp only[bz,cF];exact aj k rfl (aj k rfl (aj k rfl (hk)))
abbrev sE:=@oW.b
theorem sH.l{t0:Sl}{t2:PA}(H:iZ h a 0 [(Sl.v t0),(ah t1),(.pointer t2)] K):sH h a t0 t1 t2 K:=yI H
theorem sH.b{b:Nat}{cs:Array Value}{t0:Sl}{t2:PA}(k:aN h b cs el)(hs:cs.size=3)(hk:∀h',eJ b h h'->aN h' b #[(Sl.v t0),(ah t1),(.pointer t2)] el->K h'):sH h (aJ b) t0 t1 t2 K:=
 sH.l (yH k hs (by simp[one,Sl.v]) hk)
theorem Fe.c{t0:Sl}{t1:BA}{t2:Bool}{t6:Int}{K:Sl->BA->Bool->Int->Int->Int->Int->Sl->Sl->Bool->Prop}(c:Cs h a [(Sl.v t0),(.string t1),(.bool t2),(ah t3),(ah t4),(ah t5),(ah t6),(Sl.v t7),(Sl.v t8),(.bool t9)])(hk:K t0 t1 t2 t3 t4 t5 t6 t7 t8 t9):Fe h a K:=
 ⟨_,(CJ a▸c 0 _ rfl:cell h a=_),_,c 1 _ rfl,_,c 2 _ rfl,_,c 3 _ rfl,_,c 4 _ rfl,_,c 5 _ rfl,_,c 6 _ rfl,_,c 7 _ rfl,_,c 8 _ rfl,_,c 9 _ rfl,hk⟩
theorem yJ.l{t0:Sl}{t1:BA}{t2:Bool}{t6:Int}(H:iZ h a 0 [(Sl.v t0),(.string t1),(.bool t2),(ah t3),(ah t4),(ah t5),(ah t6),(Sl.v t7),(Sl.v t8),(.bool t9)] K):yJ h a t0 t1 t2 t3 t4 t5 t6 t7 t8 t9 K:=yI H
theorem yJ.b{b:Nat}{cs:Array Value}{t0:Sl}{t1:BA}{t2:Bool}{t6:Int}(k:aN h b cs el)(hs:cs.size=10)(hk:∀h',eJ b h h'->aN h' b #[(Sl.v t0),(.string t1),(.bool t2),(ah t3),(ah t4),(ah t5),(ah t6),(Sl.v t7),(Sl.v t8),(.bool t9)] el->K h'):yJ h (aJ b) t0 t1 t2 t3 t4 t5 t6 t7 t8 t9 K:=
 yJ.l (yH k hs (by simp[one,Sl.v]) hk)
theorem yR.b{b:Nat}{t2:Bool}{t4:BA}{t5:Sl}{K:Int->Int->Bool->Int->BA->Sl->Prop}(k:aN h b #[(ah t0),(ah t1),(.bool t2),(ah t3),(.string t4),(Sl.v t5)] el)(hk:K t0 t1 t2 t3 t4 t5):yR h (aJ b) K:=by
 unfold yR;simp only[bz,cF];exact aj k rfl (aj k rfl (aj k rfl (aj k rfl (aj k rfl (aj k rfl (hk))))))
theorem yR.c{t2:Bool}{t4:BA}{t5:Sl}{K:Int->Int->Bool->Int->BA->Sl->Prop}(c:Cs h a [(ah t0),(ah t1),(.bool t2),(ah t3),(.string t4),(Sl.v t5)])(hk:K t0 t1 t2 t3 t4 t5):yR h a K:=
 ⟨_,(CJ a▸c 0 _ rfl:cell h a=_),_,c 1 _ rfl,_,c 2 _ rfl,_,c 3 _ rfl,_,c 4 _ rfl,_,c 5 _ rfl,hk⟩
theorem CR.l{t2:Bool}{t4:BA}{t5:Sl}(H:iZ h a 0 [(ah t0),(ah t1),(.bool t2),(ah t3),(.string t4),(Sl.v t5)] K):CR h a t0 t1 t2 t3 t4 t5 K:=yI H
theorem CR.b{b:Nat}{cs:Array Value}{t2:Bool}{t4:BA}{t5:Sl}(k:aN h b cs el)(hs:cs.size=6)(hk:∀h',eJ b h h'->aN h' b #[(ah t0),(ah t1),(.bool t2),(ah t3),(.string t4),(Sl.v t5)] el->K h'):CR h (aJ b) t0 t1 t2 t3 t4 t5 K:=
 CR.l (yH k hs (by simp[one,Sl.v]) hk)
theorem ou.b{b:Nat}{t0:BA}{t1:Bool}{t7 t8:Int}{t9:Sl}{K:BA->Bool->Int->Int->Int->Int->Sl->Int->Int->Sl->Int->Bool->Int->BA->Sl->Bool->Prop}(k:aN h b #[(.string t0),(.bool t1),(ah t2),(ah t3),(ah t4),(ah t5),(Sl.v t6),(ah t7),(ah t8),(Sl.v t9),(ah t10),(.bool t11),(ah t12),(.string t13),(Sl.v t14),(.bool t15)] el)(hk:K t0 t1 t2 t3 t4 t5 t6 t7 t8 t9 t10 t11 t12 t13 t14 t15):ou h (aJ b) K:=by
 unfold ou;simp only[bz,cF];exact aj k rfl (aj k rfl (aj k rfl (aj k rfl (aj k rfl (aj k rfl (aj k rfl (aj k rfl (aj k rfl (aj k rfl (aj k rfl (aj k rfl (aj k rfl (aj k rfl (aj k rfl (aj k rfl (hk))))))))))))))))
abbrev uV:=@ou.b
theorem rH.l{t0:BA}{t1:Bool}{t7 t8:Int}{t9:Sl}(H:iZ h a 0 [(.string t0),(.bool t1),(ah t2),(ah t3),(ah t4),(ah t5),(Sl.v t6),(ah t7),(ah t8),(Sl.v t9),(ah t10),(.bool t11),(ah t12),(.string t13),(Sl.v t14),(.bool t15)] K):rH h a t0 t1 t2 t3 t4 t5 t6 t7 t8 t9 t10 t11 t12 t13 t14 t15 K:=yI H
theorem rH.b{b:Nat}{cs:Array Value}{t0:BA}{t1:Bool}{t7 t8:Int}{t9:Sl}(k:aN h b cs el)(hs:cs.size=16)(hk:∀h',eJ b h h'->aN h' b #[(.string t0),(.bool t1),(ah t2),(ah t3),(ah t4),(ah t5),(Sl.v t6),(ah t7),(ah t8),(Sl.v t9),(ah t10),(.bool t11),(ah t12),(.string t13),(Sl.v t14),(.bool t15)] el->K h'):rH h (aJ b) t0 t1 t2 t3 t4 t5 t6 t7 t8 t9 t10 t11 t12 t13 t14 t15 K:=
 rH.l (yH k hs (by simp[one,Sl.v]) hk)
theorem CO{k:IntKind}{x:Int}{K:Int->Prop}(h:K (k.wrap x)):Wr k x K:=h
theorem yO{α:Type}{x:α}{K:α->Prop}(h:K x):Lt x K:=h
def bv(l:dy):List Value:=l.map λb=>.int .u8 b.toNat
theorem uT(a b:dy):bv (a++b)=bv a++bv b:=by simp[bv]
theorem fP(a:dy):(bv a).length=a.length:=by simp[bv]
theorem ayr{a:dy}:∀v∈bv a,one v=true:=by intro v hv;simp only[bv,kZ]at hv;obtain⟨x,_,rfl⟩:=hv;rfl
inductive aq
 |mk (name:fh) (au:Bool) (kind width id ix:Int) (cs:List aq)
abbrev cN:=List aq
variable {fs:cN} {f:aq}
def nU(n:fh)(au:Bool)(k w id ix:Int)(s:Sl):List Value:=[.string n,.bool au,ah k,ah w,ah id,ah ix,Sl.v s]
mutual
def cH(h:Hp)(s:Sl):List aq->Prop
 |[]=>s.n=0/\s.n<=s.c
 |f::fs=>s.n=fs.length+1/\s.n<=s.c/\∃a,s.a=some a/\jR h a f/\iB h a 1 fs
def iB(h:Hp)(a:Addr)(i:Nat):List aq->Prop
 |[]=>True
 |f::fs=>jR h (a.add (i*7)) f/\iB h a (i+1) fs
def jR(h:Hp)(a:Addr):aq->Prop
 |.mk n au k w id ix cs=>∃s,Cs h a (nU n au k w id ix s)/\cH h s cs
end
theorem iB.get:∀{fs:cN}{i:Nat},iB h a i fs->∀(j:Nat)f,fs[j]? =some f->jR h (a.add ((i+j)*7)) f
  |[],_,_,_,_,hj=>by simp at hj
  |f::fs,i,hh,0,g,hj=>by simp at hj;subst hj;unfold iB at hh;exact hh.1
  | f::fs,i,hh,j+1,g,hj=>by
    unfold iB at hh;have:=iB.get hh.2 j g (by simpa using hj)
    have e:i+(j+1)=i+1+j:=ag;rw[e];exact this
theorem cH.get(hh:cH h s fs){j:Nat}{f:aq}(hj:fs[j]? =some f):∃a,s.a=some a/\jR h (a.add (j*7)) f:=by
  cases fs with
  |nil=>simp at hj
  | cons g gs=>
    unfold cH at hh;have⟨_,_,a,ha,h1,h2⟩:=hh;refine⟨a,ha,?_⟩;cases j with
    | zero=>
      simp at hj;subst hj;have e:a.add (0*7)=a:=by simp[Addr.add]
      rw[e];exact h1
    | succ j=>
      have:=h2.get j f (by simpa using hj)
      have e:1+j=j+1:=ag;rw[e]at this;exact this
theorem cH.n(hh:cH h s fs):s.n=fs.length/\s.n<=s.c:=by
 cases fs with
 |nil=>unfold cH at hh;exact hh
 |cons g gs=>unfold cH at hh;exact⟨hh.1,hh.2.1⟩
def Wa(h:Hp)(s:Sl)(sz:Nat)(rows:List (List Value)):Prop:=s.n=rows.length/\s.n<=s.c/\∀(j:Nat)r,rows[j]? =some r->∃a,s.a=some a/\Cs h (a.add (j*sz)) r
abbrev Md:=ByteArray×ByteArray
def arK(m:Md):List Value:=[.string m.1,.string m.2]
theorem add_zero'(a:Addr):a.add 0=a:=by unfold Addr.add;split <;> simp_all
mutual
theorem cH.ai{h h':Hp}(g:az h h'):∀{s:Sl}(fs:cN),cH h s fs->cH h' s fs
  |_,[],hh=>by unfold cH at hh ⊢;exact hh
  | _,f::fs,hh=>by
    unfold cH at hh⊢
    have⟨a,b,p,e,x,y⟩:=hh
    exact⟨a,b,p,e,jR.ai g f x,iB.ai g fs y⟩
theorem iB.ai{h h':Hp}(g:az h h'):∀{a:Addr}{i:Nat}(fs:cN),iB h a i fs->iB h' a i fs
  |_,_,[],hh=>by unfold iB at hh ⊢;exact hh
  | _,_,f::fs,hh=>by
    unfold iB at hh⊢
    exact⟨jR.ai g f hh.1,iB.ai g fs hh.2⟩
theorem jR.ai{h h':Hp}(g:az h h'):∀{a:Addr}(f:aq),jR h a f->jR h' a f
  | _,.mk n au k w id ix cs,hh=>by
    unfold jR at hh⊢
    have⟨s,c,x⟩:=hh
    exact⟨s,c.ai g,cH.ai g cs x⟩
end
theorem nH{K:Addr->Prop}:NN (some a) K=K a:=rfl
theorem bO{p q:Prop}(k:q)(e:q->p:=by intro h;simp only[nH,bz,cF];exact h):p:=e k
theorem Wa.ix{α:Type}{row:α->List Value}{sz:Nat}{l:List α}(hs:Wa h0 s sz (l.map row)){x:Int}{i:Nat}(hx:x=(i:Int)){r:α}(hj:l[i]? =some r){K:Addr->Prop}(hk:∀a,Cs h0 a (row r)->K a):Ix s.a s.n sz x K:=by
 have⟨a,ha,hc⟩:=hs.2.2 i (row r) (by rw[eY,hj];rfl)
 have hi:i<l.length:=(de.1 hj).1;have hn:s.n=l.length:=by simpa using hs.1
 subst hx;rw[ha];exact⟨by omega,by omega,by rw[gf];exact hk _ hc⟩
theorem Cs.c0{v:Value}(c:Cs h a (v::vs)):cell h a=some v:=by
 have:=c 0 _ rfl;rwa [add_zero']at this
def yP(c:Int):Prop:=(97<=c/\c<=122)\/(65<=c/\c<=90)\/c=95
def sK(c:Int):Prop:=48<=c/\c<=57
def FB(j:Nat)(c:Int):Prop:=yP c\/(sK c/\j≠0)
def Fa(s:fh):Prop:=1<=s.size/\s.size<=48/\∀(j:Nat)(b:UInt8),s[j]? =some b->FB j (b.toNat:Int)
theorem asd{c:Int}{K:fB}(hk:∀b,(b=true↔(yP c\/sK c))->K b h):Yo c h K Kp:=by
 apply aGj;unfold yP sK at hk
 repeat' (first|((with_reducible refine aC4 ?_);(try simp only[Nat.reduceAdd]))|((with_reducible refine aC3 ?_);(try simp only[Nat.reduceAdd]))|((with_reducible refine aC2 ?_);(try simp only[Nat.reduceAdd]))|((with_reducible refine bS (by first|rfl|(simp only[reduceCtorEq];omega)) ?_))|((with_reducible refine bu (by first|rfl|(simp only[reduceCtorEq];omega)) ?_))|(((with_reducible refine aG (λc=>?_) (λc=>?_)) <;> (try simp only[reduceCtorEq]at c))))
 all_goals apply hk _
 all_goals simp only[dR,wI,oh,true_iff]at*
 all_goals omega
theorem acA{k:Int}{K:fB}(hk:∀b,(b=true↔(1<=k/\k<=20))->K b h):O1 k h K Kp:=by
 apply aGi
 repeat' (first|((with_reducible refine bS (by first|rfl|(simp only[reduceCtorEq];omega)) ?_))|((with_reducible refine bu (by first|rfl|(simp only[reduceCtorEq];omega)) ?_))|(((with_reducible refine aG (λc=>?_) (λc=>?_)) <;> (try simp only[reduceCtorEq]at c))))
 all_goals apply hk _
 all_goals simp only[dR,wI,reduceCtorEq,false_iff]at*
 all_goals omega
theorem Ck{a b:fh}:(a.toList==b.toList)=true↔a=b:=by
 rw[oh,ByteArray.toList_eq,ByteArray.toList_eq];exact⟨bytes_inj,λe=>by rw[e]⟩
theorem arq{s:fh}{K:fB}(hs:s.size<=9223372036854775807)(hk:∀b,(b=true↔Fa s)->K b h):Yw s h K Kp:=by
 apply aGu;have hF:¬Fa s->K false h:=λn=>hk false ⟨by simp,λx=>(n x).elim⟩
 apply aAZ (λx h'=>h'=h/\∃i:Nat,x=i/\i<=s.size/\∀j b,j<i->s[j]? =some b->FB j (b.toNat:Int)) (λx _=>s.size-x.toNat) ⟨rfl,0,rfl,by omega,λj b hj=>by omega⟩
 rintro x h1 ⟨rfl,i,rfl,hi,xF⟩ N1 hN;refine aG (λc2=>?_) λc2=>?_
 ·simp only[dR]at c2;have dQ:i<s.size:=ag;have hb:=getElem?_pos s i dQ;generalize s[i]=b at hb;refine⟨b,by omega,by rw[gf];exact hb,?_⟩
  have QY:¬FB i _->K false h1:=λn=>hF λq=>n (q.2.2 i b hb);have step:FB i _->aP ((i:Int)+1) λt20=>N1 _ h1:=λok=>by
   refine aX ag ag (hN _ _ ⟨rfl,i+1,by simp,by omega,λj b' hj xE=>?_⟩ ag)
   by_cases e:j=i
   ·subst e;rw[hb]at xE;cases xE;exact ok
   ·exact xF j b' ag xE
  refine asd λr hr=>?_;unfold FB yP sK at QY step;unfold yP sK at hr;generalize(b.toNat:Int)=t at QY step hr;cases r <;> repeat' (first|((with_reducible refine bS (by first|rfl|(simp only[reduceCtorEq];omega)) ?_))|((with_reducible refine bu (by first|rfl|(simp only[reduceCtorEq];omega)) ?_))|(((with_reducible refine aG (λc=>?_) (λc=>?_)) <;> (try simp only[sm,reduceCtorEq]at c))))
  all_goals first|refine step ?_|refine QY ?_
  all_goals simp only[wI,reduceCtorEq,true_iff,false_iff]at*
  all_goals omega
 ·simp only[wI]at c2;refine aG (λc3=>hk _ ?_) (λc3=>hF λq=>?_)
  ·rw[tU,Vq,ne_eq,Ck]at c3;rw[dR];constructor
   ·intro h48;refine⟨?_,by omega,λj b hb=>?_⟩
    ·rcases Vt s.size with h0|h0
     ·exact(c3 (bytes_inj (uZ (show s.data.toList.length=0 from h0)))).elim
     ·exact h0
    ·have:j<s.size:=by
      rcases Nat.lt_or_ge j s.size with h|h
      ·exact h
      ·rw[getElem?_neg s j ag]at hb;cases hb
     exact xF j b ag hb
   ·intro q;have:=q.2.1;omega
  ·rw[Vp,Ck]at c3;subst c3;exact absurd q.1 bw
def Shaped(k w id ix:Int)(n:Nat):Prop:=
 1<=k/\k<=20/\(k=14->1<=w/\w<=16)/\(k=16->1<=w/\w<=64)/\(k≠14/\k≠16->w=0)/\(k=19->0<=id/\id<=31/\3<=ix/\ix<=10)/\(k≠19->id=0/\ix=0)/\
  (k=15\/k=16\/k=19\/k=20->n=1)/\(k=17->n<=32)/\(k=18->1<=n/\n<=32)/\(k≠15/\k≠16/\k≠19/\k≠20/\k≠17/\k≠18->n=0)
def lP(h:Hp):Prop:=∀i:Nat,i<21->cell h ⟨0,i*4+3,none⟩=some (.bool (decide (3<=i/\i<=10)))
theorem lP.ai(t:lP h)(g:az h H):lP H:=λi a=>g.cell (t i a)
theorem avg{k w id ix:Int}{K:fB} (ht:lP h) (hk:∀b h',az h h'->(b=true↔Shaped k w id ix s.n)->K b h'):Yv k w id ix s h K Kp:=by
  refine aGr (aF λb1 h1 e1 g1 k1 _ => ?_);have hk:=λb=>hk b h1 g1;have ht:=ht.ai g1;have JW:∀(K:Bool->Prop),1<=ix->ix<=20->K (decide (3<=ix/\ix<=10))->Ix (some ((aJ 0))) 21 4 ix λa67=>Ld h1 (a67.add 3) (Value.bool) λt69=>K t69:=by
    intro K h1 h2 hK;refine ⟨by omega,by omega,decide _,?_,hK⟩
    rw[bz,bz,cF,ht ix.toNat ag]
    congr 2
    rw[decide_eq_decide];omega
  clear ht e1;unfold Shaped at hk;refine aj k1 rfl (acA λb hb => ?_);cases b
  · refine bS rfl (hk _ ?_);simp only[sm,reduceCtorEq] at *;omega
  refine bu rfl (aj k1 rfl ?_);rcases (by omega:k=14\/k=15\/k=16\/k=17\/k=18\/k=19\/k=20\/(k≠14/\k≠15/\k≠16/\k≠17/\k≠18/\k≠19/\k≠20)) with e | e | e | e | e | e | e | e
  case inr.inr.inr.inr.inr.inl =>
    repeat' first | (with_reducible first | refine ai4 ?_ | refine ai3 ?_ | refine ai2 ?_ | refine ai1 ?_ | refine ug ?_ | refine uh ?_ | refine cE (λc => ?_) λc => ?_) | refine aj k1 rfl ?_
    all_goals simp only[reduceCtorEq] at *
    all_goals first
      | (refine acA λb BO => ?_
         cases b
         · have BO:=aS BO
           repeat' first | (with_reducible first | refine NX ?_ | refine I8 ?_ | refine I7 ?_ | refine I6 ?_ | refine ug ?_ | refine uh ?_ | refine cE (λc => ?_) λc => ?_) | refine aj k1 rfl ?_
           all_goals apply hk _
           all_goals simp only[sm,reduceCtorEq] at *
           all_goals omega
         · have BO:=aS BO;apply NX;simp only[bz,Nat.reduceAdd];refine bS rfl (aj k1 rfl (JW _ ag ag ?_))
           by_cases hx:3<=ix/\ix<=10
           · rw[MF hx]
             repeat' first | (with_reducible first | refine I8 ?_ | refine I7 ?_ | refine I6 ?_ | refine ug ?_ | refine uh ?_ | refine cE (λc => ?_) λc => ?_) | refine aj k1 rfl ?_
             all_goals apply hk _
             all_goals simp only[sm,reduceCtorEq] at *
             all_goals omega
           · rw[decide_eq_false hx]
             repeat' first | (with_reducible first | refine I8 ?_ | refine I7 ?_ | refine I6 ?_ | refine ug ?_ | refine uh ?_ | refine cE (λc => ?_) λc => ?_) | refine aj k1 rfl ?_
             all_goals apply hk _
             all_goals simp only[sm,reduceCtorEq] at *
             all_goals omega)
      | (repeat' first | (with_reducible first | refine NX ?_ | refine I8 ?_ | refine I7 ?_ | refine I6 ?_ | refine ug ?_ | refine uh ?_ | refine cE (λc => ?_) λc => ?_) | refine aj k1 rfl ?_
         all_goals apply hk _
         all_goals simp only[sm,reduceCtorEq] at *
         all_goals omega)
  all_goals repeat' first | (with_reducible first | refine ai4 ?_ | refine ai3 ?_ | refine ai2 ?_ | refine I8 ?_ | refine I7 ?_ | refine I6 ?_ | refine ai1 ?_ | refine NX ?_ | refine ug ?_ | refine uh ?_ | refine cE (λc => ?_) λc => ?_) | refine aj k1 rfl ?_
  all_goals apply hk _
  all_goals simp only[sm,reduceCtorEq] at *
  all_goals omega
def aq.name:aq->ByteArray|.mk n _ _ _ _ _ _=>n
def aq.au:aq->Bool|.mk _ b _ _ _ _ _=>b
def aq.k:aq->Int|.mk _ _ k _ _ _ _=>k
def aq.w:aq->Int|.mk _ _ _ w _ _ _=>w
def aq.id:aq->Int|.mk _ _ _ _ i _ _=>i
def aq.ix:aq->Int|.mk _ _ _ _ _ i _=>i
def aq.cs:aq->List aq|.mk _ _ _ _ _ _ cs=>cs
theorem jR.cells(c:jR h a f):∃s,cH h s f.cs/\cell h a=some (.string f.name)/\cell h (a.add 1)=some (.bool f.au)/\cell h (a.add 2)=some (ah f.k)/\
  cell h (a.add 3)=some (ah f.w)/\cell h (a.add 4)=some (ah f.id)/\cell h (a.add 5)=some (ah f.ix)/\cell h (a.add 6)=some (Sl.v s):=by
 have⟨n,au,k,e,id,ix,ds⟩:=f;unfold jR at c;have⟨u,b,d⟩:=c;have c0:=b 0 _ rfl;rw[add_zero']at c0;exact⟨u,d,c0,b 1 _ rfl,b 2 _ rfl,b 3 _ rfl,b 4 _ rfl,b 5 _ rfl,b 6 _ rfl⟩
theorem cH.ix{cs:cN}(hs:cH h0 s cs){x:Int}{i:Nat}(hx:x=(i:Int)){f:aq}(hj:cs[i]? =some f){K:Addr->Prop}(hk:∀a,jR h0 a f->K a):Ix s.a s.n 7 x K:=by
 have⟨a,ha,hf⟩:=hs.get hj;have hn:=hs.n;have hi:i<cs.length:=(de.1 hj).1;subst hx;rw[ha];exact⟨by omega,by omega,by rw[gf];exact hk _ hf⟩
def AH(k:Int)(au:Bool)(cs:cN):Prop:=(k=1->au=true)/\(k=18->au=false)/\(k=20->∃c,cs[0]? =some c/\au=c.au)
theorem aq9{n:fh}{au:Bool}{k w id ix:Int}{cs:cN}{K:fB}(g:az h0 h)(hs:cH h0 s cs)(h1:k=20->cs.length=1)(hk:∀b h',az h h'->(b=true↔AH k au cs)->K b h'):Yu n au k w id ix s h K Kp:=by
 refine aGq (aF λb1 h2 e1 g1 k1 _=>?_);have hk:=λb=>hk b h2 g1;unfold AH at hk;simp only[bz,Nat.reduceAdd];refine aj k1 rfl (aG (λc=>?_) (λc=>?_))
 ·have c:=aS c;subst c;refine aj k1 rfl (hk _ ?_);simp
 refine aG (λc2=>?_) (λc2=>?_)
 ·have c2:=aS c2;subst c2;refine aj k1 rfl (hk _ ?_);simp
 refine aG (λc3=>?_) (λc3=>?_)
 ·have c3:=aS c3;subst c3;have hj:cs[0]? =some cs[0]:=bJ ag;refine aj k1 rfl (aj k1 rfl ?_);generalize cs[0]=f at hj;refine hs.ix rfl hj λa ha=>?_;have⟨u,_,_,c1,_⟩:=ha.cells;refine⟨_,(ak g g1).cell c1,hk _ ?_⟩;simp[hj]
 ·simp only[sm,reduceCtorEq]at c c2 c3;apply hk _;simp[c,c2,c3]
def VZ(cs:cN):Prop:=∀(i j:Nat)a b,j<i->cs[i]? =some a->cs[j]? =some b->a.name≠b.name
theorem ay4{cs:cN}{a3:Addr}{n:fh}{K:fB}(g:az h0 h)(hs:cH h0 s cs)(hl:cs.length<=9223372036854775807)(hn:cell h (a3.add 2)=some (.string n))
  (hk:∀b h',az h h'->(b=true↔∃c∈cs,c.name=n)->K b h'):Yh s (.func (.func 69) #[] #[(c9 a3)]) h K Kp:=by
 refine aF8 (aF7 ?_);have hsn:=hs.n;have ff:jV aE 69=true:=by kernel_rfl
 apply aAX (λx h'=>az h h'/\∃i:Nat,x=i/\i<=cs.length/\∀(j:Nat)a,j<i->cs[j]? =some a->a.name≠n) (λx _=>cs.length-x.toNat) ⟨cQ _,0,rfl,by omega,λj a hi=>by omega⟩
 rintro x h1 ⟨g1,i,rfl,hi,xF⟩ N1 hN;refine aG (λc=>?_) (λc=>?_)
 ·have c:=aS c;have dQ:i<cs.length:=ag;have ei:=bJ dQ;generalize cs[i]=f at ei;refine hs.ix rfl ei λpa ha=>?_;have⟨u,_,c0,c1,c2,c3,c4,c5,c6⟩:=ha.cells;have G:=ak g g1;refine⟨_,G.cell c0,_,G.cell c1,_,G.cell c2,_,G.cell c3,_,G.cell c4,_,G.cell c5,_,G.cell c6,?_⟩;unfold cZ;simp only[ER];refine xq1 (aGs (aF λb1 h2 e1 g2 k1 _=>aj k1 rfl ⟨_,g2.cell (g1.cell hn),(aG (λc3=>?_) (λc3=>?_))⟩))
  ·rw[Ck]at c3;refine hk _ _ (ak g1 g2) ⟨λ_=>⟨f,bT ei,c3⟩,λ_=>by rw[dR];omega⟩
  ·rw[Vq,ne_eq,Ck]at c3;refine aX ag ag (hN _ _ ⟨ak g1 g2,i+1,by simp,by omega,λj' a' eC ea=>?_⟩ ag)
   by_cases e:j'=i
   ·subst e;rw[ei]at ea;cases ea;exact c3
   ·exact xF j' a' ag ea
 ·have c:=aS c;refine hk _ _ g1 ⟨λq=>?_,λ⟨f,hf,e⟩=>?_⟩
  ·rw[dR]at q;omega
  ·have⟨j,hj⟩:=mD.1 hf;exact(xF j f (by have:=(de.1 hj).1;omega) hj e).elim
structure Pl where
 deep:Nat
 ahead:List aq
 f:aq
 ins:Bool
mutual
def aq.places(d:Nat)(ahead:cN)(ins:Bool):aq->List Pl
 |.mk n au k w id ix cs=>⟨d,ahead,.mk n au k w id ix cs,ins⟩::(if d<65 then eB (d+1) [] (ins||k==19) cs else[])
def eB(d:Nat)(ahead:cN)(ins:Bool):List aq->List Pl
 |[]=>[]
 |f::fs=>f.places d ahead ins++eB d (ahead++[f]) ins fs
end
def lV(d:Nat)(ins:Bool):List aq->List Pl
 |[]=>[]
 |f::fs=>f.places d [] ins++lV d ins fs
def xw(ids:List Int)(f:aq):List Int:=if f.k=19 then ids++[f.id]else ids
def AG(n:Nat)(ids:List Int)(x:Pl):Prop:=x.deep<=64/\n<256/\Fa x.f.name/\(∀g∈x.ahead,g.name≠x.f.name)/\Shaped x.f.k x.f.w x.f.id x.f.ix x.f.cs.length/\AH x.f.k x.f.au x.f.cs/\
 ¬(x.ins=true/\(x.f.k=19\/x.f.k=20))/\(x.f.k=19->(∃c,x.f.cs[0]? =some c/\c.au=false)/\x.f.id∉ids)
def gP(n:Nat)(ids:List Int):List Pl->Prop
 |[]=>True
 |x::xs=>AG n ids x/\gP (n+1) (xw ids x.f) xs
def lG(ids:List Int):List Pl->List Int
 |[]=>ids
 |x::xs=>lG (xw ids x.f) xs
theorem FD{a b:List Pl}:∀{n:Nat}{ids:List Int},gP n ids (a++b)↔gP n ids a/\gP (n+a.length) (lG ids a) b:=by
  induction a with
  |nil=>intro n ids;simp[gP,lG]
  | cons x c d=>
    intro n ids;simp only[yA,gP,lG];grind
theorem acQ{a b:List Pl}:∀{ids:List Int},lG ids (a++b)=lG (lG ids a) b:=by
 induction a with
 |nil=>intro ids;rfl
 |cons x d c=>intro ids;simp only[yA,lG,c]
theorem Y1{a:List Pl}:∀{n:Nat}{ids:List Int},gP n ids a->n<=256->n+a.length<=256:=by
  induction a with
  |nil=>simp
  | cons x d b=>
    intro n ids h _;obtain⟨⟨_,e,_⟩,c⟩:=h;grind
theorem aqf{ahead:cN}{n:Nat}{h:List Int}:gP n h (f.places d ahead B)↔(∀g∈ahead,g.name≠f.name)/\gP n h (f.places d [] B):=by
 obtain⟨i,au,k,w,id,ix,cs⟩:=f;simp only[aq.places,gP,AG];grind
theorem aqd{ahead:cN}:(f.places d ahead B).length=(f.places d [] B).length:=by
 obtain⟨a,au,k,w,id,ix,cs⟩:=f;simp only[aq.places,iN]
theorem aqe{ahead:cN}{a:List Int}:lG a (f.places d ahead B)=lG a (f.places d [] B):=by
 obtain⟨b,au,k,w,id,ix,cs⟩:=f;simp only[aq.places,lG]
def vu:List aq->List aq->Prop
 |_,[]=>True
 |ahead,f::fs=>(∀g∈ahead,g.name≠f.name)/\vu (ahead++[f]) fs
theorem aHv{l:cN}:∀{ahead:cN}{n:Nat}{g:List Int},gP n g (eB d ahead B l)↔vu ahead l/\gP n g (lV d B l):=by
  induction l with
  |nil=>intro ahead n g;simp[eB,lV,vu]
  | cons f l h=>
    intro ahead n g;simp only[eB,lV,vu,FD,aqf (ahead:=ahead),aqd,aqe];grind
theorem alX{cs:cN}:VZ cs↔cs.Pairwise λa b=>a.name≠b.name:=by
 rw[vg];constructor
 ·intro u i j f d c e;exact u j i _ _ c (bJ d) (bJ f) e.symm
 ·intro u i j a b c h g e;grind
theorem ayZ{l:cN}:∀{ahead:cN},ahead.Pairwise (λa b=>a.name≠b.name)->(vu ahead l↔(ahead++l).Pairwise λa b=>a.name≠b.name):=by
  induction l with
  |nil=>intro ahead h;simp[vu,h]
  | cons f l i=>
    intro ahead h;simp only[vu];grind
theorem FE{n:Nat}{a:List Int}:gP n a (eB d [] B fs)↔VZ fs/\gP n a (lV d B fs):=by
 rw[aHv,ayZ Vo,Az,alX]
def Wp(m:Md):Prop:=m.1.size<=256/\m.2.size<=256
def E6(fs:cN)(ms:List Md):Prop:=fs.length<=32/\ms.length<=16/\(∀(j:Nat)m,ms[j]? =some m->Wp m)/\VZ fs/\gP 0 [] (lV 1 false fs)
abbrev B61(h:Hp)(b:Nat)(k w id ix:Int)(s:Sl):Prop:=aN h b #[ah k,ah w,ah id,ah ix,Sl.v s] kJ
theorem DH{a:fh}{au:Bool}{k w id ix:Int}{cs:cN}(b:d<=64):(aq.mk a au k w id ix cs).places d [] B=⟨d,[],.mk a au k w id ix cs,B⟩::eB (d+1) [] (B||k==19) cs:=by
 unfold aq.places;rw[dV]
def pZ(h:Hp)(r:Nat)(ids:List Int):Prop:=∃es c,h[r]? =some (.map es c)/\(∀e∈es.toList,∃x v:Int,e.key=ah x/\e.val=ah v)/\∀x:Int,(∃e∈es.toList,e.key=ah x)↔x∈ids
theorem pZ.fr{S:aQ}{h':Hp}{z:List Int}(m:pZ h r z)(f:Tn S h h')(B:¬S r):pZ h' r z:=by
 obtain⟨a,c,e,q⟩:=m;exact⟨a,c,(f.2 r (jD.1 e).1 B).trans e,q⟩
theorem pZ.ai{o:List Int}(m:pZ h r o)(g:az h H):pZ H r o:=m.fr (S:=No) (bg g) id
theorem pZ.find{b:Array MapEntry}(g:∀e∈b.toList,∃x v:Int,e.key=ah x/\e.val=ah v)(t:Int):(Instr.findNow (.int .i64) (ah t) b.toList 0=some none/\¬∃e∈b.toList,e.key=ah t)\/
  ∃(j:Nat)(v:Int),Instr.findNow (.int .i64) (ah t) b.toList 0=some (some (j,ah v))/\∃e,b.toList[j]? =some e/\e.key=ah t:=by
 rcases MapKept.findNow_spec (d:=.int .i64) (k:=ah t) rfl b.toList 0 (λx h=>by obtain⟨a,_,e,_⟩:=g x h;rw[e];rfl)with⟨f,c⟩|⟨j,e,f,c,l⟩
 ·grind
 ·obtain⟨_,v,_,m⟩:=g e (bT c);grind
theorem azS{a:List Int}{y:Int}{K:Int->Bool->Prop}(m:pZ h r a)(i:∀x b,(b=true↔y∈a)->K x b):Lk h (some r) (.int .i64) (ah y) (ah (0:Int)) mI K:=by
 obtain⟨k,c,e,l,g⟩:=m;rcases pZ.find l y with⟨f,d⟩|⟨j,v,f,o,d,n⟩
 ·exact⟨k,c,_,e,f,0,rfl,i 0 false ⟨aA,λq=>(d ((g y).2 q)).elim⟩⟩
 ·exact⟨k,c,_,e,f,v,rfl,i v true ⟨λ_=>(g y).1 ⟨o,bT d,n⟩,λ_=>rfl⟩⟩
theorem azj{n:List Int}{k v:Int}(m:pZ h r n)(D:∀A,eJ r h A->pZ A r (n++[k])->K A):Up h (some r) (.int .i64) (ah k) (ah v) K:=by
  obtain⟨s,c,e,u,C⟩:=m;have B:=(jD.1 e).1;have l:∀o,eJ r h (h.setIfInBounds r o):=λo=>⟨aA,λb F=>bZ⟩
  have get:∀o,(h.setIfInBounds r o)[r]? =some o:=dG
  rcases pZ.find u k with⟨w,p⟩|⟨j,v0,w,H,p,G⟩
  · refine⟨s,c,_,e,w,D _ (l _) ⟨_,_,get _,λx d=>?_,λx=>?_⟩⟩
    ·grind
    ·rw[nh,<-C x];simp only[ME,nh,ng];grind
  · refine⟨s,c,_,e,w,D _ (l _) ⟨_,_,get _,λx d=>?_,λx=>?_⟩⟩
    · rw[Array.toList_modify]at d;obtain⟨i,a⟩:=mD.1 d;rw[Vn]at a;cases g:s.toList[i]? with
      |none=>simp[g]at a
      | some y=>
        have f:=u y (bT g);grind
    · rw[nh,<-C x,Array.toList_modify];constructor
      ·grind[List.mem_iff_getElem?]
      · rintro(⟨y,f,q⟩|d)
        · obtain⟨i,a⟩:=mD.1 f
          by_cases E:j=i
          · subst E;rw[p]at a;cases a;refine⟨_,bT (by rw[Vn,p];simp;rfl),?_⟩
            rw[<-q,G]
          ·exact⟨y,bT (i:=i) dG,q⟩
        ·simp only[ng]at d;subst d;exact⟨_,bT (by rw[Vn,p];simp;rfl),rfl⟩
abbrev jO:Nat:=9223372036854775807
theorem alr{x:Pl}{n:Nat}{p:List Int}{sp t:Sl}{K:cK}(g:az H h)(ht:lP H)(hp:sp.n=x.deep)(L:cH H s x.ahead)(E:cH H t x.f.cs)(X:x.ahead.length<=jO)(T:x.f.name.size<=jO)(hm:pZ h r p)
  (Z:∀e A,az h A->(e=0↔AG n p x)->K e A):YG sp s x.f.name x.f.au x.f.k x.f.w x.f.id x.f.ix t x.ins (n:Int) (some r) h K Kp:=by
 have R:=E.n;apply aGK;have o:¬AG n p x->∀(e:Int)A,e≠0->az h A->K e A:=λq e A ne g=>Z e A g ⟨λy=>(ne y).elim,λy=>(q y).elim⟩;refine aF λb3 h1 e3 g3 j _=>?_;simp only[bz,Nat.reduceAdd];refine aj j rfl (aj j rfl (aj j rfl (aj j rfl (aj j rfl ?_))));have d:=jM.start No h1;refine d.new λb7 _ a' _ d=>?_
 repeat(first|refine d.qU 0 rfl rfl ?_|refine d.ld 0 rfl rfl ?_|refine d.qU 1 rfl rfl ?_|refine d.ld 1 rfl rfl ?_|refine d.qU 2 rfl rfl ?_|refine d.ld 2 rfl rfl ?_|refine d.qU 3 rfl rfl ?_|refine d.ld 3 rfl rfl ?_|refine d.qU 4 rfl rfl ?_|refine d.ld 4 rfl rfl ?_|refine d.qU 5 rfl rfl ?_|refine d.ld 5 rfl rfl ?_|refine d.qU 6 rfl rfl ?_|refine d.ld 6 rfl rfl ?_|(refine d.oH 0 rfl rfl rfl λ_ _ d=>?_;simp only[kj]at d)|(refine d.st 0 rfl rfl rfl λ_ _ d=>?_;simp only[kj,oP]at d)|(refine d.oH 1 rfl rfl rfl λ_ _ d=>?_;simp only[kj]at d)|(refine d.st 1 rfl rfl rfl λ_ _ d=>?_;simp only[kj]at d)|(refine d.oH 2 rfl rfl rfl λ_ _ d=>?_;simp only[kj]at d)|(refine d.st 2 rfl rfl rfl λ_ _ d=>?_;simp only[kj]at d)|(refine d.oH 3 rfl rfl rfl λ_ _ d=>?_;simp only[kj]at d)|(refine d.st 3 rfl rfl rfl λ_ _ d=>?_;simp only[kj]at d)|(refine d.oH 4 rfl rfl rfl λ_ _ d=>?_;simp only[kj]at d)|(refine d.st 4 rfl rfl rfl λ_ _ d=>?_;simp only[kj]at d)|(refine d.oH 5 rfl rfl rfl λ_ _ d=>?_;simp only[kj]at d)|(refine d.st 5 rfl rfl rfl λ_ _ d=>?_;simp only[kj]at d)|(refine d.oH 6 rfl rfl rfl λ_ _ d=>?_;simp only[kj]at d)|(refine d.st 6 rfl rfl rfl λ_ _ d=>?_;simp only[kj]at d)|refine d.qU 0 rfl rfl ?_|refine d.ld 0 rfl rfl ?_|refine d.qU 1 rfl rfl ?_|refine d.ld 1 rfl rfl ?_|refine d.qU 2 rfl rfl ?_|refine d.ld 2 rfl rfl ?_|refine d.qU 3 rfl rfl ?_|refine d.ld 3 rfl rfl ?_|refine d.qU 4 rfl rfl ?_|refine d.ld 4 rfl rfl ?_|refine d.qU 5 rfl rfl ?_|refine d.ld 5 rfl rfl ?_|refine d.qU 6 rfl rfl ?_|refine d.ld 6 rfl rfl ?_|refine aX ag ag ?_|refine bS rfl ?_|refine bu rfl ?_)
 have m:=d.aZ (i:=0) rfl;have j:=j.ai d.ai;have D:=ak g3 d.ai;clear d e3
 rename_i h7 _
 refine azS (hm.ai D) λtv ok G=>aj j rfl (aG (λc=>o (λq=>?_) _ _ bw D) λc=>?_)
 ·have c:=aS c;have:=q.1;omega
 have c:=aS c;refine aG (λF=>o (λq=>?_) _ _ bw D) λF=>?_
 ·have F:=aS F;have:=q.2.1;omega
 have F:=aS F;refine aj j rfl (arq T λb l=>?_);cases b
 ·exact bS rfl (o (λq=>absurd (l.2 q.2.2.1) aA) _ _ bw D)
 have C:=l.1 rfl;clear l;refine bu rfl (aj j rfl (ay4 (ak g D) L X (by rw[bz,ia j];rfl) λb h8 N l=>?_))
 have Q:=ak D N;have j:=j.ai N;have m:=m.ai N;cases b;rotate_left
 ·obtain⟨f,V,U⟩:=l.1 rfl;exact bS rfl (o (λq=>q.2.2.2.1 f V U) _ _ bw Q)
 have W:∀f∈x.ahead,f.name≠x.f.name:=bZ;clear l;refine bu rfl (aj m rfl (aj m rfl (aj m rfl (aj m rfl (aj m rfl (avg (ht.ai (ak g Q)) λb h9 M l=>?_))))));have P:=ak Q M;have j:=j.ai M;have m:=m.ai M;rw[R.1]at l;cases b
 ·exact bS rfl (o (λq=>absurd (l.2 q.2.2.2.2.1) aA) _ _ bw P)
 have nC:=l.1 rfl;clear l;refine bu rfl (aj j rfl (aj j rfl (aj j rfl (aj j rfl (aj j rfl (aj j rfl (aj j rfl (aq9 (ak g P) E (λe=>by unfold Shaped at nC;omega) λb v B l=>?_))))))))
 have z:=ak P B;have j:=j.ai B;have m:=m.ai B;cases b
 ·exact bS rfl (o (λq=>absurd (l.2 q.2.2.2.2.2.1) aA) _ _ bw z)
 have S:=l.1 rfl;clear l;have hT:¬(x.ins=true/\(x.f.k=19\/x.f.k=20))->(x.f.k=19->(∃c,x.f.cs[0]? =some c/\c.au=false)/\x.f.id∉p)->K 0 v:=λa b=>Z 0 v z ⟨λ_=>⟨ag,ag,C,W,nC,S,a,b⟩,λ_=>rfl⟩
 have o:=λq=>o q 36 v bw z;have j1:∀b,(b=true↔x.ins=true/\(x.f.k=19\/x.f.k=20))->Jb K Kp (aJ b7) ok b v:=by
  intro b l;apply aDs;simp only[bz,Nat.reduceAdd];cases b
  ·have l:¬(x.ins=true/\(x.f.k=19\/x.f.k=20)):=bZ;refine bu rfl (aj m rfl (cE (λc=>?_) λc=>?_))
   ·have I:0<x.f.cs.length:=by unfold Shaped at nC;omega
    obtain⟨f,J⟩:∃f,x.f.cs[0]? =some f:=⟨x.f.cs[0],bJ I⟩;refine aj m rfl (E.ix rfl J λa L=>?_);obtain⟨u,_,_,c1,_⟩:=L.cells;refine⟨_,(ak g z).cell c1,(aG (λO=>?_) λO=>?_)⟩
    ·refine o λq=>?_;obtain⟨y,Y,q⟩:=(q.2.2.2.2.2.2.2 c).1;grind
    ·cases ok
     ·exact bu rfl (hT l λ_=>⟨⟨f,J,ag⟩,λq=>absurd (G.2 q) aA⟩)
     ·exact bS rfl (o λq=>(q.2.2.2.2.2.2.2 c).2 (G.1 rfl))
   ·grind
  ·exact bS rfl (bS rfl (o λq=>q.2.2.2.2.2.2.1 (l.1 rfl)))
 refine bu rfl (aj j rfl (aG (λe=>?_) λe=>?_))
 ·refine aj m rfl (aG (λc=>j1 _ ?_) λc=>?_)
  ·grind
  ·refine aj m rfl (j1 _ ?_);grind
 ·exact j1 _ (by simp[e])
theorem axO{lo:Nat}{K:Sl->HP}{B:PK}(o:Sh lo h.size 1 h s vs Y6)(w:∀v∈vs,one v=true)(hl:vs.length<=1000)
  (l:∀c f,az h f->Sh h.size f.size 1 f c vs Y6->K c f):Yi s h K B:=by
 apply aF9;rcases o with⟨rfl,rfl⟩|⟨b,J,I,o⟩
 ·exact bS rfl (l _ h (cQ _) (Sh.nil _ _ _ _ _))
 ·obtain⟨e1,O,cs,k,N,M,A⟩:=o;refine bu (by rw[e1];rfl) (aF λq g L j u F=>?_)
  have r:Sh h.size g.size 1 g ⟨some _,0,0⟩ [] Y6:=.inr ⟨q,ag,ag,rfl,rfl,_,u,bX _,rfl,λi e=>by simp at e⟩
  refine Y0 r j.1 rfl ag w (by rw[e1];exact⟨ag,λi v e=>by
   have E:=(de.1 e).1;rw[bz,ia (k.ai j),cF,A i ag];exact e⟩) bZ bZ λc p z G t C=>?_
  have y:=((bg j:Tn No h g).trans' z λd⟨a,m,x⟩D=>bZ).ai
  grind
theorem alD{lo:Nat}{x:Int}{K:Sl->HP}(o:Sh lo h.size 1 h s vs Y6)(v:lo<=h.size)(hl:vs.length<=1000)
  (m:∀a e,Tn (In lo h.size) h e->Sh lo e.size 1 e a (vs++[ah x]) Y6->a.n=vs.length+1->K a e):aI h #[(ah x)] Y6 λj c=>Ap c Y6 #[(ah (0:Int))] 1 8 s 1 (rd c (some j) (1*1)) λg r=>K g r:=by
 have y:=o.n;exact aF λb c z f l _=>Y0 ((o.ai f).wide (bX lo) f.1) ag rfl rfl (by simp[one]) (iJ l rfl) ag ag λa q t w k u=>m a q ((bg f:Tn (In lo h.size) h c).trans' t λd p i=>⟨(o.at p).1,i⟩) k ag
theorem Kr{a b:cN}:∀{ahead:cN},eB d ahead B (a++b)=eB d ahead B a++eB d (ahead++a) B b:=by
 induction a with
 |nil=>intro ahead;simp[eB]
 |cons f e c=>intro ahead;simp only[yA,eB,c,rz,Az]
theorem iB.take:∀{c:cN}{i j:Nat},iB h a i c->iB h a i (c.take j)
  |[],_,j,b=>dG
  |f::c,_,0,b=>by simp[iB]
  | f::c,_,j+1,b=>by
    unfold iB at b;simp only[Vm,iB];exact⟨b.1,iB.take b.2⟩
theorem cH.take{l:cN}(q:cH h s l){j:Nat}(g:j<=l.length){s':Sl}(r:s'.a=s.a)(u:s'.n=j)(y:s'.c=s.c):cH h s' (l.take j):=by
  have b:=q.n;cases l with
  |nil=>simp at g;subst g;simp only[List.take_nil,cH];omega
  | cons f l=>
    cases j with
    |zero=>simp only[IB,cH];omega
    | succ j=>
      simp only[iN]at g b;unfold cH at q;obtain⟨_,_,a,e,i,d⟩:=q;simp only[Vm,cH,m8];exact⟨ag,ag,a,r.trans e,i,d.take⟩
mutual
def aq.fN:aq->Prop
 |.mk n _ _ _ _ _ cs=>n.size<=jO/\cs.length<=jO/\hY cs
def hY:List aq->Prop
 |[]=>True
 |f::fs=>f.fN/\hY fs
end
theorem hY.get:∀{c:cN},hY c->∀f∈c,f.fN
  |[],_,_,h=>by simp at h
  | g::b,a,f,h=>by
    unfold hY at a;rcases mE.1 h with rfl|h
    ·exact a.1
    ·exact hY.get a.2 f h
end
end Go.Proofs.YtbahbhkogflhbaaGreatDoor
