import Derived.Test.YtmjochipbmgljaaGreatDoorBatchesShRange
import Derived.Test.YtmjochipbmgljaaGreatDoorChecked
import Derived.Test.YtmjochipbmgljaaGreatDoorBatchesShLoc
import Derived.Test.YtmjochipbmgljaaGreatDoorBatchesShRow
import Derived.Test.YtmjochipbmgljaaGreatDoorBatchesShDefer
import Derived.Test.YtmjochipbmgljaaGreatDoorBatchesShAll
import Derived.Test.YtmjochipbmgljaaGreatDoorBatchesShGlue
import Derived.Laws.Strings
import Derived.WideShapes
import Derived.MapKept
set_option linter.all false
set_option maxRecDepth 99999
set_option maxHeartbeats 999999
noncomputable section
namespace Go.Proofs.YtmjochipbmgljaaGreatDoor
open Go Go.Sh Go.WideShapes
abbrev aD:=Tryz.prog
abbrev Y4:TypeId:=1
abbrev Y6:TypeId:=3
abbrev Y8:TypeId:=5
abbrev rz:TypeId:=9
abbrev Y25:TypeId:=22
abbrev kG:TypeId:=39
abbrev iz:TypeId:=41
abbrev bX:TypeId:=44
abbrev HX:TypeId:=31
abbrev kF:TypeId:=54
abbrev Vk:TypeId:=99
abbrev Me:TypeId:=47
abbrev dh:TypeId:=49
abbrev fN:TypeId:=50
abbrev afB:TypeId:=180
abbrev afA:TypeId:=272
abbrev ays:TypeId:=223
abbrev H8:TypeId:=258
abbrev H7:TypeId:=25
abbrev afz:TypeId:=198
abbrev afy:TypeId:=199
abbrev afx:TypeId:=200
abbrev afw:TypeId:=201
abbrev afv:TypeId:=202
abbrev afu:TypeId:=203
abbrev H6:TypeId:=204
abbrev pP:TypeId:=237
abbrev Vw:TypeId:=72
abbrev HZ:TypeId:=92
abbrev Vv:TypeId:=73
abbrev Vu:TypeId:=78
abbrev afr:TypeId:=106
abbrev afq:TypeId:=107
abbrev afp:TypeId:=213
abbrev afo:TypeId:=57
abbrev ry:TypeId:=30
abbrev vh:TypeId:=64
abbrev HY:TypeId:=83
abbrev afn:TypeId:=86
abbrev Et:TypeId:=94
abbrev Mf:TypeId:=115
abbrev pO:TypeId:=118
abbrev Vt:TypeId:=120
abbrev pN:TypeId:=121
abbrev Vs:TypeId:=123
abbrev pM:TypeId:=124
abbrev Vr:TypeId:=126
abbrev oK:TypeId:=127
abbrev Vq:TypeId:=129
abbrev oJ:TypeId:=130
abbrev Vp:TypeId:=132
abbrev qw:TypeId:=133
abbrev Vo:TypeId:=135
abbrev qv:TypeId:=136
abbrev Vn:TypeId:=139
abbrev pL:TypeId:=140
abbrev Vm:TypeId:=142
abbrev pK:TypeId:=143
abbrev Vl:TypeId:=147
abbrev ru:TypeId:=167
abbrev afm:TypeId:=289
abbrev Vj:TypeId:=294
abbrev ayq:TypeId:=299
abbrev oQ:Array Value:=#[(ah 0),(ah 0),(ah 0),(ah 0),(.slice none 0 0)]
abbrev mK:Array Value:=#[(.string (bs [])),(.bool false),(ah 0),(ah 0),(ah 0),(ah 0),(.slice none 0 0)]
abbrev cY:Array Value:=#[(ah 0),(ah 0),(ah 0),(.slice none 0 0),(.slice none 0 0),(.slice none 0 0)]
abbrev kI:Array Value:=#[(ah 0),(.slice none 0 0),(ah 0)]
abbrev fU:Array Value:=#[(.bool false),(ah 0),(.string (bs [])),(.slice none 0 0)]
abbrev I6:Array Value:=#[(.slice none 0 0),(ah 0),(.pointer none)]
abbrev OM:Array Value:=#[(.slice none 0 0),(.string (bs [])),(.bool false),(ah 0),(ah 0),(ah 0),(ah 0),(.slice none 0 0),(.slice none 0 0),(.bool false)]
abbrev akm:Array Value:=#[(.slice none 0 0),(.slice none 0 0),(.string (bs [])),(.bool false),(ah 0),(ah 0),(ah 0),(ah 0),(.slice none 0 0),(.bool false)]
abbrev OL:Array Value:=#[(.string (bs [])),(.bool false),(ah 0),(ah 0),(ah 0),(ah 0),(.slice none 0 0),(ah 0),(ah 0),(.slice none 0 0),(ah 0),(.bool false),(ah 0),(.string (bs [])),(.slice none 0 0),(.bool false)]
abbrev wY(h:Hp)(t0 t1 t2 t3:Int)(t4:Sl)(K:Addr->HP):Prop:=aH h #[(ah t0),(ah t1),(ah t2),(ah t3),(Sl.v t4)] kG K
abbrev gA(h:Hp)(t0:BA)(t1:Bool)(t2 t3 t4 t5:Int)(t6:Sl)(K:Addr->HP):Prop:=aH h #[(.string t0),(.bool t1),(ah t2),(ah t3),(ah t4),(ah t5),(Sl.v t6)] iz K
abbrev n9(h:Hp)(t0 t1 t2:Int)(t3 t4 t5:Sl)(K:Addr->HP):Prop:=aH h #[(ah t0),(ah t1),(ah t2),(Sl.v t3),(Sl.v t4),(Sl.v t5)] bX K
abbrev iK(h:Hp)(t0:Bool)(t1:Int)(t2:BA)(t3:Sl)(K:Addr->HP):Prop:=aH h #[(.bool t0),(ah t1),(.string t2),(Sl.v t3)] dh K
abbrev ayR(h:Hp)(t0:BA)(t1:Bool)(t2 t3 t4 t5:Int)(t6:Sl)(t7 t8 t9:Int)(t10 t11 t12:Sl)(t13 t14:Int)(t15:PA)(t16:Value)(K:Addr->HP):Prop:=aH h #[(.string t0),(.bool t1),(ah t2),(ah t3),(ah t4),(ah t5),(Sl.v t6),(ah t7),(ah t8),(ah t9),(Sl.v t10),(Sl.v t11),(Sl.v t12),(ah t13),(ah t14),(.pointer t15),t16] afB K
abbrev Cp(h:Hp)(t0:Sl)(t1:Int)(t2:PA)(K:Addr->HP):Prop:=aH h #[(Sl.v t0),(ah t1),(.pointer t2)] H8 K
abbrev ayQ(h:Hp)(t0 t1:Sl)(t2:BA)(t3:Bool)(t4 t5 t6 t7:Int)(t8:Sl)(t9:Bool)(K:Addr->HP):Prop:=aH h #[(Sl.v t0),(Sl.v t1),(.string t2),(.bool t3),(ah t4),(ah t5),(ah t6),(ah t7),(Sl.v t8),(.bool t9)] Vu K
abbrev ayP(h:Hp)(t0:BA)(t1:Bool)(t2 t3 t4 t5:Int)(t6:Sl)(t7:Value)(t8:Bool)(K:Addr->HP):Prop:=aH h #[(.string t0),(.bool t1),(ah t2),(ah t3),(ah t4),(ah t5),(Sl.v t6),t7,(.bool t8)] afn K
abbrev ayO(h:Hp)(t0:BA)(t1:Bool)(t2 t3 t4 t5:Int)(t6:Sl)(t7 t8 t9:Int)(t10 t11 t12 t13 t14 t15 t16 t17 t18:Sl)(K:Addr->HP):Prop:=aH h #[(.string t0),(.bool t1),(ah t2),(ah t3),(ah t4),(ah t5),(Sl.v t6),(ah t7),(ah t8),(ah t9),(Sl.v t10),(Sl.v t11),(Sl.v t12),(Sl.v t13),(Sl.v t14),(Sl.v t15),(Sl.v t16),(Sl.v t17),(Sl.v t18)] Et K
abbrev ayN(h:Hp)(t0:BA)(t1:Bool)(t2 t3 t4 t5:Int)(t6:Sl)(t7 t8:Int)(t9:Sl)(t10:Int)(t11:Bool)(t12:Int)(t13:BA)(t14:Sl)(t15:Bool)(K:Addr->HP):Prop:=aH h #[(.string t0),(.bool t1),(ah t2),(ah t3),(ah t4),(ah t5),(Sl.v t6),(ah t7),(ah t8),(Sl.v t9),(ah t10),(.bool t11),(ah t12),(.string t13),(Sl.v t14),(.bool t15)] Vt K
abbrev ayM(h:Hp)(t0:BA)(t1:Bool)(t2 t3 t4 t5:Int)(t6:Sl)(t7 t8:Int)(t9:Sl)(t10:Int)(t11:Bool)(t12:Int)(t13:BA)(t14:Sl)(t15:Bool)(t16 t17:Sl)(K:Addr->HP):Prop:=aH h #[(.string t0),(.bool t1),(ah t2),(ah t3),(ah t4),(ah t5),(Sl.v t6),(ah t7),(ah t8),(Sl.v t9),(ah t10),(.bool t11),(ah t12),(.string t13),(Sl.v t14),(.bool t15),(Sl.v t16),(Sl.v t17)] Vs K
abbrev ayL(h:Hp)(t0:BA)(t1:Bool)(t2 t3 t4 t5:Int)(t6:Sl)(t7 t8:Int)(t9:Sl)(t10:Int)(t11:Bool)(t12:Int)(t13:BA)(t14:Sl)(t15:Bool)(t16:Sl)(t17:Value)(K:Addr->HP):Prop:=aH h #[(.string t0),(.bool t1),(ah t2),(ah t3),(ah t4),(ah t5),(Sl.v t6),(ah t7),(ah t8),(Sl.v t9),(ah t10),(.bool t11),(ah t12),(.string t13),(Sl.v t14),(.bool t15),(Sl.v t16),t17] Vr K
abbrev ayK(h:Hp)(t0:BA)(t1:Bool)(t2 t3 t4 t5:Int)(t6:Sl)(t7 t8:Int)(t9:Sl)(t10:Int)(t11:Bool)(t12:Int)(t13:BA)(t14:Sl)(t15:Bool)(t16:Value)(K:Addr->HP):Prop:=aH h #[(.string t0),(.bool t1),(ah t2),(ah t3),(ah t4),(ah t5),(Sl.v t6),(ah t7),(ah t8),(Sl.v t9),(ah t10),(.bool t11),(ah t12),(.string t13),(Sl.v t14),(.bool t15),t16] Vq K
abbrev ayJ(h:Hp)(t0:BA)(t1:Bool)(t2 t3 t4 t5:Int)(t6:Sl)(t7 t8:Int)(t9:Sl)(t10:Int)(t11:Bool)(t12:Int)(t13:BA)(t14:Sl)(t15:Bool)(t16:Sl)(K:Addr->HP):Prop:=aH h #[(.string t0),(.bool t1),(ah t2),(ah t3),(ah t4),(ah t5),(Sl.v t6),(ah t7),(ah t8),(Sl.v t9),(ah t10),(.bool t11),(ah t12),(.string t13),(Sl.v t14),(.bool t15),(Sl.v t16)] Vp K
abbrev ayI(h:Hp)(t0:BA)(t1:Bool)(t2 t3 t4 t5:Int)(t6:Sl)(t7 t8:Int)(t9:Sl)(t10:Int)(t11:Bool)(t12:Int)(t13:BA)(t14:Sl)(t15:Bool)(t16 t17 t18:Sl)(K:Addr->HP):Prop:=aH h #[(.string t0),(.bool t1),(ah t2),(ah t3),(ah t4),(ah t5),(Sl.v t6),(ah t7),(ah t8),(Sl.v t9),(ah t10),(.bool t11),(ah t12),(.string t13),(Sl.v t14),(.bool t15),(Sl.v t16),(Sl.v t17),(Sl.v t18)] Vo K
abbrev ayH(h:Hp)(t0:BA)(t1:Bool)(t2 t3 t4 t5:Int)(t6:Sl)(t7 t8:Int)(t9:Sl)(t10:Int)(t11:Bool)(t12:Int)(t13:BA)(t14:Sl)(t15:Bool)(t16:Sl)(t17:Value)(t18:Sl)(t19:Option Nat)(K:Addr->HP):Prop:=aH h #[(.string t0),(.bool t1),(ah t2),(ah t3),(ah t4),(ah t5),(Sl.v t6),(ah t7),(ah t8),(Sl.v t9),(ah t10),(.bool t11),(ah t12),(.string t13),(Sl.v t14),(.bool t15),(Sl.v t16),t17,(Sl.v t18),(.map t19)] Vn K
abbrev ayG(h:Hp)(t0:BA)(t1:Bool)(t2 t3 t4 t5:Int)(t6:Sl)(t7 t8:Int)(t9:Sl)(t10:Int)(t11:Bool)(t12:Int)(t13:BA)(t14:Sl)(t15:Bool)(t16:Sl)(t17:Value)(t18:Bool)(t19:Int)(t20:BA)(t21:Sl)(K:Addr->HP):Prop:=aH h #[(.string t0),(.bool t1),(ah t2),(ah t3),(ah t4),(ah t5),(Sl.v t6),(ah t7),(ah t8),(Sl.v t9),(ah t10),(.bool t11),(ah t12),(.string t13),(Sl.v t14),(.bool t15),(Sl.v t16),t17,(.bool t18),(ah t19),(.string t20),(Sl.v t21)] Vm K
abbrev ayF(h:Hp)(t0:BA)(t1:Bool)(t2 t3 t4 t5:Int)(t6:Sl)(t7 t8:Int)(t9:Sl)(t10:Int)(t11:Bool)(t12:Int)(t13:BA)(t14:Sl)(t15:Bool)(t16 t17:Sl)(K:Addr->HP):Prop:=aH h #[(.string t0),(.bool t1),(ah t2),(ah t3),(ah t4),(ah t5),(Sl.v t6),(ah t7),(ah t8),(Sl.v t9),(ah t10),(.bool t11),(ah t12),(.string t13),(Sl.v t14),(.bool t15),(Sl.v t16),(Sl.v t17)] Vl K
def hO(h:Hp)(a:Addr)(K:Int->Int->Int->Int->Sl->Prop):Prop:=
 Ld h a mI λt0=>Ld h (a.add 1) mI λt1=>Ld h (a.add 2) mI λt2=>Ld h (a.add 3) mI λt3=>Ld h (a.add 4) Sl.v λt4=>K t0 t1 t2 t3 t4
def bN(h:Hp)(a:Addr)(K:BA->Bool->Int->Int->Int->Int->Sl->Prop):Prop:=
 Ld h a .string λt0=>Ld h (a.add 1) .bool λt1=>Ld h (a.add 2) mI λt2=>Ld h (a.add 3) mI λt3=>Ld h (a.add 4) mI λt4=>Ld h (a.add 5) mI λt5=>Ld h (a.add 6) Sl.v λt6=>K t0 t1 t2 t3 t4 t5 t6
def cr(h:Hp)(a:Addr)(K:Int->Int->Int->Sl->Sl->Sl->Prop):Prop:=
 Ld h a mI λt0=>Ld h (a.add 1) mI λt1=>Ld h (a.add 2) mI λt2=>Ld h (a.add 3) Sl.v λt3=>Ld h (a.add 4) Sl.v λt4=>Ld h (a.add 5) Sl.v λt5=>K t0 t1 t2 t3 t4 t5
def eG(h:Hp)(a:Addr)(K:Int->Sl->Int->Prop):Prop:=
 Ld h a mI λt0=>Ld h (a.add 1) Sl.v λt1=>Ld h (a.add 2) mI λt2=>K t0 t1 t2
def bJ(h:Hp)(a:Addr)(K:Bool->Int->BA->Sl->Prop):Prop:=
 Ld h a .bool λt0=>Ld h (a.add 1) mI λt1=>Ld h (a.add 2) .string λt2=>Ld h (a.add 3) Sl.v λt3=>K t0 t1 t2 t3
def oM(h:Hp)(a:Addr)(K:Sl->Int->PA->Prop):Prop:=
 Ld h a Sl.v λt0=>Ld h (a.add 1) mI λt1=>Ld h (a.add 2) .pointer λt2=>K t0 t1 t2
def EC(h:Hp)(a:Addr)(K:Sl->BA->Bool->Int->Int->Int->Int->Sl->Sl->Bool->Prop):Prop:=
 Ld h a Sl.v λt0=>Ld h (a.add 1) .string λt1=>Ld h (a.add 2) .bool λt2=>Ld h (a.add 3) mI λt3=>Ld h (a.add 4) mI λt4=>Ld h (a.add 5) mI λt5=>Ld h (a.add 6) mI λt6=>Ld h (a.add 7) Sl.v λt7=>Ld h (a.add 8) Sl.v λt8=>Ld h (a.add 9) .bool λt9=>K t0 t1 t2 t3 t4 t5 t6 t7 t8 t9
def ay2(h:Hp)(a:Addr)(K:Sl->Sl->BA->Bool->Int->Int->Int->Int->Sl->Bool->Prop):Prop:=
 Ld h a Sl.v λt0=>Ld h (a.add 1) Sl.v λt1=>Ld h (a.add 2) .string λt2=>Ld h (a.add 3) .bool λt3=>Ld h (a.add 4) mI λt4=>Ld h (a.add 5) mI λt5=>Ld h (a.add 6) mI λt6=>Ld h (a.add 7) mI λt7=>Ld h (a.add 8) Sl.v λt8=>Ld h (a.add 9) .bool λt9=>K t0 t1 t2 t3 t4 t5 t6 t7 t8 t9
def oc(h:Hp)(a:Addr)(K:BA->Bool->Int->Int->Int->Int->Sl->Int->Int->Sl->Int->Bool->Int->BA->Sl->Bool->Prop):Prop:=
 Ld h a .string λt0=>Ld h (a.add 1) .bool λt1=>Ld h (a.add 2) mI λt2=>Ld h (a.add 3) mI λt3=>Ld h (a.add 4) mI λt4=>Ld h (a.add 5) mI λt5=>Ld h (a.add 6) Sl.v λt6=>Ld h (a.add 7) mI λt7=>Ld h (a.add 8) mI λt8=>Ld h (a.add 9) Sl.v λt9=>Ld h (a.add 10) mI λt10=>Ld h (a.add 11) .bool λt11=>Ld h (a.add 12) mI λt12=>Ld h (a.add 13) .string λt13=>Ld h (a.add 14) Sl.v λt14=>Ld h (a.add 15) .bool λt15=>K t0 t1 t2 t3 t4 t5 t6 t7 t8 t9 t10 t11 t12 t13 t14 t15
def lX(h:Hp)(a:Addr)(t0 t1 t2 t3:Int)(t4:Sl)(K:HP):Prop:=
 St h a (ah t0) λh1=>St h1 (a.add 1) (ah t1) λh2=>St h2 (a.add 2) (ah t2) λh3=>St h3 (a.add 3) (ah t3) λh4=>St h4 (a.add 4) (Sl.v t4) λh5=>K h5
def jO(h:Hp)(a:Addr)(t0:BA)(t1:Bool)(t2 t3 t4 t5:Int)(t6:Sl)(K:HP):Prop:=
 St h a (.string t0) λh1=>St h1 (a.add 1) (.bool t1) λh2=>St h2 (a.add 2) (ah t2) λh3=>St h3 (a.add 3) (ah t3) λh4=>St h4 (a.add 4) (ah t4) λh5=>St h5 (a.add 5) (ah t5) λh6=>St h6 (a.add 6) (Sl.v t6) λh7=>K h7
def cV(h:Hp)(a:Addr)(t0 t1 t2:Int)(t3 t4 t5:Sl)(K:HP):Prop:=
 St h a (ah t0) λh1=>St h1 (a.add 1) (ah t1) λh2=>St h2 (a.add 2) (ah t2) λh3=>St h3 (a.add 3) (Sl.v t3) λh4=>St h4 (a.add 4) (Sl.v t4) λh5=>St h5 (a.add 5) (Sl.v t5) λh6=>K h6
def dW(h:Hp)(a:Addr)(t0:Int)(t1:Sl)(t2:Int)(K:HP):Prop:=
 St h a (ah t0) λh1=>St h1 (a.add 1) (Sl.v t1) λh2=>St h2 (a.add 2) (ah t2) λh3=>K h3
def dH(h:Hp)(a:Addr)(t0:Bool)(t1:Int)(t2:BA)(t3:Sl)(K:HP):Prop:=
 St h a (.bool t0) λh1=>St h1 (a.add 1) (ah t1) λh2=>St h2 (a.add 2) (.string t2) λh3=>St h3 (a.add 3) (Sl.v t3) λh4=>K h4
def sH(h:Hp)(a:Addr)(t0:Sl)(t1:Int)(t2:PA)(K:HP):Prop:=
 St h a (Sl.v t0) λh1=>St h1 (a.add 1) (ah t1) λh2=>St h2 (a.add 2) (.pointer t2) λh3=>K h3
def yO(h:Hp)(a:Addr)(t0:Sl)(t1:BA)(t2:Bool)(t3 t4 t5 t6:Int)(t7 t8:Sl)(t9:Bool)(K:HP):Prop:=
 St h a (Sl.v t0) λh1=>St h1 (a.add 1) (.string t1) λh2=>St h2 (a.add 2) (.bool t2) λh3=>St h3 (a.add 3) (ah t3) λh4=>St h4 (a.add 4) (ah t4) λh5=>St h5 (a.add 5) (ah t5) λh6=>St h6 (a.add 6) (ah t6) λh7=>St h7 (a.add 7) (Sl.v t7) λh8=>St h8 (a.add 8) (Sl.v t8) λh9=>St h9 (a.add 9) (.bool t9) λsj=>K sj
def ayy(h:Hp)(a:Addr)(t0 t1:Sl)(t2:BA)(t3:Bool)(t4 t5 t6 t7:Int)(t8:Sl)(t9:Bool)(K:HP):Prop:=
 St h a (Sl.v t0) λh1=>St h1 (a.add 1) (Sl.v t1) λh2=>St h2 (a.add 2) (.string t2) λh3=>St h3 (a.add 3) (.bool t3) λh4=>St h4 (a.add 4) (ah t4) λh5=>St h5 (a.add 5) (ah t5) λh6=>St h6 (a.add 6) (ah t6) λh7=>St h7 (a.add 7) (ah t7) λh8=>St h8 (a.add 8) (Sl.v t8) λh9=>St h9 (a.add 9) (.bool t9) λsj=>K sj
def rC(h:Hp)(a:Addr)(t0:BA)(t1:Bool)(t2 t3 t4 t5:Int)(t6:Sl)(t7 t8:Int)(t9:Sl)(t10:Int)(t11:Bool)(t12:Int)(t13:BA)(t14:Sl)(t15:Bool)(K:HP):Prop:=
 St h a (.string t0) λh1=>St h1 (a.add 1) (.bool t1) λh2=>St h2 (a.add 2) (ah t2) λh3=>St h3 (a.add 3) (ah t3) λh4=>St h4 (a.add 4) (ah t4) λh5=>St h5 (a.add 5) (ah t5) λh6=>St h6 (a.add 6) (Sl.v t6) λh7=>St h7 (a.add 7) (ah t7) λh8=>St h8 (a.add 8) (ah t8) λh9=>St h9 (a.add 9) (Sl.v t9) λsj=>St sj (a.add 10) (ah t10) λBw=>St Bw (a.add 11) (.bool t11) λxV=>St xV (a.add 12) (ah t12) λh13=>St h13 (a.add 13) (.string t13) λxU=>St xU (a.add 14) (Sl.v t14) λh15=>St h15 (a.add 15) (.bool t15) λDA=>K DA
abbrev wv{R:Type}(k:Value->R)(t0 t1 t2 t3:Int)(t4:Sl):R:=k (.agg #[(ah t0),(ah t1),(ah t2),(ah t3),(Sl.v t4)])
abbrev fZ{R:Type}(k:Value->R)(t0:BA)(t1:Bool)(t2 t3 t4 t5:Int)(t6:Sl):R:=k (.agg #[(.string t0),(.bool t1),(ah t2),(ah t3),(ah t4),(ah t5),(Sl.v t6)])
abbrev mq{R:Type}(k:Value->R)(t0 t1 t2:Int)(t3 t4 t5:Sl):R:=k (.agg #[(ah t0),(ah t1),(ah t2),(Sl.v t3),(Sl.v t4),(Sl.v t5)])
abbrev iO{R:Type}(k:Value->R)(t0:Bool)(t1:Int)(t2:BA)(t3:Sl):R:=k (.agg #[(.bool t0),(ah t1),(.string t2),(Sl.v t3)])
abbrev BN{R:Type}(k:Value->R)(t0:Sl)(t1:Int)(t2:PA):R:=k (.agg #[(Sl.v t0),(ah t1),(.pointer t2)])
abbrev axg{R:Type}(k:Value->R)(t0 t1:Sl)(t2:BA)(t3:Bool)(t4 t5 t6 t7:Int)(t8:Sl)(t9:Bool):R:=k (.agg #[(Sl.v t0),(Sl.v t1),(.string t2),(.bool t3),(ah t4),(ah t5),(ah t6),(ah t7),(Sl.v t8),(.bool t9)])
abbrev bF:=Bool->HP
abbrev dy:Rs:=[(false,[.b])]
abbrev fY(i:FuncId)(l:bg)(h:Hp)(K:bF)(Kp:PK):Prop:=dP aD i l h (xQ dy K) Kp
abbrev pR:=Int->Sl->Int->Int->HP
abbrev Db:Rs:=[(true,[tI,.s]),(false,[tI]),(false,[tI])]
abbrev Mk:=Int->Int->Int->Sl->Sl->Sl->Int->Int->HP
abbrev PO:Rs:=[(true,[tI,tI,tI,.s,.s,.s]),(false,[tI]),(false,[tI])]
abbrev fR2(i:FuncId)(l:bg)(h:Hp)(K:Mk)(Kp:PK):Prop:=dP aD i l h (xQ PO K) Kp
abbrev iS:=Int->Sl->Int->HP
abbrev nP:Rs:=[(true,[tI,.s,tI])]
abbrev xX(i:FuncId)(l:bg)(h:Hp)(K:iS)(Kp:PK):Prop:=dP aD i l h (xQ nP K) Kp
abbrev TR4:=PA->Int->HP
abbrev qR4:Rs:=[(false,[.p]),(false,[tI])]
abbrev fR4(i:FuncId)(l:bg)(h:Hp)(K:TR4)(Kp:PK):Prop:=dP aD i l h (xQ qR4 K) Kp
abbrev bQ:=Int->HP
abbrev dr:Rs:=[(false,[tI])]
abbrev eX(i:FuncId)(l:bg)(h:Hp)(K:bQ)(Kp:PK):Prop:=dP aD i l h (xQ dr K) Kp
abbrev VC:=Int->Int->Int->Sl->Sl->Sl->Int->HP
abbrev PM:Rs:=[(true,[tI,tI,tI,.s,.s,.s]),(false,[tI])]
abbrev fR6(i:FuncId)(l:bg)(h:Hp)(K:VC)(Kp:PK):Prop:=dP aD i l h (xQ PM K) Kp
abbrev Cm:=PA->HP
abbrev JJ:Rs:=[(false,[.p])]
abbrev fR7(i:FuncId)(l:bg)(h:Hp)(K:Cm)(Kp:PK):Prop:=dP aD i l h (xQ JJ K) Kp
abbrev jM:=Int->Int->Int->Sl->Sl->Sl->HP
abbrev mg:Rs:=[(true,[tI,tI,tI,.s,.s,.s])]
abbrev tC(i:FuncId)(l:bg)(h:Hp)(K:jM)(Kp:PK):Prop:=dP aD i l h (xQ mg K) Kp
abbrev Ck:=Value->HP
abbrev A8:Rs:=[(false,[.a (.nilFunc)])]
abbrev sk(i:FuncId)(l:bg)(h:Hp)(K:Ck)(Kp:PK):Prop:=dP aD i l h (xQ A8 K) Kp
abbrev Ev:=BA->Bool->Int->Int->Int->Int->Sl->HP
abbrev Da:Rs:=[(true,[.t,.b,tI,tI,tI,tI,.s])]
abbrev KN(i:FuncId)(l:bg)(h:Hp)(K:Ev)(Kp:PK):Prop:=dP aD i l h (xQ Da K) Kp
abbrev An:=Value->HP
abbrev FL:Rs:=[(false,[.a (.nilIface)])]
abbrev adf(i:FuncId)(l:bg)(h:Hp)(K:An)(Kp:PK):Prop:=dP aD i l h (xQ FL K) Kp
abbrev gz:=Sl->HP
abbrev gS:Rs:=[(false,[.s])]
abbrev mj(i:FuncId)(l:bg)(h:Hp)(K:gz)(Kp:PK):Prop:=dP aD i l h (xQ gS K) Kp
abbrev VG:=PA->Int->Sl->Int->HP
abbrev PU:Rs:=[(false,[.p]),(true,[tI,.s,tI])]
abbrev auQ(i:FuncId)(l:bg)(h:Hp)(K:VG)(Kp:PK):Prop:=dP aD i l h (xQ PU K) Kp
abbrev iZ:=HP
abbrev kJ:Rs:=[]
abbrev qR(i:FuncId)(l:bg)(h:Hp)(K:iZ)(Kp:PK):Prop:=dP aD i l h (xQ kJ K) Kp
abbrev afM:=BA->Bool->Int->Int->Int->Int->Sl->Int->Int->Sl->Int->Bool->Int->BA->Sl->Bool->HP
abbrev aaC:Rs:=[(true,[.t,.b,tI,tI,tI,tI,.s,tI,tI,.s,tI,.b,tI,.t,.s,.b])]
abbrev auP(i:FuncId)(l:bg)(h:Hp)(K:afM)(Kp:PK):Prop:=dP aD i l h (xQ aaC K) Kp
abbrev VE:=Bool->Int->BA->Sl->Int->HP
abbrev PS:Rs:=[(true,[.b,tI,.t,.s]),(false,[tI])]
abbrev ade(i:FuncId)(l:bg)(h:Hp)(K:VE)(Kp:PK):Prop:=dP aD i l h (xQ PS K) Kp
abbrev Am:=Int->Sl->Int->Sl->HP
abbrev PR:Rs:=[(true,[tI,.s,tI]),(false,[.s])]
abbrev auO(i:FuncId)(l:bg)(h:Hp)(K:Am)(Kp:PK):Prop:=dP aD i l h (xQ PR K) Kp
abbrev ayw:=Bool->Int->BA->Sl->Int->Int->HP
abbrev ao6:Rs:=[(true,[.b,tI,.t,.s]),(false,[tI]),(false,[tI])]
abbrev auN(i:FuncId)(l:bg)(h:Hp)(K:ayw)(Kp:PK):Prop:=dP aD i l h (xQ ao6 K) Kp
abbrev qx:=Bool->Int->BA->Sl->HP
abbrev uw:Rs:=[(true,[.b,tI,.t,.s])]
abbrev GM(i:FuncId)(l:bg)(h:Hp)(K:qx)(Kp:PK):Prop:=dP aD i l h (xQ uw K) Kp
abbrev ayv:=BA->HP
abbrev ao5:Rs:=[(false,[.t])]
abbrev auL(i:FuncId)(l:bg)(h:Hp)(K:ayv)(Kp:PK):Prop:=dP aD i l h (xQ ao5 K) Kp
abbrev Eu:=Int->HP
abbrev C9:Rs:=[(false,[.i .u64])]
abbrev Tv(i:FuncId)(l:bg)(h:Hp)(K:Eu)(Kp:PK):Prop:=dP aD i l h (xQ C9 K) Kp
abbrev afL:=Int->Bool->HP
abbrev aaB:Rs:=[(false,[tI]),(false,[.b])]
abbrev auK(i:FuncId)(l:bg)(h:Hp)(K:afL)(Kp:PK):Prop:=dP aD i l h (xQ aaB K) Kp
abbrev VD:=Int->Int->Int->HP
abbrev PN:Rs:=[(false,[tI]),(false,[tI]),(false,[tI])]
abbrev auJ(i:FuncId)(l:bg)(h:Hp)(K:VD)(Kp:PK):Prop:=dP aD i l h (xQ PN K) Kp
abbrev afK:=Bool->Int->HP
abbrev aaA:Rs:=[(false,[.b]),(false,[tI])]
abbrev auI(i:FuncId)(l:bg)(h:Hp)(K:afK)(Kp:PK):Prop:=dP aD i l h (xQ aaA K) Kp
abbrev Mj:=Sl->Int->PA->HP
abbrev JK:Rs:=[(true,[.s,tI,.p])]
abbrev Tu(i:FuncId)(l:bg)(h:Hp)(K:Mj)(Kp:PK):Prop:=dP aD i l h (xQ JK K) Kp
abbrev afJ:=Int->Int->HP
abbrev aaz:Rs:=[(false,[.i .u8]),(false,[tI])]
abbrev auH(i:FuncId)(l:bg)(h:Hp)(K:afJ)(Kp:PK):Prop:=dP aD i l h (xQ aaz K) Kp
abbrev afI:=Int->Int->HP
abbrev aay:Rs:=[(false,[tI]),(false,[tI])]
abbrev auG(i:FuncId)(l:bg)(h:Hp)(K:afI)(Kp:PK):Prop:=dP aD i l h (xQ aay K) Kp
abbrev afH:=BA->Int->HP
abbrev aax:Rs:=[(false,[.t]),(false,[tI])]
abbrev auF(i:FuncId)(l:bg)(h:Hp)(K:afH)(Kp:PK):Prop:=dP aD i l h (xQ aax K) Kp
abbrev afG:=Int->Int->HP
abbrev aaw:Rs:=[(false,[.i .u64]),(false,[tI])]
abbrev auE(i:FuncId)(l:bg)(h:Hp)(K:afG)(Kp:PK):Prop:=dP aD i l h (xQ aaw K) Kp
def aju(sR sQ rows:Sl)(h:Hp)(K:bF)(Kp:PK):=dP aD 3 [(.agg #[(Sl.v sR),(Sl.v sQ)]),(Sl.v rows)] h (xQ dy K) Kp
def XP:=fY 4 []
def XL(sR sQ rows:Sl)(h:Hp)(K:pR)(Kp:PK):=dP aD 5 [(.agg #[(Sl.v sR),(Sl.v sQ)]),(Sl.v rows)] h (xQ Db K) Kp
def XK(sR sQ rows:Sl)(h:Hp)(K:pR)(Kp:PK):=dP aD 6 [(.agg #[(Sl.v sR),(Sl.v sQ)]),(Sl.v rows)] h (xQ Db K) Kp
def ajt(a_0:Int)(a_1:Sl)(b_0:Int)(b_1:Sl)(h:Hp)(K:bF)(Kp:PK):=dP aD 7 [(.agg #[(ah a_0),(Sl.v a_1)]),(.agg #[(ah b_0),(Sl.v b_1)])] h (xQ dy K) Kp
def AH:=fZ λa=>cS λb=>fR2 8 [a,b]
def XM:=fZ λa=>mq λb=>fY 9 [a,b]
def Oy(sR sQ:Sl)(h:Hp)(K:iS)(Kp:PK):=dP aD 10 [(.agg #[(Sl.v sR),(Sl.v sQ)])] h (xQ nP K) Kp
def Ot:=fZ λa=>fR4 11 [a]
def Oq:=cP λa=>iO λb=>eX 12 [a,b]
def Oo:=cP λa=>fR6 13 [a]
def Oz(sR sQ:Sl)(h:Hp)(K:iS)(Kp:PK):=dP aD 14 [(.agg #[(Sl.v sR),(Sl.v sQ)])] h (xQ nP K) Kp
def Om:=fZ λa=>fR7 15 [a]
def XJ:=cP λa=>iO λb=>eX 16 [a,b]
def Ol:=cP λa=>tC 17 [a]
def IP:=cS λa=>cS λb=>fY 18 [a,b]
def XN:=fZ λa=>mq λb=>fR6 19 [a,b]
def On:=mq λa=>mq λb=>fY 20 [a,b]
def ajz:=cS λa=>cI λb=>sk 21 [a,b]
def Yh:=axg λa=>cI λb=>cM λc=>eX 22 [a,b,c]
def IN:=fZ λa=>fY 23 [a]
def Ok:=fZ λa=>KN 24 [a]
def Oj:=fZ λa=>adf 25 [a]
def XI:=fZ λa=>iO λb=>eX 26 [a,b]
def XH:=cP λa=>iO λb=>eX 27 [a,b]
def EP:=cS λa=>cS λb=>cB λc=>cS λd=>mj 28 [a,b,c,d]
def Yj:=cS λa=>cI λb=>eX 29 [a,b]
def XG:=fZ λa=>iO λb=>fY 30 [a,b]
def um:=cP λa=>iO λb=>eX 31 [a,b]
def Oi:=cS λa=>mj 32 [a]
def sK:=cS λa=>cI λb=>mj 33 [a,b]
def IL:=cI λa=>eX 34 [a]
def XO:=mq λa=>mq λb=>fY 35 [a,b]
def Ys:=fZ λa=>mq λb=>auQ 36 [a,b]
def Ow:=cP λa=>mj 37 [a]
def Xh:=cS λa=>cS λb=>cA λc=>fY 38 [a,b,c]
def aiZ:=cS λa=>cS λb=>fY 39 [a,b]
def NO:=cS λa=>cS λb=>cA λc=>fY 40 [a,b,c]
def aFM:=cA λa=>cD λb=>cD λc=>qR 41 [a,b,c]
def ajx:=cS λa=>cS λb=>cB λc=>cD λd=>cD λe=>cD λf=>fY 42 [a,b,c,d,e,f]
def XT:=cS λa=>mj 43 [a]
def X7:=cT λa=>fY 44 [a]
def XS:=cS λa=>cA λb=>fY 45 [a,b]
def aFI:=fZ λa=>cD λb=>fY 46 [a,b]
def X6:=wv λa=>fY 47 [a]
def X5:=fZ λa=>fY 48 [a]
def EK:=fZ λa=>xX 49 [a]
def XF:=fZ λa=>auP 50 [a]
def IK:=fZ λa=>fY 51 [a]
def XE:=fZ λa=>iO λb=>fY 52 [a,b]
def Ya:=cT λa=>fY 54 [a]
def X9:=wv λa=>fY 55 [a]
def X8:=fZ λa=>fY 56 [a]
def IM:=iO λa=>cI λb=>eX 57 [a,b]
def AG:=fZ λa=>iO λb=>fY 58 [a,b]
def Oh:=cP λa=>iO λb=>eX 59 [a,b]
def EN:=cS λa=>cI λb=>cI λc=>mj 60 [a,b,c]
def Xg:=fZ λa=>mq λb=>xX 61 [a,b]
def Xf:=fZ λa=>mq λb=>cP λc=>fR7 62 [a,b,c]
def NM:=fZ λa=>KN 63 [a]
def NL:=mq λa=>tC 64 [a]
def aiX:=cP λa=>sk 65 [a]
def XZ(c:Int)(h:Hp)(K:bF)(Kp:PK):=dP aD 66 [(.int .u8 c)] h (xQ dy K) Kp
def ajv:=cS λa=>cA λb=>eX 67 [a,b]
def Ov:=cI λa=>fY 68 [a]
def XD:=fZ λa=>ade 69 [a]
def AF:=cP λa=>fZ λb=>iO λc=>fY 70 [a,b,c]
def X0(c:Int)(h:Hp)(K:bF)(Kp:PK):=dP aD 71 [(.int .u8 c)] h (xQ dy K) Kp
def Og:=fZ λa=>fY 72 [a]
def XA:=cI λa=>fY 73 [a]
def Xz:=cI λa=>cI λb=>fY 74 [a,b]
def Yr:=cT λa=>fY 75 [a]
def Xy:=wv λa=>iO λb=>fY 76 [a,b]
def Xx:=cP λa=>iO λb=>eX 77 [a,b]
def Of:=cP λa=>eX 78 [a]
def ajs:=cP λa=>iO λb=>eX 79 [a,b]
def nB:=cI λa=>cI λb=>xX 80 [a,b]
def ES:=fZ λa=>mq λb=>auO 81 [a,b]
def Yw:=cI λa=>adf 82 [a]
def ajw:=cS λa=>mj 83 [a]
def XU:=cS λa=>mj 84 [a]
def OD:=cS λa=>mj 85 [a]
def aGr:=cA λa=>cD λb=>qR 86 [a,b]
def Xd:=cP λa=>cI λb=>auN 87 [a,b]
def yZ:=fZ λa=>eX 88 [a]
def yY:=fZ λa=>GM 89 [a]
def II:=fZ λa=>fY 90 [a]
def Xw:=cP λa=>wv λb=>cS λc=>fY 91 [a,b,c]
def XQ:=cT λa=>fY 92 [a]
def Xv:=cI λa=>fY 93 [a]
def Xu:=cI λa=>cI λb=>fY 94 [a,b]
def Yi:=cT λa=>cI λb=>eX 95 [a,b]
def IJ:=iO λa=>iO λb=>fY 96 [a,b]
def uk:=cP λa=>eX 97 [a]
def Oe:=cI λa=>eX 98 [a]
def Yq:=fZ λa=>mq λb=>xX 99 [a,b]
def Yp:=fZ λa=>mq λb=>xX 100 [a,b]
def Yu:=mq λa=>mj 101 [a]
def ajA:=fZ λa=>cI λb=>KN 102 [a,b]
def aGc:=mq λa=>xX 103 [a]
def Yo:=fZ λa=>mq λb=>cS λc=>mj 104 [a,b,c]
def Yv:=cP λa=>cI λb=>cP λc=>GM 106 [a,b,c]
def aiY:=cT λa=>cI λb=>auL 107 [a,b]
def xe:=cT λa=>Tv 108 [a]
def ajp:=cI λa=>auK 109 [a]
def za:=fZ λa=>eX 110 [a]
def XC:=fZ λa=>ade 111 [a]
def Yg:=wv λa=>auJ 112 [a]
def Yf:=wv λa=>cI λb=>cI λc=>cI λd=>eX 113 [a,b,c,d]
def Ye:=fZ λa=>mq λb=>xX 114 [a,b]
def aFV:=fZ λa=>mq λb=>xX 115 [a,b]
def IT:=cS λa=>cI λb=>eX 116 [a,b]
def OC:=fZ λa=>mq λb=>cI λc=>fY 117 [a,b,c]
def aFU:=fZ λa=>mq λb=>cI λc=>eX 118 [a,b,c]
def ajy:=cS λa=>cI λb=>cI λc=>mj 119 [a,b,c]
def Ym:=cP λa=>cI λb=>cP λc=>GM 120 [a,b,c]
def Xt:=fZ λa=>fY 127 [a]
def CE:=fZ λa=>cI λb=>eX 128 [a,b]
def CD:=fZ λa=>GM 129 [a]
def IQ:=wv λa=>fY 130 [a]
def X4:=wv λa=>mj 131 [a]
def X3:=cI λa=>eX 132 [a]
def X2:=wv λa=>eX 133 [a]
def Xe:=fZ λa=>mq λb=>eX 134 [a,b]
def OB:=cI λa=>fY 136 [a]
def Yn:=cS λa=>cI λb=>auI 137 [a,b]
def X1:=cI λa=>eX 138 [a]
def NK:=cP λa=>cI λb=>fY 139 [a,b]
def IS:=cP λa=>cI λb=>qR 140 [a,b]
def Xc:=fZ λa=>xX 146 [a]
def XY:=wv λa=>KN 147 [a]
def Ou:=cS λa=>mj 148 [a]
def Yd:=cS λa=>cI λb=>fY 150 [a,b]
def AI:=cP λa=>cI λb=>Tu 151 [a,b]
def OA:=BN λa=>cI λb=>auH 152 [a,b]
def XR:=cS λa=>mj 155 [a]
def Yl:=cS λa=>Tu 156 [a]
def Yk:=BN λa=>cP λb=>Tu 157 [a,b]
def IV:=BN λa=>cI λb=>cI λc=>fY 158 [a,b,c]
def IU:=BN λa=>cI λb=>cI λc=>mj 159 [a,b,c]
def ajo:=cP λa=>eX 178 [a]
def ajn:=cP λa=>tC 179 [a]
def ajm:=cP λa=>sk 180 [a]
def Od:=cP λa=>iO λb=>eX 181 [a,b]
def ajl:=cP λa=>eX 182 [a]
def Xs:=cP λa=>eX 183 [a]
def iB:=cP λa=>cS λb=>tC 184 [a,b]
def uj:=cP λa=>sk 185 [a]
def oO:=cP λa=>cB λb=>eX 186 [a,b]
def nC:=cP λa=>cI λb=>eX 187 [a,b]
def ajk:=cD λa=>cD λb=>cD λc=>qR 188 [a,b,c]
def ajj:=cP λa=>tC 189 [a]
def Oc:=cP λa=>sk 190 [a]
def Ob:=cP λa=>iO λb=>eX 191 [a,b]
def Xr:=cP λa=>eX 192 [a]
def uh:=cP λa=>mj 193 [a]
def qC:=cS λa=>cI λb=>mj 194 [a,b]
def EL:=cS λa=>mj 195 [a]
def aji:=cD λa=>cD λb=>cD λc=>cD λd=>qR 196 [a,b,c,d]
def ajh:=cP λa=>tC 197 [a]
def Oa:=cP λa=>sk 198 [a]
def N9:=cP λa=>iO λb=>eX 199 [a,b]
def Xq:=cP λa=>eX 200 [a]
def ajg:=cD λa=>cD λb=>cD λc=>cD λd=>qR 201 [a,b,c,d]
def ajf:=cP λa=>tC 202 [a]
def N8:=cP λa=>sk 203 [a]
def N7:=cP λa=>iO λb=>eX 204 [a,b]
def Xp:=cP λa=>eX 205 [a]
def aje:=cD λa=>cD λb=>qR 206 [a,b]
def ajd:=cP λa=>tC 207 [a]
def N6:=cP λa=>sk 208 [a]
def N5:=cP λa=>iO λb=>eX 209 [a,b]
def Xo:=cP λa=>eX 210 [a]
def N4:=cS λa=>mj 211 [a]
def N0:=cS λa=>sk 212 [a]
def ajc:=cD λa=>cD λb=>qR 213 [a,b]
def EM:=cS λa=>eX 214 [a]
def ajb:=cD λa=>qR 215 [a]
def aja:=cP λa=>tC 216 [a]
def NZ:=cP λa=>sk 217 [a]
def NY:=cP λa=>iO λb=>eX 218 [a,b]
def Xn:=cP λa=>eX 219 [a]
def ai9:=cD λa=>cD λb=>cD λc=>cD λd=>qR 220 [a,b,c,d]
def NX:=cP λa=>cI λb=>cA λc=>eX 221 [a,b,c]
def ai8:=cA λa=>cD λb=>eX 222 [a,b]
def ai7:=cP λa=>tC 223 [a]
def NW:=cP λa=>sk 224 [a]
def NV:=cP λa=>iO λb=>eX 225 [a,b]
def Xm:=cP λa=>eX 226 [a]
def CC:=cI λa=>eX 227 [a]
def ai5:=cD λa=>cD λb=>cD λc=>cD λd=>cD λe=>qR 228 [a,b,c,d,e]
def IG:=iO λa=>Tv 229 [a]
def Xl:=cP λa=>iO λb=>eX 230 [a,b]
def NU:=cP λa=>eX 231 [a]
def AB:=iO λa=>GM 232 [a]
def EO:=iO λa=>eX 233 [a]
def NT:=cP λa=>iO λb=>qR 234 [a,b]
def IF:=iO λa=>iO λb=>fY 235 [a,b]
def IE(hv:PA)(c:Int)(h:Hp)(K:iZ)(Kp:PK):=dP aD 236 [(.pointer hv),(.int .u8 c)] h (xQ kJ K) Kp
def ID(hv:PA)(x:Int)(h:Hp)(K:iZ)(Kp:PK):=dP aD 237 [(.pointer hv),(.int .u64 x)] h (xQ kJ K) Kp
def ai4:=cP λa=>tC 238 [a]
def NS:=cP λa=>sk 239 [a]
def NR:=cP λa=>iO λb=>eX 240 [a,b]
def Xk:=cP λa=>eX 241 [a]
def ai3:=cD λa=>cD λb=>cD λc=>cD λd=>cD λe=>cD λf=>qR 242 [a,b,c,d,e,f]
def ai2:=cP λa=>tC 243 [a]
def NQ:=cP λa=>sk 244 [a]
def NP:=cP λa=>iO λb=>eX 245 [a,b]
def ai1:=cP λa=>eX 246 [a]
def Xj:=cS λa=>cI λb=>mj 247 [a,b]
def ai0:=cD λa=>cD λb=>cD λc=>qR 248 [a,b,c]
def XX:=BN λa=>cI λb=>cI λc=>auF 252 [a,b,c]
def Yt:=BN λa=>cI λb=>cI λc=>auG 253 [a,b,c]
def ER:=BN λa=>cI λb=>cI λc=>auE 254 [a,b,c]
def Yc:=cI λa=>fY 255 [a]
def Yb:=cS λa=>Tv 256 [a]
def XW:=cP λa=>cI λb=>cI λc=>eX 263 [a,b,c]
def XV(a:PA)(r:Int)(left:PA)(h:Hp)(K:qx)(Kp:PK):=dP aD 266 [(.agg #[]),(.pointer a),(ah r),(.pointer left)] h (xQ uw K) Kp
section
variable{a b c d e f g i j k l m ja jb jc jd je jg jh jk:Int}{n o p q r s t u v w qa qb qc qd qe qf qg qh:Addr}{A B C D E F G sa sb sc sd se sf sg sh:Sl}{P Q R S T U:PA}{x y z ya yb yc yd ye yf:Bool}{V W X wa wb wc wd we wf:BA}{Y Z va vb vc vd ve vf:Value}{M O:Option Nat}{h:Hp}{Kp:PK}{N1 N2 N3:Fr->HP}
def aep:=mc aD Tryz.f3 (am [(45008,17179869472)]) [] dy
def Wz:=rK aep 0 62 [.d,.d,.b]
theorem aB9{K:bF}(H:If x (Ld h n mI λa=>Ld h (n.add 1) Sl.v λb=>Ld h o mI λc=>Ld h (o.add 1) Sl.v λd=>ajt a b c d h (λa b=>K a b) Kp) (K false h)):Wz K Kp n o x h:=jf H
theorem aFi{K:bF}(H:aH h #[(Sl.v A),(Sl.v B)] H7 λa b=>XP  b (λb c=>If (!b) (K false c) (Ld c a Sl.v λb=>Ld c (a.add 1) Sl.v λd=>XL b d C c (λb c d e f=>aH f #[(ah 0),(.slice none 0 0)] ry λf g=>St g f (ah b) λb=>St b (f.add 1) (Sl.v c) λb=>Ld b a Sl.v λc=>Ld b (a.add 1) Sl.v λa=>XK c a C b (λa b c g i=>aH i #[(ah 0),(.slice none 0 0)] ry λi j=>St j i (ah a) λa=>St a (i.add 1) (Sl.v b) λa=>If (d==c) (Wz K Kp f i (e==g) a) (Wz K Kp f i false a)) Kp) Kp)) Kp):aju A B C h K Kp:=cF (aep K Kp) dy K Tryz.func3 H
def wA:=mc aD Tryz.f4 (am [(2000003,14),(2000004,206),(44007,17179869382),(44012,549755814086),(44018,35184372089030),(44026,9007199254741190),(44034,2305843009213694150),(44038,36893488147419103366),(44042,590295810358705651718)]) [] dy
def Wq:=rK wA 8 62 [.d,.d,.b]
def Wt:=rK wA 7 62 [.d,.d,tI,.b]
def Wu:=rK wA 6 62 [.d,.d,tI,tI,.b]
def Wv:=rK wA 5 62 [.d,.d,tI,tI,.b]
def Ww:=rK wA 4 62 [.d,.d,tI,tI,.b]
def Wx:=rK wA 3 62 [.d,.d,tI,tI,.b]
def Wy:=rK wA 2 62 [.d,.d,tI,tI,.b]
def air:=jK wA 1 31 [.d,.d,tI,tI,tI]
def ais:=jK wA 0 15 [.d,.d,tI]
theorem aB0{K:bF}(H:If x (bN h n λa b c d e f g=>cr h o λi j k l m n=>XM a b c d e f g i j k l m n h (λa b=>K a b) Kp) (K false h)):Wq K Kp n o x h:=jf H
theorem aB1{K:bF}(H:If x (Wq K Kp n o (a==1) h) (Wq K Kp n o false h)):Wt K Kp n o a x h:=jf H
theorem aB2{K:bF}(H:If x (Wt K Kp n o b (a==7) h) (Wt K Kp n o b false h)):Wu K Kp n o a b x h:=jf H
theorem aB3{K:bF}(H:If x (Ld h (o.add 3) Sl.v λc=>Ix c.a c.n 1 1 λc=>Ld h c Sl.v λc=>sM h c λc=>Wu K Kp n o a b (c.toList==(bs [254,255,0,0]).toList) h) (Wu K Kp n o a b false h)):Wv K Kp n o a b x h:=jf H
theorem aB4{K:bF}(H:If x (Ld h (o.add 3) Sl.v λc=>Ix c.a c.n 1 0 λc=>Ld h c Sl.v λc=>sM h c λc=>Wv K Kp n o a b (c.toList==(bs [1]).toList) h) (Wv K Kp n o a b false h)):Ww K Kp n o a b x h:=jf H
theorem aB5{K:bF}(H:If x (Ld h (o.add 3) Sl.v λc=>Ww K Kp n o a b ((c.n:Int)==2) h) (Ww K Kp n o a b false h)):Wx K Kp n o a b x h:=jf H
theorem aB6{K:bF}(H:If x (Ld h (o.add 2) mI λc=>Wx K Kp n o a b (c==1) h) (Wx K Kp n o a b false h)):Wy K Kp n o a b x h:=jf H
theorem aB7{K:bF}(H:If (a==0) (Ld h o mI λa=>Wy K Kp n o b c (a==2) h) (Wy K Kp n o b c false h)):air K Kp n o a b c h:=jf H
theorem aB8{K:bF}(H:bN h n λb c d e f g i=>aH h #[(.bool false),(ah 1),(.string (bs [])),(.slice none 0 0),(.bool false),(ah 40000),(.string (bs [])),(.slice none 0 0)] dh λj k=>AH b c d e f g i (⟨some j,2,2⟩:Sl) k (λb c d e f g i j k=>aH k cY bX λk l=>cV l k b c d e f g λb=>air K Kp n o a i j b) Kp):ais K Kp n o a h:=jf H
theorem aFh{K:bF}(H:aH h mK iz λa b=>jO b a (bs [97]) true 4 0 0 0 bT λb=>bN b a λc d e f g i j=>aH b #[(.bool false),(ah (-2)),(.string (bs [])),(.slice none 0 0),(.bool true),(ah 0),(.string (bs [])),(.slice none 0 0)] dh λb k=>AH c d e f g i j (⟨some b,2,2⟩:Sl) k (λb c d e f g i _ j=>aH j cY bX λj k=>cV k j b c d e f g λb=>ais K Kp a j i b) Kp):XP  h K Kp:=cF (wA K Kp) dy K Tryz.func4 H
def BQ:=mc aD Tryz.f5 (am [(2000009,146),(2000024,146),(2026,4332790137498830962146967568),(2010,492581209243794),(2017,516509326645076690066),(2005,7516192914)]) [] Db
def Ru:=fK 108 [4,15,89,90,91] [.d,.d,.s,tI,tI]
def agX:=lK BQ 2026 1018 Ru
def aim:=jK BQ 1 63 [.s,.d,.s]
def Rt:=fK 108 [1,4,7,46,47,48] [.s,.d,.s,.s,tI,tI]
def Rr:=fK 108 [1,4,7,10,46,47,48,66,67,68] [.s,.d,.s,tI,.s,tI,tI,.s,tI,tI]
def agV:=zH BQ 2017 128206 Rr
def agW:=lK BQ 2010 250 Rt
def ain:=jK BQ 0 31 [.s,.d,.s]
def Rq:=fK 108 [1,4,7,30,31,32] [.s,.d,.s,.s,tI,tI]
def agU:=lK BQ 2005 122 Rq
theorem az4{K:pR}:eH (A0:=Int) (agX K Kp n o A a) (Ru n o A a) λb c d=>(aS (c<a) (Ix A.a A.n 1 c λe=>Ld d e .pointer λe=>Oo e d (λd e f g i j _ k=>aH k cY bX λk l=>cV l k d e f g i j λd=>Ld d (o.add 1) Sl.v λe=>cr d k λf g i j k l=>aH d #[(ah f),(ah g),(ah i),(Sl.v j),(Sl.v k),(Sl.v l)] bX λd f=>Ap f bX cY 6 96 e 1 (rd f (some d) (1*6)) λd e=>St e (o.add 1) (Sl.v d) λd=>aO (c+1) λc=>b (Ru n o A a c) d) Kp) (Ld d o mI λa=>Ld d (o.add 1) Sl.v λb=>St d n (ah a) λa=>St a (n.add 1) (Sl.v b) λa=>Ld a n mI λb=>Ld a (n.add 1) Sl.v λc=>K b c 0 0 a)):=eI
theorem aBT{K:pR}(H:aH h #[(ah 0),(.slice none 0 0)] ry λa b=>St b a (ah (A.n:Int)) λb=>St b (a.add 1) (.slice none 0 0) λb=>agX K Kp n a B (B.n:Int) 0 b):aim K Kp A n B h:=jf H
theorem az2{K:pR}:eH (A0:=Int) (agV K Kp N1 A n B a C b c D d) (Rr A n B a C b c D d) λe f g=>(aS (f<d) (Ix D.a D.n 4 f λi=>bJ g i λi j k l=>aH g fU dh λg m=>dH m g i j k l λi=>Ix B.a B.n 1 f λj=>Ld i j .pointer λj=>bJ i g λg k l m=>Oq j g k l m i (λg i=>If (g !=0) (St i n (ah 0) λb=>St b (n.add 1) (.slice none 0 0) λb=>Ld b n mI λc=>Ld b (n.add 1) Sl.v λd=>K c d g a b) (aO (f+1) λf=>e (Rr A n B a C b c D d f) i)) Kp) (aO (c+1) λa=>N1 (Rt A n B C b a) g)):=eI
theorem az3{K:pR}:eH (A0:=Int) (agW K Kp A n B C a) (Rt A n B C a) λb c d=>(aS (c<a) (Ix C.a C.n 1 c λe=>Ld d e Sl.v λe=>aS (c>=4096) (St d n (ah 0) λa=>St a (n.add 1) (.slice none 0 0) λa=>Ld a n mI λb=>Ld a (n.add 1) Sl.v λd=>K b d 3 c a) (If ((e.n:Int)!=(B.n:Int)) (St d n (ah 0) λa=>St a (n.add 1) (.slice none 0 0) λa=>Ld a n mI λb=>Ld a (n.add 1) Sl.v λd=>K b d 110 c a) (agV K Kp b A n B c C a c e (e.n:Int) 0 d))) (aim K Kp A n B d)):=eI
theorem aBU{K:pR}(H:agW K Kp A n B A (A.n:Int) 0 h):ain K Kp A n B h:=jf H
theorem az1{K:pR}:eH (A0:=Int) (agU K Kp A n B C a) (Rq A n B C a) λb c d=>(aS (c<a) (Ix C.a C.n 7 c λe=>bN d e λe f g i j k l=>aH d mK iz λd m=>jO m d e f g i j k l λe=>bN e d λd f g i j k l=>Ot d f g i j k l e (λd _ e=>Ix B.a B.n 1 c λf=>St e f (.pointer d) λd=>aO (c+1) λc=>b (Rq A n B C a c) d) Kp) (ain K Kp A n B d)):=eI
theorem aE9{K:pR}(H:aH h #[(Sl.v A),(Sl.v B)] H7 λa b=>aH b #[(ah 0),(.slice none 0 0)] ry λb c=>Ld c a Sl.v λd=>Ld c (a.add 1) Sl.v λe=>Oy d e c (λc _ _ d=>If (c !=0) (St d b (ah 0) λa=>St a (b.add 1) (.slice none 0 0) λa=>Ld a b mI λc=>Ld a (b.add 1) Sl.v λb=>K c b 5 0 a) (Ld d a Sl.v λc=>dO d afo #[(.pointer none)] 1 8 (c.n:Int) (c.n:Int) λc d=>Ld d a Sl.v λa=>agU K Kp C b c a (a.n:Int) 0 d)) Kp):XL A B C h K Kp:=cF (BQ K Kp) Db K Tryz.func5 H
def BP:=mc aD Tryz.f6 (am [(2000008,146),(2000021,146),(2023,12432),(2009,658),(2016,1682),(2005,406)]) [] Db
def Rp:=fK 99 [4,7,12,13] [.d,.s,.d,tI]
def agT:=lK BP 2023 1018 Rp
def aik:=jK BP 1 63 [.s,.d,.s]
def Ro:=fK 99 [1,4,7,9] [.s,.d,.s,tI]
def JX:=fK 99 [1,4,7,9,10] [.s,.d,.s,tI,tI]
def agR:=zH BP 2016 64078 JX
def agS:=lK BP 2009 250 Ro
def ail:=jK BP 0 31 [.s,.d,.s]
def Rn:=fK 99 [1,2,4,7,8] [.s,.d,.d,.s,tI]
def agQ:=lK BP 2005 122 Rn
theorem az0{K:pR}:eH (A0:=Int) (agT K Kp n A o) (Rp n A o) λa b c=>(aS (b<(A.n:Int)) (Ld c (o.add 1) Sl.v λd=>Ix A.a A.n 1 b λe=>Ld c e .pointer λe=>Ol e c (λe f g i j k l=>aU c l (o.add 1) 1 <|aH l #[(ah e),(ah f),(ah g),(Sl.v i),(Sl.v j),(Sl.v k)] bX λc e=>aU l e (o.add 1) 1 <|Ap e bX cY 6 96 d 1 (rd e (some c) (1*6)) λc d=>St d (o.add 1) (Sl.v c) λc=>aO (b+1) λb=>a (Rp n A o b) c) Kp) (Ld c o mI λa=>Ld c (o.add 1) Sl.v λb=>St c n (ah a) λa=>St a (n.add 1) (Sl.v b) λa=>Ld a n mI λb=>Ld a (n.add 1) Sl.v λc=>K b c 0 0 a)):=eI
theorem aBR{K:pR}(H:aH h #[(ah 0),(.slice none 0 0)] ry λa b=>St b a (ah (A.n:Int)) λb=>St b (a.add 1) (.slice none 0 0) λb=>agT K Kp n B a 0 b):aik K Kp A n B h:=jf H
theorem azY{K:pR}:eH (A0:=Int) (agR K Kp N1 A n B a) (JX A n B a) λb c d=>(aS (c<(B.n:Int)) (Ix B.a B.n 1 c λe=>Ld d e .pointer λe=>Ix A.a A.n 1 a λf=>Ld d f Sl.v λf=>Ix f.a f.n 4 c λf=>bJ d f λf g i j=>XJ e f g i j d (λd e=>If (d !=0) (St e n (ah 0) λb=>St b (n.add 1) (.slice none 0 0) λb=>Ld b n mI λc=>Ld b (n.add 1) Sl.v λe=>K c e d a b) (aO (c+1) λc=>b (JX A n B a c) e)) Kp) (aO (a+1) λa=>N1 (Ro A n B a) d)):=eI
theorem azZ{K:pR}:eH (A0:=Int) (agS K Kp A n B) (Ro A n B) λa b c=>(aS (b<(A.n:Int)) (aS (b>=4096) (St c n (ah 0) λa=>St a (n.add 1) (.slice none 0 0) λa=>Ld a n mI λc=>Ld a (n.add 1) Sl.v λd=>K c d 3 b a) (Ix A.a A.n 1 b λd=>Ld c d Sl.v λd=>If ((d.n:Int)!=(B.n:Int)) (St c n (ah 0) λa=>St a (n.add 1) (.slice none 0 0) λa=>Ld a n mI λc=>Ld a (n.add 1) Sl.v λd=>K c d 110 b a) (agR K Kp a A n B b 0 c))) (aik K Kp A n B c)):=eI
theorem aBS{K:pR}(H:agS K Kp A n B 0 h):ail K Kp A n B h:=jf H
theorem azX{K:pR}:jB (A0:=Sl) (A1:=Int) (agQ K Kp A n o) (Rn A n o) λa b c d=>(Ld d n Sl.v λe=>aS (c<(e.n:Int)) (Ld d n Sl.v λe=>Ix e.a e.n 7 c λe=>bN d e λe f g i j k l=>Om e f g i j k l d (λd e=>aH e #[(.pointer d)] vh λd e=>Ap e vh #[(.pointer none)] 1 8 b 1 (rd e (some d) (1*1)) λb d=>aO (c+1) λc=>a (Rn A n o b c) d) Kp) (ail K Kp A o b d)):=jD
theorem aE8{K:pR}(H:aH h #[(Sl.v A),(Sl.v B)] H7 λa b=>aH b #[(ah 0),(.slice none 0 0)] ry λb c=>Ld c a Sl.v λd=>Ld c (a.add 1) Sl.v λe=>Oz d e c (λc _ _ d=>If (c !=0) (St d b (ah 0) λa=>St a (b.add 1) (.slice none 0 0) λa=>Ld a b mI λc=>Ld a (b.add 1) Sl.v λb=>K c b 5 0 a) (aH d #[] vh λc d=>agQ K Kp C a b (⟨some c,0,0⟩:Sl) 0 d)) Kp):XK A B C h K Kp:=cF (BP K Kp) Db K Tryz.func6 H
theorem aE7{K:bF}(H:aH h #[(ah a),(Sl.v A)] ry λa c=>aH c #[(ah b),(Sl.v B)] ry λb c=>Ld c a mI λd=>Ld c b mI λe=>If (d==e) (Ld c (a.add 1) Sl.v λa=>Ld c (b.add 1) Sl.v λb=>IP a b c (λa b=>K a b) Kp) (K false c)):ajt a A b B h K Kp:=cZ dy K Tryz.func7 H
def Ud:=mc aD Tryz.f8 (am [(2000011,144),(2005,58720400)]) [] PO
def aiq:=jK Ud 0 31 [.d,.p]
def Rv:=fK 45 [4,7,23,24,25] [.d,.p,.s,tI,tI]
def agZ:=lK Ud 2005 122 Rv
theorem aBZ{K:Mk}(H:Oo P h (λa b c d e f _ g=>aH g cY bX λg i=>cV i g a b c d e f λa=>cr a g λb c d e f g=>cV a n b c d e f g λa=>cr a n λb c d e f g=>K b c d e f g 0 0 a) Kp):aiq K Kp n P h:=jf H
theorem az6{K:Mk}:eH (A0:=Int) (agZ K Kp n P A a) (Rv n P A a) λb c d=>(aS (c<a) (Ix A.a A.n 4 c λe=>bJ d e λe f g i=>aH d fU dh λd j=>dH j d e f g i λe=>bJ e d λd f g i=>Oq P d f g i e (λd e=>If (d !=0) (cV e n 0 0 0 bT bT bT λa=>cr a n λb e f g i j=>K b e f g i j d c a) (aO (c+1) λc=>b (Rv n P A a c) e)) Kp) (aiq K Kp n P d)):=eI
theorem aFg{K:Mk}(H:gA h V x a b c d A λa b=>aH b cY bX λb c=>bN c a λa d e f g i j=>Ot a d e f g i j c (λa c d=>If (c !=0) (cV d b 0 0 0 bT bT bT λa=>cr a b λb d e f g i=>K b d e f g i c 0 a) (agZ K Kp b a B (B.n:Int) 0 d)) Kp):AH V x a b c d A B h K Kp:=cF (Ud K Kp) PO K Tryz.func8 H
theorem aFd{K:bF}(H:gA h V x a b c d A λa b=>n9 b e f g B C D λb c=>bN c a λa d e f g i j=>cr c b λk l m n p q=>XN a d e f g i j k l m n p q c (λa c d e f g i j=>aH j cY bX λj k=>cV k j a c d e f g λa=>If (i==0) (cr a j λc d e f g i=>cr a b λb j k l m n=>On c d e f g i b j k l m n a (λa b=>K a b) Kp) (K false a)) Kp):XM V x a b c d A e f g B C D h K Kp:=cZ dy K Tryz.func9 H
section
def TQ:Code:=Tryz.f10.body.getD .skip
def Uw:fS:=(am [(2000005,6),(2000011,6),(4014,35184372088932),(2006,29360134)])
def Qf:wX:=[]
variable(K:iS)(Kp:PK)(lb:Nat)(NB:HP)(XB:Code->HP)
def Hq:=mc aD Tryz.f10 Uw Qf nP K Kp
def VR(x2 x5 x6:Addr)(rF:Value):HP:=Z2 (Hq K Kp) [1,1,1,1,1,0,1,0] [] (fg [(2,vP x2),(2,vP x5),(0,vP x6),(38,some rF)] 25)
def aiP(x1 x2:Addr):=jQ (Hq K Kp) 1 15 [] [vP x1,vP x2]
abbrev RG(x1 x2:Addr)(xj:Sl)(zd OR:Int):Fr:=(fg [(1,vP x1),(0,vP x2),(19,vS xj),(0,vI zd),(0,vI OR)] 46)
def ahg(x1 x2:Addr)(xj:Sl)(zd OR:Int):=lQ (Hq K Kp) 2006 58 [] (RG x1 x2 xj zd OR)
def aiQ(x1 x2:Addr):=jQ (Hq K Kp) 0 7 [] [vP x1,vP x2]
variable{K Kp lb NB XB}{x1 x2 x5 x6:Addr}{xj:Sl}{zd:Int}{rF:Value}{h:Hp}
def afS(lb:Nat)(NB:HP)(XB:Code->HP)(x2 x5 x6:Addr)(rF:Value)(akB akA:Sl)(akz:BA)(aky:Bool)(akx akw akv aku:Int)(akt:Sl)(aks:Bool)(h:Hp):Prop:=
 aH h akm Vu λa7 h1=>ayy h1 a7 akB akA akz aky akx akw akv aku akt aks λh2=>Yy lb h h2 λh3=>ay2 h3 a7 λamt ams amr amq amo amn amm aml amk amj=>Ld h3 x5 mI λt48=>Ld h3 x6 .map λt49=>Yh amt ams amr amq amo amn amm aml amk amj t48 t49 h3 (λt50 h4=>If (t50 !=0) (Ld h4 a7 Sl.v λt55=>dW h4 x2 t50 t55 0 λh5=>XB .ret h5) (Ld h4 x5 mI λt57=>aO (t57+1) λt58=>St h4 x5 (ah t58) λh5=>Ld h5 ((a7.add 2).add 2) mI λt62=>If (t62==19) (Ld h5 x6 .map λt64=>Ld h5 (((a7.add 2).add 2).add 2) mI λt68=>Ld h5 x5 mI λt69=>Up h5 t64 (.int .i64) (ah t68) (ah t69) λh6=>NB h6) (NB h5))) qA
def afU(K:iS)(Kp:PK)(x2 x5 x6:Addr)(rF:Value)(h:Hp):Prop:=
 dW h x2 0 bT 0 λh1=>eG h1 x2 λvO vM vL=>K vO vM vL h1
def afQ(K:iS)(Kp:PK)(x2 x5 x6:Addr)(rF:Value)(h:Hp):Prop:=
 eG h x2 λvO vM vL=>K vO vM vL h
theorem ayD{x2 x5 x6:Addr}{rF:Value}{K:iS}{Kp:PK}{h:Hp}{α:Type}{xs:List α}(E:α->Sl->Sl->BA->Bool->Int->Int->Int->Int->Sl->Bool->Prop){tZ:Hp->Prop}(v7:W8 aD rF xs (λy args=>∃y0 y1 y2 y3 y4 y5 y6 y7 y8 y9,args=[(.agg #[(Sl.v y0),(Sl.v y1),(.string y2),(.bool y3),(ah y4),(ah y5),(ah y6),(ah y7),(Sl.v y8),(.bool y9)])]/\E y y0 y1 y2 y3 y4 y5 y6 y7 y8 y9) tZ)(I:List α->HP)(CB:List α->HP)(h0:I [] h)
 (hG:∀pre h1 h2,az h1 h2->I pre h1->I pre h2) (hI:∀l pre h1 h2,h.size<=l->Tw l h1 h2->I pre h1->I pre h2) (tB:∀pre h1,I pre h1->tZ h1) (atF:∀pre h1 h2,az h1 h2->CB pre h1->CB pre h2) (atE:∀l pre h1 h2,h.size<=l->Tw l h1 h2->CB pre h1->CB pre h2)
 (GC:∀l pre y gE h1 y0 y1 y2 y3 y4 y5 y6 y7 y8 y9,E y y0 y1 y2 y3 y4 y5 y6 y7 y8 y9->xs=pre++y::gE->h.size<=l->(∃r,h1[l]? =some (.loop r))->I pre h1->∀(N:Hp->Prop)(X:Code->HP),(∀h' h2,Tw l h1 h'->h2[l]? =h'[l]?->Tn (λc=>c<=l) h1 h2->I (pre++[y]) h2->N h2)->(∀h' h2,Tw l h1 h'->h2[l]? =h'[l]?->Tn (λc=>c<=l) h1 h2->CB (pre++[y]) h2->X .ret h2)->afS l N X x2 x5 x6 rF y0 y1 y2 y3 y4 y5 y6 y7 y8 y9 h1)
 (done:∀h2,I xs h2->afU K Kp x2 x5 x6 rF h2) (amJ:∀pre gE h2,xs=pre++gE->CB pre h2->afQ K Kp x2 x5 x6 rF h2):VR K Kp x2 x5 x6 rF h:=
 Eq.mp (by kernel_rfl) (ao3 (P:=aD) (bS:=Uw) (D:=(kU aD Qf)) (λ_=>zN _) (rd:=none) (g:=.tmp 45) (ps:=#[46]) (assign:=sub [1,1,1,1,1,0,1,0,0] TQ) (body:=sub [1,1,1,1,1,0,1,0,1] TQ) (Q:=tF aD Uw (kU aD Qf) none Kp [1,1,1,1,1,0,1,0] TQ [] (mM aD Tryz.f10.results.toList (zQ nP) (kQ nP K))) (Kp:=Kp) (fr:=(fg [(2,vP x2),(2,vP x5),(0,vP x6),(38,some rF)] 25)) (h:=h) (fv:=rF) (by kernel_rfl)
 v7 (λ_ _ ea=>by obtain⟨_,_,_,_,_,_,_,_,_,_,rfl,_⟩:=ea;rfl) trivial I (λc=>match c with|.ret=>CB|_=>λ_ _=>False) h0 hG (by intro c pre h1 h2 hg hi;revert hi;cases c with
 |ret=>exact atF pre h1 h2 hg
 |_=>exact λhi=>hi.elim) hI (by intro l c pre h1 h2 hl ht hi;revert hi;cases c with
 |ret=>exact atE l pre h1 h2 hl ht
 |_=>exact λhi=>hi.elim) tB
 (by
 intro l pre y gE h1 args ea e1 e2 e3 e4 N X hN hX
 obtain⟨y0,y1,y2,y3,y4,y5,y6,y7,y8,y9,rfl,eE⟩:=ea
 exact Eq.mp (by kernel_rfl) (GC l pre y gE h1 y0 y1 y2 y3 y4 y5 y6 y7 y8 y9 eE e1 e2 e3 e4 N X hN (hX .ret)))
 (λh2 hi=>Eq.mp (by kernel_rfl) (done h2 hi)) (by
 intro c pre gE h2 e1 hi
 cases c with
 |ret=>exact Eq.mp (by kernel_rfl) (amJ pre gE h2 e1 hi)
 |_=>exact hi.elim))
theorem aCW(H:aH h #[(ah 0)] Y6 λa b=>St b a (ah 0) λb=>Ez b λb c=>aH c #[(.map none)] Vv λc d=>St d c (.map (some b)) λb=>Ld b x1 Sl.v λd=>ajz d 65 b (λb d=>VR K Kp x2 a c b d) Kp):aiP K Kp x1 x2 h:=jf H
theorem aAs:eH (ahg K Kp x1 x2 xj zd) (RG x1 x2 xj zd) λa b c=>(aS (b<zd) (Ix xj.a xj.n 2 b λd=>Ld c d .string λe=>Ld c (d.add 1) .string λd=>aH c #[(.string (bs [])),(.string (bs []))] Vw λc f=>St f c (.string e) λe=>St e (c.add 1) (.string d) λd=>Ld d c .string λe=>aS ((e.size:Int)>256) (dW d x2 37 bT b λa=>eG a x2 λb c d=>K b c d a) (Ld d (c.add 1) .string λc=>aS ((c.size:Int)>256) (dW d x2 37 bT b λa=>eG a x2 λb c d=>K b c d a) (aO (b+1) λb=>a (RG x1 x2 xj zd b) d))) (aiP K Kp x1 x2 c)):=eI
theorem aCX(H:Ld h (x1.add 1) Sl.v λa=>ahg K Kp x1 x2 a (a.n:Int) 0 h):aiQ K Kp x1 x2 h:=jf H
theorem aGg{sR sQ:Sl}(H:aH h #[(Sl.v sR),(Sl.v sQ)] H7 λa b=>aH b kI kF λb c=>Ld c a Sl.v λd=>aS ((d.n:Int)>32) (dW c b 34 bT 32 λa=>eG a b λb c d=>K b c d a) (Ld c (a.add 1) Sl.v λd=>aS ((d.n:Int)>16) (dW c b 34 bT 16 λa=>eG a b λb c d=>K b c d a) (aiQ K Kp a b c))):Oy sR sQ h K Kp:=cF (Hq K Kp) nP K Tryz.func10 H
end
theorem aFc{K:TR4}(H:gA h V x a b c d A λa b=>bN b a λc d e f g i j=>IN c d e f g i j b (λb c=>If (!b) (K none 5 c) (bN c a λa b d e f g i=>Ok a b d e f g i c (λa b c d e f g i=>aH i mK iz λi j=>jO j i a b c d e f g λa=>bN a i λb c d e f g j=>bN a i λk l m n p q r=>Oj k l m n p q r a (λk l=>aU a l i 7 <|NA k <|ayP l b c d e f g j k false λa b=>K (some a) 0 b) Kp) Kp)) Kp):Ot V x a b c d A h K Kp:=cZ qR4 K Tryz.func11 H
theorem aFb{K:bQ}(H:iK h x a V A λa b=>NN P λc=>Ld b (c.add 8) .bool λc=>If c (K 9 b) (NN P λc=>bN b c λc d e f g i j=>bJ b a λk l m n=>XI c d e f g i j k l m n b (λb c=>If (b !=0) (K b c) (bJ c a λa b d e=>XH P a b d e c (λa b=>K a b) Kp)) Kp)):Oq P x a V A h K Kp:=cZ dr K Tryz.func12 H
theorem aFa{K:VC}(H:aH h cY bX λa b=>NN P λc=>Ld b (c.add 8) .bool λc=>If c (cV b a 0 0 0 bT bT bT λb=>cr b a λa c d e f g=>K a c d e f g 9 b) (NN P λc=>St b (c.add 8) (.bool true) λb=>NN P λc=>Ld b (c.add 7) id λc=>fE aD c "colonnade/build.done" [] b (λb c=>∃d:Int,∃e:Int,∃f:Int,∃g:Sl,∃i:Sl,∃j:Sl,b=(.agg #[(ah d),(ah e),(ah f),(Sl.v g),(Sl.v i),(Sl.v j)])/\(cV c a d e f g i j λb=>cr b a λa c d e f g=>K a c d e f g 0 b)) Kp)):Oo P h K Kp:=cZ PM K Tryz.func13 H
def Ly:=mc aD Tryz.f14 (am [(2000011,6),(2013,26388279066660),(2006,3670022)]) [] nP
def RJ:=fK 61 [2,5,43,44] [.d,.s,tI,tI]
def ahj:=lK Ly 2013 506 RJ
def aiR:=jK Ly 0 31 [.d,.d]
def RI:=fK 61 [1,2,19,20,21] [.d,.d,.s,tI,tI]
def ahi:=lK Ly 2006 122 RI
theorem aAv{K:iS}:eH (A0:=Int) (ahj K Kp n A a) (RJ n A a) λb c d=>(aS (c<a) (Yj A c d (λd e=>If (d !=0) (Ix A.a A.n 10 c λa=>Ld e a Sl.v λa=>dW e n d a 0 λa=>eG a n λb c d=>K b c d a) (aO (c+1) λc=>b (RJ n A a c) e)) Kp) (dW d n 0 bT 0 λa=>eG a n λb c d=>K b c d a)):=eI
theorem aCY{K:iS}(H:Ld h n Sl.v λa=>EP a bT false bT h (λa b=>ahj K Kp o a (a.n:Int) 0 b) Kp):aiR K Kp n o h:=jf H
theorem aAu{K:iS}:eH (A0:=Int) (ahi K Kp n o A a) (RI n o A a) λb c d=>(aS (c<a) (Ix A.a A.n 2 c λe=>Ld d e .string λf=>Ld d (e.add 1) .string λe=>aH d #[(.string (bs [])),(.string (bs []))] Vw λd g=>St g d (.string f) λf=>St f (d.add 1) (.string e) λe=>Ld e d .string λf=>aS ((f.size:Int)>256) (dW e o 37 bT c λa=>eG a o λb c d=>K b c d a) (Ld e (d.add 1) .string λd=>aS ((d.size:Int)>256) (dW e o 37 bT c λa=>eG a o λb c d=>K b c d a) (aO (c+1) λc=>b (RI n o A a c) e))) (aiR K Kp n o d)):=eI
theorem aGi{K:iS}(H:aH h #[(Sl.v A),(Sl.v B)] H7 λa b=>aH b kI kF λb c=>Ld c a Sl.v λd=>aS ((d.n:Int)>32) (dW c b 34 bT 32 λa=>eG a b λb c d=>K b c d a) (Ld c (a.add 1) Sl.v λd=>aS ((d.n:Int)>16) (dW c b 34 bT 16 λa=>eG a b λb c d=>K b c d a) (Ld c (a.add 1) Sl.v λd=>ahi K Kp a b d (d.n:Int) 0 c))):Oz A B h K Kp:=cF (Ly K Kp) nP K Tryz.func14 H
def Hl:=mc aD Tryz.f15 (am [(2000007,24),(3809999,35184372088840),(47008,1099511627800),(2004,56)]) [] JJ
def M1:=jK Hl 1 125 [.d,.b]
def Wn:=rK Hl 2 124 [.d,.d,.b]
def aie:=jK Hl 0 31 [.d,.d]
def Rk:=fK 56 [3,4,5] [.d,.d,tI]
def agN:=lK Hl 2004 122 Rk
theorem aBP{K:Cm}(H:If x (Ld h (n.add 13) Sl.v λa=>aH h #[(ah 0)] Y6 λb c=>Ap c Y6 #[(ah 0)] 1 8 a 1 (rd c (some b) (1*1)) λa b=>St b (n.add 13) (Sl.v a) λa=>K (some n) a) (K (some n) h)):M1 K Kp n x h:=jf H
theorem aid{K:Cm}(H:If x (M1 K Kp n true h) (Ld h o mI λa=>M1 K Kp n (a==15) h)):Wn K Kp n o x h:=jf H
theorem aBQ{K:Cm}(H:Ld h o mI λa=>If (a==12) (Wn K Kp n o true h) (Ld h o mI λa=>Wn K Kp n o (a==13) h)):aie K Kp n o h:=jf H
theorem azU{K:Cm}:eH (A0:=Int) (agN K Kp n o) (Rk n o) λa b c=>(Ld c (o.add 4) Sl.v λd=>aS (b<(d.n:Int)) (Ld c (n.add 18) Sl.v λd=>Ld c (o.add 4) Sl.v λe=>Ix e.a e.n 7 b λe=>bN c e λe f g i j k l=>Om e f g i j k l c (λe f=>aU c f (n.add 18) 1 <|aH f #[(.pointer e)] vh λc e=>aU f e (n.add 18) 1 <|Ap e vh #[(.pointer none)] 1 8 d 1 (rd e (some c) (1*1)) λc d=>St d (n.add 18) (Sl.v c) λc=>aO (b+1) λb=>a (Rk n o b) c) Kp) (aie K Kp n o c)):=eI
theorem aE2{K:Cm}(H:gA h V x a b c d A λa b=>bN b a λc d e f g i j=>ayO b c d e f g i j 0 0 0 bT bT bT bT bT bT bT bT bT λb c=>hO c (a.add 2) λa d e f g=>aH c oQ kG λc i=>lX i c a d e f g λa=>agN K Kp b c 0 a):Om V x a b c d A h K Kp:=cF (Hl K Kp) JJ K Tryz.func15 H
theorem aE1{K:bQ}(H:iK h x a V A λa b=>NN P λc=>bN b c λc d e f g i j=>bJ b a λk l m n=>XG c d e f g i j k l m n b (λb c=>If (!b) (K 7 c) (bJ c a λa b d e=>um P a b d e c (λa b=>K a b) Kp)) Kp):XJ P x a V A h K Kp:=cZ dr K Tryz.func16 H
def DV:=mc aD Tryz.f17 (am [(2000006,61),(2000011,125),(4900021,4835703854919269002248317),(5600028,5192296858534828204991248632643709),(2008,253)]) [(20,(OT.l [0,1,2,3,4,6,7,8,9,10,5,11,12,13,14] .fin)),(30,(OT.l [0,1,2,3,4,6,7,8,9,5,10,11,12,13] .fin)),(36,(OT.l [0,1,2,3,4,6,7,8,9] (.alt (OT.l [5] (.alt (OT.l [10] (.alt (OT.l [11,12,13,14] .fin) (OT.l [13,11,12,14] .fin))) (OT.l [13,10,11,12,14] .fin))) (OT.l [] (.alt (OT.l [10] (.alt (OT.l [5] (.alt (OT.l [11,12,13,14] .fin) (OT.l [13,11,12,14] .fin))) (OT.l [13,5,11,12,14] .fin))) (OT.l [13] (.alt (OT.l [5,10,11,12,14] .fin) (OT.l [10,5,11,12,14] .fin))))))))] mg
def EI:=jK DV 3 1046015 [.p,.d,.d,.d,.s,.s,tI,.b]
def MY:=jK DV 2 65375 [.p,.d,.d,.d,.s,.s,tI,.b]
def MZ:=jK DV 1 255 [.p,.d,.d,.d,.s,.s]
def Rj:=fK 175 [0,2,3,4,5,6,7] [.p,.d,.d,.d,.s,.s,tI]
def agM:=lK DV 2008 1018 Rj
def Is:=jK DV 0 63 [.p,.d,.d,.d,.s]
def qy(n p:Addr)(B:Sl)(K:jM)(x:Int)(h:Hp)(f c:Addr):Prop:=
 cV h f x 0 0 (⟨some c,2,2⟩:Sl) bT bT λa=>cr a f λb c d e f g=>Ix B.a B.n 6 0 λi=>cr a i λi j k l m q=>aH a #[(ah b),(ah c),(ah d),(Sl.v e),(Sl.v f),(Sl.v g),(ah i),(ah j),(ah k),(Sl.v l),(Sl.v m),(Sl.v q)] bX λa b=>St b (p.add 4) (.slice (some a) 2 2) λa=>cr a p λb c d e f g=>cV a n b c d e f g λa=>cr a n λb c d e f g=>K b c d e f g a
theorem aic{K:jM}(H:If x (aH h #[(Sl.v A)] fN λa b=>St b (p.add 3) (.slice (some a) 1 1) λa=>St a (p.add 4) (Sl.v B) λa=>cr a p λb c d e f g=>cV a n b c d e f g λa=>cr a n λb c d e f g=>K b c d e f g a) (If (a==18) (aH h #[] Y8 λa b=>NN P λc=>Ld b (c.add 11) Sl.v λc=>NN P λd=>Ld b (d.add 13) Sl.v λe=>Ap b Y8 #[(.int .u8 0)] 1 1 (⟨some a,0,0⟩:Sl) c.n (rd b c.a (c.n*1)) λa c=>aU b c (d.add 13) 1 <|sK e 4 c (λb c=>aH c #[(Sl.v a),(Sl.v b)] fN λa b=>St b (p.add 3) (.slice (some a) 2 2) λa=>St a (p.add 4) (Sl.v B) λa=>cr a p λb c d e f g=>cV a n b c d e f g λa=>cr a n λb c d e f g=>K b c d e f g a) Kp) (If (a==19) (NN P λa=>Ld h (a.add 15) Sl.v λb=>Ld h (o.add 3) mI λc=>IL c h (λc d=>aU h d (a.add 15) 1 <|sK b c d (λa b=>aH b #[(Sl.v A),(Sl.v a)] fN λa b=>St b (p.add 3) (.slice (some a) 2 2) λa=>St a (p.add 5) (Sl.v B) λa=>cr a p λb c d e f g=>cV a n b c d e f g λa=>cr a n λb c d e f g=>K b c d e f g a) Kp) Kp) (If (a==20) (NN P λa=>Ld h (a.add 16) Sl.v λb=>NN P λc=>Ld h (c.add 16) Sl.v λd=>(aH h #[] Y8 λe f=>aU h f (c.add 16) 1 <|aU h f (a.add 16) 1 <|(sK d 4 f (λd g=>aU f g (a.add 16) 1 <|(aH g #[(.slice (some e) 0 0),(Sl.v d)] fN λd e=>aU g e (a.add 16) 1 <|aH e cY bX λf g=>aU e g (c.add 16) 1 <|aU e g (a.add 16) 1 <|qy n p B K (b.n:Int) g f d)/\(aH g cY bX λf i=>aU g i (c.add 16) 1 <|aU g i (a.add 16) 1 <|aH i #[(.slice (some e) 0 0),(Sl.v d)] fN λc d=>aU i d (a.add 16) 1 <|qy n p B K (b.n:Int) d f c)) Kp)/\(aH f cY bX λg i=>aU f i (c.add 16) 1 <|aU f i (a.add 16) 1 <|sK d 4 i (λc d=>aU i d (a.add 16) 1 <|aH d #[(.slice (some e) 0 0),(Sl.v c)] fN λc e=>aU d e (a.add 16) 1 <|qy n p B K (b.n:Int) e g c) Kp))/\((sK d 4 h (λd e=>aU h e (a.add 16) 1 <|(aH e #[] Y8 λf g=>aU e g (c.add 16) 1 <|aU e g (a.add 16) 1 <|(aH g #[(.slice (some f) 0 0),(Sl.v d)] fN λd e=>aU g e (a.add 16) 1 <|aH e cY bX λf g=>aU e g (c.add 16) 1 <|aU e g (a.add 16) 1 <|qy n p B K (b.n:Int) g f d)/\(aH g cY bX λe i=>aU g i (c.add 16) 1 <|aU g i (a.add 16) 1 <|aH i #[(.slice (some f) 0 0),(Sl.v d)] fN λc d=>aU i d (a.add 16) 1 <|qy n p B K (b.n:Int) d e c))/\(aH e cY bX λf g=>aU e g (c.add 16) 1 <|aU e g (a.add 16) 1 <|aH g #[] Y8 λe i=>aU g i (c.add 16) 1 <|aU g i (a.add 16) 1 <|aH i #[(.slice (some e) 0 0),(Sl.v d)] fN λc d=>aU i d (a.add 16) 1 <|qy n p B K (b.n:Int) d f c)) Kp)/\(aH h cY bX λe f=>aU h f (c.add 16) 1 <|aU h f (a.add 16) 1 <|(aH f #[] Y8 λg i=>aU f i (c.add 16) 1 <|aU f i (a.add 16) 1 <|sK d 4 i (λc d=>aU i d (a.add 16) 1 <|aH d #[(.slice (some g) 0 0),(Sl.v c)] fN λc f=>aU d f (a.add 16) 1 <|qy n p B K (b.n:Int) f e c) Kp)/\(sK d 4 f (λd g=>aU f g (a.add 16) 1 <|aH g #[] Y8 λf i=>aU g i (c.add 16) 1 <|aU g i (a.add 16) 1 <|aH i #[(.slice (some f) 0 0),(Sl.v d)] fN λc d=>aU i d (a.add 16) 1 <|qy n p B K (b.n:Int) d e c) Kp)))) (aH h #[] Y8 λa b=>NN P λc=>Ld b (c.add 12) Sl.v λc=>Ap b Y8 #[(.int .u8 0)] 1 1 (⟨some a,0,0⟩:Sl) c.n (rd b c.a (c.n*1)) λa b=>aH b #[(Sl.v A),(Sl.v a)] fN λa b=>St b (p.add 3) (.slice (some a) 2 2) λa=>cr a p λb c d e f g=>cV a n b c d e f g λa=>cr a n λb c d e f g=>K b c d e f g a))))):EI K Kp P n o p A B a x h:=jf H
theorem aBM{K:jM}(H:If x (aH h #[] Y8 λa b=>NN P λc=>Ld b (c.add 13) Sl.v λc=>NN P λd=>Ld b (d.add 14) Sl.v λe=>sK c 4 b (λc f=>aU b f (d.add 14) 1 <|Ap f Y8 #[(.int .u8 0)] 1 1 (⟨some a,0,0⟩:Sl) e.n (rd f e.a (e.n*1)) λa b=>aH b #[(Sl.v A),(Sl.v c),(Sl.v a)] fN λa b=>St b (p.add 3) (.slice (some a) 3 3) λa=>cr a p λb c d e f g=>cV a n b c d e f g λa=>cr a n λb c d e f g=>K b c d e f g a) Kp) (If (a==15) (NN P λa=>Ld h (a.add 13) Sl.v λa=>sK a 4 h (λa b=>aH b #[(Sl.v A),(Sl.v a)] fN λa b=>St b (p.add 3) (.slice (some a) 2 2) λa=>St a (p.add 4) (Sl.v B) λa=>cr a p λb c d e f g=>cV a n b c d e f g λa=>cr a n λb c d e f g=>K b c d e f g a) Kp) (If (a==16) (EI K Kp P n o p A B a (a==16) h) (EI K Kp P n o p A B a (a==17) h)))):MY K Kp P n o p A B a x h:=jf H
theorem aBN{K:jM}(H:Ld h o mI λa=>If (a==1) (cr h p λa b c d e f=>cV h n a b c d e f λa=>cr a n λb c d e f g=>K b c d e f g a) (If (a==2) (NN P λa=>Ld h (a.add 12) Sl.v λa=>Oi a h (λa b=>aH b #[(Sl.v A),(Sl.v a)] fN λa b=>St b (p.add 3) (.slice (some a) 2 2) λa=>cr a p λb c d e f g=>cV a n b c d e f g λa=>cr a n λb c d e f g=>K b c d e f g a) Kp) (If (a==12) (MY K Kp P n o p A B a (a==12) h) (MY K Kp P n o p A B a (a==13) h)))):MZ K Kp P n o p A B h:=jf H
theorem azT{K:jM}:jB (A0:=Sl) (A1:=Int) (agM K Kp P n o p A) (Rj P n o p A) λa b c d=>(NN P λe=>Ld d (e.add 18) Sl.v λe=>aS (c<(e.n:Int)) (NN P λe=>Ld d (e.add 18) Sl.v λe=>Ix e.a e.n 1 c λe=>Ld d e .pointer λe=>Ol e d (λd e f g i j k=>aH k #[(ah d),(ah e),(ah f),(Sl.v g),(Sl.v i),(Sl.v j)] bX λd e=>Ap e bX cY 6 96 b 1 (rd e (some d) (1*6)) λb d=>aO (c+1) λc=>a (Rj P n o p A b c) d) Kp) (MZ K Kp P n o p A b d)):=jD
theorem aBO{K:jM}(H:aH h #[] bX λa b=>agM K Kp P n o p A (⟨some a,0,0⟩:Sl) 0 b):Is K Kp P n o p A h:=jf H
theorem aE0{K:jM}(H:aH h cY bX λa b=>NN P λc=>hO b (c.add 2) λc d e f g=>aH b oQ kG λb i=>lX i b c d e f g λc=>NN P λd=>Ld c (d.add 7) mI λe=>NN P λf=>Ld c (f.add 8) mI λg=>aH c cY bX λi j=>aU c j (f.add 8) 1 <|aU c j (d.add 7) 1 <|cV j i e 0 g bT bT bT λc=>aH c #[] Y8 λc d=>NN P λe=>Ld d (e.add 8) mI λe=>aS (e>0) (NN P λc=>Ld d (c.add 10) Sl.v λc=>Oi c d (λc d=>Is K Kp P a b i c d) Kp) (Is K Kp P a b i (⟨some c,0,0⟩:Sl) d)):Ol P h K Kp:=cF (DV K Kp) mg K Tryz.func17 H
def aeo:=mc aD Tryz.f18 (am [(2004,35)]) [] dy
def Rm:=fK 27 [0,1,5] [.s,.s,tI]
def agP:=lK aeo 2004 58 Rm
theorem azW{K:bF}:eH (A0:=Int) (agP K Kp A B) (Rm A B) λa b c=>(aS (b<(A.n:Int)) (Ix A.a A.n 6 b λd=>cr c d λd e f g i j=>Ix B.a B.n 6 b λk=>cr c k λk l m n p q=>XO d e f g i j k l m n p q c (λc d=>If (!c) (K false d) (aO (b+1) λb=>a (Rm A B b) d)) Kp) (K true c)):=eI
theorem aE6{K:bF}(H:If ((A.n:Int)!=(B.n:Int)) (K false h) (agP K Kp A B 0 h)):IP A B h K Kp:=cF (aeo K Kp) dy K Tryz.func18 H
theorem aFe{K:VC}(H:gA h V x a b c d A λa b=>n9 b e f g B C D λb c=>aH c cY bX λc d=>bN d a λe f g i j k l=>IN e f g i j k l d (λd e=>If (!d) (cV e c 0 0 0 bT bT bT λa=>cr a c λb c d e f g=>K b c d e f g 5 a) (bN e a λd f g i j k l=>cr e b λb m n p q r=>Ys d f g i j k l b m n p q r e (λb d e f g=>aH g kI kF λg i=>dW i g d e f λd=>Ld d g mI λe=>If (e !=0) (Ld d g mI λa=>cV d c 0 0 0 bT bT bT λb=>aU d b g 1 <|cr b c λc d e f g i=>K c d e f g i a b) (bN d a λe f g i j k l=>(Ow b d (λb m=>aU d m a 7 <|(AH e f g i j k l b m (λb d e f g i j _ k=>aH k cY bX λl m=>aU k m a 7 <|cV m l b d e f g i λa=>cr a l λb d e f g i=>cV a c b d e f g i λa=>cr a c λb c d e f g=>K b c d e f g j a) Kp)/\(aH m cY bX λd n=>aU m n a 7 <|AH e f g i j k l b n (λa b e f g i j _ k=>cV k d a b e f g i λa=>cr a d λb d e f g i=>cV a c b d e f g i λa=>cr a c λb c d e f g=>K b c d e f g j a) Kp)) Kp)/\(aH d cY bX λm n=>aU d n a 7 <|Ow b n (λb d=>aU n d a 7 <|AH e f g i j k l b d (λa b d e f g i _ j=>cV j m a b d e f g λa=>cr a m λb d e f g j=>cV a c b d e f g j λa=>cr a c λb c d e f g=>K b c d e f g i a) Kp) Kp))) Kp)) Kp):XN V x a b c d A e f g B C D h K Kp:=DE [] [(6,(OT.l [0,1] (.alt (OT.l [2] (.alt (OT.l (List.range' 3 9) .fin) (OT.l [8,3,4,5,6,7,9,10,11] .fin))) (OT.l [8,2,3,4,5,6,7,9,10,11] .fin))))] PM K Tryz.func19 H
def Ho:=mc aD Tryz.f20 (am [(41012,65548),(41019,8388620),(41026,1073741836),(41033,137438953484)]) [] dy
def M8:=rK Ho 3 6 [.d,.d,.b]
def M9:=rK Ho 2 6 [.d,.d,.b]
def Na:=rK Ho 1 6 [.d,.d,.b]
def Nb:=rK Ho 0 6 [.d,.d,.b]
theorem aif{K:bF}(H:If x (Ld h (n.add 5) Sl.v λa=>Ld h (o.add 5) Sl.v λb=>NO a b (.func (.func 20) #[] #[]) h (λa b=>K a b) Kp) (K false h)):M8 K Kp n o x h:=jf H
theorem aih{K:bF}(H:If x (Ld h (n.add 4) Sl.v λa=>Ld h (o.add 4) Sl.v λb=>NO a b (.func (.func 20) #[] #[]) h (λa b=>M8 K Kp n o a b) Kp) (M8 K Kp n o false h)):M9 K Kp n o x h:=jf H
theorem aii{K:bF}(H:If x (Ld h (n.add 3) Sl.v λa=>Ld h (o.add 3) Sl.v λb=>Xh a b (.func (.func 39) #[] #[]) h (λa b=>M9 K Kp n o a b) Kp) (M9 K Kp n o false h)):Na K Kp n o x h:=jf H
theorem aij{K:bF}(H:If x (Ld h (n.add 2) mI λa=>Ld h (o.add 2) mI λb=>Na K Kp n o (a==b) h) (Na K Kp n o false h)):Nb K Kp n o x h:=jf H
theorem aE4{K:bF}(H:n9 h a b c A B C λa b=>n9 b d e f D E F λb c=>Ld c a mI λd=>Ld c b mI λe=>If (d==e) (Ld c (a.add 1) mI λd=>Ld c (b.add 1) mI λe=>Nb K Kp a b (d==e) c) (Nb K Kp a b false c)):On a b c A B C d e f D E F h K Kp:=cF (Ho K Kp) dy K Tryz.func20 H
theorem aF0{K:Ck}(H:aH h #[(Sl.v A)] Y25 λb c=>aH c #[(ah a)] Y6 λa c=>K (.func (.func 41) #[] #[(dw a),(dw b)]) c):ajz A a h K Kp:=cZ A8 K Tryz.func21 H
def aey:=mc aD Tryz.f22 (am [(1002900016,281474976711296)]) [] dr
def Iz:=jK aey 0 999421 [.d,.b,.b]
theorem aCE{K:bQ}(H:If y (If y (K 36 h) (K 0 h)) (Ld h n mI λa=>If (a==19) (Ld h (n.add 4) Sl.v λa=>Ix a.a a.n 7 0 λa=>Ld h (a.add 1) .bool λa=>If a (K 36 h) (If x (K 36 h) (K 0 h))) (K 0 h))):Iz K Kp n x y h:=jf H
theorem aFZ{K:bQ}(H:ayQ h A B V x a b c d C y λa b=>hO b ((a.add 2).add 2) λc d f g i=>aH b oQ kG λb j=>lX j b c d f g i λc=>Ld c (b.add 2) mI λd=>Lk c M (.int .i64) (ah d) (ah 0) mI λ_ d=>Ld c a Sl.v λf=>If (decide ((f.n:Int)>64)) (K 33 c) (If (decide (e>=256)) (K 34 c) (Ld c (a.add 2) .string λe=>X7 e c (λc e=>If (!c) (K 30 e) (Ld e (a.add 1) Sl.v λc=>XS c (.func (.func 46) #[] #[(dw a)]) e (λc e=>If c (K 31 e) (hO e b λc f g i j=>X6 c f g i j e (λc e=>If (!c) (K 32 e) (bN e (a.add 2) λc f g i j k l=>X5 c f g i j k l e (λc e=>If (!c) (K 35 e) (Ld e (a.add 9) .bool λa=>If a (Ld e b mI λa=>If (a==19) (Iz K Kp b d true e) (Ld e b mI λa=>Iz K Kp b d (a==20) e)) (Iz K Kp b d false e))) Kp)) Kp)) Kp)) Kp))):Yh A B V x a b c d C y e M h K Kp:=cF (aey K Kp) dr K Tryz.func22 H
theorem aE5{K:bF}(H:gA h V x a b c d A λa b=>bN b a λa c d e f g i=>EK a c d e f g i b (λa _ _ b=>K (a==0) b) Kp):IN V x a b c d A h K Kp:=cZ dy K Tryz.func23 H
def aem:=mc aD Tryz.f24 (am [(2003,1806)]) [] Da
def Ri:=fK 24 [1,2,8,9,3,10] [.d,.d,.s,tI,.s,tI]
def agL:=lK aem 2003 58 Ri
theorem azS{K:Ev}:jB (A0:=Sl) (A1:=Int) (agL K Kp n o A a) (Ri n o A a) λb c d e=>(aS (d<a) (Ix A.a A.n 7 d λf=>bN e f λf g i j k l m=>aH e mK iz λe p=>jO p e f g i j k l m λf=>bN f e λe g i j k l m=>Ok e g i j k l m f (λe f g i j k l m=>aH m #[(.string e),(.bool f),(ah g),(ah i),(ah j),(ah k),(Sl.v l)] iz λe f=>Ap f iz mK 7 80 c 1 (rd f (some e) (1*7)) λc e=>aO (d+1) λd=>b (Ri n o A a c d) e) Kp) (St e ((n.add 2).add 4) (Sl.v c) λa=>bN a n λb c d e f g i=>jO a o b c d e f g i λa=>bN a o λb c d e f g i=>K b c d e f g i a)):=jD
theorem aEZ{K:Ev}(H:gA h V x a b c d A λa b=>aH b mK iz λb c=>Ld c ((a.add 2).add 4) Sl.v λd=>agL K Kp a b d (d.n:Int) bT 0 c):Ok V x a b c d A h K Kp:=cF (aem K Kp) Da K Tryz.func24 H
def Lp:=mc aD Tryz.f25 (am [(2000008,26),(4200013,17179869336),(2004,28698)]) [(14,(OT.l [0,2,3,4,1,5,6,7,8] .fin))] FL
def MX:=jK Lp 1 2007 [.d,.s,tI,.b]
def aib:=jK Lp 0 31 [.d,.d,.s]
def Rh:=fK 108 [1,3,12,13,4,14] [.d,.d,.s,tI,.s,tI]
def agK:=lK Lp 2004 122 Rh
theorem aBK{K:An}(H:If x (oc h n λa b c d e f g i j k l m n p q r=>aH h #[(ah 0)] Y6 λs t=>ayM t a b c d e f g i j k l m n p q r (⟨some s,1,1⟩:Sl) bT λa b=>K (.iface pN (dw a)) b) (If (a==15) (oc h n λa b c d e f g i j k l m p q r s=>Ix A.a A.n 1 0 λt=>Ld h t id λu=>aH h #[(ah 0)] Y6 λv w=>aU h w t 1 <|aU h w n 16 <|NA u <|ayL w a b c d e f g i j k l m p q r s (⟨some v,1,1⟩:Sl) u λa b=>K (.iface pM (dw a)) b) (If (a==16) (oc h n λa b c d e f g i j k l m n p q r=>Ix A.a A.n 1 0 λs=>Ld h s id λs=>NA s <|ayK h a b c d e f g i j k l m n p q r s λa b=>K (.iface oK (dw a)) b) (If (a==17) (oc h n λa b c d e f g i j k l m n p q r=>ayJ h a b c d e f g i j k l m n p q r A λa b=>K (.iface oJ (dw a)) b) (If (a==18) (oc h n λa b c d e f g i j k l m n p q r=>ayI h a b c d e f g i j k l m n p q r bT bT A λa b=>K (.iface qw (dw a)) b) (If (a==19) (oc h n λa b c d e f g i j k l m p q r s=>Ix A.a A.n 1 0 λt=>Ld h t id λu=>Ez h λv w=>aU h w t 1 <|aU h w n 16 <|NA u <|ayH w a b c d e f g i j k l m p q r s bT u bT (some v) λa b=>K (.iface qv (dw a)) b) (If (a==20) (oc h n λa b c d e f g i j k l m n p q r=>Ix A.a A.n 1 0 λs=>Ld h s id λs=>NA s <|ayG h a b c d e f g i j k l m n p q r bT s false 0 (bs []) bT λa b=>K (.iface pL (dw a)) b) (oc h n λa b c d e f g i j k l m n p q r=>ayF h a b c d e f g i j k l m n p q r bT bT λa b=>K (.iface pK (dw a)) b)))))))):MX K Kp n A a x h:=jf H
theorem aBL{K:An}(H:Ld h (n.add 2) mI λa=>If (a==1) (oc h o λa b c d e f g i j k l m n p q r=>ayN h a b c d e f g i j k l m n p q r λa b=>K (.iface pO (dw a)) b) (If (a==12) (MX K Kp o A a true h) (MX K Kp o A a (a==13) h))):aib K Kp n o A h:=jf H
theorem azR{K:An}:jB (A0:=Sl) (A1:=Int) (agK K Kp n o A a) (Rh n o A a) λb c d e=>(aS (d<a) (Ix A.a A.n 7 d λf=>bN e f λf g i j k l m=>aH e mK iz λe p=>jO p e f g i j k l m λf=>bN f e λe g i j k l m=>Oj e g i j k l m f (λe f=>NA e <|aH f #[e] HY λe f=>Ap f HY #[(.nilIface)] 1 16 c 1 (rd f (some e) (1*1)) λc e=>aO (d+1) λd=>b (Rh n o A a c d) e) Kp) (aib K Kp n o c e)):=jD
theorem aEY{K:An}(H:gA h V x a b c d A λa b=>bN b a λc d e f g i j=>XF c d e f g i j b (λb c d e f g i j k l m n p q r s t=>aH t OL Mf λt u=>rC u t b c d e f g i j k l m n p q r s λb=>Ld b ((a.add 2).add 4) Sl.v λc=>agK K Kp a t c (c.n:Int) bT 0 b) Kp):Oj V x a b c d A h K Kp:=cF (Lp K Kp) FL K Tryz.func25 H
theorem aEX{K:bQ}(H:gA h V x a b c d A λa b=>iK b y e W B λb c=>bN c a λd e f g i j k=>IK d e f g i j k c (λc d=>If (!c) (K 5 d) (bN d a λa c e f g i j=>bJ d b λb k l m=>XE a c e f g i j b k l m d (λa b=>If (!a) (K 7 b) (K 0 b)) Kp)) Kp):XI V x a b c d A y e W B h K Kp:=cZ dr K Tryz.func26 H
def aez:=mc aD Tryz.f28 (am [(2002,28687)]) [] gS
def Bh:=fK 63 [0,1,2,12,13,3,14] [.s,.s,.b,.s,tI,.s,tI]
def aha:=lK aez 2002 26 Bh
theorem aAi{K:gz}:jB (A0:=Sl) (A1:=Int) (aha K Kp A B x C a) (Bh A B x C a) λb c d e=>(aS (d<a) (Ix C.a C.n 7 d λf=>bN e f λf g i j k l m=>aH e mK iz λe n=>jO n e f g i j k l m λf=>aS ((c.n:Int)>256) (K c f) (aO ((B.n:Int)+1) λg=>dO f Y6 #[(ah 0)] 1 8 g g λf g=>AJ g f.a (rd g B.a (Nat.min B.n f.n*1)) λg=>Ix f.a f.n 1 (B.n:Int) λi=>St g i (ah d) λg=>bN g e λi j k l m n p=>jA A 7 none (some d) none λq=>aH g #[(Sl.v f),(.string i),(.bool j),(ah k),(ah l),(ah m),(ah n),(Sl.v p),(Sl.v q),(.bool x)] HZ λg i=>Ap i HZ OM 10 136 c 1 (rd i (some g) (1*10)) λc g=>aS ((f.n:Int)<=64) (Ld g ((e.add 2).add 4) Sl.v λi=>If x (EP i f true c g (λc e=>aO (d+1) λd=>b (Bh A B x C a c d) e) Kp) (Ld g (e.add 2) mI λe=>EP i f (e==19) c g (λc e=>aO (d+1) λd=>b (Bh A B x C a c d) e) Kp)) (aO (d+1) λd=>b (Bh A B x C a c d) g))) (K c e)):=jD
theorem aF3{K:gz}(H:aha K Kp A B x A (A.n:Int) C 0 h):EP A B x C h K Kp:=cF (aez K Kp) gS K Tryz.func28 H
def D0:=mc aD Tryz.f29 (am [(2000015,99),(2000021,67),(2025,66113130760175032991808),(59010,72057594037928035),(2010,1879048291)]) [] dr
def F2:=fK 95 [6,73,74,75] [.d,.s,tI,tI]
def ag9:=lK D0 2025 131030 F2
def Ny:=jK D0 1 2047 [.s,tI,.d]
def Nx:=rK D0 3 4092 [.s,tI,.d,.d,.b]
def aiI:=jK D0 0 255 [.s,tI,.d,.d]
def RC:=fK 95 [0,1,5,6,28,29,30] [.s,tI,.d,.d,.s,tI,tI]
def ag8:=lK D0 2010 1018 RC
theorem aAh{K:bQ}:eH (A0:=Int) (ag9 K Kp n A a) (F2 n A a) λb c d=>(aS (c<a) (Ix A.a A.n 10 c λe=>EC d e λe f g i j k l m p q=>aH d OM HZ λd r=>yO r d e f g i j k l m p q λe=>Ld e ((d.add 1).add 2) mI λf=>If (f==19) (Ld e (((d.add 1).add 2).add 2) mI λd=>Ld e ((n.add 2).add 2) mI λf=>If (d==f) (K 36 e) (aO (c+1) λc=>b (F2 n A a c) e)) (aO (c+1) λc=>b (F2 n A a c) e)) (K 0 d)):=eI
theorem aCJ{K:bQ}(H:Ld h (n.add 2) mI λb=>If (b==19) (Ld h ((n.add 2).add 4) Sl.v λb=>Ix b.a b.n 7 0 λb=>Ld h (b.add 1) .bool λb=>If b (K 36 h) (jA A 10 none (some a) none λa=>ag9 K Kp n a (a.n:Int) 0 h)) (K 0 h)):Ny K Kp A a n h:=jf H
theorem aCI{K:bQ}(H:If x (Ld h (n.add 9) .bool λb=>If b (K 36 h) (Ny K Kp A a o h)) (Ny K Kp A a o h)):Nx K Kp A a n o x h:=jf H
theorem aCK{K:bQ}(H:hO h (o.add 2) λb c d e f=>X9 b c d e f h (λb c=>If (!b) (K 32 c) (bN c o λb d e f g i j=>X8 b d e f g i j c (λb c=>If (!b) (K 35 c) (Ld c (o.add 2) mI λb=>If (b==19) (Nx K Kp A a n o true c) (Ld c (o.add 2) mI λb=>Nx K Kp A a n o (b==20) c))) Kp)) Kp):aiI K Kp A a n o h:=jf H
theorem aAg{K:bQ}:eH (A0:=Int) (ag8 K Kp A a n o B b) (RC A a n o B b) λc d e=>(aS (d<b) (Ix B.a B.n 7 d λf=>bN e f λf g i j k l m=>aH e mK iz λe p=>jO p e f g i j k l m λf=>Ld f e .string λe=>Ld f o .string λg=>If (e.toList==g.toList) (K 31 f) (aO (d+1) λd=>c (RC A a n o B b d) f)) (aiI K Kp A a n o e)):=eI
theorem aF2{K:bQ}(H:Ix A.a A.n 10 a λb=>EC h b λb c d e f g i j k l=>aH h OM HZ λm n=>yO n m b c d e f g i j k l λb=>bN b (m.add 1) λc d e f g i j=>aH b mK iz λb k=>jO k b c d e f g i j λc=>Ld c m Sl.v λd=>aS ((d.n:Int)>64) (K 33 c) (aS (a>=256) (K 34 c) (Ld c b .string λd=>Ya d c (λc d=>If (!c) (K 30 d) (Ld d (m.add 8) Sl.v λc=>ag8 K Kp A a m b c (c.n:Int) 0 d)) Kp))):Yj A a h K Kp:=cF (D0 K Kp) dr K Tryz.func29 H
theorem aEU{K:bF}(H:gA h V x a b c d A λa b=>iK b y e W B λb c=>bJ c b λd e f g=>IM d e f g 4194304 c (λc d=>aS (c<=4194304) (bN d a λa c e f g i j=>bJ d b λb k l m=>AG a c e f g i j b k l m d (λa b=>K a b) Kp) (K false d)) Kp):XG V x a b c d A y e W B h K Kp:=cZ dy K Tryz.func30 H
theorem aET{K:bQ}(H:iK h x a V A λa b=>bJ b a λa c d e=>Oh P a c d e b (λa b=>If (a==0) (NN P λc=>Ld b (c.add 9) mI λc=>aS (c>4194304) (K 3 b) (K a b)) (K a b)) Kp):um P x a V A h K Kp:=cZ dr K Tryz.func31 H
def aek:=mc aD Tryz.f32 (am [(2003,25)]) [] gS
def JW:=fK 32 [0,3,4] [.s,.s,tI]
def agH:=lK aek 2003 58 JW
theorem azP{K:gz}:eH (A0:=Int) (agH K Kp A B) (JW A B) λa b c=>(aS (b<(A.n:Int)) (Ix A.a A.n 1 b λd=>Ld c d (.int .u8) λd=>If (d !=0) (Dv 8<|aO (Int.tdiv b 8) λd=>Ix B.a B.n 1 d λe=>Ld c e (.int .u8) λe=>Dv 8<|Lt (Int.tmod b 8) λf=>Nn f<|Wr .u8 ((1:Int)*2^(min (Int.toNat f) (IntKind.bits .u8))) λf=>Lt (gH .or .u8 e f) λe=>Ix B.a B.n 1 d λd=>St c d (.int .u8 e) λc=>aO (b+1) λb=>a (JW A B b) c) (aO (b+1) λb=>a (JW A B b) c)) (K B c)):=eI
theorem aES{K:gz}(H:aO ((A.n:Int)+7) λa=>Dv 8<|aO (Int.tdiv a 8) λa=>dO h Y8 #[(.int .u8 0)] 1 1 a a λa b=>agH K Kp A a 0 b):Oi A h K Kp:=cF (aek K Kp) gS K Tryz.func32 H
def aej:=mc aD Tryz.f33 (am [(2003,99)]) [] gS
def Rf:=fK 22 [0,1,5,6] [.s,tI,.s,tI]
def agG:=lK aej 2003 58 Rf
theorem azO{K:gz}:jB (A0:=Sl) (A1:=Int) (agG K Kp A a) (Rf A a) λb c d e=>(aS (d<(A.n:Int)) (Ix A.a A.n 1 d λf=>Ld e f mI λf=>EN c f a e (λc e=>aO (d+1) λd=>b (Rf A a c d) e) Kp) (K c e)):=jD
theorem aER{K:gz}(H:aH h #[] Y8 λb c=>agG K Kp A a (⟨some b,0,0⟩:Sl) 0 c):sK A a h K Kp:=cF (aej K Kp) gS K Tryz.func33 H
def aei:=mc aD Tryz.f34 (am [(3400005,24)]) [] dr
def Wm:=jK aei 0 53 [tI,.b]
theorem aBJ{K:bQ}(H:If x (K 1 h) (If (a==4) (If (a==4) (K 2 h) (If (a==5) (If (a==5) (K 4 h) (If (a==6) (If (a==6) (K 8 h) (K 0 h)) (If (a==10) (If (a==10) (K 8 h) (K 0 h)) (If (a==11) (K 8 h) (K 0 h))))) (If (a==9) (K 4 h) (If (a==6) (If (a==6) (K 8 h) (K 0 h)) (If (a==10) (If (a==10) (K 8 h) (K 0 h)) (If (a==11) (K 8 h) (K 0 h))))))) (If (a==8) (K 2 h) (If (a==5) (If (a==5) (K 4 h) (If (a==6) (If (a==6) (K 8 h) (K 0 h)) (If (a==10) (If (a==10) (K 8 h) (K 0 h)) (If (a==11) (K 8 h) (K 0 h))))) (If (a==9) (K 4 h) (If (a==6) (If (a==6) (K 8 h) (K 0 h)) (If (a==10) (If (a==10) (K 8 h) (K 0 h)) (If (a==11) (K 8 h) (K 0 h))))))))):Wm K Kp a x h:=jf H
theorem aEQ{K:bQ}(H:If (a==3) (Wm K Kp a (a==3) h) (Wm K Kp a (a==7) h)):IL a h K Kp:=cF (aei K Kp) dr K Tryz.func34 H
def DW:=mc aD Tryz.f35 (am [(2000003,12),(2000008,12),(2004,44),(41012,131084),(41019,16777228)]) [(6,(OT.l [0,1,2,3,4,6,7,8,9,10] (.alt (OT.l [5,11,12] .fin) (OT.l [11,5,12] .fin))))] dy
def aio:=jK DW 1 15 [.d,.d]
def FZ:=fK 66 [2,3,5] [.d,.d,tI]
def agY:=lK DW 2004 58 FZ
def aip:=jK DW 0 7 [.d,.d]
def Wo:=rK DW 4 12 [.d,.d,.b]
def Wp:=rK DW 3 12 [.d,.d,.b]
theorem aBX{K:bF}(H:Ld h (n.add 4) Sl.v λa=>Ld h (o.add 4) Sl.v λb=>IP a b h (λa b=>If a (Ld b (n.add 5) Sl.v λa=>Ld b (o.add 5) Sl.v λc=>IP a c b (λa b=>K a b) Kp) (K false b)) Kp):aio K Kp n o h:=jf H
theorem az5{K:bF}:eH (A0:=Int) (agY K Kp n o) (FZ n o) λa b c=>(Ld c (n.add 3) Sl.v λd=>aS (b<(d.n:Int)) (Ld c (n.add 3) Sl.v λd=>Ix d.a d.n 1 b λd=>Ld c d Sl.v λe=>Ld c (o.add 3) Sl.v λf=>Ix f.a f.n 1 b λf=>Ld c f Sl.v λg=>(sM c e λe=>aU c c f 1 <|aU c c (o.add 3) 1 <|sM c g λf=>aU c c d 1 <|aU c c (n.add 3) 1 <|If (!(e.toList==f.toList)) (K false c) (aO (b+1) λb=>a (FZ n o b) c))/\(sM c g λg=>aU c c d 1 <|aU c c (n.add 3) 1 <|sM c e λd=>aU c c f 1 <|aU c c (o.add 3) 1 <|If (!(d.toList==g.toList)) (K false c) (aO (b+1) λb=>a (FZ n o b) c))) (aio K Kp n o c)):=eI
theorem aBY{K:bF}(H:agY K Kp n o 0 h):aip K Kp n o h:=jf H
theorem aBV{K:bF}(H:If x (K false h) (Ld h (n.add 3) Sl.v λa=>Ld h (o.add 3) Sl.v λb=>If ((a.n:Int)!=(b.n:Int)) (K false h) (aip K Kp n o h))):Wo K Kp n o x h:=jf H
theorem aBW{K:bF}(H:If x (Wo K Kp n o true h) (Ld h (n.add 2) mI λa=>Ld h (o.add 2) mI λb=>Wo K Kp n o (a !=b) h)):Wp K Kp n o x h:=jf H
theorem aFf{K:bF}(H:n9 h a b c A B C λa b=>n9 b d e f D E F λb c=>Ld c a mI λd=>Ld c b mI λe=>If (d !=e) (Wp K Kp a b true c) (Ld c (a.add 1) mI λd=>Ld c (b.add 1) mI λe=>Wp K Kp a b (d !=e) c)):XO a b c A B C d e f D E F h K Kp:=cF (DW K Kp) dy K Tryz.func35 H
def su:=mc aD Tryz.f36 (am [(2000004,44)]) [(4,(OT.l [0,2,5,1,3,4,6,7] .fin))] PU
def aiO:=jK su 0 7 [.d,.d,.d]
theorem aCV{K:VG}(H:bN h n λa b c d e f g=>cr h o λi j k l m n=>NM a b c d e f g h (λa b c d e f g q=>aU h q o 6 <|NL i j k l m n q (λi j k l m n q=>Xf a b c d e f g i j k l m n none q (λa b=>dW b p 0 bT 0 λb=>eG b p λc d e=>K a c d e b) Kp) Kp) Kp):aiO K Kp n o p h:=jf H
theorem aGf{K:VG}(H:gA h V x a b c d A λa b=>n9 b e f g B C D λb c=>aH c kI kF λc d=>bN d a λe f g i j k l=>cr d b λm n p q r s=>Xg e f g i j k l m n p q r s d (λd e f g=>aH g kI kF λg i=>dW i g d e f λd=>Ld d g mI λe=>If (e !=0) (eG d g λa b e=>dW d c a b e λa=>eG a c λb c d=>K none b c d a) (aiO K Kp a b c d)) Kp):Ys V x a b c d A e f g B C D h K Kp:=cF (su K Kp) PU K Tryz.func36 H
section
def TP:Code:=Tryz.f37.body.getD .skip
abbrev OO:=zQ gS
abbrev arR(K:gz):=kQ gS K
def Uv:fS:=(am [(4003,140)])
def Qe:wX:=[(4,(OT.l [0,1,2,3,4,5] (.alt (OT.l [6,7] .fin) (OT.l [7,6] .fin))))]
variable(K:gz)(Kp:PK)(lb:Nat)(NB:HP)(XB:Code->HP)
def fP:=mc aD Tryz.f37 Uv Qe gS K Kp
def afV(x2:Sl)(x3:Addr)(x7:Value):HP:=Z2 (fP K Kp) [1,1,0,1,0] [] (fg [(2,vS x2),(0,vP x3),(3,some x7)] 9)
variable{K Kp lb NB XB}{x2:Sl}{x3:Addr}{x7:Value}{h:Hp}
def afR(lb:Nat)(NB:HP)(XB:Code->HP)(x2:Sl)(x3:Addr)(x7:Value)(y8:Int)(akr:Bool)(akq:Int)(akp:BA)(ako:Sl)(h:Hp):Prop:=
 aH h fU dh λa5 h1=>dH h1 a5 akr akq akp ako λh2=>Yy lb h h2 λh3=>Ld h3 x3 Sl.v λt10=>bJ h3 a5 λJp Jo Jn Jm=>aH h3 #[(.bool false),(ah 0),(.string (bs [])),(.slice none 0 0)] dh λa13 h4=>aU h3 h4 a5 4 <|aU h3 h4 x3 1 <|Ap h4 dh fU 4 56 t10 1 (rd h4 (some a13) (1*4)) λt14 h5=>Ix t14.a t14.n 4 (t10.n:Int) λVi=>(dH h5 Vi Jp Jo Jn Jm λh6=>St h6 x3 (Sl.v t14) λh7=>NB h7)/\(St h5 x3 (Sl.v t14) λh6=>dH h6 Vi Jp Jo Jn Jm λh7=>NB h7)
def afT(K:gz)(Kp:PK)(x2:Sl)(x3:Addr)(x7:Value)(h:Hp):Prop:=
 Ld h x3 Sl.v λt16=>K t16 h
theorem aFt{a:PA}(H:aH h #[(.slice none 0 0)] Me λb c=>aiX a c (λa c=>afV K Kp bT b a c) Kp):Ow a h K Kp:=cF (fP K Kp) gS K Tryz.func37 H
end
def ad1:=mc aD Tryz.f38 (am [(2004,229382)]) [] dy
def Qp:=fK 32 [1,2,15,16,17] [.s,uA,.s,tI,tI]
def af6:=lK ad1 2004 58 Qp
theorem ay6{K:bF}:eH (A0:=Int) (af6 K Kp A Y B a) (Qp A Y B a) λb c d=>(aS (c<a) (Ix B.a B.n 1 c λe=>Ld d e Sl.v λe=>Ix A.a A.n 1 c λf=>Ld d f Sl.v λf=>cX aD Y [(Sl.v e),(Sl.v f)] d (λd e=>∃f:Bool,d=(.bool f)/\(If (!f) (K false e) (aO (c+1) λc=>b (Qp A Y B a c) e))) Kp) (K true d)):=eI
theorem aDr{K:bF}(H:If ((A.n:Int)!=(B.n:Int)) (K false h) (af6 K Kp B Y A (A.n:Int) 0 h)):Xh A B Y h K Kp:=cF (ad1 K Kp) dy K Tryz.func38 H
theorem aDq{K:bF}(H:sM h A λa=>sM h B λb=>K (a.toList==b.toList) h):aiZ A B h K Kp:=cZ dy K Tryz.func39 H
def ad0:=mc aD Tryz.f40 (am [(2004,229382)]) [] dy
def Qo:=fK 32 [1,2,15,16,17] [.s,uA,.s,tI,tI]
def af5:=lK ad0 2004 58 Qo
theorem ay5{K:bF}:eH (A0:=Int) (af5 K Kp A Y B a) (Qo A Y B a) λb c d=>(aS (c<a) (Ix B.a B.n 6 c λe=>cr d e λe f g i j k=>aH d cY bX λd l=>cV l d e f g i j k λe=>Ix A.a A.n 6 c λf=>cr e f λf g i j k l=>aH e cY bX λe m=>cV m e f g i j k l λf=>cr f d λd g i j k l=>cr f e λe m n p q r=>cX aD Y [(.agg #[(ah d),(ah g),(ah i),(Sl.v j),(Sl.v k),(Sl.v l)]),(.agg #[(ah e),(ah m),(ah n),(Sl.v p),(Sl.v q),(Sl.v r)])] f (λd e=>∃f:Bool,d=(.bool f)/\(If (!f) (K false e) (aO (c+1) λc=>b (Qo A Y B a c) e))) Kp) (K true d)):=eI
theorem aDp{K:bF}(H:If ((A.n:Int)!=(B.n:Int)) (K false h) (af5 K Kp B Y A (A.n:Int) 0 h)):NO A B Y h K Kp:=cF (ad0 K Kp) dy K Tryz.func40 H
theorem aFL{K:iZ}(H:aH h (Value.cells Y) afr λa b=>aH b #[(.nilFunc)] afq λb c=>NA (.func (.func 42) #[] #[(dw a),(dw n),(dw b)]) <|St c b (.func (.func 42) #[] #[(dw a),(dw n),(dw b)]) λa=>Ld a b id λb=>Ld a o Sl.v λc=>cX aD b [(.slice none 0 0),(Sl.v c),(.bool false)] a (λa b=>∃c:Bool,a=(.bool c)/\(K  b)) Kp):aFM Y n o h K Kp:=cZ kJ K Tryz.func41 H
def BR:=mc aD Tryz.f42 (am [(2001000,57407),(2002,57407),(1002903000,122943),(2000004,60479),(2000005,64575),(2000007,63551)]) [] dy
def zD:=fK 56 [0,1,2,3,4,5,13,14,15] [.s,.s,.b,.d,.d,.d,.s,tI,tI]
def aiA:=rZ BR 5 6759 [.s,.s,.b,.d,.d,.d,.d,.s,.s,tI,tI]
def aiB:=rZ BR 4 3379 [.s,.s,.b,.d,.d,.d,tI,.d,.s,.s,tI,tI]
def aiC:=rZ BR 3 1689 [.s,.s,.b,.d,.d,.d,tI,.d,.s,tI,tI]
def aiD:=rZ BR 2 105 [.s,.s,.b,.d,.d,.d,.s,tI,tI,.b]
def ag5:=lK BR 2002 26 zD
def aiE:=jK BR 0 13 [.s,.s,.b,.d,.d,.d,.s,tI,tI]
theorem aCm{K:bF}(H:Ld h o mI λc=>aS ((C.n:Int)<c) (Ld h p id λc=>Ld h ((q.add 2).add 4) Sl.v λd=>If x (cX aD c [(Sl.v C),(Sl.v d),(.bool true)] h (λc d=>∃e:Bool,c=(.bool e)/\(If (!e) (K false d) (aO (b+1) λb=>N1 (zD A B x n o p D a b) d))) Kp) (Ld h (q.add 2) mI λe=>cX aD c [(Sl.v C),(Sl.v d),(.bool (e==19))] h (λc d=>∃e:Bool,c=(.bool e)/\(If (!e) (K false d) (aO (b+1) λb=>N1 (zD A B x n o p D a b) d))) Kp)) (aO (b+1) λb=>N1 (zD A B x n o p D a b) h)):aiA K Kp N1 A B x n o p q C D a b h:=jf H
theorem aCn{K:bF}(H:Ld h n id λd=>jA B 7 none (some a) none λa=>bN h q λe f g i j k l=>cX aD d [(.agg #[(Sl.v C),(Sl.v a),(.string e),(.bool f),(ah g),(ah i),(ah j),(ah k),(Sl.v l),(.bool x)])] h (λa d=>∃e:Bool,a=(.bool e)/\(If (!e) (K false d) (aiA K Kp N1 A B x n o p q C D b c d))) Kp):aiB K Kp N1 A B x n o p a q C D b c h:=jf H
theorem aCo{K:bF}(H:XT A h (λd e=>aH e #[(ah a)] Y6 λe f=>Ap f Y6 #[(ah 0)] 1 8 d 1 (rd f (some e) (1*1)) λd e=>aiB K Kp N1 A B x n o p a q d C b c e) Kp):aiC K Kp N1 A B x n o p a q C b c h:=jf H
theorem aCp{K:bF}(H:If y (Ix C.a C.n 7 b λc=>bN h c λc d e f g i j=>aH h mK iz λk l=>jO l k c d e f g i j λc=>aiC K Kp N1 A B x n o p b k C a b c) (K true h)):aiD K Kp N1 A B x n o p C a b y h:=jf H
theorem aAc{K:bF}:eH (A0:=Int) (ag5 K Kp A B x n o p C a) (zD A B x n o p C a) λb c d=>(aiD K Kp b A B x n o p C a c (decide (c<a)) d):=eI
theorem aCq{K:bF}(H:ag5 K Kp A B x n o p C a b h):aiE K Kp A B x n o p C a b h:=jf H
theorem aFK{K:bF}(H:aiE K Kp A B x n o p B (B.n:Int) 0 h):ajx A B x n o p h K Kp:=cF (BR K Kp) dy K Tryz.func42 H
theorem aFo{K:gz}(H:If (Option.isNone A.a) (K bT h) (aH h #[] Y6 λa b=>Ap b Y6 #[(ah 0)] 1 8 (⟨some a,0,0⟩:Sl) A.n (rd b A.a (A.n*1)) λa b=>K a b)):XT A h K Kp:=cZ gS K Tryz.func43 H
def aev:=mc aD Tryz.f44 (am [(2002,193)]) [] dy
def F1:=fK 36 [0,6,7] [.t,tI,tI]
def ag4:=lK aev 2002 26 F1
theorem aAb{K:bF}:eH (A0:=Int) (ag4 K Kp V a) (F1 V a) λb c d=>(aS (c<a) (hY V c λe=>XZ e d (λd f=>If (!d) (K false f) (If (c==0) (aS (e>=48) (aS (e<=57) (K false f) (aO (c+1) λc=>b (F1 V a c) f)) (aO (c+1) λc=>b (F1 V a c) f)) (aO (c+1) λc=>b (F1 V a c) f))) Kp) (If (!(V.toList==(bs []).toList)) (K (decide ((V.size:Int)<=48)) d) (K false d))):=eI
theorem aFJ{K:bF}(H:ag4 K Kp V (V.size:Int) 0 h):X7 V h K Kp:=cF (aev K Kp) dy K Tryz.func44 H
theorem aFn{K:bF}(H:ajv A Y h (λa b=>K (decide (a>=0)) b) Kp):XS A Y h K Kp:=cZ dy K Tryz.func45 H
theorem aFH{K:bF}(H:gA h V x a b c d A λa b=>Ld b a .string λa=>Ld b (n.add 2) .string λc=>K (a.toList==c.toList) b):aFI V x a b c d A n h K Kp:=cZ dy K Tryz.func46 H
def yp:=mc aD Tryz.f47 (am [(2000019,122),(2000022,218),(2000023,474),(2000025,410),(65004,18889465931478580854810),(65011,2417851639229258349412370),(64008,288230376151711898),(64013,9223372036854775962)]) [] dy
def WG:=rK yp 5 2046 [.d,tI,.b]
def WH:=rK yp 4 2046 [.d,tI,tI,.b]
def Nk:=jK yp 3 1023 [.d,tI,tI,.b,.b]
def WD:=rK yp 7 4090 [.d,tI,tI,.b,.b]
def WE:=rK yp 6 4090 [.d,tI,tI,.b,.b]
def WI:=jK yp 2 511 [.d,tI,tI,.b,.b,.b]
def Nl:=jK yp 1 255 [.d,tI,tI,.b,.b]
def rD:=jK yp 0 63 [.d,tI,tI,tI,.b]
theorem It{K:bF}(H:If x (Ld h (n.add 4) Sl.v λb=>K (decide ((b.n:Int)<=a)) h) (K false h)):WG K Kp n a x h:=jf H
theorem Iu{K:bF}(H:If x (Ld h (n.add 4) Sl.v λc=>WG K Kp n b (decide ((c.n:Int)>=a)) h) (WG K Kp n b false h)):WH K Kp n a b x h:=jf H
theorem Iv{K:bF}(H:If x (WH K Kp n a b y h) (WH K Kp n a b false h)):Nk K Kp n a b x y h:=jf H
theorem Nj{K:bF}(H:If y (Ld h (n.add 3) mI λc=>Ix (some ((aJ 0))) 21 4 c λc=>Ld h (c.add 3) .bool λc=>Nk K Kp n a b x c h) (Nk K Kp n a b x false h)):WD K Kp n a b x y h:=jf H
theorem aiw{K:bF}(H:If y (Ld h (n.add 3) mI λc=>Ov c h (λc d=>WD K Kp n a b x c d) Kp) (WD K Kp n a b x false h)):WE K Kp n a b x y h:=jf H
theorem aix{K:bF}(H:If x (Ld h (n.add 2) mI λc=>aS (c>=0) (Ld h (n.add 2) mI λc=>WE K Kp n a b y (decide (c<32)) h) (WE K Kp n a b y false h)) (Nk K Kp n a b y z h)):WI K Kp n a b x y z h:=jf H
theorem aiy{K:bF}(H:Ld h (n.add 2) mI λc=>If (c==0) (Ld h (n.add 3) mI λc=>WI K Kp n a b x y (c==0) h) (WI K Kp n a b x y false h)):Nl K Kp n a b x y h:=jf H
theorem aiz{K:bF}(H:Ld h (n.add 1) mI λd=>aS (c>0) (Ld h (n.add 1) mI λd=>aS (d>=1) (Ld h (n.add 1) mI λd=>Nl K Kp n a b x (decide (d<=c)) h) (Nl K Kp n a b x false h)) (Nl K Kp n a b x (d==0) h)):rD K Kp n a b c x h:=jf H
theorem aFG{K:bF}(H:wY h a b c d A λa b=>Ld b a mI λc=>Ov c b (λb c=>If (!b) (K false c) (Ld c a mI λb=>If (b==14) (rD K Kp a 0 0 16 false c) (If (b==15) (If (b==15) (rD K Kp a 1 1 0 false c) (If (b==16) (rD K Kp a 1 1 64 false c) (If (b==17) (rD K Kp a 0 32 0 false c) (If (b==18) (rD K Kp a 1 32 0 false c) (If (b==19) (rD K Kp a 1 1 0 true c) (rD K Kp a 0 0 0 false c)))))) (If (b==20) (rD K Kp a 1 1 0 false c) (If (b==16) (rD K Kp a 1 1 64 false c) (If (b==17) (rD K Kp a 0 32 0 false c) (If (b==18) (rD K Kp a 1 32 0 false c) (If (b==19) (rD K Kp a 1 1 0 true c) (rD K Kp a 0 0 0 false c))))))))) Kp):X6 a b c d A h K Kp:=cF (yp K Kp) dy K Tryz.func47 H
theorem aFF{K:bF}(H:gA h V x a b c d A λa b=>Ld b (a.add 2) mI λc=>If (c==1) (Ld b (a.add 1) .bool λa=>K a b) (If (c==18) (Ld b (a.add 1) .bool λa=>K (!a) b) (If (c==20) (Ld b (a.add 1) .bool λc=>Ld b ((a.add 2).add 4) Sl.v λa=>Ix a.a a.n 7 0 λa=>Ld b (a.add 1) .bool λa=>K (c==a) b) (K true b)))):X5 V x a b c d A h K Kp:=cZ dy K Tryz.func48 H
theorem aDe{K:iS}(H:gA h V x a b c d A λa b=>aH b kI kF λb c=>bN c a λa d e f g i j=>aH c #[(.string a),(.bool d),(ah e),(ah f),(ah g),(ah i),(Sl.v j)] iz λa c=>Oy (⟨some a,1,1⟩:Sl) bT c (λa c d e=>aH e kI kF λe f=>dW f e a c d λa=>Ld a (e.add 1) Sl.v λc=>aS ((c.n:Int)>0) (Ld a (e.add 1) Sl.v λc=>jA c 1 (some 1) none none λc=>St a (e.add 1) (Sl.v c) λa=>eG a e λc d e=>dW a b c d e λa=>eG a b λb c d=>K b c d a) (eG a e λc d e=>dW a b c d e λa=>eG a b λb c d=>K b c d a)) Kp):EK V x a b c d A h K Kp:=cZ nP K Tryz.func49 H
theorem aEP{K:afM}(H:gA h V x a b c d A λa b=>aH b OL Mf λb c=>bN c a λd e f g i j k=>XD d e f g i j k c (λc d e f g i=>aH i fU dh λi j=>dH j i c d e f λc=>bN c a λa d e f j k l=>bJ c i λi m n p=>rC c b a d e f j k l 0 0 bT 0 i m n p (g==0) λa=>oc a b λb c d e f g i j k l m n p q r s=>K b c d e f g i j k l m n p q r s a) Kp):XF V x a b c d A h K Kp:=cZ aaC K Tryz.func50 H
theorem aEO{K:bF}(H:gA h V x a b c d A λa b=>bN b a λa c d e f g i=>EK a c d e f g i b (λa _ _ b=>K (a==0) b) Kp):IK V x a b c d A h K Kp:=cZ dy K Tryz.func51 H
theorem aEN{K:bF}(H:gA h V x a b c d A λa b=>iK b y e W B λb c=>aH c #[(ah 4194304)] ru λc d=>bN d a λa e f g i j k=>bJ d b λb l m n=>AF (some c) a e f g i j k b l m n d (λa b=>K a b) Kp):XE V x a b c d A y e W B h K Kp:=cZ dy K Tryz.func52 H
def Lu:=mc aD Tryz.f54 (am [(2000003,1),(2004,9),(41008,2049)]) [] dy
def Rz:=fK 33 [0,3] [.t,tI]
def ag6:=lK Lu 2004 58 Rz
def Iw:=jK Lu 0 7 [.t]
def WR:=rK Lu 2 12 [.t,.b]
theorem aAd{K:bF}:eH (A0:=Int) (ag6 K Kp V) (Rz V) λa b c=>(aS (b<(V.size:Int)) (hY V b λd=>X0 d c (λc d=>If (!c) (K false d) (aO (b+1) λb=>a (Rz V b) d)) Kp) (K true c)):=eI
theorem aCz{K:bF}(H:ag6 K Kp V 0 h):Iw K Kp V h:=jf H
theorem aiF{K:bF}(H:If x (K false h) (hY V 0 λa=>aS (a>=48) (hY V 0 λa=>aS (a<=57) (K false h) (Iw K Kp V h)) (Iw K Kp V h))):WR K Kp V x h:=jf H
theorem aFP{K:bF}(H:aS ((V.size:Int)<1) (WR K Kp V true h) (WR K Kp V (decide ((V.size:Int)>48)) h)):Ya V h K Kp:=cF (Lu K Kp) dy K Tryz.func54 H
def yq:=mc aD Tryz.f55 (am [(2000020,250),(61008,37778931862957161710072),(61011,302231454903657293677016),(61014,2417851639229258349412760),(61017,19342813113834066795299096),(61022,618970019642690137449562384),(3800009,1074266362),(2000019,122)]) [] dy
def WL:=rK yq 5 126 [tI,tI,.b]
def WM:=rK yq 4 126 [tI,tI,tI,.b]
def WN:=rK yq 3 126 [tI,tI,.b,tI,.b]
def WO:=rK yq 2 126 [tI,tI,.b,.b,tI,.b]
def WQ:=rK yq 1 126 [tI,tI,.b,.b,.b,tI,.b]
def ue:=jK yq 0 31 [.d,tI,tI,.b,.b,.b]
def WJ:=jK yq 7 2015227 [.d,tI,tI,.b,.b]
def WK:=jK yq 6 983 [.d,tI,tI,.b,.b,.b,tI,.b]
theorem aCt{K:bF}(H:If x (K (decide (b<=a)) h) (K false h)):WL K Kp a b x h:=jf H
theorem aCu{K:bF}(H:If x (WL K Kp b c (decide (c>=a)) h) (WL K Kp b c false h)):WM K Kp a b c x h:=jf H
theorem aCv{K:bF}(H:If y (WM K Kp a b c x h) (WM K Kp a b c false h)):WN K Kp a b x c y h:=jf H
theorem aCw{K:bF}(H:If z (WN K Kp a b y c x h) (WN K Kp a b y c false h)):WO K Kp a b x y c z h:=jf H
theorem aCx{K:bF}(H:If ya (WO K Kp a b y z c x h) (WO K Kp a b y z c false h)):WQ K Kp a b x y z c ya h:=jf H
theorem aCy{K:bF}(H:Ld h (n.add 4) Sl.v λc=>Ld h n mI λd=>aS (d>=1) (Ld h n mI λd=>WQ K Kp a b x y z (c.n:Int) (decide (d<=20)) h) (WQ K Kp a b x y z (c.n:Int) false h)):ue K Kp n a b x y z h:=jf H
theorem aCr{K:bF}(H:Ld h (n.add 3) mI λc=>aS (c>=3) (Ld h (n.add 3) mI λc=>ue K Kp n a b x y (decide (c<=10)) h) (ue K Kp n a b x y false h)):WJ K Kp n a b x y h:=jf H
theorem aCs{K:bF}(H:If ya (ue K Kp n 1 1 x y z h) (If (c==16) (Ld h (n.add 1) mI λa=>aS (a>=1) (Ld h (n.add 1) mI λa=>ue K Kp n 1 1 (decide (a<=64)) y z h) (ue K Kp n 1 1 false y z h)) (If (c==17) (ue K Kp n a 32 x y z h) (If (c==18) (ue K Kp n 1 32 x y z h) (If (c==19) (Ld h (n.add 2) mI λa=>aS (a>=0) (Ld h (n.add 2) mI λa=>WJ K Kp n 1 1 x (decide (a<32)) h) (WJ K Kp n 1 1 x false h)) (ue K Kp n a b x y z h)))))):WK K Kp n a b x y z c ya h:=jf H
theorem aFO{K:bF}(H:wY h a b c d A λa b=>Ld b (a.add 1) mI λc=>Ld b (a.add 2) mI λd=>Ld b (a.add 3) mI λe=>Ld b a mI λf=>If (f==14) (Ld b (a.add 1) mI λc=>aS (c>=1) (Ld b (a.add 1) mI λc=>ue K Kp a 0 0 (decide (c<=16)) (d==0) (e==0) b) (ue K Kp a 0 0 false (d==0) (e==0) b)) (If (f==15) (WK K Kp a 0 0 (c==0) (d==0) (e==0) f (f==15) b) (WK K Kp a 0 0 (c==0) (d==0) (e==0) f (f==20) b))):X9 a b c d A h K Kp:=cF (yq K Kp) dy K Tryz.func55 H
theorem aFN{K:bF}(H:gA h V x a b c d A λa b=>Ld b (a.add 2) mI λc=>If (c==1) (Ld b (a.add 1) .bool λa=>K a b) (If (c==18) (Ld b (a.add 1) .bool λa=>K (!a) b) (If (c==20) (Ld b (a.add 1) .bool λc=>Ld b ((a.add 2).add 4) Sl.v λa=>Ix a.a a.n 7 0 λa=>Ld b (a.add 1) .bool λa=>K (c==a) b) (K true b)))):X8 V x a b c d A h K Kp:=cZ dy K Tryz.func56 H
def aen:=mc aD Tryz.f57 (am [(2006,102)]) [] dr
def Rl:=fK 52 [1,2,5,6] [tI,.d,tI,tI]
def agO:=lK aen 2006 250 Rl
theorem azV{K:bQ}:jB (A0:=Int) (A1:=Int) (agO K Kp a n) (Rl a n) λb c d e=>(Ld e (n.add 3) Sl.v λf=>aS (d<(f.n:Int)) (aS (c>a) (aO (a+1) λa=>K a e) (Ld e (n.add 3) Sl.v λf=>Ix f.a f.n 4 d λf=>bJ e f λf g i j=>aO (a-c) λk=>IM f g i j k e (λe f=>aO (c+e) λc=>aO (d+1) λd=>b (Rl a n c d) f) Kp)) (aS (c>a) (aO (a+1) λa=>K a e) (K c e))):=jD
theorem aE3{K:bQ}(H:iK h x a V A λa c=>Ld c (a.add 2) .string λd=>aO (b-16) λe=>aS ((d.size:Int)>e) (aO (b+1) λa=>K a c) (Ld c (a.add 2) .string λd=>aO ((16:Int)+(d.size:Int)) λd=>agO K Kp b a d 0 c)):IM x a V A b h K Kp:=cF (aen K Kp) dr K Tryz.func57 H
def zU:=mc aD Tryz.f58 (am [(2000005,40),(2000018,40),(47010,70368744177672),(50006,36893488147419103240),(54009,158456325028528675187087900712),(44006,1048584),(44011,33554440)]) [] dy
def MW:=jK zU 1 63 [.d,.d]
def MV:=rK zU 2 996 [.d,.b]
def MU:=rK zU 3 7994 [.d,.b]
def MT:=rK zU 4 63996 [.d,.d,.b]
def aia:=jK zU 0 15 [.d,.d]
def MR:=rK zU 6 234 [.d,.b]
def MS:=rK zU 5 234 [.d,.b]
theorem aBH{K:bF}(H:Ld h (n.add 2) .string λa=>If (a.toList==(bs []).toList) (hO h o λa b c d e=>bJ h n λf g i j=>Xy a b c d e f g i j h (λa b=>K a b) Kp) (K false h)):MW K Kp n o h:=jf H
theorem aBG{K:bF}(H:If x (Ld h (n.add 3) Sl.v λa=>K ((a.n:Int)==0) h) (K false h)):MV K Kp n x h:=jf H
theorem aBF{K:bF}(H:If x (Ld h (n.add 3) Sl.v λa=>K ((a.n:Int)==0) h) (K false h)):MU K Kp n x h:=jf H
theorem aBE{K:bF}(H:If x (Ld h (n.add 2) .string λa=>Ld h (o.add 1) mI λb=>K ((a.size:Int)==b) h) (K false h)):MT K Kp n o x h:=jf H
theorem aBI{K:bF}(H:Ld h o mI λa=>XA a h (λa b=>If a (Ld b o mI λa=>Ld b (n.add 1) mI λc=>Xz a c b (λa b=>If a (Ld b (n.add 2) .string λa=>MV K Kp n (a.toList==(bs []).toList) b) (MV K Kp n false b)) Kp) (Ld b o mI λa=>If (a==12) (Ld b (n.add 2) .string λa=>Yr a b (λa b=>If a (Ld b (n.add 1) mI λa=>MU K Kp n (a==0) b) (MU K Kp n false b)) Kp) (Ld b o mI λa=>If (a==13) (Ld b (n.add 1) mI λa=>If (a==0) (Ld b (n.add 3) Sl.v λa=>K ((a.n:Int)==0) b) (K false b)) (Ld b o mI λa=>If (a==14) (Ld b (n.add 1) mI λa=>If (a==0) (Ld b (n.add 3) Sl.v λa=>MT K Kp n o ((a.n:Int)==0) b) (MT K Kp n o false b)) (Ld b o mI λa=>If (a==19) (If (a==19) (Ld b (o.add 4) Sl.v λa=>Ix a.a a.n 7 0 λa=>bN b a λa c d e f g i=>bJ b n λj k l m=>AG a c d e f g i j k l m b (λa b=>K a b) Kp) (MW K Kp n o b)) (Ld b o mI λa=>If (a==20) (Ld b (o.add 4) Sl.v λa=>Ix a.a a.n 7 0 λa=>bN b a λa c d e f g i=>bJ b n λj k l m=>AG a c d e f g i j k l m b (λa b=>K a b) Kp) (MW K Kp n o b))))))) Kp):aia K Kp n o h:=jf H
theorem aBC{K:bF}(H:If x (Ld h (n.add 3) Sl.v λa=>K ((a.n:Int)==0) h) (K false h)):MR K Kp n x h:=jf H
theorem aBD{K:bF}(H:If x (Ld h (n.add 2) .string λa=>MR K Kp n (a.toList==(bs []).toList) h) (MR K Kp n false h)):MS K Kp n x h:=jf H
theorem aEL{K:bF}(H:gA h V x a b c d A λa b=>iK b y e W B λb c=>hO c (a.add 2) λd e f g i=>aH c oQ kG λc j=>lX j c d e f g i λd=>Ld d b .bool λe=>If e (bN d a λa c e f g i j=>Og a c e f g i j d (λa c=>If a (Ld c (b.add 1) mI λa=>MS K Kp b (a==0) c) (MS K Kp b false c)) Kp) (aia K Kp b c d)):AG V x a b c d A y e W B h K Kp:=cF (zU K Kp) dy K Tryz.func58 H
def yo:=mc aD Tryz.f59 (am [(2000011,41),(4600020,151124950823865501614121),(5400031,85070591730234615875067023894796828713),(2000030,1),(2025,73),(2033,265),(2000040,9),(2000041,9)]) [] dr
def MO:=jK yo 3 523645 [.p]
def Rc:=fK 260 [0,3,6] [.p,.d,tI]
def Wb:=lK yo 2025 2094578 Rc
def Ra:=fK 260 [0,3,8] [.p,.d,tI]
def Wa:=lK yo 2033 4189178 Ra
def ah8:=jK yo 7 16756731 [.p,.d]
def ah9:=jK yo 6 8378365 [.p,.d]
def Wl:=jK yo 2 130911 [.p,.d,.d,tI,.b]
def MP:=jK yo 1 8181 [.p,.d,.d,tI,.b]
def MQ:=jK yo 0 255 [.p,.d,.d]
theorem aBA{K:bQ}(H:NN P λa=>Ld h (a.add 13) Sl.v λb=>NN P λc=>Ld h (c.add 18) Sl.v λc=>Ix c.a c.n 1 0 λc=>Ld h c .pointer λc=>NN c λc=>Ld h (c.add 7) mI λc=>aH h #[(ah c)] Y6 λc d=>aU h d (a.add 13) 1 <|Ap d Y6 #[(ah 0)] 1 8 b 1 (rd d (some c) (1*1)) λa b=>NN P λc=>St b (c.add 13) (Sl.v a) λa=>K 0 a):MO K Kp P h:=jf H
theorem azM{K:bQ}:eH (A0:=Int) (Wb K Kp P n) (Rc P n) λa b c=>(Ld c (n.add 3) Sl.v λd=>aS (b<(d.n:Int)) (NN P λd=>Ld c (d.add 18) Sl.v λd=>Ix d.a d.n 1 0 λd=>Ld c d .pointer λd=>Ld c (n.add 3) Sl.v λe=>Ix e.a e.n 4 b λe=>bJ c e λe f g i=>um d e f g i c (λc d=>If (c !=0) (K c d) (aO (b+1) λb=>a (Rc P n b) d)) Kp) (MO K Kp P c)):=eI
theorem azL{K:bQ}:eH (A0:=Int) (Wa K Kp P n) (Ra P n) λa b c=>(Ld c (n.add 3) Sl.v λd=>aS (b<(d.n:Int)) (NN P λd=>Ld c (d.add 18) Sl.v λd=>Ix d.a d.n 1 b λd=>Ld c d .pointer λd=>Ld c (n.add 3) Sl.v λe=>Ix e.a e.n 4 b λe=>bJ c e λe f g i=>um d e f g i c (λc d=>If (c !=0) (K c d) (aO (b+1) λb=>a (Ra P n b) d)) Kp) (K 0 c)):=eI
theorem aBy{K:bQ}(H:NN P λa=>Ld h (a.add 18) Sl.v λa=>Ld h (n.add 1) mI λb=>Ix a.a a.n 1 b λa=>Ld h a .pointer λa=>Ld h (n.add 3) Sl.v λb=>Ix b.a b.n 4 0 λb=>bJ h b λb c d e=>um a b c d e h (λa b=>K a b) Kp):ah8 K Kp P n h:=jf H
theorem aBz{K:bQ}(H:NN P λa=>Ld h (a.add 13) Sl.v λb=>NN P λc=>Ld h (c.add 18) Sl.v λc=>Ld h (n.add 1) mI λd=>Ix c.a c.n 1 d λc=>Ld h c .pointer λc=>NN c λc=>Ld h (c.add 7) mI λc=>aH h #[(ah c)] Y6 λc d=>aU h d (a.add 13) 1 <|Ap d Y6 #[(ah 0)] 1 8 b 1 (rd d (some c) (1*1)) λa b=>NN P λc=>St b (c.add 13) (Sl.v a) λa=>ah8 K Kp P n a):ah9 K Kp P n h:=jf H
theorem EH{K:bQ}(H:If x (Wb K Kp P n 0 h) (If (a==17) (Wa K Kp P n 0 h) (If (a==18) (NN P λa=>Ld h (a.add 11) Sl.v λb=>Ld h (n.add 1) mI λc=>Wr .u8 c λc=>aH h #[(.int .u8 c)] Y8 λc d=>aU h d (a.add 11) 1 <|Ap d Y8 #[(.int .u8 0)] 1 1 b 1 (rd d (some c) (1*1)) λa b=>NN P λc=>St b (c.add 11) (Sl.v a) λa=>ah9 K Kp P n a) (If (a==19) (bJ h n λa b c d=>ajs P a b c d h (λa b=>K a b) Kp) (If (a==2) (NN P λa=>Ld h (a.add 12) Sl.v λb=>Ld h (n.add 1) mI λc=>Wr .u8 c λc=>aH h #[(.int .u8 c)] Y8 λc d=>aU h d (a.add 12) 1 <|Ap d Y8 #[(.int .u8 0)] 1 1 b 1 (rd d (some c) (1*1)) λa b=>NN P λc=>St b (c.add 12) (Sl.v a) λa=>K 0 a) (NN P λa=>Ld h (a.add 12) Sl.v λb=>Ld h (n.add 1) mI λc=>Ld h o mI λd=>IL d h (λd e=>aU h e (n.add 1) 1 <|aU h e (a.add 12) 1 <|EN b c d e (λa b=>NN P λc=>St b (c.add 12) (Sl.v a) λa=>K 0 a) Kp) Kp)))))):Wl K Kp P n o a x h:=jf H
theorem CA{K:bQ}(H:If x (NN P λa=>Ld h (a.add 14) Sl.v λa=>Ld h (n.add 2) .string λb=>aO ((a.n:Int)+(b.size:Int)) λa=>aS (a>65536) (K 4 h) (NN P λa=>Ld h (a.add 14) Sl.v λa=>Ld h (n.add 2) .string λb=>Ap h Y8 #[(.int .u8 0)] 1 1 a b.size (λa=>a=b.data.toList.map λa=>Value.int .u8 a.toNat) λa b=>NN P λc=>St b (c.add 14) (Sl.v a) λa=>NN P λb=>Ld a (b.add 13) Sl.v λc=>NN P λd=>Ld a (d.add 14) Sl.v λd=>aH a #[(ah (d.n:Int))] Y6 λd e=>aU a e (b.add 13) 1 <|Ap e Y6 #[(ah 0)] 1 8 c 1 (rd e (some d) (1*1)) λa b=>NN P λc=>St b (c.add 13) (Sl.v a) λa=>K 0 a)) (If (a==14) (NN P λa=>Ld h (a.add 12) Sl.v λa=>Ld h (n.add 2) .string λb=>Ap h Y8 #[(.int .u8 0)] 1 1 a b.size (λa=>a=b.data.toList.map λa=>Value.int .u8 a.toNat) λa b=>NN P λc=>St b (c.add 12) (Sl.v a) λa=>K 0 a) (If (a==15) (Wl K Kp P n o a (a==15) h) (Wl K Kp P n o a (a==16) h)))):MP K Kp P n o a x h:=jf H
theorem aBB{K:bQ}(H:NN P λa=>Ld h (a.add 10) Sl.v λa=>aH h #[(.int .u8 1)] Y8 λb c=>Ap c Y8 #[(.int .u8 0)] 1 1 a 1 (rd c (some b) (1*1)) λa b=>NN P λc=>St b (c.add 10) (Sl.v a) λa=>Ld a o mI λb=>If (b==12) (MP K Kp P n o b (b==12) a) (MP K Kp P n o b (b==13) a)):MQ K Kp P n o h:=jf H
theorem aEK{K:bQ}(H:iK h x a V A λa b=>NN P λc=>Ld b (c.add 7) mI λc=>aS (c>=4096) (K 3 b) (NN P λc=>Ld b (c.add 7) mI λc=>aO (c+1) λc=>NN P λd=>St b (d.add 7) (ah c) λb=>NN P λc=>Ld b (c.add 9) mI λd=>bJ b a λe f g i=>IM e f g i 4194304 b (λe f=>aU b f (c.add 9) 1 <|aO (d+e) λb=>NN P λc=>St f (c.add 9) (ah b) λb=>NN P λc=>hO b (c.add 2) λc d e f g=>aH b oQ kG λb i=>lX i b c d e f g λc=>Ld c b mI λd=>If (d==20) (bJ c a λa b d e=>Xx P a b d e c (λa b=>K a b) Kp) (Ld c a .bool λd=>If d (NN P λa=>Ld c (a.add 8) mI λa=>aO (a+1) λa=>NN P λb=>St c (b.add 8) (ah a) λa=>Of P a (λa b=>K a b) Kp) (MQ K Kp P a b c))) Kp)):Oh P x a V A h K Kp:=cF (yo K Kp) dr K Tryz.func59 H
def aeh:=mc aD Tryz.f60 (am [(2002,135)]) [] gS
def Re:=fK 21 [2,0,1,7] [tI,.s,tI,tI]
def agF:=lK aeh 2002 26 Re
theorem azN{K:gz}:LR3 (A0:=Sl) (A1:=Int) (A2:=Int) (agF K Kp a) (Re a) λb c d e f=>(aS (e<a) (Wr .u8 d λg=>aH f #[(.int .u8 g)] Y8 λf g=>Ap g Y8 #[(.int .u8 0)] 1 1 c 1 (rd g (some f) (1*1)) λc f=>Nn 8<|Lt (Int.fdiv d (2^(min (Int.toNat 8) (IntKind.bits .i64)))) λd=>aO (e+1) λe=>b (Re a c d e) f) (K c f)):=are
theorem aEM{K:gz}(H:agF K Kp b A a 0 h):EN A a b h K Kp:=cF (aeh K Kp) gS K Tryz.func60 H
theorem aDn{K:iS}(H:gA h V x a b c d A λa b=>n9 b e f g B C D λb c=>aH c kI kF λc d=>bN d a λe f g i j k l=>EK e f g i j k l d (λd _ _ e=>If (d !=0) (nB 5 0 e (λa b d e=>dW e c a b d λa=>eG a c λb c d=>K b c d a) Kp) (bN e a λa d f g i j k=>cr e b λb l m n p q=>ES a d f g i j k b l m n p q e (λa b d _ e=>aH e kI kF λe f=>dW f e a b d λa=>eG a e λb d e=>dW a c b d e λa=>eG a c λb c d=>K b c d a) Kp)) Kp):Xg V x a b c d A e f g B C D h K Kp:=cZ nP K Tryz.func61 H
theorem aDm{K:Cm}(H:gA h V x a b c d A λa b=>n9 b e f g B C D λb c=>bN c a λd e f g i j k=>cr c b λl m n p q r=>Ld c (b.add 1) mI λs=>Ld c b mI λt=>Ld c (a.add 2) mI λu=>Yw u c (λu v=>aU c v b 1 <|aU c v (b.add 1) 1 <|aU c v b 6 <|aU c v a 7 <|NA u <|ayR v d e f g i j k l m n p q r s t P u λa b=>K (some a) b) Kp):Xf V x a b c d A e f g B C D P h K Kp:=cZ JJ K Tryz.func62 H
def c51:=mc aD Tryz.f63 (am [(2003,24582)]) [] Da
def Qn:=fK 31 [1,2,13,14] [.d,.d,tI,tI]
def af4:=lK c51 2003 58 Qn
theorem ay4{K:Ev}:eH (A0:=Int) (af4 K Kp n o a) (Qn n o a) λb c d=>(aS (c<a) (Ld d ((n.add 2).add 4) Sl.v λe=>Ld d ((n.add 2).add 4) Sl.v λf=>Ix f.a f.n 7 c λf=>bN d f λf g i j k l m=>NM f g i j k l m d (λf g i j k l m p=>aU d p ((n.add 2).add 4) 1 <|Ix e.a e.n 7 c λd=>jO p d f g i j k l m λd=>aO (c+1) λc=>b (Qn n o a c) d) Kp) (bN d n λa b c e f g i=>jO d o a b c e f g i λa=>bN a o λb c d e f g i=>K b c d e f g i a)):=eI
theorem aDl{K:Ev}(H:gA h V x a b c d A λa b=>aH b mK iz λb c=>Ld c ((a.add 2).add 4) Sl.v λd=>ajw d c (λc d=>St d ((a.add 2).add 4) (Sl.v c) λc=>Ld c ((a.add 2).add 4) Sl.v λd=>af4 K Kp a b (d.n:Int) 0 c) Kp):NM V x a b c d A h K Kp:=cF (c51 K Kp) Da K Tryz.func63 H
theorem aDk{K:jM}(H:n9 h a b c A B C λa b=>aH b cY bX λb c=>Ld c (a.add 3) Sl.v λd=>XU d c (λc d=>St d (a.add 3) (Sl.v c) λc=>Ld c (a.add 4) Sl.v λd=>OD d c (λc d=>St d (a.add 4) (Sl.v c) λc=>Ld c (a.add 5) Sl.v λd=>OD d c (λc d=>St d (a.add 5) (Sl.v c) λc=>cr c a λa d e f g i=>cV c b a d e f g i λa=>cr a b λb c d e f g=>K b c d e f g a) Kp) Kp) Kp):NL a b c A B C h K Kp:=cZ mg K Tryz.func64 H
theorem aDj{K:Ck}(H:aH h #[(.pointer P)] Vk λa b=>K (.func (.func 86) #[] #[(dw a)]) b):aiX P h K Kp:=cZ A8 K Tryz.func65 H
def Lq:=mc aD Tryz.f66 (am [(41006,257),(41014,65537),(41022,16777217)]) [] dy
def Nf:=rK Lq 2 6 [.i .u8,.b]
def Ng:=rK Lq 1 6 [.i .u8,.b]
def WA:=rK Lq 0 6 [.i .u8,.b]
theorem aCe{K:bF}(H:If x (K true h) (K (a==95) h)):Nf K Kp a x h:=jf H
theorem aCf{K:bF}(H:If x (Nf K Kp a true h) (aS (a>=48) (Nf K Kp a (decide (a<=57)) h) (Nf K Kp a false h))):Ng K Kp a x h:=jf H
theorem aCg{K:bF}(H:If x (Ng K Kp a true h) (aS (a>=65) (Ng K Kp a (decide (a<=90)) h) (Ng K Kp a false h))):WA K Kp a x h:=jf H
theorem aFy{K:bF}(H:aS (a>=97) (WA K Kp a (decide (a<=122)) h) (WA K Kp a false h)):XZ a h K Kp:=cF (Lq K Kp) dy K Tryz.func66 H
def aer:=mc aD Tryz.f67 (am [(2002,387)]) [] dr
def Rx:=fK 19 [0,1,7,8] [.s,uA,tI,tI]
def ag2:=lK aer 2002 26 Rx
theorem az9{K:bQ}:eH (A0:=Int) (ag2 K Kp A Y a) (Rx A Y a) λb c d=>(aS (c<a) (Ix A.a A.n 7 c λe=>bN d e λe f g i j k l=>cX aD Y [(.agg #[(.string e),(.bool f),(ah g),(ah i),(ah j),(ah k),(Sl.v l)])] d (λd e=>∃f:Bool,d=(.bool f)/\(If f (K c e) (aO (c+1) λc=>b (Rx A Y a c) e))) Kp) (K (-1) d)):=eI
theorem aFm{K:bQ}(H:ag2 K Kp A Y (A.n:Int) 0 h):ajv A Y h K Kp:=cF (aer K Kp) dr K Tryz.func67 H
theorem aFx{K:bF}(H:aS (a>=1) (K (decide (a<=20)) h) (K false h)):Ov a h K Kp:=cZ dy K Tryz.func68 H
theorem aEJ{K:VE}(H:gA h V x a b c d A λa b=>aH b fU dh λb c=>bN c a λd e f g i j k=>IK d e f g i j k c (λc d=>If (!c) (dH d b false 0 (bs []) bT λa=>bJ a b λb c d e=>K b c d e 5 a) (bN d a λc e f g i j k=>yZ c e f g i j k d (λc d=>aS (c>4194304) (dH d b false 0 (bs []) bT λa=>bJ a b λb c d e=>K b c d e 3 a) (bN d a λa c e f g i j=>yY a c e f g i j d (λa c d e f=>dH f b a c d e λa=>bJ a b λb c d e=>K b c d e 0 a) Kp)) Kp)) Kp):XD V x a b c d A h K Kp:=cZ PS K Tryz.func69 H
def qp:=mc aD Tryz.f70 (am [(2000004,49),(2000005,49),(2000007,49),(2000023,160),(2001001,160),(2000029,160),(4100013,1770887431076116955297),(4800019,680564733841876927517045025222242074785),(58008,1393796574908163946345982392040522594123937),(5209999,356811923176489970264571492362373784095686816),(62009,1461501637330902918203684832716283019655932543136),(62019,1496577676626844588240573268701473812127674924007584),(46008,36028797018964016),(46014,2305843009213693968)]) [] dy
def ah0:=jK qp 5 1023 [.d,.d]
def ah1:=jK qp 4 511 [.d,.d]
def ah2:=jK qp 3 255 [.d,.d]
def MK:=rK qp 8 130428 [.p,.d,.d,.b]
def Iq:=rK qp 11 521724 [.d,.d,.b]
def MN:=rK qp 10 521724 [.d,.d,.b]
def Ir:=jK qp 9 130431 [.d,.d,.b]
def Io:=jK qp 7 32607 [.p,.d,.d,tI,.b]
def ML:=jK qp 6 2037 [.p,.d,.d,tI,.b]
def Wj:=jK qp 2 63 [.p,.d,.d]
def MM:=rK qp 13 500 [.d,.b]
def Wk:=rK qp 12 500 [.d,.d,.b]
def ah4:=jK qp 1 31 [.p,.d,.d]
def ah7:=jK qp 0 15 [.p,.d,.d]
theorem aBq{K:bF}(H:Ld h o mI λa=>Xv a h (λa b=>If a (Ld b o mI λa=>Ld b (n.add 1) mI λc=>Xu a c b (λa b=>K a b) Kp) (K false b)) Kp):ah0 K Kp n o h:=jf H
theorem aBr{K:bF}(H:Ld h o mI λa=>If (a==2) (Ld h (n.add 1) mI λa=>If (a==0) (K true h) (Ld h (n.add 1) mI λa=>K (a==1) h)) (Ld h o mI λa=>If (a==11) (K true h) (ah0 K Kp n o h))):ah1 K Kp n o h:=jf H
theorem aBs{K:bF}(H:Ld h (n.add 2) .string λa=>If (!(a.toList==(bs []).toList)) (K false h) (Ld h (n.add 3) Sl.v λa=>aS ((a.n:Int)>0) (K false h) (ah1 K Kp n o h))):ah2 K Kp n o h:=jf H
theorem aBp{K:bF}(H:If x (hO h o λa b c d e=>Ld h (n.add 3) Sl.v λf=>Xw P a b c d e f h (λa b=>K a b) Kp) (K false h)):MK K Kp P n o x h:=jf H
theorem aBw{K:bF}(H:If x (Ld h o mI λa=>If (a !=14) (K true h) (Ld h (n.add 2) .string λa=>Ld h (o.add 1) mI λb=>K ((a.size:Int)==b) h)) (K false h)):Iq K Kp n o x h:=jf H
theorem aBx{K:bF}(H:If x (Ld h o mI λa=>If (a !=12) (Iq K Kp n o true h) (Ld h (n.add 2) .string λa=>XQ a h (λa b=>Iq K Kp n o a b) Kp)) (Iq K Kp n o false h)):MN K Kp n o x h:=jf H
theorem ah6{K:bF}(H:If x (Ld h (n.add 1) mI λa=>If (a==0) (Ld h (n.add 3) Sl.v λa=>MN K Kp n o ((a.n:Int)==0) h) (MN K Kp n o false h)) (ah2 K Kp n o h)):Ir K Kp n o x h:=jf H
theorem Wi{K:bF}(H:If x (Ld h (n.add 1) mI λa=>If (a==0) (Ld h (n.add 2) .string λa=>MK K Kp P n o (a.toList==(bs []).toList) h) (MK K Kp P n o false h)) (If (a==12) (Ir K Kp n o (a==12) h) (If (a==13) (Ir K Kp n o (a==13) h) (Ir K Kp n o (a==14) h)))):Io K Kp P n o a x h:=jf H
theorem Ip{K:bF}(H:If x (NN P λa=>Ld h a mI λa=>Ld h (n.add 2) .string λb=>aO ((16:Int)+(b.size:Int)) λb=>aO (a+b) λa=>NN P λb=>St h b (ah a) λa=>Ld a (o.add 4) Sl.v λb=>Ix b.a b.n 7 0 λb=>bN a b λb c d e f g i=>bJ a n λj k l m=>AF P b c d e f g i j k l m a (λa b=>K a b) Kp) (If (a==18) (Ld h (n.add 2) .string λa=>If (a.toList==(bs []).toList) (Ld h (n.add 1) mI λa=>aS (a>=0) (Ld h (n.add 1) mI λa=>Ld h (o.add 4) Sl.v λb=>aS (a<(b.n:Int)) (Ld h (n.add 3) Sl.v λa=>If ((a.n:Int)==1) (Ld h (o.add 4) Sl.v λa=>Ld h (n.add 1) mI λb=>Ix a.a a.n 7 b λa=>bN h a λa b c d e f g=>Ld h (n.add 3) Sl.v λi=>Ix i.a i.n 4 0 λi=>bJ h i λi j k l=>AF P a b c d e f g i j k l h (λa b=>K a b) Kp) (K false h)) (K false h)) (K false h)) (K false h)) (If (a==15) (Io K Kp P n o a (a==15) h) (If (a==16) (Io K Kp P n o a (a==16) h) (Io K Kp P n o a (a==17) h))))):ML K Kp P n o a x h:=jf H
theorem ah3{K:bF}(H:hO h (n.add 2) λa b c d e=>aH h oQ kG λf g=>lX g f a b c d e λa=>Ld a f mI λb=>If (b==19) (ML K Kp P o f b (b==19) a) (ML K Kp P o f b (b==20) a)):Wj K Kp P n o h:=jf H
theorem aBv{K:bF}(H:If x (bN h n λa b c d e f g=>II a b c d e f g h (λa b=>K a b) Kp) (K false h)):MM K Kp n x h:=jf H
theorem ah5{K:bF}(H:If x (Ld h (o.add 3) Sl.v λa=>MM K Kp n ((a.n:Int)==0) h) (MM K Kp n false h)):Wk K Kp n o x h:=jf H
theorem aBt{K:bF}(H:Ld h o .bool λa=>If a (Ld h (o.add 1) mI λa=>If (a==0) (Ld h (o.add 2) .string λa=>Wk K Kp n o (a.toList==(bs []).toList) h) (Wk K Kp n o false h)) (Wj K Kp P n o h)):ah4 K Kp P n o h:=jf H
theorem aBu{K:bF}(H:NN P λa=>Ld h a mI λa=>Ld h (o.add 2) .string λb=>aO (a-(b.size:Int)) λa=>NN P λb=>St h b (ah a) λa=>ah4 K Kp P n o a):ah7 K Kp P n o h:=jf H
theorem aEI{K:bF}(H:gA h V x a b c d A λa b=>iK b y e W B λb c=>NN P λd=>Ld c d mI λd=>aO (d-16) λd=>NN P λe=>St c e (ah d) λc=>NN P λd=>Ld c d mI λd=>aS (d<0) (K false c) (Ld c (b.add 2) .string λd=>NN P λe=>Ld c e mI λe=>aS ((d.size:Int)>e) (K false c) (Ld c (b.add 3) Sl.v λd=>aS ((d.n:Int)>4096) (K false c) (ah7 K Kp P a b c)))):AF P V x a b c d A y e W B h K Kp:=cF (qp K Kp) dy K Tryz.func70 H
def Lr:=mc aD Tryz.f71 (am [(41006,257),(41014,65537),(41022,16777217)]) [] dy
def Nh:=rK Lr 2 6 [.i .u8,.b]
def Ni:=rK Lr 1 6 [.i .u8,.b]
def WB:=rK Lr 0 6 [.i .u8,.b]
theorem aCh{K:bF}(H:If x (K true h) (K (a==95) h)):Nh K Kp a x h:=jf H
theorem aCi{K:bF}(H:If x (Nh K Kp a true h) (aS (a>=48) (Nh K Kp a (decide (a<=57)) h) (Nh K Kp a false h))):Ni K Kp a x h:=jf H
theorem aCj{K:bF}(H:If x (Ni K Kp a true h) (aS (a>=65) (Ni K Kp a (decide (a<=90)) h) (Ni K Kp a false h))):WB K Kp a x h:=jf H
theorem aFz{K:bF}(H:aS (a>=97) (WB K Kp a (decide (a<=122)) h) (WB K Kp a false h)):X0 a h K Kp:=cF (Lr K Kp) dy K Tryz.func71 H
def aeg:=mc aD Tryz.f72 (am [(2000003,2)]) [] dy
def ahY:=jK aeg 0 7 [.d]
theorem aBn{K:bF}(H:Ld h (n.add 1) .bool λa=>If a (Ld h (n.add 2) mI λa=>K (a !=18) h) (K false h)):ahY K Kp n h:=jf H
theorem aEF{K:bF}(H:gA h V x a b c d A λa b=>Ld b (a.add 2) mI λc=>If (c==20) (Ld b ((a.add 2).add 4) Sl.v λa=>Ix a.a a.n 7 0 λa=>bN b a λa c d e f g i=>Og a c d e f g i b (λa b=>K a b) Kp) (ahY K Kp a b)):Og V x a b c d A h K Kp:=cF (aeg K Kp) dy K Tryz.func72 H
theorem aEE{K:bF}(H:aS (a>=2) (K (decide (a<=11)) h) (K false h)):XA a h K Kp:=cZ dy K Tryz.func73 H
theorem aED{K:bF}(H:If (a==2) (If (b==0) (K true h) (K (b==1) h)) (If (a==3) (aS (b>=(-128:Int)) (K (decide (b<=127)) h) (K false h)) (If (a==4) (aS (b>=(-32768:Int)) (K (decide (b<=32767)) h) (K false h)) (If (a==5) (aS (b>=(-2147483648:Int)) (K (decide (b<=2147483647)) h) (K false h)) (If (a==7) (aS (b>=0) (K (decide (b<=255)) h) (K false h)) (If (a==8) (aS (b>=0) (K (decide (b<=65535)) h) (K false h)) (If (a==9) (aS (b>=0) (K (decide (b<=4294967295)) h) (K false h)) (K true h)))))))):Xz a b h K Kp:=cZ dy K Tryz.func74 H
def aeB:=mc aD Tryz.f75 (am [(2002,9)]) [] dy
def RH:=fK 17 [0,3] [.t,tI]
def ahh:=lK aeB 2002 26 RH
theorem aAt{K:bF}:eH (A0:=Int) (ahh K Kp V) (RH V) λa b c=>(aS (b<(V.size:Int)) (Yi V b c (λc d=>If (c==0) (K false d) (aO (b+c) λb=>a (RH V b) d)) Kp) (K true c)):=eI
theorem aGh{K:bF}(H:ahh K Kp V 0 h):Yr V h K Kp:=cF (aeB K Kp) dy K Tryz.func75 H
def Ln:=mc aD Tryz.f76 (am [(2000015,44),(2016,108),(2000021,236)]) [] dy
def Q7:=fK 98 [2,3,5,6] [.d,.d,tI,tI]
def MJ:=rZ Ln 2 7827 [.d,.d,tI,tI,tI]
def agC:=lK Ln 2016 122 Q7
def EG:=jK Ln 0 15 [.d,.d,tI]
theorem aBl{K:bF}(H:Ld h (n.add 4) Sl.v λd=>Ix d.a d.n 7 c λc=>bN h c λc d e f g i j=>Ld h (o.add 3) Sl.v λk=>Ix k.a k.n 4 b λk=>bJ h k λk l m p=>AG c d e f g i j k l m p h (λc d=>If (!c) (K false d) (aO (b+1) λb=>N1 (Q7 n o a b) d)) Kp):MJ K Kp N1 n o a b c h:=jf H
theorem azI{K:bF}:eH (A0:=Int) (agC K Kp n o a) (Q7 n o a) λb c d=>(aS (c<a) (Ld d n mI λe=>If (e==17) (MJ K Kp b n o a c c d) (MJ K Kp b n o a c 0 d)) (K true d)):=eI
theorem aBm{K:bF}(H:agC K Kp n o a 0 h):EG K Kp n o a h:=jf H
theorem aEC{K:bF}(H:wY h a b c d A λa b=>iK b x e V B λb c=>Ld c (b.add 3) Sl.v λd=>Ld c a mI λe=>If (e==15) (aS ((d.n:Int)>4096) (K false c) (Ld c (b.add 1) mI λe=>If (e !=0) (K false c) (EG K Kp a b (d.n:Int) c))) (If (e==16) (Ld c (a.add 1) mI λe=>If ((d.n:Int)!=e) (K false c) (Ld c (b.add 1) mI λe=>If (e !=0) (K false c) (EG K Kp a b (d.n:Int) c))) (If (e==17) (Ld c (a.add 4) Sl.v λe=>If ((d.n:Int)!=(e.n:Int)) (K false c) (Ld c (b.add 1) mI λe=>If (e !=0) (K false c) (EG K Kp a b (d.n:Int) c))) (If (e==18) (If ((d.n:Int)==1) (Ld c (b.add 1) mI λd=>aS (d>=0) (Ld c (b.add 1) mI λd=>Ld c (a.add 4) Sl.v λe=>aS (d<(e.n:Int)) (Ld c (a.add 4) Sl.v λa=>Ld c (b.add 1) mI λd=>Ix a.a a.n 7 d λa=>bN c a λa d e f g i j=>Ld c (b.add 3) Sl.v λb=>Ix b.a b.n 4 0 λb=>bJ c b λb k l m=>AG a d e f g i j b k l m c (λa b=>K a b) Kp) (K false c)) (K false c)) (K false c)) (K false c))))):Xy a b c d A x e V B h K Kp:=cF (Ln K Kp) dy K Tryz.func76 H
def Hj:=mc aD Tryz.f77 (am [(2000005,41),(2000008,9),(2000009,9),(3309999,16777257)]) [(7,(OT.l [0,1,2,3,4,5,6,7,8,10,11] (.alt (OT.l [9,12] .fin) (OT.l [12,9] .fin))))] dr
def ahW:=jK Hj 2 127 [.p,.d]
def Wh:=jK Hj 1 63 [.p,.d]
def ahX:=jK Hj 0 15 [.p,.d,tI]
def MI:=jK Hj 3 29 [.p,.d,tI,.b]
theorem aBi{K:bQ}(H:NN P λa=>Ld h (a.add 18) Sl.v λa=>Ix a.a a.n 1 0 λa=>Ld h a .pointer λa=>bJ h n λb c d e=>um a b c d e h (λa b=>K a b) Kp):ahW K Kp P n h:=jf H
theorem aBj{K:bQ}(H:NN P λa=>Ld h (a.add 16) Sl.v λb=>NN P λc=>Ld h (c.add 7) mI λc=>aH h #[(ah c)] Y6 λc d=>aU h d (a.add 16) 1 <|Ap d Y6 #[(ah 0)] 1 8 b 1 (rd d (some c) (1*1)) λa b=>NN P λc=>St b (c.add 16) (Sl.v a) λa=>ahW K Kp P n a):Wh K Kp P n h:=jf H
theorem aBk{K:bQ}(H:aS (a>=4096) (K 3 h) (NN P λa=>Ld h (a.add 17) Sl.v λb=>bJ h n λc d e f=>aH h #[(.bool false),(ah 0),(.string (bs [])),(.slice none 0 0)] dh λg i=>aU h i n 4 <|aU h i (a.add 17) 1 <|Ap i dh fU 4 56 b 1 (rd i (some g) (1*4)) λa g=>Ix a.a a.n 4 (b.n:Int) λb=>NN P λi=>(dH g b c d e f λb=>St b (i.add 17) (Sl.v a) λa=>Wh K Kp P n a)/\(St g (i.add 17) (Sl.v a) λa=>dH a b c d e f λa=>Wh K Kp P n a))):ahX K Kp P n a h:=jf H
theorem ahV{K:bQ}(H:If x (NN P λb=>Ld h (b.add 16) Sl.v λb=>aO (a-1) λa=>Ix b.a b.n 1 a λc=>Ld h c mI λc=>aO (c+1) λc=>Ix b.a b.n 1 a λa=>St h a (ah c) λa=>K 0 a) (ahX K Kp P n a h)):MI K Kp P n a x h:=jf H
theorem aEB{K:bQ}(H:iK h x a V A λa b=>NN P λc=>Ld b (c.add 17) Sl.v λc=>aS ((c.n:Int)>0) (NN P λd=>Ld b (d.add 17) Sl.v λd=>aO ((c.n:Int)-1) λe=>Ix d.a d.n 4 e λd=>bJ b d λd e f g=>bJ b a λi j k l=>IJ d e f g i j k l b (λb d=>MI K Kp P a (c.n:Int) b d) Kp) (MI K Kp P a (c.n:Int) false b)):Xx P x a V A h K Kp:=cF (Hj K Kp) dr K Tryz.func77 H
def Hi:=mc aD Tryz.f78 (am [(3800009,68736253961),(2011,25),(2016,41),(2023,129)]) [] dr
def Q6:=fK 140 [0,3,4] [.p,.d,tI]
def V9:=lK Hi 2011 7866 Q6
def Q3:=fK 140 [0,3,5] [.p,.d,tI]
def V8:=lK Hi 2016 31482 Q3
def Q1:=fK 140 [0,7] [.p,tI]
def V7:=lK Hi 2023 125946 Q1
def Im:=jK Hi 0 245 [.p,.d,tI,.b]
theorem azH{K:bQ}:eH (A0:=Int) (V9 K Kp P n) (Q6 P n) λa b c=>(Ld c (n.add 1) mI λd=>aS (b<d) (NN P λd=>Ld c (d.add 12) Sl.v λd=>aH c #[(.int .u8 0)] Y8 λc e=>Ap e Y8 #[(.int .u8 0)] 1 1 d 1 (rd e (some c) (1*1)) λc d=>NN P λe=>St d (e.add 12) (Sl.v c) λc=>aO (b+1) λb=>a (Q6 P n b) c) (K 0 c)):=eI
theorem azG{K:bQ}:eH (A0:=Int) (V8 K Kp P n) (Q3 P n) λa b c=>(Ld c (n.add 1) mI λd=>aS (b<d) (NN P λd=>Ld c (d.add 18) Sl.v λd=>Ix d.a d.n 1 0 λd=>Ld c d .pointer λd=>uk d c (λc d=>If (c !=0) (K c d) (aO (b+1) λb=>a (Q3 P n b) d)) Kp) (K 0 c)):=eI
theorem azF{K:bQ}:eH (A0:=Int) (V7 K Kp P) (Q1 P) λa b c=>(NN P λd=>Ld c (d.add 18) Sl.v λd=>aS (b<(d.n:Int)) (NN P λd=>Ld c (d.add 18) Sl.v λd=>Ix d.a d.n 1 b λd=>Ld c d .pointer λd=>uk d c (λc d=>If (c !=0) (K c d) (aO (b+1) λb=>a (Q1 P b) d)) Kp) (K 0 c)):=eI
theorem EF{K:bQ}(H:If x (NN P λa=>Ld h (a.add 13) Sl.v λb=>NN P λc=>Ld h (c.add 13) Sl.v λc=>NN P λd=>Ld h (d.add 13) Sl.v λd=>aO ((d.n:Int)-1) λd=>Ix c.a c.n 1 d λc=>Ld h c mI λc=>aH h #[(ah c)] Y6 λc d=>aU h d (a.add 13) 1 <|Ap d Y6 #[(ah 0)] 1 8 b 1 (rd d (some c) (1*1)) λa b=>NN P λc=>St b (c.add 13) (Sl.v a) λa=>K 0 a) (If (a==14) (V9 K Kp P n 0 h) (If (a==16) (V8 K Kp P n 0 h) (If (a==17) (V7 K Kp P 0 h) (If (a==19) (NN P λa=>Ld h (a.add 15) Sl.v λa=>aH h #[(ah 0)] Y6 λb c=>Ap c Y6 #[(ah 0)] 1 8 a 1 (rd c (some b) (1*1)) λa b=>NN P λc=>St b (c.add 15) (Sl.v a) λa=>K 0 a) (If (a==2) (NN P λa=>Ld h (a.add 12) Sl.v λa=>aH h #[(.int .u8 0)] Y8 λb c=>Ap c Y8 #[(.int .u8 0)] 1 1 a 1 (rd c (some b) (1*1)) λa b=>NN P λc=>St b (c.add 12) (Sl.v a) λa=>K 0 a) (NN P λa=>Ld h (a.add 12) Sl.v λb=>Ld h n mI λc=>IL c h (λc d=>aU h d (a.add 12) 1 <|EN b 0 c d (λa b=>NN P λc=>St b (c.add 12) (Sl.v a) λa=>K 0 a) Kp) Kp))))))):Im K Kp P n a x h:=jf H
theorem aEA{K:bQ}(H:NN P λa=>hO h (a.add 2) λa b c d e=>aH h oQ kG λf g=>lX g f a b c d e λa=>NN P λb=>Ld a (b.add 10) Sl.v λb=>aH a #[(.int .u8 0)] Y8 λa c=>Ap c Y8 #[(.int .u8 0)] 1 1 b 1 (rd c (some a) (1*1)) λa b=>NN P λc=>St b (c.add 10) (Sl.v a) λa=>Ld a f mI λb=>If (b==12) (Im K Kp P f b (b==12) a) (If (b==13) (Im K Kp P f b (b==13) a) (Im K Kp P f b (b==15) a))):Of P h K Kp:=cF (Hi K Kp) dr K Tryz.func78 H
def DU:=mc aD Tryz.f79 (am [(2000007,9),(2000009,9),(2000010,9),(2000011,9),(2002,41)]) [(10,(OT.l [0,1,2,3,4,5,6,7,8,10,11] (.alt (OT.l [9,12] .fin) (OT.l [12,9] .fin))))] dr
def Wg:=jK DU 3 63 [.p,.d]
def ahS:=jK DU 2 31 [.p,.d]
def ahT:=jK DU 1 15 [.p,.d]
def ahU:=jK DU 0 7 [.p,.d]
def QZ:=fK 80 [0,3,5] [.p,.d,tI]
def agB:=lK DU 2002 26 QZ
theorem aBe{K:bQ}(H:NN P λa=>Ld h (a.add 18) Sl.v λa=>Ix a.a a.n 1 0 λa=>Ld h a .pointer λa=>bJ h n λb c d e=>um a b c d e h (λa b=>K a b) Kp):Wg K Kp P n h:=jf H
theorem aBf{K:bQ}(H:NN P λa=>Ld h (a.add 17) Sl.v λb=>bJ h n λc d e f=>aH h #[(.bool false),(ah 0),(.string (bs [])),(.slice none 0 0)] dh λg i=>aU h i n 4 <|aU h i (a.add 17) 1 <|Ap i dh fU 4 56 b 1 (rd i (some g) (1*4)) λa g=>Ix a.a a.n 4 (b.n:Int) λb=>NN P λi=>(dH g b c d e f λb=>St b (i.add 17) (Sl.v a) λa=>Wg K Kp P n a)/\(St g (i.add 17) (Sl.v a) λa=>dH a b c d e f λa=>Wg K Kp P n a)):ahS K Kp P n h:=jf H
theorem aBg{K:bQ}(H:NN P λa=>Ld h (a.add 15) Sl.v λb=>NN P λc=>Ld h (c.add 17) Sl.v λc=>aH h #[(ah (c.n:Int))] Y6 λc d=>aU h d (a.add 15) 1 <|Ap d Y6 #[(ah 0)] 1 8 b 1 (rd d (some c) (1*1)) λa b=>NN P λc=>St b (c.add 15) (Sl.v a) λa=>ahS K Kp P n a):ahT K Kp P n h:=jf H
theorem aBh{K:bQ}(H:NN P λa=>Ld h (a.add 17) Sl.v λb=>NN P λc=>Ld h ((c.add 2).add 3) mI λc=>Oe c h (λc d=>aU h d (a.add 17) 1 <|aS ((b.n:Int)>=c) (K 102 d) (ahT K Kp P n d)) Kp):ahU K Kp P n h:=jf H
theorem azE{K:bQ}:eH (A0:=Int) (agB K Kp P n) (QZ P n) λa b c=>(NN P λd=>Ld c (d.add 17) Sl.v λd=>aS (b<(d.n:Int)) (NN P λd=>Ld c (d.add 17) Sl.v λd=>Ix d.a d.n 4 b λd=>bJ c d λd e f g=>bJ c n λi j k l=>IJ d e f g i j k l c (λc d=>If c (NN P λa=>Ld d (a.add 15) Sl.v λa=>aH d #[(ah b)] Y6 λb c=>Ap c Y6 #[(ah 0)] 1 8 a 1 (rd c (some b) (1*1)) λa b=>NN P λc=>St b (c.add 15) (Sl.v a) λa=>K 0 a) (aO (b+1) λb=>a (QZ P n b) d)) Kp) (ahU K Kp P n c)):=eI
theorem aEz{K:bQ}(H:iK h x a V A λa b=>agB K Kp P a 0 b):ajs P x a V A h K Kp:=cF (DU K Kp) dr K Tryz.func79 H
theorem aDd{K:iS}(H:aH h kI kF λc d=>dW d c a bT b λa=>eG a c λb c d=>K b c d a):nB a b h K Kp:=cZ nP K Tryz.func80 H
def zW:=mc aD Tryz.f81 (am [(2000004,28),(2000007,28),(2000017,284),(2000021,284),(2024,1057810092162800527917072),(2009,60129542428),(2000012,60129549084)]) [(11,(OT.l [0,1,3] (.alt (OT.l [2] (.alt (OT.l [4,5,6,7,8,9,10] .fin) (OT.l [8,4,5,6,7,9,10] .fin))) (OT.l [8,2,4,5,6,7,9,10] .fin))))] PR
def RM:=fK 92 [4,14,77,78,15,79] [.d,.s,.s,tI,tI,tI]
def ahn:=lK zW 2024 4090 RM
def W7:=jK zW 3 127 [.d,.d,.d,.s]
def aiU:=jK zW 2 63 [.d,.d,.d,.s]
def abl:=fK 92 [2,3,4,33,34,8,35] [.d,.d,.d,.s,tI,.s,tI]
def W6:=rZ zW 6 32051 [.d,.d,.d,.s,tI,.d,.s,.s,tI,tI]
def ahm:=lK zW 2009 250 abl
def aiV:=jK zW 1 15 [.d,.d,.d]
def aiW:=jK zW 0 7 [.d,.d,.d]
theorem aAz{K:Am}:jB (A0:=Int) (A1:=Int) (ahn K Kp n A B a) (RM n A B a) λb c d e=>(aS (d<a) (Ix B.a B.n 1 d λf=>Ld e f mI λf=>aO (c+f) λc=>aO (d+1) λd=>b (RM n A B a c d) e) (aS (c>4194304) (nB 3 1 e (λa b c d=>dW d n a b c λa=>eG a n λb c d=>K b c d bT a) Kp) (dW e n 0 bT 0 λa=>eG a n λb c d=>K b c d A a))):=jD
theorem aC3{K:Am}(H:bN h n λa b c d e f g=>cr h o λi j k l m n=>Yo a b c d e f g i j k l m n A h (λa b=>ahn K Kp p a a (a.n:Int) 0 0 b) Kp):W7 K Kp n o p A h:=jf H
theorem aC4{K:Am}(H:Ld h (n.add 2) mI λa=>If (a==20) (cr h o λa b c d e f=>aGc a b c d e f h (λa b c d=>aH d kI kF λd e=>dW e d a b c λa=>Ld a d mI λb=>If (b !=0) (eG a d λb c d=>dW a p b c d λa=>eG a p λb c d=>K b c d bT a) (W7 K Kp n o p A a)) Kp) (W7 K Kp n o p A h)):aiU K Kp n o p A h:=jf H
theorem aAy{K:Am}:jB (A0:=Sl) (A1:=Int) (ahm K Kp n o p A a) (abl n o p A a) λb c d e=>(aS (d<a) (Ix A.a A.n 6 d λf=>cr e f λf g i j k l=>aH e cY bX λe m=>cV m e f g i j k l λf=>bN f n λg i j k l m q=>cr f e λr s t u v w=>(ajA g i j k l m q d f (λg i j k l m q x=>aU f x e 6 <|(ES g i j k l m q r s t u v w x (λf g i j k=>aH k kI kF λl m=>aU k m e 6 <|aU k m n 7 <|dW m l f g i λe=>W6 K Kp b n o p c d l j A a d e) Kp)/\(aH x kI kF λf y=>aU x y e 6 <|aU x y n 7 <|ES g i j k l m q r s t u v w y (λe g i j k=>dW k f e g i λe=>W6 K Kp b n o p c d f j A a d e) Kp)) Kp)/\(aH f kI kF λx y=>aU f y e 6 <|aU f y n 7 <|ajA g i j k l m q d y (λf g i j k l m q=>aU y q e 6 <|ES f g i j k l m r s t u v w q (λe f g i j=>dW j x e f g λe=>W6 K Kp b n o p c d x i A a d e) Kp) Kp)) (aiU K Kp n o p c e)):=jD
theorem aC5{K:Am}(H:cr h o λa b c d e f=>Yu a b c d e f h (λa b=>ahm K Kp n o p a (a.n:Int) bT 0 b) Kp):aiV K Kp n o p h:=jf H
theorem aC6{K:Am}(H:bN h n λa b c d e f g=>cr h o λi j k l m q=>Yp a b c d e f g i j k l m q h (λa b c d=>aH d kI kF λd e=>dW e d a b c λa=>Ld a d mI λb=>If (b !=0) (eG a d λb c d=>dW a p b c d λa=>eG a p λb c d=>K b c d bT a) (aiV K Kp n o p a)) Kp):aiW K Kp n o p h:=jf H
theorem aGu{K:Am}(H:gA h V x a b c d A λa b=>n9 b e f g B C D λb c=>aH c kI kF λc d=>bN d a λe f g i j k l=>cr d b λm n p q r s=>Yq e f g i j k l m n p q r s d (λd e f g=>aH g kI kF λg i=>dW i g d e f λd=>Ld d g mI λe=>If (e !=0) (eG d g λa b e=>dW d c a b e λa=>eG a c λb c d=>K b c d bT a) (aiW K Kp a b c d)) Kp):ES V x a b c d A e f g B C D h K Kp:=cF (zW K Kp) PR K Tryz.func81 H
def Uh:=mc aD Tryz.f82 (am [(3400005,24),(3700008,520)]) [] FL
def NH:=jK Uh 1 215 [tI,.b]
def NI:=jK Uh 0 53 [tI,.b]
theorem aC1{K:An}(H:If x (K (.iface afy (.agg #[])) h) (If (a==17) (K (.iface afx (.agg #[])) h) (If (a==18) (K (.iface afw (.agg #[])) h) (If (a==19) (K (.iface afv (.agg #[])) h) (If (a==20) (K (.iface afu (.agg #[])) h) (K (.iface H6 (.agg #[])) h)))))):NH K Kp a x h:=jf H
theorem aC2{K:An}(H:If x (K (.iface afz (.agg #[])) h) (If (a==15) (NH K Kp a (a==15) h) (NH K Kp a (a==16) h))):NI K Kp a x h:=jf H
theorem aGt{K:An}(H:If (a==12) (NI K Kp a (a==12) h) (NI K Kp a (a==13) h)):Yw a h K Kp:=cF (Uh K Kp) FL K Tryz.func82 H
theorem aFq{K:gz}(H:If (Option.isNone A.a) (K bT h) (aH h #[] iz λa b=>Ap b iz mK 7 80 (⟨some a,0,0⟩:Sl) A.n (rd b A.a (A.n*7)) λa b=>K a b)):ajw A h K Kp:=cZ gS K Tryz.func83 H
theorem aFp{K:gz}(H:If (Option.isNone A.a) (K bT h) (aH h #[] fN λa b=>Ap b fN #[(.slice none 0 0)] 1 24 (⟨some a,0,0⟩:Sl) A.n (rd b A.a (A.n*1)) λa b=>K a b)):XU A h K Kp:=cZ gS K Tryz.func84 H
def aeE:=mc aD Tryz.f85 (am [(2003,456)]) [] gS
def RL:=fK 19 [6,7,3,8] [.s,tI,.s,tI]
def ahl:=lK aeE 2003 58 RL
theorem aAx{K:gz}:jB (A0:=Sl) (A1:=Int) (ahl K Kp A a) (RL A a) λb c d e=>(aS (d<a) (Ix A.a A.n 6 d λf=>cr e f λf g i j k l=>aH e cY bX λe m=>cV m e f g i j k l λf=>cr f e λe g i j k l=>NL e g i j k l f (λe f g i j k l=>aH l #[(ah e),(ah f),(ah g),(Sl.v i),(Sl.v j),(Sl.v k)] bX λe f=>Ap f bX cY 6 96 c 1 (rd f (some e) (1*6)) λc e=>aO (d+1) λd=>b (RL A a c d) e) Kp) (K c e)):=jD
theorem aGs{K:gz}(H:ahl K Kp A (A.n:Int) bT 0 h):OD A h K Kp:=cF (aeE K Kp) gS K Tryz.func85 H
def Ug:=mc aD Tryz.f86 (am [(2002,6155),(46006,1073748027)]) [] kJ
def RK:=fK 39 [0,1,11,3,12] [uA,.d,tI,tI,tI]
def W5:=rK1 Ug 1 7374 [uA,.d,tI,tI,.d,tI,tI,.b]
def ahk:=lK Ug 2002 14 RK
theorem aC0{K:iZ}(H:If x (K  h) (bJ h o λe f g i=>cX aD Y [(ah b),(.agg #[(.bool e),(ah f),(.string g),(Sl.v i)])] h (λb e=>∃f:Bool,b=(.bool f)/\(If (!f) (K  e) (aO (d+1) λb=>N1 (RK Y n c a b) e))) Kp)):W5 K Kp N1 Y n a b o c d x h:=jf H
theorem aAw{K:iZ}:jB (A0:=Int) (A1:=Int) (ahk K Kp Y n a) (RK Y n a) λb c d e=>(aS (d<a) (Ld e n .pointer λf=>Xd f d e (λe f g i j k l=>aH l fU dh λl m=>dH m l e f g i λe=>aO (c-j) λc=>If (k !=0) (W5 K Kp b Y n c d l a d true e) (W5 K Kp b Y n c d l a d (decide (c<0)) e)) Kp) (K  e)):=jD
theorem aGq{K:iZ}(H:Ld h n .pointer λa=>NN a λa=>Ld h (a.add 14) mI λa=>ahk K Kp Y n a 4194304 0 h):aGr Y n h K Kp:=cF (Ug K Kp) kJ K Tryz.func86 H
def aef:=mc aD Tryz.f88 (am [(2012,120259084304)]) [] dr
def QY:=fK 64 [34,35,4,36] [.s,tI,tI,tI]
def agA:=lK aef 2012 64250 QY
theorem azD{K:bQ}:jB (A0:=Int) (A1:=Int) (agA K Kp A a) (QY A a) λb c d e=>(aS (d<a) (Ix A.a A.n 7 d λf=>bN e f λf g i j k l m=>aH e mK iz λe n=>jO n e f g i j k l m λf=>bN f e λe g i j k l m=>yZ e g i j k l m f (λe f=>aO (c+e) λc=>aO (d+1) λd=>b (QY A a c d) f) Kp) (Lt (if 4194305<c then 4194305 else c) λa=>K a e)):=jD
theorem ajr{K:bQ}(H:gA h V x a b c d A λa b=>bN b a λc d e f g i j=>II c d e f g i j b (λb c=>If b (K 16 c) (hO c (a.add 2) λa b d e f=>aH c oQ kG λc g=>lX g c a b d e f λa=>Ld a c mI λb=>If (b==14) (Ld a (c.add 1) mI λb=>aO ((16:Int)+b) λb=>Lt (if 4194305<b then 4194305 else b) λb=>K b a) (If (b==16) (Ld a (c.add 1) mI λb=>Ld a (c.add 4) Sl.v λd=>Ix d.a d.n 7 0 λd=>bN a d λd e f g i j k=>yZ d e f g i j k a (λd e=>aU a e (c.add 1) 1 <|aO (b*d) λa=>aO ((16:Int)+a) λa=>Lt (if 4194305<a then 4194305 else a) λa=>K a e) Kp) (If (b==17) (Ld a (c.add 4) Sl.v λb=>agA K Kp b (b.n:Int) 16 0 a) (If (b==18) (Ld a (c.add 4) Sl.v λb=>Ix b.a b.n 7 0 λb=>bN a b λb c d e f g i=>yZ b c d e f g i a (λa b=>aO ((16:Int)+a) λa=>Lt (if 4194305<a then 4194305 else a) λa=>K a b) Kp) (If (b==19) (If (b==19) (Ld a (c.add 4) Sl.v λb=>Ix b.a b.n 7 0 λb=>bN a b λb c d e f g i=>yZ b c d e f g i a (λa b=>Lt (if 4194305<a then 4194305 else a) λa=>K a b) Kp) (Lt (if 4194305<16 then 4194305 else 16) λb=>K b a)) (If (b==20) (Ld a (c.add 4) Sl.v λb=>Ix b.a b.n 7 0 λb=>bN a b λb c d e f g i=>yZ b c d e f g i a (λa b=>Lt (if 4194305<a then 4194305 else a) λa=>K a b) Kp) (Lt (if 4194305<16 then 4194305 else 16) λb=>K b a)))))))) Kp):yZ V x a b c d A h K Kp:=cF (aef K Kp) dr K Tryz.func88 H
def Uc:=mc aD Tryz.f89 (am [(2010,25165852),(2015,7696581394444)]) [] uw
def QX:=fK 72 [2,3,4,23,24] [.d,.d,.d,tI,tI]
def agz:=lK Uc 2010 16058 QX
def QW:=fK 72 [2,3,40,41,42] [.d,.d,.s,tI,tI]
def agy:=lK Uc 2015 64250 QW
theorem azC{K:qx}:eH (A0:=Int) (agz K Kp n o p a) (QX n o p a) λb c d=>(aS (c<a) (Ld d (o.add 3) Sl.v λe=>Ld d (p.add 4) Sl.v λf=>Ix f.a f.n 7 0 λf=>bN d f λf g i j k l m=>yY f g i j k l m d (λf g i j k=>aU d k (o.add 3) 1 <|aH k #[(.bool f),(ah g),(.string i),(Sl.v j)] dh λd f=>aU k f (o.add 3) 1 <|Ap f dh fU 4 56 e 1 (rd f (some d) (1*4)) λd e=>St e (o.add 3) (Sl.v d) λd=>aO (c+1) λc=>b (QX n o p a c) d) Kp) (bJ d o λa b c e=>dH d n a b c e λa=>bJ a n λb c d e=>K b c d e a)):=eI
theorem azB{K:qx}:eH (A0:=Int) (agy K Kp n o A a) (QW n o A a) λb c d=>(aS (c<a) (Ix A.a A.n 7 c λe=>bN d e λe f g i j k l=>aH d mK iz λd m=>jO m d e f g i j k l λe=>Ld e (o.add 3) Sl.v λf=>bN e d λd g i j k l m=>yY d g i j k l m e (λd g i j k=>aU e k (o.add 3) 1 <|aH k #[(.bool d),(ah g),(.string i),(Sl.v j)] dh λd e=>aU k e (o.add 3) 1 <|Ap e dh fU 4 56 f 1 (rd e (some d) (1*4)) λd e=>St e (o.add 3) (Sl.v d) λd=>aO (c+1) λc=>b (QW n o A a c) d) Kp) (bJ d o λa b c e=>dH d n a b c e λa=>bJ a n λb c d e=>K b c d e a)):=eI
theorem ajq{K:qx}(H:gA h V x a b c d A λa b=>aH b fU dh λb c=>bN c a λd e f g i j k=>II d e f g i j k c (λc d=>If c (dH d b true 0 (bs []) bT λa=>bJ a b λb c d e=>K b c d e a) (aH d fU dh λc d=>hO d (a.add 2) λa e f g i=>aH d oQ kG λd j=>lX j d a e f g i λa=>Ld a d mI λe=>If (e==14) (Ld a (d.add 1) mI λd=>aiY (bs [0]) d a (λa d=>St d (c.add 2) (.string a) λa=>bJ a c λc d e f=>dH a b c d e f λa=>bJ a b λb c d e=>K b c d e a) Kp) (If (e==16) (Ld a (d.add 1) mI λe=>agz K Kp b c d e 0 a) (If (e==17) (Ld a (d.add 4) Sl.v λd=>agy K Kp b c d (d.n:Int) 0 a) (If (e==18) (Ld a (d.add 4) Sl.v λd=>Ix d.a d.n 7 0 λd=>bN a d λd e f g i j k=>yY d e f g i j k a (λa d e f g=>aH g #[(.bool a),(ah d),(.string e),(Sl.v f)] dh λa d=>St d (c.add 3) (.slice (some a) 1 1) λa=>bJ a c λc d e f=>dH a b c d e f λa=>bJ a b λb c d e=>K b c d e a) Kp) (If (e==19) (If (e==19) (Ld a (d.add 4) Sl.v λc=>Ix c.a c.n 7 0 λc=>bN a c λc d e f g i j=>yY c d e f g i j a (λa c d e f=>dH f b a c d e λa=>bJ a b λb c d e=>K b c d e a) Kp) (bJ a c λc d e f=>dH a b c d e f λa=>bJ a b λb c d e=>K b c d e a)) (If (e==20) (Ld a (d.add 4) Sl.v λc=>Ix c.a c.n 7 0 λc=>bN a c λc d e f g i j=>yY c d e f g i j a (λa c d e f=>dH f b a c d e λa=>bJ a b λb c d e=>K b c d e a) Kp) (bJ a c λc d e f=>dH a b c d e f λa=>bJ a b λb c d e=>K b c d e a)))))))) Kp):yY V x a b c d A h K Kp:=cF (Uc K Kp) uw K Tryz.func89 H
def Ub:=mc aD Tryz.f90 (am [(2000003,2),(2001,2)]) [] dy
def MH:=jK Ub 0 7 [.d]
def QV:=fK 27 [1] [.d]
def agx:=lK Ub 2001 12 QV
theorem aBd{K:bF}(H:Ld h (n.add 1) .bool λa=>If a (Ld h (n.add 2) mI λa=>K (a !=18) h) (K false h)):MH K Kp n h:=jf H
theorem azA{K:bF}:V0 (agx K Kp n) (QV n) λa b=>(Ld b (n.add 2) mI λc=>If (c==20) (Ld b ((n.add 2).add 4) Sl.v λc=>If ((c.n:Int)==1) (Ld b ((n.add 2).add 4) Sl.v λc=>Ix c.a c.n 7 0 λc=>bN b c λc d e f g i j=>jO b n c d e f g i j λb=>a (QV n) b) (MH K Kp n b)) (MH K Kp n b)):=arf
theorem aEy{K:bF}(H:gA h V x a b c d A λa b=>agx K Kp a b):II V x a b c d A h K Kp:=cF (Ub K Kp) dy K Tryz.func90 H
def Hg:=mc aD Tryz.f91 (am [(2000003,21),(2004,60129542161),(2000009,60129542929),(41010,524309)]) [] dy
def QU:=fK 54 [0,4,33,34,35] [.p,.d,.s,tI,tI]
def MF:=rZ Hg 2 14951 [.p,.d,.d,tI,.s,tI,tI]
def agw:=lK Hg 2004 58 QU
def MG:=jK Hg 0 7 [.p,.s,.d]
def ME:=rK Hg 3 12 [.p,.s,.d,.b]
theorem aBb{K:bF}(H:Ld h (n.add 4) Sl.v λd=>Ix d.a d.n 7 a λa=>bN h a λa d e f g i j=>bJ h o λk l m p=>AF P a d e f g i j k l m p h (λa d=>If (!a) (K false d) (aO (c+1) λa=>N1 (QU P n A b a) d)) Kp):MF K Kp N1 P n o a A b c h:=jf H
theorem azz{K:bF}:eH (A0:=Int) (agw K Kp P n A a) (QU P n A a) λb c d=>(aS (c<a) (Ix A.a A.n 4 c λe=>bJ d e λe f g i=>aH d fU dh λd j=>dH j d e f g i λe=>Ld e n mI λf=>If (f==17) (MF K Kp b P n d c A a c e) (MF K Kp b P n d 0 A a c e)) (K true d)):=eI
theorem aBc{K:bF}(H:agw K Kp P n A (A.n:Int) 0 h):MG K Kp P A n h:=jf H
theorem ahR{K:bF}(H:If x (K false h) (Ld h n mI λa=>If (a==17) (Ld h (n.add 4) Sl.v λa=>If ((A.n:Int)!=(a.n:Int)) (K false h) (MG K Kp P A n h)) (MG K Kp P A n h))):ME K Kp P A n x h:=jf H
theorem aEx{K:bF}(H:wY h a b c d A λa b=>Ld b a mI λc=>If (c==16) (Ld b (a.add 1) mI λc=>ME K Kp P B a ((B.n:Int)!=c) b) (ME K Kp P B a false b)):Xw P a b c d A B h K Kp:=cF (Hg K Kp) dy K Tryz.func91 H
def DY:=mc aD Tryz.f92 (am [(2001,1),(2000011,9),(3609999,16777217),(3809999,549755813889),(2009,1)]) [(9,(OT.l [0,1,2,3,4,6,7,10,11,13,14,5,8,9,12,15,16,17,18,19,20] .fin)),(7,(OT.l [0,1,2,3,4,6,7,5,8,9,10,11,12] .fin))] dy
def vU:=fK 169 [0] [.t]
def aiu:=rZ DY 1 395 [.t,.i .u8]
def Rw:=fK 169 [0] [.t]
def ag0:=zH DY 2009 808282 Rw
def Nc:=rZ DY 3 101035 [.t,.b]
def Nd:=rZ DY 2 12629 [.t,.b]
def ag1:=lK DY 2001 12 vU
theorem aCd{K:bF}(H:Ix (some ((aJ 1))) 256 1 a λa=>Ld h a (.int .u8) λa=>Lt (gH .and .u8 a 7) λb=>aO b λb=>Nn 4<|Lt (Int.fdiv a (2^(min (Int.toNat 4) (IntKind.bits .u8)))) λa=>Ix (some ((aJ 2))) 16 2 a λa=>Ld h a (.int .u8) λc=>Ld h (a.add 1) (.int .u8) λa=>aH h #[(.int .u8 0),(.int .u8 0)] afp λd e=>St e d (.int .u8 c) λc=>St c (d.add 1) (.int .u8 a) λa=>If (b==2) (aS ((V.size:Int)<2) (K false a) (hY V 1 λb=>Ld a d (.int .u8) λc=>aS (b<c) (K false a) (Ld a (d.add 1) (.int .u8) λb=>hY V 1 λc=>aS (b<c) (K false a) (qz V (some 2) none λb=>N1 (vU b) a)))) (If (b==3) (aS ((V.size:Int)<3) (K false a) (hY V 1 λb=>Ld a d (.int .u8) λc=>aS (b<c) (K false a) (Ld a (d.add 1) (.int .u8) λb=>hY V 1 λc=>aS (b<c) (K false a) (hY V 2 λb=>aS (b<128) (K false a) (hY V 2 λb=>aS ((191:Int)<b) (K false a) (qz V (some 3) none λb=>N1 (vU b) a)))))) (If (b==4) (aS ((V.size:Int)<4) (K false a) (hY V 1 λb=>Ld a d (.int .u8) λc=>aS (b<c) (K false a) (Ld a (d.add 1) (.int .u8) λb=>hY V 1 λc=>aS (b<c) (K false a) (hY V 2 λb=>aS (b<128) (K false a) (hY V 2 λb=>aS ((191:Int)<b) (K false a) (hY V 3 λb=>aS (b<128) (K false a) (hY V 3 λb=>aS ((191:Int)<b) (K false a) (qz V (some 4) none λb=>N1 (vU b) a)))))))) (K false a)))):aiu K Kp N1 V a h:=jf H
theorem az7{K:bF}:eH (A0:=BA) (ag0 K Kp N1) (Rw) λa b c=>(aS ((b.size:Int)>32) (qz b (some 8) none λd=>qz b (some 16) none λe=>qz b (some 24) none λf=>xe b c (λc g=>xe d g (λd g=>Lt (gH .or .u64 c d) λc=>xe e g (λd e=>xe f e (λe f=>Lt (gH .or .u64 d e) λd=>Lt (gH .or .u64 c d) λc=>Lt (gH .and .u64 c 9259542123273814144) λc=>If (c==0) (qz b (some 32) none λb=>a (Rw b) f) (N1 (vU b) f)) Kp) Kp) Kp) Kp) (N1 (vU b) c)):=eI
theorem aCb{K:bF}(H:If x (qz V (some 16) none λa=>ag0 K Kp N1 a h) (N1 (vU V) h)):Nc K Kp N1 V x h:=jf H
theorem aCc{K:bF}(H:If x (qz V (some 8) none λa=>aS ((a.size:Int)>16) (qz a (some 8) none λb=>xe a h (λc d=>xe b d (λb d=>Lt (gH .or .u64 c b) λb=>Lt (gH .and .u64 b 9259542123273814144) λb=>Nc K Kp N1 a (b==0) d) Kp) Kp) (Nc K Kp N1 a false h)) (N1 (vU V) h)):Nd K Kp N1 V x h:=jf H
theorem az8{K:bF}:eH (A0:=BA) (ag1 K Kp) (vU) λa b c=>(aS ((b.size:Int)>0) (hY b 0 λd=>aS (d<128) (qz b (some 1) none λb=>aS ((b.size:Int)>8) (xe b c (λc d=>Lt (gH .and .u64 c 9259542123273814144) λc=>Nd K Kp a b (c==0) d) Kp) (Nd K Kp a b false c)) (aiu K Kp a b d c)) (K true c)):=eI
theorem aFk{K:bF}(H:ag1 K Kp V h):XQ V h K Kp:=cF (DY K Kp) dy K Tryz.func92 H
theorem aEw{K:bF}(H:aS (a>=3) (K (decide (a<=10)) h) (K false h)):Xv a h K Kp:=cZ dy K Tryz.func93 H
theorem AE{K:bF}(H:ajp a h (λa c d=>If (a==64) (K true d) (If c (aO (a-1) λc=>Nn c<|aO ((-1:Int)*2^(min (Int.toNat c) (IntKind.bits .i64))) λc=>aS (b>=c) (aO (a-1) λa=>Nn a<|aO ((1:Int)*2^(min (Int.toNat a) (IntKind.bits .i64))) λa=>K (decide (b<a)) d) (K false d)) (aS (b>=0) (Nn a<|aO ((1:Int)*2^(min (Int.toNat a) (IntKind.bits .i64))) λa=>K (decide (b<a)) d) (K false d)))) Kp):Xu a b h K Kp:=cZ dy K Tryz.func94 H
def DZ:=mc aD Tryz.f95 (am [(2000016,483),(2000025,451),(2000027,259),(2028,771),(65014,9223372036854776195)]) [] dr
def RB:=fK 92 [0,1,8,9] [.t,tI,tI,tI]
def Wc:=lK DZ 2028 8186 RB
def aiH:=jK DZ 2 1023 [.t,tI,tI]
def WU:=rK DZ 4 2044 [.t,tI,.i .u8,tI,.b]
def Az:=jK DZ 1 511 [.t,tI,.i .u8,.i .u8,tI]
def yW:=jK DZ 0 255 [.t,tI,.i .u8,.i .u8,.i .u8,tI]
theorem aAf{K:bQ}:eH (A0:=Int) (Wc K Kp V a b) (RB V a b) λc d e=>(aS (d<b) (aO (a+d) λf=>hY V f λf=>aS (f<128) (K 0 e) (aO (a+d) λf=>hY V f λf=>aS (f>191) (K 0 e) (aO (d+1) λd=>c (RB V a b d) e))) (K b e)):=eI
theorem aCF{K:bQ}(H:Wc K Kp V a b 2 h):aiH K Kp V a b h:=jf H
theorem aiG{K:bQ}(H:If x (K 0 h) (aO (a+1) λd=>hY V d λd=>aS (d>b) (K 0 h) (aiH K Kp V a c h))):WU K Kp V a b c x h:=jf H
theorem aCG{K:bQ}(H:aO (a+d) λe=>aS (e>(V.size:Int)) (WU K Kp V a c d true h) (aO (a+1) λe=>hY V e λe=>WU K Kp V a c d (decide (e<b)) h)):Az K Kp V a b c d h:=jf H
theorem aCH{K:bQ}(H:If (b==224) (Az K Kp V a 160 d e h) (If (b==237) (Az K Kp V a c 159 e h) (If (b==240) (Az K Kp V a 144 d e h) (If (b==244) (Az K Kp V a c 143 e h) (Az K Kp V a c d e h))))):yW K Kp V a b c d e h:=jf H
theorem aF1{K:bQ}(H:aS (a>=(V.size:Int)) (K 0 h) (hY V a λb=>aS (b<128) (K 1 h) (aS (b>=194) (aS (b<=223) (yW K Kp V a b 128 191 2 h) (aS (b>=224) (aS (b<=239) (yW K Kp V a b 128 191 3 h) (aS (b>=240) (aS (b<=244) (yW K Kp V a b 128 191 4 h) (K 0 h)) (K 0 h))) (aS (b>=240) (aS (b<=244) (yW K Kp V a b 128 191 4 h) (K 0 h)) (K 0 h)))) (aS (b>=224) (aS (b<=239) (yW K Kp V a b 128 191 3 h) (aS (b>=240) (aS (b<=244) (yW K Kp V a b 128 191 4 h) (K 0 h)) (K 0 h))) (aS (b>=240) (aS (b<=244) (yW K Kp V a b 128 191 4 h) (K 0 h)) (K 0 h)))))):Yi V a h K Kp:=cF (DZ K Kp) dr K Tryz.func95 H
def Hh:=mc aD Tryz.f96 (am [(2000003,12),(2004,44),(41012,262156),(41019,33554444)]) [] dy
def QK:=fK 55 [2,3,5] [.d,.d,tI]
def ags:=lK Hh 2004 58 QK
def ahO:=jK Hh 0 7 [.d,.d]
def Mw:=rK Hh 3 12 [.d,.d,.b]
def Mx:=rK Hh 2 12 [.d,.d,.b]
theorem azt{K:bF}:eH (A0:=Int) (ags K Kp n o) (QK n o) λa b c=>(Ld c (n.add 3) Sl.v λd=>aS (b<(d.n:Int)) (Ld c (n.add 3) Sl.v λd=>Ix d.a d.n 4 b λd=>bJ c d λd e f g=>Ld c (o.add 3) Sl.v λi=>Ix i.a i.n 4 b λi=>bJ c i λi j k l=>IJ d e f g i j k l c (λc d=>If (!c) (K false d) (aO (b+1) λb=>a (QK n o b) d)) Kp) (K true c)):=eI
theorem aA5{K:bF}(H:ags K Kp n o 0 h):ahO K Kp n o h:=jf H
theorem ahM{K:bF}(H:If x (K false h) (Ld h (n.add 3) Sl.v λa=>Ld h (o.add 3) Sl.v λb=>If ((a.n:Int)!=(b.n:Int)) (K false h) (ahO K Kp n o h))):Mw K Kp n o x h:=jf H
theorem ahN{K:bF}(H:If x (Mw K Kp n o true h) (Ld h (n.add 2) .string λa=>Ld h (o.add 2) .string λb=>Mw K Kp n o (!(a.toList==b.toList)) h)):Mx K Kp n o x h:=jf H
theorem aEq{K:bF}(H:iK h x a V A λa c=>iK c y b W B λb c=>Ld c a .bool λd=>Ld c b .bool λe=>If (!(d==e)) (Mx K Kp a b true c) (Ld c (a.add 1) mI λd=>Ld c (b.add 1) mI λe=>Mx K Kp a b (d !=e) c)):IJ x a V A y b W B h K Kp:=cF (Hh K Kp) dy K Tryz.func96 H
def He:=mc aD Tryz.f97 (am [(2000005,9),(2011,73),(2018,257),(6109999,649037107316853453566312041152513)]) [] dr
def QN:=fK 122 [0,3,6] [.p,.d,tI]
def V6:=lK He 2011 8106 QN
def QM:=fK 122 [0,8] [.p,tI]
def V5:=lK He 2018 32442 QM
def Wf:=jK He 3 64895 [.p,.b]
def ahQ:=jK He 0 15 [.p,.d]
theorem azv{K:bQ}:eH (A0:=Int) (V6 K Kp P n) (QN P n) λa b c=>(Ld c (n.add 1) mI λd=>aS (b<d) (NN P λd=>Ld c (d.add 18) Sl.v λd=>Ix d.a d.n 1 0 λd=>Ld c d .pointer λd=>uk d c (λc d=>If (c !=0) (K c d) (aO (b+1) λb=>a (QN P n b) d)) Kp) (K 3 c)):=eI
theorem azu{K:bQ}:eH (A0:=Int) (V5 K Kp P) (QM P) λa b c=>(NN P λd=>Ld c (d.add 18) Sl.v λd=>aS (b<(d.n:Int)) (NN P λd=>Ld c (d.add 18) Sl.v λd=>Ix d.a d.n 1 b λd=>Ld c d .pointer λd=>uk d c (λc d=>If (c !=0) (K c d) (aO (b+1) λb=>a (QM P b) d)) Kp) (K 3 c)):=eI
theorem ahP{K:bQ}(H:If x (NN P λa=>Ld h (a.add 18) Sl.v λa=>Ix a.a a.n 1 0 λa=>Ld h a .pointer λa=>uk a h (λa b=>If (a !=0) (K a b) (K 3 b)) Kp) (K 3 h)):Wf K Kp P x h:=jf H
theorem aA6{K:bQ}(H:NN P λa=>Ld h (a.add 7) mI λa=>aS (a>=4096) (K 3 h) (NN P λa=>Ld h (a.add 7) mI λa=>aO (a+1) λa=>NN P λb=>St h (b.add 7) (ah a) λa=>Ld a n mI λb=>If (b==16) (V6 K Kp P n 0 a) (If (b==17) (V5 K Kp P 0 a) (If (b==19) (NN P λb=>Ld a (b.add 17) Sl.v λc=>Ld a (n.add 3) mI λd=>Oe d a (λd e=>aU a e (b.add 17) 1 <|aS ((c.n:Int)>=d) (K 102 e) (NN P λa=>Ld e (a.add 18) Sl.v λa=>Ix a.a a.n 1 0 λa=>Ld e a .pointer λa=>uk a e (λa b=>If (a !=0) (K a b) (K 3 b)) Kp)) Kp) (If (b==18) (Wf K Kp P (b==18) a) (Wf K Kp P (b==20) a)))))):ahQ K Kp P n h:=jf H
theorem aEs{K:bQ}(H:NN P λa=>hO h (a.add 2) λa b c d e=>aH h oQ kG λf g=>lX g f a b c d e λa=>NN P λb=>bN a b λb c d e g i j=>za b c d e g i j a (λa b=>aS (a<=4194304) (NN P λa=>bN b a λa c d e f g i=>XC a c d e f g i b (λa b c d _ e=>aH e fU dh λe f=>dH f e a b c d λa=>bJ a e λb c d e=>um P b c d e a (λa b=>K a b) Kp) Kp) (ahQ K Kp P f b)) Kp):uk P h K Kp:=cF (He K Kp) dr K Tryz.func97 H
theorem aEr{K:bQ}(H:If (a==3) (K 128 h) (If (a==7) (K 256 h) (K 4097 h))):Oe a h K Kp:=cZ dr K Tryz.func98 H
def qT:=mc aD Tryz.f99 (am [(2000009,316),(2000015,316),(2000021,316),(2022,9304595970494411110326649421962412348),(64014,1393805879504134440757092718689944556560700),(2016,4436777100798802905238461219132),(2010,270799383593676935134183740),(3400005,134218044),(3600007,281474976710972),(47008,302231454903657293676860),(45008,72057594037928252),(45013,2305843009213694268),(43012,549755814332)]) [] nP
def JY:=fK 161 [2,3,4,5,8,120,121,122] [.d,.d,.d,tI,tI,.s,tI,tI]
def NC:=rK1 qT 4 130354 [.d,.d,.d,tI,tI,tI,.d,.s,tI,tI,.b]
def ahf:=lK qT 2022 1018 JY
def WZ:=jK qT 2 127 [.d,.d,.d,tI,tI]
def RF:=fK 161 [2,3,4,5,8,99,100,101] [.d,.d,.d,tI,tI,.s,tI,tI]
def ahe:=lK qT 2016 506 RF
def W0:=jK qT 1 63 [.d,.d,.d,tI,tI]
def RE:=fK 161 [2,3,4,5,8,85,86,87] [.d,.d,.d,tI,tI,.s,tI,tI]
def ahd:=lK qT 2010 250 RE
def W2:=jK qT 0 31 [.d,.d,.d,tI,tI]
def NG:=rK qT 9 1950 [.d,.d,.d,tI,tI,.b]
def IA:=jK qT 8 487 [.d,.d,.d,tI,tI,.b]
def IC:=rK qT 11 486 [.d,.d,.d,tI,tI,.b]
def NF:=rK qT 10 486 [.d,.d,.d,tI,tI,.b]
def IB:=jK qT 7 121 [.d,.d,.d,tI,tI,.b]
def ND:=rK qT 12 120 [.d,.d,.d,tI,tI,tI,.b]
theorem aCR{K:iS}(H:If x (aO (a+c) λa=>nB 82 a h (λa b c d=>dW d p a b c λa=>eG a p λb c d=>K b c d a) Kp) (Ld h (n.add 2) mI λf=>If (f==17) (Ld h q mI λf=>aS (f<b) (aO (a+c) λa=>nB 82 a h (λa b c d=>dW d p a b c λa=>eG a p λb c d=>K b c d a) Kp) (aO (e+1) λc=>N1 (JY n o p a b A d c) h)) (aO (e+1) λc=>N1 (JY n o p a b A d c) h))):NC K Kp N1 n o p a b c q A d e x h:=jf H
theorem aAr{K:iS}:eH (A0:=Int) (ahf K Kp n o p a b A c) (JY n o p a b A c) λd e f=>(aS (e<c) (Ix A.a A.n 6 e λg=>cr f g λg i j k l m=>aH f cY bX λf q=>cV q f g i j k l m λg=>Ld g (n.add 2) mI λi=>If (i==16) (Ld g f mI λi=>Ld g ((n.add 2).add 1) mI λj=>aO (b*j) λj=>NC K Kp d n o p a b e f A c e (decide (i<j)) g) (NC K Kp d n o p a b e f A c e false g)) (bN f n λa b c d e g i=>cr f o λj k l m n q=>Ye a b c d e g i j k l m n q f (λa b c d=>dW d p a b c λa=>eG a p λb c d=>K b c d a) Kp)):=eI
theorem aCS{K:iS}(H:Ld h (o.add 4) Sl.v λc=>ahf K Kp n o p a b c (c.n:Int) 0 h):WZ K Kp n o p a b h:=jf H
theorem aAq{K:iS}:eH (A0:=Int) (ahe K Kp n o p a b A c) (RF n o p a b A c) λd e f=>(aS (e<c) (Ix A.a A.n 1 e λg=>Ld f g Sl.v λg=>hO f (n.add 2) λi j k l m=>Yf i j k l m e b (g.n:Int) f (λf i=>aS ((g.n:Int)<f) (nB 82 e i (λa b c d=>dW d p a b c λa=>eG a p λb c d=>K b c d a) Kp) (aO (e+1) λe=>d (RF n o p a b A c e) i)) Kp) (WZ K Kp n o p a b f)):=eI
theorem aCT{K:iS}(H:Ld h (o.add 3) Sl.v λc=>ahe K Kp n o p a b c (c.n:Int) 0 h):W0 K Kp n o p a b h:=jf H
theorem aAp{K:iS}:eH (A0:=Int) (ahd K Kp n o p a b A c) (RE n o p a b A c) λd e f=>(aS (e<c) (Ix A.a A.n 1 e λg=>Ld f g Sl.v λg=>aS ((g.n:Int)>65536) (nB 4 e f (λa b c d=>dW d p a b c λa=>eG a p λb c d=>K b c d a) Kp) (aO (e+1) λe=>d (RE n o p a b A c e) f)) (W0 K Kp n o p a b f)):=eI
theorem aCU{K:iS}(H:Ld h (o.add 3) Sl.v λc=>ahd K Kp n o p a b c (c.n:Int) 0 h):W2 K Kp n o p a b h:=jf H
theorem aiN{K:iS}(H:If x (nB 3 0 h (λa b c d=>dW d p a b c λa=>eG a p λb c d=>K b c d a) Kp) (aS (b>4096) (nB 3 0 h (λa b c d=>dW d p a b c λa=>eG a p λb c d=>K b c d a) Kp) (W2 K Kp n o p a b h))):NG K Kp n o p a b x h:=jf H
theorem aiJ{K:iS}(H:If x (nB 81 0 h (λa b c d=>dW d p a b c λa=>eG a p λb c d=>K b c d a) Kp) (Ld h o mI λc=>aS (c>4096) (NG K Kp n o p a b true h) (Ld h (o.add 1) mI λc=>NG K Kp n o p a b (decide (c>4096)) h))):IA K Kp n o p a b x h:=jf H
theorem aiL{K:iS}(H:If x (IA K Kp n o p a b true h) (Ld h (o.add 2) mI λc=>Ld h o mI λd=>IA K Kp n o p a b (decide (c>d)) h)):IC K Kp n o p a b x h:=jf H
theorem aiM{K:iS}(H:If x (IC K Kp n o p a b true h) (Ld h (o.add 2) mI λc=>IC K Kp n o p a b (decide (c<0)) h)):NF K Kp n o p a b x h:=jf H
theorem aiK{K:iS}(H:If x (nB 80 0 h (λa b c d=>dW d p a b c λa=>eG a p λb c d=>K b c d a) Kp) (Ld h o mI λc=>aS (c<0) (NF K Kp n o p a b true h) (Ld h (o.add 1) mI λc=>NF K Kp n o p a b (decide (c<0)) h))):IB K Kp n o p a b x h:=jf H
theorem W1{K:iS}(H:If x (IB K Kp n o p a c true h) (Ld h (o.add 5) Sl.v λd=>IB K Kp n o p a c ((d.n:Int)!=b) h)):ND K Kp n o p a b c x h:=jf H
theorem aGe{K:iS}(H:gA h V x a b c d A λa b=>n9 b e f g B C D λb c=>aH c kI kF λc d=>hO d (a.add 2) λe f g i j=>Yg e f g i j d (λd e f g=>Ld g (b.add 1) mI λi=>Ld g b mI λj=>aO (i+j) λi=>Ld g (b.add 3) Sl.v λj=>If ((j.n:Int)!=d) (ND K Kp a b c d f i true g) (Ld g (b.add 4) Sl.v λj=>ND K Kp a b c d f i ((j.n:Int)!=e) g)) Kp):Yq V x a b c d A e f g B C D h K Kp:=cF (qT K Kp) nP K Tryz.func99 H
def Lx:=mc aD Tryz.f100 (am [(3500006,24604),(2008,50331672),(2020,7083549724304467820572)]) [] nP
def aqQ:=fK 95 [3,4,24,25] [.d,.d,tI,tI]
def aAo:=lK Lx 2008 1722 aqQ
def aqP:=fK 95 [2,3,4,71,72] [.d,.d,.d,tI,tI]
def aAn:=lK Lx 2020 6906 aqP
def Nz:=jK Lx 0 53 [.d,.d,.d,tI,.b]
theorem aCQ{K:iS}(H:If x (bN h n λa b c d e f g=>cr h o λi j k l m n=>aFV a b c d e f g i j k l m n h (λa b c d=>dW d p a b c λa=>eG a p λb c d=>K b c d a) Kp) (If (a==18) (Ld h o mI λa=>aAo K Kp o p a 0 h) (If (a==19) (Ld h o mI λa=>aAn K Kp n o p a 0 h) (dW h p 0 bT 0 λa=>eG a p λb c d=>K b c d a)))):Nz K Kp n o p a x h:=jf H
theorem aGd{K:iS}(H:gA h V x a b c d A λa b=>n9 b e f g B C D λb c=>aH c kI kF λc d=>Ld d (a.add 2) mI λe=>If (e==12) (Nz K Kp a b c e (e==12) d) (If (e==13) (Nz K Kp a b c e (e==13) d) (Nz K Kp a b c e (e==15) d))):Yp V x a b c d A e f g B C D h K Kp:=cF (Lx K Kp) nP K Tryz.func100 H
theorem aGn{K:gz}(H:n9 h a b c A B C λa b=>Ld b (a.add 5) Sl.v λc=>aS ((c.n:Int)>0) (Ld b (a.add 5) Sl.v λa=>K a b) (Ld b (a.add 4) Sl.v λa=>K a b)):Yu a b c A B C h K Kp:=cZ gS K Tryz.func101 H
def BS:=mc aD Tryz.f104 (am [(2005,100664220),(2000036,100677532),(2037,21969856073853382673425262981226832456358244055624221460380),(4600017,4505798751305628),(2023,70988433612780846483815480180636),(2033,100745116)]) [(16,(OT.l [0,1,2,3,4,5,6,7,8,9,11,12,13,14,15,10,16,17,18,19,20] .fin)),(18,(OT.l [0,1,2,3,4,6,7,8,9,10,11,5,12,13,14] .fin)),(33,(OT.l [0,1,2,3,4,5,6,7,9,8,10] .fin))] gS
def F4:=fK 207 [2,3,4,7,8,25,9,26] [.s,.d,.d,.d,.s,tI,tI,tI]
def RD:=fK 207 [2,3,4,7,8,9,10,25,26,191,192,193] [.s,.d,.d,.d,.s,tI,tI,tI,tI,.s,tI,tI]
def ahb:=zH BS 2037 2051326 RD
def AA:=rZ BS 1 512831 [.s,.d,.d,.d,.s,tI,tI,tI,tI,tI,tI]
def aqO:=fK 207 [2,3,4,7,8,9,10,11,12,13,25,26,103,104,105] [.s,.d,.d,.d,.s,tI,tI,tI,tI,tI,tI,tI,.s,tI,tI]
def aAk:=zH BS 2023 8402219002 aqO
def aqN:=fK 207 [2,3,4,7,8,10,11,12,13,16,25,26,9] [.s,.d,.d,.d,.s,tI,tI,tI,tI,.d,tI,tI,tI]
def aAj:=zH BS 2033 1075484033012 aqN
def WY:=rZ BS 3 16410583 [.s,.d,.d,.d,.s,tI,tI,tI,tI,tI,tI,tI,tI,.b]
def ahc:=lK BS 2005 250 F4
theorem aAl{K:gz}:eH (A0:=Int) (ahb K Kp N1 A n o p B a b c d C e) (RD A n o p B a b c d C e) λf g i=>(aS (g<e) (Ix C.a C.n 1 g λj=>Ld i j mI λj=>Ix B.a B.n 1 b λk=>Ld i k mI λk=>aO (k+j) λj=>Ix B.a B.n 1 b λk=>St i k (ah j) λi=>aO (g+1) λg=>f (RD A n o p B a b c d C e g) i) (aO (d+1) λb=>N1 (F4 A n o p B c a b) i)):=eI
theorem aCP{K:gz}(H:ajy A c d h (λc d=>ahb K Kp N1 A n o p B a b e f c (c.n:Int) 0 d) Kp):AA K Kp N1 A n o p B a b c d e f h:=jf H
theorem aCO{K:gz}(H:If x (Ix B.a B.n 1 b λi=>Ld h i mI λj=>Ld h (o.add 3) Sl.v λk=>Ix k.a k.n 1 1 λk=>Ld h k Sl.v λk=>aO (c+1) λl=>Ld h (o.add 3) Sl.v λm=>Ix m.a m.n 1 1 λm=>Ld h m Sl.v λq=>IT k l h (λk l=>aU h l m 1 <|aU h l (o.add 3) 1 <|aU h l i 1 <|IT q c l (λc m=>aU l m i 1 <|aO (k-c) λc=>aO (j+c) λc=>Ix B.a B.n 1 b λi=>St m i (ah c) λc=>AA K Kp N1 A n o p B a b d e f g c) Kp) Kp) (If (i==15) (Ld h (o.add 3) Sl.v λd=>Ix d.a d.n 1 1 λd=>Ld h d Sl.v λd=>Ld h (o.add 3) Sl.v λe=>Ix e.a e.n 1 1 λe=>Ld h e Sl.v λi=>aO (c+1) λj=>IT d c h (λc d=>aU h d e 1 <|aU h d (o.add 3) 1 <|IT i j d (λd e=>AA K Kp N1 A n o p B a b c d f g e) Kp) Kp) (If (i==16) (Ld h (p.add 1) mI λd=>aO (c*d) λd=>aO (c+1) λc=>Ld h (p.add 1) mI λe=>aO (c*e) λc=>AA K Kp N1 A n o p B a b d c f g h) (If (i==17) (aAk K Kp N1 A n o p B a b c d e f g A (A.n:Int) 0 h) (If (i==18) (Ix B.a B.n 1 b λi=>Ld h i mI λj=>Ld h (o.add 3) Sl.v λk=>Ix k.a k.n 1 0 λk=>Ld h k Sl.v λl=>Ix l.a l.n 1 c λl=>Ld h l (.int .u8) λm=>Ix A.a A.n 1 m λm=>Ld h m Sl.v λq=>Ld h (o.add 3) Sl.v λr=>Ix r.a r.n 1 1 λr=>Ld h r Sl.v λr=>IT r c h (λc r=>aU h r m 1 <|aU h r l 1 <|aU h r k 1 <|aU h r (o.add 3) 1 <|aU h r i 1 <|Ix q.a q.n 1 c λc=>Ld r c mI λc=>aO (j+c) λc=>Ix B.a B.n 1 b λi=>St r i (ah c) λc=>AA K Kp N1 A n o p B a b d e f g c) Kp) (If (i==19) (Ix A.a A.n 1 0 λi=>Ld h i Sl.v λj=>bN h n λk l m q r s t=>cr h o λu v w x y z=>aFU k l m q r s t u v w x y z c h (λc k=>aU h k i 1 <|Ix j.a j.n 1 c λc=>Ld k c mI λc=>Ix B.a B.n 1 b λi=>St k i (ah c) λc=>AA K Kp N1 A n o p B a b d e f g c) Kp) (If (i==20) (Ld h (o.add 4) Sl.v λi=>Ix i.a i.n 6 0 λi=>cr h i λi j k l m q=>aH h cY bX λr s=>cV s r i j k l m q λi=>aAj K Kp N1 A n o p B b c d e r f g a i) (AA K Kp N1 A n o p B a b d e f g h)))))))):WY K Kp N1 A n o p B a b c d e f g i x h:=jf H
theorem aAm{K:gz}:jB (A0:=Int) (A1:=Int) (ahc K Kp A n o p B a) (F4 A n o p B a) λb c d e=>(aS (d<a) (Ld e (o.add 1) mI λf=>aO (f+d) λf=>Ix B.a B.n 1 d λg=>St e g (ah 16) λe=>bN e n λg i j k l m q=>cr e o λr s t u v w=>OC g i j k l m q r s t u v w f e (λe g=>If e (aO (d+1) λd=>b (F4 A n o p B a c d) g) (Ld g p mI λe=>If (e==14) (Ix B.a B.n 1 d λe=>Ld g e mI λe=>Ld g (p.add 1) mI λf=>aO (e+f) λe=>Ix B.a B.n 1 d λf=>St g f (ah e) λe=>AA K Kp b A n o p B c d 0 0 a d e) (If (e==12) (WY K Kp b A n o p B c d f 0 0 a d e (e==12) g) (WY K Kp b A n o p B c d f 0 0 a d e (e==13) g)))) Kp) (K B e)):=jD
theorem aGb{K:gz}(H:gA h V x a b c d A λa b=>n9 b e f g B C D λb c=>hO c (a.add 2) λd e f g i=>aH c oQ kG λc j=>lX j c d e f g i λd=>Ld d b mI λe=>dO d Y6 #[(ah 0)] 1 8 e e λd e=>ahc K Kp E a b c d (d.n:Int) 0 0 e):Yo V x a b c d A e f g B C D E h K Kp:=cF (BS K Kp) gS K Tryz.func104 H
theorem aGo{K:qx}(H:aH h fU dh λb c=>NN P λd=>Ld c (d.add 13) mI λd=>aO (d+a) λa=>Ym P a Q c (λa c d e f=>dH f b a c d e λa=>bJ a b λb c d e=>K b c d e a) Kp):Yv P a Q h K Kp:=cZ uw K Tryz.func106 H
def aeq:=mc aD Tryz.f108 (am [(2000002,1)]) [] C9
def ait:=jK aeq 0 7 [.t]
theorem aCa{K:Eu}(H:hY V 0 λa=>Wr .u64 a λa=>hY V 1 λb=>Wr .u64 b λb=>Nn 8<|Wr .u64 (b*2^(min (Int.toNat 8) (IntKind.bits .u64))) λb=>Lt (gH .or .u64 a b) λa=>hY V 2 λb=>Wr .u64 b λb=>Nn 16<|Wr .u64 (b*2^(min (Int.toNat 16) (IntKind.bits .u64))) λb=>Lt (gH .or .u64 a b) λa=>hY V 3 λb=>Wr .u64 b λb=>Nn 24<|Wr .u64 (b*2^(min (Int.toNat 24) (IntKind.bits .u64))) λb=>Lt (gH .or .u64 a b) λa=>hY V 4 λb=>Wr .u64 b λb=>Nn 32<|Wr .u64 (b*2^(min (Int.toNat 32) (IntKind.bits .u64))) λb=>Lt (gH .or .u64 a b) λa=>hY V 5 λb=>Wr .u64 b λb=>Nn 40<|Wr .u64 (b*2^(min (Int.toNat 40) (IntKind.bits .u64))) λb=>Lt (gH .or .u64 a b) λa=>hY V 6 λb=>Wr .u64 b λb=>Nn 48<|Wr .u64 (b*2^(min (Int.toNat 48) (IntKind.bits .u64))) λb=>Lt (gH .or .u64 a b) λa=>hY V 7 λb=>Wr .u64 b λb=>Nn 56<|Wr .u64 (b*2^(min (Int.toNat 56) (IntKind.bits .u64))) λb=>Lt (gH .or .u64 a b) λa=>K a h):ait K Kp V h:=jf H
theorem aFj{K:Eu}(H:ait K Kp V h):xe V h K Kp:=cF (aeq K Kp) C9 K Tryz.func108 H
theorem AD{K:afL}(H:aS (a>=3) (aS (a<=6) (aO (a-3) λa=>Nn a<|aO ((8:Int)*2^(min (Int.toNat a) (IntKind.bits .i64))) λa=>K a true h) (aO (a-7) λa=>Nn a<|aO ((8:Int)*2^(min (Int.toNat a) (IntKind.bits .i64))) λa=>K a false h)) (aO (a-7) λa=>Nn a<|aO ((8:Int)*2^(min (Int.toNat a) (IntKind.bits .i64))) λa=>K a false h)):ajp a h K Kp:=cZ aaB K Tryz.func109 H
def Lo:=mc aD Tryz.f110 (am [(2011,120),(2016,152),(2001004,844424930132120)]) [] dr
def Q9:=fK 81 [3,5,4,6] [.d,tI,tI,tI]
def agE:=lK Lo 2011 32118 Q9
def Q8:=fK 81 [3,4,7] [.d,tI,tI]
def ahZ:=rZ Lo 2 257001 [.d,tI,tI,tI,.b]
def agD:=lK Lo 2016 64250 Q8
theorem azK{K:bQ}:jB (A0:=Int) (A1:=Int) (agE K Kp n a) (Q9 n a) λb c d e=>(Ld e (n.add 1) mI λf=>aS (d<f) (aS (c<=4194304) (aO (c+a) λc=>aO (d+1) λd=>b (Q9 n a c d) e) (aS (c>4194304) (K 4194305 e) (K c e))) (aS (c>4194304) (K 4194305 e) (K c e))):=jD
theorem aBo{K:bQ}(H:Ld h (n.add 4) Sl.v λc=>Ix c.a c.n 7 b λc=>bN h c λc d e f g i j=>za c d e f g i j h (λc d=>aO (a+c) λa=>aO (b+1) λb=>N1 (Q8 n a b) d) Kp):ahZ K Kp N1 n a b c x h:=jf H
theorem azJ{K:bQ}:jB (A0:=Int) (A1:=Int) (agD K Kp n) (Q8 n) λa b c d=>(Ld d (n.add 4) Sl.v λe=>aS (c<(e.n:Int)) (aS (b<=4194304) (ahZ K Kp a n b c b (decide (b<=4194304)) d) (aS (b>4194304) (K 4194305 d) (K b d))) (aS (b>4194304) (K 4194305 d) (K b d))):=jD
theorem aEH{K:bQ}(H:gA h V x a b c d A λa b=>hO b (a.add 2) λc d e f g=>aH b oQ kG λb i=>lX i b c d e f g λc=>Ld c (a.add 1) .bool λa=>If a (K 16 c) (Ld c b mI λa=>If (a==14) (Ld c (b.add 1) mI λa=>aO ((16:Int)+a) λa=>aS (a>4194304) (K 4194305 c) (K a c)) (If (a==16) (Ld c (b.add 4) Sl.v λa=>Ix a.a a.n 7 0 λa=>bN c a λa d e f g i j=>za a d e f g i j c (λa c=>agE K Kp b a 16 0 c) Kp) (If (a==17) (agD K Kp b 16 0 c) (If (a==18) (Ld c (b.add 4) Sl.v λa=>Ix a.a a.n 7 0 λa=>bN c a λa b d e f g i=>za a b d e f g i c (λa b=>aO ((16:Int)+a) λa=>aS (a>4194304) (K 4194305 b) (K a b)) Kp) (If (a==19) (If (a==19) (Ld c (b.add 4) Sl.v λa=>Ix a.a a.n 7 0 λa=>bN c a λa b d e f g i=>za a b d e f g i c (λa b=>K a b) Kp) (aS ((16:Int)>4194304) (K 4194305 c) (K 16 c))) (If (a==20) (Ld c (b.add 4) Sl.v λa=>Ix a.a a.n 7 0 λa=>bN c a λa b d e f g i=>za a b d e f g i c (λa b=>K a b) Kp) (aS ((16:Int)>4194304) (K 4194305 c) (K 16 c))))))))):za V x a b c d A h K Kp:=cF (Lo K Kp) dr K Tryz.func110 H
theorem aEG{K:VE}(H:gA h V x a b c d A λa b=>aH b fU dh λb c=>bN c a λd e f g i j k=>Xt d e f g i j k c (λc d=>If (!c) (dH d b false 0 (bs []) bT λa=>bJ a b λb c d e=>K b c d e 5 a) (bN d a λc e f g i j k=>CE c e f g i j k 4194304 d (λc d=>aS (c>4194304) (dH d b false 0 (bs []) bT λa=>bJ a b λb c d e=>K b c d e 3 a) (bN d a λa c e f g i j=>CD a c e f g i j d (λa c d e f=>dH f b a c d e λa=>bJ a b λb c d e=>K b c d e 0 a) Kp)) Kp)) Kp):XC V x a b c d A h K Kp:=cZ PS K Tryz.func111 H
def aex:=mc aD Tryz.f112 (am [(2000005,18)]) [(5,(OT.l [0,1,2,3,4,5,8,6,7,9,10,11] .fin))] PN
def Nu:=jK aex 0 15 [.d,tI]
theorem aCD{K:VD}(H:Ld h n mI λb=>Ix (some ((aJ 0))) 21 4 b λb=>Ld h (b.add 2) mI λc=>hO h n λd e f g i=>X4 d e f g i h (λd e=>aU h e (b.add 2) 1 <|aU h e n 1 <|K c (d.n:Int) a e) Kp):Nu K Kp n a h:=jf H
theorem aFY{K:VD}(H:wY h a b c d A λa b=>hO b a λc d e f g=>IQ c d e f g b (λb c=>If (!b) (K (-1) (-1) (-1) c) (Ld c a mI λb=>If (b==19) (Nu K Kp a 1 c) (Nu K Kp a 0 c))) Kp):Yg a b c d A h K Kp:=cF (aex K Kp) PN K Tryz.func112 H
def Lw:=mc aD Tryz.f113 (am [(3500006,262166),(3700008,134217748),(48008,35184372088852)]) [] dr
def Nr:=rK Lw 2 1662 [tI,.d,.b]
def Nt:=jK Lw 1 415 [tI,.d,.b]
def Iy:=jK Lw 0 103 [tI,tI,.d,.b]
theorem aCA{K:bQ}(H:If x (aO (a+1) λa=>aO ((4:Int)*a) λa=>K a h) (Ld h n mI λb=>If (b==15) (aO (a+1) λa=>aO ((4:Int)*a) λa=>K a h) (hO h n λb c d e f=>X2 b c d e f h (λb c=>aO (a*b) λa=>K a c) Kp))):Nr K Kp a n x h:=jf H
theorem aCB{K:bQ}(H:If x (X3 a h (λa b=>K a b) Kp) (Ld h n mI λb=>If (b==12) (Nr K Kp a n true h) (Ld h n mI λb=>Nr K Kp a n (b==13) h))):Nt K Kp a n x h:=jf H
theorem aCC{K:bQ}(H:If x (K 0 h) (If (a==0) (Nt K Kp b n true h) (Ld h n mI λa=>Nt K Kp b n (a==2) h))):Iy K Kp a b n x h:=jf H
theorem aFX{K:bQ}(H:wY h a b c d A λa b=>Ld b a mI λc=>If (c==18) (aO ((3:Int)*e) λa=>aO ((1:Int)+a) λa=>aO (f*a) λa=>K a b) (If (e==0) (If (g==0) (Iy K Kp e f a (g==0) b) (Iy K Kp e f a (e==2) b)) (Iy K Kp e f a (e==2) b))):Yf a b c d A e f g h K Kp:=cF (Lw K Kp) dr K Tryz.func113 H
theorem aFW{K:iS}(H:gA h V x a b c d A λa b=>n9 b e f g B C D λb c=>aH c kI kF λc d=>bN d a λe f g i j k l=>cr d b λm n p q r s=>Xe e f g i j k l m n p q r s d (λd e=>Ld e (b.add 2) mI λb=>If (b !=d) (nB 81 1 e (λa b d e=>dW e c a b d λa=>eG a c λb c d=>K b c d a) Kp) (aS (d>0) (Ld e (a.add 1) .bool λa=>If (!a) (nB 81 1 e (λa b d e=>dW e c a b d λa=>eG a c λb c d=>K b c d a) Kp) (dW e c 0 bT 0 λa=>eG a c λb c d=>K b c d a)) (dW e c 0 bT 0 λa=>eG a c λb c d=>K b c d a))) Kp):Ye V x a b c d A e f g B C D h K Kp:=cZ nP K Tryz.func114 H
def aeD:=mc aD Tryz.f117 (am [(2000005,20)]) [] dy
def aiT:=jK aeD 0 15 [tI,.d]
theorem aCZ{K:bF}(H:Ld h (n.add 3) Sl.v λb=>Ix b.a b.n 1 0 λb=>Ld h b Sl.v λb=>Yn b a h (λa _ b=>K (!a) b) Kp):aiT K Kp a n h:=jf H
theorem aGp{K:bF}(H:gA h V x a b c d A λa b=>n9 b e f g B C D λb c=>Ld c (a.add 2) mI λd=>If (d==1) (K true c) (Ld c (a.add 2) mI λa=>OB a c (λa c=>If (!a) (K false c) (Ld c (b.add 3) Sl.v λa=>Ix a.a a.n 1 0 λa=>Ld c a Sl.v λa=>If ((a.n:Int)==0) (K false c) (aiT K Kp i b c))) Kp)):OC V x a b c d A e f g B C D i h K Kp:=cF (aeD K Kp) dy K Tryz.func117 H
theorem aFT{K:gz}(H:If (a==b) (K bT h) (Ix A.a A.n 1 0 λc=>Ld h c Sl.v λc=>jA c 1 (some a) (some b) none λa=>K a h)):ajy A a b h K Kp:=cZ gS K Tryz.func119 H
theorem aF9{K:qx}(H:aH h fU dh λb c=>NK P a c (λc d=>If c (IS Q 16 d (λa=>dH a b true 0 (bs []) bT λa=>bJ a b λb c d e=>K b c d e a) Kp) (NN P λc=>Ld d (c.add 16) id λc=>fE aD c "colonnade/array.read" [(.pointer P),(ah a),(.pointer Q)] d (λa c=>∃d:Bool,∃e:Int,∃f:BA,∃g:Sl,a=(.agg #[(.bool d),(ah e),(.string f),(Sl.v g)])/\(dH c b d e f g λa=>bJ a b λb c d e=>K b c d e a)) Kp)) Kp):Ym P a Q h K Kp:=cZ uw K Tryz.func120 H
theorem aEv{K:bF}(H:gA h V x a b c d A λa b=>bN b a λa c d e f g i=>Xc a c d e f g i b (λa b c d=>aH d kI kF λd e=>dW e d a b c λa=>Ld a d mI λb=>K (b==0) a) Kp):Xt V x a b c d A h K Kp:=cZ dy K Tryz.func127 H
def Lm:=mc aD Tryz.f128 (am [(2000005,98),(4000011,67633250),(2017,226)]) [] dr
def QT:=fK 82 [1,5,6,7] [tI,.d,tI,tI]
def agv:=lK Lm 2017 1028090 QT
def MA:=jK Lm 1 2007 [tI,.d,tI,tI,.b]
def MB:=jK Lm 0 31 [tI,.d,tI]
theorem azy{K:bQ}:jB (A0:=Int) (A1:=Int) (agv K Kp a n) (QT a n) λb c d e=>(Ld e (n.add 4) Sl.v λf=>aS (d<(f.n:Int)) (Ld e (n.add 4) Sl.v λf=>Ix f.a f.n 7 d λf=>bN e f λf g i j k l m=>CE f g i j k l m a e (λe f=>aO (c+e) λc=>aO (d+1) λd=>b (QT a n c d) f) Kp) (aS (c>a) (aO (a+1) λa=>K a e) (K c e))):=jD
theorem aA9{K:bQ}(H:If x (Ld h (n.add 4) Sl.v λb=>Ix b.a b.n 7 0 λb=>bN h b λb c d e f g i=>CE b c d e f g i a h (λa b=>K a b) Kp) (If (c==18) (Ld h (n.add 4) Sl.v λc=>Ix c.a c.n 7 0 λc=>bN h c λc d e f g i j=>CE c d e f g i j a h (λc d=>aO (b+c) λb=>aS (b>a) (aO (a+1) λa=>K a d) (K b d)) Kp) (If (c==16) (Ld h (n.add 1) mI λc=>Ld h (n.add 4) Sl.v λd=>Ix d.a d.n 7 0 λd=>bN h d λd e f g i j k=>CE d e f g i j k a h (λd e=>aU h e (n.add 1) 1 <|aO (c*d) λc=>aO (b+c) λb=>aS (b>a) (aO (a+1) λa=>K a e) (K b e)) Kp) (If (c==17) (agv K Kp a n b 0 h) (aS (b>a) (aO (a+1) λa=>K a h) (K b h)))))):MA K Kp a n b c x h:=jf H
theorem aBa{K:bQ}(H:Ld h n mI λc=>If (c==14) (Ld h (n.add 1) mI λc=>aO (b+c) λb=>aS (b>a) (aO (a+1) λa=>K a h) (K b h)) (If (c==19) (MA K Kp a n b c (c==19) h) (MA K Kp a n b c (c==20) h))):MB K Kp a n b h:=jf H
theorem aEu{K:bQ}(H:gA h V x a b c d A λa b=>hO b (a.add 2) λc d f g i=>aH b oQ kG λb j=>lX j b c d f g i λc=>Ld c (a.add 1) .bool λa=>If a (Ld c b mI λa=>If (a !=20) (K 16 c) (MB K Kp e b 16 c)) (MB K Kp e b 16 c)):CE V x a b c d A e h K Kp:=cF (Lm K Kp) dr K Tryz.func128 H
def Hf:=mc aD Tryz.f129 (am [(2000004,12),(4000011,134742044),(2015,60),(2020,92)]) [] uw
def QS:=fK 86 [2,3,4,5] [.d,.d,.d,tI]
def agu:=lK Hf 2015 257018 QS
def QO:=fK 86 [2,3,4,6] [.d,.d,.d,tI]
def agt:=lK Hf 2020 1028090 QO
def My:=jK Hf 1 2007 [.d,.d,.d,tI,.b]
def Mz:=jK Hf 0 15 [.d,.d]
theorem azx{K:qx}:eH (A0:=Int) (agu K Kp n o p) (QS n o p) λa b c=>(Ld c (o.add 1) mI λd=>aS (b<d) (Ld c (p.add 3) Sl.v λd=>Ld c (o.add 4) Sl.v λe=>Ix e.a e.n 7 0 λe=>bN c e λe f g i j k l=>CD e f g i j k l c (λe f g i j=>aU c j (p.add 3) 1 <|aH j #[(.bool e),(ah f),(.string g),(Sl.v i)] dh λc e=>aU j e (p.add 3) 1 <|Ap e dh fU 4 56 d 1 (rd e (some c) (1*4)) λc d=>St d (p.add 3) (Sl.v c) λc=>aO (b+1) λb=>a (QS n o p b) c) Kp) (bJ c p λa b d e=>dH c n a b d e λa=>bJ a n λb c d e=>K b c d e a)):=eI
theorem azw{K:qx}:eH (A0:=Int) (agt K Kp n o p) (QO n o p) λa b c=>(Ld c (o.add 4) Sl.v λd=>aS (b<(d.n:Int)) (Ld c (p.add 3) Sl.v λd=>Ld c (o.add 4) Sl.v λe=>Ix e.a e.n 7 b λe=>bN c e λe f g i j k l=>CD e f g i j k l c (λe f g i j=>aU c j (p.add 3) 1 <|aH j #[(.bool e),(ah f),(.string g),(Sl.v i)] dh λc e=>aU j e (p.add 3) 1 <|Ap e dh fU 4 56 d 1 (rd e (some c) (1*4)) λc d=>St d (p.add 3) (Sl.v c) λc=>aO (b+1) λb=>a (QO n o p b) c) Kp) (bJ c p λa b d e=>dH c n a b d e λa=>bJ a n λb c d e=>K b c d e a)):=eI
theorem aA7{K:qx}(H:If x (Ld h (o.add 4) Sl.v λa=>Ix a.a a.n 7 0 λa=>bN h a λa b c d e f g=>CD a b c d e f g h (λa b c d e=>dH e n a b c d λa=>bJ a n λb c d e=>K b c d e a) Kp) (If (a==18) (Ld h (p.add 3) Sl.v λa=>Ld h (o.add 4) Sl.v λb=>Ix b.a b.n 7 0 λb=>bN h b λb c d e f g i=>CD b c d e f g i h (λb c d e f=>aU h f (p.add 3) 1 <|aH f #[(.bool b),(ah c),(.string d),(Sl.v e)] dh λb c=>aU f c (p.add 3) 1 <|Ap c dh fU 4 56 a 1 (rd c (some b) (1*4)) λa b=>St b (p.add 3) (Sl.v a) λa=>bJ a p λb c d e=>dH a n b c d e λa=>bJ a n λb c d e=>K b c d e a) Kp) (If (a==16) (agu K Kp n o p 0 h) (If (a==17) (agt K Kp n o p 0 h) (bJ h p λa b c d=>dH h n a b c d λa=>bJ a n λb c d e=>K b c d e a))))):My K Kp n o p a x h:=jf H
theorem aA8{K:qx}(H:aH h fU dh λa b=>dH b a false 0 (bs []) bT λb=>Ld b o mI λc=>If (c==14) (Ld b (o.add 1) mI λc=>dO b Y8 #[(.int .u8 0)] 1 1 c c λb c=>sM c b λb=>St c (a.add 2) (.string b) λb=>bJ b a λa c d e=>dH b n a c d e λa=>bJ a n λb c d e=>K b c d e a) (If (c==19) (My K Kp n o a c (c==19) b) (My K Kp n o a c (c==20) b))):Mz K Kp n o h:=jf H
theorem aEt{K:qx}(H:gA h V x a b c d A λa b=>aH b fU dh λb c=>hO c (a.add 2) λd e f g i=>aH c oQ kG λc j=>lX j c d e f g i λd=>Ld d (a.add 1) .bool λa=>If a (Ld d c mI λa=>If (a !=20) (dH d b true 0 (bs []) bT λa=>bJ a b λb c d e=>K b c d e a) (Mz K Kp b c d)) (Mz K Kp b c d)):CD V x a b c d A h K Kp:=cF (Hf K Kp) uw K Tryz.func129 H
theorem aFE{K:bF}(H:wY h a b c d A λa b=>hO b a λa c d e f=>XY a c d e f b (λa b c d e f g i=>EK a b c d e f g i (λa _ _ b=>K (a==0) b) Kp) Kp):IQ a b c d A h K Kp:=cZ dy K Tryz.func130 H
def aeu:=mc aD Tryz.f131 (am [(2000003,2)]) [] gS
def aiv:=jK aeu 0 7 [.d]
theorem aCl{K:gz}(H:Ld h (n.add 4) Sl.v λa=>Ou a h (λa b=>Ld b n mI λc=>If (c==20) (aH b #[(.string (bs [101,110,100,115])),(.bool false),(ah 5),(ah 0),(ah 0),(ah 0),(.slice none 0 0)] iz λb c=>Ap c iz mK 7 80 (⟨some b,1,1⟩:Sl) a.n (rd c a.a (a.n*7)) λa b=>K a b) (K a b)) Kp):aiv K Kp n h:=jf H
theorem aFD{K:gz}(H:wY h a b c d A λa b=>hO b a λc d e f g=>IQ c d e f g b (λb c=>If (!b) (K bT c) (Ld c a mI λb=>If (b==19) (K bT c) (aiv K Kp a c))) Kp):X4 a b c d A h K Kp:=cF (aeu K Kp) gS K Tryz.func131 H
theorem aFC{K:bQ}(H:aS (a<=0) (K 0 h) (aO (a-1) λa=>Dv 8<|aO (Int.tdiv a 8) λa=>aO (a+1) λa=>K a h)):X3 a h K Kp:=cZ dr K Tryz.func132 H
theorem aFB{K:bQ}(H:wY h a b c d A λa b=>hO b a λc d e f g=>IQ c d e f g b (λb c=>If (!b) (K 0 c) (Ld c a mI λb=>If (b==14) (Ld c (a.add 1) mI λa=>K a c) (If (b==19) (Ld c (a.add 3) mI λa=>Ix (some ((aJ 0))) 21 4 a λa=>Ld c (a.add 1) mI λa=>K a c) (Ld c a mI λa=>Ix (some ((aJ 0))) 21 4 a λa=>Ld c (a.add 1) mI λa=>K a c)))) Kp):X2 a b c d A h K Kp:=cZ dr K Tryz.func133 H
def c57:=mc aD Tryz.f134 (am [(2003,812)]) [] dr
def JU:=fK 23 [2,3,8,5,9] [.d,.d,tI,tI,tI]
def af3:=lK c57 2003 58 JU
theorem ay3{K:bQ}:jB (A0:=Int) (A1:=Int) (af3 K Kp n o a) (JU n o a) λb c d e=>(aS (d<a) (bN e n λf g i j k l m=>cr e o λp q r s t u=>Ld e (o.add 1) mI λv=>aO (v+d) λv=>OC f g i j k l m p q r s t u v e (λe f=>If e (aO (c+1) λc=>aO (d+1) λd=>b (JU n o a c d) f) (aO (d+1) λd=>b (JU n o a c d) f)) Kp) (K c e)):=jD
theorem aDi{K:bQ}(H:gA h V x a b c d A λa b=>n9 b e f g B C D λb c=>Ld c b mI λd=>af3 K Kp a b d 0 0 c):Xe V x a b c d A e f g B C D h K Kp:=cF (c57 K Kp) dr K Tryz.func134 H
def aeC:=mc aD Tryz.f136 (am [(41006,257)]) [] dy
def W3:=rK aeC 0 6 [tI,.b]
theorem aiS{K:bF}(H:If x (K (a !=20) h) (K false h)):W3 K Kp a x h:=jf H
theorem aGk{K:bF}(H:If (a !=1) (W3 K Kp a (a !=18) h) (W3 K Kp a false h)):OB a h K Kp:=cF (aeC K Kp) dy K Tryz.func136 H
theorem aGa{K:afK}(H:aS (a<0) (K false 1 h) (Dv 8<|aO (Int.tdiv a 8) λb=>aS (b>=(A.n:Int)) (K false 2 h) (Yd A a h (λa b=>K a 0 b) Kp))):Yn A a h K Kp:=cZ aaA K Tryz.func137 H
def aet:=mc aD Tryz.f138 (am [(3400005,24)]) [] dr
def WC:=jK aet 0 53 [tI,.b]
theorem aCk{K:bQ}(H:If x (K 1 h) (If (a==4) (If (a==4) (K 2 h) (If (a==5) (If (a==5) (K 4 h) (If (a==6) (If (a==6) (K 8 h) (K 0 h)) (If (a==10) (If (a==10) (K 8 h) (K 0 h)) (If (a==11) (K 8 h) (K 0 h))))) (If (a==9) (K 4 h) (If (a==6) (If (a==6) (K 8 h) (K 0 h)) (If (a==10) (If (a==10) (K 8 h) (K 0 h)) (If (a==11) (K 8 h) (K 0 h))))))) (If (a==8) (K 2 h) (If (a==5) (If (a==5) (K 4 h) (If (a==6) (If (a==6) (K 8 h) (K 0 h)) (If (a==10) (If (a==10) (K 8 h) (K 0 h)) (If (a==11) (K 8 h) (K 0 h))))) (If (a==9) (K 4 h) (If (a==6) (If (a==6) (K 8 h) (K 0 h)) (If (a==10) (If (a==10) (K 8 h) (K 0 h)) (If (a==11) (K 8 h) (K 0 h))))))))):WC K Kp a x h:=jf H
theorem aFA{K:bQ}(H:If (a==3) (WC K Kp a (a==3) h) (WC K Kp a (a==7) h)):X1 a h K Kp:=cF (aet K Kp) dr K Tryz.func138 H
def c68:=mc aD Tryz.f139 (am [(2000005,3)]) [] dy
def ahs:=jK c68 0 15 [.p,tI]
theorem aAB{K:bF}(H:AI P 0 h (λb c d e=>Dv 8<|aO (Int.tdiv a 8) λf=>OA b c d f e (λb _ c=>Dv 8<|Lt (Int.tmod a 8) λa=>Nn a<|Lt (Int.fdiv b (2^(min (Int.toNat a) (IntKind.bits .u8)))) λa=>Lt (gH .and .u8 a 1) λa=>K (a==0) c) Kp) Kp):ahs K Kp P a h:=jf H
theorem aDg{K:bF}(H:NN P λb=>Ld h (b.add 2) mI λb=>If (b==1) (K true h) (NN P λb=>Ld h (b.add 2) mI λb=>OB b h (λb c=>If (!b) (K false c) (NN P λb=>Ld c ((b.add 7).add 3) Sl.v λb=>Ix b.a b.n 1 0 λb=>Ld c b Sl.v λb=>If ((b.n:Int)==0) (K false c) (ahs K Kp P a c))) Kp)):NK P a h K Kp:=cF (c68 K Kp) dy K Tryz.func139 H
theorem aFR{K:iZ}(H:NN P λb=>Ld h b mI λb=>aO (b-a) λa=>NN P λb=>St h b (ah a) λa=>NN P λb=>Ld a b mI λb=>aS (b<0) (Kp [{v:=(.iface ays (.agg #[])),recovered:=false}] a) (K  a)):IS P a h K Kp:=cZ kJ K Tryz.func140 H
theorem aDf{K:iS}(H:gA h V x a b c d A λa b=>aH b kI kF λb c=>bN c a λa d e f g i j=>aH c #[(.string a),(.bool d),(ah e),(ah f),(ah g),(ah i),(Sl.v j)] iz λa c=>Oz (⟨some a,1,1⟩:Sl) bT c (λa c d e=>aH e kI kF λe f=>dW f e a c d λa=>Ld a (e.add 1) Sl.v λc=>aS ((c.n:Int)>0) (Ld a (e.add 1) Sl.v λc=>jA c 1 (some 1) none none λc=>St a (e.add 1) (Sl.v c) λa=>eG a e λc d e=>dW a b c d e λa=>eG a b λb c d=>K b c d a) (eG a e λc d e=>dW a b c d e λa=>eG a b λb c d=>K b c d a)) Kp):Xc V x a b c d A h K Kp:=cZ nP K Tryz.func146 H
theorem aFw{K:Ev}(H:wY h a b c d A λa b=>aH b mK iz λb c=>hO c a λd e f g i=>aH c mK iz λc j=>jO j c (bs [97]) false d e f g i λd=>Ld d a mI λe=>If (e==1) (St d (c.add 1) (.bool true) λa=>bN a c λc d e f g i j=>jO a b c d e f g i j λa=>bN a b λb c d e f g i=>K b c d e f g i a) (Ld d a mI λe=>If (e==20) (Ld d (a.add 4) Sl.v λe=>aS ((e.n:Int)>0) (Ld d (a.add 4) Sl.v λa=>Ix a.a a.n 7 0 λa=>Ld d (a.add 1) .bool λa=>St d (c.add 1) (.bool a) λa=>bN a c λc d e f g i j=>jO a b c d e f g i j λa=>bN a b λb c d e f g i=>K b c d e f g i a) (St d (c.add 1) (.bool false) λa=>bN a c λc d e f g i j=>jO a b c d e f g i j λa=>bN a b λb c d e f g i=>K b c d e f g i a)) (St d (c.add 1) (.bool false) λa=>bN a c λc d e f g i j=>jO a b c d e f g i j λa=>bN a b λb c d e f g i=>K b c d e f g i a))):XY a b c d A h K Kp:=cZ Da K Tryz.func147 H
def aes:=mc aD Tryz.f148 (am [(2003,456)]) [] gS
def Ry:=fK 25 [6,7,3,8] [.s,tI,.s,tI]
def ag3:=lK aes 2003 58 Ry
theorem aAa{K:gz}:jB (A0:=Sl) (A1:=Int) (ag3 K Kp A a) (Ry A a) λb c d e=>(aS (d<a) (Ix A.a A.n 7 d λf=>bN e f λf g i j k l m=>aH e mK iz λe n=>jO n e f g i j k l m λf=>Ld f ((e.add 2).add 4) Sl.v λg=>Ou g f (λf g=>St g ((e.add 2).add 4) (Sl.v f) λf=>bN f e λe g i j k l m=>aH f #[(.string e),(.bool g),(ah i),(ah j),(ah k),(ah l),(Sl.v m)] iz λe f=>Ap f iz mK 7 80 c 1 (rd f (some e) (1*7)) λc e=>aO (d+1) λd=>b (Ry A a c d) e) Kp) (XR c e (λa b=>K a b) Kp)):=jD
theorem aFv{K:gz}(H:ag3 K Kp A (A.n:Int) bT 0 h):Ou A h K Kp:=cF (aes K Kp) gS K Tryz.func148 H
theorem aFS{K:bF}(H:Dv 8<|aO (Int.tdiv a 8) λb=>Ix A.a A.n 1 b λb=>Ld h b (.int .u8) λb=>Dv 8<|Lt (Int.tmod a 8) λa=>Nn a<|Lt (Int.fdiv b (2^(min (Int.toNat a) (IntKind.bits .u8)))) λa=>Lt (gH .and .u8 a 1) λa=>K (a==1) h):Yd A a h K Kp:=cZ dy K Tryz.func150 H
theorem aGm{K:Mj}(H:aH h I6 H8 λb c=>NN P λd=>Ld c ((d.add 7).add 3) Sl.v λd=>Ix d.a d.n 1 a λa=>Ld c a Sl.v λa=>NN P λd=>Ld c (d.add 15) .pointer λe=>Yl a c (λa f g i=>aU c i (d.add 15) 1 <|Yk a f g e i (λa c d e=>sH e b a c d λa=>oM a b λb c d=>K b c d a) Kp) Kp):AI P a h K Kp:=DE [] [(1,(OT.l [0,1,2,3,4,5,6,7,9,10,11,12,8,13,14] .fin))] JK K Tryz.func151 H
theorem aGj{K:afJ}(H:Cp h A a P λa c=>oM c a λd e f=>IV d e f b 1 c (λc d=>If (!c) (K 0 2 d) (oM d a λa c e=>IU a c e b 1 d (λa b=>Ix a.a a.n 1 0 λa=>Ld b a (.int .u8) λa=>K a 0 b) Kp)) Kp):OA A a P b h K Kp:=cZ aaz K Tryz.func152 H
theorem aFl{K:gz}(H:jA A 7 none (some (A.n:Int)) (some (A.n:Int)) λa=>K a h):XR A h K Kp:=cZ gS K Tryz.func155 H
theorem aF8{K:Mj}(H:aH h I6 H8 λa b=>jA A 1 none (some (A.n:Int)) (some (A.n:Int)) λc=>sH b a c 0 none λb=>oM b a λa c d=>K a c d b):Yl A h K Kp:=cZ JK K Tryz.func156 H
theorem aF7{K:Mj}(H:Cp h A a P λa b=>aH b I6 H8 λb c=>St c (a.add 2) (.pointer Q) λc=>oM c a λa d e=>sH c b a d e λa=>oM a b λb c d=>K b c d a):Yk A a P Q h K Kp:=cZ JK K Tryz.func157 H
def Uf:=mc aD Tryz.f158 (am [(41006,4110),(41013,524302)]) [] dy
def WW:=rK Uf 1 6 [tI,tI,.d,.b]
def WX:=rK Uf 0 6 [tI,tI,.d,.b]
theorem aCM{K:bF}(H:If x (Ld h n Sl.v λc=>aO ((c.n:Int)-a) λa=>K (decide (b<=a)) h) (K false h)):WW K Kp a b n x h:=jf H
theorem aCN{K:bF}(H:If x (Ld h n Sl.v λc=>WW K Kp a b n (decide (a<=(c.n:Int))) h) (WW K Kp a b n false h)):WX K Kp a b n x h:=jf H
theorem aF5{K:bF}(H:Cp h A a P λa d=>aS (b>=0) (WX K Kp b c a (decide (c>=0)) d) (WX K Kp b c a false d)):IV A a P b c h K Kp:=cF (Uf K Kp) dy K Tryz.func158 H
def aeA:=mc aD Tryz.f159 (am [(3209999,8206)]) [] gS
def WV:=jK aeA 0 13 [tI,tI,.d,.b]
theorem aCL{K:gz}(H:If x (Ld h (n.add 2) .pointer λc=>Ld h (n.add 2) .pointer λd=>NN d λd=>Ld h d Sl.v λe=>Ld h (n.add 1) mI λf=>aO (f+a) λf=>Ld h (n.add 1) mI λg=>aO (g+a) λg=>aO (g+b) λg=>aH h #[(ah f),(ah g)] afA λf g=>aU h g d 1 <|aU h g (n.add 2) 1 <|aU h g (n.add 2) 1 <|Ap g afA #[(ah 0),(ah 0)] 2 16 e 1 (rd g (some f) (1*2)) λd e=>aU g e (n.add 2) 1 <|NN c λc=>St e c (Sl.v d) λc=>Ld c n Sl.v λd=>aO (a+b) λe=>aO (a+b) λb=>jA d 1 (some a) (some e) (some b) λa=>K a c) (Ld h n Sl.v λc=>aO (a+b) λd=>aO (a+b) λb=>jA c 1 (some a) (some d) (some b) λa=>K a h)):WV K Kp a b n x h:=jf H
theorem aF4{K:gz}(H:Cp h A a P λa d=>Ld d (a.add 2) .pointer λe=>If (!(Option.isNone e)) (WV K Kp b c a (decide (c>0)) d) (WV K Kp b c a false d)):IU A a P b c h K Kp:=cF (aeA K Kp) gS K Tryz.func159 H
theorem aEp{K:bQ}(H:NN P λa=>Ld h (a.add 7) mI λa=>K a h):ajo P h K Kp:=cZ dr K Tryz.func178 H
theorem aEo{K:jM}(H:aH h cY bX λa b=>NN P λc=>iB (some c) bT b (λb c d e f g i=>cV i a b c d e f g λb=>cr b a λa c d e f g=>K a c d e f g b) Kp):ajn P h K Kp:=cZ mg K Tryz.func179 H
theorem aEn{K:Ck}(H:NN P λa=>uj (some a) h (λa b=>K a b) Kp):ajm P h K Kp:=cZ A8 K Tryz.func180 H
theorem aEm{K:bQ}(H:iK h x a V A λ_ a=>NN P λb=>oO (some b) true a (λa b=>If (a !=0) (K a b) (NN P λa=>nC (some a) 16 b (λa b=>K a b) Kp)) Kp):Od P x a V A h K Kp:=cZ dr K Tryz.func181 H
theorem aEl{K:bQ}(H:NN P λa=>Ld h (a.add 10) mI λa=>K a h):ajl P h K Kp:=cZ dr K Tryz.func182 H
theorem aEk{K:bQ}(H:NN P λa=>bJ h (a.add 11) λa b c d=>Od P a b c d h (λa b=>K a b) Kp):Xs P h K Kp:=cZ dr K Tryz.func183 H
theorem aEj{K:jM}(H:aH h cY bX λa b=>NN P λc=>Ld b (c.add 7) mI λc=>NN P λd=>Ld b (d.add 8) mI λd=>cV b a c 0 d A bT bT λb=>cr b a λa c d e f g=>K a c d e f g b):iB P A h K Kp:=cZ mg K Tryz.func184 H
theorem aEi{K:Ck}(H:aH h #[(.pointer P)] afm λa b=>Ld b a .pointer λc=>NN c λc=>oc b c λc d e f g i j k l m n p q r s t=>aH b OL Mf λb u=>rC u b c d e f g i j k l m n p q r s t λc=>aH c #[(.int .u8 0)] Y8 λc d=>St d c (.int .u8 0) λd=>Ld d a .pointer λe=>NN e λe=>Ld d (e.add 9) Sl.v λe=>aS ((e.n:Int)>0) (Ld d a .pointer λe=>NN e λe=>Ld d (e.add 9) Sl.v λe=>Ld d a .pointer λf=>NN f λf=>Ld d (f.add 9) Sl.v λf=>aO ((f.n:Int)-1) λf=>Ix e.a e.n 1 f λe=>Ld d e (.int .u8) λe=>St d c (.int .u8 e) λd=>K (.func (.func 188) #[] #[(dw b),(dw a),(dw c)]) d) (K (.func (.func 188) #[] #[(dw b),(dw a),(dw c)]) d)):uj P h K Kp:=cZ A8 K Tryz.func185 H
def Ua:=mc aD Tryz.f186 (am [(2000005,3),(2000008,1)]) [] dr
def Mu:=jK Ua 1 31 [.p]
def Mv:=jK Ua 0 15 [.p,.b]
theorem aA3{K:bQ}(H:NN P λa=>Ld h (a.add 7) mI λa=>aO (a+1) λa=>NN P λb=>St h (b.add 7) (ah a) λa=>K 0 a):Mu K Kp P h:=jf H
theorem aA4{K:bQ}(H:If x (NN P λa=>Ld h (a.add 8) mI λa=>aO (a+1) λa=>NN P λb=>St h (b.add 8) (ah a) λa=>Mu K Kp P a) (NN P λa=>Ld h (a.add 9) Sl.v λa=>NN P λb=>Ld h (b.add 7) mI λb=>Dv 8<|aO (Int.tdiv b 8) λb=>Ix a.a a.n 1 b λc=>Ld h c (.int .u8) λc=>NN P λd=>Ld h (d.add 7) mI λd=>Dv 8<|Lt (Int.tmod d 8) λd=>Nn d<|Wr .u8 ((1:Int)*2^(min (Int.toNat d) (IntKind.bits .u8))) λd=>Lt (gH .or .u8 c d) λc=>Ix a.a a.n 1 b λa=>St h a (.int .u8 c) λa=>Mu K Kp P a)):Mv K Kp P x h:=jf H
theorem aEh{K:bQ}(H:NN P λa=>Ld h (a.add 7) mI λa=>aS (a>=4096) (K 3 h) (NN P λa=>Ld h (a.add 7) mI λa=>Dv 8<|Lt (Int.tmod a 8) λa=>If (a==0) (NN P λa=>Ld h (a.add 9) Sl.v λa=>aH h #[(.int .u8 0)] Y8 λb c=>Ap c Y8 #[(.int .u8 0)] 1 1 a 1 (rd c (some b) (1*1)) λa b=>NN P λc=>St b (c.add 9) (Sl.v a) λa=>Mv K Kp P x a) (Mv K Kp P x h))):oO P x h K Kp:=cF (Ua K Kp) dr K Tryz.func186 H
theorem aEg{K:bQ}(H:NN P λb=>Ld h (b.add 10) mI λb=>aO (b+a) λa=>NN P λb=>St h (b.add 10) (ah a) λa=>NN P λb=>Ld a (b.add 10) mI λb=>aS (b>4194304) (K 3 a) (K 0 a)):nC P a h K Kp:=cZ dr K Tryz.func187 H
theorem aEf{K:iZ}(H:Ld h o .pointer λa=>oc h n λb c d e f g i j k l m n q r s t=>NN a λa=>rC h a b c d e f g i j k l m n q r s t λa=>Ld a o .pointer λb=>NN b λb=>Ld a (b.add 9) Sl.v λb=>aS ((b.n:Int)>0) (Ld a o .pointer λb=>NN b λb=>Ld a (b.add 9) Sl.v λb=>Ld a o .pointer λc=>NN c λc=>Ld a (c.add 9) Sl.v λc=>aO ((c.n:Int)-1) λc=>Ld a p (.int .u8) λd=>Ix b.a b.n 1 c λb=>St a b (.int .u8 d) λa=>K  a) (K  a)):ajk n o p h K Kp:=cZ kJ K Tryz.func188 H
theorem aEe{K:jM}(H:aH h cY bX λa b=>NN P λc=>NN P λd=>NN P λe=>Ld b (e.add 16) Sl.v λf=>NN P λg=>Ld b (g.add 17) Sl.v λi=>uh (some d) b (λd j=>aU b j (g.add 17) 1 <|aU b j (e.add 16) 1 <|qC f 4 j (λb e=>aU j e (g.add 17) 1 <|EL i e (λe f=>aH f #[(Sl.v d),(Sl.v b),(Sl.v e)] fN λb d=>iB (some c) (⟨some b,3,3⟩:Sl) d (λb c d e f g i=>cV i a b c d e f g λb=>cr b a λa c d e f g=>K a c d e f g b) Kp) Kp) Kp) Kp):ajj P h K Kp:=DE [] [(1,(OT.l [0,1,2,3,4,5,7,8,9,10,12,13,14,15,6,11,16,17,18,19] .fin))] mg K Tryz.func189 H
def zT:=mc aD Tryz.f191 (am [(2000008,9)]) [] dr
def ahL:=jK zT 0 63 [.p,.d]
theorem aA2{K:bQ}(H:NN P λa=>Ld h (n.add 2) .string λb=>aO ((16:Int)+(b.size:Int)) λb=>nC (some a) b h (λa b=>K a b) Kp):ahL K Kp P n h:=jf H
theorem aEd{K:bQ}(H:iK h x a V A λa b=>NN P λc=>Ld b a .bool λd=>oO (some c) d b (λb c=>If (b !=0) (K b c) (NN P λb=>Ld c (b.add 17) Sl.v λb=>Ld c (a.add 2) .string λd=>aO ((b.n:Int)+(d.size:Int)) λb=>aS (b>65536) (K 4 c) (NN P λb=>Ld c (b.add 17) Sl.v λb=>Ld c (a.add 2) .string λd=>Ap c Y8 #[(.int .u8 0)] 1 1 b d.size (λa=>a=d.data.toList.map λa=>Value.int .u8 a.toNat) λb c=>NN P λd=>St c (d.add 17) (Sl.v b) λb=>NN P λc=>Ld b (c.add 16) Sl.v λd=>NN P λe=>Ld b (e.add 17) Sl.v λe=>aH b #[(ah (e.n:Int))] Y6 λe f=>aU b f (c.add 16) 1 <|Ap f Y6 #[(ah 0)] 1 8 d 1 (rd f (some e) (1*1)) λb c=>NN P λd=>St c (d.add 16) (Sl.v b) λb=>ahL K Kp P a b))) Kp):Ob P x a V A h K Kp:=cF (zT K Kp) dr K Tryz.func191 H
theorem aEc{K:bQ}(H:NN P λa=>bJ h (a.add 11) λa b c d=>Ob P a b c d h (λa b=>K a b) Kp):Xr P h K Kp:=cZ dr K Tryz.func192 H
theorem aEb{K:gz}(H:NN P λa=>Ld h (a.add 8) mI λa=>If (a==0) (K bT h) (NN P λa=>Ld h (a.add 9) Sl.v λa=>EL a h (λa b=>K a b) Kp)):uh P h K Kp:=cZ gS K Tryz.func193 H
def ym:=mc aD Tryz.f194 (am [(2003,114722),(2006,3260578)]) [] gS
def QJ:=fK 36 [1,14,15,5,16] [tI,.s,tI,.s,tI]
def QI:=fK 36 [1,7,14,15,16,20,5,21] [tI,tI,.s,tI,tI,tI,.s,tI]
def agq:=zH ym 2006 14950 QI
def agr:=lK ym 2003 58 QJ
theorem azr{K:gz}:jB (A0:=Sl) (A1:=Int) (agq K Kp N1 a b A c d e) (QI a b A c d e) λf g i j=>(aS (i<e) (Wr .u64 b λk=>aO ((8:Int)*i) λl=>Nn l<|Lt (Int.fdiv k (2^(min (Int.toNat l) (IntKind.bits .u64)))) λk=>Wr .u8 k λk=>aH j #[(.int .u8 k)] Y8 λj k=>Ap k Y8 #[(.int .u8 0)] 1 1 g 1 (rd k (some j) (1*1)) λg j=>aO (i+1) λi=>f (QI a b A c d e g i) j) (aO (d+1) λb=>N1 (QJ a A c g b) j)):=jD
theorem azs{K:gz}:jB (A0:=Sl) (A1:=Int) (agr K Kp a A b) (QJ a A b) λc d e f=>(aS (e<b) (Ix A.a A.n 1 e λg=>Ld f g mI λg=>agq K Kp c a g A b e a d 0 f) (K d f)):=jD
theorem aEa{K:gz}(H:aO (a*(A.n:Int)) λb=>dO h Y8 #[(.int .u8 0)] 1 1 0 b λb c=>agr K Kp a A (A.n:Int) b 0 c):qC A a h K Kp:=cF (ym K Kp) gS K Tryz.func194 H
theorem aDo{K:gz}(H:If (Option.isNone A.a) (K bT h) (aH h #[] Y8 λa b=>Ap b Y8 #[(.int .u8 0)] 1 1 (⟨some a,0,0⟩:Sl) A.n (rd b A.a (A.n*1)) λa b=>K a b)):EL A h K Kp:=cZ gS K Tryz.func195 H
theorem aD9{K:iZ}(H:Ld h n id λa=>cX aD a [] h (λa b=>a=(.tuple #[])/\(Ld b o .pointer λa=>Ld b o .pointer λc=>Ld b o .pointer λd=>NN d λd=>Ld b (d.add 16) Sl.v λd=>Ld b p mI λe=>jA d 1 none (some e) none λd=>Ld b o .pointer λe=>NN e λe=>Ld b (e.add 17) Sl.v λe=>Ld b q mI λf=>jA e 1 none (some f) none λe=>NN a λa=>St b (a.add 16) (Sl.v d) λa=>aU b a q 1 <|aU b a o 1 <|NN c λb=>St a (b.add 17) (Sl.v e) λa=>K  a)) Kp):aji n o p q h K Kp:=cZ kJ K Tryz.func196 H
def aee:=mc aD Tryz.f197 (am [(2000002,13)]) [(1,(OT.l [0,1,2,3,4,5,7,8,9,10] (.alt (OT.l [6] (.alt (OT.l [11] (.alt (OT.l [12] (.alt (OT.l [13,14,15] .fin) (OT.l [14,13,15] .fin))) (OT.l [14,12,13,15] .fin))) (OT.l [14,11,12,13,15] .fin))) (OT.l [14,6,11,12,13,15] .fin))))] mg
def Ay:=jK aee 0 7 [.p,.d,.d]
theorem aA1{K:jM}(H:NN P λa=>Ld h (a.add 17) id λa=>fE aD a "colonnade/build.done" [] h (λa b=>∃c:Int,∃d:Int,∃e:Int,∃f:Sl,∃g:Sl,∃i:Sl,a=(.agg #[(ah c),(ah d),(ah e),(Sl.v f),(Sl.v g),(Sl.v i)])/\(aH b #[(ah c),(ah d),(ah e),(Sl.v f),(Sl.v g),(Sl.v i)] bX λa b=>St b (o.add 4) (.slice (some a) 1 1) λa=>cr a o λb c d e f g=>cV a n b c d e f g λa=>cr a n λb c d e f g=>K b c d e f g a)) Kp):Ay K Kp P n o h:=jf H
theorem aD8{K:jM}(H:aH h cY bX λa b=>NN P λc=>NN P λd=>NN P λe=>Ld b (e.add 16) Sl.v λf=>(uh (some d) b (λd g=>aU b g (e.add 16) 1 <|(qC f 4 g (λb f=>(aH f #[(Sl.v d),(Sl.v b)] fN λb d=>(iB (some c) (⟨some b,2,2⟩:Sl) d (λb c d f g i j=>aH j cY bX λk l=>aU j l (e.add 16) 1 <|cV l k b c d f g i λb=>Ay K Kp P a k b) Kp)/\(aH d cY bX λf g=>aU d g (e.add 16) 1 <|iB (some c) (⟨some b,2,2⟩:Sl) g (λb c d e g i j=>cV j f b c d e g i λb=>Ay K Kp P a f b) Kp))/\(aH f cY bX λg i=>aU f i (e.add 16) 1 <|aH i #[(Sl.v d),(Sl.v b)] fN λb d=>iB (some c) (⟨some b,2,2⟩:Sl) d (λb c d e f i j=>cV j g b c d e f i λb=>Ay K Kp P a g b) Kp)) Kp)/\(aH g cY bX λb i=>aU g i (e.add 16) 1 <|qC f 4 i (λe f=>aH f #[(Sl.v d),(Sl.v e)] fN λd e=>iB (some c) (⟨some d,2,2⟩:Sl) e (λc d e f g i j=>cV j b c d e f g i λc=>Ay K Kp P a b c) Kp) Kp)) Kp)/\(aH b cY bX λg i=>aU b i (e.add 16) 1 <|uh (some d) i (λb d=>aU i d (e.add 16) 1 <|qC f 4 d (λd e=>aH e #[(Sl.v b),(Sl.v d)] fN λb d=>iB (some c) (⟨some b,2,2⟩:Sl) d (λb c d e f i j=>cV j g b c d e f i λb=>Ay K Kp P a g b) Kp) Kp) Kp)):ajh P h K Kp:=cF (aee K Kp) mg K Tryz.func197 H
def Ll:=mc aD Tryz.f199 (am [(2000012,65),(2000013,65),(2006,234881089)]) [(13,(OT.l [0,1,2,3,4,5,6,9,7,8,10,11,12] .fin))] dr
def ahJ:=jK Ll 1 63 [.p,tI]
def ahK:=jK Ll 0 31 [.p,tI]
def QH:=fK 67 [0,6,25,26,27] [.p,tI,.s,tI,tI]
def agp:=lK Ll 2006 122 QH
theorem aAZ{K:bQ}(H:NN P λb=>NN P λc=>Ld h (c.add 17) id λc=>fE aD c "colonnade/build.weight" [] h (λc d=>∃e:Int,c=(ah e)/\(aO ((16:Int)+e) λc=>aO (c-a) λa=>nC (some b) a d (λa b=>K a b) Kp)) Kp):ahJ K Kp P a h:=jf H
theorem aA0{K:bQ}(H:NN P λb=>Ld h (b.add 16) Sl.v λc=>NN P λd=>Ld h (d.add 17) id λd=>fE aD d "colonnade/build.count" [] h (λd e=>∃f:Int,d=(ah f)/\(aU h e (b.add 16) 1 <|aH e #[(ah f)] Y6 λd f=>aU e f (b.add 16) 1 <|Ap f Y6 #[(ah 0)] 1 8 c 1 (rd f (some d) (1*1)) λb c=>NN P λd=>St c (d.add 16) (Sl.v b) λb=>ahJ K Kp P a b)) Kp):ahK K Kp P a h:=jf H
theorem azq{K:bQ}:eH (A0:=Int) (agp K Kp P a A b) (QH P a A b) λc d e=>(aS (d<b) (Ix A.a A.n 4 d λf=>bJ e f λf g i j=>aH e fU dh λe k=>dH k e f g i j λf=>NN P λg=>Ld f (g.add 17) id λg=>bJ f e λe i j k=>fE aD g "colonnade/build.take" [(.agg #[(.bool e),(ah i),(.string j),(Sl.v k)])] f (λe f=>∃g:Int,e=(ah g)/\(If (g !=0) (K g f) (aO (d+1) λd=>c (QH P a A b d) f))) Kp) (ahK K Kp P a e)):=eI
theorem aD7{K:bQ}(H:iK h x a V A λa b=>NN P λc=>Ld b a .bool λd=>oO (some c) d b (λb c=>If (b !=0) (K b c) (NN P λb=>Ld c (b.add 17) id λb=>fE aD b "colonnade/build.weight" [] c (λb c=>∃d:Int,b=(ah d)/\(Ld c (a.add 3) Sl.v λa=>agp K Kp P d a (a.n:Int) 0 c)) Kp)) Kp):N9 P x a V A h K Kp:=cF (Ll K Kp) dr K Tryz.func199 H
theorem aD6{K:bQ}(H:NN P λa=>bJ h (a.add 11) λa b c d=>N9 P a b c d h (λa b=>K a b) Kp):Xq P h K Kp:=cZ dr K Tryz.func200 H
theorem aD5{K:iZ}(H:Ld h n id λa=>cX aD a [] h (λa b=>a=(.tuple #[])/\(Ld b o id λa=>cX aD a [] b (λa b=>a=(.tuple #[])/\(Ld b p .pointer λa=>Ld b p .pointer λc=>NN c λc=>Ld b (c.add 16) Sl.v λc=>Ld b q mI λd=>jA c 1 none (some d) none λc=>NN a λa=>St b (a.add 16) (Sl.v c) λa=>K  a)) Kp)) Kp):ajg n o p q h K Kp:=cZ kJ K Tryz.func201 H
def aed:=mc aD Tryz.f202 (am [(2000002,13)]) [(1,(OT.l [0,1,2,3,4,5] (.alt (OT.l [6] (.alt (OT.l [7] (.alt (OT.l [8,9,10] .fin) (OT.l [9,8,10] .fin))) (OT.l [9,7,8,10] .fin))) (OT.l [9,6,7,8,10] .fin))))] mg
def Cz:=jK aed 0 7 [.p,.d,.d]
theorem aAY{K:jM}(H:NN P λa=>Ld h (a.add 16) id λa=>fE aD a "colonnade/build.done" [] h (λa b=>∃c:Int,∃d:Int,∃e:Int,∃f:Sl,∃g:Sl,∃i:Sl,a=(.agg #[(ah c),(ah d),(ah e),(Sl.v f),(Sl.v g),(Sl.v i)])/\(aH b #[(ah c),(ah d),(ah e),(Sl.v f),(Sl.v g),(Sl.v i)] bX λa b=>St b (o.add 4) (.slice (some a) 1 1) λa=>cr a o λb c d e f g=>cV a n b c d e f g λa=>cr a n λb c d e f g=>K b c d e f g a)) Kp):Cz K Kp P n o h:=jf H
theorem aD4{K:jM}(H:aH h cY bX λa b=>NN P λc=>NN P λd=>(uh (some d) b (λb d=>(aH d #[(Sl.v b)] fN λb d=>(iB (some c) (⟨some b,1,1⟩:Sl) d (λb c d e f g i=>aH i cY bX λi j=>cV j i b c d e f g λb=>Cz K Kp P a i b) Kp)/\(aH d cY bX λd e=>iB (some c) (⟨some b,1,1⟩:Sl) e (λb c e f g i j=>cV j d b c e f g i λb=>Cz K Kp P a d b) Kp))/\(aH d cY bX λd e=>aH e #[(Sl.v b)] fN λb e=>iB (some c) (⟨some b,1,1⟩:Sl) e (λb c e f g i j=>cV j d b c e f g i λb=>Cz K Kp P a d b) Kp)) Kp)/\(aH b cY bX λb e=>uh (some d) e (λd e=>aH e #[(Sl.v d)] fN λd e=>iB (some c) (⟨some d,1,1⟩:Sl) e (λc d e f g i j=>cV j b c d e f g i λc=>Cz K Kp P a b c) Kp) Kp)):ajf P h K Kp:=cF (aed K Kp) mg K Tryz.func202 H
def yj:=mc aD Tryz.f204 (am [(2000015,73),(2006,1610612809)]) [(17,(OT.l [0,1,2,3,4,5,6,9,7,8,10,11,12] .fin))] dr
def ahI:=jK yj 0 31 [.p,.d,tI]
def FY:=fK 74 [0,3,6,29,30] [.p,.d,tI,tI,tI]
def ago:=lK yj 2006 122 FY
theorem aAX{K:bQ}(H:Ld h n .bool λb=>If b (NN P λa=>nC (some a) 16 h (λa b=>K a b) Kp) (NN P λb=>NN P λc=>Ld h (c.add 16) id λc=>fE aD c "colonnade/build.weight" [] h (λc d=>∃e:Int,c=(ah e)/\(aO ((16:Int)+e) λc=>aO (c-a) λa=>nC (some b) a d (λa b=>K a b) Kp)) Kp)):ahI K Kp P n a h:=jf H
theorem azp{K:bQ}:eH (A0:=Int) (ago K Kp P n a b) (FY P n a b) λc d e=>(aS (d<b) (Ld e n .bool λf=>If f (NN P λf=>Ld e (f.add 16) id λf=>fE aD f "colonnade/build.zero" [] e (λe f=>∃g:Int,e=(ah g)/\(If (g !=0) (K g f) (aO (d+1) λd=>c (FY P n a b d) f))) Kp) (NN P λf=>Ld e (f.add 16) id λf=>Ld e (n.add 3) Sl.v λg=>Ix g.a g.n 4 d λg=>bJ e g λg i j k=>sJ aD f λ_=>fE aD f "colonnade/build.take" [(.agg #[(.bool g),(ah i),(.string j),(Sl.v k)])] e (λe f=>∃g:Int,e=(ah g)/\(If (g !=0) (K g f) (aO (d+1) λd=>c (FY P n a b d) f))) Kp)) (ahI K Kp P n a e)):=eI
theorem aD3{K:bQ}(H:iK h x a V A λa b=>NN P λc=>Ld b a .bool λd=>oO (some c) d b (λb c=>If (b !=0) (K b c) (NN P λb=>Ld c (b.add 16) id λb=>fE aD b "colonnade/build.weight" [] c (λb c=>∃d:Int,b=(ah d)/\(NN P λb=>Ld c ((b.add 2).add 1) mI λb=>ago K Kp P a d b 0 c)) Kp)) Kp):N7 P x a V A h K Kp:=cF (yj K Kp) dr K Tryz.func204 H
def TZ:=mc aD Tryz.f205 (am [(2000013,17),(2008,206158430225)]) [(13,(OT.l [0,1,2,3,4,5,6,9,7,8,10,11,12] .fin))] dr
def ahH:=jK TZ 0 63 [.p,tI]
def QG:=fK 60 [0,4,36,37] [.p,tI,tI,tI]
def agn:=lK TZ 2008 250 QG
theorem aAW{K:bQ}(H:NN P λb=>NN P λc=>Ld h (c.add 16) id λc=>fE aD c "colonnade/build.weight" [] h (λc d=>∃e:Int,c=(ah e)/\(aO ((16:Int)+e) λc=>aO (c-a) λa=>nC (some b) a d (λa b=>K a b) Kp)) Kp):ahH K Kp P a h:=jf H
theorem azo{K:bQ}:eH (A0:=Int) (agn K Kp P a b) (QG P a b) λc d e=>(aS (d<b) (NN P λf=>Ld e (f.add 16) id λf=>fE aD f "colonnade/build.zero" [] e (λe f=>∃g:Int,e=(ah g)/\(If (g !=0) (K g f) (aO (d+1) λd=>c (QG P a b d) f))) Kp) (ahH K Kp P a e)):=eI
theorem aD2{K:bQ}(H:NN P λa=>Ld h (a.add 15) .bool λa=>If a (NN P λa=>bJ h (a.add 11) λa b c d=>N7 P a b c d h (λa b=>K a b) Kp) (NN P λa=>oO (some a) false h (λa b=>If (a !=0) (K a b) (NN P λa=>Ld b (a.add 16) id λa=>fE aD a "colonnade/build.weight" [] b (λa b=>∃c:Int,a=(ah c)/\(NN P λa=>Ld b ((a.add 2).add 1) mI λa=>agn K Kp P c a 0 b)) Kp)) Kp)):Xp P h K Kp:=cF (TZ K Kp) dr K Tryz.func205 H
theorem aD1{K:iZ}(H:Ld h n id λa=>cX aD a [] h (λa b=>a=(.tuple #[])/\(Ld b o id λa=>cX aD a [] b (λa b=>a=(.tuple #[])/\(K  b)) Kp)) Kp):aje n o h K Kp:=cZ kJ K Tryz.func206 H
def zS:=mc aD Tryz.f207 (am [(2000002,13)]) [(1,(OT.l [0,1,2,3,4,5] (.alt (OT.l [6] (.alt (OT.l [7] (.alt (OT.l [8,9,10] .fin) (OT.l [9,8,10] .fin))) (OT.l [9,7,8,10] .fin))) (OT.l [9,6,7,8,10] .fin))))] mg
def Ax:=jK zS 0 7 [.p,.d,.d]
theorem aAV{K:jM}(H:NN P λa=>Ld h (a.add 16) Sl.v λa=>N4 a h (λa b=>St b (o.add 4) (Sl.v a) λa=>cr a o λb c d e f g=>cV a n b c d e f g λa=>cr a n λb c d e f g=>K b c d e f g a) Kp):Ax K Kp P n o h:=jf H
theorem aD0{K:jM}(H:aH h cY bX λa b=>NN P λc=>NN P λd=>(uh (some d) b (λb d=>(aH d #[(Sl.v b)] fN λb d=>(iB (some c) (⟨some b,1,1⟩:Sl) d (λb c d e f g i=>aH i cY bX λi j=>cV j i b c d e f g λb=>Ax K Kp P a i b) Kp)/\(aH d cY bX λd e=>iB (some c) (⟨some b,1,1⟩:Sl) e (λb c e f g i j=>cV j d b c e f g i λb=>Ax K Kp P a d b) Kp))/\(aH d cY bX λd e=>aH e #[(Sl.v b)] fN λb e=>iB (some c) (⟨some b,1,1⟩:Sl) e (λb c e f g i j=>cV j d b c e f g i λb=>Ax K Kp P a d b) Kp)) Kp)/\(aH b cY bX λb e=>uh (some d) e (λd e=>aH e #[(Sl.v d)] fN λd e=>iB (some c) (⟨some d,1,1⟩:Sl) e (λc d e f g i j=>cV j b c d e f g i λc=>Ax K Kp P a b c) Kp) Kp)):ajd P h K Kp:=cF (zS K Kp) mg K Tryz.func207 H
def TY:=mc aD Tryz.f209 (am [(2000015,73),(2006,939524169)]) [(17,(OT.l [0,1,2,3,4,5,6,9,7,8,10,11,12] .fin))] dr
def ahG:=jK TY 0 31 [.p,.d,tI]
def FX:=fK 70 [0,3,6,27,28,29] [.p,.d,tI,.s,tI,tI]
def agm:=lK TY 2006 122 FX
theorem aAU{K:bQ}(H:Ld h n .bool λb=>If b (NN P λa=>nC (some a) 16 h (λa b=>K a b) Kp) (NN P λb=>NN P λc=>Ld h (c.add 16) Sl.v λc=>EM c h (λc d=>aO ((16:Int)+c) λc=>aO (c-a) λa=>nC (some b) a d (λa b=>K a b) Kp) Kp)):ahG K Kp P n a h:=jf H
theorem azn{K:bQ}:eH (A0:=Int) (agm K Kp P n a A b) (FX P n a A b) λc d e=>(aS (d<b) (Ix A.a A.n 1 d λf=>Ld e f id λf=>Ld e n .bool λg=>If g (fE aD f "colonnade/build.zero" [] e (λe f=>∃g:Int,e=(ah g)/\(If (g !=0) (K g f) (aO (d+1) λd=>c (FX P n a A b d) f))) Kp) (Ld e (n.add 3) Sl.v λg=>Ix g.a g.n 4 d λg=>bJ e g λg i j k=>Cq aD f "colonnade/build.take" <|fE aD f "colonnade/build.take" [(.agg #[(.bool g),(ah i),(.string j),(Sl.v k)])] e (λe f=>∃g:Int,e=(ah g)/\(If (g !=0) (K g f) (aO (d+1) λd=>c (FX P n a A b d) f))) Kp)) (ahG K Kp P n a e)):=eI
theorem aDZ{K:bQ}(H:iK h x a V A λa b=>NN P λc=>Ld b a .bool λd=>oO (some c) d b (λb c=>If (b !=0) (K b c) (NN P λb=>Ld c (b.add 16) Sl.v λb=>EM b c (λb c=>NN P λd=>Ld c (d.add 16) Sl.v λd=>agm K Kp P a b d (d.n:Int) 0 c) Kp)) Kp):N5 P x a V A h K Kp:=cF (TY K Kp) dr K Tryz.func209 H
def yh:=mc aD Tryz.f210 (am [(2000014,17),(2008,240518168593)]) [(14,(OT.l [0,1,2,3,4,5,6,9,7,8,10,11,12] .fin))] dr
def ahF:=jK yh 0 63 [.p,tI]
def QF:=fK 59 [0,4,35,36,37] [.p,tI,.s,tI,tI]
def agl:=lK yh 2008 250 QF
theorem aAT{K:bQ}(H:NN P λb=>NN P λc=>Ld h (c.add 16) Sl.v λc=>EM c h (λc d=>aO ((16:Int)+c) λc=>aO (c-a) λa=>nC (some b) a d (λa b=>K a b) Kp) Kp):ahF K Kp P a h:=jf H
theorem azm{K:bQ}:eH (A0:=Int) (agl K Kp P a A b) (QF P a A b) λc d e=>(aS (d<b) (Ix A.a A.n 1 d λf=>Ld e f id λf=>fE aD f "colonnade/build.zero" [] e (λe f=>∃g:Int,e=(ah g)/\(If (g !=0) (K g f) (aO (d+1) λd=>c (QF P a A b d) f))) Kp) (ahF K Kp P a e)):=eI
theorem aDY{K:bQ}(H:NN P λa=>Ld h (a.add 15) .bool λa=>If a (NN P λa=>bJ h (a.add 11) λa b c d=>N5 P a b c d h (λa b=>K a b) Kp) (NN P λa=>oO (some a) false h (λa b=>If (a !=0) (K a b) (NN P λa=>Ld b (a.add 16) Sl.v λa=>EM a b (λa b=>NN P λc=>Ld b (c.add 16) Sl.v λc=>agl K Kp P a c (c.n:Int) 0 b) Kp)) Kp)):Xo P h K Kp:=cF (yh K Kp) dr K Tryz.func210 H
def aec:=mc aD Tryz.f211 (am [(2003,456)]) [] gS
def QE:=fK 19 [6,7,3,8] [.s,tI,.s,tI]
def agk:=lK aec 2003 58 QE
theorem azl{K:gz}:jB (A0:=Sl) (A1:=Int) (agk K Kp A a) (QE A a) λb c d e=>(aS (d<a) (Ix A.a A.n 1 d λf=>Ld e f id λf=>fE aD f "colonnade/build.done" [] e (λe f=>∃g:Int,∃i:Int,∃j:Int,∃k:Sl,∃l:Sl,∃m:Sl,e=(.agg #[(ah g),(ah i),(ah j),(Sl.v k),(Sl.v l),(Sl.v m)])/\(aH f #[(ah g),(ah i),(ah j),(Sl.v k),(Sl.v l),(Sl.v m)] bX λe f=>Ap f bX cY 6 96 c 1 (rd f (some e) (1*6)) λc e=>aO (d+1) λd=>b (QE A a c d) e)) Kp) (K c e)):=jD
theorem aDX{K:gz}(H:agk K Kp A (A.n:Int) bT 0 h):N4 A h K Kp:=cF (aec K Kp) gS K Tryz.func211 H
def aeb:=mc aD Tryz.f212 (am [(2003,456)]) [] A8
def QD:=fK 19 [3,6,7,8] [.d,.s,tI,tI]
def agj:=lK aeb 2003 58 QD
theorem azk{K:Ck}:eH (A0:=Int) (agj K Kp n A a) (QD n A a) λb c d=>(aS (c<a) (Ix A.a A.n 1 c λe=>Ld d e id λe=>Ld d n Sl.v λf=>fE aD e "colonnade/build.mark" [] d (λe g=>∃i:Value,e=i/\(aU d g n 1 <|NA i <|aH g #[i] Y4 λd e=>aU g e n 1 <|Ap e Y4 #[(.nilFunc)] 1 8 f 1 (rd e (some d) (1*1)) λd e=>St e n (Sl.v d) λd=>aO (c+1) λc=>b (QD n A a c) d)) Kp) (K (.func (.func 215) #[] #[(dw n)]) d)):=eI
theorem aDW{K:Ck}(H:aH h #[(.slice none 0 0)] Vj λa b=>agj K Kp a A (A.n:Int) 0 b):N0 A h K Kp:=cF (aeb K Kp) A8 K Tryz.func212 H
theorem aDV{K:iZ}(H:Ld h n id λa=>cX aD a [] h (λa b=>a=(.tuple #[])/\(Ld b o id λa=>cX aD a [] b (λa b=>a=(.tuple #[])/\(K  b)) Kp)) Kp):ajc n o h K Kp:=cZ kJ K Tryz.func213 H
def Lj:=mc aD Tryz.f214 (am [(2003,456)]) [] dr
def QC:=fK 18 [6,7,3,8] [.s,tI,tI,tI]
def agi:=lK Lj 2003 58 QC
theorem azj{K:bQ}:jB (A0:=Int) (A1:=Int) (agi K Kp A a) (QC A a) λb c d e=>(aS (d<a) (Ix A.a A.n 1 d λf=>Ld e f id λf=>fE aD f "colonnade/build.weight" [] e (λe f=>∃g:Int,e=(ah g)/\(aO (c+g) λc=>aO (d+1) λd=>b (QC A a c d) f)) Kp) (K c e)):=jD
theorem aDU{K:bQ}(H:agi K Kp A (A.n:Int) 0 0 h):EM A h K Kp:=cF (Lj K Kp) dr K Tryz.func214 H
def aea:=mc aD Tryz.f215 (am [(2001,56)]) [] kJ
def QB:=fK 12 [3,4,5] [.s,tI,tI]
def agh:=lK aea 2001 6 QB
theorem azi{K:iZ}:eH (A0:=Int) (agh K Kp A a) (QB A a) λb c d=>(aS (c<a) (Ix A.a A.n 1 c λe=>Ld d e id λe=>cX aD e [] d (λd e=>d=(.tuple #[])/\(aO (c+1) λc=>b (QB A a c) e)) Kp) (K  d)):=eI
theorem aDT{K:iZ}(H:Ld h n Sl.v λa=>agh K Kp a (a.n:Int) 0 h):ajb n h K Kp:=cF (aea K Kp) kJ K Tryz.func215 H
def ad9:=mc aD Tryz.f216 (am [(2000002,13)]) [(1,(OT.l [0,1,2,3,4,5,6,8,9,10,11] (.alt (OT.l [7] (.alt (OT.l [12] (.alt (OT.l [13] (.alt (OT.l [14,15,16] .fin) (OT.l [15,14,16] .fin))) (OT.l [15,13,14,16] .fin))) (OT.l [15,12,13,14,16] .fin))) (OT.l [15,7,12,13,14,16] .fin))))] mg
def Aw:=jK ad9 0 7 [.p,.d,.d]
theorem aAS{K:jM}(H:NN P λa=>Ld h (a.add 18) Sl.v λa=>N4 a h (λa b=>St b (o.add 4) (Sl.v a) λa=>cr a o λb c d e f g=>cV a n b c d e f g λa=>cr a n λb c d e f g=>K b c d e f g a) Kp):Aw K Kp P n o h:=jf H
theorem aDS{K:jM}(H:aH h cY bX λa b=>NN P λc=>NN P λd=>Ld b (d.add 16) Sl.v λe=>NN P λf=>Ld b (f.add 17) Sl.v λg=>(EL e b (λe i=>aU b i (f.add 17) 1 <|(qC g 4 i (λb g=>(aH g #[(Sl.v e),(Sl.v b)] fN λb e=>(iB (some c) (⟨some b,2,2⟩:Sl) e (λb c e g i j k=>aH k cY bX λl m=>aU k m (f.add 17) 1 <|aU k m (d.add 16) 1 <|cV m l b c e g i j λb=>Aw K Kp P a l b) Kp)/\(aH e cY bX λg i=>aU e i (f.add 17) 1 <|aU e i (d.add 16) 1 <|iB (some c) (⟨some b,2,2⟩:Sl) i (λb c d e f i j=>cV j g b c d e f i λb=>Aw K Kp P a g b) Kp))/\(aH g cY bX λi j=>aU g j (f.add 17) 1 <|aU g j (d.add 16) 1 <|aH j #[(Sl.v e),(Sl.v b)] fN λb d=>iB (some c) (⟨some b,2,2⟩:Sl) d (λb c d e f g j=>cV j i b c d e f g λb=>Aw K Kp P a i b) Kp)) Kp)/\(aH i cY bX λb j=>aU i j (f.add 17) 1 <|aU i j (d.add 16) 1 <|qC g 4 j (λd f=>aH f #[(Sl.v e),(Sl.v d)] fN λd e=>iB (some c) (⟨some d,2,2⟩:Sl) e (λc d e f g i j=>cV j b c d e f g i λc=>Aw K Kp P a b c) Kp) Kp)) Kp)/\(aH b cY bX λi j=>aU b j (f.add 17) 1 <|aU b j (d.add 16) 1 <|EL e j (λb d=>aU j d (f.add 17) 1 <|qC g 4 d (λd e=>aH e #[(Sl.v b),(Sl.v d)] fN λb d=>iB (some c) (⟨some b,2,2⟩:Sl) d (λb c d e f g j=>cV j i b c d e f g λb=>Aw K Kp P a i b) Kp) Kp) Kp)):aja P h K Kp:=cF (ad9 K Kp) mg K Tryz.func216 H
theorem aDR{K:bQ}(H:iK h x a V A λa b=>Ld b (a.add 1) mI λc=>NX P c (.func (.func 222) #[] #[(dw a)]) b (λa b=>K a b) Kp):NY P x a V A h K Kp:=cZ dr K Tryz.func218 H
theorem aDQ{K:bQ}(H:NN P λa=>Ld h (a.add 15) .bool λa=>If a (NN P λa=>bJ h (a.add 11) λa b c d=>NY P a b c d h (λa b=>K a b) Kp) (NX P 0 (.func (.methodOf HY "colonnade/build.zero") #[] #[]) h (λa b=>K a b) Kp)):Xn P h K Kp:=cZ dr K Tryz.func219 H
theorem aDP{K:iZ}(H:Ld h n id λa=>cX aD a [] h (λa b=>a=(.tuple #[])/\(Ld b o id λa=>cX aD a [] b (λa b=>a=(.tuple #[])/\(Ld b p .pointer λa=>Ld b p .pointer λc=>Ld b p .pointer λd=>NN d λd=>Ld b (d.add 16) Sl.v λd=>Ld b q mI λe=>jA d 1 none (some e) none λd=>Ld b p .pointer λe=>NN e λe=>Ld b (e.add 17) Sl.v λe=>Ld b q mI λf=>jA e 1 none (some f) none λe=>NN a λa=>St b (a.add 16) (Sl.v d) λa=>aU b a q 1 <|aU b a p 1 <|NN c λb=>St a (b.add 17) (Sl.v e) λa=>K  a)) Kp)) Kp):ai9 n o p q h K Kp:=cZ kJ K Tryz.func220 H
theorem aDO{K:bQ}(H:NN P λb=>oO (some b) false h (λb c=>If (b !=0) (K b c) (NN P λb=>Ld c (b.add 18) Sl.v λb=>Ix b.a b.n 1 a λb=>Ld c b id λb=>fE aD b "colonnade/build.weight" [] c (λc d=>∃e:Int,c=(ah e)/\(NN P λc=>Ld d (c.add 16) Sl.v λc=>Wr .u8 a λa=>aH d #[(.int .u8 a)] Y8 λa d=>Ap d Y8 #[(.int .u8 0)] 1 1 c 1 (rd d (some a) (1*1)) λa c=>NN P λd=>St c (d.add 16) (Sl.v a) λa=>NN P λc=>Ld a (c.add 17) Sl.v λd=>fE aD b "colonnade/build.count" [] a (λf g=>∃i:Int,f=(ah i)/\(aU a g (c.add 17) 1 <|aH g #[(ah i)] Y6 λa f=>aU g f (c.add 17) 1 <|Ap f Y6 #[(ah 0)] 1 8 d 1 (rd f (some a) (1*1)) λa c=>NN P λd=>St c (d.add 17) (Sl.v a) λa=>cX aD Y [b] a (λa c=>∃d:Int,a=(ah d)/\(If (d !=0) (K d c) (NN P λa=>fE aD b "colonnade/build.weight" [] c (λb c=>∃d:Int,b=(ah d)/\(aO ((16:Int)+d) λb=>aO (b-e) λb=>nC (some a) b c (λa b=>K a b) Kp)) Kp))) Kp)) Kp)) Kp)) Kp):NX P a Y h K Kp:=DE [] [(11,(OT.l [0,1,2,3,6,4,5,7,8,9] .fin))] dr K Tryz.func221 H
theorem aDN{K:bQ}(H:Ld h (n.add 3) Sl.v λa=>Ix a.a a.n 4 0 λa=>bJ h a λa b c d=>Cq aD Y "colonnade/build.take" <|fE aD Y "colonnade/build.take" [(.agg #[(.bool a),(ah b),(.string c),(Sl.v d)])] h (λa b=>∃c:Int,a=(ah c)/\(K c b)) Kp):ai8 Y n h K Kp:=cZ dr K Tryz.func222 H
def ad8:=mc aD Tryz.f223 (am [(2000002,13)]) [(1,(OT.l [0,1,2,3,4,5,7,8,9,10,11,12,13,14,15,16,17] (.alt (OT.l [6] (.alt (OT.l [18] (.alt (OT.l [19] (.alt (OT.l [20] (.alt (OT.l [21,22,23] .fin) (OT.l [22,21,23] .fin))) (OT.l [22,20,21,23] .fin))) (OT.l [22,19,20,21,23] .fin))) (OT.l [22,18,19,20,21,23] .fin))) (OT.l [22,6,18,19,20,21,23] .fin))))] mg
def yV:=jK ad8 0 7 [.p,.d,.d]
theorem aAR{K:jM}(H:NN P λa=>Ld h (a.add 17) id λa=>fE aD a "colonnade/build.done" [] h (λa b=>∃c:Int,∃d:Int,∃e:Int,∃f:Sl,∃g:Sl,∃i:Sl,a=(.agg #[(ah c),(ah d),(ah e),(Sl.v f),(Sl.v g),(Sl.v i)])/\(aH b #[(ah c),(ah d),(ah e),(Sl.v f),(Sl.v g),(Sl.v i)] bX λa b=>St b (o.add 5) (.slice (some a) 1 1) λa=>cr a o λb c d e f g=>cV a n b c d e f g λa=>cr a n λb c d e f g=>K b c d e f g a)) Kp):yV K Kp P n o h:=jf H
theorem aDM{K:jM}(H:aH h cY bX λa b=>NN P λc=>NN P λd=>NN P λe=>Ld b (e.add 16) Sl.v λf=>NN P λg=>Ld b ((g.add 2).add 3) mI λi=>(uh (some d) b (λd j=>aU b j ((g.add 2).add 3) 1 <|aU b j (e.add 16) 1 <|(CC i j (λb i=>aU j i (e.add 16) 1 <|(qC f b i (λb f=>(aH f #[(Sl.v d),(Sl.v b)] fN λb d=>(iB (some c) (⟨some b,2,2⟩:Sl) d (λb c d f i j k=>aH k cY bX λl m=>aU k m ((g.add 2).add 3) 1 <|aU k m (e.add 16) 1 <|cV m l b c d f i j λb=>yV K Kp P a l b) Kp)/\(aH d cY bX λf i=>aU d i ((g.add 2).add 3) 1 <|aU d i (e.add 16) 1 <|iB (some c) (⟨some b,2,2⟩:Sl) i (λb c d e g i j=>cV j f b c d e g i λb=>yV K Kp P a f b) Kp))/\(aH f cY bX λi j=>aU f j ((g.add 2).add 3) 1 <|aU f j (e.add 16) 1 <|aH j #[(Sl.v d),(Sl.v b)] fN λb d=>iB (some c) (⟨some b,2,2⟩:Sl) d (λb c d e f g j=>cV j i b c d e f g λb=>yV K Kp P a i b) Kp)) Kp)/\(aH i cY bX λj k=>aU i k ((g.add 2).add 3) 1 <|aU i k (e.add 16) 1 <|qC f b k (λb e=>aH e #[(Sl.v d),(Sl.v b)] fN λb d=>iB (some c) (⟨some b,2,2⟩:Sl) d (λb c d e f g i=>cV i j b c d e f g λb=>yV K Kp P a j b) Kp) Kp)) Kp)/\(aH j cY bX λb k=>aU j k ((g.add 2).add 3) 1 <|aU j k (e.add 16) 1 <|CC i k (λg i=>aU k i (e.add 16) 1 <|qC f g i (λe f=>aH f #[(Sl.v d),(Sl.v e)] fN λd e=>iB (some c) (⟨some d,2,2⟩:Sl) e (λc d e f g i j=>cV j b c d e f g i λc=>yV K Kp P a b c) Kp) Kp) Kp)) Kp)/\(aH b cY bX λj k=>aU b k ((g.add 2).add 3) 1 <|aU b k (e.add 16) 1 <|uh (some d) k (λb d=>aU k d ((g.add 2).add 3) 1 <|aU k d (e.add 16) 1 <|CC i d (λg i=>aU d i (e.add 16) 1 <|qC f g i (λd e=>aH e #[(Sl.v b),(Sl.v d)] fN λb d=>iB (some c) (⟨some b,2,2⟩:Sl) d (λb c d e f g i=>cV i j b c d e f g λb=>yV K Kp P a j b) Kp) Kp) Kp) Kp)):ai7 P h K Kp:=cF (ad8 K Kp) mg K Tryz.func223 H
def Li:=mc aD Tryz.f225 (am [(2000007,9),(2000018,73),(2000017,329)]) [(17,(OT.l [0,1,2,3,4,5,6,7,8,9,11] (.alt (OT.l [10,12,13,14] .fin) (OT.l [12,10,13,14] .fin)))),(16,(OT.l [0,1,2,3,4,6] (.alt (OT.l [5,7,8,9,11,12] (.alt (OT.l [10,13] .fin) (OT.l [13,10] .fin))) (OT.l [7,5,8,9,11,12] (.alt (OT.l [10,13] .fin) (OT.l [13,10] .fin))))))] dr
def EE:=jK Li 1 63 [.p,.d,tI]
def ud:=jK Li 2 8031 [.p,.d,tI,.i .u64]
def ahE:=jK Li 0 15 [.p,.d]
theorem aAP{K:bQ}(H:NN P λb=>Ld h (b.add 16) Sl.v λb=>aH h #[(ah a)] Y6 λa c=>Ap c Y6 #[(ah 0)] 1 8 b 1 (rd c (some a) (1*1)) λa b=>NN P λc=>St b (c.add 16) (Sl.v a) λa=>NN P λb=>bJ a n λc d e f=>EO c d e f a (λa c=>nC (some b) a c (λa b=>K a b) Kp) Kp):EE K Kp P n a h:=jf H
theorem aAO{K:bQ}(H:NN P λc=>Ld h (c.add 19) .map λd=>NN P λe=>Ld h (e.add 19) .map λf=>(Lk h f (.int .u64) (.int .u64 b) (.slice none 0 0) Sl.v λf _=>aU h h (c.add 19) 1 <|aH h #[(ah a)] Y6 λg i=>aU h i (e.add 19) 1 <|aU h i (c.add 19) 1 <|Ap i Y6 #[(ah 0)] 1 8 f 1 (rd i (some g) (1*1)) λe f=>aU i f (c.add 19) 1 <|Up f d (.int .u64) (.int .u64 b) (Sl.v e) λb=>EE K Kp P n a b)/\(aH h #[(ah a)] Y6 λg i=>aU h i (e.add 19) 1 <|aU h i (c.add 19) 1 <|Lk i f (.int .u64) (.int .u64 b) (.slice none 0 0) Sl.v λe _=>aU i i (c.add 19) 1 <|Ap i Y6 #[(ah 0)] 1 8 e 1 (rd i (some g) (1*1)) λe f=>aU i f (c.add 19) 1 <|Up f d (.int .u64) (.int .u64 b) (Sl.v e) λb=>EE K Kp P n a b)):ud K Kp P n a b h:=jf H
theorem aAQ{K:bQ}(H:bJ h n λa b c d=>Xl P a b c d h (λa b=>aS (a<0) (NN P λa=>Ld b (a.add 18) Sl.v λa=>NU P b (λb c=>aS ((a.n:Int)>=b) (K 102 c) (NN P λb=>Ld c (b.add 17) id λb=>bJ c n λd e f g=>fE aD b "colonnade/build.take" [(.agg #[(.bool d),(ah e),(.string f),(Sl.v g)])] c (λb c=>∃d:Int,b=(ah d)/\(If (d !=0) (K d c) (bJ c n λb d e f=>IG b d e f c (λb c=>NN P λd=>Ld c (d.add 18) Sl.v λe=>bJ c n λf g i j=>(AB f g i j c (λf g i j k=>aU c k (d.add 18) 1 <|aH k #[(.bool false),(ah 0),(.string (bs [])),(.slice none 0 0)] dh λc l=>aU k l n 4 <|aU k l (d.add 18) 1 <|Ap l dh fU 4 56 e 1 (rd l (some c) (1*4)) λc d=>Ix c.a c.n 4 (e.n:Int) λe=>NN P λk=>(dH d e f g i j λd=>St d (k.add 18) (Sl.v c) λc=>ud K Kp P n (a.n:Int) b c)/\(St d (k.add 18) (Sl.v c) λc=>dH c e f g i j λc=>ud K Kp P n (a.n:Int) b c)) Kp)/\(aH c #[(.bool false),(ah 0),(.string (bs [])),(.slice none 0 0)] dh λk l=>aU c l n 4 <|aU c l (d.add 18) 1 <|AB f g i j l (λc f g i j=>aU l j (d.add 18) 1 <|Ap j dh fU 4 56 e 1 (rd j (some k) (1*4)) λd j=>Ix d.a d.n 4 (e.n:Int) λe=>NN P λk=>(dH j e c f g i λc=>St c (k.add 18) (Sl.v d) λc=>ud K Kp P n (a.n:Int) b c)/\(St j (k.add 18) (Sl.v d) λd=>dH d e c f g i λc=>ud K Kp P n (a.n:Int) b c)) Kp)) Kp))) Kp)) Kp) (EE K Kp P n a b)) Kp):ahE K Kp P n h:=jf H
theorem aDL{K:bQ}(H:iK h x a V A λa b=>NN P λc=>Ld b a .bool λd=>oO (some c) d b (λb c=>If (b !=0) (K b c) (Ld c a .bool λb=>If b (NN P λa=>Ld c (a.add 16) Sl.v λa=>aH c #[(ah 0)] Y6 λb c=>Ap c Y6 #[(ah 0)] 1 8 a 1 (rd c (some b) (1*1)) λa b=>NN P λc=>St b (c.add 16) (Sl.v a) λa=>NN P λb=>nC (some b) 16 a (λa b=>K a b) Kp) (ahE K Kp P a c))) Kp):NV P x a V A h K Kp:=cF (Li K Kp) dr K Tryz.func225 H
theorem aDK{K:bQ}(H:NN P λa=>Ld h (a.add 15) .bool λa=>If a (NN P λa=>bJ h (a.add 11) λa b c d=>NV P a b c d h (λa b=>K a b) Kp) (NN P λa=>oO (some a) false h (λa b=>If (a !=0) (K a b) (NN P λa=>Ld b (a.add 18) Sl.v λc=>NU P b (λd e=>aU b e (a.add 18) 1 <|aS ((c.n:Int)>=d) (K 102 e) (NN P λa=>Ld e (a.add 17) id λa=>fE aD a "colonnade/build.zero" [] e (λa b=>∃c:Int,a=(ah c)/\(If (c !=0) (K c b) (K 3 b))) Kp)) Kp)) Kp)):Xm P h K Kp:=cZ dr K Tryz.func226 H
theorem ai6{K:bQ}(H:If (a==3) (If (a==3) (K 1 h) (If (a==4) (If (a==4) (K 2 h) (If (a==5) (If (a==5) (K 4 h) (K 8 h)) (If (a==9) (K 4 h) (K 8 h)))) (If (a==8) (K 2 h) (If (a==5) (If (a==5) (K 4 h) (K 8 h)) (If (a==9) (K 4 h) (K 8 h)))))) (If (a==7) (K 1 h) (If (a==4) (If (a==4) (K 2 h) (If (a==5) (If (a==5) (K 4 h) (K 8 h)) (If (a==9) (K 4 h) (K 8 h)))) (If (a==8) (K 2 h) (If (a==5) (If (a==5) (K 4 h) (K 8 h)) (If (a==9) (K 4 h) (K 8 h))))))):CC a h K Kp:=cZ dr K Tryz.func227 H
def Lh:=mc aD Tryz.f228 (am [(2000003,20),(2000011,20),(2004,52)]) [] kJ
def ahC:=jK Lh 1 31 [.d,.d]
def JV:=fK 73 [2,4,5] [.d,.d,tI]
def agf:=lK Lh 2004 122 JV
def ahD:=jK Lh 0 15 [.d,.d]
theorem aAM{K:iZ}(H:Ld h n .pointer λa=>Ld h n .pointer λb=>NN b λb=>Ld h (b.add 18) Sl.v λb=>Ld h o mI λc=>jA b 4 none (some c) none λb=>NN a λa=>St h (a.add 18) (Sl.v b) λa=>K  a):ahC K Kp n o h:=jf H
theorem azh{K:iZ}:eH (A0:=Int) (agf K Kp n o) (JV n o) λa b c=>(Ld c o mI λd=>aS (b>=d) (Ld c n .pointer λd=>NN d λd=>Ld c (d.add 18) Sl.v λd=>Ix d.a d.n 4 b λd=>bJ c d λd e f g=>IG d e f g c (λc d=>Ld d n .pointer λe=>NN e λe=>Ld d (e.add 19) .map λe=>Lk d e (.int .u64) (.int .u64 c) (.slice none 0 0) Sl.v λe _=>Ld d n .pointer λf=>NN f λf=>Ld d (f.add 19) .map λf=>aO ((e.n:Int)-1) λg=>jA e 1 none (some g) none λg=>Up d f (.int .u64) (.int .u64 c) (Sl.v g) λd=>If ((e.n:Int)==1) (Ld d n .pointer λe=>NN e λe=>Ld d (e.add 19) .map λe=>zb d e (.int .u64) (.int .u64 c) λc=>aO (b-1) λb=>a (JV n o b) c) (aO (b-1) λb=>a (JV n o b) d)) Kp) (ahC K Kp n o c)):=eI
theorem aAN{K:iZ}(H:Ld h n .pointer λa=>NN a λa=>Ld h (a.add 18) Sl.v λa=>aO ((a.n:Int)-1) λa=>agf K Kp n o a h):ahD K Kp n o h:=jf H
theorem aDJ{K:iZ}(H:Ld h n id λa=>cX aD a [] h (λa b=>a=(.tuple #[])/\(Ld b o id λa=>cX aD a [] b (λa b=>a=(.tuple #[])/\(Ld b p .pointer λa=>Ld b p .pointer λc=>NN c λc=>Ld b (c.add 16) Sl.v λc=>Ld b q mI λd=>jA c 1 none (some d) none λc=>NN a λa=>St b (a.add 16) (Sl.v c) λa=>ahD K Kp p r a)) Kp)) Kp):ai5 n o p q r h K Kp:=cF (Lh K Kp) kJ K Tryz.func228 H
theorem aDI{K:Eu}(H:iK h x a V A λa b=>aH b #[(.int .u64 0)] ayq λb c=>St c b (.int .u64 14695981039346656037) λc=>bJ c a λa d e f=>NT (some b) a d e f c (λa=>Ld a b (.int .u64) λb=>K b a) Kp):IG x a V A h K Kp:=cZ C9 K Tryz.func229 H
def ad7:=mc aD Tryz.f230 (am [(2002,57353)]) [(1,(OT.l [0,1,2,3,4,8,5,6,7] .fin))] dr
def QA:=fK 30 [0,3,13,14,15] [.p,.d,.s,tI,tI]
def age:=lK ad7 2002 26 QA
theorem azg{K:bQ}:eH (A0:=Int) (age K Kp P n A a) (QA P n A a) λb c d=>(aS (c<a) (Ix A.a A.n 1 c λe=>Ld d e mI λe=>NN P λf=>Ld d (f.add 18) Sl.v λf=>Ix f.a f.n 4 e λf=>bJ d f λf g i j=>bJ d n λk l m p=>IF f g i j k l m p d (λd f=>If d (K e f) (aO (c+1) λc=>b (QA P n A a c) f)) Kp) (K (-1) d)):=eI
theorem aDH{K:bQ}(H:iK h x a V A λa b=>NN P λc=>Ld b (c.add 19) .map λd=>bJ b a λe f g i=>IG e f g i b (λe f=>aU b f (c.add 19) 1 <|Lk f d (.int .u64) (.int .u64 e) (.slice none 0 0) Sl.v λb _=>age K Kp P a b (b.n:Int) 0 f) Kp):Xl P x a V A h K Kp:=cF (ad7 K Kp) dr K Tryz.func230 H
theorem aDG{K:bQ}(H:NN P λa=>Ld h ((a.add 2).add 3) mI λa=>If (a==3) (K 128 h) (If (a==7) (K 256 h) (K 4097 h))):NU P h K Kp:=cZ dr K Tryz.func231 H
def ad6:=mc aD Tryz.f232 (am [(2003,910)]) [] uw
def Qz:=fK 22 [1,2,7,8,3,9] [.d,.d,.s,tI,.s,tI]
def agd:=lK ad6 2003 58 Qz
theorem azf{K:qx}:jB (A0:=Sl) (A1:=Int) (agd K Kp n o A a) (Qz n o A a) λb c d e=>(aS (d<a) (Ix A.a A.n 4 d λf=>bJ e f λf g i j=>aH e fU dh λe k=>dH k e f g i j λf=>bJ f e λe g i j=>AB e g i j f (λe f g i j=>aH j #[(.bool e),(ah f),(.string g),(Sl.v i)] dh λe f=>Ap f dh fU 4 56 c 1 (rd f (some e) (1*4)) λc e=>aO (d+1) λd=>b (Qz n o A a c d) e) Kp) (St e (n.add 3) (Sl.v c) λa=>bJ a n λb c d e=>dH a o b c d e λa=>bJ a o λb c d e=>K b c d e a)):=jD
theorem aDF{K:qx}(H:iK h x a V A λa b=>aH b fU dh λb c=>Ld c (a.add 3) Sl.v λd=>agd K Kp a b d (d.n:Int) bT 0 c):AB x a V A h K Kp:=cF (ad6 K Kp) uw K Tryz.func232 H
def ael:=mc aD Tryz.f233 (am [(2003,14344)]) [] dr
def Rg:=fK 23 [11,12,3,13] [.s,tI,tI,tI]
def agI:=lK ael 2003 58 Rg
theorem azQ{K:bQ}:jB (A0:=Int) (A1:=Int) (agI K Kp A a) (Rg A a) λb c d e=>(aS (d<a) (Ix A.a A.n 4 d λf=>bJ e f λf g i j=>aH e fU dh λe k=>dH k e f g i j λf=>bJ f e λe g i j=>EO e g i j f (λe f=>aO (c+e) λc=>aO (d+1) λd=>b (Rg A a c d) f) Kp) (K c e)):=jD
theorem aEV{K:bQ}(H:iK h x a V A λa b=>Ld b (a.add 2) .string λc=>aO ((16:Int)+(c.size:Int)) λc=>Ld b (a.add 3) Sl.v λa=>agI K Kp a (a.n:Int) c 0 b):EO x a V A h K Kp:=cF (ael K Kp) dr K Tryz.func233 H
def G9:=mc aD Tryz.f234 (am [(2000004,25),(2000012,9),(2014,123145302310913),(2008,201326601)]) [] kJ
def Qy:=fK 54 [0,44,45,46] [.p,.s,tI,tI]
def agc:=lK G9 2014 2046 Qy
def ahB:=jK G9 1 255 [.p,.d]
def Qx:=fK 54 [0,3,26,27] [.p,.d,tI,tI]
def agb:=lK G9 2008 1018 Qx
def Mt:=jK G9 0 15 [.p,.d,.i .u8]
theorem aze{K:iZ}:eH (A0:=Int) (agc K Kp P A a) (Qy P A a) λb c d=>(aS (c<a) (Ix A.a A.n 4 c λe=>bJ d e λe f g i=>aH d fU dh λd j=>dH j d e f g i λe=>bJ e d λd f g i=>NT P d f g i e (λd=>aO (c+1) λc=>b (Qy P A a c) d) Kp) (K  d)):=eI
theorem aAK{K:iZ}(H:Ld h (n.add 3) Sl.v λa=>Wr .u64 (a.n:Int) λa=>ID P a h (λa=>Ld a (n.add 3) Sl.v λb=>agc K Kp P b (b.n:Int) 0 a) Kp):ahB K Kp P n h:=jf H
theorem azd{K:iZ}:eH (A0:=Int) (agb K Kp P n a) (Qx P n a) λb c d=>(aS (c<a) (Ld d (n.add 2) .string λe=>hY e c λe=>IE P e d (λd=>aO (c+1) λc=>b (Qx P n a c) d) Kp) (ahB K Kp P n d)):=eI
theorem aAL{K:iZ}(H:IE P a h (λa=>Ld a (n.add 1) mI λb=>Wr .u64 b λb=>ID P b a (λa=>Ld a (n.add 2) .string λb=>Wr .u64 (b.size:Int) λb=>ID P b a (λa=>Ld a (n.add 2) .string λb=>agb K Kp P n (b.size:Int) 0 a) Kp) Kp) Kp):Mt K Kp P n a h:=jf H
theorem aDE{K:iZ}(H:iK h x a V A λa b=>Ld b a .bool λc=>If c (Mt K Kp P a 1 b) (Mt K Kp P a 0 b)):NT P x a V A h K Kp:=cF (G9 K Kp) kJ K Tryz.func234 H
def GZ:=mc aD Tryz.f235 (am [(2000003,12),(2004,206158430220),(41012,131084),(41019,16777228)]) [] dy
def Qw:=fK 53 [2,3,36,37] [.d,.d,tI,tI]
def aga:=lK GZ 2004 58 Qw
def ahA:=jK GZ 0 7 [.d,.d]
def Mr:=rK GZ 3 12 [.d,.d,.b]
def Ms:=rK GZ 2 12 [.d,.d,.b]
theorem azc{K:bF}:eH (A0:=Int) (aga K Kp n o a) (Qw n o a) λb c d=>(aS (c<a) (Ld d (n.add 3) Sl.v λe=>Ix e.a e.n 4 c λe=>bJ d e λe f g i=>Ld d (o.add 3) Sl.v λj=>Ix j.a j.n 4 c λj=>bJ d j λj k l m=>IF e f g i j k l m d (λd e=>If (!d) (K false e) (aO (c+1) λc=>b (Qw n o a c) e)) Kp) (K true d)):=eI
theorem aAJ{K:bF}(H:Ld h (n.add 3) Sl.v λa=>aga K Kp n o (a.n:Int) 0 h):ahA K Kp n o h:=jf H
theorem ahy{K:bF}(H:If x (K false h) (Ld h (n.add 3) Sl.v λa=>Ld h (o.add 3) Sl.v λb=>If ((a.n:Int)!=(b.n:Int)) (K false h) (ahA K Kp n o h))):Mr K Kp n o x h:=jf H
theorem ahz{K:bF}(H:If x (Mr K Kp n o true h) (Ld h (n.add 2) .string λa=>Ld h (o.add 2) .string λb=>Mr K Kp n o (!(a.toList==b.toList)) h)):Ms K Kp n o x h:=jf H
theorem aDD{K:bF}(H:iK h x a V A λa c=>iK c y b W B λb c=>Ld c a .bool λd=>Ld c b .bool λe=>If (!(d==e)) (Ms K Kp a b true c) (Ld c (a.add 1) mI λd=>Ld c (b.add 1) mI λe=>Ms K Kp a b (d !=e) c)):IF x a V A y b W B h K Kp:=cF (GZ K Kp) dy K Tryz.func235 H
theorem aDC{K:iZ}(H:NN P λb=>Ld h b (.int .u64) λb=>Wr .u64 a λa=>Lt (gH .xor .u64 b a) λa=>Wr .u64 (a*1099511628211) λa=>NN P λb=>St h b (.int .u64 a) λa=>K  a):IE P a h K Kp:=cZ kJ K Tryz.func236 H
def ad5:=mc aD Tryz.f237 (am [(2001,19)]) [] kJ
def Qv:=fK 13 [0,1,4] [.p,.i .u64,tI]
def af9:=lK ad5 2001 6 Qv
theorem azb{K:iZ}:jB (A0:=Int) (A1:=Int) (af9 K Kp P) (Qv P) λa b c d=>(aS (c<8) (Wr .u8 b λe=>IE P e d (λd=>Nn 8<|Lt (Int.fdiv b (2^(min (Int.toNat 8) (IntKind.bits .u64)))) λb=>aO (c+1) λc=>a (Qv P b c) d) Kp) (K  d)):=jD
theorem aDB{K:iZ}(H:af9 K Kp P a 0 h):ID P a h K Kp:=cF (ad5 K Kp) kJ K Tryz.func237 H
def ad4:=mc aD Tryz.f238 (am [(2000002,13)]) [(1,(OT.l (List.range' 0 9) (.alt (OT.l [9] (.alt (OT.l [10,11,12,13] .fin) (OT.l [12,10,11,13] .fin))) (OT.l [12,9,10,11,13] .fin))))] mg
def ED:=jK ad4 0 7 [.p,.d,.d]
theorem aAI{K:jM}(H:NN P λa=>Ld h (a.add 7) mI λb=>cr h o λc d e f g i=>NN P λj=>Ld h (j.add 17) id λj=>fE aD j "colonnade/build.done" [] h (λj k=>∃l:Int,∃m:Int,∃p:Int,∃q:Sl,∃r:Sl,∃s:Sl,j=(.agg #[(ah l),(ah m),(ah p),(Sl.v q),(Sl.v r),(Sl.v s)])/\(aU h k o 6 <|aU h k (a.add 7) 1 <|aH k #[(ah c),(ah d),(ah e),(Sl.v f),(Sl.v g),(Sl.v i),(ah l),(ah m),(ah p),(Sl.v q),(Sl.v r),(Sl.v s)] bX λc d=>aU k d (a.add 7) 1 <|cV d n b 0 0 bT (⟨some c,2,2⟩:Sl) bT λa=>cr a n λb c d e f g=>K b c d e f g a)) Kp):ED K Kp P n o h:=jf H
theorem aDA{K:jM}(H:aH h cY bX λa b=>NN P λc=>Ld b (c.add 16) Sl.v λd=>NN P λe=>Ld b (e.add 16) Sl.v λf=>(qC f 4 b (λf g=>aU b g (c.add 16) 1 <|(aH g #[(.slice none 0 0),(Sl.v f)] fN λb f=>aU g f (c.add 16) 1 <|aH f cY bX λg i=>aU f i (e.add 16) 1 <|aU f i (c.add 16) 1 <|cV i g (d.n:Int) 0 0 (⟨some b,2,2⟩:Sl) bT bT λb=>ED K Kp P a g b)/\(aH g cY bX λb i=>aU g i (e.add 16) 1 <|aU g i (c.add 16) 1 <|aH i #[(.slice none 0 0),(Sl.v f)] fN λe f=>aU i f (c.add 16) 1 <|cV f b (d.n:Int) 0 0 (⟨some e,2,2⟩:Sl) bT bT λc=>ED K Kp P a b c)) Kp)/\(aH b cY bX λg i=>aU b i (e.add 16) 1 <|aU b i (c.add 16) 1 <|qC f 4 i (λb e=>aU i e (c.add 16) 1 <|aH e #[(.slice none 0 0),(Sl.v b)] fN λb f=>aU e f (c.add 16) 1 <|cV f g (d.n:Int) 0 0 (⟨some b,2,2⟩:Sl) bT bT λb=>ED K Kp P a g b) Kp)):ai4 P h K Kp:=cF (ad4 K Kp) mg K Tryz.func238 H
def Lg:=mc aD Tryz.f240 (am [(2000007,9),(2000011,9),(3509999,134217737)]) [] dr
def ahx:=jK Lg 1 63 [.p,.d]
def We:=jK Lg 0 15 [.p,.d]
def Wd:=jK Lg 2 29 [.p,.d,.b]
theorem aAG{K:bQ}(H:bJ h n λa b c d=>AB a b c d h (λa b c d e=>NN P λf=>dH e (f.add 18) a b c d λa=>NN P λb=>bJ a n λc d e f=>EO c d e f a (λa c=>nC (some b) a c (λa b=>K a b) Kp) Kp) Kp):ahx K Kp P n h:=jf H
theorem aAH{K:bQ}(H:NN P λa=>Ld h (a.add 17) id λa=>bJ h n λb c d e=>fE aD a "colonnade/build.take" [(.agg #[(.bool b),(ah c),(.string d),(Sl.v e)])] h (λa b=>∃c:Int,a=(ah c)/\(If (c !=0) (K c b) (NN P λa=>Ld b (a.add 16) Sl.v λc=>NN P λd=>Ld b (d.add 7) mI λd=>aH b #[(ah d)] Y6 λd e=>aU b e (a.add 16) 1 <|Ap e Y6 #[(ah 0)] 1 8 c 1 (rd e (some d) (1*1)) λa b=>NN P λc=>St b (c.add 16) (Sl.v a) λa=>ahx K Kp P n a))) Kp):We K Kp P n h:=jf H
theorem ahw{K:bQ}(H:If x (NN P λa=>Ld h (a.add 16) Sl.v λa=>NN P λb=>Ld h (b.add 16) Sl.v λb=>aO ((b.n:Int)-1) λb=>NN P λc=>Ld h (c.add 7) mI λc=>Ix a.a a.n 1 b λa=>St h a (ah c) λa=>NN P λb=>bJ a n λc d e f=>EO c d e f a (λa c=>nC (some b) a c (λa b=>K a b) Kp) Kp) (We K Kp P n h)):Wd K Kp P n x h:=jf H
theorem aDz{K:bQ}(H:iK h x a V A λa b=>NN P λc=>oO (some c) false b (λb c=>If (b !=0) (K b c) (NN P λb=>Ld c (b.add 16) Sl.v λb=>aS ((b.n:Int)>0) (NN P λb=>bJ c (b.add 18) λb d e f=>bJ c a λg i j k=>IF b d e f g i j k c (λb c=>Wd K Kp P a b c) Kp) (Wd K Kp P a false c))) Kp):NR P x a V A h K Kp:=cF (Lg K Kp) dr K Tryz.func240 H
theorem aDy{K:bQ}(H:NN P λa=>Ld h (a.add 15) .bool λa=>If a (NN P λa=>bJ h (a.add 11) λa b c d=>NR P a b c d h (λa b=>K a b) Kp) (NN P λa=>oO (some a) false h (λa b=>If (a !=0) (K a b) (NN P λa=>Ld b (a.add 17) id λa=>fE aD a "colonnade/build.zero" [] b (λa b=>∃c:Int,a=(ah c)/\(If (c !=0) (K c b) (K 3 b))) Kp)) Kp)):Xk P h K Kp:=cZ dr K Tryz.func241 H
def ad2:=mc aD Tryz.f242 (am [(2000003,44)]) [] kJ
def ahv:=jK ad2 0 15 [.d,.d,.d]
theorem aAF{K:iZ}(H:Ld h o mI λa=>aS (a>0) (Ld h n .pointer λa=>NN a λa=>Ld h (a.add 16) Sl.v λa=>Ld h o mI λb=>aO (b-1) λb=>Ld h p mI λc=>Ix a.a a.n 1 b λa=>St h a (ah c) λa=>K  a) (K  h)):ahv K Kp n o p h:=jf H
theorem aDx{K:iZ}(H:Ld h n id λa=>cX aD a [] h (λa b=>a=(.tuple #[])/\(Ld b o id λa=>cX aD a [] b (λa b=>a=(.tuple #[])/\(Ld b p .pointer λa=>Ld b p .pointer λc=>Ld b p .pointer λd=>NN d λd=>Ld b (d.add 16) Sl.v λd=>Ld b q mI λe=>jA d 1 none (some e) none λd=>bJ b r λe f g i=>NN a λa=>St b (a.add 16) (Sl.v d) λa=>aU b a r 4 <|aU b a p 1 <|NN c λb=>dH a (b.add 18) e f g i λa=>ahv K Kp p q s a)) Kp)) Kp):ai3 n o p q r s h K Kp:=cF (ad2 K Kp) kJ K Tryz.func242 H
def Lf:=mc aD Tryz.f243 (am [(2000019,13),(2008,1924145348621),(2015,33056565380087516495901)]) [(19,(OT.l [0,1,2,3,4,5,7,6,8,9,10] .fin))] mg
def Cy:=jK Lf 0 15 [.p,.d,.s]
def Qu:=fK 98 [0,2,3,38,39,40] [.p,.d,.s,.s,tI,tI]
def V4:=lK Lf 2008 3798 Qu
def Qs:=fK 98 [0,2,3,4,72,73,74] [.p,.d,.s,.d,.s,tI,tI]
def V3:=lK Lf 2015 15222 Qs
theorem aAE{K:jM}(H:NN P λa=>NN P λb=>uh (some b) h (λb c=>aH c #[(Sl.v b),(Sl.v A)] fN λb c=>iB (some a) (⟨some b,2,2⟩:Sl) c (λa b c d e f g=>cV g n a b c d e f λa=>cr a n λb c d e f g=>K b c d e f g a) Kp) Kp):Cy K Kp P n A h:=jf H
theorem aza{K:jM}:eH (A0:=Int) (V4 K Kp P n A B a) (Qu P n A B a) λb c d=>(aS (c<a) (Ix B.a B.n 1 c λe=>Ld d e (.int .u64) λe=>Dv 8<|aO (Int.tdiv c 8) λf=>Ix A.a A.n 1 f λg=>Ld d g (.int .u8) λg=>Wr .u8 e λe=>Dv 8<|Lt (Int.tmod c 8) λi=>Nn i<|Wr .u8 (e*2^(min (Int.toNat i) (IntKind.bits .u8))) λe=>Lt (gH .or .u8 g e) λe=>Ix A.a A.n 1 f λf=>St d f (.int .u8 e) λd=>aO (c+1) λc=>b (Qu P n A B a c) d) (Cy K Kp P n A d)):=eI
theorem ay9{K:jM}:eH (A0:=Int) (V3 K Kp P n A o B a) (Qs P n A o B a) λb c d=>(aS (c<a) (Ix B.a B.n 1 c λe=>Ld d e .string λe=>Ld d (o.add 1) mI λf=>aO (c*f) λf=>jA A 1 (some f) none none λf=>AJ d f.a (λa=>a=(e.extract 0 (Nat.min e.size f.n)).data.toList.map λa=>Value.int .u8 a.toNat) λd=>aO (c+1) λc=>b (Qs P n A o B a c) d) (Cy K Kp P n A d)):=eI
theorem aDw{K:jM}(H:aH h cY bX λa b=>NN P λc=>hO b (c.add 2) λc d e f g=>aH b oQ kG λb i=>lX i b c d e f g λc=>Ld c b mI λd=>If (d==2) (NN P λb=>Ld c (b.add 16) Sl.v λb=>aO ((b.n:Int)+7) λb=>Dv 8<|aO (Int.tdiv b 8) λb=>dO c Y8 #[(.int .u8 0)] 1 1 b b λb c=>NN P λd=>Ld c (d.add 16) Sl.v λd=>V4 K Kp P a b d (d.n:Int) 0 c) (If (d==14) (NN P λd=>Ld c (d.add 17) Sl.v λd=>Ld c (b.add 1) mI λe=>aO ((d.n:Int)*e) λd=>dO c Y8 #[(.int .u8 0)] 1 1 d d λc d=>NN P λe=>Ld d (e.add 17) Sl.v λe=>V3 K Kp P a c b e (e.n:Int) 0 d) (NN P λd=>Ld c (d.add 16) Sl.v λe=>Ld c b mI λb=>CC b c (λb f=>aU c f (d.add 16) 1 <|Xj e b f (λb c=>Cy K Kp P a b c) Kp) Kp))):ai2 P h K Kp:=cF (Lf K Kp) mg K Tryz.func243 H
def TX:=mc aD Tryz.f245 (am [(2000005,9),(2000006,9)]) [] dr
def aht:=jK TX 1 31 [.p,.d]
def ahu:=jK TX 0 15 [.p,.d]
theorem aAC{K:bQ}(H:NN P λa=>Ld h (n.add 2) .string λb=>aO ((16:Int)+(b.size:Int)) λb=>nC (some a) b h (λa b=>K a b) Kp):aht K Kp P n h:=jf H
theorem aAD{K:bQ}(H:NN P λa=>Ld h (a.add 17) Sl.v λb=>Ld h (n.add 2) .string λc=>aH h #[(.string c)] rz λc d=>aU h d (a.add 17) 1 <|Ap d rz #[(.string (bs []))] 1 16 b 1 (rd d (some c) (1*1)) λa b=>NN P λc=>St b (c.add 17) (Sl.v a) λa=>aht K Kp P n a):ahu K Kp P n h:=jf H
theorem aDv{K:bQ}(H:iK h x a V A λa b=>NN P λc=>Ld b a .bool λd=>oO (some c) d b (λb c=>If (b !=0) (K b c) (NN P λb=>Ld c (b.add 16) Sl.v λd=>Ld c (a.add 1) mI λe=>Wr .u64 e λe=>aH c #[(.int .u64 e)] pP λe f=>aU c f (b.add 16) 1 <|Ap f pP #[(.int .u64 0)] 1 8 d 1 (rd f (some e) (1*1)) λb c=>NN P λd=>St c (d.add 16) (Sl.v b) λb=>ahu K Kp P a b)) Kp):NP P x a V A h K Kp:=cF (TX K Kp) dr K Tryz.func245 H
theorem aDu{K:bQ}(H:NN P λa=>bJ h (a.add 11) λa b c d=>NP P a b c d h (λa b=>K a b) Kp):ai1 P h K Kp:=cZ dr K Tryz.func246 H
def TW:=mc aD Tryz.f247 (am [(2003,114722),(2006,3260578)]) [] gS
def Qr:=fK 35 [1,14,15,5,16] [tI,.s,tI,.s,tI]
def Qq:=fK 35 [1,7,14,15,16,20,5,21] [tI,.i .u64,.s,tI,tI,tI,.s,tI]
def af7:=zH TW 2006 14950 Qq
def af8:=lK TW 2003 58 Qr
theorem ay7{K:gz}:jB (A0:=Sl) (A1:=Int) (af7 K Kp N1 a b A c d e) (Qq a b A c d e) λf g i j=>(aS (i<e) (aO ((8:Int)*i) λk=>Nn k<|Lt (Int.fdiv b (2^(min (Int.toNat k) (IntKind.bits .u64)))) λk=>Wr .u8 k λk=>aH j #[(.int .u8 k)] Y8 λj k=>Ap k Y8 #[(.int .u8 0)] 1 1 g 1 (rd k (some j) (1*1)) λg j=>aO (i+1) λi=>f (Qq a b A c d e g i) j) (aO (d+1) λb=>N1 (Qr a A c g b) j)):=jD
theorem ay8{K:gz}:jB (A0:=Sl) (A1:=Int) (af8 K Kp a A b) (Qr a A b) λc d e f=>(aS (e<b) (Ix A.a A.n 1 e λg=>Ld f g (.int .u64) λg=>af7 K Kp c a g A b e a d 0 f) (K d f)):=jD
theorem aDt{K:gz}(H:aO (a*(A.n:Int)) λb=>dO h Y8 #[(.int .u8 0)] 1 1 0 b λb c=>af8 K Kp a A (A.n:Int) b 0 c):Xj A a h K Kp:=cF (TW K Kp) gS K Tryz.func247 H
theorem aDs{K:iZ}(H:Ld h n id λa=>cX aD a [] h (λa b=>a=(.tuple #[])/\(Ld b o .pointer λa=>Ld b o .pointer λc=>Ld b o .pointer λd=>NN d λd=>Ld b (d.add 16) Sl.v λd=>Ld b p mI λe=>jA d 1 none (some e) none λd=>Ld b o .pointer λe=>NN e λe=>Ld b (e.add 17) Sl.v λe=>Ld b p mI λf=>jA e 1 none (some f) none λe=>NN a λa=>St b (a.add 16) (Sl.v d) λa=>aU b a p 1 <|aU b a o 1 <|NN c λb=>St a (b.add 17) (Sl.v e) λa=>K  a)) Kp):ai0 n o p h K Kp:=cZ kJ K Tryz.func248 H
theorem aFu{K:afH}(H:Cp h A a P λa d=>oM d a λe f g=>IV e f g b c d (λd e=>If (!d) (K (bs []) 2 e) (oM e a λa d f=>IU a d f b c e (λa b=>sM b a λa=>K a 0 b) Kp)) Kp):XX A a P b c h K Kp:=cZ aax K Tryz.func252 H
theorem aGl{K:afI}(H:Cp h A a P λa d=>oM d a λa e f=>ER a e f b c d (λa b d=>If (b !=0) (K 0 b d) (aO ((8:Int)*c) λb=>aO ((64:Int)-b) λb=>Nn b<|Wr .u64 (a*2^(min (Int.toNat b) (IntKind.bits .u64))) λa=>aO a λa=>Nn b<|Lt (Int.fdiv a (2^(min (Int.toNat b) (IntKind.bits .i64)))) λa=>K a 0 d)) Kp):Yt A a P b c h K Kp:=cZ aay K Tryz.func253 H
theorem aF6{K:afG}(H:Cp h A a P λa d=>Yc c d (λd e=>If (!d) (K 0 1 e) (oM e a λd f g=>IV d f g b c e (λd e=>If (!d) (K 0 2 e) (oM e a λa d f=>IU a d f b c e (λa b=>Yb a b (λa b=>K a 0 b) Kp) Kp)) Kp)) Kp):ER A a P b c h K Kp:=cZ aaw K Tryz.func254 H
def Ue:=mc aD Tryz.f255 (am [(41006,257),(41010,4097)]) [] dy
def WS:=rK Ue 1 6 [tI,.b]
def WT:=rK Ue 0 6 [tI,.b]
theorem Np{K:bF}(H:If x (K true h) (K (a==8) h)):WS K Kp a x h:=jf H
theorem Nq{K:bF}(H:If x (WS K Kp a true h) (WS K Kp a (a==4) h)):WT K Kp a x h:=jf H
theorem Ox{K:bF}(H:If (a==1) (WT K Kp a true h) (WT K Kp a (a==2) h)):Yc a h K Kp:=cF (Ue K Kp) dy K Tryz.func255 H
def aew:=mc aD Tryz.f256 (am [(2003,456)]) [] C9
def RA:=fK 22 [6,7,3,8] [.s,tI,.i .u64,tI]
def ag7:=lK aew 2003 58 RA
theorem aAe{K:Eu}:jB (A0:=Int) (A1:=Int) (ag7 K Kp A a) (RA A a) λb c d e=>(aS (d<a) (Ix A.a A.n 1 d λf=>Ld e f (.int .u8) λf=>Wr .u64 f λf=>aO ((8:Int)*d) λg=>Nn g<|Wr .u64 (f*2^(min (Int.toNat g) (IntKind.bits .u64))) λf=>Lt (gH .or .u64 c f) λc=>aO (d+1) λd=>b (RA A a c d) e) (K c e)):=jD
theorem aFQ{K:Eu}(H:ag7 K Kp A (A.n:Int) 0 0 h):Yb A h K Kp:=cF (aew K Kp) C9 K Tryz.func256 H
theorem aFs{K:bQ}(H:X1 a h (λc d=>aS (a>=3) (aS (a<=6) (AI P 1 d (λa d e f=>aO (b*c) λb=>Yt a d e b c f (λa _ b=>K a b) Kp) Kp) (AI P 1 d (λa d e f=>aO (b*c) λb=>ER a d e b c f (λa _ b=>aO a λa=>K a b) Kp) Kp)) (AI P 1 d (λa d e f=>aO (b*c) λb=>ER a d e b c f (λa _ b=>aO a λa=>K a b) Kp) Kp)) Kp):XW P a b h K Kp:=cZ dr K Tryz.func263 H
theorem aFr{K:qx}(H:aH h #[] H6 λ_ b=>aH b fU dh λb c=>NN P λd=>hO c (d.add 2) λd e f g i=>aH c oQ kG λc j=>lX j c d e f g i λd=>AI P 1 d (λd e f g=>aH g I6 H8 λg i=>sH i g d e f λd=>IS Q 16 d (λd=>Ld d c mI λe=>If (e==2) (oM d g λc e f=>Dv 8<|aO (Int.tdiv a 8) λg=>OA c e f g d (λc _ d=>Dv 8<|Lt (Int.tmod a 8) λa=>Nn a<|Lt (Int.fdiv c (2^(min (Int.toNat a) (IntKind.bits .u8)))) λa=>Lt (gH .and .u8 a 1) λa=>aO a λa=>dH d b false a (bs []) bT λa=>bJ a b λb c d e=>K b c d e a) Kp) (If (e==14) (Ld d (c.add 1) mI λe=>IS Q e d (λd=>oM d g λe f g=>Ld d (c.add 1) mI λi=>aO (a*i) λa=>Ld d (c.add 1) mI λc=>XX e f g a c d (λa _ c=>dH c b false 0 a bT λa=>bJ a b λb c d e=>K b c d e a) Kp) Kp) (Ld d c mI λc=>XW P c a d (λa c=>dH c b false a (bs []) bT λa=>bJ a b λb c d e=>K b c d e a) Kp))) Kp) Kp):XV P a Q h K Kp:=cZ uw K Tryz.func266 H
end
section
variable {h h0 H:Hp} {el:TypeId} {t0 t1 t2 t3 t4 t5 t10 t12:Int} {K:HP} {a:Addr} {t6 t7 t8 t14 s:Sl} {t9 t11 t15 B:Bool} {t13:BA} {vs:bg} {Kp:PK} {d r:Nat}
theorem hO.b{b:Nat}{t4:Sl}{K:Int->Int->Int->Int->Sl->Prop}(k:aN h b #[(ah t0),(ah t1),(ah t2),(ah t3),(Sl.v t4)] el)(hk:K t0 t1 t2 t3 t4):hO h (aJ b) K:=by
 unfold hO;simp only[bw,cz];exact aj k rfl (aj k rfl (aj k rfl (aj k rfl (aj k rfl (hk)))))
abbrev yE:=@hO.b
theorem hO.c{t4:Sl}{K:Int->Int->Int->Int->Sl->Prop}(c:Cs h a [(ah t0),(ah t1),(ah t2),(ah t3),(Sl.v t4)])(hk:K t0 t1 t2 t3 t4):hO h a K:=
 ⟨_,(Er a▸c 0 _ rfl:cell h a=_),_,c 1 _ rfl,_,c 2 _ rfl,_,c 3 _ rfl,_,c 4 _ rfl,hk⟩
abbrev nk:=@hO.c
theorem lX.l{t4:Sl}(H:ji h a 0 [(ah t0),(ah t1),(ah t2),(ah t3),(Sl.v t4)] K):lX h a t0 t1 t2 t3 t4 K:=Aq H
theorem lX.b{b:Nat}{cs:Array Value}{t4:Sl}(k:aN h b cs el)(hs:cs.size=5)(hk:∀h',eD b h h'->aN h' b #[(ah t0),(ah t1),(ah t2),(ah t3),(Sl.v t4)] el->K h'):lX h (aJ b) t0 t1 t2 t3 t4 K:=
 lX.l (Ao k hs (by simp[one,Sl.v]) hk)
abbrev pE:=@lX.b
theorem bN.b{b:Nat}{t0:BA}{t1:Bool}{K:BA->Bool->Int->Int->Int->Int->Sl->Prop}(k:aN h b #[(.string t0),(.bool t1),(ah t2),(ah t3),(ah t4),(ah t5),(Sl.v t6)] el)(hk:K t0 t1 t2 t3 t4 t5 t6):bN h (aJ b) K:=by
 unfold bN;simp only[bw,cz];exact aj k rfl (aj k rfl (aj k rfl (aj k rfl (aj k rfl (aj k rfl (aj k rfl (hk)))))))
abbrev dZ:=@bN.b
theorem bN.c{t0:BA}{t1:Bool}{K:BA->Bool->Int->Int->Int->Int->Sl->Prop}(c:Cs h a [(.string t0),(.bool t1),(ah t2),(ah t3),(ah t4),(ah t5),(Sl.v t6)])(hk:K t0 t1 t2 t3 t4 t5 t6):bN h a K:=
 ⟨_,(Er a▸c 0 _ rfl:cell h a=_),_,c 1 _ rfl,_,c 2 _ rfl,_,c 3 _ rfl,_,c 4 _ rfl,_,c 5 _ rfl,_,c 6 _ rfl,hk⟩
abbrev gK:=@bN.c
theorem jO.l{t0:BA}{t1:Bool}(H:ji h a 0 [(.string t0),(.bool t1),(ah t2),(ah t3),(ah t4),(ah t5),(Sl.v t6)] K):jO h a t0 t1 t2 t3 t4 t5 t6 K:=Aq H
theorem jO.b{b:Nat}{cs:Array Value}{t0:BA}{t1:Bool}(k:aN h b cs el)(hs:cs.size=7)(hk:∀h',eD b h h'->aN h' b #[(.string t0),(.bool t1),(ah t2),(ah t3),(ah t4),(ah t5),(Sl.v t6)] el->K h'):jO h (aJ b) t0 t1 t2 t3 t4 t5 t6 K:=
 jO.l (Ao k hs (by simp[one,Sl.v]) hk)
abbrev oD:=@jO.b
theorem cr.b{b:Nat}{t3 t4 t5:Sl}{K:Int->Int->Int->Sl->Sl->Sl->Prop}(k:aN h b #[(ah t0),(ah t1),(ah t2),(Sl.v t3),(Sl.v t4),(Sl.v t5)] el)(hk:K t0 t1 t2 t3 t4 t5):cr h (aJ b) K:=by
 unfold cr;simp only[bw,cz];exact aj k rfl (aj k rfl (aj k rfl (aj k rfl (aj k rfl (aj k rfl (hk))))))
abbrev gl:=@cr.b
theorem cr.c{t3 t4 t5:Sl}{K:Int->Int->Int->Sl->Sl->Sl->Prop}(c:Cs h a [(ah t0),(ah t1),(ah t2),(Sl.v t3),(Sl.v t4),(Sl.v t5)])(hk:K t0 t1 t2 t3 t4 t5):cr h a K:=
 ⟨_,(Er a▸c 0 _ rfl:cell h a=_),_,c 1 _ rfl,_,c 2 _ rfl,_,c 3 _ rfl,_,c 4 _ rfl,_,c 5 _ rfl,hk⟩
theorem cV.l{t3 t4 t5:Sl}(H:ji h a 0 [(ah t0),(ah t1),(ah t2),(Sl.v t3),(Sl.v t4),(Sl.v t5)] K):cV h a t0 t1 t2 t3 t4 t5 K:=Aq H
theorem cV.b{b:Nat}{cs:Array Value}{t3 t4 t5:Sl}(k:aN h b cs el)(hs:cs.size=6)(hk:∀h',eD b h h'->aN h' b #[(ah t0),(ah t1),(ah t2),(Sl.v t3),(Sl.v t4),(Sl.v t5)] el->K h'):cV h (aJ b) t0 t1 t2 t3 t4 t5 K:=
 cV.l (Ao k hs (by simp[one,Sl.v]) hk)
abbrev jI:=@cV.b
theorem eG.b{b:Nat}{t1:Sl}{K:Int->Sl->Int->Prop}(k:aN h b #[(ah t0),(Sl.v t1),(ah t2)] el)(hk:K t0 t1 t2):eG h (aJ b) K:=by
 unfold eG;simp only[bw,cz];exact aj k rfl (aj k rfl (aj k rfl (hk)))
abbrev nY:=@eG.b
theorem dW.l{t1:Sl}(H:ji h a 0 [(ah t0),(Sl.v t1),(ah t2)] K):dW h a t0 t1 t2 K:=Aq H
theorem dW.b{b:Nat}{cs:Array Value}{t1:Sl}(k:aN h b cs el)(hs:cs.size=3)(hk:∀h',eD b h h'->aN h' b #[(ah t0),(Sl.v t1),(ah t2)] el->K h'):dW h (aJ b) t0 t1 t2 K:=
 dW.l (Ao k hs (by simp[one,Sl.v]) hk)
abbrev mw:=@dW.b
theorem bJ.b{b:Nat}{t0:Bool}{t2:BA}{t3:Sl}{K:Bool->Int->BA->Sl->Prop}(k:aN h b #[(.bool t0),(ah t1),(.string t2),(Sl.v t3)] el)(hk:K t0 t1 t2 t3):bJ h (aJ b) K:=by
 unfold bJ;simp only[bw,cz];exact aj k rfl (aj k rfl (aj k rfl (aj k rfl (hk))))
abbrev eY:=@bJ.b
theorem bJ.c{t0:Bool}{t2:BA}{t3:Sl}{K:Bool->Int->BA->Sl->Prop}(c:Cs h a [(.bool t0),(ah t1),(.string t2),(Sl.v t3)])(hk:K t0 t1 t2 t3):bJ h a K:=
 ⟨_,(Er a▸c 0 _ rfl:cell h a=_),_,c 1 _ rfl,_,c 2 _ rfl,_,c 3 _ rfl,hk⟩
abbrev gZ:=@bJ.c
theorem dH.l{t0:Bool}{t2:BA}{t3:Sl}(H:ji h a 0 [(.bool t0),(ah t1),(.string t2),(Sl.v t3)] K):dH h a t0 t1 t2 t3 K:=Aq H
abbrev yD:=@dH.l
theorem dH.b{b:Nat}{cs:Array Value}{t0:Bool}{t2:BA}{t3:Sl}(k:aN h b cs el)(hs:cs.size=4)(hk:∀h',eD b h h'->aN h' b #[(.bool t0),(ah t1),(.string t2),(Sl.v t3)] el->K h'):dH h (aJ b) t0 t1 t2 t3 K:=
 yD (Ao k hs (by simp[one,Sl.v]) hk)
abbrev lT:=@dH.b
theorem oM.b{b:Nat}{t0:Sl}{t2:PA}{K:Sl->Int->PA->Prop}(k:aN h b #[(Sl.v t0),(ah t1),(.pointer t2)] el)(hk:K t0 t1 t2):oM h (aJ b) K:=by
 unfold oM;simp only[bw,cz];exact aj k rfl (aj k rfl (aj k rfl (hk)))
abbrev sC:=@oM.b
theorem sH.l{t0:Sl}{t2:PA}(H:ji h a 0 [(Sl.v t0),(ah t1),(.pointer t2)] K):sH h a t0 t1 t2 K:=Aq H
theorem sH.b{b:Nat}{cs:Array Value}{t0:Sl}{t2:PA}(k:aN h b cs el)(hs:cs.size=3)(hk:∀h',eD b h h'->aN h' b #[(Sl.v t0),(ah t1),(.pointer t2)] el->K h'):sH h (aJ b) t0 t1 t2 K:=
 sH.l (Ao k hs (by simp[one,Sl.v]) hk)
theorem EC.c{t0:Sl}{t1:BA}{t2:Bool}{t6:Int}{K:Sl->BA->Bool->Int->Int->Int->Int->Sl->Sl->Bool->Prop}(c:Cs h a [(Sl.v t0),(.string t1),(.bool t2),(ah t3),(ah t4),(ah t5),(ah t6),(Sl.v t7),(Sl.v t8),(.bool t9)])(hk:K t0 t1 t2 t3 t4 t5 t6 t7 t8 t9):EC h a K:=
 ⟨_,(Er a▸c 0 _ rfl:cell h a=_),_,c 1 _ rfl,_,c 2 _ rfl,_,c 3 _ rfl,_,c 4 _ rfl,_,c 5 _ rfl,_,c 6 _ rfl,_,c 7 _ rfl,_,c 8 _ rfl,_,c 9 _ rfl,hk⟩
theorem yO.l{t0:Sl}{t1:BA}{t2:Bool}{t6:Int}(H:ji h a 0 [(Sl.v t0),(.string t1),(.bool t2),(ah t3),(ah t4),(ah t5),(ah t6),(Sl.v t7),(Sl.v t8),(.bool t9)] K):yO h a t0 t1 t2 t3 t4 t5 t6 t7 t8 t9 K:=Aq H
theorem yO.b{b:Nat}{cs:Array Value}{t0:Sl}{t1:BA}{t2:Bool}{t6:Int}(k:aN h b cs el)(hs:cs.size=10)(hk:∀h',eD b h h'->aN h' b #[(Sl.v t0),(.string t1),(.bool t2),(ah t3),(ah t4),(ah t5),(ah t6),(Sl.v t7),(Sl.v t8),(.bool t9)] el->K h'):yO h (aJ b) t0 t1 t2 t3 t4 t5 t6 t7 t8 t9 K:=
 yO.l (Ao k hs (by simp[one,Sl.v]) hk)
theorem oc.b{b:Nat}{t0:BA}{t1:Bool}{t7 t8:Int}{t9:Sl}{K:BA->Bool->Int->Int->Int->Int->Sl->Int->Int->Sl->Int->Bool->Int->BA->Sl->Bool->Prop}(k:aN h b #[(.string t0),(.bool t1),(ah t2),(ah t3),(ah t4),(ah t5),(Sl.v t6),(ah t7),(ah t8),(Sl.v t9),(ah t10),(.bool t11),(ah t12),(.string t13),(Sl.v t14),(.bool t15)] el)(hk:K t0 t1 t2 t3 t4 t5 t6 t7 t8 t9 t10 t11 t12 t13 t14 t15):oc h (aJ b) K:=by
 unfold oc;simp only[bw,cz];exact aj k rfl (aj k rfl (aj k rfl (aj k rfl (aj k rfl (aj k rfl (aj k rfl (aj k rfl (aj k rfl (aj k rfl (aj k rfl (aj k rfl (aj k rfl (aj k rfl (aj k rfl (aj k rfl (hk))))))))))))))))
abbrev uV:=@oc.b
theorem rC.l{t0:BA}{t1:Bool}{t7 t8:Int}{t9:Sl}(H:ji h a 0 [(.string t0),(.bool t1),(ah t2),(ah t3),(ah t4),(ah t5),(Sl.v t6),(ah t7),(ah t8),(Sl.v t9),(ah t10),(.bool t11),(ah t12),(.string t13),(Sl.v t14),(.bool t15)] K):rC h a t0 t1 t2 t3 t4 t5 t6 t7 t8 t9 t10 t11 t12 t13 t14 t15 K:=Aq H
theorem rC.b{b:Nat}{cs:Array Value}{t0:BA}{t1:Bool}{t7 t8:Int}{t9:Sl}(k:aN h b cs el)(hs:cs.size=16)(hk:∀h',eD b h h'->aN h' b #[(.string t0),(.bool t1),(ah t2),(ah t3),(ah t4),(ah t5),(Sl.v t6),(ah t7),(ah t8),(Sl.v t9),(ah t10),(.bool t11),(ah t12),(.string t13),(Sl.v t14),(.bool t15)] el->K h'):rC h (aJ b) t0 t1 t2 t3 t4 t5 t6 t7 t8 t9 t10 t11 t12 t13 t14 t15 K:=
 rC.l (Ao k hs (by simp[one,Sl.v]) hk)
theorem Ch{k:IntKind}{x:Int}{K:Int->Prop}(h:K (k.wrap x)):Wr k x K:=h
theorem yS{α:Type}{x:α}{K:α->Prop}(h:K x):Lt x K:=h
def bv(l:dB):List Value:=l.map λb=>.int .u8 b.toNat
theorem uT(a b:dB):bv (a++b)=bv a++bv b:=by simp[bv]
theorem fM(a:dB):(bv a).length=a.length:=by simp[bv]
theorem axt{a:dB}:∀v∈bv a,one v=true:=by intro v hv;simp only[bv,lU]at hv;obtain⟨x,_,rfl⟩:=hv;rfl
inductive aq
 |mk (name:ff) (au:Bool) (kind width id ix:Int) (cs:List aq)
abbrev cC:=List aq
variable {fs:cC} {f:aq}
def oq(n:ff)(au:Bool)(k w id ix:Int)(s:Sl):List Value:=[.string n,.bool au,ah k,ah w,ah id,ah ix,Sl.v s]
mutual
def cH(h:Hp)(s:Sl):List aq->Prop
 |[]=>s.n=0/\s.n<=s.c
 |f::fs=>s.n=fs.length+1/\s.n<=s.c/\∃a,s.a=some a/\jR h a f/\iu h a 1 fs
def iu(h:Hp)(a:Addr)(i:Nat):List aq->Prop
 |[]=>True
 |f::fs=>jR h (a.add (i*7)) f/\iu h a (i+1) fs
def jR(h:Hp)(a:Addr):aq->Prop
 |.mk n au k w id ix cs=>∃s,Cs h a (oq n au k w id ix s)/\cH h s cs
end
theorem iu.get:∀{fs:cC}{i:Nat},iu h a i fs->∀(j:Nat)f,fs[j]? =some f->jR h (a.add ((i+j)*7)) f
  |[],_,_,_,_,hj=>by simp at hj
  |f::fs,i,hh,0,g,hj=>by simp at hj;subst hj;unfold iu at hh;exact hh.1
  | f::fs,i,hh,j+1,g,hj=>by
    unfold iu at hh;have:=iu.get hh.2 j g (by simpa using hj)
    have e:i+(j+1)=i+1+j:=ag;rw[e];exact this
theorem cH.get(hh:cH h s fs){j:Nat}{f:aq}(hj:fs[j]? =some f):∃a,s.a=some a/\jR h (a.add (j*7)) f:=by
  cases fs with
  |nil=>simp at hj
  | cons g gs=>
    unfold cH at hh;have⟨_,_,a,ha,h1,h2⟩:=hh;refine⟨a,ha,?_⟩;cases j with
    | zero=>
      simp at hj;subst hj;have e:a.add (0*7)=a:=by simp[Addr.add]
      rw[e];exact h1
    | succ j=>
      have:=h2.get j f (by simpa using hj)
      have e:1+j=j+1:=ag;rw[e]at this;exact this
theorem cH.n(hh:cH h s fs):s.n=fs.length/\s.n<=s.c:=by
 cases fs with
 |nil=>unfold cH at hh;exact hh
 |cons g gs=>unfold cH at hh;exact⟨hh.1,hh.2.1⟩
def tY(h:Hp)(s:Sl)(sz:Nat)(rows:List (List Value)):Prop:=s.n=rows.length/\s.n<=s.c/\∀(j:Nat)r,rows[j]? =some r->∃a,s.a=some a/\Cs h (a.add (j*sz)) r
abbrev Md:=ByteArray×ByteArray
def xG(m:Md):List Value:=[.string m.1,.string m.2]
theorem add_zero'(a:Addr):a.add 0=a:=by unfold Addr.add;split <;> simp_all
mutual
theorem cH.ai{h h':Hp}(g:az h h'):∀{s:Sl}(fs:cC),cH h s fs->cH h' s fs
  |_,[],hh=>by unfold cH at hh ⊢;exact hh
  | _,f::fs,hh=>by
    unfold cH at hh⊢
    have⟨a,b,p,e,x,y⟩:=hh
    exact⟨a,b,p,e,jR.ai g f x,iu.ai g fs y⟩
theorem iu.ai{h h':Hp}(g:az h h'):∀{a:Addr}{i:Nat}(fs:cC),iu h a i fs->iu h' a i fs
  |_,_,[],hh=>by unfold iu at hh ⊢;exact hh
  | _,_,f::fs,hh=>by
    unfold iu at hh⊢
    exact⟨jR.ai g f hh.1,iu.ai g fs hh.2⟩
theorem jR.ai{h h':Hp}(g:az h h'):∀{a:Addr}(f:aq),jR h a f->jR h' a f
  | _,.mk n au k w id ix cs,hh=>by
    unfold jR at hh⊢
    have⟨s,c,x⟩:=hh
    exact⟨s,c.ai g,cH.ai g cs x⟩
end
theorem tY.ai{h':Hp}{sz:Nat}{rows:List (List Value)}(hh:tY h s sz rows)(g:az h h'):tY h' s sz rows:=
 ⟨hh.1,hh.2.1,λj r hj=>by have⟨a,e,c⟩:=hh.2.2 j r hj;exact⟨a,e,c.ai g⟩⟩
theorem ob{K:Addr->Prop}:NN (some a) K=K a:=rfl
theorem bK{p q:Prop}(k:q)(e:q->p:=by intro h;simp only[ob,bw,cz];exact h):p:=e k
theorem tY.ix{α:Type}{row:α->List Value}{sz:Nat}{l:List α}(hs:tY h0 s sz (l.map row)){x:Int}{i:Nat}(hx:x=(i:Int)){r:α}(hj:l[i]? =some r){K:Addr->Prop}(hk:∀a,Cs h0 a (row r)->K a):Ix s.a s.n sz x K:=by
 have⟨a,ha,hc⟩:=hs.2.2 i (row r) (by rw[fh,hj];rfl)
 have hi:i<l.length:=(cU.1 hj).1;have hn:s.n=l.length:=by simpa using hs.1
 subst hx;rw[ha];exact⟨by omega,by omega,by rw[fR];exact hk _ hc⟩
theorem Cs.c0{v:Value}(c:Cs h a (v::vs)):cell h a=some v:=by
 have:=c 0 _ rfl;rwa [add_zero']at this
def yT(c:Int):Prop:=(97<=c/\c<=122)\/(65<=c/\c<=90)\/c=95
def sL(c:Int):Prop:=48<=c/\c<=57
def EU(j:Nat)(c:Int):Prop:=yT c\/(sL c/\j≠0)
def EA(s:ff):Prop:=1<=s.size/\s.size<=48/\∀(j:Nat)(b:UInt8),s[j]? =some b->EU j (b.toNat:Int)
theorem arl{c:Int}{K:fJ}(hk:∀b,(b=true↔(yT c\/sL c))->K b h):XZ c h K Kp:=by
 apply aFy;unfold yT sL at hk
 repeat' (first|((with_reducible refine aCg ?_);(try simp only[Nat.reduceAdd]))|((with_reducible refine aCf ?_);(try simp only[Nat.reduceAdd]))|((with_reducible refine aCe ?_);(try simp only[Nat.reduceAdd]))|((with_reducible refine bO (by first|rfl|(simp only[reduceCtorEq];omega)) ?_))|((with_reducible refine bu (by first|rfl|(simp only[reduceCtorEq];omega)) ?_))|(((with_reducible refine aE (λc=>?_) (λc=>?_)) <;> (try simp only[reduceCtorEq]at c))))
 all_goals apply hk _
 all_goals simp only[dQ,wP,nv,true_iff]at*
 all_goals omega
theorem abR{k:Int}{K:fJ}(hk:∀b,(b=true↔(1<=k/\k<=20))->K b h):Ov k h K Kp:=by
 apply aFx
 repeat' (first|((with_reducible refine bO (by first|rfl|(simp only[reduceCtorEq];omega)) ?_))|((with_reducible refine bu (by first|rfl|(simp only[reduceCtorEq];omega)) ?_))|(((with_reducible refine aE (λc=>?_) (λc=>?_)) <;> (try simp only[reduceCtorEq]at c))))
 all_goals apply hk _
 all_goals simp only[dQ,wP,reduceCtorEq,false_iff]at*
 all_goals omega
theorem BT{a b:ff}:(a.toList==b.toList)=true↔a=b:=by
 rw[nv,ByteArray.toList_eq,ByteArray.toList_eq];exact⟨bytes_inj,λe=>by rw[e]⟩
theorem aqA{s:ff}{K:fJ}(hs:s.size<=9223372036854775807)(hk:∀b,(b=true↔EA s)->K b h):X7 s h K Kp:=by
 apply aFJ;have hF:¬EA s->K false h:=λn=>hk false ⟨by simp,λx=>(n x).elim⟩
 apply aAb (λx h'=>h'=h/\∃i:Nat,x=i/\i<=s.size/\∀j b,j<i->s[j]? =some b->EU j (b.toNat:Int)) (λx _=>s.size-x.toNat) ⟨rfl,0,rfl,by omega,λj b hj=>by omega⟩
 rintro x h1 ⟨rfl,i,rfl,hi,xS⟩ N1 hN;refine aE (λc2=>?_) λc2=>?_
 ·simp only[dQ]at c2;have kK:i<s.size:=ag;have hb:=getElem?_pos s i kK;generalize s[i]=b at hb;refine⟨b,by omega,by rw[fR];exact hb,?_⟩
  have Qh:¬EU i _->K false h1:=λn=>hF λq=>n (q.2.2 i b hb);have step:EU i _->aO ((i:Int)+1) λt20=>N1 _ h1:=λok=>by
   refine aW ag ag (hN _ _ ⟨rfl,i+1,by simp,by omega,λj b' hj xR=>?_⟩ ag)
   by_cases e:j=i
   ·subst e;rw[hb]at xR;cases xR;exact ok
   ·exact xS j b' ag xR
  refine arl λr hr=>?_;unfold EU yT sL at Qh step;unfold yT sL at hr;generalize(b.toNat:Int)=t at Qh step hr;cases r <;> repeat' (first|((with_reducible refine bO (by first|rfl|(simp only[reduceCtorEq];omega)) ?_))|((with_reducible refine bu (by first|rfl|(simp only[reduceCtorEq];omega)) ?_))|(((with_reducible refine aE (λc=>?_) (λc=>?_)) <;> (try simp only[sm,reduceCtorEq]at c))))
  all_goals first|refine step ?_|refine Qh ?_
  all_goals simp only[wP,reduceCtorEq,true_iff,false_iff]at*
  all_goals omega
 ·simp only[wP]at c2;refine aE (λc3=>hk _ ?_) (λc3=>hF λq=>?_)
  ·rw[tS,U1,ne_eq,BT]at c3;rw[dQ];constructor
   ·intro h48;refine⟨?_,by omega,λj b hb=>?_⟩
    ·rcases U4 s.size with h0|h0
     ·exact(c3 (bytes_inj (wN (show s.data.toList.length=0 from h0)))).elim
     ·exact h0
    ·have:j<s.size:=by
      rcases Nat.lt_or_ge j s.size with h|h
      ·exact h
      ·rw[getElem?_neg s j ag]at hb;cases hb
     exact xS j b ag hb
   ·intro q;have:=q.2.1;omega
  ·rw[U0,BT]at c3;subst c3;exact absurd q.1 aY
def Shaped(k w id ix:Int)(n:Nat):Prop:=
 1<=k/\k<=20/\(k=14->1<=w/\w<=16)/\(k=16->1<=w/\w<=64)/\(k≠14/\k≠16->w=0)/\(k=19->0<=id/\id<=31/\3<=ix/\ix<=10)/\(k≠19->id=0/\ix=0)/\
  (k=15\/k=16\/k=19\/k=20->n=1)/\(k=17->n<=32)/\(k=18->1<=n/\n<=32)/\(k≠15/\k≠16/\k≠19/\k≠20/\k≠17/\k≠18->n=0)
def lZ(h:Hp):Prop:=∀i:Nat,i<21->cell h ⟨0,i*4+3,none⟩=some (.bool (decide (3<=i/\i<=10)))
theorem lZ.ai(t:lZ h)(g:az h H):lZ H:=λi a=>g.cell (t i a)
theorem auj{k w id ix:Int}{K:fJ} (ht:lZ h) (hk:∀b h',az h h'->(b=true↔Shaped k w id ix s.n)->K b h'):X6 k w id ix s h K Kp:=by
  refine aFG (aG λb1 h1 e1 g1 k1 _ => ?_);have hk:=λb=>hk b h1 g1;have ht:=ht.ai g1;have Jl:∀(K:Bool->Prop),1<=ix->ix<=20->K (decide (3<=ix/\ix<=10))->Ix (some ((aJ 0))) 21 4 ix λa67=>Ld h1 (a67.add 3) (Value.bool) λt69=>K t69:=by
    intro K h1 h2 hK;refine ⟨by omega,by omega,decide _,?_,hK⟩
    rw[bw,bw,cz,ht ix.toNat ag]
    congr 2
    rw[decide_eq_decide];omega
  clear ht e1;unfold Shaped at hk;refine aj k1 rfl (abR λb hb => ?_);cases b
  · refine bO rfl (hk _ ?_);simp only[sm,reduceCtorEq] at *;omega
  refine bu rfl (aj k1 rfl ?_);rcases (by omega:k=14\/k=15\/k=16\/k=17\/k=18\/k=19\/k=20\/(k≠14/\k≠15/\k≠16/\k≠17/\k≠18/\k≠19/\k≠20)) with e | e | e | e | e | e | e | e
  case inr.inr.inr.inr.inr.inl =>
    repeat' first | (with_reducible first | refine aiz ?_ | refine aiy ?_ | refine aix ?_ | refine aiw ?_ | refine uf ?_ | refine ug ?_ | refine cL (λc => ?_) λc => ?_) | refine aj k1 rfl ?_
    all_goals simp only[reduceCtorEq] at *
    all_goals first
      | (refine abR λb Bu => ?_
         cases b
         · have Bu:=aM Bu
           repeat' first | (with_reducible first | refine Nj ?_ | refine Iv ?_ | refine Iu ?_ | refine It ?_ | refine uf ?_ | refine ug ?_ | refine cL (λc => ?_) λc => ?_) | refine aj k1 rfl ?_
           all_goals apply hk _
           all_goals simp only[sm,reduceCtorEq] at *
           all_goals omega
         · have Bu:=aM Bu;apply Nj;simp only[bw,Nat.reduceAdd];refine bO rfl (aj k1 rfl (Jl _ ag ag ?_))
           by_cases hx:3<=ix/\ix<=10
           · rw[L6 hx]
             repeat' first | (with_reducible first | refine Iv ?_ | refine Iu ?_ | refine It ?_ | refine uf ?_ | refine ug ?_ | refine cL (λc => ?_) λc => ?_) | refine aj k1 rfl ?_
             all_goals apply hk _
             all_goals simp only[sm,reduceCtorEq] at *
             all_goals omega
           · rw[decide_eq_false hx]
             repeat' first | (with_reducible first | refine Iv ?_ | refine Iu ?_ | refine It ?_ | refine uf ?_ | refine ug ?_ | refine cL (λc => ?_) λc => ?_) | refine aj k1 rfl ?_
             all_goals apply hk _
             all_goals simp only[sm,reduceCtorEq] at *
             all_goals omega)
      | (repeat' first | (with_reducible first | refine Nj ?_ | refine Iv ?_ | refine Iu ?_ | refine It ?_ | refine uf ?_ | refine ug ?_ | refine cL (λc => ?_) λc => ?_) | refine aj k1 rfl ?_
         all_goals apply hk _
         all_goals simp only[sm,reduceCtorEq] at *
         all_goals omega)
  all_goals repeat' first | (with_reducible first | refine aiz ?_ | refine aiy ?_ | refine aix ?_ | refine Iv ?_ | refine Iu ?_ | refine It ?_ | refine aiw ?_ | refine Nj ?_ | refine uf ?_ | refine ug ?_ | refine cL (λc => ?_) λc => ?_) | refine aj k1 rfl ?_
  all_goals apply hk _
  all_goals simp only[sm,reduceCtorEq] at *
  all_goals omega
def aq.name:aq->ByteArray|.mk n _ _ _ _ _ _=>n
def aq.au:aq->Bool|.mk _ b _ _ _ _ _=>b
def aq.k:aq->Int|.mk _ _ k _ _ _ _=>k
def aq.w:aq->Int|.mk _ _ _ w _ _ _=>w
def aq.id:aq->Int|.mk _ _ _ _ i _ _=>i
def aq.ix:aq->Int|.mk _ _ _ _ _ i _=>i
def aq.cs:aq->List aq|.mk _ _ _ _ _ _ cs=>cs
theorem jR.cells(c:jR h a f):∃s,cH h s f.cs/\cell h a=some (.string f.name)/\cell h (a.add 1)=some (.bool f.au)/\cell h (a.add 2)=some (ah f.k)/\
  cell h (a.add 3)=some (ah f.w)/\cell h (a.add 4)=some (ah f.id)/\cell h (a.add 5)=some (ah f.ix)/\cell h (a.add 6)=some (Sl.v s):=by
 have⟨n,au,k,e,id,ix,ds⟩:=f;unfold jR at c;have⟨u,b,d⟩:=c;have c0:=b 0 _ rfl;rw[add_zero']at c0;exact⟨u,d,c0,b 1 _ rfl,b 2 _ rfl,b 3 _ rfl,b 4 _ rfl,b 5 _ rfl,b 6 _ rfl⟩
theorem cH.ix{cs:cC}(hs:cH h0 s cs){x:Int}{i:Nat}(hx:x=(i:Int)){f:aq}(hj:cs[i]? =some f){K:Addr->Prop}(hk:∀a,jR h0 a f->K a):Ix s.a s.n 7 x K:=by
 have⟨a,ha,hf⟩:=hs.get hj;have hn:=hs.n;have hi:i<cs.length:=(cU.1 hj).1;subst hx;rw[ha];exact⟨by omega,by omega,by rw[fR];exact hk _ hf⟩
def At(k:Int)(au:Bool)(cs:cC):Prop:=(k=1->au=true)/\(k=18->au=false)/\(k=20->∃c,cs[0]? =some c/\au=c.au)
theorem aql{n:ff}{au:Bool}{k w id ix:Int}{cs:cC}{K:fJ}(g:az h0 h)(hs:cH h0 s cs)(h1:k=20->cs.length=1)(hk:∀b h',az h h'->(b=true↔At k au cs)->K b h'):X5 n au k w id ix s h K Kp:=by
 refine aFF (aG λb1 h2 e1 g1 k1 _=>?_);have hk:=λb=>hk b h2 g1;unfold At at hk;simp only[bw,Nat.reduceAdd];refine aj k1 rfl (aE (λc=>?_) (λc=>?_))
 ·have c:=aM c;subst c;refine aj k1 rfl (hk _ ?_);simp
 refine aE (λc2=>?_) (λc2=>?_)
 ·have c2:=aM c2;subst c2;refine aj k1 rfl (hk _ ?_);simp
 refine aE (λc3=>?_) (λc3=>?_)
 ·have c3:=aM c3;subst c3;have hj:cs[0]? =some cs[0]:=bx ag;refine aj k1 rfl (aj k1 rfl ?_);generalize cs[0]=f at hj;refine hs.ix rfl hj λa ha=>?_;have⟨u,_,_,c1,_⟩:=ha.cells;refine⟨_,(ak g g1).cell c1,hk _ ?_⟩;simp[hj]
 ·simp only[sm,reduceCtorEq]at c c2 c3;apply hk _;simp[c,c2,c3]
def Vz(cs:cC):Prop:=∀(i j:Nat)a b,j<i->cs[i]? =some a->cs[j]? =some b->a.name≠b.name
theorem ayc{cs:cC}{a3:Addr}{n:ff}{K:fJ}(g:az h0 h)(hs:cH h0 s cs)(hl:cs.length<=9223372036854775807)(hn:cell h (a3.add 2)=some (.string n))
  (hk:∀b h',az h h'->(b=true↔∃c∈cs,c.name=n)->K b h'):XS s (.func (.func 46) #[] #[(dw a3)]) h K Kp:=by
 refine aFn (aFm ?_);have hsn:=hs.n;have fu:jV aD 46=true:=by kernel_rfl
 apply az9 (λx h'=>az h h'/\∃i:Nat,x=i/\i<=cs.length/\∀(j:Nat)a,j<i->cs[j]? =some a->a.name≠n) (λx _=>cs.length-x.toNat) ⟨cK _,0,rfl,by omega,λj a hi=>by omega⟩
 rintro x h1 ⟨g1,i,rfl,hi,xS⟩ N1 hN;refine aE (λc=>?_) (λc=>?_)
 ·have c:=aM c;have kK:i<cs.length:=ag;have ei:=bx kK;generalize cs[i]=f at ei;refine hs.ix rfl ei λpa ha=>?_;have⟨u,_,c0,c1,c2,c3,c4,c5,c6⟩:=ha.cells;have G:=ak g g1;refine⟨_,G.cell c0,_,G.cell c1,_,G.cell c2,_,G.cell c3,_,G.cell c4,_,G.cell c5,_,G.cell c6,?_⟩;unfold cX;simp only[En];refine xq1 (aFH (aG λb1 h2 e1 g2 k1 _=>aj k1 rfl ⟨_,g2.cell (g1.cell hn),(aE (λc3=>?_) (λc3=>?_))⟩))
  ·rw[BT]at c3;refine hk _ _ (ak g1 g2) ⟨λ_=>⟨f,bL ei,c3⟩,λ_=>by rw[dQ];omega⟩
  ·rw[U1,ne_eq,BT]at c3;refine aW ag ag (hN _ _ ⟨ak g1 g2,i+1,by simp,by omega,λj' a' eW ea=>?_⟩ ag)
   by_cases e:j'=i
   ·subst e;rw[ei]at ea;cases ea;exact c3
   ·exact xS j' a' ag ea
 ·have c:=aM c;refine hk _ _ g1 ⟨λq=>?_,λ⟨f,hf,e⟩=>?_⟩
  ·rw[dQ]at q;omega
  ·have⟨j,hj⟩:=ri.1 hf;exact(xS j f (by have:=(cU.1 hj).1;omega) hj e).elim
structure Pl where
 deep:Nat
 ahead:List aq
 f:aq
 ins:Bool
mutual
def aq.places(d:Nat)(ahead:cC)(ins:Bool):aq->List Pl
 |.mk n au k w id ix cs=>⟨d,ahead,.mk n au k w id ix cs,ins⟩::(if d<65 then dY (d+1) [] (ins||k==19) cs else[])
def dY(d:Nat)(ahead:cC)(ins:Bool):List aq->List Pl
 |[]=>[]
 |f::fs=>f.places d ahead ins++dY d (ahead++[f]) ins fs
end
def lO(d:Nat)(ins:Bool):List aq->List Pl
 |[]=>[]
 |f::fs=>f.places d [] ins++lO d ins fs
def xF(ids:List Int)(f:aq):List Int:=if f.k=19 then ids++[f.id]else ids
def Ar(n:Nat)(ids:List Int)(x:Pl):Prop:=x.deep<=64/\n<256/\EA x.f.name/\(∀g∈x.ahead,g.name≠x.f.name)/\Shaped x.f.k x.f.w x.f.id x.f.ix x.f.cs.length/\At x.f.k x.f.au x.f.cs/\
 ¬(x.ins=true/\(x.f.k=19\/x.f.k=20))/\(x.f.k=19->(∃c,x.f.cs[0]? =some c/\c.au=false)/\x.f.id∉ids)
def gN(n:Nat)(ids:List Int):List Pl->Prop
 |[]=>True
 |x::xs=>Ar n ids x/\gN (n+1) (xF ids x.f) xs
def kY(ids:List Int):List Pl->List Int
 |[]=>ids
 |x::xs=>kY (xF ids x.f) xs
theorem EW{a b:List Pl}:∀{n:Nat}{ids:List Int},gN n ids (a++b)↔gN n ids a/\gN (n+a.length) (kY ids a) b:=by
  induction a with
  |nil=>intro n ids;simp[gN,kY]
  | cons x c d=>
    intro n ids;simp only[yJ,gN,kY];grind
theorem ab5{a b:List Pl}:∀{ids:List Int},kY ids (a++b)=kY (kY ids a) b:=by
 induction a with
 |nil=>intro ids;rfl
 |cons x d c=>intro ids;simp only[yJ,kY,c]
theorem YA{a:List Pl}:∀{n:Nat}{ids:List Int},gN n ids a->n<=256->n+a.length<=256:=by
  induction a with
  |nil=>simp
  | cons x d b=>
    intro n ids h _;obtain⟨⟨_,e,_⟩,c⟩:=h;grind
theorem apl{ahead:cC}{n:Nat}{h:List Int}:gN n h (f.places d ahead B)↔(∀g∈ahead,g.name≠f.name)/\gN n h (f.places d [] B):=by
 obtain⟨i,au,k,w,id,ix,cs⟩:=f;simp only[aq.places,gN,Ar];grind
theorem apj{ahead:cC}:(f.places d ahead B).length=(f.places d [] B).length:=by
 obtain⟨a,au,k,w,id,ix,cs⟩:=f;simp only[aq.places,iq]
theorem apk{ahead:cC}{a:List Int}:kY a (f.places d ahead B)=kY a (f.places d [] B):=by
 obtain⟨b,au,k,w,id,ix,cs⟩:=f;simp only[aq.places,kY]
def vu:List aq->List aq->Prop
 |_,[]=>True
 |ahead,f::fs=>(∀g∈ahead,g.name≠f.name)/\vu (ahead++[f]) fs
theorem aGJ{l:cC}:∀{ahead:cC}{n:Nat}{g:List Int},gN n g (dY d ahead B l)↔vu ahead l/\gN n g (lO d B l):=by
  induction l with
  |nil=>intro ahead n g;simp[dY,lO,vu]
  | cons f l h=>
    intro ahead n g;simp only[dY,lO,vu,EW,apl (ahead:=ahead),apj,apk];grind
theorem alg{cs:cC}:Vz cs↔cs.Pairwise λa b=>a.name≠b.name:=by
 rw[uZ];constructor
 ·intro u i j f d c e;exact u j i _ _ c (bx d) (bx f) e.symm
 ·intro u i j a b c h g e;grind
theorem ax5{l:cC}:∀{ahead:cC},ahead.Pairwise (λa b=>a.name≠b.name)->(vu ahead l↔(ahead++l).Pairwise λa b=>a.name≠b.name):=by
  induction l with
  |nil=>intro ahead h;simp[vu,h]
  | cons f l i=>
    intro ahead h;simp only[vu];grind
theorem EX{n:Nat}{a:List Int}:gN n a (dY d [] B fs)↔Vz fs/\gN n a (lO d B fs):=by
 rw[aGJ,ax5 UZ,Ai,alg]
def Ik(m:Md):Prop:=m.1.size<=256/\m.2.size<=256
def vk(fs:cC)(ms:List Md):Prop:=fs.length<=32/\ms.length<=16/\(∀(j:Nat)m,ms[j]? =some m->Ik m)/\Vz fs/\gN 0 [] (lO 1 false fs)
abbrev B61(h:Hp)(b:Nat)(k w id ix:Int)(s:Sl):Prop:=aN h b #[ah k,ah w,ah id,ah ix,Sl.v s] kG
theorem De{a:ff}{au:Bool}{k w id ix:Int}{cs:cC}(b:d<=64):(aq.mk a au k w id ix cs).places d [] B=⟨d,[],.mk a au k w id ix cs,B⟩::dY (d+1) [] (B||k==19) cs:=by
 unfold aq.places;rw[dR]
def pS(h:Hp)(r:Nat)(ids:List Int):Prop:=∃es c,h[r]? =some (.map es c)/\(∀e∈es.toList,∃x v:Int,e.key=ah x/\e.val=ah v)/\∀x:Int,(∃e∈es.toList,e.key=ah x)↔x∈ids
theorem pS.fr{S:aQ}{h':Hp}{z:List Int}(m:pS h r z)(f:Tn S h h')(B:¬S r):pS h' r z:=by
 obtain⟨a,c,e,q⟩:=m;exact⟨a,c,(f.2 r (kS.1 e).1 B).trans e,q⟩
theorem pS.ai{o:List Int}(m:pS h r o)(g:az h H):pS H r o:=m.fr (S:=No) (bh g) id
theorem pS.find{b:Array MapEntry}(g:∀e∈b.toList,∃x v:Int,e.key=ah x/\e.val=ah v)(t:Int):(Instr.findNow (.int .i64) (ah t) b.toList 0=some none/\¬∃e∈b.toList,e.key=ah t)\/
  ∃(j:Nat)(v:Int),Instr.findNow (.int .i64) (ah t) b.toList 0=some (some (j,ah v))/\∃e,b.toList[j]? =some e/\e.key=ah t:=by
 rcases MapKept.findNow_spec (d:=.int .i64) (k:=ah t) rfl b.toList 0 (λx h=>by obtain⟨a,_,e,_⟩:=g x h;rw[e];rfl)with⟨f,c⟩|⟨j,e,f,c,l⟩
 ·grind
 ·obtain⟨_,v,_,m⟩:=g e (bL c);grind
theorem ay1{a:List Int}{y:Int}{K:Int->Bool->Prop}(m:pS h r a)(i:∀x b,(b=true↔y∈a)->K x b):Lk h (some r) (.int .i64) (ah y) (ah (0:Int)) mI K:=by
 obtain⟨k,c,e,l,g⟩:=m;rcases pS.find l y with⟨f,d⟩|⟨j,v,f,o,d,n⟩
 ·exact⟨k,c,_,e,f,0,rfl,i 0 false ⟨aA,λq=>(d ((g y).2 q)).elim⟩⟩
 ·exact⟨k,c,_,e,f,v,rfl,i v true ⟨λ_=>(g y).1 ⟨o,bL d,n⟩,λ_=>rfl⟩⟩
theorem ayu{n:List Int}{k v:Int}(m:pS h r n)(D:∀A,eD r h A->pS A r (n++[k])->K A):Up h (some r) (.int .i64) (ah k) (ah v) K:=by
  obtain⟨s,c,e,u,C⟩:=m;have B:=(kS.1 e).1;have l:∀o,eD r h (h.setIfInBounds r o):=λo=>⟨aA,λb F=>bU⟩
  have get:∀o,(h.setIfInBounds r o)[r]? =some o:=dM
  rcases pS.find u k with⟨w,p⟩|⟨j,v0,w,H,p,G⟩
  · refine⟨s,c,_,e,w,D _ (l _) ⟨_,_,get _,λx d=>?_,λx=>?_⟩⟩
    ·grind
    ·rw[nt,<-C x];simp only[L5,nt,mA];grind
  · refine⟨s,c,_,e,w,D _ (l _) ⟨_,_,get _,λx d=>?_,λx=>?_⟩⟩
    · rw[Array.toList_modify]at d;obtain⟨i,a⟩:=ri.1 d;rw[UY]at a;cases g:s.toList[i]? with
      |none=>simp[g]at a
      | some y=>
        have f:=u y (bL g);grind
    · rw[nt,<-C x,Array.toList_modify];constructor
      ·grind[List.mem_iff_getElem?]
      · rintro(⟨y,f,q⟩|d)
        · obtain⟨i,a⟩:=ri.1 f
          by_cases E:j=i
          · subst E;rw[p]at a;cases a;refine⟨_,bL (by rw[UY,p];simp;rfl),?_⟩
            rw[<-q,G]
          ·exact⟨y,bL (i:=i) dM,q⟩
        ·simp only[mA]at d;subst d;exact⟨_,bL (by rw[UY,p];simp;rfl),rfl⟩
abbrev jP:Nat:=9223372036854775807
theorem akM{x:Pl}{n:Nat}{p:List Int}{sp t:Sl}{K:cJ}(g:az H h)(ht:lZ H)(hp:sp.n=x.deep)(L:cH H s x.ahead)(E:cH H t x.f.cs)(X:x.ahead.length<=jP)(T:x.f.name.size<=jP)(hm:pS h r p)
  (Z:∀e A,az h A->(e=0↔Ar n p x)->K e A):Yh sp s x.f.name x.f.au x.f.k x.f.w x.f.id x.f.ix t x.ins (n:Int) (some r) h K Kp:=by
 have R:=E.n;apply aFZ;have o:¬Ar n p x->∀(e:Int)A,e≠0->az h A->K e A:=λq e A ne g=>Z e A g ⟨λy=>(ne y).elim,λy=>(q y).elim⟩;refine aG λb3 h1 e3 g3 j _=>?_;simp only[bw,Nat.reduceAdd];refine aj j rfl (aj j rfl (aj j rfl (aj j rfl (aj j rfl ?_))));have d:=jN.start No h1;refine d.new λb7 _ a' _ d=>?_
 repeat(first|refine d.qN 0 rfl rfl ?_|refine d.ld 0 rfl rfl ?_|refine d.qN 1 rfl rfl ?_|refine d.ld 1 rfl rfl ?_|refine d.qN 2 rfl rfl ?_|refine d.ld 2 rfl rfl ?_|refine d.qN 3 rfl rfl ?_|refine d.ld 3 rfl rfl ?_|refine d.qN 4 rfl rfl ?_|refine d.ld 4 rfl rfl ?_|refine d.qN 5 rfl rfl ?_|refine d.ld 5 rfl rfl ?_|refine d.qN 6 rfl rfl ?_|refine d.ld 6 rfl rfl ?_|(refine d.ov 0 rfl rfl rfl λ_ _ d=>?_;simp only[ki]at d)|(refine d.st 0 rfl rfl rfl λ_ _ d=>?_;simp only[ki,nZ]at d)|(refine d.ov 1 rfl rfl rfl λ_ _ d=>?_;simp only[ki]at d)|(refine d.st 1 rfl rfl rfl λ_ _ d=>?_;simp only[ki]at d)|(refine d.ov 2 rfl rfl rfl λ_ _ d=>?_;simp only[ki]at d)|(refine d.st 2 rfl rfl rfl λ_ _ d=>?_;simp only[ki]at d)|(refine d.ov 3 rfl rfl rfl λ_ _ d=>?_;simp only[ki]at d)|(refine d.st 3 rfl rfl rfl λ_ _ d=>?_;simp only[ki]at d)|(refine d.ov 4 rfl rfl rfl λ_ _ d=>?_;simp only[ki]at d)|(refine d.st 4 rfl rfl rfl λ_ _ d=>?_;simp only[ki]at d)|(refine d.ov 5 rfl rfl rfl λ_ _ d=>?_;simp only[ki]at d)|(refine d.st 5 rfl rfl rfl λ_ _ d=>?_;simp only[ki]at d)|(refine d.ov 6 rfl rfl rfl λ_ _ d=>?_;simp only[ki]at d)|(refine d.st 6 rfl rfl rfl λ_ _ d=>?_;simp only[ki]at d)|refine d.qN 0 rfl rfl ?_|refine d.ld 0 rfl rfl ?_|refine d.qN 1 rfl rfl ?_|refine d.ld 1 rfl rfl ?_|refine d.qN 2 rfl rfl ?_|refine d.ld 2 rfl rfl ?_|refine d.qN 3 rfl rfl ?_|refine d.ld 3 rfl rfl ?_|refine d.qN 4 rfl rfl ?_|refine d.ld 4 rfl rfl ?_|refine d.qN 5 rfl rfl ?_|refine d.ld 5 rfl rfl ?_|refine d.qN 6 rfl rfl ?_|refine d.ld 6 rfl rfl ?_|refine aW ag ag ?_|refine bO rfl ?_|refine bu rfl ?_)
 have m:=d.aZ (i:=0) rfl;have j:=j.ai d.ai;have D:=ak g3 d.ai;clear d e3
 rename_i h7 _
 refine ay1 (hm.ai D) λtv ok G=>aj j rfl (aE (λc=>o (λq=>?_) _ _ aY D) λc=>?_)
 ·have c:=aM c;have:=q.1;omega
 have c:=aM c;refine aE (λF=>o (λq=>?_) _ _ aY D) λF=>?_
 ·have F:=aM F;have:=q.2.1;omega
 have F:=aM F;refine aj j rfl (aqA T λb l=>?_);cases b
 ·exact bO rfl (o (λq=>absurd (l.2 q.2.2.1) aA) _ _ aY D)
 have C:=l.1 rfl;clear l;refine bu rfl (aj j rfl (ayc (ak g D) L X (by rw[bw,gW j];rfl) λb h8 N l=>?_))
 have Q:=ak D N;have j:=j.ai N;have m:=m.ai N;cases b;rotate_left
 ·obtain⟨f,V,U⟩:=l.1 rfl;exact bO rfl (o (λq=>q.2.2.2.1 f V U) _ _ aY Q)
 have W:∀f∈x.ahead,f.name≠x.f.name:=bU;clear l;refine bu rfl (aj m rfl (aj m rfl (aj m rfl (aj m rfl (aj m rfl (auj (ht.ai (ak g Q)) λb h9 M l=>?_))))));have P:=ak Q M;have j:=j.ai M;have m:=m.ai M;rw[R.1]at l;cases b
 ·exact bO rfl (o (λq=>absurd (l.2 q.2.2.2.2.1) aA) _ _ aY P)
 have nh:=l.1 rfl;clear l;refine bu rfl (aj j rfl (aj j rfl (aj j rfl (aj j rfl (aj j rfl (aj j rfl (aj j rfl (aql (ak g P) E (λe=>by unfold Shaped at nh;omega) λb v B l=>?_))))))))
 have z:=ak P B;have j:=j.ai B;have m:=m.ai B;cases b
 ·exact bO rfl (o (λq=>absurd (l.2 q.2.2.2.2.2.1) aA) _ _ aY z)
 have S:=l.1 rfl;clear l;have hT:¬(x.ins=true/\(x.f.k=19\/x.f.k=20))->(x.f.k=19->(∃c,x.f.cs[0]? =some c/\c.au=false)/\x.f.id∉p)->K 0 v:=λa b=>Z 0 v z ⟨λ_=>⟨ag,ag,C,W,nh,S,a,b⟩,λ_=>rfl⟩
 have o:=λq=>o q 36 v aY z;have j1:∀b,(b=true↔x.ins=true/\(x.f.k=19\/x.f.k=20))->Iz K Kp (aJ b7) ok b v:=by
  intro b l;apply aCE;simp only[bw,Nat.reduceAdd];cases b
  ·have l:¬(x.ins=true/\(x.f.k=19\/x.f.k=20)):=bU;refine bu rfl (aj m rfl (cL (λc=>?_) λc=>?_))
   ·have I:0<x.f.cs.length:=by unfold Shaped at nh;omega
    obtain⟨f,J⟩:∃f,x.f.cs[0]? =some f:=⟨x.f.cs[0],bx I⟩;refine aj m rfl (E.ix rfl J λa L=>?_);obtain⟨u,_,_,c1,_⟩:=L.cells;refine⟨_,(ak g z).cell c1,(aE (λO=>?_) λO=>?_)⟩
    ·refine o λq=>?_;obtain⟨y,Y,q⟩:=(q.2.2.2.2.2.2.2 c).1;grind
    ·cases ok
     ·exact bu rfl (hT l λ_=>⟨⟨f,J,ag⟩,λq=>absurd (G.2 q) aA⟩)
     ·exact bO rfl (o λq=>(q.2.2.2.2.2.2.2 c).2 (G.1 rfl))
   ·grind
  ·exact bO rfl (bO rfl (o λq=>q.2.2.2.2.2.2.1 (l.1 rfl)))
 refine bu rfl (aj j rfl (aE (λe=>?_) λe=>?_))
 ·refine aj m rfl (aE (λc=>j1 _ ?_) λc=>?_)
  ·grind
  ·refine aj m rfl (j1 _ ?_);grind
 ·exact j1 _ (by simp[e])
theorem awQ{lo:Nat}{K:Sl->HP}{B:PK}(o:Sh lo h.size 1 h s vs Y6)(w:∀v∈vs,one v=true)(hl:vs.length<=1000)
  (l:∀c f,az h f->Sh h.size f.size 1 f c vs Y6->K c f):XT s h K B:=by
 apply aFo;rcases o with⟨rfl,rfl⟩|⟨b,J,I,o⟩
 ·exact bO rfl (l _ h (cK _) (Sh.nil _ _ _ _ _))
 ·obtain⟨e1,O,cs,k,N,M,A⟩:=o;refine bu (by rw[e1];rfl) (aG λq g L j u F=>?_)
  have r:Sh h.size g.size 1 g ⟨some _,0,0⟩ [] Y6:=.inr ⟨q,ag,ag,rfl,rfl,_,u,bP _,rfl,λi e=>by simp at e⟩
  refine Yz r j.1 rfl ag w (by rw[e1];exact⟨ag,λi v e=>by
   have E:=(cU.1 e).1;rw[bw,gW (k.ai j),cz,A i ag];exact e⟩) bU bU λc p z G t C=>?_
  have y:=((bh j:Tn No h g).trans' z λd⟨a,m,x⟩D=>bU).ai
  grind
theorem akX{lo:Nat}{x:Int}{K:Sl->HP}(o:Sh lo h.size 1 h s vs Y6)(v:lo<=h.size)(hl:vs.length<=1000)
  (m:∀a e,Tn (In lo h.size) h e->Sh lo e.size 1 e a (vs++[ah x]) Y6->a.n=vs.length+1->K a e):aH h #[(ah x)] Y6 λj c=>Ap c Y6 #[(ah (0:Int))] 1 8 s 1 (rd c (some j) (1*1)) λg r=>K g r:=by
 have y:=o.n;exact aG λb c z f l _=>Yz ((o.ai f).wide (bP lo) f.1) ag rfl rfl (by simp[one]) (iM l rfl) ag ag λa q t w k u=>m a q ((bh f:Tn (In lo h.size) h c).trans' t λd p i=>⟨(o.at p).1,i⟩) k ag
theorem JO{a b:cC}:∀{ahead:cC},dY d ahead B (a++b)=dY d ahead B a++dY d (ahead++a) B b:=by
 induction a with
 |nil=>intro ahead;simp[dY]
 |cons f e c=>intro ahead;simp only[yJ,dY,c,q9,Ai]
theorem iu.take:∀{c:cC}{i j:Nat},iu h a i c->iu h a i (c.take j)
  |[],_,j,b=>dM
  |f::c,_,0,b=>by simp[iu]
  | f::c,_,j+1,b=>by
    unfold iu at b;simp only[UX,iu];exact⟨b.1,iu.take b.2⟩
theorem cH.take{l:cC}(q:cH h s l){j:Nat}(g:j<=l.length){s':Sl}(r:s'.a=s.a)(u:s'.n=j)(y:s'.c=s.c):cH h s' (l.take j):=by
  have b:=q.n;cases l with
  |nil=>simp at g;subst g;simp only[List.take_nil,cH];omega
  | cons f l=>
    cases j with
    |zero=>simp only[HQ,cH];omega
    | succ j=>
      simp only[iq]at g b;unfold cH at q;obtain⟨_,_,a,e,i,d⟩:=q;simp only[UX,cH,kP];exact⟨ag,ag,a,r.trans e,i,d.take⟩
mutual
def aq.gh:aq->Prop
 |.mk n _ _ _ _ _ cs=>n.size<=jP/\cs.length<=jP/\ia cs
def ia:List aq->Prop
 |[]=>True
 |f::fs=>f.gh/\ia fs
end
theorem ia.get:∀{c:cC},ia c->∀f∈c,f.gh
  |[],_,_,h=>by simp at h
  | g::b,a,f,h=>by
    unfold ia at a;rcases mB.1 h with rfl|h
    ·exact a.1
    ·exact ia.get a.2 f h
end
end Go.Proofs.YtmjochipbmgljaaGreatDoor
