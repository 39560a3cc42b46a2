import Derived.Test.YtikpikmkhdapiaaGreatDoorBeginsShRange
import Derived.Test.YtikpikmkhdapiaaGreatDoorChecked
import Derived.Test.YtikpikmkhdapiaaGreatDoorBeginsShLoc
import Derived.Test.YtikpikmkhdapiaaGreatDoorBeginsShRow
import Derived.Test.YtikpikmkhdapiaaGreatDoorBeginsShDefer
import Derived.Test.YtikpikmkhdapiaaGreatDoorBeginsShAll
import Derived.Test.YtikpikmkhdapiaaGreatDoorBeginsShGlue
import Derived.Laws.Strings
import Derived.WideShapes
import Derived.MapKept
set_option linter.unusedSimpArgs false
set_option linter.unusedVariables false
set_option maxRecDepth 100000
set_option maxHeartbeats 1000000
namespace Go.Proofs.YtikpikmkhdapiaaGreatDoor
open Go Go.Sh Go.WideShapes
abbrev Y4:TypeId:=1
abbrev Y6:TypeId:=3
abbrev Y8:TypeId:=5
abbrev lS:TypeId:=9
abbrev Y25:TypeId:=22
abbrev mG:TypeId:=24
abbrev fP:TypeId:=26
abbrev bG:TypeId:=32
abbrev BW:TypeId:=33
abbrev ie:TypeId:=62
abbrev O4:TypeId:=100
abbrev yB:TypeId:=27
abbrev bW:TypeId:=41
abbrev fH:TypeId:=47
abbrev WK:TypeId:=145
abbrev WJ:TypeId:=244
abbrev akL:TypeId:=208
abbrev BZ:TypeId:=233
abbrev akK:TypeId:=110
abbrev WI:TypeId:=172
abbrev WH:TypeId:=173
abbrev WG:TypeId:=174
abbrev WE:TypeId:=175
abbrev WD:TypeId:=176
abbrev WC:TypeId:=177
abbrev BY:TypeId:=178
abbrev kI:TypeId:=200
abbrev WB:TypeId:=123
abbrev GK:TypeId:=124
abbrev Pe:TypeId:=129
abbrev WA:TypeId:=152
abbrev Wz:TypeId:=153
abbrev Wy:TypeId:=162
abbrev BX:TypeId:=52
abbrev Wx:TypeId:=55
abbrev GJ:TypeId:=65
abbrev jW:TypeId:=68
abbrev Pd:TypeId:=70
abbrev jV:TypeId:=71
abbrev Pc:TypeId:=73
abbrev jU:TypeId:=74
abbrev Pb:TypeId:=76
abbrev jy:TypeId:=77
abbrev Pa:TypeId:=79
abbrev jw:TypeId:=80
abbrev O9:TypeId:=82
abbrev kH:TypeId:=83
abbrev O8:TypeId:=85
abbrev kG:TypeId:=86
abbrev O7:TypeId:=89
abbrev jT:TypeId:=90
abbrev O6:TypeId:=92
abbrev kF:TypeId:=93
abbrev O5:TypeId:=97
abbrev mF:TypeId:=115
abbrev Ww:TypeId:=258
abbrev O3:TypeId:=268
abbrev akI:TypeId:=274
abbrev I64:FuncId:=54
abbrev Jb:FuncId:=72
abbrev PT:FuncId:=53
abbrev PS:FuncId:=55
abbrev CV:FuncId:=56
abbrev PR:FuncId:=60
abbrev al7:FuncId:=226
abbrev Jc:FuncId:=19
abbrev al6:FuncId:=16
abbrev zD:FuncId:=24
abbrev al5:FuncId:=137
abbrev al4:FuncId:=138
abbrev al3:FuncId:=139
abbrev al2:FuncId:=140
abbrev al1:FuncId:=141
abbrev al0:FuncId:=142
abbrev CU:FuncId:=147
abbrev alZ:FuncId:=148
abbrev alY:FuncId:=149
abbrev alX:FuncId:=150
abbrev alW:FuncId:=151
abbrev zC:FuncId:=155
abbrev alV:FuncId:=156
abbrev alU:FuncId:=157
abbrev alT:FuncId:=158
abbrev alS:FuncId:=159
abbrev zA:FuncId:=160
abbrev alR:FuncId:=161
abbrev alQ:FuncId:=162
abbrev alP:FuncId:=163
abbrev alO:FuncId:=164
abbrev zy:FuncId:=165
abbrev alN:FuncId:=166
abbrev alM:FuncId:=167
abbrev alL:FuncId:=168
abbrev alK:FuncId:=169
abbrev zw:FuncId:=172
abbrev PO:FuncId:=174
abbrev alJ:FuncId:=175
abbrev alI:FuncId:=176
abbrev alH:FuncId:=177
abbrev alG:FuncId:=178
abbrev zu:FuncId:=179
abbrev Xk:FuncId:=181
abbrev alF:FuncId:=182
abbrev alE:FuncId:=183
abbrev alD:FuncId:=184
abbrev alC:FuncId:=185
abbrev zq:FuncId:=187
abbrev alB:FuncId:=197
abbrev alA:FuncId:=198
abbrev alz:FuncId:=199
abbrev aly:FuncId:=200
abbrev rY:FuncId:=201
abbrev alx:FuncId:=202
abbrev alw:FuncId:=203
abbrev alv:FuncId:=204
abbrev alu:FuncId:=205
abbrev zp:FuncId:=207
abbrev PN:FuncId:=28
abbrev uk:Array Value:=#[(.int .i64 0),(.int .i64 0),(.int .i64 0),(.int .i64 0),(.slice none 0 0)]
abbrev kT:Array Value:=#[(.string (bs [])),(.bool false),(.int .i64 0),(.int .i64 0),(.int .i64 0),(.int .i64 0),(.slice none 0 0)]
abbrev bS:Array Value:=#[(.int .i64 0),(.int .i64 0),(.int .i64 0),(.slice none 0 0),(.slice none 0 0),(.slice none 0 0)]
abbrev iy:Array Value:=#[(.int .i64 0),(.slice none 0 0),(.int .i64 0)]
abbrev dO:Array Value:=#[(.bool false),(.int .i64 0),(.string (bs [])),(.slice none 0 0)]
abbrev Ee:Array Value:=#[(.slice none 0 0),(.int .i64 0),(.pointer none)]
abbrev Ya:Array Value:=#[(.slice none 0 0),(.slice none 0 0),(.string (bs [])),(.bool false),(.int .i64 0),(.int .i64 0),(.int .i64 0),(.int .i64 0),(.slice none 0 0),(.bool false)]
abbrev JW:Array Value:=#[(.string (bs [])),(.bool false),(.int .i64 0),(.int .i64 0),(.int .i64 0),(.int .i64 0),(.slice none 0 0),(.int .i64 0),(.int .i64 0),(.slice none 0 0),(.int .i64 0),(.bool false),(.int .i64 0),(.string (bs [])),(.slice none 0 0),(.bool false)]
abbrev tM (h:Hp) (t0 t1 t2 t3:Int) (t4:Sl) (K:Addr->HP):Prop:=aD h #[(.int .i64 t0),(.int .i64 t1),(.int .i64 t2),(.int .i64 t3),(Sl.v t4)] mG K
abbrev fu (h:Hp) (t0:BA) (t1:Bool) (t2 t3 t4 t5:Int) (t6:Sl) (K:Addr->HP):Prop:=aD h #[(.string t0),(.bool t1),(.int .i64 t2),(.int .i64 t3),(.int .i64 t4),(.int .i64 t5),(Sl.v t6)] fP K
abbrev jX (h:Hp) (t0 t1 t2:Int) (t3 t4 t5:Sl) (K:Addr->HP):Prop:=aD h #[(.int .i64 t0),(.int .i64 t1),(.int .i64 t2),(Sl.v t3),(Sl.v t4),(Sl.v t5)] bG K
abbrev iJ (h:Hp) (t0:Bool) (t1:Int) (t2:BA) (t3:Sl) (K:Addr->HP):Prop:=aD h #[(.bool t0),(.int .i64 t1),(.string t2),(Sl.v t3)] bW K
abbrev ak9 (h:Hp) (t0:BA) (t1:Bool) (t2 t3 t4 t5:Int) (t6:Sl) (t7 t8 t9:Int) (t10 t11 t12:Sl) (t13 t14:Int) (t15:PA) (t16:Value) (K:Addr->HP):Prop:=aD h #[(.string t0),(.bool t1),(.int .i64 t2),(.int .i64 t3),(.int .i64 t4),(.int .i64 t5),(Sl.v t6),(.int .i64 t7),(.int .i64 t8),(.int .i64 t9),(Sl.v t10),(Sl.v t11),(Sl.v t12),(.int .i64 t13),(.int .i64 t14),(.pointer t15),t16] WK K
abbrev vV (h:Hp) (t0:Sl) (t1:Int) (t2:PA) (K:Addr->HP):Prop:=aD h #[(Sl.v t0),(.int .i64 t1),(.pointer t2)] BZ K
abbrev ak8 (h:Hp) (t0 t1:Sl) (t2:BA) (t3:Bool) (t4 t5 t6 t7:Int) (t8:Sl) (t9:Bool) (K:Addr->HP):Prop:=aD h #[(Sl.v t0),(Sl.v t1),(.string t2),(.bool t3),(.int .i64 t4),(.int .i64 t5),(.int .i64 t6),(.int .i64 t7),(Sl.v t8),(.bool t9)] Pe K
abbrev ak7 (h:Hp) (t0:BA) (t1:Bool) (t2 t3 t4 t5:Int) (t6:Sl) (t7:Value) (t8:Bool) (K:Addr->HP):Prop:=aD h #[(.string t0),(.bool t1),(.int .i64 t2),(.int .i64 t3),(.int .i64 t4),(.int .i64 t5),(Sl.v t6),t7,(.bool t8)] Wx K
abbrev ak6 (h:Hp) (t0:BA) (t1:Bool) (t2 t3 t4 t5:Int) (t6:Sl) (t7 t8:Int) (t9:Sl) (t10:Int) (t11:Bool) (t12:Int) (t13:BA) (t14:Sl) (t15:Bool) (K:Addr->HP):Prop:=aD h #[(.string t0),(.bool t1),(.int .i64 t2),(.int .i64 t3),(.int .i64 t4),(.int .i64 t5),(Sl.v t6),(.int .i64 t7),(.int .i64 t8),(Sl.v t9),(.int .i64 t10),(.bool t11),(.int .i64 t12),(.string t13),(Sl.v t14),(.bool t15)] Pd K
abbrev ak5 (h:Hp) (t0:BA) (t1:Bool) (t2 t3 t4 t5:Int) (t6:Sl) (t7 t8:Int) (t9:Sl) (t10:Int) (t11:Bool) (t12:Int) (t13:BA) (t14:Sl) (t15:Bool) (t16 t17:Sl) (K:Addr->HP):Prop:=aD h #[(.string t0),(.bool t1),(.int .i64 t2),(.int .i64 t3),(.int .i64 t4),(.int .i64 t5),(Sl.v t6),(.int .i64 t7),(.int .i64 t8),(Sl.v t9),(.int .i64 t10),(.bool t11),(.int .i64 t12),(.string t13),(Sl.v t14),(.bool t15),(Sl.v t16),(Sl.v t17)] Pc K
abbrev ak4 (h:Hp) (t0:BA) (t1:Bool) (t2 t3 t4 t5:Int) (t6:Sl) (t7 t8:Int) (t9:Sl) (t10:Int) (t11:Bool) (t12:Int) (t13:BA) (t14:Sl) (t15:Bool) (t16:Sl) (t17:Value) (K:Addr->HP):Prop:=aD h #[(.string t0),(.bool t1),(.int .i64 t2),(.int .i64 t3),(.int .i64 t4),(.int .i64 t5),(Sl.v t6),(.int .i64 t7),(.int .i64 t8),(Sl.v t9),(.int .i64 t10),(.bool t11),(.int .i64 t12),(.string t13),(Sl.v t14),(.bool t15),(Sl.v t16),t17] Pb K
abbrev ak3 (h:Hp) (t0:BA) (t1:Bool) (t2 t3 t4 t5:Int) (t6:Sl) (t7 t8:Int) (t9:Sl) (t10:Int) (t11:Bool) (t12:Int) (t13:BA) (t14:Sl) (t15:Bool) (t16:Value) (K:Addr->HP):Prop:=aD h #[(.string t0),(.bool t1),(.int .i64 t2),(.int .i64 t3),(.int .i64 t4),(.int .i64 t5),(Sl.v t6),(.int .i64 t7),(.int .i64 t8),(Sl.v t9),(.int .i64 t10),(.bool t11),(.int .i64 t12),(.string t13),(Sl.v t14),(.bool t15),t16] Pa K
abbrev ak2 (h:Hp) (t0:BA) (t1:Bool) (t2 t3 t4 t5:Int) (t6:Sl) (t7 t8:Int) (t9:Sl) (t10:Int) (t11:Bool) (t12:Int) (t13:BA) (t14:Sl) (t15:Bool) (t16:Sl) (K:Addr->HP):Prop:=aD h #[(.string t0),(.bool t1),(.int .i64 t2),(.int .i64 t3),(.int .i64 t4),(.int .i64 t5),(Sl.v t6),(.int .i64 t7),(.int .i64 t8),(Sl.v t9),(.int .i64 t10),(.bool t11),(.int .i64 t12),(.string t13),(Sl.v t14),(.bool t15),(Sl.v t16)] O9 K
abbrev ak1 (h:Hp) (t0:BA) (t1:Bool) (t2 t3 t4 t5:Int) (t6:Sl) (t7 t8:Int) (t9:Sl) (t10:Int) (t11:Bool) (t12:Int) (t13:BA) (t14:Sl) (t15:Bool) (t16 t17 t18:Sl) (K:Addr->HP):Prop:=aD h #[(.string t0),(.bool t1),(.int .i64 t2),(.int .i64 t3),(.int .i64 t4),(.int .i64 t5),(Sl.v t6),(.int .i64 t7),(.int .i64 t8),(Sl.v t9),(.int .i64 t10),(.bool t11),(.int .i64 t12),(.string t13),(Sl.v t14),(.bool t15),(Sl.v t16),(Sl.v t17),(Sl.v t18)] O8 K
abbrev ak0 (h:Hp) (t0:BA) (t1:Bool) (t2 t3 t4 t5:Int) (t6:Sl) (t7 t8:Int) (t9:Sl) (t10:Int) (t11:Bool) (t12:Int) (t13:BA) (t14:Sl) (t15:Bool) (t16:Sl) (t17:Value) (t18:Sl) (t19:Option Nat) (K:Addr->HP):Prop:=aD h #[(.string t0),(.bool t1),(.int .i64 t2),(.int .i64 t3),(.int .i64 t4),(.int .i64 t5),(Sl.v t6),(.int .i64 t7),(.int .i64 t8),(Sl.v t9),(.int .i64 t10),(.bool t11),(.int .i64 t12),(.string t13),(Sl.v t14),(.bool t15),(Sl.v t16),t17,(Sl.v t18),(.map t19)] O7 K
abbrev akZ (h:Hp) (t0:BA) (t1:Bool) (t2 t3 t4 t5:Int) (t6:Sl) (t7 t8:Int) (t9:Sl) (t10:Int) (t11:Bool) (t12:Int) (t13:BA) (t14:Sl) (t15:Bool) (t16:Sl) (t17:Value) (t18:Bool) (t19:Int) (t20:BA) (t21:Sl) (K:Addr->HP):Prop:=aD h #[(.string t0),(.bool t1),(.int .i64 t2),(.int .i64 t3),(.int .i64 t4),(.int .i64 t5),(Sl.v t6),(.int .i64 t7),(.int .i64 t8),(Sl.v t9),(.int .i64 t10),(.bool t11),(.int .i64 t12),(.string t13),(Sl.v t14),(.bool t15),(Sl.v t16),t17,(.bool t18),(.int .i64 t19),(.string t20),(Sl.v t21)] O6 K
abbrev akY (h:Hp) (t0:BA) (t1:Bool) (t2 t3 t4 t5:Int) (t6:Sl) (t7 t8:Int) (t9:Sl) (t10:Int) (t11:Bool) (t12:Int) (t13:BA) (t14:Sl) (t15:Bool) (t16 t17:Sl) (K:Addr->HP):Prop:=aD h #[(.string t0),(.bool t1),(.int .i64 t2),(.int .i64 t3),(.int .i64 t4),(.int .i64 t5),(Sl.v t6),(.int .i64 t7),(.int .i64 t8),(Sl.v t9),(.int .i64 t10),(.bool t11),(.int .i64 t12),(.string t13),(Sl.v t14),(.bool t15),(Sl.v t16),(Sl.v t17)] O5 K
def dH (h:Hp) (a:Addr) (K:Int->Int->Int->Int->Sl->Prop):Prop :=
 Ld h a mI λt0=>Ld h (a.add 1) mI λt1=>Ld h (a.add 2) mI λt2=>Ld h (a.add 3) mI λt3=>Ld h (a.add 4) Sl.v λt4=>K t0 t1 t2 t3 t4
def aN (h:Hp) (a:Addr) (K:BA->Bool->Int->Int->Int->Int->Sl->Prop):Prop :=
 Ld h a .string λt0=>Ld h (a.add 1) .bool λt1=>Ld h (a.add 2) mI λt2=>Ld h (a.add 3) mI λt3=>Ld h (a.add 4) mI λt4=>Ld h (a.add 5) mI λt5=>Ld h (a.add 6) Sl.v λt6=>K t0 t1 t2 t3 t4 t5 t6
def bq (h:Hp) (a:Addr) (K:Int->Int->Int->Sl->Sl->Sl->Prop):Prop :=
 Ld h a mI λt0=>Ld h (a.add 1) mI λt1=>Ld h (a.add 2) mI λt2=>Ld h (a.add 3) Sl.v λt3=>Ld h (a.add 4) Sl.v λt4=>Ld h (a.add 5) Sl.v λt5=>K t0 t1 t2 t3 t4 t5
def cv (h:Hp) (a:Addr) (K:Int->Sl->Int->Prop):Prop :=
 Ld h a mI λt0=>Ld h (a.add 1) Sl.v λt1=>Ld h (a.add 2) mI λt2=>K t0 t1 t2
def aQ (h:Hp) (a:Addr) (K:Bool->Int->BA->Sl->Prop):Prop :=
 Ld h a .bool λt0=>Ld h (a.add 1) mI λt1=>Ld h (a.add 2) .string λt2=>Ld h (a.add 3) Sl.v λt3=>K t0 t1 t2 t3
def fQ (h:Hp) (a:Addr) (K:Sl->Int->PA->Prop):Prop :=
 Ld h a Sl.v λt0=>Ld h (a.add 1) mI λt1=>Ld h (a.add 2) .pointer λt2=>K t0 t1 t2
def alj (h:Hp) (a:Addr) (K:Sl->Sl->BA->Bool->Int->Int->Int->Int->Sl->Bool->Prop):Prop :=
 Ld h a Sl.v λt0=>Ld h (a.add 1) Sl.v λt1=>Ld h (a.add 2) .string λt2=>Ld h (a.add 3) .bool λt3=>Ld h (a.add 4) mI λt4=>Ld h (a.add 5) mI λt5=>Ld h (a.add 6) mI λt6=>Ld h (a.add 7) mI λt7=>Ld h (a.add 8) Sl.v λt8=>Ld h (a.add 9) .bool λt9=>K t0 t1 t2 t3 t4 t5 t6 t7 t8 t9
def fZ (h:Hp) (a:Addr) (K:BA->Bool->Int->Int->Int->Int->Sl->Int->Int->Sl->Int->Bool->Int->BA->Sl->Bool->Prop):Prop :=
 Ld h a .string λt0=>Ld h (a.add 1) .bool λt1=>Ld h (a.add 2) mI λt2=>Ld h (a.add 3) mI λt3=>Ld h (a.add 4) mI λt4=>Ld h (a.add 5) mI λt5=>Ld h (a.add 6) Sl.v λt6=>Ld h (a.add 7) mI λt7=>Ld h (a.add 8) mI λt8=>Ld h (a.add 9) Sl.v λt9=>Ld h (a.add 10) mI λt10=>Ld h (a.add 11) .bool λt11=>Ld h (a.add 12) mI λt12=>Ld h (a.add 13) .string λt13=>Ld h (a.add 14) Sl.v λt14=>Ld h (a.add 15) .bool λt15=>K t0 t1 t2 t3 t4 t5 t6 t7 t8 t9 t10 t11 t12 t13 t14 t15
def jz (h:Hp) (a:Addr) (t0 t1 t2 t3:Int) (t4:Sl) (K:HP):Prop :=
 St h a (.int .i64 t0) λh1=>St h1 (a.add 1) (.int .i64 t1) λh2=>St h2 (a.add 2) (.int .i64 t2) λh3=>St h3 (a.add 3) (.int .i64 t3) λh4=>St h4 (a.add 4) (Sl.v t4) λh5=>K h5
def dW (h:Hp) (a:Addr) (t0:BA) (t1:Bool) (t2 t3 t4 t5:Int) (t6:Sl) (K:HP):Prop :=
 St h a (.string t0) λh1=>St h1 (a.add 1) (.bool t1) λh2=>St h2 (a.add 2) (.int .i64 t2) λh3=>St h3 (a.add 3) (.int .i64 t3) λh4=>St h4 (a.add 4) (.int .i64 t4) λh5=>St h5 (a.add 5) (.int .i64 t5) λh6=>St h6 (a.add 6) (Sl.v t6) λh7=>K h7
def bw (h:Hp) (a:Addr) (t0 t1 t2:Int) (t3 t4 t5:Sl) (K:HP):Prop :=
 St h a (.int .i64 t0) λh1=>St h1 (a.add 1) (.int .i64 t1) λh2=>St h2 (a.add 2) (.int .i64 t2) λh3=>St h3 (a.add 3) (Sl.v t3) λh4=>St h4 (a.add 4) (Sl.v t4) λh5=>St h5 (a.add 5) (Sl.v t5) λh6=>K h6
def bX (h:Hp) (a:Addr) (t0:Int) (t1:Sl) (t2:Int) (K:HP):Prop :=
 St h a (.int .i64 t0) λh1=>St h1 (a.add 1) (Sl.v t1) λh2=>St h2 (a.add 2) (.int .i64 t2) λh3=>K h3
def bV (h:Hp) (a:Addr) (t0:Bool) (t1:Int) (t2:BA) (t3:Sl) (K:HP):Prop :=
 St h a (.bool t0) λh1=>St h1 (a.add 1) (.int .i64 t1) λh2=>St h2 (a.add 2) (.string t2) λh3=>St h3 (a.add 3) (Sl.v t3) λh4=>K h4
def m8 (h:Hp) (a:Addr) (t0:Sl) (t1:Int) (t2:PA) (K:HP):Prop :=
 St h a (Sl.v t0) λh1=>St h1 (a.add 1) (.int .i64 t1) λh2=>St h2 (a.add 2) (.pointer t2) λh3=>K h3
def akR (h:Hp) (a:Addr) (t0 t1:Sl) (t2:BA) (t3:Bool) (t4 t5 t6 t7:Int) (t8:Sl) (t9:Bool) (K:HP):Prop :=
 St h a (Sl.v t0) λh1=>St h1 (a.add 1) (Sl.v t1) λh2=>St h2 (a.add 2) (.string t2) λh3=>St h3 (a.add 3) (.bool t3) λh4=>St h4 (a.add 4) (.int .i64 t4) λh5=>St h5 (a.add 5) (.int .i64 t5) λh6=>St h6 (a.add 6) (.int .i64 t6) λh7=>St h7 (a.add 7) (.int .i64 t7) λh8=>St h8 (a.add 8) (Sl.v t8) λh9=>St h9 (a.add 9) (.bool t9) λu7=>K u7
def mH (h:Hp) (a:Addr) (t0:BA) (t1:Bool) (t2 t3 t4 t5:Int) (t6:Sl) (t7 t8:Int) (t9:Sl) (t10:Int) (t11:Bool) (t12:Int) (t13:BA) (t14:Sl) (t15:Bool) (K:HP):Prop :=
 St h a (.string t0) λh1=>St h1 (a.add 1) (.bool t1) λh2=>St h2 (a.add 2) (.int .i64 t2) λh3=>St h3 (a.add 3) (.int .i64 t3) λh4=>St h4 (a.add 4) (.int .i64 t4) λh5=>St h5 (a.add 5) (.int .i64 t5) λh6=>St h6 (a.add 6) (Sl.v t6) λh7=>St h7 (a.add 7) (.int .i64 t7) λh8=>St h8 (a.add 8) (.int .i64 t8) λh9=>St h9 (a.add 9) (Sl.v t9) λu7=>St u7 (a.add 10) (.int .i64 t10) λBw=>St Bw (a.add 11) (.bool t11) λFF=>St FF (a.add 12) (.int .i64 t12) λUm=>St Um (a.add 13) (.string t13) λxW=>St xW (a.add 14) (Sl.v t14) λh15=>St h15 (a.add 15) (.bool t15) λxV=>K xV
abbrev tB {R:Type} (k:Value->R) (t0 t1 t2 t3:Int) (t4:Sl):R:=k (.agg #[(.int .i64 t0),(.int .i64 t1),(.int .i64 t2),(.int .i64 t3),(Sl.v t4)])
abbrev eJ {R:Type} (k:Value->R) (t0:BA) (t1:Bool) (t2 t3 t4 t5:Int) (t6:Sl):R:=k (.agg #[(.string t0),(.bool t1),(.int .i64 t2),(.int .i64 t3),(.int .i64 t4),(.int .i64 t5),(Sl.v t6)])
abbrev iF {R:Type} (k:Value->R) (t0 t1 t2:Int) (t3 t4 t5:Sl):R:=k (.agg #[(.int .i64 t0),(.int .i64 t1),(.int .i64 t2),(Sl.v t3),(Sl.v t4),(Sl.v t5)])
abbrev iE {R:Type} (k:Value->R) (t0:Bool) (t1:Int) (t2:BA) (t3:Sl):R:=k (.agg #[(.bool t0),(.int .i64 t1),(.string t2),(Sl.v t3)])
abbrev vD {R:Type} (k:Value->R) (t0:Sl) (t1:Int) (t2:PA):R:=k (.agg #[(Sl.v t0),(.int .i64 t1),(.pointer t2)])
abbrev ajF {R:Type} (k:Value->R) (t0 t1:Sl) (t2:BA) (t3:Bool) (t4 t5 t6 t7:Int) (t8:Sl) (t9:Bool):R:=k (.agg #[(Sl.v t0),(Sl.v t1),(.string t2),(.bool t3),(.int .i64 t4),(.int .i64 t5),(.int .i64 t6),(.int .i64 t7),(Sl.v t8),(.bool t9)])
abbrev aX:=Bool->HP
abbrev cJ:Rs:=[(false,[.b])]
abbrev eU (i:FuncId) (l:List Value) (h:Hp) (K:aX) (Kp:PK):Prop:=cr Tryz.prog i l h (xQ cJ K) Kp
abbrev B1:=Int->Int->Int->Sl->Sl->Sl->Int->Int->HP
abbrev Lz:Rs:=[(true,[tI,tI,tI, .s, .s, .s]),(false,[tI]),(false,[tI])]
abbrev fR1 (i:FuncId) (l:List Value) (h:Hp) (K:B1) (Kp:PK):Prop:=cr Tryz.prog i l h (xQ Lz K) Kp
abbrev WW:=PA->Int->HP
abbrev RU:Rs:=[(false,[.p]),(false,[tI])]
abbrev fR2 (i:FuncId) (l:List Value) (h:Hp) (K:WW) (Kp:PK):Prop:=cr Tryz.prog i l h (xQ RU K) Kp
abbrev bP:=Int->HP
abbrev cy:Rs:=[(false,[tI])]
abbrev dc (i:FuncId) (l:List Value) (h:Hp) (K:bP) (Kp:PK):Prop:=cr Tryz.prog i l h (xQ cy K) Kp
abbrev Pj:=Int->Int->Int->Sl->Sl->Sl->Int->HP
abbrev Lu:Rs:=[(true,[tI,tI,tI, .s, .s, .s]),(false,[tI])]
abbrev UK (i:FuncId) (l:List Value) (h:Hp) (K:Pj) (Kp:PK):Prop:=cr Tryz.prog i l h (xQ Lu K) Kp
abbrev tK:=BA->Bool->Int->Int->Int->Int->Sl->HP
abbrev xx:Rs:=[(true,[.t, .b,tI,tI,tI,tI, .s])]
abbrev FQ (i:FuncId) (l:List Value) (h:Hp) (K:tK) (Kp:PK):Prop:=cr Tryz.prog i l h (xQ xx K) Kp
abbrev rJ:=Value->HP
abbrev AT:Rs:=[(false,[.a (.nilIface)])]
abbrev UJ (i:FuncId) (l:List Value) (h:Hp) (K:rJ) (Kp:PK):Prop:=cr Tryz.prog i l h (xQ AT K) Kp
abbrev fm:=Int->Sl->Int->HP
abbrev mu:Rs:=[(true,[tI, .s,tI])]
abbrev th (i:FuncId) (l:List Value) (h:Hp) (K:fm) (Kp:PK):Prop:=cr Tryz.prog i l h (xQ mu K) Kp
abbrev WO:=BA->Bool->Int->Int->Int->Int->Sl->Int->Int->Sl->Int->Bool->Int->BA->Sl->Bool->HP
abbrev RN:Rs:=[(true,[.t, .b,tI,tI,tI,tI, .s,tI,tI, .s,tI, .b,tI, .t, .s, .b])]
abbrev fR8 (i:FuncId) (l:List Value) (h:Hp) (K:WO) (Kp:PK):Prop:=cr Tryz.prog i l h (xQ RN K) Kp
abbrev dR:=HP
abbrev gz:Rs:=[]
abbrev mC (i:FuncId) (l:List Value) (h:Hp) (K:dR) (Kp:PK):Prop:=cr Tryz.prog i l h (xQ gz K) Kp
abbrev Pm:=PA->Int->Sl->Int->HP
abbrev Ly:Rs:=[(false,[.p]),(true,[tI, .s,tI])]
abbrev ahn (i:FuncId) (l:List Value) (h:Hp) (K:Pm) (Kp:PK):Prop:=cr Tryz.prog i l h (xQ Ly K) Kp
abbrev dg:=Sl->HP
abbrev fM:Rs:=[(false,[.s])]
abbrev kE (i:FuncId) (l:List Value) (h:Hp) (K:dg) (Kp:PK):Prop:=cr Tryz.prog i l h (xQ fM K) Kp
abbrev WY:=Bool->Int->BA->Sl->Int->HP
abbrev RW:Rs:=[(true,[.b,tI, .t, .s]),(false,[tI])]
abbrev ahm (i:FuncId) (l:List Value) (h:Hp) (K:WY) (Kp:PK):Prop:=cr Tryz.prog i l h (xQ RW K) Kp
abbrev WX:=PA->HP
abbrev RV:Rs:=[(false,[.p])]
abbrev ahl (i:FuncId) (l:List Value) (h:Hp) (K:WX) (Kp:PK):Prop:=cr Tryz.prog i l h (xQ RV K) Kp
abbrev gW:=Int->Int->Int->Sl->Sl->Sl->HP
abbrev jm:Rs:=[(true,[tI,tI,tI, .s, .s, .s])]
abbrev oH (i:FuncId) (l:List Value) (h:Hp) (K:gW) (Kp:PK):Prop:=cr Tryz.prog i l h (xQ jm K) Kp
abbrev tL:=Value->HP
abbrev uL:Rs:=[(false,[.a (.nilFunc)])]
abbrev mY (i:FuncId) (l:List Value) (h:Hp) (K:tL) (Kp:PK):Prop:=cr Tryz.prog i l h (xQ uL K) Kp
abbrev m7:=Bool->Int->BA->Sl->HP
abbrev qK:Rs:=[(true,[.b,tI, .t, .s])]
abbrev FR (i:FuncId) (l:List Value) (h:Hp) (K:m7) (Kp:PK):Prop:=cr Tryz.prog i l h (xQ qK K) Kp
abbrev pX:=Int->Sl->Int->Sl->HP
abbrev Lx:Rs:=[(true,[tI, .s,tI]),(false,[.s])]
abbrev ahk (i:FuncId) (l:List Value) (h:Hp) (K:pX) (Kp:PK):Prop:=cr Tryz.prog i l h (xQ Lx K) Kp
abbrev akP:=Bool->Int->BA->Sl->Int->Int->HP
abbrev ab7:Rs:=[(true,[.b,tI, .t, .s]),(false,[tI]),(false,[tI])]
abbrev ahj (i:FuncId) (l:List Value) (h:Hp) (K:akP) (Kp:PK):Prop:=cr Tryz.prog i l h (xQ ab7 K) Kp
abbrev akO:=BA->HP
abbrev ab6:Rs:=[(false,[.t])]
abbrev ahi (i:FuncId) (l:List Value) (h:Hp) (K:akO) (Kp:PK):Prop:=cr Tryz.prog i l h (xQ ab6 K) Kp
abbrev vO:=Int->HP
abbrev xy:Rs:=[(false,[.i .u64])]
abbrev Og (i:FuncId) (l:List Value) (h:Hp) (K:vO) (Kp:PK):Prop:=cr Tryz.prog i l h (xQ xy K) Kp
abbrev WV:=Int->Bool->HP
abbrev RT:Rs:=[(false,[tI]),(false,[.b])]
abbrev ahg (i:FuncId) (l:List Value) (h:Hp) (K:WV) (Kp:PK):Prop:=cr Tryz.prog i l h (xQ RT K) Kp
abbrev Pk:=Int->Int->Int->HP
abbrev Lw:Rs:=[(false,[tI]),(false,[tI]),(false,[tI])]
abbrev ahf (i:FuncId) (l:List Value) (h:Hp) (K:Pk) (Kp:PK):Prop:=cr Tryz.prog i l h (xQ Lw K) Kp
abbrev WU:=Bool->Int->HP
abbrev RS:Rs:=[(false,[.b]),(false,[tI])]
abbrev ahe (i:FuncId) (l:List Value) (h:Hp) (K:WU) (Kp:PK):Prop:=cr Tryz.prog i l h (xQ RS K) Kp
abbrev GN:=Sl->Int->PA->HP
abbrev EU:Rs:=[(true,[.s,tI, .p])]
abbrev Of (i:FuncId) (l:List Value) (h:Hp) (K:GN) (Kp:PK):Prop:=cr Tryz.prog i l h (xQ EU K) Kp
abbrev WT:=Int->Int->HP
abbrev RR:Rs:=[(false,[.i .u8]),(false,[tI])]
abbrev ahd (i:FuncId) (l:List Value) (h:Hp) (K:WT) (Kp:PK):Prop:=cr Tryz.prog i l h (xQ RR K) Kp
abbrev WS:=Int->Int->HP
abbrev RQ:Rs:=[(false,[tI]),(false,[tI])]
abbrev ahc (i:FuncId) (l:List Value) (h:Hp) (K:WS) (Kp:PK):Prop:=cr Tryz.prog i l h (xQ RQ K) Kp
abbrev WR:=BA->Int->HP
abbrev RP:Rs:=[(false,[.t]),(false,[tI])]
abbrev ahb (i:FuncId) (l:List Value) (h:Hp) (K:WR) (Kp:PK):Prop:=cr Tryz.prog i l h (xQ RP K) Kp
abbrev WQ:=Int->Int->HP
abbrev RO:Rs:=[(false,[.i .u64]),(false,[tI])]
abbrev aha (i:FuncId) (l:List Value) (h:Hp) (K:WQ) (Kp:PK):Prop:=cr Tryz.prog i l h (xQ RO K) Kp
def JM:=eJ λa=>cS λb=>cI λc=>eU 3 [a,b,c]
def Dk:=eU 4 []
def lW:=eJ λa=>cS λb=>fR1 5 [a,b]
def r6:=eJ λa=>fR2 6 [a]
def qw:=cP λa=>iE λb=>dc 7 [a,b]
def wQ:=cP λa=>dc 8 [a]
def rZ:=cP λa=>UK 9 [a]
def Ab:=iF λa=>iF λb=>eU 10 [a,b]
def Di:=eJ λa=>iF λb=>eU 11 [a,b]
def wP:=eJ λa=>eU 12 [a]
def zY:=eJ λa=>FQ 13 [a]
def zX:=eJ λa=>UJ 14 [a]
def Dh:=eJ λa=>iE λb=>dc 15 [a,b]
def Dg:=cP λa=>iE λb=>dc 16 [a,b]
def Aa:=cS λa=>cS λb=>eU 17 [a,b]
def Dj:=eJ λa=>iF λb=>UK 18 [a,b]
def zZ:=iF λa=>iF λb=>eU 19 [a,b]
def tY:=eJ λa=>th 20 [a]
def Df:=eJ λa=>fR8 21 [a]
def wO:=eJ λa=>eU 22 [a]
def De:=eJ λa=>iE λb=>eU 23 [a,b]
def DT:=eJ λa=>iF λb=>ahn 25 [a,b]
def Ae:=cP λa=>kE 26 [a]
def C0:=cS λa=>cS λb=>cA λc=>eU 27 [a,b,c]
def Je:=cS λa=>cS λb=>eU 28 [a,b]
def zH:=cS λa=>cS λb=>cA λc=>eU 29 [a,b,c]
def DS (EN EM:Sl) (h:Hp) (K:fm) (Kp:PK):=cr Tryz.prog 30 [(.agg #[(Sl.v EN),(Sl.v EM)])] h (xQ mu K) Kp
def Dd:=eJ λa=>ahm 31 [a]
def qv:=cP λa=>eJ λb=>iE λc=>eU 32 [a,b,c]
def CZ:=eJ λa=>iF λb=>th 33 [a,b]
def CY:=eJ λa=>iF λb=>cP λc=>ahl 34 [a,b,c]
def zG:=eJ λa=>FQ 35 [a]
def zF:=iF λa=>oH 36 [a]
def Jd:=cP λa=>mY 37 [a]
def JR:=cS λa=>cI λb=>mY 38 [a,b]
def DK:=ajF λa=>cI λb=>cM λc=>dc 39 [a,b,c]
def nV:=eJ λa=>dc 40 [a]
def nU:=eJ λa=>FR 41 [a]
def wN:=eJ λa=>eU 42 [a]
def Dc:=cP λa=>tB λb=>cS λc=>eU 43 [a,b,c]
def Dl:=cT λa=>eU 44 [a]
def Db:=cI λa=>eU 45 [a]
def nS:=cI λa=>cI λb=>eU 46 [a,b]
def iL:=cI λa=>cI λb=>th 47 [a,b]
def uf:=eJ λa=>iF λb=>ahk 48 [a,b]
def DY:=cI λa=>UJ 49 [a]
def JO:=cS λa=>kE 50 [a]
def Dq:=cS λa=>kE 51 [a]
def Ai:=cS λa=>kE 52 [a]
def PY:=cA λa=>cD λb=>mC 53 [a,b]
def CW:=cP λa=>cI λb=>ahj 54 [a,b]
def PX:=cA λa=>cD λb=>cD λc=>mC 55 [a,b,c]
def JP:=cS λa=>cS λb=>cB λc=>cD λd=>cD λe=>cD λf=>eU 56 [a,b,c,d,e,f]
def Dp:=cS λa=>kE 57 [a]
def DD:=cT λa=>eU 58 [a]
def Dn:=cS λa=>cA λb=>eU 59 [a,b]
def PW:=eJ λa=>cD λb=>eU 60 [a,b]
def DC:=tB λa=>eU 61 [a]
def DB:=eJ λa=>eU 62 [a]
def Xm:=cT λa=>cI λb=>ahi 63 [a,b]
def nW:=cT λa=>Og 64 [a]
def oQ:=cI λa=>ahg 65 [a]
def DR:=eJ λa=>iF λb=>th 66 [a,b]
def DQ:=eJ λa=>iF λb=>th 67 [a,b]
def DV:=iF λa=>kE 68 [a]
def Xn:=eJ λa=>cI λb=>FQ 69 [a,b]
def amd:=iF λa=>th 70 [a]
def DP:=eJ λa=>iF λb=>cS λc=>kE 71 [a,b,c]
def DW:=cP λa=>cI λb=>cP λc=>FR 73 [a,b,c]
def Dw (c:Int) (h:Hp) (K:aX) (Kp:PK):=cr Tryz.prog 74 [(.int .u8 c)] h (xQ cJ K) Kp
def JN:=cS λa=>cA λb=>dc 75 [a,b]
def Ad:=cI λa=>eU 76 [a]
def DJ:=tB λa=>ahf 83 [a]
def DI:=tB λa=>cI λb=>cI λc=>cI λd=>dc 84 [a,b,c,d]
def DH:=eJ λa=>iF λb=>th 85 [a,b]
def amc:=eJ λa=>iF λb=>th 86 [a,b]
def DG:=cS λa=>cI λb=>dc 87 [a,b]
def Ah:=eJ λa=>iF λb=>cI λc=>eU 88 [a,b,c]
def amb:=eJ λa=>iF λb=>cI λc=>dc 89 [a,b,c]
def JQ:=cS λa=>cI λb=>cI λc=>kE 90 [a,b,c]
def DN:=cP λa=>cI λb=>cP λc=>FR 91 [a,b,c]
def wR:=tB λa=>eU 97 [a]
def DA:=tB λa=>kE 98 [a]
def Dz:=cI λa=>dc 99 [a]
def Dy:=tB λa=>dc 100 [a]
def CX:=eJ λa=>iF λb=>dc 101 [a,b]
def Ag:=cI λa=>eU 103 [a]
def DO:=cS λa=>cI λb=>ahe 104 [a,b]
def Dx:=cI λa=>dc 105 [a]
def zE:=cP λa=>cI λb=>eU 106 [a,b]
def wS:=cP λa=>cI λb=>mC 107 [a,b]
def Du:=tB λa=>FQ 110 [a]
def Ac:=cS λa=>kE 111 [a]
def DF:=cS λa=>cI λb=>eU 113 [a,b]
def qx:=cP λa=>cI λb=>Of 114 [a,b]
def Af:=vD λa=>cI λb=>ahd 115 [a,b]
def Dm:=cS λa=>kE 116 [a]
def DM:=cS λa=>Of 117 [a]
def DL:=vD λa=>cP λb=>Of 118 [a,b]
def wU:=vD λa=>cI λb=>cI λc=>eU 119 [a,b,c]
def wT:=vD λa=>cI λb=>cI λc=>kE 120 [a,b,c]
def JL:=cP λa=>dc 137 [a]
def JK:=cP λa=>oH 138 [a]
def JJ:=cP λa=>mY 139 [a]
def zW:=cP λa=>iE λb=>dc 140 [a,b]
def JI:=cP λa=>dc 141 [a]
def Da:=cP λa=>dc 142 [a]
def dY:=cP λa=>cS λb=>oH 143 [a,b]
def mL:=cP λa=>mY 144 [a]
def jB:=cP λa=>cB λb=>dc 145 [a,b]
def iM:=cP λa=>cI λb=>dc 146 [a,b]
def JH:=cD λa=>cD λb=>cD λc=>mC 147 [a,b,c]
def JG:=cP λa=>oH 148 [a]
def JF:=cP λa=>mY 149 [a]
def zV:=cP λa=>iE λb=>dc 150 [a,b]
def C9:=cP λa=>dc 151 [a]
def mK:=cP λa=>kE 152 [a]
def kS:=cS λa=>cI λb=>kE 153 [a,b]
def tZ:=cS λa=>kE 154 [a]
def JE:=cD λa=>cD λb=>cD λc=>cD λd=>mC 155 [a,b,c,d]
def JD:=cP λa=>oH 156 [a]
def JC:=cP λa=>mY 157 [a]
def zU:=cP λa=>iE λb=>dc 158 [a,b]
def C8:=cP λa=>dc 159 [a]
def JB:=cD λa=>cD λb=>cD λc=>cD λd=>mC 160 [a,b,c,d]
def JA:=cP λa=>oH 161 [a]
def Jz:=cP λa=>mY 162 [a]
def zT:=cP λa=>iE λb=>dc 163 [a,b]
def C7:=cP λa=>dc 164 [a]
def Jy:=cD λa=>cD λb=>mC 165 [a,b]
def Jw:=cP λa=>oH 166 [a]
def Jv:=cP λa=>mY 167 [a]
def zS:=cP λa=>iE λb=>dc 168 [a,b]
def C6:=cP λa=>dc 169 [a]
def zR:=cS λa=>kE 170 [a]
def zP:=cS λa=>mY 171 [a]
def Ju:=cD λa=>cD λb=>mC 172 [a,b]
def ua:=cS λa=>dc 173 [a]
def Jt:=cD λa=>mC 174 [a]
def Js:=cP λa=>oH 175 [a]
def Jr:=cP λa=>mY 176 [a]
def zO:=cP λa=>iE λb=>dc 177 [a,b]
def C5:=cP λa=>dc 178 [a]
def Jq:=cD λa=>cD λb=>cD λc=>cD λd=>mC 179 [a,b,c,d]
def zN:=cP λa=>cI λb=>cA λc=>dc 180 [a,b,c]
def Jp:=cA λa=>cD λb=>dc 181 [a,b]
def Jo:=cP λa=>oH 182 [a]
def Jn:=cP λa=>mY 183 [a]
def zM:=cP λa=>iE λb=>dc 184 [a,b]
def C4:=cP λa=>dc 185 [a]
def qu:=cI λa=>dc 186 [a]
def Jm:=cD λa=>cD λb=>cD λc=>cD λd=>cD λe=>mC 187 [a,b,c,d,e]
def wM:=iE λa=>Og 188 [a]
def C3:=cP λa=>iE λb=>dc 189 [a,b]
def zL:=cP λa=>dc 190 [a]
def qt:=iE λa=>FR 191 [a]
def uc:=iE λa=>dc 192 [a]
def zK:=cP λa=>iE λb=>mC 193 [a,b]
def wL:=iE λa=>iE λb=>eU 194 [a,b]
def wK (hv:PA) (c:Int) (h:Hp) (K:dR) (Kp:PK):=cr Tryz.prog 195 [(.pointer hv),(.int .u8 c)] h (xQ gz K) Kp
def wJ (hv:PA) (x:Int) (h:Hp) (K:dR) (Kp:PK):=cr Tryz.prog 196 [(.pointer hv),(.int .u64 x)] h (xQ gz K) Kp
def Jl:=cP λa=>oH 197 [a]
def Jk:=cP λa=>mY 198 [a]
def zJ:=cP λa=>iE λb=>dc 199 [a,b]
def C2:=cP λa=>dc 200 [a]
def Jj:=cD λa=>cD λb=>cD λc=>cD λd=>cD λe=>cD λf=>mC 201 [a,b,c,d,e,f]
def Ji:=cP λa=>oH 202 [a]
def Jh:=cP λa=>mY 203 [a]
def zI:=cP λa=>iE λb=>dc 204 [a,b]
def Jg:=cP λa=>dc 205 [a]
def C1:=cS λa=>cI λb=>kE 206 [a,b]
def Jf:=cD λa=>cD λb=>cD λc=>mC 207 [a,b,c]
def Dt:=vD λa=>cI λb=>cI λc=>ahb 212 [a,b,c]
def DU:=vD λa=>cI λb=>cI λc=>ahc 213 [a,b,c]
def ue:=vD λa=>cI λb=>cI λc=>aha 214 [a,b,c]
def ud:=cI λa=>eU 215 [a]
def DE:=cS λa=>Og 216 [a]
def Ds:=cP λa=>cI λb=>cI λc=>dc 223 [a,b,c]
def Dr (a:PA) (r:Int) (left:PA) (h:Hp) (K:m7) (Kp:PK):=cr Tryz.prog 226 [(.agg #[]),(.pointer a),(.int .i64 r),(.pointer left)] h (xQ qK K) Kp
section
variable {a b c d e f g i j k l m ja jb jc jd je jg jh jk:Int} {n o p q r s t u v w qa qb qc qd qe qf qg qh:Addr} {A B C D E F G sa sb sc sd se sf sg sh:Sl} {P Q R S T U:PA} {x y z ya yb yc yd ye yf:Bool} {V W X wa wb wc wd we wf:BA} {Y Z va vb vc vd ve vf:Value} {M O:Option Nat} {h:Hp} {Kp:PK} {N1 N2 N3:Fr->HP}
noncomputable def jS:=mc Tryz.prog Tryz.f3 [(2000004,[1,2,3,8,9]),(2000007,[1,2,3,8,9]),(2000012,[1,2,3,8,9,12]),(2000014,[1,2,3,8,9,12]),(2000015,[1,2,3,8,9,12,13,14]),(2000016,[1,2,8,9,12,13,14,16,17]),(2000018,[1,2,8,9,12,13,16]),(2000023,[1,2,8,9,12,13,16]),(2000025,[2,13,16]),(2000026,[2,13,16,17,19]),(2000027,[2,13,16,17,19,21]),(67007,[2,16,21,147]),(67011,[2,16,151]),(67017,[2,16,157]),(63007,[1,2,8,9,13,16,114]),(2019,[1,2,8,9,12,13,16,18]),(56006,[1,2,8,9,12,13,16,84])] [(14,(OT.l [0,1,2,3] (.alt (OT.l (List.range' 4 9) .fin) (OT.l [9,4,5,6,7,8,10,11,12] .fin))),[0,0,0,6,15,31,63,63,63,0,639,1791,4095])] cJ
def CB:=rK jS 13 65534 [tI, .p, .b]
def CC:=rK jS 12 65534 [tI, .p, .b]
def CD:=rK jS 11 65534 [tI, .p,tI, .b]
def IT:=jK jS 10 32767 [tI, .d, .p,tI, .d,tI]
def IU:=jK jS 9 16383 [tI, .d, .p,tI, .d]
def yW:=jK jS 8 8191 [tI, .d, .p]
def wA:=rK jS 14 16380 [.s,tI,tI,tI, .d, .p, .b]
def IP:=jK jS 7 4095 [.s,tI,tI,tI,tI, .d, .p]
abbrev Mw (x1:Sl) (x2 x8 x9 gN:Int) (fj:Addr) (fh:PA) (Km:Int):Fr:=(fg [(1,vS x1),(0,vI x2),(5,vI x8),(0,vI x9),(2,vI gN),(0,vP fj),(2,vp fh),(1,vI Km)] 145)
def HO (K:aX) (Kp:PK) (x1:Sl) (x2 x8 x9 gN:Int) (fj:Addr) (fh:PA) (Km:Int):=lQ (jS K Kp) 2019 16378 [] (Mw x1 x2 x8 x9 gN fj fh Km)
def IQ:=jK jS 6 2047 [.s,tI,tI,tI,tI, .d, .p]
def CA:=rK jS 16 4092 [.s,tI,tI,tI,tI, .d, .p, .b]
def IS:=jK jS 5 1023 [.s,tI,tI,tI,tI, .d,tI, .p,tI]
def yX:=jK jS 4 511 [.s,tI, .d,tI,tI,tI, .d,tI]
def wv:=jK jS 3 255 [.s,tI, .d,tI,tI,tI]
def yY:=jK jS 2 127 [.s,tI, .d,tI,tI,tI]
def Cz:=jK jS 1 31 [.s,tI, .d,tI,tI]
def wC:=jK jS 0 15 [.s,tI, .d,tI,tI]
theorem CB.of {K:aX} (H :
 If x (wQ P h (λb c=>K (b == a) c) Kp) (K false h)) :
 CB K Kp a P x h:=jf H
theorem CC.of {K:aX} (H :
 If x (qw P false 0 (bs []) (⟨none,0,0⟩:Sl) h (λb c=>CB K Kp a P (b == 9) c) Kp) (CB K Kp a P false h)) :
 CC K Kp a P x h:=jf H
theorem CD.of {K:aX} (H :
 If x (CC K Kp a P (b == 9) h) (CC K Kp a P false h)) :
 CD K Kp a P b x h:=jf H
theorem IT.of {K:aX} (H :
 If (b == 0) (bq h o λb d e f g i=>bq h n λj k l m n p=>Ab b d e f g i j k l m n p h (λb d=>CD K Kp a P c b d) Kp) (CD K Kp a P c false h)) :
 IT K Kp a n P b o c h:=jf H
theorem IU.of {K:aX} (H :
 rZ P h (λc d e f g i j k=>aD k bS bG λk l=>bw l k c d e f g i λc=>IT K Kp a n P b o j c) Kp) :
 IU K Kp a n P b o h:=jf H
theorem yW.of {K:aX} (H :
 rZ P h (λb c d e f g i j=>aD j bS bG λj k=>bw k j b c d e f g λb=>IU K Kp a n P i j b) Kp) :
 yW K Kp a n P h:=jf H
theorem wA.of {K:aX} (H :
 If x (Ix A.a A.n 4 c λc=>aQ h c λc d e f=>qw P c d e f h (λc d=>If (c != b) (K false d) (wQ P d (λb c=>If (b != a) (K false c) (yW K Kp a n P c)) Kp)) Kp) (yW K Kp a n P h)) :
 wA K Kp A a b c n P x h:=jf H
theorem IP.of {K:aX} (H :
 If (a == d) (wA K Kp A a b c n P (b != 0) h) (wA K Kp A a b c n P false h)) :
 IP K Kp A a b c d n P h:=jf H
theorem HO.bB {K:aX}:eG (HO K Kp A a b c d n P) (Mw A a b c d n P) λe f g=>(If (decide (f < a)) (Ix A.a A.n 4 f λi=>aQ g i λi j k l=>qw P i j k l g (λg i=>If (g != 0) (K false i) (wQ P i (λg i=>Wr .i64 (f+1) λj=>If (g != j) (K false i) (Wr .i64 (f+1) λf=>e (Mw A a b c d n P f) i)) Kp)) Kp) (IP K Kp A a b c d n P g)):=eH
theorem IQ.of {K:aX} (H :
 HO K Kp A a b c d n P 0 h) :
 IQ K Kp A a b c d n P h:=jf H
theorem CA.of {K:aX} (H :
 If x (K false h) (If (Option.isNone P) (K false h) (IQ K Kp A a b c d n P h))) :
 CA K Kp A a b c d n P x h:=jf H
theorem IS.of {K:aX} (H :
 If (e != 0) (CA K Kp A a b c d n P true h) (CA K Kp A a b c d n P (f != 0) h)) :
 IS K Kp A a b c d n e P f h:=jf H
theorem yX.of {K:aX} (H :
 aN h n λf g i j k l m=>r6 f g i j k l m h (λf g i=>IS K Kp A a b c d o e f g i) Kp) :
 yX K Kp A a n b c d o e h:=jf H
theorem wv.of {K:aX} (H :
 aN h n λe f g i j k l=>gp A 4 none (some a) none λm=>(lW e f g i j k l m h (λe f g i j k l _ m=>aD m bS bG λp q=>aO m q n 7 <|bw q p e f g i j k λe=>yX K Kp A a n b c d p l e) Kp)/\(aD h bS bG λp q=>aO h q n 7 <|lW e f g i j k l m q (λe f g i j k l _ m=>bw m p e f g i j k λe=>yX K Kp A a n b c d p l e) Kp)) :
 wv K Kp A a n b c d h:=jf H
theorem yY.of {K:aX} (H :
 If (decide (a < 0)) (wv K Kp A d n b c d h) (If (decide (a > d)) (wv K Kp A d n b c d h) (wv K Kp A a n b c d h))) :
 yY K Kp A a n b c d h:=jf H
theorem Cz.of {K:aX} (H :
 If (b != 0) (If (decide (c < 0)) (K false h) (If (decide (c>=(A.n:Int))) (K false h) (yY K Kp A a n b c c h))) (yY K Kp A a n b c (A.n:Int) h)) :
 Cz K Kp A a n b c h:=jf H
theorem wC.of {K:aX} (H :
 If (b == 5) (aN h n λa b c d e f g=>r6 a b c d e f g h (λa b c=>If (Option.isNone a) (K (b == 5) c) (K false c)) Kp) (Cz K Kp A a n b c h)) :
 wC K Kp A a n b c h:=jf H
theorem JM.of {K:aX} (H :
 fu h V x a b c d A λa b=>Dk  b (λb c=>If (!b) (K false c) (aN c a λb d f g i j k=>lW b d f g i j k B c (λb c d f g i j k l=>aD l bS bG λl m=>bw m l b c d f g i λb=>wC K Kp B e a j k b) Kp)) Kp) :
 JM V x a b c d A B e h K Kp:=bU (jS K Kp) cJ K Tryz.func3 H
noncomputable def pP:=mc Tryz.prog Tryz.f4 [(2000003,[1,2,3]),(2000004,[1,2,3,6,7]),(44007,[1,2,6,7,34]),(44012,[1,2,6,7,39]),(44018,[1,2,6,7,45]),(44026,[1,2,6,7,53]),(44034,[1,2,6,7,61]),(44038,[1,2,7,65]),(44042,[1,2,69])] [] cJ
def Cp:=rK pP 8 62 [.d, .d, .b]
def Cq:=rK pP 7 62 [.d, .d,tI, .b]
def Cr:=rK pP 6 62 [.d, .d,tI,tI, .b]
def Ct:=rK pP 5 62 [.d, .d,tI,tI, .b]
def Cv:=rK pP 4 62 [.d, .d,tI,tI, .b]
def Cw:=rK pP 3 62 [.d, .d,tI,tI, .b]
def Cy:=rK pP 2 62 [.d, .d,tI,tI, .b]
def IM:=jK pP 1 31 [.d, .d,tI,tI,tI]
def IN:=jK pP 0 15 [.d, .d,tI]
theorem Cp.of {K:aX} (H :
 If x (aN h n λa b c d e f g=>bq h o λi j k l m n=>Di a b c d e f g i j k l m n h (λa b=>K a b) Kp) (K false h)) :
 Cp K Kp n o x h:=jf H
theorem Cq.of {K:aX} (H :
 If x (Cp K Kp n o (a == 1) h) (Cp K Kp n o false h)) :
 Cq K Kp n o a x h:=jf H
theorem Cr.of {K:aX} (H :
 If x (Cq K Kp n o b (a == 7) h) (Cq K Kp n o b false h)) :
 Cr K Kp n o a b x h:=jf H
theorem Ct.of {K:aX} (H :
 If x (Ld h (o.add 3) Sl.v λc=>Ix c.a c.n 1 1 λc=>Ld h c Sl.v λc=>nZ h c λc=>Cr K Kp n o a b (c.toList == (bs [254,255,0,0]).toList) h) (Cr K Kp n o a b false h)) :
 Ct K Kp n o a b x h:=jf H
theorem Cv.of {K:aX} (H :
 If x (Ld h (o.add 3) Sl.v λc=>Ix c.a c.n 1 0 λc=>Ld h c Sl.v λc=>nZ h c λc=>Ct K Kp n o a b (c.toList == (bs [1]).toList) h) (Ct K Kp n o a b false h)) :
 Cv K Kp n o a b x h:=jf H
theorem Cw.of {K:aX} (H :
 If x (Ld h (o.add 3) Sl.v λc=>Cv K Kp n o a b ((c.n:Int) == 2) h) (Cv K Kp n o a b false h)) :
 Cw K Kp n o a b x h:=jf H
theorem Cy.of {K:aX} (H :
 If x (Ld h (o.add 2) mI λc=>Cw K Kp n o a b (c == 1) h) (Cw K Kp n o a b false h)) :
 Cy K Kp n o a b x h:=jf H
theorem IM.of {K:aX} (H :
 If (a == 0) (Ld h o mI λa=>Cy K Kp n o b c (a == 2) h) (Cy K Kp n o b c false h)) :
 IM K Kp n o a b c h:=jf H
theorem IN.of {K:aX} (H :
 aN h n λb c d e f g i=>aD h #[(.bool false),(.int .i64 1),(.string (bs [])),(.slice none 0 0),(.bool false),(.int .i64 40000),(.string (bs [])),(.slice none 0 0)] bW λj k=>lW b c d e f g i (⟨some j,2,2⟩:Sl) k (λb c d e f g i j k=>aD k bS bG λk l=>bw l k b c d e f g λb=>IM K Kp n o a i j b) Kp) :
 IN K Kp n o a h:=jf H
theorem Dk.of {K:aX} (H :
 aD h kT fP λa b=>dW b a (bs [97]) true 4 0 0 0 (⟨none,0,0⟩:Sl) λb=>aN b a λc d e f g i j=>aD b #[(.bool false),(.int .i64 (-2)),(.string (bs [])),(.slice none 0 0),(.bool true),(.int .i64 0),(.string (bs [])),(.slice none 0 0)] bW λb k=>lW c d e f g i j (⟨some b,2,2⟩:Sl) k (λb c d e f g i _ j=>aD j bS bG λj k=>bw k j b c d e f g λb=>IN K Kp a j i b) Kp) :
 Dk  h K Kp:=bU (pP K Kp) cJ K Tryz.func4 H
noncomputable def OH:=mc Tryz.prog Tryz.f5 [(2000011,[4,7]),(2005,[4,7,23,24,25])] [] Lz
def IL:=jK OH 0 31 [.d, .p]
abbrev Mv (x4:Addr) (x7:PA) (kU:Sl) (lE gf:Int):Fr:=(fg [(4,vP x4),(2,vp x7),(15,vS kU),(0,vI lE),(0,vI gf)] 19)
def HN (K:B1) (Kp:PK) (x4:Addr) (x7:PA) (kU:Sl) (lE gf:Int):=lQ (OH K Kp) 2005 122 [] (Mv x4 x7 kU lE gf)
theorem IL.of {K:B1} (H :
 rZ P h (λa b c d e f _ g=>aD g bS bG λg i=>bw i g a b c d e f λa=>bq a g λb c d e f g=>bw a n b c d e f g λa=>bq a n λb c d e f g=>K b c d e f g 0 0 a) Kp) :
 IL K Kp n P h:=jf H
theorem HN.bB {K:B1}:eG (HN K Kp n P A a) (Mv n P A a) λb c d=>(If (decide (c < a)) (Ix A.a A.n 4 c λe=>aQ d e λe f g i=>aD d dO bW λd j=>bV j d e f g i λe=>aQ e d λd f g i=>qw P d f g i e (λd e=>If (d != 0) (bw e n 0 0 0 (⟨none,0,0⟩:Sl) (⟨none,0,0⟩:Sl) (⟨none,0,0⟩:Sl) λa=>bq a n λb e f g i j=>K b e f g i j d c a) (Wr .i64 (c+1) λc=>b (Mv n P A a c) e)) Kp) (IL K Kp n P d)):=eH
theorem lW.of {K:B1} (H :
 fu h V x a b c d A λa b=>aD b bS bG λb c=>aN c a λa d e f g i j=>r6 a d e f g i j c (λa c d=>If (c != 0) (bw d b 0 0 0 (⟨none,0,0⟩:Sl) (⟨none,0,0⟩:Sl) (⟨none,0,0⟩:Sl) λa=>bq a b λb d e f g i=>K b d e f g i c 0 a) (HN K Kp b a B (B.n:Int) 0 d)) Kp) :
 lW V x a b c d A B h K Kp:=bU (OH K Kp) Lz K Tryz.func5 H
theorem r6.of {K:WW} (H :
 fu h V x a b c d A λa b=>aN b a λc d e f g i j=>wP c d e f g i j b (λb c=>If (!b) (K none 5 c) (aN c a λa b d e f g i=>zY a b d e f g i c (λa b c d e f g i=>aD i kT fP λi j=>dW j i a b c d e f g λa=>aN a i λb c d e f g j=>aN a i λk l m n p q r=>zX k l m n p q r a (λk l=>aO a l i 7 <|NA k <|ak7 l b c d e f g j k false λa b=>K (some a) 0 b) Kp) Kp)) Kp) :
 r6 V x a b c d A h K Kp:=jt [] [(4,(OT.l [0,1,2,3,4,5,6] .fin),[0,0,2,7,15,31,63])] RU K Tryz.func6 H
theorem qw.of {K:bP} (H :
 iJ h x a V A λa b=>NN P λc=>Ld b (c.add 8) .bool λc=>If c (K 9 b) (NN P λc=>aN b c λc d e f g i j=>aQ b a λk l m n=>Dh c d e f g i j k l m n b (λb c=>If (b != 0) (K b c) (aQ c a λa b d e=>Dg P a b d e c (λa b=>K a b) Kp)) Kp)) :
 qw P x a V A h K Kp:=jt [] [(3,(OT.l [0,1,2,3,4,5,6] .fin),[0,1,3,7,0,31,63])] cy K Tryz.func7 H
theorem wQ.of {K:bP} (H :
 NN P λa=>Ld h (a.add 7) id λa=>cL Tryz.prog a "colonnade/build.count" [] h (λa b=>∃c:Int,a=(.int .i64 c)/\(K c b)) Kp) :
 wQ P h K Kp:=ck cy K Tryz.func8 H
theorem rZ.of {K:Pj} (H :
 aD h bS bG λa b=>NN P λc=>Ld b (c.add 8) .bool λc=>If c (bw b a 0 0 0 (⟨none,0,0⟩:Sl) (⟨none,0,0⟩:Sl) (⟨none,0,0⟩:Sl) λb=>bq b a λa c d e f g=>K a c d e f g 9 b) (NN P λc=>St b (c.add 8) (.bool true) λb=>NN P λc=>Ld b (c.add 7) id λc=>cL Tryz.prog c "colonnade/build.done" [] b (λb c=>∃d:Int,∃e:Int,∃f:Int,∃g:Sl,∃i:Sl,∃j:Sl,b=(.agg #[(.int .i64 d),(.int .i64 e),(.int .i64 f),(Sl.v g),(Sl.v i),(Sl.v j)])/\(bw c a d e f g i j λb=>bq b a λa c d e f g=>K a c d e f g 0 b)) Kp)) :
 rZ P h K Kp:=ck Lu K Tryz.func9 H
noncomputable def yu:=mc Tryz.prog Tryz.f10 [(2000003,[2,3]),(2000008,[2,3]),(2004,[2,3,5]),(41012,[2,3,17]),(41019,[2,3,24])] [(6,(OT.l [0,1,2,3,4,6,7,8,9,10] (.alt (OT.l [5,11,12] .fin) (OT.l [11,5,12] .fin))),[0,1,0,7,15,31,0,64,0,448,960,1984,4095])] cJ
def IJ:=jK yu 1 15 [.d, .d]
abbrev A7 (x2 x3:Addr) (x5:Int):Fr:=([nO,nO,vP x2,vP x3,nO,vI x5]++nn 60)
def HM (K:aX) (Kp:PK) (x2 x3:Addr) (x5:Int):=lQ (yu K Kp) 2004 58 [] (A7 x2 x3 x5)
def IK:=jK yu 0 7 [.d, .d]
def Cn:=rK yu 4 12 [.d, .d, .b]
def Co:=rK yu 3 12 [.d, .d, .b]
theorem IJ.of {K:aX} (H :
 Ld h (n.add 4) Sl.v λa=>Ld h (o.add 4) Sl.v λb=>Aa a b h (λa b=>If a (Ld b (n.add 5) Sl.v λa=>Ld b (o.add 5) Sl.v λc=>Aa a c b (λa b=>K a b) Kp) (K false b)) Kp) :
 IJ K Kp n o h:=jf H
theorem HM.bB {K:aX}:eG (HM K Kp n o) (A7 n o) λa b c=>(Ld c (n.add 3) Sl.v λd=>If (decide (b < (d.n:Int))) (Ld c (n.add 3) Sl.v λd=>Ix d.a d.n 1 b λd=>Ld c d Sl.v λe=>Ld c (o.add 3) Sl.v λf=>Ix f.a f.n 1 b λf=>Ld c f Sl.v λg=>(nZ c e λe=>aO c c f 1 <|aO c c (o.add 3) 1 <|nZ c g λf=>aO c c d 1 <|aO c c (n.add 3) 1 <|If (!(e.toList == f.toList)) (K false c) (Wr .i64 (b+1) λb=>a (A7 n o b) c))/\(nZ c g λg=>aO c c d 1 <|aO c c (n.add 3) 1 <|nZ c e λd=>aO c c f 1 <|aO c c (o.add 3) 1 <|If (!(d.toList == g.toList)) (K false c) (Wr .i64 (b+1) λb=>a (A7 n o b) c))) (IJ K Kp n o c)):=eH
theorem IK.of {K:aX} (H :
 HM K Kp n o 0 h) :
 IK K Kp n o h:=jf H
theorem Cn.of {K:aX} (H :
 If x (K false h) (Ld h (n.add 3) Sl.v λa=>Ld h (o.add 3) Sl.v λb=>If ((a.n:Int) != (b.n:Int)) (K false h) (IK K Kp n o h))) :
 Cn K Kp n o x h:=jf H
theorem Co.of {K:aX} (H :
 If x (Cn K Kp n o true h) (Ld h (n.add 2) mI λa=>Ld h (o.add 2) mI λb=>Cn K Kp n o (a != b) h)) :
 Co K Kp n o x h:=jf H
theorem Ab.of {K:aX} (H :
 jX h a b c A B C λa b=>jX b d e f D E F λb c=>Ld c a mI λd=>Ld c b mI λe=>If (d != e) (Co K Kp a b true c) (Ld c (a.add 1) mI λd=>Ld c (b.add 1) mI λe=>Co K Kp a b (d != e) c)) :
 Ab a b c A B C d e f D E F h K Kp:=bU (yu K Kp) cJ K Tryz.func10 H
theorem Di.of {K:aX} (H :
 fu h V x a b c d A λa b=>jX b e f g B C D λb c=>aN c a λa d e f g i j=>bq c b λk l m n p q=>Dj a d e f g i j k l m n p q c (λa c d e f g i j=>aD j bS bG λj k=>bw k j a c d e f g λa=>If (i == 0) (bq a j λc d e f g i=>bq a b λb j k l m n=>zZ c d e f g i b j k l m n a (λa b=>K a b) Kp) (K false a)) Kp) :
 Di V x a b c d A e f g B C D h K Kp:=ck cJ K Tryz.func11 H
theorem wP.of {K:aX} (H :
 fu h V x a b c d A λa b=>aN b a λa c d e f g i=>tY a c d e f g i b (λa _ _ b=>K (a == 0) b) Kp) :
 wP V x a b c d A h K Kp:=ck cJ K Tryz.func12 H
noncomputable def VH:=mc Tryz.prog Tryz.f13 [(2003,[1,2,3,8,9,10])] [] xx
abbrev Mt (x1 x2:Addr) (x8:Sl) (x9:Int) (x3:Sl) (lG:Int):Fr:=([nO,vP x1,vP x2,vS x3,nO,nO,nO,nO,vS x8,vI x9,vI lG]++nn 13)
def HK (K:tK) (Kp:PK) (x1 x2:Addr) (x8:Sl) (x9:Int) (x3:Sl) (lG:Int):=lQ (VH K Kp) 2003 58 [] (Mt x1 x2 x8 x9 x3 lG)
theorem HK.bB {K:tK}:iK (HK K Kp n o A a) (Mt n o A a) λb c d e=>(If (decide (d < a)) (Ix A.a A.n 7 d λf=>aN e f λf g i j k l m=>aD e kT fP λe p=>dW p e f g i j k l m λf=>aN f e λe g i j k l m=>zY e g i j k l m f (λe f g i j k l m=>aD m #[(.string e),(.bool f),(.int .i64 g),(.int .i64 i),(.int .i64 j),(.int .i64 k),(Sl.v l)] fP λe f=>Ap f fP kT 7 80 c 1 (rd f (some e) (1*7)) λc e=>Wr .i64 (d+1) λd=>b (Mt n o A a c d) e) Kp) (St e ((n.add 2).add 4) (Sl.v c) λa=>aN a n λb c d e f g i=>dW a o b c d e f g i λa=>aN a o λb c d e f g i=>K b c d e f g i a)):=iV
theorem zY.of {K:tK} (H :
 fu h V x a b c d A λa b=>aD b kT fP λb c=>Ld c ((a.add 2).add 4) Sl.v λd=>HK K Kp a b d (d.n:Int) (⟨none,0,0⟩:Sl) 0 c) :
 zY V x a b c d A h K Kp:=bU (VH K Kp) xx K Tryz.func13 H
noncomputable def Gq:=mc Tryz.prog Tryz.f14 [(2000008,[1,3,4]),(4200013,[3,4,7,34]),(2004,[1,3,4,12,13,14])] [(14,(OT.l [0,2,3,4,1,5,6,7,8] .fin),[0,0,0,4,12,31,63,127,255]),(16,(OT.l (List.range' 0 8) .fin),[0,0,2,6,15,31,63,127]),(22,(OT.l (List.range' 0 9) .fin),[0,0,2,6,0,31,63,127,255]),(24,(OT.l (List.range' 0 8) .fin),[0,0,2,6,15,31,63,127])] AT
def yV:=jK Gq 1 2007 [.d, .s,tI, .b]
def II:=jK Gq 0 31 [.d, .d, .s]
abbrev Ms (x1 x3:Addr) (gN:Sl) (fj:Int) (x4:Sl) (eu:Int):Fr:=(fg [(1,vP x1),(1,vP x3),(0,vS x4),(7,vS gN),(0,vI fj),(0,vI eu)] 93)
def HJ (K:rJ) (Kp:PK) (x1 x3:Addr) (gN:Sl) (fj:Int) (x4:Sl) (eu:Int):=lQ (Gq K Kp) 2004 122 [] (Ms x1 x3 gN fj x4 eu)
theorem yV.of {K:rJ} (H :
 If x (fZ h n λa b c d e f g i j k l m n p q r=>aD h #[(.int .i64 0)] Y6 λs t=>ak5 t a b c d e f g i j k l m n p q r (⟨some s,1,1⟩:Sl) (⟨none,0,0⟩:Sl) λa b=>K (.iface jV (.pointer (some a))) b) (If (a == 15) (fZ h n λa b c d e f g i j k l m p q r s=>Ix A.a A.n 1 0 λt=>Ld h t id λu=>aD h #[(.int .i64 0)] Y6 λv w=>aO h w t 1 <|aO h w n 16 <|NA u <|ak4 w a b c d e f g i j k l m p q r s (⟨some v,1,1⟩:Sl) u λa b=>K (.iface jU (.pointer (some a))) b) (If (a == 16) (fZ h n λa b c d e f g i j k l m n p q r=>Ix A.a A.n 1 0 λs=>Ld h s id λs=>NA s <|ak3 h a b c d e f g i j k l m n p q r s λa b=>K (.iface jy (.pointer (some a))) b) (If (a == 17) (fZ h n λa b c d e f g i j k l m n p q r=>ak2 h a b c d e f g i j k l m n p q r A λa b=>K (.iface jw (.pointer (some a))) b) (If (a == 18) (fZ h n λa b c d e f g i j k l m n p q r=>ak1 h a b c d e f g i j k l m n p q r (⟨none,0,0⟩:Sl) (⟨none,0,0⟩:Sl) A λa b=>K (.iface kH (.pointer (some a))) b) (If (a == 19) (fZ h n λa b c d e f g i j k l m p q r s=>Ix A.a A.n 1 0 λt=>Ld h t id λu=>yG h λv w=>aO h w t 1 <|aO h w n 16 <|NA u <|ak0 w a b c d e f g i j k l m p q r s (⟨none,0,0⟩:Sl) u (⟨none,0,0⟩:Sl) (some v) λa b=>K (.iface kG (.pointer (some a))) b) (If (a == 20) (fZ h n λa b c d e f g i j k l m n p q r=>Ix A.a A.n 1 0 λs=>Ld h s id λs=>NA s <|akZ h a b c d e f g i j k l m n p q r (⟨none,0,0⟩:Sl) s false 0 (bs []) (⟨none,0,0⟩:Sl) λa b=>K (.iface jT (.pointer (some a))) b) (fZ h n λa b c d e f g i j k l m n p q r=>akY h a b c d e f g i j k l m n p q r (⟨none,0,0⟩:Sl) (⟨none,0,0⟩:Sl) λa b=>K (.iface kF (.pointer (some a))) b)))))))) :
 yV K Kp n A a x h:=jf H
theorem II.of {K:rJ} (H :
 Ld h (n.add 2) mI λa=>If (a == 1) (fZ h o λa b c d e f g i j k l m n p q r=>ak6 h a b c d e f g i j k l m n p q r λa b=>K (.iface jW (.pointer (some a))) b) (If (a == 12) (yV K Kp o A a true h) (yV K Kp o A a (a == 13) h))) :
 II K Kp n o A h:=jf H
theorem HJ.bB {K:rJ}:iK (HJ K Kp n o A a) (Ms n o A a) λb c d e=>(If (decide (d < a)) (Ix A.a A.n 7 d λf=>aN e f λf g i j k l m=>aD e kT fP λe p=>dW p e f g i j k l m λf=>aN f e λe g i j k l m=>zX e g i j k l m f (λe f=>NA e <|aD f #[e] BX λe f=>Ap f BX #[(.nilIface)] 1 16 c 1 (rd f (some e) (1*1)) λc e=>Wr .i64 (d+1) λd=>b (Ms n o A a c d) e) Kp) (II K Kp n o c e)):=iV
theorem zX.of {K:rJ} (H :
 fu h V x a b c d A λa b=>aN b a λc d e f g i j=>Df c d e f g i j b (λb c d e f g i j k l m n p q r s t=>aD t JW GJ λt u=>mH u t b c d e f g i j k l m n p q r s λb=>Ld b ((a.add 2).add 4) Sl.v λc=>HJ K Kp a t c (c.n:Int) (⟨none,0,0⟩:Sl) 0 b) Kp) :
 zX V x a b c d A h K Kp:=bU (Gq K Kp) AT K Tryz.func14 H
theorem Dh.of {K:bP} (H :
 fu h V x a b c d A λa b=>iJ b y e W B λb c=>aN c a λd e f g i j k=>wO d e f g i j k c (λc d=>If (!c) (K 5 d) (aN d a λa c e f g i j=>aQ d b λb k l m=>De a c e f g i j b k l m d (λa b=>If (!a) (K 7 b) (K 0 b)) Kp)) Kp) :
 Dh V x a b c d A y e W B h K Kp:=ck cy K Tryz.func15 H
noncomputable def VI:=mc Tryz.prog Tryz.f17 [(2004,[0,1,5])] [(6,(OT.l (List.range' 0 10) .fin),[0,0,3,7,0,0,48,112,255,511])] cJ
abbrev Mu (x0 x1:Sl) (x5:Int):Fr:=([vS x0,vS x1,nO,nO,nO,vI x5]++nn 21)
def HL (K:aX) (Kp:PK) (x0 x1:Sl) (x5:Int):=lQ (VI K Kp) 2004 58 [] (Mu x0 x1 x5)
theorem HL.bB {K:aX}:eG (HL K Kp A B) (Mu A B) λa b c=>(If (decide (b < (A.n:Int))) (Ix A.a A.n 6 b λd=>bq c d λd e f g i j=>Ix B.a B.n 6 b λk=>bq c k λk l m n p q=>Ab d e f g i j k l m n p q c (λc d=>If (!c) (K false d) (Wr .i64 (b+1) λb=>a (Mu A B b) d)) Kp) (K true c)):=eH
theorem Aa.of {K:aX} (H :
 If ((A.n:Int) != (B.n:Int)) (K false h) (HL K Kp A B 0 h)) :
 Aa A B h K Kp:=bU (VI K Kp) cJ K Tryz.func17 H
theorem Dj.of {K:Pj} (H :
 fu h V x a b c d A λa b=>jX b e f g B C D λb c=>aD c bS bG λc d=>aN d a λe f g i j k l=>wP e f g i j k l d (λd e=>If (!d) (bw e c 0 0 0 (⟨none,0,0⟩:Sl) (⟨none,0,0⟩:Sl) (⟨none,0,0⟩:Sl) λa=>bq a c λb c d e f g=>K b c d e f g 5 a) (aN e a λd f g i j k l=>bq e b λb m n p q r=>DT d f g i j k l b m n p q r e (λb d e f g=>aD g iy ie λg i=>bX i g d e f λd=>Ld d g mI λe=>If (e != 0) (Ld d g mI λa=>bw d c 0 0 0 (⟨none,0,0⟩:Sl) (⟨none,0,0⟩:Sl) (⟨none,0,0⟩:Sl) λb=>aO d b g 1 <|bq b c λc d e f g i=>K c d e f g i a b) (aN d a λe f g i j k l=>(Ae b d (λb m=>aO d m a 7 <|(lW e f g i j k l b m (λb d e f g i j _ k=>aD k bS bG λl m=>aO k m a 7 <|bw m l b d e f g i λa=>bq a l λb d e f g i=>bw a c b d e f g i λa=>bq a c λb c d e f g=>K b c d e f g j a) Kp)/\(aD m bS bG λd n=>aO m n a 7 <|lW e f g i j k l b n (λa b e f g i j _ k=>bw k d a b e f g i λa=>bq a d λb d e f g i=>bw a c b d e f g i λa=>bq a c λb c d e f g=>K b c d e f g j a) Kp)) Kp)/\(aD d bS bG λm n=>aO d n a 7 <|Ae b n (λb d=>aO n d a 7 <|lW e f g i j k l b d (λa b d e f g i _ j=>bw j m a b d e f g λa=>bq a m λb d e f g j=>bw a c b d e f g j λa=>bq a c λb c d e f g=>K b c d e f g i a) Kp) Kp))) Kp)) Kp) :
 Dj V x a b c d A e f g B C D h K Kp:=jt [] [(5,(OT.l [0,1,2,3,4] .fin),[0,0,2,1,15]),(6,(OT.l [0,1] (.alt (OT.l [2] (.alt (OT.l (List.range' 3 9) .fin) (OT.l [8,3,4,5,6,7,9,10,11] .fin))) (OT.l [8,2,3,4,5,6,7,9,10,11] .fin))),[0,0,2,7,15,31,31,31,0,319,895,2047])] Lu K Tryz.func18 H
noncomputable def BM:=mc Tryz.prog Tryz.f19 [(41012,[2,3,16]),(41019,[2,3,23]),(41026,[2,3,30]),(41033,[2,3,37])] [] cJ
def wm:=rK BM 3 6 [.d, .d, .b]
def wo:=rK BM 2 6 [.d, .d, .b]
def wq:=rK BM 1 6 [.d, .d, .b]
def wu:=rK BM 0 6 [.d, .d, .b]
theorem wm.of {K:aX} (H :
 If x (Ld h (n.add 5) Sl.v λa=>Ld h (o.add 5) Sl.v λb=>zH a b (.func (.func Jc) #[] #[]) h (λa b=>K a b) Kp) (K false h)) :
 wm K Kp n o x h:=jf H
theorem wo.of {K:aX} (H :
 If x (Ld h (n.add 4) Sl.v λa=>Ld h (o.add 4) Sl.v λb=>zH a b (.func (.func Jc) #[] #[]) h (λa b=>wm K Kp n o a b) Kp) (wm K Kp n o false h)) :
 wo K Kp n o x h:=jf H
theorem wq.of {K:aX} (H :
 If x (Ld h (n.add 3) Sl.v λa=>Ld h (o.add 3) Sl.v λb=>C0 a b (.func (.func PN) #[] #[]) h (λa b=>wo K Kp n o a b) Kp) (wo K Kp n o false h)) :
 wq K Kp n o x h:=jf H
theorem wu.of {K:aX} (H :
 If x (Ld h (n.add 2) mI λa=>Ld h (o.add 2) mI λb=>wq K Kp n o (a == b) h) (wq K Kp n o false h)) :
 wu K Kp n o x h:=jf H
theorem zZ.of {K:aX} (H :
 jX h a b c A B C λa b=>jX b d e f D E F λb c=>Ld c a mI λd=>Ld c b mI λe=>If (d == e) (Ld c (a.add 1) mI λd=>Ld c (b.add 1) mI λe=>wu K Kp a b (d == e) c) (wu K Kp a b false c)) :
 zZ a b c A B C d e f D E F h K Kp:=bU (BM K Kp) cJ K Tryz.func19 H
theorem tY.of {K:fm} (H :
 fu h V x a b c d A λa b=>aD b iy ie λb c=>aN c a λa d e f g i j=>aD c #[(.string a),(.bool d),(.int .i64 e),(.int .i64 f),(.int .i64 g),(.int .i64 i),(Sl.v j)] fP λa c=>DS (⟨some a,1,1⟩:Sl) (⟨none,0,0⟩:Sl) c (λa c d e=>aD e iy ie λe f=>bX f e a c d λa=>Ld a (e.add 1) Sl.v λc=>If (decide ((c.n:Int) > 0)) (Ld a (e.add 1) Sl.v λc=>gp c 1 (some 1) none none λc=>St a (e.add 1) (Sl.v c) λa=>cv a e λc d e=>bX a b c d e λa=>cv a b λb c d=>K b c d a) (cv a e λc d e=>bX a b c d e λa=>cv a b λb c d=>K b c d a)) Kp) :
 tY V x a b c d A h K Kp:=ck mu K Tryz.func20 H
theorem Df.of {K:WO} (H :
 fu h V x a b c d A λa b=>aD b JW GJ λb c=>aN c a λd e f g i j k=>Dd d e f g i j k c (λc d e f g i=>aD i dO bW λi j=>bV j i c d e f λc=>aN c a λa d e f j k l=>aQ c i λi m n p=>mH c b a d e f j k l 0 0 (⟨none,0,0⟩:Sl) 0 i m n p (g == 0) λa=>fZ a b λb c d e f g i j k l m n p q r s=>K b c d e f g i j k l m n p q r s a) Kp) :
 Df V x a b c d A h K Kp:=ck RN K Tryz.func21 H
theorem wO.of {K:aX} (H :
 fu h V x a b c d A λa b=>aN b a λa c d e f g i=>tY a c d e f g i b (λa _ _ b=>K (a == 0) b) Kp) :
 wO V x a b c d A h K Kp:=ck cJ K Tryz.func22 H
theorem De.of {K:aX} (H :
 fu h V x a b c d A λa b=>iJ b y e W B λb c=>aD c #[(.int .i64 4194304)] mF λc d=>aN d a λa e f g i j k=>aQ d b λb l m n=>qv (some c) a e f g i j k b l m n d (λa b=>K a b) Kp) :
 De V x a b c d A y e W B h K Kp:=ck cJ K Tryz.func23 H
noncomputable def yy:=mc Tryz.prog Tryz.f25 [(2000004,[2,3,5])] [(4,(OT.l [0,2,5,1,3,4,6,7] .fin),[0,1,0,7,15,0,31,127]),(3,(OT.l [0,1,2] .fin),[0,0,3])] Ly
def I3:=jK yy 0 7 [.d, .d, .d]
theorem I3.of {K:Pm} (H :
 aN h n λa b c d e f g=>bq h o λi j k l m n=>zG a b c d e f g h (λa b c d e f g q=>aO h q o 6 <|zF i j k l m n q (λi j k l m n q=>CY a b c d e f g i j k l m n none q (λa b=>bX b p 0 (⟨none,0,0⟩:Sl) 0 λb=>cv b p λc d e=>K a c d e b) Kp) Kp) Kp) :
 I3 K Kp n o p h:=jf H
theorem DT.of {K:Pm} (H :
 fu h V x a b c d A λa b=>jX b e f g B C D λb c=>aD c iy ie λc d=>aN d a λe f g i j k l=>bq d b λm n p q r s=>CZ e f g i j k l m n p q r s d (λd e f g=>aD g iy ie λg i=>bX i g d e f λd=>Ld d g mI λe=>If (e != 0) (cv d g λa b e=>bX d c a b e λa=>cv a c λb c d=>K none b c d a) (I3 K Kp a b c d)) Kp) :
 DT V x a b c d A e f g B C D h K Kp:=bU (yy K Kp) Ly K Tryz.func25 H
section
noncomputable def Ov:Code:=Tryz.f26.body.getD .skip
abbrev JY:=zQ fM
abbrev aev (K:dg):=kQ fM K
def OW:cZ:=[(4003,[2,3,7])]
def LM:pZ:=[(4,(OT.l [0,1,2,3,4,5] (.alt (OT.l [6,7] .fin) (OT.l [7,6] .fin))),[0,0,1,0,15,31,63,31])]
variable (K:dg) (Kp:PK) (lb:Nat) (NB:HP) (XB:Code->HP)
noncomputable def eX:=mc Tryz.prog Tryz.f26 OW LM fM K Kp
def W8 (x2:Sl) (x3:Addr) (x7:Value):HP:=Rm (eX K Kp) [1,1,0,1,0] [] (fg [(2,vS x2),(0,vP x3),(3,some x7)] 9)
variable {K Kp lb NB XB} {x2:Sl} {x3:Addr} {x7:Value} {h:Hp}
def W3 (lb:Nat) (NB:HP) (XB:Code->HP) (x2:Sl) (x3:Addr) (x7:Value) (y8:Int) (Yi:Bool) (Yh:Int) (Yg:BA) (Yf:Sl) (h:Hp):Prop :=
 aD h dO bW λa5 h1=>bV h1 a5 Yi Yh Yg Yf λh2=>P1 lb h h2 λh3=>Ld h3 x3 Sl.v λt10=>aQ h3 a5 λEy Ew Ev Eu=>aD h3 #[(.bool false),(.int .i64 0),(.string (bs [])),(.slice none 0 0)] bW λa13 h4=>aO h3 h4 a5 4 <|aO h3 h4 x3 1 <|Ap h4 bW dO 4 56 t10 1 (rd h4 (some a13) (1*4)) λt14 h5=>Ix t14.a t14.n 4 (t10.n:Int) λO2=>(bV h5 O2 Ey Ew Ev Eu λh6=>St h6 x3 (Sl.v t14) λh7=>NB h7)/\(St h5 x3 (Sl.v t14) λh6=>bV h6 O2 Ey Ew Ev Eu λh7=>NB h7)
def W6 (K:dg) (Kp:PK) (x2:Sl) (x3:Addr) (x7:Value) (h:Hp):Prop :=
 Ld h x3 Sl.v λt16=>K t16 h
theorem Ae.of {a:PA} (H :
 aD h #[(.slice none 0 0)] yB λb c=>Jd a c (λa c=>W8 K Kp (⟨none,0,0⟩:Sl) b a c) Kp) :
 Ae a h K Kp:=bU (eX K Kp) fM K Tryz.func26 H
end
noncomputable def Vo:=mc Tryz.prog Tryz.f27 [(2004,[1,2,15,16,17])] [] cJ
abbrev L0 (x1:Sl) (x2:Value) (dZ:Sl) (fh uw:Int):Fr:=(fg [(1,vS x1),(0,some x2),(12,vS dZ),(0,vI fh),(0,vI uw)] 14)
def GY (K:aX) (Kp:PK) (x1:Sl) (x2:Value) (dZ:Sl) (fh uw:Int):=lQ (Vo K Kp) 2004 58 [] (L0 x1 x2 dZ fh uw)
theorem GY.bB {K:aX}:eG (GY K Kp A Y B a) (L0 A Y B a) λb c d=>(If (decide (c < a)) (Ix B.a B.n 1 c λe=>Ld d e Sl.v λe=>Ix A.a A.n 1 c λf=>Ld d f Sl.v λf=>bJ Tryz.prog Y [(Sl.v e),(Sl.v f)] d (λd e=>∃f:Bool,d=(.bool f)/\(If (!f) (K false e) (Wr .i64 (c+1) λc=>b (L0 A Y B a c) e))) Kp) (K true d)):=eH
theorem C0.of {K:aX} (H :
 If ((A.n:Int) != (B.n:Int)) (K false h) (GY K Kp B Y A (A.n:Int) 0 h)) :
 C0 A B Y h K Kp:=bU (Vo K Kp) cJ K Tryz.func27 H
theorem Je.of {K:aX} (H :
 nZ h A λa=>nZ h B λb=>K (a.toList == b.toList) h) :
 Je A B h K Kp:=ck cJ K Tryz.func28 H
noncomputable def Vn:=mc Tryz.prog Tryz.f29 [(2004,[1,2,15,16,17])] [] cJ
abbrev LZ (x1:Sl) (x2:Value) (dZ:Sl) (fh uw:Int):Fr:=(fg [(1,vS x1),(0,some x2),(12,vS dZ),(0,vI fh),(0,vI uw)] 14)
def GW (K:aX) (Kp:PK) (x1:Sl) (x2:Value) (dZ:Sl) (fh uw:Int):=lQ (Vn K Kp) 2004 58 [] (LZ x1 x2 dZ fh uw)
theorem GW.bB {K:aX}:eG (GW K Kp A Y B a) (LZ A Y B a) λb c d=>(If (decide (c < a)) (Ix B.a B.n 6 c λe=>bq d e λe f g i j k=>aD d bS bG λd l=>bw l d e f g i j k λe=>Ix A.a A.n 6 c λf=>bq e f λf g i j k l=>aD e bS bG λe m=>bw m e f g i j k l λf=>bq f d λd g i j k l=>bq f e λe m n p q r=>bJ Tryz.prog Y [(.agg #[(.int .i64 d),(.int .i64 g),(.int .i64 i),(Sl.v j),(Sl.v k),(Sl.v l)]),(.agg #[(.int .i64 e),(.int .i64 m),(.int .i64 n),(Sl.v p),(Sl.v q),(Sl.v r)])] f (λd e=>∃f:Bool,d=(.bool f)/\(If (!f) (K false e) (Wr .i64 (c+1) λc=>b (LZ A Y B a c) e))) Kp) (K true d)):=eH
theorem zH.of {K:aX} (H :
 If ((A.n:Int) != (B.n:Int)) (K false h) (GW K Kp B Y A (A.n:Int) 0 h)) :
 zH A B Y h K Kp:=bU (Vn K Kp) cJ K Tryz.func29 H
section
noncomputable def Ow:Code:=Tryz.f30.body.getD .skip
def OX:cZ:=[(2000005,[1,2]),(2000011,[1,2]),(4014,[2,5,6,45]),(2006,[1,2,22,23,24])]
def LN:pZ:=[]
variable (K:fm) (Kp:PK) (lb:Nat) (NB:HP) (XB:Code->HP)
noncomputable def BO:=mc Tryz.prog Tryz.f30 OX LN mu K Kp
def B7 (x2 x5 x6:Addr) (ke:Value):HP:=Rm (BO K Kp) [1,1,1,1,1,0,1,0] [] (fg [(2,vP x2),(2,vP x5),(0,vP x6),(38,some ke)] 25)
def I4 (x1 x2:Addr):=jQ (BO K Kp) 1 15 [] [vP x1,vP x2]
abbrev MG (x1 x2:Addr) (qC:Sl) (kU lE:Int):Fr:=(fg [(1,vP x1),(0,vP x2),(19,vS qC),(0,vI kU),(0,vI lE)] 46)
def H9 (x1 x2:Addr) (qC:Sl) (kU lE:Int):=lQ (BO K Kp) 2006 58 [] (MG x1 x2 qC kU lE)
def I5 (x1 x2:Addr):=jQ (BO K Kp) 0 7 [] [vP x1,vP x2]
variable {K Kp lb NB XB} {x1 x2 x5 x6:Addr} {qC:Sl} {kU:Int} {ke:Value} {h:Hp}
def W5 (lb:Nat) (NB:HP) (XB:Code->HP) (x2 x5 x6:Addr) (ke:Value) (Ys Yr:Sl) (Yq:BA) (Yp:Bool) (Yo Yn Ym Yl:Int) (Yk:Sl) (Yj:Bool) (h:Hp):Prop :=
 aD h Ya Pe λa7 h1=>akR h1 a7 Ys Yr Yq Yp Yo Yn Ym Yl Yk Yj λh2=>P1 lb h h2 λh3=>alj h3 a7 λZU ZT ZS ZR ZQ ZP ZO ZN ZM ZL=>Ld h3 x5 mI λt48=>Ld h3 x6 .map λt49=>DK ZU ZT ZS ZR ZQ ZP ZO ZN ZM ZL t48 t49 h3 (λt50 h4=>If (t50 != 0) (Ld h4 a7 Sl.v λt55=>bX h4 x2 t50 t55 0 λh5=>XB .ret h5) (Ld h4 x5 mI λt57=>Wr .i64 (t57+1) λt58=>St h4 x5 (.int .i64 t58) λh5=>Ld h5 ((a7.add 2).add 2) mI λt62=>If (t62 == 19) (Ld h5 x6 .map λt64=>Ld h5 (((a7.add 2).add 2).add 2) mI λt68=>Ld h5 x5 mI λt69=>Up h5 t64 (.int .i64) (.int .i64 t68) (.int .i64 t69) λh6=>NB h6) (NB h5))) kN
def W7 (K:fm) (Kp:PK) (x2 x5 x6:Addr) (ke:Value) (h:Hp):Prop :=
 bX h x2 0 (⟨none,0,0⟩:Sl) 0 λh1=>cv h1 x2 λpE pz pq=>K pE pz pq h1
def W2 (K:fm) (Kp:PK) (x2 x5 x6:Addr) (ke:Value) (h:Hp):Prop :=
 cv h x2 λpE pz pq=>K pE pz pq h
theorem B7.bB {x2 x5 x6:Addr} {ke:Value} {K:fm} {Kp:PK} {h:Hp} {α:Type} {xs:List α} (E:α->Sl->Sl->BA->Bool->Int->Int->Int->Int->Sl->Bool->Prop) {nP:Hp->Prop} (pL:PL Tryz.prog ke xs (λy args=>∃y0 y1 y2 y3 y4 y5 y6 y7 y8 y9,args=[(.agg #[(Sl.v y0),(Sl.v y1),(.string y2),(.bool y3),(.int .i64 y4),(.int .i64 y5),(.int .i64 y6),(.int .i64 y7),(Sl.v y8),(.bool y9)])]/\E y y0 y1 y2 y3 y4 y5 y6 y7 y8 y9) nP) (I:List α->Hp->Prop) (wI:List α->Hp->Prop) (h0:I [] h)
 (hG:∀pre h1 h2,ah h1 h2->I pre h1->I pre h2) (hI:∀l pre h1 h2,h.size<=l->Tw l h1 h2->I pre h1->I pre h2) (q9:∀pre h1,I pre h1->nP h1) (agh:∀pre h1 h2,ah h1 h2->wI pre h1->wI pre h2) (agf:∀l pre h1 h2,h.size<=l->Tw l h1 h2->wI pre h1->wI pre h2)
 (Bs:∀l pre y dw h1 y0 y1 y2 y3 y4 y5 y6 y7 y8 y9,E y y0 y1 y2 y3 y4 y5 y6 y7 y8 y9->xs=pre++y::dw->h.size<=l->(∃r,h1[l]? = some (.loop r))->I pre h1->∀(N:Hp->Prop) (X:Code->Hp->Prop),(∀h' h2,Tw l h1 h'->h2[l]? = h'[l]?->Tn (λc=>c<=l) h1 h2->I (pre++[y]) h2->N h2)->(∀h' h2,Tw l h1 h'->h2[l]? = h'[l]?->Tn (λc=>c<=l) h1 h2->wI (pre++[y]) h2->X .ret h2)->W5 l N X x2 x5 x6 ke y0 y1 y2 y3 y4 y5 y6 y7 y8 y9 h1)
 (done:∀h2,I xs h2->W7 K Kp x2 x5 x6 ke h2) (aaa:∀pre dw h2,xs=pre++dw->wI pre h2->W2 K Kp x2 x5 x6 ke h2):B7 K Kp x2 x5 x6 ke h :=
 Eq.mp (by kernel_rfl) (ab4 (P:=Tryz.prog) (aZ:=OX) (D:=(gD Tryz.prog LN)) (λ_=>tA _) (rd:=none) (g:=.tmp 45) (ps:=#[46]) (assign:=sub [1,1,1,1,1,0,1,0,0] Ow) (body:=sub [1,1,1,1,1,0,1,0,1] Ow) (Q:=nI Tryz.prog OX (gD Tryz.prog LN) none Kp [1,1,1,1,1,0,1,0] Ow [] (iT Tryz.prog Tryz.f30.results.toList (zQ mu) (kQ mu K))) (Kp:=Kp) (fr:=(fg [(2,vP x2),(2,vP x5),(0,vP x6),(38,some ke)] 25)) (h:=h) (fv:=ke) (by kernel_rfl)
 pL (λ_ _ ea=>by obtain ⟨_,_,_,_,_,_,_,_,_,_,rfl,_⟩:=ea;rfl) trivial I (λc=>match c with | .ret=>wI | _=>λ_ _=>False) h0 hG (by intro c pre h1 h2 hg hi;revert hi;cases c with
 | ret=>exact agh pre h1 h2 hg
 | _=>exact λhi=>hi.elim) hI (by intro l c pre h1 h2 hl ht hi;revert hi;cases c with
 | ret=>exact agf l pre h1 h2 hl ht
 | _=>exact λhi=>hi.elim) q9
 (by
 intro l pre y dw h1 args ea e1 e2 e3 e4 N X hN hX
 obtain ⟨y0,y1,y2,y3,y4,y5,y6,y7,y8,y9,rfl,eE⟩:=ea
 exact Eq.mp (by kernel_rfl) (Bs l pre y dw h1 y0 y1 y2 y3 y4 y5 y6 y7 y8 y9 eE e1 e2 e3 e4 N X hN (hX .ret)))
 (λh2 hi=>Eq.mp (by kernel_rfl) (done h2 hi)) (by
 intro c pre dw h2 e1 hi
 cases c with
 | ret=>exact Eq.mp (by kernel_rfl) (aaa pre dw h2 e1 hi)
 | _=>exact hi.elim))
theorem I4.of (H :
 aD h #[(.int .i64 0)] Y6 λa b=>St b a (.int .i64 0) λb=>yG b λb c=>aD c #[(.map none)] GK λc d=>St d c (.map (some b)) λb=>Ld b x1 Sl.v λd=>JR d 65 b (λb d=>B7 K Kp x2 a c b d) Kp) :
 I4 K Kp x1 x2 h:=jf H
theorem H9.bB:eG (H9 K Kp x1 x2 qC kU) (MG x1 x2 qC kU) λa b c=>(If (decide (b < kU)) (Ix qC.a qC.n 2 b λd=>Ld c d .string λe=>Ld c (d.add 1) .string λd=>aD c #[(.string (bs [])),(.string (bs []))] WB λc f=>St f c (.string e) λe=>St e (c.add 1) (.string d) λd=>Ld d c .string λe=>If (decide ((e.size:Int) > 256)) (bX d x2 37 (⟨none,0,0⟩:Sl) b λa=>cv a x2 λb c d=>K b c d a) (Ld d (c.add 1) .string λc=>If (decide ((c.size:Int) > 256)) (bX d x2 37 (⟨none,0,0⟩:Sl) b λa=>cv a x2 λb c d=>K b c d a) (Wr .i64 (b+1) λb=>a (MG x1 x2 qC kU b) d))) (I4 K Kp x1 x2 c)):=eH
theorem I5.of (H :
 Ld h (x1.add 1) Sl.v λa=>H9 K Kp x1 x2 a (a.n:Int) 0 h) :
 I5 K Kp x1 x2 h:=jf H
theorem DS.of {EN EM:Sl} (H :
 aD h #[(Sl.v EN),(Sl.v EM)] akK λa b=>aD b iy ie λb c=>Ld c a Sl.v λd=>If (decide ((d.n:Int) > 32)) (bX c b 34 (⟨none,0,0⟩:Sl) 32 λa=>cv a b λb c d=>K b c d a) (Ld c (a.add 1) Sl.v λd=>If (decide ((d.n:Int) > 16)) (bX c b 34 (⟨none,0,0⟩:Sl) 16 λa=>cv a b λb c d=>K b c d a) (I5 K Kp a b c))) :
 DS EN EM h K Kp:=bU (BO K Kp) mu K Tryz.func30 H
end
theorem Dd.of {K:WY} (H :
 fu h V x a b c d A λa b=>aD b dO bW λb c=>aN c a λd e f g i j k=>wO d e f g i j k c (λc d=>If (!c) (bV d b false 0 (bs []) (⟨none,0,0⟩:Sl) λa=>aQ a b λb c d e=>K b c d e 5 a) (aN d a λc e f g i j k=>nV c e f g i j k d (λc d=>If (decide (c > 4194304)) (bV d b false 0 (bs []) (⟨none,0,0⟩:Sl) λa=>aQ a b λb c d e=>K b c d e 3 a) (aN d a λa c e f g i j=>nU a c e f g i j d (λa c d e f=>bV f b a c d e λa=>aQ a b λb c d e=>K b c d e 0 a) Kp)) Kp)) Kp) :
 Dd V x a b c d A h K Kp:=ck RW K Tryz.func31 H
noncomputable def lP:=mc Tryz.prog Tryz.f32 [(2000004,[0,4,5]),(2000005,[0,4,5]),(2000007,[0,4,5]),(2000023,[5,7]),(2001001,[5,7]),(2000029,[5,7]),(4100013,[0,5,7,69,70]),(4800019,[0,5,7,69,129]),(58008,[0,5,7,140]),(5209999,[5,7,148]),(62009,[5,7,160]),(62019,[5,7,170]),(46008,[4,5,55]),(46014,[4,61])] [(11,(OT.l (List.range' 0 12) .fin),[0,1,3,7,0,16,48,112,255,511,1023,2047]),(12,(OT.l (List.range' 0 8) .fin),[0,0,2,6,14,0,63,127]),(14,(OT.l (List.range' 0 37) .fin),[0,1,3,7,15,31,63,127,255,511,1023,511,2559,6655,16383,32767,65535,131071,262143,524287,1048575,2097151,4194303,8388607,8388607,25165823,8388607,75497471,260046847,528482303,8388607,1082130431,3229614079,7524581375,17179869183,34359738367,68719476735]),(4,(OT.l (List.range' 0 11) .fin),[0,1,3,7,0,16,48,127,255,511,1023]),(2,(OT.l (List.range' 0 21) .fin),[0,1,3,7,15,31,63,127,255,63,575,1599,3647,8191,16383,32767,65535,131071,262143,524287,1048575])] cJ
def IC:=jK lP 5 1023 [.d, .d]
def ID:=jK lP 4 511 [.d, .d]
def IE:=jK lP 3 255 [.d, .d]
def yQ:=rK lP 8 130428 [.p, .d, .d, .b]
def wj:=rK lP 11 521724 [.d, .d, .b]
def yU:=rK lP 10 521724 [.d, .d, .b]
def tQ:=jK lP 9 130431 [.d, .d, .b]
def rV:=jK lP 7 32607 [.p, .d, .d,tI, .b]
def qq:=jK lP 6 2037 [.p, .d, .d,tI, .b]
def yR:=jK lP 2 63 [.p, .d, .d]
def yS:=rK lP 13 500 [.d, .b]
def yT:=rK lP 12 500 [.d, .d, .b]
def IF:=jK lP 1 31 [.p, .d, .d]
def IG:=jK lP 0 15 [.p, .d, .d]
theorem IC.of {K:aX} (H :
 Ld h o mI λa=>Db a h (λa b=>If a (Ld b o mI λa=>Ld b (n.add 1) mI λc=>nS a c b (λa b=>K a b) Kp) (K false b)) Kp) :
 IC K Kp n o h:=jf H
theorem ID.of {K:aX} (H :
 Ld h o mI λa=>If (a == 2) (Ld h (n.add 1) mI λa=>If (a == 0) (K true h) (Ld h (n.add 1) mI λa=>K (a == 1) h)) (Ld h o mI λa=>If (a == 11) (K true h) (IC K Kp n o h))) :
 ID K Kp n o h:=jf H
theorem IE.of {K:aX} (H :
 Ld h (n.add 2) .string λa=>If (!(a.toList == (bs []).toList)) (K false h) (Ld h (n.add 3) Sl.v λa=>If (decide ((a.n:Int) > 0)) (K false h) (ID K Kp n o h))) :
 IE K Kp n o h:=jf H
theorem yQ.of {K:aX} (H :
 If x (dH h o λa b c d e=>Ld h (n.add 3) Sl.v λf=>Dc P a b c d e f h (λa b=>K a b) Kp) (K false h)) :
 yQ K Kp P n o x h:=jf H
theorem wj.of {K:aX} (H :
 If x (Ld h o mI λa=>If (a != 14) (K true h) (Ld h (n.add 2) .string λa=>Ld h (o.add 1) mI λb=>K ((a.size:Int) == b) h)) (K false h)) :
 wj K Kp n o x h:=jf H
theorem yU.of {K:aX} (H :
 If x (Ld h o mI λa=>If (a != 12) (wj K Kp n o true h) (Ld h (n.add 2) .string λa=>Dl a h (λa b=>wj K Kp n o a b) Kp)) (wj K Kp n o false h)) :
 yU K Kp n o x h:=jf H
theorem tQ.of {K:aX} (H :
 If x (Ld h (n.add 1) mI λa=>If (a == 0) (Ld h (n.add 3) Sl.v λa=>yU K Kp n o ((a.n:Int) == 0) h) (yU K Kp n o false h)) (IE K Kp n o h)) :
 tQ K Kp n o x h:=jf H
theorem rV.of {K:aX} (H :
 If x (Ld h (n.add 1) mI λa=>If (a == 0) (Ld h (n.add 2) .string λa=>yQ K Kp P n o (a.toList == (bs []).toList) h) (yQ K Kp P n o false h)) (If (a == 12) (tQ K Kp n o (a == 12) h) (If (a == 13) (tQ K Kp n o (a == 13) h) (tQ K Kp n o (a == 14) h)))) :
 rV K Kp P n o a x h:=jf H
theorem qq.of {K:aX} (H :
 If x (NN P λa=>Ld h a mI λa=>Ld h (n.add 2) .string λb=>Wr .i64 ((16:Int)+(b.size:Int)) λb=>Wr .i64 (a+b) λa=>NN P λb=>St h b (.int .i64 a) λa=>Ld a (o.add 4) Sl.v λb=>Ix b.a b.n 7 0 λb=>aN a b λb c d e f g i=>aQ a n λj k l m=>qv P b c d e f g i j k l m a (λa b=>K a b) Kp) (If (a == 18) (Ld h (n.add 2) .string λa=>If (a.toList == (bs []).toList) (Ld h (n.add 1) mI λa=>If (decide (a>=0)) (Ld h (n.add 1) mI λa=>Ld h (o.add 4) Sl.v λb=>If (decide (a < (b.n:Int))) (Ld h (n.add 3) Sl.v λa=>If ((a.n:Int) == 1) (Ld h (o.add 4) Sl.v λa=>Ld h (n.add 1) mI λb=>Ix a.a a.n 7 b λa=>aN h a λa b c d e f g=>Ld h (n.add 3) Sl.v λi=>Ix i.a i.n 4 0 λi=>aQ h i λi j k l=>qv P a b c d e f g i j k l h (λa b=>K a b) Kp) (K false h)) (K false h)) (K false h)) (K false h)) (If (a == 15) (rV K Kp P n o a (a == 15) h) (If (a == 16) (rV K Kp P n o a (a == 16) h) (rV K Kp P n o a (a == 17) h))))) :
 qq K Kp P n o a x h:=jf H
theorem yR.of {K:aX} (H :
 dH h (n.add 2) λa b c d e=>aD h uk mG λf g=>jz g f a b c d e λa=>Ld a f mI λb=>If (b == 19) (qq K Kp P o f b (b == 19) a) (qq K Kp P o f b (b == 20) a)) :
 yR K Kp P n o h:=jf H
theorem yS.of {K:aX} (H :
 If x (aN h n λa b c d e f g=>wN a b c d e f g h (λa b=>K a b) Kp) (K false h)) :
 yS K Kp n x h:=jf H
theorem yT.of {K:aX} (H :
 If x (Ld h (o.add 3) Sl.v λa=>yS K Kp n ((a.n:Int) == 0) h) (yS K Kp n false h)) :
 yT K Kp n o x h:=jf H
theorem IF.of {K:aX} (H :
 Ld h o .bool λa=>If a (Ld h (o.add 1) mI λa=>If (a == 0) (Ld h (o.add 2) .string λa=>yT K Kp n o (a.toList == (bs []).toList) h) (yT K Kp n o false h)) (yR K Kp P n o h)) :
 IF K Kp P n o h:=jf H
theorem IG.of {K:aX} (H :
 NN P λa=>Ld h a mI λa=>Ld h (o.add 2) .string λb=>Wr .i64 (a - (b.size:Int)) λa=>NN P λb=>St h b (.int .i64 a) λa=>IF K Kp P n o a) :
 IG K Kp P n o h:=jf H
theorem qv.of {K:aX} (H :
 fu h V x a b c d A λa b=>iJ b y e W B λb c=>NN P λd=>Ld c d mI λd=>Wr .i64 (d - 16) λd=>NN P λe=>St c e (.int .i64 d) λc=>NN P λd=>Ld c d mI λd=>If (decide (d < 0)) (K false c) (Ld c (b.add 2) .string λd=>NN P λe=>Ld c e mI λe=>If (decide ((d.size:Int) > e)) (K false c) (Ld c (b.add 3) Sl.v λd=>If (decide ((d.n:Int) > 4096)) (K false c) (IG K Kp P a b c)))) :
 qv P V x a b c d A y e W B h K Kp:=bU (lP K Kp) cJ K Tryz.func32 H
theorem CZ.of {K:fm} (H :
 fu h V x a b c d A λa b=>jX b e f g B C D λb c=>aD c iy ie λc d=>aN d a λe f g i j k l=>tY e f g i j k l d (λd _ _ e=>If (d != 0) (iL 5 0 e (λa b d e=>bX e c a b d λa=>cv a c λb c d=>K b c d a) Kp) (aN e a λa d f g i j k=>bq e b λb l m n p q=>uf a d f g i j k b l m n p q e (λa b d _ e=>aD e iy ie λe f=>bX f e a b d λa=>cv a e λb d e=>bX a c b d e λa=>cv a c λb c d=>K b c d a) Kp)) Kp) :
 CZ V x a b c d A e f g B C D h K Kp:=ck mu K Tryz.func33 H
theorem CY.of {K:WX} (H :
 fu h V x a b c d A λa b=>jX b e f g B C D λb c=>aN c a λd e f g i j k=>bq c b λl m n p q r=>Ld c (b.add 1) mI λs=>Ld c b mI λt=>Ld c (a.add 2) mI λu=>DY u c (λu v=>aO c v b 1 <|aO c v (b.add 1) 1 <|aO c v b 6 <|aO c v a 7 <|NA u <|ak9 v d e f g i j k l m n p q r s t P u λa b=>K (some a) b) Kp) :
 CY V x a b c d A e f g B C D P h K Kp:=jt [] [(1,(OT.l (List.range' 0 14) .fin),[0,0,0,4,0,16,0,0,128,384,896,2047,4095,8191])] RV K Tryz.func34 H
noncomputable def Vm:=mc Tryz.prog Tryz.f35 [(2003,[1,2,13,14])] [(5,(OT.l (List.range' 0 13) .fin),[0,1,3,0,0,16,48,0,240,496,1008,2047,4095])] xx
abbrev LY (x1 x2:Addr) (fj eu:Int):Fr:=(fg [(1,vP x1),(0,vP x2),(10,vI fj),(0,vI eu)] 16)
def GV (K:tK) (Kp:PK) (x1 x2:Addr) (fj eu:Int):=lQ (Vm K Kp) 2003 58 [] (LY x1 x2 fj eu)
theorem GV.bB {K:tK}:eG (GV K Kp n o a) (LY n o a) λb c d=>(If (decide (c < a)) (Ld d ((n.add 2).add 4) Sl.v λe=>Ld d ((n.add 2).add 4) Sl.v λf=>Ix f.a f.n 7 c λf=>aN d f λf g i j k l m=>zG f g i j k l m d (λf g i j k l m p=>aO d p ((n.add 2).add 4) 1 <|Ix e.a e.n 7 c λd=>dW p d f g i j k l m λd=>Wr .i64 (c+1) λc=>b (LY n o a c) d) Kp) (aN d n λa b c e f g i=>dW d o a b c e f g i λa=>aN a o λb c d e f g i=>K b c d e f g i a)):=eH
theorem zG.of {K:tK} (H :
 fu h V x a b c d A λa b=>aD b kT fP λb c=>Ld c ((a.add 2).add 4) Sl.v λd=>JO d c (λc d=>St d ((a.add 2).add 4) (Sl.v c) λc=>Ld c ((a.add 2).add 4) Sl.v λd=>GV K Kp a b (d.n:Int) 0 c) Kp) :
 zG V x a b c d A h K Kp:=bU (Vm K Kp) xx K Tryz.func35 H
theorem zF.of {K:gW} (H :
 jX h a b c A B C λa b=>aD b bS bG λb c=>Ld c (a.add 3) Sl.v λd=>Dq d c (λc d=>St d (a.add 3) (Sl.v c) λc=>Ld c (a.add 4) Sl.v λd=>Ai d c (λc d=>St d (a.add 4) (Sl.v c) λc=>Ld c (a.add 5) Sl.v λd=>Ai d c (λc d=>St d (a.add 5) (Sl.v c) λc=>bq c a λa d e f g i=>bw c b a d e f g i λa=>bq a b λb c d e f g=>K b c d e f g a) Kp) Kp) Kp) :
 zF a b c A B C h K Kp:=ck jm K Tryz.func36 H
theorem Jd.of {K:tL} (H :
 aD h #[(.pointer P)] O4 λa b=>K (.func (.func PT) #[] #[(.pointer (some a))]) b) :
 Jd P h K Kp:=ck uL K Tryz.func37 H
theorem JR.of {K:tL} (H :
 aD h #[(Sl.v A)] Y25 λb c=>aD c #[(.int .i64 a)] Y6 λa c=>K (.func (.func PS) #[] #[(.pointer (some a)),(.pointer (some b))]) c) :
 JR A a h K Kp:=ck uL K Tryz.func38 H
noncomputable def VS:=mc Tryz.prog Tryz.f39 [(1002900016,[7,9,48])] [] cy
def wF:=jK VS 0 999421 [.d, .b, .b]
theorem wF.of {K:bP} (H :
 If y (If y (K 36 h) (K 0 h)) (Ld h n mI λa=>If (a == 19) (Ld h (n.add 4) Sl.v λa=>Ix a.a a.n 7 0 λa=>Ld h (a.add 1) .bool λa=>If a (K 36 h) (If x (K 36 h) (K 0 h))) (K 0 h))) :
 wF K Kp n x y h:=jf H
theorem DK.of {K:bP} (H :
 ak8 h A B V x a b c d C y λa b=>dH b ((a.add 2).add 2) λc d f g i=>aD b uk mG λb j=>jz j b c d f g i λc=>Ld c (b.add 2) mI λd=>Lk c M (.int .i64) (.int .i64 d) (.int .i64 0) mI λ_ d=>Ld c a Sl.v λf=>If (decide ((f.n:Int) > 64)) (K 33 c) (If (decide (e>=256)) (K 34 c) (Ld c (a.add 2) .string λe=>DD e c (λc e=>If (!c) (K 30 e) (Ld e (a.add 1) Sl.v λc=>Dn c (.func (.func PR) #[] #[(.pointer (some a))]) e (λc e=>If c (K 31 e) (dH e b λc f g i j=>DC c f g i j e (λc e=>If (!c) (K 32 e) (aN e (a.add 2) λc f g i j k l=>DB c f g i j k l e (λc e=>If (!c) (K 35 e) (Ld e (a.add 9) .bool λa=>If a (Ld e b mI λa=>If (a == 19) (wF K Kp b d true e) (Ld e b mI λa=>wF K Kp b d (a == 20) e)) (wF K Kp b d false e))) Kp)) Kp)) Kp)) Kp))) :
 DK A B V x a b c d C y e M h K Kp:=bU (VS K Kp) cy K Tryz.func39 H
noncomputable def VE:=mc Tryz.prog Tryz.f40 [(2012,[4,34,35,36])] [(9,(OT.l (List.range' 0 11) .fin),[0,0,2,0,8,24,56,120,254,511,1023])] cy
abbrev Mq (n6:Sl) (lD x4 lC:Int):Fr:=(fg [(4,vI x4),(29,vS n6),(0,vI lD),(0,vI lC)] 27)
def HG (K:bP) (Kp:PK) (n6:Sl) (lD x4 lC:Int):=lQ (VE K Kp) 2012 64250 [] (Mq n6 lD x4 lC)
theorem HG.bB {K:bP}:iK (HG K Kp A a) (Mq A a) λb c d e=>(If (decide (d < a)) (Ix A.a A.n 7 d λf=>aN e f λf g i j k l m=>aD e kT fP λe n=>dW n e f g i j k l m λf=>aN f e λe g i j k l m=>nV e g i j k l m f (λe f=>Wr .i64 (c+e) λc=>Wr .i64 (d+1) λd=>b (Mq A a c d) f) Kp) (Lt (if 4194305 < c then 4194305 else c) λa=>K a e)):=iV
theorem nV.of {K:bP} (H :
 fu h V x a b c d A λa b=>aN b a λc d e f g i j=>wN c d e f g i j b (λb c=>If b (K 16 c) (dH c (a.add 2) λa b d e f=>aD c uk mG λc g=>jz g c a b d e f λa=>Ld a c mI λb=>If (b == 14) (Ld a (c.add 1) mI λb=>Wr .i64 ((16:Int)+b) λb=>Lt (if 4194305 < b then 4194305 else b) λb=>K b a) (If (b == 16) (Ld a (c.add 1) mI λb=>Ld a (c.add 4) Sl.v λd=>Ix d.a d.n 7 0 λd=>aN a d λd e f g i j k=>nV d e f g i j k a (λd e=>aO a e (c.add 1) 1 <|Wr .i64 (b*d) λa=>Wr .i64 ((16:Int)+a) λa=>Lt (if 4194305 < a then 4194305 else a) λa=>K a e) Kp) (If (b == 17) (Ld a (c.add 4) Sl.v λb=>HG K Kp b (b.n:Int) 16 0 a) (If (b == 18) (Ld a (c.add 4) Sl.v λb=>Ix b.a b.n 7 0 λb=>aN a b λb c d e f g i=>nV b c d e f g i a (λa b=>Wr .i64 ((16:Int)+a) λa=>Lt (if 4194305 < a then 4194305 else a) λa=>K a b) Kp) (If (b == 19) (If (b == 19) (Ld a (c.add 4) Sl.v λb=>Ix b.a b.n 7 0 λb=>aN a b λb c d e f g i=>nV b c d e f g i a (λa b=>Lt (if 4194305 < a then 4194305 else a) λa=>K a b) Kp) (Lt (if 4194305 < 16 then 4194305 else 16) λb=>K b a)) (If (b == 20) (Ld a (c.add 4) Sl.v λb=>Ix b.a b.n 7 0 λb=>aN a b λb c d e f g i=>nV b c d e f g i a (λa b=>Lt (if 4194305 < a then 4194305 else a) λa=>K a b) Kp) (Lt (if 4194305 < 16 then 4194305 else 16) λb=>K b a)))))))) Kp) :
 nV V x a b c d A h K Kp:=bU (VE K Kp) cy K Tryz.func40 H
noncomputable def OG:=mc Tryz.prog Tryz.f41 [(2010,[2,3,4,23,24]),(2015,[2,3,40,41,42])] [(11,(OT.l (List.range' 0 11) .fin),[0,1,0,4,12,28,60,124,255,511,1023]),(17,(OT.l (List.range' 0 8) .fin),[0,1,0,4,12,31,63,127])] qK
abbrev Mp (x2 x3 x4:Addr) (kU lE:Int):Fr:=(fg [(2,vP x2),(0,vP x3),(0,vP x4),(18,vI kU),(0,vI lE)] 47)
def HF (K:m7) (Kp:PK) (x2 x3 x4:Addr) (kU lE:Int):=lQ (OG K Kp) 2010 16058 [] (Mp x2 x3 x4 kU lE)
abbrev Mo (x2 x3:Addr) (uo:Sl) (Ke Kc:Int):Fr:=(fg [(2,vP x2),(0,vP x3),(36,vS uo),(0,vI Ke),(0,vI Kc)] 29)
def HD (K:m7) (Kp:PK) (x2 x3:Addr) (uo:Sl) (Ke Kc:Int):=lQ (OG K Kp) 2015 64250 [] (Mo x2 x3 uo Ke Kc)
theorem HF.bB {K:m7}:eG (HF K Kp n o p a) (Mp n o p a) λb c d=>(If (decide (c < a)) (Ld d (o.add 3) Sl.v λe=>Ld d (p.add 4) Sl.v λf=>Ix f.a f.n 7 0 λf=>aN d f λf g i j k l m=>nU f g i j k l m d (λf g i j k=>aO d k (o.add 3) 1 <|aD k #[(.bool f),(.int .i64 g),(.string i),(Sl.v j)] bW λd f=>aO k f (o.add 3) 1 <|Ap f bW dO 4 56 e 1 (rd f (some d) (1*4)) λd e=>St e (o.add 3) (Sl.v d) λd=>Wr .i64 (c+1) λc=>b (Mp n o p a c) d) Kp) (aQ d o λa b c e=>bV d n a b c e λa=>aQ a n λb c d e=>K b c d e a)):=eH
theorem HD.bB {K:m7}:eG (HD K Kp n o A a) (Mo n o A a) λb c d=>(If (decide (c < a)) (Ix A.a A.n 7 c λe=>aN d e λe f g i j k l=>aD d kT fP λd m=>dW m d e f g i j k l λe=>Ld e (o.add 3) Sl.v λf=>aN e d λd g i j k l m=>nU d g i j k l m e (λd g i j k=>aO e k (o.add 3) 1 <|aD k #[(.bool d),(.int .i64 g),(.string i),(Sl.v j)] bW λd e=>aO k e (o.add 3) 1 <|Ap e bW dO 4 56 f 1 (rd e (some d) (1*4)) λd e=>St e (o.add 3) (Sl.v d) λd=>Wr .i64 (c+1) λc=>b (Mo n o A a c) d) Kp) (aQ d o λa b c e=>bV d n a b c e λa=>aQ a n λb c d e=>K b c d e a)):=eH
theorem nU.of {K:m7} (H :
 fu h V x a b c d A λa b=>aD b dO bW λb c=>aN c a λd e f g i j k=>wN d e f g i j k c (λc d=>If c (bV d b true 0 (bs []) (⟨none,0,0⟩:Sl) λa=>aQ a b λb c d e=>K b c d e a) (aD d dO bW λc d=>dH d (a.add 2) λa e f g i=>aD d uk mG λd j=>jz j d a e f g i λa=>Ld a d mI λe=>If (e == 14) (Ld a (d.add 1) mI λd=>Xm (bs [0]) d a (λa d=>St d (c.add 2) (.string a) λa=>aQ a c λc d e f=>bV a b c d e f λa=>aQ a b λb c d e=>K b c d e a) Kp) (If (e == 16) (Ld a (d.add 1) mI λe=>HF K Kp b c d e 0 a) (If (e == 17) (Ld a (d.add 4) Sl.v λd=>HD K Kp b c d (d.n:Int) 0 a) (If (e == 18) (Ld a (d.add 4) Sl.v λd=>Ix d.a d.n 7 0 λd=>aN a d λd e f g i j k=>nU d e f g i j k a (λa d e f g=>aD g #[(.bool a),(.int .i64 d),(.string e),(Sl.v f)] bW λa d=>St d (c.add 3) (.slice (some a) 1 1) λa=>aQ a c λc d e f=>bV a b c d e f λa=>aQ a b λb c d e=>K b c d e a) Kp) (If (e == 19) (If (e == 19) (Ld a (d.add 4) Sl.v λc=>Ix c.a c.n 7 0 λc=>aN a c λc d e f g i j=>nU c d e f g i j a (λa c d e f=>bV f b a c d e λa=>aQ a b λb c d e=>K b c d e a) Kp) (aQ a c λc d e f=>bV a b c d e f λa=>aQ a b λb c d e=>K b c d e a)) (If (e == 20) (Ld a (d.add 4) Sl.v λc=>Ix c.a c.n 7 0 λc=>aN a c λc d e f g i j=>nU c d e f g i j a (λa c d e f=>bV f b a c d e λa=>aQ a b λb c d e=>K b c d e a) Kp) (aQ a c λc d e f=>bV a b c d e f λa=>aQ a b λb c d e=>K b c d e a)))))))) Kp) :
 nU V x a b c d A h K Kp:=bU (OG K Kp) qK K Tryz.func41 H
noncomputable def OF:=mc Tryz.prog Tryz.f42 [(2000003,[1]),(2001,[1])] [] cJ
def yP:=jK OF 0 7 [.d]
abbrev Mn (x1:Addr):Fr:=([nO,vP x1]++nn 25)
def HC (K:aX) (Kp:PK) (x1:Addr):=lQ (OF K Kp) 2001 12 [] (Mn x1)
theorem yP.of {K:aX} (H :
 Ld h (n.add 1) .bool λa=>If a (Ld h (n.add 2) mI λa=>K (a != 18) h) (K false h)) :
 yP K Kp n h:=jf H
theorem HC.bB {K:aX}:PI (HC K Kp n) (Mn n) λa b=>(Ld b (n.add 2) mI λc=>If (c == 20) (Ld b ((n.add 2).add 4) Sl.v λc=>If ((c.n:Int) == 1) (Ld b ((n.add 2).add 4) Sl.v λc=>Ix c.a c.n 7 0 λc=>aN b c λc d e f g i j=>dW b n c d e f g i j λb=>a (Mn n) b) (yP K Kp n b)) (yP K Kp n b)):=aeb
theorem wN.of {K:aX} (H :
 fu h V x a b c d A λa b=>HC K Kp a b) :
 wN V x a b c d A h K Kp:=bU (OF K Kp) cJ K Tryz.func42 H
noncomputable def BL:=mc Tryz.prog Tryz.f43 [(2000003,[0,2,4]),(2004,[0,4,33,34,35]),(2000009,[0,4,8,9,33,34,35]),(41010,[0,2,4,19])] [(9,(OT.l (List.range' 0 9) .fin),[0,0,2,0,14,30,0,127,255])] cJ
abbrev Mm (x0:PA) (x4:Addr) (uq:Sl) (n6 lD:Int):Fr:=(fg [(0,vp x0),(3,vP x4),(28,vS uq),(0,vI n6),(0,vI lD)] 18)
def yN:=ov BL 2 14951 [.p, .d, .d,tI, .s,tI,tI]
def HA (K:aX) (Kp:PK) (x0:PA) (x4:Addr) (uq:Sl) (n6 lD:Int):=lQ (BL K Kp) 2004 58 [] (Mm x0 x4 uq n6 lD)
def yO:=jK BL 0 7 [.p, .s, .d]
def wh:=rK BL 3 12 [.p, .s, .d, .b]
theorem yN.of {K:aX} (H :
 Ld h (n.add 4) Sl.v λd=>Ix d.a d.n 7 a λa=>aN h a λa d e f g i j=>aQ h o λk l m p=>qv P a d e f g i j k l m p h (λa d=>If (!a) (K false d) (Wr .i64 (c+1) λa=>N1 (Mm P n A b a) d)) Kp) :
 yN K Kp N1 P n o a A b c h:=jf H
theorem HA.bB {K:aX}:eG (HA K Kp P n A a) (Mm P n A a) λb c d=>(If (decide (c < a)) (Ix A.a A.n 4 c λe=>aQ d e λe f g i=>aD d dO bW λd j=>bV j d e f g i λe=>Ld e n mI λf=>If (f == 17) (yN K Kp b P n d c A a c e) (yN K Kp b P n d 0 A a c e)) (K true d)):=eH
theorem yO.of {K:aX} (H :
 HA K Kp P n A (A.n:Int) 0 h) :
 yO K Kp P A n h:=jf H
theorem wh.of {K:aX} (H :
 If x (K false h) (Ld h n mI λa=>If (a == 17) (Ld h (n.add 4) Sl.v λa=>If ((A.n:Int) != (a.n:Int)) (K false h) (yO K Kp P A n h)) (yO K Kp P A n h))) :
 wh K Kp P A n x h:=jf H
theorem Dc.of {K:aX} (H :
 tM h a b c d A λa b=>Ld b a mI λc=>If (c == 16) (Ld b (a.add 1) mI λc=>wh K Kp P B a ((B.n:Int) != c) b) (wh K Kp P B a false b)) :
 Dc P a b c d A B h K Kp:=bU (BL K Kp) cJ K Tryz.func43 H
noncomputable def yw:=mc Tryz.prog Tryz.f44 [(2001,[0]),(2000011,[0,3]),(3609999,[0,24]),(3809999,[0,39]),(2009,[0])] [(17,(OT.l (List.range' 0 17) .fin),[0,1,3,7,15,31,15,79,255,511,1023,2047,4095,2047,10239,32767,65535]),(21,(OT.l (List.range' 0 27) .fin),[0,1,3,7,15,31,15,79,255,511,1023,2047,4095,2047,10239,32767,65535,131071,262143,524287,1048575,2097151,4194303,8388607,16777215,33554431,67108863]),(25,(OT.l (List.range' 0 37) .fin),[0,1,3,7,15,31,15,79,255,511,1023,2047,4095,2047,10239,32767,65535,131071,262143,524287,1048575,2097151,4194303,8388607,16777215,33554431,67108863,134217727,268435455,536870911,1073741823,2147483647,4294967295,8589934591,17179869183,34359738367,68719476735]),(9,(OT.l [0,1,2,3,4,6,7,10,11,13,14,5,8,9,12,15,16,17,18,19,20] .fin),[0,1,3,7,15,31,15,79,255,511,15,1039,3583,15,8207,32255,65023,131071,262143,524287,1048575]),(7,(OT.l [0,1,2,3,4,6,7,5,8,9,10,11,12] .fin),[0,1,3,7,15,31,15,79,255,511,1023,2047,4095])] cJ
abbrev oq (x0:BA):Fr:=([some (.string x0)]++nn 168)
def IW:=ov yw 1 395 [.t, .i .u8]
abbrev Mx (x0:BA):Fr:=([some (.string x0)]++nn 168)
def HQ (K:aX) (Kp:PK) (N1:Fr->HP) (x0:BA):=lQ (yw K Kp) 2009 808282 [N1] (Mx x0)
def yZ:=ov yw 3 101035 [.t, .b]
def za:=ov yw 2 12629 [.t, .b]
def HR (K:aX) (Kp:PK) (x0:BA):=lQ (yw K Kp) 2001 12 [] (oq x0)
theorem IW.of {K:aX} (H :
 Ix (some (⟨0,0,none⟩)) 256 1 a λa=>Ld h a (.int .u8) λa=>Lt (dF .and .u8 a 7) λb=>Wr .i64 b λb=>Nn 4<|Lt (Int.fdiv a (2 ^ (min (Int.toNat 4) (IntKind.bits .u8)))) λa=>Ix (some (⟨1,0,none⟩)) 16 2 a λa=>Ld h a (.int .u8) λc=>Ld h (a.add 1) (.int .u8) λa=>aD h #[(.int .u8 0),(.int .u8 0)] Wy λd e=>St e d (.int .u8 c) λc=>St c (d.add 1) (.int .u8 a) λa=>If (b == 2) (If (decide ((V.size:Int) < 2)) (K false a) (gq V 1 λb=>Ld a d (.int .u8) λc=>If (decide (b < c)) (K false a) (Ld a (d.add 1) (.int .u8) λb=>gq V 1 λc=>If (decide (b < c)) (K false a) (lU V (some 2) none λb=>N1 (oq b) a)))) (If (b == 3) (If (decide ((V.size:Int) < 3)) (K false a) (gq V 1 λb=>Ld a d (.int .u8) λc=>If (decide (b < c)) (K false a) (Ld a (d.add 1) (.int .u8) λb=>gq V 1 λc=>If (decide (b < c)) (K false a) (gq V 2 λb=>If (decide (b < 128)) (K false a) (gq V 2 λb=>If (decide ((191:Int) < b)) (K false a) (lU V (some 3) none λb=>N1 (oq b) a)))))) (If (b == 4) (If (decide ((V.size:Int) < 4)) (K false a) (gq V 1 λb=>Ld a d (.int .u8) λc=>If (decide (b < c)) (K false a) (Ld a (d.add 1) (.int .u8) λb=>gq V 1 λc=>If (decide (b < c)) (K false a) (gq V 2 λb=>If (decide (b < 128)) (K false a) (gq V 2 λb=>If (decide ((191:Int) < b)) (K false a) (gq V 3 λb=>If (decide (b < 128)) (K false a) (gq V 3 λb=>If (decide ((191:Int) < b)) (K false a) (lU V (some 4) none λb=>N1 (oq b) a)))))))) (K false a)))) :
 IW K Kp N1 V a h:=jf H
theorem HQ.bB {K:aX}:eG (HQ K Kp N1) (Mx) λa b c=>(If (decide ((b.size:Int) > 32)) (lU b (some 8) none λd=>lU b (some 16) none λe=>lU b (some 24) none λf=>nW b c (λc g=>nW d g (λd g=>Lt (dF .or .u64 c d) λc=>nW e g (λd e=>nW f e (λe f=>Lt (dF .or .u64 d e) λd=>Lt (dF .or .u64 c d) λc=>Lt (dF .and .u64 c 9259542123273814144) λc=>If (c == 0) (lU b (some 32) none λb=>a (Mx b) f) (N1 (oq b) f)) Kp) Kp) Kp) Kp) (N1 (oq b) c)):=eH
theorem yZ.of {K:aX} (H :
 If x (lU V (some 16) none λa=>HQ K Kp N1 a h) (N1 (oq V) h)) :
 yZ K Kp N1 V x h:=jf H
theorem za.of {K:aX} (H :
 If x (lU V (some 8) none λa=>If (decide ((a.size:Int) > 16)) (lU a (some 8) none λb=>nW a h (λc d=>nW b d (λb d=>Lt (dF .or .u64 c b) λb=>Lt (dF .and .u64 b 9259542123273814144) λb=>yZ K Kp N1 a (b == 0) d) Kp) Kp) (yZ K Kp N1 a false h)) (N1 (oq V) h)) :
 za K Kp N1 V x h:=jf H
theorem HR.bB {K:aX}:eG (HR K Kp) (oq) λa b c=>(If (decide ((b.size:Int) > 0)) (gq b 0 λd=>If (decide (d < 128)) (lU b (some 1) none λb=>If (decide ((b.size:Int) > 8)) (nW b c (λc d=>Lt (dF .and .u64 c 9259542123273814144) λc=>za K Kp a b (c == 0) d) Kp) (za K Kp a b false c)) (IW K Kp a b d c)) (K true c)):=eH
theorem Dl.of {K:aX} (H :
 HR K Kp V h) :
 Dl V h K Kp:=bU (yw K Kp) cJ K Tryz.func44 H
theorem Db.of {K:aX} (H :
 If (decide (a>=3)) (K (decide (a<=10)) h) (K false h)) :
 Db a h K Kp:=ck cJ K Tryz.func45 H
theorem nS.of {K:aX} (H :
 oQ a h (λa c d=>If (a == 64) (K true d) (If c (Wr .i64 (a - 1) λc=>Nn c<|Wr .i64 ((-1:Int)*2 ^ (min (Int.toNat c) (IntKind.bits .i64))) λc=>If (decide (b>=c)) (Wr .i64 (a - 1) λa=>Nn a<|Wr .i64 ((1:Int)*2 ^ (min (Int.toNat a) (IntKind.bits .i64))) λa=>K (decide (b < a)) d) (K false d)) (If (decide (b>=0)) (Nn a<|Wr .i64 ((1:Int)*2 ^ (min (Int.toNat a) (IntKind.bits .i64))) λa=>K (decide (b < a)) d) (K false d)))) Kp) :
 nS a b h K Kp:=ck cJ K Tryz.func46 H
theorem iL.of {K:fm} (H :
 aD h iy ie λc d=>bX d c a (⟨none,0,0⟩:Sl) b λa=>cv a c λb c d=>K b c d a) :
 iL a b h K Kp:=ck mu K Tryz.func47 H
noncomputable def tH:=mc Tryz.prog Tryz.f48 [(2000004,[2,3,4]),(2000007,[2,3,4]),(2000017,[2,3,4,8]),(2000021,[2,3,4,8]),(2024,[4,14,15,77,78,79]),(2009,[2,3,4,8,33,34,35]),(2000012,[2,3,4,8,9,11,12,33,34,35])] [(11,(OT.l [0,1,3] (.alt (OT.l [2] (.alt (OT.l [4,5,6,7,8,9,10] .fin) (OT.l [8,4,5,6,7,9,10] .fin))) (OT.l [8,2,4,5,6,7,9,10] .fin))),[0,0,3,0,15,31,63,63,0,383,1023])] Lx
abbrev MJ (x4:Addr) (eu J6:Sl) (J5 dZ J4:Int):Fr:=(fg [(4,vP x4),(9,vS eu),(0,vI dZ),(61,vS J6),(0,vI J5),(0,vI J4)] 12)
def Ie (K:pX) (Kp:PK) (x4:Addr) (eu J6:Sl) (J5 dZ J4:Int):=lQ (tH K Kp) 2024 4090 [] (MJ x4 eu J6 J5 dZ J4)
def CS:=jK tH 3 127 [.d, .d, .d, .s]
def I7:=jK tH 2 63 [.d, .d, .d, .s]
abbrev SJ (x2 x3 x4:Addr) (uq:Sl) (n6:Int) (x8:Sl) (lD:Int):Fr:=(fg [(2,vP x2),(0,vP x3),(0,vP x4),(3,vS x8),(24,vS uq),(0,vI n6),(0,vI lD)] 56)
def PJ:=ov tH 6 32051 [.d, .d, .d, .s,tI, .d, .s, .s,tI,tI]
def Ic (K:pX) (Kp:PK) (x2 x3 x4:Addr) (uq:Sl) (n6:Int) (x8:Sl) (lD:Int):=lQ (tH K Kp) 2009 250 [] (SJ x2 x3 x4 uq n6 x8 lD)
def I8:=jK tH 1 15 [.d, .d, .d]
def I9:=jK tH 0 7 [.d, .d, .d]
theorem Ie.bB {K:pX}:iK (Ie K Kp n A B a) (MJ n A B a) λb c d e=>(If (decide (d < a)) (Ix B.a B.n 1 d λf=>Ld e f mI λf=>Wr .i64 (c+f) λc=>Wr .i64 (d+1) λd=>b (MJ n A B a c d) e) (If (decide (c > 4194304)) (iL 3 1 e (λa b c d=>bX d n a b c λa=>cv a n λb c d=>K b c d (⟨none,0,0⟩:Sl) a) Kp) (bX e n 0 (⟨none,0,0⟩:Sl) 0 λa=>cv a n λb c d=>K b c d A a))):=iV
theorem CS.of {K:pX} (H :
 aN h n λa b c d e f g=>bq h o λi j k l m n=>DP a b c d e f g i j k l m n A h (λa b=>Ie K Kp p a a (a.n:Int) 0 0 b) Kp) :
 CS K Kp n o p A h:=jf H
theorem I7.of {K:pX} (H :
 Ld h (n.add 2) mI λa=>If (a == 20) (bq h o λa b c d e f=>amd a b c d e f h (λa b c d=>aD d iy ie λd e=>bX e d a b c λa=>Ld a d mI λb=>If (b != 0) (cv a d λb c d=>bX a p b c d λa=>cv a p λb c d=>K b c d (⟨none,0,0⟩:Sl) a) (CS K Kp n o p A a)) Kp) (CS K Kp n o p A h)) :
 I7 K Kp n o p A h:=jf H
theorem Ic.bB {K:pX}:iK (Ic K Kp n o p A a) (SJ n o p A a) λb c d e=>(If (decide (d < a)) (Ix A.a A.n 6 d λf=>bq e f λf g i j k l=>aD e bS bG λe m=>bw m e f g i j k l λf=>aN f n λg i j k l m q=>bq f e λr s t u v w=>(Xn g i j k l m q d f (λg i j k l m q x=>aO f x e 6 <|(uf g i j k l m q r s t u v w x (λf g i j k=>aD k iy ie λl m=>aO k m e 6 <|aO k m n 7 <|bX m l f g i λe=>PJ K Kp b n o p c d l j A a d e) Kp)/\(aD x iy ie λf y=>aO x y e 6 <|aO x y n 7 <|uf g i j k l m q r s t u v w y (λe g i j k=>bX k f e g i λe=>PJ K Kp b n o p c d f j A a d e) Kp)) Kp)/\(aD f iy ie λx y=>aO f y e 6 <|aO f y n 7 <|Xn g i j k l m q d y (λf g i j k l m q=>aO y q e 6 <|uf f g i j k l m r s t u v w q (λe f g i j=>bX j x e f g λe=>PJ K Kp b n o p c d x i A a d e) Kp) Kp)) (I7 K Kp n o p c e)):=iV
theorem I8.of {K:pX} (H :
 bq h o λa b c d e f=>DV a b c d e f h (λa b=>Ic K Kp n o p a (a.n:Int) (⟨none,0,0⟩:Sl) 0 b) Kp) :
 I8 K Kp n o p h:=jf H
theorem I9.of {K:pX} (H :
 aN h n λa b c d e f g=>bq h o λi j k l m q=>DQ a b c d e f g i j k l m q h (λa b c d=>aD d iy ie λd e=>bX e d a b c λa=>Ld a d mI λb=>If (b != 0) (cv a d λb c d=>bX a p b c d λa=>cv a p λb c d=>K b c d (⟨none,0,0⟩:Sl) a) (I8 K Kp n o p a)) Kp) :
 I9 K Kp n o p h:=jf H
theorem uf.of {K:pX} (H :
 fu h V x a b c d A λa b=>jX b e f g B C D λb c=>aD c iy ie λc d=>aN d a λe f g i j k l=>bq d b λm n p q r s=>DR e f g i j k l m n p q r s d (λd e f g=>aD g iy ie λg i=>bX i g d e f λd=>Ld d g mI λe=>If (e != 0) (cv d g λa b e=>bX d c a b e λa=>cv a c λb c d=>K b c d (⟨none,0,0⟩:Sl) a) (I9 K Kp a b c d)) Kp) :
 uf V x a b c d A e f g B C D h K Kp:=bU (tH K Kp) Lx K Tryz.func48 H
noncomputable def OL:=mc Tryz.prog Tryz.f49 [(3400005,[3,4]),(3700008,[3,9])] [] AT
def zn:=jK OL 1 215 [tI, .b]
def zo:=jK OL 0 53 [tI, .b]
theorem zn.of {K:rJ} (H :
 If x (K (.iface WH (.agg #[])) h) (If (a == 17) (K (.iface WG (.agg #[])) h) (If (a == 18) (K (.iface WE (.agg #[])) h) (If (a == 19) (K (.iface WD (.agg #[])) h) (If (a == 20) (K (.iface WC (.agg #[])) h) (K (.iface BY (.agg #[])) h)))))) :
 zn K Kp a x h:=jf H
theorem zo.of {K:rJ} (H :
 If x (K (.iface WI (.agg #[])) h) (If (a == 15) (zn K Kp a (a == 15) h) (zn K Kp a (a == 16) h))) :
 zo K Kp a x h:=jf H
theorem DY.of {K:rJ} (H :
 If (a == 12) (zo K Kp a (a == 12) h) (zo K Kp a (a == 13) h)) :
 DY a h K Kp:=bU (OL K Kp) AT K Tryz.func49 H
theorem JO.of {K:dg} (H :
 If (Option.isNone A.a) (K (⟨none,0,0⟩:Sl) h) (aD h #[] fP λa b=>Ap b fP kT 7 80 (⟨some a,0,0⟩:Sl) A.n (rd b A.a (A.n*7)) λa b=>K a b)) :
 JO A h K Kp:=ck fM K Tryz.func50 H
theorem Dq.of {K:dg} (H :
 If (Option.isNone A.a) (K (⟨none,0,0⟩:Sl) h) (aD h #[] fH λa b=>Ap b fH #[(.slice none 0 0)] 1 24 (⟨some a,0,0⟩:Sl) A.n (rd b A.a (A.n*1)) λa b=>K a b)) :
 Dq A h K Kp:=ck fM K Tryz.func51 H
noncomputable def VW:=mc Tryz.prog Tryz.f52 [(2003,[3,6,7,8])] [] fM
abbrev MI (x6:Sl) (x7:Int) (x3:Sl) (x8:Int):Fr:=(fg [(3,vS x3),(2,vS x6),(0,vI x7),(0,vI x8)] 10)
def Ib (K:dg) (Kp:PK) (x6:Sl) (x7:Int) (x3:Sl) (x8:Int):=lQ (VW K Kp) 2003 58 [] (MI x6 x7 x3 x8)
theorem Ib.bB {K:dg}:iK (Ib K Kp A a) (MI A a) λb c d e=>(If (decide (d < a)) (Ix A.a A.n 6 d λf=>bq e f λf g i j k l=>aD e bS bG λe m=>bw m e f g i j k l λf=>bq f e λe g i j k l=>zF e g i j k l f (λe f g i j k l=>aD l #[(.int .i64 e),(.int .i64 f),(.int .i64 g),(Sl.v i),(Sl.v j),(Sl.v k)] bG λe f=>Ap f bG bS 6 96 c 1 (rd f (some e) (1*6)) λc e=>Wr .i64 (d+1) λd=>b (MI A a c d) e) Kp) (K c e)):=iV
theorem Ai.of {K:dg} (H :
 Ib K Kp A (A.n:Int) (⟨none,0,0⟩:Sl) 0 h) :
 Ai A h K Kp:=bU (VW K Kp) fM K Tryz.func52 H
noncomputable def OK:=mc Tryz.prog Tryz.f53 [(2002,[0,1,3,11,12]),(46006,[0,1,3,4,5,11,12,30])] [] gz
abbrev MH (x0:Value) (x1:Addr) (lF x3 gN:Int):Fr:=(fg [(0,some x0),(0,vP x1),(1,vI x3),(7,vI lF),(0,vI gN)] 26)
def CR:=RM OK 1 7374 [uA, .d,tI,tI, .d,tI,tI, .b]
def Ia (K:dR) (Kp:PK) (x0:Value) (x1:Addr) (lF x3 gN:Int):=lQ (OK K Kp) 2002 14 [] (MH x0 x1 lF x3 gN)
theorem CR.of {K:dR} (H :
 If x (K  h) (aQ h o λe f g i=>bJ Tryz.prog Y [(.int .i64 b),(.agg #[(.bool e),(.int .i64 f),(.string g),(Sl.v i)])] h (λb e=>∃f:Bool,b=(.bool f)/\(If (!f) (K  e) (Wr .i64 (d+1) λb=>N1 (MH Y n c a b) e))) Kp)) :
 CR K Kp N1 Y n a b o c d x h:=jf H
theorem Ia.bB {K:dR}:iK (Ia K Kp Y n a) (MH Y n a) λb c d e=>(If (decide (d < a)) (Ld e n .pointer λf=>CW f d e (λe f g i j k l=>aD l dO bW λl m=>bV m l e f g i λe=>Wr .i64 (c - j) λc=>If (k != 0) (CR K Kp b Y n c d l a d true e) (CR K Kp b Y n c d l a d (decide (c < 0)) e)) Kp) (K  e)):=iV
theorem PY.of {K:dR} (H :
 Ld h n .pointer λa=>NN a λa=>Ld h (a.add 14) mI λa=>Ia K Kp Y n a 4194304 0 h) :
 PY Y n h K Kp:=bU (OK K Kp) gz K Tryz.func53 H
theorem PX.of {K:dR} (H :
 aD h (Value.cells Y) WA λa b=>aD b #[(.nilFunc)] Wz λb c=>NA (.func (.func CV) #[] #[(.pointer (some a)),(.pointer (some n)),(.pointer (some b))]) <|St c b (.func (.func CV) #[] #[(.pointer (some a)),(.pointer (some n)),(.pointer (some b))]) λa=>Ld a b id λb=>Ld a o Sl.v λc=>bJ Tryz.prog b [(.slice none 0 0),(Sl.v c),(.bool false)] a (λa b=>∃c:Bool,a=(.bool c)/\(K  b)) Kp) :
 PX Y n o h K Kp:=ck gz K Tryz.func55 H
noncomputable def vF:=mc Tryz.prog Tryz.f56 [(2001000,[0,1,2,3,4,5,13,14,15]),(2002,[0,1,2,3,4,5,13,14,15]),(1002903000,[0,1,2,3,4,5,13,14,15,16]),(2000004,[0,1,2,3,4,5,10,11,13,14,15]),(2000005,[0,1,2,3,4,5,10,11,12,13,14,15]),(2000007,[0,1,2,3,4,5,11,12,13,14,15])] [(5,(OT.l (List.range' 0 10) .fin),[0,0,0,0,12,0,0,126,255,511])] cJ
abbrev sO (x0 x1:Sl) (x2:Bool) (x3 x4 x5:Addr) (fj:Sl) (eu dZ:Int):Fr:=([vS x0,vS x1,vB x2,vP x3,vP x4,vP x5]++nn 7++[vS fj,vI eu,vI dZ]++nn 40)
def IY:=ov vF 5 6759 [.s, .s, .b, .d, .d, .d, .d, .s, .s,tI,tI]
def IZ:=ov vF 4 3379 [.s, .s, .b, .d, .d, .d,tI, .d, .s, .s,tI,tI]
def I0:=ov vF 3 1689 [.s, .s, .b, .d, .d, .d,tI, .d, .s,tI,tI]
def I1:=ov vF 2 105 [.s, .s, .b, .d, .d, .d, .s,tI,tI, .b]
def HW (K:aX) (Kp:PK) (x0 x1:Sl) (x2:Bool) (x3 x4 x5:Addr) (fj:Sl) (eu dZ:Int):=lQ (vF K Kp) 2002 26 [] (sO x0 x1 x2 x3 x4 x5 fj eu dZ)
def I2:=jK vF 0 13 [.s, .s, .b, .d, .d, .d, .s,tI,tI]
theorem IY.of {K:aX} (H :
 Ld h o mI λc=>If (decide ((C.n:Int) < c)) (Ld h p id λc=>Ld h ((q.add 2).add 4) Sl.v λd=>If x (bJ Tryz.prog c [(Sl.v C),(Sl.v d),(.bool true)] h (λc d=>∃e:Bool,c=(.bool e)/\(If (!e) (K false d) (Wr .i64 (b+1) λb=>N1 (sO A B x n o p D a b) d))) Kp) (Ld h (q.add 2) mI λe=>bJ Tryz.prog c [(Sl.v C),(Sl.v d),(.bool (e == 19))] h (λc d=>∃e:Bool,c=(.bool e)/\(If (!e) (K false d) (Wr .i64 (b+1) λb=>N1 (sO A B x n o p D a b) d))) Kp)) (Wr .i64 (b+1) λb=>N1 (sO A B x n o p D a b) h)) :
 IY K Kp N1 A B x n o p q C D a b h:=jf H
theorem IZ.of {K:aX} (H :
 Ld h n id λd=>gp B 7 none (some a) none λa=>aN h q λe f g i j k l=>bJ Tryz.prog d [(.agg #[(Sl.v C),(Sl.v a),(.string e),(.bool f),(.int .i64 g),(.int .i64 i),(.int .i64 j),(.int .i64 k),(Sl.v l),(.bool x)])] h (λa d=>∃e:Bool,a=(.bool e)/\(If (!e) (K false d) (IY K Kp N1 A B x n o p q C D b c d))) Kp) :
 IZ K Kp N1 A B x n o p a q C D b c h:=jf H
theorem I0.of {K:aX} (H :
 Dp A h (λd e=>aD e #[(.int .i64 a)] Y6 λe f=>Ap f Y6 #[(.int .i64 0)] 1 8 d 1 (rd f (some e) (1*1)) λd e=>IZ K Kp N1 A B x n o p a q d C b c e) Kp) :
 I0 K Kp N1 A B x n o p a q C b c h:=jf H
theorem I1.of {K:aX} (H :
 If y (Ix C.a C.n 7 b λc=>aN h c λc d e f g i j=>aD h kT fP λk l=>dW l k c d e f g i j λc=>I0 K Kp N1 A B x n o p b k C a b c) (K true h)) :
 I1 K Kp N1 A B x n o p C a b y h:=jf H
theorem HW.bB {K:aX}:eG (HW K Kp A B x n o p C a) (sO A B x n o p C a) λb c d=>(I1 K Kp b A B x n o p C a c (decide (c < a)) d):=eH
theorem I2.of {K:aX} (H :
 HW K Kp A B x n o p C a b h) :
 I2 K Kp A B x n o p C a b h:=jf H
theorem JP.of {K:aX} (H :
 I2 K Kp A B x n o p B (B.n:Int) 0 h) :
 JP A B x n o p h K Kp:=bU (vF K Kp) cJ K Tryz.func56 H
theorem Dp.of {K:dg} (H :
 If (Option.isNone A.a) (K (⟨none,0,0⟩:Sl) h) (aD h #[] Y6 λa b=>Ap b Y6 #[(.int .i64 0)] 1 8 (⟨some a,0,0⟩:Sl) A.n (rd b A.a (A.n*1)) λa b=>K a b)) :
 Dp A h K Kp:=ck fM K Tryz.func57 H
noncomputable def VP:=mc Tryz.prog Tryz.f58 [(2002,[0,6,7])] [] cJ
abbrev xI (x0:BA) (x6 x7:Int):Fr:=(fg [(0,some (.string x0)),(5,vI x6),(0,vI x7)] 28)
def HV (K:aX) (Kp:PK) (x0:BA) (x6 x7:Int):=lQ (VP K Kp) 2002 26 [] (xI x0 x6 x7)
theorem HV.bB {K:aX}:eG (HV K Kp V a) (xI V a) λb c d=>(If (decide (c < a)) (gq V c λe=>Dw e d (λd f=>If (!d) (K false f) (If (c == 0) (If (decide (e>=48)) (If (decide (e<=57)) (K false f) (Wr .i64 (c+1) λc=>b (xI V a c) f)) (Wr .i64 (c+1) λc=>b (xI V a c) f)) (Wr .i64 (c+1) λc=>b (xI V a c) f))) Kp) (If (!(V.toList == (bs []).toList)) (K (decide ((V.size:Int)<=48)) d) (K false d))):=eH
theorem DD.of {K:aX} (H :
 HV K Kp V (V.size:Int) 0 h) :
 DD V h K Kp:=bU (VP K Kp) cJ K Tryz.func58 H
theorem Dn.of {K:aX} (H :
 JN A Y h (λa b=>K (decide (a>=0)) b) Kp) :
 Dn A Y h K Kp:=ck cJ K Tryz.func59 H
theorem PW.of {K:aX} (H :
 fu h V x a b c d A λa b=>Ld b a .string λa=>Ld b (n.add 2) .string λc=>K (a.toList == c.toList) b) :
 PW V x a b c d A n h K Kp:=ck cJ K Tryz.func60 H
noncomputable def rF:=mc Tryz.prog Tryz.f61 [(2000019,[1,3,4,5,6]),(2000022,[1,3,4,6,7]),(2000023,[1,3,4,6,7,8]),(2000025,[1,3,4,7,8]),(65004,[1,3,4,74]),(65011,[1,4,81]),(64008,[1,3,4,7,58]),(64013,[1,3,4,7,63])] [] cJ
def rW:=rK rF 5 2046 [.d,tI, .b]
def rX:=rK rF 4 2046 [.d,tI,tI, .b]
def oP:=jK rF 3 1023 [.d,tI,tI, .b, .b]
def tR:=rK rF 7 4090 [.d,tI,tI, .b, .b]
def zd:=rK rF 6 4090 [.d,tI,tI, .b, .b]
def ze:=jK rF 2 511 [.d,tI,tI, .b, .b, .b]
def wD:=jK rF 1 255 [.d,tI,tI, .b, .b]
def kP:=jK rF 0 63 [.d,tI,tI,tI, .b]
theorem rW.of {K:aX} (H :
 If x (Ld h (n.add 4) Sl.v λb=>K (decide ((b.n:Int)<=a)) h) (K false h)) :
 rW K Kp n a x h:=jf H
theorem rX.of {K:aX} (H :
 If x (Ld h (n.add 4) Sl.v λc=>rW K Kp n b (decide ((c.n:Int)>=a)) h) (rW K Kp n b false h)) :
 rX K Kp n a b x h:=jf H
theorem oP.of {K:aX} (H :
 If x (rX K Kp n a b y h) (rX K Kp n a b false h)) :
 oP K Kp n a b x y h:=jf H
theorem tR.of {K:aX} (H :
 If y (Ld h (n.add 3) mI λc=>Ix (some (⟨2,0,none⟩)) 21 4 c λc=>Ld h (c.add 3) .bool λc=>oP K Kp n a b x c h) (oP K Kp n a b x false h)) :
 tR K Kp n a b x y h:=jf H
theorem zd.of {K:aX} (H :
 If y (Ld h (n.add 3) mI λc=>Ad c h (λc d=>tR K Kp n a b x c d) Kp) (tR K Kp n a b x false h)) :
 zd K Kp n a b x y h:=jf H
theorem ze.of {K:aX} (H :
 If x (Ld h (n.add 2) mI λc=>If (decide (c>=0)) (Ld h (n.add 2) mI λc=>zd K Kp n a b y (decide (c < 32)) h) (zd K Kp n a b y false h)) (oP K Kp n a b y z h)) :
 ze K Kp n a b x y z h:=jf H
theorem wD.of {K:aX} (H :
 Ld h (n.add 2) mI λc=>If (c == 0) (Ld h (n.add 3) mI λc=>ze K Kp n a b x y (c == 0) h) (ze K Kp n a b x y false h)) :
 wD K Kp n a b x y h:=jf H
theorem kP.of {K:aX} (H :
 Ld h (n.add 1) mI λd=>If (decide (c > 0)) (Ld h (n.add 1) mI λd=>If (decide (d>=1)) (Ld h (n.add 1) mI λd=>wD K Kp n a b x (decide (d<=c)) h) (wD K Kp n a b x false h)) (wD K Kp n a b x (d == 0) h)) :
 kP K Kp n a b c x h:=jf H
theorem DC.of {K:aX} (H :
 tM h a b c d A λa b=>Ld b a mI λc=>Ad c b (λb c=>If (!b) (K false c) (Ld c a mI λb=>If (b == 14) (kP K Kp a 0 0 16 false c) (If (b == 15) (If (b == 15) (kP K Kp a 1 1 0 false c) (If (b == 16) (kP K Kp a 1 1 64 false c) (If (b == 17) (kP K Kp a 0 32 0 false c) (If (b == 18) (kP K Kp a 1 32 0 false c) (If (b == 19) (kP K Kp a 1 1 0 true c) (kP K Kp a 0 0 0 false c)))))) (If (b == 20) (kP K Kp a 1 1 0 false c) (If (b == 16) (kP K Kp a 1 1 64 false c) (If (b == 17) (kP K Kp a 0 32 0 false c) (If (b == 18) (kP K Kp a 1 32 0 false c) (If (b == 19) (kP K Kp a 1 1 0 true c) (kP K Kp a 0 0 0 false c))))))))) Kp) :
 DC a b c d A h K Kp:=bU (rF K Kp) cJ K Tryz.func61 H
theorem DB.of {K:aX} (H :
 fu h V x a b c d A λa b=>Ld b (a.add 2) mI λc=>If (c == 1) (Ld b (a.add 1) .bool λa=>K a b) (If (c == 18) (Ld b (a.add 1) .bool λa=>K (!a) b) (If (c == 20) (Ld b (a.add 1) .bool λc=>Ld b ((a.add 2).add 4) Sl.v λa=>Ix a.a a.n 7 0 λa=>Ld b (a.add 1) .bool λa=>K (c == a) b) (K true b)))) :
 DB V x a b c d A h K Kp:=jt [] [(7,(OT.l (List.range' 0 10) .fin),[0,1,0,4,12,28,60,124,255,511])] cJ K Tryz.func62 H
noncomputable def VJ:=mc Tryz.prog Tryz.f64 [(2000002,[0])] [(2,(OT.l (List.range' 0 39) .fin),[0,1,3,0,8,24,56,127,0,256,768,1792,4095,0,8192,24576,57344,131071,0,262144,786432,1835008,4194303,0,8388608,25165824,58720256,134217727,0,268435456,805306368,1879048192,4294967295,0,8589934592,25769803776,60129542144,137438953471,274877906943])] xy
def IV:=jK VJ 0 7 [.t]
theorem IV.of {K:vO} (H :
 gq V 0 λa=>Wr .u64 a λa=>gq V 1 λb=>Wr .u64 b λb=>Nn 8<|Wr .u64 (b*2 ^ (min (Int.toNat 8) (IntKind.bits .u64))) λb=>Lt (dF .or .u64 a b) λa=>gq V 2 λb=>Wr .u64 b λb=>Nn 16<|Wr .u64 (b*2 ^ (min (Int.toNat 16) (IntKind.bits .u64))) λb=>Lt (dF .or .u64 a b) λa=>gq V 3 λb=>Wr .u64 b λb=>Nn 24<|Wr .u64 (b*2 ^ (min (Int.toNat 24) (IntKind.bits .u64))) λb=>Lt (dF .or .u64 a b) λa=>gq V 4 λb=>Wr .u64 b λb=>Nn 32<|Wr .u64 (b*2 ^ (min (Int.toNat 32) (IntKind.bits .u64))) λb=>Lt (dF .or .u64 a b) λa=>gq V 5 λb=>Wr .u64 b λb=>Nn 40<|Wr .u64 (b*2 ^ (min (Int.toNat 40) (IntKind.bits .u64))) λb=>Lt (dF .or .u64 a b) λa=>gq V 6 λb=>Wr .u64 b λb=>Nn 48<|Wr .u64 (b*2 ^ (min (Int.toNat 48) (IntKind.bits .u64))) λb=>Lt (dF .or .u64 a b) λa=>gq V 7 λb=>Wr .u64 b λb=>Nn 56<|Wr .u64 (b*2 ^ (min (Int.toNat 56) (IntKind.bits .u64))) λb=>Lt (dF .or .u64 a b) λa=>K a h) :
 IV K Kp V h:=jf H
theorem nW.of {K:vO} (H :
 IV K Kp V h) :
 nW V h K Kp:=bU (VJ K Kp) xy K Tryz.func64 H
theorem oQ.of {K:WV} (H :
 If (decide (a>=3)) (If (decide (a<=6)) (Wr .i64 (a - 3) λa=>Nn a<|Wr .i64 ((8:Int)*2 ^ (min (Int.toNat a) (IntKind.bits .i64))) λa=>K a true h) (Wr .i64 (a - 7) λa=>Nn a<|Wr .i64 ((8:Int)*2 ^ (min (Int.toNat a) (IntKind.bits .i64))) λa=>K a false h)) (Wr .i64 (a - 7) λa=>Nn a<|Wr .i64 ((8:Int)*2 ^ (min (Int.toNat a) (IntKind.bits .i64))) λa=>K a false h)) :
 oQ a h K Kp:=ck RT K Tryz.func65 H
noncomputable def mE:=mc Tryz.prog Tryz.f66 [(2000009,[2,3,4,5,8]),(2000015,[2,3,4,5,8]),(2000021,[2,3,4,5,8]),(2022,[2,3,4,5,8,120,121,122]),(64014,[2,3,4,5,8,13,14,120,121,122,140]),(2016,[2,3,4,5,8,99,100,101]),(2010,[2,3,4,5,8,85,86,87]),(3400005,[2,3,4,5,8,27]),(3600007,[2,3,4,5,8,48]),(47008,[2,3,4,5,8,78]),(45008,[2,3,4,5,8,56]),(45013,[2,3,4,5,8,61]),(43012,[2,3,4,5,7,8,39])] [] mu
abbrev A9 (x2 x3 x4:Addr) (x5 x8:Int) (Kq:Sl) (Ko Kn:Int):Fr:=(fg [(2,vP x2),(0,vP x3),(0,vP x4),(0,vI x5),(2,vI x8),(111,vS Kq),(0,vI Ko),(0,vI Kn)] 38)
def zj:=RM mE 4 130354 [.d, .d, .d,tI,tI,tI, .d, .s,tI,tI, .b]
def H8 (K:fm) (Kp:PK) (x2 x3 x4:Addr) (x5 x8:Int) (Kq:Sl) (Ko Kn:Int):=lQ (mE K Kp) 2022 1018 [] (A9 x2 x3 x4 x5 x8 Kq Ko Kn)
def CO:=jK mE 2 127 [.d, .d, .d,tI,tI]
abbrev MF (x2 x3 x4:Addr) (x5 x8:Int) (JZ:Sl) (Kw Ku:Int):Fr:=(fg [(2,vP x2),(0,vP x3),(0,vP x4),(0,vI x5),(2,vI x8),(90,vS JZ),(0,vI Kw),(0,vI Ku)] 59)
def H7 (K:fm) (Kp:PK) (x2 x3 x4:Addr) (x5 x8:Int) (JZ:Sl) (Kw Ku:Int):=lQ (mE K Kp) 2016 506 [] (MF x2 x3 x4 x5 x8 JZ Kw Ku)
def CP:=jK mE 1 63 [.d, .d, .d,tI,tI]
abbrev ME (x2 x3 x4:Addr) (x5 x8:Int) (J3:Sl) (J1 J0:Int):Fr:=(fg [(2,vP x2),(0,vP x3),(0,vP x4),(0,vI x5),(2,vI x8),(76,vS J3),(0,vI J1),(0,vI J0)] 73)
def H6 (K:fm) (Kp:PK) (x2 x3 x4:Addr) (x5 x8:Int) (J3:Sl) (J1 J0:Int):=lQ (mE K Kp) 2010 250 [] (ME x2 x3 x4 x5 x8 J3 J1 J0)
def CQ:=jK mE 0 31 [.d, .d, .d,tI,tI]
def wH:=rK mE 9 1950 [.d, .d, .d,tI,tI, .b]
def tU:=jK mE 8 487 [.d, .d, .d,tI,tI, .b]
def tX:=rK mE 11 486 [.d, .d, .d,tI,tI, .b]
def wG:=rK mE 10 486 [.d, .d, .d,tI,tI, .b]
def tV:=jK mE 7 121 [.d, .d, .d,tI,tI, .b]
def tW:=rK mE 12 120 [.d, .d, .d,tI,tI,tI, .b]
theorem zj.of {K:fm} (H :
 If x (Wr .i64 (a+c) λa=>iL 82 a h (λa b c d=>bX d p a b c λa=>cv a p λb c d=>K b c d a) Kp) (Ld h (n.add 2) mI λf=>If (f == 17) (Ld h q mI λf=>If (decide (f < b)) (Wr .i64 (a+c) λa=>iL 82 a h (λa b c d=>bX d p a b c λa=>cv a p λb c d=>K b c d a) Kp) (Wr .i64 (e+1) λc=>N1 (A9 n o p a b A d c) h)) (Wr .i64 (e+1) λc=>N1 (A9 n o p a b A d c) h))) :
 zj K Kp N1 n o p a b c q A d e x h:=jf H
theorem H8.bB {K:fm}:eG (H8 K Kp n o p a b A c) (A9 n o p a b A c) λd e f=>(If (decide (e < c)) (Ix A.a A.n 6 e λg=>bq f g λg i j k l m=>aD f bS bG λf q=>bw q f g i j k l m λg=>Ld g (n.add 2) mI λi=>If (i == 16) (Ld g f mI λi=>Ld g ((n.add 2).add 1) mI λj=>Wr .i64 (b*j) λj=>zj K Kp d n o p a b e f A c e (decide (i < j)) g) (zj K Kp d n o p a b e f A c e false g)) (aN f n λa b c d e g i=>bq f o λj k l m n q=>DH a b c d e g i j k l m n q f (λa b c d=>bX d p a b c λa=>cv a p λb c d=>K b c d a) Kp)):=eH
theorem CO.of {K:fm} (H :
 Ld h (o.add 4) Sl.v λc=>H8 K Kp n o p a b c (c.n:Int) 0 h) :
 CO K Kp n o p a b h:=jf H
theorem H7.bB {K:fm}:eG (H7 K Kp n o p a b A c) (MF n o p a b A c) λd e f=>(If (decide (e < c)) (Ix A.a A.n 1 e λg=>Ld f g Sl.v λg=>dH f (n.add 2) λi j k l m=>DI i j k l m e b (g.n:Int) f (λf i=>If (decide ((g.n:Int) < f)) (iL 82 e i (λa b c d=>bX d p a b c λa=>cv a p λb c d=>K b c d a) Kp) (Wr .i64 (e+1) λe=>d (MF n o p a b A c e) i)) Kp) (CO K Kp n o p a b f)):=eH
theorem CP.of {K:fm} (H :
 Ld h (o.add 3) Sl.v λc=>H7 K Kp n o p a b c (c.n:Int) 0 h) :
 CP K Kp n o p a b h:=jf H
theorem H6.bB {K:fm}:eG (H6 K Kp n o p a b A c) (ME n o p a b A c) λd e f=>(If (decide (e < c)) (Ix A.a A.n 1 e λg=>Ld f g Sl.v λg=>If (decide ((g.n:Int) > 65536)) (iL 4 e f (λa b c d=>bX d p a b c λa=>cv a p λb c d=>K b c d a) Kp) (Wr .i64 (e+1) λe=>d (ME n o p a b A c e) f)) (CP K Kp n o p a b f)):=eH
theorem CQ.of {K:fm} (H :
 Ld h (o.add 3) Sl.v λc=>H6 K Kp n o p a b c (c.n:Int) 0 h) :
 CQ K Kp n o p a b h:=jf H
theorem wH.of {K:fm} (H :
 If x (iL 3 0 h (λa b c d=>bX d p a b c λa=>cv a p λb c d=>K b c d a) Kp) (If (decide (b > 4096)) (iL 3 0 h (λa b c d=>bX d p a b c λa=>cv a p λb c d=>K b c d a) Kp) (CQ K Kp n o p a b h))) :
 wH K Kp n o p a b x h:=jf H
theorem tU.of {K:fm} (H :
 If x (iL 81 0 h (λa b c d=>bX d p a b c λa=>cv a p λb c d=>K b c d a) Kp) (Ld h o mI λc=>If (decide (c > 4096)) (wH K Kp n o p a b true h) (Ld h (o.add 1) mI λc=>wH K Kp n o p a b (decide (c > 4096)) h))) :
 tU K Kp n o p a b x h:=jf H
theorem tX.of {K:fm} (H :
 If x (tU K Kp n o p a b true h) (Ld h (o.add 2) mI λc=>Ld h o mI λd=>tU K Kp n o p a b (decide (c > d)) h)) :
 tX K Kp n o p a b x h:=jf H
theorem wG.of {K:fm} (H :
 If x (tX K Kp n o p a b true h) (Ld h (o.add 2) mI λc=>tX K Kp n o p a b (decide (c < 0)) h)) :
 wG K Kp n o p a b x h:=jf H
theorem tV.of {K:fm} (H :
 If x (iL 80 0 h (λa b c d=>bX d p a b c λa=>cv a p λb c d=>K b c d a) Kp) (Ld h o mI λc=>If (decide (c < 0)) (wG K Kp n o p a b true h) (Ld h (o.add 1) mI λc=>wG K Kp n o p a b (decide (c < 0)) h))) :
 tV K Kp n o p a b x h:=jf H
theorem tW.of {K:fm} (H :
 If x (tV K Kp n o p a c true h) (Ld h (o.add 5) Sl.v λd=>tV K Kp n o p a c ((d.n:Int) != b) h)) :
 tW K Kp n o p a b c x h:=jf H
theorem DR.of {K:fm} (H :
 fu h V x a b c d A λa b=>jX b e f g B C D λb c=>aD c iy ie λc d=>dH d (a.add 2) λe f g i j=>DJ e f g i j d (λd e f g=>Ld g (b.add 1) mI λi=>Ld g b mI λj=>Wr .i64 (i+j) λi=>Ld g (b.add 3) Sl.v λj=>If ((j.n:Int) != d) (tW K Kp a b c d f i true g) (Ld g (b.add 4) Sl.v λj=>tW K Kp a b c d f i ((j.n:Int) != e) g)) Kp) :
 DR V x a b c d A e f g B C D h K Kp:=bU (mE K Kp) mu K Tryz.func66 H
noncomputable def Gu:=mc Tryz.prog Tryz.f67 [(3500006,[2,3,4,13,14]),(2008,[3,4,24,25]),(2020,[2,3,4,71,72])] [] mu
abbrev adM (x3 x4:Addr) (lE gf:Int):Fr:=(fg [(3,vP x3),(0,vP x4),(19,vI lE),(0,vI gf)] 69)
def alo (K:fm) (Kp:PK) (x3 x4:Addr) (lE gf:Int):=lQ (Gu K Kp) 2008 1722 [] (adM x3 x4 lE gf)
abbrev adL (x2 x3 x4:Addr) (J9 um:Int):Fr:=(fg [(2,vP x2),(0,vP x3),(0,vP x4),(66,vI J9),(0,vI um)] 22)
def aln (K:fm) (Kp:PK) (x2 x3 x4:Addr) (J9 um:Int):=lQ (Gu K Kp) 2020 6906 [] (adL x2 x3 x4 J9 um)
def zi:=jK Gu 0 53 [.d, .d, .d,tI, .b]
theorem zi.of {K:fm} (H :
 If x (aN h n λa b c d e f g=>bq h o λi j k l m n=>amc a b c d e f g i j k l m n h (λa b c d=>bX d p a b c λa=>cv a p λb c d=>K b c d a) Kp) (If (a == 18) (Ld h o mI λa=>alo K Kp o p a 0 h) (If (a == 19) (Ld h o mI λa=>aln K Kp n o p a 0 h) (bX h p 0 (⟨none,0,0⟩:Sl) 0 λa=>cv a p λb c d=>K b c d a)))) :
 zi K Kp n o p a x h:=jf H
theorem DQ.of {K:fm} (H :
 fu h V x a b c d A λa b=>jX b e f g B C D λb c=>aD c iy ie λc d=>Ld d (a.add 2) mI λe=>If (e == 12) (zi K Kp a b c e (e == 12) d) (If (e == 13) (zi K Kp a b c e (e == 13) d) (zi K Kp a b c e (e == 15) d))) :
 DQ V x a b c d A e f g B C D h K Kp:=bU (Gu K Kp) mu K Tryz.func67 H
theorem DV.of {K:dg} (H :
 jX h a b c A B C λa b=>Ld b (a.add 5) Sl.v λc=>If (decide ((c.n:Int) > 0)) (Ld b (a.add 5) Sl.v λa=>K a b) (Ld b (a.add 4) Sl.v λa=>K a b)) :
 DV a b c A B C h K Kp:=ck fM K Tryz.func68 H
noncomputable def vG:=mc Tryz.prog Tryz.f71 [(2005,[2,3,4,7,8,9,25,26]),(2000036,[2,3,4,7,8,9,10,12,13,25,26]),(2037,[2,3,4,7,8,9,10,25,26,191,192,193]),(4600017,[2,3,4,7,8,9,10,11,12,13,25,26,41,52]),(2023,[2,3,4,7,8,9,10,11,12,13,25,26,103,104,105]),(2033,[2,3,4,7,8,9,10,11,12,13,16,25,26])] [(13,(OT.l (List.range' 0 9) .fin),[0,0,3,7,0,16,63,127,255]),(16,(OT.l [0,1,2,3,4,5,6,7,8,9,11,12,13,14,15,10,16,17,18,19,20] .fin),[0,0,3,7,0,16,48,112,0,256,1008,0,2048,6144,14336,0,65520,131056,262143,524287,1048575]),(18,(OT.l [0,1,2,3,4,6,7,8,9,10,11,5,12,13,14] .fin),[0,1,3,7,0,31,0,64,192,448,0,1024,4095,8191,16383]),(20,(OT.l (List.range' 0 11) .fin),[0,0,2,7,0,16,0,64,240,15,1023]),(25,(OT.l (List.range' 0 11) .fin),[0,0,3,7,0,0,48,112,255,511,1023]),(28,(OT.l (List.range' 0 25) .fin),[0,0,3,7,0,0,32,96,224,0,992,2016,4080,8176,0,16384,49152,114688,0,507904,1048560,2097136,4194303,8388607,16777215]),(30,(OT.l (List.range' 0 13) .fin),[0,0,0,4,12,0,0,0,224,508,1020,2047,4095]),(33,(OT.l [0,1,2,3,4,5,6,7,9,8,10] .fin),[0,1,3,7,0,16,0,112,255,0,1023])] fM
abbrev A8 (x2:Sl) (x3 x4 x7:Addr) (x8:Sl) (gf x9 gL:Int):Fr:=(fg [(2,vS x2),(0,vP x3),(0,vP x4),(2,vP x7),(0,vS x8),(0,vI x9),(15,vI gf),(0,vI gL)] 180)
abbrev MB (x2:Sl) (x3 x4 x7:Addr) (x8:Sl) (x9 lG gf gL:Int) (Kl:Sl) (Kk Kj:Int):Fr:=(fg [(2,vS x2),(0,vP x3),(0,vP x4),(2,vP x7),(0,vS x8),(0,vI x9),(0,vI lG),(14,vI gf),(0,vI gL),(164,vS Kl),(0,vI Kk),(0,vI Kj)] 13)
def HY (K:dg) (Kp:PK) (N1:Fr->HP) (x2:Sl) (x3 x4 x7:Addr) (x8:Sl) (x9 lG gf gL:Int) (Kl:Sl) (Kk Kj:Int):=lQ (vG K Kp) 2037 2051326 [N1] (MB x2 x3 x4 x7 x8 x9 lG gf gL Kl Kk Kj)
def qs:=ov vG 1 512831 [.s, .d, .d, .d, .s,tI,tI,tI,tI,tI,tI]
abbrev adK (x2:Sl) (x3 x4 x7:Addr) (x8:Sl) (x9 lG lF gN fj gf gL:Int) (Kt:Sl) (Ks Kr:Int):Fr:=(fg [(2,vS x2),(0,vP x3),(0,vP x4),(2,vP x7),(0,vS x8),(0,vI x9),(0,vI lG),(0,vI lF),(0,vI gN),(0,vI fj),(11,vI gf),(0,vI gL),(76,vS Kt),(0,vI Ks),(0,vI Kr)] 101)
def alm (K:dg) (Kp:PK) (N1:Fr->HP) (x2:Sl) (x3 x4 x7:Addr) (x8:Sl) (x9 lG lF gN fj gf gL:Int) (Kt:Sl) (Ks Kr:Int):=lQ (vG K Kp) 2023 8402219002 [N1] (adK x2 x3 x4 x7 x8 x9 lG lF gN fj gf gL Kt Ks Kr)
abbrev adJ (x2:Sl) (x3 x4 x7:Addr) (x8:Sl) (lG lF gN fj:Int) (fh:Addr) (gf gL x9:Int):Fr:=([nO,nO,vS x2,vP x3,vP x4,nO,nO,vP x7,vS x8,vI x9,vI lG,vI lF,vI gN,vI fj,nO,nO,vP fh]++nn 8++[vI gf,vI gL]++nn 180)
def alk (K:dg) (Kp:PK) (N1:Fr->HP) (x2:Sl) (x3 x4 x7:Addr) (x8:Sl) (lG lF gN fj:Int) (fh:Addr) (gf gL x9:Int):=lQ (vG K Kp) 2033 1075484033012 [N1] (adJ x2 x3 x4 x7 x8 lG lF gN fj fh gf gL x9)
def CN:=ov vG 3 16410583 [.s, .d, .d, .d, .s,tI,tI,tI,tI,tI,tI,tI,tI, .b]
def HZ (K:dg) (Kp:PK) (x2:Sl) (x3 x4 x7:Addr) (x8:Sl) (gf x9 gL:Int):=lQ (vG K Kp) 2005 250 [] (A8 x2 x3 x4 x7 x8 gf x9 gL)
theorem HY.bB {K:dg}:eG (HY K Kp N1 A n o p B a b c d C e) (MB A n o p B a b c d C e) λf g i=>(If (decide (g < e)) (Ix C.a C.n 1 g λj=>Ld i j mI λj=>Ix B.a B.n 1 b λk=>Ld i k mI λk=>Wr .i64 (k+j) λj=>Ix B.a B.n 1 b λk=>St i k (.int .i64 j) λi=>Wr .i64 (g+1) λg=>f (MB A n o p B a b c d C e g) i) (Wr .i64 (d+1) λb=>N1 (A8 A n o p B c a b) i)):=eH
theorem qs.of {K:dg} (H :
 JQ A c d h (λc d=>HY K Kp N1 A n o p B a b e f c (c.n:Int) 0 d) Kp) :
 qs K Kp N1 A n o p B a b c d e f h:=jf H
theorem CN.of {K:dg} (H :
 If x (Ix B.a B.n 1 b λi=>Ld h i mI λj=>Ld h (o.add 3) Sl.v λk=>Ix k.a k.n 1 1 λk=>Ld h k Sl.v λk=>Wr .i64 (c+1) λl=>Ld h (o.add 3) Sl.v λm=>Ix m.a m.n 1 1 λm=>Ld h m Sl.v λq=>DG k l h (λk l=>aO h l m 1 <|aO h l (o.add 3) 1 <|aO h l i 1 <|DG q c l (λc m=>aO l m i 1 <|Wr .i64 (k - c) λc=>Wr .i64 (j+c) λc=>Ix B.a B.n 1 b λi=>St m i (.int .i64 c) λc=>qs K Kp N1 A n o p B a b d e f g c) Kp) Kp) (If (i == 15) (Ld h (o.add 3) Sl.v λd=>Ix d.a d.n 1 1 λd=>Ld h d Sl.v λd=>Ld h (o.add 3) Sl.v λe=>Ix e.a e.n 1 1 λe=>Ld h e Sl.v λi=>Wr .i64 (c+1) λj=>DG d c h (λc d=>aO h d e 1 <|aO h d (o.add 3) 1 <|DG i j d (λd e=>qs K Kp N1 A n o p B a b c d f g e) Kp) Kp) (If (i == 16) (Ld h (p.add 1) mI λd=>Wr .i64 (c*d) λd=>Wr .i64 (c+1) λc=>Ld h (p.add 1) mI λe=>Wr .i64 (c*e) λc=>qs K Kp N1 A n o p B a b d c f g h) (If (i == 17) (alm K Kp N1 A n o p B a b c d e f g A (A.n:Int) 0 h) (If (i == 18) (Ix B.a B.n 1 b λi=>Ld h i mI λj=>Ld h (o.add 3) Sl.v λk=>Ix k.a k.n 1 0 λk=>Ld h k Sl.v λl=>Ix l.a l.n 1 c λl=>Ld h l (.int .u8) λm=>Ix A.a A.n 1 m λm=>Ld h m Sl.v λq=>Ld h (o.add 3) Sl.v λr=>Ix r.a r.n 1 1 λr=>Ld h r Sl.v λr=>DG r c h (λc r=>aO h r m 1 <|aO h r l 1 <|aO h r k 1 <|aO h r (o.add 3) 1 <|aO h r i 1 <|Ix q.a q.n 1 c λc=>Ld r c mI λc=>Wr .i64 (j+c) λc=>Ix B.a B.n 1 b λi=>St r i (.int .i64 c) λc=>qs K Kp N1 A n o p B a b d e f g c) Kp) (If (i == 19) (Ix A.a A.n 1 0 λi=>Ld h i Sl.v λj=>aN h n λk l m q r s t=>bq h o λu v w x y z=>amb k l m q r s t u v w x y z c h (λc k=>aO h k i 1 <|Ix j.a j.n 1 c λc=>Ld k c mI λc=>Ix B.a B.n 1 b λi=>St k i (.int .i64 c) λc=>qs K Kp N1 A n o p B a b d e f g c) Kp) (If (i == 20) (Ld h (o.add 4) Sl.v λi=>Ix i.a i.n 6 0 λi=>bq h i λi j k l m q=>aD h bS bG λr s=>bw s r i j k l m q λi=>alk K Kp N1 A n o p B b c d e r f g a i) (qs K Kp N1 A n o p B a b d e f g h)))))))) :
 CN K Kp N1 A n o p B a b c d e f g i x h:=jf H
theorem HZ.bB {K:dg}:iK (HZ K Kp A n o p B a) (A8 A n o p B a) λb c d e=>(If (decide (d < a)) (Ld e (o.add 1) mI λf=>Wr .i64 (f+d) λf=>Ix B.a B.n 1 d λg=>St e g (.int .i64 16) λe=>aN e n λg i j k l m q=>bq e o λr s t u v w=>Ah g i j k l m q r s t u v w f e (λe g=>If e (Wr .i64 (d+1) λd=>b (A8 A n o p B a c d) g) (Ld g p mI λe=>If (e == 14) (Ix B.a B.n 1 d λe=>Ld g e mI λe=>Ld g (p.add 1) mI λf=>Wr .i64 (e+f) λe=>Ix B.a B.n 1 d λf=>St g f (.int .i64 e) λe=>qs K Kp b A n o p B c d 0 0 a d e) (If (e == 12) (CN K Kp b A n o p B c d f 0 0 a d e (e == 12) g) (CN K Kp b A n o p B c d f 0 0 a d e (e == 13) g)))) Kp) (K B e)):=iV
theorem DP.of {K:dg} (H :
 fu h V x a b c d A λa b=>jX b e f g B C D λb c=>dH c (a.add 2) λd e f g i=>aD c uk mG λc j=>jz j c d e f g i λd=>Ld d b mI λe=>bI d Y6 #[(.int .i64 0)] 1 8 e e λd e=>HZ K Kp E a b c d (d.n:Int) 0 0 e) :
 DP V x a b c d A e f g B C D E h K Kp:=bU (vG K Kp) fM K Tryz.func71 H
theorem DW.of {K:m7} (H :
 aD h dO bW λb c=>NN P λd=>Ld c (d.add 13) mI λd=>Wr .i64 (d+a) λa=>DN P a Q c (λa c d e f=>bV f b a c d e λa=>aQ a b λb c d e=>K b c d e a) Kp) :
 DW P a Q h K Kp:=ck qK K Tryz.func73 H
noncomputable def Gr:=mc Tryz.prog Tryz.f74 [(41006,[0,8]),(41014,[0,16]),(41022,[0,24])] [] cJ
def zb:=rK Gr 2 6 [.i .u8, .b]
def zc:=rK Gr 1 6 [.i .u8, .b]
def CE:=rK Gr 0 6 [.i .u8, .b]
theorem zb.of {K:aX} (H :
 If x (K true h) (K (a == 95) h)) :
 zb K Kp a x h:=jf H
theorem zc.of {K:aX} (H :
 If x (zb K Kp a true h) (If (decide (a>=48)) (zb K Kp a (decide (a<=57)) h) (zb K Kp a false h))) :
 zc K Kp a x h:=jf H
theorem CE.of {K:aX} (H :
 If x (zc K Kp a true h) (If (decide (a>=65)) (zc K Kp a (decide (a<=90)) h) (zc K Kp a false h))) :
 CE K Kp a x h:=jf H
theorem Dw.of {K:aX} (H :
 If (decide (a>=97)) (CE K Kp a (decide (a<=122)) h) (CE K Kp a false h)) :
 Dw a h K Kp:=bU (Gr K Kp) cJ K Tryz.func74 H
noncomputable def VL:=mc Tryz.prog Tryz.f75 [(2002,[0,1,7,8])] [] cy
abbrev My (x0:Sl) (x1:Value) (x7 x8:Int):Fr:=(fg [(0,vS x0),(0,some x1),(5,vI x7),(0,vI x8)] 10)
def HS (K:bP) (Kp:PK) (x0:Sl) (x1:Value) (x7 x8:Int):=lQ (VL K Kp) 2002 26 [] (My x0 x1 x7 x8)
theorem HS.bB {K:bP}:eG (HS K Kp A Y a) (My A Y a) λb c d=>(If (decide (c < a)) (Ix A.a A.n 7 c λe=>aN d e λe f g i j k l=>bJ Tryz.prog Y [(.agg #[(.string e),(.bool f),(.int .i64 g),(.int .i64 i),(.int .i64 j),(.int .i64 k),(Sl.v l)])] d (λd e=>∃f:Bool,d=(.bool f)/\(If f (K c e) (Wr .i64 (c+1) λc=>b (My A Y a c) e))) Kp) (K (-1) d)):=eH
theorem JN.of {K:bP} (H :
 HS K Kp A Y (A.n:Int) 0 h) :
 JN A Y h K Kp:=bU (VL K Kp) cy K Tryz.func75 H
theorem Ad.of {K:aX} (H :
 If (decide (a>=1)) (K (decide (a<=20)) h) (K false h)) :
 Ad a h K Kp:=ck cJ K Tryz.func76 H
noncomputable def VR:=mc Tryz.prog Tryz.f83 [(2000005,[1,4])] [(5,(OT.l [0,1,2,3,4,5,8,6,7,9,10,11] .fin),[0,1,3,7,15,0,32,96,0,127,767,2047])] Lw
def zh:=jK VR 0 15 [.d,tI]
theorem zh.of {K:Pk} (H :
 Ld h n mI λb=>Ix (some (⟨2,0,none⟩)) 21 4 b λb=>Ld h (b.add 2) mI λc=>dH h n λd e f g i=>DA d e f g i h (λd e=>aO h e (b.add 2) 1 <|aO h e n 1 <|K c (d.n:Int) a e) Kp) :
 zh K Kp n a h:=jf H
theorem DJ.of {K:Pk} (H :
 tM h a b c d A λa b=>dH b a λc d e f g=>wR c d e f g b (λb c=>If (!b) (K (-1) (-1) (-1) c) (Ld c a mI λb=>If (b == 19) (zh K Kp a 1 c) (zh K Kp a 0 c))) Kp) :
 DJ a b c d A h K Kp:=bU (VR K Kp) Lw K Tryz.func83 H
noncomputable def Gt:=mc Tryz.prog Tryz.f84 [(3500006,[1,2,4,18]),(3700008,[2,4,27]),(48008,[2,4,45])] [] cy
def zf:=rK Gt 2 1662 [tI, .d, .b]
def zg:=jK Gt 1 415 [tI, .d, .b]
def wE:=jK Gt 0 103 [tI,tI, .d, .b]
theorem zf.of {K:bP} (H :
 If x (Wr .i64 (a+1) λa=>Wr .i64 ((4:Int)*a) λa=>K a h) (Ld h n mI λb=>If (b == 15) (Wr .i64 (a+1) λa=>Wr .i64 ((4:Int)*a) λa=>K a h) (dH h n λb c d e f=>Dy b c d e f h (λb c=>Wr .i64 (a*b) λa=>K a c) Kp))) :
 zf K Kp a n x h:=jf H
theorem zg.of {K:bP} (H :
 If x (Dz a h (λa b=>K a b) Kp) (Ld h n mI λb=>If (b == 12) (zf K Kp a n true h) (Ld h n mI λb=>zf K Kp a n (b == 13) h))) :
 zg K Kp a n x h:=jf H
theorem wE.of {K:bP} (H :
 If x (K 0 h) (If (a == 0) (zg K Kp b n true h) (Ld h n mI λa=>zg K Kp b n (a == 2) h))) :
 wE K Kp a b n x h:=jf H
theorem DI.of {K:bP} (H :
 tM h a b c d A λa b=>Ld b a mI λc=>If (c == 18) (Wr .i64 ((3:Int)*e) λa=>Wr .i64 ((1:Int)+a) λa=>Wr .i64 (f*a) λa=>K a b) (If (e == 0) (If (g == 0) (wE K Kp e f a (g == 0) b) (wE K Kp e f a (e == 2) b)) (wE K Kp e f a (e == 2) b))) :
 DI a b c d A e f g h K Kp:=bU (Gt K Kp) cy K Tryz.func84 H
theorem DH.of {K:fm} (H :
 fu h V x a b c d A λa b=>jX b e f g B C D λb c=>aD c iy ie λc d=>aN d a λe f g i j k l=>bq d b λm n p q r s=>CX e f g i j k l m n p q r s d (λd e=>Ld e (b.add 2) mI λb=>If (b != d) (iL 81 1 e (λa b d e=>bX e c a b d λa=>cv a c λb c d=>K b c d a) Kp) (If (decide (d > 0)) (Ld e (a.add 1) .bool λa=>If (!a) (iL 81 1 e (λa b d e=>bX e c a b d λa=>cv a c λb c d=>K b c d a) Kp) (bX e c 0 (⟨none,0,0⟩:Sl) 0 λa=>cv a c λb c d=>K b c d a)) (bX e c 0 (⟨none,0,0⟩:Sl) 0 λa=>cv a c λb c d=>K b c d a))) Kp) :
 DH V x a b c d A e f g B C D h K Kp:=ck mu K Tryz.func85 H
noncomputable def VV:=mc Tryz.prog Tryz.f88 [(2000005,[2,4])] [] cJ
def I6:=jK VV 0 15 [tI, .d]
theorem I6.of {K:aX} (H :
 Ld h (n.add 3) Sl.v λb=>Ix b.a b.n 1 0 λb=>Ld h b Sl.v λb=>DO b a h (λa _ b=>K (!a) b) Kp) :
 I6 K Kp a n h:=jf H
theorem Ah.of {K:aX} (H :
 fu h V x a b c d A λa b=>jX b e f g B C D λb c=>Ld c (a.add 2) mI λd=>If (d == 1) (K true c) (Ld c (a.add 2) mI λa=>Ag a c (λa c=>If (!a) (K false c) (Ld c (b.add 3) Sl.v λa=>Ix a.a a.n 1 0 λa=>Ld c a Sl.v λa=>If ((a.n:Int) == 0) (K false c) (I6 K Kp i b c))) Kp)) :
 Ah V x a b c d A e f g B C D i h K Kp:=bU (VV K Kp) cJ K Tryz.func88 H
theorem JQ.of {K:dg} (H :
 If (a == b) (K (⟨none,0,0⟩:Sl) h) (Ix A.a A.n 1 0 λc=>Ld h c Sl.v λc=>gp c 1 (some a) (some b) none λa=>K a h)) :
 JQ A a b h K Kp:=ck fM K Tryz.func90 H
theorem DN.of {K:m7} (H :
 aD h dO bW λb c=>zE P a c (λc d=>If c (wS Q 16 d (λa=>bV a b true 0 (bs []) (⟨none,0,0⟩:Sl) λa=>aQ a b λb c d e=>K b c d e a) Kp) (NN P λc=>Ld d (c.add 16) id λc=>cL Tryz.prog c "colonnade/array.read" [(.pointer P),(.int .i64 a),(.pointer Q)] d (λa c=>∃d:Bool,∃e:Int,∃f:BA,∃g:Sl,a=(.agg #[(.bool d),(.int .i64 e),(.string f),(Sl.v g)])/\(bV c b d e f g λa=>aQ a b λb c d e=>K b c d e a)) Kp)) Kp) :
 DN P a Q h K Kp:=ck qK K Tryz.func91 H
theorem wR.of {K:aX} (H :
 tM h a b c d A λa b=>dH b a λa c d e f=>Du a c d e f b (λa b c d e f g i=>tY a b c d e f g i (λa _ _ b=>K (a == 0) b) Kp) Kp) :
 wR a b c d A h K Kp:=ck cJ K Tryz.func97 H
noncomputable def VO:=mc Tryz.prog Tryz.f98 [(2000003,[1])] [] fM
def IX:=jK VO 0 7 [.d]
theorem IX.of {K:dg} (H :
 Ld h (n.add 4) Sl.v λa=>Ac a h (λa b=>Ld b n mI λc=>If (c == 20) (aD b #[(.string (bs [101,110,100,115])),(.bool false),(.int .i64 5),(.int .i64 0),(.int .i64 0),(.int .i64 0),(.slice none 0 0)] fP λb c=>Ap c fP kT 7 80 (⟨some b,1,1⟩:Sl) a.n (rd c a.a (a.n*7)) λa b=>K a b) (K a b)) Kp) :
 IX K Kp n h:=jf H
theorem DA.of {K:dg} (H :
 tM h a b c d A λa b=>dH b a λc d e f g=>wR c d e f g b (λb c=>If (!b) (K (⟨none,0,0⟩:Sl) c) (Ld c a mI λb=>If (b == 19) (K (⟨none,0,0⟩:Sl) c) (IX K Kp a c))) Kp) :
 DA a b c d A h K Kp:=bU (VO K Kp) fM K Tryz.func98 H
theorem Dz.of {K:bP} (H :
 If (decide (a<=0)) (K 0 h) (Wr .i64 (a - 1) λa=>Dv 8<|Wr .i64 (Int.tdiv a 8) λa=>Wr .i64 (a+1) λa=>K a h)) :
 Dz a h K Kp:=ck cy K Tryz.func99 H
theorem Dy.of {K:bP} (H :
 tM h a b c d A λa b=>dH b a λc d e f g=>wR c d e f g b (λb c=>If (!b) (K 0 c) (Ld c a mI λb=>If (b == 14) (Ld c (a.add 1) mI λa=>K a c) (If (b == 19) (Ld c (a.add 3) mI λa=>Ix (some (⟨2,0,none⟩)) 21 4 a λa=>Ld c (a.add 1) mI λa=>K a c) (Ld c a mI λa=>Ix (some (⟨2,0,none⟩)) 21 4 a λa=>Ld c (a.add 1) mI λa=>K a c)))) Kp) :
 Dy a b c d A h K Kp:=ck cy K Tryz.func100 H
noncomputable def Vl:=mc Tryz.prog Tryz.f101 [(2003,[2,3,5,8,9])] [] cy
abbrev Fb (x2 x3:Addr) (x8 x5 x9:Int):Fr:=([nO,nO,vP x2,vP x3,nO,vI x5,nO,nO,vI x8,vI x9]++nn 13)
def GU (K:bP) (Kp:PK) (x2 x3:Addr) (x8 x5 x9:Int):=lQ (Vl K Kp) 2003 58 [] (Fb x2 x3 x8 x5 x9)
theorem GU.bB {K:bP}:iK (GU K Kp n o a) (Fb n o a) λb c d e=>(If (decide (d < a)) (aN e n λf g i j k l m=>bq e o λp q r s t u=>Ld e (o.add 1) mI λv=>Wr .i64 (v+d) λv=>Ah f g i j k l m p q r s t u v e (λe f=>If e (Wr .i64 (c+1) λc=>Wr .i64 (d+1) λd=>b (Fb n o a c d) f) (Wr .i64 (d+1) λd=>b (Fb n o a c d) f)) Kp) (K c e)):=iV
theorem CX.of {K:bP} (H :
 fu h V x a b c d A λa b=>jX b e f g B C D λb c=>Ld c b mI λd=>GU K Kp a b d 0 0 c) :
 CX V x a b c d A e f g B C D h K Kp:=bU (Vl K Kp) cy K Tryz.func101 H
noncomputable def VU:=mc Tryz.prog Tryz.f103 [(41006,[0,8])] [] cJ
def zm:=rK VU 0 6 [tI, .b]
theorem zm.of {K:aX} (H :
 If x (K (a != 20) h) (K false h)) :
 zm K Kp a x h:=jf H
theorem Ag.of {K:aX} (H :
 If (a != 1) (zm K Kp a (a != 18) h) (zm K Kp a false h)) :
 Ag a h K Kp:=bU (VU K Kp) cJ K Tryz.func103 H
theorem DO.of {K:WU} (H :
 If (decide (a < 0)) (K false 1 h) (Dv 8<|Wr .i64 (Int.tdiv a 8) λb=>If (decide (b>=(A.n:Int))) (K false 2 h) (DF A a h (λa b=>K a 0 b) Kp))) :
 DO A a h K Kp:=ck RS K Tryz.func104 H
noncomputable def VN:=mc Tryz.prog Tryz.f105 [(3400005,[3,4])] [] cy
def CF:=jK VN 0 53 [tI, .b]
theorem CF.of {K:bP} (H :
 If x (K 1 h) (If (a == 4) (If (a == 4) (K 2 h) (If (a == 5) (If (a == 5) (K 4 h) (If (a == 6) (If (a == 6) (K 8 h) (K 0 h)) (If (a == 10) (If (a == 10) (K 8 h) (K 0 h)) (If (a == 11) (K 8 h) (K 0 h))))) (If (a == 9) (K 4 h) (If (a == 6) (If (a == 6) (K 8 h) (K 0 h)) (If (a == 10) (If (a == 10) (K 8 h) (K 0 h)) (If (a == 11) (K 8 h) (K 0 h))))))) (If (a == 8) (K 2 h) (If (a == 5) (If (a == 5) (K 4 h) (If (a == 6) (If (a == 6) (K 8 h) (K 0 h)) (If (a == 10) (If (a == 10) (K 8 h) (K 0 h)) (If (a == 11) (K 8 h) (K 0 h))))) (If (a == 9) (K 4 h) (If (a == 6) (If (a == 6) (K 8 h) (K 0 h)) (If (a == 10) (If (a == 10) (K 8 h) (K 0 h)) (If (a == 11) (K 8 h) (K 0 h))))))))) :
 CF K Kp a x h:=jf H
theorem Dx.of {K:bP} (H :
 If (a == 3) (CF K Kp a (a == 3) h) (CF K Kp a (a == 7) h)) :
 Dx a h K Kp:=bU (VN K Kp) cy K Tryz.func105 H
noncomputable def Vk:=mc Tryz.prog Tryz.f106 [(2000005,[0,1])] [] cJ
def Ij:=jK Vk 0 15 [.p,tI]
theorem Ij.of {K:aX} (H :
 qx P 0 h (λb c d e=>Dv 8<|Wr .i64 (Int.tdiv a 8) λf=>Af b c d f e (λb _ c=>Dv 8<|Lt (Int.tmod a 8) λa=>Nn a<|Lt (Int.fdiv b (2 ^ (min (Int.toNat a) (IntKind.bits .u8)))) λa=>Lt (dF .and .u8 a 1) λa=>K (a == 0) c) Kp) Kp) :
 Ij K Kp P a h:=jf H
theorem zE.of {K:aX} (H :
 NN P λb=>Ld h (b.add 2) mI λb=>If (b == 1) (K true h) (NN P λb=>Ld h (b.add 2) mI λb=>Ag b h (λb c=>If (!b) (K false c) (NN P λb=>Ld c ((b.add 7).add 3) Sl.v λb=>Ix b.a b.n 1 0 λb=>Ld c b Sl.v λb=>If ((b.n:Int) == 0) (K false c) (Ij K Kp P a c))) Kp)) :
 zE P a h K Kp:=bU (Vk K Kp) cJ K Tryz.func106 H
theorem wS.of {K:dR} (H :
 NN P λb=>Ld h b mI λb=>Wr .i64 (b - a) λa=>NN P λb=>St h b (.int .i64 a) λa=>NN P λb=>Ld a b mI λb=>If (decide (b < 0)) (Kp [{ v:=(.iface akL (.agg #[])),recovered:=false }] a) (K  a)) :
 wS P a h K Kp:=ck gz K Tryz.func107 H
theorem Du.of {K:tK} (H :
 tM h a b c d A λa b=>aD b kT fP λb c=>dH c a λd e f g i=>aD c kT fP λc j=>dW j c (bs [97]) false d e f g i λd=>Ld d a mI λe=>If (e == 1) (St d (c.add 1) (.bool true) λa=>aN a c λc d e f g i j=>dW a b c d e f g i j λa=>aN a b λb c d e f g i=>K b c d e f g i a) (Ld d a mI λe=>If (e == 20) (Ld d (a.add 4) Sl.v λe=>If (decide ((e.n:Int) > 0)) (Ld d (a.add 4) Sl.v λa=>Ix a.a a.n 7 0 λa=>Ld d (a.add 1) .bool λa=>St d (c.add 1) (.bool a) λa=>aN a c λc d e f g i j=>dW a b c d e f g i j λa=>aN a b λb c d e f g i=>K b c d e f g i a) (St d (c.add 1) (.bool false) λa=>aN a c λc d e f g i j=>dW a b c d e f g i j λa=>aN a b λb c d e f g i=>K b c d e f g i a)) (St d (c.add 1) (.bool false) λa=>aN a c λc d e f g i j=>dW a b c d e f g i j λa=>aN a b λb c d e f g i=>K b c d e f g i a))) :
 Du a b c d A h K Kp:=ck xx K Tryz.func110 H
noncomputable def VM:=mc Tryz.prog Tryz.f111 [(2003,[3,6,7,8])] [] fM
abbrev Mz (x6:Sl) (x7:Int) (x3:Sl) (x8:Int):Fr:=(fg [(3,vS x3),(2,vS x6),(0,vI x7),(0,vI x8)] 16)
def HU (K:dg) (Kp:PK) (x6:Sl) (x7:Int) (x3:Sl) (x8:Int):=lQ (VM K Kp) 2003 58 [] (Mz x6 x7 x3 x8)
theorem HU.bB {K:dg}:iK (HU K Kp A a) (Mz A a) λb c d e=>(If (decide (d < a)) (Ix A.a A.n 7 d λf=>aN e f λf g i j k l m=>aD e kT fP λe n=>dW n e f g i j k l m λf=>Ld f ((e.add 2).add 4) Sl.v λg=>Ac g f (λf g=>St g ((e.add 2).add 4) (Sl.v f) λf=>aN f e λe g i j k l m=>aD f #[(.string e),(.bool g),(.int .i64 i),(.int .i64 j),(.int .i64 k),(.int .i64 l),(Sl.v m)] fP λe f=>Ap f fP kT 7 80 c 1 (rd f (some e) (1*7)) λc e=>Wr .i64 (d+1) λd=>b (Mz A a c d) e) Kp) (Dm c e (λa b=>K a b) Kp)):=iV
theorem Ac.of {K:dg} (H :
 HU K Kp A (A.n:Int) (⟨none,0,0⟩:Sl) 0 h) :
 Ac A h K Kp:=bU (VM K Kp) fM K Tryz.func111 H
theorem DF.of {K:aX} (H :
 Dv 8<|Wr .i64 (Int.tdiv a 8) λb=>Ix A.a A.n 1 b λb=>Ld h b (.int .u8) λb=>Dv 8<|Lt (Int.tmod a 8) λa=>Nn a<|Lt (Int.fdiv b (2 ^ (min (Int.toNat a) (IntKind.bits .u8)))) λa=>Lt (dF .and .u8 a 1) λa=>K (a == 1) h) :
 DF A a h K Kp:=ck cJ K Tryz.func113 H
theorem qx.of {K:GN} (H :
 aD h Ee BZ λb c=>NN P λd=>Ld c ((d.add 7).add 3) Sl.v λd=>Ix d.a d.n 1 a λa=>Ld c a Sl.v λa=>NN P λd=>Ld c (d.add 15) .pointer λe=>DM a c (λa f g i=>aO c i (d.add 15) 1 <|DL a f g e i (λa c d e=>m8 e b a c d λa=>fQ a b λb c d=>K b c d a) Kp) Kp) :
 qx P a h K Kp:=jt [] [(1,(OT.l [0,1,2,3,4,5,6,7,9,10,11,12,8,13,14] .fin),[0,1,3,7,15,0,63,127,255,0,512,1536,3584,8191,16383])] EU K Tryz.func114 H
theorem Af.of {K:WT} (H :
 vV h A a P λa c=>fQ c a λd e f=>wU d e f b 1 c (λc d=>If (!c) (K 0 2 d) (fQ d a λa c e=>wT a c e b 1 d (λa b=>Ix a.a a.n 1 0 λa=>Ld b a (.int .u8) λa=>K a 0 b) Kp)) Kp) :
 Af A a P b h K Kp:=ck RR K Tryz.func115 H
theorem Dm.of {K:dg} (H :
 gp A 7 none (some (A.n:Int)) (some (A.n:Int)) λa=>K a h) :
 Dm A h K Kp:=ck fM K Tryz.func116 H
theorem DM.of {K:GN} (H :
 aD h Ee BZ λa b=>gp A 1 none (some (A.n:Int)) (some (A.n:Int)) λc=>m8 b a c 0 none λb=>fQ b a λa c d=>K a c d b) :
 DM A h K Kp:=ck EU K Tryz.func117 H
theorem DL.of {K:GN} (H :
 vV h A a P λa b=>aD b Ee BZ λb c=>St c (a.add 2) (.pointer Q) λc=>fQ c a λa d e=>m8 c b a d e λa=>fQ a b λb c d=>K b c d a) :
 DL A a P Q h K Kp:=ck EU K Tryz.func118 H
noncomputable def OJ:=mc Tryz.prog Tryz.f119 [(41006,[1,2,3,12]),(41013,[1,2,3,19])] [] cJ
def CJ:=rK OJ 1 6 [tI,tI, .d, .b]
def CK:=rK OJ 0 6 [tI,tI, .d, .b]
theorem CJ.of {K:aX} (H :
 If x (Ld h n Sl.v λc=>Wr .i64 ((c.n:Int) - a) λa=>K (decide (b<=a)) h) (K false h)) :
 CJ K Kp a b n x h:=jf H
theorem CK.of {K:aX} (H :
 If x (Ld h n Sl.v λc=>CJ K Kp a b n (decide (a<=(c.n:Int))) h) (CJ K Kp a b n false h)) :
 CK K Kp a b n x h:=jf H
theorem wU.of {K:aX} (H :
 vV h A a P λa d=>If (decide (b>=0)) (CK K Kp b c a (decide (c>=0)) d) (CK K Kp b c a false d)) :
 wU A a P b c h K Kp:=bU (OJ K Kp) cJ K Tryz.func119 H
noncomputable def VT:=mc Tryz.prog Tryz.f120 [(3209999,[1,2,3,13])] [(2,(OT.l (List.range' 0 23) .fin),[0,1,0,4,12,28,60,0,128,0,896,0,2048,0,14336,0,63488,130944,262016,524284,1048575,2097151,4194303])] fM
def CG:=jK VT 0 13 [tI,tI, .d, .b]
theorem CG.of {K:dg} (H :
 If x (Ld h (n.add 2) .pointer λc=>Ld h (n.add 2) .pointer λd=>NN d λd=>Ld h d Sl.v λe=>Ld h (n.add 1) mI λf=>Wr .i64 (f+a) λf=>Ld h (n.add 1) mI λg=>Wr .i64 (g+a) λg=>Wr .i64 (g+b) λg=>aD h #[(.int .i64 f),(.int .i64 g)] WJ λf g=>aO h g d 1 <|aO h g (n.add 2) 1 <|aO h g (n.add 2) 1 <|Ap g WJ #[(.int .i64 0),(.int .i64 0)] 2 16 e 1 (rd g (some f) (1*2)) λd e=>aO g e (n.add 2) 1 <|NN c λc=>St e c (Sl.v d) λc=>Ld c n Sl.v λd=>Wr .i64 (a+b) λe=>Wr .i64 (a+b) λb=>gp d 1 (some a) (some e) (some b) λa=>K a c) (Ld h n Sl.v λc=>Wr .i64 (a+b) λd=>Wr .i64 (a+b) λb=>gp c 1 (some a) (some d) (some b) λa=>K a h)) :
 CG K Kp a b n x h:=jf H
theorem wT.of {K:dg} (H :
 vV h A a P λa d=>Ld d (a.add 2) .pointer λe=>If (!(Option.isNone e)) (CG K Kp b c a (decide (c > 0)) d) (CG K Kp b c a false d)) :
 wT A a P b c h K Kp:=bU (VT K Kp) fM K Tryz.func120 H
theorem JL.of {K:bP} (H :
 NN P λa=>Ld h (a.add 7) mI λa=>K a h) :
 JL P h K Kp:=ck cy K Tryz.func137 H
theorem JK.of {K:gW} (H :
 aD h bS bG λa b=>NN P λc=>dY (some c) (⟨none,0,0⟩:Sl) b (λb c d e f g i=>bw i a b c d e f g λb=>bq b a λa c d e f g=>K a c d e f g b) Kp) :
 JK P h K Kp:=ck jm K Tryz.func138 H
theorem JJ.of {K:tL} (H :
 NN P λa=>mL (some a) h (λa b=>K a b) Kp) :
 JJ P h K Kp:=ck uL K Tryz.func139 H
theorem zW.of {K:bP} (H :
 iJ h x a V A λ_ a=>NN P λb=>jB (some b) true a (λa b=>If (a != 0) (K a b) (NN P λa=>iM (some a) 16 b (λa b=>K a b) Kp)) Kp) :
 zW P x a V A h K Kp:=ck cy K Tryz.func140 H
theorem JI.of {K:bP} (H :
 NN P λa=>Ld h (a.add 10) mI λa=>K a h) :
 JI P h K Kp:=ck cy K Tryz.func141 H
theorem Da.of {K:bP} (H :
 NN P λa=>aQ h (a.add 11) λa b c d=>zW P a b c d h (λa b=>K a b) Kp) :
 Da P h K Kp:=ck cy K Tryz.func142 H
theorem dY.of {K:gW} (H :
 aD h bS bG λa b=>NN P λc=>Ld b (c.add 7) mI λc=>NN P λd=>Ld b (d.add 8) mI λd=>bw b a c 0 d A (⟨none,0,0⟩:Sl) (⟨none,0,0⟩:Sl) λb=>bq b a λa c d e f g=>K a c d e f g b) :
 dY P A h K Kp:=jt [] [(1,(OT.l (List.range' 0 11) .fin),[0,1,3,7,0,16,48,112,0,511,1023])] jm K Tryz.func143 H
theorem mL.of {K:tL} (H :
 aD h #[(.pointer P)] Ww λa b=>Ld b a .pointer λc=>NN c λc=>fZ b c λc d e f g i j k l m n p q r s t=>aD b JW GJ λb u=>mH u b c d e f g i j k l m n p q r s t λc=>aD c #[(.int .u8 0)] Y8 λc d=>St d c (.int .u8 0) λd=>Ld d a .pointer λe=>NN e λe=>Ld d (e.add 9) Sl.v λe=>If (decide ((e.n:Int) > 0)) (Ld d a .pointer λe=>NN e λe=>Ld d (e.add 9) Sl.v λe=>Ld d a .pointer λf=>NN f λf=>Ld d (f.add 9) Sl.v λf=>Wr .i64 ((f.n:Int) - 1) λf=>Ix e.a e.n 1 f λe=>Ld d e (.int .u8) λe=>St d c (.int .u8 e) λd=>K (.func (.func CU) #[] #[(.pointer (some b)),(.pointer (some a)),(.pointer (some c))]) d) (K (.func (.func CU) #[] #[(.pointer (some b)),(.pointer (some a)),(.pointer (some c))]) d)) :
 mL P h K Kp:=jt [] [(4,(OT.l (List.range' 0 13) .fin),[0,1,3,7,0,16,48,112,240,496,1023,2047,4095])] uL K Tryz.func144 H
noncomputable def OE:=mc Tryz.prog Tryz.f145 [(2000005,[0,1]),(2000008,[0])] [(7,(OT.l (List.range' 0 20) .fin),[0,1,3,7,0,16,48,112,240,511,1023,0,2048,6144,14336,30720,63488,131071,262143,524287])] cy
def yL:=jK OE 1 31 [.p]
def yM:=jK OE 0 15 [.p, .b]
theorem yL.of {K:bP} (H :
 NN P λa=>Ld h (a.add 7) mI λa=>Wr .i64 (a+1) λa=>NN P λb=>St h (b.add 7) (.int .i64 a) λa=>K 0 a) :
 yL K Kp P h:=jf H
theorem yM.of {K:bP} (H :
 If x (NN P λa=>Ld h (a.add 8) mI λa=>Wr .i64 (a+1) λa=>NN P λb=>St h (b.add 8) (.int .i64 a) λa=>yL K Kp P a) (NN P λa=>Ld h (a.add 9) Sl.v λa=>NN P λb=>Ld h (b.add 7) mI λb=>Dv 8<|Wr .i64 (Int.tdiv b 8) λb=>Ix a.a a.n 1 b λc=>Ld h c (.int .u8) λc=>NN P λd=>Ld h (d.add 7) mI λd=>Dv 8<|Lt (Int.tmod d 8) λd=>Nn d<|Wr .u8 ((1:Int)*2 ^ (min (Int.toNat d) (IntKind.bits .u8))) λd=>Lt (dF .or .u8 c d) λc=>Ix a.a a.n 1 b λa=>St h a (.int .u8 c) λa=>yL K Kp P a)) :
 yM K Kp P x h:=jf H
theorem jB.of {K:bP} (H :
 NN P λa=>Ld h (a.add 7) mI λa=>If (decide (a>=4096)) (K 3 h) (NN P λa=>Ld h (a.add 7) mI λa=>Dv 8<|Lt (Int.tmod a 8) λa=>If (a == 0) (NN P λa=>Ld h (a.add 9) Sl.v λa=>aD h #[(.int .u8 0)] Y8 λb c=>Ap c Y8 #[(.int .u8 0)] 1 1 a 1 (rd c (some b) (1*1)) λa b=>NN P λc=>St b (c.add 9) (Sl.v a) λa=>yM K Kp P x a) (yM K Kp P x h))) :
 jB P x h K Kp:=bU (OE K Kp) cy K Tryz.func145 H
theorem iM.of {K:bP} (H :
 NN P λb=>Ld h (b.add 10) mI λb=>Wr .i64 (b+a) λa=>NN P λb=>St h (b.add 10) (.int .i64 a) λa=>NN P λb=>Ld a (b.add 10) mI λb=>If (decide (b > 4194304)) (K 3 a) (K 0 a)) :
 iM P a h K Kp:=ck cy K Tryz.func146 H
theorem JH.of {K:dR} (H :
 Ld h o .pointer λa=>fZ h n λb c d e f g i j k l m n q r s t=>NN a λa=>mH h a b c d e f g i j k l m n q r s t λa=>Ld a o .pointer λb=>NN b λb=>Ld a (b.add 9) Sl.v λb=>If (decide ((b.n:Int) > 0)) (Ld a o .pointer λb=>NN b λb=>Ld a (b.add 9) Sl.v λb=>Ld a o .pointer λc=>NN c λc=>Ld a (c.add 9) Sl.v λc=>Wr .i64 ((c.n:Int) - 1) λc=>Ld a p (.int .u8) λd=>Ix b.a b.n 1 c λb=>St a b (.int .u8 d) λa=>K  a) (K  a)) :
 JH n o p h K Kp:=jt [] [(2,(OT.l (List.range' 0 13) .fin),[0,1,3,7,0,16,48,112,240,496,0,2047,4095])] gz K Tryz.func147 H
theorem JG.of {K:gW} (H :
 aD h bS bG λa b=>NN P λc=>NN P λd=>NN P λe=>Ld b (e.add 16) Sl.v λf=>NN P λg=>Ld b (g.add 17) Sl.v λi=>mK (some d) b (λd j=>aO b j (g.add 17) 1 <|aO b j (e.add 16) 1 <|kS f 4 j (λb e=>aO j e (g.add 17) 1 <|tZ i e (λe f=>aD f #[(Sl.v d),(Sl.v b),(Sl.v e)] fH λb d=>dY (some c) (⟨some b,3,3⟩:Sl) d (λb c d e f g i=>bw i a b c d e f g λb=>bq b a λa c d e f g=>K a c d e f g b) Kp) Kp) Kp) Kp) :
 JG P h K Kp:=jt [] [(1,(OT.l [0,1,2,3,4,5,7,8,9,10,12,13,14,15,6,11,16,17,18,19] .fin),[0,1,3,0,8,24,56,0,128,384,896,2040,0,4096,12288,28672,65528,131064,262143,524287])] jm K Tryz.func148 H
noncomputable def tF:=mc Tryz.prog Tryz.f150 [(2000008,[0,3])] [(1,(OT.l [0,1,2,3,4,5,6] .fin),[0,1,3,0,8,31,63]),(4,(OT.l (List.range' 0 10) .fin),[0,1,3,7,15,0,32,96,255,511]),(6,(OT.l (List.range' 0 11) .fin),[0,0,2,6,14,0,32,126,255,511,1023]),(8,(OT.l (List.range' 0 9) .fin),[0,1,3,0,8,24,56,127,255]),(7,(OT.l (List.range' 0 15) .fin),[0,0,2,6,14,0,32,96,224,480,992,2046,4095,8191,16383])] cy
def IB:=jK tF 0 63 [.p, .d]
theorem IB.of {K:bP} (H :
 NN P λa=>Ld h (n.add 2) .string λb=>Wr .i64 ((16:Int)+(b.size:Int)) λb=>iM (some a) b h (λa b=>K a b) Kp) :
 IB K Kp P n h:=jf H
theorem zV.of {K:bP} (H :
 iJ h x a V A λa b=>NN P λc=>Ld b a .bool λd=>jB (some c) d b (λb c=>If (b != 0) (K b c) (NN P λb=>Ld c (b.add 17) Sl.v λb=>Ld c (a.add 2) .string λd=>Wr .i64 ((b.n:Int)+(d.size:Int)) λb=>If (decide (b > 65536)) (K 4 c) (NN P λb=>Ld c (b.add 17) Sl.v λb=>Ld c (a.add 2) .string λd=>Ap c Y8 #[(.int .u8 0)] 1 1 b d.size (λa=>a=d.data.toList.map λa=>Value.int .u8 a.toNat) λb c=>NN P λd=>St c (d.add 17) (Sl.v b) λb=>NN P λc=>Ld b (c.add 16) Sl.v λd=>NN P λe=>Ld b (e.add 17) Sl.v λe=>aD b #[(.int .i64 (e.n:Int))] Y6 λe f=>aO b f (c.add 16) 1 <|Ap f Y6 #[(.int .i64 0)] 1 8 d 1 (rd f (some e) (1*1)) λb c=>NN P λd=>St c (d.add 16) (Sl.v b) λb=>IB K Kp P a b))) Kp) :
 zV P x a V A h K Kp:=bU (tF K Kp) cy K Tryz.func150 H
theorem C9.of {K:bP} (H :
 NN P λa=>aQ h (a.add 11) λa b c d=>zV P a b c d h (λa b=>K a b) Kp) :
 C9 P h K Kp:=ck cy K Tryz.func151 H
theorem mK.of {K:dg} (H :
 NN P λa=>Ld h (a.add 8) mI λa=>If (a == 0) (K (⟨none,0,0⟩:Sl) h) (NN P λa=>Ld h (a.add 9) Sl.v λa=>tZ a h (λa b=>K a b) Kp)) :
 mK P h K Kp:=ck fM K Tryz.func152 H
noncomputable def rE:=mc Tryz.prog Tryz.f153 [(2003,[1,5,14,15,16]),(2006,[1,5,7,14,15,16,20,21])] [] fM
abbrev Ml (x1:Int) (eu:Sl) (dZ:Int) (x5:Sl) (fh:Int):Fr:=(fg [(1,vI x1),(3,vS x5),(8,vS eu),(0,vI dZ),(0,vI fh)] 19)
abbrev Mk (x1 x7:Int) (eu:Sl) (dZ fh uv:Int) (x5:Sl) (uu:Int):Fr:=(fg [(1,vI x1),(3,vS x5),(1,vI x7),(6,vS eu),(0,vI dZ),(0,vI fh),(3,vI uv),(0,vI uu)] 14)
def Hy (K:dg) (Kp:PK) (N1:Fr->HP) (x1 x7:Int) (eu:Sl) (dZ fh uv:Int) (x5:Sl) (uu:Int):=lQ (rE K Kp) 2006 14950 [N1] (Mk x1 x7 eu dZ fh uv x5 uu)
def Hz (K:dg) (Kp:PK) (x1:Int) (eu:Sl) (dZ:Int) (x5:Sl) (fh:Int):=lQ (rE K Kp) 2003 58 [] (Ml x1 eu dZ x5 fh)
theorem Hy.bB {K:dg}:iK (Hy K Kp N1 a b A c d e) (Mk a b A c d e) λf g i j=>(If (decide (i < e)) (Wr .u64 b λk=>Wr .i64 ((8:Int)*i) λl=>Nn l<|Lt (Int.fdiv k (2 ^ (min (Int.toNat l) (IntKind.bits .u64)))) λk=>Wr .u8 k λk=>aD j #[(.int .u8 k)] Y8 λj k=>Ap k Y8 #[(.int .u8 0)] 1 1 g 1 (rd k (some j) (1*1)) λg j=>Wr .i64 (i+1) λi=>f (Mk a b A c d e g i) j) (Wr .i64 (d+1) λb=>N1 (Ml a A c g b) j)):=iV
theorem Hz.bB {K:dg}:iK (Hz K Kp a A b) (Ml a A b) λc d e f=>(If (decide (e < b)) (Ix A.a A.n 1 e λg=>Ld f g mI λg=>Hy K Kp c a g A b e a d 0 f) (K d f)):=iV
theorem kS.of {K:dg} (H :
 Wr .i64 (a*(A.n:Int)) λb=>bI h Y8 #[(.int .u8 0)] 1 1 0 b λb c=>Hz K Kp a A (A.n:Int) b 0 c) :
 kS A a h K Kp:=bU (rE K Kp) fM K Tryz.func153 H
theorem tZ.of {K:dg} (H :
 If (Option.isNone A.a) (K (⟨none,0,0⟩:Sl) h) (aD h #[] Y8 λa b=>Ap b Y8 #[(.int .u8 0)] 1 1 (⟨some a,0,0⟩:Sl) A.n (rd b A.a (A.n*1)) λa b=>K a b)) :
 tZ A h K Kp:=ck fM K Tryz.func154 H
theorem JE.of {K:dR} (H :
 Ld h n id λa=>bJ Tryz.prog a [] h (λa b=>a=(.tuple #[])/\(Ld b o .pointer λa=>Ld b o .pointer λc=>Ld b o .pointer λd=>NN d λd=>Ld b (d.add 16) Sl.v λd=>Ld b p mI λe=>gp d 1 none (some e) none λd=>Ld b o .pointer λe=>NN e λe=>Ld b (e.add 17) Sl.v λe=>Ld b q mI λf=>gp e 1 none (some f) none λe=>NN a λa=>St b (a.add 16) (Sl.v d) λa=>aO b a q 1 <|aO b a o 1 <|NN c λb=>St a (b.add 17) (Sl.v e) λa=>K  a)) Kp) :
 JE n o p q h K Kp:=jt [] [(1,(OT.l (List.range' 0 20) .fin),[0,0,0,4,12,28,0,124,0,256,768,1792,0,7936,4093,20477,53245,131071,262143,524287])] gz K Tryz.func155 H
noncomputable def VD:=mc Tryz.prog Tryz.f156 [(2000002,[0,2,3])] [(1,(OT.l [0,1,2,3,4,5,7,8,9,10] (.alt (OT.l [6] (.alt (OT.l [11] (.alt (OT.l [12] (.alt (OT.l [13,14,15] .fin) (OT.l [14,13,15] .fin))) (OT.l [14,12,13,15] .fin))) (OT.l [14,11,12,13,15] .fin))) (OT.l [14,6,11,12,13,15] .fin))),[0,1,3,0,8,24,56,0,128,384,896,2040,4088,8191,0,32767])] jm
def qp:=jK VD 0 7 [.p, .d, .d]
theorem qp.of {K:gW} (H :
 NN P λa=>Ld h (a.add 17) id λa=>cL Tryz.prog a "colonnade/build.done" [] h (λa b=>∃c:Int,∃d:Int,∃e:Int,∃f:Sl,∃g:Sl,∃i:Sl,a=(.agg #[(.int .i64 c),(.int .i64 d),(.int .i64 e),(Sl.v f),(Sl.v g),(Sl.v i)])/\(aD b #[(.int .i64 c),(.int .i64 d),(.int .i64 e),(Sl.v f),(Sl.v g),(Sl.v i)] bG λa b=>St b (o.add 4) (.slice (some a) 1 1) λa=>bq a o λb c d e f g=>bw a n b c d e f g λa=>bq a n λb c d e f g=>K b c d e f g a)) Kp) :
 qp K Kp P n o h:=jf H
theorem JD.of {K:gW} (H :
 aD h bS bG λa b=>NN P λc=>NN P λd=>NN P λe=>Ld b (e.add 16) Sl.v λf=>(mK (some d) b (λd g=>aO b g (e.add 16) 1 <|(kS f 4 g (λb f=>(aD f #[(Sl.v d),(Sl.v b)] fH λb d=>(dY (some c) (⟨some b,2,2⟩:Sl) d (λb c d f g i j=>aD j bS bG λk l=>aO j l (e.add 16) 1 <|bw l k b c d f g i λb=>qp K Kp P a k b) Kp)/\(aD d bS bG λf g=>aO d g (e.add 16) 1 <|dY (some c) (⟨some b,2,2⟩:Sl) g (λb c d e g i j=>bw j f b c d e g i λb=>qp K Kp P a f b) Kp))/\(aD f bS bG λg i=>aO f i (e.add 16) 1 <|aD i #[(Sl.v d),(Sl.v b)] fH λb d=>dY (some c) (⟨some b,2,2⟩:Sl) d (λb c d e f i j=>bw j g b c d e f i λb=>qp K Kp P a g b) Kp)) Kp)/\(aD g bS bG λb i=>aO g i (e.add 16) 1 <|kS f 4 i (λe f=>aD f #[(Sl.v d),(Sl.v e)] fH λd e=>dY (some c) (⟨some d,2,2⟩:Sl) e (λc d e f g i j=>bw j b c d e f g i λc=>qp K Kp P a b c) Kp) Kp)) Kp)/\(aD b bS bG λg i=>aO b i (e.add 16) 1 <|mK (some d) i (λb d=>aO i d (e.add 16) 1 <|kS f 4 d (λd e=>aD e #[(Sl.v b),(Sl.v d)] fH λb d=>dY (some c) (⟨some b,2,2⟩:Sl) d (λb c d e f i j=>bw j g b c d e f i λb=>qp K Kp P a g b) Kp) Kp) Kp)) :
 JD P h K Kp:=bU (VD K Kp) jm K Tryz.func156 H
noncomputable def Gp:=mc Tryz.prog Tryz.f158 [(2000012,[0,6]),(2000013,[0,6]),(2006,[0,6,25,26,27])] [(1,(OT.l [0,1,2,3,4,5,6] .fin),[0,1,3,0,8,31,63]),(13,(OT.l [0,1,2,3,4,5,6,9,7,8,10,11,12] .fin),[0,1,3,0,8,24,56,120,248,0,1016,2047,4095]),(12,(OT.l (List.range' 0 15) .fin),[0,0,2,6,14,0,32,96,224,480,992,2046,4095,8191,16383]),(8,(OT.l [0,1,2,3,4,5,6] .fin),[0,1,3,7,0,31,63])] cy
def Iz:=jK Gp 1 63 [.p,tI]
def IA:=jK Gp 0 31 [.p,tI]
abbrev Mj (x0:PA) (x6:Int) (gf:Sl) (gL n8:Int):Fr:=(fg [(0,vp x0),(5,vI x6),(18,vS gf),(0,vI gL),(0,vI n8)] 39)
def Hx (K:bP) (Kp:PK) (x0:PA) (x6:Int) (gf:Sl) (gL n8:Int):=lQ (Gp K Kp) 2006 122 [] (Mj x0 x6 gf gL n8)
theorem Iz.of {K:bP} (H :
 NN P λb=>NN P λc=>Ld h (c.add 17) id λc=>cL Tryz.prog c "colonnade/build.weight" [] h (λc d=>∃e:Int,c=(.int .i64 e)/\(Wr .i64 ((16:Int)+e) λc=>Wr .i64 (c - a) λa=>iM (some b) a d (λa b=>K a b) Kp)) Kp) :
 Iz K Kp P a h:=jf H
theorem IA.of {K:bP} (H :
 NN P λb=>Ld h (b.add 16) Sl.v λc=>NN P λd=>Ld h (d.add 17) id λd=>cL Tryz.prog d "colonnade/build.count" [] h (λd e=>∃f:Int,d=(.int .i64 f)/\(aO h e (b.add 16) 1 <|aD e #[(.int .i64 f)] Y6 λd f=>aO e f (b.add 16) 1 <|Ap f Y6 #[(.int .i64 0)] 1 8 c 1 (rd f (some d) (1*1)) λb c=>NN P λd=>St c (d.add 16) (Sl.v b) λb=>Iz K Kp P a b)) Kp) :
 IA K Kp P a h:=jf H
theorem Hx.bB {K:bP}:eG (Hx K Kp P a A b) (Mj P a A b) λc d e=>(If (decide (d < b)) (Ix A.a A.n 4 d λf=>aQ e f λf g i j=>aD e dO bW λe k=>bV k e f g i j λf=>NN P λg=>Ld f (g.add 17) id λg=>aQ f e λe i j k=>cL Tryz.prog g "colonnade/build.take" [(.agg #[(.bool e),(.int .i64 i),(.string j),(Sl.v k)])] f (λe f=>∃g:Int,e=(.int .i64 g)/\(If (g != 0) (K g f) (Wr .i64 (d+1) λd=>c (Mj P a A b d) f))) Kp) (IA K Kp P a e)):=eH
theorem zU.of {K:bP} (H :
 iJ h x a V A λa b=>NN P λc=>Ld b a .bool λd=>jB (some c) d b (λb c=>If (b != 0) (K b c) (NN P λb=>Ld c (b.add 17) id λb=>cL Tryz.prog b "colonnade/build.weight" [] c (λb c=>∃d:Int,b=(.int .i64 d)/\(Ld c (a.add 3) Sl.v λa=>Hx K Kp P d a (a.n:Int) 0 c)) Kp)) Kp) :
 zU P x a V A h K Kp:=bU (Gp K Kp) cy K Tryz.func158 H
theorem C8.of {K:bP} (H :
 NN P λa=>aQ h (a.add 11) λa b c d=>zU P a b c d h (λa b=>K a b) Kp) :
 C8 P h K Kp:=ck cy K Tryz.func159 H
theorem JB.of {K:dR} (H :
 Ld h n id λa=>bJ Tryz.prog a [] h (λa b=>a=(.tuple #[])/\(Ld b o id λa=>bJ Tryz.prog a [] b (λa b=>a=(.tuple #[])/\(Ld b p .pointer λa=>Ld b p .pointer λc=>NN c λc=>Ld b (c.add 16) Sl.v λc=>Ld b q mI λd=>gp c 1 none (some d) none λc=>NN a λa=>St b (a.add 16) (Sl.v c) λa=>K  a)) Kp)) Kp) :
 JB n o p q h K Kp:=jt [] [(2,(OT.l (List.range' 0 10) .fin),[0,0,2,6,14,0,62,127,255,511])] gz K Tryz.func160 H
noncomputable def VC:=mc Tryz.prog Tryz.f161 [(2000002,[0,2,3])] [(1,(OT.l [0,1,2,3,4,5] (.alt (OT.l [6] (.alt (OT.l [7] (.alt (OT.l [8,9,10] .fin) (OT.l [9,8,10] .fin))) (OT.l [9,7,8,10] .fin))) (OT.l [9,6,7,8,10] .fin))),[0,1,3,0,8,24,56,120,255,0,1023])] jm
def rR:=jK VC 0 7 [.p, .d, .d]
theorem rR.of {K:gW} (H :
 NN P λa=>Ld h (a.add 16) id λa=>cL Tryz.prog a "colonnade/build.done" [] h (λa b=>∃c:Int,∃d:Int,∃e:Int,∃f:Sl,∃g:Sl,∃i:Sl,a=(.agg #[(.int .i64 c),(.int .i64 d),(.int .i64 e),(Sl.v f),(Sl.v g),(Sl.v i)])/\(aD b #[(.int .i64 c),(.int .i64 d),(.int .i64 e),(Sl.v f),(Sl.v g),(Sl.v i)] bG λa b=>St b (o.add 4) (.slice (some a) 1 1) λa=>bq a o λb c d e f g=>bw a n b c d e f g λa=>bq a n λb c d e f g=>K b c d e f g a)) Kp) :
 rR K Kp P n o h:=jf H
theorem JA.of {K:gW} (H :
 aD h bS bG λa b=>NN P λc=>NN P λd=>(mK (some d) b (λb d=>(aD d #[(Sl.v b)] fH λb d=>(dY (some c) (⟨some b,1,1⟩:Sl) d (λb c d e f g i=>aD i bS bG λi j=>bw j i b c d e f g λb=>rR K Kp P a i b) Kp)/\(aD d bS bG λd e=>dY (some c) (⟨some b,1,1⟩:Sl) e (λb c e f g i j=>bw j d b c e f g i λb=>rR K Kp P a d b) Kp))/\(aD d bS bG λd e=>aD e #[(Sl.v b)] fH λb e=>dY (some c) (⟨some b,1,1⟩:Sl) e (λb c e f g i j=>bw j d b c e f g i λb=>rR K Kp P a d b) Kp)) Kp)/\(aD b bS bG λb e=>mK (some d) e (λd e=>aD e #[(Sl.v d)] fH λd e=>dY (some c) (⟨some d,1,1⟩:Sl) e (λc d e f g i j=>bw j b c d e f g i λc=>rR K Kp P a b c) Kp) Kp)) :
 JA P h K Kp:=bU (VC K Kp) jm K Tryz.func161 H
noncomputable def rD:=mc Tryz.prog Tryz.f163 [(2000015,[0,3,6]),(2006,[0,3,6,29,30])] [(1,(OT.l [0,1,2,3,4,5,6] .fin),[0,1,3,0,8,31,63]),(17,(OT.l [0,1,2,3,4,5,6,9,7,8,10,11,12] .fin),[0,1,3,0,8,24,56,120,248,0,1016,2047,4095]),(11,(OT.l (List.range' 0 13) .fin),[0,1,3,7,0,16,0,112,240,15,527,2047,4095])] cy
def Iy:=jK rD 0 31 [.p, .d,tI]
abbrev A6 (x0:PA) (x3:Addr) (x6 ur Kh:Int):Fr:=(fg [(0,vp x0),(2,vP x3),(2,vI x6),(22,vI ur),(0,vI Kh)] 43)
def Hw (K:bP) (Kp:PK) (x0:PA) (x3:Addr) (x6 ur Kh:Int):=lQ (rD K Kp) 2006 122 [] (A6 x0 x3 x6 ur Kh)
theorem Iy.of {K:bP} (H :
 Ld h n .bool λb=>If b (NN P λa=>iM (some a) 16 h (λa b=>K a b) Kp) (NN P λb=>NN P λc=>Ld h (c.add 16) id λc=>cL Tryz.prog c "colonnade/build.weight" [] h (λc d=>∃e:Int,c=(.int .i64 e)/\(Wr .i64 ((16:Int)+e) λc=>Wr .i64 (c - a) λa=>iM (some b) a d (λa b=>K a b) Kp)) Kp)) :
 Iy K Kp P n a h:=jf H
theorem Hw.bB {K:bP}:eG (Hw K Kp P n a b) (A6 P n a b) λc d e=>(If (decide (d < b)) (Ld e n .bool λf=>If f (NN P λf=>Ld e (f.add 16) id λf=>cL Tryz.prog f "colonnade/build.zero" [] e (λe f=>∃g:Int,e=(.int .i64 g)/\(If (g != 0) (K g f) (Wr .i64 (d+1) λd=>c (A6 P n a b d) f))) Kp) (NN P λf=>Ld e (f.add 16) id λf=>Ld e (n.add 3) Sl.v λg=>Ix g.a g.n 4 d λg=>aQ e g λg i j k=>m9 Tryz.prog f λ_=>cL Tryz.prog f "colonnade/build.take" [(.agg #[(.bool g),(.int .i64 i),(.string j),(Sl.v k)])] e (λe f=>∃g:Int,e=(.int .i64 g)/\(If (g != 0) (K g f) (Wr .i64 (d+1) λd=>c (A6 P n a b d) f))) Kp)) (Iy K Kp P n a e)):=eH
theorem zT.of {K:bP} (H :
 iJ h x a V A λa b=>NN P λc=>Ld b a .bool λd=>jB (some c) d b (λb c=>If (b != 0) (K b c) (NN P λb=>Ld c (b.add 16) id λb=>cL Tryz.prog b "colonnade/build.weight" [] c (λb c=>∃d:Int,b=(.int .i64 d)/\(NN P λb=>Ld c ((b.add 2).add 1) mI λb=>Hw K Kp P a d b 0 c)) Kp)) Kp) :
 zT P x a V A h K Kp:=bU (rD K Kp) cy K Tryz.func163 H
noncomputable def OD:=mc Tryz.prog Tryz.f164 [(2000013,[0,4]),(2008,[0,4,36,37])] [(13,(OT.l [0,1,2,3,4,5,6,9,7,8,10,11,12] .fin),[0,1,3,0,8,24,56,120,248,0,1016,2047,4095])] cy
def Iw:=jK OD 0 63 [.p,tI]
abbrev Mh (x0:PA) (x4 lC n5:Int):Fr:=(fg [(0,vp x0),(3,vI x4),(31,vI lC),(0,vI n5)] 22)
def Hv (K:bP) (Kp:PK) (x0:PA) (x4 lC n5:Int):=lQ (OD K Kp) 2008 250 [] (Mh x0 x4 lC n5)
theorem Iw.of {K:bP} (H :
 NN P λb=>NN P λc=>Ld h (c.add 16) id λc=>cL Tryz.prog c "colonnade/build.weight" [] h (λc d=>∃e:Int,c=(.int .i64 e)/\(Wr .i64 ((16:Int)+e) λc=>Wr .i64 (c - a) λa=>iM (some b) a d (λa b=>K a b) Kp)) Kp) :
 Iw K Kp P a h:=jf H
theorem Hv.bB {K:bP}:eG (Hv K Kp P a b) (Mh P a b) λc d e=>(If (decide (d < b)) (NN P λf=>Ld e (f.add 16) id λf=>cL Tryz.prog f "colonnade/build.zero" [] e (λe f=>∃g:Int,e=(.int .i64 g)/\(If (g != 0) (K g f) (Wr .i64 (d+1) λd=>c (Mh P a b d) f))) Kp) (Iw K Kp P a e)):=eH
theorem C7.of {K:bP} (H :
 NN P λa=>Ld h (a.add 15) .bool λa=>If a (NN P λa=>aQ h (a.add 11) λa b c d=>zT P a b c d h (λa b=>K a b) Kp) (NN P λa=>jB (some a) false h (λa b=>If (a != 0) (K a b) (NN P λa=>Ld b (a.add 16) id λa=>cL Tryz.prog a "colonnade/build.weight" [] b (λa b=>∃c:Int,a=(.int .i64 c)/\(NN P λa=>Ld b ((a.add 2).add 1) mI λa=>Hv K Kp P c a 0 b)) Kp)) Kp)) :
 C7 P h K Kp:=bU (OD K Kp) cy K Tryz.func164 H
theorem Jy.of {K:dR} (H :
 Ld h n id λa=>bJ Tryz.prog a [] h (λa b=>a=(.tuple #[])/\(Ld b o id λa=>bJ Tryz.prog a [] b (λa b=>a=(.tuple #[])/\(K  b)) Kp)) Kp) :
 Jy n o h K Kp:=ck gz K Tryz.func165 H
noncomputable def tD:=mc Tryz.prog Tryz.f166 [(2000002,[0,2,3])] [(1,(OT.l [0,1,2,3,4,5] (.alt (OT.l [6] (.alt (OT.l [7] (.alt (OT.l [8,9,10] .fin) (OT.l [9,8,10] .fin))) (OT.l [9,7,8,10] .fin))) (OT.l [9,6,7,8,10] .fin))),[0,1,3,0,8,24,56,120,255,0,1023])] jm
def qo:=jK tD 0 7 [.p, .d, .d]
theorem qo.of {K:gW} (H :
 NN P λa=>Ld h (a.add 16) Sl.v λa=>zR a h (λa b=>St b (o.add 4) (Sl.v a) λa=>bq a o λb c d e f g=>bw a n b c d e f g λa=>bq a n λb c d e f g=>K b c d e f g a) Kp) :
 qo K Kp P n o h:=jf H
theorem Jw.of {K:gW} (H :
 aD h bS bG λa b=>NN P λc=>NN P λd=>(mK (some d) b (λb d=>(aD d #[(Sl.v b)] fH λb d=>(dY (some c) (⟨some b,1,1⟩:Sl) d (λb c d e f g i=>aD i bS bG λi j=>bw j i b c d e f g λb=>qo K Kp P a i b) Kp)/\(aD d bS bG λd e=>dY (some c) (⟨some b,1,1⟩:Sl) e (λb c e f g i j=>bw j d b c e f g i λb=>qo K Kp P a d b) Kp))/\(aD d bS bG λd e=>aD e #[(Sl.v b)] fH λb e=>dY (some c) (⟨some b,1,1⟩:Sl) e (λb c e f g i j=>bw j d b c e f g i λb=>qo K Kp P a d b) Kp)) Kp)/\(aD b bS bG λb e=>mK (some d) e (λd e=>aD e #[(Sl.v d)] fH λd e=>dY (some c) (⟨some d,1,1⟩:Sl) e (λc d e f g i j=>bw j b c d e f g i λc=>qo K Kp P a b c) Kp) Kp)) :
 Jw P h K Kp:=bU (tD K Kp) jm K Tryz.func166 H
noncomputable def OC:=mc Tryz.prog Tryz.f168 [(2000015,[0,3,6]),(2006,[0,3,6,27,28,29])] [(1,(OT.l [0,1,2,3,4,5,6] .fin),[0,1,3,0,8,31,63]),(17,(OT.l [0,1,2,3,4,5,6,9,7,8,10,11,12] .fin),[0,1,3,0,8,24,56,120,248,0,1016,2047,4095]),(11,(OT.l (List.range' 0 11) .fin),[0,0,2,0,14,30,1,65,193,511,1023])] cy
def Iv:=jK OC 0 31 [.p, .d,tI]
abbrev A5 (x0:PA) (x3:Addr) (x6:Int) (n8:Sl) (Ki ur:Int):Fr:=(fg [(0,vp x0),(2,vP x3),(2,vI x6),(20,vS n8),(0,vI Ki),(0,vI ur)] 40)
def Hu (K:bP) (Kp:PK) (x0:PA) (x3:Addr) (x6:Int) (n8:Sl) (Ki ur:Int):=lQ (OC K Kp) 2006 122 [] (A5 x0 x3 x6 n8 Ki ur)
theorem Iv.of {K:bP} (H :
 Ld h n .bool λb=>If b (NN P λa=>iM (some a) 16 h (λa b=>K a b) Kp) (NN P λb=>NN P λc=>Ld h (c.add 16) Sl.v λc=>ua c h (λc d=>Wr .i64 ((16:Int)+c) λc=>Wr .i64 (c - a) λa=>iM (some b) a d (λa b=>K a b) Kp) Kp)) :
 Iv K Kp P n a h:=jf H
theorem Hu.bB {K:bP}:eG (Hu K Kp P n a A b) (A5 P n a A b) λc d e=>(If (decide (d < b)) (Ix A.a A.n 1 d λf=>Ld e f id λf=>Ld e n .bool λg=>If g (cL Tryz.prog f "colonnade/build.zero" [] e (λe f=>∃g:Int,e=(.int .i64 g)/\(If (g != 0) (K g f) (Wr .i64 (d+1) λd=>c (A5 P n a A b d) f))) Kp) (Ld e (n.add 3) Sl.v λg=>Ix g.a g.n 4 d λg=>aQ e g λg i j k=>vW Tryz.prog f "colonnade/build.take" <|cL Tryz.prog f "colonnade/build.take" [(.agg #[(.bool g),(.int .i64 i),(.string j),(Sl.v k)])] e (λe f=>∃g:Int,e=(.int .i64 g)/\(If (g != 0) (K g f) (Wr .i64 (d+1) λd=>c (A5 P n a A b d) f))) Kp)) (Iv K Kp P n a e)):=eH
theorem zS.of {K:bP} (H :
 iJ h x a V A λa b=>NN P λc=>Ld b a .bool λd=>jB (some c) d b (λb c=>If (b != 0) (K b c) (NN P λb=>Ld c (b.add 16) Sl.v λb=>ua b c (λb c=>NN P λd=>Ld c (d.add 16) Sl.v λd=>Hu K Kp P a b d (d.n:Int) 0 c) Kp)) Kp) :
 zS P x a V A h K Kp:=bU (OC K Kp) cy K Tryz.func168 H
noncomputable def rC:=mc Tryz.prog Tryz.f169 [(2000014,[0,4]),(2008,[0,4,35,36,37])] [(14,(OT.l [0,1,2,3,4,5,6,9,7,8,10,11,12] .fin),[0,1,3,0,8,24,56,120,248,0,1016,2047,4095])] cy
def Iu:=jK rC 0 63 [.p,tI]
abbrev Mg (x0:PA) (x4:Int) (lD:Sl) (lC n5:Int):Fr:=(fg [(0,vp x0),(3,vI x4),(30,vS lD),(0,vI lC),(0,vI n5)] 21)
def Ht (K:bP) (Kp:PK) (x0:PA) (x4:Int) (lD:Sl) (lC n5:Int):=lQ (rC K Kp) 2008 250 [] (Mg x0 x4 lD lC n5)
theorem Iu.of {K:bP} (H :
 NN P λb=>NN P λc=>Ld h (c.add 16) Sl.v λc=>ua c h (λc d=>Wr .i64 ((16:Int)+c) λc=>Wr .i64 (c - a) λa=>iM (some b) a d (λa b=>K a b) Kp) Kp) :
 Iu K Kp P a h:=jf H
theorem Ht.bB {K:bP}:eG (Ht K Kp P a A b) (Mg P a A b) λc d e=>(If (decide (d < b)) (Ix A.a A.n 1 d λf=>Ld e f id λf=>cL Tryz.prog f "colonnade/build.zero" [] e (λe f=>∃g:Int,e=(.int .i64 g)/\(If (g != 0) (K g f) (Wr .i64 (d+1) λd=>c (Mg P a A b d) f))) Kp) (Iu K Kp P a e)):=eH
theorem C6.of {K:bP} (H :
 NN P λa=>Ld h (a.add 15) .bool λa=>If a (NN P λa=>aQ h (a.add 11) λa b c d=>zS P a b c d h (λa b=>K a b) Kp) (NN P λa=>jB (some a) false h (λa b=>If (a != 0) (K a b) (NN P λa=>Ld b (a.add 16) Sl.v λa=>ua a b (λa b=>NN P λc=>Ld b (c.add 16) Sl.v λc=>Ht K Kp P a c (c.n:Int) 0 b) Kp)) Kp)) :
 C6 P h K Kp:=bU (rC K Kp) cy K Tryz.func169 H
noncomputable def Vz:=mc Tryz.prog Tryz.f170 [(2003,[3,6,7,8])] [] fM
abbrev Mf (x6:Sl) (x7:Int) (x3:Sl) (x8:Int):Fr:=(fg [(3,vS x3),(2,vS x6),(0,vI x7),(0,vI x8)] 10)
def Hs (K:dg) (Kp:PK) (x6:Sl) (x7:Int) (x3:Sl) (x8:Int):=lQ (Vz K Kp) 2003 58 [] (Mf x6 x7 x3 x8)
theorem Hs.bB {K:dg}:iK (Hs K Kp A a) (Mf A a) λb c d e=>(If (decide (d < a)) (Ix A.a A.n 1 d λf=>Ld e f id λf=>cL Tryz.prog f "colonnade/build.done" [] e (λe f=>∃g:Int,∃i:Int,∃j:Int,∃k:Sl,∃l:Sl,∃m:Sl,e=(.agg #[(.int .i64 g),(.int .i64 i),(.int .i64 j),(Sl.v k),(Sl.v l),(Sl.v m)])/\(aD f #[(.int .i64 g),(.int .i64 i),(.int .i64 j),(Sl.v k),(Sl.v l),(Sl.v m)] bG λe f=>Ap f bG bS 6 96 c 1 (rd f (some e) (1*6)) λc e=>Wr .i64 (d+1) λd=>b (Mf A a c d) e)) Kp) (K c e)):=iV
theorem zR.of {K:dg} (H :
 Hs K Kp A (A.n:Int) (⟨none,0,0⟩:Sl) 0 h) :
 zR A h K Kp:=bU (Vz K Kp) fM K Tryz.func170 H
noncomputable def Vy:=mc Tryz.prog Tryz.f171 [(2003,[3,6,7,8])] [(5,(OT.l [0,1,2,3,4,5] .fin),[0,0,2,6,15,31])] uL
abbrev Me (x3:Addr) (x6:Sl) (x7 x8:Int):Fr:=(fg [(3,vP x3),(2,vS x6),(0,vI x7),(0,vI x8)] 10)
def Hr (K:tL) (Kp:PK) (x3:Addr) (x6:Sl) (x7 x8:Int):=lQ (Vy K Kp) 2003 58 [] (Me x3 x6 x7 x8)
theorem Hr.bB {K:tL}:eG (Hr K Kp n A a) (Me n A a) λb c d=>(If (decide (c < a)) (Ix A.a A.n 1 c λe=>Ld d e id λe=>Ld d n Sl.v λf=>cL Tryz.prog e "colonnade/build.mark" [] d (λe g=>∃i:Value,e=i/\(aO d g n 1 <|NA i <|aD g #[i] Y4 λd e=>aO g e n 1 <|Ap e Y4 #[(.nilFunc)] 1 8 f 1 (rd e (some d) (1*1)) λd e=>St e n (Sl.v d) λd=>Wr .i64 (c+1) λc=>b (Me n A a c) d)) Kp) (K (.func (.func PO) #[] #[(.pointer (some n))]) d)):=eH
theorem zP.of {K:tL} (H :
 aD h #[(.slice none 0 0)] O3 λa b=>Hr K Kp a A (A.n:Int) 0 b) :
 zP A h K Kp:=bU (Vy K Kp) uL K Tryz.func171 H
theorem Ju.of {K:dR} (H :
 Ld h n id λa=>bJ Tryz.prog a [] h (λa b=>a=(.tuple #[])/\(Ld b o id λa=>bJ Tryz.prog a [] b (λa b=>a=(.tuple #[])/\(K  b)) Kp)) Kp) :
 Ju n o h K Kp:=ck gz K Tryz.func172 H
noncomputable def tC:=mc Tryz.prog Tryz.f173 [(2003,[3,6,7,8])] [] cy
abbrev Mc (x6:Sl) (x7 x3 x8:Int):Fr:=(fg [(3,vI x3),(2,vS x6),(0,vI x7),(0,vI x8)] 9)
def Hq (K:bP) (Kp:PK) (x6:Sl) (x7 x3 x8:Int):=lQ (tC K Kp) 2003 58 [] (Mc x6 x7 x3 x8)
theorem Hq.bB {K:bP}:iK (Hq K Kp A a) (Mc A a) λb c d e=>(If (decide (d < a)) (Ix A.a A.n 1 d λf=>Ld e f id λf=>cL Tryz.prog f "colonnade/build.weight" [] e (λe f=>∃g:Int,e=(.int .i64 g)/\(Wr .i64 (c+g) λc=>Wr .i64 (d+1) λd=>b (Mc A a c d) f)) Kp) (K c e)):=iV
theorem ua.of {K:bP} (H :
 Hq K Kp A (A.n:Int) 0 0 h) :
 ua A h K Kp:=bU (tC K Kp) cy K Tryz.func173 H
noncomputable def Vx:=mc Tryz.prog Tryz.f174 [(2001,[3,4,5])] [] gz
abbrev Mb (x3:Sl) (x4 x5:Int):Fr:=([nO,nO,nO,vS x3,vI x4,vI x5]++nn 6)
def Ho (K:dR) (Kp:PK) (x3:Sl) (x4 x5:Int):=lQ (Vx K Kp) 2001 6 [] (Mb x3 x4 x5)
theorem Ho.bB {K:dR}:eG (Ho K Kp A a) (Mb A a) λb c d=>(If (decide (c < a)) (Ix A.a A.n 1 c λe=>Ld d e id λe=>bJ Tryz.prog e [] d (λd e=>d=(.tuple #[])/\(Wr .i64 (c+1) λc=>b (Mb A a c) e)) Kp) (K  d)):=eH
theorem Jt.of {K:dR} (H :
 Ld h n Sl.v λa=>Ho K Kp a (a.n:Int) 0 h) :
 Jt n h K Kp:=bU (Vx K Kp) gz K Tryz.func174 H
noncomputable def Vw:=mc Tryz.prog Tryz.f175 [(2000002,[0,2,3])] [(1,(OT.l [0,1,2,3,4,5,6,8,9,10,11] (.alt (OT.l [7] (.alt (OT.l [12] (.alt (OT.l [13] (.alt (OT.l [14,15,16] .fin) (OT.l [15,14,16] .fin))) (OT.l [15,13,14,16] .fin))) (OT.l [15,12,13,14,16] .fin))) (OT.l [15,7,12,13,14,16] .fin))),[0,1,3,0,8,24,56,120,0,256,768,1792,4088,8184,16383,0,65535])] jm
def qn:=jK Vw 0 7 [.p, .d, .d]
theorem qn.of {K:gW} (H :
 NN P λa=>Ld h (a.add 18) Sl.v λa=>zR a h (λa b=>St b (o.add 4) (Sl.v a) λa=>bq a o λb c d e f g=>bw a n b c d e f g λa=>bq a n λb c d e f g=>K b c d e f g a) Kp) :
 qn K Kp P n o h:=jf H
theorem Js.of {K:gW} (H :
 aD h bS bG λa b=>NN P λc=>NN P λd=>Ld b (d.add 16) Sl.v λe=>NN P λf=>Ld b (f.add 17) Sl.v λg=>(tZ e b (λe i=>aO b i (f.add 17) 1 <|(kS g 4 i (λb g=>(aD g #[(Sl.v e),(Sl.v b)] fH λb e=>(dY (some c) (⟨some b,2,2⟩:Sl) e (λb c e g i j k=>aD k bS bG λl m=>aO k m (f.add 17) 1 <|aO k m (d.add 16) 1 <|bw m l b c e g i j λb=>qn K Kp P a l b) Kp)/\(aD e bS bG λg i=>aO e i (f.add 17) 1 <|aO e i (d.add 16) 1 <|dY (some c) (⟨some b,2,2⟩:Sl) i (λb c d e f i j=>bw j g b c d e f i λb=>qn K Kp P a g b) Kp))/\(aD g bS bG λi j=>aO g j (f.add 17) 1 <|aO g j (d.add 16) 1 <|aD j #[(Sl.v e),(Sl.v b)] fH λb d=>dY (some c) (⟨some b,2,2⟩:Sl) d (λb c d e f g j=>bw j i b c d e f g λb=>qn K Kp P a i b) Kp)) Kp)/\(aD i bS bG λb j=>aO i j (f.add 17) 1 <|aO i j (d.add 16) 1 <|kS g 4 j (λd f=>aD f #[(Sl.v e),(Sl.v d)] fH λd e=>dY (some c) (⟨some d,2,2⟩:Sl) e (λc d e f g i j=>bw j b c d e f g i λc=>qn K Kp P a b c) Kp) Kp)) Kp)/\(aD b bS bG λi j=>aO b j (f.add 17) 1 <|aO b j (d.add 16) 1 <|tZ e j (λb d=>aO j d (f.add 17) 1 <|kS g 4 d (λd e=>aD e #[(Sl.v b),(Sl.v d)] fH λb d=>dY (some c) (⟨some b,2,2⟩:Sl) d (λb c d e f g j=>bw j i b c d e f g λb=>qn K Kp P a i b) Kp) Kp) Kp)) :
 Js P h K Kp:=bU (Vw K Kp) jm K Tryz.func175 H
theorem zO.of {K:bP} (H :
 iJ h x a V A λa b=>Ld b (a.add 1) mI λc=>zN P c (.func (.func Xk) #[] #[(.pointer (some a))]) b (λa b=>K a b) Kp) :
 zO P x a V A h K Kp:=ck cy K Tryz.func177 H
theorem C5.of {K:bP} (H :
 NN P λa=>Ld h (a.add 15) .bool λa=>If a (NN P λa=>aQ h (a.add 11) λa b c d=>zO P a b c d h (λa b=>K a b) Kp) (zN P 0 (.func (.methodOf BX "colonnade/build.zero") #[] #[]) h (λa b=>K a b) Kp)) :
 C5 P h K Kp:=ck cy K Tryz.func178 H
theorem Jq.of {K:dR} (H :
 Ld h n id λa=>bJ Tryz.prog a [] h (λa b=>a=(.tuple #[])/\(Ld b o id λa=>bJ Tryz.prog a [] b (λa b=>a=(.tuple #[])/\(Ld b p .pointer λa=>Ld b p .pointer λc=>Ld b p .pointer λd=>NN d λd=>Ld b (d.add 16) Sl.v λd=>Ld b q mI λe=>gp d 1 none (some e) none λd=>Ld b p .pointer λe=>NN e λe=>Ld b (e.add 17) Sl.v λe=>Ld b q mI λf=>gp e 1 none (some f) none λe=>NN a λa=>St b (a.add 16) (Sl.v d) λa=>aO b a q 1 <|aO b a p 1 <|NN c λb=>St a (b.add 17) (Sl.v e) λa=>K  a)) Kp)) Kp) :
 Jq n o p q h K Kp:=jt [] [(2,(OT.l (List.range' 0 20) .fin),[0,0,0,4,12,28,0,124,0,256,768,1792,0,7936,4093,20477,53245,131071,262143,524287])] gz K Tryz.func179 H
theorem zN.of {K:bP} (H :
 NN P λb=>jB (some b) false h (λb c=>If (b != 0) (K b c) (NN P λb=>Ld c (b.add 18) Sl.v λb=>Ix b.a b.n 1 a λb=>Ld c b id λb=>cL Tryz.prog b "colonnade/build.weight" [] c (λc d=>∃e:Int,c=(.int .i64 e)/\(NN P λc=>Ld d (c.add 16) Sl.v λc=>Wr .u8 a λa=>aD d #[(.int .u8 a)] Y8 λa d=>Ap d Y8 #[(.int .u8 0)] 1 1 c 1 (rd d (some a) (1*1)) λa c=>NN P λd=>St c (d.add 16) (Sl.v a) λa=>NN P λc=>Ld a (c.add 17) Sl.v λd=>cL Tryz.prog b "colonnade/build.count" [] a (λf g=>∃i:Int,f=(.int .i64 i)/\(aO a g (c.add 17) 1 <|aD g #[(.int .i64 i)] Y6 λa f=>aO g f (c.add 17) 1 <|Ap f Y6 #[(.int .i64 0)] 1 8 d 1 (rd f (some a) (1*1)) λa c=>NN P λd=>St c (d.add 17) (Sl.v a) λa=>bJ Tryz.prog Y [b] a (λa c=>∃d:Int,a=(.int .i64 d)/\(If (d != 0) (K d c) (NN P λa=>cL Tryz.prog b "colonnade/build.weight" [] c (λb c=>∃d:Int,b=(.int .i64 d)/\(Wr .i64 ((16:Int)+d) λb=>Wr .i64 (b - e) λb=>iM (some a) b c (λa b=>K a b) Kp)) Kp))) Kp)) Kp)) Kp)) Kp) :
 zN P a Y h K Kp:=jt [] [(7,(OT.l (List.range' 0 12) .fin),[0,0,2,6,14,0,32,96,254,511,1023,2047]),(11,(OT.l [0,1,2,3,6,4,5,7,8,9] .fin),[0,1,3,0,8,24,0,120,255,511])] cy K Tryz.func180 H
theorem Jp.of {K:bP} (H :
 Ld h (n.add 3) Sl.v λa=>Ix a.a a.n 4 0 λa=>aQ h a λa b c d=>vW Tryz.prog Y "colonnade/build.take" <|cL Tryz.prog Y "colonnade/build.take" [(.agg #[(.bool a),(.int .i64 b),(.string c),(Sl.v d)])] h (λa b=>∃c:Int,a=(.int .i64 c)/\(K c b)) Kp) :
 Jp Y n h K Kp:=jt [] [(1,(OT.l (List.range' 0 10) .fin),[0,0,2,6,14,1,33,97,255,511])] cy K Tryz.func181 H
noncomputable def Vv:=mc Tryz.prog Tryz.f182 [(2000002,[0,2,3])] [(1,(OT.l [0,1,2,3,4,5,7,8,9,10,11,12,13,14,15,16,17] (.alt (OT.l [6] (.alt (OT.l [18] (.alt (OT.l [19] (.alt (OT.l [20] (.alt (OT.l [21,22,23] .fin) (OT.l [22,21,23] .fin))) (OT.l [22,20,21,23] .fin))) (OT.l [22,19,20,21,23] .fin))) (OT.l [22,18,19,20,21,23] .fin))) (OT.l [22,6,18,19,20,21,23] .fin))),[0,1,3,0,8,24,56,0,128,384,896,0,2048,6144,14336,30720,63488,129024,260216,524280,1048568,2097151,0,8388607])] jm
def oO:=jK Vv 0 7 [.p, .d, .d]
theorem oO.of {K:gW} (H :
 NN P λa=>Ld h (a.add 17) id λa=>cL Tryz.prog a "colonnade/build.done" [] h (λa b=>∃c:Int,∃d:Int,∃e:Int,∃f:Sl,∃g:Sl,∃i:Sl,a=(.agg #[(.int .i64 c),(.int .i64 d),(.int .i64 e),(Sl.v f),(Sl.v g),(Sl.v i)])/\(aD b #[(.int .i64 c),(.int .i64 d),(.int .i64 e),(Sl.v f),(Sl.v g),(Sl.v i)] bG λa b=>St b (o.add 5) (.slice (some a) 1 1) λa=>bq a o λb c d e f g=>bw a n b c d e f g λa=>bq a n λb c d e f g=>K b c d e f g a)) Kp) :
 oO K Kp P n o h:=jf H
theorem Jo.of {K:gW} (H :
 aD h bS bG λa b=>NN P λc=>NN P λd=>NN P λe=>Ld b (e.add 16) Sl.v λf=>NN P λg=>Ld b ((g.add 2).add 3) mI λi=>(mK (some d) b (λd j=>aO b j ((g.add 2).add 3) 1 <|aO b j (e.add 16) 1 <|(qu i j (λb i=>aO j i (e.add 16) 1 <|(kS f b i (λb f=>(aD f #[(Sl.v d),(Sl.v b)] fH λb d=>(dY (some c) (⟨some b,2,2⟩:Sl) d (λb c d f i j k=>aD k bS bG λl m=>aO k m ((g.add 2).add 3) 1 <|aO k m (e.add 16) 1 <|bw m l b c d f i j λb=>oO K Kp P a l b) Kp)/\(aD d bS bG λf i=>aO d i ((g.add 2).add 3) 1 <|aO d i (e.add 16) 1 <|dY (some c) (⟨some b,2,2⟩:Sl) i (λb c d e g i j=>bw j f b c d e g i λb=>oO K Kp P a f b) Kp))/\(aD f bS bG λi j=>aO f j ((g.add 2).add 3) 1 <|aO f j (e.add 16) 1 <|aD j #[(Sl.v d),(Sl.v b)] fH λb d=>dY (some c) (⟨some b,2,2⟩:Sl) d (λb c d e f g j=>bw j i b c d e f g λb=>oO K Kp P a i b) Kp)) Kp)/\(aD i bS bG λj k=>aO i k ((g.add 2).add 3) 1 <|aO i k (e.add 16) 1 <|kS f b k (λb e=>aD e #[(Sl.v d),(Sl.v b)] fH λb d=>dY (some c) (⟨some b,2,2⟩:Sl) d (λb c d e f g i=>bw i j b c d e f g λb=>oO K Kp P a j b) Kp) Kp)) Kp)/\(aD j bS bG λb k=>aO j k ((g.add 2).add 3) 1 <|aO j k (e.add 16) 1 <|qu i k (λg i=>aO k i (e.add 16) 1 <|kS f g i (λe f=>aD f #[(Sl.v d),(Sl.v e)] fH λd e=>dY (some c) (⟨some d,2,2⟩:Sl) e (λc d e f g i j=>bw j b c d e f g i λc=>oO K Kp P a b c) Kp) Kp) Kp)) Kp)/\(aD b bS bG λj k=>aO b k ((g.add 2).add 3) 1 <|aO b k (e.add 16) 1 <|mK (some d) k (λb d=>aO k d ((g.add 2).add 3) 1 <|aO k d (e.add 16) 1 <|qu i d (λg i=>aO d i (e.add 16) 1 <|kS f g i (λd e=>aD e #[(Sl.v b),(Sl.v d)] fH λb d=>dY (some c) (⟨some b,2,2⟩:Sl) d (λb c d e f g i=>bw i j b c d e f g λb=>oO K Kp P a j b) Kp) Kp) Kp) Kp)) :
 Jo P h K Kp:=bU (Vv K Kp) jm K Tryz.func182 H
noncomputable def Gn:=mc Tryz.prog Tryz.f184 [(2000007,[0,3]),(2000018,[0,3,6]),(2000017,[0,3,6,8])] [(1,(OT.l [0,1,2,3,4,5,6] .fin),[0,1,3,0,8,31,63]),(19,(OT.l [0,1,2,3,4,5,6] .fin),[0,1,3,0,8,31,63]),(12,(OT.l [0,1,2,3,4,5,6] .fin),[0,1,3,7,0,31,63]),(17,(OT.l [0,1,2,3,4,5,6,7,8,9,11] (.alt (OT.l [10,12,13,14] .fin) (OT.l [12,10,13,14] .fin))),[0,1,3,7,0,0,32,96,224,0,992,0,2048,8160,16383]),(16,(OT.l [0,1,2,3,4,6] (.alt (OT.l [5,7,8,9,11,12] (.alt (OT.l [10,13] .fin) (OT.l [13,10] .fin))) (OT.l [7,5,8,9,11,12] (.alt (OT.l [10,13] .fin) (OT.l [13,10] .fin))))),[0,1,3,7,0,16,15,0,255,511,1023,511,2559,6655])] cy
def tP:=jK Gn 1 63 [.p, .d,tI]
def mJ:=jK Gn 2 8031 [.p, .d,tI, .i .u64]
def It:=jK Gn 0 15 [.p, .d]
theorem tP.of {K:bP} (H :
 NN P λb=>Ld h (b.add 16) Sl.v λb=>aD h #[(.int .i64 a)] Y6 λa c=>Ap c Y6 #[(.int .i64 0)] 1 8 b 1 (rd c (some a) (1*1)) λa b=>NN P λc=>St b (c.add 16) (Sl.v a) λa=>NN P λb=>aQ a n λc d e f=>uc c d e f a (λa c=>iM (some b) a c (λa b=>K a b) Kp) Kp) :
 tP K Kp P n a h:=jf H
theorem mJ.of {K:bP} (H :
 NN P λc=>Ld h (c.add 19) .map λd=>NN P λe=>Ld h (e.add 19) .map λf=>(Lk h f (.int .u64) (.int .u64 b) (.slice none 0 0) Sl.v λf _=>aO h h (c.add 19) 1 <|aD h #[(.int .i64 a)] Y6 λg i=>aO h i (e.add 19) 1 <|aO h i (c.add 19) 1 <|Ap i Y6 #[(.int .i64 0)] 1 8 f 1 (rd i (some g) (1*1)) λe f=>aO i f (c.add 19) 1 <|Up f d (.int .u64) (.int .u64 b) (Sl.v e) λb=>tP K Kp P n a b)/\(aD h #[(.int .i64 a)] Y6 λg i=>aO h i (e.add 19) 1 <|aO h i (c.add 19) 1 <|Lk i f (.int .u64) (.int .u64 b) (.slice none 0 0) Sl.v λe _=>aO i i (c.add 19) 1 <|Ap i Y6 #[(.int .i64 0)] 1 8 e 1 (rd i (some g) (1*1)) λe f=>aO i f (c.add 19) 1 <|Up f d (.int .u64) (.int .u64 b) (Sl.v e) λb=>tP K Kp P n a b)) :
 mJ K Kp P n a b h:=jf H
theorem It.of {K:bP} (H :
 aQ h n λa b c d=>C3 P a b c d h (λa b=>If (decide (a < 0)) (NN P λa=>Ld b (a.add 18) Sl.v λa=>zL P b (λb c=>If (decide ((a.n:Int)>=b)) (K 102 c) (NN P λb=>Ld c (b.add 17) id λb=>aQ c n λd e f g=>cL Tryz.prog b "colonnade/build.take" [(.agg #[(.bool d),(.int .i64 e),(.string f),(Sl.v g)])] c (λb c=>∃d:Int,b=(.int .i64 d)/\(If (d != 0) (K d c) (aQ c n λb d e f=>wM b d e f c (λb c=>NN P λd=>Ld c (d.add 18) Sl.v λe=>aQ c n λf g i j=>(qt f g i j c (λf g i j k=>aO c k (d.add 18) 1 <|aD k #[(.bool false),(.int .i64 0),(.string (bs [])),(.slice none 0 0)] bW λc l=>aO k l n 4 <|aO k l (d.add 18) 1 <|Ap l bW dO 4 56 e 1 (rd l (some c) (1*4)) λc d=>Ix c.a c.n 4 (e.n:Int) λe=>NN P λk=>(bV d e f g i j λd=>St d (k.add 18) (Sl.v c) λc=>mJ K Kp P n (a.n:Int) b c)/\(St d (k.add 18) (Sl.v c) λc=>bV c e f g i j λc=>mJ K Kp P n (a.n:Int) b c)) Kp)/\(aD c #[(.bool false),(.int .i64 0),(.string (bs [])),(.slice none 0 0)] bW λk l=>aO c l n 4 <|aO c l (d.add 18) 1 <|qt f g i j l (λc f g i j=>aO l j (d.add 18) 1 <|Ap j bW dO 4 56 e 1 (rd j (some k) (1*4)) λd j=>Ix d.a d.n 4 (e.n:Int) λe=>NN P λk=>(bV j e c f g i λc=>St c (k.add 18) (Sl.v d) λc=>mJ K Kp P n (a.n:Int) b c)/\(St j (k.add 18) (Sl.v d) λd=>bV d e c f g i λc=>mJ K Kp P n (a.n:Int) b c)) Kp)) Kp))) Kp)) Kp) (tP K Kp P n a b)) Kp) :
 It K Kp P n h:=jf H
theorem zM.of {K:bP} (H :
 iJ h x a V A λa b=>NN P λc=>Ld b a .bool λd=>jB (some c) d b (λb c=>If (b != 0) (K b c) (Ld c a .bool λb=>If b (NN P λa=>Ld c (a.add 16) Sl.v λa=>aD c #[(.int .i64 0)] Y6 λb c=>Ap c Y6 #[(.int .i64 0)] 1 8 a 1 (rd c (some b) (1*1)) λa b=>NN P λc=>St b (c.add 16) (Sl.v a) λa=>NN P λb=>iM (some b) 16 a (λa b=>K a b) Kp) (It K Kp P a c))) Kp) :
 zM P x a V A h K Kp:=bU (Gn K Kp) cy K Tryz.func184 H
theorem C4.of {K:bP} (H :
 NN P λa=>Ld h (a.add 15) .bool λa=>If a (NN P λa=>aQ h (a.add 11) λa b c d=>zM P a b c d h (λa b=>K a b) Kp) (NN P λa=>jB (some a) false h (λa b=>If (a != 0) (K a b) (NN P λa=>Ld b (a.add 18) Sl.v λc=>zL P b (λd e=>aO b e (a.add 18) 1 <|If (decide ((c.n:Int)>=d)) (K 102 e) (NN P λa=>Ld e (a.add 17) id λa=>cL Tryz.prog a "colonnade/build.zero" [] e (λa b=>∃c:Int,a=(.int .i64 c)/\(If (c != 0) (K c b) (K 3 b))) Kp)) Kp)) Kp)) :
 C4 P h K Kp:=jt [] [(6,(OT.l (List.range' 0 8) .fin),[0,1,3,7,15,0,32,127])] cy K Tryz.func185 H
theorem qu.of {K:bP} (H :
 If (a == 3) (If (a == 3) (K 1 h) (If (a == 4) (If (a == 4) (K 2 h) (If (a == 5) (If (a == 5) (K 4 h) (K 8 h)) (If (a == 9) (K 4 h) (K 8 h)))) (If (a == 8) (K 2 h) (If (a == 5) (If (a == 5) (K 4 h) (K 8 h)) (If (a == 9) (K 4 h) (K 8 h)))))) (If (a == 7) (K 1 h) (If (a == 4) (If (a == 4) (K 2 h) (If (a == 5) (If (a == 5) (K 4 h) (K 8 h)) (If (a == 9) (K 4 h) (K 8 h)))) (If (a == 8) (K 2 h) (If (a == 5) (If (a == 5) (K 4 h) (K 8 h)) (If (a == 9) (K 4 h) (K 8 h))))))) :
 qu a h K Kp:=ck cy K Tryz.func186 H
noncomputable def Gm:=mc Tryz.prog Tryz.f187 [(2000003,[2,4]),(2000011,[2,4]),(2004,[2,4,5])] [(11,(OT.l (List.range' 0 10) .fin),[0,0,2,6,14,0,62,127,255,511]),(8,(OT.l (List.range' 0 11) .fin),[0,1,3,7,0,0,0,64,192,480,1023]),(2,(OT.l (List.range' 0 10) .fin),[0,0,2,6,14,0,62,127,255,511])] gz
def Ir:=jK Gm 1 31 [.d, .d]
abbrev Fe (x2 x4:Addr) (x5:Int):Fr:=([nO,nO,vP x2,nO,vP x4,vI x5]++nn 67)
def Hl (K:dR) (Kp:PK) (x2 x4:Addr) (x5:Int):=lQ (Gm K Kp) 2004 122 [] (Fe x2 x4 x5)
def Is:=jK Gm 0 15 [.d, .d]
theorem Ir.of {K:dR} (H :
 Ld h n .pointer λa=>Ld h n .pointer λb=>NN b λb=>Ld h (b.add 18) Sl.v λb=>Ld h o mI λc=>gp b 4 none (some c) none λb=>NN a λa=>St h (a.add 18) (Sl.v b) λa=>K  a) :
 Ir K Kp n o h:=jf H
theorem Hl.bB {K:dR}:eG (Hl K Kp n o) (Fe n o) λa b c=>(Ld c o mI λd=>If (decide (b>=d)) (Ld c n .pointer λd=>NN d λd=>Ld c (d.add 18) Sl.v λd=>Ix d.a d.n 4 b λd=>aQ c d λd e f g=>wM d e f g c (λc d=>Ld d n .pointer λe=>NN e λe=>Ld d (e.add 19) .map λe=>Lk d e (.int .u64) (.int .u64 c) (.slice none 0 0) Sl.v λe _=>Ld d n .pointer λf=>NN f λf=>Ld d (f.add 19) .map λf=>Wr .i64 ((e.n:Int) - 1) λg=>gp e 1 none (some g) none λg=>Up d f (.int .u64) (.int .u64 c) (Sl.v g) λd=>If ((e.n:Int) == 1) (Ld d n .pointer λe=>NN e λe=>Ld d (e.add 19) .map λe=>r7 d e (.int .u64) (.int .u64 c) λc=>Wr .i64 (b - 1) λb=>a (Fe n o b) c) (Wr .i64 (b - 1) λb=>a (Fe n o b) d)) Kp) (Ir K Kp n o c)):=eH
theorem Is.of {K:dR} (H :
 Ld h n .pointer λa=>NN a λa=>Ld h (a.add 18) Sl.v λa=>Wr .i64 ((a.n:Int) - 1) λa=>Hl K Kp n o a h) :
 Is K Kp n o h:=jf H
theorem Jm.of {K:dR} (H :
 Ld h n id λa=>bJ Tryz.prog a [] h (λa b=>a=(.tuple #[])/\(Ld b o id λa=>bJ Tryz.prog a [] b (λa b=>a=(.tuple #[])/\(Ld b p .pointer λa=>Ld b p .pointer λc=>NN c λc=>Ld b (c.add 16) Sl.v λc=>Ld b q mI λd=>gp c 1 none (some d) none λc=>NN a λa=>St b (a.add 16) (Sl.v c) λa=>Is K Kp p r a)) Kp)) Kp) :
 Jm n o p q r h K Kp:=bU (Gm K Kp) gz K Tryz.func187 H
theorem wM.of {K:vO} (H :
 iJ h x a V A λa b=>aD b #[(.int .u64 0)] akI λb c=>St c b (.int .u64 14695981039346656037) λc=>aQ c a λa d e f=>zK (some b) a d e f c (λa=>Ld a b (.int .u64) λb=>K b a) Kp) :
 wM x a V A h K Kp:=ck xy K Tryz.func188 H
noncomputable def Vu:=mc Tryz.prog Tryz.f189 [(2002,[0,3,13,14,15])] [(1,(OT.l [0,1,2,3,4,8,5,6,7] .fin),[0,1,3,7,0,16,63,127,0]),(4,(OT.l (List.range' 0 9) .fin),[0,1,3,7,0,31,63,0,255])] cy
abbrev Ma (x0:PA) (x3:Addr) (fj:Sl) (eu dZ:Int):Fr:=(fg [(0,vp x0),(2,vP x3),(9,vS fj),(0,vI eu),(0,vI dZ)] 14)
def Hj (K:bP) (Kp:PK) (x0:PA) (x3:Addr) (fj:Sl) (eu dZ:Int):=lQ (Vu K Kp) 2002 26 [] (Ma x0 x3 fj eu dZ)
theorem Hj.bB {K:bP}:eG (Hj K Kp P n A a) (Ma P n A a) λb c d=>(If (decide (c < a)) (Ix A.a A.n 1 c λe=>Ld d e mI λe=>NN P λf=>Ld d (f.add 18) Sl.v λf=>Ix f.a f.n 4 e λf=>aQ d f λf g i j=>aQ d n λk l m p=>wL f g i j k l m p d (λd f=>If d (K e f) (Wr .i64 (c+1) λc=>b (Ma P n A a c) f)) Kp) (K (-1) d)):=eH
theorem C3.of {K:bP} (H :
 iJ h x a V A λa b=>NN P λc=>Ld b (c.add 19) .map λd=>aQ b a λe f g i=>wM e f g i b (λe f=>aO b f (c.add 19) 1 <|Lk f d (.int .u64) (.int .u64 e) (.slice none 0 0) Sl.v λb _=>Hj K Kp P a b (b.n:Int) 0 f) Kp) :
 C3 P x a V A h K Kp:=bU (Vu K Kp) cy K Tryz.func189 H
theorem zL.of {K:bP} (H :
 NN P λa=>Ld h ((a.add 2).add 3) mI λa=>If (a == 3) (K 128 h) (If (a == 7) (K 256 h) (K 4097 h))) :
 zL P h K Kp:=ck cy K Tryz.func190 H
noncomputable def Vt:=mc Tryz.prog Tryz.f191 [(2003,[1,2,3,7,8,9])] [] qK
abbrev L9 (x1 x2:Addr) (x7:Sl) (x8:Int) (x3:Sl) (x9:Int):Fr:=([nO,vP x1,vP x2,vS x3,nO,nO,nO,vS x7,vI x8,vI x9]++nn 12)
def Hi (K:m7) (Kp:PK) (x1 x2:Addr) (x7:Sl) (x8:Int) (x3:Sl) (x9:Int):=lQ (Vt K Kp) 2003 58 [] (L9 x1 x2 x7 x8 x3 x9)
theorem Hi.bB {K:m7}:iK (Hi K Kp n o A a) (L9 n o A a) λb c d e=>(If (decide (d < a)) (Ix A.a A.n 4 d λf=>aQ e f λf g i j=>aD e dO bW λe k=>bV k e f g i j λf=>aQ f e λe g i j=>qt e g i j f (λe f g i j=>aD j #[(.bool e),(.int .i64 f),(.string g),(Sl.v i)] bW λe f=>Ap f bW dO 4 56 c 1 (rd f (some e) (1*4)) λc e=>Wr .i64 (d+1) λd=>b (L9 n o A a c d) e) Kp) (St e (n.add 3) (Sl.v c) λa=>aQ a n λb c d e=>bV a o b c d e λa=>aQ a o λb c d e=>K b c d e a)):=iV
theorem qt.of {K:m7} (H :
 iJ h x a V A λa b=>aD b dO bW λb c=>Ld c (a.add 3) Sl.v λd=>Hi K Kp a b d (d.n:Int) (⟨none,0,0⟩:Sl) 0 c) :
 qt x a V A h K Kp:=bU (Vt K Kp) qK K Tryz.func191 H
noncomputable def VG:=mc Tryz.prog Tryz.f192 [(2003,[3,11,12,13])] [] cy
abbrev Mr (lF:Sl) (gN x3 fj:Int):Fr:=(fg [(3,vI x3),(7,vS lF),(0,vI gN),(0,vI fj)] 9)
def HH (K:bP) (Kp:PK) (lF:Sl) (gN x3 fj:Int):=lQ (VG K Kp) 2003 58 [] (Mr lF gN x3 fj)
theorem HH.bB {K:bP}:iK (HH K Kp A a) (Mr A a) λb c d e=>(If (decide (d < a)) (Ix A.a A.n 4 d λf=>aQ e f λf g i j=>aD e dO bW λe k=>bV k e f g i j λf=>aQ f e λe g i j=>uc e g i j f (λe f=>Wr .i64 (c+e) λc=>Wr .i64 (d+1) λd=>b (Mr A a c d) f) Kp) (K c e)):=iV
theorem uc.of {K:bP} (H :
 iJ h x a V A λa b=>Ld b (a.add 2) .string λc=>Wr .i64 ((16:Int)+(c.size:Int)) λc=>Ld b (a.add 3) Sl.v λa=>HH K Kp a (a.n:Int) c 0 b) :
 uc x a V A h K Kp:=bU (VG K Kp) cy K Tryz.func192 H
noncomputable def BK:=mc Tryz.prog Tryz.f193 [(2000004,[0,3,4]),(2000012,[0,3]),(2014,[0,44,45,46]),(2008,[0,3,26,27])] [] gz
abbrev L8 (x0:PA) (Kb:Sl) (ke Ka:Int):Fr:=(fg [(0,vp x0),(43,vS Kb),(0,vI ke),(0,vI Ka)] 7)
def Hh (K:dR) (Kp:PK) (x0:PA) (Kb:Sl) (ke Ka:Int):=lQ (BK K Kp) 2014 2046 [] (L8 x0 Kb ke Ka)
def Iq:=jK BK 1 255 [.p, .d]
abbrev L7 (x0:PA) (x3:Addr) (gL n8:Int):Fr:=(fg [(0,vp x0),(2,vP x3),(22,vI gL),(0,vI n8)] 26)
def Hg (K:dR) (Kp:PK) (x0:PA) (x3:Addr) (gL n8:Int):=lQ (BK K Kp) 2008 1018 [] (L7 x0 x3 gL n8)
def yK:=jK BK 0 15 [.p, .d, .i .u8]
theorem Hh.bB {K:dR}:eG (Hh K Kp P A a) (L8 P A a) λb c d=>(If (decide (c < a)) (Ix A.a A.n 4 c λe=>aQ d e λe f g i=>aD d dO bW λd j=>bV j d e f g i λe=>aQ e d λd f g i=>zK P d f g i e (λd=>Wr .i64 (c+1) λc=>b (L8 P A a c) d) Kp) (K  d)):=eH
theorem Iq.of {K:dR} (H :
 Ld h (n.add 3) Sl.v λa=>Wr .u64 (a.n:Int) λa=>wJ P a h (λa=>Ld a (n.add 3) Sl.v λb=>Hh K Kp P b (b.n:Int) 0 a) Kp) :
 Iq K Kp P n h:=jf H
theorem Hg.bB {K:dR}:eG (Hg K Kp P n a) (L7 P n a) λb c d=>(If (decide (c < a)) (Ld d (n.add 2) .string λe=>gq e c λe=>wK P e d (λd=>Wr .i64 (c+1) λc=>b (L7 P n a c) d) Kp) (Iq K Kp P n d)):=eH
theorem yK.of {K:dR} (H :
 wK P a h (λa=>Ld a (n.add 1) mI λb=>Wr .u64 b λb=>wJ P b a (λa=>Ld a (n.add 2) .string λb=>Wr .u64 (b.size:Int) λb=>wJ P b a (λa=>Ld a (n.add 2) .string λb=>Hg K Kp P n (b.size:Int) 0 a) Kp) Kp) Kp) :
 yK K Kp P n a h:=jf H
theorem zK.of {K:dR} (H :
 iJ h x a V A λa b=>Ld b a .bool λc=>If c (yK K Kp P a 1 b) (yK K Kp P a 0 b)) :
 zK P x a V A h K Kp:=bU (BK K Kp) gz K Tryz.func193 H
noncomputable def BJ:=mc Tryz.prog Tryz.f194 [(2000003,[2,3]),(2004,[2,3,36,37]),(41012,[2,3,17]),(41019,[2,3,24])] [(6,(OT.l (List.range' 0 12) .fin),[0,1,0,7,15,0,32,0,224,480,1023,2047])] cJ
abbrev L6 (x2 x3:Addr) (lC n5:Int):Fr:=(fg [(2,vP x2),(0,vP x3),(32,vI lC),(0,vI n5)] 15)
def Hf (K:aX) (Kp:PK) (x2 x3:Addr) (lC n5:Int):=lQ (BJ K Kp) 2004 58 [] (L6 x2 x3 lC n5)
def Ip:=jK BJ 0 7 [.d, .d]
def v7:=rK BJ 3 12 [.d, .d, .b]
def wg:=rK BJ 2 12 [.d, .d, .b]
theorem Hf.bB {K:aX}:eG (Hf K Kp n o a) (L6 n o a) λb c d=>(If (decide (c < a)) (Ld d (n.add 3) Sl.v λe=>Ix e.a e.n 4 c λe=>aQ d e λe f g i=>Ld d (o.add 3) Sl.v λj=>Ix j.a j.n 4 c λj=>aQ d j λj k l m=>wL e f g i j k l m d (λd e=>If (!d) (K false e) (Wr .i64 (c+1) λc=>b (L6 n o a c) e)) Kp) (K true d)):=eH
theorem Ip.of {K:aX} (H :
 Ld h (n.add 3) Sl.v λa=>Hf K Kp n o (a.n:Int) 0 h) :
 Ip K Kp n o h:=jf H
theorem v7.of {K:aX} (H :
 If x (K false h) (Ld h (n.add 3) Sl.v λa=>Ld h (o.add 3) Sl.v λb=>If ((a.n:Int) != (b.n:Int)) (K false h) (Ip K Kp n o h))) :
 v7 K Kp n o x h:=jf H
theorem wg.of {K:aX} (H :
 If x (v7 K Kp n o true h) (Ld h (n.add 2) .string λa=>Ld h (o.add 2) .string λb=>v7 K Kp n o (!(a.toList == b.toList)) h)) :
 wg K Kp n o x h:=jf H
theorem wL.of {K:aX} (H :
 iJ h x a V A λa c=>iJ c y b W B λb c=>Ld c a .bool λd=>Ld c b .bool λe=>If (!(d == e)) (wg K Kp a b true c) (Ld c (a.add 1) mI λd=>Ld c (b.add 1) mI λe=>wg K Kp a b (d != e) c)) :
 wL x a V A y b W B h K Kp:=bU (BJ K Kp) cJ K Tryz.func194 H
theorem wK.of {K:dR} (H :
 NN P λb=>Ld h b (.int .u64) λb=>Wr .u64 a λa=>Lt (dF .xor .u64 b a) λa=>Wr .u64 (a*1099511628211) λa=>NN P λb=>St h b (.int .u64 a) λa=>K  a) :
 wK P a h K Kp:=ck gz K Tryz.func195 H
noncomputable def Vs:=mc Tryz.prog Tryz.f196 [(2001,[0,1,4])] [] gz
abbrev L5 (x0:PA) (x1 x4:Int):Fr:=([vp x0,some (.int .u64 x1),nO,nO,vI x4]++nn 8)
def He (K:dR) (Kp:PK) (x0:PA) (x1 x4:Int):=lQ (Vs K Kp) 2001 6 [] (L5 x0 x1 x4)
theorem He.bB {K:dR}:iK (He K Kp P) (L5 P) λa b c d=>(If (decide (c < 8)) (Wr .u8 b λe=>wK P e d (λd=>Nn 8<|Lt (Int.fdiv b (2 ^ (min (Int.toNat 8) (IntKind.bits .u64)))) λb=>Wr .i64 (c+1) λc=>a (L5 P b c) d) Kp) (K  d)):=iV
theorem wJ.of {K:dR} (H :
 He K Kp P a 0 h) :
 wJ P a h K Kp:=bU (Vs K Kp) gz K Tryz.func196 H
noncomputable def Vr:=mc Tryz.prog Tryz.f197 [(2000002,[0,2,3])] [(2,(OT.l (List.range' 0 14) .fin),[0,1,3,7,15,0,0,64,192,448,960,2016,4095,8191]),(1,(OT.l (List.range' 0 9) (.alt (OT.l [9] (.alt (OT.l [10,11,12,13] .fin) (OT.l [12,10,11,13] .fin))) (OT.l [12,9,10,11,13] .fin))),[0,1,3,7,15,0,32,96,224,480,992,2047,0,8191])] jm
def tO:=jK Vr 0 7 [.p, .d, .d]
theorem tO.of {K:gW} (H :
 NN P λa=>Ld h (a.add 7) mI λb=>bq h o λc d e f g i=>NN P λj=>Ld h (j.add 17) id λj=>cL Tryz.prog j "colonnade/build.done" [] h (λj k=>∃l:Int,∃m:Int,∃p:Int,∃q:Sl,∃r:Sl,∃s:Sl,j=(.agg #[(.int .i64 l),(.int .i64 m),(.int .i64 p),(Sl.v q),(Sl.v r),(Sl.v s)])/\(aO h k o 6 <|aO h k (a.add 7) 1 <|aD k #[(.int .i64 c),(.int .i64 d),(.int .i64 e),(Sl.v f),(Sl.v g),(Sl.v i),(.int .i64 l),(.int .i64 m),(.int .i64 p),(Sl.v q),(Sl.v r),(Sl.v s)] bG λc d=>aO k d (a.add 7) 1 <|bw d n b 0 0 (⟨none,0,0⟩:Sl) (⟨some c,2,2⟩:Sl) (⟨none,0,0⟩:Sl) λa=>bq a n λb c d e f g=>K b c d e f g a)) Kp) :
 tO K Kp P n o h:=jf H
theorem Jl.of {K:gW} (H :
 aD h bS bG λa b=>NN P λc=>Ld b (c.add 16) Sl.v λd=>NN P λe=>Ld b (e.add 16) Sl.v λf=>(kS f 4 b (λf g=>aO b g (c.add 16) 1 <|(aD g #[(.slice none 0 0),(Sl.v f)] fH λb f=>aO g f (c.add 16) 1 <|aD f bS bG λg i=>aO f i (e.add 16) 1 <|aO f i (c.add 16) 1 <|bw i g (d.n:Int) 0 0 (⟨some b,2,2⟩:Sl) (⟨none,0,0⟩:Sl) (⟨none,0,0⟩:Sl) λb=>tO K Kp P a g b)/\(aD g bS bG λb i=>aO g i (e.add 16) 1 <|aO g i (c.add 16) 1 <|aD i #[(.slice none 0 0),(Sl.v f)] fH λe f=>aO i f (c.add 16) 1 <|bw f b (d.n:Int) 0 0 (⟨some e,2,2⟩:Sl) (⟨none,0,0⟩:Sl) (⟨none,0,0⟩:Sl) λc=>tO K Kp P a b c)) Kp)/\(aD b bS bG λg i=>aO b i (e.add 16) 1 <|aO b i (c.add 16) 1 <|kS f 4 i (λb e=>aO i e (c.add 16) 1 <|aD e #[(.slice none 0 0),(Sl.v b)] fH λb f=>aO e f (c.add 16) 1 <|bw f g (d.n:Int) 0 0 (⟨some b,2,2⟩:Sl) (⟨none,0,0⟩:Sl) (⟨none,0,0⟩:Sl) λb=>tO K Kp P a g b) Kp)) :
 Jl P h K Kp:=bU (Vr K Kp) jm K Tryz.func197 H
noncomputable def Gl:=mc Tryz.prog Tryz.f199 [(2000007,[0,3]),(2000011,[0,3]),(3509999,[0,3,27])] [(7,(OT.l [0,1,2,3,4,5,6] .fin),[0,1,3,7,0,31,63]),(12,(OT.l [0,1,2,3,4,5,6] .fin),[0,1,3,0,8,31,63]),(10,(OT.l (List.range' 0 15) .fin),[0,0,2,6,14,0,32,96,224,480,992,2046,4095,8191,16383]),(5,(OT.l (List.range' 0 17) .fin),[0,1,3,7,0,16,48,112,240,496,0,1024,3072,7168,15360,32767,65535]),(6,(OT.l [0,1,2,3,4,5,6] .fin),[0,1,3,0,8,31,63]),(4,(OT.l (List.range' 0 14) .fin),[0,1,3,7,15,31,63,127,255,511,1023,127,4095,8191])] cy
def Io:=jK Gl 1 63 [.p, .d]
def Cm:=jK Gl 0 15 [.p, .d]
def yJ:=jK Gl 2 29 [.p, .d, .b]
theorem Io.of {K:bP} (H :
 aQ h n λa b c d=>qt a b c d h (λa b c d e=>NN P λf=>bV e (f.add 18) a b c d λa=>NN P λb=>aQ a n λc d e f=>uc c d e f a (λa c=>iM (some b) a c (λa b=>K a b) Kp) Kp) Kp) :
 Io K Kp P n h:=jf H
theorem Cm.of {K:bP} (H :
 NN P λa=>Ld h (a.add 17) id λa=>aQ h n λb c d e=>cL Tryz.prog a "colonnade/build.take" [(.agg #[(.bool b),(.int .i64 c),(.string d),(Sl.v e)])] h (λa b=>∃c:Int,a=(.int .i64 c)/\(If (c != 0) (K c b) (NN P λa=>Ld b (a.add 16) Sl.v λc=>NN P λd=>Ld b (d.add 7) mI λd=>aD b #[(.int .i64 d)] Y6 λd e=>aO b e (a.add 16) 1 <|Ap e Y6 #[(.int .i64 0)] 1 8 c 1 (rd e (some d) (1*1)) λa b=>NN P λc=>St b (c.add 16) (Sl.v a) λa=>Io K Kp P n a))) Kp) :
 Cm K Kp P n h:=jf H
theorem yJ.of {K:bP} (H :
 If x (NN P λa=>Ld h (a.add 16) Sl.v λa=>NN P λb=>Ld h (b.add 16) Sl.v λb=>Wr .i64 ((b.n:Int) - 1) λb=>NN P λc=>Ld h (c.add 7) mI λc=>Ix a.a a.n 1 b λa=>St h a (.int .i64 c) λa=>NN P λb=>aQ a n λc d e f=>uc c d e f a (λa c=>iM (some b) a c (λa b=>K a b) Kp) Kp) (Cm K Kp P n h)) :
 yJ K Kp P n x h:=jf H
theorem zJ.of {K:bP} (H :
 iJ h x a V A λa b=>NN P λc=>jB (some c) false b (λb c=>If (b != 0) (K b c) (NN P λb=>Ld c (b.add 16) Sl.v λb=>If (decide ((b.n:Int) > 0)) (NN P λb=>aQ c (b.add 18) λb d e f=>aQ c a λg i j k=>wL b d e f g i j k c (λb c=>yJ K Kp P a b c) Kp) (yJ K Kp P a false c))) Kp) :
 zJ P x a V A h K Kp:=bU (Gl K Kp) cy K Tryz.func199 H
theorem C2.of {K:bP} (H :
 NN P λa=>Ld h (a.add 15) .bool λa=>If a (NN P λa=>aQ h (a.add 11) λa b c d=>zJ P a b c d h (λa b=>K a b) Kp) (NN P λa=>jB (some a) false h (λa b=>If (a != 0) (K a b) (NN P λa=>Ld b (a.add 17) id λa=>cL Tryz.prog a "colonnade/build.zero" [] b (λa b=>∃c:Int,a=(.int .i64 c)/\(If (c != 0) (K c b) (K 3 b))) Kp)) Kp)) :
 C2 P h K Kp:=ck cy K Tryz.func200 H
noncomputable def Vp:=mc Tryz.prog Tryz.f201 [(2000003,[2,3,5])] [(4,(OT.l (List.range' 0 9) .fin),[0,1,3,7,0,16,0,127,255]),(2,(OT.l (List.range' 0 15) .fin),[0,0,0,4,12,28,0,124,0,253,765,1789,4095,8191,16383])] gz
def Im:=jK Vp 0 15 [.d, .d, .d]
theorem Im.of {K:dR} (H :
 Ld h o mI λa=>If (decide (a > 0)) (Ld h n .pointer λa=>NN a λa=>Ld h (a.add 16) Sl.v λa=>Ld h o mI λb=>Wr .i64 (b - 1) λb=>Ld h p mI λc=>Ix a.a a.n 1 b λa=>St h a (.int .i64 c) λa=>K  a) (K  h)) :
 Im K Kp n o p h:=jf H
theorem Jj.of {K:dR} (H :
 Ld h n id λa=>bJ Tryz.prog a [] h (λa b=>a=(.tuple #[])/\(Ld b o id λa=>bJ Tryz.prog a [] b (λa b=>a=(.tuple #[])/\(Ld b p .pointer λa=>Ld b p .pointer λc=>Ld b p .pointer λd=>NN d λd=>Ld b (d.add 16) Sl.v λd=>Ld b q mI λe=>gp d 1 none (some e) none λd=>aQ b r λe f g i=>NN a λa=>St b (a.add 16) (Sl.v d) λa=>aO b a r 4 <|aO b a p 1 <|NN c λb=>bV a (b.add 18) e f g i λa=>Im K Kp p q s a)) Kp)) Kp) :
 Jj n o p q r s h K Kp:=bU (Vp K Kp) gz K Tryz.func201 H
noncomputable def Gk:=mc Tryz.prog Tryz.f202 [(2000019,[0,2,3]),(2008,[0,2,3,38,39,40]),(2015,[0,2,3,4,72,73,74])] [(19,(OT.l [0,1,2,3,4,5,7,6,8,9,10] .fin),[0,1,3,0,8,24,56,0,248,511,1023]),(10,(OT.l (List.range' 0 13) .fin),[0,0,2,7,15,0,32,0,128,480,1023,2047,4095]),(13,(OT.l (List.range' 0 10) .fin),[0,1,3,7,15,0,32,127,255,511]),(4,(OT.l (List.range' 0 9) .fin),[0,1,3,7,0,16,48,127,255])] jm
def rO:=jK Gk 0 15 [.p, .d, .s]
abbrev L4 (x0:PA) (x2:Addr) (x3 Kg:Sl) (Kf uo:Int):Fr:=(fg [(0,vp x0),(1,vP x2),(0,vS x3),(34,vS Kg),(0,vI Kf),(0,vI uo)] 57)
def Ch (K:gW) (Kp:PK) (x0:PA) (x2:Addr) (x3 Kg:Sl) (Kf uo:Int):=lQ (Gk K Kp) 2008 3798 [] (L4 x0 x2 x3 Kg Kf uo)
abbrev L3 (x0:PA) (x2:Addr) (x3:Sl) (x4:Addr) (um:Sl) (J8 J7:Int):Fr:=(fg [(0,vp x0),(1,vP x2),(0,vS x3),(0,vP x4),(67,vS um),(0,vI J8),(0,vI J7)] 23)
def Cg (K:gW) (Kp:PK) (x0:PA) (x2:Addr) (x3:Sl) (x4:Addr) (um:Sl) (J8 J7:Int):=lQ (Gk K Kp) 2015 15222 [] (L3 x0 x2 x3 x4 um J8 J7)
theorem rO.of {K:gW} (H :
 NN P λa=>NN P λb=>mK (some b) h (λb c=>aD c #[(Sl.v b),(Sl.v A)] fH λb c=>dY (some a) (⟨some b,2,2⟩:Sl) c (λa b c d e f g=>bw g n a b c d e f λa=>bq a n λb c d e f g=>K b c d e f g a) Kp) Kp) :
 rO K Kp P n A h:=jf H
theorem Ch.bB {K:gW}:eG (Ch K Kp P n A B a) (L4 P n A B a) λb c d=>(If (decide (c < a)) (Ix B.a B.n 1 c λe=>Ld d e (.int .u64) λe=>Dv 8<|Wr .i64 (Int.tdiv c 8) λf=>Ix A.a A.n 1 f λg=>Ld d g (.int .u8) λg=>Wr .u8 e λe=>Dv 8<|Lt (Int.tmod c 8) λi=>Nn i<|Wr .u8 (e*2 ^ (min (Int.toNat i) (IntKind.bits .u8))) λe=>Lt (dF .or .u8 g e) λe=>Ix A.a A.n 1 f λf=>St d f (.int .u8 e) λd=>Wr .i64 (c+1) λc=>b (L4 P n A B a c) d) (rO K Kp P n A d)):=eH
theorem Cg.bB {K:gW}:eG (Cg K Kp P n A o B a) (L3 P n A o B a) λb c d=>(If (decide (c < a)) (Ix B.a B.n 1 c λe=>Ld d e .string λe=>Ld d (o.add 1) mI λf=>Wr .i64 (c*f) λf=>gp A 1 (some f) none none λf=>Ak d f.a (λa=>a=(e.extract 0 (Nat.min e.size f.n)).data.toList.map λa=>Value.int .u8 a.toNat) λd=>Wr .i64 (c+1) λc=>b (L3 P n A o B a c) d) (rO K Kp P n A d)):=eH
theorem Ji.of {K:gW} (H :
 aD h bS bG λa b=>NN P λc=>dH b (c.add 2) λc d e f g=>aD b uk mG λb i=>jz i b c d e f g λc=>Ld c b mI λd=>If (d == 2) (NN P λb=>Ld c (b.add 16) Sl.v λb=>Wr .i64 ((b.n:Int)+7) λb=>Dv 8<|Wr .i64 (Int.tdiv b 8) λb=>bI c Y8 #[(.int .u8 0)] 1 1 b b λb c=>NN P λd=>Ld c (d.add 16) Sl.v λd=>Ch K Kp P a b d (d.n:Int) 0 c) (If (d == 14) (NN P λd=>Ld c (d.add 17) Sl.v λd=>Ld c (b.add 1) mI λe=>Wr .i64 ((d.n:Int)*e) λd=>bI c Y8 #[(.int .u8 0)] 1 1 d d λc d=>NN P λe=>Ld d (e.add 17) Sl.v λe=>Cg K Kp P a c b e (e.n:Int) 0 d) (NN P λd=>Ld c (d.add 16) Sl.v λe=>Ld c b mI λb=>qu b c (λb f=>aO c f (d.add 16) 1 <|C1 e b f (λb c=>rO K Kp P a b c) Kp) Kp))) :
 Ji P h K Kp:=bU (Gk K Kp) jm K Tryz.func202 H
noncomputable def OB:=mc Tryz.prog Tryz.f204 [(2000005,[0,3]),(2000006,[0,3])] [(1,(OT.l [0,1,2,3,4,5,6] .fin),[0,1,3,0,8,31,63]),(6,(OT.l (List.range' 0 9) .fin),[0,1,3,0,8,24,56,127,255]),(5,(OT.l (List.range' 0 12) .fin),[0,0,2,6,14,0,32,96,254,511,1023,2047]),(4,(OT.l (List.range' 0 13) .fin),[0,0,2,6,14,0,32,96,224,510,1023,2047,4095])] cy
def Ik:=jK OB 1 31 [.p, .d]
def Il:=jK OB 0 15 [.p, .d]
theorem Ik.of {K:bP} (H :
 NN P λa=>Ld h (n.add 2) .string λb=>Wr .i64 ((16:Int)+(b.size:Int)) λb=>iM (some a) b h (λa b=>K a b) Kp) :
 Ik K Kp P n h:=jf H
theorem Il.of {K:bP} (H :
 NN P λa=>Ld h (a.add 17) Sl.v λb=>Ld h (n.add 2) .string λc=>aD h #[(.string c)] lS λc d=>aO h d (a.add 17) 1 <|Ap d lS #[(.string (bs []))] 1 16 b 1 (rd d (some c) (1*1)) λa b=>NN P λc=>St b (c.add 17) (Sl.v a) λa=>Ik K Kp P n a) :
 Il K Kp P n h:=jf H
theorem zI.of {K:bP} (H :
 iJ h x a V A λa b=>NN P λc=>Ld b a .bool λd=>jB (some c) d b (λb c=>If (b != 0) (K b c) (NN P λb=>Ld c (b.add 16) Sl.v λd=>Ld c (a.add 1) mI λe=>Wr .u64 e λe=>aD c #[(.int .u64 e)] kI λe f=>aO c f (b.add 16) 1 <|Ap f kI #[(.int .u64 0)] 1 8 d 1 (rd f (some e) (1*1)) λb c=>NN P λd=>St c (d.add 16) (Sl.v b) λb=>Il K Kp P a b)) Kp) :
 zI P x a V A h K Kp:=bU (OB K Kp) cy K Tryz.func204 H
theorem Jg.of {K:bP} (H :
 NN P λa=>aQ h (a.add 11) λa b c d=>zI P a b c d h (λa b=>K a b) Kp) :
 Jg P h K Kp:=ck cy K Tryz.func205 H
noncomputable def OA:=mc Tryz.prog Tryz.f206 [(2003,[1,5,14,15,16]),(2006,[1,5,7,14,15,16,20,21])] [] fM
abbrev L2 (x1:Int) (eu:Sl) (dZ:Int) (x5:Sl) (fh:Int):Fr:=(fg [(1,vI x1),(3,vS x5),(8,vS eu),(0,vI dZ),(0,vI fh)] 18)
abbrev L1 (x1 x7:Int) (eu:Sl) (dZ fh uv:Int) (x5:Sl) (uu:Int):Fr:=(fg [(1,vI x1),(3,vS x5),(1,some (.int .u64 x7)),(6,vS eu),(0,vI dZ),(0,vI fh),(3,vI uv),(0,vI uu)] 13)
def GZ (K:dg) (Kp:PK) (N1:Fr->HP) (x1 x7:Int) (eu:Sl) (dZ fh uv:Int) (x5:Sl) (uu:Int):=lQ (OA K Kp) 2006 14950 [N1] (L1 x1 x7 eu dZ fh uv x5 uu)
def G9 (K:dg) (Kp:PK) (x1:Int) (eu:Sl) (dZ:Int) (x5:Sl) (fh:Int):=lQ (OA K Kp) 2003 58 [] (L2 x1 eu dZ x5 fh)
theorem GZ.bB {K:dg}:iK (GZ K Kp N1 a b A c d e) (L1 a b A c d e) λf g i j=>(If (decide (i < e)) (Wr .i64 ((8:Int)*i) λk=>Nn k<|Lt (Int.fdiv b (2 ^ (min (Int.toNat k) (IntKind.bits .u64)))) λk=>Wr .u8 k λk=>aD j #[(.int .u8 k)] Y8 λj k=>Ap k Y8 #[(.int .u8 0)] 1 1 g 1 (rd k (some j) (1*1)) λg j=>Wr .i64 (i+1) λi=>f (L1 a b A c d e g i) j) (Wr .i64 (d+1) λb=>N1 (L2 a A c g b) j)):=iV
theorem G9.bB {K:dg}:iK (G9 K Kp a A b) (L2 a A b) λc d e f=>(If (decide (e < b)) (Ix A.a A.n 1 e λg=>Ld f g (.int .u64) λg=>GZ K Kp c a g A b e a d 0 f) (K d f)):=iV
theorem C1.of {K:dg} (H :
 Wr .i64 (a*(A.n:Int)) λb=>bI h Y8 #[(.int .u8 0)] 1 1 0 b λb c=>G9 K Kp a A (A.n:Int) b 0 c) :
 C1 A a h K Kp:=bU (OA K Kp) fM K Tryz.func206 H
theorem Jf.of {K:dR} (H :
 Ld h n id λa=>bJ Tryz.prog a [] h (λa b=>a=(.tuple #[])/\(Ld b o .pointer λa=>Ld b o .pointer λc=>Ld b o .pointer λd=>NN d λd=>Ld b (d.add 16) Sl.v λd=>Ld b p mI λe=>gp d 1 none (some e) none λd=>Ld b o .pointer λe=>NN e λe=>Ld b (e.add 17) Sl.v λe=>Ld b p mI λf=>gp e 1 none (some f) none λe=>NN a λa=>St b (a.add 16) (Sl.v d) λa=>aO b a p 1 <|aO b a o 1 <|NN c λb=>St a (b.add 17) (Sl.v e) λa=>K  a)) Kp) :
 Jf n o p h K Kp:=jt [] [(1,(OT.l (List.range' 0 20) .fin),[0,0,0,4,12,28,0,124,0,256,768,1792,0,7936,4093,20477,53245,131071,262143,524287])] gz K Tryz.func207 H
theorem Dt.of {K:WR} (H :
 vV h A a P λa d=>fQ d a λe f g=>wU e f g b c d (λd e=>If (!d) (K (bs []) 2 e) (fQ e a λa d f=>wT a d f b c e (λa b=>nZ b a λa=>K a 0 b) Kp)) Kp) :
 Dt A a P b c h K Kp:=ck RP K Tryz.func212 H
theorem DU.of {K:WS} (H :
 vV h A a P λa d=>fQ d a λa e f=>ue a e f b c d (λa b d=>If (b != 0) (K 0 b d) (Wr .i64 ((8:Int)*c) λb=>Wr .i64 ((64:Int) - b) λb=>Nn b<|Wr .u64 (a*2 ^ (min (Int.toNat b) (IntKind.bits .u64))) λa=>Wr .i64 a λa=>Nn b<|Lt (Int.fdiv a (2 ^ (min (Int.toNat b) (IntKind.bits .i64)))) λa=>K a 0 d)) Kp) :
 DU A a P b c h K Kp:=ck RQ K Tryz.func213 H
theorem ue.of {K:WQ} (H :
 vV h A a P λa d=>ud c d (λd e=>If (!d) (K 0 1 e) (fQ e a λd f g=>wU d f g b c e (λd e=>If (!d) (K 0 2 e) (fQ e a λa d f=>wT a d f b c e (λa b=>DE a b (λa b=>K a 0 b) Kp) Kp)) Kp)) Kp) :
 ue A a P b c h K Kp:=ck RO K Tryz.func214 H
noncomputable def OI:=mc Tryz.prog Tryz.f215 [(41006,[0,8]),(41010,[0,12])] [] cJ
def tS:=rK OI 1 6 [tI, .b]
def tT:=rK OI 0 6 [tI, .b]
theorem tS.of {K:aX} (H :
 If x (K true h) (K (a == 8) h)) :
 tS K Kp a x h:=jf H
theorem tT.of {K:aX} (H :
 If x (tS K Kp a true h) (tS K Kp a (a == 4) h)) :
 tT K Kp a x h:=jf H
theorem ud.of {K:aX} (H :
 If (a == 1) (tT K Kp a true h) (tT K Kp a (a == 2) h)) :
 ud a h K Kp:=bU (OI K Kp) cJ K Tryz.func215 H
noncomputable def VQ:=mc Tryz.prog Tryz.f216 [(2003,[3,6,7,8])] [] xy
abbrev MA (x6:Sl) (x7 x3 x8:Int):Fr:=(fg [(3,some (.int .u64 x3)),(2,vS x6),(0,vI x7),(0,vI x8)] 13)
def HX (K:vO) (Kp:PK) (x6:Sl) (x7 x3 x8:Int):=lQ (VQ K Kp) 2003 58 [] (MA x6 x7 x3 x8)
theorem HX.bB {K:vO}:iK (HX K Kp A a) (MA A a) λb c d e=>(If (decide (d < a)) (Ix A.a A.n 1 d λf=>Ld e f (.int .u8) λf=>Wr .u64 f λf=>Wr .i64 ((8:Int)*d) λg=>Nn g<|Wr .u64 (f*2 ^ (min (Int.toNat g) (IntKind.bits .u64))) λf=>Lt (dF .or .u64 c f) λc=>Wr .i64 (d+1) λd=>b (MA A a c d) e) (K c e)):=iV
theorem DE.of {K:vO} (H :
 HX K Kp A (A.n:Int) 0 0 h) :
 DE A h K Kp:=bU (VQ K Kp) xy K Tryz.func216 H
theorem Ds.of {K:bP} (H :
 Dx a h (λc d=>If (decide (a>=3)) (If (decide (a<=6)) (qx P 1 d (λa d e f=>Wr .i64 (b*c) λb=>DU a d e b c f (λa _ b=>K a b) Kp) Kp) (qx P 1 d (λa d e f=>Wr .i64 (b*c) λb=>ue a d e b c f (λa _ b=>Wr .i64 a λa=>K a b) Kp) Kp)) (qx P 1 d (λa d e f=>Wr .i64 (b*c) λb=>ue a d e b c f (λa _ b=>Wr .i64 a λa=>K a b) Kp) Kp)) Kp) :
 Ds P a b h K Kp:=ck cy K Tryz.func223 H
theorem Dr.of {K:m7} (H :
 aD h #[] BY λ_ b=>aD b dO bW λb c=>NN P λd=>dH c (d.add 2) λd e f g i=>aD c uk mG λc j=>jz j c d e f g i λd=>qx P 1 d (λd e f g=>aD g Ee BZ λg i=>m8 i g d e f λd=>wS Q 16 d (λd=>Ld d c mI λe=>If (e == 2) (fQ d g λc e f=>Dv 8<|Wr .i64 (Int.tdiv a 8) λg=>Af c e f g d (λc _ d=>Dv 8<|Lt (Int.tmod a 8) λa=>Nn a<|Lt (Int.fdiv c (2 ^ (min (Int.toNat a) (IntKind.bits .u8)))) λa=>Lt (dF .and .u8 a 1) λa=>Wr .i64 a λa=>bV d b false a (bs []) (⟨none,0,0⟩:Sl) λa=>aQ a b λb c d e=>K b c d e a) Kp) (If (e == 14) (Ld d (c.add 1) mI λe=>wS Q e d (λd=>fQ d g λe f g=>Ld d (c.add 1) mI λi=>Wr .i64 (a*i) λa=>Ld d (c.add 1) mI λc=>Dt e f g a c d (λa _ c=>bV c b false 0 a (⟨none,0,0⟩:Sl) λa=>aQ a b λb c d e=>K b c d e a) Kp) Kp) (Ld d c mI λc=>Ds P c a d (λa c=>bV c b false a (bs []) (⟨none,0,0⟩:Sl) λa=>aQ a b λb c d e=>K b c d e a) Kp))) Kp) Kp) :
 Dr P a Q h K Kp:=ck qK K Tryz.func226 H
end
theorem dH.b {h:Hp} {b:Nat} {el:TypeId} {t0 t1 t2 t3:Int} {t4:Sl} {K:Int->Int->Int->Int->Sl->Prop} (k:aB h b #[(.int .i64 t0),(.int .i64 t1),(.int .i64 t2),(.int .i64 t3),(Sl.v t4)] el) (hk:K t0 t1 t2 t3 t4):dH h ⟨b,0,none⟩ K:=by
 unfold dH;simp only[aI,Nat.zero_add];exact an k rfl (an k rfl (an k rfl (an k rfl (an k rfl (hk)))))
theorem dH.c {h:Hp} {a:Addr} {t0 t1 t2 t3:Int} {t4:Sl} {K:Int->Int->Int->Int->Sl->Prop} (c:Cs h a [(.int .i64 t0),(.int .i64 t1),(.int .i64 t2),(.int .i64 t3),(Sl.v t4)]) (hk:K t0 t1 t2 t3 t4):dH h a K :=
 ⟨_,(BU a ▸ c 0 _ rfl:cell h a=_),_,c 1 _ rfl,_,c 2 _ rfl,_,c 3 _ rfl,_,c 4 _ rfl,hk⟩
theorem jz.l {h:Hp} {a:Addr} {t0 t1 t2 t3:Int} {t4:Sl} {K:HP} (H:fI h a 0 [(.int .i64 t0),(.int .i64 t1),(.int .i64 t2),(.int .i64 t3),(Sl.v t4)] K):jz h a t0 t1 t2 t3 t4 K:=vR H
theorem jz.b {h:Hp} {b:Nat} {el:TypeId} {cs:Array Value} {t0 t1 t2 t3:Int} {t4:Sl} {K:HP} (k:aB h b cs el) (hs:cs.size=5) (hk:∀h',aM b h h'->aB h' b #[(.int .i64 t0),(.int .i64 t1),(.int .i64 t2),(.int .i64 t3),(Sl.v t4)] el->K h'):jz h ⟨b,0,none⟩ t0 t1 t2 t3 t4 K :=
 jz.l (vQ k hs (by simp[one,Sl.v]) hk)
theorem aN.b {h:Hp} {b:Nat} {el:TypeId} {t0:BA} {t1:Bool} {t2 t3 t4 t5:Int} {t6:Sl} {K:BA->Bool->Int->Int->Int->Int->Sl->Prop} (k:aB h b #[(.string t0),(.bool t1),(.int .i64 t2),(.int .i64 t3),(.int .i64 t4),(.int .i64 t5),(Sl.v t6)] el) (hk:K t0 t1 t2 t3 t4 t5 t6):aN h ⟨b,0,none⟩ K:=by
 unfold aN;simp only[aI,Nat.zero_add];exact an k rfl (an k rfl (an k rfl (an k rfl (an k rfl (an k rfl (an k rfl (hk)))))))
theorem aN.c {h:Hp} {a:Addr} {t0:BA} {t1:Bool} {t2 t3 t4 t5:Int} {t6:Sl} {K:BA->Bool->Int->Int->Int->Int->Sl->Prop} (c:Cs h a [(.string t0),(.bool t1),(.int .i64 t2),(.int .i64 t3),(.int .i64 t4),(.int .i64 t5),(Sl.v t6)]) (hk:K t0 t1 t2 t3 t4 t5 t6):aN h a K :=
 ⟨_,(BU a ▸ c 0 _ rfl:cell h a=_),_,c 1 _ rfl,_,c 2 _ rfl,_,c 3 _ rfl,_,c 4 _ rfl,_,c 5 _ rfl,_,c 6 _ rfl,hk⟩
theorem dW.l {h:Hp} {a:Addr} {t0:BA} {t1:Bool} {t2 t3 t4 t5:Int} {t6:Sl} {K:HP} (H:fI h a 0 [(.string t0),(.bool t1),(.int .i64 t2),(.int .i64 t3),(.int .i64 t4),(.int .i64 t5),(Sl.v t6)] K):dW h a t0 t1 t2 t3 t4 t5 t6 K:=vR H
theorem dW.b {h:Hp} {b:Nat} {el:TypeId} {cs:Array Value} {t0:BA} {t1:Bool} {t2 t3 t4 t5:Int} {t6:Sl} {K:HP} (k:aB h b cs el) (hs:cs.size=7) (hk:∀h',aM b h h'->aB h' b #[(.string t0),(.bool t1),(.int .i64 t2),(.int .i64 t3),(.int .i64 t4),(.int .i64 t5),(Sl.v t6)] el->K h'):dW h ⟨b,0,none⟩ t0 t1 t2 t3 t4 t5 t6 K :=
 dW.l (vQ k hs (by simp[one,Sl.v]) hk)
theorem bq.b {h:Hp} {b:Nat} {el:TypeId} {t0 t1 t2:Int} {t3 t4 t5:Sl} {K:Int->Int->Int->Sl->Sl->Sl->Prop} (k:aB h b #[(.int .i64 t0),(.int .i64 t1),(.int .i64 t2),(Sl.v t3),(Sl.v t4),(Sl.v t5)] el) (hk:K t0 t1 t2 t3 t4 t5):bq h ⟨b,0,none⟩ K:=by
 unfold bq;simp only[aI,Nat.zero_add];exact an k rfl (an k rfl (an k rfl (an k rfl (an k rfl (an k rfl (hk))))))
theorem bq.c {h:Hp} {a:Addr} {t0 t1 t2:Int} {t3 t4 t5:Sl} {K:Int->Int->Int->Sl->Sl->Sl->Prop} (c:Cs h a [(.int .i64 t0),(.int .i64 t1),(.int .i64 t2),(Sl.v t3),(Sl.v t4),(Sl.v t5)]) (hk:K t0 t1 t2 t3 t4 t5):bq h a K :=
 ⟨_,(BU a ▸ c 0 _ rfl:cell h a=_),_,c 1 _ rfl,_,c 2 _ rfl,_,c 3 _ rfl,_,c 4 _ rfl,_,c 5 _ rfl,hk⟩
theorem bw.l {h:Hp} {a:Addr} {t0 t1 t2:Int} {t3 t4 t5:Sl} {K:HP} (H:fI h a 0 [(.int .i64 t0),(.int .i64 t1),(.int .i64 t2),(Sl.v t3),(Sl.v t4),(Sl.v t5)] K):bw h a t0 t1 t2 t3 t4 t5 K:=vR H
theorem bw.b {h:Hp} {b:Nat} {el:TypeId} {cs:Array Value} {t0 t1 t2:Int} {t3 t4 t5:Sl} {K:HP} (k:aB h b cs el) (hs:cs.size=6) (hk:∀h',aM b h h'->aB h' b #[(.int .i64 t0),(.int .i64 t1),(.int .i64 t2),(Sl.v t3),(Sl.v t4),(Sl.v t5)] el->K h'):bw h ⟨b,0,none⟩ t0 t1 t2 t3 t4 t5 K :=
 bw.l (vQ k hs (by simp[one,Sl.v]) hk)
theorem cv.b {h:Hp} {b:Nat} {el:TypeId} {t0:Int} {t1:Sl} {t2:Int} {K:Int->Sl->Int->Prop} (k:aB h b #[(.int .i64 t0),(Sl.v t1),(.int .i64 t2)] el) (hk:K t0 t1 t2):cv h ⟨b,0,none⟩ K:=by
 unfold cv;simp only[aI,Nat.zero_add];exact an k rfl (an k rfl (an k rfl (hk)))
theorem bX.l {h:Hp} {a:Addr} {t0:Int} {t1:Sl} {t2:Int} {K:HP} (H:fI h a 0 [(.int .i64 t0),(Sl.v t1),(.int .i64 t2)] K):bX h a t0 t1 t2 K:=vR H
theorem bX.b {h:Hp} {b:Nat} {el:TypeId} {cs:Array Value} {t0:Int} {t1:Sl} {t2:Int} {K:HP} (k:aB h b cs el) (hs:cs.size=3) (hk:∀h',aM b h h'->aB h' b #[(.int .i64 t0),(Sl.v t1),(.int .i64 t2)] el->K h'):bX h ⟨b,0,none⟩ t0 t1 t2 K :=
 bX.l (vQ k hs (by simp[one,Sl.v]) hk)
theorem aQ.b {h:Hp} {b:Nat} {el:TypeId} {t0:Bool} {t1:Int} {t2:BA} {t3:Sl} {K:Bool->Int->BA->Sl->Prop} (k:aB h b #[(.bool t0),(.int .i64 t1),(.string t2),(Sl.v t3)] el) (hk:K t0 t1 t2 t3):aQ h ⟨b,0,none⟩ K:=by
 unfold aQ;simp only[aI,Nat.zero_add];exact an k rfl (an k rfl (an k rfl (an k rfl (hk))))
theorem aQ.c {h:Hp} {a:Addr} {t0:Bool} {t1:Int} {t2:BA} {t3:Sl} {K:Bool->Int->BA->Sl->Prop} (c:Cs h a [(.bool t0),(.int .i64 t1),(.string t2),(Sl.v t3)]) (hk:K t0 t1 t2 t3):aQ h a K :=
 ⟨_,(BU a ▸ c 0 _ rfl:cell h a=_),_,c 1 _ rfl,_,c 2 _ rfl,_,c 3 _ rfl,hk⟩
theorem bV.l {h:Hp} {a:Addr} {t0:Bool} {t1:Int} {t2:BA} {t3:Sl} {K:HP} (H:fI h a 0 [(.bool t0),(.int .i64 t1),(.string t2),(Sl.v t3)] K):bV h a t0 t1 t2 t3 K:=vR H
theorem bV.b {h:Hp} {b:Nat} {el:TypeId} {cs:Array Value} {t0:Bool} {t1:Int} {t2:BA} {t3:Sl} {K:HP} (k:aB h b cs el) (hs:cs.size=4) (hk:∀h',aM b h h'->aB h' b #[(.bool t0),(.int .i64 t1),(.string t2),(Sl.v t3)] el->K h'):bV h ⟨b,0,none⟩ t0 t1 t2 t3 K :=
 bV.l (vQ k hs (by simp[one,Sl.v]) hk)
theorem fQ.b {h:Hp} {b:Nat} {el:TypeId} {t0:Sl} {t1:Int} {t2:PA} {K:Sl->Int->PA->Prop} (k:aB h b #[(Sl.v t0),(.int .i64 t1),(.pointer t2)] el) (hk:K t0 t1 t2):fQ h ⟨b,0,none⟩ K:=by
 unfold fQ;simp only[aI,Nat.zero_add];exact an k rfl (an k rfl (an k rfl (hk)))
theorem m8.l {h:Hp} {a:Addr} {t0:Sl} {t1:Int} {t2:PA} {K:HP} (H:fI h a 0 [(Sl.v t0),(.int .i64 t1),(.pointer t2)] K):m8 h a t0 t1 t2 K:=vR H
theorem m8.b {h:Hp} {b:Nat} {el:TypeId} {cs:Array Value} {t0:Sl} {t1:Int} {t2:PA} {K:HP} (k:aB h b cs el) (hs:cs.size=3) (hk:∀h',aM b h h'->aB h' b #[(Sl.v t0),(.int .i64 t1),(.pointer t2)] el->K h'):m8 h ⟨b,0,none⟩ t0 t1 t2 K :=
 m8.l (vQ k hs (by simp[one,Sl.v]) hk)
theorem fZ.b {h:Hp} {b:Nat} {el:TypeId} {t0:BA} {t1:Bool} {t2 t3 t4 t5:Int} {t6:Sl} {t7 t8:Int} {t9:Sl} {t10:Int} {t11:Bool} {t12:Int} {t13:BA} {t14:Sl} {t15:Bool} {K:BA->Bool->Int->Int->Int->Int->Sl->Int->Int->Sl->Int->Bool->Int->BA->Sl->Bool->Prop} (k:aB h b #[(.string t0),(.bool t1),(.int .i64 t2),(.int .i64 t3),(.int .i64 t4),(.int .i64 t5),(Sl.v t6),(.int .i64 t7),(.int .i64 t8),(Sl.v t9),(.int .i64 t10),(.bool t11),(.int .i64 t12),(.string t13),(Sl.v t14),(.bool t15)] el) (hk:K t0 t1 t2 t3 t4 t5 t6 t7 t8 t9 t10 t11 t12 t13 t14 t15):fZ h ⟨b,0,none⟩ K:=by
 unfold fZ;simp only[aI,Nat.zero_add];exact an k rfl (an k rfl (an k rfl (an k rfl (an k rfl (an k rfl (an k rfl (an k rfl (an k rfl (an k rfl (an k rfl (an k rfl (an k rfl (an k rfl (an k rfl (an k rfl (hk))))))))))))))))
theorem mH.l {h:Hp} {a:Addr} {t0:BA} {t1:Bool} {t2 t3 t4 t5:Int} {t6:Sl} {t7 t8:Int} {t9:Sl} {t10:Int} {t11:Bool} {t12:Int} {t13:BA} {t14:Sl} {t15:Bool} {K:HP} (H:fI h a 0 [(.string t0),(.bool t1),(.int .i64 t2),(.int .i64 t3),(.int .i64 t4),(.int .i64 t5),(Sl.v t6),(.int .i64 t7),(.int .i64 t8),(Sl.v t9),(.int .i64 t10),(.bool t11),(.int .i64 t12),(.string t13),(Sl.v t14),(.bool t15)] K):mH h a t0 t1 t2 t3 t4 t5 t6 t7 t8 t9 t10 t11 t12 t13 t14 t15 K:=vR H
theorem mH.b {h:Hp} {b:Nat} {el:TypeId} {cs:Array Value} {t0:BA} {t1:Bool} {t2 t3 t4 t5:Int} {t6:Sl} {t7 t8:Int} {t9:Sl} {t10:Int} {t11:Bool} {t12:Int} {t13:BA} {t14:Sl} {t15:Bool} {K:HP} (k:aB h b cs el) (hs:cs.size=16) (hk:∀h',aM b h h'->aB h' b #[(.string t0),(.bool t1),(.int .i64 t2),(.int .i64 t3),(.int .i64 t4),(.int .i64 t5),(Sl.v t6),(.int .i64 t7),(.int .i64 t8),(Sl.v t9),(.int .i64 t10),(.bool t11),(.int .i64 t12),(.string t13),(Sl.v t14),(.bool t15)] el->K h'):mH h ⟨b,0,none⟩ t0 t1 t2 t3 t4 t5 t6 t7 t8 t9 t10 t11 t12 t13 t14 t15 K :=
 mH.l (vQ k hs (by simp[one,Sl.v]) hk)
theorem GL {k:IntKind} {x:Int} {K:Int->Prop} (h:K (k.wrap x)):Wr k x K:=h
theorem yH {α:Type} {x:α} {K:α->Prop} (h:K x):Lt x K:=h
def bv (l:List UInt8):List Value:=l.map λb=>.int .u8 b.toNat
theorem OM (a b:List UInt8):bv (a++b)=bv a++bv b:=by simp[bv]
theorem eL (a:List UInt8):(bv a).length=a.length:=by simp[bv]
theorem ajQ {a:List UInt8}:∀v∈bv a,one v=true:=by intro v b;simp only[bv,List.mem_map] at b;obtain ⟨x,_,rfl⟩:=b;rfl
inductive ai
 | mk (name:ByteArray) (aq:Bool) (kind width id ix:Int) (cs:List ai)
def kj (n:ByteArray) (aq:Bool) (k w id ix:Int) (s:Sl):List Value:=[.string n, .bool aq, .int .i64 k, .int .i64 w, .int .i64 id, .int .i64 ix,Sl.v s]
mutual
def bM (h:Hp) (s:Sl):List ai->Prop
 | []=>s.n=0/\s.n<=s.c
 | f::fs=>s.n=fs.length+1/\s.n<=s.c/\∃a,s.a=some a/\iw h a f/\fJ h a 1 fs
def fJ (h:Hp) (a:Addr) (i:Nat):List ai->Prop
 | []=>True
 | f::fs=>iw h (a.add (i*7)) f/\fJ h a (i+1) fs
def iw (h:Hp) (a:Addr):ai->Prop
 | .mk n aq k w id ix cs=>∃s,Cs h a (kj n aq k w id ix s)/\bM h s cs
end
theorem fJ.get {h:Hp} {a:Addr}:∀{d:List ai} {i:Nat},fJ h a i d->∀(j:Nat) f,d[j]? = some f->iw h (a.add ((i+j)*7)) f
  | [],_,_,_,_,b=>by simp at b
  | f::d,i,c,0,g,b=>by simp at b;subst b;unfold fJ at c;exact c.1
  | f::d,i,c,j+1,g,b=>by
    unfold fJ at c;have:=fJ.get c.2 j g (by simpa using b)
    have e:i+(j+1)=i+1+j:=ag;rw[e];exact this
theorem bM.get {h:Hp} {s:Sl} {l:List ai} (c:bM h s l) {j:Nat} {f:ai} (b:l[j]? = some f):∃a,s.a=some a/\iw h (a.add (j*7)) f:=by
  cases l with
  | nil=>simp at b
  | cons g m =>
    unfold bM at c;obtain ⟨_,_,a,d,k,i⟩:=c;refine ⟨a,d,?_⟩;cases j with
    | zero =>
      simp at b;subst b;have e:a.add (0*7)=a:=by simp[Addr.add]
      rw[e];exact k
    | succ j =>
      have:=i.get j f (by simpa using b)
      have e:1+j=j+1:=ag;rw[e] at this;exact this
theorem bM.n {h:Hp} {s:Sl} {fs:List ai} (q:bM h s fs):s.n=fs.length/\s.n<=s.c:=by
 cases fs with
 | nil=>unfold bM at q;exact q
 | cons g a=>unfold bM at q;exact ⟨q.1,q.2.1⟩
def Pt (h:Hp) (s:Sl) (sz:Nat) (rows:List (List Value)):Prop:=s.n=rows.length/\s.n<=s.c/\∀(j:Nat) r,rows[j]? = some r->∃a,s.a=some a/\Cs h (a.add (j*sz)) r
abbrev Md:=ByteArray × ByteArray
def adP (m:Md):List Value:=[.string m.1, .string m.2]
theorem add_zero' (a:Addr):a.add 0=a:=by unfold Addr.add;split <;> simp_all
mutual
theorem bM.aj {h h':Hp} (g:ah h h'):∀{s:Sl} (fs:List ai),bM h s fs->bM h' s fs
  | _,[],hh=>by unfold bM at hh ⊢;exact hh
  | _,f::fs,hh=>by
    unfold bM at hh ⊢
    obtain ⟨a,b,p,e,x,y⟩:=hh
    exact ⟨a,b,p,e,iw.aj g f x,fJ.aj g fs y⟩
theorem fJ.aj {h h':Hp} (g:ah h h'):∀{a:Addr} {i:Nat} (fs:List ai),fJ h a i fs->fJ h' a i fs
  | _,_,[],hh=>by unfold fJ at hh ⊢;exact hh
  | _,_,f::fs,hh=>by
    unfold fJ at hh ⊢
    exact ⟨iw.aj g f hh.1,fJ.aj g fs hh.2⟩
theorem iw.aj {h h':Hp} (g:ah h h'):∀{a:Addr} (f:ai),iw h a f->iw h' a f
  | _, .mk n aq k w id ix cs,hh=>by
    unfold iw at hh ⊢
    obtain ⟨s,c,x⟩:=hh
    exact ⟨s,c.aj g,bM.aj g cs x⟩
end
theorem kO {a:Addr} {K:Addr->Prop}:NN (some a) K=K a:=rfl
theorem bF {p q:Prop} (k:q) (e:q->p:=by intro h;simp only[kO,aI,Nat.zero_add];exact h):p:=e k
theorem Pt.ix {α:Type} {row:α->List Value} {h:Hp} {s:Sl} {m:Nat} {l:List α} (c:Pt h s m (l.map row)) {x:Int} {i:Nat} (o:x=(i:Int)) {r:α} (g:l[i]? = some r) {K:Addr->Prop} (p:∀a,Cs h a (row r)->K a):Ix s.a s.n m x K:=by
 obtain ⟨a,d,b⟩:=c.2.2 i (row r) (by rw[List.getElem?_map,g];rfl)
 have f:i < l.length:=(List.getElem?_eq_some_iff.1 g).1;have e:s.n=l.length:=by simpa using c.1
 subst o;rw[d];exact ⟨by omega,by omega,by rw[Int.toNat_natCast];exact p _ b⟩
theorem Cs.c0 {h:Hp} {a:Addr} {v:Value} {vs:List Value} (c:Cs h a (v::vs)):cell h a=some v:=by
 have:=c 0 _ rfl;rwa [add_zero'] at this
def Cf (c:Int):Prop:=(97<=c/\c<=122)\/(65<=c/\c<=90)\/c=95
def D2 (c:Int):Prop:=48<=c/\c<=57
def D5 (j:Nat) (c:Int):Prop:=Cf c\/(D2 c/\j≠0)
def GR (s:ByteArray):Prop:=1<=s.size/\s.size<=48/\∀(j:Nat) (b:UInt8),s[j]? = some b->D5 j (b.toNat:Int)
theorem aee {c:Int} {h:Hp} {K:Bool->HP} {Kp:PK} (hk:∀b,(b=true↔(Cf c\/D2 c))->K b h):Dw c h K Kp:=by
 refine Dw.of ?_;unfold Cf D2 at hk
 repeat' (first | ((with_reducible refine CE.of ?_);(try simp only[aI,Nat.reduceAdd])) | ((with_reducible refine zc.of ?_);(try simp only[aI,Nat.reduceAdd])) | ((with_reducible refine zb.of ?_);(try simp only[aI,Nat.reduceAdd])) | ((with_reducible refine bx (by first | rfl | (simp only[sm,reduceCtorEq];omega)) ?_)) | ((with_reducible refine aR (by first | rfl | (simp only[sm,reduceCtorEq];omega)) ?_)) | (((with_reducible refine aA (λc => ?_) (λc => ?_)) <;> (try simp only[sm,reduceCtorEq] at c))))
 all_goals refine hk _ ?_
 all_goals simp only[decide_eq_true_eq,decide_eq_false_iff_not,beq_iff_eq,beq_eq_false_iff_ne,ne_eq,reduceCtorEq,true_iff,false_iff] at *
 all_goals omega
theorem Tq {k:Int} {h:Hp} {K:Bool->HP} {Kp:PK} (hk:∀b,(b=true↔(1<=k/\k<=20))->K b h):Ad k h K Kp:=by
 refine Ad.of ?_
 repeat' (first | ((with_reducible refine bx (by first | rfl | (simp only[sm,reduceCtorEq];omega)) ?_)) | ((with_reducible refine aR (by first | rfl | (simp only[sm,reduceCtorEq];omega)) ?_)) | (((with_reducible refine aA (λc => ?_) (λc => ?_)) <;> (try simp only[sm,reduceCtorEq] at c))))
 all_goals refine hk _ ?_
 all_goals simp only[decide_eq_true_eq,decide_eq_false_iff_not,reduceCtorEq,true_iff,false_iff] at *
 all_goals omega
theorem BP {a b:ByteArray}:(a.toList == b.toList)=true↔a=b:=by
 rw[beq_iff_eq,ByteArray.toList_eq,ByteArray.toList_eq];exact ⟨bytes_inj,λe=>by rw[e]⟩
theorem adw {s:ByteArray} {h:Hp} {K:Bool->HP} {Kp:PK} (hs:s.size<=9223372036854775807) (hk:∀b,(b=true↔GR s)->K b h):DD s h K Kp:=by
 refine DD.of ?_;have hF:¬GR s->K false h:=λn=>hk false ⟨by simp,λx=>(n x).elim⟩
 refine HV.bB (λx h'=>h'=h/\∃i:Nat,x=i/\i<=s.size/\∀j b,j < i->s[j]? = some b->D5 j (b.toNat:Int)) (λx _=>s.size - x.toNat) ⟨rfl,0,rfl,by omega,λj b hj=>by omega⟩ ?_
 rintro x h1 ⟨rfl,i,rfl,hi,sZ⟩ N1 hN;refine aA (λc2 => ?_) λc2 => ?_
 ·simp only[decide_eq_true_eq] at c2;have jP:i < s.size:=ag;have hb:s[i]? = some s[i]:=getElem?_pos s i jP;generalize s[i]=b at hb;refine ⟨b,by omega,by rw[Int.toNat_natCast];exact hb,?_⟩
  have LS:¬D5 i (b.toNat:Int)->K false h1:=λn=>hF λq=>n (q.2.2 i b hb);have step:D5 i (b.toNat:Int)->Wr .i64 ((i:Int)+1) λt20=>N1 (xI s (s.size:Int) t20) h1:=λok=>by
   refine aP ag ag (hN _ _ ⟨rfl,i+1,by simp,by omega,λj b' hj q8 => ?_⟩ ag)
   by_cases e:j=i
   ·subst e;rw[hb] at q8;cases q8;exact ok
   ·exact sZ j b' ag q8
  refine aee λr hr => ?_;unfold D5 Cf D2 at LS step;unfold Cf D2 at hr;generalize (b.toNat:Int)=t at LS step hr;cases r <;> repeat' (first | ((with_reducible refine bx (by first | rfl | (simp only[sm,reduceCtorEq];omega)) ?_)) | ((with_reducible refine aR (by first | rfl | (simp only[sm,reduceCtorEq];omega)) ?_)) | (((with_reducible refine aA (λc => ?_) (λc => ?_)) <;> (try simp only[sm,reduceCtorEq] at c))))
  all_goals first | refine step ?_ | refine LS ?_
  all_goals simp only[decide_eq_true_eq,decide_eq_false_iff_not,beq_iff_eq,beq_eq_false_iff_ne,ne_eq,reduceCtorEq,true_iff,false_iff] at *
  all_goals omega
 ·simp only[decide_eq_false_iff_not] at c2;refine aA (λc3=>hk _ ?_) (λc3=>hF λq => ?_)
  ·rw[Bool.not_eq_true',Bool.eq_false_iff,ne_eq,BP] at c3;rw[decide_eq_true_eq];constructor
   ·intro h48;refine ⟨?_,by omega,λj b hb => ?_⟩
    ·rcases Nat.eq_zero_or_pos s.size with h0 | h0
     ·exact (c3 (bytes_inj (List.eq_nil_of_length_eq_zero (show s.data.toList.length=0 from h0)))).elim
     ·exact h0
    ·have:j < s.size:=by
      rcases Nat.lt_or_ge j s.size with h | h
      ·exact h
      ·rw[getElem?_neg s j ag] at hb;cases hb
     exact sZ j b ag hb
   ·intro q;have:=q.2.1;omega
  ·rw[Bool.not_eq_false',BP] at c3;subst c3;exact absurd q.1 aL
def Shaped (k w id ix:Int) (n:Nat):Prop :=
 1<=k/\k<=20/\(k=14->1<=w/\w<=16)/\(k=16->1<=w/\w<=64)/\(k≠14/\k≠16->w=0)/\(k=19->0<=id/\id<=31/\3<=ix/\ix<=10)/\(k≠19->id=0/\ix=0) /\
  (k=15\/k=16\/k=19\/k=20->n=1)/\(k=17->n<=32)/\(k=18->1<=n/\n<=32)/\(k≠15/\k≠16/\k≠19/\k≠20/\k≠17/\k≠18->n=0)
def gK (h:Hp):Prop:=∀i:Nat,i < 21->cell h ⟨2,i*4+3,none⟩=some (.bool (decide (3<=i/\i<=10)))
theorem gK.aj {h H:Hp} (t:gK h) (g:ah h H):gK H:=λi a=>g.cell (t i a)
theorem agR {k w id ix:Int} {s:Sl} {h:Hp} {K:Bool->HP} {Kp:PK} (ht:gK h) (hk:∀b h',ah h h'->(b=true↔Shaped k w id ix s.n)->K b h'):DC k w id ix s h K Kp:=by
  refine DC.of (az λb1 h1 e1 g1 k1 _ => ?_);have hk:=λb=>hk b h1 g1;have ht:=ht.aj g1;have ZD:∀(K:Bool->Prop),1<=ix->ix<=20->K (decide (3<=ix/\ix<=10))->Ix (some (⟨2,0,none⟩)) 21 4 ix λa67=>Ld h1 (a67.add 3) (Value.bool) λt69=>K t69:=by
    intro K h1 h2 hK;refine ⟨by omega,by omega,decide (3<=ix/\ix<=10),?_,hK⟩
    rw[aI,aI,Nat.zero_add,ht ix.toNat ag]
    congr 2
    rw[decide_eq_decide];omega
  clear ht e1;unfold Shaped at hk;refine an k1 rfl (Tq λb hb => ?_);cases b
  · refine bx rfl (hk _ ?_);simp only[sm,reduceCtorEq] at *;omega
  refine aR rfl (an k1 rfl ?_);have hb:=ay hb;rcases (by omega:k=14\/k=15\/k=16\/k=17\/k=18\/k=19\/k=20\/(k≠14/\k≠15/\k≠16/\k≠17/\k≠18/\k≠19/\k≠20)) with e | e | e | e | e | e | e | e
  case inr.inr.inr.inr.inr.inl =>
    repeat' (first | ((with_reducible refine kP.of ?_);(try simp only[aI,Nat.reduceAdd])) | ((with_reducible refine wD.of ?_);(try simp only[aI,Nat.reduceAdd])) | ((with_reducible refine ze.of ?_);(try simp only[aI,Nat.reduceAdd])) | ((with_reducible refine zd.of ?_);(try simp only[aI,Nat.reduceAdd])) | ((with_reducible refine bx (by first | rfl | (simp only[sm,reduceCtorEq];omega)) ?_)) | ((with_reducible refine aR (by first | rfl | (simp only[sm,reduceCtorEq];omega)) ?_)) | (((with_reducible refine aA (λc => ?_) (λc => ?_)) <;> (try simp only[sm,reduceCtorEq] at c))) | ((refine an k1 rfl ?_)))
    all_goals simp only[sm,reduceCtorEq] at *
    all_goals first
      | (refine Tq λb uZ => ?_
         cases b
         · have uZ:=ay uZ
           repeat' (first | ((with_reducible refine tR.of ?_);(try simp only[aI,Nat.reduceAdd])) | ((with_reducible refine oP.of ?_);(try simp only[aI,Nat.reduceAdd])) | ((with_reducible refine rX.of ?_);(try simp only[aI,Nat.reduceAdd])) | ((with_reducible refine rW.of ?_);(try simp only[aI,Nat.reduceAdd])) | ((with_reducible refine bx (by first | rfl | (simp only[sm,reduceCtorEq];omega)) ?_)) | ((with_reducible refine aR (by first | rfl | (simp only[sm,reduceCtorEq];omega)) ?_)) | (((with_reducible refine aA (λc => ?_) (λc => ?_)) <;> (try simp only[sm,reduceCtorEq] at c))) | ((refine an k1 rfl ?_)))
           all_goals refine hk _ ?_
           all_goals simp only[sm,reduceCtorEq] at *
           all_goals omega
         · have uZ:=ay uZ;refine tR.of ?_;simp only[aI,Nat.reduceAdd];refine bx rfl (an k1 rfl (ZD (λb=>oP K Kp ⟨b1,0,none⟩ 1 1 _ b h1) ag ag ?_))
           by_cases hx:3<=ix/\ix<=10
           · rw[decide_eq_true hx]
             repeat' (first | ((with_reducible refine oP.of ?_);(try simp only[aI,Nat.reduceAdd])) | ((with_reducible refine rX.of ?_);(try simp only[aI,Nat.reduceAdd])) | ((with_reducible refine rW.of ?_);(try simp only[aI,Nat.reduceAdd])) | ((with_reducible refine bx (by first | rfl | (simp only[sm,reduceCtorEq];omega)) ?_)) | ((with_reducible refine aR (by first | rfl | (simp only[sm,reduceCtorEq];omega)) ?_)) | (((with_reducible refine aA (λc => ?_) (λc => ?_)) <;> (try simp only[sm,reduceCtorEq] at c))) | ((refine an k1 rfl ?_)))
             all_goals refine hk _ ?_
             all_goals simp only[sm,reduceCtorEq] at *
             all_goals omega
           · rw[decide_eq_false hx]
             repeat' (first | ((with_reducible refine oP.of ?_);(try simp only[aI,Nat.reduceAdd])) | ((with_reducible refine rX.of ?_);(try simp only[aI,Nat.reduceAdd])) | ((with_reducible refine rW.of ?_);(try simp only[aI,Nat.reduceAdd])) | ((with_reducible refine bx (by first | rfl | (simp only[sm,reduceCtorEq];omega)) ?_)) | ((with_reducible refine aR (by first | rfl | (simp only[sm,reduceCtorEq];omega)) ?_)) | (((with_reducible refine aA (λc => ?_) (λc => ?_)) <;> (try simp only[sm,reduceCtorEq] at c))) | ((refine an k1 rfl ?_)))
             all_goals refine hk _ ?_
             all_goals simp only[sm,reduceCtorEq] at *
             all_goals omega)
      | (repeat' (first | ((with_reducible refine tR.of ?_);(try simp only[aI,Nat.reduceAdd])) | ((with_reducible refine oP.of ?_);(try simp only[aI,Nat.reduceAdd])) | ((with_reducible refine rX.of ?_);(try simp only[aI,Nat.reduceAdd])) | ((with_reducible refine rW.of ?_);(try simp only[aI,Nat.reduceAdd])) | ((with_reducible refine bx (by first | rfl | (simp only[sm,reduceCtorEq];omega)) ?_)) | ((with_reducible refine aR (by first | rfl | (simp only[sm,reduceCtorEq];omega)) ?_)) | (((with_reducible refine aA (λc => ?_) (λc => ?_)) <;> (try simp only[sm,reduceCtorEq] at c))) | ((refine an k1 rfl ?_)))
         all_goals refine hk _ ?_
         all_goals simp only[sm,reduceCtorEq] at *
         all_goals omega)
  all_goals repeat' (first | ((with_reducible refine kP.of ?_);(try simp only[aI,Nat.reduceAdd])) | ((with_reducible refine wD.of ?_);(try simp only[aI,Nat.reduceAdd])) | ((with_reducible refine ze.of ?_);(try simp only[aI,Nat.reduceAdd])) | ((with_reducible refine oP.of ?_);(try simp only[aI,Nat.reduceAdd])) | ((with_reducible refine rX.of ?_);(try simp only[aI,Nat.reduceAdd])) | ((with_reducible refine rW.of ?_);(try simp only[aI,Nat.reduceAdd])) | ((with_reducible refine zd.of ?_);(try simp only[aI,Nat.reduceAdd])) | ((with_reducible refine tR.of ?_);(try simp only[aI,Nat.reduceAdd])) | ((with_reducible refine bx (by first | rfl | (simp only[sm,reduceCtorEq];omega)) ?_)) | ((with_reducible refine aR (by first | rfl | (simp only[sm,reduceCtorEq];omega)) ?_)) | (((with_reducible refine aA (λc => ?_) (λc => ?_)) <;> (try simp only[sm,reduceCtorEq] at c))) | ((refine an k1 rfl ?_)))
  all_goals refine hk _ ?_
  all_goals simp only[sm,reduceCtorEq] at *
  all_goals omega
def ai.name:ai->ByteArray | .mk n _ _ _ _ _ _=>n
def ai.aq:ai->Bool | .mk _ b _ _ _ _ _=>b
def ai.k:ai->Int | .mk _ _ k _ _ _ _=>k
def ai.w:ai->Int | .mk _ _ _ w _ _ _=>w
def ai.id:ai->Int | .mk _ _ _ _ i _ _=>i
def ai.ix:ai->Int | .mk _ _ _ _ _ i _=>i
def ai.cs:ai->List ai | .mk _ _ _ _ _ _ cs=>cs
theorem iw.cells {h:Hp} {a:Addr} {f:ai} (c:iw h a f):∃s,bM h s f.cs/\cell h a=some (.string f.name)/\cell h (a.add 1)=some (.bool f.aq)/\cell h (a.add 2)=some (.int .i64 f.k) /\
  cell h (a.add 3)=some (.int .i64 f.w)/\cell h (a.add 4)=some (.int .i64 f.id)/\cell h (a.add 5)=some (.int .i64 f.ix)/\cell h (a.add 6)=some (Sl.v s):=by
 obtain ⟨n,aq,k,e,id,ix,ds⟩:=f;unfold iw at c;obtain ⟨u,b,d⟩:=c;have c0:=b 0 _ rfl;rw[add_zero'] at c0;exact ⟨u,d,c0,b 1 _ rfl,b 2 _ rfl,b 3 _ rfl,b 4 _ rfl,b 5 _ rfl,b 6 _ rfl⟩
theorem bM.ix {h:Hp} {s:Sl} {cs:List ai} (c:bM h s cs) {x:Int} {i:Nat} (o:x=(i:Int)) {f:ai} (g:cs[i]? = some f) {K:Addr->Prop} (p:∀a,iw h a f->K a):Ix s.a s.n 7 x K:=by
 obtain ⟨a,d,b⟩:=c.get g;have e:=c.n;have j:i < cs.length:=(List.getElem?_eq_some_iff.1 g).1;subst o;rw[d];exact ⟨by omega,by omega,by rw[Int.toNat_natCast];exact p _ b⟩
def yF (k:Int) (aq:Bool) (cs:List ai):Prop:=(k=1->aq=true)/\(k=18->aq=false)/\(k=20->∃c,cs[0]? = some c/\aq=c.aq)
theorem ado {n:ByteArray} {aq:Bool} {k w id ix:Int} {s:Sl} {cs:List ai} {H h:Hp} {K:Bool->HP} {x:PK} (g:ah H h) (p:bM H s cs) (t:k=20->cs.length=1) (d:∀b m,ah h m->(b=true↔yF k aq cs)->K b m):DB n aq k w id ix s h K x:=by
 refine DB.of (az λy r e1 o j _ => ?_);have d:=λb=>d b r o;unfold yF at d;simp only[aI,Nat.reduceAdd];refine an j rfl (aA (λc => ?_) (λc => ?_))
 ·have c:=ay c;subst c;refine an j rfl (d _ ?_);simp
 refine aA (λi => ?_) (λi => ?_)
 ·have i:=ay i;subst i;refine an j rfl (d _ ?_);simp
 refine aA (λe => ?_) (λe => ?_)
 ·have e:=ay e;subst e;have hl:=t rfl;have l:cs[0]? = some cs[0]:=List.getElem?_eq_getElem ag;refine an j rfl (an j rfl ?_);generalize cs[0]=f at l;refine p.ix rfl l λa q => ?_;obtain ⟨u,_,_,v,_⟩:=q.cells;refine ⟨_,(ah.trans g o).cell v,d _ ?_⟩;simp[l]
 ·simp only[sm,reduceCtorEq] at c i e;refine d _ ?_;simp[c,i,e]
def Ph (cs:List ai):Prop:=∀(i j:Nat) a b,j < i->cs[i]? = some a->cs[j]? = some b->a.name≠b.name
theorem akx {s:Sl} {cs:List ai} {H h:Hp} {p:Addr} {n:ByteArray} {K:Bool->HP} {R:PK} (g:ah H h) (A:bM H s cs) (hl:cs.length<=9223372036854775807) (E:cell h (p.add 2)=some (.string n))
  (B:∀b m,ah h m->(b=true↔∃c∈cs,c.name=n)->K b m):Dn s (.func (.func PR) #[] #[(.pointer (some p))]) h K R:=by
 refine Dn.of (JN.of ?_);have S:=A.n;have w:fC Tryz.prog PR=true:=by kernel_rfl
 refine HS.bB (λx m=>ah h m/\∃i:Nat,x=i/\i<=cs.length/\∀(j:Nat) a,j < i->cs[j]? = some a->a.name≠n) (λx _=>cs.length - x.toNat) ⟨ah.refl _,0,rfl,by omega,λj a F=>by omega⟩ ?_
 rintro x W ⟨l,i,rfl,F,d⟩ Y hN;refine aA (λc => ?_) (λc => ?_)
 ·have c:=ay c;have y:i < cs.length:=ag;have o:cs[i]? = some cs[i]:=List.getElem?_eq_getElem y;generalize cs[i]=f at o;refine A.ix rfl o λU J => ?_;obtain ⟨u,_,c0,P,O,k,N,M,L⟩:=J.cells;have G:=ah.trans g l;refine ⟨_,G.cell c0,_,G.cell P,_,G.cell O,_,G.cell k,_,G.cell N,_,G.cell M,_,G.cell L,?_⟩;unfold bJ;simp only[w,cond_true];refine Yt (y:=.b) (PW.of (az λX V e1 r D _=>an D rfl ⟨_,r.cell (l.cell E),(aA (λk => ?_) (λk => ?_))⟩))
  ·rw[BP] at k;refine B _ _ (ah.trans l r) ⟨λ_=>⟨f,List.mem_of_getElem? o,k⟩,λ_=>by rw[decide_eq_true_eq];omega⟩
  ·rw[Bool.eq_false_iff,ne_eq,BP] at k;refine aP ag ag (hN _ _ ⟨ah.trans l r,i+1,by simp,by omega,λz Q T v => ?_⟩ ag)
   by_cases e:z=i
   ·subst e;rw[o] at v;cases v;exact k
   ·exact d z Q ag v
 ·have c:=ay c;refine B _ _ l ⟨λq => ?_,λ⟨f,I,e⟩ => ?_⟩
  ·rw[decide_eq_true_eq] at q;omega
  ·obtain ⟨j,C⟩:=List.mem_iff_getElem?.1 I;exact (d j f (by have:=(List.getElem?_eq_some_iff.1 C).1;omega) C e).elim
structure Pl where
 deep:Nat
 ahead:List ai
 f:ai
 ins:Bool
mutual
def ai.places (d:Nat) (ahead:List ai) (ins:Bool):ai->List Pl
 | .mk n aq k w id ix cs=>⟨d,ahead, .mk n aq k w id ix cs,ins⟩::(if d < 65 then dm (d+1) [] (ins || k == 19) cs else [])
def dm (d:Nat) (ahead:List ai) (ins:Bool):List ai->List Pl
 | []=>[]
 | f::fs=>f.places d ahead ins++dm d (ahead++[f]) ins fs
end
def hO (d:Nat) (ins:Bool):List ai->List Pl
 | []=>[]
 | f::fs=>f.places d [] ins++hO d ins fs
def sN (ids:List Int) (f:ai):List Int:=if f.k=19 then ids++[f.id] else ids
def GP (n:Nat) (ids:List Int) (x:Pl):Prop:=x.deep<=64/\n < 256/\GR x.f.name/\(∀g∈x.ahead,g.name≠x.f.name)/\Shaped x.f.k x.f.w x.f.id x.f.ix x.f.cs.length/\yF x.f.k x.f.aq x.f.cs /\
 ¬(x.ins=true/\(x.f.k=19\/x.f.k=20))/\(x.f.k=19->(∃c,x.f.cs[0]? = some c/\c.aq=false)/\x.f.id∉ids)
def eR (n:Nat) (ids:List Int):List Pl->Prop
 | []=>True
 | x::xs=>GP n ids x/\eR (n+1) (sN ids x.f) xs
def kz (ids:List Int):List Pl->List Int
 | []=>ids
 | x::xs=>kz (sN ids x.f) xs
theorem Al {a b:List Pl}:∀{n:Nat} {c:List Int},eR n c (a++b)↔eR n c a/\eR (n+a.length) (kz c a) b:=by
  induction a with
  | nil=>intro n c;simp[eR,kz]
  | cons x d f =>
    intro n c;simp only[List.cons_append,eR,kz,f,List.length_cons,and_assoc];have e:n+1+d.length=n+(d.length+1):=ag;rw[e]
theorem TF {a b:List Pl}:∀{c:List Int},kz c (a++b)=kz (kz c a) b:=by
 induction a with
 | nil=>intro c;rfl
 | cons x e d=>intro c;simp only[List.cons_append,kz,d]
theorem amt {a:List Pl}:∀{n:Nat} {b:List Int},eR n b a->n<=256->n+a.length<=256:=by
  induction a with
  | nil=>intro n b _ h;simpa using h
  | cons x e c =>
    intro n b h _;obtain ⟨⟨_,f,_⟩,d⟩:=h;have:=c d ag;simp only[List.length_cons];omega
theorem acq {f:ai} {d:Nat} {ahead:List ai} {B:Bool} {n:Nat} {h:List Int}:eR n h (f.places d ahead B)↔(∀g∈ahead,g.name≠f.name)/\eR n h (f.places d [] B):=by
 obtain ⟨i,aq,k,w,id,ix,cs⟩:=f;simp only[ai.places,eR,GP,List.not_mem_nil];constructor
 ·rintro ⟨⟨a,b,c,e,r⟩,q⟩;exact ⟨e,⟨a,b,c,by simp,r⟩,q⟩
 ·rintro ⟨e,⟨a,b,c,_,r⟩,q⟩;exact ⟨⟨a,b,c,e,r⟩,q⟩
theorem aco {f:ai} {d:Nat} {ahead:List ai} {B:Bool}:(f.places d ahead B).length=(f.places d [] B).length:=by
 obtain ⟨a,aq,k,w,id,ix,cs⟩:=f;simp only[ai.places,List.length_cons]
theorem acp {f:ai} {d:Nat} {ahead:List ai} {B:Bool} {a:List Int}:kz a (f.places d ahead B)=kz a (f.places d [] B):=by
 obtain ⟨b,aq,k,w,id,ix,cs⟩:=f;simp only[ai.places,kz]
def oU:List ai->List ai->Prop
 | _,[]=>True
 | ahead,f::fs=>(∀g∈ahead,g.name≠f.name)/\oU (ahead++[f]) fs
theorem amu {l:List ai} {d:Nat} {B:Bool}:∀{ahead:List ai} {n:Nat} {g:List Int},eR n g (dm d ahead B l)↔oU ahead l/\eR n g (hO d B l):=by
  induction l with
  | nil=>intro ahead n g;simp[dm,hO,oU,eR]
  | cons f l h =>
    intro ahead n g;simp only[dm,hO,oU,Al,h,acq (ahead:=ahead),aco (ahead:=ahead),acp (ahead:=ahead)];constructor
    · rintro ⟨⟨a,b⟩,c,e⟩;exact ⟨⟨a,c⟩,b,e⟩
    · rintro ⟨⟨a,c⟩,b,e⟩;exact ⟨⟨a,b⟩,c,e⟩
theorem YZ {cs:List ai}:Ph cs↔cs.Pairwise λa b=>a.name≠b.name:=by
 rw[List.pairwise_iff_getElem];constructor
 ·intro u i j f d c e;exact u j i _ _ c (List.getElem?_eq_getElem d) (List.getElem?_eq_getElem f) e.symm
 ·intro u i j a b c h g e;obtain ⟨f,rfl⟩:=List.getElem?_eq_some_iff.1 h;obtain ⟨d,rfl⟩:=List.getElem?_eq_some_iff.1 g;exact u j i d f c e.symm
theorem akr {l:List ai}:∀{ahead:List ai},ahead.Pairwise (λa b=>a.name≠b.name)->(oU ahead l↔(ahead++l).Pairwise λa b=>a.name≠b.name):=by
  induction l with
  | nil=>intro ahead h;simp[oU,h]
  | cons f l i =>
    intro ahead h;simp only[oU];have e:ahead++f::l=(ahead++[f])++l:=by simp
    constructor
    · rintro ⟨o,n⟩;have c:(ahead++[f]).Pairwise λa b=>a.name≠b.name:=List.pairwise_append.2 ⟨h,by simp,λa m b j=>by simp only[List.mem_singleton] at j;subst j;exact o a m⟩
      rw[e];exact (i c).1 n
    · intro c;rw[e] at c;have d:=(List.pairwise_append.1 c).1;exact ⟨λg k=>(List.pairwise_append.1 d).2.2 g k f aS,(i d).2 c⟩
theorem Ea {fs:List ai} {d:Nat} {B:Bool} {n:Nat} {a:List Int}:eR n a (dm d [] B fs)↔Ph fs/\eR n a (hO d B fs):=by
 rw[amu,akr List.Pairwise.nil,List.nil_append,YZ]
def PD (m:Md):Prop:=m.1.size<=256/\m.2.size<=256
def Pq (fs:List ai) (ms:List Md):Prop:=fs.length<=32/\ms.length<=16/\(∀(j:Nat) m,ms[j]? = some m->PD m)/\Ph fs/\eR 0 [] (hO 1 false fs)
abbrev B61 (h:Hp) (b:Nat) (k w id ix:Int) (s:Sl):Prop:=aB h b #[.int .i64 k, .int .i64 w, .int .i64 id, .int .i64 ix,Sl.v s] mG
theorem xA {a:ByteArray} {aq:Bool} {k w id ix:Int} {cs:List ai} {d:Nat} {B:Bool} (b:d<=64):(ai.mk a aq k w id ix cs).places d [] B=⟨d,[], .mk a aq k w id ix cs,B⟩::dm (d+1) [] (B || k == 19) cs:=by
 unfold ai.places;rw[if_pos ag]
def lq (h:Hp) (r:Nat) (ids:List Int):Prop:=∃es c,h[r]? = some (.map es c)/\(∀e∈es.toList,∃x v:Int,e.key=.int .i64 x/\e.val=.int .i64 v)/\∀x:Int,(∃e∈es.toList,e.key=.int .i64 x)↔x∈ids
theorem lq.fr {S:Nat->Prop} {h g:Hp} {r:Nat} {b:List Int} (m:lq h r b) (f:Tn S h g) (k:¬S r):lq g r b:=by
 obtain ⟨a,c,e,q⟩:=m;exact ⟨a,c,(f.2 r (Array.getElem?_eq_some_iff.1 e).1 k).trans e,q⟩
theorem lq.aj {h H:Hp} {r:Nat} {c:List Int} (m:lq h r c) (g:ah h H):lq H r c:=m.fr (S:=No) (Tn.aT g) id
theorem lq.find {b:Array MapEntry} (g:∀e∈b.toList,∃x v:Int,e.key=.int .i64 x/\e.val=.int .i64 v) (t:Int):(Instr.findNow (.int .i64) (.int .i64 t) b.toList 0=some none/\¬∃e∈b.toList,e.key=.int .i64 t) \/
  ∃(j:Nat) (v:Int),Instr.findNow (.int .i64) (.int .i64 t) b.toList 0=some (some (j, .int .i64 v))/\∃e,b.toList[j]? = some e/\e.key=.int .i64 t:=by
 rcases MapKept.findNow_spec (d:=.int .i64) (k:=.int .i64 t) rfl b.toList 0 (λx h=>by obtain ⟨a,_,e,_⟩:=g x h;rw[e];rfl) with ⟨f,c⟩ | ⟨j,e,f,c,l⟩
 ·exact .inl ⟨f,λ⟨e,i,q⟩=>c e i q⟩
 ·obtain ⟨_,v,_,m⟩:=g e (List.mem_of_getElem? c);rw[Nat.zero_add,m] at f;exact .inr ⟨j,v,f,e,c,l⟩
theorem ali {h:Hp} {r:Nat} {a:List Int} {y:Int} {K:Int->Bool->Prop} (m:lq h r a) (i:∀x b,(b=true↔y∈a)->K x b):Lk h (some r) (.int .i64) (.int .i64 y) (.int .i64 (0:Int)) mI K:=by
 obtain ⟨k,c,e,l,g⟩:=m;rcases lq.find l y with ⟨f,d⟩ | ⟨j,v,f,o,d,n⟩
 ·exact ⟨k,c,_,e,f,0,rfl,i 0 false ⟨by simp,λq=>(d ((g y).2 q)).elim⟩⟩
 ·exact ⟨k,c,_,e,f,v,rfl,i v true ⟨λ_=>(g y).1 ⟨o,List.mem_of_getElem? d,n⟩,λ_=>rfl⟩⟩
theorem akN {h:Hp} {r:Nat} {n:List Int} {k v:Int} {K:HP} (m:lq h r n) (D:∀A,aM r h A->lq A r (n++[k])->K A):Up h (some r) (.int .i64) (.int .i64 k) (.int .i64 v) K:=by
  obtain ⟨s,c,e,u,C⟩:=m;have B:=(Array.getElem?_eq_some_iff.1 e).1;have l:∀o,aM r h (h.setIfInBounds r o):=λo=>⟨by simp,λb F=>by rw[Array.getElem?_setIfInBounds,if_neg (λq=>F q.symm)]⟩
  have get:∀o,(h.setIfInBounds r o)[r]? = some o:=λo=>by rw[Array.getElem?_setIfInBounds];simp[B]
  rcases lq.find u k with ⟨w,p⟩ | ⟨j,v0,w,H,p,G⟩
  · refine ⟨s,c,_,e,w,D _ (l _) ⟨_,_,get _,λx d => ?_,λx => ?_⟩⟩
    · simp only[Array.toList_push,List.mem_append,List.mem_singleton] at d;rcases d with d | rfl
      · exact u x d
      · exact ⟨k,v,rfl,rfl⟩
    · rw[List.mem_append,<-C x];simp only[Array.toList_push,List.mem_append,List.mem_singleton];constructor
      · rintro ⟨y,f | rfl,q⟩
        · exact .inl ⟨y,f,q⟩
        · simp only[Value.int.injEq,true_and] at q;exact .inr q.symm
      · rintro (⟨y,f,q⟩ | rfl)
        · exact ⟨y, .inl f,q⟩
        · exact ⟨_, .inr rfl,rfl⟩
  · refine ⟨s,c,_,e,w,D _ (l _) ⟨_,_,get _,λx d => ?_,λx => ?_⟩⟩
    · rw[Array.toList_modify] at d;obtain ⟨i,a⟩:=List.mem_iff_getElem?.1 d;rw[List.getElem?_modify] at a;cases g:s.toList[i]? with
      | none=>simp[g] at a
      | some y =>
        have f:=u y (List.mem_of_getElem? g);rw[g] at a;split at a <;> replace a:=Option.some.inj a
        · subst a;exact ⟨k,v,rfl,rfl⟩
        · subst a;exact f
    · rw[List.mem_append,<-C x,Array.toList_modify];constructor
      · rintro ⟨y,f,q⟩;obtain ⟨i,a⟩:=List.mem_iff_getElem?.1 f;rw[List.getElem?_modify] at a;cases g:s.toList[i]? with
        | none=>simp[g] at a
        | some z =>
          rw[g] at a;split at a <;> replace a:=Option.some.inj a
          · subst a;simp only[Value.int.injEq,true_and] at q;exact .inr (by simp[q])
          · subst a;exact .inl ⟨z,List.mem_of_getElem? g,q⟩
      · rintro (⟨y,f,q⟩ | d)
        · obtain ⟨i,a⟩:=List.mem_iff_getElem?.1 f
          by_cases E:j=i
          · subst E;rw[p] at a;cases a;refine ⟨_,List.mem_of_getElem? (i:=j) (by rw[List.getElem?_modify,p];simp;rfl),?_⟩
            rw[<-q,G]
          · exact ⟨y,List.mem_of_getElem? (i:=i) (by rw[List.getElem?_modify,a];simp[E]),q⟩
        · simp only[List.mem_singleton] at d;subst d;exact ⟨_,List.mem_of_getElem? (i:=j) (by rw[List.getElem?_modify,p];simp;rfl),rfl⟩
abbrev jY:Nat:=9223372036854775807
theorem YB {x:Pl} {n r:Nat} {p:List Int} {H h:Hp} {sp s t:Sl} {K:Int->HP} {Kp:PK} (g:ah H h) (ht:gK H) (hp:sp.n=x.deep) (M:bM H s x.ahead) (E:bM H t x.f.cs) (Y:x.ahead.length<=jY) (U:x.f.name.size<=jY) (hm:lq h r p)
  (hk:∀e A,ah h A->(e=0↔GP n p x)->K e A):DK sp s x.f.name x.f.aq x.f.k x.f.w x.f.id x.f.ix t x.ins (n:Int) (some r) h K Kp:=by
 have S:=E.n;refine DK.of ?_;have o:¬GP n p x->∀(e:Int) A,e≠0->ah h A->K e A:=λq e A ne g=>hk e A g ⟨λy=>(ne y).elim,λy=>(q y).elim⟩;refine az λb3 h1 e3 g3 j _ => ?_;simp only[aI,Nat.reduceAdd];refine an j rfl (an j rfl (an j rfl (an j rfl (an j rfl ?_))));have d:=fX.start No h1;refine d.new λb7 _ a' _ d => ?_
 repeat (first | refine d.mz 0 rfl rfl ?_ | refine d.ld 0 rfl rfl ?_ | refine d.mz 1 rfl rfl ?_ | refine d.ld 1 rfl rfl ?_ | refine d.mz 2 rfl rfl ?_ | refine d.ld 2 rfl rfl ?_ | refine d.mz 3 rfl rfl ?_ | refine d.ld 3 rfl rfl ?_ | refine d.mz 4 rfl rfl ?_ | refine d.ld 4 rfl rfl ?_ | refine d.mz 5 rfl rfl ?_ | refine d.ld 5 rfl rfl ?_ | refine d.mz 6 rfl rfl ?_ | refine d.ld 6 rfl rfl ?_ | (refine d.ko 0 rfl rfl rfl λ_ _ d => ?_;simp only[Nat.zero_add,List.set_cons_zero,List.set_cons_succ,List.setIfInBounds_toArray] at d) | (refine d.st 0 rfl rfl rfl λ_ _ d => ?_;simp only[Nat.zero_add,List.set_cons_zero,List.set_cons_succ,List.setIfInBounds_toArray] at d) | (refine d.ko 1 rfl rfl rfl λ_ _ d => ?_;simp only[Nat.zero_add,List.set_cons_zero,List.set_cons_succ,List.setIfInBounds_toArray] at d) | (refine d.st 1 rfl rfl rfl λ_ _ d => ?_;simp only[Nat.zero_add,List.set_cons_zero,List.set_cons_succ,List.setIfInBounds_toArray] at d) | (refine d.ko 2 rfl rfl rfl λ_ _ d => ?_;simp only[Nat.zero_add,List.set_cons_zero,List.set_cons_succ,List.setIfInBounds_toArray] at d) | (refine d.st 2 rfl rfl rfl λ_ _ d => ?_;simp only[Nat.zero_add,List.set_cons_zero,List.set_cons_succ,List.setIfInBounds_toArray] at d) | (refine d.ko 3 rfl rfl rfl λ_ _ d => ?_;simp only[Nat.zero_add,List.set_cons_zero,List.set_cons_succ,List.setIfInBounds_toArray] at d) | (refine d.st 3 rfl rfl rfl λ_ _ d => ?_;simp only[Nat.zero_add,List.set_cons_zero,List.set_cons_succ,List.setIfInBounds_toArray] at d) | (refine d.ko 4 rfl rfl rfl λ_ _ d => ?_;simp only[Nat.zero_add,List.set_cons_zero,List.set_cons_succ,List.setIfInBounds_toArray] at d) | (refine d.st 4 rfl rfl rfl λ_ _ d => ?_;simp only[Nat.zero_add,List.set_cons_zero,List.set_cons_succ,List.setIfInBounds_toArray] at d) | (refine d.ko 5 rfl rfl rfl λ_ _ d => ?_;simp only[Nat.zero_add,List.set_cons_zero,List.set_cons_succ,List.setIfInBounds_toArray] at d) | (refine d.st 5 rfl rfl rfl λ_ _ d => ?_;simp only[Nat.zero_add,List.set_cons_zero,List.set_cons_succ,List.setIfInBounds_toArray] at d) | (refine d.ko 6 rfl rfl rfl λ_ _ d => ?_;simp only[Nat.zero_add,List.set_cons_zero,List.set_cons_succ,List.setIfInBounds_toArray] at d) | (refine d.st 6 rfl rfl rfl λ_ _ d => ?_;simp only[Nat.zero_add,List.set_cons_zero,List.set_cons_succ,List.setIfInBounds_toArray] at d) | refine d.mz 0 (x:=Sl.nil) rfl rfl ?_ | refine d.ld 0 (x:=Sl.nil) rfl rfl ?_ | refine d.mz 1 (x:=Sl.nil) rfl rfl ?_ | refine d.ld 1 (x:=Sl.nil) rfl rfl ?_ | refine d.mz 2 (x:=Sl.nil) rfl rfl ?_ | refine d.ld 2 (x:=Sl.nil) rfl rfl ?_ | refine d.mz 3 (x:=Sl.nil) rfl rfl ?_ | refine d.ld 3 (x:=Sl.nil) rfl rfl ?_ | refine d.mz 4 (x:=Sl.nil) rfl rfl ?_ | refine d.ld 4 (x:=Sl.nil) rfl rfl ?_ | refine d.mz 5 (x:=Sl.nil) rfl rfl ?_ | refine d.ld 5 (x:=Sl.nil) rfl rfl ?_ | refine d.mz 6 (x:=Sl.nil) rfl rfl ?_ | refine d.ld 6 (x:=Sl.nil) rfl rfl ?_ | refine aP ag ag ?_ | refine bx rfl ?_ | refine aR rfl ?_)
 have m:B61 _ b7 x.f.k x.f.w x.f.id x.f.ix t:=d.aK (i:=0) rfl;have j:=j.aj d.aj;have D:=ah.trans g3 d.aj;clear d e3
 rename_i h7 _
 refine ali (hm.aj D) λtv ok G=>an j rfl (aA (λc=>o (λq => ?_) _ _ aL D) λc => ?_)
 ·have c:=ay c;have:=q.1;omega
 have c:=ay c;refine aA (λF=>o (λq => ?_) _ _ aL D) λF => ?_
 ·have F:=ay F;have:=q.2.1;omega
 have F:=ay F;refine an j rfl (adw U λb l => ?_);cases b
 ·exact bx rfl (o (λq=>absurd (l.2 q.2.2.1) aS) _ _ aL D)
 have C:=l.1 rfl;clear l;refine aR rfl (an j rfl (akx (ah.trans g D) M Y (n:=x.f.name) (by rw[aI,eW j];rfl) λb h8 O l => ?_))
 have R:=ah.trans D O;have j:=j.aj O;have m:=m.aj O;cases b;rotate_left
 ·obtain ⟨f,W,V⟩:=l.1 rfl;exact bx rfl (o (λq=>q.2.2.2.1 f W V) _ _ aL R)
 have X:∀f∈x.ahead,f.name≠x.f.name:=λf E e=>absurd (l.2 ⟨f,E,e⟩) aS;clear l;refine aR rfl (an m rfl (an m rfl (an m rfl (an m rfl (an m rfl (agR (ht.aj (ah.trans g R)) λb h9 N l => ?_))))));have Q:=ah.trans R N;have j:=j.aj N;have m:=m.aj N;rw[S.1] at l;cases b
 ·exact bx rfl (o (λq=>absurd (l.2 q.2.2.2.2.1) aS) _ _ aL Q)
 have jr:=l.1 rfl;clear l;refine aR rfl (an j rfl (an j rfl (an j rfl (an j rfl (an j rfl (an j rfl (an j rfl (ado (ah.trans g Q) E (λe=>by unfold Shaped at jr;omega) λb v B l => ?_))))))))
 have z:=ah.trans Q B;have j:=j.aj B;have m:=m.aj B;cases b
 ·exact bx rfl (o (λq=>absurd (l.2 q.2.2.2.2.2.1) aS) _ _ aL z)
 have T:=l.1 rfl;clear l;have hT:¬(x.ins=true/\(x.f.k=19\/x.f.k=20))->(x.f.k=19->(∃c,x.f.cs[0]? = some c/\c.aq=false)/\x.f.id∉p)->K 0 v:=λa b=>hk 0 v z ⟨λ_=>⟨by omega,by omega,C,X,jr,T,a,b⟩,λ_=>rfl⟩
 have o:=λq=>o q 36 v aL z;have J:∀b,(b=true↔x.ins=true/\(x.f.k=19\/x.f.k=20))->wF K Kp ⟨b7,0,none⟩ ok b v:=by
  intro b l;refine wF.of ?_;simp only[aI,Nat.reduceAdd];cases b
  ·have l:¬(x.ins=true/\(x.f.k=19\/x.f.k=20)):=λq=>absurd (l.2 q) aS;refine aR rfl (an m rfl (aA (λc => ?_) λc => ?_))
   ·have c:=ay c;have I:0 < x.f.cs.length:=by unfold Shaped at jr;omega
    obtain ⟨f,L⟩:∃f,x.f.cs[0]? = some f:=⟨x.f.cs[0],List.getElem?_eq_getElem I⟩;refine an m rfl (E.ix rfl L λa M => ?_);obtain ⟨u,_,_,c1,_⟩:=M.cells;refine ⟨_,(ah.trans g z).cell c1,(aA (λP => ?_) λP => ?_)⟩
    ·refine o λq => ?_;obtain ⟨y,Z,q⟩:=(q.2.2.2.2.2.2.2 c).1;rw[L] at Z;cases Z;simp[P] at q
    ·cases ok
     ·exact aR rfl (hT l λ_=>⟨⟨f,L,by simpa using P⟩,λq=>absurd (G.2 q) aS⟩)
     ·exact bx rfl (o λq=>(q.2.2.2.2.2.2.2 c).2 (G.1 rfl))
   ·have c:=ay c;exact hT l λq=>(c q).elim
  ·exact bx rfl (bx rfl (o λq=>q.2.2.2.2.2.2.1 (l.1 rfl)))
 refine aR rfl (an j rfl (aA (λe => ?_) λe => ?_))
 ·refine an m rfl (aA (λc=>J _ ?_) λc => ?_)
  ·have c:=ay c;simp[c,e]
  ·refine an m rfl (J _ ?_);have c:=ay c;simp[c,e]
 ·exact J _ (by simp[e])
theorem aje {lo:Nat} {h:Hp} {s:Sl} {vs:List Value} {K:Sl->HP} {B:PK} (o:Sh lo h.size 1 h s vs Y6) (w:∀v∈vs,one v=true) (hl:vs.length<=1000)
  (l:∀c f,ah h f->Sh h.size f.size 1 f c vs Y6->K c f):Dp s h K B:=by
 refine Dp.of ?_;have H:=o.n;rcases o with ⟨rfl,rfl⟩ | ⟨b,J,I,o⟩
 ·exact bx rfl (l _ h (ah.refl _) (Sh.nil _ _ _ _ _))
 ·obtain ⟨e1,O,cs,k,N,M,A⟩:=o;refine aR (by rw[e1];rfl) (az λq g L j u F => ?_)
  have r:Sh h.size g.size 1 g ⟨some ⟨q,0,none⟩,0,0⟩ [] Y6:=.inr ⟨q,by omega,by omega,rfl,rfl,_,u,Nat.le_refl _,rfl,λi e=>by simp at e⟩
  refine P2 r j.1 rfl (new:=vs) ag w (by rw[e1];exact ⟨by omega,λi v e=>by
   have E:=(List.getElem?_eq_some_iff.1 e).1;rw[aI,eW (k.aj j),Nat.zero_add,A i ag];exact e⟩) (by simp only;omega) (by simp only;omega) λc p z G t C => ?_
  have y:ah h p:=((Tn.aT j:Tn No h g).trans' z λd ⟨a,m,x⟩ D=>by simp only[Option.some.injEq] at m;subst m;simp only at x;omega).aj
  exact l c p y (by simpa using t)
theorem YM {lo:Nat} {h:Hp} {s:Sl} {vs:List Value} {x:Int} {K:Sl->HP} (o:Sh lo h.size 1 h s vs Y6) (v:lo<=h.size) (hl:vs.length<=1000)
  (m:∀a e,Tn (In lo h.size) h e->Sh lo e.size 1 e a (vs++[.int .i64 x]) Y6->a.n=vs.length+1->K a e) :
  aD h #[(.int .i64 x)] Y6 λj c=>Ap c Y6 #[(.int .i64 (0:Int))] 1 8 s 1 (rd c (some j) (1*1)) λg r=>K g r:=by
 have y:=o.n;exact az λb c z f l _=>P2 ((o.aj f).wide (Nat.le_refl lo) f.1) (by have:=f.1;omega) rfl (new:=[.int .i64 x]) rfl (by simp[one]) (iB l rfl) ag ag λa q t w k u=>m a q ((Tn.aT f:Tn (In lo h.size) h c).trans' t λd p i=>⟨(o.at p).1,i⟩) k ag
theorem R3 {a b:List ai} {d:Nat} {B:Bool}:∀{ahead:List ai},dm d ahead B (a++b)=dm d ahead B a++dm d (ahead++a) B b:=by
 induction a with
 | nil=>intro ahead;simp[dm]
 | cons f e c=>intro ahead;simp only[List.cons_append,dm,c,List.append_assoc,List.singleton_append,List.nil_append]
theorem fJ.take {h:Hp} {a:Addr}:∀{c:List ai} {i j:Nat},fJ h a i c->fJ h a i (c.take j)
  | [],_,j,b=>by cases j <;> simpa using b
  | f::c,_,0,b=>by simp[fJ]
  | f::c,_,j+1,b=>by
    unfold fJ at b;simp only[List.take_succ_cons,fJ];exact ⟨b.1,fJ.take b.2⟩
theorem bM.take {h:Hp} {s:Sl} {l:List ai} (g:bM h s l) {j:Nat} (d:j<=l.length) {s':Sl} (k:s'.a=s.a) (o:s'.n=j) (p:s'.c=s.c):bM h s' (l.take j):=by
  have b:=g.n;cases l with
  | nil=>simp at d;subst d;simp only[List.take_nil,bM];omega
  | cons f l =>
    cases j with
    | zero=>simp only[List.take_zero,bM];omega
    | succ j =>
      simp only[List.length_cons] at d b;unfold bM at g;obtain ⟨_,_,a,e,m,i⟩:=g;simp only[List.take_succ_cons,bM,List.length_take];exact ⟨by omega,by omega,a,k.trans e,m,i.take⟩
mutual
def ai.fy:ai->Prop
 | .mk n _ _ _ _ _ cs=>n.size<=jY/\cs.length<=jY/\gj cs
def gj:List ai->Prop
 | []=>True
 | f::fs=>f.fy/\gj fs
end
theorem gj.get:∀{b:List ai},gj b->∀f∈b,f.fy
  | [],_,_,h=>by simp at h
  | g::c,a,f,h=>by
    unfold gj at a;rcases List.mem_cons.1 h with rfl | h
    · exact a.1
    · exact gj.get a.2 f h
def Pw (h0:Hp) (x:Pl) (y0 y1:Sl) (y2:ByteArray) (y3:Bool) (y4 y5 y6 y7:Int) (y8:Sl) (y9:Bool):Prop :=
 (y0.n=x.deep/\y0.n<=y0.c)/\bM h0 y1 x.ahead/\y2=x.f.name/\y3=x.f.aq/\y4=x.f.k/\y5=x.f.w/\y6=x.f.id/\y7=x.f.ix/\bM h0 y8 x.f.cs/\y9=x.ins/\x.f.name.size<=jY/\x.ahead.length<=jY
def W9 (h0:Hp) (x:Pl) (args:List Value):Prop:=∃y0 y1 y2 y3 y4 y5 y6 y7 y8 y9,args=[(.agg #[(Sl.v y0),(Sl.v y1),(.string y2),(.bool y3),(.int .i64 y4),(.int .i64 y5),(.int .i64 y6),(.int .i64 y7),(Sl.v y8),(.bool y9)])]/\Pw h0 x y0 y1 y2 y3 y4 y5 y6 y7 y8 y9
def yj (a3 a4:Nat) (c1:Addr):Value:=.func (.func CV) #[] #[(.pointer (some ⟨a3,0,none⟩)),(.pointer (some c1)),(.pointer (some ⟨a4,0,none⟩))]
structure GM (h0:Hp) (lb a3 a4:Nat) (c1:Addr) (xs:List Pl) (J Jx:List Pl->HP):Prop where
 pre:∀p h1,J p h1->ah h0 h1/\cell h1 c1=some (.int .i64 65)
 aj:∀p h1 h2,ah h1 h2->J p h1->J p h2
 anR:∀p h1 h2,ah h1 h2->Jx p h1->Jx p h2
 y:∀p x dw h1 args,W9 h0 x args->xs=p++x::dw->J p h1->pV Tryz.prog lb args h1 (λv h2=>Tn (λc=>c<=lb) h1 h2/\((v=.bool true/\J (p++[x]) h2)\/(v=.bool false/\Jx (p++[x]) h2))) kN
 l3:lb < a3
 l4:lb < a4
structure vU (h:Hp) (a3 a4 lb:Nat) (c1:Addr):Prop where
 k3:aB h a3 #[.func (.yield lb) #[] #[]] WA
 k4:aB h a4 #[yj a3 a4 c1] Wz
theorem vU.fr {S:Nat->Prop} {h h':Hp} {a3 a4 lb:Nat} {c1:Addr} (o:vU h a3 a4 lb c1) (f:Tn S h h') (h3:¬S a3) (h4:¬S a4):vU h' a3 a4 lb c1:=⟨f.aK o.k3 h3,f.aK o.k4 h4⟩
theorem vU.aj {h h':Hp} {a3 a4 lb:Nat} {c1:Addr} (o:vU h a3 a4 lb c1) (g:ah h h'):vU h' a3 a4 lb c1:=o.fr (S:=No) (Tn.aT g) id id
def D0 (h0:Hp) (lb a3 a4:Nat) (c1:Addr) (xs:List Pl) (J Jx:List Pl->HP) (cs:List ai):Prop :=
 ∀{h1:Hp} {path l:Sl} {vs:List Value} {ins:Bool} {d lo:Nat} {p dw:List Pl} {K:Bool->HP},bM h0 l cs->Sh lo h1.size 1 h1 path vs Y6->lb < lo->lo<=h1.size->(∀v∈vs,one v=true)->vs.length=d->d<=64->vU h1 a3 a4 lb c1->cs.length<=jY->gj cs ->
  xs=p++(dm (d+1) [] ins cs++dw)->J p h1->(∀h2,Tn (λc=>c<=lb) h1 h2->J (p++dm (d+1) [] ins cs) h2->K true h2)->(∀h2 p' s',xs=p'++s'->Jx p' h2->K false h2) ->
  JP path l ins ⟨a3,0,none⟩ c1 ⟨a4,0,none⟩ h1 K kN
theorem UT {h0:Hp} {lb a3 a4:Nat} {c1:Addr} {xs:List Pl} {J Jx:List Pl->HP} (W:GM h0 lb a3 a4 c1 xs J Jx) {cs:List ai} (IH:∀f∈cs,D0 h0 lb a3 a4 c1 xs J Jx f.cs):D0 h0 lb a3 a4 c1 xs J Jx cs:=by
 intro h1 path l vs ins d lo p dw K hf op hlo afD Fm hvl hd own pM Nq qX hJ hT hX
 have NO:=hf.n
 have pM:cs.length<=9223372036854775807:=pM
 have gB:fC Tryz.prog CV=true:=by kernel_rfl
 refine JP.of ?_
 refine I2.of ?_
 refine HW.bB (λx h'=>∃i:Nat,x=(i:Int)/\i<=cs.length/\Tn (λc=>c<=lb) h1 h'/\J (p++dm (d+1) [] ins (cs.take i)) h') (λx _=>cs.length - x.toNat) ⟨0,rfl,by omega,Tn.refl _ _,by simpa[dm] using hJ⟩ ?_
 rintro x h2 ⟨i,rfl,hi,f2,FE⟩ N1 hN
 have LQ:=op.fr f2 λb hb _ (e:b<=lb)=>by omega
 have LQ:=LQ.wide (Nat.le_refl _) f2.1
 have Sa:=own.fr f2 (by have:=W.l3;show ¬a3<=lb;omega) (by have:=W.l4;show ¬a4<=lb;omega)
 have ans:lo<=h2.size:=Nat.le_trans afD f2.1
 have anu:lb < h2.size:=by have:=Sa.k3.lt;have:=W.l3;omega
 refine I1.of ?_
 refine aA (λc => ?_) λc => ?_
 ·simp only[sm,reduceCtorEq] at c
  have jP:i < cs.length:=by omega
  have hj:cs[i]? = some cs[i]:=List.getElem?_eq_getElem jP
  have sS:cs.take (i+1)=cs.take i++[cs[i]]:=List.take_succ_eq_append_getElem jP
  have sZ:cs=cs.take i++(cs[i]::cs.drop (i+1)):=by rw[<-List.drop_eq_getElem_cons jP,List.take_append_drop]
  have ND:cs[i]∈cs:=List.getElem_mem jP
  generalize cs[i]=f at hj sS sZ ND
  have Nx:dm (d+1) [] ins cs=dm (d+1) [] ins (cs.take i)++(f.places (d+1) (cs.take i) ins++dm (d+1) (cs.take i++[f]) ins (cs.drop (i+1))):=by
   have q:=congrArg (dm (d+1) [] ins) sZ
   rw[q,R3];simp[dm]
  have TW:dm (d+1) [] ins (cs.take (i+1))=dm (d+1) [] ins (cs.take i)++f.places (d+1) (cs.take i) ins:=by rw[sS,R3];simp[dm]
  have TN:=Nq.get f ND
  have uX:f.places (d+1) (cs.take i) ins=⟨d+1,cs.take i,f,ins⟩::(if d+1 < 65 then dm (d+2) [] (ins || f.k == 19) f.cs else []):=by cases f;rfl
  have jq:f.name.size<=jY/\f.cs.length<=jY/\gj f.cs:=by cases f;unfold ai.fy at TN;exact TN
  have IHf:D0 h0 lb a3 a4 c1 xs J Jx f.cs:=IH f ND
  refine hf.ix rfl hj λa ha => ?_
  obtain ⟨u,hu,c0,c1',c2,c3,c4,c5,c6⟩:=ha.cells
  have G:=(W.pre _ _ FE).1
  refine ⟨_,G.cell c0,_,G.cell c1',_,G.cell c2,_,G.cell c3,_,G.cell c4,_,G.cell c5,_,G.cell c6,?_⟩
  refine az λWe hx eb gx kx _=>dW.b kx rfl λh3 o3 pK => ?_
  have g3:ah h2 h3:=o3.aj gx (by omega)
  have anG:h2.size<=We:=by omega
  have anF:=pK.lt
  refine I0.of ?_
  refine aje ((LQ.aj g3).wide (Nat.le_refl _) g3.1) Fm (by omega) λt21 h4 g4 o4 => ?_
  have g4:=ah.trans g3 g4
  have pK:=pK.aj (ah.trans (ah.refl _) ‹ah h3 h4›)
  refine YM (lo:=h3.size) o4 ‹ah h3 h4›.1 (by omega) λEh h5 f5 o5 hn5 => ?_
  have pK:=f5.aK pK (λq=>by have:=q.1;omega)
  have g5:ah h2 h5:=((Tn.aT g4:Tn No h2 h4).trans' f5 λc hc fO=>by have:=hc.1;have:=g3.1;omega).aj
  have R9:=Sa.aj g5
  have Uh:=W.aj _ _ _ g5 FE
  have G5:=(W.pre _ _ Uh).1
  refine IZ.of ?_
  try simp only[aI,Nat.reduceAdd]
  refine an (x:=Value.func (.yield lb) #[] #[]) R9.k3 rfl ?_
  refine ⟨by simp,by simp,by simp;try omega,by simp;try omega,?_⟩
  refine aN.b pK ?_
  have hE:Pw h0 ⟨d+1,cs.take i,f,ins⟩ Eh ⟨jH l.a ((none:Option Int).getD 0).toNat ((none:Option Int).getD l.c).toNat 7,((some (i:Int)).getD l.n).toNat - ((none:Option Int).getD 0).toNat,((none:Option Int).getD l.c).toNat - ((none:Option Int).getD 0).toNat⟩ f.name f.aq f.k f.w f.id f.ix u ins:=by
   refine ⟨⟨show Eh.n=d+1 by omega,o5.cap⟩,hf.take hi ?_ ?_ ?_,rfl,rfl,rfl,rfl,rfl,rfl,hu,rfl,jq.1,by simp only[List.length_take];omega⟩
   ·simp only[jH,Option.getD_none,Int.toNat_zero,Nat.zero_mul]
    split
    ·rfl
    ·cases l.a with
     | none=>rfl
     | some a=>simp[add_zero']
   ·simp
   ·simp
  unfold bJ
  refine pV.mono (W.y _ _ ((if d+1 < 65 then dm (d+2) [] (ins || f.k == 19) f.cs else [])++(dm (d+1) (cs.take i++[f]) ins (cs.drop (i+1))++dw)) _ _ ⟨_,_,_,_,_,_,_,_,_,_,rfl,hE⟩ (by rw[qX,Nx,uX];simp) Uh) (λv h6 hv => ?_) (λ_ _ q=>q)
  obtain ⟨f6,(⟨rfl,NX⟩ | ⟨rfl,hX6⟩)⟩:=hv
  ·refine ⟨true,rfl,aR rfl ?_⟩
   have f26:=(Tn.aT g5:Tn (λc=>c<=lb) h2 h5).trans f6
   have pK:=f6.aK pK (show ¬We<=lb by omega)
   have R8:=R9.fr f6 (by have:=W.l3;show ¬a3<=lb;omega) (by have:=W.l4;show ¬a4<=lb;omega)
   have o6:=(o5.fr f6 λb hb _ (e:b<=lb)=>by have:=g3.1;omega).wide (Nat.le_refl _) f6.1
   have af4:=(W.pre _ _ NX).2
   refine IY.of ?_
   try simp only[aI,Nat.reduceAdd]
   refine ⟨_,af4,?_⟩
   have fin:∀h7,Tn (λc=>c<=lb) h2 h7->J (p++dm (d+1) [] ins (cs.take (i+1))) h7->Wr .i64 ((i:Int)+1) λt55=>N1 (sO path l ins ⟨a3,0,none⟩ c1 ⟨a4,0,none⟩ l (l.n:Int) t55) h7:=λh7 f7 j7 =>
    aP (by omega) (by omega) (hN _ _ ⟨i+1,by simp,by omega,f2.trans f7,j7⟩ (by omega))
   refine aA (λc => ?_) λc => ?_
   ·simp only[sm,reduceCtorEq] at c
    have af0:d+1 < 65:=by omega
    rw[if_pos af0] at uX
    have RK:∀(b:Bool),b=(ins || f.k == 19)->bJ Tryz.prog (yj a3 a4 c1) [Sl.v Eh,Sl.v u, .bool b] h6 (λr h1=>∃t52:Bool,r=.bool t52/\If (!t52) (K false h1) (Wr .i64 ((i:Int)+1) λt55=>N1 (sO path l ins ⟨a3,0,none⟩ c1 ⟨a4,0,none⟩ l (l.n:Int) t55) h1)) kN:=by
     intro b hb
     unfold bJ yj
     simp only[gB,cond_true]
     refine IHf (h1:=h6) (path:=Eh) (d:=d+1) (ins:=b) (lo:=h3.size) (p:=p++dm (d+1) [] ins (cs.take i)++[⟨d+1,cs.take i,f,ins⟩]) (dw:=dm (d+1) (cs.take i++[f]) ins (cs.drop (i+1))++dw)
      (K:=λt52 h1=>If (!t52) (K false h1) (Wr .i64 ((i:Int)+1) λt55=>N1 (sO path l ins ⟨a3,0,none⟩ c1 ⟨a4,0,none⟩ l (l.n:Int) t55) h1)) hu o6 (by have:=g3.1;omega) (by have:=g5.1;have:=f6.1;have:=‹ah h3 h4›.1;have:=f5.1;omega)
      (λv hv=>by rcases List.mem_append.1 hv with q | q;exact Fm v q;simp only[List.mem_singleton] at q;subst q;rfl) (by simp;omega) (by omega) R8 jq.2.1 jq.2.2 (by rw[qX,Nx,uX,hb];simp) NX (λh7 f7 j7 => ?_) (λh7 p' s' e j => ?_)
     ·refine aR rfl (fin h7 (f26.trans f7) ?_)
      rw[TW,uX,<-hb]
      simpa using j7
     ·exact bx rfl (hX h7 p' s' e j)
    refine an (x:=yj a3 a4 c1) R8.k4 rfl (an pK rfl ?_)
    cases ins
    ·refine aR rfl (an pK rfl ?_)
     exact RK _ (by simp)
    ·exact bx rfl (RK _ (by simp))
   ·simp only[sm,reduceCtorEq] at c
    refine fin h6 f26 ?_
    rw[if_neg (by omega)] at uX
    rw[TW,uX]
    simpa using NX
  ·exact ⟨false,rfl,bx rfl (hX h6 _ ((if d+1 < 65 then dm (d+2) [] (ins || f.k == 19) f.cs else [])++(dm (d+1) (cs.take i++[f]) ins (cs.drop (i+1))++dw)) (by rw[qX,Nx,uX];simp) hX6)⟩
 ·simp only[sm,reduceCtorEq] at c
  have:i=cs.length:=by omega
  subst this
  rw[List.take_length] at FE
  exact hT h2 f2 FE
theorem UU {h0:Hp} {lb a3 a4:Nat} {c1:Addr} {xs:List Pl} {J Jx:List Pl->HP} (W:GM h0 lb a3 a4 c1 xs J Jx):∀f:ai,D0 h0 lb a3 a4 c1 xs J Jx f.cs
 | .mk _ _ _ _ _ _ cs=>UT W (cs:=cs) λf _=>UU W f
def O0 (c1 c2:Addr):Value:=.func (.func PS) #[] #[(.pointer (some c1)),(.pointer (some c2))]
theorem ahA {h0:Hp} {lb a3 a4:Nat} {c1:Addr} {xs:List Pl} {J Jx:List Pl->HP} (W:GM h0 lb a3 a4 c1 xs J Jx) (cs:List ai):D0 h0 lb a3 a4 c1 xs J Jx cs:=UT W λf _=>UU W f
theorem akv {h0:Hp} {c1 c2:Addr} {l:Sl} {cs:List ai} (hf:bM h0 l cs) (pM:cs.length<=jY) (Nq:gj cs) :
  PL Tryz.prog (O0 c1 c2) (dm 1 [] false cs) (W9 h0) (λh=>ah h0 h/\cell h c1=some (.int .i64 65)/\cell h c2=some (Sl.v l)):=by
 intro lb J Jx h jq hJ0 q9 hG NY Y
 have gB:fC Tryz.prog PS=true:=by kernel_rfl
 have afr:fC Tryz.prog CV=true:=by kernel_rfl
 unfold nY O0
 simp only[gB,cond_true,List.nil_append,List.cons_append]
 refine cr.mono (PX.of (K:=λh2=>J (dm 1 [] false cs) h2\/∃pre dw,dm 1 [] false cs=pre++dw/\Jx pre h2) (Kp:=kN) ?_) (λ_ _ hh=>hh.2) (λ_ _ hh=>hh)
 refine az λa3 h1 e3 g1 k3 _=>az λa4 h2 e4 g2 k4 _ => ?_
 have k3:=k3.aj g2
 have sW:a3≠a4:=by have:=k3.lt;have:=g1.1;omega
 refine ⟨rfl,?_⟩
 refine cE k4 (by simp) rfl λh3 o3 k4 => ?_
 have k3:=o3.aK k3 sW
 have hg:ah h h3:=aM.aj (ah.trans g1 g2) o3 (by have:=g1.1;omega)
 have Ui:=hG _ _ _ hg hJ0
 refine an (x:=yj a3 a4 c1) k4 rfl ⟨_,(q9 _ _ Ui).2.2,?_⟩
 have W:GM h0 lb a3 a4 c1 (dm 1 [] false cs) J Jx:=⟨λp h1 j=>⟨(q9 p h1 j).1,(q9 p h1 j).2.1⟩,hG,NY,λp x dw h1 args hA e j=>Y p x dw h1 args hA e j,by omega,by have:=g1.1;omega⟩
 unfold bJ yj
 simp only[afr,cond_true]
 refine cr.mono (ahA W cs (h1:=h3) (path:=Sl.nil) (l:=l) (vs:=[]) (ins:=false) (d:=0) (lo:=h3.size) (p:=[]) (dw:=[]) (K:=λ_ h2=>J (dm 1 [] false cs) h2\/∃pre dw,dm 1 [] false cs=pre++dw/\Jx pre h2) hf (Sh.nil _ _ _ _ _) (by have:=hg.1;omega) (Nat.le_refl _) (by simp) rfl (by omega) ⟨k3,k4⟩ pM Nq (by simp) Ui
  (λh4 _ j=>.inl (by simpa using j)) (λh4 p' s' e j=>.inr ⟨p',s',e,j⟩)) (λ_ _ hh => ?_) (λ_ _ hh=>hh)
 obtain ⟨b,rfl,hh⟩:=hh
 exact ⟨b,rfl,hh⟩
theorem Tw.back {l:Nat} {h1 Bw FF:Hp} (g:ah h1 Bw) (t:Tw l Bw FF) (hl:∃r,h1[l]? = some (.loop r)):∃h',Tw l h1 h'/\FF[l]? = h'[l]? := by
 obtain ⟨r,hr⟩:=hl
 obtain ⟨_,_,r',st,pd,e1,e2⟩:=t
 rw[Bx g hr] at e1
 cases e1
 refine ⟨h1.setIfInBounds l (.loop { r with state:=st,pending:=pd }),sA hr,?_⟩
 rw[e2,Array.getElem?_setIfInBounds];simp[(Array.getElem?_eq_some_iff.1 hr).1]
abbrev uj (h:Hp) (b:Nat) (e:Int) (s:Sl) (n:Int):Prop:=aB h b #[.int .i64 e,Sl.v s, .int .i64 n] ie
theorem ab5 {fs:List ai} {H h:Hp} {j D a6 r:Nat} {u s7:Sl} {c1 c2:Addr} {K:Int->Sl->Int->HP} {Kp:PK} (ht:gK H) (hf:bM H u fs) (w':fs.length<=jY) (q':gj fs) (g:ah H h)
  (l2:H.size<=j) (l5:H.size<=D) (lr:H.size<=r) (k2:uj h j 0 s7 0) (k5:aB h D #[.int .i64 0] Y6) (k6:aB h a6 #[.map (some r)] GK) (hm:lq h r []) (n25:j≠D) (n26:j≠a6) (n56:D≠a6) (n2r:j≠r) (n5r:D≠r) (n6r:a6≠r) (y':cell h c1=some (.int .i64 65)) (x':cell h c2=some (Sl.v u))
  (d12:c1.block≠j) (d15:c1.block≠D) (d1r:c1.block≠r) (d22:c2.block≠j) (d25:c2.block≠D) (d2r:c2.block≠r)
  (hk:∀(e:Int) (s:Sl) n h',ah H h'->s.n<=s.c->(e=0↔eR 0 [] (dm 1 [] false fs))->K e s n h'):B7 K Kp ⟨j,0,none⟩ ⟨D,0,none⟩ ⟨a6,0,none⟩ (O0 c1 c2) h:=by
 have i2:=k2.lt;have i5:=k5.lt;have i6:=k6.lt;have ir:r < h.size:=by obtain ⟨_,_,e,_⟩:=hm;exact (Array.getElem?_eq_some_iff.1 e).1
 refine B7.bB (α:=Pl) (xs:=dm 1 [] false fs) (Pw H) (akv (c1:=c1) (c2:=c2) hf w' q')
  (λz y=>Tn (λc=>c=D\/c=r) h y/\aB y D #[.int .i64 (z.length:Int)] Y6/\lq y r (kz [] z)/\eR 0 [] z)
  (λz y=>Tn (λc=>c=j\/c=D\/c=r) h y/\∃(e:Int) (s:Sl),uj y j e s 0/\e≠0/\s.n<=s.c/\¬eR 0 [] z) ⟨Tn.refl _ _,k5,hm,trivial⟩ ?_ ?_ ?_ ?_ ?_ ?_ ?_ ?_
 ·rintro z y h2 g ⟨f,b,m,a⟩;exact ⟨f.trans' (Tn.aT (S:=No) g) λ_ t=>t.elim,b.aj g,m.aj g,a⟩
 ·rintro l z y h2 hl t ⟨f,b,m,a⟩;exact ⟨f.trans' t.only.fr λd A R=>by omega,t.only.aK b ag,m.fr t.only.fr ag,a⟩
 ·rintro z y ⟨f,_⟩;refine ⟨⟨Nat.le_trans g.1 f.1,λc Q=>(f.2 c (by have:=g.1;omega) ag).trans (g.2 c Q)⟩,f.cell y' ag,f.cell x' ag⟩
 ·rintro z y h2 g ⟨f,e,s,b,q⟩;exact ⟨f.trans' (Tn.aT (S:=No) g) λ_ t=>t.elim,e,s,b.aj g,q⟩
 ·rintro l z y h2 hl t ⟨f,e,s,b,q⟩;exact ⟨f.trans' t.only.fr λd A R=>by omega,e,s,t.only.aK b ag,q⟩
 ·rintro l z x p' y y0 y1 y2 y3 y4 y5 y6 y7 y8 y9 hE g' hl Z ⟨L,M,P,a1⟩ N X hN hX;obtain ⟨⟨hp,s'⟩,ha,rfl,rfl,rfl,rfl,rfl,rfl,r',rfl,u',z'⟩:=hE;have v':l < y.size:=by obtain ⟨q,hq⟩:=Z;exact (Array.getElem?_eq_some_iff.1 hq).1
  have G1:ah H y:=⟨Nat.le_trans g.1 L.1,λc Q=>(L.2 c (by have:=g.1;omega) ag).trans (g.2 c Q)⟩
  have Y:aB y a6 #[.map (some r)] GK:=L.aK k6 ag;have b2:uj y j 0 s7 0:=L.aK k2 ag;have hlen:=amt a1 ag;unfold W5;have p:=fX.start No y;refine p.new λb7 _ hb7 _ p => ?_;refine p.st 0 rfl rfl rfl λ_ _ p => ?_;simp only[Nat.zero_add,List.set_cons_zero,List.set_cons_succ,List.setIfInBounds_toArray] at p;refine p.ko 0 rfl rfl rfl λ_ _ p => ?_;simp only[Nat.zero_add,List.set_cons_zero,List.set_cons_succ,List.setIfInBounds_toArray] at p;refine p.ko 0 rfl rfl rfl λ_ _ p => ?_;simp only[Nat.zero_add,List.set_cons_zero,List.set_cons_succ,List.setIfInBounds_toArray] at p;refine p.ko 0 rfl rfl rfl λ_ _ p => ?_;simp only[Nat.zero_add,List.set_cons_zero,List.set_cons_succ,List.setIfInBounds_toArray] at p;refine p.ko 0 rfl rfl rfl λ_ _ p => ?_;simp only[Nat.zero_add,List.set_cons_zero,List.set_cons_succ,List.setIfInBounds_toArray] at p;refine p.ko 0 rfl rfl rfl λ_ _ p => ?_;simp only[Nat.zero_add,List.set_cons_zero,List.set_cons_succ,List.setIfInBounds_toArray] at p;refine p.ko 0 rfl rfl rfl λ_ _ p => ?_;simp only[Nat.zero_add,List.set_cons_zero,List.set_cons_succ,List.setIfInBounds_toArray] at p;refine p.ko 0 rfl rfl rfl λ_ _ p => ?_;simp only[Nat.zero_add,List.set_cons_zero,List.set_cons_succ,List.setIfInBounds_toArray] at p;refine p.ko 0 rfl rfl rfl λ_ _ p => ?_;simp only[Nat.zero_add,List.set_cons_zero,List.set_cons_succ,List.setIfInBounds_toArray] at p;refine p.ko 0 rfl rfl rfl λ_ _ p => ?_;simp only[Nat.zero_add,List.set_cons_zero,List.set_cons_succ,List.setIfInBounds_toArray] at p
  rename_i c' _
  have C:aB c' b7 #[Sl.v y0,Sl.v y1, .string x.f.name, .bool x.f.aq, .int .i64 x.f.k, .int .i64 x.f.w, .int .i64 x.f.id, .int .i64 x.f.ix,Sl.v y8, .bool x.ins] Pe:=p.aK (i:=0) rfl;have I:ah y c':=p.aj;clear p;refine ⟨(I.2 l v'),λj' f' => ?_⟩;have F:=f'.only;have C:=F.aK C ag;have M:=F.aK (M.aj I) ag;have Y:=F.aK (Y.aj I) ag;have b2:=F.aK (b2.aj I) ag;have P:=(P.aj I).fr F.fr ag;obtain ⟨h',t',e'⟩:=Tw.back I f' Z;have W:Tn (λc=>c=l) y j':=(Tn.aT I:Tn (λc=>c=l) y c').trans' F.fr λd A _=>A;have G12:ah H j':=⟨Nat.le_trans G1.1 W.1,λc Q=>(W.2 c (by have:=G1.1;omega) (by have:=g.1;omega)).trans (G1.2 c Q)⟩
  clear F
  try simp only[aI,Nat.reduceAdd]
  refine an C rfl (an C rfl (an C rfl (an C rfl (an C rfl (an C rfl (an C rfl (an C rfl (an C rfl (an C rfl (an M rfl (an (x:=some r) Y rfl (YB G12 ht hp ha r' z' u' P λe i' G he => ?_))))))))))));have m':Tn (λc=>c=l) y i':=W.trans' (Tn.aT (S:=No) G) λ_ t=>t.elim;have C:=C.aj G;have M:=M.aj G;have Y:=Y.aj G;have b2:=b2.aj G;have P:=P.aj G;have el:i'[l]? = h'[l]? := (G.2 l (by have:=W.1;omega)).trans e'
  have a':eR 0 [] (z++[x])↔e=0:=by
   rw[Al];simp only[eR,and_true,Nat.zero_add];exact ⟨λq=>he.2 q.2,λq=>⟨a1,he.1 q⟩⟩
  refine aA (λc => ?_) λc => ?_
  ·have c:=ay c;refine an C rfl (cE b2 aS rfl λO B b2=>cE b2 aS rfl λV E b2=>cE b2 aS rfl λU b' b2 => ?_);have o:=(B.trans E).trans b';have k':Tn (λc=>c=l\/c=j) y U:=(m'.mono λd A _=>.inl A).trans' o.fr λd A _=>.inr A;exact hX h' U t' ((o.2 l ag).trans el) (k'.mono λd A _=>by omega)
    ⟨(L.mono (T:=λc=>c=j\/c=D\/c=r) λd A _=>.inr A).trans' k' λd A R=>by omega,e,y0,by simpa using b2,c,s',λq=>c (a'.1 q)⟩
  ·have c:=ay c;refine an M rfl (aP ag ag (cE M aS rfl λO B M => ?_));have C:=B.aK C ag;have Y:=B.aK Y ag;have P:=P.fr B.fr ag;have d':Tn (λc=>c=l\/c=D) y O:=(m'.mono λd A _=>.inl A).trans' B.fr λd A _=>.inr A;have M:aB O D #[.int .i64 ((z++[x]).length:Int)] Y6:=by simpa using M
   have n':=a'.2 c;refine an C rfl (aA (λJ => ?_) λJ => ?_)
   ·have J:=ay J;refine an (x:=some r) Y rfl (an C rfl (an M rfl (akN P λV E m2 => ?_)));have l':Tn (λc=>c=l\/c=D\/c=r) y V:=(d'.mono λd A _=>by omega).trans' E.fr λd A _=>.inr (.inr A)
    refine hN h' V t' ((E.2 l ag).trans ((B.2 l ag).trans el)) (l'.mono λd A _=>by omega) ⟨L.trans' l' λd A R=>by omega,E.aK M ag,?_,n'⟩
    rw[TF]
    simpa[kz,sN,J] using m2
   ·have J:=ay J;refine hN h' O t' ((B.2 l ag).trans el) (d'.mono λd A _=>by omega) ⟨L.trans' d' λd A R=>by omega,M,?_,n'⟩
    rw[TF]
    simpa[kz,sN,J] using P
 ·rintro y ⟨L,M,P,a1⟩;have b2:uj y j 0 s7 0:=L.aK k2 ag;have G1:ah H y:=⟨Nat.le_trans g.1 L.1,λc Q=>(L.2 c (by have:=g.1;omega) ag).trans (g.2 c Q)⟩
  unfold W7
  try simp only[aI,Nat.reduceAdd]
  refine cE b2 aS rfl λO B b2=>cE b2 aS rfl λV E b2=>cE b2 aS rfl λU b' b2 => ?_;have b2:uj U j 0 Sl.nil 0:=by simp at b2;exact b2
  exact an b2 rfl (an b2 rfl (an b2 rfl (hk _ _ _ _ (aM.aj G1 ((B.trans E).trans b') l2) (Nat.le_refl _) ⟨λ_=>a1,λ_=>rfl⟩)))
 ·rintro z p' y g' ⟨L,e,s,b2,he,o',na⟩;have G1:ah H y:=⟨Nat.le_trans g.1 L.1,λc Q=>(L.2 c (by have:=g.1;omega) ag).trans (g.2 c Q)⟩
  unfold W2
  try simp only[aI,Nat.reduceAdd]
  refine an b2 rfl (an b2 rfl (an b2 rfl (hk _ _ _ _ G1 o' ⟨λq=>absurd q he,λq => ?_⟩)));rw[g',Al] at q;exact absurd q.1 na
theorem akX {h:Hp} {K:Nat->HP} (b:∀r a,r=h.size->ah h a->lq a r []->K r a):yG h K :=
 b _ _ rfl (ah.push _ _) ⟨#[],0,by simp,by simp,by simp⟩
theorem ajj {fs:List ai} {ms:List Md} {H h:Hp} {t u:Sl} {K:Int->Sl->Int->HP} {Kp:PK} (ht:gK H) (f':gj fs) (g:ah H h) (hf:bM H t fs) (h2:Pt H u 2 (ms.map adP))
  (hk:∀(e:Int) (s:Sl) n F,ah H F->s.n<=s.c->(e=0↔Pq fs ms)->K e s n F):DS t u h K Kp:=by
 refine DS.of ?_;have r':=hf.n;have q':u.n=ms.length:=by simpa using h2.1
 refine az λb1 h3 e1 g1 l _=>az λb2 U e2 g2 p _ => ?_;have l:=l.aj g2;have g4:=ah.trans g (ah.trans g1 g2);have l2:H.size<=b2:=by have:=g.1;have:=g1.1;omega
 have n':b1 < b2:=by have:=l.lt;have:=g1.1;omega
 try simp only[aI,Nat.reduceAdd]
 have p:uj U b2 0 Sl.nil 0:=p;have b:∀(e n:Int) (d:Hp) (X:Sl) (e7 n7:Int),e≠0->¬Pq fs ms->uj d b2 e7 X n7->ah H d->St d ⟨b2,0,none⟩ (.int .i64 e) λh3=>St h3 ⟨b2,1,none⟩ (.slice none 0 0) λU=>St U ⟨b2,2,none⟩ (.int .i64 n) λd=>Ld d ⟨b2,0,none⟩ mI λS=>Ld d ⟨b2,1,none⟩ (Sl.v) λR=>Ld d ⟨b2,2,none⟩ mI λQ=>K S R Q d:=by
  intro e n d X e7 n7 Y i' k G;refine cE k aS rfl λw' c' k=>cE k aS rfl λu' b' k=>cE k aS rfl λm' a' k => ?_;have k:uj m' b2 e Sl.nil n:=by simp at k;exact k
  exact an k rfl (an k rfl (an k rfl (hk _ _ _ _ (aM.aj G ((c'.trans b').trans a') l2) (Nat.le_refl _) ⟨λq=>absurd q Y,λq=>absurd q i'⟩)))
 refine an l rfl (aA (λc => ?_) λc => ?_)
 ·have c:=ay c;exact b _ _ _ _ _ _ aL (λq=>by have:=q.1;omega) p g4
 refine an l rfl (aA (λc2 => ?_) λc2 => ?_)
 ·have c2:=ay c2;exact b _ _ _ _ _ _ aL (λq=>by have:=q.2.1;omega) p g4
 simp only[sm,reduceCtorEq] at c c2;refine I5.of ?_
 try simp only[aI,Nat.reduceAdd]
 refine an l rfl (H9.bB (λx F=>ah U F/\∃i:Nat,x=i/\i<=ms.length/\∀(j:Nat) v,j < i->ms[j]? = some v->PD v) (λx _=>ms.length - x.toNat) ⟨ah.refl _,0,rfl,by omega,λj v hj=>by omega⟩ ?_)
 rintro x d ⟨G,i,rfl,hi,A⟩ N1 hN;have l:=l.aj G;have p:=p.aj G;have B:=ah.trans g4 G
 try simp only[aI,Nat.reduceAdd]
 refine aA (λM => ?_) λM => ?_
 ·have M:=ay M;have l':i < ms.length:=ag;have L:ms[i]? = some ms[i]:=List.getElem?_eq_getElem l';generalize ms[i]=v at L;refine h2.ix rfl L λa ha=>⟨_,B.cell (Cs.c0 (v:=.string v.1) ha),_,B.cell (ha 1 _ rfl),?_⟩;have f:=fX.start No d;refine f.new λb6 _ t' _ f=>f.st 0 rfl rfl rfl λ_ _ f => ?_;simp only[Nat.zero_add,List.set_cons_zero,List.set_cons_succ,List.setIfInBounds_toArray] at f;refine f.ko 0 rfl rfl rfl λ_ _ f => ?_;simp only[Nat.zero_add,List.set_cons_zero,List.set_cons_succ,List.setIfInBounds_toArray] at f
  rename_i Z _
  have w:aB Z b6 #[.string v.1, .string v.2] WB:=f.aK (i:=0) rfl;have z:=f.aj;clear f
  try simp only[aI,Nat.reduceAdd]
  refine an w rfl (aA (λW => ?_) λW => ?_)
  ·have W:=ay W;exact b _ _ _ _ _ _ aL (λq=>by have:=(q.2.2.1 i v L).1;omega) (p.aj z) (ah.trans B z)
  refine an w rfl (aA (λV => ?_) λV => ?_)
  ·have V:=ay V;exact b _ _ _ _ _ _ aL (λq=>by have:=(q.2.2.1 i v L).2;omega) (p.aj z) (ah.trans B z)
  simp only[sm,reduceCtorEq] at W V;refine aP ag ag (hN _ _ ⟨ah.trans G z,i+1,by simp,by omega,λj' v' s' I => ?_⟩ ag)
  by_cases e:j'=i
  ·subst e;rw[L] at I;cases I;exact ⟨by omega,by omega⟩
  ·exact A j' v' ag I
 ·have M:=ay M;have k':∀(j:Nat) m,ms[j]? = some m->PD m:=λj v I=>A j v (by have:=(List.getElem?_eq_some_iff.1 I).1;omega) I
  refine I4.of (az λa5 Z e5 z E _=>cE E aS rfl λJ o7 E => ?_);have E:aB J a5 #[.int .i64 0] Y6:=by simpa using E
  have X:J.size=Z.size:=o7.1;have g7:ah d J:=aM.aj z o7 ag;refine akX λr h8 er g8 hm => ?_;subst er;have p':J.size < h8.size:=by obtain ⟨_,_,e,_⟩:=hm;exact (Array.getElem?_eq_some_iff.1 e).1
  refine az λa6 h9 e6 g9 w _=>cE w aS rfl λN d' w => ?_;have w:aB N a6 #[.map (some J.size)] GK:=by simpa using w
  have y:ah h8 N:=aM.aj g9 d' ag;have D:=ah.trans g7 (ah.trans g8 y);have l:=l.aj D;have i2:=p.lt;have i5:=E.lt;have o':=z.1;refine an l rfl (JR.of (az λc2 y' z' P C _=>az λc1 x' ec1 O e' _ => ?_));have o:=ah.trans P O;have C:=C.aj O;have:=y.1;have:=P.1;have i6:=w.lt;refine ab5 (c1:=⟨c1,0,none⟩) (c2:=⟨c2,0,none⟩) ht hf (by show _<=9223372036854775807;omega) f' (ah.trans B (ah.trans D o)) l2 (by have:=B.1;omega) (by have:=B.1;omega) (p.aj (ah.trans D o)) (E.aj (ah.trans g8 (ah.trans y o))) (w.aj o) (hm.aj (ah.trans y o))
   ag ag ag ag ag ag (by rw[eW e'];rfl) (by rw[eW C];rfl) (by simp only;omega) (by simp only;omega) (by simp only;omega) (by simp only;omega) (by simp only;omega) (by simp only;omega) λe s n F g' T Y=>hk e s n F g' T (Y.trans ?_)
  rw[Ea];exact ⟨λq=>⟨by omega,by omega,k',q⟩,λq=>q.2.2.2⟩
theorem bK {h H:Hp} {b m n:Nat} {cs:Array Value} {el:TypeId} {X:Prop} (k:aB h b cs el) (g:ah h H) (x:X):aO h H ⟨b,m,none⟩ n X :=
 ⟨λi _=>by rw[aI,eW (k.aj g),eW k],x⟩
theorem vY {h h1:Hp} {a:Addr} {v:Value} {X:Prop} (hc:cell h a=some v) (g:ah h h1) (x:X):aO h h1 a 1 X :=
  ⟨fun i hi => by obtain rfl:i=0:=by omega
                  rw [add_zero',hc,g.cell hc],x⟩
theorem bM.gr {h H:Hp} {s:Sl} {l:List ai} (c:bM h s l) (g:ah h H):bM H s l:=bM.aj g l c
def bp (f:ai):Prop:=Pq [f] []
theorem Gg {l:ByteArray} {aq:Bool} {k w id ix:Int} {cs:List ai} {h:Hp} {s:Sl} {K:Int->Sl->Int->HP} {Q:PK} (J:gK h) (x:(ai.mk l aq k w id ix cs).fy) (L:bM h s cs)
  (m:∀e p n o,ah h o->(e=0↔bp (.mk l aq k w id ix cs))->K e p n o):tY l aq k w id ix s h K Q:=by
 refine tY.of (az λb1 Y e1 E H _=>az λb2 X e2 D a _=>aN.b (H.aj D) (az λb5 W Z C G _ => ?_));have u:=ah.trans E (ah.trans D C);have hl:h.size<=b2:=by have:=E.1;omega
 refine ajj (fs:=[.mk l aq k w id ix cs]) (ms:=[]) (J.aj u) ⟨x,trivial⟩ (ah.refl _) ?_ ⟨rfl,Nat.le_refl _,λj r M=>by simp at M⟩ λe p n V B R N => ?_
 ·unfold bM;exact ⟨rfl,Nat.le_refl _,_,rfl,⟨s,λi v I=>by rw[aI,Nat.zero_add,eW G];simpa[kj] using I,L.gr u⟩,trivial⟩
 have a:=(a.aj C).aj B;have t:=ah.trans u B;have m:=λp n o g=>m e p n o g N;refine az λP U e3 A d _=>bX.b d rfl λT z d => ?_;have f:b2≠P:=by have:=a.lt;omega
 have a:=z.aK (a.aj A) f;have F:=aM.aj (ah.trans t A) z (by have:=t.1;omega)
 simp only[aI];refine an d rfl (aA (λc => ?_) λc => ?_)
 ·have c:=ay c;refine an d rfl ⟨by simp,by simp;omega,by simp;omega,by simp,(cE d aS rfl λS y d => ?_)⟩
  have a:=y.aK a f;exact cv.b d (bX.b a rfl λO q a=>cv.b a (m _ _ _ (aM.aj (aM.aj F y (by have:=t.1;omega)) q hl)))
 ·exact cv.b d (bX.b a rfl λO q a=>cv.b a (m _ _ _ (aM.aj F q hl)))
def gJ (k:Int) (cs:List ai):Bool:=k == 1 || (k == 20 && match cs with | f::_=>f.aq | []=>false)
def NZ (k w id ix:Int) (cs:List ai):ai:=.mk (bs [97]) (gJ k cs) k w id ix cs
theorem afq {k w id ix:Int} {cs:List ai} {h:Hp} {s:Sl} {K:ByteArray->Bool->Int->Int->Int->Int->Sl->HP} {Y:PK} (M:bM h s cs)
    (S:∀O,ah h O->K (bs [97]) (gJ k cs) k w id ix s O):Du k w id ix s h K Y:=by
  refine Du.of (az λX h1 e1 P d _=>az λb2 h2 e2 H q _=>dH.b (d.aj H) (az λJ h3 e3 G t _=>dW.b t rfl λU D t => ?_));have a':X < b2:=by have:=d.lt;omega
  have Z:b2 < J:=by have:=q.lt;omega
  have hl:h.size<=b2:=by have:=P.1;omega
  have d:=D.aK ((d.aj H).aj G) ag;have q:=D.aK (q.aj G) ag;have Q:=aM.aj (ah.trans P (ah.trans H G)) D ag;have N:=M.n;have fin:∀b:Bool,b=gJ k cs->St U ⟨J,1,none⟩ (.bool b) λF=>aN F ⟨J,0,none⟩ λp o m l j g e=>dW F ⟨b2,0,none⟩ p o m l j g e λE=>aN E ⟨b2,0,none⟩ λC B A z y x v=>K C B A z y x v E:=by
    rintro b rfl;exact cE t aS rfl λF L t=>aN.b t (dW.b (L.aK q ag) rfl λE R q=>aN.b q (S _ (aM.aj (aM.aj Q L ag) R hl)))
  simp only[aI];refine an d rfl (aA (λc=>fin _ ?_) λc=>an d rfl (aA (λr=>an d rfl (aA (λI=>an d rfl ?_) λI=>fin _ ?_)) λr=>fin _ ?_))
  · simp[gJ,c]
  · simp only[sm,reduceCtorEq] at c r I;cases cs with
    | nil=>have:=N.1;simp at this;omega
    | cons f V =>
      refine M.ix rfl (i:=0) rfl λa T => ?_;obtain ⟨u,_,_,W,_⟩:=T.cells;exact ⟨_,Q.cell W,fin _ (by simp[gJ,r])⟩
  · simp only[sm,reduceCtorEq] at c r I;cases cs with
    | nil=>simp[gJ,r]
    | cons f V=>have:=N.1;simp at this;omega
  · simp[gJ,c,r]
def nM (k w id ix:Int) (cs:List ai):Prop:=bp (NZ k w id ix cs)
theorem LU {k w id ix:Int} {cs:List ai} {h:Hp} {s:Sl} {K:Bool->HP} {q:PK} (i:gK h) (hl:cs.length<=jY) (a:gj cs) (c:bM h s cs)
  (j:∀b d,ah h d->(b=true↔nM k w id ix cs)->K b d):wR k w id ix s h K q:=by
 refine wR.of (az λv u e1 f g _=>dH.b g (afq (c.gr f) λt o => ?_));have G:=ah.trans f o;refine Gg (i.aj G) ⟨by decide,hl,a⟩ (c.gr G) λe p n r m l=>j _ _ (ah.trans G m) ?_
 rw[beq_iff_eq];exact l
def ai.row (f:ai) (u:Sl):List Value:=kj f.name f.aq f.k f.w f.id f.ix u
theorem abO (f:ai) (u:Sl):(f.row u).length=7:=rfl
theorem row_one (f:ai) (u:Sl):∀v∈f.row u,one v=true:=by intro v a;simp[ai.row,kj] at a;rcases a with rfl | rfl | rfl | rfl | rfl | rfl | rfl <;> rfl
mutual
def bz (D:Nat->Prop) (h:Hp) (s:Sl):List ai->Prop
 | []=>s.n=0/\s.n<=s.c
 | f::fs=>s.n=fs.length+1/\s.n<=s.c/\∃a,s.a=some a/\D a.block/\ga D h a f/\ff D h a 1 fs
def ff (D:Nat->Prop) (h:Hp) (a:Addr) (i:Nat):List ai->Prop
 | []=>True
 | f::fs=>ga D h (a.add (i*7)) f/\ff D h a (i+1) fs
def ga (D:Nat->Prop) (h:Hp) (a:Addr):ai->Prop
 | .mk n aq k w id ix cs=>∃s,Cs h a (kj n aq k w id ix s)/\bz D h s cs
end
mutual
theorem bz.h {D:Nat->Prop} {h:Hp}:∀{s:Sl} (fs:List ai),bz D h s fs->bM h s fs
  | _,[],hh=>by unfold bz at hh;unfold bM;exact hh
  | _,f::fs,hh=>by
    unfold bz at hh;unfold bM
    obtain ⟨a,b,p,e,_,x,y⟩:=hh
    exact ⟨a,b,p,e,ga.h f x,ff.h fs y⟩
theorem ff.h {D:Nat->Prop} {h:Hp}:∀{a:Addr} {i:Nat} (fs:List ai),ff D h a i fs->fJ h a i fs
 | _,_,[],_=>by unfold fJ;trivial
 | _,_,f::fs,hh=>by unfold ff at hh;unfold fJ;exact ⟨ga.h f hh.1,ff.h fs hh.2⟩
theorem ga.h {D:Nat->Prop} {h:Hp}:∀{a:Addr} (f:ai),ga D h a f->iw h a f
  | _, .mk n aq k w id ix cs,hh=>by
    unfold ga at hh;unfold iw
    obtain ⟨s,c,x⟩:=hh
    exact ⟨s,c,bz.h cs x⟩
end
mutual
theorem bz.fr {D S E:Nat->Prop} {h h':Hp} (f:Tn S h h') (hn:∀b,D b->¬S b) (hE:∀b,D b->E b):∀{s:Sl} (fs:List ai),bz D h s fs->bz E h' s fs
  | _,[],hh=>by unfold bz at hh ⊢;exact hh
  | _,g::fs,hh=>by
    unfold bz at hh ⊢
    obtain ⟨a,b,p,e,d,x,y⟩:=hh
    exact ⟨a,b,p,e,hE _ d,ga.fr f hn hE (hn _ d) g x,ff.fr f hn hE (hn _ d) fs y⟩
theorem ff.fr {D S E:Nat->Prop} {h h':Hp} (f:Tn S h h') (hn:∀b,D b->¬S b) (hE:∀b,D b->E b):∀{a:Addr} (ha:¬S a.block) {i:Nat} (fs:List ai),ff D h a i fs->ff E h' a i fs
  | _,_,_,[],_=>by unfold ff;trivial
  | _,ha,i,g::fs,hh=>by
    unfold ff at hh ⊢
    exact ⟨ga.fr f hn hE (by rw[yA];exact ha) g hh.1,ff.fr f hn hE ha fs hh.2⟩
theorem ga.fr {D S E:Nat->Prop} {h h':Hp} (f:Tn S h h') (hn:∀b,D b->¬S b) (hE:∀b,D b->E b):∀{a:Addr} (ha:¬S a.block) (g:ai),ga D h a g->ga E h' a g
  | _,ha, .mk n aq k w id ix cs,hh=>by
    unfold ga at hh ⊢
    obtain ⟨s,c,x⟩:=hh
    exact ⟨s,c.fr f ha,bz.fr f hn hE cs x⟩
end
theorem bz.gr {D:Nat->Prop} {h H:Hp} {s:Sl} {l:List ai} (c:bz D h s l) (g:ah h H):bz D H s l:=bz.fr (S:=No) (Tn.aT g) (λ_ _=>id) (λ_=>id) l c
theorem ff.of {D:Nat->Prop} {h:Hp} {a:Addr}:∀{fs:List ai} {i:Nat},(∀j f,fs[j]? = some f->ga D h (a.add ((i+j)*7)) f)->ff D h a i fs
  | [],_,_=>by unfold ff;trivial
  | f::fs,i,H=>by
    unfold ff;refine ⟨H 0 f rfl,ff.of λj g b => ?_⟩;have:=H (j+1) g (by simpa using b)
    have e:i+1+j=i+(j+1):=ag;rw[e];exact this
theorem bz.of {D:Nat->Prop} {h:Hp} {s:Sl} {b:Nat} {cs:List ai} {q:List Sl} {el:TypeId} (o:iH 7 h s b (List.zipWith ai.row cs q) el) (hl:q.length=cs.length) (y:D b) (t:∀(j:Nat) (f:ai) (u:Sl),cs[j]? = some f->q[j]? = some u->bz D h u f.cs):bz D h s cs:=by
  have i:=o.n;rw[List.length_zipWith,hl,Nat.min_self] at i;have key:∀j f,cs[j]? = some f->ga D h ⟨b,j*7,none⟩ f:=by
    intro j f l;have v:=(List.getElem?_eq_some_iff.1 l).1;have d:q[j]? = some q[j]:=List.getElem?_eq_getElem ag;have p:(List.zipWith ai.row cs q)[j]? = some (f.row q[j]):=by rw[List.getElem?_zipWith,l,d]
    have c:=o.cs p;have m:=t j f _ l d;generalize q[j]=u at c m;obtain ⟨n,aq,k,w,id,ix,ds⟩:=f;unfold ga;exact ⟨u,c,m⟩
  cases cs with
  | nil=>unfold bz;exact ⟨by simpa using i,o.cap⟩
  | cons f x =>
    unfold bz;refine ⟨by simpa using i,o.cap,_,o.a,y,by simpa using key 0 f rfl,ff.of λj g r => ?_⟩
    rw[aI,Nat.zero_add];have:=key (j+1) g (by simpa using r)
    have e:1+j=j+1:=ag;rw[e];exact this
theorem bz.sub {D:Nat->Prop} {h:Hp} {s t:Sl} {l:List ai} (b:bz D h s l) (i:t.a=s.a) (e:t.n=s.n) (g:t.n<=t.c):bz D h t l:=by
 cases l with
 | nil=>unfold bz at b ⊢;exact ⟨e ▸ b.1,g⟩
 | cons f l=>unfold bz at b ⊢;rw[i,e];exact ⟨b.1,e ▸ g,b.2.2⟩
theorem bz.n {D:Nat->Prop} {h:Hp} {s:Sl} {fs:List ai} (g:bz D h s fs):s.n=fs.length/\s.n<=s.c:=(bz.h fs g).n
theorem aaR (p:Option Addr) (m a:Nat):jH p 0 m a=p:=by
 unfold jH;split
 ·rfl
 ·cases p <;> simp[add_zero']
theorem ajg {h:Hp} {s:Sl} {K:Sl->HP} {d:PK} (e:s.n<=s.c) (b:K ⟨s.a,s.n,s.n⟩ h):Dm s h K d:=by
 refine Dm.of ⟨by simp,by simp,by simp,by simp;omega,?_⟩
 simpa[aaR] using b
mutual
def ai.fS:ai->Prop
 | .mk _ _ _ _ _ _ cs=>cs.length<=70000/\fS cs
def fS:List ai->Prop
 | []=>True
 | f::fs=>f.fS/\fS fs
end
theorem fS.get:∀{b:List ai},fS b->∀f∈b,f.fS
  | [],_,_,h=>by simp at h
  | g::c,a,f,h=>by
    unfold fS at a;rcases List.mem_cons.1 h with rfl | h
    · exact a.1
    · exact fS.get a.2 f h
theorem ai.fS.cs {f:ai} (h:f.fS):f.cs.length<=70000/\YtikpikmkhdapiaaGreatDoor.fS f.cs:=by cases f;unfold ai.fS at h;exact h
theorem acs {cs:List ai} {d:Nat} {B:Bool} (b:∀f∈cs,∀(n:Nat) (a:List Int),eR n a (f.places d [] B)->f.fS):∀{n:Nat} {a:List Int},eR n a (hO d B cs)->fS cs:=by
  induction cs with
  | nil=>intro n a _;unfold fS;trivial
  | cons f j c =>
    intro n a h;simp only[hO,Al] at h;have i:=c (λg e=>b g (by simp[e])) h.2
    unfold fS;exact ⟨(b f aS n a h.1),i⟩
theorem R2:∀(f:ai) (d:Nat) (b:Bool) (n:Nat) (a:List Int),eR n a (f.places d [] b)->f.fS
  | .mk g aq k w id ix cs,d,b,n,a,h=>by
    have e:∀f∈cs,∀(n:Nat) (a:List Int),eR n a (f.places (d+1) [] (b || k == 19))->f.fS:=λf _ n a=>R2 f (d+1) (b || k == 19) n a;have c:d<=64:=by unfold ai.places at h;exact h.1.1
    rw[xA c] at h;have jr:=h.1.2.2.2.2.1;simp only[ai.k,ai.w,ai.id,ai.ix,ai.cs] at jr;unfold Shaped at jr;unfold ai.fS;exact ⟨by omega,(acs e ((Ea.1 h.2).2))⟩
theorem bp.fS {f:ai} (h:bp f):f.fS:=by
 have:=h.2.2.2.2;simp only[hO,List.append_nil] at this;exact R2 f 1 false 0 [] this
theorem bp.self {f:ai} (h:bp f):Shaped f.k f.w f.id f.ix f.cs.length/\yF f.k f.aq f.cs/\(f.k=19->∃c,f.cs[0]? = some c/\c.aq=false):=by
 have:=h.2.2.2.2;obtain ⟨n,aq,k,w,id,ix,cs⟩:=f;simp only[hO,List.append_nil] at this;unfold ai.places at this;have q:=this.1;exact ⟨q.2.2.2.2.1,q.2.2.2.2.2.1,λe=>(q.2.2.2.2.2.2.2 e).1⟩
end Go.Proofs.YtikpikmkhdapiaaGreatDoor
