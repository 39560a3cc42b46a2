import Derived.Test.YtlbbdbdjiekkaaaGreatDoorNamesShRange
import Derived.Test.YtlbbdbdjiekkaaaGreatDoorChecked
set_option linter.unusedSimpArgs false
set_option linter.unusedVariables false
set_option maxRecDepth 100000
set_option maxHeartbeats 200000
/- What the functions do, printed by program (gen.py) in the words of ShCore; each text is held against the loaded program by the kernel. -/
namespace Go.Proofs.YtlbbdbdjiekkaaaGreatDoor
open Go Go.Sh
theorem sm : (∀ (p : Prop) [Decidable p], (decide p = true) = p) ∧ (∀ (p : Prop) [Decidable p], decide p = false ↔ ¬p) ∧ (∀ {α : Type} [BEq α] [LawfulBEq α] {a b : α}, (a == b) = true ↔ a = b) ∧
    (∀ {α : Type} [BEq α] [LawfulBEq α] {a b : α}, (a == b) = false ↔ a ≠ b) ∧ (∀ {α : Type} (a b : α), (a ≠ b) = ¬(a = b)) ∧ (∀ (p : Prop), (True ↔ p) = p) ∧ (∀ (p : Prop), (False ↔ p) = ¬p) ∧
    (∀ (b : Bool), ((!b) = true) = (b = false)) ∧ (∀ (b : Bool), ((!b) = false) = (b = true)) ∧ (∀ {α : Type} [BEq α] [LawfulBEq α] {a b : α}, (a != b) = true ↔ a ≠ b) ∧
    (∀ {α : Type} [BEq α] [LawfulBEq α] {a b : α}, (a != b) = false ↔ a = b) ∧ ((!true) = false) ∧ ((!false) = true) ∧ (∀ {p : Prop} [Decidable p], ¬¬p ↔ p) :=
  ⟨fun p => decide_eq_true_eq, fun p => decide_eq_false_iff_not, beq_iff_eq, beq_eq_false_iff_ne, fun a b => ne_eq a b, fun p => true_iff p, fun p => false_iff p, fun b => by simp, fun b => by simp, bne_iff_ne, bne_eq_false_iff_eq, rfl, rfl, Decidable.not_not⟩
abbrev Y4:TypeId:=1
abbrev Y6:TypeId:=3
abbrev Y8:TypeId:=5
abbrev Y12:TypeId:=9
abbrev Y25:TypeId:=23
abbrev Y27:TypeId:=25
abbrev Y29:TypeId:=27
abbrev Y33:TypeId:=32
abbrev Y34:TypeId:=33
abbrev Y35:TypeId:=38
abbrev Y37:TypeId:=40
abbrev Y42:TypeId:=37
abbrev Y52:TypeId:=28
abbrev Y66:TypeId:=56
abbrev Y96:TypeId:=110
abbrev Y109:TypeId:=154
abbrev Y138:TypeId:=353
abbrev Y162:TypeId:=288
abbrev Y167:TypeId:=325
abbrev Y182:TypeId:=91
abbrev Y192:TypeId:=237
abbrev Y193:TypeId:=238
abbrev Y194:TypeId:=239
abbrev Y195:TypeId:=240
abbrev Y196:TypeId:=241
abbrev Y197:TypeId:=242
abbrev Y198:TypeId:=243
abbrev Y201:TypeId:=50
abbrev Y210:TypeId:=218
abbrev Y219:TypeId:=219
abbrev Y224:TypeId:=224
abbrev Y233:TypeId:=279
abbrev Y234:TypeId:=280
abbrev Y248:TypeId:=319
abbrev Y333:TypeId:=135
abbrev Y336:TypeId:=138
abbrev Y352:TypeId:=184
abbrev Y355:TypeId:=187
abbrev Y357:TypeId:=189
abbrev Y358:TypeId:=190
abbrev Y360:TypeId:=192
abbrev Y361:TypeId:=193
abbrev Y363:TypeId:=195
abbrev Y364:TypeId:=196
abbrev Y366:TypeId:=198
abbrev Y367:TypeId:=199
abbrev Y369:TypeId:=201
abbrev Y370:TypeId:=202
abbrev Y372:TypeId:=204
abbrev Y373:TypeId:=205
abbrev Y376:TypeId:=208
abbrev Y377:TypeId:=209
abbrev Y379:TypeId:=211
abbrev Y380:TypeId:=212
abbrev Y383:TypeId:=215
abbrev Y396:TypeId:=278
abbrev Y421:TypeId:=370
abbrev I12:FuncId:=17
abbrev I18:FuncId:=20
abbrev I49:FuncId:=52
abbrev I50:FuncId:=53
abbrev I51:FuncId:=54
abbrev I52:FuncId:=55
abbrev I55:FuncId:=58
abbrev I57:FuncId:=211
abbrev I64:FuncId:=88
abbrev I65:FuncId:=129
abbrev I66:FuncId:=354
abbrev I67:FuncId:=360
abbrev I68:FuncId:=216
abbrev I98:FuncId:=80
abbrev I99:FuncId:=81
abbrev I100:FuncId:=82
abbrev I101:FuncId:=83
abbrev I102:FuncId:=86
abbrev I103:FuncId:=87
abbrev I105:FuncId:=172
abbrev I109:FuncId:=130
abbrev I110:FuncId:=126
abbrev I111:FuncId:=125
abbrev I112:FuncId:=235
abbrev I113:FuncId:=348
abbrev I114:FuncId:=213
abbrev I115:FuncId:=236
abbrev I116:FuncId:=353
abbrev I129:FuncId:=77
abbrev I130:FuncId:=123
abbrev I131:FuncId:=124
abbrev I132:FuncId:=127
abbrev I133:FuncId:=128
abbrev I134:FuncId:=214
abbrev I135:FuncId:=175
abbrev I136:FuncId:=244
abbrev I137:FuncId:=245
abbrev I138:FuncId:=349
abbrev I139:FuncId:=246
abbrev I140:FuncId:=247
abbrev I141:FuncId:=346
abbrev I152:FuncId:=119
abbrev I153:FuncId:=120
abbrev I154:FuncId:=167
abbrev I155:FuncId:=168
abbrev I156:FuncId:=169
abbrev I157:FuncId:=170
abbrev I158:FuncId:=171
abbrev I159:FuncId:=173
abbrev I160:FuncId:=174
abbrev I161:FuncId:=234
abbrev I162:FuncId:=217
abbrev I163:FuncId:=350
abbrev I164:FuncId:=351
abbrev I170:FuncId:=156
abbrev I171:FuncId:=157
abbrev I172:FuncId:=159
abbrev I173:FuncId:=161
abbrev I174:FuncId:=162
abbrev I175:FuncId:=163
abbrev I176:FuncId:=207
abbrev I177:FuncId:=208
abbrev I178:FuncId:=209
abbrev I179:FuncId:=210
abbrev I180:FuncId:=215
abbrev I182:FuncId:=203
abbrev I183:FuncId:=205
abbrev I184:FuncId:=231
abbrev I185:FuncId:=232
abbrev I188:FuncId:=345
abbrev I189:FuncId:=347
abbrev I190:FuncId:=352
abbrev I191:FuncId:=355
abbrev I192:FuncId:=356
abbrev I193:FuncId:=357
abbrev I194:FuncId:=358
abbrev I195:FuncId:=359
abbrev I196:FuncId:=361
abbrev I200:FuncId:=84
abbrev I201:FuncId:=85
abbrev I203:FuncId:=158
abbrev I204:FuncId:=160
abbrev I205:FuncId:=212
abbrev I206:FuncId:=204
abbrev I207:FuncId:=233
abbrev I208:FuncId:=243
abbrev I224:FuncId:=200
abbrev I225:FuncId:=229
abbrev I233:FuncId:=3
abbrev I244:FuncId:=14
abbrev I245:FuncId:=15
abbrev I247:FuncId:=18
abbrev I249:FuncId:=21
abbrev I259:FuncId:=34
abbrev I261:FuncId:=37
abbrev I263:FuncId:=39
abbrev I275:FuncId:=56
abbrev I276:FuncId:=59
abbrev I286:FuncId:=72
abbrev I287:FuncId:=73
abbrev I288:FuncId:=75
abbrev I289:FuncId:=76
abbrev I304:FuncId:=115
abbrev I305:FuncId:=116
abbrev I306:FuncId:=117
abbrev I307:FuncId:=118
abbrev I318:FuncId:=154
abbrev I319:FuncId:=155
abbrev I329:FuncId:=196
abbrev I330:FuncId:=197
abbrev I331:FuncId:=198
abbrev I333:FuncId:=201
abbrev I334:FuncId:=202
abbrev I340:FuncId:=230
abbrev I342:FuncId:=275
abbrev I346:FuncId:=279
abbrev I348:FuncId:=281
abbrev I349:FuncId:=282
abbrev I350:FuncId:=283
abbrev I351:FuncId:=284
abbrev I352:FuncId:=285
abbrev I357:FuncId:=290
abbrev I358:FuncId:=291
abbrev I390:FuncId:=324
abbrev I405:FuncId:=339
abbrev I406:FuncId:=340
abbrev I407:FuncId:=341
abbrev I408:FuncId:=342
abbrev I409:FuncId:=343
abbrev I410:FuncId:=344
abbrev I411:FuncId:=89
abbrev I412:FuncId:=90
abbrev I413:FuncId:=91
abbrev I414:FuncId:=228
abbrev I428:FuncId:=292
abbrev zY27:Array Value:=#[(.int .i64 0),(.int .i64 0),(.int .i64 0),(.int .i64 0),(.slice none 0 0)]
abbrev zY29:Array Value:=#[(.string (bs [])),(.bool false),(.int .i64 0),(.int .i64 0),(.int .i64 0),(.int .i64 0),(.slice none 0 0)]
abbrev zY33:Array Value:=#[(.int .i64 0),(.int .i64 0),(.int .i64 0),(.slice none 0 0),(.slice none 0 0),(.slice none 0 0)]
abbrev zY37:Array Value:=#[(.int .i64 0),(.slice none 0 0),(.int .i64 0)]
abbrev zY66:Array Value:=#[(.bool false),(.int .i64 0),(.string (bs [])),(.slice none 0 0)]
abbrev zY167:Array Value:=#[(.slice none 0 0),(.int .i64 0),(.pointer none)]
abbrev zY224:Array Value:=#[(.slice none 0 0),(.slice none 0 0),(.string (bs [])),(.bool false),(.int .i64 0),(.int .i64 0),(.int .i64 0),(.int .i64 0),(.slice none 0 0),(.bool false)]
abbrev zY352:Array Value:=#[(.string (bs [])),(.bool false),(.int .i64 0),(.int .i64 0),(.int .i64 0),(.int .i64 0),(.slice none 0 0),(.int .i64 0),(.int .i64 0),(.slice none 0 0),(.int .i64 0),(.bool false),(.int .i64 0),(.string (bs [])),(.slice none 0 0),(.bool false)]
abbrev NY27 (h:Hp) (t0 t1 t2 t3:Int) (t4:Sl) (K:Addr→HP):Prop:=New h #[(.int .i64 t0),(.int .i64 t1),(.int .i64 t2),(.int .i64 t3),(Sl.v t4)] Y27 K
abbrev NY29 (h:Hp) (t0:ByteArray) (t1:Bool) (t2 t3 t4 t5:Int) (t6:Sl) (K:Addr→HP):Prop:=New h #[(.string t0),(.bool t1),(.int .i64 t2),(.int .i64 t3),(.int .i64 t4),(.int .i64 t5),(Sl.v t6)] Y29 K
abbrev NY33 (h:Hp) (t0 t1 t2:Int) (t3 t4 t5:Sl) (K:Addr→HP):Prop:=New h #[(.int .i64 t0),(.int .i64 t1),(.int .i64 t2),(Sl.v t3),(Sl.v t4),(Sl.v t5)] Y33 K
abbrev NY66 (h:Hp) (t0:Bool) (t1:Int) (t2:ByteArray) (t3:Sl) (K:Addr→HP):Prop:=New h #[(.bool t0),(.int .i64 t1),(.string t2),(Sl.v t3)] Y66 K
abbrev NY109 (h:Hp) (t0:ByteArray) (t1:Bool) (t2 t3 t4 t5:Int) (t6:Sl) (t7 t8 t9:Int) (t10 t11 t12:Sl) (t13 t14:Int) (t15:Option Addr) (t16:Value) (K:Addr→HP):Prop:=New h #[(.string t0),(.bool t1),(.int .i64 t2),(.int .i64 t3),(.int .i64 t4),(.int .i64 t5),(Sl.v t6),(.int .i64 t7),(.int .i64 t8),(.int .i64 t9),(Sl.v t10),(Sl.v t11),(Sl.v t12),(.int .i64 t13),(.int .i64 t14),(.pointer t15),t16] Y109 K
abbrev NY167 (h:Hp) (t0:Sl) (t1:Int) (t2:Option Addr) (K:Addr→HP):Prop:=New h #[(Sl.v t0),(.int .i64 t1),(.pointer t2)] Y167 K
abbrev NY224 (h:Hp) (t0 t1:Sl) (t2:ByteArray) (t3:Bool) (t4 t5 t6 t7:Int) (t8:Sl) (t9:Bool) (K:Addr→HP):Prop:=New h #[(Sl.v t0),(Sl.v t1),(.string t2),(.bool t3),(.int .i64 t4),(.int .i64 t5),(.int .i64 t6),(.int .i64 t7),(Sl.v t8),(.bool t9)] Y224 K
abbrev NY336 (h:Hp) (t0:ByteArray) (t1:Bool) (t2 t3 t4 t5:Int) (t6:Sl) (t7:Value) (t8:Bool) (K:Addr→HP):Prop:=New h #[(.string t0),(.bool t1),(.int .i64 t2),(.int .i64 t3),(.int .i64 t4),(.int .i64 t5),(Sl.v t6),t7,(.bool t8)] Y336 K
abbrev NY357 (h:Hp) (t0:ByteArray) (t1:Bool) (t2 t3 t4 t5:Int) (t6:Sl) (t7 t8:Int) (t9:Sl) (t10:Int) (t11:Bool) (t12:Int) (t13:ByteArray) (t14:Sl) (t15:Bool) (K:Addr→HP):Prop:=New h #[(.string t0),(.bool t1),(.int .i64 t2),(.int .i64 t3),(.int .i64 t4),(.int .i64 t5),(Sl.v t6),(.int .i64 t7),(.int .i64 t8),(Sl.v t9),(.int .i64 t10),(.bool t11),(.int .i64 t12),(.string t13),(Sl.v t14),(.bool t15)] Y357 K
abbrev NY360 (h:Hp) (t0:ByteArray) (t1:Bool) (t2 t3 t4 t5:Int) (t6:Sl) (t7 t8:Int) (t9:Sl) (t10:Int) (t11:Bool) (t12:Int) (t13:ByteArray) (t14:Sl) (t15:Bool) (t16 t17:Sl) (K:Addr→HP):Prop:=New h #[(.string t0),(.bool t1),(.int .i64 t2),(.int .i64 t3),(.int .i64 t4),(.int .i64 t5),(Sl.v t6),(.int .i64 t7),(.int .i64 t8),(Sl.v t9),(.int .i64 t10),(.bool t11),(.int .i64 t12),(.string t13),(Sl.v t14),(.bool t15),(Sl.v t16),(Sl.v t17)] Y360 K
abbrev NY363 (h:Hp) (t0:ByteArray) (t1:Bool) (t2 t3 t4 t5:Int) (t6:Sl) (t7 t8:Int) (t9:Sl) (t10:Int) (t11:Bool) (t12:Int) (t13:ByteArray) (t14:Sl) (t15:Bool) (t16:Sl) (t17:Value) (K:Addr→HP):Prop:=New h #[(.string t0),(.bool t1),(.int .i64 t2),(.int .i64 t3),(.int .i64 t4),(.int .i64 t5),(Sl.v t6),(.int .i64 t7),(.int .i64 t8),(Sl.v t9),(.int .i64 t10),(.bool t11),(.int .i64 t12),(.string t13),(Sl.v t14),(.bool t15),(Sl.v t16),t17] Y363 K
abbrev NY366 (h:Hp) (t0:ByteArray) (t1:Bool) (t2 t3 t4 t5:Int) (t6:Sl) (t7 t8:Int) (t9:Sl) (t10:Int) (t11:Bool) (t12:Int) (t13:ByteArray) (t14:Sl) (t15:Bool) (t16:Value) (K:Addr→HP):Prop:=New h #[(.string t0),(.bool t1),(.int .i64 t2),(.int .i64 t3),(.int .i64 t4),(.int .i64 t5),(Sl.v t6),(.int .i64 t7),(.int .i64 t8),(Sl.v t9),(.int .i64 t10),(.bool t11),(.int .i64 t12),(.string t13),(Sl.v t14),(.bool t15),t16] Y366 K
abbrev NY369 (h:Hp) (t0:ByteArray) (t1:Bool) (t2 t3 t4 t5:Int) (t6:Sl) (t7 t8:Int) (t9:Sl) (t10:Int) (t11:Bool) (t12:Int) (t13:ByteArray) (t14:Sl) (t15:Bool) (t16:Sl) (K:Addr→HP):Prop:=New h #[(.string t0),(.bool t1),(.int .i64 t2),(.int .i64 t3),(.int .i64 t4),(.int .i64 t5),(Sl.v t6),(.int .i64 t7),(.int .i64 t8),(Sl.v t9),(.int .i64 t10),(.bool t11),(.int .i64 t12),(.string t13),(Sl.v t14),(.bool t15),(Sl.v t16)] Y369 K
abbrev NY372 (h:Hp) (t0:ByteArray) (t1:Bool) (t2 t3 t4 t5:Int) (t6:Sl) (t7 t8:Int) (t9:Sl) (t10:Int) (t11:Bool) (t12:Int) (t13:ByteArray) (t14:Sl) (t15:Bool) (t16 t17 t18:Sl) (K:Addr→HP):Prop:=New h #[(.string t0),(.bool t1),(.int .i64 t2),(.int .i64 t3),(.int .i64 t4),(.int .i64 t5),(Sl.v t6),(.int .i64 t7),(.int .i64 t8),(Sl.v t9),(.int .i64 t10),(.bool t11),(.int .i64 t12),(.string t13),(Sl.v t14),(.bool t15),(Sl.v t16),(Sl.v t17),(Sl.v t18)] Y372 K
abbrev NY376 (h:Hp) (t0:ByteArray) (t1:Bool) (t2 t3 t4 t5:Int) (t6:Sl) (t7 t8:Int) (t9:Sl) (t10:Int) (t11:Bool) (t12:Int) (t13:ByteArray) (t14:Sl) (t15:Bool) (t16:Sl) (t17:Value) (t18:Sl) (t19:Option Nat) (K:Addr→HP):Prop:=New h #[(.string t0),(.bool t1),(.int .i64 t2),(.int .i64 t3),(.int .i64 t4),(.int .i64 t5),(Sl.v t6),(.int .i64 t7),(.int .i64 t8),(Sl.v t9),(.int .i64 t10),(.bool t11),(.int .i64 t12),(.string t13),(Sl.v t14),(.bool t15),(Sl.v t16),t17,(Sl.v t18),(.map t19)] Y376 K
abbrev NY379 (h:Hp) (t0:ByteArray) (t1:Bool) (t2 t3 t4 t5:Int) (t6:Sl) (t7 t8:Int) (t9:Sl) (t10:Int) (t11:Bool) (t12:Int) (t13:ByteArray) (t14:Sl) (t15:Bool) (t16:Sl) (t17:Value) (t18:Bool) (t19:Int) (t20:ByteArray) (t21:Sl) (K:Addr→HP):Prop:=New h #[(.string t0),(.bool t1),(.int .i64 t2),(.int .i64 t3),(.int .i64 t4),(.int .i64 t5),(Sl.v t6),(.int .i64 t7),(.int .i64 t8),(Sl.v t9),(.int .i64 t10),(.bool t11),(.int .i64 t12),(.string t13),(Sl.v t14),(.bool t15),(Sl.v t16),t17,(.bool t18),(.int .i64 t19),(.string t20),(Sl.v t21)] Y379 K
abbrev NY383 (h:Hp) (t0:ByteArray) (t1:Bool) (t2 t3 t4 t5:Int) (t6:Sl) (t7 t8:Int) (t9:Sl) (t10:Int) (t11:Bool) (t12:Int) (t13:ByteArray) (t14:Sl) (t15:Bool) (t16 t17:Sl) (K:Addr→HP):Prop:=New h #[(.string t0),(.bool t1),(.int .i64 t2),(.int .i64 t3),(.int .i64 t4),(.int .i64 t5),(Sl.v t6),(.int .i64 t7),(.int .i64 t8),(Sl.v t9),(.int .i64 t10),(.bool t11),(.int .i64 t12),(.string t13),(Sl.v t14),(.bool t15),(Sl.v t16),(Sl.v t17)] Y383 K
def LY27 (h:Hp) (a:Addr) (K:Int→Int→Int→Int→Sl→Prop):Prop :=
 Ld h a mI fun t0 =>
 Ld h (a.add 1) mI fun t1 =>
 Ld h (a.add 2) mI fun t2 =>
 Ld h (a.add 3) mI fun t3 =>
 Ld h (a.add 4) Sl.v fun t4 =>
 K t0 t1 t2 t3 t4
def LY29 (h:Hp) (a:Addr) (K:ByteArray→Bool→Int→Int→Int→Int→Sl→Prop):Prop :=
 Ld h a .string fun t0 =>
 Ld h (a.add 1) .bool fun t1 =>
 Ld h (a.add 2) mI fun t2 =>
 Ld h (a.add 3) mI fun t3 =>
 Ld h (a.add 4) mI fun t4 =>
 Ld h (a.add 5) mI fun t5 =>
 Ld h (a.add 6) Sl.v fun t6 =>
 K t0 t1 t2 t3 t4 t5 t6
def LY33 (h:Hp) (a:Addr) (K:Int→Int→Int→Sl→Sl→Sl→Prop):Prop :=
 Ld h a mI fun t0 =>
 Ld h (a.add 1) mI fun t1 =>
 Ld h (a.add 2) mI fun t2 =>
 Ld h (a.add 3) Sl.v fun t3 =>
 Ld h (a.add 4) Sl.v fun t4 =>
 Ld h (a.add 5) Sl.v fun t5 =>
 K t0 t1 t2 t3 t4 t5
def LY37 (h:Hp) (a:Addr) (K:Int→Sl→Int→Prop):Prop :=
 Ld h a mI fun t0 =>
 Ld h (a.add 1) Sl.v fun t1 =>
 Ld h (a.add 2) mI fun t2 =>
 K t0 t1 t2
def LY66 (h:Hp) (a:Addr) (K:Bool→Int→ByteArray→Sl→Prop):Prop :=
 Ld h a .bool fun t0 =>
 Ld h (a.add 1) mI fun t1 =>
 Ld h (a.add 2) .string fun t2 =>
 Ld h (a.add 3) Sl.v fun t3 =>
 K t0 t1 t2 t3
def LY167 (h:Hp) (a:Addr) (K:Sl→Int→(Option Addr)→Prop):Prop :=
 Ld h a Sl.v fun t0 =>
 Ld h (a.add 1) mI fun t1 =>
 Ld h (a.add 2) .pointer fun t2 =>
 K t0 t1 t2
def LY224 (h:Hp) (a:Addr) (K:Sl→Sl→ByteArray→Bool→Int→Int→Int→Int→Sl→Bool→Prop):Prop :=
 Ld h a Sl.v fun t0 =>
 Ld h (a.add 1) Sl.v fun t1 =>
 Ld h (a.add 2) .string fun t2 =>
 Ld h (a.add 3) .bool fun t3 =>
 Ld h (a.add 4) mI fun t4 =>
 Ld h (a.add 5) mI fun t5 =>
 Ld h (a.add 6) mI fun t6 =>
 Ld h (a.add 7) mI fun t7 =>
 Ld h (a.add 8) Sl.v fun t8 =>
 Ld h (a.add 9) .bool fun t9 =>
 K t0 t1 t2 t3 t4 t5 t6 t7 t8 t9
def LY352 (h:Hp) (a:Addr) (K:ByteArray→Bool→Int→Int→Int→Int→Sl→Int→Int→Sl→Int→Bool→Int→ByteArray→Sl→Bool→Prop):Prop :=
 Ld h a .string fun t0 =>
 Ld h (a.add 1) .bool fun t1 =>
 Ld h (a.add 2) mI fun t2 =>
 Ld h (a.add 3) mI fun t3 =>
 Ld h (a.add 4) mI fun t4 =>
 Ld h (a.add 5) mI fun t5 =>
 Ld h (a.add 6) Sl.v fun t6 =>
 Ld h (a.add 7) mI fun t7 =>
 Ld h (a.add 8) mI fun t8 =>
 Ld h (a.add 9) Sl.v fun t9 =>
 Ld h (a.add 10) mI fun t10 =>
 Ld h (a.add 11) .bool fun t11 =>
 Ld h (a.add 12) mI fun t12 =>
 Ld h (a.add 13) .string fun t13 =>
 Ld h (a.add 14) Sl.v fun t14 =>
 Ld h (a.add 15) .bool fun t15 =>
 K t0 t1 t2 t3 t4 t5 t6 t7 t8 t9 t10 t11 t12 t13 t14 t15
def SY27 (h:Hp) (a:Addr) (t0 t1 t2 t3:Int) (t4:Sl) (K:HP):Prop :=
 St h a (.int .i64 t0) fun h1 =>
 St h1 (a.add 1) (.int .i64 t1) fun h2 =>
 St h2 (a.add 2) (.int .i64 t2) fun h3 =>
 St h3 (a.add 3) (.int .i64 t3) fun h4 =>
 St h4 (a.add 4) (Sl.v t4) fun h5 =>
 K h5
def SY29 (h:Hp) (a:Addr) (t0:ByteArray) (t1:Bool) (t2 t3 t4 t5:Int) (t6:Sl) (K:HP):Prop :=
 St h a (.string t0) fun h1 =>
 St h1 (a.add 1) (.bool t1) fun h2 =>
 St h2 (a.add 2) (.int .i64 t2) fun h3 =>
 St h3 (a.add 3) (.int .i64 t3) fun h4 =>
 St h4 (a.add 4) (.int .i64 t4) fun h5 =>
 St h5 (a.add 5) (.int .i64 t5) fun h6 =>
 St h6 (a.add 6) (Sl.v t6) fun h7 =>
 K h7
def SY33 (h:Hp) (a:Addr) (t0 t1 t2:Int) (t3 t4 t5:Sl) (K:HP):Prop :=
 St h a (.int .i64 t0) fun h1 =>
 St h1 (a.add 1) (.int .i64 t1) fun h2 =>
 St h2 (a.add 2) (.int .i64 t2) fun h3 =>
 St h3 (a.add 3) (Sl.v t3) fun h4 =>
 St h4 (a.add 4) (Sl.v t4) fun h5 =>
 St h5 (a.add 5) (Sl.v t5) fun h6 =>
 K h6
def SY37 (h:Hp) (a:Addr) (t0:Int) (t1:Sl) (t2:Int) (K:HP):Prop :=
 St h a (.int .i64 t0) fun h1 =>
 St h1 (a.add 1) (Sl.v t1) fun h2 =>
 St h2 (a.add 2) (.int .i64 t2) fun h3 =>
 K h3
def SY66 (h:Hp) (a:Addr) (t0:Bool) (t1:Int) (t2:ByteArray) (t3:Sl) (K:HP):Prop :=
 St h a (.bool t0) fun h1 =>
 St h1 (a.add 1) (.int .i64 t1) fun h2 =>
 St h2 (a.add 2) (.string t2) fun h3 =>
 St h3 (a.add 3) (Sl.v t3) fun h4 =>
 K h4
def SY167 (h:Hp) (a:Addr) (t0:Sl) (t1:Int) (t2:Option Addr) (K:HP):Prop :=
 St h a (Sl.v t0) fun h1 =>
 St h1 (a.add 1) (.int .i64 t1) fun h2 =>
 St h2 (a.add 2) (.pointer t2) fun h3 =>
 K h3
def SY224 (h:Hp) (a:Addr) (t0 t1:Sl) (t2:ByteArray) (t3:Bool) (t4 t5 t6 t7:Int) (t8:Sl) (t9:Bool) (K:HP):Prop :=
 St h a (Sl.v t0) fun h1 =>
 St h1 (a.add 1) (Sl.v t1) fun h2 =>
 St h2 (a.add 2) (.string t2) fun h3 =>
 St h3 (a.add 3) (.bool t3) fun h4 =>
 St h4 (a.add 4) (.int .i64 t4) fun h5 =>
 St h5 (a.add 5) (.int .i64 t5) fun h6 =>
 St h6 (a.add 6) (.int .i64 t6) fun h7 =>
 St h7 (a.add 7) (.int .i64 t7) fun h8 =>
 St h8 (a.add 8) (Sl.v t8) fun h9 =>
 St h9 (a.add 9) (.bool t9) fun h10 =>
 K h10
def SY352 (h:Hp) (a:Addr) (t0:ByteArray) (t1:Bool) (t2 t3 t4 t5:Int) (t6:Sl) (t7 t8:Int) (t9:Sl) (t10:Int) (t11:Bool) (t12:Int) (t13:ByteArray) (t14:Sl) (t15:Bool) (K:HP):Prop :=
 St h a (.string t0) fun h1 =>
 St h1 (a.add 1) (.bool t1) fun h2 =>
 St h2 (a.add 2) (.int .i64 t2) fun h3 =>
 St h3 (a.add 3) (.int .i64 t3) fun h4 =>
 St h4 (a.add 4) (.int .i64 t4) fun h5 =>
 St h5 (a.add 5) (.int .i64 t5) fun h6 =>
 St h6 (a.add 6) (Sl.v t6) fun h7 =>
 St h7 (a.add 7) (.int .i64 t7) fun h8 =>
 St h8 (a.add 8) (.int .i64 t8) fun h9 =>
 St h9 (a.add 9) (Sl.v t9) fun h10 =>
 St h10 (a.add 10) (.int .i64 t10) fun h11 =>
 St h11 (a.add 11) (.bool t11) fun h12 =>
 St h12 (a.add 12) (.int .i64 t12) fun h13 =>
 St h13 (a.add 13) (.string t13) fun h14 =>
 St h14 (a.add 14) (Sl.v t14) fun h15 =>
 St h15 (a.add 15) (.bool t15) fun h16 =>
 K h16
def Fn233 (h:Hp) (K:Bool→HP) (Kp:PK):Prop :=
 CallH Tryz.prog I233 [] h (fun v h'=>∃r0:Bool,v=(.bool r0)∧K r0 h') Kp
def Fn244 (h:Hp) (K:Bool→HP) (Kp:PK):Prop :=
 CallH Tryz.prog I244 [] h (fun v h'=>∃r0:Bool,v=(.bool r0)∧K r0 h') Kp
def Fn245 (f_0:ByteArray) (f_1:Bool) (f_2 f_3 f_4 f_5:Int) (f_6 l:Sl) (h:Hp) (K:Int→Int→Int→Sl→Sl→Sl→Int→Int→HP) (Kp:PK):Prop :=
 CallH Tryz.prog I245 [(.agg #[(.string f_0),(.bool f_1),(.int .i64 f_2),(.int .i64 f_3),(.int .i64 f_4),(.int .i64 f_5),(Sl.v f_6)]),(Sl.v l)] h (fun v h'=>∃r0_0:Int,∃r0_1:Int,∃r0_2:Int,∃r0_3:Sl,∃r0_4:Sl,∃r0_5:Sl,∃r1:Int,∃r2:Int,v=(.tuple #[(.agg #[(.int .i64 r0_0),(.int .i64 r0_1),(.int .i64 r0_2),(Sl.v r0_3),(Sl.v r0_4),(Sl.v r0_5)]),(.int .i64 r1),(.int .i64 r2)])∧K r0_0 r0_1 r0_2 r0_3 r0_4 r0_5 r1 r2 h') Kp
def Fn12 (f_0:ByteArray) (f_1:Bool) (f_2 f_3 f_4 f_5:Int) (f_6:Sl) (d_0 d_1 d_2:Int) (d_3 d_4 d_5:Sl) (h:Hp) (K:(Option Addr)→Int→Sl→Int→HP) (Kp:PK):Prop :=
 CallH Tryz.prog I12 [(.agg #[(.string f_0),(.bool f_1),(.int .i64 f_2),(.int .i64 f_3),(.int .i64 f_4),(.int .i64 f_5),(Sl.v f_6)]),(.agg #[(.int .i64 d_0),(.int .i64 d_1),(.int .i64 d_2),(Sl.v d_3),(Sl.v d_4),(Sl.v d_5)])] h (fun v h'=>∃r0:Option Addr,∃r1_0:Int,∃r1_1:Sl,∃r1_2:Int,v=(.tuple #[(.pointer r0),(.agg #[(.int .i64 r1_0),(Sl.v r1_1),(.int .i64 r1_2)])])∧K r0 r1_0 r1_1 r1_2 h') Kp
def Fn247 (f_0:ByteArray) (f_1:Bool) (f_2 f_3 f_4 f_5:Int) (f_6:Sl) (d_0 d_1 d_2:Int) (d_3 d_4 d_5:Sl) (h:Hp) (K:Int→Int→Int→Sl→Sl→Sl→Int→HP) (Kp:PK):Prop :=
 CallH Tryz.prog I247 [(.agg #[(.string f_0),(.bool f_1),(.int .i64 f_2),(.int .i64 f_3),(.int .i64 f_4),(.int .i64 f_5),(Sl.v f_6)]),(.agg #[(.int .i64 d_0),(.int .i64 d_1),(.int .i64 d_2),(Sl.v d_3),(Sl.v d_4),(Sl.v d_5)])] h (fun v h'=>∃r0_0:Int,∃r0_1:Int,∃r0_2:Int,∃r0_3:Sl,∃r0_4:Sl,∃r0_5:Sl,∃r1:Int,v=(.tuple #[(.agg #[(.int .i64 r0_0),(.int .i64 r0_1),(.int .i64 r0_2),(Sl.v r0_3),(Sl.v r0_4),(Sl.v r0_5)]),(.int .i64 r1)])∧K r0_0 r0_1 r0_2 r0_3 r0_4 r0_5 r1 h') Kp
def Fn18 (a:Option Addr) (h:Hp) (K:Sl→HP) (Kp:PK):Prop :=
 CallH Tryz.prog I18 [(.pointer a)] h (fun v h'=>∃r0:Sl,v=(Sl.v r0)∧K r0 h') Kp
def Fn249 (f_0:ByteArray) (f_1:Bool) (f_2 f_3 f_4 f_5:Int) (f_6:Sl) (d_0 d_1 d_2:Int) (d_3 d_4 d_5:Sl) (h:Hp) (K:Bool→HP) (Kp:PK):Prop :=
 CallH Tryz.prog I249 [(.agg #[(.string f_0),(.bool f_1),(.int .i64 f_2),(.int .i64 f_3),(.int .i64 f_4),(.int .i64 f_5),(Sl.v f_6)]),(.agg #[(.int .i64 d_0),(.int .i64 d_1),(.int .i64 d_2),(Sl.v d_3),(Sl.v d_4),(Sl.v d_5)])] h (fun v h'=>∃r0:Bool,v=(.bool r0)∧K r0 h') Kp
def Fn259 (f_0:ByteArray) (f_1:Bool) (f_2 f_3 f_4 f_5:Int) (f_6:Sl) (h:Hp) (K:(Option Addr)→Int→HP) (Kp:PK):Prop :=
 CallH Tryz.prog I259 [(.agg #[(.string f_0),(.bool f_1),(.int .i64 f_2),(.int .i64 f_3),(.int .i64 f_4),(.int .i64 f_5),(Sl.v f_6)])] h (fun v h'=>∃r0:Option Addr,∃r1:Int,v=(.tuple #[(.pointer r0),(.int .i64 r1)])∧K r0 r1 h') Kp
def Fn261 (b:Option Addr) (v_0:Bool) (v_1:Int) (v_2:ByteArray) (v_3:Sl) (h:Hp) (K:Int→HP) (Kp:PK):Prop :=
 CallH Tryz.prog I261 [(.pointer b),(.agg #[(.bool v_0),(.int .i64 v_1),(.string v_2),(Sl.v v_3)])] h (fun v h'=>∃r0:Int,v=(.int .i64 r0)∧K r0 h') Kp
def Fn263 (b:Option Addr) (h:Hp) (K:Int→Int→Int→Sl→Sl→Sl→Int→HP) (Kp:PK):Prop :=
 CallH Tryz.prog I263 [(.pointer b)] h (fun v h'=>∃r0_0:Int,∃r0_1:Int,∃r0_2:Int,∃r0_3:Sl,∃r0_4:Sl,∃r0_5:Sl,∃r1:Int,v=(.tuple #[(.agg #[(.int .i64 r0_0),(.int .i64 r0_1),(.int .i64 r0_2),(Sl.v r0_3),(Sl.v r0_4),(Sl.v r0_5)]),(.int .i64 r1)])∧K r0_0 r0_1 r0_2 r0_3 r0_4 r0_5 r1 h') Kp
def Fn49 (f_0:ByteArray) (f_1:Bool) (f_2 f_3 f_4 f_5:Int) (f_6:Sl) (d_0 d_1 d_2:Int) (d_3 d_4 d_5:Sl) (h:Hp) (K:Int→Sl→Int→HP) (Kp:PK):Prop :=
 CallH Tryz.prog I49 [(.agg #[(.string f_0),(.bool f_1),(.int .i64 f_2),(.int .i64 f_3),(.int .i64 f_4),(.int .i64 f_5),(Sl.v f_6)]),(.agg #[(.int .i64 d_0),(.int .i64 d_1),(.int .i64 d_2),(Sl.v d_3),(Sl.v d_4),(Sl.v d_5)])] h (fun v h'=>∃r0_0:Int,∃r0_1:Sl,∃r0_2:Int,v=(.agg #[(.int .i64 r0_0),(Sl.v r0_1),(.int .i64 r0_2)])∧K r0_0 r0_1 r0_2 h') Kp
def Fn50 (f_0:ByteArray) (f_1:Bool) (f_2 f_3 f_4 f_5:Int) (f_6:Sl) (d_0 d_1 d_2:Int) (d_3 d_4 d_5:Sl) (w:Option Addr) (h:Hp) (K:(Option Addr)→HP) (Kp:PK):Prop :=
 CallH Tryz.prog I50 [(.agg #[(.string f_0),(.bool f_1),(.int .i64 f_2),(.int .i64 f_3),(.int .i64 f_4),(.int .i64 f_5),(Sl.v f_6)]),(.agg #[(.int .i64 d_0),(.int .i64 d_1),(.int .i64 d_2),(Sl.v d_3),(Sl.v d_4),(Sl.v d_5)]),(.pointer w)] h (fun v h'=>∃r0:Option Addr,v=(.pointer r0)∧K r0 h') Kp
def Fn51 (f_0:ByteArray) (f_1:Bool) (f_2 f_3 f_4 f_5:Int) (f_6:Sl) (h:Hp) (K:ByteArray→Bool→Int→Int→Int→Int→Sl→HP) (Kp:PK):Prop :=
 CallH Tryz.prog I51 [(.agg #[(.string f_0),(.bool f_1),(.int .i64 f_2),(.int .i64 f_3),(.int .i64 f_4),(.int .i64 f_5),(Sl.v f_6)])] h (fun v h'=>∃r0_0:ByteArray,∃r0_1:Bool,∃r0_2:Int,∃r0_3:Int,∃r0_4:Int,∃r0_5:Int,∃r0_6:Sl,v=(.agg #[(.string r0_0),(.bool r0_1),(.int .i64 r0_2),(.int .i64 r0_3),(.int .i64 r0_4),(.int .i64 r0_5),(Sl.v r0_6)])∧K r0_0 r0_1 r0_2 r0_3 r0_4 r0_5 r0_6 h') Kp
def Fn52 (d_0 d_1 d_2:Int) (d_3 d_4 d_5:Sl) (h:Hp) (K:Int→Int→Int→Sl→Sl→Sl→HP) (Kp:PK):Prop :=
 CallH Tryz.prog I52 [(.agg #[(.int .i64 d_0),(.int .i64 d_1),(.int .i64 d_2),(Sl.v d_3),(Sl.v d_4),(Sl.v d_5)])] h (fun v h'=>∃r0_0:Int,∃r0_1:Int,∃r0_2:Int,∃r0_3:Sl,∃r0_4:Sl,∃r0_5:Sl,v=(.agg #[(.int .i64 r0_0),(.int .i64 r0_1),(.int .i64 r0_2),(Sl.v r0_3),(Sl.v r0_4),(Sl.v r0_5)])∧K r0_0 r0_1 r0_2 r0_3 r0_4 r0_5 h') Kp
def Fn275 (f_0:ByteArray) (f_1:Bool) (f_2 f_3 f_4 f_5:Int) (f_6:Sl) (h:Hp) (K:Bool→HP) (Kp:PK):Prop :=
 CallH Tryz.prog I275 [(.agg #[(.string f_0),(.bool f_1),(.int .i64 f_2),(.int .i64 f_3),(.int .i64 f_4),(.int .i64 f_5),(Sl.v f_6)])] h (fun v h'=>∃r0:Bool,v=(.bool r0)∧K r0 h') Kp
def Fn55 (a:Option Addr) (h:Hp) (K:Value→HP) (Kp:PK):Prop :=
 CallH Tryz.prog I55 [(.pointer a)] h (fun v h'=>∃r0:Value,v=r0∧K r0 h') Kp
def Fn276 (a_0 a_1 a_2:Int) (a_3 a_4 a_5:Sl) (b_0 b_1 b_2:Int) (b_3 b_4 b_5:Sl) (h:Hp) (K:Bool→HP) (Kp:PK):Prop :=
 CallH Tryz.prog I276 [(.agg #[(.int .i64 a_0),(.int .i64 a_1),(.int .i64 a_2),(Sl.v a_3),(Sl.v a_4),(Sl.v a_5)]),(.agg #[(.int .i64 b_0),(.int .i64 b_1),(.int .i64 b_2),(Sl.v b_3),(Sl.v b_4),(Sl.v b_5)])] h (fun v h'=>∃r0:Bool,v=(.bool r0)∧K r0 h') Kp
def Fn286 (f_0:ByteArray) (f_1:Bool) (f_2 f_3 f_4 f_5:Int) (f_6:Sl) (h:Hp) (K:ByteArray→Bool→Int→Int→Int→Int→Sl→HP) (Kp:PK):Prop :=
 CallH Tryz.prog I286 [(.agg #[(.string f_0),(.bool f_1),(.int .i64 f_2),(.int .i64 f_3),(.int .i64 f_4),(.int .i64 f_5),(Sl.v f_6)])] h (fun v h'=>∃r0_0:ByteArray,∃r0_1:Bool,∃r0_2:Int,∃r0_3:Int,∃r0_4:Int,∃r0_5:Int,∃r0_6:Sl,v=(.agg #[(.string r0_0),(.bool r0_1),(.int .i64 r0_2),(.int .i64 r0_3),(.int .i64 r0_4),(.int .i64 r0_5),(Sl.v r0_6)])∧K r0_0 r0_1 r0_2 r0_3 r0_4 r0_5 r0_6 h') Kp
def Fn287 (f_0:ByteArray) (f_1:Bool) (f_2 f_3 f_4 f_5:Int) (f_6:Sl) (h:Hp) (K:Value→HP) (Kp:PK):Prop :=
 CallH Tryz.prog I287 [(.agg #[(.string f_0),(.bool f_1),(.int .i64 f_2),(.int .i64 f_3),(.int .i64 f_4),(.int .i64 f_5),(Sl.v f_6)])] h (fun v h'=>∃r0:Value,v=r0∧K r0 h') Kp
def Fn288 (f_0:ByteArray) (f_1:Bool) (f_2 f_3 f_4 f_5:Int) (f_6:Sl) (v_0:Bool) (v_1:Int) (v_2:ByteArray) (v_3:Sl) (h:Hp) (K:Int→HP) (Kp:PK):Prop :=
 CallH Tryz.prog I288 [(.agg #[(.string f_0),(.bool f_1),(.int .i64 f_2),(.int .i64 f_3),(.int .i64 f_4),(.int .i64 f_5),(Sl.v f_6)]),(.agg #[(.bool v_0),(.int .i64 v_1),(.string v_2),(Sl.v v_3)])] h (fun v h'=>∃r0:Int,v=(.int .i64 r0)∧K r0 h') Kp
def Fn289 (b:Option Addr) (v_0:Bool) (v_1:Int) (v_2:ByteArray) (v_3:Sl) (h:Hp) (K:Int→HP) (Kp:PK):Prop :=
 CallH Tryz.prog I289 [(.pointer b),(.agg #[(.bool v_0),(.int .i64 v_1),(.string v_2),(Sl.v v_3)])] h (fun v h'=>∃r0:Int,v=(.int .i64 r0)∧K r0 h') Kp
def Fn129 (s_0 s_1:Sl) (h:Hp) (K:Int→Sl→Int→HP) (Kp:PK):Prop :=
 CallH Tryz.prog I129 [(.agg #[(Sl.v s_0),(Sl.v s_1)])] h (fun v h'=>∃r0_0:Int,∃r0_1:Sl,∃r0_2:Int,v=(.agg #[(.int .i64 r0_0),(Sl.v r0_1),(.int .i64 r0_2)])∧K r0_0 r0_1 r0_2 h') Kp
def Fn98 (f_0:ByteArray) (f_1:Bool) (f_2 f_3 f_4 f_5:Int) (f_6:Sl) (h:Hp) (K:Int→Sl→Int→HP) (Kp:PK):Prop :=
 CallH Tryz.prog I98 [(.agg #[(.string f_0),(.bool f_1),(.int .i64 f_2),(.int .i64 f_3),(.int .i64 f_4),(.int .i64 f_5),(Sl.v f_6)])] h (fun v h'=>∃r0_0:Int,∃r0_1:Sl,∃r0_2:Int,v=(.agg #[(.int .i64 r0_0),(Sl.v r0_1),(.int .i64 r0_2)])∧K r0_0 r0_1 r0_2 h') Kp
def Fn99 (e atv:Int) (h:Hp) (K:Int→Sl→Int→HP) (Kp:PK):Prop :=
 CallH Tryz.prog I99 [(.int .i64 e),(.int .i64 atv)] h (fun v h'=>∃r0_0:Int,∃r0_1:Sl,∃r0_2:Int,v=(.agg #[(.int .i64 r0_0),(Sl.v r0_1),(.int .i64 r0_2)])∧K r0_0 r0_1 r0_2 h') Kp
def Fn100 (f_0:ByteArray) (f_1:Bool) (f_2 f_3 f_4 f_5:Int) (f_6:Sl) (d_0 d_1 d_2:Int) (d_3 d_4 d_5:Sl) (h:Hp) (K:Int→Sl→Int→Sl→HP) (Kp:PK):Prop :=
 CallH Tryz.prog I100 [(.agg #[(.string f_0),(.bool f_1),(.int .i64 f_2),(.int .i64 f_3),(.int .i64 f_4),(.int .i64 f_5),(Sl.v f_6)]),(.agg #[(.int .i64 d_0),(.int .i64 d_1),(.int .i64 d_2),(Sl.v d_3),(Sl.v d_4),(Sl.v d_5)])] h (fun v h'=>∃r0_0:Int,∃r0_1:Sl,∃r0_2:Int,∃r1:Sl,v=(.tuple #[(.agg #[(.int .i64 r0_0),(Sl.v r0_1),(.int .i64 r0_2)]),(Sl.v r1)])∧K r0_0 r0_1 r0_2 r1 h') Kp
def Fn101 (k:Int) (h:Hp) (K:Value→HP) (Kp:PK):Prop :=
 CallH Tryz.prog I101 [(.int .i64 k)] h (fun v h'=>∃r0:Value,v=r0∧K r0 h') Kp
def Fn200 (s:Sl) (h:Hp) (K:Sl→HP) (Kp:PK):Prop :=
 CallH Tryz.prog I200 [(Sl.v s)] h (fun v h'=>∃r0:Sl,v=(Sl.v r0)∧K r0 h') Kp
def Fn201 (s:Sl) (h:Hp) (K:Sl→HP) (Kp:PK):Prop :=
 CallH Tryz.prog I201 [(Sl.v s)] h (fun v h'=>∃r0:Sl,v=(Sl.v r0)∧K r0 h') Kp
def Fn102 (l:Sl) (h:Hp) (K:Sl→HP) (Kp:PK):Prop :=
 CallH Tryz.prog I102 [(Sl.v l)] h (fun v h'=>∃r0:Sl,v=(Sl.v r0)∧K r0 h') Kp
def Fn103 (yield:Value) (c1:Addr) (h:Hp) (K:HP) (Kp:PK):Prop :=
 CallH Tryz.prog I103 [yield,(.pointer (some c1))] h (fun v h'=>v=(.tuple #[])∧K  h') Kp
def Fn64 (a:Option Addr) (i:Int) (h:Hp) (K:Bool→Int→ByteArray→Sl→Int→Int→HP) (Kp:PK):Prop :=
 CallH Tryz.prog I64 [(.pointer a),(.int .i64 i)] h (fun v h'=>∃r0_0:Bool,∃r0_1:Int,∃r0_2:ByteArray,∃r0_3:Sl,∃r1:Int,∃r2:Int,v=(.tuple #[(.agg #[(.bool r0_0),(.int .i64 r0_1),(.string r0_2),(Sl.v r0_3)]),(.int .i64 r1),(.int .i64 r2)])∧K r0_0 r0_1 r0_2 r0_3 r1 r2 h') Kp
def Fn411 (s1 s2:Sl) (eq:Value) (h:Hp) (K:Bool→HP) (Kp:PK):Prop :=
 CallH Tryz.prog I411 [(Sl.v s1),(Sl.v s2),eq] h (fun v h'=>∃r0:Bool,v=(.bool r0)∧K r0 h') Kp
def Fn412 (a b:Sl) (h:Hp) (K:Bool→HP) (Kp:PK):Prop :=
 CallH Tryz.prog I412 [(Sl.v a),(Sl.v b)] h (fun v h'=>∃r0:Bool,v=(.bool r0)∧K r0 h') Kp
def Fn413 (s1 s2:Sl) (eq:Value) (h:Hp) (K:Bool→HP) (Kp:PK):Prop :=
 CallH Tryz.prog I413 [(Sl.v s1),(Sl.v s2),eq] h (fun v h'=>∃r0:Bool,v=(.bool r0)∧K r0 h') Kp
def Fn304 (f_0:ByteArray) (f_1:Bool) (f_2 f_3 f_4 f_5:Int) (f_6:Sl) (h:Hp) (K:ByteArray→Bool→Int→Int→Int→Int→Sl→Int→Int→Sl→Int→Bool→Int→ByteArray→Sl→Bool→HP) (Kp:PK):Prop :=
 CallH Tryz.prog I304 [(.agg #[(.string f_0),(.bool f_1),(.int .i64 f_2),(.int .i64 f_3),(.int .i64 f_4),(.int .i64 f_5),(Sl.v f_6)])] h (fun v h'=>∃r0_0:ByteArray,∃r0_1:Bool,∃r0_2:Int,∃r0_3:Int,∃r0_4:Int,∃r0_5:Int,∃r0_6:Sl,∃r0_7:Int,∃r0_8:Int,∃r0_9:Sl,∃r0_10:Int,∃r0_11:Bool,∃r0_12:Int,∃r0_13:ByteArray,∃r0_14:Sl,∃r0_15:Bool,v=(.agg #[(.string r0_0),(.bool r0_1),(.int .i64 r0_2),(.int .i64 r0_3),(.int .i64 r0_4),(.int .i64 r0_5),(Sl.v r0_6),(.int .i64 r0_7),(.int .i64 r0_8),(Sl.v r0_9),(.int .i64 r0_10),(.bool r0_11),(.int .i64 r0_12),(.string r0_13),(Sl.v r0_14),(.bool r0_15)])∧K r0_0 r0_1 r0_2 r0_3 r0_4 r0_5 r0_6 r0_7 r0_8 r0_9 r0_10 r0_11 r0_12 r0_13 r0_14 r0_15 h') Kp
def Fn305 (f_0:ByteArray) (f_1:Bool) (f_2 f_3 f_4 f_5:Int) (f_6:Sl) (h:Hp) (K:Bool→HP) (Kp:PK):Prop :=
 CallH Tryz.prog I305 [(.agg #[(.string f_0),(.bool f_1),(.int .i64 f_2),(.int .i64 f_3),(.int .i64 f_4),(.int .i64 f_5),(Sl.v f_6)])] h (fun v h'=>∃r0:Bool,v=(.bool r0)∧K r0 h') Kp
def Fn306 (f_0:ByteArray) (f_1:Bool) (f_2 f_3 f_4 f_5:Int) (f_6:Sl) (v_0:Bool) (v_1:Int) (v_2:ByteArray) (v_3:Sl) (h:Hp) (K:Bool→HP) (Kp:PK):Prop :=
 CallH Tryz.prog I306 [(.agg #[(.string f_0),(.bool f_1),(.int .i64 f_2),(.int .i64 f_3),(.int .i64 f_4),(.int .i64 f_5),(Sl.v f_6)]),(.agg #[(.bool v_0),(.int .i64 v_1),(.string v_2),(Sl.v v_3)])] h (fun v h'=>∃r0:Bool,v=(.bool r0)∧K r0 h') Kp
def Fn152 (l:Sl) (most:Int) (h:Hp) (K:Value→HP) (Kp:PK):Prop :=
 CallH Tryz.prog I152 [(Sl.v l),(.int .i64 most)] h (fun v h'=>∃r0:Value,v=r0∧K r0 h') Kp
def Fn153 (p_0 p_1:Sl) (p_2:ByteArray) (p_3:Bool) (p_4 p_5 p_6 p_7:Int) (p_8:Sl) (p_9:Bool) (ahead:Int) (ids:Option Nat) (h:Hp) (K:Int→HP) (Kp:PK):Prop :=
 CallH Tryz.prog I153 [(.agg #[(Sl.v p_0),(Sl.v p_1),(.string p_2),(.bool p_3),(.int .i64 p_4),(.int .i64 p_5),(.int .i64 p_6),(.int .i64 p_7),(Sl.v p_8),(.bool p_9)]),(.int .i64 ahead),(.map ids)] h (fun v h'=>∃r0:Int,v=(.int .i64 r0)∧K r0 h') Kp
def Fn130 (f_0:ByteArray) (f_1:Bool) (f_2 f_3 f_4 f_5:Int) (f_6:Sl) (d_0 d_1 d_2:Int) (d_3 d_4 d_5:Sl) (h:Hp) (K:Int→Sl→Int→HP) (Kp:PK):Prop :=
 CallH Tryz.prog I130 [(.agg #[(.string f_0),(.bool f_1),(.int .i64 f_2),(.int .i64 f_3),(.int .i64 f_4),(.int .i64 f_5),(Sl.v f_6)]),(.agg #[(.int .i64 d_0),(.int .i64 d_1),(.int .i64 d_2),(Sl.v d_3),(Sl.v d_4),(Sl.v d_5)])] h (fun v h'=>∃r0_0:Int,∃r0_1:Sl,∃r0_2:Int,v=(.agg #[(.int .i64 r0_0),(Sl.v r0_1),(.int .i64 r0_2)])∧K r0_0 r0_1 r0_2 h') Kp
def Fn131 (f_0:ByteArray) (f_1:Bool) (f_2 f_3 f_4 f_5:Int) (f_6:Sl) (d_0 d_1 d_2:Int) (d_3 d_4 d_5:Sl) (h:Hp) (K:Int→Sl→Int→HP) (Kp:PK):Prop :=
 CallH Tryz.prog I131 [(.agg #[(.string f_0),(.bool f_1),(.int .i64 f_2),(.int .i64 f_3),(.int .i64 f_4),(.int .i64 f_5),(Sl.v f_6)]),(.agg #[(.int .i64 d_0),(.int .i64 d_1),(.int .i64 d_2),(Sl.v d_3),(Sl.v d_4),(Sl.v d_5)])] h (fun v h'=>∃r0_0:Int,∃r0_1:Sl,∃r0_2:Int,v=(.agg #[(.int .i64 r0_0),(Sl.v r0_1),(.int .i64 r0_2)])∧K r0_0 r0_1 r0_2 h') Kp
def Fn111 (d_0 d_1 d_2:Int) (d_3 d_4 d_5:Sl) (h:Hp) (K:Sl→HP) (Kp:PK):Prop :=
 CallH Tryz.prog I111 [(.agg #[(.int .i64 d_0),(.int .i64 d_1),(.int .i64 d_2),(Sl.v d_3),(Sl.v d_4),(Sl.v d_5)])] h (fun v h'=>∃r0:Sl,v=(Sl.v r0)∧K r0 h') Kp
def Fn110 (f_0:ByteArray) (f_1:Bool) (f_2 f_3 f_4 f_5:Int) (f_6:Sl) (k:Int) (h:Hp) (K:ByteArray→Bool→Int→Int→Int→Int→Sl→HP) (Kp:PK):Prop :=
 CallH Tryz.prog I110 [(.agg #[(.string f_0),(.bool f_1),(.int .i64 f_2),(.int .i64 f_3),(.int .i64 f_4),(.int .i64 f_5),(Sl.v f_6)]),(.int .i64 k)] h (fun v h'=>∃r0_0:ByteArray,∃r0_1:Bool,∃r0_2:Int,∃r0_3:Int,∃r0_4:Int,∃r0_5:Int,∃r0_6:Sl,v=(.agg #[(.string r0_0),(.bool r0_1),(.int .i64 r0_2),(.int .i64 r0_3),(.int .i64 r0_4),(.int .i64 r0_5),(Sl.v r0_6)])∧K r0_0 r0_1 r0_2 r0_3 r0_4 r0_5 r0_6 h') Kp
def Fn132 (d_0 d_1 d_2:Int) (d_3 d_4 d_5:Sl) (h:Hp) (K:Int→Sl→Int→HP) (Kp:PK):Prop :=
 CallH Tryz.prog I132 [(.agg #[(.int .i64 d_0),(.int .i64 d_1),(.int .i64 d_2),(Sl.v d_3),(Sl.v d_4),(Sl.v d_5)])] h (fun v h'=>∃r0_0:Int,∃r0_1:Sl,∃r0_2:Int,v=(.agg #[(.int .i64 r0_0),(Sl.v r0_1),(.int .i64 r0_2)])∧K r0_0 r0_1 r0_2 h') Kp
def Fn133 (f_0:ByteArray) (f_1:Bool) (f_2 f_3 f_4 f_5:Int) (f_6:Sl) (d_0 d_1 d_2:Int) (d_3 d_4 d_5 within:Sl) (h:Hp) (K:Sl→HP) (Kp:PK):Prop :=
 CallH Tryz.prog I133 [(.agg #[(.string f_0),(.bool f_1),(.int .i64 f_2),(.int .i64 f_3),(.int .i64 f_4),(.int .i64 f_5),(Sl.v f_6)]),(.agg #[(.int .i64 d_0),(.int .i64 d_1),(.int .i64 d_2),(Sl.v d_3),(Sl.v d_4),(Sl.v d_5)]),(Sl.v within)] h (fun v h'=>∃r0:Sl,v=(Sl.v r0)∧K r0 h') Kp
def Fn109 (a:Option Addr) (i:Int) (left:Option Addr) (h:Hp) (K:Bool→Int→ByteArray→Sl→HP) (Kp:PK):Prop :=
 CallH Tryz.prog I109 [(.pointer a),(.int .i64 i),(.pointer left)] h (fun v h'=>∃r0_0:Bool,∃r0_1:Int,∃r0_2:ByteArray,∃r0_3:Sl,v=(.agg #[(.bool r0_0),(.int .i64 r0_1),(.string r0_2),(Sl.v r0_3)])∧K r0_0 r0_1 r0_2 r0_3 h') Kp
def Fn318 (f_0:ByteArray) (f_1:Bool) (f_2 f_3 f_4 f_5:Int) (f_6:Sl) (h:Hp) (K:Bool→Int→ByteArray→Sl→Int→HP) (Kp:PK):Prop :=
 CallH Tryz.prog I318 [(.agg #[(.string f_0),(.bool f_1),(.int .i64 f_2),(.int .i64 f_3),(.int .i64 f_4),(.int .i64 f_5),(Sl.v f_6)])] h (fun v h'=>∃r0_0:Bool,∃r0_1:Int,∃r0_2:ByteArray,∃r0_3:Sl,∃r1:Int,v=(.tuple #[(.agg #[(.bool r0_0),(.int .i64 r0_1),(.string r0_2),(Sl.v r0_3)]),(.int .i64 r1)])∧K r0_0 r0_1 r0_2 r0_3 r1 h') Kp
def Fn319 (x:Option Addr) (f_0:ByteArray) (f_1:Bool) (f_2 f_3 f_4 f_5:Int) (f_6:Sl) (v_0:Bool) (v_1:Int) (v_2:ByteArray) (v_3:Sl) (h:Hp) (K:Bool→HP) (Kp:PK):Prop :=
 CallH Tryz.prog I319 [(.pointer x),(.agg #[(.string f_0),(.bool f_1),(.int .i64 f_2),(.int .i64 f_3),(.int .i64 f_4),(.int .i64 f_5),(Sl.v f_6)]),(.agg #[(.bool v_0),(.int .i64 v_1),(.string v_2),(Sl.v v_3)])] h (fun v h'=>∃r0:Bool,v=(.bool r0)∧K r0 h') Kp
def Fn170 (yield:Value) (c1 c2:Addr) (h:Hp) (K:HP) (Kp:PK):Prop :=
 CallH Tryz.prog I170 [yield,(.pointer (some c1)),(.pointer (some c2))] h (fun v h'=>v=(.tuple #[])∧K  h') Kp
def Fn171 (path l:Sl) (inDict:Bool) (c3 c4 c5:Addr) (h:Hp) (K:Bool→HP) (Kp:PK):Prop :=
 CallH Tryz.prog I171 [(Sl.v path),(Sl.v l),(.bool inDict),(.pointer (some c3)),(.pointer (some c4)),(.pointer (some c5))] h (fun v h'=>∃r0:Bool,v=(.bool r0)∧K r0 h') Kp
def Fn203 (s:Sl) (h:Hp) (K:Sl→HP) (Kp:PK):Prop :=
 CallH Tryz.prog I203 [(Sl.v s)] h (fun v h'=>∃r0:Sl,v=(Sl.v r0)∧K r0 h') Kp
def Fn172 (s:ByteArray) (h:Hp) (K:Bool→HP) (Kp:PK):Prop :=
 CallH Tryz.prog I172 [(.string s)] h (fun v h'=>∃r0:Bool,v=(.bool r0)∧K r0 h') Kp
def Fn204 (s:Sl) (f:Value) (h:Hp) (K:Bool→HP) (Kp:PK):Prop :=
 CallH Tryz.prog I204 [(Sl.v s),f] h (fun v h'=>∃r0:Bool,v=(.bool r0)∧K r0 h') Kp
def Fn173 (g_0:ByteArray) (g_1:Bool) (g_2 g_3 g_4 g_5:Int) (g_6:Sl) (c1:Addr) (h:Hp) (K:Bool→HP) (Kp:PK):Prop :=
 CallH Tryz.prog I173 [(.agg #[(.string g_0),(.bool g_1),(.int .i64 g_2),(.int .i64 g_3),(.int .i64 g_4),(.int .i64 g_5),(Sl.v g_6)]),(.pointer (some c1))] h (fun v h'=>∃r0:Bool,v=(.bool r0)∧K r0 h') Kp
def Fn174 (t_0 t_1 t_2 t_3:Int) (t_4:Sl) (h:Hp) (K:Bool→HP) (Kp:PK):Prop :=
 CallH Tryz.prog I174 [(.agg #[(.int .i64 t_0),(.int .i64 t_1),(.int .i64 t_2),(.int .i64 t_3),(Sl.v t_4)])] h (fun v h'=>∃r0:Bool,v=(.bool r0)∧K r0 h') Kp
def Fn175 (f_0:ByteArray) (f_1:Bool) (f_2 f_3 f_4 f_5:Int) (f_6:Sl) (h:Hp) (K:Bool→HP) (Kp:PK):Prop :=
 CallH Tryz.prog I175 [(.agg #[(.string f_0),(.bool f_1),(.int .i64 f_2),(.int .i64 f_3),(.int .i64 f_4),(.int .i64 f_5),(Sl.v f_6)])] h (fun v h'=>∃r0:Bool,v=(.bool r0)∧K r0 h') Kp
def Fn154 (t_0 t_1 t_2 t_3:Int) (t_4:Sl) (h:Hp) (K:Int→Int→Int→HP) (Kp:PK):Prop :=
 CallH Tryz.prog I154 [(.agg #[(.int .i64 t_0),(.int .i64 t_1),(.int .i64 t_2),(.int .i64 t_3),(Sl.v t_4)])] h (fun v h'=>∃r0:Int,∃r1:Int,∃r2:Int,v=(.tuple #[(.int .i64 r0),(.int .i64 r1),(.int .i64 r2)])∧K r0 r1 r2 h') Kp
def Fn155 (t_0 t_1 t_2 t_3:Int) (t_4:Sl) (k endv havev:Int) (h:Hp) (K:Int→HP) (Kp:PK):Prop :=
 CallH Tryz.prog I155 [(.agg #[(.int .i64 t_0),(.int .i64 t_1),(.int .i64 t_2),(.int .i64 t_3),(Sl.v t_4)]),(.int .i64 k),(.int .i64 endv),(.int .i64 havev)] h (fun v h'=>∃r0:Int,v=(.int .i64 r0)∧K r0 h') Kp
def Fn156 (f_0:ByteArray) (f_1:Bool) (f_2 f_3 f_4 f_5:Int) (f_6:Sl) (d_0 d_1 d_2:Int) (d_3 d_4 d_5:Sl) (h:Hp) (K:Int→Sl→Int→HP) (Kp:PK):Prop :=
 CallH Tryz.prog I156 [(.agg #[(.string f_0),(.bool f_1),(.int .i64 f_2),(.int .i64 f_3),(.int .i64 f_4),(.int .i64 f_5),(Sl.v f_6)]),(.agg #[(.int .i64 d_0),(.int .i64 d_1),(.int .i64 d_2),(Sl.v d_3),(Sl.v d_4),(Sl.v d_5)])] h (fun v h'=>∃r0_0:Int,∃r0_1:Sl,∃r0_2:Int,v=(.agg #[(.int .i64 r0_0),(Sl.v r0_1),(.int .i64 r0_2)])∧K r0_0 r0_1 r0_2 h') Kp
def Fn157 (f_0:ByteArray) (f_1:Bool) (f_2 f_3 f_4 f_5:Int) (f_6:Sl) (d_0 d_1 d_2:Int) (d_3 d_4 d_5:Sl) (h:Hp) (K:Int→Sl→Int→HP) (Kp:PK):Prop :=
 CallH Tryz.prog I157 [(.agg #[(.string f_0),(.bool f_1),(.int .i64 f_2),(.int .i64 f_3),(.int .i64 f_4),(.int .i64 f_5),(Sl.v f_6)]),(.agg #[(.int .i64 d_0),(.int .i64 d_1),(.int .i64 d_2),(Sl.v d_3),(Sl.v d_4),(Sl.v d_5)])] h (fun v h'=>∃r0_0:Int,∃r0_1:Sl,∃r0_2:Int,v=(.agg #[(.int .i64 r0_0),(Sl.v r0_1),(.int .i64 r0_2)])∧K r0_0 r0_1 r0_2 h') Kp
def Fn158 (b:Sl) (i:Int) (h:Hp) (K:Int→HP) (Kp:PK):Prop :=
 CallH Tryz.prog I158 [(Sl.v b),(.int .i64 i)] h (fun v h'=>∃r0:Int,v=(.int .i64 r0)∧K r0 h') Kp
def Fn105 (f_0:ByteArray) (f_1:Bool) (f_2 f_3 f_4 f_5:Int) (f_6:Sl) (d_0 d_1 d_2:Int) (d_3 d_4 d_5:Sl) (r:Int) (h:Hp) (K:Bool→HP) (Kp:PK):Prop :=
 CallH Tryz.prog I105 [(.agg #[(.string f_0),(.bool f_1),(.int .i64 f_2),(.int .i64 f_3),(.int .i64 f_4),(.int .i64 f_5),(Sl.v f_6)]),(.agg #[(.int .i64 d_0),(.int .i64 d_1),(.int .i64 d_2),(Sl.v d_3),(Sl.v d_4),(Sl.v d_5)]),(.int .i64 r)] h (fun v h'=>∃r0:Bool,v=(.bool r0)∧K r0 h') Kp
def Fn159 (f_0:ByteArray) (f_1:Bool) (f_2 f_3 f_4 f_5:Int) (f_6:Sl) (d_0 d_1 d_2:Int) (d_3 d_4 d_5:Sl) (r:Int) (h:Hp) (K:Int→HP) (Kp:PK):Prop :=
 CallH Tryz.prog I159 [(.agg #[(.string f_0),(.bool f_1),(.int .i64 f_2),(.int .i64 f_3),(.int .i64 f_4),(.int .i64 f_5),(Sl.v f_6)]),(.agg #[(.int .i64 d_0),(.int .i64 d_1),(.int .i64 d_2),(Sl.v d_3),(Sl.v d_4),(Sl.v d_5)]),(.int .i64 r)] h (fun v h'=>∃r0:Int,v=(.int .i64 r0)∧K r0 h') Kp
def Fn160 (within:Sl) (fromv to:Int) (h:Hp) (K:Sl→HP) (Kp:PK):Prop :=
 CallH Tryz.prog I160 [(Sl.v within),(.int .i64 fromv),(.int .i64 to)] h (fun v h'=>∃r0:Sl,v=(Sl.v r0)∧K r0 h') Kp
def Fn135 (a:Option Addr) (r:Int) (left:Option Addr) (h:Hp) (K:Bool→Int→ByteArray→Sl→HP) (Kp:PK):Prop :=
 CallH Tryz.prog I135 [(.pointer a),(.int .i64 r),(.pointer left)] h (fun v h'=>∃r0_0:Bool,∃r0_1:Int,∃r0_2:ByteArray,∃r0_3:Sl,v=(.agg #[(.bool r0_0),(.int .i64 r0_1),(.string r0_2),(Sl.v r0_3)])∧K r0_0 r0_1 r0_2 r0_3 h') Kp
def Fn329 (f_0:ByteArray) (f_1:Bool) (f_2 f_3 f_4 f_5:Int) (f_6:Sl) (h:Hp) (K:Int→HP) (Kp:PK):Prop :=
 CallH Tryz.prog I329 [(.agg #[(.string f_0),(.bool f_1),(.int .i64 f_2),(.int .i64 f_3),(.int .i64 f_4),(.int .i64 f_5),(Sl.v f_6)])] h (fun v h'=>∃r0:Int,v=(.int .i64 r0)∧K r0 h') Kp
def Fn330 (f_0:ByteArray) (f_1:Bool) (f_2 f_3 f_4 f_5:Int) (f_6:Sl) (h:Hp) (K:Bool→Int→ByteArray→Sl→HP) (Kp:PK):Prop :=
 CallH Tryz.prog I330 [(.agg #[(.string f_0),(.bool f_1),(.int .i64 f_2),(.int .i64 f_3),(.int .i64 f_4),(.int .i64 f_5),(Sl.v f_6)])] h (fun v h'=>∃r0_0:Bool,∃r0_1:Int,∃r0_2:ByteArray,∃r0_3:Sl,v=(.agg #[(.bool r0_0),(.int .i64 r0_1),(.string r0_2),(Sl.v r0_3)])∧K r0_0 r0_1 r0_2 r0_3 h') Kp
def Fn331 (f_0:ByteArray) (f_1:Bool) (f_2 f_3 f_4 f_5:Int) (f_6:Sl) (h:Hp) (K:Bool→HP) (Kp:PK):Prop :=
 CallH Tryz.prog I331 [(.agg #[(.string f_0),(.bool f_1),(.int .i64 f_2),(.int .i64 f_3),(.int .i64 f_4),(.int .i64 f_5),(Sl.v f_6)])] h (fun v h'=>∃r0:Bool,v=(.bool r0)∧K r0 h') Kp
def Fn224 (s:ByteArray) (h:Hp) (K:Bool→HP) (Kp:PK):Prop :=
 CallH Tryz.prog I224 [(.string s)] h (fun v h'=>∃r0:Bool,v=(.bool r0)∧K r0 h') Kp
def Fn333 (k:Int) (h:Hp) (K:Bool→HP) (Kp:PK):Prop :=
 CallH Tryz.prog I333 [(.int .i64 k)] h (fun v h'=>∃r0:Bool,v=(.bool r0)∧K r0 h') Kp
def Fn334 (k n:Int) (h:Hp) (K:Bool→HP) (Kp:PK):Prop :=
 CallH Tryz.prog I334 [(.int .i64 k),(.int .i64 n)] h (fun v h'=>∃r0:Bool,v=(.bool r0)∧K r0 h') Kp
def Fn182 (c:Int) (h:Hp) (K:Bool→HP) (Kp:PK):Prop :=
 CallH Tryz.prog I182 [(.int .u8 c)] h (fun v h'=>∃r0:Bool,v=(.bool r0)∧K r0 h') Kp
def Fn206 (s:Sl) (f:Value) (h:Hp) (K:Int→HP) (Kp:PK):Prop :=
 CallH Tryz.prog I206 [(Sl.v s),f] h (fun v h'=>∃r0:Int,v=(.int .i64 r0)∧K r0 h') Kp
def Fn183 (kind:Int) (h:Hp) (K:Bool→HP) (Kp:PK):Prop :=
 CallH Tryz.prog I183 [(.int .i64 kind)] h (fun v h'=>∃r0:Bool,v=(.bool r0)∧K r0 h') Kp
def Fn176 (t_0 t_1 t_2 t_3:Int) (t_4:Sl) (h:Hp) (K:Bool→HP) (Kp:PK):Prop :=
 CallH Tryz.prog I176 [(.agg #[(.int .i64 t_0),(.int .i64 t_1),(.int .i64 t_2),(.int .i64 t_3),(Sl.v t_4)])] h (fun v h'=>∃r0:Bool,v=(.bool r0)∧K r0 h') Kp
def Fn177 (t_0 t_1 t_2 t_3:Int) (t_4:Sl) (h:Hp) (K:Sl→HP) (Kp:PK):Prop :=
 CallH Tryz.prog I177 [(.agg #[(.int .i64 t_0),(.int .i64 t_1),(.int .i64 t_2),(.int .i64 t_3),(Sl.v t_4)])] h (fun v h'=>∃r0:Sl,v=(Sl.v r0)∧K r0 h') Kp
def Fn178 (n:Int) (h:Hp) (K:Int→HP) (Kp:PK):Prop :=
 CallH Tryz.prog I178 [(.int .i64 n)] h (fun v h'=>∃r0:Int,v=(.int .i64 r0)∧K r0 h') Kp
def Fn179 (t_0 t_1 t_2 t_3:Int) (t_4:Sl) (h:Hp) (K:Int→HP) (Kp:PK):Prop :=
 CallH Tryz.prog I179 [(.agg #[(.int .i64 t_0),(.int .i64 t_1),(.int .i64 t_2),(.int .i64 t_3),(Sl.v t_4)])] h (fun v h'=>∃r0:Int,v=(.int .i64 r0)∧K r0 h') Kp
def Fn57 (f_0:ByteArray) (f_1:Bool) (f_2 f_3 f_4 f_5:Int) (f_6:Sl) (d_0 d_1 d_2:Int) (d_3 d_4 d_5:Sl) (h:Hp) (K:Int→HP) (Kp:PK):Prop :=
 CallH Tryz.prog I57 [(.agg #[(.string f_0),(.bool f_1),(.int .i64 f_2),(.int .i64 f_3),(.int .i64 f_4),(.int .i64 f_5),(Sl.v f_6)]),(.agg #[(.int .i64 d_0),(.int .i64 d_1),(.int .i64 d_2),(Sl.v d_3),(Sl.v d_4),(Sl.v d_5)])] h (fun v h'=>∃r0:Int,v=(.int .i64 r0)∧K r0 h') Kp
def Fn205 (p:Sl) (h:Hp) (K:Bool→HP) (Kp:PK):Prop :=
 CallH Tryz.prog I205 [(Sl.v p)] h (fun v h'=>∃r0:Bool,v=(.bool r0)∧K r0 h') Kp
def Fn114 (k:Int) (h:Hp) (K:Bool→HP) (Kp:PK):Prop :=
 CallH Tryz.prog I114 [(.int .i64 k)] h (fun v h'=>∃r0:Bool,v=(.bool r0)∧K r0 h') Kp
def Fn134 (b:Sl) (i:Int) (h:Hp) (K:Bool→Int→HP) (Kp:PK):Prop :=
 CallH Tryz.prog I134 [(Sl.v b),(.int .i64 i)] h (fun v h'=>∃r0:Bool,∃r1:Int,v=(.tuple #[(.bool r0),(.int .i64 r1)])∧K r0 r1 h') Kp
def Fn180 (k:Int) (h:Hp) (K:Int→HP) (Kp:PK):Prop :=
 CallH Tryz.prog I180 [(.int .i64 k)] h (fun v h'=>∃r0:Int,v=(.int .i64 r0)∧K r0 h') Kp
def Fn68 (a:Option Addr) (r:Int) (h:Hp) (K:Bool→HP) (Kp:PK):Prop :=
 CallH Tryz.prog I68 [(.pointer a),(.int .i64 r)] h (fun v h'=>∃r0:Bool,v=(.bool r0)∧K r0 h') Kp
def Fn162 (left:Option Addr) (n:Int) (h:Hp) (K:HP) (Kp:PK):Prop :=
 CallH Tryz.prog I162 [(.pointer left),(.int .i64 n)] h (fun v h'=>v=(.tuple #[])∧K  h') Kp
def Fn414 (s:ByteArray) (count:Int) (h:Hp) (K:ByteArray→HP) (Kp:PK):Prop :=
 CallH Tryz.prog I414 [(.string s),(.int .i64 count)] h (fun v h'=>∃r0:ByteArray,v=(.string r0)∧K r0 h') Kp
def Fn225 (s:ByteArray) (h:Hp) (K:Int→HP) (Kp:PK):Prop :=
 CallH Tryz.prog I225 [(.string s)] h (fun v h'=>∃r0:Int,v=(.int .u64 r0)∧K r0 h') Kp
def Fn340 (k:Int) (h:Hp) (K:Int→Bool→HP) (Kp:PK):Prop :=
 CallH Tryz.prog I340 [(.int .i64 k)] h (fun v h'=>∃r0:Int,∃r1:Bool,v=(.tuple #[(.int .i64 r0),(.bool r1)])∧K r0 r1 h') Kp
def Fn184 (t_0 t_1 t_2 t_3:Int) (t_4:Sl) (h:Hp) (K:ByteArray→Bool→Int→Int→Int→Int→Sl→HP) (Kp:PK):Prop :=
 CallH Tryz.prog I184 [(.agg #[(.int .i64 t_0),(.int .i64 t_1),(.int .i64 t_2),(.int .i64 t_3),(Sl.v t_4)])] h (fun v h'=>∃r0_0:ByteArray,∃r0_1:Bool,∃r0_2:Int,∃r0_3:Int,∃r0_4:Int,∃r0_5:Int,∃r0_6:Sl,v=(.agg #[(.string r0_0),(.bool r0_1),(.int .i64 r0_2),(.int .i64 r0_3),(.int .i64 r0_4),(.int .i64 r0_5),(Sl.v r0_6)])∧K r0_0 r0_1 r0_2 r0_3 r0_4 r0_5 r0_6 h') Kp
def Fn185 (l:Sl) (h:Hp) (K:Sl→HP) (Kp:PK):Prop :=
 CallH Tryz.prog I185 [(Sl.v l)] h (fun v h'=>∃r0:Sl,v=(Sl.v r0)∧K r0 h') Kp
def Fn207 (s:Sl) (h:Hp) (K:Int→HP) (Kp:PK):Prop :=
 CallH Tryz.prog I207 [(Sl.v s)] h (fun v h'=>∃r0:Int,v=(.int .u64 r0)∧K r0 h') Kp
def Fn161 (b:Sl) (i:Int) (h:Hp) (K:Bool→HP) (Kp:PK):Prop :=
 CallH Tryz.prog I161 [(Sl.v b),(.int .i64 i)] h (fun v h'=>∃r0:Bool,v=(.bool r0)∧K r0 h') Kp
def Fn112 (a:Option Addr) (k:Int) (h:Hp) (K:Sl→Int→(Option Addr)→HP) (Kp:PK):Prop :=
 CallH Tryz.prog I112 [(.pointer a),(.int .i64 k)] h (fun v h'=>∃r0_0:Sl,∃r0_1:Int,∃r0_2:Option Addr,v=(.agg #[(Sl.v r0_0),(.int .i64 r0_1),(.pointer r0_2)])∧K r0_0 r0_1 r0_2 h') Kp
def Fn115 (v_0:Sl) (v_1:Int) (v_2:Option Addr) (atv:Int) (h:Hp) (K:Int→Int→HP) (Kp:PK):Prop :=
 CallH Tryz.prog I115 [(.agg #[(Sl.v v_0),(.int .i64 v_1),(.pointer v_2)]),(.int .i64 atv)] h (fun v h'=>∃r0:Int,∃r1:Int,v=(.tuple #[(.int .u8 r0),(.int .i64 r1)])∧K r0 r1 h') Kp
def Fn208 (s:Sl) (h:Hp) (K:Sl→HP) (Kp:PK):Prop :=
 CallH Tryz.prog I208 [(Sl.v s)] h (fun v h'=>∃r0:Sl,v=(Sl.v r0)∧K r0 h') Kp
def Fn136 (b:Sl) (h:Hp) (K:Sl→Int→(Option Addr)→HP) (Kp:PK):Prop :=
 CallH Tryz.prog I136 [(Sl.v b)] h (fun v h'=>∃r0_0:Sl,∃r0_1:Int,∃r0_2:Option Addr,v=(.agg #[(Sl.v r0_0),(.int .i64 r0_1),(.pointer r0_2)])∧K r0_0 r0_1 r0_2 h') Kp
def Fn137 (v_0:Sl) (v_1:Int) (v_2 w:Option Addr) (h:Hp) (K:Sl→Int→(Option Addr)→HP) (Kp:PK):Prop :=
 CallH Tryz.prog I137 [(.agg #[(Sl.v v_0),(.int .i64 v_1),(.pointer v_2)]),(.pointer w)] h (fun v h'=>∃r0_0:Sl,∃r0_1:Int,∃r0_2:Option Addr,v=(.agg #[(Sl.v r0_0),(.int .i64 r0_1),(.pointer r0_2)])∧K r0_0 r0_1 r0_2 h') Kp
def Fn139 (v_0:Sl) (v_1:Int) (v_2:Option Addr) (fromv n:Int) (h:Hp) (K:Bool→HP) (Kp:PK):Prop :=
 CallH Tryz.prog I139 [(.agg #[(Sl.v v_0),(.int .i64 v_1),(.pointer v_2)]),(.int .i64 fromv),(.int .i64 n)] h (fun v h'=>∃r0:Bool,v=(.bool r0)∧K r0 h') Kp
def Fn140 (v_0:Sl) (v_1:Int) (v_2:Option Addr) (fromv n:Int) (h:Hp) (K:Sl→HP) (Kp:PK):Prop :=
 CallH Tryz.prog I140 [(.agg #[(Sl.v v_0),(.int .i64 v_1),(.pointer v_2)]),(.int .i64 fromv),(.int .i64 n)] h (fun v h'=>∃r0:Sl,v=(Sl.v r0)∧K r0 h') Kp
def Fn342 (b:Option Addr) (h:Hp) (K:Int→HP) (Kp:PK):Prop :=
 CallH Tryz.prog I342 [(.pointer b)] h (fun v h'=>∃r0:Int,v=(.int .i64 r0)∧K r0 h') Kp
def Fn346 (b:Option Addr) (h:Hp) (K:Int→HP) (Kp:PK):Prop :=
 CallH Tryz.prog I346 [(.pointer b)] h (fun v h'=>∃r0:Int,v=(.int .i64 r0)∧K r0 h') Kp
def Fn348 (b:Option Addr) (buffers:Sl) (h:Hp) (K:Int→Int→Int→Sl→Sl→Sl→HP) (Kp:PK):Prop :=
 CallH Tryz.prog I348 [(.pointer b),(Sl.v buffers)] h (fun v h'=>∃r0_0:Int,∃r0_1:Int,∃r0_2:Int,∃r0_3:Sl,∃r0_4:Sl,∃r0_5:Sl,v=(.agg #[(.int .i64 r0_0),(.int .i64 r0_1),(.int .i64 r0_2),(Sl.v r0_3),(Sl.v r0_4),(Sl.v r0_5)])∧K r0_0 r0_1 r0_2 r0_3 r0_4 r0_5 h') Kp
def Fn349 (b:Option Addr) (h:Hp) (K:Value→HP) (Kp:PK):Prop :=
 CallH Tryz.prog I349 [(.pointer b)] h (fun v h'=>∃r0:Value,v=r0∧K r0 h') Kp
def Fn350 (b:Option Addr) (null:Bool) (h:Hp) (K:Int→HP) (Kp:PK):Prop :=
 CallH Tryz.prog I350 [(.pointer b),(.bool null)] h (fun v h'=>∃r0:Int,v=(.int .i64 r0)∧K r0 h') Kp
def Fn351 (b:Option Addr) (n:Int) (h:Hp) (K:Int→HP) (Kp:PK):Prop :=
 CallH Tryz.prog I351 [(.pointer b),(.int .i64 n)] h (fun v h'=>∃r0:Int,v=(.int .i64 r0)∧K r0 h') Kp
def Fn352 (c0 c1 c2:Addr) (h:Hp) (K:HP) (Kp:PK):Prop :=
 CallH Tryz.prog I352 [(.pointer (some c0)),(.pointer (some c1)),(.pointer (some c2))] h (fun v h'=>v=(.tuple #[])∧K  h') Kp
def Fn357 (b:Option Addr) (h:Hp) (K:Sl→HP) (Kp:PK):Prop :=
 CallH Tryz.prog I357 [(.pointer b)] h (fun v h'=>∃r0:Sl,v=(Sl.v r0)∧K r0 h') Kp
def Fn358 (l:Sl) (width:Int) (h:Hp) (K:Sl→HP) (Kp:PK):Prop :=
 CallH Tryz.prog I358 [(Sl.v l),(.int .i64 width)] h (fun v h'=>∃r0:Sl,v=(Sl.v r0)∧K r0 h') Kp
def Fn428 (s:Sl) (h:Hp) (K:Sl→HP) (Kp:PK):Prop :=
 CallH Tryz.prog I428 [(Sl.v s)] h (fun v h'=>∃r0:Sl,v=(Sl.v r0)∧K r0 h') Kp
def Fn390 (kind:Int) (h:Hp) (K:Int→HP) (Kp:PK):Prop :=
 CallH Tryz.prog I390 [(.int .i64 kind)] h (fun v h'=>∃r0:Int,v=(.int .i64 r0)∧K r0 h') Kp
def Fn405 (m:Option Addr) (h:Hp) (K:Int→Int→Int→Sl→Sl→Sl→HP) (Kp:PK):Prop :=
 CallH Tryz.prog I405 [(.pointer m)] h (fun v h'=>∃r0_0:Int,∃r0_1:Int,∃r0_2:Int,∃r0_3:Sl,∃r0_4:Sl,∃r0_5:Sl,v=(.agg #[(.int .i64 r0_0),(.int .i64 r0_1),(.int .i64 r0_2),(Sl.v r0_3),(Sl.v r0_4),(Sl.v r0_5)])∧K r0_0 r0_1 r0_2 r0_3 r0_4 r0_5 h') Kp
def Fn406 (m:Option Addr) (h:Hp) (K:Value→HP) (Kp:PK):Prop :=
 CallH Tryz.prog I406 [(.pointer m)] h (fun v h'=>∃r0:Value,v=r0∧K r0 h') Kp
def Fn407 (m:Option Addr) (v_0:Bool) (v_1:Int) (v_2:ByteArray) (v_3:Sl) (h:Hp) (K:Int→HP) (Kp:PK):Prop :=
 CallH Tryz.prog I407 [(.pointer m),(.agg #[(.bool v_0),(.int .i64 v_1),(.string v_2),(Sl.v v_3)])] h (fun v h'=>∃r0:Int,v=(.int .i64 r0)∧K r0 h') Kp
def Fn408 (m:Option Addr) (h:Hp) (K:Int→HP) (Kp:PK):Prop :=
 CallH Tryz.prog I408 [(.pointer m)] h (fun v h'=>∃r0:Int,v=(.int .i64 r0)∧K r0 h') Kp
def Fn409 (l:Sl) (width:Int) (h:Hp) (K:Sl→HP) (Kp:PK):Prop :=
 CallH Tryz.prog I409 [(Sl.v l),(.int .i64 width)] h (fun v h'=>∃r0:Sl,v=(Sl.v r0)∧K r0 h') Kp
def Fn410 (c0 c1 c2:Addr) (h:Hp) (K:HP) (Kp:PK):Prop :=
 CallH Tryz.prog I410 [(.pointer (some c0)),(.pointer (some c1)),(.pointer (some c2))] h (fun v h'=>v=(.tuple #[])∧K  h') Kp
def Fn188 (a:Option Addr) (r:Int) (left:Option Addr) (h:Hp) (K:Bool→Int→ByteArray→Sl→HP) (Kp:PK):Prop :=
 CallH Tryz.prog I188 [(.agg #[]),(.pointer a),(.int .i64 r),(.pointer left)] h (fun v h'=>∃r0_0:Bool,∃r0_1:Int,∃r0_2:ByteArray,∃r0_3:Sl,v=(.agg #[(.bool r0_0),(.int .i64 r0_1),(.string r0_2),(Sl.v r0_3)])∧K r0_0 r0_1 r0_2 r0_3 h') Kp
def Fn141 (a:Option Addr) (r most:Int) (h:Hp) (K:Int→Int→HP) (Kp:PK):Prop :=
 CallH Tryz.prog I141 [(.pointer a),(.int .i64 r),(.int .i64 most)] h (fun v h'=>∃r0:Int,∃r1:Int,v=(.tuple #[(.int .i64 r0),(.int .i64 r1)])∧K r0 r1 h') Kp
def Fn189 (v_0:Sl) (v_1:Int) (v_2:Option Addr) (atv n:Int) (h:Hp) (K:ByteArray→Int→HP) (Kp:PK):Prop :=
 CallH Tryz.prog I189 [(.agg #[(Sl.v v_0),(.int .i64 v_1),(.pointer v_2)]),(.int .i64 atv),(.int .i64 n)] h (fun v h'=>∃r0:ByteArray,∃r1:Int,v=(.tuple #[(.string r0),(.int .i64 r1)])∧K r0 r1 h') Kp
def Fn113 (v_0:Sl) (v_1:Int) (v_2:Option Addr) (atv width:Int) (h:Hp) (K:Int→Int→HP) (Kp:PK):Prop :=
 CallH Tryz.prog I113 [(.agg #[(Sl.v v_0),(.int .i64 v_1),(.pointer v_2)]),(.int .i64 atv),(.int .i64 width)] h (fun v h'=>∃r0:Int,∃r1:Int,v=(.tuple #[(.int .i64 r0),(.int .i64 r1)])∧K r0 r1 h') Kp
def Fn138 (v_0:Sl) (v_1:Int) (v_2:Option Addr) (atv width:Int) (h:Hp) (K:Int→Int→HP) (Kp:PK):Prop :=
 CallH Tryz.prog I138 [(.agg #[(Sl.v v_0),(.int .i64 v_1),(.pointer v_2)]),(.int .i64 atv),(.int .i64 width)] h (fun v h'=>∃r0:Int,∃r1:Int,v=(.tuple #[(.int .u64 r0),(.int .i64 r1)])∧K r0 r1 h') Kp
def Fn163 (width:Int) (h:Hp) (K:Bool→HP) (Kp:PK):Prop :=
 CallH Tryz.prog I163 [(.int .i64 width)] h (fun v h'=>∃r0:Bool,v=(.bool r0)∧K r0 h') Kp
def Fn164 (b:Sl) (h:Hp) (K:Int→HP) (Kp:PK):Prop :=
 CallH Tryz.prog I164 [(Sl.v b)] h (fun v h'=>∃r0:Int,v=(.int .u64 r0)∧K r0 h') Kp
def Fn190 (a:Option Addr) (r:Int) (left:Option Addr) (h:Hp) (K:Bool→Int→ByteArray→Sl→HP) (Kp:PK):Prop :=
 CallH Tryz.prog I190 [(.agg #[]),(.pointer a),(.int .i64 r),(.pointer left)] h (fun v h'=>∃r0_0:Bool,∃r0_1:Int,∃r0_2:ByteArray,∃r0_3:Sl,v=(.agg #[(.bool r0_0),(.int .i64 r0_1),(.string r0_2),(Sl.v r0_3)])∧K r0_0 r0_1 r0_2 r0_3 h') Kp
def Fn116 (a:Option Addr) (r:Int) (h:Hp) (K:Int→Int→HP) (Kp:PK):Prop :=
 CallH Tryz.prog I116 [(.pointer a),(.int .i64 r)] h (fun v h'=>∃r0:Int,∃r1:Int,v=(.tuple #[(.int .i64 r0),(.int .i64 r1)])∧K r0 r1 h') Kp
def Fn66 (a:Option Addr) (k:Int) (h:Hp) (K:(Option Addr)→HP) (Kp:PK):Prop :=
 CallH Tryz.prog I66 [(.pointer a),(.int .i64 k)] h (fun v h'=>∃r0:Option Addr,v=(.pointer r0)∧K r0 h') Kp
def Fn191 (a:Option Addr) (r:Int) (left:Option Addr) (h:Hp) (K:Bool→Int→ByteArray→Sl→HP) (Kp:PK):Prop :=
 CallH Tryz.prog I191 [(.agg #[]),(.pointer a),(.int .i64 r),(.pointer left)] h (fun v h'=>∃r0_0:Bool,∃r0_1:Int,∃r0_2:ByteArray,∃r0_3:Sl,v=(.agg #[(.bool r0_0),(.int .i64 r0_1),(.string r0_2),(Sl.v r0_3)])∧K r0_0 r0_1 r0_2 r0_3 h') Kp
def Fn192 (a:Option Addr) (r:Int) (left:Option Addr) (h:Hp) (K:Bool→Int→ByteArray→Sl→HP) (Kp:PK):Prop :=
 CallH Tryz.prog I192 [(.agg #[]),(.pointer a),(.int .i64 r),(.pointer left)] h (fun v h'=>∃r0_0:Bool,∃r0_1:Int,∃r0_2:ByteArray,∃r0_3:Sl,v=(.agg #[(.bool r0_0),(.int .i64 r0_1),(.string r0_2),(Sl.v r0_3)])∧K r0_0 r0_1 r0_2 r0_3 h') Kp
def Fn193 (a:Option Addr) (r:Int) (left:Option Addr) (h:Hp) (K:Bool→Int→ByteArray→Sl→HP) (Kp:PK):Prop :=
 CallH Tryz.prog I193 [(.agg #[]),(.pointer a),(.int .i64 r),(.pointer left)] h (fun v h'=>∃r0_0:Bool,∃r0_1:Int,∃r0_2:ByteArray,∃r0_3:Sl,v=(.agg #[(.bool r0_0),(.int .i64 r0_1),(.string r0_2),(Sl.v r0_3)])∧K r0_0 r0_1 r0_2 r0_3 h') Kp
def Fn194 (a:Option Addr) (k r:Int) (h:Hp) (K:Int→HP) (Kp:PK):Prop :=
 CallH Tryz.prog I194 [(.pointer a),(.int .i64 k),(.int .i64 r)] h (fun v h'=>∃r0:Int,v=(.int .i64 r0)∧K r0 h') Kp
def Fn195 (a:Option Addr) (r:Int) (left:Option Addr) (h:Hp) (K:Bool→Int→ByteArray→Sl→HP) (Kp:PK):Prop :=
 CallH Tryz.prog I195 [(.agg #[]),(.pointer a),(.int .i64 r),(.pointer left)] h (fun v h'=>∃r0_0:Bool,∃r0_1:Int,∃r0_2:ByteArray,∃r0_3:Sl,v=(.agg #[(.bool r0_0),(.int .i64 r0_1),(.string r0_2),(Sl.v r0_3)])∧K r0_0 r0_1 r0_2 r0_3 h') Kp
def Fn67 (a:Option Addr) (r:Int) (h:Hp) (K:Int→HP) (Kp:PK):Prop :=
 CallH Tryz.prog I67 [(.pointer a),(.int .i64 r)] h (fun v h'=>∃r0:Int,v=(.int .i64 r0)∧K r0 h') Kp
def Fn196 (a:Option Addr) (r:Int) (left:Option Addr) (h:Hp) (K:Bool→Int→ByteArray→Sl→HP) (Kp:PK):Prop :=
 CallH Tryz.prog I196 [(.agg #[]),(.pointer a),(.int .i64 r),(.pointer left)] h (fun v h'=>∃r0_0:Bool,∃r0_1:Int,∃r0_2:ByteArray,∃r0_3:Sl,v=(.agg #[(.bool r0_0),(.int .i64 r0_1),(.string r0_2),(Sl.v r0_3)])∧K r0_0 r0_1 r0_2 r0_3 h') Kp
end Go.Proofs.YtlbbdbdjiekkaaaGreatDoor
set_option maxRecDepth 100000
set_option maxHeartbeats 200000
/- What the functions do, printed by program (gen.py) in the words of ShCore; each text is held against the loaded program by the kernel. -/
namespace Go.Proofs.YtlbbdbdjiekkaaaGreatDoor
open Go Go.Sh
end Go.Proofs.YtlbbdbdjiekkaaaGreatDoor
set_option maxRecDepth 100000
set_option maxHeartbeats 200000
/- What the functions do, printed by program (gen.py) in the words of ShCore; each text is held against the loaded program by the kernel. -/
namespace Go.Proofs.YtlbbdbdjiekkaaaGreatDoor
open Go Go.Sh
end Go.Proofs.YtlbbdbdjiekkaaaGreatDoor
set_option maxRecDepth 100000
set_option maxHeartbeats 200000
/- What the functions do, printed by program (gen.py) in the words of ShCore; each text is held against the loaded program by the kernel. -/
namespace Go.Proofs.YtlbbdbdjiekkaaaGreatDoor
open Go Go.Sh
end Go.Proofs.YtlbbdbdjiekkaaaGreatDoor
set_option maxRecDepth 100000
set_option maxHeartbeats 200000
/- What the functions do, printed by program (gen.py) in the words of ShCore; each text is held against the loaded program by the kernel. -/
namespace Go.Proofs.YtlbbdbdjiekkaaaGreatDoor
open Go Go.Sh
section
noncomputable def code244:Code:=Tryz.f14.body.getD .skip
def ann244:Ann:=[(2000003,[1,2,3]),(2000004,[1,2,3,6,7]),(44007,[1,2,6,7,34]),(44012,[1,2,6,7,39]),(44018,[1,2,6,7,45]),(44026,[1,2,6,7,53]),(44034,[1,2,6,7,61]),(44038,[1,2,7,65]),(44042,[1,2,69])]
def ord244:OrdT:=[]
def z244:List Value:=[(.bool false)]
def kv244 (K:Bool→HP):Value→HP:=fun v h=>rB v fun r0=>K r0 h
variable (K:Bool→HP) (Kp:PK) 
noncomputable def c244:Cx:=⟨Tryz.prog,ann244,ord244,none,code244,(retQ Tryz.prog Tryz.f14.results.toList z244 (kv244 K)),Kp⟩
def J244_9 (x1 x2:Addr) (x69:Bool):HP:=semR (c244 K Kp) [1,1,1,1,0] [] 4 [42,43,44,45,46,47] ([nO,vP x1,vP x2,nO,nO,nO,nO,nO,nO,nO,nO,nO,nO,nO,nO,nO,nO,nO,nO,nO,nO,nO,nO,nO,nO,nO,nO,nO,nO,nO,nO,nO,nO,nO,nO,nO,nO,nO,nO,nO,nO,nO,nO,nO,nO,nO,nO,nO,nO,nO,nO,nO,nO,nO,nO,nO,nO,nO,nO,nO,nO,nO,nO,nO,nO,nO,nO,nO,nO,some (.bool x69)]++nn 5)
def J244_8 (x1 x2:Addr) (x7:Int) (x65:Bool):HP:=semR (c244 K Kp) [1,1,1,1,0] [] 4 [38,39,40,41,42,43,44,45,46,47] ([nO,vP x1,vP x2,nO,nO,nO,nO,vI x7,nO,nO,nO,nO,nO,nO,nO,nO,nO,nO,nO,nO,nO,nO,nO,nO,nO,nO,nO,nO,nO,nO,nO,nO,nO,nO,nO,nO,nO,nO,nO,nO,nO,nO,nO,nO,nO,nO,nO,nO,nO,nO,nO,nO,nO,nO,nO,nO,nO,nO,nO,nO,nO,nO,nO,nO,nO,some (.bool x65)]++nn 9)
def J244_7 (x1 x2:Addr) (x6 x7:Int) (x61:Bool):HP:=semR (c244 K Kp) [1,1,1,1,0] [] 4 [34,35,36,37,38,39,40,41,42,43,44,45,46,47] ([nO,vP x1,vP x2,nO,nO,nO,vI x6,vI x7,nO,nO,nO,nO,nO,nO,nO,nO,nO,nO,nO,nO,nO,nO,nO,nO,nO,nO,nO,nO,nO,nO,nO,nO,nO,nO,nO,nO,nO,nO,nO,nO,nO,nO,nO,nO,nO,nO,nO,nO,nO,nO,nO,nO,nO,nO,nO,nO,nO,nO,nO,nO,nO,some (.bool x61)]++nn 13)
def J244_6 (x1 x2:Addr) (x6 x7:Int) (x53:Bool):HP:=semR (c244 K Kp) [1,1,1,1,0] [] 4 [26,27,28,29,30,31,32,33,34,35,36,37,38,39,40,41,42,43,44,45,46,47] ([nO,vP x1,vP x2,nO,nO,nO,vI x6,vI x7,nO,nO,nO,nO,nO,nO,nO,nO,nO,nO,nO,nO,nO,nO,nO,nO,nO,nO,nO,nO,nO,nO,nO,nO,nO,nO,nO,nO,nO,nO,nO,nO,nO,nO,nO,nO,nO,nO,nO,nO,nO,nO,nO,nO,nO,some (.bool x53)]++nn 21)
def J244_5 (x1 x2:Addr) (x6 x7:Int) (x45:Bool):HP:=semR (c244 K Kp) [1,1,1,1,0] [] 4 [18,19,20,21,22,23,24,25,26,27,28,29,30,31,32,33,34,35,36,37,38,39,40,41,42,43,44,45,46,47] ([nO,vP x1,vP x2,nO,nO,nO,vI x6,vI x7,nO,nO,nO,nO,nO,nO,nO,nO,nO,nO,nO,nO,nO,nO,nO,nO,nO,nO,nO,nO,nO,nO,nO,nO,nO,nO,nO,nO,nO,nO,nO,nO,nO,nO,nO,nO,nO,some (.bool x45)]++nn 29)
def J244_4 (x1 x2:Addr) (x6 x7:Int) (x39:Bool):HP:=semR (c244 K Kp) [1,1,1,1,0] [] 4 [12,13,14,15,16,17,18,19,20,21,22,23,24,25,26,27,28,29,30,31,32,33,34,35,36,37,38,39,40,41,42,43,44,45,46,47] ([nO,vP x1,vP x2,nO,nO,nO,vI x6,vI x7,nO,nO,nO,nO,nO,nO,nO,nO,nO,nO,nO,nO,nO,nO,nO,nO,nO,nO,nO,nO,nO,nO,nO,nO,nO,nO,nO,nO,nO,nO,nO,some (.bool x39)]++nn 35)
def J244_3 (x1 x2:Addr) (x6 x7:Int) (x34:Bool):HP:=semR (c244 K Kp) [1,1,1,1,0] [] 4 [7,8,9,10,11,12,13,14,15,16,17,18,19,20,21,22,23,24,25,26,27,28,29,30,31,32,33,34,35,36,37,38,39,40,41,42,43,44,45,46,47] ([nO,vP x1,vP x2,nO,nO,nO,vI x6,vI x7,nO,nO,nO,nO,nO,nO,nO,nO,nO,nO,nO,nO,nO,nO,nO,nO,nO,nO,nO,nO,nO,nO,nO,nO,nO,nO,some (.bool x34)]++nn 40)
def J244_2 (x1 x2:Addr) (x3 x6 x7:Int):HP:=semJ (c244 K Kp) [1,1,1,1] [] ([nO,vP x1,vP x2,vI x3,nO,nO,vI x6,vI x7]++nn 67)
def J244_1 (x1 x2:Addr) (x3:Int):HP:=semJ (c244 K Kp) [1,1,1] [] ([nO,vP x1,vP x2,vI x3]++nn 71)
variable {K Kp} {x1 x2:Addr} {x69 x65 x61 x53 x45 x39 x34:Bool} {x7 x6 x3:Int} {h:Hp}
theorem J244_9.of (H :
 If x69 (
 LY29 h x1 fun t71_0 t71_1 t71_2 t71_3 t71_4 t71_5 t71_6 =>
 LY33 h x2 fun t72_0 t72_1 t72_2 t72_3 t72_4 t72_5 =>
 Fn249 t71_0 t71_1 t71_2 t71_3 t71_4 t71_5 t71_6 t72_0 t72_1 t72_2 t72_3 t72_4 t72_5 h (fun t73 h1 =>
 K t73 h1) Kp) (
 K false h)) :
 J244_9 K Kp x1 x2 x69 h:=jof H (by kernel_rfl)
theorem J244_8.of (H :
 If x65 (
 J244_9 K Kp x1 x2 (x7 == 1) h) (
 J244_9 K Kp x1 x2 false h)) :
 J244_8 K Kp x1 x2 x7 x65 h:=jof H (by kernel_rfl)
theorem J244_7.of (H :
 If x61 (
 J244_8 K Kp x1 x2 x7 (x6 == 7) h) (
 J244_8 K Kp x1 x2 x7 false h)) :
 J244_7 K Kp x1 x2 x6 x7 x61 h:=jof H (by kernel_rfl)
theorem J244_6.of (H :
 If x53 (
 Ld h (x2.add 3) Sl.v fun t56 =>
 Ix t56.a t56.n 1 1 fun a57 =>
 Ld h a57 Sl.v fun t58 =>
 Bts h t58 fun t59 =>
 J244_7 K Kp x1 x2 x6 x7 (t59.toList == (bs [254,255,0,0]).toList) h) (
 J244_7 K Kp x1 x2 x6 x7 false h)) :
 J244_6 K Kp x1 x2 x6 x7 x53 h:=jof H (by kernel_rfl)
theorem J244_5.of (H :
 If x45 (
 Ld h (x2.add 3) Sl.v fun t48 =>
 Ix t48.a t48.n 1 0 fun a49 =>
 Ld h a49 Sl.v fun t50 =>
 Bts h t50 fun t51 =>
 J244_6 K Kp x1 x2 x6 x7 (t51.toList == (bs [1]).toList) h) (
 J244_6 K Kp x1 x2 x6 x7 false h)) :
 J244_5 K Kp x1 x2 x6 x7 x45 h:=jof H (by kernel_rfl)
theorem J244_4.of (H :
 If x39 (
 Ld h (x2.add 3) Sl.v fun t42 =>
 J244_5 K Kp x1 x2 x6 x7 ((t42.n:Int) == 2) h) (
 J244_5 K Kp x1 x2 x6 x7 false h)) :
 J244_4 K Kp x1 x2 x6 x7 x39 h:=jof H (by kernel_rfl)
theorem J244_3.of (H :
 If x34 (
 Ld h (x2.add 2) mI fun t37 =>
 J244_4 K Kp x1 x2 x6 x7 (t37 == 1) h) (
 J244_4 K Kp x1 x2 x6 x7 false h)) :
 J244_3 K Kp x1 x2 x6 x7 x34 h:=jof H (by kernel_rfl)
theorem J244_2.of (H :
 If (x3 == 0) (
 Ld h x2 mI fun t32 =>
 J244_3 K Kp x1 x2 x6 x7 (t32 == 2) h) (
 J244_3 K Kp x1 x2 x6 x7 false h)) :
 J244_2 K Kp x1 x2 x3 x6 x7 h:=jof H (by kernel_rfl)
theorem J244_1.of (H :
 LY29 h x1 fun t20_0 t20_1 t20_2 t20_3 t20_4 t20_5 t20_6 =>
 New h #[(.bool false),(.int .i64 1),(.string (bs [])),(.slice none 0 0),(.bool false),(.int .i64 40000),(.string (bs [])),(.slice none 0 0)] Y66 fun a23 h1 =>
 Fn245 t20_0 t20_1 t20_2 t20_3 t20_4 t20_5 t20_6 (⟨some a23,2,2⟩:Sl) h1 (fun t24_0_0 t24_0_1 t24_0_2 t24_0_3 t24_0_4 t24_0_5 t24_1 t24_2 h2 =>
 New h2 zY33 Y33 fun a5 h3 =>
 SY33 h3 a5 t24_0_0 t24_0_1 t24_0_2 t24_0_3 t24_0_4 t24_0_5 fun h4 =>
 J244_2 K Kp x1 x2 x3 t24_1 t24_2 h4) Kp) :
 J244_1 K Kp x1 x2 x3 h:=jof H (by kernel_rfl)
theorem Fn244.of (H :
 New h zY29 Y29 fun a1 h1 =>
 SY29 h1 a1 (bs [97]) true 4 0 0 0 (⟨none,0,0⟩:Sl) fun h2 =>
 LY29 h2 a1 fun t11_0 t11_1 t11_2 t11_3 t11_4 t11_5 t11_6 =>
 New h2 #[(.bool false),(.int .i64 (-2)),(.string (bs [])),(.slice none 0 0),(.bool true),(.int .i64 0),(.string (bs [])),(.slice none 0 0)] Y66 fun a14 h3 =>
 Fn245 t11_0 t11_1 t11_2 t11_3 t11_4 t11_5 t11_6 (⟨some a14,2,2⟩:Sl) h3 (fun t15_0_0 t15_0_1 t15_0_2 t15_0_3 t15_0_4 t15_0_5 t15_1 t15_2 h4 =>
 New h4 zY33 Y33 fun a2 h5 =>
 SY33 h5 a2 t15_0_0 t15_0_1 t15_0_2 t15_0_3 t15_0_4 t15_0_5 fun h6 =>
 J244_1 K Kp a1 a2 t15_1 h6) Kp) :
 Fn244  h K Kp:=fnof (ann:=ann244) (o:=ord244) (zs:=z244) (Kv:=kv244 K) Tryz.func14 (by kernel_rfl) H (by kernel_rfl) (by kernel_rfl)
end
section
noncomputable def code245:Code:=Tryz.f15.body.getD .skip
def ann245:Ann:=[(2000011,[4,7]),(2005,[4,7,23,24,25])]
def ord245:OrdT:=[]
def z245:List Value:=[(.agg #[(.int .i64 0),(.int .i64 0),(.int .i64 0),(.slice none 0 0),(.slice none 0 0),(.slice none 0 0)]),(.int .i64 0),(.int .i64 0)]
def kv245 (K:Int→Int→Int→Sl→Sl→Sl→Int→Int→HP):Value→HP:=fun v h=>rU v fun vs=>rG (vs.getD 0 undef) fun cs0=>rI (cs0.getD 0 undef) fun r0_0=>rI (cs0.getD 1 undef) fun r0_1=>rI (cs0.getD 2 undef) fun r0_2=>rS (cs0.getD 3 undef) fun r0_3=>rS (cs0.getD 4 undef) fun r0_4=>rS (cs0.getD 5 undef) fun r0_5=>rI (vs.getD 1 undef) fun r1=>rI (vs.getD 2 undef) fun r2=>K r0_0 r0_1 r0_2 r0_3 r0_4 r0_5 r1 r2 h
variable (K:Int→Int→Int→Sl→Sl→Sl→Int→Int→HP) (Kp:PK) 
noncomputable def c245:Cx:=⟨Tryz.prog,ann245,ord245,none,code245,(retQ Tryz.prog Tryz.f15.results.toList z245 (kv245 K)),Kp⟩
def J245_1 (x4:Addr) (x7:Option Addr):HP:=semJ (c245 K Kp) [1,1,1,1] [] ([nO,nO,nO,nO,vP x4,nO,nO,some (.pointer x7)]++nn 37)
abbrev mk245_2 (x4:Addr) (x7:Option Addr) (x23:Sl) (x24 x25:Int):Fr:=([nO,nO,nO,nO,vP x4,nO,nO,some (.pointer x7),nO,nO,nO,nO,nO,nO,nO,nO,nO,nO,nO,nO,nO,nO,nO,vS x23,vI x24,vI x25]++nn 19)
def L245_2 (x4:Addr) (x7:Option Addr) (x23:Sl) (x24 x25:Int):HP:=semL (c245 K Kp) 2005 [1,1,1,0,1,0] [] (mk245_2 x4 x7 x23 x24 x25)
variable {K Kp} {x4:Addr} {x7:Option Addr} {x23:Sl} {x24:Int} {h:Hp}
theorem J245_1.of (H :
 Fn263 x7 h (fun t41_0_0 t41_0_1 t41_0_2 t41_0_3 t41_0_4 t41_0_5 t41_1 h1 =>
 New h1 zY33 Y33 fun a12 h2 =>
 SY33 h2 a12 t41_0_0 t41_0_1 t41_0_2 t41_0_3 t41_0_4 t41_0_5 fun h3 =>
 LY33 h3 a12 fun t44_0 t44_1 t44_2 t44_3 t44_4 t44_5 =>
 SY33 h3 x4 t44_0 t44_1 t44_2 t44_3 t44_4 t44_5 fun h4 =>
 LY33 h4 x4 fun r0_0 r0_1 r0_2 r0_3 r0_4 r0_5 =>
 K r0_0 r0_1 r0_2 r0_3 r0_4 r0_5 0 0 h4) Kp) :
 J245_1 K Kp x4 x7 h:=jof H (by kernel_rfl)
theorem L245_2.rule:LR1 (L245_2 K Kp x4 x7 x23 x24) (mk245_2 x4 x7 x23 x24) fun N1 (x25:Int) h =>
 (If (decide (x25 < x24)) (
 Ix x23.a x23.n 4 x25 fun a28 =>
 LY66 h a28 fun t29_0 t29_1 t29_2 t29_3 =>
 New h zY66 Y66 fun a10 h1 =>
 SY66 h1 a10 t29_0 t29_1 t29_2 t29_3 fun h2 =>
 LY66 h2 a10 fun t31_0 t31_1 t31_2 t31_3 =>
 Fn261 x7 t31_0 t31_1 t31_2 t31_3 h2 (fun t32 h3 =>
 If (t32 != 0) (
 SY33 h3 x4 0 0 0 (⟨none,0,0⟩:Sl) (⟨none,0,0⟩:Sl) (⟨none,0,0⟩:Sl) fun h4 =>
 LY33 h4 x4 fun r0_0 r0_1 r0_2 r0_3 r0_4 r0_5 =>
 K r0_0 r0_1 r0_2 r0_3 r0_4 r0_5 t32 x25 h4) (
 Wr .i64 (x25+1) fun t38 =>
 N1 (mk245_2 x4 x7 x23 x24 t38) h3)) Kp) (
 J245_1 K Kp x4 x7 h)) :=
 loop1 (fun _ _=>rfl) fun _ _ _=>by kernel_rfl
theorem Fn245.of {f_0:ByteArray} {f_1:Bool} {f_2 f_3 f_4 f_5:Int} {f_6 l:Sl} (H :
 NY29 h f_0 f_1 f_2 f_3 f_4 f_5 f_6 fun a2 h1 =>
 New h1 zY33 Y33 fun a4 h2 =>
 LY29 h2 a2 fun t15_0 t15_1 t15_2 t15_3 t15_4 t15_5 t15_6 =>
 Fn259 t15_0 t15_1 t15_2 t15_3 t15_4 t15_5 t15_6 h2 (fun t16_0 t16_1 h3 =>
 If (t16_1 != 0) (
 SY33 h3 a4 0 0 0 (⟨none,0,0⟩:Sl) (⟨none,0,0⟩:Sl) (⟨none,0,0⟩:Sl) fun h4 =>
 LY33 h4 a4 fun r0_0 r0_1 r0_2 r0_3 r0_4 r0_5 =>
 K r0_0 r0_1 r0_2 r0_3 r0_4 r0_5 t16_1 0 h4) (
 L245_2 K Kp a4 t16_0 l (l.n:Int) 0 h3)) Kp) :
 Fn245 f_0 f_1 f_2 f_3 f_4 f_5 f_6 l h K Kp:=fnof (ann:=ann245) (o:=ord245) (zs:=z245) (Kv:=kv245 K) Tryz.func15 (by kernel_rfl) H (by kernel_rfl) (by kernel_rfl)
end
section
noncomputable def code12:Code:=Tryz.f17.body.getD .skip
def ann12:Ann:=[(2000004,[2,3,5])]
def ord12:OrdT:=[(4,(OT.l [0,2,5,1,3,4,6,7] .fin),[0,1,0,7,15,0,31,127]),(3,(OT.l [0,1,2] .fin),[0,0,3])]
def z12:List Value:=[(.pointer none),(.agg #[(.int .i64 0),(.slice none 0 0),(.int .i64 0)])]
def kv12 (K:(Option Addr)→Int→Sl→Int→HP):Value→HP:=fun v h=>rU v fun vs=>rP (vs.getD 0 undef) fun r0=>rG (vs.getD 1 undef) fun cs1=>rI (cs1.getD 0 undef) fun r1_0=>rS (cs1.getD 1 undef) fun r1_1=>rI (cs1.getD 2 undef) fun r1_2=>K r0 r1_0 r1_1 r1_2 h
variable (K:(Option Addr)→Int→Sl→Int→HP) (Kp:PK) 
noncomputable def c12:Cx:=⟨Tryz.prog,ann12,ord12,none,code12,(retQ Tryz.prog Tryz.f17.results.toList z12 (kv12 K)),Kp⟩
def J12_1 (x2 x3 x5:Addr):HP:=semJ (c12 K Kp) [1,1] [] ([nO,nO,vP x2,vP x3,nO,vP x5]++nn 14)
variable {K Kp} {x2 x3 x5:Addr} {h:Hp}
theorem J12_1.of (H :
 LY29 h x2 fun t14_0 t14_1 t14_2 t14_3 t14_4 t14_5 t14_6 =>
 LY33 h x3 fun t16_0 t16_1 t16_2 t16_3 t16_4 t16_5 =>
 Fn51 t14_0 t14_1 t14_2 t14_3 t14_4 t14_5 t14_6 h (fun t15_0 t15_1 t15_2 t15_3 t15_4 t15_5 t15_6 h1 =>
 Keep h h1 x3 6 <|
 Fn52 t16_0 t16_1 t16_2 t16_3 t16_4 t16_5 h1 (fun t17_0 t17_1 t17_2 t17_3 t17_4 t17_5 h2 =>
 Fn50 t15_0 t15_1 t15_2 t15_3 t15_4 t15_5 t15_6 t17_0 t17_1 t17_2 t17_3 t17_4 t17_5 none h2 (fun t18 h3 =>
 SY37 h3 x5 0 (⟨none,0,0⟩:Sl) 0 fun h4 =>
 LY37 h4 x5 fun r1_0 r1_1 r1_2 =>
 K t18 r1_0 r1_1 r1_2 h4) Kp) Kp) Kp) :
 J12_1 K Kp x2 x3 x5 h:=jof H (by kernel_rfl)
theorem Fn12.of {f_0:ByteArray} {f_1:Bool} {f_2 f_3 f_4 f_5:Int} {f_6:Sl} {d_0 d_1 d_2:Int} {d_3 d_4 d_5:Sl} (H :
 NY29 h f_0 f_1 f_2 f_3 f_4 f_5 f_6 fun a2 h1 =>
 NY33 h1 d_0 d_1 d_2 d_3 d_4 d_5 fun a3 h2 =>
 New h2 zY37 Y37 fun a5 h3 =>
 LY29 h3 a2 fun t7_0 t7_1 t7_2 t7_3 t7_4 t7_5 t7_6 =>
 LY33 h3 a3 fun t8_0 t8_1 t8_2 t8_3 t8_4 t8_5 =>
 Fn49 t7_0 t7_1 t7_2 t7_3 t7_4 t7_5 t7_6 t8_0 t8_1 t8_2 t8_3 t8_4 t8_5 h3 (fun t9_0 t9_1 t9_2 h4 =>
 New h4 zY37 Y37 fun a6 h5 =>
 SY37 h5 a6 t9_0 t9_1 t9_2 fun h6 =>
 Ld h6 a6 mI fun t11 =>
 If (t11 != 0) (
 LY37 h6 a6 fun t13_0 t13_1 t13_2 =>
 SY37 h6 a5 t13_0 t13_1 t13_2 fun h7 =>
 LY37 h7 a5 fun r1_0 r1_1 r1_2 =>
 K none r1_0 r1_1 r1_2 h7) (
 J12_1 K Kp a2 a3 a5 h6)) Kp) :
 Fn12 f_0 f_1 f_2 f_3 f_4 f_5 f_6 d_0 d_1 d_2 d_3 d_4 d_5 h K Kp:=fnof (ann:=ann12) (o:=ord12) (zs:=z12) (Kv:=kv12 K) Tryz.func17 (by kernel_rfl) H (by kernel_rfl) (by kernel_rfl)
end
section
def ann247:Ann:=[]
def ord247:OrdT:=[(5,(OT.l [0,1,2,3,4] .fin),[0,0,2,1,15]),(6,(OT.l [0,1] (.alt (OT.l [2] (.alt (OT.l [3,4,5,6,7,8,9,10,11] .fin) (OT.l [8,3,4,5,6,7,9,10,11] .fin))) (OT.l [8,2,3,4,5,6,7,9,10,11] .fin))),[0,0,2,7,15,31,31,31,0,319,895,2047])]
def z247:List Value:=[(.agg #[(.int .i64 0),(.int .i64 0),(.int .i64 0),(.slice none 0 0),(.slice none 0 0),(.slice none 0 0)]),(.int .i64 0)]
def kv247 (K:Int→Int→Int→Sl→Sl→Sl→Int→HP):Value→HP:=fun v h=>rU v fun vs=>rG (vs.getD 0 undef) fun cs0=>rI (cs0.getD 0 undef) fun r0_0=>rI (cs0.getD 1 undef) fun r0_1=>rI (cs0.getD 2 undef) fun r0_2=>rS (cs0.getD 3 undef) fun r0_3=>rS (cs0.getD 4 undef) fun r0_4=>rS (cs0.getD 5 undef) fun r0_5=>rI (vs.getD 1 undef) fun r1=>K r0_0 r0_1 r0_2 r0_3 r0_4 r0_5 r1 h
variable (K:Int→Int→Int→Sl→Sl→Sl→Int→HP) (Kp:PK) 
variable {K Kp} {h:Hp}
theorem Fn247.of {f_0:ByteArray} {f_1:Bool} {f_2 f_3 f_4 f_5:Int} {f_6:Sl} {d_0 d_1 d_2:Int} {d_3 d_4 d_5:Sl} (H :
 NY29 h f_0 f_1 f_2 f_3 f_4 f_5 f_6 fun a2 h1 =>
 NY33 h1 d_0 d_1 d_2 d_3 d_4 d_5 fun a3 h2 =>
 New h2 zY33 Y33 fun a4 h3 =>
 LY29 h3 a2 fun t11_0 t11_1 t11_2 t11_3 t11_4 t11_5 t11_6 =>
 Fn275 t11_0 t11_1 t11_2 t11_3 t11_4 t11_5 t11_6 h3 (fun t12 h4 =>
 If (!t12) (
 SY33 h4 a4 0 0 0 (⟨none,0,0⟩:Sl) (⟨none,0,0⟩:Sl) (⟨none,0,0⟩:Sl) fun h5 =>
 LY33 h5 a4 fun r0_0 r0_1 r0_2 r0_3 r0_4 r0_5 =>
 K r0_0 r0_1 r0_2 r0_3 r0_4 r0_5 5 h5) (
 LY29 h4 a2 fun t16_0 t16_1 t16_2 t16_3 t16_4 t16_5 t16_6 =>
 LY33 h4 a3 fun t17_0 t17_1 t17_2 t17_3 t17_4 t17_5 =>
 Fn12 t16_0 t16_1 t16_2 t16_3 t16_4 t16_5 t16_6 t17_0 t17_1 t17_2 t17_3 t17_4 t17_5 h4 (fun t18_0 t18_1_0 t18_1_1 t18_1_2 h5 =>
 New h5 zY37 Y37 fun a7 h6 =>
 SY37 h6 a7 t18_1_0 t18_1_1 t18_1_2 fun h7 =>
 Ld h7 a7 mI fun t22 =>
 If (t22 != 0) (
 Ld h7 a7 mI fun t26 =>
 SY33 h7 a4 0 0 0 (⟨none,0,0⟩:Sl) (⟨none,0,0⟩:Sl) (⟨none,0,0⟩:Sl) fun h8 =>
 Keep h7 h8 a7 1 <|
 LY33 h8 a4 fun r0_0 r0_1 r0_2 r0_3 r0_4 r0_5 =>
 K r0_0 r0_1 r0_2 r0_3 r0_4 r0_5 t26 h8) (
 LY29 h7 a2 fun t28_0 t28_1 t28_2 t28_3 t28_4 t28_5 t28_6 =>
 (
 Fn18 t18_0 h7 (fun t30 h8 =>
 Keep h7 h8 a2 7 <|
 (
 Fn245 t28_0 t28_1 t28_2 t28_3 t28_4 t28_5 t28_6 t30 h8 (fun t31_0_0 t31_0_1 t31_0_2 t31_0_3 t31_0_4 t31_0_5 t31_1 t31_2 h9 =>
 New h9 zY33 Y33 fun a8 h10 =>
 Keep h9 h10 a2 7 <|
 SY33 h10 a8 t31_0_0 t31_0_1 t31_0_2 t31_0_3 t31_0_4 t31_0_5 fun h11 =>
 LY33 h11 a8 fun t35_0 t35_1 t35_2 t35_3 t35_4 t35_5 =>
 SY33 h11 a4 t35_0 t35_1 t35_2 t35_3 t35_4 t35_5 fun h12 =>
 LY33 h12 a4 fun r0_0 r0_1 r0_2 r0_3 r0_4 r0_5 =>
 K r0_0 r0_1 r0_2 r0_3 r0_4 r0_5 t31_1 h12) Kp)∧(
 New h8 zY33 Y33 fun a8 h9 =>
 Keep h8 h9 a2 7 <|
 Fn245 t28_0 t28_1 t28_2 t28_3 t28_4 t28_5 t28_6 t30 h9 (fun t31_0_0 t31_0_1 t31_0_2 t31_0_3 t31_0_4 t31_0_5 t31_1 t31_2 h10 =>
 SY33 h10 a8 t31_0_0 t31_0_1 t31_0_2 t31_0_3 t31_0_4 t31_0_5 fun h11 =>
 LY33 h11 a8 fun t35_0 t35_1 t35_2 t35_3 t35_4 t35_5 =>
 SY33 h11 a4 t35_0 t35_1 t35_2 t35_3 t35_4 t35_5 fun h12 =>
 LY33 h12 a4 fun r0_0 r0_1 r0_2 r0_3 r0_4 r0_5 =>
 K r0_0 r0_1 r0_2 r0_3 r0_4 r0_5 t31_1 h12) Kp)) Kp)∧(
 New h7 zY33 Y33 fun a8 h8 =>
 Keep h7 h8 a2 7 <|
 Fn18 t18_0 h8 (fun t30 h9 =>
 Keep h8 h9 a2 7 <|
 Fn245 t28_0 t28_1 t28_2 t28_3 t28_4 t28_5 t28_6 t30 h9 (fun t31_0_0 t31_0_1 t31_0_2 t31_0_3 t31_0_4 t31_0_5 t31_1 t31_2 h10 =>
 SY33 h10 a8 t31_0_0 t31_0_1 t31_0_2 t31_0_3 t31_0_4 t31_0_5 fun h11 =>
 LY33 h11 a8 fun t35_0 t35_1 t35_2 t35_3 t35_4 t35_5 =>
 SY33 h11 a4 t35_0 t35_1 t35_2 t35_3 t35_4 t35_5 fun h12 =>
 LY33 h12 a4 fun r0_0 r0_1 r0_2 r0_3 r0_4 r0_5 =>
 K r0_0 r0_1 r0_2 r0_3 r0_4 r0_5 t31_1 h12) Kp) Kp))) Kp)) Kp) :
 Fn247 f_0 f_1 f_2 f_3 f_4 f_5 f_6 d_0 d_1 d_2 d_3 d_4 d_5 h K Kp:=fnof (ann:=ann247) (o:=ord247) (zs:=z247) (Kv:=kv247 K) Tryz.func18 (by kernel_rfl) H (by kernel_rfl) (by kernel_rfl)
end
section
noncomputable def code18:Code:=Tryz.f20.body.getD .skip
def ann18:Ann:=[(4003,[2,3,7])]
def ord18:OrdT:=[(4,(OT.l [0,1,2,3,4,5] (.alt (OT.l [6,7] .fin) (OT.l [7,6] .fin))),[0,0,1,0,15,31,63,31])]
def z18:List Value:=[(.slice none 0 0)]
def kv18 (K:Sl→HP):Value→HP:=fun v h=>rS v fun r0=>K r0 h
variable (K:Sl→HP) (Kp:PK) (lb:Nat) (NB:HP) (XB:Code→HP) 
noncomputable def c18:Cx:=⟨Tryz.prog,ann18,ord18,none,code18,(retQ Tryz.prog Tryz.f20.results.toList z18 (kv18 K)),Kp⟩
def R18_1 (x2:Sl) (x3:Addr) (x7:Value):HP:=semJ0 (c18 K Kp) [1,1,0,1,0] [] ([nO,nO,vS x2,vP x3,nO,nO,nO,some x7]++nn 9)
variable {K Kp lb NB XB} {x2:Sl} {x3:Addr} {x7:Value} {h:Hp}
def RT18_1 (lb:Nat) (NB:HP) (XB:Code→HP) (x2:Sl) (x3:Addr) (x7:Value) (y8:Int) (y9_0:Bool) (y9_1:Int) (y9_2:ByteArray) (y9_3:Sl) (h:Hp):Prop :=
 New h zY66 Y66 fun a5 h1 =>
 SY66 h1 a5 y9_0 y9_1 y9_2 y9_3 fun h2 =>
 Busy lb h h2 fun h3 =>
 Ld h3 x3 Sl.v fun t10 =>
 LY66 h3 a5 fun t11_0 t11_1 t11_2 t11_3 =>
 New h3 #[(.bool false),(.int .i64 0),(.string (bs [])),(.slice none 0 0)] Y66 fun a13 h4 =>
 Keep h3 h4 a5 4 <|
 Keep h3 h4 x3 1 <|
 Ap h4 Y66 zY66 4 56 t10 1 (rd h4 (some a13) (1*4)) fun t14 h5 =>
 Ix t14.a t14.n 4 (t10.n:Int) fun a15 =>
 (
 SY66 h5 a15 t11_0 t11_1 t11_2 t11_3 fun h6 =>
 St h6 x3 (Sl.v t14) fun h7 =>
 NB h7)∧(
 St h5 x3 (Sl.v t14) fun h6 =>
 SY66 h6 a15 t11_0 t11_1 t11_2 t11_3 fun h7 =>
 NB h7)
def RD18_1 (K:Sl→HP) (Kp:PK) (x2:Sl) (x3:Addr) (x7:Value) (h:Hp):Prop :=
 Ld h x3 Sl.v fun t16 =>
 K t16 h
theorem Fn18.of {a:Option Addr} (H :
 New h #[(.slice none 0 0)] Y52 fun a3 h1 =>
 Fn55 a h1 (fun t7 h2 =>
 R18_1 K Kp (⟨none,0,0⟩:Sl) a3 t7 h2) Kp) :
 Fn18 a h K Kp:=fnof (ann:=ann18) (o:=ord18) (zs:=z18) (Kv:=kv18 K) Tryz.func20 (by kernel_rfl) H (by kernel_rfl) (by kernel_rfl)
end
end Go.Proofs.YtlbbdbdjiekkaaaGreatDoor
set_option maxRecDepth 100000
set_option maxHeartbeats 200000
/- What the functions do, printed by program (gen.py) in the words of ShCore; each text is held against the loaded program by the kernel. -/
namespace Go.Proofs.YtlbbdbdjiekkaaaGreatDoor
open Go Go.Sh
section
def ann249:Ann:=[]
def ord249:OrdT:=[]
def z249:List Value:=[(.bool false)]
def kv249 (K:Bool→HP):Value→HP:=fun v h=>rB v fun r0=>K r0 h
variable (K:Bool→HP) (Kp:PK) 
variable {K Kp} {h:Hp}
theorem Fn249.of {f_0:ByteArray} {f_1:Bool} {f_2 f_3 f_4 f_5:Int} {f_6:Sl} {d_0 d_1 d_2:Int} {d_3 d_4 d_5:Sl} (H :
 NY29 h f_0 f_1 f_2 f_3 f_4 f_5 f_6 fun a2 h1 =>
 NY33 h1 d_0 d_1 d_2 d_3 d_4 d_5 fun a3 h2 =>
 LY29 h2 a2 fun t8_0 t8_1 t8_2 t8_3 t8_4 t8_5 t8_6 =>
 LY33 h2 a3 fun t9_0 t9_1 t9_2 t9_3 t9_4 t9_5 =>
 Fn247 t8_0 t8_1 t8_2 t8_3 t8_4 t8_5 t8_6 t9_0 t9_1 t9_2 t9_3 t9_4 t9_5 h2 (fun t10_0_0 t10_0_1 t10_0_2 t10_0_3 t10_0_4 t10_0_5 t10_1 h3 =>
 New h3 zY33 Y33 fun a5 h4 =>
 SY33 h4 a5 t10_0_0 t10_0_1 t10_0_2 t10_0_3 t10_0_4 t10_0_5 fun h5 =>
 If (t10_1 == 0) (
 LY33 h5 a5 fun t16_0 t16_1 t16_2 t16_3 t16_4 t16_5 =>
 LY33 h5 a3 fun t17_0 t17_1 t17_2 t17_3 t17_4 t17_5 =>
 Fn276 t16_0 t16_1 t16_2 t16_3 t16_4 t16_5 t17_0 t17_1 t17_2 t17_3 t17_4 t17_5 h5 (fun t18 h6 =>
 K t18 h6) Kp) (
 K false h5)) Kp) :
 Fn249 f_0 f_1 f_2 f_3 f_4 f_5 f_6 d_0 d_1 d_2 d_3 d_4 d_5 h K Kp:=fnof (ann:=ann249) (o:=ord249) (zs:=z249) (Kv:=kv249 K) Tryz.func21 (by kernel_rfl) H (by kernel_rfl) (by kernel_rfl)
end
section
noncomputable def code6:Code:=Tryz.f23.body.getD .skip
def ann6:Ann:=[]
def ord6:OrdT:=[]
def z6:List Value:=[(.agg #[(.int .i64 0),(.slice none 0 0),(.int .i64 0)])]
def kv6 (K:Int→Sl→Int→HP):Value→HP:=fun v h=>rG v fun cs0=>rI (cs0.getD 0 undef) fun r0_0=>rS (cs0.getD 1 undef) fun r0_1=>rI (cs0.getD 2 undef) fun r0_2=>K r0_0 r0_1 r0_2 h
variable (K:Int→Sl→Int→HP) (Kp:PK) 
noncomputable def c6:Cx:=⟨Tryz.prog,ann6,ord6,none,code6,(retQ Tryz.prog Tryz.f23.results.toList z6 (kv6 K)),Kp⟩
variable {K Kp} {h:Hp}
end
end Go.Proofs.YtlbbdbdjiekkaaaGreatDoor
set_option maxRecDepth 100000
set_option maxHeartbeats 200000
/- What the functions do, printed by program (gen.py) in the words of ShCore; each text is held against the loaded program by the kernel. -/
namespace Go.Proofs.YtlbbdbdjiekkaaaGreatDoor
open Go Go.Sh
section
def ann259:Ann:=[]
def ord259:OrdT:=[(4,(OT.l [0,1,2,3,4,5,6] .fin),[0,0,2,7,15,31,63])]
def z259:List Value:=[(.pointer none),(.int .i64 0)]
def kv259 (K:(Option Addr)→Int→HP):Value→HP:=fun v h=>rU v fun vs=>rP (vs.getD 0 undef) fun r0=>rI (vs.getD 1 undef) fun r1=>K r0 r1 h
variable (K:(Option Addr)→Int→HP) (Kp:PK) 
variable {K Kp} {h:Hp}
theorem Fn259.of {f_0:ByteArray} {f_1:Bool} {f_2 f_3 f_4 f_5:Int} {f_6:Sl} (H :
 NY29 h f_0 f_1 f_2 f_3 f_4 f_5 f_6 fun a1 h1 =>
 LY29 h1 a1 fun t5_0 t5_1 t5_2 t5_3 t5_4 t5_5 t5_6 =>
 Fn275 t5_0 t5_1 t5_2 t5_3 t5_4 t5_5 t5_6 h1 (fun t6 h2 =>
 If (!t6) (
 K none 5 h2) (
 LY29 h2 a1 fun t8_0 t8_1 t8_2 t8_3 t8_4 t8_5 t8_6 =>
 Fn286 t8_0 t8_1 t8_2 t8_3 t8_4 t8_5 t8_6 h2 (fun t9_0 t9_1 t9_2 t9_3 t9_4 t9_5 t9_6 h3 =>
 New h3 zY29 Y29 fun a4 h4 =>
 SY29 h4 a4 t9_0 t9_1 t9_2 t9_3 t9_4 t9_5 t9_6 fun h5 =>
 LY29 h5 a4 fun t10_0 t10_1 t10_2 t10_3 t10_4 t10_5 t10_6 =>
 LY29 h5 a4 fun t11_0 t11_1 t11_2 t11_3 t11_4 t11_5 t11_6 =>
 Fn287 t11_0 t11_1 t11_2 t11_3 t11_4 t11_5 t11_6 h5 (fun t12 h6 =>
 Keep h5 h6 a4 7 <|
 NA t12 <|
 NY336 h6 t10_0 t10_1 t10_2 t10_3 t10_4 t10_5 t10_6 t12 false fun a14 h7 =>
 K (some a14) 0 h7) Kp) Kp)) Kp) :
 Fn259 f_0 f_1 f_2 f_3 f_4 f_5 f_6 h K Kp:=fnof (ann:=ann259) (o:=ord259) (zs:=z259) (Kv:=kv259 K) Tryz.func34 (by kernel_rfl) H (by kernel_rfl) (by kernel_rfl)
end
section
def ann261:Ann:=[]
def ord261:OrdT:=[(3,(OT.l [0,1,2,3,4,5,6] .fin),[0,1,3,7,0,31,63])]
def z261:List Value:=[(.int .i64 0)]
def kv261 (K:Int→HP):Value→HP:=fun v h=>rI v fun r0=>K r0 h
variable (K:Int→HP) (Kp:PK) 
variable {K Kp} {h:Hp}
theorem Fn261.of {b:Option Addr} {v_0:Bool} {v_1:Int} {v_2:ByteArray} {v_3:Sl} (H :
 NY66 h v_0 v_1 v_2 v_3 fun a3 h1 =>
 NN b fun p7 =>
 Ld h1 (p7.add 8) .bool fun t9 =>
 If t9 (
 K 9 h1) (
 NN b fun p11 =>
 LY29 h1 p11 fun t13_0 t13_1 t13_2 t13_3 t13_4 t13_5 t13_6 =>
 LY66 h1 a3 fun t14_0 t14_1 t14_2 t14_3 =>
 Fn288 t13_0 t13_1 t13_2 t13_3 t13_4 t13_5 t13_6 t14_0 t14_1 t14_2 t14_3 h1 (fun t15 h2 =>
 If (t15 != 0) (
 K t15 h2) (
 LY66 h2 a3 fun t20_0 t20_1 t20_2 t20_3 =>
 Fn289 b t20_0 t20_1 t20_2 t20_3 h2 (fun t21 h3 =>
 K t21 h3) Kp)) Kp)) :
 Fn261 b v_0 v_1 v_2 v_3 h K Kp:=fnof (ann:=ann261) (o:=ord261) (zs:=z261) (Kv:=kv261 K) Tryz.func37 (by kernel_rfl) H (by kernel_rfl) (by kernel_rfl)
end
section
def ann263:Ann:=[]
def ord263:OrdT:=[]
def z263:List Value:=[(.agg #[(.int .i64 0),(.int .i64 0),(.int .i64 0),(.slice none 0 0),(.slice none 0 0),(.slice none 0 0)]),(.int .i64 0)]
def kv263 (K:Int→Int→Int→Sl→Sl→Sl→Int→HP):Value→HP:=fun v h=>rU v fun vs=>rG (vs.getD 0 undef) fun cs0=>rI (cs0.getD 0 undef) fun r0_0=>rI (cs0.getD 1 undef) fun r0_1=>rI (cs0.getD 2 undef) fun r0_2=>rS (cs0.getD 3 undef) fun r0_3=>rS (cs0.getD 4 undef) fun r0_4=>rS (cs0.getD 5 undef) fun r0_5=>rI (vs.getD 1 undef) fun r1=>K r0_0 r0_1 r0_2 r0_3 r0_4 r0_5 r1 h
variable (K:Int→Int→Int→Sl→Sl→Sl→Int→HP) (Kp:PK) 
variable {K Kp} {h:Hp}
theorem Fn263.of {b:Option Addr} (H :
 New h zY33 Y33 fun a2 h1 =>
 NN b fun p5 =>
 Ld h1 (p5.add 8) .bool fun t7 =>
 If t7 (
 SY33 h1 a2 0 0 0 (⟨none,0,0⟩:Sl) (⟨none,0,0⟩:Sl) (⟨none,0,0⟩:Sl) fun h2 =>
 LY33 h2 a2 fun r0_0 r0_1 r0_2 r0_3 r0_4 r0_5 =>
 K r0_0 r0_1 r0_2 r0_3 r0_4 r0_5 9 h2) (
 NN b fun p10 =>
 St h1 (p10.add 8) (.bool true) fun h2 =>
 NN b fun p13 =>
 Ld h2 (p13.add 7) id fun t15 =>
 CallI Tryz.prog t15 "colonnade/build.done" [] h2 (fun r h3=>∃t16_0:Int,∃t16_1:Int,∃t16_2:Int,∃t16_3:Sl,∃t16_4:Sl,∃t16_5:Sl,r=(.agg #[(.int .i64 t16_0),(.int .i64 t16_1),(.int .i64 t16_2),(Sl.v t16_3),(Sl.v t16_4),(Sl.v t16_5)])∧(
 SY33 h3 a2 t16_0 t16_1 t16_2 t16_3 t16_4 t16_5 fun h4 =>
 LY33 h4 a2 fun r0_0 r0_1 r0_2 r0_3 r0_4 r0_5 =>
 K r0_0 r0_1 r0_2 r0_3 r0_4 r0_5 0 h4)) Kp)) :
 Fn263 b h K Kp:=fnof (ann:=ann263) (o:=ord263) (zs:=z263) (Kv:=kv263 K) Tryz.func39 (by kernel_rfl) H (by kernel_rfl) (by kernel_rfl)
end
end Go.Proofs.YtlbbdbdjiekkaaaGreatDoor
set_option maxRecDepth 100000
set_option maxHeartbeats 200000
/- What the functions do, printed by program (gen.py) in the words of ShCore; each text is held against the loaded program by the kernel. -/
namespace Go.Proofs.YtlbbdbdjiekkaaaGreatDoor
open Go Go.Sh
end Go.Proofs.YtlbbdbdjiekkaaaGreatDoor
set_option maxRecDepth 100000
set_option maxHeartbeats 200000
/- What the functions do, printed by program (gen.py) in the words of ShCore; each text is held against the loaded program by the kernel. -/
namespace Go.Proofs.YtlbbdbdjiekkaaaGreatDoor
open Go Go.Sh
section
noncomputable def code16:Code:=Tryz.f45.body.getD .skip
def ann16:Ann:=[(2001,[0,1,6,7])]
def ord16:OrdT:=[(4,(OT.l [0,1,2,3,4,5,6,7,8,9,10,11,12,13,14,15,16,17,18,19] .fin),[0,0,0,0,0,24,56,120,248,0,0,0,3072,7168,15360,31744,65024,131068,262143,524287])]
def z16:List Value:=[]
def kv16 (K:HP):Value→HP:=fun _ h=>K h
variable (K:HP) (Kp:PK) 
noncomputable def c16:Cx:=⟨Tryz.prog,ann16,ord16,none,code16,(retQ Tryz.prog Tryz.f45.results.toList z16 (kv16 K)),Kp⟩
variable {K Kp} {x0:Sl} {x1:ByteArray} {x6:Int} {h:Hp}
end
end Go.Proofs.YtlbbdbdjiekkaaaGreatDoor
set_option maxRecDepth 100000
set_option maxHeartbeats 200000
/- What the functions do, printed by program (gen.py) in the words of ShCore; each text is held against the loaded program by the kernel. -/
namespace Go.Proofs.YtlbbdbdjiekkaaaGreatDoor
open Go Go.Sh
section
def ann49:Ann:=[]
def ord49:OrdT:=[]
def z49:List Value:=[(.agg #[(.int .i64 0),(.slice none 0 0),(.int .i64 0)])]
def kv49 (K:Int→Sl→Int→HP):Value→HP:=fun v h=>rG v fun cs0=>rI (cs0.getD 0 undef) fun r0_0=>rS (cs0.getD 1 undef) fun r0_1=>rI (cs0.getD 2 undef) fun r0_2=>K r0_0 r0_1 r0_2 h
variable (K:Int→Sl→Int→HP) (Kp:PK) 
variable {K Kp} {h:Hp}
theorem Fn49.of {f_0:ByteArray} {f_1:Bool} {f_2 f_3 f_4 f_5:Int} {f_6:Sl} {d_0 d_1 d_2:Int} {d_3 d_4 d_5:Sl} (H :
 NY29 h f_0 f_1 f_2 f_3 f_4 f_5 f_6 fun a2 h1 =>
 NY33 h1 d_0 d_1 d_2 d_3 d_4 d_5 fun a3 h2 =>
 New h2 zY37 Y37 fun a4 h3 =>
 LY29 h3 a2 fun t7_0 t7_1 t7_2 t7_3 t7_4 t7_5 t7_6 =>
 Fn98 t7_0 t7_1 t7_2 t7_3 t7_4 t7_5 t7_6 h3 (fun t8_0 t8_1 t8_2 h4 =>
 If (t8_0 != 0) (
 Fn99 5 0 h4 (fun t11_0 t11_1 t11_2 h5 =>
 SY37 h5 a4 t11_0 t11_1 t11_2 fun h6 =>
 LY37 h6 a4 fun r0_0 r0_1 r0_2 =>
 K r0_0 r0_1 r0_2 h6) Kp) (
 LY29 h4 a2 fun t13_0 t13_1 t13_2 t13_3 t13_4 t13_5 t13_6 =>
 LY33 h4 a3 fun t14_0 t14_1 t14_2 t14_3 t14_4 t14_5 =>
 Fn100 t13_0 t13_1 t13_2 t13_3 t13_4 t13_5 t13_6 t14_0 t14_1 t14_2 t14_3 t14_4 t14_5 h4 (fun t15_0_0 t15_0_1 t15_0_2 t15_1 h5 =>
 New h5 zY37 Y37 fun a5 h6 =>
 SY37 h6 a5 t15_0_0 t15_0_1 t15_0_2 fun h7 =>
 LY37 h7 a5 fun t18_0 t18_1 t18_2 =>
 SY37 h7 a4 t18_0 t18_1 t18_2 fun h8 =>
 LY37 h8 a4 fun r0_0 r0_1 r0_2 =>
 K r0_0 r0_1 r0_2 h8) Kp)) Kp) :
 Fn49 f_0 f_1 f_2 f_3 f_4 f_5 f_6 d_0 d_1 d_2 d_3 d_4 d_5 h K Kp:=fnof (ann:=ann49) (o:=ord49) (zs:=z49) (Kv:=kv49 K) Tryz.func52 (by kernel_rfl) H (by kernel_rfl) (by kernel_rfl)
end
end Go.Proofs.YtlbbdbdjiekkaaaGreatDoor
set_option maxRecDepth 100000
set_option maxHeartbeats 200000
/- What the functions do, printed by program (gen.py) in the words of ShCore; each text is held against the loaded program by the kernel. -/
namespace Go.Proofs.YtlbbdbdjiekkaaaGreatDoor
open Go Go.Sh
section
def ann50:Ann:=[]
def ord50:OrdT:=[(1,(OT.l [0,1,2,3,4,5,6,7,8,9,10,11,12,13] .fin),[0,0,0,4,0,16,0,0,128,384,896,2047,4095,8191])]
def z50:List Value:=[(.pointer none)]
def kv50 (K:(Option Addr)→HP):Value→HP:=fun v h=>rP v fun r0=>K r0 h
variable (K:(Option Addr)→HP) (Kp:PK) 
variable {K Kp} {h:Hp}
theorem Fn50.of {f_0:ByteArray} {f_1:Bool} {f_2 f_3 f_4 f_5:Int} {f_6:Sl} {d_0 d_1 d_2:Int} {d_3 d_4 d_5:Sl} {w:Option Addr} (H :
 NY29 h f_0 f_1 f_2 f_3 f_4 f_5 f_6 fun a3 h1 =>
 NY33 h1 d_0 d_1 d_2 d_3 d_4 d_5 fun a4 h2 =>
 LY29 h2 a3 fun t7_0 t7_1 t7_2 t7_3 t7_4 t7_5 t7_6 =>
 LY33 h2 a4 fun t8_0 t8_1 t8_2 t8_3 t8_4 t8_5 =>
 Ld h2 (a4.add 1) mI fun t10 =>
 Ld h2 a4 mI fun t12 =>
 Ld h2 (a3.add 2) mI fun t16 =>
 Fn101 t16 h2 (fun t17 h3 =>
 Keep h2 h3 a4 1 <|
 Keep h2 h3 (a4.add 1) 1 <|
 Keep h2 h3 a4 6 <|
 Keep h2 h3 a3 7 <|
 NA t17 <|
 NY109 h3 t7_0 t7_1 t7_2 t7_3 t7_4 t7_5 t7_6 t8_0 t8_1 t8_2 t8_3 t8_4 t8_5 t10 t12 w t17 fun a19 h4 =>
 K (some a19) h4) Kp) :
 Fn50 f_0 f_1 f_2 f_3 f_4 f_5 f_6 d_0 d_1 d_2 d_3 d_4 d_5 w h K Kp:=fnof (ann:=ann50) (o:=ord50) (zs:=z50) (Kv:=kv50 K) Tryz.func53 (by kernel_rfl) H (by kernel_rfl) (by kernel_rfl)
end
section
noncomputable def code51:Code:=Tryz.f54.body.getD .skip
def ann51:Ann:=[(2003,[1,2,13,14])]
def ord51:OrdT:=[(5,(OT.l [0,1,2,3,4,5,6,7,8,9,10,11,12] .fin),[0,1,3,0,0,16,48,0,240,496,1008,2047,4095])]
def z51:List Value:=[(.agg #[(.string (bs [])),(.bool false),(.int .i64 0),(.int .i64 0),(.int .i64 0),(.int .i64 0),(.slice none 0 0)])]
def kv51 (K:ByteArray→Bool→Int→Int→Int→Int→Sl→HP):Value→HP:=fun v h=>rG v fun cs0=>rT (cs0.getD 0 undef) fun r0_0=>rB (cs0.getD 1 undef) fun r0_1=>rI (cs0.getD 2 undef) fun r0_2=>rI (cs0.getD 3 undef) fun r0_3=>rI (cs0.getD 4 undef) fun r0_4=>rI (cs0.getD 5 undef) fun r0_5=>rS (cs0.getD 6 undef) fun r0_6=>K r0_0 r0_1 r0_2 r0_3 r0_4 r0_5 r0_6 h
variable (K:ByteArray→Bool→Int→Int→Int→Int→Sl→HP) (Kp:PK) 
noncomputable def c51:Cx:=⟨Tryz.prog,ann51,ord51,none,code51,(retQ Tryz.prog Tryz.f54.results.toList z51 (kv51 K)),Kp⟩
abbrev mk51_1 (x1 x2:Addr) (x13 x14:Int):Fr:=([nO,vP x1,vP x2,nO,nO,nO,nO,nO,nO,nO,nO,nO,nO,vI x13,vI x14]++nn 16)
def L51_1 (x1 x2:Addr) (x13 x14:Int):HP:=semL (c51 K Kp) 2003 [1,1,0,1,0] [] (mk51_1 x1 x2 x13 x14)
variable {K Kp} {x1 x2:Addr} {x13:Int} {h:Hp}
theorem L51_1.rule:LR1 (L51_1 K Kp x1 x2 x13) (mk51_1 x1 x2 x13) fun N1 (x14:Int) h =>
 (If (decide (x14 < x13)) (
 Ld h ((x1.add 2).add 4) Sl.v fun t19 =>
 Ld h ((x1.add 2).add 4) Sl.v fun t23 =>
 Ix t23.a t23.n 7 x14 fun a25 =>
 LY29 h a25 fun t26_0 t26_1 t26_2 t26_3 t26_4 t26_5 t26_6 =>
 Fn51 t26_0 t26_1 t26_2 t26_3 t26_4 t26_5 t26_6 h (fun t27_0 t27_1 t27_2 t27_3 t27_4 t27_5 t27_6 h1 =>
 Keep h h1 ((x1.add 2).add 4) 1 <|
 Ix t19.a t19.n 7 x14 fun a28 =>
 SY29 h1 a28 t27_0 t27_1 t27_2 t27_3 t27_4 t27_5 t27_6 fun h2 =>
 Wr .i64 (x14+1) fun t29 =>
 N1 (mk51_1 x1 x2 x13 t29) h2) Kp) (
 LY29 h x1 fun t30_0 t30_1 t30_2 t30_3 t30_4 t30_5 t30_6 =>
 SY29 h x2 t30_0 t30_1 t30_2 t30_3 t30_4 t30_5 t30_6 fun h1 =>
 LY29 h1 x2 fun r0_0 r0_1 r0_2 r0_3 r0_4 r0_5 r0_6 =>
 K r0_0 r0_1 r0_2 r0_3 r0_4 r0_5 r0_6 h1)) :=
 loop1 (fun _ _=>rfl) fun _ _ _=>by kernel_rfl
theorem Fn51.of {f_0:ByteArray} {f_1:Bool} {f_2 f_3 f_4 f_5:Int} {f_6:Sl} (H :
 NY29 h f_0 f_1 f_2 f_3 f_4 f_5 f_6 fun a1 h1 =>
 New h1 zY29 Y29 fun a2 h2 =>
 Ld h2 ((a1.add 2).add 4) Sl.v fun t6 =>
 Fn200 t6 h2 (fun t7 h3 =>
 St h3 ((a1.add 2).add 4) (Sl.v t7) fun h4 =>
 Ld h4 ((a1.add 2).add 4) Sl.v fun t12 =>
 L51_1 K Kp a1 a2 (t12.n:Int) 0 h4) Kp) :
 Fn51 f_0 f_1 f_2 f_3 f_4 f_5 f_6 h K Kp:=fnof (ann:=ann51) (o:=ord51) (zs:=z51) (Kv:=kv51 K) Tryz.func54 (by kernel_rfl) H (by kernel_rfl) (by kernel_rfl)
end
section
def ann52:Ann:=[]
def ord52:OrdT:=[]
def z52:List Value:=[(.agg #[(.int .i64 0),(.int .i64 0),(.int .i64 0),(.slice none 0 0),(.slice none 0 0),(.slice none 0 0)])]
def kv52 (K:Int→Int→Int→Sl→Sl→Sl→HP):Value→HP:=fun v h=>rG v fun cs0=>rI (cs0.getD 0 undef) fun r0_0=>rI (cs0.getD 1 undef) fun r0_1=>rI (cs0.getD 2 undef) fun r0_2=>rS (cs0.getD 3 undef) fun r0_3=>rS (cs0.getD 4 undef) fun r0_4=>rS (cs0.getD 5 undef) fun r0_5=>K r0_0 r0_1 r0_2 r0_3 r0_4 r0_5 h
variable (K:Int→Int→Int→Sl→Sl→Sl→HP) (Kp:PK) 
variable {K Kp} {h:Hp}
theorem Fn52.of {d_0 d_1 d_2:Int} {d_3 d_4 d_5:Sl} (H :
 NY33 h d_0 d_1 d_2 d_3 d_4 d_5 fun a1 h1 =>
 New h1 zY33 Y33 fun a2 h2 =>
 Ld h2 (a1.add 3) Sl.v fun t4 =>
 Fn201 t4 h2 (fun t5 h3 =>
 St h3 (a1.add 3) (Sl.v t5) fun h4 =>
 Ld h4 (a1.add 4) Sl.v fun t8 =>
 Fn102 t8 h4 (fun t9 h5 =>
 St h5 (a1.add 4) (Sl.v t9) fun h6 =>
 Ld h6 (a1.add 5) Sl.v fun t12 =>
 Fn102 t12 h6 (fun t13 h7 =>
 St h7 (a1.add 5) (Sl.v t13) fun h8 =>
 LY33 h8 a1 fun t15_0 t15_1 t15_2 t15_3 t15_4 t15_5 =>
 SY33 h8 a2 t15_0 t15_1 t15_2 t15_3 t15_4 t15_5 fun h9 =>
 LY33 h9 a2 fun r0_0 r0_1 r0_2 r0_3 r0_4 r0_5 =>
 K r0_0 r0_1 r0_2 r0_3 r0_4 r0_5 h9) Kp) Kp) Kp) :
 Fn52 d_0 d_1 d_2 d_3 d_4 d_5 h K Kp:=fnof (ann:=ann52) (o:=ord52) (zs:=z52) (Kv:=kv52 K) Tryz.func55 (by kernel_rfl) H (by kernel_rfl) (by kernel_rfl)
end
section
def ann275:Ann:=[]
def ord275:OrdT:=[]
def z275:List Value:=[(.bool false)]
def kv275 (K:Bool→HP):Value→HP:=fun v h=>rB v fun r0=>K r0 h
variable (K:Bool→HP) (Kp:PK) 
variable {K Kp} {h:Hp}
theorem Fn275.of {f_0:ByteArray} {f_1:Bool} {f_2 f_3 f_4 f_5:Int} {f_6:Sl} (H :
 NY29 h f_0 f_1 f_2 f_3 f_4 f_5 f_6 fun a1 h1 =>
 LY29 h1 a1 fun t3_0 t3_1 t3_2 t3_3 t3_4 t3_5 t3_6 =>
 Fn98 t3_0 t3_1 t3_2 t3_3 t3_4 t3_5 t3_6 h1 (fun t4_0 t4_1 t4_2 h2 =>
 K (t4_0 == 0) h2) Kp) :
 Fn275 f_0 f_1 f_2 f_3 f_4 f_5 f_6 h K Kp:=fnof (ann:=ann275) (o:=ord275) (zs:=z275) (Kv:=kv275 K) Tryz.func56 (by kernel_rfl) H (by kernel_rfl) (by kernel_rfl)
end
section
def ann55:Ann:=[]
def ord55:OrdT:=[]
def z55:List Value:=[(.nilFunc)]
def kv55 (K:Value→HP):Value→HP:=fun v h=>rA v fun r0=>K r0 h
variable (K:Value→HP) (Kp:PK) 
variable {K Kp} {h:Hp}
theorem Fn55.of {a:Option Addr} (H :
 New h #[(.pointer a)] Y42 fun a1 h1 =>
 K (.func (.func I103) #[] #[(.pointer (some a1))]) h1) :
 Fn55 a h K Kp:=fnof (ann:=ann55) (o:=ord55) (zs:=z55) (Kv:=kv55 K) Tryz.func58 (by kernel_rfl) H (by kernel_rfl) (by kernel_rfl)
end
section
noncomputable def code276:Code:=Tryz.f59.body.getD .skip
def ann276:Ann:=[(41012,[2,3,16]),(41019,[2,3,23]),(41026,[2,3,30]),(41033,[2,3,37])]
def ord276:OrdT:=[]
def z276:List Value:=[(.bool false)]
def kv276 (K:Bool→HP):Value→HP:=fun v h=>rB v fun r0=>K r0 h
variable (K:Bool→HP) (Kp:PK) 
noncomputable def c276:Cx:=⟨Tryz.prog,ann276,ord276,none,code276,(retQ Tryz.prog Tryz.f59.results.toList z276 (kv276 K)),Kp⟩
def J276_4 (x2 x3:Addr) (x37:Bool):HP:=semR (c276 K Kp) [1,0] [] 1 [33,34,35,36,37,38,39,40] ([nO,nO,vP x2,vP x3,nO,nO,nO,nO,nO,nO,nO,nO,nO,nO,nO,nO,nO,nO,nO,nO,nO,nO,nO,nO,nO,nO,nO,nO,nO,nO,nO,nO,nO,nO,nO,nO,nO,some (.bool x37)]++nn 7)
def J276_3 (x2 x3:Addr) (x30:Bool):HP:=semR (c276 K Kp) [1,0] [] 1 [26,27,28,29,30,31,32,33,34,35,36,37,38,39,40] ([nO,nO,vP x2,vP x3,nO,nO,nO,nO,nO,nO,nO,nO,nO,nO,nO,nO,nO,nO,nO,nO,nO,nO,nO,nO,nO,nO,nO,nO,nO,nO,some (.bool x30)]++nn 14)
def J276_2 (x2 x3:Addr) (x23:Bool):HP:=semR (c276 K Kp) [1,0] [] 1 [19,20,21,22,23,24,25,26,27,28,29,30,31,32,33,34,35,36,37,38,39,40] ([nO,nO,vP x2,vP x3,nO,nO,nO,nO,nO,nO,nO,nO,nO,nO,nO,nO,nO,nO,nO,nO,nO,nO,nO,some (.bool x23)]++nn 21)
def J276_1 (x2 x3:Addr) (x16:Bool):HP:=semR (c276 K Kp) [1,0] [] 1 [12,13,14,15,16,17,18,19,20,21,22,23,24,25,26,27,28,29,30,31,32,33,34,35,36,37,38,39,40] ([nO,nO,vP x2,vP x3,nO,nO,nO,nO,nO,nO,nO,nO,nO,nO,nO,nO,some (.bool x16)]++nn 28)
variable {K Kp} {x2 x3:Addr} {x37 x30 x23 x16:Bool} {h:Hp}
theorem J276_4.of (H :
 If x37 (
 Ld h (x2.add 5) Sl.v fun t40 =>
 Ld h (x3.add 5) Sl.v fun t42 =>
 Fn413 t40 t42 (.func (.func I276) #[] #[]) h (fun t43 h1 =>
 K t43 h1) Kp) (
 K false h)) :
 J276_4 K Kp x2 x3 x37 h:=jof H (by kernel_rfl)
theorem J276_3.of (H :
 If x30 (
 Ld h (x2.add 4) Sl.v fun t33 =>
 Ld h (x3.add 4) Sl.v fun t35 =>
 Fn413 t33 t35 (.func (.func I276) #[] #[]) h (fun t36 h1 =>
 J276_4 K Kp x2 x3 t36 h1) Kp) (
 J276_4 K Kp x2 x3 false h)) :
 J276_3 K Kp x2 x3 x30 h:=jof H (by kernel_rfl)
theorem J276_2.of (H :
 If x23 (
 Ld h (x2.add 3) Sl.v fun t26 =>
 Ld h (x3.add 3) Sl.v fun t28 =>
 Fn411 t26 t28 (.func (.func I412) #[] #[]) h (fun t29 h1 =>
 J276_3 K Kp x2 x3 t29 h1) Kp) (
 J276_3 K Kp x2 x3 false h)) :
 J276_2 K Kp x2 x3 x23 h:=jof H (by kernel_rfl)
theorem J276_1.of (H :
 If x16 (
 Ld h (x2.add 2) mI fun t19 =>
 Ld h (x3.add 2) mI fun t21 =>
 J276_2 K Kp x2 x3 (t19 == t21) h) (
 J276_2 K Kp x2 x3 false h)) :
 J276_1 K Kp x2 x3 x16 h:=jof H (by kernel_rfl)
theorem Fn276.of {a_0 a_1 a_2:Int} {a_3 a_4 a_5:Sl} {b_0 b_1 b_2:Int} {b_3 b_4 b_5:Sl} (H :
 NY33 h a_0 a_1 a_2 a_3 a_4 a_5 fun a2 h1 =>
 NY33 h1 b_0 b_1 b_2 b_3 b_4 b_5 fun a3 h2 =>
 Ld h2 a2 mI fun t6 =>
 Ld h2 a3 mI fun t8 =>
 If (t6 == t8) (
 Ld h2 (a2.add 1) mI fun t12 =>
 Ld h2 (a3.add 1) mI fun t14 =>
 J276_1 K Kp a2 a3 (t12 == t14) h2) (
 J276_1 K Kp a2 a3 false h2)) :
 Fn276 a_0 a_1 a_2 a_3 a_4 a_5 b_0 b_1 b_2 b_3 b_4 b_5 h K Kp:=fnof (ann:=ann276) (o:=ord276) (zs:=z276) (Kv:=kv276 K) Tryz.func59 (by kernel_rfl) H (by kernel_rfl) (by kernel_rfl)
end
end Go.Proofs.YtlbbdbdjiekkaaaGreatDoor
set_option maxRecDepth 100000
set_option maxHeartbeats 200000
/- What the functions do, printed by program (gen.py) in the words of ShCore; each text is held against the loaded program by the kernel. -/
namespace Go.Proofs.YtlbbdbdjiekkaaaGreatDoor
open Go Go.Sh
end Go.Proofs.YtlbbdbdjiekkaaaGreatDoor
set_option maxRecDepth 100000
set_option maxHeartbeats 200000
/- What the functions do, printed by program (gen.py) in the words of ShCore; each text is held against the loaded program by the kernel. -/
namespace Go.Proofs.YtlbbdbdjiekkaaaGreatDoor
open Go Go.Sh
section
noncomputable def code286:Code:=Tryz.f72.body.getD .skip
def ann286:Ann:=[(2003,[1,2,3,8,9,10])]
def ord286:OrdT:=[]
def z286:List Value:=[(.agg #[(.string (bs [])),(.bool false),(.int .i64 0),(.int .i64 0),(.int .i64 0),(.int .i64 0),(.slice none 0 0)])]
def kv286 (K:ByteArray→Bool→Int→Int→Int→Int→Sl→HP):Value→HP:=fun v h=>rG v fun cs0=>rT (cs0.getD 0 undef) fun r0_0=>rB (cs0.getD 1 undef) fun r0_1=>rI (cs0.getD 2 undef) fun r0_2=>rI (cs0.getD 3 undef) fun r0_3=>rI (cs0.getD 4 undef) fun r0_4=>rI (cs0.getD 5 undef) fun r0_5=>rS (cs0.getD 6 undef) fun r0_6=>K r0_0 r0_1 r0_2 r0_3 r0_4 r0_5 r0_6 h
variable (K:ByteArray→Bool→Int→Int→Int→Int→Sl→HP) (Kp:PK) 
noncomputable def c286:Cx:=⟨Tryz.prog,ann286,ord286,none,code286,(retQ Tryz.prog Tryz.f72.results.toList z286 (kv286 K)),Kp⟩
abbrev mk286_1 (x1 x2:Addr) (x8:Sl) (x9:Int) (x3:Sl) (x10:Int):Fr:=([nO,vP x1,vP x2,vS x3,nO,nO,nO,nO,vS x8,vI x9,vI x10]++nn 13)
def L286_1 (x1 x2:Addr) (x8:Sl) (x9:Int) (x3:Sl) (x10:Int):HP:=semL (c286 K Kp) 2003 [1,1,0,1,0] [] (mk286_1 x1 x2 x8 x9 x3 x10)
variable {K Kp} {x1 x2:Addr} {x8:Sl} {x9:Int} {h:Hp}
theorem L286_1.rule:LR2 (L286_1 K Kp x1 x2 x8 x9) (mk286_1 x1 x2 x8 x9) fun N1 (x3:Sl) (x10:Int) h =>
 (If (decide (x10 < x9)) (
 Ix x8.a x8.n 7 x10 fun a12 =>
 LY29 h a12 fun t13_0 t13_1 t13_2 t13_3 t13_4 t13_5 t13_6 =>
 New h zY29 Y29 fun a5 h1 =>
 SY29 h1 a5 t13_0 t13_1 t13_2 t13_3 t13_4 t13_5 t13_6 fun h2 =>
 LY29 h2 a5 fun t15_0 t15_1 t15_2 t15_3 t15_4 t15_5 t15_6 =>
 Fn286 t15_0 t15_1 t15_2 t15_3 t15_4 t15_5 t15_6 h2 (fun t16_0 t16_1 t16_2 t16_3 t16_4 t16_5 t16_6 h3 =>
 New h3 #[(.string t16_0),(.bool t16_1),(.int .i64 t16_2),(.int .i64 t16_3),(.int .i64 t16_4),(.int .i64 t16_5),(Sl.v t16_6)] Y29 fun a17 h4 =>
 Ap h4 Y29 zY29 7 80 x3 1 (rd h4 (some a17) (1*7)) fun t18 h5 =>
 Wr .i64 (x10+1) fun t19 =>
 N1 (mk286_1 x1 x2 x8 x9 t18 t19) h5) Kp) (
 St h ((x1.add 2).add 4) (Sl.v x3) fun h1 =>
 LY29 h1 x1 fun t23_0 t23_1 t23_2 t23_3 t23_4 t23_5 t23_6 =>
 SY29 h1 x2 t23_0 t23_1 t23_2 t23_3 t23_4 t23_5 t23_6 fun h2 =>
 LY29 h2 x2 fun r0_0 r0_1 r0_2 r0_3 r0_4 r0_5 r0_6 =>
 K r0_0 r0_1 r0_2 r0_3 r0_4 r0_5 r0_6 h2)) :=
 loop2 (fun _ _ _=>rfl) fun _ _ _ _=>by kernel_rfl
theorem Fn286.of {f_0:ByteArray} {f_1:Bool} {f_2 f_3 f_4 f_5:Int} {f_6:Sl} (H :
 NY29 h f_0 f_1 f_2 f_3 f_4 f_5 f_6 fun a1 h1 =>
 New h1 zY29 Y29 fun a2 h2 =>
 Ld h2 ((a1.add 2).add 4) Sl.v fun t8 =>
 L286_1 K Kp a1 a2 t8 (t8.n:Int) (⟨none,0,0⟩:Sl) 0 h2) :
 Fn286 f_0 f_1 f_2 f_3 f_4 f_5 f_6 h K Kp:=fnof (ann:=ann286) (o:=ord286) (zs:=z286) (Kv:=kv286 K) Tryz.func72 (by kernel_rfl) H (by kernel_rfl) (by kernel_rfl)
end
section
noncomputable def code287:Code:=Tryz.f73.body.getD .skip
def ann287:Ann:=[(2000008,[1,3,4]),(4200013,[3,4,7,34]),(2004,[1,3,4,12,13,14])]
def ord287:OrdT:=[(14,(OT.l [0,2,3,4,1,5,6,7,8] .fin),[0,0,0,4,12,31,63,127,255]),(16,(OT.l [0,1,2,3,4,5,6,7] .fin),[0,0,2,6,15,31,63,127]),(22,(OT.l [0,1,2,3,4,5,6,7,8] .fin),[0,0,2,6,0,31,63,127,255]),(24,(OT.l [0,1,2,3,4,5,6,7] .fin),[0,0,2,6,15,31,63,127])]
def z287:List Value:=[(.nilIface)]
def kv287 (K:Value→HP):Value→HP:=fun v h=>rA v fun r0=>K r0 h
variable (K:Value→HP) (Kp:PK) 
noncomputable def c287:Cx:=⟨Tryz.prog,ann287,ord287,none,code287,(retQ Tryz.prog Tryz.f73.results.toList z287 (kv287 K)),Kp⟩
def J287_2 (x3:Addr) (x4:Sl) (x7:Int) (x34:Bool):HP:=semJ (c287 K Kp) [1,1,1,1,0,1,0,1,1,1] [] ([nO,nO,nO,vP x3,vS x4,nO,nO,vI x7,nO,nO,nO,nO,nO,nO,nO,nO,nO,nO,nO,nO,nO,nO,nO,nO,nO,nO,nO,nO,nO,nO,nO,nO,nO,nO,some (.bool x34)]++nn 73)
def J287_1 (x1 x3:Addr) (x4:Sl):HP:=semJ (c287 K Kp) [1,1,1,1] [] ([nO,vP x1,nO,vP x3,vS x4]++nn 103)
abbrev mk287_3 (x1 x3:Addr) (x12:Sl) (x13:Int) (x4:Sl) (x14:Int):Fr:=([nO,vP x1,nO,vP x3,vS x4,nO,nO,nO,nO,nO,nO,nO,vS x12,vI x13,vI x14]++nn 93)
def L287_3 (x1 x3:Addr) (x12:Sl) (x13:Int) (x4:Sl) (x14:Int):HP:=semL (c287 K Kp) 2004 [1,1,1,0,1,0] [] (mk287_3 x1 x3 x12 x13 x4 x14)
variable {K Kp} {x1 x3:Addr} {x12 x4:Sl} {x13 x7:Int} {x34:Bool} {h:Hp}
theorem J287_2.of (H :
 If x34 (
 LY352 h x3 fun t41_0 t41_1 t41_2 t41_3 t41_4 t41_5 t41_6 t41_7 t41_8 t41_9 t41_10 t41_11 t41_12 t41_13 t41_14 t41_15 =>
 New h #[(.int .i64 0)] Y6 fun a42 h1 =>
 NY360 h1 t41_0 t41_1 t41_2 t41_3 t41_4 t41_5 t41_6 t41_7 t41_8 t41_9 t41_10 t41_11 t41_12 t41_13 t41_14 t41_15 (⟨some a42,1,1⟩:Sl) (⟨none,0,0⟩:Sl) fun a44 h2 =>
 K (.iface Y358 (.pointer (some a44))) h2) (
 If (x7 == 15) (
 LY352 h x3 fun t49_0 t49_1 t49_2 t49_3 t49_4 t49_5 t49_6 t49_7 t49_8 t49_9 t49_10 t49_11 t49_12 t49_13 t49_14 t49_15 =>
 Ix x4.a x4.n 1 0 fun a52 =>
 Ld h a52 id fun t53 =>
 New h #[(.int .i64 0)] Y6 fun a50 h1 =>
 Keep h h1 a52 1 <|
 Keep h h1 x3 16 <|
 NA t53 <|
 NY363 h1 t49_0 t49_1 t49_2 t49_3 t49_4 t49_5 t49_6 t49_7 t49_8 t49_9 t49_10 t49_11 t49_12 t49_13 t49_14 t49_15 (⟨some a50,1,1⟩:Sl) t53 fun a55 h2 =>
 K (.iface Y361 (.pointer (some a55))) h2) (
 If (x7 == 16) (
 LY352 h x3 fun t60_0 t60_1 t60_2 t60_3 t60_4 t60_5 t60_6 t60_7 t60_8 t60_9 t60_10 t60_11 t60_12 t60_13 t60_14 t60_15 =>
 Ix x4.a x4.n 1 0 fun a62 =>
 Ld h a62 id fun t63 =>
 NA t63 <|
 NY366 h t60_0 t60_1 t60_2 t60_3 t60_4 t60_5 t60_6 t60_7 t60_8 t60_9 t60_10 t60_11 t60_12 t60_13 t60_14 t60_15 t63 fun a65 h1 =>
 K (.iface Y364 (.pointer (some a65))) h1) (
 If (x7 == 17) (
 LY352 h x3 fun t70_0 t70_1 t70_2 t70_3 t70_4 t70_5 t70_6 t70_7 t70_8 t70_9 t70_10 t70_11 t70_12 t70_13 t70_14 t70_15 =>
 NY369 h t70_0 t70_1 t70_2 t70_3 t70_4 t70_5 t70_6 t70_7 t70_8 t70_9 t70_10 t70_11 t70_12 t70_13 t70_14 t70_15 x4 fun a73 h1 =>
 K (.iface Y367 (.pointer (some a73))) h1) (
 If (x7 == 18) (
 LY352 h x3 fun t78_0 t78_1 t78_2 t78_3 t78_4 t78_5 t78_6 t78_7 t78_8 t78_9 t78_10 t78_11 t78_12 t78_13 t78_14 t78_15 =>
 NY372 h t78_0 t78_1 t78_2 t78_3 t78_4 t78_5 t78_6 t78_7 t78_8 t78_9 t78_10 t78_11 t78_12 t78_13 t78_14 t78_15 (⟨none,0,0⟩:Sl) (⟨none,0,0⟩:Sl) x4 fun a81 h1 =>
 K (.iface Y370 (.pointer (some a81))) h1) (
 If (x7 == 19) (
 LY352 h x3 fun t86_0 t86_1 t86_2 t86_3 t86_4 t86_5 t86_6 t86_7 t86_8 t86_9 t86_10 t86_11 t86_12 t86_13 t86_14 t86_15 =>
 Ix x4.a x4.n 1 0 fun a88 =>
 Ld h a88 id fun t89 =>
 NewM h fun m90 h1 =>
 Keep h h1 a88 1 <|
 Keep h h1 x3 16 <|
 NA t89 <|
 NY376 h1 t86_0 t86_1 t86_2 t86_3 t86_4 t86_5 t86_6 t86_7 t86_8 t86_9 t86_10 t86_11 t86_12 t86_13 t86_14 t86_15 (⟨none,0,0⟩:Sl) t89 (⟨none,0,0⟩:Sl) (some m90) fun a92 h2 =>
 K (.iface Y373 (.pointer (some a92))) h2) (
 If (x7 == 20) (
 LY352 h x3 fun t97_0 t97_1 t97_2 t97_3 t97_4 t97_5 t97_6 t97_7 t97_8 t97_9 t97_10 t97_11 t97_12 t97_13 t97_14 t97_15 =>
 Ix x4.a x4.n 1 0 fun a99 =>
 Ld h a99 id fun t100 =>
 NA t100 <|
 NY379 h t97_0 t97_1 t97_2 t97_3 t97_4 t97_5 t97_6 t97_7 t97_8 t97_9 t97_10 t97_11 t97_12 t97_13 t97_14 t97_15 (⟨none,0,0⟩:Sl) t100 false 0 (bs []) (⟨none,0,0⟩:Sl) fun a102 h1 =>
 K (.iface Y377 (.pointer (some a102))) h1) (
 LY352 h x3 fun t104_0 t104_1 t104_2 t104_3 t104_4 t104_5 t104_6 t104_7 t104_8 t104_9 t104_10 t104_11 t104_12 t104_13 t104_14 t104_15 =>
 NY383 h t104_0 t104_1 t104_2 t104_3 t104_4 t104_5 t104_6 t104_7 t104_8 t104_9 t104_10 t104_11 t104_12 t104_13 t104_14 t104_15 (⟨none,0,0⟩:Sl) (⟨none,0,0⟩:Sl) fun a106 h1 =>
 K (.iface Y380 (.pointer (some a106))) h1)))))))) :
 J287_2 K Kp x3 x4 x7 x34 h:=jof H (by kernel_rfl)
theorem J287_1.of (H :
 Ld h (x1.add 2) mI fun t26 =>
 If (t26 == 1) (
 LY352 h x3 fun t30_0 t30_1 t30_2 t30_3 t30_4 t30_5 t30_6 t30_7 t30_8 t30_9 t30_10 t30_11 t30_12 t30_13 t30_14 t30_15 =>
 NY357 h t30_0 t30_1 t30_2 t30_3 t30_4 t30_5 t30_6 t30_7 t30_8 t30_9 t30_10 t30_11 t30_12 t30_13 t30_14 t30_15 fun a32 h1 =>
 K (.iface Y355 (.pointer (some a32))) h1) (
 If (t26 == 12) (
 J287_2 K Kp x3 x4 t26 true h) (
 J287_2 K Kp x3 x4 t26 (t26 == 13) h))) :
 J287_1 K Kp x1 x3 x4 h:=jof H (by kernel_rfl)
theorem L287_3.rule:LR2 (L287_3 K Kp x1 x3 x12 x13) (mk287_3 x1 x3 x12 x13) fun N1 (x4:Sl) (x14:Int) h =>
 (If (decide (x14 < x13)) (
 Ix x12.a x12.n 7 x14 fun a16 =>
 LY29 h a16 fun t17_0 t17_1 t17_2 t17_3 t17_4 t17_5 t17_6 =>
 New h zY29 Y29 fun a6 h1 =>
 SY29 h1 a6 t17_0 t17_1 t17_2 t17_3 t17_4 t17_5 t17_6 fun h2 =>
 LY29 h2 a6 fun t19_0 t19_1 t19_2 t19_3 t19_4 t19_5 t19_6 =>
 Fn287 t19_0 t19_1 t19_2 t19_3 t19_4 t19_5 t19_6 h2 (fun t20 h3 =>
 NA t20 <|
 New h3 #[t20] Y333 fun a21 h4 =>
 Ap h4 Y333 #[(.nilIface)] 1 16 x4 1 (rd h4 (some a21) (1*1)) fun t22 h5 =>
 Wr .i64 (x14+1) fun t23 =>
 N1 (mk287_3 x1 x3 x12 x13 t22 t23) h5) Kp) (
 J287_1 K Kp x1 x3 x4 h)) :=
 loop2 (fun _ _ _=>rfl) fun _ _ _ _=>by kernel_rfl
theorem Fn287.of {f_0:ByteArray} {f_1:Bool} {f_2 f_3 f_4 f_5:Int} {f_6:Sl} (H :
 NY29 h f_0 f_1 f_2 f_3 f_4 f_5 f_6 fun a1 h1 =>
 LY29 h1 a1 fun t8_0 t8_1 t8_2 t8_3 t8_4 t8_5 t8_6 =>
 Fn304 t8_0 t8_1 t8_2 t8_3 t8_4 t8_5 t8_6 h1 (fun t9_0 t9_1 t9_2 t9_3 t9_4 t9_5 t9_6 t9_7 t9_8 t9_9 t9_10 t9_11 t9_12 t9_13 t9_14 t9_15 h2 =>
 New h2 zY352 Y352 fun a3 h3 =>
 SY352 h3 a3 t9_0 t9_1 t9_2 t9_3 t9_4 t9_5 t9_6 t9_7 t9_8 t9_9 t9_10 t9_11 t9_12 t9_13 t9_14 t9_15 fun h4 =>
 Ld h4 ((a1.add 2).add 4) Sl.v fun t12 =>
 L287_3 K Kp a1 a3 t12 (t12.n:Int) (⟨none,0,0⟩:Sl) 0 h4) Kp) :
 Fn287 f_0 f_1 f_2 f_3 f_4 f_5 f_6 h K Kp:=fnof (ann:=ann287) (o:=ord287) (zs:=z287) (Kv:=kv287 K) Tryz.func73 (by kernel_rfl) H (by kernel_rfl) (by kernel_rfl)
end
section
def ann288:Ann:=[]
def ord288:OrdT:=[]
def z288:List Value:=[(.int .i64 0)]
def kv288 (K:Int→HP):Value→HP:=fun v h=>rI v fun r0=>K r0 h
variable (K:Int→HP) (Kp:PK) 
variable {K Kp} {h:Hp}
theorem Fn288.of {f_0:ByteArray} {f_1:Bool} {f_2 f_3 f_4 f_5:Int} {f_6:Sl} {v_0:Bool} {v_1:Int} {v_2:ByteArray} {v_3:Sl} (H :
 NY29 h f_0 f_1 f_2 f_3 f_4 f_5 f_6 fun a2 h1 =>
 NY66 h1 v_0 v_1 v_2 v_3 fun a3 h2 =>
 LY29 h2 a2 fun t6_0 t6_1 t6_2 t6_3 t6_4 t6_5 t6_6 =>
 Fn305 t6_0 t6_1 t6_2 t6_3 t6_4 t6_5 t6_6 h2 (fun t7 h3 =>
 If (!t7) (
 K 5 h3) (
 LY29 h3 a2 fun t10_0 t10_1 t10_2 t10_3 t10_4 t10_5 t10_6 =>
 LY66 h3 a3 fun t11_0 t11_1 t11_2 t11_3 =>
 Fn306 t10_0 t10_1 t10_2 t10_3 t10_4 t10_5 t10_6 t11_0 t11_1 t11_2 t11_3 h3 (fun t12 h4 =>
 If (!t12) (
 K 7 h4) (
 K 0 h4)) Kp)) Kp) :
 Fn288 f_0 f_1 f_2 f_3 f_4 f_5 f_6 v_0 v_1 v_2 v_3 h K Kp:=fnof (ann:=ann288) (o:=ord288) (zs:=z288) (Kv:=kv288 K) Tryz.func75 (by kernel_rfl) H (by kernel_rfl) (by kernel_rfl)
end
section
noncomputable def code129:Code:=Tryz.f77.body.getD .skip
def ann129:Ann:=[(2000005,[1,2]),(2000011,[1,2]),(4014,[2,5,6,45]),(2006,[1,2,22,23,24])]
def ord129:OrdT:=[]
def z129:List Value:=[(.agg #[(.int .i64 0),(.slice none 0 0),(.int .i64 0)])]
def kv129 (K:Int→Sl→Int→HP):Value→HP:=fun v h=>rG v fun cs0=>rI (cs0.getD 0 undef) fun r0_0=>rS (cs0.getD 1 undef) fun r0_1=>rI (cs0.getD 2 undef) fun r0_2=>K r0_0 r0_1 r0_2 h
variable (K:Int→Sl→Int→HP) (Kp:PK) (lb:Nat) (NB:HP) (XB:Code→HP) 
noncomputable def c129:Cx:=⟨Tryz.prog,ann129,ord129,none,code129,(retQ Tryz.prog Tryz.f77.results.toList z129 (kv129 K)),Kp⟩
def R129_3 (x2 x5 x6:Addr) (x45:Value):HP:=semJ0 (c129 K Kp) [1,1,1,1,1,0,1,0] [] ([nO,nO,vP x2,nO,nO,vP x5,vP x6,nO,nO,nO,nO,nO,nO,nO,nO,nO,nO,nO,nO,nO,nO,nO,nO,nO,nO,nO,nO,nO,nO,nO,nO,nO,nO,nO,nO,nO,nO,nO,nO,nO,nO,nO,nO,nO,nO,some x45]++nn 25)
def J129_2 (x1 x2:Addr):HP:=semJ (c129 K Kp) [1,1,1] [] ([nO,vP x1,vP x2]++nn 68)
abbrev mk129_4 (x1 x2:Addr) (x22:Sl) (x23 x24:Int):Fr:=([nO,vP x1,vP x2,nO,nO,nO,nO,nO,nO,nO,nO,nO,nO,nO,nO,nO,nO,nO,nO,nO,nO,nO,vS x22,vI x23,vI x24]++nn 46)
def L129_4 (x1 x2:Addr) (x22:Sl) (x23 x24:Int):HP:=semL (c129 K Kp) 2006 [1,1,0,1,0] [] (mk129_4 x1 x2 x22 x23 x24)
def J129_1 (x1 x2:Addr):HP:=semJ (c129 K Kp) [1,1] [] ([nO,vP x1,vP x2]++nn 68)
variable {K Kp lb NB XB} {x1 x2 x5 x6:Addr} {x22:Sl} {x23:Int} {x45:Value} {h:Hp}
def RT129_3 (lb:Nat) (NB:HP) (XB:Code→HP) (x2 x5 x6:Addr) (x45:Value) (y46_0 y46_1:Sl) (y46_2:ByteArray) (y46_3:Bool) (y46_4 y46_5 y46_6 y46_7:Int) (y46_8:Sl) (y46_9:Bool) (h:Hp):Prop :=
 New h zY224 Y224 fun a7 h1 =>
 SY224 h1 a7 y46_0 y46_1 y46_2 y46_3 y46_4 y46_5 y46_6 y46_7 y46_8 y46_9 fun h2 =>
 Busy lb h h2 fun h3 =>
 LY224 h3 a7 fun t47_0 t47_1 t47_2 t47_3 t47_4 t47_5 t47_6 t47_7 t47_8 t47_9 =>
 Ld h3 x5 mI fun t48 =>
 Ld h3 x6 .map fun t49 =>
 Fn153 t47_0 t47_1 t47_2 t47_3 t47_4 t47_5 t47_6 t47_7 t47_8 t47_9 t48 t49 h3 (fun t50 h4 =>
 If (t50 != 0) (
 Ld h4 a7 Sl.v fun t55 =>
 SY37 h4 x2 t50 t55 0 fun h5 =>
 XB .ret h5) (
 Ld h4 x5 mI fun t57 =>
 Wr .i64 (t57+1) fun t58 =>
 St h4 x5 (.int .i64 t58) fun h5 =>
 Ld h5 ((a7.add 2).add 2) mI fun t62 =>
 If (t62 == 19) (
 Ld h5 x6 .map fun t64 =>
 Ld h5 (((a7.add 2).add 2).add 2) mI fun t68 =>
 Ld h5 x5 mI fun t69 =>
 Up h5 t64 (.int .i64) (.int .i64 t68) (.int .i64 t69) fun h6 =>
 NB h6) (
 NB h5))) NoP
def RD129_3 (K:Int→Sl→Int→HP) (Kp:PK) (x2 x5 x6:Addr) (x45:Value) (h:Hp):Prop :=
 SY37 h x2 0 (⟨none,0,0⟩:Sl) 0 fun h1 =>
 LY37 h1 x2 fun r0_0 r0_1 r0_2 =>
 K r0_0 r0_1 r0_2 h1
def RX129_3_ret (K:Int→Sl→Int→HP) (Kp:PK) (x2 x5 x6:Addr) (x45:Value) (h:Hp):Prop :=
 LY37 h x2 fun r0_0 r0_1 r0_2 =>
 K r0_0 r0_1 r0_2 h
theorem R129_3.rule {x2 x5 x6:Addr} {x45:Value} {K:Int→Sl→Int→HP} {Kp:PK} {h:Hp} {α:Type} {xs:List α} (E:α→Sl→Sl→ByteArray→Bool→Int→Int→Int→Int→Sl→Bool→Prop) {Pre:Hp→Prop} (hit:IterR Tryz.prog x45 xs (fun y args=>∃y0 y1 y2 y3 y4 y5 y6 y7 y8 y9,args=[(.agg #[(Sl.v y0),(Sl.v y1),(.string y2),(.bool y3),(.int .i64 y4),(.int .i64 y5),(.int .i64 y6),(.int .i64 y7),(Sl.v y8),(.bool y9)])]∧E y y0 y1 y2 y3 y4 y5 y6 y7 y8 y9) Pre) (I:List α→Hp→Prop) (I_ret:List α→Hp→Prop) (h0:I [] h)
 (hG:∀pre h1 h2,Grw h1 h2→I pre h1→I pre h2) (hI:∀l pre h1 h2,h.size≤l→Tw l h1 h2→I pre h1→I pre h2) (hPre:∀pre h1,I pre h1→Pre h1) (hG_ret:∀pre h1 h2,Grw h1 h2→I_ret pre h1→I_ret pre h2) (hI_ret:∀l pre h1 h2,h.size≤l→Tw l h1 h2→I_ret pre h1→I_ret pre h2) 
 (hbody:∀l pre y suf h1 y0 y1 y2 y3 y4 y5 y6 y7 y8 y9,E y y0 y1 y2 y3 y4 y5 y6 y7 y8 y9→xs=pre++y::suf→h.size≤l→(∃r,h1[l]? = some (.loop r))→I pre h1→∀(N:Hp→Prop) (X:Code→Hp→Prop),(∀h' h2,Tw l h1 h'→h2[l]? = h'[l]? → Tn (fun c=>c≤l) h1 h2→I (pre++[y]) h2→N h2)→(∀h' h2,Tw l h1 h'→h2[l]? = h'[l]? → Tn (fun c=>c≤l) h1 h2→I_ret (pre++[y]) h2→X .ret h2)→RT129_3 l N X x2 x5 x6 x45 y0 y1 y2 y3 y4 y5 y6 y7 y8 y9 h1)
 (done:∀h2,I xs h2→RD129_3 K Kp x2 x5 x6 x45 h2) (stop_ret:∀pre suf h2,xs=pre++suf→I_ret pre h2→RX129_3_ret K Kp x2 x5 x6 x45 h2):R129_3 K Kp x2 x5 x6 x45 h :=
 Eq.mp (by kernel_rfl) (range_rule (P:=Tryz.prog) (ann:=ann129) (D:=(DrawSem Tryz.prog ord129)) (fun _=>drawOk _) (rd:=none) (g:=.tmp 45) (ps:=#[46]) (assign:=sub [1,1,1,1,1,0,1,0,0] code129) (body:=sub [1,1,1,1,1,0,1,0,1] code129) (Q:=ctxQ Tryz.prog ann129 (DrawSem Tryz.prog ord129) none Kp [1,1,1,1,1,0,1,0] code129 [] (retQ Tryz.prog Tryz.f77.results.toList z129 (kv129 K))) (Kp:=Kp) (fr:=([nO,nO,vP x2,nO,nO,vP x5,vP x6,nO,nO,nO,nO,nO,nO,nO,nO,nO,nO,nO,nO,nO,nO,nO,nO,nO,nO,nO,nO,nO,nO,nO,nO,nO,nO,nO,nO,nO,nO,nO,nO,nO,nO,nO,nO,nO,nO,some x45]++nn 25)) (h:=h) (fv:=x45) (by kernel_rfl)
 hit (fun _ _ ea=>by obtain ⟨_,_,_,_,_,_,_,_,_,_,rfl,_⟩:=ea;rfl) trivial I (fun c=>match c with | .ret=>I_ret | _=>fun _ _=>False) h0 hG (by intro c pre h1 h2 hg hi;revert hi;cases c with
 | ret=>exact hG_ret pre h1 h2 hg
 | _=>exact fun hi=>hi.elim) hI (by intro l c pre h1 h2 hl ht hi;revert hi;cases c with
 | ret=>exact hI_ret l pre h1 h2 hl ht
 | _=>exact fun hi=>hi.elim) hPre
 (by
 intro l pre y suf h1 args ea e1 e2 e3 e4 N X hN hX
 obtain ⟨y0,y1,y2,y3,y4,y5,y6,y7,y8,y9,rfl,eE⟩:=ea
 exact Eq.mp (by kernel_rfl) (hbody l pre y suf h1 y0 y1 y2 y3 y4 y5 y6 y7 y8 y9 eE e1 e2 e3 e4 N X hN (hX .ret)))
 (fun h2 hi=>Eq.mp (by kernel_rfl) (done h2 hi)) (by
 intro c pre suf h2 e1 hi
 cases c with
 | ret=>exact Eq.mp (by kernel_rfl) (stop_ret pre suf h2 e1 hi)
 | _=>exact hi.elim))
theorem J129_2.of (H :
 New h #[(.int .i64 0)] Y6 fun a5 h1 =>
 St h1 a5 (.int .i64 0) fun h2 =>
 NewM h2 fun m42 h3 =>
 New h3 #[(.map none)] Y219 fun a6 h4 =>
 St h4 a6 (.map (some m42)) fun h5 =>
 Ld h5 x1 Sl.v fun t44 =>
 Fn152 t44 65 h5 (fun t45 h6 =>
 R129_3 K Kp x2 a5 a6 t45 h6) Kp) :
 J129_2 K Kp x1 x2 h:=jof H (by kernel_rfl)
theorem L129_4.rule:LR1 (L129_4 K Kp x1 x2 x22 x23) (mk129_4 x1 x2 x22 x23) fun N1 (x24:Int) h =>
 (If (decide (x24 < x23)) (
 Ix x22.a x22.n 2 x24 fun a27 =>
 Ld h a27 .string fun t28_0 =>
 Ld h (a27.add 1) .string fun t28_1 =>
 New h #[(.string (bs [])),(.string (bs []))] Y210 fun a4 h1 =>
 St h1 a4 (.string t28_0) fun h2 =>
 St h2 (a4.add 1) (.string t28_1) fun h3 =>
 Ld h3 a4 .string fun t30 =>
 If (decide ((t30.size:Int) > 256)) (
 SY37 h3 x2 37 (⟨none,0,0⟩:Sl) x24 fun h4 =>
 LY37 h4 x2 fun r0_0 r0_1 r0_2 =>
 K r0_0 r0_1 r0_2 h4) (
 Ld h3 (a4.add 1) .string fun t35 =>
 If (decide ((t35.size:Int) > 256)) (
 SY37 h3 x2 37 (⟨none,0,0⟩:Sl) x24 fun h4 =>
 LY37 h4 x2 fun r0_0 r0_1 r0_2 =>
 K r0_0 r0_1 r0_2 h4) (
 Wr .i64 (x24+1) fun t41 =>
 N1 (mk129_4 x1 x2 x22 x23 t41) h3))) (
 J129_2 K Kp x1 x2 h)) :=
 loop1 (fun _ _=>rfl) fun _ _ _=>by kernel_rfl
theorem J129_1.of (H :
 Ld h (x1.add 1) Sl.v fun t22 =>
 L129_4 K Kp x1 x2 t22 (t22.n:Int) 0 h) :
 J129_1 K Kp x1 x2 h:=jof H (by kernel_rfl)
theorem Fn129.of {s_0 s_1:Sl} (H :
 New h #[(Sl.v s_0),(Sl.v s_1)] Y182 fun a1 h1 =>
 New h1 zY37 Y37 fun a2 h2 =>
 Ld h2 a1 Sl.v fun t11 =>
 If (decide ((t11.n:Int) > 32)) (
 SY37 h2 a2 34 (⟨none,0,0⟩:Sl) 32 fun h3 =>
 LY37 h3 a2 fun r0_0 r0_1 r0_2 =>
 K r0_0 r0_1 r0_2 h3) (
 Ld h2 (a1.add 1) Sl.v fun t17 =>
 If (decide ((t17.n:Int) > 16)) (
 SY37 h2 a2 34 (⟨none,0,0⟩:Sl) 16 fun h3 =>
 LY37 h3 a2 fun r0_0 r0_1 r0_2 =>
 K r0_0 r0_1 r0_2 h3) (
 J129_1 K Kp a1 a2 h2))) :
 Fn129 s_0 s_1 h K Kp:=fnof (ann:=ann129) (o:=ord129) (zs:=z129) (Kv:=kv129 K) Tryz.func77 (by kernel_rfl) H (by kernel_rfl) (by kernel_rfl)
end
end Go.Proofs.YtlbbdbdjiekkaaaGreatDoor
set_option maxRecDepth 100000
set_option maxHeartbeats 200000
/- What the functions do, printed by program (gen.py) in the words of ShCore; each text is held against the loaded program by the kernel. -/
namespace Go.Proofs.YtlbbdbdjiekkaaaGreatDoor
open Go Go.Sh
section
def ann98:Ann:=[]
def ord98:OrdT:=[]
def z98:List Value:=[(.agg #[(.int .i64 0),(.slice none 0 0),(.int .i64 0)])]
def kv98 (K:Int→Sl→Int→HP):Value→HP:=fun v h=>rG v fun cs0=>rI (cs0.getD 0 undef) fun r0_0=>rS (cs0.getD 1 undef) fun r0_1=>rI (cs0.getD 2 undef) fun r0_2=>K r0_0 r0_1 r0_2 h
variable (K:Int→Sl→Int→HP) (Kp:PK) 
variable {K Kp} {h:Hp}
theorem Fn98.of {f_0:ByteArray} {f_1:Bool} {f_2 f_3 f_4 f_5:Int} {f_6:Sl} (H :
 NY29 h f_0 f_1 f_2 f_3 f_4 f_5 f_6 fun a1 h1 =>
 New h1 zY37 Y37 fun a2 h2 =>
 LY29 h2 a1 fun t4_0 t4_1 t4_2 t4_3 t4_4 t4_5 t4_6 =>
 New h2 #[(.string t4_0),(.bool t4_1),(.int .i64 t4_2),(.int .i64 t4_3),(.int .i64 t4_4),(.int .i64 t4_5),(Sl.v t4_6)] Y29 fun a5 h3 =>
 Fn129 (⟨some a5,1,1⟩:Sl) (⟨none,0,0⟩:Sl) h3 (fun t7_0 t7_1 t7_2 h4 =>
 New h4 zY37 Y37 fun a3 h5 =>
 SY37 h5 a3 t7_0 t7_1 t7_2 fun h6 =>
 Ld h6 (a3.add 1) Sl.v fun t9 =>
 If (decide ((t9.n:Int) > 0)) (
 Ld h6 (a3.add 1) Sl.v fun t13 =>
 Slc t13 1 (some 1) none none fun t14 =>
 St h6 (a3.add 1) (Sl.v t14) fun h7 =>
 LY37 h7 a3 fun t16_0 t16_1 t16_2 =>
 SY37 h7 a2 t16_0 t16_1 t16_2 fun h8 =>
 LY37 h8 a2 fun r0_0 r0_1 r0_2 =>
 K r0_0 r0_1 r0_2 h8) (
 LY37 h6 a3 fun t16_0 t16_1 t16_2 =>
 SY37 h6 a2 t16_0 t16_1 t16_2 fun h7 =>
 LY37 h7 a2 fun r0_0 r0_1 r0_2 =>
 K r0_0 r0_1 r0_2 h7)) Kp) :
 Fn98 f_0 f_1 f_2 f_3 f_4 f_5 f_6 h K Kp:=fnof (ann:=ann98) (o:=ord98) (zs:=z98) (Kv:=kv98 K) Tryz.func80 (by kernel_rfl) H (by kernel_rfl) (by kernel_rfl)
end
section
def ann99:Ann:=[]
def ord99:OrdT:=[]
def z99:List Value:=[(.agg #[(.int .i64 0),(.slice none 0 0),(.int .i64 0)])]
def kv99 (K:Int→Sl→Int→HP):Value→HP:=fun v h=>rG v fun cs0=>rI (cs0.getD 0 undef) fun r0_0=>rS (cs0.getD 1 undef) fun r0_1=>rI (cs0.getD 2 undef) fun r0_2=>K r0_0 r0_1 r0_2 h
variable (K:Int→Sl→Int→HP) (Kp:PK) 
variable {K Kp} {h:Hp}
theorem Fn99.of {e atv:Int} (H :
 New h zY37 Y37 fun a4 h1 =>
 SY37 h1 a4 e (⟨none,0,0⟩:Sl) atv fun h2 =>
 LY37 h2 a4 fun r0_0 r0_1 r0_2 =>
 K r0_0 r0_1 r0_2 h2) :
 Fn99 e atv h K Kp:=fnof (ann:=ann99) (o:=ord99) (zs:=z99) (Kv:=kv99 K) Tryz.func81 (by kernel_rfl) H (by kernel_rfl) (by kernel_rfl)
end
section
noncomputable def code100:Code:=Tryz.f82.body.getD .skip
def ann100:Ann:=[(2000004,[2,3,4]),(2000007,[2,3,4]),(2000017,[2,3,4,8]),(2000021,[2,3,4,8]),(2024,[4,14,15,77,78,79]),(2009,[2,3,4,8,33,34,35]),(2000012,[2,3,4,8,9,11,12,33,34,35])]
def ord100:OrdT:=[(11,(OT.l [0,1,3] (.alt (OT.l [2] (.alt (OT.l [4,5,6,7,8,9,10] .fin) (OT.l [8,4,5,6,7,9,10] .fin))) (OT.l [8,2,4,5,6,7,9,10] .fin))),[0,0,3,0,15,31,63,63,0,383,1023])]
def z100:List Value:=[(.agg #[(.int .i64 0),(.slice none 0 0),(.int .i64 0)]),(.slice none 0 0)]
def kv100 (K:Int→Sl→Int→Sl→HP):Value→HP:=fun v h=>rU v fun vs=>rG (vs.getD 0 undef) fun cs0=>rI (cs0.getD 0 undef) fun r0_0=>rS (cs0.getD 1 undef) fun r0_1=>rI (cs0.getD 2 undef) fun r0_2=>rS (vs.getD 1 undef) fun r1=>K r0_0 r0_1 r0_2 r1 h
variable (K:Int→Sl→Int→Sl→HP) (Kp:PK) (N1:Fr→HP) 
noncomputable def c100:Cx:=⟨Tryz.prog,ann100,ord100,none,code100,(retQ Tryz.prog Tryz.f82.results.toList z100 (kv100 K)),Kp⟩
abbrev mk100_5 (x4:Addr) (x14 x77:Sl) (x78 x15 x79:Int):Fr:=([nO,nO,nO,nO,vP x4,nO,nO,nO,nO,nO,nO,nO,nO,nO,vS x14,vI x15,nO,nO,nO,nO,nO,nO,nO,nO,nO,nO,nO,nO,nO,nO,nO,nO,nO,nO,nO,nO,nO,nO,nO,nO,nO,nO,nO,nO,nO,nO,nO,nO,nO,nO,nO,nO,nO,nO,nO,nO,nO,nO,nO,nO,nO,nO,nO,nO,nO,nO,nO,nO,nO,nO,nO,nO,nO,nO,nO,nO,nO,vS x77,vI x78,vI x79]++nn 12)
def L100_5 (x4:Addr) (x14 x77:Sl) (x78 x15 x79:Int):HP:=semL (c100 K Kp) 2024 [1,1,1,1,1,1,1,1,0,1,0] [] (mk100_5 x4 x14 x77 x78 x15 x79)
def J100_4 (x2 x3 x4:Addr) (x8:Sl):HP:=semJ (c100 K Kp) [1,1,1,1,1,1] [] ([nO,nO,vP x2,vP x3,vP x4,nO,nO,nO,vS x8]++nn 83)
def J100_3 (x2 x3 x4:Addr) (x8:Sl):HP:=semJ (c100 K Kp) [1,1,1,1,1] [] ([nO,nO,vP x2,vP x3,vP x4,nO,nO,nO,vS x8]++nn 83)
abbrev mk100_6 (x2 x3 x4:Addr) (x33:Sl) (x34:Int) (x8:Sl) (x35:Int):Fr:=([nO,nO,vP x2,vP x3,vP x4,nO,nO,nO,vS x8,nO,nO,nO,nO,nO,nO,nO,nO,nO,nO,nO,nO,nO,nO,nO,nO,nO,nO,nO,nO,nO,nO,nO,nO,vS x33,vI x34,vI x35]++nn 56)
def J100_7 (x2 x3 x4:Addr) (x8:Sl) (x9:Int) (x11:Addr) (x12 x33:Sl) (x34 x35:Int):HP:=semJ (c100 K Kp) [1,1,1,1,0,1,0,0,1,1,0,0,1,1] [N1] ([nO,nO,vP x2,vP x3,vP x4,nO,nO,nO,vS x8,vI x9,nO,vP x11,vS x12,nO,nO,nO,nO,nO,nO,nO,nO,nO,nO,nO,nO,nO,nO,nO,nO,nO,nO,nO,nO,vS x33,vI x34,vI x35]++nn 56)
def L100_6 (x2 x3 x4:Addr) (x33:Sl) (x34:Int) (x8:Sl) (x35:Int):HP:=semL (c100 K Kp) 2009 [1,1,1,1,0,1,0] [] (mk100_6 x2 x3 x4 x33 x34 x8 x35)
def J100_2 (x2 x3 x4:Addr):HP:=semJ (c100 K Kp) [1,1,1] [] ([nO,nO,vP x2,vP x3,vP x4]++nn 87)
def J100_1 (x2 x3 x4:Addr):HP:=semJ (c100 K Kp) [1,1] [] ([nO,nO,vP x2,vP x3,vP x4]++nn 87)
variable {K Kp N1} {x2 x3 x4 x11:Addr} {x8 x12 x33 x14 x77:Sl} {x9 x34 x35 x78:Int} {h:Hp}
theorem L100_5.rule:LR2 (L100_5 K Kp x4 x14 x77 x78) (mk100_5 x4 x14 x77 x78) fun N1 (x15:Int) (x79:Int) h =>
 (If (decide (x79 < x78)) (
 Ix x77.a x77.n 1 x79 fun a81 =>
 Ld h a81 mI fun t82 =>
 Wr .i64 (x15+t82) fun t85 =>
 Wr .i64 (x79+1) fun t86 =>
 N1 (mk100_5 x4 x14 x77 x78 t85 t86) h) (
 If (decide (x15 > 4194304)) (
 Fn99 3 1 h (fun t89_0 t89_1 t89_2 h1 =>
 SY37 h1 x4 t89_0 t89_1 t89_2 fun h2 =>
 LY37 h2 x4 fun r0_0 r0_1 r0_2 =>
 K r0_0 r0_1 r0_2 (⟨none,0,0⟩:Sl) h2) Kp) (
 SY37 h x4 0 (⟨none,0,0⟩:Sl) 0 fun h1 =>
 LY37 h1 x4 fun r0_0 r0_1 r0_2 =>
 K r0_0 r0_1 r0_2 x14 h1))) :=
 loop2 (fun _ _ _=>rfl) fun _ _ _ _=>by kernel_rfl
theorem J100_4.of (H :
 LY29 h x2 fun t73_0 t73_1 t73_2 t73_3 t73_4 t73_5 t73_6 =>
 LY33 h x3 fun t74_0 t74_1 t74_2 t74_3 t74_4 t74_5 =>
 Fn133 t73_0 t73_1 t73_2 t73_3 t73_4 t73_5 t73_6 t74_0 t74_1 t74_2 t74_3 t74_4 t74_5 x8 h (fun t76 h1 =>
 L100_5 K Kp x4 t76 t76 (t76.n:Int) 0 0 h1) Kp) :
 J100_4 K Kp x2 x3 x4 x8 h:=jof H (by kernel_rfl)
theorem J100_3.of (H :
 Ld h (x2.add 2) mI fun t65 =>
 If (t65 == 20) (
 LY33 h x3 fun t67_0 t67_1 t67_2 t67_3 t67_4 t67_5 =>
 Fn132 t67_0 t67_1 t67_2 t67_3 t67_4 t67_5 h (fun t68_0 t68_1 t68_2 h1 =>
 New h1 zY37 Y37 fun a13 h2 =>
 SY37 h2 a13 t68_0 t68_1 t68_2 fun h3 =>
 Ld h3 a13 mI fun t70 =>
 If (t70 != 0) (
 LY37 h3 a13 fun t72_0 t72_1 t72_2 =>
 SY37 h3 x4 t72_0 t72_1 t72_2 fun h4 =>
 LY37 h4 x4 fun r0_0 r0_1 r0_2 =>
 K r0_0 r0_1 r0_2 (⟨none,0,0⟩:Sl) h4) (
 J100_4 K Kp x2 x3 x4 x8 h3)) Kp) (
 J100_4 K Kp x2 x3 x4 x8 h)) :
 J100_3 K Kp x2 x3 x4 x8 h:=jof H (by kernel_rfl)
theorem J100_7.of (H :
 Ld h x11 mI fun t49 =>
 If (t49 != 0) (
 New h #[(.int .i64 x9)] Y6 fun a52 h1 =>
 Ld h1 (x11.add 1) Sl.v fun t54 =>
 Ap h1 Y6 #[(.int .i64 0)] 1 8 (⟨some a52,1,1⟩:Sl) t54.n (rd h1 t54.a (t54.n*1)) fun t55 h2 =>
 St h2 (x11.add 1) (Sl.v t55) fun h3 =>
 LY37 h3 x11 fun t57_0 t57_1 t57_2 =>
 SY37 h3 x4 t57_0 t57_1 t57_2 fun h4 =>
 LY37 h4 x4 fun r0_0 r0_1 r0_2 =>
 K r0_0 r0_1 r0_2 (⟨none,0,0⟩:Sl) h4) (
 New h #[(Sl.v x12)] Y35 fun a60 h1 =>
 Ap h1 Y35 #[(.slice none 0 0)] 1 24 x8 1 (rd h1 (some a60) (1*1)) fun t61 h2 =>
 Wr .i64 (x35+1) fun t62 =>
 N1 (mk100_6 x2 x3 x4 x33 x34 t61 t62) h2)) :
 J100_7 K Kp N1 x2 x3 x4 x8 x9 x11 x12 x33 x34 x35 h:=jof H (by kernel_rfl)
theorem L100_6.rule:LR2 (L100_6 K Kp x2 x3 x4 x33 x34) (mk100_6 x2 x3 x4 x33 x34) fun N1 (x8:Sl) (x35:Int) h =>
 (If (decide (x35 < x34)) (
 Ix x33.a x33.n 6 x35 fun a38 =>
 LY33 h a38 fun t39_0 t39_1 t39_2 t39_3 t39_4 t39_5 =>
 New h zY33 Y33 fun a10 h1 =>
 SY33 h1 a10 t39_0 t39_1 t39_2 t39_3 t39_4 t39_5 fun h2 =>
 LY29 h2 x2 fun t41_0 t41_1 t41_2 t41_3 t41_4 t41_5 t41_6 =>
 LY33 h2 a10 fun t44_0 t44_1 t44_2 t44_3 t44_4 t44_5 =>
 (
 Fn110 t41_0 t41_1 t41_2 t41_3 t41_4 t41_5 t41_6 x35 h2 (fun t43_0 t43_1 t43_2 t43_3 t43_4 t43_5 t43_6 h3 =>
 Keep h2 h3 a10 6 <|
 (
 Fn100 t43_0 t43_1 t43_2 t43_3 t43_4 t43_5 t43_6 t44_0 t44_1 t44_2 t44_3 t44_4 t44_5 h3 (fun t45_0_0 t45_0_1 t45_0_2 t45_1 h4 =>
 New h4 zY37 Y37 fun a11 h5 =>
 Keep h4 h5 a10 6 <|
 Keep h4 h5 x2 7 <|
 SY37 h5 a11 t45_0_0 t45_0_1 t45_0_2 fun h6 =>
 J100_7 K Kp N1 x2 x3 x4 x8 x35 a11 t45_1 x33 x34 x35 h6) Kp)∧(
 New h3 zY37 Y37 fun a11 h4 =>
 Keep h3 h4 a10 6 <|
 Keep h3 h4 x2 7 <|
 Fn100 t43_0 t43_1 t43_2 t43_3 t43_4 t43_5 t43_6 t44_0 t44_1 t44_2 t44_3 t44_4 t44_5 h4 (fun t45_0_0 t45_0_1 t45_0_2 t45_1 h5 =>
 SY37 h5 a11 t45_0_0 t45_0_1 t45_0_2 fun h6 =>
 J100_7 K Kp N1 x2 x3 x4 x8 x35 a11 t45_1 x33 x34 x35 h6) Kp)) Kp)∧(
 New h2 zY37 Y37 fun a11 h3 =>
 Keep h2 h3 a10 6 <|
 Keep h2 h3 x2 7 <|
 Fn110 t41_0 t41_1 t41_2 t41_3 t41_4 t41_5 t41_6 x35 h3 (fun t43_0 t43_1 t43_2 t43_3 t43_4 t43_5 t43_6 h4 =>
 Keep h3 h4 a10 6 <|
 Fn100 t43_0 t43_1 t43_2 t43_3 t43_4 t43_5 t43_6 t44_0 t44_1 t44_2 t44_3 t44_4 t44_5 h4 (fun t45_0_0 t45_0_1 t45_0_2 t45_1 h5 =>
 SY37 h5 a11 t45_0_0 t45_0_1 t45_0_2 fun h6 =>
 J100_7 K Kp N1 x2 x3 x4 x8 x35 a11 t45_1 x33 x34 x35 h6) Kp) Kp)) (
 J100_3 K Kp x2 x3 x4 x8 h)) :=
 loop2 (fun _ _ _=>rfl) fun _ _ _ _=>by kernel_rfl
theorem J100_2.of (H :
 LY33 h x3 fun t32_0 t32_1 t32_2 t32_3 t32_4 t32_5 =>
 Fn111 t32_0 t32_1 t32_2 t32_3 t32_4 t32_5 h (fun t33 h1 =>
 L100_6 K Kp x2 x3 x4 t33 (t33.n:Int) (⟨none,0,0⟩:Sl) 0 h1) Kp) :
 J100_2 K Kp x2 x3 x4 h:=jof H (by kernel_rfl)
theorem J100_1.of (H :
 LY29 h x2 fun t25_0 t25_1 t25_2 t25_3 t25_4 t25_5 t25_6 =>
 LY33 h x3 fun t26_0 t26_1 t26_2 t26_3 t26_4 t26_5 =>
 Fn131 t25_0 t25_1 t25_2 t25_3 t25_4 t25_5 t25_6 t26_0 t26_1 t26_2 t26_3 t26_4 t26_5 h (fun t27_0 t27_1 t27_2 h1 =>
 New h1 zY37 Y37 fun a7 h2 =>
 SY37 h2 a7 t27_0 t27_1 t27_2 fun h3 =>
 Ld h3 a7 mI fun t29 =>
 If (t29 != 0) (
 LY37 h3 a7 fun t31_0 t31_1 t31_2 =>
 SY37 h3 x4 t31_0 t31_1 t31_2 fun h4 =>
 LY37 h4 x4 fun r0_0 r0_1 r0_2 =>
 K r0_0 r0_1 r0_2 (⟨none,0,0⟩:Sl) h4) (
 J100_2 K Kp x2 x3 x4 h3)) Kp) :
 J100_1 K Kp x2 x3 x4 h:=jof H (by kernel_rfl)
theorem Fn100.of {f_0:ByteArray} {f_1:Bool} {f_2 f_3 f_4 f_5:Int} {f_6:Sl} {d_0 d_1 d_2:Int} {d_3 d_4 d_5:Sl} (H :
 NY29 h f_0 f_1 f_2 f_3 f_4 f_5 f_6 fun a2 h1 =>
 NY33 h1 d_0 d_1 d_2 d_3 d_4 d_5 fun a3 h2 =>
 New h2 zY37 Y37 fun a4 h3 =>
 LY29 h3 a2 fun t18_0 t18_1 t18_2 t18_3 t18_4 t18_5 t18_6 =>
 LY33 h3 a3 fun t19_0 t19_1 t19_2 t19_3 t19_4 t19_5 =>
 Fn130 t18_0 t18_1 t18_2 t18_3 t18_4 t18_5 t18_6 t19_0 t19_1 t19_2 t19_3 t19_4 t19_5 h3 (fun t20_0 t20_1 t20_2 h4 =>
 New h4 zY37 Y37 fun a6 h5 =>
 SY37 h5 a6 t20_0 t20_1 t20_2 fun h6 =>
 Ld h6 a6 mI fun t22 =>
 If (t22 != 0) (
 LY37 h6 a6 fun t24_0 t24_1 t24_2 =>
 SY37 h6 a4 t24_0 t24_1 t24_2 fun h7 =>
 LY37 h7 a4 fun r0_0 r0_1 r0_2 =>
 K r0_0 r0_1 r0_2 (⟨none,0,0⟩:Sl) h7) (
 J100_1 K Kp a2 a3 a4 h6)) Kp) :
 Fn100 f_0 f_1 f_2 f_3 f_4 f_5 f_6 d_0 d_1 d_2 d_3 d_4 d_5 h K Kp:=fnof (ann:=ann100) (o:=ord100) (zs:=z100) (Kv:=kv100 K) Tryz.func82 (by kernel_rfl) H (by kernel_rfl) (by kernel_rfl)
end
section
noncomputable def code101:Code:=Tryz.f83.body.getD .skip
def ann101:Ann:=[(3400005,[3,4]),(3700008,[3,9])]
def ord101:OrdT:=[]
def z101:List Value:=[(.nilIface)]
def kv101 (K:Value→HP):Value→HP:=fun v h=>rA v fun r0=>K r0 h
variable (K:Value→HP) (Kp:PK) 
noncomputable def c101:Cx:=⟨Tryz.prog,ann101,ord101,none,code101,(retQ Tryz.prog Tryz.f83.results.toList z101 (kv101 K)),Kp⟩
def J101_2 (x3:Int) (x9:Bool):HP:=semJ (c101 K Kp) [1,0,1,0,1,1,1] [] ([nO,nO,nO,vI x3,nO,nO,nO,nO,nO,some (.bool x9)]++nn 22)
def J101_1 (x3:Int) (x4:Bool):HP:=semJ (c101 K Kp) [1,0,1,0,1] [] ([nO,nO,nO,vI x3,some (.bool x4)]++nn 27)
variable {K Kp} {x3:Int} {x9 x4:Bool} {h:Hp}
theorem J101_2.of (H :
 If x9 (
 K (.iface Y193 (.agg #[])) h) (
 If (x3 == 17) (
 K (.iface Y194 (.agg #[])) h) (
 If (x3 == 18) (
 K (.iface Y195 (.agg #[])) h) (
 If (x3 == 19) (
 K (.iface Y196 (.agg #[])) h) (
 If (x3 == 20) (
 K (.iface Y197 (.agg #[])) h) (
 K (.iface Y198 (.agg #[])) h)))))) :
 J101_2 K Kp x3 x9 h:=jof H (by kernel_rfl)
theorem J101_1.of (H :
 If x4 (
 K (.iface Y192 (.agg #[])) h) (
 If (x3 == 15) (
 J101_2 K Kp x3 (x3 == 15) h) (
 J101_2 K Kp x3 (x3 == 16) h))) :
 J101_1 K Kp x3 x4 h:=jof H (by kernel_rfl)
theorem Fn101.of {k:Int} (H :
 If (k == 12) (
 J101_1 K Kp k (k == 12) h) (
 J101_1 K Kp k (k == 13) h)) :
 Fn101 k h K Kp:=fnof (ann:=ann101) (o:=ord101) (zs:=z101) (Kv:=kv101 K) Tryz.func83 (by kernel_rfl) H (by kernel_rfl) (by kernel_rfl)
end
section
def ann200:Ann:=[]
def ord200:OrdT:=[]
def z200:List Value:=[(.slice none 0 0)]
def kv200 (K:Sl→HP):Value→HP:=fun v h=>rS v fun r0=>K r0 h
variable (K:Sl→HP) (Kp:PK) 
variable {K Kp} {h:Hp}
theorem Fn200.of {s:Sl} (H :
 If (Option.isNone s.a) (
 K (⟨none,0,0⟩:Sl) h) (
 New h #[] Y29 fun a5 h1 =>
 Ap h1 Y29 zY29 7 80 (⟨some a5,0,0⟩:Sl) s.n (rd h1 s.a (s.n*7)) fun t7 h2 =>
 K t7 h2)) :
 Fn200 s h K Kp:=fnof (ann:=ann200) (o:=ord200) (zs:=z200) (Kv:=kv200 K) Tryz.func84 (by kernel_rfl) H (by kernel_rfl) (by kernel_rfl)
end
section
def ann201:Ann:=[]
def ord201:OrdT:=[]
def z201:List Value:=[(.slice none 0 0)]
def kv201 (K:Sl→HP):Value→HP:=fun v h=>rS v fun r0=>K r0 h
variable (K:Sl→HP) (Kp:PK) 
variable {K Kp} {h:Hp}
theorem Fn201.of {s:Sl} (H :
 If (Option.isNone s.a) (
 K (⟨none,0,0⟩:Sl) h) (
 New h #[] Y96 fun a5 h1 =>
 Ap h1 Y96 #[(.slice none 0 0)] 1 24 (⟨some a5,0,0⟩:Sl) s.n (rd h1 s.a (s.n*1)) fun t7 h2 =>
 K t7 h2)) :
 Fn201 s h K Kp:=fnof (ann:=ann201) (o:=ord201) (zs:=z201) (Kv:=kv201 K) Tryz.func85 (by kernel_rfl) H (by kernel_rfl) (by kernel_rfl)
end
section
noncomputable def code102:Code:=Tryz.f86.body.getD .skip
def ann102:Ann:=[(2003,[3,6,7,8])]
def ord102:OrdT:=[]
def z102:List Value:=[(.slice none 0 0)]
def kv102 (K:Sl→HP):Value→HP:=fun v h=>rS v fun r0=>K r0 h
variable (K:Sl→HP) (Kp:PK) 
noncomputable def c102:Cx:=⟨Tryz.prog,ann102,ord102,none,code102,(retQ Tryz.prog Tryz.f86.results.toList z102 (kv102 K)),Kp⟩
abbrev mk102_1 (x6:Sl) (x7:Int) (x3:Sl) (x8:Int):Fr:=([nO,nO,nO,vS x3,nO,nO,vS x6,vI x7,vI x8]++nn 10)
def L102_1 (x6:Sl) (x7:Int) (x3:Sl) (x8:Int):HP:=semL (c102 K Kp) 2003 [1,1,0,1,0] [] (mk102_1 x6 x7 x3 x8)
variable {K Kp} {x6:Sl} {x7:Int} {h:Hp}
theorem L102_1.rule:LR2 (L102_1 K Kp x6 x7) (mk102_1 x6 x7) fun N1 (x3:Sl) (x8:Int) h =>
 (If (decide (x8 < x7)) (
 Ix x6.a x6.n 6 x8 fun a10 =>
 LY33 h a10 fun t11_0 t11_1 t11_2 t11_3 t11_4 t11_5 =>
 New h zY33 Y33 fun a5 h1 =>
 SY33 h1 a5 t11_0 t11_1 t11_2 t11_3 t11_4 t11_5 fun h2 =>
 LY33 h2 a5 fun t13_0 t13_1 t13_2 t13_3 t13_4 t13_5 =>
 Fn52 t13_0 t13_1 t13_2 t13_3 t13_4 t13_5 h2 (fun t14_0 t14_1 t14_2 t14_3 t14_4 t14_5 h3 =>
 New h3 #[(.int .i64 t14_0),(.int .i64 t14_1),(.int .i64 t14_2),(Sl.v t14_3),(Sl.v t14_4),(Sl.v t14_5)] Y33 fun a15 h4 =>
 Ap h4 Y33 zY33 6 96 x3 1 (rd h4 (some a15) (1*6)) fun t16 h5 =>
 Wr .i64 (x8+1) fun t17 =>
 N1 (mk102_1 x6 x7 t16 t17) h5) Kp) (
 K x3 h)) :=
 loop2 (fun _ _ _=>rfl) fun _ _ _ _=>by kernel_rfl
theorem Fn102.of {l:Sl} (H :
 L102_1 K Kp l (l.n:Int) (⟨none,0,0⟩:Sl) 0 h) :
 Fn102 l h K Kp:=fnof (ann:=ann102) (o:=ord102) (zs:=z102) (Kv:=kv102 K) Tryz.func86 (by kernel_rfl) H (by kernel_rfl) (by kernel_rfl)
end
section
noncomputable def code103:Code:=Tryz.f87.body.getD .skip
def ann103:Ann:=[(2002,[0,1,3,11,12]),(46006,[0,1,3,4,5,11,12,30])]
def ord103:OrdT:=[]
def z103:List Value:=[]
def kv103 (K:HP):Value→HP:=fun _ h=>K h
variable (K:HP) (Kp:PK) (N1:Fr→HP) 
noncomputable def c103:Cx:=⟨Tryz.prog,ann103,ord103,none,code103,(retQ Tryz.prog Tryz.f87.results.toList z103 (kv103 K)),Kp⟩
abbrev mk103_1 (x0:Value) (x1:Addr) (x11 x3 x12:Int):Fr:=([some x0,vP x1,nO,vI x3,nO,nO,nO,nO,nO,nO,nO,vI x11,vI x12]++nn 26)
def J103_2 (x0:Value) (x1:Addr) (x3 x4:Int) (x5:Addr) (x11 x12:Int) (x30:Bool):HP:=semR (c103 K Kp) [1,1,0,0,1,1,0,0,1,1,1,0] [N1] 6 [6,7,8,9,10,11,12] ([some x0,vP x1,nO,vI x3,vI x4,vP x5,nO,nO,nO,nO,nO,vI x11,vI x12,nO,nO,nO,nO,nO,nO,nO,nO,nO,nO,nO,nO,nO,nO,nO,nO,nO,some (.bool x30)]++nn 8)
def L103_1 (x0:Value) (x1:Addr) (x11 x3 x12:Int):HP:=semL (c103 K Kp) 2002 [1,1,0] [] (mk103_1 x0 x1 x11 x3 x12)
variable {K Kp N1} {x0:Value} {x1 x5:Addr} {x3 x4 x11 x12:Int} {x30:Bool} {h:Hp}
theorem J103_2.of (H :
 If x30 (
 K  h) (
 LY66 h x5 fun t34_0 t34_1 t34_2 t34_3 =>
 CallV Tryz.prog x0 [(.int .i64 x4),(.agg #[(.bool t34_0),(.int .i64 t34_1),(.string t34_2),(Sl.v t34_3)])] h (fun r h1=>∃t35:Bool,r=(.bool t35)∧(
 If (!t35) (
 K  h1) (
 Wr .i64 (x12+1) fun t38 =>
 N1 (mk103_1 x0 x1 x11 x3 t38) h1))) Kp)) :
 J103_2 K Kp N1 x0 x1 x3 x4 x5 x11 x12 x30 h:=jof H (by kernel_rfl)
theorem L103_1.rule:LR2 (L103_1 K Kp x0 x1 x11) (mk103_1 x0 x1 x11) fun N1 (x3:Int) (x12:Int) h =>
 (If (decide (x12 < x11)) (
 Ld h x1 .pointer fun t16 =>
 Fn64 t16 x12 h (fun t18_0_0 t18_0_1 t18_0_2 t18_0_3 t18_1 t18_2 h1 =>
 New h1 zY66 Y66 fun a5 h2 =>
 SY66 h2 a5 t18_0_0 t18_0_1 t18_0_2 t18_0_3 fun h3 =>
 Wr .i64 (x3 - t18_1) fun t24 =>
 If (t18_2 != 0) (
 J103_2 K Kp N1 x0 x1 t24 x12 a5 x11 x12 true h3) (
 J103_2 K Kp N1 x0 x1 t24 x12 a5 x11 x12 (decide (t24 < 0)) h3)) Kp) (
 K  h)) :=
 loop2 (fun _ _ _=>rfl) fun _ _ _ _=>by kernel_rfl
theorem Fn103.of {yield:Value} {c1:Addr} (H :
 Ld h c1 .pointer fun t8 =>
 NN t8 fun p9 =>
 Ld h (p9.add 14) mI fun t11 =>
 L103_1 K Kp yield c1 t11 4194304 0 h) :
 Fn103 yield c1 h K Kp:=fnof (ann:=ann103) (o:=ord103) (zs:=z103) (Kv:=kv103 K) Tryz.func87 (by kernel_rfl) H (by kernel_rfl) (by kernel_rfl)
end
section
noncomputable def code411:Code:=Tryz.f89.body.getD .skip
def ann411:Ann:=[(2004,[1,2,15,16,17])]
def ord411:OrdT:=[]
def z411:List Value:=[(.bool false)]
def kv411 (K:Bool→HP):Value→HP:=fun v h=>rB v fun r0=>K r0 h
variable (K:Bool→HP) (Kp:PK) 
noncomputable def c411:Cx:=⟨Tryz.prog,ann411,ord411,none,code411,(retQ Tryz.prog Tryz.f89.results.toList z411 (kv411 K)),Kp⟩
abbrev mk411_1 (x1:Sl) (x2:Value) (x15:Sl) (x16 x17:Int):Fr:=([nO,vS x1,some x2,nO,nO,nO,nO,nO,nO,nO,nO,nO,nO,nO,nO,vS x15,vI x16,vI x17]++nn 14)
def L411_1 (x1:Sl) (x2:Value) (x15:Sl) (x16 x17:Int):HP:=semL (c411 K Kp) 2004 [1,1,0,1,0] [] (mk411_1 x1 x2 x15 x16 x17)
variable {K Kp} {x1 x15:Sl} {x2:Value} {x16:Int} {h:Hp}
theorem L411_1.rule:LR1 (L411_1 K Kp x1 x2 x15 x16) (mk411_1 x1 x2 x15 x16) fun N1 (x17:Int) h =>
 (If (decide (x17 < x16)) (
 Ix x15.a x15.n 1 x17 fun a20 =>
 Ld h a20 Sl.v fun t21 =>
 Ix x1.a x1.n 1 x17 fun a24 =>
 Ld h a24 Sl.v fun t25 =>
 CallV Tryz.prog x2 [(Sl.v t21),(Sl.v t25)] h (fun r h1=>∃t29:Bool,r=(.bool t29)∧(
 If (!t29) (
 K false h1) (
 Wr .i64 (x17+1) fun t31 =>
 N1 (mk411_1 x1 x2 x15 x16 t31) h1))) Kp) (
 K true h)) :=
 loop1 (fun _ _=>rfl) fun _ _ _=>by kernel_rfl
theorem Fn411.of {s1 s2:Sl} {eq:Value} (H :
 If ((s1.n:Int) != (s2.n:Int)) (
 K false h) (
 L411_1 K Kp s2 eq s1 (s1.n:Int) 0 h)) :
 Fn411 s1 s2 eq h K Kp:=fnof (ann:=ann411) (o:=ord411) (zs:=z411) (Kv:=kv411 K) Tryz.func89 (by kernel_rfl) H (by kernel_rfl) (by kernel_rfl)
end
section
def ann412:Ann:=[]
def ord412:OrdT:=[]
def z412:List Value:=[(.bool false)]
def kv412 (K:Bool→HP):Value→HP:=fun v h=>rB v fun r0=>K r0 h
variable (K:Bool→HP) (Kp:PK) 
variable {K Kp} {h:Hp}
theorem Fn412.of {a b:Sl} (H :
 Bts h a fun t6 =>
 Bts h b fun t8 =>
 K (t6.toList == t8.toList) h) :
 Fn412 a b h K Kp:=fnof (ann:=ann412) (o:=ord412) (zs:=z412) (Kv:=kv412 K) Tryz.func90 (by kernel_rfl) H (by kernel_rfl) (by kernel_rfl)
end
end Go.Proofs.YtlbbdbdjiekkaaaGreatDoor
set_option maxRecDepth 100000
set_option maxHeartbeats 200000
/- What the functions do, printed by program (gen.py) in the words of ShCore; each text is held against the loaded program by the kernel. -/
namespace Go.Proofs.YtlbbdbdjiekkaaaGreatDoor
open Go Go.Sh
section
noncomputable def code413:Code:=Tryz.f91.body.getD .skip
def ann413:Ann:=[(2004,[1,2,15,16,17])]
def ord413:OrdT:=[]
def z413:List Value:=[(.bool false)]
def kv413 (K:Bool→HP):Value→HP:=fun v h=>rB v fun r0=>K r0 h
variable (K:Bool→HP) (Kp:PK) 
noncomputable def c413:Cx:=⟨Tryz.prog,ann413,ord413,none,code413,(retQ Tryz.prog Tryz.f91.results.toList z413 (kv413 K)),Kp⟩
abbrev mk413_1 (x1:Sl) (x2:Value) (x15:Sl) (x16 x17:Int):Fr:=([nO,vS x1,some x2,nO,nO,nO,nO,nO,nO,nO,nO,nO,nO,nO,nO,vS x15,vI x16,vI x17]++nn 14)
def L413_1 (x1:Sl) (x2:Value) (x15:Sl) (x16 x17:Int):HP:=semL (c413 K Kp) 2004 [1,1,0,1,0] [] (mk413_1 x1 x2 x15 x16 x17)
variable {K Kp} {x1 x15:Sl} {x2:Value} {x16:Int} {h:Hp}
theorem L413_1.rule:LR1 (L413_1 K Kp x1 x2 x15 x16) (mk413_1 x1 x2 x15 x16) fun N1 (x17:Int) h =>
 (If (decide (x17 < x16)) (
 Ix x15.a x15.n 6 x17 fun a20 =>
 LY33 h a20 fun t21_0 t21_1 t21_2 t21_3 t21_4 t21_5 =>
 New h zY33 Y33 fun a8 h1 =>
 SY33 h1 a8 t21_0 t21_1 t21_2 t21_3 t21_4 t21_5 fun h2 =>
 Ix x1.a x1.n 6 x17 fun a24 =>
 LY33 h2 a24 fun t25_0 t25_1 t25_2 t25_3 t25_4 t25_5 =>
 New h2 zY33 Y33 fun a9 h3 =>
 SY33 h3 a9 t25_0 t25_1 t25_2 t25_3 t25_4 t25_5 fun h4 =>
 LY33 h4 a8 fun t27_0 t27_1 t27_2 t27_3 t27_4 t27_5 =>
 LY33 h4 a9 fun t28_0 t28_1 t28_2 t28_3 t28_4 t28_5 =>
 CallV Tryz.prog x2 [(.agg #[(.int .i64 t27_0),(.int .i64 t27_1),(.int .i64 t27_2),(Sl.v t27_3),(Sl.v t27_4),(Sl.v t27_5)]),(.agg #[(.int .i64 t28_0),(.int .i64 t28_1),(.int .i64 t28_2),(Sl.v t28_3),(Sl.v t28_4),(Sl.v t28_5)])] h4 (fun r h5=>∃t29:Bool,r=(.bool t29)∧(
 If (!t29) (
 K false h5) (
 Wr .i64 (x17+1) fun t31 =>
 N1 (mk413_1 x1 x2 x15 x16 t31) h5))) Kp) (
 K true h)) :=
 loop1 (fun _ _=>rfl) fun _ _ _=>by kernel_rfl
theorem Fn413.of {s1 s2:Sl} {eq:Value} (H :
 If ((s1.n:Int) != (s2.n:Int)) (
 K false h) (
 L413_1 K Kp s2 eq s1 (s1.n:Int) 0 h)) :
 Fn413 s1 s2 eq h K Kp:=fnof (ann:=ann413) (o:=ord413) (zs:=z413) (Kv:=kv413 K) Tryz.func91 (by kernel_rfl) H (by kernel_rfl) (by kernel_rfl)
end
end Go.Proofs.YtlbbdbdjiekkaaaGreatDoor
set_option maxRecDepth 100000
set_option maxHeartbeats 200000
/- What the functions do, printed by program (gen.py) in the words of ShCore; each text is held against the loaded program by the kernel. -/
namespace Go.Proofs.YtlbbdbdjiekkaaaGreatDoor
open Go Go.Sh
end Go.Proofs.YtlbbdbdjiekkaaaGreatDoor
set_option maxRecDepth 100000
set_option maxHeartbeats 200000
/- What the functions do, printed by program (gen.py) in the words of ShCore; each text is held against the loaded program by the kernel. -/
namespace Go.Proofs.YtlbbdbdjiekkaaaGreatDoor
open Go Go.Sh
section
noncomputable def code17:Code:=Tryz.f100.body.getD .skip
def ann17:Ann:=[]
def ord17:OrdT:=[]
def z17:List Value:=[(.agg #[(.string (bs [])),(.bool false),(.int .i64 0),(.int .i64 0),(.int .i64 0),(.int .i64 0),(.slice none 0 0),(.int .i64 0),(.int .i64 0),(.int .i64 0),(.slice none 0 0),(.slice none 0 0),(.slice none 0 0),(.int .i64 0),(.int .i64 0)])]
def kv17 (K:ByteArray→Bool→Int→Int→Int→Int→Sl→Int→Int→Int→Sl→Sl→Sl→Int→Int→HP):Value→HP:=fun v h=>rG v fun cs0=>rT (cs0.getD 0 undef) fun r0_0=>rB (cs0.getD 1 undef) fun r0_1=>rI (cs0.getD 2 undef) fun r0_2=>rI (cs0.getD 3 undef) fun r0_3=>rI (cs0.getD 4 undef) fun r0_4=>rI (cs0.getD 5 undef) fun r0_5=>rS (cs0.getD 6 undef) fun r0_6=>rI (cs0.getD 7 undef) fun r0_7=>rI (cs0.getD 8 undef) fun r0_8=>rI (cs0.getD 9 undef) fun r0_9=>rS (cs0.getD 10 undef) fun r0_10=>rS (cs0.getD 11 undef) fun r0_11=>rS (cs0.getD 12 undef) fun r0_12=>rI (cs0.getD 13 undef) fun r0_13=>rI (cs0.getD 14 undef) fun r0_14=>K r0_0 r0_1 r0_2 r0_3 r0_4 r0_5 r0_6 r0_7 r0_8 r0_9 r0_10 r0_11 r0_12 r0_13 r0_14 h
variable (K:ByteArray→Bool→Int→Int→Int→Int→Sl→Int→Int→Int→Sl→Sl→Sl→Int→Int→HP) (Kp:PK) 
noncomputable def c17:Cx:=⟨Tryz.prog,ann17,ord17,none,code17,(retQ Tryz.prog Tryz.f100.results.toList z17 (kv17 K)),Kp⟩
variable {K Kp} {h:Hp}
end
end Go.Proofs.YtlbbdbdjiekkaaaGreatDoor
set_option maxRecDepth 100000
set_option maxHeartbeats 200000
/- What the functions do, printed by program (gen.py) in the words of ShCore; each text is held against the loaded program by the kernel. -/
namespace Go.Proofs.YtlbbdbdjiekkaaaGreatDoor
open Go Go.Sh
end Go.Proofs.YtlbbdbdjiekkaaaGreatDoor
set_option maxRecDepth 100000
set_option maxHeartbeats 200000
/- What the functions do, printed by program (gen.py) in the words of ShCore; each text is held against the loaded program by the kernel. -/
namespace Go.Proofs.YtlbbdbdjiekkaaaGreatDoor
open Go Go.Sh
section
def ann304:Ann:=[]
def ord304:OrdT:=[]
def z304:List Value:=[(.agg #[(.string (bs [])),(.bool false),(.int .i64 0),(.int .i64 0),(.int .i64 0),(.int .i64 0),(.slice none 0 0),(.int .i64 0),(.int .i64 0),(.slice none 0 0),(.int .i64 0),(.bool false),(.int .i64 0),(.string (bs [])),(.slice none 0 0),(.bool false)])]
def kv304 (K:ByteArray→Bool→Int→Int→Int→Int→Sl→Int→Int→Sl→Int→Bool→Int→ByteArray→Sl→Bool→HP):Value→HP:=fun v h=>rG v fun cs0=>rT (cs0.getD 0 undef) fun r0_0=>rB (cs0.getD 1 undef) fun r0_1=>rI (cs0.getD 2 undef) fun r0_2=>rI (cs0.getD 3 undef) fun r0_3=>rI (cs0.getD 4 undef) fun r0_4=>rI (cs0.getD 5 undef) fun r0_5=>rS (cs0.getD 6 undef) fun r0_6=>rI (cs0.getD 7 undef) fun r0_7=>rI (cs0.getD 8 undef) fun r0_8=>rS (cs0.getD 9 undef) fun r0_9=>rI (cs0.getD 10 undef) fun r0_10=>rB (cs0.getD 11 undef) fun r0_11=>rI (cs0.getD 12 undef) fun r0_12=>rT (cs0.getD 13 undef) fun r0_13=>rS (cs0.getD 14 undef) fun r0_14=>rB (cs0.getD 15 undef) fun r0_15=>K r0_0 r0_1 r0_2 r0_3 r0_4 r0_5 r0_6 r0_7 r0_8 r0_9 r0_10 r0_11 r0_12 r0_13 r0_14 r0_15 h
variable (K:ByteArray→Bool→Int→Int→Int→Int→Sl→Int→Int→Sl→Int→Bool→Int→ByteArray→Sl→Bool→HP) (Kp:PK) 
variable {K Kp} {h:Hp}
theorem Fn304.of {f_0:ByteArray} {f_1:Bool} {f_2 f_3 f_4 f_5:Int} {f_6:Sl} (H :
 NY29 h f_0 f_1 f_2 f_3 f_4 f_5 f_6 fun a1 h1 =>
 New h1 zY352 Y352 fun a2 h2 =>
 LY29 h2 a1 fun t6_0 t6_1 t6_2 t6_3 t6_4 t6_5 t6_6 =>
 Fn318 t6_0 t6_1 t6_2 t6_3 t6_4 t6_5 t6_6 h2 (fun t7_0_0 t7_0_1 t7_0_2 t7_0_3 t7_1 h3 =>
 New h3 zY66 Y66 fun a3 h4 =>
 SY66 h4 a3 t7_0_0 t7_0_1 t7_0_2 t7_0_3 fun h5 =>
 LY29 h5 a1 fun t10_0 t10_1 t10_2 t10_3 t10_4 t10_5 t10_6 =>
 LY66 h5 a3 fun t11_0 t11_1 t11_2 t11_3 =>
 SY352 h5 a2 t10_0 t10_1 t10_2 t10_3 t10_4 t10_5 t10_6 0 0 (⟨none,0,0⟩:Sl) 0 t11_0 t11_1 t11_2 t11_3 (t7_1 == 0) fun h6 =>
 LY352 h6 a2 fun r0_0 r0_1 r0_2 r0_3 r0_4 r0_5 r0_6 r0_7 r0_8 r0_9 r0_10 r0_11 r0_12 r0_13 r0_14 r0_15 =>
 K r0_0 r0_1 r0_2 r0_3 r0_4 r0_5 r0_6 r0_7 r0_8 r0_9 r0_10 r0_11 r0_12 r0_13 r0_14 r0_15 h6) Kp) :
 Fn304 f_0 f_1 f_2 f_3 f_4 f_5 f_6 h K Kp:=fnof (ann:=ann304) (o:=ord304) (zs:=z304) (Kv:=kv304 K) Tryz.func115 (by kernel_rfl) H (by kernel_rfl) (by kernel_rfl)
end
section
def ann305:Ann:=[]
def ord305:OrdT:=[]
def z305:List Value:=[(.bool false)]
def kv305 (K:Bool→HP):Value→HP:=fun v h=>rB v fun r0=>K r0 h
variable (K:Bool→HP) (Kp:PK) 
variable {K Kp} {h:Hp}
theorem Fn305.of {f_0:ByteArray} {f_1:Bool} {f_2 f_3 f_4 f_5:Int} {f_6:Sl} (H :
 NY29 h f_0 f_1 f_2 f_3 f_4 f_5 f_6 fun a1 h1 =>
 LY29 h1 a1 fun t3_0 t3_1 t3_2 t3_3 t3_4 t3_5 t3_6 =>
 Fn98 t3_0 t3_1 t3_2 t3_3 t3_4 t3_5 t3_6 h1 (fun t4_0 t4_1 t4_2 h2 =>
 K (t4_0 == 0) h2) Kp) :
 Fn305 f_0 f_1 f_2 f_3 f_4 f_5 f_6 h K Kp:=fnof (ann:=ann305) (o:=ord305) (zs:=z305) (Kv:=kv305 K) Tryz.func116 (by kernel_rfl) H (by kernel_rfl) (by kernel_rfl)
end
section
def ann306:Ann:=[]
def ord306:OrdT:=[]
def z306:List Value:=[(.bool false)]
def kv306 (K:Bool→HP):Value→HP:=fun v h=>rB v fun r0=>K r0 h
variable (K:Bool→HP) (Kp:PK) 
variable {K Kp} {h:Hp}
theorem Fn306.of {f_0:ByteArray} {f_1:Bool} {f_2 f_3 f_4 f_5:Int} {f_6:Sl} {v_0:Bool} {v_1:Int} {v_2:ByteArray} {v_3:Sl} (H :
 NY29 h f_0 f_1 f_2 f_3 f_4 f_5 f_6 fun a2 h1 =>
 NY66 h1 v_0 v_1 v_2 v_3 fun a3 h2 =>
 New h2 #[(.int .i64 4194304)] Y396 fun a7 h3 =>
 LY29 h3 a2 fun t9_0 t9_1 t9_2 t9_3 t9_4 t9_5 t9_6 =>
 LY66 h3 a3 fun t10_0 t10_1 t10_2 t10_3 =>
 Fn319 (some a7) t9_0 t9_1 t9_2 t9_3 t9_4 t9_5 t9_6 t10_0 t10_1 t10_2 t10_3 h3 (fun t11 h4 =>
 K t11 h4) Kp) :
 Fn306 f_0 f_1 f_2 f_3 f_4 f_5 f_6 v_0 v_1 v_2 v_3 h K Kp:=fnof (ann:=ann306) (o:=ord306) (zs:=z306) (Kv:=kv306 K) Tryz.func117 (by kernel_rfl) H (by kernel_rfl) (by kernel_rfl)
end
section
noncomputable def code307:Code:=Tryz.f118.body.getD .skip
variable (K:HP) (Kp:PK) 
variable {K Kp} {h:Hp}
end
section
def ann152:Ann:=[]
def ord152:OrdT:=[]
def z152:List Value:=[(.nilFunc)]
def kv152 (K:Value→HP):Value→HP:=fun v h=>rA v fun r0=>K r0 h
variable (K:Value→HP) (Kp:PK) 
variable {K Kp} {h:Hp}
theorem Fn152.of {l:Sl} {most:Int} (H :
 New h #[(Sl.v l)] Y25 fun a2 h1 =>
 New h1 #[(.int .i64 most)] Y6 fun a3 h2 =>
 K (.func (.func I170) #[] #[(.pointer (some a3)),(.pointer (some a2))]) h2) :
 Fn152 l most h K Kp:=fnof (ann:=ann152) (o:=ord152) (zs:=z152) (Kv:=kv152 K) Tryz.func119 (by kernel_rfl) H (by kernel_rfl) (by kernel_rfl)
end
section
noncomputable def code153:Code:=Tryz.f120.body.getD .skip
def ann153:Ann:=[(1002900016,[7,9,48])]
def ord153:OrdT:=[]
def z153:List Value:=[(.int .i64 0)]
def kv153 (K:Int→HP):Value→HP:=fun v h=>rI v fun r0=>K r0 h
variable (K:Int→HP) (Kp:PK) 
noncomputable def c153:Cx:=⟨Tryz.prog,ann153,ord153,none,code153,(retQ Tryz.prog Tryz.f120.results.toList z153 (kv153 K)),Kp⟩
def J153_1 (x7:Addr) (x9 x48:Bool):HP:=semJ (c153 K Kp) [1,1,1,0,0,1,1,1,1,1,1,1,1,1,1,1,1,0,1] [] (nn 7++[vP x7,nO,some (.bool x9),nO,nO,nO,nO,nO,nO,nO,nO,nO,nO,nO,nO,nO,nO,nO,nO,nO,nO,nO,nO,nO,nO,nO,nO,nO,nO,nO,nO,nO,nO,nO,nO,nO,nO,nO,nO,nO,nO,some (.bool x48)]++nn 25)
variable {K Kp} {x7:Addr} {x9 x48:Bool} {h:Hp}
theorem J153_1.of (H :
 If x48 (
 If x48 (
 K 36 h) (
 K 0 h)) (
 Ld h x7 mI fun t62 =>
 If (t62 == 19) (
 Ld h (x7.add 4) Sl.v fun t66 =>
 Ix t66.a t66.n 7 0 fun a67 =>
 Ld h (a67.add 1) .bool fun t69 =>
 If t69 (
 K 36 h) (
 If x9 (
 K 36 h) (
 K 0 h))) (
 K 0 h))) :
 J153_1 K Kp x7 x9 x48 h:=jof H (by kernel_rfl)
theorem Fn153.of {p_0 p_1:Sl} {p_2:ByteArray} {p_3:Bool} {p_4 p_5 p_6 p_7:Int} {p_8:Sl} {p_9:Bool} {ahead:Int} {ids:Option Nat} (H :
 NY224 h p_0 p_1 p_2 p_3 p_4 p_5 p_6 p_7 p_8 p_9 fun a3 h1 =>
 LY27 h1 ((a3.add 2).add 2) fun t12_0 t12_1 t12_2 t12_3 t12_4 =>
 New h1 zY27 Y27 fun a7 h2 =>
 SY27 h2 a7 t12_0 t12_1 t12_2 t12_3 t12_4 fun h3 =>
 Ld h3 (a7.add 2) mI fun t16 =>
 Lk h3 ids (.int .i64) (.int .i64 t16) (.int .i64 0) mI fun t17 t17ok =>
 Ld h3 a3 Sl.v fun t22 =>
 If (decide ((t22.n:Int) > 64)) (
 K 33 h3) (
 If (decide (ahead≥256)) (
 K 34 h3) (
 Ld h3 (a3.add 2) .string fun t31 =>
 Fn172 t31 h3 (fun t32 h4 =>
 If (!t32) (
 K 30 h4) (
 Ld h4 (a3.add 1) Sl.v fun t36 =>
 Fn204 t36 (.func (.func I173) #[] #[(.pointer (some a3))]) h4 (fun t38 h5 =>
 If t38 (
 K 31 h5) (
 LY27 h5 a7 fun t40_0 t40_1 t40_2 t40_3 t40_4 =>
 Fn174 t40_0 t40_1 t40_2 t40_3 t40_4 h5 (fun t41 h6 =>
 If (!t41) (
 K 32 h6) (
 LY29 h6 (a3.add 2) fun t45_0 t45_1 t45_2 t45_3 t45_4 t45_5 t45_6 =>
 Fn175 t45_0 t45_1 t45_2 t45_3 t45_4 t45_5 t45_6 h6 (fun t46 h7 =>
 If (!t46) (
 K 35 h7) (
 Ld h7 (a3.add 9) .bool fun t50 =>
 If t50 (
 Ld h7 a7 mI fun t53 =>
 If (t53 == 19) (
 J153_1 K Kp a7 t17ok true h7) (
 Ld h7 a7 mI fun t57 =>
 J153_1 K Kp a7 t17ok (t57 == 20) h7)) (
 J153_1 K Kp a7 t17ok false h7))) Kp)) Kp)) Kp)) Kp))) :
 Fn153 p_0 p_1 p_2 p_3 p_4 p_5 p_6 p_7 p_8 p_9 ahead ids h K Kp:=fnof (ann:=ann153) (o:=ord153) (zs:=z153) (Kv:=kv153 K) Tryz.func120 (by kernel_rfl) H (by kernel_rfl) (by kernel_rfl)
end
end Go.Proofs.YtlbbdbdjiekkaaaGreatDoor
set_option maxRecDepth 100000
set_option maxHeartbeats 200000
/- What the functions do, printed by program (gen.py) in the words of ShCore; each text is held against the loaded program by the kernel. -/
namespace Go.Proofs.YtlbbdbdjiekkaaaGreatDoor
open Go Go.Sh
section
noncomputable def code130:Code:=Tryz.f123.body.getD .skip
def ann130:Ann:=[(2000009,[2,3,4,5,8]),(2000015,[2,3,4,5,8]),(2000021,[2,3,4,5,8]),(2022,[2,3,4,5,8,120,121,122]),(64014,[2,3,4,5,8,13,14,120,121,122,140]),(2016,[2,3,4,5,8,99,100,101]),(2010,[2,3,4,5,8,85,86,87]),(3400005,[2,3,4,5,8,27]),(3600007,[2,3,4,5,8,48]),(47008,[2,3,4,5,8,78]),(45008,[2,3,4,5,8,56]),(45013,[2,3,4,5,8,61]),(43012,[2,3,4,5,7,8,39])]
def ord130:OrdT:=[]
def z130:List Value:=[(.agg #[(.int .i64 0),(.slice none 0 0),(.int .i64 0)])]
def kv130 (K:Int→Sl→Int→HP):Value→HP:=fun v h=>rG v fun cs0=>rI (cs0.getD 0 undef) fun r0_0=>rS (cs0.getD 1 undef) fun r0_1=>rI (cs0.getD 2 undef) fun r0_2=>K r0_0 r0_1 r0_2 h
variable (K:Int→Sl→Int→HP) (Kp:PK) (N1:Fr→HP) 
noncomputable def c130:Cx:=⟨Tryz.prog,ann130,ord130,none,code130,(retQ Tryz.prog Tryz.f123.results.toList z130 (kv130 K)),Kp⟩
abbrev mk130_4 (x2 x3 x4:Addr) (x5 x8:Int) (x120:Sl) (x121 x122:Int):Fr:=([nO,nO,vP x2,vP x3,vP x4,vI x5,nO,nO,vI x8,nO,nO,nO,nO,nO,nO,nO,nO,nO,nO,nO,nO,nO,nO,nO,nO,nO,nO,nO,nO,nO,nO,nO,nO,nO,nO,nO,nO,nO,nO,nO,nO,nO,nO,nO,nO,nO,nO,nO,nO,nO,nO,nO,nO,nO,nO,nO,nO,nO,nO,nO,nO,nO,nO,nO,nO,nO,nO,nO,nO,nO,nO,nO,nO,nO,nO,nO,nO,nO,nO,nO,nO,nO,nO,nO,nO,nO,nO,nO,nO,nO,nO,nO,nO,nO,nO,nO,nO,nO,nO,nO,nO,nO,nO,nO,nO,nO,nO,nO,nO,nO,nO,nO,nO,nO,nO,nO,nO,nO,nO,nO,vS x120,vI x121,vI x122]++nn 38)
def J130_5 (x2 x3 x4:Addr) (x5 x8 x13:Int) (x14:Addr) (x120:Sl) (x121 x122:Int) (x140:Bool):HP:=semR (c130 K Kp) [1,1,1,1,1,1,0,1,0,0,1,1,0,0,1,0] [N1] 24 [14,15,16,17,18,19,20,21,22,23,24,25] ([nO,nO,vP x2,vP x3,vP x4,vI x5,nO,nO,vI x8,nO,nO,nO,nO,vI x13,vP x14,nO,nO,nO,nO,nO,nO,nO,nO,nO,nO,nO,nO,nO,nO,nO,nO,nO,nO,nO,nO,nO,nO,nO,nO,nO,nO,nO,nO,nO,nO,nO,nO,nO,nO,nO,nO,nO,nO,nO,nO,nO,nO,nO,nO,nO,nO,nO,nO,nO,nO,nO,nO,nO,nO,nO,nO,nO,nO,nO,nO,nO,nO,nO,nO,nO,nO,nO,nO,nO,nO,nO,nO,nO,nO,nO,nO,nO,nO,nO,nO,nO,nO,nO,nO,nO,nO,nO,nO,nO,nO,nO,nO,nO,nO,nO,nO,nO,nO,nO,nO,nO,nO,nO,nO,nO,vS x120,vI x121,vI x122,nO,nO,nO,nO,nO,nO,nO,nO,nO,nO,nO,nO,nO,nO,nO,nO,nO,some (.bool x140)]++nn 20)
def L130_4 (x2 x3 x4:Addr) (x5 x8:Int) (x120:Sl) (x121 x122:Int):HP:=semL (c130 K Kp) 2022 [1,1,1,1,1,1,0,1,0] [] (mk130_4 x2 x3 x4 x5 x8 x120 x121 x122)
def J130_3 (x2 x3 x4:Addr) (x5 x8:Int):HP:=semJ (c130 K Kp) [1,1,1,1,1,1] [] ([nO,nO,vP x2,vP x3,vP x4,vI x5,nO,nO,vI x8]++nn 152)
abbrev mk130_6 (x2 x3 x4:Addr) (x5 x8:Int) (x99:Sl) (x100 x101:Int):Fr:=([nO,nO,vP x2,vP x3,vP x4,vI x5,nO,nO,vI x8,nO,nO,nO,nO,nO,nO,nO,nO,nO,nO,nO,nO,nO,nO,nO,nO,nO,nO,nO,nO,nO,nO,nO,nO,nO,nO,nO,nO,nO,nO,nO,nO,nO,nO,nO,nO,nO,nO,nO,nO,nO,nO,nO,nO,nO,nO,nO,nO,nO,nO,nO,nO,nO,nO,nO,nO,nO,nO,nO,nO,nO,nO,nO,nO,nO,nO,nO,nO,nO,nO,nO,nO,nO,nO,nO,nO,nO,nO,nO,nO,nO,nO,nO,nO,nO,nO,nO,nO,nO,nO,vS x99,vI x100,vI x101]++nn 59)
def L130_6 (x2 x3 x4:Addr) (x5 x8:Int) (x99:Sl) (x100 x101:Int):HP:=semL (c130 K Kp) 2016 [1,1,1,1,1,0,1,0] [] (mk130_6 x2 x3 x4 x5 x8 x99 x100 x101)
def J130_2 (x2 x3 x4:Addr) (x5 x8:Int):HP:=semJ (c130 K Kp) [1,1,1,1,1] [] ([nO,nO,vP x2,vP x3,vP x4,vI x5,nO,nO,vI x8]++nn 152)
abbrev mk130_7 (x2 x3 x4:Addr) (x5 x8:Int) (x85:Sl) (x86 x87:Int):Fr:=([nO,nO,vP x2,vP x3,vP x4,vI x5,nO,nO,vI x8,nO,nO,nO,nO,nO,nO,nO,nO,nO,nO,nO,nO,nO,nO,nO,nO,nO,nO,nO,nO,nO,nO,nO,nO,nO,nO,nO,nO,nO,nO,nO,nO,nO,nO,nO,nO,nO,nO,nO,nO,nO,nO,nO,nO,nO,nO,nO,nO,nO,nO,nO,nO,nO,nO,nO,nO,nO,nO,nO,nO,nO,nO,nO,nO,nO,nO,nO,nO,nO,nO,nO,nO,nO,nO,nO,nO,vS x85,vI x86,vI x87]++nn 73)
def L130_7 (x2 x3 x4:Addr) (x5 x8:Int) (x85:Sl) (x86 x87:Int):HP:=semL (c130 K Kp) 2010 [1,1,1,1,0,1,0] [] (mk130_7 x2 x3 x4 x5 x8 x85 x86 x87)
def J130_1 (x2 x3 x4:Addr) (x5 x8:Int):HP:=semJ (c130 K Kp) [1,1,1,1] [] ([nO,nO,vP x2,vP x3,vP x4,vI x5,nO,nO,vI x8]++nn 152)
def J130_10 (x2 x3 x4:Addr) (x5 x8:Int) (x78:Bool):HP:=semR (c130 K Kp) [1,1,1,0,0,1,1,1,1,0] [] 7 [8,9,10,11,12] ([nO,nO,vP x2,vP x3,vP x4,vI x5,nO,nO,vI x8,nO,nO,nO,nO,nO,nO,nO,nO,nO,nO,nO,nO,nO,nO,nO,nO,nO,nO,nO,nO,nO,nO,nO,nO,nO,nO,nO,nO,nO,nO,nO,nO,nO,nO,nO,nO,nO,nO,nO,nO,nO,nO,nO,nO,nO,nO,nO,nO,nO,nO,nO,nO,nO,nO,nO,nO,nO,nO,nO,nO,nO,nO,nO,nO,nO,nO,nO,nO,nO,some (.bool x78)]++nn 82)
def J130_9 (x2 x3 x4:Addr) (x5 x8:Int) (x48:Bool):HP:=semJ (c130 K Kp) [1,1,1,0,0,1,1,1] [] ([nO,nO,vP x2,vP x3,vP x4,vI x5,nO,nO,vI x8,nO,nO,nO,nO,nO,nO,nO,nO,nO,nO,nO,nO,nO,nO,nO,nO,nO,nO,nO,nO,nO,nO,nO,nO,nO,nO,nO,nO,nO,nO,nO,nO,nO,nO,nO,nO,nO,nO,nO,some (.bool x48)]++nn 112)
def J130_12 (x2 x3 x4:Addr) (x5 x8:Int) (x61:Bool):HP:=semR (c130 K Kp) [1,1,1,0,0,1,1,0] [] 5 [13,14,15,16,17,18,19,20] ([nO,nO,vP x2,vP x3,vP x4,vI x5,nO,nO,vI x8,nO,nO,nO,nO,nO,nO,nO,nO,nO,nO,nO,nO,nO,nO,nO,nO,nO,nO,nO,nO,nO,nO,nO,nO,nO,nO,nO,nO,nO,nO,nO,nO,nO,nO,nO,nO,nO,nO,nO,nO,nO,nO,nO,nO,nO,nO,nO,nO,nO,nO,nO,nO,some (.bool x61)]++nn 99)
def J130_11 (x2 x3 x4:Addr) (x5 x8:Int) (x56:Bool):HP:=semR (c130 K Kp) [1,1,1,0,0,1,1,0] [] 5 [8,9,10,11,12,13,14,15,16,17,18,19,20] ([nO,nO,vP x2,vP x3,vP x4,vI x5,nO,nO,vI x8,nO,nO,nO,nO,nO,nO,nO,nO,nO,nO,nO,nO,nO,nO,nO,nO,nO,nO,nO,nO,nO,nO,nO,nO,nO,nO,nO,nO,nO,nO,nO,nO,nO,nO,nO,nO,nO,nO,nO,nO,nO,nO,nO,nO,nO,nO,nO,some (.bool x56)]++nn 104)
def J130_8 (x2 x3 x4:Addr) (x5 x8:Int) (x27:Bool):HP:=semJ (c130 K Kp) [1,1,1,0,0,1] [] ([nO,nO,vP x2,vP x3,vP x4,vI x5,nO,nO,vI x8,nO,nO,nO,nO,nO,nO,nO,nO,nO,nO,nO,nO,nO,nO,nO,nO,nO,nO,some (.bool x27)]++nn 133)
def J130_13 (x2 x3 x4:Addr) (x5 x7 x8:Int) (x39:Bool):HP:=semR (c130 K Kp) [1,1,1,0,0,0] [] 3 [12,13,14,15,16,17,18,19] ([nO,nO,vP x2,vP x3,vP x4,vI x5,nO,vI x7,vI x8,nO,nO,nO,nO,nO,nO,nO,nO,nO,nO,nO,nO,nO,nO,nO,nO,nO,nO,nO,nO,nO,nO,nO,nO,nO,nO,nO,nO,nO,nO,some (.bool x39)]++nn 121)
variable {K Kp N1} {x2 x3 x4 x14:Addr} {x5 x7 x8 x86 x100 x13 x121 x122:Int} {x39 x61 x56 x78 x48 x27 x140:Bool} {x85 x99 x120:Sl} {h:Hp}
theorem J130_5.of (H :
 If x140 (
 Wr .i64 (x5+x13) fun t155 =>
 Fn99 82 t155 h (fun t156_0 t156_1 t156_2 h1 =>
 SY37 h1 x4 t156_0 t156_1 t156_2 fun h2 =>
 LY37 h2 x4 fun r0_0 r0_1 r0_2 =>
 K r0_0 r0_1 r0_2 h2) Kp) (
 Ld h (x2.add 2) mI fun t144 =>
 If (t144 == 17) (
 Ld h x14 mI fun t148 =>
 If (decide (t148 < x8)) (
 Wr .i64 (x5+x13) fun t155 =>
 Fn99 82 t155 h (fun t156_0 t156_1 t156_2 h1 =>
 SY37 h1 x4 t156_0 t156_1 t156_2 fun h2 =>
 LY37 h2 x4 fun r0_0 r0_1 r0_2 =>
 K r0_0 r0_1 r0_2 h2) Kp) (
 Wr .i64 (x122+1) fun t157 =>
 N1 (mk130_4 x2 x3 x4 x5 x8 x120 x121 t157) h)) (
 Wr .i64 (x122+1) fun t157 =>
 N1 (mk130_4 x2 x3 x4 x5 x8 x120 x121 t157) h))) :
 J130_5 K Kp N1 x2 x3 x4 x5 x8 x13 x14 x120 x121 x122 x140 h:=jof H (by kernel_rfl)
theorem L130_4.rule:LR1 (L130_4 K Kp x2 x3 x4 x5 x8 x120 x121) (mk130_4 x2 x3 x4 x5 x8 x120 x121) fun N1 (x122:Int) h =>
 (If (decide (x122 < x121)) (
 Ix x120.a x120.n 6 x122 fun a125 =>
 LY33 h a125 fun t126_0 t126_1 t126_2 t126_3 t126_4 t126_5 =>
 New h zY33 Y33 fun a14 h1 =>
 SY33 h1 a14 t126_0 t126_1 t126_2 t126_3 t126_4 t126_5 fun h2 =>
 Ld h2 (x2.add 2) mI fun t129 =>
 If (t129 == 16) (
 Ld h2 a14 mI fun t133 =>
 Ld h2 ((x2.add 2).add 1) mI fun t137 =>
 Wr .i64 (x8*t137) fun t138 =>
 J130_5 K Kp N1 x2 x3 x4 x5 x8 x122 a14 x120 x121 x122 (decide (t133 < t138)) h2) (
 J130_5 K Kp N1 x2 x3 x4 x5 x8 x122 a14 x120 x121 x122 false h2)) (
 LY29 h x2 fun t158_0 t158_1 t158_2 t158_3 t158_4 t158_5 t158_6 =>
 LY33 h x3 fun t159_0 t159_1 t159_2 t159_3 t159_4 t159_5 =>
 Fn156 t158_0 t158_1 t158_2 t158_3 t158_4 t158_5 t158_6 t159_0 t159_1 t159_2 t159_3 t159_4 t159_5 h (fun t160_0 t160_1 t160_2 h1 =>
 SY37 h1 x4 t160_0 t160_1 t160_2 fun h2 =>
 LY37 h2 x4 fun r0_0 r0_1 r0_2 =>
 K r0_0 r0_1 r0_2 h2) Kp)) :=
 loop1 (fun _ _=>rfl) fun _ _ _=>by kernel_rfl
theorem J130_3.of (H :
 Ld h (x3.add 4) Sl.v fun t120 =>
 L130_4 K Kp x2 x3 x4 x5 x8 t120 (t120.n:Int) 0 h) :
 J130_3 K Kp x2 x3 x4 x5 x8 h:=jof H (by kernel_rfl)
theorem L130_6.rule:LR1 (L130_6 K Kp x2 x3 x4 x5 x8 x99 x100) (mk130_6 x2 x3 x4 x5 x8 x99 x100) fun N1 (x101:Int) h =>
 (If (decide (x101 < x100)) (
 Ix x99.a x99.n 1 x101 fun a104 =>
 Ld h a104 Sl.v fun t105 =>
 LY27 h (x2.add 2) fun t109_0 t109_1 t109_2 t109_3 t109_4 =>
 Fn155 t109_0 t109_1 t109_2 t109_3 t109_4 x101 x8 (t105.n:Int) h (fun t114 h1 =>
 If (decide ((t105.n:Int) < t114)) (
 Fn99 82 x101 h1 (fun t117_0 t117_1 t117_2 h2 =>
 SY37 h2 x4 t117_0 t117_1 t117_2 fun h3 =>
 LY37 h3 x4 fun r0_0 r0_1 r0_2 =>
 K r0_0 r0_1 r0_2 h3) Kp) (
 Wr .i64 (x101+1) fun t118 =>
 N1 (mk130_6 x2 x3 x4 x5 x8 x99 x100 t118) h1)) Kp) (
 J130_3 K Kp x2 x3 x4 x5 x8 h)) :=
 loop1 (fun _ _=>rfl) fun _ _ _=>by kernel_rfl
theorem J130_2.of (H :
 Ld h (x3.add 3) Sl.v fun t99 =>
 L130_6 K Kp x2 x3 x4 x5 x8 t99 (t99.n:Int) 0 h) :
 J130_2 K Kp x2 x3 x4 x5 x8 h:=jof H (by kernel_rfl)
theorem L130_7.rule:LR1 (L130_7 K Kp x2 x3 x4 x5 x8 x85 x86) (mk130_7 x2 x3 x4 x5 x8 x85 x86) fun N1 (x87:Int) h =>
 (If (decide (x87 < x86)) (
 Ix x85.a x85.n 1 x87 fun a90 =>
 Ld h a90 Sl.v fun t91 =>
 If (decide ((t91.n:Int) > 65536)) (
 Fn99 4 x87 h (fun t96_0 t96_1 t96_2 h1 =>
 SY37 h1 x4 t96_0 t96_1 t96_2 fun h2 =>
 LY37 h2 x4 fun r0_0 r0_1 r0_2 =>
 K r0_0 r0_1 r0_2 h2) Kp) (
 Wr .i64 (x87+1) fun t97 =>
 N1 (mk130_7 x2 x3 x4 x5 x8 x85 x86 t97) h)) (
 J130_2 K Kp x2 x3 x4 x5 x8 h)) :=
 loop1 (fun _ _=>rfl) fun _ _ _=>by kernel_rfl
theorem J130_1.of (H :
 Ld h (x3.add 3) Sl.v fun t85 =>
 L130_7 K Kp x2 x3 x4 x5 x8 t85 (t85.n:Int) 0 h) :
 J130_1 K Kp x2 x3 x4 x5 x8 h:=jof H (by kernel_rfl)
theorem J130_10.of (H :
 If x78 (
 Fn99 3 0 h (fun t83_0 t83_1 t83_2 h1 =>
 SY37 h1 x4 t83_0 t83_1 t83_2 fun h2 =>
 LY37 h2 x4 fun r0_0 r0_1 r0_2 =>
 K r0_0 r0_1 r0_2 h2) Kp) (
 If (decide (x8 > 4096)) (
 Fn99 3 0 h (fun t83_0 t83_1 t83_2 h1 =>
 SY37 h1 x4 t83_0 t83_1 t83_2 fun h2 =>
 LY37 h2 x4 fun r0_0 r0_1 r0_2 =>
 K r0_0 r0_1 r0_2 h2) Kp) (
 J130_1 K Kp x2 x3 x4 x5 x8 h))) :
 J130_10 K Kp x2 x3 x4 x5 x8 x78 h:=jof H (by kernel_rfl)
theorem J130_9.of (H :
 If x48 (
 Fn99 81 0 h (fun t69_0 t69_1 t69_2 h1 =>
 SY37 h1 x4 t69_0 t69_1 t69_2 fun h2 =>
 LY37 h2 x4 fun r0_0 r0_1 r0_2 =>
 K r0_0 r0_1 r0_2 h2) Kp) (
 Ld h x3 mI fun t72 =>
 If (decide (t72 > 4096)) (
 J130_10 K Kp x2 x3 x4 x5 x8 true h) (
 Ld h (x3.add 1) mI fun t76 =>
 J130_10 K Kp x2 x3 x4 x5 x8 (decide (t76 > 4096)) h))) :
 J130_9 K Kp x2 x3 x4 x5 x8 x48 h:=jof H (by kernel_rfl)
theorem J130_12.of (H :
 If x61 (
 J130_9 K Kp x2 x3 x4 x5 x8 true h) (
 Ld h (x3.add 2) mI fun t64 =>
 Ld h x3 mI fun t66 =>
 J130_9 K Kp x2 x3 x4 x5 x8 (decide (t64 > t66)) h)) :
 J130_12 K Kp x2 x3 x4 x5 x8 x61 h:=jof H (by kernel_rfl)
theorem J130_11.of (H :
 If x56 (
 J130_12 K Kp x2 x3 x4 x5 x8 true h) (
 Ld h (x3.add 2) mI fun t59 =>
 J130_12 K Kp x2 x3 x4 x5 x8 (decide (t59 < 0)) h)) :
 J130_11 K Kp x2 x3 x4 x5 x8 x56 h:=jof H (by kernel_rfl)
theorem J130_8.of (H :
 If x27 (
 Fn99 80 0 h (fun t47_0 t47_1 t47_2 h1 =>
 SY37 h1 x4 t47_0 t47_1 t47_2 fun h2 =>
 LY37 h2 x4 fun r0_0 r0_1 r0_2 =>
 K r0_0 r0_1 r0_2 h2) Kp) (
 Ld h x3 mI fun t50 =>
 If (decide (t50 < 0)) (
 J130_11 K Kp x2 x3 x4 x5 x8 true h) (
 Ld h (x3.add 1) mI fun t54 =>
 J130_11 K Kp x2 x3 x4 x5 x8 (decide (t54 < 0)) h))) :
 J130_8 K Kp x2 x3 x4 x5 x8 x27 h:=jof H (by kernel_rfl)
theorem J130_13.of (H :
 If x39 (
 J130_8 K Kp x2 x3 x4 x5 x8 true h) (
 Ld h (x3.add 5) Sl.v fun t42 =>
 J130_8 K Kp x2 x3 x4 x5 x8 ((t42.n:Int) != x7) h)) :
 J130_13 K Kp x2 x3 x4 x5 x7 x8 x39 h:=jof H (by kernel_rfl)
theorem Fn130.of {f_0:ByteArray} {f_1:Bool} {f_2 f_3 f_4 f_5:Int} {f_6:Sl} {d_0 d_1 d_2:Int} {d_3 d_4 d_5:Sl} (H :
 NY29 h f_0 f_1 f_2 f_3 f_4 f_5 f_6 fun a2 h1 =>
 NY33 h1 d_0 d_1 d_2 d_3 d_4 d_5 fun a3 h2 =>
 New h2 zY37 Y37 fun a4 h3 =>
 LY27 h3 (a2.add 2) fun t17_0 t17_1 t17_2 t17_3 t17_4 =>
 Fn154 t17_0 t17_1 t17_2 t17_3 t17_4 h3 (fun t18_0 t18_1 t18_2 h4 =>
 Ld h4 (a3.add 1) mI fun t23 =>
 Ld h4 a3 mI fun t25 =>
 Wr .i64 (t23+t25) fun t26 =>
 Ld h4 (a3.add 3) Sl.v fun t29 =>
 If ((t29.n:Int) != t18_0) (
 J130_13 K Kp a2 a3 a4 t18_0 t18_2 t26 true h4) (
 Ld h4 (a3.add 4) Sl.v fun t35 =>
 J130_13 K Kp a2 a3 a4 t18_0 t18_2 t26 ((t35.n:Int) != t18_1) h4)) Kp) :
 Fn130 f_0 f_1 f_2 f_3 f_4 f_5 f_6 d_0 d_1 d_2 d_3 d_4 d_5 h K Kp:=fnof (ann:=ann130) (o:=ord130) (zs:=z130) (Kv:=kv130 K) Tryz.func123 (by kernel_rfl) H (by kernel_rfl) (by kernel_rfl)
end
section
noncomputable def code131:Code:=Tryz.f124.body.getD .skip
def ann131:Ann:=[(3500006,[2,3,4,13,14]),(2008,[3,4,24,25]),(2020,[2,3,4,71,72])]
def ord131:OrdT:=[]
def z131:List Value:=[(.agg #[(.int .i64 0),(.slice none 0 0),(.int .i64 0)])]
def kv131 (K:Int→Sl→Int→HP):Value→HP:=fun v h=>rG v fun cs0=>rI (cs0.getD 0 undef) fun r0_0=>rS (cs0.getD 1 undef) fun r0_1=>rI (cs0.getD 2 undef) fun r0_2=>K r0_0 r0_1 r0_2 h
variable (K:Int→Sl→Int→HP) (Kp:PK) 
noncomputable def c131:Cx:=⟨Tryz.prog,ann131,ord131,none,code131,(retQ Tryz.prog Tryz.f124.results.toList z131 (kv131 K)),Kp⟩
abbrev mk131_2 (x3 x4:Addr) (x24 x25:Int):Fr:=([nO,nO,nO,vP x3,vP x4,nO,nO,nO,nO,nO,nO,nO,nO,nO,nO,nO,nO,nO,nO,nO,nO,nO,nO,nO,vI x24,vI x25]++nn 69)
def L131_2 (x3 x4:Addr) (x24 x25:Int):HP:=semL (c131 K Kp) 2008 [1,0,1,0,1,1,1,0,1,0] [] (mk131_2 x3 x4 x24 x25)
abbrev mk131_3 (x2 x3 x4:Addr) (x71 x72:Int):Fr:=([nO,nO,vP x2,vP x3,vP x4,nO,nO,nO,nO,nO,nO,nO,nO,nO,nO,nO,nO,nO,nO,nO,nO,nO,nO,nO,nO,nO,nO,nO,nO,nO,nO,nO,nO,nO,nO,nO,nO,nO,nO,nO,nO,nO,nO,nO,nO,nO,nO,nO,nO,nO,nO,nO,nO,nO,nO,nO,nO,nO,nO,nO,nO,nO,nO,nO,nO,nO,nO,nO,nO,nO,nO,vI x71,vI x72]++nn 22)
def L131_3 (x2 x3 x4:Addr) (x71 x72:Int):HP:=semL (c131 K Kp) 2020 [1,0,1,0,1,1,1,1,1,0,1,0] [] (mk131_3 x2 x3 x4 x71 x72)
def J131_1 (x2 x3 x4:Addr) (x13:Int) (x14:Bool):HP:=semJ (c131 K Kp) [1,0,1,0,1] [] ([nO,nO,vP x2,vP x3,vP x4,nO,nO,nO,nO,nO,nO,nO,nO,vI x13,some (.bool x14)]++nn 80)
variable {K Kp} {x3 x4 x2:Addr} {x24 x71 x13:Int} {x14:Bool} {h:Hp}
theorem L131_2.rule:LR1 (L131_2 K Kp x3 x4 x24) (mk131_2 x3 x4 x24) fun N1 (x25:Int) h =>
 (If (decide (x25 < x24)) (
 Ld h (x3.add 1) mI fun t29 =>
 Wr .i64 (t29+x25) fun t31 =>
 Ld h (x3.add 3) Sl.v fun t33 =>
 Ix t33.a t33.n 1 0 fun a34 =>
 Ld h a34 Sl.v fun t35 =>
 Ix t35.a t35.n 1 t31 fun a37 =>
 Ld h a37 (.int .u8) fun t38 =>
 Wr .i64 t38 fun t39 =>
 Ld h (x3.add 4) Sl.v fun t42 =>
 If (decide (t39≥(t42.n:Int))) (
 Fn99 85 x25 h (fun t46_0 t46_1 t46_2 h1 =>
 SY37 h1 x4 t46_0 t46_1 t46_2 fun h2 =>
 LY37 h2 x4 fun r0_0 r0_1 r0_2 =>
 K r0_0 r0_1 r0_2 h2) Kp) (
 Ld h (x3.add 3) Sl.v fun t48 =>
 Ix t48.a t48.n 1 1 fun a49 =>
 Ld h a49 Sl.v fun t50 =>
 Fn158 t50 t31 h (fun t52 h1 =>
 If (decide (t52 < 0)) (
 Fn99 83 x25 h1 (fun t66_0 t66_1 t66_2 h2 =>
 SY37 h2 x4 t66_0 t66_1 t66_2 fun h3 =>
 LY37 h3 x4 fun r0_0 r0_1 r0_2 =>
 K r0_0 r0_1 r0_2 h3) Kp) (
 Ld h1 (x3.add 4) Sl.v fun t58 =>
 Ix t58.a t58.n 6 t39 fun a60 =>
 Ld h1 a60 mI fun t62 =>
 If (decide (t52≥t62)) (
 Fn99 83 x25 h1 (fun t66_0 t66_1 t66_2 h2 =>
 SY37 h2 x4 t66_0 t66_1 t66_2 fun h3 =>
 LY37 h3 x4 fun r0_0 r0_1 r0_2 =>
 K r0_0 r0_1 r0_2 h3) Kp) (
 Wr .i64 (x25+1) fun t67 =>
 N1 (mk131_2 x3 x4 x24 t67) h1))) Kp)) (
 SY37 h x4 0 (⟨none,0,0⟩:Sl) 0 fun h1 =>
 LY37 h1 x4 fun r0_0 r0_1 r0_2 =>
 K r0_0 r0_1 r0_2 h1)) :=
 loop1 (fun _ _=>rfl) fun _ _ _=>by kernel_rfl
theorem L131_3.rule:LR1 (L131_3 K Kp x2 x3 x4 x71) (mk131_3 x2 x3 x4 x71) fun N1 (x72:Int) h =>
 (If (decide (x72 < x71)) (
 Ld h (x3.add 1) mI fun t76 =>
 Wr .i64 (t76+x72) fun t78 =>
 LY29 h x2 fun t79_0 t79_1 t79_2 t79_3 t79_4 t79_5 t79_6 =>
 LY33 h x3 fun t80_0 t80_1 t80_2 t80_3 t80_4 t80_5 =>
 Fn105 t79_0 t79_1 t79_2 t79_3 t79_4 t79_5 t79_6 t80_0 t80_1 t80_2 t80_3 t80_4 t80_5 t78 h (fun t82 h1 =>
 If (!t82) (
 LY29 h1 x2 fun t85_0 t85_1 t85_2 t85_3 t85_4 t85_5 t85_6 =>
 LY33 h1 x3 fun t86_0 t86_1 t86_2 t86_3 t86_4 t86_5 =>
 Fn159 t85_0 t85_1 t85_2 t85_3 t85_4 t85_5 t85_6 t86_0 t86_1 t86_2 t86_3 t86_4 t86_5 t78 h1 (fun t88 h2 =>
 If (decide (t88 < 0)) (
 Fn99 86 x72 h2 (fun t92_0 t92_1 t92_2 h3 =>
 SY37 h3 x4 t92_0 t92_1 t92_2 fun h4 =>
 LY37 h4 x4 fun r0_0 r0_1 r0_2 =>
 K r0_0 r0_1 r0_2 h4) Kp) (
 Wr .i64 (x72+1) fun t93 =>
 N1 (mk131_3 x2 x3 x4 x71 t93) h2)) Kp) (
 Wr .i64 (x72+1) fun t93 =>
 N1 (mk131_3 x2 x3 x4 x71 t93) h1)) Kp) (
 SY37 h x4 0 (⟨none,0,0⟩:Sl) 0 fun h1 =>
 LY37 h1 x4 fun r0_0 r0_1 r0_2 =>
 K r0_0 r0_1 r0_2 h1)) :=
 loop1 (fun _ _=>rfl) fun _ _ _=>by kernel_rfl
theorem J131_1.of (H :
 If x14 (
 LY29 h x2 fun t18_0 t18_1 t18_2 t18_3 t18_4 t18_5 t18_6 =>
 LY33 h x3 fun t19_0 t19_1 t19_2 t19_3 t19_4 t19_5 =>
 Fn157 t18_0 t18_1 t18_2 t18_3 t18_4 t18_5 t18_6 t19_0 t19_1 t19_2 t19_3 t19_4 t19_5 h (fun t20_0 t20_1 t20_2 h1 =>
 SY37 h1 x4 t20_0 t20_1 t20_2 fun h2 =>
 LY37 h2 x4 fun r0_0 r0_1 r0_2 =>
 K r0_0 r0_1 r0_2 h2) Kp) (
 If (x13 == 18) (
 Ld h x3 mI fun t24 =>
 L131_2 K Kp x3 x4 t24 0 h) (
 If (x13 == 19) (
 Ld h x3 mI fun t71 =>
 L131_3 K Kp x2 x3 x4 t71 0 h) (
 SY37 h x4 0 (⟨none,0,0⟩:Sl) 0 fun h1 =>
 LY37 h1 x4 fun r0_0 r0_1 r0_2 =>
 K r0_0 r0_1 r0_2 h1)))) :
 J131_1 K Kp x2 x3 x4 x13 x14 h:=jof H (by kernel_rfl)
theorem Fn131.of {f_0:ByteArray} {f_1:Bool} {f_2 f_3 f_4 f_5:Int} {f_6:Sl} {d_0 d_1 d_2:Int} {d_3 d_4 d_5:Sl} (H :
 NY29 h f_0 f_1 f_2 f_3 f_4 f_5 f_6 fun a2 h1 =>
 NY33 h1 d_0 d_1 d_2 d_3 d_4 d_5 fun a3 h2 =>
 New h2 zY37 Y37 fun a4 h3 =>
 Ld h3 (a2.add 2) mI fun t13 =>
 If (t13 == 12) (
 J131_1 K Kp a2 a3 a4 t13 (t13 == 12) h3) (
 If (t13 == 13) (
 J131_1 K Kp a2 a3 a4 t13 (t13 == 13) h3) (
 J131_1 K Kp a2 a3 a4 t13 (t13 == 15) h3))) :
 Fn131 f_0 f_1 f_2 f_3 f_4 f_5 f_6 d_0 d_1 d_2 d_3 d_4 d_5 h K Kp:=fnof (ann:=ann131) (o:=ord131) (zs:=z131) (Kv:=kv131 K) Tryz.func124 (by kernel_rfl) H (by kernel_rfl) (by kernel_rfl)
end
section
def ann111:Ann:=[]
def ord111:OrdT:=[]
def z111:List Value:=[(.slice none 0 0)]
def kv111 (K:Sl→HP):Value→HP:=fun v h=>rS v fun r0=>K r0 h
variable (K:Sl→HP) (Kp:PK) 
variable {K Kp} {h:Hp}
theorem Fn111.of {d_0 d_1 d_2:Int} {d_3 d_4 d_5:Sl} (H :
 NY33 h d_0 d_1 d_2 d_3 d_4 d_5 fun a1 h1 =>
 Ld h1 (a1.add 5) Sl.v fun t4 =>
 If (decide ((t4.n:Int) > 0)) (
 Ld h1 (a1.add 5) Sl.v fun t8 =>
 K t8 h1) (
 Ld h1 (a1.add 4) Sl.v fun t10 =>
 K t10 h1)) :
 Fn111 d_0 d_1 d_2 d_3 d_4 d_5 h K Kp:=fnof (ann:=ann111) (o:=ord111) (zs:=z111) (Kv:=kv111 K) Tryz.func125 (by kernel_rfl) H (by kernel_rfl) (by kernel_rfl)
end
section
noncomputable def code110:Code:=Tryz.f126.body.getD .skip
def ann110:Ann:=[(2000003,[1,2,4])]
def ord110:OrdT:=[]
def z110:List Value:=[(.agg #[(.string (bs [])),(.bool false),(.int .i64 0),(.int .i64 0),(.int .i64 0),(.int .i64 0),(.slice none 0 0)])]
def kv110 (K:ByteArray→Bool→Int→Int→Int→Int→Sl→HP):Value→HP:=fun v h=>rG v fun cs0=>rT (cs0.getD 0 undef) fun r0_0=>rB (cs0.getD 1 undef) fun r0_1=>rI (cs0.getD 2 undef) fun r0_2=>rI (cs0.getD 3 undef) fun r0_3=>rI (cs0.getD 4 undef) fun r0_4=>rI (cs0.getD 5 undef) fun r0_5=>rS (cs0.getD 6 undef) fun r0_6=>K r0_0 r0_1 r0_2 r0_3 r0_4 r0_5 r0_6 h
variable (K:ByteArray→Bool→Int→Int→Int→Int→Sl→HP) (Kp:PK) 
noncomputable def c110:Cx:=⟨Tryz.prog,ann110,ord110,none,code110,(retQ Tryz.prog Tryz.f126.results.toList z110 (kv110 K)),Kp⟩
def J110_1 (x1:Int) (x2 x4:Addr):HP:=semJ (c110 K Kp) [1,1] [] ([nO,vI x1,vP x2,nO,vP x4]++nn 25)
variable {K Kp} {x1:Int} {x2 x4:Addr} {h:Hp}
theorem J110_1.of (H :
 Ld h (x2.add 2) mI fun t17 =>
 If (t17 == 20) (
 Ld h ((x2.add 2).add 4) Sl.v fun t21 =>
 Ix t21.a t21.n 7 0 fun a22 =>
 LY29 h a22 fun t23_0 t23_1 t23_2 t23_3 t23_4 t23_5 t23_6 =>
 SY29 h x4 t23_0 t23_1 t23_2 t23_3 t23_4 t23_5 t23_6 fun h1 =>
 LY29 h1 x4 fun r0_0 r0_1 r0_2 r0_3 r0_4 r0_5 r0_6 =>
 K r0_0 r0_1 r0_2 r0_3 r0_4 r0_5 r0_6 h1) (
 Ld h ((x2.add 2).add 4) Sl.v fun t26 =>
 Ix t26.a t26.n 7 x1 fun a28 =>
 LY29 h a28 fun t29_0 t29_1 t29_2 t29_3 t29_4 t29_5 t29_6 =>
 SY29 h x4 t29_0 t29_1 t29_2 t29_3 t29_4 t29_5 t29_6 fun h1 =>
 LY29 h1 x4 fun r0_0 r0_1 r0_2 r0_3 r0_4 r0_5 r0_6 =>
 K r0_0 r0_1 r0_2 r0_3 r0_4 r0_5 r0_6 h1)) :
 J110_1 K Kp x1 x2 x4 h:=jof H (by kernel_rfl)
theorem Fn110.of {f_0:ByteArray} {f_1:Bool} {f_2 f_3 f_4 f_5:Int} {f_6:Sl} {k:Int} (H :
 NY29 h f_0 f_1 f_2 f_3 f_4 f_5 f_6 fun a2 h1 =>
 New h1 zY29 Y29 fun a4 h2 =>
 Ld h2 (a2.add 2) mI fun t7 =>
 If (t7 == 20) (
 If (k == 0) (
 SY29 h2 a4 (bs [101,110,100,115]) false 5 0 0 0 (⟨none,0,0⟩:Sl) fun h3 =>
 LY29 h3 a4 fun r0_0 r0_1 r0_2 r0_3 r0_4 r0_5 r0_6 =>
 K r0_0 r0_1 r0_2 r0_3 r0_4 r0_5 r0_6 h3) (
 J110_1 K Kp k a2 a4 h2)) (
 J110_1 K Kp k a2 a4 h2)) :
 Fn110 f_0 f_1 f_2 f_3 f_4 f_5 f_6 k h K Kp:=fnof (ann:=ann110) (o:=ord110) (zs:=z110) (Kv:=kv110 K) Tryz.func126 (by kernel_rfl) H (by kernel_rfl) (by kernel_rfl)
end
section
noncomputable def code132:Code:=Tryz.f127.body.getD .skip
def ann132:Ann:=[(2000002,[1,2,3,4]),(2000013,[1,2,3,5]),(2006,[1,2,3,5,23,24])]
def ord132:OrdT:=[(8,(OT.l [0,1,2,3,4,5,6,7,8,9] .fin),[0,1,3,7,0,16,0,112,255,511]),(1,(OT.l [0,1,2,3,4,5,6,7] (.alt (OT.l [8,9,10,11] .fin) (OT.l [9,8,10,11] .fin))),[0,1,3,7,0,16,48,112,0,0,783,2047])]
def z132:List Value:=[(.agg #[(.int .i64 0),(.slice none 0 0),(.int .i64 0)])]
def kv132 (K:Int→Sl→Int→HP):Value→HP:=fun v h=>rG v fun cs0=>rI (cs0.getD 0 undef) fun r0_0=>rS (cs0.getD 1 undef) fun r0_1=>rI (cs0.getD 2 undef) fun r0_2=>K r0_0 r0_1 r0_2 h
variable (K:Int→Sl→Int→HP) (Kp:PK) 
noncomputable def c132:Cx:=⟨Tryz.prog,ann132,ord132,none,code132,(retQ Tryz.prog Tryz.f127.results.toList z132 (kv132 K)),Kp⟩
def J132_2 (x1 x2 x3:Addr) (x5:Int):HP:=semJ (c132 K Kp) [1,1,1,1,1] [] ([nO,vP x1,vP x2,vP x3,nO,vI x5]++nn 48)
abbrev mk132_3 (x1 x2 x3:Addr) (x23 x5 x24:Int):Fr:=([nO,vP x1,vP x2,vP x3,nO,vI x5,nO,nO,nO,nO,nO,nO,nO,nO,nO,nO,nO,nO,nO,nO,nO,nO,nO,vI x23,vI x24]++nn 29)
def L132_3 (x1 x2 x3:Addr) (x23 x5 x24:Int):HP:=semL (c132 K Kp) 2006 [1,1,1,1,0,1,0] [] (mk132_3 x1 x2 x3 x23 x5 x24)
def J132_1 (x1 x2 x3 x4:Addr):HP:=semJ (c132 K Kp) [1,1] [] ([nO,vP x1,vP x2,vP x3,vP x4]++nn 49)
variable {K Kp} {x1 x2 x3 x4:Addr} {x23 x5:Int} {h:Hp}
theorem J132_2.of (H :
 Ld h (x1.add 1) mI fun t45 =>
 Ld h x1 mI fun t47 =>
 Wr .i64 (t45+t47) fun t48 =>
 If (decide (x5 < t48)) (
 Ld h x3 mI fun t51 =>
 Fn99 87 t51 h (fun t52_0 t52_1 t52_2 h1 =>
 SY37 h1 x2 t52_0 t52_1 t52_2 fun h2 =>
 LY37 h2 x2 fun r0_0 r0_1 r0_2 =>
 K r0_0 r0_1 r0_2 h2) Kp) (
 SY37 h x2 0 (⟨none,0,0⟩:Sl) 0 fun h1 =>
 LY37 h1 x2 fun r0_0 r0_1 r0_2 =>
 K r0_0 r0_1 r0_2 h1)) :
 J132_2 K Kp x1 x2 x3 x5 h:=jof H (by kernel_rfl)
theorem L132_3.rule:LR2 (L132_3 K Kp x1 x2 x3 x23) (mk132_3 x1 x2 x3 x23) fun N1 (x5:Int) (x24:Int) h =>
 (If (decide (x24 < x23)) (
 Ld h (x3.add 3) Sl.v fun t28 =>
 Ix t28.a t28.n 1 1 fun a29 =>
 Ld h a29 Sl.v fun t30 =>
 Ld h (x3.add 1) mI fun t32 =>
 Wr .i64 (t32+x24) fun t34 =>
 Fn158 t30 t34 h (fun t35 h1 =>
 If (decide (t35≤x5)) (
 Fn99 87 x24 h1 (fun t40_0 t40_1 t40_2 h2 =>
 SY37 h2 x2 t40_0 t40_1 t40_2 fun h3 =>
 LY37 h3 x2 fun r0_0 r0_1 r0_2 =>
 K r0_0 r0_1 r0_2 h3) Kp) (
 Wr .i64 (x24+1) fun t42 =>
 N1 (mk132_3 x1 x2 x3 x23 t35 t42) h1)) Kp) (
 J132_2 K Kp x1 x2 x3 x5 h)) :=
 loop2 (fun _ _ _=>rfl) fun _ _ _ _=>by kernel_rfl
theorem J132_1.of (H :
 Ld h x3 mI fun t17 =>
 Ld h x4 mI fun t19 =>
 If (t17 != t19) (
 Fn99 6 0 h (fun t21_0 t21_1 t21_2 h1 =>
 SY37 h1 x2 t21_0 t21_1 t21_2 fun h2 =>
 LY37 h2 x2 fun r0_0 r0_1 r0_2 =>
 K r0_0 r0_1 r0_2 h2) Kp) (
 Ld h x3 mI fun t23 =>
 L132_3 K Kp x1 x2 x3 t23 0 0 h)) :
 J132_1 K Kp x1 x2 x3 x4 h:=jof H (by kernel_rfl)
theorem Fn132.of {d_0 d_1 d_2:Int} {d_3 d_4 d_5:Sl} (H :
 NY33 h d_0 d_1 d_2 d_3 d_4 d_5 fun a1 h1 =>
 New h1 zY37 Y37 fun a2 h2 =>
 Ld h2 (a1.add 4) Sl.v fun t9 =>
 Ix t9.a t9.n 6 0 fun a10 =>
 LY33 h2 a10 fun t11_0 t11_1 t11_2 t11_3 t11_4 t11_5 =>
 Ld h2 (a1.add 4) Sl.v fun t13 =>
 Ix t13.a t13.n 6 1 fun a14 =>
 LY33 h2 a14 fun t15_0 t15_1 t15_2 t15_3 t15_4 t15_5 =>
 (
 New h2 zY33 Y33 fun a3 h3 =>
 Keep h2 h3 a14 6 <|
 Keep h2 h3 (a1.add 4) 1 <|
 Keep h2 h3 a10 6 <|
 Keep h2 h3 (a1.add 4) 1 <|
 New h3 zY33 Y33 fun a4 h4 =>
 Keep h3 h4 a14 6 <|
 Keep h3 h4 (a1.add 4) 1 <|
 Keep h3 h4 a10 6 <|
 Keep h3 h4 (a1.add 4) 1 <|
 SY33 h4 a3 t11_0 t11_1 t11_2 t11_3 t11_4 t11_5 fun h5 =>
 Keep h4 h5 a14 6 <|
 Keep h4 h5 (a1.add 4) 1 <|
 SY33 h5 a4 t15_0 t15_1 t15_2 t15_3 t15_4 t15_5 fun h6 =>
 J132_1 K Kp a1 a2 a3 a4 h6)∧(
 New h2 zY33 Y33 fun a4 h3 =>
 Keep h2 h3 a14 6 <|
 Keep h2 h3 (a1.add 4) 1 <|
 Keep h2 h3 a10 6 <|
 Keep h2 h3 (a1.add 4) 1 <|
 New h3 zY33 Y33 fun a3 h4 =>
 Keep h3 h4 a14 6 <|
 Keep h3 h4 (a1.add 4) 1 <|
 Keep h3 h4 a10 6 <|
 Keep h3 h4 (a1.add 4) 1 <|
 SY33 h4 a3 t11_0 t11_1 t11_2 t11_3 t11_4 t11_5 fun h5 =>
 Keep h4 h5 a14 6 <|
 Keep h4 h5 (a1.add 4) 1 <|
 SY33 h5 a4 t15_0 t15_1 t15_2 t15_3 t15_4 t15_5 fun h6 =>
 J132_1 K Kp a1 a2 a3 a4 h6)) :
 Fn132 d_0 d_1 d_2 d_3 d_4 d_5 h K Kp:=fnof (ann:=ann132) (o:=ord132) (zs:=z132) (Kv:=kv132 K) Tryz.func127 (by kernel_rfl) H (by kernel_rfl) (by kernel_rfl)
end
end Go.Proofs.YtlbbdbdjiekkaaaGreatDoor
set_option maxRecDepth 100000
set_option maxHeartbeats 200000
/- What the functions do, printed by program (gen.py) in the words of ShCore; each text is held against the loaded program by the kernel. -/
namespace Go.Proofs.YtlbbdbdjiekkaaaGreatDoor
open Go Go.Sh
section
noncomputable def code133:Code:=Tryz.f128.body.getD .skip
def ann133:Ann:=[(2005,[2,3,4,7,8,9,25,26]),(2000036,[2,3,4,7,8,9,10,12,13,25,26]),(2037,[2,3,4,7,8,9,10,25,26,191,192,193]),(4600017,[2,3,4,7,8,9,10,11,12,13,25,26,41,52]),(2023,[2,3,4,7,8,9,10,11,12,13,25,26,103,104,105]),(2033,[2,3,4,7,8,9,10,11,12,13,16,25,26])]
def ord133:OrdT:=[(13,(OT.l [0,1,2,3,4,5,6,7,8] .fin),[0,0,3,7,0,16,63,127,255]),(16,(OT.l [0,1,2,3,4,5,6,7,8,9,11,12,13,14,15,10,16,17,18,19,20] .fin),[0,0,3,7,0,16,48,112,0,256,1008,0,2048,6144,14336,0,65520,131056,262143,524287,1048575]),(18,(OT.l [0,1,2,3,4,6,7,8,9,10,11,5,12,13,14] .fin),[0,1,3,7,0,31,0,64,192,448,0,1024,4095,8191,16383]),(20,(OT.l [0,1,2,3,4,5,6,7,8,9,10] .fin),[0,0,2,7,0,16,0,64,240,15,1023]),(25,(OT.l [0,1,2,3,4,5,6,7,8,9,10] .fin),[0,0,3,7,0,0,48,112,255,511,1023]),(28,(OT.l [0,1,2,3,4,5,6,7,8,9,10,11,12,13,14,15,16,17,18,19,20,21,22,23,24] .fin),[0,0,3,7,0,0,32,96,224,0,992,2016,4080,8176,0,16384,49152,114688,0,507904,1048560,2097136,4194303,8388607,16777215]),(30,(OT.l [0,1,2,3,4,5,6,7,8,9,10,11,12] .fin),[0,0,0,4,12,0,0,0,224,508,1020,2047,4095]),(33,(OT.l [0,1,2,3,4,5,6,7,9,8,10] .fin),[0,1,3,7,0,16,0,112,255,0,1023])]
def z133:List Value:=[(.slice none 0 0)]
def kv133 (K:Sl→HP):Value→HP:=fun v h=>rS v fun r0=>K r0 h
variable (K:Sl→HP) (Kp:PK) (N1:Fr→HP) 
noncomputable def c133:Cx:=⟨Tryz.prog,ann133,ord133,none,code133,(retQ Tryz.prog Tryz.f128.results.toList z133 (kv133 K)),Kp⟩
abbrev mk133_1 (x2:Sl) (x3 x4 x7:Addr) (x8:Sl) (x25 x9 x26:Int):Fr:=([nO,nO,vS x2,vP x3,vP x4,nO,nO,vP x7,vS x8,vI x9,nO,nO,nO,nO,nO,nO,nO,nO,nO,nO,nO,nO,nO,nO,nO,vI x25,vI x26]++nn 180)
abbrev mk133_3 (x2:Sl) (x3 x4 x7:Addr) (x8:Sl) (x9 x10 x25 x26:Int) (x191:Sl) (x192 x193:Int):Fr:=([nO,nO,vS x2,vP x3,vP x4,nO,nO,vP x7,vS x8,vI x9,vI x10,nO,nO,nO,nO,nO,nO,nO,nO,nO,nO,nO,nO,nO,nO,vI x25,vI x26,nO,nO,nO,nO,nO,nO,nO,nO,nO,nO,nO,nO,nO,nO,nO,nO,nO,nO,nO,nO,nO,nO,nO,nO,nO,nO,nO,nO,nO,nO,nO,nO,nO,nO,nO,nO,nO,nO,nO,nO,nO,nO,nO,nO,nO,nO,nO,nO,nO,nO,nO,nO,nO,nO,nO,nO,nO,nO,nO,nO,nO,nO,nO,nO,nO,nO,nO,nO,nO,nO,nO,nO,nO,nO,nO,nO,nO,nO,nO,nO,nO,nO,nO,nO,nO,nO,nO,nO,nO,nO,nO,nO,nO,nO,nO,nO,nO,nO,nO,nO,nO,nO,nO,nO,nO,nO,nO,nO,nO,nO,nO,nO,nO,nO,nO,nO,nO,nO,nO,nO,nO,nO,nO,nO,nO,nO,nO,nO,nO,nO,nO,nO,nO,nO,nO,nO,nO,nO,nO,nO,nO,nO,nO,nO,nO,nO,nO,nO,nO,nO,nO,nO,nO,nO,nO,nO,nO,nO,nO,nO,nO,nO,nO,nO,vS x191,vI x192,vI x193]++nn 13)
def L133_3 (x2:Sl) (x3 x4 x7:Addr) (x8:Sl) (x9 x10 x25 x26:Int) (x191:Sl) (x192 x193:Int):HP:=semL (c133 K Kp) 2037 [1,1,1,1,0,1,0,0,1,1,0,0,1,1,1,1,1,1,1,0] [N1] (mk133_3 x2 x3 x4 x7 x8 x9 x10 x25 x26 x191 x192 x193)
def J133_2 (x2:Sl) (x3 x4 x7:Addr) (x8:Sl) (x9 x10 x12 x13 x25 x26:Int):HP:=semJ (c133 K Kp) [1,1,1,1,0,1,0,0,1,1,0,0,1,1,1,1,1,1] [N1] ([nO,nO,vS x2,vP x3,vP x4,nO,nO,vP x7,vS x8,vI x9,vI x10,nO,vI x12,vI x13,nO,nO,nO,nO,nO,nO,nO,nO,nO,nO,nO,vI x25,vI x26]++nn 180)
abbrev mk133_5 (x2:Sl) (x3 x4 x7:Addr) (x8:Sl) (x9 x10 x11 x12 x13 x25 x26:Int) (x103:Sl) (x104 x105:Int):Fr:=([nO,nO,vS x2,vP x3,vP x4,nO,nO,vP x7,vS x8,vI x9,vI x10,vI x11,vI x12,vI x13,nO,nO,nO,nO,nO,nO,nO,nO,nO,nO,nO,vI x25,vI x26,nO,nO,nO,nO,nO,nO,nO,nO,nO,nO,nO,nO,nO,nO,nO,nO,nO,nO,nO,nO,nO,nO,nO,nO,nO,nO,nO,nO,nO,nO,nO,nO,nO,nO,nO,nO,nO,nO,nO,nO,nO,nO,nO,nO,nO,nO,nO,nO,nO,nO,nO,nO,nO,nO,nO,nO,nO,nO,nO,nO,nO,nO,nO,nO,nO,nO,nO,nO,nO,nO,nO,nO,nO,nO,nO,nO,vS x103,vI x104,vI x105]++nn 101)
def L133_5 (x2:Sl) (x3 x4 x7:Addr) (x8:Sl) (x9 x10 x11 x12 x13 x25 x26:Int) (x103:Sl) (x104 x105:Int):HP:=semL (c133 K Kp) 2023 [1,1,1,1,0,1,0,0,1,1,0,0,1,1,1,1,1,0,1,0,1,1,1,1,1,1,1,1,1,0,1,0] [N1] (mk133_5 x2 x3 x4 x7 x8 x9 x10 x11 x12 x13 x25 x26 x103 x104 x105)
abbrev mk133_6 (x2:Sl) (x3 x4 x7:Addr) (x8:Sl) (x10 x11 x12 x13:Int) (x16:Addr) (x25 x26 x9:Int):Fr:=([nO,nO,vS x2,vP x3,vP x4,nO,nO,vP x7,vS x8,vI x9,vI x10,vI x11,vI x12,vI x13,nO,nO,vP x16,nO,nO,nO,nO,nO,nO,nO,nO,vI x25,vI x26]++nn 180)
def L133_6 (x2:Sl) (x3 x4 x7:Addr) (x8:Sl) (x10 x11 x12 x13:Int) (x16:Addr) (x25 x26 x9:Int):HP:=semL (c133 K Kp) 2033 [1,1,1,1,0,1,0,0,1,1,0,0,1,1,1,1,1,0,1,0,1,1,1,1,1,1,1,1,1,1,1,1,1,1,1,0,1,0,0] [N1] (mk133_6 x2 x3 x4 x7 x8 x10 x11 x12 x13 x16 x25 x26 x9)
def J133_4 (x2:Sl) (x3 x4 x7:Addr) (x8:Sl) (x9 x10 x11 x12 x13 x25 x26 x41:Int) (x52:Bool):HP:=semJ (c133 K Kp) [1,1,1,1,0,1,0,0,1,1,0,0,1,1,1,1,1,0,1,0,1,1,1] [N1] ([nO,nO,vS x2,vP x3,vP x4,nO,nO,vP x7,vS x8,vI x9,vI x10,vI x11,vI x12,vI x13,nO,nO,nO,nO,nO,nO,nO,nO,nO,nO,nO,vI x25,vI x26,nO,nO,nO,nO,nO,nO,nO,nO,nO,nO,nO,nO,nO,nO,vI x41,nO,nO,nO,nO,nO,nO,nO,nO,nO,nO,some (.bool x52)]++nn 154)
def L133_1 (x2:Sl) (x3 x4 x7:Addr) (x8:Sl) (x25 x9 x26:Int):HP:=semL (c133 K Kp) 2005 [1,1,1,1,0,1,0] [] (mk133_1 x2 x3 x4 x7 x8 x25 x9 x26)
variable {K Kp N1} {x2 x8 x103 x191:Sl} {x3 x4 x7 x16:Addr} {x9 x10 x11 x12 x13 x25 x26 x104 x41 x192:Int} {x52:Bool} {h:Hp}
theorem L133_3.rule:LR1 (L133_3 K Kp N1 x2 x3 x4 x7 x8 x9 x10 x25 x26 x191 x192) (mk133_3 x2 x3 x4 x7 x8 x9 x10 x25 x26 x191 x192) fun N2 (x193:Int) h =>
 (If (decide (x193 < x192)) (
 Ix x191.a x191.n 1 x193 fun a195 =>
 Ld h a195 mI fun t196 =>
 Ix x8.a x8.n 1 x10 fun a199 =>
 Ld h a199 mI fun t200 =>
 Wr .i64 (t200+t196) fun t202 =>
 Ix x8.a x8.n 1 x10 fun a203 =>
 St h a203 (.int .i64 t202) fun h1 =>
 Wr .i64 (x193+1) fun t204 =>
 N2 (mk133_3 x2 x3 x4 x7 x8 x9 x10 x25 x26 x191 x192 t204) h1) (
 Wr .i64 (x26+1) fun t205 =>
 N1 (mk133_1 x2 x3 x4 x7 x8 x25 x9 t205) h)) :=
 loop1 (fun _ _=>rfl) fun _ _ _=>by kernel_rfl
theorem J133_2.of (H :
 Fn160 x2 x12 x13 h (fun t191 h1 =>
 L133_3 K Kp N1 x2 x3 x4 x7 x8 x9 x10 x25 x26 t191 (t191.n:Int) 0 h1) Kp) :
 J133_2 K Kp N1 x2 x3 x4 x7 x8 x9 x10 x12 x13 x25 x26 h:=jof H (by kernel_rfl)
theorem L133_5.rule:LR1 (L133_5 K Kp N1 x2 x3 x4 x7 x8 x9 x10 x11 x12 x13 x25 x26 x103 x104) (mk133_5 x2 x3 x4 x7 x8 x9 x10 x11 x12 x13 x25 x26 x103 x104) fun N2 (x105:Int) h =>
 (If (decide (x105 < x104)) (
 Ix x103.a x103.n 1 x105 fun a107 =>
 Ld h a107 Sl.v fun t108 =>
 Ix x8.a x8.n 1 x10 fun a111 =>
 Ld h a111 mI fun t112 =>
 Ix t108.a t108.n 1 x11 fun a115 =>
 Ld h a115 mI fun t116 =>
 Wr .i64 (t112+t116) fun t117 =>
 Ix x8.a x8.n 1 x10 fun a118 =>
 St h a118 (.int .i64 t117) fun h1 =>
 Wr .i64 (x105+1) fun t119 =>
 N2 (mk133_5 x2 x3 x4 x7 x8 x9 x10 x11 x12 x13 x25 x26 x103 x104 t119) h1) (
 J133_2 K Kp N1 x2 x3 x4 x7 x8 x9 x10 x12 x13 x25 x26 h)) :=
 loop1 (fun _ _=>rfl) fun _ _ _=>by kernel_rfl
theorem L133_6.rule:LR1 (L133_6 K Kp N1 x2 x3 x4 x7 x8 x10 x11 x12 x13 x16 x25 x26) (mk133_6 x2 x3 x4 x7 x8 x10 x11 x12 x13 x16 x25 x26) fun N2 (x9:Int) h =>
 (Ld h (x16.add 3) Sl.v fun t167 =>
 Ix t167.a t167.n 1 1 fun a168 =>
 Ld h a168 Sl.v fun t169 =>
 Ld h (x16.add 1) mI fun t171 =>
 Wr .i64 (t171+x9) fun t173 =>
 Fn158 t169 t173 h (fun t174 h1 =>
 If (decide (t174≤x11)) (
 Wr .i64 (x9+1) fun t178 =>
 N2 (mk133_6 x2 x3 x4 x7 x8 x10 x11 x12 x13 x16 x25 x26 t178) h1) (
 Ix x2.a x2.n 1 1 fun a182 =>
 Ld h1 a182 Sl.v fun t183 =>
 Ix t183.a t183.n 1 x9 fun a185 =>
 Ld h1 a185 mI fun t186 =>
 Ix x8.a x8.n 1 x10 fun a187 =>
 St h1 a187 (.int .i64 t186) fun h2 =>
 J133_2 K Kp N1 x2 x3 x4 x7 x8 x9 x10 x12 x13 x25 x26 h2)) Kp) :=
 loop1 (fun _ _=>rfl) fun _ _ _=>by kernel_rfl
theorem J133_4.of (H :
 If x52 (
 Ix x8.a x8.n 1 x10 fun a57 =>
 Ld h a57 mI fun t58 =>
 Ld h (x4.add 3) Sl.v fun t60 =>
 Ix t60.a t60.n 1 1 fun a61 =>
 Ld h a61 Sl.v fun t62 =>
 Wr .i64 (x11+1) fun t64 =>
 Ld h (x4.add 3) Sl.v fun t67 =>
 Ix t67.a t67.n 1 1 fun a68 =>
 Ld h a68 Sl.v fun t69 =>
 Fn158 t62 t64 h (fun t65 h1 =>
 Keep h h1 a68 1 <|
 Keep h h1 (x4.add 3) 1 <|
 Keep h h1 a57 1 <|
 Fn158 t69 x11 h1 (fun t71 h2 =>
 Keep h1 h2 a57 1 <|
 Wr .i64 (t65 - t71) fun t72 =>
 Wr .i64 (t58+t72) fun t73 =>
 Ix x8.a x8.n 1 x10 fun a74 =>
 St h2 a74 (.int .i64 t73) fun h3 =>
 J133_2 K Kp N1 x2 x3 x4 x7 x8 x9 x10 x12 x13 x25 x26 h3) Kp) Kp) (
 If (x41 == 15) (
 Ld h (x4.add 3) Sl.v fun t78 =>
 Ix t78.a t78.n 1 1 fun a79 =>
 Ld h a79 Sl.v fun t80 =>
 Ld h (x4.add 3) Sl.v fun t84 =>
 Ix t84.a t84.n 1 1 fun a85 =>
 Ld h a85 Sl.v fun t86 =>
 Wr .i64 (x11+1) fun t88 =>
 Fn158 t80 x11 h (fun t82 h1 =>
 Keep h h1 a85 1 <|
 Keep h h1 (x4.add 3) 1 <|
 Fn158 t86 t88 h1 (fun t89 h2 =>
 J133_2 K Kp N1 x2 x3 x4 x7 x8 x9 x10 t82 t89 x25 x26 h2) Kp) Kp) (
 If (x41 == 16) (
 Ld h (x7.add 1) mI fun t94 =>
 Wr .i64 (x11*t94) fun t95 =>
 Wr .i64 (x11+1) fun t97 =>
 Ld h (x7.add 1) mI fun t99 =>
 Wr .i64 (t97*t99) fun t100 =>
 J133_2 K Kp N1 x2 x3 x4 x7 x8 x9 x10 t95 t100 x25 x26 h) (
 If (x41 == 17) (
 L133_5 K Kp N1 x2 x3 x4 x7 x8 x9 x10 x11 x12 x13 x25 x26 x2 (x2.n:Int) 0 h) (
 If (x41 == 18) (
 Ix x8.a x8.n 1 x10 fun a124 =>
 Ld h a124 mI fun t125 =>
 Ld h (x4.add 3) Sl.v fun t128 =>
 Ix t128.a t128.n 1 0 fun a129 =>
 Ld h a129 Sl.v fun t130 =>
 Ix t130.a t130.n 1 x11 fun a132 =>
 Ld h a132 (.int .u8) fun t133 =>
 Ix x2.a x2.n 1 t133 fun a134 =>
 Ld h a134 Sl.v fun t135 =>
 Ld h (x4.add 3) Sl.v fun t137 =>
 Ix t137.a t137.n 1 1 fun a138 =>
 Ld h a138 Sl.v fun t139 =>
 Fn158 t139 x11 h (fun t141 h1 =>
 Keep h h1 a134 1 <|
 Keep h h1 a132 1 <|
 Keep h h1 a129 1 <|
 Keep h h1 (x4.add 3) 1 <|
 Keep h h1 a124 1 <|
 Ix t135.a t135.n 1 t141 fun a142 =>
 Ld h1 a142 mI fun t143 =>
 Wr .i64 (t125+t143) fun t144 =>
 Ix x8.a x8.n 1 x10 fun a145 =>
 St h1 a145 (.int .i64 t144) fun h2 =>
 J133_2 K Kp N1 x2 x3 x4 x7 x8 x9 x10 x12 x13 x25 x26 h2) Kp) (
 If (x41 == 19) (
 Ix x2.a x2.n 1 0 fun a151 =>
 Ld h a151 Sl.v fun t152 =>
 LY29 h x3 fun t153_0 t153_1 t153_2 t153_3 t153_4 t153_5 t153_6 =>
 LY33 h x4 fun t154_0 t154_1 t154_2 t154_3 t154_4 t154_5 =>
 Fn159 t153_0 t153_1 t153_2 t153_3 t153_4 t153_5 t153_6 t154_0 t154_1 t154_2 t154_3 t154_4 t154_5 x11 h (fun t156 h1 =>
 Keep h h1 a151 1 <|
 Ix t152.a t152.n 1 t156 fun a157 =>
 Ld h1 a157 mI fun t158 =>
 Ix x8.a x8.n 1 x10 fun a159 =>
 St h1 a159 (.int .i64 t158) fun h2 =>
 J133_2 K Kp N1 x2 x3 x4 x7 x8 x9 x10 x12 x13 x25 x26 h2) Kp) (
 If (x41 == 20) (
 Ld h (x4.add 4) Sl.v fun t163 =>
 Ix t163.a t163.n 6 0 fun a164 =>
 LY33 h a164 fun t165_0 t165_1 t165_2 t165_3 t165_4 t165_5 =>
 New h zY33 Y33 fun a16 h1 =>
 SY33 h1 a16 t165_0 t165_1 t165_2 t165_3 t165_4 t165_5 fun h2 =>
 L133_6 K Kp N1 x2 x3 x4 x7 x8 x10 x11 x12 x13 a16 x25 x26 x9 h2) (
 J133_2 K Kp N1 x2 x3 x4 x7 x8 x9 x10 x12 x13 x25 x26 h)))))))) :
 J133_4 K Kp N1 x2 x3 x4 x7 x8 x9 x10 x11 x12 x13 x25 x26 x41 x52 h:=jof H (by kernel_rfl)
theorem L133_1.rule:LR2 (L133_1 K Kp x2 x3 x4 x7 x8 x25) (mk133_1 x2 x3 x4 x7 x8 x25) fun N1 (x9:Int) (x26:Int) h =>
 (If (decide (x26 < x25)) (
 Ld h (x4.add 1) mI fun t30 =>
 Wr .i64 (t30+x26) fun t32 =>
 Ix x8.a x8.n 1 x26 fun a35 =>
 St h a35 (.int .i64 16) fun h1 =>
 LY29 h1 x3 fun t36_0 t36_1 t36_2 t36_3 t36_4 t36_5 t36_6 =>
 LY33 h1 x4 fun t37_0 t37_1 t37_2 t37_3 t37_4 t37_5 =>
 Fn105 t36_0 t36_1 t36_2 t36_3 t36_4 t36_5 t36_6 t37_0 t37_1 t37_2 t37_3 t37_4 t37_5 t32 h1 (fun t39 h2 =>
 If t39 (
 Wr .i64 (x26+1) fun t205 =>
 N1 (mk133_1 x2 x3 x4 x7 x8 x25 x9 t205) h2) (
 Ld h2 x7 mI fun t41 =>
 If (t41 == 14) (
 Ix x8.a x8.n 1 x26 fun a46 =>
 Ld h2 a46 mI fun t47 =>
 Ld h2 (x7.add 1) mI fun t49 =>
 Wr .i64 (t47+t49) fun t50 =>
 Ix x8.a x8.n 1 x26 fun a51 =>
 St h2 a51 (.int .i64 t50) fun h3 =>
 J133_2 K Kp N1 x2 x3 x4 x7 x8 x9 x26 0 0 x25 x26 h3) (
 If (t41 == 12) (
 J133_4 K Kp N1 x2 x3 x4 x7 x8 x9 x26 t32 0 0 x25 x26 t41 (t41 == 12) h2) (
 J133_4 K Kp N1 x2 x3 x4 x7 x8 x9 x26 t32 0 0 x25 x26 t41 (t41 == 13) h2)))) Kp) (
 K x8 h)) :=
 loop2 (fun _ _ _=>rfl) fun _ _ _ _=>by kernel_rfl
theorem Fn133.of {f_0:ByteArray} {f_1:Bool} {f_2 f_3 f_4 f_5:Int} {f_6:Sl} {d_0 d_1 d_2:Int} {d_3 d_4 d_5 within:Sl} (H :
 NY29 h f_0 f_1 f_2 f_3 f_4 f_5 f_6 fun a3 h1 =>
 NY33 h1 d_0 d_1 d_2 d_3 d_4 d_5 fun a4 h2 =>
 LY27 h2 (a3.add 2) fun t20_0 t20_1 t20_2 t20_3 t20_4 =>
 New h2 zY27 Y27 fun a7 h3 =>
 SY27 h3 a7 t20_0 t20_1 t20_2 t20_3 t20_4 fun h4 =>
 Ld h4 a4 mI fun t22 =>
 MkS h4 Y6 #[(.int .i64 0)] 1 8 t22 t22 fun t23 h5 =>
 L133_1 K Kp within a3 a4 a7 t23 (t23.n:Int) 0 0 h5) :
 Fn133 f_0 f_1 f_2 f_3 f_4 f_5 f_6 d_0 d_1 d_2 d_3 d_4 d_5 within h K Kp:=fnof (ann:=ann133) (o:=ord133) (zs:=z133) (Kv:=kv133 K) Tryz.func128 (by kernel_rfl) H (by kernel_rfl) (by kernel_rfl)
end
section
def ann109:Ann:=[]
def ord109:OrdT:=[]
def z109:List Value:=[(.agg #[(.bool false),(.int .i64 0),(.string (bs [])),(.slice none 0 0)])]
def kv109 (K:Bool→Int→ByteArray→Sl→HP):Value→HP:=fun v h=>rG v fun cs0=>rB (cs0.getD 0 undef) fun r0_0=>rI (cs0.getD 1 undef) fun r0_1=>rT (cs0.getD 2 undef) fun r0_2=>rS (cs0.getD 3 undef) fun r0_3=>K r0_0 r0_1 r0_2 r0_3 h
variable (K:Bool→Int→ByteArray→Sl→HP) (Kp:PK) 
variable {K Kp} {h:Hp}
theorem Fn109.of {a:Option Addr} {i:Int} {left:Option Addr} (H :
 New h zY66 Y66 fun a6 h1 =>
 NN a fun p9 =>
 Ld h1 (p9.add 13) mI fun t11 =>
 Wr .i64 (t11+i) fun t13 =>
 Fn135 a t13 left h1 (fun t15_0 t15_1 t15_2 t15_3 h2 =>
 SY66 h2 a6 t15_0 t15_1 t15_2 t15_3 fun h3 =>
 LY66 h3 a6 fun r0_0 r0_1 r0_2 r0_3 =>
 K r0_0 r0_1 r0_2 r0_3 h3) Kp) :
 Fn109 a i left h K Kp:=fnof (ann:=ann109) (o:=ord109) (zs:=z109) (Kv:=kv109 K) Tryz.func130 (by kernel_rfl) H (by kernel_rfl) (by kernel_rfl)
end
end Go.Proofs.YtlbbdbdjiekkaaaGreatDoor
set_option maxRecDepth 100000
set_option maxHeartbeats 200000
/- What the functions do, printed by program (gen.py) in the words of ShCore; each text is held against the loaded program by the kernel. -/
namespace Go.Proofs.YtlbbdbdjiekkaaaGreatDoor
open Go Go.Sh
end Go.Proofs.YtlbbdbdjiekkaaaGreatDoor
set_option maxRecDepth 100000
set_option maxHeartbeats 200000
/- What the functions do, printed by program (gen.py) in the words of ShCore; each text is held against the loaded program by the kernel. -/
namespace Go.Proofs.YtlbbdbdjiekkaaaGreatDoor
open Go Go.Sh
end Go.Proofs.YtlbbdbdjiekkaaaGreatDoor
set_option maxRecDepth 100000
set_option maxHeartbeats 200000
/- What the functions do, printed by program (gen.py) in the words of ShCore; each text is held against the loaded program by the kernel. -/
namespace Go.Proofs.YtlbbdbdjiekkaaaGreatDoor
open Go Go.Sh
section
def ann318:Ann:=[]
def ord318:OrdT:=[]
def z318:List Value:=[(.agg #[(.bool false),(.int .i64 0),(.string (bs [])),(.slice none 0 0)]),(.int .i64 0)]
def kv318 (K:Bool→Int→ByteArray→Sl→Int→HP):Value→HP:=fun v h=>rU v fun vs=>rG (vs.getD 0 undef) fun cs0=>rB (cs0.getD 0 undef) fun r0_0=>rI (cs0.getD 1 undef) fun r0_1=>rT (cs0.getD 2 undef) fun r0_2=>rS (cs0.getD 3 undef) fun r0_3=>rI (vs.getD 1 undef) fun r1=>K r0_0 r0_1 r0_2 r0_3 r1 h
variable (K:Bool→Int→ByteArray→Sl→Int→HP) (Kp:PK) 
variable {K Kp} {h:Hp}
theorem Fn318.of {f_0:ByteArray} {f_1:Bool} {f_2 f_3 f_4 f_5:Int} {f_6:Sl} (H :
 NY29 h f_0 f_1 f_2 f_3 f_4 f_5 f_6 fun a1 h1 =>
 New h1 zY66 Y66 fun a2 h2 =>
 LY29 h2 a1 fun t5_0 t5_1 t5_2 t5_3 t5_4 t5_5 t5_6 =>
 Fn305 t5_0 t5_1 t5_2 t5_3 t5_4 t5_5 t5_6 h2 (fun t6 h3 =>
 If (!t6) (
 SY66 h3 a2 false 0 (bs []) (⟨none,0,0⟩:Sl) fun h4 =>
 LY66 h4 a2 fun r0_0 r0_1 r0_2 r0_3 =>
 K r0_0 r0_1 r0_2 r0_3 5 h4) (
 LY29 h3 a1 fun t10_0 t10_1 t10_2 t10_3 t10_4 t10_5 t10_6 =>
 Fn329 t10_0 t10_1 t10_2 t10_3 t10_4 t10_5 t10_6 h3 (fun t11 h4 =>
 If (decide (t11 > 4194304)) (
 SY66 h4 a2 false 0 (bs []) (⟨none,0,0⟩:Sl) fun h5 =>
 LY66 h5 a2 fun r0_0 r0_1 r0_2 r0_3 =>
 K r0_0 r0_1 r0_2 r0_3 3 h5) (
 LY29 h4 a1 fun t14_0 t14_1 t14_2 t14_3 t14_4 t14_5 t14_6 =>
 Fn330 t14_0 t14_1 t14_2 t14_3 t14_4 t14_5 t14_6 h4 (fun t15_0 t15_1 t15_2 t15_3 h5 =>
 SY66 h5 a2 t15_0 t15_1 t15_2 t15_3 fun h6 =>
 LY66 h6 a2 fun r0_0 r0_1 r0_2 r0_3 =>
 K r0_0 r0_1 r0_2 r0_3 0 h6) Kp)) Kp)) Kp) :
 Fn318 f_0 f_1 f_2 f_3 f_4 f_5 f_6 h K Kp:=fnof (ann:=ann318) (o:=ord318) (zs:=z318) (Kv:=kv318 K) Tryz.func154 (by kernel_rfl) H (by kernel_rfl) (by kernel_rfl)
end
end Go.Proofs.YtlbbdbdjiekkaaaGreatDoor
set_option maxRecDepth 100000
set_option maxHeartbeats 200000
/- What the functions do, printed by program (gen.py) in the words of ShCore; each text is held against the loaded program by the kernel. -/
namespace Go.Proofs.YtlbbdbdjiekkaaaGreatDoor
open Go Go.Sh
section
noncomputable def code319:Code:=Tryz.f155.body.getD .skip
def ann319:Ann:=[(2000004,[0,4,5]),(2000005,[0,4,5]),(2000007,[0,4,5]),(2000023,[5,7]),(2001001,[5,7]),(2000029,[5,7]),(4100013,[0,5,7,69,70]),(4800019,[0,5,7,69,129]),(58008,[0,5,7,140]),(5209999,[5,7,148]),(62009,[5,7,160]),(62019,[5,7,170]),(46008,[4,5,55]),(46014,[4,61])]
def ord319:OrdT:=[(11,(OT.l [0,1,2,3,4,5,6,7,8,9,10,11] .fin),[0,1,3,7,0,16,48,112,255,511,1023,2047]),(12,(OT.l [0,1,2,3,4,5,6,7] .fin),[0,0,2,6,14,0,63,127]),(14,(OT.l [0,1,2,3,4,5,6,7,8,9,10,11,12,13,14,15,16,17,18,19,20,21,22,23,24,25,26,27,28,29,30,31,32,33,34,35,36] .fin),[0,1,3,7,15,31,63,127,255,511,1023,511,2559,6655,16383,32767,65535,131071,262143,524287,1048575,2097151,4194303,8388607,8388607,25165823,8388607,75497471,260046847,528482303,8388607,1082130431,3229614079,7524581375,17179869183,34359738367,68719476735]),(4,(OT.l [0,1,2,3,4,5,6,7,8,9,10] .fin),[0,1,3,7,0,16,48,127,255,511,1023]),(2,(OT.l [0,1,2,3,4,5,6,7,8,9,10,11,12,13,14,15,16,17,18,19,20] .fin),[0,1,3,7,15,31,63,127,255,63,575,1599,3647,8191,16383,32767,65535,131071,262143,524287,1048575])]
def z319:List Value:=[(.bool false)]
def kv319 (K:Bool→HP):Value→HP:=fun v h=>rB v fun r0=>K r0 h
variable (K:Bool→HP) (Kp:PK) 
noncomputable def c319:Cx:=⟨Tryz.prog,ann319,ord319,none,code319,(retQ Tryz.prog Tryz.f155.results.toList z319 (kv319 K)),Kp⟩
def J319_6 (x5 x7:Addr):HP:=semJ (c319 K Kp) [1,1,1,1,1,1,1,1,1] [] (nn 5++[vP x5,nO,vP x7]++nn 211)
def J319_5 (x5 x7:Addr):HP:=semJ (c319 K Kp) [1,1,1,1,1,1,1,1] [] (nn 5++[vP x5,nO,vP x7]++nn 211)
def J319_4 (x5 x7:Addr):HP:=semJ (c319 K Kp) [1,1,1,1,1,1,1] [] (nn 5++[vP x5,nO,vP x7]++nn 211)
def J319_9 (x0:Option Addr) (x5 x7:Addr) (x140:Bool):HP:=semR (c319 K Kp) [1,1,1,1,1,1,0,1,0,1,1,1,1,1,0,0] [] 18 [8,9,10,11,12,13,14,15] ([some (.pointer x0),nO,nO,nO,nO,vP x5,nO,vP x7,nO,nO,nO,nO,nO,nO,nO,nO,nO,nO,nO,nO,nO,nO,nO,nO,nO,nO,nO,nO,nO,nO,nO,nO,nO,nO,nO,nO,nO,nO,nO,nO,nO,nO,nO,nO,nO,nO,nO,nO,nO,nO,nO,nO,nO,nO,nO,nO,nO,nO,nO,nO,nO,nO,nO,nO,nO,nO,nO,nO,nO,nO,nO,nO,nO,nO,nO,nO,nO,nO,nO,nO,nO,nO,nO,nO,nO,nO,nO,nO,nO,nO,nO,nO,nO,nO,nO,nO,nO,nO,nO,nO,nO,nO,nO,nO,nO,nO,nO,nO,nO,nO,nO,nO,nO,nO,nO,nO,nO,nO,nO,nO,nO,nO,nO,nO,nO,nO,nO,nO,nO,nO,nO,nO,nO,nO,nO,nO,nO,nO,nO,nO,some (.bool x140)]++nn 78)
def J319_11 (x5 x7:Addr) (x160:Bool):HP:=semR (c319 K Kp) [1,1,1,1,1,1,0,1,0,1,1,1,1,1,1,1,0,0] [] 22 [9,10,11,12,13,14,15,16,17,18,19,20,21,22,23,24,25,26,27,28,29,30,31,32] (nn 5++[vP x5,nO,vP x7,nO,nO,nO,nO,nO,nO,nO,nO,nO,nO,nO,nO,nO,nO,nO,nO,nO,nO,nO,nO,nO,nO,nO,nO,nO,nO,nO,nO,nO,nO,nO,nO,nO,nO,nO,nO,nO,nO,nO,nO,nO,nO,nO,nO,nO,nO,nO,nO,nO,nO,nO,nO,nO,nO,nO,nO,nO,nO,nO,nO,nO,nO,nO,nO,nO,nO,nO,nO,nO,nO,nO,nO,nO,nO,nO,nO,nO,nO,nO,nO,nO,nO,nO,nO,nO,nO,nO,nO,nO,nO,nO,nO,nO,nO,nO,nO,nO,nO,nO,nO,nO,nO,nO,nO,nO,nO,nO,nO,nO,nO,nO,nO,nO,nO,nO,nO,nO,nO,nO,nO,nO,nO,nO,nO,nO,nO,nO,nO,nO,nO,nO,nO,nO,nO,nO,nO,nO,nO,nO,nO,nO,nO,nO,nO,nO,nO,nO,nO,nO,nO,nO,nO,some (.bool x160)]++nn 58)
def J319_10 (x5 x7:Addr) (x148:Bool):HP:=semJ (c319 K Kp) [1,1,1,1,1,1,0,1,0,1,1,1,1,1,1,1] [] (nn 5++[vP x5,nO,vP x7,nO,nO,nO,nO,nO,nO,nO,nO,nO,nO,nO,nO,nO,nO,nO,nO,nO,nO,nO,nO,nO,nO,nO,nO,nO,nO,nO,nO,nO,nO,nO,nO,nO,nO,nO,nO,nO,nO,nO,nO,nO,nO,nO,nO,nO,nO,nO,nO,nO,nO,nO,nO,nO,nO,nO,nO,nO,nO,nO,nO,nO,nO,nO,nO,nO,nO,nO,nO,nO,nO,nO,nO,nO,nO,nO,nO,nO,nO,nO,nO,nO,nO,nO,nO,nO,nO,nO,nO,nO,nO,nO,nO,nO,nO,nO,nO,nO,nO,nO,nO,nO,nO,nO,nO,nO,nO,nO,nO,nO,nO,nO,nO,nO,nO,nO,nO,nO,nO,nO,nO,nO,nO,nO,nO,nO,nO,nO,nO,nO,nO,nO,nO,nO,nO,nO,nO,nO,nO,nO,nO,some (.bool x148)]++nn 70)
def J319_8 (x0:Option Addr) (x5 x7:Addr) (x69:Int) (x129:Bool):HP:=semJ (c319 K Kp) [1,1,1,1,1,1,0,1,0,1,1,1,1,1] [] ([some (.pointer x0),nO,nO,nO,nO,vP x5,nO,vP x7,nO,nO,nO,nO,nO,nO,nO,nO,nO,nO,nO,nO,nO,nO,nO,nO,nO,nO,nO,nO,nO,nO,nO,nO,nO,nO,nO,nO,nO,nO,nO,nO,nO,nO,nO,nO,nO,nO,nO,nO,nO,nO,nO,nO,nO,nO,nO,nO,nO,nO,nO,nO,nO,nO,nO,nO,nO,nO,nO,nO,nO,vI x69,nO,nO,nO,nO,nO,nO,nO,nO,nO,nO,nO,nO,nO,nO,nO,nO,nO,nO,nO,nO,nO,nO,nO,nO,nO,nO,nO,nO,nO,nO,nO,nO,nO,nO,nO,nO,nO,nO,nO,nO,nO,nO,nO,nO,nO,nO,nO,nO,nO,nO,nO,nO,nO,nO,nO,nO,nO,nO,nO,some (.bool x129)]++nn 89)
def J319_7 (x0:Option Addr) (x5 x7:Addr) (x69:Int) (x70:Bool):HP:=semJ (c319 K Kp) [1,1,1,1,1,1,0,1,0,1] [] ([some (.pointer x0),nO,nO,nO,nO,vP x5,nO,vP x7,nO,nO,nO,nO,nO,nO,nO,nO,nO,nO,nO,nO,nO,nO,nO,nO,nO,nO,nO,nO,nO,nO,nO,nO,nO,nO,nO,nO,nO,nO,nO,nO,nO,nO,nO,nO,nO,nO,nO,nO,nO,nO,nO,nO,nO,nO,nO,nO,nO,nO,nO,nO,nO,nO,nO,nO,nO,nO,nO,nO,nO,vI x69,some (.bool x70)]++nn 148)
def J319_3 (x0:Option Addr) (x4 x5:Addr):HP:=semJ (c319 K Kp) [1,1,1,1,1] [] ([some (.pointer x0),nO,nO,nO,vP x4,vP x5]++nn 213)
def J319_14 (x4:Addr) (x61:Bool):HP:=semR (c319 K Kp) [1,1,1,1,0,1,0,0] [] 6 [14,15,16,17,18] ([nO,nO,nO,nO,vP x4,nO,nO,nO,nO,nO,nO,nO,nO,nO,nO,nO,nO,nO,nO,nO,nO,nO,nO,nO,nO,nO,nO,nO,nO,nO,nO,nO,nO,nO,nO,nO,nO,nO,nO,nO,nO,nO,nO,nO,nO,nO,nO,nO,nO,nO,nO,nO,nO,nO,nO,nO,nO,nO,nO,nO,nO,some (.bool x61)]++nn 157)
def J319_13 (x4 x5:Addr) (x55:Bool):HP:=semR (c319 K Kp) [1,1,1,1,0,1,0,0] [] 6 [8,9,10,11,12,13,14,15,16,17,18] ([nO,nO,nO,nO,vP x4,vP x5,nO,nO,nO,nO,nO,nO,nO,nO,nO,nO,nO,nO,nO,nO,nO,nO,nO,nO,nO,nO,nO,nO,nO,nO,nO,nO,nO,nO,nO,nO,nO,nO,nO,nO,nO,nO,nO,nO,nO,nO,nO,nO,nO,nO,nO,nO,nO,nO,nO,some (.bool x55)]++nn 163)
def J319_2 (x0:Option Addr) (x4 x5:Addr):HP:=semJ (c319 K Kp) [1,1,1,1] [] ([some (.pointer x0),nO,nO,nO,vP x4,vP x5]++nn 213)
def J319_1 (x0:Option Addr) (x4 x5:Addr):HP:=semJ (c319 K Kp) [1,1,1] [] ([some (.pointer x0),nO,nO,nO,vP x4,vP x5]++nn 213)
variable {K Kp} {x4 x5 x7:Addr} {x61 x55 x140 x170 x160 x148 x129 x70:Bool} {x0:Option Addr} {x69:Int} {h:Hp}
theorem J319_6.of (H :
 Ld h x7 mI fun t210 =>
 Fn333 t210 h (fun t211 h1 =>
 If t211 (
 Ld h1 x7 mI fun t214 =>
 Ld h1 (x5.add 1) mI fun t216 =>
 Fn334 t214 t216 h1 (fun t217 h2 =>
 K t217 h2) Kp) (
 K false h1)) Kp) :
 J319_6 K Kp x5 x7 h:=jof H (by kernel_rfl)
theorem J319_5.of (H :
 Ld h x7 mI fun t195 =>
 If (t195 == 2) (
 Ld h (x5.add 1) mI fun t198 =>
 If (t198 == 0) (
 K true h) (
 Ld h (x5.add 1) mI fun t202 =>
 K (t202 == 1) h)) (
 Ld h x7 mI fun t207 =>
 If (t207 == 11) (
 K true h) (
 J319_6 K Kp x5 x7 h))) :
 J319_5 K Kp x5 x7 h:=jof H (by kernel_rfl)
theorem J319_4.of (H :
 Ld h (x5.add 2) .string fun t185 =>
 If (!(t185.toList == (bs []).toList)) (
 K false h) (
 Ld h (x5.add 3) Sl.v fun t189 =>
 If (decide ((t189.n:Int) > 0)) (
 K false h) (
 J319_5 K Kp x5 x7 h))) :
 J319_4 K Kp x5 x7 h:=jof H (by kernel_rfl)
theorem J319_10.of (H :
 If x148 (
 Ld h (x5.add 1) mI fun t153 =>
 If (t153 == 0) (
 Ld h (x5.add 3) Sl.v fun t157 =>
 J319_11 K Kp x5 x7 ((t157.n:Int) == 0) h) (
 J319_11 K Kp x5 x7 false h)) (
 J319_4 K Kp x5 x7 h)) :
 J319_10 K Kp x5 x7 x148 h:=jof H (by kernel_rfl)
theorem J319_8.of (H :
 If x129 (
 Ld h (x5.add 1) mI fun t134 =>
 If (t134 == 0) (
 Ld h (x5.add 2) .string fun t138 =>
 J319_9 K Kp x0 x5 x7 (t138.toList == (bs []).toList) h) (
 J319_9 K Kp x0 x5 x7 false h)) (
 If (x69 == 12) (
 J319_10 K Kp x5 x7 (x69 == 12) h) (
 If (x69 == 13) (
 J319_10 K Kp x5 x7 (x69 == 13) h) (
 J319_10 K Kp x5 x7 (x69 == 14) h)))) :
 J319_8 K Kp x0 x5 x7 x69 x129 h:=jof H (by kernel_rfl)
theorem J319_7.of (H :
 If x70 (
 NN x0 fun p74 =>
 Ld h p74 mI fun t76 =>
 Ld h (x5.add 2) .string fun t78 =>
 Wr .i64 ((16:Int)+(t78.size:Int)) fun t80 =>
 Wr .i64 (t76+t80) fun t81 =>
 NN x0 fun p82 =>
 St h p82 (.int .i64 t81) fun h1 =>
 Ld h1 (x7.add 4) Sl.v fun t86 =>
 Ix t86.a t86.n 7 0 fun a87 =>
 LY29 h1 a87 fun t88_0 t88_1 t88_2 t88_3 t88_4 t88_5 t88_6 =>
 LY66 h1 x5 fun t89_0 t89_1 t89_2 t89_3 =>
 Fn319 x0 t88_0 t88_1 t88_2 t88_3 t88_4 t88_5 t88_6 t89_0 t89_1 t89_2 t89_3 h1 (fun t90 h2 =>
 K t90 h2) Kp) (
 If (x69 == 18) (
 Ld h (x5.add 2) .string fun t94 =>
 If (t94.toList == (bs []).toList) (
 Ld h (x5.add 1) mI fun t98 =>
 If (decide (t98≥0)) (
 Ld h (x5.add 1) mI fun t103 =>
 Ld h (x7.add 4) Sl.v fun t105 =>
 If (decide (t103 < (t105.n:Int))) (
 Ld h (x5.add 3) Sl.v fun t111 =>
 If ((t111.n:Int) == 1) (
 Ld h (x7.add 4) Sl.v fun t118 =>
 Ld h (x5.add 1) mI fun t120 =>
 Ix t118.a t118.n 7 t120 fun a121 =>
 LY29 h a121 fun t122_0 t122_1 t122_2 t122_3 t122_4 t122_5 t122_6 =>
 Ld h (x5.add 3) Sl.v fun t124 =>
 Ix t124.a t124.n 4 0 fun a125 =>
 LY66 h a125 fun t126_0 t126_1 t126_2 t126_3 =>
 Fn319 x0 t122_0 t122_1 t122_2 t122_3 t122_4 t122_5 t122_6 t126_0 t126_1 t126_2 t126_3 h (fun t127 h1 =>
 K t127 h1) Kp) (
 K false h)) (
 K false h)) (
 K false h)) (
 K false h)) (
 If (x69 == 15) (
 J319_8 K Kp x0 x5 x7 x69 (x69 == 15) h) (
 If (x69 == 16) (
 J319_8 K Kp x0 x5 x7 x69 (x69 == 16) h) (
 J319_8 K Kp x0 x5 x7 x69 (x69 == 17) h))))) :
 J319_7 K Kp x0 x5 x7 x69 x70 h:=jof H (by kernel_rfl)
theorem J319_3.of (H :
 LY27 h (x4.add 2) fun t67_0 t67_1 t67_2 t67_3 t67_4 =>
 New h zY27 Y27 fun a7 h1 =>
 SY27 h1 a7 t67_0 t67_1 t67_2 t67_3 t67_4 fun h2 =>
 Ld h2 a7 mI fun t69 =>
 If (t69 == 19) (
 J319_7 K Kp x0 x5 a7 t69 (t69 == 19) h2) (
 J319_7 K Kp x0 x5 a7 t69 (t69 == 20) h2)) :
 J319_3 K Kp x0 x4 x5 h:=jof H (by kernel_rfl)
theorem J319_14.of (H :
 If x61 (
 LY29 h x4 fun t63_0 t63_1 t63_2 t63_3 t63_4 t63_5 t63_6 =>
 Fn331 t63_0 t63_1 t63_2 t63_3 t63_4 t63_5 t63_6 h (fun t64 h1 =>
 K t64 h1) Kp) (
 K false h)) :
 J319_14 K Kp x4 x61 h:=jof H (by kernel_rfl)
theorem J319_13.of (H :
 If x55 (
 Ld h (x5.add 3) Sl.v fun t58 =>
 J319_14 K Kp x4 ((t58.n:Int) == 0) h) (
 J319_14 K Kp x4 false h)) :
 J319_13 K Kp x4 x5 x55 h:=jof H (by kernel_rfl)
theorem J319_2.of (H :
 Ld h x5 .bool fun t47 =>
 If t47 (
 Ld h (x5.add 1) mI fun t49 =>
 If (t49 == 0) (
 Ld h (x5.add 2) .string fun t53 =>
 J319_13 K Kp x4 x5 (t53.toList == (bs []).toList) h) (
 J319_13 K Kp x4 x5 false h)) (
 J319_3 K Kp x0 x4 x5 h)) :
 J319_2 K Kp x0 x4 x5 h:=jof H (by kernel_rfl)
theorem J319_1.of (H :
 NN x0 fun p37 =>
 Ld h p37 mI fun t39 =>
 Ld h (x5.add 2) .string fun t41 =>
 Wr .i64 (t39 - (t41.size:Int)) fun t43 =>
 NN x0 fun p44 =>
 St h p44 (.int .i64 t43) fun h1 =>
 J319_2 K Kp x0 x4 x5 h1) :
 J319_1 K Kp x0 x4 x5 h:=jof H (by kernel_rfl)
theorem Fn319.of {x:Option Addr} {f_0:ByteArray} {f_1:Bool} {f_2 f_3 f_4 f_5:Int} {f_6:Sl} {v_0:Bool} {v_1:Int} {v_2:ByteArray} {v_3:Sl} (H :
 NY29 h f_0 f_1 f_2 f_3 f_4 f_5 f_6 fun a4 h1 =>
 NY66 h1 v_0 v_1 v_2 v_3 fun a5 h2 =>
 NN x fun p9 =>
 Ld h2 p9 mI fun t11 =>
 Wr .i64 (t11 - 16) fun t12 =>
 NN x fun p13 =>
 St h2 p13 (.int .i64 t12) fun h3 =>
 NN x fun p16 =>
 Ld h3 p16 mI fun t18 =>
 If (decide (t18 < 0)) (
 K false h3) (
 Ld h3 (a5.add 2) .string fun t22 =>
 NN x fun p25 =>
 Ld h3 p25 mI fun t27 =>
 If (decide ((t22.size:Int) > t27)) (
 K false h3) (
 Ld h3 (a5.add 3) Sl.v fun t32 =>
 If (decide ((t32.n:Int) > 4096)) (
 K false h3) (
 J319_1 K Kp x a4 a5 h3)))) :
 Fn319 x f_0 f_1 f_2 f_3 f_4 f_5 f_6 v_0 v_1 v_2 v_3 h K Kp:=fnof (ann:=ann319) (o:=ord319) (zs:=z319) (Kv:=kv319 K) Tryz.func155 (by kernel_rfl) H (by kernel_rfl) (by kernel_rfl)
end
section
def ann170:Ann:=[]
def ord170:OrdT:=[]
def z170:List Value:=[]
def kv170 (K:HP):Value→HP:=fun _ h=>K h
variable (K:HP) (Kp:PK) 
variable {K Kp} {h:Hp}
theorem Fn170.of {yield:Value} {c1 c2:Addr} (H :
 New h (Value.cells yield) Y233 fun a3 h1 =>
 New h1 #[(.nilFunc)] Y234 fun a4 h2 =>
 NA (.func (.func I171) #[] #[(.pointer (some a3)),(.pointer (some c1)),(.pointer (some a4))]) <|
 St h2 a4 (.func (.func I171) #[] #[(.pointer (some a3)),(.pointer (some c1)),(.pointer (some a4))]) fun h3 =>
 Ld h3 a4 id fun t6 =>
 Ld h3 c2 Sl.v fun t7 =>
 CallV Tryz.prog t6 [(.slice none 0 0),(Sl.v t7),(.bool false)] h3 (fun r h4=>∃t8:Bool,r=(.bool t8)∧(
 K  h4)) Kp) :
 Fn170 yield c1 c2 h K Kp:=fnof (ann:=ann170) (o:=ord170) (zs:=z170) (Kv:=kv170 K) Tryz.func156 (by kernel_rfl) H (by kernel_rfl) (by kernel_rfl)
end
section
noncomputable def code171:Code:=Tryz.f157.body.getD .skip
def ann171:Ann:=[(2001000,[0,1,2,3,4,5,13,14,15]),(2002,[0,1,2,3,4,5,13,14,15]),(1002903000,[0,1,2,3,4,5,13,14,15,16]),(2000004,[0,1,2,3,4,5,10,11,13,14,15]),(2000005,[0,1,2,3,4,5,10,11,12,13,14,15]),(2000007,[0,1,2,3,4,5,11,12,13,14,15])]
def ord171:OrdT:=[(5,(OT.l [0,1,2,3,4,5,6,7,8,9] .fin),[0,0,0,0,12,0,0,126,255,511])]
def z171:List Value:=[(.bool false)]
def kv171 (K:Bool→HP):Value→HP:=fun v h=>rB v fun r0=>K r0 h
variable (K:Bool→HP) (Kp:PK) (N1:Fr→HP) 
noncomputable def c171:Cx:=⟨Tryz.prog,ann171,ord171,none,code171,(retQ Tryz.prog Tryz.f157.results.toList z171 (kv171 K)),Kp⟩
abbrev mk171_2 (x0 x1:Sl) (x2:Bool) (x3 x4 x5:Addr) (x13:Sl) (x14 x15:Int):Fr:=([vS x0,vS x1,some (.bool x2),vP x3,vP x4,vP x5,nO,nO,nO,nO,nO,nO,nO,vS x13,vI x14,vI x15]++nn 40)
def J171_6 (x0 x1:Sl) (x2:Bool) (x3 x4 x5 x11:Addr) (x12 x13:Sl) (x14 x15:Int):HP:=semJ (c171 K Kp) [1,0,1,0,0,1,1,0,0,1,1,1] [N1] ([vS x0,vS x1,some (.bool x2),vP x3,vP x4,vP x5,nO,nO,nO,nO,nO,vP x11,vS x12,vS x13,vI x14,vI x15]++nn 40)
def J171_5 (x0 x1:Sl) (x2:Bool) (x3 x4 x5:Addr) (x10:Int) (x11:Addr) (x12 x13:Sl) (x14 x15:Int):HP:=semJ (c171 K Kp) [1,0,1,0,0,1,1,0,0,1,1] [N1] ([vS x0,vS x1,some (.bool x2),vP x3,vP x4,vP x5,nO,nO,nO,nO,vI x10,vP x11,vS x12,vS x13,vI x14,vI x15]++nn 40)
def J171_4 (x0 x1:Sl) (x2:Bool) (x3 x4 x5:Addr) (x10:Int) (x11:Addr) (x13:Sl) (x14 x15:Int):HP:=semJ (c171 K Kp) [1,0,1,0,0,1,1,0,0,1] [N1] ([vS x0,vS x1,some (.bool x2),vP x3,vP x4,vP x5,nO,nO,nO,nO,vI x10,vP x11,nO,vS x13,vI x14,vI x15]++nn 40)
def J171_3 (x0 x1:Sl) (x2:Bool) (x3 x4 x5:Addr) (x13:Sl) (x14 x15:Int) (x16:Bool):HP:=semJ (c171 K Kp) [1,0,1,0,0,1] [N1] ([vS x0,vS x1,some (.bool x2),vP x3,vP x4,vP x5,nO,nO,nO,nO,nO,nO,nO,vS x13,vI x14,vI x15,some (.bool x16)]++nn 39)
def L171_2 (x0 x1:Sl) (x2:Bool) (x3 x4 x5:Addr) (x13:Sl) (x14 x15:Int):HP:=semL (c171 K Kp) 2002 [1,0,1,0] [] (mk171_2 x0 x1 x2 x3 x4 x5 x13 x14 x15)
def J171_1 (x0 x1:Sl) (x2:Bool) (x3 x4 x5:Addr) (x13:Sl) (x14 x15:Int):HP:=semJ (c171 K Kp) [1,0,1] [] ([vS x0,vS x1,some (.bool x2),vP x3,vP x4,vP x5,nO,nO,nO,nO,nO,nO,nO,vS x13,vI x14,vI x15]++nn 40)
variable {K Kp N1} {x0 x1 x12 x13:Sl} {x2 x16:Bool} {x3 x4 x5 x11:Addr} {x14 x15 x10:Int} {h:Hp}
theorem J171_6.of (H :
 Ld h x4 mI fun t37 =>
 If (decide ((x12.n:Int) < t37)) (
 Ld h x5 id fun t40 =>
 Ld h ((x11.add 2).add 4) Sl.v fun t44 =>
 If x2 (
 CallV Tryz.prog t40 [(Sl.v x12),(Sl.v t44),(.bool true)] h (fun r h1=>∃t52:Bool,r=(.bool t52)∧(
 If (!t52) (
 K false h1) (
 Wr .i64 (x15+1) fun t55 =>
 N1 (mk171_2 x0 x1 x2 x3 x4 x5 x13 x14 t55) h1))) Kp) (
 Ld h (x11.add 2) mI fun t49 =>
 CallV Tryz.prog t40 [(Sl.v x12),(Sl.v t44),(.bool (t49 == 19))] h (fun r h1=>∃t52:Bool,r=(.bool t52)∧(
 If (!t52) (
 K false h1) (
 Wr .i64 (x15+1) fun t55 =>
 N1 (mk171_2 x0 x1 x2 x3 x4 x5 x13 x14 t55) h1))) Kp)) (
 Wr .i64 (x15+1) fun t55 =>
 N1 (mk171_2 x0 x1 x2 x3 x4 x5 x13 x14 t55) h)) :
 J171_6 K Kp N1 x0 x1 x2 x3 x4 x5 x11 x12 x13 x14 x15 h:=jof H (by kernel_rfl)
theorem J171_5.of (H :
 Ld h x3 id fun t25 =>
 Slc x1 7 none (some x10) none fun t29 =>
 LY29 h x11 fun t30_0 t30_1 t30_2 t30_3 t30_4 t30_5 t30_6 =>
 CallV Tryz.prog t25 [(.agg #[(Sl.v x12),(Sl.v t29),(.string t30_0),(.bool t30_1),(.int .i64 t30_2),(.int .i64 t30_3),(.int .i64 t30_4),(.int .i64 t30_5),(Sl.v t30_6),(.bool x2)])] h (fun r h1=>∃t33:Bool,r=(.bool t33)∧(
 If (!t33) (
 K false h1) (
 J171_6 K Kp N1 x0 x1 x2 x3 x4 x5 x11 x12 x13 x14 x15 h1))) Kp) :
 J171_5 K Kp N1 x0 x1 x2 x3 x4 x5 x10 x11 x12 x13 x14 x15 h:=jof H (by kernel_rfl)
theorem J171_4.of (H :
 Fn203 x0 h (fun t21 h1 =>
 New h1 #[(.int .i64 x10)] Y6 fun a23 h2 =>
 Ap h2 Y6 #[(.int .i64 0)] 1 8 t21 1 (rd h2 (some a23) (1*1)) fun t24 h3 =>
 J171_5 K Kp N1 x0 x1 x2 x3 x4 x5 x10 x11 t24 x13 x14 x15 h3) Kp) :
 J171_4 K Kp N1 x0 x1 x2 x3 x4 x5 x10 x11 x13 x14 x15 h:=jof H (by kernel_rfl)
theorem J171_3.of (H :
 If x16 (
 Ix x13.a x13.n 7 x15 fun a18 =>
 LY29 h a18 fun t19_0 t19_1 t19_2 t19_3 t19_4 t19_5 t19_6 =>
 New h zY29 Y29 fun a11 h1 =>
 SY29 h1 a11 t19_0 t19_1 t19_2 t19_3 t19_4 t19_5 t19_6 fun h2 =>
 J171_4 K Kp N1 x0 x1 x2 x3 x4 x5 x15 a11 x13 x14 x15 h2) (
 K true h)) :
 J171_3 K Kp N1 x0 x1 x2 x3 x4 x5 x13 x14 x15 x16 h:=jof H (by kernel_rfl)
theorem L171_2.rule:LR1 (L171_2 K Kp x0 x1 x2 x3 x4 x5 x13 x14) (mk171_2 x0 x1 x2 x3 x4 x5 x13 x14) fun N1 (x15:Int) h =>
 (J171_3 K Kp N1 x0 x1 x2 x3 x4 x5 x13 x14 x15 (decide (x15 < x14)) h) :=
 loop1 (fun _ _=>rfl) fun _ _ _=>by kernel_rfl
theorem J171_1.of (H :
 L171_2 K Kp x0 x1 x2 x3 x4 x5 x13 x14 x15 h) :
 J171_1 K Kp x0 x1 x2 x3 x4 x5 x13 x14 x15 h:=jof H (by kernel_rfl)
theorem Fn171.of {path l:Sl} {inDict:Bool} {c3 c4 c5:Addr} (H :
 J171_1 K Kp path l inDict c3 c4 c5 l (l.n:Int) 0 h) :
 Fn171 path l inDict c3 c4 c5 h K Kp:=fnof (ann:=ann171) (o:=ord171) (zs:=z171) (Kv:=kv171 K) Tryz.func157 (by kernel_rfl) H (by kernel_rfl) (by kernel_rfl)
end
section
def ann203:Ann:=[]
def ord203:OrdT:=[]
def z203:List Value:=[(.slice none 0 0)]
def kv203 (K:Sl→HP):Value→HP:=fun v h=>rS v fun r0=>K r0 h
variable (K:Sl→HP) (Kp:PK) 
variable {K Kp} {h:Hp}
theorem Fn203.of {s:Sl} (H :
 If (Option.isNone s.a) (
 K (⟨none,0,0⟩:Sl) h) (
 New h #[] Y6 fun a5 h1 =>
 Ap h1 Y6 #[(.int .i64 0)] 1 8 (⟨some a5,0,0⟩:Sl) s.n (rd h1 s.a (s.n*1)) fun t7 h2 =>
 K t7 h2)) :
 Fn203 s h K Kp:=fnof (ann:=ann203) (o:=ord203) (zs:=z203) (Kv:=kv203 K) Tryz.func158 (by kernel_rfl) H (by kernel_rfl) (by kernel_rfl)
end
section
noncomputable def code172:Code:=Tryz.f159.body.getD .skip
def ann172:Ann:=[(2002,[0,6,7])]
def ord172:OrdT:=[]
def z172:List Value:=[(.bool false)]
def kv172 (K:Bool→HP):Value→HP:=fun v h=>rB v fun r0=>K r0 h
variable (K:Bool→HP) (Kp:PK) 
noncomputable def c172:Cx:=⟨Tryz.prog,ann172,ord172,none,code172,(retQ Tryz.prog Tryz.f159.results.toList z172 (kv172 K)),Kp⟩
abbrev mk172_1 (x0:ByteArray) (x6 x7:Int):Fr:=([some (.string x0),nO,nO,nO,nO,nO,vI x6,vI x7]++nn 28)
def L172_1 (x0:ByteArray) (x6 x7:Int):HP:=semL (c172 K Kp) 2002 [1,0,1,0] [] (mk172_1 x0 x6 x7)
variable {K Kp} {x0:ByteArray} {x6:Int} {h:Hp}
theorem L172_1.rule:LR1 (L172_1 K Kp x0 x6) (mk172_1 x0 x6) fun N1 (x7:Int) h =>
 (If (decide (x7 < x6)) (
 IxS x0 x7 fun t12 =>
 Fn182 t12 h (fun t14 h1 =>
 If (!t14) (
 K false h1) (
 If (x7 == 0) (
 If (decide (t12≥48)) (
 If (decide (t12≤57)) (
 K false h1) (
 Wr .i64 (x7+1) fun t28 =>
 N1 (mk172_1 x0 x6 t28) h1)) (
 Wr .i64 (x7+1) fun t28 =>
 N1 (mk172_1 x0 x6 t28) h1)) (
 Wr .i64 (x7+1) fun t28 =>
 N1 (mk172_1 x0 x6 t28) h1))) Kp) (
 If (!(x0.toList == (bs []).toList)) (
 K (decide ((x0.size:Int)≤48)) h) (
 K false h))) :=
 loop1 (fun _ _=>rfl) fun _ _ _=>by kernel_rfl
theorem Fn172.of {s:ByteArray} (H :
 L172_1 K Kp s (s.size:Int) 0 h) :
 Fn172 s h K Kp:=fnof (ann:=ann172) (o:=ord172) (zs:=z172) (Kv:=kv172 K) Tryz.func159 (by kernel_rfl) H (by kernel_rfl) (by kernel_rfl)
end
section
def ann204:Ann:=[]
def ord204:OrdT:=[]
def z204:List Value:=[(.bool false)]
def kv204 (K:Bool→HP):Value→HP:=fun v h=>rB v fun r0=>K r0 h
variable (K:Bool→HP) (Kp:PK) 
variable {K Kp} {h:Hp}
theorem Fn204.of {s:Sl} {f:Value} (H :
 Fn206 s f h (fun t7 h1 =>
 K (decide (t7≥0)) h1) Kp) :
 Fn204 s f h K Kp:=fnof (ann:=ann204) (o:=ord204) (zs:=z204) (Kv:=kv204 K) Tryz.func160 (by kernel_rfl) H (by kernel_rfl) (by kernel_rfl)
end
section
def ann173:Ann:=[]
def ord173:OrdT:=[]
def z173:List Value:=[(.bool false)]
def kv173 (K:Bool→HP):Value→HP:=fun v h=>rB v fun r0=>K r0 h
variable (K:Bool→HP) (Kp:PK) 
variable {K Kp} {h:Hp}
theorem Fn173.of {g_0:ByteArray} {g_1:Bool} {g_2 g_3 g_4 g_5:Int} {g_6:Sl} {c1:Addr} (H :
 NY29 h g_0 g_1 g_2 g_3 g_4 g_5 g_6 fun a2 h1 =>
 Ld h1 a2 .string fun t5 =>
 Ld h1 (c1.add 2) .string fun t8 =>
 K (t5.toList == t8.toList) h1) :
 Fn173 g_0 g_1 g_2 g_3 g_4 g_5 g_6 c1 h K Kp:=fnof (ann:=ann173) (o:=ord173) (zs:=z173) (Kv:=kv173 K) Tryz.func161 (by kernel_rfl) H (by kernel_rfl) (by kernel_rfl)
end
end Go.Proofs.YtlbbdbdjiekkaaaGreatDoor
set_option maxRecDepth 100000
set_option maxHeartbeats 200000
/- What the functions do, printed by program (gen.py) in the words of ShCore; each text is held against the loaded program by the kernel. -/
namespace Go.Proofs.YtlbbdbdjiekkaaaGreatDoor
open Go Go.Sh
section
noncomputable def code174:Code:=Tryz.f162.body.getD .skip
def ann174:Ann:=[(2000019,[1,3,4,5,6]),(2000022,[1,3,4,6,7]),(2000023,[1,3,4,6,7,8]),(2000025,[1,3,4,7,8]),(65004,[1,3,4,74]),(65011,[1,4,81]),(64008,[1,3,4,7,58]),(64013,[1,3,4,7,63])]
def ord174:OrdT:=[]
def z174:List Value:=[(.bool false)]
def kv174 (K:Bool→HP):Value→HP:=fun v h=>rB v fun r0=>K r0 h
variable (K:Bool→HP) (Kp:PK) 
noncomputable def c174:Cx:=⟨Tryz.prog,ann174,ord174,none,code174,(retQ Tryz.prog Tryz.f162.results.toList z174 (kv174 K)),Kp⟩
def J174_6 (x1:Addr) (x4:Int) (x81:Bool):HP:=semR (c174 K Kp) [1,1,1,1,1,1,1,1,1,0] [] 25 [11,12,13,14,15,16,17,18] ([nO,vP x1,nO,nO,vI x4,nO,nO,nO,nO,nO,nO,nO,nO,nO,nO,nO,nO,nO,nO,nO,nO,nO,nO,nO,nO,nO,nO,nO,nO,nO,nO,nO,nO,nO,nO,nO,nO,nO,nO,nO,nO,nO,nO,nO,nO,nO,nO,nO,nO,nO,nO,nO,nO,nO,nO,nO,nO,nO,nO,nO,nO,nO,nO,nO,nO,nO,nO,nO,nO,nO,nO,nO,nO,nO,nO,nO,nO,nO,nO,nO,nO,some (.bool x81)]++nn 7)
def J174_5 (x1:Addr) (x3 x4:Int) (x74:Bool):HP:=semR (c174 K Kp) [1,1,1,1,1,1,1,1,1,0] [] 25 [4,5,6,7,8,9,10,11,12,13,14,15,16,17,18] ([nO,vP x1,nO,vI x3,vI x4,nO,nO,nO,nO,nO,nO,nO,nO,nO,nO,nO,nO,nO,nO,nO,nO,nO,nO,nO,nO,nO,nO,nO,nO,nO,nO,nO,nO,nO,nO,nO,nO,nO,nO,nO,nO,nO,nO,nO,nO,nO,nO,nO,nO,nO,nO,nO,nO,nO,nO,nO,nO,nO,nO,nO,nO,nO,nO,nO,nO,nO,nO,nO,nO,nO,nO,nO,nO,nO,some (.bool x74)]++nn 14)
def J174_4 (x1:Addr) (x3 x4:Int) (x7 x8:Bool):HP:=semJ (c174 K Kp) [1,1,1,1,1,1,1,1,1] [] ([nO,vP x1,nO,vI x3,vI x4,nO,nO,some (.bool x7),some (.bool x8)]++nn 80)
def J174_8 (x1:Addr) (x3 x4:Int) (x7 x63:Bool):HP:=semR (c174 K Kp) [1,1,1,1,1,1,1,1,0,1,0] [] 24 [13,14,15,16,17,18,19,20] ([nO,vP x1,nO,vI x3,vI x4,nO,nO,some (.bool x7),nO,nO,nO,nO,nO,nO,nO,nO,nO,nO,nO,nO,nO,nO,nO,nO,nO,nO,nO,nO,nO,nO,nO,nO,nO,nO,nO,nO,nO,nO,nO,nO,nO,nO,nO,nO,nO,nO,nO,nO,nO,nO,nO,nO,nO,nO,nO,nO,nO,nO,nO,nO,nO,nO,nO,some (.bool x63)]++nn 25)
def J174_7 (x1:Addr) (x3 x4:Int) (x7 x58:Bool):HP:=semR (c174 K Kp) [1,1,1,1,1,1,1,1,0,1,0] [] 24 [8,9,10,11,12,13,14,15,16,17,18,19,20] ([nO,vP x1,nO,vI x3,vI x4,nO,nO,some (.bool x7),nO,nO,nO,nO,nO,nO,nO,nO,nO,nO,nO,nO,nO,nO,nO,nO,nO,nO,nO,nO,nO,nO,nO,nO,nO,nO,nO,nO,nO,nO,nO,nO,nO,nO,nO,nO,nO,nO,nO,nO,nO,nO,nO,nO,nO,nO,nO,nO,nO,nO,some (.bool x58)]++nn 30)
def J174_3 (x1:Addr) (x3 x4:Int) (x6 x7 x8:Bool):HP:=semJ (c174 K Kp) [1,1,1,1,1,1,1,1] [] ([nO,vP x1,nO,vI x3,vI x4,nO,some (.bool x6),some (.bool x7),some (.bool x8)]++nn 80)
def J174_2 (x1:Addr) (x3 x4:Int) (x6 x7:Bool):HP:=semJ (c174 K Kp) [1,1,1,1,1,1,1] [] ([nO,vP x1,nO,vI x3,vI x4,nO,some (.bool x6),some (.bool x7)]++nn 81)
def J174_1 (x1:Addr) (x3 x4 x5:Int) (x6:Bool):HP:=semJ (c174 K Kp) [1,1,1,1,1] [] ([nO,vP x1,nO,vI x3,vI x4,vI x5,some (.bool x6)]++nn 82)
variable {K Kp} {x1:Addr} {x3 x4 x5:Int} {x7 x63 x58 x81 x74 x8 x6:Bool} {h:Hp}
theorem J174_6.of (H :
 If x81 (
 Ld h (x1.add 4) Sl.v fun t84 =>
 K (decide ((t84.n:Int)≤x4)) h) (
 K false h)) :
 J174_6 K Kp x1 x4 x81 h:=jof H (by kernel_rfl)
theorem J174_5.of (H :
 If x74 (
 Ld h (x1.add 4) Sl.v fun t77 =>
 J174_6 K Kp x1 x4 (decide ((t77.n:Int)≥x3)) h) (
 J174_6 K Kp x1 x4 false h)) :
 J174_5 K Kp x1 x3 x4 x74 h:=jof H (by kernel_rfl)
theorem J174_4.of (H :
 If x7 (
 J174_5 K Kp x1 x3 x4 x8 h) (
 J174_5 K Kp x1 x3 x4 false h)) :
 J174_4 K Kp x1 x3 x4 x7 x8 h:=jof H (by kernel_rfl)
theorem J174_8.of (H :
 If x63 (
 Ld h (x1.add 3) mI fun t66 =>
 Ix (some (⟨0,0,none⟩)) 21 4 t66 fun a67 =>
 Ld h (a67.add 3) .bool fun t69 =>
 J174_4 K Kp x1 x3 x4 x7 t69 h) (
 J174_4 K Kp x1 x3 x4 x7 false h)) :
 J174_8 K Kp x1 x3 x4 x7 x63 h:=jof H (by kernel_rfl)
theorem J174_7.of (H :
 If x58 (
 Ld h (x1.add 3) mI fun t61 =>
 Fn183 t61 h (fun t62 h1 =>
 J174_8 K Kp x1 x3 x4 x7 t62 h1) Kp) (
 J174_8 K Kp x1 x3 x4 x7 false h)) :
 J174_7 K Kp x1 x3 x4 x7 x58 h:=jof H (by kernel_rfl)
theorem J174_3.of (H :
 If x6 (
 Ld h (x1.add 2) mI fun t52 =>
 If (decide (t52≥0)) (
 Ld h (x1.add 2) mI fun t56 =>
 J174_7 K Kp x1 x3 x4 x7 (decide (t56 < 32)) h) (
 J174_7 K Kp x1 x3 x4 x7 false h)) (
 J174_4 K Kp x1 x3 x4 x7 x8 h)) :
 J174_3 K Kp x1 x3 x4 x6 x7 x8 h:=jof H (by kernel_rfl)
theorem J174_2.of (H :
 Ld h (x1.add 2) mI fun t43 =>
 If (t43 == 0) (
 Ld h (x1.add 3) mI fun t47 =>
 J174_3 K Kp x1 x3 x4 x6 x7 (t47 == 0) h) (
 J174_3 K Kp x1 x3 x4 x6 x7 false h)) :
 J174_2 K Kp x1 x3 x4 x6 x7 h:=jof H (by kernel_rfl)
theorem J174_1.of (H :
 Ld h (x1.add 1) mI fun t29 =>
 If (decide (x5 > 0)) (
 Ld h (x1.add 1) mI fun t34 =>
 If (decide (t34≥1)) (
 Ld h (x1.add 1) mI fun t38 =>
 J174_2 K Kp x1 x3 x4 x6 (decide (t38≤x5)) h) (
 J174_2 K Kp x1 x3 x4 x6 false h)) (
 J174_2 K Kp x1 x3 x4 x6 (t29 == 0) h)) :
 J174_1 K Kp x1 x3 x4 x5 x6 h:=jof H (by kernel_rfl)
theorem Fn174.of {t_0 t_1 t_2 t_3:Int} {t_4:Sl} (H :
 NY27 h t_0 t_1 t_2 t_3 t_4 fun a1 h1 =>
 Ld h1 a1 mI fun t10 =>
 Fn183 t10 h1 (fun t11 h2 =>
 If (!t11) (
 K false h2) (
 Ld h2 a1 mI fun t14 =>
 If (t14 == 14) (
 J174_1 K Kp a1 0 0 16 false h2) (
 If (t14 == 15) (
 If (t14 == 15) (
 J174_1 K Kp a1 1 1 0 false h2) (
 If (t14 == 16) (
 J174_1 K Kp a1 1 1 64 false h2) (
 If (t14 == 17) (
 J174_1 K Kp a1 0 32 0 false h2) (
 If (t14 == 18) (
 J174_1 K Kp a1 1 32 0 false h2) (
 If (t14 == 19) (
 J174_1 K Kp a1 1 1 0 true h2) (
 J174_1 K Kp a1 0 0 0 false h2)))))) (
 If (t14 == 20) (
 J174_1 K Kp a1 1 1 0 false h2) (
 If (t14 == 16) (
 J174_1 K Kp a1 1 1 64 false h2) (
 If (t14 == 17) (
 J174_1 K Kp a1 0 32 0 false h2) (
 If (t14 == 18) (
 J174_1 K Kp a1 1 32 0 false h2) (
 If (t14 == 19) (
 J174_1 K Kp a1 1 1 0 true h2) (
 J174_1 K Kp a1 0 0 0 false h2))))))))) Kp) :
 Fn174 t_0 t_1 t_2 t_3 t_4 h K Kp:=fnof (ann:=ann174) (o:=ord174) (zs:=z174) (Kv:=kv174 K) Tryz.func162 (by kernel_rfl) H (by kernel_rfl) (by kernel_rfl)
end
section
def ann175:Ann:=[]
def ord175:OrdT:=[(7,(OT.l [0,1,2,3,4,5,6,7,8,9] .fin),[0,1,0,4,12,28,60,124,255,511])]
def z175:List Value:=[(.bool false)]
def kv175 (K:Bool→HP):Value→HP:=fun v h=>rB v fun r0=>K r0 h
variable (K:Bool→HP) (Kp:PK) 
variable {K Kp} {h:Hp}
theorem Fn175.of {f_0:ByteArray} {f_1:Bool} {f_2 f_3 f_4 f_5:Int} {f_6:Sl} (H :
 NY29 h f_0 f_1 f_2 f_3 f_4 f_5 f_6 fun a1 h1 =>
 Ld h1 (a1.add 2) mI fun t5 =>
 If (t5 == 1) (
 Ld h1 (a1.add 1) .bool fun t9 =>
 K t9 h1) (
 If (t5 == 18) (
 Ld h1 (a1.add 1) .bool fun t13 =>
 K (!t13) h1) (
 If (t5 == 20) (
 Ld h1 (a1.add 1) .bool fun t18 =>
 Ld h1 ((a1.add 2).add 4) Sl.v fun t21 =>
 Ix t21.a t21.n 7 0 fun a22 =>
 Ld h1 (a22.add 1) .bool fun t24 =>
 K (t18 == t24) h1) (
 K true h1)))) :
 Fn175 f_0 f_1 f_2 f_3 f_4 f_5 f_6 h K Kp:=fnof (ann:=ann175) (o:=ord175) (zs:=z175) (Kv:=kv175 K) Tryz.func163 (by kernel_rfl) H (by kernel_rfl) (by kernel_rfl)
end
section
noncomputable def code154:Code:=Tryz.f167.body.getD .skip
def ann154:Ann:=[(2000005,[1,4])]
def ord154:OrdT:=[(5,(OT.l [0,1,2,3,4,5,8,6,7,9,10,11] .fin),[0,1,3,7,15,0,32,96,0,127,767,2047])]
def z154:List Value:=[(.int .i64 0),(.int .i64 0),(.int .i64 0)]
def kv154 (K:Int→Int→Int→HP):Value→HP:=fun v h=>rU v fun vs=>rI (vs.getD 0 undef) fun r0=>rI (vs.getD 1 undef) fun r1=>rI (vs.getD 2 undef) fun r2=>K r0 r1 r2 h
variable (K:Int→Int→Int→HP) (Kp:PK) 
noncomputable def c154:Cx:=⟨Tryz.prog,ann154,ord154,none,code154,(retQ Tryz.prog Tryz.f167.results.toList z154 (kv154 K)),Kp⟩
def J154_1 (x1:Addr) (x4:Int):HP:=semJ (c154 K Kp) [1,1,1] [] ([nO,vP x1,nO,nO,vI x4]++nn 15)
variable {K Kp} {x1:Addr} {x4:Int} {h:Hp}
theorem J154_1.of (H :
 Ld h x1 mI fun t12 =>
 Ix (some (⟨0,0,none⟩)) 21 4 t12 fun a13 =>
 Ld h (a13.add 2) mI fun t15 =>
 LY27 h x1 fun t16_0 t16_1 t16_2 t16_3 t16_4 =>
 Fn177 t16_0 t16_1 t16_2 t16_3 t16_4 h (fun t17 h1 =>
 Keep h h1 (a13.add 2) 1 <|
 Keep h h1 x1 1 <|
 K t15 (t17.n:Int) x4 h1) Kp) :
 J154_1 K Kp x1 x4 h:=jof H (by kernel_rfl)
theorem Fn154.of {t_0 t_1 t_2 t_3:Int} {t_4:Sl} (H :
 NY27 h t_0 t_1 t_2 t_3 t_4 fun a1 h1 =>
 LY27 h1 a1 fun t5_0 t5_1 t5_2 t5_3 t5_4 =>
 Fn176 t5_0 t5_1 t5_2 t5_3 t5_4 h1 (fun t6 h2 =>
 If (!t6) (
 K (-1) (-1) (-1) h2) (
 Ld h2 a1 mI fun t9 =>
 If (t9 == 19) (
 J154_1 K Kp a1 1 h2) (
 J154_1 K Kp a1 0 h2))) Kp) :
 Fn154 t_0 t_1 t_2 t_3 t_4 h K Kp:=fnof (ann:=ann154) (o:=ord154) (zs:=z154) (Kv:=kv154 K) Tryz.func167 (by kernel_rfl) H (by kernel_rfl) (by kernel_rfl)
end
section
noncomputable def code155:Code:=Tryz.f168.body.getD .skip
def ann155:Ann:=[(3500006,[1,2,4,18]),(3700008,[2,4,27]),(48008,[2,4,45])]
def ord155:OrdT:=[]
def z155:List Value:=[(.int .i64 0)]
def kv155 (K:Int→HP):Value→HP:=fun v h=>rI v fun r0=>K r0 h
variable (K:Int→HP) (Kp:PK) 
noncomputable def c155:Cx:=⟨Tryz.prog,ann155,ord155,none,code155,(retQ Tryz.prog Tryz.f168.results.toList z155 (kv155 K)),Kp⟩
def J155_3 (x2:Int) (x4:Addr) (x45:Bool):HP:=semR (c155 K Kp) [1,0,0,1,1,1,1,1,1,0] [] 8 [8,9,10,11,12,13] ([nO,nO,vI x2,nO,vP x4,nO,nO,nO,nO,nO,nO,nO,nO,nO,nO,nO,nO,nO,nO,nO,nO,nO,nO,nO,nO,nO,nO,nO,nO,nO,nO,nO,nO,nO,nO,nO,nO,nO,nO,nO,nO,nO,nO,nO,nO,some (.bool x45)]++nn 12)
def J155_2 (x2:Int) (x4:Addr) (x27:Bool):HP:=semJ (c155 K Kp) [1,0,0,1,1,1,1,1] [] ([nO,nO,vI x2,nO,vP x4,nO,nO,nO,nO,nO,nO,nO,nO,nO,nO,nO,nO,nO,nO,nO,nO,nO,nO,nO,nO,nO,nO,some (.bool x27)]++nn 30)
def J155_1 (x1 x2:Int) (x4:Addr) (x18:Bool):HP:=semJ (c155 K Kp) [1,0,0,1,1,1] [] ([nO,vI x1,vI x2,nO,vP x4,nO,nO,nO,nO,nO,nO,nO,nO,nO,nO,nO,nO,nO,some (.bool x18)]++nn 39)
variable {K Kp} {x2 x1:Int} {x4:Addr} {x45 x27 x18:Bool} {h:Hp}
theorem J155_3.of (H :
 If x45 (
 Wr .i64 (x2+1) fun t52 =>
 Wr .i64 ((4:Int)*t52) fun t53 =>
 K t53 h) (
 Ld h x4 mI fun t48 =>
 If (t48 == 15) (
 Wr .i64 (x2+1) fun t52 =>
 Wr .i64 ((4:Int)*t52) fun t53 =>
 K t53 h) (
 LY27 h x4 fun t55_0 t55_1 t55_2 t55_3 t55_4 =>
 Fn179 t55_0 t55_1 t55_2 t55_3 t55_4 h (fun t56 h1 =>
 Wr .i64 (x2*t56) fun t57 =>
 K t57 h1) Kp))) :
 J155_3 K Kp x2 x4 x45 h:=jof H (by kernel_rfl)
theorem J155_2.of (H :
 If x27 (
 Fn178 x2 h (fun t36 h1 =>
 K t36 h1) Kp) (
 Ld h x4 mI fun t39 =>
 If (t39 == 12) (
 J155_3 K Kp x2 x4 true h) (
 Ld h x4 mI fun t43 =>
 J155_3 K Kp x2 x4 (t43 == 13) h))) :
 J155_2 K Kp x2 x4 x27 h:=jof H (by kernel_rfl)
theorem J155_1.of (H :
 If x18 (
 K 0 h) (
 If (x1 == 0) (
 J155_2 K Kp x2 x4 true h) (
 Ld h x4 mI fun t32 =>
 J155_2 K Kp x2 x4 (t32 == 2) h))) :
 J155_1 K Kp x1 x2 x4 x18 h:=jof H (by kernel_rfl)
theorem Fn155.of {t_0 t_1 t_2 t_3:Int} {t_4:Sl} {k endv havev:Int} (H :
 NY27 h t_0 t_1 t_2 t_3 t_4 fun a4 h1 =>
 Ld h1 a4 mI fun t11 =>
 If (t11 == 18) (
 Wr .i64 ((3:Int)*k) fun t15 =>
 Wr .i64 ((1:Int)+t15) fun t16 =>
 Wr .i64 (endv*t16) fun t17 =>
 K t17 h1) (
 If (k == 0) (
 If (havev == 0) (
 J155_1 K Kp k endv a4 (havev == 0) h1) (
 J155_1 K Kp k endv a4 (k == 2) h1)) (
 J155_1 K Kp k endv a4 (k == 2) h1))) :
 Fn155 t_0 t_1 t_2 t_3 t_4 k endv havev h K Kp:=fnof (ann:=ann155) (o:=ord155) (zs:=z155) (Kv:=kv155 K) Tryz.func168 (by kernel_rfl) H (by kernel_rfl) (by kernel_rfl)
end
section
def ann156:Ann:=[]
def ord156:OrdT:=[]
def z156:List Value:=[(.agg #[(.int .i64 0),(.slice none 0 0),(.int .i64 0)])]
def kv156 (K:Int→Sl→Int→HP):Value→HP:=fun v h=>rG v fun cs0=>rI (cs0.getD 0 undef) fun r0_0=>rS (cs0.getD 1 undef) fun r0_1=>rI (cs0.getD 2 undef) fun r0_2=>K r0_0 r0_1 r0_2 h
variable (K:Int→Sl→Int→HP) (Kp:PK) 
variable {K Kp} {h:Hp}
theorem Fn156.of {f_0:ByteArray} {f_1:Bool} {f_2 f_3 f_4 f_5:Int} {f_6:Sl} {d_0 d_1 d_2:Int} {d_3 d_4 d_5:Sl} (H :
 NY29 h f_0 f_1 f_2 f_3 f_4 f_5 f_6 fun a2 h1 =>
 NY33 h1 d_0 d_1 d_2 d_3 d_4 d_5 fun a3 h2 =>
 New h2 zY37 Y37 fun a4 h3 =>
 LY29 h3 a2 fun t6_0 t6_1 t6_2 t6_3 t6_4 t6_5 t6_6 =>
 LY33 h3 a3 fun t7_0 t7_1 t7_2 t7_3 t7_4 t7_5 =>
 Fn57 t6_0 t6_1 t6_2 t6_3 t6_4 t6_5 t6_6 t7_0 t7_1 t7_2 t7_3 t7_4 t7_5 h3 (fun t8 h4 =>
 Ld h4 (a3.add 2) mI fun t10 =>
 If (t10 != t8) (
 Fn99 81 1 h4 (fun t22_0 t22_1 t22_2 h5 =>
 SY37 h5 a4 t22_0 t22_1 t22_2 fun h6 =>
 LY37 h6 a4 fun r0_0 r0_1 r0_2 =>
 K r0_0 r0_1 r0_2 h6) Kp) (
 If (decide (t8 > 0)) (
 Ld h4 (a2.add 1) .bool fun t18 =>
 If (!t18) (
 Fn99 81 1 h4 (fun t22_0 t22_1 t22_2 h5 =>
 SY37 h5 a4 t22_0 t22_1 t22_2 fun h6 =>
 LY37 h6 a4 fun r0_0 r0_1 r0_2 =>
 K r0_0 r0_1 r0_2 h6) Kp) (
 SY37 h4 a4 0 (⟨none,0,0⟩:Sl) 0 fun h5 =>
 LY37 h5 a4 fun r0_0 r0_1 r0_2 =>
 K r0_0 r0_1 r0_2 h5)) (
 SY37 h4 a4 0 (⟨none,0,0⟩:Sl) 0 fun h5 =>
 LY37 h5 a4 fun r0_0 r0_1 r0_2 =>
 K r0_0 r0_1 r0_2 h5))) Kp) :
 Fn156 f_0 f_1 f_2 f_3 f_4 f_5 f_6 d_0 d_1 d_2 d_3 d_4 d_5 h K Kp:=fnof (ann:=ann156) (o:=ord156) (zs:=z156) (Kv:=kv156 K) Tryz.func169 (by kernel_rfl) H (by kernel_rfl) (by kernel_rfl)
end
end Go.Proofs.YtlbbdbdjiekkaaaGreatDoor
set_option maxRecDepth 100000
set_option maxHeartbeats 200000
/- What the functions do, printed by program (gen.py) in the words of ShCore; each text is held against the loaded program by the kernel. -/
namespace Go.Proofs.YtlbbdbdjiekkaaaGreatDoor
open Go Go.Sh
section
noncomputable def code157:Code:=Tryz.f170.body.getD .skip
def ann157:Ann:=[(2000005,[2,3,4,5]),(2000014,[2,3,4]),(2017,[2,3,4,58,59]),(2007,[2,3,4,5,6,27,28])]
def ord157:OrdT:=[(20,(OT.l [0,1,2,3,4,5,6,7,8,9,10,11,12,13,14,16,17,18,19,20,21,15,22,23,24,25,26] .fin),[0,0,0,7,15,31,63,127,255,511,63,1087,3135,7231,63,31807,63,65599,196671,458815,63,1048639,4193343,8388607,16777215,33554431,67108863]),(9,(OT.l [0,1,2,3,4,5,6,7,8,9] .fin),[0,1,3,7,0,16,0,112,255,511])]
def z157:List Value:=[(.agg #[(.int .i64 0),(.slice none 0 0),(.int .i64 0)])]
def kv157 (K:Int→Sl→Int→HP):Value→HP:=fun v h=>rG v fun cs0=>rI (cs0.getD 0 undef) fun r0_0=>rS (cs0.getD 1 undef) fun r0_1=>rI (cs0.getD 2 undef) fun r0_2=>K r0_0 r0_1 r0_2 h
variable (K:Int→Sl→Int→HP) (Kp:PK) 
noncomputable def c157:Cx:=⟨Tryz.prog,ann157,ord157,none,code157,(retQ Tryz.prog Tryz.f170.results.toList z157 (kv157 K)),Kp⟩
abbrev mk157_3 (x2 x3 x4:Addr) (x58 x59:Int):Fr:=([nO,nO,vP x2,vP x3,vP x4,nO,nO,nO,nO,nO,nO,nO,nO,nO,nO,nO,nO,nO,nO,nO,nO,nO,nO,nO,nO,nO,nO,nO,nO,nO,nO,nO,nO,nO,nO,nO,nO,nO,nO,nO,nO,nO,nO,nO,nO,nO,nO,nO,nO,nO,nO,nO,nO,nO,nO,nO,nO,nO,vI x58,vI x59]++nn 37)
def L157_3 (x2 x3 x4:Addr) (x58 x59:Int):HP:=semL (c157 K Kp) 2017 [1,1,1,1,1,1,0,1,0] [] (mk157_3 x2 x3 x4 x58 x59)
def J157_2 (x2 x3 x4:Addr):HP:=semJ (c157 K Kp) [1,1,1,1,1] [] ([nO,nO,vP x2,vP x3,vP x4]++nn 92)
abbrev mk157_4 (x2 x3 x4:Addr) (x5 x27 x6 x28:Int):Fr:=([nO,nO,vP x2,vP x3,vP x4,vI x5,vI x6,nO,nO,nO,nO,nO,nO,nO,nO,nO,nO,nO,nO,nO,nO,nO,nO,nO,nO,nO,nO,vI x27,vI x28]++nn 68)
def L157_4 (x2 x3 x4:Addr) (x5 x27 x6 x28:Int):HP:=semL (c157 K Kp) 2007 [1,1,1,1,0,1,0] [] (mk157_4 x2 x3 x4 x5 x27 x6 x28)
def J157_1 (x2 x3 x4:Addr) (x5:Int):HP:=semJ (c157 K Kp) [1,1,1] [] ([nO,nO,vP x2,vP x3,vP x4,vI x5]++nn 91)
variable {K Kp} {x2 x3 x4:Addr} {x5 x27 x58:Int} {h:Hp}
theorem L157_3.rule:LR1 (L157_3 K Kp x2 x3 x4 x58) (mk157_3 x2 x3 x4 x58) fun N1 (x59:Int) h =>
 (If (decide (x59 < x58)) (
 Ld h (x3.add 1) mI fun t63 =>
 Wr .i64 (t63+x59) fun t65 =>
 LY29 h x2 fun t66_0 t66_1 t66_2 t66_3 t66_4 t66_5 t66_6 =>
 LY33 h x3 fun t67_0 t67_1 t67_2 t67_3 t67_4 t67_5 =>
 Fn105 t66_0 t66_1 t66_2 t66_3 t66_4 t66_5 t66_6 t67_0 t67_1 t67_2 t67_3 t67_4 t67_5 t65 h (fun t69 h1 =>
 If (!t69) (
 Ld h1 (x3.add 3) Sl.v fun t73 =>
 Ix t73.a t73.n 1 2 fun a74 =>
 Ld h1 a74 Sl.v fun t75 =>
 Ld h1 (x3.add 3) Sl.v fun t77 =>
 Ix t77.a t77.n 1 1 fun a78 =>
 Ld h1 a78 Sl.v fun t79 =>
 Ld h1 (x3.add 3) Sl.v fun t83 =>
 Ix t83.a t83.n 1 1 fun a84 =>
 Ld h1 a84 Sl.v fun t85 =>
 Wr .i64 (t65+1) fun t87 =>
 Fn158 t79 t65 h1 (fun t81 h2 =>
 Keep h1 h2 a84 1 <|
 Keep h1 h2 (x3.add 3) 1 <|
 Keep h1 h2 a74 1 <|
 Keep h1 h2 (x3.add 3) 1 <|
 Fn158 t85 t87 h2 (fun t88 h3 =>
 Keep h2 h3 a74 1 <|
 Keep h2 h3 (x3.add 3) 1 <|
 Slc t75 1 (some t81) (some t88) none fun t89 =>
 Fn205 t89 h3 (fun t90 h4 =>
 If (!t90) (
 Fn99 84 x59 h4 (fun t94_0 t94_1 t94_2 h5 =>
 SY37 h5 x4 t94_0 t94_1 t94_2 fun h6 =>
 LY37 h6 x4 fun r0_0 r0_1 r0_2 =>
 K r0_0 r0_1 r0_2 h6) Kp) (
 Wr .i64 (x59+1) fun t95 =>
 N1 (mk157_3 x2 x3 x4 x58 t95) h4)) Kp) Kp) Kp) (
 Wr .i64 (x59+1) fun t95 =>
 N1 (mk157_3 x2 x3 x4 x58 t95) h1)) Kp) (
 SY37 h x4 0 (⟨none,0,0⟩:Sl) 0 fun h1 =>
 LY37 h1 x4 fun r0_0 r0_1 r0_2 =>
 K r0_0 r0_1 r0_2 h1)) :=
 loop1 (fun _ _=>rfl) fun _ _ _=>by kernel_rfl
theorem J157_2.of (H :
 Ld h (x2.add 2) mI fun t54 =>
 If (t54 != 12) (
 SY37 h x4 0 (⟨none,0,0⟩:Sl) 0 fun h1 =>
 LY37 h1 x4 fun r0_0 r0_1 r0_2 =>
 K r0_0 r0_1 r0_2 h1) (
 Ld h x3 mI fun t58 =>
 L157_3 K Kp x2 x3 x4 t58 0 h)) :
 J157_2 K Kp x2 x3 x4 h:=jof H (by kernel_rfl)
theorem L157_4.rule:LR2 (L157_4 K Kp x2 x3 x4 x5 x27) (mk157_4 x2 x3 x4 x5 x27) fun N1 (x6:Int) (x28:Int) h =>
 (If (decide (x28 < x27)) (
 Ld h (x3.add 3) Sl.v fun t32 =>
 Ix t32.a t32.n 1 1 fun a33 =>
 Ld h a33 Sl.v fun t34 =>
 Ld h (x3.add 1) mI fun t36 =>
 Wr .i64 (t36+x28) fun t38 =>
 Fn158 t34 t38 h (fun t39 h1 =>
 If (decide (t39 < x6)) (
 Fn99 83 x28 h1 (fun t49_0 t49_1 t49_2 h2 =>
 SY37 h2 x4 t49_0 t49_1 t49_2 fun h3 =>
 LY37 h3 x4 fun r0_0 r0_1 r0_2 =>
 K r0_0 r0_1 r0_2 h3) Kp) (
 If (decide (t39 > x5)) (
 Fn99 83 x28 h1 (fun t49_0 t49_1 t49_2 h2 =>
 SY37 h2 x4 t49_0 t49_1 t49_2 fun h3 =>
 LY37 h3 x4 fun r0_0 r0_1 r0_2 =>
 K r0_0 r0_1 r0_2 h3) Kp) (
 Wr .i64 (x28+1) fun t51 =>
 N1 (mk157_4 x2 x3 x4 x5 x27 t39 t51) h1))) Kp) (
 J157_2 K Kp x2 x3 x4 h)) :=
 loop2 (fun _ _ _=>rfl) fun _ _ _ _=>by kernel_rfl
theorem J157_1.of (H :
 Ld h x3 mI fun t26 =>
 Wr .i64 (t26+1) fun t27 =>
 L157_4 K Kp x2 x3 x4 x5 t27 0 0 h) :
 J157_1 K Kp x2 x3 x4 x5 h:=jof H (by kernel_rfl)
theorem Fn157.of {f_0:ByteArray} {f_1:Bool} {f_2 f_3 f_4 f_5:Int} {f_6:Sl} {d_0 d_1 d_2:Int} {d_3 d_4 d_5:Sl} (H :
 NY29 h f_0 f_1 f_2 f_3 f_4 f_5 f_6 fun a2 h1 =>
 NY33 h1 d_0 d_1 d_2 d_3 d_4 d_5 fun a3 h2 =>
 New h2 zY37 Y37 fun a4 h3 =>
 Ld h3 (a2.add 2) mI fun t13 =>
 If (t13 == 15) (
 Ld h3 (a3.add 4) Sl.v fun t16 =>
 Ix t16.a t16.n 6 0 fun a17 =>
 Ld h3 a17 mI fun t19 =>
 J157_1 K Kp a2 a3 a4 t19 h3) (
 Ld h3 (a3.add 3) Sl.v fun t21 =>
 Ix t21.a t21.n 1 2 fun a22 =>
 Ld h3 a22 Sl.v fun t23 =>
 J157_1 K Kp a2 a3 a4 (t23.n:Int) h3)) :
 Fn157 f_0 f_1 f_2 f_3 f_4 f_5 f_6 d_0 d_1 d_2 d_3 d_4 d_5 h K Kp:=fnof (ann:=ann157) (o:=ord157) (zs:=z157) (Kv:=kv157 K) Tryz.func170 (by kernel_rfl) H (by kernel_rfl) (by kernel_rfl)
end
section
def ann158:Ann:=[]
def ord158:OrdT:=[(2,(OT.l [0,1,2,3,4,5,6,7,8,9,10,11,12,13,14,15,16,17,18,19,20,21,22,23,24] .fin),[0,1,3,7,0,16,48,112,240,511,0,1024,3072,7168,15360,32767,0,65536,196608,458752,983040,2097151,4194303,8388607,16777215])]
def z158:List Value:=[(.int .i64 0)]
def kv158 (K:Int→HP):Value→HP:=fun v h=>rI v fun r0=>K r0 h
variable (K:Int→HP) (Kp:PK) 
variable {K Kp} {h:Hp}
theorem Fn158.of {b:Sl} {i:Int} (H :
 Wr .i64 ((4:Int)*i) fun t7 =>
 Slc b 1 (some t7) none none fun t8 =>
 Ix t8.a t8.n 1 0 fun a10 =>
 Ld h a10 (.int .u8) fun t11 =>
 Wr .u32 t11 fun t12 =>
 Ix t8.a t8.n 1 1 fun a14 =>
 Ld h a14 (.int .u8) fun t15 =>
 Wr .u32 t15 fun t16 =>
 Nn 8<|Wr .u32 (t16*2 ^ (min (Int.toNat 8) (IntKind.bits .u32))) fun t17 =>
 Lt (bitsV .or .u32 t12 t17) fun t18 =>
 Ix t8.a t8.n 1 2 fun a20 =>
 Ld h a20 (.int .u8) fun t21 =>
 Wr .u32 t21 fun t22 =>
 Nn 16<|Wr .u32 (t22*2 ^ (min (Int.toNat 16) (IntKind.bits .u32))) fun t23 =>
 Lt (bitsV .or .u32 t18 t23) fun t24 =>
 Ix t8.a t8.n 1 3 fun a26 =>
 Ld h a26 (.int .u8) fun t27 =>
 Wr .u32 t27 fun t28 =>
 Nn 24<|Wr .u32 (t28*2 ^ (min (Int.toNat 24) (IntKind.bits .u32))) fun t29 =>
 Lt (bitsV .or .u32 t24 t29) fun t30 =>
 Wr .i32 t30 fun t31 =>
 Wr .i64 t31 fun t32 =>
 K t32 h) :
 Fn158 b i h K Kp:=fnof (ann:=ann158) (o:=ord158) (zs:=z158) (Kv:=kv158 K) Tryz.func171 (by kernel_rfl) H (by kernel_rfl) (by kernel_rfl)
end
section
noncomputable def code105:Code:=Tryz.f172.body.getD .skip
def ann105:Ann:=[(2000005,[2,4])]
def ord105:OrdT:=[]
def z105:List Value:=[(.bool false)]
def kv105 (K:Bool→HP):Value→HP:=fun v h=>rB v fun r0=>K r0 h
variable (K:Bool→HP) (Kp:PK) 
noncomputable def c105:Cx:=⟨Tryz.prog,ann105,ord105,none,code105,(retQ Tryz.prog Tryz.f172.results.toList z105 (kv105 K)),Kp⟩
def J105_1 (x2:Int) (x4:Addr):HP:=semJ (c105 K Kp) [1,1,1] [] ([nO,nO,vI x2,nO,vP x4]++nn 32)
variable {K Kp} {x2:Int} {x4:Addr} {h:Hp}
theorem J105_1.of (H :
 Ld h (x4.add 3) Sl.v fun t28 =>
 Ix t28.a t28.n 1 0 fun a29 =>
 Ld h a29 Sl.v fun t30 =>
 Fn134 t30 x2 h (fun t32_0 t32_1 h1 =>
 K (!t32_0) h1) Kp) :
 J105_1 K Kp x2 x4 h:=jof H (by kernel_rfl)
theorem Fn105.of {f_0:ByteArray} {f_1:Bool} {f_2 f_3 f_4 f_5:Int} {f_6:Sl} {d_0 d_1 d_2:Int} {d_3 d_4 d_5:Sl} {r:Int} (H :
 NY29 h f_0 f_1 f_2 f_3 f_4 f_5 f_6 fun a3 h1 =>
 NY33 h1 d_0 d_1 d_2 d_3 d_4 d_5 fun a4 h2 =>
 Ld h2 (a3.add 2) mI fun t11 =>
 If (t11 == 1) (
 K true h2) (
 Ld h2 (a3.add 2) mI fun t15 =>
 Fn114 t15 h2 (fun t16 h3 =>
 If (!t16) (
 K false h3) (
 Ld h3 (a4.add 3) Sl.v fun t20 =>
 Ix t20.a t20.n 1 0 fun a21 =>
 Ld h3 a21 Sl.v fun t22 =>
 If ((t22.n:Int) == 0) (
 K false h3) (
 J105_1 K Kp r a4 h3))) Kp)) :
 Fn105 f_0 f_1 f_2 f_3 f_4 f_5 f_6 d_0 d_1 d_2 d_3 d_4 d_5 r h K Kp:=fnof (ann:=ann105) (o:=ord105) (zs:=z105) (Kv:=kv105 K) Tryz.func172 (by kernel_rfl) H (by kernel_rfl) (by kernel_rfl)
end
section
noncomputable def code159:Code:=Tryz.f173.body.getD .skip
def ann159:Ann:=[(2000009,[3,4,7,8,9]),(2000010,[4,9,12]),(2005,[3,4,7,8,9,29,30,31])]
def ord159:OrdT:=[]
def z159:List Value:=[(.int .i64 0)]
def kv159 (K:Int→HP):Value→HP:=fun v h=>rI v fun r0=>K r0 h
variable (K:Int→HP) (Kp:PK) 
noncomputable def c159:Cx:=⟨Tryz.prog,ann159,ord159,none,code159,(retQ Tryz.prog Tryz.f173.results.toList z159 (kv159 K)),Kp⟩
def J159_2 (x4:Addr) (x9:Int) (x12:Bool):HP:=semJ (c159 K Kp) [1,1,1,1,1,1] [] ([nO,nO,nO,nO,vP x4,nO,nO,nO,nO,some (.int .u64 x9),nO,nO,some (.bool x12)]++nn 57)
def J159_1 (x3 x4:Addr) (x7:Int) (x8:Sl) (x9:Int):HP:=semJ (c159 K Kp) [1,1,1,1,1] [] ([nO,nO,nO,vP x3,vP x4,nO,nO,vI x7,vS x8,some (.int .u64 x9)]++nn 60)
abbrev mk159_3 (x3 x4:Addr) (x7:Int) (x8 x29:Sl) (x30 x9 x31:Int):Fr:=([nO,nO,nO,vP x3,vP x4,nO,nO,vI x7,vS x8,some (.int .u64 x9),nO,nO,nO,nO,nO,nO,nO,nO,nO,nO,nO,nO,nO,nO,nO,nO,nO,nO,nO,vS x29,vI x30,vI x31]++nn 38)
def L159_3 (x3 x4:Addr) (x7:Int) (x8 x29:Sl) (x30 x9 x31:Int):HP:=semL (c159 K Kp) 2005 [1,1,1,1,0,1,0] [] (mk159_3 x3 x4 x7 x8 x29 x30 x9 x31)
variable {K Kp} {x3 x4:Addr} {x7 x30 x9:Int} {x8 x29:Sl} {x12:Bool} {h:Hp}
theorem J159_2.of (H :
 If x12 (
 K (-1) h) (
 Ld h (x4.add 5) Sl.v fun t60 =>
 Ix t60.a t60.n 6 0 fun a61 =>
 Ld h a61 mI fun t63 =>
 Lt (if 0 > t63 then 0 else t63) fun t64 =>
 Wr .u64 t64 fun t65 =>
 If (decide (x9≥t65)) (
 K (-1) h) (
 Wr .i64 x9 fun t69 =>
 K t69 h))) :
 J159_2 K Kp x4 x9 x12 h:=jof H (by kernel_rfl)
theorem J159_1.of (H :
 Ld h ((x3.add 2).add 3) mI fun t46 =>
 If (decide (t46≤6)) (
 Wr .i64 (x7 - 1) fun t51 =>
 Ix x8.a x8.n 1 t51 fun a52 =>
 Ld h a52 (.int .u8) fun t53 =>
 J159_2 K Kp x4 x9 (decide (t53 > 127)) h) (
 J159_2 K Kp x4 x9 false h)) :
 J159_1 K Kp x3 x4 x7 x8 x9 h:=jof H (by kernel_rfl)
theorem L159_3.rule:LR2 (L159_3 K Kp x3 x4 x7 x8 x29 x30) (mk159_3 x3 x4 x7 x8 x29 x30) fun N1 (x9:Int) (x31:Int) h =>
 (If (decide (x31 < x30)) (
 Ix x29.a x29.n 1 x31 fun a34 =>
 Ld h a34 (.int .u8) fun t35 =>
 Wr .u64 t35 fun t38 =>
 Wr .i64 ((8:Int)*x31) fun t40 =>
 Nn t40<|Wr .u64 (t38*2 ^ (min (Int.toNat t40) (IntKind.bits .u64))) fun t41 =>
 Lt (bitsV .or .u64 x9 t41) fun t42 =>
 Wr .i64 (x31+1) fun t43 =>
 N1 (mk159_3 x3 x4 x7 x8 x29 x30 t42 t43) h) (
 J159_1 K Kp x3 x4 x7 x8 x9 h)) :=
 loop2 (fun _ _ _=>rfl) fun _ _ _ _=>by kernel_rfl
theorem Fn159.of {f_0:ByteArray} {f_1:Bool} {f_2 f_3 f_4 f_5:Int} {f_6:Sl} {d_0 d_1 d_2:Int} {d_3 d_4 d_5:Sl} {r:Int} (H :
 NY29 h f_0 f_1 f_2 f_3 f_4 f_5 f_6 fun a3 h1 =>
 NY33 h1 d_0 d_1 d_2 d_3 d_4 d_5 fun a4 h2 =>
 Ld h2 ((a3.add 2).add 3) mI fun t15 =>
 Fn180 t15 h2 (fun t16 h3 =>
 Ld h3 (a4.add 3) Sl.v fun t18 =>
 Ix t18.a t18.n 1 1 fun a19 =>
 Ld h3 a19 Sl.v fun t20 =>
 Wr .i64 (r*t16) fun t23 =>
 Wr .i64 (r+1) fun t25 =>
 Wr .i64 (t25*t16) fun t27 =>
 Slc t20 1 (some t23) (some t27) none fun t28 =>
 L159_3 K Kp a3 a4 t16 t28 t28 (t28.n:Int) 0 0 h3) Kp) :
 Fn159 f_0 f_1 f_2 f_3 f_4 f_5 f_6 d_0 d_1 d_2 d_3 d_4 d_5 r h K Kp:=fnof (ann:=ann159) (o:=ord159) (zs:=z159) (Kv:=kv159 K) Tryz.func173 (by kernel_rfl) H (by kernel_rfl) (by kernel_rfl)
end
section
def ann160:Ann:=[]
def ord160:OrdT:=[]
def z160:List Value:=[(.slice none 0 0)]
def kv160 (K:Sl→HP):Value→HP:=fun v h=>rS v fun r0=>K r0 h
variable (K:Sl→HP) (Kp:PK) 
variable {K Kp} {h:Hp}
theorem Fn160.of {within:Sl} {fromv to:Int} (H :
 If (fromv == to) (
 K (⟨none,0,0⟩:Sl) h) (
 Ix within.a within.n 1 0 fun a11 =>
 Ld h a11 Sl.v fun t12 =>
 Slc t12 1 (some fromv) (some to) none fun t15 =>
 K t15 h)) :
 Fn160 within fromv to h K Kp:=fnof (ann:=ann160) (o:=ord160) (zs:=z160) (Kv:=kv160 K) Tryz.func174 (by kernel_rfl) H (by kernel_rfl) (by kernel_rfl)
end
section
def ann135:Ann:=[]
def ord135:OrdT:=[]
def z135:List Value:=[(.agg #[(.bool false),(.int .i64 0),(.string (bs [])),(.slice none 0 0)])]
def kv135 (K:Bool→Int→ByteArray→Sl→HP):Value→HP:=fun v h=>rG v fun cs0=>rB (cs0.getD 0 undef) fun r0_0=>rI (cs0.getD 1 undef) fun r0_1=>rT (cs0.getD 2 undef) fun r0_2=>rS (cs0.getD 3 undef) fun r0_3=>K r0_0 r0_1 r0_2 r0_3 h
variable (K:Bool→Int→ByteArray→Sl→HP) (Kp:PK) 
variable {K Kp} {h:Hp}
theorem Fn135.of {a:Option Addr} {r:Int} {left:Option Addr} (H :
 New h zY66 Y66 fun a6 h1 =>
 Fn68 a r h1 (fun t9 h2 =>
 If t9 (
 Fn162 left 16 h2 (fun h3 =>
 SY66 h3 a6 true 0 (bs []) (⟨none,0,0⟩:Sl) fun h4 =>
 LY66 h4 a6 fun r0_0 r0_1 r0_2 r0_3 =>
 K r0_0 r0_1 r0_2 r0_3 h4) Kp) (
 NN a fun p14 =>
 Ld h2 (p14.add 16) id fun t16 =>
 CallI Tryz.prog t16 "colonnade/array.read" [(.pointer a),(.int .i64 r),(.pointer left)] h2 (fun r_2 h3=>∃t20_0:Bool,∃t20_1:Int,∃t20_2:ByteArray,∃t20_3:Sl,r_2=(.agg #[(.bool t20_0),(.int .i64 t20_1),(.string t20_2),(Sl.v t20_3)])∧(
 SY66 h3 a6 t20_0 t20_1 t20_2 t20_3 fun h4 =>
 LY66 h4 a6 fun r0_0 r0_1 r0_2 r0_3 =>
 K r0_0 r0_1 r0_2 r0_3 h4)) Kp)) Kp) :
 Fn135 a r left h K Kp:=fnof (ann:=ann135) (o:=ord135) (zs:=z135) (Kv:=kv135 K) Tryz.func175 (by kernel_rfl) H (by kernel_rfl) (by kernel_rfl)
end
end Go.Proofs.YtlbbdbdjiekkaaaGreatDoor
set_option maxRecDepth 100000
set_option maxHeartbeats 200000
/- What the functions do, printed by program (gen.py) in the words of ShCore; each text is held against the loaded program by the kernel. -/
namespace Go.Proofs.YtlbbdbdjiekkaaaGreatDoor
open Go Go.Sh
end Go.Proofs.YtlbbdbdjiekkaaaGreatDoor
set_option maxRecDepth 100000
set_option maxHeartbeats 200000
/- What the functions do, printed by program (gen.py) in the words of ShCore; each text is held against the loaded program by the kernel. -/
namespace Go.Proofs.YtlbbdbdjiekkaaaGreatDoor
open Go Go.Sh
end Go.Proofs.YtlbbdbdjiekkaaaGreatDoor
set_option maxRecDepth 100000
set_option maxHeartbeats 200000
/- What the functions do, printed by program (gen.py) in the words of ShCore; each text is held against the loaded program by the kernel. -/
namespace Go.Proofs.YtlbbdbdjiekkaaaGreatDoor
open Go Go.Sh
section
noncomputable def code329:Code:=Tryz.f196.body.getD .skip
def ann329:Ann:=[(2012,[4,34,35,36])]
def ord329:OrdT:=[(9,(OT.l [0,1,2,3,4,5,6,7,8,9,10] .fin),[0,0,2,0,8,24,56,120,254,511,1023])]
def z329:List Value:=[(.int .i64 0)]
def kv329 (K:Int→HP):Value→HP:=fun v h=>rI v fun r0=>K r0 h
variable (K:Int→HP) (Kp:PK) 
noncomputable def c329:Cx:=⟨Tryz.prog,ann329,ord329,none,code329,(retQ Tryz.prog Tryz.f196.results.toList z329 (kv329 K)),Kp⟩
abbrev mk329_1 (x34:Sl) (x35 x4 x36:Int):Fr:=([nO,nO,nO,nO,vI x4,nO,nO,nO,nO,nO,nO,nO,nO,nO,nO,nO,nO,nO,nO,nO,nO,nO,nO,nO,nO,nO,nO,nO,nO,nO,nO,nO,nO,nO,vS x34,vI x35,vI x36]++nn 27)
def L329_1 (x34:Sl) (x35 x4 x36:Int):HP:=semL (c329 K Kp) 2012 [1,1,1,1,0,1,0,1,1,1,1,1,0,1,0] [] (mk329_1 x34 x35 x4 x36)
variable {K Kp} {x34:Sl} {x35:Int} {h:Hp}
theorem Fn329.of {f_0:ByteArray} {f_1:Bool} {f_2 f_3 f_4 f_5:Int} {f_6:Sl} (H :
 NY29 h f_0 f_1 f_2 f_3 f_4 f_5 f_6 fun a1 h1 =>
 LY29 h1 a1 fun t7_0 t7_1 t7_2 t7_3 t7_4 t7_5 t7_6 =>
 Fn331 t7_0 t7_1 t7_2 t7_3 t7_4 t7_5 t7_6 h1 (fun t8 h2 =>
 If t8 (
 K 16 h2) (
 LY27 h2 (a1.add 2) fun t10_0 t10_1 t10_2 t10_3 t10_4 =>
 New h2 zY27 Y27 fun a3 h3 =>
 SY27 h3 a3 t10_0 t10_1 t10_2 t10_3 t10_4 fun h4 =>
 Ld h4 a3 mI fun t12 =>
 If (t12 == 14) (
 Ld h4 (a3.add 1) mI fun t17 =>
 Wr .i64 ((16:Int)+t17) fun t18 =>
 Lt (if 4194305 < t18 then 4194305 else t18) fun t63 =>
 K t63 h4) (
 If (t12 == 16) (
 Ld h4 (a3.add 1) mI fun t23 =>
 Ld h4 (a3.add 4) Sl.v fun t25 =>
 Ix t25.a t25.n 7 0 fun a26 =>
 LY29 h4 a26 fun t27_0 t27_1 t27_2 t27_3 t27_4 t27_5 t27_6 =>
 Fn329 t27_0 t27_1 t27_2 t27_3 t27_4 t27_5 t27_6 h4 (fun t28 h5 =>
 Keep h4 h5 (a3.add 1) 1 <|
 Wr .i64 (t23*t28) fun t29 =>
 Wr .i64 ((16:Int)+t29) fun t30 =>
 Lt (if 4194305 < t30 then 4194305 else t30) fun t63 =>
 K t63 h5) Kp) (
 If (t12 == 17) (
 Ld h4 (a3.add 4) Sl.v fun t34 =>
 L329_1 K Kp t34 (t34.n:Int) 16 0 h4) (
 If (t12 == 18) (
 Ld h4 (a3.add 4) Sl.v fun t49 =>
 Ix t49.a t49.n 7 0 fun a50 =>
 LY29 h4 a50 fun t51_0 t51_1 t51_2 t51_3 t51_4 t51_5 t51_6 =>
 Fn329 t51_0 t51_1 t51_2 t51_3 t51_4 t51_5 t51_6 h4 (fun t52 h5 =>
 Wr .i64 ((16:Int)+t52) fun t53 =>
 Lt (if 4194305 < t53 then 4194305 else t53) fun t63 =>
 K t63 h5) Kp) (
 If (t12 == 19) (
 If (t12 == 19) (
 Ld h4 (a3.add 4) Sl.v fun t58 =>
 Ix t58.a t58.n 7 0 fun a59 =>
 LY29 h4 a59 fun t60_0 t60_1 t60_2 t60_3 t60_4 t60_5 t60_6 =>
 Fn329 t60_0 t60_1 t60_2 t60_3 t60_4 t60_5 t60_6 h4 (fun t61 h5 =>
 Lt (if 4194305 < t61 then 4194305 else t61) fun t63 =>
 K t63 h5) Kp) (
 Lt (if 4194305 < 16 then 4194305 else 16) fun t63 =>
 K t63 h4)) (
 If (t12 == 20) (
 Ld h4 (a3.add 4) Sl.v fun t58 =>
 Ix t58.a t58.n 7 0 fun a59 =>
 LY29 h4 a59 fun t60_0 t60_1 t60_2 t60_3 t60_4 t60_5 t60_6 =>
 Fn329 t60_0 t60_1 t60_2 t60_3 t60_4 t60_5 t60_6 h4 (fun t61 h5 =>
 Lt (if 4194305 < t61 then 4194305 else t61) fun t63 =>
 K t63 h5) Kp) (
 Lt (if 4194305 < 16 then 4194305 else 16) fun t63 =>
 K t63 h4)))))))) Kp) :
 Fn329 f_0 f_1 f_2 f_3 f_4 f_5 f_6 h K Kp:=fnof (ann:=ann329) (o:=ord329) (zs:=z329) (Kv:=kv329 K) Tryz.func196 (by kernel_rfl) H (by kernel_rfl) (by kernel_rfl)
end
section
noncomputable def code330:Code:=Tryz.f197.body.getD .skip
def ann330:Ann:=[(2010,[2,3,4,23,24]),(2015,[2,3,40,41,42])]
def ord330:OrdT:=[(11,(OT.l [0,1,2,3,4,5,6,7,8,9,10] .fin),[0,1,0,4,12,28,60,124,255,511,1023]),(17,(OT.l [0,1,2,3,4,5,6,7] .fin),[0,1,0,4,12,31,63,127])]
def z330:List Value:=[(.agg #[(.bool false),(.int .i64 0),(.string (bs [])),(.slice none 0 0)])]
def kv330 (K:Bool→Int→ByteArray→Sl→HP):Value→HP:=fun v h=>rG v fun cs0=>rB (cs0.getD 0 undef) fun r0_0=>rI (cs0.getD 1 undef) fun r0_1=>rT (cs0.getD 2 undef) fun r0_2=>rS (cs0.getD 3 undef) fun r0_3=>K r0_0 r0_1 r0_2 r0_3 h
variable (K:Bool→Int→ByteArray→Sl→HP) (Kp:PK) 
noncomputable def c330:Cx:=⟨Tryz.prog,ann330,ord330,none,code330,(retQ Tryz.prog Tryz.f197.results.toList z330 (kv330 K)),Kp⟩
abbrev mk330_1 (x2 x3 x4:Addr) (x23 x24:Int):Fr:=([nO,nO,vP x2,vP x3,vP x4,nO,nO,nO,nO,nO,nO,nO,nO,nO,nO,nO,nO,nO,nO,nO,nO,nO,nO,vI x23,vI x24]++nn 47)
def L330_1 (x2 x3 x4:Addr) (x23 x24:Int):HP:=semL (c330 K Kp) 2010 [1,1,1,1,0,1,0,1,1,1,0,1,0] [] (mk330_1 x2 x3 x4 x23 x24)
abbrev mk330_2 (x2 x3:Addr) (x40:Sl) (x41 x42:Int):Fr:=([nO,nO,vP x2,vP x3,nO,nO,nO,nO,nO,nO,nO,nO,nO,nO,nO,nO,nO,nO,nO,nO,nO,nO,nO,nO,nO,nO,nO,nO,nO,nO,nO,nO,nO,nO,nO,nO,nO,nO,nO,nO,vS x40,vI x41,vI x42]++nn 29)
def L330_2 (x2 x3:Addr) (x40:Sl) (x41 x42:Int):HP:=semL (c330 K Kp) 2015 [1,1,1,1,0,1,0,1,1,1,1,1,0,1,0] [] (mk330_2 x2 x3 x40 x41 x42)
variable {K Kp} {x2 x3 x4:Addr} {x23 x41:Int} {x40:Sl} {h:Hp}
theorem Fn330.of {f_0:ByteArray} {f_1:Bool} {f_2 f_3 f_4 f_5:Int} {f_6:Sl} (H :
 NY29 h f_0 f_1 f_2 f_3 f_4 f_5 f_6 fun a1 h1 =>
 New h1 zY66 Y66 fun a2 h2 =>
 LY29 h2 a1 fun t7_0 t7_1 t7_2 t7_3 t7_4 t7_5 t7_6 =>
 Fn331 t7_0 t7_1 t7_2 t7_3 t7_4 t7_5 t7_6 h2 (fun t8 h3 =>
 If t8 (
 SY66 h3 a2 true 0 (bs []) (⟨none,0,0⟩:Sl) fun h4 =>
 LY66 h4 a2 fun r0_0 r0_1 r0_2 r0_3 =>
 K r0_0 r0_1 r0_2 r0_3 h4) (
 New h3 zY66 Y66 fun a3 h4 =>
 LY27 h4 (a1.add 2) fun t11_0 t11_1 t11_2 t11_3 t11_4 =>
 New h4 zY27 Y27 fun a4 h5 =>
 SY27 h5 a4 t11_0 t11_1 t11_2 t11_3 t11_4 fun h6 =>
 Ld h6 a4 mI fun t13 =>
 If (t13 == 14) (
 Ld h6 (a4.add 1) mI fun t17 =>
 Fn414 (bs [0]) t17 h6 (fun t18 h7 =>
 St h7 (a3.add 2) (.string t18) fun h8 =>
 LY66 h8 a3 fun t71_0 t71_1 t71_2 t71_3 =>
 SY66 h8 a2 t71_0 t71_1 t71_2 t71_3 fun h9 =>
 LY66 h9 a2 fun r0_0 r0_1 r0_2 r0_3 =>
 K r0_0 r0_1 r0_2 r0_3 h9) Kp) (
 If (t13 == 16) (
 Ld h6 (a4.add 1) mI fun t23 =>
 L330_1 K Kp a2 a3 a4 t23 0 h6) (
 If (t13 == 17) (
 Ld h6 (a4.add 4) Sl.v fun t40 =>
 L330_2 K Kp a2 a3 t40 (t40.n:Int) 0 h6) (
 If (t13 == 18) (
 Ld h6 (a4.add 4) Sl.v fun t57 =>
 Ix t57.a t57.n 7 0 fun a58 =>
 LY29 h6 a58 fun t59_0 t59_1 t59_2 t59_3 t59_4 t59_5 t59_6 =>
 Fn330 t59_0 t59_1 t59_2 t59_3 t59_4 t59_5 t59_6 h6 (fun t60_0 t60_1 t60_2 t60_3 h7 =>
 New h7 #[(.bool t60_0),(.int .i64 t60_1),(.string t60_2),(Sl.v t60_3)] Y66 fun a61 h8 =>
 St h8 (a3.add 3) (.slice (some a61) 1 1) fun h9 =>
 LY66 h9 a3 fun t71_0 t71_1 t71_2 t71_3 =>
 SY66 h9 a2 t71_0 t71_1 t71_2 t71_3 fun h10 =>
 LY66 h10 a2 fun r0_0 r0_1 r0_2 r0_3 =>
 K r0_0 r0_1 r0_2 r0_3 h10) Kp) (
 If (t13 == 19) (
 If (t13 == 19) (
 Ld h6 (a4.add 4) Sl.v fun t67 =>
 Ix t67.a t67.n 7 0 fun a68 =>
 LY29 h6 a68 fun t69_0 t69_1 t69_2 t69_3 t69_4 t69_5 t69_6 =>
 Fn330 t69_0 t69_1 t69_2 t69_3 t69_4 t69_5 t69_6 h6 (fun t70_0 t70_1 t70_2 t70_3 h7 =>
 SY66 h7 a2 t70_0 t70_1 t70_2 t70_3 fun h8 =>
 LY66 h8 a2 fun r0_0 r0_1 r0_2 r0_3 =>
 K r0_0 r0_1 r0_2 r0_3 h8) Kp) (
 LY66 h6 a3 fun t71_0 t71_1 t71_2 t71_3 =>
 SY66 h6 a2 t71_0 t71_1 t71_2 t71_3 fun h7 =>
 LY66 h7 a2 fun r0_0 r0_1 r0_2 r0_3 =>
 K r0_0 r0_1 r0_2 r0_3 h7)) (
 If (t13 == 20) (
 Ld h6 (a4.add 4) Sl.v fun t67 =>
 Ix t67.a t67.n 7 0 fun a68 =>
 LY29 h6 a68 fun t69_0 t69_1 t69_2 t69_3 t69_4 t69_5 t69_6 =>
 Fn330 t69_0 t69_1 t69_2 t69_3 t69_4 t69_5 t69_6 h6 (fun t70_0 t70_1 t70_2 t70_3 h7 =>
 SY66 h7 a2 t70_0 t70_1 t70_2 t70_3 fun h8 =>
 LY66 h8 a2 fun r0_0 r0_1 r0_2 r0_3 =>
 K r0_0 r0_1 r0_2 r0_3 h8) Kp) (
 LY66 h6 a3 fun t71_0 t71_1 t71_2 t71_3 =>
 SY66 h6 a2 t71_0 t71_1 t71_2 t71_3 fun h7 =>
 LY66 h7 a2 fun r0_0 r0_1 r0_2 r0_3 =>
 K r0_0 r0_1 r0_2 r0_3 h7)))))))) Kp) :
 Fn330 f_0 f_1 f_2 f_3 f_4 f_5 f_6 h K Kp:=fnof (ann:=ann330) (o:=ord330) (zs:=z330) (Kv:=kv330 K) Tryz.func197 (by kernel_rfl) H (by kernel_rfl) (by kernel_rfl)
end
section
noncomputable def code331:Code:=Tryz.f198.body.getD .skip
def ann331:Ann:=[(2000003,[1]),(2001,[1])]
def ord331:OrdT:=[]
def z331:List Value:=[(.bool false)]
def kv331 (K:Bool→HP):Value→HP:=fun v h=>rB v fun r0=>K r0 h
variable (K:Bool→HP) (Kp:PK) 
noncomputable def c331:Cx:=⟨Tryz.prog,ann331,ord331,none,code331,(retQ Tryz.prog Tryz.f198.results.toList z331 (kv331 K)),Kp⟩
def J331_1 (x1:Addr):HP:=semJ (c331 K Kp) [1,1] [] ([nO,vP x1]++nn 25)
abbrev mk331_2 (x1:Addr):Fr:=([nO,vP x1]++nn 25)
def L331_2 (x1:Addr):HP:=semL (c331 K Kp) 2001 [1,0,0] [] (mk331_2 x1)
variable {K Kp} {x1:Addr} {h:Hp}
theorem J331_1.of (H :
 Ld h (x1.add 1) .bool fun t20 =>
 If t20 (
 Ld h (x1.add 2) mI fun t24 =>
 K (t24 != 18) h) (
 K false h)) :
 J331_1 K Kp x1 h:=jof H (by kernel_rfl)
theorem L331_2.rule:LR0 (L331_2 K Kp x1) (mk331_2 x1) fun N1 h =>
 (Ld h (x1.add 2) mI fun t5 =>
 If (t5 == 20) (
 Ld h ((x1.add 2).add 4) Sl.v fun t10 =>
 If ((t10.n:Int) == 1) (
 Ld h ((x1.add 2).add 4) Sl.v fun t16 =>
 Ix t16.a t16.n 7 0 fun a17 =>
 LY29 h a17 fun t18_0 t18_1 t18_2 t18_3 t18_4 t18_5 t18_6 =>
 SY29 h x1 t18_0 t18_1 t18_2 t18_3 t18_4 t18_5 t18_6 fun h1 =>
 N1 (mk331_2 x1) h1) (
 J331_1 K Kp x1 h)) (
 J331_1 K Kp x1 h)) :=
 loop0 (fun _=>rfl) fun _ _=>by kernel_rfl
theorem Fn331.of {f_0:ByteArray} {f_1:Bool} {f_2 f_3 f_4 f_5:Int} {f_6:Sl} (H :
 NY29 h f_0 f_1 f_2 f_3 f_4 f_5 f_6 fun a1 h1 =>
 L331_2 K Kp a1 h1) :
 Fn331 f_0 f_1 f_2 f_3 f_4 f_5 f_6 h K Kp:=fnof (ann:=ann331) (o:=ord331) (zs:=z331) (Kv:=kv331 K) Tryz.func198 (by kernel_rfl) H (by kernel_rfl) (by kernel_rfl)
end
end Go.Proofs.YtlbbdbdjiekkaaaGreatDoor
set_option maxRecDepth 100000
set_option maxHeartbeats 200000
/- What the functions do, printed by program (gen.py) in the words of ShCore; each text is held against the loaded program by the kernel. -/
namespace Go.Proofs.YtlbbdbdjiekkaaaGreatDoor
open Go Go.Sh
section
noncomputable def code224:Code:=Tryz.f200.body.getD .skip
def ann224:Ann:=[(2001,[0]),(2000011,[0,3]),(3609999,[0,24]),(3809999,[0,39]),(2009,[0])]
def ord224:OrdT:=[(17,(OT.l [0,1,2,3,4,5,6,7,8,9,10,11,12,13,14,15,16] .fin),[0,1,3,7,15,31,15,79,255,511,1023,2047,4095,2047,10239,32767,65535]),(21,(OT.l [0,1,2,3,4,5,6,7,8,9,10,11,12,13,14,15,16,17,18,19,20,21,22,23,24,25,26] .fin),[0,1,3,7,15,31,15,79,255,511,1023,2047,4095,2047,10239,32767,65535,131071,262143,524287,1048575,2097151,4194303,8388607,16777215,33554431,67108863]),(25,(OT.l [0,1,2,3,4,5,6,7,8,9,10,11,12,13,14,15,16,17,18,19,20,21,22,23,24,25,26,27,28,29,30,31,32,33,34,35,36] .fin),[0,1,3,7,15,31,15,79,255,511,1023,2047,4095,2047,10239,32767,65535,131071,262143,524287,1048575,2097151,4194303,8388607,16777215,33554431,67108863,134217727,268435455,536870911,1073741823,2147483647,4294967295,8589934591,17179869183,34359738367,68719476735]),(9,(OT.l [0,1,2,3,4,6,7,10,11,13,14,5,8,9,12,15,16,17,18,19,20] .fin),[0,1,3,7,15,31,15,79,255,511,15,1039,3583,15,8207,32255,65023,131071,262143,524287,1048575]),(7,(OT.l [0,1,2,3,4,6,7,5,8,9,10,11,12] .fin),[0,1,3,7,15,31,15,79,255,511,1023,2047,4095])]
def z224:List Value:=[(.bool false)]
def kv224 (K:Bool→HP):Value→HP:=fun v h=>rB v fun r0=>K r0 h
variable (K:Bool→HP) (Kp:PK) (N1:Fr→HP) 
noncomputable def c224:Cx:=⟨Tryz.prog,ann224,ord224,none,code224,(retQ Tryz.prog Tryz.f200.results.toList z224 (kv224 K)),Kp⟩
abbrev mk224_1 (x0:ByteArray):Fr:=([some (.string x0)]++nn 168)
def J224_2 (x0:ByteArray) (x3:Int):HP:=semJ (c224 K Kp) [1,0,0,0,1,0,1,1] [N1] ([some (.string x0),nO,nO,some (.int .u8 x3)]++nn 165)
abbrev mk224_5 (x0:ByteArray):Fr:=([some (.string x0)]++nn 168)
def L224_5 (x0:ByteArray):HP:=semL (c224 K Kp) 2009 [1,0,0,0,1,0,1,0,1,0,1,0,1,0,1,1,0,1,0] [N1] (mk224_5 x0)
def J224_4 (x0:ByteArray) (x39:Bool):HP:=semJ (c224 K Kp) [1,0,0,0,1,0,1,0,1,0,1,0,1,0,1,1] [N1] ([some (.string x0),nO,nO,nO,nO,nO,nO,nO,nO,nO,nO,nO,nO,nO,nO,nO,nO,nO,nO,nO,nO,nO,nO,nO,nO,nO,nO,nO,nO,nO,nO,nO,nO,nO,nO,nO,nO,nO,nO,some (.bool x39)]++nn 129)
def J224_3 (x0:ByteArray) (x24:Bool):HP:=semJ (c224 K Kp) [1,0,0,0,1,0,1,0,1,0,1,0,1] [N1] ([some (.string x0),nO,nO,nO,nO,nO,nO,nO,nO,nO,nO,nO,nO,nO,nO,nO,nO,nO,nO,nO,nO,nO,nO,nO,some (.bool x24)]++nn 144)
def L224_1 (x0:ByteArray):HP:=semL (c224 K Kp) 2001 [1,0,0] [] (mk224_1 x0)
variable {K Kp N1} {x0:ByteArray} {x39 x24:Bool} {x3:Int} {h:Hp}
theorem J224_2.of (H :
 Ix (some (⟨1,0,none⟩)) 256 1 x3 fun a66 =>
 Ld h a66 (.int .u8) fun t67 =>
 Lt (bitsV .and .u8 t67 7) fun t69 =>
 Wr .i64 t69 fun t70 =>
 Nn 4<|Lt (Int.fdiv t67 (2 ^ (min (Int.toNat 4) (IntKind.bits .u8)))) fun t72 =>
 Ix (some (⟨2,0,none⟩)) 16 2 t72 fun a73 =>
 Ld h a73 (.int .u8) fun t74_0 =>
 Ld h (a73.add 1) (.int .u8) fun t74_1 =>
 New h #[(.int .u8 0),(.int .u8 0)] Y248 fun a6 h1 =>
 St h1 a6 (.int .u8 t74_0) fun h2 =>
 St h2 (a6.add 1) (.int .u8 t74_1) fun h3 =>
 If (t70 == 2) (
 If (decide ((x0.size:Int) < 2)) (
 K false h3) (
 IxS x0 1 fun t83 =>
 Ld h3 a6 (.int .u8) fun t85 =>
 If (decide (t83 < t85)) (
 K false h3) (
 Ld h3 (a6.add 1) (.int .u8) fun t90 =>
 IxS x0 1 fun t92 =>
 If (decide (t90 < t92)) (
 K false h3) (
 SlcS x0 (some 2) none fun t96 =>
 N1 (mk224_1 t96) h3)))) (
 If (t70 == 3) (
 If (decide ((x0.size:Int) < 3)) (
 K false h3) (
 IxS x0 1 fun t104 =>
 Ld h3 a6 (.int .u8) fun t106 =>
 If (decide (t104 < t106)) (
 K false h3) (
 Ld h3 (a6.add 1) (.int .u8) fun t111 =>
 IxS x0 1 fun t113 =>
 If (decide (t111 < t113)) (
 K false h3) (
 IxS x0 2 fun t118 =>
 If (decide (t118 < 128)) (
 K false h3) (
 IxS x0 2 fun t123 =>
 If (decide ((191:Int) < t123)) (
 K false h3) (
 SlcS x0 (some 3) none fun t127 =>
 N1 (mk224_1 t127) h3)))))) (
 If (t70 == 4) (
 If (decide ((x0.size:Int) < 4)) (
 K false h3) (
 IxS x0 1 fun t135 =>
 Ld h3 a6 (.int .u8) fun t137 =>
 If (decide (t135 < t137)) (
 K false h3) (
 Ld h3 (a6.add 1) (.int .u8) fun t142 =>
 IxS x0 1 fun t144 =>
 If (decide (t142 < t144)) (
 K false h3) (
 IxS x0 2 fun t149 =>
 If (decide (t149 < 128)) (
 K false h3) (
 IxS x0 2 fun t154 =>
 If (decide ((191:Int) < t154)) (
 K false h3) (
 IxS x0 3 fun t159 =>
 If (decide (t159 < 128)) (
 K false h3) (
 IxS x0 3 fun t164 =>
 If (decide ((191:Int) < t164)) (
 K false h3) (
 SlcS x0 (some 4) none fun t168 =>
 N1 (mk224_1 t168) h3)))))))) (
 K false h3)))) :
 J224_2 K Kp N1 x0 x3 h:=jof H (by kernel_rfl)
theorem L224_5.rule:LR1 (L224_5 K Kp N1) (mk224_5) fun N2 (x0:ByteArray) h =>
 (If (decide ((x0.size:Int) > 32)) (
 SlcS x0 (some 8) none fun t49 =>
 SlcS x0 (some 16) none fun t53 =>
 SlcS x0 (some 24) none fun t56 =>
 Fn225 x0 h (fun t47 h1 =>
 Fn225 t49 h1 (fun t50 h2 =>
 Lt (bitsV .or .u64 t47 t50) fun t51 =>
 Fn225 t53 h2 (fun t54 h3 =>
 Fn225 t56 h3 (fun t57 h4 =>
 Lt (bitsV .or .u64 t54 t57) fun t58 =>
 Lt (bitsV .or .u64 t51 t58) fun t59 =>
 Lt (bitsV .and .u64 t59 9259542123273814144) fun t60 =>
 If (t60 == 0) (
 SlcS x0 (some 32) none fun t64 =>
 N2 (mk224_5 t64) h4) (
 N1 (mk224_1 x0) h4)) Kp) Kp) Kp) Kp) (
 N1 (mk224_1 x0) h)) :=
 loop1 (fun _ _=>rfl) fun _ _ _=>by kernel_rfl
theorem J224_4.of (H :
 If x39 (
 SlcS x0 (some 16) none fun t41 =>
 L224_5 K Kp N1 t41 h) (
 N1 (mk224_1 x0) h)) :
 J224_4 K Kp N1 x0 x39 h:=jof H (by kernel_rfl)
theorem J224_3.of (H :
 If x24 (
 SlcS x0 (some 8) none fun t26 =>
 If (decide ((t26.size:Int) > 16)) (
 SlcS t26 (some 8) none fun t34 =>
 Fn225 t26 h (fun t32 h1 =>
 Fn225 t34 h1 (fun t35 h2 =>
 Lt (bitsV .or .u64 t32 t35) fun t36 =>
 Lt (bitsV .and .u64 t36 9259542123273814144) fun t37 =>
 J224_4 K Kp N1 t26 (t37 == 0) h2) Kp) Kp) (
 J224_4 K Kp N1 t26 false h)) (
 N1 (mk224_1 x0) h)) :
 J224_3 K Kp N1 x0 x24 h:=jof H (by kernel_rfl)
theorem L224_1.rule:LR1 (L224_1 K Kp) (mk224_1) fun N1 (x0:ByteArray) h =>
 (If (decide ((x0.size:Int) > 0)) (
 IxS x0 0 fun t11 =>
 If (decide (t11 < 128)) (
 SlcS x0 (some 1) none fun t15 =>
 If (decide ((t15.size:Int) > 8)) (
 Fn225 t15 h (fun t21 h1 =>
 Lt (bitsV .and .u64 t21 9259542123273814144) fun t22 =>
 J224_3 K Kp N1 t15 (t22 == 0) h1) Kp) (
 J224_3 K Kp N1 t15 false h)) (
 J224_2 K Kp N1 x0 t11 h)) (
 K true h)) :=
 loop1 (fun _ _=>rfl) fun _ _ _=>by kernel_rfl
theorem Fn224.of {s:ByteArray} (H :
 L224_1 K Kp s h) :
 Fn224 s h K Kp:=fnof (ann:=ann224) (o:=ord224) (zs:=z224) (Kv:=kv224 K) Tryz.func200 (by kernel_rfl) H (by kernel_rfl) (by kernel_rfl)
end
section
def ann333:Ann:=[]
def ord333:OrdT:=[]
def z333:List Value:=[(.bool false)]
def kv333 (K:Bool→HP):Value→HP:=fun v h=>rB v fun r0=>K r0 h
variable (K:Bool→HP) (Kp:PK) 
variable {K Kp} {h:Hp}
theorem Fn333.of {k:Int} (H :
 If (decide (k≥3)) (
 K (decide (k≤10)) h) (
 K false h)) :
 Fn333 k h K Kp:=fnof (ann:=ann333) (o:=ord333) (zs:=z333) (Kv:=kv333 K) Tryz.func201 (by kernel_rfl) H (by kernel_rfl) (by kernel_rfl)
end
section
def ann334:Ann:=[]
def ord334:OrdT:=[]
def z334:List Value:=[(.bool false)]
def kv334 (K:Bool→HP):Value→HP:=fun v h=>rB v fun r0=>K r0 h
variable (K:Bool→HP) (Kp:PK) 
variable {K Kp} {h:Hp}
theorem Fn334.of {k n:Int} (H :
 Fn340 k h (fun t9_0 t9_1 h1 =>
 If (t9_0 == 64) (
 K true h1) (
 If t9_1 (
 Wr .i64 (t9_0 - 1) fun t19 =>
 Nn t19<|Wr .i64 ((-1:Int)*2 ^ (min (Int.toNat t19) (IntKind.bits .i64))) fun t20 =>
 If (decide (n≥t20)) (
 Wr .i64 (t9_0 - 1) fun t25 =>
 Nn t25<|Wr .i64 ((1:Int)*2 ^ (min (Int.toNat t25) (IntKind.bits .i64))) fun t26 =>
 K (decide (n < t26)) h1) (
 K false h1)) (
 If (decide (n≥0)) (
 Nn t9_0<|Wr .i64 ((1:Int)*2 ^ (min (Int.toNat t9_0) (IntKind.bits .i64))) fun t34 =>
 K (decide (n < t34)) h1) (
 K false h1)))) Kp) :
 Fn334 k n h K Kp:=fnof (ann:=ann334) (o:=ord334) (zs:=z334) (Kv:=kv334 K) Tryz.func202 (by kernel_rfl) H (by kernel_rfl) (by kernel_rfl)
end
section
noncomputable def code182:Code:=Tryz.f203.body.getD .skip
def ann182:Ann:=[(41006,[0,8]),(41014,[0,16]),(41022,[0,24])]
def ord182:OrdT:=[]
def z182:List Value:=[(.bool false)]
def kv182 (K:Bool→HP):Value→HP:=fun v h=>rB v fun r0=>K r0 h
variable (K:Bool→HP) (Kp:PK) 
noncomputable def c182:Cx:=⟨Tryz.prog,ann182,ord182,none,code182,(retQ Tryz.prog Tryz.f203.results.toList z182 (kv182 K)),Kp⟩
def J182_3 (x0:Int) (x24:Bool):HP:=semR (c182 K Kp) [1,0] [] 1 [22,23,24,25,26] ([some (.int .u8 x0),nO,nO,nO,nO,nO,nO,nO,nO,nO,nO,nO,nO,nO,nO,nO,nO,nO,nO,nO,nO,nO,nO,nO,some (.bool x24)]++nn 4)
def J182_2 (x0:Int) (x16:Bool):HP:=semR (c182 K Kp) [1,0] [] 1 [14,15,16,17,18,19,20,21,22,23,24,25,26] ([some (.int .u8 x0),nO,nO,nO,nO,nO,nO,nO,nO,nO,nO,nO,nO,nO,nO,nO,some (.bool x16)]++nn 12)
def J182_1 (x0:Int) (x8:Bool):HP:=semR (c182 K Kp) [1,0] [] 1 [6,7,8,9,10,11,12,13,14,15,16,17,18,19,20,21,22,23,24,25,26] ([some (.int .u8 x0),nO,nO,nO,nO,nO,nO,nO,some (.bool x8)]++nn 20)
variable {K Kp} {x0:Int} {x24 x16 x8:Bool} {h:Hp}
theorem J182_3.of (H :
 If x24 (
 K true h) (
 K (x0 == 95) h)) :
 J182_3 K Kp x0 x24 h:=jof H (by kernel_rfl)
theorem J182_2.of (H :
 If x16 (
 J182_3 K Kp x0 true h) (
 If (decide (x0≥48)) (
 J182_3 K Kp x0 (decide (x0≤57)) h) (
 J182_3 K Kp x0 false h))) :
 J182_2 K Kp x0 x16 h:=jof H (by kernel_rfl)
theorem J182_1.of (H :
 If x8 (
 J182_2 K Kp x0 true h) (
 If (decide (x0≥65)) (
 J182_2 K Kp x0 (decide (x0≤90)) h) (
 J182_2 K Kp x0 false h))) :
 J182_1 K Kp x0 x8 h:=jof H (by kernel_rfl)
theorem Fn182.of {c:Int} (H :
 If (decide (c≥97)) (
 J182_1 K Kp c (decide (c≤122)) h) (
 J182_1 K Kp c false h)) :
 Fn182 c h K Kp:=fnof (ann:=ann182) (o:=ord182) (zs:=z182) (Kv:=kv182 K) Tryz.func203 (by kernel_rfl) H (by kernel_rfl) (by kernel_rfl)
end
section
noncomputable def code206:Code:=Tryz.f204.body.getD .skip
def ann206:Ann:=[(2002,[0,1,7,8])]
def ord206:OrdT:=[]
def z206:List Value:=[(.int .i64 0)]
def kv206 (K:Int→HP):Value→HP:=fun v h=>rI v fun r0=>K r0 h
variable (K:Int→HP) (Kp:PK) 
noncomputable def c206:Cx:=⟨Tryz.prog,ann206,ord206,none,code206,(retQ Tryz.prog Tryz.f204.results.toList z206 (kv206 K)),Kp⟩
abbrev mk206_1 (x0:Sl) (x1:Value) (x7 x8:Int):Fr:=([vS x0,some x1,nO,nO,nO,nO,nO,vI x7,vI x8]++nn 10)
def L206_1 (x0:Sl) (x1:Value) (x7 x8:Int):HP:=semL (c206 K Kp) 2002 [1,0,1,0] [] (mk206_1 x0 x1 x7 x8)
variable {K Kp} {x0:Sl} {x1:Value} {x7:Int} {h:Hp}
theorem L206_1.rule:LR1 (L206_1 K Kp x0 x1 x7) (mk206_1 x0 x1 x7) fun N1 (x8:Int) h =>
 (If (decide (x8 < x7)) (
 Ix x0.a x0.n 7 x8 fun a14 =>
 LY29 h a14 fun t15_0 t15_1 t15_2 t15_3 t15_4 t15_5 t15_6 =>
 CallV Tryz.prog x1 [(.agg #[(.string t15_0),(.bool t15_1),(.int .i64 t15_2),(.int .i64 t15_3),(.int .i64 t15_4),(.int .i64 t15_5),(Sl.v t15_6)])] h (fun r h1=>∃t16:Bool,r=(.bool t16)∧(
 If t16 (
 K x8 h1) (
 Wr .i64 (x8+1) fun t18 =>
 N1 (mk206_1 x0 x1 x7 t18) h1))) Kp) (
 K (-1) h)) :=
 loop1 (fun _ _=>rfl) fun _ _ _=>by kernel_rfl
theorem Fn206.of {s:Sl} {f:Value} (H :
 L206_1 K Kp s f (s.n:Int) 0 h) :
 Fn206 s f h K Kp:=fnof (ann:=ann206) (o:=ord206) (zs:=z206) (Kv:=kv206 K) Tryz.func204 (by kernel_rfl) H (by kernel_rfl) (by kernel_rfl)
end
section
def ann183:Ann:=[]
def ord183:OrdT:=[]
def z183:List Value:=[(.bool false)]
def kv183 (K:Bool→HP):Value→HP:=fun v h=>rB v fun r0=>K r0 h
variable (K:Bool→HP) (Kp:PK) 
variable {K Kp} {h:Hp}
theorem Fn183.of {kind:Int} (H :
 If (decide (kind≥1)) (
 K (decide (kind≤20)) h) (
 K false h)) :
 Fn183 kind h K Kp:=fnof (ann:=ann183) (o:=ord183) (zs:=z183) (Kv:=kv183 K) Tryz.func205 (by kernel_rfl) H (by kernel_rfl) (by kernel_rfl)
end
section
def ann176:Ann:=[]
def ord176:OrdT:=[]
def z176:List Value:=[(.bool false)]
def kv176 (K:Bool→HP):Value→HP:=fun v h=>rB v fun r0=>K r0 h
variable (K:Bool→HP) (Kp:PK) 
variable {K Kp} {h:Hp}
theorem Fn176.of {t_0 t_1 t_2 t_3:Int} {t_4:Sl} (H :
 NY27 h t_0 t_1 t_2 t_3 t_4 fun a1 h1 =>
 LY27 h1 a1 fun t3_0 t3_1 t3_2 t3_3 t3_4 =>
 Fn184 t3_0 t3_1 t3_2 t3_3 t3_4 h1 (fun t4_0 t4_1 t4_2 t4_3 t4_4 t4_5 t4_6 h2 =>
 Fn98 t4_0 t4_1 t4_2 t4_3 t4_4 t4_5 t4_6 h2 (fun t5_0 t5_1 t5_2 h3 =>
 K (t5_0 == 0) h3) Kp) Kp) :
 Fn176 t_0 t_1 t_2 t_3 t_4 h K Kp:=fnof (ann:=ann176) (o:=ord176) (zs:=z176) (Kv:=kv176 K) Tryz.func207 (by kernel_rfl) H (by kernel_rfl) (by kernel_rfl)
end
section
noncomputable def code177:Code:=Tryz.f208.body.getD .skip
def ann177:Ann:=[(2000003,[1])]
def ord177:OrdT:=[]
def z177:List Value:=[(.slice none 0 0)]
def kv177 (K:Sl→HP):Value→HP:=fun v h=>rS v fun r0=>K r0 h
variable (K:Sl→HP) (Kp:PK) 
noncomputable def c177:Cx:=⟨Tryz.prog,ann177,ord177,none,code177,(retQ Tryz.prog Tryz.f208.results.toList z177 (kv177 K)),Kp⟩
def J177_1 (x1:Addr):HP:=semJ (c177 K Kp) [1,1] [] ([nO,vP x1]++nn 22)
variable {K Kp} {x1:Addr} {h:Hp}
theorem J177_1.of (H :
 Ld h (x1.add 4) Sl.v fun t13 =>
 Fn185 t13 h (fun t14 h1 =>
 Ld h1 x1 mI fun t16 =>
 If (t16 == 20) (
 New h1 #[(.string (bs [101,110,100,115])),(.bool false),(.int .i64 5),(.int .i64 0),(.int .i64 0),(.int .i64 0),(.slice none 0 0)] Y29 fun a20 h2 =>
 Ap h2 Y29 zY29 7 80 (⟨some a20,1,1⟩:Sl) t14.n (rd h2 t14.a (t14.n*7)) fun t22 h3 =>
 K t22 h3) (
 K t14 h1)) Kp) :
 J177_1 K Kp x1 h:=jof H (by kernel_rfl)
theorem Fn177.of {t_0 t_1 t_2 t_3:Int} {t_4:Sl} (H :
 NY27 h t_0 t_1 t_2 t_3 t_4 fun a1 h1 =>
 LY27 h1 a1 fun t4_0 t4_1 t4_2 t4_3 t4_4 =>
 Fn176 t4_0 t4_1 t4_2 t4_3 t4_4 h1 (fun t5 h2 =>
 If (!t5) (
 K (⟨none,0,0⟩:Sl) h2) (
 Ld h2 a1 mI fun t9 =>
 If (t9 == 19) (
 K (⟨none,0,0⟩:Sl) h2) (
 J177_1 K Kp a1 h2))) Kp) :
 Fn177 t_0 t_1 t_2 t_3 t_4 h K Kp:=fnof (ann:=ann177) (o:=ord177) (zs:=z177) (Kv:=kv177 K) Tryz.func208 (by kernel_rfl) H (by kernel_rfl) (by kernel_rfl)
end
section
def ann178:Ann:=[]
def ord178:OrdT:=[]
def z178:List Value:=[(.int .i64 0)]
def kv178 (K:Int→HP):Value→HP:=fun v h=>rI v fun r0=>K r0 h
variable (K:Int→HP) (Kp:PK) 
variable {K Kp} {h:Hp}
theorem Fn178.of {n:Int} (H :
 If (decide (n≤0)) (
 K 0 h) (
 Wr .i64 (n - 1) fun t6 =>
 Dv 8<|Wr .i64 (Int.tdiv t6 8) fun t7 =>
 Wr .i64 (t7+1) fun t8 =>
 K t8 h)) :
 Fn178 n h K Kp:=fnof (ann:=ann178) (o:=ord178) (zs:=z178) (Kv:=kv178 K) Tryz.func209 (by kernel_rfl) H (by kernel_rfl) (by kernel_rfl)
end
section
def ann179:Ann:=[]
def ord179:OrdT:=[]
def z179:List Value:=[(.int .i64 0)]
def kv179 (K:Int→HP):Value→HP:=fun v h=>rI v fun r0=>K r0 h
variable (K:Int→HP) (Kp:PK) 
variable {K Kp} {h:Hp}
theorem Fn179.of {t_0 t_1 t_2 t_3:Int} {t_4:Sl} (H :
 NY27 h t_0 t_1 t_2 t_3 t_4 fun a1 h1 =>
 LY27 h1 a1 fun t3_0 t3_1 t3_2 t3_3 t3_4 =>
 Fn176 t3_0 t3_1 t3_2 t3_3 t3_4 h1 (fun t4 h2 =>
 If (!t4) (
 K 0 h2) (
 Ld h2 a1 mI fun t7 =>
 If (t7 == 14) (
 Ld h2 (a1.add 1) mI fun t11 =>
 K t11 h2) (
 If (t7 == 19) (
 Ld h2 (a1.add 3) mI fun t15 =>
 Ix (some (⟨0,0,none⟩)) 21 4 t15 fun a16 =>
 Ld h2 (a16.add 1) mI fun t18 =>
 K t18 h2) (
 Ld h2 a1 mI fun t20 =>
 Ix (some (⟨0,0,none⟩)) 21 4 t20 fun a21 =>
 Ld h2 (a21.add 1) mI fun t23 =>
 K t23 h2)))) Kp) :
 Fn179 t_0 t_1 t_2 t_3 t_4 h K Kp:=fnof (ann:=ann179) (o:=ord179) (zs:=z179) (Kv:=kv179 K) Tryz.func210 (by kernel_rfl) H (by kernel_rfl) (by kernel_rfl)
end
section
noncomputable def code57:Code:=Tryz.f211.body.getD .skip
def ann57:Ann:=[(2003,[2,3,5,8,9])]
def ord57:OrdT:=[]
def z57:List Value:=[(.int .i64 0)]
def kv57 (K:Int→HP):Value→HP:=fun v h=>rI v fun r0=>K r0 h
variable (K:Int→HP) (Kp:PK) 
noncomputable def c57:Cx:=⟨Tryz.prog,ann57,ord57,none,code57,(retQ Tryz.prog Tryz.f211.results.toList z57 (kv57 K)),Kp⟩
abbrev mk57_1 (x2 x3:Addr) (x8 x5 x9:Int):Fr:=([nO,nO,vP x2,vP x3,nO,vI x5,nO,nO,vI x8,vI x9]++nn 13)
def L57_1 (x2 x3:Addr) (x8 x5 x9:Int):HP:=semL (c57 K Kp) 2003 [1,1,0,1,0] [] (mk57_1 x2 x3 x8 x5 x9)
variable {K Kp} {x2 x3:Addr} {x8:Int} {h:Hp}
theorem L57_1.rule:LR2 (L57_1 K Kp x2 x3 x8) (mk57_1 x2 x3 x8) fun N1 (x5:Int) (x9:Int) h =>
 (If (decide (x9 < x8)) (
 LY29 h x2 fun t12_0 t12_1 t12_2 t12_3 t12_4 t12_5 t12_6 =>
 LY33 h x3 fun t13_0 t13_1 t13_2 t13_3 t13_4 t13_5 =>
 Ld h (x3.add 1) mI fun t15 =>
 Wr .i64 (t15+x9) fun t17 =>
 Fn105 t12_0 t12_1 t12_2 t12_3 t12_4 t12_5 t12_6 t13_0 t13_1 t13_2 t13_3 t13_4 t13_5 t17 h (fun t18 h1 =>
 If t18 (
 Wr .i64 (x5+1) fun t20 =>
 Wr .i64 (x9+1) fun t21 =>
 N1 (mk57_1 x2 x3 x8 t20 t21) h1) (
 Wr .i64 (x9+1) fun t21 =>
 N1 (mk57_1 x2 x3 x8 x5 t21) h1)) Kp) (
 K x5 h)) :=
 loop2 (fun _ _ _=>rfl) fun _ _ _ _=>by kernel_rfl
theorem Fn57.of {f_0:ByteArray} {f_1:Bool} {f_2 f_3 f_4 f_5:Int} {f_6:Sl} {d_0 d_1 d_2:Int} {d_3 d_4 d_5:Sl} (H :
 NY29 h f_0 f_1 f_2 f_3 f_4 f_5 f_6 fun a2 h1 =>
 NY33 h1 d_0 d_1 d_2 d_3 d_4 d_5 fun a3 h2 =>
 Ld h2 a3 mI fun t8 =>
 L57_1 K Kp a2 a3 t8 0 0 h2) :
 Fn57 f_0 f_1 f_2 f_3 f_4 f_5 f_6 d_0 d_1 d_2 d_3 d_4 d_5 h K Kp:=fnof (ann:=ann57) (o:=ord57) (zs:=z57) (Kv:=kv57 K) Tryz.func211 (by kernel_rfl) H (by kernel_rfl) (by kernel_rfl)
end
end Go.Proofs.YtlbbdbdjiekkaaaGreatDoor
