/- What the functions do, printed by program (gen.py) in the words of ShCore; each text is held against the loaded program by the kernel. -/
import Derived.Test.YtfomkkdijjfpiaaDoorKeepsF
set_option linter.unusedSimpArgs false
set_option linter.unusedVariables false
set_option maxRecDepth 100000
namespace Go.Proofs.YtfomkkdijjfpiaaDoor
open Go Go.Sh
/- ### 16: HeadMay -/
noncomputable def code16 : Code := Tryd.f16.body.getD .skip
def ann16 : Ann := [(2000005, [1]), (2000007, [1]), (2000009, [1]), (2000011, [1]), (2000017, [1]), (2018, [1, 5]), (61008, [1, 5, 6, 172]), (61013, [1, 5, 6, 177]), (61018, [1, 5, 6, 182]), (61023, [1, 5, 6, 187]), (2012, [1, 3]), (55008, [1, 3, 4, 140]), (55013, [1, 3, 4, 145]), (49013, [1, 106]), (47008, [1, 71]), (47013, [1, 76]), (47018, [1, 81]), (47024, [1, 87]), (45008, [1, 49]), (45015, [1, 56]), (42007, [1, 16]), (42012, [1, 21]), (42017, [1, 26]), (42023, [1, 32])]
def ord16 : List (Nat × OT × List Nat) := []
def kv16 (K : Bool → HP) : Value → HP := fun v h => match v with | .bool r0 => (K r0 h) | _ => False
def q16 (K : Bool → HP) : Qt := retQ Tryd.prog Tryd.f16.results.toList [(.bool false)] (kv16 K)
abbrev mk16_6 (x1:Addr) (x5:Int) : Fr := ([none, some (.pointer (some x1)), none, none, none, some (.int .i64 x5)] ++ nn 187)
def JT16_10 (x1:Addr) (x5:Int) (x6:Addr) (x187:Bool) (N1 : Fr → HP) (K : Bool → HP) (Kp:PK) (h:Hp) : Prop :=
 If x187 (
 K false h) (
 Ld h (x6.add 2) (Value.int .i64) fun t190 =>
 If (decide (t190 > (4194304:Int))) (
 K false h) (
 Wr .i64 (x5 + (1:Int)) fun t159 =>
 N1 (mk16_6 x1 t159) h))
def J16_10 (x1:Addr) (x5:Int) (x6:Addr) (x187:Bool) (N1 : Fr → HP) (K : Bool → HP) (Kp:PK) (h:Hp) : Prop :=
 Joint (semOps Tryd.prog (Ann.reg 21 ann16) (regOps (sub [1, 1, 1, 1, 1, 1, 0, 1, 0, 0, 1, 0, 0, 1, 0] code16)) [23, 24, 25, 26, 27] (ctxQ Tryd.prog ann16 (Dw ord16) none Kp [1, 1, 1, 1, 1, 1, 0, 1, 0, 0, 1, 0, 0, 1, 0] code16 [N1] (q16 K) .normal) Kp ([none, some (.pointer (some x1)), none, none, none, some (.int .i64 x5), some (.pointer (some x6)), none, none, none, none, none, none, none, none, none, none, none, none, none, none, none, none, none, none, none, none, none, none, none, none, none, none, none, none, none, none, none, none, none, none, none, none, none, none, none, none, none, none, none, none, none, none, none, none, none, none, none, none, none, none, none, none, none, none, none, none, none, none, none, none, none, none, none, none, none, none, none, none, none, none, none, none, none, none, none, none, none, none, none, none, none, none, none, none, none, none, none, none, none, none, none, none, none, none, none, none, none, none, none, none, none, none, none, none, none, none, none, none, none, none, none, none, none, none, none, none, none, none, none, none, none, none, none, none, none, none, none, none, none, none, none, none, none, none, none, none, none, none, none, none, none, none, none, none, none, none, none, none, none, none, none, none, none, none, none, none, none, none, none, none, none, none, none, none, none, none, none, none, none, none, none, none, none, none, none, none, some (.bool x187), none, none, none, none, none]) h)
theorem J16_10.of {x1:Addr} {x5:Int} {x6:Addr} {x187:Bool} {N1 : Fr → HP} {K : Bool → HP} {Kp:PK} {h:Hp} (H : JT16_10 x1 x5 x6 x187 N1 K Kp h) : J16_10 x1 x5 x6 x187 N1 K Kp h :=
 Joint.mk (Eq.mp (by kernel_rfl) H)
def JT16_9 (x1:Addr) (x5:Int) (x6:Addr) (x182:Bool) (N1 : Fr → HP) (K : Bool → HP) (Kp:PK) (h:Hp) : Prop :=
 If x182 (
 J16_10 x1 x5 x6 true N1 K Kp h) (
 Ld h (x6.add 2) (Value.int .i64) fun t185 =>
 J16_10 x1 x5 x6 (decide (t185 < (0:Int))) N1 K Kp h)
def J16_9 (x1:Addr) (x5:Int) (x6:Addr) (x182:Bool) (N1 : Fr → HP) (K : Bool → HP) (Kp:PK) (h:Hp) : Prop :=
 Joint (semOps Tryd.prog (Ann.reg 21 ann16) (regOps (sub [1, 1, 1, 1, 1, 1, 0, 1, 0, 0, 1, 0, 0, 1, 0] code16)) [18, 19, 20, 21, 22, 23, 24, 25, 26, 27] (ctxQ Tryd.prog ann16 (Dw ord16) none Kp [1, 1, 1, 1, 1, 1, 0, 1, 0, 0, 1, 0, 0, 1, 0] code16 [N1] (q16 K) .normal) Kp (([none, some (.pointer (some x1)), none, none, none, some (.int .i64 x5), some (.pointer (some x6)), none, none, none, none, none, none, none, none, none, none, none, none, none, none, none, none, none, none, none, none, none, none, none, none, none, none, none, none, none, none, none, none, none, none, none, none, none, none, none, none, none, none, none, none, none, none, none, none, none, none, none, none, none, none, none, none, none, none, none, none, none, none, none, none, none, none, none, none, none, none, none, none, none, none, none, none, none, none, none, none, none, none, none, none, none, none, none, none, none, none, none, none, none, none, none, none, none, none, none, none, none, none, none, none, none, none, none, none, none, none, none, none, none, none, none, none, none, none, none, none, none, none, none, none, none, none, none, none, none, none, none, none, none, none, none, none, none, none, none, none, none, none, none, none, none, none, none, none, none, none, none, none, none, none, none, none, none, none, none, none, none, none, none, none, none, none, none, none, none, none, none, none, none, none, none, some (.bool x182)] ++ nn 10)) h)
theorem J16_9.of {x1:Addr} {x5:Int} {x6:Addr} {x182:Bool} {N1 : Fr → HP} {K : Bool → HP} {Kp:PK} {h:Hp} (H : JT16_9 x1 x5 x6 x182 N1 K Kp h) : J16_9 x1 x5 x6 x182 N1 K Kp h :=
 Joint.mk (Eq.mp (by kernel_rfl) H)
def JT16_8 (x1:Addr) (x5:Int) (x6:Addr) (x177:Bool) (N1 : Fr → HP) (K : Bool → HP) (Kp:PK) (h:Hp) : Prop :=
 If x177 (
 J16_9 x1 x5 x6 true N1 K Kp h) (
 Ld h (x6.add 1) (Value.int .i64) fun t180 =>
 J16_9 x1 x5 x6 (decide (t180 > (4194304:Int))) N1 K Kp h)
def J16_8 (x1:Addr) (x5:Int) (x6:Addr) (x177:Bool) (N1 : Fr → HP) (K : Bool → HP) (Kp:PK) (h:Hp) : Prop :=
 Joint (semOps Tryd.prog (Ann.reg 21 ann16) (regOps (sub [1, 1, 1, 1, 1, 1, 0, 1, 0, 0, 1, 0, 0, 1, 0] code16)) [13, 14, 15, 16, 17, 18, 19, 20, 21, 22, 23, 24, 25, 26, 27] (ctxQ Tryd.prog ann16 (Dw ord16) none Kp [1, 1, 1, 1, 1, 1, 0, 1, 0, 0, 1, 0, 0, 1, 0] code16 [N1] (q16 K) .normal) Kp (([none, some (.pointer (some x1)), none, none, none, some (.int .i64 x5), some (.pointer (some x6)), none, none, none, none, none, none, none, none, none, none, none, none, none, none, none, none, none, none, none, none, none, none, none, none, none, none, none, none, none, none, none, none, none, none, none, none, none, none, none, none, none, none, none, none, none, none, none, none, none, none, none, none, none, none, none, none, none, none, none, none, none, none, none, none, none, none, none, none, none, none, none, none, none, none, none, none, none, none, none, none, none, none, none, none, none, none, none, none, none, none, none, none, none, none, none, none, none, none, none, none, none, none, none, none, none, none, none, none, none, none, none, none, none, none, none, none, none, none, none, none, none, none, none, none, none, none, none, none, none, none, none, none, none, none, none, none, none, none, none, none, none, none, none, none, none, none, none, none, none, none, none, none, none, none, none, none, none, none, none, none, none, none, none, none, none, none, none, none, none, none, some (.bool x177)] ++ nn 15)) h)
theorem J16_8.of {x1:Addr} {x5:Int} {x6:Addr} {x177:Bool} {N1 : Fr → HP} {K : Bool → HP} {Kp:PK} {h:Hp} (H : JT16_8 x1 x5 x6 x177 N1 K Kp h) : J16_8 x1 x5 x6 x177 N1 K Kp h :=
 Joint.mk (Eq.mp (by kernel_rfl) H)
def JT16_7 (x1:Addr) (x5:Int) (x6:Addr) (x172:Bool) (N1 : Fr → HP) (K : Bool → HP) (Kp:PK) (h:Hp) : Prop :=
 If x172 (
 J16_8 x1 x5 x6 true N1 K Kp h) (
 Ld h (x6.add 1) (Value.int .i64) fun t175 =>
 J16_8 x1 x5 x6 (decide (t175 < (0:Int))) N1 K Kp h)
def J16_7 (x1:Addr) (x5:Int) (x6:Addr) (x172:Bool) (N1 : Fr → HP) (K : Bool → HP) (Kp:PK) (h:Hp) : Prop :=
 Joint (semOps Tryd.prog (Ann.reg 21 ann16) (regOps (sub [1, 1, 1, 1, 1, 1, 0, 1, 0, 0, 1, 0, 0, 1, 0] code16)) [8, 9, 10, 11, 12, 13, 14, 15, 16, 17, 18, 19, 20, 21, 22, 23, 24, 25, 26, 27] (ctxQ Tryd.prog ann16 (Dw ord16) none Kp [1, 1, 1, 1, 1, 1, 0, 1, 0, 0, 1, 0, 0, 1, 0] code16 [N1] (q16 K) .normal) Kp (([none, some (.pointer (some x1)), none, none, none, some (.int .i64 x5), some (.pointer (some x6)), none, none, none, none, none, none, none, none, none, none, none, none, none, none, none, none, none, none, none, none, none, none, none, none, none, none, none, none, none, none, none, none, none, none, none, none, none, none, none, none, none, none, none, none, none, none, none, none, none, none, none, none, none, none, none, none, none, none, none, none, none, none, none, none, none, none, none, none, none, none, none, none, none, none, none, none, none, none, none, none, none, none, none, none, none, none, none, none, none, none, none, none, none, none, none, none, none, none, none, none, none, none, none, none, none, none, none, none, none, none, none, none, none, none, none, none, none, none, none, none, none, none, none, none, none, none, none, none, none, none, none, none, none, none, none, none, none, none, none, none, none, none, none, none, none, none, none, none, none, none, none, none, none, none, none, none, none, none, none, none, none, none, none, none, none, some (.bool x172)] ++ nn 20)) h)
theorem J16_7.of {x1:Addr} {x5:Int} {x6:Addr} {x172:Bool} {N1 : Fr → HP} {K : Bool → HP} {Kp:PK} {h:Hp} (H : JT16_7 x1 x5 x6 x172 N1 K Kp h) : J16_7 x1 x5 x6 x172 N1 K Kp h :=
 Joint.mk (Eq.mp (by kernel_rfl) H)
def T16_6 (x1:Addr) (K : Bool → HP) (Kp:PK) (N1 : Fr → HP) (x5:Int) (h:Hp) : Prop :=
 Ld h (x1.add 8) (Sl.v) fun t155 =>
 If (decide (x5 < (t155.n:Int))) (
 Ld h (x1.add 8) (Sl.v) fun t161 =>
 Ix t161.a t161.n 3 x5 fun a163 =>
 Ld h a163 (Value.int .i64) fun t164_0 =>
 Ld h (a163.add 1) (Value.int .i64) fun t164_1 =>
 Ld h (a163.add 2) (Value.int .i64) fun t164_2 =>
 New h #[(.int .i64 (0:Int)), (.int .i64 (0:Int)), (.int .i64 (0:Int))] 57 fun a6 h1 =>
 St h1 a6 (.int .i64 t164_0) fun h2 =>
 St h2 (a6.add 1) (.int .i64 t164_1) fun h3 =>
 St h3 (a6.add 2) (.int .i64 t164_2) fun h4 =>
 Ld h4 a6 (Value.int .i64) fun t166 =>
 If (decide (t166 < (0:Int))) (
 J16_7 x1 x5 a6 true N1 K Kp h4) (
 Ld h4 a6 (Value.int .i64) fun t170 =>
 J16_7 x1 x5 a6 (decide (t170 > (4194304:Int))) N1 K Kp h4)) (
 K true h)
def L16_6 (x1:Addr) (K : Bool → HP) (Kp:PK) (x5:Int) (h:Hp) : Prop :=
 LoopH (fun N fr h => sem Tryd.prog ann16 (Dw ord16) none (sub [1, 1, 1, 1, 1, 1, 0, 1, 0, 0] code16) (thenQ (fun fr' h' => N (Ann.find ann16 2018 fr') h') (ctxQ Tryd.prog ann16 (Dw ord16) none Kp [1, 1, 1, 1, 1, 1, 0, 1, 0] code16 [] (q16 K))) Kp fr h) (mk16_6 x1 x5) h
theorem L16_6.rule {x1:Addr} {K : Bool → HP} {Kp:PK} (I : Int → HP) (μ : Int → Hp → Nat) {x5:Int} {h:Hp} (h0 : I x5 h)
 (step : ∀ (x5:Int) (h:Hp), I x5 h → ∀ N1 : Fr → HP, (∀ (x5':Int) (h':Hp), I x5' h' → μ x5' h' < μ x5 h → N1 (mk16_6 x1 x5') h') → T16_6 x1 K Kp N1 x5 h) : L16_6 x1 K Kp x5 h :=
 loop_rule (σ := Int) (fun s => mk16_6 x1 s) (fun N s h => T16_6 x1 K Kp N s h) (fun N s h => by kernel_rfl) (fun s h => I s h) (fun s h => μ s h) (s0 := x5) h0 (fun s h hI N hN => step s h hI N (fun x5' h' hI' hl => hN x5' h' hI' hl))
def JT16_5 (x1:Addr) (K : Bool → HP) (Kp:PK) (h:Hp) : Prop :=
 L16_6 x1 K Kp (0:Int) h
def J16_5 (x1:Addr) (K : Bool → HP) (Kp:PK) (h:Hp) : Prop :=
 Joint (sem Tryd.prog ann16 (Dw ord16) none (sub [1, 1, 1, 1, 1, 1] code16) (ctxQ Tryd.prog ann16 (Dw ord16) none Kp [1, 1, 1, 1, 1, 1] code16 [] (q16 K)) Kp (([none, some (.pointer (some x1))] ++ nn 191)) h)
theorem J16_5.of {x1:Addr} {K : Bool → HP} {Kp:PK} {h:Hp} (H : JT16_5 x1 K Kp h) : J16_5 x1 K Kp h :=
 Joint.mk (Eq.mp (by kernel_rfl) H)
abbrev mk16_11 (x1:Addr) (x3:Int) : Fr := ([none, some (.pointer (some x1)), none, some (.int .i64 x3)] ++ nn 189)
def JT16_13 (x1:Addr) (x3:Int) (x4:Addr) (x145:Bool) (N1 : Fr → HP) (K : Bool → HP) (Kp:PK) (h:Hp) : Prop :=
 If x145 (
 K false h) (
 Ld h (x4.add 1) (Value.int .i64) fun t148 =>
 Ld h x4 (Value.int .i64) fun t150 =>
 If (decide (t148 > t150)) (
 K false h) (
 Wr .i64 (x3 + (1:Int)) fun t127 =>
 N1 (mk16_11 x1 t127) h))
def J16_13 (x1:Addr) (x3:Int) (x4:Addr) (x145:Bool) (N1 : Fr → HP) (K : Bool → HP) (Kp:PK) (h:Hp) : Prop :=
 Joint (semOps Tryd.prog (Ann.reg 15 ann16) (regOps (sub [1, 1, 1, 1, 1, 0, 1, 0, 0, 1, 0, 0, 1, 0] code16)) [13, 14, 15, 16, 17, 18, 19] (ctxQ Tryd.prog ann16 (Dw ord16) none Kp [1, 1, 1, 1, 1, 0, 1, 0, 0, 1, 0, 0, 1, 0] code16 [N1] (q16 K) .normal) Kp (([none, some (.pointer (some x1)), none, some (.int .i64 x3), some (.pointer (some x4)), none, none, none, none, none, none, none, none, none, none, none, none, none, none, none, none, none, none, none, none, none, none, none, none, none, none, none, none, none, none, none, none, none, none, none, none, none, none, none, none, none, none, none, none, none, none, none, none, none, none, none, none, none, none, none, none, none, none, none, none, none, none, none, none, none, none, none, none, none, none, none, none, none, none, none, none, none, none, none, none, none, none, none, none, none, none, none, none, none, none, none, none, none, none, none, none, none, none, none, none, none, none, none, none, none, none, none, none, none, none, none, none, none, none, none, none, none, none, none, none, none, none, none, none, none, none, none, none, none, none, none, none, none, none, none, none, none, none, none, none, some (.bool x145)] ++ nn 47)) h)
theorem J16_13.of {x1:Addr} {x3:Int} {x4:Addr} {x145:Bool} {N1 : Fr → HP} {K : Bool → HP} {Kp:PK} {h:Hp} (H : JT16_13 x1 x3 x4 x145 N1 K Kp h) : J16_13 x1 x3 x4 x145 N1 K Kp h :=
 Joint.mk (Eq.mp (by kernel_rfl) H)
def JT16_12 (x1:Addr) (x3:Int) (x4:Addr) (x140:Bool) (N1 : Fr → HP) (K : Bool → HP) (Kp:PK) (h:Hp) : Prop :=
 If x140 (
 J16_13 x1 x3 x4 true N1 K Kp h) (
 Ld h (x4.add 1) (Value.int .i64) fun t143 =>
 J16_13 x1 x3 x4 (decide (t143 < (0:Int))) N1 K Kp h)
def J16_12 (x1:Addr) (x3:Int) (x4:Addr) (x140:Bool) (N1 : Fr → HP) (K : Bool → HP) (Kp:PK) (h:Hp) : Prop :=
 Joint (semOps Tryd.prog (Ann.reg 15 ann16) (regOps (sub [1, 1, 1, 1, 1, 0, 1, 0, 0, 1, 0, 0, 1, 0] code16)) [8, 9, 10, 11, 12, 13, 14, 15, 16, 17, 18, 19] (ctxQ Tryd.prog ann16 (Dw ord16) none Kp [1, 1, 1, 1, 1, 0, 1, 0, 0, 1, 0, 0, 1, 0] code16 [N1] (q16 K) .normal) Kp (([none, some (.pointer (some x1)), none, some (.int .i64 x3), some (.pointer (some x4)), none, none, none, none, none, none, none, none, none, none, none, none, none, none, none, none, none, none, none, none, none, none, none, none, none, none, none, none, none, none, none, none, none, none, none, none, none, none, none, none, none, none, none, none, none, none, none, none, none, none, none, none, none, none, none, none, none, none, none, none, none, none, none, none, none, none, none, none, none, none, none, none, none, none, none, none, none, none, none, none, none, none, none, none, none, none, none, none, none, none, none, none, none, none, none, none, none, none, none, none, none, none, none, none, none, none, none, none, none, none, none, none, none, none, none, none, none, none, none, none, none, none, none, none, none, none, none, none, none, none, none, none, none, none, none, some (.bool x140)] ++ nn 52)) h)
theorem J16_12.of {x1:Addr} {x3:Int} {x4:Addr} {x140:Bool} {N1 : Fr → HP} {K : Bool → HP} {Kp:PK} {h:Hp} (H : JT16_12 x1 x3 x4 x140 N1 K Kp h) : J16_12 x1 x3 x4 x140 N1 K Kp h :=
 Joint.mk (Eq.mp (by kernel_rfl) H)
def T16_11 (x1:Addr) (K : Bool → HP) (Kp:PK) (N1 : Fr → HP) (x3:Int) (h:Hp) : Prop :=
 Ld h (x1.add 7) (Sl.v) fun t123 =>
 If (decide (x3 < (t123.n:Int))) (
 Ld h (x1.add 7) (Sl.v) fun t129 =>
 Ix t129.a t129.n 2 x3 fun a131 =>
 Ld h a131 (Value.int .i64) fun t132_0 =>
 Ld h (a131.add 1) (Value.int .i64) fun t132_1 =>
 New h #[(.int .i64 (0:Int)), (.int .i64 (0:Int))] 55 fun a4 h1 =>
 St h1 a4 (.int .i64 t132_0) fun h2 =>
 St h2 (a4.add 1) (.int .i64 t132_1) fun h3 =>
 Ld h3 a4 (Value.int .i64) fun t134 =>
 If (decide (t134 < (0:Int))) (
 J16_12 x1 x3 a4 true N1 K Kp h3) (
 Ld h3 a4 (Value.int .i64) fun t138 =>
 J16_12 x1 x3 a4 (decide (t138 > (4096:Int))) N1 K Kp h3)) (
 J16_5 x1 K Kp h)
def L16_11 (x1:Addr) (K : Bool → HP) (Kp:PK) (x3:Int) (h:Hp) : Prop :=
 LoopH (fun N fr h => sem Tryd.prog ann16 (Dw ord16) none (sub [1, 1, 1, 1, 1, 0, 1, 0, 0] code16) (thenQ (fun fr' h' => N (Ann.find ann16 2012 fr') h') (ctxQ Tryd.prog ann16 (Dw ord16) none Kp [1, 1, 1, 1, 1, 0, 1, 0] code16 [] (q16 K))) Kp fr h) (mk16_11 x1 x3) h
theorem L16_11.rule {x1:Addr} {K : Bool → HP} {Kp:PK} (I : Int → HP) (μ : Int → Hp → Nat) {x3:Int} {h:Hp} (h0 : I x3 h)
 (step : ∀ (x3:Int) (h:Hp), I x3 h → ∀ N1 : Fr → HP, (∀ (x3':Int) (h':Hp), I x3' h' → μ x3' h' < μ x3 h → N1 (mk16_11 x1 x3') h') → T16_11 x1 K Kp N1 x3 h) : L16_11 x1 K Kp x3 h :=
 loop_rule (σ := Int) (fun s => mk16_11 x1 s) (fun N s h => T16_11 x1 K Kp N s h) (fun N s h => by kernel_rfl) (fun s h => I s h) (fun s h => μ s h) (s0 := x3) h0 (fun s h hI N hN => step s h hI N (fun x3' h' hI' hl => hN x3' h' hI' hl))
def JT16_4 (x1:Addr) (K : Bool → HP) (Kp:PK) (h:Hp) : Prop :=
 L16_11 x1 K Kp (0:Int) h
def J16_4 (x1:Addr) (K : Bool → HP) (Kp:PK) (h:Hp) : Prop :=
 Joint (sem Tryd.prog ann16 (Dw ord16) none (sub [1, 1, 1, 1, 1] code16) (ctxQ Tryd.prog ann16 (Dw ord16) none Kp [1, 1, 1, 1, 1] code16 [] (q16 K)) Kp (([none, some (.pointer (some x1))] ++ nn 191)) h)
theorem J16_4.of {x1:Addr} {K : Bool → HP} {Kp:PK} {h:Hp} (H : JT16_4 x1 K Kp h) : J16_4 x1 K Kp h :=
 Joint.mk (Eq.mp (by kernel_rfl) H)
def JT16_14 (x1:Addr) (x106:Bool) (K : Bool → HP) (Kp:PK) (h:Hp) : Prop :=
 If x106 (
 K false h) (
 Ld h x1 (Value.int .i64) fun t109 =>
 If (t109 == (3:Int)) (
 Ld h (x1.add 3) (Value.int .i64) fun t113 =>
 If (t113 != (0:Int)) (
 K false h) (
 Ld h (x1.add 4) (Value.bool) fun t117 =>
 If t117 (
 K false h) (
 J16_4 x1 K Kp h))) (
 J16_4 x1 K Kp h))
def J16_14 (x1:Addr) (x106:Bool) (K : Bool → HP) (Kp:PK) (h:Hp) : Prop :=
 Joint (semOps Tryd.prog (Ann.reg 9 ann16) (regOps (sub [1, 1, 1, 1, 0, 0] code16)) [13, 14, 15, 16, 17, 18, 19, 20, 21, 22, 23, 24, 25, 26] (ctxQ Tryd.prog ann16 (Dw ord16) none Kp [1, 1, 1, 1, 0, 0] code16 [] (q16 K) .normal) Kp (([none, some (.pointer (some x1)), none, none, none, none, none, none, none, none, none, none, none, none, none, none, none, none, none, none, none, none, none, none, none, none, none, none, none, none, none, none, none, none, none, none, none, none, none, none, none, none, none, none, none, none, none, none, none, none, none, none, none, none, none, none, none, none, none, none, none, none, none, none, none, none, none, none, none, none, none, none, none, none, none, none, none, none, none, none, none, none, none, none, none, none, none, none, none, none, none, none, none, none, none, none, none, none, none, none, none, none, none, none, none, none, some (.bool x106)] ++ nn 86)) h)
theorem J16_14.of {x1:Addr} {x106:Bool} {K : Bool → HP} {Kp:PK} {h:Hp} (H : JT16_14 x1 x106 K Kp h) : J16_14 x1 x106 K Kp h :=
 Joint.mk (Eq.mp (by kernel_rfl) H)
def JT16_3 (x1:Addr) (K : Bool → HP) (Kp:PK) (h:Hp) : Prop :=
 Ld h x1 (Value.int .i64) fun t95 =>
 If (t95 == (2:Int)) (
 Ld h (x1.add 3) (Value.int .i64) fun t99 =>
 If (decide (t99 < (0:Int))) (
 J16_14 x1 true K Kp h) (
 Ld h (x1.add 3) (Value.int .i64) fun t103 =>
 J16_14 x1 (decide (t103 > (31:Int))) K Kp h)) (
 J16_14 x1 false K Kp h)
def J16_3 (x1:Addr) (K : Bool → HP) (Kp:PK) (h:Hp) : Prop :=
 Joint (sem Tryd.prog ann16 (Dw ord16) none (sub [1, 1, 1, 1] code16) (ctxQ Tryd.prog ann16 (Dw ord16) none Kp [1, 1, 1, 1] code16 [] (q16 K)) Kp (([none, some (.pointer (some x1))] ++ nn 191)) h)
theorem J16_3.of {x1:Addr} {K : Bool → HP} {Kp:PK} {h:Hp} (H : JT16_3 x1 K Kp h) : J16_3 x1 K Kp h :=
 Joint.mk (Eq.mp (by kernel_rfl) H)
def JT16_18 (x1:Addr) (x87:Bool) (K : Bool → HP) (Kp:PK) (h:Hp) : Prop :=
 If x87 (
 K false h) (
 Ld h (x1.add 8) (Sl.v) fun t90 =>
 If (decide ((t90.n:Int) > (1536:Int))) (
 K false h) (
 J16_3 x1 K Kp h))
def J16_18 (x1:Addr) (x87:Bool) (K : Bool → HP) (Kp:PK) (h:Hp) : Prop :=
 Joint (semOps Tryd.prog (Ann.reg 7 ann16) (regOps (sub [1, 1, 1, 0, 0] code16)) [24, 25, 26, 27, 28, 29] (ctxQ Tryd.prog ann16 (Dw ord16) none Kp [1, 1, 1, 0, 0] code16 [] (q16 K) .normal) Kp (([none, some (.pointer (some x1)), none, none, none, none, none, none, none, none, none, none, none, none, none, none, none, none, none, none, none, none, none, none, none, none, none, none, none, none, none, none, none, none, none, none, none, none, none, none, none, none, none, none, none, none, none, none, none, none, none, none, none, none, none, none, none, none, none, none, none, none, none, none, none, none, none, none, none, none, none, none, none, none, none, none, none, none, none, none, none, none, none, none, none, none, none, some (.bool x87)] ++ nn 105)) h)
theorem J16_18.of {x1:Addr} {x87:Bool} {K : Bool → HP} {Kp:PK} {h:Hp} (H : JT16_18 x1 x87 K Kp h) : J16_18 x1 x87 K Kp h :=
 Joint.mk (Eq.mp (by kernel_rfl) H)
def JT16_17 (x1:Addr) (x81:Bool) (K : Bool → HP) (Kp:PK) (h:Hp) : Prop :=
 If x81 (
 J16_18 x1 true K Kp h) (
 Ld h (x1.add 7) (Sl.v) fun t84 =>
 J16_18 x1 (decide ((t84.n:Int) > (512:Int))) K Kp h)
def J16_17 (x1:Addr) (x81:Bool) (K : Bool → HP) (Kp:PK) (h:Hp) : Prop :=
 Joint (semOps Tryd.prog (Ann.reg 7 ann16) (regOps (sub [1, 1, 1, 0, 0] code16)) [18, 19, 20, 21, 22, 23, 24, 25, 26, 27, 28, 29] (ctxQ Tryd.prog ann16 (Dw ord16) none Kp [1, 1, 1, 0, 0] code16 [] (q16 K) .normal) Kp (([none, some (.pointer (some x1)), none, none, none, none, none, none, none, none, none, none, none, none, none, none, none, none, none, none, none, none, none, none, none, none, none, none, none, none, none, none, none, none, none, none, none, none, none, none, none, none, none, none, none, none, none, none, none, none, none, none, none, none, none, none, none, none, none, none, none, none, none, none, none, none, none, none, none, none, none, none, none, none, none, none, none, none, none, none, none, some (.bool x81)] ++ nn 111)) h)
theorem J16_17.of {x1:Addr} {x81:Bool} {K : Bool → HP} {Kp:PK} {h:Hp} (H : JT16_17 x1 x81 K Kp h) : J16_17 x1 x81 K Kp h :=
 Joint.mk (Eq.mp (by kernel_rfl) H)
def JT16_16 (x1:Addr) (x76:Bool) (K : Bool → HP) (Kp:PK) (h:Hp) : Prop :=
 If x76 (
 J16_17 x1 true K Kp h) (
 Ld h (x1.add 6) (Value.int .i64) fun t79 =>
 J16_17 x1 (decide (t79 > (2:Int))) K Kp h)
def J16_16 (x1:Addr) (x76:Bool) (K : Bool → HP) (Kp:PK) (h:Hp) : Prop :=
 Joint (semOps Tryd.prog (Ann.reg 7 ann16) (regOps (sub [1, 1, 1, 0, 0] code16)) [13, 14, 15, 16, 17, 18, 19, 20, 21, 22, 23, 24, 25, 26, 27, 28, 29] (ctxQ Tryd.prog ann16 (Dw ord16) none Kp [1, 1, 1, 0, 0] code16 [] (q16 K) .normal) Kp (([none, some (.pointer (some x1)), none, none, none, none, none, none, none, none, none, none, none, none, none, none, none, none, none, none, none, none, none, none, none, none, none, none, none, none, none, none, none, none, none, none, none, none, none, none, none, none, none, none, none, none, none, none, none, none, none, none, none, none, none, none, none, none, none, none, none, none, none, none, none, none, none, none, none, none, none, none, none, none, none, none, some (.bool x76)] ++ nn 116)) h)
theorem J16_16.of {x1:Addr} {x76:Bool} {K : Bool → HP} {Kp:PK} {h:Hp} (H : JT16_16 x1 x76 K Kp h) : J16_16 x1 x76 K Kp h :=
 Joint.mk (Eq.mp (by kernel_rfl) H)
def JT16_15 (x1:Addr) (x71:Bool) (K : Bool → HP) (Kp:PK) (h:Hp) : Prop :=
 If x71 (
 J16_16 x1 true K Kp h) (
 Ld h (x1.add 6) (Value.int .i64) fun t74 =>
 J16_16 x1 (decide (t74 < (0:Int))) K Kp h)
def J16_15 (x1:Addr) (x71:Bool) (K : Bool → HP) (Kp:PK) (h:Hp) : Prop :=
 Joint (semOps Tryd.prog (Ann.reg 7 ann16) (regOps (sub [1, 1, 1, 0, 0] code16)) [8, 9, 10, 11, 12, 13, 14, 15, 16, 17, 18, 19, 20, 21, 22, 23, 24, 25, 26, 27, 28, 29] (ctxQ Tryd.prog ann16 (Dw ord16) none Kp [1, 1, 1, 0, 0] code16 [] (q16 K) .normal) Kp (([none, some (.pointer (some x1)), none, none, none, none, none, none, none, none, none, none, none, none, none, none, none, none, none, none, none, none, none, none, none, none, none, none, none, none, none, none, none, none, none, none, none, none, none, none, none, none, none, none, none, none, none, none, none, none, none, none, none, none, none, none, none, none, none, none, none, none, none, none, none, none, none, none, none, none, none, some (.bool x71)] ++ nn 121)) h)
theorem J16_15.of {x1:Addr} {x71:Bool} {K : Bool → HP} {Kp:PK} {h:Hp} (H : JT16_15 x1 x71 K Kp h) : J16_15 x1 x71 K Kp h :=
 Joint.mk (Eq.mp (by kernel_rfl) H)
def JT16_2 (x1:Addr) (K : Bool → HP) (Kp:PK) (h:Hp) : Prop :=
 Ld h (x1.add 5) (Value.int .i64) fun t65 =>
 If (decide (t65 < (0:Int))) (
 J16_15 x1 true K Kp h) (
 Ld h (x1.add 5) (Value.int .i64) fun t69 =>
 J16_15 x1 (decide (t69 > (4096:Int))) K Kp h)
def J16_2 (x1:Addr) (K : Bool → HP) (Kp:PK) (h:Hp) : Prop :=
 Joint (sem Tryd.prog ann16 (Dw ord16) none (sub [1, 1, 1] code16) (ctxQ Tryd.prog ann16 (Dw ord16) none Kp [1, 1, 1] code16 [] (q16 K)) Kp (([none, some (.pointer (some x1))] ++ nn 191)) h)
theorem J16_2.of {x1:Addr} {K : Bool → HP} {Kp:PK} {h:Hp} (H : JT16_2 x1 K Kp h) : J16_2 x1 K Kp h :=
 Joint.mk (Eq.mp (by kernel_rfl) H)
def JT16_20 (x1:Addr) (x56:Bool) (K : Bool → HP) (Kp:PK) (h:Hp) : Prop :=
 If x56 (
 K false h) (
 Ld h ((x1.add 1).add 1) (Sl.v) fun t60 =>
 If (decide ((t60.n:Int) > (0:Int))) (
 K false h) (
 J16_2 x1 K Kp h))
def J16_20 (x1:Addr) (x56:Bool) (K : Bool → HP) (Kp:PK) (h:Hp) : Prop :=
 Joint (semOps Tryd.prog (Ann.reg 5 ann16) (regOps (sub [1, 1, 0, 0] code16)) [15, 16, 17, 18, 19, 20, 21] (ctxQ Tryd.prog ann16 (Dw ord16) none Kp [1, 1, 0, 0] code16 [] (q16 K) .normal) Kp (([none, some (.pointer (some x1)), none, none, none, none, none, none, none, none, none, none, none, none, none, none, none, none, none, none, none, none, none, none, none, none, none, none, none, none, none, none, none, none, none, none, none, none, none, none, none, none, none, none, none, none, none, none, none, none, none, none, none, none, none, none, some (.bool x56)] ++ nn 136)) h)
theorem J16_20.of {x1:Addr} {x56:Bool} {K : Bool → HP} {Kp:PK} {h:Hp} (H : JT16_20 x1 x56 K Kp h) : J16_20 x1 x56 K Kp h :=
 Joint.mk (Eq.mp (by kernel_rfl) H)
def JT16_19 (x1:Addr) (x49:Bool) (K : Bool → HP) (Kp:PK) (h:Hp) : Prop :=
 If x49 (
 J16_20 x1 true K Kp h) (
 Ld h (x1.add 1) (Sl.v) fun t53 =>
 J16_20 x1 (decide ((t53.n:Int) > (0:Int))) K Kp h)
def J16_19 (x1:Addr) (x49:Bool) (K : Bool → HP) (Kp:PK) (h:Hp) : Prop :=
 Joint (semOps Tryd.prog (Ann.reg 5 ann16) (regOps (sub [1, 1, 0, 0] code16)) [8, 9, 10, 11, 12, 13, 14, 15, 16, 17, 18, 19, 20, 21] (ctxQ Tryd.prog ann16 (Dw ord16) none Kp [1, 1, 0, 0] code16 [] (q16 K) .normal) Kp (([none, some (.pointer (some x1)), none, none, none, none, none, none, none, none, none, none, none, none, none, none, none, none, none, none, none, none, none, none, none, none, none, none, none, none, none, none, none, none, none, none, none, none, none, none, none, none, none, none, none, none, none, none, none, some (.bool x49)] ++ nn 143)) h)
theorem J16_19.of {x1:Addr} {x49:Bool} {K : Bool → HP} {Kp:PK} {h:Hp} (H : JT16_19 x1 x49 K Kp h) : J16_19 x1 x49 K Kp h :=
 Joint.mk (Eq.mp (by kernel_rfl) H)
def JT16_1 (x1:Addr) (K : Bool → HP) (Kp:PK) (h:Hp) : Prop :=
 Ld h x1 (Value.int .i64) fun t43 =>
 If (t43 != (2:Int)) (
 Ld h x1 (Value.int .i64) fun t47 =>
 J16_19 x1 (t47 != (3:Int)) K Kp h) (
 J16_19 x1 false K Kp h)
def J16_1 (x1:Addr) (K : Bool → HP) (Kp:PK) (h:Hp) : Prop :=
 Joint (sem Tryd.prog ann16 (Dw ord16) none (sub [1, 1] code16) (ctxQ Tryd.prog ann16 (Dw ord16) none Kp [1, 1] code16 [] (q16 K)) Kp (([none, some (.pointer (some x1))] ++ nn 191)) h)
theorem J16_1.of {x1:Addr} {K : Bool → HP} {Kp:PK} {h:Hp} (H : JT16_1 x1 K Kp h) : J16_1 x1 K Kp h :=
 Joint.mk (Eq.mp (by kernel_rfl) H)
def JT16_24 (x1:Addr) (x32:Bool) (K : Bool → HP) (Kp:PK) (h:Hp) : Prop :=
 If x32 (
 K false h) (
 Ld h (x1.add 8) (Sl.v) fun t35 =>
 If (decide ((t35.n:Int) > (0:Int))) (
 K false h) (
 Ld h (x1.add 1) (Sl.v) fun t40_0 =>
 Ld h ((x1.add 1).add 1) (Sl.v) fun t40_1 =>
 Fn37 t40_0 t40_1 h (fun t41 h1 =>
 K t41 h1) Kp))
def J16_24 (x1:Addr) (x32:Bool) (K : Bool → HP) (Kp:PK) (h:Hp) : Prop :=
 Joint (semOps Tryd.prog (Ann.reg 2 ann16) (regOps (sub [1, 0, 1, 0, 0, 0] code16)) [23, 24, 25, 26, 27, 28] (ctxQ Tryd.prog ann16 (Dw ord16) none Kp [1, 0, 1, 0, 0, 0] code16 [] (q16 K) .normal) Kp (([none, some (.pointer (some x1)), none, none, none, none, none, none, none, none, none, none, none, none, none, none, none, none, none, none, none, none, none, none, none, none, none, none, none, none, none, none, some (.bool x32)] ++ nn 160)) h)
theorem J16_24.of {x1:Addr} {x32:Bool} {K : Bool → HP} {Kp:PK} {h:Hp} (H : JT16_24 x1 x32 K Kp h) : J16_24 x1 x32 K Kp h :=
 Joint.mk (Eq.mp (by kernel_rfl) H)
def JT16_23 (x1:Addr) (x26:Bool) (K : Bool → HP) (Kp:PK) (h:Hp) : Prop :=
 If x26 (
 J16_24 x1 true K Kp h) (
 Ld h (x1.add 7) (Sl.v) fun t29 =>
 J16_24 x1 (decide ((t29.n:Int) > (0:Int))) K Kp h)
def J16_23 (x1:Addr) (x26:Bool) (K : Bool → HP) (Kp:PK) (h:Hp) : Prop :=
 Joint (semOps Tryd.prog (Ann.reg 2 ann16) (regOps (sub [1, 0, 1, 0, 0, 0] code16)) [17, 18, 19, 20, 21, 22, 23, 24, 25, 26, 27, 28] (ctxQ Tryd.prog ann16 (Dw ord16) none Kp [1, 0, 1, 0, 0, 0] code16 [] (q16 K) .normal) Kp (([none, some (.pointer (some x1)), none, none, none, none, none, none, none, none, none, none, none, none, none, none, none, none, none, none, none, none, none, none, none, none, some (.bool x26)] ++ nn 166)) h)
theorem J16_23.of {x1:Addr} {x26:Bool} {K : Bool → HP} {Kp:PK} {h:Hp} (H : JT16_23 x1 x26 K Kp h) : J16_23 x1 x26 K Kp h :=
 Joint.mk (Eq.mp (by kernel_rfl) H)
def JT16_22 (x1:Addr) (x21:Bool) (K : Bool → HP) (Kp:PK) (h:Hp) : Prop :=
 If x21 (
 J16_23 x1 true K Kp h) (
 Ld h (x1.add 6) (Value.int .i64) fun t24 =>
 J16_23 x1 (t24 != (0:Int)) K Kp h)
def J16_22 (x1:Addr) (x21:Bool) (K : Bool → HP) (Kp:PK) (h:Hp) : Prop :=
 Joint (semOps Tryd.prog (Ann.reg 2 ann16) (regOps (sub [1, 0, 1, 0, 0, 0] code16)) [12, 13, 14, 15, 16, 17, 18, 19, 20, 21, 22, 23, 24, 25, 26, 27, 28] (ctxQ Tryd.prog ann16 (Dw ord16) none Kp [1, 0, 1, 0, 0, 0] code16 [] (q16 K) .normal) Kp (([none, some (.pointer (some x1)), none, none, none, none, none, none, none, none, none, none, none, none, none, none, none, none, none, none, none, some (.bool x21)] ++ nn 171)) h)
theorem J16_22.of {x1:Addr} {x21:Bool} {K : Bool → HP} {Kp:PK} {h:Hp} (H : JT16_22 x1 x21 K Kp h) : J16_22 x1 x21 K Kp h :=
 Joint.mk (Eq.mp (by kernel_rfl) H)
def JT16_21 (x1:Addr) (x16:Bool) (K : Bool → HP) (Kp:PK) (h:Hp) : Prop :=
 If x16 (
 J16_22 x1 true K Kp h) (
 Ld h (x1.add 5) (Value.int .i64) fun t19 =>
 J16_22 x1 (t19 != (0:Int)) K Kp h)
def J16_21 (x1:Addr) (x16:Bool) (K : Bool → HP) (Kp:PK) (h:Hp) : Prop :=
 Joint (semOps Tryd.prog (Ann.reg 2 ann16) (regOps (sub [1, 0, 1, 0, 0, 0] code16)) [7, 8, 9, 10, 11, 12, 13, 14, 15, 16, 17, 18, 19, 20, 21, 22, 23, 24, 25, 26, 27, 28] (ctxQ Tryd.prog ann16 (Dw ord16) none Kp [1, 0, 1, 0, 0, 0] code16 [] (q16 K) .normal) Kp (([none, some (.pointer (some x1)), none, none, none, none, none, none, none, none, none, none, none, none, none, none, some (.bool x16)] ++ nn 176)) h)
theorem J16_21.of {x1:Addr} {x16:Bool} {K : Bool → HP} {Kp:PK} {h:Hp} (H : JT16_21 x1 x16 K Kp h) : J16_21 x1 x16 K Kp h :=
 Joint.mk (Eq.mp (by kernel_rfl) H)
def S16 (hv_0:Int) (hv_1:Sl) (hv_2:Sl) (hv_3:Int) (hv_4:Bool) (hv_5:Int) (hv_6:Int) (hv_7:Sl) (hv_8:Sl) (h:Hp) (K : Bool → HP) (Kp:PK) : Prop :=
 New h #[(.int .i64 hv_0), (Sl.v hv_1), (Sl.v hv_2), (.int .i64 hv_3), (.bool hv_4), (.int .i64 hv_5), (.int .i64 hv_6), (Sl.v hv_7), (Sl.v hv_8)] 29 fun a1 h1 =>
 Ld h1 a1 (Value.int .i64) fun t8 =>
 If (t8 == (1:Int)) (
 Ld h1 (a1.add 3) (Value.int .i64) fun t11 =>
 If (t11 != (0:Int)) (
 J16_21 a1 true K Kp h1) (
 Ld h1 (a1.add 4) (Value.bool) fun t15 =>
 J16_21 a1 t15 K Kp h1)) (
 J16_1 a1 K Kp h1)
theorem Fn16.of {hv_0:Int} {hv_1:Sl} {hv_2:Sl} {hv_3:Int} {hv_4:Bool} {hv_5:Int} {hv_6:Int} {hv_7:Sl} {hv_8:Sl} {h:Hp} {K : Bool → HP} {Kp:PK} (H : S16 hv_0 hv_1 hv_2 hv_3 hv_4 hv_5 hv_6 hv_7 hv_8 h K Kp) : Fn16 hv_0 hv_1 hv_2 hv_3 hv_4 hv_5 hv_6 hv_7 hv_8 h K Kp :=
 fn_of2 (P := Tryd.prog) (ann := ann16) (D := DrawSem Tryd.prog ord16) (drawOk _) (c := code16) (zs := [(.bool false)]) (args := [(.agg #[(.int .i64 hv_0), (Sl.v hv_1), (Sl.v hv_2), (.int .i64 hv_3), (.bool hv_4), (.int .i64 hv_5), (.int .i64 hv_6), (Sl.v hv_7), (Sl.v hv_8)])]) (Kv := kv16 K) (Kp := Kp) (h := h) Tryd.func16 (by kernel_rfl) H (by kernel_rfl) (by kernel_rfl)
end Go.Proofs.YtfomkkdijjfpiaaDoor
