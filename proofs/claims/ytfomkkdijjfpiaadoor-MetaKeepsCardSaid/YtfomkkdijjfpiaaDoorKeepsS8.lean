/- What the functions do, printed by program (gen.py) in the words of ShCore; each text is held against the loaded program by the kernel. -/
import Derived.Test.YtfomkkdijjfpiaaDoorKeepsF
set_option linter.unusedSimpArgs false
set_option linter.unusedVariables false
set_option maxRecDepth 100000
namespace Go.Proofs.YtfomkkdijjfpiaaDoor
open Go Go.Sh
/- ### 21: may -/
noncomputable def code21 : Code := Tryd.f21.body.getD .skip
def ann21 : Ann := [(2000012, [1]), (2000013, [1, 4]), (53006, [1, 83]), (53011, [1, 88]), (53016, [1, 93]), (53021, [1, 98]), (44008, [1, 16]), (44013, [1, 21]), (44018, [1, 26]), (44024, [1, 32])]
def ord21 : List (Nat × OT × List Nat) := []
def kv21 (K : Bool → HP) : Value → HP := fun v h => match v with | .bool r0 => (K r0 h) | _ => False
def q21 (K : Bool → HP) : Qt := retQ Tryd.prog Tryd.f21.results.toList [(.bool false)] (kv21 K)
def JT21_6 (x1:Addr) (x98:Bool) (K : Bool → HP) (Kp:PK) (h:Hp) : Prop :=
 If x98 (
 Ld h x1 (Value.int .i64) fun t100_0 =>
 Ld h (x1.add 1) (Sl.v) fun t100_1 =>
 Ld h (x1.add 2) (Sl.v) fun t100_2 =>
 Ld h (x1.add 3) (Value.int .i64) fun t100_3 =>
 Ld h (x1.add 4) (Value.bool) fun t100_4 =>
 Ld h (x1.add 5) (Value.int .i64) fun t100_5 =>
 Ld h (x1.add 6) (Value.int .i64) fun t100_6 =>
 Ld h (x1.add 7) (Sl.v) fun t100_7 =>
 Ld h (x1.add 8) (Sl.v) fun t100_8 =>
 Fn42 t100_0 t100_1 t100_2 t100_3 t100_4 t100_5 t100_6 t100_7 t100_8 h (fun t101 h1 =>
 K t101 h1) Kp) (
 K false h)
def J21_6 (x1:Addr) (x98:Bool) (K : Bool → HP) (Kp:PK) (h:Hp) : Prop :=
 Joint (semOps Tryd.prog (Ann.reg 13 ann21) (regOps (sub [1, 1, 1, 0] code21)) [21, 22, 23, 24, 25] (ctxQ Tryd.prog ann21 (Dw ord21) none Kp [1, 1, 1, 0] code21 [] (q21 K) .normal) Kp ([none, some (.pointer (some x1)), none, none, none, none, none, none, none, none, none, none, none, none, none, none, none, none, none, none, none, none, none, none, none, none, none, none, none, none, none, none, none, none, none, none, none, none, none, none, none, none, none, none, none, none, none, none, none, none, none, none, none, none, none, none, none, none, none, none, none, none, none, none, none, none, none, none, none, none, none, none, none, none, none, none, none, none, none, none, none, none, none, none, none, none, none, none, none, none, none, none, none, none, none, none, none, none, some (.bool x98), none, none, none, none]) h)
theorem J21_6.of {x1:Addr} {x98:Bool} {K : Bool → HP} {Kp:PK} {h:Hp} (H : JT21_6 x1 x98 K Kp h) : J21_6 x1 x98 K Kp h :=
 Joint.mk (Eq.mp (by kernel_rfl) H)
def JT21_5 (x1:Addr) (x93:Bool) (K : Bool → HP) (Kp:PK) (h:Hp) : Prop :=
 If x93 (
 Ld h (x1.add 6) (Value.int .i64) fun t96 =>
 J21_6 x1 (decide (t96 ≤ (2:Int))) K Kp h) (
 J21_6 x1 false K Kp h)
def J21_5 (x1:Addr) (x93:Bool) (K : Bool → HP) (Kp:PK) (h:Hp) : Prop :=
 Joint (semOps Tryd.prog (Ann.reg 13 ann21) (regOps (sub [1, 1, 1, 0] code21)) [16, 17, 18, 19, 20, 21, 22, 23, 24, 25] (ctxQ Tryd.prog ann21 (Dw ord21) none Kp [1, 1, 1, 0] code21 [] (q21 K) .normal) Kp (([none, some (.pointer (some x1)), none, none, none, none, none, none, none, none, none, none, none, none, none, none, none, none, none, none, none, none, none, none, none, none, none, none, none, none, none, none, none, none, none, none, none, none, none, none, none, none, none, none, none, none, none, none, none, none, none, none, none, none, none, none, none, none, none, none, none, none, none, none, none, none, none, none, none, none, none, none, none, none, none, none, none, none, none, none, none, none, none, none, none, none, none, none, none, none, none, none, none, some (.bool x93)] ++ nn 9)) h)
theorem J21_5.of {x1:Addr} {x93:Bool} {K : Bool → HP} {Kp:PK} {h:Hp} (H : JT21_5 x1 x93 K Kp h) : J21_5 x1 x93 K Kp h :=
 Joint.mk (Eq.mp (by kernel_rfl) H)
def JT21_4 (x1:Addr) (x88:Bool) (K : Bool → HP) (Kp:PK) (h:Hp) : Prop :=
 If x88 (
 Ld h (x1.add 6) (Value.int .i64) fun t91 =>
 J21_5 x1 (decide (t91 ≥ (0:Int))) K Kp h) (
 J21_5 x1 false K Kp h)
def J21_4 (x1:Addr) (x88:Bool) (K : Bool → HP) (Kp:PK) (h:Hp) : Prop :=
 Joint (semOps Tryd.prog (Ann.reg 13 ann21) (regOps (sub [1, 1, 1, 0] code21)) [11, 12, 13, 14, 15, 16, 17, 18, 19, 20, 21, 22, 23, 24, 25] (ctxQ Tryd.prog ann21 (Dw ord21) none Kp [1, 1, 1, 0] code21 [] (q21 K) .normal) Kp (([none, some (.pointer (some x1)), none, none, none, none, none, none, none, none, none, none, none, none, none, none, none, none, none, none, none, none, none, none, none, none, none, none, none, none, none, none, none, none, none, none, none, none, none, none, none, none, none, none, none, none, none, none, none, none, none, none, none, none, none, none, none, none, none, none, none, none, none, none, none, none, none, none, none, none, none, none, none, none, none, none, none, none, none, none, none, none, none, none, none, none, none, none, some (.bool x88)] ++ nn 14)) h)
theorem J21_4.of {x1:Addr} {x88:Bool} {K : Bool → HP} {Kp:PK} {h:Hp} (H : JT21_4 x1 x88 K Kp h) : J21_4 x1 x88 K Kp h :=
 Joint.mk (Eq.mp (by kernel_rfl) H)
def JT21_3 (x1:Addr) (x83:Bool) (K : Bool → HP) (Kp:PK) (h:Hp) : Prop :=
 If x83 (
 Ld h (x1.add 5) (Value.int .i64) fun t86 =>
 J21_4 x1 (decide (t86 ≤ (4096:Int))) K Kp h) (
 J21_4 x1 false K Kp h)
def J21_3 (x1:Addr) (x83:Bool) (K : Bool → HP) (Kp:PK) (h:Hp) : Prop :=
 Joint (semOps Tryd.prog (Ann.reg 13 ann21) (regOps (sub [1, 1, 1, 0] code21)) [6, 7, 8, 9, 10, 11, 12, 13, 14, 15, 16, 17, 18, 19, 20, 21, 22, 23, 24, 25] (ctxQ Tryd.prog ann21 (Dw ord21) none Kp [1, 1, 1, 0] code21 [] (q21 K) .normal) Kp (([none, some (.pointer (some x1)), none, none, none, none, none, none, none, none, none, none, none, none, none, none, none, none, none, none, none, none, none, none, none, none, none, none, none, none, none, none, none, none, none, none, none, none, none, none, none, none, none, none, none, none, none, none, none, none, none, none, none, none, none, none, none, none, none, none, none, none, none, none, none, none, none, none, none, none, none, none, none, none, none, none, none, none, none, none, none, none, none, some (.bool x83)] ++ nn 19)) h)
theorem J21_3.of {x1:Addr} {x83:Bool} {K : Bool → HP} {Kp:PK} {h:Hp} (H : JT21_3 x1 x83 K Kp h) : J21_3 x1 x83 K Kp h :=
 Joint.mk (Eq.mp (by kernel_rfl) H)
def JT21_2 (x1:Addr) (x4:Bool) (K : Bool → HP) (Kp:PK) (h:Hp) : Prop :=
 If x4 (
 Ld h (x1.add 5) (Value.int .i64) fun t81 =>
 J21_3 x1 (decide (t81 ≥ (0:Int))) K Kp h) (
 J21_3 x1 false K Kp h)
def J21_2 (x1:Addr) (x4:Bool) (K : Bool → HP) (Kp:PK) (h:Hp) : Prop :=
 Joint (sem Tryd.prog ann21 (Dw ord21) none (sub [1, 1, 1] code21) (ctxQ Tryd.prog ann21 (Dw ord21) none Kp [1, 1, 1] code21 [] (q21 K)) Kp (([none, some (.pointer (some x1)), none, none, some (.bool x4)] ++ nn 98)) h)
theorem J21_2.of {x1:Addr} {x4:Bool} {K : Bool → HP} {Kp:PK} {h:Hp} (H : JT21_2 x1 x4 K Kp h) : J21_2 x1 x4 K Kp h :=
 Joint.mk (Eq.mp (by kernel_rfl) H)
def JT21_1 (x1:Addr) (K : Bool → HP) (Kp:PK) (h:Hp) : Prop :=
 Ld h (x1.add 1) (Sl.v) fun t68 =>
 If ((t68.n:Int) == (0:Int)) (
 Ld h ((x1.add 1).add 1) (Sl.v) fun t74 =>
 J21_2 x1 ((t74.n:Int) == (0:Int)) K Kp h) (
 J21_2 x1 false K Kp h)
def J21_1 (x1:Addr) (K : Bool → HP) (Kp:PK) (h:Hp) : Prop :=
 Joint (sem Tryd.prog ann21 (Dw ord21) none (sub [1, 1] code21) (ctxQ Tryd.prog ann21 (Dw ord21) none Kp [1, 1] code21 [] (q21 K)) Kp (([none, some (.pointer (some x1))] ++ nn 101)) h)
theorem J21_1.of {x1:Addr} {K : Bool → HP} {Kp:PK} {h:Hp} (H : JT21_1 x1 K Kp h) : J21_1 x1 K Kp h :=
 Joint.mk (Eq.mp (by kernel_rfl) H)
def JT21_10 (x1:Addr) (x32:Bool) (K : Bool → HP) (Kp:PK) (h:Hp) : Prop :=
 If x32 (
 Ld h (x1.add 8) (Sl.v) fun t35 =>
 If ((t35.n:Int) == (0:Int)) (
 Ld h (x1.add 1) (Sl.v) fun t42_0 =>
 Ld h ((x1.add 1).add 1) (Sl.v) fun t42_1 =>
 Fn41 t42_0 t42_1 h (fun t43_0 t43_1 t43_2 h1 =>
 K (t43_0 == (0:Int)) h1) Kp) (
 K false h)) (
 K false h)
def J21_10 (x1:Addr) (x32:Bool) (K : Bool → HP) (Kp:PK) (h:Hp) : Prop :=
 Joint (semOps Tryd.prog (Ann.reg 4 ann21) (regOps (sub [1, 0, 1, 0, 1, 0, 0] code21)) [24, 25, 26, 27, 28, 29, 30] (ctxQ Tryd.prog ann21 (Dw ord21) none Kp [1, 0, 1, 0, 1, 0, 0] code21 [] (q21 K) .normal) Kp (([none, some (.pointer (some x1)), none, none, none, none, none, none, none, none, none, none, none, none, none, none, none, none, none, none, none, none, none, none, none, none, none, none, none, none, none, none, some (.bool x32)] ++ nn 70)) h)
theorem J21_10.of {x1:Addr} {x32:Bool} {K : Bool → HP} {Kp:PK} {h:Hp} (H : JT21_10 x1 x32 K Kp h) : J21_10 x1 x32 K Kp h :=
 Joint.mk (Eq.mp (by kernel_rfl) H)
def JT21_9 (x1:Addr) (x26:Bool) (K : Bool → HP) (Kp:PK) (h:Hp) : Prop :=
 If x26 (
 Ld h (x1.add 7) (Sl.v) fun t29 =>
 J21_10 x1 ((t29.n:Int) == (0:Int)) K Kp h) (
 J21_10 x1 false K Kp h)
def J21_9 (x1:Addr) (x26:Bool) (K : Bool → HP) (Kp:PK) (h:Hp) : Prop :=
 Joint (semOps Tryd.prog (Ann.reg 4 ann21) (regOps (sub [1, 0, 1, 0, 1, 0, 0] code21)) [18, 19, 20, 21, 22, 23, 24, 25, 26, 27, 28, 29, 30] (ctxQ Tryd.prog ann21 (Dw ord21) none Kp [1, 0, 1, 0, 1, 0, 0] code21 [] (q21 K) .normal) Kp (([none, some (.pointer (some x1)), none, none, none, none, none, none, none, none, none, none, none, none, none, none, none, none, none, none, none, none, none, none, none, none, some (.bool x26)] ++ nn 76)) h)
theorem J21_9.of {x1:Addr} {x26:Bool} {K : Bool → HP} {Kp:PK} {h:Hp} (H : JT21_9 x1 x26 K Kp h) : J21_9 x1 x26 K Kp h :=
 Joint.mk (Eq.mp (by kernel_rfl) H)
def JT21_8 (x1:Addr) (x21:Bool) (K : Bool → HP) (Kp:PK) (h:Hp) : Prop :=
 If x21 (
 Ld h (x1.add 6) (Value.int .i64) fun t24 =>
 J21_9 x1 (t24 == (0:Int)) K Kp h) (
 J21_9 x1 false K Kp h)
def J21_8 (x1:Addr) (x21:Bool) (K : Bool → HP) (Kp:PK) (h:Hp) : Prop :=
 Joint (semOps Tryd.prog (Ann.reg 4 ann21) (regOps (sub [1, 0, 1, 0, 1, 0, 0] code21)) [13, 14, 15, 16, 17, 18, 19, 20, 21, 22, 23, 24, 25, 26, 27, 28, 29, 30] (ctxQ Tryd.prog ann21 (Dw ord21) none Kp [1, 0, 1, 0, 1, 0, 0] code21 [] (q21 K) .normal) Kp (([none, some (.pointer (some x1)), none, none, none, none, none, none, none, none, none, none, none, none, none, none, none, none, none, none, none, some (.bool x21)] ++ nn 81)) h)
theorem J21_8.of {x1:Addr} {x21:Bool} {K : Bool → HP} {Kp:PK} {h:Hp} (H : JT21_8 x1 x21 K Kp h) : J21_8 x1 x21 K Kp h :=
 Joint.mk (Eq.mp (by kernel_rfl) H)
def JT21_7 (x1:Addr) (x16:Bool) (K : Bool → HP) (Kp:PK) (h:Hp) : Prop :=
 If x16 (
 Ld h (x1.add 5) (Value.int .i64) fun t19 =>
 J21_8 x1 (t19 == (0:Int)) K Kp h) (
 J21_8 x1 false K Kp h)
def J21_7 (x1:Addr) (x16:Bool) (K : Bool → HP) (Kp:PK) (h:Hp) : Prop :=
 Joint (semOps Tryd.prog (Ann.reg 4 ann21) (regOps (sub [1, 0, 1, 0, 1, 0, 0] code21)) [8, 9, 10, 11, 12, 13, 14, 15, 16, 17, 18, 19, 20, 21, 22, 23, 24, 25, 26, 27, 28, 29, 30] (ctxQ Tryd.prog ann21 (Dw ord21) none Kp [1, 0, 1, 0, 1, 0, 0] code21 [] (q21 K) .normal) Kp (([none, some (.pointer (some x1)), none, none, none, none, none, none, none, none, none, none, none, none, none, none, some (.bool x16)] ++ nn 86)) h)
theorem J21_7.of {x1:Addr} {x16:Bool} {K : Bool → HP} {Kp:PK} {h:Hp} (H : JT21_7 x1 x16 K Kp h) : J21_7 x1 x16 K Kp h :=
 Joint.mk (Eq.mp (by kernel_rfl) H)
def S21 (hv_0:Int) (hv_1:Sl) (hv_2:Sl) (hv_3:Int) (hv_4:Bool) (hv_5:Int) (hv_6:Int) (hv_7:Sl) (hv_8:Sl) (h:Hp) (K : Bool → HP) (Kp:PK) : Prop :=
 New h #[(.int .i64 hv_0), (Sl.v hv_1), (Sl.v hv_2), (.int .i64 hv_3), (.bool hv_4), (.int .i64 hv_5), (.int .i64 hv_6), (Sl.v hv_7), (Sl.v hv_8)] 29 fun a1 h1 =>
 Ld h1 a1 (Value.int .i64) fun t6 =>
 If (t6 == (1:Int)) (
 Ld h1 (a1.add 3) (Value.int .i64) fun t10 =>
 If (t10 == (0:Int)) (
 Ld h1 (a1.add 4) (Value.bool) fun t14 =>
 J21_7 a1 (!t14) K Kp h1) (
 J21_7 a1 false K Kp h1)) (
 If (t6 == (3:Int)) (
 Ld h1 (a1.add 3) (Value.int .i64) fun t50 =>
 If (t50 != (0:Int)) (
 K false h1) (
 Ld h1 (a1.add 4) (Value.bool) fun t54 =>
 If t54 (
 K false h1) (
 J21_1 a1 K Kp h1))) (
 If (t6 == (2:Int)) (
 Ld h1 (a1.add 3) (Value.int .i64) fun t59 =>
 If (decide (t59 < (0:Int))) (
 K false h1) (
 Ld h1 (a1.add 3) (Value.int .i64) fun t63 =>
 If (decide (t63 ≥ (32:Int))) (
 K false h1) (
 J21_1 a1 K Kp h1))) (
 K false h1)))
theorem Fn21.of {hv_0:Int} {hv_1:Sl} {hv_2:Sl} {hv_3:Int} {hv_4:Bool} {hv_5:Int} {hv_6:Int} {hv_7:Sl} {hv_8:Sl} {h:Hp} {K : Bool → HP} {Kp:PK} (H : S21 hv_0 hv_1 hv_2 hv_3 hv_4 hv_5 hv_6 hv_7 hv_8 h K Kp) : Fn21 hv_0 hv_1 hv_2 hv_3 hv_4 hv_5 hv_6 hv_7 hv_8 h K Kp :=
 fn_of2 (P := Tryd.prog) (ann := ann21) (D := DrawSem Tryd.prog ord21) (drawOk _) (c := code21) (zs := [(.bool false)]) (args := [(.agg #[(.int .i64 hv_0), (Sl.v hv_1), (Sl.v hv_2), (.int .i64 hv_3), (.bool hv_4), (.int .i64 hv_5), (.int .i64 hv_6), (Sl.v hv_7), (Sl.v hv_8)])]) (Kv := kv21 K) (Kp := Kp) (h := h) Tryd.func21 (by kernel_rfl) H (by kernel_rfl) (by kernel_rfl)
/- ### 22: number -/
noncomputable def code22 : Code := Tryd.f22.body.getD .skip
def ann22 : Ann := [(2001, [0, 1, 6, 7])]
def ord22 : List (Nat × OT × List Nat) := []
def kv22 (K:HP) : Value → HP := fun _ h => K h
def q22 (K:HP) : Qt := retQ Tryd.prog Tryd.f22.results.toList [] (kv22 K)
abbrev mk22_1 (x0 : Option Addr) (x6:Int) (x1:Int) (x7:Int) : Fr := ([some (.pointer x0), some (.int .i64 x1), none, none, none, none, some (.int .i64 x6), some (.int .i64 x7)] ++ nn 15)
def T22_1 (x0 : Option Addr) (x6:Int) (K:HP) (Kp:PK) (N1 : Fr → HP) (x1:Int) (x7:Int) (h:Hp) : Prop :=
 If (decide (x7 < x6)) (
 NN x0 fun p11 =>
 Ld h p11 (Sl.v) fun t13 =>
 Wr .u8 x1 fun t15 =>
 New h #[(.int .u8 t15)] 5 fun a16 h1 =>
 Ap h1 5 #[(.int .u8 (0:Int))] 1 1 t13 1 (rd h1 (some a16) (1 * 1)) fun t17 h2 =>
 NN x0 fun p18 =>
 St h2 p18 (Sl.v t17) fun h3 =>
 Nn (8:Int) <| Lt (Int.fdiv x1 (2 ^ (min (Int.toNat (8:Int)) (IntKind.bits .i64)))) fun t21 =>
 Wr .i64 (x7 + (1:Int)) fun t22 =>
 N1 (mk22_1 x0 x6 t21 t22) h3) (
 K  h)
def L22_1 (x0 : Option Addr) (x6:Int) (K:HP) (Kp:PK) (x1:Int) (x7:Int) (h:Hp) : Prop :=
 LoopH (fun N fr h => sem Tryd.prog ann22 (Dw ord22) none (sub [1, 0, 0] code22) (thenQ (fun fr' h' => N (Ann.find ann22 2001 fr') h') (ctxQ Tryd.prog ann22 (Dw ord22) none Kp [1, 0] code22 [] (q22 K))) Kp fr h) (mk22_1 x0 x6 x1 x7) h
theorem L22_1.rule {x0 : Option Addr} {x6:Int} {K:HP} {Kp:PK} (I : Int → Int → HP) (μ : Int → Int → Hp → Nat) {x1:Int} {x7:Int} {h:Hp} (h0 : I x1 x7 h)
 (step : ∀ (x1:Int) (x7:Int) (h:Hp), I x1 x7 h → ∀ N1 : Fr → HP, (∀ (x1':Int) (x7':Int) (h':Hp), I x1' x7' h' → μ x1' x7' h' < μ x1 x7 h → N1 (mk22_1 x0 x6 x1' x7') h') → T22_1 x0 x6 K Kp N1 x1 x7 h) : L22_1 x0 x6 K Kp x1 x7 h :=
 loop_rule (σ := Int × Int) (fun s => mk22_1 x0 x6 s.1 s.2) (fun N s h => T22_1 x0 x6 K Kp N s.1 s.2 h) (fun N s h => by kernel_rfl) (fun s h => I s.1 s.2 h) (fun s h => μ s.1 s.2 h) (s0 := ⟨x1, x7⟩) h0 (fun s h hI N hN => step s.1 s.2 h hI N (fun x1' x7' h' hI' hl => hN ⟨x1', x7'⟩ h' hI' hl))
def S22 (w : Option Addr) (n:Int) (width:Int) (h:Hp) (K:HP) (Kp:PK) : Prop :=
 L22_1 w width K Kp n (0:Int) h
theorem Fn22.of {w : Option Addr} {n:Int} {width:Int} {h:Hp} {K:HP} {Kp:PK} (H : S22 w n width h K Kp) : Fn22 w n width h K Kp :=
 fn_of2 (P := Tryd.prog) (ann := ann22) (D := DrawSem Tryd.prog ord22) (drawOk _) (c := code22) (zs := []) (args := [(.pointer w), (.int .i64 n), (.int .i64 width)]) (Kv := kv22 K) (Kp := Kp) (h := h) Tryd.func22 (by kernel_rfl) H (by kernel_rfl) (by kernel_rfl)
/- ### 23: schema -/
noncomputable def code23 : Code := Tryd.f23.body.getD .skip
def ann23 : Ann := [(2000007, [0, 3]), (2009, [0, 30, 31, 32]), (2003, [0, 3, 14, 15, 16])]
def ord23 : List (Nat × OT × List Nat) := []
def kv23 (K:HP) : Value → HP := fun _ h => K h
def q23 (K:HP) : Qt := retQ Tryd.prog Tryd.f23.results.toList [] (kv23 K)
abbrev mk23_2 (x0 : Option Addr) (x30:Sl) (x31:Int) (x32:Int) : Fr := ([some (.pointer x0), none, none, none, none, none, none, none, none, none, none, none, none, none, none, none, none, none, none, none, none, none, none, none, none, none, none, none, none, none, some (Sl.v x30), some (.int .i64 x31), some (.int .i64 x32)] ++ nn 12)
def T23_2 (x0 : Option Addr) (x30:Sl) (x31:Int) (K:HP) (Kp:PK) (N1 : Fr → HP) (x32:Int) (h:Hp) : Prop :=
 If (decide (x32 < x31)) (
 Ix x30.a x30.n 2 x32 fun a34 =>
 Ld h a34 (Value.string) fun t35_0 =>
 Ld h (a34.add 1) (Value.string) fun t35_1 =>
 New h #[(.string (bs [])), (.string (bs []))] 66 fun a7 h1 =>
 St h1 a7 (.string t35_0) fun h2 =>
 St h2 (a7.add 1) (.string t35_1) fun h3 =>
 Ld h3 a7 (Value.string) fun t38 =>
 Fn44 x0 t38 (2:Int) h3 (fun h4 =>
 Ld h4 (a7.add 1) (Value.string) fun t42 =>
 Fn44 x0 t42 (2:Int) h4 (fun h5 =>
 Wr .i64 (x32 + (1:Int)) fun t44 =>
 N1 (mk23_2 x0 x30 x31 t44) h5) Kp) Kp) (
 K  h)
def L23_2 (x0 : Option Addr) (x30:Sl) (x31:Int) (K:HP) (Kp:PK) (x32:Int) (h:Hp) : Prop :=
 LoopH (fun N fr h => sem Tryd.prog ann23 (Dw ord23) none (sub [1, 1, 1, 1, 1, 0, 0] code23) (thenQ (fun fr' h' => N (Ann.find ann23 2009 fr') h') (ctxQ Tryd.prog ann23 (Dw ord23) none Kp [1, 1, 1, 1, 1, 0] code23 [] (q23 K))) Kp fr h) (mk23_2 x0 x30 x31 x32) h
theorem L23_2.rule {x0 : Option Addr} {x30:Sl} {x31:Int} {K:HP} {Kp:PK} (I : Int → HP) (μ : Int → Hp → Nat) {x32:Int} {h:Hp} (h0 : I x32 h)
 (step : ∀ (x32:Int) (h:Hp), I x32 h → ∀ N1 : Fr → HP, (∀ (x32':Int) (h':Hp), I x32' h' → μ x32' h' < μ x32 h → N1 (mk23_2 x0 x30 x31 x32') h') → T23_2 x0 x30 x31 K Kp N1 x32 h) : L23_2 x0 x30 x31 K Kp x32 h :=
 loop_rule (σ := Int) (fun s => mk23_2 x0 x30 x31 s) (fun N s h => T23_2 x0 x30 x31 K Kp N s h) (fun N s h => by kernel_rfl) (fun s h => I s h) (fun s h => μ s h) (s0 := x32) h0 (fun s h hI N hN => step s h hI N (fun x32' h' hI' hl => hN x32' h' hI' hl))
def JT23_1 (x0 : Option Addr) (x3:Addr) (K:HP) (Kp:PK) (h:Hp) : Prop :=
 Ld h (x3.add 1) (Sl.v) fun t26 =>
 Fn22 x0 (t26.n:Int) (2:Int) h (fun h1 =>
 Ld h1 (x3.add 1) (Sl.v) fun t30 =>
 L23_2 x0 t30 (t30.n:Int) K Kp (0:Int) h1) Kp
def J23_1 (x0 : Option Addr) (x3:Addr) (K:HP) (Kp:PK) (h:Hp) : Prop :=
 Joint (sem Tryd.prog ann23 (Dw ord23) none (sub [1, 1, 1] code23) (ctxQ Tryd.prog ann23 (Dw ord23) none Kp [1, 1, 1] code23 [] (q23 K)) Kp (([some (.pointer x0), none, none, some (.pointer (some x3))] ++ nn 41)) h)
theorem J23_1.of {x0 : Option Addr} {x3:Addr} {K:HP} {Kp:PK} {h:Hp} (H : JT23_1 x0 x3 K Kp h) : J23_1 x0 x3 K Kp h :=
 Joint.mk (Eq.mp (by kernel_rfl) H)
abbrev mk23_3 (x0 : Option Addr) (x3:Addr) (x14:Sl) (x15:Int) (x16:Int) : Fr := ([some (.pointer x0), none, none, some (.pointer (some x3)), none, none, none, none, none, none, none, none, none, none, some (Sl.v x14), some (.int .i64 x15), some (.int .i64 x16)] ++ nn 28)
def T23_3 (x0 : Option Addr) (x3:Addr) (x14:Sl) (x15:Int) (K:HP) (Kp:PK) (N1 : Fr → HP) (x16:Int) (h:Hp) : Prop :=
 If (decide (x16 < x15)) (
 Ix x14.a x14.n 7 x16 fun a18 =>
 Ld h a18 (Value.string) fun t19_0 =>
 Ld h (a18.add 1) (Value.bool) fun t19_1 =>
 Ld h (a18.add 2) (Value.int .i64) fun t19_2 =>
 Ld h (a18.add 3) (Value.int .i64) fun t19_3 =>
 Ld h (a18.add 4) (Value.int .i64) fun t19_4 =>
 Ld h (a18.add 5) (Value.int .i64) fun t19_5 =>
 Ld h (a18.add 6) (Sl.v) fun t19_6 =>
 New h #[(.string (bs [])), (.bool false), (.int .i64 (0:Int)), (.int .i64 (0:Int)), (.int .i64 (0:Int)), (.int .i64 (0:Int)), (.slice none 0 0)] 63 fun a5 h1 =>
 St h1 a5 (.string t19_0) fun h2 =>
 St h2 (a5.add 1) (.bool t19_1) fun h3 =>
 St h3 (a5.add 2) (.int .i64 t19_2) fun h4 =>
 St h4 (a5.add 3) (.int .i64 t19_3) fun h5 =>
 St h5 (a5.add 4) (.int .i64 t19_4) fun h6 =>
 St h6 (a5.add 5) (.int .i64 t19_5) fun h7 =>
 St h7 (a5.add 6) (Sl.v t19_6) fun h8 =>
 Ld h8 a5 (Value.string) fun t21_0 =>
 Ld h8 (a5.add 1) (Value.bool) fun t21_1 =>
 Ld h8 (a5.add 2) (Value.int .i64) fun t21_2 =>
 Ld h8 (a5.add 3) (Value.int .i64) fun t21_3 =>
 Ld h8 (a5.add 4) (Value.int .i64) fun t21_4 =>
 Ld h8 (a5.add 5) (Value.int .i64) fun t21_5 =>
 Ld h8 (a5.add 6) (Sl.v) fun t21_6 =>
 Fn43 x0 t21_0 t21_1 t21_2 t21_3 t21_4 t21_5 t21_6 h8 (fun h9 =>
 Wr .i64 (x16 + (1:Int)) fun t23 =>
 N1 (mk23_3 x0 x3 x14 x15 t23) h9) Kp) (
 J23_1 x0 x3 K Kp h)
def L23_3 (x0 : Option Addr) (x3:Addr) (x14:Sl) (x15:Int) (K:HP) (Kp:PK) (x16:Int) (h:Hp) : Prop :=
 LoopH (fun N fr h => sem Tryd.prog ann23 (Dw ord23) none (sub [1, 1, 0, 1, 0, 0] code23) (thenQ (fun fr' h' => N (Ann.find ann23 2003 fr') h') (ctxQ Tryd.prog ann23 (Dw ord23) none Kp [1, 1, 0, 1, 0] code23 [] (q23 K))) Kp fr h) (mk23_3 x0 x3 x14 x15 x16) h
theorem L23_3.rule {x0 : Option Addr} {x3:Addr} {x14:Sl} {x15:Int} {K:HP} {Kp:PK} (I : Int → HP) (μ : Int → Hp → Nat) {x16:Int} {h:Hp} (h0 : I x16 h)
 (step : ∀ (x16:Int) (h:Hp), I x16 h → ∀ N1 : Fr → HP, (∀ (x16':Int) (h':Hp), I x16' h' → μ x16' h' < μ x16 h → N1 (mk23_3 x0 x3 x14 x15 x16') h') → T23_3 x0 x3 x14 x15 K Kp N1 x16 h) : L23_3 x0 x3 x14 x15 K Kp x16 h :=
 loop_rule (σ := Int) (fun s => mk23_3 x0 x3 x14 x15 s) (fun N s h => T23_3 x0 x3 x14 x15 K Kp N s h) (fun N s h => by kernel_rfl) (fun s h => I s h) (fun s h => μ s h) (s0 := x16) h0 (fun s h hI N hN => step s h hI N (fun x16' h' hI' hl => hN x16' h' hI' hl))
def S23 (w : Option Addr) (s_0:Sl) (s_1:Sl) (h:Hp) (K:HP) (Kp:PK) : Prop :=
 New h #[(Sl.v s_0), (Sl.v s_1)] 25 fun a3 h1 =>
 Ld h1 a3 (Sl.v) fun t10 =>
 Fn22 w (t10.n:Int) (2:Int) h1 (fun h2 =>
 Ld h2 a3 (Sl.v) fun t14 =>
 L23_3 w a3 t14 (t14.n:Int) K Kp (0:Int) h2) Kp
theorem Fn23.of {w : Option Addr} {s_0:Sl} {s_1:Sl} {h:Hp} {K:HP} {Kp:PK} (H : S23 w s_0 s_1 h K Kp) : Fn23 w s_0 s_1 h K Kp :=
 fn_of2 (P := Tryd.prog) (ann := ann23) (D := DrawSem Tryd.prog ord23) (drawOk _) (c := code23) (zs := []) (args := [(.pointer w), (.agg #[(Sl.v s_0), (Sl.v s_1)])]) (Kv := kv23 K) (Kp := Kp) (h := h) Tryd.func23 (by kernel_rfl) H (by kernel_rfl) (by kernel_rfl)
/- ### 24: flag -/
noncomputable def code24 : Code := Tryd.f24.body.getD .skip
def ann24 : Ann := []
def ord24 : List (Nat × OT × List Nat) := []
def kv24 (K:HP) : Value → HP := fun _ h => K h
def S24 (w : Option Addr) (isv:Bool) (h:Hp) (K:HP) (Kp:PK) : Prop :=
 If isv (
 Fn22 w (1:Int) (1:Int) h (fun h1 =>
 K  h1) Kp) (
 Fn22 w (0:Int) (1:Int) h (fun h1 =>
 K  h1) Kp)
theorem Fn24.of {w : Option Addr} {isv:Bool} {h:Hp} {K:HP} {Kp:PK} (H : S24 w isv h K Kp) : Fn24 w isv h K Kp :=
 fn_of2 (P := Tryd.prog) (ann := ann24) (D := DrawSem Tryd.prog ord24) (drawOk _) (c := code24) (zs := []) (args := [(.pointer w), (.bool isv)]) (Kv := kv24 K) (Kp := Kp) (h := h) Tryd.func24 (by kernel_rfl) H (by kernel_rfl) (by kernel_rfl)
/- ### 25: number -/
noncomputable def code25 : Code := Tryd.f25.body.getD .skip
def ann25 : Ann := [(2002, [0, 1, 2, 7])]
def ord25 : List (Nat × OT × List Nat) := []
def kv25 (K : Sl → HP) : Value → HP := fun v h => match v with | .slice r0a r0n r0c => (let r0 : Sl := ⟨r0a, r0n, r0c⟩; K r0 h) | _ => False
def q25 (K : Sl → HP) : Qt := retQ Tryd.prog Tryd.f25.results.toList [(.slice none 0 0)] (kv25 K)
abbrev mk25_1 (x2:Int) (x0:Sl) (x1:Int) (x7:Int) : Fr := ([some (Sl.v x0), some (.int .i64 x1), some (.int .i64 x2), none, none, none, none, some (.int .i64 x7)] ++ nn 14)
def T25_1 (x2:Int) (K : Sl → HP) (Kp:PK) (N1 : Fr → HP) (x0:Sl) (x1:Int) (x7:Int) (h:Hp) : Prop :=
 If (decide (x7 < x2)) (
 Dv (256:Int) <| Lt (Int.tmod x1 (256:Int)) fun t15 =>
 Wr .u8 t15 fun t16 =>
 New h #[(.int .u8 t16)] 5 fun a17 h1 =>
 Ap h1 5 #[(.int .u8 (0:Int))] 1 1 x0 1 (rd h1 (some a17) (1 * 1)) fun t18 h2 =>
 Dv (256:Int) <| Wr .i64 (Int.tdiv x1 (256:Int)) fun t20 =>
 Wr .i64 (x7 + (1:Int)) fun t12 =>
 N1 (mk25_1 x2 t18 t20 t12) h2) (
 K x0 h)
def L25_1 (x2:Int) (K : Sl → HP) (Kp:PK) (x0:Sl) (x1:Int) (x7:Int) (h:Hp) : Prop :=
 LoopH (fun N fr h => sem Tryd.prog ann25 (Dw ord25) none (sub [1, 0, 1, 0, 0] code25) (thenQ (fun fr' h' => N (Ann.find ann25 2002 fr') h') (ctxQ Tryd.prog ann25 (Dw ord25) none Kp [1, 0, 1, 0] code25 [] (q25 K))) Kp fr h) (mk25_1 x2 x0 x1 x7) h
theorem L25_1.rule {x2:Int} {K : Sl → HP} {Kp:PK} (I : Sl → Int → Int → HP) (μ : Sl → Int → Int → Hp → Nat) {x0:Sl} {x1:Int} {x7:Int} {h:Hp} (h0 : I x0 x1 x7 h)
 (step : ∀ (x0:Sl) (x1:Int) (x7:Int) (h:Hp), I x0 x1 x7 h → ∀ N1 : Fr → HP, (∀ (x0':Sl) (x1':Int) (x7':Int) (h':Hp), I x0' x1' x7' h' → μ x0' x1' x7' h' < μ x0 x1 x7 h → N1 (mk25_1 x2 x0' x1' x7') h') → T25_1 x2 K Kp N1 x0 x1 x7 h) : L25_1 x2 K Kp x0 x1 x7 h :=
 loop_rule (σ := Sl × Int × Int) (fun s => mk25_1 x2 s.1 s.2.1 s.2.2) (fun N s h => T25_1 x2 K Kp N s.1 s.2.1 s.2.2 h) (fun N s h => by kernel_rfl) (fun s h => I s.1 s.2.1 s.2.2 h) (fun s h => μ s.1 s.2.1 s.2.2 h) (s0 := ⟨x0, x1, x7⟩) h0 (fun s h hI N hN => step s.1 s.2.1 s.2.2 h hI N (fun x0' x1' x7' h' hI' hl => hN ⟨x0', x1', x7'⟩ h' hI' hl))
def S25 (b:Sl) (x:Int) (width:Int) (h:Hp) (K : Sl → HP) (Kp:PK) : Prop :=
 L25_1 width K Kp b x (0:Int) h
theorem Fn25.of {b:Sl} {x:Int} {width:Int} {h:Hp} {K : Sl → HP} {Kp:PK} (H : S25 b x width h K Kp) : Fn25 b x width h K Kp :=
 fn_of2 (P := Tryd.prog) (ann := ann25) (D := DrawSem Tryd.prog ord25) (drawOk _) (c := code25) (zs := [(.slice none 0 0)]) (args := [(Sl.v b), (.int .i64 x), (.int .i64 width)]) (Kv := kv25 K) (Kp := Kp) (h := h) Tryd.func25 (by kernel_rfl) H (by kernel_rfl) (by kernel_rfl)
/- ### 26: field -/
noncomputable def code26 : Code := Tryd.f26.body.getD .skip
def ann26 : Ann := [(2000015, [0, 5]), (2016, [0, 5, 6]), (3800009, [0, 5, 22, 23])]
def ord26 : List (Nat × OT × List Nat) := []
def kv26 (K : Sl → HP) : Value → HP := fun v h => match v with | .slice r0a r0n r0c => (let r0 : Sl := ⟨r0a, r0n, r0c⟩; K r0 h) | _ => False
def q26 (K : Sl → HP) : Qt := retQ Tryd.prog Tryd.f26.results.toList [(.slice none 0 0)] (kv26 K)
abbrev mk26_2 (x5:Addr) (x0:Sl) (x6:Int) : Fr := ([some (Sl.v x0), none, none, none, none, some (.pointer (some x5)), some (.int .i64 x6)] ++ nn 56)
def T26_2 (x5:Addr) (K : Sl → HP) (Kp:PK) (N1 : Fr → HP) (x0:Sl) (x6:Int) (h:Hp) : Prop :=
 Ld h (x5.add 4) (Sl.v) fun t50 =>
 If (decide (x6 < (t50.n:Int))) (
 Ld h (x5.add 4) (Sl.v) fun t57 =>
 Ix t57.a t57.n 7 x6 fun a59 =>
 Ld h a59 (Value.string) fun t60_0 =>
 Ld h (a59.add 1) (Value.bool) fun t60_1 =>
 Ld h (a59.add 2) (Value.int .i64) fun t60_2 =>
 Ld h (a59.add 3) (Value.int .i64) fun t60_3 =>
 Ld h (a59.add 4) (Value.int .i64) fun t60_4 =>
 Ld h (a59.add 5) (Value.int .i64) fun t60_5 =>
 Ld h (a59.add 6) (Sl.v) fun t60_6 =>
 Fn26 x0 t60_0 t60_1 t60_2 t60_3 t60_4 t60_5 t60_6 h (fun t61 h1 =>
 Wr .i64 (x6 + (1:Int)) fun t54 =>
 N1 (mk26_2 x5 t61 t54) h1) Kp) (
 K x0 h)
def L26_2 (x5:Addr) (K : Sl → HP) (Kp:PK) (x0:Sl) (x6:Int) (h:Hp) : Prop :=
 LoopH (fun N fr h => sem Tryd.prog ann26 (Dw ord26) none (sub [1, 1, 1, 1, 1, 1, 0, 1, 0, 0] code26) (thenQ (fun fr' h' => N (Ann.find ann26 2016 fr') h') (ctxQ Tryd.prog ann26 (Dw ord26) none Kp [1, 1, 1, 1, 1, 1, 0, 1, 0] code26 [] (q26 K))) Kp fr h) (mk26_2 x5 x0 x6) h
theorem L26_2.rule {x5:Addr} {K : Sl → HP} {Kp:PK} (I : Sl → Int → HP) (μ : Sl → Int → Hp → Nat) {x0:Sl} {x6:Int} {h:Hp} (h0 : I x0 x6 h)
 (step : ∀ (x0:Sl) (x6:Int) (h:Hp), I x0 x6 h → ∀ N1 : Fr → HP, (∀ (x0':Sl) (x6':Int) (h':Hp), I x0' x6' h' → μ x0' x6' h' < μ x0 x6 h → N1 (mk26_2 x5 x0' x6') h') → T26_2 x5 K Kp N1 x0 x6 h) : L26_2 x5 K Kp x0 x6 h :=
 loop_rule (σ := Sl × Int) (fun s => mk26_2 x5 s.1 s.2) (fun N s h => T26_2 x5 K Kp N s.1 s.2 h) (fun N s h => by kernel_rfl) (fun s h => I s.1 s.2 h) (fun s h => μ s.1 s.2 h) (s0 := ⟨x0, x6⟩) h0 (fun s h hI N hN => step s.1 s.2 h hI N (fun x0' x6' h' hI' hl => hN ⟨x0', x6'⟩ h' hI' hl))
def JT26_1 (x0:Sl) (x5:Addr) (K : Sl → HP) (Kp:PK) (h:Hp) : Prop :=
 L26_2 x5 K Kp x0 (0:Int) h
def J26_1 (x0:Sl) (x5:Addr) (K : Sl → HP) (Kp:PK) (h:Hp) : Prop :=
 Joint (sem Tryd.prog ann26 (Dw ord26) none (sub [1, 1, 1, 1, 1, 1] code26) (ctxQ Tryd.prog ann26 (Dw ord26) none Kp [1, 1, 1, 1, 1, 1] code26 [] (q26 K)) Kp (([some (Sl.v x0), none, none, none, none, some (.pointer (some x5))] ++ nn 57)) h)
theorem J26_1.of {x0:Sl} {x5:Addr} {K : Sl → HP} {Kp:PK} {h:Hp} (H : JT26_1 x0 x5 K Kp h) : J26_1 x0 x5 K Kp h :=
 Joint.mk (Eq.mp (by kernel_rfl) H)
def JT26_3 (x0:Sl) (x5:Addr) (x22:Int) (x23:Bool) (K : Sl → HP) (Kp:PK) (h:Hp) : Prop :=
 If x23 (
 Ld h (x5.add 1) (Value.int .i64) fun t28 =>
 Fn25 x0 t28 (2:Int) h (fun t29 h1 =>
 J26_1 t29 x5 K Kp h1) Kp) (
 If (x22 == (19:Int)) (
 Ld h (x5.add 2) (Value.int .i64) fun t34 =>
 Fn25 x0 t34 (2:Int) h (fun t35 h1 =>
 Ld h1 (x5.add 3) (Value.int .i64) fun t38 =>
 Fn25 t35 t38 (1:Int) h1 (fun t39 h2 =>
 J26_1 t39 x5 K Kp h2) Kp) Kp) (
 If (x22 == (17:Int)) (
 If (x22 == (17:Int)) (
 Ld h (x5.add 4) (Sl.v) fun t45 =>
 Fn25 x0 (t45.n:Int) (1:Int) h (fun t47 h1 =>
 J26_1 t47 x5 K Kp h1) Kp) (
 J26_1 x0 x5 K Kp h)) (
 If (x22 == (18:Int)) (
 Ld h (x5.add 4) (Sl.v) fun t45 =>
 Fn25 x0 (t45.n:Int) (1:Int) h (fun t47 h1 =>
 J26_1 t47 x5 K Kp h1) Kp) (
 J26_1 x0 x5 K Kp h))))
def J26_3 (x0:Sl) (x5:Addr) (x22:Int) (x23:Bool) (K : Sl → HP) (Kp:PK) (h:Hp) : Prop :=
 Joint (sem Tryd.prog ann26 (Dw ord26) none (sub [1, 1, 1, 1, 1, 0, 1, 0, 1] code26) (ctxQ Tryd.prog ann26 (Dw ord26) none Kp [1, 1, 1, 1, 1, 0, 1, 0, 1] code26 [] (q26 K)) Kp (([some (Sl.v x0), none, none, none, none, some (.pointer (some x5)), none, none, none, none, none, none, none, none, none, none, none, none, none, none, none, none, some (.int .i64 x22), some (.bool x23)] ++ nn 39)) h)
theorem J26_3.of {x0:Sl} {x5:Addr} {x22:Int} {x23:Bool} {K : Sl → HP} {Kp:PK} {h:Hp} (H : JT26_3 x0 x5 x22 x23 K Kp h) : J26_3 x0 x5 x22 x23 K Kp h :=
 Joint.mk (Eq.mp (by kernel_rfl) H)
def S26 (b:Sl) (f_0 : ByteArray) (f_1:Bool) (f_2:Int) (f_3:Int) (f_4:Int) (f_5:Int) (f_6:Sl) (h:Hp) (K : Sl → HP) (Kp:PK) : Prop :=
 New h #[(.string f_0), (.bool f_1), (.int .i64 f_2), (.int .i64 f_3), (.int .i64 f_4), (.int .i64 f_5), (Sl.v f_6)] 63 fun a3 h1 =>
 Ld h1 a3 (Value.string) fun t9 =>
 Fn27 b t9 (1:Int) h1 (fun t10 h2 =>
 Ld h2 (a3.add 1) (Value.bool) fun t13 =>
 Fn28 t10 t13 h2 (fun t14 h3 =>
 Ld h3 (a3.add 2) (Value.int .i64) fun t16_0 =>
 Ld h3 ((a3.add 2).add 1) (Value.int .i64) fun t16_1 =>
 Ld h3 ((a3.add 2).add 2) (Value.int .i64) fun t16_2 =>
 Ld h3 ((a3.add 2).add 3) (Value.int .i64) fun t16_3 =>
 Ld h3 ((a3.add 2).add 4) (Sl.v) fun t16_4 =>
 New h3 #[(.int .i64 (0:Int)), (.int .i64 (0:Int)), (.int .i64 (0:Int)), (.int .i64 (0:Int)), (.slice none 0 0)] 61 fun a5 h4 =>
 St h4 a5 (.int .i64 t16_0) fun h5 =>
 St h5 (a5.add 1) (.int .i64 t16_1) fun h6 =>
 St h6 (a5.add 2) (.int .i64 t16_2) fun h7 =>
 St h7 (a5.add 3) (.int .i64 t16_3) fun h8 =>
 St h8 (a5.add 4) (Sl.v t16_4) fun h9 =>
 Ld h9 a5 (Value.int .i64) fun t19 =>
 Fn25 t14 t19 (1:Int) h9 (fun t20 h10 =>
 Ld h10 a5 (Value.int .i64) fun t22 =>
 If (t22 == (14:Int)) (
 J26_3 t20 a5 t22 (t22 == (14:Int)) K Kp h10) (
 J26_3 t20 a5 t22 (t22 == (16:Int)) K Kp h10)) Kp) Kp) Kp
theorem Fn26.of {b:Sl} {f_0 : ByteArray} {f_1:Bool} {f_2:Int} {f_3:Int} {f_4:Int} {f_5:Int} {f_6:Sl} {h:Hp} {K : Sl → HP} {Kp:PK} (H : S26 b f_0 f_1 f_2 f_3 f_4 f_5 f_6 h K Kp) : Fn26 b f_0 f_1 f_2 f_3 f_4 f_5 f_6 h K Kp :=
 fn_of2 (P := Tryd.prog) (ann := ann26) (D := DrawSem Tryd.prog ord26) (drawOk _) (c := code26) (zs := [(.slice none 0 0)]) (args := [(Sl.v b), (.agg #[(.string f_0), (.bool f_1), (.int .i64 f_2), (.int .i64 f_3), (.int .i64 f_4), (.int .i64 f_5), (Sl.v f_6)])]) (Kv := kv26 K) (Kp := Kp) (h := h) Tryd.func26 (by kernel_rfl) H (by kernel_rfl) (by kernel_rfl)
/- ### 27: text -/
noncomputable def code27 : Code := Tryd.f27.body.getD .skip
def ann27 : Ann := []
def ord27 : List (Nat × OT × List Nat) := []
def kv27 (K : Sl → HP) : Value → HP := fun v h => match v with | .slice r0a r0n r0c => (let r0 : Sl := ⟨r0a, r0n, r0c⟩; K r0 h) | _ => False
def S27 (b:Sl) (s : ByteArray) (width:Int) (h:Hp) (K : Sl → HP) (Kp:PK) : Prop :=
 Fn25 b (s.size:Int) width h (fun t11 h1 =>
 Ap h1 5 #[(.int .u8 (0:Int))] 1 1 t11 s.size (fun vs => vs = s.data.toList.map fun b => Value.int .u8 b.toNat) fun t14 h2 =>
 K t14 h2) Kp
theorem Fn27.of {b:Sl} {s : ByteArray} {width:Int} {h:Hp} {K : Sl → HP} {Kp:PK} (H : S27 b s width h K Kp) : Fn27 b s width h K Kp :=
 fn_of2 (P := Tryd.prog) (ann := ann27) (D := DrawSem Tryd.prog ord27) (drawOk _) (c := code27) (zs := [(.slice none 0 0)]) (args := [(Sl.v b), (.string s), (.int .i64 width)]) (Kv := kv27 K) (Kp := Kp) (h := h) Tryd.func27 (by kernel_rfl) H (by kernel_rfl) (by kernel_rfl)
/- ### 28: flag -/
noncomputable def code28 : Code := Tryd.f28.body.getD .skip
def ann28 : Ann := []
def ord28 : List (Nat × OT × List Nat) := []
def kv28 (K : Sl → HP) : Value → HP := fun v h => match v with | .slice r0a r0n r0c => (let r0 : Sl := ⟨r0a, r0n, r0c⟩; K r0 h) | _ => False
def S28 (b:Sl) (yes:Bool) (h:Hp) (K : Sl → HP) (Kp:PK) : Prop :=
 If yes (
 New h #[(.int .u8 (1:Int))] 5 fun a7 h1 =>
 Ap h1 5 #[(.int .u8 (0:Int))] 1 1 b 1 (rd h1 (some a7) (1 * 1)) fun t8 h2 =>
 K t8 h2) (
 New h #[(.int .u8 (0:Int))] 5 fun a10 h1 =>
 Ap h1 5 #[(.int .u8 (0:Int))] 1 1 b 1 (rd h1 (some a10) (1 * 1)) fun t11 h2 =>
 K t11 h2)
theorem Fn28.of {b:Sl} {yes:Bool} {h:Hp} {K : Sl → HP} {Kp:PK} (H : S28 b yes h K Kp) : Fn28 b yes h K Kp :=
 fn_of2 (P := Tryd.prog) (ann := ann28) (D := DrawSem Tryd.prog ord28) (drawOk _) (c := code28) (zs := [(.slice none 0 0)]) (args := [(Sl.v b), (.bool yes)]) (Kv := kv28 K) (Kp := Kp) (h := h) Tryd.func28 (by kernel_rfl) H (by kernel_rfl) (by kernel_rfl)
end Go.Proofs.YtfomkkdijjfpiaaDoor
