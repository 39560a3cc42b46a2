/- What the functions do, printed by program (gen.py) in the words of ShCore; each text is held against the loaded program by the kernel. -/
import Derived.Test.YtfomkkdijjfpiaaDoorKeepsF
set_option linter.unusedSimpArgs false
set_option linter.unusedVariables false
set_option maxRecDepth 100000
namespace Go.Proofs.YtfomkkdijjfpiaaDoor
open Go Go.Sh
/- ### 69: fits -/
noncomputable def code69 : Code := Tryd.f69.body.getD .skip
def ann69 : Ann := [(2000019, [1, 3, 4, 5, 6]), (2000022, [1, 3, 4, 6, 7]), (2000023, [1, 3, 4, 6, 7, 8]), (2000025, [1, 3, 4, 7, 8]), (65004, [1, 3, 4, 74]), (65011, [1, 4, 81]), (64008, [1, 3, 4, 7, 58]), (64013, [1, 3, 4, 7, 63])]
def ord69 : List (Nat × OT × List Nat) := []
def kv69 (K : Bool → HP) : Value → HP := fun v h => match v with | .bool r0 => (K r0 h) | _ => False
def q69 (K : Bool → HP) : Qt := retQ Tryd.prog Tryd.f69.results.toList [(.bool false)] (kv69 K)
def JT69_6 (x1:Addr) (x4:Int) (x81:Bool) (K : Bool → HP) (Kp:PK) (h:Hp) : Prop :=
 If x81 (
 Ld h (x1.add 4) (Sl.v) fun t84 =>
 K (decide ((t84.n:Int) ≤ x4)) h) (
 K false h)
def J69_6 (x1:Addr) (x4:Int) (x81:Bool) (K : Bool → HP) (Kp:PK) (h:Hp) : Prop :=
 Joint (semOps Tryd.prog (Ann.reg 25 ann69) (regOps (sub [1, 1, 1, 1, 1, 1, 1, 1, 1, 0] code69)) [11, 12, 13, 14, 15, 16, 17, 18] (ctxQ Tryd.prog ann69 (Dw ord69) none Kp [1, 1, 1, 1, 1, 1, 1, 1, 1, 0] code69 [] (q69 K) .normal) Kp (([none, some (.pointer (some x1)), none, none, some (.int .i64 x4), none, none, none, none, none, none, none, none, none, none, none, none, none, none, none, none, none, none, none, none, none, none, none, none, none, none, none, none, none, none, none, none, none, none, none, none, none, none, none, none, none, none, none, none, none, none, none, none, none, none, none, none, none, none, none, none, none, none, none, none, none, none, none, none, none, none, none, none, none, none, none, none, none, none, none, none, some (.bool x81)] ++ nn 7)) h)
theorem J69_6.of {x1:Addr} {x4:Int} {x81:Bool} {K : Bool → HP} {Kp:PK} {h:Hp} (H : JT69_6 x1 x4 x81 K Kp h) : J69_6 x1 x4 x81 K Kp h :=
 Joint.mk (Eq.mp (by kernel_rfl) H)
def JT69_5 (x1:Addr) (x3:Int) (x4:Int) (x74:Bool) (K : Bool → HP) (Kp:PK) (h:Hp) : Prop :=
 If x74 (
 Ld h (x1.add 4) (Sl.v) fun t77 =>
 J69_6 x1 x4 (decide ((t77.n:Int) ≥ x3)) K Kp h) (
 J69_6 x1 x4 false K Kp h)
def J69_5 (x1:Addr) (x3:Int) (x4:Int) (x74:Bool) (K : Bool → HP) (Kp:PK) (h:Hp) : Prop :=
 Joint (semOps Tryd.prog (Ann.reg 25 ann69) (regOps (sub [1, 1, 1, 1, 1, 1, 1, 1, 1, 0] code69)) [4, 5, 6, 7, 8, 9, 10, 11, 12, 13, 14, 15, 16, 17, 18] (ctxQ Tryd.prog ann69 (Dw ord69) none Kp [1, 1, 1, 1, 1, 1, 1, 1, 1, 0] code69 [] (q69 K) .normal) Kp (([none, some (.pointer (some x1)), none, some (.int .i64 x3), some (.int .i64 x4), none, none, none, none, none, none, none, none, none, none, none, none, none, none, none, none, none, none, none, none, none, none, none, none, none, none, none, none, none, none, none, none, none, none, none, none, none, none, none, none, none, none, none, none, none, none, none, none, none, none, none, none, none, none, none, none, none, none, none, none, none, none, none, none, none, none, none, none, none, some (.bool x74)] ++ nn 14)) h)
theorem J69_5.of {x1:Addr} {x3:Int} {x4:Int} {x74:Bool} {K : Bool → HP} {Kp:PK} {h:Hp} (H : JT69_5 x1 x3 x4 x74 K Kp h) : J69_5 x1 x3 x4 x74 K Kp h :=
 Joint.mk (Eq.mp (by kernel_rfl) H)
def JT69_4 (x1:Addr) (x3:Int) (x4:Int) (x7:Bool) (x8:Bool) (K : Bool → HP) (Kp:PK) (h:Hp) : Prop :=
 If x7 (
 J69_5 x1 x3 x4 x8 K Kp h) (
 J69_5 x1 x3 x4 false K Kp h)
def J69_4 (x1:Addr) (x3:Int) (x4:Int) (x7:Bool) (x8:Bool) (K : Bool → HP) (Kp:PK) (h:Hp) : Prop :=
 Joint (sem Tryd.prog ann69 (Dw ord69) none (sub [1, 1, 1, 1, 1, 1, 1, 1, 1] code69) (ctxQ Tryd.prog ann69 (Dw ord69) none Kp [1, 1, 1, 1, 1, 1, 1, 1, 1] code69 [] (q69 K)) Kp (([none, some (.pointer (some x1)), none, some (.int .i64 x3), some (.int .i64 x4), none, none, some (.bool x7), some (.bool x8)] ++ nn 80)) h)
theorem J69_4.of {x1:Addr} {x3:Int} {x4:Int} {x7:Bool} {x8:Bool} {K : Bool → HP} {Kp:PK} {h:Hp} (H : JT69_4 x1 x3 x4 x7 x8 K Kp h) : J69_4 x1 x3 x4 x7 x8 K Kp h :=
 Joint.mk (Eq.mp (by kernel_rfl) H)
def JT69_8 (x1:Addr) (x3:Int) (x4:Int) (x7:Bool) (x63:Bool) (K : Bool → HP) (Kp:PK) (h:Hp) : Prop :=
 If x63 (
 Ld h (x1.add 3) (Value.int .i64) fun t66 =>
 Ix (some (⟨0, 0, none⟩)) 21 4 t66 fun a67 =>
 Ld h (a67.add 3) (Value.bool) fun t69 =>
 J69_4 x1 x3 x4 x7 t69 K Kp h) (
 J69_4 x1 x3 x4 x7 false K Kp h)
def J69_8 (x1:Addr) (x3:Int) (x4:Int) (x7:Bool) (x63:Bool) (K : Bool → HP) (Kp:PK) (h:Hp) : Prop :=
 Joint (semOps Tryd.prog (Ann.reg 24 ann69) (regOps (sub [1, 1, 1, 1, 1, 1, 1, 1, 0, 1, 0] code69)) [13, 14, 15, 16, 17, 18, 19, 20] (ctxQ Tryd.prog ann69 (Dw ord69) none Kp [1, 1, 1, 1, 1, 1, 1, 1, 0, 1, 0] code69 [] (q69 K) .normal) Kp (([none, some (.pointer (some x1)), none, some (.int .i64 x3), some (.int .i64 x4), none, none, some (.bool x7), none, none, none, none, none, none, none, none, none, none, none, none, none, none, none, none, none, none, none, none, none, none, none, none, none, none, none, none, none, none, none, none, none, none, none, none, none, none, none, none, none, none, none, none, none, none, none, none, none, none, none, none, none, none, none, some (.bool x63)] ++ nn 25)) h)
theorem J69_8.of {x1:Addr} {x3:Int} {x4:Int} {x7:Bool} {x63:Bool} {K : Bool → HP} {Kp:PK} {h:Hp} (H : JT69_8 x1 x3 x4 x7 x63 K Kp h) : J69_8 x1 x3 x4 x7 x63 K Kp h :=
 Joint.mk (Eq.mp (by kernel_rfl) H)
def JT69_7 (x1:Addr) (x3:Int) (x4:Int) (x7:Bool) (x58:Bool) (K : Bool → HP) (Kp:PK) (h:Hp) : Prop :=
 If x58 (
 Ld h (x1.add 3) (Value.int .i64) fun t61 =>
 Fn73 t61 h (fun t62 h1 =>
 J69_8 x1 x3 x4 x7 t62 K Kp h1) Kp) (
 J69_8 x1 x3 x4 x7 false K Kp h)
def J69_7 (x1:Addr) (x3:Int) (x4:Int) (x7:Bool) (x58:Bool) (K : Bool → HP) (Kp:PK) (h:Hp) : Prop :=
 Joint (semOps Tryd.prog (Ann.reg 24 ann69) (regOps (sub [1, 1, 1, 1, 1, 1, 1, 1, 0, 1, 0] code69)) [8, 9, 10, 11, 12, 13, 14, 15, 16, 17, 18, 19, 20] (ctxQ Tryd.prog ann69 (Dw ord69) none Kp [1, 1, 1, 1, 1, 1, 1, 1, 0, 1, 0] code69 [] (q69 K) .normal) Kp (([none, some (.pointer (some x1)), none, some (.int .i64 x3), some (.int .i64 x4), none, none, some (.bool x7), none, none, none, none, none, none, none, none, none, none, none, none, none, none, none, none, none, none, none, none, none, none, none, none, none, none, none, none, none, none, none, none, none, none, none, none, none, none, none, none, none, none, none, none, none, none, none, none, none, none, some (.bool x58)] ++ nn 30)) h)
theorem J69_7.of {x1:Addr} {x3:Int} {x4:Int} {x7:Bool} {x58:Bool} {K : Bool → HP} {Kp:PK} {h:Hp} (H : JT69_7 x1 x3 x4 x7 x58 K Kp h) : J69_7 x1 x3 x4 x7 x58 K Kp h :=
 Joint.mk (Eq.mp (by kernel_rfl) H)
def JT69_3 (x1:Addr) (x3:Int) (x4:Int) (x6:Bool) (x7:Bool) (x8:Bool) (K : Bool → HP) (Kp:PK) (h:Hp) : Prop :=
 If x6 (
 Ld h (x1.add 2) (Value.int .i64) fun t52 =>
 If (decide (t52 ≥ (0:Int))) (
 Ld h (x1.add 2) (Value.int .i64) fun t56 =>
 J69_7 x1 x3 x4 x7 (decide (t56 < (32:Int))) K Kp h) (
 J69_7 x1 x3 x4 x7 false K Kp h)) (
 J69_4 x1 x3 x4 x7 x8 K Kp h)
def J69_3 (x1:Addr) (x3:Int) (x4:Int) (x6:Bool) (x7:Bool) (x8:Bool) (K : Bool → HP) (Kp:PK) (h:Hp) : Prop :=
 Joint (sem Tryd.prog ann69 (Dw ord69) none (sub [1, 1, 1, 1, 1, 1, 1, 1] code69) (ctxQ Tryd.prog ann69 (Dw ord69) none Kp [1, 1, 1, 1, 1, 1, 1, 1] code69 [] (q69 K)) Kp (([none, some (.pointer (some x1)), none, some (.int .i64 x3), some (.int .i64 x4), none, some (.bool x6), some (.bool x7), some (.bool x8)] ++ nn 80)) h)
theorem J69_3.of {x1:Addr} {x3:Int} {x4:Int} {x6:Bool} {x7:Bool} {x8:Bool} {K : Bool → HP} {Kp:PK} {h:Hp} (H : JT69_3 x1 x3 x4 x6 x7 x8 K Kp h) : J69_3 x1 x3 x4 x6 x7 x8 K Kp h :=
 Joint.mk (Eq.mp (by kernel_rfl) H)
def JT69_2 (x1:Addr) (x3:Int) (x4:Int) (x6:Bool) (x7:Bool) (K : Bool → HP) (Kp:PK) (h:Hp) : Prop :=
 Ld h (x1.add 2) (Value.int .i64) fun t43 =>
 If (t43 == (0:Int)) (
 Ld h (x1.add 3) (Value.int .i64) fun t47 =>
 J69_3 x1 x3 x4 x6 x7 (t47 == (0:Int)) K Kp h) (
 J69_3 x1 x3 x4 x6 x7 false K Kp h)
def J69_2 (x1:Addr) (x3:Int) (x4:Int) (x6:Bool) (x7:Bool) (K : Bool → HP) (Kp:PK) (h:Hp) : Prop :=
 Joint (sem Tryd.prog ann69 (Dw ord69) none (sub [1, 1, 1, 1, 1, 1, 1] code69) (ctxQ Tryd.prog ann69 (Dw ord69) none Kp [1, 1, 1, 1, 1, 1, 1] code69 [] (q69 K)) Kp (([none, some (.pointer (some x1)), none, some (.int .i64 x3), some (.int .i64 x4), none, some (.bool x6), some (.bool x7)] ++ nn 81)) h)
theorem J69_2.of {x1:Addr} {x3:Int} {x4:Int} {x6:Bool} {x7:Bool} {K : Bool → HP} {Kp:PK} {h:Hp} (H : JT69_2 x1 x3 x4 x6 x7 K Kp h) : J69_2 x1 x3 x4 x6 x7 K Kp h :=
 Joint.mk (Eq.mp (by kernel_rfl) H)
def JT69_1 (x1:Addr) (x3:Int) (x4:Int) (x5:Int) (x6:Bool) (K : Bool → HP) (Kp:PK) (h:Hp) : Prop :=
 Ld h (x1.add 1) (Value.int .i64) fun t29 =>
 If (decide (x5 > (0:Int))) (
 Ld h (x1.add 1) (Value.int .i64) fun t34 =>
 If (decide (t34 ≥ (1:Int))) (
 Ld h (x1.add 1) (Value.int .i64) fun t38 =>
 J69_2 x1 x3 x4 x6 (decide (t38 ≤ x5)) K Kp h) (
 J69_2 x1 x3 x4 x6 false K Kp h)) (
 J69_2 x1 x3 x4 x6 (t29 == (0:Int)) K Kp h)
def J69_1 (x1:Addr) (x3:Int) (x4:Int) (x5:Int) (x6:Bool) (K : Bool → HP) (Kp:PK) (h:Hp) : Prop :=
 Joint (sem Tryd.prog ann69 (Dw ord69) none (sub [1, 1, 1, 1, 1] code69) (ctxQ Tryd.prog ann69 (Dw ord69) none Kp [1, 1, 1, 1, 1] code69 [] (q69 K)) Kp (([none, some (.pointer (some x1)), none, some (.int .i64 x3), some (.int .i64 x4), some (.int .i64 x5), some (.bool x6)] ++ nn 82)) h)
theorem J69_1.of {x1:Addr} {x3:Int} {x4:Int} {x5:Int} {x6:Bool} {K : Bool → HP} {Kp:PK} {h:Hp} (H : JT69_1 x1 x3 x4 x5 x6 K Kp h) : J69_1 x1 x3 x4 x5 x6 K Kp h :=
 Joint.mk (Eq.mp (by kernel_rfl) H)
def S69 (t_0:Int) (t_1:Int) (t_2:Int) (t_3:Int) (t_4:Sl) (h:Hp) (K : Bool → HP) (Kp:PK) : Prop :=
 New h #[(.int .i64 t_0), (.int .i64 t_1), (.int .i64 t_2), (.int .i64 t_3), (Sl.v t_4)] 61 fun a1 h1 =>
 Ld h1 a1 (Value.int .i64) fun t10 =>
 Fn73 t10 h1 (fun t11 h2 =>
 If (!t11) (
 K false h2) (
 Ld h2 a1 (Value.int .i64) fun t14 =>
 If (t14 == (14:Int)) (
 J69_1 a1 (0:Int) (0:Int) (16:Int) false K Kp h2) (
 If (t14 == (15:Int)) (
 If (t14 == (15:Int)) (
 J69_1 a1 (1:Int) (1:Int) (0:Int) false K Kp h2) (
 If (t14 == (16:Int)) (
 J69_1 a1 (1:Int) (1:Int) (64:Int) false K Kp h2) (
 If (t14 == (17:Int)) (
 J69_1 a1 (0:Int) (32:Int) (0:Int) false K Kp h2) (
 If (t14 == (18:Int)) (
 J69_1 a1 (1:Int) (32:Int) (0:Int) false K Kp h2) (
 If (t14 == (19:Int)) (
 J69_1 a1 (1:Int) (1:Int) (0:Int) true K Kp h2) (
 J69_1 a1 (0:Int) (0:Int) (0:Int) false K Kp h2)))))) (
 If (t14 == (20:Int)) (
 J69_1 a1 (1:Int) (1:Int) (0:Int) false K Kp h2) (
 If (t14 == (16:Int)) (
 J69_1 a1 (1:Int) (1:Int) (64:Int) false K Kp h2) (
 If (t14 == (17:Int)) (
 J69_1 a1 (0:Int) (32:Int) (0:Int) false K Kp h2) (
 If (t14 == (18:Int)) (
 J69_1 a1 (1:Int) (32:Int) (0:Int) false K Kp h2) (
 If (t14 == (19:Int)) (
 J69_1 a1 (1:Int) (1:Int) (0:Int) true K Kp h2) (
 J69_1 a1 (0:Int) (0:Int) (0:Int) false K Kp h2))))))))) Kp
theorem Fn69.of {t_0:Int} {t_1:Int} {t_2:Int} {t_3:Int} {t_4:Sl} {h:Hp} {K : Bool → HP} {Kp:PK} (H : S69 t_0 t_1 t_2 t_3 t_4 h K Kp) : Fn69 t_0 t_1 t_2 t_3 t_4 h K Kp :=
 fn_of2 (P := Tryd.prog) (ann := ann69) (D := DrawSem Tryd.prog ord69) (drawOk _) (c := code69) (zs := [(.bool false)]) (args := [(.agg #[(.int .i64 t_0), (.int .i64 t_1), (.int .i64 t_2), (.int .i64 t_3), (Sl.v t_4)])]) (Kv := kv69 K) (Kp := Kp) (h := h) Tryd.func69 (by kernel_rfl) H (by kernel_rfl) (by kernel_rfl)
/- ### 70: nulls -/
noncomputable def code70 : Code := Tryd.f70.body.getD .skip
def ann70 : Ann := []
def ord70 : List (Nat × OT × List Nat) := [(7, (OT.l [0, 1, 2, 3, 4, 5, 6, 7, 8, 9] .fin), [0, 1, 0, 4, 12, 28, 60, 124, 255, 511])]
def kv70 (K : Bool → HP) : Value → HP := fun v h => match v with | .bool r0 => (K r0 h) | _ => False
def S70 (f_0 : ByteArray) (f_1:Bool) (f_2:Int) (f_3:Int) (f_4:Int) (f_5:Int) (f_6:Sl) (h:Hp) (K : Bool → HP) (Kp:PK) : Prop :=
 New h #[(.string f_0), (.bool f_1), (.int .i64 f_2), (.int .i64 f_3), (.int .i64 f_4), (.int .i64 f_5), (Sl.v f_6)] 63 fun a1 h1 =>
 Ld h1 (a1.add 2) (Value.int .i64) fun t5 =>
 If (t5 == (1:Int)) (
 Ld h1 (a1.add 1) (Value.bool) fun t9 =>
 K t9 h1) (
 If (t5 == (18:Int)) (
 Ld h1 (a1.add 1) (Value.bool) fun t13 =>
 K (!t13) h1) (
 If (t5 == (20:Int)) (
 Ld h1 (a1.add 1) (Value.bool) fun t18 =>
 Ld h1 ((a1.add 2).add 4) (Sl.v) fun t21 =>
 Ix t21.a t21.n 7 (0:Int) fun a22 =>
 Ld h1 (a22.add 1) (Value.bool) fun t24 =>
 K (t18 == t24) h1) (
 K true h1)))
theorem Fn70.of {f_0 : ByteArray} {f_1:Bool} {f_2:Int} {f_3:Int} {f_4:Int} {f_5:Int} {f_6:Sl} {h:Hp} {K : Bool → HP} {Kp:PK} (H : S70 f_0 f_1 f_2 f_3 f_4 f_5 f_6 h K Kp) : Fn70 f_0 f_1 f_2 f_3 f_4 f_5 f_6 h K Kp :=
 fn_of2 (P := Tryd.prog) (ann := ann70) (D := DrawSem Tryd.prog ord70) (drawOk _) (c := code70) (zs := [(.bool false)]) (args := [(.agg #[(.string f_0), (.bool f_1), (.int .i64 f_2), (.int .i64 f_3), (.int .i64 f_4), (.int .i64 f_5), (Sl.v f_6)])]) (Kv := kv70 K) (Kp := Kp) (h := h) Tryd.func70 (by kernel_rfl) H (by kernel_rfl) (by kernel_rfl)
/- ### 71: letter -/
noncomputable def code71 : Code := Tryd.f71.body.getD .skip
def ann71 : Ann := [(41006, [0, 8]), (41014, [0, 16]), (41022, [0, 24])]
def ord71 : List (Nat × OT × List Nat) := []
def kv71 (K : Bool → HP) : Value → HP := fun v h => match v with | .bool r0 => (K r0 h) | _ => False
def q71 (K : Bool → HP) : Qt := retQ Tryd.prog Tryd.f71.results.toList [(.bool false)] (kv71 K)
def JT71_3 (x0:Int) (x24:Bool) (K : Bool → HP) (Kp:PK) (h:Hp) : Prop :=
 If x24 (
 K true h) (
 K (x0 == (95:Int)) h)
def J71_3 (x0:Int) (x24:Bool) (K : Bool → HP) (Kp:PK) (h:Hp) : Prop :=
 Joint (semOps Tryd.prog (Ann.reg 1 ann71) (regOps (sub [1, 0] code71)) [22, 23, 24, 25, 26] (ctxQ Tryd.prog ann71 (Dw ord71) none Kp [1, 0] code71 [] (q71 K) .normal) Kp ([some (.int .u8 x0), none, none, none, none, none, none, none, none, none, none, none, none, none, none, none, none, none, none, none, none, none, none, none, some (.bool x24), none, none, none, none]) h)
theorem J71_3.of {x0:Int} {x24:Bool} {K : Bool → HP} {Kp:PK} {h:Hp} (H : JT71_3 x0 x24 K Kp h) : J71_3 x0 x24 K Kp h :=
 Joint.mk (Eq.mp (by kernel_rfl) H)
def JT71_2 (x0:Int) (x16:Bool) (K : Bool → HP) (Kp:PK) (h:Hp) : Prop :=
 If x16 (
 J71_3 x0 true K Kp h) (
 If (decide (x0 ≥ (48:Int))) (
 J71_3 x0 (decide (x0 ≤ (57:Int))) K Kp h) (
 J71_3 x0 false K Kp h))
def J71_2 (x0:Int) (x16:Bool) (K : Bool → HP) (Kp:PK) (h:Hp) : Prop :=
 Joint (semOps Tryd.prog (Ann.reg 1 ann71) (regOps (sub [1, 0] code71)) [14, 15, 16, 17, 18, 19, 20, 21, 22, 23, 24, 25, 26] (ctxQ Tryd.prog ann71 (Dw ord71) none Kp [1, 0] code71 [] (q71 K) .normal) Kp (([some (.int .u8 x0), none, none, none, none, none, none, none, none, none, none, none, none, none, none, none, some (.bool x16)] ++ nn 12)) h)
theorem J71_2.of {x0:Int} {x16:Bool} {K : Bool → HP} {Kp:PK} {h:Hp} (H : JT71_2 x0 x16 K Kp h) : J71_2 x0 x16 K Kp h :=
 Joint.mk (Eq.mp (by kernel_rfl) H)
def JT71_1 (x0:Int) (x8:Bool) (K : Bool → HP) (Kp:PK) (h:Hp) : Prop :=
 If x8 (
 J71_2 x0 true K Kp h) (
 If (decide (x0 ≥ (65:Int))) (
 J71_2 x0 (decide (x0 ≤ (90:Int))) K Kp h) (
 J71_2 x0 false K Kp h))
def J71_1 (x0:Int) (x8:Bool) (K : Bool → HP) (Kp:PK) (h:Hp) : Prop :=
 Joint (semOps Tryd.prog (Ann.reg 1 ann71) (regOps (sub [1, 0] code71)) [6, 7, 8, 9, 10, 11, 12, 13, 14, 15, 16, 17, 18, 19, 20, 21, 22, 23, 24, 25, 26] (ctxQ Tryd.prog ann71 (Dw ord71) none Kp [1, 0] code71 [] (q71 K) .normal) Kp (([some (.int .u8 x0), none, none, none, none, none, none, none, some (.bool x8)] ++ nn 20)) h)
theorem J71_1.of {x0:Int} {x8:Bool} {K : Bool → HP} {Kp:PK} {h:Hp} (H : JT71_1 x0 x8 K Kp h) : J71_1 x0 x8 K Kp h :=
 Joint.mk (Eq.mp (by kernel_rfl) H)
def S71 (c:Int) (h:Hp) (K : Bool → HP) (Kp:PK) : Prop :=
 If (decide (c ≥ (97:Int))) (
 J71_1 c (decide (c ≤ (122:Int))) K Kp h) (
 J71_1 c false K Kp h)
theorem Fn71.of {c:Int} {h:Hp} {K : Bool → HP} {Kp:PK} (H : S71 c h K Kp) : Fn71 c h K Kp :=
 fn_of2 (P := Tryd.prog) (ann := ann71) (D := DrawSem Tryd.prog ord71) (drawOk _) (c := code71) (zs := [(.bool false)]) (args := [(.int .u8 c)]) (Kv := kv71 K) (Kp := Kp) (h := h) Tryd.func71 (by kernel_rfl) H (by kernel_rfl) (by kernel_rfl)
/- ### 72: IndexFunc -/
noncomputable def code72 : Code := Tryd.f72.body.getD .skip
def ann72 : Ann := [(2002, [0, 1, 7, 8])]
def ord72 : List (Nat × OT × List Nat) := []
def kv72 (K : Int → HP) : Value → HP := fun v h => match v with | .int _ r0 => (K r0 h) | _ => False
def q72 (K : Int → HP) : Qt := retQ Tryd.prog Tryd.f72.results.toList [(.int .i64 (0:Int))] (kv72 K)
abbrev mk72_1 (x0:Sl) (x1 : Value) (x7:Int) (x8:Int) : Fr := ([some (Sl.v x0), some x1, none, none, none, none, none, some (.int .i64 x7), some (.int .i64 x8)] ++ nn 10)
def T72_1 (x0:Sl) (x1 : Value) (x7:Int) (K : Int → HP) (Kp:PK) (N1 : Fr → HP) (x8:Int) (h:Hp) : Prop :=
 If (decide (x8 < x7)) (
 Ix x0.a x0.n 7 x8 fun a14 =>
 Ld h a14 (Value.string) fun t15_0 =>
 Ld h (a14.add 1) (Value.bool) fun t15_1 =>
 Ld h (a14.add 2) (Value.int .i64) fun t15_2 =>
 Ld h (a14.add 3) (Value.int .i64) fun t15_3 =>
 Ld h (a14.add 4) (Value.int .i64) fun t15_4 =>
 Ld h (a14.add 5) (Value.int .i64) fun t15_5 =>
 Ld h (a14.add 6) (Sl.v) fun t15_6 =>
 CallV Tryd.prog x1 [(.agg #[(.string t15_0), (.bool t15_1), (.int .i64 t15_2), (.int .i64 t15_3), (.int .i64 t15_4), (.int .i64 t15_5), (Sl.v t15_6)])] h (fun r h1 => ∃ t16 : Bool, r = (.bool t16) ∧
 If t16 (
 K x8 h1) (
 Wr .i64 (x8 + (1:Int)) fun t18 =>
 N1 (mk72_1 x0 x1 x7 t18) h1)) Kp) (
 K (-1:Int) h)
def L72_1 (x0:Sl) (x1 : Value) (x7:Int) (K : Int → HP) (Kp:PK) (x8:Int) (h:Hp) : Prop :=
 LoopH (fun N fr h => sem Tryd.prog ann72 (Dw ord72) none (sub [1, 0, 1, 0, 0] code72) (thenQ (fun fr' h' => N (Ann.find ann72 2002 fr') h') (ctxQ Tryd.prog ann72 (Dw ord72) none Kp [1, 0, 1, 0] code72 [] (q72 K))) Kp fr h) (mk72_1 x0 x1 x7 x8) h
theorem L72_1.rule {x0:Sl} {x1 : Value} {x7:Int} {K : Int → HP} {Kp:PK} (I : Int → HP) (μ : Int → Hp → Nat) {x8:Int} {h:Hp} (h0 : I x8 h)
 (step : ∀ (x8:Int) (h:Hp), I x8 h → ∀ N1 : Fr → HP, (∀ (x8':Int) (h':Hp), I x8' h' → μ x8' h' < μ x8 h → N1 (mk72_1 x0 x1 x7 x8') h') → T72_1 x0 x1 x7 K Kp N1 x8 h) : L72_1 x0 x1 x7 K Kp x8 h :=
 loop_rule (σ := Int) (fun s => mk72_1 x0 x1 x7 s) (fun N s h => T72_1 x0 x1 x7 K Kp N s h) (fun N s h => by kernel_rfl) (fun s h => I s h) (fun s h => μ s h) (s0 := x8) h0 (fun s h hI N hN => step s h hI N (fun x8' h' hI' hl => hN x8' h' hI' hl))
def S72 (s:Sl) (f : Value) (h:Hp) (K : Int → HP) (Kp:PK) : Prop :=
 L72_1 s f (s.n:Int) K Kp (0:Int) h
theorem Fn72.of {s:Sl} {f : Value} {h:Hp} {K : Int → HP} {Kp:PK} (H : S72 s f h K Kp) : Fn72 s f h K Kp :=
 fn_of2 (P := Tryd.prog) (ann := ann72) (D := DrawSem Tryd.prog ord72) (drawOk _) (c := code72) (zs := [(.int .i64 (0:Int))]) (args := [(Sl.v s), f]) (Kv := kv72 K) (Kp := Kp) (h := h) Tryd.func72 (by kernel_rfl) H (by kernel_rfl) (by kernel_rfl)
/- ### 73: known -/
noncomputable def code73 : Code := Tryd.f73.body.getD .skip
def ann73 : Ann := []
def ord73 : List (Nat × OT × List Nat) := []
def kv73 (K : Bool → HP) : Value → HP := fun v h => match v with | .bool r0 => (K r0 h) | _ => False
def S73 (kind:Int) (h:Hp) (K : Bool → HP) (Kp:PK) : Prop :=
 If (decide (kind ≥ (1:Int))) (
 K (decide (kind ≤ (20:Int))) h) (
 K false h)
theorem Fn73.of {kind:Int} {h:Hp} {K : Bool → HP} {Kp:PK} (H : S73 kind h K Kp) : Fn73 kind h K Kp :=
 fn_of2 (P := Tryd.prog) (ann := ann73) (D := DrawSem Tryd.prog ord73) (drawOk _) (c := code73) (zs := [(.bool false)]) (args := [(.int .i64 kind)]) (Kv := kv73 K) (Kp := Kp) (h := h) Tryd.func73 (by kernel_rfl) H (by kernel_rfl) (by kernel_rfl)
end Go.Proofs.YtfomkkdijjfpiaaDoor
