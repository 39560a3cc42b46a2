/- What the functions do, printed by program (gen.py) in the words of ShCore; each text is held against the loaded program by the kernel. -/
import Derived.Test.YtfomkkdijjfpiaaDoorKeepsF
set_option linter.unusedSimpArgs false
set_option linter.unusedVariables false
set_option maxRecDepth 100000
namespace Go.Proofs.YtfomkkdijjfpiaaDoor
open Go Go.Sh
/- ### 62: shaped -/
noncomputable def code62 : Code := Tryd.f62.body.getD .skip
def ann62 : Ann := [(2000003, [1]), (2000004, [1, 3]), (2000006, [1]), (2000008, [1]), (2000010, [1]), (4600017, [4, 98, 99]), (44007, [1, 27]), (44022, [1, 42])]
def ord62 : List (Nat × OT × List Nat) := []
def kv62 (K : Bool → HP) : Value → HP := fun v h => match v with | .bool r0 => (K r0 h) | _ => False
def q62 (K : Bool → HP) : Qt := retQ Tryd.prog Tryd.f62.results.toList [(.bool false)] (kv62 K)
def JT62_6 (x4:Int) (x98:Int) (x99:Bool) (K : Bool → HP) (Kp:PK) (h:Hp) : Prop :=
 If x99 (
 K (x4 == (1:Int)) h) (
 If (x98 == (17:Int)) (
 K (decide (x4 ≤ (32:Int))) h) (
 If (x98 == (18:Int)) (
 If (decide (x4 ≥ (1:Int))) (
 K (decide (x4 ≤ (32:Int))) h) (
 K false h)) (
 K (x4 == (0:Int)) h)))
def J62_6 (x4:Int) (x98:Int) (x99:Bool) (K : Bool → HP) (Kp:PK) (h:Hp) : Prop :=
 Joint (sem Tryd.prog ann62 (Dw ord62) none (sub [1, 1, 1, 1, 1, 1, 1, 0, 1, 0, 1] code62) (ctxQ Tryd.prog ann62 (Dw ord62) none Kp [1, 1, 1, 1, 1, 1, 1, 0, 1, 0, 1] code62 [] (q62 K)) Kp (([none, none, none, none, some (.int .i64 x4), none, none, none, none, none, none, none, none, none, none, none, none, none, none, none, none, none, none, none, none, none, none, none, none, none, none, none, none, none, none, none, none, none, none, none, none, none, none, none, none, none, none, none, none, none, none, none, none, none, none, none, none, none, none, none, none, none, none, none, none, none, none, none, none, none, none, none, none, none, none, none, none, none, none, none, none, none, none, none, none, none, none, none, none, none, none, none, none, none, none, none, none, none, some (.int .i64 x98), some (.bool x99)] ++ nn 20)) h)
theorem J62_6.of {x4:Int} {x98:Int} {x99:Bool} {K : Bool → HP} {Kp:PK} {h:Hp} (H : JT62_6 x4 x98 x99 K Kp h) : J62_6 x4 x98 x99 K Kp h :=
 Joint.mk (Eq.mp (by kernel_rfl) H)
def JT62_5 (x1:Addr) (K : Bool → HP) (Kp:PK) (h:Hp) : Prop :=
 Ld h (x1.add 4) (Sl.v) fun t95 =>
 Ld h x1 (Value.int .i64) fun t98 =>
 If (t98 == (15:Int)) (
 J62_6 (t95.n:Int) t98 (t98 == (15:Int)) K Kp h) (
 If (t98 == (16:Int)) (
 J62_6 (t95.n:Int) t98 (t98 == (16:Int)) K Kp h) (
 If (t98 == (19:Int)) (
 J62_6 (t95.n:Int) t98 (t98 == (19:Int)) K Kp h) (
 J62_6 (t95.n:Int) t98 (t98 == (20:Int)) K Kp h)))
def J62_5 (x1:Addr) (K : Bool → HP) (Kp:PK) (h:Hp) : Prop :=
 Joint (sem Tryd.prog ann62 (Dw ord62) none (sub [1, 1, 1, 1, 1, 1] code62) (ctxQ Tryd.prog ann62 (Dw ord62) none Kp [1, 1, 1, 1, 1, 1] code62 [] (q62 K)) Kp (([none, some (.pointer (some x1))] ++ nn 118)) h)
theorem J62_5.of {x1:Addr} {K : Bool → HP} {Kp:PK} {h:Hp} (H : JT62_5 x1 K Kp h) : J62_5 x1 K Kp h :=
 Joint.mk (Eq.mp (by kernel_rfl) H)
def JT62_4 (x1:Addr) (K : Bool → HP) (Kp:PK) (h:Hp) : Prop :=
 Ld h x1 (Value.int .i64) fun t72 =>
 If (t72 == (19:Int)) (
 Ld h (x1.add 2) (Value.int .i64) fun t76 =>
 If (decide (t76 < (0:Int))) (
 K false h) (
 Ld h (x1.add 2) (Value.int .i64) fun t80 =>
 If (decide (t80 > (31:Int))) (
 K false h) (
 Ld h (x1.add 3) (Value.int .i64) fun t85 =>
 If (decide (t85 < (3:Int))) (
 K false h) (
 Ld h (x1.add 3) (Value.int .i64) fun t90 =>
 If (decide (t90 > (10:Int))) (
 K false h) (
 J62_5 x1 K Kp h))))) (
 J62_5 x1 K Kp h)
def J62_4 (x1:Addr) (K : Bool → HP) (Kp:PK) (h:Hp) : Prop :=
 Joint (sem Tryd.prog ann62 (Dw ord62) none (sub [1, 1, 1, 1, 1] code62) (ctxQ Tryd.prog ann62 (Dw ord62) none Kp [1, 1, 1, 1, 1] code62 [] (q62 K)) Kp (([none, some (.pointer (some x1))] ++ nn 118)) h)
theorem J62_4.of {x1:Addr} {K : Bool → HP} {Kp:PK} {h:Hp} (H : JT62_4 x1 K Kp h) : J62_4 x1 K Kp h :=
 Joint.mk (Eq.mp (by kernel_rfl) H)
def JT62_3 (x1:Addr) (K : Bool → HP) (Kp:PK) (h:Hp) : Prop :=
 Ld h x1 (Value.int .i64) fun t59 =>
 If (t59 != (19:Int)) (
 Ld h (x1.add 2) (Value.int .i64) fun t63 =>
 If (t63 != (0:Int)) (
 K false h) (
 Ld h (x1.add 3) (Value.int .i64) fun t67 =>
 If (t67 != (0:Int)) (
 K false h) (
 J62_4 x1 K Kp h))) (
 J62_4 x1 K Kp h)
def J62_3 (x1:Addr) (K : Bool → HP) (Kp:PK) (h:Hp) : Prop :=
 Joint (sem Tryd.prog ann62 (Dw ord62) none (sub [1, 1, 1, 1] code62) (ctxQ Tryd.prog ann62 (Dw ord62) none Kp [1, 1, 1, 1] code62 [] (q62 K)) Kp (([none, some (.pointer (some x1))] ++ nn 118)) h)
theorem J62_3.of {x1:Addr} {K : Bool → HP} {Kp:PK} {h:Hp} (H : JT62_3 x1 K Kp h) : J62_3 x1 K Kp h :=
 Joint.mk (Eq.mp (by kernel_rfl) H)
def JT62_8 (x1:Addr) (x42:Bool) (K : Bool → HP) (Kp:PK) (h:Hp) : Prop :=
 If x42 (
 K false h) (
 Ld h x1 (Value.int .i64) fun t45 =>
 If (t45 == (16:Int)) (
 Ld h (x1.add 1) (Value.int .i64) fun t49 =>
 If (decide (t49 < (1:Int))) (
 K false h) (
 Ld h (x1.add 1) (Value.int .i64) fun t53 =>
 If (decide (t53 > (64:Int))) (
 K false h) (
 J62_3 x1 K Kp h))) (
 J62_3 x1 K Kp h))
def J62_8 (x1:Addr) (x42:Bool) (K : Bool → HP) (Kp:PK) (h:Hp) : Prop :=
 Joint (semOps Tryd.prog (Ann.reg 4 ann62) (regOps (sub [1, 1, 1, 0, 0] code62)) [22, 23, 24, 25, 26, 27, 28, 29, 30, 31, 32, 33, 34, 35, 36] (ctxQ Tryd.prog ann62 (Dw ord62) none Kp [1, 1, 1, 0, 0] code62 [] (q62 K) .normal) Kp (([none, some (.pointer (some x1)), none, none, none, none, none, none, none, none, none, none, none, none, none, none, none, none, none, none, none, none, none, none, none, none, none, none, none, none, none, none, none, none, none, none, none, none, none, none, none, none, some (.bool x42)] ++ nn 77)) h)
theorem J62_8.of {x1:Addr} {x42:Bool} {K : Bool → HP} {Kp:PK} {h:Hp} (H : JT62_8 x1 x42 K Kp h) : J62_8 x1 x42 K Kp h :=
 Joint.mk (Eq.mp (by kernel_rfl) H)
def JT62_7 (x1:Addr) (x27:Bool) (K : Bool → HP) (Kp:PK) (h:Hp) : Prop :=
 If x27 (
 J62_8 x1 true K Kp h) (
 Ld h x1 (Value.int .i64) fun t30 =>
 If (t30 == (14:Int)) (
 Ld h (x1.add 1) (Value.int .i64) fun t34 =>
 If (decide (t34 < (1:Int))) (
 J62_8 x1 true K Kp h) (
 Ld h (x1.add 1) (Value.int .i64) fun t38 =>
 J62_8 x1 (decide (t38 > (16:Int))) K Kp h)) (
 J62_8 x1 false K Kp h))
def J62_7 (x1:Addr) (x27:Bool) (K : Bool → HP) (Kp:PK) (h:Hp) : Prop :=
 Joint (semOps Tryd.prog (Ann.reg 4 ann62) (regOps (sub [1, 1, 1, 0, 0] code62)) [7, 8, 9, 10, 11, 12, 13, 14, 15, 16, 17, 18, 19, 20, 21, 22, 23, 24, 25, 26, 27, 28, 29, 30, 31, 32, 33, 34, 35, 36] (ctxQ Tryd.prog ann62 (Dw ord62) none Kp [1, 1, 1, 0, 0] code62 [] (q62 K) .normal) Kp (([none, some (.pointer (some x1)), none, none, none, none, none, none, none, none, none, none, none, none, none, none, none, none, none, none, none, none, none, none, none, none, none, some (.bool x27)] ++ nn 92)) h)
theorem J62_7.of {x1:Addr} {x27:Bool} {K : Bool → HP} {Kp:PK} {h:Hp} (H : JT62_7 x1 x27 K Kp h) : J62_7 x1 x27 K Kp h :=
 Joint.mk (Eq.mp (by kernel_rfl) H)
def JT62_2 (x1:Addr) (x3:Bool) (K : Bool → HP) (Kp:PK) (h:Hp) : Prop :=
 If (!x3) (
 Ld h (x1.add 1) (Value.int .i64) fun t25 =>
 J62_7 x1 (t25 != (0:Int)) K Kp h) (
 J62_7 x1 false K Kp h)
def J62_2 (x1:Addr) (x3:Bool) (K : Bool → HP) (Kp:PK) (h:Hp) : Prop :=
 Joint (sem Tryd.prog ann62 (Dw ord62) none (sub [1, 1, 1] code62) (ctxQ Tryd.prog ann62 (Dw ord62) none Kp [1, 1, 1] code62 [] (q62 K)) Kp (([none, some (.pointer (some x1)), none, some (.bool x3)] ++ nn 116)) h)
theorem J62_2.of {x1:Addr} {x3:Bool} {K : Bool → HP} {Kp:PK} {h:Hp} (H : JT62_2 x1 x3 K Kp h) : J62_2 x1 x3 K Kp h :=
 Joint.mk (Eq.mp (by kernel_rfl) H)
def JT62_1 (x1:Addr) (K : Bool → HP) (Kp:PK) (h:Hp) : Prop :=
 Ld h x1 (Value.int .i64) fun t14 =>
 If (t14 == (14:Int)) (
 J62_2 x1 true K Kp h) (
 Ld h x1 (Value.int .i64) fun t18 =>
 J62_2 x1 (t18 == (16:Int)) K Kp h)
def J62_1 (x1:Addr) (K : Bool → HP) (Kp:PK) (h:Hp) : Prop :=
 Joint (sem Tryd.prog ann62 (Dw ord62) none (sub [1, 1] code62) (ctxQ Tryd.prog ann62 (Dw ord62) none Kp [1, 1] code62 [] (q62 K)) Kp (([none, some (.pointer (some x1))] ++ nn 118)) h)
theorem J62_1.of {x1:Addr} {K : Bool → HP} {Kp:PK} {h:Hp} (H : JT62_1 x1 K Kp h) : J62_1 x1 K Kp h :=
 Joint.mk (Eq.mp (by kernel_rfl) H)
def S62 (t_0:Int) (t_1:Int) (t_2:Int) (t_3:Int) (t_4:Sl) (h:Hp) (K : Bool → HP) (Kp:PK) : Prop :=
 New h #[(.int .i64 t_0), (.int .i64 t_1), (.int .i64 t_2), (.int .i64 t_3), (Sl.v t_4)] 61 fun a1 h1 =>
 Ld h1 a1 (Value.int .i64) fun t6 =>
 If (decide (t6 < (1:Int))) (
 K false h1) (
 Ld h1 a1 (Value.int .i64) fun t10 =>
 If (decide (t10 > (20:Int))) (
 K false h1) (
 J62_1 a1 K Kp h1))
theorem Fn62.of {t_0:Int} {t_1:Int} {t_2:Int} {t_3:Int} {t_4:Sl} {h:Hp} {K : Bool → HP} {Kp:PK} (H : S62 t_0 t_1 t_2 t_3 t_4 h K Kp) : Fn62 t_0 t_1 t_2 t_3 t_4 h K Kp :=
 fn_of2 (P := Tryd.prog) (ann := ann62) (D := DrawSem Tryd.prog ord62) (drawOk _) (c := code62) (zs := [(.bool false)]) (args := [(.agg #[(.int .i64 t_0), (.int .i64 t_1), (.int .i64 t_2), (.int .i64 t_3), (Sl.v t_4)])]) (Kv := kv62 K) (Kp := Kp) (h := h) Tryd.func62 (by kernel_rfl) H (by kernel_rfl) (by kernel_rfl)
/- ### 63: all$1 -/
noncomputable def code63 : Code := Tryd.f63.body.getD .skip
def ann63 : Ann := []
def ord63 : List (Nat × OT × List Nat) := []
def kv63 (K:HP) : Value → HP := fun _ h => K h
def S63 (yield : Value) (c1:Addr) (c2:Addr) (h:Hp) (K:HP) (Kp:PK) : Prop :=
 New h (Value.cells yield) 109 fun a3 h1 =>
 New h1 #[(.nilFunc)] 110 fun a4 h2 =>
 NA (.func (.func 64) #[] #[(.pointer (some a3)), (.pointer (some c1)), (.pointer (some a4))]) <|
 St h2 a4 (.func (.func 64) #[] #[(.pointer (some a3)), (.pointer (some c1)), (.pointer (some a4))]) fun h3 =>
 Ld h3 a4 (id) fun t6 =>
 Ld h3 c2 (Sl.v) fun t7 =>
 CallV Tryd.prog t6 [(.slice none 0 0), (Sl.v t7), (.bool false)] h3 (fun r h4 => ∃ t8 : Bool, r = (.bool t8) ∧
 K  h4) Kp
theorem Fn63.of {yield : Value} {c1:Addr} {c2:Addr} {h:Hp} {K:HP} {Kp:PK} (H : S63 yield c1 c2 h K Kp) : Fn63 yield c1 c2 h K Kp :=
 fn_of2 (P := Tryd.prog) (ann := ann63) (D := DrawSem Tryd.prog ord63) (drawOk _) (c := code63) (zs := []) (args := [yield, (.pointer (some c1)), (.pointer (some c2))]) (Kv := kv63 K) (Kp := Kp) (h := h) Tryd.func63 (by kernel_rfl) H (by kernel_rfl) (by kernel_rfl)
/- ### 64: all$1$1 -/
noncomputable def code64 : Code := Tryd.f64.body.getD .skip
def ann64 : Ann := [(2001000, [0, 1, 2, 3, 4, 5, 13, 14, 15]), (2002, [0, 1, 2, 3, 4, 5, 13, 14, 15]), (1002903000, [0, 1, 2, 3, 4, 5, 13, 14, 15, 16]), (2000004, [0, 1, 2, 3, 4, 5, 10, 11, 13, 14, 15]), (2000005, [0, 1, 2, 3, 4, 5, 10, 11, 12, 13, 14, 15]), (2000007, [0, 1, 2, 3, 4, 5, 11, 12, 13, 14, 15])]
def ord64 : List (Nat × OT × List Nat) := [(5, (OT.l [0, 1, 2, 3, 4, 5, 6, 7, 8, 9] .fin), [0, 0, 0, 0, 12, 0, 0, 126, 255, 511])]
def kv64 (K : Bool → HP) : Value → HP := fun v h => match v with | .bool r0 => (K r0 h) | _ => False
def q64 (K : Bool → HP) : Qt := retQ Tryd.prog Tryd.f64.results.toList [(.bool false)] (kv64 K)
abbrev mk64_2 (x0:Sl) (x1:Sl) (x2:Bool) (x3:Addr) (x4:Addr) (x5:Addr) (x13:Sl) (x14:Int) (x15:Int) : Fr := ([some (Sl.v x0), some (Sl.v x1), some (.bool x2), some (.pointer (some x3)), some (.pointer (some x4)), some (.pointer (some x5)), none, none, none, none, none, none, none, some (Sl.v x13), some (.int .i64 x14), some (.int .i64 x15)] ++ nn 40)
def JT64_6 (x0:Sl) (x1:Sl) (x2:Bool) (x3:Addr) (x4:Addr) (x5:Addr) (x11:Addr) (x12:Sl) (x13:Sl) (x14:Int) (x15:Int) (N1 : Fr → HP) (K : Bool → HP) (Kp:PK) (h:Hp) : Prop :=
 Ld h x4 (Value.int .i64) fun t37 =>
 If (decide ((x12.n:Int) < t37)) (
 Ld h x5 (id) fun t40 =>
 Ld h ((x11.add 2).add 4) (Sl.v) fun t44 =>
 If x2 (
 CallV Tryd.prog t40 [(Sl.v x12), (Sl.v t44), (.bool true)] h (fun r h1 => ∃ t52 : Bool, r = (.bool t52) ∧
 If (!t52) (
 K false h1) (
 Wr .i64 (x15 + (1:Int)) fun t55 =>
 N1 (mk64_2 x0 x1 x2 x3 x4 x5 x13 x14 t55) h1)) Kp) (
 Ld h (x11.add 2) (Value.int .i64) fun t49 =>
 CallV Tryd.prog t40 [(Sl.v x12), (Sl.v t44), (.bool (t49 == (19:Int)))] h (fun r h1 => ∃ t52 : Bool, r = (.bool t52) ∧
 If (!t52) (
 K false h1) (
 Wr .i64 (x15 + (1:Int)) fun t55 =>
 N1 (mk64_2 x0 x1 x2 x3 x4 x5 x13 x14 t55) h1)) Kp)) (
 Wr .i64 (x15 + (1:Int)) fun t55 =>
 N1 (mk64_2 x0 x1 x2 x3 x4 x5 x13 x14 t55) h)
def J64_6 (x0:Sl) (x1:Sl) (x2:Bool) (x3:Addr) (x4:Addr) (x5:Addr) (x11:Addr) (x12:Sl) (x13:Sl) (x14:Int) (x15:Int) (N1 : Fr → HP) (K : Bool → HP) (Kp:PK) (h:Hp) : Prop :=
 Joint (sem Tryd.prog ann64 (Dw ord64) none (sub [1, 0, 1, 0, 0, 1, 1, 0, 0, 1, 1, 1] code64) (ctxQ Tryd.prog ann64 (Dw ord64) none Kp [1, 0, 1, 0, 0, 1, 1, 0, 0, 1, 1, 1] code64 [N1] (q64 K)) Kp (([some (Sl.v x0), some (Sl.v x1), some (.bool x2), some (.pointer (some x3)), some (.pointer (some x4)), some (.pointer (some x5)), none, none, none, none, none, some (.pointer (some x11)), some (Sl.v x12), some (Sl.v x13), some (.int .i64 x14), some (.int .i64 x15)] ++ nn 40)) h)
theorem J64_6.of {x0:Sl} {x1:Sl} {x2:Bool} {x3:Addr} {x4:Addr} {x5:Addr} {x11:Addr} {x12:Sl} {x13:Sl} {x14:Int} {x15:Int} {N1 : Fr → HP} {K : Bool → HP} {Kp:PK} {h:Hp} (H : JT64_6 x0 x1 x2 x3 x4 x5 x11 x12 x13 x14 x15 N1 K Kp h) : J64_6 x0 x1 x2 x3 x4 x5 x11 x12 x13 x14 x15 N1 K Kp h :=
 Joint.mk (Eq.mp (by kernel_rfl) H)
def JT64_5 (x0:Sl) (x1:Sl) (x2:Bool) (x3:Addr) (x4:Addr) (x5:Addr) (x10:Int) (x11:Addr) (x12:Sl) (x13:Sl) (x14:Int) (x15:Int) (N1 : Fr → HP) (K : Bool → HP) (Kp:PK) (h:Hp) : Prop :=
 Ld h x3 (id) fun t25 =>
 Slc x1 7 none (some x10) none fun t29 =>
 Ld h x11 (Value.string) fun t30_0 =>
 Ld h (x11.add 1) (Value.bool) fun t30_1 =>
 Ld h (x11.add 2) (Value.int .i64) fun t30_2 =>
 Ld h (x11.add 3) (Value.int .i64) fun t30_3 =>
 Ld h (x11.add 4) (Value.int .i64) fun t30_4 =>
 Ld h (x11.add 5) (Value.int .i64) fun t30_5 =>
 Ld h (x11.add 6) (Sl.v) fun t30_6 =>
 CallV Tryd.prog t25 [(.agg #[(Sl.v x12), (Sl.v t29), (.string t30_0), (.bool t30_1), (.int .i64 t30_2), (.int .i64 t30_3), (.int .i64 t30_4), (.int .i64 t30_5), (Sl.v t30_6), (.bool x2)])] h (fun r h1 => ∃ t33 : Bool, r = (.bool t33) ∧
 If (!t33) (
 K false h1) (
 J64_6 x0 x1 x2 x3 x4 x5 x11 x12 x13 x14 x15 N1 K Kp h1)) Kp
def J64_5 (x0:Sl) (x1:Sl) (x2:Bool) (x3:Addr) (x4:Addr) (x5:Addr) (x10:Int) (x11:Addr) (x12:Sl) (x13:Sl) (x14:Int) (x15:Int) (N1 : Fr → HP) (K : Bool → HP) (Kp:PK) (h:Hp) : Prop :=
 Joint (sem Tryd.prog ann64 (Dw ord64) none (sub [1, 0, 1, 0, 0, 1, 1, 0, 0, 1, 1] code64) (ctxQ Tryd.prog ann64 (Dw ord64) none Kp [1, 0, 1, 0, 0, 1, 1, 0, 0, 1, 1] code64 [N1] (q64 K)) Kp (([some (Sl.v x0), some (Sl.v x1), some (.bool x2), some (.pointer (some x3)), some (.pointer (some x4)), some (.pointer (some x5)), none, none, none, none, some (.int .i64 x10), some (.pointer (some x11)), some (Sl.v x12), some (Sl.v x13), some (.int .i64 x14), some (.int .i64 x15)] ++ nn 40)) h)
theorem J64_5.of {x0:Sl} {x1:Sl} {x2:Bool} {x3:Addr} {x4:Addr} {x5:Addr} {x10:Int} {x11:Addr} {x12:Sl} {x13:Sl} {x14:Int} {x15:Int} {N1 : Fr → HP} {K : Bool → HP} {Kp:PK} {h:Hp} (H : JT64_5 x0 x1 x2 x3 x4 x5 x10 x11 x12 x13 x14 x15 N1 K Kp h) : J64_5 x0 x1 x2 x3 x4 x5 x10 x11 x12 x13 x14 x15 N1 K Kp h :=
 Joint.mk (Eq.mp (by kernel_rfl) H)
def JT64_4 (x0:Sl) (x1:Sl) (x2:Bool) (x3:Addr) (x4:Addr) (x5:Addr) (x10:Int) (x11:Addr) (x13:Sl) (x14:Int) (x15:Int) (N1 : Fr → HP) (K : Bool → HP) (Kp:PK) (h:Hp) : Prop :=
 Fn65 x0 h (fun t21 h1 =>
 New h1 #[(.int .i64 x10)] 3 fun a23 h2 =>
 Ap h2 3 #[(.int .i64 (0:Int))] 1 8 t21 1 (rd h2 (some a23) (1 * 1)) fun t24 h3 =>
 J64_5 x0 x1 x2 x3 x4 x5 x10 x11 t24 x13 x14 x15 N1 K Kp h3) Kp
def J64_4 (x0:Sl) (x1:Sl) (x2:Bool) (x3:Addr) (x4:Addr) (x5:Addr) (x10:Int) (x11:Addr) (x13:Sl) (x14:Int) (x15:Int) (N1 : Fr → HP) (K : Bool → HP) (Kp:PK) (h:Hp) : Prop :=
 Joint (sem Tryd.prog ann64 (Dw ord64) none (sub [1, 0, 1, 0, 0, 1, 1, 0, 0, 1] code64) (ctxQ Tryd.prog ann64 (Dw ord64) none Kp [1, 0, 1, 0, 0, 1, 1, 0, 0, 1] code64 [N1] (q64 K)) Kp (([some (Sl.v x0), some (Sl.v x1), some (.bool x2), some (.pointer (some x3)), some (.pointer (some x4)), some (.pointer (some x5)), none, none, none, none, some (.int .i64 x10), some (.pointer (some x11)), none, some (Sl.v x13), some (.int .i64 x14), some (.int .i64 x15)] ++ nn 40)) h)
theorem J64_4.of {x0:Sl} {x1:Sl} {x2:Bool} {x3:Addr} {x4:Addr} {x5:Addr} {x10:Int} {x11:Addr} {x13:Sl} {x14:Int} {x15:Int} {N1 : Fr → HP} {K : Bool → HP} {Kp:PK} {h:Hp} (H : JT64_4 x0 x1 x2 x3 x4 x5 x10 x11 x13 x14 x15 N1 K Kp h) : J64_4 x0 x1 x2 x3 x4 x5 x10 x11 x13 x14 x15 N1 K Kp h :=
 Joint.mk (Eq.mp (by kernel_rfl) H)
def JT64_3 (x0:Sl) (x1:Sl) (x2:Bool) (x3:Addr) (x4:Addr) (x5:Addr) (x13:Sl) (x14:Int) (x15:Int) (x16:Bool) (N1 : Fr → HP) (K : Bool → HP) (Kp:PK) (h:Hp) : Prop :=
 If x16 (
 Ix x13.a x13.n 7 x15 fun a18 =>
 Ld h a18 (Value.string) fun t19_0 =>
 Ld h (a18.add 1) (Value.bool) fun t19_1 =>
 Ld h (a18.add 2) (Value.int .i64) fun t19_2 =>
 Ld h (a18.add 3) (Value.int .i64) fun t19_3 =>
 Ld h (a18.add 4) (Value.int .i64) fun t19_4 =>
 Ld h (a18.add 5) (Value.int .i64) fun t19_5 =>
 Ld h (a18.add 6) (Sl.v) fun t19_6 =>
 New h #[(.string (bs [])), (.bool false), (.int .i64 (0:Int)), (.int .i64 (0:Int)), (.int .i64 (0:Int)), (.int .i64 (0:Int)), (.slice none 0 0)] 63 fun a11 h1 =>
 St h1 a11 (.string t19_0) fun h2 =>
 St h2 (a11.add 1) (.bool t19_1) fun h3 =>
 St h3 (a11.add 2) (.int .i64 t19_2) fun h4 =>
 St h4 (a11.add 3) (.int .i64 t19_3) fun h5 =>
 St h5 (a11.add 4) (.int .i64 t19_4) fun h6 =>
 St h6 (a11.add 5) (.int .i64 t19_5) fun h7 =>
 St h7 (a11.add 6) (Sl.v t19_6) fun h8 =>
 J64_4 x0 x1 x2 x3 x4 x5 x15 a11 x13 x14 x15 N1 K Kp h8) (
 K true h)
def J64_3 (x0:Sl) (x1:Sl) (x2:Bool) (x3:Addr) (x4:Addr) (x5:Addr) (x13:Sl) (x14:Int) (x15:Int) (x16:Bool) (N1 : Fr → HP) (K : Bool → HP) (Kp:PK) (h:Hp) : Prop :=
 Joint (sem Tryd.prog ann64 (Dw ord64) none (sub [1, 0, 1, 0, 0, 1] code64) (ctxQ Tryd.prog ann64 (Dw ord64) none Kp [1, 0, 1, 0, 0, 1] code64 [N1] (q64 K)) Kp (([some (Sl.v x0), some (Sl.v x1), some (.bool x2), some (.pointer (some x3)), some (.pointer (some x4)), some (.pointer (some x5)), none, none, none, none, none, none, none, some (Sl.v x13), some (.int .i64 x14), some (.int .i64 x15), some (.bool x16)] ++ nn 39)) h)
theorem J64_3.of {x0:Sl} {x1:Sl} {x2:Bool} {x3:Addr} {x4:Addr} {x5:Addr} {x13:Sl} {x14:Int} {x15:Int} {x16:Bool} {N1 : Fr → HP} {K : Bool → HP} {Kp:PK} {h:Hp} (H : JT64_3 x0 x1 x2 x3 x4 x5 x13 x14 x15 x16 N1 K Kp h) : J64_3 x0 x1 x2 x3 x4 x5 x13 x14 x15 x16 N1 K Kp h :=
 Joint.mk (Eq.mp (by kernel_rfl) H)
def T64_2 (x0:Sl) (x1:Sl) (x2:Bool) (x3:Addr) (x4:Addr) (x5:Addr) (x13:Sl) (x14:Int) (K : Bool → HP) (Kp:PK) (N1 : Fr → HP) (x15:Int) (h:Hp) : Prop :=
 J64_3 x0 x1 x2 x3 x4 x5 x13 x14 x15 (decide (x15 < x14)) N1 K Kp h
def L64_2 (x0:Sl) (x1:Sl) (x2:Bool) (x3:Addr) (x4:Addr) (x5:Addr) (x13:Sl) (x14:Int) (K : Bool → HP) (Kp:PK) (x15:Int) (h:Hp) : Prop :=
 LoopH (fun N fr h => sem Tryd.prog ann64 (Dw ord64) none (sub [1, 0, 1, 0, 0] code64) (thenQ (fun fr' h' => N (Ann.find ann64 2002 fr') h') (ctxQ Tryd.prog ann64 (Dw ord64) none Kp [1, 0, 1, 0] code64 [] (q64 K))) Kp fr h) (mk64_2 x0 x1 x2 x3 x4 x5 x13 x14 x15) h
theorem L64_2.rule {x0:Sl} {x1:Sl} {x2:Bool} {x3:Addr} {x4:Addr} {x5:Addr} {x13:Sl} {x14:Int} {K : Bool → HP} {Kp:PK} (I : Int → HP) (μ : Int → Hp → Nat) {x15:Int} {h:Hp} (h0 : I x15 h)
 (step : ∀ (x15:Int) (h:Hp), I x15 h → ∀ N1 : Fr → HP, (∀ (x15':Int) (h':Hp), I x15' h' → μ x15' h' < μ x15 h → N1 (mk64_2 x0 x1 x2 x3 x4 x5 x13 x14 x15') h') → T64_2 x0 x1 x2 x3 x4 x5 x13 x14 K Kp N1 x15 h) : L64_2 x0 x1 x2 x3 x4 x5 x13 x14 K Kp x15 h :=
 loop_rule (σ := Int) (fun s => mk64_2 x0 x1 x2 x3 x4 x5 x13 x14 s) (fun N s h => T64_2 x0 x1 x2 x3 x4 x5 x13 x14 K Kp N s h) (fun N s h => by kernel_rfl) (fun s h => I s h) (fun s h => μ s h) (s0 := x15) h0 (fun s h hI N hN => step s h hI N (fun x15' h' hI' hl => hN x15' h' hI' hl))
def JT64_1 (x0:Sl) (x1:Sl) (x2:Bool) (x3:Addr) (x4:Addr) (x5:Addr) (x13:Sl) (x14:Int) (x15:Int) (K : Bool → HP) (Kp:PK) (h:Hp) : Prop :=
 L64_2 x0 x1 x2 x3 x4 x5 x13 x14 K Kp x15 h
def J64_1 (x0:Sl) (x1:Sl) (x2:Bool) (x3:Addr) (x4:Addr) (x5:Addr) (x13:Sl) (x14:Int) (x15:Int) (K : Bool → HP) (Kp:PK) (h:Hp) : Prop :=
 Joint (sem Tryd.prog ann64 (Dw ord64) none (sub [1, 0, 1] code64) (ctxQ Tryd.prog ann64 (Dw ord64) none Kp [1, 0, 1] code64 [] (q64 K)) Kp (([some (Sl.v x0), some (Sl.v x1), some (.bool x2), some (.pointer (some x3)), some (.pointer (some x4)), some (.pointer (some x5)), none, none, none, none, none, none, none, some (Sl.v x13), some (.int .i64 x14), some (.int .i64 x15)] ++ nn 40)) h)
theorem J64_1.of {x0:Sl} {x1:Sl} {x2:Bool} {x3:Addr} {x4:Addr} {x5:Addr} {x13:Sl} {x14:Int} {x15:Int} {K : Bool → HP} {Kp:PK} {h:Hp} (H : JT64_1 x0 x1 x2 x3 x4 x5 x13 x14 x15 K Kp h) : J64_1 x0 x1 x2 x3 x4 x5 x13 x14 x15 K Kp h :=
 Joint.mk (Eq.mp (by kernel_rfl) H)
def S64 (path:Sl) (l:Sl) (inDict:Bool) (c3:Addr) (c4:Addr) (c5:Addr) (h:Hp) (K : Bool → HP) (Kp:PK) : Prop :=
 J64_1 path l inDict c3 c4 c5 l (l.n:Int) (0:Int) K Kp h
theorem Fn64.of {path:Sl} {l:Sl} {inDict:Bool} {c3:Addr} {c4:Addr} {c5:Addr} {h:Hp} {K : Bool → HP} {Kp:PK} (H : S64 path l inDict c3 c4 c5 h K Kp) : Fn64 path l inDict c3 c4 c5 h K Kp :=
 fn_of2 (P := Tryd.prog) (ann := ann64) (D := DrawSem Tryd.prog ord64) (drawOk _) (c := code64) (zs := [(.bool false)]) (args := [(Sl.v path), (Sl.v l), (.bool inDict), (.pointer (some c3)), (.pointer (some c4)), (.pointer (some c5))]) (Kv := kv64 K) (Kp := Kp) (h := h) Tryd.func64 (by kernel_rfl) H (by kernel_rfl) (by kernel_rfl)
/- ### 65: Clone -/
noncomputable def code65 : Code := Tryd.f65.body.getD .skip
def ann65 : Ann := []
def ord65 : List (Nat × OT × List Nat) := []
def kv65 (K : Sl → HP) : Value → HP := fun v h => match v with | .slice r0a r0n r0c => (let r0 : Sl := ⟨r0a, r0n, r0c⟩; K r0 h) | _ => False
def S65 (s:Sl) (h:Hp) (K : Sl → HP) (Kp:PK) : Prop :=
 If (Option.isNone s.a) (
 K (⟨none, 0, 0⟩:Sl) h) (
 New h #[] 3 fun a5 h1 =>
 Ap h1 3 #[(.int .i64 (0:Int))] 1 8 (⟨some a5, 0, 0⟩:Sl) s.n (rd h1 s.a (s.n * 1)) fun t7 h2 =>
 K t7 h2)
theorem Fn65.of {s:Sl} {h:Hp} {K : Sl → HP} {Kp:PK} (H : S65 s h K Kp) : Fn65 s h K Kp :=
 fn_of2 (P := Tryd.prog) (ann := ann65) (D := DrawSem Tryd.prog ord65) (drawOk _) (c := code65) (zs := [(.slice none 0 0)]) (args := [(Sl.v s)]) (Kv := kv65 K) (Kp := Kp) (h := h) Tryd.func65 (by kernel_rfl) H (by kernel_rfl) (by kernel_rfl)
/- ### 66: named -/
noncomputable def code66 : Code := Tryd.f66.body.getD .skip
def ann66 : Ann := [(2002, [0, 6, 7])]
def ord66 : List (Nat × OT × List Nat) := []
def kv66 (K : Bool → HP) : Value → HP := fun v h => match v with | .bool r0 => (K r0 h) | _ => False
def q66 (K : Bool → HP) : Qt := retQ Tryd.prog Tryd.f66.results.toList [(.bool false)] (kv66 K)
abbrev mk66_1 (x0 : ByteArray) (x6:Int) (x7:Int) : Fr := ([some (.string x0), none, none, none, none, none, some (.int .i64 x6), some (.int .i64 x7)] ++ nn 28)
def T66_1 (x0 : ByteArray) (x6:Int) (K : Bool → HP) (Kp:PK) (N1 : Fr → HP) (x7:Int) (h:Hp) : Prop :=
 If (decide (x7 < x6)) (
 IxS x0 x7 fun t12 =>
 Fn71 t12 h (fun t14 h1 =>
 If (!t14) (
 K false h1) (
 If (x7 == (0:Int)) (
 If (decide (t12 ≥ (48:Int))) (
 If (decide (t12 ≤ (57:Int))) (
 K false h1) (
 Wr .i64 (x7 + (1:Int)) fun t28 =>
 N1 (mk66_1 x0 x6 t28) h1)) (
 Wr .i64 (x7 + (1:Int)) fun t28 =>
 N1 (mk66_1 x0 x6 t28) h1)) (
 Wr .i64 (x7 + (1:Int)) fun t28 =>
 N1 (mk66_1 x0 x6 t28) h1))) Kp) (
 If (!(x0.toList == (bs []).toList)) (
 K (decide ((x0.size:Int) ≤ (48:Int))) h) (
 K false h))
def L66_1 (x0 : ByteArray) (x6:Int) (K : Bool → HP) (Kp:PK) (x7:Int) (h:Hp) : Prop :=
 LoopH (fun N fr h => sem Tryd.prog ann66 (Dw ord66) none (sub [1, 0, 1, 0, 0] code66) (thenQ (fun fr' h' => N (Ann.find ann66 2002 fr') h') (ctxQ Tryd.prog ann66 (Dw ord66) none Kp [1, 0, 1, 0] code66 [] (q66 K))) Kp fr h) (mk66_1 x0 x6 x7) h
theorem L66_1.rule {x0 : ByteArray} {x6:Int} {K : Bool → HP} {Kp:PK} (I : Int → HP) (μ : Int → Hp → Nat) {x7:Int} {h:Hp} (h0 : I x7 h)
 (step : ∀ (x7:Int) (h:Hp), I x7 h → ∀ N1 : Fr → HP, (∀ (x7':Int) (h':Hp), I x7' h' → μ x7' h' < μ x7 h → N1 (mk66_1 x0 x6 x7') h') → T66_1 x0 x6 K Kp N1 x7 h) : L66_1 x0 x6 K Kp x7 h :=
 loop_rule (σ := Int) (fun s => mk66_1 x0 x6 s) (fun N s h => T66_1 x0 x6 K Kp N s h) (fun N s h => by kernel_rfl) (fun s h => I s h) (fun s h => μ s h) (s0 := x7) h0 (fun s h hI N hN => step s h hI N (fun x7' h' hI' hl => hN x7' h' hI' hl))
def S66 (s : ByteArray) (h:Hp) (K : Bool → HP) (Kp:PK) : Prop :=
 L66_1 s (s.size:Int) K Kp (0:Int) h
theorem Fn66.of {s : ByteArray} {h:Hp} {K : Bool → HP} {Kp:PK} (H : S66 s h K Kp) : Fn66 s h K Kp :=
 fn_of2 (P := Tryd.prog) (ann := ann66) (D := DrawSem Tryd.prog ord66) (drawOk _) (c := code66) (zs := [(.bool false)]) (args := [(.string s)]) (Kv := kv66 K) (Kp := Kp) (h := h) Tryd.func66 (by kernel_rfl) H (by kernel_rfl) (by kernel_rfl)
/- ### 67: ContainsFunc -/
noncomputable def code67 : Code := Tryd.f67.body.getD .skip
def ann67 : Ann := []
def ord67 : List (Nat × OT × List Nat) := []
def kv67 (K : Bool → HP) : Value → HP := fun v h => match v with | .bool r0 => (K r0 h) | _ => False
def S67 (s:Sl) (f : Value) (h:Hp) (K : Bool → HP) (Kp:PK) : Prop :=
 Fn72 s f h (fun t7 h1 =>
 K (decide (t7 ≥ (0:Int))) h1) Kp
theorem Fn67.of {s:Sl} {f : Value} {h:Hp} {K : Bool → HP} {Kp:PK} (H : S67 s f h K Kp) : Fn67 s f h K Kp :=
 fn_of2 (P := Tryd.prog) (ann := ann67) (D := DrawSem Tryd.prog ord67) (drawOk _) (c := code67) (zs := [(.bool false)]) (args := [(Sl.v s), f]) (Kv := kv67 K) (Kp := Kp) (h := h) Tryd.func67 (by kernel_rfl) H (by kernel_rfl) (by kernel_rfl)
/- ### 68: wrong$1 -/
noncomputable def code68 : Code := Tryd.f68.body.getD .skip
def ann68 : Ann := []
def ord68 : List (Nat × OT × List Nat) := []
def kv68 (K : Bool → HP) : Value → HP := fun v h => match v with | .bool r0 => (K r0 h) | _ => False
def S68 (g_0 : ByteArray) (g_1:Bool) (g_2:Int) (g_3:Int) (g_4:Int) (g_5:Int) (g_6:Sl) (c1:Addr) (h:Hp) (K : Bool → HP) (Kp:PK) : Prop :=
 New h #[(.string g_0), (.bool g_1), (.int .i64 g_2), (.int .i64 g_3), (.int .i64 g_4), (.int .i64 g_5), (Sl.v g_6)] 63 fun a2 h1 =>
 Ld h1 a2 (Value.string) fun t5 =>
 Ld h1 (c1.add 2) (Value.string) fun t8 =>
 K (t5.toList == t8.toList) h1
theorem Fn68.of {g_0 : ByteArray} {g_1:Bool} {g_2:Int} {g_3:Int} {g_4:Int} {g_5:Int} {g_6:Sl} {c1:Addr} {h:Hp} {K : Bool → HP} {Kp:PK} (H : S68 g_0 g_1 g_2 g_3 g_4 g_5 g_6 c1 h K Kp) : Fn68 g_0 g_1 g_2 g_3 g_4 g_5 g_6 c1 h K Kp :=
 fn_of2 (P := Tryd.prog) (ann := ann68) (D := DrawSem Tryd.prog ord68) (drawOk _) (c := code68) (zs := [(.bool false)]) (args := [(.agg #[(.string g_0), (.bool g_1), (.int .i64 g_2), (.int .i64 g_3), (.int .i64 g_4), (.int .i64 g_5), (Sl.v g_6)]), (.pointer (some c1))]) (Kv := kv68 K) (Kp := Kp) (h := h) Tryd.func68 (by kernel_rfl) H (by kernel_rfl) (by kernel_rfl)
end Go.Proofs.YtfomkkdijjfpiaaDoor
