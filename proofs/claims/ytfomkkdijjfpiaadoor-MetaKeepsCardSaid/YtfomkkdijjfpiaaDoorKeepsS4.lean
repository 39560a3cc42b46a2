/- What the functions do, printed by program (gen.py) in the words of ShCore; each text is held against the loaded program by the kernel. -/
import Derived.Test.YtfomkkdijjfpiaaDoorKeepsF
set_option linter.unusedSimpArgs false
set_option linter.unusedVariables false
set_option maxRecDepth 100000
namespace Go.Proofs.YtfomkkdijjfpiaaDoor
open Go Go.Sh
/- ### 14: sameFault -/
noncomputable def code14 : Code := Tryd.f14.body.getD .skip
def ann14 : Ann := [(2000003, [2, 3]), (2004, [2, 3, 5]), (41012, [2, 3, 17])]
def ord14 : List (Nat × OT × List Nat) := [(6, (OT.l [0, 1, 2, 3, 4, 5, 6, 7, 8, 9, 10] .fin), [0, 1, 0, 7, 15, 0, 32, 0, 224, 480, 1023])]
def kv14 (K : Bool → HP) : Value → HP := fun v h => match v with | .bool r0 => (K r0 h) | _ => False
def q14 (K : Bool → HP) : Qt := retQ Tryd.prog Tryd.f14.results.toList [(.bool false)] (kv14 K)
abbrev mk14_2 (x2:Addr) (x3:Addr) (x5:Int) : Fr := ([none, none, some (.pointer (some x2)), some (.pointer (some x3)), none, some (.int .i64 x5)] ++ nn 39)
def T14_2 (x2:Addr) (x3:Addr) (K : Bool → HP) (Kp:PK) (N1 : Fr → HP) (x5:Int) (h:Hp) : Prop :=
 Ld h (x2.add 1) (Sl.v) fun t29 =>
 If (decide (x5 < (t29.n:Int))) (
 Ld h (x2.add 1) (Sl.v) fun t35 =>
 Ix t35.a t35.n 1 x5 fun a37 =>
 Ld h a37 (Value.int .i64) fun t38 =>
 Ld h (x3.add 1) (Sl.v) fun t40 =>
 Ix t40.a t40.n 1 x5 fun a42 =>
 Ld h a42 (Value.int .i64) fun t43 =>
 If (t38 != t43) (
 K false h) (
 Wr .i64 (x5 + (1:Int)) fun t33 =>
 N1 (mk14_2 x2 x3 t33) h)) (
 K true h)
def L14_2 (x2:Addr) (x3:Addr) (K : Bool → HP) (Kp:PK) (x5:Int) (h:Hp) : Prop :=
 LoopH (fun N fr h => sem Tryd.prog ann14 (Dw ord14) none (sub [1, 1, 0, 1, 0, 0] code14) (thenQ (fun fr' h' => N (Ann.find ann14 2004 fr') h') (ctxQ Tryd.prog ann14 (Dw ord14) none Kp [1, 1, 0, 1, 0] code14 [] (q14 K))) Kp fr h) (mk14_2 x2 x3 x5) h
theorem L14_2.rule {x2:Addr} {x3:Addr} {K : Bool → HP} {Kp:PK} (I : Int → HP) (μ : Int → Hp → Nat) {x5:Int} {h:Hp} (h0 : I x5 h)
 (step : ∀ (x5:Int) (h:Hp), I x5 h → ∀ N1 : Fr → HP, (∀ (x5':Int) (h':Hp), I x5' h' → μ x5' h' < μ x5 h → N1 (mk14_2 x2 x3 x5') h') → T14_2 x2 x3 K Kp N1 x5 h) : L14_2 x2 x3 K Kp x5 h :=
 loop_rule (σ := Int) (fun s => mk14_2 x2 x3 s) (fun N s h => T14_2 x2 x3 K Kp N s h) (fun N s h => by kernel_rfl) (fun s h => I s h) (fun s h => μ s h) (s0 := x5) h0 (fun s h hI N hN => step s h hI N (fun x5' h' hI' hl => hN x5' h' hI' hl))
def JT14_1 (x2:Addr) (x3:Addr) (K : Bool → HP) (Kp:PK) (h:Hp) : Prop :=
 L14_2 x2 x3 K Kp (0:Int) h
def J14_1 (x2:Addr) (x3:Addr) (K : Bool → HP) (Kp:PK) (h:Hp) : Prop :=
 Joint (sem Tryd.prog ann14 (Dw ord14) none (sub [1, 1] code14) (ctxQ Tryd.prog ann14 (Dw ord14) none Kp [1, 1] code14 [] (q14 K)) Kp (([none, none, some (.pointer (some x2)), some (.pointer (some x3))] ++ nn 41)) h)
theorem J14_1.of {x2:Addr} {x3:Addr} {K : Bool → HP} {Kp:PK} {h:Hp} (H : JT14_1 x2 x3 K Kp h) : J14_1 x2 x3 K Kp h :=
 Joint.mk (Eq.mp (by kernel_rfl) H)
def JT14_3 (x2:Addr) (x3:Addr) (x17:Bool) (K : Bool → HP) (Kp:PK) (h:Hp) : Prop :=
 If x17 (
 K false h) (
 Ld h (x2.add 1) (Sl.v) fun t20 =>
 Ld h (x3.add 1) (Sl.v) fun t23 =>
 If ((t20.n:Int) != (t23.n:Int)) (
 K false h) (
 J14_1 x2 x3 K Kp h))
def J14_3 (x2:Addr) (x3:Addr) (x17:Bool) (K : Bool → HP) (Kp:PK) (h:Hp) : Prop :=
 Joint (semOps Tryd.prog (Ann.reg 1 ann14) (regOps (sub [1, 0, 0] code14)) [12, 13, 14, 15, 16, 17, 18, 19, 20] (ctxQ Tryd.prog ann14 (Dw ord14) none Kp [1, 0, 0] code14 [] (q14 K) .normal) Kp (([none, none, some (.pointer (some x2)), some (.pointer (some x3)), none, none, none, none, none, none, none, none, none, none, none, none, none, some (.bool x17)] ++ nn 27)) h)
theorem J14_3.of {x2:Addr} {x3:Addr} {x17:Bool} {K : Bool → HP} {Kp:PK} {h:Hp} (H : JT14_3 x2 x3 x17 K Kp h) : J14_3 x2 x3 x17 K Kp h :=
 Joint.mk (Eq.mp (by kernel_rfl) H)
def S14 (a_0:Int) (a_1:Sl) (a_2:Int) (b_0:Int) (b_1:Sl) (b_2:Int) (h:Hp) (K : Bool → HP) (Kp:PK) : Prop :=
 New h #[(.int .i64 a_0), (Sl.v a_1), (.int .i64 a_2)] 39 fun a2 h1 =>
 New h1 #[(.int .i64 b_0), (Sl.v b_1), (.int .i64 b_2)] 39 fun a3 h2 =>
 Ld h2 a2 (Value.int .i64) fun t7 =>
 Ld h2 a3 (Value.int .i64) fun t9 =>
 If (t7 != t9) (
 J14_3 a2 a3 true K Kp h2) (
 Ld h2 (a2.add 2) (Value.int .i64) fun t13 =>
 Ld h2 (a3.add 2) (Value.int .i64) fun t15 =>
 J14_3 a2 a3 (t13 != t15) K Kp h2)
theorem Fn14.of {a_0:Int} {a_1:Sl} {a_2:Int} {b_0:Int} {b_1:Sl} {b_2:Int} {h:Hp} {K : Bool → HP} {Kp:PK} (H : S14 a_0 a_1 a_2 b_0 b_1 b_2 h K Kp) : Fn14 a_0 a_1 a_2 b_0 b_1 b_2 h K Kp :=
 fn_of2 (P := Tryd.prog) (ann := ann14) (D := DrawSem Tryd.prog ord14) (drawOk _) (c := code14) (zs := [(.bool false)]) (args := [(.agg #[(.int .i64 a_0), (Sl.v a_1), (.int .i64 a_2)]), (.agg #[(.int .i64 b_0), (Sl.v b_1), (.int .i64 b_2)])]) (Kv := kv14 K) (Kp := Kp) (h := h) Tryd.func14 (by kernel_rfl) H (by kernel_rfl) (by kernel_rfl)
/- ### 15: sameHead -/
noncomputable def code15 : Code := Tryd.f15.body.getD .skip
def ann15 : Ann := [(2000003, [2, 3]), (2000005, [2, 3]), (2000010, [2, 3]), (2000015, [2, 3]), (2000020, [2, 3]), (2016, [2, 3, 7]), (2011, [2, 3, 6]), (2006, [2, 3, 5]), (43018, [2, 3, 58]), (41012, [2, 3, 19]), (41019, [2, 3, 26]), (41026, [2, 3, 33])]
def ord15 : List (Nat × OT × List Nat) := [(18, (OT.l [0, 1, 2, 3, 4, 5, 6, 7, 8, 9, 10] .fin), [0, 1, 0, 7, 15, 0, 32, 0, 224, 480, 1023]), (13, (OT.l [0, 1, 2, 3, 4, 5, 6, 7, 8, 9, 10] .fin), [0, 1, 0, 7, 15, 0, 32, 0, 224, 480, 1023]), (8, (OT.l [0, 1, 2, 3, 4, 5, 6, 7, 8, 9, 10, 11, 12] .fin), [0, 1, 3, 0, 15, 31, 0, 64, 192, 0, 960, 1984, 4095])]
def kv15 (K : Bool → HP) : Value → HP := fun v h => match v with | .bool r0 => (K r0 h) | _ => False
def q15 (K : Bool → HP) : Qt := retQ Tryd.prog Tryd.f15.results.toList [(.bool false)] (kv15 K)
def JT15_5 (x2:Addr) (x3:Addr) (K : Bool → HP) (Kp:PK) (h:Hp) : Prop :=
 Ld h (x2.add 1) (Sl.v) fun t127 =>
 Ld h (x3.add 1) (Sl.v) fun t130 =>
 Fn36 t127 t130 h (fun t131 h1 =>
 K t131 h1) Kp
def J15_5 (x2:Addr) (x3:Addr) (K : Bool → HP) (Kp:PK) (h:Hp) : Prop :=
 Joint (sem Tryd.prog ann15 (Dw ord15) none (sub [1, 1, 1, 1, 1, 1] code15) (ctxQ Tryd.prog ann15 (Dw ord15) none Kp [1, 1, 1, 1, 1, 1] code15 [] (q15 K)) Kp (([none, none, some (.pointer (some x2)), some (.pointer (some x3))] ++ nn 128)) h)
theorem J15_5.of {x2:Addr} {x3:Addr} {K : Bool → HP} {Kp:PK} {h:Hp} (H : JT15_5 x2 x3 K Kp h) : J15_5 x2 x3 K Kp h :=
 Joint.mk (Eq.mp (by kernel_rfl) H)
abbrev mk15_6 (x2:Addr) (x3:Addr) (x7:Int) : Fr := ([none, none, some (.pointer (some x2)), some (.pointer (some x3)), none, none, none, some (.int .i64 x7)] ++ nn 124)
def T15_6 (x2:Addr) (x3:Addr) (K : Bool → HP) (Kp:PK) (N1 : Fr → HP) (x7:Int) (h:Hp) : Prop :=
 Ld h (x2.add 8) (Sl.v) fun t109 =>
 If (decide (x7 < (t109.n:Int))) (
 Ld h (x2.add 8) (Sl.v) fun t115 =>
 Ix t115.a t115.n 3 x7 fun a117 =>
 Ld h a117 (Value.int .i64) fun t118_0 =>
 Ld h (a117.add 1) (Value.int .i64) fun t118_1 =>
 Ld h (a117.add 2) (Value.int .i64) fun t118_2 =>
 Ld h (x3.add 8) (Sl.v) fun t120 =>
 Ix t120.a t120.n 3 x7 fun a122 =>
 Ld h a122 (Value.int .i64) fun t123_0 =>
 Ld h (a122.add 1) (Value.int .i64) fun t123_1 =>
 Ld h (a122.add 2) (Value.int .i64) fun t123_2 =>
 If (!((t118_0 == t123_0) && ((t118_1 == t123_1) && ((t118_2 == t123_2) && true)))) (
 K false h) (
 Wr .i64 (x7 + (1:Int)) fun t113 =>
 N1 (mk15_6 x2 x3 t113) h)) (
 J15_5 x2 x3 K Kp h)
def L15_6 (x2:Addr) (x3:Addr) (K : Bool → HP) (Kp:PK) (x7:Int) (h:Hp) : Prop :=
 LoopH (fun N fr h => sem Tryd.prog ann15 (Dw ord15) none (sub [1, 1, 1, 1, 1, 0, 1, 0, 0] code15) (thenQ (fun fr' h' => N (Ann.find ann15 2016 fr') h') (ctxQ Tryd.prog ann15 (Dw ord15) none Kp [1, 1, 1, 1, 1, 0, 1, 0] code15 [] (q15 K))) Kp fr h) (mk15_6 x2 x3 x7) h
theorem L15_6.rule {x2:Addr} {x3:Addr} {K : Bool → HP} {Kp:PK} (I : Int → HP) (μ : Int → Hp → Nat) {x7:Int} {h:Hp} (h0 : I x7 h)
 (step : ∀ (x7:Int) (h:Hp), I x7 h → ∀ N1 : Fr → HP, (∀ (x7':Int) (h':Hp), I x7' h' → μ x7' h' < μ x7 h → N1 (mk15_6 x2 x3 x7') h') → T15_6 x2 x3 K Kp N1 x7 h) : L15_6 x2 x3 K Kp x7 h :=
 loop_rule (σ := Int) (fun s => mk15_6 x2 x3 s) (fun N s h => T15_6 x2 x3 K Kp N s h) (fun N s h => by kernel_rfl) (fun s h => I s h) (fun s h => μ s h) (s0 := x7) h0 (fun s h hI N hN => step s h hI N (fun x7' h' hI' hl => hN x7' h' hI' hl))
def JT15_4 (x2:Addr) (x3:Addr) (K : Bool → HP) (Kp:PK) (h:Hp) : Prop :=
 L15_6 x2 x3 K Kp (0:Int) h
def J15_4 (x2:Addr) (x3:Addr) (K : Bool → HP) (Kp:PK) (h:Hp) : Prop :=
 Joint (sem Tryd.prog ann15 (Dw ord15) none (sub [1, 1, 1, 1, 1] code15) (ctxQ Tryd.prog ann15 (Dw ord15) none Kp [1, 1, 1, 1, 1] code15 [] (q15 K)) Kp (([none, none, some (.pointer (some x2)), some (.pointer (some x3))] ++ nn 128)) h)
theorem J15_4.of {x2:Addr} {x3:Addr} {K : Bool → HP} {Kp:PK} {h:Hp} (H : JT15_4 x2 x3 K Kp h) : J15_4 x2 x3 K Kp h :=
 Joint.mk (Eq.mp (by kernel_rfl) H)
abbrev mk15_7 (x2:Addr) (x3:Addr) (x6:Int) : Fr := ([none, none, some (.pointer (some x2)), some (.pointer (some x3)), none, none, some (.int .i64 x6)] ++ nn 125)
def T15_7 (x2:Addr) (x3:Addr) (K : Bool → HP) (Kp:PK) (N1 : Fr → HP) (x6:Int) (h:Hp) : Prop :=
 Ld h (x2.add 7) (Sl.v) fun t91 =>
 If (decide (x6 < (t91.n:Int))) (
 Ld h (x2.add 7) (Sl.v) fun t97 =>
 Ix t97.a t97.n 2 x6 fun a99 =>
 Ld h a99 (Value.int .i64) fun t100_0 =>
 Ld h (a99.add 1) (Value.int .i64) fun t100_1 =>
 Ld h (x3.add 7) (Sl.v) fun t102 =>
 Ix t102.a t102.n 2 x6 fun a104 =>
 Ld h a104 (Value.int .i64) fun t105_0 =>
 Ld h (a104.add 1) (Value.int .i64) fun t105_1 =>
 If (!((t100_0 == t105_0) && ((t100_1 == t105_1) && true))) (
 K false h) (
 Wr .i64 (x6 + (1:Int)) fun t95 =>
 N1 (mk15_7 x2 x3 t95) h)) (
 J15_4 x2 x3 K Kp h)
def L15_7 (x2:Addr) (x3:Addr) (K : Bool → HP) (Kp:PK) (x6:Int) (h:Hp) : Prop :=
 LoopH (fun N fr h => sem Tryd.prog ann15 (Dw ord15) none (sub [1, 1, 1, 1, 0, 1, 0, 0] code15) (thenQ (fun fr' h' => N (Ann.find ann15 2011 fr') h') (ctxQ Tryd.prog ann15 (Dw ord15) none Kp [1, 1, 1, 1, 0, 1, 0] code15 [] (q15 K))) Kp fr h) (mk15_7 x2 x3 x6) h
theorem L15_7.rule {x2:Addr} {x3:Addr} {K : Bool → HP} {Kp:PK} (I : Int → HP) (μ : Int → Hp → Nat) {x6:Int} {h:Hp} (h0 : I x6 h)
 (step : ∀ (x6:Int) (h:Hp), I x6 h → ∀ N1 : Fr → HP, (∀ (x6':Int) (h':Hp), I x6' h' → μ x6' h' < μ x6 h → N1 (mk15_7 x2 x3 x6') h') → T15_7 x2 x3 K Kp N1 x6 h) : L15_7 x2 x3 K Kp x6 h :=
 loop_rule (σ := Int) (fun s => mk15_7 x2 x3 s) (fun N s h => T15_7 x2 x3 K Kp N s h) (fun N s h => by kernel_rfl) (fun s h => I s h) (fun s h => μ s h) (s0 := x6) h0 (fun s h hI N hN => step s h hI N (fun x6' h' hI' hl => hN x6' h' hI' hl))
def JT15_3 (x2:Addr) (x3:Addr) (K : Bool → HP) (Kp:PK) (h:Hp) : Prop :=
 L15_7 x2 x3 K Kp (0:Int) h
def J15_3 (x2:Addr) (x3:Addr) (K : Bool → HP) (Kp:PK) (h:Hp) : Prop :=
 Joint (sem Tryd.prog ann15 (Dw ord15) none (sub [1, 1, 1, 1] code15) (ctxQ Tryd.prog ann15 (Dw ord15) none Kp [1, 1, 1, 1] code15 [] (q15 K)) Kp (([none, none, some (.pointer (some x2)), some (.pointer (some x3))] ++ nn 128)) h)
theorem J15_3.of {x2:Addr} {x3:Addr} {K : Bool → HP} {Kp:PK} {h:Hp} (H : JT15_3 x2 x3 K Kp h) : J15_3 x2 x3 K Kp h :=
 Joint.mk (Eq.mp (by kernel_rfl) H)
abbrev mk15_8 (x2:Addr) (x3:Addr) (x5:Int) : Fr := ([none, none, some (.pointer (some x2)), some (.pointer (some x3)), none, some (.int .i64 x5)] ++ nn 126)
def T15_8 (x2:Addr) (x3:Addr) (K : Bool → HP) (Kp:PK) (N1 : Fr → HP) (x5:Int) (h:Hp) : Prop :=
 Ld h ((x2.add 1).add 1) (Sl.v) fun t71 =>
 If (decide (x5 < (t71.n:Int))) (
 Ld h ((x2.add 1).add 1) (Sl.v) fun t78 =>
 Ix t78.a t78.n 2 x5 fun a80 =>
 Ld h a80 (Value.string) fun t81_0 =>
 Ld h (a80.add 1) (Value.string) fun t81_1 =>
 Ld h ((x3.add 1).add 1) (Sl.v) fun t84 =>
 Ix t84.a t84.n 2 x5 fun a86 =>
 Ld h a86 (Value.string) fun t87_0 =>
 Ld h (a86.add 1) (Value.string) fun t87_1 =>
 If (!((t81_0 == t87_0) && ((t81_1 == t87_1) && true))) (
 K false h) (
 Wr .i64 (x5 + (1:Int)) fun t75 =>
 N1 (mk15_8 x2 x3 t75) h)) (
 J15_3 x2 x3 K Kp h)
def L15_8 (x2:Addr) (x3:Addr) (K : Bool → HP) (Kp:PK) (x5:Int) (h:Hp) : Prop :=
 LoopH (fun N fr h => sem Tryd.prog ann15 (Dw ord15) none (sub [1, 1, 1, 0, 1, 0, 0] code15) (thenQ (fun fr' h' => N (Ann.find ann15 2006 fr') h') (ctxQ Tryd.prog ann15 (Dw ord15) none Kp [1, 1, 1, 0, 1, 0] code15 [] (q15 K))) Kp fr h) (mk15_8 x2 x3 x5) h
theorem L15_8.rule {x2:Addr} {x3:Addr} {K : Bool → HP} {Kp:PK} (I : Int → HP) (μ : Int → Hp → Nat) {x5:Int} {h:Hp} (h0 : I x5 h)
 (step : ∀ (x5:Int) (h:Hp), I x5 h → ∀ N1 : Fr → HP, (∀ (x5':Int) (h':Hp), I x5' h' → μ x5' h' < μ x5 h → N1 (mk15_8 x2 x3 x5') h') → T15_8 x2 x3 K Kp N1 x5 h) : L15_8 x2 x3 K Kp x5 h :=
 loop_rule (σ := Int) (fun s => mk15_8 x2 x3 s) (fun N s h => T15_8 x2 x3 K Kp N s h) (fun N s h => by kernel_rfl) (fun s h => I s h) (fun s h => μ s h) (s0 := x5) h0 (fun s h hI N hN => step s h hI N (fun x5' h' hI' hl => hN x5' h' hI' hl))
def JT15_2 (x2:Addr) (x3:Addr) (K : Bool → HP) (Kp:PK) (h:Hp) : Prop :=
 L15_8 x2 x3 K Kp (0:Int) h
def J15_2 (x2:Addr) (x3:Addr) (K : Bool → HP) (Kp:PK) (h:Hp) : Prop :=
 Joint (sem Tryd.prog ann15 (Dw ord15) none (sub [1, 1, 1] code15) (ctxQ Tryd.prog ann15 (Dw ord15) none Kp [1, 1, 1] code15 [] (q15 K)) Kp (([none, none, some (.pointer (some x2)), some (.pointer (some x3))] ++ nn 128)) h)
theorem J15_2.of {x2:Addr} {x3:Addr} {K : Bool → HP} {Kp:PK} {h:Hp} (H : JT15_2 x2 x3 K Kp h) : J15_2 x2 x3 K Kp h :=
 Joint.mk (Eq.mp (by kernel_rfl) H)
def JT15_9 (x2:Addr) (x3:Addr) (x58:Bool) (K : Bool → HP) (Kp:PK) (h:Hp) : Prop :=
 If x58 (
 K false h) (
 Ld h (x2.add 8) (Sl.v) fun t61 =>
 Ld h (x3.add 8) (Sl.v) fun t64 =>
 If ((t61.n:Int) != (t64.n:Int)) (
 K false h) (
 J15_2 x2 x3 K Kp h))
def J15_9 (x2:Addr) (x3:Addr) (x58:Bool) (K : Bool → HP) (Kp:PK) (h:Hp) : Prop :=
 Joint (semOps Tryd.prog (Ann.reg 3 ann15) (regOps (sub [1, 1, 0, 0] code15)) [18, 19, 20, 21, 22, 23, 24, 25, 26] (ctxQ Tryd.prog ann15 (Dw ord15) none Kp [1, 1, 0, 0] code15 [] (q15 K) .normal) Kp (([none, none, some (.pointer (some x2)), some (.pointer (some x3)), none, none, none, none, none, none, none, none, none, none, none, none, none, none, none, none, none, none, none, none, none, none, none, none, none, none, none, none, none, none, none, none, none, none, none, none, none, none, none, none, none, none, none, none, none, none, none, none, none, none, none, none, none, none, some (.bool x58)] ++ nn 73)) h)
theorem J15_9.of {x2:Addr} {x3:Addr} {x58:Bool} {K : Bool → HP} {Kp:PK} {h:Hp} (H : JT15_9 x2 x3 x58 K Kp h) : J15_9 x2 x3 x58 K Kp h :=
 Joint.mk (Eq.mp (by kernel_rfl) H)
def JT15_1 (x2:Addr) (x3:Addr) (K : Bool → HP) (Kp:PK) (h:Hp) : Prop :=
 Ld h ((x2.add 1).add 1) (Sl.v) fun t43 =>
 Ld h ((x3.add 1).add 1) (Sl.v) fun t47 =>
 If ((t43.n:Int) != (t47.n:Int)) (
 J15_9 x2 x3 true K Kp h) (
 Ld h (x2.add 7) (Sl.v) fun t52 =>
 Ld h (x3.add 7) (Sl.v) fun t55 =>
 J15_9 x2 x3 ((t52.n:Int) != (t55.n:Int)) K Kp h)
def J15_1 (x2:Addr) (x3:Addr) (K : Bool → HP) (Kp:PK) (h:Hp) : Prop :=
 Joint (sem Tryd.prog ann15 (Dw ord15) none (sub [1, 1] code15) (ctxQ Tryd.prog ann15 (Dw ord15) none Kp [1, 1] code15 [] (q15 K)) Kp (([none, none, some (.pointer (some x2)), some (.pointer (some x3))] ++ nn 128)) h)
theorem J15_1.of {x2:Addr} {x3:Addr} {K : Bool → HP} {Kp:PK} {h:Hp} (H : JT15_1 x2 x3 K Kp h) : J15_1 x2 x3 K Kp h :=
 Joint.mk (Eq.mp (by kernel_rfl) H)
def JT15_12 (x2:Addr) (x3:Addr) (x33:Bool) (K : Bool → HP) (Kp:PK) (h:Hp) : Prop :=
 If x33 (
 K false h) (
 Ld h (x2.add 6) (Value.int .i64) fun t36 =>
 Ld h (x3.add 6) (Value.int .i64) fun t38 =>
 If (t36 != t38) (
 K false h) (
 J15_1 x2 x3 K Kp h))
def J15_12 (x2:Addr) (x3:Addr) (x33:Bool) (K : Bool → HP) (Kp:PK) (h:Hp) : Prop :=
 Joint (semOps Tryd.prog (Ann.reg 1 ann15) (regOps (sub [1, 0, 0] code15)) [26, 27, 28, 29, 30, 31, 32] (ctxQ Tryd.prog ann15 (Dw ord15) none Kp [1, 0, 0] code15 [] (q15 K) .normal) Kp (([none, none, some (.pointer (some x2)), some (.pointer (some x3)), none, none, none, none, none, none, none, none, none, none, none, none, none, none, none, none, none, none, none, none, none, none, none, none, none, none, none, none, none, some (.bool x33)] ++ nn 98)) h)
theorem J15_12.of {x2:Addr} {x3:Addr} {x33:Bool} {K : Bool → HP} {Kp:PK} {h:Hp} (H : JT15_12 x2 x3 x33 K Kp h) : J15_12 x2 x3 x33 K Kp h :=
 Joint.mk (Eq.mp (by kernel_rfl) H)
def JT15_11 (x2:Addr) (x3:Addr) (x26:Bool) (K : Bool → HP) (Kp:PK) (h:Hp) : Prop :=
 If x26 (
 J15_12 x2 x3 true K Kp h) (
 Ld h (x2.add 5) (Value.int .i64) fun t29 =>
 Ld h (x3.add 5) (Value.int .i64) fun t31 =>
 J15_12 x2 x3 (t29 != t31) K Kp h)
def J15_11 (x2:Addr) (x3:Addr) (x26:Bool) (K : Bool → HP) (Kp:PK) (h:Hp) : Prop :=
 Joint (semOps Tryd.prog (Ann.reg 1 ann15) (regOps (sub [1, 0, 0] code15)) [19, 20, 21, 22, 23, 24, 25, 26, 27, 28, 29, 30, 31, 32] (ctxQ Tryd.prog ann15 (Dw ord15) none Kp [1, 0, 0] code15 [] (q15 K) .normal) Kp (([none, none, some (.pointer (some x2)), some (.pointer (some x3)), none, none, none, none, none, none, none, none, none, none, none, none, none, none, none, none, none, none, none, none, none, none, some (.bool x26)] ++ nn 105)) h)
theorem J15_11.of {x2:Addr} {x3:Addr} {x26:Bool} {K : Bool → HP} {Kp:PK} {h:Hp} (H : JT15_11 x2 x3 x26 K Kp h) : J15_11 x2 x3 x26 K Kp h :=
 Joint.mk (Eq.mp (by kernel_rfl) H)
def JT15_10 (x2:Addr) (x3:Addr) (x19:Bool) (K : Bool → HP) (Kp:PK) (h:Hp) : Prop :=
 If x19 (
 J15_11 x2 x3 true K Kp h) (
 Ld h (x2.add 4) (Value.bool) fun t22 =>
 Ld h (x3.add 4) (Value.bool) fun t24 =>
 J15_11 x2 x3 (!(t22 == t24)) K Kp h)
def J15_10 (x2:Addr) (x3:Addr) (x19:Bool) (K : Bool → HP) (Kp:PK) (h:Hp) : Prop :=
 Joint (semOps Tryd.prog (Ann.reg 1 ann15) (regOps (sub [1, 0, 0] code15)) [12, 13, 14, 15, 16, 17, 18, 19, 20, 21, 22, 23, 24, 25, 26, 27, 28, 29, 30, 31, 32] (ctxQ Tryd.prog ann15 (Dw ord15) none Kp [1, 0, 0] code15 [] (q15 K) .normal) Kp (([none, none, some (.pointer (some x2)), some (.pointer (some x3)), none, none, none, none, none, none, none, none, none, none, none, none, none, none, none, some (.bool x19)] ++ nn 112)) h)
theorem J15_10.of {x2:Addr} {x3:Addr} {x19:Bool} {K : Bool → HP} {Kp:PK} {h:Hp} (H : JT15_10 x2 x3 x19 K Kp h) : J15_10 x2 x3 x19 K Kp h :=
 Joint.mk (Eq.mp (by kernel_rfl) H)
def S15 (a_0:Int) (a_1:Sl) (a_2:Sl) (a_3:Int) (a_4:Bool) (a_5:Int) (a_6:Int) (a_7:Sl) (a_8:Sl) (b_0:Int) (b_1:Sl) (b_2:Sl) (b_3:Int) (b_4:Bool) (b_5:Int) (b_6:Int) (b_7:Sl) (b_8:Sl) (h:Hp) (K : Bool → HP) (Kp:PK) : Prop :=
 New h #[(.int .i64 a_0), (Sl.v a_1), (Sl.v a_2), (.int .i64 a_3), (.bool a_4), (.int .i64 a_5), (.int .i64 a_6), (Sl.v a_7), (Sl.v a_8)] 29 fun a2 h1 =>
 New h1 #[(.int .i64 b_0), (Sl.v b_1), (Sl.v b_2), (.int .i64 b_3), (.bool b_4), (.int .i64 b_5), (.int .i64 b_6), (Sl.v b_7), (Sl.v b_8)] 29 fun a3 h2 =>
 Ld h2 a2 (Value.int .i64) fun t9 =>
 Ld h2 a3 (Value.int .i64) fun t11 =>
 If (t9 != t11) (
 J15_10 a2 a3 true K Kp h2) (
 Ld h2 (a2.add 3) (Value.int .i64) fun t15 =>
 Ld h2 (a3.add 3) (Value.int .i64) fun t17 =>
 J15_10 a2 a3 (t15 != t17) K Kp h2)
theorem Fn15.of {a_0:Int} {a_1:Sl} {a_2:Sl} {a_3:Int} {a_4:Bool} {a_5:Int} {a_6:Int} {a_7:Sl} {a_8:Sl} {b_0:Int} {b_1:Sl} {b_2:Sl} {b_3:Int} {b_4:Bool} {b_5:Int} {b_6:Int} {b_7:Sl} {b_8:Sl} {h:Hp} {K : Bool → HP} {Kp:PK} (H : S15 a_0 a_1 a_2 a_3 a_4 a_5 a_6 a_7 a_8 b_0 b_1 b_2 b_3 b_4 b_5 b_6 b_7 b_8 h K Kp) : Fn15 a_0 a_1 a_2 a_3 a_4 a_5 a_6 a_7 a_8 b_0 b_1 b_2 b_3 b_4 b_5 b_6 b_7 b_8 h K Kp :=
 fn_of2 (P := Tryd.prog) (ann := ann15) (D := DrawSem Tryd.prog ord15) (drawOk _) (c := code15) (zs := [(.bool false)]) (args := [(.agg #[(.int .i64 a_0), (Sl.v a_1), (Sl.v a_2), (.int .i64 a_3), (.bool a_4), (.int .i64 a_5), (.int .i64 a_6), (Sl.v a_7), (Sl.v a_8)]), (.agg #[(.int .i64 b_0), (Sl.v b_1), (Sl.v b_2), (.int .i64 b_3), (.bool b_4), (.int .i64 b_5), (.int .i64 b_6), (Sl.v b_7), (Sl.v b_8)])]) (Kv := kv15 K) (Kp := Kp) (h := h) Tryd.func15 (by kernel_rfl) H (by kernel_rfl) (by kernel_rfl)
end Go.Proofs.YtfomkkdijjfpiaaDoor
