/- What the functions do, printed by program (gen.py) in the words of ShCore; each text is held against the loaded program by the kernel. -/
import Derived.Test.YtfomkkdijjfpiaaDoorKeepsF
set_option linter.unusedSimpArgs false
set_option linter.unusedVariables false
set_option maxRecDepth 100000
namespace Go.Proofs.YtfomkkdijjfpiaaDoor
open Go Go.Sh
/- ### 38: wideFields -/
noncomputable def code38 : Code := Tryd.f38.body.getD .skip
def ann38 : Ann := [(2000008, [0, 3]), (2009, [0, 3, 6]), (2003, [0, 3, 4])]
def ord38 : List (Nat × OT × List Nat) := []
def kv38 (K : Sl → HP) : Value → HP := fun v h => match v with | .slice r0a r0n r0c => (let r0 : Sl := ⟨r0a, r0n, r0c⟩; K r0 h) | _ => False
def q38 (K : Sl → HP) : Qt := retQ Tryd.prog Tryd.f38.results.toList [(.slice none 0 0)] (kv38 K)
abbrev mk38_2 (x0:Sl) (x3:Sl) (x6:Int) : Fr := ([some (Sl.v x0), none, none, some (Sl.v x3), none, none, some (.int .i64 x6)] ++ nn 34)
def T38_2 (x0:Sl) (K : Sl → HP) (Kp:PK) (N1 : Fr → HP) (x3:Sl) (x6:Int) (h:Hp) : Prop :=
 If (decide (x6 < (3:Int))) (
 Fn53 x6 h (fun t34_0 t34_1 t34_2 t34_3 t34_4 t34_5 t34_6 h1 =>
 New h1 #[(.string t34_0), (.bool t34_1), (.int .i64 t34_2), (.int .i64 t34_3), (.int .i64 t34_4), (.int .i64 t34_5), (Sl.v t34_6)] 63 fun a35 h2 =>
 Ap h2 63 #[(.string (bs [])), (.bool false), (.int .i64 (0:Int)), (.int .i64 (0:Int)), (.int .i64 (0:Int)), (.int .i64 (0:Int)), (.slice none 0 0)] 7 80 x3 1 (rd h2 (some a35) (1 * 7)) fun t36 h3 =>
 Wr .i64 (x6 + (1:Int)) fun t31 =>
 N1 (mk38_2 x0 t36 t31) h3) Kp) (
 Slc x3 7 none (some (x0.n:Int)) none fun t40 =>
 K t40 h)
def L38_2 (x0:Sl) (K : Sl → HP) (Kp:PK) (x3:Sl) (x6:Int) (h:Hp) : Prop :=
 LoopH (fun N fr h => sem Tryd.prog ann38 (Dw ord38) none (sub [1, 1, 1, 0, 1, 0, 0] code38) (thenQ (fun fr' h' => N (Ann.find ann38 2009 fr') h') (ctxQ Tryd.prog ann38 (Dw ord38) none Kp [1, 1, 1, 0, 1, 0] code38 [] (q38 K))) Kp fr h) (mk38_2 x0 x3 x6) h
theorem L38_2.rule {x0:Sl} {K : Sl → HP} {Kp:PK} (I : Sl → Int → HP) (μ : Sl → Int → Hp → Nat) {x3:Sl} {x6:Int} {h:Hp} (h0 : I x3 x6 h)
 (step : ∀ (x3:Sl) (x6:Int) (h:Hp), I x3 x6 h → ∀ N1 : Fr → HP, (∀ (x3':Sl) (x6':Int) (h':Hp), I x3' x6' h' → μ x3' x6' h' < μ x3 x6 h → N1 (mk38_2 x0 x3' x6') h') → T38_2 x0 K Kp N1 x3 x6 h) : L38_2 x0 K Kp x3 x6 h :=
 loop_rule (σ := Sl × Int) (fun s => mk38_2 x0 s.1 s.2) (fun N s h => T38_2 x0 K Kp N s.1 s.2 h) (fun N s h => by kernel_rfl) (fun s h => I s.1 s.2 h) (fun s h => μ s.1 s.2 h) (s0 := ⟨x3, x6⟩) h0 (fun s h hI N hN => step s.1 s.2 h hI N (fun x3' x6' h' hI' hl => hN ⟨x3', x6'⟩ h' hI' hl))
def JT38_1 (x0:Sl) (x3:Sl) (K : Sl → HP) (Kp:PK) (h:Hp) : Prop :=
 L38_2 x0 K Kp x3 (0:Int) h
def J38_1 (x0:Sl) (x3:Sl) (K : Sl → HP) (Kp:PK) (h:Hp) : Prop :=
 Joint (sem Tryd.prog ann38 (Dw ord38) none (sub [1, 1, 1] code38) (ctxQ Tryd.prog ann38 (Dw ord38) none Kp [1, 1, 1] code38 [] (q38 K)) Kp (([some (Sl.v x0), none, none, some (Sl.v x3)] ++ nn 37)) h)
theorem J38_1.of {x0:Sl} {x3:Sl} {K : Sl → HP} {Kp:PK} {h:Hp} (H : JT38_1 x0 x3 K Kp h) : J38_1 x0 x3 K Kp h :=
 Joint.mk (Eq.mp (by kernel_rfl) H)
abbrev mk38_3 (x0:Sl) (x3:Sl) (x4:Int) : Fr := ([some (Sl.v x0), none, none, some (Sl.v x3), some (.int .i64 x4)] ++ nn 36)
def T38_3 (x0:Sl) (K : Sl → HP) (Kp:PK) (N1 : Fr → HP) (x3:Sl) (x4:Int) (h:Hp) : Prop :=
 If (decide (x4 < (x0.n:Int))) (
 Ix x0.a x0.n 7 x4 fun a16 =>
 Ld h a16 (Value.string) fun t17_0 =>
 Ld h (a16.add 1) (Value.bool) fun t17_1 =>
 Ld h (a16.add 2) (Value.int .i64) fun t17_2 =>
 Ld h (a16.add 3) (Value.int .i64) fun t17_3 =>
 Ld h (a16.add 4) (Value.int .i64) fun t17_4 =>
 Ld h (a16.add 5) (Value.int .i64) fun t17_5 =>
 Ld h (a16.add 6) (Sl.v) fun t17_6 =>
 New h #[(.string (bs [])), (.bool false), (.int .i64 (0:Int)), (.int .i64 (0:Int)), (.int .i64 (0:Int)), (.int .i64 (0:Int)), (.slice none 0 0)] 63 fun a5 h1 =>
 St h1 a5 (.string t17_0) fun h2 =>
 St h2 (a5.add 1) (.bool t17_1) fun h3 =>
 St h3 (a5.add 2) (.int .i64 t17_2) fun h4 =>
 St h4 (a5.add 3) (.int .i64 t17_3) fun h5 =>
 St h5 (a5.add 4) (.int .i64 t17_4) fun h6 =>
 St h6 (a5.add 5) (.int .i64 t17_5) fun h7 =>
 St h7 (a5.add 6) (Sl.v t17_6) fun h8 =>
 Ld h8 ((a5.add 2).add 4) (Sl.v) fun t20 =>
 Fn38 t20 h8 (fun t21 h9 =>
 St h9 ((a5.add 2).add 4) (Sl.v t21) fun h10 =>
 Ld h10 a5 (Value.string) fun t25_0 =>
 Ld h10 (a5.add 1) (Value.bool) fun t25_1 =>
 Ld h10 (a5.add 2) (Value.int .i64) fun t25_2 =>
 Ld h10 (a5.add 3) (Value.int .i64) fun t25_3 =>
 Ld h10 (a5.add 4) (Value.int .i64) fun t25_4 =>
 Ld h10 (a5.add 5) (Value.int .i64) fun t25_5 =>
 Ld h10 (a5.add 6) (Sl.v) fun t25_6 =>
 New h10 #[(.string t25_0), (.bool t25_1), (.int .i64 t25_2), (.int .i64 t25_3), (.int .i64 t25_4), (.int .i64 t25_5), (Sl.v t25_6)] 63 fun a26 h11 =>
 Ap h11 63 #[(.string (bs [])), (.bool false), (.int .i64 (0:Int)), (.int .i64 (0:Int)), (.int .i64 (0:Int)), (.int .i64 (0:Int)), (.slice none 0 0)] 7 80 x3 1 (rd h11 (some a26) (1 * 7)) fun t27 h12 =>
 Wr .i64 (x4 + (1:Int)) fun t13 =>
 N1 (mk38_3 x0 t27 t13) h12) Kp) (
 J38_1 x0 x3 K Kp h)
def L38_3 (x0:Sl) (K : Sl → HP) (Kp:PK) (x3:Sl) (x4:Int) (h:Hp) : Prop :=
 LoopH (fun N fr h => sem Tryd.prog ann38 (Dw ord38) none (sub [1, 1, 0, 1, 0, 0] code38) (thenQ (fun fr' h' => N (Ann.find ann38 2003 fr') h') (ctxQ Tryd.prog ann38 (Dw ord38) none Kp [1, 1, 0, 1, 0] code38 [] (q38 K))) Kp fr h) (mk38_3 x0 x3 x4) h
theorem L38_3.rule {x0:Sl} {K : Sl → HP} {Kp:PK} (I : Sl → Int → HP) (μ : Sl → Int → Hp → Nat) {x3:Sl} {x4:Int} {h:Hp} (h0 : I x3 x4 h)
 (step : ∀ (x3:Sl) (x4:Int) (h:Hp), I x3 x4 h → ∀ N1 : Fr → HP, (∀ (x3':Sl) (x4':Int) (h':Hp), I x3' x4' h' → μ x3' x4' h' < μ x3 x4 h → N1 (mk38_3 x0 x3' x4') h') → T38_3 x0 K Kp N1 x3 x4 h) : L38_3 x0 K Kp x3 x4 h :=
 loop_rule (σ := Sl × Int) (fun s => mk38_3 x0 s.1 s.2) (fun N s h => T38_3 x0 K Kp N s.1 s.2 h) (fun N s h => by kernel_rfl) (fun s h => I s.1 s.2 h) (fun s h => μ s.1 s.2 h) (s0 := ⟨x3, x4⟩) h0 (fun s h hI N hN => step s.1 s.2 h hI N (fun x3' x4' h' hI' hl => hN ⟨x3', x4'⟩ h' hI' hl))
def S38 (l:Sl) (h:Hp) (K : Sl → HP) (Kp:PK) : Prop :=
 New h #[] 63 fun a7 h1 =>
 L38_3 l K Kp (⟨some a7, 0, 0⟩:Sl) (0:Int) h1
theorem Fn38.of {l:Sl} {h:Hp} {K : Sl → HP} {Kp:PK} (H : S38 l h K Kp) : Fn38 l h K Kp :=
 fn_of2 (P := Tryd.prog) (ann := ann38) (D := DrawSem Tryd.prog ord38) (drawOk _) (c := code38) (zs := [(.slice none 0 0)]) (args := [(Sl.v l)]) (Kv := kv38 K) (Kp := Kp) (h := h) Tryd.func38 (by kernel_rfl) H (by kernel_rfl) (by kernel_rfl)
/- ### 39: keptFields -/
noncomputable def code39 : Code := Tryd.f39.body.getD .skip
def ann39 : Ann := [(2000010, [0, 1]), (2011, [0, 1, 8]), (2000014, [0, 1, 8, 9, 10]), (2000016, [0, 1, 8, 9, 10, 104, 105, 106, 107, 108, 109, 110]), (54012, [0, 1, 8, 9, 10, 75]), (54021, [0, 1, 8, 9, 10, 84]), (54030, [0, 1, 8, 9, 10, 93]), (54039, [0, 1, 8, 9, 10, 102]), (2005, [0, 1, 5, 6]), (48011, [0, 1, 5, 6, 7, 42])]
def ord39 : List (Nat × OT × List Nat) := [(13, (OT.l [0, 1, 2, 3, 4, 5, 6, 7] (.alt (OT.l [8, 9, 10, 11] .fin) (OT.l [9, 8, 10, 11] .fin))), [0, 0, 3, 7, 0, 0, 48, 112, 0, 0, 783, 2047])]
def kv39 (K : Bool → HP) : Value → HP := fun v h => match v with | .bool r0 => (K r0 h) | _ => False
def q39 (K : Bool → HP) : Qt := retQ Tryd.prog Tryd.f39.results.toList [(.bool false)] (kv39 K)
abbrev mk39_2 (x0:Sl) (x1:Sl) (x8:Int) : Fr := ([some (Sl.v x0), some (Sl.v x1), none, none, none, none, none, none, some (.int .i64 x8)] ++ nn 111)
def JT39_4 (x0:Sl) (x1:Sl) (x8:Int) (x9:Addr) (x10:Addr) (x104:Addr) (x105:Addr) (x106:Int) (x107:Addr) (x108:Addr) (x109:Int) (x110:Bool) (N1 : Fr → HP) (K : Bool → HP) (Kp:PK) (h:Hp) : Prop :=
 Ld h ((x9.add 2).add 4) (Sl.v) fun t114 =>
 Ld h ((x10.add 2).add 4) (Sl.v) fun t117 =>
 Fn39 t114 t117 h (fun t118 h1 =>
 If (!t118) (
 K false h1) (
 Wr .i64 (x8 + (1:Int)) fun t55 =>
 N1 (mk39_2 x0 x1 t55) h1)) Kp
def J39_4 (x0:Sl) (x1:Sl) (x8:Int) (x9:Addr) (x10:Addr) (x104:Addr) (x105:Addr) (x106:Int) (x107:Addr) (x108:Addr) (x109:Int) (x110:Bool) (N1 : Fr → HP) (K : Bool → HP) (Kp:PK) (h:Hp) : Prop :=
 Joint (sem Tryd.prog ann39 (Dw ord39) none (sub [1, 1, 1, 1, 0, 1, 0, 0, 1, 0, 0, 1, 1] code39) (ctxQ Tryd.prog ann39 (Dw ord39) none Kp [1, 1, 1, 1, 0, 1, 0, 0, 1, 0, 0, 1, 1] code39 [N1] (q39 K)) Kp (([some (Sl.v x0), some (Sl.v x1), none, none, none, none, none, none, some (.int .i64 x8), some (.pointer (some x9)), some (.pointer (some x10)), none, none, none, none, none, none, none, none, none, none, none, none, none, none, none, none, none, none, none, none, none, none, none, none, none, none, none, none, none, none, none, none, none, none, none, none, none, none, none, none, none, none, none, none, none, none, none, none, none, none, none, none, none, none, none, none, none, none, none, none, none, none, none, none, none, none, none, none, none, none, none, none, none, none, none, none, none, none, none, none, none, none, none, none, none, none, none, none, none, none, none, none, none, some (.pointer (some x104)), some (.pointer (some x105)), some (.int .i64 x106), some (.pointer (some x107)), some (.pointer (some x108)), some (.int .i64 x109), some (.bool x110)] ++ nn 9)) h)
theorem J39_4.of {x0:Sl} {x1:Sl} {x8:Int} {x9:Addr} {x10:Addr} {x104:Addr} {x105:Addr} {x106:Int} {x107:Addr} {x108:Addr} {x109:Int} {x110:Bool} {N1 : Fr → HP} {K : Bool → HP} {Kp:PK} {h:Hp} (H : JT39_4 x0 x1 x8 x9 x10 x104 x105 x106 x107 x108 x109 x110 N1 K Kp h) : J39_4 x0 x1 x8 x9 x10 x104 x105 x106 x107 x108 x109 x110 N1 K Kp h :=
 Joint.mk (Eq.mp (by kernel_rfl) H)
def JT39_8 (x0:Sl) (x1:Sl) (x8:Int) (x9:Addr) (x10:Addr) (x102:Bool) (N1 : Fr → HP) (K : Bool → HP) (Kp:PK) (h:Hp) : Prop :=
 If x102 (
 K false h) (
 Ld h ((x9.add 2).add 3) (Value.int .i64) fun t106 =>
 Ld h ((x10.add 2).add 3) (Value.int .i64) fun t109 =>
 If (t106 != t109) (
 K false h) (
 J39_4 x0 x1 x8 x9 x10 (x9.add 2) ((x9.add 2).add 3) t106 (x10.add 2) ((x10.add 2).add 3) t109 (t106 != t109) N1 K Kp h))
def J39_8 (x0:Sl) (x1:Sl) (x8:Int) (x9:Addr) (x10:Addr) (x102:Bool) (N1 : Fr → HP) (K : Bool → HP) (Kp:PK) (h:Hp) : Prop :=
 Joint (semOps Tryd.prog (Ann.reg 14 ann39) (regOps (sub [1, 1, 1, 1, 0, 1, 0, 0, 1, 0, 0, 1, 0, 0] code39)) [39, 40, 41, 42, 43, 44, 45, 46, 47] (ctxQ Tryd.prog ann39 (Dw ord39) none Kp [1, 1, 1, 1, 0, 1, 0, 0, 1, 0, 0, 1, 0, 0] code39 [N1] (q39 K) .normal) Kp (([some (Sl.v x0), some (Sl.v x1), none, none, none, none, none, none, some (.int .i64 x8), some (.pointer (some x9)), some (.pointer (some x10)), none, none, none, none, none, none, none, none, none, none, none, none, none, none, none, none, none, none, none, none, none, none, none, none, none, none, none, none, none, none, none, none, none, none, none, none, none, none, none, none, none, none, none, none, none, none, none, none, none, none, none, none, none, none, none, none, none, none, none, none, none, none, none, none, none, none, none, none, none, none, none, none, none, none, none, none, none, none, none, none, none, none, none, none, none, none, none, none, none, none, none, some (.bool x102)] ++ nn 17)) h)
theorem J39_8.of {x0:Sl} {x1:Sl} {x8:Int} {x9:Addr} {x10:Addr} {x102:Bool} {N1 : Fr → HP} {K : Bool → HP} {Kp:PK} {h:Hp} (H : JT39_8 x0 x1 x8 x9 x10 x102 N1 K Kp h) : J39_8 x0 x1 x8 x9 x10 x102 N1 K Kp h :=
 Joint.mk (Eq.mp (by kernel_rfl) H)
def JT39_7 (x0:Sl) (x1:Sl) (x8:Int) (x9:Addr) (x10:Addr) (x93:Bool) (N1 : Fr → HP) (K : Bool → HP) (Kp:PK) (h:Hp) : Prop :=
 If x93 (
 J39_8 x0 x1 x8 x9 x10 true N1 K Kp h) (
 Ld h ((x9.add 2).add 2) (Value.int .i64) fun t97 =>
 Ld h ((x10.add 2).add 2) (Value.int .i64) fun t100 =>
 J39_8 x0 x1 x8 x9 x10 (t97 != t100) N1 K Kp h)
def J39_7 (x0:Sl) (x1:Sl) (x8:Int) (x9:Addr) (x10:Addr) (x93:Bool) (N1 : Fr → HP) (K : Bool → HP) (Kp:PK) (h:Hp) : Prop :=
 Joint (semOps Tryd.prog (Ann.reg 14 ann39) (regOps (sub [1, 1, 1, 1, 0, 1, 0, 0, 1, 0, 0, 1, 0, 0] code39)) [30, 31, 32, 33, 34, 35, 36, 37, 38, 39, 40, 41, 42, 43, 44, 45, 46, 47] (ctxQ Tryd.prog ann39 (Dw ord39) none Kp [1, 1, 1, 1, 0, 1, 0, 0, 1, 0, 0, 1, 0, 0] code39 [N1] (q39 K) .normal) Kp (([some (Sl.v x0), some (Sl.v x1), none, none, none, none, none, none, some (.int .i64 x8), some (.pointer (some x9)), some (.pointer (some x10)), none, none, none, none, none, none, none, none, none, none, none, none, none, none, none, none, none, none, none, none, none, none, none, none, none, none, none, none, none, none, none, none, none, none, none, none, none, none, none, none, none, none, none, none, none, none, none, none, none, none, none, none, none, none, none, none, none, none, none, none, none, none, none, none, none, none, none, none, none, none, none, none, none, none, none, none, none, none, none, none, none, none, some (.bool x93)] ++ nn 26)) h)
theorem J39_7.of {x0:Sl} {x1:Sl} {x8:Int} {x9:Addr} {x10:Addr} {x93:Bool} {N1 : Fr → HP} {K : Bool → HP} {Kp:PK} {h:Hp} (H : JT39_7 x0 x1 x8 x9 x10 x93 N1 K Kp h) : J39_7 x0 x1 x8 x9 x10 x93 N1 K Kp h :=
 Joint.mk (Eq.mp (by kernel_rfl) H)
def JT39_6 (x0:Sl) (x1:Sl) (x8:Int) (x9:Addr) (x10:Addr) (x84:Bool) (N1 : Fr → HP) (K : Bool → HP) (Kp:PK) (h:Hp) : Prop :=
 If x84 (
 J39_7 x0 x1 x8 x9 x10 true N1 K Kp h) (
 Ld h ((x9.add 2).add 1) (Value.int .i64) fun t88 =>
 Ld h ((x10.add 2).add 1) (Value.int .i64) fun t91 =>
 J39_7 x0 x1 x8 x9 x10 (t88 != t91) N1 K Kp h)
def J39_6 (x0:Sl) (x1:Sl) (x8:Int) (x9:Addr) (x10:Addr) (x84:Bool) (N1 : Fr → HP) (K : Bool → HP) (Kp:PK) (h:Hp) : Prop :=
 Joint (semOps Tryd.prog (Ann.reg 14 ann39) (regOps (sub [1, 1, 1, 1, 0, 1, 0, 0, 1, 0, 0, 1, 0, 0] code39)) [21, 22, 23, 24, 25, 26, 27, 28, 29, 30, 31, 32, 33, 34, 35, 36, 37, 38, 39, 40, 41, 42, 43, 44, 45, 46, 47] (ctxQ Tryd.prog ann39 (Dw ord39) none Kp [1, 1, 1, 1, 0, 1, 0, 0, 1, 0, 0, 1, 0, 0] code39 [N1] (q39 K) .normal) Kp (([some (Sl.v x0), some (Sl.v x1), none, none, none, none, none, none, some (.int .i64 x8), some (.pointer (some x9)), some (.pointer (some x10)), none, none, none, none, none, none, none, none, none, none, none, none, none, none, none, none, none, none, none, none, none, none, none, none, none, none, none, none, none, none, none, none, none, none, none, none, none, none, none, none, none, none, none, none, none, none, none, none, none, none, none, none, none, none, none, none, none, none, none, none, none, none, none, none, none, none, none, none, none, none, none, none, none, some (.bool x84)] ++ nn 35)) h)
theorem J39_6.of {x0:Sl} {x1:Sl} {x8:Int} {x9:Addr} {x10:Addr} {x84:Bool} {N1 : Fr → HP} {K : Bool → HP} {Kp:PK} {h:Hp} (H : JT39_6 x0 x1 x8 x9 x10 x84 N1 K Kp h) : J39_6 x0 x1 x8 x9 x10 x84 N1 K Kp h :=
 Joint.mk (Eq.mp (by kernel_rfl) H)
def JT39_5 (x0:Sl) (x1:Sl) (x8:Int) (x9:Addr) (x10:Addr) (x75:Bool) (N1 : Fr → HP) (K : Bool → HP) (Kp:PK) (h:Hp) : Prop :=
 If x75 (
 J39_6 x0 x1 x8 x9 x10 true N1 K Kp h) (
 Ld h (x9.add 2) (Value.int .i64) fun t79 =>
 Ld h (x10.add 2) (Value.int .i64) fun t82 =>
 J39_6 x0 x1 x8 x9 x10 (t79 != t82) N1 K Kp h)
def J39_5 (x0:Sl) (x1:Sl) (x8:Int) (x9:Addr) (x10:Addr) (x75:Bool) (N1 : Fr → HP) (K : Bool → HP) (Kp:PK) (h:Hp) : Prop :=
 Joint (semOps Tryd.prog (Ann.reg 14 ann39) (regOps (sub [1, 1, 1, 1, 0, 1, 0, 0, 1, 0, 0, 1, 0, 0] code39)) [12, 13, 14, 15, 16, 17, 18, 19, 20, 21, 22, 23, 24, 25, 26, 27, 28, 29, 30, 31, 32, 33, 34, 35, 36, 37, 38, 39, 40, 41, 42, 43, 44, 45, 46, 47] (ctxQ Tryd.prog ann39 (Dw ord39) none Kp [1, 1, 1, 1, 0, 1, 0, 0, 1, 0, 0, 1, 0, 0] code39 [N1] (q39 K) .normal) Kp (([some (Sl.v x0), some (Sl.v x1), none, none, none, none, none, none, some (.int .i64 x8), some (.pointer (some x9)), some (.pointer (some x10)), none, none, none, none, none, none, none, none, none, none, none, none, none, none, none, none, none, none, none, none, none, none, none, none, none, none, none, none, none, none, none, none, none, none, none, none, none, none, none, none, none, none, none, none, none, none, none, none, none, none, none, none, none, none, none, none, none, none, none, none, none, none, none, none, some (.bool x75)] ++ nn 44)) h)
theorem J39_5.of {x0:Sl} {x1:Sl} {x8:Int} {x9:Addr} {x10:Addr} {x75:Bool} {N1 : Fr → HP} {K : Bool → HP} {Kp:PK} {h:Hp} (H : JT39_5 x0 x1 x8 x9 x10 x75 N1 K Kp h) : J39_5 x0 x1 x8 x9 x10 x75 N1 K Kp h :=
 Joint.mk (Eq.mp (by kernel_rfl) H)
def JT39_3 (x0:Sl) (x1:Sl) (x8:Int) (x9:Addr) (x10:Addr) (N1 : Fr → HP) (K : Bool → HP) (Kp:PK) (h:Hp) : Prop :=
 Ld h x9 (Value.string) fun t65 =>
 Ld h x10 (Value.string) fun t67 =>
 If (!(t65.toList == t67.toList)) (
 J39_5 x0 x1 x8 x9 x10 true N1 K Kp h) (
 Ld h (x9.add 1) (Value.bool) fun t71 =>
 Ld h (x10.add 1) (Value.bool) fun t73 =>
 J39_5 x0 x1 x8 x9 x10 (!(t71 == t73)) N1 K Kp h)
def J39_3 (x0:Sl) (x1:Sl) (x8:Int) (x9:Addr) (x10:Addr) (N1 : Fr → HP) (K : Bool → HP) (Kp:PK) (h:Hp) : Prop :=
 Joint (sem Tryd.prog ann39 (Dw ord39) none (sub [1, 1, 1, 1, 0, 1, 0, 0, 1, 0, 0, 1] code39) (ctxQ Tryd.prog ann39 (Dw ord39) none Kp [1, 1, 1, 1, 0, 1, 0, 0, 1, 0, 0, 1] code39 [N1] (q39 K)) Kp (([some (Sl.v x0), some (Sl.v x1), none, none, none, none, none, none, some (.int .i64 x8), some (.pointer (some x9)), some (.pointer (some x10))] ++ nn 109)) h)
theorem J39_3.of {x0:Sl} {x1:Sl} {x8:Int} {x9:Addr} {x10:Addr} {N1 : Fr → HP} {K : Bool → HP} {Kp:PK} {h:Hp} (H : JT39_3 x0 x1 x8 x9 x10 N1 K Kp h) : J39_3 x0 x1 x8 x9 x10 N1 K Kp h :=
 Joint.mk (Eq.mp (by kernel_rfl) H)
def T39_2 (x0:Sl) (x1:Sl) (K : Bool → HP) (Kp:PK) (N1 : Fr → HP) (x8:Int) (h:Hp) : Prop :=
 If (decide (x8 < (x0.n:Int))) (
 Ix x0.a x0.n 7 x8 fun a58 =>
 Ld h a58 (Value.string) fun t59_0 =>
 Ld h (a58.add 1) (Value.bool) fun t59_1 =>
 Ld h (a58.add 2) (Value.int .i64) fun t59_2 =>
 Ld h (a58.add 3) (Value.int .i64) fun t59_3 =>
 Ld h (a58.add 4) (Value.int .i64) fun t59_4 =>
 Ld h (a58.add 5) (Value.int .i64) fun t59_5 =>
 Ld h (a58.add 6) (Sl.v) fun t59_6 =>
 Ix x1.a x1.n 7 x8 fun a62 =>
 Ld h a62 (Value.string) fun t63_0 =>
 Ld h (a62.add 1) (Value.bool) fun t63_1 =>
 Ld h (a62.add 2) (Value.int .i64) fun t63_2 =>
 Ld h (a62.add 3) (Value.int .i64) fun t63_3 =>
 Ld h (a62.add 4) (Value.int .i64) fun t63_4 =>
 Ld h (a62.add 5) (Value.int .i64) fun t63_5 =>
 Ld h (a62.add 6) (Sl.v) fun t63_6 =>
 (
 New h #[(.string (bs [])), (.bool false), (.int .i64 (0:Int)), (.int .i64 (0:Int)), (.int .i64 (0:Int)), (.int .i64 (0:Int)), (.slice none 0 0)] 63 fun a9 h1 =>
 Keep h h1 a62 7 <|
 Keep h h1 a58 7 <|
 New h1 #[(.string (bs [])), (.bool false), (.int .i64 (0:Int)), (.int .i64 (0:Int)), (.int .i64 (0:Int)), (.int .i64 (0:Int)), (.slice none 0 0)] 63 fun a10 h2 =>
 Keep h1 h2 a62 7 <|
 Keep h1 h2 a58 7 <|
 St h2 a9 (.string t59_0) fun h3 =>
 St h3 (a9.add 1) (.bool t59_1) fun h4 =>
 St h4 (a9.add 2) (.int .i64 t59_2) fun h5 =>
 St h5 (a9.add 3) (.int .i64 t59_3) fun h6 =>
 St h6 (a9.add 4) (.int .i64 t59_4) fun h7 =>
 St h7 (a9.add 5) (.int .i64 t59_5) fun h8 =>
 St h8 (a9.add 6) (Sl.v t59_6) fun h9 =>
 Keep h2 h9 a62 7 <|
 St h9 a10 (.string t63_0) fun h10 =>
 St h10 (a10.add 1) (.bool t63_1) fun h11 =>
 St h11 (a10.add 2) (.int .i64 t63_2) fun h12 =>
 St h12 (a10.add 3) (.int .i64 t63_3) fun h13 =>
 St h13 (a10.add 4) (.int .i64 t63_4) fun h14 =>
 St h14 (a10.add 5) (.int .i64 t63_5) fun h15 =>
 St h15 (a10.add 6) (Sl.v t63_6) fun h16 =>
 J39_3 x0 x1 x8 a9 a10 N1 K Kp h16) ∧ (
 New h #[(.string (bs [])), (.bool false), (.int .i64 (0:Int)), (.int .i64 (0:Int)), (.int .i64 (0:Int)), (.int .i64 (0:Int)), (.slice none 0 0)] 63 fun a10 h1 =>
 Keep h h1 a62 7 <|
 Keep h h1 a58 7 <|
 New h1 #[(.string (bs [])), (.bool false), (.int .i64 (0:Int)), (.int .i64 (0:Int)), (.int .i64 (0:Int)), (.int .i64 (0:Int)), (.slice none 0 0)] 63 fun a9 h2 =>
 Keep h1 h2 a62 7 <|
 Keep h1 h2 a58 7 <|
 St h2 a9 (.string t59_0) fun h3 =>
 St h3 (a9.add 1) (.bool t59_1) fun h4 =>
 St h4 (a9.add 2) (.int .i64 t59_2) fun h5 =>
 St h5 (a9.add 3) (.int .i64 t59_3) fun h6 =>
 St h6 (a9.add 4) (.int .i64 t59_4) fun h7 =>
 St h7 (a9.add 5) (.int .i64 t59_5) fun h8 =>
 St h8 (a9.add 6) (Sl.v t59_6) fun h9 =>
 Keep h2 h9 a62 7 <|
 St h9 a10 (.string t63_0) fun h10 =>
 St h10 (a10.add 1) (.bool t63_1) fun h11 =>
 St h11 (a10.add 2) (.int .i64 t63_2) fun h12 =>
 St h12 (a10.add 3) (.int .i64 t63_3) fun h13 =>
 St h13 (a10.add 4) (.int .i64 t63_4) fun h14 =>
 St h14 (a10.add 5) (.int .i64 t63_5) fun h15 =>
 St h15 (a10.add 6) (Sl.v t63_6) fun h16 =>
 J39_3 x0 x1 x8 a9 a10 N1 K Kp h16)) (
 K true h)
def L39_2 (x0:Sl) (x1:Sl) (K : Bool → HP) (Kp:PK) (x8:Int) (h:Hp) : Prop :=
 LoopH (fun N fr h => sem Tryd.prog ann39 (Dw ord39) none (sub [1, 1, 1, 1, 0, 1, 0, 0] code39) (thenQ (fun fr' h' => N (Ann.find ann39 2011 fr') h') (ctxQ Tryd.prog ann39 (Dw ord39) none Kp [1, 1, 1, 1, 0, 1, 0] code39 [] (q39 K))) Kp fr h) (mk39_2 x0 x1 x8) h
theorem L39_2.rule {x0:Sl} {x1:Sl} {K : Bool → HP} {Kp:PK} (I : Int → HP) (μ : Int → Hp → Nat) {x8:Int} {h:Hp} (h0 : I x8 h)
 (step : ∀ (x8:Int) (h:Hp), I x8 h → ∀ N1 : Fr → HP, (∀ (x8':Int) (h':Hp), I x8' h' → μ x8' h' < μ x8 h → N1 (mk39_2 x0 x1 x8') h') → T39_2 x0 x1 K Kp N1 x8 h) : L39_2 x0 x1 K Kp x8 h :=
 loop_rule (σ := Int) (fun s => mk39_2 x0 x1 s) (fun N s h => T39_2 x0 x1 K Kp N s h) (fun N s h => by kernel_rfl) (fun s h => I s h) (fun s h => μ s h) (s0 := x8) h0 (fun s h hI N hN => step s h hI N (fun x8' h' hI' hl => hN x8' h' hI' hl))
def JT39_1 (x0:Sl) (x1:Sl) (K : Bool → HP) (Kp:PK) (h:Hp) : Prop :=
 L39_2 x0 x1 K Kp (0:Int) h
def J39_1 (x0:Sl) (x1:Sl) (K : Bool → HP) (Kp:PK) (h:Hp) : Prop :=
 Joint (sem Tryd.prog ann39 (Dw ord39) none (sub [1, 1, 1, 1] code39) (ctxQ Tryd.prog ann39 (Dw ord39) none Kp [1, 1, 1, 1] code39 [] (q39 K)) Kp (([some (Sl.v x0), some (Sl.v x1)] ++ nn 118)) h)
theorem J39_1.of {x0:Sl} {x1:Sl} {K : Bool → HP} {Kp:PK} {h:Hp} (H : JT39_1 x0 x1 K Kp h) : J39_1 x0 x1 K Kp h :=
 Joint.mk (Eq.mp (by kernel_rfl) H)
abbrev mk39_9 (x0:Sl) (x1:Sl) (x5:Sl) (x6:Int) : Fr := ([some (Sl.v x0), some (Sl.v x1), none, none, none, some (Sl.v x5), some (.int .i64 x6)] ++ nn 113)
def JT39_10 (x0:Sl) (x1:Sl) (x5:Sl) (x6:Int) (x7:Addr) (x42:Bool) (N1 : Fr → HP) (K : Bool → HP) (Kp:PK) (h:Hp) : Prop :=
 If x42 (
 K false h) (
 Ld h ((x7.add 2).add 4) (Sl.v) fun t46 =>
 If ((t46.n:Int) != (0:Int)) (
 K false h) (
 Wr .i64 (x6 + (1:Int)) fun t24 =>
 N1 (mk39_9 x0 x1 x5 t24) h))
def J39_10 (x0:Sl) (x1:Sl) (x5:Sl) (x6:Int) (x7:Addr) (x42:Bool) (N1 : Fr → HP) (K : Bool → HP) (Kp:PK) (h:Hp) : Prop :=
 Joint (semOps Tryd.prog (Ann.reg 8 ann39) (regOps (sub [1, 1, 1, 0, 1, 0, 0, 1, 0, 0, 1, 0] code39)) [11, 12, 13, 14, 15, 16, 17] (ctxQ Tryd.prog ann39 (Dw ord39) none Kp [1, 1, 1, 0, 1, 0, 0, 1, 0, 0, 1, 0] code39 [N1] (q39 K) .normal) Kp (([some (Sl.v x0), some (Sl.v x1), none, none, none, some (Sl.v x5), some (.int .i64 x6), some (.pointer (some x7)), none, none, none, none, none, none, none, none, none, none, none, none, none, none, none, none, none, none, none, none, none, none, none, none, none, none, none, none, none, none, none, none, none, none, some (.bool x42)] ++ nn 77)) h)
theorem J39_10.of {x0:Sl} {x1:Sl} {x5:Sl} {x6:Int} {x7:Addr} {x42:Bool} {N1 : Fr → HP} {K : Bool → HP} {Kp:PK} {h:Hp} (H : JT39_10 x0 x1 x5 x6 x7 x42 N1 K Kp h) : J39_10 x0 x1 x5 x6 x7 x42 N1 K Kp h :=
 Joint.mk (Eq.mp (by kernel_rfl) H)
def T39_9 (x0:Sl) (x1:Sl) (x5:Sl) (K : Bool → HP) (Kp:PK) (N1 : Fr → HP) (x6:Int) (h:Hp) : Prop :=
 If (decide (x6 < (3:Int))) (
 Wr .i64 ((x0.n:Int) + x6) fun t29 =>
 Ix x5.a x5.n 7 t29 fun a30 =>
 Ld h a30 (Value.string) fun t31_0 =>
 Ld h (a30.add 1) (Value.bool) fun t31_1 =>
 Ld h (a30.add 2) (Value.int .i64) fun t31_2 =>
 Ld h (a30.add 3) (Value.int .i64) fun t31_3 =>
 Ld h (a30.add 4) (Value.int .i64) fun t31_4 =>
 Ld h (a30.add 5) (Value.int .i64) fun t31_5 =>
 Ld h (a30.add 6) (Sl.v) fun t31_6 =>
 New h #[(.string (bs [])), (.bool false), (.int .i64 (0:Int)), (.int .i64 (0:Int)), (.int .i64 (0:Int)), (.int .i64 (0:Int)), (.slice none 0 0)] 63 fun a7 h1 =>
 St h1 a7 (.string t31_0) fun h2 =>
 St h2 (a7.add 1) (.bool t31_1) fun h3 =>
 St h3 (a7.add 2) (.int .i64 t31_2) fun h4 =>
 St h4 (a7.add 3) (.int .i64 t31_3) fun h5 =>
 St h5 (a7.add 4) (.int .i64 t31_4) fun h6 =>
 St h6 (a7.add 5) (.int .i64 t31_5) fun h7 =>
 St h7 (a7.add 6) (Sl.v t31_6) fun h8 =>
 Ld h8 a7 (Value.string) fun t33 =>
 If (!(t33.toList == (bs [109]).toList)) (
 J39_10 x0 x1 x5 x6 a7 true N1 K Kp h8) (
 Ld h8 (a7.add 2) (Value.int .i64) fun t38 =>
 Wr .i64 ((90:Int) + x6) fun t40 =>
 J39_10 x0 x1 x5 x6 a7 (t38 != t40) N1 K Kp h8)) (
 J39_1 x0 x1 K Kp h)
def L39_9 (x0:Sl) (x1:Sl) (x5:Sl) (K : Bool → HP) (Kp:PK) (x6:Int) (h:Hp) : Prop :=
 LoopH (fun N fr h => sem Tryd.prog ann39 (Dw ord39) none (sub [1, 1, 1, 0, 1, 0, 0] code39) (thenQ (fun fr' h' => N (Ann.find ann39 2005 fr') h') (ctxQ Tryd.prog ann39 (Dw ord39) none Kp [1, 1, 1, 0, 1, 0] code39 [] (q39 K))) Kp fr h) (mk39_9 x0 x1 x5 x6) h
theorem L39_9.rule {x0:Sl} {x1:Sl} {x5:Sl} {K : Bool → HP} {Kp:PK} (I : Int → HP) (μ : Int → Hp → Nat) {x6:Int} {h:Hp} (h0 : I x6 h)
 (step : ∀ (x6:Int) (h:Hp), I x6 h → ∀ N1 : Fr → HP, (∀ (x6':Int) (h':Hp), I x6' h' → μ x6' h' < μ x6 h → N1 (mk39_9 x0 x1 x5 x6') h') → T39_9 x0 x1 x5 K Kp N1 x6 h) : L39_9 x0 x1 x5 K Kp x6 h :=
 loop_rule (σ := Int) (fun s => mk39_9 x0 x1 x5 s) (fun N s h => T39_9 x0 x1 x5 K Kp N s h) (fun N s h => by kernel_rfl) (fun s h => I s h) (fun s h => μ s h) (s0 := x6) h0 (fun s h hI N hN => step s h hI N (fun x6' h' hI' hl => hN x6' h' hI' hl))
def S39 (l:Sl) (want:Sl) (h:Hp) (K : Bool → HP) (Kp:PK) : Prop :=
 If ((l.n:Int) != (want.n:Int)) (
 K false h) (
 Wr .i64 ((l.n:Int) + (3:Int)) fun t19 =>
 Slc l 7 none (some t19) none fun t20 =>
 L39_9 l want t20 K Kp (0:Int) h)
theorem Fn39.of {l:Sl} {want:Sl} {h:Hp} {K : Bool → HP} {Kp:PK} (H : S39 l want h K Kp) : Fn39 l want h K Kp :=
 fn_of2 (P := Tryd.prog) (ann := ann39) (D := DrawSem Tryd.prog ord39) (drawOk _) (c := code39) (zs := [(.bool false)]) (args := [(Sl.v l), (Sl.v want)]) (Kv := kv39 K) (Kp := Kp) (h := h) Tryd.func39 (by kernel_rfl) H (by kernel_rfl) (by kernel_rfl)
end Go.Proofs.YtfomkkdijjfpiaaDoor
