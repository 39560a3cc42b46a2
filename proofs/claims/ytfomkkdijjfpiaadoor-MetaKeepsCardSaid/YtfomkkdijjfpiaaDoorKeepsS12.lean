/- What the functions do, printed by program (gen.py) in the words of ShCore; each text is held against the loaded program by the kernel. -/
import Derived.Test.YtfomkkdijjfpiaaDoorKeepsF
set_option linter.unusedSimpArgs false
set_option linter.unusedVariables false
set_option maxRecDepth 100000
namespace Go.Proofs.YtfomkkdijjfpiaaDoor
open Go Go.Sh
/- ### 40: spoil -/
noncomputable def code40 : Code := Tryd.f40.body.getD .skip
def ann40 : Ann := [(2000006, [1]), (2000010, [1]), (2000014, [1]), (2016, [1, 5]), (2011, [1, 4]), (2007, [1, 3]), (2003, [1, 2])]
def ord40 : List (Nat × OT × List Nat) := []
def kv40 (K:HP) : Value → HP := fun _ h => K h
def q40 (K:HP) : Qt := retQ Tryd.prog Tryd.f40.results.toList [] (kv40 K)
abbrev mk40_4 (x1:Addr) (x5:Int) : Fr := ([none, some (.pointer (some x1)), none, none, none, some (.int .i64 x5)] ++ nn 76)
def T40_4 (x1:Addr) (K:HP) (Kp:PK) (N1 : Fr → HP) (x5:Int) (h:Hp) : Prop :=
 If (decide (x5 < (9:Int))) (
 Ld h ((x1.add 1).add 1) (Sl.v) fun t64 =>
 New h #[(.string (bs [103, 114, 111, 119, 110])), (.string (bs []))] 66 fun a66 h1 =>
 Ap h1 66 #[(.string (bs [])), (.string (bs []))] 2 32 t64 1 (rd h1 (some a66) (1 * 2)) fun t67 h2 =>
 St h2 ((x1.add 1).add 1) (Sl.v t67) fun h3 =>
 Ld h3 (x1.add 7) (Sl.v) fun t71 =>
 New h3 #[(.int .i64 (-77:Int)), (.int .i64 (0:Int))] 55 fun a73 h4 =>
 Ap h4 55 #[(.int .i64 (0:Int)), (.int .i64 (0:Int))] 2 16 t71 1 (rd h4 (some a73) (1 * 2)) fun t74 h5 =>
 St h5 (x1.add 7) (Sl.v t74) fun h6 =>
 Ld h6 (x1.add 8) (Sl.v) fun t77 =>
 New h6 #[(.int .i64 (-77:Int)), (.int .i64 (0:Int)), (.int .i64 (0:Int))] 57 fun a79 h7 =>
 Ap h7 57 #[(.int .i64 (0:Int)), (.int .i64 (0:Int)), (.int .i64 (0:Int))] 3 24 t77 1 (rd h7 (some a79) (1 * 3)) fun t80 h8 =>
 St h8 (x1.add 8) (Sl.v t80) fun h9 =>
 Wr .i64 (x5 + (1:Int)) fun t61 =>
 N1 (mk40_4 x1 t61) h9) (
 K  h)
def L40_4 (x1:Addr) (K:HP) (Kp:PK) (x5:Int) (h:Hp) : Prop :=
 LoopH (fun N fr h => sem Tryd.prog ann40 (Dw ord40) none (sub [1, 1, 1, 1, 1, 1, 1, 0, 0] code40) (thenQ (fun fr' h' => N (Ann.find ann40 2016 fr') h') (ctxQ Tryd.prog ann40 (Dw ord40) none Kp [1, 1, 1, 1, 1, 1, 1, 0] code40 [] (q40 K))) Kp fr h) (mk40_4 x1 x5) h
theorem L40_4.rule {x1:Addr} {K:HP} {Kp:PK} (I : Int → HP) (μ : Int → Hp → Nat) {x5:Int} {h:Hp} (h0 : I x5 h)
 (step : ∀ (x5:Int) (h:Hp), I x5 h → ∀ N1 : Fr → HP, (∀ (x5':Int) (h':Hp), I x5' h' → μ x5' h' < μ x5 h → N1 (mk40_4 x1 x5') h') → T40_4 x1 K Kp N1 x5 h) : L40_4 x1 K Kp x5 h :=
 loop_rule (σ := Int) (fun s => mk40_4 x1 s) (fun N s h => T40_4 x1 K Kp N s h) (fun N s h => by kernel_rfl) (fun s h => I s h) (fun s h => μ s h) (s0 := x5) h0 (fun s h hI N hN => step s h hI N (fun x5' h' hI' hl => hN x5' h' hI' hl))
def JT40_3 (x1:Addr) (K:HP) (Kp:PK) (h:Hp) : Prop :=
 Ld h (x1.add 1) (Sl.v) fun t56 =>
 Fn55 t56 h (fun h1 =>
 L40_4 x1 K Kp (0:Int) h1) Kp
def J40_3 (x1:Addr) (K:HP) (Kp:PK) (h:Hp) : Prop :=
 Joint (sem Tryd.prog ann40 (Dw ord40) none (sub [1, 1, 1, 1, 1] code40) (ctxQ Tryd.prog ann40 (Dw ord40) none Kp [1, 1, 1, 1, 1] code40 [] (q40 K)) Kp (([none, some (.pointer (some x1))] ++ nn 80)) h)
theorem J40_3.of {x1:Addr} {K:HP} {Kp:PK} {h:Hp} (H : JT40_3 x1 K Kp h) : J40_3 x1 K Kp h :=
 Joint.mk (Eq.mp (by kernel_rfl) H)
abbrev mk40_5 (x1:Addr) (x4:Int) : Fr := ([none, some (.pointer (some x1)), none, none, some (.int .i64 x4)] ++ nn 77)
def T40_5 (x1:Addr) (K:HP) (Kp:PK) (N1 : Fr → HP) (x4:Int) (h:Hp) : Prop :=
 Ld h (x1.add 8) (Sl.v) fun t41 =>
 If (decide (x4 < (t41.n:Int))) (
 Ld h (x1.add 8) (Sl.v) fun t47 =>
 Wr .i64 (0 - x4) fun t50 =>
 Wr .i64 (t50 - (1:Int)) fun t51 =>
 Ix t47.a t47.n 3 x4 fun a52 =>
 St h a52 (.int .i64 t51) fun h1 =>
 Wr .i64 (x4 + (1:Int)) fun t45 =>
 N1 (mk40_5 x1 t45) h1) (
 J40_3 x1 K Kp h)
def L40_5 (x1:Addr) (K:HP) (Kp:PK) (x4:Int) (h:Hp) : Prop :=
 LoopH (fun N fr h => sem Tryd.prog ann40 (Dw ord40) none (sub [1, 1, 1, 1, 0, 1, 0, 0] code40) (thenQ (fun fr' h' => N (Ann.find ann40 2011 fr') h') (ctxQ Tryd.prog ann40 (Dw ord40) none Kp [1, 1, 1, 1, 0, 1, 0] code40 [] (q40 K))) Kp fr h) (mk40_5 x1 x4) h
theorem L40_5.rule {x1:Addr} {K:HP} {Kp:PK} (I : Int → HP) (μ : Int → Hp → Nat) {x4:Int} {h:Hp} (h0 : I x4 h)
 (step : ∀ (x4:Int) (h:Hp), I x4 h → ∀ N1 : Fr → HP, (∀ (x4':Int) (h':Hp), I x4' h' → μ x4' h' < μ x4 h → N1 (mk40_5 x1 x4') h') → T40_5 x1 K Kp N1 x4 h) : L40_5 x1 K Kp x4 h :=
 loop_rule (σ := Int) (fun s => mk40_5 x1 s) (fun N s h => T40_5 x1 K Kp N s h) (fun N s h => by kernel_rfl) (fun s h => I s h) (fun s h => μ s h) (s0 := x4) h0 (fun s h hI N hN => step s h hI N (fun x4' h' hI' hl => hN x4' h' hI' hl))
def JT40_2 (x1:Addr) (K:HP) (Kp:PK) (h:Hp) : Prop :=
 L40_5 x1 K Kp (0:Int) h
def J40_2 (x1:Addr) (K:HP) (Kp:PK) (h:Hp) : Prop :=
 Joint (sem Tryd.prog ann40 (Dw ord40) none (sub [1, 1, 1, 1] code40) (ctxQ Tryd.prog ann40 (Dw ord40) none Kp [1, 1, 1, 1] code40 [] (q40 K)) Kp (([none, some (.pointer (some x1))] ++ nn 80)) h)
theorem J40_2.of {x1:Addr} {K:HP} {Kp:PK} {h:Hp} (H : JT40_2 x1 K Kp h) : J40_2 x1 K Kp h :=
 Joint.mk (Eq.mp (by kernel_rfl) H)
abbrev mk40_6 (x1:Addr) (x3:Int) : Fr := ([none, some (.pointer (some x1)), none, some (.int .i64 x3)] ++ nn 78)
def T40_6 (x1:Addr) (K:HP) (Kp:PK) (N1 : Fr → HP) (x3:Int) (h:Hp) : Prop :=
 Ld h (x1.add 7) (Sl.v) fun t26 =>
 If (decide (x3 < (t26.n:Int))) (
 Ld h (x1.add 7) (Sl.v) fun t32 =>
 Wr .i64 (0 - x3) fun t35 =>
 Wr .i64 (t35 - (1:Int)) fun t36 =>
 Ix t32.a t32.n 2 x3 fun a37 =>
 St h a37 (.int .i64 t36) fun h1 =>
 Wr .i64 (x3 + (1:Int)) fun t30 =>
 N1 (mk40_6 x1 t30) h1) (
 J40_2 x1 K Kp h)
def L40_6 (x1:Addr) (K:HP) (Kp:PK) (x3:Int) (h:Hp) : Prop :=
 LoopH (fun N fr h => sem Tryd.prog ann40 (Dw ord40) none (sub [1, 1, 1, 0, 1, 0, 0] code40) (thenQ (fun fr' h' => N (Ann.find ann40 2007 fr') h') (ctxQ Tryd.prog ann40 (Dw ord40) none Kp [1, 1, 1, 0, 1, 0] code40 [] (q40 K))) Kp fr h) (mk40_6 x1 x3) h
theorem L40_6.rule {x1:Addr} {K:HP} {Kp:PK} (I : Int → HP) (μ : Int → Hp → Nat) {x3:Int} {h:Hp} (h0 : I x3 h)
 (step : ∀ (x3:Int) (h:Hp), I x3 h → ∀ N1 : Fr → HP, (∀ (x3':Int) (h':Hp), I x3' h' → μ x3' h' < μ x3 h → N1 (mk40_6 x1 x3') h') → T40_6 x1 K Kp N1 x3 h) : L40_6 x1 K Kp x3 h :=
 loop_rule (σ := Int) (fun s => mk40_6 x1 s) (fun N s h => T40_6 x1 K Kp N s h) (fun N s h => by kernel_rfl) (fun s h => I s h) (fun s h => μ s h) (s0 := x3) h0 (fun s h hI N hN => step s h hI N (fun x3' h' hI' hl => hN x3' h' hI' hl))
def JT40_1 (x1:Addr) (K:HP) (Kp:PK) (h:Hp) : Prop :=
 L40_6 x1 K Kp (0:Int) h
def J40_1 (x1:Addr) (K:HP) (Kp:PK) (h:Hp) : Prop :=
 Joint (sem Tryd.prog ann40 (Dw ord40) none (sub [1, 1, 1] code40) (ctxQ Tryd.prog ann40 (Dw ord40) none Kp [1, 1, 1] code40 [] (q40 K)) Kp (([none, some (.pointer (some x1))] ++ nn 80)) h)
theorem J40_1.of {x1:Addr} {K:HP} {Kp:PK} {h:Hp} (H : JT40_1 x1 K Kp h) : J40_1 x1 K Kp h :=
 Joint.mk (Eq.mp (by kernel_rfl) H)
abbrev mk40_7 (x1:Addr) (x2:Int) : Fr := ([none, some (.pointer (some x1)), some (.int .i64 x2)] ++ nn 79)
def T40_7 (x1:Addr) (K:HP) (Kp:PK) (N1 : Fr → HP) (x2:Int) (h:Hp) : Prop :=
 Ld h ((x1.add 1).add 1) (Sl.v) fun t13 =>
 If (decide (x2 < (t13.n:Int))) (
 Ld h ((x1.add 1).add 1) (Sl.v) fun t20 =>
 Ix t20.a t20.n 2 x2 fun a22 =>
 St h a22 (.string (bs [115, 112, 111, 105, 108, 116])) fun h1 =>
 Wr .i64 (x2 + (1:Int)) fun t17 =>
 N1 (mk40_7 x1 t17) h1) (
 J40_1 x1 K Kp h)
def L40_7 (x1:Addr) (K:HP) (Kp:PK) (x2:Int) (h:Hp) : Prop :=
 LoopH (fun N fr h => sem Tryd.prog ann40 (Dw ord40) none (sub [1, 1, 0, 1, 0, 0] code40) (thenQ (fun fr' h' => N (Ann.find ann40 2003 fr') h') (ctxQ Tryd.prog ann40 (Dw ord40) none Kp [1, 1, 0, 1, 0] code40 [] (q40 K))) Kp fr h) (mk40_7 x1 x2) h
theorem L40_7.rule {x1:Addr} {K:HP} {Kp:PK} (I : Int → HP) (μ : Int → Hp → Nat) {x2:Int} {h:Hp} (h0 : I x2 h)
 (step : ∀ (x2:Int) (h:Hp), I x2 h → ∀ N1 : Fr → HP, (∀ (x2':Int) (h':Hp), I x2' h' → μ x2' h' < μ x2 h → N1 (mk40_7 x1 x2') h') → T40_7 x1 K Kp N1 x2 h) : L40_7 x1 K Kp x2 h :=
 loop_rule (σ := Int) (fun s => mk40_7 x1 s) (fun N s h => T40_7 x1 K Kp N s h) (fun N s h => by kernel_rfl) (fun s h => I s h) (fun s h => μ s h) (s0 := x2) h0 (fun s h hI N hN => step s h hI N (fun x2' h' hI' hl => hN x2' h' hI' hl))
def S40 (hv_0:Int) (hv_1:Sl) (hv_2:Sl) (hv_3:Int) (hv_4:Bool) (hv_5:Int) (hv_6:Int) (hv_7:Sl) (hv_8:Sl) (h:Hp) (K:HP) (Kp:PK) : Prop :=
 New h #[(.int .i64 hv_0), (Sl.v hv_1), (Sl.v hv_2), (.int .i64 hv_3), (.bool hv_4), (.int .i64 hv_5), (.int .i64 hv_6), (Sl.v hv_7), (Sl.v hv_8)] 29 fun a1 h1 =>
 Ld h1 (a1.add 1) (Sl.v) fun t8 =>
 Fn54 t8 h1 (fun h2 =>
 L40_7 a1 K Kp (0:Int) h2) Kp
theorem Fn40.of {hv_0:Int} {hv_1:Sl} {hv_2:Sl} {hv_3:Int} {hv_4:Bool} {hv_5:Int} {hv_6:Int} {hv_7:Sl} {hv_8:Sl} {h:Hp} {K:HP} {Kp:PK} (H : S40 hv_0 hv_1 hv_2 hv_3 hv_4 hv_5 hv_6 hv_7 hv_8 h K Kp) : Fn40 hv_0 hv_1 hv_2 hv_3 hv_4 hv_5 hv_6 hv_7 hv_8 h K Kp :=
 fn_of2 (P := Tryd.prog) (ann := ann40) (D := DrawSem Tryd.prog ord40) (drawOk _) (c := code40) (zs := []) (args := [(.agg #[(.int .i64 hv_0), (Sl.v hv_1), (Sl.v hv_2), (.int .i64 hv_3), (.bool hv_4), (.int .i64 hv_5), (.int .i64 hv_6), (Sl.v hv_7), (Sl.v hv_8)])]) (Kv := kv40 K) (Kp := Kp) (h := h) Tryd.func40 (by kernel_rfl) H (by kernel_rfl) (by kernel_rfl)
/- ### 41: Check -/
noncomputable def code41 : Code := Tryd.f41.body.getD .skip
def ann41 : Ann := [(2000005, [1, 2]), (2000011, [1, 2]), (4014, [2, 5, 6, 45]), (2006, [1, 2, 22, 23, 24])]
def ord41 : List (Nat × OT × List Nat) := []
def kv41 (K : Int → Sl → Int → HP) : Value → HP := fun v h => match v with | .agg cs0 => (match (cs0.toList.getD 0 undef) with | .int _ r0_0 => (match (cs0.toList.getD 1 undef) with | .slice r0_1a r0_1n r0_1c => (let r0_1 : Sl := ⟨r0_1a, r0_1n, r0_1c⟩; match (cs0.toList.getD 2 undef) with | .int _ r0_2 => (K r0_0 r0_1 r0_2 h) | _ => False) | _ => False) | _ => False) | _ => False
def q41 (K : Int → Sl → Int → HP) : Qt := retQ Tryd.prog Tryd.f41.results.toList [(.agg #[(.int .i64 (0:Int)), (.slice none 0 0), (.int .i64 (0:Int))])] (kv41 K)
def RT41_3 (x2:Addr) (x5:Addr) (x6:Addr) (x45 : Value) (lb : Nat) (NB:HP) (XB : Code → HP) (y46_0:Sl) (y46_1:Sl) (y46_2 : ByteArray) (y46_3:Bool) (y46_4:Int) (y46_5:Int) (y46_6:Int) (y46_7:Int) (y46_8:Sl) (y46_9:Bool) (h:Hp) : Prop :=
 New h #[(.slice none 0 0), (.slice none 0 0), (.string (bs [])), (.bool false), (.int .i64 (0:Int)), (.int .i64 (0:Int)), (.int .i64 (0:Int)), (.int .i64 (0:Int)), (.slice none 0 0), (.bool false)] 104 fun a7 h1 =>
 St h1 a7 (Sl.v y46_0) fun h2 =>
 St h2 (a7.add 1) (Sl.v y46_1) fun h3 =>
 St h3 (a7.add 2) (.string y46_2) fun h4 =>
 St h4 (a7.add 3) (.bool y46_3) fun h5 =>
 St h5 (a7.add 4) (.int .i64 y46_4) fun h6 =>
 St h6 (a7.add 5) (.int .i64 y46_5) fun h7 =>
 St h7 (a7.add 6) (.int .i64 y46_6) fun h8 =>
 St h8 (a7.add 7) (.int .i64 y46_7) fun h9 =>
 St h9 (a7.add 8) (Sl.v y46_8) fun h10 =>
 St h10 (a7.add 9) (.bool y46_9) fun h11 =>
 Busy lb h h11 fun h12 =>
 Ld h12 a7 (Sl.v) fun t47_0 =>
 Ld h12 (a7.add 1) (Sl.v) fun t47_1 =>
 Ld h12 (a7.add 2) (Value.string) fun t47_2 =>
 Ld h12 (a7.add 3) (Value.bool) fun t47_3 =>
 Ld h12 (a7.add 4) (Value.int .i64) fun t47_4 =>
 Ld h12 (a7.add 5) (Value.int .i64) fun t47_5 =>
 Ld h12 (a7.add 6) (Value.int .i64) fun t47_6 =>
 Ld h12 (a7.add 7) (Value.int .i64) fun t47_7 =>
 Ld h12 (a7.add 8) (Sl.v) fun t47_8 =>
 Ld h12 (a7.add 9) (Value.bool) fun t47_9 =>
 Ld h12 x5 (Value.int .i64) fun t48 =>
 Ld h12 x6 (Value.map) fun t49 =>
 Fn57 t47_0 t47_1 t47_2 t47_3 t47_4 t47_5 t47_6 t47_7 t47_8 t47_9 t48 t49 h12 (fun t50 h13 =>
 If (t50 != (0:Int)) (
 Ld h13 a7 (Sl.v) fun t55 =>
 St h13 x2 (.int .i64 t50) fun h14 =>
 St h14 (x2.add 1) (Sl.v t55) fun h15 =>
 St h15 (x2.add 2) (.int .i64 (0:Int)) fun h16 =>
 XB .ret h16) (
 Ld h13 x5 (Value.int .i64) fun t57 =>
 Wr .i64 (t57 + (1:Int)) fun t58 =>
 St h13 x5 (.int .i64 t58) fun h14 =>
 Ld h14 ((a7.add 2).add 2) (Value.int .i64) fun t62 =>
 If (t62 == (19:Int)) (
 Ld h14 x6 (Value.map) fun t64 =>
 Ld h14 (((a7.add 2).add 2).add 2) (Value.int .i64) fun t68 =>
 Ld h14 x5 (Value.int .i64) fun t69 =>
 Up h14 t64 (.int .i64) (.int .i64 t68) (.int .i64 t69) fun h15 =>
 NB h15) (
 NB h14))) NoP
def R41_3 (x2:Addr) (x5:Addr) (x6:Addr) (x45 : Value) (K : Int → Sl → Int → HP) (Kp:PK) (h:Hp) : Prop :=
 sem Tryd.prog ann41 (Dw ord41) none (sub [1, 1, 1, 1, 1, 0, 1, 0] code41) (ctxQ Tryd.prog ann41 (Dw ord41) none Kp [1, 1, 1, 1, 1, 0, 1, 0] code41 [] (q41 K)) Kp (([none, none, some (.pointer (some x2)), none, none, some (.pointer (some x5)), some (.pointer (some x6)), none, none, none, none, none, none, none, none, none, none, none, none, none, none, none, none, none, none, none, none, none, none, none, none, none, none, none, none, none, none, none, none, none, none, none, none, none, none, some x45] ++ nn 25)) h
def RD41_3 (x2:Addr) (x5:Addr) (x6:Addr) (x45 : Value) (K : Int → Sl → Int → HP) (Kp:PK) (h:Hp) : Prop :=
 St h x2 (.int .i64 (0:Int)) fun h1 =>
 St h1 (x2.add 1) (.slice none 0 0) fun h2 =>
 St h2 (x2.add 2) (.int .i64 (0:Int)) fun h3 =>
 Ld h3 x2 (Value.int .i64) fun r0_0 =>
 Ld h3 (x2.add 1) (Sl.v) fun r0_1 =>
 Ld h3 (x2.add 2) (Value.int .i64) fun r0_2 =>
 K r0_0 r0_1 r0_2 h3
def RX41_3_ret (x2:Addr) (x5:Addr) (x6:Addr) (x45 : Value) (K : Int → Sl → Int → HP) (Kp:PK) (h:Hp) : Prop :=
 Ld h x2 (Value.int .i64) fun r0_0 =>
 Ld h (x2.add 1) (Sl.v) fun r0_1 =>
 Ld h (x2.add 2) (Value.int .i64) fun r0_2 =>
 K r0_0 r0_1 r0_2 h
theorem R41_3.rule {x2:Addr} {x5:Addr} {x6:Addr} {x45 : Value} {K : Int → Sl → Int → HP} {Kp:PK} {h:Hp} {α : Type} {xs : List α} (E : α → Sl → Sl → ByteArray → Bool → Int → Int → Int → Int → Sl → Bool → Prop) {Pre:HP} (hit : IterR Tryd.prog x45 xs (fun y args => ∃ y0 y1 y2 y3 y4 y5 y6 y7 y8 y9, args = [(.agg #[(Sl.v y0), (Sl.v y1), (.string y2), (.bool y3), (.int .i64 y4), (.int .i64 y5), (.int .i64 y6), (.int .i64 y7), (Sl.v y8), (.bool y9)])] ∧ E y y0 y1 y2 y3 y4 y5 y6 y7 y8 y9) Pre) (I : List α → HP) (I_ret : List α → HP) (h0 : I [] h)
 (hG : ∀ pre h1 h2, Grw h1 h2 → I pre h1 → I pre h2) (hI : ∀ l pre h1 h2, h.size ≤ l → Tw l h1 h2 → I pre h1 → I pre h2) (hPre : ∀ pre h1, I pre h1 → Pre h1) (hG_ret : ∀ pre h1 h2, Grw h1 h2 → I_ret pre h1 → I_ret pre h2) (hI_ret : ∀ l pre h1 h2, h.size ≤ l → Tw l h1 h2 → I_ret pre h1 → I_ret pre h2) 
 (hbody : ∀ l pre y suf h1 y0 y1 y2 y3 y4 y5 y6 y7 y8 y9, E y y0 y1 y2 y3 y4 y5 y6 y7 y8 y9 → xs = pre ++ y :: suf → h.size ≤ l → (∃ r, h1[l]? = some (.loop r)) → I pre h1 → ∀ (N:HP) (X : Code → HP), (∀ h' h2, Tw l h1 h' → h2[l]? = h'[l]? → Tn (fun c => c ≤ l) h1 h2 → I (pre ++ [y]) h2 → N h2) → (∀ h' h2, Tw l h1 h' → h2[l]? = h'[l]? → Tn (fun c => c ≤ l) h1 h2 → I_ret (pre ++ [y]) h2 → X .ret h2) → RT41_3 x2 x5 x6 x45 l N X y0 y1 y2 y3 y4 y5 y6 y7 y8 y9 h1)
 (done : ∀ h2, I xs h2 → RD41_3 x2 x5 x6 x45 K Kp h2) (stop_ret : ∀ pre suf h2, xs = pre ++ suf → I_ret pre h2 → RX41_3_ret x2 x5 x6 x45 K Kp h2) : R41_3 x2 x5 x6 x45 K Kp h :=
 Eq.mp (by kernel_rfl) (range_rule (P := Tryd.prog) (ann := ann41) (D := (Dw ord41)) (fun _ => drawOk _) (rd := none) (g := .tmp 45) (ps := #[46]) (assign := sub [1, 1, 1, 1, 1, 0, 1, 0, 0] code41) (body := sub [1, 1, 1, 1, 1, 0, 1, 0, 1] code41) (Q := ctxQ Tryd.prog ann41 (Dw ord41) none Kp [1, 1, 1, 1, 1, 0, 1, 0] code41 [] (q41 K)) (Kp := Kp) (fr := ([none, none, some (.pointer (some x2)), none, none, some (.pointer (some x5)), some (.pointer (some x6)), none, none, none, none, none, none, none, none, none, none, none, none, none, none, none, none, none, none, none, none, none, none, none, none, none, none, none, none, none, none, none, none, none, none, none, none, none, none, some x45] ++ nn 25)) (h := h) (fv := x45) (by kernel_rfl)
 hit (fun _ _ ea => by obtain ⟨_, _, _, _, _, _, _, _, _, _, rfl, _⟩ := ea; rfl) trivial I (fun c => match c with | .ret => I_ret | _ => fun _ _ => False) h0 hG (by intro c pre h1 h2 hg hi; revert hi; cases c with
 | ret => exact hG_ret pre h1 h2 hg
 | _ => exact fun hi => hi.elim) hI (by intro l c pre h1 h2 hl ht hi; revert hi; cases c with
 | ret => exact hI_ret l pre h1 h2 hl ht
 | _ => exact fun hi => hi.elim) hPre
 (by
 intro l pre y suf h1 args ea e1 e2 e3 e4 N X hN hX
 obtain ⟨y0, y1, y2, y3, y4, y5, y6, y7, y8, y9, rfl, eE⟩ := ea
 exact Eq.mp (by kernel_rfl) (hbody l pre y suf h1 y0 y1 y2 y3 y4 y5 y6 y7 y8 y9 eE e1 e2 e3 e4 N X hN (hX .ret)))
 (fun h2 hi => Eq.mp (by kernel_rfl) (done h2 hi)) (by
 intro c pre suf h2 e1 hi
 cases c with
 | ret => exact Eq.mp (by kernel_rfl) (stop_ret pre suf h2 e1 hi)
 | _ => exact hi.elim))
def JT41_2 (x1:Addr) (x2:Addr) (K : Int → Sl → Int → HP) (Kp:PK) (h:Hp) : Prop :=
 New h #[(.int .i64 (0:Int))] 3 fun a5 h1 =>
 St h1 a5 (.int .i64 (0:Int)) fun h2 =>
 NewM h2 fun m42 h3 =>
 New h3 #[(.map none)] 99 fun a6 h4 =>
 St h4 a6 (.map (some m42)) fun h5 =>
 Ld h5 x1 (Sl.v) fun t44 =>
 Fn56 t44 (65:Int) h5 (fun t45 h6 =>
 R41_3 x2 a5 a6 t45 K Kp h6) Kp
def J41_2 (x1:Addr) (x2:Addr) (K : Int → Sl → Int → HP) (Kp:PK) (h:Hp) : Prop :=
 Joint (sem Tryd.prog ann41 (Dw ord41) none (sub [1, 1, 1] code41) (ctxQ Tryd.prog ann41 (Dw ord41) none Kp [1, 1, 1] code41 [] (q41 K)) Kp (([none, some (.pointer (some x1)), some (.pointer (some x2))] ++ nn 68)) h)
theorem J41_2.of {x1:Addr} {x2:Addr} {K : Int → Sl → Int → HP} {Kp:PK} {h:Hp} (H : JT41_2 x1 x2 K Kp h) : J41_2 x1 x2 K Kp h :=
 Joint.mk (Eq.mp (by kernel_rfl) H)
abbrev mk41_4 (x1:Addr) (x2:Addr) (x22:Sl) (x23:Int) (x24:Int) : Fr := ([none, some (.pointer (some x1)), some (.pointer (some x2)), none, none, none, none, none, none, none, none, none, none, none, none, none, none, none, none, none, none, none, some (Sl.v x22), some (.int .i64 x23), some (.int .i64 x24)] ++ nn 46)
def T41_4 (x1:Addr) (x2:Addr) (x22:Sl) (x23:Int) (K : Int → Sl → Int → HP) (Kp:PK) (N1 : Fr → HP) (x24:Int) (h:Hp) : Prop :=
 If (decide (x24 < x23)) (
 Ix x22.a x22.n 2 x24 fun a27 =>
 Ld h a27 (Value.string) fun t28_0 =>
 Ld h (a27.add 1) (Value.string) fun t28_1 =>
 New h #[(.string (bs [])), (.string (bs []))] 66 fun a4 h1 =>
 St h1 a4 (.string t28_0) fun h2 =>
 St h2 (a4.add 1) (.string t28_1) fun h3 =>
 Ld h3 a4 (Value.string) fun t30 =>
 If (decide ((t30.size:Int) > (256:Int))) (
 St h3 x2 (.int .i64 (37:Int)) fun h4 =>
 St h4 (x2.add 1) (.slice none 0 0) fun h5 =>
 St h5 (x2.add 2) (.int .i64 x24) fun h6 =>
 Ld h6 x2 (Value.int .i64) fun r0_0 =>
 Ld h6 (x2.add 1) (Sl.v) fun r0_1 =>
 Ld h6 (x2.add 2) (Value.int .i64) fun r0_2 =>
 K r0_0 r0_1 r0_2 h6) (
 Ld h3 (a4.add 1) (Value.string) fun t35 =>
 If (decide ((t35.size:Int) > (256:Int))) (
 St h3 x2 (.int .i64 (37:Int)) fun h4 =>
 St h4 (x2.add 1) (.slice none 0 0) fun h5 =>
 St h5 (x2.add 2) (.int .i64 x24) fun h6 =>
 Ld h6 x2 (Value.int .i64) fun r0_0 =>
 Ld h6 (x2.add 1) (Sl.v) fun r0_1 =>
 Ld h6 (x2.add 2) (Value.int .i64) fun r0_2 =>
 K r0_0 r0_1 r0_2 h6) (
 Wr .i64 (x24 + (1:Int)) fun t41 =>
 N1 (mk41_4 x1 x2 x22 x23 t41) h3))) (
 J41_2 x1 x2 K Kp h)
def L41_4 (x1:Addr) (x2:Addr) (x22:Sl) (x23:Int) (K : Int → Sl → Int → HP) (Kp:PK) (x24:Int) (h:Hp) : Prop :=
 LoopH (fun N fr h => sem Tryd.prog ann41 (Dw ord41) none (sub [1, 1, 0, 1, 0, 0] code41) (thenQ (fun fr' h' => N (Ann.find ann41 2006 fr') h') (ctxQ Tryd.prog ann41 (Dw ord41) none Kp [1, 1, 0, 1, 0] code41 [] (q41 K))) Kp fr h) (mk41_4 x1 x2 x22 x23 x24) h
theorem L41_4.rule {x1:Addr} {x2:Addr} {x22:Sl} {x23:Int} {K : Int → Sl → Int → HP} {Kp:PK} (I : Int → HP) (μ : Int → Hp → Nat) {x24:Int} {h:Hp} (h0 : I x24 h)
 (step : ∀ (x24:Int) (h:Hp), I x24 h → ∀ N1 : Fr → HP, (∀ (x24':Int) (h':Hp), I x24' h' → μ x24' h' < μ x24 h → N1 (mk41_4 x1 x2 x22 x23 x24') h') → T41_4 x1 x2 x22 x23 K Kp N1 x24 h) : L41_4 x1 x2 x22 x23 K Kp x24 h :=
 loop_rule (σ := Int) (fun s => mk41_4 x1 x2 x22 x23 s) (fun N s h => T41_4 x1 x2 x22 x23 K Kp N s h) (fun N s h => by kernel_rfl) (fun s h => I s h) (fun s h => μ s h) (s0 := x24) h0 (fun s h hI N hN => step s h hI N (fun x24' h' hI' hl => hN x24' h' hI' hl))
def JT41_1 (x1:Addr) (x2:Addr) (K : Int → Sl → Int → HP) (Kp:PK) (h:Hp) : Prop :=
 Ld h (x1.add 1) (Sl.v) fun t22 =>
 L41_4 x1 x2 t22 (t22.n:Int) K Kp (0:Int) h
def J41_1 (x1:Addr) (x2:Addr) (K : Int → Sl → Int → HP) (Kp:PK) (h:Hp) : Prop :=
 Joint (sem Tryd.prog ann41 (Dw ord41) none (sub [1, 1] code41) (ctxQ Tryd.prog ann41 (Dw ord41) none Kp [1, 1] code41 [] (q41 K)) Kp (([none, some (.pointer (some x1)), some (.pointer (some x2))] ++ nn 68)) h)
theorem J41_1.of {x1:Addr} {x2:Addr} {K : Int → Sl → Int → HP} {Kp:PK} {h:Hp} (H : JT41_1 x1 x2 K Kp h) : J41_1 x1 x2 K Kp h :=
 Joint.mk (Eq.mp (by kernel_rfl) H)
def S41 (s_0:Sl) (s_1:Sl) (h:Hp) (K : Int → Sl → Int → HP) (Kp:PK) : Prop :=
 New h #[(Sl.v s_0), (Sl.v s_1)] 25 fun a1 h1 =>
 New h1 #[(.int .i64 (0:Int)), (.slice none 0 0), (.int .i64 (0:Int))] 39 fun a2 h2 =>
 Ld h2 a1 (Sl.v) fun t11 =>
 If (decide ((t11.n:Int) > (32:Int))) (
 St h2 a2 (.int .i64 (34:Int)) fun h3 =>
 St h3 (a2.add 1) (.slice none 0 0) fun h4 =>
 St h4 (a2.add 2) (.int .i64 (32:Int)) fun h5 =>
 Ld h5 a2 (Value.int .i64) fun r0_0 =>
 Ld h5 (a2.add 1) (Sl.v) fun r0_1 =>
 Ld h5 (a2.add 2) (Value.int .i64) fun r0_2 =>
 K r0_0 r0_1 r0_2 h5) (
 Ld h2 (a1.add 1) (Sl.v) fun t17 =>
 If (decide ((t17.n:Int) > (16:Int))) (
 St h2 a2 (.int .i64 (34:Int)) fun h3 =>
 St h3 (a2.add 1) (.slice none 0 0) fun h4 =>
 St h4 (a2.add 2) (.int .i64 (16:Int)) fun h5 =>
 Ld h5 a2 (Value.int .i64) fun r0_0 =>
 Ld h5 (a2.add 1) (Sl.v) fun r0_1 =>
 Ld h5 (a2.add 2) (Value.int .i64) fun r0_2 =>
 K r0_0 r0_1 r0_2 h5) (
 J41_1 a1 a2 K Kp h2))
theorem Fn41.of {s_0:Sl} {s_1:Sl} {h:Hp} {K : Int → Sl → Int → HP} {Kp:PK} (H : S41 s_0 s_1 h K Kp) : Fn41 s_0 s_1 h K Kp :=
 fn_of2 (P := Tryd.prog) (ann := ann41) (D := DrawSem Tryd.prog ord41) (drawOk _) (c := code41) (zs := [(.agg #[(.int .i64 (0:Int)), (.slice none 0 0), (.int .i64 (0:Int))])]) (args := [(.agg #[(Sl.v s_0), (Sl.v s_1)])]) (Kv := kv41 K) (Kp := Kp) (h := h) Tryd.func41 (by kernel_rfl) H (by kernel_rfl) (by kernel_rfl)
/- ### 42: nodesMay -/
noncomputable def code42 : Code := Tryd.f42.body.getD .skip
def ann42 : Ann := [(2000003, [1]), (2000009, [1]), (2010, [48, 49, 50]), (2013, [48, 49, 50, 60, 61]), (2004, [1, 20, 21, 22]), (46008, [1, 4, 20, 21, 22, 33]), (46013, [1, 4, 20, 21, 22, 38])]
def ord42 : List (Nat × OT × List Nat) := []
def kv42 (K : Bool → HP) : Value → HP := fun v h => match v with | .bool r0 => (K r0 h) | _ => False
def q42 (K : Bool → HP) : Qt := retQ Tryd.prog Tryd.f42.results.toList [(.bool false)] (kv42 K)
abbrev mk42_3 (x48:Sl) (x49:Int) (x50:Int) : Fr := ([none, none, none, none, none, none, none, none, none, none, none, none, none, none, none, none, none, none, none, none, none, none, none, none, none, none, none, none, none, none, none, none, none, none, none, none, none, none, none, none, none, none, none, none, none, none, none, none, some (Sl.v x48), some (.int .i64 x49), some (.int .i64 x50)] ++ nn 21)
abbrev mk42_4 (x48:Sl) (x49:Int) (x50:Int) (x60_0:Int) (x60_1:Int) (x60_2:Int) (x61:Int) : Fr := ([none, none, none, none, none, none, none, none, none, none, none, none, none, none, none, none, none, none, none, none, none, none, none, none, none, none, none, none, none, none, none, none, none, none, none, none, none, none, none, none, none, none, none, none, none, none, none, none, some (Sl.v x48), some (.int .i64 x49), some (.int .i64 x50), none, none, none, none, none, none, none, none, none, some (.agg #[(.int .i64 x60_0), (.int .i64 x60_1), (.int .i64 x60_2)]), some (.int .i64 x61)] ++ nn 10)
def T42_4 (x48:Sl) (x49:Int) (x50:Int) (x60_0:Int) (x60_1:Int) (x60_2:Int) (N1 : Fr → HP) (K : Bool → HP) (Kp:PK) (N2 : Fr → HP) (x61:Int) (h:Hp) : Prop :=
 If (decide (x61 < (3:Int))) (
 IxA #[(.int .i64 x60_0), (.int .i64 x60_1), (.int .i64 x60_2)] 3 x61 (Value.int .i64) fun t63 =>
 If (decide (t63 < (0:Int))) (
 K false h) (
 If (decide (t63 > (4194304:Int))) (
 K false h) (
 Wr .i64 (x61 + (1:Int)) fun t70 =>
 N2 (mk42_4 x48 x49 x50 x60_0 x60_1 x60_2 t70) h))) (
 Wr .i64 (x50 + (1:Int)) fun t71 =>
 N1 (mk42_3 x48 x49 t71) h)
def L42_4 (x48:Sl) (x49:Int) (x50:Int) (x60_0:Int) (x60_1:Int) (x60_2:Int) (N1 : Fr → HP) (K : Bool → HP) (Kp:PK) (x61:Int) (h:Hp) : Prop :=
 LoopH (fun N fr h => sem Tryd.prog ann42 (Dw ord42) none (sub [1, 1, 1, 0, 1, 0, 0, 1, 1, 0, 0, 1, 1, 0, 0] code42) (thenQ (fun fr' h' => N (Ann.find ann42 2013 fr') h') (ctxQ Tryd.prog ann42 (Dw ord42) none Kp [1, 1, 1, 0, 1, 0, 0, 1, 1, 0, 0, 1, 1, 0] code42 [N1] (q42 K))) Kp fr h) (mk42_4 x48 x49 x50 x60_0 x60_1 x60_2 x61) h
theorem L42_4.rule {x48:Sl} {x49:Int} {x50:Int} {x60_0:Int} {x60_1:Int} {x60_2:Int} {N1 : Fr → HP} {K : Bool → HP} {Kp:PK} (I : Int → HP) (μ : Int → Hp → Nat) {x61:Int} {h:Hp} (h0 : I x61 h)
 (step : ∀ (x61:Int) (h:Hp), I x61 h → ∀ N2 : Fr → HP, (∀ (x61':Int) (h':Hp), I x61' h' → μ x61' h' < μ x61 h → N2 (mk42_4 x48 x49 x50 x60_0 x60_1 x60_2 x61') h') → T42_4 x48 x49 x50 x60_0 x60_1 x60_2 N1 K Kp N2 x61 h) : L42_4 x48 x49 x50 x60_0 x60_1 x60_2 N1 K Kp x61 h :=
 loop_rule (σ := Int) (fun s => mk42_4 x48 x49 x50 x60_0 x60_1 x60_2 s) (fun N s h => T42_4 x48 x49 x50 x60_0 x60_1 x60_2 N1 K Kp N s h) (fun N s h => by kernel_rfl) (fun s h => I s h) (fun s h => μ s h) (s0 := x61) h0 (fun s h hI N hN => step s h hI N (fun x61' h' hI' hl => hN x61' h' hI' hl))
def T42_3 (x48:Sl) (x49:Int) (K : Bool → HP) (Kp:PK) (N1 : Fr → HP) (x50:Int) (h:Hp) : Prop :=
 If (decide (x50 < x49)) (
 Ix x48.a x48.n 3 x50 fun a52 =>
 Ld h a52 (Value.int .i64) fun t53_0 =>
 Ld h (a52.add 1) (Value.int .i64) fun t53_1 =>
 Ld h (a52.add 2) (Value.int .i64) fun t53_2 =>
 New h #[(.int .i64 (0:Int)), (.int .i64 (0:Int)), (.int .i64 (0:Int))] 57 fun a6 h1 =>
 St h1 a6 (.int .i64 t53_0) fun h2 =>
 St h2 (a6.add 1) (.int .i64 t53_1) fun h3 =>
 St h3 (a6.add 2) (.int .i64 t53_2) fun h4 =>
 Ld h4 a6 (Value.int .i64) fun t55 =>
 Ld h4 (a6.add 1) (Value.int .i64) fun t57 =>
 Ld h4 (a6.add 2) (Value.int .i64) fun t59 =>
 L42_4 x48 x49 x50 t55 t57 t59 N1 K Kp (0:Int) h4) (
 K true h)
def L42_3 (x48:Sl) (x49:Int) (K : Bool → HP) (Kp:PK) (x50:Int) (h:Hp) : Prop :=
 LoopH (fun N fr h => sem Tryd.prog ann42 (Dw ord42) none (sub [1, 1, 1, 0, 1, 0, 0] code42) (thenQ (fun fr' h' => N (Ann.find ann42 2010 fr') h') (ctxQ Tryd.prog ann42 (Dw ord42) none Kp [1, 1, 1, 0, 1, 0] code42 [] (q42 K))) Kp fr h) (mk42_3 x48 x49 x50) h
theorem L42_3.rule {x48:Sl} {x49:Int} {K : Bool → HP} {Kp:PK} (I : Int → HP) (μ : Int → Hp → Nat) {x50:Int} {h:Hp} (h0 : I x50 h)
 (step : ∀ (x50:Int) (h:Hp), I x50 h → ∀ N1 : Fr → HP, (∀ (x50':Int) (h':Hp), I x50' h' → μ x50' h' < μ x50 h → N1 (mk42_3 x48 x49 x50') h') → T42_3 x48 x49 K Kp N1 x50 h) : L42_3 x48 x49 K Kp x50 h :=
 loop_rule (σ := Int) (fun s => mk42_3 x48 x49 s) (fun N s h => T42_3 x48 x49 K Kp N s h) (fun N s h => by kernel_rfl) (fun s h => I s h) (fun s h => μ s h) (s0 := x50) h0 (fun s h hI N hN => step s h hI N (fun x50' h' hI' hl => hN x50' h' hI' hl))
def JT42_2 (x1:Addr) (K : Bool → HP) (Kp:PK) (h:Hp) : Prop :=
 Ld h (x1.add 8) (Sl.v) fun t48 =>
 L42_3 t48 (t48.n:Int) K Kp (0:Int) h
def J42_2 (x1:Addr) (K : Bool → HP) (Kp:PK) (h:Hp) : Prop :=
 Joint (sem Tryd.prog ann42 (Dw ord42) none (sub [1, 1, 1] code42) (ctxQ Tryd.prog ann42 (Dw ord42) none Kp [1, 1, 1] code42 [] (q42 K)) Kp (([none, some (.pointer (some x1))] ++ nn 70)) h)
theorem J42_2.of {x1:Addr} {K : Bool → HP} {Kp:PK} {h:Hp} (H : JT42_2 x1 K Kp h) : J42_2 x1 K Kp h :=
 Joint.mk (Eq.mp (by kernel_rfl) H)
abbrev mk42_5 (x1:Addr) (x20:Sl) (x21:Int) (x22:Int) : Fr := ([none, some (.pointer (some x1)), none, none, none, none, none, none, none, none, none, none, none, none, none, none, none, none, none, none, some (Sl.v x20), some (.int .i64 x21), some (.int .i64 x22)] ++ nn 49)
def JT42_7 (x1:Addr) (x4:Addr) (x20:Sl) (x21:Int) (x22:Int) (x38:Bool) (N1 : Fr → HP) (K : Bool → HP) (Kp:PK) (h:Hp) : Prop :=
 If x38 (
 K false h) (
 Ld h (x4.add 1) (Value.int .i64) fun t41 =>
 Ld h x4 (Value.int .i64) fun t43 =>
 If (decide (t41 > t43)) (
 K false h) (
 Wr .i64 (x22 + (1:Int)) fun t46 =>
 N1 (mk42_5 x1 x20 x21 t46) h))
def J42_7 (x1:Addr) (x4:Addr) (x20:Sl) (x21:Int) (x22:Int) (x38:Bool) (N1 : Fr → HP) (K : Bool → HP) (Kp:PK) (h:Hp) : Prop :=
 Joint (semOps Tryd.prog (Ann.reg 6 ann42) (regOps (sub [1, 1, 0, 1, 0, 0, 1, 1, 0, 0, 1, 0] code42)) [13, 14, 15, 16, 17, 18, 19] (ctxQ Tryd.prog ann42 (Dw ord42) none Kp [1, 1, 0, 1, 0, 0, 1, 1, 0, 0, 1, 0] code42 [N1] (q42 K) .normal) Kp (([none, some (.pointer (some x1)), none, none, some (.pointer (some x4)), none, none, none, none, none, none, none, none, none, none, none, none, none, none, none, some (Sl.v x20), some (.int .i64 x21), some (.int .i64 x22), none, none, none, none, none, none, none, none, none, none, none, none, none, none, none, some (.bool x38)] ++ nn 33)) h)
theorem J42_7.of {x1:Addr} {x4:Addr} {x20:Sl} {x21:Int} {x22:Int} {x38:Bool} {N1 : Fr → HP} {K : Bool → HP} {Kp:PK} {h:Hp} (H : JT42_7 x1 x4 x20 x21 x22 x38 N1 K Kp h) : J42_7 x1 x4 x20 x21 x22 x38 N1 K Kp h :=
 Joint.mk (Eq.mp (by kernel_rfl) H)
def JT42_6 (x1:Addr) (x4:Addr) (x20:Sl) (x21:Int) (x22:Int) (x33:Bool) (N1 : Fr → HP) (K : Bool → HP) (Kp:PK) (h:Hp) : Prop :=
 If x33 (
 J42_7 x1 x4 x20 x21 x22 true N1 K Kp h) (
 Ld h (x4.add 1) (Value.int .i64) fun t36 =>
 J42_7 x1 x4 x20 x21 x22 (decide (t36 < (0:Int))) N1 K Kp h)
def J42_6 (x1:Addr) (x4:Addr) (x20:Sl) (x21:Int) (x22:Int) (x33:Bool) (N1 : Fr → HP) (K : Bool → HP) (Kp:PK) (h:Hp) : Prop :=
 Joint (semOps Tryd.prog (Ann.reg 6 ann42) (regOps (sub [1, 1, 0, 1, 0, 0, 1, 1, 0, 0, 1, 0] code42)) [8, 9, 10, 11, 12, 13, 14, 15, 16, 17, 18, 19] (ctxQ Tryd.prog ann42 (Dw ord42) none Kp [1, 1, 0, 1, 0, 0, 1, 1, 0, 0, 1, 0] code42 [N1] (q42 K) .normal) Kp (([none, some (.pointer (some x1)), none, none, some (.pointer (some x4)), none, none, none, none, none, none, none, none, none, none, none, none, none, none, none, some (Sl.v x20), some (.int .i64 x21), some (.int .i64 x22), none, none, none, none, none, none, none, none, none, none, some (.bool x33)] ++ nn 38)) h)
theorem J42_6.of {x1:Addr} {x4:Addr} {x20:Sl} {x21:Int} {x22:Int} {x33:Bool} {N1 : Fr → HP} {K : Bool → HP} {Kp:PK} {h:Hp} (H : JT42_6 x1 x4 x20 x21 x22 x33 N1 K Kp h) : J42_6 x1 x4 x20 x21 x22 x33 N1 K Kp h :=
 Joint.mk (Eq.mp (by kernel_rfl) H)
def T42_5 (x1:Addr) (x20:Sl) (x21:Int) (K : Bool → HP) (Kp:PK) (N1 : Fr → HP) (x22:Int) (h:Hp) : Prop :=
 If (decide (x22 < x21)) (
 Ix x20.a x20.n 2 x22 fun a24 =>
 Ld h a24 (Value.int .i64) fun t25_0 =>
 Ld h (a24.add 1) (Value.int .i64) fun t25_1 =>
 New h #[(.int .i64 (0:Int)), (.int .i64 (0:Int))] 55 fun a4 h1 =>
 St h1 a4 (.int .i64 t25_0) fun h2 =>
 St h2 (a4.add 1) (.int .i64 t25_1) fun h3 =>
 Ld h3 a4 (Value.int .i64) fun t27 =>
 If (decide (t27 < (0:Int))) (
 J42_6 x1 a4 x20 x21 x22 true N1 K Kp h3) (
 Ld h3 a4 (Value.int .i64) fun t31 =>
 J42_6 x1 a4 x20 x21 x22 (decide (t31 > (4096:Int))) N1 K Kp h3)) (
 J42_2 x1 K Kp h)
def L42_5 (x1:Addr) (x20:Sl) (x21:Int) (K : Bool → HP) (Kp:PK) (x22:Int) (h:Hp) : Prop :=
 LoopH (fun N fr h => sem Tryd.prog ann42 (Dw ord42) none (sub [1, 1, 0, 1, 0, 0] code42) (thenQ (fun fr' h' => N (Ann.find ann42 2004 fr') h') (ctxQ Tryd.prog ann42 (Dw ord42) none Kp [1, 1, 0, 1, 0] code42 [] (q42 K))) Kp fr h) (mk42_5 x1 x20 x21 x22) h
theorem L42_5.rule {x1:Addr} {x20:Sl} {x21:Int} {K : Bool → HP} {Kp:PK} (I : Int → HP) (μ : Int → Hp → Nat) {x22:Int} {h:Hp} (h0 : I x22 h)
 (step : ∀ (x22:Int) (h:Hp), I x22 h → ∀ N1 : Fr → HP, (∀ (x22':Int) (h':Hp), I x22' h' → μ x22' h' < μ x22 h → N1 (mk42_5 x1 x20 x21 x22') h') → T42_5 x1 x20 x21 K Kp N1 x22 h) : L42_5 x1 x20 x21 K Kp x22 h :=
 loop_rule (σ := Int) (fun s => mk42_5 x1 x20 x21 s) (fun N s h => T42_5 x1 x20 x21 K Kp N s h) (fun N s h => by kernel_rfl) (fun s h => I s h) (fun s h => μ s h) (s0 := x22) h0 (fun s h hI N hN => step s h hI N (fun x22' h' hI' hl => hN x22' h' hI' hl))
def JT42_1 (x1:Addr) (K : Bool → HP) (Kp:PK) (h:Hp) : Prop :=
 Ld h (x1.add 7) (Sl.v) fun t20 =>
 L42_5 x1 t20 (t20.n:Int) K Kp (0:Int) h
def J42_1 (x1:Addr) (K : Bool → HP) (Kp:PK) (h:Hp) : Prop :=
 Joint (sem Tryd.prog ann42 (Dw ord42) none (sub [1, 1] code42) (ctxQ Tryd.prog ann42 (Dw ord42) none Kp [1, 1] code42 [] (q42 K)) Kp (([none, some (.pointer (some x1))] ++ nn 70)) h)
theorem J42_1.of {x1:Addr} {K : Bool → HP} {Kp:PK} {h:Hp} (H : JT42_1 x1 K Kp h) : J42_1 x1 K Kp h :=
 Joint.mk (Eq.mp (by kernel_rfl) H)
def S42 (hv_0:Int) (hv_1:Sl) (hv_2:Sl) (hv_3:Int) (hv_4:Bool) (hv_5:Int) (hv_6:Int) (hv_7:Sl) (hv_8:Sl) (h:Hp) (K : Bool → HP) (Kp:PK) : Prop :=
 New h #[(.int .i64 hv_0), (Sl.v hv_1), (Sl.v hv_2), (.int .i64 hv_3), (.bool hv_4), (.int .i64 hv_5), (.int .i64 hv_6), (Sl.v hv_7), (Sl.v hv_8)] 29 fun a1 h1 =>
 Ld h1 (a1.add 7) (Sl.v) fun t10 =>
 If (decide ((t10.n:Int) > (512:Int))) (
 K false h1) (
 Ld h1 (a1.add 8) (Sl.v) fun t15 =>
 If (decide ((t15.n:Int) > (1536:Int))) (
 K false h1) (
 J42_1 a1 K Kp h1))
theorem Fn42.of {hv_0:Int} {hv_1:Sl} {hv_2:Sl} {hv_3:Int} {hv_4:Bool} {hv_5:Int} {hv_6:Int} {hv_7:Sl} {hv_8:Sl} {h:Hp} {K : Bool → HP} {Kp:PK} (H : S42 hv_0 hv_1 hv_2 hv_3 hv_4 hv_5 hv_6 hv_7 hv_8 h K Kp) : Fn42 hv_0 hv_1 hv_2 hv_3 hv_4 hv_5 hv_6 hv_7 hv_8 h K Kp :=
 fn_of2 (P := Tryd.prog) (ann := ann42) (D := DrawSem Tryd.prog ord42) (drawOk _) (c := code42) (zs := [(.bool false)]) (args := [(.agg #[(.int .i64 hv_0), (Sl.v hv_1), (Sl.v hv_2), (.int .i64 hv_3), (.bool hv_4), (.int .i64 hv_5), (.int .i64 hv_6), (Sl.v hv_7), (Sl.v hv_8)])]) (Kv := kv42 K) (Kp := Kp) (h := h) Tryd.func42 (by kernel_rfl) H (by kernel_rfl) (by kernel_rfl)
end Go.Proofs.YtfomkkdijjfpiaaDoor
