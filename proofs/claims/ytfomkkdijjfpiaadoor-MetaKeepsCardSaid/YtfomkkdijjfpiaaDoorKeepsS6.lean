/- What the functions do, printed by program (gen.py) in the words of ShCore; each text is held against the loaded program by the kernel. -/
import Derived.Test.YtfomkkdijjfpiaaDoorKeepsF
set_option linter.unusedSimpArgs false
set_option linter.unusedVariables false
set_option maxRecDepth 100000
namespace Go.Proofs.YtfomkkdijjfpiaaDoor
open Go Go.Sh
/- ### 17: wide -/
noncomputable def code17 : Code := Tryd.f17.body.getD .skip
def ann17 : Ann := [(2000011, [1, 2, 3, 4, 5]), (2006, [1, 2, 3, 4, 5, 6])]
def ord17 : List (Nat × OT × List Nat) := []
def kv17 (K : Int → Sl → Sl → Int → Bool → Int → Int → Sl → Sl → HP) : Value → HP := fun v h => match v with | .agg cs0 => (match (cs0.toList.getD 0 undef) with | .int _ r0_0 => (match (cs0.toList.getD 1 undef) with | .slice r0_1a r0_1n r0_1c => (let r0_1 : Sl := ⟨r0_1a, r0_1n, r0_1c⟩; match (cs0.toList.getD 2 undef) with | .slice r0_2a r0_2n r0_2c => (let r0_2 : Sl := ⟨r0_2a, r0_2n, r0_2c⟩; match (cs0.toList.getD 3 undef) with | .int _ r0_3 => (match (cs0.toList.getD 4 undef) with | .bool r0_4 => (match (cs0.toList.getD 5 undef) with | .int _ r0_5 => (match (cs0.toList.getD 6 undef) with | .int _ r0_6 => (match (cs0.toList.getD 7 undef) with | .slice r0_7a r0_7n r0_7c => (let r0_7 : Sl := ⟨r0_7a, r0_7n, r0_7c⟩; match (cs0.toList.getD 8 undef) with | .slice r0_8a r0_8n r0_8c => (let r0_8 : Sl := ⟨r0_8a, r0_8n, r0_8c⟩; K r0_0 r0_1 r0_2 r0_3 r0_4 r0_5 r0_6 r0_7 r0_8 h) | _ => False) | _ => False) | _ => False) | _ => False) | _ => False) | _ => False) | _ => False) | _ => False) | _ => False) | _ => False
def q17 (K : Int → Sl → Sl → Int → Bool → Int → Int → Sl → Sl → HP) : Qt := retQ Tryd.prog Tryd.f17.results.toList [(.agg #[(.int .i64 (0:Int)), (.slice none 0 0), (.slice none 0 0), (.int .i64 (0:Int)), (.bool false), (.int .i64 (0:Int)), (.int .i64 (0:Int)), (.slice none 0 0), (.slice none 0 0)])] (kv17 K)
def JT17_1 (x1:Addr) (x2:Addr) (x3:Sl) (x4:Sl) (x5:Sl) (K : Int → Sl → Sl → Int → Bool → Int → Int → Sl → Sl → HP) (Kp:PK) (h:Hp) : Prop :=
 Ld h ((x1.add 1).add 1) (Sl.v) fun t44 =>
 Slc x3 2 none (some (t44.n:Int)) none fun t46 =>
 St h ((x1.add 1).add 1) (Sl.v t46) fun h1 =>
 Ld h1 (x1.add 7) (Sl.v) fun t51 =>
 Slc x4 2 none (some (t51.n:Int)) none fun t53 =>
 St h1 (x1.add 7) (Sl.v t53) fun h2 =>
 Ld h2 (x1.add 8) (Sl.v) fun t57 =>
 Slc x5 3 none (some (t57.n:Int)) none fun t59 =>
 St h2 (x1.add 8) (Sl.v t59) fun h3 =>
 Ld h3 x1 (Value.int .i64) fun t61_0 =>
 Ld h3 (x1.add 1) (Sl.v) fun t61_1 =>
 Ld h3 (x1.add 2) (Sl.v) fun t61_2 =>
 Ld h3 (x1.add 3) (Value.int .i64) fun t61_3 =>
 Ld h3 (x1.add 4) (Value.bool) fun t61_4 =>
 Ld h3 (x1.add 5) (Value.int .i64) fun t61_5 =>
 Ld h3 (x1.add 6) (Value.int .i64) fun t61_6 =>
 Ld h3 (x1.add 7) (Sl.v) fun t61_7 =>
 Ld h3 (x1.add 8) (Sl.v) fun t61_8 =>
 St h3 x2 (.int .i64 t61_0) fun h4 =>
 St h4 (x2.add 1) (Sl.v t61_1) fun h5 =>
 St h5 (x2.add 2) (Sl.v t61_2) fun h6 =>
 St h6 (x2.add 3) (.int .i64 t61_3) fun h7 =>
 St h7 (x2.add 4) (.bool t61_4) fun h8 =>
 St h8 (x2.add 5) (.int .i64 t61_5) fun h9 =>
 St h9 (x2.add 6) (.int .i64 t61_6) fun h10 =>
 St h10 (x2.add 7) (Sl.v t61_7) fun h11 =>
 St h11 (x2.add 8) (Sl.v t61_8) fun h12 =>
 Ld h12 x2 (Value.int .i64) fun r0_0 =>
 Ld h12 (x2.add 1) (Sl.v) fun r0_1 =>
 Ld h12 (x2.add 2) (Sl.v) fun r0_2 =>
 Ld h12 (x2.add 3) (Value.int .i64) fun r0_3 =>
 Ld h12 (x2.add 4) (Value.bool) fun r0_4 =>
 Ld h12 (x2.add 5) (Value.int .i64) fun r0_5 =>
 Ld h12 (x2.add 6) (Value.int .i64) fun r0_6 =>
 Ld h12 (x2.add 7) (Sl.v) fun r0_7 =>
 Ld h12 (x2.add 8) (Sl.v) fun r0_8 =>
 K r0_0 r0_1 r0_2 r0_3 r0_4 r0_5 r0_6 r0_7 r0_8 h12
def J17_1 (x1:Addr) (x2:Addr) (x3:Sl) (x4:Sl) (x5:Sl) (K : Int → Sl → Sl → Int → Bool → Int → Int → Sl → Sl → HP) (Kp:PK) (h:Hp) : Prop :=
 Joint (sem Tryd.prog ann17 (Dw ord17) none (sub [1, 1, 1, 1, 1, 1] code17) (ctxQ Tryd.prog ann17 (Dw ord17) none Kp [1, 1, 1, 1, 1, 1] code17 [] (q17 K)) Kp (([none, some (.pointer (some x1)), some (.pointer (some x2)), some (Sl.v x3), some (Sl.v x4), some (Sl.v x5)] ++ nn 56)) h)
theorem J17_1.of {x1:Addr} {x2:Addr} {x3:Sl} {x4:Sl} {x5:Sl} {K : Int → Sl → Sl → Int → Bool → Int → Int → Sl → Sl → HP} {Kp:PK} {h:Hp} (H : JT17_1 x1 x2 x3 x4 x5 K Kp h) : J17_1 x1 x2 x3 x4 x5 K Kp h :=
 Joint.mk (Eq.mp (by kernel_rfl) H)
abbrev mk17_2 (x1:Addr) (x2:Addr) (x3:Sl) (x4:Sl) (x5:Sl) (x6:Int) : Fr := ([none, some (.pointer (some x1)), some (.pointer (some x2)), some (Sl.v x3), some (Sl.v x4), some (Sl.v x5), some (.int .i64 x6)] ++ nn 55)
def T17_2 (x1:Addr) (x2:Addr) (K : Int → Sl → Sl → Int → Bool → Int → Int → Sl → Sl → HP) (Kp:PK) (N1 : Fr → HP) (x3:Sl) (x4:Sl) (x5:Sl) (x6:Int) (h:Hp) : Prop :=
 If (decide (x6 < (3:Int))) (
 New h #[(.string (bs [109])), (.string (bs [109]))] 66 fun a29 h1 =>
 Ap h1 66 #[(.string (bs [])), (.string (bs []))] 2 32 x3 1 (rd h1 (some a29) (1 * 2)) fun t30 h2 =>
 New h2 #[(.int .i64 (-9:Int)), (.int .i64 x6)] 55 fun a34 h3 =>
 Ap h3 55 #[(.int .i64 (0:Int)), (.int .i64 (0:Int))] 2 16 x4 1 (rd h3 (some a34) (1 * 2)) fun t35 h4 =>
 New h4 #[(.int .i64 (-9:Int)), (.int .i64 (0:Int)), (.int .i64 x6)] 57 fun a39 h5 =>
 Ap h5 57 #[(.int .i64 (0:Int)), (.int .i64 (0:Int)), (.int .i64 (0:Int))] 3 24 x5 1 (rd h5 (some a39) (1 * 3)) fun t40 h6 =>
 Wr .i64 (x6 + (1:Int)) fun t26 =>
 N1 (mk17_2 x1 x2 t30 t35 t40 t26) h6) (
 J17_1 x1 x2 x3 x4 x5 K Kp h)
def L17_2 (x1:Addr) (x2:Addr) (K : Int → Sl → Sl → Int → Bool → Int → Int → Sl → Sl → HP) (Kp:PK) (x3:Sl) (x4:Sl) (x5:Sl) (x6:Int) (h:Hp) : Prop :=
 LoopH (fun N fr h => sem Tryd.prog ann17 (Dw ord17) none (sub [1, 1, 1, 1, 1, 0, 1, 0, 0] code17) (thenQ (fun fr' h' => N (Ann.find ann17 2006 fr') h') (ctxQ Tryd.prog ann17 (Dw ord17) none Kp [1, 1, 1, 1, 1, 0, 1, 0] code17 [] (q17 K))) Kp fr h) (mk17_2 x1 x2 x3 x4 x5 x6) h
theorem L17_2.rule {x1:Addr} {x2:Addr} {K : Int → Sl → Sl → Int → Bool → Int → Int → Sl → Sl → HP} {Kp:PK} (I : Sl → Sl → Sl → Int → HP) (μ : Sl → Sl → Sl → Int → Hp → Nat) {x3:Sl} {x4:Sl} {x5:Sl} {x6:Int} {h:Hp} (h0 : I x3 x4 x5 x6 h)
 (step : ∀ (x3:Sl) (x4:Sl) (x5:Sl) (x6:Int) (h:Hp), I x3 x4 x5 x6 h → ∀ N1 : Fr → HP, (∀ (x3':Sl) (x4':Sl) (x5':Sl) (x6':Int) (h':Hp), I x3' x4' x5' x6' h' → μ x3' x4' x5' x6' h' < μ x3 x4 x5 x6 h → N1 (mk17_2 x1 x2 x3' x4' x5' x6') h') → T17_2 x1 x2 K Kp N1 x3 x4 x5 x6 h) : L17_2 x1 x2 K Kp x3 x4 x5 x6 h :=
 loop_rule (σ := Sl × Sl × Sl × Int) (fun s => mk17_2 x1 x2 s.1 s.2.1 s.2.2.1 s.2.2.2) (fun N s h => T17_2 x1 x2 K Kp N s.1 s.2.1 s.2.2.1 s.2.2.2 h) (fun N s h => by kernel_rfl) (fun s h => I s.1 s.2.1 s.2.2.1 s.2.2.2 h) (fun s h => μ s.1 s.2.1 s.2.2.1 s.2.2.2 h) (s0 := ⟨x3, x4, x5, x6⟩) h0 (fun s h hI N hN => step s.1 s.2.1 s.2.2.1 s.2.2.2 h hI N (fun x3' x4' x5' x6' h' hI' hl => hN ⟨x3', x4', x5', x6'⟩ h' hI' hl))
def S17 (hv_0:Int) (hv_1:Sl) (hv_2:Sl) (hv_3:Int) (hv_4:Bool) (hv_5:Int) (hv_6:Int) (hv_7:Sl) (hv_8:Sl) (h:Hp) (K : Int → Sl → Sl → Int → Bool → Int → Int → Sl → Sl → HP) (Kp:PK) : Prop :=
 New h #[(.int .i64 hv_0), (Sl.v hv_1), (Sl.v hv_2), (.int .i64 hv_3), (.bool hv_4), (.int .i64 hv_5), (.int .i64 hv_6), (Sl.v hv_7), (Sl.v hv_8)] 29 fun a1 h1 =>
 New h1 #[(.int .i64 (0:Int)), (.slice none 0 0), (.slice none 0 0), (.int .i64 (0:Int)), (.bool false), (.int .i64 (0:Int)), (.int .i64 (0:Int)), (.slice none 0 0), (.slice none 0 0)] 29 fun a2 h2 =>
 Ld h2 (a1.add 1) (Sl.v) fun t9 =>
 Fn38 t9 h2 (fun t10 h3 =>
 St h3 (a1.add 1) (Sl.v t10) fun h4 =>
 Ld h4 ((a1.add 1).add 1) (Sl.v) fun t15 =>
 Ap h4 66 #[(.string (bs [])), (.string (bs []))] 2 32 (⟨none, 0, 0⟩:Sl) t15.n (rd h4 t15.a (t15.n * 2)) fun t16 h5 =>
 Ld h5 (a1.add 7) (Sl.v) fun t18 =>
 Ap h5 55 #[(.int .i64 (0:Int)), (.int .i64 (0:Int))] 2 16 (⟨none, 0, 0⟩:Sl) t18.n (rd h5 t18.a (t18.n * 2)) fun t19 h6 =>
 Ld h6 (a1.add 8) (Sl.v) fun t21 =>
 Ap h6 57 #[(.int .i64 (0:Int)), (.int .i64 (0:Int)), (.int .i64 (0:Int))] 3 24 (⟨none, 0, 0⟩:Sl) t21.n (rd h6 t21.a (t21.n * 3)) fun t22 h7 =>
 L17_2 a1 a2 K Kp t16 t19 t22 (0:Int) h7) Kp
theorem Fn17.of {hv_0:Int} {hv_1:Sl} {hv_2:Sl} {hv_3:Int} {hv_4:Bool} {hv_5:Int} {hv_6:Int} {hv_7:Sl} {hv_8:Sl} {h:Hp} {K : Int → Sl → Sl → Int → Bool → Int → Int → Sl → Sl → HP} {Kp:PK} (H : S17 hv_0 hv_1 hv_2 hv_3 hv_4 hv_5 hv_6 hv_7 hv_8 h K Kp) : Fn17 hv_0 hv_1 hv_2 hv_3 hv_4 hv_5 hv_6 hv_7 hv_8 h K Kp :=
 fn_of2 (P := Tryd.prog) (ann := ann17) (D := DrawSem Tryd.prog ord17) (drawOk _) (c := code17) (zs := [(.agg #[(.int .i64 (0:Int)), (.slice none 0 0), (.slice none 0 0), (.int .i64 (0:Int)), (.bool false), (.int .i64 (0:Int)), (.int .i64 (0:Int)), (.slice none 0 0), (.slice none 0 0)])]) (args := [(.agg #[(.int .i64 hv_0), (Sl.v hv_1), (Sl.v hv_2), (.int .i64 hv_3), (.bool hv_4), (.int .i64 hv_5), (.int .i64 hv_6), (Sl.v hv_7), (Sl.v hv_8)])]) (Kv := kv17 K) (Kp := Kp) (h := h) Tryd.func17 (by kernel_rfl) H (by kernel_rfl) (by kernel_rfl)
/- ### 18: spoilBytes -/
noncomputable def code18 : Code := Tryd.f18.body.getD .skip
def ann18 : Ann := [(2000004, [0]), (2005, [0, 3]), (2001, [0, 2])]
def ord18 : List (Nat × OT × List Nat) := []
def kv18 (K:HP) : Value → HP := fun _ h => K h
def q18 (K:HP) : Qt := retQ Tryd.prog Tryd.f18.results.toList [] (kv18 K)
abbrev mk18_2 (x0:Sl) (x3:Int) : Fr := ([some (Sl.v x0), none, none, some (.int .i64 x3)] ++ nn 27)
def T18_2 (K:HP) (Kp:PK) (N1 : Fr → HP) (x0:Sl) (x3:Int) (h:Hp) : Prop :=
 If (decide (x3 < (20:Int))) (
 Wr .u8 x3 fun t23 =>
 Wr .u8 ((192:Int) + t23) fun t24 =>
 New h #[(.int .u8 t24)] 5 fun a25 h1 =>
 Ap h1 5 #[(.int .u8 (0:Int))] 1 1 x0 1 (rd h1 (some a25) (1 * 1)) fun t26 h2 =>
 Wr .i64 (x3 + (1:Int)) fun t20 =>
 N1 (mk18_2 t26 t20) h2) (
 MkS h 5 #[(.int .u8 (0:Int))] 1 1 (90:Int) (90:Int) fun t27 h1 =>
 Ap h1 5 #[(.int .u8 (0:Int))] 1 1 x0 t27.n (rd h1 t27.a (t27.n * 1)) fun t30 h2 =>
 K  h2)
def L18_2 (K:HP) (Kp:PK) (x0:Sl) (x3:Int) (h:Hp) : Prop :=
 LoopH (fun N fr h => sem Tryd.prog ann18 (Dw ord18) none (sub [1, 0, 1, 0, 0] code18) (thenQ (fun fr' h' => N (Ann.find ann18 2005 fr') h') (ctxQ Tryd.prog ann18 (Dw ord18) none Kp [1, 0, 1, 0] code18 [] (q18 K))) Kp fr h) (mk18_2 x0 x3) h
theorem L18_2.rule {K:HP} {Kp:PK} (I : Sl → Int → HP) (μ : Sl → Int → Hp → Nat) {x0:Sl} {x3:Int} {h:Hp} (h0 : I x0 x3 h)
 (step : ∀ (x0:Sl) (x3:Int) (h:Hp), I x0 x3 h → ∀ N1 : Fr → HP, (∀ (x0':Sl) (x3':Int) (h':Hp), I x0' x3' h' → μ x0' x3' h' < μ x0 x3 h → N1 (mk18_2 x0' x3') h') → T18_2 K Kp N1 x0 x3 h) : L18_2 K Kp x0 x3 h :=
 loop_rule (σ := Sl × Int) (fun s => mk18_2 s.1 s.2) (fun N s h => T18_2 K Kp N s.1 s.2 h) (fun N s h => by kernel_rfl) (fun s h => I s.1 s.2 h) (fun s h => μ s.1 s.2 h) (s0 := ⟨x0, x3⟩) h0 (fun s h hI N hN => step s.1 s.2 h hI N (fun x0' x3' h' hI' hl => hN ⟨x0', x3'⟩ h' hI' hl))
def JT18_1 (x0:Sl) (K:HP) (Kp:PK) (h:Hp) : Prop :=
 L18_2  K Kp x0 (0:Int) h
def J18_1 (x0:Sl) (K:HP) (Kp:PK) (h:Hp) : Prop :=
 Joint (sem Tryd.prog ann18 (Dw ord18) none (sub [1] code18) (ctxQ Tryd.prog ann18 (Dw ord18) none Kp [1] code18 [] (q18 K)) Kp (([some (Sl.v x0)] ++ nn 30)) h)
theorem J18_1.of {x0:Sl} {K:HP} {Kp:PK} {h:Hp} (H : JT18_1 x0 K Kp h) : J18_1 x0 K Kp h :=
 Joint.mk (Eq.mp (by kernel_rfl) H)
abbrev mk18_3 (x0:Sl) (x2:Int) : Fr := ([some (Sl.v x0), none, some (.int .i64 x2)] ++ nn 28)
def T18_3 (x0:Sl) (K:HP) (Kp:PK) (N1 : Fr → HP) (x2:Int) (h:Hp) : Prop :=
 If (decide (x2 < (x0.n:Int))) (
 Wr .u8 x2 fun t14 =>
 Lt (bitsV .xor .u8 (90:Int) t14) fun t15 =>
 Ix x0.a x0.n 1 x2 fun a16 =>
 St h a16 (.int .u8 t15) fun h1 =>
 Wr .i64 (x2 + (1:Int)) fun t10 =>
 N1 (mk18_3 x0 t10) h1) (
 J18_1 x0 K Kp h)
def L18_3 (x0:Sl) (K:HP) (Kp:PK) (x2:Int) (h:Hp) : Prop :=
 LoopH (fun N fr h => sem Tryd.prog ann18 (Dw ord18) none (sub [0, 1, 0, 0] code18) (thenQ (fun fr' h' => N (Ann.find ann18 2001 fr') h') (ctxQ Tryd.prog ann18 (Dw ord18) none Kp [0, 1, 0] code18 [] (q18 K))) Kp fr h) (mk18_3 x0 x2) h
theorem L18_3.rule {x0:Sl} {K:HP} {Kp:PK} (I : Int → HP) (μ : Int → Hp → Nat) {x2:Int} {h:Hp} (h0 : I x2 h)
 (step : ∀ (x2:Int) (h:Hp), I x2 h → ∀ N1 : Fr → HP, (∀ (x2':Int) (h':Hp), I x2' h' → μ x2' h' < μ x2 h → N1 (mk18_3 x0 x2') h') → T18_3 x0 K Kp N1 x2 h) : L18_3 x0 K Kp x2 h :=
 loop_rule (σ := Int) (fun s => mk18_3 x0 s) (fun N s h => T18_3 x0 K Kp N s h) (fun N s h => by kernel_rfl) (fun s h => I s h) (fun s h => μ s h) (s0 := x2) h0 (fun s h hI N hN => step s h hI N (fun x2' h' hI' hl => hN x2' h' hI' hl))
def S18 (b:Sl) (h:Hp) (K:HP) (Kp:PK) : Prop :=
 L18_3 b K Kp (0:Int) h
theorem Fn18.of {b:Sl} {h:Hp} {K:HP} {Kp:PK} (H : S18 b h K Kp) : Fn18 b h K Kp :=
 fn_of2 (P := Tryd.prog) (ann := ann18) (D := DrawSem Tryd.prog ord18) (drawOk _) (c := code18) (zs := []) (args := [(Sl.v b)]) (Kv := kv18 K) (Kp := Kp) (h := h) Tryd.func18 (by kernel_rfl) H (by kernel_rfl) (by kernel_rfl)
/- ### 19: kept -/
noncomputable def code19 : Code := Tryd.f19.body.getD .skip
def ann19 : Ann := [(2000012, [2, 3]), (2005, [2, 3, 5, 6, 7, 8]), (50008, [2, 3, 5, 6, 7, 8, 10, 11, 70]), (50013, [2, 3, 5, 6, 7, 8, 10, 11, 75]), (50019, [2, 3, 5, 6, 7, 8, 11, 81]), (50024, [2, 3, 5, 6, 7, 8, 11, 86]), (50030, [2, 3, 5, 6, 7, 8, 11, 92])]
def ord19 : List (Nat × OT × List Nat) := []
def kv19 (K : Bool → HP) : Value → HP := fun v h => match v with | .bool r0 => (K r0 h) | _ => False
def q19 (K : Bool → HP) : Qt := retQ Tryd.prog Tryd.f19.results.toList [(.bool false)] (kv19 K)
def JT19_1 (x2:Addr) (x3:Addr) (K : Bool → HP) (Kp:PK) (h:Hp) : Prop :=
 Ld h x2 (Value.int .i64) fun t98_0 =>
 Ld h (x2.add 1) (Sl.v) fun t98_1 =>
 Ld h (x2.add 2) (Sl.v) fun t98_2 =>
 Ld h (x2.add 3) (Value.int .i64) fun t98_3 =>
 Ld h (x2.add 4) (Value.bool) fun t98_4 =>
 Ld h (x2.add 5) (Value.int .i64) fun t98_5 =>
 Ld h (x2.add 6) (Value.int .i64) fun t98_6 =>
 Ld h (x2.add 7) (Sl.v) fun t98_7 =>
 Ld h (x2.add 8) (Sl.v) fun t98_8 =>
 Ld h x3 (Value.int .i64) fun t99_0 =>
 Ld h (x3.add 1) (Sl.v) fun t99_1 =>
 Ld h (x3.add 2) (Sl.v) fun t99_2 =>
 Ld h (x3.add 3) (Value.int .i64) fun t99_3 =>
 Ld h (x3.add 4) (Value.bool) fun t99_4 =>
 Ld h (x3.add 5) (Value.int .i64) fun t99_5 =>
 Ld h (x3.add 6) (Value.int .i64) fun t99_6 =>
 Ld h (x3.add 7) (Sl.v) fun t99_7 =>
 Ld h (x3.add 8) (Sl.v) fun t99_8 =>
 Fn15 t98_0 t98_1 t98_2 t98_3 t98_4 t98_5 t98_6 t98_7 t98_8 t99_0 t99_1 t99_2 t99_3 t99_4 t99_5 t99_6 t99_7 t99_8 h (fun t100 h1 =>
 If t100 (
 Ld h1 (x2.add 1) (Sl.v) fun t104 =>
 Ld h1 (x3.add 1) (Sl.v) fun t107 =>
 Fn39 t104 t107 h1 (fun t108 h2 =>
 K t108 h2) Kp) (
 K false h1)) Kp
def J19_1 (x2:Addr) (x3:Addr) (K : Bool → HP) (Kp:PK) (h:Hp) : Prop :=
 Joint (sem Tryd.prog ann19 (Dw ord19) none (sub [1, 1, 1, 1, 1] code19) (ctxQ Tryd.prog ann19 (Dw ord19) none Kp [1, 1, 1, 1, 1] code19 [] (q19 K)) Kp (([none, none, some (.pointer (some x2)), some (.pointer (some x3))] ++ nn 106)) h)
theorem J19_1.of {x2:Addr} {x3:Addr} {K : Bool → HP} {Kp:PK} {h:Hp} (H : JT19_1 x2 x3 K Kp h) : J19_1 x2 x3 K Kp h :=
 Joint.mk (Eq.mp (by kernel_rfl) H)
abbrev mk19_2 (x2:Addr) (x3:Addr) (x5:Sl) (x6:Sl) (x7:Sl) (x8:Int) : Fr := ([none, none, some (.pointer (some x2)), some (.pointer (some x3)), none, some (Sl.v x5), some (Sl.v x6), some (Sl.v x7), some (.int .i64 x8)] ++ nn 101)
def JT19_7 (x2:Addr) (x3:Addr) (x5:Sl) (x6:Sl) (x7:Sl) (x8:Int) (x11:Addr) (x92:Bool) (N1 : Fr → HP) (K : Bool → HP) (Kp:PK) (h:Hp) : Prop :=
 If x92 (
 K false h) (
 Ld h (x11.add 1) (Value.int .i64) fun t95 =>
 If (t95 != (0:Int)) (
 K false h) (
 Wr .i64 (x8 + (1:Int)) fun t38 =>
 N1 (mk19_2 x2 x3 x5 x6 x7 t38) h))
def J19_7 (x2:Addr) (x3:Addr) (x5:Sl) (x6:Sl) (x7:Sl) (x8:Int) (x11:Addr) (x92:Bool) (N1 : Fr → HP) (K : Bool → HP) (Kp:PK) (h:Hp) : Prop :=
 Joint (semOps Tryd.prog (Ann.reg 10 ann19) (regOps (sub [1, 1, 1, 1, 0, 1, 0, 0, 1, 0, 0, 1, 1, 1, 0] code19)) [30, 31, 32, 33, 34] (ctxQ Tryd.prog ann19 (Dw ord19) none Kp [1, 1, 1, 1, 0, 1, 0, 0, 1, 0, 0, 1, 1, 1, 0] code19 [N1] (q19 K) .normal) Kp (([none, none, some (.pointer (some x2)), some (.pointer (some x3)), none, some (Sl.v x5), some (Sl.v x6), some (Sl.v x7), some (.int .i64 x8), none, none, some (.pointer (some x11)), none, none, none, none, none, none, none, none, none, none, none, none, none, none, none, none, none, none, none, none, none, none, none, none, none, none, none, none, none, none, none, none, none, none, none, none, none, none, none, none, none, none, none, none, none, none, none, none, none, none, none, none, none, none, none, none, none, none, none, none, none, none, none, none, none, none, none, none, none, none, none, none, none, none, none, none, none, none, none, none, some (.bool x92)] ++ nn 17)) h)
theorem J19_7.of {x2:Addr} {x3:Addr} {x5:Sl} {x6:Sl} {x7:Sl} {x8:Int} {x11:Addr} {x92:Bool} {N1 : Fr → HP} {K : Bool → HP} {Kp:PK} {h:Hp} (H : JT19_7 x2 x3 x5 x6 x7 x8 x11 x92 N1 K Kp h) : J19_7 x2 x3 x5 x6 x7 x8 x11 x92 N1 K Kp h :=
 Joint.mk (Eq.mp (by kernel_rfl) H)
def JT19_6 (x2:Addr) (x3:Addr) (x5:Sl) (x6:Sl) (x7:Sl) (x8:Int) (x11:Addr) (x86:Bool) (N1 : Fr → HP) (K : Bool → HP) (Kp:PK) (h:Hp) : Prop :=
 If x86 (
 J19_7 x2 x3 x5 x6 x7 x8 x11 true N1 K Kp h) (
 Ld h (x11.add 2) (Value.int .i64) fun t89 =>
 J19_7 x2 x3 x5 x6 x7 x8 x11 (t89 != x8) N1 K Kp h)
def J19_6 (x2:Addr) (x3:Addr) (x5:Sl) (x6:Sl) (x7:Sl) (x8:Int) (x11:Addr) (x86:Bool) (N1 : Fr → HP) (K : Bool → HP) (Kp:PK) (h:Hp) : Prop :=
 Joint (semOps Tryd.prog (Ann.reg 10 ann19) (regOps (sub [1, 1, 1, 1, 0, 1, 0, 0, 1, 0, 0, 1, 1, 1, 0] code19)) [24, 25, 26, 27, 28, 29, 30, 31, 32, 33, 34] (ctxQ Tryd.prog ann19 (Dw ord19) none Kp [1, 1, 1, 1, 0, 1, 0, 0, 1, 0, 0, 1, 1, 1, 0] code19 [N1] (q19 K) .normal) Kp (([none, none, some (.pointer (some x2)), some (.pointer (some x3)), none, some (Sl.v x5), some (Sl.v x6), some (Sl.v x7), some (.int .i64 x8), none, none, some (.pointer (some x11)), none, none, none, none, none, none, none, none, none, none, none, none, none, none, none, none, none, none, none, none, none, none, none, none, none, none, none, none, none, none, none, none, none, none, none, none, none, none, none, none, none, none, none, none, none, none, none, none, none, none, none, none, none, none, none, none, none, none, none, none, none, none, none, none, none, none, none, none, none, none, none, none, none, none, some (.bool x86)] ++ nn 23)) h)
theorem J19_6.of {x2:Addr} {x3:Addr} {x5:Sl} {x6:Sl} {x7:Sl} {x8:Int} {x11:Addr} {x86:Bool} {N1 : Fr → HP} {K : Bool → HP} {Kp:PK} {h:Hp} (H : JT19_6 x2 x3 x5 x6 x7 x8 x11 x86 N1 K Kp h) : J19_6 x2 x3 x5 x6 x7 x8 x11 x86 N1 K Kp h :=
 Joint.mk (Eq.mp (by kernel_rfl) H)
def JT19_5 (x2:Addr) (x3:Addr) (x5:Sl) (x6:Sl) (x7:Sl) (x8:Int) (x11:Addr) (x81:Bool) (N1 : Fr → HP) (K : Bool → HP) (Kp:PK) (h:Hp) : Prop :=
 If x81 (
 J19_6 x2 x3 x5 x6 x7 x8 x11 true N1 K Kp h) (
 Ld h x11 (Value.int .i64) fun t84 =>
 J19_6 x2 x3 x5 x6 x7 x8 x11 (t84 != (-9:Int)) N1 K Kp h)
def J19_5 (x2:Addr) (x3:Addr) (x5:Sl) (x6:Sl) (x7:Sl) (x8:Int) (x11:Addr) (x81:Bool) (N1 : Fr → HP) (K : Bool → HP) (Kp:PK) (h:Hp) : Prop :=
 Joint (semOps Tryd.prog (Ann.reg 10 ann19) (regOps (sub [1, 1, 1, 1, 0, 1, 0, 0, 1, 0, 0, 1, 1, 1, 0] code19)) [19, 20, 21, 22, 23, 24, 25, 26, 27, 28, 29, 30, 31, 32, 33, 34] (ctxQ Tryd.prog ann19 (Dw ord19) none Kp [1, 1, 1, 1, 0, 1, 0, 0, 1, 0, 0, 1, 1, 1, 0] code19 [N1] (q19 K) .normal) Kp (([none, none, some (.pointer (some x2)), some (.pointer (some x3)), none, some (Sl.v x5), some (Sl.v x6), some (Sl.v x7), some (.int .i64 x8), none, none, some (.pointer (some x11)), none, none, none, none, none, none, none, none, none, none, none, none, none, none, none, none, none, none, none, none, none, none, none, none, none, none, none, none, none, none, none, none, none, none, none, none, none, none, none, none, none, none, none, none, none, none, none, none, none, none, none, none, none, none, none, none, none, none, none, none, none, none, none, none, none, none, none, none, none, some (.bool x81)] ++ nn 28)) h)
theorem J19_5.of {x2:Addr} {x3:Addr} {x5:Sl} {x6:Sl} {x7:Sl} {x8:Int} {x11:Addr} {x81:Bool} {N1 : Fr → HP} {K : Bool → HP} {Kp:PK} {h:Hp} (H : JT19_5 x2 x3 x5 x6 x7 x8 x11 x81 N1 K Kp h) : J19_5 x2 x3 x5 x6 x7 x8 x11 x81 N1 K Kp h :=
 Joint.mk (Eq.mp (by kernel_rfl) H)
def JT19_4 (x2:Addr) (x3:Addr) (x5:Sl) (x6:Sl) (x7:Sl) (x8:Int) (x10:Addr) (x11:Addr) (x75:Bool) (N1 : Fr → HP) (K : Bool → HP) (Kp:PK) (h:Hp) : Prop :=
 If x75 (
 J19_5 x2 x3 x5 x6 x7 x8 x11 true N1 K Kp h) (
 Ld h (x10.add 1) (Value.int .i64) fun t78 =>
 J19_5 x2 x3 x5 x6 x7 x8 x11 (t78 != x8) N1 K Kp h)
def J19_4 (x2:Addr) (x3:Addr) (x5:Sl) (x6:Sl) (x7:Sl) (x8:Int) (x10:Addr) (x11:Addr) (x75:Bool) (N1 : Fr → HP) (K : Bool → HP) (Kp:PK) (h:Hp) : Prop :=
 Joint (semOps Tryd.prog (Ann.reg 10 ann19) (regOps (sub [1, 1, 1, 1, 0, 1, 0, 0, 1, 0, 0, 1, 1, 1, 0] code19)) [13, 14, 15, 16, 17, 18, 19, 20, 21, 22, 23, 24, 25, 26, 27, 28, 29, 30, 31, 32, 33, 34] (ctxQ Tryd.prog ann19 (Dw ord19) none Kp [1, 1, 1, 1, 0, 1, 0, 0, 1, 0, 0, 1, 1, 1, 0] code19 [N1] (q19 K) .normal) Kp (([none, none, some (.pointer (some x2)), some (.pointer (some x3)), none, some (Sl.v x5), some (Sl.v x6), some (Sl.v x7), some (.int .i64 x8), none, some (.pointer (some x10)), some (.pointer (some x11)), none, none, none, none, none, none, none, none, none, none, none, none, none, none, none, none, none, none, none, none, none, none, none, none, none, none, none, none, none, none, none, none, none, none, none, none, none, none, none, none, none, none, none, none, none, none, none, none, none, none, none, none, none, none, none, none, none, none, none, none, none, none, none, some (.bool x75)] ++ nn 34)) h)
theorem J19_4.of {x2:Addr} {x3:Addr} {x5:Sl} {x6:Sl} {x7:Sl} {x8:Int} {x10:Addr} {x11:Addr} {x75:Bool} {N1 : Fr → HP} {K : Bool → HP} {Kp:PK} {h:Hp} (H : JT19_4 x2 x3 x5 x6 x7 x8 x10 x11 x75 N1 K Kp h) : J19_4 x2 x3 x5 x6 x7 x8 x10 x11 x75 N1 K Kp h :=
 Joint.mk (Eq.mp (by kernel_rfl) H)
def JT19_3 (x2:Addr) (x3:Addr) (x5:Sl) (x6:Sl) (x7:Sl) (x8:Int) (x10:Addr) (x11:Addr) (x70:Bool) (N1 : Fr → HP) (K : Bool → HP) (Kp:PK) (h:Hp) : Prop :=
 If x70 (
 J19_4 x2 x3 x5 x6 x7 x8 x10 x11 true N1 K Kp h) (
 Ld h x10 (Value.int .i64) fun t73 =>
 J19_4 x2 x3 x5 x6 x7 x8 x10 x11 (t73 != (-9:Int)) N1 K Kp h)
def J19_3 (x2:Addr) (x3:Addr) (x5:Sl) (x6:Sl) (x7:Sl) (x8:Int) (x10:Addr) (x11:Addr) (x70:Bool) (N1 : Fr → HP) (K : Bool → HP) (Kp:PK) (h:Hp) : Prop :=
 Joint (semOps Tryd.prog (Ann.reg 10 ann19) (regOps (sub [1, 1, 1, 1, 0, 1, 0, 0, 1, 0, 0, 1, 1, 1, 0] code19)) [8, 9, 10, 11, 12, 13, 14, 15, 16, 17, 18, 19, 20, 21, 22, 23, 24, 25, 26, 27, 28, 29, 30, 31, 32, 33, 34] (ctxQ Tryd.prog ann19 (Dw ord19) none Kp [1, 1, 1, 1, 0, 1, 0, 0, 1, 0, 0, 1, 1, 1, 0] code19 [N1] (q19 K) .normal) Kp (([none, none, some (.pointer (some x2)), some (.pointer (some x3)), none, some (Sl.v x5), some (Sl.v x6), some (Sl.v x7), some (.int .i64 x8), none, some (.pointer (some x10)), some (.pointer (some x11)), none, none, none, none, none, none, none, none, none, none, none, none, none, none, none, none, none, none, none, none, none, none, none, none, none, none, none, none, none, none, none, none, none, none, none, none, none, none, none, none, none, none, none, none, none, none, none, none, none, none, none, none, none, none, none, none, none, none, some (.bool x70)] ++ nn 39)) h)
theorem J19_3.of {x2:Addr} {x3:Addr} {x5:Sl} {x6:Sl} {x7:Sl} {x8:Int} {x10:Addr} {x11:Addr} {x70:Bool} {N1 : Fr → HP} {K : Bool → HP} {Kp:PK} {h:Hp} (H : JT19_3 x2 x3 x5 x6 x7 x8 x10 x11 x70 N1 K Kp h) : J19_3 x2 x3 x5 x6 x7 x8 x10 x11 x70 N1 K Kp h :=
 Joint.mk (Eq.mp (by kernel_rfl) H)
def T19_2 (x2:Addr) (x3:Addr) (x5:Sl) (x6:Sl) (x7:Sl) (K : Bool → HP) (Kp:PK) (N1 : Fr → HP) (x8:Int) (h:Hp) : Prop :=
 If (decide (x8 < (3:Int))) (
 Wr .i64 ((x5.n:Int) - (3:Int)) fun t42 =>
 Wr .i64 (t42 + x8) fun t44 =>
 Ix x5.a x5.n 2 t44 fun a45 =>
 Ld h a45 (Value.string) fun t46_0 =>
 Ld h (a45.add 1) (Value.string) fun t46_1 =>
 New h #[(.string (bs [])), (.string (bs []))] 66 fun a9 h1 =>
 St h1 a9 (.string t46_0) fun h2 =>
 St h2 (a9.add 1) (.string t46_1) fun h3 =>
 Wr .i64 ((x6.n:Int) - (3:Int)) fun t50 =>
 Wr .i64 (t50 + x8) fun t52 =>
 Ix x6.a x6.n 2 t52 fun a53 =>
 Ld h3 a53 (Value.int .i64) fun t54_0 =>
 Ld h3 (a53.add 1) (Value.int .i64) fun t54_1 =>
 New h3 #[(.int .i64 (0:Int)), (.int .i64 (0:Int))] 55 fun a10 h4 =>
 St h4 a10 (.int .i64 t54_0) fun h5 =>
 St h5 (a10.add 1) (.int .i64 t54_1) fun h6 =>
 Wr .i64 ((x7.n:Int) - (3:Int)) fun t58 =>
 Wr .i64 (t58 + x8) fun t60 =>
 Ix x7.a x7.n 3 t60 fun a61 =>
 Ld h6 a61 (Value.int .i64) fun t62_0 =>
 Ld h6 (a61.add 1) (Value.int .i64) fun t62_1 =>
 Ld h6 (a61.add 2) (Value.int .i64) fun t62_2 =>
 New h6 #[(.int .i64 (0:Int)), (.int .i64 (0:Int)), (.int .i64 (0:Int))] 57 fun a11 h7 =>
 St h7 a11 (.int .i64 t62_0) fun h8 =>
 St h8 (a11.add 1) (.int .i64 t62_1) fun h9 =>
 St h9 (a11.add 2) (.int .i64 t62_2) fun h10 =>
 Ld h10 a9 (Value.string) fun t64 =>
 If (!(t64.toList == (bs [109]).toList)) (
 J19_3 x2 x3 x5 x6 x7 x8 a10 a11 true N1 K Kp h10) (
 Ld h10 (a9.add 1) (Value.string) fun t68 =>
 J19_3 x2 x3 x5 x6 x7 x8 a10 a11 (!(t68.toList == (bs [109]).toList)) N1 K Kp h10)) (
 J19_1 x2 x3 K Kp h)
def L19_2 (x2:Addr) (x3:Addr) (x5:Sl) (x6:Sl) (x7:Sl) (K : Bool → HP) (Kp:PK) (x8:Int) (h:Hp) : Prop :=
 LoopH (fun N fr h => sem Tryd.prog ann19 (Dw ord19) none (sub [1, 1, 1, 1, 0, 1, 0, 0] code19) (thenQ (fun fr' h' => N (Ann.find ann19 2005 fr') h') (ctxQ Tryd.prog ann19 (Dw ord19) none Kp [1, 1, 1, 1, 0, 1, 0] code19 [] (q19 K))) Kp fr h) (mk19_2 x2 x3 x5 x6 x7 x8) h
theorem L19_2.rule {x2:Addr} {x3:Addr} {x5:Sl} {x6:Sl} {x7:Sl} {K : Bool → HP} {Kp:PK} (I : Int → HP) (μ : Int → Hp → Nat) {x8:Int} {h:Hp} (h0 : I x8 h)
 (step : ∀ (x8:Int) (h:Hp), I x8 h → ∀ N1 : Fr → HP, (∀ (x8':Int) (h':Hp), I x8' h' → μ x8' h' < μ x8 h → N1 (mk19_2 x2 x3 x5 x6 x7 x8') h') → T19_2 x2 x3 x5 x6 x7 K Kp N1 x8 h) : L19_2 x2 x3 x5 x6 x7 K Kp x8 h :=
 loop_rule (σ := Int) (fun s => mk19_2 x2 x3 x5 x6 x7 s) (fun N s h => T19_2 x2 x3 x5 x6 x7 K Kp N s h) (fun N s h => by kernel_rfl) (fun s h => I s h) (fun s h => μ s h) (s0 := x8) h0 (fun s h hI N hN => step s h hI N (fun x8' h' hI' hl => hN x8' h' hI' hl))
def S19 (hv_0:Int) (hv_1:Sl) (hv_2:Sl) (hv_3:Int) (hv_4:Bool) (hv_5:Int) (hv_6:Int) (hv_7:Sl) (hv_8:Sl) (want_0:Int) (want_1:Sl) (want_2:Sl) (want_3:Int) (want_4:Bool) (want_5:Int) (want_6:Int) (want_7:Sl) (want_8:Sl) (h:Hp) (K : Bool → HP) (Kp:PK) : Prop :=
 New h #[(.int .i64 hv_0), (Sl.v hv_1), (Sl.v hv_2), (.int .i64 hv_3), (.bool hv_4), (.int .i64 hv_5), (.int .i64 hv_6), (Sl.v hv_7), (Sl.v hv_8)] 29 fun a2 h1 =>
 New h1 #[(.int .i64 want_0), (Sl.v want_1), (Sl.v want_2), (.int .i64 want_3), (.bool want_4), (.int .i64 want_5), (.int .i64 want_6), (Sl.v want_7), (Sl.v want_8)] 29 fun a3 h2 =>
 Ld h2 ((a2.add 1).add 1) (Sl.v) fun t14 =>
 Ld h2 ((a2.add 1).add 1) (Sl.v) fun t17 =>
 Wr .i64 ((t17.n:Int) + (3:Int)) fun t19 =>
 Slc t14 2 none (some t19) none fun t20 =>
 Ld h2 (a2.add 7) (Sl.v) fun t22 =>
 Ld h2 (a2.add 7) (Sl.v) fun t24 =>
 Wr .i64 ((t24.n:Int) + (3:Int)) fun t26 =>
 Slc t22 2 none (some t26) none fun t27 =>
 Ld h2 (a2.add 8) (Sl.v) fun t29 =>
 Ld h2 (a2.add 8) (Sl.v) fun t31 =>
 Wr .i64 ((t31.n:Int) + (3:Int)) fun t33 =>
 Slc t29 3 none (some t33) none fun t34 =>
 L19_2 a2 a3 t20 t27 t34 K Kp (0:Int) h2
theorem Fn19.of {hv_0:Int} {hv_1:Sl} {hv_2:Sl} {hv_3:Int} {hv_4:Bool} {hv_5:Int} {hv_6:Int} {hv_7:Sl} {hv_8:Sl} {want_0:Int} {want_1:Sl} {want_2:Sl} {want_3:Int} {want_4:Bool} {want_5:Int} {want_6:Int} {want_7:Sl} {want_8:Sl} {h:Hp} {K : Bool → HP} {Kp:PK} (H : S19 hv_0 hv_1 hv_2 hv_3 hv_4 hv_5 hv_6 hv_7 hv_8 want_0 want_1 want_2 want_3 want_4 want_5 want_6 want_7 want_8 h K Kp) : Fn19 hv_0 hv_1 hv_2 hv_3 hv_4 hv_5 hv_6 hv_7 hv_8 want_0 want_1 want_2 want_3 want_4 want_5 want_6 want_7 want_8 h K Kp :=
 fn_of2 (P := Tryd.prog) (ann := ann19) (D := DrawSem Tryd.prog ord19) (drawOk _) (c := code19) (zs := [(.bool false)]) (args := [(.agg #[(.int .i64 hv_0), (Sl.v hv_1), (Sl.v hv_2), (.int .i64 hv_3), (.bool hv_4), (.int .i64 hv_5), (.int .i64 hv_6), (Sl.v hv_7), (Sl.v hv_8)]), (.agg #[(.int .i64 want_0), (Sl.v want_1), (Sl.v want_2), (.int .i64 want_3), (.bool want_4), (.int .i64 want_5), (.int .i64 want_6), (Sl.v want_7), (Sl.v want_8)])]) (Kv := kv19 K) (Kp := Kp) (h := h) Tryd.func19 (by kernel_rfl) H (by kernel_rfl) (by kernel_rfl)
end Go.Proofs.YtfomkkdijjfpiaaDoor
