/- What the functions do, printed by program (gen.py) in the words of ShCore; each text is held against the loaded program by the kernel. -/
import Derived.Test.YtajgmklgfdgnlaaDoorF
set_option linter.unusedVariables false
set_option maxRecDepth 100000
namespace Go.Proofs.YtajgmklgfdgnlaaDoor
open Go Go.Sh
/-! ### 14: (colonnade/colonnadelaw02.given).op -/

noncomputable def code14 : Code := Tryd.f14.body.getD .skip

def ann14 : Ann := []

def ord14 : List (Nat × List Nat × List Nat) := []

def kv14 (K : Int → Sl → Sl → Sl → Int → Int → Int → Bool → Hp → Prop) : Value → Hp → Prop := fun v h => match v with | .agg cs0 => (match (cs0.toList.getD 0 undef) with | .int _ r0_0 => (match (cs0.toList.getD 1 undef) with | .slice r0_1a r0_1n r0_1c => (let r0_1 : Sl := ⟨r0_1a, r0_1n, r0_1c⟩; match (cs0.toList.getD 2 undef) with | .slice r0_2a r0_2n r0_2c => (let r0_2 : Sl := ⟨r0_2a, r0_2n, r0_2c⟩; match (cs0.toList.getD 3 undef) with | .slice r0_3a r0_3n r0_3c => (let r0_3 : Sl := ⟨r0_3a, r0_3n, r0_3c⟩; match (cs0.toList.getD 4 undef) with | .int _ r0_4 => (match (cs0.toList.getD 5 undef) with | .int _ r0_5 => (match (cs0.toList.getD 6 undef) with | .int _ r0_6 => (match (cs0.toList.getD 7 undef) with | .bool r0_7 => (K r0_0 r0_1 r0_2 r0_3 r0_4 r0_5 r0_6 r0_7 h) | _ => False) | _ => False) | _ => False) | _ => False) | _ => False) | _ => False) | _ => False) | _ => False) | _ => False

def q14 (K : Int → Sl → Sl → Sl → Int → Int → Int → Bool → Hp → Prop) : Qt := retQ Tryd.prog Tryd.f14.results.toList [(.agg #[(.int .i64 (0 : Int)), (.slice none 0 0), (.slice none 0 0), (.slice none 0 0), (.int .i64 (0 : Int)), (.int .i64 (0 : Int)), (.int .i64 (0 : Int)), (.bool false)])] (kv14 K)

def S14 (g_0 : Sl) (g_1 : Sl) (g_2 : Sl) (o_0 : Int) (o_1 : Sl) (o_2 : Sl) (o_3 : Sl) (o_4 : Int) (o_5 : Int) (o_6 : Int) (o_7 : Bool) (h : Hp) (K : Int → Sl → Sl → Sl → Int → Int → Int → Bool → Hp → Prop) (Kp : List PanicEntry → Hp → Prop) : Prop :=
  New h #[(Sl.v g_0), (Sl.v g_1), (Sl.v g_2)] 46 fun a2 h1 =>
  New h1 #[(.int .i64 o_0), (Sl.v o_1), (Sl.v o_2), (Sl.v o_3), (.int .i64 o_4), (.int .i64 o_5), (.int .i64 o_6), (.bool o_7)] 42 fun a3 h2 =>
  New h2 #[(.int .i64 (0 : Int)), (.slice none 0 0), (.slice none 0 0), (.slice none 0 0), (.int .i64 (0 : Int)), (.int .i64 (0 : Int)), (.int .i64 (0 : Int)), (.bool false)] 42 fun a4 h3 =>
  Ld h3 a2 (Sl.v) fun t6 =>
  Ld h3 a2 (Sl.v) fun t8 =>
  Wr .i64 ((t8.n : Int) - (9 : Int)) fun t10 =>
  Slc t6 1 none (some t10) none fun t11 =>
  St h3 (a3.add 1) (Sl.v t11) fun h4 =>
  Ld h4 (a2.add 1) (Sl.v) fun t14 =>
  Ld h4 (a2.add 1) (Sl.v) fun t16 =>
  Wr .i64 ((t16.n : Int) - (9 : Int)) fun t18 =>
  Slc t14 1 none (some t18) none fun t19 =>
  St h4 (a3.add 2) (Sl.v t19) fun h5 =>
  Ld h5 (a2.add 2) (Sl.v) fun t22 =>
  Ld h5 (a2.add 2) (Sl.v) fun t24 =>
  Wr .i64 ((t24.n : Int) - (9 : Int)) fun t26 =>
  Slc t22 1 none (some t26) none fun t27 =>
  St h5 (a3.add 3) (Sl.v t27) fun h6 =>
  Ld h6 a3 (Value.int .i64) fun t29_0 =>
  Ld h6 (a3.add 1) (Sl.v) fun t29_1 =>
  Ld h6 (a3.add 2) (Sl.v) fun t29_2 =>
  Ld h6 (a3.add 3) (Sl.v) fun t29_3 =>
  Ld h6 (a3.add 4) (Value.int .i64) fun t29_4 =>
  Ld h6 (a3.add 5) (Value.int .i64) fun t29_5 =>
  Ld h6 (a3.add 6) (Value.int .i64) fun t29_6 =>
  Ld h6 (a3.add 7) (Value.bool) fun t29_7 =>
  St h6 a4 (.int .i64 t29_0) fun h7 =>
  St h7 (a4.add 1) (Sl.v t29_1) fun h8 =>
  St h8 (a4.add 2) (Sl.v t29_2) fun h9 =>
  St h9 (a4.add 3) (Sl.v t29_3) fun h10 =>
  St h10 (a4.add 4) (.int .i64 t29_4) fun h11 =>
  St h11 (a4.add 5) (.int .i64 t29_5) fun h12 =>
  St h12 (a4.add 6) (.int .i64 t29_6) fun h13 =>
  St h13 (a4.add 7) (.bool t29_7) fun h14 =>
  Ld h14 a4 (Value.int .i64) fun r0_0 =>
  Ld h14 (a4.add 1) (Sl.v) fun r0_1 =>
  Ld h14 (a4.add 2) (Sl.v) fun r0_2 =>
  Ld h14 (a4.add 3) (Sl.v) fun r0_3 =>
  Ld h14 (a4.add 4) (Value.int .i64) fun r0_4 =>
  Ld h14 (a4.add 5) (Value.int .i64) fun r0_5 =>
  Ld h14 (a4.add 6) (Value.int .i64) fun r0_6 =>
  Ld h14 (a4.add 7) (Value.bool) fun r0_7 =>
  K r0_0 r0_1 r0_2 r0_3 r0_4 r0_5 r0_6 r0_7 h14

theorem Fn14.of {g_0 : Sl} {g_1 : Sl} {g_2 : Sl} {o_0 : Int} {o_1 : Sl} {o_2 : Sl} {o_3 : Sl} {o_4 : Int} {o_5 : Int} {o_6 : Int} {o_7 : Bool} {h : Hp} {K : Int → Sl → Sl → Sl → Int → Int → Int → Bool → Hp → Prop} {Kp : List PanicEntry → Hp → Prop} (H : S14 g_0 g_1 g_2 o_0 o_1 o_2 o_3 o_4 o_5 o_6 o_7 h K Kp) : Fn14 g_0 g_1 g_2 o_0 o_1 o_2 o_3 o_4 o_5 o_6 o_7 h K Kp :=
  Eq.mp (by kernel_rfl) (fn_of (P := Tryd.prog) (ann := ann14) (D := DrawSem Tryd.prog ord14) (drawOk _) (c := code14) (zs := [(.agg #[(.int .i64 (0 : Int)), (.slice none 0 0), (.slice none 0 0), (.slice none 0 0), (.int .i64 (0 : Int)), (.int .i64 (0 : Int)), (.int .i64 (0 : Int)), (.bool false)])]) (args := [(.agg #[(Sl.v g_0), (Sl.v g_1), (Sl.v g_2)]), (.agg #[(.int .i64 o_0), (Sl.v o_1), (Sl.v o_2), (Sl.v o_3), (.int .i64 o_4), (.int .i64 o_5), (.int .i64 o_6), (.bool o_7)])]) (Kv := kv14 K) (Kp := Kp) (h := h) Tryd.func14 (by kernel_rfl) (Eq.mp (by kernel_rfl) H))

/-! ### 15: colonnade/colonnadelaw02.spoil -/

noncomputable def code15 : Code := Tryd.f15.body.getD .skip

def ann15 : Ann := [(5, [1, 2]), (9, [1, 2]), (2010, [1, 2, 6]), (2006, [1, 2, 5]), (2002, [1, 2, 4])]

def ord15 : List (Nat × List Nat × List Nat) := [(8, [0, 1, 2, 3, 4, 5, 6, 7, 8, 9, 10], [0, 1, 0, 0, 8, 0, 56, 120, 248, 511, 1023])]

def kv15 (K : Hp → Prop) : Value → Hp → Prop := fun _ h => K h

def q15 (K : Hp → Prop) : Qt := retQ Tryd.prog Tryd.f15.results.toList [] (kv15 K)

abbrev mk15_3 (x1 : Int) (x2 : Addr) (x6 : Int) : Fr := [none, some (.int .u8 x1), some (.pointer (some x2)), none, none, none, some (.int .i64 x6), none, none, none, none, none, none, none, none, none, none, none, none, none, none, none, none, none, none, none, none, none, none, none, none, none, none, none, none, none, none, none, none, none, none, none, none, none, none, none, none, none, none, none, none, none, none, none, none, none, none, none, none, none, none, none, none, none, none, none, none, none, none, none]

def T15_3 (x1 : Int) (x2 : Addr) (K : Hp → Prop) (Kp : List PanicEntry → Hp → Prop) (N1 : Fr → Hp → Prop) (x6 : Int) (h : Hp) : Prop :=
  If (decide (x6 < (20 : Int))) (
    Ld h (x2.add 3) (Sl.v) fun t45 =>
    Wr .u8 x6 fun t48 =>
    Wr .u8 (x1 + t48) fun t49 =>
    New h #[(.int .u8 t49)] 5 fun a50 h1 =>
    Ap h1 5 #[(.int .u8 (0 : Int))] 1 1 t45 1 (rd h1 (some a50) (1 * 1)) fun t51 h2 =>
    St h2 (x2.add 3) (Sl.v t51) fun h3 =>
    Ld h3 (x2.add 4) (Sl.v) fun t54 =>
    Wr .i64 x1 fun t56 =>
    Wr .i64 (t56 + x6) fun t58 =>
    Dv (3 : Int) <| Lt (Int.tmod t58 (3 : Int)) fun t59 =>
    New h3 #[(.bool (t59 == (0 : Int)))] 4 fun a61 h4 =>
    Ap h4 4 #[(.bool false)] 1 1 t54 1 (rd h4 (some a61) (1 * 1)) fun t62 h5 =>
    St h5 (x2.add 4) (Sl.v t62) fun h6 =>
    Wr .i64 (x6 + (1 : Int)) fun t43 =>
    N1 (mk15_3 x1 x2 t43) h6) (
    MkS h 5 #[(.int .u8 (0 : Int))] 1 1 (70 : Int) (70 : Int) fun t64 h1 =>
    Ld h1 (x2.add 3) (Sl.v) fun t66 =>
    Ap h1 5 #[(.int .u8 (0 : Int))] 1 1 t66 t64.n (rd h1 t64.a (t64.n * 1)) fun t68 h2 =>
    St h2 (x2.add 3) (Sl.v t68) fun h3 =>
    K  h3)

def L15_3 (x1 : Int) (x2 : Addr) (K : Hp → Prop) (Kp : List PanicEntry → Hp → Prop) (x6 : Int) (h : Hp) : Prop :=
  LoopH (fun N fr h => sem Tryd.prog ann15 (DrawSem Tryd.prog ord15) none (sub [1, 1, 1, 0, 1, 0, 0] code15) (thenQ (fun fr' h' => N (Ann.find ann15 2010 fr') h') (ctxQ Tryd.prog ann15 (DrawSem Tryd.prog ord15) none Kp [1, 1, 1, 0, 1, 0] code15 [] (q15 K))) Kp fr h) (mk15_3 x1 x2 x6) h

theorem L15_3.rule {x1 : Int} {x2 : Addr} {K : Hp → Prop} {Kp : List PanicEntry → Hp → Prop} (I : Int → Hp → Prop) (μ : Int → Hp → Nat) {x6 : Int} {h : Hp} (h0 : I x6 h)
    (step : ∀ (x6 : Int) (h : Hp), I x6 h → ∀ N1 : Fr → Hp → Prop, (∀ (x6' : Int) (h' : Hp), I x6' h' → μ x6' h' < μ x6 h → N1 (mk15_3 x1 x2 x6') h') → T15_3 x1 x2 K Kp N1 x6 h) : L15_3 x1 x2 K Kp x6 h :=
  loop_rule (σ := Int) (fun s => mk15_3 x1 x2 s) (fun N s h => T15_3 x1 x2 K Kp N s h) (fun N s h => by kernel_rfl) (fun s h => I s h) (fun s h => μ s h) (s0 := x6) h0 (fun s h hI N hN => step s h hI N (fun x6' h' hI' hl => hN x6' h' hI' hl))

def JT15_2 (x1 : Int) (x2 : Addr) (K : Hp → Prop) (Kp : List PanicEntry → Hp → Prop) (h : Hp) : Prop :=
  L15_3 x1 x2 K Kp (0 : Int) h

def J15_2 (x1 : Int) (x2 : Addr) (K : Hp → Prop) (Kp : List PanicEntry → Hp → Prop) (h : Hp) : Prop :=
  sem Tryd.prog ann15 (DrawSem Tryd.prog ord15) none (sub [1, 1, 1] code15) (ctxQ Tryd.prog ann15 (DrawSem Tryd.prog ord15) none Kp [1, 1, 1] code15 [] (q15 K)) Kp ([none, some (.int .u8 x1), some (.pointer (some x2)), none, none, none, none, none, none, none, none, none, none, none, none, none, none, none, none, none, none, none, none, none, none, none, none, none, none, none, none, none, none, none, none, none, none, none, none, none, none, none, none, none, none, none, none, none, none, none, none, none, none, none, none, none, none, none, none, none, none, none, none, none, none, none, none, none, none, none]) h

theorem J15_2.of {x1 : Int} {x2 : Addr} {K : Hp → Prop} {Kp : List PanicEntry → Hp → Prop} {h : Hp} (H : JT15_2 x1 x2 K Kp h) : J15_2 x1 x2 K Kp h :=
  Eq.mp (by kernel_rfl) H

abbrev mk15_4 (x1 : Int) (x2 : Addr) (x5 : Int) : Fr := [none, some (.int .u8 x1), some (.pointer (some x2)), none, none, some (.int .i64 x5), none, none, none, none, none, none, none, none, none, none, none, none, none, none, none, none, none, none, none, none, none, none, none, none, none, none, none, none, none, none, none, none, none, none, none, none, none, none, none, none, none, none, none, none, none, none, none, none, none, none, none, none, none, none, none, none, none, none, none, none, none, none, none, none]

def T15_4 (x1 : Int) (x2 : Addr) (K : Hp → Prop) (Kp : List PanicEntry → Hp → Prop) (N1 : Fr → Hp → Prop) (x5 : Int) (h : Hp) : Prop :=
  Ld h (x2.add 4) (Sl.v) fun t25 =>
  If (decide (x5 < (t25.n : Int))) (
    Ld h (x2.add 4) (Sl.v) fun t31 =>
    Ld h (x2.add 4) (Sl.v) fun t34 =>
    Ix t34.a t34.n 1 x5 fun a36 =>
    Ld h a36 (Value.bool) fun t37 =>
    Ix t31.a t31.n 1 x5 fun a39 =>
    St h a39 (.bool (!t37)) fun h1 =>
    Wr .i64 (x5 + (1 : Int)) fun t29 =>
    N1 (mk15_4 x1 x2 t29) h1) (
    J15_2 x1 x2 K Kp h)

def L15_4 (x1 : Int) (x2 : Addr) (K : Hp → Prop) (Kp : List PanicEntry → Hp → Prop) (x5 : Int) (h : Hp) : Prop :=
  LoopH (fun N fr h => sem Tryd.prog ann15 (DrawSem Tryd.prog ord15) none (sub [1, 1, 0, 1, 0, 0] code15) (thenQ (fun fr' h' => N (Ann.find ann15 2006 fr') h') (ctxQ Tryd.prog ann15 (DrawSem Tryd.prog ord15) none Kp [1, 1, 0, 1, 0] code15 [] (q15 K))) Kp fr h) (mk15_4 x1 x2 x5) h

theorem L15_4.rule {x1 : Int} {x2 : Addr} {K : Hp → Prop} {Kp : List PanicEntry → Hp → Prop} (I : Int → Hp → Prop) (μ : Int → Hp → Nat) {x5 : Int} {h : Hp} (h0 : I x5 h)
    (step : ∀ (x5 : Int) (h : Hp), I x5 h → ∀ N1 : Fr → Hp → Prop, (∀ (x5' : Int) (h' : Hp), I x5' h' → μ x5' h' < μ x5 h → N1 (mk15_4 x1 x2 x5') h') → T15_4 x1 x2 K Kp N1 x5 h) : L15_4 x1 x2 K Kp x5 h :=
  loop_rule (σ := Int) (fun s => mk15_4 x1 x2 s) (fun N s h => T15_4 x1 x2 K Kp N s h) (fun N s h => by kernel_rfl) (fun s h => I s h) (fun s h => μ s h) (s0 := x5) h0 (fun s h hI N hN => step s h hI N (fun x5' h' hI' hl => hN x5' h' hI' hl))

def JT15_1 (x1 : Int) (x2 : Addr) (K : Hp → Prop) (Kp : List PanicEntry → Hp → Prop) (h : Hp) : Prop :=
  L15_4 x1 x2 K Kp (0 : Int) h

def J15_1 (x1 : Int) (x2 : Addr) (K : Hp → Prop) (Kp : List PanicEntry → Hp → Prop) (h : Hp) : Prop :=
  sem Tryd.prog ann15 (DrawSem Tryd.prog ord15) none (sub [1, 1] code15) (ctxQ Tryd.prog ann15 (DrawSem Tryd.prog ord15) none Kp [1, 1] code15 [] (q15 K)) Kp ([none, some (.int .u8 x1), some (.pointer (some x2)), none, none, none, none, none, none, none, none, none, none, none, none, none, none, none, none, none, none, none, none, none, none, none, none, none, none, none, none, none, none, none, none, none, none, none, none, none, none, none, none, none, none, none, none, none, none, none, none, none, none, none, none, none, none, none, none, none, none, none, none, none, none, none, none, none, none, none]) h

theorem J15_1.of {x1 : Int} {x2 : Addr} {K : Hp → Prop} {Kp : List PanicEntry → Hp → Prop} {h : Hp} (H : JT15_1 x1 x2 K Kp h) : J15_1 x1 x2 K Kp h :=
  Eq.mp (by kernel_rfl) H

abbrev mk15_5 (x1 : Int) (x2 : Addr) (x4 : Int) : Fr := [none, some (.int .u8 x1), some (.pointer (some x2)), none, some (.int .i64 x4), none, none, none, none, none, none, none, none, none, none, none, none, none, none, none, none, none, none, none, none, none, none, none, none, none, none, none, none, none, none, none, none, none, none, none, none, none, none, none, none, none, none, none, none, none, none, none, none, none, none, none, none, none, none, none, none, none, none, none, none, none, none, none, none, none]

def T15_5 (x1 : Int) (x2 : Addr) (K : Hp → Prop) (Kp : List PanicEntry → Hp → Prop) (N1 : Fr → Hp → Prop) (x4 : Int) (h : Hp) : Prop :=
  Ld h (x2.add 3) (Sl.v) fun t10 =>
  If (decide (x4 < (t10.n : Int))) (
    Ld h (x2.add 3) (Sl.v) fun t16 =>
    Wr .u8 x4 fun t20 =>
    Lt (bitsV .xor .u8 x1 t20) fun t21 =>
    Ix t16.a t16.n 1 x4 fun a22 =>
    St h a22 (.int .u8 t21) fun h1 =>
    Wr .i64 (x4 + (1 : Int)) fun t14 =>
    N1 (mk15_5 x1 x2 t14) h1) (
    J15_1 x1 x2 K Kp h)

def L15_5 (x1 : Int) (x2 : Addr) (K : Hp → Prop) (Kp : List PanicEntry → Hp → Prop) (x4 : Int) (h : Hp) : Prop :=
  LoopH (fun N fr h => sem Tryd.prog ann15 (DrawSem Tryd.prog ord15) none (sub [1, 0, 1, 0, 0] code15) (thenQ (fun fr' h' => N (Ann.find ann15 2002 fr') h') (ctxQ Tryd.prog ann15 (DrawSem Tryd.prog ord15) none Kp [1, 0, 1, 0] code15 [] (q15 K))) Kp fr h) (mk15_5 x1 x2 x4) h

theorem L15_5.rule {x1 : Int} {x2 : Addr} {K : Hp → Prop} {Kp : List PanicEntry → Hp → Prop} (I : Int → Hp → Prop) (μ : Int → Hp → Nat) {x4 : Int} {h : Hp} (h0 : I x4 h)
    (step : ∀ (x4 : Int) (h : Hp), I x4 h → ∀ N1 : Fr → Hp → Prop, (∀ (x4' : Int) (h' : Hp), I x4' h' → μ x4' h' < μ x4 h → N1 (mk15_5 x1 x2 x4') h') → T15_5 x1 x2 K Kp N1 x4 h) : L15_5 x1 x2 K Kp x4 h :=
  loop_rule (σ := Int) (fun s => mk15_5 x1 x2 s) (fun N s h => T15_5 x1 x2 K Kp N s h) (fun N s h => by kernel_rfl) (fun s h => I s h) (fun s h => μ s h) (s0 := x4) h0 (fun s h hI N hN => step s h hI N (fun x4' h' hI' hl => hN x4' h' hI' hl))

def S15 (r_0 : Int) (r_1 : Int) (r_2 : Bool) (r_3 : Sl) (r_4 : Sl) (r_5 : Sl) (markv : Int) (h : Hp) (K : Hp → Prop) (Kp : List PanicEntry → Hp → Prop) : Prop :=
  New h #[(.int .i64 r_0), (.int .i64 r_1), (.bool r_2), (Sl.v r_3), (Sl.v r_4), (Sl.v r_5)] 39 fun a2 h1 =>
  L15_5 markv a2 K Kp (0 : Int) h1

theorem Fn15.of {r_0 : Int} {r_1 : Int} {r_2 : Bool} {r_3 : Sl} {r_4 : Sl} {r_5 : Sl} {markv : Int} {h : Hp} {K : Hp → Prop} {Kp : List PanicEntry → Hp → Prop} (H : S15 r_0 r_1 r_2 r_3 r_4 r_5 markv h K Kp) : Fn15 r_0 r_1 r_2 r_3 r_4 r_5 markv h K Kp :=
  Eq.mp (by kernel_rfl) (fn_of (P := Tryd.prog) (ann := ann15) (D := DrawSem Tryd.prog ord15) (drawOk _) (c := code15) (zs := []) (args := [(.agg #[(.int .i64 r_0), (.int .i64 r_1), (.bool r_2), (Sl.v r_3), (Sl.v r_4), (Sl.v r_5)]), (.int .u8 markv)]) (Kv := kv15 K) (Kp := Kp) (h := h) Tryd.func15 (by kernel_rfl) (Eq.mp (by kernel_rfl) H))

/-! ### 16: (colonnade/colonnadelaw02.given).same -/

noncomputable def code16 : Code := Tryd.f16.body.getD .skip

def ann16 : Ann := [(2, [2, 3, 5])]

def ord16 : List (Nat × List Nat × List Nat) := []

def kv16 (K : Bool → Hp → Prop) : Value → Hp → Prop := fun v h => match v with | .bool r0 => (K r0 h) | _ => False

def q16 (K : Bool → Hp → Prop) : Qt := retQ Tryd.prog Tryd.f16.results.toList [(.bool false)] (kv16 K)

def JT16_1 (x2 : Addr) (x3 : Addr) (x5 : Bool) (K : Bool → Hp → Prop) (Kp : List PanicEntry → Hp → Prop) (h : Hp) : Prop :=
  Ld h (x2.add 1) (Sl.v) fun t19 =>
  Ld h (x3.add 1) (Sl.v) fun t22 =>
  Fn12 (0 : Int) (0 : Int) false t19 (⟨none, 0, 0⟩ : Sl) (⟨none, 0, 0⟩ : Sl) (0 : Int) (0 : Int) false t22 (⟨none, 0, 0⟩ : Sl) (⟨none, 0, 0⟩ : Sl) h (fun t24 h1 =>
    If x5 (
      K t24 h1) (
      K false h1)) Kp

def J16_1 (x2 : Addr) (x3 : Addr) (x5 : Bool) (K : Bool → Hp → Prop) (Kp : List PanicEntry → Hp → Prop) (h : Hp) : Prop :=
  sem Tryd.prog ann16 (DrawSem Tryd.prog ord16) none (sub [1, 1] code16) (ctxQ Tryd.prog ann16 (DrawSem Tryd.prog ord16) none Kp [1, 1] code16 [] (q16 K)) Kp ([none, none, some (.pointer (some x2)), some (.pointer (some x3)), none, some (.bool x5), none, none, none, none, none, none, none, none, none, none, none, none, none, none, none, none, none, none, none, none, none, none, none]) h

theorem J16_1.of {x2 : Addr} {x3 : Addr} {x5 : Bool} {K : Bool → Hp → Prop} {Kp : List PanicEntry → Hp → Prop} {h : Hp} (H : JT16_1 x2 x3 x5 K Kp h) : J16_1 x2 x3 x5 K Kp h :=
  Eq.mp (by kernel_rfl) H

def S16 (g_0 : Sl) (g_1 : Sl) (g_2 : Sl) (hv_0 : Sl) (hv_1 : Sl) (hv_2 : Sl) (h : Hp) (K : Bool → Hp → Prop) (Kp : List PanicEntry → Hp → Prop) : Prop :=
  New h #[(Sl.v g_0), (Sl.v g_1), (Sl.v g_2)] 46 fun a2 h1 =>
  New h1 #[(Sl.v hv_0), (Sl.v hv_1), (Sl.v hv_2)] 46 fun a3 h2 =>
  Ld h2 a2 (Sl.v) fun t8 =>
  Ld h2 (a2.add 2) (Sl.v) fun t10 =>
  Ld h2 a3 (Sl.v) fun t13 =>
  Ld h2 (a3.add 2) (Sl.v) fun t15 =>
  Fn12 (0 : Int) (0 : Int) false t8 t10 (⟨none, 0, 0⟩ : Sl) (0 : Int) (0 : Int) false t13 t15 (⟨none, 0, 0⟩ : Sl) h2 (fun t17 h3 =>
    J16_1 a2 a3 t17 K Kp h3) Kp

theorem Fn16.of {g_0 : Sl} {g_1 : Sl} {g_2 : Sl} {hv_0 : Sl} {hv_1 : Sl} {hv_2 : Sl} {h : Hp} {K : Bool → Hp → Prop} {Kp : List PanicEntry → Hp → Prop} (H : S16 g_0 g_1 g_2 hv_0 hv_1 hv_2 h K Kp) : Fn16 g_0 g_1 g_2 hv_0 hv_1 hv_2 h K Kp :=
  Eq.mp (by kernel_rfl) (fn_of (P := Tryd.prog) (ann := ann16) (D := DrawSem Tryd.prog ord16) (drawOk _) (c := code16) (zs := [(.bool false)]) (args := [(.agg #[(Sl.v g_0), (Sl.v g_1), (Sl.v g_2)]), (.agg #[(Sl.v hv_0), (Sl.v hv_1), (Sl.v hv_2)])]) (Kv := kv16 K) (Kp := Kp) (h := h) Tryd.func16 (by kernel_rfl) (Eq.mp (by kernel_rfl) H))

/-! ### 17: (colonnade/colonnadelaw02.given).turned -/

noncomputable def code17 : Code := Tryd.f17.body.getD .skip

def ann17 : Ann := [(5, [1]), (9, [1]), (2010, [1, 4]), (2006, [1, 3]), (2002, [1, 2])]

def ord17 : List (Nat × List Nat × List Nat) := [(12, [0, 1, 2, 3, 4, 5, 6, 7, 8, 9, 10], [0, 1, 0, 0, 8, 0, 56, 120, 248, 511, 1023]), (8, [0, 1, 2, 3, 4, 5, 6, 7, 8, 9, 10, 11], [0, 1, 0, 0, 8, 0, 56, 120, 248, 504, 1023, 2047]), (4, [0, 1, 2, 3, 4, 5, 6, 7, 8, 9, 10], [0, 1, 0, 0, 8, 0, 56, 120, 248, 511, 1023])]

def kv17 (K : Hp → Prop) : Value → Hp → Prop := fun _ h => K h

def q17 (K : Hp → Prop) : Qt := retQ Tryd.prog Tryd.f17.results.toList [] (kv17 K)

abbrev mk17_3 (x1 : Addr) (x4 : Int) : Fr := [none, some (.pointer (some x1)), none, none, some (.int .i64 x4), none, none, none, none, none, none, none, none, none, none, none, none, none, none, none, none, none, none, none, none, none, none, none, none, none, none, none, none, none, none, none, none, none, none, none, none, none, none, none, none, none, none, none, none, none, none, none, none, none, none, none, none, none, none, none]

def T17_3 (x1 : Addr) (K : Hp → Prop) (Kp : List PanicEntry → Hp → Prop) (N1 : Fr → Hp → Prop) (x4 : Int) (h : Hp) : Prop :=
  Ld h (x1.add 2) (Sl.v) fun t44 =>
  Wr .i64 ((t44.n : Int) - (9 : Int)) fun t46 =>
  If (decide (x4 < t46)) (
    Ld h (x1.add 2) (Sl.v) fun t51 =>
    Ld h (x1.add 2) (Sl.v) fun t54 =>
    Ix t54.a t54.n 1 x4 fun a56 =>
    Ld h a56 (Value.bool) fun t57 =>
    Ix t51.a t51.n 1 x4 fun a59 =>
    St h a59 (.bool (!t57)) fun h1 =>
    Wr .i64 (x4 + (1 : Int)) fun t49 =>
    N1 (mk17_3 x1 t49) h1) (
    K  h)

def L17_3 (x1 : Addr) (K : Hp → Prop) (Kp : List PanicEntry → Hp → Prop) (x4 : Int) (h : Hp) : Prop :=
  LoopH (fun N fr h => sem Tryd.prog ann17 (DrawSem Tryd.prog ord17) none (sub [1, 1, 1, 1, 0, 0] code17) (thenQ (fun fr' h' => N (Ann.find ann17 2010 fr') h') (ctxQ Tryd.prog ann17 (DrawSem Tryd.prog ord17) none Kp [1, 1, 1, 1, 0] code17 [] (q17 K))) Kp fr h) (mk17_3 x1 x4) h

theorem L17_3.rule {x1 : Addr} {K : Hp → Prop} {Kp : List PanicEntry → Hp → Prop} (I : Int → Hp → Prop) (μ : Int → Hp → Nat) {x4 : Int} {h : Hp} (h0 : I x4 h)
    (step : ∀ (x4 : Int) (h : Hp), I x4 h → ∀ N1 : Fr → Hp → Prop, (∀ (x4' : Int) (h' : Hp), I x4' h' → μ x4' h' < μ x4 h → N1 (mk17_3 x1 x4') h') → T17_3 x1 K Kp N1 x4 h) : L17_3 x1 K Kp x4 h :=
  loop_rule (σ := Int) (fun s => mk17_3 x1 s) (fun N s h => T17_3 x1 K Kp N s h) (fun N s h => by kernel_rfl) (fun s h => I s h) (fun s h => μ s h) (s0 := x4) h0 (fun s h hI N hN => step s h hI N (fun x4' h' hI' hl => hN x4' h' hI' hl))

def JT17_2 (x1 : Addr) (K : Hp → Prop) (Kp : List PanicEntry → Hp → Prop) (h : Hp) : Prop :=
  L17_3 x1 K Kp (0 : Int) h

def J17_2 (x1 : Addr) (K : Hp → Prop) (Kp : List PanicEntry → Hp → Prop) (h : Hp) : Prop :=
  sem Tryd.prog ann17 (DrawSem Tryd.prog ord17) none (sub [1, 1, 1] code17) (ctxQ Tryd.prog ann17 (DrawSem Tryd.prog ord17) none Kp [1, 1, 1] code17 [] (q17 K)) Kp ([none, some (.pointer (some x1)), none, none, none, none, none, none, none, none, none, none, none, none, none, none, none, none, none, none, none, none, none, none, none, none, none, none, none, none, none, none, none, none, none, none, none, none, none, none, none, none, none, none, none, none, none, none, none, none, none, none, none, none, none, none, none, none, none, none]) h

theorem J17_2.of {x1 : Addr} {K : Hp → Prop} {Kp : List PanicEntry → Hp → Prop} {h : Hp} (H : JT17_2 x1 K Kp h) : J17_2 x1 K Kp h :=
  Eq.mp (by kernel_rfl) H

abbrev mk17_4 (x1 : Addr) (x3 : Int) : Fr := [none, some (.pointer (some x1)), none, some (.int .i64 x3), none, none, none, none, none, none, none, none, none, none, none, none, none, none, none, none, none, none, none, none, none, none, none, none, none, none, none, none, none, none, none, none, none, none, none, none, none, none, none, none, none, none, none, none, none, none, none, none, none, none, none, none, none, none, none, none]

def T17_4 (x1 : Addr) (K : Hp → Prop) (Kp : List PanicEntry → Hp → Prop) (N1 : Fr → Hp → Prop) (x3 : Int) (h : Hp) : Prop :=
  Ld h (x1.add 1) (Sl.v) fun t25 =>
  Wr .i64 ((t25.n : Int) - (9 : Int)) fun t27 =>
  If (decide (x3 < t27)) (
    Ld h (x1.add 1) (Sl.v) fun t32 =>
    Ld h (x1.add 1) (Sl.v) fun t35 =>
    Ix t35.a t35.n 1 x3 fun a37 =>
    Ld h a37 (Value.int .u8) fun t38 =>
    Lt (bitsV .xor .u8 (if IntKind.signed .u8 then -1 else IntKind.max .u8) t38) fun t39 =>
    Wr .u8 (t39 * (3 : Int)) fun t40 =>
    Ix t32.a t32.n 1 x3 fun a41 =>
    St h a41 (.int .u8 t40) fun h1 =>
    Wr .i64 (x3 + (1 : Int)) fun t30 =>
    N1 (mk17_4 x1 t30) h1) (
    J17_2 x1 K Kp h)

def L17_4 (x1 : Addr) (K : Hp → Prop) (Kp : List PanicEntry → Hp → Prop) (x3 : Int) (h : Hp) : Prop :=
  LoopH (fun N fr h => sem Tryd.prog ann17 (DrawSem Tryd.prog ord17) none (sub [1, 1, 0, 1, 0, 0] code17) (thenQ (fun fr' h' => N (Ann.find ann17 2006 fr') h') (ctxQ Tryd.prog ann17 (DrawSem Tryd.prog ord17) none Kp [1, 1, 0, 1, 0] code17 [] (q17 K))) Kp fr h) (mk17_4 x1 x3) h

theorem L17_4.rule {x1 : Addr} {K : Hp → Prop} {Kp : List PanicEntry → Hp → Prop} (I : Int → Hp → Prop) (μ : Int → Hp → Nat) {x3 : Int} {h : Hp} (h0 : I x3 h)
    (step : ∀ (x3 : Int) (h : Hp), I x3 h → ∀ N1 : Fr → Hp → Prop, (∀ (x3' : Int) (h' : Hp), I x3' h' → μ x3' h' < μ x3 h → N1 (mk17_4 x1 x3') h') → T17_4 x1 K Kp N1 x3 h) : L17_4 x1 K Kp x3 h :=
  loop_rule (σ := Int) (fun s => mk17_4 x1 s) (fun N s h => T17_4 x1 K Kp N s h) (fun N s h => by kernel_rfl) (fun s h => I s h) (fun s h => μ s h) (s0 := x3) h0 (fun s h hI N hN => step s h hI N (fun x3' h' hI' hl => hN x3' h' hI' hl))

def JT17_1 (x1 : Addr) (K : Hp → Prop) (Kp : List PanicEntry → Hp → Prop) (h : Hp) : Prop :=
  L17_4 x1 K Kp (0 : Int) h

def J17_1 (x1 : Addr) (K : Hp → Prop) (Kp : List PanicEntry → Hp → Prop) (h : Hp) : Prop :=
  sem Tryd.prog ann17 (DrawSem Tryd.prog ord17) none (sub [1, 1] code17) (ctxQ Tryd.prog ann17 (DrawSem Tryd.prog ord17) none Kp [1, 1] code17 [] (q17 K)) Kp ([none, some (.pointer (some x1)), none, none, none, none, none, none, none, none, none, none, none, none, none, none, none, none, none, none, none, none, none, none, none, none, none, none, none, none, none, none, none, none, none, none, none, none, none, none, none, none, none, none, none, none, none, none, none, none, none, none, none, none, none, none, none, none, none, none]) h

theorem J17_1.of {x1 : Addr} {K : Hp → Prop} {Kp : List PanicEntry → Hp → Prop} {h : Hp} (H : JT17_1 x1 K Kp h) : J17_1 x1 K Kp h :=
  Eq.mp (by kernel_rfl) H

abbrev mk17_5 (x1 : Addr) (x2 : Int) : Fr := [none, some (.pointer (some x1)), some (.int .i64 x2), none, none, none, none, none, none, none, none, none, none, none, none, none, none, none, none, none, none, none, none, none, none, none, none, none, none, none, none, none, none, none, none, none, none, none, none, none, none, none, none, none, none, none, none, none, none, none, none, none, none, none, none, none, none, none, none, none]

def T17_5 (x1 : Addr) (K : Hp → Prop) (Kp : List PanicEntry → Hp → Prop) (N1 : Fr → Hp → Prop) (x2 : Int) (h : Hp) : Prop :=
  Ld h x1 (Sl.v) fun t7 =>
  Wr .i64 ((t7.n : Int) - (9 : Int)) fun t9 =>
  If (decide (x2 < t9)) (
    Ld h x1 (Sl.v) fun t14 =>
    Ld h x1 (Sl.v) fun t17 =>
    Ix t17.a t17.n 1 x2 fun a19 =>
    Ld h a19 (Value.int .u8) fun t20 =>
    Lt (bitsV .xor .u8 (if IntKind.signed .u8 then -1 else IntKind.max .u8) t20) fun t21 =>
    Ix t14.a t14.n 1 x2 fun a22 =>
    St h a22 (.int .u8 t21) fun h1 =>
    Wr .i64 (x2 + (1 : Int)) fun t12 =>
    N1 (mk17_5 x1 t12) h1) (
    J17_1 x1 K Kp h)

def L17_5 (x1 : Addr) (K : Hp → Prop) (Kp : List PanicEntry → Hp → Prop) (x2 : Int) (h : Hp) : Prop :=
  LoopH (fun N fr h => sem Tryd.prog ann17 (DrawSem Tryd.prog ord17) none (sub [1, 0, 1, 0, 0] code17) (thenQ (fun fr' h' => N (Ann.find ann17 2002 fr') h') (ctxQ Tryd.prog ann17 (DrawSem Tryd.prog ord17) none Kp [1, 0, 1, 0] code17 [] (q17 K))) Kp fr h) (mk17_5 x1 x2) h

theorem L17_5.rule {x1 : Addr} {K : Hp → Prop} {Kp : List PanicEntry → Hp → Prop} (I : Int → Hp → Prop) (μ : Int → Hp → Nat) {x2 : Int} {h : Hp} (h0 : I x2 h)
    (step : ∀ (x2 : Int) (h : Hp), I x2 h → ∀ N1 : Fr → Hp → Prop, (∀ (x2' : Int) (h' : Hp), I x2' h' → μ x2' h' < μ x2 h → N1 (mk17_5 x1 x2') h') → T17_5 x1 K Kp N1 x2 h) : L17_5 x1 K Kp x2 h :=
  loop_rule (σ := Int) (fun s => mk17_5 x1 s) (fun N s h => T17_5 x1 K Kp N s h) (fun N s h => by kernel_rfl) (fun s h => I s h) (fun s h => μ s h) (s0 := x2) h0 (fun s h hI N hN => step s h hI N (fun x2' h' hI' hl => hN x2' h' hI' hl))

def S17 (g_0 : Sl) (g_1 : Sl) (g_2 : Sl) (h : Hp) (K : Hp → Prop) (Kp : List PanicEntry → Hp → Prop) : Prop :=
  New h #[(Sl.v g_0), (Sl.v g_1), (Sl.v g_2)] 46 fun a1 h1 =>
  L17_5 a1 K Kp (0 : Int) h1

theorem Fn17.of {g_0 : Sl} {g_1 : Sl} {g_2 : Sl} {h : Hp} {K : Hp → Prop} {Kp : List PanicEntry → Hp → Prop} (H : S17 g_0 g_1 g_2 h K Kp) : Fn17 g_0 g_1 g_2 h K Kp :=
  Eq.mp (by kernel_rfl) (fn_of (P := Tryd.prog) (ann := ann17) (D := DrawSem Tryd.prog ord17) (drawOk _) (c := code17) (zs := []) (args := [(.agg #[(Sl.v g_0), (Sl.v g_1), (Sl.v g_2)])]) (Kv := kv17 K) (Kp := Kp) (h := h) Tryd.func17 (by kernel_rfl) (Eq.mp (by kernel_rfl) H))

/-! ### 18: colonnade/bits.List -/

noncomputable def code18 : Code := Tryd.f18.body.getD .skip

def ann18 : Ann := [(4006, [6, 7, 9, 25]), (2009, [9, 10, 28, 29])]

def ord18 : List (Nat × List Nat × List Nat) := []

def kv18 (K : Sl → Int → Hp → Prop) : Value → Hp → Prop := fun v h => match v with | .tuple us => (let vs := us.toList; match (vs.getD 0 undef) with | .slice r0a r0n r0c => (let r0 : Sl := ⟨r0a, r0n, r0c⟩; match (vs.getD 1 undef) with | .int _ r1 => (K r0 r1 h) | _ => False) | _ => False) | _ => False

def q18 (K : Sl → Int → Hp → Prop) : Qt := retQ Tryd.prog Tryd.f18.results.toList [(.slice none 0 0), (.int .i64 (0 : Int))] (kv18 K)

abbrev mk18_2 (x9 : Addr) (x10 : Int) (x28 : Int) (x29 : Int) : Fr := [none, none, none, none, none, none, none, none, none, some (.pointer (some x9)), some (.int .i64 x10), none, none, none, none, none, none, none, none, none, none, none, none, none, none, none, none, none, some (.int .i64 x28), some (.int .i64 x29), none, none, none, none, none, none, none, none, none]

def T18_2 (x9 : Addr) (x10 : Int) (x28 : Int) (lb : Nat) (NB : Hp → Prop) (XB : Code → Hp → Prop) (N1 : Fr → Hp → Prop) (x29 : Int) (h : Hp) : Prop :=
  If (decide (x29 < x28)) (
    Ld h x9 (Sl.v) fun t32 =>
    Wr .i64 (x10 + x29) fun t35 =>
    Ix t32.a t32.n 1 t35 fun a36 =>
    St h a36 (.bool true) fun h1 =>
    Wr .i64 (x29 + (1 : Int)) fun t37 =>
    N1 (mk18_2 x9 x10 x28 t37) h1) (
    NB h)

def L18_2 (x9 : Addr) (x10 : Int) (x28 : Int) (lb : Nat) (NB : Hp → Prop) (XB : Code → Hp → Prop) (x29 : Int) (h : Hp) : Prop :=
  LoopH (fun N fr h => sem Tryd.prog ann18 (DrawSem Tryd.prog ord18) (some lb) (sub [0, 1, 0, 0] (sub [1, 1, 1, 0, 1, 0, 1] code18)) (thenQ (fun fr' h' => N (Ann.find ann18 2009 fr') h') (ctxQ Tryd.prog ann18 (DrawSem Tryd.prog ord18) (some lb) NoP [0, 1, 0] (sub [1, 1, 1, 0, 1, 0, 1] code18) [] (roundQ NB XB))) NoP fr h) (mk18_2 x9 x10 x28 x29) h

theorem L18_2.rule {x9 : Addr} {x10 : Int} {x28 : Int} {lb : Nat} {NB : Hp → Prop} {XB : Code → Hp → Prop} (I : Int → Hp → Prop) (μ : Int → Hp → Nat) {x29 : Int} {h : Hp} (h0 : I x29 h)
    (step : ∀ (x29 : Int) (h : Hp), I x29 h → ∀ N1 : Fr → Hp → Prop, (∀ (x29' : Int) (h' : Hp), I x29' h' → μ x29' h' < μ x29 h → N1 (mk18_2 x9 x10 x28 x29') h') → T18_2 x9 x10 x28 lb NB XB N1 x29 h) : L18_2 x9 x10 x28 lb NB XB x29 h :=
  loop_rule (σ := Int) (fun s => mk18_2 x9 x10 x28 s) (fun N s h => T18_2 x9 x10 x28 lb NB XB N s h) (fun N s h => by kernel_rfl) (fun s h => I s h) (fun s h => μ s h) (s0 := x29) h0 (fun s h hI N hN => step s h hI N (fun x29' h' hI' hl => hN x29' h' hI' hl))

def RT18_1 (x6 : Sl) (x7 : Int) (x9 : Addr) (x25 : Value) (lb : Nat) (NB : Hp → Prop) (XB : Code → Hp → Prop) (y26 : Int) (y27 : Int) (h : Hp) : Prop :=
  Busy lb h h fun h1 =>
  L18_2 x9 y26 y27 lb NB XB (0 : Int) h1

def R18_1 (x6 : Sl) (x7 : Int) (x9 : Addr) (x25 : Value) (K : Sl → Int → Hp → Prop) (Kp : List PanicEntry → Hp → Prop) (h : Hp) : Prop :=
  sem Tryd.prog ann18 (DrawSem Tryd.prog ord18) none (sub [1, 1, 1, 0, 1, 0] code18) (ctxQ Tryd.prog ann18 (DrawSem Tryd.prog ord18) none Kp [1, 1, 1, 0, 1, 0] code18 [] (q18 K)) Kp ([none, none, none, none, none, none, some (Sl.v x6), some (.int .i64 x7), none, some (.pointer (some x9)), none, none, none, none, none, none, none, none, none, none, none, none, none, none, none, some x25, none, none, none, none, none, none, none, none, none, none, none, none, none]) h

def RD18_1 (x6 : Sl) (x7 : Int) (x9 : Addr) (x25 : Value) (K : Sl → Int → Hp → Prop) (Kp : List PanicEntry → Hp → Prop) (h : Hp) : Prop :=
  Ld h x9 (Sl.v) fun t38 =>
  K t38 (0 : Int) h

theorem R18_1.rule {x6 : Sl} {x7 : Int} {x9 : Addr} {x25 : Value} {K : Sl → Int → Hp → Prop} {Kp : List PanicEntry → Hp → Prop} {h : Hp} {α : Type} {xs : List α} (e0 : α → Int) (e1 : α → Int) {Pre : Hp → Prop} (hit : Iter Tryd.prog x25 xs (fun y => [(.int .i64 (e0 y)), (.int .i64 (e1 y))]) Pre) (I : List α → Hp → Prop) (h0 : I [] h)
    (hG : ∀ pre h1 h2, Grw h1 h2 → I pre h1 → I pre h2) (hI : ∀ l pre h1 h2, h.size ≤ l → Tw l h1 h2 → I pre h1 → I pre h2) (hPre : ∀ pre h1, I pre h1 → Pre h1) 
    (hbody : ∀ l pre y suf h1, xs = pre ++ y :: suf → h.size ≤ l → (∃ r, h1[l]? = some (.loop r)) → I pre h1 → ∀ (N : Hp → Prop) (X : Code → Hp → Prop), (∀ h' h2, Tw l h1 h' → h2[l]? = h'[l]? → I (pre ++ [y]) h2 → N h2) → RT18_1 x6 x7 x9 x25 l N X (e0 y) (e1 y) h1)
    (done : ∀ h2, I xs h2 → RD18_1 x6 x7 x9 x25 K Kp h2) : R18_1 x6 x7 x9 x25 K Kp h :=
  Eq.mp (by kernel_rfl) (range_rule (P := Tryd.prog) (ann := ann18) (D := (DrawSem Tryd.prog ord18)) (fun _ => drawOk _) (rd := none) (g := .tmp 25) (ps := #[26, 27]) (assign := sub [1, 1, 1, 0, 1, 0, 0] code18) (body := sub [1, 1, 1, 0, 1, 0, 1] code18) (Q := ctxQ Tryd.prog ann18 (DrawSem Tryd.prog ord18) none Kp [1, 1, 1, 0, 1, 0] code18 [] (q18 K)) (Kp := Kp) (fr := [none, none, none, none, none, none, some (Sl.v x6), some (.int .i64 x7), none, some (.pointer (some x9)), none, none, none, none, none, none, none, none, none, none, none, none, none, none, none, some x25, none, none, none, none, none, none, none, none, none, none, none, none, none]) (h := h) (fv := x25) (by kernel_rfl)
    hit (fun _ => rfl) trivial I (fun c => match c with | _ => fun _ _ => False) h0 hG (by intro c pre h1 h2 hg hi; revert hi; cases c <;> exact fun hi => hi.elim) hI (by intro l c pre h1 h2 hl ht hi; revert hi; cases c <;> exact fun hi => hi.elim) hPre
    (by
      intro l pre y suf h1 e1 e2 e3 e4 N X hN hX
      exact Eq.mp (by kernel_rfl) (hbody l pre y suf h1 e1 e2 e3 e4 N X hN ))
    (fun h2 hi => Eq.mp (by kernel_rfl) (done h2 hi)) (by
      intro c pre suf h2 e1 hi
      cases c <;> exact hi.elim))

def S18 (b : Sl) (fromv : Int) (n : Int) (h : Hp) (K : Sl → Int → Hp → Prop) (Kp : List PanicEntry → Hp → Prop) : Prop :=
  Fn46 b fromv n h (fun t16 h1 =>
    If (t16 != (0 : Int)) (
      K (⟨none, 0, 0⟩ : Sl) t16 h1) (
      MkS h1 4 #[(.bool false)] 1 1 n n fun t21 h2 =>
      New h2 #[(.slice none 0 0)] 36 fun a9 h3 =>
      St h3 a9 (Sl.v t21) fun h4 =>
      Fn28 b fromv n h4 (fun t25 h5 =>
        R18_1 (⟨none, 0, 0⟩ : Sl) (0 : Int) a9 t25 K Kp h5) Kp)) Kp

theorem Fn18.of {b : Sl} {fromv : Int} {n : Int} {h : Hp} {K : Sl → Int → Hp → Prop} {Kp : List PanicEntry → Hp → Prop} (H : S18 b fromv n h K Kp) : Fn18 b fromv n h K Kp :=
  Eq.mp (by kernel_rfl) (fn_of (P := Tryd.prog) (ann := ann18) (D := DrawSem Tryd.prog ord18) (drawOk _) (c := code18) (zs := [(.slice none 0 0), (.int .i64 (0 : Int))]) (args := [(Sl.v b), (.int .i64 fromv), (.int .i64 n)]) (Kv := kv18 K) (Kp := Kp) (h := h) Tryd.func18 (by kernel_rfl) (Eq.mp (by kernel_rfl) H))

end Go.Proofs.YtajgmklgfdgnlaaDoor
