/- What the functions do, printed by program (gen.py) in the words of ShCore; each text is held against the loaded program by the kernel. -/
import Derived.Test.YtajgmklgfdgnlaaDoorF
set_option linter.unusedVariables false
set_option maxRecDepth 100000
namespace Go.Proofs.YtajgmklgfdgnlaaDoor
open Go Go.Sh
/-! ### 11: colonnade/colonnadelaw02.says -/

noncomputable def code11 : Code := Tryd.f11.body.getD .skip

def ann11 : Ann := [(2025, [2, 3, 4, 5])]

def ord11 : List (Nat × List Nat × List Nat) := [(27, [0, 1, 2, 3, 4, 5, 6, 7, 8, 9, 10, 11, 12, 13, 14, 15], [0, 1, 0, 0, 12, 28, 60, 0, 0, 384, 896, 1920, 4092, 8191, 16383, 32767])]

def kv11 (K : Int → Int → Bool → Sl → Sl → Sl → Hp → Prop) : Value → Hp → Prop := fun v h => match v with | .agg cs0 => (match (cs0.toList.getD 0 undef) with | .int _ r0_0 => (match (cs0.toList.getD 1 undef) with | .int _ r0_1 => (match (cs0.toList.getD 2 undef) with | .bool r0_2 => (match (cs0.toList.getD 3 undef) with | .slice r0_3a r0_3n r0_3c => (let r0_3 : Sl := ⟨r0_3a, r0_3n, r0_3c⟩; match (cs0.toList.getD 4 undef) with | .slice r0_4a r0_4n r0_4c => (let r0_4 : Sl := ⟨r0_4a, r0_4n, r0_4c⟩; match (cs0.toList.getD 5 undef) with | .slice r0_5a r0_5n r0_5c => (let r0_5 : Sl := ⟨r0_5a, r0_5n, r0_5c⟩; K r0_0 r0_1 r0_2 r0_3 r0_4 r0_5 h) | _ => False) | _ => False) | _ => False) | _ => False) | _ => False) | _ => False) | _ => False

def q11 (K : Int → Int → Bool → Sl → Sl → Sl → Hp → Prop) : Qt := retQ Tryd.prog Tryd.f11.results.toList [(.agg #[(.int .i64 (0 : Int)), (.int .i64 (0 : Int)), (.bool false), (.slice none 0 0), (.slice none 0 0), (.slice none 0 0)])] (kv11 K)

abbrev mk11_1 (x2 : Addr) (x3 : Addr) (x4 : Sl) (x5 : Int) : Fr := [none, none, some (.pointer (some x2)), some (.pointer (some x3)), some (Sl.v x4), some (.int .i64 x5), none, none, none, none, none, none, none, none, none, none, none, none, none, none, none, none, none, none, none, none, none, none, none, none, none, none, none, none, none, none, none, none, none, none, none, none, none, none, none, none, none, none, none, none, none, none, none, none, none, none, none, none, none, none, none, none, none, none, none, none, none, none, none, none, none, none, none, none, none, none, none, none, none, none, none, none, none, none, none, none, none, none, none, none, none, none, none, none, none, none, none, none, none, none, none, none, none, none, none, none, none, none, none, none, none, none, none, none, none, none, none, none, none, none, none, none, none, none, none, none, none, none, none, none, none, none, none, none, none, none, none, none, none, none, none, none, none, none, none, none, none, none, none, none, none, none, none, none, none, none, none, none, none, none, none, none, none, none, none, none, none, none, none, none, none, none, none, none, none, none, none, none, none, none, none, none, none, none, none]

def T11_1 (x2 : Addr) (x3 : Addr) (x4 : Sl) (K : Int → Int → Bool → Sl → Sl → Sl → Hp → Prop) (Kp : List PanicEntry → Hp → Prop) (N1 : Fr → Hp → Prop) (x5 : Int) (h : Hp) : Prop :=
  If (decide (x5 < (x4.n : Int))) (
    Ld h (x3.add 5) (Sl.v) fun t142 =>
    Ix x4.a x4.n 2 x5 fun a145 =>
    Ld h a145 (Value.int .i64) fun t147 =>
    Ix x4.a x4.n 2 x5 fun a150 =>
    Ld h (a150.add 1) (Value.int .i64) fun t152 =>
    New h #[(.int .i64 t147), (.int .i64 t152)] 3 fun a153 h1 =>
    Keep h h1 (x3.add 5) 1 <|
    Ap h1 3 #[(.int .i64 (0 : Int))] 1 8 t142 2 (rd h1 (some a153) (2 * 1)) fun t154 h2 =>
    St h2 (x3.add 5) (Sl.v t154) fun h3 =>
    Wr .i64 (x5 + (1 : Int)) fun t140 =>
    N1 (mk11_1 x2 x3 x4 t140) h3) (
    Ld h x3 (Value.int .i64) fun t184_0 =>
    Ld h (x3.add 1) (Value.int .i64) fun t184_1 =>
    Ld h (x3.add 2) (Value.bool) fun t184_2 =>
    Ld h (x3.add 3) (Sl.v) fun t184_3 =>
    Ld h (x3.add 4) (Sl.v) fun t184_4 =>
    Ld h (x3.add 5) (Sl.v) fun t184_5 =>
    St h x2 (.int .i64 t184_0) fun h1 =>
    St h1 (x2.add 1) (.int .i64 t184_1) fun h2 =>
    St h2 (x2.add 2) (.bool t184_2) fun h3 =>
    St h3 (x2.add 3) (Sl.v t184_3) fun h4 =>
    St h4 (x2.add 4) (Sl.v t184_4) fun h5 =>
    St h5 (x2.add 5) (Sl.v t184_5) fun h6 =>
    Ld h6 x2 (Value.int .i64) fun r0_0 =>
    Ld h6 (x2.add 1) (Value.int .i64) fun r0_1 =>
    Ld h6 (x2.add 2) (Value.bool) fun r0_2 =>
    Ld h6 (x2.add 3) (Sl.v) fun r0_3 =>
    Ld h6 (x2.add 4) (Sl.v) fun r0_4 =>
    Ld h6 (x2.add 5) (Sl.v) fun r0_5 =>
    K r0_0 r0_1 r0_2 r0_3 r0_4 r0_5 h6)

def L11_1 (x2 : Addr) (x3 : Addr) (x4 : Sl) (K : Int → Int → Bool → Sl → Sl → Sl → Hp → Prop) (Kp : List PanicEntry → Hp → Prop) (x5 : Int) (h : Hp) : Prop :=
  LoopH (fun N fr h => sem Tryd.prog ann11 (DrawSem Tryd.prog ord11) none (sub [1, 1, 0, 1, 0, 1, 1, 1, 1, 1, 1, 1, 1, 1, 1, 1, 1, 1, 1, 1, 1, 1, 1, 1, 0, 1, 1, 0, 0] code11) (thenQ (fun fr' h' => N (Ann.find ann11 2025 fr') h') (ctxQ Tryd.prog ann11 (DrawSem Tryd.prog ord11) none Kp [1, 1, 0, 1, 0, 1, 1, 1, 1, 1, 1, 1, 1, 1, 1, 1, 1, 1, 1, 1, 1, 1, 1, 1, 0, 1, 1, 0] code11 [] (q11 K))) Kp fr h) (mk11_1 x2 x3 x4 x5) h

theorem L11_1.rule {x2 : Addr} {x3 : Addr} {x4 : Sl} {K : Int → Int → Bool → Sl → Sl → Sl → Hp → Prop} {Kp : List PanicEntry → Hp → Prop} (I : Int → Hp → Prop) (μ : Int → Hp → Nat) {x5 : Int} {h : Hp} (h0 : I x5 h)
    (step : ∀ (x5 : Int) (h : Hp), I x5 h → ∀ N1 : Fr → Hp → Prop, (∀ (x5' : Int) (h' : Hp), I x5' h' → μ x5' h' < μ x5 h → N1 (mk11_1 x2 x3 x4 x5') h') → T11_1 x2 x3 x4 K Kp N1 x5 h) : L11_1 x2 x3 x4 K Kp x5 h :=
  loop_rule (σ := Int) (fun s => mk11_1 x2 x3 x4 s) (fun N s h => T11_1 x2 x3 x4 K Kp N s h) (fun N s h => by kernel_rfl) (fun s h => I s h) (fun s h => μ s h) (s0 := x5) h0 (fun s h hI N hN => step s h hI N (fun x5' h' hI' hl => hN x5' h' hI' hl))

def S11 (o_0 : Int) (o_1 : Sl) (o_2 : Sl) (o_3 : Sl) (o_4 : Int) (o_5 : Int) (o_6 : Int) (o_7 : Bool) (h : Hp) (K : Int → Int → Bool → Sl → Sl → Sl → Hp → Prop) (Kp : List PanicEntry → Hp → Prop) : Prop :=
  New h #[(.int .i64 o_0), (Sl.v o_1), (Sl.v o_2), (Sl.v o_3), (.int .i64 o_4), (.int .i64 o_5), (.int .i64 o_6), (.bool o_7)] 42 fun a1 h1 =>
  New h1 #[(.int .i64 (0 : Int)), (.int .i64 (0 : Int)), (.bool false), (.slice none 0 0), (.slice none 0 0), (.slice none 0 0)] 39 fun a2 h2 =>
  New h2 #[(.int .i64 (0 : Int)), (.int .i64 (0 : Int)), (.bool false), (.slice none 0 0), (.slice none 0 0), (.slice none 0 0)] 39 fun a3 h3 =>
  Ld h3 a1 (Value.int .i64) fun t7 =>
  If (t7 == (1 : Int)) (
    Ld h3 (a1.add 1) (Sl.v) fun t16 =>
    Ld h3 (a1.add 5) (Value.int .i64) fun t18 =>
    Fn35 t16 t18 h3 (fun t19_0 t19_1 h4 =>
      St h4 (a3.add 2) (.bool t19_0) fun h5 =>
      St h5 a3 (.int .i64 t19_1) fun h6 =>
      Ld h6 a3 (Value.int .i64) fun t184_0 =>
      Ld h6 (a3.add 1) (Value.int .i64) fun t184_1 =>
      Ld h6 (a3.add 2) (Value.bool) fun t184_2 =>
      Ld h6 (a3.add 3) (Sl.v) fun t184_3 =>
      Ld h6 (a3.add 4) (Sl.v) fun t184_4 =>
      Ld h6 (a3.add 5) (Sl.v) fun t184_5 =>
      St h6 a2 (.int .i64 t184_0) fun h7 =>
      St h7 (a2.add 1) (.int .i64 t184_1) fun h8 =>
      St h8 (a2.add 2) (.bool t184_2) fun h9 =>
      St h9 (a2.add 3) (Sl.v t184_3) fun h10 =>
      St h10 (a2.add 4) (Sl.v t184_4) fun h11 =>
      St h11 (a2.add 5) (Sl.v t184_5) fun h12 =>
      Ld h12 a2 (Value.int .i64) fun r0_0 =>
      Ld h12 (a2.add 1) (Value.int .i64) fun r0_1 =>
      Ld h12 (a2.add 2) (Value.bool) fun r0_2 =>
      Ld h12 (a2.add 3) (Sl.v) fun r0_3 =>
      Ld h12 (a2.add 4) (Sl.v) fun r0_4 =>
      Ld h12 (a2.add 5) (Sl.v) fun r0_5 =>
      K r0_0 r0_1 r0_2 r0_3 r0_4 r0_5 h12) Kp) (
    If (t7 == (2 : Int)) (
      Ld h3 (a1.add 1) (Sl.v) fun t28 =>
      Ld h3 (a1.add 4) (Value.int .i64) fun t30 =>
      Ld h3 (a1.add 5) (Value.int .i64) fun t32 =>
      Fn36 t28 t30 t32 h3 (fun t33_0 t33_1 h4 =>
        St h4 (a3.add 1) (.int .i64 t33_0) fun h5 =>
        St h5 a3 (.int .i64 t33_1) fun h6 =>
        Ld h6 a3 (Value.int .i64) fun t184_0 =>
        Ld h6 (a3.add 1) (Value.int .i64) fun t184_1 =>
        Ld h6 (a3.add 2) (Value.bool) fun t184_2 =>
        Ld h6 (a3.add 3) (Sl.v) fun t184_3 =>
        Ld h6 (a3.add 4) (Sl.v) fun t184_4 =>
        Ld h6 (a3.add 5) (Sl.v) fun t184_5 =>
        St h6 a2 (.int .i64 t184_0) fun h7 =>
        St h7 (a2.add 1) (.int .i64 t184_1) fun h8 =>
        St h8 (a2.add 2) (.bool t184_2) fun h9 =>
        St h9 (a2.add 3) (Sl.v t184_3) fun h10 =>
        St h10 (a2.add 4) (Sl.v t184_4) fun h11 =>
        St h11 (a2.add 5) (Sl.v t184_5) fun h12 =>
        Ld h12 a2 (Value.int .i64) fun r0_0 =>
        Ld h12 (a2.add 1) (Value.int .i64) fun r0_1 =>
        Ld h12 (a2.add 2) (Value.bool) fun r0_2 =>
        Ld h12 (a2.add 3) (Sl.v) fun r0_3 =>
        Ld h12 (a2.add 4) (Sl.v) fun r0_4 =>
        Ld h12 (a2.add 5) (Sl.v) fun r0_5 =>
        K r0_0 r0_1 r0_2 r0_3 r0_4 r0_5 h12) Kp) (
      If (t7 == (3 : Int)) (
        Ld h3 (a1.add 3) (Sl.v) fun t41 =>
        Fn37 t41 h3 (fun t42 h4 =>
          St h4 (a3.add 3) (Sl.v t42) fun h5 =>
          Ld h5 a3 (Value.int .i64) fun t184_0 =>
          Ld h5 (a3.add 1) (Value.int .i64) fun t184_1 =>
          Ld h5 (a3.add 2) (Value.bool) fun t184_2 =>
          Ld h5 (a3.add 3) (Sl.v) fun t184_3 =>
          Ld h5 (a3.add 4) (Sl.v) fun t184_4 =>
          Ld h5 (a3.add 5) (Sl.v) fun t184_5 =>
          St h5 a2 (.int .i64 t184_0) fun h6 =>
          St h6 (a2.add 1) (.int .i64 t184_1) fun h7 =>
          St h7 (a2.add 2) (.bool t184_2) fun h8 =>
          St h8 (a2.add 3) (Sl.v t184_3) fun h9 =>
          St h9 (a2.add 4) (Sl.v t184_4) fun h10 =>
          St h10 (a2.add 5) (Sl.v t184_5) fun h11 =>
          Ld h11 a2 (Value.int .i64) fun r0_0 =>
          Ld h11 (a2.add 1) (Value.int .i64) fun r0_1 =>
          Ld h11 (a2.add 2) (Value.bool) fun r0_2 =>
          Ld h11 (a2.add 3) (Sl.v) fun r0_3 =>
          Ld h11 (a2.add 4) (Sl.v) fun r0_4 =>
          Ld h11 (a2.add 5) (Sl.v) fun r0_5 =>
          K r0_0 r0_1 r0_2 r0_3 r0_4 r0_5 h11) Kp) (
        If (t7 == (4 : Int)) (
          Ld h3 (a1.add 1) (Sl.v) fun t48 =>
          Ld h3 (a1.add 4) (Value.int .i64) fun t50 =>
          Ld h3 (a1.add 5) (Value.int .i64) fun t52 =>
          Fn26 t48 t50 t52 h3 (fun t53_0 t53_1 h4 =>
            St h4 (a3.add 4) (Sl.v t53_0) fun h5 =>
            St h5 a3 (.int .i64 t53_1) fun h6 =>
            Ld h6 a3 (Value.int .i64) fun t184_0 =>
            Ld h6 (a3.add 1) (Value.int .i64) fun t184_1 =>
            Ld h6 (a3.add 2) (Value.bool) fun t184_2 =>
            Ld h6 (a3.add 3) (Sl.v) fun t184_3 =>
            Ld h6 (a3.add 4) (Sl.v) fun t184_4 =>
            Ld h6 (a3.add 5) (Sl.v) fun t184_5 =>
            St h6 a2 (.int .i64 t184_0) fun h7 =>
            St h7 (a2.add 1) (.int .i64 t184_1) fun h8 =>
            St h8 (a2.add 2) (.bool t184_2) fun h9 =>
            St h9 (a2.add 3) (Sl.v t184_3) fun h10 =>
            St h10 (a2.add 4) (Sl.v t184_4) fun h11 =>
            St h11 (a2.add 5) (Sl.v t184_5) fun h12 =>
            Ld h12 a2 (Value.int .i64) fun r0_0 =>
            Ld h12 (a2.add 1) (Value.int .i64) fun r0_1 =>
            Ld h12 (a2.add 2) (Value.bool) fun r0_2 =>
            Ld h12 (a2.add 3) (Sl.v) fun r0_3 =>
            Ld h12 (a2.add 4) (Sl.v) fun r0_4 =>
            Ld h12 (a2.add 5) (Sl.v) fun r0_5 =>
            K r0_0 r0_1 r0_2 r0_3 r0_4 r0_5 h12) Kp) (
          If (t7 == (5 : Int)) (
            Ld h3 (a1.add 1) (Sl.v) fun t62 =>
            Ld h3 (a1.add 4) (Value.int .i64) fun t64 =>
            Ld h3 (a1.add 5) (Value.int .i64) fun t66 =>
            Fn38 t62 t64 t66 h3 (fun t67_0 t67_1 h4 =>
              St h4 (a3.add 3) (Sl.v t67_0) fun h5 =>
              St h5 a3 (.int .i64 t67_1) fun h6 =>
              Ld h6 a3 (Value.int .i64) fun t184_0 =>
              Ld h6 (a3.add 1) (Value.int .i64) fun t184_1 =>
              Ld h6 (a3.add 2) (Value.bool) fun t184_2 =>
              Ld h6 (a3.add 3) (Sl.v) fun t184_3 =>
              Ld h6 (a3.add 4) (Sl.v) fun t184_4 =>
              Ld h6 (a3.add 5) (Sl.v) fun t184_5 =>
              St h6 a2 (.int .i64 t184_0) fun h7 =>
              St h7 (a2.add 1) (.int .i64 t184_1) fun h8 =>
              St h8 (a2.add 2) (.bool t184_2) fun h9 =>
              St h9 (a2.add 3) (Sl.v t184_3) fun h10 =>
              St h10 (a2.add 4) (Sl.v t184_4) fun h11 =>
              St h11 (a2.add 5) (Sl.v t184_5) fun h12 =>
              Ld h12 a2 (Value.int .i64) fun r0_0 =>
              Ld h12 (a2.add 1) (Value.int .i64) fun r0_1 =>
              Ld h12 (a2.add 2) (Value.bool) fun r0_2 =>
              Ld h12 (a2.add 3) (Sl.v) fun r0_3 =>
              Ld h12 (a2.add 4) (Sl.v) fun r0_4 =>
              Ld h12 (a2.add 5) (Sl.v) fun r0_5 =>
              K r0_0 r0_1 r0_2 r0_3 r0_4 r0_5 h12) Kp) (
            If (t7 == (6 : Int)) (
              Ld h3 (a1.add 1) (Sl.v) fun t76 =>
              Ld h3 (a1.add 2) (Sl.v) fun t78 =>
              Ld h3 (a1.add 5) (Value.int .i64) fun t80 =>
              Fn39 (0 : Int) t76 t78 t80 h3 (fun t81_0 t81_1 h4 =>
                St h4 (a3.add 3) (Sl.v t81_0) fun h5 =>
                St h5 a3 (.int .i64 t81_1) fun h6 =>
                Ld h6 a3 (Value.int .i64) fun t184_0 =>
                Ld h6 (a3.add 1) (Value.int .i64) fun t184_1 =>
                Ld h6 (a3.add 2) (Value.bool) fun t184_2 =>
                Ld h6 (a3.add 3) (Sl.v) fun t184_3 =>
                Ld h6 (a3.add 4) (Sl.v) fun t184_4 =>
                Ld h6 (a3.add 5) (Sl.v) fun t184_5 =>
                St h6 a2 (.int .i64 t184_0) fun h7 =>
                St h7 (a2.add 1) (.int .i64 t184_1) fun h8 =>
                St h8 (a2.add 2) (.bool t184_2) fun h9 =>
                St h9 (a2.add 3) (Sl.v t184_3) fun h10 =>
                St h10 (a2.add 4) (Sl.v t184_4) fun h11 =>
                St h11 (a2.add 5) (Sl.v t184_5) fun h12 =>
                Ld h12 a2 (Value.int .i64) fun r0_0 =>
                Ld h12 (a2.add 1) (Value.int .i64) fun r0_1 =>
                Ld h12 (a2.add 2) (Value.bool) fun r0_2 =>
                Ld h12 (a2.add 3) (Sl.v) fun r0_3 =>
                Ld h12 (a2.add 4) (Sl.v) fun r0_4 =>
                Ld h12 (a2.add 5) (Sl.v) fun r0_5 =>
                K r0_0 r0_1 r0_2 r0_3 r0_4 r0_5 h12) Kp) (
              If (t7 == (7 : Int)) (
                Ld h3 (a1.add 1) (Sl.v) fun t90 =>
                Ld h3 (a1.add 2) (Sl.v) fun t92 =>
                Ld h3 (a1.add 5) (Value.int .i64) fun t94 =>
                Fn39 (1 : Int) t90 t92 t94 h3 (fun t95_0 t95_1 h4 =>
                  St h4 (a3.add 3) (Sl.v t95_0) fun h5 =>
                  St h5 a3 (.int .i64 t95_1) fun h6 =>
                  Ld h6 a3 (Value.int .i64) fun t184_0 =>
                  Ld h6 (a3.add 1) (Value.int .i64) fun t184_1 =>
                  Ld h6 (a3.add 2) (Value.bool) fun t184_2 =>
                  Ld h6 (a3.add 3) (Sl.v) fun t184_3 =>
                  Ld h6 (a3.add 4) (Sl.v) fun t184_4 =>
                  Ld h6 (a3.add 5) (Sl.v) fun t184_5 =>
                  St h6 a2 (.int .i64 t184_0) fun h7 =>
                  St h7 (a2.add 1) (.int .i64 t184_1) fun h8 =>
                  St h8 (a2.add 2) (.bool t184_2) fun h9 =>
                  St h9 (a2.add 3) (Sl.v t184_3) fun h10 =>
                  St h10 (a2.add 4) (Sl.v t184_4) fun h11 =>
                  St h11 (a2.add 5) (Sl.v t184_5) fun h12 =>
                  Ld h12 a2 (Value.int .i64) fun r0_0 =>
                  Ld h12 (a2.add 1) (Value.int .i64) fun r0_1 =>
                  Ld h12 (a2.add 2) (Value.bool) fun r0_2 =>
                  Ld h12 (a2.add 3) (Sl.v) fun r0_3 =>
                  Ld h12 (a2.add 4) (Sl.v) fun r0_4 =>
                  Ld h12 (a2.add 5) (Sl.v) fun r0_5 =>
                  K r0_0 r0_1 r0_2 r0_3 r0_4 r0_5 h12) Kp) (
                If (t7 == (8 : Int)) (
                  Ld h3 (a1.add 1) (Sl.v) fun t104 =>
                  Ld h3 (a1.add 2) (Sl.v) fun t106 =>
                  Ld h3 (a1.add 5) (Value.int .i64) fun t108 =>
                  Fn39 (2 : Int) t104 t106 t108 h3 (fun t109_0 t109_1 h4 =>
                    St h4 (a3.add 3) (Sl.v t109_0) fun h5 =>
                    St h5 a3 (.int .i64 t109_1) fun h6 =>
                    Ld h6 a3 (Value.int .i64) fun t184_0 =>
                    Ld h6 (a3.add 1) (Value.int .i64) fun t184_1 =>
                    Ld h6 (a3.add 2) (Value.bool) fun t184_2 =>
                    Ld h6 (a3.add 3) (Sl.v) fun t184_3 =>
                    Ld h6 (a3.add 4) (Sl.v) fun t184_4 =>
                    Ld h6 (a3.add 5) (Sl.v) fun t184_5 =>
                    St h6 a2 (.int .i64 t184_0) fun h7 =>
                    St h7 (a2.add 1) (.int .i64 t184_1) fun h8 =>
                    St h8 (a2.add 2) (.bool t184_2) fun h9 =>
                    St h9 (a2.add 3) (Sl.v t184_3) fun h10 =>
                    St h10 (a2.add 4) (Sl.v t184_4) fun h11 =>
                    St h11 (a2.add 5) (Sl.v t184_5) fun h12 =>
                    Ld h12 a2 (Value.int .i64) fun r0_0 =>
                    Ld h12 (a2.add 1) (Value.int .i64) fun r0_1 =>
                    Ld h12 (a2.add 2) (Value.bool) fun r0_2 =>
                    Ld h12 (a2.add 3) (Sl.v) fun r0_3 =>
                    Ld h12 (a2.add 4) (Sl.v) fun r0_4 =>
                    Ld h12 (a2.add 5) (Sl.v) fun r0_5 =>
                    K r0_0 r0_1 r0_2 r0_3 r0_4 r0_5 h12) Kp) (
                  If (t7 == (9 : Int)) (
                    Ld h3 (a1.add 1) (Sl.v) fun t118 =>
                    Ld h3 (a1.add 5) (Value.int .i64) fun t120 =>
                    Fn40 t118 t120 h3 (fun t121_0 t121_1 h4 =>
                      St h4 (a3.add 3) (Sl.v t121_0) fun h5 =>
                      St h5 a3 (.int .i64 t121_1) fun h6 =>
                      Ld h6 a3 (Value.int .i64) fun t184_0 =>
                      Ld h6 (a3.add 1) (Value.int .i64) fun t184_1 =>
                      Ld h6 (a3.add 2) (Value.bool) fun t184_2 =>
                      Ld h6 (a3.add 3) (Sl.v) fun t184_3 =>
                      Ld h6 (a3.add 4) (Sl.v) fun t184_4 =>
                      Ld h6 (a3.add 5) (Sl.v) fun t184_5 =>
                      St h6 a2 (.int .i64 t184_0) fun h7 =>
                      St h7 (a2.add 1) (.int .i64 t184_1) fun h8 =>
                      St h8 (a2.add 2) (.bool t184_2) fun h9 =>
                      St h9 (a2.add 3) (Sl.v t184_3) fun h10 =>
                      St h10 (a2.add 4) (Sl.v t184_4) fun h11 =>
                      St h11 (a2.add 5) (Sl.v t184_5) fun h12 =>
                      Ld h12 a2 (Value.int .i64) fun r0_0 =>
                      Ld h12 (a2.add 1) (Value.int .i64) fun r0_1 =>
                      Ld h12 (a2.add 2) (Value.bool) fun r0_2 =>
                      Ld h12 (a2.add 3) (Sl.v) fun r0_3 =>
                      Ld h12 (a2.add 4) (Sl.v) fun r0_4 =>
                      Ld h12 (a2.add 5) (Sl.v) fun r0_5 =>
                      K r0_0 r0_1 r0_2 r0_3 r0_4 r0_5 h12) Kp) (
                    If (t7 == (10 : Int)) (
                      Ld h3 (a1.add 1) (Sl.v) fun t129 =>
                      Ld h3 (a1.add 4) (Value.int .i64) fun t131 =>
                      Ld h3 (a1.add 5) (Value.int .i64) fun t133 =>
                      Fn7 t129 t131 t133 h3 (fun t134 h4 =>
                        L11_1 a2 a3 t134 K Kp (0 : Int) h4) Kp) (
                      If (t7 == (11 : Int)) (
                        Ld h3 (a1.add 1) (Sl.v) fun t159 =>
                        Ld h3 (a1.add 4) (Value.int .i64) fun t161 =>
                        Ld h3 (a1.add 5) (Value.int .i64) fun t163 =>
                        Ld h3 (a1.add 7) (Value.bool) fun t165 =>
                        Fn41 t159 t161 t163 t165 h3 (fun t166 h4 =>
                          St h4 (a3.add 1) (.int .i64 t166) fun h5 =>
                          Ld h5 a3 (Value.int .i64) fun t184_0 =>
                          Ld h5 (a3.add 1) (Value.int .i64) fun t184_1 =>
                          Ld h5 (a3.add 2) (Value.bool) fun t184_2 =>
                          Ld h5 (a3.add 3) (Sl.v) fun t184_3 =>
                          Ld h5 (a3.add 4) (Sl.v) fun t184_4 =>
                          Ld h5 (a3.add 5) (Sl.v) fun t184_5 =>
                          St h5 a2 (.int .i64 t184_0) fun h6 =>
                          St h6 (a2.add 1) (.int .i64 t184_1) fun h7 =>
                          St h7 (a2.add 2) (.bool t184_2) fun h8 =>
                          St h8 (a2.add 3) (Sl.v t184_3) fun h9 =>
                          St h9 (a2.add 4) (Sl.v t184_4) fun h10 =>
                          St h10 (a2.add 5) (Sl.v t184_5) fun h11 =>
                          Ld h11 a2 (Value.int .i64) fun r0_0 =>
                          Ld h11 (a2.add 1) (Value.int .i64) fun r0_1 =>
                          Ld h11 (a2.add 2) (Value.bool) fun r0_2 =>
                          Ld h11 (a2.add 3) (Sl.v) fun r0_3 =>
                          Ld h11 (a2.add 4) (Sl.v) fun r0_4 =>
                          Ld h11 (a2.add 5) (Sl.v) fun r0_5 =>
                          K r0_0 r0_1 r0_2 r0_3 r0_4 r0_5 h11) Kp) (
                        If (t7 == (12 : Int)) (
                          Ld h3 (a1.add 1) (Sl.v) fun t172 =>
                          Ld h3 (a1.add 4) (Value.int .i64) fun t174 =>
                          Ld h3 (a1.add 5) (Value.int .i64) fun t176 =>
                          Ld h3 (a1.add 6) (Value.int .i64) fun t178 =>
                          Fn42 t172 t174 t176 t178 h3 (fun t179_0 t179_1 h4 =>
                            St h4 (a3.add 1) (.int .i64 t179_0) fun h5 =>
                            St h5 a3 (.int .i64 t179_1) fun h6 =>
                            Ld h6 a3 (Value.int .i64) fun t184_0 =>
                            Ld h6 (a3.add 1) (Value.int .i64) fun t184_1 =>
                            Ld h6 (a3.add 2) (Value.bool) fun t184_2 =>
                            Ld h6 (a3.add 3) (Sl.v) fun t184_3 =>
                            Ld h6 (a3.add 4) (Sl.v) fun t184_4 =>
                            Ld h6 (a3.add 5) (Sl.v) fun t184_5 =>
                            St h6 a2 (.int .i64 t184_0) fun h7 =>
                            St h7 (a2.add 1) (.int .i64 t184_1) fun h8 =>
                            St h8 (a2.add 2) (.bool t184_2) fun h9 =>
                            St h9 (a2.add 3) (Sl.v t184_3) fun h10 =>
                            St h10 (a2.add 4) (Sl.v t184_4) fun h11 =>
                            St h11 (a2.add 5) (Sl.v t184_5) fun h12 =>
                            Ld h12 a2 (Value.int .i64) fun r0_0 =>
                            Ld h12 (a2.add 1) (Value.int .i64) fun r0_1 =>
                            Ld h12 (a2.add 2) (Value.bool) fun r0_2 =>
                            Ld h12 (a2.add 3) (Sl.v) fun r0_3 =>
                            Ld h12 (a2.add 4) (Sl.v) fun r0_4 =>
                            Ld h12 (a2.add 5) (Sl.v) fun r0_5 =>
                            K r0_0 r0_1 r0_2 r0_3 r0_4 r0_5 h12) Kp) (
                          Ld h3 (a1.add 5) (Value.int .i64) fun t9 =>
                          Fn43 t9 h3 (fun t10 h4 =>
                            St h4 (a3.add 1) (.int .i64 t10) fun h5 =>
                            Ld h5 a3 (Value.int .i64) fun t184_0 =>
                            Ld h5 (a3.add 1) (Value.int .i64) fun t184_1 =>
                            Ld h5 (a3.add 2) (Value.bool) fun t184_2 =>
                            Ld h5 (a3.add 3) (Sl.v) fun t184_3 =>
                            Ld h5 (a3.add 4) (Sl.v) fun t184_4 =>
                            Ld h5 (a3.add 5) (Sl.v) fun t184_5 =>
                            St h5 a2 (.int .i64 t184_0) fun h6 =>
                            St h6 (a2.add 1) (.int .i64 t184_1) fun h7 =>
                            St h7 (a2.add 2) (.bool t184_2) fun h8 =>
                            St h8 (a2.add 3) (Sl.v t184_3) fun h9 =>
                            St h9 (a2.add 4) (Sl.v t184_4) fun h10 =>
                            St h10 (a2.add 5) (Sl.v t184_5) fun h11 =>
                            Ld h11 a2 (Value.int .i64) fun r0_0 =>
                            Ld h11 (a2.add 1) (Value.int .i64) fun r0_1 =>
                            Ld h11 (a2.add 2) (Value.bool) fun r0_2 =>
                            Ld h11 (a2.add 3) (Sl.v) fun r0_3 =>
                            Ld h11 (a2.add 4) (Sl.v) fun r0_4 =>
                            Ld h11 (a2.add 5) (Sl.v) fun r0_5 =>
                            K r0_0 r0_1 r0_2 r0_3 r0_4 r0_5 h11) Kp))))))))))))

theorem Fn11.of {o_0 : Int} {o_1 : Sl} {o_2 : Sl} {o_3 : Sl} {o_4 : Int} {o_5 : Int} {o_6 : Int} {o_7 : Bool} {h : Hp} {K : Int → Int → Bool → Sl → Sl → Sl → Hp → Prop} {Kp : List PanicEntry → Hp → Prop} (H : S11 o_0 o_1 o_2 o_3 o_4 o_5 o_6 o_7 h K Kp) : Fn11 o_0 o_1 o_2 o_3 o_4 o_5 o_6 o_7 h K Kp :=
  Eq.mp (by kernel_rfl) (fn_of (P := Tryd.prog) (ann := ann11) (D := DrawSem Tryd.prog ord11) (drawOk _) (c := code11) (zs := [(.agg #[(.int .i64 (0 : Int)), (.int .i64 (0 : Int)), (.bool false), (.slice none 0 0), (.slice none 0 0), (.slice none 0 0)])]) (args := [(.agg #[(.int .i64 o_0), (Sl.v o_1), (Sl.v o_2), (Sl.v o_3), (.int .i64 o_4), (.int .i64 o_5), (.int .i64 o_6), (.bool o_7)])]) (Kv := kv11 K) (Kp := Kp) (h := h) Tryd.func11 (by kernel_rfl) (Eq.mp (by kernel_rfl) H))

/-! ### 12: colonnade/colonnadelaw02.alike -/

noncomputable def code12 : Code := Tryd.f12.body.getD .skip

def ann12 : Ann := [(3, [2, 3]), (5, [2, 3]), (10, [2, 3]), (15, [2, 3]), (2016, [2, 3, 7]), (2011, [2, 3, 6]), (2006, [2, 3, 5])]

def ord12 : List (Nat × List Nat × List Nat) := [(18, [0, 1, 2, 3, 4, 5, 6, 7, 8, 9, 10], [0, 1, 0, 7, 15, 0, 32, 0, 224, 480, 1023]), (13, [0, 1, 2, 3, 4, 5, 6, 7, 8, 9, 10], [0, 1, 0, 7, 15, 0, 32, 0, 224, 480, 1023]), (8, [0, 1, 2, 3, 4, 5, 6, 7, 8, 9, 10], [0, 1, 0, 7, 15, 0, 32, 0, 224, 480, 1023])]

def kv12 (K : Bool → Hp → Prop) : Value → Hp → Prop := fun v h => match v with | .bool r0 => (K r0 h) | _ => False

def q12 (K : Bool → Hp → Prop) : Qt := retQ Tryd.prog Tryd.f12.results.toList [(.bool false)] (kv12 K)

abbrev mk12_5 (x2 : Addr) (x3 : Addr) (x7 : Int) : Fr := [none, none, some (.pointer (some x2)), some (.pointer (some x3)), none, none, none, some (.int .i64 x7), none, none, none, none, none, none, none, none, none, none, none, none, none, none, none, none, none, none, none, none, none, none, none, none, none, none, none, none, none, none, none, none, none, none, none, none, none, none, none, none, none, none, none, none, none, none, none, none, none, none, none, none, none, none, none, none, none, none, none, none, none, none, none, none, none, none, none, none, none, none, none, none, none, none, none, none, none, none, none, none, none, none, none, none, none, none, none, none, none, none, none, none, none, none, none, none, none, none]

def T12_5 (x2 : Addr) (x3 : Addr) (K : Bool → Hp → Prop) (Kp : List PanicEntry → Hp → Prop) (N1 : Fr → Hp → Prop) (x7 : Int) (h : Hp) : Prop :=
  Ld h (x2.add 5) (Sl.v) fun t90 =>
  If (decide (x7 < (t90.n : Int))) (
    Ld h (x2.add 5) (Sl.v) fun t96 =>
    Ix t96.a t96.n 1 x7 fun a98 =>
    Ld h a98 (Value.int .i64) fun t99 =>
    Ld h (x3.add 5) (Sl.v) fun t101 =>
    Ix t101.a t101.n 1 x7 fun a103 =>
    Ld h a103 (Value.int .i64) fun t104 =>
    If (t99 != t104) (
      K false h) (
      Wr .i64 (x7 + (1 : Int)) fun t94 =>
      N1 (mk12_5 x2 x3 t94) h)) (
    K true h)

def L12_5 (x2 : Addr) (x3 : Addr) (K : Bool → Hp → Prop) (Kp : List PanicEntry → Hp → Prop) (x7 : Int) (h : Hp) : Prop :=
  LoopH (fun N fr h => sem Tryd.prog ann12 (DrawSem Tryd.prog ord12) none (sub [1, 1, 1, 1, 1, 0, 1, 0, 0] code12) (thenQ (fun fr' h' => N (Ann.find ann12 2016 fr') h') (ctxQ Tryd.prog ann12 (DrawSem Tryd.prog ord12) none Kp [1, 1, 1, 1, 1, 0, 1, 0] code12 [] (q12 K))) Kp fr h) (mk12_5 x2 x3 x7) h

theorem L12_5.rule {x2 : Addr} {x3 : Addr} {K : Bool → Hp → Prop} {Kp : List PanicEntry → Hp → Prop} (I : Int → Hp → Prop) (μ : Int → Hp → Nat) {x7 : Int} {h : Hp} (h0 : I x7 h)
    (step : ∀ (x7 : Int) (h : Hp), I x7 h → ∀ N1 : Fr → Hp → Prop, (∀ (x7' : Int) (h' : Hp), I x7' h' → μ x7' h' < μ x7 h → N1 (mk12_5 x2 x3 x7') h') → T12_5 x2 x3 K Kp N1 x7 h) : L12_5 x2 x3 K Kp x7 h :=
  loop_rule (σ := Int) (fun s => mk12_5 x2 x3 s) (fun N s h => T12_5 x2 x3 K Kp N s h) (fun N s h => by kernel_rfl) (fun s h => I s h) (fun s h => μ s h) (s0 := x7) h0 (fun s h hI N hN => step s h hI N (fun x7' h' hI' hl => hN x7' h' hI' hl))

def JT12_4 (x2 : Addr) (x3 : Addr) (K : Bool → Hp → Prop) (Kp : List PanicEntry → Hp → Prop) (h : Hp) : Prop :=
  L12_5 x2 x3 K Kp (0 : Int) h

def J12_4 (x2 : Addr) (x3 : Addr) (K : Bool → Hp → Prop) (Kp : List PanicEntry → Hp → Prop) (h : Hp) : Prop :=
  sem Tryd.prog ann12 (DrawSem Tryd.prog ord12) none (sub [1, 1, 1, 1, 1] code12) (ctxQ Tryd.prog ann12 (DrawSem Tryd.prog ord12) none Kp [1, 1, 1, 1, 1] code12 [] (q12 K)) Kp ([none, none, some (.pointer (some x2)), some (.pointer (some x3)), none, none, none, none, none, none, none, none, none, none, none, none, none, none, none, none, none, none, none, none, none, none, none, none, none, none, none, none, none, none, none, none, none, none, none, none, none, none, none, none, none, none, none, none, none, none, none, none, none, none, none, none, none, none, none, none, none, none, none, none, none, none, none, none, none, none, none, none, none, none, none, none, none, none, none, none, none, none, none, none, none, none, none, none, none, none, none, none, none, none, none, none, none, none, none, none, none, none, none, none, none, none]) h

theorem J12_4.of {x2 : Addr} {x3 : Addr} {K : Bool → Hp → Prop} {Kp : List PanicEntry → Hp → Prop} {h : Hp} (H : JT12_4 x2 x3 K Kp h) : J12_4 x2 x3 K Kp h :=
  Eq.mp (by kernel_rfl) H

abbrev mk12_6 (x2 : Addr) (x3 : Addr) (x6 : Int) : Fr := [none, none, some (.pointer (some x2)), some (.pointer (some x3)), none, none, some (.int .i64 x6), none, none, none, none, none, none, none, none, none, none, none, none, none, none, none, none, none, none, none, none, none, none, none, none, none, none, none, none, none, none, none, none, none, none, none, none, none, none, none, none, none, none, none, none, none, none, none, none, none, none, none, none, none, none, none, none, none, none, none, none, none, none, none, none, none, none, none, none, none, none, none, none, none, none, none, none, none, none, none, none, none, none, none, none, none, none, none, none, none, none, none, none, none, none, none, none, none, none, none]

def T12_6 (x2 : Addr) (x3 : Addr) (K : Bool → Hp → Prop) (Kp : List PanicEntry → Hp → Prop) (N1 : Fr → Hp → Prop) (x6 : Int) (h : Hp) : Prop :=
  Ld h (x2.add 4) (Sl.v) fun t72 =>
  If (decide (x6 < (t72.n : Int))) (
    Ld h (x2.add 4) (Sl.v) fun t78 =>
    Ix t78.a t78.n 1 x6 fun a80 =>
    Ld h a80 (Value.bool) fun t81 =>
    Ld h (x3.add 4) (Sl.v) fun t83 =>
    Ix t83.a t83.n 1 x6 fun a85 =>
    Ld h a85 (Value.bool) fun t86 =>
    If (!(t81 == t86)) (
      K false h) (
      Wr .i64 (x6 + (1 : Int)) fun t76 =>
      N1 (mk12_6 x2 x3 t76) h)) (
    J12_4 x2 x3 K Kp h)

def L12_6 (x2 : Addr) (x3 : Addr) (K : Bool → Hp → Prop) (Kp : List PanicEntry → Hp → Prop) (x6 : Int) (h : Hp) : Prop :=
  LoopH (fun N fr h => sem Tryd.prog ann12 (DrawSem Tryd.prog ord12) none (sub [1, 1, 1, 1, 0, 1, 0, 0] code12) (thenQ (fun fr' h' => N (Ann.find ann12 2011 fr') h') (ctxQ Tryd.prog ann12 (DrawSem Tryd.prog ord12) none Kp [1, 1, 1, 1, 0, 1, 0] code12 [] (q12 K))) Kp fr h) (mk12_6 x2 x3 x6) h

theorem L12_6.rule {x2 : Addr} {x3 : Addr} {K : Bool → Hp → Prop} {Kp : List PanicEntry → Hp → Prop} (I : Int → Hp → Prop) (μ : Int → Hp → Nat) {x6 : Int} {h : Hp} (h0 : I x6 h)
    (step : ∀ (x6 : Int) (h : Hp), I x6 h → ∀ N1 : Fr → Hp → Prop, (∀ (x6' : Int) (h' : Hp), I x6' h' → μ x6' h' < μ x6 h → N1 (mk12_6 x2 x3 x6') h') → T12_6 x2 x3 K Kp N1 x6 h) : L12_6 x2 x3 K Kp x6 h :=
  loop_rule (σ := Int) (fun s => mk12_6 x2 x3 s) (fun N s h => T12_6 x2 x3 K Kp N s h) (fun N s h => by kernel_rfl) (fun s h => I s h) (fun s h => μ s h) (s0 := x6) h0 (fun s h hI N hN => step s h hI N (fun x6' h' hI' hl => hN x6' h' hI' hl))

def JT12_3 (x2 : Addr) (x3 : Addr) (K : Bool → Hp → Prop) (Kp : List PanicEntry → Hp → Prop) (h : Hp) : Prop :=
  L12_6 x2 x3 K Kp (0 : Int) h

def J12_3 (x2 : Addr) (x3 : Addr) (K : Bool → Hp → Prop) (Kp : List PanicEntry → Hp → Prop) (h : Hp) : Prop :=
  sem Tryd.prog ann12 (DrawSem Tryd.prog ord12) none (sub [1, 1, 1, 1] code12) (ctxQ Tryd.prog ann12 (DrawSem Tryd.prog ord12) none Kp [1, 1, 1, 1] code12 [] (q12 K)) Kp ([none, none, some (.pointer (some x2)), some (.pointer (some x3)), none, none, none, none, none, none, none, none, none, none, none, none, none, none, none, none, none, none, none, none, none, none, none, none, none, none, none, none, none, none, none, none, none, none, none, none, none, none, none, none, none, none, none, none, none, none, none, none, none, none, none, none, none, none, none, none, none, none, none, none, none, none, none, none, none, none, none, none, none, none, none, none, none, none, none, none, none, none, none, none, none, none, none, none, none, none, none, none, none, none, none, none, none, none, none, none, none, none, none, none, none, none]) h

theorem J12_3.of {x2 : Addr} {x3 : Addr} {K : Bool → Hp → Prop} {Kp : List PanicEntry → Hp → Prop} {h : Hp} (H : JT12_3 x2 x3 K Kp h) : J12_3 x2 x3 K Kp h :=
  Eq.mp (by kernel_rfl) H

abbrev mk12_7 (x2 : Addr) (x3 : Addr) (x5 : Int) : Fr := [none, none, some (.pointer (some x2)), some (.pointer (some x3)), none, some (.int .i64 x5), none, none, none, none, none, none, none, none, none, none, none, none, none, none, none, none, none, none, none, none, none, none, none, none, none, none, none, none, none, none, none, none, none, none, none, none, none, none, none, none, none, none, none, none, none, none, none, none, none, none, none, none, none, none, none, none, none, none, none, none, none, none, none, none, none, none, none, none, none, none, none, none, none, none, none, none, none, none, none, none, none, none, none, none, none, none, none, none, none, none, none, none, none, none, none, none, none, none, none, none]

def T12_7 (x2 : Addr) (x3 : Addr) (K : Bool → Hp → Prop) (Kp : List PanicEntry → Hp → Prop) (N1 : Fr → Hp → Prop) (x5 : Int) (h : Hp) : Prop :=
  Ld h (x2.add 3) (Sl.v) fun t54 =>
  If (decide (x5 < (t54.n : Int))) (
    Ld h (x2.add 3) (Sl.v) fun t60 =>
    Ix t60.a t60.n 1 x5 fun a62 =>
    Ld h a62 (Value.int .u8) fun t63 =>
    Ld h (x3.add 3) (Sl.v) fun t65 =>
    Ix t65.a t65.n 1 x5 fun a67 =>
    Ld h a67 (Value.int .u8) fun t68 =>
    If (t63 != t68) (
      K false h) (
      Wr .i64 (x5 + (1 : Int)) fun t58 =>
      N1 (mk12_7 x2 x3 t58) h)) (
    J12_3 x2 x3 K Kp h)

def L12_7 (x2 : Addr) (x3 : Addr) (K : Bool → Hp → Prop) (Kp : List PanicEntry → Hp → Prop) (x5 : Int) (h : Hp) : Prop :=
  LoopH (fun N fr h => sem Tryd.prog ann12 (DrawSem Tryd.prog ord12) none (sub [1, 1, 1, 0, 1, 0, 0] code12) (thenQ (fun fr' h' => N (Ann.find ann12 2006 fr') h') (ctxQ Tryd.prog ann12 (DrawSem Tryd.prog ord12) none Kp [1, 1, 1, 0, 1, 0] code12 [] (q12 K))) Kp fr h) (mk12_7 x2 x3 x5) h

theorem L12_7.rule {x2 : Addr} {x3 : Addr} {K : Bool → Hp → Prop} {Kp : List PanicEntry → Hp → Prop} (I : Int → Hp → Prop) (μ : Int → Hp → Nat) {x5 : Int} {h : Hp} (h0 : I x5 h)
    (step : ∀ (x5 : Int) (h : Hp), I x5 h → ∀ N1 : Fr → Hp → Prop, (∀ (x5' : Int) (h' : Hp), I x5' h' → μ x5' h' < μ x5 h → N1 (mk12_7 x2 x3 x5') h') → T12_7 x2 x3 K Kp N1 x5 h) : L12_7 x2 x3 K Kp x5 h :=
  loop_rule (σ := Int) (fun s => mk12_7 x2 x3 s) (fun N s h => T12_7 x2 x3 K Kp N s h) (fun N s h => by kernel_rfl) (fun s h => I s h) (fun s h => μ s h) (s0 := x5) h0 (fun s h hI N hN => step s h hI N (fun x5' h' hI' hl => hN x5' h' hI' hl))

def JT12_2 (x2 : Addr) (x3 : Addr) (K : Bool → Hp → Prop) (Kp : List PanicEntry → Hp → Prop) (h : Hp) : Prop :=
  L12_7 x2 x3 K Kp (0 : Int) h

def J12_2 (x2 : Addr) (x3 : Addr) (K : Bool → Hp → Prop) (Kp : List PanicEntry → Hp → Prop) (h : Hp) : Prop :=
  sem Tryd.prog ann12 (DrawSem Tryd.prog ord12) none (sub [1, 1, 1] code12) (ctxQ Tryd.prog ann12 (DrawSem Tryd.prog ord12) none Kp [1, 1, 1] code12 [] (q12 K)) Kp ([none, none, some (.pointer (some x2)), some (.pointer (some x3)), none, none, none, none, none, none, none, none, none, none, none, none, none, none, none, none, none, none, none, none, none, none, none, none, none, none, none, none, none, none, none, none, none, none, none, none, none, none, none, none, none, none, none, none, none, none, none, none, none, none, none, none, none, none, none, none, none, none, none, none, none, none, none, none, none, none, none, none, none, none, none, none, none, none, none, none, none, none, none, none, none, none, none, none, none, none, none, none, none, none, none, none, none, none, none, none, none, none, none, none, none, none]) h

theorem J12_2.of {x2 : Addr} {x3 : Addr} {K : Bool → Hp → Prop} {Kp : List PanicEntry → Hp → Prop} {h : Hp} (H : JT12_2 x2 x3 K Kp h) : J12_2 x2 x3 K Kp h :=
  Eq.mp (by kernel_rfl) H

def JT12_1 (x2 : Addr) (x3 : Addr) (K : Bool → Hp → Prop) (Kp : List PanicEntry → Hp → Prop) (h : Hp) : Prop :=
  Ld h (x2.add 3) (Sl.v) fun t28 =>
  Ld h (x3.add 3) (Sl.v) fun t31 =>
  If ((t28.n : Int) != (t31.n : Int)) (
    K false h) (
    Ld h (x2.add 4) (Sl.v) fun t36 =>
    Ld h (x3.add 4) (Sl.v) fun t39 =>
    If ((t36.n : Int) != (t39.n : Int)) (
      K false h) (
      Ld h (x2.add 5) (Sl.v) fun t45 =>
      Ld h (x3.add 5) (Sl.v) fun t48 =>
      If ((t45.n : Int) != (t48.n : Int)) (
        K false h) (
        J12_2 x2 x3 K Kp h)))

def J12_1 (x2 : Addr) (x3 : Addr) (K : Bool → Hp → Prop) (Kp : List PanicEntry → Hp → Prop) (h : Hp) : Prop :=
  sem Tryd.prog ann12 (DrawSem Tryd.prog ord12) none (sub [1, 1] code12) (ctxQ Tryd.prog ann12 (DrawSem Tryd.prog ord12) none Kp [1, 1] code12 [] (q12 K)) Kp ([none, none, some (.pointer (some x2)), some (.pointer (some x3)), none, none, none, none, none, none, none, none, none, none, none, none, none, none, none, none, none, none, none, none, none, none, none, none, none, none, none, none, none, none, none, none, none, none, none, none, none, none, none, none, none, none, none, none, none, none, none, none, none, none, none, none, none, none, none, none, none, none, none, none, none, none, none, none, none, none, none, none, none, none, none, none, none, none, none, none, none, none, none, none, none, none, none, none, none, none, none, none, none, none, none, none, none, none, none, none, none, none, none, none, none, none]) h

theorem J12_1.of {x2 : Addr} {x3 : Addr} {K : Bool → Hp → Prop} {Kp : List PanicEntry → Hp → Prop} {h : Hp} (H : JT12_1 x2 x3 K Kp h) : J12_1 x2 x3 K Kp h :=
  Eq.mp (by kernel_rfl) H

def S12 (a_0 : Int) (a_1 : Int) (a_2 : Bool) (a_3 : Sl) (a_4 : Sl) (a_5 : Sl) (b_0 : Int) (b_1 : Int) (b_2 : Bool) (b_3 : Sl) (b_4 : Sl) (b_5 : Sl) (h : Hp) (K : Bool → Hp → Prop) (Kp : List PanicEntry → Hp → Prop) : Prop :=
  New h #[(.int .i64 a_0), (.int .i64 a_1), (.bool a_2), (Sl.v a_3), (Sl.v a_4), (Sl.v a_5)] 39 fun a2 h1 =>
  New h1 #[(.int .i64 b_0), (.int .i64 b_1), (.bool b_2), (Sl.v b_3), (Sl.v b_4), (Sl.v b_5)] 39 fun a3 h2 =>
  Ld h2 a2 (Value.int .i64) fun t9 =>
  Ld h2 a3 (Value.int .i64) fun t11 =>
  If (t9 != t11) (
    K false h2) (
    Ld h2 (a2.add 1) (Value.int .i64) fun t15 =>
    Ld h2 (a3.add 1) (Value.int .i64) fun t17 =>
    If (t15 != t17) (
      K false h2) (
      Ld h2 (a2.add 2) (Value.bool) fun t22 =>
      Ld h2 (a3.add 2) (Value.bool) fun t24 =>
      If (!(t22 == t24)) (
        K false h2) (
        J12_1 a2 a3 K Kp h2)))

theorem Fn12.of {a_0 : Int} {a_1 : Int} {a_2 : Bool} {a_3 : Sl} {a_4 : Sl} {a_5 : Sl} {b_0 : Int} {b_1 : Int} {b_2 : Bool} {b_3 : Sl} {b_4 : Sl} {b_5 : Sl} {h : Hp} {K : Bool → Hp → Prop} {Kp : List PanicEntry → Hp → Prop} (H : S12 a_0 a_1 a_2 a_3 a_4 a_5 b_0 b_1 b_2 b_3 b_4 b_5 h K Kp) : Fn12 a_0 a_1 a_2 a_3 a_4 a_5 b_0 b_1 b_2 b_3 b_4 b_5 h K Kp :=
  Eq.mp (by kernel_rfl) (fn_of (P := Tryd.prog) (ann := ann12) (D := DrawSem Tryd.prog ord12) (drawOk _) (c := code12) (zs := [(.bool false)]) (args := [(.agg #[(.int .i64 a_0), (.int .i64 a_1), (.bool a_2), (Sl.v a_3), (Sl.v a_4), (Sl.v a_5)]), (.agg #[(.int .i64 b_0), (.int .i64 b_1), (.bool b_2), (Sl.v b_3), (Sl.v b_4), (Sl.v b_5)])]) (Kv := kv12 K) (Kp := Kp) (h := h) Tryd.func12 (by kernel_rfl) (Eq.mp (by kernel_rfl) H))

/-! ### 13: colonnade/colonnadelaw02.gave -/

noncomputable def code13 : Code := Tryd.f13.body.getD .skip

def ann13 : Ann := []

def ord13 : List (Nat × List Nat × List Nat) := [(1, [0, 1, 3, 4, 6, 7, 2, 5, 8, 9, 10], [0, 1, 3, 0, 8, 31, 0, 64, 255, 511, 1023])]

def kv13 (K : Sl → Sl → Sl → Hp → Prop) : Value → Hp → Prop := fun v h => match v with | .agg cs0 => (match (cs0.toList.getD 0 undef) with | .slice r0_0a r0_0n r0_0c => (let r0_0 : Sl := ⟨r0_0a, r0_0n, r0_0c⟩; match (cs0.toList.getD 1 undef) with | .slice r0_1a r0_1n r0_1c => (let r0_1 : Sl := ⟨r0_1a, r0_1n, r0_1c⟩; match (cs0.toList.getD 2 undef) with | .slice r0_2a r0_2n r0_2c => (let r0_2 : Sl := ⟨r0_2a, r0_2n, r0_2c⟩; K r0_0 r0_1 r0_2 h) | _ => False) | _ => False) | _ => False) | _ => False

def q13 (K : Sl → Sl → Sl → Hp → Prop) : Qt := retQ Tryd.prog Tryd.f13.results.toList [(.agg #[(.slice none 0 0), (.slice none 0 0), (.slice none 0 0)])] (kv13 K)

def S13 (o_0 : Int) (o_1 : Sl) (o_2 : Sl) (o_3 : Sl) (o_4 : Int) (o_5 : Int) (o_6 : Int) (o_7 : Bool) (h : Hp) (K : Sl → Sl → Sl → Hp → Prop) (Kp : List PanicEntry → Hp → Prop) : Prop :=
  New h #[(.int .i64 o_0), (Sl.v o_1), (Sl.v o_2), (Sl.v o_3), (.int .i64 o_4), (.int .i64 o_5), (.int .i64 o_6), (.bool o_7)] 42 fun a1 h1 =>
  New h1 #[(.slice none 0 0), (.slice none 0 0), (.slice none 0 0)] 46 fun a2 h2 =>
  Ld h2 (a1.add 1) (Sl.v) fun t4 =>
  Ld h2 (a1.add 2) (Sl.v) fun t7 =>
  Ld h2 (a1.add 3) (Sl.v) fun t10 =>
  Fn44 t4 h2 (fun t5 h3 =>
    Keep h2 h3 (a1.add 3) 1 <|
    Keep h2 h3 (a1.add 2) 1 <|
    Fn44 t7 h3 (fun t8 h4 =>
      Keep h3 h4 (a1.add 3) 1 <|
      Fn45 t10 h4 (fun t11 h5 =>
        St h5 a2 (Sl.v t5) fun h6 =>
        St h6 (a2.add 1) (Sl.v t8) fun h7 =>
        St h7 (a2.add 2) (Sl.v t11) fun h8 =>
        Ld h8 a2 (Sl.v) fun r0_0 =>
        Ld h8 (a2.add 1) (Sl.v) fun r0_1 =>
        Ld h8 (a2.add 2) (Sl.v) fun r0_2 =>
        K r0_0 r0_1 r0_2 h8) Kp) Kp) Kp

theorem Fn13.of {o_0 : Int} {o_1 : Sl} {o_2 : Sl} {o_3 : Sl} {o_4 : Int} {o_5 : Int} {o_6 : Int} {o_7 : Bool} {h : Hp} {K : Sl → Sl → Sl → Hp → Prop} {Kp : List PanicEntry → Hp → Prop} (H : S13 o_0 o_1 o_2 o_3 o_4 o_5 o_6 o_7 h K Kp) : Fn13 o_0 o_1 o_2 o_3 o_4 o_5 o_6 o_7 h K Kp :=
  Eq.mp (by kernel_rfl) (fn_of (P := Tryd.prog) (ann := ann13) (D := DrawSem Tryd.prog ord13) (drawOk _) (c := code13) (zs := [(.agg #[(.slice none 0 0), (.slice none 0 0), (.slice none 0 0)])]) (args := [(.agg #[(.int .i64 o_0), (Sl.v o_1), (Sl.v o_2), (Sl.v o_3), (.int .i64 o_4), (.int .i64 o_5), (.int .i64 o_6), (.bool o_7)])]) (Kv := kv13 K) (Kp := Kp) (h := h) Tryd.func13 (by kernel_rfl) (Eq.mp (by kernel_rfl) H))

end Go.Proofs.YtajgmklgfdgnlaaDoor
