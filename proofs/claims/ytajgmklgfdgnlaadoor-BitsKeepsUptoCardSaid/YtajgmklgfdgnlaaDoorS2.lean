/- What the functions do, printed by program (gen.py) in the words of ShCore; each text is held against the loaded program by the kernel. -/
import Derived.Test.YtajgmklgfdgnlaaDoorF
set_option linter.unusedVariables false
set_option maxRecDepth 100000
namespace Go.Proofs.YtajgmklgfdgnlaaDoor
open Go Go.Sh
/-! ### 4: colonnade/colonnadelaw02.BitsAnswers -/

noncomputable def code4 : Code := Tryd.f4.body.getD .skip

def ann4 : Ann := [(2002, [0, 3])]

def ord4 : List (Nat × List Nat × List Nat) := []

def kv4 (K : Bool → Hp → Prop) : Value → Hp → Prop := fun v h => match v with | .bool r0 => (K r0 h) | _ => False

def q4 (K : Bool → Hp → Prop) : Qt := retQ Tryd.prog Tryd.f4.results.toList [(.bool false)] (kv4 K)

abbrev mk4_1 (x0 : Sl) (x3 : Int) : Fr := [some (Sl.v x0), none, none, some (.int .i64 x3), none, none, none, none, none, none, none, none, none, none, none, none, none, none, none, none, none, none, none, none, none, none, none]

def T4_1 (x0 : Sl) (K : Bool → Hp → Prop) (Kp : List PanicEntry → Hp → Prop) (N1 : Fr → Hp → Prop) (x3 : Int) (h : Hp) : Prop :=
  If (decide (x3 < (x0.n : Int))) (
    Ix x0.a x0.n 8 x3 fun a14 =>
    Ld h a14 (Value.int .i64) fun t15_0 =>
    Ld h (a14.add 1) (Sl.v) fun t15_1 =>
    Ld h (a14.add 2) (Sl.v) fun t15_2 =>
    Ld h (a14.add 3) (Sl.v) fun t15_3 =>
    Ld h (a14.add 4) (Value.int .i64) fun t15_4 =>
    Ld h (a14.add 5) (Value.int .i64) fun t15_5 =>
    Ld h (a14.add 6) (Value.int .i64) fun t15_6 =>
    Ld h (a14.add 7) (Value.bool) fun t15_7 =>
    Fn10 t15_0 t15_1 t15_2 t15_3 t15_4 t15_5 t15_6 t15_7 h (fun t16_0 t16_1 t16_2 t16_3 t16_4 t16_5 h1 =>
      New h1 #[(.int .i64 (0 : Int)), (.int .i64 (0 : Int)), (.bool false), (.slice none 0 0), (.slice none 0 0), (.slice none 0 0)] 39 fun a4 h2 =>
      St h2 a4 (.int .i64 t16_0) fun h3 =>
      St h3 (a4.add 1) (.int .i64 t16_1) fun h4 =>
      St h4 (a4.add 2) (.bool t16_2) fun h5 =>
      St h5 (a4.add 3) (Sl.v t16_3) fun h6 =>
      St h6 (a4.add 4) (Sl.v t16_4) fun h7 =>
      St h7 (a4.add 5) (Sl.v t16_5) fun h8 =>
      Ix x0.a x0.n 8 x3 fun a19 =>
      Ld h8 a19 (Value.int .i64) fun t20_0 =>
      Ld h8 (a19.add 1) (Sl.v) fun t20_1 =>
      Ld h8 (a19.add 2) (Sl.v) fun t20_2 =>
      Ld h8 (a19.add 3) (Sl.v) fun t20_3 =>
      Ld h8 (a19.add 4) (Value.int .i64) fun t20_4 =>
      Ld h8 (a19.add 5) (Value.int .i64) fun t20_5 =>
      Ld h8 (a19.add 6) (Value.int .i64) fun t20_6 =>
      Ld h8 (a19.add 7) (Value.bool) fun t20_7 =>
      Fn11 t20_0 t20_1 t20_2 t20_3 t20_4 t20_5 t20_6 t20_7 h8 (fun t21_0 t21_1 t21_2 t21_3 t21_4 t21_5 h9 =>
        New h9 #[(.int .i64 (0 : Int)), (.int .i64 (0 : Int)), (.bool false), (.slice none 0 0), (.slice none 0 0), (.slice none 0 0)] 39 fun a5 h10 =>
        St h10 a5 (.int .i64 t21_0) fun h11 =>
        St h11 (a5.add 1) (.int .i64 t21_1) fun h12 =>
        St h12 (a5.add 2) (.bool t21_2) fun h13 =>
        St h13 (a5.add 3) (Sl.v t21_3) fun h14 =>
        St h14 (a5.add 4) (Sl.v t21_4) fun h15 =>
        St h15 (a5.add 5) (Sl.v t21_5) fun h16 =>
        Ld h16 a4 (Value.int .i64) fun t22_0 =>
        Ld h16 (a4.add 1) (Value.int .i64) fun t22_1 =>
        Ld h16 (a4.add 2) (Value.bool) fun t22_2 =>
        Ld h16 (a4.add 3) (Sl.v) fun t22_3 =>
        Ld h16 (a4.add 4) (Sl.v) fun t22_4 =>
        Ld h16 (a4.add 5) (Sl.v) fun t22_5 =>
        Ld h16 a5 (Value.int .i64) fun t23_0 =>
        Ld h16 (a5.add 1) (Value.int .i64) fun t23_1 =>
        Ld h16 (a5.add 2) (Value.bool) fun t23_2 =>
        Ld h16 (a5.add 3) (Sl.v) fun t23_3 =>
        Ld h16 (a5.add 4) (Sl.v) fun t23_4 =>
        Ld h16 (a5.add 5) (Sl.v) fun t23_5 =>
        Fn12 t22_0 t22_1 t22_2 t22_3 t22_4 t22_5 t23_0 t23_1 t23_2 t23_3 t23_4 t23_5 h16 (fun t24 h17 =>
          If (!t24) (
            K false h17) (
            Wr .i64 (x3 + (1 : Int)) fun t11 =>
            N1 (mk4_1 x0 t11) h17)) Kp) Kp) Kp) (
    Fn9  h (fun t26 h1 =>
      K t26 h1) Kp)

def L4_1 (x0 : Sl) (K : Bool → Hp → Prop) (Kp : List PanicEntry → Hp → Prop) (x3 : Int) (h : Hp) : Prop :=
  LoopH (fun N fr h => sem Tryd.prog ann4 (DrawSem Tryd.prog ord4) none (sub [1, 0, 1, 0, 0] code4) (thenQ (fun fr' h' => N (Ann.find ann4 2002 fr') h') (ctxQ Tryd.prog ann4 (DrawSem Tryd.prog ord4) none Kp [1, 0, 1, 0] code4 [] (q4 K))) Kp fr h) (mk4_1 x0 x3) h

theorem L4_1.rule {x0 : Sl} {K : Bool → Hp → Prop} {Kp : List PanicEntry → Hp → Prop} (I : Int → Hp → Prop) (μ : Int → Hp → Nat) {x3 : Int} {h : Hp} (h0 : I x3 h)
    (step : ∀ (x3 : Int) (h : Hp), I x3 h → ∀ N1 : Fr → Hp → Prop, (∀ (x3' : Int) (h' : Hp), I x3' h' → μ x3' h' < μ x3 h → N1 (mk4_1 x0 x3') h') → T4_1 x0 K Kp N1 x3 h) : L4_1 x0 K Kp x3 h :=
  loop_rule (σ := Int) (fun s => mk4_1 x0 s) (fun N s h => T4_1 x0 K Kp N s h) (fun N s h => by kernel_rfl) (fun s h => I s h) (fun s h => μ s h) (s0 := x3) h0 (fun s h hI N hN => step s h hI N (fun x3' h' hI' hl => hN x3' h' hI' hl))

def S4 (script : Sl) (h : Hp) (K : Bool → Hp → Prop) (Kp : List PanicEntry → Hp → Prop) : Prop :=
  L4_1 script K Kp (0 : Int) h

theorem Fn4.of {script : Sl} {h : Hp} {K : Bool → Hp → Prop} {Kp : List PanicEntry → Hp → Prop} (H : S4 script h K Kp) : Fn4 script h K Kp :=
  Eq.mp (by kernel_rfl) (fn_of (P := Tryd.prog) (ann := ann4) (D := DrawSem Tryd.prog ord4) (drawOk _) (c := code4) (zs := [(.bool false)]) (args := [(Sl.v script)]) (Kv := kv4 K) (Kp := Kp) (h := h) Tryd.func4 (by kernel_rfl) (Eq.mp (by kernel_rfl) H))

/-! ### 5: colonnade/colonnadelaw02.BitsKeeps -/

noncomputable def code5 : Code := Tryd.f5.body.getD .skip

def ann5 : Ann := [(8, [2, 3, 5, 6, 7, 8, 9]), (11, [2, 3, 5, 6, 9]), (14, [2, 5, 6, 9]), (18, [2, 5, 6, 11])]

def ord5 : List (Nat × List Nat × List Nat) := [(12, [0, 1, 2, 3, 4, 5, 6, 7, 8, 9, 10], [0, 0, 2, 7, 15, 31, 63, 63, 255, 511, 1023])]

def kv5 (K : Bool → Hp → Prop) : Value → Hp → Prop := fun v h => match v with | .bool r0 => (K r0 h) | _ => False

def q5 (K : Bool → Hp → Prop) : Qt := retQ Tryd.prog Tryd.f5.results.toList [(.bool false)] (kv5 K)

def JT5_4 (x2 : Addr) (x5 : Addr) (x6 : Addr) (x11 : Addr) (K : Bool → Hp → Prop) (Kp : List PanicEntry → Hp → Prop) (h : Hp) : Prop :=
  Ld h x6 (Sl.v) fun t79_0 =>
  Ld h (x6.add 1) (Sl.v) fun t79_1 =>
  Ld h (x6.add 2) (Sl.v) fun t79_2 =>
  Ld h x2 (Value.int .i64) fun t80_0 =>
  Ld h (x2.add 1) (Sl.v) fun t80_1 =>
  Ld h (x2.add 2) (Sl.v) fun t80_2 =>
  Ld h (x2.add 3) (Sl.v) fun t80_3 =>
  Ld h (x2.add 4) (Value.int .i64) fun t80_4 =>
  Ld h (x2.add 5) (Value.int .i64) fun t80_5 =>
  Ld h (x2.add 6) (Value.int .i64) fun t80_6 =>
  Ld h (x2.add 7) (Value.bool) fun t80_7 =>
  Fn14 t79_0 t79_1 t79_2 t80_0 t80_1 t80_2 t80_3 t80_4 t80_5 t80_6 t80_7 h (fun t81_0 t81_1 t81_2 t81_3 t81_4 t81_5 t81_6 t81_7 h1 =>
    Fn11 t81_0 t81_1 t81_2 t81_3 t81_4 t81_5 t81_6 t81_7 h1 (fun t82_0 t82_1 t82_2 t82_3 t82_4 t82_5 h2 =>
      New h2 #[(.int .i64 (0 : Int)), (.int .i64 (0 : Int)), (.bool false), (.slice none 0 0), (.slice none 0 0), (.slice none 0 0)] 39 fun a12 h3 =>
      St h3 a12 (.int .i64 t82_0) fun h4 =>
      St h4 (a12.add 1) (.int .i64 t82_1) fun h5 =>
      St h5 (a12.add 2) (.bool t82_2) fun h6 =>
      St h6 (a12.add 3) (Sl.v t82_3) fun h7 =>
      St h7 (a12.add 4) (Sl.v t82_4) fun h8 =>
      St h8 (a12.add 5) (Sl.v t82_5) fun h9 =>
      Ld h9 x6 (Sl.v) fun t83_0 =>
      Ld h9 (x6.add 1) (Sl.v) fun t83_1 =>
      Ld h9 (x6.add 2) (Sl.v) fun t83_2 =>
      Ld h9 x2 (Value.int .i64) fun t84_0 =>
      Ld h9 (x2.add 1) (Sl.v) fun t84_1 =>
      Ld h9 (x2.add 2) (Sl.v) fun t84_2 =>
      Ld h9 (x2.add 3) (Sl.v) fun t84_3 =>
      Ld h9 (x2.add 4) (Value.int .i64) fun t84_4 =>
      Ld h9 (x2.add 5) (Value.int .i64) fun t84_5 =>
      Ld h9 (x2.add 6) (Value.int .i64) fun t84_6 =>
      Ld h9 (x2.add 7) (Value.bool) fun t84_7 =>
      Fn14 t83_0 t83_1 t83_2 t84_0 t84_1 t84_2 t84_3 t84_4 t84_5 t84_6 t84_7 h9 (fun t85_0 t85_1 t85_2 t85_3 t85_4 t85_5 t85_6 t85_7 h10 =>
        Fn10 t85_0 t85_1 t85_2 t85_3 t85_4 t85_5 t85_6 t85_7 h10 (fun t86_0 t86_1 t86_2 t86_3 t86_4 t86_5 h11 =>
          New h11 #[(.int .i64 (0 : Int)), (.int .i64 (0 : Int)), (.bool false), (.slice none 0 0), (.slice none 0 0), (.slice none 0 0)] 39 fun a13 h12 =>
          St h12 a13 (.int .i64 t86_0) fun h13 =>
          St h13 (a13.add 1) (.int .i64 t86_1) fun h14 =>
          St h14 (a13.add 2) (.bool t86_2) fun h15 =>
          St h15 (a13.add 3) (Sl.v t86_3) fun h16 =>
          St h16 (a13.add 4) (Sl.v t86_4) fun h17 =>
          St h17 (a13.add 5) (Sl.v t86_5) fun h18 =>
          Ld h18 a13 (Value.int .i64) fun t87_0 =>
          Ld h18 (a13.add 1) (Value.int .i64) fun t87_1 =>
          Ld h18 (a13.add 2) (Value.bool) fun t87_2 =>
          Ld h18 (a13.add 3) (Sl.v) fun t87_3 =>
          Ld h18 (a13.add 4) (Sl.v) fun t87_4 =>
          Ld h18 (a13.add 5) (Sl.v) fun t87_5 =>
          Ld h18 a12 (Value.int .i64) fun t88_0 =>
          Ld h18 (a12.add 1) (Value.int .i64) fun t88_1 =>
          Ld h18 (a12.add 2) (Value.bool) fun t88_2 =>
          Ld h18 (a12.add 3) (Sl.v) fun t88_3 =>
          Ld h18 (a12.add 4) (Sl.v) fun t88_4 =>
          Ld h18 (a12.add 5) (Sl.v) fun t88_5 =>
          Fn12 t87_0 t87_1 t87_2 t87_3 t87_4 t87_5 t88_0 t88_1 t88_2 t88_3 t88_4 t88_5 h18 (fun t89 h19 =>
            If t89 (
              Ld h19 x11 (Value.int .i64) fun t91_0 =>
              Ld h19 (x11.add 1) (Value.int .i64) fun t91_1 =>
              Ld h19 (x11.add 2) (Value.bool) fun t91_2 =>
              Ld h19 (x11.add 3) (Sl.v) fun t91_3 =>
              Ld h19 (x11.add 4) (Sl.v) fun t91_4 =>
              Ld h19 (x11.add 5) (Sl.v) fun t91_5 =>
              Ld h19 x5 (Value.int .i64) fun t92_0 =>
              Ld h19 (x5.add 1) (Value.int .i64) fun t92_1 =>
              Ld h19 (x5.add 2) (Value.bool) fun t92_2 =>
              Ld h19 (x5.add 3) (Sl.v) fun t92_3 =>
              Ld h19 (x5.add 4) (Sl.v) fun t92_4 =>
              Ld h19 (x5.add 5) (Sl.v) fun t92_5 =>
              Fn12 t91_0 t91_1 t91_2 t91_3 t91_4 t91_5 t92_0 t92_1 t92_2 t92_3 t92_4 t92_5 h19 (fun t93 h20 =>
                If t93 (
                  Fn9  h20 (fun t96 h21 =>
                    K t96 h21) Kp) (
                  K false h20)) Kp) (
              K false h19)) Kp) Kp) Kp) Kp) Kp

def J5_4 (x2 : Addr) (x5 : Addr) (x6 : Addr) (x11 : Addr) (K : Bool → Hp → Prop) (Kp : List PanicEntry → Hp → Prop) (h : Hp) : Prop :=
  sem Tryd.prog ann5 (DrawSem Tryd.prog ord5) none (sub [1, 1, 1, 1, 1, 1, 1, 1, 1, 1, 1, 1, 1, 1] code5) (ctxQ Tryd.prog ann5 (DrawSem Tryd.prog ord5) none Kp [1, 1, 1, 1, 1, 1, 1, 1, 1, 1, 1, 1, 1, 1] code5 [] (q5 K)) Kp ([none, none, some (.pointer (some x2)), none, none, some (.pointer (some x5)), some (.pointer (some x6)), none, none, none, none, some (.pointer (some x11)), none, none, none, none, none, none, none, none, none, none, none, none, none, none, none, none, none, none, none, none, none, none, none, none, none, none, none, none, none, none, none, none, none, none, none, none, none, none, none, none, none, none, none, none, none, none, none, none, none, none, none, none, none, none, none, none, none, none, none, none, none, none, none, none, none, none, none, none, none, none, none, none, none, none, none, none, none, none, none, none, none, none, none, none, none, none]) h

theorem J5_4.of {x2 : Addr} {x5 : Addr} {x6 : Addr} {x11 : Addr} {K : Bool → Hp → Prop} {Kp : List PanicEntry → Hp → Prop} {h : Hp} (H : JT5_4 x2 x5 x6 x11 K Kp h) : J5_4 x2 x5 x6 x11 K Kp h :=
  Eq.mp (by kernel_rfl) H

def JT5_3 (x2 : Addr) (x5 : Addr) (x6 : Addr) (x9 : Addr) (K : Bool → Hp → Prop) (Kp : List PanicEntry → Hp → Prop) (h : Hp) : Prop :=
  Ld h x6 (Sl.v) fun t63_0 =>
  Ld h (x6.add 1) (Sl.v) fun t63_1 =>
  Ld h (x6.add 2) (Sl.v) fun t63_2 =>
  Ld h x2 (Value.int .i64) fun t64_0 =>
  Ld h (x2.add 1) (Sl.v) fun t64_1 =>
  Ld h (x2.add 2) (Sl.v) fun t64_2 =>
  Ld h (x2.add 3) (Sl.v) fun t64_3 =>
  Ld h (x2.add 4) (Value.int .i64) fun t64_4 =>
  Ld h (x2.add 5) (Value.int .i64) fun t64_5 =>
  Ld h (x2.add 6) (Value.int .i64) fun t64_6 =>
  Ld h (x2.add 7) (Value.bool) fun t64_7 =>
  Fn14 t63_0 t63_1 t63_2 t64_0 t64_1 t64_2 t64_3 t64_4 t64_5 t64_6 t64_7 h (fun t65_0 t65_1 t65_2 t65_3 t65_4 t65_5 t65_6 t65_7 h1 =>
    Fn10 t65_0 t65_1 t65_2 t65_3 t65_4 t65_5 t65_6 t65_7 h1 (fun t66_0 t66_1 t66_2 t66_3 t66_4 t66_5 h2 =>
      New h2 #[(.int .i64 (0 : Int)), (.int .i64 (0 : Int)), (.bool false), (.slice none 0 0), (.slice none 0 0), (.slice none 0 0)] 39 fun a11 h3 =>
      St h3 a11 (.int .i64 t66_0) fun h4 =>
      St h4 (a11.add 1) (.int .i64 t66_1) fun h5 =>
      St h5 (a11.add 2) (.bool t66_2) fun h6 =>
      St h6 (a11.add 3) (Sl.v t66_3) fun h7 =>
      St h7 (a11.add 4) (Sl.v t66_4) fun h8 =>
      St h8 (a11.add 5) (Sl.v t66_5) fun h9 =>
      Ld h9 x6 (Sl.v) fun t67_0 =>
      Ld h9 (x6.add 1) (Sl.v) fun t67_1 =>
      Ld h9 (x6.add 2) (Sl.v) fun t67_2 =>
      Fn17 t67_0 t67_1 t67_2 h9 (fun h10 =>
        Ld h10 a11 (Value.int .i64) fun t69_0 =>
        Ld h10 (a11.add 1) (Value.int .i64) fun t69_1 =>
        Ld h10 (a11.add 2) (Value.bool) fun t69_2 =>
        Ld h10 (a11.add 3) (Sl.v) fun t69_3 =>
        Ld h10 (a11.add 4) (Sl.v) fun t69_4 =>
        Ld h10 (a11.add 5) (Sl.v) fun t69_5 =>
        Ld h10 x5 (Value.int .i64) fun t70_0 =>
        Ld h10 (x5.add 1) (Value.int .i64) fun t70_1 =>
        Ld h10 (x5.add 2) (Value.bool) fun t70_2 =>
        Ld h10 (x5.add 3) (Sl.v) fun t70_3 =>
        Ld h10 (x5.add 4) (Sl.v) fun t70_4 =>
        Ld h10 (x5.add 5) (Sl.v) fun t70_5 =>
        Fn12 t69_0 t69_1 t69_2 t69_3 t69_4 t69_5 t70_0 t70_1 t70_2 t70_3 t70_4 t70_5 h10 (fun t71 h11 =>
          If (!t71) (
            K false h11) (
            Ld h11 x9 (Value.int .i64) fun t74_0 =>
            Ld h11 (x9.add 1) (Value.int .i64) fun t74_1 =>
            Ld h11 (x9.add 2) (Value.bool) fun t74_2 =>
            Ld h11 (x9.add 3) (Sl.v) fun t74_3 =>
            Ld h11 (x9.add 4) (Sl.v) fun t74_4 =>
            Ld h11 (x9.add 5) (Sl.v) fun t74_5 =>
            Ld h11 x5 (Value.int .i64) fun t75_0 =>
            Ld h11 (x5.add 1) (Value.int .i64) fun t75_1 =>
            Ld h11 (x5.add 2) (Value.bool) fun t75_2 =>
            Ld h11 (x5.add 3) (Sl.v) fun t75_3 =>
            Ld h11 (x5.add 4) (Sl.v) fun t75_4 =>
            Ld h11 (x5.add 5) (Sl.v) fun t75_5 =>
            Fn12 t74_0 t74_1 t74_2 t74_3 t74_4 t74_5 t75_0 t75_1 t75_2 t75_3 t75_4 t75_5 h11 (fun t76 h12 =>
              If (!t76) (
                K false h12) (
                J5_4 x2 x5 x6 a11 K Kp h12)) Kp)) Kp) Kp) Kp) Kp

def J5_3 (x2 : Addr) (x5 : Addr) (x6 : Addr) (x9 : Addr) (K : Bool → Hp → Prop) (Kp : List PanicEntry → Hp → Prop) (h : Hp) : Prop :=
  sem Tryd.prog ann5 (DrawSem Tryd.prog ord5) none (sub [1, 1, 1, 1, 1, 1, 1, 1, 1, 1, 1] code5) (ctxQ Tryd.prog ann5 (DrawSem Tryd.prog ord5) none Kp [1, 1, 1, 1, 1, 1, 1, 1, 1, 1, 1] code5 [] (q5 K)) Kp ([none, none, some (.pointer (some x2)), none, none, some (.pointer (some x5)), some (.pointer (some x6)), none, none, some (.pointer (some x9)), none, none, none, none, none, none, none, none, none, none, none, none, none, none, none, none, none, none, none, none, none, none, none, none, none, none, none, none, none, none, none, none, none, none, none, none, none, none, none, none, none, none, none, none, none, none, none, none, none, none, none, none, none, none, none, none, none, none, none, none, none, none, none, none, none, none, none, none, none, none, none, none, none, none, none, none, none, none, none, none, none, none, none, none, none, none, none, none]) h

theorem J5_3.of {x2 : Addr} {x5 : Addr} {x6 : Addr} {x9 : Addr} {K : Bool → Hp → Prop} {Kp : List PanicEntry → Hp → Prop} {h : Hp} (H : JT5_3 x2 x5 x6 x9 K Kp h) : J5_3 x2 x5 x6 x9 K Kp h :=
  Eq.mp (by kernel_rfl) H

def JT5_2 (x2 : Addr) (x3 : Addr) (x5 : Addr) (x6 : Addr) (x9 : Addr) (K : Bool → Hp → Prop) (Kp : List PanicEntry → Hp → Prop) (h : Hp) : Prop :=
  Ld h x3 (Value.int .i64) fun t50_0 =>
  Ld h (x3.add 1) (Sl.v) fun t50_1 =>
  Ld h (x3.add 2) (Sl.v) fun t50_2 =>
  Ld h (x3.add 3) (Sl.v) fun t50_3 =>
  Ld h (x3.add 4) (Value.int .i64) fun t50_4 =>
  Ld h (x3.add 5) (Value.int .i64) fun t50_5 =>
  Ld h (x3.add 6) (Value.int .i64) fun t50_6 =>
  Ld h (x3.add 7) (Value.bool) fun t50_7 =>
  Fn10 t50_0 t50_1 t50_2 t50_3 t50_4 t50_5 t50_6 t50_7 h (fun t51_0 t51_1 t51_2 t51_3 t51_4 t51_5 h1 =>
    New h1 #[(.int .i64 (0 : Int)), (.int .i64 (0 : Int)), (.bool false), (.slice none 0 0), (.slice none 0 0), (.slice none 0 0)] 39 fun a10 h2 =>
    St h2 a10 (.int .i64 t51_0) fun h3 =>
    St h3 (a10.add 1) (.int .i64 t51_1) fun h4 =>
    St h4 (a10.add 2) (.bool t51_2) fun h5 =>
    St h5 (a10.add 3) (Sl.v t51_3) fun h6 =>
    St h6 (a10.add 4) (Sl.v t51_4) fun h7 =>
    St h7 (a10.add 5) (Sl.v t51_5) fun h8 =>
    Ld h8 a10 (Value.int .i64) fun t52_0 =>
    Ld h8 (a10.add 1) (Value.int .i64) fun t52_1 =>
    Ld h8 (a10.add 2) (Value.bool) fun t52_2 =>
    Ld h8 (a10.add 3) (Sl.v) fun t52_3 =>
    Ld h8 (a10.add 4) (Sl.v) fun t52_4 =>
    Ld h8 (a10.add 5) (Sl.v) fun t52_5 =>
    Ld h8 x3 (Value.int .i64) fun t53_0 =>
    Ld h8 (x3.add 1) (Sl.v) fun t53_1 =>
    Ld h8 (x3.add 2) (Sl.v) fun t53_2 =>
    Ld h8 (x3.add 3) (Sl.v) fun t53_3 =>
    Ld h8 (x3.add 4) (Value.int .i64) fun t53_4 =>
    Ld h8 (x3.add 5) (Value.int .i64) fun t53_5 =>
    Ld h8 (x3.add 6) (Value.int .i64) fun t53_6 =>
    Ld h8 (x3.add 7) (Value.bool) fun t53_7 =>
    Fn11 t53_0 t53_1 t53_2 t53_3 t53_4 t53_5 t53_6 t53_7 h8 (fun t54_0 t54_1 t54_2 t54_3 t54_4 t54_5 h9 =>
      Keep h8 h9 a10 6 <|
      Fn12 t52_0 t52_1 t52_2 t52_3 t52_4 t52_5 t54_0 t54_1 t54_2 t54_3 t54_4 t54_5 h9 (fun t55 h10 =>
        If (!t55) (
          K false h10) (
          Ld h10 x9 (Value.int .i64) fun t58_0 =>
          Ld h10 (x9.add 1) (Value.int .i64) fun t58_1 =>
          Ld h10 (x9.add 2) (Value.bool) fun t58_2 =>
          Ld h10 (x9.add 3) (Sl.v) fun t58_3 =>
          Ld h10 (x9.add 4) (Sl.v) fun t58_4 =>
          Ld h10 (x9.add 5) (Sl.v) fun t58_5 =>
          Ld h10 x5 (Value.int .i64) fun t59_0 =>
          Ld h10 (x5.add 1) (Value.int .i64) fun t59_1 =>
          Ld h10 (x5.add 2) (Value.bool) fun t59_2 =>
          Ld h10 (x5.add 3) (Sl.v) fun t59_3 =>
          Ld h10 (x5.add 4) (Sl.v) fun t59_4 =>
          Ld h10 (x5.add 5) (Sl.v) fun t59_5 =>
          Fn12 t58_0 t58_1 t58_2 t58_3 t58_4 t58_5 t59_0 t59_1 t59_2 t59_3 t59_4 t59_5 h10 (fun t60 h11 =>
            If (!t60) (
              K false h11) (
              J5_3 x2 x5 x6 x9 K Kp h11)) Kp)) Kp) Kp) Kp

def J5_2 (x2 : Addr) (x3 : Addr) (x5 : Addr) (x6 : Addr) (x9 : Addr) (K : Bool → Hp → Prop) (Kp : List PanicEntry → Hp → Prop) (h : Hp) : Prop :=
  sem Tryd.prog ann5 (DrawSem Tryd.prog ord5) none (sub [1, 1, 1, 1, 1, 1, 1, 1, 1] code5) (ctxQ Tryd.prog ann5 (DrawSem Tryd.prog ord5) none Kp [1, 1, 1, 1, 1, 1, 1, 1, 1] code5 [] (q5 K)) Kp ([none, none, some (.pointer (some x2)), some (.pointer (some x3)), none, some (.pointer (some x5)), some (.pointer (some x6)), none, none, some (.pointer (some x9)), none, none, none, none, none, none, none, none, none, none, none, none, none, none, none, none, none, none, none, none, none, none, none, none, none, none, none, none, none, none, none, none, none, none, none, none, none, none, none, none, none, none, none, none, none, none, none, none, none, none, none, none, none, none, none, none, none, none, none, none, none, none, none, none, none, none, none, none, none, none, none, none, none, none, none, none, none, none, none, none, none, none, none, none, none, none, none, none]) h

theorem J5_2.of {x2 : Addr} {x3 : Addr} {x5 : Addr} {x6 : Addr} {x9 : Addr} {K : Bool → Hp → Prop} {Kp : List PanicEntry → Hp → Prop} {h : Hp} (H : JT5_2 x2 x3 x5 x6 x9 K Kp h) : J5_2 x2 x3 x5 x6 x9 K Kp h :=
  Eq.mp (by kernel_rfl) H

def JT5_1 (x2 : Addr) (x3 : Addr) (x5 : Addr) (x6 : Addr) (x7 : Addr) (x8 : Addr) (x9 : Addr) (K : Bool → Hp → Prop) (Kp : List PanicEntry → Hp → Prop) (h : Hp) : Prop :=
  Ld h x8 (Value.int .i64) fun t38_0 =>
  Ld h (x8.add 1) (Value.int .i64) fun t38_1 =>
  Ld h (x8.add 2) (Value.bool) fun t38_2 =>
  Ld h (x8.add 3) (Sl.v) fun t38_3 =>
  Ld h (x8.add 4) (Sl.v) fun t38_4 =>
  Ld h (x8.add 5) (Sl.v) fun t38_5 =>
  Fn15 t38_0 t38_1 t38_2 t38_3 t38_4 t38_5 (81 : Int) h (fun h1 =>
    Ld h1 x9 (Value.int .i64) fun t40_0 =>
    Ld h1 (x9.add 1) (Value.int .i64) fun t40_1 =>
    Ld h1 (x9.add 2) (Value.bool) fun t40_2 =>
    Ld h1 (x9.add 3) (Sl.v) fun t40_3 =>
    Ld h1 (x9.add 4) (Sl.v) fun t40_4 =>
    Ld h1 (x9.add 5) (Sl.v) fun t40_5 =>
    Ld h1 x5 (Value.int .i64) fun t41_0 =>
    Ld h1 (x5.add 1) (Value.int .i64) fun t41_1 =>
    Ld h1 (x5.add 2) (Value.bool) fun t41_2 =>
    Ld h1 (x5.add 3) (Sl.v) fun t41_3 =>
    Ld h1 (x5.add 4) (Sl.v) fun t41_4 =>
    Ld h1 (x5.add 5) (Sl.v) fun t41_5 =>
    Fn12 t40_0 t40_1 t40_2 t40_3 t40_4 t40_5 t41_0 t41_1 t41_2 t41_3 t41_4 t41_5 h1 (fun t42 h2 =>
      If (!t42) (
        K false h2) (
        Ld h2 x6 (Sl.v) fun t45_0 =>
        Ld h2 (x6.add 1) (Sl.v) fun t45_1 =>
        Ld h2 (x6.add 2) (Sl.v) fun t45_2 =>
        Ld h2 x7 (Sl.v) fun t46_0 =>
        Ld h2 (x7.add 1) (Sl.v) fun t46_1 =>
        Ld h2 (x7.add 2) (Sl.v) fun t46_2 =>
        Fn16 t45_0 t45_1 t45_2 t46_0 t46_1 t46_2 h2 (fun t47 h3 =>
          If (!t47) (
            K false h3) (
            J5_2 x2 x3 x5 x6 x9 K Kp h3)) Kp)) Kp) Kp

def J5_1 (x2 : Addr) (x3 : Addr) (x5 : Addr) (x6 : Addr) (x7 : Addr) (x8 : Addr) (x9 : Addr) (K : Bool → Hp → Prop) (Kp : List PanicEntry → Hp → Prop) (h : Hp) : Prop :=
  sem Tryd.prog ann5 (DrawSem Tryd.prog ord5) none (sub [1, 1, 1, 1, 1, 1, 1] code5) (ctxQ Tryd.prog ann5 (DrawSem Tryd.prog ord5) none Kp [1, 1, 1, 1, 1, 1, 1] code5 [] (q5 K)) Kp ([none, none, some (.pointer (some x2)), some (.pointer (some x3)), none, some (.pointer (some x5)), some (.pointer (some x6)), some (.pointer (some x7)), some (.pointer (some x8)), some (.pointer (some x9)), none, none, none, none, none, none, none, none, none, none, none, none, none, none, none, none, none, none, none, none, none, none, none, none, none, none, none, none, none, none, none, none, none, none, none, none, none, none, none, none, none, none, none, none, none, none, none, none, none, none, none, none, none, none, none, none, none, none, none, none, none, none, none, none, none, none, none, none, none, none, none, none, none, none, none, none, none, none, none, none, none, none, none, none, none, none, none, none]) h

theorem J5_1.of {x2 : Addr} {x3 : Addr} {x5 : Addr} {x6 : Addr} {x7 : Addr} {x8 : Addr} {x9 : Addr} {K : Bool → Hp → Prop} {Kp : List PanicEntry → Hp → Prop} {h : Hp} (H : JT5_1 x2 x3 x5 x6 x7 x8 x9 K Kp h) : J5_1 x2 x3 x5 x6 x7 x8 x9 K Kp h :=
  Eq.mp (by kernel_rfl) H

def S5 (o_0 : Int) (o_1 : Sl) (o_2 : Sl) (o_3 : Sl) (o_4 : Int) (o_5 : Int) (o_6 : Int) (o_7 : Bool) (p_0 : Int) (p_1 : Sl) (p_2 : Sl) (p_3 : Sl) (p_4 : Int) (p_5 : Int) (p_6 : Int) (p_7 : Bool) (h : Hp) (K : Bool → Hp → Prop) (Kp : List PanicEntry → Hp → Prop) : Prop :=
  New h #[(.int .i64 o_0), (Sl.v o_1), (Sl.v o_2), (Sl.v o_3), (.int .i64 o_4), (.int .i64 o_5), (.int .i64 o_6), (.bool o_7)] 42 fun a2 h1 =>
  New h1 #[(.int .i64 p_0), (Sl.v p_1), (Sl.v p_2), (Sl.v p_3), (.int .i64 p_4), (.int .i64 p_5), (.int .i64 p_6), (.bool p_7)] 42 fun a3 h2 =>
  Ld h2 a2 (Value.int .i64) fun t14_0 =>
  Ld h2 (a2.add 1) (Sl.v) fun t14_1 =>
  Ld h2 (a2.add 2) (Sl.v) fun t14_2 =>
  Ld h2 (a2.add 3) (Sl.v) fun t14_3 =>
  Ld h2 (a2.add 4) (Value.int .i64) fun t14_4 =>
  Ld h2 (a2.add 5) (Value.int .i64) fun t14_5 =>
  Ld h2 (a2.add 6) (Value.int .i64) fun t14_6 =>
  Ld h2 (a2.add 7) (Value.bool) fun t14_7 =>
  Fn11 t14_0 t14_1 t14_2 t14_3 t14_4 t14_5 t14_6 t14_7 h2 (fun t15_0 t15_1 t15_2 t15_3 t15_4 t15_5 h3 =>
    New h3 #[(.int .i64 (0 : Int)), (.int .i64 (0 : Int)), (.bool false), (.slice none 0 0), (.slice none 0 0), (.slice none 0 0)] 39 fun a5 h4 =>
    St h4 a5 (.int .i64 t15_0) fun h5 =>
    St h5 (a5.add 1) (.int .i64 t15_1) fun h6 =>
    St h6 (a5.add 2) (.bool t15_2) fun h7 =>
    St h7 (a5.add 3) (Sl.v t15_3) fun h8 =>
    St h8 (a5.add 4) (Sl.v t15_4) fun h9 =>
    St h9 (a5.add 5) (Sl.v t15_5) fun h10 =>
    Ld h10 a2 (Value.int .i64) fun t16_0 =>
    Ld h10 (a2.add 1) (Sl.v) fun t16_1 =>
    Ld h10 (a2.add 2) (Sl.v) fun t16_2 =>
    Ld h10 (a2.add 3) (Sl.v) fun t16_3 =>
    Ld h10 (a2.add 4) (Value.int .i64) fun t16_4 =>
    Ld h10 (a2.add 5) (Value.int .i64) fun t16_5 =>
    Ld h10 (a2.add 6) (Value.int .i64) fun t16_6 =>
    Ld h10 (a2.add 7) (Value.bool) fun t16_7 =>
    Fn13 t16_0 t16_1 t16_2 t16_3 t16_4 t16_5 t16_6 t16_7 h10 (fun t17_0 t17_1 t17_2 h11 =>
      New h11 #[(.slice none 0 0), (.slice none 0 0), (.slice none 0 0)] 46 fun a6 h12 =>
      St h12 a6 (Sl.v t17_0) fun h13 =>
      St h13 (a6.add 1) (Sl.v t17_1) fun h14 =>
      St h14 (a6.add 2) (Sl.v t17_2) fun h15 =>
      Ld h15 a2 (Value.int .i64) fun t18_0 =>
      Ld h15 (a2.add 1) (Sl.v) fun t18_1 =>
      Ld h15 (a2.add 2) (Sl.v) fun t18_2 =>
      Ld h15 (a2.add 3) (Sl.v) fun t18_3 =>
      Ld h15 (a2.add 4) (Value.int .i64) fun t18_4 =>
      Ld h15 (a2.add 5) (Value.int .i64) fun t18_5 =>
      Ld h15 (a2.add 6) (Value.int .i64) fun t18_6 =>
      Ld h15 (a2.add 7) (Value.bool) fun t18_7 =>
      Fn13 t18_0 t18_1 t18_2 t18_3 t18_4 t18_5 t18_6 t18_7 h15 (fun t19_0 t19_1 t19_2 h16 =>
        New h16 #[(.slice none 0 0), (.slice none 0 0), (.slice none 0 0)] 46 fun a7 h17 =>
        St h17 a7 (Sl.v t19_0) fun h18 =>
        St h18 (a7.add 1) (Sl.v t19_1) fun h19 =>
        St h19 (a7.add 2) (Sl.v t19_2) fun h20 =>
        Ld h20 a6 (Sl.v) fun t20_0 =>
        Ld h20 (a6.add 1) (Sl.v) fun t20_1 =>
        Ld h20 (a6.add 2) (Sl.v) fun t20_2 =>
        Ld h20 a2 (Value.int .i64) fun t21_0 =>
        Ld h20 (a2.add 1) (Sl.v) fun t21_1 =>
        Ld h20 (a2.add 2) (Sl.v) fun t21_2 =>
        Ld h20 (a2.add 3) (Sl.v) fun t21_3 =>
        Ld h20 (a2.add 4) (Value.int .i64) fun t21_4 =>
        Ld h20 (a2.add 5) (Value.int .i64) fun t21_5 =>
        Ld h20 (a2.add 6) (Value.int .i64) fun t21_6 =>
        Ld h20 (a2.add 7) (Value.bool) fun t21_7 =>
        Fn14 t20_0 t20_1 t20_2 t21_0 t21_1 t21_2 t21_3 t21_4 t21_5 t21_6 t21_7 h20 (fun t22_0 t22_1 t22_2 t22_3 t22_4 t22_5 t22_6 t22_7 h21 =>
          Fn10 t22_0 t22_1 t22_2 t22_3 t22_4 t22_5 t22_6 t22_7 h21 (fun t23_0 t23_1 t23_2 t23_3 t23_4 t23_5 h22 =>
            New h22 #[(.int .i64 (0 : Int)), (.int .i64 (0 : Int)), (.bool false), (.slice none 0 0), (.slice none 0 0), (.slice none 0 0)] 39 fun a8 h23 =>
            St h23 a8 (.int .i64 t23_0) fun h24 =>
            St h24 (a8.add 1) (.int .i64 t23_1) fun h25 =>
            St h25 (a8.add 2) (.bool t23_2) fun h26 =>
            St h26 (a8.add 3) (Sl.v t23_3) fun h27 =>
            St h27 (a8.add 4) (Sl.v t23_4) fun h28 =>
            St h28 (a8.add 5) (Sl.v t23_5) fun h29 =>
            Ld h29 a6 (Sl.v) fun t24_0 =>
            Ld h29 (a6.add 1) (Sl.v) fun t24_1 =>
            Ld h29 (a6.add 2) (Sl.v) fun t24_2 =>
            Ld h29 a2 (Value.int .i64) fun t25_0 =>
            Ld h29 (a2.add 1) (Sl.v) fun t25_1 =>
            Ld h29 (a2.add 2) (Sl.v) fun t25_2 =>
            Ld h29 (a2.add 3) (Sl.v) fun t25_3 =>
            Ld h29 (a2.add 4) (Value.int .i64) fun t25_4 =>
            Ld h29 (a2.add 5) (Value.int .i64) fun t25_5 =>
            Ld h29 (a2.add 6) (Value.int .i64) fun t25_6 =>
            Ld h29 (a2.add 7) (Value.bool) fun t25_7 =>
            Fn14 t24_0 t24_1 t24_2 t25_0 t25_1 t25_2 t25_3 t25_4 t25_5 t25_6 t25_7 h29 (fun t26_0 t26_1 t26_2 t26_3 t26_4 t26_5 t26_6 t26_7 h30 =>
              Fn10 t26_0 t26_1 t26_2 t26_3 t26_4 t26_5 t26_6 t26_7 h30 (fun t27_0 t27_1 t27_2 t27_3 t27_4 t27_5 h31 =>
                New h31 #[(.int .i64 (0 : Int)), (.int .i64 (0 : Int)), (.bool false), (.slice none 0 0), (.slice none 0 0), (.slice none 0 0)] 39 fun a9 h32 =>
                St h32 a9 (.int .i64 t27_0) fun h33 =>
                St h33 (a9.add 1) (.int .i64 t27_1) fun h34 =>
                St h34 (a9.add 2) (.bool t27_2) fun h35 =>
                St h35 (a9.add 3) (Sl.v t27_3) fun h36 =>
                St h36 (a9.add 4) (Sl.v t27_4) fun h37 =>
                St h37 (a9.add 5) (Sl.v t27_5) fun h38 =>
                Ld h38 a8 (Value.int .i64) fun t28_0 =>
                Ld h38 (a8.add 1) (Value.int .i64) fun t28_1 =>
                Ld h38 (a8.add 2) (Value.bool) fun t28_2 =>
                Ld h38 (a8.add 3) (Sl.v) fun t28_3 =>
                Ld h38 (a8.add 4) (Sl.v) fun t28_4 =>
                Ld h38 (a8.add 5) (Sl.v) fun t28_5 =>
                Ld h38 a5 (Value.int .i64) fun t29_0 =>
                Ld h38 (a5.add 1) (Value.int .i64) fun t29_1 =>
                Ld h38 (a5.add 2) (Value.bool) fun t29_2 =>
                Ld h38 (a5.add 3) (Sl.v) fun t29_3 =>
                Ld h38 (a5.add 4) (Sl.v) fun t29_4 =>
                Ld h38 (a5.add 5) (Sl.v) fun t29_5 =>
                Fn12 t28_0 t28_1 t28_2 t28_3 t28_4 t28_5 t29_0 t29_1 t29_2 t29_3 t29_4 t29_5 h38 (fun t30 h39 =>
                  If (!t30) (
                    K false h39) (
                    Ld h39 a9 (Value.int .i64) fun t33_0 =>
                    Ld h39 (a9.add 1) (Value.int .i64) fun t33_1 =>
                    Ld h39 (a9.add 2) (Value.bool) fun t33_2 =>
                    Ld h39 (a9.add 3) (Sl.v) fun t33_3 =>
                    Ld h39 (a9.add 4) (Sl.v) fun t33_4 =>
                    Ld h39 (a9.add 5) (Sl.v) fun t33_5 =>
                    Ld h39 a5 (Value.int .i64) fun t34_0 =>
                    Ld h39 (a5.add 1) (Value.int .i64) fun t34_1 =>
                    Ld h39 (a5.add 2) (Value.bool) fun t34_2 =>
                    Ld h39 (a5.add 3) (Sl.v) fun t34_3 =>
                    Ld h39 (a5.add 4) (Sl.v) fun t34_4 =>
                    Ld h39 (a5.add 5) (Sl.v) fun t34_5 =>
                    Fn12 t33_0 t33_1 t33_2 t33_3 t33_4 t33_5 t34_0 t34_1 t34_2 t34_3 t34_4 t34_5 h39 (fun t35 h40 =>
                      If (!t35) (
                        K false h40) (
                        J5_1 a2 a3 a5 a6 a7 a8 a9 K Kp h40)) Kp)) Kp) Kp) Kp) Kp) Kp) Kp) Kp) Kp

theorem Fn5.of {o_0 : Int} {o_1 : Sl} {o_2 : Sl} {o_3 : Sl} {o_4 : Int} {o_5 : Int} {o_6 : Int} {o_7 : Bool} {p_0 : Int} {p_1 : Sl} {p_2 : Sl} {p_3 : Sl} {p_4 : Int} {p_5 : Int} {p_6 : Int} {p_7 : Bool} {h : Hp} {K : Bool → Hp → Prop} {Kp : List PanicEntry → Hp → Prop} (H : S5 o_0 o_1 o_2 o_3 o_4 o_5 o_6 o_7 p_0 p_1 p_2 p_3 p_4 p_5 p_6 p_7 h K Kp) : Fn5 o_0 o_1 o_2 o_3 o_4 o_5 o_6 o_7 p_0 p_1 p_2 p_3 p_4 p_5 p_6 p_7 h K Kp :=
  Eq.mp (by kernel_rfl) (fn_of (P := Tryd.prog) (ann := ann5) (D := DrawSem Tryd.prog ord5) (drawOk _) (c := code5) (zs := [(.bool false)]) (args := [(.agg #[(.int .i64 o_0), (Sl.v o_1), (Sl.v o_2), (Sl.v o_3), (.int .i64 o_4), (.int .i64 o_5), (.int .i64 o_6), (.bool o_7)]), (.agg #[(.int .i64 p_0), (Sl.v p_1), (Sl.v p_2), (Sl.v p_3), (.int .i64 p_4), (.int .i64 p_5), (.int .i64 p_6), (.bool p_7)])]) (Kv := kv5 K) (Kp := Kp) (h := h) Tryd.func5 (by kernel_rfl) (Eq.mp (by kernel_rfl) H))

/-! ### 6: colonnade/colonnadelaw02.BitsFollow -/

noncomputable def code6 : Code := Tryd.f6.body.getD .skip

def ann6 : Ann := [(7, [3, 4, 5, 6, 7, 8, 9, 11]), (9, [3, 4, 5, 6, 7, 9, 11]), (11, [3, 4, 6, 7, 11])]

def ord6 : List (Nat × List Nat × List Nat) := [(1, [0, 1, 2, 3, 4, 5, 6, 7, 8, 9, 10, 11], [0, 1, 0, 4, 0, 16, 0, 64, 3, 271, 831, 2047])]

def kv6 (K : Bool → Hp → Prop) : Value → Hp → Prop := fun v h => match v with | .bool r0 => (K r0 h) | _ => False

def q6 (K : Bool → Hp → Prop) : Qt := retQ Tryd.prog Tryd.f6.results.toList [(.bool false)] (kv6 K)

def JT6_3 (x3 : Sl) (x4 : Sl) (x6 : Int) (x7 : Sl) (x11 : Sl) (K : Bool → Hp → Prop) (Kp : List PanicEntry → Hp → Prop) (h : Hp) : Prop :=
  Fn18 x11 (0 : Int) x6 h (fun t123_0 t123_1 h1 =>
    If (t123_1 != (0 : Int)) (
      K false h1) (
      Fn12 (0 : Int) (0 : Int) false (⟨none, 0, 0⟩ : Sl) t123_0 (⟨none, 0, 0⟩ : Sl) (0 : Int) (0 : Int) false (⟨none, 0, 0⟩ : Sl) x7 (⟨none, 0, 0⟩ : Sl) h1 (fun t133 h2 =>
        If (!t133) (
          K false h2) (
          Fn24 x7 h2 (fun t138 h3 =>
            Fn12 (0 : Int) (0 : Int) false t138 (⟨none, 0, 0⟩ : Sl) (⟨none, 0, 0⟩ : Sl) (0 : Int) (0 : Int) false x11 (⟨none, 0, 0⟩ : Sl) (⟨none, 0, 0⟩ : Sl) h3 (fun t142 h4 =>
              If (!t142) (
                K false h4) (
                Fn25 x3 x4 h4 (fun t147 h5 =>
                  If t147 (
                    Fn9  h5 (fun t149 h6 =>
                      K t149 h6) Kp) (
                    K false h5)) Kp)) Kp) Kp)) Kp)) Kp

def J6_3 (x3 : Sl) (x4 : Sl) (x6 : Int) (x7 : Sl) (x11 : Sl) (K : Bool → Hp → Prop) (Kp : List PanicEntry → Hp → Prop) (h : Hp) : Prop :=
  sem Tryd.prog ann6 (DrawSem Tryd.prog ord6) none (sub [1, 1, 1, 1, 1, 1, 1, 1] code6) (ctxQ Tryd.prog ann6 (DrawSem Tryd.prog ord6) none Kp [1, 1, 1, 1, 1, 1, 1, 1] code6 [] (q6 K)) Kp ([none, none, none, some (Sl.v x3), some (Sl.v x4), none, some (.int .i64 x6), some (Sl.v x7), none, none, none, some (Sl.v x11), none, none, none, none, none, none, none, none, none, none, none, none, none, none, none, none, none, none, none, none, none, none, none, none, none, none, none, none, none, none, none, none, none, none, none, none, none, none, none, none, none, none, none, none, none, none, none, none, none, none, none, none, none, none, none, none, none, none, none, none, none, none, none, none, none, none, none, none, none, none, none, none, none, none, none, none, none, none, none, none, none, none, none, none, none, none, none, none, none, none, none, none, none, none, none, none, none, none, none, none, none, none, none, none, none, none, none, none, none, none, none, none, none, none, none, none, none, none, none, none, none, none, none, none, none, none, none, none, none, none, none, none, none, none, none, none, none, none, none]) h

theorem J6_3.of {x3 : Sl} {x4 : Sl} {x6 : Int} {x7 : Sl} {x11 : Sl} {K : Bool → Hp → Prop} {Kp : List PanicEntry → Hp → Prop} {h : Hp} (H : JT6_3 x3 x4 x6 x7 x11 K Kp h) : J6_3 x3 x4 x6 x7 x11 K Kp h :=
  Eq.mp (by kernel_rfl) H

def JT6_2 (x3 : Sl) (x4 : Sl) (x5 : Int) (x6 : Int) (x7 : Sl) (x9 : Int) (x11 : Sl) (K : Bool → Hp → Prop) (Kp : List PanicEntry → Hp → Prop) (h : Hp) : Prop :=
  If ((x7.n : Int) != x6) (
    K false h) (
    Fn22 x6 h (fun t108 h1 =>
      If ((x11.n : Int) != t108) (
        K false h1) (
        Fn23 x3 x7 x5 x6 x9 h1 (fun t117 h2 =>
          If (!t117) (
            K false h2) (
            J6_3 x3 x4 x6 x7 x11 K Kp h2)) Kp)) Kp)

def J6_2 (x3 : Sl) (x4 : Sl) (x5 : Int) (x6 : Int) (x7 : Sl) (x9 : Int) (x11 : Sl) (K : Bool → Hp → Prop) (Kp : List PanicEntry → Hp → Prop) (h : Hp) : Prop :=
  sem Tryd.prog ann6 (DrawSem Tryd.prog ord6) none (sub [1, 1, 1, 1, 1, 1, 1] code6) (ctxQ Tryd.prog ann6 (DrawSem Tryd.prog ord6) none Kp [1, 1, 1, 1, 1, 1, 1] code6 [] (q6 K)) Kp ([none, none, none, some (Sl.v x3), some (Sl.v x4), some (.int .i64 x5), some (.int .i64 x6), some (Sl.v x7), none, some (.int .i64 x9), none, some (Sl.v x11), none, none, none, none, none, none, none, none, none, none, none, none, none, none, none, none, none, none, none, none, none, none, none, none, none, none, none, none, none, none, none, none, none, none, none, none, none, none, none, none, none, none, none, none, none, none, none, none, none, none, none, none, none, none, none, none, none, none, none, none, none, none, none, none, none, none, none, none, none, none, none, none, none, none, none, none, none, none, none, none, none, none, none, none, none, none, none, none, none, none, none, none, none, none, none, none, none, none, none, none, none, none, none, none, none, none, none, none, none, none, none, none, none, none, none, none, none, none, none, none, none, none, none, none, none, none, none, none, none, none, none, none, none, none, none, none, none, none, none]) h

theorem J6_2.of {x3 : Sl} {x4 : Sl} {x5 : Int} {x6 : Int} {x7 : Sl} {x9 : Int} {x11 : Sl} {K : Bool → Hp → Prop} {Kp : List PanicEntry → Hp → Prop} {h : Hp} (H : JT6_2 x3 x4 x5 x6 x7 x9 x11 K Kp h) : J6_2 x3 x4 x5 x6 x7 x9 x11 K Kp h :=
  Eq.mp (by kernel_rfl) H

def JT6_1 (x3 : Sl) (x4 : Sl) (x5 : Int) (x6 : Int) (x7 : Sl) (x8 : Int) (x9 : Int) (x11 : Sl) (K : Bool → Hp → Prop) (Kp : List PanicEntry → Hp → Prop) (h : Hp) : Prop :=
  If (x8 != (0 : Int)) (
    If ((x7.n : Int) == (0 : Int)) (
      If (x9 == (0 : Int)) (
        If ((x11.n : Int) == (0 : Int)) (
          Fn21 x3 x5 x6 true h (fun t97 h1 =>
            K (t97 == (-1 : Int)) h1) Kp) (
          K false h)) (
        K false h)) (
      K false h)) (
    J6_2 x3 x4 x5 x6 x7 x9 x11 K Kp h)

def J6_1 (x3 : Sl) (x4 : Sl) (x5 : Int) (x6 : Int) (x7 : Sl) (x8 : Int) (x9 : Int) (x11 : Sl) (K : Bool → Hp → Prop) (Kp : List PanicEntry → Hp → Prop) (h : Hp) : Prop :=
  sem Tryd.prog ann6 (DrawSem Tryd.prog ord6) none (sub [1, 1, 1, 1, 1, 1] code6) (ctxQ Tryd.prog ann6 (DrawSem Tryd.prog ord6) none Kp [1, 1, 1, 1, 1, 1] code6 [] (q6 K)) Kp ([none, none, none, some (Sl.v x3), some (Sl.v x4), some (.int .i64 x5), some (.int .i64 x6), some (Sl.v x7), some (.int .i64 x8), some (.int .i64 x9), none, some (Sl.v x11), none, none, none, none, none, none, none, none, none, none, none, none, none, none, none, none, none, none, none, none, none, none, none, none, none, none, none, none, none, none, none, none, none, none, none, none, none, none, none, none, none, none, none, none, none, none, none, none, none, none, none, none, none, none, none, none, none, none, none, none, none, none, none, none, none, none, none, none, none, none, none, none, none, none, none, none, none, none, none, none, none, none, none, none, none, none, none, none, none, none, none, none, none, none, none, none, none, none, none, none, none, none, none, none, none, none, none, none, none, none, none, none, none, none, none, none, none, none, none, none, none, none, none, none, none, none, none, none, none, none, none, none, none, none, none, none, none, none, none]) h

theorem J6_1.of {x3 : Sl} {x4 : Sl} {x5 : Int} {x6 : Int} {x7 : Sl} {x8 : Int} {x9 : Int} {x11 : Sl} {K : Bool → Hp → Prop} {Kp : List PanicEntry → Hp → Prop} {h : Hp} (H : JT6_1 x3 x4 x5 x6 x7 x8 x9 x11 K Kp h) : J6_1 x3 x4 x5 x6 x7 x8 x9 x11 K Kp h :=
  Eq.mp (by kernel_rfl) H

def S6 (p_0 : Sl) (p_1 : Sl) (p_2 : Int) (p_3 : Int) (p_4 : Int) (h : Hp) (K : Bool → Hp → Prop) (Kp : List PanicEntry → Hp → Prop) : Prop :=
  New h #[(Sl.v p_0), (Sl.v p_1), (.int .i64 p_2), (.int .i64 p_3), (.int .i64 p_4)] 24 fun a1 h1 =>
  Ld h1 a1 (Sl.v) fun t16 =>
  Ld h1 (a1.add 1) (Sl.v) fun t18 =>
  Ld h1 (a1.add 2) (Value.int .i64) fun t20 =>
  Ld h1 (a1.add 3) (Value.int .i64) fun t22 =>
  Fn18 t16 t20 t22 h1 (fun t27_0 t27_1 h2 =>
    Fn19 t16 t20 t22 h2 (fun t34_0 t34_1 h3 =>
      Fn20 t16 t20 t22 h3 (fun t41_0 t41_1 h4 =>
        If (t27_1 != t34_1) (
          K false h4) (
          If (t27_1 != t41_1) (
            K false h4) (
            If (decide (t20 ≥ (0 : Int))) (
              If (decide (t22 ≥ (0 : Int))) (
                Wr .i64 ((8 : Int) * (t16.n : Int)) fun t65 =>
                If (decide (t20 ≤ t65)) (
                  Wr .i64 ((8 : Int) * (t16.n : Int)) fun t72 =>
                  Wr .i64 (t72 - t20) fun t74 =>
                  If (!((t27_1 == (0 : Int)) == (decide (t22 ≤ t74)))) (
                    K false h4) (
                    J6_1 t16 t18 t20 t22 t27_0 t27_1 t34_0 t41_0 K Kp h4)) (
                  If (!((t27_1 == (0 : Int)) == false)) (
                    K false h4) (
                    J6_1 t16 t18 t20 t22 t27_0 t27_1 t34_0 t41_0 K Kp h4))) (
                If (!((t27_1 == (0 : Int)) == false)) (
                  K false h4) (
                  J6_1 t16 t18 t20 t22 t27_0 t27_1 t34_0 t41_0 K Kp h4))) (
              If (!((t27_1 == (0 : Int)) == false)) (
                K false h4) (
                J6_1 t16 t18 t20 t22 t27_0 t27_1 t34_0 t41_0 K Kp h4))))) Kp) Kp) Kp

theorem Fn6.of {p_0 : Sl} {p_1 : Sl} {p_2 : Int} {p_3 : Int} {p_4 : Int} {h : Hp} {K : Bool → Hp → Prop} {Kp : List PanicEntry → Hp → Prop} (H : S6 p_0 p_1 p_2 p_3 p_4 h K Kp) : Fn6 p_0 p_1 p_2 p_3 p_4 h K Kp :=
  Eq.mp (by kernel_rfl) (fn_of (P := Tryd.prog) (ann := ann6) (D := DrawSem Tryd.prog ord6) (drawOk _) (c := code6) (zs := [(.bool false)]) (args := [(.agg #[(Sl.v p_0), (Sl.v p_1), (.int .i64 p_2), (.int .i64 p_3), (.int .i64 p_4)])]) (Kv := kv6 K) (Kp := Kp) (h := h) Tryd.func6 (by kernel_rfl) (Eq.mp (by kernel_rfl) H))

end Go.Proofs.YtajgmklgfdgnlaaDoor
