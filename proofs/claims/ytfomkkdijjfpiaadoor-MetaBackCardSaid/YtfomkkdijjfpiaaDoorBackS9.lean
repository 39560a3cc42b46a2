/- What the functions do, printed by program (gen.py) in the words of ShCore; each text is held against the loaded program by the kernel. -/
import Derived.Test.YtfomkkdijjfpiaaDoorF
set_option linter.unusedSimpArgs false
set_option linter.unusedVariables false
set_option maxRecDepth 100000
namespace Go.Proofs.YtfomkkdijjfpiaaDoor
open Go Go.Sh
/- ### 30: head -/

noncomputable def code30 : Code := Tryd.f30.body.getD .skip

def ann30 : Ann := [(2000011, [0, 2, 3]), (2000018, [0, 2, 3]), (2019, [0, 2, 3, 56, 57]), (2014, [0, 2, 3, 40, 41])]

def ord30 : List (Nat × OT × List Nat) := [(22, (OT.l [0, 1, 2, 3, 4, 5, 6, 7, 8, 9, 10] .fin), [0, 1, 0, 0, 0, 16, 60, 124, 255, 511, 1023]), (16, (OT.l [0, 1, 2, 3, 4, 5, 6, 7, 8, 9] .fin), [0, 1, 0, 0, 8, 28, 60, 127, 255, 511])]

def kv30 (K : Int → Sl → Sl → Int → Bool → Int → Int → Sl → Sl → Hp → Prop) : Value → Hp → Prop := fun v h => match v with | .agg cs0 => (match (cs0.toList.getD 0 undef) with | .int _ r0_0 => (match (cs0.toList.getD 1 undef) with | .slice r0_1a r0_1n r0_1c => (let r0_1 : Sl := ⟨r0_1a, r0_1n, r0_1c⟩; match (cs0.toList.getD 2 undef) with | .slice r0_2a r0_2n r0_2c => (let r0_2 : Sl := ⟨r0_2a, r0_2n, r0_2c⟩; match (cs0.toList.getD 3 undef) with | .int _ r0_3 => (match (cs0.toList.getD 4 undef) with | .bool r0_4 => (match (cs0.toList.getD 5 undef) with | .int _ r0_5 => (match (cs0.toList.getD 6 undef) with | .int _ r0_6 => (match (cs0.toList.getD 7 undef) with | .slice r0_7a r0_7n r0_7c => (let r0_7 : Sl := ⟨r0_7a, r0_7n, r0_7c⟩; match (cs0.toList.getD 8 undef) with | .slice r0_8a r0_8n r0_8c => (let r0_8 : Sl := ⟨r0_8a, r0_8n, r0_8c⟩; K r0_0 r0_1 r0_2 r0_3 r0_4 r0_5 r0_6 r0_7 r0_8 h) | _ => False) | _ => False) | _ => False) | _ => False) | _ => False) | _ => False) | _ => False) | _ => False) | _ => False) | _ => False

def q30 (K : Int → Sl → Sl → Int → Bool → Int → Int → Sl → Sl → Hp → Prop) : Qt := retQ Tryd.prog Tryd.f30.results.toList [(.agg #[(.int .i64 (0 : Int)), (.slice none 0 0), (.slice none 0 0), (.int .i64 (0 : Int)), (.bool false), (.int .i64 (0 : Int)), (.int .i64 (0 : Int)), (.slice none 0 0), (.slice none 0 0)])] (kv30 K)

abbrev mk30_3 (x0 : Option Addr) (x2 : Addr) (x3 : Addr) (x56 : Int) (x57 : Int) : Fr := [some (.pointer x0), none, some (.pointer (some x2)), some (.pointer (some x3)), none, none, none, none, none, none, none, none, none, none, none, none, none, none, none, none, none, none, none, none, none, none, none, none, none, none, none, none, none, none, none, none, none, none, none, none, none, none, none, none, none, none, none, none, none, none, none, none, none, none, none, none, some (.int .i64 x56), some (.int .i64 x57), none, none, none, none, none, none, none, none, none, none, none, none, none, none, none, none, none]

def T30_3 (x0 : Option Addr) (x2 : Addr) (x3 : Addr) (x56 : Int) (K : Int → Sl → Sl → Int → Bool → Int → Int → Sl → Sl → Hp → Prop) (Kp : List PanicEntry → Hp → Prop) (N1 : Fr → Hp → Prop) (x57 : Int) (h : Hp) : Prop :=
  If (decide (x57 < x56)) (
    Fn47 x0 (4 : Int) h (fun t60 h1 =>
      Fn47 x0 (4 : Int) h1 (fun t62 h2 =>
        Ld h2 (x3.add 8) (Sl.v) fun t64 =>
        Fn47 x0 (4 : Int) h2 (fun t68 h3 =>
          Keep h2 h3 (x3.add 8) 1 <|
          New h3 #[(.int .i64 t60), (.int .i64 t62), (.int .i64 t68)] 57 fun a70 h4 =>
          Keep h3 h4 (x3.add 8) 1 <|
          Ap h4 57 #[(.int .i64 (0 : Int)), (.int .i64 (0 : Int)), (.int .i64 (0 : Int))] 3 24 t64 1 (rd h4 (some a70) (1 * 3)) fun t71 h5 =>
          St h5 (x3.add 8) (Sl.v t71) fun h6 =>
          Wr .i64 (x57 + (1 : Int)) fun t73 =>
          N1 (mk30_3 x0 x2 x3 x56 t73) h6) Kp) Kp) Kp) (
    Ld h x3 (Value.int .i64) fun t74_0 =>
    Ld h (x3.add 1) (Sl.v) fun t74_1 =>
    Ld h (x3.add 2) (Sl.v) fun t74_2 =>
    Ld h (x3.add 3) (Value.int .i64) fun t74_3 =>
    Ld h (x3.add 4) (Value.bool) fun t74_4 =>
    Ld h (x3.add 5) (Value.int .i64) fun t74_5 =>
    Ld h (x3.add 6) (Value.int .i64) fun t74_6 =>
    Ld h (x3.add 7) (Sl.v) fun t74_7 =>
    Ld h (x3.add 8) (Sl.v) fun t74_8 =>
    St h x2 (.int .i64 t74_0) fun h1 =>
    St h1 (x2.add 1) (Sl.v t74_1) fun h2 =>
    St h2 (x2.add 2) (Sl.v t74_2) fun h3 =>
    St h3 (x2.add 3) (.int .i64 t74_3) fun h4 =>
    St h4 (x2.add 4) (.bool t74_4) fun h5 =>
    St h5 (x2.add 5) (.int .i64 t74_5) fun h6 =>
    St h6 (x2.add 6) (.int .i64 t74_6) fun h7 =>
    St h7 (x2.add 7) (Sl.v t74_7) fun h8 =>
    St h8 (x2.add 8) (Sl.v t74_8) fun h9 =>
    Ld h9 x2 (Value.int .i64) fun r0_0 =>
    Ld h9 (x2.add 1) (Sl.v) fun r0_1 =>
    Ld h9 (x2.add 2) (Sl.v) fun r0_2 =>
    Ld h9 (x2.add 3) (Value.int .i64) fun r0_3 =>
    Ld h9 (x2.add 4) (Value.bool) fun r0_4 =>
    Ld h9 (x2.add 5) (Value.int .i64) fun r0_5 =>
    Ld h9 (x2.add 6) (Value.int .i64) fun r0_6 =>
    Ld h9 (x2.add 7) (Sl.v) fun r0_7 =>
    Ld h9 (x2.add 8) (Sl.v) fun r0_8 =>
    K r0_0 r0_1 r0_2 r0_3 r0_4 r0_5 r0_6 r0_7 r0_8 h9)

def L30_3 (x0 : Option Addr) (x2 : Addr) (x3 : Addr) (x56 : Int) (K : Int → Sl → Sl → Int → Bool → Int → Int → Sl → Sl → Hp → Prop) (Kp : List PanicEntry → Hp → Prop) (x57 : Int) (h : Hp) : Prop :=
  LoopH (fun N fr h => sem Tryd.prog ann30 (DrawSem Tryd.prog ord30) none (sub [1, 1, 1, 1, 1, 1, 1, 1, 1, 1, 0, 1, 0, 0] code30) (thenQ (fun fr' h' => N (Ann.find ann30 2019 fr') h') (ctxQ Tryd.prog ann30 (DrawSem Tryd.prog ord30) none Kp [1, 1, 1, 1, 1, 1, 1, 1, 1, 1, 0, 1, 0] code30 [] (q30 K))) Kp fr h) (mk30_3 x0 x2 x3 x56 x57) h

theorem L30_3.rule {x0 : Option Addr} {x2 : Addr} {x3 : Addr} {x56 : Int} {K : Int → Sl → Sl → Int → Bool → Int → Int → Sl → Sl → Hp → Prop} {Kp : List PanicEntry → Hp → Prop} (I : Int → Hp → Prop) (μ : Int → Hp → Nat) {x57 : Int} {h : Hp} (h0 : I x57 h)
    (step : ∀ (x57 : Int) (h : Hp), I x57 h → ∀ N1 : Fr → Hp → Prop, (∀ (x57' : Int) (h' : Hp), I x57' h' → μ x57' h' < μ x57 h → N1 (mk30_3 x0 x2 x3 x56 x57') h') → T30_3 x0 x2 x3 x56 K Kp N1 x57 h) : L30_3 x0 x2 x3 x56 K Kp x57 h :=
  loop_rule (σ := Int) (fun s => mk30_3 x0 x2 x3 x56 s) (fun N s h => T30_3 x0 x2 x3 x56 K Kp N s h) (fun N s h => by kernel_rfl) (fun s h => I s h) (fun s h => μ s h) (s0 := x57) h0 (fun s h hI N hN => step s h hI N (fun x57' h' hI' hl => hN x57' h' hI' hl))

def JT30_2 (x0 : Option Addr) (x2 : Addr) (x3 : Addr) (K : Int → Sl → Sl → Int → Bool → Int → Int → Sl → Sl → Hp → Prop) (Kp : List PanicEntry → Hp → Prop) (h : Hp) : Prop :=
  Fn47 x0 (2 : Int) h (fun t56 h1 =>
    L30_3 x0 x2 x3 t56 K Kp (0 : Int) h1) Kp

def J30_2 (x0 : Option Addr) (x2 : Addr) (x3 : Addr) (K : Int → Sl → Sl → Int → Bool → Int → Int → Sl → Sl → Hp → Prop) (Kp : List PanicEntry → Hp → Prop) (h : Hp) : Prop :=
  Joint (sem Tryd.prog ann30 (DrawSem Tryd.prog ord30) none (sub [1, 1, 1, 1, 1, 1, 1, 1, 1, 1] code30) (ctxQ Tryd.prog ann30 (DrawSem Tryd.prog ord30) none Kp [1, 1, 1, 1, 1, 1, 1, 1, 1, 1] code30 [] (q30 K)) Kp ([some (.pointer x0), none, some (.pointer (some x2)), some (.pointer (some x3)), none, none, none, none, none, none, none, none, none, none, none, none, none, none, none, none, none, none, none, none, none, none, none, none, none, none, none, none, none, none, none, none, none, none, none, none, none, none, none, none, none, none, none, none, none, none, none, none, none, none, none, none, none, none, none, none, none, none, none, none, none, none, none, none, none, none, none, none, none, none, none]) h)

theorem J30_2.of {x0 : Option Addr} {x2 : Addr} {x3 : Addr} {K : Int → Sl → Sl → Int → Bool → Int → Int → Sl → Sl → Hp → Prop} {Kp : List PanicEntry → Hp → Prop} {h : Hp} (H : JT30_2 x0 x2 x3 K Kp h) : J30_2 x0 x2 x3 K Kp h :=
  Joint.mk (Eq.mp (by kernel_rfl) H)

abbrev mk30_4 (x0 : Option Addr) (x2 : Addr) (x3 : Addr) (x40 : Int) (x41 : Int) : Fr := [some (.pointer x0), none, some (.pointer (some x2)), some (.pointer (some x3)), none, none, none, none, none, none, none, none, none, none, none, none, none, none, none, none, none, none, none, none, none, none, none, none, none, none, none, none, none, none, none, none, none, none, none, none, some (.int .i64 x40), some (.int .i64 x41), none, none, none, none, none, none, none, none, none, none, none, none, none, none, none, none, none, none, none, none, none, none, none, none, none, none, none, none, none, none, none, none, none]

def T30_4 (x0 : Option Addr) (x2 : Addr) (x3 : Addr) (x40 : Int) (K : Int → Sl → Sl → Int → Bool → Int → Int → Sl → Sl → Hp → Prop) (Kp : List PanicEntry → Hp → Prop) (N1 : Fr → Hp → Prop) (x41 : Int) (h : Hp) : Prop :=
  If (decide (x41 < x40)) (
    Fn47 x0 (4 : Int) h (fun t44 h1 =>
      Ld h1 (x3.add 7) (Sl.v) fun t46 =>
      Fn47 x0 (4 : Int) h1 (fun t49 h2 =>
        Keep h1 h2 (x3.add 7) 1 <|
        New h2 #[(.int .i64 t44), (.int .i64 t49)] 55 fun a51 h3 =>
        Keep h2 h3 (x3.add 7) 1 <|
        Ap h3 55 #[(.int .i64 (0 : Int)), (.int .i64 (0 : Int))] 2 16 t46 1 (rd h3 (some a51) (1 * 2)) fun t52 h4 =>
        St h4 (x3.add 7) (Sl.v t52) fun h5 =>
        Wr .i64 (x41 + (1 : Int)) fun t54 =>
        N1 (mk30_4 x0 x2 x3 x40 t54) h5) Kp) Kp) (
    J30_2 x0 x2 x3 K Kp h)

def L30_4 (x0 : Option Addr) (x2 : Addr) (x3 : Addr) (x40 : Int) (K : Int → Sl → Sl → Int → Bool → Int → Int → Sl → Sl → Hp → Prop) (Kp : List PanicEntry → Hp → Prop) (x41 : Int) (h : Hp) : Prop :=
  LoopH (fun N fr h => sem Tryd.prog ann30 (DrawSem Tryd.prog ord30) none (sub [1, 1, 1, 1, 1, 1, 1, 1, 1, 0, 1, 0, 0] code30) (thenQ (fun fr' h' => N (Ann.find ann30 2014 fr') h') (ctxQ Tryd.prog ann30 (DrawSem Tryd.prog ord30) none Kp [1, 1, 1, 1, 1, 1, 1, 1, 1, 0, 1, 0] code30 [] (q30 K))) Kp fr h) (mk30_4 x0 x2 x3 x40 x41) h

theorem L30_4.rule {x0 : Option Addr} {x2 : Addr} {x3 : Addr} {x40 : Int} {K : Int → Sl → Sl → Int → Bool → Int → Int → Sl → Sl → Hp → Prop} {Kp : List PanicEntry → Hp → Prop} (I : Int → Hp → Prop) (μ : Int → Hp → Nat) {x41 : Int} {h : Hp} (h0 : I x41 h)
    (step : ∀ (x41 : Int) (h : Hp), I x41 h → ∀ N1 : Fr → Hp → Prop, (∀ (x41' : Int) (h' : Hp), I x41' h' → μ x41' h' < μ x41 h → N1 (mk30_4 x0 x2 x3 x40 x41') h') → T30_4 x0 x2 x3 x40 K Kp N1 x41 h) : L30_4 x0 x2 x3 x40 K Kp x41 h :=
  loop_rule (σ := Int) (fun s => mk30_4 x0 x2 x3 x40 s) (fun N s h => T30_4 x0 x2 x3 x40 K Kp N s h) (fun N s h => by kernel_rfl) (fun s h => I s h) (fun s h => μ s h) (s0 := x41) h0 (fun s h hI N hN => step s h hI N (fun x41' h' hI' hl => hN x41' h' hI' hl))

def JT30_1 (x0 : Option Addr) (x2 : Addr) (x3 : Addr) (K : Int → Sl → Sl → Int → Bool → Int → Int → Sl → Sl → Hp → Prop) (Kp : List PanicEntry → Hp → Prop) (h : Hp) : Prop :=
  Fn47 x0 (4 : Int) h (fun t34 h1 =>
    St h1 (x3.add 5) (.int .i64 t34) fun h2 =>
    Fn47 x0 (1 : Int) h2 (fun t37 h3 =>
      St h3 (x3.add 6) (.int .i64 t37) fun h4 =>
      Fn47 x0 (2 : Int) h4 (fun t40 h5 =>
        L30_4 x0 x2 x3 t40 K Kp (0 : Int) h5) Kp) Kp) Kp

def J30_1 (x0 : Option Addr) (x2 : Addr) (x3 : Addr) (K : Int → Sl → Sl → Int → Bool → Int → Int → Sl → Sl → Hp → Prop) (Kp : List PanicEntry → Hp → Prop) (h : Hp) : Prop :=
  Joint (sem Tryd.prog ann30 (DrawSem Tryd.prog ord30) none (sub [1, 1, 1, 1, 1, 1, 1] code30) (ctxQ Tryd.prog ann30 (DrawSem Tryd.prog ord30) none Kp [1, 1, 1, 1, 1, 1, 1] code30 [] (q30 K)) Kp ([some (.pointer x0), none, some (.pointer (some x2)), some (.pointer (some x3)), none, none, none, none, none, none, none, none, none, none, none, none, none, none, none, none, none, none, none, none, none, none, none, none, none, none, none, none, none, none, none, none, none, none, none, none, none, none, none, none, none, none, none, none, none, none, none, none, none, none, none, none, none, none, none, none, none, none, none, none, none, none, none, none, none, none, none, none, none, none, none]) h)

theorem J30_1.of {x0 : Option Addr} {x2 : Addr} {x3 : Addr} {K : Int → Sl → Sl → Int → Bool → Int → Int → Sl → Sl → Hp → Prop} {Kp : List PanicEntry → Hp → Prop} {h : Hp} (H : JT30_1 x0 x2 x3 K Kp h) : J30_1 x0 x2 x3 K Kp h :=
  Joint.mk (Eq.mp (by kernel_rfl) H)

def S30 (r : Option Addr) (h : Hp) (K : Int → Sl → Sl → Int → Bool → Int → Int → Sl → Sl → Hp → Prop) (Kp : List PanicEntry → Hp → Prop) : Prop :=
  New h #[(.int .i64 (0 : Int)), (.slice none 0 0), (.slice none 0 0), (.int .i64 (0 : Int)), (.bool false), (.int .i64 (0 : Int)), (.int .i64 (0 : Int)), (.slice none 0 0), (.slice none 0 0)] 29 fun a2 h1 =>
  Fn45 r (1 : Int) (3 : Int) h1 (fun t8 h2 =>
    New h2 #[(.int .i64 (0 : Int)), (.slice none 0 0), (.slice none 0 0), (.int .i64 (0 : Int)), (.bool false), (.int .i64 (0 : Int)), (.int .i64 (0 : Int)), (.slice none 0 0), (.slice none 0 0)] 29 fun a3 h3 =>
    St h3 a3 (.int .i64 t8) fun h4 =>
    St h4 (a3.add 1) (.slice none 0 0) fun h5 =>
    St h5 (a3.add 2) (.slice none 0 0) fun h6 =>
    St h6 (a3.add 3) (.int .i64 (0 : Int)) fun h7 =>
    St h7 (a3.add 4) (.bool false) fun h8 =>
    St h8 (a3.add 5) (.int .i64 (0 : Int)) fun h9 =>
    St h9 (a3.add 6) (.int .i64 (0 : Int)) fun h10 =>
    St h10 (a3.add 7) (.slice none 0 0) fun h11 =>
    St h11 (a3.add 8) (.slice none 0 0) fun h12 =>
    Fn45 r (1 : Int) (1 : Int) h12 (fun t11 h13 =>
      Fn45 r (0 : Int) (0 : Int) h13 (fun t13 h14 =>
        Fn45 r (0 : Int) (0 : Int) h14 (fun t15 h15 =>
          Ld h15 a3 (Value.int .i64) fun t17 =>
          If (t17 == (1 : Int)) (
            Fn46 r h15 (fun t20_0 t20_1 h16 =>
              St h16 (a3.add 1) (Sl.v t20_0) fun h17 =>
              St h17 ((a3.add 1).add 1) (Sl.v t20_1) fun h18 =>
              Ld h18 a3 (Value.int .i64) fun t22_0 =>
              Ld h18 (a3.add 1) (Sl.v) fun t22_1 =>
              Ld h18 (a3.add 2) (Sl.v) fun t22_2 =>
              Ld h18 (a3.add 3) (Value.int .i64) fun t22_3 =>
              Ld h18 (a3.add 4) (Value.bool) fun t22_4 =>
              Ld h18 (a3.add 5) (Value.int .i64) fun t22_5 =>
              Ld h18 (a3.add 6) (Value.int .i64) fun t22_6 =>
              Ld h18 (a3.add 7) (Sl.v) fun t22_7 =>
              Ld h18 (a3.add 8) (Sl.v) fun t22_8 =>
              St h18 a2 (.int .i64 t22_0) fun h19 =>
              St h19 (a2.add 1) (Sl.v t22_1) fun h20 =>
              St h20 (a2.add 2) (Sl.v t22_2) fun h21 =>
              St h21 (a2.add 3) (.int .i64 t22_3) fun h22 =>
              St h22 (a2.add 4) (.bool t22_4) fun h23 =>
              St h23 (a2.add 5) (.int .i64 t22_5) fun h24 =>
              St h24 (a2.add 6) (.int .i64 t22_6) fun h25 =>
              St h25 (a2.add 7) (Sl.v t22_7) fun h26 =>
              St h26 (a2.add 8) (Sl.v t22_8) fun h27 =>
              Ld h27 a2 (Value.int .i64) fun r0_0 =>
              Ld h27 (a2.add 1) (Sl.v) fun r0_1 =>
              Ld h27 (a2.add 2) (Sl.v) fun r0_2 =>
              Ld h27 (a2.add 3) (Value.int .i64) fun r0_3 =>
              Ld h27 (a2.add 4) (Value.bool) fun r0_4 =>
              Ld h27 (a2.add 5) (Value.int .i64) fun r0_5 =>
              Ld h27 (a2.add 6) (Value.int .i64) fun r0_6 =>
              Ld h27 (a2.add 7) (Sl.v) fun r0_7 =>
              Ld h27 (a2.add 8) (Sl.v) fun r0_8 =>
              K r0_0 r0_1 r0_2 r0_3 r0_4 r0_5 r0_6 r0_7 r0_8 h27) Kp) (
            Ld h15 a3 (Value.int .i64) fun t24 =>
            If (t24 == (2 : Int)) (
              Fn47 r (2 : Int) h15 (fun t27 h16 =>
                St h16 (a3.add 3) (.int .i64 t27) fun h17 =>
                Fn45 r (0 : Int) (1 : Int) h17 (fun t30 h18 =>
                  St h18 (a3.add 4) (.bool (t30 == (1 : Int))) fun h19 =>
                  J30_1 r a2 a3 K Kp h19) Kp) Kp) (
              J30_1 r a2 a3 K Kp h15))) Kp) Kp) Kp) Kp

theorem Fn30.of {r : Option Addr} {h : Hp} {K : Int → Sl → Sl → Int → Bool → Int → Int → Sl → Sl → Hp → Prop} {Kp : List PanicEntry → Hp → Prop} (H : S30 r h K Kp) : Fn30 r h K Kp :=
  fn_of2 (P := Tryd.prog) (ann := ann30) (D := DrawSem Tryd.prog ord30) (drawOk _) (c := code30) (zs := [(.agg #[(.int .i64 (0 : Int)), (.slice none 0 0), (.slice none 0 0), (.int .i64 (0 : Int)), (.bool false), (.int .i64 (0 : Int)), (.int .i64 (0 : Int)), (.slice none 0 0), (.slice none 0 0)])]) (args := [(.pointer r)]) (Kv := kv30 K) (Kp := Kp) (h := h) Tryd.func30 (by kernel_rfl) H (by kernel_rfl) (by kernel_rfl)

end Go.Proofs.YtfomkkdijjfpiaaDoor
