/- What the functions do, printed by program (gen.py) in the words of ShCore; each text is held against the loaded program by the kernel. -/
import Derived.Test.YtfomkkdijjfpiaaDoorF
set_option linter.unusedSimpArgs false
set_option linter.unusedVariables false
set_option maxRecDepth 100000
namespace Go.Proofs.YtfomkkdijjfpiaaDoor
open Go Go.Sh
/- ### 8: Put -/

noncomputable def code8 : Code := Tryd.f8.body.getD .skip

def ann8 : Ann := [(2000013, [1, 4]), (2000022, [1, 4]), (2024, [4, 79, 80, 81]), (2017, [1, 4, 58, 59, 60])]

def ord8 : List (Nat × OT × List Nat) := []

def kv8 (K : Sl → Int → Hp → Prop) : Value → Hp → Prop := fun v h => match v with | .tuple us => (let vs := us.toList; match (vs.getD 0 undef) with | .slice r0a r0n r0c => (let r0 : Sl := ⟨r0a, r0n, r0c⟩; match (vs.getD 1 undef) with | .int _ r1 => (K r0 r1 h) | _ => False) | _ => False) | _ => False

def q8 (K : Sl → Int → Hp → Prop) : Qt := retQ Tryd.prog Tryd.f8.results.toList [(.slice none 0 0), (.int .i64 (0 : Int))] (kv8 K)

abbrev mk8_3 (x4 : Addr) (x79 : Sl) (x80 : Int) (x81 : Int) : Fr := [none, none, none, none, some (.pointer (some x4)), none, none, none, none, none, none, none, none, none, none, none, none, none, none, none, none, none, none, none, none, none, none, none, none, none, none, none, none, none, none, none, none, none, none, none, none, none, none, none, none, none, none, none, none, none, none, none, none, none, none, none, none, none, none, none, none, none, none, none, none, none, none, none, none, none, none, none, none, none, none, none, none, none, none, some (Sl.v x79), some (.int .i64 x80), some (.int .i64 x81), none, none, none, none, none, none, none, none, none, none, none, none, none, none, none, none, none, none, none, none]

def T8_3 (x4 : Addr) (x79 : Sl) (x80 : Int) (K : Sl → Int → Hp → Prop) (Kp : List PanicEntry → Hp → Prop) (N1 : Fr → Hp → Prop) (x81 : Int) (h : Hp) : Prop :=
  If (decide (x81 < x80)) (
    Ix x79.a x79.n 3 x81 fun a83 =>
    Ld h a83 (Value.int .i64) fun t84_0 =>
    Ld h (a83.add 1) (Value.int .i64) fun t84_1 =>
    Ld h (a83.add 2) (Value.int .i64) fun t84_2 =>
    New h #[(.int .i64 (0 : Int)), (.int .i64 (0 : Int)), (.int .i64 (0 : Int))] 57 fun a8 h1 =>
    St h1 a8 (.int .i64 t84_0) fun h2 =>
    St h2 (a8.add 1) (.int .i64 t84_1) fun h3 =>
    St h3 (a8.add 2) (.int .i64 t84_2) fun h4 =>
    Ld h4 a8 (Value.int .i64) fun t87 =>
    Fn22 (some x4) t87 (4 : Int) h4 (fun h5 =>
      Ld h5 (a8.add 1) (Value.int .i64) fun t91 =>
      Fn22 (some x4) t91 (4 : Int) h5 (fun h6 =>
        Ld h6 (a8.add 2) (Value.int .i64) fun t95 =>
        Fn22 (some x4) t95 (4 : Int) h6 (fun h7 =>
          Wr .i64 (x81 + (1 : Int)) fun t97 =>
          N1 (mk8_3 x4 x79 x80 t97) h7) Kp) Kp) Kp) (
    Ld h x4 (Sl.v) fun t101 =>
    K t101 (0 : Int) h)

def L8_3 (x4 : Addr) (x79 : Sl) (x80 : Int) (K : Sl → Int → Hp → Prop) (Kp : List PanicEntry → Hp → Prop) (x81 : Int) (h : Hp) : Prop :=
  LoopH (fun N fr h => sem Tryd.prog ann8 (DrawSem Tryd.prog ord8) none (sub [1, 1, 1, 1, 1, 1, 1, 1, 1, 1, 1, 1, 1, 0, 1, 0, 0] code8) (thenQ (fun fr' h' => N (Ann.find ann8 2024 fr') h') (ctxQ Tryd.prog ann8 (DrawSem Tryd.prog ord8) none Kp [1, 1, 1, 1, 1, 1, 1, 1, 1, 1, 1, 1, 1, 0, 1, 0] code8 [] (q8 K))) Kp fr h) (mk8_3 x4 x79 x80 x81) h

theorem L8_3.rule {x4 : Addr} {x79 : Sl} {x80 : Int} {K : Sl → Int → Hp → Prop} {Kp : List PanicEntry → Hp → Prop} (I : Int → Hp → Prop) (μ : Int → Hp → Nat) {x81 : Int} {h : Hp} (h0 : I x81 h)
    (step : ∀ (x81 : Int) (h : Hp), I x81 h → ∀ N1 : Fr → Hp → Prop, (∀ (x81' : Int) (h' : Hp), I x81' h' → μ x81' h' < μ x81 h → N1 (mk8_3 x4 x79 x80 x81') h') → T8_3 x4 x79 x80 K Kp N1 x81 h) : L8_3 x4 x79 x80 K Kp x81 h :=
  loop_rule (σ := Int) (fun s => mk8_3 x4 x79 x80 s) (fun N s h => T8_3 x4 x79 x80 K Kp N s h) (fun N s h => by kernel_rfl) (fun s h => I s h) (fun s h => μ s h) (s0 := x81) h0 (fun s h hI N hN => step s h hI N (fun x81' h' hI' hl => hN x81' h' hI' hl))

def JT8_2 (x1 : Addr) (x4 : Addr) (K : Sl → Int → Hp → Prop) (Kp : List PanicEntry → Hp → Prop) (h : Hp) : Prop :=
  Ld h (x1.add 8) (Sl.v) fun t75 =>
  Fn22 (some x4) (t75.n : Int) (2 : Int) h (fun h1 =>
    Ld h1 (x1.add 8) (Sl.v) fun t79 =>
    L8_3 x4 t79 (t79.n : Int) K Kp (0 : Int) h1) Kp

def J8_2 (x1 : Addr) (x4 : Addr) (K : Sl → Int → Hp → Prop) (Kp : List PanicEntry → Hp → Prop) (h : Hp) : Prop :=
  Joint (sem Tryd.prog ann8 (DrawSem Tryd.prog ord8) none (sub [1, 1, 1, 1, 1, 1, 1, 1, 1, 1, 1, 1] code8) (ctxQ Tryd.prog ann8 (DrawSem Tryd.prog ord8) none Kp [1, 1, 1, 1, 1, 1, 1, 1, 1, 1, 1, 1] code8 [] (q8 K)) Kp ([none, some (.pointer (some x1)), none, none, some (.pointer (some x4)), none, none, none, none, none, none, none, none, none, none, none, none, none, none, none, none, none, none, none, none, none, none, none, none, none, none, none, none, none, none, none, none, none, none, none, none, none, none, none, none, none, none, none, none, none, none, none, none, none, none, none, none, none, none, none, none, none, none, none, none, none, none, none, none, none, none, none, none, none, none, none, none, none, none, none, none, none, none, none, none, none, none, none, none, none, none, none, none, none, none, none, none, none, none, none, none, none]) h)

theorem J8_2.of {x1 : Addr} {x4 : Addr} {K : Sl → Int → Hp → Prop} {Kp : List PanicEntry → Hp → Prop} {h : Hp} (H : JT8_2 x1 x4 K Kp h) : J8_2 x1 x4 K Kp h :=
  Joint.mk (Eq.mp (by kernel_rfl) H)

abbrev mk8_4 (x1 : Addr) (x4 : Addr) (x58 : Sl) (x59 : Int) (x60 : Int) : Fr := [none, some (.pointer (some x1)), none, none, some (.pointer (some x4)), none, none, none, none, none, none, none, none, none, none, none, none, none, none, none, none, none, none, none, none, none, none, none, none, none, none, none, none, none, none, none, none, none, none, none, none, none, none, none, none, none, none, none, none, none, none, none, none, none, none, none, none, none, some (Sl.v x58), some (.int .i64 x59), some (.int .i64 x60), none, none, none, none, none, none, none, none, none, none, none, none, none, none, none, none, none, none, none, none, none, none, none, none, none, none, none, none, none, none, none, none, none, none, none, none, none, none, none, none, none]

def T8_4 (x1 : Addr) (x4 : Addr) (x58 : Sl) (x59 : Int) (K : Sl → Int → Hp → Prop) (Kp : List PanicEntry → Hp → Prop) (N1 : Fr → Hp → Prop) (x60 : Int) (h : Hp) : Prop :=
  If (decide (x60 < x59)) (
    Ix x58.a x58.n 2 x60 fun a62 =>
    Ld h a62 (Value.int .i64) fun t63_0 =>
    Ld h (a62.add 1) (Value.int .i64) fun t63_1 =>
    New h #[(.int .i64 (0 : Int)), (.int .i64 (0 : Int))] 55 fun a6 h1 =>
    St h1 a6 (.int .i64 t63_0) fun h2 =>
    St h2 (a6.add 1) (.int .i64 t63_1) fun h3 =>
    Ld h3 a6 (Value.int .i64) fun t66 =>
    Fn22 (some x4) t66 (4 : Int) h3 (fun h4 =>
      Ld h4 (a6.add 1) (Value.int .i64) fun t70 =>
      Fn22 (some x4) t70 (4 : Int) h4 (fun h5 =>
        Wr .i64 (x60 + (1 : Int)) fun t72 =>
        N1 (mk8_4 x1 x4 x58 x59 t72) h5) Kp) Kp) (
    J8_2 x1 x4 K Kp h)

def L8_4 (x1 : Addr) (x4 : Addr) (x58 : Sl) (x59 : Int) (K : Sl → Int → Hp → Prop) (Kp : List PanicEntry → Hp → Prop) (x60 : Int) (h : Hp) : Prop :=
  LoopH (fun N fr h => sem Tryd.prog ann8 (DrawSem Tryd.prog ord8) none (sub [1, 1, 1, 1, 1, 1, 1, 1, 1, 1, 1, 0, 1, 0, 0] code8) (thenQ (fun fr' h' => N (Ann.find ann8 2017 fr') h') (ctxQ Tryd.prog ann8 (DrawSem Tryd.prog ord8) none Kp [1, 1, 1, 1, 1, 1, 1, 1, 1, 1, 1, 0, 1, 0] code8 [] (q8 K))) Kp fr h) (mk8_4 x1 x4 x58 x59 x60) h

theorem L8_4.rule {x1 : Addr} {x4 : Addr} {x58 : Sl} {x59 : Int} {K : Sl → Int → Hp → Prop} {Kp : List PanicEntry → Hp → Prop} (I : Int → Hp → Prop) (μ : Int → Hp → Nat) {x60 : Int} {h : Hp} (h0 : I x60 h)
    (step : ∀ (x60 : Int) (h : Hp), I x60 h → ∀ N1 : Fr → Hp → Prop, (∀ (x60' : Int) (h' : Hp), I x60' h' → μ x60' h' < μ x60 h → N1 (mk8_4 x1 x4 x58 x59 x60') h') → T8_4 x1 x4 x58 x59 K Kp N1 x60 h) : L8_4 x1 x4 x58 x59 K Kp x60 h :=
  loop_rule (σ := Int) (fun s => mk8_4 x1 x4 x58 x59 s) (fun N s h => T8_4 x1 x4 x58 x59 K Kp N s h) (fun N s h => by kernel_rfl) (fun s h => I s h) (fun s h => μ s h) (s0 := x60) h0 (fun s h hI N hN => step s h hI N (fun x60' h' hI' hl => hN x60' h' hI' hl))

def JT8_1 (x1 : Addr) (x4 : Addr) (K : Sl → Int → Hp → Prop) (Kp : List PanicEntry → Hp → Prop) (h : Hp) : Prop :=
  Ld h (x1.add 5) (Value.int .i64) fun t46 =>
  Fn22 (some x4) t46 (4 : Int) h (fun h1 =>
    Ld h1 (x1.add 6) (Value.int .i64) fun t50 =>
    Fn22 (some x4) t50 (1 : Int) h1 (fun h2 =>
      Ld h2 (x1.add 7) (Sl.v) fun t54 =>
      Fn22 (some x4) (t54.n : Int) (2 : Int) h2 (fun h3 =>
        Ld h3 (x1.add 7) (Sl.v) fun t58 =>
        L8_4 x1 x4 t58 (t58.n : Int) K Kp (0 : Int) h3) Kp) Kp) Kp

def J8_1 (x1 : Addr) (x4 : Addr) (K : Sl → Int → Hp → Prop) (Kp : List PanicEntry → Hp → Prop) (h : Hp) : Prop :=
  Joint (sem Tryd.prog ann8 (DrawSem Tryd.prog ord8) none (sub [1, 1, 1, 1, 1, 1, 1, 1] code8) (ctxQ Tryd.prog ann8 (DrawSem Tryd.prog ord8) none Kp [1, 1, 1, 1, 1, 1, 1, 1] code8 [] (q8 K)) Kp ([none, some (.pointer (some x1)), none, none, some (.pointer (some x4)), none, none, none, none, none, none, none, none, none, none, none, none, none, none, none, none, none, none, none, none, none, none, none, none, none, none, none, none, none, none, none, none, none, none, none, none, none, none, none, none, none, none, none, none, none, none, none, none, none, none, none, none, none, none, none, none, none, none, none, none, none, none, none, none, none, none, none, none, none, none, none, none, none, none, none, none, none, none, none, none, none, none, none, none, none, none, none, none, none, none, none, none, none, none, none, none, none]) h)

theorem J8_1.of {x1 : Addr} {x4 : Addr} {K : Sl → Int → Hp → Prop} {Kp : List PanicEntry → Hp → Prop} {h : Hp} (H : JT8_1 x1 x4 K Kp h) : J8_1 x1 x4 K Kp h :=
  Joint.mk (Eq.mp (by kernel_rfl) H)

def S8 (hv_0 : Int) (hv_1 : Sl) (hv_2 : Sl) (hv_3 : Int) (hv_4 : Bool) (hv_5 : Int) (hv_6 : Int) (hv_7 : Sl) (hv_8 : Sl) (h : Hp) (K : Sl → Int → Hp → Prop) (Kp : List PanicEntry → Hp → Prop) : Prop :=
  New h #[(.int .i64 hv_0), (Sl.v hv_1), (Sl.v hv_2), (.int .i64 hv_3), (.bool hv_4), (.int .i64 hv_5), (.int .i64 hv_6), (Sl.v hv_7), (Sl.v hv_8)] 29 fun a1 h1 =>
  Ld h1 a1 (Value.int .i64) fun t9_0 =>
  Ld h1 (a1.add 1) (Sl.v) fun t9_1 =>
  Ld h1 (a1.add 2) (Sl.v) fun t9_2 =>
  Ld h1 (a1.add 3) (Value.int .i64) fun t9_3 =>
  Ld h1 (a1.add 4) (Value.bool) fun t9_4 =>
  Ld h1 (a1.add 5) (Value.int .i64) fun t9_5 =>
  Ld h1 (a1.add 6) (Value.int .i64) fun t9_6 =>
  Ld h1 (a1.add 7) (Sl.v) fun t9_7 =>
  Ld h1 (a1.add 8) (Sl.v) fun t9_8 =>
  Fn21 t9_0 t9_1 t9_2 t9_3 t9_4 t9_5 t9_6 t9_7 t9_8 h1 (fun t10 h2 =>
    If (!t10) (
      K (⟨none, 0, 0⟩ : Sl) (50 : Int) h2) (
      New h2 #[(.slice none 0 0)] 50 fun a13 h3 =>
      Ld h3 a1 (Value.int .i64) fun t16 =>
      Fn22 (some a13) t16 (1 : Int) h3 (fun h4 =>
        Fn22 (some a13) (1 : Int) (1 : Int) h4 (fun h5 =>
          Fn22 (some a13) (0 : Int) (2 : Int) h5 (fun h6 =>
            Ld h6 a1 (Value.int .i64) fun t23 =>
            If (t23 == (1 : Int)) (
              Ld h6 (a1.add 1) (Sl.v) fun t27_0 =>
              Ld h6 ((a1.add 1).add 1) (Sl.v) fun t27_1 =>
              Fn23 (some a13) t27_0 t27_1 h6 (fun h7 =>
                Ld h7 a13 (Sl.v) fun t32 =>
                K t32 (0 : Int) h7) Kp) (
              Ld h6 a1 (Value.int .i64) fun t34 =>
              If (t34 == (2 : Int)) (
                Ld h6 (a1.add 3) (Value.int .i64) fun t38 =>
                Fn22 (some a13) t38 (2 : Int) h6 (fun h7 =>
                  Ld h7 (a1.add 4) (Value.bool) fun t42 =>
                  Fn24 (some a13) t42 h7 (fun h8 =>
                    J8_1 a1 a13 K Kp h8) Kp) Kp) (
                J8_1 a1 a13 K Kp h6))) Kp) Kp) Kp)) Kp

theorem Fn8.of {hv_0 : Int} {hv_1 : Sl} {hv_2 : Sl} {hv_3 : Int} {hv_4 : Bool} {hv_5 : Int} {hv_6 : Int} {hv_7 : Sl} {hv_8 : Sl} {h : Hp} {K : Sl → Int → Hp → Prop} {Kp : List PanicEntry → Hp → Prop} (H : S8 hv_0 hv_1 hv_2 hv_3 hv_4 hv_5 hv_6 hv_7 hv_8 h K Kp) : Fn8 hv_0 hv_1 hv_2 hv_3 hv_4 hv_5 hv_6 hv_7 hv_8 h K Kp :=
  fn_of2 (P := Tryd.prog) (ann := ann8) (D := DrawSem Tryd.prog ord8) (drawOk _) (c := code8) (zs := [(.slice none 0 0), (.int .i64 (0 : Int))]) (args := [(.agg #[(.int .i64 hv_0), (Sl.v hv_1), (Sl.v hv_2), (.int .i64 hv_3), (.bool hv_4), (.int .i64 hv_5), (.int .i64 hv_6), (Sl.v hv_7), (Sl.v hv_8)])]) (Kv := kv8 K) (Kp := Kp) (h := h) Tryd.func8 (by kernel_rfl) H (by kernel_rfl) (by kernel_rfl)

end Go.Proofs.YtfomkkdijjfpiaaDoor
