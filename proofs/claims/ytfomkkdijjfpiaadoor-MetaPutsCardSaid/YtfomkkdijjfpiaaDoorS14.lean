/- What the functions do, printed by program (gen.py) in the words of ShCore; each text is held against the loaded program by the kernel. -/
import Derived.Test.YtfomkkdijjfpiaaDoorF
set_option linter.unusedSimpArgs false
set_option linter.unusedVariables false
set_option maxRecDepth 100000
namespace Go.Proofs.YtfomkkdijjfpiaaDoor
open Go Go.Sh
/-! ### 48: (*colonnade/colonnaderef05.reader).field -/

noncomputable def code48 : Code := Tryd.f48.body.getD .skip

def ann48 : Ann := [(2000008, [0, 1, 4, 5]), (2000029, [0, 1, 4, 5, 7]), (2030, [0, 1, 4, 5, 7, 8])]

def ord48 : List (Nat × OT × List Nat) := []

def kv48 (K : ByteArray → Bool → Int → Int → Int → Int → Sl → Hp → Prop) : Value → Hp → Prop := fun v h => match v with | .agg cs0 => (match (cs0.toList.getD 0 undef) with | .string r0_0 => (match (cs0.toList.getD 1 undef) with | .bool r0_1 => (match (cs0.toList.getD 2 undef) with | .int _ r0_2 => (match (cs0.toList.getD 3 undef) with | .int _ r0_3 => (match (cs0.toList.getD 4 undef) with | .int _ r0_4 => (match (cs0.toList.getD 5 undef) with | .int _ r0_5 => (match (cs0.toList.getD 6 undef) with | .slice r0_6a r0_6n r0_6c => (let r0_6 : Sl := ⟨r0_6a, r0_6n, r0_6c⟩; K r0_0 r0_1 r0_2 r0_3 r0_4 r0_5 r0_6 h) | _ => False) | _ => False) | _ => False) | _ => False) | _ => False) | _ => False) | _ => False) | _ => False

def q48 (K : ByteArray → Bool → Int → Int → Int → Int → Sl → Hp → Prop) : Qt := retQ Tryd.prog Tryd.f48.results.toList [(.agg #[(.string (bs [])), (.bool false), (.int .i64 (0 : Int)), (.int .i64 (0 : Int)), (.int .i64 (0 : Int)), (.int .i64 (0 : Int)), (.slice none 0 0)])] (kv48 K)

abbrev mk48_3 (x0 : Option Addr) (x1 : Int) (x4 : Addr) (x5 : Addr) (x7 : Int) (x8 : Int) : Fr := [some (.pointer x0), some (.int .i64 x1), none, none, some (.pointer (some x4)), some (.pointer (some x5)), none, some (.int .i64 x7), some (.int .i64 x8), none, none, none, none, none, none, none, none, none, none, none, none, none, none, none, none, none, none, none, none, none, none, none, none, none, none, none, none, none, none, none, none, none, none, none, none, none, none, none, none, none, none, none, none, none, none, none, none, none, none, none, none, none, none, none, none, none, none, none, none, none, none, none, none, none, none, none, none, none, none, none, none, none, none, none, none, none, none, none, none, none, none, none, none, none, none, none, none, none, none, none, none, none, none, none, none, none, none, none, none, none]

def T48_3 (x0 : Option Addr) (x1 : Int) (x4 : Addr) (x5 : Addr) (x7 : Int) (K : ByteArray → Bool → Int → Int → Int → Int → Sl → Hp → Prop) (Kp : List PanicEntry → Hp → Prop) (N1 : Fr → Hp → Prop) (x8 : Int) (h : Hp) : Prop :=
  If (decide (x8 < x7)) (
    NN x0 fun p91 =>
    Ld h (p91.add 3) (Value.int .i64) fun t94 =>
    If (t94 != (0 : Int)) (
      Ld h x5 (Value.string) fun t96_0 =>
      Ld h (x5.add 1) (Value.bool) fun t96_1 =>
      Ld h (x5.add 2) (Value.int .i64) fun t96_2 =>
      Ld h (x5.add 3) (Value.int .i64) fun t96_3 =>
      Ld h (x5.add 4) (Value.int .i64) fun t96_4 =>
      Ld h (x5.add 5) (Value.int .i64) fun t96_5 =>
      Ld h (x5.add 6) (Sl.v) fun t96_6 =>
      St h x4 (.string t96_0) fun h1 =>
      St h1 (x4.add 1) (.bool t96_1) fun h2 =>
      St h2 (x4.add 2) (.int .i64 t96_2) fun h3 =>
      St h3 (x4.add 3) (.int .i64 t96_3) fun h4 =>
      St h4 (x4.add 4) (.int .i64 t96_4) fun h5 =>
      St h5 (x4.add 5) (.int .i64 t96_5) fun h6 =>
      St h6 (x4.add 6) (Sl.v t96_6) fun h7 =>
      Ld h7 x4 (Value.string) fun r0_0 =>
      Ld h7 (x4.add 1) (Value.bool) fun r0_1 =>
      Ld h7 (x4.add 2) (Value.int .i64) fun r0_2 =>
      Ld h7 (x4.add 3) (Value.int .i64) fun r0_3 =>
      Ld h7 (x4.add 4) (Value.int .i64) fun r0_4 =>
      Ld h7 (x4.add 5) (Value.int .i64) fun r0_5 =>
      Ld h7 (x4.add 6) (Sl.v) fun r0_6 =>
      K r0_0 r0_1 r0_2 r0_3 r0_4 r0_5 r0_6 h7) (
      Wr .i64 (x1 + (1 : Int)) fun t99 =>
      Fn48 x0 t99 h (fun t100_0 t100_1 t100_2 t100_3 t100_4 t100_5 t100_6 h1 =>
        New h1 #[(.string (bs [])), (.bool false), (.int .i64 (0 : Int)), (.int .i64 (0 : Int)), (.int .i64 (0 : Int)), (.int .i64 (0 : Int)), (.slice none 0 0)] 63 fun a9 h2 =>
        St h2 a9 (.string t100_0) fun h3 =>
        St h3 (a9.add 1) (.bool t100_1) fun h4 =>
        St h4 (a9.add 2) (.int .i64 t100_2) fun h5 =>
        St h5 (a9.add 3) (.int .i64 t100_3) fun h6 =>
        St h6 (a9.add 4) (.int .i64 t100_4) fun h7 =>
        St h7 (a9.add 5) (.int .i64 t100_5) fun h8 =>
        St h8 (a9.add 6) (Sl.v t100_6) fun h9 =>
        Ld h9 ((x5.add 2).add 4) (Sl.v) fun t103 =>
        Ld h9 a9 (Value.string) fun t104_0 =>
        Ld h9 (a9.add 1) (Value.bool) fun t104_1 =>
        Ld h9 (a9.add 2) (Value.int .i64) fun t104_2 =>
        Ld h9 (a9.add 3) (Value.int .i64) fun t104_3 =>
        Ld h9 (a9.add 4) (Value.int .i64) fun t104_4 =>
        Ld h9 (a9.add 5) (Value.int .i64) fun t104_5 =>
        Ld h9 (a9.add 6) (Sl.v) fun t104_6 =>
        New h9 #[(.string t104_0), (.bool t104_1), (.int .i64 t104_2), (.int .i64 t104_3), (.int .i64 t104_4), (.int .i64 t104_5), (Sl.v t104_6)] 63 fun a105 h10 =>
        Ap h10 63 #[(.string (bs [])), (.bool false), (.int .i64 (0 : Int)), (.int .i64 (0 : Int)), (.int .i64 (0 : Int)), (.int .i64 (0 : Int)), (.slice none 0 0)] 7 80 t103 1 (rd h10 (some a105) (1 * 7)) fun t106 h11 =>
        St h11 ((x5.add 2).add 4) (Sl.v t106) fun h12 =>
        Wr .i64 (x8 + (1 : Int)) fun t89 =>
        N1 (mk48_3 x0 x1 x4 x5 x7 t89) h12) Kp)) (
    Ld h x5 (Value.string) fun t109_0 =>
    Ld h (x5.add 1) (Value.bool) fun t109_1 =>
    Ld h (x5.add 2) (Value.int .i64) fun t109_2 =>
    Ld h (x5.add 3) (Value.int .i64) fun t109_3 =>
    Ld h (x5.add 4) (Value.int .i64) fun t109_4 =>
    Ld h (x5.add 5) (Value.int .i64) fun t109_5 =>
    Ld h (x5.add 6) (Sl.v) fun t109_6 =>
    St h x4 (.string t109_0) fun h1 =>
    St h1 (x4.add 1) (.bool t109_1) fun h2 =>
    St h2 (x4.add 2) (.int .i64 t109_2) fun h3 =>
    St h3 (x4.add 3) (.int .i64 t109_3) fun h4 =>
    St h4 (x4.add 4) (.int .i64 t109_4) fun h5 =>
    St h5 (x4.add 5) (.int .i64 t109_5) fun h6 =>
    St h6 (x4.add 6) (Sl.v t109_6) fun h7 =>
    Ld h7 x4 (Value.string) fun r0_0 =>
    Ld h7 (x4.add 1) (Value.bool) fun r0_1 =>
    Ld h7 (x4.add 2) (Value.int .i64) fun r0_2 =>
    Ld h7 (x4.add 3) (Value.int .i64) fun r0_3 =>
    Ld h7 (x4.add 4) (Value.int .i64) fun r0_4 =>
    Ld h7 (x4.add 5) (Value.int .i64) fun r0_5 =>
    Ld h7 (x4.add 6) (Sl.v) fun r0_6 =>
    K r0_0 r0_1 r0_2 r0_3 r0_4 r0_5 r0_6 h7)

def L48_3 (x0 : Option Addr) (x1 : Int) (x4 : Addr) (x5 : Addr) (x7 : Int) (K : ByteArray → Bool → Int → Int → Int → Int → Sl → Hp → Prop) (Kp : List PanicEntry → Hp → Prop) (x8 : Int) (h : Hp) : Prop :=
  LoopH (fun N fr h => sem Tryd.prog ann48 (DrawSem Tryd.prog ord48) none (sub [1, 1, 1, 1, 1, 1, 1, 1, 1, 1, 1, 0, 1, 0, 0] code48) (thenQ (fun fr' h' => N (Ann.find ann48 2030 fr') h') (ctxQ Tryd.prog ann48 (DrawSem Tryd.prog ord48) none Kp [1, 1, 1, 1, 1, 1, 1, 1, 1, 1, 1, 0, 1, 0] code48 [] (q48 K))) Kp fr h) (mk48_3 x0 x1 x4 x5 x7 x8) h

theorem L48_3.rule {x0 : Option Addr} {x1 : Int} {x4 : Addr} {x5 : Addr} {x7 : Int} {K : ByteArray → Bool → Int → Int → Int → Int → Sl → Hp → Prop} {Kp : List PanicEntry → Hp → Prop} (I : Int → Hp → Prop) (μ : Int → Hp → Nat) {x8 : Int} {h : Hp} (h0 : I x8 h)
    (step : ∀ (x8 : Int) (h : Hp), I x8 h → ∀ N1 : Fr → Hp → Prop, (∀ (x8' : Int) (h' : Hp), I x8' h' → μ x8' h' < μ x8 h → N1 (mk48_3 x0 x1 x4 x5 x7 x8') h') → T48_3 x0 x1 x4 x5 x7 K Kp N1 x8 h) : L48_3 x0 x1 x4 x5 x7 K Kp x8 h :=
  loop_rule (σ := Int) (fun s => mk48_3 x0 x1 x4 x5 x7 s) (fun N s h => T48_3 x0 x1 x4 x5 x7 K Kp N s h) (fun N s h => by kernel_rfl) (fun s h => I s h) (fun s h => μ s h) (s0 := x8) h0 (fun s h hI N hN => step s h hI N (fun x8' h' hI' hl => hN x8' h' hI' hl))

def JT48_2 (x0 : Option Addr) (x1 : Int) (x4 : Addr) (x5 : Addr) (x7 : Int) (K : ByteArray → Bool → Int → Int → Int → Int → Sl → Hp → Prop) (Kp : List PanicEntry → Hp → Prop) (h : Hp) : Prop :=
  L48_3 x0 x1 x4 x5 x7 K Kp (0 : Int) h

def J48_2 (x0 : Option Addr) (x1 : Int) (x4 : Addr) (x5 : Addr) (x7 : Int) (K : ByteArray → Bool → Int → Int → Int → Int → Sl → Hp → Prop) (Kp : List PanicEntry → Hp → Prop) (h : Hp) : Prop :=
  Joint (sem Tryd.prog ann48 (DrawSem Tryd.prog ord48) none (sub [1, 1, 1, 1, 1, 1, 1, 1, 1, 1, 1] code48) (ctxQ Tryd.prog ann48 (DrawSem Tryd.prog ord48) none Kp [1, 1, 1, 1, 1, 1, 1, 1, 1, 1, 1] code48 [] (q48 K)) Kp ([some (.pointer x0), some (.int .i64 x1), none, none, some (.pointer (some x4)), some (.pointer (some x5)), none, some (.int .i64 x7), none, none, none, none, none, none, none, none, none, none, none, none, none, none, none, none, none, none, none, none, none, none, none, none, none, none, none, none, none, none, none, none, none, none, none, none, none, none, none, none, none, none, none, none, none, none, none, none, none, none, none, none, none, none, none, none, none, none, none, none, none, none, none, none, none, none, none, none, none, none, none, none, none, none, none, none, none, none, none, none, none, none, none, none, none, none, none, none, none, none, none, none, none, none, none, none, none, none, none, none, none, none]) h)

theorem J48_2.of {x0 : Option Addr} {x1 : Int} {x4 : Addr} {x5 : Addr} {x7 : Int} {K : ByteArray → Bool → Int → Int → Int → Int → Sl → Hp → Prop} {Kp : List PanicEntry → Hp → Prop} {h : Hp} (H : JT48_2 x0 x1 x4 x5 x7 K Kp h) : J48_2 x0 x1 x4 x5 x7 K Kp h :=
  Joint.mk (Eq.mp (by kernel_rfl) H)

def JT48_1 (x0 : Option Addr) (x1 : Int) (x4 : Addr) (x5 : Addr) (K : ByteArray → Bool → Int → Int → Int → Int → Sl → Hp → Prop) (Kp : List PanicEntry → Hp → Prop) (h : Hp) : Prop :=
  Fn49 x0 (1 : Int) h (fun t41 h1 =>
    St h1 x5 (.string t41) fun h2 =>
    Fn31 x0 (0 : Int) (1 : Int) h2 (fun t44 h3 =>
      St h3 (x5.add 1) (.bool (t44 == (1 : Int))) fun h4 =>
      Fn31 x0 (1 : Int) (20 : Int) h4 (fun t49 h5 =>
        St h5 (x5.add 2) (.int .i64 t49) fun h6 =>
        Ld h6 (x5.add 2) (Value.int .i64) fun t54 =>
        If (t54 == (14 : Int)) (
          Fn33 x0 (2 : Int) h6 (fun t58 h7 =>
            St h7 ((x5.add 2).add 1) (.int .i64 t58) fun h8 =>
            J48_2 x0 x1 x4 x5 (0 : Int) K Kp h8) Kp) (
          If (t54 == (16 : Int)) (
            Fn33 x0 (2 : Int) h6 (fun t64 h7 =>
              St h7 ((x5.add 2).add 1) (.int .i64 t64) fun h8 =>
              J48_2 x0 x1 x4 x5 (1 : Int) K Kp h8) Kp) (
            If (t54 == (19 : Int)) (
              Fn33 x0 (2 : Int) h6 (fun t70 h7 =>
                St h7 ((x5.add 2).add 2) (.int .i64 t70) fun h8 =>
                Fn33 x0 (1 : Int) h8 (fun t74 h9 =>
                  St h9 ((x5.add 2).add 3) (.int .i64 t74) fun h10 =>
                  J48_2 x0 x1 x4 x5 (1 : Int) K Kp h10) Kp) Kp) (
              If (t54 == (17 : Int)) (
                If (t54 == (17 : Int)) (
                  Fn33 x0 (1 : Int) h6 (fun t81 h7 =>
                    J48_2 x0 x1 x4 x5 t81 K Kp h7) Kp) (
                  If (t54 == (15 : Int)) (
                    If (t54 == (15 : Int)) (
                      J48_2 x0 x1 x4 x5 (1 : Int) K Kp h6) (
                      J48_2 x0 x1 x4 x5 (0 : Int) K Kp h6)) (
                    If (t54 == (20 : Int)) (
                      J48_2 x0 x1 x4 x5 (1 : Int) K Kp h6) (
                      J48_2 x0 x1 x4 x5 (0 : Int) K Kp h6)))) (
                If (t54 == (18 : Int)) (
                  Fn33 x0 (1 : Int) h6 (fun t81 h7 =>
                    J48_2 x0 x1 x4 x5 t81 K Kp h7) Kp) (
                  If (t54 == (15 : Int)) (
                    If (t54 == (15 : Int)) (
                      J48_2 x0 x1 x4 x5 (1 : Int) K Kp h6) (
                      J48_2 x0 x1 x4 x5 (0 : Int) K Kp h6)) (
                    If (t54 == (20 : Int)) (
                      J48_2 x0 x1 x4 x5 (1 : Int) K Kp h6) (
                      J48_2 x0 x1 x4 x5 (0 : Int) K Kp h6)))))))) Kp) Kp) Kp

def J48_1 (x0 : Option Addr) (x1 : Int) (x4 : Addr) (x5 : Addr) (K : ByteArray → Bool → Int → Int → Int → Int → Sl → Hp → Prop) (Kp : List PanicEntry → Hp → Prop) (h : Hp) : Prop :=
  Joint (sem Tryd.prog ann48 (DrawSem Tryd.prog ord48) none (sub [1, 1, 1, 1, 1] code48) (ctxQ Tryd.prog ann48 (DrawSem Tryd.prog ord48) none Kp [1, 1, 1, 1, 1] code48 [] (q48 K)) Kp ([some (.pointer x0), some (.int .i64 x1), none, none, some (.pointer (some x4)), some (.pointer (some x5)), none, none, none, none, none, none, none, none, none, none, none, none, none, none, none, none, none, none, none, none, none, none, none, none, none, none, none, none, none, none, none, none, none, none, none, none, none, none, none, none, none, none, none, none, none, none, none, none, none, none, none, none, none, none, none, none, none, none, none, none, none, none, none, none, none, none, none, none, none, none, none, none, none, none, none, none, none, none, none, none, none, none, none, none, none, none, none, none, none, none, none, none, none, none, none, none, none, none, none, none, none, none, none, none]) h)

theorem J48_1.of {x0 : Option Addr} {x1 : Int} {x4 : Addr} {x5 : Addr} {K : ByteArray → Bool → Int → Int → Int → Int → Sl → Hp → Prop} {Kp : List PanicEntry → Hp → Prop} {h : Hp} (H : JT48_1 x0 x1 x4 x5 K Kp h) : J48_1 x0 x1 x4 x5 K Kp h :=
  Joint.mk (Eq.mp (by kernel_rfl) H)

def S48 (r : Option Addr) (around : Int) (h : Hp) (K : ByteArray → Bool → Int → Int → Int → Int → Sl → Hp → Prop) (Kp : List PanicEntry → Hp → Prop) : Prop :=
  New h #[(.string (bs [])), (.bool false), (.int .i64 (0 : Int)), (.int .i64 (0 : Int)), (.int .i64 (0 : Int)), (.int .i64 (0 : Int)), (.slice none 0 0)] 63 fun a4 h1 =>
  New h1 #[(.string (bs [])), (.bool false), (.int .i64 (0 : Int)), (.int .i64 (0 : Int)), (.int .i64 (0 : Int)), (.int .i64 (0 : Int)), (.slice none 0 0)] 63 fun a5 h2 =>
  NN r fun p11 =>
  Ld h2 (p11.add 3) (Value.int .i64) fun t14 =>
  If (t14 != (0 : Int)) (
    Ld h2 a5 (Value.string) fun t16_0 =>
    Ld h2 (a5.add 1) (Value.bool) fun t16_1 =>
    Ld h2 (a5.add 2) (Value.int .i64) fun t16_2 =>
    Ld h2 (a5.add 3) (Value.int .i64) fun t16_3 =>
    Ld h2 (a5.add 4) (Value.int .i64) fun t16_4 =>
    Ld h2 (a5.add 5) (Value.int .i64) fun t16_5 =>
    Ld h2 (a5.add 6) (Sl.v) fun t16_6 =>
    St h2 a4 (.string t16_0) fun h3 =>
    St h3 (a4.add 1) (.bool t16_1) fun h4 =>
    St h4 (a4.add 2) (.int .i64 t16_2) fun h5 =>
    St h5 (a4.add 3) (.int .i64 t16_3) fun h6 =>
    St h6 (a4.add 4) (.int .i64 t16_4) fun h7 =>
    St h7 (a4.add 5) (.int .i64 t16_5) fun h8 =>
    St h8 (a4.add 6) (Sl.v t16_6) fun h9 =>
    Ld h9 a4 (Value.string) fun r0_0 =>
    Ld h9 (a4.add 1) (Value.bool) fun r0_1 =>
    Ld h9 (a4.add 2) (Value.int .i64) fun r0_2 =>
    Ld h9 (a4.add 3) (Value.int .i64) fun r0_3 =>
    Ld h9 (a4.add 4) (Value.int .i64) fun r0_4 =>
    Ld h9 (a4.add 5) (Value.int .i64) fun r0_5 =>
    Ld h9 (a4.add 6) (Sl.v) fun r0_6 =>
    K r0_0 r0_1 r0_2 r0_3 r0_4 r0_5 r0_6 h9) (
    NN r fun p18 =>
    Ld h2 (p18.add 2) (Value.int .i64) fun t20 =>
    Wr .i64 (t20 + (1 : Int)) fun t21 =>
    NN r fun p22 =>
    St h2 (p22.add 2) (.int .i64 t21) fun h3 =>
    NN r fun p25 =>
    Ld h3 (p25.add 2) (Value.int .i64) fun t27 =>
    If (decide (t27 > (256 : Int))) (
      NN r fun p35 =>
      Ld h3 (p35.add 1) (Value.int .i64) fun t37 =>
      Fn35 r (50 : Int) t37 h3 (fun h4 =>
        Ld h4 a5 (Value.string) fun t39_0 =>
        Ld h4 (a5.add 1) (Value.bool) fun t39_1 =>
        Ld h4 (a5.add 2) (Value.int .i64) fun t39_2 =>
        Ld h4 (a5.add 3) (Value.int .i64) fun t39_3 =>
        Ld h4 (a5.add 4) (Value.int .i64) fun t39_4 =>
        Ld h4 (a5.add 5) (Value.int .i64) fun t39_5 =>
        Ld h4 (a5.add 6) (Sl.v) fun t39_6 =>
        St h4 a4 (.string t39_0) fun h5 =>
        St h5 (a4.add 1) (.bool t39_1) fun h6 =>
        St h6 (a4.add 2) (.int .i64 t39_2) fun h7 =>
        St h7 (a4.add 3) (.int .i64 t39_3) fun h8 =>
        St h8 (a4.add 4) (.int .i64 t39_4) fun h9 =>
        St h9 (a4.add 5) (.int .i64 t39_5) fun h10 =>
        St h10 (a4.add 6) (Sl.v t39_6) fun h11 =>
        Ld h11 a4 (Value.string) fun r0_0 =>
        Ld h11 (a4.add 1) (Value.bool) fun r0_1 =>
        Ld h11 (a4.add 2) (Value.int .i64) fun r0_2 =>
        Ld h11 (a4.add 3) (Value.int .i64) fun r0_3 =>
        Ld h11 (a4.add 4) (Value.int .i64) fun r0_4 =>
        Ld h11 (a4.add 5) (Value.int .i64) fun r0_5 =>
        Ld h11 (a4.add 6) (Sl.v) fun r0_6 =>
        K r0_0 r0_1 r0_2 r0_3 r0_4 r0_5 r0_6 h11) Kp) (
      If (decide (around ≥ (64 : Int))) (
        NN r fun p35 =>
        Ld h3 (p35.add 1) (Value.int .i64) fun t37 =>
        Fn35 r (50 : Int) t37 h3 (fun h4 =>
          Ld h4 a5 (Value.string) fun t39_0 =>
          Ld h4 (a5.add 1) (Value.bool) fun t39_1 =>
          Ld h4 (a5.add 2) (Value.int .i64) fun t39_2 =>
          Ld h4 (a5.add 3) (Value.int .i64) fun t39_3 =>
          Ld h4 (a5.add 4) (Value.int .i64) fun t39_4 =>
          Ld h4 (a5.add 5) (Value.int .i64) fun t39_5 =>
          Ld h4 (a5.add 6) (Sl.v) fun t39_6 =>
          St h4 a4 (.string t39_0) fun h5 =>
          St h5 (a4.add 1) (.bool t39_1) fun h6 =>
          St h6 (a4.add 2) (.int .i64 t39_2) fun h7 =>
          St h7 (a4.add 3) (.int .i64 t39_3) fun h8 =>
          St h8 (a4.add 4) (.int .i64 t39_4) fun h9 =>
          St h9 (a4.add 5) (.int .i64 t39_5) fun h10 =>
          St h10 (a4.add 6) (Sl.v t39_6) fun h11 =>
          Ld h11 a4 (Value.string) fun r0_0 =>
          Ld h11 (a4.add 1) (Value.bool) fun r0_1 =>
          Ld h11 (a4.add 2) (Value.int .i64) fun r0_2 =>
          Ld h11 (a4.add 3) (Value.int .i64) fun r0_3 =>
          Ld h11 (a4.add 4) (Value.int .i64) fun r0_4 =>
          Ld h11 (a4.add 5) (Value.int .i64) fun r0_5 =>
          Ld h11 (a4.add 6) (Sl.v) fun r0_6 =>
          K r0_0 r0_1 r0_2 r0_3 r0_4 r0_5 r0_6 h11) Kp) (
        J48_1 r around a4 a5 K Kp h3)))

theorem Fn48.of {r : Option Addr} {around : Int} {h : Hp} {K : ByteArray → Bool → Int → Int → Int → Int → Sl → Hp → Prop} {Kp : List PanicEntry → Hp → Prop} (H : S48 r around h K Kp) : Fn48 r around h K Kp :=
  fn_of2 (P := Tryd.prog) (ann := ann48) (D := DrawSem Tryd.prog ord48) (drawOk _) (c := code48) (zs := [(.agg #[(.string (bs [])), (.bool false), (.int .i64 (0 : Int)), (.int .i64 (0 : Int)), (.int .i64 (0 : Int)), (.int .i64 (0 : Int)), (.slice none 0 0)])]) (args := [(.pointer r), (.int .i64 around)]) (Kv := kv48 K) (Kp := Kp) (h := h) Tryd.func48 (by kernel_rfl) H (by kernel_rfl) (by kernel_rfl)

/-! ### 49: (*colonnade/colonnaderef05.reader).text -/

noncomputable def code49 : Code := Tryd.f49.body.getD .skip

def ann49 : Ann := []

def ord49 : List (Nat × OT × List Nat) := []

def kv49 (K : ByteArray → Hp → Prop) : Value → Hp → Prop := fun v h => match v with | .string r0 => (K r0 h) | _ => False

def q49 (K : ByteArray → Hp → Prop) : Qt := retQ Tryd.prog Tryd.f49.results.toList [(.string (bs []))] (kv49 K)

def S49 (r : Option Addr) (width : Int) (h : Hp) (K : ByteArray → Hp → Prop) (Kp : List PanicEntry → Hp → Prop) : Prop :=
  Fn33 r width h (fun t8 h1 =>
    Fn50 r t8 h1 (fun t11 h2 =>
      Bts h2 t11 fun t12 =>
      K t12 h2) Kp) Kp

theorem Fn49.of {r : Option Addr} {width : Int} {h : Hp} {K : ByteArray → Hp → Prop} {Kp : List PanicEntry → Hp → Prop} (H : S49 r width h K Kp) : Fn49 r width h K Kp :=
  fn_of2 (P := Tryd.prog) (ann := ann49) (D := DrawSem Tryd.prog ord49) (drawOk _) (c := code49) (zs := [(.string (bs []))]) (args := [(.pointer r), (.int .i64 width)]) (Kv := kv49 K) (Kp := Kp) (h := h) Tryd.func49 (by kernel_rfl) H (by kernel_rfl) (by kernel_rfl)

/-! ### 50: (*colonnade/colonnaderef05.reader).take -/

noncomputable def code50 : Code := Tryd.f50.body.getD .skip

def ann50 : Ann := [(2000006, [0, 1]), (2000007, [0, 1, 5])]

def ord50 : List (Nat × OT × List Nat) := [(6, (OT.l [0, 1, 2, 3, 4, 5, 6, 7, 8, 9, 10, 11, 12, 13, 14, 15, 16] .fin), [0, 1, 3, 7, 0, 16, 48, 112, 0, 256, 768, 1792, 0, 7936, 16383, 32767, 65535]), (3, (OT.l [0, 1, 2, 3, 4, 5, 6, 7, 8, 9, 10, 11] .fin), [0, 0, 2, 6, 14, 30, 0, 64, 192, 448, 1022, 2047])]

def kv50 (K : Sl → Hp → Prop) : Value → Hp → Prop := fun v h => match v with | .slice r0a r0n r0c => (let r0 : Sl := ⟨r0a, r0n, r0c⟩; K r0 h) | _ => False

def q50 (K : Sl → Hp → Prop) : Qt := retQ Tryd.prog Tryd.f50.results.toList [(.slice none 0 0)] (kv50 K)

def JT50_2 (x0 : Option Addr) (x1 : Int) (x5 : Sl) (K : Sl → Hp → Prop) (Kp : List PanicEntry → Hp → Prop) (h : Hp) : Prop :=
  NN x0 fun p47 =>
  Ld h (p47.add 1) (Value.int .i64) fun t49 =>
  Wr .i64 (t49 + x1) fun t51 =>
  NN x0 fun p52 =>
  St h (p52.add 1) (.int .i64 t51) fun h1 =>
  K x5 h1

def J50_2 (x0 : Option Addr) (x1 : Int) (x5 : Sl) (K : Sl → Hp → Prop) (Kp : List PanicEntry → Hp → Prop) (h : Hp) : Prop :=
  Joint (sem Tryd.prog ann50 (DrawSem Tryd.prog ord50) none (sub [1, 1, 1, 1] code50) (ctxQ Tryd.prog ann50 (DrawSem Tryd.prog ord50) none Kp [1, 1, 1, 1] code50 [] (q50 K)) Kp ([some (.pointer x0), some (.int .i64 x1), none, none, none, some (Sl.v x5), none, none, none, none, none, none, none, none, none, none, none, none, none, none, none, none, none, none, none, none, none, none, none, none, none, none, none, none, none, none, none, none, none, none, none, none, none, none, none, none, none, none, none, none, none, none, none, none, none]) h)

theorem J50_2.of {x0 : Option Addr} {x1 : Int} {x5 : Sl} {K : Sl → Hp → Prop} {Kp : List PanicEntry → Hp → Prop} {h : Hp} (H : JT50_2 x0 x1 x5 K Kp h) : J50_2 x0 x1 x5 K Kp h :=
  Joint.mk (Eq.mp (by kernel_rfl) H)

def JT50_1 (x0 : Option Addr) (x1 : Int) (K : Sl → Hp → Prop) (Kp : List PanicEntry → Hp → Prop) (h : Hp) : Prop :=
  NN x0 fun p31 =>
  Ld h p31 (Sl.v) fun t33 =>
  NN x0 fun p35 =>
  Ld h (p35.add 1) (Value.int .i64) fun t37 =>
  NN x0 fun p39 =>
  Ld h (p39.add 1) (Value.int .i64) fun t41 =>
  Wr .i64 (t41 + x1) fun t43 =>
  Slc t33 1 (some t37) (some t43) none fun t44 =>
  Ap h 5 #[(.int .u8 (0 : Int))] 1 1 (⟨none, 0, 0⟩ : Sl) t44.n (rd h t44.a (t44.n * 1)) fun t45 h1 =>
  J50_2 x0 x1 t45 K Kp h1

def J50_1 (x0 : Option Addr) (x1 : Int) (K : Sl → Hp → Prop) (Kp : List PanicEntry → Hp → Prop) (h : Hp) : Prop :=
  Joint (sem Tryd.prog ann50 (DrawSem Tryd.prog ord50) none (sub [1, 1, 1] code50) (ctxQ Tryd.prog ann50 (DrawSem Tryd.prog ord50) none Kp [1, 1, 1] code50 [] (q50 K)) Kp ([some (.pointer x0), some (.int .i64 x1), none, none, none, none, none, none, none, none, none, none, none, none, none, none, none, none, none, none, none, none, none, none, none, none, none, none, none, none, none, none, none, none, none, none, none, none, none, none, none, none, none, none, none, none, none, none, none, none, none, none, none, none, none]) h)

theorem J50_1.of {x0 : Option Addr} {x1 : Int} {K : Sl → Hp → Prop} {Kp : List PanicEntry → Hp → Prop} {h : Hp} (H : JT50_1 x0 x1 K Kp h) : J50_1 x0 x1 K Kp h :=
  Joint.mk (Eq.mp (by kernel_rfl) H)

def S50 (r : Option Addr) (n : Int) (h : Hp) (K : Sl → Hp → Prop) (Kp : List PanicEntry → Hp → Prop) : Prop :=
  NN r fun p7 =>
  Ld h (p7.add 3) (Value.int .i64) fun t10 =>
  If (t10 != (0 : Int)) (
    K (⟨none, 0, 0⟩ : Sl) h) (
    NN r fun p14 =>
    Ld h p14 (Sl.v) fun t16 =>
    NN r fun p19 =>
    Ld h (p19.add 1) (Value.int .i64) fun t21 =>
    Wr .i64 ((t16.n : Int) - t21) fun t22 =>
    If (decide (n > t22)) (
      NN r fun p26 =>
      Ld h (p26.add 1) (Value.int .i64) fun t28 =>
      Fn35 r (51 : Int) t28 h (fun h1 =>
        K (⟨none, 0, 0⟩ : Sl) h1) Kp) (
      J50_1 r n K Kp h))

theorem Fn50.of {r : Option Addr} {n : Int} {h : Hp} {K : Sl → Hp → Prop} {Kp : List PanicEntry → Hp → Prop} (H : S50 r n h K Kp) : Fn50 r n h K Kp :=
  fn_of2 (P := Tryd.prog) (ann := ann50) (D := DrawSem Tryd.prog ord50) (drawOk _) (c := code50) (zs := [(.slice none 0 0)]) (args := [(.pointer r), (.int .i64 n)]) (Kv := kv50 K) (Kp := Kp) (h := h) Tryd.func50 (by kernel_rfl) H (by kernel_rfl) (by kernel_rfl)

/-! ### 51: colonnade/colonnaderef05.unlike -/

noncomputable def code51 : Code := Tryd.f51.body.getD .skip

def ann51 : Ann := [(2002, [0, 3]), (2005, [0, 3, 4])]

def ord51 : List (Nat × OT × List Nat) := [(7, (OT.l [0, 1, 2, 3, 4, 5, 6, 7, 8, 9, 10] .fin), [0, 0, 3, 7, 15, 0, 0, 96, 224, 480, 1023])]

def kv51 (K : Bool → Hp → Prop) : Value → Hp → Prop := fun v h => match v with | .bool r0 => (K r0 h) | _ => False

def q51 (K : Bool → Hp → Prop) : Qt := retQ Tryd.prog Tryd.f51.results.toList [(.bool false)] (kv51 K)

abbrev mk51_1 (x0 : Sl) (x3 : Int) : Fr := [some (Sl.v x0), none, none, some (.int .i64 x3), none, none, none, none, none, none, none, none, none, none, none, none, none, none, none, none, none, none, none, none, none, none, none]

abbrev mk51_2 (x0 : Sl) (x3 : Int) (x4 : Int) : Fr := [some (Sl.v x0), none, none, some (.int .i64 x3), some (.int .i64 x4), none, none, none, none, none, none, none, none, none, none, none, none, none, none, none, none, none, none, none, none, none, none]

def T51_2 (x0 : Sl) (x3 : Int) (N1 : Fr → Hp → Prop) (K : Bool → Hp → Prop) (Kp : List PanicEntry → Hp → Prop) (N2 : Fr → Hp → Prop) (x4 : Int) (h : Hp) : Prop :=
  If (decide (x4 < x3)) (
    Ix x0.a x0.n 7 x3 fun a18 =>
    Ld h a18 (Value.string) fun t20 =>
    Ix x0.a x0.n 7 x4 fun a23 =>
    Ld h a23 (Value.string) fun t25 =>
    If (t20.toList == t25.toList) (
      K false h) (
      Wr .i64 (x4 + (1 : Int)) fun t15 =>
      N2 (mk51_2 x0 x3 t15) h)) (
    Wr .i64 (x3 + (1 : Int)) fun t10 =>
    N1 (mk51_1 x0 t10) h)

def L51_2 (x0 : Sl) (x3 : Int) (N1 : Fr → Hp → Prop) (K : Bool → Hp → Prop) (Kp : List PanicEntry → Hp → Prop) (x4 : Int) (h : Hp) : Prop :=
  LoopH (fun N fr h => sem Tryd.prog ann51 (DrawSem Tryd.prog ord51) none (sub [1, 0, 1, 0, 0, 1, 0, 0, 1, 0, 0] code51) (thenQ (fun fr' h' => N (Ann.find ann51 2005 fr') h') (ctxQ Tryd.prog ann51 (DrawSem Tryd.prog ord51) none Kp [1, 0, 1, 0, 0, 1, 0, 0, 1, 0] code51 [N1] (q51 K))) Kp fr h) (mk51_2 x0 x3 x4) h

theorem L51_2.rule {x0 : Sl} {x3 : Int} {N1 : Fr → Hp → Prop} {K : Bool → Hp → Prop} {Kp : List PanicEntry → Hp → Prop} (I : Int → Hp → Prop) (μ : Int → Hp → Nat) {x4 : Int} {h : Hp} (h0 : I x4 h)
    (step : ∀ (x4 : Int) (h : Hp), I x4 h → ∀ N2 : Fr → Hp → Prop, (∀ (x4' : Int) (h' : Hp), I x4' h' → μ x4' h' < μ x4 h → N2 (mk51_2 x0 x3 x4') h') → T51_2 x0 x3 N1 K Kp N2 x4 h) : L51_2 x0 x3 N1 K Kp x4 h :=
  loop_rule (σ := Int) (fun s => mk51_2 x0 x3 s) (fun N s h => T51_2 x0 x3 N1 K Kp N s h) (fun N s h => by kernel_rfl) (fun s h => I s h) (fun s h => μ s h) (s0 := x4) h0 (fun s h hI N hN => step s h hI N (fun x4' h' hI' hl => hN x4' h' hI' hl))

def T51_1 (x0 : Sl) (K : Bool → Hp → Prop) (Kp : List PanicEntry → Hp → Prop) (N1 : Fr → Hp → Prop) (x3 : Int) (h : Hp) : Prop :=
  If (decide (x3 < (x0.n : Int))) (
    L51_2 x0 x3 N1 K Kp (0 : Int) h) (
    K true h)

def L51_1 (x0 : Sl) (K : Bool → Hp → Prop) (Kp : List PanicEntry → Hp → Prop) (x3 : Int) (h : Hp) : Prop :=
  LoopH (fun N fr h => sem Tryd.prog ann51 (DrawSem Tryd.prog ord51) none (sub [1, 0, 1, 0, 0] code51) (thenQ (fun fr' h' => N (Ann.find ann51 2002 fr') h') (ctxQ Tryd.prog ann51 (DrawSem Tryd.prog ord51) none Kp [1, 0, 1, 0] code51 [] (q51 K))) Kp fr h) (mk51_1 x0 x3) h

theorem L51_1.rule {x0 : Sl} {K : Bool → Hp → Prop} {Kp : List PanicEntry → Hp → Prop} (I : Int → Hp → Prop) (μ : Int → Hp → Nat) {x3 : Int} {h : Hp} (h0 : I x3 h)
    (step : ∀ (x3 : Int) (h : Hp), I x3 h → ∀ N1 : Fr → Hp → Prop, (∀ (x3' : Int) (h' : Hp), I x3' h' → μ x3' h' < μ x3 h → N1 (mk51_1 x0 x3') h') → T51_1 x0 K Kp N1 x3 h) : L51_1 x0 K Kp x3 h :=
  loop_rule (σ := Int) (fun s => mk51_1 x0 s) (fun N s h => T51_1 x0 K Kp N s h) (fun N s h => by kernel_rfl) (fun s h => I s h) (fun s h => μ s h) (s0 := x3) h0 (fun s h hI N hN => step s h hI N (fun x3' h' hI' hl => hN x3' h' hI' hl))

def S51 (l : Sl) (h : Hp) (K : Bool → Hp → Prop) (Kp : List PanicEntry → Hp → Prop) : Prop :=
  L51_1 l K Kp (0 : Int) h

theorem Fn51.of {l : Sl} {h : Hp} {K : Bool → Hp → Prop} {Kp : List PanicEntry → Hp → Prop} (H : S51 l h K Kp) : Fn51 l h K Kp :=
  fn_of2 (P := Tryd.prog) (ann := ann51) (D := DrawSem Tryd.prog ord51) (drawOk _) (c := code51) (zs := [(.bool false)]) (args := [(Sl.v l)]) (Kv := kv51 K) (Kp := Kp) (h := h) Tryd.func51 (by kernel_rfl) H (by kernel_rfl) (by kernel_rfl)

end Go.Proofs.YtfomkkdijjfpiaaDoor
