/- What the functions do, printed by program (gen.py) in the words of ShCore; each text is held against the loaded program by the kernel. -/
import Derived.Test.YtfomkkdijjfpiaaDoorF
set_option linter.unusedSimpArgs false
set_option linter.unusedVariables false
set_option maxRecDepth 100000
namespace Go.Proofs.YtfomkkdijjfpiaaDoor
open Go Go.Sh
/- ### 51: unlike -/

noncomputable def code51 : Code := Tryd.f51.body.getD .skip

def ann51 : Ann := [(2002, [0, 3]), (2005, [0, 3, 4])]

def ord51 : List (Nat × OT × List Nat) := [(7, (OT.l [0, 1, 2, 3, 4, 5, 6, 7, 8, 9, 10] .fin), [0, 0, 3, 7, 15, 0, 0, 96, 224, 480, 1023])]

def kv51 (K : Bool → Hp → Prop) : Value → Hp → Prop := fun v h => match v with | .bool r0 => (K r0 h) | _ => False

def q51 (K : Bool → Hp → Prop) : Qt := retQ Tryd.prog Tryd.f51.results.toList [(.bool false)] (kv51 K)

abbrev mk51_1 (x0 : Sl) (x3 : Int) : Fr := [some (Sl.v x0), none, none, some (.int .i64 x3), none, none, none, none, none, none, none, none, none, none, none, none, none, none, none, none, none, none, none, none, none, none, none]

abbrev mk51_2 (x0 : Sl) (x3 : Int) (x4 : Int) : Fr := [some (Sl.v x0), none, none, some (.int .i64 x3), some (.int .i64 x4), none, none, none, none, none, none, none, none, none, none, none, none, none, none, none, none, none, none, none, none, none, none]

def T51_2 (x0 : Sl) (x3 : Int) (N1 : Fr → Hp → Prop) (K : Bool → Hp → Prop) (Kp : List PanicEntry → Hp → Prop) (N2 : Fr → Hp → Prop) (x4 : Int) (h : Hp) : Prop :=
  If (decide (x4 < x3)) (
    Ix x0.a x0.n 7 x3 fun a18 =>
    Ld h a18 (Value.string) fun t20 =>
    Ix x0.a x0.n 7 x4 fun a23 =>
    Ld h a23 (Value.string) fun t25 =>
    If (t20.toList == t25.toList) (
      K false h) (
      Wr .i64 (x4 + (1 : Int)) fun t15 =>
      N2 (mk51_2 x0 x3 t15) h)) (
    Wr .i64 (x3 + (1 : Int)) fun t10 =>
    N1 (mk51_1 x0 t10) h)

def L51_2 (x0 : Sl) (x3 : Int) (N1 : Fr → Hp → Prop) (K : Bool → Hp → Prop) (Kp : List PanicEntry → Hp → Prop) (x4 : Int) (h : Hp) : Prop :=
  LoopH (fun N fr h => sem Tryd.prog ann51 (DrawSem Tryd.prog ord51) none (sub [1, 0, 1, 0, 0, 1, 0, 0, 1, 0, 0] code51) (thenQ (fun fr' h' => N (Ann.find ann51 2005 fr') h') (ctxQ Tryd.prog ann51 (DrawSem Tryd.prog ord51) none Kp [1, 0, 1, 0, 0, 1, 0, 0, 1, 0] code51 [N1] (q51 K))) Kp fr h) (mk51_2 x0 x3 x4) h

theorem L51_2.rule {x0 : Sl} {x3 : Int} {N1 : Fr → Hp → Prop} {K : Bool → Hp → Prop} {Kp : List PanicEntry → Hp → Prop} (I : Int → Hp → Prop) (μ : Int → Hp → Nat) {x4 : Int} {h : Hp} (h0 : I x4 h)
    (step : ∀ (x4 : Int) (h : Hp), I x4 h → ∀ N2 : Fr → Hp → Prop, (∀ (x4' : Int) (h' : Hp), I x4' h' → μ x4' h' < μ x4 h → N2 (mk51_2 x0 x3 x4') h') → T51_2 x0 x3 N1 K Kp N2 x4 h) : L51_2 x0 x3 N1 K Kp x4 h :=
  loop_rule (σ := Int) (fun s => mk51_2 x0 x3 s) (fun N s h => T51_2 x0 x3 N1 K Kp N s h) (fun N s h => by kernel_rfl) (fun s h => I s h) (fun s h => μ s h) (s0 := x4) h0 (fun s h hI N hN => step s h hI N (fun x4' h' hI' hl => hN x4' h' hI' hl))

def T51_1 (x0 : Sl) (K : Bool → Hp → Prop) (Kp : List PanicEntry → Hp → Prop) (N1 : Fr → Hp → Prop) (x3 : Int) (h : Hp) : Prop :=
  If (decide (x3 < (x0.n : Int))) (
    L51_2 x0 x3 N1 K Kp (0 : Int) h) (
    K true h)

def L51_1 (x0 : Sl) (K : Bool → Hp → Prop) (Kp : List PanicEntry → Hp → Prop) (x3 : Int) (h : Hp) : Prop :=
  LoopH (fun N fr h => sem Tryd.prog ann51 (DrawSem Tryd.prog ord51) none (sub [1, 0, 1, 0, 0] code51) (thenQ (fun fr' h' => N (Ann.find ann51 2002 fr') h') (ctxQ Tryd.prog ann51 (DrawSem Tryd.prog ord51) none Kp [1, 0, 1, 0] code51 [] (q51 K))) Kp fr h) (mk51_1 x0 x3) h

theorem L51_1.rule {x0 : Sl} {K : Bool → Hp → Prop} {Kp : List PanicEntry → Hp → Prop} (I : Int → Hp → Prop) (μ : Int → Hp → Nat) {x3 : Int} {h : Hp} (h0 : I x3 h)
    (step : ∀ (x3 : Int) (h : Hp), I x3 h → ∀ N1 : Fr → Hp → Prop, (∀ (x3' : Int) (h' : Hp), I x3' h' → μ x3' h' < μ x3 h → N1 (mk51_1 x0 x3') h') → T51_1 x0 K Kp N1 x3 h) : L51_1 x0 K Kp x3 h :=
  loop_rule (σ := Int) (fun s => mk51_1 x0 s) (fun N s h => T51_1 x0 K Kp N s h) (fun N s h => by kernel_rfl) (fun s h => I s h) (fun s h => μ s h) (s0 := x3) h0 (fun s h hI N hN => step s h hI N (fun x3' h' hI' hl => hN x3' h' hI' hl))

def S51 (l : Sl) (h : Hp) (K : Bool → Hp → Prop) (Kp : List PanicEntry → Hp → Prop) : Prop :=
  L51_1 l K Kp (0 : Int) h

theorem Fn51.of {l : Sl} {h : Hp} {K : Bool → Hp → Prop} {Kp : List PanicEntry → Hp → Prop} (H : S51 l h K Kp) : Fn51 l h K Kp :=
  fn_of2 (P := Tryd.prog) (ann := ann51) (D := DrawSem Tryd.prog ord51) (drawOk _) (c := code51) (zs := [(.bool false)]) (args := [(Sl.v l)]) (Kv := kv51 K) (Kp := Kp) (h := h) Tryd.func51 (by kernel_rfl) H (by kernel_rfl) (by kernel_rfl)

/- ### 52: field -/

noncomputable def code52 : Code := Tryd.f52.body.getD .skip

def ann52 : Ann := [(2000005, [0, 2, 3, 5]), (2000029, [0, 2, 3, 10]), (2033, [0, 2, 3, 10, 12]), (2000022, [0, 2, 10]), (2000027, [0, 2, 10]), (2023, [0, 2, 10, 11]), (43009, [0, 2, 3, 5, 31])]

def ord52 : List (Nat × OT × List Nat) := [(17, (OT.l [0, 1, 2, 3, 4, 5, 6, 7, 8, 9, 10] .fin), [0, 1, 3, 7, 3, 19, 51, 115, 243, 511, 1023]), (27, (OT.l [0, 1, 2, 3, 4, 5, 6, 7, 8, 9, 10, 11] .fin), [0, 0, 2, 6, 14, 0, 32, 96, 254, 511, 1023, 2047]), (25, (OT.l [0, 1, 2, 3, 4, 5, 6, 7, 8, 9] .fin), [0, 1, 3, 7, 0, 31, 63, 0, 128, 511])]

def kv52 (K : Bool → Hp → Prop) : Value → Hp → Prop := fun v h => match v with | .bool r0 => (K r0 h) | _ => False

def q52 (K : Bool → Hp → Prop) : Qt := retQ Tryd.prog Tryd.f52.results.toList [(.bool false)] (kv52 K)

abbrev mk52_3 (x0 : Option Addr) (x2 : Int) (x3 : Bool) (x10 : Addr) (x12 : Int) : Fr := [some (.pointer x0), none, some (.int .i64 x2), some (.bool x3), none, none, none, none, none, none, some (.pointer (some x10)), none, some (.int .i64 x12), none, none, none, none, none, none, none, none, none, none, none, none, none, none, none, none, none, none, none, none, none, none, none, none, none, none, none, none, none, none, none, none, none, none, none, none, none, none, none, none, none, none, none, none, none, none, none, none, none, none, none, none, none, none, none, none, none, none, none, none, none, none, none, none, none, none, none, none, none, none, none, none, none, none, none, none, none, none, none, none, none, none, none, none, none, none, none, none, none, none, none, none, none, none, none, none, none, none, none, none, none, none, none, none, none, none, none, none, none, none, none, none, none, none, none, none, none]

def T52_3 (x0 : Option Addr) (x2 : Int) (x3 : Bool) (x10 : Addr) (K : Bool → Hp → Prop) (Kp : List PanicEntry → Hp → Prop) (N1 : Fr → Hp → Prop) (x12 : Int) (h : Hp) : Prop :=
  Ld h (x10.add 4) (Sl.v) fun t113 =>
  If (decide (x12 < (t113.n : Int))) (
    Ld h (x10.add 4) (Sl.v) fun t120 =>
    Ix t120.a t120.n 7 x12 fun a122 =>
    Ld h a122 (Value.string) fun t123_0 =>
    Ld h (a122.add 1) (Value.bool) fun t123_1 =>
    Ld h (a122.add 2) (Value.int .i64) fun t123_2 =>
    Ld h (a122.add 3) (Value.int .i64) fun t123_3 =>
    Ld h (a122.add 4) (Value.int .i64) fun t123_4 =>
    Ld h (a122.add 5) (Value.int .i64) fun t123_5 =>
    Ld h (a122.add 6) (Sl.v) fun t123_6 =>
    Wr .i64 (x2 + (1 : Int)) fun t125 =>
    Fn52 x0 t123_0 t123_1 t123_2 t123_3 t123_4 t123_5 t123_6 t125 x3 h (fun t127 h1 =>
      If (!t127) (
        K false h1) (
        Wr .i64 (x12 + (1 : Int)) fun t117 =>
        N1 (mk52_3 x0 x2 x3 x10 t117) h1)) Kp) (
    K true h)

def L52_3 (x0 : Option Addr) (x2 : Int) (x3 : Bool) (x10 : Addr) (K : Bool → Hp → Prop) (Kp : List PanicEntry → Hp → Prop) (x12 : Int) (h : Hp) : Prop :=
  LoopH (fun N fr h => sem Tryd.prog ann52 (DrawSem Tryd.prog ord52) none (sub [1, 1, 1, 1, 1, 1, 1, 1, 1, 1, 0, 1, 0, 0] code52) (thenQ (fun fr' h' => N (Ann.find ann52 2033 fr') h') (ctxQ Tryd.prog ann52 (DrawSem Tryd.prog ord52) none Kp [1, 1, 1, 1, 1, 1, 1, 1, 1, 1, 0, 1, 0] code52 [] (q52 K))) Kp fr h) (mk52_3 x0 x2 x3 x10 x12) h

theorem L52_3.rule {x0 : Option Addr} {x2 : Int} {x3 : Bool} {x10 : Addr} {K : Bool → Hp → Prop} {Kp : List PanicEntry → Hp → Prop} (I : Int → Hp → Prop) (μ : Int → Hp → Nat) {x12 : Int} {h : Hp} (h0 : I x12 h)
    (step : ∀ (x12 : Int) (h : Hp), I x12 h → ∀ N1 : Fr → Hp → Prop, (∀ (x12' : Int) (h' : Hp), I x12' h' → μ x12' h' < μ x12 h → N1 (mk52_3 x0 x2 x3 x10 x12') h') → T52_3 x0 x2 x3 x10 K Kp N1 x12 h) : L52_3 x0 x2 x3 x10 K Kp x12 h :=
  loop_rule (σ := Int) (fun s => mk52_3 x0 x2 x3 x10 s) (fun N s h => T52_3 x0 x2 x3 x10 K Kp N s h) (fun N s h => by kernel_rfl) (fun s h => I s h) (fun s h => μ s h) (s0 := x12) h0 (fun s h hI N hN => step s h hI N (fun x12' h' hI' hl => hN x12' h' hI' hl))

def JT52_2 (x0 : Option Addr) (x2 : Int) (x3 : Bool) (x10 : Addr) (K : Bool → Hp → Prop) (Kp : List PanicEntry → Hp → Prop) (h : Hp) : Prop :=
  Ld h (x10.add 4) (Sl.v) fun t107 =>
  Fn51 t107 h (fun t108 h1 =>
    If (!t108) (
      K false h1) (
      L52_3 x0 x2 x3 x10 K Kp (0 : Int) h1)) Kp

def J52_2 (x0 : Option Addr) (x2 : Int) (x3 : Bool) (x10 : Addr) (K : Bool → Hp → Prop) (Kp : List PanicEntry → Hp → Prop) (h : Hp) : Prop :=
  Joint (sem Tryd.prog ann52 (DrawSem Tryd.prog ord52) none (sub [1, 1, 1, 1, 1, 1, 1, 1] code52) (ctxQ Tryd.prog ann52 (DrawSem Tryd.prog ord52) none Kp [1, 1, 1, 1, 1, 1, 1, 1] code52 [] (q52 K)) Kp ([some (.pointer x0), none, some (.int .i64 x2), some (.bool x3), none, none, none, none, none, none, some (.pointer (some x10)), none, none, none, none, none, none, none, none, none, none, none, none, none, none, none, none, none, none, none, none, none, none, none, none, none, none, none, none, none, none, none, none, none, none, none, none, none, none, none, none, none, none, none, none, none, none, none, none, none, none, none, none, none, none, none, none, none, none, none, none, none, none, none, none, none, none, none, none, none, none, none, none, none, none, none, none, none, none, none, none, none, none, none, none, none, none, none, none, none, none, none, none, none, none, none, none, none, none, none, none, none, none, none, none, none, none, none, none, none, none, none, none, none, none, none, none, none, none, none]) h)

theorem J52_2.of {x0 : Option Addr} {x2 : Int} {x3 : Bool} {x10 : Addr} {K : Bool → Hp → Prop} {Kp : List PanicEntry → Hp → Prop} {h : Hp} (H : JT52_2 x0 x2 x3 x10 K Kp h) : J52_2 x0 x2 x3 x10 K Kp h :=
  Joint.mk (Eq.mp (by kernel_rfl) H)

def JT52_5 (x0 : Option Addr) (x2 : Int) (x10 : Addr) (K : Bool → Hp → Prop) (Kp : List PanicEntry → Hp → Prop) (h : Hp) : Prop :=
  NN x0 fun p97 =>
  Ld h (p97.add 1) (Sl.v) fun t99 =>
  Ld h (x10.add 2) (Value.int .i64) fun t101 =>
  New h #[(.int .i64 t101)] 3 fun a102 h1 =>
  Keep h h1 (p97.add 1) 1 <|
  Ap h1 3 #[(.int .i64 (0 : Int))] 1 8 t99 1 (rd h1 (some a102) (1 * 1)) fun t103 h2 =>
  NN x0 fun p104 =>
  St h2 (p104.add 1) (Sl.v t103) fun h3 =>
  J52_2 x0 x2 true x10 K Kp h3

def J52_5 (x0 : Option Addr) (x2 : Int) (x10 : Addr) (K : Bool → Hp → Prop) (Kp : List PanicEntry → Hp → Prop) (h : Hp) : Prop :=
  Joint (sem Tryd.prog ann52 (DrawSem Tryd.prog ord52) none (sub [1, 1, 1, 1, 1, 1, 1, 0, 1, 0, 1, 1, 1, 1, 1, 1, 1, 0, 1, 1] code52) (ctxQ Tryd.prog ann52 (DrawSem Tryd.prog ord52) none Kp [1, 1, 1, 1, 1, 1, 1, 0, 1, 0, 1, 1, 1, 1, 1, 1, 1, 0, 1, 1] code52 [] (q52 K)) Kp ([some (.pointer x0), none, some (.int .i64 x2), none, none, none, none, none, none, none, some (.pointer (some x10)), none, none, none, none, none, none, none, none, none, none, none, none, none, none, none, none, none, none, none, none, none, none, none, none, none, none, none, none, none, none, none, none, none, none, none, none, none, none, none, none, none, none, none, none, none, none, none, none, none, none, none, none, none, none, none, none, none, none, none, none, none, none, none, none, none, none, none, none, none, none, none, none, none, none, none, none, none, none, none, none, none, none, none, none, none, none, none, none, none, none, none, none, none, none, none, none, none, none, none, none, none, none, none, none, none, none, none, none, none, none, none, none, none, none, none, none, none, none, none]) h)

theorem J52_5.of {x0 : Option Addr} {x2 : Int} {x10 : Addr} {K : Bool → Hp → Prop} {Kp : List PanicEntry → Hp → Prop} {h : Hp} (H : JT52_5 x0 x2 x10 K Kp h) : J52_5 x0 x2 x10 K Kp h :=
  Joint.mk (Eq.mp (by kernel_rfl) H)

abbrev mk52_6 (x0 : Option Addr) (x2 : Int) (x10 : Addr) (x11 : Int) : Fr := [some (.pointer x0), none, some (.int .i64 x2), none, none, none, none, none, none, none, some (.pointer (some x10)), some (.int .i64 x11), none, none, none, none, none, none, none, none, none, none, none, none, none, none, none, none, none, none, none, none, none, none, none, none, none, none, none, none, none, none, none, none, none, none, none, none, none, none, none, none, none, none, none, none, none, none, none, none, none, none, none, none, none, none, none, none, none, none, none, none, none, none, none, none, none, none, none, none, none, none, none, none, none, none, none, none, none, none, none, none, none, none, none, none, none, none, none, none, none, none, none, none, none, none, none, none, none, none, none, none, none, none, none, none, none, none, none, none, none, none, none, none, none, none, none, none, none, none]

def T52_6 (x0 : Option Addr) (x2 : Int) (x10 : Addr) (K : Bool → Hp → Prop) (Kp : List PanicEntry → Hp → Prop) (N1 : Fr → Hp → Prop) (x11 : Int) (h : Hp) : Prop :=
  NN x0 fun p78 =>
  Ld h (p78.add 1) (Sl.v) fun t80 =>
  If (decide (x11 < (t80.n : Int))) (
    NN x0 fun p86 =>
    Ld h (p86.add 1) (Sl.v) fun t88 =>
    Ix t88.a t88.n 1 x11 fun a90 =>
    Ld h a90 (Value.int .i64) fun t91 =>
    Ld h (x10.add 2) (Value.int .i64) fun t93 =>
    If (t91 == t93) (
      K false h) (
      Wr .i64 (x11 + (1 : Int)) fun t84 =>
      N1 (mk52_6 x0 x2 x10 t84) h)) (
    J52_5 x0 x2 x10 K Kp h)

def L52_6 (x0 : Option Addr) (x2 : Int) (x10 : Addr) (K : Bool → Hp → Prop) (Kp : List PanicEntry → Hp → Prop) (x11 : Int) (h : Hp) : Prop :=
  LoopH (fun N fr h => sem Tryd.prog ann52 (DrawSem Tryd.prog ord52) none (sub [1, 1, 1, 1, 1, 1, 1, 0, 1, 0, 1, 1, 1, 1, 1, 1, 1, 0, 1, 0, 1, 0, 0] code52) (thenQ (fun fr' h' => N (Ann.find ann52 2023 fr') h') (ctxQ Tryd.prog ann52 (DrawSem Tryd.prog ord52) none Kp [1, 1, 1, 1, 1, 1, 1, 0, 1, 0, 1, 1, 1, 1, 1, 1, 1, 0, 1, 0, 1, 0] code52 [] (q52 K))) Kp fr h) (mk52_6 x0 x2 x10 x11) h

theorem L52_6.rule {x0 : Option Addr} {x2 : Int} {x10 : Addr} {K : Bool → Hp → Prop} {Kp : List PanicEntry → Hp → Prop} (I : Int → Hp → Prop) (μ : Int → Hp → Nat) {x11 : Int} {h : Hp} (h0 : I x11 h)
    (step : ∀ (x11 : Int) (h : Hp), I x11 h → ∀ N1 : Fr → Hp → Prop, (∀ (x11' : Int) (h' : Hp), I x11' h' → μ x11' h' < μ x11 h → N1 (mk52_6 x0 x2 x10 x11') h') → T52_6 x0 x2 x10 K Kp N1 x11 h) : L52_6 x0 x2 x10 K Kp x11 h :=
  loop_rule (σ := Int) (fun s => mk52_6 x0 x2 x10 s) (fun N s h => T52_6 x0 x2 x10 K Kp N s h) (fun N s h => by kernel_rfl) (fun s h => I s h) (fun s h => μ s h) (s0 := x11) h0 (fun s h hI N hN => step s h hI N (fun x11' h' hI' hl => hN x11' h' hI' hl))

def JT52_4 (x0 : Option Addr) (x2 : Int) (x10 : Addr) (K : Bool → Hp → Prop) (Kp : List PanicEntry → Hp → Prop) (h : Hp) : Prop :=
  L52_6 x0 x2 x10 K Kp (0 : Int) h

def J52_4 (x0 : Option Addr) (x2 : Int) (x10 : Addr) (K : Bool → Hp → Prop) (Kp : List PanicEntry → Hp → Prop) (h : Hp) : Prop :=
  Joint (sem Tryd.prog ann52 (DrawSem Tryd.prog ord52) none (sub [1, 1, 1, 1, 1, 1, 1, 0, 1, 0, 1, 1, 1, 1, 1, 1, 1, 0, 1] code52) (ctxQ Tryd.prog ann52 (DrawSem Tryd.prog ord52) none Kp [1, 1, 1, 1, 1, 1, 1, 0, 1, 0, 1, 1, 1, 1, 1, 1, 1, 0, 1] code52 [] (q52 K)) Kp ([some (.pointer x0), none, some (.int .i64 x2), none, none, none, none, none, none, none, some (.pointer (some x10)), none, none, none, none, none, none, none, none, none, none, none, none, none, none, none, none, none, none, none, none, none, none, none, none, none, none, none, none, none, none, none, none, none, none, none, none, none, none, none, none, none, none, none, none, none, none, none, none, none, none, none, none, none, none, none, none, none, none, none, none, none, none, none, none, none, none, none, none, none, none, none, none, none, none, none, none, none, none, none, none, none, none, none, none, none, none, none, none, none, none, none, none, none, none, none, none, none, none, none, none, none, none, none, none, none, none, none, none, none, none, none, none, none, none, none, none, none, none, none]) h)

theorem J52_4.of {x0 : Option Addr} {x2 : Int} {x10 : Addr} {K : Bool → Hp → Prop} {Kp : List PanicEntry → Hp → Prop} {h : Hp} (H : JT52_4 x0 x2 x10 K Kp h) : J52_4 x0 x2 x10 K Kp h :=
  Joint.mk (Eq.mp (by kernel_rfl) H)

def JT52_1 (x0 : Option Addr) (x2 : Int) (x3 : Bool) (x5 : Addr) (K : Bool → Hp → Prop) (Kp : List PanicEntry → Hp → Prop) (h : Hp) : Prop :=
  Ld h (x5.add 2) (Value.int .i64) fun t37_0 =>
  Ld h ((x5.add 2).add 1) (Value.int .i64) fun t37_1 =>
  Ld h ((x5.add 2).add 2) (Value.int .i64) fun t37_2 =>
  Ld h ((x5.add 2).add 3) (Value.int .i64) fun t37_3 =>
  Ld h ((x5.add 2).add 4) (Sl.v) fun t37_4 =>
  New h #[(.int .i64 (0 : Int)), (.int .i64 (0 : Int)), (.int .i64 (0 : Int)), (.int .i64 (0 : Int)), (.slice none 0 0)] 61 fun a10 h1 =>
  St h1 a10 (.int .i64 t37_0) fun h2 =>
  St h2 (a10.add 1) (.int .i64 t37_1) fun h3 =>
  St h3 (a10.add 2) (.int .i64 t37_2) fun h4 =>
  St h4 (a10.add 3) (.int .i64 t37_3) fun h5 =>
  St h5 (a10.add 4) (Sl.v t37_4) fun h6 =>
  Ld h6 a10 (Value.int .i64) fun t38_0 =>
  Ld h6 (a10.add 1) (Value.int .i64) fun t38_1 =>
  Ld h6 (a10.add 2) (Value.int .i64) fun t38_2 =>
  Ld h6 (a10.add 3) (Value.int .i64) fun t38_3 =>
  Ld h6 (a10.add 4) (Sl.v) fun t38_4 =>
  Fn62 t38_0 t38_1 t38_2 t38_3 t38_4 h6 (fun t39 h7 =>
    If (!t39) (
      K false h7) (
      Ld h7 a10 (Value.int .i64) fun t43 =>
      If (t43 == (1 : Int)) (
        Ld h7 (x5.add 1) (Value.bool) fun t47 =>
        If (!t47) (
          K false h7) (
          J52_2 x0 x2 x3 a10 K Kp h7)) (
        If (t43 == (18 : Int)) (
          Ld h7 (x5.add 1) (Value.bool) fun t52 =>
          If t52 (
            K false h7) (
            J52_2 x0 x2 x3 a10 K Kp h7)) (
          If (t43 == (20 : Int)) (
            If x3 (
              K false h7) (
              Ld h7 (x5.add 1) (Value.bool) fun t58 =>
              Ld h7 (a10.add 4) (Sl.v) fun t60 =>
              Ix t60.a t60.n 7 (0 : Int) fun a61 =>
              Ld h7 (a61.add 1) (Value.bool) fun t63 =>
              If (!(t58 == t63)) (
                K false h7) (
                J52_2 x0 x2 x3 a10 K Kp h7))) (
            If (t43 == (19 : Int)) (
              If x3 (
                K false h7) (
                Ld h7 (a10.add 4) (Sl.v) fun t71 =>
                Ix t71.a t71.n 7 (0 : Int) fun a72 =>
                Ld h7 (a72.add 1) (Value.bool) fun t74 =>
                If t74 (
                  K false h7) (
                  J52_4 x0 x2 a10 K Kp h7))) (
              J52_2 x0 x2 x3 a10 K Kp h7)))))) Kp

def J52_1 (x0 : Option Addr) (x2 : Int) (x3 : Bool) (x5 : Addr) (K : Bool → Hp → Prop) (Kp : List PanicEntry → Hp → Prop) (h : Hp) : Prop :=
  Joint (sem Tryd.prog ann52 (DrawSem Tryd.prog ord52) none (sub [1, 1, 1, 1] code52) (ctxQ Tryd.prog ann52 (DrawSem Tryd.prog ord52) none Kp [1, 1, 1, 1] code52 [] (q52 K)) Kp ([some (.pointer x0), none, some (.int .i64 x2), some (.bool x3), none, some (.pointer (some x5)), none, none, none, none, none, none, none, none, none, none, none, none, none, none, none, none, none, none, none, none, none, none, none, none, none, none, none, none, none, none, none, none, none, none, none, none, none, none, none, none, none, none, none, none, none, none, none, none, none, none, none, none, none, none, none, none, none, none, none, none, none, none, none, none, none, none, none, none, none, none, none, none, none, none, none, none, none, none, none, none, none, none, none, none, none, none, none, none, none, none, none, none, none, none, none, none, none, none, none, none, none, none, none, none, none, none, none, none, none, none, none, none, none, none, none, none, none, none, none, none, none, none, none, none]) h)

theorem J52_1.of {x0 : Option Addr} {x2 : Int} {x3 : Bool} {x5 : Addr} {K : Bool → Hp → Prop} {Kp : List PanicEntry → Hp → Prop} {h : Hp} (H : JT52_1 x0 x2 x3 x5 K Kp h) : J52_1 x0 x2 x3 x5 K Kp h :=
  Joint.mk (Eq.mp (by kernel_rfl) H)

def JT52_7 (x0 : Option Addr) (x2 : Int) (x3 : Bool) (x5 : Addr) (x31 : Bool) (K : Bool → Hp → Prop) (Kp : List PanicEntry → Hp → Prop) (h : Hp) : Prop :=
  If x31 (
    K false h) (
    If (decide (x2 > (64 : Int))) (
      K false h) (
      J52_1 x0 x2 x3 x5 K Kp h))

def J52_7 (x0 : Option Addr) (x2 : Int) (x3 : Bool) (x5 : Addr) (x31 : Bool) (K : Bool → Hp → Prop) (Kp : List PanicEntry → Hp → Prop) (h : Hp) : Prop :=
  Joint (semOps Tryd.prog (Ann.reg 3 ann52) (regOps (sub [1, 1, 1, 0, 0] code52)) [9, 10, 11, 12] (ctxQ Tryd.prog ann52 (DrawSem Tryd.prog ord52) none Kp [1, 1, 1, 0, 0] code52 [] (q52 K) .normal) Kp ([some (.pointer x0), none, some (.int .i64 x2), some (.bool x3), none, some (.pointer (some x5)), none, none, none, none, none, none, none, none, none, none, none, none, none, none, none, none, none, none, none, none, none, none, none, none, none, some (.bool x31), none, none, none, none, none, none, none, none, none, none, none, none, none, none, none, none, none, none, none, none, none, none, none, none, none, none, none, none, none, none, none, none, none, none, none, none, none, none, none, none, none, none, none, none, none, none, none, none, none, none, none, none, none, none, none, none, none, none, none, none, none, none, none, none, none, none, none, none, none, none, none, none, none, none, none, none, none, none, none, none, none, none, none, none, none, none, none, none, none, none, none, none, none, none, none, none, none, none]) h)

theorem J52_7.of {x0 : Option Addr} {x2 : Int} {x3 : Bool} {x5 : Addr} {x31 : Bool} {K : Bool → Hp → Prop} {Kp : List PanicEntry → Hp → Prop} {h : Hp} (H : JT52_7 x0 x2 x3 x5 x31 K Kp h) : J52_7 x0 x2 x3 x5 x31 K Kp h :=
  Joint.mk (Eq.mp (by kernel_rfl) H)

def S52 (s : Option Addr) (f_0 : ByteArray) (f_1 : Bool) (f_2 : Int) (f_3 : Int) (f_4 : Int) (f_5 : Int) (f_6 : Sl) (deep : Int) (inside : Bool) (h : Hp) (K : Bool → Hp → Prop) (Kp : List PanicEntry → Hp → Prop) : Prop :=
  New h #[(.string f_0), (.bool f_1), (.int .i64 f_2), (.int .i64 f_3), (.int .i64 f_4), (.int .i64 f_5), (Sl.v f_6)] 63 fun a5 h1 =>
  NN s fun p14 =>
  Ld h1 p14 (Value.int .i64) fun t16 =>
  Wr .i64 (t16 + (1 : Int)) fun t17 =>
  NN s fun p18 =>
  St h1 p18 (.int .i64 t17) fun h2 =>
  Ld h2 a5 (Value.string) fun t21 =>
  Fn61 t21 h2 (fun t22 h3 =>
    If (!t22) (
      J52_7 s deep inside a5 true K Kp h3) (
      NN s fun p27 =>
      Ld h3 p27 (Value.int .i64) fun t29 =>
      J52_7 s deep inside a5 (decide (t29 > (256 : Int))) K Kp h3)) Kp

theorem Fn52.of {s : Option Addr} {f_0 : ByteArray} {f_1 : Bool} {f_2 : Int} {f_3 : Int} {f_4 : Int} {f_5 : Int} {f_6 : Sl} {deep : Int} {inside : Bool} {h : Hp} {K : Bool → Hp → Prop} {Kp : List PanicEntry → Hp → Prop} (H : S52 s f_0 f_1 f_2 f_3 f_4 f_5 f_6 deep inside h K Kp) : Fn52 s f_0 f_1 f_2 f_3 f_4 f_5 f_6 deep inside h K Kp :=
  fn_of2 (P := Tryd.prog) (ann := ann52) (D := DrawSem Tryd.prog ord52) (drawOk _) (c := code52) (zs := [(.bool false)]) (args := [(.pointer s), (.agg #[(.string f_0), (.bool f_1), (.int .i64 f_2), (.int .i64 f_3), (.int .i64 f_4), (.int .i64 f_5), (Sl.v f_6)]), (.int .i64 deep), (.bool inside)]) (Kv := kv52 K) (Kp := Kp) (h := h) Tryd.func52 (by kernel_rfl) H (by kernel_rfl) (by kernel_rfl)

/- ### 56: all -/

noncomputable def code56 : Code := Tryd.f56.body.getD .skip

def ann56 : Ann := []

def ord56 : List (Nat × OT × List Nat) := []

def kv56 (K : Value → Hp → Prop) : Value → Hp → Prop := fun v h => let r0 := v; K r0 h

def q56 (K : Value → Hp → Prop) : Qt := retQ Tryd.prog Tryd.f56.results.toList [(.nilFunc)] (kv56 K)

def S56 (l : Sl) (most : Int) (h : Hp) (K : Value → Hp → Prop) (Kp : List PanicEntry → Hp → Prop) : Prop :=
  New h #[(Sl.v l)] 22 fun a2 h1 =>
  New h1 #[(.int .i64 most)] 3 fun a3 h2 =>
  K (.func (.func 63) #[] #[(.pointer (some a3)), (.pointer (some a2))]) h2

theorem Fn56.of {l : Sl} {most : Int} {h : Hp} {K : Value → Hp → Prop} {Kp : List PanicEntry → Hp → Prop} (H : S56 l most h K Kp) : Fn56 l most h K Kp :=
  fn_of2 (P := Tryd.prog) (ann := ann56) (D := DrawSem Tryd.prog ord56) (drawOk _) (c := code56) (zs := [(.nilFunc)]) (args := [(Sl.v l), (.int .i64 most)]) (Kv := kv56 K) (Kp := Kp) (h := h) Tryd.func56 (by kernel_rfl) H (by kernel_rfl) (by kernel_rfl)

end Go.Proofs.YtfomkkdijjfpiaaDoor
