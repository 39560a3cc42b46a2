/- What the functions do, printed by program (gen.py) in the words of ShCore; each text is held against the loaded program by the kernel. -/
import Derived.Test.YtfomkkdijjfpiaaDoorF
set_option linter.unusedSimpArgs false
set_option linter.unusedVariables false
set_option maxRecDepth 100000
namespace Go.Proofs.YtfomkkdijjfpiaaDoor
open Go Go.Sh
/- ### 3: MetaPuts -/

noncomputable def code3 : Code := Tryd.f3.body.getD .skip

def ann3 : Ann := [(43008, [24])]

def ord3 : List (Nat × OT × List Nat) := []

def kv3 (K : Bool → Hp → Prop) : Value → Hp → Prop := fun v h => match v with | .bool r0 => (K r0 h) | _ => False

def q3 (K : Bool → Hp → Prop) : Qt := retQ Tryd.prog Tryd.f3.results.toList [(.bool false)] (kv3 K)

def JT3_1 (x24 : Bool) (K : Bool → Hp → Prop) (Kp : List PanicEntry → Hp → Prop) (h : Hp) : Prop :=
  If x24 (
    Fn11  h (fun t26 h1 =>
      K t26 h1) Kp) (
    K false h)

def J3_1 (x24 : Bool) (K : Bool → Hp → Prop) (Kp : List PanicEntry → Hp → Prop) (h : Hp) : Prop :=
  Joint (semOps Tryd.prog (Ann.reg 3 ann3) (regOps (sub [1, 1, 1, 0] code3)) [8, 9, 10, 11] (ctxQ Tryd.prog ann3 (DrawSem Tryd.prog ord3) none Kp [1, 1, 1, 0] code3 [] (q3 K) .normal) Kp ([none, none, none, none, none, none, none, none, none, none, none, none, none, none, none, none, none, none, none, none, none, none, none, none, some (.bool x24), none, none, none]) h)

theorem J3_1.of {x24 : Bool} {K : Bool → Hp → Prop} {Kp : List PanicEntry → Hp → Prop} {h : Hp} (H : JT3_1 x24 K Kp h) : J3_1 x24 K Kp h :=
  Joint.mk (Eq.mp (by kernel_rfl) H)

def S3 (hv_0 : Int) (hv_1 : Sl) (hv_2 : Sl) (hv_3 : Int) (hv_4 : Bool) (hv_5 : Int) (hv_6 : Int) (hv_7 : Sl) (hv_8 : Sl) (h : Hp) (K : Bool → Hp → Prop) (Kp : List PanicEntry → Hp → Prop) : Prop :=
  New h #[(.int .i64 hv_0), (Sl.v hv_1), (Sl.v hv_2), (.int .i64 hv_3), (.bool hv_4), (.int .i64 hv_5), (.int .i64 hv_6), (Sl.v hv_7), (Sl.v hv_8)] 29 fun a1 h1 =>
  Ld h1 a1 (Value.int .i64) fun t8_0 =>
  Ld h1 (a1.add 1) (Sl.v) fun t8_1 =>
  Ld h1 (a1.add 2) (Sl.v) fun t8_2 =>
  Ld h1 (a1.add 3) (Value.int .i64) fun t8_3 =>
  Ld h1 (a1.add 4) (Value.bool) fun t8_4 =>
  Ld h1 (a1.add 5) (Value.int .i64) fun t8_5 =>
  Ld h1 (a1.add 6) (Value.int .i64) fun t8_6 =>
  Ld h1 (a1.add 7) (Sl.v) fun t8_7 =>
  Ld h1 (a1.add 8) (Sl.v) fun t8_8 =>
  Fn8 t8_0 t8_1 t8_2 t8_3 t8_4 t8_5 t8_6 t8_7 t8_8 h1 (fun t9_0 t9_1 h2 =>
    Ld h2 a1 (Value.int .i64) fun t13_0 =>
    Ld h2 (a1.add 1) (Sl.v) fun t13_1 =>
    Ld h2 (a1.add 2) (Sl.v) fun t13_2 =>
    Ld h2 (a1.add 3) (Value.int .i64) fun t13_3 =>
    Ld h2 (a1.add 4) (Value.bool) fun t13_4 =>
    Ld h2 (a1.add 5) (Value.int .i64) fun t13_5 =>
    Ld h2 (a1.add 6) (Value.int .i64) fun t13_6 =>
    Ld h2 (a1.add 7) (Sl.v) fun t13_7 =>
    Ld h2 (a1.add 8) (Sl.v) fun t13_8 =>
    Fn9 t13_0 t13_1 t13_2 t13_3 t13_4 t13_5 t13_6 t13_7 t13_8 h2 (fun t14_0 t14_1 h3 =>
      If (t9_1 == t14_1) (
        Fn10 t9_0 t14_0 h3 (fun t23 h4 =>
          J3_1 t23 K Kp h4) Kp) (
        J3_1 false K Kp h3)) Kp) Kp

theorem Fn3.of {hv_0 : Int} {hv_1 : Sl} {hv_2 : Sl} {hv_3 : Int} {hv_4 : Bool} {hv_5 : Int} {hv_6 : Int} {hv_7 : Sl} {hv_8 : Sl} {h : Hp} {K : Bool → Hp → Prop} {Kp : List PanicEntry → Hp → Prop} (H : S3 hv_0 hv_1 hv_2 hv_3 hv_4 hv_5 hv_6 hv_7 hv_8 h K Kp) : Fn3 hv_0 hv_1 hv_2 hv_3 hv_4 hv_5 hv_6 hv_7 hv_8 h K Kp :=
  fn_of2 (P := Tryd.prog) (ann := ann3) (D := DrawSem Tryd.prog ord3) (drawOk _) (c := code3) (zs := [(.bool false)]) (args := [(.agg #[(.int .i64 hv_0), (Sl.v hv_1), (Sl.v hv_2), (.int .i64 hv_3), (.bool hv_4), (.int .i64 hv_5), (.int .i64 hv_6), (Sl.v hv_7), (Sl.v hv_8)])]) (Kv := kv3 K) (Kp := Kp) (h := h) Tryd.func3 (by kernel_rfl) H (by kernel_rfl) (by kernel_rfl)

/- ### 5: MetaBack -/

noncomputable def code5 : Code := Tryd.f5.body.getD .skip

def ann5 : Ann := [(43007, [28]), (2000007, [1, 5]), (2000013, [1, 5]), (2008, [1, 5, 9]), (51009, [1, 5, 9, 10, 11, 72]), (51014, [1, 5, 9, 10, 77]), (45009, [1, 5, 45])]

def ord5 : List (Nat × OT × List Nat) := []

def kv5 (K : Bool → Hp → Prop) : Value → Hp → Prop := fun v h => match v with | .bool r0 => (K r0 h) | _ => False

def q5 (K : Bool → Hp → Prop) : Qt := retQ Tryd.prog Tryd.f5.results.toList [(.bool false)] (kv5 K)

def JT5_1 (x28 : Bool) (K : Bool → Hp → Prop) (Kp : List PanicEntry → Hp → Prop) (h : Hp) : Prop :=
  If x28 (
    Fn11  h (fun t30 h1 =>
      K t30 h1) Kp) (
    K false h)

def J5_1 (x28 : Bool) (K : Bool → Hp → Prop) (Kp : List PanicEntry → Hp → Prop) (h : Hp) : Prop :=
  Joint (semOps Tryd.prog (Ann.reg 3 ann5) (regOps (sub [1, 1, 0, 1, 0, 0] code5)) [7, 8, 9, 10] (ctxQ Tryd.prog ann5 (DrawSem Tryd.prog ord5) none Kp [1, 1, 0, 1, 0, 0] code5 [] (q5 K) .normal) Kp ([none, none, none, none, none, none, none, none, none, none, none, none, none, none, none, none, none, none, none, none, none, none, none, none, none, none, none, none, some (.bool x28), none, none, none, none, none, none, none, none, none, none, none, none, none, none, none, none, none, none, none, none, none, none, none, none, none, none, none, none, none, none, none, none, none, none, none, none, none, none, none, none, none, none, none, none, none, none, none, none, none, none, none, none, none, none, none, none, none, none, none, none, none, none, none, none, none, none, none, none, none, none, none, none, none, none, none, none, none, none, none, none, none, none, none, none, none, none, none]) h)

theorem J5_1.of {x28 : Bool} {K : Bool → Hp → Prop} {Kp : List PanicEntry → Hp → Prop} {h : Hp} (H : JT5_1 x28 K Kp h) : J5_1 x28 K Kp h :=
  Joint.mk (Eq.mp (by kernel_rfl) H)

def JT5_3 (x1 : Sl) (x5 : Sl) (K : Bool → Hp → Prop) (Kp : List PanicEntry → Hp → Prop) (h : Hp) : Prop :=
  Ap h 5 #[(.int .u8 (0 : Int))] 1 1 (⟨none, 0, 0⟩ : Sl) x5.n (rd h x5.a (x5.n * 1)) fun t85 h1 =>
  Ap h1 5 #[(.int .u8 (0 : Int))] 1 1 t85 x1.n (rd h1 x1.a (x1.n * 1)) fun t88 h2 =>
  Fn12 t88 h2 (fun t91_0_0 t91_0_1 t91_0_2 t91_0_3 t91_0_4 t91_0_5 t91_0_6 t91_0_7 t91_0_8 t91_1_0 t91_1_1 t91_1_2 h3 =>
    New h3 #[(.int .i64 (0 : Int)), (.slice none 0 0), (.slice none 0 0), (.int .i64 (0 : Int)), (.bool false), (.int .i64 (0 : Int)), (.int .i64 (0 : Int)), (.slice none 0 0), (.slice none 0 0)] 29 fun a13 h4 =>
    New h4 #[(.int .i64 (0 : Int)), (.slice none 0 0), (.int .i64 (0 : Int))] 39 fun a14 h5 =>
    St h5 a13 (.int .i64 t91_0_0) fun h6 =>
    St h6 (a13.add 1) (Sl.v t91_0_1) fun h7 =>
    St h7 (a13.add 2) (Sl.v t91_0_2) fun h8 =>
    St h8 (a13.add 3) (.int .i64 t91_0_3) fun h9 =>
    St h9 (a13.add 4) (.bool t91_0_4) fun h10 =>
    St h10 (a13.add 5) (.int .i64 t91_0_5) fun h11 =>
    St h11 (a13.add 6) (.int .i64 t91_0_6) fun h12 =>
    St h12 (a13.add 7) (Sl.v t91_0_7) fun h13 =>
    St h13 (a13.add 8) (Sl.v t91_0_8) fun h14 =>
    St h14 a14 (.int .i64 t91_1_0) fun h15 =>
    St h15 (a14.add 1) (Sl.v t91_1_1) fun h16 =>
    St h16 (a14.add 2) (.int .i64 t91_1_2) fun h17 =>
    If (decide ((x1.n : Int) > (0 : Int))) (
      Ld h17 a14 (Value.int .i64) fun t99 =>
      If (t99 != (52 : Int)) (
        K false h17) (
        Ld h17 (a14.add 2) (Value.int .i64) fun t103 =>
        If (t103 != (x5.n : Int)) (
          K false h17) (
          Ld h17 a13 (Value.int .i64) fun t109_0 =>
          Ld h17 (a13.add 1) (Sl.v) fun t109_1 =>
          Ld h17 (a13.add 2) (Sl.v) fun t109_2 =>
          Ld h17 (a13.add 3) (Value.int .i64) fun t109_3 =>
          Ld h17 (a13.add 4) (Value.bool) fun t109_4 =>
          Ld h17 (a13.add 5) (Value.int .i64) fun t109_5 =>
          Ld h17 (a13.add 6) (Value.int .i64) fun t109_6 =>
          Ld h17 (a13.add 7) (Sl.v) fun t109_7 =>
          Ld h17 (a13.add 8) (Sl.v) fun t109_8 =>
          Fn15 t109_0 t109_1 t109_2 t109_3 t109_4 t109_5 t109_6 t109_7 t109_8 (0 : Int) (⟨none, 0, 0⟩ : Sl) (⟨none, 0, 0⟩ : Sl) (0 : Int) false (0 : Int) (0 : Int) (⟨none, 0, 0⟩ : Sl) (⟨none, 0, 0⟩ : Sl) h17 (fun t111 h18 =>
            If (!t111) (
              K false h18) (
              Fn11  h18 (fun t115 h19 =>
                K t115 h19) Kp)) Kp))) (
      Fn11  h17 (fun t115 h18 =>
        K t115 h18) Kp)) Kp

def J5_3 (x1 : Sl) (x5 : Sl) (K : Bool → Hp → Prop) (Kp : List PanicEntry → Hp → Prop) (h : Hp) : Prop :=
  Joint (sem Tryd.prog ann5 (DrawSem Tryd.prog ord5) none (sub [1, 1, 1, 1, 1, 1] code5) (ctxQ Tryd.prog ann5 (DrawSem Tryd.prog ord5) none Kp [1, 1, 1, 1, 1, 1] code5 [] (q5 K)) Kp ([none, some (Sl.v x1), none, none, none, some (Sl.v x5), none, none, none, none, none, none, none, none, none, none, none, none, none, none, none, none, none, none, none, none, none, none, none, none, none, none, none, none, none, none, none, none, none, none, none, none, none, none, none, none, none, none, none, none, none, none, none, none, none, none, none, none, none, none, none, none, none, none, none, none, none, none, none, none, none, none, none, none, none, none, none, none, none, none, none, none, none, none, none, none, none, none, none, none, none, none, none, none, none, none, none, none, none, none, none, none, none, none, none, none, none, none, none, none, none, none, none, none, none, none]) h)

theorem J5_3.of {x1 : Sl} {x5 : Sl} {K : Bool → Hp → Prop} {Kp : List PanicEntry → Hp → Prop} {h : Hp} (H : JT5_3 x1 x5 K Kp h) : J5_3 x1 x5 K Kp h :=
  Joint.mk (Eq.mp (by kernel_rfl) H)

abbrev mk5_4 (x1 : Sl) (x5 : Sl) (x9 : Int) : Fr := [none, some (Sl.v x1), none, none, none, some (Sl.v x5), none, none, none, some (.int .i64 x9), none, none, none, none, none, none, none, none, none, none, none, none, none, none, none, none, none, none, none, none, none, none, none, none, none, none, none, none, none, none, none, none, none, none, none, none, none, none, none, none, none, none, none, none, none, none, none, none, none, none, none, none, none, none, none, none, none, none, none, none, none, none, none, none, none, none, none, none, none, none, none, none, none, none, none, none, none, none, none, none, none, none, none, none, none, none, none, none, none, none, none, none, none, none, none, none, none, none, none, none, none, none, none, none, none, none]

def JT5_6 (x1 : Sl) (x5 : Sl) (x9 : Int) (x10 : Addr) (x77 : Bool) (N1 : Fr → Hp → Prop) (K : Bool → Hp → Prop) (Kp : List PanicEntry → Hp → Prop) (h : Hp) : Prop :=
  If x77 (
    K false h) (
    Ld h x10 (Value.int .i64) fun t79_0 =>
    Ld h (x10.add 1) (Sl.v) fun t79_1 =>
    Ld h (x10.add 2) (Sl.v) fun t79_2 =>
    Ld h (x10.add 3) (Value.int .i64) fun t79_3 =>
    Ld h (x10.add 4) (Value.bool) fun t79_4 =>
    Ld h (x10.add 5) (Value.int .i64) fun t79_5 =>
    Ld h (x10.add 6) (Value.int .i64) fun t79_6 =>
    Ld h (x10.add 7) (Sl.v) fun t79_7 =>
    Ld h (x10.add 8) (Sl.v) fun t79_8 =>
    Fn15 t79_0 t79_1 t79_2 t79_3 t79_4 t79_5 t79_6 t79_7 t79_8 (0 : Int) (⟨none, 0, 0⟩ : Sl) (⟨none, 0, 0⟩ : Sl) (0 : Int) false (0 : Int) (0 : Int) (⟨none, 0, 0⟩ : Sl) (⟨none, 0, 0⟩ : Sl) h (fun t81 h1 =>
      If (!t81) (
        K false h1) (
        Wr .i64 (x9 + (1 : Int)) fun t56 =>
        N1 (mk5_4 x1 x5 t56) h1)) Kp)

def J5_6 (x1 : Sl) (x5 : Sl) (x9 : Int) (x10 : Addr) (x77 : Bool) (N1 : Fr → Hp → Prop) (K : Bool → Hp → Prop) (Kp : List PanicEntry → Hp → Prop) (h : Hp) : Prop :=
  Joint (semOps Tryd.prog (Ann.reg 11 ann5) (regOps (sub [1, 1, 1, 1, 1, 0, 1, 0, 0, 1, 0, 0, 1, 0] code5)) [14, 15, 16, 17, 18, 19] (ctxQ Tryd.prog ann5 (DrawSem Tryd.prog ord5) none Kp [1, 1, 1, 1, 1, 0, 1, 0, 0, 1, 0, 0, 1, 0] code5 [N1] (q5 K) .normal) Kp ([none, some (Sl.v x1), none, none, none, some (Sl.v x5), none, none, none, some (.int .i64 x9), some (.pointer (some x10)), none, none, none, none, none, none, none, none, none, none, none, none, none, none, none, none, none, none, none, none, none, none, none, none, none, none, none, none, none, none, none, none, none, none, none, none, none, none, none, none, none, none, none, none, none, none, none, none, none, none, none, none, none, none, none, none, none, none, none, none, none, none, none, none, none, none, some (.bool x77), none, none, none, none, none, none, none, none, none, none, none, none, none, none, none, none, none, none, none, none, none, none, none, none, none, none, none, none, none, none, none, none, none, none, none, none, none, none]) h)

theorem J5_6.of {x1 : Sl} {x5 : Sl} {x9 : Int} {x10 : Addr} {x77 : Bool} {N1 : Fr → Hp → Prop} {K : Bool → Hp → Prop} {Kp : List PanicEntry → Hp → Prop} {h : Hp} (H : JT5_6 x1 x5 x9 x10 x77 N1 K Kp h) : J5_6 x1 x5 x9 x10 x77 N1 K Kp h :=
  Joint.mk (Eq.mp (by kernel_rfl) H)

def JT5_5 (x1 : Sl) (x5 : Sl) (x9 : Int) (x10 : Addr) (x11 : Addr) (x72 : Bool) (N1 : Fr → Hp → Prop) (K : Bool → Hp → Prop) (Kp : List PanicEntry → Hp → Prop) (h : Hp) : Prop :=
  If x72 (
    J5_6 x1 x5 x9 x10 true N1 K Kp h) (
    Ld h (x11.add 2) (Value.int .i64) fun t75 =>
    J5_6 x1 x5 x9 x10 (decide (t75 < (0 : Int))) N1 K Kp h)

def J5_5 (x1 : Sl) (x5 : Sl) (x9 : Int) (x10 : Addr) (x11 : Addr) (x72 : Bool) (N1 : Fr → Hp → Prop) (K : Bool → Hp → Prop) (Kp : List PanicEntry → Hp → Prop) (h : Hp) : Prop :=
  Joint (semOps Tryd.prog (Ann.reg 11 ann5) (regOps (sub [1, 1, 1, 1, 1, 0, 1, 0, 0, 1, 0, 0, 1, 0] code5)) [9, 10, 11, 12, 13, 14, 15, 16, 17, 18, 19] (ctxQ Tryd.prog ann5 (DrawSem Tryd.prog ord5) none Kp [1, 1, 1, 1, 1, 0, 1, 0, 0, 1, 0, 0, 1, 0] code5 [N1] (q5 K) .normal) Kp ([none, some (Sl.v x1), none, none, none, some (Sl.v x5), none, none, none, some (.int .i64 x9), some (.pointer (some x10)), some (.pointer (some x11)), none, none, none, none, none, none, none, none, none, none, none, none, none, none, none, none, none, none, none, none, none, none, none, none, none, none, none, none, none, none, none, none, none, none, none, none, none, none, none, none, none, none, none, none, none, none, none, none, none, none, none, none, none, none, none, none, none, none, none, none, some (.bool x72), none, none, none, none, none, none, none, none, none, none, none, none, none, none, none, none, none, none, none, none, none, none, none, none, none, none, none, none, none, none, none, none, none, none, none, none, none, none, none, none, none, none, none]) h)

theorem J5_5.of {x1 : Sl} {x5 : Sl} {x9 : Int} {x10 : Addr} {x11 : Addr} {x72 : Bool} {N1 : Fr → Hp → Prop} {K : Bool → Hp → Prop} {Kp : List PanicEntry → Hp → Prop} {h : Hp} (H : JT5_5 x1 x5 x9 x10 x11 x72 N1 K Kp h) : J5_5 x1 x5 x9 x10 x11 x72 N1 K Kp h :=
  Joint.mk (Eq.mp (by kernel_rfl) H)

def T5_4 (x1 : Sl) (x5 : Sl) (K : Bool → Hp → Prop) (Kp : List PanicEntry → Hp → Prop) (N1 : Fr → Hp → Prop) (x9 : Int) (h : Hp) : Prop :=
  If (decide (x9 < (x5.n : Int))) (
    Slc x5 1 none (some x9) none fun t60 =>
    Fn12 t60 h (fun t61_0_0 t61_0_1 t61_0_2 t61_0_3 t61_0_4 t61_0_5 t61_0_6 t61_0_7 t61_0_8 t61_1_0 t61_1_1 t61_1_2 h1 =>
      New h1 #[(.int .i64 (0 : Int)), (.slice none 0 0), (.slice none 0 0), (.int .i64 (0 : Int)), (.bool false), (.int .i64 (0 : Int)), (.int .i64 (0 : Int)), (.slice none 0 0), (.slice none 0 0)] 29 fun a10 h2 =>
      New h2 #[(.int .i64 (0 : Int)), (.slice none 0 0), (.int .i64 (0 : Int))] 39 fun a11 h3 =>
      St h3 a10 (.int .i64 t61_0_0) fun h4 =>
      St h4 (a10.add 1) (Sl.v t61_0_1) fun h5 =>
      St h5 (a10.add 2) (Sl.v t61_0_2) fun h6 =>
      St h6 (a10.add 3) (.int .i64 t61_0_3) fun h7 =>
      St h7 (a10.add 4) (.bool t61_0_4) fun h8 =>
      St h8 (a10.add 5) (.int .i64 t61_0_5) fun h9 =>
      St h9 (a10.add 6) (.int .i64 t61_0_6) fun h10 =>
      St h10 (a10.add 7) (Sl.v t61_0_7) fun h11 =>
      St h11 (a10.add 8) (Sl.v t61_0_8) fun h12 =>
      St h12 a11 (.int .i64 t61_1_0) fun h13 =>
      St h13 (a11.add 1) (Sl.v t61_1_1) fun h14 =>
      St h14 (a11.add 2) (.int .i64 t61_1_2) fun h15 =>
      Ld h15 a11 (Value.int .i64) fun t65 =>
      If (t65 != (51 : Int)) (
        J5_5 x1 x5 x9 a10 a11 true N1 K Kp h15) (
        Ld h15 (a11.add 2) (Value.int .i64) fun t69 =>
        J5_5 x1 x5 x9 a10 a11 (decide (t69 > x9)) N1 K Kp h15)) Kp) (
    J5_3 x1 x5 K Kp h)

def L5_4 (x1 : Sl) (x5 : Sl) (K : Bool → Hp → Prop) (Kp : List PanicEntry → Hp → Prop) (x9 : Int) (h : Hp) : Prop :=
  LoopH (fun N fr h => sem Tryd.prog ann5 (DrawSem Tryd.prog ord5) none (sub [1, 1, 1, 1, 1, 0, 1, 0, 0] code5) (thenQ (fun fr' h' => N (Ann.find ann5 2008 fr') h') (ctxQ Tryd.prog ann5 (DrawSem Tryd.prog ord5) none Kp [1, 1, 1, 1, 1, 0, 1, 0] code5 [] (q5 K))) Kp fr h) (mk5_4 x1 x5 x9) h

theorem L5_4.rule {x1 : Sl} {x5 : Sl} {K : Bool → Hp → Prop} {Kp : List PanicEntry → Hp → Prop} (I : Int → Hp → Prop) (μ : Int → Hp → Nat) {x9 : Int} {h : Hp} (h0 : I x9 h)
    (step : ∀ (x9 : Int) (h : Hp), I x9 h → ∀ N1 : Fr → Hp → Prop, (∀ (x9' : Int) (h' : Hp), I x9' h' → μ x9' h' < μ x9 h → N1 (mk5_4 x1 x5 x9') h') → T5_4 x1 x5 K Kp N1 x9 h) : L5_4 x1 x5 K Kp x9 h :=
  loop_rule (σ := Int) (fun s => mk5_4 x1 x5 s) (fun N s h => T5_4 x1 x5 K Kp N s h) (fun N s h => by kernel_rfl) (fun s h => I s h) (fun s h => μ s h) (s0 := x9) h0 (fun s h hI N hN => step s h hI N (fun x9' h' hI' hl => hN x9' h' hI' hl))

def JT5_2 (x1 : Sl) (x5 : Sl) (K : Bool → Hp → Prop) (Kp : List PanicEntry → Hp → Prop) (h : Hp) : Prop :=
  L5_4 x1 x5 K Kp (0 : Int) h

def J5_2 (x1 : Sl) (x5 : Sl) (K : Bool → Hp → Prop) (Kp : List PanicEntry → Hp → Prop) (h : Hp) : Prop :=
  Joint (sem Tryd.prog ann5 (DrawSem Tryd.prog ord5) none (sub [1, 1, 1, 1, 1] code5) (ctxQ Tryd.prog ann5 (DrawSem Tryd.prog ord5) none Kp [1, 1, 1, 1, 1] code5 [] (q5 K)) Kp ([none, some (Sl.v x1), none, none, none, some (Sl.v x5), none, none, none, none, none, none, none, none, none, none, none, none, none, none, none, none, none, none, none, none, none, none, none, none, none, none, none, none, none, none, none, none, none, none, none, none, none, none, none, none, none, none, none, none, none, none, none, none, none, none, none, none, none, none, none, none, none, none, none, none, none, none, none, none, none, none, none, none, none, none, none, none, none, none, none, none, none, none, none, none, none, none, none, none, none, none, none, none, none, none, none, none, none, none, none, none, none, none, none, none, none, none, none, none, none, none, none, none, none, none]) h)

theorem J5_2.of {x1 : Sl} {x5 : Sl} {K : Bool → Hp → Prop} {Kp : List PanicEntry → Hp → Prop} {h : Hp} (H : JT5_2 x1 x5 K Kp h) : J5_2 x1 x5 K Kp h :=
  Joint.mk (Eq.mp (by kernel_rfl) H)

def JT5_7 (x1 : Sl) (x5 : Sl) (x45 : Bool) (K : Bool → Hp → Prop) (Kp : List PanicEntry → Hp → Prop) (h : Hp) : Prop :=
  If x45 (
    K false h) (
    If (decide ((x5.n : Int) > (65536 : Int))) (
      K false h) (
      J5_2 x1 x5 K Kp h))

def J5_7 (x1 : Sl) (x5 : Sl) (x45 : Bool) (K : Bool → Hp → Prop) (Kp : List PanicEntry → Hp → Prop) (h : Hp) : Prop :=
  Joint (semOps Tryd.prog (Ann.reg 5 ann5) (regOps (sub [1, 1, 1, 1, 0, 0] code5)) [9, 10, 11, 12, 13] (ctxQ Tryd.prog ann5 (DrawSem Tryd.prog ord5) none Kp [1, 1, 1, 1, 0, 0] code5 [] (q5 K) .normal) Kp ([none, some (Sl.v x1), none, none, none, some (Sl.v x5), none, none, none, none, none, none, none, none, none, none, none, none, none, none, none, none, none, none, none, none, none, none, none, none, none, none, none, none, none, none, none, none, none, none, none, none, none, none, none, some (.bool x45), none, none, none, none, none, none, none, none, none, none, none, none, none, none, none, none, none, none, none, none, none, none, none, none, none, none, none, none, none, none, none, none, none, none, none, none, none, none, none, none, none, none, none, none, none, none, none, none, none, none, none, none, none, none, none, none, none, none, none, none, none, none, none, none, none, none, none, none, none, none]) h)

theorem J5_7.of {x1 : Sl} {x5 : Sl} {x45 : Bool} {K : Bool → Hp → Prop} {Kp : List PanicEntry → Hp → Prop} {h : Hp} (H : JT5_7 x1 x5 x45 K Kp h) : J5_7 x1 x5 x45 K Kp h :=
  Joint.mk (Eq.mp (by kernel_rfl) H)

def S5 (hv_0 : Int) (hv_1 : Sl) (hv_2 : Sl) (hv_3 : Int) (hv_4 : Bool) (hv_5 : Int) (hv_6 : Int) (hv_7 : Sl) (hv_8 : Sl) (morev : Sl) (h : Hp) (K : Bool → Hp → Prop) (Kp : List PanicEntry → Hp → Prop) : Prop :=
  New h #[(.int .i64 hv_0), (Sl.v hv_1), (Sl.v hv_2), (.int .i64 hv_3), (.bool hv_4), (.int .i64 hv_5), (.int .i64 hv_6), (Sl.v hv_7), (Sl.v hv_8)] 29 fun a2 h1 =>
  Ld h1 a2 (Value.int .i64) fun t16_0 =>
  Ld h1 (a2.add 1) (Sl.v) fun t16_1 =>
  Ld h1 (a2.add 2) (Sl.v) fun t16_2 =>
  Ld h1 (a2.add 3) (Value.int .i64) fun t16_3 =>
  Ld h1 (a2.add 4) (Value.bool) fun t16_4 =>
  Ld h1 (a2.add 5) (Value.int .i64) fun t16_5 =>
  Ld h1 (a2.add 6) (Value.int .i64) fun t16_6 =>
  Ld h1 (a2.add 7) (Sl.v) fun t16_7 =>
  Ld h1 (a2.add 8) (Sl.v) fun t16_8 =>
  Fn8 t16_0 t16_1 t16_2 t16_3 t16_4 t16_5 t16_6 t16_7 t16_8 h1 (fun t17_0 t17_1 h2 =>
    If (t17_1 != (0 : Int)) (
      If (t17_1 == (50 : Int)) (
        J5_1 ((t17_0.n : Int) == (0 : Int)) K Kp h2) (
        J5_1 false K Kp h2)) (
      Fn12 t17_0 h2 (fun t34_0_0 t34_0_1 t34_0_2 t34_0_3 t34_0_4 t34_0_5 t34_0_6 t34_0_7 t34_0_8 t34_1_0 t34_1_1 t34_1_2 h3 =>
        New h3 #[(.int .i64 (0 : Int)), (.slice none 0 0), (.slice none 0 0), (.int .i64 (0 : Int)), (.bool false), (.int .i64 (0 : Int)), (.int .i64 (0 : Int)), (.slice none 0 0), (.slice none 0 0)] 29 fun a7 h4 =>
        New h4 #[(.int .i64 (0 : Int)), (.slice none 0 0), (.int .i64 (0 : Int))] 39 fun a8 h5 =>
        St h5 a7 (.int .i64 t34_0_0) fun h6 =>
        St h6 (a7.add 1) (Sl.v t34_0_1) fun h7 =>
        St h7 (a7.add 2) (Sl.v t34_0_2) fun h8 =>
        St h8 (a7.add 3) (.int .i64 t34_0_3) fun h9 =>
        St h9 (a7.add 4) (.bool t34_0_4) fun h10 =>
        St h10 (a7.add 5) (.int .i64 t34_0_5) fun h11 =>
        St h11 (a7.add 6) (.int .i64 t34_0_6) fun h12 =>
        St h12 (a7.add 7) (Sl.v t34_0_7) fun h13 =>
        St h13 (a7.add 8) (Sl.v t34_0_8) fun h14 =>
        St h14 a8 (.int .i64 t34_1_0) fun h15 =>
        St h15 (a8.add 1) (Sl.v t34_1_1) fun h16 =>
        St h16 (a8.add 2) (.int .i64 t34_1_2) fun h17 =>
        Ld h17 a8 (Value.int .i64) fun t38 =>
        If (t38 != (0 : Int)) (
          J5_7 morev t17_0 true K Kp h17) (
          Ld h17 a7 (Value.int .i64) fun t41_0 =>
          Ld h17 (a7.add 1) (Sl.v) fun t41_1 =>
          Ld h17 (a7.add 2) (Sl.v) fun t41_2 =>
          Ld h17 (a7.add 3) (Value.int .i64) fun t41_3 =>
          Ld h17 (a7.add 4) (Value.bool) fun t41_4 =>
          Ld h17 (a7.add 5) (Value.int .i64) fun t41_5 =>
          Ld h17 (a7.add 6) (Value.int .i64) fun t41_6 =>
          Ld h17 (a7.add 7) (Sl.v) fun t41_7 =>
          Ld h17 (a7.add 8) (Sl.v) fun t41_8 =>
          Ld h17 a2 (Value.int .i64) fun t42_0 =>
          Ld h17 (a2.add 1) (Sl.v) fun t42_1 =>
          Ld h17 (a2.add 2) (Sl.v) fun t42_2 =>
          Ld h17 (a2.add 3) (Value.int .i64) fun t42_3 =>
          Ld h17 (a2.add 4) (Value.bool) fun t42_4 =>
          Ld h17 (a2.add 5) (Value.int .i64) fun t42_5 =>
          Ld h17 (a2.add 6) (Value.int .i64) fun t42_6 =>
          Ld h17 (a2.add 7) (Sl.v) fun t42_7 =>
          Ld h17 (a2.add 8) (Sl.v) fun t42_8 =>
          Fn15 t41_0 t41_1 t41_2 t41_3 t41_4 t41_5 t41_6 t41_7 t41_8 t42_0 t42_1 t42_2 t42_3 t42_4 t42_5 t42_6 t42_7 t42_8 h17 (fun t43 h18 =>
            J5_7 morev t17_0 (!t43) K Kp h18) Kp)) Kp)) Kp

theorem Fn5.of {hv_0 : Int} {hv_1 : Sl} {hv_2 : Sl} {hv_3 : Int} {hv_4 : Bool} {hv_5 : Int} {hv_6 : Int} {hv_7 : Sl} {hv_8 : Sl} {morev : Sl} {h : Hp} {K : Bool → Hp → Prop} {Kp : List PanicEntry → Hp → Prop} (H : S5 hv_0 hv_1 hv_2 hv_3 hv_4 hv_5 hv_6 hv_7 hv_8 morev h K Kp) : Fn5 hv_0 hv_1 hv_2 hv_3 hv_4 hv_5 hv_6 hv_7 hv_8 morev h K Kp :=
  fn_of2 (P := Tryd.prog) (ann := ann5) (D := DrawSem Tryd.prog ord5) (drawOk _) (c := code5) (zs := [(.bool false)]) (args := [(.agg #[(.int .i64 hv_0), (Sl.v hv_1), (Sl.v hv_2), (.int .i64 hv_3), (.bool hv_4), (.int .i64 hv_5), (.int .i64 hv_6), (Sl.v hv_7), (Sl.v hv_8)]), (Sl.v morev)]) (Kv := kv5 K) (Kp := Kp) (h := h) Tryd.func5 (by kernel_rfl) H (by kernel_rfl) (by kernel_rfl)

/- ### 6: MetaOnce -/

noncomputable def code6 : Code := Tryd.f6.body.getD .skip

def ann6 : Ann := [(2000004, [0, 3]), (45007, [50]), (43009, [0, 4, 23]), (43014, [0, 4, 28]), (43021, [35])]

def ord6 : List (Nat × OT × List Nat) := []

def kv6 (K : Bool → Hp → Prop) : Value → Hp → Prop := fun v h => match v with | .bool r0 => (K r0 h) | _ => False

def q6 (K : Bool → Hp → Prop) : Qt := retQ Tryd.prog Tryd.f6.results.toList [(.bool false)] (kv6 K)

def JT6_2 (x50 : Bool) (K : Bool → Hp → Prop) (Kp : List PanicEntry → Hp → Prop) (h : Hp) : Prop :=
  If x50 (
    Fn11  h (fun t52 h1 =>
      K t52 h1) Kp) (
    K false h)

def J6_2 (x50 : Bool) (K : Bool → Hp → Prop) (Kp : List PanicEntry → Hp → Prop) (h : Hp) : Prop :=
  Joint (semOps Tryd.prog (Ann.reg 5 ann6) (regOps (sub [1, 1, 1, 1, 0] code6)) [7, 8, 9, 10] (ctxQ Tryd.prog ann6 (DrawSem Tryd.prog ord6) none Kp [1, 1, 1, 1, 0] code6 [] (q6 K) .normal) Kp ([none, none, none, none, none, none, none, none, none, none, none, none, none, none, none, none, none, none, none, none, none, none, none, none, none, none, none, none, none, none, none, none, none, none, none, none, none, none, none, none, none, none, none, none, none, none, none, none, none, none, some (.bool x50), none, none, none]) h)

theorem J6_2.of {x50 : Bool} {K : Bool → Hp → Prop} {Kp : List PanicEntry → Hp → Prop} {h : Hp} (H : JT6_2 x50 K Kp h) : J6_2 x50 K Kp h :=
  Joint.mk (Eq.mp (by kernel_rfl) H)

def JT6_1 (x0 : Sl) (x3 : Addr) (K : Bool → Hp → Prop) (Kp : List PanicEntry → Hp → Prop) (h : Hp) : Prop :=
  Ld h x3 (Value.int .i64) fun t40_0 =>
  Ld h (x3.add 1) (Sl.v) fun t40_1 =>
  Ld h (x3.add 2) (Sl.v) fun t40_2 =>
  Ld h (x3.add 3) (Value.int .i64) fun t40_3 =>
  Ld h (x3.add 4) (Value.bool) fun t40_4 =>
  Ld h (x3.add 5) (Value.int .i64) fun t40_5 =>
  Ld h (x3.add 6) (Value.int .i64) fun t40_6 =>
  Ld h (x3.add 7) (Sl.v) fun t40_7 =>
  Ld h (x3.add 8) (Sl.v) fun t40_8 =>
  Fn8 t40_0 t40_1 t40_2 t40_3 t40_4 t40_5 t40_6 t40_7 t40_8 h (fun t41_0 t41_1 h1 =>
    If (t41_1 == (0 : Int)) (
      Fn10 t41_0 x0 h1 (fun t49 h2 =>
        J6_2 t49 K Kp h2) Kp) (
      J6_2 false K Kp h1)) Kp

def J6_1 (x0 : Sl) (x3 : Addr) (K : Bool → Hp → Prop) (Kp : List PanicEntry → Hp → Prop) (h : Hp) : Prop :=
  Joint (sem Tryd.prog ann6 (DrawSem Tryd.prog ord6) none (sub [1, 1, 1] code6) (ctxQ Tryd.prog ann6 (DrawSem Tryd.prog ord6) none Kp [1, 1, 1] code6 [] (q6 K)) Kp ([some (Sl.v x0), none, none, some (.pointer (some x3)), none, none, none, none, none, none, none, none, none, none, none, none, none, none, none, none, none, none, none, none, none, none, none, none, none, none, none, none, none, none, none, none, none, none, none, none, none, none, none, none, none, none, none, none, none, none, none, none, none, none]) h)

theorem J6_1.of {x0 : Sl} {x3 : Addr} {K : Bool → Hp → Prop} {Kp : List PanicEntry → Hp → Prop} {h : Hp} (H : JT6_1 x0 x3 K Kp h) : J6_1 x0 x3 K Kp h :=
  Joint.mk (Eq.mp (by kernel_rfl) H)

def JT6_5 (x35 : Bool) (K : Bool → Hp → Prop) (Kp : List PanicEntry → Hp → Prop) (h : Hp) : Prop :=
  If x35 (
    Fn11  h (fun t37 h1 =>
      K t37 h1) Kp) (
    K false h)

def J6_5 (x35 : Bool) (K : Bool → Hp → Prop) (Kp : List PanicEntry → Hp → Prop) (h : Hp) : Prop :=
  Joint (semOps Tryd.prog (Ann.reg 3 ann6) (regOps (sub [1, 1, 0, 1, 0, 0] code6)) [21, 22, 23, 24] (ctxQ Tryd.prog ann6 (DrawSem Tryd.prog ord6) none Kp [1, 1, 0, 1, 0, 0] code6 [] (q6 K) .normal) Kp ([none, none, none, none, none, none, none, none, none, none, none, none, none, none, none, none, none, none, none, none, none, none, none, none, none, none, none, none, none, none, none, none, none, none, none, some (.bool x35), none, none, none, none, none, none, none, none, none, none, none, none, none, none, none, none, none, none]) h)

theorem J6_5.of {x35 : Bool} {K : Bool → Hp → Prop} {Kp : List PanicEntry → Hp → Prop} {h : Hp} (H : JT6_5 x35 K Kp h) : J6_5 x35 K Kp h :=
  Joint.mk (Eq.mp (by kernel_rfl) H)

def JT6_4 (x0 : Sl) (x4 : Addr) (x28 : Bool) (K : Bool → Hp → Prop) (Kp : List PanicEntry → Hp → Prop) (h : Hp) : Prop :=
  If x28 (
    Ld h (x4.add 2) (Value.int .i64) fun t31 =>
    J6_5 (decide (t31 ≤ (x0.n : Int))) K Kp h) (
    J6_5 false K Kp h)

def J6_4 (x0 : Sl) (x4 : Addr) (x28 : Bool) (K : Bool → Hp → Prop) (Kp : List PanicEntry → Hp → Prop) (h : Hp) : Prop :=
  Joint (semOps Tryd.prog (Ann.reg 3 ann6) (regOps (sub [1, 1, 0, 1, 0, 0] code6)) [14, 15, 16, 17, 18, 19, 20, 21, 22, 23, 24] (ctxQ Tryd.prog ann6 (DrawSem Tryd.prog ord6) none Kp [1, 1, 0, 1, 0, 0] code6 [] (q6 K) .normal) Kp ([some (Sl.v x0), none, none, none, some (.pointer (some x4)), none, none, none, none, none, none, none, none, none, none, none, none, none, none, none, none, none, none, none, none, none, none, none, some (.bool x28), none, none, none, none, none, none, none, none, none, none, none, none, none, none, none, none, none, none, none, none, none, none, none, none, none]) h)

theorem J6_4.of {x0 : Sl} {x4 : Addr} {x28 : Bool} {K : Bool → Hp → Prop} {Kp : List PanicEntry → Hp → Prop} {h : Hp} (H : JT6_4 x0 x4 x28 K Kp h) : J6_4 x0 x4 x28 K Kp h :=
  Joint.mk (Eq.mp (by kernel_rfl) H)

def JT6_3 (x0 : Sl) (x4 : Addr) (x23 : Bool) (K : Bool → Hp → Prop) (Kp : List PanicEntry → Hp → Prop) (h : Hp) : Prop :=
  If x23 (
    Ld h (x4.add 2) (Value.int .i64) fun t26 =>
    J6_4 x0 x4 (decide (t26 ≥ (0 : Int))) K Kp h) (
    J6_4 x0 x4 false K Kp h)

def J6_3 (x0 : Sl) (x4 : Addr) (x23 : Bool) (K : Bool → Hp → Prop) (Kp : List PanicEntry → Hp → Prop) (h : Hp) : Prop :=
  Joint (semOps Tryd.prog (Ann.reg 3 ann6) (regOps (sub [1, 1, 0, 1, 0, 0] code6)) [9, 10, 11, 12, 13, 14, 15, 16, 17, 18, 19, 20, 21, 22, 23, 24] (ctxQ Tryd.prog ann6 (DrawSem Tryd.prog ord6) none Kp [1, 1, 0, 1, 0, 0] code6 [] (q6 K) .normal) Kp ([some (Sl.v x0), none, none, none, some (.pointer (some x4)), none, none, none, none, none, none, none, none, none, none, none, none, none, none, none, none, none, none, some (.bool x23), none, none, none, none, none, none, none, none, none, none, none, none, none, none, none, none, none, none, none, none, none, none, none, none, none, none, none, none, none, none]) h)

theorem J6_3.of {x0 : Sl} {x4 : Addr} {x23 : Bool} {K : Bool → Hp → Prop} {Kp : List PanicEntry → Hp → Prop} {h : Hp} (H : JT6_3 x0 x4 x23 K Kp h) : J6_3 x0 x4 x23 K Kp h :=
  Joint.mk (Eq.mp (by kernel_rfl) H)

def S6 (b : Sl) (h : Hp) (K : Bool → Hp → Prop) (Kp : List PanicEntry → Hp → Prop) : Prop :=
  Fn12 b h (fun t9_0_0 t9_0_1 t9_0_2 t9_0_3 t9_0_4 t9_0_5 t9_0_6 t9_0_7 t9_0_8 t9_1_0 t9_1_1 t9_1_2 h1 =>
    New h1 #[(.int .i64 (0 : Int)), (.slice none 0 0), (.slice none 0 0), (.int .i64 (0 : Int)), (.bool false), (.int .i64 (0 : Int)), (.int .i64 (0 : Int)), (.slice none 0 0), (.slice none 0 0)] 29 fun a3 h2 =>
    New h2 #[(.int .i64 (0 : Int)), (.slice none 0 0), (.int .i64 (0 : Int))] 39 fun a4 h3 =>
    St h3 a3 (.int .i64 t9_0_0) fun h4 =>
    St h4 (a3.add 1) (Sl.v t9_0_1) fun h5 =>
    St h5 (a3.add 2) (Sl.v t9_0_2) fun h6 =>
    St h6 (a3.add 3) (.int .i64 t9_0_3) fun h7 =>
    St h7 (a3.add 4) (.bool t9_0_4) fun h8 =>
    St h8 (a3.add 5) (.int .i64 t9_0_5) fun h9 =>
    St h9 (a3.add 6) (.int .i64 t9_0_6) fun h10 =>
    St h10 (a3.add 7) (Sl.v t9_0_7) fun h11 =>
    St h11 (a3.add 8) (Sl.v t9_0_8) fun h12 =>
    St h12 a4 (.int .i64 t9_1_0) fun h13 =>
    St h13 (a4.add 1) (Sl.v t9_1_1) fun h14 =>
    St h14 (a4.add 2) (.int .i64 t9_1_2) fun h15 =>
    Ld h15 a4 (Value.int .i64) fun t13 =>
    If (t13 != (0 : Int)) (
      Ld h15 a3 (Value.int .i64) fun t15_0 =>
      Ld h15 (a3.add 1) (Sl.v) fun t15_1 =>
      Ld h15 (a3.add 2) (Sl.v) fun t15_2 =>
      Ld h15 (a3.add 3) (Value.int .i64) fun t15_3 =>
      Ld h15 (a3.add 4) (Value.bool) fun t15_4 =>
      Ld h15 (a3.add 5) (Value.int .i64) fun t15_5 =>
      Ld h15 (a3.add 6) (Value.int .i64) fun t15_6 =>
      Ld h15 (a3.add 7) (Sl.v) fun t15_7 =>
      Ld h15 (a3.add 8) (Sl.v) fun t15_8 =>
      Fn15 t15_0 t15_1 t15_2 t15_3 t15_4 t15_5 t15_6 t15_7 t15_8 (0 : Int) (⟨none, 0, 0⟩ : Sl) (⟨none, 0, 0⟩ : Sl) (0 : Int) false (0 : Int) (0 : Int) (⟨none, 0, 0⟩ : Sl) (⟨none, 0, 0⟩ : Sl) h15 (fun t17 h16 =>
        If t17 (
          Ld h16 (a4.add 1) (Sl.v) fun t20 =>
          J6_3 b a4 ((t20.n : Int) == (0 : Int)) K Kp h16) (
          J6_3 b a4 false K Kp h16)) Kp) (
      J6_1 b a3 K Kp h15)) Kp

theorem Fn6.of {b : Sl} {h : Hp} {K : Bool → Hp → Prop} {Kp : List PanicEntry → Hp → Prop} (H : S6 b h K Kp) : Fn6 b h K Kp :=
  fn_of2 (P := Tryd.prog) (ann := ann6) (D := DrawSem Tryd.prog ord6) (drawOk _) (c := code6) (zs := [(.bool false)]) (args := [(Sl.v b)]) (Kv := kv6 K) (Kp := Kp) (h := h) Tryd.func6 (by kernel_rfl) H (by kernel_rfl) (by kernel_rfl)

end Go.Proofs.YtfomkkdijjfpiaaDoor
