/- What the functions do, printed by program (gen.py) in the words of ShCore; each text is held against the loaded program by the kernel. -/
import Derived.Test.YtfomkkdijjfpiaaDoorF
set_option linter.unusedSimpArgs false
set_option linter.unusedVariables false
set_option maxRecDepth 100000
namespace Go.Proofs.YtfomkkdijjfpiaaDoor
open Go Go.Sh
/- ### 3: MetaPuts -/

noncomputable def code3 : Code := Tryd.f3.body.getD .skip

def ann3 : Ann := [(43008, [24])]

def ord3 : List (Nat × OT × List Nat) := []

def kv3 (K : Bool → Hp → Prop) : Value → Hp → Prop := fun v h => match v with | .bool r0 => (K r0 h) | _ => False

def q3 (K : Bool → Hp → Prop) : Qt := retQ Tryd.prog Tryd.f3.results.toList [(.bool false)] (kv3 K)

def JT3_1 (x24 : Bool) (K : Bool → Hp → Prop) (Kp : List PanicEntry → Hp → Prop) (h : Hp) : Prop :=
  If x24 (
    Fn11  h (fun t26 h1 =>
      K t26 h1) Kp) (
    K false h)

def J3_1 (x24 : Bool) (K : Bool → Hp → Prop) (Kp : List PanicEntry → Hp → Prop) (h : Hp) : Prop :=
  Joint (semOps Tryd.prog (Ann.reg 3 ann3) (regOps (sub [1, 1, 1, 0] code3)) [8, 9, 10, 11] (ctxQ Tryd.prog ann3 (DrawSem Tryd.prog ord3) none Kp [1, 1, 1, 0] code3 [] (q3 K) .normal) Kp ([none, none, none, none, none, none, none, none, none, none, none, none, none, none, none, none, none, none, none, none, none, none, none, none, some (.bool x24), none, none, none]) h)

theorem J3_1.of {x24 : Bool} {K : Bool → Hp → Prop} {Kp : List PanicEntry → Hp → Prop} {h : Hp} (H : JT3_1 x24 K Kp h) : J3_1 x24 K Kp h :=
  Joint.mk (Eq.mp (by kernel_rfl) H)

def S3 (hv_0 : Int) (hv_1 : Sl) (hv_2 : Sl) (hv_3 : Int) (hv_4 : Bool) (hv_5 : Int) (hv_6 : Int) (hv_7 : Sl) (hv_8 : Sl) (h : Hp) (K : Bool → Hp → Prop) (Kp : List PanicEntry → Hp → Prop) : Prop :=
  New h #[(.int .i64 hv_0), (Sl.v hv_1), (Sl.v hv_2), (.int .i64 hv_3), (.bool hv_4), (.int .i64 hv_5), (.int .i64 hv_6), (Sl.v hv_7), (Sl.v hv_8)] 29 fun a1 h1 =>
  Ld h1 a1 (Value.int .i64) fun t8_0 =>
  Ld h1 (a1.add 1) (Sl.v) fun t8_1 =>
  Ld h1 (a1.add 2) (Sl.v) fun t8_2 =>
  Ld h1 (a1.add 3) (Value.int .i64) fun t8_3 =>
  Ld h1 (a1.add 4) (Value.bool) fun t8_4 =>
  Ld h1 (a1.add 5) (Value.int .i64) fun t8_5 =>
  Ld h1 (a1.add 6) (Value.int .i64) fun t8_6 =>
  Ld h1 (a1.add 7) (Sl.v) fun t8_7 =>
  Ld h1 (a1.add 8) (Sl.v) fun t8_8 =>
  Fn8 t8_0 t8_1 t8_2 t8_3 t8_4 t8_5 t8_6 t8_7 t8_8 h1 (fun t9_0 t9_1 h2 =>
    Ld h2 a1 (Value.int .i64) fun t13_0 =>
    Ld h2 (a1.add 1) (Sl.v) fun t13_1 =>
    Ld h2 (a1.add 2) (Sl.v) fun t13_2 =>
    Ld h2 (a1.add 3) (Value.int .i64) fun t13_3 =>
    Ld h2 (a1.add 4) (Value.bool) fun t13_4 =>
    Ld h2 (a1.add 5) (Value.int .i64) fun t13_5 =>
    Ld h2 (a1.add 6) (Value.int .i64) fun t13_6 =>
    Ld h2 (a1.add 7) (Sl.v) fun t13_7 =>
    Ld h2 (a1.add 8) (Sl.v) fun t13_8 =>
    Fn9 t13_0 t13_1 t13_2 t13_3 t13_4 t13_5 t13_6 t13_7 t13_8 h2 (fun t14_0 t14_1 h3 =>
      If (t9_1 == t14_1) (
        Fn10 t9_0 t14_0 h3 (fun t23 h4 =>
          J3_1 t23 K Kp h4) Kp) (
        J3_1 false K Kp h3)) Kp) Kp

theorem Fn3.of {hv_0 : Int} {hv_1 : Sl} {hv_2 : Sl} {hv_3 : Int} {hv_4 : Bool} {hv_5 : Int} {hv_6 : Int} {hv_7 : Sl} {hv_8 : Sl} {h : Hp} {K : Bool → Hp → Prop} {Kp : List PanicEntry → Hp → Prop} (H : S3 hv_0 hv_1 hv_2 hv_3 hv_4 hv_5 hv_6 hv_7 hv_8 h K Kp) : Fn3 hv_0 hv_1 hv_2 hv_3 hv_4 hv_5 hv_6 hv_7 hv_8 h K Kp :=
  fn_of2 (P := Tryd.prog) (ann := ann3) (D := DrawSem Tryd.prog ord3) (drawOk _) (c := code3) (zs := [(.bool false)]) (args := [(.agg #[(.int .i64 hv_0), (Sl.v hv_1), (Sl.v hv_2), (.int .i64 hv_3), (.bool hv_4), (.int .i64 hv_5), (.int .i64 hv_6), (Sl.v hv_7), (Sl.v hv_8)])]) (Kv := kv3 K) (Kp := Kp) (h := h) Tryd.func3 (by kernel_rfl) H (by kernel_rfl) (by kernel_rfl)

/- ### 6: MetaOnce -/

noncomputable def code6 : Code := Tryd.f6.body.getD .skip

def ann6 : Ann := [(2000004, [0, 3]), (45007, [50]), (43009, [0, 4, 23]), (43014, [0, 4, 28]), (43021, [35])]

def ord6 : List (Nat × OT × List Nat) := []

def kv6 (K : Bool → Hp → Prop) : Value → Hp → Prop := fun v h => match v with | .bool r0 => (K r0 h) | _ => False

def q6 (K : Bool → Hp → Prop) : Qt := retQ Tryd.prog Tryd.f6.results.toList [(.bool false)] (kv6 K)

def JT6_2 (x50 : Bool) (K : Bool → Hp → Prop) (Kp : List PanicEntry → Hp → Prop) (h : Hp) : Prop :=
  If x50 (
    Fn11  h (fun t52 h1 =>
      K t52 h1) Kp) (
    K false h)

def J6_2 (x50 : Bool) (K : Bool → Hp → Prop) (Kp : List PanicEntry → Hp → Prop) (h : Hp) : Prop :=
  Joint (semOps Tryd.prog (Ann.reg 5 ann6) (regOps (sub [1, 1, 1, 1, 0] code6)) [7, 8, 9, 10] (ctxQ Tryd.prog ann6 (DrawSem Tryd.prog ord6) none Kp [1, 1, 1, 1, 0] code6 [] (q6 K) .normal) Kp ([none, none, none, none, none, none, none, none, none, none, none, none, none, none, none, none, none, none, none, none, none, none, none, none, none, none, none, none, none, none, none, none, none, none, none, none, none, none, none, none, none, none, none, none, none, none, none, none, none, none, some (.bool x50), none, none, none]) h)

theorem J6_2.of {x50 : Bool} {K : Bool → Hp → Prop} {Kp : List PanicEntry → Hp → Prop} {h : Hp} (H : JT6_2 x50 K Kp h) : J6_2 x50 K Kp h :=
  Joint.mk (Eq.mp (by kernel_rfl) H)

def JT6_1 (x0 : Sl) (x3 : Addr) (K : Bool → Hp → Prop) (Kp : List PanicEntry → Hp → Prop) (h : Hp) : Prop :=
  Ld h x3 (Value.int .i64) fun t40_0 =>
  Ld h (x3.add 1) (Sl.v) fun t40_1 =>
  Ld h (x3.add 2) (Sl.v) fun t40_2 =>
  Ld h (x3.add 3) (Value.int .i64) fun t40_3 =>
  Ld h (x3.add 4) (Value.bool) fun t40_4 =>
  Ld h (x3.add 5) (Value.int .i64) fun t40_5 =>
  Ld h (x3.add 6) (Value.int .i64) fun t40_6 =>
  Ld h (x3.add 7) (Sl.v) fun t40_7 =>
  Ld h (x3.add 8) (Sl.v) fun t40_8 =>
  Fn8 t40_0 t40_1 t40_2 t40_3 t40_4 t40_5 t40_6 t40_7 t40_8 h (fun t41_0 t41_1 h1 =>
    If (t41_1 == (0 : Int)) (
      Fn10 t41_0 x0 h1 (fun t49 h2 =>
        J6_2 t49 K Kp h2) Kp) (
      J6_2 false K Kp h1)) Kp

def J6_1 (x0 : Sl) (x3 : Addr) (K : Bool → Hp → Prop) (Kp : List PanicEntry → Hp → Prop) (h : Hp) : Prop :=
  Joint (sem Tryd.prog ann6 (DrawSem Tryd.prog ord6) none (sub [1, 1, 1] code6) (ctxQ Tryd.prog ann6 (DrawSem Tryd.prog ord6) none Kp [1, 1, 1] code6 [] (q6 K)) Kp ([some (Sl.v x0), none, none, some (.pointer (some x3)), none, none, none, none, none, none, none, none, none, none, none, none, none, none, none, none, none, none, none, none, none, none, none, none, none, none, none, none, none, none, none, none, none, none, none, none, none, none, none, none, none, none, none, none, none, none, none, none, none, none]) h)

theorem J6_1.of {x0 : Sl} {x3 : Addr} {K : Bool → Hp → Prop} {Kp : List PanicEntry → Hp → Prop} {h : Hp} (H : JT6_1 x0 x3 K Kp h) : J6_1 x0 x3 K Kp h :=
  Joint.mk (Eq.mp (by kernel_rfl) H)

def JT6_5 (x35 : Bool) (K : Bool → Hp → Prop) (Kp : List PanicEntry → Hp → Prop) (h : Hp) : Prop :=
  If x35 (
    Fn11  h (fun t37 h1 =>
      K t37 h1) Kp) (
    K false h)

def J6_5 (x35 : Bool) (K : Bool → Hp → Prop) (Kp : List PanicEntry → Hp → Prop) (h : Hp) : Prop :=
  Joint (semOps Tryd.prog (Ann.reg 3 ann6) (regOps (sub [1, 1, 0, 1, 0, 0] code6)) [21, 22, 23, 24] (ctxQ Tryd.prog ann6 (DrawSem Tryd.prog ord6) none Kp [1, 1, 0, 1, 0, 0] code6 [] (q6 K) .normal) Kp ([none, none, none, none, none, none, none, none, none, none, none, none, none, none, none, none, none, none, none, none, none, none, none, none, none, none, none, none, none, none, none, none, none, none, none, some (.bool x35), none, none, none, none, none, none, none, none, none, none, none, none, none, none, none, none, none, none]) h)

theorem J6_5.of {x35 : Bool} {K : Bool → Hp → Prop} {Kp : List PanicEntry → Hp → Prop} {h : Hp} (H : JT6_5 x35 K Kp h) : J6_5 x35 K Kp h :=
  Joint.mk (Eq.mp (by kernel_rfl) H)

def JT6_4 (x0 : Sl) (x4 : Addr) (x28 : Bool) (K : Bool → Hp → Prop) (Kp : List PanicEntry → Hp → Prop) (h : Hp) : Prop :=
  If x28 (
    Ld h (x4.add 2) (Value.int .i64) fun t31 =>
    J6_5 (decide (t31 ≤ (x0.n : Int))) K Kp h) (
    J6_5 false K Kp h)

def J6_4 (x0 : Sl) (x4 : Addr) (x28 : Bool) (K : Bool → Hp → Prop) (Kp : List PanicEntry → Hp → Prop) (h : Hp) : Prop :=
  Joint (semOps Tryd.prog (Ann.reg 3 ann6) (regOps (sub [1, 1, 0, 1, 0, 0] code6)) [14, 15, 16, 17, 18, 19, 20, 21, 22, 23, 24] (ctxQ Tryd.prog ann6 (DrawSem Tryd.prog ord6) none Kp [1, 1, 0, 1, 0, 0] code6 [] (q6 K) .normal) Kp ([some (Sl.v x0), none, none, none, some (.pointer (some x4)), none, none, none, none, none, none, none, none, none, none, none, none, none, none, none, none, none, none, none, none, none, none, none, some (.bool x28), none, none, none, none, none, none, none, none, none, none, none, none, none, none, none, none, none, none, none, none, none, none, none, none, none]) h)

theorem J6_4.of {x0 : Sl} {x4 : Addr} {x28 : Bool} {K : Bool → Hp → Prop} {Kp : List PanicEntry → Hp → Prop} {h : Hp} (H : JT6_4 x0 x4 x28 K Kp h) : J6_4 x0 x4 x28 K Kp h :=
  Joint.mk (Eq.mp (by kernel_rfl) H)

def JT6_3 (x0 : Sl) (x4 : Addr) (x23 : Bool) (K : Bool → Hp → Prop) (Kp : List PanicEntry → Hp → Prop) (h : Hp) : Prop :=
  If x23 (
    Ld h (x4.add 2) (Value.int .i64) fun t26 =>
    J6_4 x0 x4 (decide (t26 ≥ (0 : Int))) K Kp h) (
    J6_4 x0 x4 false K Kp h)

def J6_3 (x0 : Sl) (x4 : Addr) (x23 : Bool) (K : Bool → Hp → Prop) (Kp : List PanicEntry → Hp → Prop) (h : Hp) : Prop :=
  Joint (semOps Tryd.prog (Ann.reg 3 ann6) (regOps (sub [1, 1, 0, 1, 0, 0] code6)) [9, 10, 11, 12, 13, 14, 15, 16, 17, 18, 19, 20, 21, 22, 23, 24] (ctxQ Tryd.prog ann6 (DrawSem Tryd.prog ord6) none Kp [1, 1, 0, 1, 0, 0] code6 [] (q6 K) .normal) Kp ([some (Sl.v x0), none, none, none, some (.pointer (some x4)), none, none, none, none, none, none, none, none, none, none, none, none, none, none, none, none, none, none, some (.bool x23), none, none, none, none, none, none, none, none, none, none, none, none, none, none, none, none, none, none, none, none, none, none, none, none, none, none, none, none, none, none]) h)

theorem J6_3.of {x0 : Sl} {x4 : Addr} {x23 : Bool} {K : Bool → Hp → Prop} {Kp : List PanicEntry → Hp → Prop} {h : Hp} (H : JT6_3 x0 x4 x23 K Kp h) : J6_3 x0 x4 x23 K Kp h :=
  Joint.mk (Eq.mp (by kernel_rfl) H)

def S6 (b : Sl) (h : Hp) (K : Bool → Hp → Prop) (Kp : List PanicEntry → Hp → Prop) : Prop :=
  Fn12 b h (fun t9_0_0 t9_0_1 t9_0_2 t9_0_3 t9_0_4 t9_0_5 t9_0_6 t9_0_7 t9_0_8 t9_1_0 t9_1_1 t9_1_2 h1 =>
    New h1 #[(.int .i64 (0 : Int)), (.slice none 0 0), (.slice none 0 0), (.int .i64 (0 : Int)), (.bool false), (.int .i64 (0 : Int)), (.int .i64 (0 : Int)), (.slice none 0 0), (.slice none 0 0)] 29 fun a3 h2 =>
    New h2 #[(.int .i64 (0 : Int)), (.slice none 0 0), (.int .i64 (0 : Int))] 39 fun a4 h3 =>
    St h3 a3 (.int .i64 t9_0_0) fun h4 =>
    St h4 (a3.add 1) (Sl.v t9_0_1) fun h5 =>
    St h5 (a3.add 2) (Sl.v t9_0_2) fun h6 =>
    St h6 (a3.add 3) (.int .i64 t9_0_3) fun h7 =>
    St h7 (a3.add 4) (.bool t9_0_4) fun h8 =>
    St h8 (a3.add 5) (.int .i64 t9_0_5) fun h9 =>
    St h9 (a3.add 6) (.int .i64 t9_0_6) fun h10 =>
    St h10 (a3.add 7) (Sl.v t9_0_7) fun h11 =>
    St h11 (a3.add 8) (Sl.v t9_0_8) fun h12 =>
    St h12 a4 (.int .i64 t9_1_0) fun h13 =>
    St h13 (a4.add 1) (Sl.v t9_1_1) fun h14 =>
    St h14 (a4.add 2) (.int .i64 t9_1_2) fun h15 =>
    Ld h15 a4 (Value.int .i64) fun t13 =>
    If (t13 != (0 : Int)) (
      Ld h15 a3 (Value.int .i64) fun t15_0 =>
      Ld h15 (a3.add 1) (Sl.v) fun t15_1 =>
      Ld h15 (a3.add 2) (Sl.v) fun t15_2 =>
      Ld h15 (a3.add 3) (Value.int .i64) fun t15_3 =>
      Ld h15 (a3.add 4) (Value.bool) fun t15_4 =>
      Ld h15 (a3.add 5) (Value.int .i64) fun t15_5 =>
      Ld h15 (a3.add 6) (Value.int .i64) fun t15_6 =>
      Ld h15 (a3.add 7) (Sl.v) fun t15_7 =>
      Ld h15 (a3.add 8) (Sl.v) fun t15_8 =>
      Fn15 t15_0 t15_1 t15_2 t15_3 t15_4 t15_5 t15_6 t15_7 t15_8 (0 : Int) (⟨none, 0, 0⟩ : Sl) (⟨none, 0, 0⟩ : Sl) (0 : Int) false (0 : Int) (0 : Int) (⟨none, 0, 0⟩ : Sl) (⟨none, 0, 0⟩ : Sl) h15 (fun t17 h16 =>
        If t17 (
          Ld h16 (a4.add 1) (Sl.v) fun t20 =>
          J6_3 b a4 ((t20.n : Int) == (0 : Int)) K Kp h16) (
          J6_3 b a4 false K Kp h16)) Kp) (
      J6_1 b a3 K Kp h15)) Kp

theorem Fn6.of {b : Sl} {h : Hp} {K : Bool → Hp → Prop} {Kp : List PanicEntry → Hp → Prop} (H : S6 b h K Kp) : Fn6 b h K Kp :=
  fn_of2 (P := Tryd.prog) (ann := ann6) (D := DrawSem Tryd.prog ord6) (drawOk _) (c := code6) (zs := [(.bool false)]) (args := [(Sl.v b)]) (Kv := kv6 K) (Kp := Kp) (h := h) Tryd.func6 (by kernel_rfl) H (by kernel_rfl) (by kernel_rfl)

end Go.Proofs.YtfomkkdijjfpiaaDoor
