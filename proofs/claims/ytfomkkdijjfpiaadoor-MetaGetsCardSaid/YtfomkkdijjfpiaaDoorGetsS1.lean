/- What the functions do, printed by program (gen.py) in the words of ShCore; each text is held against the loaded program by the kernel. -/
import Derived.Test.YtfomkkdijjfpiaaDoorF
set_option linter.unusedSimpArgs false
set_option linter.unusedVariables false
set_option maxRecDepth 100000
namespace Go.Proofs.YtfomkkdijjfpiaaDoor
open Go Go.Sh
/- ### 3: MetaPuts -/

noncomputable def code3 : Code := Tryd.f3.body.getD .skip

def ann3 : Ann := [(43008, [24])]

def ord3 : List (Nat × OT × List Nat) := []

def kv3 (K : Bool → Hp → Prop) : Value → Hp → Prop := fun v h => match v with | .bool r0 => (K r0 h) | _ => False

def q3 (K : Bool → Hp → Prop) : Qt := retQ Tryd.prog Tryd.f3.results.toList [(.bool false)] (kv3 K)

def JT3_1 (x24 : Bool) (K : Bool → Hp → Prop) (Kp : List PanicEntry → Hp → Prop) (h : Hp) : Prop :=
  If x24 (
    Fn11  h (fun t26 h1 =>
      K t26 h1) Kp) (
    K false h)

def J3_1 (x24 : Bool) (K : Bool → Hp → Prop) (Kp : List PanicEntry → Hp → Prop) (h : Hp) : Prop :=
  Joint (semOps Tryd.prog (Ann.reg 3 ann3) (regOps (sub [1, 1, 1, 0] code3)) [8, 9, 10, 11] (ctxQ Tryd.prog ann3 (DrawSem Tryd.prog ord3) none Kp [1, 1, 1, 0] code3 [] (q3 K) .normal) Kp ([none, none, none, none, none, none, none, none, none, none, none, none, none, none, none, none, none, none, none, none, none, none, none, none, some (.bool x24), none, none, none]) h)

theorem J3_1.of {x24 : Bool} {K : Bool → Hp → Prop} {Kp : List PanicEntry → Hp → Prop} {h : Hp} (H : JT3_1 x24 K Kp h) : J3_1 x24 K Kp h :=
  Joint.mk (Eq.mp (by kernel_rfl) H)

def S3 (hv_0 : Int) (hv_1 : Sl) (hv_2 : Sl) (hv_3 : Int) (hv_4 : Bool) (hv_5 : Int) (hv_6 : Int) (hv_7 : Sl) (hv_8 : Sl) (h : Hp) (K : Bool → Hp → Prop) (Kp : List PanicEntry → Hp → Prop) : Prop :=
  New h #[(.int .i64 hv_0), (Sl.v hv_1), (Sl.v hv_2), (.int .i64 hv_3), (.bool hv_4), (.int .i64 hv_5), (.int .i64 hv_6), (Sl.v hv_7), (Sl.v hv_8)] 29 fun a1 h1 =>
  Ld h1 a1 (Value.int .i64) fun t8_0 =>
  Ld h1 (a1.add 1) (Sl.v) fun t8_1 =>
  Ld h1 (a1.add 2) (Sl.v) fun t8_2 =>
  Ld h1 (a1.add 3) (Value.int .i64) fun t8_3 =>
  Ld h1 (a1.add 4) (Value.bool) fun t8_4 =>
  Ld h1 (a1.add 5) (Value.int .i64) fun t8_5 =>
  Ld h1 (a1.add 6) (Value.int .i64) fun t8_6 =>
  Ld h1 (a1.add 7) (Sl.v) fun t8_7 =>
  Ld h1 (a1.add 8) (Sl.v) fun t8_8 =>
  Fn8 t8_0 t8_1 t8_2 t8_3 t8_4 t8_5 t8_6 t8_7 t8_8 h1 (fun t9_0 t9_1 h2 =>
    Ld h2 a1 (Value.int .i64) fun t13_0 =>
    Ld h2 (a1.add 1) (Sl.v) fun t13_1 =>
    Ld h2 (a1.add 2) (Sl.v) fun t13_2 =>
    Ld h2 (a1.add 3) (Value.int .i64) fun t13_3 =>
    Ld h2 (a1.add 4) (Value.bool) fun t13_4 =>
    Ld h2 (a1.add 5) (Value.int .i64) fun t13_5 =>
    Ld h2 (a1.add 6) (Value.int .i64) fun t13_6 =>
    Ld h2 (a1.add 7) (Sl.v) fun t13_7 =>
    Ld h2 (a1.add 8) (Sl.v) fun t13_8 =>
    Fn9 t13_0 t13_1 t13_2 t13_3 t13_4 t13_5 t13_6 t13_7 t13_8 h2 (fun t14_0 t14_1 h3 =>
      If (t9_1 == t14_1) (
        Fn10 t9_0 t14_0 h3 (fun t23 h4 =>
          J3_1 t23 K Kp h4) Kp) (
        J3_1 false K Kp h3)) Kp) Kp

theorem Fn3.of {hv_0 : Int} {hv_1 : Sl} {hv_2 : Sl} {hv_3 : Int} {hv_4 : Bool} {hv_5 : Int} {hv_6 : Int} {hv_7 : Sl} {hv_8 : Sl} {h : Hp} {K : Bool → Hp → Prop} {Kp : List PanicEntry → Hp → Prop} (H : S3 hv_0 hv_1 hv_2 hv_3 hv_4 hv_5 hv_6 hv_7 hv_8 h K Kp) : Fn3 hv_0 hv_1 hv_2 hv_3 hv_4 hv_5 hv_6 hv_7 hv_8 h K Kp :=
  fn_of2 (P := Tryd.prog) (ann := ann3) (D := DrawSem Tryd.prog ord3) (drawOk _) (c := code3) (zs := [(.bool false)]) (args := [(.agg #[(.int .i64 hv_0), (Sl.v hv_1), (Sl.v hv_2), (.int .i64 hv_3), (.bool hv_4), (.int .i64 hv_5), (.int .i64 hv_6), (Sl.v hv_7), (Sl.v hv_8)])]) (Kv := kv3 K) (Kp := Kp) (h := h) Tryd.func3 (by kernel_rfl) H (by kernel_rfl) (by kernel_rfl)

/- ### 4: MetaGets -/

noncomputable def code4 : Code := Tryd.f4.body.getD .skip

def ann4 : Ann := [(43008, [24])]

def ord4 : List (Nat × OT × List Nat) := []

def kv4 (K : Bool → Hp → Prop) : Value → Hp → Prop := fun v h => match v with | .bool r0 => (K r0 h) | _ => False

def q4 (K : Bool → Hp → Prop) : Qt := retQ Tryd.prog Tryd.f4.results.toList [(.bool false)] (kv4 K)

def JT4_1 (x24 : Bool) (K : Bool → Hp → Prop) (Kp : List PanicEntry → Hp → Prop) (h : Hp) : Prop :=
  If x24 (
    Fn11  h (fun t26 h1 =>
      K t26 h1) Kp) (
    K false h)

def J4_1 (x24 : Bool) (K : Bool → Hp → Prop) (Kp : List PanicEntry → Hp → Prop) (h : Hp) : Prop :=
  Joint (semOps Tryd.prog (Ann.reg 3 ann4) (regOps (sub [1, 1, 1, 0] code4)) [8, 9, 10, 11] (ctxQ Tryd.prog ann4 (DrawSem Tryd.prog ord4) none Kp [1, 1, 1, 0] code4 [] (q4 K) .normal) Kp ([none, none, none, none, none, none, none, none, none, none, none, none, none, none, none, none, none, none, none, none, none, none, none, none, some (.bool x24), none, none, none]) h)

theorem J4_1.of {x24 : Bool} {K : Bool → Hp → Prop} {Kp : List PanicEntry → Hp → Prop} {h : Hp} (H : JT4_1 x24 K Kp h) : J4_1 x24 K Kp h :=
  Joint.mk (Eq.mp (by kernel_rfl) H)

def S4 (b : Sl) (h : Hp) (K : Bool → Hp → Prop) (Kp : List PanicEntry → Hp → Prop) : Prop :=
  Fn12 b h (fun t9_0_0 t9_0_1 t9_0_2 t9_0_3 t9_0_4 t9_0_5 t9_0_6 t9_0_7 t9_0_8 t9_1_0 t9_1_1 t9_1_2 h1 =>
    New h1 #[(.int .i64 (0 : Int)), (.slice none 0 0), (.slice none 0 0), (.int .i64 (0 : Int)), (.bool false), (.int .i64 (0 : Int)), (.int .i64 (0 : Int)), (.slice none 0 0), (.slice none 0 0)] 29 fun a3 h2 =>
    New h2 #[(.int .i64 (0 : Int)), (.slice none 0 0), (.int .i64 (0 : Int))] 39 fun a4 h3 =>
    St h3 a3 (.int .i64 t9_0_0) fun h4 =>
    St h4 (a3.add 1) (Sl.v t9_0_1) fun h5 =>
    St h5 (a3.add 2) (Sl.v t9_0_2) fun h6 =>
    St h6 (a3.add 3) (.int .i64 t9_0_3) fun h7 =>
    St h7 (a3.add 4) (.bool t9_0_4) fun h8 =>
    St h8 (a3.add 5) (.int .i64 t9_0_5) fun h9 =>
    St h9 (a3.add 6) (.int .i64 t9_0_6) fun h10 =>
    St h10 (a3.add 7) (Sl.v t9_0_7) fun h11 =>
    St h11 (a3.add 8) (Sl.v t9_0_8) fun h12 =>
    St h12 a4 (.int .i64 t9_1_0) fun h13 =>
    St h13 (a4.add 1) (Sl.v t9_1_1) fun h14 =>
    St h14 (a4.add 2) (.int .i64 t9_1_2) fun h15 =>
    Fn13 b h15 (fun t14_0_0 t14_0_1 t14_0_2 t14_0_3 t14_0_4 t14_0_5 t14_0_6 t14_0_7 t14_0_8 t14_1_0 t14_1_1 t14_1_2 h16 =>
      New h16 #[(.int .i64 (0 : Int)), (.slice none 0 0), (.slice none 0 0), (.int .i64 (0 : Int)), (.bool false), (.int .i64 (0 : Int)), (.int .i64 (0 : Int)), (.slice none 0 0), (.slice none 0 0)] 29 fun a5 h17 =>
      New h17 #[(.int .i64 (0 : Int)), (.slice none 0 0), (.int .i64 (0 : Int))] 39 fun a6 h18 =>
      St h18 a5 (.int .i64 t14_0_0) fun h19 =>
      St h19 (a5.add 1) (Sl.v t14_0_1) fun h20 =>
      St h20 (a5.add 2) (Sl.v t14_0_2) fun h21 =>
      St h21 (a5.add 3) (.int .i64 t14_0_3) fun h22 =>
      St h22 (a5.add 4) (.bool t14_0_4) fun h23 =>
      St h23 (a5.add 5) (.int .i64 t14_0_5) fun h24 =>
      St h24 (a5.add 6) (.int .i64 t14_0_6) fun h25 =>
      St h25 (a5.add 7) (Sl.v t14_0_7) fun h26 =>
      St h26 (a5.add 8) (Sl.v t14_0_8) fun h27 =>
      St h27 a6 (.int .i64 t14_1_0) fun h28 =>
      St h28 (a6.add 1) (Sl.v t14_1_1) fun h29 =>
      St h29 (a6.add 2) (.int .i64 t14_1_2) fun h30 =>
      Ld h30 a4 (Value.int .i64) fun t17_0 =>
      Ld h30 (a4.add 1) (Sl.v) fun t17_1 =>
      Ld h30 (a4.add 2) (Value.int .i64) fun t17_2 =>
      Ld h30 a6 (Value.int .i64) fun t18_0 =>
      Ld h30 (a6.add 1) (Sl.v) fun t18_1 =>
      Ld h30 (a6.add 2) (Value.int .i64) fun t18_2 =>
      Fn14 t17_0 t17_1 t17_2 t18_0 t18_1 t18_2 h30 (fun t19 h31 =>
        If t19 (
          Ld h31 a3 (Value.int .i64) fun t21_0 =>
          Ld h31 (a3.add 1) (Sl.v) fun t21_1 =>
          Ld h31 (a3.add 2) (Sl.v) fun t21_2 =>
          Ld h31 (a3.add 3) (Value.int .i64) fun t21_3 =>
          Ld h31 (a3.add 4) (Value.bool) fun t21_4 =>
          Ld h31 (a3.add 5) (Value.int .i64) fun t21_5 =>
          Ld h31 (a3.add 6) (Value.int .i64) fun t21_6 =>
          Ld h31 (a3.add 7) (Sl.v) fun t21_7 =>
          Ld h31 (a3.add 8) (Sl.v) fun t21_8 =>
          Ld h31 a5 (Value.int .i64) fun t22_0 =>
          Ld h31 (a5.add 1) (Sl.v) fun t22_1 =>
          Ld h31 (a5.add 2) (Sl.v) fun t22_2 =>
          Ld h31 (a5.add 3) (Value.int .i64) fun t22_3 =>
          Ld h31 (a5.add 4) (Value.bool) fun t22_4 =>
          Ld h31 (a5.add 5) (Value.int .i64) fun t22_5 =>
          Ld h31 (a5.add 6) (Value.int .i64) fun t22_6 =>
          Ld h31 (a5.add 7) (Sl.v) fun t22_7 =>
          Ld h31 (a5.add 8) (Sl.v) fun t22_8 =>
          Fn15 t21_0 t21_1 t21_2 t21_3 t21_4 t21_5 t21_6 t21_7 t21_8 t22_0 t22_1 t22_2 t22_3 t22_4 t22_5 t22_6 t22_7 t22_8 h31 (fun t23 h32 =>
            J4_1 t23 K Kp h32) Kp) (
          J4_1 false K Kp h31)) Kp) Kp) Kp

theorem Fn4.of {b : Sl} {h : Hp} {K : Bool → Hp → Prop} {Kp : List PanicEntry → Hp → Prop} (H : S4 b h K Kp) : Fn4 b h K Kp :=
  fn_of2 (P := Tryd.prog) (ann := ann4) (D := DrawSem Tryd.prog ord4) (drawOk _) (c := code4) (zs := [(.bool false)]) (args := [(Sl.v b)]) (Kv := kv4 K) (Kp := Kp) (h := h) Tryd.func4 (by kernel_rfl) H (by kernel_rfl) (by kernel_rfl)

end Go.Proofs.YtfomkkdijjfpiaaDoor
