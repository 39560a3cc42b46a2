/- What the functions do, printed by program (gen.py) in the words of ShCore; each text is held against the loaded program by the kernel. -/
import Derived.Test.YtajgmklgfdgnlaaDoorShRange
import Derived.Test.YtajgmklgfdgnlaaDoorChecked
set_option linter.unusedVariables false
set_option maxRecDepth 100000
namespace Go.Proofs.YtajgmklgfdgnlaaDoor
open Go Go.Sh
def Fn3 (p_0 : Sl) (p_1 : Sl) (p_2 : Int) (p_3 : Int) (p_4 : Int) (h : Hp) (K : Bool → Hp → Prop) (Kp : List PanicEntry → Hp → Prop) : Prop :=
  CallH Tryd.prog 3 [(.agg #[(Sl.v p_0), (Sl.v p_1), (.int .i64 p_2), (.int .i64 p_3), (.int .i64 p_4)])] h (fun v h' => ∃ r0 : Bool, v = (.bool r0) ∧ K r0 h') Kp

def Fn4 (script : Sl) (h : Hp) (K : Bool → Hp → Prop) (Kp : List PanicEntry → Hp → Prop) : Prop :=
  CallH Tryd.prog 4 [(Sl.v script)] h (fun v h' => ∃ r0 : Bool, v = (.bool r0) ∧ K r0 h') Kp

def Fn5 (o_0 : Int) (o_1 : Sl) (o_2 : Sl) (o_3 : Sl) (o_4 : Int) (o_5 : Int) (o_6 : Int) (o_7 : Bool) (p_0 : Int) (p_1 : Sl) (p_2 : Sl) (p_3 : Sl) (p_4 : Int) (p_5 : Int) (p_6 : Int) (p_7 : Bool) (h : Hp) (K : Bool → Hp → Prop) (Kp : List PanicEntry → Hp → Prop) : Prop :=
  CallH Tryd.prog 5 [(.agg #[(.int .i64 o_0), (Sl.v o_1), (Sl.v o_2), (Sl.v o_3), (.int .i64 o_4), (.int .i64 o_5), (.int .i64 o_6), (.bool o_7)]), (.agg #[(.int .i64 p_0), (Sl.v p_1), (Sl.v p_2), (Sl.v p_3), (.int .i64 p_4), (.int .i64 p_5), (.int .i64 p_6), (.bool p_7)])] h (fun v h' => ∃ r0 : Bool, v = (.bool r0) ∧ K r0 h') Kp

def Fn6 (p_0 : Sl) (p_1 : Sl) (p_2 : Int) (p_3 : Int) (p_4 : Int) (h : Hp) (K : Bool → Hp → Prop) (Kp : List PanicEntry → Hp → Prop) : Prop :=
  CallH Tryd.prog 6 [(.agg #[(Sl.v p_0), (Sl.v p_1), (.int .i64 p_2), (.int .i64 p_3), (.int .i64 p_4)])] h (fun v h' => ∃ r0 : Bool, v = (.bool r0) ∧ K r0 h') Kp

def Fn7 (b : Sl) (fromv : Int) (n : Int) (h : Hp) (K : Sl → Hp → Prop) (Kp : List PanicEntry → Hp → Prop) : Prop :=
  CallH Tryd.prog 7 [(Sl.v b), (.int .i64 fromv), (.int .i64 n)] h (fun v h' => ∃ r0 : Sl, v = (Sl.v r0) ∧ K r0 h') Kp

def Fn8 (b : Sl) (fromv : Int) (n : Int) (h : Hp) (K : Value → Hp → Prop) (Kp : List PanicEntry → Hp → Prop) : Prop :=
  CallH Tryd.prog 8 [(Sl.v b), (.int .i64 fromv), (.int .i64 n)] h (fun v h' => ∃ r0 : Value, v = r0 ∧ K r0 h') Kp

def Fn9 (h : Hp) (K : Bool → Hp → Prop) (Kp : List PanicEntry → Hp → Prop) : Prop :=
  CallH Tryd.prog 9 [] h (fun v h' => ∃ r0 : Bool, v = (.bool r0) ∧ K r0 h') Kp

def Fn10 (o_0 : Int) (o_1 : Sl) (o_2 : Sl) (o_3 : Sl) (o_4 : Int) (o_5 : Int) (o_6 : Int) (o_7 : Bool) (h : Hp) (K : Int → Int → Bool → Sl → Sl → Sl → Hp → Prop) (Kp : List PanicEntry → Hp → Prop) : Prop :=
  CallH Tryd.prog 10 [(.agg #[(.int .i64 o_0), (Sl.v o_1), (Sl.v o_2), (Sl.v o_3), (.int .i64 o_4), (.int .i64 o_5), (.int .i64 o_6), (.bool o_7)])] h (fun v h' => ∃ r0_0 : Int, ∃ r0_1 : Int, ∃ r0_2 : Bool, ∃ r0_3 : Sl, ∃ r0_4 : Sl, ∃ r0_5 : Sl, v = (.agg #[(.int .i64 r0_0), (.int .i64 r0_1), (.bool r0_2), (Sl.v r0_3), (Sl.v r0_4), (Sl.v r0_5)]) ∧ K r0_0 r0_1 r0_2 r0_3 r0_4 r0_5 h') Kp

def Fn11 (o_0 : Int) (o_1 : Sl) (o_2 : Sl) (o_3 : Sl) (o_4 : Int) (o_5 : Int) (o_6 : Int) (o_7 : Bool) (h : Hp) (K : Int → Int → Bool → Sl → Sl → Sl → Hp → Prop) (Kp : List PanicEntry → Hp → Prop) : Prop :=
  CallH Tryd.prog 11 [(.agg #[(.int .i64 o_0), (Sl.v o_1), (Sl.v o_2), (Sl.v o_3), (.int .i64 o_4), (.int .i64 o_5), (.int .i64 o_6), (.bool o_7)])] h (fun v h' => ∃ r0_0 : Int, ∃ r0_1 : Int, ∃ r0_2 : Bool, ∃ r0_3 : Sl, ∃ r0_4 : Sl, ∃ r0_5 : Sl, v = (.agg #[(.int .i64 r0_0), (.int .i64 r0_1), (.bool r0_2), (Sl.v r0_3), (Sl.v r0_4), (Sl.v r0_5)]) ∧ K r0_0 r0_1 r0_2 r0_3 r0_4 r0_5 h') Kp

def Fn12 (a_0 : Int) (a_1 : Int) (a_2 : Bool) (a_3 : Sl) (a_4 : Sl) (a_5 : Sl) (b_0 : Int) (b_1 : Int) (b_2 : Bool) (b_3 : Sl) (b_4 : Sl) (b_5 : Sl) (h : Hp) (K : Bool → Hp → Prop) (Kp : List PanicEntry → Hp → Prop) : Prop :=
  CallH Tryd.prog 12 [(.agg #[(.int .i64 a_0), (.int .i64 a_1), (.bool a_2), (Sl.v a_3), (Sl.v a_4), (Sl.v a_5)]), (.agg #[(.int .i64 b_0), (.int .i64 b_1), (.bool b_2), (Sl.v b_3), (Sl.v b_4), (Sl.v b_5)])] h (fun v h' => ∃ r0 : Bool, v = (.bool r0) ∧ K r0 h') Kp

def Fn13 (o_0 : Int) (o_1 : Sl) (o_2 : Sl) (o_3 : Sl) (o_4 : Int) (o_5 : Int) (o_6 : Int) (o_7 : Bool) (h : Hp) (K : Sl → Sl → Sl → Hp → Prop) (Kp : List PanicEntry → Hp → Prop) : Prop :=
  CallH Tryd.prog 13 [(.agg #[(.int .i64 o_0), (Sl.v o_1), (Sl.v o_2), (Sl.v o_3), (.int .i64 o_4), (.int .i64 o_5), (.int .i64 o_6), (.bool o_7)])] h (fun v h' => ∃ r0_0 : Sl, ∃ r0_1 : Sl, ∃ r0_2 : Sl, v = (.agg #[(Sl.v r0_0), (Sl.v r0_1), (Sl.v r0_2)]) ∧ K r0_0 r0_1 r0_2 h') Kp

def Fn14 (g_0 : Sl) (g_1 : Sl) (g_2 : Sl) (o_0 : Int) (o_1 : Sl) (o_2 : Sl) (o_3 : Sl) (o_4 : Int) (o_5 : Int) (o_6 : Int) (o_7 : Bool) (h : Hp) (K : Int → Sl → Sl → Sl → Int → Int → Int → Bool → Hp → Prop) (Kp : List PanicEntry → Hp → Prop) : Prop :=
  CallH Tryd.prog 14 [(.agg #[(Sl.v g_0), (Sl.v g_1), (Sl.v g_2)]), (.agg #[(.int .i64 o_0), (Sl.v o_1), (Sl.v o_2), (Sl.v o_3), (.int .i64 o_4), (.int .i64 o_5), (.int .i64 o_6), (.bool o_7)])] h (fun v h' => ∃ r0_0 : Int, ∃ r0_1 : Sl, ∃ r0_2 : Sl, ∃ r0_3 : Sl, ∃ r0_4 : Int, ∃ r0_5 : Int, ∃ r0_6 : Int, ∃ r0_7 : Bool, v = (.agg #[(.int .i64 r0_0), (Sl.v r0_1), (Sl.v r0_2), (Sl.v r0_3), (.int .i64 r0_4), (.int .i64 r0_5), (.int .i64 r0_6), (.bool r0_7)]) ∧ K r0_0 r0_1 r0_2 r0_3 r0_4 r0_5 r0_6 r0_7 h') Kp

def Fn15 (r_0 : Int) (r_1 : Int) (r_2 : Bool) (r_3 : Sl) (r_4 : Sl) (r_5 : Sl) (markv : Int) (h : Hp) (K : Hp → Prop) (Kp : List PanicEntry → Hp → Prop) : Prop :=
  CallH Tryd.prog 15 [(.agg #[(.int .i64 r_0), (.int .i64 r_1), (.bool r_2), (Sl.v r_3), (Sl.v r_4), (Sl.v r_5)]), (.int .u8 markv)] h (fun v h' => v = (.tuple #[]) ∧ K  h') Kp

def Fn16 (g_0 : Sl) (g_1 : Sl) (g_2 : Sl) (hv_0 : Sl) (hv_1 : Sl) (hv_2 : Sl) (h : Hp) (K : Bool → Hp → Prop) (Kp : List PanicEntry → Hp → Prop) : Prop :=
  CallH Tryd.prog 16 [(.agg #[(Sl.v g_0), (Sl.v g_1), (Sl.v g_2)]), (.agg #[(Sl.v hv_0), (Sl.v hv_1), (Sl.v hv_2)])] h (fun v h' => ∃ r0 : Bool, v = (.bool r0) ∧ K r0 h') Kp

def Fn17 (g_0 : Sl) (g_1 : Sl) (g_2 : Sl) (h : Hp) (K : Hp → Prop) (Kp : List PanicEntry → Hp → Prop) : Prop :=
  CallH Tryd.prog 17 [(.agg #[(Sl.v g_0), (Sl.v g_1), (Sl.v g_2)])] h (fun v h' => v = (.tuple #[]) ∧ K  h') Kp

def Fn18 (b : Sl) (fromv : Int) (n : Int) (h : Hp) (K : Sl → Int → Hp → Prop) (Kp : List PanicEntry → Hp → Prop) : Prop :=
  CallH Tryd.prog 18 [(Sl.v b), (.int .i64 fromv), (.int .i64 n)] h (fun v h' => ∃ r0 : Sl, ∃ r1 : Int, v = (.tuple #[(Sl.v r0), (.int .i64 r1)]) ∧ K r0 r1 h') Kp

def Fn19 (b : Sl) (fromv : Int) (n : Int) (h : Hp) (K : Int → Int → Hp → Prop) (Kp : List PanicEntry → Hp → Prop) : Prop :=
  CallH Tryd.prog 19 [(Sl.v b), (.int .i64 fromv), (.int .i64 n)] h (fun v h' => ∃ r0 : Int, ∃ r1 : Int, v = (.tuple #[(.int .i64 r0), (.int .i64 r1)]) ∧ K r0 r1 h') Kp

def Fn20 (b : Sl) (fromv : Int) (n : Int) (h : Hp) (K : Sl → Int → Hp → Prop) (Kp : List PanicEntry → Hp → Prop) : Prop :=
  CallH Tryd.prog 20 [(Sl.v b), (.int .i64 fromv), (.int .i64 n)] h (fun v h' => ∃ r0 : Sl, ∃ r1 : Int, v = (.tuple #[(Sl.v r0), (.int .i64 r1)]) ∧ K r0 r1 h') Kp

def Fn21 (b : Sl) (fromv : Int) (n : Int) (onv : Bool) (h : Hp) (K : Int → Hp → Prop) (Kp : List PanicEntry → Hp → Prop) : Prop :=
  CallH Tryd.prog 21 [(Sl.v b), (.int .i64 fromv), (.int .i64 n), (.bool onv)] h (fun v h' => ∃ r0 : Int, v = (.int .i64 r0) ∧ K r0 h') Kp

def Fn22 (n : Int) (h : Hp) (K : Int → Hp → Prop) (Kp : List PanicEntry → Hp → Prop) : Prop :=
  CallH Tryd.prog 22 [(.int .i64 n)] h (fun v h' => ∃ r0 : Int, v = (.int .i64 r0) ∧ K r0 h') Kp

def Fn23 (a : Sl) (l : Sl) (fromv : Int) (n : Int) (many : Int) (h : Hp) (K : Bool → Hp → Prop) (Kp : List PanicEntry → Hp → Prop) : Prop :=
  CallH Tryd.prog 23 [(Sl.v a), (Sl.v l), (.int .i64 fromv), (.int .i64 n), (.int .i64 many)] h (fun v h' => ∃ r0 : Bool, v = (.bool r0) ∧ K r0 h') Kp

def Fn24 (l : Sl) (h : Hp) (K : Sl → Hp → Prop) (Kp : List PanicEntry → Hp → Prop) : Prop :=
  CallH Tryd.prog 24 [(Sl.v l)] h (fun v h' => ∃ r0 : Sl, v = (Sl.v r0) ∧ K r0 h') Kp

def Fn25 (a : Sl) (b : Sl) (h : Hp) (K : Bool → Hp → Prop) (Kp : List PanicEntry → Hp → Prop) : Prop :=
  CallH Tryd.prog 25 [(Sl.v a), (Sl.v b)] h (fun v h' => ∃ r0 : Bool, v = (.bool r0) ∧ K r0 h') Kp

def Fn26 (b : Sl) (fromv : Int) (n : Int) (h : Hp) (K : Sl → Int → Hp → Prop) (Kp : List PanicEntry → Hp → Prop) : Prop :=
  CallH Tryd.prog 26 [(Sl.v b), (.int .i64 fromv), (.int .i64 n)] h (fun v h' => ∃ r0 : Sl, ∃ r1 : Int, v = (.tuple #[(Sl.v r0), (.int .i64 r1)]) ∧ K r0 r1 h') Kp

def Fn27 (p0 : Value) (h : Hp) (K : Hp → Prop) (Kp : List PanicEntry → Hp → Prop) : Prop :=
  CallH Tryd.prog 27 [p0] h (fun v h' => v = (.tuple #[]) ∧ K  h') Kp

def Fn28 (b : Sl) (fromv : Int) (n : Int) (h : Hp) (K : Value → Hp → Prop) (Kp : List PanicEntry → Hp → Prop) : Prop :=
  CallH Tryd.prog 28 [(Sl.v b), (.int .i64 fromv), (.int .i64 n)] h (fun v h' => ∃ r0 : Value, v = r0 ∧ K r0 h') Kp

def Fn29 (b : Sl) (i : Int) (h : Hp) (K : Bool → Int → Hp → Prop) (Kp : List PanicEntry → Hp → Prop) : Prop :=
  CallH Tryd.prog 29 [(Sl.v b), (.int .i64 i)] h (fun v h' => ∃ r0 : Bool, ∃ r1 : Int, v = (.tuple #[(.bool r0), (.int .i64 r1)]) ∧ K r0 r1 h') Kp

def Fn30 (a : Sl) (b : Sl) (n : Int) (h : Hp) (K : Sl → Int → Hp → Prop) (Kp : List PanicEntry → Hp → Prop) : Prop :=
  CallH Tryd.prog 30 [(Sl.v a), (Sl.v b), (.int .i64 n)] h (fun v h' => ∃ r0 : Sl, ∃ r1 : Int, v = (.tuple #[(Sl.v r0), (.int .i64 r1)]) ∧ K r0 r1 h') Kp

def Fn31 (a : Sl) (b : Sl) (n : Int) (h : Hp) (K : Sl → Int → Hp → Prop) (Kp : List PanicEntry → Hp → Prop) : Prop :=
  CallH Tryd.prog 31 [(Sl.v a), (Sl.v b), (.int .i64 n)] h (fun v h' => ∃ r0 : Sl, ∃ r1 : Int, v = (.tuple #[(Sl.v r0), (.int .i64 r1)]) ∧ K r0 r1 h') Kp

def Fn32 (a : Sl) (b : Sl) (n : Int) (h : Hp) (K : Sl → Int → Hp → Prop) (Kp : List PanicEntry → Hp → Prop) : Prop :=
  CallH Tryd.prog 32 [(Sl.v a), (Sl.v b), (.int .i64 n)] h (fun v h' => ∃ r0 : Sl, ∃ r1 : Int, v = (.tuple #[(Sl.v r0), (.int .i64 r1)]) ∧ K r0 r1 h') Kp

def Fn33 (a : Sl) (n : Int) (h : Hp) (K : Sl → Int → Hp → Prop) (Kp : List PanicEntry → Hp → Prop) : Prop :=
  CallH Tryd.prog 33 [(Sl.v a), (.int .i64 n)] h (fun v h' => ∃ r0 : Sl, ∃ r1 : Int, v = (.tuple #[(Sl.v r0), (.int .i64 r1)]) ∧ K r0 r1 h') Kp

def Fn34 (b : Sl) (fromv : Int) (n : Int) (k : Int) (h : Hp) (K : Int → Int → Hp → Prop) (Kp : List PanicEntry → Hp → Prop) : Prop :=
  CallH Tryd.prog 34 [(Sl.v b), (.int .i64 fromv), (.int .i64 n), (.int .i64 k)] h (fun v h' => ∃ r0 : Int, ∃ r1 : Int, v = (.tuple #[(.int .i64 r0), (.int .i64 r1)]) ∧ K r0 r1 h') Kp

def Fn35 (b : Sl) (i : Int) (h : Hp) (K : Bool → Int → Hp → Prop) (Kp : List PanicEntry → Hp → Prop) : Prop :=
  CallH Tryd.prog 35 [(Sl.v b), (.int .i64 i)] h (fun v h' => ∃ r0 : Bool, ∃ r1 : Int, v = (.tuple #[(.bool r0), (.int .i64 r1)]) ∧ K r0 r1 h') Kp

def Fn36 (b : Sl) (fromv : Int) (n : Int) (h : Hp) (K : Int → Int → Hp → Prop) (Kp : List PanicEntry → Hp → Prop) : Prop :=
  CallH Tryd.prog 36 [(Sl.v b), (.int .i64 fromv), (.int .i64 n)] h (fun v h' => ∃ r0 : Int, ∃ r1 : Int, v = (.tuple #[(.int .i64 r0), (.int .i64 r1)]) ∧ K r0 r1 h') Kp

def Fn37 (l : Sl) (h : Hp) (K : Sl → Hp → Prop) (Kp : List PanicEntry → Hp → Prop) : Prop :=
  CallH Tryd.prog 37 [(Sl.v l)] h (fun v h' => ∃ r0 : Sl, v = (Sl.v r0) ∧ K r0 h') Kp

def Fn38 (b : Sl) (fromv : Int) (n : Int) (h : Hp) (K : Sl → Int → Hp → Prop) (Kp : List PanicEntry → Hp → Prop) : Prop :=
  CallH Tryd.prog 38 [(Sl.v b), (.int .i64 fromv), (.int .i64 n)] h (fun v h' => ∃ r0 : Sl, ∃ r1 : Int, v = (.tuple #[(Sl.v r0), (.int .i64 r1)]) ∧ K r0 r1 h') Kp

def Fn39 (how : Int) (a : Sl) (b : Sl) (n : Int) (h : Hp) (K : Sl → Int → Hp → Prop) (Kp : List PanicEntry → Hp → Prop) : Prop :=
  CallH Tryd.prog 39 [(.int .i64 how), (Sl.v a), (Sl.v b), (.int .i64 n)] h (fun v h' => ∃ r0 : Sl, ∃ r1 : Int, v = (.tuple #[(Sl.v r0), (.int .i64 r1)]) ∧ K r0 r1 h') Kp

def Fn40 (a : Sl) (n : Int) (h : Hp) (K : Sl → Int → Hp → Prop) (Kp : List PanicEntry → Hp → Prop) : Prop :=
  CallH Tryd.prog 40 [(Sl.v a), (.int .i64 n)] h (fun v h' => ∃ r0 : Sl, ∃ r1 : Int, v = (.tuple #[(Sl.v r0), (.int .i64 r1)]) ∧ K r0 r1 h') Kp

def Fn41 (b : Sl) (fromv : Int) (n : Int) (onv : Bool) (h : Hp) (K : Int → Hp → Prop) (Kp : List PanicEntry → Hp → Prop) : Prop :=
  CallH Tryd.prog 41 [(Sl.v b), (.int .i64 fromv), (.int .i64 n), (.bool onv)] h (fun v h' => ∃ r0 : Int, v = (.int .i64 r0) ∧ K r0 h') Kp

def Fn42 (b : Sl) (fromv : Int) (n : Int) (k : Int) (h : Hp) (K : Int → Int → Hp → Prop) (Kp : List PanicEntry → Hp → Prop) : Prop :=
  CallH Tryd.prog 42 [(Sl.v b), (.int .i64 fromv), (.int .i64 n), (.int .i64 k)] h (fun v h' => ∃ r0 : Int, ∃ r1 : Int, v = (.tuple #[(.int .i64 r0), (.int .i64 r1)]) ∧ K r0 r1 h') Kp

def Fn43 (n : Int) (h : Hp) (K : Int → Hp → Prop) (Kp : List PanicEntry → Hp → Prop) : Prop :=
  CallH Tryd.prog 43 [(.int .i64 n)] h (fun v h' => ∃ r0 : Int, v = (.int .i64 r0) ∧ K r0 h') Kp

def Fn44 (l : Sl) (h : Hp) (K : Sl → Hp → Prop) (Kp : List PanicEntry → Hp → Prop) : Prop :=
  CallH Tryd.prog 44 [(Sl.v l)] h (fun v h' => ∃ r0 : Sl, v = (Sl.v r0) ∧ K r0 h') Kp

def Fn45 (l : Sl) (h : Hp) (K : Sl → Hp → Prop) (Kp : List PanicEntry → Hp → Prop) : Prop :=
  CallH Tryd.prog 45 [(Sl.v l)] h (fun v h' => ∃ r0 : Sl, v = (Sl.v r0) ∧ K r0 h') Kp

def Fn46 (b : Sl) (fromv : Int) (n : Int) (h : Hp) (K : Int → Hp → Prop) (Kp : List PanicEntry → Hp → Prop) : Prop :=
  CallH Tryd.prog 46 [(Sl.v b), (.int .i64 fromv), (.int .i64 n)] h (fun v h' => ∃ r0 : Int, v = (.int .i64 r0) ∧ K r0 h') Kp

def Fn47 (b : Sl) (fromv : Int) (n : Int) (h : Hp) (K : Bool → Hp → Prop) (Kp : List PanicEntry → Hp → Prop) : Prop :=
  CallH Tryd.prog 47 [(Sl.v b), (.int .i64 fromv), (.int .i64 n)] h (fun v h' => ∃ r0 : Bool, v = (.bool r0) ∧ K r0 h') Kp

def Fn48 (b : Sl) (i : Int) (h : Hp) (K : Bool → Hp → Prop) (Kp : List PanicEntry → Hp → Prop) : Prop :=
  CallH Tryd.prog 48 [(Sl.v b), (.int .i64 i)] h (fun v h' => ∃ r0 : Bool, v = (.bool r0) ∧ K r0 h') Kp

def Fn49 (b : Sl) (fromv : Int) (n : Int) (h : Hp) (K : Int → Hp → Prop) (Kp : List PanicEntry → Hp → Prop) : Prop :=
  CallH Tryd.prog 49 [(Sl.v b), (.int .i64 fromv), (.int .i64 n)] h (fun v h' => ∃ r0 : Int, v = (.int .i64 r0) ∧ K r0 h') Kp

def Fn50 (b : Sl) (i : Int) (h : Hp) (K : Bool → Hp → Prop) (Kp : List PanicEntry → Hp → Prop) : Prop :=
  CallH Tryd.prog 50 [(Sl.v b), (.int .i64 i)] h (fun v h' => ∃ r0 : Bool, v = (.bool r0) ∧ K r0 h') Kp

def Fn51 (yield : Value) (c1 : Addr) (c2 : Addr) (c3 : Addr) (h : Hp) (K : Hp → Prop) (Kp : List PanicEntry → Hp → Prop) : Prop :=
  CallH Tryd.prog 51 [yield, (.pointer (some c1)), (.pointer (some c2)), (.pointer (some c3))] h (fun v h' => v = (.tuple #[]) ∧ K  h') Kp

def Fn52 (a : Sl) (b : Sl) (n : Int) (how : Value) (h : Hp) (K : Sl → Int → Hp → Prop) (Kp : List PanicEntry → Hp → Prop) : Prop :=
  CallH Tryd.prog 52 [(Sl.v a), (Sl.v b), (.int .i64 n), how] h (fun v h' => ∃ r0 : Sl, ∃ r1 : Int, v = (.tuple #[(Sl.v r0), (.int .i64 r1)]) ∧ K r0 r1 h') Kp

def Fn53 (x : Int) (y : Int) (h : Hp) (K : Int → Hp → Prop) (Kp : List PanicEntry → Hp → Prop) : Prop :=
  CallH Tryd.prog 53 [(.int .u8 x), (.int .u8 y)] h (fun v h' => ∃ r0 : Int, v = (.int .u8 r0) ∧ K r0 h') Kp

def Fn54 (x : Int) (y : Int) (h : Hp) (K : Int → Hp → Prop) (Kp : List PanicEntry → Hp → Prop) : Prop :=
  CallH Tryd.prog 54 [(.int .u8 x), (.int .u8 y)] h (fun v h' => ∃ r0 : Int, v = (.int .u8 r0) ∧ K r0 h') Kp

def Fn55 (x : Int) (y : Int) (h : Hp) (K : Int → Hp → Prop) (Kp : List PanicEntry → Hp → Prop) : Prop :=
  CallH Tryd.prog 55 [(.int .u8 x), (.int .u8 y)] h (fun v h' => ∃ r0 : Int, v = (.int .u8 r0) ∧ K r0 h') Kp

def Fn56 (x : Int) (p1 : Int) (h : Hp) (K : Int → Hp → Prop) (Kp : List PanicEntry → Hp → Prop) : Prop :=
  CallH Tryd.prog 56 [(.int .u8 x), (.int .u8 p1)] h (fun v h' => ∃ r0 : Int, v = (.int .u8 r0) ∧ K r0 h') Kp
end Go.Proofs.YtajgmklgfdgnlaaDoor
