/- What the functions do, printed by program (gen.py) in the words of ShCore; each text is held against the loaded program by the kernel. -/
import Derived.Test.YtfomkkdijjfpiaaDoorShRange
import Derived.Test.YtfomkkdijjfpiaaDoorChecked
set_option linter.unusedSimpArgs false
set_option linter.unusedVariables false
set_option maxRecDepth 100000
namespace Go.Sh
abbrev HP := Hp → Prop
abbrev PK := List PanicEntry → HP
def nn (n : Nat) : Fr := List.replicate n none
end Go.Sh
namespace Go.Proofs.YtfomkkdijjfpiaaDoor
open Go Go.Sh
abbrev Dw := DrawSem Tryd.prog
def Fn3 (hv_0:Int) (hv_1:Sl) (hv_2:Sl) (hv_3:Int) (hv_4:Bool) (hv_5:Int) (hv_6:Int) (hv_7:Sl) (hv_8:Sl) (h:Hp) (K : Bool → HP) (Kp:PK) : Prop :=
 CallH Tryd.prog 3 [(.agg #[(.int .i64 hv_0), (Sl.v hv_1), (Sl.v hv_2), (.int .i64 hv_3), (.bool hv_4), (.int .i64 hv_5), (.int .i64 hv_6), (Sl.v hv_7), (Sl.v hv_8)])] h (fun v h' => ∃ r0 : Bool, v = (.bool r0) ∧ K r0 h') Kp
def Fn4 (b:Sl) (h:Hp) (K : Bool → HP) (Kp:PK) : Prop :=
 CallH Tryd.prog 4 [(Sl.v b)] h (fun v h' => ∃ r0 : Bool, v = (.bool r0) ∧ K r0 h') Kp
def Fn5 (hv_0:Int) (hv_1:Sl) (hv_2:Sl) (hv_3:Int) (hv_4:Bool) (hv_5:Int) (hv_6:Int) (hv_7:Sl) (hv_8:Sl) (morev:Sl) (h:Hp) (K : Bool → HP) (Kp:PK) : Prop :=
 CallH Tryd.prog 5 [(.agg #[(.int .i64 hv_0), (Sl.v hv_1), (Sl.v hv_2), (.int .i64 hv_3), (.bool hv_4), (.int .i64 hv_5), (.int .i64 hv_6), (Sl.v hv_7), (Sl.v hv_8)]), (Sl.v morev)] h (fun v h' => ∃ r0 : Bool, v = (.bool r0) ∧ K r0 h') Kp
def Fn6 (b:Sl) (h:Hp) (K : Bool → HP) (Kp:PK) : Prop :=
 CallH Tryd.prog 6 [(Sl.v b)] h (fun v h' => ∃ r0 : Bool, v = (.bool r0) ∧ K r0 h') Kp
def Fn7 (hv_0:Int) (hv_1:Sl) (hv_2:Sl) (hv_3:Int) (hv_4:Bool) (hv_5:Int) (hv_6:Int) (hv_7:Sl) (hv_8:Sl) (b:Sl) (h:Hp) (K : Bool → HP) (Kp:PK) : Prop :=
 CallH Tryd.prog 7 [(.agg #[(.int .i64 hv_0), (Sl.v hv_1), (Sl.v hv_2), (.int .i64 hv_3), (.bool hv_4), (.int .i64 hv_5), (.int .i64 hv_6), (Sl.v hv_7), (Sl.v hv_8)]), (Sl.v b)] h (fun v h' => ∃ r0 : Bool, v = (.bool r0) ∧ K r0 h') Kp
def Fn8 (hv_0:Int) (hv_1:Sl) (hv_2:Sl) (hv_3:Int) (hv_4:Bool) (hv_5:Int) (hv_6:Int) (hv_7:Sl) (hv_8:Sl) (h:Hp) (K : Sl → Int → HP) (Kp:PK) : Prop :=
 CallH Tryd.prog 8 [(.agg #[(.int .i64 hv_0), (Sl.v hv_1), (Sl.v hv_2), (.int .i64 hv_3), (.bool hv_4), (.int .i64 hv_5), (.int .i64 hv_6), (Sl.v hv_7), (Sl.v hv_8)])] h (fun v h' => ∃ r0 : Sl, ∃ r1 : Int, v = (.tuple #[(Sl.v r0), (.int .i64 r1)]) ∧ K r0 r1 h') Kp
def Fn9 (hv_0:Int) (hv_1:Sl) (hv_2:Sl) (hv_3:Int) (hv_4:Bool) (hv_5:Int) (hv_6:Int) (hv_7:Sl) (hv_8:Sl) (h:Hp) (K : Sl → Int → HP) (Kp:PK) : Prop :=
 CallH Tryd.prog 9 [(.agg #[(.int .i64 hv_0), (Sl.v hv_1), (Sl.v hv_2), (.int .i64 hv_3), (.bool hv_4), (.int .i64 hv_5), (.int .i64 hv_6), (Sl.v hv_7), (Sl.v hv_8)])] h (fun v h' => ∃ r0 : Sl, ∃ r1 : Int, v = (.tuple #[(Sl.v r0), (.int .i64 r1)]) ∧ K r0 r1 h') Kp
def Fn10 (a:Sl) (b:Sl) (h:Hp) (K : Bool → HP) (Kp:PK) : Prop :=
 CallH Tryd.prog 10 [(Sl.v a), (Sl.v b)] h (fun v h' => ∃ r0 : Bool, v = (.bool r0) ∧ K r0 h') Kp
def Fn11 (h:Hp) (K : Bool → HP) (Kp:PK) : Prop :=
 CallH Tryd.prog 11 [] h (fun v h' => ∃ r0 : Bool, v = (.bool r0) ∧ K r0 h') Kp
def Fn12 (b:Sl) (h:Hp) (K : Int → Sl → Sl → Int → Bool → Int → Int → Sl → Sl → Int → Sl → Int → HP) (Kp:PK) : Prop :=
 CallH Tryd.prog 12 [(Sl.v b)] h (fun v h' => ∃ r0_0 : Int, ∃ r0_1 : Sl, ∃ r0_2 : Sl, ∃ r0_3 : Int, ∃ r0_4 : Bool, ∃ r0_5 : Int, ∃ r0_6 : Int, ∃ r0_7 : Sl, ∃ r0_8 : Sl, ∃ r1_0 : Int, ∃ r1_1 : Sl, ∃ r1_2 : Int, v = (.tuple #[(.agg #[(.int .i64 r0_0), (Sl.v r0_1), (Sl.v r0_2), (.int .i64 r0_3), (.bool r0_4), (.int .i64 r0_5), (.int .i64 r0_6), (Sl.v r0_7), (Sl.v r0_8)]), (.agg #[(.int .i64 r1_0), (Sl.v r1_1), (.int .i64 r1_2)])]) ∧ K r0_0 r0_1 r0_2 r0_3 r0_4 r0_5 r0_6 r0_7 r0_8 r1_0 r1_1 r1_2 h') Kp
def Fn13 (b:Sl) (h:Hp) (K : Int → Sl → Sl → Int → Bool → Int → Int → Sl → Sl → Int → Sl → Int → HP) (Kp:PK) : Prop :=
 CallH Tryd.prog 13 [(Sl.v b)] h (fun v h' => ∃ r0_0 : Int, ∃ r0_1 : Sl, ∃ r0_2 : Sl, ∃ r0_3 : Int, ∃ r0_4 : Bool, ∃ r0_5 : Int, ∃ r0_6 : Int, ∃ r0_7 : Sl, ∃ r0_8 : Sl, ∃ r1_0 : Int, ∃ r1_1 : Sl, ∃ r1_2 : Int, v = (.tuple #[(.agg #[(.int .i64 r0_0), (Sl.v r0_1), (Sl.v r0_2), (.int .i64 r0_3), (.bool r0_4), (.int .i64 r0_5), (.int .i64 r0_6), (Sl.v r0_7), (Sl.v r0_8)]), (.agg #[(.int .i64 r1_0), (Sl.v r1_1), (.int .i64 r1_2)])]) ∧ K r0_0 r0_1 r0_2 r0_3 r0_4 r0_5 r0_6 r0_7 r0_8 r1_0 r1_1 r1_2 h') Kp
def Fn14 (a_0:Int) (a_1:Sl) (a_2:Int) (b_0:Int) (b_1:Sl) (b_2:Int) (h:Hp) (K : Bool → HP) (Kp:PK) : Prop :=
 CallH Tryd.prog 14 [(.agg #[(.int .i64 a_0), (Sl.v a_1), (.int .i64 a_2)]), (.agg #[(.int .i64 b_0), (Sl.v b_1), (.int .i64 b_2)])] h (fun v h' => ∃ r0 : Bool, v = (.bool r0) ∧ K r0 h') Kp
def Fn15 (a_0:Int) (a_1:Sl) (a_2:Sl) (a_3:Int) (a_4:Bool) (a_5:Int) (a_6:Int) (a_7:Sl) (a_8:Sl) (b_0:Int) (b_1:Sl) (b_2:Sl) (b_3:Int) (b_4:Bool) (b_5:Int) (b_6:Int) (b_7:Sl) (b_8:Sl) (h:Hp) (K : Bool → HP) (Kp:PK) : Prop :=
 CallH Tryd.prog 15 [(.agg #[(.int .i64 a_0), (Sl.v a_1), (Sl.v a_2), (.int .i64 a_3), (.bool a_4), (.int .i64 a_5), (.int .i64 a_6), (Sl.v a_7), (Sl.v a_8)]), (.agg #[(.int .i64 b_0), (Sl.v b_1), (Sl.v b_2), (.int .i64 b_3), (.bool b_4), (.int .i64 b_5), (.int .i64 b_6), (Sl.v b_7), (Sl.v b_8)])] h (fun v h' => ∃ r0 : Bool, v = (.bool r0) ∧ K r0 h') Kp
def Fn16 (hv_0:Int) (hv_1:Sl) (hv_2:Sl) (hv_3:Int) (hv_4:Bool) (hv_5:Int) (hv_6:Int) (hv_7:Sl) (hv_8:Sl) (h:Hp) (K : Bool → HP) (Kp:PK) : Prop :=
 CallH Tryd.prog 16 [(.agg #[(.int .i64 hv_0), (Sl.v hv_1), (Sl.v hv_2), (.int .i64 hv_3), (.bool hv_4), (.int .i64 hv_5), (.int .i64 hv_6), (Sl.v hv_7), (Sl.v hv_8)])] h (fun v h' => ∃ r0 : Bool, v = (.bool r0) ∧ K r0 h') Kp
def Fn17 (hv_0:Int) (hv_1:Sl) (hv_2:Sl) (hv_3:Int) (hv_4:Bool) (hv_5:Int) (hv_6:Int) (hv_7:Sl) (hv_8:Sl) (h:Hp) (K : Int → Sl → Sl → Int → Bool → Int → Int → Sl → Sl → HP) (Kp:PK) : Prop :=
 CallH Tryd.prog 17 [(.agg #[(.int .i64 hv_0), (Sl.v hv_1), (Sl.v hv_2), (.int .i64 hv_3), (.bool hv_4), (.int .i64 hv_5), (.int .i64 hv_6), (Sl.v hv_7), (Sl.v hv_8)])] h (fun v h' => ∃ r0_0 : Int, ∃ r0_1 : Sl, ∃ r0_2 : Sl, ∃ r0_3 : Int, ∃ r0_4 : Bool, ∃ r0_5 : Int, ∃ r0_6 : Int, ∃ r0_7 : Sl, ∃ r0_8 : Sl, v = (.agg #[(.int .i64 r0_0), (Sl.v r0_1), (Sl.v r0_2), (.int .i64 r0_3), (.bool r0_4), (.int .i64 r0_5), (.int .i64 r0_6), (Sl.v r0_7), (Sl.v r0_8)]) ∧ K r0_0 r0_1 r0_2 r0_3 r0_4 r0_5 r0_6 r0_7 r0_8 h') Kp
def Fn18 (b:Sl) (h:Hp) (K:HP) (Kp:PK) : Prop :=
 CallH Tryd.prog 18 [(Sl.v b)] h (fun v h' => v = (.tuple #[]) ∧ K  h') Kp
def Fn19 (hv_0:Int) (hv_1:Sl) (hv_2:Sl) (hv_3:Int) (hv_4:Bool) (hv_5:Int) (hv_6:Int) (hv_7:Sl) (hv_8:Sl) (want_0:Int) (want_1:Sl) (want_2:Sl) (want_3:Int) (want_4:Bool) (want_5:Int) (want_6:Int) (want_7:Sl) (want_8:Sl) (h:Hp) (K : Bool → HP) (Kp:PK) : Prop :=
 CallH Tryd.prog 19 [(.agg #[(.int .i64 hv_0), (Sl.v hv_1), (Sl.v hv_2), (.int .i64 hv_3), (.bool hv_4), (.int .i64 hv_5), (.int .i64 hv_6), (Sl.v hv_7), (Sl.v hv_8)]), (.agg #[(.int .i64 want_0), (Sl.v want_1), (Sl.v want_2), (.int .i64 want_3), (.bool want_4), (.int .i64 want_5), (.int .i64 want_6), (Sl.v want_7), (Sl.v want_8)])] h (fun v h' => ∃ r0 : Bool, v = (.bool r0) ∧ K r0 h') Kp
def Fn20 (b:Sl) (h:Hp) (K : Bool → HP) (Kp:PK) : Prop :=
 CallH Tryd.prog 20 [(Sl.v b)] h (fun v h' => ∃ r0 : Bool, v = (.bool r0) ∧ K r0 h') Kp
def Fn21 (hv_0:Int) (hv_1:Sl) (hv_2:Sl) (hv_3:Int) (hv_4:Bool) (hv_5:Int) (hv_6:Int) (hv_7:Sl) (hv_8:Sl) (h:Hp) (K : Bool → HP) (Kp:PK) : Prop :=
 CallH Tryd.prog 21 [(.agg #[(.int .i64 hv_0), (Sl.v hv_1), (Sl.v hv_2), (.int .i64 hv_3), (.bool hv_4), (.int .i64 hv_5), (.int .i64 hv_6), (Sl.v hv_7), (Sl.v hv_8)])] h (fun v h' => ∃ r0 : Bool, v = (.bool r0) ∧ K r0 h') Kp
def Fn22 (w : Option Addr) (n:Int) (width:Int) (h:Hp) (K:HP) (Kp:PK) : Prop :=
 CallH Tryd.prog 22 [(.pointer w), (.int .i64 n), (.int .i64 width)] h (fun v h' => v = (.tuple #[]) ∧ K  h') Kp
def Fn23 (w : Option Addr) (s_0:Sl) (s_1:Sl) (h:Hp) (K:HP) (Kp:PK) : Prop :=
 CallH Tryd.prog 23 [(.pointer w), (.agg #[(Sl.v s_0), (Sl.v s_1)])] h (fun v h' => v = (.tuple #[]) ∧ K  h') Kp
def Fn24 (w : Option Addr) (isv:Bool) (h:Hp) (K:HP) (Kp:PK) : Prop :=
 CallH Tryd.prog 24 [(.pointer w), (.bool isv)] h (fun v h' => v = (.tuple #[]) ∧ K  h') Kp
def Fn25 (b:Sl) (x:Int) (width:Int) (h:Hp) (K : Sl → HP) (Kp:PK) : Prop :=
 CallH Tryd.prog 25 [(Sl.v b), (.int .i64 x), (.int .i64 width)] h (fun v h' => ∃ r0 : Sl, v = (Sl.v r0) ∧ K r0 h') Kp
def Fn26 (b:Sl) (f_0 : ByteArray) (f_1:Bool) (f_2:Int) (f_3:Int) (f_4:Int) (f_5:Int) (f_6:Sl) (h:Hp) (K : Sl → HP) (Kp:PK) : Prop :=
 CallH Tryd.prog 26 [(Sl.v b), (.agg #[(.string f_0), (.bool f_1), (.int .i64 f_2), (.int .i64 f_3), (.int .i64 f_4), (.int .i64 f_5), (Sl.v f_6)])] h (fun v h' => ∃ r0 : Sl, v = (Sl.v r0) ∧ K r0 h') Kp
def Fn27 (b:Sl) (s : ByteArray) (width:Int) (h:Hp) (K : Sl → HP) (Kp:PK) : Prop :=
 CallH Tryd.prog 27 [(Sl.v b), (.string s), (.int .i64 width)] h (fun v h' => ∃ r0 : Sl, v = (Sl.v r0) ∧ K r0 h') Kp
def Fn28 (b:Sl) (yes:Bool) (h:Hp) (K : Sl → HP) (Kp:PK) : Prop :=
 CallH Tryd.prog 28 [(Sl.v b), (.bool yes)] h (fun v h' => ∃ r0 : Sl, v = (Sl.v r0) ∧ K r0 h') Kp
def Fn29 (c0:Addr) (c1:Addr) (h:Hp) (K:HP) (Kp:PK) : Prop :=
 CallH Tryd.prog 29 [(.pointer (some c0)), (.pointer (some c1))] h (fun v h' => v = (.tuple #[]) ∧ K  h') Kp
def Fn30 (r : Option Addr) (h:Hp) (K : Int → Sl → Sl → Int → Bool → Int → Int → Sl → Sl → HP) (Kp:PK) : Prop :=
 CallH Tryd.prog 30 [(.pointer r)] h (fun v h' => ∃ r0_0 : Int, ∃ r0_1 : Sl, ∃ r0_2 : Sl, ∃ r0_3 : Int, ∃ r0_4 : Bool, ∃ r0_5 : Int, ∃ r0_6 : Int, ∃ r0_7 : Sl, ∃ r0_8 : Sl, v = (.agg #[(.int .i64 r0_0), (Sl.v r0_1), (Sl.v r0_2), (.int .i64 r0_3), (.bool r0_4), (.int .i64 r0_5), (.int .i64 r0_6), (Sl.v r0_7), (Sl.v r0_8)]) ∧ K r0_0 r0_1 r0_2 r0_3 r0_4 r0_5 r0_6 r0_7 r0_8 h') Kp
def Fn31 (r : Option Addr) (least:Int) (most:Int) (h:Hp) (K : Int → HP) (Kp:PK) : Prop :=
 CallH Tryd.prog 31 [(.pointer r), (.int .i64 least), (.int .i64 most)] h (fun v h' => ∃ r0 : Int, v = (.int .i64 r0) ∧ K r0 h') Kp
def Fn32 (r : Option Addr) (h:Hp) (K : Sl → Sl → HP) (Kp:PK) : Prop :=
 CallH Tryd.prog 32 [(.pointer r)] h (fun v h' => ∃ r0_0 : Sl, ∃ r0_1 : Sl, v = (.agg #[(Sl.v r0_0), (Sl.v r0_1)]) ∧ K r0_0 r0_1 h') Kp
def Fn33 (r : Option Addr) (width:Int) (h:Hp) (K : Int → HP) (Kp:PK) : Prop :=
 CallH Tryd.prog 33 [(.pointer r), (.int .i64 width)] h (fun v h' => ∃ r0 : Int, v = (.int .i64 r0) ∧ K r0 h') Kp
def Fn34 (r : Option Addr) (hv_0:Int) (hv_1:Sl) (hv_2:Sl) (hv_3:Int) (hv_4:Bool) (hv_5:Int) (hv_6:Int) (hv_7:Sl) (hv_8:Sl) (h:Hp) (K : Int → Sl → Sl → Int → Bool → Int → Int → Sl → Sl → HP) (Kp:PK) : Prop :=
 CallH Tryd.prog 34 [(.pointer r), (.agg #[(.int .i64 hv_0), (Sl.v hv_1), (Sl.v hv_2), (.int .i64 hv_3), (.bool hv_4), (.int .i64 hv_5), (.int .i64 hv_6), (Sl.v hv_7), (Sl.v hv_8)])] h (fun v h' => ∃ r0_0 : Int, ∃ r0_1 : Sl, ∃ r0_2 : Sl, ∃ r0_3 : Int, ∃ r0_4 : Bool, ∃ r0_5 : Int, ∃ r0_6 : Int, ∃ r0_7 : Sl, ∃ r0_8 : Sl, v = (.agg #[(.int .i64 r0_0), (Sl.v r0_1), (Sl.v r0_2), (.int .i64 r0_3), (.bool r0_4), (.int .i64 r0_5), (.int .i64 r0_6), (Sl.v r0_7), (Sl.v r0_8)]) ∧ K r0_0 r0_1 r0_2 r0_3 r0_4 r0_5 r0_6 r0_7 r0_8 h') Kp
def Fn35 (r : Option Addr) (e:Int) (atv:Int) (h:Hp) (K:HP) (Kp:PK) : Prop :=
 CallH Tryd.prog 35 [(.pointer r), (.int .i64 e), (.int .i64 atv)] h (fun v h' => v = (.tuple #[]) ∧ K  h') Kp
def Fn36 (a:Sl) (b:Sl) (h:Hp) (K : Bool → HP) (Kp:PK) : Prop :=
 CallH Tryd.prog 36 [(Sl.v a), (Sl.v b)] h (fun v h' => ∃ r0 : Bool, v = (.bool r0) ∧ K r0 h') Kp
def Fn37 (s_0:Sl) (s_1:Sl) (h:Hp) (K : Bool → HP) (Kp:PK) : Prop :=
 CallH Tryd.prog 37 [(.agg #[(Sl.v s_0), (Sl.v s_1)])] h (fun v h' => ∃ r0 : Bool, v = (.bool r0) ∧ K r0 h') Kp
def Fn38 (l:Sl) (h:Hp) (K : Sl → HP) (Kp:PK) : Prop :=
 CallH Tryd.prog 38 [(Sl.v l)] h (fun v h' => ∃ r0 : Sl, v = (Sl.v r0) ∧ K r0 h') Kp
def Fn39 (l:Sl) (want:Sl) (h:Hp) (K : Bool → HP) (Kp:PK) : Prop :=
 CallH Tryd.prog 39 [(Sl.v l), (Sl.v want)] h (fun v h' => ∃ r0 : Bool, v = (.bool r0) ∧ K r0 h') Kp
def Fn40 (hv_0:Int) (hv_1:Sl) (hv_2:Sl) (hv_3:Int) (hv_4:Bool) (hv_5:Int) (hv_6:Int) (hv_7:Sl) (hv_8:Sl) (h:Hp) (K:HP) (Kp:PK) : Prop :=
 CallH Tryd.prog 40 [(.agg #[(.int .i64 hv_0), (Sl.v hv_1), (Sl.v hv_2), (.int .i64 hv_3), (.bool hv_4), (.int .i64 hv_5), (.int .i64 hv_6), (Sl.v hv_7), (Sl.v hv_8)])] h (fun v h' => v = (.tuple #[]) ∧ K  h') Kp
def Fn41 (s_0:Sl) (s_1:Sl) (h:Hp) (K : Int → Sl → Int → HP) (Kp:PK) : Prop :=
 CallH Tryd.prog 41 [(.agg #[(Sl.v s_0), (Sl.v s_1)])] h (fun v h' => ∃ r0_0 : Int, ∃ r0_1 : Sl, ∃ r0_2 : Int, v = (.agg #[(.int .i64 r0_0), (Sl.v r0_1), (.int .i64 r0_2)]) ∧ K r0_0 r0_1 r0_2 h') Kp
def Fn42 (hv_0:Int) (hv_1:Sl) (hv_2:Sl) (hv_3:Int) (hv_4:Bool) (hv_5:Int) (hv_6:Int) (hv_7:Sl) (hv_8:Sl) (h:Hp) (K : Bool → HP) (Kp:PK) : Prop :=
 CallH Tryd.prog 42 [(.agg #[(.int .i64 hv_0), (Sl.v hv_1), (Sl.v hv_2), (.int .i64 hv_3), (.bool hv_4), (.int .i64 hv_5), (.int .i64 hv_6), (Sl.v hv_7), (Sl.v hv_8)])] h (fun v h' => ∃ r0 : Bool, v = (.bool r0) ∧ K r0 h') Kp
def Fn43 (w : Option Addr) (f_0 : ByteArray) (f_1:Bool) (f_2:Int) (f_3:Int) (f_4:Int) (f_5:Int) (f_6:Sl) (h:Hp) (K:HP) (Kp:PK) : Prop :=
 CallH Tryd.prog 43 [(.pointer w), (.agg #[(.string f_0), (.bool f_1), (.int .i64 f_2), (.int .i64 f_3), (.int .i64 f_4), (.int .i64 f_5), (Sl.v f_6)])] h (fun v h' => v = (.tuple #[]) ∧ K  h') Kp
def Fn44 (w : Option Addr) (s : ByteArray) (width:Int) (h:Hp) (K:HP) (Kp:PK) : Prop :=
 CallH Tryd.prog 44 [(.pointer w), (.string s), (.int .i64 width)] h (fun v h' => v = (.tuple #[]) ∧ K  h') Kp
def Fn45 (r : Option Addr) (low:Int) (high:Int) (h:Hp) (K : Int → HP) (Kp:PK) : Prop :=
 CallH Tryd.prog 45 [(.pointer r), (.int .i64 low), (.int .i64 high)] h (fun v h' => ∃ r0 : Int, v = (.int .i64 r0) ∧ K r0 h') Kp
def Fn46 (r : Option Addr) (h:Hp) (K : Sl → Sl → HP) (Kp:PK) : Prop :=
 CallH Tryd.prog 46 [(.pointer r)] h (fun v h' => ∃ r0_0 : Sl, ∃ r0_1 : Sl, v = (.agg #[(Sl.v r0_0), (Sl.v r0_1)]) ∧ K r0_0 r0_1 h') Kp
def Fn47 (r : Option Addr) (width:Int) (h:Hp) (K : Int → HP) (Kp:PK) : Prop :=
 CallH Tryd.prog 47 [(.pointer r), (.int .i64 width)] h (fun v h' => ∃ r0 : Int, v = (.int .i64 r0) ∧ K r0 h') Kp
def Fn48 (r : Option Addr) (around:Int) (h:Hp) (K : ByteArray → Bool → Int → Int → Int → Int → Sl → HP) (Kp:PK) : Prop :=
 CallH Tryd.prog 48 [(.pointer r), (.int .i64 around)] h (fun v h' => ∃ r0_0 : ByteArray, ∃ r0_1 : Bool, ∃ r0_2 : Int, ∃ r0_3 : Int, ∃ r0_4 : Int, ∃ r0_5 : Int, ∃ r0_6 : Sl, v = (.agg #[(.string r0_0), (.bool r0_1), (.int .i64 r0_2), (.int .i64 r0_3), (.int .i64 r0_4), (.int .i64 r0_5), (Sl.v r0_6)]) ∧ K r0_0 r0_1 r0_2 r0_3 r0_4 r0_5 r0_6 h') Kp
def Fn49 (r : Option Addr) (width:Int) (h:Hp) (K : ByteArray → HP) (Kp:PK) : Prop :=
 CallH Tryd.prog 49 [(.pointer r), (.int .i64 width)] h (fun v h' => ∃ r0 : ByteArray, v = (.string r0) ∧ K r0 h') Kp
def Fn50 (r : Option Addr) (n:Int) (h:Hp) (K : Sl → HP) (Kp:PK) : Prop :=
 CallH Tryd.prog 50 [(.pointer r), (.int .i64 n)] h (fun v h' => ∃ r0 : Sl, v = (Sl.v r0) ∧ K r0 h') Kp
def Fn51 (l:Sl) (h:Hp) (K : Bool → HP) (Kp:PK) : Prop :=
 CallH Tryd.prog 51 [(Sl.v l)] h (fun v h' => ∃ r0 : Bool, v = (.bool r0) ∧ K r0 h') Kp
def Fn52 (s : Option Addr) (f_0 : ByteArray) (f_1:Bool) (f_2:Int) (f_3:Int) (f_4:Int) (f_5:Int) (f_6:Sl) (deep:Int) (inside:Bool) (h:Hp) (K : Bool → HP) (Kp:PK) : Prop :=
 CallH Tryd.prog 52 [(.pointer s), (.agg #[(.string f_0), (.bool f_1), (.int .i64 f_2), (.int .i64 f_3), (.int .i64 f_4), (.int .i64 f_5), (Sl.v f_6)]), (.int .i64 deep), (.bool inside)] h (fun v h' => ∃ r0 : Bool, v = (.bool r0) ∧ K r0 h') Kp
def Fn53 (i:Int) (h:Hp) (K : ByteArray → Bool → Int → Int → Int → Int → Sl → HP) (Kp:PK) : Prop :=
 CallH Tryd.prog 53 [(.int .i64 i)] h (fun v h' => ∃ r0_0 : ByteArray, ∃ r0_1 : Bool, ∃ r0_2 : Int, ∃ r0_3 : Int, ∃ r0_4 : Int, ∃ r0_5 : Int, ∃ r0_6 : Sl, v = (.agg #[(.string r0_0), (.bool r0_1), (.int .i64 r0_2), (.int .i64 r0_3), (.int .i64 r0_4), (.int .i64 r0_5), (Sl.v r0_6)]) ∧ K r0_0 r0_1 r0_2 r0_3 r0_4 r0_5 r0_6 h') Kp
def Fn54 (l:Sl) (h:Hp) (K:HP) (Kp:PK) : Prop :=
 CallH Tryd.prog 54 [(Sl.v l)] h (fun v h' => v = (.tuple #[]) ∧ K  h') Kp
def Fn55 (l:Sl) (h:Hp) (K:HP) (Kp:PK) : Prop :=
 CallH Tryd.prog 55 [(Sl.v l)] h (fun v h' => v = (.tuple #[]) ∧ K  h') Kp
def Fn56 (l:Sl) (most:Int) (h:Hp) (K : Value → HP) (Kp:PK) : Prop :=
 CallH Tryd.prog 56 [(Sl.v l), (.int .i64 most)] h (fun v h' => ∃ r0 : Value, v = r0 ∧ K r0 h') Kp
def Fn57 (p_0:Sl) (p_1:Sl) (p_2 : ByteArray) (p_3:Bool) (p_4:Int) (p_5:Int) (p_6:Int) (p_7:Int) (p_8:Sl) (p_9:Bool) (ahead:Int) (ids : Option Nat) (h:Hp) (K : Int → HP) (Kp:PK) : Prop :=
 CallH Tryd.prog 57 [(.agg #[(Sl.v p_0), (Sl.v p_1), (.string p_2), (.bool p_3), (.int .i64 p_4), (.int .i64 p_5), (.int .i64 p_6), (.int .i64 p_7), (Sl.v p_8), (.bool p_9)]), (.int .i64 ahead), (.map ids)] h (fun v h' => ∃ r0 : Int, v = (.int .i64 r0) ∧ K r0 h') Kp
def Fn58 (r : Option Addr) (around:Int) (h:Hp) (K : ByteArray → Bool → Int → Int → Int → Int → Sl → HP) (Kp:PK) : Prop :=
 CallH Tryd.prog 58 [(.pointer r), (.int .i64 around)] h (fun v h' => ∃ r0_0 : ByteArray, ∃ r0_1 : Bool, ∃ r0_2 : Int, ∃ r0_3 : Int, ∃ r0_4 : Int, ∃ r0_5 : Int, ∃ r0_6 : Sl, v = (.agg #[(.string r0_0), (.bool r0_1), (.int .i64 r0_2), (.int .i64 r0_3), (.int .i64 r0_4), (.int .i64 r0_5), (Sl.v r0_6)]) ∧ K r0_0 r0_1 r0_2 r0_3 r0_4 r0_5 r0_6 h') Kp
def Fn59 (r : Option Addr) (width:Int) (h:Hp) (K : ByteArray → HP) (Kp:PK) : Prop :=
 CallH Tryd.prog 59 [(.pointer r), (.int .i64 width)] h (fun v h' => ∃ r0 : ByteArray, v = (.string r0) ∧ K r0 h') Kp
def Fn60 (r : Option Addr) (n:Int) (h:Hp) (K : Sl → HP) (Kp:PK) : Prop :=
 CallH Tryd.prog 60 [(.pointer r), (.int .i64 n)] h (fun v h' => ∃ r0 : Sl, v = (Sl.v r0) ∧ K r0 h') Kp
def Fn61 (s : ByteArray) (h:Hp) (K : Bool → HP) (Kp:PK) : Prop :=
 CallH Tryd.prog 61 [(.string s)] h (fun v h' => ∃ r0 : Bool, v = (.bool r0) ∧ K r0 h') Kp
def Fn62 (t_0:Int) (t_1:Int) (t_2:Int) (t_3:Int) (t_4:Sl) (h:Hp) (K : Bool → HP) (Kp:PK) : Prop :=
 CallH Tryd.prog 62 [(.agg #[(.int .i64 t_0), (.int .i64 t_1), (.int .i64 t_2), (.int .i64 t_3), (Sl.v t_4)])] h (fun v h' => ∃ r0 : Bool, v = (.bool r0) ∧ K r0 h') Kp
def Fn63 (yield : Value) (c1:Addr) (c2:Addr) (h:Hp) (K:HP) (Kp:PK) : Prop :=
 CallH Tryd.prog 63 [yield, (.pointer (some c1)), (.pointer (some c2))] h (fun v h' => v = (.tuple #[]) ∧ K  h') Kp
def Fn64 (path:Sl) (l:Sl) (inDict:Bool) (c3:Addr) (c4:Addr) (c5:Addr) (h:Hp) (K : Bool → HP) (Kp:PK) : Prop :=
 CallH Tryd.prog 64 [(Sl.v path), (Sl.v l), (.bool inDict), (.pointer (some c3)), (.pointer (some c4)), (.pointer (some c5))] h (fun v h' => ∃ r0 : Bool, v = (.bool r0) ∧ K r0 h') Kp
def Fn65 (s:Sl) (h:Hp) (K : Sl → HP) (Kp:PK) : Prop :=
 CallH Tryd.prog 65 [(Sl.v s)] h (fun v h' => ∃ r0 : Sl, v = (Sl.v r0) ∧ K r0 h') Kp
def Fn66 (s : ByteArray) (h:Hp) (K : Bool → HP) (Kp:PK) : Prop :=
 CallH Tryd.prog 66 [(.string s)] h (fun v h' => ∃ r0 : Bool, v = (.bool r0) ∧ K r0 h') Kp
def Fn67 (s:Sl) (f : Value) (h:Hp) (K : Bool → HP) (Kp:PK) : Prop :=
 CallH Tryd.prog 67 [(Sl.v s), f] h (fun v h' => ∃ r0 : Bool, v = (.bool r0) ∧ K r0 h') Kp
def Fn68 (g_0 : ByteArray) (g_1:Bool) (g_2:Int) (g_3:Int) (g_4:Int) (g_5:Int) (g_6:Sl) (c1:Addr) (h:Hp) (K : Bool → HP) (Kp:PK) : Prop :=
 CallH Tryd.prog 68 [(.agg #[(.string g_0), (.bool g_1), (.int .i64 g_2), (.int .i64 g_3), (.int .i64 g_4), (.int .i64 g_5), (Sl.v g_6)]), (.pointer (some c1))] h (fun v h' => ∃ r0 : Bool, v = (.bool r0) ∧ K r0 h') Kp
def Fn69 (t_0:Int) (t_1:Int) (t_2:Int) (t_3:Int) (t_4:Sl) (h:Hp) (K : Bool → HP) (Kp:PK) : Prop :=
 CallH Tryd.prog 69 [(.agg #[(.int .i64 t_0), (.int .i64 t_1), (.int .i64 t_2), (.int .i64 t_3), (Sl.v t_4)])] h (fun v h' => ∃ r0 : Bool, v = (.bool r0) ∧ K r0 h') Kp
def Fn70 (f_0 : ByteArray) (f_1:Bool) (f_2:Int) (f_3:Int) (f_4:Int) (f_5:Int) (f_6:Sl) (h:Hp) (K : Bool → HP) (Kp:PK) : Prop :=
 CallH Tryd.prog 70 [(.agg #[(.string f_0), (.bool f_1), (.int .i64 f_2), (.int .i64 f_3), (.int .i64 f_4), (.int .i64 f_5), (Sl.v f_6)])] h (fun v h' => ∃ r0 : Bool, v = (.bool r0) ∧ K r0 h') Kp
def Fn71 (c:Int) (h:Hp) (K : Bool → HP) (Kp:PK) : Prop :=
 CallH Tryd.prog 71 [(.int .u8 c)] h (fun v h' => ∃ r0 : Bool, v = (.bool r0) ∧ K r0 h') Kp
def Fn72 (s:Sl) (f : Value) (h:Hp) (K : Int → HP) (Kp:PK) : Prop :=
 CallH Tryd.prog 72 [(Sl.v s), f] h (fun v h' => ∃ r0 : Int, v = (.int .i64 r0) ∧ K r0 h') Kp
def Fn73 (kind:Int) (h:Hp) (K : Bool → HP) (Kp:PK) : Prop :=
 CallH Tryd.prog 73 [(.int .i64 kind)] h (fun v h' => ∃ r0 : Bool, v = (.bool r0) ∧ K r0 h') Kp
end Go.Proofs.YtfomkkdijjfpiaaDoor
