/- What the functions do, printed by program (gen.py) in the words of ShCore; each text is held against the loaded program by the kernel. -/
import Derived.Test.YtfomkkdijjfpiaaDoorKeepsF
set_option linter.unusedSimpArgs false
set_option linter.unusedVariables false
set_option maxRecDepth 100000
namespace Go.Proofs.YtfomkkdijjfpiaaDoor
open Go Go.Sh
/- ### 20: keepsBytes -/
noncomputable def code20 : Code := Tryd.f20.body.getD .skip
def ann20 : Ann := [(2000007, [0, 3, 4, 5]), (2000012, [0, 3, 5, 7, 8, 10]), (2000020, [0, 3, 5, 7, 10]), (2000025, [3, 7, 10]), (70008, [3, 10, 129]), (2021, [0, 3, 5, 7, 10, 13]), (2016, [0, 3, 5, 7, 10, 12]), (50010, [0, 3, 5, 7, 8, 10, 58]), (2004, [0, 3, 4, 5, 6])]
def ord20 : List (Nat × OT × List Nat) := [(18, (OT.l [0, 1, 2, 3, 4, 5, 6, 7, 8] .fin), [0, 0, 3, 7, 0, 0, 48, 112, 255])]
def kv20 (K : Bool → HP) : Value → HP := fun v h => match v with | .bool r0 => (K r0 h) | _ => False
def q20 (K : Bool → HP) : Qt := retQ Tryd.prog Tryd.f20.results.toList [(.bool false)] (kv20 K)
def JT20_5 (x3:Addr) (x10:Addr) (x129:Bool) (K : Bool → HP) (Kp:PK) (h:Hp) : Prop :=
 If x129 (
 Ld h x10 (Value.int .i64) fun t131_0 =>
 Ld h (x10.add 1) (Sl.v) fun t131_1 =>
 Ld h (x10.add 2) (Sl.v) fun t131_2 =>
 Ld h (x10.add 3) (Value.int .i64) fun t131_3 =>
 Ld h (x10.add 4) (Value.bool) fun t131_4 =>
 Ld h (x10.add 5) (Value.int .i64) fun t131_5 =>
 Ld h (x10.add 6) (Value.int .i64) fun t131_6 =>
 Ld h (x10.add 7) (Sl.v) fun t131_7 =>
 Ld h (x10.add 8) (Sl.v) fun t131_8 =>
 Ld h x3 (Value.int .i64) fun t132_0 =>
 Ld h (x3.add 1) (Sl.v) fun t132_1 =>
 Ld h (x3.add 2) (Sl.v) fun t132_2 =>
 Ld h (x3.add 3) (Value.int .i64) fun t132_3 =>
 Ld h (x3.add 4) (Value.bool) fun t132_4 =>
 Ld h (x3.add 5) (Value.int .i64) fun t132_5 =>
 Ld h (x3.add 6) (Value.int .i64) fun t132_6 =>
 Ld h (x3.add 7) (Sl.v) fun t132_7 =>
 Ld h (x3.add 8) (Sl.v) fun t132_8 =>
 Fn15 t131_0 t131_1 t131_2 t131_3 t131_4 t131_5 t131_6 t131_7 t131_8 t132_0 t132_1 t132_2 t132_3 t132_4 t132_5 t132_6 t132_7 t132_8 h (fun t133 h1 =>
 K t133 h1) Kp) (
 K false h)
def J20_5 (x3:Addr) (x10:Addr) (x129:Bool) (K : Bool → HP) (Kp:PK) (h:Hp) : Prop :=
 Joint (semOps Tryd.prog (Ann.reg 30 ann20) (regOps (sub [1, 1, 1, 1, 1, 1, 1, 1, 1, 1, 1, 1, 1, 1, 1, 1, 0] code20)) [8, 9, 10, 11, 12, 13] (ctxQ Tryd.prog ann20 (Dw ord20) none Kp [1, 1, 1, 1, 1, 1, 1, 1, 1, 1, 1, 1, 1, 1, 1, 1, 0] code20 [] (q20 K) .normal) Kp ([none, none, none, some (.pointer (some x3)), none, none, none, none, none, none, some (.pointer (some x10)), none, none, none, none, none, none, none, none, none, none, none, none, none, none, none, none, none, none, none, none, none, none, none, none, none, none, none, none, none, none, none, none, none, none, none, none, none, none, none, none, none, none, none, none, none, none, none, none, none, none, none, none, none, none, none, none, none, none, none, none, none, none, none, none, none, none, none, none, none, none, none, none, none, none, none, none, none, none, none, none, none, none, none, none, none, none, none, none, none, none, none, none, none, none, none, none, none, none, none, none, none, none, none, none, none, none, none, none, none, none, none, none, none, none, none, none, none, none, some (.bool x129), none, none, none, none, none]) h)
theorem J20_5.of {x3:Addr} {x10:Addr} {x129:Bool} {K : Bool → HP} {Kp:PK} {h:Hp} (H : JT20_5 x3 x10 x129 K Kp h) : J20_5 x3 x10 x129 K Kp h :=
 Joint.mk (Eq.mp (by kernel_rfl) H)
def JT20_4 (x3:Addr) (x7:Sl) (x10:Addr) (K : Bool → HP) (Kp:PK) (h:Hp) : Prop :=
 If ((x7.n:Int) == (0:Int)) (
 K true h) (
 Dv (2:Int) <| Wr .i64 (Int.tdiv (x7.n:Int) (2:Int)) fun t107 =>
 Ix x7.a x7.n 1 t107 fun a108 =>
 Ld h a108 (Value.int .u8) fun t109 =>
 Lt (bitsV .xor .u8 t109 (1:Int)) fun t110 =>
 Ix x7.a x7.n 1 t107 fun a111 =>
 St h a111 (.int .u8 t110) fun h1 =>
 Fn13 x7 h1 (fun t114_0_0 t114_0_1 t114_0_2 t114_0_3 t114_0_4 t114_0_5 t114_0_6 t114_0_7 t114_0_8 t114_1_0 t114_1_1 t114_1_2 h2 =>
 New h2 #[(.int .i64 (0:Int)), (.slice none 0 0), (.slice none 0 0), (.int .i64 (0:Int)), (.bool false), (.int .i64 (0:Int)), (.int .i64 (0:Int)), (.slice none 0 0), (.slice none 0 0)] 29 fun a14 h3 =>
 New h3 #[(.int .i64 (0:Int)), (.slice none 0 0), (.int .i64 (0:Int))] 39 fun a15 h4 =>
 St h4 a14 (.int .i64 t114_0_0) fun h5 =>
 St h5 (a14.add 1) (Sl.v t114_0_1) fun h6 =>
 St h6 (a14.add 2) (Sl.v t114_0_2) fun h7 =>
 St h7 (a14.add 3) (.int .i64 t114_0_3) fun h8 =>
 St h8 (a14.add 4) (.bool t114_0_4) fun h9 =>
 St h9 (a14.add 5) (.int .i64 t114_0_5) fun h10 =>
 St h10 (a14.add 6) (.int .i64 t114_0_6) fun h11 =>
 St h11 (a14.add 7) (Sl.v t114_0_7) fun h12 =>
 St h12 (a14.add 8) (Sl.v t114_0_8) fun h13 =>
 St h13 a15 (.int .i64 t114_1_0) fun h14 =>
 St h14 (a15.add 1) (Sl.v t114_1_1) fun h15 =>
 St h15 (a15.add 2) (.int .i64 t114_1_2) fun h16 =>
 Fn12 x7 h16 (fun t119_0_0 t119_0_1 t119_0_2 t119_0_3 t119_0_4 t119_0_5 t119_0_6 t119_0_7 t119_0_8 t119_1_0 t119_1_1 t119_1_2 h17 =>
 New h17 #[(.int .i64 (0:Int)), (.slice none 0 0), (.slice none 0 0), (.int .i64 (0:Int)), (.bool false), (.int .i64 (0:Int)), (.int .i64 (0:Int)), (.slice none 0 0), (.slice none 0 0)] 29 fun a16 h18 =>
 New h18 #[(.int .i64 (0:Int)), (.slice none 0 0), (.int .i64 (0:Int))] 39 fun a17 h19 =>
 St h19 a16 (.int .i64 t119_0_0) fun h20 =>
 St h20 (a16.add 1) (Sl.v t119_0_1) fun h21 =>
 St h21 (a16.add 2) (Sl.v t119_0_2) fun h22 =>
 St h22 (a16.add 3) (.int .i64 t119_0_3) fun h23 =>
 St h23 (a16.add 4) (.bool t119_0_4) fun h24 =>
 St h24 (a16.add 5) (.int .i64 t119_0_5) fun h25 =>
 St h25 (a16.add 6) (.int .i64 t119_0_6) fun h26 =>
 St h26 (a16.add 7) (Sl.v t119_0_7) fun h27 =>
 St h27 (a16.add 8) (Sl.v t119_0_8) fun h28 =>
 St h28 a17 (.int .i64 t119_1_0) fun h29 =>
 St h29 (a17.add 1) (Sl.v t119_1_1) fun h30 =>
 St h30 (a17.add 2) (.int .i64 t119_1_2) fun h31 =>
 Ld h31 a17 (Value.int .i64) fun t122_0 =>
 Ld h31 (a17.add 1) (Sl.v) fun t122_1 =>
 Ld h31 (a17.add 2) (Value.int .i64) fun t122_2 =>
 Ld h31 a15 (Value.int .i64) fun t123_0 =>
 Ld h31 (a15.add 1) (Sl.v) fun t123_1 =>
 Ld h31 (a15.add 2) (Value.int .i64) fun t123_2 =>
 Fn14 t122_0 t122_1 t122_2 t123_0 t123_1 t123_2 h31 (fun t124 h32 =>
 If t124 (
 Ld h32 a16 (Value.int .i64) fun t126_0 =>
 Ld h32 (a16.add 1) (Sl.v) fun t126_1 =>
 Ld h32 (a16.add 2) (Sl.v) fun t126_2 =>
 Ld h32 (a16.add 3) (Value.int .i64) fun t126_3 =>
 Ld h32 (a16.add 4) (Value.bool) fun t126_4 =>
 Ld h32 (a16.add 5) (Value.int .i64) fun t126_5 =>
 Ld h32 (a16.add 6) (Value.int .i64) fun t126_6 =>
 Ld h32 (a16.add 7) (Sl.v) fun t126_7 =>
 Ld h32 (a16.add 8) (Sl.v) fun t126_8 =>
 Ld h32 a14 (Value.int .i64) fun t127_0 =>
 Ld h32 (a14.add 1) (Sl.v) fun t127_1 =>
 Ld h32 (a14.add 2) (Sl.v) fun t127_2 =>
 Ld h32 (a14.add 3) (Value.int .i64) fun t127_3 =>
 Ld h32 (a14.add 4) (Value.bool) fun t127_4 =>
 Ld h32 (a14.add 5) (Value.int .i64) fun t127_5 =>
 Ld h32 (a14.add 6) (Value.int .i64) fun t127_6 =>
 Ld h32 (a14.add 7) (Sl.v) fun t127_7 =>
 Ld h32 (a14.add 8) (Sl.v) fun t127_8 =>
 Fn15 t126_0 t126_1 t126_2 t126_3 t126_4 t126_5 t126_6 t126_7 t126_8 t127_0 t127_1 t127_2 t127_3 t127_4 t127_5 t127_6 t127_7 t127_8 h32 (fun t128 h33 =>
 J20_5 x3 x10 t128 K Kp h33) Kp) (
 J20_5 x3 x10 false K Kp h32)) Kp) Kp) Kp)
def J20_4 (x3:Addr) (x7:Sl) (x10:Addr) (K : Bool → HP) (Kp:PK) (h:Hp) : Prop :=
 Joint (sem Tryd.prog ann20 (Dw ord20) none (sub [1, 1, 1, 1, 1, 1, 1, 1, 1, 1, 1, 1] code20) (ctxQ Tryd.prog ann20 (Dw ord20) none Kp [1, 1, 1, 1, 1, 1, 1, 1, 1, 1, 1, 1] code20 [] (q20 K)) Kp (([none, none, none, some (.pointer (some x3)), none, none, none, some (Sl.v x7), none, none, some (.pointer (some x10))] ++ nn 124)) h)
theorem J20_4.of {x3:Addr} {x7:Sl} {x10:Addr} {K : Bool → HP} {Kp:PK} {h:Hp} (H : JT20_4 x3 x7 x10 K Kp h) : J20_4 x3 x7 x10 K Kp h :=
 Joint.mk (Eq.mp (by kernel_rfl) H)
abbrev mk20_6 (x0:Sl) (x3:Addr) (x5:Sl) (x7:Sl) (x10:Addr) (x13:Int) : Fr := ([some (Sl.v x0), none, none, some (.pointer (some x3)), none, some (Sl.v x5), none, some (Sl.v x7), none, none, some (.pointer (some x10)), none, none, some (.int .i64 x13)] ++ nn 121)
def T20_6 (x0:Sl) (x3:Addr) (x5:Sl) (x7:Sl) (x10:Addr) (K : Bool → HP) (Kp:PK) (N1 : Fr → HP) (x13:Int) (h:Hp) : Prop :=
 If (decide (x13 < (9:Int))) (
 Wr .i64 ((x0.n:Int) + x13) fun t94 =>
 Ix x5.a x5.n 1 t94 fun a95 =>
 Ld h a95 (Value.int .u8) fun t96 =>
 Wr .i64 ((160:Int) + x13) fun t98 =>
 Wr .u8 t98 fun t99 =>
 If (t96 != t99) (
 K false h) (
 Wr .i64 (x13 + (1:Int)) fun t89 =>
 N1 (mk20_6 x0 x3 x5 x7 x10 t89) h)) (
 J20_4 x3 x7 x10 K Kp h)
def L20_6 (x0:Sl) (x3:Addr) (x5:Sl) (x7:Sl) (x10:Addr) (K : Bool → HP) (Kp:PK) (x13:Int) (h:Hp) : Prop :=
 LoopH (fun N fr h => sem Tryd.prog ann20 (Dw ord20) none (sub [1, 1, 1, 1, 1, 1, 1, 1, 1, 1, 1, 0, 1, 0, 0] code20) (thenQ (fun fr' h' => N (Ann.find ann20 2021 fr') h') (ctxQ Tryd.prog ann20 (Dw ord20) none Kp [1, 1, 1, 1, 1, 1, 1, 1, 1, 1, 1, 0, 1, 0] code20 [] (q20 K))) Kp fr h) (mk20_6 x0 x3 x5 x7 x10 x13) h
theorem L20_6.rule {x0:Sl} {x3:Addr} {x5:Sl} {x7:Sl} {x10:Addr} {K : Bool → HP} {Kp:PK} (I : Int → HP) (μ : Int → Hp → Nat) {x13:Int} {h:Hp} (h0 : I x13 h)
 (step : ∀ (x13:Int) (h:Hp), I x13 h → ∀ N1 : Fr → HP, (∀ (x13':Int) (h':Hp), I x13' h' → μ x13' h' < μ x13 h → N1 (mk20_6 x0 x3 x5 x7 x10 x13') h') → T20_6 x0 x3 x5 x7 x10 K Kp N1 x13 h) : L20_6 x0 x3 x5 x7 x10 K Kp x13 h :=
 loop_rule (σ := Int) (fun s => mk20_6 x0 x3 x5 x7 x10 s) (fun N s h => T20_6 x0 x3 x5 x7 x10 K Kp N s h) (fun N s h => by kernel_rfl) (fun s h => I s h) (fun s h => μ s h) (s0 := x13) h0 (fun s h hI N hN => step s h hI N (fun x13' h' hI' hl => hN x13' h' hI' hl))
def JT20_3 (x0:Sl) (x3:Addr) (x5:Sl) (x7:Sl) (x10:Addr) (K : Bool → HP) (Kp:PK) (h:Hp) : Prop :=
 L20_6 x0 x3 x5 x7 x10 K Kp (0:Int) h
def J20_3 (x0:Sl) (x3:Addr) (x5:Sl) (x7:Sl) (x10:Addr) (K : Bool → HP) (Kp:PK) (h:Hp) : Prop :=
 Joint (sem Tryd.prog ann20 (Dw ord20) none (sub [1, 1, 1, 1, 1, 1, 1, 1, 1, 1, 1] code20) (ctxQ Tryd.prog ann20 (Dw ord20) none Kp [1, 1, 1, 1, 1, 1, 1, 1, 1, 1, 1] code20 [] (q20 K)) Kp (([some (Sl.v x0), none, none, some (.pointer (some x3)), none, some (Sl.v x5), none, some (Sl.v x7), none, none, some (.pointer (some x10))] ++ nn 124)) h)
theorem J20_3.of {x0:Sl} {x3:Addr} {x5:Sl} {x7:Sl} {x10:Addr} {K : Bool → HP} {Kp:PK} {h:Hp} (H : JT20_3 x0 x3 x5 x7 x10 K Kp h) : J20_3 x0 x3 x5 x7 x10 K Kp h :=
 Joint.mk (Eq.mp (by kernel_rfl) H)
abbrev mk20_7 (x0:Sl) (x3:Addr) (x5:Sl) (x7:Sl) (x10:Addr) (x12:Int) : Fr := ([some (Sl.v x0), none, none, some (.pointer (some x3)), none, some (Sl.v x5), none, some (Sl.v x7), none, none, some (.pointer (some x10)), none, some (.int .i64 x12)] ++ nn 122)
def T20_7 (x0:Sl) (x3:Addr) (x5:Sl) (x7:Sl) (x10:Addr) (K : Bool → HP) (Kp:PK) (N1 : Fr → HP) (x12:Int) (h:Hp) : Prop :=
 If (decide (x12 < (x0.n:Int))) (
 Ix x5.a x5.n 1 x12 fun a79 =>
 Ld h a79 (Value.int .u8) fun t80 =>
 Ix x0.a x0.n 1 x12 fun a83 =>
 Ld h a83 (Value.int .u8) fun t84 =>
 If (t80 != t84) (
 K false h) (
 Wr .i64 (x12 + (1:Int)) fun t76 =>
 N1 (mk20_7 x0 x3 x5 x7 x10 t76) h)) (
 J20_3 x0 x3 x5 x7 x10 K Kp h)
def L20_7 (x0:Sl) (x3:Addr) (x5:Sl) (x7:Sl) (x10:Addr) (K : Bool → HP) (Kp:PK) (x12:Int) (h:Hp) : Prop :=
 LoopH (fun N fr h => sem Tryd.prog ann20 (Dw ord20) none (sub [1, 1, 1, 1, 1, 1, 1, 1, 1, 1, 0, 1, 0, 0] code20) (thenQ (fun fr' h' => N (Ann.find ann20 2016 fr') h') (ctxQ Tryd.prog ann20 (Dw ord20) none Kp [1, 1, 1, 1, 1, 1, 1, 1, 1, 1, 0, 1, 0] code20 [] (q20 K))) Kp fr h) (mk20_7 x0 x3 x5 x7 x10 x12) h
theorem L20_7.rule {x0:Sl} {x3:Addr} {x5:Sl} {x7:Sl} {x10:Addr} {K : Bool → HP} {Kp:PK} (I : Int → HP) (μ : Int → Hp → Nat) {x12:Int} {h:Hp} (h0 : I x12 h)
 (step : ∀ (x12:Int) (h:Hp), I x12 h → ∀ N1 : Fr → HP, (∀ (x12':Int) (h':Hp), I x12' h' → μ x12' h' < μ x12 h → N1 (mk20_7 x0 x3 x5 x7 x10 x12') h') → T20_7 x0 x3 x5 x7 x10 K Kp N1 x12 h) : L20_7 x0 x3 x5 x7 x10 K Kp x12 h :=
 loop_rule (σ := Int) (fun s => mk20_7 x0 x3 x5 x7 x10 s) (fun N s h => T20_7 x0 x3 x5 x7 x10 K Kp N s h) (fun N s h => by kernel_rfl) (fun s h => I s h) (fun s h => μ s h) (s0 := x12) h0 (fun s h hI N hN => step s h hI N (fun x12' h' hI' hl => hN x12' h' hI' hl))
def JT20_2 (x0:Sl) (x3:Addr) (x5:Sl) (x7:Sl) (x8:Addr) (x10:Addr) (K : Bool → HP) (Kp:PK) (h:Hp) : Prop :=
 Ld h x8 (Value.int .i64) fun t65_0 =>
 Ld h (x8.add 1) (Sl.v) fun t65_1 =>
 Ld h (x8.add 2) (Sl.v) fun t65_2 =>
 Ld h (x8.add 3) (Value.int .i64) fun t65_3 =>
 Ld h (x8.add 4) (Value.bool) fun t65_4 =>
 Ld h (x8.add 5) (Value.int .i64) fun t65_5 =>
 Ld h (x8.add 6) (Value.int .i64) fun t65_6 =>
 Ld h (x8.add 7) (Sl.v) fun t65_7 =>
 Ld h (x8.add 8) (Sl.v) fun t65_8 =>
 Fn40 t65_0 t65_1 t65_2 t65_3 t65_4 t65_5 t65_6 t65_7 t65_8 h (fun h1 =>
 Ld h1 x10 (Value.int .i64) fun t67_0 =>
 Ld h1 (x10.add 1) (Sl.v) fun t67_1 =>
 Ld h1 (x10.add 2) (Sl.v) fun t67_2 =>
 Ld h1 (x10.add 3) (Value.int .i64) fun t67_3 =>
 Ld h1 (x10.add 4) (Value.bool) fun t67_4 =>
 Ld h1 (x10.add 5) (Value.int .i64) fun t67_5 =>
 Ld h1 (x10.add 6) (Value.int .i64) fun t67_6 =>
 Ld h1 (x10.add 7) (Sl.v) fun t67_7 =>
 Ld h1 (x10.add 8) (Sl.v) fun t67_8 =>
 Ld h1 x3 (Value.int .i64) fun t68_0 =>
 Ld h1 (x3.add 1) (Sl.v) fun t68_1 =>
 Ld h1 (x3.add 2) (Sl.v) fun t68_2 =>
 Ld h1 (x3.add 3) (Value.int .i64) fun t68_3 =>
 Ld h1 (x3.add 4) (Value.bool) fun t68_4 =>
 Ld h1 (x3.add 5) (Value.int .i64) fun t68_5 =>
 Ld h1 (x3.add 6) (Value.int .i64) fun t68_6 =>
 Ld h1 (x3.add 7) (Sl.v) fun t68_7 =>
 Ld h1 (x3.add 8) (Sl.v) fun t68_8 =>
 Fn15 t67_0 t67_1 t67_2 t67_3 t67_4 t67_5 t67_6 t67_7 t67_8 t68_0 t68_1 t68_2 t68_3 t68_4 t68_5 t68_6 t68_7 t68_8 h1 (fun t69 h2 =>
 If (!t69) (
 K false h2) (
 L20_7 x0 x3 x5 x7 x10 K Kp (0:Int) h2)) Kp) Kp
def J20_2 (x0:Sl) (x3:Addr) (x5:Sl) (x7:Sl) (x8:Addr) (x10:Addr) (K : Bool → HP) (Kp:PK) (h:Hp) : Prop :=
 Joint (sem Tryd.prog ann20 (Dw ord20) none (sub [1, 1, 1, 1, 1, 1, 1, 1] code20) (ctxQ Tryd.prog ann20 (Dw ord20) none Kp [1, 1, 1, 1, 1, 1, 1, 1] code20 [] (q20 K)) Kp (([some (Sl.v x0), none, none, some (.pointer (some x3)), none, some (Sl.v x5), none, some (Sl.v x7), some (.pointer (some x8)), none, some (.pointer (some x10))] ++ nn 124)) h)
theorem J20_2.of {x0:Sl} {x3:Addr} {x5:Sl} {x7:Sl} {x8:Addr} {x10:Addr} {K : Bool → HP} {Kp:PK} {h:Hp} (H : JT20_2 x0 x3 x5 x7 x8 x10 K Kp h) : J20_2 x0 x3 x5 x7 x8 x10 K Kp h :=
 Joint.mk (Eq.mp (by kernel_rfl) H)
def JT20_8 (x0:Sl) (x3:Addr) (x5:Sl) (x7:Sl) (x8:Addr) (x10:Addr) (x58:Bool) (K : Bool → HP) (Kp:PK) (h:Hp) : Prop :=
 If x58 (
 K false h) (
 Ld h x8 (Value.int .i64) fun t60_0 =>
 Ld h (x8.add 1) (Sl.v) fun t60_1 =>
 Ld h (x8.add 2) (Sl.v) fun t60_2 =>
 Ld h (x8.add 3) (Value.int .i64) fun t60_3 =>
 Ld h (x8.add 4) (Value.bool) fun t60_4 =>
 Ld h (x8.add 5) (Value.int .i64) fun t60_5 =>
 Ld h (x8.add 6) (Value.int .i64) fun t60_6 =>
 Ld h (x8.add 7) (Sl.v) fun t60_7 =>
 Ld h (x8.add 8) (Sl.v) fun t60_8 =>
 Ld h x3 (Value.int .i64) fun t61_0 =>
 Ld h (x3.add 1) (Sl.v) fun t61_1 =>
 Ld h (x3.add 2) (Sl.v) fun t61_2 =>
 Ld h (x3.add 3) (Value.int .i64) fun t61_3 =>
 Ld h (x3.add 4) (Value.bool) fun t61_4 =>
 Ld h (x3.add 5) (Value.int .i64) fun t61_5 =>
 Ld h (x3.add 6) (Value.int .i64) fun t61_6 =>
 Ld h (x3.add 7) (Sl.v) fun t61_7 =>
 Ld h (x3.add 8) (Sl.v) fun t61_8 =>
 Fn15 t60_0 t60_1 t60_2 t60_3 t60_4 t60_5 t60_6 t60_7 t60_8 t61_0 t61_1 t61_2 t61_3 t61_4 t61_5 t61_6 t61_7 t61_8 h (fun t62 h1 =>
 If (!t62) (
 K false h1) (
 J20_2 x0 x3 x5 x7 x8 x10 K Kp h1)) Kp)
def J20_8 (x0:Sl) (x3:Addr) (x5:Sl) (x7:Sl) (x8:Addr) (x10:Addr) (x58:Bool) (K : Bool → HP) (Kp:PK) (h:Hp) : Prop :=
 Joint (semOps Tryd.prog (Ann.reg 10 ann20) (regOps (sub [1, 1, 1, 1, 1, 1, 1, 0, 0] code20)) [10, 11, 12, 13, 14, 15] (ctxQ Tryd.prog ann20 (Dw ord20) none Kp [1, 1, 1, 1, 1, 1, 1, 0, 0] code20 [] (q20 K) .normal) Kp (([some (Sl.v x0), none, none, some (.pointer (some x3)), none, some (Sl.v x5), none, some (Sl.v x7), some (.pointer (some x8)), none, some (.pointer (some x10)), none, none, none, none, none, none, none, none, none, none, none, none, none, none, none, none, none, none, none, none, none, none, none, none, none, none, none, none, none, none, none, none, none, none, none, none, none, none, none, none, none, none, none, none, none, none, none, some (.bool x58)] ++ nn 76)) h)
theorem J20_8.of {x0:Sl} {x3:Addr} {x5:Sl} {x7:Sl} {x8:Addr} {x10:Addr} {x58:Bool} {K : Bool → HP} {Kp:PK} {h:Hp} (H : JT20_8 x0 x3 x5 x7 x8 x10 x58 K Kp h) : J20_8 x0 x3 x5 x7 x8 x10 x58 K Kp h :=
 Joint.mk (Eq.mp (by kernel_rfl) H)
def JT20_1 (x0:Sl) (x3:Addr) (x4:Addr) (x5:Sl) (K : Bool → HP) (Kp:PK) (h:Hp) : Prop :=
 Slc x5 1 none (some (x0.n:Int)) none fun t38 =>
 Fn12 t38 h (fun t41_0_0 t41_0_1 t41_0_2 t41_0_3 t41_0_4 t41_0_5 t41_0_6 t41_0_7 t41_0_8 t41_1_0 t41_1_1 t41_1_2 h1 =>
 New h1 #[(.int .i64 (0:Int)), (.slice none 0 0), (.slice none 0 0), (.int .i64 (0:Int)), (.bool false), (.int .i64 (0:Int)), (.int .i64 (0:Int)), (.slice none 0 0), (.slice none 0 0)] 29 fun a8 h2 =>
 New h2 #[(.int .i64 (0:Int)), (.slice none 0 0), (.int .i64 (0:Int))] 39 fun a9 h3 =>
 St h3 a8 (.int .i64 t41_0_0) fun h4 =>
 St h4 (a8.add 1) (Sl.v t41_0_1) fun h5 =>
 St h5 (a8.add 2) (Sl.v t41_0_2) fun h6 =>
 St h6 (a8.add 3) (.int .i64 t41_0_3) fun h7 =>
 St h7 (a8.add 4) (.bool t41_0_4) fun h8 =>
 St h8 (a8.add 5) (.int .i64 t41_0_5) fun h9 =>
 St h9 (a8.add 6) (.int .i64 t41_0_6) fun h10 =>
 St h10 (a8.add 7) (Sl.v t41_0_7) fun h11 =>
 St h11 (a8.add 8) (Sl.v t41_0_8) fun h12 =>
 St h12 a9 (.int .i64 t41_1_0) fun h13 =>
 St h13 (a9.add 1) (Sl.v t41_1_1) fun h14 =>
 St h14 (a9.add 2) (.int .i64 t41_1_2) fun h15 =>
 Fn12 t38 h15 (fun t46_0_0 t46_0_1 t46_0_2 t46_0_3 t46_0_4 t46_0_5 t46_0_6 t46_0_7 t46_0_8 t46_1_0 t46_1_1 t46_1_2 h16 =>
 New h16 #[(.int .i64 (0:Int)), (.slice none 0 0), (.slice none 0 0), (.int .i64 (0:Int)), (.bool false), (.int .i64 (0:Int)), (.int .i64 (0:Int)), (.slice none 0 0), (.slice none 0 0)] 29 fun a10 h17 =>
 New h17 #[(.int .i64 (0:Int)), (.slice none 0 0), (.int .i64 (0:Int))] 39 fun a11 h18 =>
 St h18 a10 (.int .i64 t46_0_0) fun h19 =>
 St h19 (a10.add 1) (Sl.v t46_0_1) fun h20 =>
 St h20 (a10.add 2) (Sl.v t46_0_2) fun h21 =>
 St h21 (a10.add 3) (.int .i64 t46_0_3) fun h22 =>
 St h22 (a10.add 4) (.bool t46_0_4) fun h23 =>
 St h23 (a10.add 5) (.int .i64 t46_0_5) fun h24 =>
 St h24 (a10.add 6) (.int .i64 t46_0_6) fun h25 =>
 St h25 (a10.add 7) (Sl.v t46_0_7) fun h26 =>
 St h26 (a10.add 8) (Sl.v t46_0_8) fun h27 =>
 St h27 a11 (.int .i64 t46_1_0) fun h28 =>
 St h28 (a11.add 1) (Sl.v t46_1_1) fun h29 =>
 St h29 (a11.add 2) (.int .i64 t46_1_2) fun h30 =>
 Ld h30 a9 (Value.int .i64) fun t49_0 =>
 Ld h30 (a9.add 1) (Sl.v) fun t49_1 =>
 Ld h30 (a9.add 2) (Value.int .i64) fun t49_2 =>
 Ld h30 x4 (Value.int .i64) fun t50_0 =>
 Ld h30 (x4.add 1) (Sl.v) fun t50_1 =>
 Ld h30 (x4.add 2) (Value.int .i64) fun t50_2 =>
 Fn14 t49_0 t49_1 t49_2 t50_0 t50_1 t50_2 h30 (fun t51 h31 =>
 If (!t51) (
 J20_8 x0 x3 x5 t38 a8 a10 true K Kp h31) (
 Ld h31 a11 (Value.int .i64) fun t54_0 =>
 Ld h31 (a11.add 1) (Sl.v) fun t54_1 =>
 Ld h31 (a11.add 2) (Value.int .i64) fun t54_2 =>
 Ld h31 x4 (Value.int .i64) fun t55_0 =>
 Ld h31 (x4.add 1) (Sl.v) fun t55_1 =>
 Ld h31 (x4.add 2) (Value.int .i64) fun t55_2 =>
 Fn14 t54_0 t54_1 t54_2 t55_0 t55_1 t55_2 h31 (fun t56 h32 =>
 J20_8 x0 x3 x5 t38 a8 a10 (!t56) K Kp h32) Kp)) Kp) Kp) Kp
def J20_1 (x0:Sl) (x3:Addr) (x4:Addr) (x5:Sl) (K : Bool → HP) (Kp:PK) (h:Hp) : Prop :=
 Joint (sem Tryd.prog ann20 (Dw ord20) none (sub [1, 1, 1, 1] code20) (ctxQ Tryd.prog ann20 (Dw ord20) none Kp [1, 1, 1, 1] code20 [] (q20 K)) Kp (([some (Sl.v x0), none, none, some (.pointer (some x3)), some (.pointer (some x4)), some (Sl.v x5)] ++ nn 129)) h)
theorem J20_1.of {x0:Sl} {x3:Addr} {x4:Addr} {x5:Sl} {K : Bool → HP} {Kp:PK} {h:Hp} (H : JT20_1 x0 x3 x4 x5 K Kp h) : J20_1 x0 x3 x4 x5 K Kp h :=
 Joint.mk (Eq.mp (by kernel_rfl) H)
abbrev mk20_9 (x0:Sl) (x3:Addr) (x4:Addr) (x5:Sl) (x6:Int) : Fr := ([some (Sl.v x0), none, none, some (.pointer (some x3)), some (.pointer (some x4)), some (Sl.v x5), some (.int .i64 x6)] ++ nn 128)
def T20_9 (x0:Sl) (x3:Addr) (x4:Addr) (K : Bool → HP) (Kp:PK) (N1 : Fr → HP) (x5:Sl) (x6:Int) (h:Hp) : Prop :=
 If (decide (x6 < (9:Int))) (
 Wr .i64 ((160:Int) + x6) fun t31 =>
 Wr .u8 t31 fun t32 =>
 New h #[(.int .u8 t32)] 5 fun a33 h1 =>
 Ap h1 5 #[(.int .u8 (0:Int))] 1 1 x5 1 (rd h1 (some a33) (1 * 1)) fun t34 h2 =>
 Wr .i64 (x6 + (1:Int)) fun t28 =>
 N1 (mk20_9 x0 x3 x4 t34 t28) h2) (
 J20_1 x0 x3 x4 x5 K Kp h)
def L20_9 (x0:Sl) (x3:Addr) (x4:Addr) (K : Bool → HP) (Kp:PK) (x5:Sl) (x6:Int) (h:Hp) : Prop :=
 LoopH (fun N fr h => sem Tryd.prog ann20 (Dw ord20) none (sub [1, 1, 1, 0, 1, 0, 0] code20) (thenQ (fun fr' h' => N (Ann.find ann20 2004 fr') h') (ctxQ Tryd.prog ann20 (Dw ord20) none Kp [1, 1, 1, 0, 1, 0] code20 [] (q20 K))) Kp fr h) (mk20_9 x0 x3 x4 x5 x6) h
theorem L20_9.rule {x0:Sl} {x3:Addr} {x4:Addr} {K : Bool → HP} {Kp:PK} (I : Sl → Int → HP) (μ : Sl → Int → Hp → Nat) {x5:Sl} {x6:Int} {h:Hp} (h0 : I x5 x6 h)
 (step : ∀ (x5:Sl) (x6:Int) (h:Hp), I x5 x6 h → ∀ N1 : Fr → HP, (∀ (x5':Sl) (x6':Int) (h':Hp), I x5' x6' h' → μ x5' x6' h' < μ x5 x6 h → N1 (mk20_9 x0 x3 x4 x5' x6') h') → T20_9 x0 x3 x4 K Kp N1 x5 x6 h) : L20_9 x0 x3 x4 K Kp x5 x6 h :=
 loop_rule (σ := Sl × Int) (fun s => mk20_9 x0 x3 x4 s.1 s.2) (fun N s h => T20_9 x0 x3 x4 K Kp N s.1 s.2 h) (fun N s h => by kernel_rfl) (fun s h => I s.1 s.2 h) (fun s h => μ s.1 s.2 h) (s0 := ⟨x5, x6⟩) h0 (fun s h hI N hN => step s.1 s.2 h hI N (fun x5' x6' h' hI' hl => hN ⟨x5', x6'⟩ h' hI' hl))
def S20 (b:Sl) (h:Hp) (K : Bool → HP) (Kp:PK) : Prop :=
 Fn13 b h (fun t20_0_0 t20_0_1 t20_0_2 t20_0_3 t20_0_4 t20_0_5 t20_0_6 t20_0_7 t20_0_8 t20_1_0 t20_1_1 t20_1_2 h1 =>
 New h1 #[(.int .i64 (0:Int)), (.slice none 0 0), (.slice none 0 0), (.int .i64 (0:Int)), (.bool false), (.int .i64 (0:Int)), (.int .i64 (0:Int)), (.slice none 0 0), (.slice none 0 0)] 29 fun a3 h2 =>
 New h2 #[(.int .i64 (0:Int)), (.slice none 0 0), (.int .i64 (0:Int))] 39 fun a4 h3 =>
 St h3 a3 (.int .i64 t20_0_0) fun h4 =>
 St h4 (a3.add 1) (Sl.v t20_0_1) fun h5 =>
 St h5 (a3.add 2) (Sl.v t20_0_2) fun h6 =>
 St h6 (a3.add 3) (.int .i64 t20_0_3) fun h7 =>
 St h7 (a3.add 4) (.bool t20_0_4) fun h8 =>
 St h8 (a3.add 5) (.int .i64 t20_0_5) fun h9 =>
 St h9 (a3.add 6) (.int .i64 t20_0_6) fun h10 =>
 St h10 (a3.add 7) (Sl.v t20_0_7) fun h11 =>
 St h11 (a3.add 8) (Sl.v t20_0_8) fun h12 =>
 St h12 a4 (.int .i64 t20_1_0) fun h13 =>
 St h13 (a4.add 1) (Sl.v t20_1_1) fun h14 =>
 St h14 (a4.add 2) (.int .i64 t20_1_2) fun h15 =>
 Ap h15 5 #[(.int .u8 (0:Int))] 1 1 (⟨none, 0, 0⟩:Sl) b.n (rd h15 b.a (b.n * 1)) fun t24 h16 =>
 L20_9 b a3 a4 K Kp t24 (0:Int) h16) Kp
theorem Fn20.of {b:Sl} {h:Hp} {K : Bool → HP} {Kp:PK} (H : S20 b h K Kp) : Fn20 b h K Kp :=
 fn_of2 (P := Tryd.prog) (ann := ann20) (D := DrawSem Tryd.prog ord20) (drawOk _) (c := code20) (zs := [(.bool false)]) (args := [(Sl.v b)]) (Kv := kv20 K) (Kp := Kp) (h := h) Tryd.func20 (by kernel_rfl) H (by kernel_rfl) (by kernel_rfl)
end Go.Proofs.YtfomkkdijjfpiaaDoor
