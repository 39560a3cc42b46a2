/- What the functions do, printed by program (gen.py) in the words of ShCore; each text is held against the loaded program by the kernel. -/
import Derived.Test.YtfomkkdijjfpiaaDoorKeepsF
set_option linter.unusedSimpArgs false
set_option linter.unusedVariables false
set_option maxRecDepth 100000
namespace Go.Proofs.YtfomkkdijjfpiaaDoor
open Go Go.Sh
/- ### 50: take -/
noncomputable def code50 : Code := Tryd.f50.body.getD .skip
def ann50 : Ann := [(2000006, [0, 1]), (2000007, [0, 1, 5])]
def ord50 : List (Nat × OT × List Nat) := [(6, (OT.l [0, 1, 2, 3, 4, 5, 6, 7, 8, 9, 10, 11, 12, 13, 14, 15, 16] .fin), [0, 1, 3, 7, 0, 16, 48, 112, 0, 256, 768, 1792, 0, 7936, 16383, 32767, 65535]), (3, (OT.l [0, 1, 2, 3, 4, 5, 6, 7, 8, 9, 10, 11] .fin), [0, 0, 2, 6, 14, 30, 0, 64, 192, 448, 1022, 2047])]
def kv50 (K : Sl → HP) : Value → HP := fun v h => match v with | .slice r0a r0n r0c => (let r0 : Sl := ⟨r0a, r0n, r0c⟩; K r0 h) | _ => False
def q50 (K : Sl → HP) : Qt := retQ Tryd.prog Tryd.f50.results.toList [(.slice none 0 0)] (kv50 K)
def JT50_2 (x0 : Option Addr) (x1:Int) (x5:Sl) (K : Sl → HP) (Kp:PK) (h:Hp) : Prop :=
 NN x0 fun p47 =>
 Ld h (p47.add 1) (Value.int .i64) fun t49 =>
 Wr .i64 (t49 + x1) fun t51 =>
 NN x0 fun p52 =>
 St h (p52.add 1) (.int .i64 t51) fun h1 =>
 K x5 h1
def J50_2 (x0 : Option Addr) (x1:Int) (x5:Sl) (K : Sl → HP) (Kp:PK) (h:Hp) : Prop :=
 Joint (sem Tryd.prog ann50 (Dw ord50) none (sub [1, 1, 1, 1] code50) (ctxQ Tryd.prog ann50 (Dw ord50) none Kp [1, 1, 1, 1] code50 [] (q50 K)) Kp (([some (.pointer x0), some (.int .i64 x1), none, none, none, some (Sl.v x5)] ++ nn 49)) h)
theorem J50_2.of {x0 : Option Addr} {x1:Int} {x5:Sl} {K : Sl → HP} {Kp:PK} {h:Hp} (H : JT50_2 x0 x1 x5 K Kp h) : J50_2 x0 x1 x5 K Kp h :=
 Joint.mk (Eq.mp (by kernel_rfl) H)
def JT50_1 (x0 : Option Addr) (x1:Int) (K : Sl → HP) (Kp:PK) (h:Hp) : Prop :=
 NN x0 fun p31 =>
 Ld h p31 (Sl.v) fun t33 =>
 NN x0 fun p35 =>
 Ld h (p35.add 1) (Value.int .i64) fun t37 =>
 NN x0 fun p39 =>
 Ld h (p39.add 1) (Value.int .i64) fun t41 =>
 Wr .i64 (t41 + x1) fun t43 =>
 Slc t33 1 (some t37) (some t43) none fun t44 =>
 Ap h 5 #[(.int .u8 (0:Int))] 1 1 (⟨none, 0, 0⟩:Sl) t44.n (rd h t44.a (t44.n * 1)) fun t45 h1 =>
 J50_2 x0 x1 t45 K Kp h1
def J50_1 (x0 : Option Addr) (x1:Int) (K : Sl → HP) (Kp:PK) (h:Hp) : Prop :=
 Joint (sem Tryd.prog ann50 (Dw ord50) none (sub [1, 1, 1] code50) (ctxQ Tryd.prog ann50 (Dw ord50) none Kp [1, 1, 1] code50 [] (q50 K)) Kp (([some (.pointer x0), some (.int .i64 x1)] ++ nn 53)) h)
theorem J50_1.of {x0 : Option Addr} {x1:Int} {K : Sl → HP} {Kp:PK} {h:Hp} (H : JT50_1 x0 x1 K Kp h) : J50_1 x0 x1 K Kp h :=
 Joint.mk (Eq.mp (by kernel_rfl) H)
def S50 (r : Option Addr) (n:Int) (h:Hp) (K : Sl → HP) (Kp:PK) : Prop :=
 NN r fun p7 =>
 Ld h (p7.add 3) (Value.int .i64) fun t10 =>
 If (t10 != (0:Int)) (
 K (⟨none, 0, 0⟩:Sl) h) (
 NN r fun p14 =>
 Ld h p14 (Sl.v) fun t16 =>
 NN r fun p19 =>
 Ld h (p19.add 1) (Value.int .i64) fun t21 =>
 Wr .i64 ((t16.n:Int) - t21) fun t22 =>
 If (decide (n > t22)) (
 NN r fun p26 =>
 Ld h (p26.add 1) (Value.int .i64) fun t28 =>
 Fn35 r (51:Int) t28 h (fun h1 =>
 K (⟨none, 0, 0⟩:Sl) h1) Kp) (
 J50_1 r n K Kp h))
theorem Fn50.of {r : Option Addr} {n:Int} {h:Hp} {K : Sl → HP} {Kp:PK} (H : S50 r n h K Kp) : Fn50 r n h K Kp :=
 fn_of2 (P := Tryd.prog) (ann := ann50) (D := DrawSem Tryd.prog ord50) (drawOk _) (c := code50) (zs := [(.slice none 0 0)]) (args := [(.pointer r), (.int .i64 n)]) (Kv := kv50 K) (Kp := Kp) (h := h) Tryd.func50 (by kernel_rfl) H (by kernel_rfl) (by kernel_rfl)
/- ### 51: unlike -/
noncomputable def code51 : Code := Tryd.f51.body.getD .skip
def ann51 : Ann := [(2002, [0, 3]), (2005, [0, 3, 4])]
def ord51 : List (Nat × OT × List Nat) := [(7, (OT.l [0, 1, 2, 3, 4, 5, 6, 7, 8, 9, 10] .fin), [0, 0, 3, 7, 15, 0, 0, 96, 224, 480, 1023])]
def kv51 (K : Bool → HP) : Value → HP := fun v h => match v with | .bool r0 => (K r0 h) | _ => False
def q51 (K : Bool → HP) : Qt := retQ Tryd.prog Tryd.f51.results.toList [(.bool false)] (kv51 K)
abbrev mk51_1 (x0:Sl) (x3:Int) : Fr := ([some (Sl.v x0), none, none, some (.int .i64 x3)] ++ nn 23)
abbrev mk51_2 (x0:Sl) (x3:Int) (x4:Int) : Fr := ([some (Sl.v x0), none, none, some (.int .i64 x3), some (.int .i64 x4)] ++ nn 22)
def T51_2 (x0:Sl) (x3:Int) (N1 : Fr → HP) (K : Bool → HP) (Kp:PK) (N2 : Fr → HP) (x4:Int) (h:Hp) : Prop :=
 If (decide (x4 < x3)) (
 Ix x0.a x0.n 7 x3 fun a18 =>
 Ld h a18 (Value.string) fun t20 =>
 Ix x0.a x0.n 7 x4 fun a23 =>
 Ld h a23 (Value.string) fun t25 =>
 If (t20.toList == t25.toList) (
 K false h) (
 Wr .i64 (x4 + (1:Int)) fun t15 =>
 N2 (mk51_2 x0 x3 t15) h)) (
 Wr .i64 (x3 + (1:Int)) fun t10 =>
 N1 (mk51_1 x0 t10) h)
def L51_2 (x0:Sl) (x3:Int) (N1 : Fr → HP) (K : Bool → HP) (Kp:PK) (x4:Int) (h:Hp) : Prop :=
 LoopH (fun N fr h => sem Tryd.prog ann51 (Dw ord51) none (sub [1, 0, 1, 0, 0, 1, 0, 0, 1, 0, 0] code51) (thenQ (fun fr' h' => N (Ann.find ann51 2005 fr') h') (ctxQ Tryd.prog ann51 (Dw ord51) none Kp [1, 0, 1, 0, 0, 1, 0, 0, 1, 0] code51 [N1] (q51 K))) Kp fr h) (mk51_2 x0 x3 x4) h
theorem L51_2.rule {x0:Sl} {x3:Int} {N1 : Fr → HP} {K : Bool → HP} {Kp:PK} (I : Int → HP) (μ : Int → Hp → Nat) {x4:Int} {h:Hp} (h0 : I x4 h)
 (step : ∀ (x4:Int) (h:Hp), I x4 h → ∀ N2 : Fr → HP, (∀ (x4':Int) (h':Hp), I x4' h' → μ x4' h' < μ x4 h → N2 (mk51_2 x0 x3 x4') h') → T51_2 x0 x3 N1 K Kp N2 x4 h) : L51_2 x0 x3 N1 K Kp x4 h :=
 loop_rule (σ := Int) (fun s => mk51_2 x0 x3 s) (fun N s h => T51_2 x0 x3 N1 K Kp N s h) (fun N s h => by kernel_rfl) (fun s h => I s h) (fun s h => μ s h) (s0 := x4) h0 (fun s h hI N hN => step s h hI N (fun x4' h' hI' hl => hN x4' h' hI' hl))
def T51_1 (x0:Sl) (K : Bool → HP) (Kp:PK) (N1 : Fr → HP) (x3:Int) (h:Hp) : Prop :=
 If (decide (x3 < (x0.n:Int))) (
 L51_2 x0 x3 N1 K Kp (0:Int) h) (
 K true h)
def L51_1 (x0:Sl) (K : Bool → HP) (Kp:PK) (x3:Int) (h:Hp) : Prop :=
 LoopH (fun N fr h => sem Tryd.prog ann51 (Dw ord51) none (sub [1, 0, 1, 0, 0] code51) (thenQ (fun fr' h' => N (Ann.find ann51 2002 fr') h') (ctxQ Tryd.prog ann51 (Dw ord51) none Kp [1, 0, 1, 0] code51 [] (q51 K))) Kp fr h) (mk51_1 x0 x3) h
theorem L51_1.rule {x0:Sl} {K : Bool → HP} {Kp:PK} (I : Int → HP) (μ : Int → Hp → Nat) {x3:Int} {h:Hp} (h0 : I x3 h)
 (step : ∀ (x3:Int) (h:Hp), I x3 h → ∀ N1 : Fr → HP, (∀ (x3':Int) (h':Hp), I x3' h' → μ x3' h' < μ x3 h → N1 (mk51_1 x0 x3') h') → T51_1 x0 K Kp N1 x3 h) : L51_1 x0 K Kp x3 h :=
 loop_rule (σ := Int) (fun s => mk51_1 x0 s) (fun N s h => T51_1 x0 K Kp N s h) (fun N s h => by kernel_rfl) (fun s h => I s h) (fun s h => μ s h) (s0 := x3) h0 (fun s h hI N hN => step s h hI N (fun x3' h' hI' hl => hN x3' h' hI' hl))
def S51 (l:Sl) (h:Hp) (K : Bool → HP) (Kp:PK) : Prop :=
 L51_1 l K Kp (0:Int) h
theorem Fn51.of {l:Sl} {h:Hp} {K : Bool → HP} {Kp:PK} (H : S51 l h K Kp) : Fn51 l h K Kp :=
 fn_of2 (P := Tryd.prog) (ann := ann51) (D := DrawSem Tryd.prog ord51) (drawOk _) (c := code51) (zs := [(.bool false)]) (args := [(Sl.v l)]) (Kv := kv51 K) (Kp := Kp) (h := h) Tryd.func51 (by kernel_rfl) H (by kernel_rfl) (by kernel_rfl)
/- ### 52: field -/
noncomputable def code52 : Code := Tryd.f52.body.getD .skip
def ann52 : Ann := [(2000005, [0, 2, 3, 5]), (2000029, [0, 2, 3, 10]), (2033, [0, 2, 3, 10, 12]), (2000022, [0, 2, 10]), (2000027, [0, 2, 10]), (2023, [0, 2, 10, 11]), (43009, [0, 2, 3, 5, 31])]
def ord52 : List (Nat × OT × List Nat) := [(17, (OT.l [0, 1, 2, 3, 4, 5, 6, 7, 8, 9, 10] .fin), [0, 1, 3, 7, 3, 19, 51, 115, 243, 511, 1023]), (27, (OT.l [0, 1, 2, 3, 4, 5, 6, 7, 8, 9, 10, 11] .fin), [0, 0, 2, 6, 14, 0, 32, 96, 254, 511, 1023, 2047]), (25, (OT.l [0, 1, 2, 3, 4, 5, 6, 7, 8, 9] .fin), [0, 1, 3, 7, 0, 31, 63, 0, 128, 511])]
def kv52 (K : Bool → HP) : Value → HP := fun v h => match v with | .bool r0 => (K r0 h) | _ => False
def q52 (K : Bool → HP) : Qt := retQ Tryd.prog Tryd.f52.results.toList [(.bool false)] (kv52 K)
abbrev mk52_3 (x0 : Option Addr) (x2:Int) (x3:Bool) (x10:Addr) (x12:Int) : Fr := ([some (.pointer x0), none, some (.int .i64 x2), some (.bool x3), none, none, none, none, none, none, some (.pointer (some x10)), none, some (.int .i64 x12)] ++ nn 117)
def T52_3 (x0 : Option Addr) (x2:Int) (x3:Bool) (x10:Addr) (K : Bool → HP) (Kp:PK) (N1 : Fr → HP) (x12:Int) (h:Hp) : Prop :=
 Ld h (x10.add 4) (Sl.v) fun t113 =>
 If (decide (x12 < (t113.n:Int))) (
 Ld h (x10.add 4) (Sl.v) fun t120 =>
 Ix t120.a t120.n 7 x12 fun a122 =>
 Ld h a122 (Value.string) fun t123_0 =>
 Ld h (a122.add 1) (Value.bool) fun t123_1 =>
 Ld h (a122.add 2) (Value.int .i64) fun t123_2 =>
 Ld h (a122.add 3) (Value.int .i64) fun t123_3 =>
 Ld h (a122.add 4) (Value.int .i64) fun t123_4 =>
 Ld h (a122.add 5) (Value.int .i64) fun t123_5 =>
 Ld h (a122.add 6) (Sl.v) fun t123_6 =>
 Wr .i64 (x2 + (1:Int)) fun t125 =>
 Fn52 x0 t123_0 t123_1 t123_2 t123_3 t123_4 t123_5 t123_6 t125 x3 h (fun t127 h1 =>
 If (!t127) (
 K false h1) (
 Wr .i64 (x12 + (1:Int)) fun t117 =>
 N1 (mk52_3 x0 x2 x3 x10 t117) h1)) Kp) (
 K true h)
def L52_3 (x0 : Option Addr) (x2:Int) (x3:Bool) (x10:Addr) (K : Bool → HP) (Kp:PK) (x12:Int) (h:Hp) : Prop :=
 LoopH (fun N fr h => sem Tryd.prog ann52 (Dw ord52) none (sub [1, 1, 1, 1, 1, 1, 1, 1, 1, 1, 0, 1, 0, 0] code52) (thenQ (fun fr' h' => N (Ann.find ann52 2033 fr') h') (ctxQ Tryd.prog ann52 (Dw ord52) none Kp [1, 1, 1, 1, 1, 1, 1, 1, 1, 1, 0, 1, 0] code52 [] (q52 K))) Kp fr h) (mk52_3 x0 x2 x3 x10 x12) h
theorem L52_3.rule {x0 : Option Addr} {x2:Int} {x3:Bool} {x10:Addr} {K : Bool → HP} {Kp:PK} (I : Int → HP) (μ : Int → Hp → Nat) {x12:Int} {h:Hp} (h0 : I x12 h)
 (step : ∀ (x12:Int) (h:Hp), I x12 h → ∀ N1 : Fr → HP, (∀ (x12':Int) (h':Hp), I x12' h' → μ x12' h' < μ x12 h → N1 (mk52_3 x0 x2 x3 x10 x12') h') → T52_3 x0 x2 x3 x10 K Kp N1 x12 h) : L52_3 x0 x2 x3 x10 K Kp x12 h :=
 loop_rule (σ := Int) (fun s => mk52_3 x0 x2 x3 x10 s) (fun N s h => T52_3 x0 x2 x3 x10 K Kp N s h) (fun N s h => by kernel_rfl) (fun s h => I s h) (fun s h => μ s h) (s0 := x12) h0 (fun s h hI N hN => step s h hI N (fun x12' h' hI' hl => hN x12' h' hI' hl))
def JT52_2 (x0 : Option Addr) (x2:Int) (x3:Bool) (x10:Addr) (K : Bool → HP) (Kp:PK) (h:Hp) : Prop :=
 Ld h (x10.add 4) (Sl.v) fun t107 =>
 Fn51 t107 h (fun t108 h1 =>
 If (!t108) (
 K false h1) (
 L52_3 x0 x2 x3 x10 K Kp (0:Int) h1)) Kp
def J52_2 (x0 : Option Addr) (x2:Int) (x3:Bool) (x10:Addr) (K : Bool → HP) (Kp:PK) (h:Hp) : Prop :=
 Joint (sem Tryd.prog ann52 (Dw ord52) none (sub [1, 1, 1, 1, 1, 1, 1, 1] code52) (ctxQ Tryd.prog ann52 (Dw ord52) none Kp [1, 1, 1, 1, 1, 1, 1, 1] code52 [] (q52 K)) Kp (([some (.pointer x0), none, some (.int .i64 x2), some (.bool x3), none, none, none, none, none, none, some (.pointer (some x10))] ++ nn 119)) h)
theorem J52_2.of {x0 : Option Addr} {x2:Int} {x3:Bool} {x10:Addr} {K : Bool → HP} {Kp:PK} {h:Hp} (H : JT52_2 x0 x2 x3 x10 K Kp h) : J52_2 x0 x2 x3 x10 K Kp h :=
 Joint.mk (Eq.mp (by kernel_rfl) H)
def JT52_5 (x0 : Option Addr) (x2:Int) (x10:Addr) (K : Bool → HP) (Kp:PK) (h:Hp) : Prop :=
 NN x0 fun p97 =>
 Ld h (p97.add 1) (Sl.v) fun t99 =>
 Ld h (x10.add 2) (Value.int .i64) fun t101 =>
 New h #[(.int .i64 t101)] 3 fun a102 h1 =>
 Keep h h1 (p97.add 1) 1 <|
 Ap h1 3 #[(.int .i64 (0:Int))] 1 8 t99 1 (rd h1 (some a102) (1 * 1)) fun t103 h2 =>
 NN x0 fun p104 =>
 St h2 (p104.add 1) (Sl.v t103) fun h3 =>
 J52_2 x0 x2 true x10 K Kp h3
def J52_5 (x0 : Option Addr) (x2:Int) (x10:Addr) (K : Bool → HP) (Kp:PK) (h:Hp) : Prop :=
 Joint (sem Tryd.prog ann52 (Dw ord52) none (sub [1, 1, 1, 1, 1, 1, 1, 0, 1, 0, 1, 1, 1, 1, 1, 1, 1, 0, 1, 1] code52) (ctxQ Tryd.prog ann52 (Dw ord52) none Kp [1, 1, 1, 1, 1, 1, 1, 0, 1, 0, 1, 1, 1, 1, 1, 1, 1, 0, 1, 1] code52 [] (q52 K)) Kp (([some (.pointer x0), none, some (.int .i64 x2), none, none, none, none, none, none, none, some (.pointer (some x10))] ++ nn 119)) h)
theorem J52_5.of {x0 : Option Addr} {x2:Int} {x10:Addr} {K : Bool → HP} {Kp:PK} {h:Hp} (H : JT52_5 x0 x2 x10 K Kp h) : J52_5 x0 x2 x10 K Kp h :=
 Joint.mk (Eq.mp (by kernel_rfl) H)
abbrev mk52_6 (x0 : Option Addr) (x2:Int) (x10:Addr) (x11:Int) : Fr := ([some (.pointer x0), none, some (.int .i64 x2), none, none, none, none, none, none, none, some (.pointer (some x10)), some (.int .i64 x11)] ++ nn 118)
def T52_6 (x0 : Option Addr) (x2:Int) (x10:Addr) (K : Bool → HP) (Kp:PK) (N1 : Fr → HP) (x11:Int) (h:Hp) : Prop :=
 NN x0 fun p78 =>
 Ld h (p78.add 1) (Sl.v) fun t80 =>
 If (decide (x11 < (t80.n:Int))) (
 NN x0 fun p86 =>
 Ld h (p86.add 1) (Sl.v) fun t88 =>
 Ix t88.a t88.n 1 x11 fun a90 =>
 Ld h a90 (Value.int .i64) fun t91 =>
 Ld h (x10.add 2) (Value.int .i64) fun t93 =>
 If (t91 == t93) (
 K false h) (
 Wr .i64 (x11 + (1:Int)) fun t84 =>
 N1 (mk52_6 x0 x2 x10 t84) h)) (
 J52_5 x0 x2 x10 K Kp h)
def L52_6 (x0 : Option Addr) (x2:Int) (x10:Addr) (K : Bool → HP) (Kp:PK) (x11:Int) (h:Hp) : Prop :=
 LoopH (fun N fr h => sem Tryd.prog ann52 (Dw ord52) none (sub [1, 1, 1, 1, 1, 1, 1, 0, 1, 0, 1, 1, 1, 1, 1, 1, 1, 0, 1, 0, 1, 0, 0] code52) (thenQ (fun fr' h' => N (Ann.find ann52 2023 fr') h') (ctxQ Tryd.prog ann52 (Dw ord52) none Kp [1, 1, 1, 1, 1, 1, 1, 0, 1, 0, 1, 1, 1, 1, 1, 1, 1, 0, 1, 0, 1, 0] code52 [] (q52 K))) Kp fr h) (mk52_6 x0 x2 x10 x11) h
theorem L52_6.rule {x0 : Option Addr} {x2:Int} {x10:Addr} {K : Bool → HP} {Kp:PK} (I : Int → HP) (μ : Int → Hp → Nat) {x11:Int} {h:Hp} (h0 : I x11 h)
 (step : ∀ (x11:Int) (h:Hp), I x11 h → ∀ N1 : Fr → HP, (∀ (x11':Int) (h':Hp), I x11' h' → μ x11' h' < μ x11 h → N1 (mk52_6 x0 x2 x10 x11') h') → T52_6 x0 x2 x10 K Kp N1 x11 h) : L52_6 x0 x2 x10 K Kp x11 h :=
 loop_rule (σ := Int) (fun s => mk52_6 x0 x2 x10 s) (fun N s h => T52_6 x0 x2 x10 K Kp N s h) (fun N s h => by kernel_rfl) (fun s h => I s h) (fun s h => μ s h) (s0 := x11) h0 (fun s h hI N hN => step s h hI N (fun x11' h' hI' hl => hN x11' h' hI' hl))
def JT52_4 (x0 : Option Addr) (x2:Int) (x10:Addr) (K : Bool → HP) (Kp:PK) (h:Hp) : Prop :=
 L52_6 x0 x2 x10 K Kp (0:Int) h
def J52_4 (x0 : Option Addr) (x2:Int) (x10:Addr) (K : Bool → HP) (Kp:PK) (h:Hp) : Prop :=
 Joint (sem Tryd.prog ann52 (Dw ord52) none (sub [1, 1, 1, 1, 1, 1, 1, 0, 1, 0, 1, 1, 1, 1, 1, 1, 1, 0, 1] code52) (ctxQ Tryd.prog ann52 (Dw ord52) none Kp [1, 1, 1, 1, 1, 1, 1, 0, 1, 0, 1, 1, 1, 1, 1, 1, 1, 0, 1] code52 [] (q52 K)) Kp (([some (.pointer x0), none, some (.int .i64 x2), none, none, none, none, none, none, none, some (.pointer (some x10))] ++ nn 119)) h)
theorem J52_4.of {x0 : Option Addr} {x2:Int} {x10:Addr} {K : Bool → HP} {Kp:PK} {h:Hp} (H : JT52_4 x0 x2 x10 K Kp h) : J52_4 x0 x2 x10 K Kp h :=
 Joint.mk (Eq.mp (by kernel_rfl) H)
def JT52_1 (x0 : Option Addr) (x2:Int) (x3:Bool) (x5:Addr) (K : Bool → HP) (Kp:PK) (h:Hp) : Prop :=
 Ld h (x5.add 2) (Value.int .i64) fun t37_0 =>
 Ld h ((x5.add 2).add 1) (Value.int .i64) fun t37_1 =>
 Ld h ((x5.add 2).add 2) (Value.int .i64) fun t37_2 =>
 Ld h ((x5.add 2).add 3) (Value.int .i64) fun t37_3 =>
 Ld h ((x5.add 2).add 4) (Sl.v) fun t37_4 =>
 New h #[(.int .i64 (0:Int)), (.int .i64 (0:Int)), (.int .i64 (0:Int)), (.int .i64 (0:Int)), (.slice none 0 0)] 61 fun a10 h1 =>
 St h1 a10 (.int .i64 t37_0) fun h2 =>
 St h2 (a10.add 1) (.int .i64 t37_1) fun h3 =>
 St h3 (a10.add 2) (.int .i64 t37_2) fun h4 =>
 St h4 (a10.add 3) (.int .i64 t37_3) fun h5 =>
 St h5 (a10.add 4) (Sl.v t37_4) fun h6 =>
 Ld h6 a10 (Value.int .i64) fun t38_0 =>
 Ld h6 (a10.add 1) (Value.int .i64) fun t38_1 =>
 Ld h6 (a10.add 2) (Value.int .i64) fun t38_2 =>
 Ld h6 (a10.add 3) (Value.int .i64) fun t38_3 =>
 Ld h6 (a10.add 4) (Sl.v) fun t38_4 =>
 Fn62 t38_0 t38_1 t38_2 t38_3 t38_4 h6 (fun t39 h7 =>
 If (!t39) (
 K false h7) (
 Ld h7 a10 (Value.int .i64) fun t43 =>
 If (t43 == (1:Int)) (
 Ld h7 (x5.add 1) (Value.bool) fun t47 =>
 If (!t47) (
 K false h7) (
 J52_2 x0 x2 x3 a10 K Kp h7)) (
 If (t43 == (18:Int)) (
 Ld h7 (x5.add 1) (Value.bool) fun t52 =>
 If t52 (
 K false h7) (
 J52_2 x0 x2 x3 a10 K Kp h7)) (
 If (t43 == (20:Int)) (
 If x3 (
 K false h7) (
 Ld h7 (x5.add 1) (Value.bool) fun t58 =>
 Ld h7 (a10.add 4) (Sl.v) fun t60 =>
 Ix t60.a t60.n 7 (0:Int) fun a61 =>
 Ld h7 (a61.add 1) (Value.bool) fun t63 =>
 If (!(t58 == t63)) (
 K false h7) (
 J52_2 x0 x2 x3 a10 K Kp h7))) (
 If (t43 == (19:Int)) (
 If x3 (
 K false h7) (
 Ld h7 (a10.add 4) (Sl.v) fun t71 =>
 Ix t71.a t71.n 7 (0:Int) fun a72 =>
 Ld h7 (a72.add 1) (Value.bool) fun t74 =>
 If t74 (
 K false h7) (
 J52_4 x0 x2 a10 K Kp h7))) (
 J52_2 x0 x2 x3 a10 K Kp h7)))))) Kp
def J52_1 (x0 : Option Addr) (x2:Int) (x3:Bool) (x5:Addr) (K : Bool → HP) (Kp:PK) (h:Hp) : Prop :=
 Joint (sem Tryd.prog ann52 (Dw ord52) none (sub [1, 1, 1, 1] code52) (ctxQ Tryd.prog ann52 (Dw ord52) none Kp [1, 1, 1, 1] code52 [] (q52 K)) Kp (([some (.pointer x0), none, some (.int .i64 x2), some (.bool x3), none, some (.pointer (some x5))] ++ nn 124)) h)
theorem J52_1.of {x0 : Option Addr} {x2:Int} {x3:Bool} {x5:Addr} {K : Bool → HP} {Kp:PK} {h:Hp} (H : JT52_1 x0 x2 x3 x5 K Kp h) : J52_1 x0 x2 x3 x5 K Kp h :=
 Joint.mk (Eq.mp (by kernel_rfl) H)
def JT52_7 (x0 : Option Addr) (x2:Int) (x3:Bool) (x5:Addr) (x31:Bool) (K : Bool → HP) (Kp:PK) (h:Hp) : Prop :=
 If x31 (
 K false h) (
 If (decide (x2 > (64:Int))) (
 K false h) (
 J52_1 x0 x2 x3 x5 K Kp h))
def J52_7 (x0 : Option Addr) (x2:Int) (x3:Bool) (x5:Addr) (x31:Bool) (K : Bool → HP) (Kp:PK) (h:Hp) : Prop :=
 Joint (semOps Tryd.prog (Ann.reg 3 ann52) (regOps (sub [1, 1, 1, 0, 0] code52)) [9, 10, 11, 12] (ctxQ Tryd.prog ann52 (Dw ord52) none Kp [1, 1, 1, 0, 0] code52 [] (q52 K) .normal) Kp (([some (.pointer x0), none, some (.int .i64 x2), some (.bool x3), none, some (.pointer (some x5)), none, none, none, none, none, none, none, none, none, none, none, none, none, none, none, none, none, none, none, none, none, none, none, none, none, some (.bool x31)] ++ nn 98)) h)
theorem J52_7.of {x0 : Option Addr} {x2:Int} {x3:Bool} {x5:Addr} {x31:Bool} {K : Bool → HP} {Kp:PK} {h:Hp} (H : JT52_7 x0 x2 x3 x5 x31 K Kp h) : J52_7 x0 x2 x3 x5 x31 K Kp h :=
 Joint.mk (Eq.mp (by kernel_rfl) H)
def S52 (s : Option Addr) (f_0 : ByteArray) (f_1:Bool) (f_2:Int) (f_3:Int) (f_4:Int) (f_5:Int) (f_6:Sl) (deep:Int) (inside:Bool) (h:Hp) (K : Bool → HP) (Kp:PK) : Prop :=
 New h #[(.string f_0), (.bool f_1), (.int .i64 f_2), (.int .i64 f_3), (.int .i64 f_4), (.int .i64 f_5), (Sl.v f_6)] 63 fun a5 h1 =>
 NN s fun p14 =>
 Ld h1 p14 (Value.int .i64) fun t16 =>
 Wr .i64 (t16 + (1:Int)) fun t17 =>
 NN s fun p18 =>
 St h1 p18 (.int .i64 t17) fun h2 =>
 Ld h2 a5 (Value.string) fun t21 =>
 Fn61 t21 h2 (fun t22 h3 =>
 If (!t22) (
 J52_7 s deep inside a5 true K Kp h3) (
 NN s fun p27 =>
 Ld h3 p27 (Value.int .i64) fun t29 =>
 J52_7 s deep inside a5 (decide (t29 > (256:Int))) K Kp h3)) Kp
theorem Fn52.of {s : Option Addr} {f_0 : ByteArray} {f_1:Bool} {f_2:Int} {f_3:Int} {f_4:Int} {f_5:Int} {f_6:Sl} {deep:Int} {inside:Bool} {h:Hp} {K : Bool → HP} {Kp:PK} (H : S52 s f_0 f_1 f_2 f_3 f_4 f_5 f_6 deep inside h K Kp) : Fn52 s f_0 f_1 f_2 f_3 f_4 f_5 f_6 deep inside h K Kp :=
 fn_of2 (P := Tryd.prog) (ann := ann52) (D := DrawSem Tryd.prog ord52) (drawOk _) (c := code52) (zs := [(.bool false)]) (args := [(.pointer s), (.agg #[(.string f_0), (.bool f_1), (.int .i64 f_2), (.int .i64 f_3), (.int .i64 f_4), (.int .i64 f_5), (Sl.v f_6)]), (.int .i64 deep), (.bool inside)]) (Kv := kv52 K) (Kp := Kp) (h := h) Tryd.func52 (by kernel_rfl) H (by kernel_rfl) (by kernel_rfl)
/- ### 53: mark -/
noncomputable def code53 : Code := Tryd.f53.body.getD .skip
def ann53 : Ann := []
def ord53 : List (Nat × OT × List Nat) := []
def kv53 (K : ByteArray → Bool → Int → Int → Int → Int → Sl → HP) : Value → HP := fun v h => match v with | .agg cs0 => (match (cs0.toList.getD 0 undef) with | .string r0_0 => (match (cs0.toList.getD 1 undef) with | .bool r0_1 => (match (cs0.toList.getD 2 undef) with | .int _ r0_2 => (match (cs0.toList.getD 3 undef) with | .int _ r0_3 => (match (cs0.toList.getD 4 undef) with | .int _ r0_4 => (match (cs0.toList.getD 5 undef) with | .int _ r0_5 => (match (cs0.toList.getD 6 undef) with | .slice r0_6a r0_6n r0_6c => (let r0_6 : Sl := ⟨r0_6a, r0_6n, r0_6c⟩; K r0_0 r0_1 r0_2 r0_3 r0_4 r0_5 r0_6 h) | _ => False) | _ => False) | _ => False) | _ => False) | _ => False) | _ => False) | _ => False) | _ => False
def S53 (i:Int) (h:Hp) (K : ByteArray → Bool → Int → Int → Int → Int → Sl → HP) (Kp:PK) : Prop :=
 New h #[(.string (bs [])), (.bool false), (.int .i64 (0:Int)), (.int .i64 (0:Int)), (.int .i64 (0:Int)), (.int .i64 (0:Int)), (.slice none 0 0)] 63 fun a2 h1 =>
 Wr .i64 ((90:Int) + i) fun t4 =>
 St h1 a2 (.string (bs [109])) fun h2 =>
 St h2 (a2.add 1) (.bool false) fun h3 =>
 St h3 (a2.add 2) (.int .i64 t4) fun h4 =>
 St h4 (a2.add 3) (.int .i64 (0:Int)) fun h5 =>
 St h5 (a2.add 4) (.int .i64 (0:Int)) fun h6 =>
 St h6 (a2.add 5) (.int .i64 (0:Int)) fun h7 =>
 St h7 (a2.add 6) (.slice none 0 0) fun h8 =>
 Ld h8 a2 (Value.string) fun r0_0 =>
 Ld h8 (a2.add 1) (Value.bool) fun r0_1 =>
 Ld h8 (a2.add 2) (Value.int .i64) fun r0_2 =>
 Ld h8 (a2.add 3) (Value.int .i64) fun r0_3 =>
 Ld h8 (a2.add 4) (Value.int .i64) fun r0_4 =>
 Ld h8 (a2.add 5) (Value.int .i64) fun r0_5 =>
 Ld h8 (a2.add 6) (Sl.v) fun r0_6 =>
 K r0_0 r0_1 r0_2 r0_3 r0_4 r0_5 r0_6 h8
theorem Fn53.of {i:Int} {h:Hp} {K : ByteArray → Bool → Int → Int → Int → Int → Sl → HP} {Kp:PK} (H : S53 i h K Kp) : Fn53 i h K Kp :=
 fn_of2 (P := Tryd.prog) (ann := ann53) (D := DrawSem Tryd.prog ord53) (drawOk _) (c := code53) (zs := [(.agg #[(.string (bs [])), (.bool false), (.int .i64 (0:Int)), (.int .i64 (0:Int)), (.int .i64 (0:Int)), (.int .i64 (0:Int)), (.slice none 0 0)])]) (args := [(.int .i64 i)]) (Kv := kv53 K) (Kp := Kp) (h := h) Tryd.func53 (by kernel_rfl) H (by kernel_rfl) (by kernel_rfl)
/- ### 54: spoilFields -/
noncomputable def code54 : Code := Tryd.f54.body.getD .skip
def ann54 : Ann := [(2001, [0, 2])]
def ord54 : List (Nat × OT × List Nat) := []
def kv54 (K:HP) : Value → HP := fun _ h => K h
def q54 (K:HP) : Qt := retQ Tryd.prog Tryd.f54.results.toList [] (kv54 K)
abbrev mk54_1 (x0:Sl) (x2:Int) : Fr := ([some (Sl.v x0), none, some (.int .i64 x2)] ++ nn 25)
def T54_1 (x0:Sl) (K:HP) (Kp:PK) (N1 : Fr → HP) (x2:Int) (h:Hp) : Prop :=
 If (decide (x2 < (x0.n:Int))) (
 Ix x0.a x0.n 7 x2 fun a11 =>
 Ld h ((a11.add 2).add 4) (Sl.v) fun t14 =>
 Fn54 t14 h (fun h1 =>
 Ix x0.a x0.n 7 x2 fun a18 =>
 St h1 a18 (.string (bs [115, 112, 111, 105, 108, 116])) fun h2 =>
 Wr .i64 (0 - x2) fun t23 =>
 Wr .i64 (t23 - (1:Int)) fun t24 =>
 Ix x0.a x0.n 7 x2 fun a25 =>
 St h2 (a25.add 2) (.int .i64 t24) fun h3 =>
 Wr .i64 (x2 + (1:Int)) fun t8 =>
 N1 (mk54_1 x0 t8) h3) Kp) (
 K  h)
def L54_1 (x0:Sl) (K:HP) (Kp:PK) (x2:Int) (h:Hp) : Prop :=
 LoopH (fun N fr h => sem Tryd.prog ann54 (Dw ord54) none (sub [1, 0, 0] code54) (thenQ (fun fr' h' => N (Ann.find ann54 2001 fr') h') (ctxQ Tryd.prog ann54 (Dw ord54) none Kp [1, 0] code54 [] (q54 K))) Kp fr h) (mk54_1 x0 x2) h
theorem L54_1.rule {x0:Sl} {K:HP} {Kp:PK} (I : Int → HP) (μ : Int → Hp → Nat) {x2:Int} {h:Hp} (h0 : I x2 h)
 (step : ∀ (x2:Int) (h:Hp), I x2 h → ∀ N1 : Fr → HP, (∀ (x2':Int) (h':Hp), I x2' h' → μ x2' h' < μ x2 h → N1 (mk54_1 x0 x2') h') → T54_1 x0 K Kp N1 x2 h) : L54_1 x0 K Kp x2 h :=
 loop_rule (σ := Int) (fun s => mk54_1 x0 s) (fun N s h => T54_1 x0 K Kp N s h) (fun N s h => by kernel_rfl) (fun s h => I s h) (fun s h => μ s h) (s0 := x2) h0 (fun s h hI N hN => step s h hI N (fun x2' h' hI' hl => hN x2' h' hI' hl))
def S54 (l:Sl) (h:Hp) (K:HP) (Kp:PK) : Prop :=
 L54_1 l K Kp (0:Int) h
theorem Fn54.of {l:Sl} {h:Hp} {K:HP} {Kp:PK} (H : S54 l h K Kp) : Fn54 l h K Kp :=
 fn_of2 (P := Tryd.prog) (ann := ann54) (D := DrawSem Tryd.prog ord54) (drawOk _) (c := code54) (zs := []) (args := [(Sl.v l)]) (Kv := kv54 K) (Kp := Kp) (h := h) Tryd.func54 (by kernel_rfl) H (by kernel_rfl) (by kernel_rfl)
/- ### 55: grow -/
noncomputable def code55 : Code := Tryd.f55.body.getD .skip
def ann55 : Ann := [(2000004, [0]), (2005, [0, 3]), (2001, [0, 2])]
def ord55 : List (Nat × OT × List Nat) := []
def kv55 (K:HP) : Value → HP := fun _ h => K h
def q55 (K:HP) : Qt := retQ Tryd.prog Tryd.f55.results.toList [] (kv55 K)
abbrev mk55_2 (x0:Sl) (x3:Int) : Fr := ([some (Sl.v x0), none, none, some (.int .i64 x3)] ++ nn 21)
def T55_2 (K:HP) (Kp:PK) (N1 : Fr → HP) (x0:Sl) (x3:Int) (h:Hp) : Prop :=
 If (decide (x3 < (9:Int))) (
 New h #[(.string (bs [103, 114, 111, 119, 110])), (.bool false), (.int .i64 (0:Int)), (.int .i64 (0:Int)), (.int .i64 (0:Int)), (.int .i64 (0:Int)), (.slice none 0 0)] 63 fun a23 h1 =>
 Ap h1 63 #[(.string (bs [])), (.bool false), (.int .i64 (0:Int)), (.int .i64 (0:Int)), (.int .i64 (0:Int)), (.int .i64 (0:Int)), (.slice none 0 0)] 7 80 x0 1 (rd h1 (some a23) (1 * 7)) fun t24 h2 =>
 Wr .i64 (x3 + (1:Int)) fun t20 =>
 N1 (mk55_2 t24 t20) h2) (
 K  h)
def L55_2 (K:HP) (Kp:PK) (x0:Sl) (x3:Int) (h:Hp) : Prop :=
 LoopH (fun N fr h => sem Tryd.prog ann55 (Dw ord55) none (sub [1, 1, 0, 0] code55) (thenQ (fun fr' h' => N (Ann.find ann55 2005 fr') h') (ctxQ Tryd.prog ann55 (Dw ord55) none Kp [1, 1, 0] code55 [] (q55 K))) Kp fr h) (mk55_2 x0 x3) h
theorem L55_2.rule {K:HP} {Kp:PK} (I : Sl → Int → HP) (μ : Sl → Int → Hp → Nat) {x0:Sl} {x3:Int} {h:Hp} (h0 : I x0 x3 h)
 (step : ∀ (x0:Sl) (x3:Int) (h:Hp), I x0 x3 h → ∀ N1 : Fr → HP, (∀ (x0':Sl) (x3':Int) (h':Hp), I x0' x3' h' → μ x0' x3' h' < μ x0 x3 h → N1 (mk55_2 x0' x3') h') → T55_2 K Kp N1 x0 x3 h) : L55_2 K Kp x0 x3 h :=
 loop_rule (σ := Sl × Int) (fun s => mk55_2 s.1 s.2) (fun N s h => T55_2 K Kp N s.1 s.2 h) (fun N s h => by kernel_rfl) (fun s h => I s.1 s.2 h) (fun s h => μ s.1 s.2 h) (s0 := ⟨x0, x3⟩) h0 (fun s h hI N hN => step s.1 s.2 h hI N (fun x0' x3' h' hI' hl => hN ⟨x0', x3'⟩ h' hI' hl))
def JT55_1 (x0:Sl) (K:HP) (Kp:PK) (h:Hp) : Prop :=
 L55_2  K Kp x0 (0:Int) h
def J55_1 (x0:Sl) (K:HP) (Kp:PK) (h:Hp) : Prop :=
 Joint (sem Tryd.prog ann55 (Dw ord55) none (sub [1] code55) (ctxQ Tryd.prog ann55 (Dw ord55) none Kp [1] code55 [] (q55 K)) Kp (([some (Sl.v x0)] ++ nn 24)) h)
theorem J55_1.of {x0:Sl} {K:HP} {Kp:PK} {h:Hp} (H : JT55_1 x0 K Kp h) : J55_1 x0 K Kp h :=
 Joint.mk (Eq.mp (by kernel_rfl) H)
abbrev mk55_3 (x0:Sl) (x2:Int) : Fr := ([some (Sl.v x0), none, some (.int .i64 x2)] ++ nn 22)
def T55_3 (x0:Sl) (K:HP) (Kp:PK) (N1 : Fr → HP) (x2:Int) (h:Hp) : Prop :=
 If (decide (x2 < (x0.n:Int))) (
 Ix x0.a x0.n 7 x2 fun a12 =>
 Ld h ((a12.add 2).add 4) (Sl.v) fun t15 =>
 Fn55 t15 h (fun h1 =>
 Wr .i64 (x2 + (1:Int)) fun t9 =>
 N1 (mk55_3 x0 t9) h1) Kp) (
 J55_1 x0 K Kp h)
def L55_3 (x0:Sl) (K:HP) (Kp:PK) (x2:Int) (h:Hp) : Prop :=
 LoopH (fun N fr h => sem Tryd.prog ann55 (Dw ord55) none (sub [0, 1, 0, 0] code55) (thenQ (fun fr' h' => N (Ann.find ann55 2001 fr') h') (ctxQ Tryd.prog ann55 (Dw ord55) none Kp [0, 1, 0] code55 [] (q55 K))) Kp fr h) (mk55_3 x0 x2) h
theorem L55_3.rule {x0:Sl} {K:HP} {Kp:PK} (I : Int → HP) (μ : Int → Hp → Nat) {x2:Int} {h:Hp} (h0 : I x2 h)
 (step : ∀ (x2:Int) (h:Hp), I x2 h → ∀ N1 : Fr → HP, (∀ (x2':Int) (h':Hp), I x2' h' → μ x2' h' < μ x2 h → N1 (mk55_3 x0 x2') h') → T55_3 x0 K Kp N1 x2 h) : L55_3 x0 K Kp x2 h :=
 loop_rule (σ := Int) (fun s => mk55_3 x0 s) (fun N s h => T55_3 x0 K Kp N s h) (fun N s h => by kernel_rfl) (fun s h => I s h) (fun s h => μ s h) (s0 := x2) h0 (fun s h hI N hN => step s h hI N (fun x2' h' hI' hl => hN x2' h' hI' hl))
def S55 (l:Sl) (h:Hp) (K:HP) (Kp:PK) : Prop :=
 L55_3 l K Kp (0:Int) h
theorem Fn55.of {l:Sl} {h:Hp} {K:HP} {Kp:PK} (H : S55 l h K Kp) : Fn55 l h K Kp :=
 fn_of2 (P := Tryd.prog) (ann := ann55) (D := DrawSem Tryd.prog ord55) (drawOk _) (c := code55) (zs := []) (args := [(Sl.v l)]) (Kv := kv55 K) (Kp := Kp) (h := h) Tryd.func55 (by kernel_rfl) H (by kernel_rfl) (by kernel_rfl)
/- ### 56: all -/
noncomputable def code56 : Code := Tryd.f56.body.getD .skip
def ann56 : Ann := []
def ord56 : List (Nat × OT × List Nat) := []
def kv56 (K : Value → HP) : Value → HP := fun v h => let r0 := v; K r0 h
def S56 (l:Sl) (most:Int) (h:Hp) (K : Value → HP) (Kp:PK) : Prop :=
 New h #[(Sl.v l)] 22 fun a2 h1 =>
 New h1 #[(.int .i64 most)] 3 fun a3 h2 =>
 K (.func (.func 63) #[] #[(.pointer (some a3)), (.pointer (some a2))]) h2
theorem Fn56.of {l:Sl} {most:Int} {h:Hp} {K : Value → HP} {Kp:PK} (H : S56 l most h K Kp) : Fn56 l most h K Kp :=
 fn_of2 (P := Tryd.prog) (ann := ann56) (D := DrawSem Tryd.prog ord56) (drawOk _) (c := code56) (zs := [(.nilFunc)]) (args := [(Sl.v l), (.int .i64 most)]) (Kv := kv56 K) (Kp := Kp) (h := h) Tryd.func56 (by kernel_rfl) H (by kernel_rfl) (by kernel_rfl)
end Go.Proofs.YtfomkkdijjfpiaaDoor
