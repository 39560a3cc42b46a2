import Derived.Test.YtcgdhhchjgbhnaaGreatDoorCutsShRange
import Derived.Test.YtcgdhhchjgbhnaaGreatDoorChecked
set_option linter.unusedSimpArgs false
set_option linter.unusedVariables false
set_option maxRecDepth 100000
set_option maxHeartbeats 200000
/- What the functions do, printed by program (gen.py) in the words of ShCore; each text is held against the loaded program by the kernel. -/
namespace Go.Proofs.YtcgdhhchjgbhnaaGreatDoor
open Go Go.Sh
abbrev Y6 : TypeId := 3
abbrev Y8 : TypeId := 5
abbrev Y25 : TypeId := 22
abbrev Y27 : TypeId := 24
abbrev Y29 : TypeId := 26
abbrev Y33 : TypeId := 30
abbrev Y34 : TypeId := 31
abbrev Y35 : TypeId := 32
abbrev Y37 : TypeId := 34
abbrev Y42 : TypeId := 39
abbrev Y52 : TypeId := 49
abbrev Y61 : TypeId := 58
abbrev Y66 : TypeId := 63
abbrev Y96 : TypeId := 93
abbrev Y109 : TypeId := 106
abbrev Y138 : TypeId := 135
abbrev Y162 : TypeId := 159
abbrev Y167 : TypeId := 164
abbrev Y182 : TypeId := 179
abbrev Y192 : TypeId := 189
abbrev Y193 : TypeId := 190
abbrev Y194 : TypeId := 191
abbrev Y195 : TypeId := 192
abbrev Y196 : TypeId := 193
abbrev Y197 : TypeId := 194
abbrev Y198 : TypeId := 195
abbrev Y210 : TypeId := 207
abbrev Y219 : TypeId := 216
abbrev Y224 : TypeId := 221
abbrev Y233 : TypeId := 230
abbrev Y234 : TypeId := 231
abbrev Y248 : TypeId := 245
abbrev I4 : FuncId := 4
abbrev I7 : FuncId := 7
abbrev I12 : FuncId := 12
abbrev I18 : FuncId := 18
abbrev I19 : FuncId := 19
abbrev I21 : FuncId := 21
abbrev I29 : FuncId := 29
abbrev I30 : FuncId := 30
abbrev I31 : FuncId := 31
abbrev I32 : FuncId := 32
abbrev I33 : FuncId := 33
abbrev I34 : FuncId := 34
abbrev I49 : FuncId := 49
abbrev I50 : FuncId := 50
abbrev I51 : FuncId := 51
abbrev I52 : FuncId := 52
abbrev I55 : FuncId := 55
abbrev I56 : FuncId := 56
abbrev I57 : FuncId := 57
abbrev I63 : FuncId := 63
abbrev I64 : FuncId := 64
abbrev I65 : FuncId := 65
abbrev I66 : FuncId := 66
abbrev I67 : FuncId := 67
abbrev I68 : FuncId := 68
abbrev I69 : FuncId := 69
abbrev I70 : FuncId := 70
abbrev I98 : FuncId := 98
abbrev I99 : FuncId := 99
abbrev I100 : FuncId := 100
abbrev I101 : FuncId := 101
abbrev I102 : FuncId := 104
abbrev I103 : FuncId := 105
abbrev I104 : FuncId := 106
abbrev I105 : FuncId := 107
abbrev I109 : FuncId := 111
abbrev I110 : FuncId := 112
abbrev I111 : FuncId := 113
abbrev I112 : FuncId := 114
abbrev I113 : FuncId := 115
abbrev I114 : FuncId := 116
abbrev I115 : FuncId := 117
abbrev I116 : FuncId := 118
abbrev I129 : FuncId := 132
abbrev I130 : FuncId := 133
abbrev I131 : FuncId := 134
abbrev I132 : FuncId := 135
abbrev I133 : FuncId := 136
abbrev I134 : FuncId := 137
abbrev I135 : FuncId := 138
abbrev I136 : FuncId := 139
abbrev I137 : FuncId := 140
abbrev I138 : FuncId := 141
abbrev I139 : FuncId := 142
abbrev I140 : FuncId := 143
abbrev I141 : FuncId := 144
abbrev I152 : FuncId := 155
abbrev I153 : FuncId := 156
abbrev I154 : FuncId := 157
abbrev I155 : FuncId := 158
abbrev I156 : FuncId := 159
abbrev I157 : FuncId := 160
abbrev I158 : FuncId := 161
abbrev I159 : FuncId := 162
abbrev I160 : FuncId := 163
abbrev I161 : FuncId := 164
abbrev I162 : FuncId := 165
abbrev I163 : FuncId := 166
abbrev I164 : FuncId := 167
abbrev I170 : FuncId := 173
abbrev I171 : FuncId := 174
abbrev I172 : FuncId := 176
abbrev I173 : FuncId := 178
abbrev I174 : FuncId := 179
abbrev I175 : FuncId := 180
abbrev I176 : FuncId := 181
abbrev I177 : FuncId := 182
abbrev I178 : FuncId := 183
abbrev I179 : FuncId := 184
abbrev I180 : FuncId := 186
abbrev I182 : FuncId := 188
abbrev I183 : FuncId := 190
abbrev I184 : FuncId := 191
abbrev I185 : FuncId := 192
abbrev I188 : FuncId := 212
abbrev I189 : FuncId := 213
abbrev I190 : FuncId := 216
abbrev I191 : FuncId := 217
abbrev I192 : FuncId := 218
abbrev I193 : FuncId := 219
abbrev I194 : FuncId := 220
abbrev I195 : FuncId := 221
abbrev I196 : FuncId := 222
abbrev I200 : FuncId := 102
abbrev I201 : FuncId := 103
abbrev I203 : FuncId := 175
abbrev I204 : FuncId := 177
abbrev I205 : FuncId := 185
abbrev I206 : FuncId := 189
abbrev I207 : FuncId := 193
abbrev I208 : FuncId := 194
abbrev I224 : FuncId := 214
abbrev I225 : FuncId := 215
abbrev zY27 : Array Value := #[(.int .i64 0), (.int .i64 0), (.int .i64 0), (.int .i64 0), (.slice none 0 0)]
abbrev zY29 : Array Value := #[(.string (bs [])), (.bool false), (.int .i64 0), (.int .i64 0), (.int .i64 0), (.int .i64 0), (.slice none 0 0)]
abbrev zY33 : Array Value := #[(.int .i64 0), (.int .i64 0), (.int .i64 0), (.slice none 0 0), (.slice none 0 0), (.slice none 0 0)]
abbrev zY37 : Array Value := #[(.int .i64 0), (.slice none 0 0), (.int .i64 0)]
abbrev zY66 : Array Value := #[(.bool false), (.int .i64 0), (.string (bs [])), (.slice none 0 0)]
abbrev zY109 : Array Value := #[(.string (bs [])), (.bool false), (.int .i64 0), (.int .i64 0), (.int .i64 0), (.int .i64 0), (.slice none 0 0), (.int .i64 0), (.int .i64 0), (.int .i64 0), (.slice none 0 0), (.slice none 0 0), (.slice none 0 0), (.int .i64 0), (.int .i64 0), (.pointer none), (.nilIface)]
abbrev zY167 : Array Value := #[(.slice none 0 0), (.int .i64 0), (.pointer none)]
abbrev zY224 : Array Value := #[(.slice none 0 0), (.slice none 0 0), (.string (bs [])), (.bool false), (.int .i64 0), (.int .i64 0), (.int .i64 0), (.int .i64 0), (.slice none 0 0), (.bool false)]
abbrev NY27 (h : Hp) (t0 t1 t2 t3 : Int) (t4 : Sl) (K : Addr → HP) : Prop := New h #[(.int .i64 t0), (.int .i64 t1), (.int .i64 t2), (.int .i64 t3), (Sl.v t4)] Y27 K
abbrev NY29 (h : Hp) (t0 : ByteArray) (t1 : Bool) (t2 t3 t4 t5 : Int) (t6 : Sl) (K : Addr → HP) : Prop := New h #[(.string t0), (.bool t1), (.int .i64 t2), (.int .i64 t3), (.int .i64 t4), (.int .i64 t5), (Sl.v t6)] Y29 K
abbrev NY33 (h : Hp) (t0 t1 t2 : Int) (t3 t4 t5 : Sl) (K : Addr → HP) : Prop := New h #[(.int .i64 t0), (.int .i64 t1), (.int .i64 t2), (Sl.v t3), (Sl.v t4), (Sl.v t5)] Y33 K
abbrev NY66 (h : Hp) (t0 : Bool) (t1 : Int) (t2 : ByteArray) (t3 : Sl) (K : Addr → HP) : Prop := New h #[(.bool t0), (.int .i64 t1), (.string t2), (Sl.v t3)] Y66 K
abbrev NY109 (h : Hp) (t0 : ByteArray) (t1 : Bool) (t2 t3 t4 t5 : Int) (t6 : Sl) (t7 t8 t9 : Int) (t10 t11 t12 : Sl) (t13 t14 : Int) (t15 : Option Addr) (t16 : Value) (K : Addr → HP) : Prop := New h #[(.string t0), (.bool t1), (.int .i64 t2), (.int .i64 t3), (.int .i64 t4), (.int .i64 t5), (Sl.v t6), (.int .i64 t7), (.int .i64 t8), (.int .i64 t9), (Sl.v t10), (Sl.v t11), (Sl.v t12), (.int .i64 t13), (.int .i64 t14), (.pointer t15), t16] Y109 K
abbrev NY167 (h : Hp) (t0 : Sl) (t1 : Int) (t2 : Option Addr) (K : Addr → HP) : Prop := New h #[(Sl.v t0), (.int .i64 t1), (.pointer t2)] Y167 K
abbrev NY224 (h : Hp) (t0 t1 : Sl) (t2 : ByteArray) (t3 : Bool) (t4 t5 t6 t7 : Int) (t8 : Sl) (t9 : Bool) (K : Addr → HP) : Prop := New h #[(Sl.v t0), (Sl.v t1), (.string t2), (.bool t3), (.int .i64 t4), (.int .i64 t5), (.int .i64 t6), (.int .i64 t7), (Sl.v t8), (.bool t9)] Y224 K
def LY27 (h : Hp) (a : Addr) (K : Int → Int → Int → Int → Sl → Prop) : Prop :=
  Ld h a mI fun t0 =>
  Ld h (a.add 1) mI fun t1 =>
  Ld h (a.add 2) mI fun t2 =>
  Ld h (a.add 3) mI fun t3 =>
  Ld h (a.add 4) Sl.v fun t4 =>
  K t0 t1 t2 t3 t4
def LY29 (h : Hp) (a : Addr) (K : ByteArray → Bool → Int → Int → Int → Int → Sl → Prop) : Prop :=
  Ld h a .string fun t0 =>
  Ld h (a.add 1) .bool fun t1 =>
  Ld h (a.add 2) mI fun t2 =>
  Ld h (a.add 3) mI fun t3 =>
  Ld h (a.add 4) mI fun t4 =>
  Ld h (a.add 5) mI fun t5 =>
  Ld h (a.add 6) Sl.v fun t6 =>
  K t0 t1 t2 t3 t4 t5 t6
def LY33 (h : Hp) (a : Addr) (K : Int → Int → Int → Sl → Sl → Sl → Prop) : Prop :=
  Ld h a mI fun t0 =>
  Ld h (a.add 1) mI fun t1 =>
  Ld h (a.add 2) mI fun t2 =>
  Ld h (a.add 3) Sl.v fun t3 =>
  Ld h (a.add 4) Sl.v fun t4 =>
  Ld h (a.add 5) Sl.v fun t5 =>
  K t0 t1 t2 t3 t4 t5
def LY37 (h : Hp) (a : Addr) (K : Int → Sl → Int → Prop) : Prop :=
  Ld h a mI fun t0 =>
  Ld h (a.add 1) Sl.v fun t1 =>
  Ld h (a.add 2) mI fun t2 =>
  K t0 t1 t2
def LY66 (h : Hp) (a : Addr) (K : Bool → Int → ByteArray → Sl → Prop) : Prop :=
  Ld h a .bool fun t0 =>
  Ld h (a.add 1) mI fun t1 =>
  Ld h (a.add 2) .string fun t2 =>
  Ld h (a.add 3) Sl.v fun t3 =>
  K t0 t1 t2 t3
def LY109 (h : Hp) (a : Addr) (K : ByteArray → Bool → Int → Int → Int → Int → Sl → Int → Int → Int → Sl → Sl → Sl → Int → Int → (Option Addr) → Value → Prop) : Prop :=
  Ld h a .string fun t0 =>
  Ld h (a.add 1) .bool fun t1 =>
  Ld h (a.add 2) mI fun t2 =>
  Ld h (a.add 3) mI fun t3 =>
  Ld h (a.add 4) mI fun t4 =>
  Ld h (a.add 5) mI fun t5 =>
  Ld h (a.add 6) Sl.v fun t6 =>
  Ld h (a.add 7) mI fun t7 =>
  Ld h (a.add 8) mI fun t8 =>
  Ld h (a.add 9) mI fun t9 =>
  Ld h (a.add 10) Sl.v fun t10 =>
  Ld h (a.add 11) Sl.v fun t11 =>
  Ld h (a.add 12) Sl.v fun t12 =>
  Ld h (a.add 13) mI fun t13 =>
  Ld h (a.add 14) mI fun t14 =>
  Ld h (a.add 15) .pointer fun t15 =>
  Ld h (a.add 16) id fun t16 =>
  K t0 t1 t2 t3 t4 t5 t6 t7 t8 t9 t10 t11 t12 t13 t14 t15 t16
def LY167 (h : Hp) (a : Addr) (K : Sl → Int → (Option Addr) → Prop) : Prop :=
  Ld h a Sl.v fun t0 =>
  Ld h (a.add 1) mI fun t1 =>
  Ld h (a.add 2) .pointer fun t2 =>
  K t0 t1 t2
def LY224 (h : Hp) (a : Addr) (K : Sl → Sl → ByteArray → Bool → Int → Int → Int → Int → Sl → Bool → Prop) : Prop :=
  Ld h a Sl.v fun t0 =>
  Ld h (a.add 1) Sl.v fun t1 =>
  Ld h (a.add 2) .string fun t2 =>
  Ld h (a.add 3) .bool fun t3 =>
  Ld h (a.add 4) mI fun t4 =>
  Ld h (a.add 5) mI fun t5 =>
  Ld h (a.add 6) mI fun t6 =>
  Ld h (a.add 7) mI fun t7 =>
  Ld h (a.add 8) Sl.v fun t8 =>
  Ld h (a.add 9) .bool fun t9 =>
  K t0 t1 t2 t3 t4 t5 t6 t7 t8 t9
def SY27 (h : Hp) (a : Addr) (t0 t1 t2 t3 : Int) (t4 : Sl) (K : HP) : Prop :=
  St h a (.int .i64 t0) fun h1 =>
  St h1 (a.add 1) (.int .i64 t1) fun h2 =>
  St h2 (a.add 2) (.int .i64 t2) fun h3 =>
  St h3 (a.add 3) (.int .i64 t3) fun h4 =>
  St h4 (a.add 4) (Sl.v t4) fun h5 =>
  K h5
def SY29 (h : Hp) (a : Addr) (t0 : ByteArray) (t1 : Bool) (t2 t3 t4 t5 : Int) (t6 : Sl) (K : HP) : Prop :=
  St h a (.string t0) fun h1 =>
  St h1 (a.add 1) (.bool t1) fun h2 =>
  St h2 (a.add 2) (.int .i64 t2) fun h3 =>
  St h3 (a.add 3) (.int .i64 t3) fun h4 =>
  St h4 (a.add 4) (.int .i64 t4) fun h5 =>
  St h5 (a.add 5) (.int .i64 t5) fun h6 =>
  St h6 (a.add 6) (Sl.v t6) fun h7 =>
  K h7
def SY33 (h : Hp) (a : Addr) (t0 t1 t2 : Int) (t3 t4 t5 : Sl) (K : HP) : Prop :=
  St h a (.int .i64 t0) fun h1 =>
  St h1 (a.add 1) (.int .i64 t1) fun h2 =>
  St h2 (a.add 2) (.int .i64 t2) fun h3 =>
  St h3 (a.add 3) (Sl.v t3) fun h4 =>
  St h4 (a.add 4) (Sl.v t4) fun h5 =>
  St h5 (a.add 5) (Sl.v t5) fun h6 =>
  K h6
def SY37 (h : Hp) (a : Addr) (t0 : Int) (t1 : Sl) (t2 : Int) (K : HP) : Prop :=
  St h a (.int .i64 t0) fun h1 =>
  St h1 (a.add 1) (Sl.v t1) fun h2 =>
  St h2 (a.add 2) (.int .i64 t2) fun h3 =>
  K h3
def SY66 (h : Hp) (a : Addr) (t0 : Bool) (t1 : Int) (t2 : ByteArray) (t3 : Sl) (K : HP) : Prop :=
  St h a (.bool t0) fun h1 =>
  St h1 (a.add 1) (.int .i64 t1) fun h2 =>
  St h2 (a.add 2) (.string t2) fun h3 =>
  St h3 (a.add 3) (Sl.v t3) fun h4 =>
  K h4
def SY109 (h : Hp) (a : Addr) (t0 : ByteArray) (t1 : Bool) (t2 t3 t4 t5 : Int) (t6 : Sl) (t7 t8 t9 : Int) (t10 t11 t12 : Sl) (t13 t14 : Int) (t15 : Option Addr) (t16 : Value) (K : HP) : Prop :=
  St h a (.string t0) fun h1 =>
  St h1 (a.add 1) (.bool t1) fun h2 =>
  St h2 (a.add 2) (.int .i64 t2) fun h3 =>
  St h3 (a.add 3) (.int .i64 t3) fun h4 =>
  St h4 (a.add 4) (.int .i64 t4) fun h5 =>
  St h5 (a.add 5) (.int .i64 t5) fun h6 =>
  St h6 (a.add 6) (Sl.v t6) fun h7 =>
  St h7 (a.add 7) (.int .i64 t7) fun h8 =>
  St h8 (a.add 8) (.int .i64 t8) fun h9 =>
  St h9 (a.add 9) (.int .i64 t9) fun h10 =>
  St h10 (a.add 10) (Sl.v t10) fun h11 =>
  St h11 (a.add 11) (Sl.v t11) fun h12 =>
  St h12 (a.add 12) (Sl.v t12) fun h13 =>
  St h13 (a.add 13) (.int .i64 t13) fun h14 =>
  St h14 (a.add 14) (.int .i64 t14) fun h15 =>
  St h15 (a.add 15) (.pointer t15) fun h16 =>
  St h16 (a.add 16) t16 fun h17 =>
  K h17
def SY167 (h : Hp) (a : Addr) (t0 : Sl) (t1 : Int) (t2 : Option Addr) (K : HP) : Prop :=
  St h a (Sl.v t0) fun h1 =>
  St h1 (a.add 1) (.int .i64 t1) fun h2 =>
  St h2 (a.add 2) (.pointer t2) fun h3 =>
  K h3
def SY224 (h : Hp) (a : Addr) (t0 t1 : Sl) (t2 : ByteArray) (t3 : Bool) (t4 t5 t6 t7 : Int) (t8 : Sl) (t9 : Bool) (K : HP) : Prop :=
  St h a (Sl.v t0) fun h1 =>
  St h1 (a.add 1) (Sl.v t1) fun h2 =>
  St h2 (a.add 2) (.string t2) fun h3 =>
  St h3 (a.add 3) (.bool t3) fun h4 =>
  St h4 (a.add 4) (.int .i64 t4) fun h5 =>
  St h5 (a.add 5) (.int .i64 t5) fun h6 =>
  St h6 (a.add 6) (.int .i64 t6) fun h7 =>
  St h7 (a.add 7) (.int .i64 t7) fun h8 =>
  St h8 (a.add 8) (Sl.v t8) fun h9 =>
  St h9 (a.add 9) (.bool t9) fun h10 =>
  K h10
def Fn4 (f_0 : ByteArray) (f_1 : Bool) (f_2 f_3 f_4 f_5 : Int) (f_6 : Sl) (d_0 d_1 d_2 : Int) (d_3 d_4 d_5 : Sl) (p_0 p_1 : Int) (h : Hp) (K : Bool → HP) (Kp : PK) : Prop :=
  CallH Tryz.prog I4 [(.agg #[(.string f_0), (.bool f_1), (.int .i64 f_2), (.int .i64 f_3), (.int .i64 f_4), (.int .i64 f_5), (Sl.v f_6)]), (.agg #[(.int .i64 d_0), (.int .i64 d_1), (.int .i64 d_2), (Sl.v d_3), (Sl.v d_4), (Sl.v d_5)]), (.agg #[(.int .i64 p_0), (.int .i64 p_1)])] h (fun v h' => ∃ r0 : Bool, v = (.bool r0) ∧ K r0 h') Kp
def Fn7 (h : Hp) (K : Bool → HP) (Kp : PK) : Prop :=
  CallH Tryz.prog I7 [] h (fun v h' => ∃ r0 : Bool, v = (.bool r0) ∧ K r0 h') Kp
def Fn12 (f_0 : ByteArray) (f_1 : Bool) (f_2 f_3 f_4 f_5 : Int) (f_6 : Sl) (d_0 d_1 d_2 : Int) (d_3 d_4 d_5 : Sl) (h : Hp) (K : (Option Addr) → Int → Sl → Int → HP) (Kp : PK) : Prop :=
  CallH Tryz.prog I12 [(.agg #[(.string f_0), (.bool f_1), (.int .i64 f_2), (.int .i64 f_3), (.int .i64 f_4), (.int .i64 f_5), (Sl.v f_6)]), (.agg #[(.int .i64 d_0), (.int .i64 d_1), (.int .i64 d_2), (Sl.v d_3), (Sl.v d_4), (Sl.v d_5)])] h (fun v h' => ∃ r0 : Option Addr, ∃ r1_0 : Int, ∃ r1_1 : Sl, ∃ r1_2 : Int, v = (.tuple #[(.pointer r0), (.agg #[(.int .i64 r1_0), (Sl.v r1_1), (.int .i64 r1_2)])]) ∧ K r0 r1_0 r1_1 r1_2 h') Kp
def Fn18 (a : Option Addr) (h : Hp) (K : Sl → HP) (Kp : PK) : Prop :=
  CallH Tryz.prog I18 [(.pointer a)] h (fun v h' => ∃ r0 : Sl, v = (Sl.v r0) ∧ K r0 h') Kp
def Fn19 (a : Option Addr) (h : Hp) (K : Int → Int → Int → Sl → Sl → Sl → HP) (Kp : PK) : Prop :=
  CallH Tryz.prog I19 [(.pointer a)] h (fun v h' => ∃ r0_0 : Int, ∃ r0_1 : Int, ∃ r0_2 : Int, ∃ r0_3 : Sl, ∃ r0_4 : Sl, ∃ r0_5 : Sl, v = (.agg #[(.int .i64 r0_0), (.int .i64 r0_1), (.int .i64 r0_2), (Sl.v r0_3), (Sl.v r0_4), (Sl.v r0_5)]) ∧ K r0_0 r0_1 r0_2 r0_3 r0_4 r0_5 h') Kp
def Fn21 (a b : Sl) (h : Hp) (K : Bool → HP) (Kp : PK) : Prop :=
  CallH Tryz.prog I21 [(Sl.v a), (Sl.v b)] h (fun v h' => ∃ r0 : Bool, v = (.bool r0) ∧ K r0 h') Kp
def Fn29 (a : Option Addr) (h : Hp) (K : Int → HP) (Kp : PK) : Prop :=
  CallH Tryz.prog I29 [(.pointer a)] h (fun v h' => ∃ r0 : Int, v = (.int .i64 r0) ∧ K r0 h') Kp
def Fn30 (a : Option Addr) (fromv n : Int) (h : Hp) (K : (Option Addr) → Int → HP) (Kp : PK) : Prop :=
  CallH Tryz.prog I30 [(.pointer a), (.int .i64 fromv), (.int .i64 n)] h (fun v h' => ∃ r0 : Option Addr, ∃ r1 : Int, v = (.tuple #[(.pointer r0), (.int .i64 r1)]) ∧ K r0 r1 h') Kp
def Fn31 (a : Option Addr) (i : Int) (h : Hp) (K : Bool → Int → ByteArray → Sl → Int → HP) (Kp : PK) : Prop :=
  CallH Tryz.prog I31 [(.pointer a), (.int .i64 i)] h (fun v h' => ∃ r0_0 : Bool, ∃ r0_1 : Int, ∃ r0_2 : ByteArray, ∃ r0_3 : Sl, ∃ r1 : Int, v = (.tuple #[(.agg #[(.bool r0_0), (.int .i64 r0_1), (.string r0_2), (Sl.v r0_3)]), (.int .i64 r1)]) ∧ K r0_0 r0_1 r0_2 r0_3 r1 h') Kp
def Fn32 (a : Option Addr) (i : Int) (h : Hp) (K : Bool → Int → HP) (Kp : PK) : Prop :=
  CallH Tryz.prog I32 [(.pointer a), (.int .i64 i)] h (fun v h' => ∃ r0 : Bool, ∃ r1 : Int, v = (.tuple #[(.bool r0), (.int .i64 r1)]) ∧ K r0 r1 h') Kp
def Fn33 (a_0 : Bool) (a_1 : Int) (a_2 : ByteArray) (a_3 : Sl) (b_0 : Bool) (b_1 : Int) (b_2 : ByteArray) (b_3 : Sl) (h : Hp) (K : Bool → HP) (Kp : PK) : Prop :=
  CallH Tryz.prog I33 [(.agg #[(.bool a_0), (.int .i64 a_1), (.string a_2), (Sl.v a_3)]), (.agg #[(.bool b_0), (.int .i64 b_1), (.string b_2), (Sl.v b_3)])] h (fun v h' => ∃ r0 : Bool, v = (.bool r0) ∧ K r0 h') Kp
def Fn34 (a : Option Addr) (f_0 : ByteArray) (f_1 : Bool) (f_2 f_3 f_4 f_5 : Int) (f_6 : Sl) (i : Int) (v_0 : Bool) (v_1 : Int) (v_2 : ByteArray) (v_3 : Sl) (h : Hp) (K : Bool → HP) (Kp : PK) : Prop :=
  CallH Tryz.prog I34 [(.pointer a), (.agg #[(.string f_0), (.bool f_1), (.int .i64 f_2), (.int .i64 f_3), (.int .i64 f_4), (.int .i64 f_5), (Sl.v f_6)]), (.int .i64 i), (.agg #[(.bool v_0), (.int .i64 v_1), (.string v_2), (Sl.v v_3)])] h (fun v h' => ∃ r0 : Bool, v = (.bool r0) ∧ K r0 h') Kp
def Fn49 (f_0 : ByteArray) (f_1 : Bool) (f_2 f_3 f_4 f_5 : Int) (f_6 : Sl) (d_0 d_1 d_2 : Int) (d_3 d_4 d_5 : Sl) (h : Hp) (K : Int → Sl → Int → HP) (Kp : PK) : Prop :=
  CallH Tryz.prog I49 [(.agg #[(.string f_0), (.bool f_1), (.int .i64 f_2), (.int .i64 f_3), (.int .i64 f_4), (.int .i64 f_5), (Sl.v f_6)]), (.agg #[(.int .i64 d_0), (.int .i64 d_1), (.int .i64 d_2), (Sl.v d_3), (Sl.v d_4), (Sl.v d_5)])] h (fun v h' => ∃ r0_0 : Int, ∃ r0_1 : Sl, ∃ r0_2 : Int, v = (.agg #[(.int .i64 r0_0), (Sl.v r0_1), (.int .i64 r0_2)]) ∧ K r0_0 r0_1 r0_2 h') Kp
def Fn50 (f_0 : ByteArray) (f_1 : Bool) (f_2 f_3 f_4 f_5 : Int) (f_6 : Sl) (d_0 d_1 d_2 : Int) (d_3 d_4 d_5 : Sl) (w : Option Addr) (h : Hp) (K : (Option Addr) → HP) (Kp : PK) : Prop :=
  CallH Tryz.prog I50 [(.agg #[(.string f_0), (.bool f_1), (.int .i64 f_2), (.int .i64 f_3), (.int .i64 f_4), (.int .i64 f_5), (Sl.v f_6)]), (.agg #[(.int .i64 d_0), (.int .i64 d_1), (.int .i64 d_2), (Sl.v d_3), (Sl.v d_4), (Sl.v d_5)]), (.pointer w)] h (fun v h' => ∃ r0 : Option Addr, v = (.pointer r0) ∧ K r0 h') Kp
def Fn51 (f_0 : ByteArray) (f_1 : Bool) (f_2 f_3 f_4 f_5 : Int) (f_6 : Sl) (h : Hp) (K : ByteArray → Bool → Int → Int → Int → Int → Sl → HP) (Kp : PK) : Prop :=
  CallH Tryz.prog I51 [(.agg #[(.string f_0), (.bool f_1), (.int .i64 f_2), (.int .i64 f_3), (.int .i64 f_4), (.int .i64 f_5), (Sl.v f_6)])] h (fun v h' => ∃ r0_0 : ByteArray, ∃ r0_1 : Bool, ∃ r0_2 : Int, ∃ r0_3 : Int, ∃ r0_4 : Int, ∃ r0_5 : Int, ∃ r0_6 : Sl, v = (.agg #[(.string r0_0), (.bool r0_1), (.int .i64 r0_2), (.int .i64 r0_3), (.int .i64 r0_4), (.int .i64 r0_5), (Sl.v r0_6)]) ∧ K r0_0 r0_1 r0_2 r0_3 r0_4 r0_5 r0_6 h') Kp
def Fn52 (d_0 d_1 d_2 : Int) (d_3 d_4 d_5 : Sl) (h : Hp) (K : Int → Int → Int → Sl → Sl → Sl → HP) (Kp : PK) : Prop :=
  CallH Tryz.prog I52 [(.agg #[(.int .i64 d_0), (.int .i64 d_1), (.int .i64 d_2), (Sl.v d_3), (Sl.v d_4), (Sl.v d_5)])] h (fun v h' => ∃ r0_0 : Int, ∃ r0_1 : Int, ∃ r0_2 : Int, ∃ r0_3 : Sl, ∃ r0_4 : Sl, ∃ r0_5 : Sl, v = (.agg #[(.int .i64 r0_0), (.int .i64 r0_1), (.int .i64 r0_2), (Sl.v r0_3), (Sl.v r0_4), (Sl.v r0_5)]) ∧ K r0_0 r0_1 r0_2 r0_3 r0_4 r0_5 h') Kp
def Fn55 (a : Option Addr) (h : Hp) (K : Value → HP) (Kp : PK) : Prop :=
  CallH Tryz.prog I55 [(.pointer a)] h (fun v h' => ∃ r0 : Value, v = r0 ∧ K r0 h') Kp
def Fn56 (d_0 d_1 d_2 : Int) (d_3 d_4 d_5 : Sl) (h : Hp) (K : Int → Int → Int → Sl → Sl → Sl → HP) (Kp : PK) : Prop :=
  CallH Tryz.prog I56 [(.agg #[(.int .i64 d_0), (.int .i64 d_1), (.int .i64 d_2), (Sl.v d_3), (Sl.v d_4), (Sl.v d_5)])] h (fun v h' => ∃ r0_0 : Int, ∃ r0_1 : Int, ∃ r0_2 : Int, ∃ r0_3 : Sl, ∃ r0_4 : Sl, ∃ r0_5 : Sl, v = (.agg #[(.int .i64 r0_0), (.int .i64 r0_1), (.int .i64 r0_2), (Sl.v r0_3), (Sl.v r0_4), (Sl.v r0_5)]) ∧ K r0_0 r0_1 r0_2 r0_3 r0_4 r0_5 h') Kp
def Fn57 (f_0 : ByteArray) (f_1 : Bool) (f_2 f_3 f_4 f_5 : Int) (f_6 : Sl) (d_0 d_1 d_2 : Int) (d_3 d_4 d_5 : Sl) (h : Hp) (K : Int → HP) (Kp : PK) : Prop :=
  CallH Tryz.prog I57 [(.agg #[(.string f_0), (.bool f_1), (.int .i64 f_2), (.int .i64 f_3), (.int .i64 f_4), (.int .i64 f_5), (Sl.v f_6)]), (.agg #[(.int .i64 d_0), (.int .i64 d_1), (.int .i64 d_2), (Sl.v d_3), (Sl.v d_4), (Sl.v d_5)])] h (fun v h' => ∃ r0 : Int, v = (.int .i64 r0) ∧ K r0 h') Kp
def Fn63 (a : Option Addr) (i : Int) (h : Hp) (K : Bool → HP) (Kp : PK) : Prop :=
  CallH Tryz.prog I63 [(.pointer a), (.int .i64 i)] h (fun v h' => ∃ r0 : Bool, v = (.bool r0) ∧ K r0 h') Kp
def Fn64 (a : Option Addr) (i : Int) (h : Hp) (K : Bool → Int → ByteArray → Sl → Int → Int → HP) (Kp : PK) : Prop :=
  CallH Tryz.prog I64 [(.pointer a), (.int .i64 i)] h (fun v h' => ∃ r0_0 : Bool, ∃ r0_1 : Int, ∃ r0_2 : ByteArray, ∃ r0_3 : Sl, ∃ r1 : Int, ∃ r2 : Int, v = (.tuple #[(.agg #[(.bool r0_0), (.int .i64 r0_1), (.string r0_2), (Sl.v r0_3)]), (.int .i64 r1), (.int .i64 r2)]) ∧ K r0_0 r0_1 r0_2 r0_3 r1 r2 h') Kp
def Fn66 (a : Option Addr) (k : Int) (h : Hp) (K : (Option Addr) → HP) (Kp : PK) : Prop :=
  CallH Tryz.prog I66 [(.pointer a), (.int .i64 k)] h (fun v h' => ∃ r0 : Option Addr, v = (.pointer r0) ∧ K r0 h') Kp
def Fn67 (a : Option Addr) (r : Int) (h : Hp) (K : Int → HP) (Kp : PK) : Prop :=
  CallH Tryz.prog I67 [(.pointer a), (.int .i64 r)] h (fun v h' => ∃ r0 : Int, v = (.int .i64 r0) ∧ K r0 h') Kp
def Fn68 (a : Option Addr) (r : Int) (h : Hp) (K : Bool → HP) (Kp : PK) : Prop :=
  CallH Tryz.prog I68 [(.pointer a), (.int .i64 r)] h (fun v h' => ∃ r0 : Bool, v = (.bool r0) ∧ K r0 h') Kp
def Fn69 (a : Option Addr) (i : Int) (h : Hp) (K : (Option Addr) → Int → HP) (Kp : PK) : Prop :=
  CallH Tryz.prog I69 [(.pointer a), (.int .i64 i)] h (fun v h' => ∃ r0 : Option Addr, ∃ r1 : Int, v = (.tuple #[(.pointer r0), (.int .i64 r1)]) ∧ K r0 r1 h') Kp
def Fn70 (a : Option Addr) (k : Int) (h : Hp) (K : (Option Addr) → Int → HP) (Kp : PK) : Prop :=
  CallH Tryz.prog I70 [(.pointer a), (.int .i64 k)] h (fun v h' => ∃ r0 : Option Addr, ∃ r1 : Int, v = (.tuple #[(.pointer r0), (.int .i64 r1)]) ∧ K r0 r1 h') Kp
def Fn98 (f_0 : ByteArray) (f_1 : Bool) (f_2 f_3 f_4 f_5 : Int) (f_6 : Sl) (h : Hp) (K : Int → Sl → Int → HP) (Kp : PK) : Prop :=
  CallH Tryz.prog I98 [(.agg #[(.string f_0), (.bool f_1), (.int .i64 f_2), (.int .i64 f_3), (.int .i64 f_4), (.int .i64 f_5), (Sl.v f_6)])] h (fun v h' => ∃ r0_0 : Int, ∃ r0_1 : Sl, ∃ r0_2 : Int, v = (.agg #[(.int .i64 r0_0), (Sl.v r0_1), (.int .i64 r0_2)]) ∧ K r0_0 r0_1 r0_2 h') Kp
def Fn99 (e atv : Int) (h : Hp) (K : Int → Sl → Int → HP) (Kp : PK) : Prop :=
  CallH Tryz.prog I99 [(.int .i64 e), (.int .i64 atv)] h (fun v h' => ∃ r0_0 : Int, ∃ r0_1 : Sl, ∃ r0_2 : Int, v = (.agg #[(.int .i64 r0_0), (Sl.v r0_1), (.int .i64 r0_2)]) ∧ K r0_0 r0_1 r0_2 h') Kp
def Fn100 (f_0 : ByteArray) (f_1 : Bool) (f_2 f_3 f_4 f_5 : Int) (f_6 : Sl) (d_0 d_1 d_2 : Int) (d_3 d_4 d_5 : Sl) (h : Hp) (K : Int → Sl → Int → Sl → HP) (Kp : PK) : Prop :=
  CallH Tryz.prog I100 [(.agg #[(.string f_0), (.bool f_1), (.int .i64 f_2), (.int .i64 f_3), (.int .i64 f_4), (.int .i64 f_5), (Sl.v f_6)]), (.agg #[(.int .i64 d_0), (.int .i64 d_1), (.int .i64 d_2), (Sl.v d_3), (Sl.v d_4), (Sl.v d_5)])] h (fun v h' => ∃ r0_0 : Int, ∃ r0_1 : Sl, ∃ r0_2 : Int, ∃ r1 : Sl, v = (.tuple #[(.agg #[(.int .i64 r0_0), (Sl.v r0_1), (.int .i64 r0_2)]), (Sl.v r1)]) ∧ K r0_0 r0_1 r0_2 r1 h') Kp
def Fn101 (k : Int) (h : Hp) (K : Value → HP) (Kp : PK) : Prop :=
  CallH Tryz.prog I101 [(.int .i64 k)] h (fun v h' => ∃ r0 : Value, v = r0 ∧ K r0 h') Kp
def Fn200 (s : Sl) (h : Hp) (K : Sl → HP) (Kp : PK) : Prop :=
  CallH Tryz.prog I200 [(Sl.v s)] h (fun v h' => ∃ r0 : Sl, v = (Sl.v r0) ∧ K r0 h') Kp
def Fn201 (s : Sl) (h : Hp) (K : Sl → HP) (Kp : PK) : Prop :=
  CallH Tryz.prog I201 [(Sl.v s)] h (fun v h' => ∃ r0 : Sl, v = (Sl.v r0) ∧ K r0 h') Kp
def Fn102 (l : Sl) (h : Hp) (K : Sl → HP) (Kp : PK) : Prop :=
  CallH Tryz.prog I102 [(Sl.v l)] h (fun v h' => ∃ r0 : Sl, v = (Sl.v r0) ∧ K r0 h') Kp
def Fn103 (yield : Value) (c1 : Addr) (h : Hp) (K : HP) (Kp : PK) : Prop :=
  CallH Tryz.prog I103 [yield, (.pointer (some c1))] h (fun v h' => v = (.tuple #[]) ∧ K  h') Kp
def Fn104 (l : Sl) (h : Hp) (K : Sl → HP) (Kp : PK) : Prop :=
  CallH Tryz.prog I104 [(Sl.v l)] h (fun v h' => ∃ r0 : Sl, v = (Sl.v r0) ∧ K r0 h') Kp
def Fn105 (f_0 : ByteArray) (f_1 : Bool) (f_2 f_3 f_4 f_5 : Int) (f_6 : Sl) (d_0 d_1 d_2 : Int) (d_3 d_4 d_5 : Sl) (r : Int) (h : Hp) (K : Bool → HP) (Kp : PK) : Prop :=
  CallH Tryz.prog I105 [(.agg #[(.string f_0), (.bool f_1), (.int .i64 f_2), (.int .i64 f_3), (.int .i64 f_4), (.int .i64 f_5), (Sl.v f_6)]), (.agg #[(.int .i64 d_0), (.int .i64 d_1), (.int .i64 d_2), (Sl.v d_3), (Sl.v d_4), (Sl.v d_5)]), (.int .i64 r)] h (fun v h' => ∃ r0 : Bool, v = (.bool r0) ∧ K r0 h') Kp
def Fn109 (a : Option Addr) (i : Int) (left : Option Addr) (h : Hp) (K : Bool → Int → ByteArray → Sl → HP) (Kp : PK) : Prop :=
  CallH Tryz.prog I109 [(.pointer a), (.int .i64 i), (.pointer left)] h (fun v h' => ∃ r0_0 : Bool, ∃ r0_1 : Int, ∃ r0_2 : ByteArray, ∃ r0_3 : Sl, v = (.agg #[(.bool r0_0), (.int .i64 r0_1), (.string r0_2), (Sl.v r0_3)]) ∧ K r0_0 r0_1 r0_2 r0_3 h') Kp
def Fn110 (f_0 : ByteArray) (f_1 : Bool) (f_2 f_3 f_4 f_5 : Int) (f_6 : Sl) (k : Int) (h : Hp) (K : ByteArray → Bool → Int → Int → Int → Int → Sl → HP) (Kp : PK) : Prop :=
  CallH Tryz.prog I110 [(.agg #[(.string f_0), (.bool f_1), (.int .i64 f_2), (.int .i64 f_3), (.int .i64 f_4), (.int .i64 f_5), (Sl.v f_6)]), (.int .i64 k)] h (fun v h' => ∃ r0_0 : ByteArray, ∃ r0_1 : Bool, ∃ r0_2 : Int, ∃ r0_3 : Int, ∃ r0_4 : Int, ∃ r0_5 : Int, ∃ r0_6 : Sl, v = (.agg #[(.string r0_0), (.bool r0_1), (.int .i64 r0_2), (.int .i64 r0_3), (.int .i64 r0_4), (.int .i64 r0_5), (Sl.v r0_6)]) ∧ K r0_0 r0_1 r0_2 r0_3 r0_4 r0_5 r0_6 h') Kp
def Fn111 (d_0 d_1 d_2 : Int) (d_3 d_4 d_5 : Sl) (h : Hp) (K : Sl → HP) (Kp : PK) : Prop :=
  CallH Tryz.prog I111 [(.agg #[(.int .i64 d_0), (.int .i64 d_1), (.int .i64 d_2), (Sl.v d_3), (Sl.v d_4), (Sl.v d_5)])] h (fun v h' => ∃ r0 : Sl, v = (Sl.v r0) ∧ K r0 h') Kp
def Fn112 (a : Option Addr) (k : Int) (h : Hp) (K : Sl → Int → (Option Addr) → HP) (Kp : PK) : Prop :=
  CallH Tryz.prog I112 [(.pointer a), (.int .i64 k)] h (fun v h' => ∃ r0_0 : Sl, ∃ r0_1 : Int, ∃ r0_2 : Option Addr, v = (.agg #[(Sl.v r0_0), (.int .i64 r0_1), (.pointer r0_2)]) ∧ K r0_0 r0_1 r0_2 h') Kp
def Fn113 (v_0 : Sl) (v_1 : Int) (v_2 : Option Addr) (atv width : Int) (h : Hp) (K : Int → Int → HP) (Kp : PK) : Prop :=
  CallH Tryz.prog I113 [(.agg #[(Sl.v v_0), (.int .i64 v_1), (.pointer v_2)]), (.int .i64 atv), (.int .i64 width)] h (fun v h' => ∃ r0 : Int, ∃ r1 : Int, v = (.tuple #[(.int .i64 r0), (.int .i64 r1)]) ∧ K r0 r1 h') Kp
def Fn114 (k : Int) (h : Hp) (K : Bool → HP) (Kp : PK) : Prop :=
  CallH Tryz.prog I114 [(.int .i64 k)] h (fun v h' => ∃ r0 : Bool, v = (.bool r0) ∧ K r0 h') Kp
def Fn115 (v_0 : Sl) (v_1 : Int) (v_2 : Option Addr) (atv : Int) (h : Hp) (K : Int → Int → HP) (Kp : PK) : Prop :=
  CallH Tryz.prog I115 [(.agg #[(Sl.v v_0), (.int .i64 v_1), (.pointer v_2)]), (.int .i64 atv)] h (fun v h' => ∃ r0 : Int, ∃ r1 : Int, v = (.tuple #[(.int .u8 r0), (.int .i64 r1)]) ∧ K r0 r1 h') Kp
def Fn116 (a : Option Addr) (r : Int) (h : Hp) (K : Int → Int → HP) (Kp : PK) : Prop :=
  CallH Tryz.prog I116 [(.pointer a), (.int .i64 r)] h (fun v h' => ∃ r0 : Int, ∃ r1 : Int, v = (.tuple #[(.int .i64 r0), (.int .i64 r1)]) ∧ K r0 r1 h') Kp
def Fn129 (s_0 s_1 : Sl) (h : Hp) (K : Int → Sl → Int → HP) (Kp : PK) : Prop :=
  CallH Tryz.prog I129 [(.agg #[(Sl.v s_0), (Sl.v s_1)])] h (fun v h' => ∃ r0_0 : Int, ∃ r0_1 : Sl, ∃ r0_2 : Int, v = (.agg #[(.int .i64 r0_0), (Sl.v r0_1), (.int .i64 r0_2)]) ∧ K r0_0 r0_1 r0_2 h') Kp
def Fn130 (f_0 : ByteArray) (f_1 : Bool) (f_2 f_3 f_4 f_5 : Int) (f_6 : Sl) (d_0 d_1 d_2 : Int) (d_3 d_4 d_5 : Sl) (h : Hp) (K : Int → Sl → Int → HP) (Kp : PK) : Prop :=
  CallH Tryz.prog I130 [(.agg #[(.string f_0), (.bool f_1), (.int .i64 f_2), (.int .i64 f_3), (.int .i64 f_4), (.int .i64 f_5), (Sl.v f_6)]), (.agg #[(.int .i64 d_0), (.int .i64 d_1), (.int .i64 d_2), (Sl.v d_3), (Sl.v d_4), (Sl.v d_5)])] h (fun v h' => ∃ r0_0 : Int, ∃ r0_1 : Sl, ∃ r0_2 : Int, v = (.agg #[(.int .i64 r0_0), (Sl.v r0_1), (.int .i64 r0_2)]) ∧ K r0_0 r0_1 r0_2 h') Kp
def Fn131 (f_0 : ByteArray) (f_1 : Bool) (f_2 f_3 f_4 f_5 : Int) (f_6 : Sl) (d_0 d_1 d_2 : Int) (d_3 d_4 d_5 : Sl) (h : Hp) (K : Int → Sl → Int → HP) (Kp : PK) : Prop :=
  CallH Tryz.prog I131 [(.agg #[(.string f_0), (.bool f_1), (.int .i64 f_2), (.int .i64 f_3), (.int .i64 f_4), (.int .i64 f_5), (Sl.v f_6)]), (.agg #[(.int .i64 d_0), (.int .i64 d_1), (.int .i64 d_2), (Sl.v d_3), (Sl.v d_4), (Sl.v d_5)])] h (fun v h' => ∃ r0_0 : Int, ∃ r0_1 : Sl, ∃ r0_2 : Int, v = (.agg #[(.int .i64 r0_0), (Sl.v r0_1), (.int .i64 r0_2)]) ∧ K r0_0 r0_1 r0_2 h') Kp
def Fn132 (d_0 d_1 d_2 : Int) (d_3 d_4 d_5 : Sl) (h : Hp) (K : Int → Sl → Int → HP) (Kp : PK) : Prop :=
  CallH Tryz.prog I132 [(.agg #[(.int .i64 d_0), (.int .i64 d_1), (.int .i64 d_2), (Sl.v d_3), (Sl.v d_4), (Sl.v d_5)])] h (fun v h' => ∃ r0_0 : Int, ∃ r0_1 : Sl, ∃ r0_2 : Int, v = (.agg #[(.int .i64 r0_0), (Sl.v r0_1), (.int .i64 r0_2)]) ∧ K r0_0 r0_1 r0_2 h') Kp
def Fn133 (f_0 : ByteArray) (f_1 : Bool) (f_2 f_3 f_4 f_5 : Int) (f_6 : Sl) (d_0 d_1 d_2 : Int) (d_3 d_4 d_5 within : Sl) (h : Hp) (K : Sl → HP) (Kp : PK) : Prop :=
  CallH Tryz.prog I133 [(.agg #[(.string f_0), (.bool f_1), (.int .i64 f_2), (.int .i64 f_3), (.int .i64 f_4), (.int .i64 f_5), (Sl.v f_6)]), (.agg #[(.int .i64 d_0), (.int .i64 d_1), (.int .i64 d_2), (Sl.v d_3), (Sl.v d_4), (Sl.v d_5)]), (Sl.v within)] h (fun v h' => ∃ r0 : Sl, v = (Sl.v r0) ∧ K r0 h') Kp
def Fn134 (b : Sl) (i : Int) (h : Hp) (K : Bool → Int → HP) (Kp : PK) : Prop :=
  CallH Tryz.prog I134 [(Sl.v b), (.int .i64 i)] h (fun v h' => ∃ r0 : Bool, ∃ r1 : Int, v = (.tuple #[(.bool r0), (.int .i64 r1)]) ∧ K r0 r1 h') Kp
def Fn135 (a : Option Addr) (r : Int) (left : Option Addr) (h : Hp) (K : Bool → Int → ByteArray → Sl → HP) (Kp : PK) : Prop :=
  CallH Tryz.prog I135 [(.pointer a), (.int .i64 r), (.pointer left)] h (fun v h' => ∃ r0_0 : Bool, ∃ r0_1 : Int, ∃ r0_2 : ByteArray, ∃ r0_3 : Sl, v = (.agg #[(.bool r0_0), (.int .i64 r0_1), (.string r0_2), (Sl.v r0_3)]) ∧ K r0_0 r0_1 r0_2 r0_3 h') Kp
def Fn136 (b : Sl) (h : Hp) (K : Sl → Int → (Option Addr) → HP) (Kp : PK) : Prop :=
  CallH Tryz.prog I136 [(Sl.v b)] h (fun v h' => ∃ r0_0 : Sl, ∃ r0_1 : Int, ∃ r0_2 : Option Addr, v = (.agg #[(Sl.v r0_0), (.int .i64 r0_1), (.pointer r0_2)]) ∧ K r0_0 r0_1 r0_2 h') Kp
def Fn137 (v_0 : Sl) (v_1 : Int) (v_2 w : Option Addr) (h : Hp) (K : Sl → Int → (Option Addr) → HP) (Kp : PK) : Prop :=
  CallH Tryz.prog I137 [(.agg #[(Sl.v v_0), (.int .i64 v_1), (.pointer v_2)]), (.pointer w)] h (fun v h' => ∃ r0_0 : Sl, ∃ r0_1 : Int, ∃ r0_2 : Option Addr, v = (.agg #[(Sl.v r0_0), (.int .i64 r0_1), (.pointer r0_2)]) ∧ K r0_0 r0_1 r0_2 h') Kp
def Fn138 (v_0 : Sl) (v_1 : Int) (v_2 : Option Addr) (atv width : Int) (h : Hp) (K : Int → Int → HP) (Kp : PK) : Prop :=
  CallH Tryz.prog I138 [(.agg #[(Sl.v v_0), (.int .i64 v_1), (.pointer v_2)]), (.int .i64 atv), (.int .i64 width)] h (fun v h' => ∃ r0 : Int, ∃ r1 : Int, v = (.tuple #[(.int .u64 r0), (.int .i64 r1)]) ∧ K r0 r1 h') Kp
def Fn139 (v_0 : Sl) (v_1 : Int) (v_2 : Option Addr) (fromv n : Int) (h : Hp) (K : Bool → HP) (Kp : PK) : Prop :=
  CallH Tryz.prog I139 [(.agg #[(Sl.v v_0), (.int .i64 v_1), (.pointer v_2)]), (.int .i64 fromv), (.int .i64 n)] h (fun v h' => ∃ r0 : Bool, v = (.bool r0) ∧ K r0 h') Kp
def Fn140 (v_0 : Sl) (v_1 : Int) (v_2 : Option Addr) (fromv n : Int) (h : Hp) (K : Sl → HP) (Kp : PK) : Prop :=
  CallH Tryz.prog I140 [(.agg #[(Sl.v v_0), (.int .i64 v_1), (.pointer v_2)]), (.int .i64 fromv), (.int .i64 n)] h (fun v h' => ∃ r0 : Sl, v = (Sl.v r0) ∧ K r0 h') Kp
def Fn141 (a : Option Addr) (r most : Int) (h : Hp) (K : Int → Int → HP) (Kp : PK) : Prop :=
  CallH Tryz.prog I141 [(.pointer a), (.int .i64 r), (.int .i64 most)] h (fun v h' => ∃ r0 : Int, ∃ r1 : Int, v = (.tuple #[(.int .i64 r0), (.int .i64 r1)]) ∧ K r0 r1 h') Kp
def Fn152 (l : Sl) (most : Int) (h : Hp) (K : Value → HP) (Kp : PK) : Prop :=
  CallH Tryz.prog I152 [(Sl.v l), (.int .i64 most)] h (fun v h' => ∃ r0 : Value, v = r0 ∧ K r0 h') Kp
def Fn153 (p_0 p_1 : Sl) (p_2 : ByteArray) (p_3 : Bool) (p_4 p_5 p_6 p_7 : Int) (p_8 : Sl) (p_9 : Bool) (ahead : Int) (ids : Option Nat) (h : Hp) (K : Int → HP) (Kp : PK) : Prop :=
  CallH Tryz.prog I153 [(.agg #[(Sl.v p_0), (Sl.v p_1), (.string p_2), (.bool p_3), (.int .i64 p_4), (.int .i64 p_5), (.int .i64 p_6), (.int .i64 p_7), (Sl.v p_8), (.bool p_9)]), (.int .i64 ahead), (.map ids)] h (fun v h' => ∃ r0 : Int, v = (.int .i64 r0) ∧ K r0 h') Kp
def Fn154 (t_0 t_1 t_2 t_3 : Int) (t_4 : Sl) (h : Hp) (K : Int → Int → Int → HP) (Kp : PK) : Prop :=
  CallH Tryz.prog I154 [(.agg #[(.int .i64 t_0), (.int .i64 t_1), (.int .i64 t_2), (.int .i64 t_3), (Sl.v t_4)])] h (fun v h' => ∃ r0 : Int, ∃ r1 : Int, ∃ r2 : Int, v = (.tuple #[(.int .i64 r0), (.int .i64 r1), (.int .i64 r2)]) ∧ K r0 r1 r2 h') Kp
def Fn155 (t_0 t_1 t_2 t_3 : Int) (t_4 : Sl) (k endv havev : Int) (h : Hp) (K : Int → HP) (Kp : PK) : Prop :=
  CallH Tryz.prog I155 [(.agg #[(.int .i64 t_0), (.int .i64 t_1), (.int .i64 t_2), (.int .i64 t_3), (Sl.v t_4)]), (.int .i64 k), (.int .i64 endv), (.int .i64 havev)] h (fun v h' => ∃ r0 : Int, v = (.int .i64 r0) ∧ K r0 h') Kp
def Fn156 (f_0 : ByteArray) (f_1 : Bool) (f_2 f_3 f_4 f_5 : Int) (f_6 : Sl) (d_0 d_1 d_2 : Int) (d_3 d_4 d_5 : Sl) (h : Hp) (K : Int → Sl → Int → HP) (Kp : PK) : Prop :=
  CallH Tryz.prog I156 [(.agg #[(.string f_0), (.bool f_1), (.int .i64 f_2), (.int .i64 f_3), (.int .i64 f_4), (.int .i64 f_5), (Sl.v f_6)]), (.agg #[(.int .i64 d_0), (.int .i64 d_1), (.int .i64 d_2), (Sl.v d_3), (Sl.v d_4), (Sl.v d_5)])] h (fun v h' => ∃ r0_0 : Int, ∃ r0_1 : Sl, ∃ r0_2 : Int, v = (.agg #[(.int .i64 r0_0), (Sl.v r0_1), (.int .i64 r0_2)]) ∧ K r0_0 r0_1 r0_2 h') Kp
def Fn157 (f_0 : ByteArray) (f_1 : Bool) (f_2 f_3 f_4 f_5 : Int) (f_6 : Sl) (d_0 d_1 d_2 : Int) (d_3 d_4 d_5 : Sl) (h : Hp) (K : Int → Sl → Int → HP) (Kp : PK) : Prop :=
  CallH Tryz.prog I157 [(.agg #[(.string f_0), (.bool f_1), (.int .i64 f_2), (.int .i64 f_3), (.int .i64 f_4), (.int .i64 f_5), (Sl.v f_6)]), (.agg #[(.int .i64 d_0), (.int .i64 d_1), (.int .i64 d_2), (Sl.v d_3), (Sl.v d_4), (Sl.v d_5)])] h (fun v h' => ∃ r0_0 : Int, ∃ r0_1 : Sl, ∃ r0_2 : Int, v = (.agg #[(.int .i64 r0_0), (Sl.v r0_1), (.int .i64 r0_2)]) ∧ K r0_0 r0_1 r0_2 h') Kp
def Fn158 (b : Sl) (i : Int) (h : Hp) (K : Int → HP) (Kp : PK) : Prop :=
  CallH Tryz.prog I158 [(Sl.v b), (.int .i64 i)] h (fun v h' => ∃ r0 : Int, v = (.int .i64 r0) ∧ K r0 h') Kp
def Fn159 (f_0 : ByteArray) (f_1 : Bool) (f_2 f_3 f_4 f_5 : Int) (f_6 : Sl) (d_0 d_1 d_2 : Int) (d_3 d_4 d_5 : Sl) (r : Int) (h : Hp) (K : Int → HP) (Kp : PK) : Prop :=
  CallH Tryz.prog I159 [(.agg #[(.string f_0), (.bool f_1), (.int .i64 f_2), (.int .i64 f_3), (.int .i64 f_4), (.int .i64 f_5), (Sl.v f_6)]), (.agg #[(.int .i64 d_0), (.int .i64 d_1), (.int .i64 d_2), (Sl.v d_3), (Sl.v d_4), (Sl.v d_5)]), (.int .i64 r)] h (fun v h' => ∃ r0 : Int, v = (.int .i64 r0) ∧ K r0 h') Kp
def Fn160 (within : Sl) (fromv to : Int) (h : Hp) (K : Sl → HP) (Kp : PK) : Prop :=
  CallH Tryz.prog I160 [(Sl.v within), (.int .i64 fromv), (.int .i64 to)] h (fun v h' => ∃ r0 : Sl, v = (Sl.v r0) ∧ K r0 h') Kp
def Fn161 (b : Sl) (i : Int) (h : Hp) (K : Bool → HP) (Kp : PK) : Prop :=
  CallH Tryz.prog I161 [(Sl.v b), (.int .i64 i)] h (fun v h' => ∃ r0 : Bool, v = (.bool r0) ∧ K r0 h') Kp
def Fn162 (left : Option Addr) (n : Int) (h : Hp) (K : HP) (Kp : PK) : Prop :=
  CallH Tryz.prog I162 [(.pointer left), (.int .i64 n)] h (fun v h' => v = (.tuple #[]) ∧ K  h') Kp
def Fn163 (width : Int) (h : Hp) (K : Bool → HP) (Kp : PK) : Prop :=
  CallH Tryz.prog I163 [(.int .i64 width)] h (fun v h' => ∃ r0 : Bool, v = (.bool r0) ∧ K r0 h') Kp
def Fn164 (b : Sl) (h : Hp) (K : Int → HP) (Kp : PK) : Prop :=
  CallH Tryz.prog I164 [(Sl.v b)] h (fun v h' => ∃ r0 : Int, v = (.int .u64 r0) ∧ K r0 h') Kp
def Fn170 (yield : Value) (c1 c2 : Addr) (h : Hp) (K : HP) (Kp : PK) : Prop :=
  CallH Tryz.prog I170 [yield, (.pointer (some c1)), (.pointer (some c2))] h (fun v h' => v = (.tuple #[]) ∧ K  h') Kp
def Fn171 (path l : Sl) (inDict : Bool) (c3 c4 c5 : Addr) (h : Hp) (K : Bool → HP) (Kp : PK) : Prop :=
  CallH Tryz.prog I171 [(Sl.v path), (Sl.v l), (.bool inDict), (.pointer (some c3)), (.pointer (some c4)), (.pointer (some c5))] h (fun v h' => ∃ r0 : Bool, v = (.bool r0) ∧ K r0 h') Kp
def Fn203 (s : Sl) (h : Hp) (K : Sl → HP) (Kp : PK) : Prop :=
  CallH Tryz.prog I203 [(Sl.v s)] h (fun v h' => ∃ r0 : Sl, v = (Sl.v r0) ∧ K r0 h') Kp
def Fn172 (s : ByteArray) (h : Hp) (K : Bool → HP) (Kp : PK) : Prop :=
  CallH Tryz.prog I172 [(.string s)] h (fun v h' => ∃ r0 : Bool, v = (.bool r0) ∧ K r0 h') Kp
def Fn204 (s : Sl) (f : Value) (h : Hp) (K : Bool → HP) (Kp : PK) : Prop :=
  CallH Tryz.prog I204 [(Sl.v s), f] h (fun v h' => ∃ r0 : Bool, v = (.bool r0) ∧ K r0 h') Kp
def Fn173 (g_0 : ByteArray) (g_1 : Bool) (g_2 g_3 g_4 g_5 : Int) (g_6 : Sl) (c1 : Addr) (h : Hp) (K : Bool → HP) (Kp : PK) : Prop :=
  CallH Tryz.prog I173 [(.agg #[(.string g_0), (.bool g_1), (.int .i64 g_2), (.int .i64 g_3), (.int .i64 g_4), (.int .i64 g_5), (Sl.v g_6)]), (.pointer (some c1))] h (fun v h' => ∃ r0 : Bool, v = (.bool r0) ∧ K r0 h') Kp
def Fn174 (t_0 t_1 t_2 t_3 : Int) (t_4 : Sl) (h : Hp) (K : Bool → HP) (Kp : PK) : Prop :=
  CallH Tryz.prog I174 [(.agg #[(.int .i64 t_0), (.int .i64 t_1), (.int .i64 t_2), (.int .i64 t_3), (Sl.v t_4)])] h (fun v h' => ∃ r0 : Bool, v = (.bool r0) ∧ K r0 h') Kp
def Fn175 (f_0 : ByteArray) (f_1 : Bool) (f_2 f_3 f_4 f_5 : Int) (f_6 : Sl) (h : Hp) (K : Bool → HP) (Kp : PK) : Prop :=
  CallH Tryz.prog I175 [(.agg #[(.string f_0), (.bool f_1), (.int .i64 f_2), (.int .i64 f_3), (.int .i64 f_4), (.int .i64 f_5), (Sl.v f_6)])] h (fun v h' => ∃ r0 : Bool, v = (.bool r0) ∧ K r0 h') Kp
def Fn176 (t_0 t_1 t_2 t_3 : Int) (t_4 : Sl) (h : Hp) (K : Bool → HP) (Kp : PK) : Prop :=
  CallH Tryz.prog I176 [(.agg #[(.int .i64 t_0), (.int .i64 t_1), (.int .i64 t_2), (.int .i64 t_3), (Sl.v t_4)])] h (fun v h' => ∃ r0 : Bool, v = (.bool r0) ∧ K r0 h') Kp
def Fn177 (t_0 t_1 t_2 t_3 : Int) (t_4 : Sl) (h : Hp) (K : Sl → HP) (Kp : PK) : Prop :=
  CallH Tryz.prog I177 [(.agg #[(.int .i64 t_0), (.int .i64 t_1), (.int .i64 t_2), (.int .i64 t_3), (Sl.v t_4)])] h (fun v h' => ∃ r0 : Sl, v = (Sl.v r0) ∧ K r0 h') Kp
def Fn178 (n : Int) (h : Hp) (K : Int → HP) (Kp : PK) : Prop :=
  CallH Tryz.prog I178 [(.int .i64 n)] h (fun v h' => ∃ r0 : Int, v = (.int .i64 r0) ∧ K r0 h') Kp
def Fn179 (t_0 t_1 t_2 t_3 : Int) (t_4 : Sl) (h : Hp) (K : Int → HP) (Kp : PK) : Prop :=
  CallH Tryz.prog I179 [(.agg #[(.int .i64 t_0), (.int .i64 t_1), (.int .i64 t_2), (.int .i64 t_3), (Sl.v t_4)])] h (fun v h' => ∃ r0 : Int, v = (.int .i64 r0) ∧ K r0 h') Kp
def Fn205 (p : Sl) (h : Hp) (K : Bool → HP) (Kp : PK) : Prop :=
  CallH Tryz.prog I205 [(Sl.v p)] h (fun v h' => ∃ r0 : Bool, v = (.bool r0) ∧ K r0 h') Kp
def Fn180 (k : Int) (h : Hp) (K : Int → HP) (Kp : PK) : Prop :=
  CallH Tryz.prog I180 [(.int .i64 k)] h (fun v h' => ∃ r0 : Int, v = (.int .i64 r0) ∧ K r0 h') Kp
def Fn182 (c : Int) (h : Hp) (K : Bool → HP) (Kp : PK) : Prop :=
  CallH Tryz.prog I182 [(.int .u8 c)] h (fun v h' => ∃ r0 : Bool, v = (.bool r0) ∧ K r0 h') Kp
def Fn206 (s : Sl) (f : Value) (h : Hp) (K : Int → HP) (Kp : PK) : Prop :=
  CallH Tryz.prog I206 [(Sl.v s), f] h (fun v h' => ∃ r0 : Int, v = (.int .i64 r0) ∧ K r0 h') Kp
def Fn183 (kind : Int) (h : Hp) (K : Bool → HP) (Kp : PK) : Prop :=
  CallH Tryz.prog I183 [(.int .i64 kind)] h (fun v h' => ∃ r0 : Bool, v = (.bool r0) ∧ K r0 h') Kp
def Fn184 (t_0 t_1 t_2 t_3 : Int) (t_4 : Sl) (h : Hp) (K : ByteArray → Bool → Int → Int → Int → Int → Sl → HP) (Kp : PK) : Prop :=
  CallH Tryz.prog I184 [(.agg #[(.int .i64 t_0), (.int .i64 t_1), (.int .i64 t_2), (.int .i64 t_3), (Sl.v t_4)])] h (fun v h' => ∃ r0_0 : ByteArray, ∃ r0_1 : Bool, ∃ r0_2 : Int, ∃ r0_3 : Int, ∃ r0_4 : Int, ∃ r0_5 : Int, ∃ r0_6 : Sl, v = (.agg #[(.string r0_0), (.bool r0_1), (.int .i64 r0_2), (.int .i64 r0_3), (.int .i64 r0_4), (.int .i64 r0_5), (Sl.v r0_6)]) ∧ K r0_0 r0_1 r0_2 r0_3 r0_4 r0_5 r0_6 h') Kp
def Fn185 (l : Sl) (h : Hp) (K : Sl → HP) (Kp : PK) : Prop :=
  CallH Tryz.prog I185 [(Sl.v l)] h (fun v h' => ∃ r0 : Sl, v = (Sl.v r0) ∧ K r0 h') Kp
def Fn207 (s : Sl) (h : Hp) (K : Int → HP) (Kp : PK) : Prop :=
  CallH Tryz.prog I207 [(Sl.v s)] h (fun v h' => ∃ r0 : Int, v = (.int .u64 r0) ∧ K r0 h') Kp
def Fn208 (s : Sl) (h : Hp) (K : Sl → HP) (Kp : PK) : Prop :=
  CallH Tryz.prog I208 [(Sl.v s)] h (fun v h' => ∃ r0 : Sl, v = (Sl.v r0) ∧ K r0 h') Kp
def Fn188 (a : Option Addr) (r : Int) (left : Option Addr) (h : Hp) (K : Bool → Int → ByteArray → Sl → HP) (Kp : PK) : Prop :=
  CallH Tryz.prog I188 [(.agg #[]), (.pointer a), (.int .i64 r), (.pointer left)] h (fun v h' => ∃ r0_0 : Bool, ∃ r0_1 : Int, ∃ r0_2 : ByteArray, ∃ r0_3 : Sl, v = (.agg #[(.bool r0_0), (.int .i64 r0_1), (.string r0_2), (Sl.v r0_3)]) ∧ K r0_0 r0_1 r0_2 r0_3 h') Kp
def Fn189 (v_0 : Sl) (v_1 : Int) (v_2 : Option Addr) (atv n : Int) (h : Hp) (K : ByteArray → Int → HP) (Kp : PK) : Prop :=
  CallH Tryz.prog I189 [(.agg #[(Sl.v v_0), (.int .i64 v_1), (.pointer v_2)]), (.int .i64 atv), (.int .i64 n)] h (fun v h' => ∃ r0 : ByteArray, ∃ r1 : Int, v = (.tuple #[(.string r0), (.int .i64 r1)]) ∧ K r0 r1 h') Kp
def Fn224 (s : ByteArray) (h : Hp) (K : Bool → HP) (Kp : PK) : Prop :=
  CallH Tryz.prog I224 [(.string s)] h (fun v h' => ∃ r0 : Bool, v = (.bool r0) ∧ K r0 h') Kp
def Fn225 (s : ByteArray) (h : Hp) (K : Int → HP) (Kp : PK) : Prop :=
  CallH Tryz.prog I225 [(.string s)] h (fun v h' => ∃ r0 : Int, v = (.int .u64 r0) ∧ K r0 h') Kp
def Fn190 (a : Option Addr) (r : Int) (left : Option Addr) (h : Hp) (K : Bool → Int → ByteArray → Sl → HP) (Kp : PK) : Prop :=
  CallH Tryz.prog I190 [(.agg #[]), (.pointer a), (.int .i64 r), (.pointer left)] h (fun v h' => ∃ r0_0 : Bool, ∃ r0_1 : Int, ∃ r0_2 : ByteArray, ∃ r0_3 : Sl, v = (.agg #[(.bool r0_0), (.int .i64 r0_1), (.string r0_2), (Sl.v r0_3)]) ∧ K r0_0 r0_1 r0_2 r0_3 h') Kp
def Fn191 (a : Option Addr) (r : Int) (left : Option Addr) (h : Hp) (K : Bool → Int → ByteArray → Sl → HP) (Kp : PK) : Prop :=
  CallH Tryz.prog I191 [(.agg #[]), (.pointer a), (.int .i64 r), (.pointer left)] h (fun v h' => ∃ r0_0 : Bool, ∃ r0_1 : Int, ∃ r0_2 : ByteArray, ∃ r0_3 : Sl, v = (.agg #[(.bool r0_0), (.int .i64 r0_1), (.string r0_2), (Sl.v r0_3)]) ∧ K r0_0 r0_1 r0_2 r0_3 h') Kp
def Fn192 (a : Option Addr) (r : Int) (left : Option Addr) (h : Hp) (K : Bool → Int → ByteArray → Sl → HP) (Kp : PK) : Prop :=
  CallH Tryz.prog I192 [(.agg #[]), (.pointer a), (.int .i64 r), (.pointer left)] h (fun v h' => ∃ r0_0 : Bool, ∃ r0_1 : Int, ∃ r0_2 : ByteArray, ∃ r0_3 : Sl, v = (.agg #[(.bool r0_0), (.int .i64 r0_1), (.string r0_2), (Sl.v r0_3)]) ∧ K r0_0 r0_1 r0_2 r0_3 h') Kp
def Fn193 (a : Option Addr) (r : Int) (left : Option Addr) (h : Hp) (K : Bool → Int → ByteArray → Sl → HP) (Kp : PK) : Prop :=
  CallH Tryz.prog I193 [(.agg #[]), (.pointer a), (.int .i64 r), (.pointer left)] h (fun v h' => ∃ r0_0 : Bool, ∃ r0_1 : Int, ∃ r0_2 : ByteArray, ∃ r0_3 : Sl, v = (.agg #[(.bool r0_0), (.int .i64 r0_1), (.string r0_2), (Sl.v r0_3)]) ∧ K r0_0 r0_1 r0_2 r0_3 h') Kp
def Fn194 (a : Option Addr) (k r : Int) (h : Hp) (K : Int → HP) (Kp : PK) : Prop :=
  CallH Tryz.prog I194 [(.pointer a), (.int .i64 k), (.int .i64 r)] h (fun v h' => ∃ r0 : Int, v = (.int .i64 r0) ∧ K r0 h') Kp
def Fn195 (a : Option Addr) (r : Int) (left : Option Addr) (h : Hp) (K : Bool → Int → ByteArray → Sl → HP) (Kp : PK) : Prop :=
  CallH Tryz.prog I195 [(.agg #[]), (.pointer a), (.int .i64 r), (.pointer left)] h (fun v h' => ∃ r0_0 : Bool, ∃ r0_1 : Int, ∃ r0_2 : ByteArray, ∃ r0_3 : Sl, v = (.agg #[(.bool r0_0), (.int .i64 r0_1), (.string r0_2), (Sl.v r0_3)]) ∧ K r0_0 r0_1 r0_2 r0_3 h') Kp
def Fn196 (a : Option Addr) (r : Int) (left : Option Addr) (h : Hp) (K : Bool → Int → ByteArray → Sl → HP) (Kp : PK) : Prop :=
  CallH Tryz.prog I196 [(.agg #[]), (.pointer a), (.int .i64 r), (.pointer left)] h (fun v h' => ∃ r0_0 : Bool, ∃ r0_1 : Int, ∃ r0_2 : ByteArray, ∃ r0_3 : Sl, v = (.agg #[(.bool r0_0), (.int .i64 r0_1), (.string r0_2), (Sl.v r0_3)]) ∧ K r0_0 r0_1 r0_2 r0_3 h') Kp
end Go.Proofs.YtcgdhhchjgbhnaaGreatDoor
set_option maxRecDepth 100000
set_option maxHeartbeats 200000
/- What the functions do, printed by program (gen.py) in the words of ShCore; each text is held against the loaded program by the kernel. -/
namespace Go.Proofs.YtcgdhhchjgbhnaaGreatDoor
open Go Go.Sh
section
noncomputable def code4 : Code := Tryz.f4.body.getD .skip
def ann4 : Ann := [(2000005, [3, 4, 7, 8, 9]), (2000008, [3, 7, 8, 9, 11]), (2000011, [3, 7, 8, 11, 12, 13]), (2000013, [3, 7, 8, 11, 12]), (2000014, [3, 7, 8, 11, 12, 14, 15]), (2000016, [3, 7, 8, 11, 12]), (2000026, [3, 12, 16]), (66011, [212]), (2018, [3, 7, 8, 11, 12, 16, 17]), (49006, [3, 7, 8, 11, 12, 13, 75]), (49012, [3, 7, 8, 11, 12, 13, 81]), (50006, [95]), (50006, [95]), (3409999, [3, 4, 7, 8, 9, 10, 38]), (44007, [45])]
def ord4 : OrdT := [(1, (OT.l [0, 1, 2, 3, 4, 5] .fin), [0, 1, 0, 4, 3, 31]), (22, (OT.l [0, 1, 2, 3, 4, 5, 6, 7, 8, 9, 10, 11, 12, 13, 14, 15, 16, 17, 18, 19, 20, 21, 22, 23, 24, 25, 26, 27, 28, 29, 30] .fin), [0, 1, 3, 7, 15, 31, 63, 127, 127, 383, 1023, 2047, 4095, 8191, 8191, 8191, 8191, 106495, 253951, 516095, 1048575, 2097151, 4194303, 8388607, 16777215, 16777215, 16777215, 16777215, 268435455, 536870911, 1073741823]), (14, (OT.l [0, 1, 2, 3, 4, 5, 6, 7, 8, 10, 11, 12, 13, 14, 15, 9, 16, 17, 18, 19, 20, 23, 21, 22, 24, 25] .fin), [0, 1, 3, 7, 15, 31, 63, 127, 255, 511, 255, 255, 255, 255, 12543, 31999, 65535, 131071, 262143, 524287, 1048575, 2097151, 4194303, 1048575, 16777215, 33554431]), (13, (OT.l [0, 1] (.alt (OT.l [2] (.alt (OT.l [3, 4, 5, 6, 7, 8, 9] .fin) (OT.l [7, 3, 4, 5, 6, 8, 9] .fin))) (OT.l [7, 2, 3, 4, 5, 6, 8, 9] .fin))), [0, 0, 2, 7, 15, 31, 31, 0, 191, 511]), (11, (OT.l [0, 1, 2, 3, 4, 5, 6, 7, 9, 10, 11, 12, 13, 14, 8, 15, 16, 17] .fin), [0, 1, 3, 7, 15, 31, 63, 127, 255, 127, 127, 127, 127, 6271, 15999, 32767, 65535, 131071]), (6, (OT.l [0, 1, 2, 3, 4, 5, 6, 8, 9, 7, 10, 11] .fin), [0, 1, 0, 4, 15, 31, 63, 127, 63, 319, 1023, 2047])]
def z4 : List Value := [(.bool false)]
def kv4 (K : Bool → HP) : Value → HP := fun v h => rB v fun r0 => K r0 h
variable (K : Bool → HP) (Kp : PK) 
noncomputable def c4 : Cx := ⟨Tryz.prog, ann4, ord4, none, code4, (retQ Tryz.prog Tryz.f4.results.toList z4 (kv4 K)), Kp⟩
def J4_8 (x212 : Bool) : HP := semR (c4 K Kp) [1, 1, 1, 1, 1, 1, 1, 1, 1, 1, 1, 1, 1, 0] [] 26 [11, 12, 13, 14] (nn 212++[some (.bool x212)]++nn 3)
def J4_7 (x3 : Addr) (x12 : Option Addr) (x16 : Int) : HP := semJ (c4 K Kp) [1, 1, 1, 1, 1, 1, 1, 1, 1, 1, 1, 1, 1] [] ([nO, nO, nO, vP x3, nO, nO, nO, nO, nO, nO, nO, nO, some (.pointer x12), nO, nO, nO, vI x16]++nn 199)
abbrev mk4_9 (x3 : Addr) (x7 x8 : Int) (x11 : Sl) (x12 : Option Addr) (x16 x17 : Int) : Fr := ([nO, nO, nO, vP x3, nO, nO, nO, vI x7, vI x8, nO, nO, vS x11, some (.pointer x12), nO, nO, nO, vI x16, vI x17]++nn 198)
def L4_9 (x3 : Addr) (x7 x8 : Int) (x11 : Sl) (x12 : Option Addr) (x16 x17 : Int) : HP := semL (c4 K Kp) 2018 [1, 1, 1, 1, 1, 1, 1, 1, 1, 1, 1, 1, 0, 1, 0] [] (mk4_9 x3 x7 x8 x11 x12 x16 x17)
def J4_6 (x3 : Addr) (x7 x8 : Int) (x11 : Sl) (x12 : Option Addr) : HP := semJ (c4 K Kp) [1, 1, 1, 1, 1, 1, 1, 1, 1, 1, 1] [] ([nO, nO, nO, vP x3, nO, nO, nO, vI x7, vI x8, nO, nO, vS x11, some (.pointer x12)]++nn 203)
def J4_5 (x3 : Addr) (x7 x8 : Int) (x11 : Sl) (x12 x14 : Option Addr) (x15 : Addr) : HP := semJ (c4 K Kp) [1, 1, 1, 1, 1, 1, 1, 1, 1, 1] [] ([nO, nO, nO, vP x3, nO, nO, nO, vI x7, vI x8, nO, nO, vS x11, some (.pointer x12), nO, some (.pointer x14), vP x15]++nn 200)
def J4_4 (x3 : Addr) (x7 x8 : Int) (x11 : Sl) (x12 : Option Addr) : HP := semJ (c4 K Kp) [1, 1, 1, 1, 1, 1, 1, 1, 1] [] ([nO, nO, nO, vP x3, nO, nO, nO, vI x7, vI x8, nO, nO, vS x11, some (.pointer x12)]++nn 203)
def J4_3 (x3 : Addr) (x7 x8 : Int) (x11 : Sl) (x12 : Option Addr) (x13 : Int) : HP := semJ (c4 K Kp) [1, 1, 1, 1, 1, 1, 1, 1] [] ([nO, nO, nO, vP x3, nO, nO, nO, vI x7, vI x8, nO, nO, vS x11, some (.pointer x12), vI x13]++nn 202)
def J4_12 (x95 : Bool) : HP := semR (c4 K Kp) [1, 1, 1, 1, 1, 1, 1, 0, 1, 0, 0] [] 10 [6, 7, 8, 9] (nn 95++[some (.bool x95)]++nn 120)
def J4_13 (x95 : Bool) : HP := semR (c4 K Kp) [1, 1, 1, 1, 1, 1, 1, 0, 1, 0, 0] [] 10 [6, 7, 8, 9] (nn 95++[some (.bool x95)]++nn 120)
def J4_11 (x3 : Addr) (x7 x8 : Int) (x11 : Sl) (x12 : Option Addr) (x13 : Int) (x81 : Bool) : HP := semR (c4 K Kp) [1, 1, 1, 1, 1, 1, 1, 0, 0] [] 9 [12, 13, 14, 15, 16, 17, 18, 19] ([nO, nO, nO, vP x3, nO, nO, nO, vI x7, vI x8, nO, nO, vS x11, some (.pointer x12), vI x13, nO, nO, nO, nO, nO, nO, nO, nO, nO, nO, nO, nO, nO, nO, nO, nO, nO, nO, nO, nO, nO, nO, nO, nO, nO, nO, nO, nO, nO, nO, nO, nO, nO, nO, nO, nO, nO, nO, nO, nO, nO, nO, nO, nO, nO, nO, nO, nO, nO, nO, nO, nO, nO, nO, nO, nO, nO, nO, nO, nO, nO, nO, nO, nO, nO, nO, nO, some (.bool x81)]++nn 134)
def J4_10 (x3 : Addr) (x7 x8 : Int) (x11 : Sl) (x12 : Option Addr) (x13 : Int) (x75 : Bool) : HP := semR (c4 K Kp) [1, 1, 1, 1, 1, 1, 1, 0, 0] [] 9 [6, 7, 8, 9, 10, 11, 12, 13, 14, 15, 16, 17, 18, 19] ([nO, nO, nO, vP x3, nO, nO, nO, vI x7, vI x8, nO, nO, vS x11, some (.pointer x12), vI x13, nO, nO, nO, nO, nO, nO, nO, nO, nO, nO, nO, nO, nO, nO, nO, nO, nO, nO, nO, nO, nO, nO, nO, nO, nO, nO, nO, nO, nO, nO, nO, nO, nO, nO, nO, nO, nO, nO, nO, nO, nO, nO, nO, nO, nO, nO, nO, nO, nO, nO, nO, nO, nO, nO, nO, nO, nO, nO, nO, nO, nO, some (.bool x75)]++nn 140)
def J4_2 (x3 : Addr) (x7 x8 : Int) (x9 : Option Addr) (x11 : Sl) : HP := semJ (c4 K Kp) [1, 1, 1, 1, 1, 1] [] ([nO, nO, nO, vP x3, nO, nO, nO, vI x7, vI x8, some (.pointer x9), nO, vS x11]++nn 204)
def J4_1 (x3 x4 : Addr) (x7 x8 : Int) (x9 : Option Addr) : HP := semJ (c4 K Kp) [1, 1, 1, 1] [] ([nO, nO, nO, vP x3, vP x4, nO, nO, vI x7, vI x8, some (.pointer x9)]++nn 206)
def J4_15 (x45 : Bool) : HP := semR (c4 K Kp) [1, 1, 1, 0, 1, 0, 0] [] 4 [7, 8, 9, 10] (nn 45++[some (.bool x45)]++nn 170)
def J4_14 (x3 x4 : Addr) (x7 x8 : Int) (x9 : Option Addr) (x10 : Addr) (x38 : Bool) : HP := semJ (c4 K Kp) [1, 1, 1, 0, 1] [] ([nO, nO, nO, vP x3, vP x4, nO, nO, vI x7, vI x8, some (.pointer x9), vP x10, nO, nO, nO, nO, nO, nO, nO, nO, nO, nO, nO, nO, nO, nO, nO, nO, nO, nO, nO, nO, nO, nO, nO, nO, nO, nO, nO, some (.bool x38)]++nn 177)
variable {K Kp} {x45 x38 x95 x81 x75 x212 : Bool} {x3 x4 x10 x15 : Addr} {x7 x8 x13 x16 : Int} {x9 x12 x14 : Option Addr} {x11 : Sl} {h : Hp}
theorem J4_8.of (H :
  If x212 (
    Fn7  h (fun t214 h1 =>
      K t214 h1) Kp) (
    K false h)) :
  J4_8 K Kp x212 h := jof H (by kernel_rfl)
theorem J4_7.of (H :
  Ld h (x3.add 2) mI fun t204 =>
  If (t204 == 20) (
    J4_8 K Kp true h) (
    Fn19 x12 h (fun t208_0 t208_1 t208_2 t208_3 t208_4 t208_5 h1 =>
      J4_8 K Kp (t208_2 == x16) h1) Kp)) :
  J4_7 K Kp x3 x12 x16 h := jof H (by kernel_rfl)
theorem L4_9.rule : LR2 (L4_9 K Kp x3 x7 x8 x11 x12) (mk4_9 x3 x7 x8 x11 x12) fun N1 (x16 : Int) (x17 : Int) h =>
  (If (decide (x17 < x8)) (
    Fn31 x12 x17 h (fun t158_0_0 t158_0_1 t158_0_2 t158_0_3 t158_1 h1 =>
      New h1 zY66 Y66 fun a18 h2 =>
      SY66 h2 a18 t158_0_0 t158_0_1 t158_0_2 t158_0_3 fun h3 =>
      Fn32 x12 x17 h3 (fun t164_0 t164_1 h4 =>
        If (t158_1 != 0) (
          K false h4) (
          If (t164_1 != 0) (
            K false h4) (
            Ld h4 a18 .bool fun t176 =>
            If (!(t164_0 == t176)) (
              K false h4) (
              LY66 h4 a18 fun t180_0 t180_1 t180_2 t180_3 =>
              Wr .i64 (x7 + x17) fun t184 =>
              Ix x11.a x11.n 4 t184 fun a185 =>
              LY66 h4 a185 fun t186_0 t186_1 t186_2 t186_3 =>
              Fn33 t180_0 t180_1 t180_2 t180_3 t186_0 t186_1 t186_2 t186_3 h4 (fun t187 h5 =>
                If (!t187) (
                  K false h5) (
                  LY29 h5 x3 fun t192_0 t192_1 t192_2 t192_3 t192_4 t192_5 t192_6 =>
                  LY66 h5 a18 fun t194_0 t194_1 t194_2 t194_3 =>
                  Fn34 x12 t192_0 t192_1 t192_2 t192_3 t192_4 t192_5 t192_6 x17 t194_0 t194_1 t194_2 t194_3 h5 (fun t195 h6 =>
                    If (!t195) (
                      K false h6) (
                      Ld h6 a18 .bool fun t199 =>
                      If t199 (
                        Wr .i64 (x16 + 1) fun t201 =>
                        Wr .i64 (x17 + 1) fun t154 =>
                        N1 (mk4_9 x3 x7 x8 x11 x12 t201 t154) h6) (
                        Wr .i64 (x17 + 1) fun t154 =>
                        N1 (mk4_9 x3 x7 x8 x11 x12 x16 t154) h6))) Kp)) Kp)))) Kp) Kp) (
    J4_7 K Kp x3 x12 x16 h)) :=
  loop2 (fun _ _ _ => rfl) fun _ _ _ _ => by kernel_rfl
theorem J4_6.of (H :
  L4_9 K Kp x3 x7 x8 x11 x12 0 0 h) :
  J4_6 K Kp x3 x7 x8 x11 x12 h := jof H (by kernel_rfl)
theorem J4_5.of (H :
  Ld h x15 mI fun t125 =>
  If (t125 != 0) (
    K false h) (
    If (Option.isNone x14) (
      K false h) (
      Wr .i64 (x7 + x8) fun t138 =>
      Slc x11 4 (some x7) (some t138) none fun t139 =>
      Fn18 x14 h (fun t133 h1 =>
        Fn21 t133 t139 h1 (fun t140 h2 =>
          If (!t140) (
            K false h2) (
            Fn19 x12 h2 (fun t145_0 t145_1 t145_2 t145_3 t145_4 t145_5 h3 =>
              If (t145_0 != x8) (
                K false h3) (
                J4_6 K Kp x3 x7 x8 x11 x12 h3)) Kp)) Kp) Kp))) :
  J4_5 K Kp x3 x7 x8 x11 x12 x14 x15 h := jof H (by kernel_rfl)
theorem J4_4.of (H :
  LY29 h x3 fun t118_0 t118_1 t118_2 t118_3 t118_4 t118_5 t118_6 =>
  (
    Fn19 x12 h (fun t120_0 t120_1 t120_2 t120_3 t120_4 t120_5 h1 =>
      Keep h h1 x3 7 <|
      (
        Fn12 t118_0 t118_1 t118_2 t118_3 t118_4 t118_5 t118_6 t120_0 t120_1 t120_2 t120_3 t120_4 t120_5 h1 (fun t121_0 t121_1_0 t121_1_1 t121_1_2 h2 =>
          New h2 zY37 Y37 fun a15 h3 =>
          Keep h2 h3 x3 7 <|
          SY37 h3 a15 t121_1_0 t121_1_1 t121_1_2 fun h4 =>
          J4_5 K Kp x3 x7 x8 x11 x12 t121_0 a15 h4) Kp) ∧ (
        New h1 zY37 Y37 fun a15 h2 =>
        Keep h1 h2 x3 7 <|
        Fn12 t118_0 t118_1 t118_2 t118_3 t118_4 t118_5 t118_6 t120_0 t120_1 t120_2 t120_3 t120_4 t120_5 h2 (fun t121_0 t121_1_0 t121_1_1 t121_1_2 h3 =>
          SY37 h3 a15 t121_1_0 t121_1_1 t121_1_2 fun h4 =>
          J4_5 K Kp x3 x7 x8 x11 x12 t121_0 a15 h4) Kp)) Kp) ∧ (
    New h zY37 Y37 fun a15 h1 =>
    Keep h h1 x3 7 <|
    Fn19 x12 h1 (fun t120_0 t120_1 t120_2 t120_3 t120_4 t120_5 h2 =>
      Keep h1 h2 x3 7 <|
      Fn12 t118_0 t118_1 t118_2 t118_3 t118_4 t118_5 t118_6 t120_0 t120_1 t120_2 t120_3 t120_4 t120_5 h2 (fun t121_0 t121_1_0 t121_1_1 t121_1_2 h3 =>
        SY37 h3 a15 t121_1_0 t121_1_1 t121_1_2 fun h4 =>
        J4_5 K Kp x3 x7 x8 x11 x12 t121_0 a15 h4) Kp) Kp)) :
  J4_4 K Kp x3 x7 x8 x11 x12 h := jof H (by kernel_rfl)
theorem J4_3.of (H :
  If (x13 != 0) (
    K false h) (
    If (Option.isNone x12) (
      K false h) (
      Wr .i64 (x7 + x8) fun t112 =>
      Slc x11 4 (some x7) (some t112) none fun t113 =>
      Fn18 x12 h (fun t107 h1 =>
        Fn21 t107 t113 h1 (fun t114 h2 =>
          If (!t114) (
            K false h2) (
            J4_4 K Kp x3 x7 x8 x11 x12 h2)) Kp) Kp))) :
  J4_3 K Kp x3 x7 x8 x11 x12 x13 h := jof H (by kernel_rfl)
theorem J4_12.of (H :
  If x95 (
    Fn7  h (fun t97 h1 =>
      K t97 h1) Kp) (
    K false h)) :
  J4_12 K Kp x95 h := jof H (by kernel_rfl)
theorem J4_13.of (H :
  If x95 (
    Fn7  h (fun t97 h1 =>
      K t97 h1) Kp) (
    K false h)) :
  J4_13 K Kp x95 h := jof H (by kernel_rfl)
theorem J4_11.of (H :
  If x81 (
    If (x13 == 2) (
      J4_12 K Kp (Option.isNone x12) h) (
      J4_12 K Kp false h)) (
    Wr .i64 ((x11.n : Int) - x7) fun t87 =>
    If (decide (x8 > t87)) (
      If (x13 == 2) (
        J4_13 K Kp (Option.isNone x12) h) (
        J4_13 K Kp false h)) (
      J4_3 K Kp x3 x7 x8 x11 x12 x13 h))) :
  J4_11 K Kp x3 x7 x8 x11 x12 x13 x81 h := jof H (by kernel_rfl)
theorem J4_10.of (H :
  If x75 (
    J4_11 K Kp x3 x7 x8 x11 x12 x13 true h) (
    J4_11 K Kp x3 x7 x8 x11 x12 x13 (decide (x7 > (x11.n : Int))) h)) :
  J4_10 K Kp x3 x7 x8 x11 x12 x13 x75 h := jof H (by kernel_rfl)
theorem J4_2.of (H :
  Fn30 x9 x7 x8 h (fun t67_0 t67_1 h1 =>
    If (decide (x7 < 0)) (
      J4_10 K Kp x3 x7 x8 x11 t67_0 t67_1 true h1) (
      J4_10 K Kp x3 x7 x8 x11 t67_0 t67_1 (decide (x8 < 0)) h1)) Kp) :
  J4_2 K Kp x3 x7 x8 x9 x11 h := jof H (by kernel_rfl)
theorem J4_1.of (H :
  Fn18 x9 h (fun t50 h1 =>
    Fn29 x9 h1 (fun t54 h2 =>
      If ((t50.n : Int) != t54) (
        K false h2) (
        Ld h2 x4 mI fun t60 =>
        Fn29 x9 h2 (fun t58 h3 =>
          Keep h2 h3 x4 1 <|
          If (t58 != t60) (
            K false h3) (
            J4_2 K Kp x3 x7 x8 x9 t50 h3)) Kp)) Kp) Kp) :
  J4_1 K Kp x3 x4 x7 x8 x9 h := jof H (by kernel_rfl)
theorem J4_15.of (H :
  If x45 (
    Fn7  h (fun t47 h1 =>
      K t47 h1) Kp) (
    K false h)) :
  J4_15 K Kp x45 h := jof H (by kernel_rfl)
theorem J4_14.of (H :
  If x38 (
    If (Option.isNone x9) (
      Ld h x10 mI fun t43 =>
      J4_15 K Kp (t43 != 0) h) (
      J4_15 K Kp false h)) (
    J4_1 K Kp x3 x4 x7 x8 x9 h)) :
  J4_14 K Kp x3 x4 x7 x8 x9 x10 x38 h := jof H (by kernel_rfl)
theorem Fn4.of {f_0 : ByteArray} {f_1 : Bool} {f_2 f_3 f_4 f_5 : Int} {f_6 : Sl} {d_0 d_1 d_2 : Int} {d_3 d_4 d_5 : Sl} {p_0 p_1 : Int} (H :
  NY29 h f_0 f_1 f_2 f_3 f_4 f_5 f_6 fun a3 h1 =>
  NY33 h1 d_0 d_1 d_2 d_3 d_4 d_5 fun a4 h2 =>
  New h2 #[(.int .i64 p_0), (.int .i64 p_1)] Y61 fun a5 h3 =>
  Ld h3 a5 mI fun t23 =>
  Ld h3 (a5.add 1) mI fun t25 =>
  LY29 h3 a3 fun t27_0 t27_1 t27_2 t27_3 t27_4 t27_5 t27_6 =>
  LY33 h3 a4 fun t28_0 t28_1 t28_2 t28_3 t28_4 t28_5 =>
  Fn12 t27_0 t27_1 t27_2 t27_3 t27_4 t27_5 t27_6 t28_0 t28_1 t28_2 t28_3 t28_4 t28_5 h3 (fun t29_0 t29_1_0 t29_1_1 t29_1_2 h4 =>
    New h4 zY37 Y37 fun a10 h5 =>
    SY37 h5 a10 t29_1_0 t29_1_1 t29_1_2 fun h6 =>
    Ld h6 a10 mI fun t33 =>
    If (t33 != 0) (
      J4_14 K Kp a3 a4 t23 t25 t29_0 a10 true h6) (
      J4_14 K Kp a3 a4 t23 t25 t29_0 a10 (Option.isNone t29_0) h6)) Kp) :
  Fn4 f_0 f_1 f_2 f_3 f_4 f_5 f_6 d_0 d_1 d_2 d_3 d_4 d_5 p_0 p_1 h K Kp := fnof (ann := ann4) (o := ord4) (zs := z4) (Kv := kv4 K) Tryz.func4 (by kernel_rfl) H (by kernel_rfl) (by kernel_rfl)
end
end Go.Proofs.YtcgdhhchjgbhnaaGreatDoor
set_option maxRecDepth 100000
set_option maxHeartbeats 200000
/- What the functions do, printed by program (gen.py) in the words of ShCore; each text is held against the loaded program by the kernel. -/
namespace Go.Proofs.YtcgdhhchjgbhnaaGreatDoor
open Go Go.Sh
section
noncomputable def code5 : Code := Tryz.f5.body.getD .skip
def ann5 : Ann := [(2000009, [2, 3, 8, 9, 10]), (2011, [2, 3, 8, 9, 12, 13]), (2000021, [2, 3, 8, 9, 12, 13, 14, 15, 16, 17, 87, 88]), (2000025, [2, 3, 8, 9, 12, 13, 14, 15, 18, 20, 87, 88, 108, 109]), (5609999, [2, 3, 8, 9, 12, 13, 14, 15, 18, 20, 87, 88, 108, 109, 131]), (2000027, [2, 3, 8, 9, 12, 13, 14, 15, 18, 20, 23, 87, 88, 108, 109]), (65008, [2, 3, 8, 9, 12, 13, 14, 15, 18, 20, 87, 88, 108, 109, 118]), (65013, [2, 3, 8, 9, 12, 13, 14, 15, 18, 20, 87, 88, 108, 109, 123])]
def ord5 : OrdT := []
def z5 : List Value := [(.bool false)]
def kv5 (K : Bool → HP) : Value → HP := fun v h => rB v fun r0 => K r0 h
variable (K : Bool → HP) (Kp : PK) (N1 : Fr → HP) 
noncomputable def c5 : Cx := ⟨Tryz.prog, ann5, ord5, none, code5, (retQ Tryz.prog Tryz.f5.results.toList z5 (kv5 K)), Kp⟩
variable {K Kp N1} {x2 x12 : Sl} {x3 x8 x14 x15 x18 : Addr} {x9 x13 x20 : Int} {x87 x16 x17 x10 : Option Addr} {x88 x108 x109 x123 x118 x23 x131 : Bool} {h : Hp}
end
section
noncomputable def code6 : Code := Tryz.f6.body.getD .skip
def ann6 : Ann := []
def ord6 : OrdT := []
def z6 : List Value := [(.agg #[(.int .i64 0), (.slice none 0 0), (.int .i64 0)])]
def kv6 (K : Int → Sl → Int → HP) : Value → HP := fun v h => rG v fun cs0 => rI (cs0.getD 0 undef) fun r0_0 => rS (cs0.getD 1 undef) fun r0_1 => rI (cs0.getD 2 undef) fun r0_2 => K r0_0 r0_1 r0_2 h
variable (K : Int → Sl → Int → HP) (Kp : PK) 
noncomputable def c6 : Cx := ⟨Tryz.prog, ann6, ord6, none, code6, (retQ Tryz.prog Tryz.f6.results.toList z6 (kv6 K)), Kp⟩
variable {K Kp} {h : Hp}
end
section
noncomputable def code7 : Code := Tryz.f7.body.getD .skip
def ann7 : Ann := [(2000006, [3]), (48007, [7, 8, 44]), (48010, [8, 47])]
def ord7 : OrdT := []
def z7 : List Value := [(.bool false)]
def kv7 (K : Bool → HP) : Value → HP := fun v h => rB v fun r0 => K r0 h
variable (K : Bool → HP) (Kp : PK) 
noncomputable def c7 : Cx := ⟨Tryz.prog, ann7, ord7, none, code7, (retQ Tryz.prog Tryz.f7.results.toList z7 (kv7 K)), Kp⟩
def J7_3 (x8 : Int) (x47 : Bool) : HP := semR (c7 K Kp) [1, 1, 1, 1, 1, 1, 1, 0] [] 8 [10, 11, 12, 13, 14] (nn 8++[vI x8, nO, nO, nO, nO, nO, nO, nO, nO, nO, nO, nO, nO, nO, nO, nO, nO, nO, nO, nO, nO, nO, nO, nO, nO, nO, nO, nO, nO, nO, nO, nO, nO, nO, nO, nO, nO, nO, nO, some (.bool x47)]++nn 4)
def J7_2 (x7 : Bool) (x8 : Int) (x44 : Bool) : HP := semR (c7 K Kp) [1, 1, 1, 1, 1, 1, 1, 0] [] 8 [7, 8, 9, 10, 11, 12, 13, 14] (nn 7++[some (.bool x7), vI x8, nO, nO, nO, nO, nO, nO, nO, nO, nO, nO, nO, nO, nO, nO, nO, nO, nO, nO, nO, nO, nO, nO, nO, nO, nO, nO, nO, nO, nO, nO, nO, nO, nO, nO, nO, some (.bool x44)]++nn 7)
def J7_1 (x3 : Option Addr) : HP := semJ (c7 K Kp) [1, 1, 1, 1, 1] [] ([nO, nO, nO, some (.pointer x3)]++nn 48)
variable {K Kp} {x8 : Int} {x47 x7 x44 : Bool} {x3 : Option Addr} {h : Hp}
theorem J7_3.of (H :
  If x47 (
    K (x8 == 0) h) (
    K false h)) :
  J7_3 K Kp x8 x47 h := jof H (by kernel_rfl)
theorem J7_2.of (H :
  If x44 (
    J7_3 K Kp x8 x7 h) (
    J7_3 K Kp x8 false h)) :
  J7_2 K Kp x7 x8 x44 h := jof H (by kernel_rfl)
theorem J7_1.of (H :
  Fn31 x3 1 h (fun t30_0_0 t30_0_1 t30_0_2 t30_0_3 t30_1 h1 =>
    New h1 zY66 Y66 fun a5 h2 =>
    SY66 h2 a5 t30_0_0 t30_0_1 t30_0_2 t30_0_3 fun h3 =>
    Fn32 x3 0 h3 (fun t35_0 t35_1 h4 =>
      If (t30_1 == 0) (
        Ld h4 (a5.add 1) mI fun t42 =>
        J7_2 K Kp t35_0 t35_1 (t42 == 3) h4) (
        J7_2 K Kp t35_0 t35_1 false h4)) Kp) Kp) :
  J7_1 K Kp x3 h := jof H (by kernel_rfl)
theorem Fn7.of (H :
  New h zY29 Y29 fun a1 h1 =>
  SY29 h1 a1 (bs [97]) true 4 0 0 0 (⟨none, 0, 0⟩ : Sl) fun h2 =>
  New h2 #[(.int .u8 5)] Y8 fun a11 h3 =>
  New h3 #[(.int .u8 1), (.int .u8 0), (.int .u8 255), (.int .u8 255), (.int .u8 3), (.int .u8 0)] Y8 fun a12 h4 =>
  New h4 #[(.slice (some a11) 1 1), (.slice (some a12) 6 6)] Y96 fun a13 h5 =>
  New h5 zY33 Y33 fun a2 h6 =>
  SY33 h6 a2 2 1 1 (⟨some a13, 2, 2⟩ : Sl) (⟨none, 0, 0⟩ : Sl) (⟨none, 0, 0⟩ : Sl) fun h7 =>
  LY29 h7 a1 fun t16_0 t16_1 t16_2 t16_3 t16_4 t16_5 t16_6 =>
  LY33 h7 a2 fun t17_0 t17_1 t17_2 t17_3 t17_4 t17_5 =>
  Fn12 t16_0 t16_1 t16_2 t16_3 t16_4 t16_5 t16_6 t17_0 t17_1 t17_2 t17_3 t17_4 t17_5 h7 (fun t18_0 t18_1_0 t18_1_1 t18_1_2 h8 =>
    New h8 zY37 Y37 fun a4 h9 =>
    SY37 h9 a4 t18_1_0 t18_1_1 t18_1_2 fun h10 =>
    If (Option.isNone t18_0) (
      K false h10) (
      Ld h10 a4 mI fun t25 =>
      If (t25 != 0) (
        K false h10) (
        J7_1 K Kp t18_0 h10))) Kp) :
  Fn7  h K Kp := fnof (ann := ann7) (o := ord7) (zs := z7) (Kv := kv7 K) Tryz.func7 (by kernel_rfl) H (by kernel_rfl) (by kernel_rfl)
end
end Go.Proofs.YtcgdhhchjgbhnaaGreatDoor
set_option maxRecDepth 100000
set_option maxHeartbeats 200000
/- What the functions do, printed by program (gen.py) in the words of ShCore; each text is held against the loaded program by the kernel. -/
namespace Go.Proofs.YtcgdhhchjgbhnaaGreatDoor
open Go Go.Sh
section
noncomputable def code12 : Code := Tryz.f12.body.getD .skip
def ann12 : Ann := [(2000004, [2, 3, 5])]
def ord12 : OrdT := [(4, (OT.l [0, 2, 5, 1, 3, 4, 6, 7] .fin), [0, 1, 0, 7, 15, 0, 31, 127]), (3, (OT.l [0, 1, 2] .fin), [0, 0, 3])]
def z12 : List Value := [(.pointer none), (.agg #[(.int .i64 0), (.slice none 0 0), (.int .i64 0)])]
def kv12 (K : (Option Addr) → Int → Sl → Int → HP) : Value → HP := fun v h => rU v fun vs => rP (vs.getD 0 undef) fun r0 => rG (vs.getD 1 undef) fun cs1 => rI (cs1.getD 0 undef) fun r1_0 => rS (cs1.getD 1 undef) fun r1_1 => rI (cs1.getD 2 undef) fun r1_2 => K r0 r1_0 r1_1 r1_2 h
variable (K : (Option Addr) → Int → Sl → Int → HP) (Kp : PK) 
noncomputable def c12 : Cx := ⟨Tryz.prog, ann12, ord12, none, code12, (retQ Tryz.prog Tryz.f12.results.toList z12 (kv12 K)), Kp⟩
def J12_1 (x2 x3 x5 : Addr) : HP := semJ (c12 K Kp) [1, 1] [] ([nO, nO, vP x2, vP x3, nO, vP x5]++nn 14)
variable {K Kp} {x2 x3 x5 : Addr} {h : Hp}
theorem J12_1.of (H :
  LY29 h x2 fun t14_0 t14_1 t14_2 t14_3 t14_4 t14_5 t14_6 =>
  LY33 h x3 fun t16_0 t16_1 t16_2 t16_3 t16_4 t16_5 =>
  Fn51 t14_0 t14_1 t14_2 t14_3 t14_4 t14_5 t14_6 h (fun t15_0 t15_1 t15_2 t15_3 t15_4 t15_5 t15_6 h1 =>
    Keep h h1 x3 6 <|
    Fn52 t16_0 t16_1 t16_2 t16_3 t16_4 t16_5 h1 (fun t17_0 t17_1 t17_2 t17_3 t17_4 t17_5 h2 =>
      Fn50 t15_0 t15_1 t15_2 t15_3 t15_4 t15_5 t15_6 t17_0 t17_1 t17_2 t17_3 t17_4 t17_5 none h2 (fun t18 h3 =>
        SY37 h3 x5 0 (⟨none, 0, 0⟩ : Sl) 0 fun h4 =>
        LY37 h4 x5 fun r1_0 r1_1 r1_2 =>
        K t18 r1_0 r1_1 r1_2 h4) Kp) Kp) Kp) :
  J12_1 K Kp x2 x3 x5 h := jof H (by kernel_rfl)
theorem Fn12.of {f_0 : ByteArray} {f_1 : Bool} {f_2 f_3 f_4 f_5 : Int} {f_6 : Sl} {d_0 d_1 d_2 : Int} {d_3 d_4 d_5 : Sl} (H :
  NY29 h f_0 f_1 f_2 f_3 f_4 f_5 f_6 fun a2 h1 =>
  NY33 h1 d_0 d_1 d_2 d_3 d_4 d_5 fun a3 h2 =>
  New h2 zY37 Y37 fun a5 h3 =>
  LY29 h3 a2 fun t7_0 t7_1 t7_2 t7_3 t7_4 t7_5 t7_6 =>
  LY33 h3 a3 fun t8_0 t8_1 t8_2 t8_3 t8_4 t8_5 =>
  Fn49 t7_0 t7_1 t7_2 t7_3 t7_4 t7_5 t7_6 t8_0 t8_1 t8_2 t8_3 t8_4 t8_5 h3 (fun t9_0 t9_1 t9_2 h4 =>
    New h4 zY37 Y37 fun a6 h5 =>
    SY37 h5 a6 t9_0 t9_1 t9_2 fun h6 =>
    Ld h6 a6 mI fun t11 =>
    If (t11 != 0) (
      LY37 h6 a6 fun t13_0 t13_1 t13_2 =>
      SY37 h6 a5 t13_0 t13_1 t13_2 fun h7 =>
      LY37 h7 a5 fun r1_0 r1_1 r1_2 =>
      K none r1_0 r1_1 r1_2 h7) (
      J12_1 K Kp a2 a3 a5 h6)) Kp) :
  Fn12 f_0 f_1 f_2 f_3 f_4 f_5 f_6 d_0 d_1 d_2 d_3 d_4 d_5 h K Kp := fnof (ann := ann12) (o := ord12) (zs := z12) (Kv := kv12 K) Tryz.func12 (by kernel_rfl) H (by kernel_rfl) (by kernel_rfl)
end
end Go.Proofs.YtcgdhhchjgbhnaaGreatDoor
set_option maxRecDepth 100000
set_option maxHeartbeats 200000
/- What the functions do, printed by program (gen.py) in the words of ShCore; each text is held against the loaded program by the kernel. -/
namespace Go.Proofs.YtcgdhhchjgbhnaaGreatDoor
open Go Go.Sh
section
noncomputable def code15 : Code := Tryz.f15.body.getD .skip
def ann15 : Ann := [(2000005, [1]), (2000010, [1]), (2011, [1, 4]), (2006, [1, 3]), (2002, [1, 2])]
def ord15 : OrdT := []
def z15 : List Value := []
def kv15 (K : HP) : Value → HP := fun _ h => K h
variable (K : HP) (Kp : PK) 
noncomputable def c15 : Cx := ⟨Tryz.prog, ann15, ord15, none, code15, (retQ Tryz.prog Tryz.f15.results.toList z15 (kv15 K)), Kp⟩
variable {K Kp} {x1 : Addr} {h : Hp}
end
section
noncomputable def code16 : Code := Tryz.f16.body.getD .skip
def ann16 : Ann := [(2001, [0, 1, 6, 7])]
def ord16 : OrdT := [(4, (OT.l [0, 1, 2, 3, 4, 5, 6, 7, 8, 9, 10, 11, 12, 13, 14, 15, 16, 17, 18, 19] .fin), [0, 0, 0, 0, 0, 24, 56, 120, 248, 0, 0, 0, 3072, 7168, 15360, 31744, 65024, 131068, 262143, 524287])]
def z16 : List Value := []
def kv16 (K : HP) : Value → HP := fun _ h => K h
variable (K : HP) (Kp : PK) 
noncomputable def c16 : Cx := ⟨Tryz.prog, ann16, ord16, none, code16, (retQ Tryz.prog Tryz.f16.results.toList z16 (kv16 K)), Kp⟩
variable {K Kp} {x0 : Sl} {x1 : ByteArray} {x6 : Int} {h : Hp}
end
section
noncomputable def code17 : Code := Tryz.f17.body.getD .skip
def ann17 : Ann := []
def ord17 : OrdT := []
def z17 : List Value := [(.agg #[(.string (bs [])), (.bool false), (.int .i64 0), (.int .i64 0), (.int .i64 0), (.int .i64 0), (.slice none 0 0), (.int .i64 0), (.int .i64 0), (.int .i64 0), (.slice none 0 0), (.slice none 0 0), (.slice none 0 0), (.int .i64 0), (.int .i64 0)])]
def kv17 (K : ByteArray → Bool → Int → Int → Int → Int → Sl → Int → Int → Int → Sl → Sl → Sl → Int → Int → HP) : Value → HP := fun v h => rG v fun cs0 => rT (cs0.getD 0 undef) fun r0_0 => rB (cs0.getD 1 undef) fun r0_1 => rI (cs0.getD 2 undef) fun r0_2 => rI (cs0.getD 3 undef) fun r0_3 => rI (cs0.getD 4 undef) fun r0_4 => rI (cs0.getD 5 undef) fun r0_5 => rS (cs0.getD 6 undef) fun r0_6 => rI (cs0.getD 7 undef) fun r0_7 => rI (cs0.getD 8 undef) fun r0_8 => rI (cs0.getD 9 undef) fun r0_9 => rS (cs0.getD 10 undef) fun r0_10 => rS (cs0.getD 11 undef) fun r0_11 => rS (cs0.getD 12 undef) fun r0_12 => rI (cs0.getD 13 undef) fun r0_13 => rI (cs0.getD 14 undef) fun r0_14 => K r0_0 r0_1 r0_2 r0_3 r0_4 r0_5 r0_6 r0_7 r0_8 r0_9 r0_10 r0_11 r0_12 r0_13 r0_14 h
variable (K : ByteArray → Bool → Int → Int → Int → Int → Sl → Int → Int → Int → Sl → Sl → Sl → Int → Int → HP) (Kp : PK) 
noncomputable def c17 : Cx := ⟨Tryz.prog, ann17, ord17, none, code17, (retQ Tryz.prog Tryz.f17.results.toList z17 (kv17 K)), Kp⟩
variable {K Kp} {h : Hp}
end
section
noncomputable def code18 : Code := Tryz.f18.body.getD .skip
def ann18 : Ann := [(4003, [2, 3, 7])]
def ord18 : OrdT := [(4, (OT.l [0, 1, 2, 3, 4, 5] (.alt (OT.l [6, 7] .fin) (OT.l [7, 6] .fin))), [0, 0, 1, 0, 15, 31, 63, 31])]
def z18 : List Value := [(.slice none 0 0)]
def kv18 (K : Sl → HP) : Value → HP := fun v h => rS v fun r0 => K r0 h
variable (K : Sl → HP) (Kp : PK) (lb : Nat) (NB : HP) (XB : Code → HP) 
noncomputable def c18 : Cx := ⟨Tryz.prog, ann18, ord18, none, code18, (retQ Tryz.prog Tryz.f18.results.toList z18 (kv18 K)), Kp⟩
def R18_1 (x2 : Sl) (x3 : Addr) (x7 : Value) : HP := semJ0 (c18 K Kp) [1, 1, 0, 1, 0] [] ([nO, nO, vS x2, vP x3, nO, nO, nO, some x7]++nn 9)
variable {K Kp lb NB XB} {x2 : Sl} {x3 : Addr} {x7 : Value} {h : Hp}
def RT18_1 (lb : Nat) (NB : HP) (XB : Code → HP) (x2 : Sl) (x3 : Addr) (x7 : Value) (y8 : Int) (y9_0 : Bool) (y9_1 : Int) (y9_2 : ByteArray) (y9_3 : Sl) (h : Hp) : Prop :=
  New h zY66 Y66 fun a5 h1 =>
  SY66 h1 a5 y9_0 y9_1 y9_2 y9_3 fun h2 =>
  Busy lb h h2 fun h3 =>
  Ld h3 x3 Sl.v fun t10 =>
  LY66 h3 a5 fun t11_0 t11_1 t11_2 t11_3 =>
  New h3 #[(.bool false), (.int .i64 0), (.string (bs [])), (.slice none 0 0)] Y66 fun a13 h4 =>
  Keep h3 h4 a5 4 <|
  Keep h3 h4 x3 1 <|
  Ap h4 Y66 zY66 4 56 t10 1 (rd h4 (some a13) (1 * 4)) fun t14 h5 =>
  Ix t14.a t14.n 4 (t10.n : Int) fun a15 =>
  (
    SY66 h5 a15 t11_0 t11_1 t11_2 t11_3 fun h6 =>
    St h6 x3 (Sl.v t14) fun h7 =>
    NB h7) ∧ (
    St h5 x3 (Sl.v t14) fun h6 =>
    SY66 h6 a15 t11_0 t11_1 t11_2 t11_3 fun h7 =>
    NB h7)
def RD18_1 (K : Sl → HP) (Kp : PK) (x2 : Sl) (x3 : Addr) (x7 : Value) (h : Hp) : Prop :=
  Ld h x3 Sl.v fun t16 =>
  K t16 h
theorem Fn18.of {a : Option Addr} (H :
  New h #[(.slice none 0 0)] Y52 fun a3 h1 =>
  Fn55 a h1 (fun t7 h2 =>
    R18_1 K Kp (⟨none, 0, 0⟩ : Sl) a3 t7 h2) Kp) :
  Fn18 a h K Kp := fnof (ann := ann18) (o := ord18) (zs := z18) (Kv := kv18 K) Tryz.func18 (by kernel_rfl) H (by kernel_rfl) (by kernel_rfl)
end
section
noncomputable def code19 : Code := Tryz.f19.body.getD .skip
def ann19 : Ann := [(2000003, [0, 2, 3])]
def ord19 : OrdT := [(3, (OT.l [0, 1, 2, 3, 4, 5, 6, 7] .fin), [0, 1, 3, 7, 0, 31, 63, 127]), (2, (OT.l [0, 1, 2, 3, 4, 5, 6, 7, 8, 9, 10, 11] .fin), [0, 1, 3, 7, 0, 16, 48, 112, 15, 271, 1023, 2047])]
def z19 : List Value := [(.agg #[(.int .i64 0), (.int .i64 0), (.int .i64 0), (.slice none 0 0), (.slice none 0 0), (.slice none 0 0)])]
def kv19 (K : Int → Int → Int → Sl → Sl → Sl → HP) : Value → HP := fun v h => rG v fun cs0 => rI (cs0.getD 0 undef) fun r0_0 => rI (cs0.getD 1 undef) fun r0_1 => rI (cs0.getD 2 undef) fun r0_2 => rS (cs0.getD 3 undef) fun r0_3 => rS (cs0.getD 4 undef) fun r0_4 => rS (cs0.getD 5 undef) fun r0_5 => K r0_0 r0_1 r0_2 r0_3 r0_4 r0_5 h
variable (K : Int → Int → Int → Sl → Sl → Sl → HP) (Kp : PK) 
noncomputable def c19 : Cx := ⟨Tryz.prog, ann19, ord19, none, code19, (retQ Tryz.prog Tryz.f19.results.toList z19 (kv19 K)), Kp⟩
def J19_1 (x0 : Option Addr) (x2 x3 : Addr) : HP := semJ (c19 K Kp) [1, 1, 1] [] ([some (.pointer x0), nO, vP x2, vP x3]++nn 23)
variable {K Kp} {x0 : Option Addr} {x2 x3 : Addr} {h : Hp}
theorem J19_1.of (H :
  NN x0 fun p20 =>
  LY29 h p20 fun t22_0 t22_1 t22_2 t22_3 t22_4 t22_5 t22_6 =>
  LY33 h x3 fun t23_0 t23_1 t23_2 t23_3 t23_4 t23_5 =>
  Fn57 t22_0 t22_1 t22_2 t22_3 t22_4 t22_5 t22_6 t23_0 t23_1 t23_2 t23_3 t23_4 t23_5 h (fun t24 h1 =>
    St h1 (x3.add 2) (.int .i64 t24) fun h2 =>
    LY33 h2 x3 fun t26_0 t26_1 t26_2 t26_3 t26_4 t26_5 =>
    SY33 h2 x2 t26_0 t26_1 t26_2 t26_3 t26_4 t26_5 fun h3 =>
    LY33 h3 x2 fun r0_0 r0_1 r0_2 r0_3 r0_4 r0_5 =>
    K r0_0 r0_1 r0_2 r0_3 r0_4 r0_5 h3) Kp) :
  J19_1 K Kp x0 x2 x3 h := jof H (by kernel_rfl)
theorem Fn19.of {a : Option Addr} (H :
  New h zY33 Y33 fun a2 h1 =>
  NN a fun p5 =>
  LY33 h1 (p5.add 7) fun t7_0 t7_1 t7_2 t7_3 t7_4 t7_5 =>
  Fn56 t7_0 t7_1 t7_2 t7_3 t7_4 t7_5 h1 (fun t8_0 t8_1 t8_2 t8_3 t8_4 t8_5 h2 =>
    New h2 zY33 Y33 fun a3 h3 =>
    SY33 h3 a3 t8_0 t8_1 t8_2 t8_3 t8_4 t8_5 fun h4 =>
    NN a fun p10 =>
    Ld h4 (p10.add 14) mI fun t12 =>
    NN a fun p14 =>
    Ld h4 (p14.add 13) mI fun t16 =>
    St h4 a3 (.int .i64 t12) fun h5 =>
    Keep h4 h5 (p14.add 13) 1 <|
    St h5 (a3.add 1) (.int .i64 t16) fun h6 =>
    J19_1 K Kp a a2 a3 h6) Kp) :
  Fn19 a h K Kp := fnof (ann := ann19) (o := ord19) (zs := z19) (Kv := kv19 K) Tryz.func19 (by kernel_rfl) H (by kernel_rfl) (by kernel_rfl)
end
section
noncomputable def code20 : Code := Tryz.f20.body.getD .skip
def ann20 : Ann := []
def ord20 : OrdT := []
def z20 : List Value := [(.agg #[(.string (bs [])), (.bool false), (.int .i64 0), (.int .i64 0), (.int .i64 0), (.int .i64 0), (.slice none 0 0)])]
def kv20 (K : ByteArray → Bool → Int → Int → Int → Int → Sl → HP) : Value → HP := fun v h => rG v fun cs0 => rT (cs0.getD 0 undef) fun r0_0 => rB (cs0.getD 1 undef) fun r0_1 => rI (cs0.getD 2 undef) fun r0_2 => rI (cs0.getD 3 undef) fun r0_3 => rI (cs0.getD 4 undef) fun r0_4 => rI (cs0.getD 5 undef) fun r0_5 => rS (cs0.getD 6 undef) fun r0_6 => K r0_0 r0_1 r0_2 r0_3 r0_4 r0_5 r0_6 h
variable (K : ByteArray → Bool → Int → Int → Int → Int → Sl → HP) (Kp : PK) 
noncomputable def c20 : Cx := ⟨Tryz.prog, ann20, ord20, none, code20, (retQ Tryz.prog Tryz.f20.results.toList z20 (kv20 K)), Kp⟩
variable {K Kp} {h : Hp}
end
section
noncomputable def code21 : Code := Tryz.f21.body.getD .skip
def ann21 : Ann := [(2004, [0, 1, 5])]
def ord21 : OrdT := [(6, (OT.l [0, 1, 2, 3, 4, 5, 6, 7, 8, 9] .fin), [0, 0, 3, 7, 0, 0, 48, 112, 255, 511])]
def z21 : List Value := [(.bool false)]
def kv21 (K : Bool → HP) : Value → HP := fun v h => rB v fun r0 => K r0 h
variable (K : Bool → HP) (Kp : PK) 
noncomputable def c21 : Cx := ⟨Tryz.prog, ann21, ord21, none, code21, (retQ Tryz.prog Tryz.f21.results.toList z21 (kv21 K)), Kp⟩
abbrev mk21_1 (x0 x1 : Sl) (x5 : Int) : Fr := ([vS x0, vS x1, nO, nO, nO, vI x5]++nn 21)
def L21_1 (x0 x1 : Sl) (x5 : Int) : HP := semL (c21 K Kp) 2004 [1, 1, 0, 1, 0] [] (mk21_1 x0 x1 x5)
variable {K Kp} {x0 x1 : Sl} {h : Hp}
theorem L21_1.rule : LR1 (L21_1 K Kp x0 x1) (mk21_1 x0 x1) fun N1 (x5 : Int) h =>
  (If (decide (x5 < (x0.n : Int))) (
    Ix x0.a x0.n 4 x5 fun a19 =>
    LY66 h a19 fun t20_0 t20_1 t20_2 t20_3 =>
    Ix x1.a x1.n 4 x5 fun a23 =>
    LY66 h a23 fun t24_0 t24_1 t24_2 t24_3 =>
    Fn33 t20_0 t20_1 t20_2 t20_3 t24_0 t24_1 t24_2 t24_3 h (fun t25 h1 =>
      If (!t25) (
        K false h1) (
        Wr .i64 (x5 + 1) fun t16 =>
        N1 (mk21_1 x0 x1 t16) h1)) Kp) (
    K true h)) :=
  loop1 (fun _ _ => rfl) fun _ _ _ => by kernel_rfl
theorem Fn21.of {a b : Sl} (H :
  If ((a.n : Int) != (b.n : Int)) (
    K false h) (
    L21_1 K Kp a b 0 h)) :
  Fn21 a b h K Kp := fnof (ann := ann21) (o := ord21) (zs := z21) (Kv := kv21 K) Tryz.func21 (by kernel_rfl) H (by kernel_rfl) (by kernel_rfl)
end
section
noncomputable def code23 : Code := Tryz.f23.body.getD .skip
def ann23 : Ann := []
def ord23 : OrdT := []
def z23 : List Value := [(.agg #[(.int .i64 0), (.int .i64 0), (.int .i64 0), (.slice none 0 0), (.slice none 0 0), (.slice none 0 0)])]
def kv23 (K : Int → Int → Int → Sl → Sl → Sl → HP) : Value → HP := fun v h => rG v fun cs0 => rI (cs0.getD 0 undef) fun r0_0 => rI (cs0.getD 1 undef) fun r0_1 => rI (cs0.getD 2 undef) fun r0_2 => rS (cs0.getD 3 undef) fun r0_3 => rS (cs0.getD 4 undef) fun r0_4 => rS (cs0.getD 5 undef) fun r0_5 => K r0_0 r0_1 r0_2 r0_3 r0_4 r0_5 h
variable (K : Int → Int → Int → Sl → Sl → Sl → HP) (Kp : PK) 
noncomputable def c23 : Cx := ⟨Tryz.prog, ann23, ord23, none, code23, (retQ Tryz.prog Tryz.f23.results.toList z23 (kv23 K)), Kp⟩
variable {K Kp} {h : Hp}
end
end Go.Proofs.YtcgdhhchjgbhnaaGreatDoor
set_option maxRecDepth 100000
set_option maxHeartbeats 200000
/- What the functions do, printed by program (gen.py) in the words of ShCore; each text is held against the loaded program by the kernel. -/
namespace Go.Proofs.YtcgdhhchjgbhnaaGreatDoor
open Go Go.Sh
section
def ann29 : Ann := []
def ord29 : OrdT := []
def z29 : List Value := [(.int .i64 0)]
def kv29 (K : Int → HP) : Value → HP := fun v h => rI v fun r0 => K r0 h
variable (K : Int → HP) (Kp : PK) 
variable {K Kp} {h : Hp}
theorem Fn29.of {a : Option Addr} (H :
  NN a fun p4 =>
  Ld h (p4.add 14) mI fun t6 =>
  K t6 h) :
  Fn29 a h K Kp := fnof (ann := ann29) (o := ord29) (zs := z29) (Kv := kv29 K) Tryz.func29 (by kernel_rfl) H (by kernel_rfl) (by kernel_rfl)
end
section
noncomputable def code30 : Code := Tryz.f30.body.getD .skip
def ann30 : Ann := [(2000003, [0, 1, 2]), (41006, [0, 1, 2, 14]), (41014, [0, 1, 2, 22])]
def ord30 : OrdT := []
def z30 : List Value := [(.pointer none), (.int .i64 0)]
def kv30 (K : (Option Addr) → Int → HP) : Value → HP := fun v h => rU v fun vs => rP (vs.getD 0 undef) fun r0 => rI (vs.getD 1 undef) fun r1 => K r0 r1 h
variable (K : (Option Addr) → Int → HP) (Kp : PK) 
noncomputable def c30 : Cx := ⟨Tryz.prog, ann30, ord30, none, code30, (retQ Tryz.prog Tryz.f30.results.toList z30 (kv30 K)), Kp⟩
def J30_1 (x0 : Option Addr) (x1 x2 : Int) : HP := semJ (c30 K Kp) [1, 1] [] ([some (.pointer x0), vI x1, vI x2]++nn 42)
def J30_3 (x0 : Option Addr) (x1 x2 : Int) (x22 : Bool) : HP := semR (c30 K Kp) [1, 0, 0] [] 1 [14, 15, 16, 17, 18, 19, 20, 21, 22, 23] ([some (.pointer x0), vI x1, vI x2, nO, nO, nO, nO, nO, nO, nO, nO, nO, nO, nO, nO, nO, nO, nO, nO, nO, nO, nO, some (.bool x22)]++nn 22)
def J30_2 (x0 : Option Addr) (x1 x2 : Int) (x14 : Bool) : HP := semR (c30 K Kp) [1, 0, 0] [] 1 [6, 7, 8, 9, 10, 11, 12, 13, 14, 15, 16, 17, 18, 19, 20, 21, 22, 23] ([some (.pointer x0), vI x1, vI x2, nO, nO, nO, nO, nO, nO, nO, nO, nO, nO, nO, some (.bool x14)]++nn 30)
variable {K Kp} {x0 : Option Addr} {x1 x2 : Int} {x22 x14 : Bool} {h : Hp}
theorem J30_1.of (H :
  NN x0 fun p34 =>
  LY109 h p34 fun t35_0 t35_1 t35_2 t35_3 t35_4 t35_5 t35_6 t35_7 t35_8 t35_9 t35_10 t35_11 t35_12 t35_13 t35_14 t35_15 t35_16 =>
  New h zY109 Y109 fun a8 h1 =>
  SY109 h1 a8 t35_0 t35_1 t35_2 t35_3 t35_4 t35_5 t35_6 t35_7 t35_8 t35_9 t35_10 t35_11 t35_12 t35_13 t35_14 t35_15 t35_16 fun h2 =>
  NN x0 fun p37 =>
  Ld h2 (p37.add 13) mI fun t39 =>
  Wr .i64 (t39 + x1) fun t41 =>
  St h2 (a8.add 13) (.int .i64 t41) fun h3 =>
  St h3 (a8.add 14) (.int .i64 x2) fun h4 =>
  K (some a8) 0 h4) :
  J30_1 K Kp x0 x1 x2 h := jof H (by kernel_rfl)
theorem J30_3.of (H :
  If x22 (
    K none 2 h) (
    NN x0 fun p26 =>
    Ld h (p26.add 14) mI fun t28 =>
    Wr .i64 (t28 - x2) fun t30 =>
    If (decide (x1 > t30)) (
      K none 2 h) (
      J30_1 K Kp x0 x1 x2 h))) :
  J30_3 K Kp x0 x1 x2 x22 h := jof H (by kernel_rfl)
theorem J30_2.of (H :
  If x14 (
    J30_3 K Kp x0 x1 x2 true h) (
    NN x0 fun p18 =>
    Ld h (p18.add 14) mI fun t20 =>
    J30_3 K Kp x0 x1 x2 (decide (x2 > t20)) h)) :
  J30_2 K Kp x0 x1 x2 x14 h := jof H (by kernel_rfl)
theorem Fn30.of {a : Option Addr} {fromv n : Int} (H :
  If (decide (fromv < 0)) (
    J30_2 K Kp a fromv n true h) (
    J30_2 K Kp a fromv n (decide (n < 0)) h)) :
  Fn30 a fromv n h K Kp := fnof (ann := ann30) (o := ord30) (zs := z30) (Kv := kv30 K) Tryz.func30 (by kernel_rfl) H (by kernel_rfl) (by kernel_rfl)
end
section
def ann31 : Ann := []
def ord31 : OrdT := []
def z31 : List Value := [(.agg #[(.bool false), (.int .i64 0), (.string (bs [])), (.slice none 0 0)]), (.int .i64 0)]
def kv31 (K : Bool → Int → ByteArray → Sl → Int → HP) : Value → HP := fun v h => rU v fun vs => rG (vs.getD 0 undef) fun cs0 => rB (cs0.getD 0 undef) fun r0_0 => rI (cs0.getD 1 undef) fun r0_1 => rT (cs0.getD 2 undef) fun r0_2 => rS (cs0.getD 3 undef) fun r0_3 => rI (vs.getD 1 undef) fun r1 => K r0_0 r0_1 r0_2 r0_3 r1 h
variable (K : Bool → Int → ByteArray → Sl → Int → HP) (Kp : PK) 
variable {K Kp} {h : Hp}
theorem Fn31.of {a : Option Addr} {i : Int} (H :
  New h zY66 Y66 fun a4 h1 =>
  Fn63 a i h1 (fun t11 h2 =>
    If (!t11) (
      SY66 h2 a4 false 0 (bs []) (⟨none, 0, 0⟩ : Sl) fun h3 =>
      LY66 h3 a4 fun r0_0 r0_1 r0_2 r0_3 =>
      K r0_0 r0_1 r0_2 r0_3 2 h3) (
      Fn64 a i h2 (fun t17_0_0 t17_0_1 t17_0_2 t17_0_3 t17_1 t17_2 h3 =>
        New h3 zY66 Y66 fun a6 h4 =>
        SY66 h4 a6 t17_0_0 t17_0_1 t17_0_2 t17_0_3 fun h5 =>
        If (t17_2 != 0) (
          SY66 h5 a4 false 0 (bs []) (⟨none, 0, 0⟩ : Sl) fun h6 =>
          LY66 h6 a4 fun r0_0 r0_1 r0_2 r0_3 =>
          K r0_0 r0_1 r0_2 r0_3 t17_2 h6) (
          LY66 h5 a6 fun t25_0 t25_1 t25_2 t25_3 =>
          SY66 h5 a4 t25_0 t25_1 t25_2 t25_3 fun h6 =>
          LY66 h6 a4 fun r0_0 r0_1 r0_2 r0_3 =>
          K r0_0 r0_1 r0_2 r0_3 0 h6)) Kp)) Kp) :
  Fn31 a i h K Kp := fnof (ann := ann31) (o := ord31) (zs := z31) (Kv := kv31 K) Tryz.func31 (by kernel_rfl) H (by kernel_rfl) (by kernel_rfl)
end
section
noncomputable def code33 : Code := Tryz.f33.body.getD .skip
def ann33 : Ann := [(2000003, [2, 3]), (2004, [2, 3, 5]), (41012, [2, 3, 18]), (41019, [2, 3, 25])]
def ord33 : OrdT := [(6, (OT.l [0, 1, 2, 3, 4, 5, 6, 7, 8, 9, 10, 11] .fin), [0, 1, 0, 7, 15, 0, 32, 0, 224, 480, 1023, 2047])]
def z33 : List Value := [(.bool false)]
def kv33 (K : Bool → HP) : Value → HP := fun v h => rB v fun r0 => K r0 h
variable (K : Bool → HP) (Kp : PK) 
noncomputable def c33 : Cx := ⟨Tryz.prog, ann33, ord33, none, code33, (retQ Tryz.prog Tryz.f33.results.toList z33 (kv33 K)), Kp⟩
abbrev mk33_2 (x2 x3 : Addr) (x5 : Int) : Fr := ([nO, nO, vP x2, vP x3, nO, vI x5]++nn 49)
def L33_2 (x2 x3 : Addr) (x5 : Int) : HP := semL (c33 K Kp) 2004 [1, 1, 0, 1, 0] [] (mk33_2 x2 x3 x5)
def J33_1 (x2 x3 : Addr) : HP := semJ (c33 K Kp) [1, 1] [] ([nO, nO, vP x2, vP x3]++nn 51)
def J33_4 (x2 x3 : Addr) (x25 : Bool) : HP := semR (c33 K Kp) [1, 0, 0] [] 1 [19, 20, 21, 22, 23, 24, 25, 26, 27] ([nO, nO, vP x2, vP x3, nO, nO, nO, nO, nO, nO, nO, nO, nO, nO, nO, nO, nO, nO, nO, nO, nO, nO, nO, nO, nO, some (.bool x25)]++nn 29)
def J33_3 (x2 x3 : Addr) (x18 : Bool) : HP := semR (c33 K Kp) [1, 0, 0] [] 1 [12, 13, 14, 15, 16, 17, 18, 19, 20, 21, 22, 23, 24, 25, 26, 27] ([nO, nO, vP x2, vP x3, nO, nO, nO, nO, nO, nO, nO, nO, nO, nO, nO, nO, nO, nO, some (.bool x18)]++nn 36)
variable {K Kp} {x2 x3 : Addr} {x25 x18 : Bool} {h : Hp}
theorem L33_2.rule : LR1 (L33_2 K Kp x2 x3) (mk33_2 x2 x3) fun N1 (x5 : Int) h =>
  (Ld h (x2.add 3) Sl.v fun t37 =>
  If (decide (x5 < (t37.n : Int))) (
    Ld h (x2.add 3) Sl.v fun t43 =>
    Ix t43.a t43.n 4 x5 fun a45 =>
    LY66 h a45 fun t46_0 t46_1 t46_2 t46_3 =>
    Ld h (x3.add 3) Sl.v fun t48 =>
    Ix t48.a t48.n 4 x5 fun a50 =>
    LY66 h a50 fun t51_0 t51_1 t51_2 t51_3 =>
    Fn33 t46_0 t46_1 t46_2 t46_3 t51_0 t51_1 t51_2 t51_3 h (fun t52 h1 =>
      If (!t52) (
        K false h1) (
        Wr .i64 (x5 + 1) fun t41 =>
        N1 (mk33_2 x2 x3 t41) h1)) Kp) (
    K true h)) :=
  loop1 (fun _ _ => rfl) fun _ _ _ => by kernel_rfl
theorem J33_1.of (H :
  L33_2 K Kp x2 x3 0 h) :
  J33_1 K Kp x2 x3 h := jof H (by kernel_rfl)
theorem J33_4.of (H :
  If x25 (
    K false h) (
    Ld h (x2.add 3) Sl.v fun t28 =>
    Ld h (x3.add 3) Sl.v fun t31 =>
    If ((t28.n : Int) != (t31.n : Int)) (
      K false h) (
      J33_1 K Kp x2 x3 h))) :
  J33_4 K Kp x2 x3 x25 h := jof H (by kernel_rfl)
theorem J33_3.of (H :
  If x18 (
    J33_4 K Kp x2 x3 true h) (
    Ld h (x2.add 2) .string fun t21 =>
    Ld h (x3.add 2) .string fun t23 =>
    J33_4 K Kp x2 x3 (!(t21.toList == t23.toList)) h)) :
  J33_3 K Kp x2 x3 x18 h := jof H (by kernel_rfl)
theorem Fn33.of {a_0 : Bool} {a_1 : Int} {a_2 : ByteArray} {a_3 : Sl} {b_0 : Bool} {b_1 : Int} {b_2 : ByteArray} {b_3 : Sl} (H :
  NY66 h a_0 a_1 a_2 a_3 fun a2 h1 =>
  NY66 h1 b_0 b_1 b_2 b_3 fun a3 h2 =>
  Ld h2 a2 .bool fun t8 =>
  Ld h2 a3 .bool fun t10 =>
  If (!(t8 == t10)) (
    J33_3 K Kp a2 a3 true h2) (
    Ld h2 (a2.add 1) mI fun t14 =>
    Ld h2 (a3.add 1) mI fun t16 =>
    J33_3 K Kp a2 a3 (t14 != t16) h2)) :
  Fn33 a_0 a_1 a_2 a_3 b_0 b_1 b_2 b_3 h K Kp := fnof (ann := ann33) (o := ord33) (zs := z33) (Kv := kv33 K) Tryz.func33 (by kernel_rfl) H (by kernel_rfl) (by kernel_rfl)
end
end Go.Proofs.YtcgdhhchjgbhnaaGreatDoor
set_option maxRecDepth 100000
set_option maxHeartbeats 200000
/- What the functions do, printed by program (gen.py) in the words of ShCore; each text is held against the loaded program by the kernel. -/
namespace Go.Proofs.YtcgdhhchjgbhnaaGreatDoor
open Go Go.Sh
section
noncomputable def code34 : Code := Tryz.f34.body.getD .skip
def ann34 : Ann := [(2000007, [0, 2, 7, 9]), (2000009, [0, 2, 7]), (2010, [0, 2, 7, 12]), (2000015, [0, 2, 7, 12, 13, 79, 80, 81, 82, 83]), (53006, [0, 2, 7, 12, 13, 77]), (3309999, [0, 2, 7, 9, 25])]
def ord34 : OrdT := [(16, (OT.l [0, 1, 2, 3, 4, 5, 6, 7, 8, 9, 10, 11] .fin), [0, 1, 3, 7, 7, 23, 7, 119, 247, 511, 1023, 2047]), (6, (OT.l [0, 1, 2, 3, 4, 5, 6, 7, 9, 10, 8, 11, 12, 13] .fin), [0, 1, 3, 7, 15, 31, 63, 127, 255, 127, 639, 2047, 4095, 8191])]
def z34 : List Value := [(.bool false)]
def kv34 (K : Bool → HP) : Value → HP := fun v h => rB v fun r0 => K r0 h
variable (K : Bool → HP) (Kp : PK) (N1 : Fr → HP) 
noncomputable def c34 : Cx := ⟨Tryz.prog, ann34, ord34, none, code34, (retQ Tryz.prog Tryz.f34.results.toList z34 (kv34 K)), Kp⟩
abbrev mk34_3 (x0 : Option Addr) (x2 : Int) (x7 : Addr) (x12 : Int) : Fr := ([some (.pointer x0), nO, vI x2, nO, nO, nO, nO, vP x7, nO, nO, nO, nO, vI x12]++nn 90)
def J34_4 (x0 : Option Addr) (x2 : Int) (x7 : Addr) (x12 : Int) (x13 x79 : Option Addr) (x80 : Int) (x81 : Option Addr) (x82 : Int) (x83 : Bool) : HP := semJ (c34 K Kp) [1, 1, 1, 1, 0, 1, 0, 0, 1, 0, 0, 1, 1] [N1] ([some (.pointer x0), nO, vI x2, nO, nO, nO, nO, vP x7, nO, nO, nO, nO, vI x12, some (.pointer x13), nO, nO, nO, nO, nO, nO, nO, nO, nO, nO, nO, nO, nO, nO, nO, nO, nO, nO, nO, nO, nO, nO, nO, nO, nO, nO, nO, nO, nO, nO, nO, nO, nO, nO, nO, nO, nO, nO, nO, nO, nO, nO, nO, nO, nO, nO, nO, nO, nO, nO, nO, nO, nO, nO, nO, nO, nO, nO, nO, nO, nO, nO, nO, nO, nO, some (.pointer x79), vI x80, some (.pointer x81), vI x82, some (.bool x83)]++nn 19)
def J34_5 (x0 : Option Addr) (x2 : Int) (x7 : Addr) (x12 : Int) (x13 : Option Addr) (x77 : Bool) : HP := semR (c34 K Kp) [1, 1, 1, 1, 0, 1, 0, 0, 1, 0, 0, 1, 0, 0] [N1] 13 [6, 7, 8, 9, 10, 11, 12] ([some (.pointer x0), nO, vI x2, nO, nO, nO, nO, vP x7, nO, nO, nO, nO, vI x12, some (.pointer x13), nO, nO, nO, nO, nO, nO, nO, nO, nO, nO, nO, nO, nO, nO, nO, nO, nO, nO, nO, nO, nO, nO, nO, nO, nO, nO, nO, nO, nO, nO, nO, nO, nO, nO, nO, nO, nO, nO, nO, nO, nO, nO, nO, nO, nO, nO, nO, nO, nO, nO, nO, nO, nO, nO, nO, nO, nO, nO, nO, nO, nO, nO, nO, some (.bool x77)]++nn 25)
def L34_3 (x0 : Option Addr) (x2 : Int) (x7 : Addr) (x12 : Int) : HP := semL (c34 K Kp) 2010 [1, 1, 1, 1, 0, 1, 0] [] (mk34_3 x0 x2 x7 x12)
def J34_2 (x0 : Option Addr) (x2 : Int) (x7 : Addr) : HP := semJ (c34 K Kp) [1, 1, 1, 1] [] ([some (.pointer x0), nO, vI x2, nO, nO, nO, nO, vP x7]++nn 95)
def J34_1 (x0 : Option Addr) (x2 : Int) (x7 : Addr) (x9 : Int) : HP := semJ (c34 K Kp) [1, 1, 1] [] ([some (.pointer x0), nO, vI x2, nO, nO, nO, nO, vP x7, nO, vI x9]++nn 93)
def J34_6 (x0 : Option Addr) (x2 : Int) (x7 : Addr) (x9 : Int) (x25 : Bool) : HP := semJ (c34 K Kp) [1, 1, 0, 1] [] ([some (.pointer x0), nO, vI x2, nO, nO, nO, nO, vP x7, nO, vI x9, nO, nO, nO, nO, nO, nO, nO, nO, nO, nO, nO, nO, nO, nO, nO, some (.bool x25)]++nn 77)
variable {K Kp N1} {x0 x13 x79 x81 : Option Addr} {x2 x9 x12 x80 x82 : Int} {x7 : Addr} {x25 x77 x83 : Bool} {h : Hp}
theorem J34_4.of (H :
  Fn31 x13 x2 h (fun t88_0_0 t88_0_1 t88_0_2 t88_0_3 t88_1 h1 =>
    New h1 zY66 Y66 fun a15 h2 =>
    SY66 h2 a15 t88_0_0 t88_0_1 t88_0_2 t88_0_3 fun h3 =>
    If (t88_1 != 0) (
      K false h3) (
      LY66 h3 a15 fun t94_0 t94_1 t94_2 t94_3 =>
      Ld h3 (x7.add 3) Sl.v fun t96 =>
      Ix t96.a t96.n 4 x12 fun a98 =>
      LY66 h3 a98 fun t99_0 t99_1 t99_2 t99_3 =>
      Fn33 t94_0 t94_1 t94_2 t94_3 t99_0 t99_1 t99_2 t99_3 h3 (fun t100 h4 =>
        If (!t100) (
          K false h4) (
          Wr .i64 (x12 + 1) fun t65 =>
          N1 (mk34_3 x0 x2 x7 t65) h4)) Kp)) Kp) :
  J34_4 K Kp N1 x0 x2 x7 x12 x13 x79 x80 x81 x82 x83 h := jof H (by kernel_rfl)
theorem J34_5.of (H :
  If x77 (
    K false h) (
    Fn29 x13 h (fun t80 h1 =>
      Fn29 x0 h1 (fun t82 h2 =>
        If (t80 != t82) (
          K false h2) (
          J34_4 K Kp N1 x0 x2 x7 x12 x13 x13 t80 x0 t82 (t80 != t82) h2)) Kp) Kp)) :
  J34_5 K Kp N1 x0 x2 x7 x12 x13 x77 h := jof H (by kernel_rfl)
theorem L34_3.rule : LR1 (L34_3 K Kp x0 x2 x7) (mk34_3 x0 x2 x7) fun N1 (x12 : Int) h =>
  (Ld h (x7.add 3) Sl.v fun t61 =>
  If (decide (x12 < (t61.n : Int))) (
    Fn70 x0 x12 h (fun t69_0 t69_1 h1 =>
      If (t69_1 != 0) (
        J34_5 K Kp N1 x0 x2 x7 x12 t69_0 true h1) (
        J34_5 K Kp N1 x0 x2 x7 x12 t69_0 (Option.isNone t69_0) h1)) Kp) (
    K true h)) :=
  loop1 (fun _ _ => rfl) fun _ _ _ => by kernel_rfl
theorem J34_2.of (H :
  L34_3 K Kp x0 x2 x7 0 h) :
  J34_2 K Kp x0 x2 x7 h := jof H (by kernel_rfl)
theorem J34_1.of (H :
  If (x9 != 17) (
    K true h) (
    Ld h x7 .bool fun t57 =>
    If t57 (
      K true h) (
      J34_2 K Kp x0 x2 x7 h))) :
  J34_1 K Kp x0 x2 x7 x9 h := jof H (by kernel_rfl)
theorem J34_6.of (H :
  If x25 (
    Fn69 x0 x2 h (fun t29_0 t29_1 h1 =>
      Ld h1 x7 .bool fun t33 =>
      If t33 (
        If (t29_1 == 7) (
          K (Option.isNone t29_0) h1) (
          K false h1)) (
        If (t29_1 == 0) (
          If (!(Option.isNone t29_0)) (
            Ld h1 (x7.add 3) Sl.v fun t50 =>
            Fn18 t29_0 h1 (fun t48 h2 =>
              Keep h1 h2 (x7.add 3) 1 <|
              Fn21 t48 t50 h2 (fun t51 h3 =>
                K t51 h3) Kp) Kp) (
            K false h1)) (
          K false h1))) Kp) (
    J34_1 K Kp x0 x2 x7 x9 h)) :
  J34_6 K Kp x0 x2 x7 x9 x25 h := jof H (by kernel_rfl)
theorem Fn34.of {a : Option Addr} {f_0 : ByteArray} {f_1 : Bool} {f_2 f_3 f_4 f_5 : Int} {f_6 : Sl} {i : Int} {v_0 : Bool} {v_1 : Int} {v_2 : ByteArray} {v_3 : Sl} (H :
  NY29 h f_0 f_1 f_2 f_3 f_4 f_5 f_6 fun a5 h1 =>
  NY66 h1 v_0 v_1 v_2 v_3 fun a7 h2 =>
  Ld h2 (a5.add 2) mI fun t19 =>
  If (t19 == 15) (
    J34_6 K Kp a i a7 t19 true h2) (
    J34_6 K Kp a i a7 t19 (t19 == 16) h2)) :
  Fn34 a f_0 f_1 f_2 f_3 f_4 f_5 f_6 i v_0 v_1 v_2 v_3 h K Kp := fnof (ann := ann34) (o := ord34) (zs := z34) (Kv := kv34 K) Tryz.func34 (by kernel_rfl) H (by kernel_rfl) (by kernel_rfl)
end
end Go.Proofs.YtcgdhhchjgbhnaaGreatDoor
set_option maxRecDepth 100000
set_option maxHeartbeats 200000
/- What the functions do, printed by program (gen.py) in the words of ShCore; each text is held against the loaded program by the kernel. -/
namespace Go.Proofs.YtcgdhhchjgbhnaaGreatDoor
open Go Go.Sh
end Go.Proofs.YtcgdhhchjgbhnaaGreatDoor
set_option maxRecDepth 100000
set_option maxHeartbeats 200000
/- What the functions do, printed by program (gen.py) in the words of ShCore; each text is held against the loaded program by the kernel. -/
namespace Go.Proofs.YtcgdhhchjgbhnaaGreatDoor
open Go Go.Sh
section
def ann49 : Ann := []
def ord49 : OrdT := []
def z49 : List Value := [(.agg #[(.int .i64 0), (.slice none 0 0), (.int .i64 0)])]
def kv49 (K : Int → Sl → Int → HP) : Value → HP := fun v h => rG v fun cs0 => rI (cs0.getD 0 undef) fun r0_0 => rS (cs0.getD 1 undef) fun r0_1 => rI (cs0.getD 2 undef) fun r0_2 => K r0_0 r0_1 r0_2 h
variable (K : Int → Sl → Int → HP) (Kp : PK) 
variable {K Kp} {h : Hp}
theorem Fn49.of {f_0 : ByteArray} {f_1 : Bool} {f_2 f_3 f_4 f_5 : Int} {f_6 : Sl} {d_0 d_1 d_2 : Int} {d_3 d_4 d_5 : Sl} (H :
  NY29 h f_0 f_1 f_2 f_3 f_4 f_5 f_6 fun a2 h1 =>
  NY33 h1 d_0 d_1 d_2 d_3 d_4 d_5 fun a3 h2 =>
  New h2 zY37 Y37 fun a4 h3 =>
  LY29 h3 a2 fun t7_0 t7_1 t7_2 t7_3 t7_4 t7_5 t7_6 =>
  Fn98 t7_0 t7_1 t7_2 t7_3 t7_4 t7_5 t7_6 h3 (fun t8_0 t8_1 t8_2 h4 =>
    If (t8_0 != 0) (
      Fn99 5 0 h4 (fun t11_0 t11_1 t11_2 h5 =>
        SY37 h5 a4 t11_0 t11_1 t11_2 fun h6 =>
        LY37 h6 a4 fun r0_0 r0_1 r0_2 =>
        K r0_0 r0_1 r0_2 h6) Kp) (
      LY29 h4 a2 fun t13_0 t13_1 t13_2 t13_3 t13_4 t13_5 t13_6 =>
      LY33 h4 a3 fun t14_0 t14_1 t14_2 t14_3 t14_4 t14_5 =>
      Fn100 t13_0 t13_1 t13_2 t13_3 t13_4 t13_5 t13_6 t14_0 t14_1 t14_2 t14_3 t14_4 t14_5 h4 (fun t15_0_0 t15_0_1 t15_0_2 t15_1 h5 =>
        New h5 zY37 Y37 fun a5 h6 =>
        SY37 h6 a5 t15_0_0 t15_0_1 t15_0_2 fun h7 =>
        LY37 h7 a5 fun t18_0 t18_1 t18_2 =>
        SY37 h7 a4 t18_0 t18_1 t18_2 fun h8 =>
        LY37 h8 a4 fun r0_0 r0_1 r0_2 =>
        K r0_0 r0_1 r0_2 h8) Kp)) Kp) :
  Fn49 f_0 f_1 f_2 f_3 f_4 f_5 f_6 d_0 d_1 d_2 d_3 d_4 d_5 h K Kp := fnof (ann := ann49) (o := ord49) (zs := z49) (Kv := kv49 K) Tryz.func49 (by kernel_rfl) H (by kernel_rfl) (by kernel_rfl)
end
end Go.Proofs.YtcgdhhchjgbhnaaGreatDoor
set_option maxRecDepth 100000
set_option maxHeartbeats 200000
/- What the functions do, printed by program (gen.py) in the words of ShCore; each text is held against the loaded program by the kernel. -/
namespace Go.Proofs.YtcgdhhchjgbhnaaGreatDoor
open Go Go.Sh
section
def ann50 : Ann := []
def ord50 : OrdT := [(1, (OT.l [0, 1, 2, 3, 4, 5, 6, 7, 8, 9, 10, 11, 12, 13] .fin), [0, 0, 0, 4, 0, 16, 0, 0, 128, 384, 896, 2047, 4095, 8191])]
def z50 : List Value := [(.pointer none)]
def kv50 (K : (Option Addr) → HP) : Value → HP := fun v h => rP v fun r0 => K r0 h
variable (K : (Option Addr) → HP) (Kp : PK) 
variable {K Kp} {h : Hp}
theorem Fn50.of {f_0 : ByteArray} {f_1 : Bool} {f_2 f_3 f_4 f_5 : Int} {f_6 : Sl} {d_0 d_1 d_2 : Int} {d_3 d_4 d_5 : Sl} {w : Option Addr} (H :
  NY29 h f_0 f_1 f_2 f_3 f_4 f_5 f_6 fun a3 h1 =>
  NY33 h1 d_0 d_1 d_2 d_3 d_4 d_5 fun a4 h2 =>
  LY29 h2 a3 fun t7_0 t7_1 t7_2 t7_3 t7_4 t7_5 t7_6 =>
  LY33 h2 a4 fun t8_0 t8_1 t8_2 t8_3 t8_4 t8_5 =>
  Ld h2 (a4.add 1) mI fun t10 =>
  Ld h2 a4 mI fun t12 =>
  Ld h2 (a3.add 2) mI fun t16 =>
  Fn101 t16 h2 (fun t17 h3 =>
    Keep h2 h3 a4 1 <|
    Keep h2 h3 (a4.add 1) 1 <|
    Keep h2 h3 a4 6 <|
    Keep h2 h3 a3 7 <|
    NA t17 <|
    NY109 h3 t7_0 t7_1 t7_2 t7_3 t7_4 t7_5 t7_6 t8_0 t8_1 t8_2 t8_3 t8_4 t8_5 t10 t12 w t17 fun a19 h4 =>
    K (some a19) h4) Kp) :
  Fn50 f_0 f_1 f_2 f_3 f_4 f_5 f_6 d_0 d_1 d_2 d_3 d_4 d_5 w h K Kp := fnof (ann := ann50) (o := ord50) (zs := z50) (Kv := kv50 K) Tryz.func50 (by kernel_rfl) H (by kernel_rfl) (by kernel_rfl)
end
section
noncomputable def code51 : Code := Tryz.f51.body.getD .skip
def ann51 : Ann := [(2003, [1, 2, 13, 14])]
def ord51 : OrdT := [(5, (OT.l [0, 1, 2, 3, 4, 5, 6, 7, 8, 9, 10, 11, 12] .fin), [0, 1, 3, 0, 0, 16, 48, 0, 240, 496, 1008, 2047, 4095])]
def z51 : List Value := [(.agg #[(.string (bs [])), (.bool false), (.int .i64 0), (.int .i64 0), (.int .i64 0), (.int .i64 0), (.slice none 0 0)])]
def kv51 (K : ByteArray → Bool → Int → Int → Int → Int → Sl → HP) : Value → HP := fun v h => rG v fun cs0 => rT (cs0.getD 0 undef) fun r0_0 => rB (cs0.getD 1 undef) fun r0_1 => rI (cs0.getD 2 undef) fun r0_2 => rI (cs0.getD 3 undef) fun r0_3 => rI (cs0.getD 4 undef) fun r0_4 => rI (cs0.getD 5 undef) fun r0_5 => rS (cs0.getD 6 undef) fun r0_6 => K r0_0 r0_1 r0_2 r0_3 r0_4 r0_5 r0_6 h
variable (K : ByteArray → Bool → Int → Int → Int → Int → Sl → HP) (Kp : PK) 
noncomputable def c51 : Cx := ⟨Tryz.prog, ann51, ord51, none, code51, (retQ Tryz.prog Tryz.f51.results.toList z51 (kv51 K)), Kp⟩
abbrev mk51_1 (x1 x2 : Addr) (x13 x14 : Int) : Fr := ([nO, vP x1, vP x2, nO, nO, nO, nO, nO, nO, nO, nO, nO, nO, vI x13, vI x14]++nn 16)
def L51_1 (x1 x2 : Addr) (x13 x14 : Int) : HP := semL (c51 K Kp) 2003 [1, 1, 0, 1, 0] [] (mk51_1 x1 x2 x13 x14)
variable {K Kp} {x1 x2 : Addr} {x13 : Int} {h : Hp}
theorem L51_1.rule : LR1 (L51_1 K Kp x1 x2 x13) (mk51_1 x1 x2 x13) fun N1 (x14 : Int) h =>
  (If (decide (x14 < x13)) (
    Ld h ((x1.add 2).add 4) Sl.v fun t19 =>
    Ld h ((x1.add 2).add 4) Sl.v fun t23 =>
    Ix t23.a t23.n 7 x14 fun a25 =>
    LY29 h a25 fun t26_0 t26_1 t26_2 t26_3 t26_4 t26_5 t26_6 =>
    Fn51 t26_0 t26_1 t26_2 t26_3 t26_4 t26_5 t26_6 h (fun t27_0 t27_1 t27_2 t27_3 t27_4 t27_5 t27_6 h1 =>
      Keep h h1 ((x1.add 2).add 4) 1 <|
      Ix t19.a t19.n 7 x14 fun a28 =>
      SY29 h1 a28 t27_0 t27_1 t27_2 t27_3 t27_4 t27_5 t27_6 fun h2 =>
      Wr .i64 (x14 + 1) fun t29 =>
      N1 (mk51_1 x1 x2 x13 t29) h2) Kp) (
    LY29 h x1 fun t30_0 t30_1 t30_2 t30_3 t30_4 t30_5 t30_6 =>
    SY29 h x2 t30_0 t30_1 t30_2 t30_3 t30_4 t30_5 t30_6 fun h1 =>
    LY29 h1 x2 fun r0_0 r0_1 r0_2 r0_3 r0_4 r0_5 r0_6 =>
    K r0_0 r0_1 r0_2 r0_3 r0_4 r0_5 r0_6 h1)) :=
  loop1 (fun _ _ => rfl) fun _ _ _ => by kernel_rfl
theorem Fn51.of {f_0 : ByteArray} {f_1 : Bool} {f_2 f_3 f_4 f_5 : Int} {f_6 : Sl} (H :
  NY29 h f_0 f_1 f_2 f_3 f_4 f_5 f_6 fun a1 h1 =>
  New h1 zY29 Y29 fun a2 h2 =>
  Ld h2 ((a1.add 2).add 4) Sl.v fun t6 =>
  Fn200 t6 h2 (fun t7 h3 =>
    St h3 ((a1.add 2).add 4) (Sl.v t7) fun h4 =>
    Ld h4 ((a1.add 2).add 4) Sl.v fun t12 =>
    L51_1 K Kp a1 a2 (t12.n : Int) 0 h4) Kp) :
  Fn51 f_0 f_1 f_2 f_3 f_4 f_5 f_6 h K Kp := fnof (ann := ann51) (o := ord51) (zs := z51) (Kv := kv51 K) Tryz.func51 (by kernel_rfl) H (by kernel_rfl) (by kernel_rfl)
end
section
def ann52 : Ann := []
def ord52 : OrdT := []
def z52 : List Value := [(.agg #[(.int .i64 0), (.int .i64 0), (.int .i64 0), (.slice none 0 0), (.slice none 0 0), (.slice none 0 0)])]
def kv52 (K : Int → Int → Int → Sl → Sl → Sl → HP) : Value → HP := fun v h => rG v fun cs0 => rI (cs0.getD 0 undef) fun r0_0 => rI (cs0.getD 1 undef) fun r0_1 => rI (cs0.getD 2 undef) fun r0_2 => rS (cs0.getD 3 undef) fun r0_3 => rS (cs0.getD 4 undef) fun r0_4 => rS (cs0.getD 5 undef) fun r0_5 => K r0_0 r0_1 r0_2 r0_3 r0_4 r0_5 h
variable (K : Int → Int → Int → Sl → Sl → Sl → HP) (Kp : PK) 
variable {K Kp} {h : Hp}
theorem Fn52.of {d_0 d_1 d_2 : Int} {d_3 d_4 d_5 : Sl} (H :
  NY33 h d_0 d_1 d_2 d_3 d_4 d_5 fun a1 h1 =>
  New h1 zY33 Y33 fun a2 h2 =>
  Ld h2 (a1.add 3) Sl.v fun t4 =>
  Fn201 t4 h2 (fun t5 h3 =>
    St h3 (a1.add 3) (Sl.v t5) fun h4 =>
    Ld h4 (a1.add 4) Sl.v fun t8 =>
    Fn102 t8 h4 (fun t9 h5 =>
      St h5 (a1.add 4) (Sl.v t9) fun h6 =>
      Ld h6 (a1.add 5) Sl.v fun t12 =>
      Fn102 t12 h6 (fun t13 h7 =>
        St h7 (a1.add 5) (Sl.v t13) fun h8 =>
        LY33 h8 a1 fun t15_0 t15_1 t15_2 t15_3 t15_4 t15_5 =>
        SY33 h8 a2 t15_0 t15_1 t15_2 t15_3 t15_4 t15_5 fun h9 =>
        LY33 h9 a2 fun r0_0 r0_1 r0_2 r0_3 r0_4 r0_5 =>
        K r0_0 r0_1 r0_2 r0_3 r0_4 r0_5 h9) Kp) Kp) Kp) :
  Fn52 d_0 d_1 d_2 d_3 d_4 d_5 h K Kp := fnof (ann := ann52) (o := ord52) (zs := z52) (Kv := kv52 K) Tryz.func52 (by kernel_rfl) H (by kernel_rfl) (by kernel_rfl)
end
section
def ann55 : Ann := []
def ord55 : OrdT := []
def z55 : List Value := [(.nilFunc)]
def kv55 (K : Value → HP) : Value → HP := fun v h => rA v fun r0 => K r0 h
variable (K : Value → HP) (Kp : PK) 
variable {K Kp} {h : Hp}
theorem Fn55.of {a : Option Addr} (H :
  New h #[(.pointer a)] Y42 fun a1 h1 =>
  K (.func (.func I103) #[] #[(.pointer (some a1))]) h1) :
  Fn55 a h K Kp := fnof (ann := ann55) (o := ord55) (zs := z55) (Kv := kv55 K) Tryz.func55 (by kernel_rfl) H (by kernel_rfl) (by kernel_rfl)
end
section
noncomputable def code56 : Code := Tryz.f56.body.getD .skip
def ann56 : Ann := [(2000007, [1, 2, 3]), (2003, [1, 2, 3, 7, 8, 9])]
def ord56 : OrdT := []
def z56 : List Value := [(.agg #[(.int .i64 0), (.int .i64 0), (.int .i64 0), (.slice none 0 0), (.slice none 0 0), (.slice none 0 0)])]
def kv56 (K : Int → Int → Int → Sl → Sl → Sl → HP) : Value → HP := fun v h => rG v fun cs0 => rI (cs0.getD 0 undef) fun r0_0 => rI (cs0.getD 1 undef) fun r0_1 => rI (cs0.getD 2 undef) fun r0_2 => rS (cs0.getD 3 undef) fun r0_3 => rS (cs0.getD 4 undef) fun r0_4 => rS (cs0.getD 5 undef) fun r0_5 => K r0_0 r0_1 r0_2 r0_3 r0_4 r0_5 h
variable (K : Int → Int → Int → Sl → Sl → Sl → HP) (Kp : PK) 
noncomputable def c56 : Cx := ⟨Tryz.prog, ann56, ord56, none, code56, (retQ Tryz.prog Tryz.f56.results.toList z56 (kv56 K)), Kp⟩
def J56_1 (x1 x2 : Addr) (x3 : Sl) : HP := semJ (c56 K Kp) [1, 1, 1] [] ([nO, vP x1, vP x2, vS x3]++nn 26)
abbrev mk56_2 (x1 x2 : Addr) (x7 : Sl) (x8 : Int) (x3 : Sl) (x9 : Int) : Fr := ([nO, vP x1, vP x2, vS x3, nO, nO, nO, vS x7, vI x8, vI x9]++nn 20)
def L56_2 (x1 x2 : Addr) (x7 : Sl) (x8 : Int) (x3 : Sl) (x9 : Int) : HP := semL (c56 K Kp) 2003 [1, 1, 0, 1, 0] [] (mk56_2 x1 x2 x7 x8 x3 x9)
variable {K Kp} {x1 x2 : Addr} {x7 x3 : Sl} {x8 : Int} {h : Hp}
theorem J56_1.of (H :
  St h (x1.add 3) (Sl.v x3) fun h1 =>
  Ld h1 (x1.add 4) Sl.v fun t22 =>
  Fn104 t22 h1 (fun t23 h2 =>
    St h2 (x1.add 4) (Sl.v t23) fun h3 =>
    Ld h3 (x1.add 5) Sl.v fun t26 =>
    Fn104 t26 h3 (fun t27 h4 =>
      St h4 (x1.add 5) (Sl.v t27) fun h5 =>
      LY33 h5 x1 fun t29_0 t29_1 t29_2 t29_3 t29_4 t29_5 =>
      SY33 h5 x2 t29_0 t29_1 t29_2 t29_3 t29_4 t29_5 fun h6 =>
      LY33 h6 x2 fun r0_0 r0_1 r0_2 r0_3 r0_4 r0_5 =>
      K r0_0 r0_1 r0_2 r0_3 r0_4 r0_5 h6) Kp) Kp) :
  J56_1 K Kp x1 x2 x3 h := jof H (by kernel_rfl)
theorem L56_2.rule : LR2 (L56_2 K Kp x1 x2 x7 x8) (mk56_2 x1 x2 x7 x8) fun N1 (x3 : Sl) (x9 : Int) h =>
  (If (decide (x9 < x8)) (
    Ix x7.a x7.n 1 x9 fun a11 =>
    Ld h a11 Sl.v fun t12 =>
    Ap h Y8 #[(.int .u8 0)] 1 1 (⟨none, 0, 0⟩ : Sl) t12.n (rd h t12.a (t12.n * 1)) fun t15 h1 =>
    New h1 #[(Sl.v t15)] Y96 fun a16 h2 =>
    Ap h2 Y96 #[(.slice none 0 0)] 1 24 x3 1 (rd h2 (some a16) (1 * 1)) fun t17 h3 =>
    Wr .i64 (x9 + 1) fun t18 =>
    N1 (mk56_2 x1 x2 x7 x8 t17 t18) h3) (
    J56_1 K Kp x1 x2 x3 h)) :=
  loop2 (fun _ _ _ => rfl) fun _ _ _ _ => by kernel_rfl
theorem Fn56.of {d_0 d_1 d_2 : Int} {d_3 d_4 d_5 : Sl} (H :
  NY33 h d_0 d_1 d_2 d_3 d_4 d_5 fun a1 h1 =>
  New h1 zY33 Y33 fun a2 h2 =>
  Ld h2 (a1.add 3) Sl.v fun t7 =>
  L56_2 K Kp a1 a2 t7 (t7.n : Int) (⟨none, 0, 0⟩ : Sl) 0 h2) :
  Fn56 d_0 d_1 d_2 d_3 d_4 d_5 h K Kp := fnof (ann := ann56) (o := ord56) (zs := z56) (Kv := kv56 K) Tryz.func56 (by kernel_rfl) H (by kernel_rfl) (by kernel_rfl)
end
section
noncomputable def code57 : Code := Tryz.f57.body.getD .skip
def ann57 : Ann := [(2003, [2, 3, 5, 8, 9])]
def ord57 : OrdT := []
def z57 : List Value := [(.int .i64 0)]
def kv57 (K : Int → HP) : Value → HP := fun v h => rI v fun r0 => K r0 h
variable (K : Int → HP) (Kp : PK) 
noncomputable def c57 : Cx := ⟨Tryz.prog, ann57, ord57, none, code57, (retQ Tryz.prog Tryz.f57.results.toList z57 (kv57 K)), Kp⟩
abbrev mk57_1 (x2 x3 : Addr) (x8 x5 x9 : Int) : Fr := ([nO, nO, vP x2, vP x3, nO, vI x5, nO, nO, vI x8, vI x9]++nn 13)
def L57_1 (x2 x3 : Addr) (x8 x5 x9 : Int) : HP := semL (c57 K Kp) 2003 [1, 1, 0, 1, 0] [] (mk57_1 x2 x3 x8 x5 x9)
variable {K Kp} {x2 x3 : Addr} {x8 : Int} {h : Hp}
theorem L57_1.rule : LR2 (L57_1 K Kp x2 x3 x8) (mk57_1 x2 x3 x8) fun N1 (x5 : Int) (x9 : Int) h =>
  (If (decide (x9 < x8)) (
    LY29 h x2 fun t12_0 t12_1 t12_2 t12_3 t12_4 t12_5 t12_6 =>
    LY33 h x3 fun t13_0 t13_1 t13_2 t13_3 t13_4 t13_5 =>
    Ld h (x3.add 1) mI fun t15 =>
    Wr .i64 (t15 + x9) fun t17 =>
    Fn105 t12_0 t12_1 t12_2 t12_3 t12_4 t12_5 t12_6 t13_0 t13_1 t13_2 t13_3 t13_4 t13_5 t17 h (fun t18 h1 =>
      If t18 (
        Wr .i64 (x5 + 1) fun t20 =>
        Wr .i64 (x9 + 1) fun t21 =>
        N1 (mk57_1 x2 x3 x8 t20 t21) h1) (
        Wr .i64 (x9 + 1) fun t21 =>
        N1 (mk57_1 x2 x3 x8 x5 t21) h1)) Kp) (
    K x5 h)) :=
  loop2 (fun _ _ _ => rfl) fun _ _ _ _ => by kernel_rfl
theorem Fn57.of {f_0 : ByteArray} {f_1 : Bool} {f_2 f_3 f_4 f_5 : Int} {f_6 : Sl} {d_0 d_1 d_2 : Int} {d_3 d_4 d_5 : Sl} (H :
  NY29 h f_0 f_1 f_2 f_3 f_4 f_5 f_6 fun a2 h1 =>
  NY33 h1 d_0 d_1 d_2 d_3 d_4 d_5 fun a3 h2 =>
  Ld h2 a3 mI fun t8 =>
  L57_1 K Kp a2 a3 t8 0 0 h2) :
  Fn57 f_0 f_1 f_2 f_3 f_4 f_5 f_6 d_0 d_1 d_2 d_3 d_4 d_5 h K Kp := fnof (ann := ann57) (o := ord57) (zs := z57) (Kv := kv57 K) Tryz.func57 (by kernel_rfl) H (by kernel_rfl) (by kernel_rfl)
end
end Go.Proofs.YtcgdhhchjgbhnaaGreatDoor
set_option maxRecDepth 100000
set_option maxHeartbeats 200000
/- What the functions do, printed by program (gen.py) in the words of ShCore; each text is held against the loaded program by the kernel. -/
namespace Go.Proofs.YtcgdhhchjgbhnaaGreatDoor
open Go Go.Sh
section
def ann63 : Ann := []
def ord63 : OrdT := []
def z63 : List Value := [(.bool false)]
def kv63 (K : Bool → HP) : Value → HP := fun v h => rB v fun r0 => K r0 h
variable (K : Bool → HP) (Kp : PK) 
variable {K Kp} {h : Hp}
theorem Fn63.of {a : Option Addr} {i : Int} (H :
  If (decide (i ≥ 0)) (
    NN a fun p10 =>
    Ld h (p10.add 14) mI fun t12 =>
    K (decide (i < t12)) h) (
    K false h)) :
  Fn63 a i h K Kp := fnof (ann := ann63) (o := ord63) (zs := z63) (Kv := kv63 K) Tryz.func63 (by kernel_rfl) H (by kernel_rfl) (by kernel_rfl)
end
section
def ann66 : Ann := []
def ord66 : OrdT := [(1, (OT.l [0, 1, 2, 3, 4, 6, 7, 8, 9, 11, 14, 15, 16, 17, 5, 10, 12, 13, 18, 19] .fin), [0, 1, 3, 7, 0, 31, 0, 64, 192, 448, 1023, 0, 4095, 8191, 0, 16384, 49152, 114688, 262143, 524287])]
def z66 : List Value := [(.pointer none)]
def kv66 (K : (Option Addr) → HP) : Value → HP := fun v h => rP v fun r0 => K r0 h
variable (K : (Option Addr) → HP) (Kp : PK) 
variable {K Kp} {h : Hp}
theorem Fn66.of {a : Option Addr} {k : Int} (H :
  NN a fun p6 =>
  LY29 h p6 fun t8_0 t8_1 t8_2 t8_3 t8_4 t8_5 t8_6 =>
  NN a fun p12 =>
  LY33 h (p12.add 7) fun t14_0 t14_1 t14_2 t14_3 t14_4 t14_5 =>
  NN a fun p20 =>
  Ld h (p20.add 15) .pointer fun t22 =>
  Fn110 t8_0 t8_1 t8_2 t8_3 t8_4 t8_5 t8_6 k h (fun t10_0 t10_1 t10_2 t10_3 t10_4 t10_5 t10_6 h1 =>
    Keep h h1 (p20.add 15) 1 <|
    Keep h h1 (p12.add 7) 6 <|
    Fn111 t14_0 t14_1 t14_2 t14_3 t14_4 t14_5 h1 (fun t15 h2 =>
      Keep h1 h2 (p20.add 15) 1 <|
      Ix t15.a t15.n 6 k fun a17 =>
      LY33 h2 a17 fun t18_0 t18_1 t18_2 t18_3 t18_4 t18_5 =>
      Fn50 t10_0 t10_1 t10_2 t10_3 t10_4 t10_5 t10_6 t18_0 t18_1 t18_2 t18_3 t18_4 t18_5 t22 h2 (fun t23 h3 =>
        K t23 h3) Kp) Kp) Kp) :
  Fn66 a k h K Kp := fnof (ann := ann66) (o := ord66) (zs := z66) (Kv := kv66 K) Tryz.func66 (by kernel_rfl) H (by kernel_rfl) (by kernel_rfl)
end
section
noncomputable def code67 : Code := Tryz.f67.body.getD .skip
def ann67 : Ann := [(2003, [1, 4, 5, 14, 15])]
def ord67 : OrdT := [(5, (OT.l [0, 2, 3, 4, 5, 6, 7, 8, 1, 9, 10, 11, 12, 13, 14] .fin), [0, 1, 0, 4, 12, 28, 0, 124, 252, 511, 1023, 2047, 2047, 4095, 16383])]
def z67 : List Value := [(.int .i64 0)]
def kv67 (K : Int → HP) : Value → HP := fun v h => rI v fun r0 => K r0 h
variable (K : Int → HP) (Kp : PK) 
noncomputable def c67 : Cx := ⟨Tryz.prog, ann67, ord67, none, code67, (retQ Tryz.prog Tryz.f67.results.toList z67 (kv67 K)), Kp⟩
abbrev mk67_1 (x1 : Int) (x5 : Option Addr) (x14 x4 x15 : Int) : Fr := ([nO, vI x1, nO, nO, vI x4, some (.pointer x5), nO, nO, nO, nO, nO, nO, nO, nO, vI x14, vI x15]++nn 22)
def L67_1 (x1 : Int) (x5 : Option Addr) (x14 x4 x15 : Int) : HP := semL (c67 K Kp) 2003 [1, 1, 0, 1, 0] [] (mk67_1 x1 x5 x14 x4 x15)
variable {K Kp} {x1 x14 : Int} {x5 : Option Addr} {h : Hp}
theorem L67_1.rule : LR2 (L67_1 K Kp x1 x5 x14) (mk67_1 x1 x5 x14) fun N1 (x4 : Int) (x15 : Int) h =>
  (If (decide (x15 < x14)) (
    NN x5 fun p22 =>
    Ld h (p22.add 13) mI fun t24 =>
    Wr .i64 (t24 + x15) fun t26 =>
    Wr .i64 ((4 : Int) * t26) fun t27 =>
    Fn112 x5 1 h (fun t20_0 t20_1 t20_2 h1 =>
      Keep h h1 (p22.add 13) 1 <|
      Fn113 t20_0 t20_1 t20_2 t27 4 h1 (fun t28_0 t28_1 h2 =>
        If (decide (t28_0 > x1)) (
          K x15 h2) (
          Wr .i64 (x15 + 1) fun t35 =>
          N1 (mk67_1 x1 x5 x14 x4 t35) h2)) Kp) Kp) (
    Kp [{ v := (.iface Y162 (.agg #[])), recovered := false }] h)) :=
  loop2 (fun _ _ _ => rfl) fun _ _ _ _ => by kernel_rfl
theorem Fn67.of {a : Option Addr} {r : Int} (H :
  Fn66 a 0 h (fun t10 h1 =>
    NN t10 fun p12 =>
    Ld h1 (p12.add 14) mI fun t14 =>
    L67_1 K Kp r t10 t14 0 0 h1) Kp) :
  Fn67 a r h K Kp := fnof (ann := ann67) (o := ord67) (zs := z67) (Kv := kv67 K) Tryz.func67 (by kernel_rfl) H (by kernel_rfl) (by kernel_rfl)
end
section
noncomputable def code68 : Code := Tryz.f68.body.getD .skip
def ann68 : Ann := [(2000005, [0, 1])]
def ord68 : OrdT := []
def z68 : List Value := [(.bool false)]
def kv68 (K : Bool → HP) : Value → HP := fun v h => rB v fun r0 => K r0 h
variable (K : Bool → HP) (Kp : PK) 
noncomputable def c68 : Cx := ⟨Tryz.prog, ann68, ord68, none, code68, (retQ Tryz.prog Tryz.f68.results.toList z68 (kv68 K)), Kp⟩
def J68_1 (x0 : Option Addr) (x1 : Int) : HP := semJ (c68 K Kp) [1, 1, 1] [] ([some (.pointer x0), vI x1]++nn 45)
variable {K Kp} {x0 : Option Addr} {x1 : Int} {h : Hp}
theorem J68_1.of (H :
  Fn112 x0 0 h (fun t35_0 t35_1 t35_2 h1 =>
    Dv 8 <| Wr .i64 (Int.tdiv x1 8) fun t37 =>
    Fn115 t35_0 t35_1 t35_2 t37 h1 (fun t38_0 t38_1 h2 =>
      Dv 8 <| Lt (Int.tmod x1 8) fun t43 =>
      Nn t43 <| Lt (Int.fdiv t38_0 (2 ^ (min (Int.toNat t43) (IntKind.bits .u8)))) fun t44 =>
      Lt (bitsV .and .u8 t44 1) fun t45 =>
      K (t45 == 0) h2) Kp) Kp) :
  J68_1 K Kp x0 x1 h := jof H (by kernel_rfl)
theorem Fn68.of {a : Option Addr} {r : Int} (H :
  NN a fun p8 =>
  Ld h (p8.add 2) mI fun t12 =>
  If (t12 == 1) (
    K true h) (
    NN a fun p15 =>
    Ld h (p15.add 2) mI fun t19 =>
    Fn114 t19 h (fun t20 h1 =>
      If (!t20) (
        K false h1) (
        NN a fun p24 =>
        Ld h1 ((p24.add 7).add 3) Sl.v fun t27 =>
        Ix t27.a t27.n 1 0 fun a28 =>
        Ld h1 a28 Sl.v fun t29 =>
        If ((t29.n : Int) == 0) (
          K false h1) (
          J68_1 K Kp a r h1))) Kp)) :
  Fn68 a r h K Kp := fnof (ann := ann68) (o := ord68) (zs := z68) (Kv := kv68 K) Tryz.func68 (by kernel_rfl) H (by kernel_rfl) (by kernel_rfl)
end
section
noncomputable def code70 : Code := Tryz.f70.body.getD .skip
def ann70 : Ann := [(2000003, [0, 1])]
def ord70 : OrdT := [(5, (OT.l [0, 1, 2, 3, 4, 5, 6, 7, 8, 9, 10, 11, 12, 13] .fin), [0, 0, 2, 6, 14, 0, 32, 96, 224, 511, 1023, 1023, 4095, 8191])]
def z70 : List Value := [(.pointer none), (.int .i64 0)]
def kv70 (K : (Option Addr) → Int → HP) : Value → HP := fun v h => rU v fun vs => rP (vs.getD 0 undef) fun r0 => rI (vs.getD 1 undef) fun r1 => K r0 r1 h
variable (K : (Option Addr) → Int → HP) (Kp : PK) 
noncomputable def c70 : Cx := ⟨Tryz.prog, ann70, ord70, none, code70, (retQ Tryz.prog Tryz.f70.results.toList z70 (kv70 K)), Kp⟩
def J70_1 (x0 : Option Addr) (x1 : Int) : HP := semJ (c70 K Kp) [1, 1] [] ([some (.pointer x0), vI x1]++nn 40)
variable {K Kp} {x0 : Option Addr} {x1 : Int} {h : Hp}
theorem J70_1.of (H :
  Fn66 x0 x1 h (fun t21 h1 =>
    NN x0 fun p23 =>
    Ld h1 (p23.add 2) mI fun t27 =>
    If (t27 == 17) (
      NN x0 fun p31 =>
      Ld h1 (p31.add 13) mI fun t33 =>
      NN x0 fun p35 =>
      Ld h1 (p35.add 14) mI fun t37 =>
      Fn30 t21 t33 t37 h1 (fun t38_0 t38_1 h2 =>
        K t38_0 t38_1 h2) Kp) (
      K t21 0 h1)) Kp) :
  J70_1 K Kp x0 x1 h := jof H (by kernel_rfl)
theorem Fn70.of {a : Option Addr} {k : Int} (H :
  If (decide (k < 0)) (
    K none 2 h) (
    NN a fun p12 =>
    LY33 h (p12.add 7) fun t14_0 t14_1 t14_2 t14_3 t14_4 t14_5 =>
    Fn111 t14_0 t14_1 t14_2 t14_3 t14_4 t14_5 h (fun t15 h1 =>
      If (decide (k ≥ (t15.n : Int))) (
        K none 2 h1) (
        J70_1 K Kp a k h1)) Kp)) :
  Fn70 a k h K Kp := fnof (ann := ann70) (o := ord70) (zs := z70) (Kv := kv70 K) Tryz.func70 (by kernel_rfl) H (by kernel_rfl) (by kernel_rfl)
end
end Go.Proofs.YtcgdhhchjgbhnaaGreatDoor
set_option maxRecDepth 100000
set_option maxHeartbeats 200000
/- What the functions do, printed by program (gen.py) in the words of ShCore; each text is held against the loaded program by the kernel. -/
namespace Go.Proofs.YtcgdhhchjgbhnaaGreatDoor
open Go Go.Sh
end Go.Proofs.YtcgdhhchjgbhnaaGreatDoor
set_option maxRecDepth 100000
set_option maxHeartbeats 200000
/- What the functions do, printed by program (gen.py) in the words of ShCore; each text is held against the loaded program by the kernel. -/
namespace Go.Proofs.YtcgdhhchjgbhnaaGreatDoor
open Go Go.Sh
end Go.Proofs.YtcgdhhchjgbhnaaGreatDoor
set_option maxRecDepth 100000
set_option maxHeartbeats 200000
/- What the functions do, printed by program (gen.py) in the words of ShCore; each text is held against the loaded program by the kernel. -/
namespace Go.Proofs.YtcgdhhchjgbhnaaGreatDoor
open Go Go.Sh
end Go.Proofs.YtcgdhhchjgbhnaaGreatDoor
set_option maxRecDepth 100000
set_option maxHeartbeats 200000
/- What the functions do, printed by program (gen.py) in the words of ShCore; each text is held against the loaded program by the kernel. -/
namespace Go.Proofs.YtcgdhhchjgbhnaaGreatDoor
open Go Go.Sh
section
def ann98 : Ann := []
def ord98 : OrdT := []
def z98 : List Value := [(.agg #[(.int .i64 0), (.slice none 0 0), (.int .i64 0)])]
def kv98 (K : Int → Sl → Int → HP) : Value → HP := fun v h => rG v fun cs0 => rI (cs0.getD 0 undef) fun r0_0 => rS (cs0.getD 1 undef) fun r0_1 => rI (cs0.getD 2 undef) fun r0_2 => K r0_0 r0_1 r0_2 h
variable (K : Int → Sl → Int → HP) (Kp : PK) 
variable {K Kp} {h : Hp}
theorem Fn98.of {f_0 : ByteArray} {f_1 : Bool} {f_2 f_3 f_4 f_5 : Int} {f_6 : Sl} (H :
  NY29 h f_0 f_1 f_2 f_3 f_4 f_5 f_6 fun a1 h1 =>
  New h1 zY37 Y37 fun a2 h2 =>
  LY29 h2 a1 fun t4_0 t4_1 t4_2 t4_3 t4_4 t4_5 t4_6 =>
  New h2 #[(.string t4_0), (.bool t4_1), (.int .i64 t4_2), (.int .i64 t4_3), (.int .i64 t4_4), (.int .i64 t4_5), (Sl.v t4_6)] Y29 fun a5 h3 =>
  Fn129 (⟨some a5, 1, 1⟩ : Sl) (⟨none, 0, 0⟩ : Sl) h3 (fun t7_0 t7_1 t7_2 h4 =>
    New h4 zY37 Y37 fun a3 h5 =>
    SY37 h5 a3 t7_0 t7_1 t7_2 fun h6 =>
    Ld h6 (a3.add 1) Sl.v fun t9 =>
    If (decide ((t9.n : Int) > 0)) (
      Ld h6 (a3.add 1) Sl.v fun t13 =>
      Slc t13 1 (some 1) none none fun t14 =>
      St h6 (a3.add 1) (Sl.v t14) fun h7 =>
      LY37 h7 a3 fun t16_0 t16_1 t16_2 =>
      SY37 h7 a2 t16_0 t16_1 t16_2 fun h8 =>
      LY37 h8 a2 fun r0_0 r0_1 r0_2 =>
      K r0_0 r0_1 r0_2 h8) (
      LY37 h6 a3 fun t16_0 t16_1 t16_2 =>
      SY37 h6 a2 t16_0 t16_1 t16_2 fun h7 =>
      LY37 h7 a2 fun r0_0 r0_1 r0_2 =>
      K r0_0 r0_1 r0_2 h7)) Kp) :
  Fn98 f_0 f_1 f_2 f_3 f_4 f_5 f_6 h K Kp := fnof (ann := ann98) (o := ord98) (zs := z98) (Kv := kv98 K) Tryz.func98 (by kernel_rfl) H (by kernel_rfl) (by kernel_rfl)
end
section
def ann99 : Ann := []
def ord99 : OrdT := []
def z99 : List Value := [(.agg #[(.int .i64 0), (.slice none 0 0), (.int .i64 0)])]
def kv99 (K : Int → Sl → Int → HP) : Value → HP := fun v h => rG v fun cs0 => rI (cs0.getD 0 undef) fun r0_0 => rS (cs0.getD 1 undef) fun r0_1 => rI (cs0.getD 2 undef) fun r0_2 => K r0_0 r0_1 r0_2 h
variable (K : Int → Sl → Int → HP) (Kp : PK) 
variable {K Kp} {h : Hp}
theorem Fn99.of {e atv : Int} (H :
  New h zY37 Y37 fun a4 h1 =>
  SY37 h1 a4 e (⟨none, 0, 0⟩ : Sl) atv fun h2 =>
  LY37 h2 a4 fun r0_0 r0_1 r0_2 =>
  K r0_0 r0_1 r0_2 h2) :
  Fn99 e atv h K Kp := fnof (ann := ann99) (o := ord99) (zs := z99) (Kv := kv99 K) Tryz.func99 (by kernel_rfl) H (by kernel_rfl) (by kernel_rfl)
end
end Go.Proofs.YtcgdhhchjgbhnaaGreatDoor
set_option maxRecDepth 100000
set_option maxHeartbeats 200000
/- What the functions do, printed by program (gen.py) in the words of ShCore; each text is held against the loaded program by the kernel. -/
namespace Go.Proofs.YtcgdhhchjgbhnaaGreatDoor
open Go Go.Sh
section
noncomputable def code100 : Code := Tryz.f100.body.getD .skip
def ann100 : Ann := [(2000004, [2, 3, 4]), (2000007, [2, 3, 4]), (2000017, [2, 3, 4, 8]), (2000021, [2, 3, 4, 8]), (2024, [4, 14, 15, 77, 78, 79]), (2009, [2, 3, 4, 8, 33, 34, 35]), (2000012, [2, 3, 4, 8, 9, 11, 12, 33, 34, 35])]
def ord100 : OrdT := [(11, (OT.l [0, 1, 3] (.alt (OT.l [2] (.alt (OT.l [4, 5, 6, 7, 8, 9, 10] .fin) (OT.l [8, 4, 5, 6, 7, 9, 10] .fin))) (OT.l [8, 2, 4, 5, 6, 7, 9, 10] .fin))), [0, 0, 3, 0, 15, 31, 63, 63, 0, 383, 1023])]
def z100 : List Value := [(.agg #[(.int .i64 0), (.slice none 0 0), (.int .i64 0)]), (.slice none 0 0)]
def kv100 (K : Int → Sl → Int → Sl → HP) : Value → HP := fun v h => rU v fun vs => rG (vs.getD 0 undef) fun cs0 => rI (cs0.getD 0 undef) fun r0_0 => rS (cs0.getD 1 undef) fun r0_1 => rI (cs0.getD 2 undef) fun r0_2 => rS (vs.getD 1 undef) fun r1 => K r0_0 r0_1 r0_2 r1 h
variable (K : Int → Sl → Int → Sl → HP) (Kp : PK) (N1 : Fr → HP) 
noncomputable def c100 : Cx := ⟨Tryz.prog, ann100, ord100, none, code100, (retQ Tryz.prog Tryz.f100.results.toList z100 (kv100 K)), Kp⟩
abbrev mk100_5 (x4 : Addr) (x14 x77 : Sl) (x78 x15 x79 : Int) : Fr := ([nO, nO, nO, nO, vP x4, nO, nO, nO, nO, nO, nO, nO, nO, nO, vS x14, vI x15, nO, nO, nO, nO, nO, nO, nO, nO, nO, nO, nO, nO, nO, nO, nO, nO, nO, nO, nO, nO, nO, nO, nO, nO, nO, nO, nO, nO, nO, nO, nO, nO, nO, nO, nO, nO, nO, nO, nO, nO, nO, nO, nO, nO, nO, nO, nO, nO, nO, nO, nO, nO, nO, nO, nO, nO, nO, nO, nO, nO, nO, vS x77, vI x78, vI x79]++nn 12)
def L100_5 (x4 : Addr) (x14 x77 : Sl) (x78 x15 x79 : Int) : HP := semL (c100 K Kp) 2024 [1, 1, 1, 1, 1, 1, 1, 1, 0, 1, 0] [] (mk100_5 x4 x14 x77 x78 x15 x79)
def J100_4 (x2 x3 x4 : Addr) (x8 : Sl) : HP := semJ (c100 K Kp) [1, 1, 1, 1, 1, 1] [] ([nO, nO, vP x2, vP x3, vP x4, nO, nO, nO, vS x8]++nn 83)
def J100_3 (x2 x3 x4 : Addr) (x8 : Sl) : HP := semJ (c100 K Kp) [1, 1, 1, 1, 1] [] ([nO, nO, vP x2, vP x3, vP x4, nO, nO, nO, vS x8]++nn 83)
abbrev mk100_6 (x2 x3 x4 : Addr) (x33 : Sl) (x34 : Int) (x8 : Sl) (x35 : Int) : Fr := ([nO, nO, vP x2, vP x3, vP x4, nO, nO, nO, vS x8, nO, nO, nO, nO, nO, nO, nO, nO, nO, nO, nO, nO, nO, nO, nO, nO, nO, nO, nO, nO, nO, nO, nO, nO, vS x33, vI x34, vI x35]++nn 56)
def J100_7 (x2 x3 x4 : Addr) (x8 : Sl) (x9 : Int) (x11 : Addr) (x12 x33 : Sl) (x34 x35 : Int) : HP := semJ (c100 K Kp) [1, 1, 1, 1, 0, 1, 0, 0, 1, 1, 0, 0, 1, 1] [N1] ([nO, nO, vP x2, vP x3, vP x4, nO, nO, nO, vS x8, vI x9, nO, vP x11, vS x12, nO, nO, nO, nO, nO, nO, nO, nO, nO, nO, nO, nO, nO, nO, nO, nO, nO, nO, nO, nO, vS x33, vI x34, vI x35]++nn 56)
def L100_6 (x2 x3 x4 : Addr) (x33 : Sl) (x34 : Int) (x8 : Sl) (x35 : Int) : HP := semL (c100 K Kp) 2009 [1, 1, 1, 1, 0, 1, 0] [] (mk100_6 x2 x3 x4 x33 x34 x8 x35)
def J100_2 (x2 x3 x4 : Addr) : HP := semJ (c100 K Kp) [1, 1, 1] [] ([nO, nO, vP x2, vP x3, vP x4]++nn 87)
def J100_1 (x2 x3 x4 : Addr) : HP := semJ (c100 K Kp) [1, 1] [] ([nO, nO, vP x2, vP x3, vP x4]++nn 87)
variable {K Kp N1} {x2 x3 x4 x11 : Addr} {x8 x12 x33 x14 x77 : Sl} {x9 x34 x35 x78 : Int} {h : Hp}
theorem L100_5.rule : LR2 (L100_5 K Kp x4 x14 x77 x78) (mk100_5 x4 x14 x77 x78) fun N1 (x15 : Int) (x79 : Int) h =>
  (If (decide (x79 < x78)) (
    Ix x77.a x77.n 1 x79 fun a81 =>
    Ld h a81 mI fun t82 =>
    Wr .i64 (x15 + t82) fun t85 =>
    Wr .i64 (x79 + 1) fun t86 =>
    N1 (mk100_5 x4 x14 x77 x78 t85 t86) h) (
    If (decide (x15 > 4194304)) (
      Fn99 3 1 h (fun t89_0 t89_1 t89_2 h1 =>
        SY37 h1 x4 t89_0 t89_1 t89_2 fun h2 =>
        LY37 h2 x4 fun r0_0 r0_1 r0_2 =>
        K r0_0 r0_1 r0_2 (⟨none, 0, 0⟩ : Sl) h2) Kp) (
      SY37 h x4 0 (⟨none, 0, 0⟩ : Sl) 0 fun h1 =>
      LY37 h1 x4 fun r0_0 r0_1 r0_2 =>
      K r0_0 r0_1 r0_2 x14 h1))) :=
  loop2 (fun _ _ _ => rfl) fun _ _ _ _ => by kernel_rfl
theorem J100_4.of (H :
  LY29 h x2 fun t73_0 t73_1 t73_2 t73_3 t73_4 t73_5 t73_6 =>
  LY33 h x3 fun t74_0 t74_1 t74_2 t74_3 t74_4 t74_5 =>
  Fn133 t73_0 t73_1 t73_2 t73_3 t73_4 t73_5 t73_6 t74_0 t74_1 t74_2 t74_3 t74_4 t74_5 x8 h (fun t76 h1 =>
    L100_5 K Kp x4 t76 t76 (t76.n : Int) 0 0 h1) Kp) :
  J100_4 K Kp x2 x3 x4 x8 h := jof H (by kernel_rfl)
theorem J100_3.of (H :
  Ld h (x2.add 2) mI fun t65 =>
  If (t65 == 20) (
    LY33 h x3 fun t67_0 t67_1 t67_2 t67_3 t67_4 t67_5 =>
    Fn132 t67_0 t67_1 t67_2 t67_3 t67_4 t67_5 h (fun t68_0 t68_1 t68_2 h1 =>
      New h1 zY37 Y37 fun a13 h2 =>
      SY37 h2 a13 t68_0 t68_1 t68_2 fun h3 =>
      Ld h3 a13 mI fun t70 =>
      If (t70 != 0) (
        LY37 h3 a13 fun t72_0 t72_1 t72_2 =>
        SY37 h3 x4 t72_0 t72_1 t72_2 fun h4 =>
        LY37 h4 x4 fun r0_0 r0_1 r0_2 =>
        K r0_0 r0_1 r0_2 (⟨none, 0, 0⟩ : Sl) h4) (
        J100_4 K Kp x2 x3 x4 x8 h3)) Kp) (
    J100_4 K Kp x2 x3 x4 x8 h)) :
  J100_3 K Kp x2 x3 x4 x8 h := jof H (by kernel_rfl)
theorem J100_7.of (H :
  Ld h x11 mI fun t49 =>
  If (t49 != 0) (
    New h #[(.int .i64 x9)] Y6 fun a52 h1 =>
    Ld h1 (x11.add 1) Sl.v fun t54 =>
    Ap h1 Y6 #[(.int .i64 0)] 1 8 (⟨some a52, 1, 1⟩ : Sl) t54.n (rd h1 t54.a (t54.n * 1)) fun t55 h2 =>
    St h2 (x11.add 1) (Sl.v t55) fun h3 =>
    LY37 h3 x11 fun t57_0 t57_1 t57_2 =>
    SY37 h3 x4 t57_0 t57_1 t57_2 fun h4 =>
    LY37 h4 x4 fun r0_0 r0_1 r0_2 =>
    K r0_0 r0_1 r0_2 (⟨none, 0, 0⟩ : Sl) h4) (
    New h #[(Sl.v x12)] Y35 fun a60 h1 =>
    Ap h1 Y35 #[(.slice none 0 0)] 1 24 x8 1 (rd h1 (some a60) (1 * 1)) fun t61 h2 =>
    Wr .i64 (x35 + 1) fun t62 =>
    N1 (mk100_6 x2 x3 x4 x33 x34 t61 t62) h2)) :
  J100_7 K Kp N1 x2 x3 x4 x8 x9 x11 x12 x33 x34 x35 h := jof H (by kernel_rfl)
theorem L100_6.rule : LR2 (L100_6 K Kp x2 x3 x4 x33 x34) (mk100_6 x2 x3 x4 x33 x34) fun N1 (x8 : Sl) (x35 : Int) h =>
  (If (decide (x35 < x34)) (
    Ix x33.a x33.n 6 x35 fun a38 =>
    LY33 h a38 fun t39_0 t39_1 t39_2 t39_3 t39_4 t39_5 =>
    New h zY33 Y33 fun a10 h1 =>
    SY33 h1 a10 t39_0 t39_1 t39_2 t39_3 t39_4 t39_5 fun h2 =>
    LY29 h2 x2 fun t41_0 t41_1 t41_2 t41_3 t41_4 t41_5 t41_6 =>
    LY33 h2 a10 fun t44_0 t44_1 t44_2 t44_3 t44_4 t44_5 =>
    (
      Fn110 t41_0 t41_1 t41_2 t41_3 t41_4 t41_5 t41_6 x35 h2 (fun t43_0 t43_1 t43_2 t43_3 t43_4 t43_5 t43_6 h3 =>
        Keep h2 h3 a10 6 <|
        (
          Fn100 t43_0 t43_1 t43_2 t43_3 t43_4 t43_5 t43_6 t44_0 t44_1 t44_2 t44_3 t44_4 t44_5 h3 (fun t45_0_0 t45_0_1 t45_0_2 t45_1 h4 =>
            New h4 zY37 Y37 fun a11 h5 =>
            Keep h4 h5 a10 6 <|
            Keep h4 h5 x2 7 <|
            SY37 h5 a11 t45_0_0 t45_0_1 t45_0_2 fun h6 =>
            J100_7 K Kp N1 x2 x3 x4 x8 x35 a11 t45_1 x33 x34 x35 h6) Kp) ∧ (
          New h3 zY37 Y37 fun a11 h4 =>
          Keep h3 h4 a10 6 <|
          Keep h3 h4 x2 7 <|
          Fn100 t43_0 t43_1 t43_2 t43_3 t43_4 t43_5 t43_6 t44_0 t44_1 t44_2 t44_3 t44_4 t44_5 h4 (fun t45_0_0 t45_0_1 t45_0_2 t45_1 h5 =>
            SY37 h5 a11 t45_0_0 t45_0_1 t45_0_2 fun h6 =>
            J100_7 K Kp N1 x2 x3 x4 x8 x35 a11 t45_1 x33 x34 x35 h6) Kp)) Kp) ∧ (
      New h2 zY37 Y37 fun a11 h3 =>
      Keep h2 h3 a10 6 <|
      Keep h2 h3 x2 7 <|
      Fn110 t41_0 t41_1 t41_2 t41_3 t41_4 t41_5 t41_6 x35 h3 (fun t43_0 t43_1 t43_2 t43_3 t43_4 t43_5 t43_6 h4 =>
        Keep h3 h4 a10 6 <|
        Fn100 t43_0 t43_1 t43_2 t43_3 t43_4 t43_5 t43_6 t44_0 t44_1 t44_2 t44_3 t44_4 t44_5 h4 (fun t45_0_0 t45_0_1 t45_0_2 t45_1 h5 =>
          SY37 h5 a11 t45_0_0 t45_0_1 t45_0_2 fun h6 =>
          J100_7 K Kp N1 x2 x3 x4 x8 x35 a11 t45_1 x33 x34 x35 h6) Kp) Kp)) (
    J100_3 K Kp x2 x3 x4 x8 h)) :=
  loop2 (fun _ _ _ => rfl) fun _ _ _ _ => by kernel_rfl
theorem J100_2.of (H :
  LY33 h x3 fun t32_0 t32_1 t32_2 t32_3 t32_4 t32_5 =>
  Fn111 t32_0 t32_1 t32_2 t32_3 t32_4 t32_5 h (fun t33 h1 =>
    L100_6 K Kp x2 x3 x4 t33 (t33.n : Int) (⟨none, 0, 0⟩ : Sl) 0 h1) Kp) :
  J100_2 K Kp x2 x3 x4 h := jof H (by kernel_rfl)
theorem J100_1.of (H :
  LY29 h x2 fun t25_0 t25_1 t25_2 t25_3 t25_4 t25_5 t25_6 =>
  LY33 h x3 fun t26_0 t26_1 t26_2 t26_3 t26_4 t26_5 =>
  Fn131 t25_0 t25_1 t25_2 t25_3 t25_4 t25_5 t25_6 t26_0 t26_1 t26_2 t26_3 t26_4 t26_5 h (fun t27_0 t27_1 t27_2 h1 =>
    New h1 zY37 Y37 fun a7 h2 =>
    SY37 h2 a7 t27_0 t27_1 t27_2 fun h3 =>
    Ld h3 a7 mI fun t29 =>
    If (t29 != 0) (
      LY37 h3 a7 fun t31_0 t31_1 t31_2 =>
      SY37 h3 x4 t31_0 t31_1 t31_2 fun h4 =>
      LY37 h4 x4 fun r0_0 r0_1 r0_2 =>
      K r0_0 r0_1 r0_2 (⟨none, 0, 0⟩ : Sl) h4) (
      J100_2 K Kp x2 x3 x4 h3)) Kp) :
  J100_1 K Kp x2 x3 x4 h := jof H (by kernel_rfl)
theorem Fn100.of {f_0 : ByteArray} {f_1 : Bool} {f_2 f_3 f_4 f_5 : Int} {f_6 : Sl} {d_0 d_1 d_2 : Int} {d_3 d_4 d_5 : Sl} (H :
  NY29 h f_0 f_1 f_2 f_3 f_4 f_5 f_6 fun a2 h1 =>
  NY33 h1 d_0 d_1 d_2 d_3 d_4 d_5 fun a3 h2 =>
  New h2 zY37 Y37 fun a4 h3 =>
  LY29 h3 a2 fun t18_0 t18_1 t18_2 t18_3 t18_4 t18_5 t18_6 =>
  LY33 h3 a3 fun t19_0 t19_1 t19_2 t19_3 t19_4 t19_5 =>
  Fn130 t18_0 t18_1 t18_2 t18_3 t18_4 t18_5 t18_6 t19_0 t19_1 t19_2 t19_3 t19_4 t19_5 h3 (fun t20_0 t20_1 t20_2 h4 =>
    New h4 zY37 Y37 fun a6 h5 =>
    SY37 h5 a6 t20_0 t20_1 t20_2 fun h6 =>
    Ld h6 a6 mI fun t22 =>
    If (t22 != 0) (
      LY37 h6 a6 fun t24_0 t24_1 t24_2 =>
      SY37 h6 a4 t24_0 t24_1 t24_2 fun h7 =>
      LY37 h7 a4 fun r0_0 r0_1 r0_2 =>
      K r0_0 r0_1 r0_2 (⟨none, 0, 0⟩ : Sl) h7) (
      J100_1 K Kp a2 a3 a4 h6)) Kp) :
  Fn100 f_0 f_1 f_2 f_3 f_4 f_5 f_6 d_0 d_1 d_2 d_3 d_4 d_5 h K Kp := fnof (ann := ann100) (o := ord100) (zs := z100) (Kv := kv100 K) Tryz.func100 (by kernel_rfl) H (by kernel_rfl) (by kernel_rfl)
end
section
noncomputable def code101 : Code := Tryz.f101.body.getD .skip
def ann101 : Ann := [(3400005, [3, 4]), (3700008, [3, 9])]
def ord101 : OrdT := []
def z101 : List Value := [(.nilIface)]
def kv101 (K : Value → HP) : Value → HP := fun v h => rA v fun r0 => K r0 h
variable (K : Value → HP) (Kp : PK) 
noncomputable def c101 : Cx := ⟨Tryz.prog, ann101, ord101, none, code101, (retQ Tryz.prog Tryz.f101.results.toList z101 (kv101 K)), Kp⟩
def J101_2 (x3 : Int) (x9 : Bool) : HP := semJ (c101 K Kp) [1, 0, 1, 0, 1, 1, 1] [] ([nO, nO, nO, vI x3, nO, nO, nO, nO, nO, some (.bool x9)]++nn 22)
def J101_1 (x3 : Int) (x4 : Bool) : HP := semJ (c101 K Kp) [1, 0, 1, 0, 1] [] ([nO, nO, nO, vI x3, some (.bool x4)]++nn 27)
variable {K Kp} {x3 : Int} {x9 x4 : Bool} {h : Hp}
theorem J101_2.of (H :
  If x9 (
    K (.iface Y193 (.agg #[])) h) (
    If (x3 == 17) (
      K (.iface Y194 (.agg #[])) h) (
      If (x3 == 18) (
        K (.iface Y195 (.agg #[])) h) (
        If (x3 == 19) (
          K (.iface Y196 (.agg #[])) h) (
          If (x3 == 20) (
            K (.iface Y197 (.agg #[])) h) (
            K (.iface Y198 (.agg #[])) h)))))) :
  J101_2 K Kp x3 x9 h := jof H (by kernel_rfl)
theorem J101_1.of (H :
  If x4 (
    K (.iface Y192 (.agg #[])) h) (
    If (x3 == 15) (
      J101_2 K Kp x3 (x3 == 15) h) (
      J101_2 K Kp x3 (x3 == 16) h))) :
  J101_1 K Kp x3 x4 h := jof H (by kernel_rfl)
theorem Fn101.of {k : Int} (H :
  If (k == 12) (
    J101_1 K Kp k (k == 12) h) (
    J101_1 K Kp k (k == 13) h)) :
  Fn101 k h K Kp := fnof (ann := ann101) (o := ord101) (zs := z101) (Kv := kv101 K) Tryz.func101 (by kernel_rfl) H (by kernel_rfl) (by kernel_rfl)
end
section
def ann200 : Ann := []
def ord200 : OrdT := []
def z200 : List Value := [(.slice none 0 0)]
def kv200 (K : Sl → HP) : Value → HP := fun v h => rS v fun r0 => K r0 h
variable (K : Sl → HP) (Kp : PK) 
variable {K Kp} {h : Hp}
theorem Fn200.of {s : Sl} (H :
  If (Option.isNone s.a) (
    K (⟨none, 0, 0⟩ : Sl) h) (
    New h #[] Y29 fun a5 h1 =>
    Ap h1 Y29 zY29 7 80 (⟨some a5, 0, 0⟩ : Sl) s.n (rd h1 s.a (s.n * 7)) fun t7 h2 =>
    K t7 h2)) :
  Fn200 s h K Kp := fnof (ann := ann200) (o := ord200) (zs := z200) (Kv := kv200 K) Tryz.func102 (by kernel_rfl) H (by kernel_rfl) (by kernel_rfl)
end
section
def ann201 : Ann := []
def ord201 : OrdT := []
def z201 : List Value := [(.slice none 0 0)]
def kv201 (K : Sl → HP) : Value → HP := fun v h => rS v fun r0 => K r0 h
variable (K : Sl → HP) (Kp : PK) 
variable {K Kp} {h : Hp}
theorem Fn201.of {s : Sl} (H :
  If (Option.isNone s.a) (
    K (⟨none, 0, 0⟩ : Sl) h) (
    New h #[] Y96 fun a5 h1 =>
    Ap h1 Y96 #[(.slice none 0 0)] 1 24 (⟨some a5, 0, 0⟩ : Sl) s.n (rd h1 s.a (s.n * 1)) fun t7 h2 =>
    K t7 h2)) :
  Fn201 s h K Kp := fnof (ann := ann201) (o := ord201) (zs := z201) (Kv := kv201 K) Tryz.func103 (by kernel_rfl) H (by kernel_rfl) (by kernel_rfl)
end
section
noncomputable def code102 : Code := Tryz.f104.body.getD .skip
def ann102 : Ann := [(2003, [3, 6, 7, 8])]
def ord102 : OrdT := []
def z102 : List Value := [(.slice none 0 0)]
def kv102 (K : Sl → HP) : Value → HP := fun v h => rS v fun r0 => K r0 h
variable (K : Sl → HP) (Kp : PK) 
noncomputable def c102 : Cx := ⟨Tryz.prog, ann102, ord102, none, code102, (retQ Tryz.prog Tryz.f104.results.toList z102 (kv102 K)), Kp⟩
abbrev mk102_1 (x6 : Sl) (x7 : Int) (x3 : Sl) (x8 : Int) : Fr := ([nO, nO, nO, vS x3, nO, nO, vS x6, vI x7, vI x8]++nn 10)
def L102_1 (x6 : Sl) (x7 : Int) (x3 : Sl) (x8 : Int) : HP := semL (c102 K Kp) 2003 [1, 1, 0, 1, 0] [] (mk102_1 x6 x7 x3 x8)
variable {K Kp} {x6 : Sl} {x7 : Int} {h : Hp}
theorem L102_1.rule : LR2 (L102_1 K Kp x6 x7) (mk102_1 x6 x7) fun N1 (x3 : Sl) (x8 : Int) h =>
  (If (decide (x8 < x7)) (
    Ix x6.a x6.n 6 x8 fun a10 =>
    LY33 h a10 fun t11_0 t11_1 t11_2 t11_3 t11_4 t11_5 =>
    New h zY33 Y33 fun a5 h1 =>
    SY33 h1 a5 t11_0 t11_1 t11_2 t11_3 t11_4 t11_5 fun h2 =>
    LY33 h2 a5 fun t13_0 t13_1 t13_2 t13_3 t13_4 t13_5 =>
    Fn52 t13_0 t13_1 t13_2 t13_3 t13_4 t13_5 h2 (fun t14_0 t14_1 t14_2 t14_3 t14_4 t14_5 h3 =>
      New h3 #[(.int .i64 t14_0), (.int .i64 t14_1), (.int .i64 t14_2), (Sl.v t14_3), (Sl.v t14_4), (Sl.v t14_5)] Y33 fun a15 h4 =>
      Ap h4 Y33 zY33 6 96 x3 1 (rd h4 (some a15) (1 * 6)) fun t16 h5 =>
      Wr .i64 (x8 + 1) fun t17 =>
      N1 (mk102_1 x6 x7 t16 t17) h5) Kp) (
    K x3 h)) :=
  loop2 (fun _ _ _ => rfl) fun _ _ _ _ => by kernel_rfl
theorem Fn102.of {l : Sl} (H :
  L102_1 K Kp l (l.n : Int) (⟨none, 0, 0⟩ : Sl) 0 h) :
  Fn102 l h K Kp := fnof (ann := ann102) (o := ord102) (zs := z102) (Kv := kv102 K) Tryz.func104 (by kernel_rfl) H (by kernel_rfl) (by kernel_rfl)
end
section
noncomputable def code103 : Code := Tryz.f105.body.getD .skip
def ann103 : Ann := [(2002, [0, 1, 3, 11, 12]), (46006, [0, 1, 3, 4, 5, 11, 12, 30])]
def ord103 : OrdT := []
def z103 : List Value := []
def kv103 (K : HP) : Value → HP := fun _ h => K h
variable (K : HP) (Kp : PK) (N1 : Fr → HP) 
noncomputable def c103 : Cx := ⟨Tryz.prog, ann103, ord103, none, code103, (retQ Tryz.prog Tryz.f105.results.toList z103 (kv103 K)), Kp⟩
abbrev mk103_1 (x0 : Value) (x1 : Addr) (x11 x3 x12 : Int) : Fr := ([some x0, vP x1, nO, vI x3, nO, nO, nO, nO, nO, nO, nO, vI x11, vI x12]++nn 26)
def J103_2 (x0 : Value) (x1 : Addr) (x3 x4 : Int) (x5 : Addr) (x11 x12 : Int) (x30 : Bool) : HP := semR (c103 K Kp) [1, 1, 0, 0, 1, 1, 0, 0, 1, 1, 1, 0] [N1] 6 [6, 7, 8, 9, 10, 11, 12] ([some x0, vP x1, nO, vI x3, vI x4, vP x5, nO, nO, nO, nO, nO, vI x11, vI x12, nO, nO, nO, nO, nO, nO, nO, nO, nO, nO, nO, nO, nO, nO, nO, nO, nO, some (.bool x30)]++nn 8)
def L103_1 (x0 : Value) (x1 : Addr) (x11 x3 x12 : Int) : HP := semL (c103 K Kp) 2002 [1, 1, 0] [] (mk103_1 x0 x1 x11 x3 x12)
variable {K Kp N1} {x0 : Value} {x1 x5 : Addr} {x3 x4 x11 x12 : Int} {x30 : Bool} {h : Hp}
theorem J103_2.of (H :
  If x30 (
    K  h) (
    LY66 h x5 fun t34_0 t34_1 t34_2 t34_3 =>
    CallV Tryz.prog x0 [(.int .i64 x4), (.agg #[(.bool t34_0), (.int .i64 t34_1), (.string t34_2), (Sl.v t34_3)])] h (fun r h1 => ∃ t35 : Bool, r = (.bool t35) ∧
      If (!t35) (
        K  h1) (
        Wr .i64 (x12 + 1) fun t38 =>
        N1 (mk103_1 x0 x1 x11 x3 t38) h1)) Kp)) :
  J103_2 K Kp N1 x0 x1 x3 x4 x5 x11 x12 x30 h := jof H (by kernel_rfl)
theorem L103_1.rule : LR2 (L103_1 K Kp x0 x1 x11) (mk103_1 x0 x1 x11) fun N1 (x3 : Int) (x12 : Int) h =>
  (If (decide (x12 < x11)) (
    Ld h x1 .pointer fun t16 =>
    Fn64 t16 x12 h (fun t18_0_0 t18_0_1 t18_0_2 t18_0_3 t18_1 t18_2 h1 =>
      New h1 zY66 Y66 fun a5 h2 =>
      SY66 h2 a5 t18_0_0 t18_0_1 t18_0_2 t18_0_3 fun h3 =>
      Wr .i64 (x3 - t18_1) fun t24 =>
      If (t18_2 != 0) (
        J103_2 K Kp N1 x0 x1 t24 x12 a5 x11 x12 true h3) (
        J103_2 K Kp N1 x0 x1 t24 x12 a5 x11 x12 (decide (t24 < 0)) h3)) Kp) (
    K  h)) :=
  loop2 (fun _ _ _ => rfl) fun _ _ _ _ => by kernel_rfl
theorem Fn103.of {yield : Value} {c1 : Addr} (H :
  Ld h c1 .pointer fun t8 =>
  NN t8 fun p9 =>
  Ld h (p9.add 14) mI fun t11 =>
  L103_1 K Kp yield c1 t11 4194304 0 h) :
  Fn103 yield c1 h K Kp := fnof (ann := ann103) (o := ord103) (zs := z103) (Kv := kv103 K) Tryz.func105 (by kernel_rfl) H (by kernel_rfl) (by kernel_rfl)
end
section
noncomputable def code104 : Code := Tryz.f106.body.getD .skip
def ann104 : Ann := [(2003, [3, 6, 7, 8])]
def ord104 : OrdT := []
def z104 : List Value := [(.slice none 0 0)]
def kv104 (K : Sl → HP) : Value → HP := fun v h => rS v fun r0 => K r0 h
variable (K : Sl → HP) (Kp : PK) 
noncomputable def c104 : Cx := ⟨Tryz.prog, ann104, ord104, none, code104, (retQ Tryz.prog Tryz.f106.results.toList z104 (kv104 K)), Kp⟩
abbrev mk104_1 (x6 : Sl) (x7 : Int) (x3 : Sl) (x8 : Int) : Fr := ([nO, nO, nO, vS x3, nO, nO, vS x6, vI x7, vI x8]++nn 10)
def L104_1 (x6 : Sl) (x7 : Int) (x3 : Sl) (x8 : Int) : HP := semL (c104 K Kp) 2003 [1, 1, 0, 1, 0] [] (mk104_1 x6 x7 x3 x8)
variable {K Kp} {x6 : Sl} {x7 : Int} {h : Hp}
theorem L104_1.rule : LR2 (L104_1 K Kp x6 x7) (mk104_1 x6 x7) fun N1 (x3 : Sl) (x8 : Int) h =>
  (If (decide (x8 < x7)) (
    Ix x6.a x6.n 6 x8 fun a10 =>
    LY33 h a10 fun t11_0 t11_1 t11_2 t11_3 t11_4 t11_5 =>
    New h zY33 Y33 fun a5 h1 =>
    SY33 h1 a5 t11_0 t11_1 t11_2 t11_3 t11_4 t11_5 fun h2 =>
    LY33 h2 a5 fun t13_0 t13_1 t13_2 t13_3 t13_4 t13_5 =>
    Fn56 t13_0 t13_1 t13_2 t13_3 t13_4 t13_5 h2 (fun t14_0 t14_1 t14_2 t14_3 t14_4 t14_5 h3 =>
      New h3 #[(.int .i64 t14_0), (.int .i64 t14_1), (.int .i64 t14_2), (Sl.v t14_3), (Sl.v t14_4), (Sl.v t14_5)] Y33 fun a15 h4 =>
      Ap h4 Y33 zY33 6 96 x3 1 (rd h4 (some a15) (1 * 6)) fun t16 h5 =>
      Wr .i64 (x8 + 1) fun t17 =>
      N1 (mk104_1 x6 x7 t16 t17) h5) Kp) (
    K x3 h)) :=
  loop2 (fun _ _ _ => rfl) fun _ _ _ _ => by kernel_rfl
theorem Fn104.of {l : Sl} (H :
  L104_1 K Kp l (l.n : Int) (⟨none, 0, 0⟩ : Sl) 0 h) :
  Fn104 l h K Kp := fnof (ann := ann104) (o := ord104) (zs := z104) (Kv := kv104 K) Tryz.func106 (by kernel_rfl) H (by kernel_rfl) (by kernel_rfl)
end
section
noncomputable def code105 : Code := Tryz.f107.body.getD .skip
def ann105 : Ann := [(2000005, [2, 4])]
def ord105 : OrdT := []
def z105 : List Value := [(.bool false)]
def kv105 (K : Bool → HP) : Value → HP := fun v h => rB v fun r0 => K r0 h
variable (K : Bool → HP) (Kp : PK) 
noncomputable def c105 : Cx := ⟨Tryz.prog, ann105, ord105, none, code105, (retQ Tryz.prog Tryz.f107.results.toList z105 (kv105 K)), Kp⟩
def J105_1 (x2 : Int) (x4 : Addr) : HP := semJ (c105 K Kp) [1, 1, 1] [] ([nO, nO, vI x2, nO, vP x4]++nn 32)
variable {K Kp} {x2 : Int} {x4 : Addr} {h : Hp}
theorem J105_1.of (H :
  Ld h (x4.add 3) Sl.v fun t28 =>
  Ix t28.a t28.n 1 0 fun a29 =>
  Ld h a29 Sl.v fun t30 =>
  Fn134 t30 x2 h (fun t32_0 t32_1 h1 =>
    K (!t32_0) h1) Kp) :
  J105_1 K Kp x2 x4 h := jof H (by kernel_rfl)
theorem Fn105.of {f_0 : ByteArray} {f_1 : Bool} {f_2 f_3 f_4 f_5 : Int} {f_6 : Sl} {d_0 d_1 d_2 : Int} {d_3 d_4 d_5 : Sl} {r : Int} (H :
  NY29 h f_0 f_1 f_2 f_3 f_4 f_5 f_6 fun a3 h1 =>
  NY33 h1 d_0 d_1 d_2 d_3 d_4 d_5 fun a4 h2 =>
  Ld h2 (a3.add 2) mI fun t11 =>
  If (t11 == 1) (
    K true h2) (
    Ld h2 (a3.add 2) mI fun t15 =>
    Fn114 t15 h2 (fun t16 h3 =>
      If (!t16) (
        K false h3) (
        Ld h3 (a4.add 3) Sl.v fun t20 =>
        Ix t20.a t20.n 1 0 fun a21 =>
        Ld h3 a21 Sl.v fun t22 =>
        If ((t22.n : Int) == 0) (
          K false h3) (
          J105_1 K Kp r a4 h3))) Kp)) :
  Fn105 f_0 f_1 f_2 f_3 f_4 f_5 f_6 d_0 d_1 d_2 d_3 d_4 d_5 r h K Kp := fnof (ann := ann105) (o := ord105) (zs := z105) (Kv := kv105 K) Tryz.func107 (by kernel_rfl) H (by kernel_rfl) (by kernel_rfl)
end
end Go.Proofs.YtcgdhhchjgbhnaaGreatDoor
set_option maxRecDepth 100000
set_option maxHeartbeats 200000
/- What the functions do, printed by program (gen.py) in the words of ShCore; each text is held against the loaded program by the kernel. -/
namespace Go.Proofs.YtcgdhhchjgbhnaaGreatDoor
open Go Go.Sh
section
def ann109 : Ann := []
def ord109 : OrdT := []
def z109 : List Value := [(.agg #[(.bool false), (.int .i64 0), (.string (bs [])), (.slice none 0 0)])]
def kv109 (K : Bool → Int → ByteArray → Sl → HP) : Value → HP := fun v h => rG v fun cs0 => rB (cs0.getD 0 undef) fun r0_0 => rI (cs0.getD 1 undef) fun r0_1 => rT (cs0.getD 2 undef) fun r0_2 => rS (cs0.getD 3 undef) fun r0_3 => K r0_0 r0_1 r0_2 r0_3 h
variable (K : Bool → Int → ByteArray → Sl → HP) (Kp : PK) 
variable {K Kp} {h : Hp}
theorem Fn109.of {a : Option Addr} {i : Int} {left : Option Addr} (H :
  New h zY66 Y66 fun a6 h1 =>
  NN a fun p9 =>
  Ld h1 (p9.add 13) mI fun t11 =>
  Wr .i64 (t11 + i) fun t13 =>
  Fn135 a t13 left h1 (fun t15_0 t15_1 t15_2 t15_3 h2 =>
    SY66 h2 a6 t15_0 t15_1 t15_2 t15_3 fun h3 =>
    LY66 h3 a6 fun r0_0 r0_1 r0_2 r0_3 =>
    K r0_0 r0_1 r0_2 r0_3 h3) Kp) :
  Fn109 a i left h K Kp := fnof (ann := ann109) (o := ord109) (zs := z109) (Kv := kv109 K) Tryz.func111 (by kernel_rfl) H (by kernel_rfl) (by kernel_rfl)
end
section
noncomputable def code110 : Code := Tryz.f112.body.getD .skip
def ann110 : Ann := [(2000003, [1, 2, 4])]
def ord110 : OrdT := []
def z110 : List Value := [(.agg #[(.string (bs [])), (.bool false), (.int .i64 0), (.int .i64 0), (.int .i64 0), (.int .i64 0), (.slice none 0 0)])]
def kv110 (K : ByteArray → Bool → Int → Int → Int → Int → Sl → HP) : Value → HP := fun v h => rG v fun cs0 => rT (cs0.getD 0 undef) fun r0_0 => rB (cs0.getD 1 undef) fun r0_1 => rI (cs0.getD 2 undef) fun r0_2 => rI (cs0.getD 3 undef) fun r0_3 => rI (cs0.getD 4 undef) fun r0_4 => rI (cs0.getD 5 undef) fun r0_5 => rS (cs0.getD 6 undef) fun r0_6 => K r0_0 r0_1 r0_2 r0_3 r0_4 r0_5 r0_6 h
variable (K : ByteArray → Bool → Int → Int → Int → Int → Sl → HP) (Kp : PK) 
noncomputable def c110 : Cx := ⟨Tryz.prog, ann110, ord110, none, code110, (retQ Tryz.prog Tryz.f112.results.toList z110 (kv110 K)), Kp⟩
def J110_1 (x1 : Int) (x2 x4 : Addr) : HP := semJ (c110 K Kp) [1, 1] [] ([nO, vI x1, vP x2, nO, vP x4]++nn 25)
variable {K Kp} {x1 : Int} {x2 x4 : Addr} {h : Hp}
theorem J110_1.of (H :
  Ld h (x2.add 2) mI fun t17 =>
  If (t17 == 20) (
    Ld h ((x2.add 2).add 4) Sl.v fun t21 =>
    Ix t21.a t21.n 7 0 fun a22 =>
    LY29 h a22 fun t23_0 t23_1 t23_2 t23_3 t23_4 t23_5 t23_6 =>
    SY29 h x4 t23_0 t23_1 t23_2 t23_3 t23_4 t23_5 t23_6 fun h1 =>
    LY29 h1 x4 fun r0_0 r0_1 r0_2 r0_3 r0_4 r0_5 r0_6 =>
    K r0_0 r0_1 r0_2 r0_3 r0_4 r0_5 r0_6 h1) (
    Ld h ((x2.add 2).add 4) Sl.v fun t26 =>
    Ix t26.a t26.n 7 x1 fun a28 =>
    LY29 h a28 fun t29_0 t29_1 t29_2 t29_3 t29_4 t29_5 t29_6 =>
    SY29 h x4 t29_0 t29_1 t29_2 t29_3 t29_4 t29_5 t29_6 fun h1 =>
    LY29 h1 x4 fun r0_0 r0_1 r0_2 r0_3 r0_4 r0_5 r0_6 =>
    K r0_0 r0_1 r0_2 r0_3 r0_4 r0_5 r0_6 h1)) :
  J110_1 K Kp x1 x2 x4 h := jof H (by kernel_rfl)
theorem Fn110.of {f_0 : ByteArray} {f_1 : Bool} {f_2 f_3 f_4 f_5 : Int} {f_6 : Sl} {k : Int} (H :
  NY29 h f_0 f_1 f_2 f_3 f_4 f_5 f_6 fun a2 h1 =>
  New h1 zY29 Y29 fun a4 h2 =>
  Ld h2 (a2.add 2) mI fun t7 =>
  If (t7 == 20) (
    If (k == 0) (
      SY29 h2 a4 (bs [101, 110, 100, 115]) false 5 0 0 0 (⟨none, 0, 0⟩ : Sl) fun h3 =>
      LY29 h3 a4 fun r0_0 r0_1 r0_2 r0_3 r0_4 r0_5 r0_6 =>
      K r0_0 r0_1 r0_2 r0_3 r0_4 r0_5 r0_6 h3) (
      J110_1 K Kp k a2 a4 h2)) (
    J110_1 K Kp k a2 a4 h2)) :
  Fn110 f_0 f_1 f_2 f_3 f_4 f_5 f_6 k h K Kp := fnof (ann := ann110) (o := ord110) (zs := z110) (Kv := kv110 K) Tryz.func112 (by kernel_rfl) H (by kernel_rfl) (by kernel_rfl)
end
section
def ann111 : Ann := []
def ord111 : OrdT := []
def z111 : List Value := [(.slice none 0 0)]
def kv111 (K : Sl → HP) : Value → HP := fun v h => rS v fun r0 => K r0 h
variable (K : Sl → HP) (Kp : PK) 
variable {K Kp} {h : Hp}
theorem Fn111.of {d_0 d_1 d_2 : Int} {d_3 d_4 d_5 : Sl} (H :
  NY33 h d_0 d_1 d_2 d_3 d_4 d_5 fun a1 h1 =>
  Ld h1 (a1.add 5) Sl.v fun t4 =>
  If (decide ((t4.n : Int) > 0)) (
    Ld h1 (a1.add 5) Sl.v fun t8 =>
    K t8 h1) (
    Ld h1 (a1.add 4) Sl.v fun t10 =>
    K t10 h1)) :
  Fn111 d_0 d_1 d_2 d_3 d_4 d_5 h K Kp := fnof (ann := ann111) (o := ord111) (zs := z111) (Kv := kv111 K) Tryz.func113 (by kernel_rfl) H (by kernel_rfl) (by kernel_rfl)
end
section
def ann112 : Ann := []
def ord112 : OrdT := [(1, (OT.l [0, 1, 2, 3, 4, 5, 6, 7, 9, 10, 11, 12, 8, 13, 14] .fin), [0, 1, 3, 7, 15, 0, 63, 127, 255, 0, 512, 1536, 3584, 8191, 16383])]
def z112 : List Value := [(.agg #[(.slice none 0 0), (.int .i64 0), (.pointer none)])]
def kv112 (K : Sl → Int → (Option Addr) → HP) : Value → HP := fun v h => rG v fun cs0 => rS (cs0.getD 0 undef) fun r0_0 => rI (cs0.getD 1 undef) fun r0_1 => rP (cs0.getD 2 undef) fun r0_2 => K r0_0 r0_1 r0_2 h
variable (K : Sl → Int → (Option Addr) → HP) (Kp : PK) 
variable {K Kp} {h : Hp}
theorem Fn112.of {a : Option Addr} {k : Int} (H :
  New h zY167 Y167 fun a4 h1 =>
  NN a fun p6 =>
  Ld h1 ((p6.add 7).add 3) Sl.v fun t9 =>
  Ix t9.a t9.n 1 k fun a11 =>
  Ld h1 a11 Sl.v fun t12 =>
  NN a fun p15 =>
  Ld h1 (p15.add 15) .pointer fun t17 =>
  Fn136 t12 h1 (fun t13_0 t13_1 t13_2 h2 =>
    Keep h1 h2 (p15.add 15) 1 <|
    Fn137 t13_0 t13_1 t13_2 t17 h2 (fun t18_0 t18_1 t18_2 h3 =>
      SY167 h3 a4 t18_0 t18_1 t18_2 fun h4 =>
      LY167 h4 a4 fun r0_0 r0_1 r0_2 =>
      K r0_0 r0_1 r0_2 h4) Kp) Kp) :
  Fn112 a k h K Kp := fnof (ann := ann112) (o := ord112) (zs := z112) (Kv := kv112 K) Tryz.func114 (by kernel_rfl) H (by kernel_rfl) (by kernel_rfl)
end
section
def ann113 : Ann := []
def ord113 : OrdT := []
def z113 : List Value := [(.int .i64 0), (.int .i64 0)]
def kv113 (K : Int → Int → HP) : Value → HP := fun v h => rU v fun vs => rI (vs.getD 0 undef) fun r0 => rI (vs.getD 1 undef) fun r1 => K r0 r1 h
variable (K : Int → Int → HP) (Kp : PK) 
variable {K Kp} {h : Hp}
theorem Fn113.of {v_0 : Sl} {v_1 : Int} {v_2 : Option Addr} {atv width : Int} (H :
  NY167 h v_0 v_1 v_2 fun a3 h1 =>
  LY167 h1 a3 fun t12_0 t12_1 t12_2 =>
  Fn138 t12_0 t12_1 t12_2 atv width h1 (fun t15_0 t15_1 h2 =>
    If (t15_1 != 0) (
      K 0 t15_1 h2) (
      Wr .i64 ((8 : Int) * width) fun t22 =>
      Wr .i64 ((64 : Int) - t22) fun t23 =>
      Nn t23 <| Wr .u64 (t15_0 * 2 ^ (min (Int.toNat t23) (IntKind.bits .u64))) fun t26 =>
      Wr .i64 t26 fun t27 =>
      Nn t23 <| Lt (Int.fdiv t27 (2 ^ (min (Int.toNat t23) (IntKind.bits .i64)))) fun t29 =>
      K t29 0 h2)) Kp) :
  Fn113 v_0 v_1 v_2 atv width h K Kp := fnof (ann := ann113) (o := ord113) (zs := z113) (Kv := kv113 K) Tryz.func115 (by kernel_rfl) H (by kernel_rfl) (by kernel_rfl)
end
section
noncomputable def code114 : Code := Tryz.f116.body.getD .skip
def ann114 : Ann := [(41006, [0, 8])]
def ord114 : OrdT := []
def z114 : List Value := [(.bool false)]
def kv114 (K : Bool → HP) : Value → HP := fun v h => rB v fun r0 => K r0 h
variable (K : Bool → HP) (Kp : PK) 
noncomputable def c114 : Cx := ⟨Tryz.prog, ann114, ord114, none, code114, (retQ Tryz.prog Tryz.f116.results.toList z114 (kv114 K)), Kp⟩
def J114_1 (x0 : Int) (x8 : Bool) : HP := semR (c114 K Kp) [1, 0] [] 1 [6, 7, 8, 9, 10] ([vI x0, nO, nO, nO, nO, nO, nO, nO, some (.bool x8)]++nn 4)
variable {K Kp} {x0 : Int} {x8 : Bool} {h : Hp}
theorem J114_1.of (H :
  If x8 (
    K (x0 != 20) h) (
    K false h)) :
  J114_1 K Kp x0 x8 h := jof H (by kernel_rfl)
theorem Fn114.of {k : Int} (H :
  If (k != 1) (
    J114_1 K Kp k (k != 18) h) (
    J114_1 K Kp k false h)) :
  Fn114 k h K Kp := fnof (ann := ann114) (o := ord114) (zs := z114) (Kv := kv114 K) Tryz.func116 (by kernel_rfl) H (by kernel_rfl) (by kernel_rfl)
end
section
def ann115 : Ann := []
def ord115 : OrdT := []
def z115 : List Value := [(.int .u8 0), (.int .i64 0)]
def kv115 (K : Int → Int → HP) : Value → HP := fun v h => rU v fun vs => rI (vs.getD 0 undef) fun r0 => rI (vs.getD 1 undef) fun r1 => K r0 r1 h
variable (K : Int → Int → HP) (Kp : PK) 
variable {K Kp} {h : Hp}
theorem Fn115.of {v_0 : Sl} {v_1 : Int} {v_2 : Option Addr} {atv : Int} (H :
  NY167 h v_0 v_1 v_2 fun a2 h1 =>
  LY167 h1 a2 fun t6_0 t6_1 t6_2 =>
  Fn139 t6_0 t6_1 t6_2 atv 1 h1 (fun t8 h2 =>
    If (!t8) (
      K 0 2 h2) (
      LY167 h2 a2 fun t10_0 t10_1 t10_2 =>
      Fn140 t10_0 t10_1 t10_2 atv 1 h2 (fun t12 h3 =>
        Ix t12.a t12.n 1 0 fun a13 =>
        Ld h3 a13 (.int .u8) fun t14 =>
        K t14 0 h3) Kp)) Kp) :
  Fn115 v_0 v_1 v_2 atv h K Kp := fnof (ann := ann115) (o := ord115) (zs := z115) (Kv := kv115 K) Tryz.func117 (by kernel_rfl) H (by kernel_rfl) (by kernel_rfl)
end
section
noncomputable def code116 : Code := Tryz.f118.body.getD .skip
def ann116 : Ann := [(2000003, [0, 1])]
def ord116 : OrdT := [(2, (OT.l [0, 1, 2, 3, 4, 5, 6, 7, 8, 9, 10, 11, 12, 13, 14, 15, 16, 17, 18] .fin), [0, 0, 2, 6, 14, 30, 62, 127, 0, 256, 0, 1024, 3072, 7168, 15360, 31744, 65280, 255, 262143])]
def z116 : List Value := [(.int .i64 0), (.int .i64 0)]
def kv116 (K : Int → Int → HP) : Value → HP := fun v h => rU v fun vs => rI (vs.getD 0 undef) fun r0 => rI (vs.getD 1 undef) fun r1 => K r0 r1 h
variable (K : Int → Int → HP) (Kp : PK) 
noncomputable def c116 : Cx := ⟨Tryz.prog, ann116, ord116, none, code116, (retQ Tryz.prog Tryz.f118.results.toList z116 (kv116 K)), Kp⟩
def J116_1 (x0 : Option Addr) (x1 : Int) : HP := semJ (c116 K Kp) [1, 1] [] ([some (.pointer x0), vI x1]++nn 41)
variable {K Kp} {x0 : Option Addr} {x1 : Int} {h : Hp}
theorem J116_1.of (H :
  NN x0 fun p33 =>
  Ld h ((p33.add 7).add 4) Sl.v fun t36 =>
  Ix t36.a t36.n 6 0 fun a37 =>
  Ld h a37 mI fun t39 =>
  Fn141 x0 x1 t39 h (fun t40_0 t40_1 h1 =>
    K t40_0 t40_1 h1) Kp) :
  J116_1 K Kp x0 x1 h := jof H (by kernel_rfl)
theorem Fn116.of {a : Option Addr} {r : Int} (H :
  NN a fun p7 =>
  Ld h (p7.add 2) mI fun t11 =>
  If (t11 == 16) (
    NN a fun p15 =>
    Ld h ((p15.add 2).add 1) mI fun t19 =>
    Wr .i64 (r * t19) fun t20 =>
    Wr .i64 (r + 1) fun t22 =>
    NN a fun p24 =>
    Ld h ((p24.add 2).add 1) mI fun t28 =>
    Wr .i64 (t22 * t28) fun t29 =>
    K t20 t29 h) (
    J116_1 K Kp a r h)) :
  Fn116 a r h K Kp := fnof (ann := ann116) (o := ord116) (zs := z116) (Kv := kv116 K) Tryz.func118 (by kernel_rfl) H (by kernel_rfl) (by kernel_rfl)
end
end Go.Proofs.YtcgdhhchjgbhnaaGreatDoor
set_option maxRecDepth 100000
set_option maxHeartbeats 200000
/- What the functions do, printed by program (gen.py) in the words of ShCore; each text is held against the loaded program by the kernel. -/
namespace Go.Proofs.YtcgdhhchjgbhnaaGreatDoor
open Go Go.Sh
end Go.Proofs.YtcgdhhchjgbhnaaGreatDoor
set_option maxRecDepth 100000
set_option maxHeartbeats 200000
/- What the functions do, printed by program (gen.py) in the words of ShCore; each text is held against the loaded program by the kernel. -/
namespace Go.Proofs.YtcgdhhchjgbhnaaGreatDoor
open Go Go.Sh
section
noncomputable def code129 : Code := Tryz.f132.body.getD .skip
def ann129 : Ann := [(2000005, [1, 2]), (2000011, [1, 2]), (4014, [2, 5, 6, 45]), (2006, [1, 2, 22, 23, 24])]
def ord129 : OrdT := []
def z129 : List Value := [(.agg #[(.int .i64 0), (.slice none 0 0), (.int .i64 0)])]
def kv129 (K : Int → Sl → Int → HP) : Value → HP := fun v h => rG v fun cs0 => rI (cs0.getD 0 undef) fun r0_0 => rS (cs0.getD 1 undef) fun r0_1 => rI (cs0.getD 2 undef) fun r0_2 => K r0_0 r0_1 r0_2 h
variable (K : Int → Sl → Int → HP) (Kp : PK) (lb : Nat) (NB : HP) (XB : Code → HP) 
noncomputable def c129 : Cx := ⟨Tryz.prog, ann129, ord129, none, code129, (retQ Tryz.prog Tryz.f132.results.toList z129 (kv129 K)), Kp⟩
def R129_3 (x2 x5 x6 : Addr) (x45 : Value) : HP := semJ0 (c129 K Kp) [1, 1, 1, 1, 1, 0, 1, 0] [] ([nO, nO, vP x2, nO, nO, vP x5, vP x6, nO, nO, nO, nO, nO, nO, nO, nO, nO, nO, nO, nO, nO, nO, nO, nO, nO, nO, nO, nO, nO, nO, nO, nO, nO, nO, nO, nO, nO, nO, nO, nO, nO, nO, nO, nO, nO, nO, some x45]++nn 25)
def J129_2 (x1 x2 : Addr) : HP := semJ (c129 K Kp) [1, 1, 1] [] ([nO, vP x1, vP x2]++nn 68)
abbrev mk129_4 (x1 x2 : Addr) (x22 : Sl) (x23 x24 : Int) : Fr := ([nO, vP x1, vP x2, nO, nO, nO, nO, nO, nO, nO, nO, nO, nO, nO, nO, nO, nO, nO, nO, nO, nO, nO, vS x22, vI x23, vI x24]++nn 46)
def L129_4 (x1 x2 : Addr) (x22 : Sl) (x23 x24 : Int) : HP := semL (c129 K Kp) 2006 [1, 1, 0, 1, 0] [] (mk129_4 x1 x2 x22 x23 x24)
def J129_1 (x1 x2 : Addr) : HP := semJ (c129 K Kp) [1, 1] [] ([nO, vP x1, vP x2]++nn 68)
variable {K Kp lb NB XB} {x1 x2 x5 x6 : Addr} {x22 : Sl} {x23 : Int} {x45 : Value} {h : Hp}
def RT129_3 (lb : Nat) (NB : HP) (XB : Code → HP) (x2 x5 x6 : Addr) (x45 : Value) (y46_0 y46_1 : Sl) (y46_2 : ByteArray) (y46_3 : Bool) (y46_4 y46_5 y46_6 y46_7 : Int) (y46_8 : Sl) (y46_9 : Bool) (h : Hp) : Prop :=
  New h zY224 Y224 fun a7 h1 =>
  SY224 h1 a7 y46_0 y46_1 y46_2 y46_3 y46_4 y46_5 y46_6 y46_7 y46_8 y46_9 fun h2 =>
  Busy lb h h2 fun h3 =>
  LY224 h3 a7 fun t47_0 t47_1 t47_2 t47_3 t47_4 t47_5 t47_6 t47_7 t47_8 t47_9 =>
  Ld h3 x5 mI fun t48 =>
  Ld h3 x6 .map fun t49 =>
  Fn153 t47_0 t47_1 t47_2 t47_3 t47_4 t47_5 t47_6 t47_7 t47_8 t47_9 t48 t49 h3 (fun t50 h4 =>
    If (t50 != 0) (
      Ld h4 a7 Sl.v fun t55 =>
      SY37 h4 x2 t50 t55 0 fun h5 =>
      XB .ret h5) (
      Ld h4 x5 mI fun t57 =>
      Wr .i64 (t57 + 1) fun t58 =>
      St h4 x5 (.int .i64 t58) fun h5 =>
      Ld h5 ((a7.add 2).add 2) mI fun t62 =>
      If (t62 == 19) (
        Ld h5 x6 .map fun t64 =>
        Ld h5 (((a7.add 2).add 2).add 2) mI fun t68 =>
        Ld h5 x5 mI fun t69 =>
        Up h5 t64 (.int .i64) (.int .i64 t68) (.int .i64 t69) fun h6 =>
        NB h6) (
        NB h5))) NoP
def RD129_3 (K : Int → Sl → Int → HP) (Kp : PK) (x2 x5 x6 : Addr) (x45 : Value) (h : Hp) : Prop :=
  SY37 h x2 0 (⟨none, 0, 0⟩ : Sl) 0 fun h1 =>
  LY37 h1 x2 fun r0_0 r0_1 r0_2 =>
  K r0_0 r0_1 r0_2 h1
def RX129_3_ret (K : Int → Sl → Int → HP) (Kp : PK) (x2 x5 x6 : Addr) (x45 : Value) (h : Hp) : Prop :=
  LY37 h x2 fun r0_0 r0_1 r0_2 =>
  K r0_0 r0_1 r0_2 h
theorem R129_3.rule {x2 x5 x6 : Addr} {x45 : Value} {K : Int → Sl → Int → HP} {Kp : PK} {h : Hp} {α : Type} {xs : List α} (E : α → Sl → Sl → ByteArray → Bool → Int → Int → Int → Int → Sl → Bool → Prop) {Pre : Hp → Prop} (hit : IterR Tryz.prog x45 xs (fun y args => ∃ y0 y1 y2 y3 y4 y5 y6 y7 y8 y9, args = [(.agg #[(Sl.v y0), (Sl.v y1), (.string y2), (.bool y3), (.int .i64 y4), (.int .i64 y5), (.int .i64 y6), (.int .i64 y7), (Sl.v y8), (.bool y9)])] ∧ E y y0 y1 y2 y3 y4 y5 y6 y7 y8 y9) Pre) (I : List α → Hp → Prop) (I_ret : List α → Hp → Prop) (h0 : I [] h)
    (hG : ∀ pre h1 h2, Grw h1 h2 → I pre h1 → I pre h2) (hI : ∀ l pre h1 h2, h.size ≤ l → Tw l h1 h2 → I pre h1 → I pre h2) (hPre : ∀ pre h1, I pre h1 → Pre h1) (hG_ret : ∀ pre h1 h2, Grw h1 h2 → I_ret pre h1 → I_ret pre h2) (hI_ret : ∀ l pre h1 h2, h.size ≤ l → Tw l h1 h2 → I_ret pre h1 → I_ret pre h2) 
    (hbody : ∀ l pre y suf h1 y0 y1 y2 y3 y4 y5 y6 y7 y8 y9, E y y0 y1 y2 y3 y4 y5 y6 y7 y8 y9 → xs = pre ++ y :: suf → h.size ≤ l → (∃ r, h1[l]? = some (.loop r)) → I pre h1 → ∀ (N : Hp → Prop) (X : Code → Hp → Prop), (∀ h' h2, Tw l h1 h' → h2[l]? = h'[l]? → Tn (fun c => c ≤ l) h1 h2 → I (pre ++ [y]) h2 → N h2) → (∀ h' h2, Tw l h1 h' → h2[l]? = h'[l]? → Tn (fun c => c ≤ l) h1 h2 → I_ret (pre ++ [y]) h2 → X .ret h2) → RT129_3 l N X x2 x5 x6 x45 y0 y1 y2 y3 y4 y5 y6 y7 y8 y9 h1)
    (done : ∀ h2, I xs h2 → RD129_3 K Kp x2 x5 x6 x45 h2) (stop_ret : ∀ pre suf h2, xs = pre ++ suf → I_ret pre h2 → RX129_3_ret K Kp x2 x5 x6 x45 h2) : R129_3 K Kp x2 x5 x6 x45 h :=
  Eq.mp (by kernel_rfl) (range_rule (P := Tryz.prog) (ann := ann129) (D := (DrawSem Tryz.prog ord129)) (fun _ => drawOk _) (rd := none) (g := .tmp 45) (ps := #[46]) (assign := sub [1, 1, 1, 1, 1, 0, 1, 0, 0] code129) (body := sub [1, 1, 1, 1, 1, 0, 1, 0, 1] code129) (Q := ctxQ Tryz.prog ann129 (DrawSem Tryz.prog ord129) none Kp [1, 1, 1, 1, 1, 0, 1, 0] code129 [] (retQ Tryz.prog Tryz.f132.results.toList z129 (kv129 K))) (Kp := Kp) (fr := ([nO, nO, vP x2, nO, nO, vP x5, vP x6, nO, nO, nO, nO, nO, nO, nO, nO, nO, nO, nO, nO, nO, nO, nO, nO, nO, nO, nO, nO, nO, nO, nO, nO, nO, nO, nO, nO, nO, nO, nO, nO, nO, nO, nO, nO, nO, nO, some x45]++nn 25)) (h := h) (fv := x45) (by kernel_rfl)
    hit (fun _ _ ea => by obtain ⟨_, _, _, _, _, _, _, _, _, _, rfl, _⟩ := ea; rfl) trivial I (fun c => match c with | .ret => I_ret | _ => fun _ _ => False) h0 hG (by intro c pre h1 h2 hg hi; revert hi; cases c with
      | ret => exact hG_ret pre h1 h2 hg
      | _ => exact fun hi => hi.elim) hI (by intro l c pre h1 h2 hl ht hi; revert hi; cases c with
      | ret => exact hI_ret l pre h1 h2 hl ht
      | _ => exact fun hi => hi.elim) hPre
    (by
      intro l pre y suf h1 args ea e1 e2 e3 e4 N X hN hX
      obtain ⟨y0, y1, y2, y3, y4, y5, y6, y7, y8, y9, rfl, eE⟩ := ea
      exact Eq.mp (by kernel_rfl) (hbody l pre y suf h1 y0 y1 y2 y3 y4 y5 y6 y7 y8 y9 eE e1 e2 e3 e4 N X hN (hX .ret)))
    (fun h2 hi => Eq.mp (by kernel_rfl) (done h2 hi)) (by
      intro c pre suf h2 e1 hi
      cases c with
      | ret => exact Eq.mp (by kernel_rfl) (stop_ret pre suf h2 e1 hi)
      | _ => exact hi.elim))
theorem J129_2.of (H :
  New h #[(.int .i64 0)] Y6 fun a5 h1 =>
  St h1 a5 (.int .i64 0) fun h2 =>
  NewM h2 fun m42 h3 =>
  New h3 #[(.map none)] Y219 fun a6 h4 =>
  St h4 a6 (.map (some m42)) fun h5 =>
  Ld h5 x1 Sl.v fun t44 =>
  Fn152 t44 65 h5 (fun t45 h6 =>
    R129_3 K Kp x2 a5 a6 t45 h6) Kp) :
  J129_2 K Kp x1 x2 h := jof H (by kernel_rfl)
theorem L129_4.rule : LR1 (L129_4 K Kp x1 x2 x22 x23) (mk129_4 x1 x2 x22 x23) fun N1 (x24 : Int) h =>
  (If (decide (x24 < x23)) (
    Ix x22.a x22.n 2 x24 fun a27 =>
    Ld h a27 .string fun t28_0 =>
    Ld h (a27.add 1) .string fun t28_1 =>
    New h #[(.string (bs [])), (.string (bs []))] Y210 fun a4 h1 =>
    St h1 a4 (.string t28_0) fun h2 =>
    St h2 (a4.add 1) (.string t28_1) fun h3 =>
    Ld h3 a4 .string fun t30 =>
    If (decide ((t30.size : Int) > 256)) (
      SY37 h3 x2 37 (⟨none, 0, 0⟩ : Sl) x24 fun h4 =>
      LY37 h4 x2 fun r0_0 r0_1 r0_2 =>
      K r0_0 r0_1 r0_2 h4) (
      Ld h3 (a4.add 1) .string fun t35 =>
      If (decide ((t35.size : Int) > 256)) (
        SY37 h3 x2 37 (⟨none, 0, 0⟩ : Sl) x24 fun h4 =>
        LY37 h4 x2 fun r0_0 r0_1 r0_2 =>
        K r0_0 r0_1 r0_2 h4) (
        Wr .i64 (x24 + 1) fun t41 =>
        N1 (mk129_4 x1 x2 x22 x23 t41) h3))) (
    J129_2 K Kp x1 x2 h)) :=
  loop1 (fun _ _ => rfl) fun _ _ _ => by kernel_rfl
theorem J129_1.of (H :
  Ld h (x1.add 1) Sl.v fun t22 =>
  L129_4 K Kp x1 x2 t22 (t22.n : Int) 0 h) :
  J129_1 K Kp x1 x2 h := jof H (by kernel_rfl)
theorem Fn129.of {s_0 s_1 : Sl} (H :
  New h #[(Sl.v s_0), (Sl.v s_1)] Y182 fun a1 h1 =>
  New h1 zY37 Y37 fun a2 h2 =>
  Ld h2 a1 Sl.v fun t11 =>
  If (decide ((t11.n : Int) > 32)) (
    SY37 h2 a2 34 (⟨none, 0, 0⟩ : Sl) 32 fun h3 =>
    LY37 h3 a2 fun r0_0 r0_1 r0_2 =>
    K r0_0 r0_1 r0_2 h3) (
    Ld h2 (a1.add 1) Sl.v fun t17 =>
    If (decide ((t17.n : Int) > 16)) (
      SY37 h2 a2 34 (⟨none, 0, 0⟩ : Sl) 16 fun h3 =>
      LY37 h3 a2 fun r0_0 r0_1 r0_2 =>
      K r0_0 r0_1 r0_2 h3) (
      J129_1 K Kp a1 a2 h2))) :
  Fn129 s_0 s_1 h K Kp := fnof (ann := ann129) (o := ord129) (zs := z129) (Kv := kv129 K) Tryz.func132 (by kernel_rfl) H (by kernel_rfl) (by kernel_rfl)
end
section
noncomputable def code130 : Code := Tryz.f133.body.getD .skip
def ann130 : Ann := [(2000009, [2, 3, 4, 5, 8]), (2000015, [2, 3, 4, 5, 8]), (2000021, [2, 3, 4, 5, 8]), (2022, [2, 3, 4, 5, 8, 120, 121, 122]), (64014, [2, 3, 4, 5, 8, 13, 14, 120, 121, 122, 140]), (2016, [2, 3, 4, 5, 8, 99, 100, 101]), (2010, [2, 3, 4, 5, 8, 85, 86, 87]), (3400005, [2, 3, 4, 5, 8, 27]), (3600007, [2, 3, 4, 5, 8, 48]), (47008, [2, 3, 4, 5, 8, 78]), (45008, [2, 3, 4, 5, 8, 56]), (45013, [2, 3, 4, 5, 8, 61]), (43012, [2, 3, 4, 5, 7, 8, 39])]
def ord130 : OrdT := []
def z130 : List Value := [(.agg #[(.int .i64 0), (.slice none 0 0), (.int .i64 0)])]
def kv130 (K : Int → Sl → Int → HP) : Value → HP := fun v h => rG v fun cs0 => rI (cs0.getD 0 undef) fun r0_0 => rS (cs0.getD 1 undef) fun r0_1 => rI (cs0.getD 2 undef) fun r0_2 => K r0_0 r0_1 r0_2 h
variable (K : Int → Sl → Int → HP) (Kp : PK) (N1 : Fr → HP) 
noncomputable def c130 : Cx := ⟨Tryz.prog, ann130, ord130, none, code130, (retQ Tryz.prog Tryz.f133.results.toList z130 (kv130 K)), Kp⟩
abbrev mk130_4 (x2 x3 x4 : Addr) (x5 x8 : Int) (x120 : Sl) (x121 x122 : Int) : Fr := ([nO, nO, vP x2, vP x3, vP x4, vI x5, nO, nO, vI x8, nO, nO, nO, nO, nO, nO, nO, nO, nO, nO, nO, nO, nO, nO, nO, nO, nO, nO, nO, nO, nO, nO, nO, nO, nO, nO, nO, nO, nO, nO, nO, nO, nO, nO, nO, nO, nO, nO, nO, nO, nO, nO, nO, nO, nO, nO, nO, nO, nO, nO, nO, nO, nO, nO, nO, nO, nO, nO, nO, nO, nO, nO, nO, nO, nO, nO, nO, nO, nO, nO, nO, nO, nO, nO, nO, nO, nO, nO, nO, nO, nO, nO, nO, nO, nO, nO, nO, nO, nO, nO, nO, nO, nO, nO, nO, nO, nO, nO, nO, nO, nO, nO, nO, nO, nO, nO, nO, nO, nO, nO, nO, vS x120, vI x121, vI x122]++nn 38)
def J130_5 (x2 x3 x4 : Addr) (x5 x8 x13 : Int) (x14 : Addr) (x120 : Sl) (x121 x122 : Int) (x140 : Bool) : HP := semR (c130 K Kp) [1, 1, 1, 1, 1, 1, 0, 1, 0, 0, 1, 1, 0, 0, 1, 0] [N1] 24 [14, 15, 16, 17, 18, 19, 20, 21, 22, 23, 24, 25] ([nO, nO, vP x2, vP x3, vP x4, vI x5, nO, nO, vI x8, nO, nO, nO, nO, vI x13, vP x14, nO, nO, nO, nO, nO, nO, nO, nO, nO, nO, nO, nO, nO, nO, nO, nO, nO, nO, nO, nO, nO, nO, nO, nO, nO, nO, nO, nO, nO, nO, nO, nO, nO, nO, nO, nO, nO, nO, nO, nO, nO, nO, nO, nO, nO, nO, nO, nO, nO, nO, nO, nO, nO, nO, nO, nO, nO, nO, nO, nO, nO, nO, nO, nO, nO, nO, nO, nO, nO, nO, nO, nO, nO, nO, nO, nO, nO, nO, nO, nO, nO, nO, nO, nO, nO, nO, nO, nO, nO, nO, nO, nO, nO, nO, nO, nO, nO, nO, nO, nO, nO, nO, nO, nO, nO, vS x120, vI x121, vI x122, nO, nO, nO, nO, nO, nO, nO, nO, nO, nO, nO, nO, nO, nO, nO, nO, nO, some (.bool x140)]++nn 20)
def L130_4 (x2 x3 x4 : Addr) (x5 x8 : Int) (x120 : Sl) (x121 x122 : Int) : HP := semL (c130 K Kp) 2022 [1, 1, 1, 1, 1, 1, 0, 1, 0] [] (mk130_4 x2 x3 x4 x5 x8 x120 x121 x122)
def J130_3 (x2 x3 x4 : Addr) (x5 x8 : Int) : HP := semJ (c130 K Kp) [1, 1, 1, 1, 1, 1] [] ([nO, nO, vP x2, vP x3, vP x4, vI x5, nO, nO, vI x8]++nn 152)
abbrev mk130_6 (x2 x3 x4 : Addr) (x5 x8 : Int) (x99 : Sl) (x100 x101 : Int) : Fr := ([nO, nO, vP x2, vP x3, vP x4, vI x5, nO, nO, vI x8, nO, nO, nO, nO, nO, nO, nO, nO, nO, nO, nO, nO, nO, nO, nO, nO, nO, nO, nO, nO, nO, nO, nO, nO, nO, nO, nO, nO, nO, nO, nO, nO, nO, nO, nO, nO, nO, nO, nO, nO, nO, nO, nO, nO, nO, nO, nO, nO, nO, nO, nO, nO, nO, nO, nO, nO, nO, nO, nO, nO, nO, nO, nO, nO, nO, nO, nO, nO, nO, nO, nO, nO, nO, nO, nO, nO, nO, nO, nO, nO, nO, nO, nO, nO, nO, nO, nO, nO, nO, nO, vS x99, vI x100, vI x101]++nn 59)
def L130_6 (x2 x3 x4 : Addr) (x5 x8 : Int) (x99 : Sl) (x100 x101 : Int) : HP := semL (c130 K Kp) 2016 [1, 1, 1, 1, 1, 0, 1, 0] [] (mk130_6 x2 x3 x4 x5 x8 x99 x100 x101)
def J130_2 (x2 x3 x4 : Addr) (x5 x8 : Int) : HP := semJ (c130 K Kp) [1, 1, 1, 1, 1] [] ([nO, nO, vP x2, vP x3, vP x4, vI x5, nO, nO, vI x8]++nn 152)
abbrev mk130_7 (x2 x3 x4 : Addr) (x5 x8 : Int) (x85 : Sl) (x86 x87 : Int) : Fr := ([nO, nO, vP x2, vP x3, vP x4, vI x5, nO, nO, vI x8, nO, nO, nO, nO, nO, nO, nO, nO, nO, nO, nO, nO, nO, nO, nO, nO, nO, nO, nO, nO, nO, nO, nO, nO, nO, nO, nO, nO, nO, nO, nO, nO, nO, nO, nO, nO, nO, nO, nO, nO, nO, nO, nO, nO, nO, nO, nO, nO, nO, nO, nO, nO, nO, nO, nO, nO, nO, nO, nO, nO, nO, nO, nO, nO, nO, nO, nO, nO, nO, nO, nO, nO, nO, nO, nO, nO, vS x85, vI x86, vI x87]++nn 73)
def L130_7 (x2 x3 x4 : Addr) (x5 x8 : Int) (x85 : Sl) (x86 x87 : Int) : HP := semL (c130 K Kp) 2010 [1, 1, 1, 1, 0, 1, 0] [] (mk130_7 x2 x3 x4 x5 x8 x85 x86 x87)
def J130_1 (x2 x3 x4 : Addr) (x5 x8 : Int) : HP := semJ (c130 K Kp) [1, 1, 1, 1] [] ([nO, nO, vP x2, vP x3, vP x4, vI x5, nO, nO, vI x8]++nn 152)
def J130_10 (x2 x3 x4 : Addr) (x5 x8 : Int) (x78 : Bool) : HP := semR (c130 K Kp) [1, 1, 1, 0, 0, 1, 1, 1, 1, 0] [] 7 [8, 9, 10, 11, 12] ([nO, nO, vP x2, vP x3, vP x4, vI x5, nO, nO, vI x8, nO, nO, nO, nO, nO, nO, nO, nO, nO, nO, nO, nO, nO, nO, nO, nO, nO, nO, nO, nO, nO, nO, nO, nO, nO, nO, nO, nO, nO, nO, nO, nO, nO, nO, nO, nO, nO, nO, nO, nO, nO, nO, nO, nO, nO, nO, nO, nO, nO, nO, nO, nO, nO, nO, nO, nO, nO, nO, nO, nO, nO, nO, nO, nO, nO, nO, nO, nO, nO, some (.bool x78)]++nn 82)
def J130_9 (x2 x3 x4 : Addr) (x5 x8 : Int) (x48 : Bool) : HP := semJ (c130 K Kp) [1, 1, 1, 0, 0, 1, 1, 1] [] ([nO, nO, vP x2, vP x3, vP x4, vI x5, nO, nO, vI x8, nO, nO, nO, nO, nO, nO, nO, nO, nO, nO, nO, nO, nO, nO, nO, nO, nO, nO, nO, nO, nO, nO, nO, nO, nO, nO, nO, nO, nO, nO, nO, nO, nO, nO, nO, nO, nO, nO, nO, some (.bool x48)]++nn 112)
def J130_12 (x2 x3 x4 : Addr) (x5 x8 : Int) (x61 : Bool) : HP := semR (c130 K Kp) [1, 1, 1, 0, 0, 1, 1, 0] [] 5 [13, 14, 15, 16, 17, 18, 19, 20] ([nO, nO, vP x2, vP x3, vP x4, vI x5, nO, nO, vI x8, nO, nO, nO, nO, nO, nO, nO, nO, nO, nO, nO, nO, nO, nO, nO, nO, nO, nO, nO, nO, nO, nO, nO, nO, nO, nO, nO, nO, nO, nO, nO, nO, nO, nO, nO, nO, nO, nO, nO, nO, nO, nO, nO, nO, nO, nO, nO, nO, nO, nO, nO, nO, some (.bool x61)]++nn 99)
def J130_11 (x2 x3 x4 : Addr) (x5 x8 : Int) (x56 : Bool) : HP := semR (c130 K Kp) [1, 1, 1, 0, 0, 1, 1, 0] [] 5 [8, 9, 10, 11, 12, 13, 14, 15, 16, 17, 18, 19, 20] ([nO, nO, vP x2, vP x3, vP x4, vI x5, nO, nO, vI x8, nO, nO, nO, nO, nO, nO, nO, nO, nO, nO, nO, nO, nO, nO, nO, nO, nO, nO, nO, nO, nO, nO, nO, nO, nO, nO, nO, nO, nO, nO, nO, nO, nO, nO, nO, nO, nO, nO, nO, nO, nO, nO, nO, nO, nO, nO, nO, some (.bool x56)]++nn 104)
def J130_8 (x2 x3 x4 : Addr) (x5 x8 : Int) (x27 : Bool) : HP := semJ (c130 K Kp) [1, 1, 1, 0, 0, 1] [] ([nO, nO, vP x2, vP x3, vP x4, vI x5, nO, nO, vI x8, nO, nO, nO, nO, nO, nO, nO, nO, nO, nO, nO, nO, nO, nO, nO, nO, nO, nO, some (.bool x27)]++nn 133)
def J130_13 (x2 x3 x4 : Addr) (x5 x7 x8 : Int) (x39 : Bool) : HP := semR (c130 K Kp) [1, 1, 1, 0, 0, 0] [] 3 [12, 13, 14, 15, 16, 17, 18, 19] ([nO, nO, vP x2, vP x3, vP x4, vI x5, nO, vI x7, vI x8, nO, nO, nO, nO, nO, nO, nO, nO, nO, nO, nO, nO, nO, nO, nO, nO, nO, nO, nO, nO, nO, nO, nO, nO, nO, nO, nO, nO, nO, nO, some (.bool x39)]++nn 121)
variable {K Kp N1} {x2 x3 x4 x14 : Addr} {x5 x7 x8 x86 x100 x13 x121 x122 : Int} {x39 x61 x56 x78 x48 x27 x140 : Bool} {x85 x99 x120 : Sl} {h : Hp}
theorem J130_5.of (H :
  If x140 (
    Wr .i64 (x5 + x13) fun t155 =>
    Fn99 82 t155 h (fun t156_0 t156_1 t156_2 h1 =>
      SY37 h1 x4 t156_0 t156_1 t156_2 fun h2 =>
      LY37 h2 x4 fun r0_0 r0_1 r0_2 =>
      K r0_0 r0_1 r0_2 h2) Kp) (
    Ld h (x2.add 2) mI fun t144 =>
    If (t144 == 17) (
      Ld h x14 mI fun t148 =>
      If (decide (t148 < x8)) (
        Wr .i64 (x5 + x13) fun t155 =>
        Fn99 82 t155 h (fun t156_0 t156_1 t156_2 h1 =>
          SY37 h1 x4 t156_0 t156_1 t156_2 fun h2 =>
          LY37 h2 x4 fun r0_0 r0_1 r0_2 =>
          K r0_0 r0_1 r0_2 h2) Kp) (
        Wr .i64 (x122 + 1) fun t157 =>
        N1 (mk130_4 x2 x3 x4 x5 x8 x120 x121 t157) h)) (
      Wr .i64 (x122 + 1) fun t157 =>
      N1 (mk130_4 x2 x3 x4 x5 x8 x120 x121 t157) h))) :
  J130_5 K Kp N1 x2 x3 x4 x5 x8 x13 x14 x120 x121 x122 x140 h := jof H (by kernel_rfl)
theorem L130_4.rule : LR1 (L130_4 K Kp x2 x3 x4 x5 x8 x120 x121) (mk130_4 x2 x3 x4 x5 x8 x120 x121) fun N1 (x122 : Int) h =>
  (If (decide (x122 < x121)) (
    Ix x120.a x120.n 6 x122 fun a125 =>
    LY33 h a125 fun t126_0 t126_1 t126_2 t126_3 t126_4 t126_5 =>
    New h zY33 Y33 fun a14 h1 =>
    SY33 h1 a14 t126_0 t126_1 t126_2 t126_3 t126_4 t126_5 fun h2 =>
    Ld h2 (x2.add 2) mI fun t129 =>
    If (t129 == 16) (
      Ld h2 a14 mI fun t133 =>
      Ld h2 ((x2.add 2).add 1) mI fun t137 =>
      Wr .i64 (x8 * t137) fun t138 =>
      J130_5 K Kp N1 x2 x3 x4 x5 x8 x122 a14 x120 x121 x122 (decide (t133 < t138)) h2) (
      J130_5 K Kp N1 x2 x3 x4 x5 x8 x122 a14 x120 x121 x122 false h2)) (
    LY29 h x2 fun t158_0 t158_1 t158_2 t158_3 t158_4 t158_5 t158_6 =>
    LY33 h x3 fun t159_0 t159_1 t159_2 t159_3 t159_4 t159_5 =>
    Fn156 t158_0 t158_1 t158_2 t158_3 t158_4 t158_5 t158_6 t159_0 t159_1 t159_2 t159_3 t159_4 t159_5 h (fun t160_0 t160_1 t160_2 h1 =>
      SY37 h1 x4 t160_0 t160_1 t160_2 fun h2 =>
      LY37 h2 x4 fun r0_0 r0_1 r0_2 =>
      K r0_0 r0_1 r0_2 h2) Kp)) :=
  loop1 (fun _ _ => rfl) fun _ _ _ => by kernel_rfl
theorem J130_3.of (H :
  Ld h (x3.add 4) Sl.v fun t120 =>
  L130_4 K Kp x2 x3 x4 x5 x8 t120 (t120.n : Int) 0 h) :
  J130_3 K Kp x2 x3 x4 x5 x8 h := jof H (by kernel_rfl)
theorem L130_6.rule : LR1 (L130_6 K Kp x2 x3 x4 x5 x8 x99 x100) (mk130_6 x2 x3 x4 x5 x8 x99 x100) fun N1 (x101 : Int) h =>
  (If (decide (x101 < x100)) (
    Ix x99.a x99.n 1 x101 fun a104 =>
    Ld h a104 Sl.v fun t105 =>
    LY27 h (x2.add 2) fun t109_0 t109_1 t109_2 t109_3 t109_4 =>
    Fn155 t109_0 t109_1 t109_2 t109_3 t109_4 x101 x8 (t105.n : Int) h (fun t114 h1 =>
      If (decide ((t105.n : Int) < t114)) (
        Fn99 82 x101 h1 (fun t117_0 t117_1 t117_2 h2 =>
          SY37 h2 x4 t117_0 t117_1 t117_2 fun h3 =>
          LY37 h3 x4 fun r0_0 r0_1 r0_2 =>
          K r0_0 r0_1 r0_2 h3) Kp) (
        Wr .i64 (x101 + 1) fun t118 =>
        N1 (mk130_6 x2 x3 x4 x5 x8 x99 x100 t118) h1)) Kp) (
    J130_3 K Kp x2 x3 x4 x5 x8 h)) :=
  loop1 (fun _ _ => rfl) fun _ _ _ => by kernel_rfl
theorem J130_2.of (H :
  Ld h (x3.add 3) Sl.v fun t99 =>
  L130_6 K Kp x2 x3 x4 x5 x8 t99 (t99.n : Int) 0 h) :
  J130_2 K Kp x2 x3 x4 x5 x8 h := jof H (by kernel_rfl)
theorem L130_7.rule : LR1 (L130_7 K Kp x2 x3 x4 x5 x8 x85 x86) (mk130_7 x2 x3 x4 x5 x8 x85 x86) fun N1 (x87 : Int) h =>
  (If (decide (x87 < x86)) (
    Ix x85.a x85.n 1 x87 fun a90 =>
    Ld h a90 Sl.v fun t91 =>
    If (decide ((t91.n : Int) > 65536)) (
      Fn99 4 x87 h (fun t96_0 t96_1 t96_2 h1 =>
        SY37 h1 x4 t96_0 t96_1 t96_2 fun h2 =>
        LY37 h2 x4 fun r0_0 r0_1 r0_2 =>
        K r0_0 r0_1 r0_2 h2) Kp) (
      Wr .i64 (x87 + 1) fun t97 =>
      N1 (mk130_7 x2 x3 x4 x5 x8 x85 x86 t97) h)) (
    J130_2 K Kp x2 x3 x4 x5 x8 h)) :=
  loop1 (fun _ _ => rfl) fun _ _ _ => by kernel_rfl
theorem J130_1.of (H :
  Ld h (x3.add 3) Sl.v fun t85 =>
  L130_7 K Kp x2 x3 x4 x5 x8 t85 (t85.n : Int) 0 h) :
  J130_1 K Kp x2 x3 x4 x5 x8 h := jof H (by kernel_rfl)
theorem J130_10.of (H :
  If x78 (
    Fn99 3 0 h (fun t83_0 t83_1 t83_2 h1 =>
      SY37 h1 x4 t83_0 t83_1 t83_2 fun h2 =>
      LY37 h2 x4 fun r0_0 r0_1 r0_2 =>
      K r0_0 r0_1 r0_2 h2) Kp) (
    If (decide (x8 > 4096)) (
      Fn99 3 0 h (fun t83_0 t83_1 t83_2 h1 =>
        SY37 h1 x4 t83_0 t83_1 t83_2 fun h2 =>
        LY37 h2 x4 fun r0_0 r0_1 r0_2 =>
        K r0_0 r0_1 r0_2 h2) Kp) (
      J130_1 K Kp x2 x3 x4 x5 x8 h))) :
  J130_10 K Kp x2 x3 x4 x5 x8 x78 h := jof H (by kernel_rfl)
theorem J130_9.of (H :
  If x48 (
    Fn99 81 0 h (fun t69_0 t69_1 t69_2 h1 =>
      SY37 h1 x4 t69_0 t69_1 t69_2 fun h2 =>
      LY37 h2 x4 fun r0_0 r0_1 r0_2 =>
      K r0_0 r0_1 r0_2 h2) Kp) (
    Ld h x3 mI fun t72 =>
    If (decide (t72 > 4096)) (
      J130_10 K Kp x2 x3 x4 x5 x8 true h) (
      Ld h (x3.add 1) mI fun t76 =>
      J130_10 K Kp x2 x3 x4 x5 x8 (decide (t76 > 4096)) h))) :
  J130_9 K Kp x2 x3 x4 x5 x8 x48 h := jof H (by kernel_rfl)
theorem J130_12.of (H :
  If x61 (
    J130_9 K Kp x2 x3 x4 x5 x8 true h) (
    Ld h (x3.add 2) mI fun t64 =>
    Ld h x3 mI fun t66 =>
    J130_9 K Kp x2 x3 x4 x5 x8 (decide (t64 > t66)) h)) :
  J130_12 K Kp x2 x3 x4 x5 x8 x61 h := jof H (by kernel_rfl)
theorem J130_11.of (H :
  If x56 (
    J130_12 K Kp x2 x3 x4 x5 x8 true h) (
    Ld h (x3.add 2) mI fun t59 =>
    J130_12 K Kp x2 x3 x4 x5 x8 (decide (t59 < 0)) h)) :
  J130_11 K Kp x2 x3 x4 x5 x8 x56 h := jof H (by kernel_rfl)
theorem J130_8.of (H :
  If x27 (
    Fn99 80 0 h (fun t47_0 t47_1 t47_2 h1 =>
      SY37 h1 x4 t47_0 t47_1 t47_2 fun h2 =>
      LY37 h2 x4 fun r0_0 r0_1 r0_2 =>
      K r0_0 r0_1 r0_2 h2) Kp) (
    Ld h x3 mI fun t50 =>
    If (decide (t50 < 0)) (
      J130_11 K Kp x2 x3 x4 x5 x8 true h) (
      Ld h (x3.add 1) mI fun t54 =>
      J130_11 K Kp x2 x3 x4 x5 x8 (decide (t54 < 0)) h))) :
  J130_8 K Kp x2 x3 x4 x5 x8 x27 h := jof H (by kernel_rfl)
theorem J130_13.of (H :
  If x39 (
    J130_8 K Kp x2 x3 x4 x5 x8 true h) (
    Ld h (x3.add 5) Sl.v fun t42 =>
    J130_8 K Kp x2 x3 x4 x5 x8 ((t42.n : Int) != x7) h)) :
  J130_13 K Kp x2 x3 x4 x5 x7 x8 x39 h := jof H (by kernel_rfl)
theorem Fn130.of {f_0 : ByteArray} {f_1 : Bool} {f_2 f_3 f_4 f_5 : Int} {f_6 : Sl} {d_0 d_1 d_2 : Int} {d_3 d_4 d_5 : Sl} (H :
  NY29 h f_0 f_1 f_2 f_3 f_4 f_5 f_6 fun a2 h1 =>
  NY33 h1 d_0 d_1 d_2 d_3 d_4 d_5 fun a3 h2 =>
  New h2 zY37 Y37 fun a4 h3 =>
  LY27 h3 (a2.add 2) fun t17_0 t17_1 t17_2 t17_3 t17_4 =>
  Fn154 t17_0 t17_1 t17_2 t17_3 t17_4 h3 (fun t18_0 t18_1 t18_2 h4 =>
    Ld h4 (a3.add 1) mI fun t23 =>
    Ld h4 a3 mI fun t25 =>
    Wr .i64 (t23 + t25) fun t26 =>
    Ld h4 (a3.add 3) Sl.v fun t29 =>
    If ((t29.n : Int) != t18_0) (
      J130_13 K Kp a2 a3 a4 t18_0 t18_2 t26 true h4) (
      Ld h4 (a3.add 4) Sl.v fun t35 =>
      J130_13 K Kp a2 a3 a4 t18_0 t18_2 t26 ((t35.n : Int) != t18_1) h4)) Kp) :
  Fn130 f_0 f_1 f_2 f_3 f_4 f_5 f_6 d_0 d_1 d_2 d_3 d_4 d_5 h K Kp := fnof (ann := ann130) (o := ord130) (zs := z130) (Kv := kv130 K) Tryz.func133 (by kernel_rfl) H (by kernel_rfl) (by kernel_rfl)
end
end Go.Proofs.YtcgdhhchjgbhnaaGreatDoor
set_option maxRecDepth 100000
set_option maxHeartbeats 200000
/- What the functions do, printed by program (gen.py) in the words of ShCore; each text is held against the loaded program by the kernel. -/
namespace Go.Proofs.YtcgdhhchjgbhnaaGreatDoor
open Go Go.Sh
section
noncomputable def code131 : Code := Tryz.f134.body.getD .skip
def ann131 : Ann := [(3500006, [2, 3, 4, 13, 14]), (2008, [3, 4, 24, 25]), (2020, [2, 3, 4, 71, 72])]
def ord131 : OrdT := []
def z131 : List Value := [(.agg #[(.int .i64 0), (.slice none 0 0), (.int .i64 0)])]
def kv131 (K : Int → Sl → Int → HP) : Value → HP := fun v h => rG v fun cs0 => rI (cs0.getD 0 undef) fun r0_0 => rS (cs0.getD 1 undef) fun r0_1 => rI (cs0.getD 2 undef) fun r0_2 => K r0_0 r0_1 r0_2 h
variable (K : Int → Sl → Int → HP) (Kp : PK) 
noncomputable def c131 : Cx := ⟨Tryz.prog, ann131, ord131, none, code131, (retQ Tryz.prog Tryz.f134.results.toList z131 (kv131 K)), Kp⟩
abbrev mk131_2 (x3 x4 : Addr) (x24 x25 : Int) : Fr := ([nO, nO, nO, vP x3, vP x4, nO, nO, nO, nO, nO, nO, nO, nO, nO, nO, nO, nO, nO, nO, nO, nO, nO, nO, nO, vI x24, vI x25]++nn 69)
def L131_2 (x3 x4 : Addr) (x24 x25 : Int) : HP := semL (c131 K Kp) 2008 [1, 0, 1, 0, 1, 1, 1, 0, 1, 0] [] (mk131_2 x3 x4 x24 x25)
abbrev mk131_3 (x2 x3 x4 : Addr) (x71 x72 : Int) : Fr := ([nO, nO, vP x2, vP x3, vP x4, nO, nO, nO, nO, nO, nO, nO, nO, nO, nO, nO, nO, nO, nO, nO, nO, nO, nO, nO, nO, nO, nO, nO, nO, nO, nO, nO, nO, nO, nO, nO, nO, nO, nO, nO, nO, nO, nO, nO, nO, nO, nO, nO, nO, nO, nO, nO, nO, nO, nO, nO, nO, nO, nO, nO, nO, nO, nO, nO, nO, nO, nO, nO, nO, nO, nO, vI x71, vI x72]++nn 22)
def L131_3 (x2 x3 x4 : Addr) (x71 x72 : Int) : HP := semL (c131 K Kp) 2020 [1, 0, 1, 0, 1, 1, 1, 1, 1, 0, 1, 0] [] (mk131_3 x2 x3 x4 x71 x72)
def J131_1 (x2 x3 x4 : Addr) (x13 : Int) (x14 : Bool) : HP := semJ (c131 K Kp) [1, 0, 1, 0, 1] [] ([nO, nO, vP x2, vP x3, vP x4, nO, nO, nO, nO, nO, nO, nO, nO, vI x13, some (.bool x14)]++nn 80)
variable {K Kp} {x3 x4 x2 : Addr} {x24 x71 x13 : Int} {x14 : Bool} {h : Hp}
theorem L131_2.rule : LR1 (L131_2 K Kp x3 x4 x24) (mk131_2 x3 x4 x24) fun N1 (x25 : Int) h =>
  (If (decide (x25 < x24)) (
    Ld h (x3.add 1) mI fun t29 =>
    Wr .i64 (t29 + x25) fun t31 =>
    Ld h (x3.add 3) Sl.v fun t33 =>
    Ix t33.a t33.n 1 0 fun a34 =>
    Ld h a34 Sl.v fun t35 =>
    Ix t35.a t35.n 1 t31 fun a37 =>
    Ld h a37 (.int .u8) fun t38 =>
    Wr .i64 t38 fun t39 =>
    Ld h (x3.add 4) Sl.v fun t42 =>
    If (decide (t39 ≥ (t42.n : Int))) (
      Fn99 85 x25 h (fun t46_0 t46_1 t46_2 h1 =>
        SY37 h1 x4 t46_0 t46_1 t46_2 fun h2 =>
        LY37 h2 x4 fun r0_0 r0_1 r0_2 =>
        K r0_0 r0_1 r0_2 h2) Kp) (
      Ld h (x3.add 3) Sl.v fun t48 =>
      Ix t48.a t48.n 1 1 fun a49 =>
      Ld h a49 Sl.v fun t50 =>
      Fn158 t50 t31 h (fun t52 h1 =>
        If (decide (t52 < 0)) (
          Fn99 83 x25 h1 (fun t66_0 t66_1 t66_2 h2 =>
            SY37 h2 x4 t66_0 t66_1 t66_2 fun h3 =>
            LY37 h3 x4 fun r0_0 r0_1 r0_2 =>
            K r0_0 r0_1 r0_2 h3) Kp) (
          Ld h1 (x3.add 4) Sl.v fun t58 =>
          Ix t58.a t58.n 6 t39 fun a60 =>
          Ld h1 a60 mI fun t62 =>
          If (decide (t52 ≥ t62)) (
            Fn99 83 x25 h1 (fun t66_0 t66_1 t66_2 h2 =>
              SY37 h2 x4 t66_0 t66_1 t66_2 fun h3 =>
              LY37 h3 x4 fun r0_0 r0_1 r0_2 =>
              K r0_0 r0_1 r0_2 h3) Kp) (
            Wr .i64 (x25 + 1) fun t67 =>
            N1 (mk131_2 x3 x4 x24 t67) h1))) Kp)) (
    SY37 h x4 0 (⟨none, 0, 0⟩ : Sl) 0 fun h1 =>
    LY37 h1 x4 fun r0_0 r0_1 r0_2 =>
    K r0_0 r0_1 r0_2 h1)) :=
  loop1 (fun _ _ => rfl) fun _ _ _ => by kernel_rfl
theorem L131_3.rule : LR1 (L131_3 K Kp x2 x3 x4 x71) (mk131_3 x2 x3 x4 x71) fun N1 (x72 : Int) h =>
  (If (decide (x72 < x71)) (
    Ld h (x3.add 1) mI fun t76 =>
    Wr .i64 (t76 + x72) fun t78 =>
    LY29 h x2 fun t79_0 t79_1 t79_2 t79_3 t79_4 t79_5 t79_6 =>
    LY33 h x3 fun t80_0 t80_1 t80_2 t80_3 t80_4 t80_5 =>
    Fn105 t79_0 t79_1 t79_2 t79_3 t79_4 t79_5 t79_6 t80_0 t80_1 t80_2 t80_3 t80_4 t80_5 t78 h (fun t82 h1 =>
      If (!t82) (
        LY29 h1 x2 fun t85_0 t85_1 t85_2 t85_3 t85_4 t85_5 t85_6 =>
        LY33 h1 x3 fun t86_0 t86_1 t86_2 t86_3 t86_4 t86_5 =>
        Fn159 t85_0 t85_1 t85_2 t85_3 t85_4 t85_5 t85_6 t86_0 t86_1 t86_2 t86_3 t86_4 t86_5 t78 h1 (fun t88 h2 =>
          If (decide (t88 < 0)) (
            Fn99 86 x72 h2 (fun t92_0 t92_1 t92_2 h3 =>
              SY37 h3 x4 t92_0 t92_1 t92_2 fun h4 =>
              LY37 h4 x4 fun r0_0 r0_1 r0_2 =>
              K r0_0 r0_1 r0_2 h4) Kp) (
            Wr .i64 (x72 + 1) fun t93 =>
            N1 (mk131_3 x2 x3 x4 x71 t93) h2)) Kp) (
        Wr .i64 (x72 + 1) fun t93 =>
        N1 (mk131_3 x2 x3 x4 x71 t93) h1)) Kp) (
    SY37 h x4 0 (⟨none, 0, 0⟩ : Sl) 0 fun h1 =>
    LY37 h1 x4 fun r0_0 r0_1 r0_2 =>
    K r0_0 r0_1 r0_2 h1)) :=
  loop1 (fun _ _ => rfl) fun _ _ _ => by kernel_rfl
theorem J131_1.of (H :
  If x14 (
    LY29 h x2 fun t18_0 t18_1 t18_2 t18_3 t18_4 t18_5 t18_6 =>
    LY33 h x3 fun t19_0 t19_1 t19_2 t19_3 t19_4 t19_5 =>
    Fn157 t18_0 t18_1 t18_2 t18_3 t18_4 t18_5 t18_6 t19_0 t19_1 t19_2 t19_3 t19_4 t19_5 h (fun t20_0 t20_1 t20_2 h1 =>
      SY37 h1 x4 t20_0 t20_1 t20_2 fun h2 =>
      LY37 h2 x4 fun r0_0 r0_1 r0_2 =>
      K r0_0 r0_1 r0_2 h2) Kp) (
    If (x13 == 18) (
      Ld h x3 mI fun t24 =>
      L131_2 K Kp x3 x4 t24 0 h) (
      If (x13 == 19) (
        Ld h x3 mI fun t71 =>
        L131_3 K Kp x2 x3 x4 t71 0 h) (
        SY37 h x4 0 (⟨none, 0, 0⟩ : Sl) 0 fun h1 =>
        LY37 h1 x4 fun r0_0 r0_1 r0_2 =>
        K r0_0 r0_1 r0_2 h1)))) :
  J131_1 K Kp x2 x3 x4 x13 x14 h := jof H (by kernel_rfl)
theorem Fn131.of {f_0 : ByteArray} {f_1 : Bool} {f_2 f_3 f_4 f_5 : Int} {f_6 : Sl} {d_0 d_1 d_2 : Int} {d_3 d_4 d_5 : Sl} (H :
  NY29 h f_0 f_1 f_2 f_3 f_4 f_5 f_6 fun a2 h1 =>
  NY33 h1 d_0 d_1 d_2 d_3 d_4 d_5 fun a3 h2 =>
  New h2 zY37 Y37 fun a4 h3 =>
  Ld h3 (a2.add 2) mI fun t13 =>
  If (t13 == 12) (
    J131_1 K Kp a2 a3 a4 t13 (t13 == 12) h3) (
    If (t13 == 13) (
      J131_1 K Kp a2 a3 a4 t13 (t13 == 13) h3) (
      J131_1 K Kp a2 a3 a4 t13 (t13 == 15) h3))) :
  Fn131 f_0 f_1 f_2 f_3 f_4 f_5 f_6 d_0 d_1 d_2 d_3 d_4 d_5 h K Kp := fnof (ann := ann131) (o := ord131) (zs := z131) (Kv := kv131 K) Tryz.func134 (by kernel_rfl) H (by kernel_rfl) (by kernel_rfl)
end
section
noncomputable def code132 : Code := Tryz.f135.body.getD .skip
def ann132 : Ann := [(2000002, [1, 2, 3, 4]), (2000013, [1, 2, 3, 5]), (2006, [1, 2, 3, 5, 23, 24])]
def ord132 : OrdT := [(8, (OT.l [0, 1, 2, 3, 4, 5, 6, 7, 8, 9] .fin), [0, 1, 3, 7, 0, 16, 0, 112, 255, 511]), (1, (OT.l [0, 1, 2, 3, 4, 5, 6, 7] (.alt (OT.l [8, 9, 10, 11] .fin) (OT.l [9, 8, 10, 11] .fin))), [0, 1, 3, 7, 0, 16, 48, 112, 0, 0, 783, 2047])]
def z132 : List Value := [(.agg #[(.int .i64 0), (.slice none 0 0), (.int .i64 0)])]
def kv132 (K : Int → Sl → Int → HP) : Value → HP := fun v h => rG v fun cs0 => rI (cs0.getD 0 undef) fun r0_0 => rS (cs0.getD 1 undef) fun r0_1 => rI (cs0.getD 2 undef) fun r0_2 => K r0_0 r0_1 r0_2 h
variable (K : Int → Sl → Int → HP) (Kp : PK) 
noncomputable def c132 : Cx := ⟨Tryz.prog, ann132, ord132, none, code132, (retQ Tryz.prog Tryz.f135.results.toList z132 (kv132 K)), Kp⟩
def J132_2 (x1 x2 x3 : Addr) (x5 : Int) : HP := semJ (c132 K Kp) [1, 1, 1, 1, 1] [] ([nO, vP x1, vP x2, vP x3, nO, vI x5]++nn 48)
abbrev mk132_3 (x1 x2 x3 : Addr) (x23 x5 x24 : Int) : Fr := ([nO, vP x1, vP x2, vP x3, nO, vI x5, nO, nO, nO, nO, nO, nO, nO, nO, nO, nO, nO, nO, nO, nO, nO, nO, nO, vI x23, vI x24]++nn 29)
def L132_3 (x1 x2 x3 : Addr) (x23 x5 x24 : Int) : HP := semL (c132 K Kp) 2006 [1, 1, 1, 1, 0, 1, 0] [] (mk132_3 x1 x2 x3 x23 x5 x24)
def J132_1 (x1 x2 x3 x4 : Addr) : HP := semJ (c132 K Kp) [1, 1] [] ([nO, vP x1, vP x2, vP x3, vP x4]++nn 49)
variable {K Kp} {x1 x2 x3 x4 : Addr} {x23 x5 : Int} {h : Hp}
theorem J132_2.of (H :
  Ld h (x1.add 1) mI fun t45 =>
  Ld h x1 mI fun t47 =>
  Wr .i64 (t45 + t47) fun t48 =>
  If (decide (x5 < t48)) (
    Ld h x3 mI fun t51 =>
    Fn99 87 t51 h (fun t52_0 t52_1 t52_2 h1 =>
      SY37 h1 x2 t52_0 t52_1 t52_2 fun h2 =>
      LY37 h2 x2 fun r0_0 r0_1 r0_2 =>
      K r0_0 r0_1 r0_2 h2) Kp) (
    SY37 h x2 0 (⟨none, 0, 0⟩ : Sl) 0 fun h1 =>
    LY37 h1 x2 fun r0_0 r0_1 r0_2 =>
    K r0_0 r0_1 r0_2 h1)) :
  J132_2 K Kp x1 x2 x3 x5 h := jof H (by kernel_rfl)
theorem L132_3.rule : LR2 (L132_3 K Kp x1 x2 x3 x23) (mk132_3 x1 x2 x3 x23) fun N1 (x5 : Int) (x24 : Int) h =>
  (If (decide (x24 < x23)) (
    Ld h (x3.add 3) Sl.v fun t28 =>
    Ix t28.a t28.n 1 1 fun a29 =>
    Ld h a29 Sl.v fun t30 =>
    Ld h (x3.add 1) mI fun t32 =>
    Wr .i64 (t32 + x24) fun t34 =>
    Fn158 t30 t34 h (fun t35 h1 =>
      If (decide (t35 ≤ x5)) (
        Fn99 87 x24 h1 (fun t40_0 t40_1 t40_2 h2 =>
          SY37 h2 x2 t40_0 t40_1 t40_2 fun h3 =>
          LY37 h3 x2 fun r0_0 r0_1 r0_2 =>
          K r0_0 r0_1 r0_2 h3) Kp) (
        Wr .i64 (x24 + 1) fun t42 =>
        N1 (mk132_3 x1 x2 x3 x23 t35 t42) h1)) Kp) (
    J132_2 K Kp x1 x2 x3 x5 h)) :=
  loop2 (fun _ _ _ => rfl) fun _ _ _ _ => by kernel_rfl
theorem J132_1.of (H :
  Ld h x3 mI fun t17 =>
  Ld h x4 mI fun t19 =>
  If (t17 != t19) (
    Fn99 6 0 h (fun t21_0 t21_1 t21_2 h1 =>
      SY37 h1 x2 t21_0 t21_1 t21_2 fun h2 =>
      LY37 h2 x2 fun r0_0 r0_1 r0_2 =>
      K r0_0 r0_1 r0_2 h2) Kp) (
    Ld h x3 mI fun t23 =>
    L132_3 K Kp x1 x2 x3 t23 0 0 h)) :
  J132_1 K Kp x1 x2 x3 x4 h := jof H (by kernel_rfl)
theorem Fn132.of {d_0 d_1 d_2 : Int} {d_3 d_4 d_5 : Sl} (H :
  NY33 h d_0 d_1 d_2 d_3 d_4 d_5 fun a1 h1 =>
  New h1 zY37 Y37 fun a2 h2 =>
  Ld h2 (a1.add 4) Sl.v fun t9 =>
  Ix t9.a t9.n 6 0 fun a10 =>
  LY33 h2 a10 fun t11_0 t11_1 t11_2 t11_3 t11_4 t11_5 =>
  Ld h2 (a1.add 4) Sl.v fun t13 =>
  Ix t13.a t13.n 6 1 fun a14 =>
  LY33 h2 a14 fun t15_0 t15_1 t15_2 t15_3 t15_4 t15_5 =>
  (
    New h2 zY33 Y33 fun a3 h3 =>
    Keep h2 h3 a14 6 <|
    Keep h2 h3 (a1.add 4) 1 <|
    Keep h2 h3 a10 6 <|
    Keep h2 h3 (a1.add 4) 1 <|
    New h3 zY33 Y33 fun a4 h4 =>
    Keep h3 h4 a14 6 <|
    Keep h3 h4 (a1.add 4) 1 <|
    Keep h3 h4 a10 6 <|
    Keep h3 h4 (a1.add 4) 1 <|
    SY33 h4 a3 t11_0 t11_1 t11_2 t11_3 t11_4 t11_5 fun h5 =>
    Keep h4 h5 a14 6 <|
    Keep h4 h5 (a1.add 4) 1 <|
    SY33 h5 a4 t15_0 t15_1 t15_2 t15_3 t15_4 t15_5 fun h6 =>
    J132_1 K Kp a1 a2 a3 a4 h6) ∧ (
    New h2 zY33 Y33 fun a4 h3 =>
    Keep h2 h3 a14 6 <|
    Keep h2 h3 (a1.add 4) 1 <|
    Keep h2 h3 a10 6 <|
    Keep h2 h3 (a1.add 4) 1 <|
    New h3 zY33 Y33 fun a3 h4 =>
    Keep h3 h4 a14 6 <|
    Keep h3 h4 (a1.add 4) 1 <|
    Keep h3 h4 a10 6 <|
    Keep h3 h4 (a1.add 4) 1 <|
    SY33 h4 a3 t11_0 t11_1 t11_2 t11_3 t11_4 t11_5 fun h5 =>
    Keep h4 h5 a14 6 <|
    Keep h4 h5 (a1.add 4) 1 <|
    SY33 h5 a4 t15_0 t15_1 t15_2 t15_3 t15_4 t15_5 fun h6 =>
    J132_1 K Kp a1 a2 a3 a4 h6)) :
  Fn132 d_0 d_1 d_2 d_3 d_4 d_5 h K Kp := fnof (ann := ann132) (o := ord132) (zs := z132) (Kv := kv132 K) Tryz.func135 (by kernel_rfl) H (by kernel_rfl) (by kernel_rfl)
end
section
noncomputable def code133 : Code := Tryz.f136.body.getD .skip
def ann133 : Ann := [(2005, [2, 3, 4, 7, 8, 9, 25, 26]), (2000036, [2, 3, 4, 7, 8, 9, 10, 12, 13, 25, 26]), (2037, [2, 3, 4, 7, 8, 9, 10, 25, 26, 191, 192, 193]), (4600017, [2, 3, 4, 7, 8, 9, 10, 11, 12, 13, 25, 26, 41, 52]), (2023, [2, 3, 4, 7, 8, 9, 10, 11, 12, 13, 25, 26, 103, 104, 105]), (2033, [2, 3, 4, 7, 8, 9, 10, 11, 12, 13, 16, 25, 26])]
def ord133 : OrdT := [(13, (OT.l [0, 1, 2, 3, 4, 5, 6, 7, 8] .fin), [0, 0, 3, 7, 0, 16, 63, 127, 255]), (16, (OT.l [0, 1, 2, 3, 4, 5, 6, 7, 8, 9, 11, 12, 13, 14, 15, 10, 16, 17, 18, 19, 20] .fin), [0, 0, 3, 7, 0, 16, 48, 112, 0, 256, 1008, 0, 2048, 6144, 14336, 0, 65520, 131056, 262143, 524287, 1048575]), (18, (OT.l [0, 1, 2, 3, 4, 6, 7, 8, 9, 10, 11, 5, 12, 13, 14] .fin), [0, 1, 3, 7, 0, 31, 0, 64, 192, 448, 0, 1024, 4095, 8191, 16383]), (20, (OT.l [0, 1, 2, 3, 4, 5, 6, 7, 8, 9, 10] .fin), [0, 0, 2, 7, 0, 16, 0, 64, 240, 15, 1023]), (25, (OT.l [0, 1, 2, 3, 4, 5, 6, 7, 8, 9, 10] .fin), [0, 0, 3, 7, 0, 0, 48, 112, 255, 511, 1023]), (28, (OT.l [0, 1, 2, 3, 4, 5, 6, 7, 8, 9, 10, 11, 12, 13, 14, 15, 16, 17, 18, 19, 20, 21, 22, 23, 24] .fin), [0, 0, 3, 7, 0, 0, 32, 96, 224, 0, 992, 2016, 4080, 8176, 0, 16384, 49152, 114688, 0, 507904, 1048560, 2097136, 4194303, 8388607, 16777215]), (30, (OT.l [0, 1, 2, 3, 4, 5, 6, 7, 8, 9, 10, 11, 12] .fin), [0, 0, 0, 4, 12, 0, 0, 0, 224, 508, 1020, 2047, 4095]), (33, (OT.l [0, 1, 2, 3, 4, 5, 6, 7, 9, 8, 10] .fin), [0, 1, 3, 7, 0, 16, 0, 112, 255, 0, 1023])]
def z133 : List Value := [(.slice none 0 0)]
def kv133 (K : Sl → HP) : Value → HP := fun v h => rS v fun r0 => K r0 h
variable (K : Sl → HP) (Kp : PK) (N1 : Fr → HP) 
noncomputable def c133 : Cx := ⟨Tryz.prog, ann133, ord133, none, code133, (retQ Tryz.prog Tryz.f136.results.toList z133 (kv133 K)), Kp⟩
abbrev mk133_1 (x2 : Sl) (x3 x4 x7 : Addr) (x8 : Sl) (x25 x9 x26 : Int) : Fr := ([nO, nO, vS x2, vP x3, vP x4, nO, nO, vP x7, vS x8, vI x9, nO, nO, nO, nO, nO, nO, nO, nO, nO, nO, nO, nO, nO, nO, nO, vI x25, vI x26]++nn 180)
abbrev mk133_3 (x2 : Sl) (x3 x4 x7 : Addr) (x8 : Sl) (x9 x10 x25 x26 : Int) (x191 : Sl) (x192 x193 : Int) : Fr := ([nO, nO, vS x2, vP x3, vP x4, nO, nO, vP x7, vS x8, vI x9, vI x10, nO, nO, nO, nO, nO, nO, nO, nO, nO, nO, nO, nO, nO, nO, vI x25, vI x26, nO, nO, nO, nO, nO, nO, nO, nO, nO, nO, nO, nO, nO, nO, nO, nO, nO, nO, nO, nO, nO, nO, nO, nO, nO, nO, nO, nO, nO, nO, nO, nO, nO, nO, nO, nO, nO, nO, nO, nO, nO, nO, nO, nO, nO, nO, nO, nO, nO, nO, nO, nO, nO, nO, nO, nO, nO, nO, nO, nO, nO, nO, nO, nO, nO, nO, nO, nO, nO, nO, nO, nO, nO, nO, nO, nO, nO, nO, nO, nO, nO, nO, nO, nO, nO, nO, nO, nO, nO, nO, nO, nO, nO, nO, nO, nO, nO, nO, nO, nO, nO, nO, nO, nO, nO, nO, nO, nO, nO, nO, nO, nO, nO, nO, nO, nO, nO, nO, nO, nO, nO, nO, nO, nO, nO, nO, nO, nO, nO, nO, nO, nO, nO, nO, nO, nO, nO, nO, nO, nO, nO, nO, nO, nO, nO, nO, nO, nO, nO, nO, nO, nO, nO, nO, nO, nO, nO, nO, nO, nO, nO, nO, nO, nO, vS x191, vI x192, vI x193]++nn 13)
def L133_3 (x2 : Sl) (x3 x4 x7 : Addr) (x8 : Sl) (x9 x10 x25 x26 : Int) (x191 : Sl) (x192 x193 : Int) : HP := semL (c133 K Kp) 2037 [1, 1, 1, 1, 0, 1, 0, 0, 1, 1, 0, 0, 1, 1, 1, 1, 1, 1, 1, 0] [N1] (mk133_3 x2 x3 x4 x7 x8 x9 x10 x25 x26 x191 x192 x193)
def J133_2 (x2 : Sl) (x3 x4 x7 : Addr) (x8 : Sl) (x9 x10 x12 x13 x25 x26 : Int) : HP := semJ (c133 K Kp) [1, 1, 1, 1, 0, 1, 0, 0, 1, 1, 0, 0, 1, 1, 1, 1, 1, 1] [N1] ([nO, nO, vS x2, vP x3, vP x4, nO, nO, vP x7, vS x8, vI x9, vI x10, nO, vI x12, vI x13, nO, nO, nO, nO, nO, nO, nO, nO, nO, nO, nO, vI x25, vI x26]++nn 180)
abbrev mk133_5 (x2 : Sl) (x3 x4 x7 : Addr) (x8 : Sl) (x9 x10 x11 x12 x13 x25 x26 : Int) (x103 : Sl) (x104 x105 : Int) : Fr := ([nO, nO, vS x2, vP x3, vP x4, nO, nO, vP x7, vS x8, vI x9, vI x10, vI x11, vI x12, vI x13, nO, nO, nO, nO, nO, nO, nO, nO, nO, nO, nO, vI x25, vI x26, nO, nO, nO, nO, nO, nO, nO, nO, nO, nO, nO, nO, nO, nO, nO, nO, nO, nO, nO, nO, nO, nO, nO, nO, nO, nO, nO, nO, nO, nO, nO, nO, nO, nO, nO, nO, nO, nO, nO, nO, nO, nO, nO, nO, nO, nO, nO, nO, nO, nO, nO, nO, nO, nO, nO, nO, nO, nO, nO, nO, nO, nO, nO, nO, nO, nO, nO, nO, nO, nO, nO, nO, nO, nO, nO, nO, vS x103, vI x104, vI x105]++nn 101)
def L133_5 (x2 : Sl) (x3 x4 x7 : Addr) (x8 : Sl) (x9 x10 x11 x12 x13 x25 x26 : Int) (x103 : Sl) (x104 x105 : Int) : HP := semL (c133 K Kp) 2023 [1, 1, 1, 1, 0, 1, 0, 0, 1, 1, 0, 0, 1, 1, 1, 1, 1, 0, 1, 0, 1, 1, 1, 1, 1, 1, 1, 1, 1, 0, 1, 0] [N1] (mk133_5 x2 x3 x4 x7 x8 x9 x10 x11 x12 x13 x25 x26 x103 x104 x105)
abbrev mk133_6 (x2 : Sl) (x3 x4 x7 : Addr) (x8 : Sl) (x10 x11 x12 x13 : Int) (x16 : Addr) (x25 x26 x9 : Int) : Fr := ([nO, nO, vS x2, vP x3, vP x4, nO, nO, vP x7, vS x8, vI x9, vI x10, vI x11, vI x12, vI x13, nO, nO, vP x16, nO, nO, nO, nO, nO, nO, nO, nO, vI x25, vI x26]++nn 180)
def L133_6 (x2 : Sl) (x3 x4 x7 : Addr) (x8 : Sl) (x10 x11 x12 x13 : Int) (x16 : Addr) (x25 x26 x9 : Int) : HP := semL (c133 K Kp) 2033 [1, 1, 1, 1, 0, 1, 0, 0, 1, 1, 0, 0, 1, 1, 1, 1, 1, 0, 1, 0, 1, 1, 1, 1, 1, 1, 1, 1, 1, 1, 1, 1, 1, 1, 1, 0, 1, 0, 0] [N1] (mk133_6 x2 x3 x4 x7 x8 x10 x11 x12 x13 x16 x25 x26 x9)
def J133_4 (x2 : Sl) (x3 x4 x7 : Addr) (x8 : Sl) (x9 x10 x11 x12 x13 x25 x26 x41 : Int) (x52 : Bool) : HP := semJ (c133 K Kp) [1, 1, 1, 1, 0, 1, 0, 0, 1, 1, 0, 0, 1, 1, 1, 1, 1, 0, 1, 0, 1, 1, 1] [N1] ([nO, nO, vS x2, vP x3, vP x4, nO, nO, vP x7, vS x8, vI x9, vI x10, vI x11, vI x12, vI x13, nO, nO, nO, nO, nO, nO, nO, nO, nO, nO, nO, vI x25, vI x26, nO, nO, nO, nO, nO, nO, nO, nO, nO, nO, nO, nO, nO, nO, vI x41, nO, nO, nO, nO, nO, nO, nO, nO, nO, nO, some (.bool x52)]++nn 154)
def L133_1 (x2 : Sl) (x3 x4 x7 : Addr) (x8 : Sl) (x25 x9 x26 : Int) : HP := semL (c133 K Kp) 2005 [1, 1, 1, 1, 0, 1, 0] [] (mk133_1 x2 x3 x4 x7 x8 x25 x9 x26)
variable {K Kp N1} {x2 x8 x103 x191 : Sl} {x3 x4 x7 x16 : Addr} {x9 x10 x11 x12 x13 x25 x26 x104 x41 x192 : Int} {x52 : Bool} {h : Hp}
theorem L133_3.rule : LR1 (L133_3 K Kp N1 x2 x3 x4 x7 x8 x9 x10 x25 x26 x191 x192) (mk133_3 x2 x3 x4 x7 x8 x9 x10 x25 x26 x191 x192) fun N2 (x193 : Int) h =>
  (If (decide (x193 < x192)) (
    Ix x191.a x191.n 1 x193 fun a195 =>
    Ld h a195 mI fun t196 =>
    Ix x8.a x8.n 1 x10 fun a199 =>
    Ld h a199 mI fun t200 =>
    Wr .i64 (t200 + t196) fun t202 =>
    Ix x8.a x8.n 1 x10 fun a203 =>
    St h a203 (.int .i64 t202) fun h1 =>
    Wr .i64 (x193 + 1) fun t204 =>
    N2 (mk133_3 x2 x3 x4 x7 x8 x9 x10 x25 x26 x191 x192 t204) h1) (
    Wr .i64 (x26 + 1) fun t205 =>
    N1 (mk133_1 x2 x3 x4 x7 x8 x25 x9 t205) h)) :=
  loop1 (fun _ _ => rfl) fun _ _ _ => by kernel_rfl
theorem J133_2.of (H :
  Fn160 x2 x12 x13 h (fun t191 h1 =>
    L133_3 K Kp N1 x2 x3 x4 x7 x8 x9 x10 x25 x26 t191 (t191.n : Int) 0 h1) Kp) :
  J133_2 K Kp N1 x2 x3 x4 x7 x8 x9 x10 x12 x13 x25 x26 h := jof H (by kernel_rfl)
theorem L133_5.rule : LR1 (L133_5 K Kp N1 x2 x3 x4 x7 x8 x9 x10 x11 x12 x13 x25 x26 x103 x104) (mk133_5 x2 x3 x4 x7 x8 x9 x10 x11 x12 x13 x25 x26 x103 x104) fun N2 (x105 : Int) h =>
  (If (decide (x105 < x104)) (
    Ix x103.a x103.n 1 x105 fun a107 =>
    Ld h a107 Sl.v fun t108 =>
    Ix x8.a x8.n 1 x10 fun a111 =>
    Ld h a111 mI fun t112 =>
    Ix t108.a t108.n 1 x11 fun a115 =>
    Ld h a115 mI fun t116 =>
    Wr .i64 (t112 + t116) fun t117 =>
    Ix x8.a x8.n 1 x10 fun a118 =>
    St h a118 (.int .i64 t117) fun h1 =>
    Wr .i64 (x105 + 1) fun t119 =>
    N2 (mk133_5 x2 x3 x4 x7 x8 x9 x10 x11 x12 x13 x25 x26 x103 x104 t119) h1) (
    J133_2 K Kp N1 x2 x3 x4 x7 x8 x9 x10 x12 x13 x25 x26 h)) :=
  loop1 (fun _ _ => rfl) fun _ _ _ => by kernel_rfl
theorem L133_6.rule : LR1 (L133_6 K Kp N1 x2 x3 x4 x7 x8 x10 x11 x12 x13 x16 x25 x26) (mk133_6 x2 x3 x4 x7 x8 x10 x11 x12 x13 x16 x25 x26) fun N2 (x9 : Int) h =>
  (Ld h (x16.add 3) Sl.v fun t167 =>
  Ix t167.a t167.n 1 1 fun a168 =>
  Ld h a168 Sl.v fun t169 =>
  Ld h (x16.add 1) mI fun t171 =>
  Wr .i64 (t171 + x9) fun t173 =>
  Fn158 t169 t173 h (fun t174 h1 =>
    If (decide (t174 ≤ x11)) (
      Wr .i64 (x9 + 1) fun t178 =>
      N2 (mk133_6 x2 x3 x4 x7 x8 x10 x11 x12 x13 x16 x25 x26 t178) h1) (
      Ix x2.a x2.n 1 1 fun a182 =>
      Ld h1 a182 Sl.v fun t183 =>
      Ix t183.a t183.n 1 x9 fun a185 =>
      Ld h1 a185 mI fun t186 =>
      Ix x8.a x8.n 1 x10 fun a187 =>
      St h1 a187 (.int .i64 t186) fun h2 =>
      J133_2 K Kp N1 x2 x3 x4 x7 x8 x9 x10 x12 x13 x25 x26 h2)) Kp) :=
  loop1 (fun _ _ => rfl) fun _ _ _ => by kernel_rfl
theorem J133_4.of (H :
  If x52 (
    Ix x8.a x8.n 1 x10 fun a57 =>
    Ld h a57 mI fun t58 =>
    Ld h (x4.add 3) Sl.v fun t60 =>
    Ix t60.a t60.n 1 1 fun a61 =>
    Ld h a61 Sl.v fun t62 =>
    Wr .i64 (x11 + 1) fun t64 =>
    Ld h (x4.add 3) Sl.v fun t67 =>
    Ix t67.a t67.n 1 1 fun a68 =>
    Ld h a68 Sl.v fun t69 =>
    Fn158 t62 t64 h (fun t65 h1 =>
      Keep h h1 a68 1 <|
      Keep h h1 (x4.add 3) 1 <|
      Keep h h1 a57 1 <|
      Fn158 t69 x11 h1 (fun t71 h2 =>
        Keep h1 h2 a57 1 <|
        Wr .i64 (t65 - t71) fun t72 =>
        Wr .i64 (t58 + t72) fun t73 =>
        Ix x8.a x8.n 1 x10 fun a74 =>
        St h2 a74 (.int .i64 t73) fun h3 =>
        J133_2 K Kp N1 x2 x3 x4 x7 x8 x9 x10 x12 x13 x25 x26 h3) Kp) Kp) (
    If (x41 == 15) (
      Ld h (x4.add 3) Sl.v fun t78 =>
      Ix t78.a t78.n 1 1 fun a79 =>
      Ld h a79 Sl.v fun t80 =>
      Ld h (x4.add 3) Sl.v fun t84 =>
      Ix t84.a t84.n 1 1 fun a85 =>
      Ld h a85 Sl.v fun t86 =>
      Wr .i64 (x11 + 1) fun t88 =>
      Fn158 t80 x11 h (fun t82 h1 =>
        Keep h h1 a85 1 <|
        Keep h h1 (x4.add 3) 1 <|
        Fn158 t86 t88 h1 (fun t89 h2 =>
          J133_2 K Kp N1 x2 x3 x4 x7 x8 x9 x10 t82 t89 x25 x26 h2) Kp) Kp) (
      If (x41 == 16) (
        Ld h (x7.add 1) mI fun t94 =>
        Wr .i64 (x11 * t94) fun t95 =>
        Wr .i64 (x11 + 1) fun t97 =>
        Ld h (x7.add 1) mI fun t99 =>
        Wr .i64 (t97 * t99) fun t100 =>
        J133_2 K Kp N1 x2 x3 x4 x7 x8 x9 x10 t95 t100 x25 x26 h) (
        If (x41 == 17) (
          L133_5 K Kp N1 x2 x3 x4 x7 x8 x9 x10 x11 x12 x13 x25 x26 x2 (x2.n : Int) 0 h) (
          If (x41 == 18) (
            Ix x8.a x8.n 1 x10 fun a124 =>
            Ld h a124 mI fun t125 =>
            Ld h (x4.add 3) Sl.v fun t128 =>
            Ix t128.a t128.n 1 0 fun a129 =>
            Ld h a129 Sl.v fun t130 =>
            Ix t130.a t130.n 1 x11 fun a132 =>
            Ld h a132 (.int .u8) fun t133 =>
            Ix x2.a x2.n 1 t133 fun a134 =>
            Ld h a134 Sl.v fun t135 =>
            Ld h (x4.add 3) Sl.v fun t137 =>
            Ix t137.a t137.n 1 1 fun a138 =>
            Ld h a138 Sl.v fun t139 =>
            Fn158 t139 x11 h (fun t141 h1 =>
              Keep h h1 a134 1 <|
              Keep h h1 a132 1 <|
              Keep h h1 a129 1 <|
              Keep h h1 (x4.add 3) 1 <|
              Keep h h1 a124 1 <|
              Ix t135.a t135.n 1 t141 fun a142 =>
              Ld h1 a142 mI fun t143 =>
              Wr .i64 (t125 + t143) fun t144 =>
              Ix x8.a x8.n 1 x10 fun a145 =>
              St h1 a145 (.int .i64 t144) fun h2 =>
              J133_2 K Kp N1 x2 x3 x4 x7 x8 x9 x10 x12 x13 x25 x26 h2) Kp) (
            If (x41 == 19) (
              Ix x2.a x2.n 1 0 fun a151 =>
              Ld h a151 Sl.v fun t152 =>
              LY29 h x3 fun t153_0 t153_1 t153_2 t153_3 t153_4 t153_5 t153_6 =>
              LY33 h x4 fun t154_0 t154_1 t154_2 t154_3 t154_4 t154_5 =>
              Fn159 t153_0 t153_1 t153_2 t153_3 t153_4 t153_5 t153_6 t154_0 t154_1 t154_2 t154_3 t154_4 t154_5 x11 h (fun t156 h1 =>
                Keep h h1 a151 1 <|
                Ix t152.a t152.n 1 t156 fun a157 =>
                Ld h1 a157 mI fun t158 =>
                Ix x8.a x8.n 1 x10 fun a159 =>
                St h1 a159 (.int .i64 t158) fun h2 =>
                J133_2 K Kp N1 x2 x3 x4 x7 x8 x9 x10 x12 x13 x25 x26 h2) Kp) (
              If (x41 == 20) (
                Ld h (x4.add 4) Sl.v fun t163 =>
                Ix t163.a t163.n 6 0 fun a164 =>
                LY33 h a164 fun t165_0 t165_1 t165_2 t165_3 t165_4 t165_5 =>
                New h zY33 Y33 fun a16 h1 =>
                SY33 h1 a16 t165_0 t165_1 t165_2 t165_3 t165_4 t165_5 fun h2 =>
                L133_6 K Kp N1 x2 x3 x4 x7 x8 x10 x11 x12 x13 a16 x25 x26 x9 h2) (
                J133_2 K Kp N1 x2 x3 x4 x7 x8 x9 x10 x12 x13 x25 x26 h)))))))) :
  J133_4 K Kp N1 x2 x3 x4 x7 x8 x9 x10 x11 x12 x13 x25 x26 x41 x52 h := jof H (by kernel_rfl)
theorem L133_1.rule : LR2 (L133_1 K Kp x2 x3 x4 x7 x8 x25) (mk133_1 x2 x3 x4 x7 x8 x25) fun N1 (x9 : Int) (x26 : Int) h =>
  (If (decide (x26 < x25)) (
    Ld h (x4.add 1) mI fun t30 =>
    Wr .i64 (t30 + x26) fun t32 =>
    Ix x8.a x8.n 1 x26 fun a35 =>
    St h a35 (.int .i64 16) fun h1 =>
    LY29 h1 x3 fun t36_0 t36_1 t36_2 t36_3 t36_4 t36_5 t36_6 =>
    LY33 h1 x4 fun t37_0 t37_1 t37_2 t37_3 t37_4 t37_5 =>
    Fn105 t36_0 t36_1 t36_2 t36_3 t36_4 t36_5 t36_6 t37_0 t37_1 t37_2 t37_3 t37_4 t37_5 t32 h1 (fun t39 h2 =>
      If t39 (
        Wr .i64 (x26 + 1) fun t205 =>
        N1 (mk133_1 x2 x3 x4 x7 x8 x25 x9 t205) h2) (
        Ld h2 x7 mI fun t41 =>
        If (t41 == 14) (
          Ix x8.a x8.n 1 x26 fun a46 =>
          Ld h2 a46 mI fun t47 =>
          Ld h2 (x7.add 1) mI fun t49 =>
          Wr .i64 (t47 + t49) fun t50 =>
          Ix x8.a x8.n 1 x26 fun a51 =>
          St h2 a51 (.int .i64 t50) fun h3 =>
          J133_2 K Kp N1 x2 x3 x4 x7 x8 x9 x26 0 0 x25 x26 h3) (
          If (t41 == 12) (
            J133_4 K Kp N1 x2 x3 x4 x7 x8 x9 x26 t32 0 0 x25 x26 t41 (t41 == 12) h2) (
            J133_4 K Kp N1 x2 x3 x4 x7 x8 x9 x26 t32 0 0 x25 x26 t41 (t41 == 13) h2)))) Kp) (
    K x8 h)) :=
  loop2 (fun _ _ _ => rfl) fun _ _ _ _ => by kernel_rfl
theorem Fn133.of {f_0 : ByteArray} {f_1 : Bool} {f_2 f_3 f_4 f_5 : Int} {f_6 : Sl} {d_0 d_1 d_2 : Int} {d_3 d_4 d_5 within : Sl} (H :
  NY29 h f_0 f_1 f_2 f_3 f_4 f_5 f_6 fun a3 h1 =>
  NY33 h1 d_0 d_1 d_2 d_3 d_4 d_5 fun a4 h2 =>
  LY27 h2 (a3.add 2) fun t20_0 t20_1 t20_2 t20_3 t20_4 =>
  New h2 zY27 Y27 fun a7 h3 =>
  SY27 h3 a7 t20_0 t20_1 t20_2 t20_3 t20_4 fun h4 =>
  Ld h4 a4 mI fun t22 =>
  MkS h4 Y6 #[(.int .i64 0)] 1 8 t22 t22 fun t23 h5 =>
  L133_1 K Kp within a3 a4 a7 t23 (t23.n : Int) 0 0 h5) :
  Fn133 f_0 f_1 f_2 f_3 f_4 f_5 f_6 d_0 d_1 d_2 d_3 d_4 d_5 within h K Kp := fnof (ann := ann133) (o := ord133) (zs := z133) (Kv := kv133 K) Tryz.func136 (by kernel_rfl) H (by kernel_rfl) (by kernel_rfl)
end
section
def ann134 : Ann := []
def ord134 : OrdT := []
def z134 : List Value := [(.bool false), (.int .i64 0)]
def kv134 (K : Bool → Int → HP) : Value → HP := fun v h => rU v fun vs => rB (vs.getD 0 undef) fun r0 => rI (vs.getD 1 undef) fun r1 => K r0 r1 h
variable (K : Bool → Int → HP) (Kp : PK) 
variable {K Kp} {h : Hp}
theorem Fn134.of {b : Sl} {i : Int} (H :
  If (decide (i < 0)) (
    K false 1 h) (
    Dv 8 <| Wr .i64 (Int.tdiv i 8) fun t11 =>
    If (decide (t11 ≥ (b.n : Int))) (
      K false 2 h) (
      Fn161 b i h (fun t17 h1 =>
        K t17 0 h1) Kp))) :
  Fn134 b i h K Kp := fnof (ann := ann134) (o := ord134) (zs := z134) (Kv := kv134 K) Tryz.func137 (by kernel_rfl) H (by kernel_rfl) (by kernel_rfl)
end
section
def ann135 : Ann := []
def ord135 : OrdT := []
def z135 : List Value := [(.agg #[(.bool false), (.int .i64 0), (.string (bs [])), (.slice none 0 0)])]
def kv135 (K : Bool → Int → ByteArray → Sl → HP) : Value → HP := fun v h => rG v fun cs0 => rB (cs0.getD 0 undef) fun r0_0 => rI (cs0.getD 1 undef) fun r0_1 => rT (cs0.getD 2 undef) fun r0_2 => rS (cs0.getD 3 undef) fun r0_3 => K r0_0 r0_1 r0_2 r0_3 h
variable (K : Bool → Int → ByteArray → Sl → HP) (Kp : PK) 
variable {K Kp} {h : Hp}
theorem Fn135.of {a : Option Addr} {r : Int} {left : Option Addr} (H :
  New h zY66 Y66 fun a6 h1 =>
  Fn68 a r h1 (fun t9 h2 =>
    If t9 (
      Fn162 left 16 h2 (fun h3 =>
        SY66 h3 a6 true 0 (bs []) (⟨none, 0, 0⟩ : Sl) fun h4 =>
        LY66 h4 a6 fun r0_0 r0_1 r0_2 r0_3 =>
        K r0_0 r0_1 r0_2 r0_3 h4) Kp) (
      NN a fun p14 =>
      Ld h2 (p14.add 16) id fun t16 =>
      CallI Tryz.prog t16 "colonnade/array.read" [(.pointer a), (.int .i64 r), (.pointer left)] h2 (fun r_2 h3 => ∃ t20_0 : Bool, ∃ t20_1 : Int, ∃ t20_2 : ByteArray, ∃ t20_3 : Sl, r_2 = (.agg #[(.bool t20_0), (.int .i64 t20_1), (.string t20_2), (Sl.v t20_3)]) ∧
        SY66 h3 a6 t20_0 t20_1 t20_2 t20_3 fun h4 =>
        LY66 h4 a6 fun r0_0 r0_1 r0_2 r0_3 =>
        K r0_0 r0_1 r0_2 r0_3 h4) Kp)) Kp) :
  Fn135 a r left h K Kp := fnof (ann := ann135) (o := ord135) (zs := z135) (Kv := kv135 K) Tryz.func138 (by kernel_rfl) H (by kernel_rfl) (by kernel_rfl)
end
section
def ann136 : Ann := []
def ord136 : OrdT := []
def z136 : List Value := [(.agg #[(.slice none 0 0), (.int .i64 0), (.pointer none)])]
def kv136 (K : Sl → Int → (Option Addr) → HP) : Value → HP := fun v h => rG v fun cs0 => rS (cs0.getD 0 undef) fun r0_0 => rI (cs0.getD 1 undef) fun r0_1 => rP (cs0.getD 2 undef) fun r0_2 => K r0_0 r0_1 r0_2 h
variable (K : Sl → Int → (Option Addr) → HP) (Kp : PK) 
variable {K Kp} {h : Hp}
theorem Fn136.of {b : Sl} (H :
  New h zY167 Y167 fun a2 h1 =>
  Slc b 1 none (some (b.n : Int)) (some (b.n : Int)) fun t8 =>
  SY167 h1 a2 t8 0 none fun h2 =>
  LY167 h2 a2 fun r0_0 r0_1 r0_2 =>
  K r0_0 r0_1 r0_2 h2) :
  Fn136 b h K Kp := fnof (ann := ann136) (o := ord136) (zs := z136) (Kv := kv136 K) Tryz.func139 (by kernel_rfl) H (by kernel_rfl) (by kernel_rfl)
end
end Go.Proofs.YtcgdhhchjgbhnaaGreatDoor
set_option maxRecDepth 100000
set_option maxHeartbeats 200000
/- What the functions do, printed by program (gen.py) in the words of ShCore; each text is held against the loaded program by the kernel. -/
namespace Go.Proofs.YtcgdhhchjgbhnaaGreatDoor
open Go Go.Sh
section
def ann137 : Ann := []
def ord137 : OrdT := []
def z137 : List Value := [(.agg #[(.slice none 0 0), (.int .i64 0), (.pointer none)])]
def kv137 (K : Sl → Int → (Option Addr) → HP) : Value → HP := fun v h => rG v fun cs0 => rS (cs0.getD 0 undef) fun r0_0 => rI (cs0.getD 1 undef) fun r0_1 => rP (cs0.getD 2 undef) fun r0_2 => K r0_0 r0_1 r0_2 h
variable (K : Sl → Int → (Option Addr) → HP) (Kp : PK) 
variable {K Kp} {h : Hp}
theorem Fn137.of {v_0 : Sl} {v_1 : Int} {v_2 w : Option Addr} (H :
  NY167 h v_0 v_1 v_2 fun a2 h1 =>
  New h1 zY167 Y167 fun a4 h2 =>
  St h2 (a2.add 2) (.pointer w) fun h3 =>
  LY167 h3 a2 fun t7_0 t7_1 t7_2 =>
  SY167 h3 a4 t7_0 t7_1 t7_2 fun h4 =>
  LY167 h4 a4 fun r0_0 r0_1 r0_2 =>
  K r0_0 r0_1 r0_2 h4) :
  Fn137 v_0 v_1 v_2 w h K Kp := fnof (ann := ann137) (o := ord137) (zs := z137) (Kv := kv137 K) Tryz.func140 (by kernel_rfl) H (by kernel_rfl) (by kernel_rfl)
end
section
def ann138 : Ann := []
def ord138 : OrdT := []
def z138 : List Value := [(.int .u64 0), (.int .i64 0)]
def kv138 (K : Int → Int → HP) : Value → HP := fun v h => rU v fun vs => rI (vs.getD 0 undef) fun r0 => rI (vs.getD 1 undef) fun r1 => K r0 r1 h
variable (K : Int → Int → HP) (Kp : PK) 
variable {K Kp} {h : Hp}
theorem Fn138.of {v_0 : Sl} {v_1 : Int} {v_2 : Option Addr} {atv width : Int} (H :
  NY167 h v_0 v_1 v_2 fun a3 h1 =>
  Fn163 width h1 (fun t9 h2 =>
    If (!t9) (
      K 0 1 h2) (
      LY167 h2 a3 fun t11_0 t11_1 t11_2 =>
      Fn139 t11_0 t11_1 t11_2 atv width h2 (fun t14 h3 =>
        If (!t14) (
          K 0 2 h3) (
          LY167 h3 a3 fun t16_0 t16_1 t16_2 =>
          Fn140 t16_0 t16_1 t16_2 atv width h3 (fun t19 h4 =>
            Fn164 t19 h4 (fun t20 h5 =>
              K t20 0 h5) Kp) Kp)) Kp)) Kp) :
  Fn138 v_0 v_1 v_2 atv width h K Kp := fnof (ann := ann138) (o := ord138) (zs := z138) (Kv := kv138 K) Tryz.func141 (by kernel_rfl) H (by kernel_rfl) (by kernel_rfl)
end
section
noncomputable def code139 : Code := Tryz.f142.body.getD .skip
def ann139 : Ann := [(41006, [1, 2, 3, 12]), (41013, [1, 2, 3, 19])]
def ord139 : OrdT := []
def z139 : List Value := [(.bool false)]
def kv139 (K : Bool → HP) : Value → HP := fun v h => rB v fun r0 => K r0 h
variable (K : Bool → HP) (Kp : PK) 
noncomputable def c139 : Cx := ⟨Tryz.prog, ann139, ord139, none, code139, (retQ Tryz.prog Tryz.f142.results.toList z139 (kv139 K)), Kp⟩
def J139_2 (x1 x2 : Int) (x3 : Addr) (x19 : Bool) : HP := semR (c139 K Kp) [1, 0] [] 1 [13, 14, 15, 16, 17, 18, 19, 20, 21, 22] ([nO, vI x1, vI x2, vP x3, nO, nO, nO, nO, nO, nO, nO, nO, nO, nO, nO, nO, nO, nO, nO, some (.bool x19)]++nn 9)
def J139_1 (x1 x2 : Int) (x3 : Addr) (x12 : Bool) : HP := semR (c139 K Kp) [1, 0] [] 1 [6, 7, 8, 9, 10, 11, 12, 13, 14, 15, 16, 17, 18, 19, 20, 21, 22] ([nO, vI x1, vI x2, vP x3, nO, nO, nO, nO, nO, nO, nO, nO, some (.bool x12)]++nn 16)
variable {K Kp} {x1 x2 : Int} {x3 : Addr} {x19 x12 : Bool} {h : Hp}
theorem J139_2.of (H :
  If x19 (
    Ld h x3 Sl.v fun t23 =>
    Wr .i64 ((t23.n : Int) - x1) fun t26 =>
    K (decide (x2 ≤ t26)) h) (
    K false h)) :
  J139_2 K Kp x1 x2 x3 x19 h := jof H (by kernel_rfl)
theorem J139_1.of (H :
  If x12 (
    Ld h x3 Sl.v fun t16 =>
    J139_2 K Kp x1 x2 x3 (decide (x1 ≤ (t16.n : Int))) h) (
    J139_2 K Kp x1 x2 x3 false h)) :
  J139_1 K Kp x1 x2 x3 x12 h := jof H (by kernel_rfl)
theorem Fn139.of {v_0 : Sl} {v_1 : Int} {v_2 : Option Addr} {fromv n : Int} (H :
  NY167 h v_0 v_1 v_2 fun a3 h1 =>
  If (decide (fromv ≥ 0)) (
    J139_1 K Kp fromv n a3 (decide (n ≥ 0)) h1) (
    J139_1 K Kp fromv n a3 false h1)) :
  Fn139 v_0 v_1 v_2 fromv n h K Kp := fnof (ann := ann139) (o := ord139) (zs := z139) (Kv := kv139 K) Tryz.func142 (by kernel_rfl) H (by kernel_rfl) (by kernel_rfl)
end
section
noncomputable def code140 : Code := Tryz.f143.body.getD .skip
def ann140 : Ann := [(3209999, [1, 2, 3, 13])]
def ord140 : OrdT := [(2, (OT.l [0, 1, 2, 3, 4, 5, 6, 7, 8, 9, 10, 11, 12, 13, 14, 15, 16, 17, 18, 19, 20, 21, 22] .fin), [0, 1, 0, 4, 12, 28, 60, 0, 128, 0, 896, 0, 2048, 0, 14336, 0, 63488, 130944, 262016, 524284, 1048575, 2097151, 4194303])]
def z140 : List Value := [(.slice none 0 0)]
def kv140 (K : Sl → HP) : Value → HP := fun v h => rS v fun r0 => K r0 h
variable (K : Sl → HP) (Kp : PK) 
noncomputable def c140 : Cx := ⟨Tryz.prog, ann140, ord140, none, code140, (retQ Tryz.prog Tryz.f143.results.toList z140 (kv140 K)), Kp⟩
def J140_1 (x1 x2 : Int) (x3 : Addr) (x13 : Bool) : HP := semJ (c140 K Kp) [1, 0, 1] [] ([nO, vI x1, vI x2, vP x3, nO, nO, nO, nO, nO, nO, nO, nO, nO, some (.bool x13)]++nn 32)
variable {K Kp} {x1 x2 : Int} {x3 : Addr} {x13 : Bool} {h : Hp}
theorem J140_1.of (H :
  If x13 (
    Ld h (x3.add 2) .pointer fun t15 =>
    Ld h (x3.add 2) .pointer fun t17 =>
    NN t17 fun p18 =>
    Ld h p18 Sl.v fun t20 =>
    Ld h (x3.add 1) mI fun t22 =>
    Wr .i64 (t22 + x1) fun t24 =>
    Ld h (x3.add 1) mI fun t26 =>
    Wr .i64 (t26 + x1) fun t28 =>
    Wr .i64 (t28 + x2) fun t30 =>
    New h #[(.int .i64 t24), (.int .i64 t30)] Y138 fun a32 h1 =>
    Keep h h1 p18 1 <|
    Keep h h1 (x3.add 2) 1 <|
    Keep h h1 (x3.add 2) 1 <|
    Ap h1 Y138 #[(.int .i64 0), (.int .i64 0)] 2 16 t20 1 (rd h1 (some a32) (1 * 2)) fun t33 h2 =>
    Keep h1 h2 (x3.add 2) 1 <|
    NN t15 fun p34 =>
    St h2 p34 (Sl.v t33) fun h3 =>
    Ld h3 x3 Sl.v fun t37 =>
    Wr .i64 (x1 + x2) fun t41 =>
    Wr .i64 (x1 + x2) fun t44 =>
    Slc t37 1 (some x1) (some t41) (some t44) fun t45 =>
    K t45 h3) (
    Ld h x3 Sl.v fun t37 =>
    Wr .i64 (x1 + x2) fun t41 =>
    Wr .i64 (x1 + x2) fun t44 =>
    Slc t37 1 (some x1) (some t41) (some t44) fun t45 =>
    K t45 h)) :
  J140_1 K Kp x1 x2 x3 x13 h := jof H (by kernel_rfl)
theorem Fn140.of {v_0 : Sl} {v_1 : Int} {v_2 : Option Addr} {fromv n : Int} (H :
  NY167 h v_0 v_1 v_2 fun a3 h1 =>
  Ld h1 (a3.add 2) .pointer fun t8 =>
  If (!(Option.isNone t8)) (
    J140_1 K Kp fromv n a3 (decide (n > 0)) h1) (
    J140_1 K Kp fromv n a3 false h1)) :
  Fn140 v_0 v_1 v_2 fromv n h K Kp := fnof (ann := ann140) (o := ord140) (zs := z140) (Kv := kv140 K) Tryz.func143 (by kernel_rfl) H (by kernel_rfl) (by kernel_rfl)
end
section
noncomputable def code141 : Code := Tryz.f144.body.getD .skip
def ann141 : Ann := [(44007, [2, 9, 11, 36])]
def ord141 : OrdT := []
def z141 : List Value := [(.int .i64 0), (.int .i64 0)]
def kv141 (K : Int → Int → HP) : Value → HP := fun v h => rU v fun vs => rI (vs.getD 0 undef) fun r0 => rI (vs.getD 1 undef) fun r1 => K r0 r1 h
variable (K : Int → Int → HP) (Kp : PK) 
noncomputable def c141 : Cx := ⟨Tryz.prog, ann141, ord141, none, code141, (retQ Tryz.prog Tryz.f144.results.toList z141 (kv141 K)), Kp⟩
def J141_1 (x2 x9 x11 : Int) (x36 : Bool) : HP := semR (c141 K Kp) [1, 1, 1, 1, 0, 0] [] 4 [7, 8, 9, 10, 11] ([nO, nO, vI x2, nO, nO, nO, nO, nO, nO, vI x9, nO, vI x11, nO, nO, nO, nO, nO, nO, nO, nO, nO, nO, nO, nO, nO, nO, nO, nO, nO, nO, nO, nO, nO, nO, nO, nO, some (.bool x36)]++nn 9)
variable {K Kp} {x2 x9 x11 : Int} {x36 : Bool} {h : Hp}
theorem J141_1.of (H :
  If x36 (
    Kp [{ v := (.iface Y162 (.agg #[])), recovered := false }] h) (
    If (decide (x11 > x2)) (
      Kp [{ v := (.iface Y162 (.agg #[])), recovered := false }] h) (
      K x9 x11 h))) :
  J141_1 K Kp x2 x9 x11 x36 h := jof H (by kernel_rfl)
theorem Fn141.of {a : Option Addr} {r most : Int} (H :
  Fn112 a 1 h (fun t14_0 t14_1 t14_2 h1 =>
    New h1 zY167 Y167 fun a8 h2 =>
    SY167 h2 a8 t14_0 t14_1 t14_2 fun h3 =>
    LY167 h3 a8 fun t16_0 t16_1 t16_2 =>
    Wr .i64 ((4 : Int) * r) fun t18 =>
    Fn113 t16_0 t16_1 t16_2 t18 4 h3 (fun t19_0 t19_1 h4 =>
      LY167 h4 a8 fun t23_0 t23_1 t23_2 =>
      Wr .i64 ((4 : Int) * r) fun t25 =>
      Wr .i64 (t25 + 4) fun t26 =>
      Fn113 t23_0 t23_1 t23_2 t26 4 h4 (fun t27_0 t27_1 h5 =>
        If (decide (t19_0 < 0)) (
          J141_1 K Kp most t19_0 t27_0 true h5) (
          J141_1 K Kp most t19_0 t27_0 (decide (t27_0 < t19_0)) h5)) Kp) Kp) Kp) :
  Fn141 a r most h K Kp := fnof (ann := ann141) (o := ord141) (zs := z141) (Kv := kv141 K) Tryz.func144 (by kernel_rfl) H (by kernel_rfl) (by kernel_rfl)
end
end Go.Proofs.YtcgdhhchjgbhnaaGreatDoor
set_option maxRecDepth 100000
set_option maxHeartbeats 200000
/- What the functions do, printed by program (gen.py) in the words of ShCore; each text is held against the loaded program by the kernel. -/
namespace Go.Proofs.YtcgdhhchjgbhnaaGreatDoor
open Go Go.Sh
section
def ann152 : Ann := []
def ord152 : OrdT := []
def z152 : List Value := [(.nilFunc)]
def kv152 (K : Value → HP) : Value → HP := fun v h => rA v fun r0 => K r0 h
variable (K : Value → HP) (Kp : PK) 
variable {K Kp} {h : Hp}
theorem Fn152.of {l : Sl} {most : Int} (H :
  New h #[(Sl.v l)] Y25 fun a2 h1 =>
  New h1 #[(.int .i64 most)] Y6 fun a3 h2 =>
  K (.func (.func I170) #[] #[(.pointer (some a3)), (.pointer (some a2))]) h2) :
  Fn152 l most h K Kp := fnof (ann := ann152) (o := ord152) (zs := z152) (Kv := kv152 K) Tryz.func155 (by kernel_rfl) H (by kernel_rfl) (by kernel_rfl)
end
section
noncomputable def code153 : Code := Tryz.f156.body.getD .skip
def ann153 : Ann := [(1002900016, [7, 9, 48])]
def ord153 : OrdT := []
def z153 : List Value := [(.int .i64 0)]
def kv153 (K : Int → HP) : Value → HP := fun v h => rI v fun r0 => K r0 h
variable (K : Int → HP) (Kp : PK) 
noncomputable def c153 : Cx := ⟨Tryz.prog, ann153, ord153, none, code153, (retQ Tryz.prog Tryz.f156.results.toList z153 (kv153 K)), Kp⟩
def J153_1 (x7 : Addr) (x9 x48 : Bool) : HP := semJ (c153 K Kp) [1, 1, 1, 0, 0, 1, 1, 1, 1, 1, 1, 1, 1, 1, 1, 1, 1, 0, 1] [] (nn 7++[vP x7, nO, some (.bool x9), nO, nO, nO, nO, nO, nO, nO, nO, nO, nO, nO, nO, nO, nO, nO, nO, nO, nO, nO, nO, nO, nO, nO, nO, nO, nO, nO, nO, nO, nO, nO, nO, nO, nO, nO, nO, nO, nO, some (.bool x48)]++nn 25)
variable {K Kp} {x7 : Addr} {x9 x48 : Bool} {h : Hp}
theorem J153_1.of (H :
  If x48 (
    If x48 (
      K 36 h) (
      K 0 h)) (
    Ld h x7 mI fun t62 =>
    If (t62 == 19) (
      Ld h (x7.add 4) Sl.v fun t66 =>
      Ix t66.a t66.n 7 0 fun a67 =>
      Ld h (a67.add 1) .bool fun t69 =>
      If t69 (
        K 36 h) (
        If x9 (
          K 36 h) (
          K 0 h))) (
      K 0 h))) :
  J153_1 K Kp x7 x9 x48 h := jof H (by kernel_rfl)
theorem Fn153.of {p_0 p_1 : Sl} {p_2 : ByteArray} {p_3 : Bool} {p_4 p_5 p_6 p_7 : Int} {p_8 : Sl} {p_9 : Bool} {ahead : Int} {ids : Option Nat} (H :
  NY224 h p_0 p_1 p_2 p_3 p_4 p_5 p_6 p_7 p_8 p_9 fun a3 h1 =>
  LY27 h1 ((a3.add 2).add 2) fun t12_0 t12_1 t12_2 t12_3 t12_4 =>
  New h1 zY27 Y27 fun a7 h2 =>
  SY27 h2 a7 t12_0 t12_1 t12_2 t12_3 t12_4 fun h3 =>
  Ld h3 (a7.add 2) mI fun t16 =>
  Lk h3 ids (.int .i64) (.int .i64 t16) (.int .i64 0) mI fun t17 t17ok =>
  Ld h3 a3 Sl.v fun t22 =>
  If (decide ((t22.n : Int) > 64)) (
    K 33 h3) (
    If (decide (ahead ≥ 256)) (
      K 34 h3) (
      Ld h3 (a3.add 2) .string fun t31 =>
      Fn172 t31 h3 (fun t32 h4 =>
        If (!t32) (
          K 30 h4) (
          Ld h4 (a3.add 1) Sl.v fun t36 =>
          Fn204 t36 (.func (.func I173) #[] #[(.pointer (some a3))]) h4 (fun t38 h5 =>
            If t38 (
              K 31 h5) (
              LY27 h5 a7 fun t40_0 t40_1 t40_2 t40_3 t40_4 =>
              Fn174 t40_0 t40_1 t40_2 t40_3 t40_4 h5 (fun t41 h6 =>
                If (!t41) (
                  K 32 h6) (
                  LY29 h6 (a3.add 2) fun t45_0 t45_1 t45_2 t45_3 t45_4 t45_5 t45_6 =>
                  Fn175 t45_0 t45_1 t45_2 t45_3 t45_4 t45_5 t45_6 h6 (fun t46 h7 =>
                    If (!t46) (
                      K 35 h7) (
                      Ld h7 (a3.add 9) .bool fun t50 =>
                      If t50 (
                        Ld h7 a7 mI fun t53 =>
                        If (t53 == 19) (
                          J153_1 K Kp a7 t17ok true h7) (
                          Ld h7 a7 mI fun t57 =>
                          J153_1 K Kp a7 t17ok (t57 == 20) h7)) (
                        J153_1 K Kp a7 t17ok false h7))) Kp)) Kp)) Kp)) Kp))) :
  Fn153 p_0 p_1 p_2 p_3 p_4 p_5 p_6 p_7 p_8 p_9 ahead ids h K Kp := fnof (ann := ann153) (o := ord153) (zs := z153) (Kv := kv153 K) Tryz.func156 (by kernel_rfl) H (by kernel_rfl) (by kernel_rfl)
end
section
noncomputable def code154 : Code := Tryz.f157.body.getD .skip
def ann154 : Ann := [(2000005, [1, 4])]
def ord154 : OrdT := [(5, (OT.l [0, 1, 2, 3, 4, 5, 8, 6, 7, 9, 10, 11] .fin), [0, 1, 3, 7, 15, 0, 32, 96, 0, 127, 767, 2047])]
def z154 : List Value := [(.int .i64 0), (.int .i64 0), (.int .i64 0)]
def kv154 (K : Int → Int → Int → HP) : Value → HP := fun v h => rU v fun vs => rI (vs.getD 0 undef) fun r0 => rI (vs.getD 1 undef) fun r1 => rI (vs.getD 2 undef) fun r2 => K r0 r1 r2 h
variable (K : Int → Int → Int → HP) (Kp : PK) 
noncomputable def c154 : Cx := ⟨Tryz.prog, ann154, ord154, none, code154, (retQ Tryz.prog Tryz.f157.results.toList z154 (kv154 K)), Kp⟩
def J154_1 (x1 : Addr) (x4 : Int) : HP := semJ (c154 K Kp) [1, 1, 1] [] ([nO, vP x1, nO, nO, vI x4]++nn 15)
variable {K Kp} {x1 : Addr} {x4 : Int} {h : Hp}
theorem J154_1.of (H :
  Ld h x1 mI fun t12 =>
  Ix (some (⟨0, 0, none⟩)) 21 4 t12 fun a13 =>
  Ld h (a13.add 2) mI fun t15 =>
  LY27 h x1 fun t16_0 t16_1 t16_2 t16_3 t16_4 =>
  Fn177 t16_0 t16_1 t16_2 t16_3 t16_4 h (fun t17 h1 =>
    Keep h h1 (a13.add 2) 1 <|
    Keep h h1 x1 1 <|
    K t15 (t17.n : Int) x4 h1) Kp) :
  J154_1 K Kp x1 x4 h := jof H (by kernel_rfl)
theorem Fn154.of {t_0 t_1 t_2 t_3 : Int} {t_4 : Sl} (H :
  NY27 h t_0 t_1 t_2 t_3 t_4 fun a1 h1 =>
  LY27 h1 a1 fun t5_0 t5_1 t5_2 t5_3 t5_4 =>
  Fn176 t5_0 t5_1 t5_2 t5_3 t5_4 h1 (fun t6 h2 =>
    If (!t6) (
      K (-1) (-1) (-1) h2) (
      Ld h2 a1 mI fun t9 =>
      If (t9 == 19) (
        J154_1 K Kp a1 1 h2) (
        J154_1 K Kp a1 0 h2))) Kp) :
  Fn154 t_0 t_1 t_2 t_3 t_4 h K Kp := fnof (ann := ann154) (o := ord154) (zs := z154) (Kv := kv154 K) Tryz.func157 (by kernel_rfl) H (by kernel_rfl) (by kernel_rfl)
end
section
noncomputable def code155 : Code := Tryz.f158.body.getD .skip
def ann155 : Ann := [(3500006, [1, 2, 4, 18]), (3700008, [2, 4, 27]), (48008, [2, 4, 45])]
def ord155 : OrdT := []
def z155 : List Value := [(.int .i64 0)]
def kv155 (K : Int → HP) : Value → HP := fun v h => rI v fun r0 => K r0 h
variable (K : Int → HP) (Kp : PK) 
noncomputable def c155 : Cx := ⟨Tryz.prog, ann155, ord155, none, code155, (retQ Tryz.prog Tryz.f158.results.toList z155 (kv155 K)), Kp⟩
def J155_3 (x2 : Int) (x4 : Addr) (x45 : Bool) : HP := semR (c155 K Kp) [1, 0, 0, 1, 1, 1, 1, 1, 1, 0] [] 8 [8, 9, 10, 11, 12, 13] ([nO, nO, vI x2, nO, vP x4, nO, nO, nO, nO, nO, nO, nO, nO, nO, nO, nO, nO, nO, nO, nO, nO, nO, nO, nO, nO, nO, nO, nO, nO, nO, nO, nO, nO, nO, nO, nO, nO, nO, nO, nO, nO, nO, nO, nO, nO, some (.bool x45)]++nn 12)
def J155_2 (x2 : Int) (x4 : Addr) (x27 : Bool) : HP := semJ (c155 K Kp) [1, 0, 0, 1, 1, 1, 1, 1] [] ([nO, nO, vI x2, nO, vP x4, nO, nO, nO, nO, nO, nO, nO, nO, nO, nO, nO, nO, nO, nO, nO, nO, nO, nO, nO, nO, nO, nO, some (.bool x27)]++nn 30)
def J155_1 (x1 x2 : Int) (x4 : Addr) (x18 : Bool) : HP := semJ (c155 K Kp) [1, 0, 0, 1, 1, 1] [] ([nO, vI x1, vI x2, nO, vP x4, nO, nO, nO, nO, nO, nO, nO, nO, nO, nO, nO, nO, nO, some (.bool x18)]++nn 39)
variable {K Kp} {x2 x1 : Int} {x4 : Addr} {x45 x27 x18 : Bool} {h : Hp}
theorem J155_3.of (H :
  If x45 (
    Wr .i64 (x2 + 1) fun t52 =>
    Wr .i64 ((4 : Int) * t52) fun t53 =>
    K t53 h) (
    Ld h x4 mI fun t48 =>
    If (t48 == 15) (
      Wr .i64 (x2 + 1) fun t52 =>
      Wr .i64 ((4 : Int) * t52) fun t53 =>
      K t53 h) (
      LY27 h x4 fun t55_0 t55_1 t55_2 t55_3 t55_4 =>
      Fn179 t55_0 t55_1 t55_2 t55_3 t55_4 h (fun t56 h1 =>
        Wr .i64 (x2 * t56) fun t57 =>
        K t57 h1) Kp))) :
  J155_3 K Kp x2 x4 x45 h := jof H (by kernel_rfl)
theorem J155_2.of (H :
  If x27 (
    Fn178 x2 h (fun t36 h1 =>
      K t36 h1) Kp) (
    Ld h x4 mI fun t39 =>
    If (t39 == 12) (
      J155_3 K Kp x2 x4 true h) (
      Ld h x4 mI fun t43 =>
      J155_3 K Kp x2 x4 (t43 == 13) h))) :
  J155_2 K Kp x2 x4 x27 h := jof H (by kernel_rfl)
theorem J155_1.of (H :
  If x18 (
    K 0 h) (
    If (x1 == 0) (
      J155_2 K Kp x2 x4 true h) (
      Ld h x4 mI fun t32 =>
      J155_2 K Kp x2 x4 (t32 == 2) h))) :
  J155_1 K Kp x1 x2 x4 x18 h := jof H (by kernel_rfl)
theorem Fn155.of {t_0 t_1 t_2 t_3 : Int} {t_4 : Sl} {k endv havev : Int} (H :
  NY27 h t_0 t_1 t_2 t_3 t_4 fun a4 h1 =>
  Ld h1 a4 mI fun t11 =>
  If (t11 == 18) (
    Wr .i64 ((3 : Int) * k) fun t15 =>
    Wr .i64 ((1 : Int) + t15) fun t16 =>
    Wr .i64 (endv * t16) fun t17 =>
    K t17 h1) (
    If (k == 0) (
      If (havev == 0) (
        J155_1 K Kp k endv a4 (havev == 0) h1) (
        J155_1 K Kp k endv a4 (k == 2) h1)) (
      J155_1 K Kp k endv a4 (k == 2) h1))) :
  Fn155 t_0 t_1 t_2 t_3 t_4 k endv havev h K Kp := fnof (ann := ann155) (o := ord155) (zs := z155) (Kv := kv155 K) Tryz.func158 (by kernel_rfl) H (by kernel_rfl) (by kernel_rfl)
end
section
def ann156 : Ann := []
def ord156 : OrdT := []
def z156 : List Value := [(.agg #[(.int .i64 0), (.slice none 0 0), (.int .i64 0)])]
def kv156 (K : Int → Sl → Int → HP) : Value → HP := fun v h => rG v fun cs0 => rI (cs0.getD 0 undef) fun r0_0 => rS (cs0.getD 1 undef) fun r0_1 => rI (cs0.getD 2 undef) fun r0_2 => K r0_0 r0_1 r0_2 h
variable (K : Int → Sl → Int → HP) (Kp : PK) 
variable {K Kp} {h : Hp}
theorem Fn156.of {f_0 : ByteArray} {f_1 : Bool} {f_2 f_3 f_4 f_5 : Int} {f_6 : Sl} {d_0 d_1 d_2 : Int} {d_3 d_4 d_5 : Sl} (H :
  NY29 h f_0 f_1 f_2 f_3 f_4 f_5 f_6 fun a2 h1 =>
  NY33 h1 d_0 d_1 d_2 d_3 d_4 d_5 fun a3 h2 =>
  New h2 zY37 Y37 fun a4 h3 =>
  LY29 h3 a2 fun t6_0 t6_1 t6_2 t6_3 t6_4 t6_5 t6_6 =>
  LY33 h3 a3 fun t7_0 t7_1 t7_2 t7_3 t7_4 t7_5 =>
  Fn57 t6_0 t6_1 t6_2 t6_3 t6_4 t6_5 t6_6 t7_0 t7_1 t7_2 t7_3 t7_4 t7_5 h3 (fun t8 h4 =>
    Ld h4 (a3.add 2) mI fun t10 =>
    If (t10 != t8) (
      Fn99 81 1 h4 (fun t22_0 t22_1 t22_2 h5 =>
        SY37 h5 a4 t22_0 t22_1 t22_2 fun h6 =>
        LY37 h6 a4 fun r0_0 r0_1 r0_2 =>
        K r0_0 r0_1 r0_2 h6) Kp) (
      If (decide (t8 > 0)) (
        Ld h4 (a2.add 1) .bool fun t18 =>
        If (!t18) (
          Fn99 81 1 h4 (fun t22_0 t22_1 t22_2 h5 =>
            SY37 h5 a4 t22_0 t22_1 t22_2 fun h6 =>
            LY37 h6 a4 fun r0_0 r0_1 r0_2 =>
            K r0_0 r0_1 r0_2 h6) Kp) (
          SY37 h4 a4 0 (⟨none, 0, 0⟩ : Sl) 0 fun h5 =>
          LY37 h5 a4 fun r0_0 r0_1 r0_2 =>
          K r0_0 r0_1 r0_2 h5)) (
        SY37 h4 a4 0 (⟨none, 0, 0⟩ : Sl) 0 fun h5 =>
        LY37 h5 a4 fun r0_0 r0_1 r0_2 =>
        K r0_0 r0_1 r0_2 h5))) Kp) :
  Fn156 f_0 f_1 f_2 f_3 f_4 f_5 f_6 d_0 d_1 d_2 d_3 d_4 d_5 h K Kp := fnof (ann := ann156) (o := ord156) (zs := z156) (Kv := kv156 K) Tryz.func159 (by kernel_rfl) H (by kernel_rfl) (by kernel_rfl)
end
section
noncomputable def code157 : Code := Tryz.f160.body.getD .skip
def ann157 : Ann := [(2000005, [2, 3, 4, 5]), (2000014, [2, 3, 4]), (2017, [2, 3, 4, 58, 59]), (2007, [2, 3, 4, 5, 6, 27, 28])]
def ord157 : OrdT := [(20, (OT.l [0, 1, 2, 3, 4, 5, 6, 7, 8, 9, 10, 11, 12, 13, 14, 16, 17, 18, 19, 20, 21, 15, 22, 23, 24, 25, 26] .fin), [0, 0, 0, 7, 15, 31, 63, 127, 255, 511, 63, 1087, 3135, 7231, 63, 31807, 63, 65599, 196671, 458815, 63, 1048639, 4193343, 8388607, 16777215, 33554431, 67108863]), (9, (OT.l [0, 1, 2, 3, 4, 5, 6, 7, 8, 9] .fin), [0, 1, 3, 7, 0, 16, 0, 112, 255, 511])]
def z157 : List Value := [(.agg #[(.int .i64 0), (.slice none 0 0), (.int .i64 0)])]
def kv157 (K : Int → Sl → Int → HP) : Value → HP := fun v h => rG v fun cs0 => rI (cs0.getD 0 undef) fun r0_0 => rS (cs0.getD 1 undef) fun r0_1 => rI (cs0.getD 2 undef) fun r0_2 => K r0_0 r0_1 r0_2 h
variable (K : Int → Sl → Int → HP) (Kp : PK) 
noncomputable def c157 : Cx := ⟨Tryz.prog, ann157, ord157, none, code157, (retQ Tryz.prog Tryz.f160.results.toList z157 (kv157 K)), Kp⟩
abbrev mk157_3 (x2 x3 x4 : Addr) (x58 x59 : Int) : Fr := ([nO, nO, vP x2, vP x3, vP x4, nO, nO, nO, nO, nO, nO, nO, nO, nO, nO, nO, nO, nO, nO, nO, nO, nO, nO, nO, nO, nO, nO, nO, nO, nO, nO, nO, nO, nO, nO, nO, nO, nO, nO, nO, nO, nO, nO, nO, nO, nO, nO, nO, nO, nO, nO, nO, nO, nO, nO, nO, nO, nO, vI x58, vI x59]++nn 37)
def L157_3 (x2 x3 x4 : Addr) (x58 x59 : Int) : HP := semL (c157 K Kp) 2017 [1, 1, 1, 1, 1, 1, 0, 1, 0] [] (mk157_3 x2 x3 x4 x58 x59)
def J157_2 (x2 x3 x4 : Addr) : HP := semJ (c157 K Kp) [1, 1, 1, 1, 1] [] ([nO, nO, vP x2, vP x3, vP x4]++nn 92)
abbrev mk157_4 (x2 x3 x4 : Addr) (x5 x27 x6 x28 : Int) : Fr := ([nO, nO, vP x2, vP x3, vP x4, vI x5, vI x6, nO, nO, nO, nO, nO, nO, nO, nO, nO, nO, nO, nO, nO, nO, nO, nO, nO, nO, nO, nO, vI x27, vI x28]++nn 68)
def L157_4 (x2 x3 x4 : Addr) (x5 x27 x6 x28 : Int) : HP := semL (c157 K Kp) 2007 [1, 1, 1, 1, 0, 1, 0] [] (mk157_4 x2 x3 x4 x5 x27 x6 x28)
def J157_1 (x2 x3 x4 : Addr) (x5 : Int) : HP := semJ (c157 K Kp) [1, 1, 1] [] ([nO, nO, vP x2, vP x3, vP x4, vI x5]++nn 91)
variable {K Kp} {x2 x3 x4 : Addr} {x5 x27 x58 : Int} {h : Hp}
theorem L157_3.rule : LR1 (L157_3 K Kp x2 x3 x4 x58) (mk157_3 x2 x3 x4 x58) fun N1 (x59 : Int) h =>
  (If (decide (x59 < x58)) (
    Ld h (x3.add 1) mI fun t63 =>
    Wr .i64 (t63 + x59) fun t65 =>
    LY29 h x2 fun t66_0 t66_1 t66_2 t66_3 t66_4 t66_5 t66_6 =>
    LY33 h x3 fun t67_0 t67_1 t67_2 t67_3 t67_4 t67_5 =>
    Fn105 t66_0 t66_1 t66_2 t66_3 t66_4 t66_5 t66_6 t67_0 t67_1 t67_2 t67_3 t67_4 t67_5 t65 h (fun t69 h1 =>
      If (!t69) (
        Ld h1 (x3.add 3) Sl.v fun t73 =>
        Ix t73.a t73.n 1 2 fun a74 =>
        Ld h1 a74 Sl.v fun t75 =>
        Ld h1 (x3.add 3) Sl.v fun t77 =>
        Ix t77.a t77.n 1 1 fun a78 =>
        Ld h1 a78 Sl.v fun t79 =>
        Ld h1 (x3.add 3) Sl.v fun t83 =>
        Ix t83.a t83.n 1 1 fun a84 =>
        Ld h1 a84 Sl.v fun t85 =>
        Wr .i64 (t65 + 1) fun t87 =>
        Fn158 t79 t65 h1 (fun t81 h2 =>
          Keep h1 h2 a84 1 <|
          Keep h1 h2 (x3.add 3) 1 <|
          Keep h1 h2 a74 1 <|
          Keep h1 h2 (x3.add 3) 1 <|
          Fn158 t85 t87 h2 (fun t88 h3 =>
            Keep h2 h3 a74 1 <|
            Keep h2 h3 (x3.add 3) 1 <|
            Slc t75 1 (some t81) (some t88) none fun t89 =>
            Fn205 t89 h3 (fun t90 h4 =>
              If (!t90) (
                Fn99 84 x59 h4 (fun t94_0 t94_1 t94_2 h5 =>
                  SY37 h5 x4 t94_0 t94_1 t94_2 fun h6 =>
                  LY37 h6 x4 fun r0_0 r0_1 r0_2 =>
                  K r0_0 r0_1 r0_2 h6) Kp) (
                Wr .i64 (x59 + 1) fun t95 =>
                N1 (mk157_3 x2 x3 x4 x58 t95) h4)) Kp) Kp) Kp) (
        Wr .i64 (x59 + 1) fun t95 =>
        N1 (mk157_3 x2 x3 x4 x58 t95) h1)) Kp) (
    SY37 h x4 0 (⟨none, 0, 0⟩ : Sl) 0 fun h1 =>
    LY37 h1 x4 fun r0_0 r0_1 r0_2 =>
    K r0_0 r0_1 r0_2 h1)) :=
  loop1 (fun _ _ => rfl) fun _ _ _ => by kernel_rfl
theorem J157_2.of (H :
  Ld h (x2.add 2) mI fun t54 =>
  If (t54 != 12) (
    SY37 h x4 0 (⟨none, 0, 0⟩ : Sl) 0 fun h1 =>
    LY37 h1 x4 fun r0_0 r0_1 r0_2 =>
    K r0_0 r0_1 r0_2 h1) (
    Ld h x3 mI fun t58 =>
    L157_3 K Kp x2 x3 x4 t58 0 h)) :
  J157_2 K Kp x2 x3 x4 h := jof H (by kernel_rfl)
theorem L157_4.rule : LR2 (L157_4 K Kp x2 x3 x4 x5 x27) (mk157_4 x2 x3 x4 x5 x27) fun N1 (x6 : Int) (x28 : Int) h =>
  (If (decide (x28 < x27)) (
    Ld h (x3.add 3) Sl.v fun t32 =>
    Ix t32.a t32.n 1 1 fun a33 =>
    Ld h a33 Sl.v fun t34 =>
    Ld h (x3.add 1) mI fun t36 =>
    Wr .i64 (t36 + x28) fun t38 =>
    Fn158 t34 t38 h (fun t39 h1 =>
      If (decide (t39 < x6)) (
        Fn99 83 x28 h1 (fun t49_0 t49_1 t49_2 h2 =>
          SY37 h2 x4 t49_0 t49_1 t49_2 fun h3 =>
          LY37 h3 x4 fun r0_0 r0_1 r0_2 =>
          K r0_0 r0_1 r0_2 h3) Kp) (
        If (decide (t39 > x5)) (
          Fn99 83 x28 h1 (fun t49_0 t49_1 t49_2 h2 =>
            SY37 h2 x4 t49_0 t49_1 t49_2 fun h3 =>
            LY37 h3 x4 fun r0_0 r0_1 r0_2 =>
            K r0_0 r0_1 r0_2 h3) Kp) (
          Wr .i64 (x28 + 1) fun t51 =>
          N1 (mk157_4 x2 x3 x4 x5 x27 t39 t51) h1))) Kp) (
    J157_2 K Kp x2 x3 x4 h)) :=
  loop2 (fun _ _ _ => rfl) fun _ _ _ _ => by kernel_rfl
theorem J157_1.of (H :
  Ld h x3 mI fun t26 =>
  Wr .i64 (t26 + 1) fun t27 =>
  L157_4 K Kp x2 x3 x4 x5 t27 0 0 h) :
  J157_1 K Kp x2 x3 x4 x5 h := jof H (by kernel_rfl)
theorem Fn157.of {f_0 : ByteArray} {f_1 : Bool} {f_2 f_3 f_4 f_5 : Int} {f_6 : Sl} {d_0 d_1 d_2 : Int} {d_3 d_4 d_5 : Sl} (H :
  NY29 h f_0 f_1 f_2 f_3 f_4 f_5 f_6 fun a2 h1 =>
  NY33 h1 d_0 d_1 d_2 d_3 d_4 d_5 fun a3 h2 =>
  New h2 zY37 Y37 fun a4 h3 =>
  Ld h3 (a2.add 2) mI fun t13 =>
  If (t13 == 15) (
    Ld h3 (a3.add 4) Sl.v fun t16 =>
    Ix t16.a t16.n 6 0 fun a17 =>
    Ld h3 a17 mI fun t19 =>
    J157_1 K Kp a2 a3 a4 t19 h3) (
    Ld h3 (a3.add 3) Sl.v fun t21 =>
    Ix t21.a t21.n 1 2 fun a22 =>
    Ld h3 a22 Sl.v fun t23 =>
    J157_1 K Kp a2 a3 a4 (t23.n : Int) h3)) :
  Fn157 f_0 f_1 f_2 f_3 f_4 f_5 f_6 d_0 d_1 d_2 d_3 d_4 d_5 h K Kp := fnof (ann := ann157) (o := ord157) (zs := z157) (Kv := kv157 K) Tryz.func160 (by kernel_rfl) H (by kernel_rfl) (by kernel_rfl)
end
section
def ann158 : Ann := []
def ord158 : OrdT := [(2, (OT.l [0, 1, 2, 3, 4, 5, 6, 7, 8, 9, 10, 11, 12, 13, 14, 15, 16, 17, 18, 19, 20, 21, 22, 23, 24] .fin), [0, 1, 3, 7, 0, 16, 48, 112, 240, 511, 0, 1024, 3072, 7168, 15360, 32767, 0, 65536, 196608, 458752, 983040, 2097151, 4194303, 8388607, 16777215])]
def z158 : List Value := [(.int .i64 0)]
def kv158 (K : Int → HP) : Value → HP := fun v h => rI v fun r0 => K r0 h
variable (K : Int → HP) (Kp : PK) 
variable {K Kp} {h : Hp}
theorem Fn158.of {b : Sl} {i : Int} (H :
  Wr .i64 ((4 : Int) * i) fun t7 =>
  Slc b 1 (some t7) none none fun t8 =>
  Ix t8.a t8.n 1 0 fun a10 =>
  Ld h a10 (.int .u8) fun t11 =>
  Wr .u32 t11 fun t12 =>
  Ix t8.a t8.n 1 1 fun a14 =>
  Ld h a14 (.int .u8) fun t15 =>
  Wr .u32 t15 fun t16 =>
  Nn 8 <| Wr .u32 (t16 * 2 ^ (min (Int.toNat 8) (IntKind.bits .u32))) fun t17 =>
  Lt (bitsV .or .u32 t12 t17) fun t18 =>
  Ix t8.a t8.n 1 2 fun a20 =>
  Ld h a20 (.int .u8) fun t21 =>
  Wr .u32 t21 fun t22 =>
  Nn 16 <| Wr .u32 (t22 * 2 ^ (min (Int.toNat 16) (IntKind.bits .u32))) fun t23 =>
  Lt (bitsV .or .u32 t18 t23) fun t24 =>
  Ix t8.a t8.n 1 3 fun a26 =>
  Ld h a26 (.int .u8) fun t27 =>
  Wr .u32 t27 fun t28 =>
  Nn 24 <| Wr .u32 (t28 * 2 ^ (min (Int.toNat 24) (IntKind.bits .u32))) fun t29 =>
  Lt (bitsV .or .u32 t24 t29) fun t30 =>
  Wr .i32 t30 fun t31 =>
  Wr .i64 t31 fun t32 =>
  K t32 h) :
  Fn158 b i h K Kp := fnof (ann := ann158) (o := ord158) (zs := z158) (Kv := kv158 K) Tryz.func161 (by kernel_rfl) H (by kernel_rfl) (by kernel_rfl)
end
section
noncomputable def code159 : Code := Tryz.f162.body.getD .skip
def ann159 : Ann := [(2000009, [3, 4, 7, 8, 9]), (2000010, [4, 9, 12]), (2005, [3, 4, 7, 8, 9, 29, 30, 31])]
def ord159 : OrdT := []
def z159 : List Value := [(.int .i64 0)]
def kv159 (K : Int → HP) : Value → HP := fun v h => rI v fun r0 => K r0 h
variable (K : Int → HP) (Kp : PK) 
noncomputable def c159 : Cx := ⟨Tryz.prog, ann159, ord159, none, code159, (retQ Tryz.prog Tryz.f162.results.toList z159 (kv159 K)), Kp⟩
def J159_2 (x4 : Addr) (x9 : Int) (x12 : Bool) : HP := semJ (c159 K Kp) [1, 1, 1, 1, 1, 1] [] ([nO, nO, nO, nO, vP x4, nO, nO, nO, nO, some (.int .u64 x9), nO, nO, some (.bool x12)]++nn 57)
def J159_1 (x3 x4 : Addr) (x7 : Int) (x8 : Sl) (x9 : Int) : HP := semJ (c159 K Kp) [1, 1, 1, 1, 1] [] ([nO, nO, nO, vP x3, vP x4, nO, nO, vI x7, vS x8, some (.int .u64 x9)]++nn 60)
abbrev mk159_3 (x3 x4 : Addr) (x7 : Int) (x8 x29 : Sl) (x30 x9 x31 : Int) : Fr := ([nO, nO, nO, vP x3, vP x4, nO, nO, vI x7, vS x8, some (.int .u64 x9), nO, nO, nO, nO, nO, nO, nO, nO, nO, nO, nO, nO, nO, nO, nO, nO, nO, nO, nO, vS x29, vI x30, vI x31]++nn 38)
def L159_3 (x3 x4 : Addr) (x7 : Int) (x8 x29 : Sl) (x30 x9 x31 : Int) : HP := semL (c159 K Kp) 2005 [1, 1, 1, 1, 0, 1, 0] [] (mk159_3 x3 x4 x7 x8 x29 x30 x9 x31)
variable {K Kp} {x3 x4 : Addr} {x7 x30 x9 : Int} {x8 x29 : Sl} {x12 : Bool} {h : Hp}
theorem J159_2.of (H :
  If x12 (
    K (-1) h) (
    Ld h (x4.add 5) Sl.v fun t60 =>
    Ix t60.a t60.n 6 0 fun a61 =>
    Ld h a61 mI fun t63 =>
    Lt (if 0 > t63 then 0 else t63) fun t64 =>
    Wr .u64 t64 fun t65 =>
    If (decide (x9 ≥ t65)) (
      K (-1) h) (
      Wr .i64 x9 fun t69 =>
      K t69 h))) :
  J159_2 K Kp x4 x9 x12 h := jof H (by kernel_rfl)
theorem J159_1.of (H :
  Ld h ((x3.add 2).add 3) mI fun t46 =>
  If (decide (t46 ≤ 6)) (
    Wr .i64 (x7 - 1) fun t51 =>
    Ix x8.a x8.n 1 t51 fun a52 =>
    Ld h a52 (.int .u8) fun t53 =>
    J159_2 K Kp x4 x9 (decide (t53 > 127)) h) (
    J159_2 K Kp x4 x9 false h)) :
  J159_1 K Kp x3 x4 x7 x8 x9 h := jof H (by kernel_rfl)
theorem L159_3.rule : LR2 (L159_3 K Kp x3 x4 x7 x8 x29 x30) (mk159_3 x3 x4 x7 x8 x29 x30) fun N1 (x9 : Int) (x31 : Int) h =>
  (If (decide (x31 < x30)) (
    Ix x29.a x29.n 1 x31 fun a34 =>
    Ld h a34 (.int .u8) fun t35 =>
    Wr .u64 t35 fun t38 =>
    Wr .i64 ((8 : Int) * x31) fun t40 =>
    Nn t40 <| Wr .u64 (t38 * 2 ^ (min (Int.toNat t40) (IntKind.bits .u64))) fun t41 =>
    Lt (bitsV .or .u64 x9 t41) fun t42 =>
    Wr .i64 (x31 + 1) fun t43 =>
    N1 (mk159_3 x3 x4 x7 x8 x29 x30 t42 t43) h) (
    J159_1 K Kp x3 x4 x7 x8 x9 h)) :=
  loop2 (fun _ _ _ => rfl) fun _ _ _ _ => by kernel_rfl
theorem Fn159.of {f_0 : ByteArray} {f_1 : Bool} {f_2 f_3 f_4 f_5 : Int} {f_6 : Sl} {d_0 d_1 d_2 : Int} {d_3 d_4 d_5 : Sl} {r : Int} (H :
  NY29 h f_0 f_1 f_2 f_3 f_4 f_5 f_6 fun a3 h1 =>
  NY33 h1 d_0 d_1 d_2 d_3 d_4 d_5 fun a4 h2 =>
  Ld h2 ((a3.add 2).add 3) mI fun t15 =>
  Fn180 t15 h2 (fun t16 h3 =>
    Ld h3 (a4.add 3) Sl.v fun t18 =>
    Ix t18.a t18.n 1 1 fun a19 =>
    Ld h3 a19 Sl.v fun t20 =>
    Wr .i64 (r * t16) fun t23 =>
    Wr .i64 (r + 1) fun t25 =>
    Wr .i64 (t25 * t16) fun t27 =>
    Slc t20 1 (some t23) (some t27) none fun t28 =>
    L159_3 K Kp a3 a4 t16 t28 t28 (t28.n : Int) 0 0 h3) Kp) :
  Fn159 f_0 f_1 f_2 f_3 f_4 f_5 f_6 d_0 d_1 d_2 d_3 d_4 d_5 r h K Kp := fnof (ann := ann159) (o := ord159) (zs := z159) (Kv := kv159 K) Tryz.func162 (by kernel_rfl) H (by kernel_rfl) (by kernel_rfl)
end
section
def ann160 : Ann := []
def ord160 : OrdT := []
def z160 : List Value := [(.slice none 0 0)]
def kv160 (K : Sl → HP) : Value → HP := fun v h => rS v fun r0 => K r0 h
variable (K : Sl → HP) (Kp : PK) 
variable {K Kp} {h : Hp}
theorem Fn160.of {within : Sl} {fromv to : Int} (H :
  If (fromv == to) (
    K (⟨none, 0, 0⟩ : Sl) h) (
    Ix within.a within.n 1 0 fun a11 =>
    Ld h a11 Sl.v fun t12 =>
    Slc t12 1 (some fromv) (some to) none fun t15 =>
    K t15 h)) :
  Fn160 within fromv to h K Kp := fnof (ann := ann160) (o := ord160) (zs := z160) (Kv := kv160 K) Tryz.func163 (by kernel_rfl) H (by kernel_rfl) (by kernel_rfl)
end
section
def ann161 : Ann := []
def ord161 : OrdT := []
def z161 : List Value := [(.bool false)]
def kv161 (K : Bool → HP) : Value → HP := fun v h => rB v fun r0 => K r0 h
variable (K : Bool → HP) (Kp : PK) 
variable {K Kp} {h : Hp}
theorem Fn161.of {b : Sl} {i : Int} (H :
  Dv 8 <| Wr .i64 (Int.tdiv i 8) fun t7 =>
  Ix b.a b.n 1 t7 fun a8 =>
  Ld h a8 (.int .u8) fun t9 =>
  Dv 8 <| Lt (Int.tmod i 8) fun t11 =>
  Nn t11 <| Lt (Int.fdiv t9 (2 ^ (min (Int.toNat t11) (IntKind.bits .u8)))) fun t12 =>
  Lt (bitsV .and .u8 t12 1) fun t13 =>
  K (t13 == 1) h) :
  Fn161 b i h K Kp := fnof (ann := ann161) (o := ord161) (zs := z161) (Kv := kv161 K) Tryz.func164 (by kernel_rfl) H (by kernel_rfl) (by kernel_rfl)
end
section
def ann162 : Ann := []
def ord162 : OrdT := []
def z162 : List Value := []
def kv162 (K : HP) : Value → HP := fun _ h => K h
variable (K : HP) (Kp : PK) 
variable {K Kp} {h : Hp}
theorem Fn162.of {left : Option Addr} {n : Int} (H :
  NN left fun p5 =>
  Ld h p5 mI fun t6 =>
  Wr .i64 (t6 - n) fun t8 =>
  NN left fun p9 =>
  St h p9 (.int .i64 t8) fun h1 =>
  NN left fun p11 =>
  Ld h1 p11 mI fun t12 =>
  If (decide (t12 < 0)) (
    Kp [{ v := (.iface Y162 (.agg #[])), recovered := false }] h1) (
    K  h1)) :
  Fn162 left n h K Kp := fnof (ann := ann162) (o := ord162) (zs := z162) (Kv := kv162 K) Tryz.func165 (by kernel_rfl) H (by kernel_rfl) (by kernel_rfl)
end
section
noncomputable def code163 : Code := Tryz.f166.body.getD .skip
def ann163 : Ann := [(41006, [0, 8]), (41010, [0, 12])]
def ord163 : OrdT := []
def z163 : List Value := [(.bool false)]
def kv163 (K : Bool → HP) : Value → HP := fun v h => rB v fun r0 => K r0 h
variable (K : Bool → HP) (Kp : PK) 
noncomputable def c163 : Cx := ⟨Tryz.prog, ann163, ord163, none, code163, (retQ Tryz.prog Tryz.f166.results.toList z163 (kv163 K)), Kp⟩
def J163_2 (x0 : Int) (x12 : Bool) : HP := semR (c163 K Kp) [1, 0] [] 1 [10, 11, 12, 13, 14] ([vI x0, nO, nO, nO, nO, nO, nO, nO, nO, nO, nO, nO, some (.bool x12)]++nn 4)
def J163_1 (x0 : Int) (x8 : Bool) : HP := semR (c163 K Kp) [1, 0] [] 1 [6, 7, 8, 9, 10, 11, 12, 13, 14] ([vI x0, nO, nO, nO, nO, nO, nO, nO, some (.bool x8)]++nn 8)
variable {K Kp} {x0 : Int} {x12 x8 : Bool} {h : Hp}
theorem J163_2.of (H :
  If x12 (
    K true h) (
    K (x0 == 8) h)) :
  J163_2 K Kp x0 x12 h := jof H (by kernel_rfl)
theorem J163_1.of (H :
  If x8 (
    J163_2 K Kp x0 true h) (
    J163_2 K Kp x0 (x0 == 4) h)) :
  J163_1 K Kp x0 x8 h := jof H (by kernel_rfl)
theorem Fn163.of {width : Int} (H :
  If (width == 1) (
    J163_1 K Kp width true h) (
    J163_1 K Kp width (width == 2) h)) :
  Fn163 width h K Kp := fnof (ann := ann163) (o := ord163) (zs := z163) (Kv := kv163 K) Tryz.func166 (by kernel_rfl) H (by kernel_rfl) (by kernel_rfl)
end
section
noncomputable def code164 : Code := Tryz.f167.body.getD .skip
def ann164 : Ann := [(2003, [3, 6, 7, 8])]
def ord164 : OrdT := []
def z164 : List Value := [(.int .u64 0)]
def kv164 (K : Int → HP) : Value → HP := fun v h => rI v fun r0 => K r0 h
variable (K : Int → HP) (Kp : PK) 
noncomputable def c164 : Cx := ⟨Tryz.prog, ann164, ord164, none, code164, (retQ Tryz.prog Tryz.f167.results.toList z164 (kv164 K)), Kp⟩
abbrev mk164_1 (x6 : Sl) (x7 x3 x8 : Int) : Fr := ([nO, nO, nO, some (.int .u64 x3), nO, nO, vS x6, vI x7, vI x8]++nn 13)
def L164_1 (x6 : Sl) (x7 x3 x8 : Int) : HP := semL (c164 K Kp) 2003 [1, 1, 0, 1, 0] [] (mk164_1 x6 x7 x3 x8)
variable {K Kp} {x6 : Sl} {x7 : Int} {h : Hp}
theorem L164_1.rule : LR2 (L164_1 K Kp x6 x7) (mk164_1 x6 x7) fun N1 (x3 : Int) (x8 : Int) h =>
  (If (decide (x8 < x7)) (
    Ix x6.a x6.n 1 x8 fun a11 =>
    Ld h a11 (.int .u8) fun t12 =>
    Wr .u64 t12 fun t15 =>
    Wr .i64 ((8 : Int) * x8) fun t17 =>
    Nn t17 <| Wr .u64 (t15 * 2 ^ (min (Int.toNat t17) (IntKind.bits .u64))) fun t18 =>
    Lt (bitsV .or .u64 x3 t18) fun t19 =>
    Wr .i64 (x8 + 1) fun t20 =>
    N1 (mk164_1 x6 x7 t19 t20) h) (
    K x3 h)) :=
  loop2 (fun _ _ _ => rfl) fun _ _ _ _ => by kernel_rfl
theorem Fn164.of {b : Sl} (H :
  L164_1 K Kp b (b.n : Int) 0 0 h) :
  Fn164 b h K Kp := fnof (ann := ann164) (o := ord164) (zs := z164) (Kv := kv164 K) Tryz.func167 (by kernel_rfl) H (by kernel_rfl) (by kernel_rfl)
end
end Go.Proofs.YtcgdhhchjgbhnaaGreatDoor
set_option maxRecDepth 100000
set_option maxHeartbeats 200000
/- What the functions do, printed by program (gen.py) in the words of ShCore; each text is held against the loaded program by the kernel. -/
namespace Go.Proofs.YtcgdhhchjgbhnaaGreatDoor
open Go Go.Sh
section
def ann170 : Ann := []
def ord170 : OrdT := []
def z170 : List Value := []
def kv170 (K : HP) : Value → HP := fun _ h => K h
variable (K : HP) (Kp : PK) 
variable {K Kp} {h : Hp}
theorem Fn170.of {yield : Value} {c1 c2 : Addr} (H :
  New h (Value.cells yield) Y233 fun a3 h1 =>
  New h1 #[(.nilFunc)] Y234 fun a4 h2 =>
  NA (.func (.func I171) #[] #[(.pointer (some a3)), (.pointer (some c1)), (.pointer (some a4))]) <|
  St h2 a4 (.func (.func I171) #[] #[(.pointer (some a3)), (.pointer (some c1)), (.pointer (some a4))]) fun h3 =>
  Ld h3 a4 id fun t6 =>
  Ld h3 c2 Sl.v fun t7 =>
  CallV Tryz.prog t6 [(.slice none 0 0), (Sl.v t7), (.bool false)] h3 (fun r h4 => ∃ t8 : Bool, r = (.bool t8) ∧
    K  h4) Kp) :
  Fn170 yield c1 c2 h K Kp := fnof (ann := ann170) (o := ord170) (zs := z170) (Kv := kv170 K) Tryz.func173 (by kernel_rfl) H (by kernel_rfl) (by kernel_rfl)
end
section
noncomputable def code171 : Code := Tryz.f174.body.getD .skip
def ann171 : Ann := [(2001000, [0, 1, 2, 3, 4, 5, 13, 14, 15]), (2002, [0, 1, 2, 3, 4, 5, 13, 14, 15]), (1002903000, [0, 1, 2, 3, 4, 5, 13, 14, 15, 16]), (2000004, [0, 1, 2, 3, 4, 5, 10, 11, 13, 14, 15]), (2000005, [0, 1, 2, 3, 4, 5, 10, 11, 12, 13, 14, 15]), (2000007, [0, 1, 2, 3, 4, 5, 11, 12, 13, 14, 15])]
def ord171 : OrdT := [(5, (OT.l [0, 1, 2, 3, 4, 5, 6, 7, 8, 9] .fin), [0, 0, 0, 0, 12, 0, 0, 126, 255, 511])]
def z171 : List Value := [(.bool false)]
def kv171 (K : Bool → HP) : Value → HP := fun v h => rB v fun r0 => K r0 h
variable (K : Bool → HP) (Kp : PK) (N1 : Fr → HP) 
noncomputable def c171 : Cx := ⟨Tryz.prog, ann171, ord171, none, code171, (retQ Tryz.prog Tryz.f174.results.toList z171 (kv171 K)), Kp⟩
abbrev mk171_2 (x0 x1 : Sl) (x2 : Bool) (x3 x4 x5 : Addr) (x13 : Sl) (x14 x15 : Int) : Fr := ([vS x0, vS x1, some (.bool x2), vP x3, vP x4, vP x5, nO, nO, nO, nO, nO, nO, nO, vS x13, vI x14, vI x15]++nn 40)
def J171_6 (x0 x1 : Sl) (x2 : Bool) (x3 x4 x5 x11 : Addr) (x12 x13 : Sl) (x14 x15 : Int) : HP := semJ (c171 K Kp) [1, 0, 1, 0, 0, 1, 1, 0, 0, 1, 1, 1] [N1] ([vS x0, vS x1, some (.bool x2), vP x3, vP x4, vP x5, nO, nO, nO, nO, nO, vP x11, vS x12, vS x13, vI x14, vI x15]++nn 40)
def J171_5 (x0 x1 : Sl) (x2 : Bool) (x3 x4 x5 : Addr) (x10 : Int) (x11 : Addr) (x12 x13 : Sl) (x14 x15 : Int) : HP := semJ (c171 K Kp) [1, 0, 1, 0, 0, 1, 1, 0, 0, 1, 1] [N1] ([vS x0, vS x1, some (.bool x2), vP x3, vP x4, vP x5, nO, nO, nO, nO, vI x10, vP x11, vS x12, vS x13, vI x14, vI x15]++nn 40)
def J171_4 (x0 x1 : Sl) (x2 : Bool) (x3 x4 x5 : Addr) (x10 : Int) (x11 : Addr) (x13 : Sl) (x14 x15 : Int) : HP := semJ (c171 K Kp) [1, 0, 1, 0, 0, 1, 1, 0, 0, 1] [N1] ([vS x0, vS x1, some (.bool x2), vP x3, vP x4, vP x5, nO, nO, nO, nO, vI x10, vP x11, nO, vS x13, vI x14, vI x15]++nn 40)
def J171_3 (x0 x1 : Sl) (x2 : Bool) (x3 x4 x5 : Addr) (x13 : Sl) (x14 x15 : Int) (x16 : Bool) : HP := semJ (c171 K Kp) [1, 0, 1, 0, 0, 1] [N1] ([vS x0, vS x1, some (.bool x2), vP x3, vP x4, vP x5, nO, nO, nO, nO, nO, nO, nO, vS x13, vI x14, vI x15, some (.bool x16)]++nn 39)
def L171_2 (x0 x1 : Sl) (x2 : Bool) (x3 x4 x5 : Addr) (x13 : Sl) (x14 x15 : Int) : HP := semL (c171 K Kp) 2002 [1, 0, 1, 0] [] (mk171_2 x0 x1 x2 x3 x4 x5 x13 x14 x15)
def J171_1 (x0 x1 : Sl) (x2 : Bool) (x3 x4 x5 : Addr) (x13 : Sl) (x14 x15 : Int) : HP := semJ (c171 K Kp) [1, 0, 1] [] ([vS x0, vS x1, some (.bool x2), vP x3, vP x4, vP x5, nO, nO, nO, nO, nO, nO, nO, vS x13, vI x14, vI x15]++nn 40)
variable {K Kp N1} {x0 x1 x12 x13 : Sl} {x2 x16 : Bool} {x3 x4 x5 x11 : Addr} {x14 x15 x10 : Int} {h : Hp}
theorem J171_6.of (H :
  Ld h x4 mI fun t37 =>
  If (decide ((x12.n : Int) < t37)) (
    Ld h x5 id fun t40 =>
    Ld h ((x11.add 2).add 4) Sl.v fun t44 =>
    If x2 (
      CallV Tryz.prog t40 [(Sl.v x12), (Sl.v t44), (.bool true)] h (fun r h1 => ∃ t52 : Bool, r = (.bool t52) ∧
        If (!t52) (
          K false h1) (
          Wr .i64 (x15 + 1) fun t55 =>
          N1 (mk171_2 x0 x1 x2 x3 x4 x5 x13 x14 t55) h1)) Kp) (
      Ld h (x11.add 2) mI fun t49 =>
      CallV Tryz.prog t40 [(Sl.v x12), (Sl.v t44), (.bool (t49 == 19))] h (fun r h1 => ∃ t52 : Bool, r = (.bool t52) ∧
        If (!t52) (
          K false h1) (
          Wr .i64 (x15 + 1) fun t55 =>
          N1 (mk171_2 x0 x1 x2 x3 x4 x5 x13 x14 t55) h1)) Kp)) (
    Wr .i64 (x15 + 1) fun t55 =>
    N1 (mk171_2 x0 x1 x2 x3 x4 x5 x13 x14 t55) h)) :
  J171_6 K Kp N1 x0 x1 x2 x3 x4 x5 x11 x12 x13 x14 x15 h := jof H (by kernel_rfl)
theorem J171_5.of (H :
  Ld h x3 id fun t25 =>
  Slc x1 7 none (some x10) none fun t29 =>
  LY29 h x11 fun t30_0 t30_1 t30_2 t30_3 t30_4 t30_5 t30_6 =>
  CallV Tryz.prog t25 [(.agg #[(Sl.v x12), (Sl.v t29), (.string t30_0), (.bool t30_1), (.int .i64 t30_2), (.int .i64 t30_3), (.int .i64 t30_4), (.int .i64 t30_5), (Sl.v t30_6), (.bool x2)])] h (fun r h1 => ∃ t33 : Bool, r = (.bool t33) ∧
    If (!t33) (
      K false h1) (
      J171_6 K Kp N1 x0 x1 x2 x3 x4 x5 x11 x12 x13 x14 x15 h1)) Kp) :
  J171_5 K Kp N1 x0 x1 x2 x3 x4 x5 x10 x11 x12 x13 x14 x15 h := jof H (by kernel_rfl)
theorem J171_4.of (H :
  Fn203 x0 h (fun t21 h1 =>
    New h1 #[(.int .i64 x10)] Y6 fun a23 h2 =>
    Ap h2 Y6 #[(.int .i64 0)] 1 8 t21 1 (rd h2 (some a23) (1 * 1)) fun t24 h3 =>
    J171_5 K Kp N1 x0 x1 x2 x3 x4 x5 x10 x11 t24 x13 x14 x15 h3) Kp) :
  J171_4 K Kp N1 x0 x1 x2 x3 x4 x5 x10 x11 x13 x14 x15 h := jof H (by kernel_rfl)
theorem J171_3.of (H :
  If x16 (
    Ix x13.a x13.n 7 x15 fun a18 =>
    LY29 h a18 fun t19_0 t19_1 t19_2 t19_3 t19_4 t19_5 t19_6 =>
    New h zY29 Y29 fun a11 h1 =>
    SY29 h1 a11 t19_0 t19_1 t19_2 t19_3 t19_4 t19_5 t19_6 fun h2 =>
    J171_4 K Kp N1 x0 x1 x2 x3 x4 x5 x15 a11 x13 x14 x15 h2) (
    K true h)) :
  J171_3 K Kp N1 x0 x1 x2 x3 x4 x5 x13 x14 x15 x16 h := jof H (by kernel_rfl)
theorem L171_2.rule : LR1 (L171_2 K Kp x0 x1 x2 x3 x4 x5 x13 x14) (mk171_2 x0 x1 x2 x3 x4 x5 x13 x14) fun N1 (x15 : Int) h =>
  (J171_3 K Kp N1 x0 x1 x2 x3 x4 x5 x13 x14 x15 (decide (x15 < x14)) h) :=
  loop1 (fun _ _ => rfl) fun _ _ _ => by kernel_rfl
theorem J171_1.of (H :
  L171_2 K Kp x0 x1 x2 x3 x4 x5 x13 x14 x15 h) :
  J171_1 K Kp x0 x1 x2 x3 x4 x5 x13 x14 x15 h := jof H (by kernel_rfl)
theorem Fn171.of {path l : Sl} {inDict : Bool} {c3 c4 c5 : Addr} (H :
  J171_1 K Kp path l inDict c3 c4 c5 l (l.n : Int) 0 h) :
  Fn171 path l inDict c3 c4 c5 h K Kp := fnof (ann := ann171) (o := ord171) (zs := z171) (Kv := kv171 K) Tryz.func174 (by kernel_rfl) H (by kernel_rfl) (by kernel_rfl)
end
section
def ann203 : Ann := []
def ord203 : OrdT := []
def z203 : List Value := [(.slice none 0 0)]
def kv203 (K : Sl → HP) : Value → HP := fun v h => rS v fun r0 => K r0 h
variable (K : Sl → HP) (Kp : PK) 
variable {K Kp} {h : Hp}
theorem Fn203.of {s : Sl} (H :
  If (Option.isNone s.a) (
    K (⟨none, 0, 0⟩ : Sl) h) (
    New h #[] Y6 fun a5 h1 =>
    Ap h1 Y6 #[(.int .i64 0)] 1 8 (⟨some a5, 0, 0⟩ : Sl) s.n (rd h1 s.a (s.n * 1)) fun t7 h2 =>
    K t7 h2)) :
  Fn203 s h K Kp := fnof (ann := ann203) (o := ord203) (zs := z203) (Kv := kv203 K) Tryz.func175 (by kernel_rfl) H (by kernel_rfl) (by kernel_rfl)
end
section
noncomputable def code172 : Code := Tryz.f176.body.getD .skip
def ann172 : Ann := [(2002, [0, 6, 7])]
def ord172 : OrdT := []
def z172 : List Value := [(.bool false)]
def kv172 (K : Bool → HP) : Value → HP := fun v h => rB v fun r0 => K r0 h
variable (K : Bool → HP) (Kp : PK) 
noncomputable def c172 : Cx := ⟨Tryz.prog, ann172, ord172, none, code172, (retQ Tryz.prog Tryz.f176.results.toList z172 (kv172 K)), Kp⟩
abbrev mk172_1 (x0 : ByteArray) (x6 x7 : Int) : Fr := ([some (.string x0), nO, nO, nO, nO, nO, vI x6, vI x7]++nn 28)
def L172_1 (x0 : ByteArray) (x6 x7 : Int) : HP := semL (c172 K Kp) 2002 [1, 0, 1, 0] [] (mk172_1 x0 x6 x7)
variable {K Kp} {x0 : ByteArray} {x6 : Int} {h : Hp}
theorem L172_1.rule : LR1 (L172_1 K Kp x0 x6) (mk172_1 x0 x6) fun N1 (x7 : Int) h =>
  (If (decide (x7 < x6)) (
    IxS x0 x7 fun t12 =>
    Fn182 t12 h (fun t14 h1 =>
      If (!t14) (
        K false h1) (
        If (x7 == 0) (
          If (decide (t12 ≥ 48)) (
            If (decide (t12 ≤ 57)) (
              K false h1) (
              Wr .i64 (x7 + 1) fun t28 =>
              N1 (mk172_1 x0 x6 t28) h1)) (
            Wr .i64 (x7 + 1) fun t28 =>
            N1 (mk172_1 x0 x6 t28) h1)) (
          Wr .i64 (x7 + 1) fun t28 =>
          N1 (mk172_1 x0 x6 t28) h1))) Kp) (
    If (!(x0.toList == (bs []).toList)) (
      K (decide ((x0.size : Int) ≤ 48)) h) (
      K false h))) :=
  loop1 (fun _ _ => rfl) fun _ _ _ => by kernel_rfl
theorem Fn172.of {s : ByteArray} (H :
  L172_1 K Kp s (s.size : Int) 0 h) :
  Fn172 s h K Kp := fnof (ann := ann172) (o := ord172) (zs := z172) (Kv := kv172 K) Tryz.func176 (by kernel_rfl) H (by kernel_rfl) (by kernel_rfl)
end
section
def ann204 : Ann := []
def ord204 : OrdT := []
def z204 : List Value := [(.bool false)]
def kv204 (K : Bool → HP) : Value → HP := fun v h => rB v fun r0 => K r0 h
variable (K : Bool → HP) (Kp : PK) 
variable {K Kp} {h : Hp}
theorem Fn204.of {s : Sl} {f : Value} (H :
  Fn206 s f h (fun t7 h1 =>
    K (decide (t7 ≥ 0)) h1) Kp) :
  Fn204 s f h K Kp := fnof (ann := ann204) (o := ord204) (zs := z204) (Kv := kv204 K) Tryz.func177 (by kernel_rfl) H (by kernel_rfl) (by kernel_rfl)
end
section
def ann173 : Ann := []
def ord173 : OrdT := []
def z173 : List Value := [(.bool false)]
def kv173 (K : Bool → HP) : Value → HP := fun v h => rB v fun r0 => K r0 h
variable (K : Bool → HP) (Kp : PK) 
variable {K Kp} {h : Hp}
theorem Fn173.of {g_0 : ByteArray} {g_1 : Bool} {g_2 g_3 g_4 g_5 : Int} {g_6 : Sl} {c1 : Addr} (H :
  NY29 h g_0 g_1 g_2 g_3 g_4 g_5 g_6 fun a2 h1 =>
  Ld h1 a2 .string fun t5 =>
  Ld h1 (c1.add 2) .string fun t8 =>
  K (t5.toList == t8.toList) h1) :
  Fn173 g_0 g_1 g_2 g_3 g_4 g_5 g_6 c1 h K Kp := fnof (ann := ann173) (o := ord173) (zs := z173) (Kv := kv173 K) Tryz.func178 (by kernel_rfl) H (by kernel_rfl) (by kernel_rfl)
end
end Go.Proofs.YtcgdhhchjgbhnaaGreatDoor
