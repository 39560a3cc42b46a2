import Derived.Test.YtlbbdbdjiekkaaaGreatDoorNamesJ2
set_option linter.unusedSimpArgs false
set_option linter.unusedVariables false
set_option maxRecDepth 100000
set_option maxHeartbeats 200000
/- Letters: what is right UTF-8, and the library's asking. -/
namespace Go.Proofs.YtlbbdbdjiekkaaaGreatDoor
open Go Go.Sh Go.WideShapes
/-- the table of first bytes -/
def uF (b:Nat):Nat:=if b < 128 then 240 else if b < 194 then 241 else if b < 224 then 2 else if b=224 then 19 else if b < 237 then 3 else if b=237 then 35 else if b < 240 then 3 else if b=240 then 52 else if b < 244 then 4 else if b=244 then 68 else 241
def uLo (x:Nat):Nat:=if x=1 then 160 else if x=3 then 144 else if x≤4 then 128 else 0
def uHi (x:Nat):Nat:=if x=2 then 159 else if x=4 then 143 else if x≤4 then 191 else 0
structure UTab (h:Hp):Prop where
  f:∀i:Nat,i < 256→cell h ⟨1,i,none⟩=some (.int .u8 (uF i))
  a:∀i:Nat,i < 16→cell h ⟨2,i*2,none⟩=some (.int .u8 (uLo i))∧cell h ⟨2,i*2+1,none⟩=some (.int .u8 (uHi i))
theorem UTab.grw {h h':Hp} (t:UTab h) (g:Grw h h'):UTab h':=⟨fun i hi=>g.cell (t.f i hi),fun i hi=>⟨g.cell (t.a i hi).1,g.cell (t.a i hi).2⟩⟩
def uIn (b:Nat) (c:UInt8):Bool:=decide (uLo (uF b / 16)≤c.toNat) && decide (c.toNat≤uHi (uF b / 16))
def uCo (c:UInt8):Bool:=decide (128≤c.toNat) && decide (c.toNat≤191)
/-- what is behind one letter -/
def uStep (b:UInt8) (r:List UInt8):Option (List UInt8) :=
  if b.toNat < 128 then some r
  else if uF b.toNat % 8=2 then match r with | c::r=>if uIn b.toNat c then some r else none | _=>none
  else if uF b.toNat % 8=3 then match r with | c::e::r=>if uIn b.toNat c && uCo e then some r else none | _=>none
  else if uF b.toNat % 8=4 then match r with | c::e::f::r=>if uIn b.toNat c && (uCo e && uCo f) then some r else none | _=>none
  else none
def utfN:Nat→List UInt8→Bool
  | 0,_=>true
  | _+1,[]=>true
  | n+1,b::r=>match uStep b r with | some r'=>utfN n r' | none=>false
theorem uStep_len {b:UInt8} {r r':List UInt8} (h:uStep b r=some r'):r'.length≤r.length:=by
  unfold uStep at h
  repeat' split at h
  all_goals first | (cases h;exact Nat.le_refl _) | (cases h;simp only [List.length_cons];omega) | cases h
theorem utfN_eq:∀{n m:Nat} {l:List UInt8},l.length≤n→l.length≤m→utfN n l=utfN m l
  | 0,0,_,_,_=>rfl
  | 0,m+1,l,h,_=>by obtain rfl:=List.eq_nil_of_length_eq_zero (Nat.le_zero.1 h);rfl
  | n+1,0,l,_,h=>by obtain rfl:=List.eq_nil_of_length_eq_zero (Nat.le_zero.1 h);rfl
  | n+1,m+1,[],_,_=>rfl
  | n+1,m+1,b::r,h1,h2=>by
    simp only [List.length_cons] at h1 h2
    simp only [utfN]
    cases hs:uStep b r with
    | none=>rfl
    | some r'=>have:=uStep_len hs;exact utfN_eq (by omega) (by omega)
/-- right UTF-8 -/
def utf (l:List UInt8):Bool:=utfN l.length l
theorem utf_cons (b:UInt8) (r:List UInt8):utf (b::r)=match uStep b r with | some r'=>utf r' | none=>false:=by
  show utfN (r.length+1) (b::r)=_
  simp only [utfN]
  cases hs:uStep b r with
  | none=>rfl
  | some r'=>exact utfN_eq (uStep_len hs) (Nat.le_refl _)
theorem utf_asc {b:UInt8} {r:List UInt8} (h:b.toNat < 128):utf (b::r)=utf r:=by
  have e:uStep b r=some r:=by simp [uStep,h]
  rw [utf_cons,e]
theorem utf_drop:∀{n:Nat} {l:List UInt8},(∀(i:Nat) b,i < n→l[i]? = some b→b.toNat < 128)→utf (l.drop n)=utf l
  | 0,_,_=>rfl
  | n+1,[],_=>rfl
  | n+1,b::r,h=>by
    rw [List.drop_succ_cons,utf_asc (h 0 b (by omega) rfl)]
    exact utf_drop fun i c hi hc=>h (i+1) c (by omega) (by simpa using hc)
def M80:Nat:=9259542123273814144
theorem and64u (x y:Nat) (hx:x < 2 ^ 64) (hy:y < 2 ^ 64):bitsV .and .u64 (x:Int) (y:Int)=((x &&& y:Nat):Int):=by
  have h:x &&& y < 2 ^ 64:=Nat.and_lt_two_pow x hy
  have e:(BitVec.ofInt 64 (x:Int) &&& BitVec.ofInt 64 (y:Int)).toNat=x &&& y:=by
    rw [BitVec.toNat_and,BitVec.ofInt_natCast,BitVec.ofInt_natCast,BitVec.toNat_ofNat,BitVec.toNat_ofNat,Nat.mod_eq_of_lt hx,Nat.mod_eq_of_lt hy]
  show IntKind.u64.wrap ((BitVec.ofInt 64 (x:Int) &&& BitVec.ofInt 64 (y:Int)).toNat:Int)=_
  rw [e];simp only [IntKind.wrap,IntKind.signed,IntKind.bits];simp;omega
/-- no byte of the word has its high bit -/
def Asc (x:Nat):Prop:=x &&& M80=0
theorem Asc.or {x y:Nat} (h:Asc (x ||| y)):Asc x∧Asc y:=by
  unfold Asc at *
  rw [Nat.and_or_distrib_right] at h
  constructor
  · have:=Nat.left_le_or (n:=x &&& M80) (m:=y &&& M80);omega
  · have:=Nat.right_le_or (n:=x &&& M80) (m:=y &&& M80);omega
theorem Asc.bit {x:Nat} (h:Asc x) {k:Nat} (hk:M80.testBit k=true):x / 2 ^ k % 2=0:=by
  unfold Asc at h
  have:=congrArg (fun y=>y.testBit k) h
  simp only [Nat.testBit_and,hk,Bool.and_true,Nat.zero_testBit] at this
  rw [Nat.testBit_eq_decide_div_mod_eq,decide_eq_false_iff_not] at this
  omega
theorem leN_bit:∀{i:Nat} {l:List UInt8} {b:UInt8},l[i]? = some b→leN l / 2 ^ (8*i+7) % 2=0→b.toNat < 128
  | _,[],_,h,_=>by simp at h
  | 0,c::l,b,h,q=>by
    simp only [List.getElem?_cons_zero,Option.some.injEq] at h
    subst h
    have:=c.toNat_lt
    simp only [leN] at q;omega
  | i + 1,c::l,b,h,q=>by
    have hc:=c.toNat_lt
    have e:2 ^ (8*(i+1)+7)=256*2 ^ (8*i+7):=by
      have:8*(i+1)+7=8*i+7+8:=by omega
      rw [this,Nat.pow_add,Nat.mul_comm]
    have e2:leN (c::l) / 256=leN l:=by simp only [leN];omega
    rw [e,←Nat.div_div_eq_div_mul,e2] at q
    exact leN_bit (by simpa using h) q
theorem M80_bits:∀i,i < 8→M80.testBit (8*i+7)=true:=by decide
theorem Asc.all {l:List UInt8} (h:Asc (leN (l.take 8))):∀(i:Nat) b,i < 8→l[i]? = some b→b.toNat < 128:=by
  intro i b hi hb
  exact leN_bit (l:=l.take 8) (i:=i) (by rw [List.getElem?_take_of_lt hi];exact hb) (h.bit (M80_bits i hi))
/-- one byte more of a word -/
theorem sh_or {x b k:Nat} {K:Int→Prop} (e:min (Int.toNat (k:Int)) (IntKind.bits .u64)=k) (h1:x < 2 ^ k) (h2:b*2 ^ k < 2 ^ 64) (h3:x < 2 ^ 64) (hk:K ((x+b*2 ^ k:Nat):Int)) :
    Nn (k:Int) (Wr .u64 ((b:Int)*2 ^ (min (Int.toNat (k:Int)) (IntKind.bits .u64))) fun t=>Lt (bitsV .or .u64 (x:Int) t) K):=by
  have sh:(b:Int)*2 ^ (min (Int.toNat (k:Int)) (IntKind.bits .u64))=((b*2 ^ k:Nat):Int):=by rw [e];norm_cast
  refine Nn_i (by omega) ?_
  rw [sh]
  refine Wr_u rfl h2 ?_
  unfold Lt
  rw [or64u _ _ h3 h2,or_sh h1];exact hk
end Go.Proofs.YtlbbdbdjiekkaaaGreatDoor
set_option maxRecDepth 100000
set_option maxHeartbeats 200000
/- Letters: the library's asking of bytes and of a text. -/
namespace Go.Proofs.YtlbbdbdjiekkaaaGreatDoor
open Go Go.Sh Go.WideShapes
theorem word_c {s:Sl} {l:List UInt8} {h:Hp} {K:Int→HP} {Kp:PK} (v:Sv h s (bv l)) (hl:8≤l.length) (hk:K (leN (l.take 8)) h):Fn207 s h K Kp:=by
  refine Fn207.of (J207_1.of ?_)
  obtain ⟨b0,l,rfl⟩:∃b M,l=b::M:=by cases l;simp at hl;exact ⟨_,_,rfl⟩
  obtain ⟨b1,l,rfl⟩:∃b M,l=b::M:=by cases l;simp at hl;exact ⟨_,_,rfl⟩
  obtain ⟨b2,l,rfl⟩:∃b M,l=b::M:=by cases l;simp at hl;exact ⟨_,_,rfl⟩
  obtain ⟨b3,l,rfl⟩:∃b M,l=b::M:=by cases l;simp at hl;exact ⟨_,_,rfl⟩
  obtain ⟨b4,l,rfl⟩:∃b M,l=b::M:=by cases l;simp at hl;exact ⟨_,_,rfl⟩
  obtain ⟨b5,l,rfl⟩:∃b M,l=b::M:=by cases l;simp at hl;exact ⟨_,_,rfl⟩
  obtain ⟨b6,l,rfl⟩:∃b M,l=b::M:=by cases l;simp at hl;exact ⟨_,_,rfl⟩
  obtain ⟨b7,l,rfl⟩:∃b M,l=b::M:=by cases l;simp at hl;exact ⟨_,_,rfl⟩
  have h0:=b0.toNat_lt
  have h1:=b1.toNat_lt
  have h2:=b2.toNat_lt
  have h3:=b3.toNat_lt
  have h4:=b4.toNat_lt
  have h5:=b5.toNat_lt
  have h6:=b6.toNat_lt
  have h7:=b7.toNat_lt
  refine Sv_byte v (i:=0) rfl rfl (Wr_u rfl (Nat.lt_of_lt_of_le (UInt8.toNat_lt _) (by decide)) ?_)
  refine Sv_byte v (i:=1) rfl rfl (Wr_u rfl (Nat.lt_of_lt_of_le (UInt8.toNat_lt _) (by decide)) ?_)
  refine sh_or (k:=8) rfl (by omega) (by omega) (by omega) ?_
  refine Sv_byte v (i:=2) rfl rfl (Wr_u rfl (Nat.lt_of_lt_of_le (UInt8.toNat_lt _) (by decide)) ?_)
  refine sh_or (k:=16) rfl (by omega) (by omega) (by omega) ?_
  refine Sv_byte v (i:=3) rfl rfl (Wr_u rfl (Nat.lt_of_lt_of_le (UInt8.toNat_lt _) (by decide)) ?_)
  refine sh_or (k:=24) rfl (by omega) (by omega) (by omega) ?_
  refine Sv_byte v (i:=4) rfl rfl (Wr_u rfl (Nat.lt_of_lt_of_le (UInt8.toNat_lt _) (by decide)) ?_)
  refine sh_or (k:=32) rfl (by omega) (by omega) (by omega) ?_
  refine Sv_byte v (i:=5) rfl rfl (Wr_u rfl (Nat.lt_of_lt_of_le (UInt8.toNat_lt _) (by decide)) ?_)
  refine sh_or (k:=40) rfl (by omega) (by omega) (by omega) ?_
  refine Sv_byte v (i:=6) rfl rfl (Wr_u rfl (Nat.lt_of_lt_of_le (UInt8.toNat_lt _) (by decide)) ?_)
  refine sh_or (k:=48) rfl (by omega) (by omega) (by omega) ?_
  refine Sv_byte v (i:=7) rfl rfl (Wr_u rfl (Nat.lt_of_lt_of_le (UInt8.toNat_lt _) (by decide)) ?_)
  refine sh_or (k:=56) rfl (by omega) (by omega) (by omega) ?_
  have e:b0.toNat+b1.toNat*2 ^ 8+b2.toNat*2 ^ 16+b3.toNat*2 ^ 24+b4.toNat*2 ^ 32+b5.toNat*2 ^ 40+b6.toNat*2 ^ 48+b7.toNat*2 ^ 56=leN ((b0::b1::b2::b3::b4::b5::b6::b7::l).take 8):=by
    simp only [List.take_succ_cons,List.take_zero,leN];omega
  rw [e];exact hk
theorem uF_lt (b:Nat):uF b < 256:=by
  unfold uF
  split
  · omega
  split
  · omega
  split
  · omega
  split
  · omega
  split
  · omega
  split
  · omega
  split
  · omega
  split
  · omega
  split
  · omega
  split
  · omega
  omega
/-- a text's bytes -/
abbrev tx (s:ByteArray):List UInt8:=s.data.toList
theorem IxS_i {s:ByteArray} {x:Int} {i:Nat} {b:UInt8} (hx:x=i) (hb:(tx s)[i]? = some b) {K:Int→Prop} (hk:K b.toNat):IxS s x K:=by
  subst hx
  refine ⟨b,by omega,?_,hk⟩
  rw [Int.toNat_natCast]
  have hi:=(List.getElem?_eq_some_iff.1 hb).1
  have hi2:i < s.size:=hi
  rw [getElem?_pos s i hi2]
  rw [List.getElem?_eq_getElem hi] at hb
  simpa [ByteArray.getElem_eq_getElem_data] using hb
theorem SlcS_i {s:ByteArray} {n:Nat} {x:Int} (hx:x=n) (hn:n≤(tx s).length) {K:ByteArray→Prop} (hk:∀t,tx t=(tx s).drop n→K t):SlcS s (some x) none K:=by
  subst hx
  have hs:(tx s).length=s.size:=rfl
  refine ⟨by simp,by simp;omega,by simp,hk _ ?_⟩
  simp only [Option.getD_some,Option.getD_none,Int.toNat_natCast,tx,ByteArray.data_extract,Array.toList_extract,List.extract_eq_take_drop]
  exact List.take_of_length_le (by rw [List.length_drop];exact Nat.le_refl _)
theorem words_c {s:ByteArray} {h:Hp} {K:Int→HP} {Kp:PK} (hl:8≤(tx s).length) (hk:K (leN ((tx s).take 8)) h):Fn225 s h K Kp:=by
  refine Fn225.of (J225_1.of ?_)
  have ix:∀{i:Nat} {b:UInt8} {K:Int→Prop} {x:Int},x=i→(tx s)[i]? = some b→K b.toNat→IxS s x K:=fun hx hb hk=>IxS_i hx hb hk
  generalize tx s=l at hl hk ix
  obtain ⟨b0,l,rfl⟩:∃b M,l=b::M:=by cases l;simp at hl;exact ⟨_,_,rfl⟩
  obtain ⟨b1,l,rfl⟩:∃b M,l=b::M:=by cases l;simp at hl;exact ⟨_,_,rfl⟩
  obtain ⟨b2,l,rfl⟩:∃b M,l=b::M:=by cases l;simp at hl;exact ⟨_,_,rfl⟩
  obtain ⟨b3,l,rfl⟩:∃b M,l=b::M:=by cases l;simp at hl;exact ⟨_,_,rfl⟩
  obtain ⟨b4,l,rfl⟩:∃b M,l=b::M:=by cases l;simp at hl;exact ⟨_,_,rfl⟩
  obtain ⟨b5,l,rfl⟩:∃b M,l=b::M:=by cases l;simp at hl;exact ⟨_,_,rfl⟩
  obtain ⟨b6,l,rfl⟩:∃b M,l=b::M:=by cases l;simp at hl;exact ⟨_,_,rfl⟩
  obtain ⟨b7,l,rfl⟩:∃b M,l=b::M:=by cases l;simp at hl;exact ⟨_,_,rfl⟩
  have h0:=b0.toNat_lt
  have h1:=b1.toNat_lt
  have h2:=b2.toNat_lt
  have h3:=b3.toNat_lt
  have h4:=b4.toNat_lt
  have h5:=b5.toNat_lt
  have h6:=b6.toNat_lt
  have h7:=b7.toNat_lt
  refine ix (i:=0) rfl rfl (Wr_u rfl (Nat.lt_of_lt_of_le (UInt8.toNat_lt _) (by decide)) ?_)
  refine ix (i:=1) rfl rfl (Wr_u rfl (Nat.lt_of_lt_of_le (UInt8.toNat_lt _) (by decide)) ?_)
  refine sh_or (k:=8) rfl (by omega) (by omega) (by omega) ?_
  refine ix (i:=2) rfl rfl (Wr_u rfl (Nat.lt_of_lt_of_le (UInt8.toNat_lt _) (by decide)) ?_)
  refine sh_or (k:=16) rfl (by omega) (by omega) (by omega) ?_
  refine ix (i:=3) rfl rfl (Wr_u rfl (Nat.lt_of_lt_of_le (UInt8.toNat_lt _) (by decide)) ?_)
  refine sh_or (k:=24) rfl (by omega) (by omega) (by omega) ?_
  refine ix (i:=4) rfl rfl (Wr_u rfl (Nat.lt_of_lt_of_le (UInt8.toNat_lt _) (by decide)) ?_)
  refine sh_or (k:=32) rfl (by omega) (by omega) (by omega) ?_
  refine ix (i:=5) rfl rfl (Wr_u rfl (Nat.lt_of_lt_of_le (UInt8.toNat_lt _) (by decide)) ?_)
  refine sh_or (k:=40) rfl (by omega) (by omega) (by omega) ?_
  refine ix (i:=6) rfl rfl (Wr_u rfl (Nat.lt_of_lt_of_le (UInt8.toNat_lt _) (by decide)) ?_)
  refine sh_or (k:=48) rfl (by omega) (by omega) (by omega) ?_
  refine ix (i:=7) rfl rfl (Wr_u rfl (Nat.lt_of_lt_of_le (UInt8.toNat_lt _) (by decide)) ?_)
  refine sh_or (k:=56) rfl (by omega) (by omega) (by omega) ?_
  have e:b0.toNat+b1.toNat*2 ^ 8+b2.toNat*2 ^ 16+b3.toNat*2 ^ 24+b4.toNat*2 ^ 32+b5.toNat*2 ^ 40+b6.toNat*2 ^ 48+b7.toNat*2 ^ 56=leN ((b0::b1::b2::b3::b4::b5::b6::b7::l).take 8):=by
    simp only [List.take_succ_cons,List.take_zero,leN];omega
  rw [e];exact hk
end Go.Proofs.YtlbbdbdjiekkaaaGreatDoor
set_option maxRecDepth 100000
set_option maxHeartbeats 1000000
/- Letters: Valid and ValidString. -/
namespace Go.Proofs.YtlbbdbdjiekkaaaGreatDoor
open Go Go.Sh Go.WideShapes
theorem valid_c {s:Sl} {l:List UInt8} {h:Hp} {K:Bool→HP} {Kp:PK} (tb:UTab h) (v:Sv h s (bv l)) (hl:l.length≤2 ^ 40) (hk:∀h',Grw h h'→K (utf l) h'):Fn205 s h K Kp:=by
  refine Fn205.of (Sv_slc v (a:=0) (b:=s.n) (m:=s.n) rfl (by simp) (by simp) (Nat.zero_le _) (Nat.le_of_eq v.1) (Nat.le_refl _) v.2.1 fun t _ _ _ vt=>L205_1.rule (fun x0 h'=>∃L,Sv h' x0 (bv L)∧utf L=utf l∧Grw h h'∧L.length≤l.length) (fun x0 _=>Sl.n x0) ⟨l,by rw [List.drop_zero,Nat.sub_zero,List.take_of_length_le (Nat.le_of_eq v.1.symm)] at vt;exact vt,rfl,Grw.refl _,Nat.le_refl _⟩ ?_)
  rintro x0 h1 ⟨L,v,hu,g1,hL⟩ N1 hN
  have hn:=(show x0.n=L.length by rw [←bv_len L];exact v.1)
  have next:∀{x:Sl} {L':List UInt8} {h':Hp},Sv h' x (bv L')→utf L'=utf l→Grw h h'→L'.length < L.length→N1 (mk205_1 x) h':=fun {x L' h'} v' hu' g' hlt=>hN _ _ ⟨L',v',hu',g',by omega⟩ (by have:=(show x.n=L'.length by rw [←bv_len L'];exact v'.1);omega)
  refine If_i (fun c => ?_) fun c => ?_
  rotate_left
  · simp only [sm,reduceCtorEq] at c
    have:L=[]:=List.eq_nil_of_length_eq_zero (by omega)
    rw [this] at hu
    have:=hk h1 g1
    rw [←hu] at this;exact this
  simp only [sm,reduceCtorEq] at c
  obtain ⟨b,r,rfl⟩:∃b r,L=b::r:=by cases L with | nil=>exact absurd hn (by rw [List.length_nil];omega) | cons b r=>exact ⟨_,_,rfl⟩
  simp only [List.length_cons] at hn hL next
  have cut:∀{x:Sl} {L':List UInt8} {h':Hp} {n:Nat} {K:Sl→Prop},Sv h' x (bv L')→n≤L'.length→(∀t,Sv h' t (bv (L'.drop n))→K t)→Slc x 1 (some (n:Int)) none none K:=fun {x L' h' n K} v' hn' k=>Sv_slc v' (a:=n) (b:=L'.length) (m:=x.c) (by simp) (by have:=v'.1;rw [bv_len] at this;simp [this]) (by simp) hn' (by rw [bv_len];exact Nat.le_refl _) (by have:=v'.1;have:=v'.2.1;rw [bv_len] at *;omega) (Nat.le_refl _) fun t _ _ _ vt=>k t (by rw [bv_cut,List.take_of_length_le (by simp)] at vt;exact vt)
  have word:∀{x:Sl} {L':List UInt8} {h':Hp} {K:Int→HP},Sv h' x (bv L')→8≤L'.length→K (leN (L'.take 8)) h'→Fn207 x h' K Kp:=fun {x L' h' K} v' hn' k=>word_c v' hn' k
  have wlt:∀L':List UInt8,leN (L'.take 8) < 2 ^ 64:=fun L'=>Nat.lt_of_lt_of_le (leN_lt _) (Nat.pow_le_pow_right (by decide) (by simp;omega))
  have msk:∀{x:Nat} {K:Int→Prop},x < 2 ^ 64→K ((x &&& M80:Nat):Int)→Lt (bitsV .and .u64 (x:Int) 9259542123273814144) K:=fun {x K} hx k=>by
    unfold Lt
    rw [show (9259542123273814144:Int)=((M80:Nat):Int) from rfl,and64u _ _ hx (by decide)];exact k
  have orr:∀{x y:Nat} {K:Int→Prop},x < 2 ^ 64→y < 2 ^ 64→K ((x ||| y:Nat):Int)→Lt (bitsV .or .u64 (x:Int) (y:Int)) K:=fun {x y K} hx hy k=>by
    unfold Lt
    rw [or64u _ _ hx hy];exact k
  have asc:∀{x:Nat},(((x &&& M80:Nat):Int) == 0)=true→Asc x:=fun {x} q=>by
    rw [beq_iff_eq] at q;unfold Asc;omega
  have olt:∀{x y:Nat},x < 2 ^ 64→y < 2 ^ 64→x ||| y < 2 ^ 64:=fun hx hy=>Nat.or_lt_two_pow hx hy
  refine Sv_byte v (i:=0) rfl rfl ?_
  have hb:=b.toNat_lt
  refine If_i (fun c1 => ?_) fun c1 => ?_
  · simp only [sm,reduceCtorEq] at c1
    have hr:utf r=utf l:=by rw [←hu,utf_asc (by omega)]
    refine cut (n:=1) v (by simp) fun t22 v22 => ?_
    rw [List.drop_succ_cons,List.drop_zero] at v22
    have n22:=(show t22.n=r.length by rw [←bv_len r];exact v22.1)
    have j3:∀(q:Bool) h2,Grw h h2→Sv h2 t22 (bv r)→(q=true→8 < r.length∧Asc (leN (r.take 8)))→J205_3 K Kp N1 t22 q h2:=by
      intro q h2 g2 v22 hq
      refine J205_3.of (If_i (fun cq => ?_) fun _=>next v22 hr g2 (by omega))
      obtain ⟨q1,q2⟩:=hq cq
      have hr8:utf (r.drop 8)=utf l:=by rw [utf_drop q2.all,hr]
      have l8:(r.drop 8).length=r.length - 8:=by simp
      refine cut (n:=8) v22 (by omega) fun t33 v33 => ?_
      have n33:=(show t33.n=(r.drop 8).length by rw [←bv_len (r.drop 8)];exact v33.1)
      have j4:∀(q:Bool) h3,Grw h h3→Sv h3 t33 (bv (r.drop 8))→(q=true→16 < (r.drop 8).length∧Asc (leN ((r.drop 8).take 8))∧Asc (leN (((r.drop 8).drop 8).take 8)))→J205_4 K Kp N1 t33 q h3:=by
        intro q h3 g3 v33 hq
        refine J205_4.of (If_i (fun cq => ?_) fun _=>next v33 hr8 g3 (by omega))
        obtain ⟨q1,q2,q3⟩:=hq cq
        refine cut (n:=16) v33 (by omega) fun t48 v48 => ?_
        have hr16:utf ((r.drop 8).drop 16)=utf l:=by
          have e:(r.drop 8).drop 16=((r.drop 8).drop 8).drop 8:=by simp [List.drop_drop]
          rw [e,utf_drop q3.all,utf_drop q2.all,hr8]
        refine L205_5.rule (fun x h'=>∃L',Sv h' x (bv L')∧utf L'=utf l∧Grw h h'∧L'.length≤r.length) (fun x _=>Sl.n x) ⟨_,v48,hr16,g3,by simp only [List.length_drop];omega⟩ ?_
        rintro x h4 ⟨L',v',hu',g4,hl'⟩ N2 hN2
        have n':=(show x.n=L'.length by rw [←bv_len L'];exact v'.1)
        refine If_i (fun c5 => ?_) fun _=>next v' hu' g4 (by omega)
        simp only [sm,reduceCtorEq] at c5
        refine cut (n:=8) v' (by omega) fun ta va=>cut (n:=16) v' (by omega) fun tb vb=>cut (n:=24) v' (by omega) fun tc vc => ?_
        refine word v' (by omega) (word va (by simp;omega) (orr (wlt _) (wlt _) (word vb (by simp;omega) (word vc (by simp;omega) (orr (wlt _) (wlt _) (orr (olt (wlt _) (wlt _)) (olt (wlt _) (wlt _)) (msk (olt (olt (wlt _) (wlt _)) (olt (wlt _) (wlt _))) ?_)))))))
        refine If_i (fun c6 => ?_) fun _=>next v' hu' g4 (by omega)
        have a:=asc c6
        obtain ⟨a1,a2⟩:=a.or
        obtain ⟨b1,b2⟩:=a1.or
        obtain ⟨b3,b4⟩:=a2.or
        refine cut (n:=32) v' (by omega) fun td vd=>hN2 _ _ ⟨_,vd,?_,g4,by simp only [List.length_drop];omega⟩ (by have:=(show td.n=(L'.drop 32).length by rw [←bv_len];exact vd.1);simp at this;omega)
        have e1:L'.drop 32=(((L'.drop 8).drop 8).drop 8).drop 8:=by simp [List.drop_drop]
        have e2:(L'.drop 8).drop 8=L'.drop 16:=by simp [List.drop_drop]
        have e3:(L'.drop 16).drop 8=L'.drop 24:=by simp [List.drop_drop]
        rw [e1,utf_drop (by rw [e2,e3];exact b4.all),utf_drop (by rw [e2];exact b3.all),utf_drop b2.all,utf_drop b1.all,hu']
      refine If_i (fun c3 => ?_) fun _=>j4 false _ g2 v33 (by simp)
      simp only [sm,reduceCtorEq] at c3
      refine cut (n:=8) v33 (by omega) fun t41 v41=>word v33 (by omega) (word v41 (by simp;omega) (orr (wlt _) (wlt _) (msk (olt (wlt _) (wlt _)) (j4 _ _ g2 v33 fun q => ?_))))
      exact ⟨by omega,(asc q).or⟩
    refine If_i (fun c2 => ?_) fun _=>j3 false _ g1 v22 (by simp)
    simp only [sm,reduceCtorEq] at c2
    exact word v22 (by omega) (msk (wlt _) (j3 _ _ g1 v22 fun q=>⟨by omega,asc q⟩))
  · simp only [sm,reduceCtorEq] at c1
    refine J205_2.of ⟨by omega,by omega,?_⟩
    have tb:=tb.grw g1
    have hF:uF b.toNat < 256:=uF_lt _
    simp only [add_blk,Int.toNat_natCast,Nat.zero_add,Nat.mul_one]
    refine ⟨_,tb.f b.toNat hb,?_⟩
    have a7:bitsV .and .u8 ((uF b.toNat:Nat):Int) 7=((uF b.toNat % 8:Nat):Int):=by
      have h:(BitVec.ofInt 8 ((uF b.toNat:Nat):Int) &&& BitVec.ofInt 8 7).toNat=uF b.toNat % 8:=by
        have e1:BitVec.ofInt 8 ((uF b.toNat:Nat):Int)=BitVec.ofNat 8 (uF b.toNat):=by simp
        have e2:BitVec.ofInt 8 7=BitVec.ofNat 8 7:=by decide
        rw [e1,e2,BitVec.toNat_and,BitVec.toNat_ofNat,BitVec.toNat_ofNat]
        have:7 % 2 ^ 8=2 ^ 3 - 1:=by decide
        rw [this,Nat.and_two_pow_sub_one_eq_mod];omega
      show IntKind.wrap .u8 ((BitVec.ofInt 8 ((uF b.toNat:Nat):Int) &&& BitVec.ofInt 8 7).toNat:Int)=_
      rw [h,IntKind.wrap_u8];omega
    have d16:Int.fdiv ((uF b.toNat:Nat):Int) (2 ^ (min (Int.toNat 4) (IntKind.bits .u8)))=((uF b.toNat / 16:Nat):Int):=by
      have:min (Int.toNat 4) (IntKind.bits .u8)=4:=rfl
      rw [this,Int.fdiv_eq_ediv_of_nonneg _ (by decide)];norm_cast
    have l7:∀{K:Int→Prop},K ((uF b.toNat % 8:Nat):Int)→Lt (bitsV .and .u8 ((uF b.toNat:Nat):Int) 7) K:=fun k=>by unfold Lt;rw [a7];exact k
    have l16:∀{K:Int→Prop},K ((uF b.toNat / 16:Nat):Int)→Lt (Int.fdiv ((uF b.toNat:Nat):Int) (2 ^ (min (Int.toNat 4) (IntKind.bits .u8)))) K:=fun k=>by unfold Lt;rw [d16];exact k
    refine l7 (Wr_i64 (by omega) (by omega) (Nn_i (by decide) (l16 ⟨by omega,by omega,?_⟩)))
    have ta:=tb.a (uF b.toNat / 16) (by omega)
    simp only [add_blk,Int.toNat_natCast,Nat.zero_add]
    refine ⟨_,ta.1,_,ta.2,New_i fun b6 h2 e6 g2 k6 _ => ?_⟩
    simp only [add_blk]
    refine St_i k6 (by simp) rfl fun h3 o3 k6=>St_i k6 (by simp) rfl fun h4 o4 k6 => ?_
    have k6:Blk h4 b6 #[.int .u8 (uLo (uF b.toNat / 16)), .int .u8 (uHi (uF b.toNat / 16))] Y248:=by simpa using k6
    have G:Grw h1 h4:=Only.grw (Only.grw g2 o3 (by omega)) o4 (by omega)
    have G4:=Grw.trans g1 G
    have v:Sv h4 x0 (bv (b::r)):=v.grw G
    have bad:uStep b r=none→K false h4:=fun q=>by
      have:=hk h4 G4
      rw [←hu,utf_cons,q] at this;exact this
    have good:∀{r':List UInt8} {t:Sl},uStep b r=some r'→Sv h4 t (bv r')→N1 (mk205_1 t) h4:=fun {r' t} q v'=>by
      refine next v' ?_ G4 (by have:=uStep_len q;omega)
      rw [←hu,utf_cons,q]
    have n128:¬b.toNat < 128:=by omega
    generalize huf:uF b.toNat=U at *
    have sz:∀(m:Nat),(((U % 8:Nat):Int) == (m:Int))=decide (U % 8=m):=fun m=>by rw [Bool.eq_iff_iff,beq_iff_eq,decide_eq_true_eq];omega
    have i1:∀{i:Nat} {e:UInt8} {K:Int→Prop} {x:Int},x=i→(b::r)[i]? = some e→K e.toNat→Ix x0.a x0.n 1 x fun a=>Ld h4 a (.int .u8) fun t=>K t:=fun hx he k=>Sv_byte v hx he k
    refine If_i (fun s2 => ?_) fun s2=>If_i (fun s3 => ?_) fun s3=>If_i (fun s4 => ?_) fun s4=>bad ?_
    · simp only [sm,reduceCtorEq] at s2
      have s2:U % 8=2:=by omega
      refine If_i (fun c2=>bad ?_) fun c2 => ?_
      · simp only [sm,reduceCtorEq] at c2
        have:r=[]:=List.eq_nil_of_length_eq_zero (by omega)
        subst this;simp [uStep,n128,huf,s2]
      simp only [sm,reduceCtorEq] at c2
      obtain ⟨e,r,rfl⟩:∃e r',r=e::r':=by cases r with | nil=>simp only [List.length_nil,List.length_cons] at hn;omega | cons e r=>exact ⟨_,_,rfl⟩
      have ste:uStep b (e::r)=if uIn b.toNat e then some r else none:=by simp [uStep,n128,huf,s2]
      unfold uIn at ste
      rw [huf] at ste
      refine i1 (i:=1) rfl rfl (Ld_blk k6 rfl (If_i (fun q1 => ?_) fun q1=>Ld_blk k6 rfl (i1 (i:=1) rfl rfl (If_i (fun q2 => ?_) fun q2 => ?_))))
      · simp only [sm,reduceCtorEq] at q1;exact bad (by rw [ste,if_neg (by simp only [Bool.and_eq_true,decide_eq_true_eq];omega)])
      · simp only [sm,reduceCtorEq] at q1 q2;exact bad (by rw [ste,if_neg (by simp only [Bool.and_eq_true,decide_eq_true_eq];omega)])
      simp only [sm,reduceCtorEq] at q1 q2
      refine cut (n:=2) v (by simp) fun t vt=>good (by rw [ste,if_pos (by simp only [Bool.and_eq_true,decide_eq_true_eq];omega)]) (by simpa using vt)
    · simp only [sm,reduceCtorEq] at s2 s3
      have s3:U % 8=3:=by omega
      refine If_i (fun c2=>bad ?_) fun c2 => ?_
      · simp only [sm,reduceCtorEq] at c2
        cases r with
        | nil=>simp [uStep,n128,huf,s3]
        | cons e r=>cases r with
          | nil=>simp [uStep,n128,huf,s3]
          | cons f r=>simp only [List.length_nil,List.length_cons] at hn;omega
      simp only [sm,reduceCtorEq] at c2
      obtain ⟨e,f,r,rfl⟩:∃e f r',r=e::f::r':=by
        cases r with
        | nil=>simp only [List.length_nil,List.length_cons] at hn;omega
        | cons e r=>cases r with
          | nil=>simp only [List.length_nil,List.length_cons] at hn;omega
          | cons f r=>exact ⟨_,_,_,rfl⟩
      have ste:uStep b (e::f::r)=if uIn b.toNat e && uCo f then some r else none:=by simp [uStep,n128,huf,s3]
      unfold uIn uCo at ste
      rw [huf] at ste
      refine i1 (i:=1) rfl rfl (Ld_blk k6 rfl (If_i (fun q1 => ?_) fun q1=>Ld_blk k6 rfl (i1 (i:=1) rfl rfl (If_i (fun q2 => ?_) fun q2 => ?_))))
      · simp only [sm,reduceCtorEq] at q1;exact bad (by rw [ste,if_neg (by simp only [Bool.and_eq_true,decide_eq_true_eq];omega)])
      · simp only [sm,reduceCtorEq] at q1 q2;exact bad (by rw [ste,if_neg (by simp only [Bool.and_eq_true,decide_eq_true_eq];omega)])
      simp only [sm,reduceCtorEq] at q1 q2
      refine i1 (i:=2) rfl rfl (If_i (fun p2a => ?_) fun p2a=>i1 (i:=2) rfl rfl (If_i (fun p2b => ?_) fun p2b => ?_))
      · simp only [sm,reduceCtorEq] at p2a;exact bad (by rw [ste,if_neg (by simp only [Bool.and_eq_true,decide_eq_true_eq];omega)])
      · simp only [sm,reduceCtorEq] at p2a p2b;exact bad (by rw [ste,if_neg (by simp only [Bool.and_eq_true,decide_eq_true_eq];omega)])
      simp only [sm,reduceCtorEq] at p2a p2b
      refine cut (n:=3) v (by simp) fun t vt=>good (by rw [ste,if_pos (by simp only [Bool.and_eq_true,decide_eq_true_eq];omega)]) (by simpa using vt)
    · simp only [sm,reduceCtorEq] at s2 s3 s4
      have s4:U % 8=4:=by omega
      refine If_i (fun c2=>bad ?_) fun c2 => ?_
      · simp only [sm,reduceCtorEq] at c2
        cases r with
        | nil=>simp [uStep,n128,huf,s4]
        | cons e r=>cases r with
          | nil=>simp [uStep,n128,huf,s4]
          | cons f r=>cases r with
            | nil=>simp [uStep,n128,huf,s4]
            | cons g r=>simp only [List.length_nil,List.length_cons] at hn;omega
      simp only [sm,reduceCtorEq] at c2
      obtain ⟨e,f,g,r,rfl⟩:∃e f g r',r=e::f::g::r':=by
        cases r with
        | nil=>simp only [List.length_nil,List.length_cons] at hn;omega
        | cons e r=>cases r with
          | nil=>simp only [List.length_nil,List.length_cons] at hn;omega
          | cons f r=>cases r with
            | nil=>simp only [List.length_nil,List.length_cons] at hn;omega
            | cons g r=>exact ⟨_,_,_,_,rfl⟩
      have ste:uStep b (e::f::g::r)=if uIn b.toNat e && (uCo f && uCo g) then some r else none:=by simp [uStep,n128,huf,s4]
      unfold uIn uCo at ste
      rw [huf] at ste
      refine i1 (i:=1) rfl rfl (Ld_blk k6 rfl (If_i (fun q1 => ?_) fun q1=>Ld_blk k6 rfl (i1 (i:=1) rfl rfl (If_i (fun q2 => ?_) fun q2 => ?_))))
      · simp only [sm,reduceCtorEq] at q1;exact bad (by rw [ste,if_neg (by simp only [Bool.and_eq_true,decide_eq_true_eq];omega)])
      · simp only [sm,reduceCtorEq] at q1 q2;exact bad (by rw [ste,if_neg (by simp only [Bool.and_eq_true,decide_eq_true_eq];omega)])
      simp only [sm,reduceCtorEq] at q1 q2
      refine i1 (i:=2) rfl rfl (If_i (fun p2a => ?_) fun p2a=>i1 (i:=2) rfl rfl (If_i (fun p2b => ?_) fun p2b => ?_))
      · simp only [sm,reduceCtorEq] at p2a;exact bad (by rw [ste,if_neg (by simp only [Bool.and_eq_true,decide_eq_true_eq];omega)])
      · simp only [sm,reduceCtorEq] at p2a p2b;exact bad (by rw [ste,if_neg (by simp only [Bool.and_eq_true,decide_eq_true_eq];omega)])
      simp only [sm,reduceCtorEq] at p2a p2b
      refine i1 (i:=3) rfl rfl (If_i (fun p3a => ?_) fun p3a=>i1 (i:=3) rfl rfl (If_i (fun p3b => ?_) fun p3b => ?_))
      · simp only [sm,reduceCtorEq] at p3a;exact bad (by rw [ste,if_neg (by simp only [Bool.and_eq_true,decide_eq_true_eq];omega)])
      · simp only [sm,reduceCtorEq] at p3a p3b;exact bad (by rw [ste,if_neg (by simp only [Bool.and_eq_true,decide_eq_true_eq];omega)])
      simp only [sm,reduceCtorEq] at p3a p3b
      refine cut (n:=4) v (by simp) fun t vt=>good (by rw [ste,if_pos (by simp only [Bool.and_eq_true,decide_eq_true_eq];omega)]) (by simpa using vt)
    · simp only [sm,reduceCtorEq] at s2 s3 s4
      have h2:¬U % 8=2:=by omega
      have h3:¬U % 8=3:=by omega
      have h4:¬U % 8=4:=by omega
      simp [uStep,n128,huf,h2,h3,h4]
theorem valids_c {s:ByteArray} {l:List UInt8} {h:Hp} {K:Bool→HP} {Kp:PK} (tb:UTab h) (v:tx s=l) (hl:l.length≤2 ^ 40) (hk:∀h',Grw h h'→K (utf l) h'):Fn224 s h K Kp:=by
  refine Fn224.of (L224_1.rule (fun x0 h'=>∃L,tx x0=L∧utf L=utf l∧Grw h h'∧L.length≤l.length) (fun x0 _=>ByteArray.size x0) ⟨l,v,rfl,Grw.refl _,Nat.le_refl _⟩ ?_)
  rintro x0 h1 ⟨L,v,hu,g1,hL⟩ N1 hN
  have hn:=(show x0.size=L.length by rw [←v];rfl)
  have next:∀{x:ByteArray} {L':List UInt8} {h':Hp},tx x=L'→utf L'=utf l→Grw h h'→L'.length < L.length→N1 (mk224_1 x) h':=fun {x L' h'} v' hu' g' hlt=>hN _ _ ⟨L',v',hu',g',by omega⟩ (by have:=(show x.size=L'.length by rw [←v'];rfl);omega)
  refine If_i (fun c => ?_) fun c => ?_
  rotate_left
  · simp only [sm,reduceCtorEq] at c
    have:L=[]:=List.eq_nil_of_length_eq_zero (by omega)
    rw [this] at hu
    have:=hk h1 g1
    rw [←hu] at this;exact this
  simp only [sm,reduceCtorEq] at c
  obtain ⟨b,r,rfl⟩:∃b r,L=b::r:=by cases L with | nil=>exact absurd hn (by rw [List.length_nil];omega) | cons b r=>exact ⟨_,_,rfl⟩
  simp only [List.length_cons] at hn hL next
  have cut:∀{x:ByteArray} {L':List UInt8} {n:Nat} {K:ByteArray→Prop},tx x=L'→n≤L'.length→(∀t,tx t=L'.drop n→K t)→SlcS x (some (n:Int)) none K:=fun {x L' n K} v' hn' k=>SlcS_i rfl (by rw [v'];exact hn') fun t ht=>k t (by rw [ht,v'])
  have word:∀{x:ByteArray} {L':List UInt8} {h':Hp} {K:Int→HP},tx x=L'→8≤L'.length→K (leN (L'.take 8)) h'→Fn225 x h' K Kp:=fun {x L' h' K} v' hn' k=>words_c (by rw [v'];exact hn') (by rw [v'];exact k)
  have wlt:∀L':List UInt8,leN (L'.take 8) < 2 ^ 64:=fun L'=>Nat.lt_of_lt_of_le (leN_lt _) (Nat.pow_le_pow_right (by decide) (by simp;omega))
  have msk:∀{x:Nat} {K:Int→Prop},x < 2 ^ 64→K ((x &&& M80:Nat):Int)→Lt (bitsV .and .u64 (x:Int) 9259542123273814144) K:=fun {x K} hx k=>by
    unfold Lt
    rw [show (9259542123273814144:Int)=((M80:Nat):Int) from rfl,and64u _ _ hx (by decide)];exact k
  have orr:∀{x y:Nat} {K:Int→Prop},x < 2 ^ 64→y < 2 ^ 64→K ((x ||| y:Nat):Int)→Lt (bitsV .or .u64 (x:Int) (y:Int)) K:=fun {x y K} hx hy k=>by
    unfold Lt
    rw [or64u _ _ hx hy];exact k
  have asc:∀{x:Nat},(((x &&& M80:Nat):Int) == 0)=true→Asc x:=fun {x} q=>by
    rw [beq_iff_eq] at q;unfold Asc;omega
  have olt:∀{x y:Nat},x < 2 ^ 64→y < 2 ^ 64→x ||| y < 2 ^ 64:=fun hx hy=>Nat.or_lt_two_pow hx hy
  refine IxS_i (i:=0) rfl (by rw [v];rfl) ?_
  have hb:=b.toNat_lt
  refine If_i (fun c1 => ?_) fun c1 => ?_
  · simp only [sm,reduceCtorEq] at c1
    have hr:utf r=utf l:=by rw [←hu,utf_asc (by omega)]
    refine cut (n:=1) v (by simp) fun t22 v22 => ?_
    rw [List.drop_succ_cons,List.drop_zero] at v22
    have n22:=(show t22.size=r.length by rw [←v22];rfl)
    have j3:∀(q:Bool) h2,Grw h h2→tx t22=r→(q=true→8 < r.length∧Asc (leN (r.take 8)))→J224_3 K Kp N1 t22 q h2:=by
      intro q h2 g2 v22 hq
      refine J224_3.of (If_i (fun cq => ?_) fun _=>next v22 hr g2 (by omega))
      obtain ⟨q1,q2⟩:=hq cq
      have hr8:utf (r.drop 8)=utf l:=by rw [utf_drop q2.all,hr]
      have l8:(r.drop 8).length=r.length - 8:=by simp
      refine cut (n:=8) v22 (by omega) fun t33 v33 => ?_
      have n33:=(show t33.size=(r.drop 8).length by rw [←v33];rfl)
      have j4:∀(q:Bool) h3,Grw h h3→tx t33=r.drop 8→(q=true→16 < (r.drop 8).length∧Asc (leN ((r.drop 8).take 8))∧Asc (leN (((r.drop 8).drop 8).take 8)))→J224_4 K Kp N1 t33 q h3:=by
        intro q h3 g3 v33 hq
        refine J224_4.of (If_i (fun cq => ?_) fun _=>next v33 hr8 g3 (by omega))
        obtain ⟨q1,q2,q3⟩:=hq cq
        refine cut (n:=16) v33 (by omega) fun t48 v48 => ?_
        have hr16:utf ((r.drop 8).drop 16)=utf l:=by
          have e:(r.drop 8).drop 16=((r.drop 8).drop 8).drop 8:=by simp [List.drop_drop]
          rw [e,utf_drop q3.all,utf_drop q2.all,hr8]
        refine L224_5.rule (fun x h'=>∃L',tx x=L'∧utf L'=utf l∧Grw h h'∧L'.length≤r.length) (fun x _=>ByteArray.size x) ⟨_,v48,hr16,g3,by simp only [List.length_drop];omega⟩ ?_
        rintro x h4 ⟨L',v',hu',g4,hl'⟩ N2 hN2
        have n':=(show x.size=L'.length by rw [←v'];rfl)
        refine If_i (fun c5 => ?_) fun _=>next v' hu' g4 (by omega)
        simp only [sm,reduceCtorEq] at c5
        refine cut (n:=8) v' (by omega) fun ta va=>cut (n:=16) v' (by omega) fun tb vb=>cut (n:=24) v' (by omega) fun tc vc => ?_
        refine word v' (by omega) (word va (by simp;omega) (orr (wlt _) (wlt _) (word vb (by simp;omega) (word vc (by simp;omega) (orr (wlt _) (wlt _) (orr (olt (wlt _) (wlt _)) (olt (wlt _) (wlt _)) (msk (olt (olt (wlt _) (wlt _)) (olt (wlt _) (wlt _))) ?_)))))))
        refine If_i (fun c6 => ?_) fun _=>next v' hu' g4 (by omega)
        have a:=asc c6
        obtain ⟨a1,a2⟩:=a.or
        obtain ⟨b1,b2⟩:=a1.or
        obtain ⟨b3,b4⟩:=a2.or
        refine cut (n:=32) v' (by omega) fun td vd=>hN2 _ _ ⟨_,vd,?_,g4,by simp only [List.length_drop];omega⟩ (by have:=(show td.size=(L'.drop 32).length by rw [←vd];rfl);simp at this;omega)
        have e1:L'.drop 32=(((L'.drop 8).drop 8).drop 8).drop 8:=by simp [List.drop_drop]
        have e2:(L'.drop 8).drop 8=L'.drop 16:=by simp [List.drop_drop]
        have e3:(L'.drop 16).drop 8=L'.drop 24:=by simp [List.drop_drop]
        rw [e1,utf_drop (by rw [e2,e3];exact b4.all),utf_drop (by rw [e2];exact b3.all),utf_drop b2.all,utf_drop b1.all,hu']
      refine If_i (fun c3 => ?_) fun _=>j4 false _ g2 v33 (by simp)
      simp only [sm,reduceCtorEq] at c3
      refine cut (n:=8) v33 (by omega) fun t41 v41=>word v33 (by omega) (word v41 (by simp;omega) (orr (wlt _) (wlt _) (msk (olt (wlt _) (wlt _)) (j4 _ _ g2 v33 fun q => ?_))))
      exact ⟨by omega,(asc q).or⟩
    refine If_i (fun c2 => ?_) fun _=>j3 false _ g1 v22 (by simp)
    simp only [sm,reduceCtorEq] at c2
    exact word v22 (by omega) (msk (wlt _) (j3 _ _ g1 v22 fun q=>⟨by omega,asc q⟩))
  · simp only [sm,reduceCtorEq] at c1
    refine J224_2.of ⟨by omega,by omega,?_⟩
    have tb:=tb.grw g1
    have hF:uF b.toNat < 256:=uF_lt _
    simp only [add_blk,Int.toNat_natCast,Nat.zero_add,Nat.mul_one]
    refine ⟨_,tb.f b.toNat hb,?_⟩
    have a7:bitsV .and .u8 ((uF b.toNat:Nat):Int) 7=((uF b.toNat % 8:Nat):Int):=by
      have h:(BitVec.ofInt 8 ((uF b.toNat:Nat):Int) &&& BitVec.ofInt 8 7).toNat=uF b.toNat % 8:=by
        have e1:BitVec.ofInt 8 ((uF b.toNat:Nat):Int)=BitVec.ofNat 8 (uF b.toNat):=by simp
        have e2:BitVec.ofInt 8 7=BitVec.ofNat 8 7:=by decide
        rw [e1,e2,BitVec.toNat_and,BitVec.toNat_ofNat,BitVec.toNat_ofNat]
        have:7 % 2 ^ 8=2 ^ 3 - 1:=by decide
        rw [this,Nat.and_two_pow_sub_one_eq_mod];omega
      show IntKind.wrap .u8 ((BitVec.ofInt 8 ((uF b.toNat:Nat):Int) &&& BitVec.ofInt 8 7).toNat:Int)=_
      rw [h,IntKind.wrap_u8];omega
    have d16:Int.fdiv ((uF b.toNat:Nat):Int) (2 ^ (min (Int.toNat 4) (IntKind.bits .u8)))=((uF b.toNat / 16:Nat):Int):=by
      have:min (Int.toNat 4) (IntKind.bits .u8)=4:=rfl
      rw [this,Int.fdiv_eq_ediv_of_nonneg _ (by decide)];norm_cast
    have l7:∀{K:Int→Prop},K ((uF b.toNat % 8:Nat):Int)→Lt (bitsV .and .u8 ((uF b.toNat:Nat):Int) 7) K:=fun k=>by unfold Lt;rw [a7];exact k
    have l16:∀{K:Int→Prop},K ((uF b.toNat / 16:Nat):Int)→Lt (Int.fdiv ((uF b.toNat:Nat):Int) (2 ^ (min (Int.toNat 4) (IntKind.bits .u8)))) K:=fun k=>by unfold Lt;rw [d16];exact k
    refine l7 (Wr_i64 (by omega) (by omega) (Nn_i (by decide) (l16 ⟨by omega,by omega,?_⟩)))
    have ta:=tb.a (uF b.toNat / 16) (by omega)
    simp only [add_blk,Int.toNat_natCast,Nat.zero_add]
    refine ⟨_,ta.1,_,ta.2,New_i fun b6 h2 e6 g2 k6 _ => ?_⟩
    simp only [add_blk]
    refine St_i k6 (by simp) rfl fun h3 o3 k6=>St_i k6 (by simp) rfl fun h4 o4 k6 => ?_
    have k6:Blk h4 b6 #[.int .u8 (uLo (uF b.toNat / 16)), .int .u8 (uHi (uF b.toNat / 16))] Y248:=by simpa using k6
    have G:Grw h1 h4:=Only.grw (Only.grw g2 o3 (by omega)) o4 (by omega)
    have G4:=Grw.trans g1 G
    have v:tx x0=b::r:=v
    have bad:uStep b r=none→K false h4:=fun q=>by
      have:=hk h4 G4
      rw [←hu,utf_cons,q] at this;exact this
    have good:∀{r':List UInt8} {t:ByteArray},uStep b r=some r'→tx t=r'→N1 (mk224_1 t) h4:=fun {r' t} q v'=>by
      refine next v' ?_ G4 (by have:=uStep_len q;omega)
      rw [←hu,utf_cons,q]
    have n128:¬b.toNat < 128:=by omega
    generalize huf:uF b.toNat=U at *
    have sz:∀(m:Nat),(((U % 8:Nat):Int) == (m:Int))=decide (U % 8=m):=fun m=>by rw [Bool.eq_iff_iff,beq_iff_eq,decide_eq_true_eq];omega
    have i1:∀{i:Nat} {e:UInt8} {K:Int→Prop} {x:Int},x=i→(b::r)[i]? = some e→K e.toNat→IxS x0 x K:=fun hx he k=>IxS_i hx (by rw [v];exact he) k
    refine If_i (fun s2 => ?_) fun s2=>If_i (fun s3 => ?_) fun s3=>If_i (fun s4 => ?_) fun s4=>bad ?_
    · simp only [sm,reduceCtorEq] at s2
      have s2:U % 8=2:=by omega
      refine If_i (fun c2=>bad ?_) fun c2 => ?_
      · simp only [sm,reduceCtorEq] at c2
        have:r=[]:=List.eq_nil_of_length_eq_zero (by omega)
        subst this;simp [uStep,n128,huf,s2]
      simp only [sm,reduceCtorEq] at c2
      obtain ⟨e,r,rfl⟩:∃e r',r=e::r':=by cases r with | nil=>simp only [List.length_nil,List.length_cons] at hn;omega | cons e r=>exact ⟨_,_,rfl⟩
      have ste:uStep b (e::r)=if uIn b.toNat e then some r else none:=by simp [uStep,n128,huf,s2]
      unfold uIn at ste
      rw [huf] at ste
      refine i1 (i:=1) rfl rfl (Ld_blk k6 rfl (If_i (fun q1 => ?_) fun q1=>Ld_blk k6 rfl (i1 (i:=1) rfl rfl (If_i (fun q2 => ?_) fun q2 => ?_))))
      · simp only [sm,reduceCtorEq] at q1;exact bad (by rw [ste,if_neg (by simp only [Bool.and_eq_true,decide_eq_true_eq];omega)])
      · simp only [sm,reduceCtorEq] at q1 q2;exact bad (by rw [ste,if_neg (by simp only [Bool.and_eq_true,decide_eq_true_eq];omega)])
      simp only [sm,reduceCtorEq] at q1 q2
      refine cut (n:=2) v (by simp) fun t vt=>good (by rw [ste,if_pos (by simp only [Bool.and_eq_true,decide_eq_true_eq];omega)]) (by simpa using vt)
    · simp only [sm,reduceCtorEq] at s2 s3
      have s3:U % 8=3:=by omega
      refine If_i (fun c2=>bad ?_) fun c2 => ?_
      · simp only [sm,reduceCtorEq] at c2
        cases r with
        | nil=>simp [uStep,n128,huf,s3]
        | cons e r=>cases r with
          | nil=>simp [uStep,n128,huf,s3]
          | cons f r=>simp only [List.length_nil,List.length_cons] at hn;omega
      simp only [sm,reduceCtorEq] at c2
      obtain ⟨e,f,r,rfl⟩:∃e f r',r=e::f::r':=by
        cases r with
        | nil=>simp only [List.length_nil,List.length_cons] at hn;omega
        | cons e r=>cases r with
          | nil=>simp only [List.length_nil,List.length_cons] at hn;omega
          | cons f r=>exact ⟨_,_,_,rfl⟩
      have ste:uStep b (e::f::r)=if uIn b.toNat e && uCo f then some r else none:=by simp [uStep,n128,huf,s3]
      unfold uIn uCo at ste
      rw [huf] at ste
      refine i1 (i:=1) rfl rfl (Ld_blk k6 rfl (If_i (fun q1 => ?_) fun q1=>Ld_blk k6 rfl (i1 (i:=1) rfl rfl (If_i (fun q2 => ?_) fun q2 => ?_))))
      · simp only [sm,reduceCtorEq] at q1;exact bad (by rw [ste,if_neg (by simp only [Bool.and_eq_true,decide_eq_true_eq];omega)])
      · simp only [sm,reduceCtorEq] at q1 q2;exact bad (by rw [ste,if_neg (by simp only [Bool.and_eq_true,decide_eq_true_eq];omega)])
      simp only [sm,reduceCtorEq] at q1 q2
      refine i1 (i:=2) rfl rfl (If_i (fun p2a => ?_) fun p2a=>i1 (i:=2) rfl rfl (If_i (fun p2b => ?_) fun p2b => ?_))
      · simp only [sm,reduceCtorEq] at p2a;exact bad (by rw [ste,if_neg (by simp only [Bool.and_eq_true,decide_eq_true_eq];omega)])
      · simp only [sm,reduceCtorEq] at p2a p2b;exact bad (by rw [ste,if_neg (by simp only [Bool.and_eq_true,decide_eq_true_eq];omega)])
      simp only [sm,reduceCtorEq] at p2a p2b
      refine cut (n:=3) v (by simp) fun t vt=>good (by rw [ste,if_pos (by simp only [Bool.and_eq_true,decide_eq_true_eq];omega)]) (by simpa using vt)
    · simp only [sm,reduceCtorEq] at s2 s3 s4
      have s4:U % 8=4:=by omega
      refine If_i (fun c2=>bad ?_) fun c2 => ?_
      · simp only [sm,reduceCtorEq] at c2
        cases r with
        | nil=>simp [uStep,n128,huf,s4]
        | cons e r=>cases r with
          | nil=>simp [uStep,n128,huf,s4]
          | cons f r=>cases r with
            | nil=>simp [uStep,n128,huf,s4]
            | cons g r=>simp only [List.length_nil,List.length_cons] at hn;omega
      simp only [sm,reduceCtorEq] at c2
      obtain ⟨e,f,g,r,rfl⟩:∃e f g r',r=e::f::g::r':=by
        cases r with
        | nil=>simp only [List.length_nil,List.length_cons] at hn;omega
        | cons e r=>cases r with
          | nil=>simp only [List.length_nil,List.length_cons] at hn;omega
          | cons f r=>cases r with
            | nil=>simp only [List.length_nil,List.length_cons] at hn;omega
            | cons g r=>exact ⟨_,_,_,_,rfl⟩
      have ste:uStep b (e::f::g::r)=if uIn b.toNat e && (uCo f && uCo g) then some r else none:=by simp [uStep,n128,huf,s4]
      unfold uIn uCo at ste
      rw [huf] at ste
      refine i1 (i:=1) rfl rfl (Ld_blk k6 rfl (If_i (fun q1 => ?_) fun q1=>Ld_blk k6 rfl (i1 (i:=1) rfl rfl (If_i (fun q2 => ?_) fun q2 => ?_))))
      · simp only [sm,reduceCtorEq] at q1;exact bad (by rw [ste,if_neg (by simp only [Bool.and_eq_true,decide_eq_true_eq];omega)])
      · simp only [sm,reduceCtorEq] at q1 q2;exact bad (by rw [ste,if_neg (by simp only [Bool.and_eq_true,decide_eq_true_eq];omega)])
      simp only [sm,reduceCtorEq] at q1 q2
      refine i1 (i:=2) rfl rfl (If_i (fun p2a => ?_) fun p2a=>i1 (i:=2) rfl rfl (If_i (fun p2b => ?_) fun p2b => ?_))
      · simp only [sm,reduceCtorEq] at p2a;exact bad (by rw [ste,if_neg (by simp only [Bool.and_eq_true,decide_eq_true_eq];omega)])
      · simp only [sm,reduceCtorEq] at p2a p2b;exact bad (by rw [ste,if_neg (by simp only [Bool.and_eq_true,decide_eq_true_eq];omega)])
      simp only [sm,reduceCtorEq] at p2a p2b
      refine i1 (i:=3) rfl rfl (If_i (fun p3a => ?_) fun p3a=>i1 (i:=3) rfl rfl (If_i (fun p3b => ?_) fun p3b => ?_))
      · simp only [sm,reduceCtorEq] at p3a;exact bad (by rw [ste,if_neg (by simp only [Bool.and_eq_true,decide_eq_true_eq];omega)])
      · simp only [sm,reduceCtorEq] at p3a p3b;exact bad (by rw [ste,if_neg (by simp only [Bool.and_eq_true,decide_eq_true_eq];omega)])
      simp only [sm,reduceCtorEq] at p3a p3b
      refine cut (n:=4) v (by simp) fun t vt=>good (by rw [ste,if_pos (by simp only [Bool.and_eq_true,decide_eq_true_eq];omega)]) (by simpa using vt)
    · simp only [sm,reduceCtorEq] at s2 s3 s4
      have h2:¬U % 8=2:=by omega
      have h3:¬U % 8=3:=by omega
      have h4:¬U % 8=4:=by omega
      simp [uStep,n128,huf,h2,h3,h4]
end Go.Proofs.YtlbbdbdjiekkaaaGreatDoor
set_option maxRecDepth 100000
set_option maxHeartbeats 1000000
/- What stands in the rows: offsets, letters, codes, indices, ends. -/
namespace Go.Proofs.YtlbbdbdjiekkaaaGreatDoor
open Go Go.Sh Go.WideShapes
theorem awidth_c {k:Int} {h:Hp} {K:Int→HP} {Kp:PK} (h1:1≤k∧k≤20) (hk:K (widK k) h):Fn180 k h K Kp:=by
  have fin:∀v:Int,v=widK k→K v h:=fun v e=>e ▸ hk
  refine Fn180.of ?_
  unfold widK at fin
  repeat' (first | ((with_reducible refine J180_1.of ?_);(try simp only [add_blk,Nat.reduceAdd])) | ((with_reducible refine If_t (by first | rfl | (simp only [sm,reduceCtorEq];omega)) ?_)) | ((with_reducible refine If_f (by first | rfl | (simp only [sm,reduceCtorEq];omega)) ?_)) | (((with_reducible refine If_i (fun c => ?_) (fun c => ?_)) <;> (try simp only [sm,reduceCtorEq] at c))))
  all_goals refine fin _ ?_
  all_goals try simp only [sm,reduceCtorEq] at *
  all_goals (repeat' split)
  all_goals omega
/-- the row of the dictionary that a row names -/
def idxD (ix:Int) (d:Dat) (r:Nat):Option Nat :=
  if (ix≤6∧2 ^ (8*(widK ix).toNat - 1)≤nAt (bufD d.bufs 1) (r*(widK ix).toNat) (widK ix).toNat)∨(∀c,d.ds[0]? = some c→c.len≤(nAt (bufD d.bufs 1) (r*(widK ix).toNat) (widK ix).toNat:Int)) then none
  else some (nAt (bufD d.bufs 1) (r*(widK ix).toNat) (widK ix).toNat)
theorem leN_top {l:List UInt8} {w:Nat} {b:UInt8} (hl:l.length=w+1) (hb:l[w]? = some b):(127 < b.toNat↔2 ^ (8*(w+1) - 1)≤leN l):=by
  have e:l=l.take w++[b]:=by
    have hw:w < l.length:=by omega
    rw [List.getElem?_eq_getElem hw,Option.some.injEq] at hb
    conv=>lhs;rw [←List.take_append_drop w l]
    congr 1
    rw [List.drop_eq_getElem_cons hw,hb,List.drop_of_length_le (by omega)]
  have hlt:=leN_lt (l.take w)
  have tl:(l.take w).length=w:=by simp;omega
  rw [tl] at hlt
  have hb2:=b.toNat_lt
  rw [e,leN_snoc,tl]
  have e2:2 ^ (8*(w+1) - 1)=128*2 ^ (8*w):=by
    have:8*(w+1) - 1=8*w+7:=by omega
    rw [this,Nat.pow_add,Nat.mul_comm]
  rw [e2]
  constructor
  · intro h
    have:=Nat.mul_le_mul_right (2 ^ (8*w)) (show 128≤b.toNat by omega)
    omega
  · intro h
    rcases Nat.lt_or_ge 127 b.toNat with q | q
    · exact q
    · have:=Nat.mul_le_mul_right (2 ^ (8*w)) (show b.toNat≤127 by omega)
      omega
theorem index_c {nm:ByteArray} {nul:Bool} {k w id ix n o u:Int} {s:Sl} {d:Dat} {p:Sl × Sl × Sl} {x:Int} {r:Nat} {c:Dat} {D E:Nat→Prop} {h:Hp} {K:Int→HP} {Kp:PK} (v:DvA D E h p d) (hx:x=r) (h1:3≤ix∧ix≤10) (hb:2≤d.bufs.length) (hr:(r+1)*(widK ix).toNat≤(bufD d.bufs 1).length)
    (hl:(bufD d.bufs 1).length≤2 ^ 40) (hd:d.ds[0]? = some c) (hc:c.len < 2 ^ 63) (hk:∀(y:Int) h',Grw h h'→(idxD ix d r=none→y = -1)→(∀m,idxD ix d r=some m→y=m)→K y h'):Fn159 nm nul k w id ix s n o u p.1 p.2.1 p.2.2 x h K Kp:=by
  subst hx
  have wk : 1≤(widK ix).toNat∧(widK ix).toNat≤8∧widK ix=((widK ix).toNat:Int):=by
    have:widK ix=1∨widK ix=2∨widK ix=4∨widK ix=8:=by
      unfold widK
      split
      · omega
      · split
        · omega
        · split
          · omega
          · split <;> omega
    omega
  unfold idxD at hk
  refine Fn159.of (New_i fun b3 h1' e1 g1 k3 _=>New_i fun b4 h2 e2 g2 k4 _ => ?_)
  simp only [add_blk]
  have G:=Grw.trans g1 g2
  have k3:=k3.grw g2
  refine Ld_blk k3 rfl (awidth_c (by omega) (Ld_blk k4 rfl ((v.b.gr G).ix rfl (by omega:1 < d.bufs.length) fun a t ca vt=>⟨_,ca,?_⟩)))
  rw [wk.2.2]
  generalize (widK ix).toNat=W at wk hr hk
  have vt:=vt.1
  generalize bufD d.bufs 1=B at hr hl hk vt
  have e1:(r:Int)*(W:Int)=((r*W:Nat):Int):=by simp
  have e2:((r:Int)+1)*(W:Int)=(((r+1)*W:Nat):Int):=by simp
  have e3:(r+1)*W=r*W+W:=Nat.succ_mul r W
  rw [e1]
  have hrW:r≤(r+1)*W:=by
    have:=Nat.mul_le_mul_left (r+1) wk.1;omega
  refine Wr_i64 (by omega) (by omega) (Wr_i64 (by omega) (by omega) ?_)
  rw [e2]
  have tn:=vt.1
  rw [bv_len] at tn
  have tc:=vt.2.1
  refine Wr_i64 (by omega) (by omega) (Sv_slc vt (a:=r*W) (b:=(r+1)*W) (m:=t.c) rfl rfl rfl (by omega) (by rw [bv_len];omega) (by omega) (Nat.le_refl _) fun t28 ht28 _ _ v28 => ?_)
  rw [bv_cut,show (r+1)*W - r*W=W by omega] at v28
  rw [show (r+1)*W - r*W=W by omega] at ht28
  have hL:((B.drop (r*W)).take W).length=W:=by simp;omega
  have hnA:nAt B (r*W) W=leN ((B.drop (r*W)).take W):=rfl
  rw [hnA] at hk
  generalize (B.drop (r*W)).take W=L at v28 hL hk
  refine L159_3.rule (fun x9 x31 h'=>h'=h2∧∃i:Nat,x31=i∧i≤W∧x9=leN (L.take i)) (fun _ x31 _=>W - x31.toNat) ⟨rfl,0,rfl,by omega,by simp [leN]⟩ ?_
  rintro x9 x31 h3 ⟨rfl,i,rfl,hi,rfl⟩ N1 hN
  refine If_i (fun c1 => ?_) fun c1 => ?_
  · simp only [sm,reduceCtorEq] at c1
    have hi':i < L.length:=by omega
    have hbi:L[i]? = some L[i]:=List.getElem?_eq_getElem hi'
    have htk:L.take (i+1)=L.take i++[L[i]]:=List.take_succ_eq_append_getElem hi'
    generalize L[i]=b at hbi htk
    have hb8:=b.toNat_lt
    have hlt:=leN_lt (L.take i)
    have tl:(L.take i).length=i:=by simp;omega
    rw [tl] at hlt
    refine Sv_byte v28 rfl hbi (Wr_u rfl (Nat.lt_of_lt_of_le hb8 (by decide)) ?_)
    rw [show (8:Int)*(i:Int)=((8*i:Nat):Int) by omega]
    have hp:b.toNat*2 ^ (8*i) < 2 ^ 64:=by
      have q1:b.toNat*2 ^ (8*i) < 2 ^ 8*2 ^ (8*i):=Nat.mul_lt_mul_of_pos_right hb8 (Nat.two_pow_pos _)
      rw [←Nat.pow_add] at q1
      exact Nat.lt_of_lt_of_le q1 (Nat.pow_le_pow_right (by decide) (by omega))
    refine Wr_i64 (by omega) (by omega) (sh_or (k:=8*i) ?_ hlt hp (Nat.lt_of_lt_of_le hlt (Nat.pow_le_pow_right (by decide) (by omega))) ?_)
    · have:IntKind.bits .u64=64:=rfl
      rw [this,Int.toNat_natCast];omega
    · refine Wr_i64 (by omega) (by omega) (hN _ _ _ ⟨rfl,i+1,by simp,by omega,?_⟩ (by omega))
      rw [htk,leN_snoc,tl]
  · simp only [sm,reduceCtorEq] at c1
    have:i=W:=by omega
    subst this
    rw [List.take_of_length_le (by omega)]
    have hLt:=leN_lt L
    rw [hL] at hLt
    have hL64:leN L < 2 ^ 64:=Nat.lt_of_lt_of_le hLt (Nat.pow_le_pow_right (by decide) (by omega))
    have j2 : ∀b:Bool,(b=true↔(ix≤6∧2 ^ (8*i - 1)≤leN L))→J159_2 K Kp ⟨b4,0,none⟩ (leN L) b h3:=by
      intro b hb'
      refine J159_2.of ?_
      simp only [add_blk]
      refine If_i (fun c2=>hk _ _ G (fun _=>rfl) fun m q => ?_) fun c2=>Ld_blk k4 rfl ((v.x.gr G).ix rfl hd fun a q ca _=>⟨_,add_0 a ▸ ca 0 _ rfl,?_⟩)
      · rw [if_pos (.inl (hb'.1 c2))] at q;cases q
      · have hmax:(if (0:Int) > c.len then (0:Int) else c.len)=((c.len.toNat:Nat):Int):=by split <;> omega
        refine Lt_any ?_
        rw [hmax]
        refine Wr_u rfl (Nat.lt_of_lt_of_le (show c.len.toNat < 2 ^ 63 by omega) (by decide)) (If_i (fun c3=>hk _ _ G (fun _=>rfl) fun m q => ?_) fun c3 => ?_)
        · simp only [sm,reduceCtorEq] at c3
          rw [if_pos (.inr fun c' hc'=>by rw [hd] at hc';cases hc';omega)] at q;cases q
        · simp only [sm,reduceCtorEq] at c3
          refine Wr_i64 (by omega) (by omega) (hk _ _ G (fun q => ?_) fun m q => ?_)
          all_goals rw [if_neg (by
            rintro (q' | q')
            · rw [hb'.2 q'] at c2;cases c2
            · have:=q' c hd;omega)] at q
          · cases q
          · cases q;rfl
    refine J159_1.of ?_
    simp only [add_blk]
    obtain ⟨w',rfl⟩:∃w',i=w'+1:=⟨i - 1,by omega⟩
    have hbw:L[w']? = some L[w']:=List.getElem?_eq_getElem (by omega)
    have top:=leN_top hL hbw
    refine Ld_blk k3 rfl (If_i (fun c2=>Wr_i64 (by omega) (by omega) (Sv_byte v28 (i:=w') (by omega) hbw (j2 _ ?_))) fun c2=>j2 _ ?_)
    · simp only [sm,reduceCtorEq] at c2
      rw [decide_eq_true_eq,←top]
      exact ⟨fun q=>⟨c2,by omega⟩,fun q=>by have:=q.2;omega⟩
    · simp only [sm,reduceCtorEq] at c2;simp [c2]
/-- the offsets of Text, Bytes and List -/
def mostD (k:Int) (d:Dat):Int:=if k=15 then (match d.cs with | c::_=>c.len | []=>0) else (bufD d.bufs 2).length
def offN (d:Dat) (i:Nat):Int:=i32 (bufD d.bufs 1) (d.off.toNat+i)
def OffOk (k:Int) (d:Dat):Prop:=(∀i:Nat,i≤d.len.toNat→0≤offN d i∧offN d i≤mostD k d∧(∀j:Nat,i=j+1→offN d j≤offN d i)) ∧
  (k=12→∀i:Nat,i < d.len.toNat→nullB k d.bufs (d.off.toNat+i)=false→utf (((bufD d.bufs 2).drop (offN d i).toNat).take ((offN d (i+1)).toNat - (offN d i).toNat))=true)
end Go.Proofs.YtlbbdbdjiekkaaaGreatDoor
set_option maxRecDepth 100000
set_option maxHeartbeats 1000000
/- Offsets and letters looked at. -/
namespace Go.Proofs.YtlbbdbdjiekkaaaGreatDoor
open Go Go.Sh Go.WideShapes
/-- what a walk over rows leans on -/
structure RowC (k:Int) (d:Dat):Prop where
  l0:0≤d.len
  l1:d.len≤4096
  o0:0≤d.off
  o1:d.off≤4096
  hv:hasV k=true→1≤d.bufs.length
  big:∀j,j < d.bufs.length→(bufD d.bufs j).length≤65536
theorem SizOk.row {nul:Bool} {k w id ix:Int} {cs:List Fld} {d:Dat} (o:SizOk nul k w id ix cs d):RowC k d:=by
  refine ⟨o.l0,o.l1,o.o0,o.o1,fun q => ?_,o.big⟩
  have nb:=o.nb
  unfold hasV at q
  simp only [Bool.and_eq_true,bne_iff_ne,ne_eq] at q
  unfold bufK at nb
  repeat' split at nb
  all_goals omega
section
variable {h0 h:Hp} {b2 b3 b4:Nat} {nm:ByteArray} {nul:Bool} {k w id ix:Int} {s:Sl} {d:Dat} {p:Sl × Sl × Sl} {K:Int→Sl→Int→HP} {Kp:PK}
theorem Sz.okay (z:Sz h0 h b2 b3 b4 nm nul k w id ix s d p) {P:Prop} (hP:P) (hk:∀e t n h',Grw h0 h'→t=Sl.nil→(e=0↔P)→K e t n h') :
    SY37 h ⟨b4,0,none⟩ 0 (⟨none,0,0⟩:Sl) 0 fun h2=>LY37 h2 ⟨b4,0,none⟩ fun r0 r1 r2=>K r0 r1 r2 h2 :=
  okay_to z.g z.k4 rfl z.hb fun h' g'=>hk _ _ _ h' g' rfl ⟨fun _=>hP,fun _=>rfl⟩
/-- an offset is read -/
theorem off_c (v:BfsA Tt Tt h0 p.1 d.bufs) (g:Grw h0 h) (big:(bufD d.bufs 1).length≤65536) (hb:1 < d.bufs.length) {x:Int} {r:Nat} (hx:x=r) (hr:4*r+4≤(bufD d.bufs 1).length) {Kk:Int→HP} (hk:Kk (i32 (bufD d.bufs 1) r) h) :
    Ix p.1.a p.1.n 1 1 fun a=>Ld h a Sl.v fun t=>Fn158 t x h Kk Kp :=
  (v.gr g).ix rfl hb fun a t ca vt=>⟨_,ca,signed_c vt.1 hx hr (by omega) hk⟩
theorem offs3_c (tb:UTab h0) (z:Sz h0 h b2 b3 b4 nm nul k w id ix s d p) (v:DvH h0 p d) (o:RowC k d) (hk12:k=12) (hb:d.bufs.length=3) (h1:4*(d.off+d.len+1)≤(bufD d.bufs 1).length)
    (ho:∀i:Nat,i≤d.len.toNat→0≤offN d i∧offN d i≤mostD k d∧(∀j:Nat,i=j+1→offN d j≤offN d i)) (hk:∀e t n h',Grw h0 h'→t=Sl.nil→(e=0↔OffOk k d)→K e t n h') :
    L157_3 K Kp ⟨b2,0,none⟩ ⟨b3,0,none⟩ ⟨b4,0,none⟩ d.len 0 h:=by
  obtain ⟨l0,l1,o0,o1,hv,big⟩:=o
  have big1:=big 1 (by omega)
  have big2:=big 2 (by omega)
  have hm:mostD k d=(bufD d.bufs 2).length:=by rw [mostD,if_neg (by omega)]
  refine L157_3.rule (fun x h'=>∃i:Nat,x=i∧i≤d.len.toNat∧Grw h h'∧∀j:Nat,j < i→nullB k d.bufs (d.off.toNat+j)=false→utf (((bufD d.bufs 2).drop (offN d j).toNat).take ((offN d (j+1)).toNat - (offN d j).toNat))=true) (fun x _=>d.len.toNat - x.toNat)
    ⟨0,rfl,by omega,Grw.refl _,fun j hj=>by omega⟩ ?_
  rintro x h1' ⟨i,rfl,hi,g1,hall⟩ N1 hN
  have z:=z.grw g1
  simp only [add_blk]
  refine If_i (fun c => ?_) fun c => ?_
  · simp only [sm,reduceCtorEq] at c
    refine Ld_blk z.k3 rfl (Wr_i64 (by omega) (by omega) (LY29.b z.k2 (LY33.b z.k3 ?_)))
    have er:d.off+(i:Int)=((d.off.toNat+i:Nat):Int):=by omega
    rw [er]
    refine null_c (v.b.gr z.g) hv (by omega) fun h2 g2 => ?_
    have z:=z.grw g2
    have step:∀h',Grw h h'→(nullB k d.bufs (d.off.toNat+i)=false→utf (((bufD d.bufs 2).drop (offN d i).toNat).take ((offN d (i+1)).toNat - (offN d i).toNat))=true) →
        Wr .i64 ((i:Int)+1) fun t95=>N1 (mk157_3 ⟨b2,0,none⟩ ⟨b3,0,none⟩ ⟨b4,0,none⟩ d.len t95) h':=fun h' g' q =>
      Wr_i64 (by omega) (by omega) (hN _ _ ⟨i+1,by simp,by omega,g',fun j hj=>by
        by_cases e:j=i
        · subst e;exact q
        · exact hall j (by omega)⟩ (by omega))
    refine If_i (fun c2 => ?_) fun c2=>step _ (Grw.trans g1 g2) fun q => ?_
    · simp only [sm,reduceCtorEq] at c2
      have o1':=ho i (by omega)
      have o2':=ho (i+1) (by omega)
      have mono:=o2'.2.2 i rfl
      refine Ld_blk z.k3 rfl ((v.b.gr z.g).ix rfl (by omega:2 < d.bufs.length) fun a t75 ca v75=>⟨_,ca,Ld_blk z.k3 rfl ?_⟩)
      refine (v.b.gr z.g).ix rfl (by omega:1 < d.bufs.length) fun a1 t79 ca1 v79=>⟨_,ca1,Ld_blk z.k3 rfl ?_⟩
      refine (v.b.gr z.g).ix rfl (by omega:1 < d.bufs.length) fun a2 t85 ca2 v85=>⟨_,ca2,Wr_i64 (by omega) (by omega) ?_⟩
      refine signed_c (i:=d.off.toNat+i) v79.1 rfl (by omega) (by omega) (Keep_cell ca2 (Grw.refl _) (Keep_blk z.k3 (Grw.refl _) (Keep_cell ca (Grw.refl _) (Keep_blk z.k3 (Grw.refl _) ?_))))
      refine signed_c (i:=d.off.toNat+(i+1)) v85.1 (by omega) (by omega) (by omega) (Keep_cell ca (Grw.refl _) (Keep_blk z.k3 (Grw.refl _) ?_))
      have e1:i32 (bufD d.bufs 1) (d.off.toNat+i)=offN d i:=rfl
      have e2:i32 (bufD d.bufs 1) (d.off.toNat+(i+1))=offN d (i+1):=rfl
      rw [e1,e2]
      have tn:=v75.1.1
      rw [bv_len] at tn
      refine Sv_slc v75.1 (a:=(offN d i).toNat) (b:=(offN d (i+1)).toNat) (m:=t75.c) (by simp;omega) (by simp;omega) rfl (by omega) (by rw [bv_len];omega) (by have:=v75.1.2.1;omega) (Nat.le_refl _) fun t89 _ _ _ v89 => ?_
      rw [bv_cut] at v89
      refine valid_c (tb.grw z.g) v89 (by simp only [List.length_take,List.length_drop];omega) fun h4 g4 => ?_
      refine If_i (fun c3 => ?_) fun c3=>step _ (Grw.trans (Grw.trans g1 g2) g4) fun _ => ?_
      · simp only [sm,reduceCtorEq] at c3
        exact (z.grw g4).bad (by decide) (fun q=>by have:=q.2 hk12 i (by omega) c2;rw [c3] at this;cases this) hk
      · simp only [sm,reduceCtorEq] at c3;exact c3
    · simp only [sm,reduceCtorEq] at c2;rw [c2] at q;cases q
  · simp only [sm,reduceCtorEq] at c
    exact z.okay ⟨ho,fun _ i hi2=>hall i (by omega)⟩ hk
theorem offs_c (tb:UTab h) (v:DvH h p d) (o:RowC k d) (hkk:k=12∨k=13∨k=15) (hb:k≠15→d.bufs.length=3) (hb2:k=15→d.bufs.length=2∧∃c,d.cs[0]? = some c) (h1:4*(d.off+d.len+1)≤(bufD d.bufs 1).length)
    (hk:∀e t n h',Grw h h'→t=Sl.nil→(e=0↔OffOk k d)→K e t n h'):Fn157 nm nul k w id ix s d.len d.off d.nul p.1 p.2.1 p.2.2 h K Kp:=by
  have o':=o
  obtain ⟨l0,l1,o0,o1,hv,big⟩:=o
  have hbl:1 < d.bufs.length:=by rcases Decidable.em (k=15) with q | q;have:=(hb2 q).1;omega;have:=hb q;omega
  have big1:=big 1 hbl
  refine Fn157.of (New_i fun b2 h1' e1 g1 k2 _=>New_i fun b3 h2 e2 g2 k3 _=>New_i fun b4 h3 e3 g3 k4 _ => ?_)
  have z:Sz h h3 b2 b3 b4 nm nul k w id ix s d p:=⟨Grw.trans g1 (Grw.trans g2 g3),(k2.grw g2).grw g3,k3.grw g3,k4,by have:=g1.1;have:=g2.1;omega⟩
  simp only [add_blk]
  have j1 : J157_1 K Kp ⟨b2,0,none⟩ ⟨b3,0,none⟩ ⟨b4,0,none⟩ (mostD k d) h3:=by
    refine J157_1.of (Ld_blk z.k3 rfl (Wr_i64 (by omega) (by omega) ?_))
    refine L157_4.rule (fun x6 x h'=>∃i:Nat,x=i∧i≤d.len.toNat+1∧Grw h3 h'∧(∀j:Nat,j < i→0≤offN d j∧offN d j≤mostD k d∧(∀m:Nat,j=m+1→offN d m≤offN d j))∧(i=0→x6=0)∧(∀m:Nat,i=m+1→x6=offN d m)) (fun _ x _=>d.len.toNat+1 - x.toNat)
      ⟨0,rfl,by omega,Grw.refl _,fun j hj=>by omega,fun _=>rfl,fun m q=>by omega⟩ ?_
    rintro x6 x h4 ⟨i,rfl,hi,g4,hall,hx0,hxm⟩ N1 hN
    have z:=z.grw g4
    simp only [add_blk]
    refine If_i (fun c => ?_) fun c => ?_
    · simp only [sm,reduceCtorEq] at c
      have x60:0≤x6:=by
        cases i with
        | zero=>rw [hx0 rfl];exact Int.le_refl _
        | succ m=>rw [hxm m rfl];exact (hall m (by omega)).1
      have bad:¬(x6≤offN d i∧offN d i≤mostD k d)→Fn99 83 (i:Int) h4 (fun t0 t1 t2 h1=>SY37 h1 ⟨b4,0,none⟩ t0 t1 t2 fun h2=>LY37 h2 ⟨b4,0,none⟩ fun r0 r1 r2=>K r0 r1 r2 h2) Kp:=fun no=>z.bad (by decide) (fun q=>no (by
        have:=q.1 i (by omega)
        refine ⟨?_,this.2.1⟩
        cases i with
        | zero=>rw [hx0 rfl];exact this.1
        | succ m=>rw [hxm m rfl];exact this.2.2 m rfl)) hk
      · refine Ld_blk z.k3 rfl ((v.b.gr z.g).ix rfl hbl fun a t ca vt=>⟨_,ca,Ld_blk z.k3 rfl (Wr_i64 (by omega) (by omega) (signed_c (i:=d.off.toNat+i) vt.1 (by omega) (by omega) (by omega) ?_))⟩)
        have e1:i32 (bufD d.bufs 1) (d.off.toNat+i)=offN d i:=rfl
        rw [e1]
        refine If_i (fun c2=>bad ?_) fun c2=>If_i (fun c3=>bad ?_) fun c3 => ?_
        · simp only [sm,reduceCtorEq] at c2;omega
        · simp only [sm,reduceCtorEq] at c3;omega
        · simp only [sm,reduceCtorEq] at c2 c3
          refine Wr_i64 (by omega) (by omega) (hN _ _ _ ⟨i+1,by simp,by omega,g4,fun j hj => ?_,fun q=>by omega,fun m q=>congrArg (offN d) (by omega:i=m)⟩ (by omega))
          by_cases e:j=i
          · subst e
            exact ⟨by omega,by omega,fun m q=>by have:=hxm m q;omega⟩
          · exact hall j (by omega)
    · simp only [sm,reduceCtorEq] at c
      have ho:∀j:Nat,j≤d.len.toNat→0≤offN d j∧offN d j≤mostD k d∧(∀m:Nat,j=m+1→offN d m≤offN d j):=fun j hj=>hall j (by omega)
      refine J157_2.of ?_
      simp only [add_blk]
      refine Ld_blk z.k2 rfl (If_i (fun c2=>z.okay ⟨ho,fun q => ?_⟩ hk) fun c2=>Ld_blk z.k3 rfl ?_)
      · simp only [sm,reduceCtorEq] at c2
        exact offs3_c tb z v o' c2 (hb (by omega)) h1 ho hk
      · simp only [sm,reduceCtorEq] at c2;exact absurd q c2
  refine Ld_blk z.k2 rfl (If_i (fun c => ?_) fun c => ?_)
  · simp only [sm,reduceCtorEq] at c
    obtain ⟨_,c0,hc0⟩:=hb2 c
    have hm:mostD k d=c0.len:=by
      rw [mostD,if_pos c]
      cases hcs:d.cs with
      | nil=>rw [hcs] at hc0;cases hc0
      | cons x xs=>rw [hcs] at hc0;simp only [List.getElem?_cons_zero,Option.some.injEq] at hc0;rw [hc0]
    rw [hm] at j1
    exact Ld_blk z.k3 rfl ((v.c.gr z.g).ix rfl hc0 fun a q ca _=>⟨_,add_0 a ▸ ca 0 _ rfl,j1⟩)
  · simp only [sm,reduceCtorEq] at c
    have hm:mostD k d=(bufD d.bufs 2).length:=by rw [mostD,if_neg c]
    refine Ld_blk z.k3 rfl ((v.b.gr z.g).ix rfl (by have:=hb c;omega:2 < d.bufs.length) fun a t ca vt=>⟨_,ca,?_⟩)
    have tn:=vt.1.1
    rw [bv_len] at tn
    have e:(t.n:Int)=mostD k d:=by omega
    show J157_1 K Kp _ _ _ (t.n:Int) h3
    rw [e];exact j1
end
end Go.Proofs.YtlbbdbdjiekkaaaGreatDoor
set_option maxRecDepth 100000
set_option maxHeartbeats 1000000
/- Rows and ends looked at. -/
namespace Go.Proofs.YtlbbdbdjiekkaaaGreatDoor
open Go Go.Sh Go.WideShapes
def codeD (d:Dat) (r:Nat):Nat:=((bufD d.bufs 0).getD r 0).toNat
structure RowsOk (k ix:Int) (d:Dat):Prop where
  off:k=12∨k=13∨k=15→OffOk k d
  code:k=18→∀i:Nat,i < d.len.toNat→∃c,d.cs[codeD d (d.off.toNat+i)]? = some c∧0≤offN d i∧offN d i < c.len
  dict:k=19→∀i:Nat,i < d.len.toNat→nullB k d.bufs (d.off.toNat+i)=false→∃m,idxD ix d (d.off.toNat+i)=some m
section
variable {h0 h:Hp} {b2 b3 b4:Nat} {nm:ByteArray} {nul:Bool} {k w id ix:Int} {s:Sl} {cs:List Fld} {d:Dat} {p:Sl × Sl × Sl} {K:Int→Sl→Int→HP} {Kp:PK}
theorem getD_some {l:List UInt8} {r:Nat} (h:r < l.length):l[r]? = some (l.getD r 0):=by simp [h]
theorem choice_c (z:Sz h0 h b2 b3 b4 nm nul k w id ix s d p) (v:DvH h0 p d) (o:SizOk nul k w id ix cs d) (hk18:k=18) (hk:∀e t n h',Grw h0 h'→t=Sl.nil→(e=0↔RowsOk k ix d)→K e t n h') :
    L131_2 K Kp ⟨b3,0,none⟩ ⟨b4,0,none⟩ d.len 0 h:=by
  have rc:=o.row
  obtain ⟨l0,l1,o0,o1,hv,big⟩:=rc
  have hb:d.bufs.length=2:=by have:=o.nb;rw [hk18] at this;simp [bufK] at this;omega
  have n0:=o.need 0 (by omega)
  have n1:=o.need 1 (by omega)
  rw [needB,if_pos hk18] at n0 n1
  have big1:=big 1 (by omega)
  have vc:=v.c.n
  refine L131_2.rule (fun x h'=>∃i:Nat,x=i∧i≤d.len.toNat∧Grw h h'∧∀j:Nat,j < i→∃c,d.cs[codeD d (d.off.toNat+j)]? = some c∧0≤offN d j∧offN d j < c.len) (fun x _=>d.len.toNat - x.toNat)
    ⟨0,rfl,by omega,Grw.refl _,fun j hj=>by omega⟩ ?_
  rintro x h1 ⟨i,rfl,hi,g1,hall⟩ N1 hN
  have z:=z.grw g1
  simp only [add_blk]
  refine If_i (fun c => ?_) fun c => ?_
  · simp only [sm,reduceCtorEq] at c
    have bad:∀{h'} {e:Int},Grw h1 h'→e≠0→¬(∃c,d.cs[codeD d (d.off.toNat+i)]? = some c∧0≤offN d i∧offN d i < c.len)→Fn99 e (i:Int) h' (fun t0 t1 t2 h1=>SY37 h1 ⟨b4,0,none⟩ t0 t1 t2 fun h2=>LY37 h2 ⟨b4,0,none⟩ fun r0 r1 r2=>K r0 r1 r2 h2) Kp:=fun g he no =>
      (z.grw g).bad he (fun q=>no (q.code hk18 i (by omega))) hk
    refine Ld_blk z.k3 rfl (Wr_i64 (by omega) (by omega) (Ld_blk z.k3 rfl ((v.b.gr z.g).ix rfl (by omega:0 < d.bufs.length) fun a t ca vt=>⟨_,ca,?_⟩)))
    refine Sv_byte vt.1 (i:=d.off.toNat+i) (by omega) (getD_some (by omega)) ?_
    have hcd:((bufD d.bufs 0).getD (d.off.toNat+i) 0).toNat=codeD d (d.off.toNat+i):=rfl
    rw [hcd]
    have h256:codeD d (d.off.toNat+i) < 256:=UInt8.toNat_lt _
    have step:(∃c,d.cs[codeD d (d.off.toNat+i)]? = some c∧0≤offN d i∧offN d i < c.len)→Wr .i64 ((i:Int)+1) fun t67=>N1 (mk131_2 ⟨b3,0,none⟩ ⟨b4,0,none⟩ d.len t67) h1:=fun q =>
      Wr_i64 (by omega) (by omega) (hN _ _ ⟨i+1,by simp,by omega,g1,fun j hj=>by
        by_cases e:j=i
        · subst e;exact q
        · exact hall j (by omega)⟩ (by omega))
    generalize codeD d (d.off.toNat+i)=C at bad h256 step
    refine Wr_i64 (by omega) (by omega) (Ld_blk z.k3 rfl (If_i (fun c2 => ?_) fun c2=>Ld_blk z.k3 rfl ?_))
    · simp only [sm,reduceCtorEq] at c2
      refine bad (Grw.refl _) (by decide) ?_
      rintro ⟨c',hc,_⟩
      have:=(List.getElem?_eq_some_iff.1 hc).1;omega
    simp only [sm,reduceCtorEq] at c2
    have hC:d.cs[C]? = some d.cs[C]:=List.getElem?_eq_getElem (by omega)
    generalize d.cs[C]=ch at hC
    refine off_c v.b z.g big1 (by omega) (r:=d.off.toNat+i) (by omega) (by omega) ?_
    have e1:i32 (bufD d.bufs 1) (d.off.toNat+i)=offN d i:=rfl
    rw [e1]
    refine If_i (fun c3 => ?_) fun c3=>Ld_blk z.k3 rfl ((v.c.gr z.g).ix rfl hC fun a q cq _=>⟨_,add_0 a ▸ cq 0 _ rfl,If_i (fun c4 => ?_) fun c4 => ?_⟩)
    · simp only [sm,reduceCtorEq] at c3
      refine bad (Grw.refl _) (by decide) ?_
      rintro ⟨c',_,q,_⟩;omega
    · simp only [sm,reduceCtorEq] at c4
      refine bad (Grw.refl _) (by decide) ?_
      rintro ⟨c',hc,_,q⟩
      rw [hC] at hc;cases hc;omega
    · simp only [sm,reduceCtorEq] at c3 c4
      exact step ⟨ch,hC,by omega,by omega⟩
  · simp only [sm,reduceCtorEq] at c
    exact z.okay ⟨fun q=>by omega,fun _ i hi2=>hall i (by omega),fun q=>by omega⟩ hk
theorem dict_c (z:Sz h0 h b2 b3 b4 nm nul k w id ix s d p) (v:DvH h0 p d) (o:SizOk nul k w id ix cs d) (hk19:k=19) (h63:∀(j:Nat) (c:Dat),d.ds[j]? = some c→c.len < 2 ^ 63) (hk:∀e t n h',Grw h0 h'→t=Sl.nil→(e=0↔RowsOk k ix d)→K e t n h') :
    L131_3 K Kp ⟨b2,0,none⟩ ⟨b3,0,none⟩ ⟨b4,0,none⟩ d.len 0 h:=by
  obtain ⟨l0,l1,o0,o1,hv,big⟩:=o.row
  have hb:d.bufs.length=2:=by have:=o.nb;rw [hk19] at this;simp [bufK] at this;omega
  have n1:=o.need 1 (by omega)
  have hix:3≤ix∧ix≤10:=by have:=o.ty.kinds.1;unfold Shaped at this;omega
  have hwd:wdK k w ix=widK ix:=by rw [wdK,if_neg (by omega),if_pos hk19]
  rw [needB,if_neg (by omega),if_neg (by omega),if_neg (by omega),if_neg (by omega),hwd] at n1
  have big1:=big 1 (by omega)
  obtain ⟨ch,hd⟩:∃ch,d.ds[0]? = some ch:=⟨_,List.getElem?_eq_getElem (by have:=o.nd;rw [hk19] at this;simp [diK] at this;omega)⟩
  have hc:=h63 0 _ hd
  refine L131_3.rule (fun x h'=>∃i:Nat,x=i∧i≤d.len.toNat∧Grw h h'∧∀j:Nat,j < i→nullB k d.bufs (d.off.toNat+j)=false→∃m,idxD ix d (d.off.toNat+j)=some m) (fun x _=>d.len.toNat - x.toNat)
    ⟨0,rfl,by omega,Grw.refl _,fun j hj=>by omega⟩ ?_
  rintro x h1 ⟨i,rfl,hi,g1,hall⟩ N1 hN
  have z:=z.grw g1
  simp only [add_blk]
  refine If_i (fun c => ?_) fun c => ?_
  · simp only [sm,reduceCtorEq] at c
    have step:∀h',Grw h h'→(nullB k d.bufs (d.off.toNat+i)=false→∃m,idxD ix d (d.off.toNat+i)=some m)→Wr .i64 ((i:Int)+1) fun t93=>N1 (mk131_3 ⟨b2,0,none⟩ ⟨b3,0,none⟩ ⟨b4,0,none⟩ d.len t93) h':=fun h' g' q =>
      Wr_i64 (by omega) (by omega) (hN _ _ ⟨i+1,by simp,by omega,g',fun j hj=>by
        by_cases e:j=i
        · subst e;exact q
        · exact hall j (by omega)⟩ (by omega))
    refine Ld_blk z.k3 rfl (Wr_i64 (by omega) (by omega) (LY29.b z.k2 (LY33.b z.k3 ?_)))
    rw [show d.off+(i:Int)=((d.off.toNat+i:Nat):Int) by omega]
    refine null_c (v.b.gr z.g) hv (by omega) fun h2 g2=>If_i (fun c2 => ?_) fun c2=>step _ (Grw.trans g1 g2) fun q => ?_
    · simp only [sm,reduceCtorEq] at c2
      have z:=z.grw g2
      refine LY29.b z.k2 (LY33.b z.k3 (index_c (v.gr z.g) rfl hix (by omega) ?_ (by omega) hd hc fun y h3 g3 q1 q2 => ?_))
      · have:(d.off.toNat+i+1)*(widK ix).toNat≤(d.off+d.len).toNat*(widK ix).toNat:=Nat.mul_le_mul_right _ (by omega)
        omega
      · refine If_i (fun c3 => ?_) fun c3=>step _ (Grw.trans (Grw.trans g1 g2) g3) fun _ => ?_
        · simp only [sm,reduceCtorEq] at c3
          refine (z.grw g3).bad (by decide) (fun q => ?_) hk
          obtain ⟨m,hm⟩:=q.dict hk19 i (by omega) c2
          have:=q2 m hm;omega
        · simp only [sm,reduceCtorEq] at c3
          cases hi':idxD ix d (d.off.toNat+i) with
          | none=>have:=q1 hi';omega
          | some m=>exact ⟨m,rfl⟩
    · simp only [sm,reduceCtorEq] at c2;rw [c2] at q;cases q
  · simp only [sm,reduceCtorEq] at c
    exact z.okay ⟨fun q=>by omega,fun q=>by omega,fun _ i hi2=>hall i (by omega)⟩ hk
theorem rows_c (tb:UTab h) (v:DvH h p d) (o:SizOk nul k w id ix cs d) (h63:∀(j:Nat) (c:Dat),d.ds[j]? = some c→c.len < 2 ^ 63) (hk:∀e t n h',Grw h h'→t=Sl.nil→(e=0↔RowsOk k ix d)→K e t n h') :
    Fn131 nm nul k w id ix s d.len d.off d.nul p.1 p.2.1 p.2.2 h K Kp:=by
  refine Fn131.of (New_i fun b2 h1' e1 g1 k2 _=>New_i fun b3 h2 e2 g2 k3 _=>New_i fun b4 h3 e3 g3 k4 _ => ?_)
  have z:Sz h h3 b2 b3 b4 nm nul k w id ix s d p:=⟨Grw.trans g1 (Grw.trans g2 g3),(k2.grw g2).grw g3,k3.grw g3,k4,by have:=g1.1;have:=g2.1;omega⟩
  simp only [add_blk]
  have j1:∀b:Bool,(b=true↔(k=12∨k=13∨k=15))→J131_1 K Kp ⟨b2,0,none⟩ ⟨b3,0,none⟩ ⟨b4,0,none⟩ k b h3:=by
    intro b hb
    refine J131_1.of (If_i (fun c=>LY29.b z.k2 (LY33.b z.k3 ?_)) fun c=>If_i (fun c2=>Ld_blk z.k3 rfl ?_) fun c2=>If_i (fun c3=>Ld_blk z.k3 rfl ?_) fun c3=>z.okay ⟨fun q => ?_,fun q => ?_,fun q => ?_⟩ hk)
    · have hkk:=hb.1 c
      have nb:=o.nb
      have hb1:1 < d.bufs.length:=by unfold bufK at nb;(repeat' split at nb) <;> omega
      have n1:=o.need 1 hb1
      rw [needB,if_neg (by omega),if_neg (by omega),if_neg (by omega),if_pos hkk] at n1
      have e0:=o.o0
      have l0:=o.l0
      refine offs_c (tb.grw z.g) (v.gr z.g) o.row hkk (fun q => ?_) (fun q=>⟨?_,?_⟩) (by omega) fun e t n h4 g4 et he=>SY37.b (z.grw g4).k4 rfl fun h5 o5 k4=>LY37.b k4 (hk _ _ _ _ (Only.grw (z.grw g4).g o5 z.hb) et (he.trans ⟨fun q=>⟨fun _=>q,fun y=>by omega,fun y=>by omega⟩,fun q=>q.off hkk⟩))
      · unfold bufK at nb;(repeat' split at nb) <;> omega
      · unfold bufK at nb;(repeat' split at nb) <;> omega
      · have nc:=o.nc
        rw [chK,if_neg (by omega),if_neg (by omega)] at nc
        have:=o.ty.kinds.1
        unfold Shaped at this
        exact ⟨_,List.getElem?_eq_getElem (by omega:0 < d.cs.length)⟩
    · simp only [sm,reduceCtorEq] at c2;exact choice_c z v o c2 hk
    · simp only [sm,reduceCtorEq] at c3;exact dict_c z v o c3 h63 hk
    · rw [hb.2 q] at c;cases c
    · simp only [sm,reduceCtorEq] at c2;exact absurd q c2
    · simp only [sm,reduceCtorEq] at c3;exact absurd q c3
  refine Ld_blk z.k2 rfl (If_i (fun c=>j1 _ ?_) fun c=>If_i (fun c2=>j1 _ ?_) fun c2=>j1 _ ?_)
  all_goals simp only [sm,reduceCtorEq] at *
  all_goals omega
/-- the ends of runs -/
def endN (e:Dat) (i:Nat):Int:=i32 (bufD e.bufs 1) (e.off.toNat+i)
end
end Go.Proofs.YtlbbdbdjiekkaaaGreatDoor
set_option maxRecDepth 100000
set_option maxHeartbeats 1000000
/- Ends looked at; what rows weigh. -/
namespace Go.Proofs.YtlbbdbdjiekkaaaGreatDoor
open Go Go.Sh Go.WideShapes
def lastE (e:Dat):Nat→Int
  | 0=>0
  | i+1=>endN e i
/-- the ends of runs are right -/
def EndOk (d:Dat):Prop:=∃e v,d.cs[0]? = some e∧d.cs[1]? = some v∧e.len=v.len∧(∀i:Nat,i < e.len.toNat→lastE e i < endN e i)∧d.off+d.len≤lastE e e.len.toNat
theorem ends_c {d e v':Dat} {p:Sl × Sl × Sl} {h:Hp} {K:Int→Sl→Int→HP} {Kp:PK} (v:DvH h p d) (h0:d.cs[0]? = some e) (h1:d.cs[1]? = some v') (l:0≤d.len∧d.len≤4096) (o:0≤d.off∧d.off≤4096) (el:0≤e.len∧e.len≤4096) (eo:0≤e.off∧e.off≤4096)
    (eb:e.bufs.length=2) (e1:4*(e.off+e.len)≤(bufD e.bufs 1).length) (e2:(bufD e.bufs 1).length≤65536) (hk:∀e t n h',Grw h h'→t=Sl.nil→(e=0↔EndOk d)→K e t n h'):Fn132 d.len d.off d.nul p.1 p.2.1 p.2.2 h K Kp:=by
  refine Fn132.of (New_i fun b1 hx1 eq1 g1 k1 _=>New_i fun b2 hx2 eq2 g2 k2 _ => ?_)
  simp only [add_blk]
  have G:=Grw.trans g1 g2
  have k1:=k1.grw g2
  have i1 : b1 < b2 := by have:b1 < hx1.size:=by have:=g1.1;have:=(show b1=h.size from eq1);have:=‹hx1.size=h.size+1›;omega
                          omega
  have i2:=k2.lt
  have main:∀(h3:Hp) (b3 b4:Nat) (q qv:Sl × Sl × Sl),Grw hx2 h3→hx2.size≤b3→B33 h3 b3 e q→B33 h3 b4 v' qv→DvH hx2 q e→J132_1 K Kp ⟨b1,0,none⟩ ⟨b2,0,none⟩ ⟨b3,0,none⟩ ⟨b4,0,none⟩ h3:=by
    intro h3 b3 b4 q qv g3 i3 k3 k4 vq
    have k1:=k1.grw g3
    have k2:=k2.grw g3
    have G3:=Grw.trans G g3
    have hb2:h.size≤b2:=by have:=g1.1;omega
    have bad:∀{h':Hp} {er n:Int},Grw h3 h'→er≠0→¬EndOk d→Fn99 er n h' (fun t0 t1 t2 h1=>SY37 h1 ⟨b2,0,none⟩ t0 t1 t2 fun h2=>LY37 h2 ⟨b2,0,none⟩ fun r0 r1 r2=>K r0 r1 r2 h2) Kp:=fun g he no =>
      fault_to (Grw.trans G3 g) (k2.grw g) rfl hb2 fun h' g'=>hk _ _ _ h' g' rfl ⟨fun y=>absurd y he,fun y=>(no y).elim⟩
    have un:∀{P:Dat→Dat→Prop},(∃a b,d.cs[0]? = some a∧d.cs[1]? = some b∧P a b)→P e v':=by
      rintro P ⟨a,b,q1,q2,q⟩
      rw [h0] at q1;rw [h1] at q2;cases q1;cases q2;exact q
    refine J132_1.of (Ld_blk k3 rfl (Ld_blk k4 rfl (If_i (fun c => ?_) fun c=>Ld_blk k3 rfl ?_)))
    · simp only [sm,reduceCtorEq] at c
      exact bad (Grw.refl _) (by decide) fun q=>c (un q).1
    simp only [sm,reduceCtorEq] at c
    refine L132_3.rule (fun x5 x h'=>∃i:Nat,x=i∧i≤e.len.toNat∧Grw h3 h'∧x5=lastE e i∧∀j:Nat,j < i→lastE e j < endN e j) (fun _ x _=>e.len.toNat - x.toNat) ⟨0,rfl,by omega,Grw.refl _,rfl,fun j hj=>by omega⟩ ?_
    rintro x5 x h4 ⟨i,rfl,hi,g4,rfl,hall⟩ N1 hN
    simp only [add_blk]
    refine If_i (fun c2 => ?_) fun c2 => ?_
    · simp only [sm,reduceCtorEq] at c2
      refine Ld_blk (k3.grw g4) rfl ((vq.b.gr (Grw.trans g3 g4)).ix rfl (by omega:1 < e.bufs.length) fun a t ca vt=>⟨_,ca,Ld_blk (k3.grw g4) rfl (Wr_i64 (by omega) (by omega) (signed_c (i:=e.off.toNat+i) vt.1 (by omega) (by omega) (by omega) ?_))⟩)
      have ee:i32 (bufD e.bufs 1) (e.off.toNat+i)=endN e i:=rfl
      rw [ee]
      refine If_i (fun c3 => ?_) fun c3 => ?_
      · simp only [sm,reduceCtorEq] at c3
        exact bad g4 (by decide) fun q=>by have:=(un q).2.1 i (by omega);omega
      · simp only [sm,reduceCtorEq] at c3
        refine Wr_i64 (by omega) (by omega) (hN _ _ _ ⟨i+1,by simp,by omega,g4,rfl,fun j hj => ?_⟩ (by omega))
        by_cases q:j=i
        · subst q;omega
        · exact hall j (by omega)
    · simp only [sm,reduceCtorEq] at c2
      obtain rfl:i=e.len.toNat:=by omega
      refine J132_2.of ?_
      simp only [add_blk]
      refine Ld_blk (k1.grw g4) rfl (Ld_blk (k1.grw g4) rfl (Wr_i64 (by omega) (by omega) (If_i (fun c3=>Ld_blk (k3.grw g4) rfl ?_) fun c3 => ?_)))
      · simp only [sm,reduceCtorEq] at c3
        exact bad g4 (by decide) fun q=>by have:=(un q).2.2;omega
      · simp only [sm,reduceCtorEq] at c3
        exact okay_to (Grw.trans G3 g4) (k2.grw g4) rfl hb2 fun h' g'=>hk _ _ _ h' g' rfl ⟨fun _=>⟨e,v',h0,h1,c,hall,by omega⟩,fun _=>rfl⟩
  refine Ld_blk k1 rfl ((v.c.gr G).ix rfl h0 fun a q ca vq=>LY33.c ca (Ld_blk k1 rfl ((v.c.gr G).ix rfl h1 fun a' q' ca' vq'=>LY33.c ca' ?_)))
  have kp:∀{x y:Hp} {X:Prop},Grw hx2 x→Grw x y→X→Keep x y a' 6 (Keep x y ⟨b1,0+4,none⟩ 1 (Keep x y a 6 (Keep x y ⟨b1,0+4,none⟩ 1 X))):=by
    intro x y X gx gy hX
    have kc:∀{a:Addr} {vs:List Value} {X:Prop},Cs hx2 a vs→vs.length=6→X→Keep x y a 6 X:=fun {a vs X} c hl hX=>⟨fun i hi=>by
      obtain ⟨w,hw⟩:∃w,vs[i]? = some w:=⟨_,List.getElem?_eq_getElem (by omega)⟩
      rw [gx.cell (c i w hw),gy.cell (gx.cell (c i w hw))],hX⟩
    exact kc ca' rfl (Keep_blk (k1.grw gx) gy (kc ca rfl (Keep_blk (k1.grw gx) gy hX)))
  have kp2:∀{x y:Hp} {X:Prop},Grw hx2 x→Grw hx2 y→X→Keep x y a' 6 (Keep x y ⟨b1,0+4,none⟩ 1 X):=by
    intro x y X gx gy hX
    refine ⟨fun i hi => ?_,fun i hi => ?_,hX⟩
    · obtain ⟨w,hw⟩:∃w,(v'.row q')[i]? = some w:=⟨_,List.getElem?_eq_getElem (by rw [drow_len];omega)⟩
      rw [gx.cell (ca' i w hw),gy.cell (ca' i w hw)]
    · rw [add_blk,cell_blk (k1.grw gx),cell_blk (k1.grw gy)]
  constructor
  · refine New_i fun b3 h3 e3 g3 k3 s3=>kp (Grw.refl _) g3 (New_i fun b4 h4 e4 g4 k4 s4=>kp g3 g4 (SY33.b (k3.grw g4) rfl fun h5 o5 k3 => ?_))
    have G5:Grw hx2 h5:=Only.grw (Grw.trans g3 g4) o5 (by omega)
    exact kp2 (Grw.trans g3 g4) G5 (SY33.b (o5.blk k4 (by omega)) rfl fun h6 o6 k4=>main h6 b3 b4 q q' (Only.grw G5 o6 (by have:=g3.1;omega)) (by omega) (o6.blk k3 (by omega)) k4 vq)
  · refine New_i fun b4 h3 e3 g3 k4 s3=>kp (Grw.refl _) g3 (New_i fun b3 h4 e4 g4 k3 s4=>kp g3 g4 (SY33.b k3 rfl fun h5 o5 k3 => ?_))
    have G5:Grw hx2 h5:=Only.grw (Grw.trans g3 g4) o5 (by have:=g3.1;omega)
    exact kp2 (Grw.trans g3 g4) G5 (SY33.b (o5.blk (k4.grw g4) (by omega)) rfl fun h6 o6 k4=>main h6 b3 b4 q q' (Only.grw G5 o6 (by omega)) (by have:=g3.1;omega) (o6.blk k3 (by omega)) k4 vq)
end Go.Proofs.YtlbbdbdjiekkaaaGreatDoor
set_option maxRecDepth 100000
set_option maxHeartbeats 200000
/- Values of arrays, and what they weigh: plain. -/
namespace Go.Proofs.YtlbbdbdjiekkaaaGreatDoor
open Go Go.Sh Go.WideShapes
inductive Val
  | mk (nul:Bool) (num:Int) (text:List UInt8) (items:List Val)
mutual
def Val.wgt:Val→Nat
  | .mk _ _ t vs=>16+t.length+wsum vs
def wsum:List Val→Nat
  | []=>0
  | v::vs=>v.wgt+wsum vs
end
theorem wsum_eq:∀vs:List Val,wsum vs=(vs.map Val.wgt).sum
  | []=>rfl
  | v::vs=>by unfold wsum;rw [wsum_eq vs];simp
abbrev VF:=Dat→Nat→Val
def v0:Val:=.mk true 0 [] []
def vz:VF:=fun _ _=>v0
def dat0:Dat:=.mk 0 0 0 [] [] []
def part (d:Dat) (j:Nat):Dat:=(partsD d).getD j dat0
def at0 (V:VF) (c:Dat) (i:Nat):Val:=V c (c.off.toNat+i)
/-- the run a row stands in -/
def runN (e:Dat) (r:Nat):Nat:=((List.range e.len.toNat).find? fun j=>decide ((r:Int) < endN e j)).getD 0
def numN (k:Int) (l:List UInt8) (r:Nat):Int :=
  if 3≤k∧k≤6 then sg (widK k).toNat (nAt l (r*(widK k).toNat) (widK k).toNat) else sg 8 (nAt l (r*(widK k).toNat) (widK k).toNat)
def offR (d:Dat) (r:Nat):Nat:=(i32 (bufD d.bufs 1) r).toNat
def valK (k w ix:Int) (V:List VF) (d:Dat) (r:Nat):Val :=
  if nullB k d.bufs r=true then v0
  else if k=12∨k=13 then .mk false 0 (((bufD d.bufs 2).drop (offR d r)).take (offR d (r+1) - offR d r)) []
  else if k=15 then .mk false 0 [] ((List.range (offR d (r+1) - offR d r)).map fun i=>at0 (V.getD 0 vz) (part d 0) (offR d r+i))
  else if k=16 then .mk false 0 [] ((List.range w.toNat).map fun i=>at0 (V.getD 0 vz) (part d 0) (r*w.toNat+i))
  else if k=17 then .mk false 0 [] ((List.range V.length).map fun j=>at0 (V.getD j vz) (part d j) r)
  else if k=18 then .mk false (codeD d r) [] [at0 (V.getD (codeD d r) vz) (part d (codeD d r)) (offR d r)]
  else if k=19 then at0 (V.getD 0 vz) (part d 0) (nAt (bufD d.bufs 1) (r*(widK ix).toNat) (widK ix).toNat)
  else if k=20 then at0 (V.getD 1 vz) (part d 1) (runN (part d 0) r)
  else if k=2 then .mk false (if bitL (bufD d.bufs 1) r then 1 else 0) [] []
  else if k=14 then .mk false 0 (((bufD d.bufs 1).drop (r*w.toNat)).take w.toNat) []
  else .mk false (numN k (bufD d.bufs 1) r) [] []
/-- what the parts' rows are -/
def pvs (k:Int) (V:List VF):List VF:=if k=20 then valK 5 0 0 []::V else V
mutual
def Fld.val:Fld→VF
  | .mk _ _ k w _ ix cs=>valK k w ix (pvs k (vfs cs))
def vfs:List Fld→List VF
  | []=>[]
  | f::fs=>f.val::vfs fs
end
theorem vfs_eq:∀fs:List Fld,vfs fs=fs.map Fld.val
  | []=>rfl
  | f::fs=>by unfold vfs;rw [vfs_eq fs];rfl
theorem pvs_eq (k:Int) (cs:List Fld):pvs k (vfs cs)=(pfs k cs).map Fld.val:=by
  unfold pvs pfs;rw [vfs_eq];split
  · simp [endsF,Fld.val,vfs,pvs]
  · rfl
/-- what rows weigh -/
def wts (V:VF) (d:Dat):List Nat:=(List.range d.len.toNat).map fun i=>(at0 V d i).wgt
theorem wts_len (V:VF) (d:Dat):(wts V d).length=d.len.toNat:=by simp [wts]
theorem wts_get {V:VF} {d:Dat} {i:Nat} (h:i < d.len.toNat):(wts V d)[i]? = some (at0 V d i).wgt:=by simp [wts,h]
theorem le_sum {l:List Nat} {i x:Nat} (h:l[i]? = some x):x≤l.sum:=by
  induction l generalizing i with
  | nil=>simp at h
  | cons y ys ih=>cases i with
    | zero=>simp at h;subst h;simp
    | succ i=>have:=ih (i:=i) (by simpa using h);simp;omega
theorem sum_cut {l:List Nat} (a m:Nat):((l.drop a).take m).sum≤l.sum:=by
  have h1:∀(l:List Nat) m,(l.take m).sum≤l.sum:=by
    intro l;induction l with
    | nil=>intro m;simp
    | cons y ys ih=>intro m;cases m with
      | zero=>simp
      | succ m=>have:=ih m;simp;omega
  have h2:∀(l:List Nat) a,(l.drop a).sum≤l.sum:=by
    intro l;induction l with
    | nil=>intro m;simp
    | cons y ys ih=>intro m;cases m with
      | zero=>simp
      | succ m=>have:=ih m;simp;omega
  exact Nat.le_trans (h1 _ m) (h2 l a)
theorem wts_cut {V:VF} {d:Dat} {a m:Nat} (h:a+m≤d.len.toNat):((wts V d).drop a).take m=(List.range m).map fun i=>(at0 V d (a+i)).wgt:=by
  apply List.ext_getElem?
  intro i
  rw [List.getElem?_take,List.getElem?_map]
  split
  · rename_i hi
    rw [List.getElem?_drop,wts_get (by omega),List.getElem?_range hi];rfl
  · rename_i hi
    rw [List.getElem?_eq_none (by simp;omega)];rfl
theorem sum_take_succ {l:List Nat} {j x:Nat} (h:l[j]? = some x):(l.take (j+1)).sum=(l.take j).sum+x:=by
  rw [List.take_add_one,h];simp
theorem runN_of {e:Dat} {r j:Nat} (hj:j < e.len.toNat) (h1:(r:Int) < endN e j) (h2:∀i,i < j→endN e i≤r):runN e r=j:=by
  unfold runN
  have:(List.range e.len.toNat).find? (fun j=>decide ((r:Int) < endN e j))=some j:=by
    rw [List.find?_range_eq_some]
    refine ⟨by simpa using h1,by simpa using hj,fun i hi => ?_⟩
    have:=h2 i hi
    simp;omega
  rw [this];rfl
end Go.Proofs.YtlbbdbdjiekkaaaGreatDoor
set_option maxRecDepth 100000
set_option maxHeartbeats 1000000
/- What rows weigh, computed. -/
namespace Go.Proofs.YtlbbdbdjiekkaaaGreatDoor
open Go Go.Sh Go.WideShapes
def iv (l:List Nat):List Value:=l.map fun x:Nat=>.int .i64 (x:Int)
theorem iv_get {l:List Nat} {i x:Nat} (h:l[i]? = some x):(iv l)[i]? = some (.int .i64 (x:Int)):=by simp [iv,h]
theorem iv_len (l:List Nat):(iv l).length=l.length:=by simp [iv]
/-- numbers in a slice -/
def Nv (h:Hp) (s:Sl) (l:List Nat):Prop:=Sv h s (iv l)
theorem Nv.ld {h:Hp} {s:Sl} {l:List Nat} (v:Nv h s l) {x:Int} {i y:Nat} (hx:x=i) (hy:l[i]? = some y) {K:Int→Prop} (hk:K y):Ix s.a s.n 1 x fun a=>Ld h a mI K:=by
  have hn:=v.1
  have hi:=(List.getElem?_eq_some_iff.1 hy).1
  rw [iv_len] at hn
  exact v.ix (by omega) (by omega) (v:=.int .i64 (y:Int)) (by rw [hx,Int.toNat_natCast];exact iv_get hy) fun a ca=>⟨_,ca,hk⟩
/-- the numbers of the parts -/
structure Win (h:Hp) (s:Sl) (us:List Sl) (ls:List (List Nat)):Prop where
  s:Sv h s (us.map Sl.v)
  n:us.length=ls.length
  u:∀(j:Nat) (u:Sl) (l:List Nat),us[j]? = some u→ls[j]? = some l→Nv h u l
theorem Win.grw {h h':Hp} {s:Sl} {us:List Sl} {ls:List (List Nat)} (w:Win h s us ls) (g:Grw h h'):Win h' s us ls:=⟨w.s.grw g,w.n,fun j u l h1 h2=>Sv.grw (w.u j u l h1 h2) g⟩
theorem Win.ix {h:Hp} {s:Sl} {us:List Sl} {ls:List (List Nat)} (w:Win h s us ls) {x:Int} {j:Nat} (hx:x=j) {l:List Nat} (hl:ls[j]? = some l) {K:Addr→Prop} (hk:∀a u,cell h a=some (Sl.v u)→Nv h u l→K a):Ix s.a s.n 1 x K:=by
  have hj:=(List.getElem?_eq_some_iff.1 hl).1
  obtain ⟨v,hu⟩:∃v,us[j]? = some v:=by have:=w.n;exact ⟨_,List.getElem?_eq_getElem (by omega)⟩
  have hn:=w.s.1
  rw [List.length_map,w.n] at hn
  exact w.s.ix (by omega) (by omega) (v:=Sl.v v) (by rw [hx,Int.toNat_natCast,List.getElem?_map,hu];rfl) fun a ca=>hk a _ ca (w.u j _ l hu hl)
/-- the list that is written -/
structure Ws (h0 h:Hp) (b:Nat) (t:Sl) (n:Nat) (outs:List Value):Prop where
  g:Grw h0 h
  o:Own h t b outs Y6
  l:outs.length=n
  hb:h0.size≤b
section
variable {h0 h:Hp} {b n:Nat} {t:Sl} {outs:List Value}
theorem Ws.tn (w:Ws h0 h b t n outs):t.n=n:=by rw [w.o.2.1,w.l]
theorem Ws.grw {h':Hp} (w:Ws h0 h b t n outs) (g:Grw h h'):Ws h0 h' b t n outs:=⟨Grw.trans w.g g,w.o.grw g,w.l,w.hb⟩
theorem Ws.st (w:Ws h0 h b t n outs) {x:Int} {i:Nat} (hx:x=i) (hi:i < n) {y:Int} {K:Hp→Prop} (hk:∀h',Ws h0 h' b t n (outs.set i (.int .i64 y))→K h'):Ix t.a t.n 1 x fun a=>St h a (.int .i64 y) K:=by
  have tn:=w.tn
  refine w.o.ixSt (by omega) (by omega) ?_
  rw [hx,Int.toNat_natCast]
  exact w.o.st (by omega) rfl fun h' ho o=>hk h' ⟨Only.grw w.g ho w.hb,o,by simp [w.l],w.hb⟩
theorem Ws.ld (w:Ws h0 h b t n outs) {x:Int} {i:Nat} (hx:x=i) {y:Int} (hy:outs[i]? = some (.int .i64 y)) {K:Int→Prop} (hk:K y):Ix t.a t.n 1 x fun a=>Ld h a mI K:=by
  have tn:=w.tn
  have hi:=(List.getElem?_eq_some_iff.1 hy).1
  have:=w.l
  refine w.o.ixSt (by omega) (by omega) ?_
  rw [hx,Int.toNat_natCast]
  exact w.o.ld (by omega) hy hk
/-- the same, with the place kept -/
theorem Ws.ix (w:Ws h0 h b t n outs) {x:Int} {i:Nat} (hx:x=i) {y:Int} (hy:outs[i]? = some (.int .i64 y)) {K:Addr→Prop} (hk:∀a,cell h a=some (.int .i64 y)→K a):Ix t.a t.n 1 x K:=by
  have hi:=(List.getElem?_eq_some_iff.1 hy).1
  have tn:=w.tn
  have:=w.l
  exact w.o.sv.ix (by omega) (by omega) (by rw [hx,Int.toNat_natCast];exact hy) hk
end
theorem set_get {l:List Value} {i:Nat} {v:Value} (h:i < l.length):(l.set i v)[i]? = some v:=by simp [h]
theorem set_ne {l:List Value} {i j:Nat} {v:Value} (h:j≠i):(l.set i v)[j]? = l[j]? := by
  rw [List.getElem?_set,if_neg (fun e=>h e.symm)]
section
variable {h0 h:Hp} {b n i:Nat} {t wi:Sl} {us:List Sl} {ls:List (List Nat)} {outs:List Value} {a3 a4 a7:Addr} {K:Sl→HP} {Kp:PK} {N1:Fr→HP}
theorem slice_c {l:List Nat} {a m:Nat} (wn:Win h0 wi us ls) (g:Grw h0 h) (hl:m≠0→ls[0]? = some l∧a+m≤l.length) {x y:Int} (hx:x=a) (hy:y=((a+m:Nat):Int)) (hk:∀u,Nv h0 u ((l.drop a).take m)→K u h):Fn160 wi x y h K Kp:=by
  refine Fn160.of (If_i (fun c => ?_) fun c => ?_)
  · simp only [sm,reduceCtorEq] at c
    obtain rfl:m=0:=by omega
    exact hk _ ⟨rfl,Nat.le_refl _,fun x hx=>by simp at hx⟩
  · simp only [sm,reduceCtorEq] at c
    obtain ⟨h1,h2⟩:=hl (by omega)
    refine wn.ix rfl h1 fun a' u ca nu=>⟨_,g.cell ca,?_⟩
    have hn:=nu.1
    have hil:=iv_len l
    rw [iv_len] at hn
    refine Sv_slc nu (a:=a) (b:=a+m) (m:=u.c) (by simpa using hx) (by simpa using hy) (by simp) (by omega) (by omega) (by have:=nu.2.1;omega) (Nat.le_refl _) fun s _ _ _ sv=>hk s ?_
    have e:a+m - a=m:=by omega
    rw [e] at sv
    have e2:((iv l).drop a).take m=iv ((l.drop a).take m):=by simp [iv]
    rw [e2] at sv
    exact sv
theorem jw2 (w:Ws h0 h b t n outs) (wn:Win h0 wi us ls) (hi:i < n) {x9:Int} {A a m:Nat} {l:List Nat} (hA:outs[i]? = some (.int .i64 (A:Int))) (hl:m≠0→ls[0]? = some l∧a+m≤l.length) {x y:Int} (hx:x=a) (hy:y=((a+m:Nat):Int))
    (hb:A+((l.drop a).take m).sum≤2 ^ 60) (hn:n≤2 ^ 40) (hll:l.length≤2 ^ 40) (hk:∀h',Ws h0 h' b t n (outs.set i (.int .i64 ((A+((l.drop a).take m).sum:Nat):Int)))→N1 (mk133_1 wi a3 a4 a7 t n x9 ((i+1:Nat):Int)) h') :
    J133_2 K Kp N1 wi a3 a4 a7 t x9 (i:Int) x y (n:Int) (i:Int) h:=by
  have hio:i < outs.length:=by rw [w.l];exact hi
  refine J133_2.of (slice_c wn w.g hl hx hy fun u nu => ?_)
  have hLl:((l.drop a).take m).length≤l.length:=by simp;omega
  generalize hL:(l.drop a).take m=L at hb hk nu hLl
  have un:=nu.1
  rw [iv_len] at un
  refine L133_3.rule (fun x h'=>∃j:Nat,x=j∧j≤L.length∧Ws h0 h' b t n (outs.set i (.int .i64 ((A+(L.take j).sum:Nat):Int)))) (fun x _=>L.length - x.toNat)
    ⟨0, rfl, by omega, by have:outs.set i (.int .i64 ((A+(L.take 0).sum:Nat):Int))=outs:=by
                            apply List.ext_getElem?;intro k
                            by_cases e:k=i
                            · subst e;rw [set_get hio,hA];simp
                            · rw [set_ne e]
                          rw [this];exact w⟩ ?_
  rintro x193 h1 ⟨j,rfl,hj,w1⟩ N2 hN
  refine If_i (fun c => ?_) fun c => ?_
  · simp only [sm,reduceCtorEq] at c
    have hj:L[j]? = some L[j]:=List.getElem?_eq_getElem (by omega)
    have hs:=sum_take_succ hj
    have hle:(L.take (j+1)).sum≤L.sum:=by simpa using sum_cut (l:=L) 0 (j+1)
    refine Nv.ld (Sv.grw nu w1.g) rfl hj (w1.ld rfl (set_get hio) (Wr_i64 (by omega) (by omega) (w1.st rfl hi fun h2 w2=>Wr_i64 (by omega) (by omega) (hN _ _ ⟨j+1,by simp,by omega,?_⟩ (by omega)))))
    have e:(((A+(L.take j).sum:Nat):Int)+((L[j]:Nat):Int))=((A+(L.take (j+1)).sum:Nat):Int):=by omega
    rw [List.set_set,e] at w2;exact w2
  · simp only [sm,reduceCtorEq] at c
    obtain rfl:j=L.length:=by omega
    rw [List.take_length] at w1
    exact Wr_i64 (by omega) (by omega) (by have:=hk _ w1;simpa using this)
end
end Go.Proofs.YtlbbdbdjiekkaaaGreatDoor
set_option maxRecDepth 100000
set_option maxHeartbeats 1000000
/- What one row weighs, computed. -/
namespace Go.Proofs.YtlbbdbdjiekkaaaGreatDoor
open Go Go.Sh Go.WideShapes
theorem set_self {l:List Value} {i:Nat} {v:Value} (h:l[i]? = some v):l.set i v=l:=by
  have hi:=(List.getElem?_eq_some_iff.1 h).1
  apply List.ext_getElem?;intro k
  by_cases e:k=i
  · subst e;rw [set_get hi,h]
  · rw [set_ne e]
theorem Keep_rfl {h:Hp} {a:Addr} {n:Nat} {X:Prop} (x:X):Keep h h a n X:=⟨fun _ _=>rfl,x⟩
structure PartC (c:Dat):Prop where
  l:0≤c.len∧c.len≤4096
  o:0≤c.off∧c.off≤4096
structure EndC (e:Dat):Prop where
  b:e.bufs.length=2
  e1:4*(e.off+e.len)≤(bufD e.bufs 1).length
  e2:(bufD e.bufs 1).length≤65536
def lsD (V:List VF) (d:Dat):List (List Nat):=(List.range (partsD d).length).map fun j=>wts (V.getD j vz) (part d j)
theorem lsD_get {V:List VF} {d:Dat} {j:Nat} (h:j < (partsD d).length):(lsD V d)[j]? = some (wts (V.getD j vz) (part d j)):=by simp [lsD,h]
theorem part_get {d:Dat} {j:Nat} (h:j < (partsD d).length):(partsD d)[j]? = some (part d j):=by simp [part,h]
/-- the run of a row -/
theorem run_lt {d e v:Dat} {r:Nat} (h0:d.cs[0]? = some e) (h1:d.cs[1]? = some v) (h:EndOk d) (hr:(r:Int) < d.off+d.len):∃j,j < e.len.toNat∧(r:Int) < endN e j∧(∀i,i < j→endN e i≤r)∧runN e r=j∧j < v.len.toNat:=by
  obtain ⟨e',v',q0,q1,q2,q3,q4⟩:=h
  rw [h0] at q0;rw [h1] at q1;cases q0;cases q1
  have key:∀n,n≤e.len.toNat→(r:Int) < lastE e n→∃j,j < n∧(r:Int) < endN e j∧∀i,i < j→endN e i≤r:=by
    intro n
    induction n with
    | zero=>intro _ h;simp [lastE] at h;omega
    | succ n ih =>
      intro hn h
      by_cases c:(r:Int) < lastE e n
      · obtain ⟨j,hj,x⟩:=ih (by omega) c
        exact ⟨j,by omega,x⟩
      · refine ⟨n,by omega,h,fun i hi => ?_⟩
        have mono:∀m,m≤n→i < m→endN e i≤lastE e m:=by
          intro m
          induction m with
          | zero=>intro _ h;omega
          | succ m ihm =>
            intro hm him
            by_cases hq:i=m
            · subst hq;exact Int.le_refl _
            · have:=ihm (by omega) (by omega)
              have:=q3 m (by omega)
              show endN e i≤endN e m
              omega
        have:=mono n (Nat.le_refl _) hi
        omega
  obtain ⟨j,hj,hr1,hr2⟩:=key _ (Nat.le_refl _) (by omega)
  exact ⟨j,hj,hr1,hr2,runN_of hj hr1 hr2,by omega⟩
theorem part_of {d:Dat} {j:Nat} {c:Dat} (h:(partsD d)[j]? = some c):part d j=c:=by simp [part,h]
/-- what is known where weights are computed -/
structure Wc (h0:Hp) (b3 b4 b7:Nat) (nm:ByteArray) (nul:Bool) (k w id ix:Int) (s:Sl) (cs:List Fld) (d:Dat) (p:Sl × Sl × Sl) (V:List VF) (wi:Sl) (us:List Sl):Prop where
  k3:Blk h0 b3 #[.string nm, .bool nul, .int .i64 k, .int .i64 w, .int .i64 id, .int .i64 ix,Sl.v s] Y29
  k4:B33 h0 b4 d p
  k7:Blk h0 b7 #[.int .i64 k, .int .i64 w, .int .i64 id, .int .i64 ix,Sl.v s] Y27
  v:DvH h0 p d
  o:SizOk nul k w id ix cs d
  ro:RowsOk k ix d
  wn:Win h0 wi us (lsD V d)
  vl:V.length=(partsD d).length
  pc:∀(j:Nat) (c:Dat),(partsD d)[j]? = some c→PartC c
  tot:∀j,j < (partsD d).length→(wts (V.getD j vz) (part d j)).sum≤4194304
  eo:k=20→EndOk d∧EndC (part d 0)
section
variable {h0 h:Hp} {b b3 b4 b7 n i:Nat} {nm:ByteArray} {nul:Bool} {k w id ix:Int} {s:Sl} {cs:List Fld} {d:Dat} {p:Sl × Sl × Sl} {V:List VF} {wi t:Sl} {us:List Sl} {outs:List Value} {K:Sl→HP} {Kp:PK} {N1:Fr→HP}
theorem jw0 {ls:List (List Nat)} (w:Ws h0 h b t n outs) (wn:Win h0 wi us ls) (hi:i < n) {x9:Int} {a3 a4 a7:Addr} {A:Nat} (hA:outs[i]? = some (.int .i64 (A:Int))) (hb:A≤2 ^ 60) (hn:n≤2 ^ 40) (hk:∀h',Ws h0 h' b t n outs→N1 (mk133_1 wi a3 a4 a7 t n x9 ((i+1:Nat):Int)) h') :
    J133_2 K Kp N1 wi a3 a4 a7 t x9 (i:Int) 0 0 (n:Int) (i:Int) h:=by
  refine jw2 w wn hi (a:=0) (m:=0) (l:=[]) hA (fun q=>absurd rfl q) rfl rfl (by simpa using hb) hn (by simp) fun h' w'=>hk h' ?_
  simp only [List.drop_nil,List.take_nil,List.sum_nil,Nat.add_zero] at w'
  rwa [set_self hA] at w'
theorem row4 (c:Wc h0 b3 b4 b7 nm nul k w id ix s cs d p V wi us) (w1:Ws h0 h b t n outs) (hA:outs[i]? = some (.int .i64 16)) (hn:n=d.len.toNat) (hi:i < n) {r:Nat} (hr:r=d.off.toNat+i) (hnb:nullB k d.bufs r=false) {R:Nat} (hR:k=20→∀j,j < R→endN (part d 0) j≤r)
    (n14:k≠14) {bb:Bool} (hbb:bb=true↔(k=12∨k=13)) (fin:∀(R':Nat) h',(k=20→∀j,j < R'→endN (part d 0) j≤r)→(valK k w ix V d r).wgt≤2 ^ 40→Ws h0 h' b t n (outs.set i (.int .i64 ((valK k w ix V d r).wgt:Nat)))→N1 (mk133_1 wi ⟨b3,0,none⟩ ⟨b4,0,none⟩ ⟨b7,0,none⟩ t n (R':Int) ((i+1:Nat):Int)) h') :
    J133_4 K Kp N1 wi ⟨b3,0,none⟩ ⟨b4,0,none⟩ ⟨b7,0,none⟩ t (R:Int) (i:Int) (r:Int) 0 0 (n:Int) (i:Int) k bb h:=by
  obtain ⟨k3,k4,k7,v,o,ro,wn,vl,pc,tot,eo⟩:=c
  have k3:=k3.grw w1.g
  have k4:=k4.grw w1.g
  have k7:=k7.grw w1.g
  have hio:i < outs.length:=by rw [w1.l];exact hi
  obtain ⟨l0,l1,o0,o1,hv,big⟩:=o.row
  have sh:=o.ty.kinds.1
  unfold Shaped at sh
  have nb:=o.nb
  have dj:∀j,j < (partsD d).length→(lsD V d)[j]? = some (wts (V.getD j vz) (part d j)):=fun j h=>lsD_get h
  have pl:(k≠19→partsD d=d.cs)∧(k=19→partsD d=d.ds):=by
    have nd:=o.nd
    unfold diK at nd
    unfold partsD
    constructor
    · intro q;rw [if_neg q] at nd;rw [if_neg (by omega)]
    · intro q;rw [if_pos q] at nd;rw [if_pos (by omega)]
  have fin2:∀(R':Nat) {x y:Int} {A a m:Nat} {l:List Nat} {outs':List Value} {h2:Hp},(k=20→∀j,j < R'→endN (part d 0) j≤r)→Ws h0 h2 b t n outs'→outs'[i]? = some (.int .i64 (A:Int))→outs'.length=outs.length→(∀j,j≠i→outs'[j]? = outs[j]?)→(m≠0→(lsD V d)[0]? = some l∧a+m≤l.length)→x=a→y=((a+m:Nat):Int) →
      A+((l.drop a).take m).sum=(valK k w ix V d r).wgt→A+((l.drop a).take m).sum≤2 ^ 40→l.length≤4096→J133_2 K Kp N1 wi ⟨b3,0,none⟩ ⟨b4,0,none⟩ ⟨b7,0,none⟩ t (R':Int) (i:Int) x y (n:Int) (i:Int) h2:=by
    intro R' x y A a m l outs' h2 q1 q2 q3 q4 q5 q6 q7 q8 q9 q10 q11
    refine jw2 q2 wn hi q3 q6 q7 q8 (by omega) (by omega) (by omega) fun h' w'=>fin R' h' q1 (by rw [←q9];exact q10) ?_
    rw [q9] at w'
    have:outs'.set i (.int .i64 ((valK k w ix V d r).wgt:Int))=outs.set i (.int .i64 ((valK k w ix V d r).wgt:Int)):=by
      apply List.ext_getElem?;intro j
      by_cases e:j=i
      · subst e;rw [set_get hio,set_get (by omega)]
      · rw [set_ne e,set_ne e,q5 j e]
    rwa [this] at w'
  have same:∀{y:Int},(outs.set i (.int .i64 y))[i]? = some (.int .i64 y)∧(outs.set i (.int .i64 y)).length=outs.length∧∀j,j≠i→(outs.set i (.int .i64 y))[j]? = outs[j]? := fun {y}=>⟨set_get hio,by simp,fun j e=>set_ne e⟩
  have offs:k=12∨k=13∨k=15→1 < d.bufs.length∧4*r+8≤(bufD d.bufs 1).length∧(bufD d.bufs 1).length≤65536∧0≤i32 (bufD d.bufs 1) r∧i32 (bufD d.bufs 1) r≤i32 (bufD d.bufs 1) (r+1)∧i32 (bufD d.bufs 1) (r+1)≤mostD k d:=by
    intro hk
    have hb1:1 < d.bufs.length:=by unfold bufK at nb;(repeat' split at nb) <;> omega
    have n1:=o.need 1 hb1
    rw [needB,if_neg (by omega),if_neg (by omega),if_neg (by omega),if_pos hk] at n1
    have h1:=(ro.off hk).1 (i+1) (by omega)
    have h2:=(ro.off hk).1 i (by omega)
    have e1:offN d (i+1)=i32 (bufD d.bufs 1) (r+1):=by rw [hr];rfl
    have e2:offN d i=i32 (bufD d.bufs 1) r:=by rw [hr];rfl
    have q3:=h1.2.2 i rfl
    rw [e1,e2] at q3
    rw [e1] at h1
    rw [e2] at h2
    exact ⟨hb1,by omega,big 1 hb1,h2.1,q3,h1.2.1⟩
  refine J133_4.of (If_i (fun c => ?_) fun c => ?_)
  · have hk:=hbb.1 c
    obtain ⟨hb1,g1,g2,g3,g4,g5⟩:=offs (by omega)
    simp only [add_blk]
    refine w1.ix rfl hA fun a57 ca57=>⟨_,ca57,Ld_blk k4 rfl ((v.b.gr w1.g).ix rfl hb1 fun a61 t62 ca61 vt=>⟨_,ca61,Wr_i64 (by omega) (by omega) (Ld_blk k4 rfl ((v.b.gr w1.g).ix rfl hb1 fun a68 t69 ca68 vt2=>⟨_,ca68,?_⟩))⟩)⟩
    refine signed_c (i:=r+1) vt.1 (by omega) (by omega) (by omega) (Keep_rfl (Keep_rfl (Keep_rfl (signed_c (i:=r) vt2.1 rfl (by omega) (by omega) (Keep_rfl ?_)))))
    have hm:mostD k d=((bufD d.bufs 2).length:Int):=by rw [mostD,if_neg (by omega)]
    rw [hm] at g5
    have z1:=i32_lt (bufD d.bufs 1) r
    have z2:=i32_lt (bufD d.bufs 1) (r+1)
    refine Wr_i64 (by omega) (by omega) (Wr_i64 (by omega) (by omega) (w1.st rfl hi fun h2 w2 => ?_))
    have e:(16:Int)+(i32 (bufD d.bufs 1) (r+1) - i32 (bufD d.bufs 1) r)=((16+(offR d (r+1) - offR d r):Nat):Int):=by unfold offR;omega
    rw [e] at w2
    refine fin2 R (a:=0) (m:=0) (l:=[]) hR w2 same.1 same.2.1 same.2.2 (fun q=>absurd rfl q) rfl rfl ?_ ?_ (by simp)
    · simp only [valK,hnb,Bool.false_eq_true,if_false,if_pos hk,Val.wgt,wsum,List.length_take,List.length_drop,List.drop_nil,List.take_nil,List.sum_nil]
      unfold offR;omega
    · simp only [List.drop_nil,List.take_nil,List.sum_nil];unfold offR;omega
  have n123:¬(k=12∨k=13):=fun q=>by rw [hbb.2 q] at c;cases c
  refine If_i (fun c => ?_) fun c15=>If_i (fun c => ?_) fun c16=>If_i (fun c => ?_) fun c17=>If_i (fun c => ?_) fun c18=>If_i (fun c => ?_) fun c19=>If_i (fun c => ?_) fun c20 => ?_
  all_goals simp only [sm,reduceCtorEq] at *
  · -- List
    obtain ⟨hb1,g1,g2,g3,g4,g5⟩:=offs (by omega)
    simp only [add_blk]
    refine Ld_blk k4 rfl ((v.b.gr w1.g).ix rfl hb1 fun a61 t62 ca61 vt=>⟨_,ca61,Ld_blk k4 rfl ((v.b.gr w1.g).ix rfl hb1 fun a68 t69 ca68 vt2=>⟨_,ca68,Wr_i64 (by omega) (by omega) ?_⟩)⟩)
    refine signed_c (i:=r) vt.1 rfl (by omega) (by omega) (Keep_rfl (Keep_rfl (signed_c (i:=r+1) vt2.1 (by omega) (by omega) (by omega) ?_)))
    have nc:=o.nc
    rw [chK,if_neg (by omega),if_neg (by omega)] at nc
    have p0:0 < (partsD d).length:=by rw [pl.1 (by omega)];omega
    have hp:=part_get p0
    have hm:mostD k d=(part d 0).len:=by
      rw [mostD,if_pos c]
      rw [pl.1 (by omega)] at hp
      cases hcs:d.cs with
      | nil=>rw [hcs] at hp;simp at hp
      | cons x xs=>rw [hcs] at hp;simp at hp;simp [hp]
    rw [hm] at g5
    have pcl:=(pc 0 _ hp).l
    have ln:(wts (V.getD 0 vz) (part d 0)).length=(part d 0).len.toNat:=wts_len _ _
    have hle:=sum_cut (l:=wts (V.getD 0 vz) (part d 0)) (offR d r) (offR d (r+1) - offR d r)
    have ht:=tot 0 p0
    refine fin2 R (A:=16) (a:=offR d r) (m:=offR d (r+1) - offR d r) hR w1 hA rfl (fun _ _=>rfl) (fun _=>⟨dj 0 p0,?_⟩) ?_ ?_ ?_ ?_ ?_
    · rw [ln];unfold offR;omega
    · unfold offR;omega
    · unfold offR;omega
    · rw [wts_cut (by unfold offR;omega)]
      simp only [valK,hnb,Bool.false_eq_true,if_false,if_neg n123,if_pos c,Val.wgt,wsum_eq,List.length_nil,List.map_map]
      rfl
    · omega
    · omega
  · -- FixedList
    have nc:=o.nc
    rw [chK,if_neg (by omega),if_neg (by omega)] at nc
    have p0:0 < (partsD d).length:=by rw [pl.1 (by omega)];omega
    have hp:=part_get p0
    have hch:=(o.ch 0 (part d 0) (by rw [pl.1 (by omega)] at hp;exact hp)).1 c
    have pcl:=(pc 0 _ hp).l
    have hw:(w.toNat:Int)=w∧w≤64:=by omega
    have ln:(wts (V.getD 0 vz) (part d 0)).length=(part d 0).len.toNat:=wts_len _ _
    have ht:=tot 0 p0
    have hle:=sum_cut (l:=wts (V.getD 0 vz) (part d 0)) (r*w.toNat) w.toNat
    have hrw:r*w.toNat+w.toNat≤(part d 0).len.toNat:=by
      have h1:(r+1)*w.toNat≤(d.off+d.len).toNat*w.toNat:=Nat.mul_le_mul_right _ (by omega)
      have h2:(((d.off+d.len).toNat*w.toNat:Nat):Int)=(d.off+d.len)*w:=by rw [Int.natCast_mul,hw.1,Int.toNat_of_nonneg (by omega)]
      have h3:(r+1)*w.toNat=r*w.toNat+w.toNat:=by rw [Nat.add_mul,Nat.one_mul]
      omega
    have e1:(r:Int)*w=((r*w.toNat:Nat):Int):=by rw [Int.natCast_mul,hw.1]
    have e2:((r:Int)+1)*w=((r*w.toNat+w.toNat:Nat):Int):=by rw [Int.add_mul,e1];omega
    simp only [add_blk]
    refine Ld_blk k7 rfl (Wr_i64 (by omega) (by omega) (Wr_i64 (by omega) (by omega) (Ld_blk k7 rfl (Wr_i64 (by omega) (by omega) ?_))))
    refine fin2 R (A:=16) (a:=r*w.toNat) (m:=w.toNat) hR w1 hA rfl (fun _ _=>rfl) (fun _=>⟨dj 0 p0,by omega⟩) e1 e2 ?_ (by omega) (by omega)
    rw [wts_cut hrw]
    simp only [valK,hnb,Bool.false_eq_true,if_false,if_neg n123,if_neg c15,if_pos c,Val.wgt,wsum_eq,List.length_nil,List.map_map]
    rfl
  · -- Struct
    have nc:=o.nc
    rw [chK,if_neg (by omega),if_neg (by omega)] at nc
    have hwl:=wn.s.1
    rw [List.length_map,wn.n,lsD,List.length_map,List.length_range] at hwl
    have pcs:=pl.1 (by omega)
    have at_r:∀j,j < (partsD d).length→r < (part d j).len.toNat:=by
      intro j hj
      have hp:=part_get hj
      have:=(o.ch j _ (by rw [pcs] at hp;exact hp)).2 c
      omega
    let L:List Nat:=(List.range V.length).map fun j=>(at0 (V.getD j vz) (part d j) r).wgt
    have hVl : V.length ≤ 32 := by have:=o.ty.kinds.2.1;have:(partsD d).length=d.cs.length:=by rw [pcs]
                                   omega
    have hLl:L.length=V.length:=by simp [L]
    have hLj:∀j,j < (partsD d).length→L[j]? = some (at0 (V.getD j vz) (part d j) r).wgt:=by intro j hj;simp [L,vl,hj]
    have hLs:∀m,m≤(partsD d).length→(L.take m).sum≤m*4194304:=by
      intro m;induction m with
      | zero=>simp
      | succ m ih =>
        intro hm
        rw [sum_take_succ (hLj m (by omega))]
        have h1:=ih (by omega)
        have h2:=le_sum (wts_get (V:=V.getD m vz) (at_r m (by omega)))
        have h3:=tot m (by omega)
        omega
    have hW:(valK k w ix V d r).wgt=16+L.sum:=by
      simp only [valK,hnb,Bool.false_eq_true,if_false,if_neg n123,if_neg c15,if_neg c16,if_pos c,Val.wgt,wsum_eq,List.length_nil,List.map_map]
      rfl
    refine L133_5.rule (fun x h'=>∃j:Nat,x=j∧j≤L.length∧Ws h0 h' b t n (outs.set i (.int .i64 ((16+(L.take j).sum:Nat):Int)))) (fun x _=>L.length - x.toNat)
      ⟨0,rfl,by omega,by rw [set_self (by simpa using hA)];exact w1⟩ ?_
    rintro x105 h1 ⟨j,rfl,hj,w2⟩ N2 hN
    refine If_i (fun c2 => ?_) fun c2 => ?_
    · simp only [sm,reduceCtorEq] at c2
      have hjp:j < (partsD d).length:=by omega
      have hs:=sum_take_succ (hLj j hjp)
      have h1:=hLs j (by omega)
      have h2:=le_sum (wts_get (V:=V.getD j vz) (at_r j hjp))
      have h3:=tot j hjp
      refine (wn.grw w2.g).ix rfl (dj j hjp) fun a u ca nu=>⟨_,ca,w2.ld rfl same.1 (nu.ld rfl (wts_get (at_r j hjp)) (Wr_i64 (by omega) (by omega) (w2.st rfl hi fun h2 w3=>Wr_i64 (by omega) (by omega) (hN _ _ ⟨j+1,by simp,by omega,?_⟩ (by omega)))))⟩
      rw [List.set_set] at w3
      rw [hs]
      have e:((16+(L.take j).sum:Nat):Int)+((at0 (V.getD j vz) (part d j) r).wgt:Int)=((16+((L.take j).sum+(at0 (V.getD j vz) (part d j) r).wgt):Nat):Int):=by omega
      rwa [e] at w3
    · simp only [sm,reduceCtorEq] at c2
      obtain rfl:j=L.length:=by omega
      rw [List.take_length] at w2
      have:=hLs L.length (by omega)
      rw [List.take_length] at this
      refine fin2 R (a:=0) (m:=0) (l:=[]) hR w2 same.1 same.2.1 same.2.2 (fun q=>absurd rfl q) rfl rfl (by simp [hW]) ?_ (by simp)
      simp only [List.drop_nil,List.take_nil,List.sum_nil];omega
  · -- Choice
    have hb:d.bufs.length=2:=by have:=nb;rw [c] at this;simp [bufK] at this;omega
    have n0:=o.need 0 (by omega)
    have n1:=o.need 1 (by omega)
    rw [needB,if_pos c] at n0 n1
    have big1:=big 1 (by omega)
    obtain ⟨ch,hc,q1,q2⟩:=ro.code c i (by omega)
    rw [←hr] at hc
    have eoN:offN d i=i32 (bufD d.bufs 1) r:=by rw [hr];rfl
    rw [eoN] at q1 q2
    have pcs:=pl.1 (by omega)
    have hC:codeD d r < (partsD d).length:=by rw [pcs];exact (List.getElem?_eq_some_iff.1 hc).1
    have hp:part d (codeD d r)=ch:=part_of (by rw [pcs];exact hc)
    simp only [add_blk]
    refine w1.ix rfl hA fun a124 ca124=>⟨_,ca124,Ld_blk k4 rfl ((v.b.gr w1.g).ix rfl (by omega:0 < d.bufs.length) fun a129 t130 ca129 vt0=>⟨_,ca129,?_⟩)⟩
    have vt0:=vt0.1
    have hbn:=vt0.1
    rw [bv_len] at hbn
    have hcd:((bufD d.bufs 0).getD r 0).toNat=codeD d r:=rfl
    refine vt0.ix (by omega) (by omega) (v:=.int .u8 ((bufD d.bufs 0).getD r 0).toNat) (by rw [Int.toNat_natCast,bv_get,getD_some (by omega)];rfl) fun a132 ca132=>⟨_,ca132,?_⟩
    rw [hcd]
    refine (wn.grw w1.g).ix rfl (dj _ hC) fun a134 u ca134 nu=>⟨_,ca134,Ld_blk k4 rfl ((v.b.gr w1.g).ix rfl (by omega:1 < d.bufs.length) fun a138 t139 ca138 vt=>⟨_,ca138,?_⟩)⟩
    refine signed_c (i:=r) vt.1 rfl (by omega) (by omega) (Keep_rfl (Keep_rfl (Keep_rfl (Keep_rfl (Keep_rfl ?_)))))
    have hwt:=wts_get (V:=V.getD (codeD d r) vz) (d:=part d (codeD d r)) (i:=offR d r) (by unfold offR;rw [hp];omega)
    have hle:=le_sum hwt
    have ht:=tot _ hC
    refine nu.ld (i:=offR d r) (by unfold offR;omega) hwt (Wr_i64 (by omega) (by omega) (w1.st rfl hi fun h2 w2 => ?_))
    have e:(16:Int)+((at0 (V.getD (codeD d r) vz) (part d (codeD d r)) (offR d r)).wgt:Int)=((16+(at0 (V.getD (codeD d r) vz) (part d (codeD d r)) (offR d r)).wgt:Nat):Int):=by omega
    rw [e] at w2
    refine fin2 R (a:=0) (m:=0) (l:=[]) hR w2 same.1 same.2.1 same.2.2 (fun q=>absurd rfl q) rfl rfl ?_ ?_ (by simp)
    · simp only [valK,hnb,Bool.false_eq_true,if_false,if_neg n123,if_neg c15,if_neg c16,if_neg c17,if_pos c,Val.wgt,wsum,List.length_nil,List.drop_nil,List.take_nil,List.sum_nil]
      omega
    · simp only [List.drop_nil,List.take_nil,List.sum_nil];omega
  · -- Dict
    have hb:d.bufs.length=2:=by have:=nb;rw [c] at this;simp [bufK] at this;omega
    have n1:=o.need 1 (by omega)
    have hix:3≤ix∧ix≤10:=by omega
    have hwd:wdK k w ix=widK ix:=by rw [wdK,if_neg (by omega),if_pos c]
    rw [needB,if_neg (by omega),if_neg (by omega),if_neg (by omega),if_neg (by omega),hwd] at n1
    have big1:=big 1 (by omega)
    obtain ⟨ch,hd⟩:∃ch,d.ds[0]? = some ch:=⟨_,List.getElem?_eq_getElem (by have:=o.nd;rw [c] at this;simp [diK] at this;omega)⟩
    obtain ⟨m,hm⟩:=ro.dict c i (by omega) (by rw [←hr];exact hnb)
    rw [←hr] at hm
    have pds:=pl.2 c
    have p0:0 < (partsD d).length:=by rw [pds];exact (List.getElem?_eq_some_iff.1 hd).1
    have hp:part d 0=ch:=part_of (by rw [pds];exact hd)
    have pcl:=(pc 0 ch (by rw [pds];exact hd)).l
    have hmm:m=nAt (bufD d.bufs 1) (r*(widK ix).toNat) (widK ix).toNat∧m < ch.len.toNat:=by
      have hm2:=hm
      unfold idxD at hm2
      split at hm2
      · cases hm2
      · rename_i hno
        have:=Option.some.inj hm2
        refine ⟨this.symm,?_⟩
        rcases Nat.lt_or_ge m ch.len.toNat with q | q
        · exact q
        · exact absurd (.inr fun c' hc'=>by rw [hd] at hc';cases hc';rw [this];omega) hno
    have hrw:(r+1)*(widK ix).toNat≤(d.off+d.len).toNat*(widK ix).toNat:=Nat.mul_le_mul_right _ (by omega)
    have hwt:=wts_get (V:=V.getD 0 vz) (d:=part d 0) (i:=m) (by rw [hp];exact hmm.2)
    have hle:=le_sum hwt
    have ht:=tot 0 p0
    refine (wn.grw w1.g).ix rfl (dj 0 p0) fun a151 u ca151 nu=>⟨_,ca151,LY29.b k3 (LY33.b k4 (index_c (v.gr w1.g) rfl hix (by omega) (by omega) (by omega) hd (by omega) fun y h3 g3 _ q2=>Keep_cell ca151 g3 ?_))⟩
    refine Nv.ld (Sv.grw nu g3) (q2 m hm) hwt ((w1.grw g3).st rfl hi fun h2 w2 => ?_)
    refine fin2 R (a:=0) (m:=0) (l:=[]) hR w2 same.1 same.2.1 same.2.2 (fun q=>absurd rfl q) rfl rfl ?_ ?_ (by simp)
    · simp only [valK,hnb,Bool.false_eq_true,if_false,if_neg n123,if_neg c15,if_neg c16,if_neg c17,if_neg c18,if_pos c,List.drop_nil,List.take_nil,List.sum_nil,←hmm.1]
      omega
    · simp only [List.drop_nil,List.take_nil,List.sum_nil];omega
  · -- Runs
    obtain ⟨hEnd,ec⟩:=eo c
    have hEnd':=hEnd
    obtain ⟨e,v',q0,q1,q2,q3,q4⟩:=hEnd'
    have pcs:=pl.1 (by omega)
    have hp0:part d 0=e:=part_of (by rw [pcs];exact q0)
    have hp1:part d 1=v':=part_of (by rw [pcs];exact q1)
    have p1:1 < (partsD d).length:=by rw [pcs];exact (List.getElem?_eq_some_iff.1 q1).1
    have pce:=pc 0 e (by rw [pcs];exact q0)
    obtain ⟨j,hj,hj1,hj2,hj3,hj4⟩:=run_lt q0 q1 hEnd (r:=r) (by omega)
    rw [hp0] at ec hR
    have eb:=ec.b
    have ee1:=ec.e1
    have ee2:=ec.e2
    have el:=pce.l
    have eoo:=pce.o
    have hRj:R≤j:=by
      rcases Nat.lt_or_ge j R with q | q
      · have:=hR c j q;omega
      · exact q
    have hwt:=wts_get (V:=V.getD 1 vz) (d:=part d 1) (i:=j) (by rw [hp1];exact hj4)
    have hle:=le_sum hwt
    have ht:=tot 1 p1
    simp only [add_blk]
    refine Ld_blk k4 rfl ((v.c.gr w1.g).ix rfl q0 fun a164 pe ce ve=>LY33.c ce (New_i fun b16 h1 e1 g1 k16 _=>SY33.b k16 rfl fun h2 o2 k16 => ?_))
    have G2:Grw h h2:=Only.grw g1 o2 (by omega)
    refine L133_6.rule (fun x h'=>∃R':Nat,x=R'∧R'≤j∧h'=h2) (fun x _=>j - x.toNat) ⟨R,rfl,hRj,rfl⟩ ?_
    rintro x9 h3 ⟨R',rfl,hR',rfl⟩ N2 hN
    simp only [add_blk]
    refine Ld_blk k16 rfl ((ve.b.gr G2).ix rfl (by omega:1 < e.bufs.length) fun a t ca vt=>⟨_,ca,Ld_blk k16 rfl (Wr_i64 (by omega) (by omega) (signed_c (i:=e.off.toNat+R') vt.1 (by omega) (by omega) (by omega) ?_))⟩)
    have een:i32 (bufD e.bufs 1) (e.off.toNat+R')=endN e R':=rfl
    rw [een]
    refine If_i (fun c3 => ?_) fun c3 => ?_
    · simp only [sm,reduceCtorEq] at c3
      have:R'≠j:=by rintro rfl;omega
      exact Wr_i64 (by omega) (by omega) (hN _ _ ⟨R'+1,by simp,by omega,rfl⟩ (by omega))
    · simp only [sm,reduceCtorEq] at c3
      obtain rfl:R'=j:=by
        rcases Nat.lt_or_ge R' j with q | q
        · have:=hj2 R' q;omega
        · omega
      refine ((wn.grw w1.g).grw G2).ix rfl (dj 1 p1) fun a182 u ca182 nu=>⟨_,ca182,nu.ld rfl hwt ((w1.grw G2).st rfl hi fun h4 w4 => ?_)⟩
      refine fin2 R' (a:=0) (m:=0) (l:=[]) (fun _=>by rw [hp0];exact hj2) w4 same.1 same.2.1 same.2.2 (fun q=>absurd rfl q) rfl rfl ?_ ?_ (by simp)
      · simp only [valK,hnb,Bool.false_eq_true,if_false,if_neg n123,if_neg c15,if_neg c16,if_neg c17,if_neg c18,if_neg c19,if_pos c,List.drop_nil,List.take_nil,List.sum_nil,hp0,hj3]
        omega
      · simp only [List.drop_nil,List.take_nil,List.sum_nil];omega
  · -- numbers
    refine fin2 R (A:=16) (a:=0) (m:=0) (l:=[]) hR w1 hA rfl (fun _ _=>rfl) (fun q=>absurd rfl q) rfl rfl ?_ (by simp) (by simp)
    simp only [valK,hnb,Bool.false_eq_true,if_false,if_neg n123,if_neg c15,if_neg c16,if_neg c17,if_neg c18,if_neg c19,if_neg c20,if_neg n14]
    split <;> simp [Val.wgt,wsum]
end
end Go.Proofs.YtlbbdbdjiekkaaaGreatDoor
set_option maxRecDepth 100000
set_option maxHeartbeats 1000000
/- What rows weigh, computed. -/
namespace Go.Proofs.YtlbbdbdjiekkaaaGreatDoor
open Go Go.Sh Go.WideShapes
section
variable {h:Hp} {nm:ByteArray} {nul:Bool} {k w id ix:Int} {s:Sl} {cs:List Fld} {d:Dat} {p:Sl × Sl × Sl} {V:List VF} {wi:Sl} {us:List Sl} {K:Sl→HP} {Kp:PK}
theorem nul_wgt {k w ix:Int} {V:List VF} {d:Dat} {r:Nat} (h:nullB k d.bufs r=true):(valK k w ix V d r).wgt=16:=by
  simp [valK,h,v0,Val.wgt,wsum]
theorem weights_c (v:DvH h p d) (o:SizOk nul k w id ix cs d) (ro:RowsOk k ix d) (wn:Win h wi us (lsD V d)) (vl:V.length=(partsD d).length) (pc:∀(j:Nat) (c:Dat),(partsD d)[j]? = some c→PartC c)
    (tot:∀j,j < (partsD d).length→(wts (V.getD j vz) (part d j)).sum≤4194304) (eo:k=20→EndOk d∧EndC (part d 0)) (hk:∀t h',Grw h h'→Nv h' t (wts (valK k w ix V) d)→(∀a,t.a=some a→h.size≤a.block∧a.block < h'.size)→(∀j,j < d.len.toNat→(at0 (valK k w ix V) d j).wgt≤2 ^ 40)→K t h') :
    Fn133 nm nul k w id ix s d.len d.off d.nul p.1 p.2.1 p.2.2 wi h K Kp:=by
  obtain ⟨l0,l1,o0,o1,hv,big⟩:=o.row
  have sh:=o.ty.kinds.1
  unfold Shaped at sh
  have nb:=o.nb
  refine Fn133.of (New_i fun b3 h1 e1 g1 k3 _=>New_i fun b4 h2 e2 g2 k4 _ => ?_)
  simp only [add_blk]
  refine LY27.c (ty_cells (k3.grw g2)) (New_i fun b7 h3 e3 g3 k7 _=>SY27.b k7 rfl fun h4 o4 k7 => ?_)
  have g4:Grw h2 h4:=Only.grw g3 o4 (by omega)
  have k3:=(k3.grw g2).grw g4
  have k4:=k4.grw g4
  have G4:=Grw.trans (Grw.trans g1 g2) g4
  refine Ld_blk k4 rfl (MkS_i (by omega) (by omega) (by omega) fun t h5 g5 ot s5 => ?_)
  have G4s:=G4.1
  have c:Wc h4 b3 b4 b7 nm nul k w id ix s cs d p V wi us:=⟨k3,k4,k7,v.gr G4,o,ro,wn.grw G4,vl,pc,tot,eo⟩
  have tn:=ot.2.1
  rw [List.length_replicate] at tn
  obtain ⟨n,hn⟩:∃n,n=d.len.toNat:=⟨_,rfl⟩
  rw [←hn] at ot tn
  rw [tn]
  have lst:∀(i:Nat) (outs:List Value),(∀j,j < i→outs[j]? = some (.int .i64 ((at0 (valK k w ix V) d j).wgt:Nat)))→outs.length=n→i=n→outs=iv (wts (valK k w ix V) d):=by
    intro i outs h1 h2 h3
    subst h3
    apply List.ext_getElem?;intro j
    rcases Nat.lt_or_ge j i with q | q
    · rw [h1 j q,iv_get (wts_get (by omega))]
    · rw [List.getElem?_eq_none (by omega),List.getElem?_eq_none (by rw [iv_len,wts_len];omega)]
  refine L133_1.rule (fun x9 x26 h'=>∃(R i:Nat) (outs:List Value),x9=R∧x26=i∧i≤n∧(k=20→∀j,j < R→endN (part d 0) j≤((d.off.toNat+i:Nat):Int))∧Ws h4 h' h4.size t n outs∧(∀j,j < i→outs[j]? = some (.int .i64 ((at0 (valK k w ix V) d j).wgt:Nat)))∧∀j,j < i→(at0 (valK k w ix V) d j).wgt≤2 ^ 40)
    (fun _ x26 _=>n - x26.toNat) ⟨0,0,List.replicate n (.int .i64 0),rfl,rfl,by omega,fun _ j hj=>by omega,⟨g5,ot,by simp,Nat.le_refl _⟩,fun j hj=>by omega,fun j hj=>by omega⟩ ?_
  rintro x9 x26 h6 ⟨R,i,outs,rfl,rfl,hi,hR,ws,hd,hd2⟩ N1 hN
  refine If_i (fun c1 => ?_) fun c1 => ?_
  · simp only [sm,reduceCtorEq] at c1
    have hin:i < n:=by omega
    have hio:i < outs.length:=by rw [ws.l];exact hin
    have done:∀(R':Nat) (h':Hp) (y:Nat),(k=20→∀j,j < R'→endN (part d 0) j≤((d.off.toNat+i:Nat):Int))→y=(at0 (valK k w ix V) d i).wgt→y≤2 ^ 40→Ws h4 h' h4.size t n (outs.set i (.int .i64 (y:Int))) →
        N1 (mk133_1 wi ⟨b3,0,none⟩ ⟨b4,0,none⟩ ⟨b7,0,none⟩ t n (R':Int) ((i+1:Nat):Int)) h':=by
      rintro R' h' y q1 rfl q4 q3
      refine hN _ _ _ ⟨R',i+1,_,rfl,rfl,by omega,fun e j hj=>by have:=q1 e j hj;omega,q3,fun j hj => ?_,fun j hj=>by
        by_cases e:j=i
        · subst e;exact q4
        · exact hd2 j (by omega)⟩ (by omega)
      by_cases e:j=i
      · subst e;exact set_get hio
      · rw [set_ne e];exact hd j (by omega)
    refine Ld_blk (c.k4.grw ws.g) rfl (Wr_i64 (by omega) (by omega) (ws.st rfl hin fun h7 w7=>LY29.b (c.k3.grw w7.g) (LY33.b (c.k4.grw w7.g) ?_)))
    rw [show d.off+(i:Int)=((d.off.toNat+i:Nat):Int) by omega]
    refine null_c (c.v.b.gr w7.g) hv (by omega) fun h8 g8 => ?_
    have w8:=w7.grw g8
    have hA:(outs.set i (.int .i64 16))[i]? = some (.int .i64 ((16:Nat):Int)):=set_get hio
    refine If_i (fun c2 => ?_) fun c2 => ?_
    · have:=done R h8 16 hR (by rw [at0,nul_wgt c2]) (by omega) w8
      exact Wr_i64 (by omega) (by omega) (by simpa using this)
    · have c4:∀b:Bool,(b=true↔(k=12∨k=13))→k≠14→J133_4 K Kp N1 wi ⟨b3,0,none⟩ ⟨b4,0,none⟩ ⟨b7,0,none⟩ t (R:Int) (i:Int) ((d.off.toNat+i:Nat):Int) 0 0 (n:Int) (i:Int) k b h8:=by
        intro b hb n14
        refine row4 c w8 hA hn hin rfl c2 hR n14 hb fun R' h' q1 q4 q2 => ?_
        rw [List.set_set] at q2
        exact done R' h' _ q1 rfl q4 q2
      refine Ld_blk (c.k7.grw w8.g) rfl (If_i (fun c3 => ?_) fun c3=>If_i (fun c5=>c4 _ ?_ ?_) fun c5=>c4 _ ?_ ?_)
      · simp only [sm,reduceCtorEq] at c3
        have hw:1≤w∧w≤16:=by omega
        refine w8.ld rfl hA (Ld_blk (c.k7.grw w8.g) rfl (Wr_i64 (by omega) (by omega) (w8.st rfl hin fun h9 w9 => ?_)))
        rw [List.set_set,show ((16:Nat):Int)+w=((16+w.toNat:Nat):Int) by omega] at w9
        refine jw0 w9 c.wn hin (set_get hio) (by omega) (by omega) fun h' w'=>done R h' _ hR ?_ (by omega) w'
        have hb1:1 < d.bufs.length:=by rw [c3] at nb;simp [bufK] at nb;omega
        have n1:=o.need 1 hb1
        have hwd:wdK k w ix=w:=by rw [wdK,if_pos c3]
        rw [needB,if_neg (by omega),if_neg (by omega),if_neg (by omega),if_neg (by omega),hwd] at n1
        have hrw:(d.off.toNat+i+1)*w.toNat≤(d.off+d.len).toNat*w.toNat:=Nat.mul_le_mul_right _ (by omega)
        rw [Nat.add_mul,Nat.one_mul] at hrw
        rw [at0,valK,if_neg (by rw [c2];simp),if_neg (by omega),if_neg (by omega),if_neg (by omega),if_neg (by omega),if_neg (by omega),if_neg (by omega),if_neg (by omega),if_neg (by omega),if_pos c3]
        simp only [Val.wgt,wsum,List.length_take,List.length_drop]
        omega
      all_goals simp only [sm,reduceCtorEq] at *
      all_goals omega
  · simp only [sm,reduceCtorEq] at c1
    obtain rfl:i=n:=by omega
    refine hk _ _ (Grw.trans G4 ws.g) ?_ (fun a ha=>by rw [ws.o.1] at ha;cases ha;exact ⟨G4s,ws.o.lt⟩) fun j hj=>hd2 j (by omega)
    have e:=lst i outs hd ws.l rfl
    show Sv h6 t (iv (wts (valK k w ix V) d))
    rw [←e]
    exact ws.o.sv
end
end Go.Proofs.YtlbbdbdjiekkaaaGreatDoor
set_option maxRecDepth 100000
set_option maxHeartbeats 200000
/- Arrays that are right: plain. -/
namespace Go.Proofs.YtlbbdbdjiekkaaaGreatDoor
open Go Go.Sh Go.WideShapes
abbrev PF:=Dat→Prop
structure ArrK (nul:Bool) (k w id ix:Int) (cs:List Fld) (V:List VF) (P:List PF) (d:Dat):Prop where
  o:SizOk nul k w id ix cs d
  ro:RowsOk k ix d
  pt:∀(j:Nat) (c:Dat),(partsD d)[j]? = some c→∃p,P[j]? = some p∧p c
  eo:k=20→EndOk d
  wt:(wts (valK k w ix V) d).sum≤4194304
def pps (k:Int) (P:List PF):List PF:=if k=20 then ArrK false 5 0 0 0 [] [] []::P else P
mutual
/-- data that is right for a field, through and through -/
def Fld.arr:Fld→PF
  | .mk _ nul k w id ix cs=>ArrK nul k w id ix cs (pvs k (vfs cs)) (pps k (afs cs))
def afs:List Fld→List PF
  | []=>[]
  | f::fs=>f.arr::afs fs
end
theorem afs_eq:∀fs:List Fld,afs fs=fs.map Fld.arr
  | []=>rfl
  | f::fs=>by unfold afs;rw [afs_eq fs];rfl
theorem endsF_arr:endsF.arr=ArrK false 5 0 0 0 [] [] []:=by
  unfold endsF Fld.arr afs vfs pvs pps
  simp
theorem pps_eq (k:Int) (cs:List Fld):pps k (afs cs)=(pfs k cs).map Fld.arr:=by
  unfold pps pfs;rw [afs_eq];split
  · rw [List.map_cons,endsF_arr]
  · rfl
theorem Fld.arr_eq {f:Fld} {d:Dat}:f.arr d↔ArrK f.nul f.k f.w f.id f.ix f.cs ((pfs f.k f.cs).map Fld.val) ((pfs f.k f.cs).map Fld.arr) d:=by
  obtain ⟨n,nul,k,w,id,ix,cs⟩:=f
  unfold Fld.arr
  rw [pps_eq,pvs_eq];exact Iff.rfl
theorem Fld.val_eq (f:Fld):f.val=valK f.k f.w f.ix ((pfs f.k f.cs).map Fld.val):=by
  obtain ⟨n,nul,k,w,id,ix,cs⟩:=f
  unfold Fld.val
  rw [pvs_eq];rfl
/-- there is a part for each field -/
theorem SizOk.parts {nul:Bool} {k w id ix:Int} {cs:List Fld} {d:Dat} (o:SizOk nul k w id ix cs d):(partsD d).length=(pfs k cs).length:=by
  have nc:=o.nc
  have nd:=o.nd
  have sh:=o.ty.kinds.1
  unfold Shaped at sh
  unfold partsD pfs
  by_cases h19:k=19
  · rw [diK,if_pos h19] at nd
    rw [if_pos (by omega),if_neg (by omega)];omega
  · rw [diK,if_neg h19] at nd
    rw [chK,if_neg h19] at nc
    rw [if_neg (by omega)]
    by_cases h20:k=20
    · rw [if_pos h20] at nc ⊢;simp only [List.length_cons];omega
    · rw [if_neg h20] at nc ⊢;omega
mutual
/-- all lengths are machine numbers -/
def Dat.mac:Dat→Prop
  | .mk n _ _ _ cs ds=>n < 2 ^ 63∧dmac cs∧dmac ds
def dmac:List Dat→Prop
  | []=>True
  | d::ds=>d.mac∧dmac ds
end
theorem dmac.get:∀{ds:List Dat},dmac ds→∀(j:Nat) d,ds[j]? = some d→d.mac
  | [],_,_,_,h=>by simp at h
  | g::gs,hh,0,d,h=>by unfold dmac at hh;simp at h;subst h;exact hh.1
  | g::gs,hh,j+1,d,h=>by unfold dmac at hh;exact dmac.get hh.2 j d (by simpa using h)
theorem Dat.mac.un {d:Dat} (h:d.mac):d.len < 2 ^ 63∧dmac d.cs∧dmac d.ds:=by cases d;unfold Dat.mac at h;exact h
theorem Dat.mac.part {d:Dat} (h:d.mac) {j:Nat} {c:Dat} (hc:(partsD d)[j]? = some c):c.mac:=by
  unfold partsD at hc;split at hc
  · exact h.un.2.2.get j c hc
  · exact h.un.2.1.get j c hc
end Go.Proofs.YtlbbdbdjiekkaaaGreatDoor
set_option maxRecDepth 100000
set_option maxHeartbeats 200000
/- Values as they stand in a heap. -/
namespace Go.Proofs.YtlbbdbdjiekkaaaGreatDoor
open Go Go.Sh Go.WideShapes
def Val.nul:Val→Bool | .mk n _ _ _=>n
def Val.num:Val→Int | .mk _ x _ _=>x
def Val.text:Val→List UInt8 | .mk _ _ t _=>t
def Val.items:Val→List Val | .mk _ _ _ l=>l
def vals4 (n:Bool) (x:Int) (t:List UInt8) (s:Sl):List Value:=[.bool n, .int .i64 x, .string (bs t),Sl.v s]
def Val.row (v:Val) (s:Sl):List Value:=vals4 v.nul v.num v.text s
theorem vrow_one (v:Val) (s:Sl):∀x∈v.row s,one x=true:=by intro x hx;simp [Val.row,vals4] at hx;rcases hx with rfl | rfl | rfl | rfl <;> rfl
mutual
/-- a slice of values, its lists in blocks of D -/
def VsA (D:Nat→Prop) (h:Hp) (s:Sl):List Val→Prop
  | []=>s.n=0∧s.n≤s.c
  | v::vs=>s.n=vs.length+1∧s.n≤s.c∧∃a,s.a=some a∧D a.block∧VA D h a v∧VrA D h a 1 vs
def VrA (D:Nat→Prop) (h:Hp) (a:Addr) (i:Nat):List Val→Prop
  | []=>True
  | v::vs=>VA D h (a.add (i*4)) v∧VrA D h a (i+1) vs
def VA (D:Nat→Prop) (h:Hp) (a:Addr):Val→Prop
  | .mk n x t vs=>∃s,Cs h a (vals4 n x t s)∧VsA D h s vs
end
theorem VA.row {D:Nat→Prop} {h:Hp} {a:Addr} {v:Val} (hv:VA D h a v):∃s,Cs h a (v.row s)∧VsA D h s v.items:=by
  obtain ⟨n,x,t,vs⟩:=v
  unfold VA at hv;exact hv
theorem VA.of {D:Nat→Prop} {h:Hp} {a:Addr} {v:Val} {s:Sl} (c:Cs h a (v.row s)) (w:VsA D h s v.items):VA D h a v:=by
  obtain ⟨n,x,t,vs⟩:=v
  unfold VA;exact ⟨s,c,w⟩
section
variable {D D' S:Nat→Prop} {h h':Hp}
theorem VA.lt {a:Addr} {v:Val} (hv:VA D h a v):a.block < h.size:=by obtain ⟨_,c,_⟩:=hv.row;exact Cs.lt c
mutual
theorem VsA.fr (f:Tn S h h') (hn:∀b,D b→b < h.size→¬S b) (hD:∀b,D b→D' b):∀{s:Sl} (vs:List Val),VsA D h s vs→VsA D' h' s vs
  | _,[],hh=>by unfold VsA at hh ⊢;exact hh
  | _,v::vs,hh=>by
    unfold VsA at hh ⊢
    obtain ⟨a,b,p,e,q,x,y⟩:=hh
    exact ⟨a,b,p,e,hD _ q,VA.fr f hn hD (hn _ q x.lt) v x,VrA.fr f hn hD (hn _ q x.lt) vs y⟩
theorem VrA.fr (f:Tn S h h') (hn:∀b,D b→b < h.size→¬S b) (hD:∀b,D b→D' b):∀{a:Addr} (ha:¬S a.block) {i:Nat} (vs:List Val),VrA D h a i vs→VrA D' h' a i vs
  | _,_,_,[],_=>by unfold VrA;trivial
  | _,ha,i,v::vs,hh=>by
    unfold VrA at hh ⊢
    exact ⟨VA.fr f hn hD (by rw [add_block];exact ha) v hh.1,VrA.fr f hn hD ha vs hh.2⟩
theorem VA.fr (f:Tn S h h') (hn:∀b,D b→b < h.size→¬S b) (hD:∀b,D b→D' b):∀{a:Addr} (ha:¬S a.block) (v:Val),VA D h a v→VA D' h' a v
  | _,ha, .mk n x t vs,hh=>by
    unfold VA at hh ⊢
    obtain ⟨s,hc,h1⟩:=hh
    exact ⟨s,hc.fr f ha,VsA.fr f hn hD vs h1⟩
end
mutual
theorem VsA.lt:∀{s:Sl} (vs:List Val),VsA D h s vs→VsA (fun b=>D b∧b < h.size) h s vs
  | _,[],hh=>by unfold VsA at hh ⊢;exact hh
  | _,v::vs,hh=>by
    unfold VsA at hh ⊢
    obtain ⟨a,b,p,e,q,x,y⟩:=hh
    exact ⟨a,b,p,e,⟨q,x.lt⟩,VA.lt' v x,VrA.lt vs y⟩
theorem VrA.lt:∀{a:Addr} {i:Nat} (vs:List Val),VrA D h a i vs→VrA (fun b=>D b∧b < h.size) h a i vs
  | _,_,[],_=>by unfold VrA;trivial
  | _,i,v::vs,hh=>by unfold VrA at hh ⊢;exact ⟨VA.lt' v hh.1,VrA.lt vs hh.2⟩
theorem VA.lt':∀{a:Addr} (v:Val),VA D h a v→VA (fun b=>D b∧b < h.size) h a v
  | _, .mk n x t vs,hh=>by
    unfold VA at hh ⊢
    obtain ⟨s,hc,h1⟩:=hh
    exact ⟨s,hc,VsA.lt vs h1⟩
end
theorem VsA.gr {s:Sl} {vs:List Val} (v:VsA D h s vs) (g:Grw h h'):VsA D h' s vs:=VsA.fr (S:=No) (Tn.of_grw g) (fun _ _ _=>id) (fun _ q=>q) vs v
theorem VsA.mo {s:Sl} {vs:List Val} (v:VsA D h s vs) (hD:∀b,D b→D' b):VsA D' h s vs:=VsA.fr (S:=No) (Tn.refl _ _) (fun _ _ _=>id) hD vs v
theorem VrA.get:∀{a:Addr} {vs:List Val} {i:Nat},VrA D h a i vs→∀(j:Nat) v,vs[j]? = some v→VA D h (a.add ((i+j)*4)) v
  | _,[],_,_,_,_,hj=>by simp at hj
  | _,f::fs,i,hh,0,g,hj=>by simp at hj;subst hj;unfold VrA at hh;exact hh.1
  | _,f::fs,i,hh,j+1,g,hj=>by
    unfold VrA at hh
    have:=VrA.get hh.2 j g (by simpa using hj)
    have e:i+(j+1)=i+1+j:=by omega
    rw [e];exact this
theorem VrA.of {a:Addr}:∀{vs:List Val} {i:Nat},(∀j v,vs[j]? = some v→VA D h (a.add ((i+j)*4)) v)→VrA D h a i vs
  | [],_,_=>by unfold VrA;trivial
  | f::fs,i,H=>by
    unfold VrA
    refine ⟨H 0 f rfl,VrA.of fun j g hg => ?_⟩
    have:=H (j+1) g (by simpa using hg)
    have e:i+1+j=i+(j+1):=by omega
    rw [e];exact this
theorem VsA.n {s:Sl} {vs:List Val} (hh:VsA D h s vs):s.n=vs.length∧s.n≤s.c:=by
  cases vs with
  | nil=>unfold VsA at hh;exact hh
  | cons g gs=>unfold VsA at hh;exact ⟨hh.1,hh.2.1⟩
theorem VsA.all {s:Sl} {vs:List Val} (hh:VsA D h s vs) (hn:vs≠[]):∃a,s.a=some a∧D a.block∧∀(j:Nat) v,vs[j]? = some v→VA D h (a.add (j*4)) v:=by
  cases vs with
  | nil=>exact absurd rfl hn
  | cons g gs =>
    unfold VsA at hh
    obtain ⟨_,_,a,ha,hd,h1,h2⟩:=hh
    refine ⟨a,ha,hd,fun j v hj => ?_⟩
    cases j with
    | zero=>simp at hj;subst hj;rw [Nat.zero_mul,add_zero'];exact h1
    | succ j =>
      have:=h2.get j v (by simpa using hj)
      have e:1+j=j+1:=by omega
      rw [e] at this;exact this
theorem VsA.of {s:Sl} {vs:List Val} (hn:s.n=vs.length) (hc:s.n≤s.c) (ha:vs≠[]→∃a,s.a=some a∧D a.block∧∀(j:Nat) v,vs[j]? = some v→VA D h (a.add (j*4)) v):VsA D h s vs:=by
  cases vs with
  | nil=>unfold VsA;exact ⟨hn,hc⟩
  | cons g gs =>
    obtain ⟨a,h1,h2,h3⟩:=ha (by simp)
    unfold VsA
    refine ⟨hn,hc,a,h1,h2,by simpa [add_zero'] using h3 0 g rfl,VrA.of fun j v hv => ?_⟩
    have:=h3 (j+1) v (by simpa using hv)
    have e:1+j=j+1:=by omega
    rw [e];exact this
theorem VsA.nil (h:Hp):VsA D h Sl.nil []:=by unfold VsA;exact ⟨rfl,Nat.le_refl _⟩
theorem VsA.ix {s:Sl} {vs:List Val} (hs:VsA D h s vs) {x:Int} {i:Nat} (hx:x=(i:Int)) {v:Val} (hj:vs[i]? = some v) {K:Addr→Prop} (hk:∀a t,Cs h a (v.row t)→VsA D h t v.items→K a):Ix s.a s.n 4 x K:=by
  have hi:i < vs.length:=(List.getElem?_eq_some_iff.1 hj).1
  obtain ⟨a,ha,_,hd⟩:=hs.all (by intro e;rw [e] at hi;simp at hi)
  obtain ⟨p,c,w⟩:=(hd i v hj).row
  have hn:=hs.n
  subst hx
  rw [ha]
  exact ⟨by omega,by omega,by rw [Int.toNat_natCast];exact hk _ _ c w⟩
theorem VsA.ofRows {s:Sl} {b:Nat} {vs:List Val} {ss:List Sl} {el:TypeId} (o:RowH 4 h s b (List.zipWith Val.row vs ss) el) (hl:ss.length=vs.length) (hb:D b)
    (hp:∀(j:Nat) (v:Val) (t:Sl),vs[j]? = some v→ss[j]? = some t→VsA D h t v.items):VsA D h s vs:=by
  have hn:=o.n
  rw [List.length_zipWith,hl,Nat.min_self] at hn
  refine VsA.of hn o.cap fun _=>⟨_,o.a,hb,fun j v hv => ?_⟩
  have hj:=(List.getElem?_eq_some_iff.1 hv).1
  have hj2:ss[j]? = some ss[j]:=List.getElem?_eq_getElem (by omega)
  rw [add_blk,Nat.zero_add]
  exact VA.of (o.cs (by rw [List.getElem?_zipWith,hv,hj2])) (hp j v _ hv hj2)
/-- values appended to a list that grows: the older ones stay -/
theorem VsA.snoc {lo:Nat} {s:Sl} {vs:List Val} {ss:List Sl} {el:TypeId} (o:RowS lo 4 h s (List.zipWith Val.row vs ss) el) (hl:ss.length=vs.length) (hD:∀b,lo≤b→D b)
    (hp:∀(j:Nat) (v:Val) (t:Sl),vs[j]? = some v→ss[j]? = some t→VsA D h t v.items):VsA D h s vs:=by
  rcases o.cases with ⟨rfl,e⟩ | ⟨b,hb,o⟩
  · have:vs=[]:=by
      cases vs with
      | nil=>rfl
      | cons d ds=>cases ss with
        | nil=>simp at hl
        | cons=>simp at e
    subst this;exact VsA.nil h
  · exact VsA.ofRows o hl (hD b hb) hp
end
end Go.Proofs.YtlbbdbdjiekkaaaGreatDoor
set_option maxRecDepth 100000
set_option maxHeartbeats 200000
/- Cuts of arrays that are right are right: plain. -/
namespace Go.Proofs.YtlbbdbdjiekkaaaGreatDoor
open Go Go.Sh Go.WideShapes
end Go.Proofs.YtlbbdbdjiekkaaaGreatDoor
set_option maxRecDepth 100000
set_option maxHeartbeats 200000
/- Nulls of values: plain. -/
namespace Go.Proofs.YtlbbdbdjiekkaaaGreatDoor
open Go Go.Sh Go.WideShapes
mutual
/-- nulls where they may be, and none in a dictionary -/
def Fld.nls:Fld→Prop
  | .mk _ nul k _ _ _ cs=>Nulls k nul cs∧(k=19→∃c,cs[0]? = some c∧c.nul=false)∧nlsL cs
def nlsL:List Fld→Prop
  | []=>True
  | f::fs=>f.nls∧nlsL fs
end
theorem placesU_nls {cs:List Fld} {d:Nat} {ins:Bool} (IH:∀f∈cs,∀(n:Nat) (ids:List Int),AllR n ids (f.places d [] ins)→f.nls):∀{n:Nat} {ids:List Int},AllR n ids (placesU d ins cs)→nlsL cs:=by
  induction cs with
  | nil=>intro n ids _;unfold nlsL;trivial
  | cons f fs ih =>
    intro n ids h
    simp only [placesU,AllR_append] at h
    have h1:=IH f (by simp) n ids h.1
    have h2:=ih (fun g hg=>IH g (by simp [hg])) h.2
    unfold nlsL
    exact ⟨h1,h2⟩
theorem places_nls:∀(f:Fld) (d:Nat) (ins:Bool) (n:Nat) (ids:List Int),AllR n ids (f.places d [] ins)→f.nls
  | .mk nm nul k w id ix cs,d,ins,n,ids,h=>by
    have IH:∀f∈cs,∀(n:Nat) (ids:List Int),AllR n ids (f.places (d+1) [] (ins || k == 19))→f.nls:=fun f _ n ids=>places_nls f (d+1) (ins || k == 19) n ids
    have hd:d≤64:=by unfold Fld.places at h;exact h.1.1
    rw [places_cons hd] at h
    have h1:=h.1
    have h2:=(AllR_0.1 h.2).2
    have h3:=placesU_nls IH h2
    unfold Fld.nls
    exact ⟨h1.2.2.2.2.2.1,fun e=>(h1.2.2.2.2.2.2.2 e).1,h3⟩
mutual
def Fld.dep:Fld→Nat
  | .mk _ _ _ _ _ _ cs=>deps cs+1
def deps:List Fld→Nat
  | []=>0
  | f::fs=>max f.dep (deps fs)
end
theorem dep_mem:∀{fs:List Fld} {f:Fld},f∈fs→f.dep≤deps fs
  | [],_,h=>by simp at h
  | g::gs,f,h=>by
    unfold deps
    rcases List.mem_cons.1 h with rfl | h
    · omega
    · have:=dep_mem h;omega
theorem Fld.dep_eq (f:Fld):f.dep=deps f.cs+1:=by cases f;unfold Fld.dep;rfl
theorem dep_pos (f:Fld):1≤f.dep:=by rw [f.dep_eq];omega
theorem endsF_dep:endsF.dep=1:=by unfold endsF Fld.dep deps;rfl
/-- the parts' fields are less deep -/
theorem dep_part {f g:Fld} {j:Nat} (h20:f.k=20→f.cs.length=1) (h:(pfs f.k f.cs)[j]? = some g):g.dep < f.dep:=by
  rw [f.dep_eq]
  unfold pfs at h
  split at h
  · rename_i e
    have hl:=h20 e
    cases j with
    | zero =>
      simp at h;subst h
      rw [endsF_dep]
      cases hc:f.cs with
      | nil=>rw [hc] at hl;simp at hl
      | cons x xs=>have:=dep_pos x;have:=dep_mem (f:=x) (fs:=x::xs) (by simp);omega
    | succ j =>
      have:=dep_mem (List.mem_of_getElem? (by simpa using h:f.cs[j]? = some g));omega
  · have:=dep_mem (List.mem_of_getElem? h);omega
theorem deps_le {m:Nat}:∀{fs:List Fld},(∀f∈fs,f.dep≤m)→deps fs≤m
  | [],_=>by unfold deps;omega
  | f::fs,h=>by
    unfold deps
    have h1:=h f (by simp)
    have h2:=deps_le (fs:=fs) fun g hg=>h g (by simp [hg])
    omega
theorem placesU_AllR {cs:List Fld} {d:Nat} {ins:Bool}:∀{n:Nat} {ids:List Int},AllR n ids (placesU d ins cs)→∀f∈cs,∃(n:Nat) (ids:List Int),AllR n ids (f.places d [] ins):=by
  induction cs with
  | nil=>intro n ids _ f hf;simp at hf
  | cons g gs ih =>
    intro n ids h f hf
    simp only [placesU,AllR_append] at h
    rcases List.mem_cons.1 hf with rfl | hf
    · exact ⟨_,_,h.1⟩
    · exact ih h.2 f hf
theorem places_dep:∀(f:Fld) (d:Nat) (ins:Bool) (n:Nat) (ids:List Int),AllR n ids (f.places d [] ins)→f.dep+d≤65
  | .mk nm nul k w id ix cs,d,ins,n,ids,h=>by
    have IH:∀f∈cs,∀(n:Nat) (ids:List Int),AllR n ids (f.places (d+1) [] (ins || k == 19))→f.dep+(d+1)≤65:=fun f _ n ids=>places_dep f (d+1) (ins || k == 19) n ids
    have hd:d≤64:=by unfold Fld.places at h;exact h.1.1
    rw [places_cons hd] at h
    have h2:=placesU_AllR (AllR_0.1 h.2).2
    unfold Fld.dep
    rcases Nat.eq_or_lt_of_le hd with e | e
    · cases cs with
      | nil=>unfold deps;omega
      | cons g gs=>obtain ⟨n,ids,q⟩:=h2 g (by simp);have:=IH g (by simp) n ids q;have:=dep_pos g;omega
    · have:=deps_le (m:=64 - d) (fs:=cs) fun g hg=>by obtain ⟨n,ids,q⟩:=h2 g hg;have:=IH g hg n ids q;omega
      omega
theorem FldOk.dep {f:Fld} (h:FldOk f):f.dep≤64:=by
  have:=h.2.2.2.2
  simp only [placesU,List.append_nil] at this
  have:=places_dep f 1 false 0 [] this
  omega
theorem getD_of {α:Type} {l:List α} {j:Nat} {x y:α} (h:l[j]? = some x):l.getD j y=x:=by simp [h]
theorem getD_map {α β:Type} {g:α→β} {l:List α} {j:Nat} {x:α} {y:β} (h:l[j]? = some x):(l.map g).getD j y=g x:=by simp [h]
/-- the parts of what is right are right -/
theorem Fld.arr.part {f g:Fld} {d c:Dat} {j:Nat} (h:f.arr d) (hg:(pfs f.k f.cs)[j]? = some g) (hc:(partsD d)[j]? = some c):g.arr c:=by
  rw [Fld.arr_eq] at h
  obtain ⟨p,hp,q⟩:=h.pt j c hc
  rw [List.getElem?_map,hg] at hp
  cases hp;exact q
theorem Fld.arr.siz {f:Fld} {d:Dat} (h:f.arr d):SizOk f.nul f.k f.w f.id f.ix f.cs d:=(Fld.arr_eq.1 h).o
theorem Fld.arr.h20 {f:Fld} {d:Dat} (h:f.arr d):f.k=20→f.cs.length=1:=fun e=>by have:=h.siz.ty.kinds.1;unfold Shaped at this;omega
end Go.Proofs.YtlbbdbdjiekkaaaGreatDoor
set_option maxRecDepth 100000
set_option maxHeartbeats 1000000
/- check: is data right for a field, through and through? -/
namespace Go.Proofs.YtlbbdbdjiekkaaaGreatDoor
open Go Go.Sh Go.WideShapes
abbrev K1:=Int→Sl→Int→Sl→HP
/-- a fault's path -/
def Pth (lo n:Nat) (h:Hp) (l:Sl):Prop:=∃ps:List Value,Sv h l ps∧(∀v∈ps,one v=true)∧ps.length≤n∧∀a,l.a=some a→lo≤a.block
/-- new numbers -/
def Wn (lo:Nat) (h:Hp) (t:Sl) (l:List Nat):Prop:=Nv h t l∧∀a,t.a=some a→lo≤a.block∧a.block < h.size
theorem Sv.fr' {S:Nat→Prop} {h h':Hp} {s:Sl} {vs:List Value} (v:Sv h s vs) (f:Tn S h h') (hn:∀a,s.a=some a→a.block < h.size→¬S a.block):Sv h' s vs:=by
  obtain ⟨h1,h2,h3⟩:=v
  refine ⟨h1,h2,fun x hx => ?_⟩
  obtain ⟨a,ha,c⟩:=h3 x hx
  cases vs with
  | nil=>simp at h1;omega
  | cons w ws=>exact ⟨a,ha,c.fr f (hn a ha (Cs.lt c))⟩
theorem Pth.nil (lo n:Nat) (h:Hp):Pth lo n h Sl.nil:=⟨[],Sv.nil _,by simp,by simp,fun a ha=>by cases ha⟩
theorem Pth.fr {lo n:Nat} {S:Nat→Prop} {h h':Hp} {l:Sl} (p:Pth lo n h l) (f:Tn S h h') (hn:∀b,lo≤b→b < h.size→¬S b):Pth lo n h' l:=by
  obtain ⟨ps,q1,q2,q3,q4⟩:=p
  exact ⟨ps,Sv.fr' q1 f fun a ha hlt=>hn _ (q4 a ha) hlt,q2,q3,q4⟩
theorem Pth.mo {lo lo' n n':Nat} {h:Hp} {l:Sl} (p:Pth lo n h l) (h1:lo'≤lo) (h2:n≤n'):Pth lo' n' h l:=by
  obtain ⟨ps,q1,q2,q3,q4⟩:=p
  exact ⟨ps,q1,q2,Nat.le_trans q3 h2,fun a ha=>Nat.le_trans h1 (q4 a ha)⟩
theorem Wn.fr {lo:Nat} {S:Nat→Prop} {h h':Hp} {t:Sl} {l:List Nat} (w:Wn lo h t l) (f:Tn S h h') (hn:∀a,t.a=some a→¬S a.block):Wn lo h' t l :=
  ⟨Sv.fr w.1 f hn,fun a ha=>⟨(w.2 a ha).1,Nat.lt_of_lt_of_le (w.2 a ha).2 f.1⟩⟩
theorem Wn.mo {lo lo':Nat} {h:Hp} {t:Sl} {l:List Nat} (w:Wn lo h t l) (h1:lo'≤lo):Wn lo' h t l:=⟨w.1,fun a ha=>⟨Nat.le_trans h1 (w.2 a ha).1,(w.2 a ha).2⟩⟩
def ArrC (n:Nat):Prop:=∀(f:Fld),f.dep≤n→∀{d:Dat} {p:Sl × Sl × Sl} {h:Hp} {s:Sl} {K:K1} {Kp:PK},Tab h→UTab h→f.sml→FsH h s f.cs→DvH h p d→d.mac →
  (∀e l m t h',Grw h h'→Pth h.size f.dep h' l→(e=0↔f.arr d)→(e=0→Wn h.size h' t (wts f.val d))→K e l m t h')→Fn100 f.name f.nul f.k f.w f.id f.ix s d.len d.off d.nul p.1 p.2.1 p.2.2 h K Kp
theorem Fld.sml.un {f:Fld} (h:f.sml):f.name.size≤M63∧f.cs.length≤M63∧smls f.cs:=by cases f;unfold Fld.sml at h;exact h
theorem sml_part {f g:Fld} {j:Nat} (h:f.sml) (hg:(pfs f.k f.cs)[j]? = some g):g.sml:=by
  have hm:=List.mem_of_getElem? hg
  unfold pfs at hm
  split at hm
  · rcases List.mem_cons.1 hm with rfl | hm
    · unfold endsF Fld.sml smls;exact ⟨by decide,by decide,trivial⟩
    · exact h.un.2.2.get g hm
  · exact h.un.2.2.get g hm
theorem arr_partC {g:Fld} {c:Dat} (h:g.arr c):PartC c:=by
  have o:=h.siz
  exact ⟨⟨o.l0,o.l1⟩,⟨o.o0,o.o1⟩⟩
theorem arr_endC {c:Dat} (h:endsF.arr c):EndC c:=by
  have o:=h.siz
  have nb:=o.nb
  have e1:bufK endsF.k=2:=by decide
  rw [e1] at nb
  have n1:=o.need 1 (by omega)
  have e2:∀e hv,needB endsF.k endsF.w endsF.ix 1 e hv=e*4:=by intro e hv;rfl
  rw [e2] at n1
  have o0:=o.o0
  have l0:=o.l0
  exact ⟨by omega,by omega,o.big 1 (by omega)⟩
end Go.Proofs.YtlbbdbdjiekkaaaGreatDoor
set_option maxRecDepth 100000
set_option maxHeartbeats 1000000
/- check, computed. -/
namespace Go.Proofs.YtlbbdbdjiekkaaaGreatDoor
open Go Go.Sh Go.WideShapes
theorem sum_le {l:List Nat} {B:Nat} (h:∀x∈l,x≤B):l.sum≤l.length*B:=by
  induction l with
  | nil=>simp
  | cons x xs ih =>
    have h1:=h x (by simp)
    have h2:=ih fun y hy=>h y (by simp [hy])
    simp only [List.sum_cons,List.length_cons,Nat.add_mul,Nat.one_mul];omega
theorem flat1 (us:List Sl):(us.map fun u=>[Sl.v u]).flatten=us.map Sl.v:=by induction us <;> simp_all
theorem arrch_step {n:Nat} (IH:ArrC n):ArrC (n+1):=by
  intro f hdp d p h s K Kp ht hu hsm hs v hm hk
  have hl:=hsm.un.2.1
  have hsmc:=hsm.un.2.2
  refine Fn100.of (New_i fun b2 h1 e1 g1 k2 _=>New_i fun b3 h2 e2 g2 k3 _=>New_i fun b4 hA e3 g3 k4 _ => ?_)
  have GA:=Grw.trans g1 (Grw.trans g2 g3)
  have hb4:h.size≤b4:=by have:=g1.1;have:=g2.1;omega
  have k2:=(k2.grw g2).grw g3
  have k3:=k3.grw g3
  have hb4l:=k4.lt
  have out:∀{h':Hp} {b:Nat} {e m:Int} {l:Sl},Grw hA h'→Blk h' b #[.int .i64 e,Sl.v l, .int .i64 m] Y37→e≠0→¬f.arr d→Pth hA.size f.dep h' l →
      LY37 h' ⟨b,0,none⟩ fun t0 t1 t2=>SY37 h' ⟨b4,0,none⟩ t0 t1 t2 fun h1=>LY37 h1 ⟨b4,0,none⟩ fun r0 r1 r2=>K r0 r1 r2 (⟨none,0,0⟩:Sl) h1:=fun g kb he no pth =>
    LY37.b kb (SY37.b (k4.grw g) rfl fun h1 o1 k4=>LY37.b k4 (hk _ _ _ _ _ (Only.grw (Grw.trans GA g) o1 hb4) ((pth.fr o1.fr fun b hb _ e=>by omega).mo GA.1 (Nat.le_refl _)) ⟨fun y=>absurd y he,fun y=>absurd y no⟩ fun y=>absurd y he))
  have look:∀{h':Hp} {e m:Int} {l:Sl} {P:Prop} {J:HP},Grw hA h'→l=Sl.nil→(e=0↔P)→(f.arr d→P)→(P→∀h'',Grw h' h''→J h'') →
      New h' zY37 Y37 fun a6 h5=>SY37 h5 a6 e l m fun h6=>Ld h6 a6 mI fun t22=>If (t22 != 0) (LY37 h6 a6 fun t0 t1 t2=>SY37 h6 ⟨b4,0,none⟩ t0 t1 t2 fun h7=>LY37 h7 ⟨b4,0,none⟩ fun r0 r1 r2=>K r0 r1 r2 (⟨none,0,0⟩:Sl) h7) (J h6):=by
    rintro h' e m l P J g rfl he hP hJ
    have gs:=g.1
    refine New_i fun b6 h5 e6 g5 k6 _=>SY37.b k6 rfl fun h6 o6 k6=>Ld_blk k6 rfl (If_i (fun c => ?_) fun c => ?_)
    · simp only [sm,reduceCtorEq] at c
      exact out (Only.grw (Grw.trans g g5) o6 (by omega)) k6 c (fun q=>c (he.2 (hP q))) (Pth.nil _ _ _)
    · simp only [sm,reduceCtorEq] at c
      exact hJ (he.1 c) h6 (Only.grw g5 o6 (by omega))
  have h63:∀(j:Nat) (c:Dat),d.ds[j]? = some c→c.len < 2 ^ 63:=fun j c hc=>(hm.un.2.2.get j c hc).un.1
  refine LY29.b k2 (LY33.b k3 (sizes_c (ht.grw GA) hl hsmc (hs.gr GA) (v.gr GA) fun e t m h4 g4 et he=>look g4 et he (fun q=>q.siz) fun o h6 g6 => ?_))
  have G6:=Grw.trans g4 g6
  refine J100_1.of (LY29.b (k2.grw G6) (LY33.b (k3.grw G6) (rows_c (hu.grw (Grw.trans GA G6)) (v.gr (Grw.trans GA G6)) o h63 fun e t m h7 g7 et he=>look (Grw.trans G6 g7) et he (fun q=>(Fld.arr_eq.1 q).ro) fun ro h8 g8 => ?_)))
  have G8:=Grw.trans G6 (Grw.trans g7 g8)
  refine J100_2.of (LY33.b (k3.grw G8) (parts_k (v.gr (Grw.trans GA G8)) fun s33 h9 g9 ds => ?_))
  have G9:=Grw.trans G8 g9
  have H9:=Grw.trans GA G9
  have k2:=k2.grw G9
  have k3:=k3.grw G9
  have G9s:=G9.1
  have pl:=o.parts
  have h20:f.k=20→f.cs.length=1:=fun e=>by have:=o.ty.kinds.1;unfold Shaped at this;omega
  have dn:=ds.n
  have l0:=o.l0
  have l1:=o.l1
  have o0:=o.o0
  have o1:=o.o1
  have hv:=Fld.val_eq f
  have small:(pfs f.k f.cs).length≤33:=by
    have:=o.ty.kinds.2.1
    unfold pfs;split
    · simp only [List.length_cons];omega
    · omega
  obtain ⟨fs,hfs⟩:∃fs,fs=pfs f.k f.cs:=⟨_,rfl⟩
  rw [←hfs] at pl small hv
  have fin:∀(x8:Sl) (us:List Sl) (h10:Hp),Grw h9 h10→Win h10 x8 us (lsD (fs.map Fld.val) d)→(∀(j:Nat) (g:Fld) (c:Dat),fs[j]? = some g→(partsD d)[j]? = some c→g.arr c)→J100_3 K Kp ⟨b2,0,none⟩ ⟨b3,0,none⟩ ⟨b4,0,none⟩ x8 h10:=by
    intro x8 us h10 g10 wn ha
    have sub:∀j,j < (partsD d).length→∃g,fs[j]? = some g∧(partsD d)[j]? = some (part d j)∧g.arr (part d j):=fun j hj=>by
      have h1:fs[j]? = some fs[j]:=List.getElem?_eq_getElem (by omega)
      exact ⟨_,h1,part_get hj,ha j _ _ h1 (part_get hj)⟩
    have j4 : ∀h11,Grw h10 h11→(f.k=20→EndOk d)→J100_4 K Kp ⟨b2,0,none⟩ ⟨b3,0,none⟩ ⟨b4,0,none⟩ x8 h11:=by
      intro h11 g11 eo
      have G11:=Grw.trans g10 g11
      have G11s:=G11.1
      refine J100_4.of (LY29.b (k2.grw G11) (LY33.b (k3.grw G11) (weights_c (V:=fs.map Fld.val) (v.gr (Grw.trans H9 G11)) o ro (wn.grw g11) (by simp;omega) ?_ ?_ ?_ fun t h12 g12 nv tb bd => ?_)))
      · intro j c hc
        have hj:=(List.getElem?_eq_some_iff.1 hc).1
        obtain ⟨g,q1,q2,q3⟩:=sub j hj
        rw [q2] at hc;cases hc
        exact arr_partC q3
      · intro j hj
        obtain ⟨g,q1,q2,q3⟩:=sub j hj
        rw [getD_map q1,Fld.val_eq]
        exact (Fld.arr_eq.1 q3).wt
      · intro e20
        refine ⟨eo e20,?_⟩
        have hf0:fs[0]? = some endsF:=by rw [hfs,pfs,if_pos e20];rfl
        have h0:=(List.getElem?_eq_some_iff.1 hf0).1
        obtain ⟨g,q1,q2,q3⟩:=sub 0 (by omega)
        rw [hf0] at q1;cases q1
        exact arr_endC q3
      · rw [←hv] at nv bd
        have G12:=Grw.trans G11 g12
        have tn:=nv.1
        rw [iv_len] at tn
        have wl:=wts_len f.val d
        have bd':∀x∈wts f.val d,x≤2 ^ 40:=by
          intro x hx
          obtain ⟨i,hi⟩:=List.mem_iff_getElem?.1 hx
          have hi':=(List.getElem?_eq_some_iff.1 hi).1
          rw [wts_get (by omega)] at hi;cases hi
          exact bd i (by omega)
        have arr_iff:f.arr d↔(wts f.val d).sum≤4194304:=by
          constructor
          · intro q
            have:=(Fld.arr_eq.1 q).wt
            rwa [←hfs,←hv] at this
          · intro q
            refine Fld.arr_eq.2 ⟨o,ro,fun j c hc => ?_,eo,by rw [←hfs,←hv];exact q⟩
            have hj:=(List.getElem?_eq_some_iff.1 hc).1
            obtain ⟨g,q1,q2,q3⟩:=sub j hj
            rw [q2] at hc;cases hc
            rw [←hfs,List.getElem?_map,q1]
            exact ⟨_,rfl,q3⟩
        generalize wts f.val d=ws at nv tn wl bd' arr_iff hk
        rw [tn]
        refine L100_5.rule (fun x15 x79 h'=>∃i:Nat,x15=((ws.take i).sum:Nat)∧x79=i∧i≤ws.length∧h'=h12) (fun _ x79 _=>ws.length - x79.toNat) ⟨0,by simp,rfl,by omega,rfl⟩ ?_
        rintro x15 x79 h13 ⟨i,rfl,rfl,hi,rfl⟩ N1 hN
        have sb:=sum_le (l:=ws.take i) (B:=2 ^ 40) fun x hx=>bd' x (List.mem_of_mem_take hx)
        rw [List.length_take] at sb
        have sb2:min i ws.length*2 ^ 40≤4096*2 ^ 40:=Nat.mul_le_mul_right _ (by omega)
        have k4:=k4.grw (Grw.trans G9 G12)
        refine If_i (fun c => ?_) fun c=>If_i (fun c2 => ?_) fun c2 => ?_
        · simp only [sm,reduceCtorEq] at c
          have hg:ws[i]? = some ws[i]:=List.getElem?_eq_getElem (by omega)
          have h1:=bd' _ (List.mem_of_getElem? hg)
          have h2:=sum_take_succ hg
          rw [←tn]
          refine nv.ld rfl hg (Wr_i64 (by omega) (by omega) (Wr_i64 (by omega) (by omega) ?_))
          rw [tn]
          exact hN _ _ _ ⟨i+1,by rw [h2];omega,by omega,by omega,rfl⟩ (by omega)
        · simp only [sm,reduceCtorEq] at c c2
          obtain rfl:i=ws.length:=by omega
          rw [List.take_length] at c2
          exact fault_to (K:=fun e l m=>K e l m (⟨none,0,0⟩:Sl)) (Grw.trans H9 G12) k4 rfl hb4 fun h' g'=>hk _ _ _ _ _ g' (Pth.nil _ _ _) ⟨fun y=>absurd y (by decide),fun q=>by have:=arr_iff.1 q;omega⟩ fun y=>absurd y (by decide)
        · simp only [sm,reduceCtorEq] at c c2
          obtain rfl:i=ws.length:=by omega
          rw [List.take_length] at c2
          have hi11:hA.size≤h11.size:=Nat.le_trans G9s G11s
          refine SY37.b k4 rfl fun h' o' k4=>LY37.b k4 (hk _ _ _ _ _ (Only.grw (Grw.trans H9 G12) o' hb4) (Pth.nil _ _ _) ⟨fun _=>arr_iff.2 (by omega),fun _=>rfl⟩ fun _ => ?_)
          have w0:Wn h.size h13 t ws:=⟨nv,fun a ha=>⟨Nat.le_trans (Grw.trans H9 G11).1 (tb a ha).1,(tb a ha).2⟩⟩
          exact w0.fr o'.fr fun a ha e=>by have:=(tb a ha).1;omega
    refine J100_3.of ?_
    simp only [add_blk]
    refine Ld_blk (k2.grw g10) rfl (If_i (fun c => ?_) fun c=>j4 _ (Grw.refl _) fun q => ?_)
    · simp only [sm,reduceCtorEq] at c
      have hcs:partsD d=d.cs:=by have:=o.nd;unfold partsD;rw [diK,if_neg (by omega)] at this;rw [if_neg (by omega)]
      have hf0:fs[0]? = some endsF:=by rw [hfs,pfs,if_pos c];rfl
      have hpn:2≤(partsD d).length:=by rw [pl,hfs,pfs,if_pos c,List.length_cons,h20 c];omega
      obtain ⟨g,q1,q2,q3⟩:=sub 0 (by omega)
      have q4:=part_get (d:=d) (j:=1) (by omega)
      rw [hf0] at q1;cases q1
      rw [hcs] at q2 q4
      have ec:=arr_endC q3
      have pc:=arr_partC q3
      refine LY33.b (k3.grw g10) (ends_c (v.gr (Grw.trans H9 g10)) q2 q4 ⟨l0,l1⟩ ⟨o0,o1⟩ pc.l pc.o ec.b ec.e1 ec.e2 fun e t m h11 g11 et he=>look (Grw.trans (Grw.trans G9 g10) g11) et he (fun q=>(Fld.arr_eq.1 q).eo c) fun eo h12 g12=>j4 h12 (Grw.trans g11 g12) fun _=>eo)
    · simp only [sm,reduceCtorEq] at c;exact absurd q c
  refine L100_6.rule (fun x8 x35 h'=>∃(j:Nat) (us:List Sl),x35=j∧j≤(partsD d).length∧us.length=j∧Grw h9 h'∧RowS h9.size 1 h' x8 (us.map fun u=>[Sl.v u]) Y35 ∧
      (∀(i:Nat) (u:Sl),us[i]? = some u→Wn h9.size h' u (wts ((fs.map Fld.val).getD i vz) (part d i))∧∀a,u.a=some a→¬x8.at a.block) ∧
      (∀(i:Nat) (g:Fld) (c:Dat),i < j→fs[i]? = some g→(partsD d)[i]? = some c→g.arr c)) (fun _ x35 _=>(partsD d).length - x35.toNat)
    ⟨0,[],rfl,by omega,rfl,Grw.refl _,RowS.nil _ _ _ _,by simp,fun i _ _ hi=>by omega⟩ ?_
  rintro x8 x35 h10 ⟨j,us,rfl,hj,hus,g10,o10,hw,ha⟩ N1 hN
  have x8n:=o10.n
  rw [List.length_map] at x8n
  have g10s:=g10.1
  refine If_i (fun c => ?_) fun c => ?_
  · simp only [sm,reduceCtorEq] at c
    have hj':j < (partsD d).length:=by omega
    have hc:(partsD d)[j]? = some (part d j):=part_get hj'
    have hg:fs[j]? = some fs[j]:=List.getElem?_eq_getElem (by omega)
    generalize fs[j]=g at hg
    have hgp:=hg
    rw [hfs] at hgp
    refine (ds.gr g10).ix rfl hc fun a38 q ca vq=>LY33.c ca (New_i fun b10 h11 e10 g11 k10 _=>SY33.b k10 rfl fun h12 o12 k10 => ?_)
    have G12:Grw h10 h12:=Only.grw g11 o12 (by omega)
    have g12s:=G12.1
    have k2:=k2.grw (Grw.trans g10 G12)
    have H12:=Grw.trans (Grw.trans H9 g10) G12
    refine LY29.b k2 (LY33.b k10 ?_)
    have dg:=dep_part h20 hgp
    have gsm:=sml_part hsm hgp
    have j7 : ∀{h6:Hp} {b11:Nat} {e m:Int} {l t:Sl},Grw h12 h6→Blk h6 b11 #[.int .i64 e,Sl.v l, .int .i64 m] Y37→h12.size≤b11→Pth h12.size g.dep h6 l→(e=0↔g.arr (part d j))→(e=0→Wn h12.size h6 t (wts g.val (part d j))) →
        J100_7 K Kp N1 ⟨b2,0,none⟩ ⟨b3,0,none⟩ ⟨b4,0,none⟩ x8 (j:Int) ⟨b11,0,none⟩ t s33 (s33.n:Int) (j:Int) h6:=by
      intro h6 b11 e m l t g6 k11 hb11 pth he hwt
      have g6s:=g6.1
      refine J100_7.of ?_
      simp only [add_blk]
      refine Ld_blk k11 rfl (If_i (fun c2 => ?_) fun c2 => ?_)
      · simp only [sm,reduceCtorEq] at c2
        refine New_i fun b52 h7 e52 g7 k52 s7=>Ld_blk (k11.grw g7) rfl ?_
        obtain ⟨ps,p1,p2,p3,_⟩:=pth.fr (S:=No) (Tn.of_grw g7) fun _ _ _=>id
        have ln:=p1.1
        have lt11:=k11.lt
        have gb:Grw hA h6:=Grw.trans (Grw.trans (Grw.trans G9 g10) G12) g6
        have gbs:=gb.1
        have dd:f.dep≤64:=by have:=o.ty.dep;rw [Fld.dep_eq] at this ⊢;exact this
        have ow:Own h7 ⟨some ⟨b52,0,none⟩,1,1⟩ b52 [.int .i64 (j:Int)] Y6:=⟨rfl,rfl,_,k52,Nat.le_refl _,rfl,fun i _=>by simp⟩
        refine Ap_sh (lo:=b52) (Sh.of_own ow (Nat.le_refl _) k52.lt) (by omega) rfl (new:=ps) (by omega) p2 (Sv.rd1 p1 (Sv.na p1)) (by simp;omega) (by simp;omega) fun s' h8' f8 at8 o8 _ => ?_
        have g8':Grw h6 h8':=((Tn.of_grw g7:Tn No h6 h7).trans' f8 fun d hd hlt=>by obtain ⟨a,ha,hd⟩:=hd;cases ha;simp at hd;omega).grw
        refine St_i (k11.grw g8') (by simp) rfl fun h9' o9 k11=>out (Only.grw (Grw.trans gb g8') o9 (by omega)) (by simpa using k11) c2 (fun y=>c2 (he.2 (y.part hgp hc))) ?_
        have o9':=o8.fr o9.fr fun b hb _ e=>by omega
        refine ⟨_,o9'.sv,fun v hv => ?_,?_,fun a ha => ?_⟩
        · simp only [List.singleton_append,List.mem_cons] at hv
          rcases hv with rfl | hv
          · rfl
          · exact p2 v hv
        · simp;omega
        · have:=(o9'.at ⟨a,ha,rfl⟩).1;omega
      · simp only [sm,reduceCtorEq] at c2
        have wt:=hwt c2
        refine New_i fun b60 h7 e60 g7 k60 s7 => ?_
        have G7:=Grw.trans G12 (Grw.trans g6 g7)
        have g7s:=G7.1
        have g77:=g7.1
        refine (o10.grw G7).ap (by omega) rfl (new:=[[Sl.v t]]) rfl (fun r hr=>by simp at hr;subst hr;rfl) (fun r hr=>by simp at hr;subst hr;intro v hv;simp at hv;subst hv;rfl) (rd_blk k60 rfl) (by omega) (by omega) fun s' h8' f8 at8 o8 => ?_
        refine Wr_i64 (by omega) (by omega) (hN _ _ _ ⟨j+1,us++[t],by omega,by omega,by simp [hus],?_,by simpa using o8,?_,?_⟩ (by omega))
        · exact ((Tn.of_grw (Grw.trans g10 G7):Tn No h9 h7).trans' f8 fun d hd hlt=>by have:=((o10.grw G7).at hd).1;omega).grw
        · intro i u hu'
          by_cases e:i < j
          · rw [List.getElem?_append_left (by omega)] at hu'
            obtain ⟨w1,w2⟩:=hw i u hu'
            refine ⟨(w1.fr (S:=No) (Tn.of_grw G7) fun _ _=>id).fr f8 w2,fun a ha q => ?_⟩
            rcases at8 _ q with q | q
            · exact w2 a ha q
            · have:=(w1.2 a ha).2;omega
          · have hi:=(List.getElem?_eq_some_iff.1 hu').1
            simp only [List.length_append,List.length_singleton] at hi
            obtain rfl:i=j:=by omega
            rw [List.getElem?_append_right (by omega),hus] at hu'
            simp only [Nat.sub_self,List.getElem?_cons_zero,Option.some.injEq] at hu'
            subst hu'
            rw [getD_map hg]
            have w1:=wt.fr (S:=No) (Tn.of_grw g7) fun _ _=>id
            have nx:∀a,t.a=some a→¬x8.at a.block:=fun a ha q=>by have:=(wt.2 a ha).1;have:=(o10.at q).2;omega
            refine ⟨(w1.fr f8 nx).mo (by omega),fun a ha q => ?_⟩
            rcases at8 _ q with q | q
            · exact nx a ha q
            · have:=(w1.2 a ha).2;have:=(wt.2 a ha).2;omega
        · intro i g' c' hi h1 h2
          by_cases e:i=j
          · subst e
            rw [hg] at h1;cases h1
            rw [hc] at h2;cases h2
            exact he.1 c2
          · exact ha i g' c' (by omega) h1 h2
    have sub:∀{h14:Hp} {u:Sl} {KK:K1},Grw h12 h14→FsH h14 u g.cs→(∀e l m t h',Grw h14 h'→Pth h14.size g.dep h' l→(e=0↔g.arr (part d j))→(e=0→Wn h14.size h' t (wts g.val (part d j)))→KK e l m t h') →
        Fn100 g.name g.nul g.k g.w g.id g.ix u (part d j).len (part d j).off (part d j).nul q.1 q.2.1 q.2.2 h14 KK Kp:=fun g14 fu hkk =>
      IH g (by omega) (ht.grw (Grw.trans H12 g14)) (hu.grw (Grw.trans H12 g14)) gsm fu (vq.gr (Grw.trans G12 g14)) (hm.part hc) hkk
    refine ⟨partf_c (hs.gr H12) hgp h20 fun u h14 g14 fu=>Keep_blk k10 g14 ⟨sub g14 fu fun e l m t h15 g15 pth he hwt => ?_,New_i fun b11 h15 e11 g15 k11 s15=>Keep_blk (k10.grw g14) g15 (Keep_blk (k2.grw g14) g15 (sub (Grw.trans g14 g15) (fu.gr g15) fun e l m t h16 g16 pth he hwt => ?_))⟩,
      New_i fun b11 h13 e11 g13 k11 s13=>Keep_blk k10 g13 (Keep_blk k2 g13 (partf_c (hs.gr (Grw.trans H12 g13)) hgp h20 fun u h14 g14 fu=>Keep_blk (k10.grw g13) g14 (sub (Grw.trans g13 g14) fu fun e l m t h15 g15 pth he hwt => ?_)))⟩
    · have G15:=Grw.trans g14 g15
      have g14s:=g14.1
      have g15s:=G15.1
      refine New_i fun b11 h16 e11 g16 k11 s16=>Keep_blk (k10.grw G15) g16 (Keep_blk (k2.grw G15) g16 (SY37.b k11 rfl fun h17 o17 k11 => ?_))
      have G17:Grw h15 h17:=Only.grw g16 o17 (by omega)
      exact j7 (Grw.trans G15 G17) k11 (by omega) ((pth.fr (S:=No) (Tn.of_grw G17) fun _ _ _=>id).mo (by omega) (Nat.le_refl _)) he fun y=>((hwt y).fr (S:=No) (Tn.of_grw G17) fun _ _=>id).mo (by omega)
    · have g14s:=g14.1
      have g15s:=g15.1
      have g16s:=g16.1
      refine SY37.b (k11.grw g16) rfl fun h17 o17 k11 => ?_
      have G17:Grw h12 h17:=Only.grw (Grw.trans g14 (Grw.trans g15 g16)) o17 (by omega)
      exact j7 G17 k11 (by omega) ((pth.fr o17.fr fun b hb _ e=>by omega).mo (by omega) (Nat.le_refl _)) he fun y=>((hwt y).fr o17.fr fun a ha e=>by have:=((hwt y).2 a ha).1;omega).mo (by omega)
    · have g13s:=g13.1
      have g14s:=g14.1
      have g15s:=g15.1
      refine SY37.b ((k11.grw g14).grw g15) rfl fun h17 o17 k11 => ?_
      have G17:Grw h12 h17:=Only.grw (Grw.trans g13 (Grw.trans g14 g15)) o17 (by omega)
      exact j7 G17 k11 (by omega) ((pth.fr o17.fr fun b hb _ e=>by omega).mo (by omega) (Nat.le_refl _)) he fun y=>((hwt y).fr o17.fr fun a ha e=>by have:=((hwt y).2 a ha).1;omega).mo (by omega)
  · simp only [sm,reduceCtorEq] at c
    obtain rfl:j=(partsD d).length:=by omega
    refine fin x8 us h10 g10 ⟨?_,?_,fun i u l h1 h2 => ?_⟩ fun i g c h1 h2=>ha i g c (List.getElem?_eq_some_iff.1 h2).1 h1 h2
    · have:=o10.sh.sv;rwa [flat1] at this
    · simp [lsD];omega
    · have hi:=(List.getElem?_eq_some_iff.1 h2).1
      rw [lsD_get (by simpa [lsD] using hi)] at h2
      cases h2
      exact (hw i u h1).1.1
theorem arrch:∀n,ArrC n
  | 0=>fun f hd=>by have:=dep_pos f;omega
  | n+1=>arrch_step (arrch n)
end Go.Proofs.YtlbbdbdjiekkaaaGreatDoor
set_option maxRecDepth 100000
set_option maxHeartbeats 1000000
/- Arrays as they stand in a heap; Check, Open, parts. -/
namespace Go.Proofs.YtlbbdbdjiekkaaaGreatDoor
open Go Go.Sh Go.WideShapes
theorem dsml.of:∀{ds:List Dat},(∀d∈ds,d.sml)→dsml ds
  | [],_=>by unfold dsml;trivial
  | d::ds,h=>by unfold dsml;exact ⟨h d (by simp),dsml.of fun x hx=>h x (by simp [hx])⟩
theorem Dat.sml.of {d:Dat} (h:(d.bufs.length≤70000∧∀l∈d.bufs,l.length≤70000)∧(d.cs.length≤70000∧dsml d.cs)∧d.ds.length≤70000∧dsml d.ds):d.sml:=by cases d;unfold Dat.sml;exact h
theorem arr_sml:∀(n:Nat) (f:Fld) (d:Dat),f.dep≤n→f.arr d→d.sml:=by
  intro n
  induction n with
  | zero=>intro f d h;have:=dep_pos f;omega
  | succ n ih =>
    intro f d hd h
    have o:=h.siz
    have nb:=o.nb
    have bk:=bufK_le f.k
    have sub:∀c∈partsD d,c.sml:=fun c hc=>by
      obtain ⟨j,hj⟩:=List.mem_iff_getElem?.1 hc
      have hl:=(List.getElem?_eq_some_iff.1 hj).1
      have hp:=o.parts
      have hg:(pfs f.k f.cs)[j]? = some (pfs f.k f.cs)[j]:=List.getElem?_eq_getElem (by omega)
      have:=dep_part h.h20 hg
      exact ih _ c (by omega) (h.part hg hj)
    have chl:=o.ty.kinds.2.1
    refine Dat.sml.of ⟨⟨by omega,fun l hl => ?_⟩,?_⟩
    · obtain ⟨j,hj⟩:=List.mem_iff_getElem?.1 hl
      have hl':=(List.getElem?_eq_some_iff.1 hj).1
      have:=o.big j hl'
      rw [bufD_get hl'] at hj;cases hj;omega
    · have nd:=o.nd
      have nc:=o.nc
      by_cases h19:f.k=19
      · rw [diK,if_pos h19] at nd
        rw [chK,if_pos h19] at nc
        have hp:partsD d=d.ds:=by unfold partsD;rw [if_pos (by omega)]
        rw [hp] at sub
        have hc:d.cs=[]:=List.eq_nil_of_length_eq_zero nc
        exact ⟨⟨by omega,by rw [hc];unfold dsml;trivial⟩,by omega,dsml.of sub⟩
      · rw [diK,if_neg h19] at nd
        have hp:partsD d=d.cs:=by unfold partsD;rw [if_neg (by omega)]
        rw [hp] at sub
        have hc:d.ds=[]:=List.eq_nil_of_length_eq_zero nd
        have:=chK_le f.k f.cs
        exact ⟨⟨by omega,dsml.of sub⟩,by omega,by rw [hc];unfold dsml;trivial⟩
/-- the family of a kind -/
def famV (k:Int):Value:=if k=12∨k=13 then .iface Y192 (.agg #[]) else if k=15∨k=16 then .iface Y193 (.agg #[]) else if k=17 then .iface Y194 (.agg #[]) else if k=18 then .iface Y195 (.agg #[]) else if k=19 then .iface Y196 (.agg #[]) else if k=20 then .iface Y197 (.agg #[]) else .iface Y198 (.agg #[])
theorem family_c {k:Int} {h:Hp} {K:Value→HP} {Kp:PK} (hk:K (famV k) h):Fn101 k h K Kp:=by
  have fin:∀v:Value,v=famV k→K v h:=fun v e=>e ▸ hk
  unfold famV at fin
  have j2:∀b:Bool,(b=true↔(k=15∨k=16))→¬(k=12∨k=13)→J101_2 K Kp k b h:=by
    intro b hb hn
    refine J101_2.of (If_i (fun c=>fin _ ?_) fun c => ?_)
    · rw [if_neg hn,if_pos (hb.1 c)]
    have hn2:¬(k=15∨k=16):=fun q=>by rw [hb.2 q] at c;cases c
    refine If_i (fun c1=>fin _ ?_) fun c1=>If_i (fun c2=>fin _ ?_) fun c2=>If_i (fun c3=>fin _ ?_) fun c3=>If_i (fun c4=>fin _ ?_) fun c4=>fin _ ?_
    all_goals simp only [sm,reduceCtorEq] at *
    all_goals rw [if_neg hn,if_neg hn2]
    · rw [if_pos c1]
    · rw [if_neg c1,if_pos c2]
    · rw [if_neg c1,if_neg c2,if_pos c3]
    · rw [if_neg c1,if_neg c2,if_neg c3,if_pos c4]
    · rw [if_neg c1,if_neg c2,if_neg c3,if_neg c4]
  have j1:∀b:Bool,(b=true↔(k=12∨k=13))→J101_1 K Kp k b h:=by
    intro b hb
    refine J101_1.of (If_i (fun c=>fin _ ?_) fun c => ?_)
    · rw [if_pos (hb.1 c)]
    have hn:¬(k=12∨k=13):=fun q=>by rw [hb.2 q] at c;cases c
    refine If_i (fun c1=>j2 _ ?_ hn) fun c1=>j2 _ ?_ hn
    all_goals simp only [sm,reduceCtorEq] at *
    all_goals omega
  refine Fn101.of (If_i (fun c=>j1 _ ?_) fun c=>j1 _ ?_)
  all_goals simp only [sm,reduceCtorEq] at *
  all_goals omega
abbrev arow (f:Fld) (s:Sl) (d:Dat) (q:Sl × Sl × Sl) (o n:Int):Array Value:=#[.string f.name, .bool f.nul, .int .i64 f.k, .int .i64 f.w, .int .i64 f.id, .int .i64 f.ix,Sl.v s, .int .i64 d.len, .int .i64 d.off, .int .i64 d.nul,Sl.v q.1,Sl.v q.2.1,Sl.v q.2.2, .int .i64 o, .int .i64 n, .pointer none,famV f.k]
/-- an array looked into: rows from o on, n of them -/
structure ArA (D:Nat→Prop) (h:Hp) (b:Nat) (f:Fld) (d:Dat) (o n:Int) (s:Sl) (q:Sl × Sl × Sl):Prop where
  k:Blk h b (arow f s d q o n) Y109
  fs:FsA D h s f.cs
  dv:DvA D D h q d
section
variable {D D' S:Nat→Prop} {h h':Hp} {b:Nat} {f:Fld} {d:Dat} {o n:Int} {s:Sl} {q:Sl × Sl × Sl}
theorem ArA.fr (A:ArA D h b f d o n s q) (t:Tn S h h') (hb:¬S b) (hn:∀x,D x→¬S x) (hD:∀x,D x→D' x):ArA D' h' b f d o n s q :=
  ⟨t.blk A.k hb,FsA.fr t hn hD _ A.fs,A.dv.fr t (fun x hx _=>hn x hx) (fun x hx _=>hn x hx) hD hD⟩
theorem ArA.gr (A:ArA D h b f d o n s q) (g:Grw h h'):ArA D h' b f d o n s q:=A.fr (S:=No) (Tn.of_grw g) (fun x=>x) (fun _ _ x=>x) fun _ x=>x
theorem ArA.lt (A:ArA D h b f d o n s q):ArA (fun x=>D x∧x < h.size) h b f d o n s q:=⟨A.k,FsA.lt _ A.fs,A.dv.lt⟩
theorem ArA.cf (A:ArA D h b f d o n s q):Cs h ⟨b,0,none⟩ (f.row s):=by
  intro i v hv
  rw [add_blk,cell_blk A.k]
  rcases i with _ | _ | _ | _ | _ | _ | _ | i
  all_goals first | exact hv | (simp [Fld.row,vals7] at hv)
theorem ArA.cd (A:ArA D h b f d o n s q):Cs h ⟨b,7,none⟩ (d.row q):=by
  intro i v hv
  rw [add_blk,cell_blk A.k]
  rcases i with _ | _ | _ | _ | _ | _ | i
  all_goals first | exact hv | (simp [Dat.row,vals6] at hv)
theorem FrA.get:∀{a:Addr} {fs:List Fld} {i:Nat},FrA D h a i fs→∀(j:Nat) f,fs[j]? = some f→FldA D h (a.add ((i+j)*7)) f
  | _,[],_,_,_,_,hj=>by simp at hj
  | _,f::fs,i,hh,0,g,hj=>by simp at hj;subst hj;unfold FrA at hh;exact hh.1
  | _,f::fs,i,hh,j+1,g,hj=>by
    unfold FrA at hh
    have:=FrA.get hh.2 j g (by simpa using hj)
    have e:i+(j+1)=i+1+j:=by omega
    rw [e];exact this
theorem FldA.row {a:Addr} {f:Fld} (hf:FldA D h a f):∃u,Cs h a (f.row u)∧FsA D h u f.cs:=by cases f;unfold FldA at hf;exact hf
theorem FsA.ix {s:Sl} {fs:List Fld} (hs:FsA D h s fs) {x:Int} {i:Nat} (hx:x=(i:Int)) {g:Fld} (hj:fs[i]? = some g) {K:Addr→Prop} (hk:∀a u,Cs h a (g.row u)→FsA D h u g.cs→K a):Ix s.a s.n 7 x K:=by
  have hn:=hs.n
  have hi:i < fs.length:=(List.getElem?_eq_some_iff.1 hj).1
  cases fs with
  | nil=>simp at hj
  | cons f fs =>
    unfold FsA at hs
    obtain ⟨_,_,a,ha,_,h1,h2⟩:=hs
    have:FldA D h (a.add (i*7)) g:=by
      cases i with
      | zero=>simp at hj;subst hj;rw [Nat.zero_mul,add_zero'];exact h1
      | succ j =>
        have:=h2.get j g (by simpa using hj)
        have e:1+j=j+1:=by omega
        rw [e] at this;exact this
    obtain ⟨u,c,v⟩:=this.row
    subst hx
    rw [ha]
    exact ⟨by omega,by omega,by rw [Int.toNat_natCast];exact hk _ _ c v⟩
theorem partfA_c {nm:ByteArray} {nul:Bool} {k w id ix:Int} {cs:List Fld} {j:Nat} {K:KF} {Kp:PK} (hs:FsA D h s cs) (hf:(pfs k cs)[j]? = some f) (h20:k=20→cs.length=1)
    (hk:∀t h',Grw h h'→FsA D h' t f.cs→K f.name f.nul f.k f.w f.id f.ix t h') {x:Int} (hx:x=j):Fn110 nm nul k w id ix s x h K Kp:=by
  subst hx
  refine Fn110.of (New_i fun b2 h1 e2 g1 k2 _=>New_i fun b4 h2 e4 g2 k4 _ => ?_)
  have G:=Grw.trans g1 g2
  have k2:=k2.grw g2
  have hb4:h.size≤b4:=by have:=g1.1;omega
  simp only [add_blk]
  have out:∀{a:Addr} {g:Fld} {u:Sl},Cs h a (g.row u)→FsA D h u g.cs→g=f→LY29 h2 a fun t0 t1 t2 t3 t4 t5 t6=>SY29 h2 ⟨b4,0,none⟩ t0 t1 t2 t3 t4 t5 t6 fun h3=>LY29 h3 ⟨b4,0,none⟩ fun r0 r1 r2 r3 r4 r5 r6=>K r0 r1 r2 r3 r4 r5 r6 h3:=by
    rintro a g u c hu rfl
    refine LY29.c (c.grw G) (SY29.b k4 rfl fun h3 o3 k4=>LY29.b k4 (hk _ _ (Only.grw G o3 hb4) (hu.gr (Only.grw G o3 hb4))))
  have j1:∀i,cs[i]? = some f→(if k=20 then i=0 else i=j)→J110_1 K Kp (j:Int) ⟨b2,0,none⟩ ⟨b4,0,none⟩ h2:=by
    intro i hi hij
    refine J110_1.of ?_
    simp only [add_blk]
    have hat:∀{x:Int},x=i→Ix s.a s.n 7 x fun a=>LY29 h2 a fun t0 t1 t2 t3 t4 t5 t6=>SY29 h2 ⟨b4,0,none⟩ t0 t1 t2 t3 t4 t5 t6 fun h3=>LY29 h3 ⟨b4,0,none⟩ fun r0 r1 r2 r3 r4 r5 r6=>K r0 r1 r2 r3 r4 r5 r6 h3:=fun hx =>
      hs.ix hx hi fun a u c hu=>out c hu rfl
    refine Ld_blk k2 rfl (If_i (fun c=>Ld_blk k2 rfl (hat ?_)) fun c=>Ld_blk k2 rfl (hat ?_))
    · simp only [sm,reduceCtorEq] at c;rw [if_pos c] at hij;omega
    · simp only [sm,reduceCtorEq] at c;rw [if_neg c] at hij;omega
  unfold pfs at hf
  refine Ld_blk k2 rfl (If_i (fun c=>If_i (fun c2 => ?_) fun c2 => ?_) fun c => ?_)
  · simp only [sm,reduceCtorEq] at c c2
    obtain rfl:j=0:=by omega
    rw [if_pos c] at hf
    simp only [List.getElem?_cons_zero,Option.some.injEq] at hf
    subst hf
    refine SY29.b k4 rfl fun h3 o3 k4=>LY29.b k4 (hk _ _ (Only.grw G o3 hb4) ?_)
    show FsA D _ _ []
    unfold FsA;exact ⟨rfl,Nat.le_refl _⟩
  · simp only [sm,reduceCtorEq] at c c2
    rw [if_pos c] at hf
    obtain ⟨i,rfl⟩:∃i,j=i+1:=⟨j - 1,by omega⟩
    rw [List.getElem?_cons_succ] at hf
    have:=(List.getElem?_eq_some_iff.1 hf).1
    have:=h20 c
    obtain rfl:i=0:=by omega
    exact j1 0 hf (by rw [if_pos c])
  · simp only [sm,reduceCtorEq] at c
    rw [if_neg c] at hf
    exact j1 j hf (by rw [if_neg c])
theorem opened_c {K:Option Addr→HP} {Kp:PK} (hs:FsA D h s f.cs) (v:DvA D D h q d) (hk:∀b' h',Grw h h'→h.size≤b'→ArA D h' b' f d d.off d.len s q→K (some ⟨b',0,none⟩) h') :
    Fn50 f.name f.nul f.k f.w f.id f.ix s d.len d.off d.nul q.1 q.2.1 q.2.2 none h K Kp:=by
  refine Fn50.of (New_i fun b3 h1 e1 g1 k3 _=>New_i fun b4 h2 e2 g2 k4 _ => ?_)
  simp only [add_blk]
  have G:=Grw.trans g1 g2
  have k3:=k3.grw g2
  refine LY29.b k3 (LY33.b k4 (Ld_blk k4 rfl (Ld_blk k4 rfl (Ld_blk k3 rfl (family_c (Keep_rfl (Keep_rfl (Keep_rfl (Keep_rfl ?_)))))))))
  have na:∀{X:Prop},X→NA (famV f.k) X:=fun {X} hX=>by unfold famV;(repeat' split) <;> exact ⟨rfl,hX⟩
  exact na (New_i fun b5 h3 e3 g3 k5 _=>hk _ _ (Grw.trans G g3) (by have:=G.1;omega) ⟨k5,hs.gr (Grw.trans G g3),v.gr (Grw.trans G g3)⟩)
theorem part_c {g:Fld} {c:Dat} {j:Nat} {x:Int} {K:Option Addr→HP} {Kp:PK} (A:ArA D h b f d o n s q) (h20:f.k=20→f.cs.length=1) (hx:x=j) (hg:(pfs f.k f.cs)[j]? = some g) (hc:(partsD d)[j]? = some c)
    (hk:∀b' s' q' h',Grw h h'→h.size≤b'→ArA D h' b' g c c.off c.len s' q'→K (some ⟨b',0,none⟩) h'):Fn66 (some ⟨b,0,none⟩) x h K Kp:=by
  refine Fn66.of ?_
  simp only [NN_some,add_blk]
  refine LY29.c A.cf (LY33.c A.cd (Ld_blk A.k rfl (partfA_c A.fs hg h20 (fun u h1 g1 fu=>Keep_blk A.k g1 (Keep_blk A.k g1 (parts_k (A.dv.gr g1) fun u2 h2 g2 ds=>Keep_blk (A.k.grw g1) g2 (ds.ix hx hc fun a qc cc vc=>LY33.c cc (opened_c (fu.gr g2) vc fun b' h' g' hb A'=>hk _ _ _ _ (Grw.trans (Grw.trans g1 g2) g') (by have:=g1.1;have:=g2.1;omega) A'))))) hx)))
end
section
variable {h:Hp} {f:Fld} {d:Dat} {s:Sl} {p:Sl × Sl × Sl}
theorem Check_c {K:Int→Sl→Int→HP} {Kp:PK} (ht:Tab h) (hu:UTab h) (hsm:f.sml) (hs:FsH h s f.cs) (v:DvH h p d) (hm:d.mac) (hk:∀e l m h',Grw h h'→(e=0↔FldOk f∧f.arr d)→K e l m h') :
    Fn49 f.name f.nul f.k f.w f.id f.ix s d.len d.off d.nul p.1 p.2.1 p.2.2 h K Kp:=by
  refine Fn49.of (New_i fun b2 h1 e1 g1 k2 _=>New_i fun b3 h2 e2 g2 k3 _=>New_i fun b4 h3 e3 g3 k4 _ => ?_)
  have G:=Grw.trans g1 (Grw.trans g2 g3)
  have k2:=(k2.grw g2).grw g3
  have k3:=k3.grw g3
  have hb4:h.size≤b4:=by have:=g1.1;have:=g2.1;omega
  have hcf:∀{K:Int→Sl→Int→HP},(∀e p n h',Grw h3 h'→(e=0↔FldOk f)→K e p n h')→Fn98 f.name f.nul f.k f.w f.id f.ix s h3 K Kp:=fun {K} hkk=>by
    obtain ⟨nm,nul,k,w,id,ix,cs⟩:=f
    exact cfield_c (ht.k.grw G) hsm (hs.gr G) hkk
  refine LY29.b k2 (hcf fun e l m h4 g4 he=>If_i (fun c => ?_) fun c=>LY29.b (k2.grw g4) (LY33.b (k3.grw g4) ?_))
  · simp only [sm,reduceCtorEq] at c
    exact fault_to (Grw.trans G g4) (k4.grw g4) rfl hb4 fun h' g'=>hk _ _ _ h' g' ⟨fun y=>absurd y (by decide),fun y=>absurd (he.2 y.1) c⟩
  · simp only [sm,reduceCtorEq] at c
    have G4:=Grw.trans G g4
    refine arrch f.dep f (Nat.le_refl _) (ht.grw G4) (hu.grw G4) hsm (hs.gr G4) (v.gr G4) hm fun e' l' m' t' h5 g5 _ he' _=>New_i fun b5 h6 e6 g6 k5 _=>SY37.b k5 rfl fun h7 o7 k5=>LY37.b k5 ?_
    have g45:=g4.1
    have g5s:=g5.1
    have k4l:=k4.lt
    have G5:=Grw.trans G4 g5
    have k4:=o7.blk (((k4.grw g4).grw g5).grw g6) (by omega)
    refine SY37.b k4 rfl fun h8 o8 k4=>LY37.b k4 (hk _ _ _ _ (Only.grw (Only.grw (Grw.trans G5 g6) o7 (by have:=G5.1;omega)) o8 hb4) ?_)
    rw [he']
    exact ⟨fun y=>⟨he.1 c,y⟩,fun y=>y.2⟩
theorem Open_c {D:Nat→Prop} {K:Option Addr→Int→Sl→Int→HP} {Kp:PK} (ht:Tab h) (hu:UTab h) (hsm:f.sml) (hs:FsH h s f.cs) (v0:DvA D D h p d) (hm:d.mac)
    (hk1:∀e l m h',Grw h h'→e≠0→¬(FldOk f∧f.arr d)→K none e l m h')
    (hk2:FldOk f→f.arr d→∀b s' q' h',Grw h h'→h.size≤b→ArA (fun x=>(D x∧x < h.size)∨h.size≤x) h' b f d d.off d.len s' q'→K (some ⟨b,0,none⟩) 0 Sl.nil 0 h') :
    Fn12 f.name f.nul f.k f.w f.id f.ix s d.len d.off d.nul p.1 p.2.1 p.2.2 h K Kp:=by
  have v:DvH h p d:=v0.mo (fun _ _=>trivial) fun _ _=>trivial
  refine Fn12.of (New_i fun b2 h1 e1 g1 k2 _=>New_i fun b3 h2 e2 g2 k3 _=>New_i fun b5 h3 e3 g3 k5 _ => ?_)
  have G:=Grw.trans g1 (Grw.trans g2 g3)
  have k2:=(k2.grw g2).grw g3
  have k3:=k3.grw g3
  have hb5:h.size≤b5:=by have:=g1.1;have:=g2.1;omega
  have k5l:=k5.lt
  refine LY29.b k2 (LY33.b k3 (Check_c (ht.grw G) (hu.grw G) hsm (hs.gr G) (v.gr G) hm fun e l m h4 g4 he=>New_i fun b6 h5 e6 g6 k6 _=>SY37.b k6 rfl fun h6 o6 k6=>Ld_blk k6 rfl (If_i (fun c => ?_) fun c => ?_)))
  all_goals have g4s:=g4.1
  all_goals have k5:=o6.blk ((k5.grw g4).grw g6) (by omega)
  all_goals have G6:=Only.grw (Grw.trans (Grw.trans G g4) g6) o6 (by have:=G.1;omega)
  all_goals simp only [sm,reduceCtorEq] at c
  · refine LY37.b k6 (SY37.b k5 rfl fun h7 o7 k5=>LY37.b k5 (hk1 _ _ _ _ (Only.grw G6 o7 hb5) c fun y=>c (he.2 y)))
  · obtain ⟨ok,ar⟩:=he.1 c
    have g36:Grw h3 h6:=Only.grw (Grw.trans g4 g6) o6 (by omega)
    have g36':=g36
    have k2:=k2.grw g36
    have k3:=k3.grw g36
    have ln:=ok.lns.cs
    refine J12_1.of (LY29.b k2 (LY33.b k3 (fcop f.cs (hs.gr G6) ln.1 ln.2 fun t h7 g7 ft=>Keep_blk k3 g7 ?_)))
    have v7:=v0.lt.gr (Grw.trans G6 g7)
    have hs7:=(Grw.trans G6 g7).1
    have h56:b5 < h6.size:=by have:=g36'.1;omega
    have g7s:=g7.1
    refine copied_c d v7 (n0:=h.size) (fun b hb=>hb.2) hs7 (arr_sml f.dep f d (Nat.le_refl _) ar) fun p' h8 g8 v8 => ?_
    have G6s':=G6.1
    refine opened_c (D:=fun x=>x≠b5∧((D x∧x < h.size)∨h.size≤x)) ((FsA.fr (S:=No) (Tn.refl _ _) (fun _ _=>id) (fun x (hx:h6.size≤x)=>⟨by omega, .inr (by omega)⟩) _ ft).gr g8) (v8.mo (fun x (hx:h7.size≤x)=>⟨by omega, .inr (by omega)⟩) fun x hx=>⟨by have:=hx.2;omega, .inl hx⟩) fun b' h9 g9 hb A => ?_
    have g69:=Grw.trans (Grw.trans g7 g8) g9
    have G6s:=G6.1
    have g8s:=g8.1
    exact SY37.b (k5.grw g69) rfl fun h10 o10 k5=>LY37.b k5 (hk2 ok ar _ _ _ _ (Only.grw (Grw.trans G6 g69) o10 hb5) (by omega) (A.fr o10.fr (fun e=>by omega) (fun x hx e=>hx.1 e) fun _ hx=>hx.2))
end
end Go.Proofs.YtlbbdbdjiekkaaaGreatDoor
set_option maxRecDepth 100000
set_option maxHeartbeats 1000000
/- Views into bytes. -/
namespace Go.Proofs.YtlbbdbdjiekkaaaGreatDoor
open Go Go.Sh Go.WideShapes
section
variable {D:Nat→Prop} {h:Hp} {u:Sl} {l:List UInt8} {Kp:PK}
theorem SvA.gr {h':Hp} {vs:List Value} (v:SvA D h u vs) (g:Grw h h'):SvA D h' u vs:=v.fr (S:=No) (Tn.of_grw g) (fun _ _ _=>id) fun _ q=>q
theorem of_c {K:Sl→Int→Option Addr→HP} (v:SvA D h u (bv l)) (hk:∀t h',Grw h h'→SvA D h' t (bv l)→K t 0 none h'):Fn136 u h K Kp:=by
  have tn:=v.1.1
  rw [bv_len] at tn
  refine Fn136.of (New_i fun b2 h1 e1 g1 k2 _=>Sv_slc (v.1.grw g1) (a:=0) (b:=u.n) (m:=u.n) rfl rfl rfl (Nat.zero_le _) (by rw [bv_len];omega) (Nat.le_refl _) v.1.2.1 fun t _ _ ha vt=>SY167.b k2 rfl fun h2 o2 k2=>LY167.b k2 (hk _ _ (Only.grw g1 o2 (by omega)) ?_))
  rw [bv_cut,List.drop_zero,List.take_of_length_le (by omega)] at vt
  have w:SvA (fun x=>x < h.size∧D x) h1 t (bv l):=⟨vt,fun hv a hat=>by
    obtain ⟨y,hy,e⟩:=ha a hat
    have:=v.lt.2 hv y hy
    rw [e];exact ⟨this.2,this.1⟩⟩
  exact w.fr o2.fr (fun x hx _ e=>by have:=hx.1;omega) fun x hx=>hx.2
theorem watched_c {o:Int} {w w0:Option Addr} {K:Sl→Int→Option Addr→HP} (v:SvA D h u (bv l)) (hk:∀h',Grw h h'→SvA D h' u (bv l)→K u o w h'):Fn137 u o w0 w h K Kp:=by
  have vl:=v.lt
  refine Fn137.of (New_i fun b2 h1 e1 g1 k2 _=>New_i fun b4 h2 e2 g2 k4 _ => ?_)
  have k2l:=k2.lt
  simp only [add_blk]
  have G:=Grw.trans g1 g2
  refine St_i (k2.grw g2) (by simp) rfl fun h3 o3 k2=>LY167.b k2 (SY167.b (o3.blk k4 (by omega)) rfl fun h4 o4 k4=>LY167.b k4 (hk _ (Only.grw (Only.grw G o3 (by omega)) o4 (by have:=g1.1;omega)) ?_))
  exact v.gr (Only.grw (Only.grw G o3 (by omega)) o4 (by have:=g1.1;omega))
theorem there_c {o x n:Int} {w:Option Addr} {K:Bool→HP} (hl:u.n≤2 ^ 40) (h1:0≤x) (h2:0≤n) (h3:x+n≤u.n) (hk:∀h',Grw h h'→K true h'):Fn139 u o w x n h K Kp:=by
  refine Fn139.of (New_i fun b3 h1' e1 g1 k3 _=>If_t (by simpa using h1) (J139_1.of (by
    have e2:decide (n≥0)=true:=by simpa using h2
    rw [e2]
    refine If_t rfl (Ld_blk k3 rfl ?_)
    have e3:decide (x≤(u.n:Int))=true:=by rw [decide_eq_true_eq];omega
    rw [e3]
    refine J139_2.of (If_t rfl (Ld_blk k3 rfl (Wr_i64 (by omega) (by omega) ?_)))
    have e4:decide (n≤(u.n:Int) - x)=true:=by rw [decide_eq_true_eq];omega
    rw [e4];exact hk _ g1)))
theorem read_c {o x n:Int} {a m:Nat} {K:Sl→HP} (v:Sv h u (bv l)) (hl:l.length≤2 ^ 40) (hx:x=a) (hn:n=m) (h3:a+m≤l.length) (hk:∀t h',Grw h h'→Sv h' t (bv ((l.drop a).take m))→K t h'):Fn140 u o none x n h K Kp:=by
  subst hx hn
  have un:=v.1
  rw [bv_len] at un
  refine Fn140.of (New_i fun b3 h1 e1 g1 k3 _ => ?_)
  simp only [add_blk]
  refine Ld_blk k3 rfl (If_f rfl (J140_1.of (If_f rfl ?_)))
  refine Ld_blk k3 rfl (Wr_i64 (by omega) (by omega) (Wr_i64 (by omega) (by omega) ?_))
  refine Sv_slc (v.grw g1) (a:=a) (b:=a+m) (m:=a+m) (by simp) (by simp) (by simp) (by omega) (by rw [bv_len];omega) (Nat.le_refl _) (by have:=v.2.1;omega) fun t _ _ _ vt=>hk _ _ g1 ?_
  rw [bv_cut,show a+m - a=m by omega] at vt
  exact vt
theorem byte_c {o x:Int} {i:Nat} {b:UInt8} {K:Int→Int→HP} (v:Sv h u (bv l)) (hl:l.length≤2 ^ 40) (hx:x=i) (hb:l[i]? = some b) (hk:∀h',Grw h h'→K b.toNat 0 h'):Fn115 u o none x h K Kp:=by
  have hi:=(List.getElem?_eq_some_iff.1 hb).1
  have un:=v.1
  rw [bv_len] at un
  refine Fn115.of (New_i fun b3 h1 e1 g1 k3 _=>LY167.b k3 (there_c (by omega) (by omega) (by omega) (by omega) fun h2 g2=>If_f rfl (LY167.b (k3.grw g2) (read_c (v.grw (Grw.trans g1 g2)) hl hx (m:=1) rfl (by omega) fun t h3 g3 vt => ?_))))
  refine Sv_byte vt (i:=0) rfl (b:=b) ?_ (hk _ (Grw.trans (Grw.trans g1 g2) g3))
  rw [List.getElem?_take_of_lt (by omega),List.getElem?_drop];exact hb
theorem wide_c {m:Nat} {K:Bool→HP} (hm:m=1∨m=2∨m=4∨m=8) (hk:K true h):Fn163 (m:Int) h K Kp:=by
  rcases hm with rfl | rfl | rfl | rfl
  · exact Fn163.of (If_t rfl (J163_1.of (If_t rfl (J163_2.of (If_t rfl hk)))))
  · exact Fn163.of (If_f rfl (J163_1.of (If_t rfl (J163_2.of (If_t rfl hk)))))
  · exact Fn163.of (If_f rfl (J163_1.of (If_f rfl (J163_2.of (If_t rfl hk)))))
  · exact Fn163.of (If_f rfl (J163_1.of (If_f rfl (J163_2.of (If_f rfl hk)))))
theorem num_c {K:Int→HP} (v:Sv h u (bv l)) (hl:l.length≤8) (hk:K (leN l) h):Fn164 u h K Kp:=by
  have un:=v.1
  rw [bv_len] at un
  refine Fn164.of ?_
  rw [un]
  refine L164_1.rule (fun x3 x8 h'=>h'=h∧∃i:Nat,x8=i∧i≤l.length∧x3=leN (l.take i)) (fun _ x8 _=>l.length - x8.toNat) ⟨rfl,0,rfl,by omega,by simp [leN]⟩ ?_
  rintro x3 x8 h1 ⟨rfl,i,rfl,hi,rfl⟩ N1 hN
  refine If_i (fun c => ?_) fun c => ?_
  · simp only [sm,reduceCtorEq] at c
    have hi':i < l.length:=by omega
    have hbi:l[i]? = some l[i]:=List.getElem?_eq_getElem hi'
    have htk:l.take (i+1)=l.take i++[l[i]]:=List.take_succ_eq_append_getElem hi'
    generalize l[i]=b at hbi htk
    have hb8:=b.toNat_lt
    have hlt:=leN_lt (l.take i)
    have tl:(l.take i).length=i:=by simp;omega
    rw [tl] at hlt
    rw [←un]
    refine Sv_byte v rfl hbi (Wr_u rfl (Nat.lt_of_lt_of_le hb8 (by decide)) ?_)
    rw [show (8:Int)*(i:Int)=((8*i:Nat):Int) by omega]
    have hp:b.toNat*2 ^ (8*i) < 2 ^ 64:=by
      have q1:b.toNat*2 ^ (8*i) < 2 ^ 8*2 ^ (8*i):=Nat.mul_lt_mul_of_pos_right hb8 (Nat.two_pow_pos _)
      rw [←Nat.pow_add] at q1
      exact Nat.lt_of_lt_of_le q1 (Nat.pow_le_pow_right (by decide) (by omega))
    refine Wr_i64 (by omega) (by omega) (sh_or (k:=8*i) ?_ hlt hp (Nat.lt_of_lt_of_le hlt (Nat.pow_le_pow_right (by decide) (by omega))) ?_)
    · have:IntKind.bits .u64=64:=rfl
      rw [this,Int.toNat_natCast];omega
    · rw [un]
      refine Wr_i64 (by omega) (by omega) (hN _ _ _ ⟨rfl,i+1,by simp,by omega,?_⟩ (by omega))
      rw [htk,leN_snoc,tl]
  · simp only [sm,reduceCtorEq] at c
    have:i=l.length:=by omega
    subst this
    rw [List.take_length];exact hk
theorem load_c {o x y:Int} {a m:Nat} {K:Int→Int→HP} (v:Sv h u (bv l)) (hl:l.length≤2 ^ 40) (hm:m=1∨m=2∨m=4∨m=8) (hx:x=a) (hy:y=m) (h3:a+m≤l.length) (hk:∀h',Grw h h'→K (nAt l a m) 0 h'):Fn138 u o none x y h K Kp:=by
  subst hy
  have un:=v.1
  rw [bv_len] at un
  refine Fn138.of (New_i fun b3 h1 e1 g1 k3 _=>wide_c hm (If_f rfl (LY167.b k3 (there_c (by omega) (by omega) (by omega) (by omega) fun h2 g2=>If_f rfl (LY167.b (k3.grw g2) (read_c (v.grw (Grw.trans g1 g2)) hl hx rfl h3 fun t h3' g3 vt=>num_c vt (by simp;omega) (hk _ (Grw.trans (Grw.trans g1 g2) g3))))))))
theorem sg_wrap {x m:Nat} (hm:m=1∨m=2∨m=4∨m=8) (hx:x < 2 ^ (8*m)):Int.fdiv (IntKind.i64.wrap (IntKind.u64.wrap ((x:Int)*2 ^ (64 - 8*m)))) (2 ^ (64 - 8*m))=sg m x:=by
  have ax:∀y:Int,Int.fdiv y (2 ^ (64 - 8*m))=y / 2 ^ (64 - 8*m):=fun y=>Int.fdiv_eq_ediv_of_nonneg _ (Int.le_of_lt (Int.pow_pos (by decide)))
  rw [ax]
  unfold sg
  rcases hm with rfl | rfl | rfl | rfl
  all_goals simp only [IntKind.wrap,IntKind.signed,IntKind.bits]
  all_goals simp at hx ⊢
  all_goals (repeat' split)
  all_goals omega
theorem sgv_c {o x y:Int} {a m:Nat} {K:Int→Int→HP} (v:Sv h u (bv l)) (hl:l.length≤2 ^ 40) (hm:m=1∨m=2∨m=4∨m=8) (hx:x=a) (hy:y=m) (h3:a+m≤l.length) (hk:∀h',Grw h h'→K (sg m (nAt l a m)) 0 h'):Fn113 u o none x y h K Kp:=by
  have hlt:=nAt_lt l a m
  refine Fn113.of (New_i fun b3 h1 e1 g1 k3 _=>LY167.b k3 (load_c (v.grw g1) hl hm hx hy h3 fun h2 g2=>If_f rfl ?_))
  subst hy
  have e1:(64:Int) - 8*(m:Int)=((64 - 8*m:Nat):Int):=by omega
  have e2:min (Int.toNat ((64 - 8*m:Nat):Int)) 64=64 - 8*m:=by rw [Int.toNat_natCast];omega
  refine Wr_i64 (by omega) (by omega) (Wr_i64 (by omega) (by omega) ?_)
  rw [e1]
  refine Nn_i (by omega) ?_
  unfold Wr
  refine Nn_i (by omega) ?_
  unfold Lt
  have e3:IntKind.bits .u64=64:=rfl
  have e4:IntKind.bits .i64=64:=rfl
  rw [e3,e4,e2,sg_wrap hm hlt]
  exact hk _ (Grw.trans g1 g2)
theorem text_v {o x n:Int} {a m:Nat} {K:ByteArray→Int→HP} (v:Sv h u (bv l)) (hl:l.length≤2 ^ 40) (hx:x=a) (hn:n=m) (h3:a+m≤l.length) (hk:∀h',Grw h h'→K (bs ((l.drop a).take m)) 0 h'):Fn189 u o none x n h K Kp:=by
  have un:=v.1
  rw [bv_len] at un
  refine Fn189.of (New_i fun b3 h1 e1 g1 k3 _=>LY167.b k3 (there_c (by omega) (by omega) (by omega) (by omega) fun h2 g2=>If_f rfl (LY167.b (k3.grw g2) (read_c (v.grw (Grw.trans g1 g2)) hl hx hn h3 fun t h3' g3 vt=>⟨(l.drop a).take m,?_,hk _ (Grw.trans (Grw.trans g1 g2) g3)⟩))))
  have:=vt.rd1 vt.na
  rw [Nat.mul_one] at this
  exact this
end
section
variable {D:Nat→Prop} {h:Hp} {b:Nat} {f:Fld} {d:Dat} {o n:Int} {s:Sl} {q:Sl × Sl × Sl} {Kp:PK}
theorem bytes_v {x:Int} {j:Nat} {K:Sl→Int→Option Addr→HP} (A:ArA D h b f d o n s q) (hx:x=j) (hj:j < d.bufs.length) (hk:∀u h',Grw h h'→SvA D h' u (bv (bufD d.bufs j))→K u 0 none h'):Fn112 (some ⟨b,0,none⟩) x h K Kp:=by
  refine Fn112.of (New_i fun b4 h1 e1 g1 k4 _ => ?_)
  simp only [NN_some,add_blk]
  have A1:=A.lt.gr g1
  refine Ld_blk A1.k rfl (A1.dv.b.ix hx hj fun a t ca vt=>⟨_,ca,Ld_blk A1.k rfl (of_c vt fun t2 h2 g2 v2=>Keep_blk A1.k g2 (watched_c v2 fun h3 g3 v3=>SY167.b ((k4.grw g2).grw g3) rfl fun h4 o4 k4=>LY167.b k4 (hk _ _ (Only.grw (Grw.trans g1 (Grw.trans g2 g3)) o4 (by omega)) (v3.fr o4.fr (fun x hx _ e=>by have:=hx.2;omega) fun x hx=>hx.1))))⟩)
/-- null by the validity, looked into -/
theorem nullAt_c {r:Int} {i:Nat} {K:Bool→HP} (A:ArA D h b f d o n s q) (hr:r=i) (h1:hasV f.k=true→1≤d.bufs.length) (hl:(bufD d.bufs 0).length≤2 ^ 40) (hi:(bufD d.bufs 0).length≠0→i / 8 < (bufD d.bufs 0).length) (h40:i≤2 ^ 40)
    (hk:∀h',Grw h h'→K (nullB f.k d.bufs i) h'):Fn68 (some ⟨b,0,none⟩) r h K Kp:=by
  subst hr
  refine Fn68.of ?_
  simp only [NN_some,add_blk]
  refine Ld_blk A.k rfl (If_i (fun c1 => ?_) fun c1=>Ld_blk A.k rfl (hasv_c ?_))
  · have:=hk _ (Grw.refl _);unfold nullB at this;rw [c1,Bool.true_or] at this;exact this
  refine If_i (fun c2 => ?_) fun c2 => ?_
  · rw [Bool.not_eq_true'] at c2
    have:=hk _ (Grw.refl _);unfold nullB at this;rw [c1,c2,Bool.false_and,Bool.false_or] at this;exact this
  rw [Bool.not_eq_false'] at c2
  have hb:=h1 c2
  refine Ld_blk A.k rfl (A.dv.b.ix rfl hb fun a t ca vt=>⟨_,ca,?_⟩)
  have tn:=vt.1.1
  rw [bv_len] at tn
  refine If_i (fun c3 => ?_) fun c3=>J68_1.of (bytes_v A (j:=0) rfl hb fun u h1 g1 v1 => ?_)
  · simp only [sm,reduceCtorEq] at c3
    have e:(bufD d.bufs 0).length=0:=by omega
    have:=hk _ (Grw.refl _);unfold nullB at this;rw [c1,c2,e] at this;exact this
  · simp only [sm,reduceCtorEq] at c3
    have hne:(bufD d.bufs 0).length≠0:=by omega
    have hlt:=hi hne
    have e1:Int.tdiv (i:Int) 8=((i / 8:Nat):Int):=rfl
    have e2:Int.tmod (i:Int) 8=((i % 8:Nat):Int):=rfl
    have hbi:(bufD d.bufs 0)[i / 8]? = some (bufD d.bufs 0)[i / 8]:=List.getElem?_eq_getElem hlt
    have hg:(bufD d.bufs 0).getD (i / 8) 0=(bufD d.bufs 0)[i / 8]:=by simp [hlt]
    have hnl:nullB f.k d.bufs i=!bitL (bufD d.bufs 0) i:=by
      unfold nullB;rw [c1,c2]
      have:((bufD d.bufs 0).length != 0)=true:=by rw [bne_iff_ne];exact hne
      rw [this];rfl
    rw [hnl] at hk
    unfold bitL at hk
    rw [hg] at hk
    generalize (bufD d.bufs 0)[i / 8]=y at hbi hk
    refine Dv_i (by decide) (Wr_i64 (by rw [e1];omega) (by rw [e1];omega) (byte_c v1.1 hl e1 hbi fun h2 g2=>Dv_i (by decide) ?_))
    unfold Lt
    rw [e2]
    refine Nn_i (by omega) ?_
    have e3:Int.fdiv (y.toNat:Int) (2 ^ (min (Int.toNat ((i % 8:Nat):Int)) (IntKind.bits .u8)))=((y.toNat / 2 ^ (i % 8):Nat):Int):=by
      have:min (Int.toNat ((i % 8:Nat):Int)) (IntKind.bits .u8)=i % 8:=by
        have:IntKind.bits .u8=8:=rfl
        rw [this,Int.toNat_natCast];omega
      rw [this,Int.fdiv_eq_ediv_of_nonneg _ (Int.le_of_lt (Int.pow_pos (by decide)))]
      norm_cast
    rw [e3]
    show K (bitsV .and .u8 ((y.toNat / 2 ^ (i % 8):Nat):Int) 1 == 0) h2
    rw [and1]
    have:((((y.toNat / 2 ^ (i % 8)) % 2:Nat):Int) == 0)=!(y.toNat / 2 ^ (i % 8) % 2 == 1):=by
      rw [Bool.eq_iff_iff];simp only [beq_iff_eq,Bool.not_eq_true',beq_eq_false_iff_ne,ne_eq];omega
    rw [this];exact hk _ (Grw.trans g1 g2)
theorem number_c {k r:Int} {i:Nat} {K:Int→HP} (A:ArA D h b f d o n s q) (hk3:3≤k∧k≤11) (hr:r=i) (hb:1 < d.bufs.length) (hl:(bufD d.bufs 1).length≤2 ^ 40) (hi:(i+1)*(widK k).toNat≤(bufD d.bufs 1).length) (hk:∀h',Grw h h'→K (numN k (bufD d.bufs 1) i) h'):Fn194 (some ⟨b,0,none⟩) k r h K Kp:=by
  subst hr
  have wk:(widK k).toNat=1∨(widK k).toNat=2∨(widK k).toNat=4∨(widK k).toNat=8:=by unfold widK;repeat' split <;> omega
  have wi:widK k=((widK k).toNat:Int):=by omega
  have e0:(i+1)*(widK k).toNat=i*(widK k).toNat+(widK k).toNat:=by rw [Nat.add_mul,Nat.one_mul]
  have e1:(i:Int)*widK k=((i*(widK k).toNat:Nat):Int):=by rw [wi];simp
  have lt:=nAt_lt (bufD d.bufs 1) (i*(widK k).toNat) (widK k).toNat
  have l64:nAt (bufD d.bufs 1) (i*(widK k).toNat) (widK k).toNat < 2 ^ 64:=Nat.lt_of_lt_of_le lt (Nat.pow_le_pow_right (by decide) (by omega))
  have uns:¬(3≤k∧k≤6)→Fn112 (some ⟨b,0,none⟩) 1 h (fun t0 t1 t2 h2=>Wr .i64 ((i:Int)*widK k) fun t36=>Fn138 t0 t1 t2 t36 (widK k) h2 (fun t38_0 t38_1 h3=>Wr .i64 t38_0 fun t42=>K t42 h3) Kp) Kp:=fun no =>
    bytes_v A (j:=1) rfl hb fun u h1 g1 v1=>Wr_i64 (by omega) (by omega) (load_c v1.1 hl wk e1 wi (by omega) fun h2 g2=>by
      have:=hk _ (Grw.trans g1 g2)
      unfold numN at this
      rw [if_neg no] at this
      unfold Wr
      have e:IntKind.i64.wrap (nAt (bufD d.bufs 1) (i*(widK k).toNat) (widK k).toNat:Int)=sg 8 (nAt (bufD d.bufs 1) (i*(widK k).toNat) (widK k).toNat):=by
        unfold sg
        rw [IntKind.wrap_i64]
        split <;> omega
      rw [e];exact this)
  refine Fn194.of (awidth_c (by omega) (If_t (by simpa using hk3.1) (If_i (fun c => ?_) fun c=>uns ?_)))
  · simp only [sm,reduceCtorEq] at c
    refine bytes_v A (j:=1) rfl hb fun u h1 g1 v1=>Wr_i64 (by omega) (by omega) (sgv_c v1.1 hl wk e1 wi (by omega) fun h2 g2 => ?_)
    have:=hk _ (Grw.trans g1 g2)
    unfold numN at this
    rw [if_pos ⟨hk3.1,c⟩] at this
    exact this
  · simp only [sm,reduceCtorEq] at c;omega
end
end Go.Proofs.YtlbbdbdjiekkaaaGreatDoor
set_option maxRecDepth 100000
set_option maxHeartbeats 1000000
/- What may be weighed; runs, offsets, items looked into. -/
namespace Go.Proofs.YtlbbdbdjiekkaaaGreatDoor
open Go Go.Sh Go.WideShapes
abbrev Lc (h:Hp) (bl:Nat) (L:Int):Prop:=Blk h bl #[.int .i64 L] Y6
theorem weigh_c {h:Hp} {bl:Nat} {L n:Int} {K:HP} {Kp:PK} (k:Lc h bl L) (h0:0≤n) (h1:n≤L) (h2:L≤2 ^ 40) (hk:∀h',Only bl h h'→Lc h' bl (L - n)→K h'):Fn162 (some ⟨bl,0,none⟩) n h K Kp:=by
  refine Fn162.of ?_
  simp only [NN_some]
  refine Ld_blk k rfl (Wr_i64 (by omega) (by omega) (St_i k (by simp) rfl fun h1 o1 k1=>Ld_blk k1 rfl (If_f ?_ (hk _ o1 k1))))
  rw [decide_eq_false_iff_not];omega
theorem UTab.fr {S:Nat→Prop} {h h':Hp} (t:UTab h) (f:Tn S h h') (h1:¬S 1) (h2:¬S 2):UTab h' :=
  ⟨fun i hi=>f.cell (t.f i hi) h1,fun i hi=>⟨f.cell (t.a i hi).1 h2,f.cell (t.a i hi).2 h2⟩⟩
abbrev KV:=Bool→Int→ByteArray→Sl→HP
/-- what is done with a value -/
def VK (h:Hp) (bl:Nat) (L:Int) (v:Val) (K:KV):Prop:=∀t h',Tn (·=bl) h h'→Lc h' bl (L - v.wgt)→VsA (Nw h) h' t v.items→K v.nul v.num (bs v.text) t h'
theorem VK.fin {h0 h:Hp} {bl b8:Nat} {L:Int} {v:Val} {K:KV} {cs:Array Value} {u:Sl} {el:TypeId} (hk:VK h0 bl L v K) (t:Tn (·=bl) h0 h) (kl:Lc h bl (L - v.wgt)) (k8:Blk h b8 cs el) (hs:cs.size=4) (h8:h0.size≤b8) (hbl:bl < h0.size) (w:VsA (fun c=>h0.size≤c∧c≠b8) h u v.items) :
    SY66 h ⟨b8,0,none⟩ v.nul v.num (bs v.text) u fun h'=>LY66 h' ⟨b8,0,none⟩ fun r0 r1 r2 r3=>K r0 r1 r2 r3 h' :=
  SY66.b k8 hs fun h' o' k8=>LY66.b k8 (hk _ _ (t.trans' o'.fr fun d hd hlt=>by omega) (o'.blk kl (by omega)) (VsA.fr o'.fr (fun x hx _ e=>hx.2 e) (fun x hx=>hx.1) _ w))
theorem arr_offs {f:Fld} {d:Dat} {i:Nat} (h:f.arr d) (hk:f.k=12∨f.k=13∨f.k=15) (lo:d.off.toNat≤i) (hi:i < d.off.toNat+d.len.toNat) :
    1 < d.bufs.length∧4*i+8≤(bufD d.bufs 1).length∧(bufD d.bufs 1).length≤65536∧0≤i32 (bufD d.bufs 1) i∧i32 (bufD d.bufs 1) i≤i32 (bufD d.bufs 1) (i+1)∧i32 (bufD d.bufs 1) (i+1)≤mostD f.k d:=by
  have o:=h.siz
  have ro:=(Fld.arr_eq.1 h).ro
  have nb:=o.nb
  have o0:=o.o0
  have l0:=o.l0
  have hb1:1 < d.bufs.length:=by unfold bufK at nb;(repeat' split at nb) <;> omega
  have n1:=o.need 1 hb1
  rw [needB,if_neg (by omega),if_neg (by omega),if_neg (by omega),if_pos hk] at n1
  have h1:=(ro.off hk).1 (i - d.off.toNat+1) (by omega)
  have h2:=(ro.off hk).1 (i - d.off.toNat) (by omega)
  have e1:offN d (i - d.off.toNat+1)=i32 (bufD d.bufs 1) (i+1):=by unfold offN;congr 1;omega
  have e2:offN d (i - d.off.toNat)=i32 (bufD d.bufs 1) i:=by unfold offN;congr 1;omega
  have q3:=h1.2.2 _ rfl
  rw [e1,e2] at q3
  rw [e1] at h1
  rw [e2] at h2
  have big:=o.big 1 hb1
  exact ⟨hb1,by omega,big,h2.1,q3,h1.2.1⟩
section
variable {D:Nat→Prop} {h:Hp} {b:Nat} {f:Fld} {d:Dat} {o n:Int} {s:Sl} {q:Sl × Sl × Sl} {Kp:PK}
theorem run_c {r:Int} {i:Nat} {K:Int→HP} (A:ArA D h b f d o n s q) (ar:f.arr d) (k20:f.k=20) (hr:r=i) (lo:d.off.toNat≤i) (hi:i < d.off.toNat+d.len.toNat) (hk:∀h',Grw h h'→K (runN (part d 0) i) h'):Fn67 (some ⟨b,0,none⟩) r h K Kp:=by
  subst hr
  have a:=Fld.arr_eq.1 ar
  have so:=ar.siz
  have o0:=so.o0
  have l0:=so.l0
  have pl:=so.parts
  have hE:=a.eo k20
  have hE':=hE
  obtain ⟨e,v',q0,q1,_,_,_⟩:=hE'
  have hcs:partsD d=d.cs:=by have:=so.nd;unfold partsD;rw [diK,if_neg (by omega)] at this;rw [if_neg (by omega)]
  have hf0:(pfs f.k f.cs)[0]? = some endsF:=by rw [pfs,if_pos k20];rfl
  have hc0:(partsD d)[0]? = some e:=by rw [hcs];exact q0
  have hp:part d 0=e:=part_of hc0
  rw [hp] at hk
  have ea:=ar.part hf0 hc0
  have ec:=arr_endC ea
  have pc:=arr_partC ea
  have eb:=ec.b
  have ee1:=ec.e1
  have ee2:=ec.e2
  have el:=pc.l
  have eoo:=pc.o
  obtain ⟨j,hj,hj1,hj2,hj3,_⟩:=run_lt q0 q1 hE (r:=i) (by omega)
  rw [hj3] at hk
  refine Fn67.of (part_c A ar.h20 (j:=0) rfl hf0 hc0 fun b' s' q' h1 g1 hb A' => ?_)
  simp only [NN_some,add_blk]
  refine Ld_blk A'.k rfl ?_
  refine L67_1.rule (fun _ x15 h'=>∃i':Nat,x15=i'∧i'≤j∧Grw h1 h') (fun _ x15 _=>j - x15.toNat) ⟨0,rfl,by omega,Grw.refl _⟩ ?_
  rintro x4 x15 h2 ⟨i',rfl,hi',g2⟩ N1 hN
  have A2:=A'.gr g2
  simp only [NN_some,add_blk]
  refine If_t (by rw [decide_eq_true_eq];omega) (Ld_blk A2.k rfl (Wr_i64 (by omega) (by omega) (Wr_i64 (by omega) (by omega) (bytes_v A2 (j:=1) rfl (by omega) fun u h3 g3 v3=>Keep_blk A2.k g3 (sgv_c v3.1 (by omega) (m:=4) (by omega) (a:=4*(e.off.toNat+i')) (by omega) rfl (by omega) fun h4 g4 => ?_)))))
  have een:sg 4 (nAt (bufD e.bufs 1) (4*(e.off.toNat+i')) 4)=endN e i':=rfl
  rw [een]
  refine If_i (fun c => ?_) fun c => ?_
  · simp only [sm,reduceCtorEq] at c
    obtain rfl:i'=j:=by
      rcases Nat.lt_or_ge i' j with q | q
      · have:=hj2 i' q;omega
      · omega
    exact hk _ (Grw.trans g1 (Grw.trans g2 (Grw.trans g3 g4)))
  · simp only [sm,reduceCtorEq] at c
    have:i'≠j:=by rintro rfl;omega
    exact Wr_i64 (by omega) (by omega) (hN _ _ _ ⟨i'+1,by simp,by omega,Grw.trans g2 (Grw.trans g3 g4)⟩ (by omega))
theorem between_c {r mst:Int} {i:Nat} {K:Int→Int→HP} (A:ArA D h b f d o n s q) (hr:r=i) (hb:1 < d.bufs.length) (h1:4*i+8≤(bufD d.bufs 1).length) (h2:(bufD d.bufs 1).length≤65536) (h3:0≤i32 (bufD d.bufs 1) i) (h4:i32 (bufD d.bufs 1) i≤i32 (bufD d.bufs 1) (i+1)) (h5:i32 (bufD d.bufs 1) (i+1)≤mst)
    (hk:∀h',Grw h h'→K (i32 (bufD d.bufs 1) i) (i32 (bufD d.bufs 1) (i+1)) h'):Fn141 (some ⟨b,0,none⟩) r mst h K Kp:=by
  subst hr
  refine Fn141.of (bytes_v A (j:=1) rfl hb fun u h1' g1 v1=>New_i fun b8 h2' e2 g2 k8 _=>SY167.b k8 rfl fun h3' o3 k8=>LY167.b k8 (Wr_i64 (by omega) (by omega) ?_))
  have g3:Grw h1' h3':=Only.grw g2 o3 (by omega)
  refine sgv_c (v1.1.grw g3) (by omega) (m:=4) (by omega) (a:=4*i) (by omega) rfl (by omega) fun h4' g4=>LY167.b (k8.grw g4) (Wr_i64 (by omega) (by omega) (Wr_i64 (by omega) (by omega) (sgv_c (v1.1.grw (Grw.trans g3 g4)) (by omega) (m:=4) (by omega) (a:=4*(i+1)) (by omega) rfl (by omega) fun h5' g5 => ?_)))
  have e1:sg 4 (nAt (bufD d.bufs 1) (4*i) 4)=i32 (bufD d.bufs 1) i:=rfl
  have e2:sg 4 (nAt (bufD d.bufs 1) (4*(i+1)) 4)=i32 (bufD d.bufs 1) (i+1):=rfl
  rw [e1,e2]
  refine If_f (by rw [decide_eq_false_iff_not];omega) ?_
  have e3:decide (i32 (bufD d.bufs 1) (i+1) < i32 (bufD d.bufs 1) i)=false:=by rw [decide_eq_false_iff_not];omega
  rw [e3]
  exact J141_1.of (If_f rfl (If_f (by rw [decide_eq_false_iff_not];omega) (hk _ (Grw.trans g1 (Grw.trans g3 (Grw.trans g4 g5))))))
/-- the items of a row -/
def itA (f:Fld) (d:Dat) (i:Nat):Nat:=if f.k=16 then i*f.w.toNat else offR d i
def itN (f:Fld) (d:Dat) (i:Nat):Nat:=if f.k=16 then f.w.toNat else offR d (i+1) - offR d i
theorem span_le {f:Fld} {d:Dat} {i:Nat} (ar:f.arr d) (k16:f.k=16) {c:Dat} (hc:(partsD d)[0]? = some c) (hi:i < d.off.toNat+d.len.toNat):i*f.w.toNat+f.w.toNat≤c.len.toNat∧1≤f.w∧f.w≤64:=by
  have so:=ar.siz
  have o0:=so.o0
  have l0:=so.l0
  have sh:=so.ty.kinds.1
  unfold Shaped at sh
  have hcs:partsD d=d.cs:=by have:=so.nd;unfold partsD;rw [diK,if_neg (by omega)] at this;rw [if_neg (by omega)]
  rw [hcs] at hc
  have hch:=(so.ch 0 c hc).1 k16
  have hw:(f.w.toNat:Int)=f.w∧f.w≤64:=by omega
  have h1:(i+1)*f.w.toNat≤(d.off+d.len).toNat*f.w.toNat:=Nat.mul_le_mul_right _ (by omega)
  have h2:(((d.off+d.len).toNat*f.w.toNat:Nat):Int)=(d.off+d.len)*f.w:=by rw [Int.natCast_mul,hw.1,Int.toNat_of_nonneg (by omega)]
  have h3:(i+1)*f.w.toNat=i*f.w.toNat+f.w.toNat:=by rw [Nat.add_mul,Nat.one_mul]
  omega
theorem items_c {r:Int} {i:Nat} {c:Dat} {K:Int→Int→HP} (A:ArA D h b f d o n s q) (ar:f.arr d) (kk:f.k=15∨f.k=16) (hr:r=i) (lo:d.off.toNat≤i) (hi:i < d.off.toNat+d.len.toNat) (hc:(partsD d)[0]? = some c)
    (hk:∀x y h',Grw h h'→x=(itA f d i:Int)→y=((itA f d i+itN f d i:Nat):Int)→itA f d i+itN f d i≤c.len.toNat→K x y h'):Fn116 (some ⟨b,0,none⟩) r h K Kp:=by
  subst hr
  have cp:=(fun (so:SizOk f.nul f.k f.w f.id f.ix f.cs d)=>so.parts) ar.siz
  have so:=ar.siz
  have hcs:partsD d=d.cs:=by have:=so.nd;unfold partsD;rw [diK,if_neg (by omega)] at this;rw [if_neg (by omega)]
  have l1:=so.l1
  have o1:=so.o1
  have o0:=so.o0
  have l0:=so.l0
  unfold itA itN at hk
  refine Fn116.of ?_
  simp only [NN_some,add_blk]
  refine Ld_blk A.k rfl (If_i (fun c1=>Ld_blk A.k rfl ?_) fun c1=>J116_1.of ?_)
  · simp only [sm,reduceCtorEq] at c1
    rw [if_pos c1,if_pos c1] at hk
    obtain ⟨q1,q2,q3⟩:=span_le ar c1 hc hi
    have hw:(f.w.toNat:Int)=f.w:=by omega
    have e1:(i:Int)*f.w=((i*f.w.toNat:Nat):Int):=by rw [Int.natCast_mul,hw]
    have e2:((i:Int)+1)*f.w=((i*f.w.toNat+f.w.toNat:Nat):Int):=by rw [Int.add_mul,e1];omega
    have q4:i*f.w.toNat≤8192*64:=Nat.mul_le_mul (by omega) (by omega)
    exact Wr_i64 (by omega) (by omega) (Wr_i64 (by omega) (by omega) (Ld_blk A.k rfl (Wr_i64 (by omega) (by omega) (hk _ _ _ (Grw.refl _) e1 e2 q1))))
  · simp only [sm,reduceCtorEq] at c1
    rw [if_neg c1,if_neg c1] at hk
    have k15:f.k=15:=by omega
    simp only [NN_some,add_blk]
    rw [hcs] at hc
    obtain ⟨hb1,z1,z2,z3,z4,z5⟩:=arr_offs ar (by omega) lo hi
    have hm:mostD f.k d=c.len:=by
      rw [mostD,if_pos k15]
      cases hcs':d.cs with
      | nil=>rw [hcs'] at hc;simp at hc
      | cons x xs=>rw [hcs'] at hc;simp at hc;rw [hc]
    rw [hm] at z5
    refine Ld_blk A.k rfl (A.dv.c.ix rfl hc fun a q' ca _=>⟨_,add_0 a ▸ ca 0 _ rfl,between_c A rfl hb1 z1 z2 z3 z4 z5 fun h1 g1=>hk _ _ _ g1 ?_ ?_ ?_⟩)
    all_goals unfold offR
    all_goals omega
end
end Go.Proofs.YtlbbdbdjiekkaaaGreatDoor
set_option maxRecDepth 100000
set_option maxHeartbeats 1000000
/- Values read: those without items. -/
namespace Go.Proofs.YtlbbdbdjiekkaaaGreatDoor
open Go Go.Sh Go.WideShapes
/-- what is known where a row is read -/
structure Vc (D:Nat→Prop) (h:Hp) (b bl:Nat) (f:Fld) (d:Dat) (o n:Int) (s:Sl) (q:Sl × Sl × Sl) (L:Int) (i:Nat):Prop where
  A:ArA D h b f d o n s q
  bn:b≠bl
  dn:¬D bl
  ar:f.arr d
  lo:d.off.toNat≤i
  hi:i < d.off.toNat+d.len.toNat
  kl:Lc h bl L
  wl:((f.val d i).wgt:Int)≤L
  lm:L≤2 ^ 40
  tb:UTab h
  b2:2 < bl
theorem val_eq' (f:Fld) (d:Dat) (i:Nat):f.val d i=valK f.k f.w f.ix ((pfs f.k f.cs).map Fld.val) d i:=by rw [Fld.val_eq]
theorem tx_bs (l:List UInt8):tx (bs l)=l:=rfl
section
variable {D:Nat→Prop} {h:Hp} {b bl i:Nat} {f:Fld} {d:Dat} {o n r L:Int} {s:Sl} {q:Sl × Sl × Sl} {K:KV} {Kp:PK}
theorem Vc.gr {h':Hp} (V:Vc D h b bl f d o n s q L i) (g:Grw h h'):Vc D h' b bl f d o n s q L i:=⟨V.A.gr g,V.bn,V.dn,V.ar,V.lo,V.hi,V.kl.grw g,V.wl,V.lm,V.tb.grw g,V.b2⟩
theorem Vc.bd (V:Vc D h b bl f d o n s q L i):0≤d.len∧d.len≤4096∧0≤d.off∧d.off≤4096∧i≤8192∧d.off+d.len≤4096∧0≤L:=by
  have so:=V.ar.siz
  have h1:=so.l0
  have h2:=so.l1
  have h3:=so.o0
  have h4:=so.o1
  have h5:=V.hi
  have h6:=so.e1
  have h7:=V.wl
  omega
theorem Vc.af {h':Hp} (V:Vc D h b bl f d o n s q L i) (t:Tn (·=bl) h h'):ArA D h' b f d o n s q:=V.A.fr t V.bn (fun x hx e=>V.dn (e ▸ hx)) fun _ x=>x
theorem Vc.tbf {h':Hp} (V:Vc D h b bl f d o n s q L i) (t:Tn (·=bl) h h'):UTab h':=V.tb.fr t (by have:=V.b2;omega) (by have:=V.b2;omega)
def ValC (m:Nat):Prop:=∀(f:Fld),f.dep≤m→∀{D:Nat→Prop} {h:Hp} {b bl i:Nat} {d:Dat} {o n r L:Int} {s:Sl} {q:Sl × Sl × Sl} {K:KV} {Kp:PK},Vc D h b bl f d o n s q L i→r=i→VK h bl L (f.val d i) K→Fn135 (some ⟨b,0,none⟩) r (some ⟨bl,0,none⟩) h K Kp
def OwnC (m:Nat):Prop:=∀(f:Fld),f.dep≤m→∀{D:Nat→Prop} {h:Hp} {b bl i:Nat} {d:Dat} {o n x L:Int} {s:Sl} {q:Sl × Sl × Sl} {K:KV} {Kp:PK},Vc D h b bl f d o n s q L i→o+x=i→VK h bl L (f.val d i) K→Fn109 (some ⟨b,0,none⟩) x (some ⟨bl,0,none⟩) h K Kp
theorem own_of {m:Nat} (IH:ValC m):OwnC m:=by
  intro f hd D h b bl i d o n x L s q K Kp V hx hk
  have bd:=V.bd
  have bll:=V.kl.lt
  refine Fn109.of (New_i fun b6 h1 e1 g1 k6 _ => ?_)
  simp only [NN_some,add_blk]
  have g1s:=g1.1
  refine Ld_blk (V.A.gr g1).k rfl (Wr_i64 (by omega) (by omega) (IH f hd (V.gr g1) hx fun t h2 t2 kl2 w2 => ?_))
  have k6l:=k6.lt
  exact hk.fin ((Tn.of_grw g1).trans t2) kl2 (t2.blk k6 (by omega)) rfl (by omega) bll (w2.mo fun c (hc:h1.size≤c)=>⟨by omega,by omega⟩)
theorem texts_c (V:Vc D h b bl f d o n s q L i) (hr:r=i) (kk:f.k=12∨f.k=13) (hnb:nullB f.k d.bufs i=false) (hk:VK h bl L (f.val d i) K):Fn188 (some ⟨b,0,none⟩) r (some ⟨bl,0,none⟩) h K Kp:=by
  subst hr
  have bd:=V.bd
  have V':=V
  obtain ⟨A,bn,dn,ar,lo,hi,kl,wl,lm,tb,b2⟩:=V'
  have ev:f.val d i=.mk false 0 (((bufD d.bufs 2).drop (offR d i)).take (offR d (i+1) - offR d i)) []:=by rw [val_eq',valK,if_neg (by rw [hnb];simp),if_pos kk]
  obtain ⟨hb1,z1,z2,z3,z4,z5⟩:=arr_offs ar (by omega) lo hi
  have hm:mostD f.k d=((bufD d.bufs 2).length:Int):=by rw [mostD,if_neg (by omega)]
  rw [hm] at z5
  have nb:=ar.siz.nb
  have hb3:d.bufs.length=3:=by rw [bufK,if_neg (by omega),if_pos kk] at nb;omega
  have big2:=ar.siz.big 2 (by omega)
  have z6:=i32_lt (bufD d.bufs 1) i
  have z7:=i32_lt (bufD d.bufs 1) (i+1)
  have o1:(offR d i:Int)=i32 (bufD d.bufs 1) i:=by unfold offR;omega
  have o2:(offR d (i+1):Int)=i32 (bufD d.bufs 1) (i+1):=by unfold offR;omega
  have hutf:f.k=12→utf (((bufD d.bufs 2).drop (offR d i)).take (offR d (i+1) - offR d i))=true:=by
    intro k12
    have:=((Fld.arr_eq.1 ar).ro.off (by omega)).2 k12 (i - d.off.toNat) (by omega) (by rw [show d.off.toNat+(i - d.off.toNat)=i by omega];exact hnb)
    have e1:offN d (i - d.off.toNat)=i32 (bufD d.bufs 1) i:=by unfold offN;congr 1;omega
    have e2:offN d (i - d.off.toNat+1)=i32 (bufD d.bufs 1) (i+1):=by unfold offN;congr 1;omega
    rw [e1,e2] at this
    exact this
  rw [ev] at hk wl
  have lt:(((bufD d.bufs 2).drop (offR d i)).take (offR d (i+1) - offR d i)).length=offR d (i+1) - offR d i:=by simp;omega
  simp only [Val.wgt,wsum,lt] at wl
  have wgt:((Val.mk false 0 (((bufD d.bufs 2).drop (offR d i)).take (offR d (i+1) - offR d i)) []).wgt:Int)=16+i32 (bufD d.bufs 1) (i+1) - i32 (bufD d.bufs 1) i:=by
    simp only [Val.wgt,wsum,lt];omega
  have bll:=kl.lt
  refine Fn188.of (New_i fun b4 h1 e1 g1 k4 _=>New_i fun b8 h2 e2 g2 k8 _ => ?_)
  simp only [NN_some,add_blk]
  have G:=Grw.trans g1 g2
  have g1s:=g1.1
  have k8l:=k8.lt
  refine Ld_blk (A.gr G).k rfl ((A.gr G).dv.b.ix rfl (j:=2) (by omega) fun a t ca vt=>⟨_,ca,?_⟩)
  have tn:=vt.1.1
  rw [bv_len] at tn
  refine between_c (A.gr G) rfl hb1 z1 z2 z3 z4 (by omega) fun h3 g3=>J188_1.of (Wr_i64 (by omega) (by omega) (Wr_i64 (by omega) (by omega) (weigh_c ((kl.grw G).grw g3) (by omega) (by omega) lm fun h4 o4 kl4 => ?_)))
  have G3:=Grw.trans G g3
  have T4:Tn (·=bl) h h4:=(Tn.of_grw G3).trans o4.fr
  refine bytes_v (V.af T4) (j:=2) rfl (by omega) fun u h5 g5 v5=>Wr_i64 (by omega) (by omega) (text_v v5.1 (by omega) (a:=offR d i) (m:=offR d (i+1) - offR d i) (by omega) (by omega) (by omega) fun h6 g6 => ?_)
  have T6:Tn (·=bl) h h6:=T4.trans (Tn.of_grw (Grw.trans g5 g6))
  simp only [NN_some,add_blk]
  have k86:Blk h6 b8 zY66 Y66:=((o4.blk (k8.grw g3) (by omega)).grw g5).grw g6
  have fin:∀h7,Grw h6 h7→SY66 h7 ⟨b8,0,none⟩ false 0 (bs (((bufD d.bufs 2).drop (offR d i)).take (offR d (i+1) - offR d i))) (⟨none,0,0⟩:Sl) fun h'=>LY66 h' ⟨b8,0,none⟩ fun r0 r1 r2 r3=>K r0 r1 r2 r3 h':=by
    intro h7 g7
    have kl7:Lc h7 bl (L - (16+i32 (bufD d.bufs 1) (i+1) - i32 (bufD d.bufs 1) i)):=(((kl4.grw g5).grw g6).grw g7)
    rw [←wgt] at kl7
    exact hk.fin (T6.trans (Tn.of_grw g7)) kl7 (k86.grw g7) rfl (by omega) bll (VsA.nil _)
  refine Ld_blk (V.af T6).k rfl (If_i (fun c=>valids_c (V.tbf T6) (tx_bs _) (by rw [lt];omega) fun h7 g7 => ?_) fun c=>fin _ (Grw.refl _))
  simp only [sm,reduceCtorEq] at c
  rw [hutf c]
  exact If_f rfl (fin h7 g7)
theorem flats_c (V:Vc D h b bl f d o n s q L i) (hr:r=i) (kk:f.k≠12∧f.k≠13∧f.k≠15∧f.k≠16∧f.k≠17∧f.k≠18∧f.k≠19∧f.k≠20) (hnb:nullB f.k d.bufs i=false) (hk:VK h bl L (f.val d i) K):Fn196 (some ⟨b,0,none⟩) r (some ⟨bl,0,none⟩) h K Kp:=by
  subst hr
  have bd:=V.bd
  have V':=V
  obtain ⟨A,bn,dn,ar,lo,hi,kl,wl,lm,tb,b2⟩:=V'
  have so:=ar.siz
  have sh:=so.ty.kinds.1
  unfold Shaped at sh
  have nb:=so.nb
  have hk1:f.k≠1:=by intro e;unfold nullB at hnb;rw [e] at hnb;simp at hnb
  have hb2:d.bufs.length=2:=by unfold bufK at nb;(repeat' split at nb) <;> omega
  have n1:=so.need 1 (by omega)
  rw [needB,if_neg (by omega),if_neg (by omega)] at n1
  have big1:=so.big 1 (by omega)
  have bll:=kl.lt
  have w16:16≤(f.val d i).wgt:=by
    rcases hv:f.val d i with ⟨a1,a2,a3,a4⟩
    simp only [Val.wgt];omega
  refine Fn196.of (New_i fun b4 h1 e1 g1 k4 _=>New_i fun b8 h2 e2 g2 k8 _ => ?_)
  simp only [NN_some,add_blk]
  have G:=Grw.trans g1 g2
  have g1s:=g1.1
  have k8l:=k8.lt
  have ct:Cs h2 ⟨b,2,none⟩ [.int .i64 f.k, .int .i64 f.w, .int .i64 f.id, .int .i64 f.ix,Sl.v s]:=by
    intro j v hv
    rw [add_blk,cell_blk (A.gr G).k]
    rcases j with _ | _ | _ | _ | _ | j
    all_goals first | exact hv | (simp at hv)
  refine LY27.c ct (New_i fun b9 h3 e3 g3 k9 _=>SY27.b k9 rfl fun h4 o4 k9 => ?_)
  have g4:Grw h2 h4:=Only.grw g3 o4 (by omega)
  have g4s:=g4.1
  have G4:=Grw.trans G g4
  have k9l:=k9.lt
  refine bytes_v (A.gr G4) (j:=1) rfl (by omega) fun u h5 g5 v5=>New_i fun b10 h6 e6 g6 k10 _=>SY167.b k10 rfl fun h7 o7 k10 => ?_
  have g5s:=g5.1
  have g7:Grw h5 h7:=Only.grw g6 o7 (by omega)
  have g7s:=g7.1
  have k10l:=k10.lt
  have G7:=Grw.trans G4 (Grw.trans g5 g7)
  refine weigh_c (kl.grw G7) (by omega) (by omega) lm fun h8 o8 kl8 => ?_
  have T8:Tn (·=bl) h h8:=(Tn.of_grw G7).trans o8.fr
  have k8':Blk h8 b8 zY66 Y66:=o8.blk (((k8.grw g4).grw g5).grw g7) (by omega)
  have k9':=o8.blk ((k9.grw g5).grw g7) (by omega:b9≠bl)
  have k10':=o8.blk k10 (by omega:b10≠bl)
  have v8:SvA D h8 u (bv (bufD d.bufs 1)):=(v5.gr g7).fr o8.fr (fun x hx _ e=>dn (e ▸ hx)) fun _ x=>x
  have fin:∀(x:Int) h9,f.val d i=.mk false x [] []→Grw h8 h9→SY66 h9 ⟨b8,0,none⟩ false x (bs []) (⟨none,0,0⟩:Sl) fun h'=>LY66 h' ⟨b8,0,none⟩ fun r0 r1 r2 r3=>K r0 r1 r2 r3 h':=by
    intro x h9 hv g9
    rw [hv] at hk
    exact hk.fin (T8.trans (Tn.of_grw g9)) (kl8.grw g9) (k8'.grw g9) rfl (by omega) bll (VsA.nil _)
  refine Ld_blk k9' rfl (If_i (fun c=>LY167.b k10' ?_) fun c=>If_i (fun c2=>Ld_blk k9' rfl ?_) fun c2=>Ld_blk k9' rfl ?_)
  · simp only [sm,reduceCtorEq] at c
    rw [if_pos (by omega)] at n1
    have e1:Int.tdiv (i:Int) 8=((i / 8:Nat):Int):=rfl
    have e2:Int.tmod (i:Int) 8=((i % 8:Nat):Int):=rfl
    have hlt:i / 8 < (bufD d.bufs 1).length:=by omega
    have hbi:(bufD d.bufs 1)[i / 8]? = some (bufD d.bufs 1)[i / 8]:=List.getElem?_eq_getElem hlt
    have hg:(bufD d.bufs 1).getD (i / 8) 0=(bufD d.bufs 1)[i / 8]:=by simp [hlt]
    have hv:f.val d i=.mk false (if bitL (bufD d.bufs 1) i then 1 else 0) [] []:=by
      rw [val_eq',valK,if_neg (by rw [hnb];simp),if_neg (by omega),if_neg (by omega),if_neg (by omega),if_neg (by omega),if_neg (by omega),if_neg (by omega),if_neg (by omega),if_pos c]
    unfold bitL at hv
    rw [hg] at hv
    generalize (bufD d.bufs 1)[i / 8]=y at hbi hv
    refine Dv_i (by decide) (Wr_i64 (by rw [e1];omega) (by rw [e1];omega) (byte_c v8.1 (by omega) e1 hbi fun h9 g9=>Dv_i (by decide) ?_))
    unfold Lt
    rw [e2]
    refine Nn_i (by omega) ?_
    have e3:Int.fdiv (y.toNat:Int) (2 ^ (min (Int.toNat ((i % 8:Nat):Int)) (IntKind.bits .u8)))=((y.toNat / 2 ^ (i % 8):Nat):Int):=by
      have:min (Int.toNat ((i % 8:Nat):Int)) (IntKind.bits .u8)=i % 8:=by
        have:IntKind.bits .u8=8:=rfl
        rw [this,Int.toNat_natCast];omega
      rw [this,Int.fdiv_eq_ediv_of_nonneg _ (Int.le_of_lt (Int.pow_pos (by decide)))]
      norm_cast
    rw [e3]
    dsimp only
    rw [and1]
    refine Wr_i64 (by omega) (by omega) (fin _ h9 ?_ g9)
    rw [hv]
    have hx:(if (y.toNat / 2 ^ (i % 8) % 2 == 1)=true then (1:Int) else 0)=((y.toNat / 2 ^ (i % 8) % 2:Nat):Int):=by
      split
      · rename_i e;simp only [beq_iff_eq] at e;omega
      · rename_i e;simp only [beq_iff_eq] at e;omega
    rw [hx]
  · simp only [sm,reduceCtorEq] at c c2
    have hv:f.val d i=.mk false 0 (((bufD d.bufs 1).drop (i*f.w.toNat)).take f.w.toNat) []:=by
      rw [val_eq',valK,if_neg (by rw [hnb];simp),if_neg (by omega),if_neg (by omega),if_neg (by omega),if_neg (by omega),if_neg (by omega),if_neg (by omega),if_neg (by omega),if_neg (by omega),if_pos c2]
    have hwd:wdK f.k f.w f.ix=f.w:=by rw [wdK,if_pos c2]
    rw [if_neg (by omega),if_neg (by omega),hwd] at n1
    have hw:1≤f.w∧f.w≤16:=by omega
    have hrw:(i+1)*f.w.toNat≤(d.off+d.len).toNat*f.w.toNat:=Nat.mul_le_mul_right _ (by omega)
    rw [Nat.add_mul,Nat.one_mul] at hrw
    have e1:(i:Int)*f.w=((i*f.w.toNat:Nat):Int):=by rw [Int.natCast_mul];congr 1;omega
    have ln:(((bufD d.bufs 1).drop (i*f.w.toNat)).take f.w.toNat).length=f.w.toNat:=by simp;omega
    have hwg:(f.val d i).wgt=16+f.w.toNat:=by rw [hv];simp only [Val.wgt,wsum,ln];omega
    refine weigh_c kl8 (by omega) (by omega) (by omega) fun h9 o9 kl9 => ?_
    have T9:Tn (·=bl) h h9:=T8.trans o9.fr
    have k8'':=o9.blk k8' (by omega:b8≠bl)
    have k9'':=o9.blk k9' (by omega:b9≠bl)
    have k10'':=o9.blk k10' (by omega:b10≠bl)
    have v9:SvA D h9 u (bv (bufD d.bufs 1)):=v8.fr o9.fr (fun x hx _ e=>dn (e ▸ hx)) fun _ x=>x
    refine LY167.b k10'' (Ld_blk k9'' rfl (Wr_i64 (by omega) (by omega) (Ld_blk k9'' rfl (text_v v9.1 (by omega) e1 (m:=f.w.toNat) (by omega) (by omega) fun h10 g10 => ?_))))
    have kl10:Lc h10 bl (L - ((f.val d i).wgt:Int)):=by
      have:=kl9.grw g10
      rwa [show L - 16 - f.w=L - ((f.val d i).wgt:Int) by omega] at this
    rw [hv] at hk kl10
    exact hk.fin (T9.trans (Tn.of_grw g10)) kl10 (k8''.grw g10) rfl (by omega) bll (VsA.nil _)
  · simp only [sm,reduceCtorEq] at c c2
    have hv:f.val d i=.mk false (numN f.k (bufD d.bufs 1) i) [] []:=by
      rw [val_eq',valK,if_neg (by rw [hnb];simp),if_neg (by omega),if_neg (by omega),if_neg (by omega),if_neg (by omega),if_neg (by omega),if_neg (by omega),if_neg (by omega),if_neg c,if_neg c2]
    have hwd:wdK f.k f.w f.ix=widK f.k:=by rw [wdK,if_neg (by omega),if_neg (by omega)]
    rw [if_neg (by omega),if_neg (by omega),hwd] at n1
    have hrw:(i+1)*(widK f.k).toNat≤(d.off+d.len).toNat*(widK f.k).toNat:=Nat.mul_le_mul_right _ (by omega)
    exact number_c (V.af T8) (by omega) rfl (by omega) (by omega) (by omega) fun h9 g9=>fin _ h9 hv g9
end
end Go.Proofs.YtlbbdbdjiekkaaaGreatDoor
set_option maxRecDepth 100000
set_option maxHeartbeats 1000000
/- Values read: lists of items. -/
namespace Go.Proofs.YtlbbdbdjiekkaaaGreatDoor
open Go Go.Sh Go.WideShapes
theorem Keep_b2 {h h1:Hp} {b o n:Nat} {cs:Array Value} {el:TypeId} {X:Prop} (k:Blk h b cs el) (k1:Blk h1 b cs el) (x:X):Keep h h1 ⟨b,o,none⟩ n X :=
  ⟨fun i _=>by rw [add_blk,cell_blk k1,cell_blk k],x⟩
/-- a value whose list grows -/
structure Ls (h6 h:Hp) (b9:Nat) (x:Sl) (vs:List Val):Prop where
  k9:Blk h b9 #[.bool false, .int .i64 0, .string (bs []),Sl.v x] Y66
  ss:∃ss:List Sl,ss.length=vs.length∧RowS h6.size 4 h x (List.zipWith Val.row vs ss) Y66∧∀(j:Nat) (v:Val) (t:Sl),vs[j]? = some v→ss[j]? = some t→VsA (fun c=>h6.size≤c∧¬x.at c) h t v.items
theorem Ls.fr {h6 h h1:Hp} {b9 bl:Nat} {x:Sl} {vs:List Val} (l:Ls h6 h b9 x vs) (t:Tn (·=bl) h h1) (hb1:bl < h6.size) (hb2:b9≠bl):Ls h6 h1 b9 x vs:=by
  obtain ⟨k9,ss,q1,q2,q3⟩:=l
  exact ⟨t.blk k9 hb2,ss,q1,q2.fr t fun b hb _ e=>by omega,fun j v u e1 e2=>(VsA.fr t (fun b hb _ e=>by have:=hb.1;omega) (fun _ q=>q) _ (q3 j v u e1 e2))⟩
theorem Ls.sv {h6 h:Hp} {b9:Nat} {x:Sl} {vs:List Val} {D:Nat→Prop} (l:Ls h6 h b9 x vs) (hD:∀b,h6.size≤b→D b):VsA D h x vs:=by
  obtain ⟨k9,ss,q1,q2,q3⟩:=l
  exact VsA.snoc q2 q1 hD fun j v t e1 e2=>(q3 j v t e1 e2).mo fun b hb=>hD b hb.1
theorem Ls.start {h6:Hp} {b9:Nat} (k:Blk h6 b9 zY66 Y66):Ls h6 h6 b9 Sl.nil []:=⟨k,[],rfl,RowS.nil _ _ _ _,by simp⟩
theorem Ls.at {h6 h:Hp} {b9:Nat} {x:Sl} {vs:List Val} (l:Ls h6 h b9 x vs) {c:Nat} (hc:x.at c):h6.size≤c∧c < h.size:=by
  obtain ⟨k9,ss,q1,q2,q3⟩:=l
  exact q2.at hc
theorem Ls.push {h6 h:Hp} {b9:Nat} {x t:Sl} {vs:List Val} {v:Val} {R:HP} (l:Ls h6 h b9 x vs) (hb9:b9 < h6.size) (hs:h6.size≤h.size) (hl:vs.length≤100000) (w:VsA (fun c=>h6.size≤c∧¬x.at c) h t v.items)
    (hk:∀x' h4,Ls h6 h4 b9 x' (vs++[v])→Tn (fun c=>c=b9∨h6.size≤c) h h4→R h4) :
    New h #[.bool v.nul, .int .i64 v.num, .string (bs v.text),Sl.v t] Y66 fun a36 h2=>Keep h h2 ⟨b9,3,none⟩ 1<|Ap h2 Y66 zY66 4 56 x 1 (rd h2 (some a36) (1*4)) fun t37 h3=>St h3 ⟨b9,3,none⟩ (Sl.v t37) R:=by
  obtain ⟨k9,ss,q1,q2,q3⟩:=l
  have xn:=q2.n
  rw [List.length_zipWith,q1,Nat.min_self] at xn
  have xat:∀c,x.at c→h6.size≤c∧c < h.size:=fun c hc=>q2.at hc
  refine New_i fun b36 h2 e36 g2 k36 _=>Keep_blk k9 g2 ?_
  have g2s:=g2.1
  refine (q2.grw g2).ap (by omega) rfl (new:=[v.row t]) rfl (fun r hr=>by simp at hr;subst hr;rfl) (fun r hr=>by simp at hr;subst hr;exact vrow_one v t) (by simpa [Val.row,vals4] using rd_blk k36 rfl) (by omega) (by omega) fun s' h3 f3 at3 o3 => ?_
  have nx9:¬x.at b9:=fun hc=>by have:=xat _ hc;omega
  have k93:=f3.blk (k9.grw g2) nx9
  refine St_i k93 (by simp) rfl fun h4 o4 k94=>hk s' h4 ⟨by simpa using k94,ss++[t],by simp [q1],?_,fun j v' t' e1 e2 => ?_⟩ ?_
  · rw [List.zipWith_append (by omega)]
    exact o3.fr o4.fr fun b hb _ e=>by omega
  · have new:∀{u:Sl} {ws:List Val},VsA (fun c=>h6.size≤c∧¬x.at c) h u ws→VsA (fun c=>h6.size≤c∧¬s'.at c) h4 u ws:=fun {u ws} z=>by
      have z1:=VsA.fr (S:=No) (D':=fun c=>(h6.size≤c∧¬x.at c)∧c < h.size) (Tn.of_grw g2) (fun _ _ _=>id) (fun _ q=>q) _ (VsA.lt _ z)
      have z2:=VsA.fr (D':=fun c=>h6.size≤c∧¬s'.at c) f3 (fun b hb _ q=>hb.1.2 q) (fun b hb=>⟨hb.1.1,fun q=>by
        rcases at3 b q with q | q
        · exact hb.1.2 q
        · have:=hb.2;omega⟩) _ z1
      exact VsA.fr o4.fr (fun b hb _ e=>by have:=hb.1;omega) (fun _ q=>q) _ z2
    by_cases hj:j < vs.length
    · rw [List.getElem?_append_left hj] at e1
      rw [List.getElem?_append_left (by omega)] at e2
      exact new (q3 j v' t' e1 e2)
    · have hj2:=(List.getElem?_eq_some_iff.1 e1).1
      simp only [List.length_append,List.length_singleton] at hj2
      obtain rfl:j=vs.length:=by omega
      rw [List.getElem?_append_right (Nat.le_refl _)] at e1
      rw [←q1,List.getElem?_append_right (Nat.le_refl _)] at e2
      simp at e1 e2
      subst e1 e2
      exact new w
  · refine ((Tn.of_grw g2:Tn (fun c=>c=b9∨h6.size≤c) h h2).trans' f3 fun d hd hlt=>.inr (xat d hd).1).trans' o4.fr fun d hd hlt=>.inl hd
theorem wsum_take {vs:List Val} (j:Nat):wsum (vs.take j)=((vs.map Val.wgt).take j).sum:=by rw [wsum_eq,List.map_take]
section
variable {D:Nat→Prop} {h:Hp} {b bl i m:Nat} {f:Fld} {d:Dat} {o n r L:Int} {s:Sl} {q:Sl × Sl × Sl} {K:KV} {Kp:PK}
theorem Vc.ltd (V:Vc D h b bl f d o n s q L i):Vc (fun x=>D x∧x < h.size) h b bl f d o n s q L i:=⟨V.A.lt,V.bn,fun e=>V.dn e.1,V.ar,V.lo,V.hi,V.kl,V.wl,V.lm,V.tb,V.b2⟩
theorem part_ex (ar:f.arr d) {j:Nat} (hj:j < (partsD d).length):∃g,(pfs f.k f.cs)[j]? = some g∧(partsD d)[j]? = some (part d j)∧g.arr (part d j)∧g.dep < f.dep:=by
  have hp:=ar.siz.parts
  have hg:(pfs f.k f.cs)[j]? = some (pfs f.k f.cs)[j]:=List.getElem?_eq_getElem (by omega)
  exact ⟨_,hg,part_get hj,ar.part hg (part_get hj),dep_part ar.h20 hg⟩
theorem parts_cs (ar:f.arr d) (h19:f.k≠19):partsD d=d.cs:=by have:=ar.siz.nd;unfold partsD;rw [diK,if_neg h19] at this;rw [if_neg (by omega)]
theorem lists_c (IH:OwnC m) (hd:f.dep≤m+1) (V0:Vc D h b bl f d o n s q L i) (hr:r=i) (kk:f.k=15∨f.k=16) (hnb:nullB f.k d.bufs i=false) (hk:VK h bl L (f.val d i) K):Fn190 (some ⟨b,0,none⟩) r (some ⟨bl,0,none⟩) h K Kp:=by
  obtain ⟨D',V,dlt⟩:∃D':Nat→Prop,Vc D' h b bl f d o n s q L i∧∀x,D' x→x < h.size:=⟨_,V0.ltd,fun x hx=>hx.2⟩
  subst hr
  have bd:=V.bd
  have V':=V
  obtain ⟨A,bn,dn,ar,lo,hi,kl,wl,lm,tb,b2⟩:=V'
  have so:=ar.siz
  have hcs:=parts_cs ar (by omega)
  have p0:0 < (partsD d).length:=by
    have nc:=so.nc
    have:=so.ty.kinds.1
    unfold Shaped at this
    rw [chK,if_neg (by omega),if_neg (by omega)] at nc
    rw [hcs];omega
  obtain ⟨g,hg,hc,ga,gd⟩:=part_ex ar p0
  have gso:=ga.siz
  have gl0:=gso.l0
  have gl1:=gso.l1
  have go0:=gso.o0
  have go1:=gso.o1
  obtain ⟨vs,hvs⟩:∃vs,vs=(List.range (itN f d i)).map fun j=>g.val (part d 0) ((part d 0).off.toNat+(itA f d i+j)):=⟨_,rfl⟩
  have hv:f.val d i=.mk false 0 [] vs:=by
    rw [hvs,val_eq',valK,if_neg (by rw [hnb];simp),if_neg (by omega)]
    unfold itA itN at0
    rcases kk with e | e
    · rw [if_pos e,if_neg (by omega),if_neg (by omega),getD_map hg]
    · rw [if_neg (by omega),if_pos e,if_pos e,if_pos e,getD_map hg]
  have vl:vs.length=itN f d i:=by rw [hvs];simp
  have vg:∀j,j < itN f d i→vs[j]? = some (g.val (part d 0) ((part d 0).off.toNat+(itA f d i+j))):=fun j hj=>by rw [hvs];simp [hj]
  rw [hv] at hk wl
  simp only [Val.wgt,List.length_nil] at wl
  have bll:=kl.lt
  have k9b:=A.k.lt
  refine Fn190.of (New_i fun b4 h1 e1 g1 k4 _=>New_i fun b8 h2 e2 g2 k8 _=>New_i fun b9 h3 e3 g3 k9 _ => ?_)
  have G3:=Grw.trans g1 (Grw.trans g2 g3)
  have g1s:=g1.1
  have g2s:=g2.1
  have k8l:=k8.lt
  have k9l:=k9.lt
  refine items_c (A.gr G3) ar kk rfl lo hi hc fun x y h4 g4 hx hy hle=>weigh_c (kl.grw (Grw.trans G3 g4)) (by omega) (by omega) lm fun h5 o5 kl5 => ?_
  have T5:Tn (·=bl) h h5:=(Tn.of_grw (Grw.trans G3 g4)).trans o5.fr
  have g4s:=g4.1
  have s5:h5.size=h4.size:=o5.1
  refine part_c (V.af T5) ar.h20 (j:=0) rfl hg hc fun b' s' q' h6 g6 hb' A6 => ?_
  have g6s:=g6.1
  have T6:Tn (·=bl) h h6:=T5.trans (Tn.of_grw g6)
  have k8':Blk h6 b8 zY66 Y66:=(o5.blk ((k8.grw g3).grw g4) (by omega)).grw g6
  have k9':Blk h6 b9 zY66 Y66:=(o5.blk (k9.grw g4) (by omega)).grw g6
  have kl6:=kl5.grw g6
  subst hx hy
  have sumle:∀j,wsum (vs.take j)≤wsum vs:=fun j=>by rw [wsum_take,wsum_eq];have:=sum_cut (l:=vs.map Val.wgt) 0 j;simpa using this
  refine L190_1.rule (fun x13 h'=>∃(j:Nat) (x:Sl),x13=((itA f d i+j:Nat):Int)∧j≤itN f d i∧Tn (fun c=>c=bl∨c=b9) h6 h'∧Ls h6 h' b9 x (vs.take j)∧Lc h' bl (L - 16 - (wsum (vs.take j):Nat))) (fun x13 _=>itA f d i+itN f d i - x13.toNat)
    ⟨0,Sl.nil,rfl,by omega,Tn.refl _ _,by simpa using Ls.start k9',by simpa [wsum] using kl6⟩ ?_
  rintro x13 h7 ⟨j,x,rfl,hj,t7,ls,kl7⟩ N1 hN
  have t7s:=t7.1
  simp only [add_blk]
  refine If_i (fun c => ?_) fun c => ?_
  · simp only [sm,reduceCtorEq] at c
    have hj':j < itN f d i:=by omega
    have hvj:=vg j hj'
    have hvw:(vs.map Val.wgt)[j]? = some (g.val (part d 0) ((part d 0).off.toNat+(itA f d i+j))).wgt:=by simp [hvj]
    have hss:=sum_take_succ hvw
    rw [←wsum_take,←wsum_take] at hss
    have hsl:=sumle (j+1)
    have htk:vs.take (j+1)=vs.take j++[g.val (part d 0) ((part d 0).off.toNat+(itA f d i+j))]:=by rw [List.take_add_one,hvj];rfl
    generalize hvv:g.val (part d 0) ((part d 0).off.toNat+(itA f d i+j))=v at hss htk
    have A7:ArA D' h7 b' g (part d 0) (part d 0).off (part d 0).len s' q':=A6.fr t7 (by omega) (fun z hz e=>by
      rcases e with e | e
      · exact dn (e ▸ hz)
      · have:=dlt z hz;omega) fun _ z=>z
    have tb7:UTab h7:=(V.tbf T6).fr t7 (by omega) (by omega)
    refine Ld_blk ls.k9 rfl (IH g (by omega) (i:=(part d 0).off.toNat+(itA f d i+j)) ⟨A7,by omega,dn,ga,by omega,by omega,kl7,by rw [hvv];omega,by omega,tb7,b2⟩ (by omega) ?_)
    rw [hvv]
    intro t h8 t8 kl8 w8
    have t8s:=t8.1
    have ls8:=ls.fr t8 (by omega) (by omega)
    refine Keep_b2 ls.k9 ls8.k9 (ls8.push (by omega) (by omega) (by rw [List.length_take];have:=gl1;omega) (VsA.mo (D':=fun c=>h6.size≤c∧¬x.at c) w8 fun c (hc:h7.size≤c)=>⟨by omega,fun q=>by have:=(ls.at q).2;omega⟩) fun x' h9 ls9 t9 => ?_)
    rw [←htk] at ls9
    refine Wr_i64 (by omega) (by omega) (hN _ h9 ⟨j+1,x',by omega,by omega,?_,ls9,?_⟩ (by omega))
    · exact (t7.trans' t8 fun z hz _=>.inl hz).trans' t9 fun z hz hlt=>.inr (by omega)
    · have:=t9.blk kl8 (by omega)
      rw [hss]
      rwa [show L - 16 - (wsum (vs.take j):Int) - (v.wgt:Int)=L - 16 - ((wsum (vs.take j)+v.wgt:Nat):Int) by omega] at this
  · simp only [sm,reduceCtorEq] at c
    obtain rfl:j=itN f d i:=by omega
    rw [List.take_of_length_le (by omega)] at ls kl7
    refine LY66.b ls.k9 (hk.fin (T6.trans' t7 fun z hz hlt=>by omega) ?_ (t7.blk k8' (by omega)) rfl (by omega) bll (ls.sv fun c hc=>⟨by omega,by omega⟩))
    have e:L - 16 - (wsum vs:Int)=L - ((Val.mk false 0 [] vs).wgt:Int):=by simp only [Val.wgt,List.length_nil];omega
    rwa [e] at kl7
end
end Go.Proofs.YtlbbdbdjiekkaaaGreatDoor
set_option maxRecDepth 100000
set_option maxHeartbeats 1000000
/- Values read: parts, codes, dictionaries, runs; all values. -/
namespace Go.Proofs.YtlbbdbdjiekkaaaGreatDoor
open Go Go.Sh Go.WideShapes
section
variable {D:Nat→Prop} {h:Hp} {b bl i m:Nat} {f:Fld} {d:Dat} {o n r L:Int} {s:Sl} {q:Sl × Sl × Sl} {K:KV} {Kp:PK}
theorem structs_c (IH:OwnC m) (hd:f.dep≤m+1) (V0:Vc D h b bl f d o n s q L i) (hr:r=i) (kk:f.k=17) (hnb:nullB f.k d.bufs i=false) (hk:VK h bl L (f.val d i) K):Fn191 (some ⟨b,0,none⟩) r (some ⟨bl,0,none⟩) h K Kp:=by
  obtain ⟨D',V,dlt⟩:∃D':Nat→Prop,Vc D' h b bl f d o n s q L i∧∀x,D' x→x < h.size:=⟨_,V0.ltd,fun x hx=>hx.2⟩
  subst hr
  have bd:=V.bd
  have V':=V
  obtain ⟨A,bn,dn,ar,lo,hi,kl,wl,lm,tb,b2⟩:=V'
  have so:=ar.siz
  have hcs:=parts_cs ar (by omega)
  have hpl:=so.parts
  have small:(partsD d).length≤32:=by
    have nc:=so.nc
    have:=so.ty.kinds.2.1
    rw [chK,if_neg (by omega),if_neg (by omega)] at nc
    rw [hcs];omega
  obtain ⟨vs,hvs⟩:∃vs,vs=(List.range ((pfs f.k f.cs).map Fld.val).length).map fun j=>at0 (((pfs f.k f.cs).map Fld.val).getD j vz) (part d j) i:=⟨_,rfl⟩
  have hv:f.val d i=.mk false 0 [] vs:=by
    rw [hvs,val_eq',valK,if_neg (by rw [hnb];simp),if_neg (by omega),if_neg (by omega),if_neg (by omega),if_pos kk]
  have vl:vs.length=(partsD d).length:=by rw [hvs];simp;omega
  rw [hv] at hk wl
  simp only [Val.wgt,List.length_nil] at wl
  have bll:=kl.lt
  have k9b:=A.k.lt
  refine Fn191.of (New_i fun b4 h1 e1 g1 k4 _=>New_i fun b8 h2 e2 g2 k8 _=>New_i fun b9 h3 e3 g3 k9 _ => ?_)
  have G3:=Grw.trans g1 (Grw.trans g2 g3)
  have g1s:=g1.1
  have g2s:=g2.1
  have k8l:=k8.lt
  have k9l:=k9.lt
  refine weigh_c (kl.grw G3) (by omega) (by omega) lm fun h6 o6 kl6 => ?_
  have T6:Tn (·=bl) h h6:=(Tn.of_grw G3).trans o6.fr
  have s6:h6.size=h3.size:=o6.1
  have A6:=V.af T6
  simp only [NN_some,add_blk]
  refine Ld_blk A6.k rfl ?_
  have k8':Blk h6 b8 zY66 Y66:=o6.blk (k8.grw g3) (by omega)
  have k9':Blk h6 b9 zY66 Y66:=o6.blk k9 (by omega)
  have qn:=A6.dv.c.n
  rw [←hcs] at qn
  rw [qn.1]
  have sumle:∀j,wsum (vs.take j)≤wsum vs:=fun j=>by rw [wsum_take,wsum_eq];have:=sum_cut (l:=vs.map Val.wgt) 0 j;simpa using this
  refine L191_1.rule (fun x19 h'=>∃(j:Nat) (x:Sl),x19=(j:Int)∧j≤(partsD d).length∧Tn (fun c=>c=bl∨c=b9) h6 h'∧Ls h6 h' b9 x (vs.take j)∧Lc h' bl (L - 16 - (wsum (vs.take j):Nat))) (fun x19 _=>(partsD d).length - x19.toNat)
    ⟨0,Sl.nil,rfl,by omega,Tn.refl _ _,by simpa using Ls.start k9',by simpa [wsum] using kl6⟩ ?_
  rintro x19 h7 ⟨j,x,rfl,hj,t7,ls,kl7⟩ N1 hN
  have t7s:=t7.1
  simp only [add_blk]
  refine If_i (fun c => ?_) fun c => ?_
  · simp only [sm,reduceCtorEq] at c
    have hj':j < (partsD d).length:=by omega
    obtain ⟨g,hg,hc,ga,gd⟩:=part_ex ar hj'
    have gso:=ga.siz
    have gl0:=gso.l0
    have gl1:=gso.l1
    have go0:=gso.o0
    have go1:=gso.o1
    have hch:=(so.ch j (part d j) (by rw [←hcs];exact hc)).2 kk
    have hvj:vs[j]? = some (g.val (part d j) ((part d j).off.toNat+i)):=by
      rw [hvs,List.getElem?_map,List.getElem?_range (by simp;omega)]
      simp only [Option.map_some,getD_map hg,at0]
    have hvw:(vs.map Val.wgt)[j]? = some (g.val (part d j) ((part d j).off.toNat+i)).wgt:=by simp [hvj]
    have hss:=sum_take_succ hvw
    rw [←wsum_take,←wsum_take] at hss
    have hsl:=sumle (j+1)
    have htk:vs.take (j+1)=vs.take j++[g.val (part d j) ((part d j).off.toNat+i)]:=by rw [List.take_add_one,hvj];rfl
    generalize hvv:g.val (part d j) ((part d j).off.toNat+i)=v at hss htk
    have A7:ArA D' h7 b f d o n s q:=A6.fr t7 (by omega) (fun z hz e=>by
      rcases e with e | e
      · exact dn (e ▸ hz)
      · have:=dlt z hz;omega) fun _ z=>z
    have tb7:UTab h7:=(V.tbf T6).fr t7 (by omega) (by omega)
    refine Ld_blk ls.k9 rfl (part_c A7 ar.h20 rfl hg hc fun b' s' q' h8 g8 hb' A8=>Keep_blk ls.k9 g8 (IH g (by omega) (i:=(part d j).off.toNat+i) ⟨A8,by omega,dn,ga,by omega,by omega,kl7.grw g8,by rw [hvv];omega,by omega,tb7.grw g8,b2⟩ (by omega) ?_))
    rw [hvv]
    intro t h9 t9 kl9 w9
    have t9s:=t9.1
    have g8s:=g8.1
    have ls8:Ls h6 h8 b9 x (vs.take j):=ls.fr (Tn.of_grw g8:Tn (·=bl) h7 h8) (by omega) (by omega)
    have ls9:=ls8.fr t9 (by omega) (by omega)
    refine Keep_b2 ls8.k9 ls9.k9 (ls9.push (by omega) (by omega) (by rw [List.length_take];omega) (VsA.mo (D':=fun c=>h6.size≤c∧¬x.at c) w9 fun c (hc:h8.size≤c)=>⟨by omega,fun q=>by have:=(ls.at q).2;omega⟩) fun x' h10 ls10 t10 => ?_)
    rw [←htk] at ls10
    refine Wr_i64 (by omega) (by omega) (hN _ h10 ⟨j+1,x',by omega,by omega,?_,ls10,?_⟩ (by omega))
    · exact ((t7.trans (Tn.of_grw g8)).trans' t9 fun z hz _=>.inl hz).trans' t10 fun z hz hlt=>.inr (by omega)
    · have:=t10.blk kl9 (by omega)
      rw [hss]
      rwa [show L - 16 - (wsum (vs.take j):Int) - (v.wgt:Int)=L - 16 - ((wsum (vs.take j)+v.wgt:Nat):Int) by omega] at this
  · simp only [sm,reduceCtorEq] at c
    obtain rfl:j=(partsD d).length:=by omega
    rw [List.take_of_length_le (by omega)] at ls kl7
    refine LY66.b ls.k9 (hk.fin (T6.trans' t7 fun z hz hlt=>by omega) ?_ (t7.blk k8' (by omega)) rfl (by omega) bll (ls.sv fun c hc=>⟨by omega,by omega⟩))
    have e:L - 16 - (wsum vs:Int)=L - ((Val.mk false 0 [] vs).wgt:Int):=by simp only [Val.wgt,List.length_nil];omega
    rwa [e] at kl7
theorem choices_c (IH:OwnC m) (hd:f.dep≤m+1) (V:Vc D h b bl f d o n s q L i) (hr:r=i) (kk:f.k=18) (hnb:nullB f.k d.bufs i=false) (hk:VK h bl L (f.val d i) K):Fn192 (some ⟨b,0,none⟩) r (some ⟨bl,0,none⟩) h K Kp:=by
  subst hr
  have bd:=V.bd
  have V':=V
  obtain ⟨A,bn,dn,ar,lo,hi,kl,wl,lm,tb,b2⟩:=V'
  have so:=ar.siz
  have hcs:=parts_cs ar (by omega)
  have nb:=so.nb
  have hb2:d.bufs.length=2:=by rw [kk] at nb;simp [bufK] at nb;omega
  have n0:=so.need 0 (by omega)
  have n1:=so.need 1 (by omega)
  rw [needB,if_pos kk] at n0 n1
  have big0:=so.big 0 (by omega)
  have big1:=so.big 1 (by omega)
  obtain ⟨ch,hch,q1,q2⟩:=(Fld.arr_eq.1 ar).ro.code kk (i - d.off.toNat) (by omega)
  have ei:d.off.toNat+(i - d.off.toNat)=i:=by omega
  have eoN:offN d (i - d.off.toNat)=i32 (bufD d.bufs 1) i:=by unfold offN;rw [ei]
  rw [ei] at hch
  rw [eoN] at q1 q2
  have hC:codeD d i < (partsD d).length:=by rw [hcs];exact (List.getElem?_eq_some_iff.1 hch).1
  obtain ⟨g,hg,hc,ga,gd⟩:=part_ex ar hC
  have hp:part d (codeD d i)=ch:=part_of (by rw [hcs];exact hch)
  rw [hp] at hc ga
  have gso:=ga.siz
  have gl1:=gso.l1
  have go0:=gso.o0
  have go1:=gso.o1
  have oR:(offR d i:Int)=i32 (bufD d.bufs 1) i:=by unfold offR;omega
  have hv:f.val d i=.mk false (codeD d i) [] [g.val ch (ch.off.toNat+offR d i)]:=by
    rw [val_eq',valK,if_neg (by rw [hnb];simp),if_neg (by omega),if_neg (by omega),if_neg (by omega),if_neg (by omega),if_pos kk,getD_map hg,hp];rfl
  rw [hv] at hk wl
  simp only [Val.wgt,wsum,List.length_nil] at wl
  have bll:=kl.lt
  refine Fn192.of (New_i fun b4 h1 e1 g1 k4 _=>New_i fun b8 h2 e2 g2 k8 _ => ?_)
  have G2:=Grw.trans g1 g2
  have g1s:=g1.1
  have k8l:=k8.lt
  refine bytes_v (A.gr G2) (j:=0) rfl (by omega) fun u0 h3 g3 v0=>byte_c v0.1 (by omega) (i:=i) rfl (getD_some (by omega)) fun h4 g4 => ?_
  have hcd:((bufD d.bufs 0).getD i 0).toNat=codeD d i:=rfl
  rw [hcd]
  have h256:codeD d i < 256:=UInt8.toNat_lt _
  refine bytes_v (A.gr (Grw.trans G2 (Grw.trans g3 g4))) (j:=1) rfl (by omega) fun u1 h5 g5 v1=>Wr_i64 (by omega) (by omega) (sgv_c v1.1 (by omega) (m:=4) (by omega) (a:=4*i) (by omega) rfl (by omega) fun h6 g6 => ?_)
  have een:sg 4 (nAt (bufD d.bufs 1) (4*i) 4)=i32 (bufD d.bufs 1) i:=rfl
  rw [een]
  have G6:=Grw.trans G2 (Grw.trans (Grw.trans g3 g4) (Grw.trans g5 g6))
  have A6:=A.gr G6
  have g36:=(Grw.trans (Grw.trans g3 g4) (Grw.trans g5 g6)).1
  simp only [NN_some,add_blk]
  refine Wr_i64 (by omega) (by omega) (Ld_blk A6.k rfl ?_)
  have qn:=A6.dv.c.n
  rw [←hcs] at qn
  refine If_f (by rw [decide_eq_false_iff_not];omega) ?_
  have e3:decide (i32 (bufD d.bufs 1) i < 0)=false:=by rw [decide_eq_false_iff_not];omega
  rw [e3]
  refine J192_2.of (If_f rfl ?_)
  simp only [NN_some,add_blk]
  refine Ld_blk A6.k rfl (A6.dv.c.ix rfl hch fun a qc cc vc=>⟨_,add_0 a ▸ cc 0 _ rfl,If_f (by rw [decide_eq_false_iff_not];omega) (J192_1.of ?_)⟩)
  refine weigh_c (kl.grw G6) (by omega) (by omega) lm fun h7 o7 kl7=>Wr_i64 (by omega) (by omega) (Wr_i64 (by omega) (by omega) ?_)
  have T7:Tn (·=bl) h h7:=(Tn.of_grw G6).trans o7.fr
  have s7:h7.size=h6.size:=o7.1
  refine part_c (V.af T7) ar.h20 rfl hg hc fun b' s' q' h8 g8 hb' A8 => ?_
  have g8s:=g8.1
  have T8:=T7.trans (Tn.of_grw g8:Tn (·=bl) h7 h8)
  have k88:Blk h8 b8 zY66 Y66:=(o7.blk (k8.grw (Grw.trans (Grw.trans g3 g4) (Grw.trans g5 g6))) (by omega)).grw g8
  refine IH g (by omega) (i:=ch.off.toNat+offR d i) ⟨A8,by omega,dn,ga,by omega,by omega,kl7.grw g8,by omega,by omega,V.tbf T8,b2⟩ (by omega) ?_
  intro t h9 t9 kl9 w9
  have t9s:=t9.1
  refine New_i fun b67 h10 e67 g10 k67 _ => ?_
  have T10:=(T8.trans t9).trans (Tn.of_grw g10:Tn (·=bl) h9 h10)
  have kl10:=kl9.grw g10
  rw [show L - 16 - ((g.val ch (ch.off.toNat+offR d i)).wgt:Int)=L - ((Val.mk false (codeD d i) [] [g.val ch (ch.off.toNat+offR d i)]).wgt:Int) by simp only [Val.wgt,wsum,List.length_nil];omega] at kl10
  refine hk.fin T10 kl10 ((t9.blk k88 (by omega)).grw g10) rfl (by omega) bll (VsA.of rfl (Nat.le_refl _) fun _=>⟨_,rfl,⟨by show h.size≤b67;omega,by show b67≠b8;omega⟩,fun j v hj => ?_⟩)
  obtain rfl : j = 0 := by have:j < 1:=(List.getElem?_eq_some_iff.1 hj).1
                           omega
  simp only [Val.items,List.getElem?_cons_zero,Option.some.injEq] at hj
  subst hj
  refine VA.of (s:=t) ?_ ?_
  · intro k v hv'
    rw [Nat.zero_mul,add_zero',add_blk,cell_blk k67]
    rcases k with _ | _ | _ | _ | k
    all_goals first | exact hv' | (simp [Val.row,vals4] at hv')
  · exact (w9.gr g10).mo fun c (hc:h8.size≤c)=>⟨by omega,by omega⟩
theorem dicts_c (IH:OwnC m) (hd:f.dep≤m+1) (V:Vc D h b bl f d o n s q L i) (hr:r=i) (kk:f.k=19) (hnb:nullB f.k d.bufs i=false) (hk:VK h bl L (f.val d i) K):Fn193 (some ⟨b,0,none⟩) r (some ⟨bl,0,none⟩) h K Kp:=by
  subst hr
  have bd:=V.bd
  have V':=V
  obtain ⟨A,bn,dn,ar,lo,hi,kl,wl,lm,tb,b2⟩:=V'
  have so:=ar.siz
  have nb:=so.nb
  have nd:=so.nd
  rw [diK,if_pos kk] at nd
  have hds:partsD d=d.ds:=by unfold partsD;rw [if_pos (by omega)]
  have sh:=so.ty.kinds.1
  unfold Shaped at sh
  have hix:3≤f.ix∧f.ix≤10:=by omega
  have hb2:d.bufs.length=2:=by rw [kk] at nb;simp [bufK] at nb;omega
  have n1:=so.need 1 (by omega)
  have hwd:wdK f.k f.w f.ix=widK f.ix:=by rw [wdK,if_neg (by omega),if_pos kk]
  rw [needB,if_neg (by omega),if_neg (by omega),if_neg (by omega),if_neg (by omega),hwd] at n1
  have big1:=so.big 1 (by omega)
  obtain ⟨g,hg,hc,ga,gd⟩:=part_ex ar (j:=0) (by rw [hds];omega)
  have gso:=ga.siz
  have gl0:=gso.l0
  have gl1:=gso.l1
  have go0:=gso.o0
  have go1:=gso.o1
  have ei:d.off.toNat+(i - d.off.toNat)=i:=by omega
  obtain ⟨mm,hm⟩:=(Fld.arr_eq.1 ar).ro.dict kk (i - d.off.toNat) (by omega) (by rw [ei];exact hnb)
  rw [ei] at hm
  have hd0:d.ds[0]? = some (part d 0):=by rw [←hds];exact hc
  have hv:f.val d i=g.val (part d 0) ((part d 0).off.toNat+nAt (bufD d.bufs 1) (i*(widK f.ix).toNat) (widK f.ix).toNat):=by
    rw [val_eq',valK,if_neg (by rw [hnb];simp),if_neg (by omega),if_neg (by omega),if_neg (by omega),if_neg (by omega),if_neg (by omega),if_pos kk,getD_map hg];rfl
  have hmm:numN f.ix (bufD d.bufs 1) i=(nAt (bufD d.bufs 1) (i*(widK f.ix).toNat) (widK f.ix).toNat:Int)∧nAt (bufD d.bufs 1) (i*(widK f.ix).toNat) (widK f.ix).toNat < (part d 0).len.toNat:=by
    unfold idxD at hm
    split at hm
    · cases hm
    · rename_i hno
      have lt:nAt (bufD d.bufs 1) (i*(widK f.ix).toNat) (widK f.ix).toNat < (part d 0).len.toNat:=by
        rcases Nat.lt_or_ge (nAt (bufD d.bufs 1) (i*(widK f.ix).toNat) (widK f.ix).toNat) (part d 0).len.toNat with z | z
        · exact z
        · exact absurd (.inr fun c' hc'=>by rw [hd0] at hc';cases hc';omega) hno
      refine ⟨?_,lt⟩
      unfold numN sg
      split
      · rename_i e
        rw [if_pos]
        rcases Nat.lt_or_ge (nAt (bufD d.bufs 1) (i*(widK f.ix).toNat) (widK f.ix).toNat) (2 ^ (8*(widK f.ix).toNat - 1)) with z | z
        · exact z
        · exact absurd (.inl ⟨e.2,z⟩) hno
      · rw [if_pos (by omega)]
  have hrw:(i+1)*(widK f.ix).toNat≤(d.off+d.len).toNat*(widK f.ix).toNat:=Nat.mul_le_mul_right _ (by omega)
  generalize nAt (bufD d.bufs 1) (i*(widK f.ix).toNat) (widK f.ix).toNat=M at hv hmm
  have bll:=kl.lt
  refine Fn193.of (New_i fun b4 h1 e1 g1 k4 _=>New_i fun b8 h2 e2 g2 k8 _ => ?_)
  have G2:=Grw.trans g1 g2
  have g1s:=g1.1
  have k8l:=k8.lt
  simp only [NN_some,add_blk]
  refine Ld_blk (A.gr G2).k rfl (number_c (A.gr G2) (by omega) rfl (by omega) (by omega) (by omega) fun h3 g3 => ?_)
  rw [hmm.1]
  have G3:=Grw.trans G2 g3
  have A3:=A.gr G3
  have g3s:=g3.1
  have e64:IntKind.bits .u64=64:=rfl
  refine Wr_u rfl (by rw [e64];omega) (Ld_blk A3.k rfl (A3.dv.x.ix rfl hd0 fun a qc cc vc=>⟨_,add_0 a ▸ cc 0 _ rfl,?_⟩))
  rw [show (part d 0).len=(((part d 0).len.toNat:Nat):Int) by omega]
  refine Wr_u rfl (by rw [e64];omega) (If_f (by rw [decide_eq_false_iff_not];omega) ?_)
  refine part_c A3 ar.h20 (j:=0) rfl hg hc fun b' s' q' h4 g4 hb' A4=>Wr_i64 (by omega) (by omega) ?_
  have G4:=Grw.trans G3 g4
  have g4s:=g4.1
  rw [hv] at hk wl
  refine IH g (by omega) (i:=(part d 0).off.toNat+M) ⟨A4,by omega,dn,ga,by omega,by omega,kl.grw G4,wl,lm,tb.grw G4,b2⟩ (by omega) ?_
  intro t h5 t5 kl5 w5
  exact hk.fin ((Tn.of_grw G4).trans t5) kl5 (t5.blk (k8.grw (Grw.trans g3 g4)) (by omega)) rfl (by omega) bll (w5.mo fun c (hc:h4.size≤c)=>⟨by omega,by omega⟩)
theorem runs_c (IH:OwnC m) (hd:f.dep≤m+1) (V:Vc D h b bl f d o n s q L i) (hr:r=i) (kk:f.k=20) (hnb:nullB f.k d.bufs i=false) (hk:VK h bl L (f.val d i) K):Fn195 (some ⟨b,0,none⟩) r (some ⟨bl,0,none⟩) h K Kp:=by
  subst hr
  have bd:=V.bd
  have V':=V
  obtain ⟨A,bn,dn,ar,lo,hi,kl,wl,lm,tb,b2⟩:=V'
  have so:=ar.siz
  have hcs:=parts_cs ar (by omega)
  obtain ⟨e,v',z0,z1,z2,z3,z4⟩:=(Fld.arr_eq.1 ar).eo kk
  have p1:1 < (partsD d).length:=by rw [hcs];exact (List.getElem?_eq_some_iff.1 z1).1
  obtain ⟨g,hg,hc,ga,gd⟩:=part_ex ar p1
  have hp0:part d 0=e:=part_of (by rw [hcs];exact z0)
  have hp1:part d 1=v':=part_of (by rw [hcs];exact z1)
  obtain ⟨j,hj,hj1,hj2,hj3,hj4⟩:=run_lt z0 z1 ((Fld.arr_eq.1 ar).eo kk) (r:=i) (by omega)
  have gso:=ga.siz
  have gl1:=gso.l1
  have go0:=gso.o0
  have go1:=gso.o1
  have hv:f.val d i=g.val (part d 1) ((part d 1).off.toNat+runN (part d 0) i):=by
    rw [val_eq',valK,if_neg (by rw [hnb];simp),if_neg (by omega),if_neg (by omega),if_neg (by omega),if_neg (by omega),if_neg (by omega),if_neg (by omega),if_pos kk,getD_map hg];rfl
  rw [hp0,hj3] at hv
  have bll:=kl.lt
  refine Fn195.of (New_i fun b4 h1 e1 g1 k4 _=>New_i fun b8 h2 e2 g2 k8 _ => ?_)
  have G2:=Grw.trans g1 g2
  have g1s:=g1.1
  have k8l:=k8.lt
  refine part_c (A.gr G2) ar.h20 (j:=1) rfl hg hc fun b' s' q' h3 g3 hb' A3=>run_c (A.gr (Grw.trans G2 g3)) ar kk rfl lo hi fun h4 g4 => ?_
  have G4:=Grw.trans G2 (Grw.trans g3 g4)
  have g3s:=g3.1
  have g4s:=g4.1
  rw [hp0,hj3]
  rw [hv] at hk wl
  refine IH g (by omega) (i:=(part d 1).off.toNat+j) ⟨A3.gr g4,by omega,dn,ga,by omega,by rw [hp1];omega,kl.grw G4,wl,lm,tb.grw G4,b2⟩ (by omega) ?_
  intro t h5 t5 kl5 w5
  exact hk.fin ((Tn.of_grw G4).trans t5) kl5 (t5.blk (k8.grw (Grw.trans g3 g4)) (by omega)) rfl (by omega) bll (w5.mo fun c (hc:h4.size≤c)=>⟨by omega,by omega⟩)
abbrev KI (K:KV):Value→HP:=fun v h'=>∃r0_0:Bool,∃r0_1:Int,∃r0_2:ByteArray,∃r0_3:Sl,v=(.agg #[(.bool r0_0),(.int .i64 r0_1),(.string r0_2),(Sl.v r0_3)])∧K r0_0 r0_1 r0_2 r0_3 h'
abbrev CI (t:TypeId) (a:Option Addr) (r:Int) (left:Option Addr) (h:Hp) (K:KV) (Kp:PK):Prop:=CallI Tryz.prog (.iface t (.agg #[])) "colonnade/array.read" [.pointer a, .int .i64 r, .pointer left] h (KI K) Kp
theorem callI_of {t:TypeId} {gi:FuncId} {a left:Option Addr} {r:Int} {h:Hp} {K:Value→HP} {Kp:PK} (h1:methP Tryz.prog t "colonnade/array.read" = some (gi,false)) (h2:(recvOk Tryz.prog t false && okFn Tryz.prog gi)=true)
    (hh:CallH Tryz.prog gi [(.agg #[]),(.pointer a),(.int .i64 r),(.pointer left)] h K Kp):CallI Tryz.prog (.iface t (.agg #[])) "colonnade/array.read" [.pointer a, .int .i64 r, .pointer left] h K Kp:=by
  unfold CallI
  simp only [h1,h2]
  exact hh
theorem ci188 {a left:Option Addr} {r:Int} {h:Hp} {K:KV} {Kp:PK} (hh:Fn188 a r left h K Kp):CI Y192 a r left h K Kp:=callI_of (gi:=I188) (by kernel_rfl) (by kernel_rfl) hh
theorem ci190 {a left:Option Addr} {r:Int} {h:Hp} {K:KV} {Kp:PK} (hh:Fn190 a r left h K Kp):CI Y193 a r left h K Kp:=callI_of (gi:=I190) (by kernel_rfl) (by kernel_rfl) hh
theorem ci191 {a left:Option Addr} {r:Int} {h:Hp} {K:KV} {Kp:PK} (hh:Fn191 a r left h K Kp):CI Y194 a r left h K Kp:=callI_of (gi:=I191) (by kernel_rfl) (by kernel_rfl) hh
theorem ci192 {a left:Option Addr} {r:Int} {h:Hp} {K:KV} {Kp:PK} (hh:Fn192 a r left h K Kp):CI Y195 a r left h K Kp:=callI_of (gi:=I192) (by kernel_rfl) (by kernel_rfl) hh
theorem ci193 {a left:Option Addr} {r:Int} {h:Hp} {K:KV} {Kp:PK} (hh:Fn193 a r left h K Kp):CI Y196 a r left h K Kp:=callI_of (gi:=I193) (by kernel_rfl) (by kernel_rfl) hh
theorem ci195 {a left:Option Addr} {r:Int} {h:Hp} {K:KV} {Kp:PK} (hh:Fn195 a r left h K Kp):CI Y197 a r left h K Kp:=callI_of (gi:=I195) (by kernel_rfl) (by kernel_rfl) hh
theorem ci196 {a left:Option Addr} {r:Int} {h:Hp} {K:KV} {Kp:PK} (hh:Fn196 a r left h K Kp):CI Y198 a r left h K Kp:=callI_of (gi:=I196) (by kernel_rfl) (by kernel_rfl) hh
theorem read_fam (IH:OwnC m) (hd:f.dep≤m+1) (V:Vc D h b bl f d o n s q L i) (hr:r=i) (hnb:nullB f.k d.bufs i=false) (hk:VK h bl L (f.val d i) K) :
    CallI Tryz.prog (famV f.k) "colonnade/array.read" [.pointer (some ⟨b,0,none⟩), .int .i64 r, .pointer (some ⟨bl,0,none⟩)] h (KI K) Kp:=by
  unfold famV
  by_cases c1:f.k=12∨f.k=13
  · rw [if_pos c1];exact ci188 (texts_c V hr c1 hnb hk)
  rw [if_neg c1]
  by_cases c2:f.k=15∨f.k=16
  · rw [if_pos c2];exact ci190 (lists_c IH hd V hr c2 hnb hk)
  rw [if_neg c2]
  by_cases c3:f.k=17
  · rw [if_pos c3];exact ci191 (structs_c IH hd V hr c3 hnb hk)
  rw [if_neg c3]
  by_cases c4:f.k=18
  · rw [if_pos c4];exact ci192 (choices_c IH hd V hr c4 hnb hk)
  rw [if_neg c4]
  by_cases c5:f.k=19
  · rw [if_pos c5];exact ci193 (dicts_c IH hd V hr c5 hnb hk)
  rw [if_neg c5]
  by_cases c6:f.k=20
  · rw [if_pos c6];exact ci195 (runs_c IH hd V hr c6 hnb hk)
  rw [if_neg c6]
  exact ci196 (flats_c V hr (by omega) hnb hk)
end
theorem nullAt_v {D:Nat→Prop} {h:Hp} {b i:Nat} {f:Fld} {d:Dat} {o n r:Int} {s:Sl} {q:Sl × Sl × Sl} {K:Bool→HP} {Kp:PK} (A:ArA D h b f d o n s q) (ar:f.arr d) (lo:d.off.toNat≤i) (hi:i < d.off.toNat+d.len.toNat) (hr:r=i) (hk:∀h',Grw h h'→K (nullB f.k d.bufs i) h'):Fn68 (some ⟨b,0,none⟩) r h K Kp:=by
  have so:=ar.siz
  have l0:=so.l0
  have l1:=so.l1
  have o0:=so.o0
  have o1:=so.o1
  have hb:hasV f.k=true→1≤d.bufs.length:=so.row.hv
  by_cases hne:(bufD d.bufs 0).length=0
  · exact nullAt_c A hr hb (by omega) (fun e=>absurd hne e) (by omega) hk
  · have hb0:0 < d.bufs.length:=by
      rcases Nat.eq_zero_or_pos d.bufs.length with z | z
      · have:bufD d.bufs 0=[]:=by unfold bufD;rw [List.eq_nil_of_length_eq_zero z];rfl
        rw [this] at hne;exact absurd rfl hne
      · exact z
    have n0:=so.need 0 hb0
    have big:=so.big 0 hb0
    refine nullAt_c A hr hb (by omega) (fun _ => ?_) (by omega) hk
    by_cases k18:f.k=18
    · rw [needB,if_pos k18] at n0;omega
    · rw [needB,if_neg k18,if_neg (by omega),if_pos (.inl rfl)] at n0;omega
theorem valC:∀m,ValC m
  | 0=>fun f hd=>by have:=dep_pos f;omega
  | m + 1=>by
    intro f hd D h b bl i d o n r L s q K Kp V hr hk
    have bll:=V.kl.lt
    refine Fn135.of (New_i fun b6 h1 e1 g1 k6 _=>nullAt_v (V.A.gr g1) V.ar V.lo V.hi hr fun h2 g2=>If_i (fun c => ?_) fun c => ?_)
    all_goals have G:=Grw.trans g1 g2
    all_goals have g1s:=g1.1
    all_goals have g2s:=g2.1
    all_goals have k6l:=k6.lt
    · have hv:f.val d i=v0:=by rw [val_eq',valK,if_pos c]
      have wl:=V.wl
      rw [hv] at hk wl
      have e16:v0.wgt=16:=by simp [v0,Val.wgt,wsum]
      rw [e16] at wl
      refine weigh_c (V.kl.grw G) (by omega) (by omega) V.lm fun h3 o3 kl3 => ?_
      have kl3:Lc h3 bl (L - v0.wgt):=by rw [e16];exact kl3
      exact hk.fin ((Tn.of_grw G).trans o3.fr) kl3 (o3.blk (k6.grw g2) (by omega)) rfl (by omega) bll (VsA.nil _)
    · simp only [NN_some,add_blk]
      refine Ld_blk (V.A.gr G).k rfl (read_fam (own_of (valC m)) hd (V.gr G) hr c ?_)
      intro t h3 t3 kl3 w3
      exact hk.fin ((Tn.of_grw G).trans t3) kl3 (t3.blk (k6.grw g2) (by omega)) rfl (by omega) bll (w3.mo fun c (hc:h2.size≤c)=>⟨by omega,by omega⟩)
theorem own_c (m:Nat):OwnC m:=own_of (valC m)
end Go.Proofs.YtlbbdbdjiekkaaaGreatDoor
set_option maxRecDepth 100000
set_option maxHeartbeats 200000
/- Functions that defer the catching: their texts. -/
namespace Go.Proofs.YtlbbdbdjiekkaaaGreatDoor
open Go Go.Sh Go.WideShapes
noncomputable def code64:Code:=Tryz.f88.body.getD .skip
noncomputable def code65:Code:=Tryz.f129.body.getD .skip
def opc (c:Code) (i:Nat):Oper:=(regOps (sub [0] c)).getD i default
def callOf (o:Oper):Call:=match o.op with | .call c=>c | .defer c=>c | _=>default
/-- caught, with nothing to catch -/
theorem D65n {c0:Addr} {h:Hp} {K:Hp→Prop} (H:K h):∀w,hpz w=h→DefRun Tryz.prog I65 [.pointer (some c0)] .returning w fun u2 w'=>u2=.returning∧Same w w'∧K (hpz w') :=
  def_recover (P:=Tryz.prog) (ann:=[]) (D:=DrawSem Tryz.prog []) (drawOk _) (fn:=Tryz.f129) (id:=0) (r1:=opc code65 0) (r2:=opc code65 1) (call:=callOf (opc code65 0)) (rest:=sub [1] code65) (tr:=5) (t2:=2) (caps:=[.pointer (some c0)]) (K:=K) (u:=.returning) (u':=.returning) (rv:=.nilIface)
    Tryz.func129 (by kernel_rfl) (by kernel_rfl) (by kernel_rfl) (by kernel_rfl) (by kernel_rfl) (by kernel_rfl) (by kernel_rfl) (by kernel_rfl) (by kernel_rfl) (by kernel_rfl) (by kernel_rfl) (.inl ⟨rfl,rfl,rfl⟩) (by kernel_rfl) (cast (by kernel_rfl) H)
def ord64:OrdT:=[(4,(OT.l [0,1,2,3,4,5] .fin),[0,0,2,1,15,31])]
def z64:List Value:=[(.agg #[(.bool false),(.int .i64 0),(.string (bs [])),(.slice none 0 0)]),(.int .i64 0),(.int .i64 0)]
def kv64 (K:Bool→Int→ByteArray→Sl→Int→Int→HP):Value→HP:=fun v h=>rU v fun vs=>rG (vs.getD 0 undef) fun cs0=>rB (cs0.getD 0 undef) fun r0_0=>rI (cs0.getD 1 undef) fun r0_1=>rT (cs0.getD 2 undef) fun r0_2=>rS (cs0.getD 3 undef) fun r0_3=>rI (vs.getD 1 undef) fun r1=>rI (vs.getD 2 undef) fun r2=>K r0_0 r0_1 r0_2 r0_3 r1 r2 h
def S64c (a:Option Addr) (i:Int) (a4 a6:Addr) (K:Bool→Int→ByteArray→Sl→Int→Int→HP) (h2:Hp):Prop :=
  New h2 #[(.int .i64 0)] Y6 fun a7 h3 =>
  St h3 a7 (.int .i64 4194304) fun h4 =>
  Fn109 a i (some a7) h4 (fun t10_0 t10_1 t10_2 t10_3 h5 =>
    SY66 h5 a4 t10_0 t10_1 t10_2 t10_3 fun h6 =>
    LY66 h6 a4 fun t11_0 t11_1 t11_2 t11_3 =>
    Ld h6 a7 mI fun t12 =>
    Wr .i64 ((4194304:Int) - t12) fun t13 =>
    SY66 h6 a4 t11_0 t11_1 t11_2 t11_3 fun h7 =>
    Keep h6 h7 a7 1 <|
    St h7 a6 (.int .i64 0) fun h8 =>
    LY66 h8 a4 fun r0_0 r0_1 r0_2 r0_3 =>
    Ld h8 a6 mI fun r2 =>
    K r0_0 r0_1 r0_2 r0_3 t13 r2 h8) (fun _ _=>False)
/-- what is to be shown where the catching is deferred -/
abbrev DX (ord:OrdT) (fn:Func) (c2:Code) (zs:List Value) (Kv:Value→HP) (o:Operand) (fr:Fr) (h:Hp):Prop :=
  ∃ (caps:List Value) (KpX:List PanicEntry→Hp→Prop),evs (ev fr) [o]=some caps∧sem Tryz.prog [] (DrawSem Tryz.prog ord) none c2 (retQ Tryz.prog fn.results.toList zs Kv) KpX fr h ∧
    (∀w,DefRun Tryz.prog I65 caps .returning w fun u' w'=>u'=.returning∧Same w w'∧hpz w'=hpz w) ∧
    (∀ch w,KpX ch (hpz w)→DefRun Tryz.prog I65 caps (.panicking ch) w fun u' w'=>settle u'=.returning∧Same w w'∧retV Tryz.prog fn.results.toList (keepT [] fr) (hpz w') fun vs=>resUn zs (oneOr vs) fun v=>Kv v (hpz w'))
theorem DX.of {ord:OrdT} {fn:Func} {c2:Code} {zs:List Value} {Kv:Value→HP} {o:Operand} {fr:Fr} {h:Hp} {a:Addr} (h1:evs (ev fr) [o]=some [.pointer (some a)]) (h2:sem Tryz.prog [] (DrawSem Tryz.prog ord) none c2 (retQ Tryz.prog fn.results.toList zs Kv) (fun _ _=>False) fr h):DX ord fn c2 zs Kv o fr h :=
  ⟨_,fun _ _=>False,h1,h2,fun w=>D65n (K:=fun h'=>h'=hpz w) rfl w rfl,fun _ _ q=>q.elim⟩
def fr64 (a:Option Addr) (i:Int) (a4 a6:Addr):Fr:=[some (.pointer a),some (.int .i64 i),none,none,some (.pointer (some a4)),some (.int .i64 0),some (.pointer (some a6)),none,none,none,none,none,none,none]
theorem Fn64.of {a:Option Addr} {i:Int} {h:Hp} {K:Bool→Int→ByteArray→Sl→Int→Int→HP} {Kp:PK} (H:New h zY66 Y66 fun a4 h1=>New h1 #[(.int .i64 0)] Y34 fun a6 h2=>S64c a i a4 a6 K h2):Fn64 a i h K Kp:=by
  have:=fn_defer1 (P:=Tryz.prog) (ann:=[]) (D:=DrawSem Tryz.prog ord64) (drawOk _) (f:=I64) (g:=I65) (fn:=Tryz.f88) (pre:=[sub [0] code64]) (c2:=sub [1,1] code64) (id:=1) (o:=opc (sub [1] code64) 0) (call:=callOf (opc (sub [1] code64) 0)) []
    (zs:=z64) (args:=[(.pointer a),(.int .i64 i)]) (h:=h) (Kv:=kv64 K) (Kp:=Kp) Tryz.func88 (by kernel_rfl) (by kernel_rfl) (by kernel_rfl) (by kernel_rfl) (by kernel_rfl) (by kernel_rfl) (by kernel_rfl) (by kernel_rfl) ?_
  · exact cast (by kernel_rfl) this
  · have X:∀a4 a6 h,S64c a i a4 a6 K h→DX ord64 Tryz.f88 (sub [1,1] code64) z64 (kv64 K) (.tmp 6) (fr64 a i a4 a6) h:=fun a4 a6 h hh=>DX.of (a:=a6) (by kernel_rfl) (cast (by kernel_rfl) hh)
    have Y:New h zY66 Y66 fun a4 h1=>New h1 #[(.int .i64 0)] Y34 fun a6 h2=>DX ord64 Tryz.f88 (sub [1,1] code64) z64 (kv64 K) (.tmp 6) (fr64 a i a4 a6) h2:=X _ _ _ H
    exact cast (by kernel_rfl) Y
end Go.Proofs.YtlbbdbdjiekkaaaGreatDoor
set_option maxRecDepth 100000
set_option maxHeartbeats 1000000
/- Arrays asked: rows, cuts, nulls, items, parts, data. -/
namespace Go.Proofs.YtlbbdbdjiekkaaaGreatDoor
open Go Go.Sh Go.WideShapes
/-- an array of n rows from o on -/
structure Av (D:Nat→Prop) (h:Hp) (b:Nat) (f:Fld) (d:Dat) (o n:Nat) (s:Sl) (q:Sl × Sl × Sl):Prop where
  A:ArA D h b f d o n s q
  ar:f.arr d
  lo:d.off.toNat≤o
  hi:o+n≤d.off.toNat+d.len.toNat
/-- its values -/
def avs (f:Fld) (d:Dat) (o n:Nat):List Val:=(List.range n).map fun i=>f.val d (o+i)
theorem avs_len (f:Fld) (d:Dat) (o n:Nat):(avs f d o n).length=n:=by simp [avs]
theorem avs_get {f:Fld} {d:Dat} {o n i:Nat} (h:i < n):(avs f d o n)[i]? = some (f.val d (o+i)):=by simp [avs,h]
theorem arr_wt {f:Fld} {d:Dat} (ar:f.arr d) {o n:Nat} (lo:d.off.toNat≤o) (hi:o+n≤d.off.toNat+d.len.toNat):wsum (avs f d o n)≤4194304:=by
  have w:=(Fld.arr_eq.1 ar).wt
  rw [←Fld.val_eq] at w
  have e:wsum (avs f d o n)=(((wts f.val d).drop (o - d.off.toNat)).take n).sum:=by
    rw [wts_cut (by omega),wsum_eq,avs,List.map_map]
    congr 1
    refine List.map_congr_left fun i _ => ?_
    simp only [Function.comp,at0]
    rw [show d.off.toNat+(o - d.off.toNat+i)=o+i by omega]
  rw [e]
  exact Nat.le_trans (sum_cut _ _) w
section
variable {D:Nat→Prop} {h:Hp} {b:Nat} {f:Fld} {d:Dat} {o n:Nat} {s:Sl} {q:Sl × Sl × Sl} {Kp:PK}
theorem Av.gr {h':Hp} (V:Av D h b f d o n s q) (g:Grw h h'):Av D h' b f d o n s q:=⟨V.A.gr g,V.ar,V.lo,V.hi⟩
theorem Av.bd (V:Av D h b f d o n s q):o+n≤4096:=by
  have so:=V.ar.siz
  have h1:=so.l0
  have h2:=so.o0
  have h3:=so.e1
  have h4:=V.hi
  omega
theorem Av.wt (V:Av D h b f d o n s q) {i:Nat} (hi:i < n):(f.val d (o+i)).wgt≤4194304:=by
  have:=arr_wt V.ar (o:=o+i) (n:=1) (by have:=V.lo;omega) (by have:=V.hi;omega)
  simpa [avs,wsum] using this
theorem UTab.b2 (t:UTab h):2 < h.size:=cell_lt (t.a 0 (by omega)).1
theorem Av.whole (A:ArA D h b f d d.off d.len s q) (ar:f.arr d):Av D h b f d d.off.toNat d.len.toNat s q:=by
  have so:=ar.siz
  have h1:=so.l0
  have h2:=so.o0
  refine ⟨?_,ar,Nat.le_refl _,Nat.le_refl _⟩
  rw [Int.toNat_of_nonneg h1,Int.toNat_of_nonneg h2];exact A
theorem Av.fr {D' S:Nat→Prop} {h':Hp} (V:Av D h b f d o n s q) (t:Tn S h h') (hb:¬S b) (hn:∀x,D x→¬S x) (hD:∀x,D x→D' x):Av D' h' b f d o n s q:=⟨V.A.fr t hb hn hD,V.ar,V.lo,V.hi⟩
theorem Av.lt (V:Av D h b f d o n s q):Av (fun x=>D x∧x < h.size) h b f d o n s q:=⟨V.A.lt,V.ar,V.lo,V.hi⟩
theorem get_v {x:Int} {i:Nat} {K:Bool→Int→ByteArray→Sl→Int→Int→HP} (V:Av D h b f d o n s q) (tb:UTab h) (hx:x=i) (hi:i < n) (hk:∀t h',Grw h h'→VsA (Nw h) h' t (f.val d (o+i)).items→K (f.val d (o+i)).nul (f.val d (o+i)).num (bs (f.val d (o+i)).text) t (f.val d (o+i)).wgt 0 h') :
    Fn64 (some ⟨b,0,none⟩) x h K Kp:=by
  have bd:=V.bd
  have wt:=V.wt hi
  have ab:=V.A.k.lt
  have t2:=tb.b2
  refine Fn64.of (New_i fun b4 h1 e1 g1 k4 _=>New_i fun b6 h2 e2 g2 k6 _=>New_i fun b7 h3 e3 g3 k7 _=>St_i k7 (by simp) rfl fun h4 o4 k7 => ?_)
  have g1s:=g1.1
  have g2s:=g2.1
  have k4l:=k4.lt
  have k6l:=k6.lt
  have g4:Grw h2 h4:=Only.grw g3 o4 (by omega)
  have G4:=Grw.trans (Grw.trans g1 g2) g4
  have k4:Blk h4 b4 zY66 Y66:=(k4.grw g2).grw g4
  have k6:=k6.grw g4
  have k7:Lc h4 b7 4194304:=k7
  refine own_c f.dep f (Nat.le_refl _) (i:=o+i) ⟨V.A.lt.gr G4,by omega,fun e=>by have:=e.2;omega,V.ar,by have:=V.lo;omega,by have:=V.hi;omega,k7,by omega,by omega,tb.grw G4,by omega⟩ (by omega) fun t h5 t5 kl5 w5 => ?_
  have k4':=t5.blk k4 (by omega:b4≠b7)
  have k6':=t5.blk k6 (by omega:b6≠b7)
  have G5:Grw h h5:=((Tn.of_grw G4:Tn No h h4).trans' t5 fun z hz hlt=>by omega).grw
  have k7l:=k7.lt
  refine SY66.b k4' rfl fun h6 o6 k4=>LY66.b k4 (Ld_blk (o6.blk kl5 (by omega)) rfl (Wr_i64 (by omega) (by omega) (SY66.b k4 rfl fun h7 o7 k4=>Keep_b2 (o6.blk kl5 (by omega)) (o7.blk (o6.blk kl5 (by omega)) (by omega)) ?_)))
  have k6:=o7.blk (o6.blk k6' (by omega)) (by omega)
  refine St_i k6 (by simp) rfl fun h8 o8 k6=>LY66.b (o8.blk k4 (by omega)) (Ld_blk k6 rfl ?_)
  have e:(4194304:Int) - (4194304 - ((f.val d (o+i)).wgt:Int))=((f.val d (o+i)).wgt:Int):=by omega
  rw [e]
  refine hk t h8 (Only.grw (Only.grw (Only.grw G5 o6 (by omega)) o7 (by omega)) o8 (by omega)) ?_
  have w6:=VsA.fr (D':=Nw h4) o6.fr (fun z (hz:h4.size≤z) _ e=>by omega) (fun _ z=>z) _ w5
  have w7:=VsA.fr (D':=Nw h4) o7.fr (fun z (hz:h4.size≤z) _ e=>by omega) (fun _ z=>z) _ w6
  exact VsA.fr o8.fr (fun z (hz:h4.size≤z) _ e=>by omega) (fun z (hz:h4.size≤z)=>by have:=G4.1;show h.size≤z;omega) _ w7
end
end Go.Proofs.YtlbbdbdjiekkaaaGreatDoor
set_option maxRecDepth 100000
set_option maxHeartbeats 1000000
/- Ranges over values that stand in the heap; the values of an array. -/
namespace Go.Proofs.YtlbbdbdjiekkaaaGreatDoor
open Go Go.Sh Go.WideShapes
/-- yield is called in a heap that grew from one in which all stood; what is handed over is known there -/
def IterH {α:Type} (P:Program) (fv:Value) (xs:List α) (E:α→List Value→Hp→Hp→Prop) (Pre:Hp→Prop):Prop :=
  ∀ (l:Nat) (J:List α→Hp→Prop) (h:Hp),h.size=l+1→J [] h→(∀pre h1,J pre h1→Pre h1)→(∀pre h1 h2,Grw h1 h2→J pre h1→J pre h2) →
    (∀pre x suf hp h1 args,J pre hp→Grw hp h1→E x args hp h1→xs=pre++x::suf→YieldH P l args h1 (fun v h2=>v=.bool true∧J (pre++[x]) h2) NoP) →
    CallF P fv [.func (.yield l) #[] #[]] h (fun _ h2=>J xs h2) NoP
theorem range_ruleH {P:Program} {ann:Ann} {D:Nat→Array Oper→(Fr→Hp→Prop)→(List PanicEntry→Hp→Prop)→Fr→Hp→Prop} (hD:∀r,DrawOk P r D) {g:Operand} {ps:Array Tmp} {assign body:Code} {Q:Qt}
    {Kp:List PanicEntry→Hp→Prop} {fr:Fr} {h:Hp} {fv:Value} (hfv:ev fr g=some fv) {α:Type} {xs:List α} {E:α→List Value→Hp→Hp→Prop} {Pre:Hp→Prop} (hit:IterH P fv xs E Pre) (henc:∀x args hp h1,E x args hp h1→args.length=ps.size)
    (I:List α→Hp→Prop) (h0:I [] h) (hG:∀pre h1 h2,Grw h1 h2→I pre h1→I pre h2)
    (hI:∀l pre h1 h2,h.size≤l→Tw l h1 h2→I pre h1→I pre h2) (hPre:∀pre h1,I pre h1→Pre h1)
    (hbody:∀l pre x suf hp h1 args,I pre hp→Grw hp h1→E x args hp h1→xs=pre++x::suf→h.size≤l→(∃r,h1[l]? = some (.loop r))→∀(N:Hp→Prop) (X:Code→Hp→Prop),(∀h' h2,Tw l h1 h'→h2[l]? = h'[l]? → I (pre++[x]) h2→N h2) →
      roundSem P ann D l (ann.find (firstId assign+4000) fr) ps assign body args N X h1)
    (done:∀h2,I xs h2→Q .normal (ann.find (firstId assign+4000) fr) h2):sem P ann D none (.rangeFunc g ps assign body) Q Kp fr h:=by
  simp only [sem,hfv]
  intro fn tm hag
  simp only [enterH]
  have hsz:h.size≤(h.push (.deferred none)).size:=by simp
  have hgr:Grw h (h.push (.deferred none)):=Grw.push _ _
  have key:∀(hh:Hp) (d:Nat),Grw h hh→CallF P fv [.func (.yield hh.size) #[] #[]] (hh.push (.loop { state:=.ready,pending:=none,fn,tmps:=tm,params:=ps,assign,body,defers:=d }))
      (fun _ h'=>endH hh.size h' fun jump h''=>match jump with
        | none=>Q .normal (ann.find (firstId assign+4000) fr) h''
        | some .ret=>Q .ret (ann.find (firstId assign+4000) fr) h''
        | some (.exit id)=>Q (.exit id) (ann.find (firstId assign+4000) fr) h''
        | _=>False) Kp:=by
    intro hh d hgr
    have hsz:=hgr.1
    have hl0:(hh.push (.loop { state:=.ready,pending:=none,fn,tmps:=tm,params:=ps,assign,body,defers:=d }))[hh.size]? = some (.loop { state:=.ready,pending:=none,fn,tmps:=tm,params:=ps,assign,body,defers:=d }):=push_at rfl
    let Fld:Loop→Prop:=fun r=>r.tmps=tm∧r.params=ps∧r.assign=assign∧r.body=body
    refine CallF_mono (hit hh.size (fun pre h1=>I pre h1∧∃r,h1[hh.size]? = some (.loop r)∧r.state=.ready∧r.pending=none∧Fld r) _
      (by simp) ⟨hG _ _ _ (Grw.trans hgr (Grw.push _ _)) h0,_,hl0,rfl,rfl,rfl,rfl,rfl,rfl⟩ (fun pre h1 hj=>hPre pre h1 hj.1) ?_ ?_) ?_ (fun _ _ hp=>hp.elim)
    · rintro pre h1 h2 hg ⟨hi,r,hr,hrest⟩
      exact ⟨hG _ _ _ hg hi,r,grw_loop hg hr,hrest⟩
    · rintro pre x suf hp h1 args ⟨hi,r,hr0,hst,hpd,f1,f2,f3,f4⟩ hg hE hxs
      have hr:=grw_loop hg hr0
      have hb:=hbody hh.size pre x suf hp h1 args hi hg hE hxs hsz ⟨r,hr⟩
        (fun h2=>I (pre++[x]) h2∧∃r2,h2[hh.size]? = some (.loop r2)∧Fld r2) (fun _ _=>False) ?_
      · refine YieldH_of (ann:=ann) hD (fr:=ann.find (firstId assign+4000) fr) hr hst (by rw [f2];exact henc x args hp h1 hE) (by rw [f1];exact hag) (by rw [f2,f3,f4];exact hb) ?_ ?_
        · rintro h2 ⟨hi2,r2,hr2,g1,g2,g3,g4⟩
          refine ⟨r2,hr2,rfl,hI _ _ _ _ hsz (tw_set hr2) hi2,{ r2 with state:=.ready,pending:=none },?_,rfl,rfl,g1,g2,g3,g4⟩
          rw [Array.getElem?_setIfInBounds];simp [(Array.getElem?_eq_some_iff.1 hr2).1]
        · exact fun c h2 q=>q.elim
      · rintro h' h2 ⟨_,_,r',st',pd',ht1,ht2⟩ heq hi2
        rw [hr] at ht1;cases ht1
        exact ⟨hi2,_,heq.trans ht2,f1,f2,f3,f4⟩
    · rintro v h2 ⟨hi,r,hr,hst,hpd,_⟩
      simp only [endH,hr,hst,hpd]
      exact ⟨by simp,done _ (hI _ _ _ _ hsz (tw_set hr) hi)⟩
  exact key _ _ hgr
theorem R18H {x2:Sl} {x3:Addr} {x7:Value} {K:Sl→HP} {Kp:PK} {h:Hp} {α:Type} {xs:List α} (E:α→Int→Bool→Int→ByteArray→Sl→Hp→Hp→Prop) {Pre:Hp→Prop} (hit:IterH Tryz.prog x7 xs (fun y args hp h1=>∃y0 y1 y2 y3 y4,args=[(.int .i64 y0),(.agg #[(.bool y1),(.int .i64 y2),(.string y3),(Sl.v y4)])]∧E y y0 y1 y2 y3 y4 hp h1) Pre) (I:List α→Hp→Prop) (h0:I [] h)
    (hG:∀pre h1 h2,Grw h1 h2→I pre h1→I pre h2) (hI:∀l pre h1 h2,h.size≤l→Tw l h1 h2→I pre h1→I pre h2) (hPre:∀pre h1,I pre h1→Pre h1)
    (hbody:∀l pre y suf hp h1 y0 y1 y2 y3 y4,I pre hp→Grw hp h1→E y y0 y1 y2 y3 y4 hp h1→xs=pre++y::suf→h.size≤l→(∃r,h1[l]? = some (.loop r))→∀(N:Hp→Prop) (X:Code→Hp→Prop),(∀h' h2,Tw l h1 h'→h2[l]? = h'[l]? → I (pre++[y]) h2→N h2)→RT18_1 l N X x2 x3 x7 y0 y1 y2 y3 y4 h1)
    (done:∀h2,I xs h2→RD18_1 K Kp x2 x3 x7 h2):R18_1 K Kp x2 x3 x7 h :=
  Eq.mp (by kernel_rfl) (range_ruleH (P:=Tryz.prog) (ann:=ann18) (D:=(DrawSem Tryz.prog ord18)) (fun _=>drawOk _) (g:=.tmp 7) (ps:=#[8,9]) (assign:=sub [1,1,0,1,0,0] code18) (body:=sub [1,1,0,1,0,1] code18) (Q:=ctxQ Tryz.prog ann18 (DrawSem Tryz.prog ord18) none Kp [1,1,0,1,0] code18 [] (retQ Tryz.prog Tryz.f20.results.toList z18 (kv18 K))) (Kp:=Kp) (fr:=([nO,nO,vS x2,vP x3,nO,nO,nO,some x7]++nn 9)) (h:=h) (fv:=x7) (by kernel_rfl)
    hit (fun _ _ _ _ ea=>by obtain ⟨_,_,_,_,_,rfl,_⟩:=ea;rfl) I h0 hG hI hPre
    (by
      intro l pre y suf hp h1 args e0 e00 ea e1 e2 e3 N X hN
      obtain ⟨y0,y1,y2,y3,y4,rfl,eE⟩:=ea
      exact Eq.mp (by kernel_rfl) (hbody l pre y suf hp h1 y0 y1 y2 y3 y4 e0 e00 eE e1 e2 e3 N X hN))
    (fun h2 hi=>Eq.mp (by kernel_rfl) (done h2 hi)))
end Go.Proofs.YtlbbdbdjiekkaaaGreatDoor
set_option maxRecDepth 100000
set_option maxHeartbeats 1000000
/- The values of an array, told. -/
namespace Go.Proofs.YtlbbdbdjiekkaaaGreatDoor
open Go Go.Sh Go.WideShapes
theorem cell_nl {h:Hp} {a:Addr} {v:Value} {l:Nat} {r:Loop} (c:cell h a=some v) (hl:h[l]? = some (.loop r)):a.block≠l:=by
  intro e
  unfold Go.Sh.cell at c
  rw [e,hl] at c
  simp at c
section
variable {D:Nat→Prop} {h h':Hp} {l:Nat} {r:Loop}
theorem VA.nlb (hl:h[l]? = some (.loop r)) {a:Addr} {v:Val} (hv:VA D h a v):a.block≠l:=by
  obtain ⟨s,c,_⟩:=hv.row
  exact cell_nl (Cs.c0 c) hl
mutual
theorem VsA.nl (hl:h[l]? = some (.loop r)):∀{s:Sl} (vs:List Val),VsA D h s vs→VsA (fun b=>D b∧b≠l) h s vs
  | _,[],hh=>by unfold VsA at hh ⊢;exact hh
  | _,v::vs,hh=>by
    unfold VsA at hh ⊢
    obtain ⟨a,b,p,e,q,x,y⟩:=hh
    exact ⟨a,b,p,e,⟨q,x.nlb hl⟩,VA.nl hl v x,VrA.nl hl vs y⟩
theorem VrA.nl (hl:h[l]? = some (.loop r)):∀{a:Addr} {i:Nat} (vs:List Val),VrA D h a i vs→VrA (fun b=>D b∧b≠l) h a i vs
  | _,_,[],_=>by unfold VrA;trivial
  | _,i,v::vs,hh=>by unfold VrA at hh ⊢;exact ⟨VA.nl hl v hh.1,VrA.nl hl vs hh.2⟩
theorem VA.nl (hl:h[l]? = some (.loop r)):∀{a:Addr} (v:Val),VA D h a v→VA (fun b=>D b∧b≠l) h a v
  | _, .mk n x t vs,hh=>by
    unfold VA at hh ⊢
    obtain ⟨s,hc,h1⟩:=hh
    exact ⟨s,hc,VsA.nl hl vs h1⟩
end
theorem VsA.tw (t:Tw l h h') {s:Sl} {vs:List Val} (v:VsA D h s vs):VsA D h' s vs:=by
  obtain ⟨r,_,_,hr,_⟩:=t.2.2
  exact VsA.fr t.only.fr (fun b hb _ e=>hb.2 e) (fun b hb=>hb.1) _ (VsA.nl hr _ v)
end
/-- a list of values that grows -/
structure Lv (h0 h:Hp) (x:Sl) (vs:List Val):Prop where
  ss:∃ss:List Sl,ss.length=vs.length∧RowS h0.size 4 h x (List.zipWith Val.row vs ss) Y66∧∀(j:Nat) (v:Val) (t:Sl),vs[j]? = some v→ss[j]? = some t→VsA (fun c=>h0.size≤c∧¬x.at c) h t v.items
theorem Lv.gr {h0 h h':Hp} {x:Sl} {vs:List Val} (v:Lv h0 h x vs) (g:Grw h h'):Lv h0 h' x vs:=by
  obtain ⟨ss,q1,q2,q3⟩:=v
  exact ⟨ss,q1,q2.grw g,fun j v t e1 e2=>(q3 j v t e1 e2).gr g⟩
theorem Lv.tw {h0 h h':Hp} {x:Sl} {vs:List Val} {l:Nat} (v:Lv h0 h x vs) (t:Tw l h h'):Lv h0 h' x vs:=by
  obtain ⟨ss,q1,q2,q3⟩:=v
  exact ⟨ss,q1,⟨q2.len,q2.n,(q2.sh.tw t).wide (Nat.le_refl _) (Nat.le_of_eq t.1.symm)⟩,fun j v u e1 e2=>VsA.tw t (q3 j v u e1 e2)⟩
theorem Lv.at {h0 h:Hp} {x:Sl} {vs:List Val} (v:Lv h0 h x vs) {c:Nat} (hc:x.at c):h0.size≤c∧c < h.size:=by
  obtain ⟨ss,q1,q2,q3⟩:=v
  exact q2.at hc
theorem Lv.n {h0 h:Hp} {x:Sl} {vs:List Val} (v:Lv h0 h x vs):x.n=vs.length:=by
  obtain ⟨ss,q1,q2,q3⟩:=v
  have:=q2.n
  rw [List.length_zipWith,q1,Nat.min_self] at this
  exact this
abbrev allV (a1:Nat):Value:=.func (.func I103) #[] #[.pointer (some ⟨a1,0,none⟩)]
/-- what is handed to the body -/
abbrev EV (v:Val) (_:Int) (y1:Bool) (y2:Int) (y3:ByteArray) (y4:Sl) (hp h1:Hp):Prop:=y1=v.nul∧y2=v.num∧y3=bs v.text∧VsA (Nw hp) h1 y4 v.items
theorem vals_iter {D:Nat→Prop} {hb:Hp} {b a1 b3:Nat} {f:Fld} {d:Dat} {o n:Nat} {s:Sl} {q:Sl × Sl × Sl} (V:Av D hb b f d o n s q) (tb:UTab hb) (k1:Blk hb a1 #[.pointer (some ⟨b,0,none⟩)] Y42) (hb3:¬D b3∧b≠b3∧a1≠b3∧2 < b3) :
    IterH Tryz.prog (allV a1) (avs f d o n) (fun v args hp h1=>∃y0 y1 y2 y3 y4,args=[(.int .i64 y0),(.agg #[(.bool y1),(.int .i64 y2),(.string y3),(Sl.v y4)])]∧EV v y0 y1 y2 y3 y4 hp h1) (fun h=>Tn (·=b3) hb h):=by
  intro lb J h hsz hJ0 hPre hG Y
  have bd:=V.bd
  have hok:okFn Tryz.prog I103=true:=by kernel_rfl
  unfold CallF allV
  simp only [hok,List.nil_append,List.cons_append]
  refine CallH.mono (Fn103.of (K:=fun h2=>J (avs f d o n) h2) (Kp:=NoP) ?_) (fun _ _ hh=>hh.2) (fun _ _ hh=>hh)
  have t0:=hPre _ _ hJ0
  have fr:∀{h':Hp},Tn (·=b3) hb h'→Av D h' b f d o n s q∧Blk h' a1 #[.pointer (some ⟨b,0,none⟩)] Y42∧UTab h':=fun t =>
    ⟨V.fr t hb3.2.1 (fun z hz e=>hb3.1 (e ▸ hz)) fun _ z=>z,t.blk k1 hb3.2.2.1,tb.fr t (by have:=hb3.2.2.2;omega) (by have:=hb3.2.2.2;omega)⟩
  refine Ld_blk (fr t0).2.1 rfl ?_
  simp only [NN_some,add_blk]
  refine Ld_blk (fr t0).1.A.k rfl ?_
  have tot:=arr_wt V.ar V.lo V.hi
  have sumle:∀j,wsum ((avs f d o n).take j)≤wsum (avs f d o n):=fun j=>by rw [wsum_take,wsum_eq];have:=sum_cut (l:=(avs f d o n).map Val.wgt) 0 j;simpa using this
  refine L103_1.rule (fun x3 x12 h'=>∃i:Nat,x12=i∧i≤n∧x3=4194304 - (wsum ((avs f d o n).take i):Nat)∧J ((avs f d o n).take i) h') (fun _ x12 _=>n - x12.toNat) ⟨0,rfl,by omega,by simp [wsum],by simpa using hJ0⟩ ?_
  rintro x3 x12 h1 ⟨i,rfl,hi,rfl,j1⟩ N1 hN
  obtain ⟨V1,k11,tb1⟩:=fr (hPre _ _ j1)
  refine If_i (fun c => ?_) fun c => ?_
  · simp only [sm,reduceCtorEq] at c
    have hi':i < n:=by omega
    have hvi:=avs_get (f:=f) (d:=d) (o:=o) hi'
    have hvw:((avs f d o n).map Val.wgt)[i]? = some (f.val d (o+i)).wgt:=by simp [hvi]
    have hss:=sum_take_succ hvw
    rw [←wsum_take,←wsum_take] at hss
    have hsl:=sumle (i+1)
    have htk:(avs f d o n).take (i+1)=(avs f d o n).take i++[f.val d (o+i)]:=by rw [List.take_add_one,hvi];rfl
    have hxs:avs f d o n=(avs f d o n).take i++f.val d (o+i)::(avs f d o n).drop (i+1):=by
      conv=>lhs;rw [←List.take_append_drop (i+1) (avs f d o n),htk]
      simp
    refine Ld_blk k11 rfl (get_v V1 tb1 rfl hi' fun t h2 g2 w2=>New_i fun b5 h3 e5 g3 k5 _=>SY66.b k5 rfl fun h4 o4 k5=>Wr_i64 (by omega) (by omega) (If_f rfl ?_))
    have g4:Grw h2 h4:=Only.grw g3 o4 (by omega)
    have e0:decide ((4194304:Int) - (wsum ((avs f d o n).take i):Nat) - ((f.val d (o+i)).wgt:Int) < 0)=false:=by rw [decide_eq_false_iff_not];omega
    rw [e0]
    refine J103_2.of (If_f rfl (LY66.b k5 ?_))
    unfold CallV
    simp only [List.nil_append]
    refine YieldH.mono (Y ((avs f d o n).take i) (f.val d (o+i)) _ h1 h4 _ j1 (Grw.trans g2 g4) ⟨_,_,_,_,_,rfl,rfl,rfl,rfl,w2.gr g4⟩ hxs) (fun v h5 hv => ?_) (fun _ _ q=>q)
    obtain ⟨rfl,j5⟩:=hv
    refine ⟨true,rfl,If_f rfl (Wr_i64 (by omega) (by omega) (hN _ _ _ ⟨i+1,by omega,by omega,by omega,by rw [htk];exact j5⟩ (by omega)))⟩
  · simp only [sm,reduceCtorEq] at c
    obtain rfl:i=n:=by omega
    rw [List.take_of_length_le (by rw [avs_len];omega)] at j1
    exact j1
theorem Values_v {D:Nat→Prop} {h:Hp} {b:Nat} {f:Fld} {d:Dat} {o n:Nat} {s:Sl} {q:Sl × Sl × Sl} {K:Sl→HP} {Kp:PK} (V:Av D h b f d o n s q) (tb:UTab h) (hk:∀t h',Grw h h'→VsA (Nw h) h' t (avs f d o n)→K t h'):Fn18 (some ⟨b,0,none⟩) h K Kp:=by
  have ab:=V.A.k.lt
  have t2:=tb.b2
  have bd:=V.bd
  refine Fn18.of (New_i fun b3 h1 e3 g1 k3 s3=>Fn55.of (New_i fun a1 hb e1 g2 k1 s1 => ?_))
  have G:=Grw.trans g1 g2
  have k3:=k3.grw g2
  have k3l:=k3.lt
  have Gs:=G.1
  have Vb:=V.lt.gr G
  refine R18H EV (vals_iter Vb (tb.grw G) k1 (b3:=b3) ⟨fun e=>by have:=e.2;omega,by omega,by omega,by omega⟩) (fun pre h1=>Tn (·=b3) hb h1∧∃x,Blk h1 b3 #[Sl.v x] Y52∧Lv hb h1 x pre)
    ⟨Tn.refl _ _,Sl.nil,k3,⟨[],rfl,RowS.nil _ _ _ _,by simp⟩⟩ ?_ ?_ (fun pre h1 hi=>hi.1) ?_ ?_
  · rintro pre h1 h2 g ⟨t,x,k,v⟩
    exact ⟨t.trans (Tn.of_grw g),x,k.grw g,v.gr g⟩
  · rintro l pre h1 h2 hl tw ⟨t,x,k,v⟩
    exact ⟨t.trans' tw.only.fr fun z hz hlt=>by omega,x,tw.only.blk k (by omega),v.tw tw⟩
  · rintro l pre y suf hp h1 y0 y1 y2 y3 y4 ⟨tp,x,kp,vp⟩ g01 ⟨rfl,rfl,rfl,w1⟩ hxs hl hrec N X hN
    have hl1:l < h1.size:=by obtain ⟨r,hr⟩:=hrec;exact (Array.getElem?_eq_some_iff.1 hr).1
    have tps:=tp.1
    have g01s:=g01.1
    have xn:=vp.n
    have pl:pre.length < n:=by have:=congrArg List.length hxs;rw [avs_len] at this;simp at this;omega
    unfold RT18_1
    refine New_i fun b5 h2 e5 g12 k5 _=>SY66.b k5 rfl fun h3 o3 k5 => ?_
    have g13:Grw h1 h3:=Only.grw g12 o3 (by omega)
    have g13s:=g13.1
    refine ⟨g13.2 l hl1,fun h4 t4 => ?_⟩
    have o4:=t4.only
    have s4:h4.size=h3.size:=t4.1
    have k5:=o4.blk k5 (by omega)
    have k34:Blk h4 b3 #[Sl.v x] Y52:=o4.blk ((kp.grw g01).grw g13) (by omega)
    have v4:=((vp.gr g01).gr g13).tw t4
    have w4:VsA (Nw hp) h4 y4 y.items:=VsA.tw t4 (w1.gr g13)
    obtain ⟨ht,tback,eback⟩:=Tw.back g13 t4 hrec
    refine Ld_blk k34 rfl (LY66.b k5 (New_i fun b13 h5 e13 g5 k13 _=>Keep_blk k5 g5 (Keep_blk k34 g5 ?_)))
    have g5s:=g5.1
    obtain ⟨ss,q1,q2,q3⟩:=v4
    have noloop:=q2.sh.noloop t4
    have xat:∀c,x.at c→hb.size≤c∧c < hp.size:=fun c hc=>vp.at hc
    have hz1:(List.zipWith Val.row pre ss).length=pre.length:=by rw [List.length_zipWith,q1,Nat.min_self]
    refine (q2.grw g5).ap (by omega) rfl (new:=[[.bool false, .int .i64 0, .string (bs []),Sl.v Sl.nil]]) rfl (fun r hr=>by simp at hr;subst hr;rfl) (fun r hr=>by simp at hr;subst hr;intro v hv;simp at hv;rcases hv with rfl | rfl | rfl | rfl <;> rfl) (rd_blk k13 rfl) (by omega) (by omega) fun s' h6 f6 at6 o6 => ?_
    have f6s:=f6.1
    rcases o6.cases with ⟨_,e⟩ | ⟨bb,hbb,oR⟩
    · exact absurd e (by simp)
    have sat:s'.at bb:=⟨⟨bb,0,none⟩,oR.a,rfl⟩
    have sat':∀c,s'.at c→c=bb:=by
      rintro c ⟨a,ha,rfl⟩
      rw [oR.a] at ha;cases ha;rfl
    have k36:Blk h6 b3 #[Sl.v x] Y52:=f6.blk (k34.grw g5) fun hc=>by have:=xat _ hc;omega
    have hlen:pre.length < (List.zipWith Val.row pre ss++[[.bool false, .int .i64 0, .string (bs []),Sl.v Sl.nil]]).length:=by simp;omega
    have hset:(List.zipWith Val.row pre ss++[[.bool false, .int .i64 0, .string (bs []),Sl.v Sl.nil]]).set pre.length (y.row y4)=List.zipWith Val.row (pre++[y]) (ss++[y4]):=by
      rw [List.zipWith_append (by omega),List.set_append_right _ _ (by omega),hz1]
      simp
    have nbl:bb≠l:=fun e=>by
      rcases at6 _ sat with z | z
      · exact noloop (e ▸ z)
      · omega
    have l6:h6[l]? = h4[l]? := (f6.2 l (by omega) noloop).trans (g5.2 l (by omega))
    -- the end of both ways
    have fin:∀h8,RowH 4 h8 s' bb (List.zipWith Val.row (pre++[y]) (ss++[y4])) Y66→Blk h8 b3 #[Sl.v s'] Y52→Tn (fun c=>c=bb∨c=b3) h6 h8→N h8:=by
      intro h8 oR8 k38 t8
      refine hN ht h8 tback ?_ ⟨?_,s',k38,⟨ss++[y4],by simp [q1],⟨oR8.len,oR8.n, .inr ⟨bb,hbb,oR8.lt,oR8.own⟩⟩,fun j v u e1 e2 => ?_⟩⟩
      · rw [t8.2 l (by omega) (by omega),l6];exact eback
      · refine (((((tp.trans (Tn.of_grw g01)).trans (Tn.of_grw g13)).trans' o4.fr fun z hz hlt=>by omega).trans (Tn.of_grw g5)).trans' f6 fun z hz hlt=>by have:=xat z hz;omega).trans' t8 fun z hz hlt => ?_
        rcases hz with rfl | rfl
        · omega
        · rfl
      · have new:∀{u:Sl} {ws:List Val},VsA (fun c=>hb.size≤c∧¬x.at c) h4 u ws→VsA (fun c=>hb.size≤c∧¬s'.at c) h8 u ws:=fun {u ws} z=>by
          have z1:=VsA.fr (S:=No) (D':=fun c=>(hb.size≤c∧¬x.at c)∧c < h4.size) (Tn.of_grw g5) (fun _ _ _=>id) (fun _ q=>q) _ (VsA.lt _ z)
          have z2:=VsA.fr (D':=fun c=>hb.size≤c∧¬s'.at c) f6 (fun b hb _ q=>hb.1.2 q) (fun b hb=>⟨hb.1.1,fun q=>by
            rcases at6 b q with q | q
            · exact hb.1.2 q
            · have:=hb.2;omega⟩) _ z1
          exact VsA.fr t8 (fun b hb _ e=>by
            rcases e with rfl | rfl
            · exact hb.2 sat
            · have:=hb.1;omega) (fun _ q=>q) _ z2
        by_cases hj:j < pre.length
        · rw [List.getElem?_append_left hj] at e1
          rw [List.getElem?_append_left (by omega)] at e2
          exact new (q3 j v u e1 e2)
        · have hj2:=(List.getElem?_eq_some_iff.1 e1).1
          simp only [List.length_append,List.length_singleton] at hj2
          obtain rfl:j=pre.length:=by omega
          rw [List.getElem?_append_right (Nat.le_refl _)] at e1
          rw [←q1,List.getElem?_append_right (Nat.le_refl _)] at e2
          simp at e1 e2
          subst e1 e2
          exact new (w4.mo fun c (hc:hp.size≤c)=>⟨by omega,fun q=>by have:=xat c q;omega⟩)
    refine oR.ix (by omega) hlen ⟨SY66.l (oR.set hlen (r:=y.row y4) rfl (vrow_one y y4) fun h7 o7 oR7 => ?_),?_⟩
    · rw [hset] at oR7
      refine St_i (o7.blk k36 (by omega)) (by simp) rfl fun h8 o8 k38=>fin h8 (oR7.fr o8.fr (by omega)) (by simpa using k38) ((o7.fr.mono fun _ z _=>.inl z).trans (o8.fr.mono fun _ z _=>.inr z))
    · refine St_i k36 (by simp) rfl fun h7 o7 k37=>SY66.l ((oR.fr o7.fr (by omega)).set hlen (r:=y.row y4) rfl (vrow_one y y4) fun h8 o8 oR8 => ?_)
      rw [hset] at oR8
      have k37:Blk h7 b3 #[Sl.v s'] Y52:=by simpa using k37
      exact fin h8 oR8 (o8.blk k37 (by omega)) ((o7.fr.mono fun _ z _=>.inr z).trans (o8.fr.mono fun _ z _=>.inl z))
  · rintro h2 ⟨t,x,k,ss,q1,q2,q3⟩
    unfold RD18_1
    refine Ld_blk k rfl (hk x h2 (((Tn.of_grw G:Tn No h hb).trans' t fun z hz hlt=>by omega).grw) ?_)
    exact VsA.snoc q2 q1 (fun c hc=>by show h.size≤c;omega) fun j v u e1 e2=>(q3 j v u e1 e2).mo fun c hc=>by have:=hc.1;show h.size≤c;omega
end Go.Proofs.YtlbbdbdjiekkaaaGreatDoor
