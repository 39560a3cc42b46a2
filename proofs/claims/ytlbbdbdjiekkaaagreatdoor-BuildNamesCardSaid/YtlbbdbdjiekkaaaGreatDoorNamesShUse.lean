/- Lemmas by which the printed texts are proved: words by their goals, blocks, slices, bytes. -/
import Derived.Test.YtlbbdbdjiekkaaaGreatDoorNamesShRange
set_option linter.unusedVariables false
set_option linter.unusedSimpArgs false
namespace Go.Sh
/-! ### words -/
theorem If_i {c:Bool} {A B:Prop} (h1:c=true→A) (h2:c=false→B):If c A B:=by cases c;exact h2 rfl;exact h1 rfl
theorem If_t {c:Bool} {A B:Prop} (hc:c=true) (h:A):If c A B:=by subst hc;exact h
theorem If_f {c:Bool} {A B:Prop} (hc:c=false) (h:B):If c A B:=by subst hc;exact h
theorem Wr_i64 {x:Int} {K:Int→Prop} (h1 : -9223372036854775808≤x) (h2:x≤9223372036854775807) (h:K x):Wr .i64 x K:=by
  have:IntKind.wrap .i64 x=x:=by rw [IntKind.wrap_i64];omega
  unfold Wr;rw [this];exact h
theorem Dv_i {b:Int} {X:Prop} (h:b≠0) (x:X):Dv b X:=⟨h,x⟩
theorem Nn_i {b:Int} {X:Prop} (h:0≤b) (x:X):Nn b X:=⟨h,x⟩
theorem YieldH.mono {P:Program} {l:Nat} {args:List Value} {h:Hp} {K K':Value→Hp→Prop} {Kp Kp':List PanicEntry→Hp→Prop} (hh:YieldH P l args h K Kp) (hk:∀s h,K s h→K' s h) (hp:∀c h,Kp c h→Kp' c h):YieldH P l args h K' Kp' :=
  CallV_mono (fv:=.func (.yield l) #[] #[]) hh hk hp
/-! ### blocks -/
def Blk (h:Hp) (b:Nat) (cs:Array Value) (el:TypeId):Prop:=h[b]? = some (.cells cs el (0,0))
theorem Blk.lt {h:Hp} {b:Nat} {cs:Array Value} {el:TypeId} (hb:Blk h b cs el):b < h.size:=(Array.getElem?_eq_some_iff.1 hb).1
theorem Blk.grw {h h':Hp} {b:Nat} {cs:Array Value} {el:TypeId} (hb:Blk h b cs el) (g:Grw h h'):Blk h' b cs el:=(g.2 b hb.lt).trans hb
theorem add_blk (b o n:Nat):(Addr.mk b o none).add n=⟨b,o+n,none⟩:=by unfold Addr.add;split <;> simp_all
theorem cell_blk {h:Hp} {b i:Nat} {cs:Array Value} {el:TypeId} (hb:Blk h b cs el):cell h ⟨b,i,none⟩=cs[i]? := by
  have hb':h[b]? = some (.cells cs el (0,0)):=hb
  simp [cell,hb']
theorem frz_blk {h:Hp} {b i:Nat} {cs:Array Value} {el:TypeId} (hb:Blk h b cs el):frz h ⟨b,i,none⟩=false:=by
  have hb':h[b]? = some (.cells cs el (0,0)):=hb
  simp [frz,hb']
theorem put_size (h:Hp) (a:Addr) (v:Value):(put h a v).size=h.size:=by simp [put]
theorem put_ne {h:Hp} {a:Addr} {v:Value} {c:Nat} (hc:c≠a.block):(put h a v)[c]? = h[c]? := by
  unfold put;rw [Array.getElem?_modify,if_neg (fun e=>hc e.symm)]
theorem put_blk {h:Hp} {b i:Nat} {v:Value} {cs:Array Value} {el:TypeId} (hb:Blk h b cs el):Blk (put h ⟨b,i,none⟩ v) b (cs.setIfInBounds i v) el:=by
  have hb':h[b]? = some (.cells cs el (0,0)):=hb
  unfold Blk put;rw [Array.getElem?_modify,if_pos rfl,hb'];simp
/-- the one block b has turned -/
def Only (b:Nat) (h h':Hp):Prop:=h'.size=h.size∧∀c,c≠b→h'[c]? = h[c]?
theorem Only.grw {b:Nat} {h0 h h':Hp} (g:Grw h0 h) (o:Only b h h') (hb:h0.size≤b):Grw h0 h' :=
  ⟨by rw [o.1];exact g.1,fun c hc=>(o.2 c (by omega)).trans (g.2 c hc)⟩
theorem Only.blk {b c:Nat} {h h':Hp} {cs:Array Value} {el:TypeId} (o:Only b h h') (hc:Blk h c cs el) (hn:c≠b):Blk h' c cs el:=(o.2 c hn).trans hc
theorem New_i {h:Hp} {cs:Array Value} {t:TypeId} {K:Addr→Hp→Prop} (hk:∀b h',b=h.size→Grw h h'→Blk h' b cs t→h'.size=h.size+1→K ⟨b,0,none⟩ h'):New h cs t K :=
  hk h.size _ rfl (Grw.push h _) (by simp [Blk]) (by simp)
theorem St_i {h:Hp} {b i:Nat} {cs:Array Value} {el:TypeId} {v:Value} {K:Hp→Prop} (hb:Blk h b cs el) (hi:i < cs.size) (hv:one v=true)
    (hk:∀h',Only b h h'→Blk h' b (cs.setIfInBounds i v) el→K h'):St h ⟨b,i,none⟩ v K :=
  ⟨hv,by rw [cell_blk hb];simp [hi],frz_blk hb,hk _ ⟨put_size _ _ _,fun c hc=>put_ne (a:=⟨b,i,none⟩) hc⟩ (put_blk hb)⟩
theorem Ld_blk {α:Type} {h:Hp} {b i:Nat} {cs:Array Value} {el:TypeId} {mk:α→Value} {K:α→Prop} {x:α} (hb:Blk h b cs el) (hc:cs[i]? = some (mk x)) (hk:K x):Ld h ⟨b,i,none⟩ mk K :=
  ⟨x,by rw [cell_blk hb];exact hc,hk⟩
theorem Grw.cell {h h':Hp} {a:Addr} (g:Grw h h') {v:Value} (hc:cell h a=some v):cell h' a=some v:=by
  have:a.block < h.size:=by
    unfold Go.Sh.cell at hc;split at hc
    · rename_i e;exact (Array.getElem?_eq_some_iff.1 e).1
    · simp at hc
  unfold Go.Sh.cell at hc ⊢;rw [g.2 _ this];exact hc
theorem Tw.only {l:Nat} {h h':Hp} (t:Tw l h h'):Only l h h':=⟨t.1,t.2.1⟩
theorem rd_blk {h:Hp} {b n:Nat} {cs:Array Value} {el:TypeId} (hb:Blk h b cs el) (hn:cs.size=n):rd h (some ⟨b,0,none⟩) n cs.toList :=
  ⟨by simpa using hn,fun i v hv=>by rw [add_blk,Nat.zero_add,cell_blk hb];simpa using hv⟩
/-! ### slices read -/
def Cs (h:Hp) (a:Addr) (vs:List Value):Prop:=∀(i:Nat) v,vs[i]? = some v→cell h (a.add i)=some v
/-- the slice holds these (things of one cell) -/
def Sv (h:Hp) (s:Sl) (vs:List Value):Prop:=s.n=vs.length∧s.n≤s.c∧∀x,s.n=x+1→∃a,s.a=some a∧Cs h a vs
theorem Cs.grw {h h':Hp} {a:Addr} {vs:List Value} (hc:Cs h a vs) (g:Grw h h'):Cs h' a vs:=fun i v hv=>g.cell (hc i v hv)
theorem Sv.grw {h h':Hp} {s:Sl} {vs:List Value} (hs:Sv h s vs) (g:Grw h h'):Sv h' s vs :=
  ⟨hs.1,hs.2.1,fun x hx=>by obtain ⟨a,h1,h2⟩:=hs.2.2 x hx;exact ⟨a,h1,h2.grw g⟩⟩
theorem Sv.ix {h:Hp} {s:Sl} {vs:List Value} (hs:Sv h s vs) {i:Int} {K:Addr→Prop} (h0:0≤i) (h1:i < s.n) {v:Value} (hv:vs[i.toNat]? = some v) (hk:∀a,cell h a=some v→K a):Ix s.a s.n 1 i K:=by
  obtain ⟨a,ha,hc⟩:=hs.2.2 (s.n - 1) (by omega)
  unfold Ix;rw [ha]
  exact ⟨h0,h1,hk _ (by rw [Nat.mul_one];exact hc _ _ hv)⟩
/-! ### slices owned: a whole block -/
def Own (h:Hp) (s:Sl) (b:Nat) (vs:List Value) (el:TypeId):Prop:=s.a=some ⟨b,0,none⟩∧s.n=vs.length∧∃cs,Blk h b cs el∧s.n≤s.c∧cs.size=s.c∧∀i,i < s.n→cs[i]? = vs[i]?
theorem Own.sv {h:Hp} {s:Sl} {b:Nat} {vs:List Value} {el:TypeId} (o:Own h s b vs el):Sv h s vs:=by
  obtain ⟨h1,h2,cs,h3,h4,h5,h6⟩:=o
  refine ⟨h2,h4,fun x hx=>⟨_,h1,fun i v hv => ?_⟩⟩
  have hi:i < vs.length:=(List.getElem?_eq_some_iff.1 hv).1
  rw [add_blk,Nat.zero_add,cell_blk h3,h6 i (by omega)];exact hv
theorem Own.grw {h h':Hp} {s:Sl} {b:Nat} {vs:List Value} {el:TypeId} (o:Own h s b vs el) (g:Grw h h'):Own h' s b vs el:=by
  obtain ⟨h1,h2,cs,h3,h4⟩:=o;exact ⟨h1,h2,cs,h3.grw g,h4⟩
theorem Own.ixSt {h:Hp} {s:Sl} {b:Nat} {vs:List Value} {el:TypeId} (o:Own h s b vs el) {i:Int} {K:Addr→Prop} (h0:0≤i) (h1:i < s.n) (hk:K ⟨b,i.toNat,none⟩):Ix s.a s.n 1 i K:=by
  unfold Ix;rw [o.1];refine ⟨h0,h1,?_⟩;rw [add_blk];simpa using hk
theorem Own.st {h:Hp} {s:Sl} {b:Nat} {vs:List Value} {el:TypeId} (o:Own h s b vs el) {i:Nat} (hi:i < s.n) {v:Value} (hv:one v=true) {K:Hp→Prop}
    (hk:∀h',Only b h h'→Own h' s b (vs.set i v) el→K h'):St h ⟨b,i,none⟩ v K:=by
  obtain ⟨h1,h2,cs,h3,h4,h5,h6⟩:=o
  refine St_i h3 (by omega) hv fun h' ho hb=>hk h' ho ⟨h1,by simp [h2],_,hb,h4,by simp [h5],fun j hj => ?_⟩
  rw [Array.getElem?_setIfInBounds,List.getElem?_set]
  have:=h6 j hj
  split
  · rename_i e;subst e;rw [if_pos (by omega),if_pos (by omega)]
  · exact this
theorem Own.ld {α:Type} {h:Hp} {s:Sl} {b:Nat} {vs:List Value} {el:TypeId} (o:Own h s b vs el) {i:Nat} (hi:i < s.n) {mk:α→Value} {x:α} (hv:vs[i]? = some (mk x)) {K:α→Prop} (hk:K x):Ld h ⟨b,i,none⟩ mk K:=by
  obtain ⟨h1,h2,cs,h3,h4,h5,h6⟩:=o
  exact Ld_blk h3 ((h6 i hi).trans hv) hk
theorem zs_one (z:Value) (n:Nat):zs #[z] (n*1)=Array.replicate n z:=by
  apply Array.ext
  · simp [zs]
  · intro i h1 h2;simp [zs,Nat.mod_one]
theorem MkS_i {h:Hp} {el:TypeId} {z:Value} {bytes:Nat} {l:Int} {K:Sl→Hp→Prop} (h0:0≤l) (h1:(bytes:Int)*l≤2 ^ 48) (h2:l < 2 ^ 63)
    (hk:∀s h',Grw h h'→Own h' s h.size (List.replicate l.toNat z) el→h'.size=h.size+1→K s h'):MkS h el #[z] 1 bytes l l K:=by
  refine ⟨h0,Int.le_refl _,h1,h2,hk _ _ (Grw.push h _) ⟨rfl,by simp,zs #[z] (l.toNat*1),?_,Nat.le_refl _,?_,?_⟩ (by simp)⟩
  · simp [Blk]
  · simp [zs]
  · intro i hi
    simp only [zs_one,Array.getElem?_replicate,List.getElem?_replicate]
end Go.Sh
