/- A symbolic heap: blocks of one's own, listed; what else may turn. -/
import Derived.Test.YtlbbdbdjiekkaaaGreatDoorNamesShGrow
set_option linter.unusedVariables false
set_option linter.unusedSimpArgs false
namespace Go.Sh
abbrev No:Nat→Prop:=fun _=>False
/-- the blocks of a stretch -/
abbrev In (lo hi:Nat):Nat→Prop:=fun b=>lo≤b∧b < hi
theorem Tn.refl (S:Nat→Prop) (h:Hp):Tn S h h:=⟨Nat.le_refl _,fun _ _ _=>rfl⟩
theorem Tn.trans {S:Nat→Prop} {a b c:Hp} (x:Tn S a b) (y:Tn S b c):Tn S a c:=⟨Nat.le_trans x.1 y.1,fun d h1 h2=>(y.2 d (Nat.lt_of_lt_of_le h1 x.1) h2).trans (x.2 d h1 h2)⟩
/-- what turned later, beyond the first heap's blocks, does not count -/
theorem Tn.trans' {S T:Nat→Prop} {a b c:Hp} (x:Tn S a b) (y:Tn T b c) (hT:∀d,T d→d < a.size→S d):Tn S a c:=⟨Nat.le_trans x.1 y.1,fun d h1 h2=>(y.2 d (Nat.lt_of_lt_of_le h1 x.1) fun t=>h2 (hT d t h1)).trans (x.2 d h1 h2)⟩
theorem Tn.mono {S T:Nat→Prop} {a b:Hp} (x:Tn S a b) (hT:∀d,S d→d < a.size→T d):Tn T a b:=⟨x.1,fun d h1 h2=>x.2 d h1 fun s=>h2 (hT d s h1)⟩
theorem Tn.of_grw {S:Nat→Prop} {h h':Hp} (g:Grw h h'):Tn S h h':=⟨g.1,fun c hc _=>g.2 c hc⟩
theorem Tn.grw {h h':Hp} (f:Tn No h h'):Grw h h':=⟨f.1,fun c hc=>f.2 c hc id⟩
theorem Only.fr {b:Nat} {h h':Hp} (o:Only b h h'):Tn (·=b) h h':=⟨Nat.le_of_eq o.1.symm,fun c _ hn=>o.2 c hn⟩
theorem Tn.blk {S:Nat→Prop} {h h':Hp} {b:Nat} {cs:Array Value} {el:TypeId} (f:Tn S h h') (k:Blk h b cs el) (hn:¬S b):Blk h' b cs el:=(f.2 b k.lt hn).trans k
theorem Tn.cell {S:Nat→Prop} {h h':Hp} {a:Addr} {v:Value} (f:Tn S h h') (hc:cell h a=some v) (hn:¬S a.block):cell h' a=some v:=by
  have:a.block < h.size:=by
    unfold Go.Sh.cell at hc;split at hc
    · rename_i e;exact (Array.getElem?_eq_some_iff.1 e).1
    · simp at hc
  unfold Go.Sh.cell at hc ⊢;rw [f.2 _ this hn];exact hc
/-- an own block: where, what stands in it, of which type -/
structure Bk where
  b:Nat
  cs:Array Value
  el:TypeId
/-- **THE SYMBOLIC HEAP.** Of the first heap's blocks only those of S have turned; the listed blocks are apart and hold this. -/
structure SyH (S:Nat→Prop) (h0 h:Hp) (L:List Bk):Prop where
  fr:Tn S h0 h
  ok:∀x∈L,(h0.size≤x.b∨S x.b)∧Blk h x.b x.cs x.el
  nd:(L.map (·.b)).Nodup
section
variable {S:Nat→Prop} {h0 h:Hp} {L:List Bk}
theorem SyH.start (S:Nat→Prop) (h:Hp):SyH S h h []:=⟨Tn.refl _ _,fun _ hx=>by simp at hx,by simp⟩
theorem SyH.blk (lc:SyH S h0 h L) {i:Nat} {x:Bk} (hx:L[i]? = some x):Blk h x.b x.cs x.el:=(lc.ok x (List.mem_of_getElem? hx)).2
theorem SyH.grw (lc:SyH No h0 h L):Grw h0 h:=lc.fr.grw
theorem SyH.more (lc:SyH S h0 h L) {h':Hp} {x:Bk} (f:Tn No h h') (hb:h.size≤x.b) (k:Blk h' x.b x.cs x.el):SyH S h0 h' (L++[x]):=by
  refine ⟨lc.fr.trans' f (fun _ t=>t.elim),fun y hy => ?_,?_⟩
  · rcases List.mem_append.1 hy with hy | hy
    · exact ⟨(lc.ok y hy).1,f.blk (lc.ok y hy).2 id⟩
    · simp only [List.mem_singleton] at hy;subst hy
      exact ⟨.inl (Nat.le_trans lc.fr.1 hb),k⟩
  · rw [List.map_append,List.nodup_append]
    refine ⟨lc.nd,by simp,fun a ha c hc => ?_⟩
    simp only [List.map_cons,List.map_nil,List.mem_singleton] at hc
    obtain ⟨y,hy,rfl⟩:=List.mem_map.1 ha
    have:=(lc.ok y hy).2.lt
    omega
theorem SyH.set (lc:SyH S h0 h L) {i:Nat} {x:Bk} {h':Hp} {cs:Array Value} {el:TypeId} (hx:L[i]? = some x) (f:Tn (·=x.b) h h') (k:Blk h' x.b cs el):SyH S h0 h' (L.set i ⟨x.b,cs,el⟩):=by
  have hi:=(List.getElem?_eq_some_iff.1 hx).1
  have hmem:=lc.ok x (List.mem_of_getElem? hx)
  refine ⟨lc.fr.trans' f fun d hd hlt=>by subst hd;exact hmem.1.resolve_left (by omega),fun y hy => ?_,?_⟩
  · obtain ⟨j,hj⟩:=List.mem_iff_getElem?.1 hy
    rw [List.getElem?_set] at hj
    split at hj
    · first | (rw [if_pos hi] at hj;cases hj;exact ⟨hmem.1,k⟩) | (cases hj;exact ⟨hmem.1,k⟩)
    · rename_i hne
      have hym:=lc.ok y (List.mem_of_getElem? hj)
      refine ⟨hym.1,f.blk hym.2 fun e=>hne ?_⟩
      have hjl:=(List.getElem?_eq_some_iff.1 hj).1
      have e1:(L.map (·.b))[i]? = some x.b:=by simp [hx]
      have e2:(L.map (·.b))[j]? = some y.b:=by simp [hj]
      have n:=List.pairwise_iff_getElem.1 lc.nd
      have hi':i < (L.map (·.b)).length:=by simpa using hi
      have hj':j < (L.map (·.b)).length:=by simpa using hjl
      have q1:(L.map (·.b))[i]=x.b:=by rw [List.getElem?_eq_getElem hi'] at e1;simpa using e1
      have q2:(L.map (·.b))[j]=y.b:=by rw [List.getElem?_eq_getElem hj'] at e2;simpa using e2
      rcases Nat.lt_trichotomy i j with hlt | he | hgt
      · exact absurd (q1.trans (e.symm.trans q2.symm)) (n i j hi' hj' hlt)
      · exact he
      · exact absurd (q2.trans (e.trans q1.symm)) (n j i hj' hi' hgt)
  · have e:(L.set i ⟨x.b,cs,el⟩).map (·.b)=L.map (·.b):=by
      apply List.ext_getElem?
      intro j
      simp only [List.map_set,List.getElem?_set,List.length_map,List.getElem?_map]
      split
      · rename_i e;subst e;first | (rw [if_pos hi,hx];rfl) | (rw [hx];rfl)
      · rfl
    rw [e];exact lc.nd
theorem SyH.new (lc:SyH S h0 h L) {cs:Array Value} {t:TypeId} {K:Addr→Hp→Prop} (hk:∀b h',h.size≤b→Tn No h h'→SyH S h0 h' (L++[⟨b,cs,t⟩])→K ⟨b,0,none⟩ h'):New h cs t K :=
  New_i fun b h' e g k _=>hk b h' (by omega) (Tn.of_grw g) (lc.more (x:=⟨b,cs,t⟩) (Tn.of_grw g) (by simp;omega) k)
theorem SyH.ld (lc:SyH S h0 h L) (i:Nat) {α:Type} {b off:Nat} {cs:Array Value} {el:TypeId} {mk:α→Value} {x:α} {K:α→Prop} (hx:L[i]? = some ⟨b,cs,el⟩) (hv:cs[off]? = some (mk x)) (hk:K x):Ld h ⟨b,off,none⟩ mk K :=
  Ld_blk (lc.blk hx) hv hk
theorem SyH.ldo (lc:SyH S h0 h L) (i:Nat) {α:Type} {b off n:Nat} {cs:Array Value} {el:TypeId} {mk:α→Value} {x:α} {K:α→Prop} (hx:L[i]? = some ⟨b,cs,el⟩) (hv:cs[off+n]? = some (mk x)) (hk:K x):Ld h ((⟨b,off,none⟩:Addr).add n) mk K:=by
  rw [add_blk];exact lc.ld i hx hv hk
theorem SyH.st (lc:SyH S h0 h L) (i:Nat) {b off:Nat} {cs:Array Value} {el:TypeId} {v:Value} {K:Hp→Prop} (hx:L[i]? = some ⟨b,cs,el⟩) (hv:Nat.blt off cs.size=true) (ho:one v=true)
    (hk:∀h',Tn (·=b) h h'→SyH S h0 h' (L.set i ⟨b,cs.setIfInBounds off v,el⟩)→K h'):St h ⟨b,off,none⟩ v K :=
  St_i (lc.blk hx) (Nat.le_of_ble_eq_true hv) ho fun h' o k=>hk h' o.fr (lc.set hx o.fr k)
theorem SyH.sto (lc:SyH S h0 h L) (i:Nat) {b off n:Nat} {cs:Array Value} {el:TypeId} {v:Value} {K:Hp→Prop} (hx:L[i]? = some ⟨b,cs,el⟩) (hv:Nat.blt (off+n) cs.size=true) (ho:one v=true)
    (hk:∀h',Tn (·=b) h h'→SyH S h0 h' (L.set i ⟨b,cs.setIfInBounds (off+n) v,el⟩)→K h'):St h ((⟨b,off,none⟩:Addr).add n) v K:=by
  rw [add_blk];exact lc.st i hx hv ho hk
end
/-! ### slices that lie in a stretch of blocks -/
/-- the slice holds these things of sz cells, in a block of the stretch (or it is empty) -/
def Sh (lo hi sz:Nat) (h:Hp) (s:Sl) (vs:List Value) (el:TypeId):Prop:=(s=Sl.nil∧vs=[])∨∃b,lo≤b∧b < hi∧OwnS sz h s b vs el
theorem OwnS.lt {sz:Nat} {h:Hp} {s:Sl} {b:Nat} {vs:List Value} {el:TypeId} (o:OwnS sz h s b vs el):b < h.size:=by obtain ⟨_,_,cs,k,_⟩:=o;exact k.lt
theorem Own.lt {h:Hp} {s:Sl} {b:Nat} {vs:List Value} {el:TypeId} (o:Own h s b vs el):b < h.size:=by obtain ⟨_,_,cs,k,_⟩:=o;exact k.lt
theorem OwnS.fr {S:Nat→Prop} {sz:Nat} {h h':Hp} {s:Sl} {b:Nat} {vs:List Value} {el:TypeId} (o:OwnS sz h s b vs el) (f:Tn S h h') (hn:¬S b):OwnS sz h' s b vs el:=by
  obtain ⟨h1,h2,cs,h3,h4⟩:=o;exact ⟨h1,h2,cs,f.blk h3 hn,h4⟩
theorem Own.fr {S:Nat→Prop} {h h':Hp} {s:Sl} {b:Nat} {vs:List Value} {el:TypeId} (o:Own h s b vs el) (f:Tn S h h') (hn:¬S b):Own h' s b vs el:=by
  obtain ⟨h1,h2,cs,h3,h4⟩:=o;exact ⟨h1,h2,cs,f.blk h3 hn,h4⟩
theorem Sh.fr {S:Nat→Prop} {lo hi sz:Nat} {h h':Hp} {s:Sl} {vs:List Value} {el:TypeId} (o:Sh lo hi sz h s vs el) (f:Tn S h h') (hn:∀b,lo≤b→b < hi→¬S b):Sh lo hi sz h' s vs el :=
  o.imp id fun ⟨b,h1,h2,o⟩=>⟨b,h1,h2,o.fr f (hn b h1 h2)⟩
theorem Sh.grw {lo hi sz:Nat} {h h':Hp} {s:Sl} {vs:List Value} {el:TypeId} (o:Sh lo hi sz h s vs el) (g:Grw h h'):Sh lo hi sz h' s vs el:=o.fr (S:=No) (Tn.of_grw g) fun _ _ _=>id
theorem Sh.wide {lo hi lo' hi' sz:Nat} {h:Hp} {s:Sl} {vs:List Value} {el:TypeId} (o:Sh lo hi sz h s vs el) (h1:lo'≤lo) (h2:hi≤hi'):Sh lo' hi' sz h s vs el :=
  o.imp id fun ⟨b,q1,q2,o⟩=>⟨b,by omega,by omega,o⟩
theorem Sh.n {lo hi sz:Nat} {h:Hp} {s:Sl} {vs:List Value} {el:TypeId} (o:Sh lo hi sz h s vs el):vs.length=s.n*sz:=by
  rcases o with ⟨rfl,rfl⟩ | ⟨b,_,_,o⟩
  · simp [Sl.nil]
  · exact o.2.1
theorem Sh.cap {lo hi sz:Nat} {h:Hp} {s:Sl} {vs:List Value} {el:TypeId} (o:Sh lo hi sz h s vs el):s.n≤s.c:=by
  rcases o with ⟨rfl,_⟩ | ⟨b,_,_,_,_,_,_,h,_⟩
  · exact Nat.le_refl _
  · exact h
theorem Sv.nil (h:Hp):Sv h Sl.nil []:=⟨rfl,Nat.le_refl _,fun x hx=>by simp [Sl.nil] at hx⟩
theorem Sh.sv {lo hi:Nat} {h:Hp} {s:Sl} {vs:List Value} {el:TypeId} (o:Sh lo hi 1 h s vs el):Sv h s vs:=by
  rcases o with ⟨rfl,rfl⟩ | ⟨b,_,_,o⟩
  · exact Sv.nil h
  · exact o.own.sv
theorem Sh.nil (lo hi sz:Nat) (h:Hp) (el:TypeId):Sh lo hi sz h Sl.nil [] el:=.inl ⟨rfl,rfl⟩
theorem Sh.of_own {lo hi:Nat} {h:Hp} {s:Sl} {b:Nat} {vs:List Value} {el:TypeId} (o:Own h s b vs el) (h1:lo≤b) (h2:b < hi):Sh lo hi 1 h s vs el:=.inr ⟨b,h1,h2,o.ownS⟩
theorem Sv.fr {S:Nat→Prop} {h h':Hp} {s:Sl} {vs:List Value} (hs:Sv h s vs) (f:Tn S h h') (hn:∀a,s.a=some a→¬S a.block):Sv h' s vs :=
  ⟨hs.1,hs.2.1,fun x hx=>by
    obtain ⟨a,h1,h2⟩:=hs.2.2 x hx
    refine ⟨a,h1,fun i v hv=>f.cell (h2 i v hv) ?_⟩
    have e:(a.add i).block=a.block:=by unfold Addr.add;split <;> rfl
    rw [e];exact hn a h1⟩
/-- the block that a slice lies in -/
def Sl.at (s:Sl) (c:Nat):Prop:=∃a,s.a=some a∧a.block=c
theorem Sl.at_nil (c:Nat):¬Sl.nil.at c:=fun ⟨_,h,_⟩=>by simp [Sl.nil] at h
theorem Sh.at {lo hi sz:Nat} {h:Hp} {s:Sl} {vs:List Value} {el:TypeId} (o:Sh lo hi sz h s vs el) {c:Nat} (hc:s.at c):lo≤c∧c < hi:=by
  rcases o with ⟨rfl,rfl⟩ | ⟨b,h1,h2,o⟩
  · exact absurd hc (Sl.at_nil c)
  · obtain ⟨a,ha,hb⟩:=hc
    rw [o.1] at ha;cases ha;subst hb;exact ⟨h1,h2⟩
/-- **append to a slice of one's own** (or to nil): n things of sz cells -/
theorem Ap_sh {lo sz n:Nat} {h:Hp} {s:Sl} {vs new:List Value} {el:TypeId} {z:Array Value} {bytes:Nat} {vals:List Value→Prop} {K:Sl→Hp→Prop} (o:Sh lo h.size sz h s vs el) (hlo:lo≤h.size) (hz:z.size=sz)
    (hnew:new.length=n*sz) (hone:∀v∈new,one v=true) (hv:vals new) (hroom:(s.n+n+(s.n+n) / 4+192)*bytes≤2 ^ 48) (hn:s.n+n < 2 ^ 63)
    (hk:∀s' h',Tn s.at h h'→(∀c,s'.at c→s.at c∨h.size≤c)→Sh lo h'.size sz h' s' (vs++new) el→s'.n=s.n+n→K s' h'):Ap h el z sz bytes s n vals K:=by
  have grown:∀old:List Value,rd h s.a (s.n*sz) old→old=vs→s.c < s.n+n→Ap h el z sz bytes s n vals K:=by
    intro old hrd hold hc
    subst hold
    have hl:old.length=s.n*sz:=o.n
    refine ⟨new,hv, .inr ⟨hc,?_,hn,old,hrd,?_⟩⟩
    · have:=nextslicecap_le_wide (need:=s.n+n) (old:=s.c) hc
      have h7:=Nat.mul_le_mul_right bytes this
      omega
    · intro newCap hn1 hn2
      refine hk _ _ (Tn.of_grw (Grw.push h _)) ?_ (.inr ⟨h.size,hlo,by simp,rfl,?_,_,by simp only [Blk,Array.getElem?_push_size];rfl,hn1,?_,fun i hi => ?_⟩) rfl
      · rintro c ⟨a,ha,hb⟩;simp only [Option.some.injEq] at ha;subst ha;simp only at hb;exact .inr (by omega)
      · simp only [List.length_append,hnew,hl,Nat.add_mul]
      · have:s.n*sz+n*sz+(newCap - (s.n+n))*sz=newCap*sz:=by
          have e:newCap=s.n+n+(newCap - (s.n+n)):=by omega
          conv=>rhs;rw [e]
          rw [Nat.add_mul,Nat.add_mul]
        simp [Builtin.zeroCells,hl,hnew,hz,this]
      · simp only at hi
        have hl2:(old++new).length=(s.n+n)*sz:=by simp only [List.length_append,hnew,hl,Nat.add_mul]
        rw [Array.getElem?_append_left (by simp only [List.size_toArray];omega),List.getElem?_toArray]
  rcases o with ⟨hs,hvs⟩ | ⟨b,hb1,hb2,o⟩
  · subst hs hvs
    by_cases e:n=0
    · subst e
      have hnn:new=[]:=List.eq_nil_of_length_eq_zero (by omega)
      subst hnn
      exact ⟨[],hv, .inl ⟨Nat.le_refl _,hk Sl.nil h (Tn.refl _ _) (fun c hc=>.inl hc) (Sh.nil _ _ _ _ _) rfl⟩⟩
    · exact grown [] rfl rfl (by simp only [Sl.nil];omega)
  · by_cases hc:s.n+n≤s.c
    · obtain ⟨h1,h2,cs,h3,h4,h5,h6⟩:=o
      refine ⟨new,hv, .inl ⟨hc,?_⟩⟩
      have hmul:s.n*sz+n*sz≤s.c*sz:=by rw [←Nat.add_mul];exact Nat.mul_le_mul_right _ hc
      rw [h1]
      show StL h ((Addr.mk b 0 none).add (s.n*sz)) 0 new _
      rw [add_blk]
      refine StL_i new h3 (by omega) hone fun h' cs' o1 o2 o3 o4 => ?_
      refine hk _ h' (o1.fr.mono fun d hd _=>⟨_,h1,hd.symm⟩) (fun c ⟨a,ha,hcb⟩=>.inl ⟨a,by rw [h1];exact ha,hcb⟩) (.inr ⟨b,hb1,by rw [o1.1];exact hb2,rfl,?_,cs',o2,hc,by rw [o3,h5],fun i hi => ?_⟩) rfl
      · simp only [List.length_append,h2,hnew,Nat.add_mul]
      · rw [o4 i]
        have hi':i < s.n*sz+n*sz:=by rw [←Nat.add_mul];exact hi
        by_cases hlt:i < s.n*sz
        · rw [if_neg (by omega),h6 i hlt,List.getElem?_append_left (by omega)]
        · rw [if_pos (by omega),List.getElem?_append_right (by omega)]
          congr 1;omega
    · refine grown vs ?_ rfl (by omega)
      obtain ⟨h1,h2,cs,h3,h4,h5,h6⟩:=o
      rw [h1]
      refine ⟨h2,fun i v hi => ?_⟩
      have:i < vs.length:=(List.getElem?_eq_some_iff.1 hi).1
      rw [add_blk,Nat.zero_add,cell_blk h3,h6 i (by omega)];exact hi
theorem Blk.noloop {h:Hp} {b:Nat} {cs:Array Value} {el:TypeId} {r:Loop} (k:Blk h b cs el) (e:h[b]? = some (.loop r)):False:=by
  have k':h[b]? = some (.cells cs el (0,0)):=k
  rw [k'] at e;cases e
theorem Sh.tw {lo hi sz l:Nat} {h h':Hp} {s:Sl} {vs:List Value} {el:TypeId} (o:Sh lo hi sz h s vs el) (t:Tw l h h'):Sh lo hi sz h' s vs el:=by
  rcases o with o | ⟨b,h1,h2,o⟩
  · exact .inl o
  · refine .inr ⟨b,h1,h2,o.fr t.only.fr fun e => ?_⟩
    obtain ⟨_,_,cs,k,_⟩:=o
    obtain ⟨r,_,_,hr,_⟩:=t.2.2
    subst e;exact k.noloop hr
theorem Sh.noloop {lo hi sz l:Nat} {h h':Hp} {s:Sl} {vs:List Value} {el:TypeId} (o:Sh lo hi sz h' s vs el) (t:Tw l h h'):¬s.at l:=by
  rintro ⟨a,ha,hb⟩
  rcases o with ⟨rfl,_⟩ | ⟨b,h1,h2,o⟩
  · simp [Sl.nil] at ha
  · obtain ⟨e,_,cs,k,_⟩:=o
    obtain ⟨r,_,_,_,hr⟩:=t.2.2
    rw [e] at ha;cases ha;simp only at hb;subst hb;exact k.noloop hr
end Go.Sh
