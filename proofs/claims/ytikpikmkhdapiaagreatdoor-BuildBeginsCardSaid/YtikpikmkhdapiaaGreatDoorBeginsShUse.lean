import Derived.Test.YtikpikmkhdapiaaGreatDoorBeginsShRange
set_option linter.unusedSimpArgs false
set_option linter.unusedVariables false
set_option maxRecDepth 100000
set_option maxHeartbeats 1000000
namespace Go.Sh
theorem aA {c:Bool} {A B:Prop} (b:c=true->A) (a:c=false->B):If c A B:=by cases c;exact a rfl;exact b rfl
theorem bx {c:Bool} {A B:Prop} (b:c=true) (h:A):If c A B:=by subst b;exact h
theorem aR {c:Bool} {A B:Prop} (e:c=false) (h:B):If c A B:=by subst e;exact h
theorem aP {x:Int} {K:Int->Prop} (d : -9223372036854775808<=x) (c:x<=9223372036854775807) (h:K x):Wr .i64 x K:=by
 have:IntKind.wrap .i64 x=x:=by rw[IntKind.wrap_i64];omega
 unfold Wr;rw[this];exact h
theorem mM {b:Int} {X:Prop} (h:b≠0) (x:X):Dv b X:=⟨h,x⟩
theorem fY {b:Int} {X:Prop} (h:0<=b) (x:X):Nn b X:=⟨h,x⟩
theorem GS {α:Type} {h:Hp} {a:Addr} {mk:α->Value} {K:α->Prop} {x:α} (c:cell h a=some (mk x)) (b:K x):Ld h a mk K:=⟨x,c,b⟩
theorem pV.mono {P:Program} {l:Nat} {C:List Value} {h:Hp} {K e:Value->Hp->Prop} {Kp b:List PanicEntry->Hp->Prop} (j:pV P l C h K Kp) (g:∀s h,K s h->e s h) (f:∀c h,Kp c h->b c h):pV P l C h e b :=
 Xs (fv:=.func (.yield l) #[] #[]) j g f
def aB (h:Hp) (b:Nat) (cs:Array Value) (el:TypeId):Prop:=h[b]? = some (.cells cs el (0,0))
theorem aB.lt {h:Hp} {b:Nat} {cs:Array Value} {el:TypeId} (a:aB h b cs el):b < h.size:=(Array.getElem?_eq_some_iff.1 a).1
theorem aB.aj {h H:Hp} {b:Nat} {cs:Array Value} {el:TypeId} (c:aB h b cs el) (g:ah h H):aB H b cs el:=(g.2 b c.lt).trans c
theorem aI (b o n:Nat):(Addr.mk b o none).add n=⟨b,o+n,none⟩:=by unfold Addr.add;split <;> simp_all
theorem eW {h:Hp} {b i:Nat} {cs:Array Value} {el:TypeId} (c:aB h b cs el):cell h ⟨b,i,none⟩=cs[i]? := by
 have a:h[b]? = some (.cells cs el (0,0)):=c;simp[cell,a]
theorem agA {h:Hp} {b i:Nat} {cs:Array Value} {el:TypeId} (c:aB h b cs el):xY h ⟨b,i,none⟩=false:=by
 have a:h[b]? = some (.cells cs el (0,0)):=c;simp[xY,a]
theorem acg (h:Hp) (a:Addr) (v:Value):(put h a v).size=h.size:=by simp[put]
theorem ach {h:Hp} {a:Addr} {v:Value} {c:Nat} (b:c≠a.block):(put h a v)[c]? = h[c]? := by
 unfold put;rw[Array.getElem?_modify,if_neg (λe=>b e.symm)]
theorem acj {h:Hp} {b i:Nat} {v:Value} {cs:Array Value} {el:TypeId} (c:aB h b cs el):aB (put h ⟨b,i,none⟩ v) b (cs.setIfInBounds i v) el:=by
 have a:h[b]? = some (.cells cs el (0,0)):=c;unfold aB put;rw[Array.getElem?_modify,if_pos rfl,a];simp
def aM (b:Nat) (h h':Hp):Prop:=h'.size=h.size/\∀c,c≠b->h'[c]? = h[c]?
theorem aM.aj {b:Nat} {h0 h H:Hp} (g:ah h0 h) (o:aM b h H) (e:h0.size<=b):ah h0 H :=
 ⟨by rw[o.1];exact g.1,λc a=>(o.2 c ag).trans (g.2 c a)⟩
theorem aM.aK {b c:Nat} {h g:Hp} {cs:Array Value} {el:TypeId} (o:aM b h g) (d:aB h c cs el) (a:c≠b):aB g c cs el:=(o.2 c a).trans d
theorem az {h:Hp} {cs:Array Value} {t:TypeId} {K:Addr->Hp->Prop} (e:∀b c,b=h.size->ah h c->aB c b cs t->c.size=h.size+1->K ⟨b,0,none⟩ c):aD h cs t K :=
 e h.size _ rfl (ah.push h _) (by simp[aB]) aS
theorem cE {h:Hp} {b i:Nat} {cs:Array Value} {el:TypeId} {v:Value} {K:Hp->Prop} (d:aB h b cs el) (j:i < cs.size) (f:one v=true)
  (g:∀e,aM b h e->aB e b (cs.setIfInBounds i v) el->K e):St h ⟨b,i,none⟩ v K :=
 ⟨f,by rw[eW d];simp[j],agA d,g _ ⟨acg _ _ _,λc k=>ach (a:=⟨b,i,none⟩) k⟩ (acj d)⟩
theorem an {α:Type} {h:Hp} {b i:Nat} {cs:Array Value} {el:TypeId} {mk:α->Value} {K:α->Prop} {x:α} (f:aB h b cs el) (e:cs[i]? = some (mk x)) (c:K x):Ld h ⟨b,i,none⟩ mk K :=
 ⟨x,by rw[eW f];exact e,c⟩
theorem ah.cell {h H:Hp} {a:Addr} (g:ah h H) {v:Value} (c:cell h a=some v):cell H a=some v:=by
 have:a.block < h.size:=by
  unfold Go.Sh.cell at c;split at c
  ·rename_i e;exact (Array.getElem?_eq_some_iff.1 e).1
  ·simp at c
 unfold Go.Sh.cell at c ⊢;rw[g.2 _ this];exact c
theorem Tw.only {l:Nat} {h g:Hp} (t:Tw l h g):aM l h g:=⟨t.1,t.2.1⟩
theorem iB {h:Hp} {b n:Nat} {cs:Array Value} {el:TypeId} (d:aB h b cs el) (c:cs.size=n):rd h (some ⟨b,0,none⟩) n cs.toList :=
 ⟨by simpa using c,λi v a=>by rw[aI,Nat.zero_add,eW d];simpa using a⟩
def Cs (h:Hp) (a:Addr) (vs:List Value):Prop:=∀(i:Nat) v,vs[i]? = some v->cell h (a.add i)=some v
def Sv (h:Hp) (s:Sl) (vs:List Value):Prop:=s.n=vs.length/\s.n<=s.c/\∀x,s.n=x+1->∃a,s.a=some a/\Cs h a vs
theorem Cs.aj {h H:Hp} {a:Addr} {vs:List Value} (c:Cs h a vs) (g:ah h H):Cs H a vs:=λi v b=>g.cell (c i v b)
theorem Sv.aj {h H:Hp} {s:Sl} {vs:List Value} (c:Sv h s vs) (g:ah h H):Sv H s vs :=
 ⟨c.1,c.2.1,λx b=>by obtain ⟨a,e,d⟩:=c.2.2 x b;exact ⟨a,e,d.aj g⟩⟩
theorem Sv.ix {h:Hp} {s:Sl} {vs:List Value} (c:Sv h s vs) {i:Int} {K:Addr->Prop} (p:0<=i) (o:i < s.n) {v:Value} (hv:vs[i.toNat]? = some v) (g:∀a,cell h a=some v->K a):Ix s.a s.n 1 i K:=by
 obtain ⟨a,d,b⟩:=c.2.2 (s.n - 1) ag;unfold Ix;rw[d];exact ⟨p,o,g _ (by rw[Nat.mul_one];exact b _ _ hv)⟩
def dX (h:Hp) (s:Sl) (b:Nat) (vs:List Value) (el:TypeId):Prop:=s.a=some ⟨b,0,none⟩/\s.n=vs.length/\∃cs,aB h b cs el/\s.n<=s.c/\cs.size=s.c/\∀i,i < s.n->cs[i]? = vs[i]?
theorem dX.sv {h:Hp} {s:Sl} {b:Nat} {vs:List Value} {el:TypeId} (o:dX h s b vs el):Sv h s vs:=by
 obtain ⟨g,f,cs,e,d,l,c⟩:=o;refine ⟨f,d,λx j=>⟨_,g,λi v a => ?_⟩⟩;have k:i < vs.length:=(List.getElem?_eq_some_iff.1 a).1;rw[aI,Nat.zero_add,eW e,c i ag];exact a
theorem dX.aj {h H:Hp} {s:Sl} {b:Nat} {vs:List Value} {el:TypeId} (o:dX h s b vs el) (g:ah h H):dX H s b vs el:=by
 obtain ⟨e,d,cs,c,a⟩:=o;exact ⟨e,d,cs,c.aj g,a⟩
theorem dX.only {h H:Hp} {s:Sl} {b c:Nat} {vs:List Value} {el:TypeId} (o:dX h s b vs el) (g:aM c h H) (q:b≠c):dX H s b vs el:=by
 obtain ⟨f,e,cs,d,a⟩:=o;exact ⟨f,e,cs,g.aK d q,a⟩
theorem dX.sR {h:Hp} {s:Sl} {b:Nat} {vs:List Value} {el:TypeId} (o:dX h s b vs el) {i:Int} {K:Addr->Prop} (e:0<=i) (d:i < s.n) (c:K ⟨b,i.toNat,none⟩):Ix s.a s.n 1 i K:=by
 unfold Ix;rw[o.1];refine ⟨e,d,?_⟩;rw[aI];simpa using c
theorem dX.st {h:Hp} {s:Sl} {b:Nat} {vs:List Value} {el:TypeId} (o:dX h s b vs el) {i:Nat} (y:i < s.n) {v:Value} (d:one v=true) {K:Hp->Prop}
  (f:∀c,aM b h c->dX c s b (vs.set i v) el->K c):St h ⟨b,i,none⟩ v K:=by
 obtain ⟨t,r,cs,q,p,m,l⟩:=o;refine cE q ag d λc a k=>f c a ⟨t,by simp[r],_,k,p,by simp[m],λj g => ?_⟩
 rw[Array.getElem?_setIfInBounds,List.getElem?_set];have:=l j g;split
 ·rename_i e;subst e;rw[if_pos ag,if_pos ag]
 ·exact this
theorem dX.ld {α:Type} {h:Hp} {s:Sl} {b:Nat} {vs:List Value} {el:TypeId} (o:dX h s b vs el) {i:Nat} (e:i < s.n) {mk:α->Value} {x:α} (c:vs[i]? = some (mk x)) {K:α->Prop} (d:K x):Ld h ⟨b,i,none⟩ mk K:=by
 obtain ⟨l,k,cs,f,j,g,a⟩:=o;exact an f ((a i e).trans c) d
theorem XJ (z:Value) (n:Nat):zs #[z] (n*1)=Array.replicate n z:=by
 apply Array.ext
 ·simp[zs]
 ·intro i b a;simp[zs,Nat.mod_one]
theorem Pz {h:Hp} {el:TypeId} {z:Value} {bytes:Nat} {l:Int} {K:Sl->Hp->Prop} (h0:0<=l) (d:(bytes:Int)*l<=2 ^ 48) (c:l < 2 ^ 63)
  (b:∀s a,ah h a->dX a s h.size (List.replicate l.toNat z) el->a.size=h.size+1->K s a):bI h el #[z] 1 bytes l l K:=by
 refine ⟨h0,Int.le_refl _,d,c,b _ _ (ah.push h _) ⟨rfl,by simp,zs #[z] (l.toNat*1),?_,Nat.le_refl _,?_,?_⟩ aS⟩
 ·simp[aB]
 ·simp[zs]
 ·intro i e;simp only[XJ,Array.getElem?_replicate,List.getElem?_replicate]
end Go.Sh
