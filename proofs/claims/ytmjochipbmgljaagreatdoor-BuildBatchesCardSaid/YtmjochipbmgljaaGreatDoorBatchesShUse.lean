import Derived.Test.YtmjochipbmgljaaGreatDoorBatchesShRange
namespace Go.Sh
variable {c:Bool} {A B:Prop} {b i:Nat} {h H h':Hp} {a:Addr} {cs:Array Value} {el:TypeId} {v:Value} {vs:bg} {s:Sl}
theorem aE(h1:c=true->A)(g:c=false->B):If c A B:=by cases c;exact g rfl;exact h1 rfl
theorem cL{p q:Prop}(b:p->A)(a:q->B)(k:(c=true->p)/\(c=false->q):=by refine⟨λh=>?_,λh=>?_⟩ <;> (simp only[sm,reduceCtorEq]at h;exact h)):If c A B:=aE (λh=>b (k.1 h)) λh=>a (k.2 h)
theorem bO(g:c=true)(h:A):If c A B:=by subst g;exact h
theorem bu(g:c=false)(h:B):If c A B:=by subst g;exact h
theorem uf(h:A)(a:c=true:=by first|rfl|(simp only[sm,reduceCtorEq];omega)):If c A B:=bO a h
theorem ug(h:B)(a:c=false:=by first|rfl|(simp only[sm,reduceCtorEq];omega)):If c A B:=bu a h
theorem aW{x:Int}{K:Int->Prop}(h1: -9223372036854775808<=x)(c:x<=9223372036854775807)(h:K x):Wr .i64 x K:=by
 have:IntKind.wrap .i64 x=x:=by rw[IntKind.wrap_i64];omega
 unfold Wr;rw[this];exact h
theorem oP{b:Int}{X:Prop}(h:b≠0)(x:X):Dv b X:=⟨h,x⟩
theorem js{b:Int}{X:Prop}(h:0<=b)(x:X):Nn b X:=⟨h,x⟩
theorem yU{α:Type}{mk:α->Value}{K:α->Prop}{x:α}(d:cell h a=some (mk x))(c:K x):Ld h a mk K:=⟨x,d,c⟩
theorem wS.mono{P:Program}{l:Nat}{args:bg}{K j:de}{Kp e:PK}(z:wS P l args h K Kp)(t:∀s h,K s h->j s h)(k:∀c h,Kp c h->e c h):wS P l args h j e:=
 ajE (fv:=.func (.yield l) #[] #[]) z t k
def aN(h:Hp)(b:Nat)(cs:Array Value)(el:TypeId):Prop:=h[b]? =some (.cells cs el (0,0))
theorem aN.lt(g:aN h b cs el):b<h.size:=(kS.1 g).1
theorem aN.ai(o:aN h b cs el)(g:az h H):aN H b cs el:=(g.2 b o.lt).trans o
theorem bw(b o n:Nat):(Addr.mk b o none).add n=⟨b,o+n,none⟩:=by unfold Addr.add;split <;> simp_all
theorem gW(c:aN h b cs el):cell h ⟨b,i,none⟩=cs[i]? :=by
 have a:h[b]? =some _:=c;simp[cell,a]
theorem at2(c:aN h b cs el):DC h ⟨b,i,none⟩=false:=by
 have a:h[b]? =some _:=c;simp[DC,a]
theorem apa(h:Hp)(a:Addr)(v:Value):(put h a v).size=h.size:=by simp[put]
theorem apb{c:Nat}(b:c≠a.block):(put h a v)[c]? =h[c]? :=by
 unfold put;simp[Mc,aC];omega
theorem apd(c:aN h b cs el):aN (put h ⟨b,i,none⟩ v) b (cs.setIfInBounds i v) el:=by
 have a:h[b]? =some _:=c;unfold aN put;simp_all[Mc,aI]
def eD(b:Nat)(h h':Hp):Prop:=h'.size=h.size/\∀c,c≠b->h'[c]? =h[c]?
theorem eD.ai{h0:Hp}(g:az h0 h)(o:eD b h H)(z:h0.size<=b):az h0 H:=
 ⟨by rw[o.1];exact g.1,λc a=>(o.2 c ag).trans (g.2 c a)⟩
abbrev bE:=@eD.ai
theorem eD.aZ{c:Nat}(o:eD b h h')(j:aN h c cs el)(e:c≠b):aN h' c cs el:=(o.2 c e).trans j
theorem aG{t:TypeId}{K:Addr->HP}(o:∀b g,b=h.size->az h g->aN g b cs t->g.size=h.size+1->K (aJ b) g):aH h cs t K:=
 o h.size _ rfl (qW h _) (by simp[aN]) aA
theorem dc{K:Hp->Prop}(e:aN h b cs el)(m:i<cs.size)(j:one v=true)
  (k:∀g,eD b h g->aN g b (cs.setIfInBounds i v) el->K g):St h ⟨b,i,none⟩ v K:=
 ⟨j,by rw[gW e];simp[m],at2 e,k _ ⟨apa _ _ _,λc d=>apb d⟩ (apd e)⟩
theorem aj{α:Type}{mk:α->Value}{K:α->Prop}{x:α}(k:aN h b cs el)(g:cs[i]? =some (mk x))(c:K x):Ld h ⟨b,i,none⟩ mk K:=
 ⟨x,by rw[gW k];exact g,c⟩
theorem az.cell(g:az h H){v:Value}(c:cell h a=some v):cell H a=some v:=by
 have:a.block<h.size:=by
  unfold Go.Sh.cell at c;split at c
  ·grind[Array.getElem?_eq_some_iff]
  ·simp at c
 unfold Go.Sh.cell at c ⊢;rw[g.2 _ this];exact c
theorem Tw.only{l:Nat}(t:Tw l h h'):eD l h h':=⟨t.1,t.2.1⟩
theorem iM{n:Nat}(d:aN h b cs el)(c:cs.size=n):rd h (bz b) n cs.toList:=
 ⟨by simpa using c,λi v a=>by rw[bw,cz,gW d];simpa using a⟩
def Cs(h:Hp)(a:Addr)(vs:bg):Prop:=∀(i:Nat)v,vs[i]? =some v->cell h (a.add i)=some v
def Sv(h:Hp)(s:Sl)(vs:bg):Prop:=s.n=vs.length/\s.n<=s.c/\∀x,s.n=x+1->∃a,s.a=some a/\Cs h a vs
theorem Cs.ai(o:Cs h a vs)(g:az h H):Cs H a vs:=λi v b=>g.cell (o i v b)
theorem Sv.ai(o:Sv h s vs)(g:az h H):Sv H s vs:=
 ⟨o.1,o.2.1,λx b=>by obtain⟨a,d,c⟩:=o.2.2 x b;exact⟨a,d,c.ai g⟩⟩
theorem Sv.ix(c:Sv h s vs){i:Int}{K:Addr->Prop}(B:0<=i)(z:i<s.n){v:Value}(hv:vs[i.toNat]? =some v)(g:∀a,cell h a=some v->K a):Ix s.a s.n 1 i K:=by
 obtain⟨a,d,b⟩:=c.2.2 (s.n-1) ag;unfold Ix;rw[d];exact⟨B,z,g _ (by rw[u7];exact b _ _ hv)⟩
def gU(h:Hp)(s:Sl)(b:Nat)(vs:bg)(el:TypeId):Prop:=s.a=some (aJ b)/\s.n=vs.length/\∃cs,aN h b cs el/\s.n<=s.c/\cs.size=s.c/\∀i,i<s.n->cs[i]? =vs[i]?
theorem gU.sv(o:gU h s b vs el):Sv h s vs:=by
 obtain⟨g,f,cs,e,d,l,c⟩:=o;refine⟨f,d,λx j=>⟨_,g,λi v a=>?_⟩⟩;have k:i<vs.length:=(cU.1 a).1;rw[bw,cz,gW e,c i ag];exact a
theorem gU.ai(o:gU h s b vs el)(g:az h H):gU H s b vs el:=by
 obtain⟨e,d,cs,c,a⟩:=o;exact⟨e,d,cs,c.ai g,a⟩
theorem gU.only{c:Nat}(o:gU h s b vs el)(g:eD c h h')(q:b≠c):gU h' s b vs el:=by
 obtain⟨f,e,cs,d,a⟩:=o;exact⟨f,e,cs,g.aZ d q,a⟩
theorem gU.vY(o:gU h s b vs el){i:Int}{K:Addr->Prop}(e:0<=i)(d:i<s.n)(c:K ⟨b,i.toNat,none⟩):Ix s.a s.n 1 i K:=by
 unfold Ix;rw[o.1];grind[bw]
theorem gU.st(o:gU h s b vs el){i:Nat}(hi:i<s.n){v:Value}(B:one v=true){K:Hp->Prop}
  (H:∀z,eD b h z->gU z s b (vs.set i v) el->K z):St h ⟨b,i,none⟩ v K:=by
 obtain⟨p,m,cs,l,k,g,f⟩:=o;refine dc l ag B λz a d=>H z a ⟨p,by simp[m],_,d,k,by simp[g],λj c=>?_⟩
 rw[vg,yK];have:=f j c;split
 ·rename_i e;subst e;rw[dR,dR]
 ·exact this
theorem gU.ld{α:Type}(o:gU h s b vs el){i:Nat}(e:i<s.n){mk:α->Value}{x:α}(c:vs[i]? =some (mk x)){K:α->Prop}(d:K x):Ld h ⟨b,i,none⟩ mk K:=by
 obtain⟨l,k,cs,f,j,g,a⟩:=o;exact aj f ((a i e).trans c) d
theorem YH(z:Value)(n:Nat):zs #[z] (n*1)=Array.replicate n z:=by
 apply Array.ext
 ·simp[zs]
 ·intro i b a;simp[zs,Nat.mod_one]
theorem EB{z:Value}{bytes:Nat}{l:Int}{K:Sl->HP}(h0:0<=l)(d:(bytes:Int)*l<=2^48)(c:l<2^63)
  (b:∀s a,az h a->gU a s h.size (List.replicate l.toNat z) el->a.size=h.size+1->K s a):dO h el #[z] 1 bytes l l K:=by
 refine⟨h0,Ej _,d,c,b _ _ (qW h _) ⟨rfl,aA,zs #[z] (l.toNat*1),?_,bP _,?_,?_⟩ aA⟩
 ·simp[aN]
 all_goals grind[YH]
end Go.Sh
