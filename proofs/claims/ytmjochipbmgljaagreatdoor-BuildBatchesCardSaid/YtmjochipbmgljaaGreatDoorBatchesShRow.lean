import Derived.Test.YtmjochipbmgljaaGreatDoorBatchesShLoc
namespace Go.Sh
variable {sz:Nat} {S:aQ} {h:Hp} {vs:bg}
def w9(sz:Nat)(rows:List (List Value)):Prop:=∀r∈rows,r.length=sz
theorem w9.flat:∀{rows:List (List Value)},w9 sz rows->rows.flatten.length=rows.length*sz
  |[],_=>aA
  | r::rows,h=>by
    have c:=w9.flat (rows:=rows) λx a=>h x (by simp[a])
    simp only[U5,ij,iq,(h r aA),rf];omega
theorem Kx:∀{rows:List (List Value)},w9 sz rows->∀{i k:Nat},k<sz->rows.flatten[i*sz+k]? =(rows[i]?).bind (·[k]?)
  |[],_,i,k,_=>aA
  | r::rows,h,i,k,d=>by
    have a:=h r aA;simp only[U5];cases i with
    |zero=>grind
    | succ i=>
      rw[gm bU]
      have e:(i+1)*sz+k-r.length=i*sz+k:=by rw[a,rf];omega
      rw[e,Kx (λx c=>h x (by simp[c])) d];simp
theorem auf{j:Nat}(a:0<sz):j=j/sz*sz+j%sz/\j%sz<sz:=⟨by grind[Nat.mul_comm,Nat.div_add_mod],yM _ a⟩
theorem ayd(a:Addr)(x y:Nat):(a.add x).add y=a.add (x+y):=by
 unfold Addr.add
 grind
theorem Ce(a:Addr)(i:Nat):(a.add i).block=a.block:=by unfold Addr.add;split <;> rfl
theorem Cs.fr{h':Hp}{a:Addr}(c:Cs h a vs)(f:Tn S h h')(z:¬S a.block):Cs h' a vs:=λi v d=>f.cell (c i v d) (by rw[Ce];exact z)
structure lY(sz:Nat)(h:Hp)(s:Sl)(b:Nat)(rows:List (List Value))(el:TypeId):Prop where
 len:w9 sz rows
 n:s.n=rows.length
 own:vm sz h s b rows.flatten el
section
variable {b:Nat} {h':Hp} {s:Sl} {rows:List (List Value)} {el:TypeId}
theorem lY.a(o:lY sz h s b rows el):s.a=some (aJ b):=o.own.1
theorem lY.cap(o:lY sz h s b rows el):s.n<=s.c:=by obtain⟨_,_,_,_,h,_⟩:=o.own;exact h
theorem lY.lt(o:lY sz h s b rows el):b<h.size:=o.own.lt
theorem lY.fr(o:lY sz h s b rows el)(f:Tn S h h')(z:¬S b):lY sz h' s b rows el:=⟨o.len,o.n,o.own.fr f z⟩
theorem lY.ix(o:lY sz h s b rows el){x:Int}{i:Nat}(c:x=i)(z:i<rows.length){K:Addr->Prop}(g:K ⟨b,i*sz,none⟩):Ix s.a s.n sz x K:=by
 subst c;exact o.own.ix ag (by rw[o.n];omega) (by simpa using g)
theorem lY.cs(o:lY sz h s b rows el){i:Nat}{r:bg}(z:rows[i]? =some r):Cs h ⟨b,i*sz,none⟩ r:=by
 intro k v c;have j:=o.len r (bL z);have d:k<sz:=by have:=(cU.1 c).1;omega
 have l:=(cU.1 z).1;obtain⟨_,q,cs,f,p,m,e⟩:=o.own;have a:i*sz+k<s.n*sz:=by
  have g:(i+1)*sz<=s.n*sz:=pG _ (by rw[o.n];omega)
  rw[rf]at g;omega
 rw[bw,gW f,e _ a,Kx o.len d,z];exact c
theorem lY.set(o:lY sz h s b rows el){i:Nat}(M:i<rows.length){r:bg}(m:r.length=sz)(E:∀v∈r,one v=true){K:Hp->Prop}
  (G:∀h',eD b h h'->lY sz h' s b (rows.set i r) el->K h'):ji h ⟨b,i*sz,none⟩ 0 r K:=by
 obtain⟨J,N,cs,I,t,H,F⟩:=o.own;have k:(i+1)*sz<=s.n*sz:=pG _ (by rw[o.n];omega)
 have L:s.n*sz<=s.c*sz:=pG _ t;rw[rf]at k;have hl:w9 sz (rows.set i r):=λx C=>by
  rcases List.mem_or_eq_of_mem_set C with q|q
  ·exact o.len x q
  ·rw[q,m]
 refine wW r I ag E λh' l B A z y=>G h' B ⟨hl,by rw[Ca];exact o.n,J,by rw[hl.flat,Ca,o.n],l,A,t,by rw[z,H],λj p=>?_⟩
 rcases U4 sz with g|g
 ·subst g;simp at p
 obtain⟨e,u⟩:=auf g;have w:=Kx hl u (i:=j/sz);rw[<-e]at w;rw[y j,w,yK];have D:i*sz+r.length=(i+1)*sz:=by rw[m,rf]
 have f:(i*sz+0<=j/\j<i*sz+0+r.length)↔i=j/sz:=by
  rw[Eo,D];constructor
  ·grind[a,Nat.div_eq_of_lt_le]
  ·grind[Nat.div_mul_le_self,Nat.mul_comm,Nat.lt_mul_div_succ]
 by_cases d:i=j/sz
 ·rw[aI (f.2 d),aI d,dR];grind
 ·rw[aC (λq=>d (f.1 q)),aC d];rw[F j p];have:=Kx o.len u (i:=j/sz);rw[<-e]at this;exact this
end
structure eT(lo sz:Nat)(h:Hp)(s:Sl)(rows:List (List Value))(el:TypeId):Prop where
 len:w9 sz rows
 n:s.n=rows.length
 sh:Sh lo h.size sz h s rows.flatten el
section
variable {lo:Nat} {h':Hp} {s:Sl} {rows:List (List Value)} {el:TypeId}
theorem eT.nil(lo sz:Nat)(h:Hp)(el:TypeId):eT lo sz h Sl.nil [] el:=⟨λ_ h=>by simp at h,rfl,Sh.nil _ _ _ _ _⟩
abbrev qY:=@eT.nil
theorem eT.cases(o:eT lo sz h s rows el):(s=Sl.nil/\rows=[])\/∃b,lo<=b/\lY sz h s b rows el:=by
 rcases o.sh with⟨a,_⟩|⟨b,a,_,c⟩
 ·refine .inl ⟨a,wN ?_⟩;rw[<-o.n,a];rfl
 ·exact .inr ⟨b,a,o.len,o.n,c⟩
theorem eT.fr(o:eT lo sz h s rows el)(f:Tn S h h')(z:∀b,lo<=b->b<h.size->¬S b):eT lo sz h' s rows el:=⟨o.len,o.n,(o.sh.fr f z).wide (bP _) f.1⟩
theorem eT.ai(o:eT lo sz h s rows el)(g:az h h'):eT lo sz h' s rows el:=o.fr (bh g) λ_ _ _=>id
theorem eT.at(o:eT lo sz h s rows el){c:Nat}(z:s.at c):lo<=c/\c<h.size:=o.sh.at z
theorem eT.cap(o:eT lo sz h s rows el):s.n<=s.c:=o.sh.cap
theorem eT.ap(o:eT lo sz h s rows el)(m:lo<=h.size){z:Array Value}(w:z.size=sz){bytes n:Nat}{new:List (List Value)}{a:List Value->Prop}{K:Sl->HP}(t:new.length=n)(hl:w9 sz new)
  (j:∀r∈new,∀v∈r,one v=true) (g:a new.flatten) (d:(s.n+n+(s.n+n)/4+192)*bytes<=2^48) (k:s.n+n<2^63)
  (y:∀e h',Tn s.at h h'->(∀c,e.at c->s.at c\/h.size<=c)->eT lo sz h' e (rows++new) el->K e h'):Ap h el z sz bytes s n a K:=by
 refine Yz o.sh m w (by rw[hl.flat,t]) (λv g=>?_) g d k λe h' f p u l=>y e h' f p ⟨λr i=>?_,?_,?_⟩
 ·grind[List.mem_flatten]
 ·rcases nt.1 i with q|q
  ·exact o.len r q
  ·exact hl r q
 ·rw[l,ij,o.n,t]
 simp[*]
theorem eT.start{lo b:Nat}{el:TypeId}(k:aN h b #[] el)(c:lo<=b):eT lo sz h ⟨some (aJ b),0,0⟩ [] el:=
 ⟨λ_ h=>by simp at h,rfl,.inr ⟨b,c,k.lt,rfl,aA,_,k,bP _,aA,λi a=>by simp at a⟩⟩
end
theorem Sv.A7{s:Sl}(v:Sv h s vs)(g:s.a≠none\/vs=[]):rd h s.a (s.n*1) vs:=by
  obtain⟨l,k,j⟩:=v;cases f:s.a with
  |none=>rcases g with q|q;exact absurd f q;exact q
  | some a=>
    refine⟨ag,λi w e=>?_⟩
    have:=(cU.1 e).1;obtain⟨m,d,c⟩:=j (vs.length-1) ag;rw[f]at d;cases d;exact c i w e
theorem Sv.na{s:Sl}(v:Sv h s vs):s.a≠none\/vs=[]:=by
 obtain⟨f,g,e⟩:=v;cases vs with
 |nil=>simp
 |cons w c=>obtain⟨a,d,_⟩:=e c.length ag;simp[*]
end Go.Sh
