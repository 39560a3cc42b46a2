import Derived.Test.YtikpikmkhdapiaaGreatDoorBeginsShLoc
set_option linter.unusedSimpArgs false
set_option linter.unusedVariables false
set_option maxRecDepth 100000
set_option maxHeartbeats 1000000
namespace Go.Sh
def qm (sz:Nat) (rows:List (List Value)):Prop:=∀r∈rows,r.length=sz
theorem qm.flat {sz:Nat}:∀{rows:List (List Value)},qm sz rows->rows.flatten.length=rows.length*sz
  | [],_=>by simp
  | r::rows,h=>by
    have c:=qm.flat (rows:=rows) λx a=>h x (by simp[a])
    simp only[List.flatten_cons,List.length_append,List.length_cons,(h r aS),c,Nat.succ_mul];omega
theorem FI {sz:Nat}:∀{rows:List (List Value)},qm sz rows->∀{i k:Nat},k < sz->rows.flatten[i*sz+k]? = (rows[i]?).bind (·[k]?)
  | [],_,i,k,_=>by simp
  | r::rows,h,i,k,d=>by
    have a:=h r aS;simp only[List.flatten_cons];cases i with
    | zero=>rw[List.getElem?_append_left ag];simp
    | succ i =>
      rw[List.getElem?_append_right (by rw[a,Nat.succ_mul];omega)]
      have e:(i+1)*sz+k - r.length=i*sz+k:=by rw[a,Nat.succ_mul];omega
      rw[e,FI (λx c=>h x (by simp[c])) d];simp
theorem agO {sz j:Nat} (a:0 < sz):j=j / sz*sz+j % sz/\j % sz < sz:=⟨by rw[Nat.mul_comm];exact (Nat.div_add_mod j sz).symm,Nat.mod_lt _ a⟩
theorem Wq (a:Addr) (x y:Nat):(a.add x).add y=a.add (x+y):=by
 unfold Addr.add
 by_cases d:x=0
 ·subst d;simp
 ·by_cases c:y=0
  ·subst c;simp
  ·simp[d,c,Nat.add_assoc]
theorem yA (a:Addr) (i:Nat):(a.add i).block=a.block:=by unfold Addr.add;split <;> rfl
theorem Cs.fr {S:Nat->Prop} {h h':Hp} {a:Addr} {vs:List Value} (c:Cs h a vs) (f:Tn S h h') (e:¬S a.block):Cs h' a vs:=λi v d=>f.cell (c i v d) (by rw[yA];exact e)
structure iH (sz:Nat) (h:Hp) (s:Sl) (b:Nat) (rows:List (List Value)) (el:TypeId):Prop where
 len:qm sz rows
 n:s.n=rows.length
 own:oN sz h s b rows.flatten el
section
variable {sz b:Nat} {h h':Hp} {s:Sl} {rows:List (List Value)} {el:TypeId}
theorem iH.a (o:iH sz h s b rows el):s.a=some ⟨b,0,none⟩:=o.own.1
theorem iH.cap (o:iH sz h s b rows el):s.n<=s.c:=by obtain ⟨_,_,_,_,h,_⟩:=o.own;exact h
theorem iH.lt (o:iH sz h s b rows el):b < h.size:=o.own.lt
theorem iH.fr {S:Nat->Prop} (o:iH sz h s b rows el) (f:Tn S h h') (c:¬S b):iH sz h' s b rows el:=⟨o.len,o.n,o.own.fr f c⟩
theorem iH.ix (o:iH sz h s b rows el) {x:Int} {i:Nat} (c:x=i) (p:i < rows.length) {K:Addr->Prop} (g:K ⟨b,i*sz,none⟩):Ix s.a s.n sz x K:=by
 subst c;exact o.own.ix ag (by rw[o.n];omega) (by simpa using g)
theorem iH.cs (o:iH sz h s b rows el) {i:Nat} {r:List Value} (e:rows[i]? = some r):Cs h ⟨b,i*sz,none⟩ r:=by
 intro k v c;have l:=o.len r (List.mem_of_getElem? e);have d:k < sz:=by have:=(List.getElem?_eq_some_iff.1 c).1;omega
 have m:=(List.getElem?_eq_some_iff.1 e).1;obtain ⟨_,t,cs,g,q,p,f⟩:=o.own;have a:i*sz+k < s.n*sz:=by
  have j:(i+1)*sz<=s.n*sz:=Nat.mul_le_mul_right _ (by rw[o.n];omega)
  rw[Nat.succ_mul] at j;omega
 rw[aI,eW g,f _ a,FI o.len d,e];exact c
theorem iH.set (o:iH sz h s b rows el) {i:Nat} (M:i < rows.length) {r:List Value} (m:r.length=sz) (E:∀v∈r,one v=true) {K:Hp->Prop}
  (G:∀h',aM b h h'->iH sz h' s b (rows.set i r) el->K h'):fI h ⟨b,i*sz,none⟩ 0 r K:=by
 obtain ⟨J,N,cs,I,t,H,F⟩:=o.own;have k:(i+1)*sz<=s.n*sz:=Nat.mul_le_mul_right _ (by rw[o.n];omega)
 have L:s.n*sz<=s.c*sz:=Nat.mul_le_mul_right _ t;rw[Nat.succ_mul] at k;have hl:qm sz (rows.set i r):=λx C=>by
  rcases List.mem_or_eq_of_mem_set C with q | q
  ·exact o.len x q
  ·rw[q,m]
 refine rL r I ag E λh' l B A z y=>G h' B ⟨hl,by rw[List.length_set];exact o.n,J,by rw[hl.flat,List.length_set,o.n],l,A,t,by rw[z,H],λj p => ?_⟩
 rcases Nat.eq_zero_or_pos sz with g | g
 ·subst g;simp at p
 obtain ⟨e,u⟩:=agO (sz:=sz) (j:=j) g;have w:=FI hl u (i:=j / sz);rw[<-e] at w;rw[y j,w,List.getElem?_set];have D:i*sz+r.length=(i+1)*sz:=by rw[m,Nat.succ_mul]
 have f:(i*sz+0<=j/\j < i*sz+0+r.length)↔i=j / sz:=by
  rw[Nat.add_zero,D];constructor
  ·rintro ⟨a,c⟩;exact (Nat.div_eq_of_lt_le a c).symm
  ·rintro rfl;exact ⟨Nat.div_mul_le_self _ _,by rw[Nat.mul_comm];exact Nat.lt_mul_div_succ j g⟩
 by_cases d:i=j / sz
 ·rw[if_pos (f.2 d),if_pos d,if_pos ag];simp only[Option.bind_some]
  congr 1
  rw[d];omega
 ·rw[if_neg (λq=>d (f.1 q)),if_neg d];rw[F j p];have:=FI o.len u (i:=j / sz);rw[<-e] at this;exact this
end
structure cN (lo sz:Nat) (h:Hp) (s:Sl) (rows:List (List Value)) (el:TypeId):Prop where
 len:qm sz rows
 n:s.n=rows.length
 sh:Sh lo h.size sz h s rows.flatten el
section
variable {lo sz:Nat} {h h':Hp} {s:Sl} {rows:List (List Value)} {el:TypeId}
theorem cN.nil (lo sz:Nat) (h:Hp) (el:TypeId):cN lo sz h Sl.nil [] el:=⟨λ_ h=>by simp at h,rfl,Sh.nil _ _ _ _ _⟩
theorem cN.cases (o:cN lo sz h s rows el):(s=Sl.nil/\rows=[])\/∃b,lo<=b/\iH sz h s b rows el:=by
 rcases o.sh with ⟨a,_⟩ | ⟨b,a,_,c⟩
 ·refine .inl ⟨a,List.eq_nil_of_length_eq_zero ?_⟩;rw[<-o.n,a];rfl
 ·exact .inr ⟨b,a,o.len,o.n,c⟩
theorem cN.fr {S:Nat->Prop} (o:cN lo sz h s rows el) (f:Tn S h h') (c:∀b,lo<=b->b < h.size->¬S b):cN lo sz h' s rows el:=⟨o.len,o.n,(o.sh.fr f c).wide (Nat.le_refl _) f.1⟩
theorem cN.aj (o:cN lo sz h s rows el) (g:ah h h'):cN lo sz h' s rows el:=o.fr (S:=No) (Tn.aT g) λ_ _ _=>id
theorem cN.at (o:cN lo sz h s rows el) {c:Nat} (q:s.at c):lo<=c/\c < h.size:=o.sh.at q
theorem cN.cap (o:cN lo sz h s rows el):s.n<=s.c:=o.sh.cap
theorem cN.ap (o:cN lo sz h s rows el) (m:lo<=h.size) {z:Array Value} (w:z.size=sz) {bytes n:Nat} {new:List (List Value)} {a:List Value->Prop} {K:Sl->Hp->Prop} (t:new.length=n) (hl:qm sz new)
  (i:∀r∈new,∀v∈r,one v=true) (g:a new.flatten) (d:(s.n+n+(s.n+n) / 4+192)*bytes<=2 ^ 48) (k:s.n+n < 2 ^ 63)
  (x:∀e h',Tn s.at h h'->(∀c,e.at c->s.at c\/h.size<=c)->cN lo sz h' e (rows++new) el->K e h'):Ap h el z sz bytes s n a K:=by
 refine P2 o.sh m w (new:=new.flatten) (by rw[hl.flat,t]) (λv g => ?_) g d k λe h' f p u l=>x e h' f p ⟨λr j => ?_,?_,?_⟩
 ·obtain ⟨r,j,g⟩:=List.mem_flatten.1 g;exact i r j v g
 ·rcases List.mem_append.1 j with q | q
  ·exact o.len r q
  ·exact hl r q
 ·rw[l,List.length_append,o.n,t]
 ·rw[List.flatten_append];exact u
theorem cN.start {lo b:Nat} {el:TypeId} (k:aB h b #[] el) (c:lo<=b):cN lo sz h ⟨some ⟨b,0,none⟩,0,0⟩ [] el :=
 ⟨λ_ h=>by simp at h,rfl, .inr ⟨b,c,k.lt,rfl,by simp,_,k,Nat.le_refl _,by simp,λi a=>by simp at a⟩⟩
end
theorem Sv.ES {h:Hp} {s:Sl} {vs:List Value} (v:Sv h s vs) (g:s.a≠none\/vs=[]):rd h s.a (s.n*1) vs:=by
  obtain ⟨l,k,j⟩:=v;cases f:s.a with
  | none=>rcases g with q | q;exact absurd f q;exact q
  | some a =>
    refine ⟨by omega,λi w e => ?_⟩
    have:=(List.getElem?_eq_some_iff.1 e).1;obtain ⟨m,d,c⟩:=j (vs.length - 1) ag;rw[f] at d;cases d;exact c i w e
theorem Sv.na {h:Hp} {s:Sl} {vs:List Value} (v:Sv h s vs):s.a≠none\/vs=[]:=by
 obtain ⟨f,g,e⟩:=v;cases vs with
 | nil=>exact .inr rfl
 | cons w c=>obtain ⟨a,d,_⟩:=e c.length (by simpa using f);exact .inl (by rw[d];simp)
end Go.Sh
