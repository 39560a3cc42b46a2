import Derived.Test.YtikpikmkhdapiaaGreatDoorBeginsJ1
set_option linter.unusedSimpArgs false
set_option linter.unusedVariables false
set_option maxRecDepth 100000
set_option maxHeartbeats 1000000
namespace Go.Proofs.YtikpikmkhdapiaaGreatDoor
open Go Go.Sh Go.WideShapes
theorem Vb {h:Hp} {a:Addr} {v:Value} (b:cell h a=some v):a.block < h.size:=by
 unfold Go.Sh.cell at b;split at b
 ·rename_i e;exact (Array.getElem?_eq_some_iff.1 e).1
 ·simp at b
theorem Cs.lt {h:Hp} {a:Addr} {v:Value} {vs:List Value} (c:Cs h a (v::vs)):a.block < h.size:=Vb (Cs.c0 c)
mutual
theorem bz.lt {D:Nat->Prop} {h:Hp}:∀{s:Sl} (fs:List ai),bz D h s fs->bz (λb=>D b/\b < h.size) h s fs
  | _,[],hh=>by unfold bz at hh ⊢;exact hh
  | _,g::fs,hh=>by
    unfold bz at hh ⊢
    obtain ⟨a,b,p,e,d,x,y⟩:=hh
    refine ⟨a,b,p,e,⟨d,?_⟩,ga.lt g x,ff.lt fs y⟩
    obtain ⟨n,aq,k,w,id,ix,cs⟩:=g
    unfold ga at x
    obtain ⟨s,c,_⟩:=x
    exact Cs.lt c
theorem ff.lt {D:Nat->Prop} {h:Hp}:∀{a:Addr} {i:Nat} (fs:List ai),ff D h a i fs->ff (λb=>D b/\b < h.size) h a i fs
 | _,_,[],_=>by unfold ff;trivial
 | _,i,g::fs,hh=>by unfold ff at hh ⊢;exact ⟨ga.lt g hh.1,ff.lt fs hh.2⟩
theorem ga.lt {D:Nat->Prop} {h:Hp}:∀{a:Addr} (g:ai),ga D h a g->ga (λb=>D b/\b < h.size) h a g
  | _, .mk n aq k w id ix cs,hh=>by
    unfold ga at hh ⊢
    obtain ⟨s,c,x⟩:=hh
    exact ⟨s,c,bz.lt cs x⟩
end
theorem iw.row {h:Hp} {a:Addr} {f:ai} (c:iw h a f):∃u,Cs h a (f.row u)/\bM h u f.cs:=by cases f;exact c
abbrev Nw (h:Hp):Nat->Prop:=λb=>h.size<=b
def Ii (cs:List ai):Prop:=∀{h:Hp} {s:Sl} {K:Sl->HP} {Kp:PK},bM h s cs->cs.length<=70000->fS cs->(∀t h',ah h h'->bz (Nw h) h' t cs->K t h')->Ac s h K Kp
theorem Ty {cs:List ai} (IH:∀f∈cs,Ii f.cs):Ii cs:=by
  intro h s K Kp hs hl W hk;have hn:=hs.n;refine Ac.of (HU.bB (λE x m=>∃(i:Nat) (z:List Sl),x=i/\i<=cs.length/\z.length=i/\ah h m/\cN h.size 7 m E (List.zipWith ai.row (cs.take i) z) fP /\
      ∀(j:Nat) (f:ai) (u:Sl),cs[j]? = some f->z[j]? = some u->bz (λb=>h.size<=b/\¬E.at b) m u f.cs)
    (λE x _=>cs.length - x.toNat) ⟨0,[],rfl,by omega,rfl,ah.refl _,cN.nil _ _ _ _,by simp⟩ ?_)
  rintro E x m ⟨i,z,rfl,hi,p,B,w,hu⟩ N1 hN;have R:=w.n;rw[List.length_zipWith,List.length_take] at R;refine aA (λc => ?_) λc => ?_
  · have c:=ay c;have y:i < cs.length:=ag;have O:cs[i]? = some cs[i]:=List.getElem?_eq_getElem y;have I:cs.take (i+1)=cs.take i++[cs[i]]:=List.take_succ_eq_append_getElem y;have l:cs[i]∈cs:=List.getElem_mem y;generalize cs[i]=f at O I l;refine hs.ix rfl O λa ha => ?_;obtain ⟨u,c,Y⟩:=ha.row;refine aN.c (c.aj B) (az λb5 hx eb gx kx _=>dW.b kx rfl λG o2 M => ?_);have H:ah m G:=aM.aj gx o2 ag;simp only[aI];have J:=(W.get f l).cs;refine an M rfl (IH f l ((Y.gr B).gr H) J.1 J.2 λt h3 g3 ht=>cE (M.aj g3) aS rfl λh4 o4 M=>aN.b M (az λd' N e5 g5 T _ => ?_));have Z:m.size<=b5:=ag;have a':b5 < G.size:=by rw[o2.1];exact kx.lt
    have g4:ah m h4:=aM.aj (ah.trans H g3) o4 Z;have C:ah m N:=ah.trans g4 g5;have V:bz (Nw G) N t f.cs:=bz.gr (bz.fr o4.fr (λb (k:G.size<=b) e=>by omega) (λ_ k=>k) _ ht) g5
    refine (w.aj C).ap (by have:=B.1;have:=C.1;omega) rfl (new:=[f.row t]) rfl (λr F=>by simp at F;subst F;rfl) (λr F=>by simp at F;subst F;exact row_one f t) (by simpa[ai.row,kj] using iB T rfl) ag ag λs' h6 Q L o6=>aP ag ag (hN _ _ _ ⟨i+1,z++[t],by simp,by omega,by simp[p],?_,?_,?_⟩ ag)
    · exact (((Tn.aT (ah.trans B C):Tn No h N)).trans' Q λd hd c'=>by have:=((w.aj C).at hd).1;omega).aj
    · rw[I,List.zipWith_append cC];exact o6
    · intro j g v P A;have b':=C.1
      by_cases e:j < i
      · rw[List.getElem?_append_left ag] at A;refine bz.fr Q (D:=λb=>(h.size<=b/\¬E.at b)/\b < m.size) (λb k=>k.1.2) (λb k=>⟨k.1.1,λq => ?_⟩) _ (bz.gr (bz.lt _ (hu j g v P A)) C);rcases L b q with q | q
        · exact k.1.2 q
        · have:=k.2;omega
      · have X:=(List.getElem?_eq_some_iff.1 A).1;simp only[List.length_append,List.length_singleton] at X;have:j=i:=ag;subst this;rw[List.getElem?_append_right ag,p] at A;simp only[Nat.sub_self,List.getElem?_cons_zero,Option.some.injEq] at A;subst A;rw[O] at P;cases P;refine bz.fr Q (D:=λb=>Nw G b/\b < N.size) (λb k q=>by have:=(w.at q).2;have:=H.1;have:=k.1;omega) (λb k=>⟨by have:=B.1;have:=H.1;have:=k.1;omega,λq => ?_⟩) _ (bz.lt _ V)
        rcases L b q with q | q
        · have:=(w.at q).2;have:=H.1;have:=k.1;omega
        · have:=k.2;omega
  · have c:=ay c;have:i=cs.length:=ag;subst this;rw[List.take_length] at w;refine ajg w.cap (hk _ _ B ?_);rcases w.cases with ⟨rfl,e⟩ | ⟨b,k,o⟩
    · have:cs=[]:=by
        cases cs with
        | nil=>rfl
        | cons f fs=>cases z with
          | nil=>simp at p
          | cons=>simp at e
      subst this;unfold bz;exact ⟨rfl,Nat.le_refl _⟩
    · exact bz.sub (bz.of (D:=Nw h) o p k λj f u hf U=>bz.fr (S:=No) (Tn.refl _ _) (λ_ _=>id) (λb k=>k.1) _ (hu j f u hf U)) rfl rfl (Nat.le_refl _)
theorem Tz:∀f:ai,Ii f.cs
 | .mk _ _ _ _ _ _ cs=>Ty (cs:=cs) λf _=>Tz f
theorem aeA (cs:List ai):Ii cs:=Ty λf _=>Tz f
def gC (k:Int):Int:=if k=1\/k=20 then 0 else if k=12\/k=13 then 3 else if k=16\/k=17 then 1 else 2
def cl (k:Int):Int:=if k=3\/k=7 then 1 else if k=4\/k=8 then 2 else if k=5\/k=9 then 4 else if k=6\/k=10\/k=11 then 8 else 0
structure kJ (h:Hp):Prop where
 k:gK h
 b:∀i:Nat,1<=i->i<=20->cell h ⟨2,i*4+2,none⟩=some (.int .i64 (gC i))
 w:∀i:Nat,1<=i->i<=20->cell h ⟨2,i*4+1,none⟩=some (.int .i64 (cl i))
theorem kJ.aj {h H:Hp} (t:kJ h) (g:ah h H):kJ H:=⟨t.k.aj g,λi c a=>g.cell (t.b i c a),λi c a=>g.cell (t.w i c a)⟩
theorem nM.kinds {k w id ix:Int} {cs:List ai} (h:nM k w id ix cs):Shaped k w id ix cs.length/\(cs.length<=32/\fS cs):=by
 have q:=bp.self h;have l:=(bp.fS h).cs;simp only[NZ,ai.k,ai.w,ai.id,ai.ix,ai.cs] at q l;refine ⟨q.1,?_,l.2⟩;have:=q.1;unfold Shaped at this;omega
def mZ (k:Int) (cs:List ai):Nat:=if k=19 then 0 else if k=20 then cs.length+1 else cs.length
def oI (k:Int):Nat:=if k=19 then 1 else 0
theorem acA {k w id ix:Int} {cs:List ai} {h:Hp} {s:Sl} {K:Sl->HP} {V:PK} (Q:gK h) (p:nM k w id ix cs) (F:gj cs) (y:bM h s cs)
  (z:∀t L,ah h L->t.n=mZ k cs->K t L):DA k w id ix s h K V:=by
 have I:=p.kinds;have Y:=y.n;refine DA.of (az λb1 h1 e1 D l _=>dH.b l (LU (Q.aj D) (by show _<=9223372036854775807;omega) F (y.gr D) λb h2 N S => ?_))
 have l:=l.aj N;have G:=ah.trans D N;obtain rfl:=S.2 p;refine aR rfl (an l rfl (aA (λc=>z _ _ G ?_) λc=>IX.of ?_))
 ·have c:=ay c;simp[mZ,c]
 have c:=ay c;simp only[aI];refine an l rfl (aeA cs (y.gr G) ag I.2.2 λt T C j=>an (l.aj C) rfl (aA (λg => ?_) λg => ?_))
 ·have g:=ay g;refine az λx J e4 M m _ => ?_;have E:=j.n;have q:cs.length=1:=by have:=I.1;unfold Shaped at this;omega
  obtain ⟨f,R⟩:∃f,cs[0]? = some f:=⟨cs[0],List.getElem?_eq_getElem ag⟩;obtain ⟨a,B,H⟩:=(bz.h cs (j.gr M)).get R;obtain ⟨u,c,_⟩:=H.row;have o:cN 0 7 J ⟨some ⟨x,0,none⟩,1,1⟩ [[.string (bs [101,110,100,115]), .bool false, .int .i64 5, .int .i64 0, .int .i64 0, .int .i64 0, .slice none 0 0]] fP :=
   ⟨λr e=>by simp at e;subst e;rfl,rfl, .inr ⟨x,Nat.zero_le _,m.lt,rfl,rfl,_,m,Nat.le_refl _,rfl,λi _=>by simp⟩⟩
  refine o.ap (Nat.zero_le _) rfl (new:=[f.row u]) cC (λr e=>by simp at e;subst e;rfl) (λr e=>by simp at e;subst e;exact row_one f u) ?_ cC cC λX Z U _ O=>z _ _ ?_ ?_
  ·rw[B,E.1,q];refine ⟨by simp[abO],λi v P => ?_⟩
   have:=c i v (by simpa using P)
   simpa[add_zero'] using this
  ·exact ah.trans G (ah.trans C (((Tn.aT M:Tn No T J).trans' U λd A W=>by obtain ⟨a,B,A⟩:=A;cases B;simp at A;omega).aj))
  ·have:=O.n;simp at this;simp[mZ,g,q,this]
 ·have g:=ay g;refine z _ _ (ah.trans G C) ?_;rw[j.n.1];simp[mZ,c,g]
theorem aaU {k w id ix:Int} {cs:List ai} {h:Hp} {s:Sl} {K:Int->Int->Int->HP} {x:PK} (j:kJ h) (hl:cs.length<=jY) (i:gj cs) (r:bM h s cs)
  (z:¬nM k w id ix cs->∀g,ah h g->K (-1) (-1) (-1) g) (y:nM k w id ix cs->∀g,ah h g->K (gC k) (mZ k cs) (oI k) g):DJ k w id ix s h K x:=by
 refine DJ.of (az λB D e1 n a _=>dH.b a (LU (j.k.aj n) hl i (r.gr n) λb A v u => ?_));have a:=a.aj v;have G:=ah.trans n v;cases b
 ·exact bx rfl (z (λq=>absurd (u.2 q) aS) _ G)
 have e:=u.1 rfl;have f:=e.kinds.1;have p:∀d:Int,d=oI k->zh K x ⟨B,0,none⟩ d A:=by
  rintro d rfl;refine zh.of (an a rfl ⟨by unfold Shaped at f;omega,by unfold Shaped at f;omega,?_⟩)
  simp only[aI,Nat.zero_add];have l:=(j.aj G).b k.toNat (by unfold Shaped at f;omega) (by unfold Shaped at f;omega)
  rw[Int.toNat_of_nonneg (by unfold Shaped at f;omega)] at l
  refine ⟨_,l,dH.b a (acA (j.k.aj G) e i (r.gr G) λt C m o=>vY l m (bK a m ?_))⟩;rw[o];exact y e _ (ah.trans G m)
 refine aR rfl (an a rfl (aA (λc=>p _ ?_) λc=>p _ ?_))
 ·have c:=ay c;simp[oI,c]
 ·have c:=ay c;simp[oI,c]
def ji (k w ix:Int):Int:=if k=14 then w else if k=19 then cl ix else cl k
theorem YE {k w id ix:Int} {cs:List ai} {h:Hp} {s:Sl} {K:Int->HP} {A:PK} (o:kJ h) (m:gj cs) (v:bM h s cs) (f:nM k w id ix cs)
  (p:∀t,ah h t->K (ji k w ix) t):Dy k w id ix s h K A:=by
 have g:=f.kinds;have hl:=g.2.1;replace g:=g.1;refine Dy.of (az λC z e1 i a _=>dH.b a (LU (o.k.aj i) (by show _<=9223372036854775807;omega) m (v.gr i) λb r u y => ?_))
 have a:=a.aj u;have G:=ah.trans i u;obtain rfl:=y.2 f;have d:∀x:Int,1<=x->x<=20->cl x=ji k w ix->Ix (some ⟨2,0,none⟩) 21 4 x λn=>Ld r (n.add 1) mI λl=>K l r:=by
  intro x z B e;refine ⟨by omega,by omega,?_⟩
  simp only[aI,Nat.zero_add];have q:=(o.aj G).w x.toNat ag ag;rw[Int.toNat_of_nonneg ag,e] at q;exact ⟨_,q,p _ G⟩
 unfold Shaped at g;simp only[aI];refine aR rfl (an a rfl (aA (λc=>an a rfl ?_) λc=>aA (λj=>an a rfl (d _ ?_ ?_ ?_)) λj=>an a rfl (d _ ?_ ?_ ?_)))
 ·have c:=ay c;have:=p _ G;simp only[ji,c,if_pos] at this;exact this
 all_goals simp only[sm,reduceCtorEq] at c j
 all_goals first | omega | simp[ji,c,j]
inductive aJ
 | mk (len off aq:Int) (aH:List (List UInt8)) (cs ds:List aJ)
def aJ.len:aJ->Int | .mk n _ _ _ _ _=>n
def aJ.off:aJ->Int | .mk _ o _ _ _ _=>o
def aJ.aq:aJ->Int | .mk _ _ u _ _ _=>u
def aJ.aH:aJ->List (List UInt8) | .mk _ _ _ b _ _=>b
def aJ.cs:aJ->List aJ | .mk _ _ _ _ c _=>c
def aJ.ds:aJ->List aJ | .mk _ _ _ _ _ x=>x
def uz (n o u:Int) (b c x:Sl):List Value:=[.int .i64 n, .int .i64 o, .int .i64 u,Sl.v b,Sl.v c,Sl.v x]
def aJ.row (d:aJ) (p:Sl × Sl × Sl):List Value:=uz d.len d.off d.aq p.1 p.2.1 p.2.2
theorem ahz (d:aJ) (p:Sl × Sl × Sl):∀v∈d.row p,one v=true:=by intro v a;simp[aJ.row,uz] at a;rcases a with rfl | rfl | rfl | rfl | rfl | rfl <;> rfl
def cV (E:Nat->Prop) (h:Hp) (s:Sl) (vs:List Value):Prop:=Sv h s vs/\(vs≠[]->∀a,s.a=some a->E a.block)
theorem cV.fr {E S E':Nat->Prop} {h h':Hp} {s:Sl} {vs:List Value} (v:cV E h s vs) (f:Tn S h h') (k:∀b,E b->b < h.size->¬S b) (o:∀b,E b->E' b):cV E' h' s vs:=by
 obtain ⟨⟨g,m,l⟩,e⟩:=v;refine ⟨⟨g,m,λx i => ?_⟩,λj a d=>o _ (e j a d)⟩;obtain ⟨a,d,c⟩:=l x i;cases vs with
 | nil=>simp at g;omega
 | cons w n=>exact ⟨a,d,c.fr f (k _ (e aS a d) (Cs.lt c))⟩
theorem cV.lt {E:Nat->Prop} {h:Hp} {s:Sl} {vs:List Value} (v:cV E h s vs):cV (λb=>E b/\b < h.size) h s vs:=by
 obtain ⟨⟨i,l,g⟩,k⟩:=v;refine ⟨⟨i,l,g⟩,λe a f=>⟨k e a f,?_⟩⟩;cases vs with
 | nil=>exact absurd rfl e
 | cons w j=>obtain ⟨m,d,c⟩:=g j.length (by simpa using i);rw[f] at d;cases d;exact Cs.lt c
def cY (D E:Nat->Prop) (h:Hp) (s:Sl) (aH:List (List UInt8)):Prop :=
 ∃ss:List Sl,ss.length=aH.length/\cV D h s (ss.map Sl.v)/\∀(j:Nat) (t:Sl) (l:List UInt8),ss[j]? = some t->aH[j]? = some l->cV E h t (bv l)
mutual
def bN (D E:Nat->Prop) (h:Hp) (s:Sl):List aJ->Prop
 | []=>s.n=0/\s.n<=s.c
 | d::ds=>s.n=ds.length+1/\s.n<=s.c/\∃a,s.a=some a/\D a.block/\eO D E h a d/\fK D E h a 1 ds
def fK (D E:Nat->Prop) (h:Hp) (a:Addr) (i:Nat):List aJ->Prop
 | []=>True
 | d::ds=>eO D E h (a.add (i*6)) d/\fK D E h a (i+1) ds
def eO (D E:Nat->Prop) (h:Hp) (a:Addr):aJ->Prop
 | .mk n o u aH cs ds=>∃b c x,Cs h a (uz n o u b c x)/\cY D E h b aH/\bN D E h c cs/\bN D E h x ds
end
structure c7 (D E:Nat->Prop) (h:Hp) (p:Sl × Sl × Sl) (d:aJ):Prop where
 b:cY D E h p.1 d.aH
 c:bN D E h p.2.1 d.cs
 x:bN D E h p.2.2 d.ds
theorem eO.row {D E:Nat->Prop} {h:Hp} {a:Addr} {O:aJ} (e:eO D E h a O):∃p,Cs h a (O.row p)/\c7 D E h p O:=by
 obtain ⟨n,o,u,aH,cs,ds⟩:=O;unfold eO at e;obtain ⟨b,c,x,f,j,i,g⟩:=e;exact ⟨(b,c,x),f,j,i,g⟩
theorem eO.of {D E:Nat->Prop} {h:Hp} {a:Addr} {d:aJ} {p:Sl × Sl × Sl} (c:Cs h a (d.row p)) (v:c7 D E h p d):eO D E h a d:=by
 obtain ⟨n,o,u,aH,cs,ds⟩:=d;unfold eO;exact ⟨_,_,_,c,v.1,v.2,v.3⟩
section
variable {D E D' E' S:Nat->Prop} {h h':Hp}
theorem cY.fr (f:Tn S h h') (e:∀b,D b->b < h.size->¬S b) (g:∀b,E b->b < h.size->¬S b) (o:∀b,D b->D' b) (k:∀b,E b->E' b) {s:Sl} {aH:List (List UInt8)} (v:cY D E h s aH):cY D' E' h' s aH:=by
 obtain ⟨a,hl,c,d⟩:=v;exact ⟨a,hl,c.fr f e o,λj t l m i=>(d j t l m i).fr f g k⟩
theorem cY.lt {s:Sl} {aH:List (List UInt8)} (v:cY D E h s aH):cY (λb=>D b/\b < h.size) (λb=>E b/\b < h.size) h s aH:=by
 obtain ⟨a,hl,c,d⟩:=v;exact ⟨a,hl,c.lt,λj t l f e=>(d j t l f e).lt⟩
mutual
theorem bN.fr (f:Tn S h h') (hn:∀b,D b->b < h.size->¬S b) (hm:∀b,E b->b < h.size->¬S b) (hD:∀b,D b->D' b) (hE:∀b,E b->E' b):∀{s:Sl} (ds:List aJ),bN D E h s ds->bN D' E' h' s ds
  | _,[],hh=>by unfold bN at hh ⊢;exact hh
  | _,d::ds,hh=>by
    unfold bN at hh ⊢
    obtain ⟨a,b,p,e,q,x,y⟩:=hh
    have fO:p.block < h.size:=by obtain ⟨n,o,u,aH,cs,es⟩:=d;unfold eO at x;obtain ⟨_,_,_,c,_⟩:=x;exact Cs.lt c
    exact ⟨a,b,p,e,hD _ q,eO.fr f hn hm hD hE (hn _ q fO) d x,fK.fr f hn hm hD hE (hn _ q fO) ds y⟩
theorem fK.fr (f:Tn S h h') (hn:∀b,D b->b < h.size->¬S b) (hm:∀b,E b->b < h.size->¬S b) (hD:∀b,D b->D' b) (hE:∀b,E b->E' b):∀{a:Addr} (ha:¬S a.block) {i:Nat} (ds:List aJ),fK D E h a i ds->fK D' E' h' a i ds
  | _,_,_,[],_=>by unfold fK;trivial
  | _,ha,i,d::ds,hh=>by
    unfold fK at hh ⊢
    exact ⟨eO.fr f hn hm hD hE (by rw[yA];exact ha) d hh.1,fK.fr f hn hm hD hE ha ds hh.2⟩
theorem eO.fr (f:Tn S h h') (hn:∀b,D b->b < h.size->¬S b) (hm:∀b,E b->b < h.size->¬S b) (hD:∀b,D b->D' b) (hE:∀b,E b->E' b):∀{a:Addr} (ha:¬S a.block) (d:aJ),eO D E h a d->eO D' E' h' a d
  | _,ha, .mk n o u aH cs ds,hh=>by
    unfold eO at hh ⊢
    obtain ⟨b,c,x,hc,h1,h2,h3⟩:=hh
    exact ⟨b,c,x,hc.fr f ha,h1.fr f hn hm hD hE,bN.fr f hn hm hD hE cs h2,bN.fr f hn hm hD hE ds h3⟩
end
mutual
theorem bN.lt:∀{s:Sl} (ds:List aJ),bN D E h s ds->bN (λb=>D b/\b < h.size) (λb=>E b/\b < h.size) h s ds
  | _,[],hh=>by unfold bN at hh ⊢;exact hh
  | _,d::ds,hh=>by
    unfold bN at hh ⊢
    obtain ⟨a,b,p,e,q,x,y⟩:=hh
    have fO:p.block < h.size:=by obtain ⟨n,o,u,aH,cs,es⟩:=d;unfold eO at x;obtain ⟨_,_,_,c,_⟩:=x;exact Cs.lt c
    exact ⟨a,b,p,e,⟨q,fO⟩,eO.lt d x,fK.lt ds y⟩
theorem fK.lt:∀{a:Addr} {i:Nat} (ds:List aJ),fK D E h a i ds->fK (λb=>D b/\b < h.size) (λb=>E b/\b < h.size) h a i ds
 | _,_,[],_=>by unfold fK;trivial
 | _,i,d::ds,hh=>by unfold fK at hh ⊢;exact ⟨eO.lt d hh.1,fK.lt ds hh.2⟩
theorem eO.lt:∀{a:Addr} (d:aJ),eO D E h a d->eO (λb=>D b/\b < h.size) (λb=>E b/\b < h.size) h a d
  | _, .mk n o u aH cs ds,hh=>by
    unfold eO at hh ⊢
    obtain ⟨b,c,x,hc,h1,h2,h3⟩:=hh
    exact ⟨b,c,x,hc,h1.lt,bN.lt cs h2,bN.lt ds h3⟩
end
theorem bN.gr {s:Sl} {ds:List aJ} (v:bN D E h s ds) (g:ah h h'):bN D E h' s ds:=bN.fr (S:=No) (Tn.aT g) (λ_ _ _=>id) (λ_ _ _=>id) (λ_ q=>q) (λ_ q=>q) ds v
theorem c7.fr (f:Tn S h h') (e:∀b,D b->b < h.size->¬S b) (g:∀b,E b->b < h.size->¬S b) (o:∀b,D b->D' b) (k:∀b,E b->E' b) {p:Sl × Sl × Sl} {d:aJ} (v:c7 D E h p d):c7 D' E' h' p d :=
 ⟨v.b.fr f e g o k,bN.fr f e g o k _ v.c,bN.fr f e g o k _ v.x⟩
theorem c7.lt {p:Sl × Sl × Sl} {d:aJ} (v:c7 D E h p d):c7 (λb=>D b/\b < h.size) (λb=>E b/\b < h.size) h p d:=⟨v.b.lt,bN.lt _ v.c,bN.lt _ v.x⟩
theorem c7.gr {p:Sl × Sl × Sl} {d:aJ} (v:c7 D E h p d) (g:ah h h'):c7 D E h' p d:=v.fr (S:=No) (Tn.aT g) (λ_ _ _=>id) (λ_ _ _=>id) (λ_ q=>q) (λ_ q=>q)
theorem cY.gr {s:Sl} {aH:List (List UInt8)} (v:cY D E h s aH) (g:ah h h'):cY D E h' s aH:=v.fr (S:=No) (Tn.aT g) (λ_ _ _=>id) (λ_ _ _=>id) (λ_ q=>q) (λ_ q=>q)
theorem c7.mo {p:Sl × Sl × Sl} {O:aJ} (v:c7 D E h p O) (c:∀b,D b->D' b) (a:∀b,E b->E' b):c7 D' E' h p O:=v.fr (S:=No) (Tn.refl _ _) (λ_ _ _=>id) (λ_ _ _=>id) c a
theorem fK.get:∀{a:Addr} {ds:List aJ} {i:Nat},fK D E h a i ds->∀(j:Nat) d,ds[j]? = some d->eO D E h (a.add ((i+j)*6)) d
  | _,[],_,_,_,_,b=>by simp at b
  | _,f::k,i,c,0,g,b=>by simp at b;subst b;unfold fK at c;exact c.1
  | _,f::k,i,c,j+1,g,b=>by
    unfold fK at c;have:=fK.get c.2 j g (by simpa using b)
    have e:i+(j+1)=i+1+j:=ag;rw[e];exact this
theorem bN.get {s:Sl} {ds:List aJ} (c:bN D E h s ds) {j:Nat} {d:aJ} (b:ds[j]? = some d):∃a,s.a=some a/\eO D E h (a.add (j*6)) d:=by
  cases ds with
  | nil=>simp at b
  | cons g l =>
    unfold bN at c;obtain ⟨_,_,a,f,_,k,i⟩:=c;refine ⟨a,f,?_⟩;cases j with
    | zero=>simp at b;subst b;rw[Nat.zero_mul,add_zero'];exact k
    | succ j =>
      have:=i.get j d (by simpa using b)
      have e:1+j=j+1:=ag;rw[e] at this;exact this
theorem bN.n {s:Sl} {ds:List aJ} (q:bN D E h s ds):s.n=ds.length/\s.n<=s.c:=by
 cases ds with
 | nil=>unfold bN at q;exact q
 | cons g a=>unfold bN at q;exact ⟨q.1,q.2.1⟩
theorem bN.ix {s:Sl} {ds:List aJ} (g:bN D E h s ds) {x:Int} {i:Nat} (q:x=(i:Int)) {d:aJ} (o:ds[i]? = some d) {K:Addr->Prop} (w:∀a p,Cs h a (d.row p)->c7 D E h p d->K a):Ix s.a s.n 6 x K:=by
 obtain ⟨a,e,b⟩:=g.get o;obtain ⟨p,c,v⟩:=b.row;have f:=g.n;have j:i < ds.length:=(List.getElem?_eq_some_iff.1 o).1;subst q;rw[e];exact ⟨by omega,by omega,by rw[Int.toNat_natCast];exact w _ _ c v⟩
theorem fK.of {a:Addr}:∀{ds:List aJ} {i:Nat},(∀j d,ds[j]? = some d->eO D E h (a.add ((i+j)*6)) d)->fK D E h a i ds
  | [],_,_=>by unfold fK;trivial
  | f::c,i,H=>by
    unfold fK;refine ⟨H 0 f rfl,fK.of λj g b => ?_⟩;have:=H (j+1) g (by simpa using b)
    have e:i+1+j=i+(j+1):=ag;rw[e];exact this
theorem bN.of {s:Sl} {b:Nat} {ds:List aJ} {c:List (Sl × Sl × Sl)} {el:TypeId} (o:iH 6 h s b (List.zipWith aJ.row ds c) el) (hl:c.length=ds.length) (t:D b)
    (q:∀(j:Nat) (d:aJ) (p:Sl × Sl × Sl),ds[j]? = some d->c[j]? = some p->c7 D E h p d):bN D E h s ds:=by
  have i:=o.n;rw[List.length_zipWith,hl,Nat.min_self] at i;have key:∀j d,ds[j]? = some d->eO D E h ⟨b,j*6,none⟩ d:=by
    intro j d k;have m:=(List.getElem?_eq_some_iff.1 k).1;have f:c[j]? = some c[j]:=List.getElem?_eq_getElem ag;exact eO.of (o.cs (by rw[List.getElem?_zipWith,k,f])) (q j d _ k f)
  cases ds with
  | nil=>unfold bN;exact ⟨by simpa using i,o.cap⟩
  | cons d ds =>
    unfold bN;refine ⟨by simpa using i,o.cap,_,o.a,t,by simpa using key 0 d rfl,fK.of λj g l => ?_⟩
    rw[aI,Nat.zero_add];have:=key (j+1) g (by simpa using l)
    have e:1+j=j+1:=ag;rw[e];exact this
theorem bN.nil (h:Hp):bN D E h Sl.nil []:=by unfold bN;exact ⟨rfl,Nat.le_refl _⟩
theorem bN.snoc {n:Nat} {s:Sl} {ds:List aJ} {a:List (Sl × Sl × Sl)} {el:TypeId} (o:cN n 6 h s (List.zipWith aJ.row ds a) el) (hl:a.length=ds.length) (g:∀b,n<=b->D b)
    (c:∀(j:Nat) (d:aJ) (p:Sl × Sl × Sl),ds[j]? = some d->a[j]? = some p->c7 D E h p d):bN D E h s ds:=by
  rcases o.cases with ⟨rfl,e⟩ | ⟨b,f,o⟩
  · have:ds=[]:=by
      cases ds with
      | nil=>rfl
      | cons d ds=>cases a with
        | nil=>simp at hl
        | cons=>simp at e
    subst this;exact bN.nil h
  · exact bN.of o hl (g b f) c
end
abbrev K6:=Int->Int->Int->Sl->Sl->Sl->HP
theorem Qy {α β γ:Type} {g:α->β->γ} {l:List α} {m:List β} {i:Nat} {x:α} {y:β} (a:l[i]? = some x) (d:m.length=i):List.zipWith g (l.take (i+1)) (m++[y])=List.zipWith g (l.take i) m++[g x y]:=by
 have c:=(List.getElem?_eq_some_iff.1 a).1;have b:l.take (i+1)=l.take i++[x]:=by
  rw[List.take_succ_eq_append_getElem c];rw[List.getElem?_eq_getElem c] at a;cases a;rfl
 rw[b,List.zipWith_append cC];rfl
theorem xe {α:Type} {m:List α} {y v:α} {i j:Nat} (b:m.length=i) (a:(m++[y])[j]? = some v):(j < i/\m[j]? = some v)\/(j=i/\v=y):=by
 subst b;rcases Nat.lt_trichotomy j m.length with h | h | h
 ·rw[List.getElem?_append_left h] at a;exact .inl ⟨h,a⟩
 ·subst h;rw[List.getElem?_append_right (Nat.le_refl _)] at a;simp at a;exact .inr ⟨rfl,a.symm⟩
 ·have:=(List.getElem?_eq_some_iff.1 a).1;simp at this;omega
theorem MQ (vs:List Value):(vs.map λv=>[v]).flatten=vs:=by induction vs <;> simp_all
theorem Sk (vs:List Value):qm 1 (vs.map λv=>[v]):=by intro r a;obtain ⟨v,_,rfl⟩:=List.mem_map.1 a;rfl
theorem aaP (b:List Sl):∀r∈(b.map Sl.v).map λv=>[v],∀v∈r,one v=true:=by
 intro r d v a;obtain ⟨w,c,rfl⟩:=List.mem_map.1 d;obtain ⟨t,_,rfl⟩:=List.mem_map.1 c;simp at a;subst a;rfl
theorem cN.iS {n:Nat} {h:Hp} {s:Sl} {vs:List Value} {el:TypeId} (o:cN n 1 h s (vs.map λv=>[v]) el):cV (λb=>n<=b) h s vs:=by
 refine ⟨?_,λ_ a c=>(o.at ⟨a,c,rfl⟩).1⟩;have:=o.sh;rw[MQ] at this;exact this.sv
theorem ajf {g h:Hp} {D E:Nat->Prop} {s:Sl} {aH:List (List UInt8)} {K:Sl->HP} {G:PK} (u:ah g h) (y:cY D E g s aH) (hl:aH.length<=70000)
  (p:∀t m,ah h m->cY (Nw h) E m t aH->K t m):Dq s h K G:=by
 obtain ⟨i,f,b,A⟩:=y;have o:=b.1.1;rw[List.length_map] at o;refine Dq.of (aA (λc => ?_) λc => ?_)
 ·refine p _ h (ah.refl _) ⟨[],?_,⟨Sv.nil h,λq=>absurd rfl q⟩,λj t l e=>by simp at e⟩
  rcases b.1.na with q | q
  ·rw[Option.isNone_iff_eq_none] at c;exact absurd c q
  ·have:i=[]:=by simpa using q
   subst this;exact f
 ·refine az λJ e F n x _=>(cN.start (sz:=1) x (Nat.le_of_eq F.symm)).ap (by have:=n.1;omega) rfl (new:=(i.map Sl.v).map λv=>[v]) (by simp[o]) (Sk _) (aaP i) ?_ cC cC λt k C I w => ?_
  ·rw[MQ];exact (b.1.aj (ah.trans u n)).ES b.1.na
  ·have r:ah h k:=((Tn.aT n:Tn No h e).trans' C λd ⟨a,B,z⟩ H=>by cases B;simp at z;omega).aj
   exact p t k r ⟨i,f,(cN.iS w),λj t l e k=>(A j t l e k).fr (S:=No) (Tn.aT (ah.trans u r)) (λ_ _ _=>id) λ_ q=>q⟩
theorem ajP (l:List UInt8):∀r∈(bv l).map λv=>[v],∀v∈r,one v=true:=by
 intro r c v a;obtain ⟨w,b,rfl⟩:=List.mem_map.1 c;simp at a;subst a;exact ajQ _ b
abbrev B33 (h:Hp) (b:Nat) (d:aJ) (p:Sl × Sl × Sl):Prop:=aB h b #[.int .i64 d.len, .int .i64 d.off, .int .i64 d.aq,Sl.v p.1,Sl.v p.2.1,Sl.v p.2.2] bG
abbrev Tt:Nat->Prop:=λ_=>True
abbrev ug (h:Hp) (p:Sl × Sl × Sl) (d:aJ):Prop:=c7 Tt Tt h p d
def fT:List UInt8->Nat
 | []=>0
 | b::l=>b.toNat+256*fT l
theorem M1 (l:List UInt8):fT l < 2 ^ (8*l.length):=by
  induction l with
  | nil=>simp[fT]
  | cons b l a =>
    have c:=b.toNat_lt;have e:2 ^ (8*(l.length+1))=256*2 ^ (8*l.length):=by rw[Nat.mul_add,Nat.pow_add,Nat.mul_comm]
    simp only[fT,List.length_cons];rw[e];omega
theorem Ta (l:List UInt8) (b:UInt8):fT (l++[b])=fT l+b.toNat*2 ^ (8*l.length):=by
  induction l with
  | nil=>simp[fT]
  | cons c l a =>
    have e:2 ^ (8*(l.length+1))=256*2 ^ (8*l.length):=by rw[Nat.mul_add,Nat.pow_add,Nat.mul_comm]
    simp only[List.cons_append,fT,a,List.length_cons];rw[e,Nat.mul_add,<-Nat.mul_assoc b.toNat,Nat.mul_comm b.toNat 256,Nat.mul_assoc];omega
def sg (w x:Nat):Int:=if x < 2 ^ (8*w - 1) then x else (x:Int) - 2 ^ (8*w)
def kZ (l:List UInt8) (i w:Nat):Nat:=fT ((l.drop i).take w)
theorem SE (l:List UInt8) (i w:Nat):kZ l i w < 2 ^ (8*w):=Nat.lt_of_lt_of_le (M1 _) (Nat.pow_le_pow_right aL cC)
def i32 (l:List UInt8) (i:Nat):Int:=sg 4 (kZ l (4*i) 4)
def dQ (l:List UInt8) (r:Nat):Bool:=(l.getD (r / 8) 0).toNat / 2 ^ (r % 8) % 2 == 1
theorem OY (x:Nat):dF .and .u8 (x:Int) 1=((x % 2:Nat):Int):=by
 have a:(BitVec.ofInt 8 (x:Int) &&& BitVec.ofInt 8 1).toNat=x % 2:=by
  have e1:BitVec.ofInt 8 (x:Int)=BitVec.ofNat 8 x:=by simp
  have b:BitVec.ofInt 8 1=BitVec.ofNat 8 1:=by decide
  rw[e1,b,BitVec.toNat_and,BitVec.toNat_ofNat,BitVec.toNat_ofNat];have:1 % 2 ^ 8=1:=by decide
  rw[this,Nat.and_one_is_mod];omega
 show IntKind.wrap .u8 ((BitVec.ofInt 8 (x:Int) &&& BitVec.ofInt 8 1).toNat:Int)=_
 rw[a,IntKind.wrap_u8];omega
theorem Sd (x y:Nat) (b:x < 2 ^ 64) (a:y < 2 ^ 64):dF .or .u64 (x:Int) (y:Int)=((x ||| y:Nat):Int):=by
 have h:x ||| y < 2 ^ 64:=Nat.or_lt_two_pow b a;have e:(BitVec.ofInt 64 (x:Int) ||| BitVec.ofInt 64 (y:Int)).toNat=x ||| y:=by
  rw[BitVec.toNat_or,BitVec.ofInt_natCast,BitVec.ofInt_natCast,BitVec.toNat_ofNat,BitVec.toNat_ofNat,Nat.mod_eq_of_lt b,Nat.mod_eq_of_lt a]
 show IntKind.u64.wrap ((BitVec.ofInt 64 (x:Int) ||| BitVec.ofInt 64 (y:Int)).toNat:Int)=_
 rw[e];simp only[IntKind.wrap,IntKind.signed,IntKind.bits];simp;omega
theorem acR {n m k:Nat} (a:n < 2 ^ k):n ||| (m*2 ^ k)=n+m*2 ^ k:=by
 have:=Nat.shiftLeft_add_eq_or_of_lt a m;rw[Nat.shiftLeft_eq] at this;rw[Nat.or_comm,<-this];omega
theorem lT {k:IntKind} {x:Nat} {K:Int->Prop} (b:k.signed=false) (a:x < 2 ^ k.bits) (c:K x):Wr k (x:Int) K:=by
 have:k.wrap (x:Int)=x:=by
  unfold IntKind.wrap;rw[b];have e:((2 ^ k.bits:Nat):Int)=(2:Int) ^ k.bits:=by norm_cast
  have d:(x:Int) % (2:Int) ^ k.bits=x:=by rw[<-e];exact Int.emod_eq_of_lt ag (by exact_mod_cast a)
  simp[d]
 unfold Wr;rw[this];exact c
theorem ajS (l:List UInt8) (i:Nat):(bv l)[i]? = (l[i]?).map λb=>Value.int .u8 b.toNat:=by simp[bv]
theorem WZ {h:Hp} {s:Sl} {vs:List Value} {p g o:Option Int} {K:Sl->Prop} (v:Sv h s vs) {a b m:Nat} (e:p.getD 0=(a:Int)) (j:g.getD s.n=(b:Int)) (l:o.getD s.c=(m:Int)) (E:a<=b) (D:b<=vs.length) (C:b<=m) (B:m<=s.c)
  (u:∀t:Sl,t.n=b - a->t.c=m - a->(∀x,t.a=some x->∃y,s.a=some y/\x.block=y.block)->Sv h t ((vs.drop a).take (b - a))->K t):gp s 1 p g o K:=by
 obtain ⟨A,z,q⟩:=v;refine ⟨by omega,by omega,by omega,by omega,u _ (by simp only[e,j,Int.toNat_natCast]) (by simp only[e,l,Int.toNat_natCast]) ?_ ⟨?_,?_,?_⟩⟩
 ·intro x d;simp only[jH] at d;split at d
  ·exact ⟨x,d,rfl⟩
  ·cases f:s.a with
   | none=>rw[f] at d;cases d
   | some y=>rw[f] at d;cases d;exact ⟨y,rfl,yA _ _⟩
 ·simp only[e,j,Int.toNat_natCast,List.length_take,List.length_drop];omega
 ·simp only[e,j,l,Int.toNat_natCast];omega
 ·intro x d;simp only[e,j,l,Int.toNat_natCast] at d ⊢;obtain ⟨y,r,c⟩:=q (s.n - 1) ag;refine ⟨y.add (a*1),by rw[jH,if_neg ag,r];rfl,λi w k => ?_⟩
  rw[Nat.mul_one,Wq];have g:i < b - a:=by have:=(List.getElem?_eq_some_iff.1 k).1;simp at this;omega
  rw[List.getElem?_take_of_lt g,List.getElem?_drop] at k;exact c _ _ k
theorem V3 (l:List UInt8) (a n:Nat):((bv l).drop a).take n=bv ((l.drop a).take n):=by simp[bv]
theorem Pn {h:Hp} {s:Sl} {l:List UInt8} (v:Sv h s (bv l)) {x:Int} {i:Nat} {b:UInt8} (d:x=i) (c:l[i]? = some b) {K:Int->Prop} (f:K b.toNat):Ix s.a s.n 1 x λa=>Ld h a (.int .u8) λt=>K t:=by
 have j:=(List.getElem?_eq_some_iff.1 c).1;have e:=v.1;rw[eL] at e;subst d;exact v.ix ag ag (v:=.int .u8 b.toNat) (by rw[Int.toNat_natCast,ajS,c];rfl) λa g=>⟨_,g,f⟩
theorem adv {n:Nat} {h:Hp} {K:Int->HP} {b:PK} (d:n<=2 ^ 40) (a:K ((n+7) / 8:Nat) h):Dz (n:Int) h K b:=by
 refine Dz.of (aA (λc => ?_) λc => ?_)
 ·have c:=ay c;have:(n+7) / 8=0:=ag;rw[this] at a;exact a
 ·have c:=ay c;have e:Int.tdiv ((n:Int) - 1) 8=(((n - 1) / 8:Nat):Int):=by
   have:(n:Int) - 1=((n - 1:Nat):Int):=ag;rw[this];rfl
  refine aP ag ag (mM aL (aP (by rw[e];omega) (by rw[e];omega) (aP (by rw[e];omega) (by rw[e];omega) ?_)))
  rw[e];have:(((n - 1) / 8:Nat):Int)+1=((n+7) / 8:Nat):=ag;rw[this];exact a
theorem aj1 {s:Sl} {l:List UInt8} {r:Nat} {h:Hp} {K:Bool->HP} {Kp:PK} (v:Sv h s (bv l)) (hr:r / 8 < l.length) (hl:r<=2 ^ 40) (hk:K (dQ l r) h):DF s (r:Int) h K Kp:=by
 have e1:Int.tdiv (r:Int) 8=((r / 8:Nat):Int):=rfl;have e2:Int.tmod (r:Int) 8=((r % 8:Nat):Int):=rfl;refine DF.of (mM aL (aP (by rw[e1];omega) (by rw[e1];omega) ?_))
 have hb:l[r / 8]? = some l[r / 8]:=List.getElem?_eq_getElem hr;have hg:l.getD (r / 8) 0=l[r / 8]:=by simp[hr]
 unfold dQ at hk;rw[hg] at hk;generalize l[r / 8]=b at hb hk;refine Pn v e1 hb (mM aL ?_);rw[e2];refine fY ag ?_;have e3:Int.fdiv (b.toNat:Int) (2 ^ (min (Int.toNat ((r % 8:Nat):Int)) (IntKind.bits .u8)))=((b.toNat / 2 ^ (r % 8):Nat):Int):=by
  have:min (Int.toNat ((r % 8:Nat):Int)) (IntKind.bits .u8)=r % 8:=by
   have:IntKind.bits .u8=8:=rfl;rw[this,Int.toNat_natCast];omega
  rw[this,Int.fdiv_eq_ediv_of_nonneg _ (Int.le_of_lt (Int.pow_pos aL))]
  norm_cast
 unfold Lt;rw[e3]
 show K (dF .and .u8 ((b.toNat / 2 ^ (r % 8):Nat):Int) 1 == 1) h
 rw[OY];have:((((b.toNat / 2 ^ (r % 8)) % 2:Nat):Int) == 1)=(b.toNat / 2 ^ (r % 8) % 2 == 1):=by
  rw[Bool.eq_iff_iff];simp only[beq_iff_eq];omega
 rw[this];exact hk
theorem aj4 {s:Sl} {l:List UInt8} {r:Nat} {h:Hp} {K:Bool->Int->HP} {d:PK} (v:Sv h s (bv l)) (hl:r<=2 ^ 40) (a:∀e,K (dQ l r) e h):DO s (r:Int) h K d:=by
 have b:=v.1;rw[eL] at b;have e1:Int.tdiv (r:Int) 8=((r / 8:Nat):Int):=rfl;refine DO.of (aR aS (mM aL (aP (by rw[e1];omega) (by rw[e1];omega) (aA (λc => ?_) λc => ?_))))
 ·have c:=ay c;rw[e1] at c;have:dQ l r=false:=by
   unfold dQ;have:l.getD (r / 8) 0=0:=by rw[List.getD_eq_getElem?_getD,List.getElem?_eq_none ag];rfl
   rw[this];simp
  have q:=a 2;rw[this] at q;exact q
 ·have c:=ay c;rw[e1] at c;exact aj1 v ag hl (a 0)
def iD (k:Int):Bool:=k != 1 && k != 18 && k != 20
theorem Ue {k:Int} {h:Hp} {K:Bool->HP} {d:PK} (a:K (iD k) h):Ag k h K d:=by
 unfold iD at a;refine Ag.of (aA (λc=>zm.of ?_) λc=>zm.of (aR rfl ?_))
 ·rw[c,Bool.true_and] at a;refine aA (λb => ?_) λb => ?_
  ·rw[b,Bool.true_and] at a;exact a
  ·rw[b,Bool.false_and] at a;exact a
 ·rw[c,Bool.false_and,Bool.false_and] at a;exact a
def bQ (aH:List (List UInt8)) (j:Nat):List UInt8:=aH.getD j []
theorem ajV {aH:List (List UInt8)} {j:Nat} (h:j < aH.length):aH[j]? = some (bQ aH j):=by simp[bQ,h]
def fR (k:Int) (aH:List (List UInt8)) (r:Nat):Bool:=k == 1 || (iD k && ((bQ aH 0).length != 0 && !dQ (bQ aH 0) r))
theorem cY.ix {D E:Nat->Prop} {h:Hp} {s:Sl} {aH:List (List UInt8)} (v:cY D E h s aH) {x:Int} {j:Nat} (g:x=(j:Int)) (p:j < aH.length) {K:Addr->Prop} (o:∀a t,cell h a=some (Sl.v t)->cV E h t (bv (bQ aH j))->K a):Ix s.a s.n 1 x K:=by
 obtain ⟨c,hl,d,f⟩:=v;have e:=d.1.1;rw[List.length_map] at e;have b:c[j]? = some c[j]:=List.getElem?_eq_getElem ag;subst g;exact d.1.ix ag ag (v:=Sl.v c[j]) (by rw[Int.toNat_natCast,List.getElem?_map,b];rfl) λa i=>o a _ i (f j _ _ b (ajV p))
theorem cY.n {D E:Nat->Prop} {h:Hp} {s:Sl} {aH:List (List UInt8)} (v:cY D E h s aH):s.n=aH.length/\s.n<=s.c:=by
 obtain ⟨b,hl,a,_⟩:=v;have:=a.1.1;rw[List.length_map] at this;exact ⟨by omega,a.1.2.1⟩
theorem Sw {C:ByteArray} {aq:Bool} {k w id ix n y z:Int} {s b c S:Sl} {aH:List (List UInt8)} {r:Nat} {D E:Nat->Prop} {h:Hp} {K:Bool->HP} {J:PK} (v:cY D E h b aH) (A:iD k=true->1<=aH.length) (F:r<=2 ^ 40)
  (d:∀B,ah h B->K (fR k aH r) B):Ah C aq k w id ix s n y z b c S (r:Int) h K J:=by
 refine Ah.of (az λO L e1 I q _=>az λN H M j p _ => ?_);simp only[aI];have G:=ah.trans I j;have d:=d H G;unfold fR at d;refine an (q.aj j) rfl (aA (λm => ?_) λm=>an (q.aj j) rfl (Ue ?_))
 ·rw[m,Bool.true_or] at d;exact d
 rw[m,Bool.false_or] at d;refine aA (λf => ?_) λf => ?_
 ·rw[Bool.not_eq_true'] at f;rw[f,Bool.false_and] at d;exact d
 rw[Bool.not_eq_false'] at f;rw[f,Bool.true_and] at d;refine an p rfl ((v.gr G).ix rfl (A f) λa t l i=>⟨_,l,?_⟩);have tn:=i.1.1;rw[eL] at tn;refine aA (λg => ?_) λg=>I6.of (an p rfl ((v.gr G).ix rfl (A f) λa t l i=>⟨_,l,aj4 i.1 F λe => ?_⟩))
 ·have g:=ay g;have:(bQ aH 0).length=0:=ag;rw[this] at d;exact d
 ·have g:=ay g;have:((bQ aH 0).length != 0)=true:=by rw[bne_iff_ne];omega
  rw[this,Bool.true_and] at d;exact d
def oL (k:Int) (aH:List (List UInt8)) (o n:Nat):Nat:=(List.range n).countP λi=>fR k aH (o+i)
theorem ai4 (k:Int) (aH:List (List UInt8)) (o n:Nat):oL k aH o n<=n:=by
 have:=List.countP_le_length (p:=λi=>fR k aH (o+i)) (l:=List.range n);simpa[oL] using this
theorem ai3 (k:Int) (aH:List (List UInt8)) (o n:Nat):oL k aH o (n+1)=oL k aH o n+if fR k aH (o+n) then 1 else 0:=by
 simp[oL,List.range_succ,List.countP_append,List.countP_cons]
theorem aiU {q:ByteArray} {aq:Bool} {k w id ix n o u:Int} {s b c t:Sl} {aH:List (List UInt8)} {N O:Nat} {D E:Nat->Prop} {h:Hp} {K:Int->HP} {I:PK} (v:cY D E h b aH) (F:iD k=true->1<=aH.length) (A:n=N) (r:o=O)
  (hN:N<=2 ^ 30) (P:O<=2 ^ 30) (B:∀f,ah h f->K (oL k aH O N) f):CX q aq k w id ix s n o u b c t h K I:=by
 subst A r;refine CX.of (az λU J e1 H j _=>az λT C S p g _=>an g rfl ?_);have G:=ah.trans H p;have j:=j.aj p;refine GU.bB (λy z f=>∃i:Nat,z=i/\i<=N/\y=oL k aH O i/\ah C f) (λ_ z _=>N - z.toNat) ⟨0,rfl,by omega,rfl,ah.refl _⟩ ?_
 rintro y z R ⟨i,rfl,L,rfl,a⟩ V e;have M:=ai4 k aH O i;refine aA (λd => ?_) λd => ?_
 ·have d:=ay d;simp only[aI];refine aN.b (j.aj a) (bq.b (g.aj a) (an (g.aj a) rfl (aP ag ag ?_)));rw[show (O:Int)+i=((O+i:Nat):Int) by omega]
  refine Sw (v.gr (ah.trans G a)) F ag λQ m => ?_;have cs:=ai3 k aH O i;refine aA (λl => ?_) λl => ?_
  ·rw[if_pos l] at cs;exact aP ag ag (aP ag ag (e _ _ _ ⟨i+1,by simp,by omega,by omega,ah.trans a m⟩ ag))
  ·rw[if_neg (by simp[l])] at cs
   exact aP ag ag (e _ _ _ ⟨i+1,by simp,by omega,by omega,ah.trans a m⟩ ag)
 ·have d:=ay d;have:i=N:=ag;subst this;exact B _ (ah.trans G a)
theorem ag7 {e n:Int} {h:Hp} {K:Int->Sl->Int->HP} {j:PK} (g:∀a,ah h a->K e Sl.nil n a):iL e n h K j :=
 iL.of (az λb l e1 i f _=>bX.b f rfl λk c d=>cv.b d (g _ (aM.aj i c ag)))
theorem UI {e n:Int} {H h:Hp} {b:Nat} {el:TypeId} {cs:Array Value} {K:Int->Sl->Int->HP} {u:PK} (g:ah H h) (k:aB h b cs el) (r:cs.size=3) (t:H.size<=b) (s:∀d,ah H d->K e Sl.nil n d) :
  iL e n h (λl j i c=>bX c ⟨b,0,none⟩ l j i λa=>cv a ⟨b,0,none⟩ λr0 o m=>K r0 o m a) u :=
 ag7 λc f=>bX.b (k.aj f) r λa p q=>cv.b q (s _ (aM.aj (ah.trans g f) p t))
theorem ac7 {H h:Hp} {b:Nat} {el:TypeId} {cs:Array Value} {K:Int->Sl->Int->HP} (g:ah H h) (k:aB h b cs el) (j:cs.size=3) (m:H.size<=b) (l:∀c,ah H c->K 0 Sl.nil 0 c) :
  bX h ⟨b,0,none⟩ 0 (⟨none,0,0⟩:Sl) 0 λa=>cv a ⟨b,0,none⟩ λr0 e d=>K r0 e d a :=
 bX.b k j λa f i=>cv.b i (l _ (aM.aj g f m))
def Ca (aq:Bool) (k:Int) (d:aJ):Prop:=d.aq=oL k d.aH d.off.toNat d.len.toNat/\(0 < oL k d.aH d.off.toNat d.len.toNat->aq=true)
theorem adn {W:ByteArray} {aq:Bool} {k w id ix:Int} {s b c u:Sl} {d:aJ} {D E:Nat->Prop} {h:Hp} {K:Int->Sl->Int->HP} {U:PK} (v:cY D E h b d.aH) (X:iD k=true->1<=d.aH.length)
  (h2:0<=d.len/\d.len<=4096) (h3:0<=d.off/\d.off<=4096) (Q:∀e t n p,ah h p->t=Sl.nil->(e=0↔Ca aq k d)->K e t n p):DH W aq k w id ix s d.len d.off d.aq b c u h K U:=by
 refine DH.of (az λb2 a' e1 T F _=>az λb3 Z e2 J C _=>az λA Y e3 I P _ => ?_);have G:=ah.trans T (ah.trans J I);have F:=(F.aj J).aj I;have C:=C.aj I;have B:h.size<=A:=by have:=T.1;have:=J.1;omega
 refine aN.b F (bq.b C (aiU (v.gr G) X (N:=d.len.toNat) (O:=d.off.toNat) ag ag ag ag λS r => ?_));have V:=ah.trans G r;simp only[aI];have bad:¬Ca aq k d->iL 81 1 S (λo m l H=>bX H ⟨A,0,none⟩ o m l λR=>cv R ⟨A,0,none⟩ λg f a=>K g f a R) U:=λq =>
  UI V (P.aj r) rfl B λp L=>Q _ _ _ p L rfl ⟨λy=>absurd y aL,λy=>(q y).elim⟩
 have j:Ca aq k d->bX S ⟨A,0,none⟩ 0 (⟨none,0,0⟩:Sl) 0 λH=>cv H ⟨A,0,none⟩ λg f a=>K g f a H:=λq =>
  ac7 V (P.aj r) rfl B λp L=>Q _ _ _ p L rfl ⟨λ_=>q,λ_=>rfl⟩
 refine an (C.aj r) rfl (aA (λi=>bad λq => ?_) λi=>aA (λM=>an (F.aj r) rfl (aA (λz=>bad λq => ?_) λz=>j ?_)) λM=>j ?_)
 ·have i:=ay i;exact i q.1
 ·simp only[sm,reduceCtorEq] at M z;have:=q.2 ag;rw[z] at this;cases this
 ·simp only[sm,reduceCtorEq] at i z;exact ⟨i,λ_=>z⟩
 ·simp only[sm,reduceCtorEq] at i M;exact ⟨i,λq=>absurd q ag⟩
def fD (k w ix:Int) (j e hv:Nat):Nat :=
 if k=18 then e*(1+3*j) else if (j=0/\hv=0)\/j=2 then 0 else if j=0\/k=2 then (e+7) / 8 else if k=12\/k=13\/k=15 then 4*(e+1) else e*(ji k w ix).toNat
theorem YL {k w id ix:Int} {cs:List ai} (h:nM k w id ix cs):0<=ji k w ix/\ji k w ix<=16:=by
 have:=h.kinds.1;unfold Shaped at this;have wk:∀y:Int,0<=cl y/\cl y<=8:=by intro y;unfold cl;repeat' split <;> omega
 unfold ji;split
 ·omega
 ·split
  ·have:=wk ix;omega
  ·have:=wk k;omega
theorem adu {k w id ix x y:Int} {s:Sl} {cs:List ai} {j e hv:Nat} {h:Hp} {K:Int->HP} {o:PK} (N:kJ h) (z:gj cs) (O:bM h s cs) (n:nM k w id ix cs) (S:j<=3) (G:e<=2 ^ 30) (L:x=e) (J:y=hv)
  (a:∀H,ah h H->K (fD k w ix j e hv) H):DI k w id ix s (j:Int) x y h K o:=by
 subst L J;refine DI.of (az λt f T g l _=>an l rfl (aA (λc => ?_) λc => ?_))
 ·have c:=ay c;have a:=a f g;rw[fD,if_pos c] at a;refine aP ag ag (aP ag ag ?_);have e1:(e:Int)*(1+3*(j:Int))=((e*(1+3*j):Nat):Int):=by simp
  have R:e*(1+3*j)<=2 ^ 30*10:=Nat.mul_le_mul G ag;rw[e1];exact aP ag ag a
 have c:=ay c;have eX:=c
 -- I C p
 have E:¬((j=0/\hv=0)\/j=2)->¬(j=0\/k=2)->∀b:Bool,(b=true->k=12\/k=13)->(b=false->k≠12/\k≠13)->zf K o (e:Int) ⟨t,0,none⟩ b f:=by
  intro i D b B A;have fin:(k=12\/k=13\/k=15)->Wr .i64 ((e:Int)+1) λv=>Wr .i64 ((4:Int)*v) λu=>K u f:=by
   intro q;have a:=a f g;rw[fD,if_neg eX,if_neg i,if_neg D,if_pos q] at a;refine aP ag ag (aP ag ag ?_);have e1:(4:Int)*((e:Int)+1)=((4*(e+1):Nat):Int):=ag;rw[e1];exact a
  refine zf.of (aA (λc=>fin ?_) λc=>an l rfl (aA (λd=>fin ?_) λd=>dH.b l (YE (N.aj g) z (O.gr g) n λP Q => ?_)))
  ·have:=B c;omega
  ·have d:=ay d;omega
  ·have d:=ay d;have:=A c;have a:=a P (ah.trans g Q);rw[fD,if_neg eX,if_neg i,if_neg D,if_neg ag] at a;have M:=YL n;have e1:(e:Int)*ji k w ix=((e*(ji k w ix).toNat:Nat):Int):=by
    rw[Int.natCast_mul,Int.toNat_of_nonneg M.1]
   have R:e*(ji k w ix).toNat<=2 ^ 30*16:=Nat.mul_le_mul G ag;rw[e1];exact aP ag ag a
 have F:¬((j=0/\hv=0)\/j=2)->∀b:Bool,(b=true↔(j=0\/k=2))->zg K o (e:Int) ⟨t,0,none⟩ b f:=by
  intro i b m;refine zg.of (aA (λc=>adv ag ?_) λc=>an l rfl (aA (λd=>E i ?_ true ?_ ?_) λd=>an l rfl (E i ?_ _ ?_ ?_)))
  ·have a:=a f g;rw[fD,if_neg eX,if_neg i,if_pos (m.1 c)] at a;exact a
  all_goals first
   | exact λq=>by rw[m.2 q] at c;cases c
   | (simp only[sm,reduceCtorEq] at d;intro q;first | omega | (cases q) | (simp only[sm,reduceCtorEq] at q;omega))
 have r:∀b:Bool,(b=true↔((j=0/\hv=0)\/j=2))->wE K o (j:Int) (e:Int) ⟨t,0,none⟩ b f:=by
  intro b m;refine wE.of (aA (λc => ?_) λc=>aA (λd=>F ?_ true ?_) λd=>an l rfl (F ?_ _ ?_))
  ·have a:=a f g;rw[fD,if_neg eX,if_pos (m.1 c)] at a;exact a
  all_goals first
   | exact λq=>by rw[m.2 q] at c;cases c
   | (simp only[sm,reduceCtorEq] at d;simp only[true_iff,beq_iff_eq];omega)
 refine aA (λc=>aA (λd=>r _ ?_) λd=>r _ ?_) λc=>r _ ?_
 all_goals simp only[sm,reduceCtorEq] at *
 all_goals omega
def qL (d:aJ):List aJ:=if d.ds.length > 0 then d.ds else d.cs
def FW:ai:=.mk (bs [101,110,100,115]) false 5 0 0 0 []
def mS (k:Int) (cs:List ai):List ai:=if k=20 then FW::cs else cs
theorem acz {d:aJ} {p:Sl × Sl × Sl} {D E:Nat->Prop} {h:Hp} {K:Sl->HP} {g:PK} (v:c7 D E h p d) (f:∀s e,ah h e->bN D E e s (qL d)->K s e):DV d.len d.off d.aq p.1 p.2.1 p.2.2 h K g:=by
 have i:=v.x.n;refine DV.of (az λk j e1 a b _ => ?_);simp only[aI];refine an b rfl (aA (λc=>an b rfl (f _ _ a ?_)) λc=>an b rfl (f _ _ a ?_))
 ·have c:=ay c;rw[qL,if_pos ag];exact v.x.gr a
 ·have c:=ay c;rw[qL,if_neg ag];exact v.c.gr a
abbrev KF:=ByteArray->Bool->Int->Int->Int->Int->Sl->HP
structure nN (aq:Bool) (k w id ix:Int) (cs:List ai) (d:aJ):Prop where
 ty:nM k w id ix cs
 nb:(d.aH.length:Int)=gC k
 nc:d.cs.length=mZ k cs
 nd:d.ds.length=oI k
 l0:0<=d.len
 o0:0<=d.off
 u0:0<=d.aq
 ul:d.aq<=d.len
 l1:d.len<=4096
 o1:d.off<=4096
 e1:d.off+d.len<=4096
 vH:∀j,j < d.aH.length->(bQ d.aH j).length<=65536
 need:∀j,j < d.aH.length->fD k w ix j (d.off+d.len).toNat (bQ d.aH j).length<=(bQ d.aH j).length
 ch:∀(j:Nat) (c:aJ),d.cs[j]? = some c->(k=16->(d.off+d.len)*w<=c.len)/\(k=17->d.off+d.len<=c.len)
 nu:Ca aq k d
structure Pp (k w id ix:Int) (cs:List ai) (d:aJ):Prop where
 ty:nM k w id ix cs
 nb:(d.aH.length:Int)=gC k
 nc:d.cs.length=mZ k cs
 nd:d.ds.length=oI k
 l0:0<=d.len
 o0:0<=d.off
 u0:0<=d.aq
 ul:d.aq<=d.len
 l1:d.len<=4096
 o1:d.off<=4096
 e1:d.off+d.len<=4096
structure Sz (h0 h:Hp) (b2 b3 b4:Nat) (nm:ByteArray) (aq:Bool) (k w id ix:Int) (s:Sl) (d:aJ) (p:Sl × Sl × Sl):Prop where
 g:ah h0 h
 k2:aB h b2 #[.string nm, .bool aq, .int .i64 k, .int .i64 w, .int .i64 id, .int .i64 ix,Sl.v s] fP
 k3:B33 h b3 d p
 k4:aB h b4 iy ie
 hb:h0.size<=b4
theorem Sz.aj {h0 h H:Hp} {b2 b3 b4:Nat} {nm:ByteArray} {aq:Bool} {k w id ix:Int} {s:Sl} {d:aJ} {p:Sl × Sl × Sl} (z:Sz h0 h b2 b3 b4 nm aq k w id ix s d p) (g:ah h H):Sz h0 H b2 b3 b4 nm aq k w id ix s d p :=
 ⟨ah.trans z.g g,z.k2.aj g,z.k3.aj g,z.k4.aj g,z.hb⟩
theorem KG {h:Hp} {b:Nat} {nm:ByteArray} {aq:Bool} {k w id ix:Int} {s:Sl} {el:TypeId} (z:aB h b #[.string nm, .bool aq, .int .i64 k, .int .i64 w, .int .i64 id, .int .i64 ix,Sl.v s] el):Cs h ⟨b,2,none⟩ [.int .i64 k, .int .i64 w, .int .i64 id, .int .i64 ix,Sl.v s]:=by
 intro i v a;rw[aI,eW z];rcases i with _ | _ | _ | _ | _ | i
 all_goals first | exact a | (simp at a)
theorem ajk (k:Int) (cs:List ai):mZ k cs<=cs.length+1:=by
 unfold mZ;split
 ·omega
 ·split <;> omega
theorem OO (k:Int):0<=gC k/\gC k<=3:=by unfold gC;repeat' split <;> omega
section
variable {h0 h:Hp} {b2 b3 b4:Nat} {nm:ByteArray} {aq:Bool} {k w id ix:Int} {s:Sl} {cs:List ai} {d:aJ} {p:Sl × Sl × Sl} {K:Int->Sl->Int->HP} {Kp:PK}
theorem Sz.bad {e n:Int} (z:Sz h0 h b2 b3 b4 nm aq k w id ix s d p) {P:Prop} (v:e≠0) (x:¬P) (u:∀e t n c,ah h0 c->t=Sl.nil->(e=0↔P)->K e t n c) :
  iL e n h (λo l j A=>bX A ⟨b4,0,none⟩ o l j λf=>cv f ⟨b4,0,none⟩ λr0 r q=>K r0 r q f) Kp :=
 UI z.g z.k4 rfl z.hb λc a=>u _ _ _ c a rfl ⟨λy=>absurd y v,λy=>(x y).elim⟩
theorem Z4 (z:Sz h0 h b2 b3 b4 nm aq k w id ix s d p) (v:ug h0 p d) (o:Pp k w id ix cs d) (vH:∀j,j < d.aH.length->(bQ d.aH j).length<=65536) (need:∀j,j < d.aH.length->fD k w ix j (d.off+d.len).toNat (bQ d.aH j).length<=(bQ d.aH j).length)
  (hk:∀e t n h',ah h0 h'->t=Sl.nil->(e=0↔nN aq k w id ix cs d)->K e t n h') (x5:Int) (h5:0<=x5/\x5<=5):CO K Kp ⟨b2,0,none⟩ ⟨b3,0,none⟩ ⟨b4,0,none⟩ x5 (d.off+d.len) h:=by
 obtain ⟨ty,nb,nc,nd,l0,o0,u0,ul,l1,o1,e1⟩:=o;have hq:=ty.kinds;have vn:=v.c.n;have pM:d.cs.length<=33:=by have:=ajk k cs;omega
 have hw:k=16->1<=w/\w<=64:=by have:=hq.1;unfold Shaped at this;omega
 refine CO.of ?_;simp only[aI];refine an z.k3 rfl ?_;refine H8.bB (λx h'=>∃i:Nat,x=i/\i<=d.cs.length/\ah h h'/\∀(j:Nat) (c:aJ),j < i->d.cs[j]? = some c->(k=16->(d.off+d.len)*w<=c.len)/\(k=17->d.off+d.len<=c.len)) (λx _=>d.cs.length - x.toNat)
  ⟨0,rfl,by omega,ah.refl _,λj c hj=>by omega⟩ ?_
 rintro x h1 ⟨i,rfl,hi,g1,sZ⟩ N1 hN;have z:=z.aj g1;simp only[aI];refine aA (λc => ?_) λc => ?_
 ·have c:=ay c;have jP:i < d.cs.length:=ag;have hj:d.cs[i]? = some d.cs[i]:=List.getElem?_eq_getElem jP;generalize d.cs[i]=c' at hj;refine v.c.ix rfl hj λa q ca vq=>bq.c (ca.aj z.g) (az λb14 hx eb gx kx _=>bw.b kx rfl λh2 o2 TC => ?_);have g2:ah h1 h2:=aM.aj gx o2 ag;have z:=z.aj g2;have step:(k=16->(d.off+d.len)*w<=c'.len)/\(k=17->d.off+d.len<=c'.len)->Wr .i64 ((i:Int)+1) λt157=>N1 (A9 ⟨b2,0,none⟩ ⟨b3,0,none⟩ ⟨b4,0,none⟩ x5 (d.off+d.len) p.2.1 (p.2.1.n:Int) t157) h2:=λok =>
   aP ag ag (hN _ _ ⟨i+1,by simp,by omega,ah.trans g1 g2,λj c hjl hc=>by
    by_cases e:j=i
    ·subst e;rw[hj] at hc;cases hc;exact ok
    ·exact sZ j c ag hc⟩ ag)
  have bad:¬((k=16->(d.off+d.len)*w<=c'.len)/\(k=17->d.off+d.len<=c'.len))->Wr .i64 (x5+(i:Int)) λt155=>iL 82 t155 h2 (λt0 t1 t2 h1=>bX h1 ⟨b4,0,none⟩ t0 t1 t2 λh2=>cv h2 ⟨b4,0,none⟩ λr0 r1 r2=>K r0 r1 r2 h2) Kp:=λno =>
   aP ag ag (z.bad aL (λq=>no (q.ch i c' hj)) hk)
  have j5:∀b:Bool,(b=true↔k=16/\¬(d.off+d.len)*w<=c'.len)->zj K Kp N1 ⟨b2,0,none⟩ ⟨b3,0,none⟩ ⟨b4,0,none⟩ x5 (d.off+d.len) (i:Int) ⟨b14,0,none⟩ p.2.1 (p.2.1.n:Int) (i:Int) b h2:=by
   intro b hb;refine zj.of ?_;simp only[aI];refine aA (λc1=>bad λq=>(hb.1 c1).2 (q.1 (hb.1 c1).1)) λc1=>an z.k2 rfl (aA (λc2=>an TC rfl (aA (λc3=>bad λq => ?_) λc3=>step ?_)) λc2=>step ?_)
   ·simp only[sm,reduceCtorEq] at c2 c3;have:=q.2 c2;omega
   ·simp only[sm,reduceCtorEq] at c2 c3;exact ⟨λq=>by omega,λ_=>by omega⟩
   ·have c2:=ay c2;exact ⟨λq=>Decidable.byContradiction λq2=>(by rw[hb.2 ⟨q,q2⟩] at c1;cases c1),λq=>absurd q c2⟩
  refine an z.k2 rfl (aA (λc2=>an TC rfl (an z.k2 rfl ?_)) λc2=>j5 _ ?_)
  ·have c2:=ay c2;have e2:0<=(d.off+d.len)*w:=Int.mul_nonneg ag ag;have e3:(d.off+d.len)*w<=4096*64:=Int.mul_le_mul ag ag ag ag;refine aP ag ag (j5 _ ?_);rw[decide_eq_true_eq];omega
  ·have c2:=ay c2;simp[c2]
 ·have c:=ay c;have hch:∀(j:Nat) (c:aJ),d.cs[j]? = some c->(k=16->(d.off+d.len)*w<=c.len)/\(k=17->d.off+d.len<=c.len):=λj c hc=>sZ j c (by have:=(List.getElem?_eq_some_iff.1 hc).1;omega) hc
  have Bu:iD k=true->1<=d.aH.length:=by
   intro q;unfold iD at q;simp only[Bool.and_eq_true,bne_iff_ne,ne_eq] at q;unfold gC at nb
   repeat' split at nb
   all_goals omega
  exact aN.b z.k2 (bq.b z.k3 (adn (v.b.gr z.g) Bu ⟨l0,l1⟩ ⟨o0,o1⟩ λe t n h2 g2 et he=>bX.b (z.aj g2).k4 rfl λh3 o3 k4=>cv.b k4 (hk _ _ _ _ (aM.aj (z.aj g2).g o3 z.hb) et (he.trans ⟨λq=>⟨ty,nb,nc,nd,l0,o0,u0,ul,l1,o1,e1,vH,need,hch,q⟩,λq=>q.nu⟩))))
theorem Z5 (G:kJ h0) (u:gj cs) (H:bM h0 s cs) (z:Sz h0 h b2 b3 b4 nm aq k w id ix s d p) (v:ug h0 p d) (o:Pp k w id ix cs d) (y:∀j,j < d.aH.length->(bQ d.aH j).length<=65536)
  (A:∀e t n r,ah h0 r->t=Sl.nil->(e=0↔nN aq k w id ix cs d)->K e t n r) (m:Int) (I:0<=m/\m<=5):CP K Kp ⟨b2,0,none⟩ ⟨b3,0,none⟩ ⟨b4,0,none⟩ m (d.off+d.len) h:=by
 have L:=v.b.n;have W:=OO k;have nb:=o.nb;have F:=o;obtain ⟨ty,_,Q,P,S,o0,N,M,R,O,e1⟩:=o;refine CP.of ?_;simp only[aI];refine an z.k3 rfl ?_;refine H7.bB (λx r=>∃i:Nat,x=i/\i<=d.aH.length/\ah h r/\∀j,j < i->fD k w ix j (d.off+d.len).toNat (bQ d.aH j).length<=(bQ d.aH j).length) (λx _=>d.aH.length - x.toNat)
  ⟨0,rfl,by omega,ah.refl _,λj B=>by omega⟩ ?_
 rintro x V ⟨i,rfl,T,D,f⟩ X hN;have z:=z.aj D;simp only[aI];refine aA (λc => ?_) λc => ?_
 ·have c:=ay c;refine v.b.ix rfl (j:=i) ag λa t J E=>⟨_,z.g.cell J,dH.c (KG z.k2) ?_⟩;have tn:=E.1.1;rw[eL] at tn;refine adu (e:=(d.off+d.len).toNat) (hv:=(bQ d.aH i).length) (G.aj z.g) u (H.gr z.g) ty ag ag ag ag λU C=>aA (λl => ?_) λl => ?_
  ·have l:=ay l;exact (z.aj C).bad aL (λq=>by have:=q.need i ag;omega) A
  ·have l:=ay l;refine aP ag ag (hN _ _ ⟨i+1,by simp,by omega,ah.trans D C,λj B => ?_⟩ ag)
   by_cases e:j=i
   ·subst e;omega
   ·exact f j ag
 ·have c:=ay c;exact Z4 z v F y (λj B=>f j ag) A m I
theorem Z6 (C:kJ h0) (u:gj cs) (D:bM h0 s cs) (z:Sz h0 h b2 b3 b4 nm aq k w id ix s d p) (v:ug h0 p d) (o:Pp k w id ix cs d)
  (y:∀e t n r,ah h0 r->t=Sl.nil->(e=0↔nN aq k w id ix cs d)->K e t n r) (m:Int) (E:0<=m/\m<=5):CQ K Kp ⟨b2,0,none⟩ ⟨b3,0,none⟩ ⟨b4,0,none⟩ m (d.off+d.len) h:=by
 have G:=v.b.n;have J:=OO k;have nb:=o.nb;refine CQ.of ?_;simp only[aI];refine an z.k3 rfl ?_;refine H6.bB (λx r=>∃i:Nat,x=i/\i<=d.aH.length/\r=h/\∀j,j < i->(bQ d.aH j).length<=65536) (λx _=>d.aH.length - x.toNat)
  ⟨0,rfl,by omega,rfl,λj A=>by omega⟩ ?_
 rintro x I ⟨i,rfl,H,rfl,f⟩ L hN;refine aA (λc => ?_) λc => ?_
 ·have c:=ay c;refine v.b.ix rfl (j:=i) ag λa t F B=>⟨_,z.g.cell F,?_⟩;have tn:=B.1.1;rw[eL] at tn;refine aA (λl => ?_) λl => ?_
  ·have l:=ay l;exact z.bad aL (λq=>by have:=q.vH i ag;omega) y
  ·have l:=ay l;refine aP ag ag (hN _ _ ⟨i+1,by simp,by omega,rfl,λj A => ?_⟩ ag)
   by_cases e:j=i
   ·subst e;omega
   ·exact f j ag
 ·have c:=ay c;exact Z5 C u D z v o (λj A=>f j ag) y m E
theorem aaS (L:kJ h) (hl:cs.length<=jY) (r:gj cs) (M:bM h s cs) (v:ug h p d) (N:∀e t n j,ah h j->t=Sl.nil->(e=0↔nN aq k w id ix cs d)->K e t n j) :
  DR nm aq k w id ix s d.len d.off d.aq p.1 p.2.1 p.2.2 h K Kp:=by
 have vb:=v.b.n;have vc:=v.c.n;have vx:=v.x.n;refine DR.of (az λb2 O e1 P k2 _=>az λb3 C e2 F k3 _=>az λb4 h3 e3 E k4 _ => ?_);have z:Sz h h3 b2 b3 b4 nm aq k w id ix s d p:=⟨ah.trans P (ah.trans F E),(k2.aj F).aj E,k3.aj E,k4,by have:=P.1;have:=F.1;omega⟩
 simp only[aI];have bad:∀{j:Hp} {e n:Int},Sz h j b2 b3 b4 nm aq k w id ix s d p->e≠0->¬nN aq k w id ix cs d->iL e n j (λV U T O=>bX O ⟨b4,0,none⟩ V U T λC=>cv C ⟨b4,0,none⟩ λr0 X W=>K r0 X W C) Kp:=λz he q=>z.bad he q N;have B:∀{j:Hp} {S R:Int},Sz h j b2 b3 b4 nm aq k w id ix s d p->¬nN aq k w id ix cs d->tV K Kp ⟨b2,0,none⟩ ⟨b3,0,none⟩ ⟨b4,0,none⟩ S R true j:=λz q=>tV.of (bx rfl (bad z aL q));refine dH.c (KG z.k2) (aaU (L.aj z.g) hl r (M.gr z.g) (λZ i D => ?_) λty i D => ?_)
 ·have z:=z.aj D;exact an z.k3 rfl (an z.k3 rfl (GL (an z.k3 rfl (bx (by rw[bne_iff_ne];omega) (tW.of (bx rfl (B z λq=>Z q.ty)))))))
 have z:=z.aj D;refine an z.k3 rfl (an z.k3 rfl (GL ?_))
 -- all is Q so b': a' u
 have main:(d.aH.length:Int)=gC k->d.cs.length=mZ k cs->∀b:Bool,(b=true↔¬d.ds.length=oI k)->tV K Kp ⟨b2,0,none⟩ ⟨b3,0,none⟩ ⟨b4,0,none⟩ (gC k) (IntKind.i64.wrap (d.off+d.len)) b i:=by
  intro nb nc b a;have bk:=OO k;refine tV.of (aA (λc=>bad z aL λq=>a.1 c q.nd) λc => ?_);have nd:d.ds.length=oI k:=Decidable.byContradiction λq=>by rw[a.2 q] at c;cases c
  simp only[aI];have J:0<=d.len->0<=d.off->0<=d.aq->d.aq<=d.len->d.len<=4096->∀b:Bool,(b=true↔¬d.off<=4096)->wH K Kp ⟨b2,0,none⟩ ⟨b3,0,none⟩ ⟨b4,0,none⟩ (gC k) (IntKind.i64.wrap (d.off+d.len)) b i:=by
   intro m o0 A y l1 b a;refine wH.of (aA (λc=>bad z aL λq=>a.1 c q.o1) λc => ?_);have Y:d.off<=4096:=Decidable.byContradiction λq=>by rw[a.2 q] at c;cases c
   have hw:IntKind.i64.wrap (d.off+d.len)=d.off+d.len:=by rw[IntKind.wrap_i64];omega
   rw[hw];refine aA (λf=>bad z aL λq => ?_) λf => ?_
   ·have f:=ay f;have:=q.e1;omega
   ·have f:=ay f;exact Z6 L r M z v ⟨ty,nb,nc,nd,m,o0,A,y,l1,Y,by omega⟩ N _ ag
  have j9:0<=d.len->0<=d.off->0<=d.aq->∀b:Bool,(b=true↔¬d.aq<=d.len)->tU K Kp ⟨b2,0,none⟩ ⟨b3,0,none⟩ ⟨b4,0,none⟩ (gC k) (IntKind.i64.wrap (d.off+d.len)) b i:=by
   intro m o0 A b a;refine tU.of ?_;simp only[aI];refine aA (λc=>bad z aL λq=>a.1 c q.ul) λc => ?_;have y:d.aq<=d.len:=Decidable.byContradiction λq=>by rw[a.2 q] at c;cases c
   refine an z.k3 rfl (aA (λf=>wH.of (bx rfl (bad z aL λq => ?_))) λf=>an z.k3 rfl (J m o0 A y ?_ _ ?_))
   ·have f:=ay f;have:=q.l1;omega
   ·have f:=ay f;omega
   ·rw[decide_eq_true_eq];omega
  have o:¬nN aq k w id ix cs d->tU K Kp ⟨b2,0,none⟩ ⟨b3,0,none⟩ ⟨b4,0,none⟩ (gC k) (IntKind.i64.wrap (d.off+d.len)) true i:=λq=>tU.of (bx rfl (bad z aL q));have H:0<=d.len->0<=d.off->∀b:Bool,(b=true↔¬0<=d.aq)->tX K Kp ⟨b2,0,none⟩ ⟨b3,0,none⟩ ⟨b4,0,none⟩ (gC k) (IntKind.i64.wrap (d.off+d.len)) b i:=by
   intro m o0 b a;refine tX.of ?_;simp only[aI];refine aA (λc=>o λq=>a.1 c q.u0) λc=>an z.k3 rfl (an z.k3 rfl (j9 m o0 (Decidable.byContradiction λq=>by rw[a.2 q] at c;cases c) _ ?_))
   rw[decide_eq_true_eq];omega
  have l:¬nN aq k w id ix cs d->tX K Kp ⟨b2,0,none⟩ ⟨b3,0,none⟩ ⟨b4,0,none⟩ (gC k) (IntKind.i64.wrap (d.off+d.len)) true i:=λq=>tX.of (bx rfl (o q));have I:0<=d.len->∀b:Bool,(b=true↔¬0<=d.off)->wG K Kp ⟨b2,0,none⟩ ⟨b3,0,none⟩ ⟨b4,0,none⟩ (gC k) (IntKind.i64.wrap (d.off+d.len)) b i:=by
   intro m b a;refine wG.of ?_;simp only[aI];refine aA (λc=>l λq=>a.1 c q.o0) λc=>an z.k3 rfl (H m (Decidable.byContradiction λq=>by rw[a.2 q] at c;cases c) _ ?_)
   rw[decide_eq_true_eq];omega
  refine an z.k3 rfl (aA (λf=>wG.of (bx rfl (l λq => ?_))) λf=>an z.k3 rfl (I ?_ _ ?_))
  ·have f:=ay f;have:=q.l0;omega
  ·have f:=ay f;omega
  ·rw[decide_eq_true_eq];omega
 have G:(d.aH.length:Int)=gC k->∀b:Bool,(b=true↔¬d.cs.length=mZ k cs)->tW K Kp ⟨b2,0,none⟩ ⟨b3,0,none⟩ ⟨b4,0,none⟩ (gC k) (oI k) (IntKind.i64.wrap (d.off+d.len)) b i:=by
  intro nb b a;refine tW.of ?_;simp only[aI];refine aA (λc=>B z λq=>a.1 c q.nc) λc=>an z.k3 rfl (main nb (Decidable.byContradiction λq=>by rw[a.2 q] at c;cases c) _ ?_)
  rw[bne_iff_ne];omega
 refine an z.k3 rfl (aA (λc=>tW.of (bx rfl (B z λq => ?_))) λc=>an z.k3 rfl (G ?_ _ ?_))
 ·have c:=ay c;have:=q.nb;omega
 ·have c:=ay c;omega
 ·rw[bne_iff_ne];omega
end
def uF (b:Nat):Nat:=if b < 128 then 240 else if b < 194 then 241 else if b < 224 then 2 else if b=224 then 19 else if b < 237 then 3 else if b=237 then 35 else if b < 240 then 3 else if b=240 then 52 else if b < 244 then 4 else if b=244 then 68 else 241
def Ep (x:Nat):Nat:=if x=1 then 160 else if x=3 then 144 else if x<=4 then 128 else 0
def Er (x:Nat):Nat:=if x=2 then 159 else if x=4 then 143 else if x<=4 then 191 else 0
structure fW (h:Hp):Prop where
 f:∀i:Nat,i < 256->cell h ⟨0,i,none⟩=some (.int .u8 (uF i))
 a:∀i:Nat,i < 16->cell h ⟨1,i*2,none⟩=some (.int .u8 (Ep i))/\cell h ⟨1,i*2+1,none⟩=some (.int .u8 (Er i))
theorem fW.aj {h H:Hp} (t:fW h) (g:ah h H):fW H:=⟨λi b=>g.cell (t.f i b),λi b=>⟨g.cell (t.a i b).1,g.cell (t.a i b).2⟩⟩
def qE (b:Nat) (c:UInt8):Bool:=decide (Ep (uF b / 16)<=c.toNat) && decide (c.toNat<=Er (uF b / 16))
def sx (c:UInt8):Bool:=decide (128<=c.toNat) && decide (c.toNat<=191)
def gP (b:UInt8) (r:List UInt8):Option (List UInt8) :=
 if b.toNat < 128 then some r
 else if uF b.toNat % 8=2 then match r with | c::r=>if qE b.toNat c then some r else none | _=>none
 else if uF b.toNat % 8=3 then match r with | c::e::r=>if qE b.toNat c && sx e then some r else none | _=>none
 else if uF b.toNat % 8=4 then match r with | c::e::f::r=>if qE b.toNat c && (sx e && sx f) then some r else none | _=>none
 else none
def uB:Nat->List UInt8->Bool
 | 0,_=>true
 | _+1,[]=>true
 | n+1,b::r=>match gP b r with | some r'=>uB n r' | none=>false
theorem KD {b:UInt8} {r r':List UInt8} (h:gP b r=some r'):r'.length<=r.length:=by
 unfold gP at h
 repeat' split at h
 all_goals first | (cases h;exact Nat.le_refl _) | (cases h;simp only[List.length_cons];omega) | cases h
theorem Qm:∀{n m:Nat} {l:List UInt8},l.length<=n->l.length<=m->uB n l=uB m l
  | 0,0,_,_,_=>rfl
  | 0,m+1,l,h,_=>by obtain rfl:=List.eq_nil_of_length_eq_zero (Nat.le_zero.1 h);rfl
  | n+1,0,l,_,h=>by obtain rfl:=List.eq_nil_of_length_eq_zero (Nat.le_zero.1 h);rfl
  | n+1,m+1,[],_,_=>rfl
  | n+1,m+1,b::r,d,c=>by
    simp only[List.length_cons] at d c;simp only[uB];cases a:gP b r with
    | none=>rfl
    | some e=>have:=KD a;exact Qm ag ag
def gh (l:List UInt8):Bool:=uB l.length l
theorem KA (b:UInt8) (r:List UInt8):gh (b::r)=match gP b r with | some a=>gh a | none=>false:=by
 show uB (r.length+1) (b::r)=_
 simp only[uB];cases c:gP b r with
 | none=>rfl
 | some a=>exact Qm (KD c) (Nat.le_refl _)
theorem Ql {b:UInt8} {r:List UInt8} (h:b.toNat < 128):gh (b::r)=gh r:=by
 have e:gP b r=some r:=by simp[gP,h]
 rw[KA,e]
theorem sw:∀{n:Nat} {l:List UInt8},(∀(i:Nat) b,i < n->l[i]? = some b->b.toNat < 128)->gh (l.drop n)=gh l
  | 0,_,_=>rfl
  | n+1,[],_=>rfl
  | n+1,b::r,h=>by
    rw[List.drop_succ_cons,Ql (h 0 b ag rfl)];exact sw λi c d a=>h (i+1) c ag (by simpa using a)
def ql:Nat:=9259542123273814144
theorem akt (x y:Nat) (b:x < 2 ^ 64) (a:y < 2 ^ 64):dF .and .u64 (x:Int) (y:Int)=((x &&& y:Nat):Int):=by
 have h:x &&& y < 2 ^ 64:=Nat.and_lt_two_pow x a;have e:(BitVec.ofInt 64 (x:Int) &&& BitVec.ofInt 64 (y:Int)).toNat=x &&& y:=by
  rw[BitVec.toNat_and,BitVec.ofInt_natCast,BitVec.ofInt_natCast,BitVec.toNat_ofNat,BitVec.toNat_ofNat,Nat.mod_eq_of_lt b,Nat.mod_eq_of_lt a]
 show IntKind.u64.wrap ((BitVec.ofInt 64 (x:Int) &&& BitVec.ofInt 64 (y:Int)).toNat:Int)=_
 rw[e];simp only[IntKind.wrap,IntKind.signed,IntKind.bits];simp;omega
def lY (x:Nat):Prop:=x &&& ql=0
theorem lY.or {i j:Nat} (h:lY (i ||| j)):lY i/\lY j:=by
 unfold lY at *;rw[Nat.and_or_distrib_right] at h;constructor
 ·have:=Nat.left_le_or (n:=i &&& ql) (m:=j &&& ql);omega
 ·have:=Nat.right_le_or (n:=i &&& ql) (m:=j &&& ql);omega
theorem lY.bit {n:Nat} (h:lY n) {k:Nat} (a:ql.testBit k=true):n / 2 ^ k % 2=0:=by
 unfold lY at h;have:=congrArg (λy=>y.testBit k) h;simp only[Nat.testBit_and,a,Bool.and_true,Nat.zero_testBit] at this;rw[Nat.testBit_eq_decide_div_mod_eq,decide_eq_false_iff_not] at this;omega
theorem Tc:∀{i:Nat} {l:List UInt8} {b:UInt8},l[i]? = some b->fT l / 2 ^ (8*i+7) % 2=0->b.toNat < 128
  | _,[],_,h,_=>by simp at h
  | 0,c::l,b,h,q=>by
    simp only[List.getElem?_cons_zero,Option.some.injEq] at h;subst h;have:=c.toNat_lt;simp only[fT] at q;omega
  | i+1,c::l,b,h,q=>by
    have d:=c.toNat_lt;have e:2 ^ (8*(i+1)+7)=256*2 ^ (8*i+7):=by
      have:8*(i+1)+7=8*i+7+8:=ag;rw[this,Nat.pow_add,Nat.mul_comm]
    have a:fT (c::l) / 256=fT l:=by simp only[fT];omega
    rw[e,<-Nat.div_div_eq_div_mul,a] at q;exact Tc (by simpa using h) q
theorem alg:∀i,i < 8->ql.testBit (8*i+7)=true:=by decide
theorem lY.all {l:List UInt8} (h:lY (fT (l.take 8))):∀(i:Nat) b,i < 8->l[i]? = some b->b.toNat < 128:=by
 intro i b a c;exact Tc (l:=l.take 8) (i:=i) (by rw[List.getElem?_take_of_lt a];exact c) (h.bit (alg i a))
theorem sD {x b k:Nat} {K:Int->Prop} (e:min (Int.toNat (k:Int)) (IntKind.bits .u64)=k) (h1:x < 2 ^ k) (h2:b*2 ^ k < 2 ^ 64) (h3:x < 2 ^ 64) (hk:K ((x+b*2 ^ k:Nat):Int)) :
  Nn (k:Int) (Wr .u64 ((b:Int)*2 ^ (min (Int.toNat (k:Int)) (IntKind.bits .u64))) λt=>Lt (dF .or .u64 (x:Int) t) K):=by
 have sh:(b:Int)*2 ^ (min (Int.toNat (k:Int)) (IntKind.bits .u64))=((b*2 ^ k:Nat):Int):=by rw[e];norm_cast
 refine fY ag ?_;rw[sh];refine lT rfl h2 ?_;unfold Lt;rw[Sd _ _ h3 h2,acR h1];exact hk
theorem Y2 (b:Nat):uF b < 256:=by
 unfold uF;split
 ·omega
 split
 ·omega
 split
 ·omega
 split
 ·omega
 split
 ·omega
 split
 ·omega
 split
 ·omega
 split
 ·omega
 split
 ·omega
 split
 ·omega
 omega
abbrev tx (s:ByteArray):List UInt8:=s.data.toList
theorem Ja {s:ByteArray} {x:Int} {i:Nat} {b:UInt8} (e:x=i) (a:(tx s)[i]? = some b) {K:Int->Prop} (f:K b.toNat):gq s x K:=by
 subst e;refine ⟨b,by omega,?_,f⟩
 rw[Int.toNat_natCast];have d:=(List.getElem?_eq_some_iff.1 a).1;have c:i < s.size:=d;rw[getElem?_pos s i c];rw[List.getElem?_eq_getElem d] at a
 simpa[ByteArray.getElem_eq_getElem_data] using a
theorem akQ {s:ByteArray} {n:Nat} {x:Int} (a:x=n) (d:n<=(tx s).length) {K:ByteArray->Prop} (b:∀t,tx t=(tx s).drop n->K t):lU s (some x) none K:=by
 subst a;have c:(tx s).length=s.size:=rfl;refine ⟨by simp,by simp;omega,by simp,b _ ?_⟩
 simp only[Option.getD_some,Option.getD_none,Int.toNat_natCast,tx,ByteArray.data_extract,Array.toList_extract,List.extract_eq_take_drop];exact List.take_of_length_le (by rw[List.length_drop];exact Nat.le_refl _)
theorem YD {s:ByteArray} {h:Hp} {K:Int->HP} {q:PK} (hl:8<=(tx s).length) (a:K (fT ((tx s).take 8)) h):nW s h K q:=by
 refine nW.of (IV.of ?_);have ix:∀{i:Nat} {b:UInt8} {K:Int->Prop} {x:Int},x=i->(tx s)[i]? = some b->K b.toNat->gq s x K:=λo p a=>Ja o p a;generalize tx s=l at hl a ix;obtain ⟨n,l,rfl⟩:∃b M,l=b::M:=by cases l;simp at hl;exact ⟨_,_,rfl⟩
 obtain ⟨m,l,rfl⟩:∃b M,l=b::M:=by cases l;simp at hl;exact ⟨_,_,rfl⟩
 obtain ⟨b2,l,rfl⟩:∃b M,l=b::M:=by cases l;simp at hl;exact ⟨_,_,rfl⟩
 obtain ⟨j,l,rfl⟩:∃b M,l=b::M:=by cases l;simp at hl;exact ⟨_,_,rfl⟩
 obtain ⟨g,l,rfl⟩:∃b M,l=b::M:=by cases l;simp at hl;exact ⟨_,_,rfl⟩
 obtain ⟨f,l,rfl⟩:∃b M,l=b::M:=by cases l;simp at hl;exact ⟨_,_,rfl⟩
 obtain ⟨d,l,rfl⟩:∃b M,l=b::M:=by cases l;simp at hl;exact ⟨_,_,rfl⟩
 obtain ⟨c,l,rfl⟩:∃b M,l=b::M:=by cases l;simp at hl;exact ⟨_,_,rfl⟩
 have A:=n.toNat_lt;have z:=m.toNat_lt;have y:=b2.toNat_lt;have w:=j.toNat_lt;have v:=g.toNat_lt;have u:=f.toNat_lt;have t:=d.toNat_lt;have r:=c.toNat_lt;refine ix (i:=0) rfl rfl (lT rfl (Nat.lt_of_lt_of_le (UInt8.toNat_lt _) aL) (ix (i:=1) rfl rfl (lT rfl (Nat.lt_of_lt_of_le (UInt8.toNat_lt _) aL) (sD (k:=8) rfl ag ag ag (ix (i:=2) rfl rfl (lT rfl (Nat.lt_of_lt_of_le (UInt8.toNat_lt _) aL) (sD (k:=16) rfl ag ag ag (ix (i:=3) rfl rfl (lT rfl (Nat.lt_of_lt_of_le (UInt8.toNat_lt _) aL) (sD (k:=24) rfl ag ag ag (ix (i:=4) rfl rfl (lT rfl (Nat.lt_of_lt_of_le (UInt8.toNat_lt _) aL) (sD (k:=32) rfl ag ag ag (ix (i:=5) rfl rfl (lT rfl (Nat.lt_of_lt_of_le (UInt8.toNat_lt _) aL) (sD (k:=40) rfl ag ag ag (ix (i:=6) rfl rfl (lT rfl (Nat.lt_of_lt_of_le (UInt8.toNat_lt _) aL) (sD (k:=48) rfl ag ag ag (ix (i:=7) rfl rfl (lT rfl (Nat.lt_of_lt_of_le (UInt8.toNat_lt _) aL) (sD (k:=56) rfl ag ag ag ?_))))))))))))))))))))));have e:n.toNat+m.toNat*2 ^ 8+b2.toNat*2 ^ 16+j.toNat*2 ^ 24+g.toNat*2 ^ 32+f.toNat*2 ^ 40+d.toNat*2 ^ 48+c.toNat*2 ^ 56=fT ((n::m::b2::j::g::f::d::c::l).take 8):=by
  simp only[List.take_succ_cons,List.take_zero,fT];omega
 rw[e];exact a
theorem YQ {s:ByteArray} {l:List UInt8} {h:Hp} {K:Bool->HP} {Kp:PK} (tb:fW h) (v:tx s=l) (hl:l.length<=2 ^ 40) (hk:∀h',ah h h'->K (gh l) h'):Dl s h K Kp:=by
  refine Dl.of (HR.bB (λx0 h'=>∃L,tx x0=L/\gh L=gh l/\ah h h'/\L.length<=l.length) (λx0 _=>ByteArray.size x0) ⟨l,v,rfl,ah.refl _,Nat.le_refl _⟩ ?_);rintro x0 h1 ⟨L,v,hu,g1,hL⟩ N1 hN;have hn:=(show x0.size=L.length by rw[<-v];rfl)
  have next:∀{x:ByteArray} {L':List UInt8} {h':Hp},tx x=L'->gh L'=gh l->ah h h'->L'.length < L.length->N1 (oq x) h':=λ{x L' h'} v' Bj g' fO=>hN _ _ ⟨L',v',Bj,g',by omega⟩ (by have:=(show x.size=L'.length by rw[<-v'];rfl);omega)
  refine aA (λc => ?_) λc => ?_;rotate_left
  · have c:=ay c;have:L=[]:=List.eq_nil_of_length_eq_zero ag;rw[this] at hu;have:=hk h1 g1;rw[<-hu] at this;exact this
  have c:=ay c;obtain ⟨b,r,rfl⟩:∃b r,L=b::r:=by cases L with | nil=>exact absurd hn (by rw[List.length_nil];omega) | cons b r=>exact ⟨_,_,rfl⟩
  simp only[List.length_cons] at hn hL next;have cut:∀{x:ByteArray} {L':List UInt8} {n:Nat} {K:ByteArray->Prop},tx x=L'->n<=L'.length->(∀t,tx t=L'.drop n->K t)->lU x (some (n:Int)) none K:=λ{x L' n K} v' Bn k=>akQ rfl (by rw[v'];exact Bn) λt ht=>k t (by rw[ht,v'])
  have word:∀{x:ByteArray} {L':List UInt8} {h':Hp} {K:Int->HP},tx x=L'->8<=L'.length->K (fT (L'.take 8)) h'->nW x h' K Kp:=λ{x L' h' K} v' Bn k=>YD (by rw[v'];exact Bn) (by rw[v'];exact k)
  have ki:∀L':List UInt8,fT (L'.take 8) < 2 ^ 64:=λL'=>Nat.lt_of_lt_of_le (M1 _) (Nat.pow_le_pow_right aL cC);have LV:∀{x:Nat} {K:Int->Prop},x < 2 ^ 64->K ((x &&& ql:Nat):Int)->Lt (dF .and .u64 (x:Int) 9259542123273814144) K:=λ{x K} hx k=>by
    unfold Lt;rw[show (9259542123273814144:Int)=((ql:Nat):Int) from rfl,akt _ _ hx aL];exact k
  have E5:∀{x y:Nat} {K:Int->Prop},x < 2 ^ 64->y < 2 ^ 64->K ((x ||| y:Nat):Int)->Lt (dF .or .u64 (x:Int) (y:Int)) K:=λ{x y K} hx hy k=>by
    unfold Lt;rw[Sd _ _ hx hy];exact k
  have OS:∀{x:Nat},(((x &&& ql:Nat):Int) == 0)=true->lY x:=λ{x} q=>by
    rw[beq_iff_eq] at q;unfold lY;omega
  have xG:∀{x y:Nat},x < 2 ^ 64->y < 2 ^ 64->x ||| y < 2 ^ 64:=λhx hy=>Nat.or_lt_two_pow hx hy;refine Ja (i:=0) rfl (by rw[v];rfl) ?_
  have hb:=b.toNat_lt;refine aA (λc1 => ?_) λc1 => ?_
  · have c1:=ay c1;have hr:gh r=gh l:=by rw[<-hu,Ql ag]
    refine cut (n:=1) v aS λt22 su => ?_;rw[List.drop_succ_cons,List.drop_zero] at su;have n22:=(show t22.size=r.length by rw[<-su];rfl)
    have j3:∀(q:Bool) h2,ah h h2->tx t22=r->(q=true->8 < r.length/\lY (fT (r.take 8)))->za K Kp N1 t22 q h2:=by
      intro q h2 g2 su hq;refine za.of (aA (λcq => ?_) λ_=>next su hr g2 ag);obtain ⟨q1,q2⟩:=hq cq;have TT:gh (r.drop 8)=gh l:=by rw[sw q2.all,hr]
      have l8:(r.drop 8).length=r.length - 8:=by simp
      refine cut (n:=8) su ag λt33 sr => ?_;have n33:=(show t33.size=(r.drop 8).length by rw[<-sr];rfl)
      have j4:∀(q:Bool) h3,ah h h3->tx t33=r.drop 8->(q=true->16 < (r.drop 8).length/\lY (fT ((r.drop 8).take 8))/\lY (fT (((r.drop 8).drop 8).take 8)))->yZ K Kp N1 t33 q h3:=by
        intro q h3 g3 sr hq;refine yZ.of (aA (λcq => ?_) λ_=>next sr TT g3 ag);obtain ⟨q1,q2,q3⟩:=hq cq;refine cut (n:=16) sr ag λt48 YU => ?_;have afl:gh ((r.drop 8).drop 16)=gh l:=by
          have e:(r.drop 8).drop 16=((r.drop 8).drop 8).drop 8:=by simp[List.drop_drop]
          rw[e,sw q3.all,sw q2.all,TT]
        refine HQ.bB (λx h'=>∃L',tx x=L'/\gh L'=gh l/\ah h h'/\L'.length<=r.length) (λx _=>ByteArray.size x) ⟨_,YU,afl,g3,by simp only[List.length_drop];omega⟩ ?_
        rintro x h4 ⟨L',v',Bj,g4,T5⟩ N2 hN2;have n':=(show x.size=L'.length by rw[<-v'];rfl)
        refine aA (λc5 => ?_) λ_=>next v' Bj g4 ag;have c5:=ay c5;refine cut (n:=8) v' ag λta va=>cut (n:=16) v' ag λtb vb=>cut (n:=24) v' ag λtc vc=>word v' ag (word va cC (E5 (ki _) (ki _) (word vb cC (word vc cC (E5 (ki _) (ki _) (E5 (xG (ki _) (ki _)) (xG (ki _) (ki _)) (LV (xG (xG (ki _) (ki _)) (xG (ki _) (ki _))) (aA (λc6 => ?_) λ_=>next v' Bj g4 ag))))))));have a:=OS c6;obtain ⟨a1,a2⟩:=a.or;obtain ⟨b1,b2⟩:=a1.or;obtain ⟨b3,b4⟩:=a2.or;refine cut (n:=32) v' ag λtd vd=>hN2 _ _ ⟨_,vd,?_,g4,by simp only[List.length_drop];omega⟩ (by have:=(show td.size=(L'.drop 32).length by rw[<-vd];rfl);simp at this;omega)
        have e1:L'.drop 32=(((L'.drop 8).drop 8).drop 8).drop 8:=by simp[List.drop_drop]
        have e2:(L'.drop 8).drop 8=L'.drop 16:=by simp[List.drop_drop]
        have e3:(L'.drop 16).drop 8=L'.drop 24:=by simp[List.drop_drop]
        rw[e1,sw (by rw[e2,e3];exact b4.all),sw (by rw[e2];exact b3.all),sw b2.all,sw b1.all,Bj]
      refine aA (λc3 => ?_) λ_=>j4 false _ g2 sr aS;have c3:=ay c3;exact cut (n:=8) sr ag λt41 YV=>word sr ag (word YV cC (E5 (ki _) (ki _) (LV (xG (ki _) (ki _)) (j4 _ _ g2 sr λq=>⟨by omega,(OS q).or⟩))))
    refine aA (λc2 => ?_) λ_=>j3 false _ g1 su aS;have c2:=ay c2;exact word su ag (LV (ki _) (j3 _ _ g1 su λq=>⟨by omega,OS q⟩))
  · have c1:=ay c1;refine IW.of ⟨by omega,by omega,?_⟩
    have tb:=tb.aj g1;have hF:uF b.toNat < 256:=Y2 _;simp only[aI,Int.toNat_natCast,Nat.zero_add,Nat.mul_one];refine ⟨_,tb.f b.toNat hb,?_⟩;have a7:dF .and .u8 ((uF b.toNat:Nat):Int) 7=((uF b.toNat % 8:Nat):Int):=by
      have h:(BitVec.ofInt 8 ((uF b.toNat:Nat):Int) &&& BitVec.ofInt 8 7).toNat=uF b.toNat % 8:=by
        have e1:BitVec.ofInt 8 ((uF b.toNat:Nat):Int)=BitVec.ofNat 8 (uF b.toNat):=by simp
        have e2:BitVec.ofInt 8 7=BitVec.ofNat 8 7:=by decide
        rw[e1,e2,BitVec.toNat_and,BitVec.toNat_ofNat,BitVec.toNat_ofNat];have:7 % 2 ^ 8=2 ^ 3 - 1:=by decide
        rw[this,Nat.and_two_pow_sub_one_eq_mod];omega
      show IntKind.wrap .u8 ((BitVec.ofInt 8 ((uF b.toNat:Nat):Int) &&& BitVec.ofInt 8 7).toNat:Int)=_
      rw[h,IntKind.wrap_u8];omega
    have d16:Int.fdiv ((uF b.toNat:Nat):Int) (2 ^ (min (Int.toNat 4) (IntKind.bits .u8)))=((uF b.toNat / 16:Nat):Int):=by
      have:min (Int.toNat 4) (IntKind.bits .u8)=4:=rfl;rw[this,Int.fdiv_eq_ediv_of_nonneg _ aL];norm_cast
    have l7:∀{K:Int->Prop},K ((uF b.toNat % 8:Nat):Int)->Lt (dF .and .u8 ((uF b.toNat:Nat):Int) 7) K:=λk=>by unfold Lt;rw[a7];exact k
    have l16:∀{K:Int->Prop},K ((uF b.toNat / 16:Nat):Int)->Lt (Int.fdiv ((uF b.toNat:Nat):Int) (2 ^ (min (Int.toNat 4) (IntKind.bits .u8)))) K:=λk=>by unfold Lt;rw[d16];exact k
    refine l7 (aP ag ag (fY aL (l16 ⟨by omega,by omega,?_⟩)))
    have ta:=tb.a (uF b.toNat / 16) ag;simp only[aI,Int.toNat_natCast,Nat.zero_add];refine ⟨_,ta.1,_,ta.2,az λb6 h2 e6 g2 k6 _ => ?_⟩;simp only[aI];refine cE k6 aS rfl λh3 o3 k6=>cE k6 aS rfl λh4 o4 k6 => ?_;have k6:aB h4 b6 #[.int .u8 (Ep (uF b.toNat / 16)), .int .u8 (Er (uF b.toNat / 16))] Wy:=by simpa using k6
    have G:ah h1 h4:=aM.aj (aM.aj g2 o3 ag) o4 ag;have G4:=ah.trans g1 G;have v:tx x0=b::r:=v;have bad:gP b r=none->K false h4:=λq=>by
      have:=hk h4 G4;rw[<-hu,KA,q] at this;exact this
    have N5:∀{r':List UInt8} {t:ByteArray},gP b r=some r'->tx t=r'->N1 (oq t) h4:=λ{r' t} q v'=>by
      refine next v' ?_ G4 (by have:=KD q;omega)
      rw[<-hu,KA,q]
    have n128:¬b.toNat < 128:=ag;generalize mV:uF b.toNat=U at *;have sz:∀(m:Nat),(((U % 8:Nat):Int) == (m:Int))=decide (U % 8=m):=λm=>by rw[Bool.eq_iff_iff,beq_iff_eq,decide_eq_true_eq];omega
    have i1:∀{i:Nat} {e:UInt8} {K:Int->Prop} {x:Int},x=i->(b::r)[i]? = some e->K e.toNat->gq x0 x K:=λhx he k=>Ja hx (by rw[v];exact he) k
    refine aA (λs2 => ?_) λs2=>aA (λs3 => ?_) λs3=>aA (λs4 => ?_) λs4=>bad ?_
    · have s2:=ay s2;have s2:U % 8=2:=ag;refine aA (λc2=>bad ?_) λc2 => ?_
      · have c2:=ay c2;have:r=[]:=List.eq_nil_of_length_eq_zero ag;subst this;simp[gP,n128,mV,s2]
      have c2:=ay c2;obtain ⟨e,r,rfl⟩:∃e r',r=e::r':=by cases r with | nil=>simp only[List.length_nil,List.length_cons] at hn;omega | cons e r=>exact ⟨_,_,rfl⟩
      have gR:gP b (e::r)=if qE b.toNat e then some r else none:=by simp[gP,n128,mV,s2]
      unfold qE at gR;rw[mV] at gR;refine i1 (i:=1) rfl rfl (an k6 rfl (aA (λq1 => ?_) λq1=>an k6 rfl (i1 (i:=1) rfl rfl (aA (λq2 => ?_) λq2 => ?_))))
      · have q1:=ay q1;exact bad (by rw[gR,if_neg (by simp only[Bool.and_eq_true,decide_eq_true_eq];omega)])
      · simp only[sm,reduceCtorEq] at q1 q2;exact bad (by rw[gR,if_neg (by simp only[Bool.and_eq_true,decide_eq_true_eq];omega)])
      simp only[sm,reduceCtorEq] at q1 q2;refine cut (n:=2) v aS λt vt=>N5 (by rw[gR,if_pos (by simp only[Bool.and_eq_true,decide_eq_true_eq];omega)]) (by simpa using vt)
    · simp only[sm,reduceCtorEq] at s2 s3;have s3:U % 8=3:=ag;refine aA (λc2=>bad ?_) λc2 => ?_
      · have c2:=ay c2;cases r with
        | nil=>simp[gP,n128,mV,s3]
        | cons e r=>cases r with
          | nil=>simp[gP,n128,mV,s3]
          | cons f r=>simp only[List.length_nil,List.length_cons] at hn;omega
      have c2:=ay c2;obtain ⟨e,f,r,rfl⟩:∃e f r',r=e::f::r':=by
        cases r with
        | nil=>simp only[List.length_nil,List.length_cons] at hn;omega
        | cons e r=>cases r with
          | nil=>simp only[List.length_nil,List.length_cons] at hn;omega
          | cons f r=>exact ⟨_,_,_,rfl⟩
      have gR:gP b (e::f::r)=if qE b.toNat e && sx f then some r else none:=by simp[gP,n128,mV,s3]
      unfold qE sx at gR;rw[mV] at gR;refine i1 (i:=1) rfl rfl (an k6 rfl (aA (λq1 => ?_) λq1=>an k6 rfl (i1 (i:=1) rfl rfl (aA (λq2 => ?_) λq2 => ?_))))
      · have q1:=ay q1;exact bad (by rw[gR,if_neg (by simp only[Bool.and_eq_true,decide_eq_true_eq];omega)])
      · simp only[sm,reduceCtorEq] at q1 q2;exact bad (by rw[gR,if_neg (by simp only[Bool.and_eq_true,decide_eq_true_eq];omega)])
      simp only[sm,reduceCtorEq] at q1 q2;refine i1 (i:=2) rfl rfl (aA (λod => ?_) λod=>i1 (i:=2) rfl rfl (aA (λuN => ?_) λuN => ?_))
      · have od:=ay od;exact bad (by rw[gR,if_neg (by simp only[Bool.and_eq_true,decide_eq_true_eq];omega)])
      · simp only[sm,reduceCtorEq] at od uN;exact bad (by rw[gR,if_neg (by simp only[Bool.and_eq_true,decide_eq_true_eq];omega)])
      simp only[sm,reduceCtorEq] at od uN;refine cut (n:=3) v aS λt vt=>N5 (by rw[gR,if_pos (by simp only[Bool.and_eq_true,decide_eq_true_eq];omega)]) (by simpa using vt)
    · simp only[sm,reduceCtorEq] at s2 s3 s4;have s4:U % 8=4:=ag;refine aA (λc2=>bad ?_) λc2 => ?_
      · have c2:=ay c2;cases r with
        | nil=>simp[gP,n128,mV,s4]
        | cons e r=>cases r with
          | nil=>simp[gP,n128,mV,s4]
          | cons f r=>cases r with
            | nil=>simp[gP,n128,mV,s4]
            | cons g r=>simp only[List.length_nil,List.length_cons] at hn;omega
      have c2:=ay c2;obtain ⟨e,f,g,r,rfl⟩:∃e f g r',r=e::f::g::r':=by
        cases r with
        | nil=>simp only[List.length_nil,List.length_cons] at hn;omega
        | cons e r=>cases r with
          | nil=>simp only[List.length_nil,List.length_cons] at hn;omega
          | cons f r=>cases r with
            | nil=>simp only[List.length_nil,List.length_cons] at hn;omega
            | cons g r=>exact ⟨_,_,_,_,rfl⟩
      have gR:gP b (e::f::g::r)=if qE b.toNat e && (sx f && sx g) then some r else none:=by simp[gP,n128,mV,s4]
      unfold qE sx at gR;rw[mV] at gR;refine i1 (i:=1) rfl rfl (an k6 rfl (aA (λq1 => ?_) λq1=>an k6 rfl (i1 (i:=1) rfl rfl (aA (λq2 => ?_) λq2 => ?_))))
      · have q1:=ay q1;exact bad (by rw[gR,if_neg (by simp only[Bool.and_eq_true,decide_eq_true_eq];omega)])
      · simp only[sm,reduceCtorEq] at q1 q2;exact bad (by rw[gR,if_neg (by simp only[Bool.and_eq_true,decide_eq_true_eq];omega)])
      simp only[sm,reduceCtorEq] at q1 q2;refine i1 (i:=2) rfl rfl (aA (λod => ?_) λod=>i1 (i:=2) rfl rfl (aA (λuN => ?_) λuN => ?_))
      · have od:=ay od;exact bad (by rw[gR,if_neg (by simp only[Bool.and_eq_true,decide_eq_true_eq];omega)])
      · simp only[sm,reduceCtorEq] at od uN;exact bad (by rw[gR,if_neg (by simp only[Bool.and_eq_true,decide_eq_true_eq];omega)])
      simp only[sm,reduceCtorEq] at od uN;refine i1 (i:=3) rfl rfl (aA (λAY => ?_) λAY=>i1 (i:=3) rfl rfl (aA (λLJ => ?_) λLJ => ?_))
      · have AY:=ay AY;exact bad (by rw[gR,if_neg (by simp only[Bool.and_eq_true,decide_eq_true_eq];omega)])
      · simp only[sm,reduceCtorEq] at AY LJ;exact bad (by rw[gR,if_neg (by simp only[Bool.and_eq_true,decide_eq_true_eq];omega)])
      simp only[sm,reduceCtorEq] at AY LJ;refine cut (n:=4) v aS λt vt=>N5 (by rw[gR,if_pos (by simp only[Bool.and_eq_true,decide_eq_true_eq];omega)]) (by simpa using vt)
    · simp only[sm,reduceCtorEq] at s2 s3 s4;have h2:¬U % 8=2:=ag;have h3:¬U % 8=3:=ag;have h4:¬U % 8=4:=ag;simp[gP,n128,mV,h2,h3,h4]
theorem akk {k:Int} {h:Hp} {K:Int->HP} {Kp:PK} (h1:1<=k/\k<=20) (hk:K (cl k) h):Dx k h K Kp:=by
 have fin:∀v:Int,v=cl k->K v h:=λv e=>e ▸ hk;refine Dx.of ?_;unfold cl at fin
 repeat' (first | ((with_reducible refine CF.of ?_);(try simp only[aI,Nat.reduceAdd])) | ((with_reducible refine bx (by first | rfl | (simp only[sm,reduceCtorEq];omega)) ?_)) | ((with_reducible refine aR (by first | rfl | (simp only[sm,reduceCtorEq];omega)) ?_)) | (((with_reducible refine aA (λc => ?_) (λc => ?_)) <;> (try simp only[sm,reduceCtorEq] at c))))
 all_goals refine fin _ ?_
 all_goals try simp only[sm,reduceCtorEq] at *
 all_goals (repeat' split)
 all_goals omega
def afa (ix:Int) (d:aJ) (r:Nat):Option Nat :=
 if (ix<=6/\2 ^ (8*(cl ix).toNat - 1)<=kZ (bQ d.aH 1) (r*(cl ix).toNat) (cl ix).toNat)\/(∀c,d.ds[0]? = some c->c.len<=(kZ (bQ d.aH 1) (r*(cl ix).toNat) (cl ix).toNat:Int)) then none
 else some (kZ (bQ d.aH 1) (r*(cl ix).toNat) (cl ix).toNat)
def LX (k:Int) (d:aJ):Int:=if k=15 then (match d.cs with | c::_=>c.len | []=>0) else (bQ d.aH 2).length
def og (d:aJ) (i:Nat):Int:=i32 (bQ d.aH 1) (d.off.toNat+i)
def Xb (k:Int) (d:aJ):Prop:=(∀i:Nat,i<=d.len.toNat->0<=og d i/\og d i<=LX k d/\(∀j:Nat,i=j+1->og d j<=og d i)) /\
 (k=12->∀i:Nat,i < d.len.toNat->fR k d.aH (d.off.toNat+i)=false->gh (((bQ d.aH 2).drop (og d i).toNat).take ((og d (i+1)).toNat - (og d i).toNat))=true)
structure akU (k:Int) (d:aJ):Prop where
 l0:0<=d.len
 l1:d.len<=4096
 o0:0<=d.off
 o1:d.off<=4096
 hv:iD k=true->1<=d.aH.length
 vH:∀j,j < d.aH.length->(bQ d.aH j).length<=65536
theorem nN.row {aq:Bool} {k w id ix:Int} {cs:List ai} {d:aJ} (o:nN aq k w id ix cs d):akU k d:=by
 refine ⟨o.l0,o.l1,o.o0,o.o1,λq => ?_,o.vH⟩;have nb:=o.nb;unfold iD at q;simp only[Bool.and_eq_true,bne_iff_ne,ne_eq] at q;unfold gC at nb
 repeat' split at nb
 all_goals omega
def BH (d:aJ) (r:Nat):Nat:=((bQ d.aH 0).getD r 0).toNat
structure Pu (k ix:Int) (d:aJ):Prop where
 off:k=12\/k=13\/k=15->Xb k d
 code:k=18->∀i:Nat,i < d.len.toNat->∃c,d.cs[BH d (d.off.toNat+i)]? = some c/\0<=og d i/\og d i < c.len
 an8:k=19->∀i:Nat,i < d.len.toNat->fR k d.aH (d.off.toNat+i)=false->∃m,afa ix d (d.off.toNat+i)=some m
section
variable {h0 h:Hp} {b2 b3 b4:Nat} {nm:ByteArray} {aq:Bool} {k w id ix:Int} {s:Sl} {cs:List ai} {d:aJ} {p:Sl × Sl × Sl} {K:Int->Sl->Int->HP} {Kp:PK}
def vj (e:aJ) (i:Nat):Int:=i32 (bQ e.aH 1) (e.off.toNat+i)
end
def Ti (e:aJ):Nat->Int
 | 0=>0
 | i+1=>vj e i
def Xp (d:aJ):Prop:=∃e v,d.cs[0]? = some e/\d.cs[1]? = some v/\e.len=v.len/\(∀i:Nat,i < e.len.toNat->Ti e i < vj e i)/\d.off+d.len<=Ti e e.len.toNat
inductive ak
 | mk (aq:Bool) (num:Int) (text:List UInt8) (items:List ak)
mutual
def ak.aV:ak->Nat
 | .mk _ _ t vs=>16+t.length+bg vs
def bg:List ak->Nat
 | []=>0
 | v::vs=>v.aV+bg vs
end
theorem Am:∀vs:List ak,bg vs=(vs.map ak.aV).sum
 | []=>rfl
 | v::vs=>by unfold bg;rw[Am vs];simp
abbrev VF:=aJ->Nat->ak
def v0:ak:=.mk true 0 [] []
def vz:VF:=λ_ _=>v0
def oJ:aJ:=.mk 0 0 0 [] [] []
def part (d:aJ) (j:Nat):aJ:=(qL d).getD j oJ
def lp (V:VF) (c:aJ) (i:Nat):ak:=V c (c.off.toNat+i)
def runN (e:aJ) (r:Nat):Nat:=((List.range e.len.toNat).find? λj=>decide ((r:Int) < vj e j)).getD 0
def sM (k:Int) (l:List UInt8) (r:Nat):Int :=
 if 3<=k/\k<=6 then sg (cl k).toNat (kZ l (r*(cl k).toNat) (cl k).toNat) else sg 8 (kZ l (r*(cl k).toNat) (cl k).toNat)
def ny (d:aJ) (r:Nat):Nat:=(i32 (bQ d.aH 1) r).toNat
def kV (k w ix:Int) (V:List VF) (d:aJ) (r:Nat):ak :=
 if fR k d.aH r=true then v0
 else if k=12\/k=13 then .mk false 0 (((bQ d.aH 2).drop (ny d r)).take (ny d (r+1) - ny d r)) []
 else if k=15 then .mk false 0 [] ((List.range (ny d (r+1) - ny d r)).map λi=>lp (V.getD 0 vz) (part d 0) (ny d r+i))
 else if k=16 then .mk false 0 [] ((List.range w.toNat).map λi=>lp (V.getD 0 vz) (part d 0) (r*w.toNat+i))
 else if k=17 then .mk false 0 [] ((List.range V.length).map λj=>lp (V.getD j vz) (part d j) r)
 else if k=18 then .mk false (BH d r) [] [lp (V.getD (BH d r) vz) (part d (BH d r)) (ny d r)]
 else if k=19 then lp (V.getD 0 vz) (part d 0) (kZ (bQ d.aH 1) (r*(cl ix).toNat) (cl ix).toNat)
 else if k=20 then lp (V.getD 1 vz) (part d 1) (runN (part d 0) r)
 else if k=2 then .mk false (if dQ (bQ d.aH 1) r then 1 else 0) [] []
 else if k=14 then .mk false 0 (((bQ d.aH 1).drop (r*w.toNat)).take w.toNat) []
 else .mk false (sM k (bQ d.aH 1) r) [] []
def xz (k:Int) (V:List VF):List VF:=if k=20 then kV 5 0 0 []::V else V
mutual
def ai.val:ai->VF
 | .mk _ _ k w _ ix cs=>kV k w ix (xz k (sj cs))
def sj:List ai->List VF
 | []=>[]
 | f::fs=>f.val::sj fs
end
theorem Qi:∀a:List ai,sj a=a.map ai.val
 | []=>rfl
 | f::a=>by unfold sj;rw[Qi a];rfl
theorem RX (k:Int) (cs:List ai):xz k (sj cs)=(mS k cs).map ai.val:=by
 unfold xz mS;rw[Qi];split
 ·simp[FW,ai.val,sj,xz]
 ·rfl
def uy (V:VF) (d:aJ):List Nat:=(List.range d.len.toNat).map λi=>(lp V d i).aV
theorem Yx {V:VF} {d:aJ} {i:Nat} (h:i < d.len.toNat):(uy V d)[i]? = some (lp V d i).aV:=by simp[uy,h]
theorem QO {l:List Nat} (a m:Nat):((l.drop a).take m).sum<=l.sum:=by
  have e:∀(l:List Nat) m,(l.take m).sum<=l.sum:=by
    intro l;induction l with
    | nil=>intro m;simp
    | cons y c b=>intro m;cases m with
      | zero=>simp
      | succ m=>have:=b m;simp;omega
  have d:∀(l:List Nat) a,(l.drop a).sum<=l.sum:=by
    intro l;induction l with
    | nil=>intro m;simp
    | cons y c b=>intro m;cases m with
      | zero=>simp
      | succ m=>have:=b m;simp;omega
  exact Nat.le_trans (e _ m) (d l a)
theorem Yy {V:VF} {O:aJ} {a m:Nat} (h:a+m<=O.len.toNat):((uy V O).drop a).take m=(List.range m).map λi=>(lp V O (a+i)).aV:=by
 apply List.ext_getElem?;intro i;rw[List.getElem?_take,List.getElem?_map];split
 ·rename_i b
  rw[List.getElem?_drop,Yx ag,List.getElem?_range b];rfl
 ·rename_i b
  rw[List.getElem?_eq_none cC];rfl
theorem Z8 {l:List Nat} {j n:Nat} (h:l[j]? = some n):(l.take (j+1)).sum=(l.take j).sum+n:=by
 rw[List.take_add_one,h];simp
theorem abL {e:aJ} {r j:Nat} (a:j < e.len.toNat) (d:(r:Int) < vj e j) (c:∀i,i < j->vj e i<=r):runN e r=j:=by
 unfold runN;have:(List.range e.len.toNat).find? (λj=>decide ((r:Int) < vj e j))=some j:=by
  rw[List.find?_range_eq_some];refine ⟨by simpa using d,by simpa using a,λi b => ?_⟩
  have:=c i b;simp;omega
 rw[this];rfl
def iv (l:List Nat):List Value:=l.map λx:Nat=>.int .i64 (x:Int)
theorem ae7 {l:List Nat} {i m:Nat} (h:l[i]? = some m):(iv l)[i]? = some (.int .i64 (m:Int)):=by simp[iv,h]
theorem ae6 (l:List Nat):(iv l).length=l.length:=by simp[iv]
def Nv (h:Hp) (s:Sl) (l:List Nat):Prop:=Sv h s (iv l)
theorem Nv.ld {h:Hp} {s:Sl} {l:List Nat} (v:Nv h s l) {x:Int} {i y:Nat} (d:x=i) (c:l[i]? = some y) {K:Int->Prop} (g:K y):Ix s.a s.n 1 x λa=>Ld h a mI K:=by
 have e:=v.1;have j:=(List.getElem?_eq_some_iff.1 c).1;rw[ae6] at e;exact v.ix ag ag (v:=.int .i64 (y:Int)) (by rw[d,Int.toNat_natCast];exact ae7 c) λa f=>⟨_,f,g⟩
structure Ws (h0 h:Hp) (b:Nat) (t:Sl) (n:Nat) (outs:List Value):Prop where
 g:ah h0 h
 o:dX h t b outs Y6
 l:outs.length=n
 hb:h0.size<=b
section
variable {h0 h:Hp} {b n:Nat} {t:Sl} {outs:List Value}
theorem Ws.tn (w:Ws h0 h b t n outs):t.n=n:=by rw[w.o.2.1,w.l]
theorem Ws.aj {H:Hp} (w:Ws h0 h b t n outs) (g:ah h H):Ws h0 H b t n outs:=⟨ah.trans w.g g,w.o.aj g,w.l,w.hb⟩
theorem Ws.st (w:Ws h0 h b t n outs) {x:Int} {i:Nat} (d:x=i) (z:i < n) {y:Int} {K:Hp->Prop} (f:∀c,Ws h0 c b t n (outs.set i (.int .i64 y))->K c):Ix t.a t.n 1 x λa=>St h a (.int .i64 y) K:=by
 have tn:=w.tn;refine w.o.sR ag ag ?_;rw[d,Int.toNat_natCast];exact w.o.st ag rfl λc e o=>f c ⟨aM.aj w.g e w.hb,o,by simp[w.l],w.hb⟩
end
theorem aaY {l:List Value} {i:Nat} {v:Value} (h:i < l.length):(l.set i v)[i]? = some v:=by simp[h]
theorem aaX {l:List Value} {i j:Nat} {v:Value} (h:j≠i):(l.set i v)[j]? = l[j]? := by
 rw[List.getElem?_set,if_neg (λe=>h e.symm)]
theorem Rg {l : List Value} {i : Nat} {v : Value} (h : l[i]? = some v) : l.set i v = l := by
  have hi := (List.getElem?_eq_some_iff.1 h).1
  apply List.ext_getElem?; intro k
  by_cases e : k = i
  · subst e; rw [aaY hi, h]
  · rw [aaX e]
theorem Ig {h : Hp} {a : Addr} {n : Nat} {X : Prop} (x : X) : aO h h a n X := ⟨fun _ _ => rfl, x⟩
abbrev PF:=aJ->Prop
structure JT (aq:Bool) (k w id ix:Int) (cs:List ai) (V:List VF) (P:List PF) (d:aJ):Prop where
 o:nN aq k w id ix cs d
 ro:Pu k ix d
 pt:∀(j:Nat) (c:aJ),(qL d)[j]? = some c->∃p,P[j]? = some p/\p c
 eo:k=20->Xp d
 wt:(uy (kV k w ix V) d).sum<=4194304
def EY (k:Int) (P:List PF):List PF:=if k=20 then JT false 5 0 0 0 [] [] []::P else P
mutual
def ai.arr:ai->PF
 | .mk _ aq k w id ix cs=>JT aq k w id ix cs (xz k (sj cs)) (EY k (yz cs))
def yz:List ai->List PF
 | []=>[]
 | f::fs=>f.arr::yz fs
end
theorem Wp:∀a:List ai,yz a=a.map ai.arr
 | []=>rfl
 | f::a=>by unfold yz;rw[Wp a];rfl
theorem aht:FW.arr=JT false 5 0 0 0 [] [] []:=by
 unfold FW ai.arr yz sj xz EY;simp
theorem ack (k:Int) (cs:List ai):EY k (yz cs)=(mS k cs).map ai.arr:=by
 unfold EY mS;rw[Wp];split
 ·rw[List.map_cons,aht]
 ·rfl
theorem ai.OU {f:ai} {O:aJ}:f.arr O↔JT f.aq f.k f.w f.id f.ix f.cs ((mS f.k f.cs).map ai.val) ((mS f.k f.cs).map ai.arr) O:=by
 obtain ⟨n,aq,k,w,id,ix,cs⟩:=f;unfold ai.arr;rw[ack,RX];exact Iff.rfl
theorem ai.oW (f:ai):f.val=kV f.k f.w f.ix ((mS f.k f.cs).map ai.val):=by
 obtain ⟨n,aq,k,w,id,ix,cs⟩:=f;unfold ai.val;rw[RX];rfl
def ak.aq:ak->Bool | .mk n _ _ _=>n
def ak.num:ak->Int | .mk _ x _ _=>x
def ak.text:ak->List UInt8 | .mk _ _ t _=>t
def ak.items:ak->List ak | .mk _ _ _ l=>l
def qD (n:Bool) (x:Int) (t:List UInt8) (s:Sl):List Value:=[.bool n, .int .i64 x, .string (bs t),Sl.v s]
def ak.row (v:ak) (s:Sl):List Value:=qD v.aq v.num v.text s
theorem wY (v:ak) (s:Sl):∀x∈v.row s,one x=true:=by intro x a;simp[ak.row,qD] at a;rcases a with rfl | rfl | rfl | rfl <;> rfl
mutual
def au (D:Nat->Prop) (h:Hp) (s:Sl):List ak->Prop
 | []=>s.n=0/\s.n<=s.c
 | v::vs=>s.n=vs.length+1/\s.n<=s.c/\∃a,s.a=some a/\D a.block/\VA D h a v/\eN D h a 1 vs
def eN (D:Nat->Prop) (h:Hp) (a:Addr) (i:Nat):List ak->Prop
 | []=>True
 | v::vs=>VA D h (a.add (i*4)) v/\eN D h a (i+1) vs
def VA (D:Nat->Prop) (h:Hp) (a:Addr):ak->Prop
 | .mk n x t vs=>∃s,Cs h a (qD n x t s)/\au D h s vs
end
theorem VA.row {D:Nat->Prop} {h:Hp} {a:Addr} {v:ak} (c:VA D h a v):∃s,Cs h a (v.row s)/\au D h s v.items:=by
 obtain ⟨n,x,t,vs⟩:=v;unfold VA at c;exact c
theorem VA.of {D:Nat->Prop} {h:Hp} {a:Addr} {v:ak} {s:Sl} (c:Cs h a (v.row s)) (w:au D h s v.items):VA D h a v:=by
 obtain ⟨n,x,t,vs⟩:=v;unfold VA;exact ⟨s,c,w⟩
section
variable {D D' S:Nat->Prop} {h h':Hp}
theorem VA.lt {a:Addr} {v:ak} (b:VA D h a v):a.block < h.size:=by obtain ⟨_,c,_⟩:=b.row;exact Cs.lt c
mutual
theorem au.fr (f:Tn S h h') (hn:∀b,D b->b < h.size->¬S b) (hD:∀b,D b->D' b):∀{s:Sl} (vs:List ak),au D h s vs->au D' h' s vs
  | _,[],hh=>by unfold au at hh ⊢;exact hh
  | _,v::vs,hh=>by
    unfold au at hh ⊢
    obtain ⟨a,b,p,e,q,x,y⟩:=hh
    exact ⟨a,b,p,e,hD _ q,VA.fr f hn hD (hn _ q x.lt) v x,eN.fr f hn hD (hn _ q x.lt) vs y⟩
theorem eN.fr (f:Tn S h h') (hn:∀b,D b->b < h.size->¬S b) (hD:∀b,D b->D' b):∀{a:Addr} (ha:¬S a.block) {i:Nat} (vs:List ak),eN D h a i vs->eN D' h' a i vs
  | _,_,_,[],_=>by unfold eN;trivial
  | _,ha,i,v::vs,hh=>by
    unfold eN at hh ⊢
    exact ⟨VA.fr f hn hD (by rw[yA];exact ha) v hh.1,eN.fr f hn hD ha vs hh.2⟩
theorem VA.fr (f:Tn S h h') (hn:∀b,D b->b < h.size->¬S b) (hD:∀b,D b->D' b):∀{a:Addr} (ha:¬S a.block) (v:ak),VA D h a v->VA D' h' a v
  | _,ha, .mk n x t vs,hh=>by
    unfold VA at hh ⊢
    obtain ⟨s,hc,h1⟩:=hh
    exact ⟨s,hc.fr f ha,au.fr f hn hD vs h1⟩
end
mutual
theorem au.lt:∀{s:Sl} (vs:List ak),au D h s vs->au (λb=>D b/\b < h.size) h s vs
  | _,[],hh=>by unfold au at hh ⊢;exact hh
  | _,v::vs,hh=>by
    unfold au at hh ⊢
    obtain ⟨a,b,p,e,q,x,y⟩:=hh
    exact ⟨a,b,p,e,⟨q,x.lt⟩,VA.SW v x,eN.lt vs y⟩
theorem eN.lt:∀{a:Addr} {i:Nat} (vs:List ak),eN D h a i vs->eN (λb=>D b/\b < h.size) h a i vs
 | _,_,[],_=>by unfold eN;trivial
 | _,i,v::vs,hh=>by unfold eN at hh ⊢;exact ⟨VA.SW v hh.1,eN.lt vs hh.2⟩
theorem VA.SW:∀{a:Addr} (v:ak),VA D h a v->VA (λb=>D b/\b < h.size) h a v
  | _, .mk n x t vs,hh=>by
    unfold VA at hh ⊢
    obtain ⟨s,hc,h1⟩:=hh
    exact ⟨s,hc,au.lt vs h1⟩
end
theorem au.gr {s:Sl} {vs:List ak} (v:au D h s vs) (g:ah h h'):au D h' s vs:=au.fr (S:=No) (Tn.aT g) (λ_ _ _=>id) (λ_ q=>q) vs v
theorem au.mo {s:Sl} {vs:List ak} (v:au D h s vs) (a:∀b,D b->D' b):au D' h s vs:=au.fr (S:=No) (Tn.refl _ _) (λ_ _ _=>id) a vs v
theorem eN.get:∀{a:Addr} {vs:List ak} {i:Nat},eN D h a i vs->∀(j:Nat) v,vs[j]? = some v->VA D h (a.add ((i+j)*4)) v
  | _,[],_,_,_,_,b=>by simp at b
  | _,f::d,i,c,0,g,b=>by simp at b;subst b;unfold eN at c;exact c.1
  | _,f::d,i,c,j+1,g,b=>by
    unfold eN at c;have:=eN.get c.2 j g (by simpa using b)
    have e:i+(j+1)=i+1+j:=ag;rw[e];exact this
theorem eN.of {a:Addr}:∀{vs:List ak} {i:Nat},(∀j v,vs[j]? = some v->VA D h (a.add ((i+j)*4)) v)->eN D h a i vs
  | [],_,_=>by unfold eN;trivial
  | f::c,i,H=>by
    unfold eN;refine ⟨H 0 f rfl,eN.of λj g b => ?_⟩;have:=H (j+1) g (by simpa using b)
    have e:i+1+j=i+(j+1):=ag;rw[e];exact this
theorem au.n {s:Sl} {vs:List ak} (q:au D h s vs):s.n=vs.length/\s.n<=s.c:=by
 cases vs with
 | nil=>unfold au at q;exact q
 | cons g a=>unfold au at q;exact ⟨q.1,q.2.1⟩
theorem au.all {s:Sl} {vs:List ak} (c:au D h s vs) (d:vs≠[]):∃a,s.a=some a/\D a.block/\∀(j:Nat) v,vs[j]? = some v->VA D h (a.add (j*4)) v:=by
  cases vs with
  | nil=>exact absurd rfl d
  | cons g m =>
    unfold au at c;obtain ⟨_,_,a,i,f,l,k⟩:=c;refine ⟨a,i,f,λj v b => ?_⟩;cases j with
    | zero=>simp at b;subst b;rw[Nat.zero_mul,add_zero'];exact l
    | succ j =>
      have:=k.get j v (by simpa using b)
      have e:1+j=j+1:=ag;rw[e] at this;exact this
theorem au.of {s:Sl} {vs:List ak} (k:s.n=vs.length) (o:s.n<=s.c) (q:vs≠[]->∃a,s.a=some a/\D a.block/\∀(j:Nat) v,vs[j]? = some v->VA D h (a.add (j*4)) v):au D h s vs:=by
  cases vs with
  | nil=>unfold au;exact ⟨k,o⟩
  | cons g l =>
    obtain ⟨a,i,f,b⟩:=q aS;unfold au;refine ⟨k,o,a,i,f,by simpa[add_zero'] using b 0 g rfl,eN.of λj v d => ?_⟩
    have:=b (j+1) v (by simpa using d)
    have e:1+j=j+1:=ag;rw[e];exact this
theorem au.nil (h:Hp):au D h Sl.nil []:=by unfold au;exact ⟨rfl,Nat.le_refl _⟩
theorem au.ix {s:Sl} {vs:List ak} (g:au D h s vs) {x:Int} {i:Nat} (q:x=(i:Int)) {v:ak} (o:vs[i]? = some v) {K:Addr->Prop} (y:∀a t,Cs h a (v.row t)->au D h t v.items->K a):Ix s.a s.n 4 x K:=by
 have b:i < vs.length:=(List.getElem?_eq_some_iff.1 o).1;obtain ⟨a,f,_,d⟩:=g.all (by intro e;rw[e] at b;simp at b)
 obtain ⟨p,c,w⟩:=(d i v o).row;have j:=g.n;subst q;rw[f];exact ⟨by omega,by omega,by rw[Int.toNat_natCast];exact y _ _ c w⟩
theorem au.Sq {s:Sl} {b:Nat} {vs:List ak} {ss:List Sl} {el:TypeId} (o:iH 4 h s b (List.zipWith ak.row vs ss) el) (hl:ss.length=vs.length) (g:D b)
  (f:∀(j:Nat) (v:ak) (t:Sl),vs[j]? = some v->ss[j]? = some t->au D h t v.items):au D h s vs:=by
 have e:=o.n;rw[List.length_zipWith,hl,Nat.min_self] at e;refine au.of e o.cap λ_=>⟨_,o.a,g,λj v d => ?_⟩;have i:=(List.getElem?_eq_some_iff.1 d).1;have c:ss[j]? = some ss[j]:=List.getElem?_eq_getElem ag;rw[aI,Nat.zero_add];exact VA.of (o.cs (by rw[List.getElem?_zipWith,d,c])) (f j v _ d c)
theorem au.snoc {n:Nat} {s:Sl} {vs:List ak} {ss:List Sl} {el:TypeId} (o:cN n 4 h s (List.zipWith ak.row vs ss) el) (hl:ss.length=vs.length) (f:∀b,n<=b->D b)
    (a:∀(j:Nat) (v:ak) (t:Sl),vs[j]? = some v->ss[j]? = some t->au D h t v.items):au D h s vs:=by
  rcases o.cases with ⟨rfl,e⟩ | ⟨b,c,o⟩
  · have:vs=[]:=by
      cases vs with
      | nil=>rfl
      | cons d ds=>cases ss with
        | nil=>simp at hl
        | cons=>simp at e
    subst this;exact au.nil h
  · exact au.Sq o hl (f b c) a
theorem au.KY {s:Sl} {vs:List ak} (w:au D h s vs) {k o i:Option Int} {K:Sl->Prop} {a b m:Nat} (f:k.getD 0=(a:Int)) (r:o.getD s.n=(b:Int)) (l:i.getD s.c=(m:Int)) (G:a<=b) (u:b<=vs.length) (F:b<=m) (E:m<=s.c)
  (z:∀t:Sl,au D h t ((vs.drop a).take (b - a))->K t):gp s 4 k o i K:=by
 have C:=w.n;refine ⟨by omega,by omega,by omega,by omega,z _ (au.of ?_ ?_ λg => ?_)⟩
 ·simp only[f,r,Int.toNat_natCast,List.length_take,List.length_drop];omega
 ·simp only[f,r,l,Int.toNat_natCast];omega
 ·have B:a < b:=by
   rcases Nat.lt_or_ge a b with q | q
   ·exact q
   ·exfalso;apply g;rw[show b - a=0 by omega];simp
  obtain ⟨p,y,A,x⟩:=w.all (by intro e;rw[e] at u;simp at u;omega)
  refine ⟨p.add (a*4),?_,by rw[yA];exact A,λj v d => ?_⟩
  ·simp only[f,l,Int.toNat_natCast];rw[jH,if_neg ag,y];rfl
  ·rw[Wq,<-Nat.add_mul];refine x (a+j) v ?_;rw[List.getElem?_take] at d;split at d
   ·rw[List.getElem?_drop] at d;exact d
   ·cases d
end
mutual
def ai.dep:ai->Nat
 | .mk _ _ _ _ _ _ cs=>Oo cs+1
def Oo:List ai->Nat
 | []=>0
 | f::fs=>max f.dep (Oo fs)
end
theorem acu {cs:List ai} {d:Nat} {B:Bool}:∀{n:Nat} {a:List Int},eR n a (hO d B cs)->∀f∈cs,∃(n:Nat) (a:List Int),eR n a (f.places d [] B):=by
  induction cs with
  | nil=>intro n a _ f b;simp at b
  | cons g e c =>
    intro n a h f b;simp only[hO,Al] at h;rcases List.mem_cons.1 b with rfl | b
    · exact ⟨_,_,h.1⟩
    · exact c h.2 f b
theorem N7 {α:Type} {l:List α} {j:Nat} {x y:α} (h:l[j]? = some x):l.getD j y=x:=by simp[h]
theorem ai.arr.xh {f:ai} {d:aJ} (h:f.arr d):nN f.aq f.k f.w f.id f.ix f.cs d:=(ai.OU.1 h).o
def rm (k:Int):Value:=if k=12\/k=13 then .iface WI (.agg #[]) else if k=15\/k=16 then .iface WH (.agg #[]) else if k=17 then .iface WG (.agg #[]) else if k=18 then .iface WE (.agg #[]) else if k=19 then .iface WD (.agg #[]) else if k=20 then .iface WC (.agg #[]) else .iface BY (.agg #[])
theorem ag8 {k:Int} {h:Hp} {K:Value->HP} {r:PK} (x:K (rm k) h):DY k h K r:=by
 have fin:∀v:Value,v=rm k->K v h:=λv e=>e ▸ x;unfold rm at fin;have u:∀b:Bool,(b=true↔(k=15\/k=16))->¬(k=12\/k=13)->zn K r k b h:=by
  intro b i g;refine zn.of (aA (λc=>fin _ ?_) λc => ?_)
  ·rw[if_neg g,if_pos (i.1 c)]
  have t:¬(k=15\/k=16):=λq=>by rw[i.2 q] at c;cases c
  refine aA (λa=>fin _ ?_) λa=>aA (λj=>fin _ ?_) λj=>aA (λl=>fin _ ?_) λl=>aA (λm=>fin _ ?_) λm=>fin _ ?_
  all_goals simp only[sm,reduceCtorEq] at *
  all_goals rw[if_neg g,if_neg t]
  ·rw[if_pos a]
  ·rw[if_neg a,if_pos j]
  ·rw[if_neg a,if_neg j,if_pos l]
  ·rw[if_neg a,if_neg j,if_neg l,if_pos m]
  ·rw[if_neg a,if_neg j,if_neg l,if_neg m]
 have w:∀b:Bool,(b=true↔(k=12\/k=13))->zo K r k b h:=by
  intro b i;refine zo.of (aA (λc=>fin _ ?_) λc => ?_)
  ·rw[if_pos (i.1 c)]
  have g:¬(k=12\/k=13):=λq=>by rw[i.2 q] at c;cases c
  refine aA (λa=>u _ ?_ g) λa=>u _ ?_ g
  all_goals simp only[sm,reduceCtorEq] at *
  all_goals omega
 refine DY.of (aA (λc=>w _ ?_) λc=>w _ ?_)
 all_goals simp only[sm,reduceCtorEq] at *
 all_goals omega
abbrev akq (f:ai) (s:Sl) (d:aJ) (q:Sl × Sl × Sl) (o n:Int):Array Value:=#[.string f.name, .bool f.aq, .int .i64 f.k, .int .i64 f.w, .int .i64 f.id, .int .i64 f.ix,Sl.v s, .int .i64 d.len, .int .i64 d.off, .int .i64 d.aq,Sl.v q.1,Sl.v q.2.1,Sl.v q.2.2, .int .i64 o, .int .i64 n, .pointer none,rm f.k]
structure jD (D:Nat->Prop) (h:Hp) (b:Nat) (f:ai) (d:aJ) (o n:Int) (s:Sl) (q:Sl × Sl × Sl):Prop where
 k:aB h b (akq f s d q o n) WK
 fs:bz D h s f.cs
 dv:c7 D D h q d
section
variable {D D' S:Nat->Prop} {h h':Hp} {b:Nat} {f:ai} {d:aJ} {o n:Int} {s:Sl} {q:Sl × Sl × Sl}
theorem jD.fr (A:jD D h b f d o n s q) (t:Tn S h h') (g:¬S b) (c:∀x,D x->¬S x) (e:∀x,D x->D' x):jD D' h' b f d o n s q :=
 ⟨t.aK A.k g,bz.fr t c e _ A.fs,A.dv.fr t (λx a _=>c x a) (λx a _=>c x a) e e⟩
theorem jD.gr (A:jD D h b f d o n s q) (g:ah h h'):jD D h' b f d o n s q:=A.fr (S:=No) (Tn.aT g) (λx=>x) (λ_ _ x=>x) λ_ x=>x
theorem jD.lt (A:jD D h b f d o n s q):jD (λx=>D x/\x < h.size) h b f d o n s q:=⟨A.k,bz.lt _ A.fs,A.dv.lt⟩
theorem ff.get:∀{a:Addr} {l:List ai} {i:Nat},ff D h a i l->∀(j:Nat) f,l[j]? = some f->ga D h (a.add ((i+j)*7)) f
  | _,[],_,_,_,_,c=>by simp at c
  | _,f::l,i,k,0,g,c=>by simp at c;subst c;unfold ff at k;exact k.1
  | _,f::l,i,k,j+1,g,c=>by
    unfold ff at k;have:=ff.get k.2 j g (by simpa using c)
    have e:i+(j+1)=i+1+j:=ag;rw[e];exact this
theorem ga.row {a:Addr} {f:ai} (c:ga D h a f):∃u,Cs h a (f.row u)/\bz D h u f.cs:=by cases f;unfold ga at c;exact c
theorem bz.ix {s:Sl} {fs:List ai} (y:bz D h s fs) {x:Int} {i:Nat} (z:x=(i:Int)) {g:ai} (w:fs[i]? = some g) {K:Addr->Prop} (A:∀a u,Cs h a (g.row u)->bz D h u g.cs->K a):Ix s.a s.n 7 x K:=by
  have r:=y.n;have t:i < fs.length:=(List.getElem?_eq_some_iff.1 w).1;cases fs with
  | nil=>simp at w
  | cons f fs =>
    unfold bz at y;obtain ⟨_,_,a,k,_,m,l⟩:=y;have:ga D h (a.add (i*7)) g:=by
      cases i with
      | zero=>simp at w;subst w;rw[Nat.zero_mul,add_zero'];exact m
      | succ j =>
        have:=l.get j g (by simpa using w)
        have e:1+j=j+1:=ag;rw[e] at this;exact this
    obtain ⟨u,c,v⟩:=this.row;subst z;rw[k];exact ⟨by omega,by omega,by rw[Int.toNat_natCast];exact A _ _ c v⟩
theorem acV {K:Option Addr->HP} {Kp:PK} (hs:bz D h s f.cs) (v:c7 D D h q d) (hk:∀b' h',ah h h'->h.size<=b'->jD D h' b' f d d.off d.len s q->K (some ⟨b',0,none⟩) h') :
  CY f.name f.aq f.k f.w f.id f.ix s d.len d.off d.aq q.1 q.2.1 q.2.2 none h K Kp:=by
 refine CY.of (az λb3 h1 e1 g1 k3 _=>az λb4 h2 e2 g2 k4 _ => ?_);simp only[aI];have G:=ah.trans g1 g2;have k3:=k3.aj g2;refine aN.b k3 (bq.b k4 (an k4 rfl (an k4 rfl (an k3 rfl (ag8 (Ig (Ig (Ig (Ig ?_)))))))));have na:∀{X:Prop},X->NA (rm f.k) X:=λ{X} hX=>by unfold rm;(repeat' split) <;> exact ⟨rfl,hX⟩
 exact na (az λb5 h3 e3 g3 k5 _=>hk _ _ (ah.trans G g3) (by have:=G.1;omega) ⟨k5,hs.gr (ah.trans G g3),v.gr (ah.trans G g3)⟩)
end
section
variable {D:Nat->Prop} {h:Hp} {u:Sl} {l:List UInt8} {Kp:PK}
theorem cV.gr {H:Hp} {vs:List Value} (v:cV D h u vs) (g:ah h H):cV D H u vs:=v.fr (S:=No) (Tn.aT g) (λ_ _ _=>id) λ_ q=>q
theorem adf {K:Sl->Int->Option Addr->HP} (v:cV D h u (bv l)) (B:∀t i,ah h i->cV D i t (bv l)->K t 0 none i):DM u h K Kp:=by
 have tn:=v.1.1;rw[eL] at tn;refine DM.of (az λb2 E e1 r c _=>WZ (v.1.aj r) (a:=0) (b:=u.n) (m:=u.n) rfl rfl rfl (Nat.zero_le _) (by rw[eL];omega) (Nat.le_refl _) v.1.2.1 λt _ _ C k=>m8.b c rfl λF p c=>fQ.b c (B _ _ (aM.aj r p ag) ?_))
 rw[V3,List.drop_zero,List.take_of_length_le ag] at k;have w:cV (λx=>x < h.size/\D x) E t (bv l):=⟨k,λA a j=>by
  obtain ⟨y,z,e⟩:=C a j;have:=v.lt.2 A y z;rw[e];exact ⟨this.2,this.1⟩⟩
 exact w.fr p.fr (λx g _ e=>by have:=g.1;omega) λx g=>g.2
theorem YN {o:Int} {w m:Option Addr} {K:Sl->Int->Option Addr->HP} (v:cV D h u (bv l)) (p:∀g,ah h g->cV D g u (bv l)->K u o w g):DL u o m w h K Kp:=by
 have t:=v.lt;refine DL.of (az λb2 A e1 i a _=>az λC z B k e _ => ?_);have r:=a.lt;simp only[aI];have G:=ah.trans i k;exact cE (a.aj k) aS rfl λy c a=>fQ.b a (m8.b (c.aK e ag) rfl λx j e=>fQ.b e (p _ (aM.aj (aM.aj G c ag) j (by have:=i.1;omega)) (v.gr (aM.aj (aM.aj G c ag) j (by have:=i.1;omega)))))
theorem KP {o x n:Int} {w:Option Addr} {K:Bool->HP} (hl:u.n<=2 ^ 40) (j:0<=x) (g:0<=n) (t:x+n<=u.n) (e:∀c,ah h c->K true c):wU u o w x n h K Kp:=by
 refine wU.of (az λv r e1 i a _=>bx (by simpa using j) (CK.of (by
  have p:decide (n>=0)=true:=by simpa using g
  rw[p];refine bx rfl (an a rfl ?_);have m:decide (x<=(u.n:Int))=true:=by rw[decide_eq_true_eq];omega
  rw[m];refine CJ.of (bx rfl (an a rfl (aP ag ag ?_)));have k:decide (n<=(u.n:Int) - x)=true:=by rw[decide_eq_true_eq];omega
  rw[k];exact e _ i)))
theorem Lo {o x n:Int} {a m:Nat} {K:Sl->HP} (v:Sv h u (bv l)) (hl:l.length<=2 ^ 40) (j:x=a) (k:n=m) (r:a+m<=l.length) (p:∀t c,ah h c->Sv c t (bv ((l.drop a).take m))->K t c):wT u o none x n h K Kp:=by
 subst j k;have un:=v.1;rw[eL] at un;refine wT.of (az λy w e1 i g _ => ?_);simp only[aI];refine an g rfl (aR rfl (CG.of (aR rfl (an g rfl (aP ag ag (aP ag ag (WZ (v.aj i) (a:=a) (b:=a+m) (m:=a+m) aS aS aS ag (by rw[eL];omega) (Nat.le_refl _) (by have:=v.2.1;omega) λt _ _ _ e=>p _ _ i ?_)))))))
 rw[V3,show a+m - a=m by omega] at e
 exact e
theorem VY {o x:Int} {i:Nat} {b:UInt8} {K:Int->Int->HP} (v:Sv h u (bv l)) (hl:l.length<=2 ^ 40) (p:x=i) (e:l[i]? = some b) (r:∀g,ah h g->K b.toNat 0 g):Af u o none x h K Kp:=by
 have y:=(List.getElem?_eq_some_iff.1 e).1;have un:=v.1;rw[eL] at un;refine Af.of (az λC B e1 j c _=>fQ.b c (KP ag ag ag ag λA a=>aR rfl (fQ.b (c.aj a) (Lo (v.aj (ah.trans j a)) hl p (m:=1) rfl ag λt z w k=>Pn k (i:=0) rfl (b:=b) ?_ (r _ (ah.trans (ah.trans j a) w))))));rw[List.getElem?_take_of_lt ag,List.getElem?_drop];exact e
theorem YF {m:Nat} {K:Bool->HP} (c:m=1\/m=2\/m=4\/m=8) (a:K true h):ud (m:Int) h K Kp:=by
 rcases c with rfl | rfl | rfl | rfl
 ·exact ud.of (bx rfl (tT.of (bx rfl (tS.of (bx rfl a)))))
 ·exact ud.of (aR rfl (tT.of (bx rfl (tS.of (bx rfl a)))))
 ·exact ud.of (aR rfl (tT.of (aR rfl (tS.of (bx rfl a)))))
 ·exact ud.of (aR rfl (tT.of (aR rfl (tS.of (aR rfl a)))))
theorem adl {K:Int->HP} (v:Sv h u (bv l)) (hl:l.length<=8) (y:K (fT l) h):DE u h K Kp:=by
 have un:=v.1;rw[eL] at un;refine DE.of ?_;rw[un];refine HX.bB (λr p z=>z=h/\∃i:Nat,p=i/\i<=l.length/\r=fT (l.take i)) (λ_ p _=>l.length - p.toNat) ⟨rfl,0,rfl,by omega,by simp[fT]⟩ ?_
 rintro r p B ⟨rfl,i,rfl,A,rfl⟩ C hN;refine aA (λc => ?_) λc => ?_
 ·have c:=ay c;have g:i < l.length:=ag;have j:l[i]? = some l[i]:=List.getElem?_eq_getElem g;have e:l.take (i+1)=l.take i++[l[i]]:=List.take_succ_eq_append_getElem g;generalize l[i]=b at j e;have m:=b.toNat_lt;have a:=M1 (l.take i);have t:(l.take i).length=i:=by simp;omega
  rw[t] at a;rw[<-un];refine Pn v rfl j (lT rfl (Nat.lt_of_lt_of_le m aL) ?_);rw[show (8:Int)*(i:Int)=((8*i:Nat):Int) by omega]
  have x:b.toNat*2 ^ (8*i) < 2 ^ 64:=by
   have w:b.toNat*2 ^ (8*i) < 2 ^ 8*2 ^ (8*i):=Nat.mul_lt_mul_of_pos_right m (Nat.two_pow_pos _);rw[<-Nat.pow_add] at w;exact Nat.lt_of_lt_of_le w (Nat.pow_le_pow_right aL ag)
  refine aP ag ag (sD (k:=8*i) ?_ a x (Nat.lt_of_lt_of_le a (Nat.pow_le_pow_right aL ag)) ?_)
  ·have:IntKind.bits .u64=64:=rfl;rw[this,Int.toNat_natCast];omega
  ·rw[un];refine aP ag ag (hN _ _ _ ⟨rfl,i+1,by simp,by omega,?_⟩ ag)
   rw[e,Ta,t]
 ·have c:=ay c;have:i=l.length:=ag;subst this;rw[List.take_length];exact y
theorem SX {o x y:Int} {a m:Nat} {K:Int->Int->HP} (v:Sv h u (bv l)) (hl:l.length<=2 ^ 40) (r:m=1\/m=2\/m=4\/m=8) (p:x=a) (k:y=m) (z:a+m<=l.length) (w:∀g,ah h g->K (kZ l a m) 0 g):ue u o none x y h K Kp:=by
 subst k;have un:=v.1;rw[eL] at un;refine ue.of (az λF E e1 i e _=>YF r (aR rfl (fQ.b e (KP ag ag ag ag λC c=>aR rfl (fQ.b (e.aj c) (Lo (v.aj (ah.trans i c)) hl p rfl z λt B A j=>adl j cC (w _ (ah.trans (ah.trans i c) A))))))))
theorem aaW {x m:Nat} (hm:m=1\/m=2\/m=4\/m=8) (hx:x < 2 ^ (8*m)):Int.fdiv (IntKind.i64.wrap (IntKind.u64.wrap ((x:Int)*2 ^ (64 - 8*m)))) (2 ^ (64 - 8*m))=sg m x:=by
 have ax:∀y:Int,Int.fdiv y (2 ^ (64 - 8*m))=y / 2 ^ (64 - 8*m):=λy=>Int.fdiv_eq_ediv_of_nonneg _ (Int.le_of_lt (Int.pow_pos aL));rw[ax];unfold sg;rcases hm with rfl | rfl | rfl | rfl
 all_goals simp only[IntKind.wrap,IntKind.signed,IntKind.bits]
 all_goals simp at hx ⊢
 all_goals (repeat' split)
 all_goals omega
theorem aaV {o x y:Int} {a m:Nat} {K:Int->Int->HP} (v:Sv h u (bv l)) (hl:l.length<=2 ^ 40) (hm:m=1\/m=2\/m=4\/m=8) (hx:x=a) (hy:y=m) (h3:a+m<=l.length) (hk:∀h',ah h h'->K (sg m (kZ l a m)) 0 h'):DU u o none x y h K Kp:=by
 have fO:=SE l a m;refine DU.of (az λb3 h1 e1 g1 k3 _=>fQ.b k3 (SX (v.aj g1) hl hm hx hy h3 λh2 g2=>aR rfl ?_));subst hy;have e1:(64:Int) - 8*(m:Int)=((64 - 8*m:Nat):Int):=ag;have e2:min (Int.toNat ((64 - 8*m:Nat):Int)) 64=64 - 8*m:=by rw[Int.toNat_natCast];omega
 refine aP ag ag (aP ag ag ?_);rw[e1];refine fY ag ?_;unfold Wr;refine fY ag ?_;unfold Lt;have e3:IntKind.bits .u64=64:=rfl;have e4:IntKind.bits .i64=64:=rfl;rw[e3,e4,e2,aaW hm fO];exact hk _ (ah.trans g1 g2)
theorem Zr {o x n:Int} {a m:Nat} {K:ByteArray->Int->HP} (v:Sv h u (bv l)) (hl:l.length<=2 ^ 40) (k:x=a) (p:n=m) (w:a+m<=l.length) (r:∀i,ah h i->K (bs ((l.drop a).take m)) 0 i):Dt u o none x n h K Kp:=by
 have un:=v.1;rw[eL] at un;refine Dt.of (az λC B e1 j g _=>fQ.b g (KP ag ag ag ag λA c=>aR rfl (fQ.b (g.aj c) (Lo (v.aj (ah.trans j c)) hl k p w λt z y e=>⟨(l.drop a).take m,?_,r _ (ah.trans (ah.trans j c) y)⟩))));have:=e.ES e.na;rw[Nat.mul_one] at this;exact this
end
section
variable {D:Nat->Prop} {h:Hp} {b:Nat} {f:ai} {d:aJ} {o n:Int} {s:Sl} {q:Sl × Sl × Sl} {Kp:PK}
theorem Gv {x:Int} {j:Nat} {K:Sl->Int->Option Addr->HP} (A:jD D h b f d o n s q) (c:x=j) (E:j < d.aH.length) (C:∀u p,ah h p->cV D p u (bv (bQ d.aH j))->K u 0 none p):qx (some ⟨b,0,none⟩) x h K Kp:=by
 refine qx.of (az λM L e1 w i _ => ?_);simp only[kO,aI];have g:=A.lt.gr w;refine an g.k rfl (g.dv.b.ix c E λa t F y=>⟨_,F,an g.k rfl (adf y λG J m B=>bK g.k m (YN B λI v z=>m8.b ((i.aj m).aj v) rfl λH r i=>fQ.b i (C _ _ (aM.aj (ah.trans w (ah.trans m v)) r ag) (z.fr r.fr (λx c _ e=>by have:=c.2;omega) λx c=>c.1))))⟩)
theorem Sx {r:Int} {i:Nat} {K:Bool->HP} (A:jD D h b f d o n s q) (hr:r=i) (h1:iD f.k=true->1<=d.aH.length) (hl:(bQ d.aH 0).length<=2 ^ 40) (hi:(bQ d.aH 0).length≠0->i / 8 < (bQ d.aH 0).length) (h40:i<=2 ^ 40)
  (hk:∀h',ah h h'->K (fR f.k d.aH i) h'):zE (some ⟨b,0,none⟩) r h K Kp:=by
 subst hr;refine zE.of ?_;simp only[kO,aI];refine an A.k rfl (aA (λc1 => ?_) λc1=>an A.k rfl (Ue ?_))
 ·have:=hk _ (ah.refl _);unfold fR at this;rw[c1,Bool.true_or] at this;exact this
 refine aA (λc2 => ?_) λc2 => ?_
 ·rw[Bool.not_eq_true'] at c2;have:=hk _ (ah.refl _);unfold fR at this;rw[c1,c2,Bool.false_and,Bool.false_or] at this;exact this
 rw[Bool.not_eq_false'] at c2;have hb:=h1 c2;refine an A.k rfl (A.dv.b.ix rfl hb λa t ca vt=>⟨_,ca,?_⟩);have tn:=vt.1.1;rw[eL] at tn;refine aA (λc3 => ?_) λc3=>Ij.of (Gv A (j:=0) rfl hb λu h1 g1 v1 => ?_)
 ·have c3:=ay c3;have e:(bQ d.aH 0).length=0:=ag;have:=hk _ (ah.refl _);unfold fR at this;rw[c1,c2,e] at this;exact this
 ·have c3:=ay c3;have sW:(bQ d.aH 0).length≠0:=ag;have fO:=hi sW;have e1:Int.tdiv (i:Int) 8=((i / 8:Nat):Int):=rfl;have e2:Int.tmod (i:Int) 8=((i % 8:Nat):Int):=rfl;have Bt:(bQ d.aH 0)[i / 8]? = some (bQ d.aH 0)[i / 8]:=List.getElem?_eq_getElem fO;have hg:(bQ d.aH 0).getD (i / 8) 0=(bQ d.aH 0)[i / 8]:=by simp[fO]
  have hnl:fR f.k d.aH i=!dQ (bQ d.aH 0) i:=by
   unfold fR;rw[c1,c2];have:((bQ d.aH 0).length != 0)=true:=by rw[bne_iff_ne];exact sW
   rw[this];rfl
  rw[hnl] at hk;unfold dQ at hk;rw[hg] at hk;generalize (bQ d.aH 0)[i / 8]=y at Bt hk;refine mM aL (aP (by rw[e1];omega) (by rw[e1];omega) (VY v1.1 hl e1 Bt λh2 g2=>mM aL ?_))
  unfold Lt;rw[e2];refine fY ag ?_;have e3:Int.fdiv (y.toNat:Int) (2 ^ (min (Int.toNat ((i % 8:Nat):Int)) (IntKind.bits .u8)))=((y.toNat / 2 ^ (i % 8):Nat):Int):=by
   have:min (Int.toNat ((i % 8:Nat):Int)) (IntKind.bits .u8)=i % 8:=by
    have:IntKind.bits .u8=8:=rfl;rw[this,Int.toNat_natCast];omega
   rw[this,Int.fdiv_eq_ediv_of_nonneg _ (Int.le_of_lt (Int.pow_pos aL))]
   norm_cast
  rw[e3]
  show K (dF .and .u8 ((y.toNat / 2 ^ (i % 8):Nat):Int) 1 == 0) h2
  rw[OY];have:((((y.toNat / 2 ^ (i % 8)) % 2:Nat):Int) == 0)=!(y.toNat / 2 ^ (i % 8) % 2 == 1):=by
   rw[Bool.eq_iff_iff];simp only[beq_iff_eq,Bool.not_eq_true',beq_eq_false_iff_ne,ne_eq];omega
  rw[this];exact hk _ (ah.trans g1 g2)
theorem adk {k r:Int} {i:Nat} {K:Int->HP} (A:jD D h b f d o n s q) (T6:3<=k/\k<=11) (hr:r=i) (hb:1 < d.aH.length) (hl:(bQ d.aH 1).length<=2 ^ 40) (hi:(i+1)*(cl k).toNat<=(bQ d.aH 1).length) (hk:∀h',ah h h'->K (sM k (bQ d.aH 1) i) h'):Ds (some ⟨b,0,none⟩) k r h K Kp:=by
 subst hr;have wk:(cl k).toNat=1\/(cl k).toNat=2\/(cl k).toNat=4\/(cl k).toNat=8:=by unfold cl;repeat' split <;> omega
 have wi:cl k=((cl k).toNat:Int):=ag;have e0:(i+1)*(cl k).toNat=i*(cl k).toNat+(cl k).toNat:=by rw[Nat.add_mul,Nat.one_mul]
 have e1:(i:Int)*cl k=((i*(cl k).toNat:Nat):Int):=by rw[wi];simp
 have lt:=SE (bQ d.aH 1) (i*(cl k).toNat) (cl k).toNat;have l64:kZ (bQ d.aH 1) (i*(cl k).toNat) (cl k).toNat < 2 ^ 64:=Nat.lt_of_lt_of_le lt (Nat.pow_le_pow_right aL ag);have YY:¬(3<=k/\k<=6)->qx (some ⟨b,0,none⟩) 1 h (λt0 t1 t2 h2=>Wr .i64 ((i:Int)*cl k) λt36=>ue t0 t1 t2 t36 (cl k) h2 (λZV amP h3=>Wr .i64 ZV λt42=>K t42 h3) Kp) Kp:=λno =>
  Gv A (j:=1) rfl hb λu h1 g1 v1=>aP ag ag (SX v1.1 hl wk e1 wi ag λh2 g2=>by
   have:=hk _ (ah.trans g1 g2);unfold sM at this;rw[if_neg no] at this;unfold Wr;have e:IntKind.i64.wrap (kZ (bQ d.aH 1) (i*(cl k).toNat) (cl k).toNat:Int)=sg 8 (kZ (bQ d.aH 1) (i*(cl k).toNat) (cl k).toNat):=by
    unfold sg;rw[IntKind.wrap_i64];split <;> omega
   rw[e];exact this)
 refine Ds.of (akk ag (bx (by simpa using T6.1) (aA (λc => ?_) λc=>YY ?_)))
 ·have c:=ay c;refine Gv A (j:=1) rfl hb λu h1 g1 v1=>aP ag ag (aaV v1.1 hl wk e1 wi ag λh2 g2 => ?_);have:=hk _ (ah.trans g1 g2);unfold sM at this;rw[if_pos ⟨T6.1,c⟩] at this;exact this
 ·have c:=ay c;omega
end
abbrev Lc (h:Hp) (bl:Nat) (L:Int):Prop:=aB h bl #[.int .i64 L] Y6
theorem Kz {h:Hp} {bl:Nat} {x n:Int} {K:HP} {Kp:PK} (k:Lc h bl x) (m:0<=n) (i:n<=x) (l:x<=2 ^ 40) (g:∀c,aM bl h c->Lc c bl (x - n)->K c):wS (some ⟨bl,0,none⟩) n h K Kp:=by
 refine wS.of ?_;simp only[kO];refine an k rfl (aP ag ag (cE k aS rfl λi e a=>an a rfl (aR ?_ (g _ e a))));rw[decide_eq_false_iff_not];omega
theorem fW.fr {S:Nat->Prop} {h g:Hp} (t:fW h) (f:Tn S h g) (k:¬S 0) (e:¬S 1):fW g :=
 ⟨λi c=>f.cell (t.f i c) k,λi c=>⟨f.cell (t.a i c).1 e,f.cell (t.a i c).2 e⟩⟩
abbrev KV:=Bool->Int->ByteArray->Sl->HP
def VK (h:Hp) (bl:Nat) (L:Int) (v:ak) (K:KV):Prop:=∀t h',Tn (·=bl) h h'->Lc h' bl (L - v.aV)->au (Nw h) h' t v.items->K v.aq v.num (bs v.text) t h'
theorem VK.fin {g h:Hp} {bl m:Nat} {y:Int} {v:ak} {K:KV} {cs:Array Value} {u:Sl} {el:TypeId} (F:VK g bl y v K) (t:Tn (·=bl) g h) (B:Lc h bl (y - v.aV)) (j:aB h m cs el) (C:cs.size=4) (H:g.size<=m) (G:bl < g.size) (w:au (λc=>g.size<=c/\c≠m) h u v.items) :
  bV h ⟨m,0,none⟩ v.aq v.num (bs v.text) u λl=>aQ l ⟨m,0,none⟩ λr0 A z p=>K r0 A z p l :=
 bV.b j C λl a j=>aQ.b j (F _ _ (t.trans' a.fr λd r k=>by omega) (a.aK B ag) (au.fr a.fr (λx i _ e=>i.2 e) (λx i=>i.1) _ w))
structure Vc (D:Nat->Prop) (h:Hp) (b bl:Nat) (f:ai) (d:aJ) (o n:Int) (s:Sl) (q:Sl × Sl × Sl) (L:Int) (i:Nat):Prop where
 A:jD D h b f d o n s q
 bn:b≠bl
 dn:¬D bl
 ar:f.arr d
 lo:d.off.toNat<=i
 hi:i < d.off.toNat+d.len.toNat
 kl:Lc h bl L
 wl:((f.val d i).aV:Int)<=L
 lm:L<=2 ^ 40
 tb:fW h
 b2:1 < bl
theorem El (f:ai) (d:aJ) (i:Nat):f.val d i=kV f.k f.w f.ix ((mS f.k f.cs).map ai.val) d i:=by rw[ai.oW]
theorem KN (l:List UInt8):tx (bs l)=l:=rfl
section
variable {D:Nat->Prop} {h:Hp} {b bl i:Nat} {f:ai} {d:aJ} {o n r L:Int} {s:Sl} {q:Sl × Sl × Sl} {K:KV} {Kp:PK}
theorem Vc.gr {H:Hp} (V:Vc D h b bl f d o n s q L i) (g:ah h H):Vc D H b bl f d o n s q L i:=⟨V.A.gr g,V.bn,V.dn,V.ar,V.lo,V.hi,V.kl.aj g,V.wl,V.lm,V.tb.aj g,V.b2⟩
theorem Vc.bd (V:Vc D h b bl f d o n s q L i):0<=d.len/\d.len<=4096/\0<=d.off/\d.off<=4096/\i<=8192/\d.off+d.len<=4096/\0<=L:=by
 have a:=V.ar.xh;have m:=a.l0;have l:=a.l1;have k:=a.o0;have j:=a.o1;have g:=V.hi;have e:=a.e1;have c:=V.wl;omega
theorem Vc.af {g:Hp} (V:Vc D h b bl f d o n s q L i) (t:Tn (·=bl) h g):jD D g b f d o n s q:=V.A.fr t V.bn (λx a e=>V.dn (e ▸ a)) λ_ x=>x
def WN (f:ai):Prop:=∀{D:Nat->Prop} {h:Hp} {b bl i:Nat} {d:aJ} {o n r L:Int} {s:Sl} {q:Sl × Sl × Sl} {K:KV} {Kp:PK},Vc D h b bl f d o n s q L i->r=i->VK h bl L (f.val d i) K->DN (some ⟨b,0,none⟩) r (some ⟨bl,0,none⟩) h K Kp
def vT (f:ai):Prop:=∀{D:Nat->Prop} {h:Hp} {b bl i:Nat} {d:aJ} {o n x L:Int} {s:Sl} {q:Sl × Sl × Sl} {K:KV} {Kp:PK},Vc D h b bl f d o n s q L i->o+x=i->VK h bl L (f.val d i) K->DW (some ⟨b,0,none⟩) x (some ⟨bl,0,none⟩) h K Kp
theorem acQ {f:ai} (w:WN f):vT f:=by
 intro D h b bl i d o n x L s q K Kp V p u;have bd:=V.bd;have g:=V.kl.lt;refine DW.of (az λE v e1 a l _ => ?_);simp only[kO,aI];have z:=a.1;refine an (V.A.gr a).k rfl (aP ag ag (w (V.gr a) p λt C j e m => ?_));have y:=l.lt;exact u.fin ((Tn.aT a).trans j) e (j.aK l ag) rfl ag g (m.mo λc (B:v.size<=c)=>⟨by omega,by omega⟩)
theorem agN (V:Vc D h b bl f d o n s q L i) (hr:r=i) (kk:f.k≠12/\f.k≠13/\f.k≠15/\f.k≠16/\f.k≠17/\f.k≠18/\f.k≠19/\f.k≠20) (xT:fR f.k d.aH i=false) (hk:VK h bl L (f.val d i) K):Dr (some ⟨b,0,none⟩) r (some ⟨bl,0,none⟩) h K Kp:=by
 subst hr;have bd:=V.bd;have V':=V;obtain ⟨A,bn,dn,ar,lo,hi,kl,wl,lm,tb,b2⟩:=V';have so:=ar.xh;have sh:=so.ty.kinds.1;unfold Shaped at sh;have nb:=so.nb;have FA:f.k≠1:=by intro e;unfold fR at xT;rw[e] at xT;simp at xT
 have uZ:d.aH.length=2:=by unfold gC at nb;(repeat' split at nb) <;> omega
 have n1:=so.need 1 ag;rw[fD,if_neg ag,if_neg ag] at n1;have aob:=so.vH 1 ag;have V7:=kl.lt;have w16:16<=(f.val d i).aV:=by
  rcases hv:f.val d i with ⟨a1,a2,a3,a4⟩
  simp only[ak.aV];omega
 refine Dr.of (az λb4 h1 e1 g1 k4 _=>az λb8 h2 e2 g2 k8 _ => ?_);simp only[kO,aI];have G:=ah.trans g1 g2;have g1s:=g1.1;have k8l:=k8.lt;have ct:Cs h2 ⟨b,2,none⟩ [.int .i64 f.k, .int .i64 f.w, .int .i64 f.id, .int .i64 f.ix,Sl.v s]:=by
  intro j v hv;rw[aI,eW (A.gr G).k];rcases j with _ | _ | _ | _ | _ | j
  all_goals first | exact hv | (simp at hv)
 refine dH.c ct (az λb9 h3 e3 g3 k9 _=>jz.b k9 rfl λh4 o4 k9 => ?_);have g4:ah h2 h4:=aM.aj g3 o4 ag;have g4s:=g4.1;have G4:=ah.trans G g4;have k9l:=k9.lt;refine Gv (A.gr G4) (j:=1) rfl ag λu h5 g5 v5=>az λWf h6 e6 g6 xP _=>m8.b xP rfl λh7 o7 xP => ?_;have g5s:=g5.1;have g7:ah h5 h7:=aM.aj g6 o7 ag;have g7s:=g7.1;have am7:=xP.lt;have G7:=ah.trans G4 (ah.trans g5 g7);refine Kz (kl.aj G7) ag ag lm λh8 o8 Ts => ?_;have T8:Tn (·=bl) h h8:=(Tn.aT G7).trans o8.fr;have TB:aB h8 b8 dO bW:=o8.aK (((k8.aj g4).aj g5).aj g7) ag;have Fj:=o8.aK ((k9.aj g5).aj g7) (by omega:b9≠bl)
 have TD:=o8.aK xP (by omega:Wf≠bl)
 have v8:cV D h8 u (bv (bQ d.aH 1)):=(v5.gr g7).fr o8.fr (λx hx _ e=>dn (e ▸ hx)) λ_ x=>x;have fin:∀(x:Int) h9,f.val d i=.mk false x [] []->ah h8 h9->bV h9 ⟨b8,0,none⟩ false x (bs []) (⟨none,0,0⟩:Sl) λh'=>aQ h' ⟨b8,0,none⟩ λr0 r1 r2 r3=>K r0 r1 r2 r3 h':=by
  intro x h9 hv g9;rw[hv] at hk;exact hk.fin (T8.trans (Tn.aT g9)) (Ts.aj g9) (TB.aj g9) rfl ag V7 (au.nil _)
 refine an Fj rfl (aA (λc=>fQ.b TD ?_) λc=>aA (λc2=>an Fj rfl ?_) λc2=>an Fj rfl ?_)
 ·have c:=ay c;rw[if_pos ag] at n1;have e1:Int.tdiv (i:Int) 8=((i / 8:Nat):Int):=rfl;have e2:Int.tmod (i:Int) 8=((i % 8:Nat):Int):=rfl;have fO:i / 8 < (bQ d.aH 1).length:=ag;have Bt:(bQ d.aH 1)[i / 8]? = some (bQ d.aH 1)[i / 8]:=List.getElem?_eq_getElem fO;have hg:(bQ d.aH 1).getD (i / 8) 0=(bQ d.aH 1)[i / 8]:=by simp[fO]
  have hv:f.val d i=.mk false (if dQ (bQ d.aH 1) i then 1 else 0) [] []:=by
   rw[El,kV,if_neg (by rw[xT];simp),if_neg ag,if_neg ag,if_neg ag,if_neg ag,if_neg ag,if_neg ag,if_neg ag,if_pos c]
  unfold dQ at hv;rw[hg] at hv;generalize (bQ d.aH 1)[i / 8]=y at Bt hv;refine mM aL (aP (by rw[e1];omega) (by rw[e1];omega) (VY v8.1 ag e1 Bt λh9 g9=>mM aL ?_))
  unfold Lt;rw[e2];refine fY ag ?_;have e3:Int.fdiv (y.toNat:Int) (2 ^ (min (Int.toNat ((i % 8:Nat):Int)) (IntKind.bits .u8)))=((y.toNat / 2 ^ (i % 8):Nat):Int):=by
   have:min (Int.toNat ((i % 8:Nat):Int)) (IntKind.bits .u8)=i % 8:=by
    have:IntKind.bits .u8=8:=rfl;rw[this,Int.toNat_natCast];omega
   rw[this,Int.fdiv_eq_ediv_of_nonneg _ (Int.le_of_lt (Int.pow_pos aL))]
   norm_cast
  rw[e3];dsimp only;rw[OY];refine aP ag ag (fin _ h9 ?_ g9);rw[hv];have hx:(if (y.toNat / 2 ^ (i % 8) % 2 == 1)=true then (1:Int) else 0)=((y.toNat / 2 ^ (i % 8) % 2:Nat):Int):=by
   split
   ·rename_i e;simp only[beq_iff_eq] at e;omega
   ·rename_i e;simp only[beq_iff_eq] at e;omega
  rw[hx]
 ·simp only[sm,reduceCtorEq] at c c2;have hv:f.val d i=.mk false 0 (((bQ d.aH 1).drop (i*f.w.toNat)).take f.w.toNat) []:=by
   rw[El,kV,if_neg (by rw[xT];simp),if_neg ag,if_neg ag,if_neg ag,if_neg ag,if_neg ag,if_neg ag,if_neg ag,if_neg ag,if_pos c2]
  have Fl:ji f.k f.w f.ix=f.w:=by rw[ji,if_pos c2]
  rw[if_neg ag,if_neg ag,Fl] at n1;have hw:1<=f.w/\f.w<=16:=ag;have TQ:(i+1)*f.w.toNat<=(d.off+d.len).toNat*f.w.toNat:=Nat.mul_le_mul_right _ ag;rw[Nat.add_mul,Nat.one_mul] at TQ;have e1:(i:Int)*f.w=((i*f.w.toNat:Nat):Int):=by rw[Int.natCast_mul];congr 1;omega
  have ln:(((bQ d.aH 1).drop (i*f.w.toNat)).take f.w.toNat).length=f.w.toNat:=by simp;omega
  have hwg:(f.val d i).aV=16+f.w.toNat:=by rw[hv];simp only[ak.aV,bg,ln];omega
  refine Kz Ts ag ag ag λh9 o9 kl9 => ?_;have T9:Tn (·=bl) h h9:=T8.trans o9.fr;have aeD:=o9.aK TB (by omega:b8≠bl)
  have TA:=o9.aK Fj (by omega:b9≠bl)
  have aeF:=o9.aK TD (by omega:Wf≠bl)
  have v9:cV D h9 u (bv (bQ d.aH 1)):=v8.fr o9.fr (λx hx _ e=>dn (e ▸ hx)) λ_ x=>x;refine fQ.b aeF (an TA rfl (aP ag ag (an TA rfl (Zr v9.1 ag e1 (m:=f.w.toNat) ag ag λu7 g10 => ?_))));have Tu:Lc u7 bl (L - ((f.val d i).aV:Int)):=by
   have:=kl9.aj g10
   rwa [show L - 16 - f.w=L - ((f.val d i).aV:Int) by omega] at this
  rw[hv] at hk Tu;exact hk.fin (T9.trans (Tn.aT g10)) Tu (aeD.aj g10) rfl ag V7 (au.nil _)
 ·simp only[sm,reduceCtorEq] at c c2;have hv:f.val d i=.mk false (sM f.k (bQ d.aH 1) i) [] []:=by
   rw[El,kV,if_neg (by rw[xT];simp),if_neg ag,if_neg ag,if_neg ag,if_neg ag,if_neg ag,if_neg ag,if_neg ag,if_neg c,if_neg c2]
  have Fl:ji f.k f.w f.ix=cl f.k:=by rw[ji,if_neg ag,if_neg ag]
  rw[if_neg ag,if_neg ag,Fl] at n1;have TQ:(i+1)*(cl f.k).toNat<=(d.off+d.len).toNat*(cl f.k).toNat:=Nat.mul_le_mul_right _ ag;exact adk (V.af T8) ag rfl ag ag ag λh9 g9=>fin _ h9 hv g9
end
theorem iY {h g:Hp} {b o n:Nat} {cs:Array Value} {el:TypeId} {X:Prop} (k:aB h b cs el) (a:aB g b cs el) (x:X):aO h g ⟨b,o,none⟩ n X :=
 ⟨λi _=>by rw[aI,eW a,eW k],x⟩
structure Ls (h6 h:Hp) (b9:Nat) (x:Sl) (vs:List ak):Prop where
 k9:aB h b9 #[.bool false, .int .i64 0, .string (bs []),Sl.v x] bW
 ss:∃ss:List Sl,ss.length=vs.length/\cN h6.size 4 h x (List.zipWith ak.row vs ss) bW/\∀(j:Nat) (v:ak) (t:Sl),vs[j]? = some v->ss[j]? = some t->au (λc=>h6.size<=c/\¬x.at c) h t v.items
theorem Kx {vs:List ak} (j:Nat):bg (vs.take j)=((vs.map ak.aV).take j).sum:=by rw[Am,List.map_take]
section
variable {D:Nat->Prop} {h:Hp} {b bl i m:Nat} {f:ai} {d:aJ} {o n r L:Int} {s:Sl} {q:Sl × Sl × Sl} {K:KV} {Kp:PK}
abbrev KI (K:KV):Value->HP:=λv h'=>∃pE:Bool,∃pz:Int,∃pq:ByteArray,∃xw:Sl,v=(.agg #[(.bool pE),(.int .i64 pz),(.string pq),(Sl.v xw)])/\K pE pz pq xw h'
abbrev CI (t:TypeId) (a:Option Addr) (r:Int) (left:Option Addr) (h:Hp) (K:KV) (Kp:PK):Prop:=cL Tryz.prog (.iface t (.agg #[])) "colonnade/array.read" [.pointer a, .int .i64 r, .pointer left] h (KI K) Kp
theorem ajE {e:TypeId} {gi:FuncId} {a left:Option Addr} {r:Int} {h:Hp} {K:Value->HP} {Kp:PK} (l:nB Tryz.prog e "colonnade/array.read" = some (gi,false)) (k:(uK Tryz.prog e false && fC Tryz.prog gi)=true)
    (j:cr Tryz.prog gi [(.agg #[]),(.pointer a),(.int .i64 r),(.pointer left)] h K Kp):cL Tryz.prog (.iface e (.agg #[])) "colonnade/array.read" [.pointer a, .int .i64 r, .pointer left] h K Kp:=by
  unfold cL;simp only[l,k];exact j
theorem ajh {a left:Option Addr} {r:Int} {h:Hp} {K:KV} {Kp:PK} (c:Dr a r left h K Kp):CI BY a r left h K Kp:=ajE (gi:=al7) aF aF c
end
theorem adq {D:Nat->Prop} {h:Hp} {b i:Nat} {f:ai} {d:aJ} {o n r:Int} {s:Sl} {q:Sl × Sl × Sl} {K:Bool->HP} {Kp:PK} (A:jD D h b f d o n s q) (w:f.arr d) (B:d.off.toNat<=i) (F:i < d.off.toNat+d.len.toNat) (p:r=i) (t:∀v,ah h v->K (fR f.k d.aH i) v):zE (some ⟨b,0,none⟩) r h K Kp:=by
 have a:=w.xh;have E:=a.l0;have C:=a.l1;have o0:=a.o0;have y:=a.o1;have u:iD f.k=true->1<=d.aH.length:=a.row.hv
 by_cases c:(bQ d.aH 0).length=0
 ·exact Sx A p u ag (λe=>absurd c e) ag t
 ·have j:0 < d.aH.length:=by
   rcases Nat.eq_zero_or_pos d.aH.length with z | z
   ·have:bQ d.aH 0=[]:=by unfold bQ;rw[List.eq_nil_of_length_eq_zero z];rfl
    rw[this] at c;exact absurd rfl c
   ·exact z
  have l:=a.need 0 j;have x:=a.vH 0 j;refine Sx A p u ag (λ_ => ?_) ag t
  by_cases g:f.k=18
  ·rw[fD,if_pos g] at l;omega
  ·rw[fD,if_neg g,if_neg ag,if_pos (.inl rfl)] at l;omega
noncomputable def yq:Code:=Tryz.f54.body.getD .skip
noncomputable def Ge:Code:=Tryz.f72.body.getD .skip
def sJ (c:Code) (i:Nat):Oper:=(kY (sub [0] c)).getD i default
def Oz (o:Oper):Call:=match o.op with | .call c=>c | .defer c=>c | _=>default
theorem amh {c0:Addr} {h:Hp} {K:Hp->Prop} (H:K h):∀w,aE w=h->jZ Tryz.prog Jb [.pointer (some c0)] .returning w λu2 a=>u2=.returning/\aY w a/\K (aE a) :=
 ahT (P:=Tryz.prog) (aZ:=[]) (D:=gD Tryz.prog []) (tA _) (fn:=Tryz.f72) (id:=0) (r1:=sJ Ge 0) (r2:=sJ Ge 1) (call:=Oz (sJ Ge 0)) (rest:=sub [1] Ge) (tr:=5) (t2:=2) (caps:=[.pointer (some c0)]) (K:=K) (u:=.returning) (u':=.returning) (rv:=.nilIface)
  Tryz.func72 aF aF aF aF aF aF aF aF aF aF aF (.inl ⟨rfl,rfl,rfl⟩) aF (cast aF H)
def LL:pZ:=[(4,(OT.l [0,1,2,3,4,5] .fin),[0,0,2,1,15,31])]
def JX:List Value:=[(.agg #[(.bool false),(.int .i64 0),(.string (bs [])),(.slice none 0 0)]),(.int .i64 0),(.int .i64 0)]
def Nf (K:Bool->Int->ByteArray->Sl->Int->Int->HP):Value->HP:=λv h=>rU v λvs=>rG (vs.getD 0 undef) λF8=>rB (F8.getD 0 undef) λpE=>rI (F8.getD 1 undef) λpz=>rT (F8.getD 2 undef) λpq=>rS (F8.getD 3 undef) λxw=>rI (vs.getD 1 undef) λr1=>rI (vs.getD 2 undef) λr2=>K pE pz pq xw r1 r2 h
def W1 (a:Option Addr) (i:Int) (a4 a6:Addr) (K:Bool->Int->ByteArray->Sl->Int->Int->HP) (h2:Hp):Prop :=
 aD h2 #[(.int .i64 0)] Y6 λa7 h3 =>
 St h3 a7 (.int .i64 4194304) λh4 =>
 DW a i (some a7) h4 (λZ3 Z2 Z1 Z0 h5 =>
  bV h5 a4 Z3 Z2 Z1 Z0 λh6 =>
  aQ h6 a4 λEy Ew Ev Eu =>
  Ld h6 a7 mI λt12 =>
  Wr .i64 ((4194304:Int) - t12) λt13 =>
  bV h6 a4 Ey Ew Ev Eu λh7 =>
  aO h6 h7 a7 1 <|
  St h7 a6 (.int .i64 0) λh8 =>
  aQ h8 a4 λpE pz pq xw =>
  Ld h8 a6 mI λr2 =>
  K pE pz pq xw t13 r2 h8) (λ_ _=>False)
abbrev DX (ord:pZ) (fn:Func) (c2:Code) (zs:List Value) (Kv:Value->HP) (o:Operand) (fr:Fr) (h:Hp):Prop :=
 ∃(caps:List Value) (Xf:List PanicEntry->Hp->Prop),eV (ev fr) [o]=some caps/\c8 Tryz.prog [] (gD Tryz.prog ord) none c2 (iT Tryz.prog fn.results.toList zs Kv) Xf fr h /\
  (∀w,jZ Tryz.prog Jb caps .returning w λu' w'=>u'=.returning/\aY w w'/\aE w'=aE w) /\
  (∀ch w,Xf ch (aE w)->jZ Tryz.prog Jb caps (.panicking ch) w λu' w'=>settle u'=.returning/\aY w w'/\gS Tryz.prog fn.results.toList (xO [] fr) (aE w') λvs=>jI zs (iC vs) λv=>Kv v (aE w'))
theorem DX.of {c:pZ} {e:Func} {c2:Code} {zs:List Value} {g:Value->HP} {o:Operand} {fr:Fr} {h:Hp} {a:Addr} (t:eV (ev fr) [o]=some [.pointer (some a)]) (k:c8 Tryz.prog [] (gD Tryz.prog c) none c2 (iT Tryz.prog e.results.toList zs g) (λ_ _=>False) fr h):DX c e c2 zs g o fr h :=
 ⟨_,λ_ _=>False,t,k,λw=>amh (K:=λb=>b=aE w) rfl w rfl,λ_ _ q=>q.elim⟩
def Ur (a:Option Addr) (i:Int) (a4 a6:Addr):Fr:=[some (.pointer a),some (.int .i64 i),none,none,some (.pointer (some a4)),some (.int .i64 0),some (.pointer (some a6)),none,none,none,none,none,none,none]
theorem CW.of {a:Option Addr} {i:Int} {h:Hp} {K:Bool->Int->ByteArray->Sl->Int->Int->HP} {Kp:PK} (H:aD h dO bW λe q=>aD q #[(.int .i64 0)] BW λc k=>W1 a i e c K k):CW a i h K Kp:=by
 have:=agM (P:=Tryz.prog) (aZ:=[]) (D:=gD Tryz.prog LL) (tA _) (f:=I64) (g:=Jb) (fn:=Tryz.f54) (pre:=[sub [0] yq]) (c2:=sub [1,1] yq) (id:=1) (o:=sJ (sub [1] yq) 0) (call:=Oz (sJ (sub [1] yq) 0)) []
  (zs:=JX) (args:=[(.pointer a),(.int .i64 i)]) (h:=h) (Kv:=Nf K) (Kp:=Kp) Tryz.func54 aF aF aF aF aF aF aF aF ?_
 ·exact cast aF this
 ·have X:∀e c h,W1 a i e c K h->DX LL Tryz.f54 (sub [1,1] yq) JX (Nf K) (.tmp 6) (Ur a i e c) h:=λe c h b=>DX.of (a:=c) aF (cast aF b);have Y:aD h dO bW λe q=>aD q #[(.int .i64 0)] BW λc k=>DX LL Tryz.f54 (sub [1,1] yq) JX (Nf K) (.tmp 6) (Ur a i e c) k:=X _ _ _ H;exact cast aF Y
structure Av (D:Nat->Prop) (h:Hp) (b:Nat) (f:ai) (d:aJ) (o n:Nat) (s:Sl) (q:Sl × Sl × Sl):Prop where
 A:jD D h b f d o n s q
 ar:f.arr d
 lo:d.off.toNat<=o
 hi:o+n<=d.off.toNat+d.len.toNat
def fV (f:ai) (d:aJ) (o n:Nat):List ak:=(List.range n).map λi=>f.val d (o+i)
theorem GH (f:ai) (d:aJ) (o n:Nat):(fV f d o n).length=n:=by simp[fV]
theorem Wg {f:ai} {d:aJ} {o n i:Nat} (h:i < n):(fV f d o n)[i]? = some (f.val d (o+i)):=by simp[fV,h]
theorem Wh {f:ai} {d:aJ} (a:f.arr d) {o n:Nat} (c:d.off.toNat<=o) (g:o+n<=d.off.toNat+d.len.toNat):bg (fV f d o n)<=4194304:=by
 have w:=(ai.OU.1 a).wt;rw[<-ai.oW] at w;have e:bg (fV f d o n)=(((uy f.val d).drop (o - d.off.toNat)).take n).sum:=by
  rw[Yy ag,Am,fV,List.map_map]
  congr 1
  refine List.map_congr_left λi _ => ?_;simp only[Function.comp,lp];rw[show d.off.toNat+(o - d.off.toNat+i)=o+i by omega]
 rw[e];exact Nat.le_trans (QO _ _) w
section
variable {D:Nat->Prop} {h:Hp} {b:Nat} {f:ai} {d:aJ} {o n:Nat} {s:Sl} {q:Sl × Sl × Sl} {Kp:PK}
theorem Av.gr {H:Hp} (V:Av D h b f d o n s q) (g:ah h H):Av D H b f d o n s q:=⟨V.A.gr g,V.ar,V.lo,V.hi⟩
theorem Av.bd (V:Av D h b f d o n s q):o+n<=4096:=by
 have a:=V.ar.xh;have i:=a.l0;have g:=a.o0;have e:=a.e1;have c:=V.hi;omega
theorem Av.wt (V:Av D h b f d o n s q) {i:Nat} (a:i < n):(f.val d (o+i)).aV<=4194304:=by
 have:=Wh V.ar (o:=o+i) (n:=1) (by have:=V.lo;omega) (by have:=V.hi;omega)
 simpa[fV,bg] using this
theorem fW.b2 (t:fW h):1 < h.size:=Vb ((t.a 0 ag).1)
theorem Av.whole (A:jD D h b f d d.off d.len s q) (c:f.arr d):Av D h b f d d.off.toNat d.len.toNat s q:=by
 have a:=c.xh;refine ⟨?_,c,Nat.le_refl _,Nat.le_refl _⟩;rw[Int.toNat_of_nonneg a.l0,Int.toNat_of_nonneg a.o0];exact A
theorem Av.fr {D' S:Nat->Prop} {g:Hp} (V:Av D h b f d o n s q) (t:Tn S h g) (e:¬S b) (c:∀x,D x->¬S x) (k:∀x,D x->D' x):Av D' g b f d o n s q:=⟨V.A.fr t e c k,V.ar,V.lo,V.hi⟩
theorem Av.lt (V:Av D h b f d o n s q):Av (λx=>D x/\x < h.size) h b f d o n s q:=⟨V.A.lt,V.ar,V.lo,V.hi⟩
theorem agu {x:Int} {i:Nat} {K:Bool->Int->ByteArray->Sl->Int->Int->HP} (M:vT f) (V:Av D h b f d o n s q) (F:fW h) (hx:x=i) (P:i < n) (O:∀t y,ah h y->au (Nw h) y t (f.val d (o+i)).items->K (f.val d (o+i)).aq (f.val d (o+i)).num (bs (f.val d (o+i)).text) t (f.val d (o+i)).aV 0 y) :
  CW (some ⟨b,0,none⟩) x h K Kp:=by
 have bd:=V.bd;have wt:=V.wt P;have ab:=V.A.k.lt;have t2:=F.b2;refine CW.of (az λH h1 e1 G c _=>az λU S e2 C g _=>az λE h3 e3 T m _=>cE m aS rfl λa N m => ?_);have c':=G.1;have b':=C.1;have Z:=c.lt;have Y:=g.lt;have B:ah S a:=aM.aj T N ag;have u:=ah.trans (ah.trans G C) B;have c:aB a H dO bW:=(c.aj C).aj B;have g:=g.aj B;have m:Lc a E 4194304:=m;refine M (i:=o+i) ⟨V.A.lt.gr u,by omega,λe=>by have:=e.2;omega,V.ar,by have:=V.lo;omega,by have:=V.hi;omega,m,by omega,by omega,F.aj u,by omega⟩ ag λt R v j L => ?_
 have W:ah h R:=((Tn.aT u:Tn No h a).trans' v λz r a'=>by omega).aj
 have X:=m.lt;refine bV.b (v.aK c (by omega:H≠E)) rfl λh6 l c=>aQ.b c (an (l.aK j ag) rfl (aP ag ag (bV.b c rfl λh7 p c=>iY (l.aK j ag) (p.aK (l.aK j ag) ag) ?_)))
 have g:=p.aK (l.aK (v.aK g (by omega:U≠E)) ag) ag
 refine cE g aS rfl λQ w g=>aQ.b (w.aK c ag) (an g rfl ?_);have e:(4194304:Int) - (4194304 - ((f.val d (o+i)).aV:Int))=((f.val d (o+i)).aV:Int):=ag;rw[e];refine O t Q (aM.aj (aM.aj (aM.aj W l ag) p ag) w ag) ?_;have J:=au.fr (D':=Nw a) l.fr (λz (r:a.size<=z) _ e=>by omega) (λ_ z=>z) _ L
 have I:=au.fr (D':=Nw a) p.fr (λz (r:a.size<=z) _ e=>by omega) (λ_ z=>z) _ J
 exact au.fr w.fr (λz (r:a.size<=z) _ e=>by omega) (λz (r:a.size<=z)=>by have:=u.1;show h.size<=z;omega) _ I
end
def PM {α:Type} (P:Program) (fv:Value) (xs:List α) (E:α->List Value->Hp->Hp->Prop) (nP:Hp->Prop):Prop :=
 ∀(l:Nat) (J:List α->Hp->Prop) (h:Hp),h.size=l+1->J [] h->(∀pre h1,J pre h1->nP h1)->(∀pre h1 h2,ah h1 h2->J pre h1->J pre h2) ->
  (∀pre x dw hp h1 args,J pre hp->ah hp h1->E x args hp h1->xs=pre++x::dw->pV P l args h1 (λv h2=>v=.bool true/\J (pre++[x]) h2) kN) ->
  nY P fv [.func (.yield l) #[] #[]] h (λ_ h2=>J xs h2) kN
theorem ab3 {P:Program} {aZ:cZ} {D:Nat->Array Oper->(Fr->Hp->Prop)->(List PanicEntry->Hp->Prop)->Fr->Hp->Prop} (hD:∀r,oT P r D) {g:Operand} {ps:Array Tmp} {assign body:Code} {Q:Qt}
  {Kp:List PanicEntry->Hp->Prop} {fr:Fr} {h:Hp} {fv:Value} (oD:ev fr g=some fv) {α:Type} {xs:List α} {E:α->List Value->Hp->Hp->Prop} {nP:Hp->Prop} (pL:PM P fv xs E nP) (NQ:∀x args hp h1,E x args hp h1->args.length=ps.size)
  (I:List α->Hp->Prop) (h0:I [] h) (hG:∀pre h1 h2,ah h1 h2->I pre h1->I pre h2)
  (hI:∀l pre h1 h2,h.size<=l->Tw l h1 h2->I pre h1->I pre h2) (q9:∀pre h1,I pre h1->nP h1)
  (Bs:∀l pre x dw hp h1 args,I pre hp->ah hp h1->E x args hp h1->xs=pre++x::dw->h.size<=l->(∃r,h1[l]? = some (.loop r))->∀(N:Hp->Prop) (X:Code->Hp->Prop),(∀h' h2,Tw l h1 h'->h2[l]? = h'[l]?->I (pre++[x]) h2->N h2) ->
   Ll P aZ D l (aZ.find (eI assign+4000) fr) ps assign body args N X h1)
  (done:∀h2,I xs h2->Q .normal (aZ.find (eI assign+4000) fr) h2):c8 P aZ D none (.rangeFunc g ps assign body) Q Kp fr h:=by
 simp only[c8,oD];intro fn tm oG;simp only[yh];have jq:h.size<=(h.push (.deferred none)).size:=by simp
 have uW:ah h (h.push (.deferred none)):=ah.push _ _;have key:∀(hh:Hp) (d:Nat),ah h hh->nY P fv [.func (.yield hh.size) #[] #[]] (hh.push (.loop { state:=.ready,pending:=none,fn,tmps:=tm,params:=ps,assign,body,defers:=d }))
   (λ_ h'=>tq hh.size h' λjump lN=>match jump with
    | none=>Q .normal (aZ.find (eI assign+4000) fr) lN
    | some .ret=>Q .ret (aZ.find (eI assign+4000) fr) lN
    | some (.exit id)=>Q (.exit id) (aZ.find (eI assign+4000) fr) lN
    | _=>False) Kp:=by
  intro hh d uW;have jq:=uW.1;have NG:(hh.push (.loop { state:=.ready,pending:=none,fn,tmps:=tm,params:=ps,assign,body,defers:=d }))[hh.size]? = some (.loop { state:=.ready,pending:=none,fn,tmps:=tm,params:=ps,assign,body,defers:=d }):=EW rfl
  let ai:Loop->Prop:=λr=>r.tmps=tm/\r.params=ps/\r.assign=assign/\r.body=body
  refine Xu (pL hh.size (λpre h1=>I pre h1/\∃r,h1[hh.size]? = some (.loop r)/\r.state=.ready/\r.pending=none/\ai r) _
   aS ⟨hG _ _ _ (ah.trans uW (ah.push _ _)) h0,_,NG,rfl,rfl,rfl,rfl,rfl,rfl⟩ (λpre h1 hj=>q9 pre h1 hj.1) ?_ ?_) ?_ (λ_ _ hp=>hp.elim)
  ·rintro pre h1 h2 hg ⟨hi,r,hr,Bl⟩;exact ⟨hG _ _ _ hg hi,r,Bx hg hr,Bl⟩
  ·rintro pre x dw hp h1 args ⟨hi,r,Bm,mW,uU,f1,f2,f3,f4⟩ hg hE qX;have hr:=Bx hg Bm;have hb:=Bs hh.size pre x dw hp h1 args hi hg hE qX jq ⟨r,hr⟩
    (λh2=>I (pre++[x]) h2/\∃r2,h2[hh.size]? = some (.loop r2)/\ai r2) (λ_ _=>False) ?_
   ·refine Wv (aZ:=aZ) hD (fr:=aZ.find (eI assign+4000) fr) hr mW (by rw[f2];exact NQ x args hp h1 hE) (by rw[f1];exact oG) (by rw[f2,f3,f4];exact hb) ?_ ?_
    ·rintro h2 ⟨mX,r2,oC,g1,g2,g3,g4⟩;refine ⟨r2,oC,rfl,hI _ _ _ _ jq (sA oC) mX,{ r2 with state:=.ready,pending:=none },?_,rfl,rfl,g1,g2,g3,g4⟩
     rw[Array.getElem?_setIfInBounds];simp[(Array.getElem?_eq_some_iff.1 oC).1]
    ·exact λc h2 q=>q.elim
   ·rintro h' h2 ⟨_,_,r',Q4,R4,q7,qZ⟩ heq mX;rw[hr] at q7;cases q7;exact ⟨mX,_,heq.trans qZ,f1,f2,f3,f4⟩
  ·rintro v h2 ⟨hi,r,hr,mW,uU,_⟩;simp only[tq,hr,mW,uU];exact ⟨by simp,done _ (hI _ _ _ _ jq (sA hr) hi)⟩
 exact key _ _ uW
theorem akV {s:Sl} {p:Addr} {V:Value} {K:Sl->HP} {Kp:PK} {h:Hp} {α:Type} {u:List α} (E:α->Int->Bool->Int->ByteArray->Sl->Hp->Hp->Prop) {q:Hp->Prop} (x:PM Tryz.prog V u (λy d m b=>∃k j i f e,d=[(.int .i64 k),(.agg #[(.bool j),(.int .i64 i),(.string f),(Sl.v e)])]/\E y k j i f e m b) q) (I:List α->Hp->Prop) (G:I [] h)
  (F:∀a b c,ah b c->I a b->I a c) (C:∀l a b c,h.size<=l->Tw l b c->I a b->I a c) (t:∀a b,I a b->q b)
  (o:∀l a y n m b k j i f e,I a m->ah m b->E y k j i f e m b->u=a++y::n->h.size<=l->(∃r,b[l]? = some (.loop r))->∀(N:Hp->Prop) (X:Code->Hp->Prop),(∀A c,Tw l b A->c[l]? = A[l]?->I (a++[y]) c->N c)->W3 l N X s p V k j i f e b)
  (done:∀c,I u c->W6 K Kp s p V c):W8 K Kp s p V h :=
 Eq.mp aF (ab3 (P:=Tryz.prog) (aZ:=OW) (D:=(gD Tryz.prog LM)) (λ_=>tA _) (g:=.tmp 7) (ps:=#[8,9]) (assign:=sub [1,1,0,1,0,0] Ov) (body:=sub [1,1,0,1,0,1] Ov) (Q:=nI Tryz.prog OW (gD Tryz.prog LM) none Kp [1,1,0,1,0] Ov [] (iT Tryz.prog Tryz.f26.results.toList JY (aev K))) (Kp:=Kp) (fr:=([nO,nO,vS s,vP p,nO,nO,nO,some V]++nn 9)) (h:=h) (fv:=V) aF
  x (λ_ _ _ _ w=>by obtain ⟨_,_,_,_,_,rfl,_⟩:=w;rfl) I G F C t
  (by
   intro l a y n m b d M z w e1 L J N X hN;obtain ⟨k,j,i,f,e,rfl,H⟩:=w;exact Eq.mp aF (o l a y n m b k j i f e M z H e1 L J N X hN))
  (λc B=>Eq.mp aF (done c B)))
theorem ajo {h:Hp} {a:Addr} {v:Value} {l:Nat} {r:Loop} (c:cell h a=some v) (hl:h[l]? = some (.loop r)):a.block≠l:=by
 intro e;unfold Go.Sh.cell at c;rw[e,hl] at c;simp at c
section
variable {D:Nat->Prop} {h h':Hp} {l:Nat} {r:Loop}
theorem VA.nlb (hl:h[l]? = some (.loop r)) {a:Addr} {v:ak} (b:VA D h a v):a.block≠l:=by
 obtain ⟨s,c,_⟩:=b.row;exact ajo (Cs.c0 c) hl
mutual
theorem au.nl (hl:h[l]? = some (.loop r)):∀{s:Sl} (vs:List ak),au D h s vs->au (λb=>D b/\b≠l) h s vs
  | _,[],hh=>by unfold au at hh ⊢;exact hh
  | _,v::vs,hh=>by
    unfold au at hh ⊢
    obtain ⟨a,b,p,e,q,x,y⟩:=hh
    exact ⟨a,b,p,e,⟨q,x.nlb hl⟩,VA.nl hl v x,eN.nl hl vs y⟩
theorem eN.nl (hl:h[l]? = some (.loop r)):∀{a:Addr} {i:Nat} (vs:List ak),eN D h a i vs->eN (λb=>D b/\b≠l) h a i vs
 | _,_,[],_=>by unfold eN;trivial
 | _,i,v::vs,hh=>by unfold eN at hh ⊢;exact ⟨VA.nl hl v hh.1,eN.nl hl vs hh.2⟩
theorem VA.nl (hl:h[l]? = some (.loop r)):∀{a:Addr} (v:ak),VA D h a v->VA (λb=>D b/\b≠l) h a v
  | _, .mk n x t vs,hh=>by
    unfold VA at hh ⊢
    obtain ⟨s,hc,h1⟩:=hh
    exact ⟨s,hc,au.nl hl vs h1⟩
end
theorem au.tw (t:Tw l h h') {s:Sl} {vs:List ak} (v:au D h s vs):au D h' s vs:=by
 obtain ⟨r,_,_,c,_⟩:=t.2.2;exact au.fr t.only.fr (λb a _ e=>a.2 e) (λb a=>a.1) _ (au.nl c _ v)
end
structure Lv (h0 h:Hp) (x:Sl) (vs:List ak):Prop where
 ss:∃ss:List Sl,ss.length=vs.length/\cN h0.size 4 h x (List.zipWith ak.row vs ss) bW/\∀(j:Nat) (v:ak) (t:Sl),vs[j]? = some v->ss[j]? = some t->au (λc=>h0.size<=c/\¬x.at c) h t v.items
theorem Lv.gr {H h h':Hp} {x:Sl} {vs:List ak} (v:Lv H h x vs) (g:ah h h'):Lv H h' x vs:=by
 obtain ⟨a,d,c,b⟩:=v;exact ⟨a,d,c.aj g,λj v t e1 e=>(b j v t e1 e).gr g⟩
theorem Lv.tw {g h h':Hp} {s:Sl} {vs:List ak} {l:Nat} (v:Lv g h s vs) (t:Tw l h h'):Lv g h' s vs:=by
 obtain ⟨b,d,a,c⟩:=v;exact ⟨b,d,⟨a.len,a.n,(a.sh.tw t).wide (Nat.le_refl _) (Nat.le_of_eq t.1.symm)⟩,λj v u e1 e=>au.tw t (c j v u e1 e)⟩
theorem Lv.at {g h:Hp} {x:Sl} {vs:List ak} (v:Lv g h x vs) {c:Nat} (q:x.at c):g.size<=c/\c < h.size:=by
 obtain ⟨b,e,a,d⟩:=v;exact a.at q
theorem Lv.n {g h:Hp} {x:Sl} {vs:List ak} (v:Lv g h x vs):x.n=vs.length:=by
 obtain ⟨c,b,a,d⟩:=v;have:=a.n;rw[List.length_zipWith,b,Nat.min_self] at this;exact this
abbrev Wo (a1:Nat):Value:=.func (.func PT) #[] #[.pointer (some ⟨a1,0,none⟩)]
abbrev EV (v:ak) (_:Int) (y1:Bool) (y2:Int) (y3:ByteArray) (y4:Sl) (hp h1:Hp):Prop:=y1=v.aq/\y2=v.num/\y3=bs v.text/\au (Nw hp) h1 y4 v.items
theorem YO {D:Nat->Prop} {g:Hp} {b m b3:Nat} {f:ai} {d:aJ} {o n:Nat} {s:Sl} {q:Sl × Sl × Sl} (ow:vT f) (V:Av D g b f d o n s q) (tb:fW g) (k1:aB g m #[.pointer (some ⟨b,0,none⟩)] O4) (a:¬D b3/\b≠b3/\m≠b3/\1 < b3) :
  PM Tryz.prog (Wo m) (fV f d o n) (λv E hp L=>∃X W U T S,E=[(.int .i64 X),(.agg #[(.bool W),(.int .i64 U),(.string T),(Sl.v S)])]/\EV v X W U T S hp L) (λh=>Tn (·=b3) g h):=by
 intro lb J h b' C u hG Y;have bd:=V.bd;have R:fC Tryz.prog PT=true:=by kernel_rfl
 unfold nY Wo;simp only[R,List.nil_append,List.cons_append];refine cr.mono (PY.of (K:=λI=>J (fV f d o n) I) (Kp:=kN) ?_) (λ_ _ H=>H.2) (λ_ _ H=>H);have t0:=u _ _ C;have fr:∀{h':Hp},Tn (·=b3) g h'->Av D h' b f d o n s q/\aB h' m #[.pointer (some ⟨b,0,none⟩)] O4/\fW h':=λt =>
  ⟨V.fr t a.2.1 (λz hz e=>a.1 (e ▸ hz)) λ_ z=>z,t.aK k1 a.2.2.1,tb.fr t (by have:=a.2.2.2;omega) (by have:=a.2.2.2;omega)⟩
 refine an (fr t0).2.1 rfl ?_;simp only[kO,aI];refine an (fr t0).1.A.k rfl ?_;have a':=Wh V.ar V.lo V.hi;have w:∀j,bg ((fV f d o n).take j)<=bg (fV f d o n):=λj=>by rw[Kx,Am];have:=QO (l:=(fV f d o n).map ak.aV) 0 j;simpa using this
 refine Ia.bB (λZ p h'=>∃i:Nat,p=i/\i<=n/\Z=4194304 - (bg ((fV f d o n).take i):Nat)/\J ((fV f d o n).take i) h') (λ_ p _=>n - p.toNat) ⟨0,rfl,by omega,by simp[bg],by simpa using C⟩ ?_
 rintro Z p L ⟨i,rfl,hi,rfl,F⟩ N1 hN;obtain ⟨V1,N,M⟩:=fr (u _ _ F);refine aA (λc => ?_) λc => ?_
 ·have c:=ay c;have B:i < n:=ag;have x:=Wg (f:=f) (d:=d) (o:=o) B;have P:((fV f d o n).map ak.aV)[i]? = some (f.val d (o+i)).aV:=by simp[x]
  have Q:=Z8 P;rw[<-Kx,<-Kx] at Q;have c':=w (i+1);have y:(fV f d o n).take (i+1)=(fV f d o n).take i++[f.val d (o+i)]:=by rw[List.take_add_one,x];rfl
  have O:fV f d o n=(fV f d o n).take i++f.val d (o+i)::(fV f d o n).drop (i+1):=by
   conv=>lhs;rw[<-List.take_append_drop (i+1) (fV f d o n),y]
   simp
  refine an N rfl (agu ow V1 M rfl B λt I g2 w2=>az λb5 h3 e5 g3 G _=>bV.b G rfl λh4 o4 G=>aP ag ag (aR rfl ?_));have g4:ah I h4:=aM.aj g3 o4 ag;have e0:decide ((4194304:Int) - (bg ((fV f d o n).take i):Nat) - ((f.val d (o+i)).aV:Int) < 0)=false:=by rw[decide_eq_false_iff_not];omega
  rw[e0];refine CR.of (aR rfl (aQ.b G ?_));unfold bJ;simp only[List.nil_append];refine pV.mono (Y ((fV f d o n).take i) (f.val d (o+i)) _ L h4 _ F (ah.trans g2 g4) ⟨_,_,_,_,_,rfl,rfl,rfl,rfl,w2.gr g4⟩ O) (λv h5 hv => ?_) (λ_ _ q=>q);obtain ⟨rfl,j5⟩:=hv;refine ⟨true,rfl,aR rfl (aP ag ag (hN _ _ _ ⟨i+1,by omega,by omega,by omega,by rw[y];exact j5⟩ ag))⟩
 ·have c:=ay c;obtain rfl:i=n:=ag;rw[List.take_of_length_le (by rw[GH];omega)] at F
  exact F
theorem WL {D:Nat->Prop} {h:Hp} {b:Nat} {f:ai} {O:aJ} {m n:Nat} {s:Sl} {q:Sl × Sl × Sl} {K:Sl->HP} {Kp:PK} (ow:vT f) (V:Av D h b f O m n s q) (tb:fW h) (hk:∀t h',ah h h'->au (Nw h) h' t (fV f O m n)->K t h'):Ae (some ⟨b,0,none⟩) h K Kp:=by
 have ab:=V.A.k.lt;have t2:=tb.b2;have bd:=V.bd;refine Ae.of (az λb3 F e3 g1 k3 s3=>Jd.of (az λa1 p e1 g2 k1 s1 => ?_));have G:=ah.trans g1 g2;have k3:=k3.aj g2;have Ng:=k3.lt;have Gs:=G.1;refine akV EV (YO ow (V.lt.gr G) (tb.aj G) k1 (b3:=b3) ⟨λe=>by have:=e.2;omega,by omega,by omega,by omega⟩) (λi F=>Tn (·=b3) p F/\∃x,aB F b3 #[Sl.v x] yB/\Lv p F x i)
  ⟨Tn.refl _ _,Sl.nil,k3,⟨[],rfl,cN.nil _ _ _ _,by simp⟩⟩ ?_ ?_ (λi F hi=>hi.1) ?_ ?_
 ·rintro i F h2 g ⟨t,x,k,v⟩;exact ⟨t.trans (Tn.aT g),x,k.aj g,v.gr g⟩
 ·rintro l i F h2 hl tw ⟨t,x,k,v⟩;exact ⟨t.trans' tw.only.fr λz hz I=>by omega,x,tw.only.aK k ag,v.tw tw⟩
 ·rintro l i y y' hp F y0 y1 y2 y3 H ⟨tp,x,kp,vp⟩ J ⟨rfl,rfl,rfl,w1⟩ m' hl Q N X hN;have n':l < F.size:=by obtain ⟨r,T⟩:=Q;exact (Array.getElem?_eq_some_iff.1 T).1
  have w':=tp.1;have u':=J.1;have xn:=vp.n;have pl:i.length < n:=by have:=congrArg List.length m';rw[GH] at this;simp at this;omega
  unfold W3;refine az λb5 h2 e5 q' k5 _=>bV.b k5 rfl λh3 o3 k5 => ?_;have B:ah F h3:=aM.aj q' o3 ag;have t':=B.1;refine ⟨B.2 l n',λh4 t4 => ?_⟩;have o4:=t4.only;have s4:h4.size=h3.size:=t4.1;have k5:=o4.aK k5 ag;have c':aB h4 b3 #[Sl.v x] yB:=o4.aK ((kp.aj J).aj B) ag;have v4:=((vp.gr J).gr B).tw t4;have w4:au (Nw hp) h4 H y.items:=au.tw t4 (w1.gr B);obtain ⟨ht,d',e'⟩:=Tw.back B t4 Q;refine an c' rfl (aQ.b k5 (az λb13 h5 e13 M k' _=>bK k5 M (bK c' M ?_)));have g5s:=M.1;obtain ⟨R,q1,q2,q3⟩:=v4;have uO:=q2.sh.uO t4;have Z:∀c,x.at c->p.size<=c/\c < hp.size:=λc U=>vp.at U;have l':(List.zipWith ak.row i R).length=i.length:=by rw[List.length_zipWith,q1,Nat.min_self]
  refine (q2.aj M).ap ag rfl (new:=[[.bool false, .int .i64 0, .string (bs []),Sl.v Sl.nil]]) rfl (λr T=>by simp at T;subst T;rfl) (λr T=>by simp at T;subst T;intro v hv;simp at hv;rcases hv with rfl | rfl | rfl | rfl <;> rfl) (iB k' rfl) ag ag λL h6 f6 j' o6 => ?_
  have f6s:=f6.1;rcases o6.cases with ⟨_,e⟩ | ⟨Y,p',oR⟩
  ·exact absurd e aS
  have f':L.at Y:=⟨⟨Y,0,none⟩,oR.a,rfl⟩;have r':∀c,L.at c->c=Y:=by
   rintro c ⟨a,ha,rfl⟩;rw[oR.a] at ha;cases ha;rfl
  have i':aB h6 b3 #[Sl.v x] yB:=f6.aK (c'.aj M) λU=>by have:=Z _ U;omega
  have E:i.length < (List.zipWith ak.row i R++[[.bool false, .int .i64 0, .string (bs []),Sl.v Sl.nil]]).length:=by simp;omega
  have P:(List.zipWith ak.row i R++[[.bool false, .int .i64 0, .string (bs []),Sl.v Sl.nil]]).set i.length (y.row H)=List.zipWith ak.row (i++[y]) (R++[H]):=by
   rw[List.zipWith_append ag,List.set_append_right _ _ ag,l'];simp
  have z':Y≠l:=λe=>by
   rcases j' _ f' with z | z
   ·exact uO (e ▸ z)
   ·omega
  have l6:h6[l]? = h4[l]? := (f6.2 l ag uO).trans (M.2 l ag)
  -- x' end of v' ways
  have fin:∀C,iH 4 C L Y (List.zipWith ak.row (i++[y]) (R++[H])) bW->aB C b3 #[Sl.v L] yB->Tn (λc=>c=Y\/c=b3) h6 C->N C:=by
   intro C w a' t8;refine hN ht C d' ?_ ⟨?_,L,a',⟨R++[H],by simp[q1],⟨w.len,w.n, .inr ⟨Y,p',w.lt,w.own⟩⟩,λj v u e1 W => ?_⟩⟩
   ·rw[t8.2 l ag ag,l6];exact e'
   ·refine (((((tp.trans (Tn.aT J)).trans (Tn.aT B)).trans' o4.fr λz hz I=>by omega).trans (Tn.aT M)).trans' f6 λz hz I=>by have:=Z z hz;omega).trans' t8 λz hz I => ?_
    rcases hz with rfl | rfl
    ·omega
    ·rfl
   ·have new:∀{u:Sl} {ws:List ak},au (λc=>p.size<=c/\¬x.at c) h4 u ws->au (λc=>p.size<=c/\¬L.at c) C u ws:=λ{u ws} z=>by
     have z1:=au.fr (S:=No) (D':=λc=>(p.size<=c/\¬x.at c)/\c < h4.size) (Tn.aT M) (λ_ _ _=>id) (λ_ q=>q) _ (au.lt _ z);have z2:=au.fr (D':=λc=>p.size<=c/\¬L.at c) f6 (λb p _ q=>p.1.2 q) (λb p=>⟨p.1.1,λq=>by
      rcases j' b q with q | q
      ·exact p.1.2 q
      ·have:=p.2;omega⟩) _ z1
     exact au.fr t8 (λb p _ e=>by
      rcases e with rfl | rfl
      ·exact p.2 f'
      ·have:=p.1;omega) (λ_ q=>q) _ z2
    by_cases hj:j < i.length
    ·rw[List.getElem?_append_left hj] at e1;rw[List.getElem?_append_left ag] at W;exact new (q3 j v u e1 W)
    ·have o':=(List.getElem?_eq_some_iff.1 e1).1;simp only[List.length_append,List.length_singleton] at o';obtain rfl:j=i.length:=ag;rw[List.getElem?_append_right (Nat.le_refl _)] at e1;rw[<-q1,List.getElem?_append_right (Nat.le_refl _)] at W;simp at e1 W;subst e1 W;exact new (w4.mo λc (U:hp.size<=c)=>⟨by omega,λq=>by have:=Z c q;omega⟩)
  refine oR.ix ag E ⟨bV.l (oR.set E (r:=y.row H) rfl (wY y H) λh7 o7 g' => ?_),?_⟩
  ·rw[P] at g';refine cE (o7.aK i' ag) aS rfl λC o8 a'=>fin C (g'.fr o8.fr ag) (by simpa using a') ((o7.fr.mono λ_ z _=>.inl z).trans (o8.fr.mono λ_ z _=>.inr z))
  ·refine cE i' aS rfl λh7 o7 b'=>bV.l ((oR.fr o7.fr ag).set E (r:=y.row H) rfl (wY y H) λC o8 w => ?_);rw[P] at w;have b':aB h7 b3 #[Sl.v L] yB:=by simpa using b'
   exact fin C w (o8.aK b' ag) ((o7.fr.mono λ_ z _=>.inr z).trans (o8.fr.mono λ_ z _=>.inl z))
 ·rintro h2 ⟨t,x,k,R,q1,q2,q3⟩;unfold W6;exact an k rfl (hk x h2 (((Tn.aT G:Tn No h p).trans' t λz hz I=>by omega).aj) (au.snoc q2 q1 (λc U=>by show h.size<=c;omega) λj v u e1 W=>(q3 j v u e1 W).mo λc U=>by have:=U.1;show h.size<=c;omega))
abbrev Or (T:Nat->Prop) (h:Hp):Nat->Prop:=λc=>T c\/h.size<=c
def Os (T:Nat->Prop) (h:Hp) (s:Sl) (vs:List Value) (el:TypeId):Prop:=s=Sl.nil/\vs=[]\/∃b,T b/\dX h s b vs el
section
variable {T T' S:Nat->Prop} {h h':Hp} {s s0:Sl} {vs l0:List Value} {el:TypeId}
theorem Os.nil:Os T h Sl.nil [] el:=.inl ⟨rfl,rfl⟩
theorem Os.fr (o:Os T h s vs el) (f:Tn S h h') (e:∀c,T c->c < h.size->¬S c):Os T h' s vs el :=
 o.imp id λ⟨b,t,o⟩=>⟨b,t,o.fr f (e b t o.lt)⟩
theorem Os.mono (o:Os T h s vs el) (hT:∀c,T c->T' c):Os T' h s vs el:=o.imp id λ⟨b,t,o⟩=>⟨b,hT b t,o⟩
theorem Os.gr (o:Os T h s vs el) (g:ah h h'):Os T h' s vs el:=o.imp id λ⟨b,t,o⟩=>⟨b,t,o.aj g⟩
theorem Os.n (o:Os T h s vs el):s.n=vs.length:=by
 rcases o with ⟨rfl,rfl⟩ | ⟨b,_,o⟩
 ·rfl
 ·exact o.2.1
theorem Os.sv (o:Os T h s vs el):Sv h s vs:=by
 rcases o with ⟨rfl,rfl⟩ | ⟨b,_,o⟩
 ·exact Sv.nil h
 ·exact o.sv
theorem Os.at (o:Os T h s vs el) {c:Nat} (q:s.at c):T c/\c < h.size:=by
 obtain ⟨a,d,rfl⟩:=q;rcases o with ⟨rfl,_⟩ | ⟨b,t,o⟩
 ·cases d
 ·have:=o.1;rw[this] at d;cases d;exact ⟨t,o.lt⟩
structure Old (T:Nat->Prop) (h:Hp) (s s0:Sl) (l0:List Value) (el:TypeId):Prop where
 le:s0.n<=s.n
 old:s0=Sl.nil/\l0=[]\/∃b cs,T b/\s0.a=some ⟨b,0,none⟩/\s0.n=l0.length/\aB h b cs el/\s0.n<=s0.c/\cs.size=s0.c/\∀i,i+1 < s0.n->cs[i]? = l0[i]?
theorem Old.of (o:Os T h s vs el):Old T h s s vs el:=by
 refine ⟨Nat.le_refl _,o.imp id ?_⟩;rintro ⟨b,t,g,f,cs,e,d,c,a⟩;exact ⟨b,cs,t,g,f,e,d,c,λi j=>a i ag⟩
theorem Old.fr (o:Old T h s s0 l0 el) (f:Tn S h h') (e:∀c,T c->c < h.size->¬S c):Old T h' s s0 l0 el :=
 ⟨o.le,o.old.imp id λ⟨b,cs,t,i,g,a,d⟩=>⟨b,cs,t,i,g,f.aK a (e b t a.lt),d⟩⟩
theorem Old.mono (o:Old T h s s0 l0 el) (hT:∀c,T c->T' c):Old T' h s s0 l0 el :=
 ⟨o.le,o.old.imp id λ⟨b,cs,t,x⟩=>⟨b,cs,hT b t,x⟩⟩
theorem Os.ap {bytes:Nat} {V:Value} {f:List Value->Prop} {z:Array Value} {K:Sl->HP} (o:Os T h s vs el) (X:z.size=1) (Y:one V=true) (J:f [V])
  (D:(s.n+1+(s.n+1) / 4+192)*bytes<=2 ^ 48) (Z:s.n+1 < 2 ^ 63)
  (L:∀u h',Tn T h h'->Os (Or T h) h' u (vs++[V]) el->(∀{s0:Sl} {l0:List Value},Old T h s s0 l0 el->Old (Or T h) h' u s0 l0 el)->K u h'):Ap h el z 1 bytes s 1 f K:=by
 have g:∀old:List Value,rd h s.a (s.n*1) old->old=vs->s.c < s.n+1->Ap h el z 1 bytes s 1 f K:=by
  intro old A p k;subst p;have hl:=o.n;refine ⟨[V],J, .inr ⟨k,?_,Z,old,A,?_⟩⟩
  ·have:=nextslicecap_le_wide (need:=s.n+1) (old:=s.c) k;have h7:=Nat.mul_le_mul_right bytes this;omega
  ·intro r B a';refine L _ _ (Tn.aT (ah.push h _)) (.inr ⟨h.size, .inr (Nat.le_refl _),rfl,?_,_,by simp only[aB,Array.getElem?_push_size];rfl,B,?_,λi j => ?_⟩) λq => ?_
   ·simp[hl]
   ·simp[Builtin.zeroCells,hl,X];omega
   ·simp only at j;rw[Array.getElem?_append_left (by simp[<-hl];omega),List.getElem?_toArray]
   ·exact ⟨by have:=q.le;simp only;omega,(((q.fr (S:=No) (Tn.aT (ah.push h _)) λ_ _ _=>id).mono λ_ c=>.inl c).old)⟩
 rcases o with ⟨rfl,rfl⟩ | ⟨b,t,N,h2,cs,w,h4,h5,M⟩
 ·exact g [] rfl rfl (by simp only[Sl.nil];omega)
 ·by_cases k:s.n+1<=s.c
  ·refine ⟨[V],J, .inl ⟨k,?_⟩⟩;rw[N]
   show fI h ((Addr.mk b 0 none).add (s.n*1)) 0 [V] _
   rw[aI];refine rL [V] w cC (by simpa using Y) λh' m I H G F=>L _ h' (I.fr.mono λd hd _=>hd ▸ t) (.inr ⟨b, .inl t,rfl,by simp[h2],m,H,k,by rw[G,h5],λi j => ?_⟩) λq=>⟨?_,?_⟩
   ·rw[F i];simp only at j
    by_cases C:i < s.n
    ·rw[if_neg cC,M i C,List.getElem?_append_left ag]
    ·rw[if_pos cC,List.getElem?_append_right ag]
     congr 1;omega
   ·have:=q.le;simp only;omega
   ·refine q.old.imp id ?_;rintro ⟨y,l,E,W,U,R,Q,P,O⟩
    by_cases e:y=b
    ·subst e;have:l=cs:=by have:=R.symm.trans w;simpa using this
     subst this;refine ⟨y,m, .inl E,W,U,H,Q,by rw[G,P],λi j => ?_⟩
     have:=q.le;rw[F i,if_neg cC,O i j]
    ·exact ⟨y,l, .inl E,W,U,I.aK R e,Q,P,O⟩
  ·refine g vs ?_ rfl ag;rw[N];refine ⟨by omega,λi v j => ?_⟩
   have:i < vs.length:=(List.getElem?_eq_some_iff.1 j).1;rw[aI,Nat.zero_add,eW w,M i ag];exact j
theorem Os.KZ {v:Value} {a:Addr} {K:HP} (o:Os T h s vs el) (D:0 < s.n) (I:∃b,s.a=some ⟨b,0,none⟩/\a=⟨b,s.n - 1,none⟩) (C:one v=true)
  (E:∀h',Tn T h h'->Os T h' s (vs.set (s.n - 1) v) el->(∀{s0:Sl} {l0:List Value},Old T h s s0 l0 el->Old T h' s s0 l0 el)->K h'):St h a v K:=by
 rcases o with ⟨rfl,rfl⟩ | ⟨b,t,o⟩
 ·simp[Sl.nil] at D
 ·obtain ⟨g,l,rfl⟩:=I;have e:g=b:=by have:=l.symm.trans o.1;simpa using this
  subst e;obtain ⟨O,N,cs,r,M,L,J⟩:=o;refine cE r ag C λh' p k=>E h' (p.fr.mono λd H _=>H ▸ t) (.inr ⟨g,t,O,by simp[N],_,k,M,by simp[L],λj F => ?_⟩) λq=>⟨q.le,q.old.imp id ?_⟩
  ·rw[Array.getElem?_setIfInBounds,List.getElem?_set];have:=J j F;split
   ·rename_i e;subst e;rw[if_pos ag,if_pos ag]
   ·exact this
  ·rintro ⟨f,c,m,B,A,z,y,w,u⟩
   by_cases e:f=g
   ·subst e;have:c=cs:=by have:=z.symm.trans r;simpa using this
    subst this;refine ⟨f,_,m,B,A,k,y,by simp[w],λi G => ?_⟩
    have:=q.le;rw[Array.getElem?_setIfInBounds,if_neg ag,u i G]
   ·exact ⟨f,c,m,B,A,p.aK z e,y,w,u⟩
theorem Old.back {a:Addr} {v:Value} {K:HP} (o:Old T h s s0 l0 el) (p:0 < s0.n) (l:l0[s0.n - 1]? = some v) (u:∃b,s0.a=some ⟨b,0,none⟩/\a=⟨b,s0.n - 1,none⟩) (m:one v=true)
  (q:∀h',Tn T h h'->Os T h' s0 l0 el->K h'):St h a v K:=by
 rcases o.old with ⟨rfl,rfl⟩ | ⟨b,cs,t,f,B,A,z,y,w⟩
 ·simp[Sl.nil] at p
 ·obtain ⟨g,c,rfl⟩:=u;have e:g=b:=by have:=c.symm.trans f;simpa using this
  subst e;refine cE A ag m λh' i k=>q h' (i.fr.mono λd r _=>r ▸ t) (.inr ⟨g,t,f,B,_,k,z,by simp[y],λj C => ?_⟩)
  rw[Array.getElem?_setIfInBounds];split
  ·rename_i e;subst e;rw[if_pos ag,l]
  ·exact w j ag
theorem Old.aki (o:Old T h s s0 l0 el) (g:¬0 < s0.n):Os T h s0 l0 el:=by
 rcases o.old with q | ⟨b,cs,t,f,e,d,c,a,k⟩
 ·exact .inl q
 ·exact .inr ⟨b,t,f,e,cs,d,c,a,λi j=>by omega⟩
end
def mw (k:Int) (aq:Bool) (L:List Bool):Bool:=if k=20/\L.length=1 then L.getD 0 false else aq && decide (k≠18)
mutual
def ai.lets:ai->Bool
 | .mk _ aq k _ _ _ cs=>mw k aq (ot cs)
def ot:List ai->List Bool
 | []=>[]
 | f::fs=>f.lets::ot fs
end
def si (k w:Int) (l:Bool) (W:List Nat):Nat :=
 if l then 16 else min 4194305 (if k=14 then 16+w.toNat else if k=16 then 16+w.toNat*W.getD 0 0 else if k=17 then 16+W.sum else if k=18 then 16+W.getD 0 0 else if k=19\/k=20 then W.getD 0 0 else 16)
mutual
def ai.wz:ai->Nat
 | .mk _ aq k w _ _ cs=>si k w (mw k aq (ot cs)) (Ef cs)
def Ef:List ai->List Nat
 | []=>[]
 | f::fs=>f.wz::Ef fs
end
def wV (k w:Int) (l:Bool) (Z:List ak):ak :=
 if l then v0 else if k=14 then .mk false 0 (List.replicate w.toNat 0) [] else if k=16 then .mk false 0 [] (List.replicate w.toNat (Z.getD 0 v0)) else if k=17 then .mk false 0 [] Z
 else if k=18 then .mk false 0 [] [Z.getD 0 v0] else if k=19\/k=20 then Z.getD 0 v0 else .mk false 0 [] []
mutual
def ai.zv:ai->ak
 | .mk _ aq k w _ _ cs=>wV k w (mw k aq (ot cs)) (Eb cs)
def Eb:List ai->List ak
 | []=>[]
 | f::fs=>f.zv::Eb fs
end
def sk:ak:=.mk false 0 [] []
def ai.bO (f:ai):ak:=if f.wz<=4194304 then f.zv else sk
def ai.small (f:ai):Bool:=decide (f.wz<=4194304)
def iU (k n:Int):Bool :=
 if k=6\/k=10\/k=11 then decide (-9223372036854775808<=n) && decide (n<=9223372036854775807) else if 3<=k/\k<=5 then decide (-(2 ^ (8*(cl k).toNat - 1))<=n) && decide (n < 2 ^ (8*(cl k).toNat - 1)) else decide (0<=n) && decide (n < 2 ^ (8*(cl k).toNat))
def m6:List (ak->Bool)->List ak->Bool
 | F::Fs,v::vs=>F v && m6 Fs vs
 | [],[]=>true
 | _,_=>false
def om:ak->Bool:=λ_=>false
def dr (k w:Int) (l:Bool) (F:List (ak->Bool)) (v:ak):Bool :=
 decide (v.items.length<=4096) &&
 (if v.aq then decide (v.num=0) && decide (v.text.length=0) && decide (v.items.length=0) && l
 else if k=19\/k=20 then F.getD 0 om v
 else if k=18 then decide (v.text.length=0) && (decide (0<=v.num) && (decide (v.num < F.length) && (decide (v.items.length=1) && F.getD v.num.toNat om (v.items.getD 0 v0))))
 else if k=15 then decide (v.num=0) && (decide (v.text.length=0) && v.items.all (F.getD 0 om))
 else if k=16 then decide (v.num=0) && (decide (v.text.length=0) && (decide (v.items.length=w.toNat) && v.items.all (F.getD 0 om)))
 else if k=17 then decide (v.num=0) && (decide (v.text.length=0) && m6 F v.items)
 else if k=12\/k=13\/k=14 then decide (v.num=0) && (decide (v.items.length=0) && ((decide (k≠12) || gh v.text) && (decide (k≠14) || decide (v.text.length=w.toNat))))
 else decide (v.text.length=0) && (decide (v.items.length=0) && (if k=2 then decide (v.num=0\/v.num=1) else decide (3<=k/\k<=11) && iU k v.num)))
mutual
def ai.fit:ai->ak->Bool
 | .mk _ aq k w _ _ cs=>dr k w (mw k aq (ot cs)) (fits cs)
def fits:List ai->List (ak->Bool)
 | []=>[]
 | f::fs=>f.fit::fits fs
end
structure Rb where
 rows:Nat
 bu:Nat
 bits:List UInt8
 aW:Nat
 cm:List Nat
 texts:List (List UInt8)
 ends:List Nat
 all:List UInt8
 vals:List ak
inductive Raw
 | mk (b:Rb) (kids:List Raw)
def Raw.b:Raw->Rb | .mk b _=>b
def Raw.kids:Raw->List Raw | .mk _ k=>k
def xu:Rb:=⟨0,0,[],0,[],[],[],[],[]⟩
def r0:Raw:=.mk xu []
def Raw.aC (r:Raw) (i:Nat):Raw:=r.kids.getD i r0
def Raw.cK (r:Raw) (i:Nat) (c:Raw):Raw:=.mk r.b (r.kids.set i c)
def Raw.up (r:Raw) (g:Rb->Rb):Raw:=.mk (g r.b) r.kids
def kX (l:List UInt8) (i:Nat):List UInt8:=l.set (i / 8) (UInt8.ofNat ((l.getD (i / 8) 0).toNat ||| 2 ^ (i % 8)))
def Rb.row (aq:Bool) (b:Rb):Rb :=
 { b with rows:=b.rows+1,bu:=if aq then b.bu+1 else b.bu,bits:=if aq then (if b.rows % 8=0 then b.bits++[0] else b.bits) else kX (if b.rows % 8=0 then b.bits++[0] else b.bits) b.rows }
def bL (x:Int × Raw) (g:Raw->Int × Raw):Int × Raw:=if x.1=0 then g x.2 else x
def cR (aq:Bool) (r:Raw):Int × Raw:=if 4096<=r.b.rows then (3,r) else (0,r.up (Rb.row aq))
def cO (n:Nat) (r:Raw):Int × Raw:=(if 4194304 < r.b.aW+n then 3 else 0,r.up λb=>{ b with aW:=b.aW+n })
def bY (i:Nat) (g:Raw->Int × Raw) (r:Raw):Int × Raw:=((g (r.aC i)).1,r.cK i (g (r.aC i)).2)
def cX:List (Raw->Int × Raw)->Raw->Int × Raw
 | [],r=>(0,r)
 | g::gs,r=>bL (g r) (cX gs)
abbrev B0:=Raw->ak->Int × Raw
abbrev vL:=Raw->Int × Raw
def kW:B0:=λr _=>(0,r)
def iR:vL:=λr=>(0,r)
def cG (r:Raw) (i:Nat):Nat:=(r.aC i).b.aW
def total (r:Raw):Nat:=(r.kids.map λc=>c.b.aW).sum
def pG (ix:Int):Nat:=if ix=3 then 128 else if ix=7 then 256 else 4097
open Classical in
noncomputable def dS (v:ak):List ak->Option Nat
 | []=>none
 | x::xs=>if x=v then some 0 else (dS v xs).map (·+1)
def mT (code:Nat) (g:Raw->Int × Raw) (r:Raw):Int × Raw :=
 bL (cR false r) λr1=>bL (bY code g (r1.up λb=>{ b with all:=b.all++[UInt8.ofNat code],ends:=b.ends++[(r1.aC code).b.rows] })) λr2=>cO (16+(cG r2 code - cG r1 code)) r2
open Classical in
noncomputable def gY (k w ix:Int) (T:List B0) (Z:List vL) (r:Raw) (v:ak):Int × Raw :=
 if k=1 then bL (cR true r) (cO 16)
 else if k=12\/k=13 then bL (cR v.aq r) λr1=>if 65536 < r1.b.all.length+v.text.length then (4,r1) else cO (16+v.text.length) (r1.up λb=>{ b with all:=b.all++v.text,ends:=b.ends++[b.all.length+v.text.length] })
 else if k=15 then bL (cR v.aq r) λr1=>bL (cX (v.items.map λx=>bY 0 λc=>(T.getD 0 kW) c x) r1) λr2=>cO (16+(cG r2 0 - cG r1 0)) (r2.up λb=>{ b with ends:=b.ends++[(r2.aC 0).b.rows] })
 else if k=16 then bL (cR v.aq r) λr1=>bL (cX (if v.aq then List.replicate w.toNat (bY 0 (Z.getD 0 iR)) else v.items.map λx=>bY 0 λc=>(T.getD 0 kW) c x) r1) λr2=>cO (if v.aq then 16 else 16+(cG r2 0 - cG r1 0)) r2
 else if k=17 then bL (cR v.aq r) λr1=>bL (cX ((List.range T.length).map λi=>bY i (if v.aq then Z.getD i iR else λc=>(T.getD i kW) c (v.items.getD i v0))) r1) λr2=>cO (if v.aq then 16 else 16+(total r2 - total r1)) r2
 else if k=18 then mT v.num.toNat (λc=>(T.getD v.num.toNat kW) c (v.items.getD 0 v0)) r
 else if k=19 then bL (cR v.aq r) λr1 =>
  if v.aq then cO 16 (r1.up λb=>{ b with ends:=b.ends++[0] })
  else match dS v r1.b.vals with
   | some i=>cO v.aV (r1.up λb=>{ b with ends:=b.ends++[i] })
   | none=>if pG ix<=r1.b.vals.length then (102,r1) else bL (bY 0 (λc=>(T.getD 0 kW) c v) r1) λr2=>cO v.aV (r2.up λb=>{ b with vals:=b.vals++[v],ends:=b.ends++[b.vals.length] })
 else if k=20 then bL (cR false r) λr1 =>
  if r1.b.vals.getLast? = some v then cO v.aV (r1.up λb=>{ b with ends:=b.ends.dropLast++[b.rows] })
  else bL (bY 0 (λc=>(T.getD 0 kW) c v) r1) λr2=>cO v.aV (r2.up λb=>{ b with ends:=b.ends++[b.rows],vals:=b.vals++[v] })
 else bL (cR v.aq r) λr1=>cO (16+v.text.length) (r1.up λb=>{ b with cm:=b.cm++[(v.num % 2 ^ 64).toNat],texts:=b.texts++[v.text] })
noncomputable def ng (small:Bool) (k w ix:Int) (tk:Raw->Int × Raw) (Z:List vL) (r:Raw):Int × Raw :=
 if small\/¬(16<=k/\k<=20) then tk r
 else if k=16 then bL (cR false r) λr1=>bL (cX (List.replicate w.toNat (bY 0 (Z.getD 0 iR))) r1) λr2=>cO (16+(cG r2 0 - cG r1 0)) r2
 else if k=17 then bL (cR false r) λr1=>bL (cX ((List.range Z.length).map λi=>bY i (Z.getD i iR)) r1) λr2=>cO (16+(total r2 - total r1)) r2
 else if k=18 then mT 0 (Z.getD 0 iR) r
 else if k=19 then bL (cR false r) λr1=>if pG ix<=r1.b.vals.length then (102,r1) else bL (bY 0 (Z.getD 0 iR) r1) λr2=>(3,r2)
 else bL (cR false r) λr1=>bL (bY 0 (Z.getD 0 iR) r1) λr2=>(3,r2)
mutual
noncomputable def ai.tk:ai->B0
 | .mk _ _ k w _ ix cs=>gY k w ix (At cs) (wW cs)
noncomputable def At:List ai->List B0
 | []=>[]
 | f::fs=>f.tk::At fs
noncomputable def ai.zk:ai->vL
 | .mk nm aq k w id ix cs=>ng (ai.small (.mk nm aq k w id ix cs)) k w ix (λr=>gY k w ix (At cs) (wW cs) r (ai.bO (.mk nm aq k w id ix cs))) (wW cs)
noncomputable def wW:List ai->List vL
 | []=>[]
 | f::fs=>f.zk::wW fs
end
def jN (x n:Nat):List UInt8:=(List.range n).map λi=>UInt8.ofNat (x / 2 ^ (8*i))
def laidB (l:List Nat) (n:Nat):List UInt8:=l.flatMap λx=>jN x n
def bZ (b:Rb):List UInt8:=if b.bu=0 then [] else b.bits
def oM (l:List Nat):List UInt8:=l.zipIdx.foldl (λb x=>if x.1 % 2=1 then kX b x.2 else b) (List.replicate ((l.length+7) / 8) 0)
def ju (w:Nat) (l:List (List UInt8)):List UInt8:=l.flatMap λt=>if t=[] then List.replicate w 0 else t
def wB (k:Int):Nat:=if k=3\/k=7 then 1 else if k=4\/k=8 then 2 else if k=5\/k=9 then 4 else 8
def iX (k w ix:Int) (D:List (Raw->aJ)) (r:Raw):aJ :=
 if k=1 then .mk r.b.rows 0 r.b.bu [] [] []
 else if k=12\/k=13 then .mk r.b.rows 0 r.b.bu [bZ r.b,laidB r.b.ends 4,r.b.all] [] []
 else if k=15 then .mk r.b.rows 0 r.b.bu [bZ r.b,laidB r.b.ends 4] ((List.range D.length).map λi=>(D.getD i λ_=>oJ) (r.aC i)) []
 else if k=16\/k=17 then .mk r.b.rows 0 r.b.bu [bZ r.b] ((List.range D.length).map λi=>(D.getD i λ_=>oJ) (r.aC i)) []
 else if k=18 then .mk r.b.rows 0 r.b.bu [r.b.all,laidB r.b.ends 4] ((List.range D.length).map λi=>(D.getD i λ_=>oJ) (r.aC i)) []
 else if k=19 then .mk r.b.rows 0 r.b.bu [bZ r.b,laidB r.b.ends (wB ix)] [] ((List.range D.length).map λi=>(D.getD i λ_=>oJ) (r.aC i))
 else if k=20 then .mk r.b.rows 0 0 [] (.mk r.b.ends.length 0 0 [[],laidB r.b.ends 4] [] []::(List.range D.length).map λi=>(D.getD i λ_=>oJ) (r.aC i)) []
 else if k=2 then .mk r.b.rows 0 r.b.bu [bZ r.b,oM r.b.cm] [] []
 else if k=14 then .mk r.b.rows 0 r.b.bu [bZ r.b,ju w.toNat r.b.texts] [] []
 else .mk r.b.rows 0 r.b.bu [bZ r.b,laidB r.b.cm (wB k)] [] []
mutual
def ai.dn:ai->Raw->aJ
 | .mk _ _ k w _ ix cs=>iX k w ix (F1 cs)
def F1:List ai->List (Raw->aJ)
 | []=>[]
 | f::fs=>f.dn::F1 fs
end
mutual
def ai.begun:ai->Raw
 | .mk _ _ k _ _ _ cs=>.mk { xu with ends:=if k=12\/k=13\/k=15 then [0] else [] } (GD cs)
def GD:List ai->List Raw
 | []=>[]
 | f::fs=>f.begun::GD fs
end
theorem acS {m i:Nat} (a:m < 256) (b:i < 8):m ||| 2 ^ i < 256 :=
 Nat.or_lt_two_pow (n:=8) a (Nat.pow_lt_pow_right aL b)
theorem xj (l:List UInt8) (i:Nat):(kX l i).length=l.length:=by simp[kX]
theorem V8 (l:List UInt8) (r:Nat):dQ l r=(l.getD (r / 8) 0).toNat.testBit (r % 8):=by
 unfold dQ;rw[Nat.testBit_eq_decide_div_mod_eq];cases h:decide ((l.getD (r / 8) 0).toNat / 2 ^ (r % 8) % 2=1) <;> simp_all
theorem Rk {l:List UInt8} {i:Nat} (h:i / 8 < l.length) (j:Nat):dQ (kX l i) j=(decide (j=i) || dQ l j):=by
 rw[V8,V8];unfold kX
 by_cases e:j / 8=i / 8
 ·have e1:(l.set (i / 8) (UInt8.ofNat ((l.getD (i / 8) 0).toNat ||| 2 ^ (i % 8)))).getD (j / 8) 0=UInt8.ofNat ((l.getD (i / 8) 0).toNat ||| 2 ^ (i % 8)):=by
   rw[List.getD_eq_getElem?_getD,e,List.getElem?_set_self h];rfl
  rw[e1,UInt8.toNat_ofNat',Nat.mod_eq_of_lt (acS ((l.getD (i / 8) 0).toNat_lt) (Nat.mod_lt _ aL)),Nat.testBit_or,e,Nat.testBit_two_pow];have:(i % 8=j % 8)↔(j=i):=ag;simp only[this];rw[Bool.or_comm]
 ·have e1:(l.set (i / 8) (UInt8.ofNat ((l.getD (i / 8) 0).toNat ||| 2 ^ (i % 8)))).getD (j / 8) 0=l.getD (j / 8) 0:=by
   rw[List.getD_eq_getElem?_getD,List.getElem?_set_ne ag,<-List.getD_eq_getElem?_getD]
  rw[e1];have:¬j=i:=by intro q;subst q;exact e rfl
  simp[this]
theorem aj3 (l m:List UInt8) {j:Nat} (h:j / 8 < l.length):dQ (l++m) j=dQ l j:=by
 unfold dQ;rw[List.getD_eq_getElem?_getD,List.getElem?_append_left h,<-List.getD_eq_getElem?_getD]
theorem aj2 (l:List UInt8) {j:Nat} (h:l.length<=j / 8):dQ (l++[0]) j=false:=by
 unfold dQ;have:(l++[0]).getD (j / 8) 0=0:=by
  rw[List.getD_eq_getElem?_getD,List.getElem?_append_right h];rcases a:j / 8 - l.length with _ | k <;> simp[a]
 rw[this];simp
def uM (n:Nat) (x:Bool) (b:List UInt8):List UInt8:=if x then kX (if n % 8=0 then b++[0] else b) n else (if n % 8=0 then b++[0] else b)
def jM:List Bool->List UInt8
 | []=>[]
 | x::xs=>uM xs.length x (jM xs)
def nx (l:List Bool):List UInt8:=jM l.reverse
theorem acC (l:List Bool) (x:Bool):nx (l++[x])=uM l.length x (nx l):=by simp[nx,jM]
theorem LI:∀l:List Bool,(jM l).length=(l.length+7) / 8
  | []=>rfl
  | x::a=>by
    unfold jM uM;split <;> split <;> simp only[xj,List.length_append,List.length_cons,List.length_nil,(LI a)] <;> omega
theorem R7 (l:List Bool):(nx l).length=(l.length+7) / 8:=by rw[nx,LI,List.length_reverse]
theorem R6:∀(l:List Bool) (i:Nat),dQ (jM l) i=(decide (i < l.length) && l.getD (l.length - 1 - i) false)
  | [],i=>by simp[jM,dQ]
  | x::a,i=>by
    have f:=R6 a i;have hl:=LI a;have base:dQ (if a.length % 8=0 then jM a++[0] else jM a) i=dQ (jM a) i:=by
      split
      · by_cases h:i / 8 < (jM a).length
        · exact aj3 _ _ h
        · rw[aj2 _ ag,f];have:¬i < a.length:=ag;simp[this]
      · rfl
    have d:a.length / 8 < (if a.length % 8=0 then jM a++[0] else jM a).length:=by
      split <;> simp only[List.length_append,List.length_cons,List.length_nil,hl] <;> omega
    have key:dQ (jM (x::a)) i=((decide (i=a.length) && x) || dQ (jM a) i):=by
      rw[show jM (x::a)=uM a.length x (jM a) from rfl];unfold uM;cases x
      · simp only[Bool.false_eq_true,if_false,base,Bool.and_false,Bool.false_or]
      · simp only[if_true,Rk d,base,Bool.and_true]
    rw[key,f];simp only[List.length_cons]
    by_cases c:i=a.length
    · subst c;simp
    · by_cases g:i < a.length
      · have e:a.length - i=(a.length - 1 - i)+1:=ag;have b:i < a.length+1:=ag;simp[c,g,b,e]
      · have b:¬i < a.length+1:=ag;simp[c,g,b]
theorem acD (l:List Bool) (i:Nat):dQ (nx l) i=l.getD i false:=by
 rw[nx,R6,List.length_reverse]
 by_cases h:i < l.length
 ·rw[List.getD_eq_getElem?_getD,List.getElem?_reverse ag];have:l.length - 1 - (l.length - 1 - i)=i:=ag;simp[h,this,List.getD_eq_getElem?_getD]
 ·simp[h,List.getD_eq_getElem?_getD,List.getElem?_eq_none (Nat.le_of_not_lt h)]
theorem Rb.mj (aq:Bool) (b:Rb):(b.row aq).bits=uM b.rows (!aq) b.bits:=by
 unfold Rb.row uM;cases aq <;> rfl
theorem sQ (x n:Nat):(jN x n).length=n:=by simp[jN]
theorem aeh (x n:Nat):jN x (n+1)=jN x n++[UInt8.ofNat (x / 2 ^ (8*n))]:=by simp[jN,List.range_succ]
theorem Tb (x:Nat):∀n,fT (jN x n)=x % 2 ^ (8*n)
  | 0=>by simp[jN,fT,Nat.mod_one]
  | n+1=>by
    rw[aeh,Ta,sQ,Tb x n,UInt8.toNat_ofNat',show 8*(n+1)=8*n+8 by omega,Nat.pow_add,Nat.mod_mul,Nat.mul_comm (2 ^ (8*n)) (_ % _)]
theorem Fh (l:List Nat) (n:Nat):(laidB l n).length=l.length*n:=by
 unfold laidB;rw[List.length_flatMap];simp only[sQ,List.map_const',List.sum_replicate_nat]
theorem Tl (x:Nat) (l:List Nat) (n:Nat):laidB (x::l) n=jN x n++laidB l n:=by simp[laidB]
theorem To {n:Nat}:∀{l:List Nat} {i x:Nat},l[i]? = some x->((laidB l n).drop (i*n)).take n=jN x n
  | [],i,x,h=>by simp at h
  | y::l,0,x,h=>by
    simp only[List.getElem?_cons_zero,Option.some.injEq] at h;subst h;rw[Tl,Nat.zero_mul,List.drop_zero,List.take_append_of_le_length (by rw[sQ];omega),List.take_of_length_le (by rw[sQ];omega)]
  | y::l,i+1,x,h=>by
    simp only[List.getElem?_cons_succ] at h;rw[Tl,Nat.succ_mul,Nat.add_comm,<-List.drop_drop,List.drop_left' (sQ y n)];exact To h
theorem Nc {l:List Nat} {n i m:Nat} (h:l[i]? = some m):kZ (laidB l n) (i*n) n=m % 2 ^ (8*n):=by
 unfold kZ;rw[To h,Tb]
theorem Nd {l:List Nat} {i n:Nat} (h:l[i]? = some n) (a:n < 2 ^ 31):i32 (laidB l 4) i=n:=by
 unfold i32;rw[Nat.mul_comm,Nc h,Nat.mod_eq_of_lt ag];unfold sg;rw[if_pos ag]
theorem ajY (l:List Nat):(oM l).length=(l.length+7) / 8:=by
 unfold oM;have:∀(m:List (Nat × Nat)) (b:List UInt8),(m.foldl (λb x=>if x.1 % 2=1 then kX b x.2 else b) b).length=b.length:=by
  intro m
  induction m with
  | nil=>intro b;rfl
  | cons x m a=>intro b;rw[List.foldl_cons,a];split <;> simp[xj]
 rw[this,List.length_replicate]
theorem ajZ (l:List Nat):∀(k:Nat) (b:List UInt8),(∀j,k<=j->j < k+l.length->j / 8 < b.length)->∀i,dQ ((l.zipIdx k).foldl (λb x=>if x.1 % 2=1 then kX b x.2 else b) b) i=(dQ b i || decide (k<=i/\l.getD (i - k) 0 % 2=1)):=by
  induction l with
  | nil=>intro k b _ i;simp
  | cons x l m =>
    intro k b g i;rw[List.zipIdx_cons,List.foldl_cons];have f:∀j,k+1<=j->j < k+1+l.length->j / 8 < (if x % 2=1 then kX b k else b).length:=by
      intro j a d;have:=g j ag (by simp only[List.length_cons];omega)
      split <;> simpa[xj] using this
    rw[m (k+1) _ f i];have o:dQ (if x % 2=1 then kX b k else b) i=(dQ b i || (decide (i=k) && decide (x % 2=1))):=by
      split
      · rename_i h;rw[Rk (g k (Nat.le_refl _) aS)];simp[h,Bool.or_comm]
      · rename_i h;simp[h]
    rw[o,Bool.or_assoc]
    congr 1
    by_cases a:i=k
    · subst a;have n:¬i+1<=i:=ag;simp[n]
    · by_cases d:k<=i
      · have e:i - k=(i - (k+1))+1:=ag;have c:k+1<=i:=ag;simp[a,d,c,e]
      · have c:¬k+1<=i:=ag;simp[a,d,c]
theorem aj0 (l:List Nat) (i:Nat):dQ (oM l) i=decide (l.getD i 0 % 2=1):=by
 unfold oM;rw[ajZ l 0 _ (λj _ h=>by rw[List.length_replicate];omega) i]
 have:dQ (List.replicate ((l.length+7) / 8) (0:UInt8)) i=false:=by
  unfold dQ;have:(List.replicate ((l.length+7) / 8) (0:UInt8)).getD (i / 8) 0=0:=by
   rw[List.getD_eq_getElem?_getD,List.getElem?_replicate];split <;> rfl
  rw[this];simp
 rw[this];simp
theorem Ux (w:Nat) (t:List UInt8) (l:List (List UInt8)):ju w (t::l)=(if t=[] then List.replicate w 0 else t)++ju w l:=by simp[ju]
theorem FK {w:Nat}:∀{l:List (List UInt8)},(∀t∈l,t=[]\/t.length=w)->(ju w l).length=l.length*w
  | [],_=>by simp[ju]
  | t::l,h=>by
    have a:=FK (l:=l) λx b=>h x (by simp[b])
    have c:(if t=[] then List.replicate w (0:UInt8) else t).length=w:=by
      rcases h t aS with q | q
      · simp[q]
      · split <;> simp_all
    rw[Ux,List.length_append,c,a,List.length_cons,Nat.succ_mul,Nat.add_comm]
theorem Uy {w:Nat}:∀{l:List (List UInt8)} {i:Nat} {t:List UInt8},(∀t∈l,t=[]\/t.length=w)->l[i]? = some t->t.length=w->((ju w l).drop (i*w)).take w=t
  | [],i,t,_,h,_=>by simp at h
  | u::l,i,t,b,h,a=>by
    have d:(if u=[] then List.replicate w (0:UInt8) else u).length=w:=by
      rcases b u aS with q | q
      · simp[q]
      · split <;> simp_all
    rw[Ux];cases i with
    | zero =>
      simp only[List.getElem?_cons_zero,Option.some.injEq] at h;subst h;rw[Nat.zero_mul,List.drop_zero,List.take_append_of_le_length ag,List.take_of_length_le ag];split
      · rename_i q;subst q;simp at a;subst a;rfl
      · rfl
    | succ i =>
      simp only[List.getElem?_cons_succ] at h;rw[Nat.succ_mul,Nat.add_comm,<-List.drop_drop,List.drop_left' d];exact Uy (λx c=>b x (by simp[c])) h a
theorem TE:∀{a b:List Pl} {d c:List Int},a.map Pl.f=b.map Pl.f->(∀x∈c,x∈d)->∀x∈kz c b,x∈kz d a
  | [],[],d,c,_,i=>i
  | [],_::_,_,_,h,_=>by simp at h
  | _::_,[],_,_,h,_=>by simp at h
  | x::a,y::b,d,c,h,i=>by
    simp only[List.map_cons,List.cons.injEq] at h;unfold kz;refine TE h.2 λz g => ?_;rw[<-h.1] at g;unfold sN at g ⊢;split
    · rename_i e
      rw[if_pos e] at g;rcases List.mem_append.1 g with q | q
      · exact List.mem_append_left _ (i z q)
      · exact List.mem_append_right _ q
    · rename_i e
      rw[if_neg e] at g;exact i z g
structure PE (d d':Nat) (ins Bg:Bool):Prop where
 d:d'<=d
 i:Bg=true->ins=true
abbrev Pv (f:ai):Prop:=∀{d d':Nat} {ins Bg:Bool} {n n':Nat} {ids TG:List Int},PE d d' ins Bg->n'<=n->(∀x∈TG,x∈ids)->eR n ids (f.places d [] ins) ->
 eR n' TG (f.places d' [] Bg)/\(f.places d [] ins).map Pl.f=(f.places d' [] Bg).map Pl.f
theorem acr {cs:List ai} (k:∀f∈cs,Pv f) {d i:Nat} {c a:Bool} (l:PE d i c a):∀{n n':Nat} {e b:List Int},n'<=n->(∀x∈b,x∈e)->eR n e (hO d c cs) ->
    eR n' b (hO i a cs)/\(hO d c cs).map Pl.f=(hO i a cs).map Pl.f:=by
  induction cs with
  | nil=>intro n n' e b _ _ _;simp[hO,eR]
  | cons f t m =>
    intro n n' e b o j h;simp only[hO,Al] at h ⊢;obtain ⟨r,e1⟩:=k f aS l o j h.1;have el:(f.places d [] c).length=(f.places i [] a).length:=by simpa using congrArg List.length e1
    obtain ⟨q,s⟩:=m (λg p=>k g (by simp[p])) (n:=n+(f.places d [] c).length) (n':=n'+(f.places i [] a).length) ag (TE e1 j) h.2
    exact ⟨⟨r,q⟩,by rw[List.map_append,List.map_append,e1,s]⟩
theorem acv {l:List ai} {d:Nat} {B:Bool}:∀{ahead:List ai},(dm d ahead B l).map Pl.f=(hO d B l).map Pl.f:=by
  induction l with
  | nil=>intro a;rfl
  | cons f l b =>
    intro a;have:(f.places d a B).map Pl.f=(f.places d [] B).map Pl.f:=by cases f;unfold ai.places;simp
    simp only[dm,hO,List.map_append,b,this]
theorem R1:∀f:ai,Pv f
  | .mk r aq k w id ix cs=>by
    rename_i d t m c n n' o g
    intro l J j h;have I:∀f∈cs,Pv f:=λf _=>R1 f;have s:d<=64:=by unfold ai.places at h;exact h.1.1
    have b:t<=64:=Nat.le_trans l.d s;rw[xA s] at h ⊢;rw[xA b];obtain ⟨L,K,H,G,F,E,D,u⟩:=h.1;obtain ⟨C,b2⟩:=Ea.1 h.2;have z:PE (d+1) (t+1) (m || k == 19) (c || k == 19):=⟨by have:=l.d;omega,λq=>by
      rcases (Bool.or_eq_true _ _).mp q with q | q
      · rw[l.i q];rfl
      · rw[q];simp⟩
    have p:∀x∈sN g (.mk r aq k w id ix cs),x∈sN o (.mk r aq k w id ix cs):=by
      intro x a;unfold sN at a ⊢;split
      · rename_i e;rw[if_pos e] at a
        rcases List.mem_append.1 a with q | q
        · exact List.mem_append_left _ (j x q)
        · exact List.mem_append_right _ q
      · rename_i e;rw[if_neg e] at a;exact j x a
    obtain ⟨B,A⟩:=acr I z (n:=n+1) (n':=n'+1) ag p b2;refine ⟨⟨⟨b,by omega,H,G,F,E,?_,λe=>⟨(u e).1,λq=>(u e).2 (j _ q)⟩⟩,Ea.2 ⟨C,B⟩⟩,?_⟩
    · rintro ⟨y,v⟩;exact D ⟨l.i y,v⟩
    · simp only[List.map_cons,acv,A]
theorem bp.places {f:ai} (h:bp f):eR 0 [] (f.places 1 [] false):=by
 have:=h.2.2.2.2
 simpa only [hO,List.append_nil] using this
theorem bp.LR {f:ai} (h:eR 0 [] (f.places 1 [] false)):bp f:=by
 refine ⟨by simp,by simp,λj m c=>by simp at c,?_,by simpa only [hO,List.append_nil] using h⟩
 intro i j a b e d g;have:i=0:=by
  have:=(List.getElem?_eq_some_iff.1 d).1;simp at this;exact this
 omega
theorem bp.aC {f c:ai} (h:bp f) (e:c∈f.cs):bp c:=by
 obtain ⟨j,aq,k,w,id,ix,cs⟩:=f;have a:=h.places;rw[xA ag] at a;obtain ⟨n,i,g⟩:=acu (Ea.1 a.2).2 c e;exact bp.LR (R1 c (d:=2) (d':=1) ⟨by omega,λq=>by cases q⟩ (Nat.zero_le _) (λx b=>by simp at b) g).1
theorem bp.right {f:ai} (h:bp f):Shaped f.k f.w f.id f.ix f.cs.length/\yF f.k f.aq f.cs/\(f.k=19->∃c,f.cs[0]? = some c/\c.aq=false):=by
 obtain ⟨b,aq,k,w,id,ix,cs⟩:=f;have a:=h.places;rw[xA ag] at a;exact ⟨a.1.2.2.2.2.1,a.1.2.2.2.2.2.1,λe=>(a.1.2.2.2.2.2.2.2 e).1⟩
theorem SD:GR (bs [97]):=by
 refine ⟨by decide,by decide,λj b h => ?_⟩
 rcases j with _ | j
 ·have a:some (97:UInt8)=some b:=h;cases a;exact .inl (.inl aL)
 ·rw[getElem?_neg _ _ (by show ¬j+1 < 1;omega)] at h;cases h
theorem bp.ty {f:ai} (h:bp f):nM f.k f.w f.id f.ix f.cs:=by
 obtain ⟨p,aq,k,w,id,ix,cs⟩:=f;have d:=h.places;refine bp.LR ?_;unfold NZ;rw[xA ag] at d ⊢;obtain ⟨⟨o,n,s,r,m,l,j,i⟩,b⟩:=d;refine ⟨⟨o,n,SD,by simp,m,⟨λe => ?_,λe => ?_,λe => ?_⟩,j,i⟩,b⟩
 ·simp only[ai.k] at e;subst e;simp[gJ,ai.aq,ai.k]
 ·simp only[ai.k] at e;subst e;simp[gJ,ai.aq,ai.k]
 ·simp only[ai.k] at e;subst e;obtain ⟨c,a,_⟩:=l.2.2 rfl;refine ⟨c,a,?_⟩;simp only[ai.cs] at a;cases cs with
  | nil=>simp at a
  | cons g q=>simp at a;subst a;simp[gJ,ai.aq,ai.k,ai.cs]
def dI (k:Int) (v:ak):Bool:=if k=1 then true else if k=18\/k=20 then false else v.aq
open Classical in
noncomputable def pO (l:List ak) (v:ak):List ak:=if v.aq then l else match dS v l with | some _=>l | none=>l++[v]
noncomputable def ez (vs:List ak):List ak:=vs.foldl pO []
open Classical in
noncomputable def uJ (x:List ak × List Nat) (v:ak):List ak × List Nat :=
 if x.1.getLast? = some v then (x.1,x.2.dropLast++[x.2.getLastD 0+1]) else (x.1++[v],x.2++[x.2.getLastD 0+1])
noncomputable def bR (vs:List ak):List ak × List Nat:=vs.foldl uJ ([],[])
theorem BC (vs:List ak) (v:ak):ez (vs++[v])=pO (ez vs) v:=by simp[ez]
theorem AO (vs:List ak) (v:ak):bR (vs++[v])=uJ (bR vs) v:=by simp[bR]
def gH (g:ak->Nat) (vs:List ak):List Nat:=(List.range (vs.length+1)).map λi=>((vs.take i).map g).sum
theorem QC {α:Type} (vs:List α) (v:α) {i:Nat} (h:i<=vs.length):(vs++[v]).take i=vs.take i:=List.take_append_of_le_length h
theorem QN (g:ak->Nat) (vs:List ak) (v:ak):gH g (vs++[v])=gH g vs++[((vs++[v]).map g).sum]:=by
 unfold gH;rw[List.length_append,List.length_singleton,List.range_succ (n:=vs.length+1),List.map_append]
 congr 1
 ·refine List.map_congr_left λi a => ?_;rw[QC _ _ (by simp at a;omega)]
 ·rw[List.map_singleton,List.take_of_length_le aS]
theorem Z7 {g:ak->Nat} {vs:List ak} {i:Nat} (h:i<=vs.length):(gH g vs)[i]? = some ((vs.take i).map g).sum:=by
 unfold gH;rw[List.getElem?_map,List.getElem?_range ag];rfl
theorem Ez (g:ak->Nat) (vs:List ak):(gH g vs).length=vs.length+1:=by simp[gH]
def dM (v:ak):Nat:=v.num.toNat
noncomputable def cg (k w:Int) (N:List ak) (j:Nat) (vs:List ak):List ak :=
 if k=15 then vs.flatMap ak.items
 else if k=16 then vs.flatMap λv=>if v.aq then List.replicate w.toNat (N.getD 0 v0) else v.items
 else if k=17 then vs.map λv=>if v.aq then N.getD j v0 else v.items.getD j v0
 else if k=18 then (vs.filter λv=>decide (dM v=j)).map λv=>v.items.getD 0 v0
 else if k=19 then ez vs
 else (bR vs).1
def dU (k:Int):Bool:=!(k == 1 || k == 12 || k == 13 || k == 15 || k == 16 || k == 17 || k == 18 || k == 19 || k == 20)
noncomputable def aG (k:Int) (vs:List ak):Rb where
 rows:=vs.length
 bu:=vs.countP (dI k)
 bits:=nx (vs.map λv=>!dI k v)
 aW:=bg vs
 cm:=if dU k then vs.map λv=>(v.num % 2 ^ 64).toNat else []
 texts:=if dU k then vs.map ak.text else []
 ends:=if k=12\/k=13 then gH (λv=>v.text.length) vs else if k=15 then gH (λv=>v.items.length) vs
  else if k=18 then (List.range vs.length).map λi=>((vs.take i).filter λv=>decide (dM v=dM (vs.getD i v0))).length
  else if k=19 then vs.map λv=>if v.aq then 0 else (dS v (ez vs)).getD 0 else if k=20 then (bR vs).2 else []
 all:=if k=12\/k=13 then vs.flatMap ak.text else if k=18 then vs.map λv=>UInt8.ofNat (dM v) else []
 vals:=if k=19 then ez vs else if k=20 then (bR vs).1 else []
abbrev GO:=List ak->Raw
def Q3:GO:=λ_=>r0
noncomputable def Q2 (k w:Int) (N:List ak) (S:List GO) (vs:List ak):Raw:=.mk (aG k vs) ((List.range S.length).map λj=>(S.getD j Q3) (cg k w N j vs))
def cj:List ai->List ak:=List.map ai.bO
mutual
noncomputable def ai.st:ai->GO
 | .mk _ _ k w _ _ cs=>Q2 k w (cj cs) (EB cs)
noncomputable def EB:List ai->List GO
 | []=>[]
 | f::fs=>f.st::EB fs
end
abbrev GQ:=List ak->Prop
structure Xa (k w ix:Int) (N:List ak) (F:ak->Bool) (O:List GQ) (vs:List ak):Prop where
 fit:∀v∈vs,F v=true
 n4:vs.length<=4096
 wt:bg vs<=4194304
 tx:k=12\/k=13->(vs.flatMap ak.text).length<=65536
 ds:k=19->(ez vs).length<=pG ix
 aC:∀(j:Nat) (o:GQ),O[j]? = some o->o (cg k w N j vs)
mutual
noncomputable def ai.can:ai->GQ
 | .mk nm aq k w id ix cs=>Xa k w ix (cj cs) (ai.fit (.mk nm aq k w id ix cs)) (Gj cs)
noncomputable def Gj:List ai->List GQ
 | []=>[]
 | f::fs=>f.can::Gj fs
end
theorem QS:∀a:List ai,EB a=a.map ai.st
 | []=>rfl
 | f::a=>by simp[EB,QS a]
theorem Vf:∀a:List ai,Gj a=a.map ai.can
 | []=>rfl
 | f::a=>by simp[Gj,Vf a]
theorem KO:∀a:List ai,At a=a.map ai.tk
 | []=>rfl
 | f::a=>by simp[At,KO a]
theorem JU:∀a:List ai,wW a=a.map ai.zk
 | []=>rfl
 | f::a=>by simp[wW,JU a]
theorem UW:∀a:List ai,F1 a=a.map ai.dn
 | []=>rfl
 | f::a=>by simp[F1,UW a]
theorem UA:∀a:List ai,fits a=a.map ai.fit
 | []=>rfl
 | f::a=>by simp[fits,UA a]
theorem SZ:∀a:List ai,ot a=a.map ai.lets
 | []=>rfl
 | f::a=>by simp[ot,SZ a]
theorem Qb:∀a:List ai,Ef a=a.map ai.wz
 | []=>rfl
 | f::a=>by simp[Ef,Qb a]
theorem P4:∀a:List ai,Eb a=a.map ai.zv
 | []=>rfl
 | f::a=>by simp[Eb,P4 a]
theorem V9:∀a:List ai,GD a=a.map ai.begun
 | []=>rfl
 | f::a=>by simp[GD,V9 a]
theorem ai.Ax (f:ai) (vs:List ak):f.st vs=.mk (aG f.k vs) ((List.range f.cs.length).map λj=>((f.cs.map ai.st).getD j Q3) (cg f.k f.w (cj f.cs) j vs)):=by
 obtain ⟨a,aq,k,w,id,ix,cs⟩:=f;simp only[ai.st,Q2,QS,List.length_map];rfl
theorem ai.eC (f:ai) (vs:List ak):f.can vs↔Xa f.k f.w f.ix (cj f.cs) f.fit (f.cs.map ai.can) vs:=by
 obtain ⟨a,aq,k,w,id,ix,cs⟩:=f;simp only[ai.can,Vf];exact Iff.rfl
theorem ai.jF (f:ai):f.tk=gY f.k f.w f.ix (f.cs.map ai.tk) (f.cs.map ai.zk):=by
 obtain ⟨a,aq,k,w,id,ix,cs⟩:=f;simp only[ai.tk,KO,JU];rfl
theorem ai.qB (f:ai):f.zk=ng f.small f.k f.w f.ix (λr=>f.tk r f.bO) (f.cs.map ai.zk):=by
 obtain ⟨a,aq,k,w,id,ix,cs⟩:=f;simp only[ai.zk,ai.tk,KO,JU];rfl
theorem ai.mD (f:ai):f.dn=iX f.k f.w f.ix (f.cs.map ai.dn):=by
 obtain ⟨a,aq,k,w,id,ix,cs⟩:=f;simp only[ai.dn,UW];rfl
theorem ai.c9 (f:ai):f.fit=dr f.k f.w f.lets (f.cs.map ai.fit):=by
 obtain ⟨a,aq,k,w,id,ix,cs⟩:=f;simp only[ai.fit,ai.lets,UA];rfl
theorem ai.Fg (f:ai):f.lets=mw f.k f.aq (f.cs.map ai.lets):=by
 obtain ⟨a,aq,k,w,id,ix,cs⟩:=f;simp only[ai.lets,SZ];rfl
theorem ai.ux (f:ai):f.wz=si f.k f.w f.lets (f.cs.map ai.wz):=by
 obtain ⟨a,aq,k,w,id,ix,cs⟩:=f;simp only[ai.wz,ai.lets,Qb];rfl
theorem ai.Ec (f:ai):f.zv=wV f.k f.w f.lets (f.cs.map ai.zv):=by
 obtain ⟨a,aq,k,w,id,ix,cs⟩:=f;simp only[ai.zv,ai.lets,P4];rfl
theorem ai.GF (f:ai):f.begun=.mk { xu with ends:=if f.k=12\/f.k=13\/f.k=15 then [0] else [] } (f.cs.map ai.begun):=by
 obtain ⟨a,aq,k,w,id,ix,cs⟩:=f;simp only[ai.begun,V9];rfl
theorem ai.iz {f c:ai} {j:Nat} (a:f.cs[j]? = some c) (vs:List ak):(f.st vs).aC j=c.st (cg f.k f.w (cj f.cs) j vs):=by
 have b:=(List.getElem?_eq_some_iff.1 a).1;rw[ai.Ax];simp only[Raw.aC,Raw.kids,List.getD_eq_getElem?_getD,List.getElem?_map,List.getElem?_range b,a,Option.map_some,Option.getD_some]
theorem ai.de {f c:ai} {j:Nat} (a:f.cs[j]? = some c) {vs:List ak} (h:f.can vs):c.can (cg f.k f.w (cj f.cs) j vs) :=
 ((ai.eC f vs).1 h).aC j c.can (by rw[List.getElem?_map,a];rfl)
theorem U8 (k w:Int) (N:List ak) (j:Nat):cg k w N j []=[]:=by unfold cg ez bR;split <;> (try rfl);split <;> (try rfl);split <;> (try rfl);split <;> (try rfl);split <;> rfl
theorem ab1 (k:Int):aG k []={ xu with ends:=if k=12\/k=13\/k=15 then [0] else [] }:=by
 simp only[aG,xu,List.length_nil,List.countP_nil,List.map_nil,List.flatMap_nil,List.range_zero,bg,nx,jM,List.reverse_nil,ite_self,ez,bR,List.foldl_nil,gH,List.take_nil,Rb.mk.injEq,true_and,and_true]
 by_cases b:k=12\/k=13
 ·have a:k=12\/k=13\/k=15:=ag;simp only[b,a,if_true];rfl
 ·by_cases c:k=15
  ·have a:k=12\/k=13\/k=15:=ag;simp only[b,c,if_true,if_false];rfl
  ·have a:¬(k=12\/k=13\/k=15):=ag;rw[if_neg a,if_neg b,if_neg c]
theorem QY:∀f:ai,f.st []=f.begun
  | .mk d aq k w id ix cs=>by
    have b:∀c∈cs,c.st []=c.begun:=λc _=>QY c;rw[ai.Ax,ai.GF]
    congr 1
    · exact ab1 k
    · refine List.ext_getElem? λj => ?_;simp only[ai.cs,ai.k,ai.w,List.getElem?_map,U8]
      by_cases a:j < cs.length
      · rw[List.getElem?_range a,List.getElem?_eq_getElem a];simp only[Option.map_some,List.getD_eq_getElem?_getD,List.getElem?_map,List.getElem?_eq_getElem a,Option.getD_some];rw[b _ (List.getElem_mem a)]
      · rw[List.getElem?_eq_none (by simpa using a),List.getElem?_eq_none (by simpa using a)];rfl
theorem bp.one {f:ai} (h:bp f) (d:f.k=15\/f.k=16\/f.k=19\/f.k=20):∃c,f.cs=[c]/\bp c:=by
 match a:f.cs,(h.right.1.2.2.2.2.2.2.2.1 d) with
 | [c],_=>exact ⟨c,rfl,h.aC (by rw[a];simp)⟩
theorem bp.ks {f:ai} (h:bp f):1<=f.k/\f.k<=20:=⟨h.right.1.1,h.right.1.2.1⟩
theorem lZ (a b:List ak):bg (a++b)=bg a+bg b:=by
 induction a with
 | nil=>simp[bg]
 | cons v a c=>simp only[List.cons_append,bg,c];omega
theorem Qe (n:Nat) (v:ak):bg (List.replicate n v)=n*v.aV:=by
 induction n with
 | zero=>simp[bg]
 | succ n a=>rw[List.replicate_succ,bg,a,Nat.succ_mul];omega
theorem gO (v:ak):v.aV=16+v.text.length+bg v.items:=by cases v;rfl
theorem UC {k w:Int} {F:List (ak->Bool)}:dr k w true F v0=true:=by
 unfold dr v0;simp[ak.aq,ak.num,ak.text,ak.items]
theorem Qc:∀{cs:List ai},(∀c∈cs,c.wz=min 4194305 c.zv.aV)->min 4194305 (16+(cs.map ai.wz).sum)=min 4194305 (16+bg (cs.map ai.zv))
  | [],_=>rfl
  | c::cs,h=>by
    have h1:=h c aS;have h2:=Qc (cs:=cs) λx hx=>h x (by simp[hx])
    simp only[List.map_cons,List.sum_cons,bg];omega
theorem Wl:∀{cs:List ai},(∀c∈cs,c.fit c.zv=true)->m6 (cs.map ai.fit) (cs.map ai.zv)=true
  | [],_=>rfl
  | c::cs,h=>by
    simp only[List.map_cons,m6,h c aS,Bool.true_and];exact Wl λx a=>h x (by simp[a])
theorem qR:∀f:ai,bp f->f.lets=f.aq
  | .mk n aq k w id ix cs,h=>by
    have i:∀c∈cs,c.lets=c.aq:=λc m=>qR c (h.aC m);obtain ⟨_,b,_⟩:=h.right;have one:=λl=>bp.one h l;rw[ai.Fg]
    show mw k aq (cs.map ai.lets)=aq
    simp only[ai.k,ai.cs,ai.aq] at b one;unfold mw
    by_cases e:k=20
    · obtain ⟨c,rfl,_⟩:=one (by simp[e])
      obtain ⟨d,g,j⟩:=b.2.2 e;simp only[List.getElem?_cons_zero,Option.some.injEq] at g;subst g;simp[e,i c aS,j,ai.aq]
    · rw[if_neg (λq:k=20/\_=>e q.1)]
      by_cases a:k=18
      · have:=b.2.1 a;simp[this,a]
      · simp[a]
theorem P6:∀f:ai,bp f->f.aq=false->f.zv.aq=false
  | .mk o aq k w id ix cs,h,g=>by
    have l:∀c∈cs,c.aq=false->c.zv.aq=false:=λc n=>P6 c (h.aC n);obtain ⟨_,j,i⟩:=h.right;have one:=λm=>bp.one h m;rw[ai.Ec,(qR _ h),g];simp only[ai.k,ai.w,ai.cs,ai.aq] at j i one g ⊢;simp only[wV,Bool.false_eq_true,if_false];split
    · rfl
    split
    · rfl
    split
    · rfl
    split
    · rfl
    split
    · rename_i e
      obtain ⟨c,rfl,_⟩:=one ag;simp only[List.map_cons,List.map_nil,List.getD_cons_zero];refine l c aS ?_;rcases e with rfl | rfl
      · obtain ⟨d,b,a⟩:=i rfl;simp only[List.getElem?_cons_zero,Option.some.injEq] at b;subst b;exact a
      · obtain ⟨d,b,a⟩:=j.2.2 rfl;simp only[List.getElem?_cons_zero,Option.some.injEq] at b;subst b;rw[<-a];exact g
    · rfl
theorem Oc {k w:Int} {l:Bool} {F:List (ak->Bool)} {v:ak} (h:dr k w l F v=true):v.items.length<=4096:=by
 unfold dr at h;simp only[Bool.and_eq_true,decide_eq_true_eq] at h;exact h.1
theorem P5:∀f:ai,bp f->f.fit f.zv=true/\f.wz=min 4194305 f.zv.aV
  | .mk nm aq k w id ix cs,h=>by
    have ih:∀c∈cs,c.fit c.zv=true/\c.wz=min 4194305 c.zv.aV:=λc hc=>P5 c (h.aC hc);rw[ai.c9,ai.Ec,ai.ux];obtain ⟨⟨s1,s2,s3,s4,s5,s6,s7,s8,s9,Rp,s11⟩,n1,n2⟩:=h.right;have one:=λhk=>bp.one h hk;simp only[ai.k,ai.w,ai.cs,ai.aq,ai.id,ai.ix] at s1 s2 s3 s4 s5 s6 s7 s8 s9 Rp s11 n1 n2 one ⊢;generalize hl:(ai.mk nm aq k w id ix cs).lets=l;have T5:l=mw k aq (cs.map ai.lets):=by rw[<-hl,ai.Fg];rfl
    cases l with
    | true=>exact ⟨by simpa[wV] using UC,by simp[si,wV,v0,ak.aV,bg]⟩
    | false =>
      have k1:k≠1:=by
        rintro rfl;simp[mw,n1.1] at T5
      simp only[wV,si,Bool.false_eq_true,if_false]
      by_cases tu:k=14
      · subst tu;have:=s3 rfl;simp[dr,ak.aq,ak.num,ak.text,ak.items,ak.aV,bg]
      rw[if_neg tu,if_neg tu]
      by_cases FZ:k=16
      · subst FZ;have:=s4 rfl;obtain ⟨c,rfl,hc⟩:=one aS;obtain ⟨h1,h2⟩:=ih c aS;simp only[if_true,List.map_cons,List.map_nil,List.getD_cons_zero,ak.aV,Qe,h2];refine ⟨?_,?_⟩
        · simp only[dr,ak.aq,ak.num,ak.text,ak.items,List.length_replicate];simp[h1,om];omega
        · have hw:1<=w.toNat:=ag;generalize w.toNat=n at hw
          by_cases hc:c.zv.aV<=4194305
          · rw[Nat.min_eq_right hc];simp
          · have q1:1*4194305<=n*4194305:=Nat.mul_le_mul_right _ hw;have q2:n*4194305<=n*c.zv.aV:=Nat.mul_le_mul_left _ ag;rw[Nat.min_eq_left (by omega:4194305<=c.zv.aV)]
            simp;omega
      rw[if_neg FZ,if_neg FZ]
      by_cases FY:k=17
      · subst FY;have pM:=s9 rfl;simp only[if_true,ak.aV,List.length_nil,Nat.add_zero];refine ⟨?_,Qc λc hc=>(ih c hc).2⟩;simp only[dr,ak.aq,ak.num,ak.text,ak.items,List.length_map,Wl λc hc=>(ih c hc).1];simp;omega
      rw[if_neg FY,if_neg FY]
      by_cases FX:k=18
      · subst FX;have pM:=Rp rfl;obtain ⟨c,F9,rfl⟩:∃c F9,cs=c::F9:=by
          cases cs with
          | nil=>simp at pM
          | cons c F9=>exact ⟨c,F9,rfl⟩
        obtain ⟨h1,h2⟩:=ih c aS;simp only[if_true,List.map_cons,List.getD_cons_zero,ak.aV,bg,List.length_nil,h2];refine ⟨?_,by omega⟩
        simp only[dr,ak.aq,ak.num,ak.text,ak.items,List.length_map,List.length_cons,List.length_nil];simp[h1]
      rw[if_neg FX,if_neg FX]
      by_cases vm:k=19\/k=20
      · obtain ⟨c,rfl,hc⟩:=one ag;obtain ⟨h1,h2⟩:=ih c aS;simp only[vm,if_true,List.map_cons,List.map_nil,List.getD_cons_zero,h2];refine ⟨?_,by omega⟩
        have hn:c.zv.aq=false:=by
          refine P6 c hc ?_;have T1:=qR _ h;rw[hl] at T1;rcases vm with rfl | rfl
          · obtain ⟨d,hd,xU⟩:=n2 rfl;simp only[List.getElem?_cons_zero,Option.some.injEq] at hd;subst hd;exact xU
          · obtain ⟨d,hd,xU⟩:=n1.2.2 rfl;simp only[List.getElem?_cons_zero,Option.some.injEq] at hd;subst hd;rw[<-xU];exact T1.symm
        have hlen:=h1;rw[ai.c9] at hlen;have hlen:=Oc hlen;unfold dr;simp only[hn,vm,hlen,List.map_cons,List.map_nil,List.getD_cons_zero,if_true,h1];simp
      rw[if_neg vm,if_neg vm];refine ⟨?_,by simp[ak.aV,bg]⟩
      simp only[not_or] at vm;have hu:gh []=true:=rfl;unfold dr;simp only[ak.aq,ak.num,ak.text,ak.items,List.length_nil,if_false,Bool.false_eq_true,vm,FX,FZ,FY,tu,hu]
      by_cases Oj:k=15
      · simp[Oj]
      · by_cases UQ:k=12\/k=13
        · simp[Oj,UQ,tu]
        · by_cases e2:k=2
          · simp[e2]
          · simp only[Oj,UQ,tu,e2];have h3:3<=k/\k<=11:=ag;have:iU k 0=true:=by
              unfold iU;split
              · rfl
              · have hp:∀n:Nat,(0:Int) < 2 ^ n:=λn=>Int.pow_pos aL;split
                · have:=hp (8*(cl k).toNat - 1);simp;omega
                · have:=hp (8*(cl k).toNat);simp;omega
            have q12:k≠12/\k≠13:=ag;simp[h3,this,q12,tu]
theorem ob {f:ai} (h:bp f) (b:f.small=true):f.bO=f.zv/\f.fit f.bO=true/\f.bO.aV=f.wz/\f.wz<=4194304:=by
 have a:f.wz<=4194304:=by simpa[ai.small] using b
 have e:f.bO=f.zv:=by unfold ai.bO;rw[if_pos a]
 obtain ⟨c,d⟩:=P5 f h;refine ⟨e,by rw[e];exact c,?_,a⟩
 rw[e];omega
theorem fL {x:Int × Raw} {g:Raw->Int × Raw} (h:(bL x g).1=0):x.1=0/\(g x.2).1=0/\bL x g=g x.2:=by
 unfold bL at h ⊢;split at h
 ·rename_i e;exact ⟨e,h,by rw[if_pos e]⟩
 ·rename_i e;exact absurd h e
theorem abR {n:Bool} {r:Raw} (h:(cR n r).1=0):r.b.rows < 4096/\(cR n r).2=r.up (Rb.row n):=by
 unfold cR at h ⊢;split at h
 ·simp at h
 ·rename_i e;exact ⟨by omega,by rw[if_neg e]⟩
theorem lH {n:Nat} {r:Raw} (h:(cO n r).1=0):r.b.aW+n<=4194304/\(cO n r).2=r.up λb=>{ b with aW:=b.aW+n }:=by
 refine ⟨?_,rfl⟩;unfold cO at h;dsimp only at h;split at h
 ·simp at h
 ·omega
theorem Rb.eq {a b:Rb} (k:a.rows=b.rows) (j:a.bu=b.bu) (i:a.bits=b.bits) (h:a.aW=b.aW) (g:a.cm=b.cm) (f:a.texts=b.texts) (e:a.ends=b.ends) (d:a.all=b.all) (c:a.vals=b.vals):a=b:=by
 cases a;cases b;simp_all
theorem iA {r:Raw} {i:Nat} {c:Raw} (h:i < r.kids.length):(r.cK i c).aC i=c:=by
 cases r;simp only[Raw.cK,Raw.aC,Raw.kids] at h ⊢;rw[List.getD_eq_getElem?_getD,List.getElem?_set_self h];rfl
theorem qH {r:Raw} {i:Nat} {c:Raw}:(r.cK i c).kids.length=r.kids.length:=by cases r;simp[Raw.cK,Raw.kids]
theorem aa0 {r:Raw} {i:Nat} {c R:Raw}:(r.cK i c).cK i R=r.cK i R:=by cases r;simp[Raw.cK,Raw.kids,Raw.b]
theorem kr {r:Raw} {i:Nat} {c:Raw}:(r.cK i c).b=r.b:=rfl
theorem uD {r:Raw} {i j:Nat} {c:Raw} (h:i≠j):(r.cK i c).aC j=r.aC j:=by
 cases r;simp only[Raw.cK,Raw.aC,Raw.kids];rw[List.getD_eq_getElem?_getD,List.getElem?_set_ne h,<-List.getD_eq_getElem?_getD]
theorem aa1 {r:Raw} {i:Nat} (h:i < r.kids.length):r.cK i (r.aC i)=r:=by
  cases r with
  | mk b ks =>
    simp only[Raw.cK,Raw.aC,Raw.kids,Raw.b] at h ⊢
    congr 1
    rw[List.getD_eq_getElem?_getD,List.getElem?_eq_getElem h];simp
theorem eZ {r:Raw} {g:Rb->Rb} {i:Nat}:(r.up g).aC i=r.aC i:=by cases r;rfl
theorem gu {r:Raw} {g:Rb->Rb}:(r.up g).kids=r.kids:=by cases r;rfl
theorem eT {r:Raw} {g:Rb->Rb}:(r.up g).b=g r.b:=by cases r;rfl
theorem Raw.eq {a b:Raw} (d:a.b=b.b) (c:a.kids=b.kids):a=b:=by
 cases a;cases b;simp only[Raw.b,Raw.kids] at d c;rw[d,c]
def cW (c:ai) (g:Raw->Int × Raw) (x:ak):Prop:=∀vs,c.can vs->(g (c.st vs)).1=0->c.can (vs++[x])/\(g (c.st vs)).2=c.st (vs++[x])
theorem xN {c:ai} {g:Raw->Int × Raw} {Y:ak} (b:cW c g Y) {r:Raw} {i:Nat} {kv:List ak} (a:r.aC i=c.st kv) (d:c.can kv) (h:(bY i g r).1=0) :
  c.can (kv++[Y])/\(bY i g r).2=r.cK i (c.st (kv++[Y])):=by
 unfold bY at h ⊢;rw[a] at h ⊢;obtain ⟨f,e⟩:=b kv d h;exact ⟨f,by rw[e]⟩
theorem EJ {c:ai} {G:ak->Raw->Int × Raw} {i:Nat}:∀{xs:List ak},(∀x∈xs,cW c (G x) x)->∀{r:Raw} {kv:List ak},i < r.kids.length->r.aC i=c.st kv->c.can kv->(cX (xs.map λx=>bY i (G x)) r).1=0 ->
    c.can (kv++xs)/\(cX (xs.map λx=>bY i (G x)) r).2=r.cK i (c.st (kv++xs))
  | [],_,r,kv,a,b,d,_=>by rw[List.append_nil];exact ⟨d,by rw[<-b,aa1 a];rfl⟩
  | x::xs,f,r,kv,a,b,d,h=>by
    simp only[List.map_cons,cX] at h ⊢;obtain ⟨m,g,l⟩:=fL h;obtain ⟨j,e⟩:=xN (f x aS) b d m;rw[l,e];rw[e] at g;have:=EJ (λy k=>f y (by simp[k])) (r:=r.cK i (c.st (kv++[x]))) (kv:=kv++[x]) (by rw[qH];exact a) (iA a) j g
    rw[List.append_assoc] at this;rw[aa0] at this;exact this
theorem K0:∀(a:List (Raw->Int × Raw)) (g:Raw->Int × Raw) (r:Raw),cX (a++[g]) r=bL (cX a r) g
  | [],g,r=>by
    simp only[List.nil_append,cX,bL,if_true];split
    · rename_i e;exact Prod.ext e.symm rfl
    · rfl
  | f::a,g,r=>by
    simp only[List.cons_append,cX,bL];split
    · rw[K0 a g];rfl
    · rename_i e;simp[e]
theorem GI {cs:List ai} {G:Nat->Raw->Int × Raw} {x:Nat->ak} {kv:Nat->List ak} {r:Raw} (hl:r.kids.length=cs.length) (j:∀i c,cs[i]? = some c->r.aC i=c.st (kv i)/\c.can (kv i)) (k:∀i c,cs[i]? = some c->cW c (G i) (x i)) :
    ∀m,m<=cs.length->(cX ((List.range m).map λi=>bY i (G i)) r).1=0->(cX ((List.range m).map λi=>bY i (G i)) r).2.b=r.b/\(cX ((List.range m).map λi=>bY i (G i)) r).2.kids.length=cs.length /\
      ∀i c,cs[i]? = some c->(i < m->c.can (kv i++[x i]))/\(cX ((List.range m).map λi=>bY i (G i)) r).2.aC i=if i < m then c.st (kv i++[x i]) else c.st (kv i)
  | 0,_,_=>⟨rfl,hl,λi c d=>⟨λq=>by omega,by rw[if_neg ag];exact (j i c d).1⟩⟩
  | m+1,y,h=>by
    rw[List.range_succ,List.map_append,List.map_singleton,K0] at h ⊢;obtain ⟨t,s,p⟩:=fL h;obtain ⟨w,v,l⟩:=GI hl j k m ag t;have a:cs[m]? = some cs[m]:=List.getElem?_eq_getElem ag;have f:=(l m _ a).2;rw[if_neg ag] at f;obtain ⟨o,n⟩:=xN (k m _ a) f (j m _ a).2 s;rw[p,n];refine ⟨w,by rw[qH];exact v,λi c d => ?_⟩
    by_cases e:i=m
    · subst e;rw[a] at d;cases d;exact ⟨λ_=>o,by rw[iA ag,if_pos ag]⟩
    · obtain ⟨u,b2⟩:=l i c d;refine ⟨λq=>u ag,?_⟩;rw[uD (λq=>e q.symm),b2]
      by_cases g:i < m
      · rw[if_pos g,if_pos ag]
      · rw[if_neg g,if_neg ag]
theorem jR {k w:Int} {l:Bool} {F:List (ak->Bool)} {v:ak} (h:dr k w l F v=true) (a:v.aq=true):v=v0/\l=true:=by
 unfold dr at h;simp only[a,if_true,Bool.and_eq_true,decide_eq_true_eq] at h;obtain ⟨_,⟨⟨d,c⟩,b⟩,e⟩:=h;obtain ⟨n,x,t,s⟩:=v;simp only[ak.aq,ak.num,ak.text,ak.items,List.length_eq_zero_iff] at a d c b;subst a d c b;exact ⟨rfl,e⟩
theorem Qk:v0.aV=16:=rfl
theorem kg (vs:List ak) (v:ak):bg (vs++[v])=bg vs+v.aV:=by rw[lZ];simp[bg]
theorem nJ {f:ai} {vs:List ak} {v:ak} (h:f.can vs) (g:f.fit v=true) (l:vs.length < 4096) (b:bg vs+v.aV<=4194304) (tx:f.k=12\/f.k=13->(vs.flatMap ak.text).length+v.text.length<=65536)
  (ds:f.k=19->(ez (vs++[v])).length<=pG f.ix) (aC:∀(j:Nat) c,f.cs[j]? = some c->c.can (cg f.k f.w (cj f.cs) j (vs++[v]))):f.can (vs++[v]):=by
 refine (ai.eC f _).2 ⟨λu d => ?_,by simp;omega,by rw[kg];exact b,λe=>by have:=tx e;simp;simp at this;omega,ds,λj o a => ?_⟩
 ·rcases List.mem_append.1 d with q | q
  ·exact ((ai.eC f vs).1 h).fit u q
  ·simp at q;subst q;exact g
 ·rw[List.getElem?_map,Option.map_eq_some_iff] at a;obtain ⟨c,i,rfl⟩:=a;exact aC j c i
theorem nk {f:ai} {vs:List ak} {r:Raw} (g:r.b=aG f.k vs) (hl:r.kids.length=f.cs.length) (e:∀(j:Nat) c,f.cs[j]? = some c->r.aC j=c.st (cg f.k f.w (cj f.cs) j vs)):r=f.st vs:=by
  rw[ai.Ax];refine Raw.eq g (List.ext_getElem? λj => ?_)
  show r.kids[j]? = ((List.range f.cs.length).map _)[j]?
  rw[List.getElem?_map]
  by_cases a:j < f.cs.length
  · have d:f.cs[j]? = some f.cs[j]:=List.getElem?_eq_getElem a;have:=e j _ d;rw[List.getElem?_range a];simp only[Option.map_some,List.getD_eq_getElem?_getD,List.getElem?_map,d,Option.getD_some];rw[<-this];cases r with
    | mk b ks =>
      have h:ks.length=f.cs.length:=hl
      show ks[j]? = some (ks.getD j r0)
      rw[List.getD_eq_getElem?_getD,List.getElem?_eq_getElem (l:=ks) (i:=j) ag];rfl
  · rw[List.getElem?_eq_none (l:=r.kids) ag,List.getElem?_eq_none cC];rfl
theorem cQ (f:ai) (vs:List ak):(f.st vs).b=aG f.k vs:=by rw[ai.Ax];rfl
theorem aal (f:ai) (vs:List ak):(f.st vs).kids.length=f.cs.length:=by rw[ai.Ax];simp[Raw.kids]
theorem nv (k:Int) (vs:List ak) (v:ak) (n:Bool):((aG k vs).row n).rows=(aG k (vs++[v])).rows:=by simp[Rb.row,aG]
theorem nw {k:Int} {vs:List ak} {v:ak} {n:Bool} (h:dI k v=n):((aG k vs).row n).bu=(aG k (vs++[v])).bu:=by
 simp only[Rb.row,aG,List.countP_append,List.countP_cons,List.countP_nil,h];cases n <;> simp
theorem mj {k:Int} {vs:List ak} {v:ak} {n:Bool} (h:dI k v=n):((aG k vs).row n).bits=(aG k (vs++[v])).bits:=by
 rw[Rb.mj];simp only[aG,List.map_append,List.map_cons,List.map_nil,acC,List.length_map,h]
theorem jJ {k:Int} (vs:List ak):(dU k=false->(aG k vs).cm=[]/\(aG k vs).texts=[])/\(¬(k=12\/k=13\/k=15\/k=18\/k=19\/k=20)->(aG k vs).ends=[])/\(¬(k=12\/k=13\/k=18)->(aG k vs).all=[])/\(¬(k=19\/k=20)->(aG k vs).vals=[]):=by
 refine ⟨λh=>by simp[aG,h],λh => ?_,λh => ?_,λh => ?_⟩ <;> simp only[not_or] at h <;> simp[aG,h]
structure iI (f:ai) (vs:List ak) (v:ak) (n:Bool) (r1:Raw):Prop where
 lt:vs.length < 4096
 b:r1.b=(aG f.k vs).row n
 kids:r1.kids=(f.st vs).kids
theorem iI.of {f:ai} {vs:List ak} {v:ak} {n:Bool} (h:(cR n (f.st vs)).1=0):iI f vs v n (cR n (f.st vs)).2:=by
 obtain ⟨b,a⟩:=abR h;rw[cQ] at b;exact ⟨b,by rw[a,eT,cQ],by rw[a,gu]⟩
theorem iI.aC {f:ai} {vs:List ak} {v:ak} {n:Bool} {a:Raw} (R:iI f vs v n a) {j:Nat} {c:ai} (b:f.cs[j]? = some c):a.aC j=c.st (cg f.k f.w (cj f.cs) j vs):=by
 rw[<-ai.iz b];unfold Raw.aC;rw[R.kids]
theorem iI.len {f:ai} {vs:List ak} {v:ak} {n:Bool} {b:Raw} (R:iI f vs v n b):b.kids.length=f.cs.length:=by rw[R.kids,aal]
theorem nt (c:ai) (vs:List ak):(c.st vs).b.aW=bg vs:=by rw[cQ];rfl
theorem EF (c:ai) (vs:List ak):(c.st vs).b.rows=vs.length:=by rw[cQ];rfl
theorem QV {f:ai} (T:bp f) (S:f.k≠15/\f.k≠16/\f.k≠17/\f.k≠18/\f.k≠19/\f.k≠20) {v:ak} (i:f.fit v=true):cW f (λr=>f.tk r v) v:=by
  intro vs O h;dsimp only at h ⊢;obtain ⟨q,p,o,l,n,m⟩:=S;have a:f.cs=[]:=by
    have:=T.right.1.2.2.2.2.2.2.2.2.2.2 ⟨q,p,n,m,o,l⟩;exact List.length_eq_zero_iff.1 this
  have W:=(ai.eC f vs).1 O;rw[ai.jF] at h ⊢;rw[ai.c9] at i;have A:f.fit v=true:=by rw[ai.c9];exact i
  unfold gY at h ⊢
  by_cases x:f.k=1
  · simp only[if_pos x] at h ⊢;obtain ⟨I,y,H⟩:=fL h;have R:=iI.of (v:=v) I;obtain ⟨u,E⟩:=lH y;have t:v.aq=true:=by
      cases t:v.aq with
      | true=>rfl
      | false=>unfold dr at i;simp[t,x] at i
    obtain ⟨rfl,_⟩:=jR i t;rw[R.b] at u;have w:dI f.k v0=true:=by simp[dI,x]
    refine ⟨nJ O A R.lt ?_ ag ag λj c d=>by rw[a] at d;simp at d,?_⟩
    · have:((aG f.k vs).row true).aW=bg vs:=rfl;rw[Qk];omega
    · rw[H,E];refine nk ?_ (by rw[gu,R.len]) λj c d=>by rw[a] at d;simp at d
      rw[eT,R.b];obtain ⟨C,L,K,F⟩:=jJ (k:=f.k) vs;obtain ⟨D,N,M,G⟩:=jJ (k:=f.k) (vs++[v0]);have s:dU f.k=false:=by simp[dU,x]
      refine Rb.eq (nv f.k vs v0 true) (nw w) (mj w) ?_ ((C s).1.trans (D s).1.symm) ((C s).2.trans (D s).2.symm) ((L ag).trans (N ag).symm) ((K ag).trans (M ag).symm) ((F ag).trans (G ag).symm)
      show bg vs+16=bg (vs++[v0])
      rw[kg,Qk]
  simp only[if_neg x] at h ⊢
  by_cases g:f.k=12\/f.k=13
  · simp only[if_pos g] at h ⊢;obtain ⟨I,y,H⟩:=fL h;have R:=iI.of (v:=v) I;rw[H];have Q:(cR v.aq (f.st vs)).2.b.all=vs.flatMap ak.text:=by rw[R.b];show (aG f.k vs).all=_;simp[aG,g]
    rw[Q] at y ⊢;split at y
    · simp at y
    rename_i P
    rw[if_neg P];obtain ⟨u,E⟩:=lH y;rw[eT,R.b] at u;have u:bg vs+(16+v.text.length)<=4194304:=u;have B:v.items=[]:=by
      cases t:v.aq with
      | true=>rw[(jR i t).1];rfl
      | false =>
        unfold dr at i;have U:f.k≠18:=l;have J:f.k=12\/f.k=13\/f.k=14:=ag;simp only[t,Bool.false_eq_true,if_false,n,m,l,q,p,o,J,or_self,if_true,Bool.and_eq_true,decide_eq_true_eq,List.length_eq_zero_iff] at i;exact i.2.2.1
    have z:v.aV=16+v.text.length:=by rw[gO,B];rfl
    have w:dI f.k v=v.aq:=by unfold dI;rw[if_neg x,if_neg ag]
    refine ⟨nJ O A R.lt ag (λ_=>by omega) ag λj c d=>by rw[a] at d;simp at d,?_⟩
    rw[E];refine nk ?_ (by rw[gu,gu,R.len]) λj c d=>by rw[a] at d;simp at d
    rw[eT,eT,R.b];obtain ⟨C,L,K,F⟩:=jJ (k:=f.k) vs;obtain ⟨D,N,M,G⟩:=jJ (k:=f.k) (vs++[v]);have s:dU f.k=false:=by rcases g with e | e <;> simp[dU,e]
    refine Rb.eq (nv f.k vs v v.aq) (nw w) (mj w) ?_ ((C s).1.trans (D s).1.symm) ((C s).2.trans (D s).2.symm) ?_ ?_ ((F ag).trans (G ag).symm)
    · show bg vs+(16+v.text.length)=bg (vs++[v])
      rw[kg,z]
    · show (aG f.k vs).ends++[(aG f.k vs).all.length+v.text.length]=(aG f.k (vs++[v])).ends
      simp only[aG,if_pos g,QN];simp[List.length_flatMap]
    · show (aG f.k vs).all++v.text=(aG f.k (vs++[v])).all
      simp[aG,g]
  simp only[if_neg g,if_neg q,if_neg p,if_neg o,if_neg l,if_neg n,if_neg m] at h ⊢;obtain ⟨I,y,H⟩:=fL h;have R:=iI.of (v:=v) I;rw[H];obtain ⟨u,E⟩:=lH y;rw[eT,R.b] at u;have u:bg vs+(16+v.text.length)<=4194304:=u;have B:v.items=[]:=by
    cases t:v.aq with
    | true=>rw[(jR i t).1];rfl
    | false =>
      unfold dr at i
      by_cases V:f.k=14
      · have J:f.k=12\/f.k=13\/f.k=14:=ag;simp only[t,Bool.false_eq_true,if_false,n,m,l,q,p,o,J,or_self,if_true,Bool.and_eq_true,decide_eq_true_eq,List.length_eq_zero_iff] at i;exact i.2.2.1
      · have J:¬(f.k=12\/f.k=13\/f.k=14):=ag;simp only[t,Bool.false_eq_true,if_false,n,m,l,q,p,o,J,or_self,Bool.and_eq_true,decide_eq_true_eq,List.length_eq_zero_iff] at i;exact i.2.2.1
  have z:v.aV=16+v.text.length:=by rw[gO,B];rfl
  have w:dI f.k v=v.aq:=by unfold dI;rw[if_neg x,if_neg ag]
  refine ⟨nJ O A R.lt ag ag ag λj c d=>by rw[a] at d;simp at d,?_⟩
  rw[E];refine nk ?_ (by rw[gu,gu,R.len]) λj c d=>by rw[a] at d;simp at d
  rw[eT,eT,R.b];obtain ⟨C,L,K,F⟩:=jJ (k:=f.k) vs;obtain ⟨D,N,M,G⟩:=jJ (k:=f.k) (vs++[v]);have s:dU f.k=true:=by
    simp only[not_or] at g;simp[dU,x,g,q,p,o,l,n,m]
  refine Rb.eq (nv f.k vs v v.aq) (nw w) (mj w) ?_ ?_ ?_ ((L ag).trans (N ag).symm) ((K ag).trans (M ag).symm) ((F ag).trans (G ag).symm)
  · show bg vs+(16+v.text.length)=bg (vs++[v])
    rw[kg,z]
  · show (aG f.k vs).cm++_=(aG f.k (vs++[v])).cm
    simp[aG,s]
  · show (aG f.k vs).texts++_=(aG f.k (vs++[v])).texts
    simp[aG,s]
theorem Gd {w:Int} {X:List ak} {j:Nat} {vs:List ak}:cg 15 w X j vs=vs.flatMap ak.items:=by simp[cg]
theorem BG {w:Int} {X:List ak} {j:Nat} {vs:List ak}:cg 16 w X j vs=vs.flatMap λv=>if v.aq then List.replicate w.toNat (X.getD 0 v0) else v.items:=by simp[cg]
theorem BF {w:Int} {X:List ak} {j:Nat} {vs:List ak}:cg 17 w X j vs=vs.map λv=>if v.aq then X.getD j v0 else v.items.getD j v0:=by simp[cg]
theorem Gc {w:Int} {X:List ak} {j:Nat} {vs:List ak}:cg 18 w X j vs=(vs.filter λv=>decide (dM v=j)).map λv=>v.items.getD 0 v0:=by simp[cg]
theorem BE {w:Int} {X:List ak} {j:Nat} {vs:List ak}:cg 19 w X j vs=ez vs:=by simp[cg]
theorem Ga {w:Int} {X:List ak} {j:Nat} {vs:List ak}:cg 20 w X j vs=(bR vs).1:=by simp[cg]
theorem SR (vs:List ak):(vs.map ak.aV).sum=bg vs:=(Am vs).symm
theorem sL {f c:ai} (a:f.cs=[c]) {j:Nat} {d:ai} (h:f.cs[j]? = some d):j=0/\d=c:=by
 rw[a] at h;cases j with
 | zero=>simp at h;exact ⟨rfl,h.symm⟩
 | succ j=>simp at h
theorem agU {f c:ai} (b:f.cs=[c]) (g:f.k=15) {v:ak} (a:f.fit v=true):v.text=[]/\∀x∈v.items,c.fit x=true:=by
  rw[ai.c9] at a;cases d:v.aq with
  | true=>rw[(jR a d).1];exact ⟨rfl,λx e=>by simp[v0,ak.items] at e⟩
  | false =>
    unfold dr at a;rw[g,b] at a;simp[d] at a;exact ⟨a.2.2.1,a.2.2.2⟩
theorem Ob {f c:ai} (b:f.cs=[c]) (e:f.k=16) {v:ak} (a:f.fit v=true) (d:v.aq=false):v.text=[]/\v.items.length=f.w.toNat/\∀x∈v.items,c.fit x=true:=by
 rw[ai.c9] at a;unfold dr at a;rw[e,b] at a;simp[d] at a;exact ⟨a.2.2.1,a.2.2.2.1,a.2.2.2.2⟩
theorem Wn:∀{F:List (ak->Bool)} {vs:List ak},m6 F vs=true->F.length=vs.length/\∀(i:Nat) g,F[i]? = some g->g (vs.getD i v0)=true
  | [],[],_=>⟨rfl,λi g h=>by simp at h⟩
  | [],_::_,h=>by simp[m6] at h
  | _::_,[],h=>by simp[m6] at h
  | g::F,v::vs,h=>by
    simp only[m6,Bool.and_eq_true] at h;obtain ⟨c,b⟩:=Wn h.2;refine ⟨by simp[c],λi d a => ?_⟩
    cases i with
    | zero=>simp at a;subst a;simpa using h.1
    | succ i=>simp at a;simpa using b i d a
theorem FM {f:ai} (d:f.k=17) {v:ak} (a:f.fit v=true) (b:v.aq=false):v.text=[]/\v.items.length=f.cs.length/\∀(i:Nat) c,f.cs[i]? = some c->c.fit (v.items.getD i v0)=true:=by
 rw[ai.c9] at a;unfold dr at a;rw[d] at a;simp[b] at a;obtain ⟨h,g⟩:=Wn a.2.2.2;exact ⟨a.2.2.1,by simpa using h.symm,λi c e=>g i c.fit (by rw[List.getElem?_map,e];rfl)⟩
theorem Od {f:ai} (i:f.k=18) (hl:f.lets=false) {v:ak} (a:f.fit v=true):v.aq=false/\v.text=[]/\0<=v.num/\∃c x,f.cs[dM v]? = some c/\v.items=[x]/\c.fit x=true:=by
  rw[ai.c9] at a;cases g:v.aq with
  | true=>have:=(jR a g).2;rw[hl] at this;cases this
  | false =>
    unfold dr at a;rw[i] at a;simp[g] at a;obtain ⟨_,m,l,o,j,h⟩:=a;have b:dM v < f.cs.length:=by unfold dM;omega
    obtain ⟨x,d⟩:∃x,v.items=[x]:=by
      match n:v.items,j with
      | [x],_=>exact ⟨x,rfl⟩
    refine ⟨rfl,m,l,f.cs[dM v],x,List.getElem?_eq_getElem b,d,?_⟩;have e:v.num.toNat=dM v:=rfl;rw[e,d,List.getElem?_eq_getElem b] at h
    simpa using h
theorem oo {f:ai} {v:ak} (a:f.k≠1) (b:f.k≠18) (rf:f.k≠20):dI f.k v=v.aq:=by unfold dI;rw[if_neg a,if_neg ag]
theorem aaf {f c:ai} (X:bp f) (a:f.cs=[c]) (l:f.k=15) (U:∀x,c.fit x=true->cW c (λr=>c.tk r x) x) {v:ak} (A:f.fit v=true):cW f (λr=>f.tk r v) v:=by
 intro vs B h;dsimp only at h ⊢;have n:f.cs[0]? = some c:=by rw[a];rfl
 rw[ai.jF] at h ⊢;unfold gY at h ⊢;rw[if_neg ag,if_neg ag,if_pos l] at h ⊢;obtain ⟨T,D,S⟩:=fL h;have R:=iI.of (v:=v) T;rw[S];have hT:(f.cs.map ai.tk).getD 0 kW=c.tk:=by rw[a];rfl
 rw[hT] at D ⊢;obtain ⟨Q,C,P⟩:=fL D;obtain ⟨M,N⟩:=agU a l A;have m:=R.aC n;obtain ⟨F,E⟩:=EJ (G:=λx r=>c.tk r x) (i:=0) (xs:=v.items) (λx L=>U x (N x L)) (by rw[R.len,a];simp) m (ai.de n B) Q
 rw[P];rw[E] at C ⊢;obtain ⟨o,t⟩:=lH C;have g:0 < (cR v.aq (f.st vs)).2.kids.length:=by rw[R.len,a];simp
 have O:cG (((cR v.aq (f.st vs)).2).cK 0 (c.st (cg f.k f.w (cj f.cs) 0 vs++v.items))) 0 - cG (cR v.aq (f.st vs)).2 0=bg v.items:=by
  unfold cG;rw[iA g,m,nt,nt,lZ];omega
 rw[O] at o t ⊢;rw[eT,kr,R.b] at o;have o:bg vs+(16+bg v.items)<=4194304:=o;have s:v.aV=16+bg v.items:=by rw[gO,M];rfl
 have u:dI f.k v=v.aq:=oo ag ag ag;have e:cg f.k f.w (cj f.cs) 0 (vs++[v])=cg f.k f.w (cj f.cs) 0 vs++v.items:=by rw[l,Gd,Gd];simp
 refine ⟨nJ B A R.lt ag ag ag λj d q => ?_,?_⟩
 ·obtain ⟨rfl,rfl⟩:=sL a q;rw[e];exact F
 ·rw[t];refine nk ?_ (by rw[gu,gu,qH,R.len]) λj d q => ?_
  ·rw[eT,eT,kr,R.b];obtain ⟨y,V,I,H⟩:=jJ (k:=f.k) vs;obtain ⟨z,W,K,J⟩:=jJ (k:=f.k) (vs++[v]);have p:dU f.k=false:=by rw[l];rfl
   refine Rb.eq (nv f.k vs v v.aq) (nw u) (mj u) ?_ ((y p).1.trans (z p).1.symm) ((y p).2.trans (z p).2.symm) ?_ ((I ag).trans (K ag).symm) ((H ag).trans (J ag).symm)
   ·show bg vs+(16+bg v.items)=bg (vs++[v])
    rw[kg,s]
   ·show (aG f.k vs).ends++[((((cR v.aq (f.st vs)).2).cK 0 (c.st (cg f.k f.w (cj f.cs) 0 vs++v.items))).aC 0).b.rows]=(aG f.k (vs++[v])).ends
    rw[iA g,EF,<-e,l,Gd];simp[aG,QN,List.length_flatMap]
  ·obtain ⟨rfl,rfl⟩:=sL a q;rw[eZ,eZ,iA g,e]
theorem RD {α β:Type} (n:Nat) (a:α) (b:β):List.replicate n b=(List.replicate n a).map λ_=>b:=by simp
theorem Q5 {f c:ai} (a:f.cs=[c]) (S:f.k=16) {vs:List ak} {v:ak} {n:Bool} {m:Raw} (R:iI f vs v n m) (E:f.can vs) (Q:f.fit v=true) (D:dI f.k v=n) {l:List ak} {G:ak->Raw->Int × Raw} (O:∀x∈l,cW c (G x) x)
  (o:cg f.k f.w (cj f.cs) 0 (vs++[v])=cg f.k f.w (cj f.cs) 0 vs++l) {s:Raw->Nat} (P:∀e,(∃C,e=m.cK 0 (c.st C)/\C=cg f.k f.w (cj f.cs) 0 vs++l)->s e=v.aV) (h:(bL (cX (l.map λx=>bY 0 (G x)) m) λe=>cO (s e) e).1=0) :
  f.can (vs++[v])/\(bL (cX (l.map λx=>bY 0 (G x)) m) λe=>cO (s e) e).2=f.st (vs++[v]):=by
 have p:f.cs[0]? = some c:=by rw[a];rfl
 obtain ⟨U,u,T⟩:=fL h;have g:0 < m.kids.length:=by rw[R.len,a];simp
 obtain ⟨H,z⟩:=EJ (i:=0) O g (R.aC p) (ai.de p E) U;rw[T];have y:=P _ ⟨_,z,rfl⟩;rw[y] at u ⊢;rw[z] at u ⊢;obtain ⟨q,F⟩:=lH u;rw[kr,R.b] at q;have q:bg vs+v.aV<=4194304:=q;refine ⟨nJ E Q R.lt q ag ag λj d t => ?_,?_⟩
 ·obtain ⟨rfl,rfl⟩:=sL a t;rw[o];exact H
 ·rw[F];refine nk ?_ (by rw[gu,qH,R.len]) λj d t => ?_
  ·rw[eT,kr,R.b];obtain ⟨A,K,J,I⟩:=jJ (k:=f.k) vs;obtain ⟨B,N,M,L⟩:=jJ (k:=f.k) (vs++[v]);have r:dU f.k=false:=by rw[S];rfl
   refine Rb.eq (nv f.k vs v n) (nw D) (mj D) ?_ ((A r).1.trans (B r).1.symm) ((A r).2.trans (B r).2.symm) ((K ag).trans (N ag).symm) ((J ag).trans (M ag).symm) ((I ag).trans (L ag).symm)
   show bg vs+v.aV=bg (vs++[v])
   rw[kg]
  ·obtain ⟨rfl,rfl⟩:=sL a t;rw[eZ,iA g,o]
theorem T7 {f c:ai} (a:f.cs=[c]) {vs:List ak} {v:ak} {n:Bool} {d i:Raw} (R:iI f vs v n d) {j h:List ak} (l:i=d.cK 0 (c.st j)) (e:j=cg f.k f.w (cj f.cs) 0 vs++h):cG i 0 - cG d 0=bg h:=by
 have g:f.cs[0]? = some c:=by rw[a];rfl
 have b:0 < d.kids.length:=by rw[R.len,a];simp
 subst l e;unfold cG;rw[iA b,R.aC g,nt,nt,lZ];omega
theorem aad {f c:ai} (C:bp f) (a:f.cs=[c]) (d:f.k=16) (z:∀x,c.fit x=true->cW c (λr=>c.tk r x) x) (y:cW c c.zk c.bO) {v:ak} (g:f.fit v=true):cW f (λr=>f.tk r v) v:=by
  intro vs n h;dsimp only at h ⊢;rw[ai.jF] at h ⊢;unfold gY at h ⊢;rw[if_neg ag,if_neg ag,if_neg ag,if_pos d] at h ⊢;obtain ⟨t,e,s⟩:=fL h;have R:=iI.of (v:=v) t;rw[s];have hT:(f.cs.map ai.tk).getD 0 kW=c.tk:=by rw[a];rfl
  have q:(f.cs.map ai.zk).getD 0 iR=c.zk:=by rw[a];rfl
  have hN:(cj f.cs).getD 0 v0=c.bO:=by rw[a];rfl
  rw[hT,q] at e ⊢;have i:dI f.k v=v.aq:=oo ag ag ag;cases b:v.aq with
  | true =>
    simp only[b,if_true] at e ⊢;rw[b] at R i;have l:v=v0:=by rw[ai.c9] at g;exact (jR g b).1
    rw[RD f.w.toNat c.bO] at e ⊢;exact Q5 a d R n g i (G:=λ_=>c.zk) (λx j=>by rw[List.eq_of_mem_replicate j];exact y) (by rw[d,BG,BG,hN];simp[b]) (λ_ _=>by rw[l];rfl) e
  | false =>
    simp only[b,Bool.false_eq_true,if_false] at e ⊢;rw[b] at R i;obtain ⟨o,hl,p⟩:=Ob a d g b;refine Q5 a d R n g i (G:=λx r=>c.tk r x) (λx j=>z x (p x j)) (by rw[d,BG,BG,hN];simp[b]) (λA m => ?_) e
    obtain ⟨B,e1,u⟩:=m;rw[T7 a R e1 u,gO,o];rfl
theorem sum_add (g h:Nat->Nat):∀n,((List.range n).map λi=>g i+h i).sum=((List.range n).map g).sum+((List.range n).map h).sum
  | 0=>rfl
  | n+1=>by
    rw[List.range_succ,List.map_append,List.map_append,List.map_append,List.sum_append,List.sum_append,List.sum_append,sum_add g h n];simp;omega
theorem KQ {g h:Nat->Nat} {n:Nat} (e:∀i,i < n->g i=h i):((List.range n).map g).sum=((List.range n).map h).sum:=by
 congr 1;exact List.map_congr_left λi a=>e i (List.mem_range.1 a)
theorem EA {α:Type} (g:α->Nat) (d:α):∀l:List α,((List.range l.length).map λi=>g (l.getD i d)).sum=(l.map g).sum
  | []=>rfl
  | a::l=>by
    rw[List.length_cons,List.range_succ_eq_map,List.map_cons,List.map_map,List.sum_cons,List.map_cons,List.sum_cons]
    congr 1
    rw[<-EA g d l];rfl
theorem mN (r:Raw):total r=((List.range r.kids.length).map λi=>(r.aC i).b.aW).sum:=by
 unfold total Raw.aC;rw[EA (λc:Raw=>c.b.aW)]
theorem QT {f:ai} (Q:f.k=17) {vs:List ak} {v:ak} {n:Bool} {l:Raw} (R:iI f vs v n l) (E:f.can vs) (P:f.fit v=true) (D:dI f.k v=n) {x:Nat->ak} {G:Nat->Raw->Int × Raw} (N:∀i c,f.cs[i]? = some c->cW c (G i) (x i))
  (o:∀i,i < f.cs.length->cg f.k f.w (cj f.cs) i (vs++[v])=cg f.k f.w (cj f.cs) i vs++[x i]) {s:Raw->Nat} (O:∀e,(total e - total l=((List.range f.cs.length).map λi=>(x i).aV).sum)->s e=v.aV) (h:(bL (cX ((List.range f.cs.length).map λi=>bY i (G i)) l) λe=>cO (s e) e).1=0) :
  f.can (vs++[v])/\(bL (cX ((List.range f.cs.length).map λi=>bY i (G i)) l) λe=>cO (s e) e).2=f.st (vs++[v]):=by
 obtain ⟨V,t,U⟩:=fL h;obtain ⟨z,y,u⟩:=GI (kv:=λi=>cg f.k f.w (cj f.cs) i vs) R.len (λi c a=>⟨R.aC a,ai.de a E⟩) N f.cs.length (Nat.le_refl _) V;rw[U];generalize (cX ((List.range f.cs.length).map λi=>bY i (G i)) l).2=e at t z y u;have g:∀(i:Nat) c,f.cs[i]? = some c->e.aC i=c.st (cg f.k f.w (cj f.cs) i vs++[x i]):=λi c a=>by
  have:=(u i c a).2
  rwa [if_pos (List.getElem?_eq_some_iff.1 a).1] at this
 have T:total e - total l=((List.range f.cs.length).map λi=>(x i).aV).sum:=by
  rw[mN,mN,y,R.len];have W:((List.range f.cs.length).map λi=>(e.aC i).b.aW).sum=((List.range f.cs.length).map λi=>(l.aC i).b.aW+(x i).aV).sum:=KQ λi S=>by
   have a:f.cs[i]? = some f.cs[i]:=List.getElem?_eq_getElem S;rw[g i _ a,R.aC a,nt,nt,kg]
  rw[W,sum_add];omega
 have A:=O e T;rw[A] at t ⊢;obtain ⟨q,F⟩:=lH t;rw[z,R.b] at q;have q:bg vs+v.aV<=4194304:=q;refine ⟨nJ E P R.lt q ag ag λj d m => ?_,?_⟩
 ·have p:=(List.getElem?_eq_some_iff.1 m).1;rw[o j p];exact (u j d m).1 p
 ·rw[F];refine nk ?_ (by rw[gu,y]) λj d m => ?_
  ·rw[eT,z,R.b];obtain ⟨B,J,I,H⟩:=jJ (k:=f.k) vs;obtain ⟨C,M,L,K⟩:=jJ (k:=f.k) (vs++[v]);have r:dU f.k=false:=by rw[Q];rfl
   refine Rb.eq (nv f.k vs v n) (nw D) (mj D) ?_ ((B r).1.trans (C r).1.symm) ((B r).2.trans (C r).2.symm) ((J ag).trans (M ag).symm) ((I ag).trans (L ag).symm) ((H ag).trans (K ag).symm)
   show bg vs+v.aV=bg (vs++[v])
   rw[kg]
  ·rw[eZ,g j d m,o j (List.getElem?_eq_some_iff.1 m).1]
theorem kB {α:Type} {cs:List ai} {g:ai->α} {d:α} {i:Nat} {c:ai} (h:cs[i]? = some c):(cs.map g).getD i d=g c:=by
 rw[List.getD_eq_getElem?_getD,List.getElem?_map,h];rfl
theorem aab {f:ai} (y:bp f) (d:f.k=17) (u:∀c∈f.cs,∀x,c.fit x=true->cW c (λr=>c.tk r x) x) (t:∀c∈f.cs,cW c c.zk c.bO) {v:ak} (e:f.fit v=true):cW f (λr=>f.tk r v) v:=by
  intro vs o h;dsimp only at h ⊢;rw[ai.jF] at h ⊢;unfold gY at h ⊢;rw[if_neg ag,if_neg ag,if_neg ag,if_neg ag,if_pos d] at h ⊢;obtain ⟨s,g,q⟩:=fL h;have R:=iI.of (v:=v) s;rw[q];rw[List.length_map] at g ⊢;have j:dI f.k v=v.aq:=oo ag ag ag;cases b:v.aq with
  | true =>
    simp only[b,if_true] at g ⊢;rw[b] at R j;have m:v=v0:=by rw[ai.c9] at e;exact (jR e b).1
    refine QT d R o e j (x:=λi=>(cj f.cs).getD i v0) (G:=λi=>(f.cs.map ai.zk).getD i iR) (λi c a => ?_) (λi l=>by rw[d,BF,BF];simp[b]) (λ_ _=>by rw[m];rfl) g
    rw[kB a,cj,kB a];exact t c (List.mem_of_getElem? a)
  | false =>
    simp only[b,Bool.false_eq_true,if_false] at g ⊢;rw[b] at R j;obtain ⟨p,hl,l⟩:=FM d e b;refine QT d R o e j (x:=λi=>v.items.getD i v0) (G:=λi c=>((f.cs.map ai.tk).getD i kW) c (v.items.getD i v0)) (λi c a => ?_) (λi l=>by rw[d,BF,BF];simp[b]) (λw n => ?_) g
    · rw[kB a];exact u c (List.mem_of_getElem? a) _ (l i c a)
    · rw[n,<-hl,EA ak.aV v0,SR,gO,p];rfl
theorem agx {α:Type} {l m:List α} {d:α} {i:Nat} (h:i < l.length):(l++m).getD i d=l.getD i d:=by
 rw[List.getD_eq_getElem?_getD,List.getElem?_append_left h,<-List.getD_eq_getElem?_getD]
theorem agv {α:Type} {l:List α} {d a:α}:(l++[a]).getD l.length d=a:=by
 rw[List.getD_eq_getElem?_getD,List.getElem?_append_right (Nat.le_refl _)];simp
theorem aem {f c:ai} (z:f.k=18) {vs:List ak} {v x:ak} {a:Nat} {g:Raw->Int × Raw} (l:dM v=a) (t:v.items=[x]) (P:v.text=[]) (m:f.cs[a]? = some c) (S:cW c g x) (C:f.can vs) (O:f.fit v=true)
  (h:(mT a g (f.st vs)).1=0):f.can (vs++[v])/\(mT a g (f.st vs)).2=f.st (vs++[v]):=by
 unfold mT at h ⊢;obtain ⟨X,W,V⟩:=fL h;have R:=iI.of (v:=v) X;rw[V];obtain ⟨I,A,U⟩:=fL W;rw[U];generalize (cR false (f.st vs)).2=p at R I A;have u:a < p.kids.length:=by rw[R.len];exact (List.getElem?_eq_some_iff.1 m).1
 obtain ⟨L,K⟩:=xN S (i:=a) (r:=p.up λb=>{ b with all:=b.all++[UInt8.ofNat a],ends:=b.ends++[(p.aC a).b.rows] }) (by rw[eZ];exact R.aC m) (ai.de m C) I
 rw[K] at A ⊢;have o:a < (p.up λb=>{ b with all:=b.all++[UInt8.ofNat a],ends:=b.ends++[(p.aC a).b.rows] }).kids.length:=by rw[gu];exact u
 have T:cG ((p.up λb=>{ b with all:=b.all++[UInt8.ofNat a],ends:=b.ends++[(p.aC a).b.rows] }).cK a (c.st (cg f.k f.w (cj f.cs) a vs++[x]))) a - cG p a=x.aV:=by
  unfold cG;rw[iA o,R.aC m,nt,nt,kg];omega
 rw[T] at A ⊢;obtain ⟨B,J⟩:=lH A;rw[kr,eT,R.b] at B;have B:bg vs+(16+x.aV)<=4194304:=B;have D:v.aV=16+x.aV:=by rw[gO,P,t];simp[bg]
 have F:dI f.k v=false:=by unfold dI;rw[if_neg ag,if_pos ag]
 have n:∀j,cg f.k f.w (cj f.cs) j (vs++[v])=if j=a then cg f.k f.w (cj f.cs) j vs++[x] else cg f.k f.w (cj f.cs) j vs:=by
  intro j;rw[z,Gc,Gc];simp only[List.filter_append,List.map_append];split
  ·rename_i e;subst e;simp[l,t]
  ·rename_i e
   have:¬dM v=j:=by rw[l];exact λq=>e q.symm
   simp[this]
 refine ⟨nJ C O R.lt ag ag ag λj d s => ?_,?_⟩
 ·rw[n];split
  ·rename_i e;subst e
   rw[m] at s;cases s;exact L
  ·exact ai.de s C
 ·rw[J];refine nk ?_ (by rw[gu,qH,gu,R.len]) λj d s => ?_
  ·rw[eT,kr,eT,R.b];obtain ⟨G,Z,Y,M⟩:=jJ (k:=f.k) vs;obtain ⟨H,m2,m3,N⟩:=jJ (k:=f.k) (vs++[v]);have y:dU f.k=false:=by rw[z];rfl
   refine Rb.eq (nv f.k vs v false) (nw F) (mj F) ?_ ((G y).1.trans (H y).1.symm) ((G y).2.trans (H y).2.symm) ?_ ?_ ((M ag).trans (N ag).symm)
   ·show bg vs+(16+x.aV)=bg (vs++[v])
    rw[kg,D]
   ·show (aG f.k vs).ends++[(p.aC a).b.rows]=(aG f.k (vs++[v])).ends
    rw[R.aC m,EF,z,Gc];simp only[aG];simp only[show ¬((18:Int)=12\/(18:Int)=13) by omega,show ¬((18:Int)=15) by omega,if_false,if_true]
    rw[List.length_append,List.length_singleton,List.range_succ,List.map_append]
    congr 1
    ·refine List.map_congr_left λi Q => ?_;have E:=List.mem_range.1 Q;rw[QC _ _ ag,agx E]
    ·simp[agv,l]
   ·show (aG f.k vs).all++[UInt8.ofNat a]=(aG f.k (vs++[v])).all
    rw[z];simp[aG,l]
  ·rw[eZ]
   by_cases e:j=a
   ·subst e;rw[iA o,n,if_pos rfl];rw[m] at s;cases s;rfl
   ·rw[uD (λq=>e q.symm),eZ,R.aC s,n,if_neg e]
theorem aai {f:ai} (i:bp f) (b:f.k=18) (o:∀c∈f.cs,∀x,c.fit x=true->cW c (λr=>c.tk r x) x) {v:ak} (d:f.fit v=true):cW f (λr=>f.tk r v) v:=by
 intro vs m h;dsimp only at h ⊢;rw[ai.jF] at h ⊢;unfold gY at h ⊢;rw[if_neg ag,if_neg ag,if_neg ag,if_neg ag,if_neg ag,if_pos b] at h ⊢;have hl:f.lets=false:=by rw[qR f i];exact i.right.2.1.2.1 b
 obtain ⟨_,l,_,c,x,a,g,j⟩:=Od b hl d;have e:v.num.toNat=dM v:=rfl;have n:(f.cs.map ai.tk).getD (dM v) kW=c.tk:=kB a;rw[e,n,g] at h ⊢;exact aem b rfl g l a (o c (List.mem_of_getElem? a) x j) m d h
theorem AV {v:ak}:∀{l:List ak} {i:Nat},dS v l=some i->l[i]? = some v/\∀j,j < i->l[j]? ≠ some v
  | [],i,h=>by simp[dS] at h
  | x::f,i,h=>by
    unfold dS at h;split at h
    · rename_i e;cases h;subst e;exact ⟨rfl,λj b=>by omega⟩
    · rename_i e
      rw[Option.map_eq_some_iff] at h;obtain ⟨k,a,rfl⟩:=h;obtain ⟨d,c⟩:=AV a;refine ⟨by simpa using d,λj b => ?_⟩
      cases j with
      | zero=>simpa using e
      | succ j=>simpa using c j ag
theorem AW {v:ak}:∀{l:List ak},dS v l=none↔v∉l
  | []=>by simp[dS]
  | x::a=>by
    unfold dS;split
    · rename_i e;subst e;simp
    · rename_i e
      rw[Option.map_eq_none_iff,AW (l:=a)];simp only[List.mem_cons,not_or];exact ⟨λh=>⟨λq=>e q.symm,h⟩,λh=>h.2⟩
theorem RZ {v:ak} {X:List ak}:∀{l:List ak} {i:Nat},dS v l=some i->dS v (l++X)=some i
  | [],i,h=>by simp[dS] at h
  | x::b,i,h=>by
    unfold dS at h;simp only[List.cons_append];unfold dS;split
    · rename_i e;rw[if_pos e] at h;exact h
    · rename_i e
      rw[if_neg e,Option.map_eq_some_iff] at h;obtain ⟨k,a,rfl⟩:=h;rw[RZ a];rfl
theorem RY {v:ak}:∀{l:List ak},dS v l=none->dS v (l++[v])=some l.length
  | [],_=>by simp[dS]
  | x::a,h=>by
    unfold dS at h;split at h
    · cases h
    · rename_i e
      rw[Option.map_eq_none_iff] at h;simp only[List.cons_append];unfold dS;rw[if_neg e,RY h];rfl
theorem ahP {l:List ak} {v Y:ak} (h:Y∈l):Y∈pO l v:=by
 unfold pO;split
 ·exact h
 ·split
  ·exact h
  ·exact List.mem_append_left _ h
theorem ahO {l:List ak} {v:ak} (h:v.aq=false):v∈pO l v:=by
 unfold pO;rw[if_neg (by simp[h])]
 split
 ·rename_i i a;exact List.mem_of_getElem? (AV a).1
 ·simp
theorem MM:∀(n:Nat) (vs:List ak),vs.length=n->∀u∈vs,u.aq=false->u∈ez vs
  | 0,vs,b,u,d,_=>by
    have:vs=[]:=List.eq_nil_of_length_eq_zero b;subst this;simp at d
  | n+1,vs,b,u,d,h=>by
    have a:vs≠[]:=by intro e;subst e;simp at b
    obtain ⟨c,w,rfl⟩:∃c w,vs=c++[w]:=⟨vs.dropLast,vs.getLast a,(List.dropLast_concat_getLast a).symm⟩;rw[BC];rcases List.mem_append.1 d with q | q
    · exact ahP (MM n c (by simp at b;omega) u q h)
    · simp at q;subst q;exact ahO h
theorem xq:∀(n:Nat) (vs:List ak),vs.length=n->(bR vs).2.getLastD 0=vs.length/\(bR vs).1.length=(bR vs).2.length
  | 0,vs,c=>by
    have:vs=[]:=List.eq_nil_of_length_eq_zero c;subst this;exact ⟨rfl,rfl⟩
  | n+1,vs,c=>by
    have b:vs≠[]:=by intro e;subst e;simp at c
    obtain ⟨a,w,rfl⟩:∃a w,vs=a++[w]:=⟨vs.dropLast,vs.getLast b,(List.dropLast_concat_getLast b).symm⟩;obtain ⟨f,d⟩:=xq n a (by simp at c;omega)
    rw[AO];unfold uJ;split
    · rename_i e
      have g:(bR a).2≠[]:=by
        intro q;rw[q] at d;have:(bR a).1=[]:=List.eq_nil_of_length_eq_zero (by simpa using d)
        rw[this] at e;simp at e
      have hl:=List.length_pos_iff.2 g;refine ⟨by rw[List.getLastD_concat,f];simp,?_⟩
      show (bR a).1.length=((bR a).2.dropLast++[_]).length
      rw[List.length_append,List.length_dropLast,List.length_singleton];omega
    · refine ⟨by rw[List.getLastD_concat,f];simp,?_⟩
      show ((bR a).1++[w]).length=((bR a).2++[_]).length
      simp[d]
theorem UB {f c:ai} (b:f.cs=[c]) (e:f.k=19\/f.k=20) {v:ak} (a:f.fit v=true) (d:v.aq=false):c.fit v=true:=by
 rw[ai.c9] at a;unfold dr at a;rw[b] at a;simp[d,e] at a;exact a.2
theorem aah {f c:ai} (hf:bp f) (o:f.cs=[c]) (C:f.k=19) (IH:∀x,c.fit x=true->cW c (λr=>c.tk r x) x) {v:ak} (H:f.fit v=true):cW f (λr=>f.tk r v) v:=by
  intro vs D h;dsimp only at h ⊢;have J:f.cs[0]? = some c:=by rw[o];rfl
  have K:=(ai.eC f vs).1 D;rw[ai.jF] at h ⊢;unfold gY at h ⊢;rw[if_neg ag,if_neg ag,if_neg ag,if_neg ag,if_neg ag,if_neg ag,if_pos C] at h ⊢;obtain ⟨h1,s,h3⟩:=fL h;have R:=iI.of (v:=v) h1;rw[h3];have hT:(f.cs.map ai.tk).getD 0 kW=c.tk:=by rw[o];rfl
  rw[hT] at s ⊢;have B:dI f.k v=v.aq:=oo ag ag ag;generalize (cR v.aq (f.st vs)).2=U at R s;have M:0 < U.kids.length:=by rw[R.len,o];simp
  have E:U.b.vals=ez vs:=by rw[R.b];show (aG f.k vs).vals=_;simp[aG,C]
  obtain ⟨F,n2,N,n4⟩:=jJ (k:=f.k) vs;obtain ⟨G,m2,O,m4⟩:=jJ (k:=f.k) (vs++[v]);have q:dU f.k=false:=by rw[C];rfl
  have a:∀j p,cg f.k f.w (cj f.cs) j p=ez p:=λj p=>by rw[C,BE]
  have z:∀p,(aG f.k p).ends=p.map λu=>if u.aq then 0 else (dS u (ez p)).getD 0:=λp=>by rw[C];simp[aG]
  have g:∀p,(aG f.k p).vals=ez p:=λp=>by simp[aG,C]
  have P:∀u∈vs,(if u.aq then 0 else (dS u (ez (vs++[v]))).getD 0)=if u.aq then 0 else (dS u (ez vs)).getD 0:=by
    intro u Y;cases T:u.aq with
    | true=>rfl
    | false =>
      simp only[Bool.false_eq_true,if_false];cases t:dS u (ez vs) with
      | none=>exact absurd (MM _ vs rfl u Y T) (AW.1 t)
      | some i =>
        rw[BC];unfold pO;split
        · rw[t]
        · split
          · rw[t]
          · rw[RZ t]
  have l:(aG f.k (vs++[v])).ends=(aG f.k vs).ends++[if v.aq then 0 else (dS v (ez (vs++[v]))).getD 0]:=by
    rw[z,z,List.map_append,List.map_singleton]
    congr 1
    exact List.map_congr_left P
  cases A:v.aq with
  | true =>
    rw[A] at R B l;simp only[A,if_true] at s ⊢;obtain ⟨n,I⟩:=lH s;rw[eT,R.b] at n;have n:bg vs+16<=4194304:=n;have S:v=v0:=by rw[ai.c9] at H;exact (jR H A).1
    have Q:v.aV=16:=by rw[S];rfl
    have m:ez (vs++[v])=ez vs:=by rw[BC];unfold pO;rw[if_pos A]
    refine ⟨nJ D H R.lt ag ag (λe=>by rw[m];exact K.ds e) λj d y=>by rw[a,m,<-a];exact ai.de y D,?_⟩
    rw[I];refine nk ?_ (by rw[gu,gu,R.len]) λj d y=>by rw[eZ,eZ,R.aC y,a,a,m]
    rw[eT,eT,R.b];refine Rb.eq (nv f.k vs v true) (nw B) (mj B) ?_ ((F q).1.trans (G q).1.symm) ((F q).2.trans (G q).2.symm) ?_ ((N ag).trans (O ag).symm) ?_
    · show bg vs+16=bg (vs++[v])
      rw[kg,Q]
    · show (aG f.k vs).ends++[0]=(aG f.k (vs++[v])).ends
      rw[l];rfl
    · show (aG f.k vs).vals=(aG f.k (vs++[v])).vals
      rw[g,g,m]
  | false =>
    rw[A] at R B l;simp only[A,Bool.false_eq_true,if_false] at s l ⊢;rw[E] at s ⊢;cases t:dS v (ez vs) with
    | some i =>
      simp only[t] at s ⊢;obtain ⟨n,I⟩:=lH s;rw[eT,R.b] at n;have n:bg vs+v.aV<=4194304:=n;have m:ez (vs++[v])=ez vs:=by rw[BC];unfold pO;rw[if_neg (by simp[A]),t]
      refine ⟨nJ D H R.lt n ag (λe=>by rw[m];exact K.ds e) λj d y=>by rw[a,m,<-a];exact ai.de y D,?_⟩
      rw[I];refine nk ?_ (by rw[gu,gu,R.len]) λj d y=>by rw[eZ,eZ,R.aC y,a,a,m]
      rw[eT,eT,R.b];refine Rb.eq (nv f.k vs v false) (nw B) (mj B) ?_ ((F q).1.trans (G q).1.symm) ((F q).2.trans (G q).2.symm) ?_ ((N ag).trans (O ag).symm) ?_
      · show bg vs+v.aV=bg (vs++[v])
        rw[kg]
      · show (aG f.k vs).ends++[i]=(aG f.k (vs++[v])).ends
        rw[l,m,t];rfl
      · show (aG f.k vs).vals=(aG f.k (vs++[v])).vals
        rw[g,g,m]
    | none =>
      simp only[t] at s ⊢;split at s
      · simp at s
      rename_i L
      rw[if_neg L];obtain ⟨h4,V,Z⟩:=fL s;rw[Z];obtain ⟨X,W⟩:=xN (IH v (UB o (.inl C) H A)) (i:=0) (R.aC J) (ai.de J D) h4;rw[W] at V ⊢;obtain ⟨n,I⟩:=lH V;rw[eT,kr,R.b] at n;have n:bg vs+v.aV<=4194304:=n;have m:ez (vs++[v])=ez vs++[v]:=by rw[BC];unfold pO;rw[if_neg (by simp[A]),t]
      refine ⟨nJ D H R.lt n ag (λ_=>by rw[m];simp;omega) λj d y => ?_,?_⟩
      · obtain ⟨rfl,rfl⟩:=sL o y;rw[a,m,<-a 0];exact X
      rw[I];refine nk ?_ (by rw[gu,gu,qH,R.len]) λj d y => ?_
      · rw[eT,eT,kr,R.b];refine Rb.eq (nv f.k vs v false) (nw B) (mj B) ?_ ((F q).1.trans (G q).1.symm) ((F q).2.trans (G q).2.symm) ?_ ((N ag).trans (O ag).symm) ?_
        · show bg vs+v.aV=bg (vs++[v])
          rw[kg]
        · show (aG f.k vs).ends++[(aG f.k vs).vals.length]=(aG f.k (vs++[v])).ends
          rw[l,m,RY t,g];rfl
        · show (aG f.k vs).vals++[v]=(aG f.k (vs++[v])).vals
          rw[g,g,m]
      · obtain ⟨rfl,rfl⟩:=sL o y;rw[eZ,eZ,iA M,a 0 (vs++[v]),m,<-a 0]
theorem aae {f c:ai} (J:bp f) (m:f.cs=[c]) (s:f.k=20) (IH:∀x,c.fit x=true->cW c (λr=>c.tk r x) x) {v:ak} (G:f.fit v=true):cW f (λr=>f.tk r v) v:=by
  intro vs H h;dsimp only at h ⊢;have y:f.cs[0]? = some c:=by rw[m];rfl
  rw[ai.jF] at h ⊢;unfold gY at h ⊢;rw[if_neg ag,if_neg ag,if_neg ag,if_neg ag,if_neg ag,if_neg ag,if_neg ag,if_pos s] at h ⊢;obtain ⟨Y,u,X⟩:=fL h;have R:=iI.of (v:=v) Y;rw[X];have hT:(f.cs.map ai.tk).getD 0 kW=c.tk:=by rw[m];rfl
  rw[hT] at u ⊢;have D:dI f.k v=false:=by unfold dI;rw[if_neg ag,if_pos ag]
  generalize (cR false (f.st vs)).2=M at R u;have C:0 < M.kids.length:=by rw[R.len,m];simp
  have Z:c.fit v=true:=by
    cases P:v.aq with
    | false=>exact UB m (.inr s) G P
    | true =>
      have A:=G;rw[ai.c9] at A;obtain ⟨rfl,hl⟩:=jR A P;have L:c.lets=true:=by
        rw[qR f J] at hl;obtain ⟨d,Q,K⟩:=J.right.2.1.2.2 s;rw[y] at Q;cases Q;rw[qR c (J.aC (by rw[m];simp)),<-K];exact hl
      rw[ai.c9,L];exact UC
  have z:M.b.vals=(bR vs).1:=by rw[R.b];show (aG f.k vs).vals=_;simp[aG,s]
  obtain ⟨E,n2,N,n4⟩:=jJ (k:=f.k) vs;obtain ⟨F,m2,O,m4⟩:=jJ (k:=f.k) (vs++[v]);have q:dU f.k=false:=by rw[s];rfl
  have a:∀j n,cg f.k f.w (cj f.cs) j n=(bR n).1:=λj n=>by rw[s,Ga]
  have l:∀n,(aG f.k n).ends=(bR n).2:=λn=>by rw[s];simp[aG]
  have g:∀n,(aG f.k n).vals=(bR n).1:=λn=>by simp[aG,s]
  have B:=(xq _ vs rfl).1;rw[z] at u ⊢
  by_cases e:(bR vs).1.getLast? = some v
  · simp only[e,if_true] at u ⊢;obtain ⟨o,I⟩:=lH u;rw[eT,R.b] at o;have o:bg vs+v.aV<=4194304:=o;have p:bR (vs++[v])=((bR vs).1,(bR vs).2.dropLast++[(bR vs).2.getLastD 0+1]):=by rw[AO];unfold uJ;rw[if_pos e]
    refine ⟨nJ H G R.lt o ag ag λj d t=>by rw[a,p,<-a j vs];exact ai.de t H,?_⟩
    rw[I];refine nk ?_ (by rw[gu,gu,R.len]) λj d t=>by rw[eZ,eZ,R.aC t,a,a,p]
    rw[eT,eT,R.b];refine Rb.eq (nv f.k vs v false) (nw D) (mj D) ?_ ((E q).1.trans (F q).1.symm) ((E q).2.trans (F q).2.symm) ?_ ((N ag).trans (O ag).symm) ?_
    · show bg vs+v.aV=bg (vs++[v])
      rw[kg]
    · show (aG f.k vs).ends.dropLast++[(aG f.k vs).rows+1]=(aG f.k (vs++[v])).ends
      rw[l,l,p,B];rfl
    · show (aG f.k vs).vals=(aG f.k (vs++[v])).vals
      rw[g,g,p]
  · simp only[e,if_false] at u ⊢;obtain ⟨W,S,V⟩:=fL u;rw[V];obtain ⟨U,T⟩:=xN (IH v Z) (i:=0) (R.aC y) (ai.de y H) W;rw[T] at S ⊢;obtain ⟨o,I⟩:=lH S;rw[eT,kr,R.b] at o;have o:bg vs+v.aV<=4194304:=o;have p:bR (vs++[v])=((bR vs).1++[v],(bR vs).2++[(bR vs).2.getLastD 0+1]):=by rw[AO];unfold uJ;rw[if_neg e]
    refine ⟨nJ H G R.lt o ag ag λj d t => ?_,?_⟩
    · obtain ⟨rfl,rfl⟩:=sL m t;rw[a,p,<-a 0 vs];exact U
    rw[I];refine nk ?_ (by rw[gu,gu,qH,R.len]) λj d t => ?_
    · rw[eT,eT,kr,R.b];refine Rb.eq (nv f.k vs v false) (nw D) (mj D) ?_ ((E q).1.trans (F q).1.symm) ((E q).2.trans (F q).2.symm) ?_ ((N ag).trans (O ag).symm) ?_
      · show bg vs+v.aV=bg (vs++[v])
        rw[kg]
      · show (aG f.k vs).ends++[(aG f.k vs).rows+1]=(aG f.k (vs++[v])).ends
        rw[l,l,p,B];rfl
      · show (aG f.k vs).vals++[v]=(aG f.k (vs++[v])).vals
        rw[g,g,p]
    · obtain ⟨rfl,rfl⟩:=sL m t;rw[eZ,eZ,iA C,a 0 (vs++[v]),p,<-a 0 vs]
def yC (c:ai):Prop:=∀vs,c.can vs->(c.zk (c.st vs)).1=0->c.small=true
theorem EH (f:ai):f.small=true↔f.wz<=4194304:=by simp[ai.small]
theorem Re {f:ai} (b:bp f) (c:¬(16<=f.k/\f.k<=20)):f.small=true:=by
 rw[EH,ai.ux];unfold si;split
 ·omega
 ·have a:=b.right.1.2.2.1;have:f.k=14->f.w.toNat<=16:=λe=>by have:=a e;omega
  split
  ·rename_i e;have:=this e;omega
  ·split
   ·omega
   ·split
    ·omega
    ·split
     ·omega
     ·split <;> omega
theorem Yv {f:ai} (a:¬f.small=true):f.lets=false:=by
  cases hl:f.lets with
  | false=>rfl
  | true =>
    exfalso;apply a
    rw[EH,ai.ux,si,hl];simp
theorem XM {f:ai} (H:bp f) (J:∀c∈f.cs,cW c c.zk c.bO/\yC c):yC f:=by
  intro vs u h;apply Classical.byContradiction;intro O;have hk:16<=f.k/\f.k<=20:=Classical.byContradiction λq=>O (Re H q);have j:4194304 < f.wz:=by rw[EH] at O;omega
  rw[ai.ux,si,(Yv O)] at j;rw[ai.qB] at h;unfold ng at h;rw[if_neg (by simp[O,hk])] at h
  simp only[Bool.false_eq_true,if_false] at j;rw[if_neg ag] at j
  by_cases A:f.k=16
  · obtain ⟨c,o,D⟩:=H.one ag;have s4:=H.right.1.2.2.2.1 A;have d:f.cs[0]? = some c:=by rw[o];rfl
    obtain ⟨T,B⟩:=J c (by rw[o];simp)
    rw[if_pos A] at h j;have hZ:(f.cs.map ai.zk).getD 0 iR=c.zk:=by rw[o];rfl
    have hW:(f.cs.map ai.wz).getD 0 0=c.wz:=by rw[o];rfl
    rw[hZ] at h;rw[hW] at j;obtain ⟨y,p,P⟩:=fL h;have R:=iI.of (v:=v0) y;obtain ⟨n,l,h6⟩:=fL p;have s:0 < (cR false (f.st vs)).2.kids.length:=by rw[R.len,o];simp
    have hw:f.w.toNat=(f.w.toNat - 1)+1:=ag;have C:c.small=true:=by
      rw[hw,List.replicate_succ,cX] at n;obtain ⟨V,_,_⟩:=fL n;unfold bY at V;rw[R.aC d] at V;exact B _ (ai.de d u) V
    rw[RD f.w.toNat c.bO] at n l;obtain ⟨q1,S⟩:=EJ (G:=λ_=>c.zk) (i:=0) (λx hx=>by rw[List.eq_of_mem_replicate hx];exact T) s (R.aC d) (ai.de d u) n
    obtain ⟨_,_,W,_⟩:=ob D C;rw[T7 o R S rfl,Qe,W] at l;obtain ⟨Y,_⟩:=lH l;omega
  rw[if_neg A] at h j
  by_cases L:f.k=17
  · rw[if_pos L] at h j;obtain ⟨y,p,P⟩:=fL h;have R:=iI.of (v:=v0) y;obtain ⟨n,l,h6⟩:=fL p;rw[List.length_map] at n l;have N:∀m,m<=f.cs.length->(cX ((List.range m).map λi=>bY i ((f.cs.map ai.zk).getD i iR)) (cR false (f.st vs)).2).1=0->∀i c,i < m->f.cs[i]? = some c->c.small=true:=by
      intro m
      induction m with
      | zero=>intro _ _ i c t;omega
      | succ m ih =>
        intro hm hh i c t r;rw[List.range_succ,List.map_append,List.map_singleton,K0] at hh;obtain ⟨g1,I,g3⟩:=fL hh
        by_cases e:i < m
        · exact ih ag g1 i c e r
        · obtain rfl:i=m:=ag;have E:∀i c,f.cs[i]? = some c->cW c ((f.cs.map ai.zk).getD i iR) (c.bO):=λi c a=>by rw[kB a];exact (J c (List.mem_of_getElem? a)).1
          obtain ⟨_,_,Q⟩:=GI (x:=λi=>(cj f.cs).getD i v0) (kv:=λi=>cg f.k f.w (cj f.cs) i vs) R.len (λi c a=>⟨R.aC a,ai.de a u⟩) (G:=λi=>(f.cs.map ai.zk).getD i iR) (λi c a=>by rw[cj,kB (g:=ai.bO) a];exact E i c a) i ag g1
          have:=(Q i c r).2;rw[if_neg ag] at this;unfold bY at I;dsimp only at this I;rw[kB (g:=ai.zk) r] at I
          erw[this] at I
          exact (J c (List.mem_of_getElem? r)).2 _ (ai.de r u) I
    obtain ⟨a1,a2,Q⟩:=GI (x:=λi=>(cj f.cs).getD i v0) (kv:=λi=>cg f.k f.w (cj f.cs) i vs) R.len (λi c a=>⟨R.aC a,ai.de a u⟩) (λi c a=>by rw[cj,kB a,kB a];exact (J c (List.mem_of_getElem? a)).1) f.cs.length (Nat.le_refl _) n
    generalize (cX ((List.range f.cs.length).map λi=>bY i ((f.cs.map ai.zk).getD i iR)) (cR false (f.st vs)).2).2=Z at l a1 a2 Q;have U:total Z - total (cR false (f.st vs)).2=((List.range f.cs.length).map λi=>((cj f.cs).getD i v0).aV).sum:=by
      rw[mN,mN,a2,R.len];have e2:((List.range f.cs.length).map λi=>(Z.aC i).b.aW).sum=((List.range f.cs.length).map λi=>((cR false (f.st vs)).2.aC i).b.aW+((cj f.cs).getD i v0).aV).sum:=KQ λi t=>by
        have a:f.cs[i]? = some f.cs[i]:=List.getElem?_eq_getElem t;have:=(Q i _ a).2;rw[if_pos t] at this;rw[this,R.aC a,nt,nt,kg]
      rw[e2,sum_add];omega
    have X:((List.range f.cs.length).map λi=>((cj f.cs).getD i v0).aV).sum=(f.cs.map ai.wz).sum:=by
      rw[<-EA ai.wz (.mk (bs []) false 0 0 0 0 []) f.cs];refine KQ λi t => ?_;have a:f.cs[i]? = some f.cs[i]:=List.getElem?_eq_getElem t;rw[cj,kB a,(ob (H.aC (List.getElem_mem t)) ((N f.cs.length (Nat.le_refl _) n) i _ t a)).2.2.1,List.getD_eq_getElem?_getD,a];rfl
    rw[U,X] at l;obtain ⟨Y,_⟩:=lH l;omega
  rw[if_neg L] at h j
  by_cases z:f.k=18
  · rw[if_pos z] at h j;have a':=H.right.1.2.2.2.2.2.2.2.2.2.1 z;have d:f.cs[0]? = some f.cs[0]:=List.getElem?_eq_getElem ag;generalize f.cs[0]=c at d;have D:=H.aC (List.mem_of_getElem? d);obtain ⟨T,B⟩:=J c (List.mem_of_getElem? d);rw[kB d] at h j;unfold mT at h;obtain ⟨y,p,P⟩:=fL h;have R:=iI.of (v:=v0) y;obtain ⟨n,l,h6⟩:=fL p;generalize (cR false (f.st vs)).2=F at R n l;have s:0 < F.kids.length:=by rw[R.len];omega
    have M:(F.up λb=>{ b with all:=b.all++[UInt8.ofNat 0],ends:=b.ends++[(F.aC 0).b.rows] }).aC 0=c.st (cg f.k f.w (cj f.cs) 0 vs):=by rw[eZ];exact R.aC d
    obtain ⟨q1,S⟩:=xN T M (ai.de d u) n;have C:c.small=true:=by
      unfold bY at n;rw[M] at n;exact B _ (ai.de d u) n
    rw[S] at l;have U:cG ((F.up λb=>{ b with all:=b.all++[UInt8.ofNat 0],ends:=b.ends++[(F.aC 0).b.rows] }).cK 0 (c.st (cg f.k f.w (cj f.cs) 0 vs++[c.bO]))) 0 - cG F 0=c.bO.aV:=by
      unfold cG;rw[iA (by rw[gu];exact s),R.aC d,nt,nt,kg];omega
    rw[U,(ob D C).2.2.1] at l;obtain ⟨Y,_⟩:=lH l;omega
  rw[if_neg z] at h
  by_cases K:f.k=19
  · rw[if_pos K] at h;obtain ⟨y,p,P⟩:=fL h;split at p
    · simp at p
    · obtain ⟨_,l,_⟩:=fL p;simp at l
  · rw[if_neg K] at h;obtain ⟨y,p,P⟩:=fL h;obtain ⟨_,l,_⟩:=fL p;simp at l
theorem XO {f:ai} (g:bp f) (d:yC f) (c:∀v,f.fit v=true->cW f (λr=>f.tk r v) v):cW f f.zk f.bO:=by
 intro vs b h;have a:=d vs b h;have e:f.zk=λr=>f.tk r f.bO:=by
  rw[ai.qB];funext r;unfold ng;rw[if_pos (.inl a)]
 rw[e] at h ⊢;exact c _ (ob g a).2.1 vs b h
theorem ED:∀f:ai,bp f->(∀v,f.fit v=true->cW f (λr=>f.tk r v) v)/\cW f f.zk f.bO/\yC f
  | .mk q aq k w id ix cs,b=>by
    have d:∀c∈cs,(∀v,c.fit v=true->cW c (λr=>c.tk r v) v)/\cW c c.zk c.bO/\yC c:=λc e=>ED c (b.aC e);generalize s:ai.mk q aq k w id ix cs=f at b;have d:∀c∈f.cs,(∀v,c.fit v=true->cW c (λr=>c.tk r v) v)/\cW c c.zk c.bO/\yC c:=by rw[<-s];exact d
    have p:∀v,f.fit v=true->cW f (λr=>f.tk r v) v:=by
      intro v g;have ks:=b.ks
      by_cases h:f.k=15
      · obtain ⟨c,a,_⟩:=b.one (.inl h);exact aaf b a h (d c (by rw[a];simp)).1 g
      by_cases n:f.k=16
      · obtain ⟨c,a,_⟩:=b.one ag;have:=d c (by rw[a];simp)
        exact aad b a n this.1 this.2.1 g
      by_cases m:f.k=17
      · exact aab b m (λc e=>(d c e).1) (λc e=>(d c e).2.1) g
      by_cases l:f.k=18
      · exact aai b l (λc e=>(d c e).1) g
      by_cases j:f.k=19
      · obtain ⟨c,a,_⟩:=b.one ag;exact aah b a j (d c (by rw[a];simp)).1 g
      by_cases i:f.k=20
      · obtain ⟨c,a,_⟩:=b.one ag;exact aae b a i (d c (by rw[a];simp)).1 g
      exact QV b ⟨h,n,m,l,j,i⟩ g
    have o:=XM b λc e=>(d c e).2;exact ⟨p,XO b o p,o⟩
theorem aex {cs:List ai} {r:Raw} {j:Nat} {c:ai} (a:cs[j]? = some c):((List.range (cs.map ai.dn).length).map λi=>((cs.map ai.dn).getD i λ_=>oJ) (r.aC i))[j]? = some (c.dn (r.aC j)):=by
 have b:=(List.getElem?_eq_some_iff.1 a).1;rw[List.getElem?_map,List.getElem?_range (by rw[List.length_map];exact b)]
 simp only[Option.map_some];rw[kB a]
theorem ahC {k w ix:Int} {D:List (Raw->aJ)} {r:Raw}:(iX k w ix D r).off=0:=by unfold iX;repeat' (first | rfl | split)
theorem ahE {k w ix:Int} {D:List (Raw->aJ)} {r:Raw}:(iX k w ix D r).len=r.b.rows:=by unfold iX;repeat' (first | rfl | split)
theorem ahD {k w ix:Int} {D:List (Raw->aJ)} {r:Raw} (h:k=20->r.b.bu=0):(iX k w ix D r).aq=r.b.bu:=by
 unfold iX
 repeat' (first | rfl | (rename_i e;rw[h e];rfl) | split)
theorem ru (f:ai) (r:Raw):(f.dn r).off=0:=by rw[ai.mD,ahC]
theorem pN (f:ai) (vs:List ak):(f.dn (f.st vs)).len=vs.length:=by rw[ai.mD,ahE,EF]
theorem aiW {α:Type} (p:α->Bool) (l:List α):l.countP p<=l.length:=List.countP_le_length
theorem Ok (f:ai) (vs:List ak):(f.dn (f.st vs)).aq=vs.countP (dI f.k):=by
 have:(f.st vs).b.bu=vs.countP (dI f.k):=by rw[cQ];rfl
 have rf:f.k=20->vs.countP (dI f.k)=0:=λe=>by
  rw[List.countP_eq_zero];intro v _;simp[dI,e]
 rw[ai.mD,ahD (by rw[this];exact rf),this]
theorem agw {vs:List ak} {k:Int} {i:Nat} {v:ak} (a:vs[i]? = some v):(vs.map λv=>!dI k v).getD i false=!dI k v:=by
 rw[List.getD_eq_getElem?_getD,List.getElem?_map,a];rfl
theorem w5 {k:Int} {vs:List ak} {aH:List (List UInt8)} (a:iD k=true) (f:bQ aH 0=bZ (aG k vs)) {i:Nat} {v:ak} (b:vs[i]? = some v):fR k aH i=dI k v:=by
 have d:(k == 1)=false:=by
  unfold iD at a;cases h:k == 1 with
  | false=>rfl
  | true=>simp only[beq_iff_eq] at h;subst h;simp at a
 unfold fR;rw[a,f,d];unfold bZ;have g:=(List.getElem?_eq_some_iff.1 b).1;split
 ·rename_i c
  have:dI k v=false:=by
   have:=(List.countP_eq_zero.1 c) v (List.mem_of_getElem? b)
   simpa using this
  rw[this];simp
 ·rename_i c
  have e:dQ (aG k vs).bits i=!dI k v:=by
   show dQ (nx _) i=_
   rw[acD,agw b]
  have l:(aG k vs).bits.length≠0:=by
   show (nx _).length≠0
   rw[R7,List.length_map];omega
  rw[e];simp only[Bool.false_or,Bool.true_and,Bool.not_not];have:((aG k vs).bits.length != 0)=true:=by simpa using l
  rw[this];rfl
theorem FJ {α:Type} (g:ak->List α):∀{vs:List ak} {i:Nat} {v:ak},vs[i]? = some v->((vs.flatMap g).drop ((vs.take i).map λu=>(g u).length).sum).take (g v).length=g v
  | [],i,v,h=>by simp at h
  | u::vs,0,v,h=>by
    simp only[List.getElem?_cons_zero,Option.some.injEq] at h;subst h;simp
  | u::vs,i+1,v,h=>by
    simp only[List.getElem?_cons_succ] at h;have:=FJ g h;rw[List.flatMap_cons,List.take_succ_cons,List.map_cons,List.sum_cons,<-List.drop_drop,List.drop_left];exact this
theorem Uw {α:Type} (g:ak->List α) {vs:List ak} {i j:Nat} {v:ak} (h:vs[i]? = some v) (a:j < (g v).length):(vs.flatMap g)[((vs.take i).map λu=>(g u).length).sum+j]? = (g v)[j]? := by
 have:=FJ g h;rw[<-this,List.getElem?_take_of_lt a,List.getElem?_drop]
theorem Aw (g:ak->Nat) {vs:List ak} {i:Nat} {v:ak} (h:vs[i]? = some v):((vs.take (i+1)).map g).sum=((vs.take i).map g).sum+g v:=by
 rw[List.take_add_one,h];simp
theorem Et (g:ak->Nat) (vs:List ak) (i:Nat):((vs.take i).map g).sum<=(vs.map g).sum:=by
 have:(vs.map g).sum=((vs.take i).map g).sum+((vs.drop i).map g).sum:=by rw[<-List.sum_append,<-List.map_append,List.take_append_drop]
 omega
theorem ET {α:Type} {l:List α} {n:Nat} {g:Nat->α} (c:l.length=n) (h:∀i a,l[i]? = some a->g i=a):(List.range n).map g=l:=by
 refine List.ext_getElem? λi => ?_;rw[List.getElem?_map]
 by_cases b:i < n
 ·have:=List.getElem?_eq_getElem (l:=l) (i:=i) ag;rw[List.getElem?_range b,this,Option.map_some,h i _ this]
 ·rw[List.getElem?_eq_none cC,List.getElem?_eq_none ag];rfl
theorem QM {g:ak->Nat} {vs:List ak} (h:(vs.map g).sum < 2 ^ 31) {i:Nat} (a:i<=vs.length):i32 (laidB (gH g vs) 4) i=((vs.take i).map g).sum :=
 Nd (Z7 a) (by have:=Et g vs i;omega)
theorem QJ {g:ak->Nat} {vs:List ak} (h:(vs.map g).sum < 2 ^ 31) {d:aJ} (b:bQ d.aH 1=laidB (gH g vs) 4) {i:Nat} (a:i<=vs.length):ny d i=((vs.take i).map g).sum:=by
 unfold ny;rw[b,QM h a];rfl
theorem Rf {w:Nat} (a:w=1\/w=2\/w=4\/w=8) {n:Int} (c : -(2 ^ (8*w - 1))<=n) (b:n < 2 ^ (8*w - 1)):sg w ((n % 2 ^ 64).toNat % 2 ^ (8*w))=n:=by
 unfold sg;rcases a with rfl | rfl | rfl | rfl <;> simp only[Nat.reduceMul,Nat.reduceSub,Nat.reducePow,Int.reducePow,Int.reduceNeg] at c b ⊢ <;> split <;> omega
theorem YW {w:Nat} (a:w=1\/w=2\/w=4) {n:Int} (c:0<=n) (b:n < 2 ^ (8*w)):sg 8 ((n % 2 ^ 64).toNat % 2 ^ (8*w))=n:=by
 unfold sg;rcases a with rfl | rfl | rfl <;> simp only[Nat.reduceMul,Nat.reduceSub,Nat.reducePow,Int.reducePow,Int.reduceNeg] at c b ⊢ <;> split <;> omega
theorem Ei {k:Int} (h:3<=k/\k<=11):(cl k).toNat=wB k/\(wB k=1\/wB k=2\/wB k=4\/wB k=8)/\(k=6\/k=10\/k=11↔wB k=8):=by
 have:k=3\/k=4\/k=5\/k=6\/k=7\/k=8\/k=9\/k=10\/k=11:=ag;rcases this with rfl | rfl | rfl | rfl | rfl | rfl | rfl | rfl | rfl <;> decide
theorem adm {k:Int} (f:3<=k/\k<=11) {l:List Nat} {i:Nat} {n:Int} (g:l[i]? = some (n % 2 ^ 64).toNat) (a:iU k n=true):sM k (laidB l (wB k)) i=n:=by
 obtain ⟨e1,h,e⟩:=Ei f;unfold sM;rw[e1,Nc g];unfold iU at a;rw[e1] at a
 by_cases c:k=6\/k=10\/k=11
 ·rw[if_pos c] at a;have d:=e.1 c;rw[d];simp only[Bool.and_eq_true,decide_eq_true_eq] at a;have:=Rf (w:=8) ag (n:=n) cC cC;split <;> exact this
 ·rw[if_neg c] at a;have d:wB k≠8:=λq=>c (e.2 q)
  by_cases b:3<=k/\k<=5
  ·rw[if_pos b] at a;simp only[Bool.and_eq_true,decide_eq_true_eq] at a;rw[if_pos ag];exact Rf h a.1 a.2
  ·rw[if_neg b] at a;simp only[Bool.and_eq_true,decide_eq_true_eq] at a;rw[if_neg ag];exact YW ag a.1 a.2
noncomputable def fU (f:ai) (vs:List ak):List aJ:=(List.range (f.cs.map ai.dn).length).map λi=>((f.cs.map ai.dn).getD i λ_=>oJ) ((f.st vs).aC i)
theorem pJ {f c:ai} {vs:List ak} {j:Nat} (a:f.cs[j]? = some c):(fU f vs)[j]? = some (c.dn (c.st (cg f.k f.w (cj f.cs) j vs))):=by
 unfold fU;rw[aex a,ai.iz a]
theorem Fi (f:ai) (vs:List ak):(fU f vs).length=f.cs.length:=by simp[fU]
section
variable {f:ai} {vs:List ak}
theorem F4 (h:f.k=1):f.dn (f.st vs)=.mk vs.length 0 (aG f.k vs).bu [] [] []:=by
 rw[ai.mD];unfold iX;rw[if_pos h,cQ];rfl
theorem ry (h:f.k=12\/f.k=13):f.dn (f.st vs)=.mk vs.length 0 (aG f.k vs).bu [bZ (aG f.k vs),laidB (aG f.k vs).ends 4,(aG f.k vs).all] [] []:=by
 rw[ai.mD];unfold iX;rw[if_neg ag,if_pos h,cQ];rfl
theorem F3 (h:f.k=15):f.dn (f.st vs)=.mk vs.length 0 (aG f.k vs).bu [bZ (aG f.k vs),laidB (aG f.k vs).ends 4] (fU f vs) []:=by
 rw[ai.mD];unfold iX;rw[if_neg ag,if_neg ag,if_pos h,cQ];rfl
theorem yo (h:f.k=16\/f.k=17):f.dn (f.st vs)=.mk vs.length 0 (aG f.k vs).bu [bZ (aG f.k vs)] (fU f vs) []:=by
 rw[ai.mD];unfold iX;rw[if_neg ag,if_neg ag,if_neg ag,if_pos h,cQ];rfl
theorem Om (h:f.k=18):f.dn (f.st vs)=.mk vs.length 0 (aG f.k vs).bu [(aG f.k vs).all,laidB (aG f.k vs).ends 4] (fU f vs) []:=by
 rw[ai.mD];unfold iX;rw[if_neg ag,if_neg ag,if_neg ag,if_neg ag,if_pos h,cQ];rfl
theorem F2 (h:f.k=19):f.dn (f.st vs)=.mk vs.length 0 (aG f.k vs).bu [bZ (aG f.k vs),laidB (aG f.k vs).ends (wB f.ix)] [] (fU f vs):=by
 rw[ai.mD];unfold iX;rw[if_neg ag,if_neg ag,if_neg ag,if_neg ag,if_neg ag,if_pos h,cQ];rfl
theorem Ol (h:f.k=20):f.dn (f.st vs)=.mk vs.length 0 0 [] (.mk (aG f.k vs).ends.length 0 0 [[],laidB (aG f.k vs).ends 4] [] []::fU f vs) []:=by
 rw[ai.mD];unfold iX;rw[if_neg ag,if_neg ag,if_neg ag,if_neg ag,if_neg ag,if_neg ag,if_pos h,cQ];rfl
theorem ym (h:f.k=2):f.dn (f.st vs)=.mk vs.length 0 (aG f.k vs).bu [bZ (aG f.k vs),oM (aG f.k vs).cm] [] []:=by
 rw[ai.mD];unfold iX;rw[if_neg ag,if_neg ag,if_neg ag,if_neg ag,if_neg ag,if_neg ag,if_neg ag,if_pos h,cQ];rfl
theorem yp (h:f.k=14):f.dn (f.st vs)=.mk vs.length 0 (aG f.k vs).bu [bZ (aG f.k vs),ju f.w.toNat (aG f.k vs).texts] [] []:=by
 rw[ai.mD];unfold iX;rw[if_neg ag,if_neg ag,if_neg ag,if_neg ag,if_neg ag,if_neg ag,if_neg ag,if_neg ag,if_pos h,cQ];rfl
theorem vr (h:3<=f.k/\f.k<=11):f.dn (f.st vs)=.mk vs.length 0 (aG f.k vs).bu [bZ (aG f.k vs),laidB (aG f.k vs).cm (wB f.k)] [] []:=by
 rw[ai.mD];unfold iX;rw[if_neg ag,if_neg ag,if_neg ag,if_neg ag,if_neg ag,if_neg ag,if_neg ag,if_neg ag,if_neg ag,cQ];rfl
end
abbrev jA (c:ai):Prop:=∀us,c.can us->∀(i:Nat) v,us[i]? = some v->c.val (c.dn (c.st us)) i=v
theorem vJ {c:ai} (h:jA c) {a:List ak} (d:c.can a) {i:Nat} {v:ak} (b:a[i]? = some v):lp c.val (c.dn (c.st a)) i=v:=by
 unfold lp;rw[ru];simpa using h a d i v b
theorem FN {f:ai} (m:f.k≠1/\f.k≠15/\f.k≠16/\f.k≠17/\f.k≠18/\f.k≠19/\f.k≠20) {v:ak} (a:f.fit v=true) (l:v.aq=false) :
  v.items=[]/\(f.k=12\/f.k=13\/f.k=14->v.num=0/\(f.k=12->gh v.text=true)/\(f.k=14->v.text.length=f.w.toNat))/\(¬(f.k=12\/f.k=13\/f.k=14)->v.text=[]/\(f.k=2->v.num=0\/v.num=1)/\(f.k≠2->(3<=f.k/\f.k<=11)/\iU f.k v.num=true)):=by
 rw[ai.c9] at a;unfold dr at a;obtain ⟨n,j,i,g,d,c,b⟩:=m;simp only[l,Bool.false_eq_true,if_false,c,b,d,j,i,g,or_self,Bool.and_eq_true,decide_eq_true_eq] at a;obtain ⟨_,a⟩:=a
 by_cases e:f.k=12\/f.k=13\/f.k=14
 ·rw[if_pos e] at a;simp only[Bool.and_eq_true,decide_eq_true_eq,List.length_eq_zero_iff,Bool.or_eq_true,decide_eq_true_eq] at a;refine ⟨a.2.1,λ_=>⟨a.1,λq => ?_,λq => ?_⟩,λq=>absurd e q⟩
  ·rcases a.2.2.1 with h | h
   ·exact absurd q h
   ·exact h
  ·rcases a.2.2.2 with h | h
   ·exact absurd q h
   ·exact h
 ·rw[if_neg e] at a;simp only[Bool.and_eq_true,decide_eq_true_eq,List.length_eq_zero_iff] at a;refine ⟨a.2.1,λq=>absurd q e,λ_=>⟨a.1,λq => ?_,λq => ?_⟩⟩
  ·have:=a.2.2;rw[if_pos q] at this;simpa using this
  ·have:=a.2.2;rw[if_neg q] at this
   simpa using this
theorem val_mk (v:ak):v=.mk v.aq v.num v.text v.items:=by cases v;rfl
theorem ai1 {f:ai} (b:bp f) (a:f.k=18) {v:ak} (d:f.fit v=true):dM v < 32/\dM v < f.cs.length:=by
 have hl:f.lets=false:=by rw[qR f b];exact b.right.2.1.2.1 a
 obtain ⟨_,_,_,c,_,e,_⟩:=Od a hl d;have g:=(List.getElem?_eq_some_iff.1 e).1;have h:=(b.right.1.2.2.2.2.2.2.2.2.2.1 a).2;exact ⟨by omega,g⟩
theorem SV {f:ai} (R:bp f) (P:f.k≠15/\f.k≠16/\f.k≠17/\f.k≠18/\f.k≠19/\f.k≠20):jA f:=by
  intro vs T i v z;have I:=(ai.eC f vs).1 T;have y:=I.fit v (List.mem_of_getElem? z);have W:=(List.getElem?_eq_some_iff.1 z).1;obtain ⟨r,p,m,g,l,d⟩:=P;have ks:=R.ks;rw[ai.oW];unfold kV
  by_cases x:f.k=1
  · rw[F4 x,if_pos (by unfold fR;simp[x])]
    have h:v.aq=true:=by
      cases h:v.aq with
      | true=>rfl
      | false=>rw[ai.c9] at y;unfold dr at y;simp[h,x] at y
    rw[ai.c9] at y;exact (jR y h).1.symm
  have K:dI f.k v=v.aq:=oo x g d;have L:iD f.k=true:=by unfold iD;simp[x,g,d]
  have M:bQ (f.dn (f.st vs)).aH 0=bZ (aG f.k vs):=by
    by_cases a:f.k=12\/f.k=13
    · rw[ry a];rfl
    · by_cases A:f.k=2
      · rw[ym A];rfl
      · by_cases b:f.k=14
        · rw[yp b];rfl
        · rw[vr ag];rfl
  rw[w5 L M z,K];cases h:v.aq with
  | true =>
    rw[if_pos rfl];rw[ai.c9] at y;exact (jR y h).1.symm
  | false =>
    obtain ⟨s,D,G⟩:=FN ⟨x,r,p,m,g,l,d⟩ y h;rw[if_neg aS]
    by_cases a:f.k=12\/f.k=13
    · rw[if_pos a,ry a];have J:=I.tx a;have S:(aG f.k vs).ends=gH (λv=>v.text.length) vs:=by simp[aG,a]
      have V:(aG f.k vs).all=vs.flatMap ak.text:=by simp[aG,a]
      have O:(vs.map λv=>v.text.length).sum < 2 ^ 31:=by
        rw[List.length_flatMap] at J;omega
      have o:∀{j},j<=vs.length->ny (aJ.mk vs.length 0 (aG f.k vs).bu [bZ (aG f.k vs),laidB (aG f.k vs).ends 4,(aG f.k vs).all] [] []) j=((vs.take j).map λv=>v.text.length).sum:=λQ=>QJ O (by rw[S];rfl) Q
      rw[o ag,o ag,Aw _ z,Nat.add_sub_cancel_left]
      show ak.mk false 0 (((aG f.k vs).all.drop _).take _) []=v
      rw[V,FJ ak.text z];rw[val_mk v,h,(D ag).1,s];rfl
    rw[if_neg a,if_neg r,if_neg p,if_neg m,if_neg g,if_neg l,if_neg d]
    by_cases A:f.k=2
    · rw[if_pos A,ym A];obtain ⟨E,U,_⟩:=G ag
      show ak.mk false (if dQ (oM (aG f.k vs).cm) i=true then 1 else 0) [] []=v
      have c:(aG f.k vs).cm=vs.map λv=>(v.num % 2 ^ 64).toNat:=by simp[aG,A,dU]
      rw[aj0,c,List.getD_eq_getElem?_getD,List.getElem?_map,z];have e:v=.mk false v.num [] []:=by rw[<-h,<-E,<-s];exact val_mk v
      rcases U A with q | q
      · rw[q] at e;rw[e];rfl
      · rw[q] at e;rw[e];rfl
    rw[if_neg A]
    by_cases b:f.k=14
    · rw[if_pos b,yp b];have c:(aG f.k vs).texts=vs.map ak.text:=by simp[aG,b,dU]
      show ak.mk false 0 (((ju f.w.toNat (aG f.k vs).texts).drop (i*f.w.toNat)).take f.w.toNat) []=v
      rw[c,Uy (t:=v.text) (λt E => ?_) (by rw[List.getElem?_map,z];rfl) ((D ag).2.2 b)]
      · rw[val_mk v,h,(D ag).1,s];rfl
      · obtain ⟨u,N,rfl⟩:=List.mem_map.1 E;have C:=I.fit u N;cases F:u.aq with
        | true=>rw[ai.c9] at C;rw[(jR C F).1];exact .inl rfl
        | false=>exact .inr (((FN ⟨x,r,p,m,g,l,d⟩ C F).2.1 ag).2.2 b)
    rw[if_neg b];obtain ⟨E,_,H⟩:=G ag;obtain ⟨B,H⟩:=H A;rw[vr B];have c:(aG f.k vs).cm=vs.map λv=>(v.num % 2 ^ 64).toNat:=by
      simp only[not_or] at a;simp[aG,dU,x,a,r,p,m,g,l,d]
    show ak.mk false (sM f.k (laidB (aG f.k vs).cm (wB f.k)) i) [] []=v
    rw[adm B (n:=v.num) (by rw[c,List.getElem?_map,z];rfl) H,val_mk v,h,E,s];rfl
theorem aaO {α:Type} {n:Nat} {l:List α} (h:l.length=n+1):∃b w,l=b++[w]/\b.length=n:=by
 have a:l≠[]:=by intro e;subst e;simp at h
 exact ⟨l.dropLast,l.getLast a,(List.dropLast_concat_getLast a).symm,by simp[h]⟩
structure akT (vs:List ak):Prop where
 len:(bR vs).1.length=(bR vs).2.length
 pos:∀(j e:Nat),(bR vs).2[j]? = some e->0 < e/\e<=vs.length
 inc:∀(i j e e':Nat),i < j->(bR vs).2[i]? = some e->(bR vs).2[j]? = some e'->e < e'
 row:∀(i:Nat) v,vs[i]? = some v->∃j e:Nat,(bR vs).1[j]? = some v/\(bR vs).2[j]? = some e/\i < e/\∀j2 e2:Nat,j2 < j->(bR vs).2[j2]? = some e2->e2<=i
theorem Rq:∀(n:Nat) (vs:List ak),vs.length=n->akT vs
  | 0,vs,G=>by
    have:vs=[]:=List.eq_nil_of_length_eq_zero G;subst this;exact ⟨rfl,λj e h=>by simp[bR] at h,λi j e Q _ h=>by simp[bR] at h,λi v h=>by simp at h⟩
  | n+1,vs,G=>by
    obtain ⟨c,w,rfl,K⟩:=aaO G;obtain ⟨len,p,C,D⟩:=Rq n c K;have f:=(xq n c K).1;have g:=AO c w;unfold uJ at g
    by_cases e:(bR c).1.getLast? = some w
    · rw[if_pos e,f] at g;have L:(bR c).2≠[]:=by
        intro q;rw[q] at len;have O:(bR c).1=[]:=List.eq_nil_of_length_eq_zero (by simpa using len)
        rw[O] at e;simp at e
      have P:=List.length_pos_iff.2 L;have get:∀j,((bR c).2.dropLast++[c.length+1])[j]? = if j < (bR c).2.length - 1 then (bR c).2[j]? else if j=(bR c).2.length - 1 then some (c.length+1) else none:=by
        intro j;have I:(bR c).2.dropLast.length=(bR c).2.length - 1:=List.length_dropLast
        by_cases r:j < (bR c).2.length - 1
        · rw[if_pos r,List.getElem?_append_left ag,List.getElem?_dropLast,if_pos r]
        · rw[if_neg r,List.getElem?_append_right ag,I];split
          · rename_i u;subst u;simp
          · rename_i u;rw[List.getElem?_eq_none cC]
      have J:(bR c).2[(bR c).2.length - 1]? = some c.length:=by
        have:(bR c).2.getLast? = (bR c).2[(bR c).2.length - 1]? := List.getLast?_eq_getElem?;rw[<-this];rw[List.getLastD_eq_getLast?] at f;cases N:(bR c).2.getLast? with
        | none=>exact absurd (List.getLast?_eq_none_iff.1 N) L
        | some x=>rw[N] at f;simp at f;rw[f]
      refine ⟨?_,?_,?_,?_⟩
      · rw[g];simp[len];omega
      · intro j x h;rw[g] at h;rw[get] at h;rw[List.length_append,List.length_singleton];split at h
        · obtain ⟨a,b⟩:=p j x h;omega
        · split at h
          · cases h;omega
          · cases h
      · intro i j x y z m l;rw[g] at m l;rw[get] at m l;split at l
        · rw[if_pos ag] at m;exact C i j x y z m l
        · split at l
          · rw[if_pos ag] at m;cases l;have:=(p i x m).2;omega
          · cases l
      · intro i v o;rw[g]
        by_cases r:i < c.length
        · rw[List.getElem?_append_left r] at o;obtain ⟨j,x,F,B,H,E⟩:=D i v o;have M:=(List.getElem?_eq_some_iff.1 B).1
          by_cases u:j < (bR c).2.length - 1
          · refine ⟨j,x,F,by rw[get,if_pos u];exact B,H,λt s k d => ?_⟩
            rw[get,if_pos ag] at d;exact E t s k d
          · refine ⟨j,c.length+1,F,by rw[get,if_neg u,if_pos ag],by omega,λt s k d => ?_⟩
            rw[get,if_pos ag] at d;exact E t s k d
        · have A:i=c.length:=by have:=(List.getElem?_eq_some_iff.1 o).1;simp at this;omega
          subst A;rw[List.getElem?_append_right (Nat.le_refl _)] at o;simp at o;subst o;refine ⟨(bR c).2.length - 1,c.length+1,?_,by rw[get,if_neg ag,if_pos rfl],by omega,λt s k d => ?_⟩
          · have:(bR c).1.getLast? = (bR c).1[(bR c).1.length - 1]? := List.getLast?_eq_getElem?;rw[<-len,<-this,e]
          · rw[get,if_pos k] at d;exact (p t s d).2
    · rw[if_neg e,f] at g;have get:∀j,((bR c).2++[c.length+1])[j]? = if j < (bR c).2.length then (bR c).2[j]? else if j=(bR c).2.length then some (c.length+1) else none:=by
        intro j
        by_cases r:j < (bR c).2.length
        · rw[if_pos r,List.getElem?_append_left r]
        · rw[if_neg r,List.getElem?_append_right ag];split
          · rename_i u;subst u;simp
          · rename_i u;rw[List.getElem?_eq_none cC]
      refine ⟨?_,?_,?_,?_⟩
      · rw[g];simp[len]
      · intro j x h;rw[g] at h;rw[get] at h;rw[List.length_append,List.length_singleton];split at h
        · obtain ⟨a,b⟩:=p j x h;omega
        · split at h
          · cases h;omega
          · cases h
      · intro i j x y z m l;rw[g] at m l;rw[get] at m l;split at l
        · rw[if_pos ag] at m;exact C i j x y z m l
        · split at l
          · rw[if_pos ag] at m;cases l;have:=(p i x m).2;omega
          · cases l
      · intro i v o;rw[g]
        by_cases r:i < c.length
        · rw[List.getElem?_append_left r] at o;obtain ⟨j,x,F,B,H,E⟩:=D i v o;have M:=(List.getElem?_eq_some_iff.1 B).1;refine ⟨j,x,by rw[List.getElem?_append_left ag];exact F,by rw[get,if_pos M];exact B,H,λt s k d => ?_⟩
          rw[get,if_pos ag] at d;exact E t s k d
        · have A:i=c.length:=by have:=(List.getElem?_eq_some_iff.1 o).1;simp at this;omega
          subst A;rw[List.getElem?_append_right (Nat.le_refl _)] at o;simp at o;subst o;refine ⟨(bR c).2.length,c.length+1,by rw[<-len,List.getElem?_append_right (Nat.le_refl _)];simp,by rw[get,if_neg ag,if_pos rfl],by omega,λt s k d => ?_⟩
          rw[get,if_pos k] at d;exact (p t s d).2
theorem UH (c:Nat):∀{vs:List ak} {i:Nat} {v:ak},vs[i]? = some v->dM v=c->(vs.filter λu=>decide (dM u=c))[((vs.take i).filter λu=>decide (dM u=c)).length]? = some v
  | [],i,v,h,_=>by simp at h
  | u::vs,0,v,h,a=>by
    simp only[List.getElem?_cons_zero,Option.some.injEq] at h;subst h;simp[a]
  | u::vs,i+1,v,h,a=>by
    simp only[List.getElem?_cons_succ] at h;have b:=UH c h a;rw[List.take_succ_cons,List.filter_cons,List.filter_cons];split
    · simpa using b
    · exact b
theorem Va {g:ak->Nat} {w:Nat} {vs:List ak} (h:∀v∈vs,g v=w):∀i,i<=vs.length->((vs.take i).map g).sum=i*w
  | 0,_=>by simp
  | i+1,b=>by
    have a:vs[i]? = some vs[i]:=List.getElem?_eq_getElem ag;rw[Aw g a,Va h i ag,h _ (List.mem_of_getElem? a),Nat.succ_mul]
theorem xB {l x y:Int} {b:List (List UInt8)} {cs:List aJ} {j:Nat} {c:aJ} (h:cs[j]? = some c):part (.mk l x y b cs []) j=c:=by
 unfold part qL;rw[if_neg (by simp[aJ.ds])];exact N7 h
theorem acB {l x y:Int} {b:List (List UInt8)} {cs ds:List aJ} {j:Nat} {c:aJ} (h:ds[j]? = some c):part (.mk l x y b cs ds) j=c:=by
 have:ds.length > 0:=by have:=(List.getElem?_eq_some_iff.1 h).1;omega
 unfold part qL;rw[if_pos (by simpa[aJ.ds] using this)];exact N7 h
theorem AX {k:Int} {cs:List ai} (h:k≠20):mS k cs=cs:=by unfold mS;rw[if_neg h]
theorem xX {cs:List ai} {j:Nat} {c:ai} (h:cs[j]? = some c):(cs.map ai.val).getD j vz=c.val:=by
 rw[List.getD_eq_getElem?_getD,List.getElem?_map,h];rfl
theorem aiZ {w:Int} {X:List ak} {j i:Nat} {vs:List ak} {v:ak} (h:vs[i]? = some v) (a:v.aq=false):(cg 17 w X j vs)[i]? = some (v.items.getD j v0):=by
 rw[BF,List.getElem?_map,h];simp[a]
theorem ad6 {f c:ai} (y:bp f) (p:f.cs=[c]) (d:f.k=15) (r:jA c):jA f:=by
  intro vs q i v e;have m:=((ai.eC f vs).1 q).fit v (List.mem_of_getElem? e);have u:=(List.getElem?_eq_some_iff.1 e).1;have b:f.cs[0]? = some c:=by rw[p];rfl
  have h:=ai.de b q;rw[ai.oW];unfold kV;rw[F3 d,w5 (by rw[d];rfl) rfl e,oo ag ag ag]
  cases n:v.aq with
  | true=>rw[if_pos rfl];rw[ai.c9] at m;exact (jR m n).1.symm
  | false =>
    rw[if_neg aS,if_neg ag,if_pos d,AX ag,xX b,xB (pJ b)];have a:=m;rw[ai.c9] at a;unfold dr at a;rw[d] at a;simp[n] at a;have g:cg f.k f.w (cj f.cs) 0 vs=vs.flatMap ak.items:=by rw[d,Gd]
    have t:(aG f.k vs).ends=gH (λv=>v.items.length) vs:=by simp[aG,d]
    have s:(vs.map λv=>v.items.length).sum < 2 ^ 31:=by
      have:=((ai.eC c _).1 h).n4;rw[g,List.length_flatMap] at this;omega
    have o:∀{j},j<=vs.length->ny (aJ.mk vs.length 0 (aG f.k vs).bu [bZ (aG f.k vs),laidB (aG f.k vs).ends 4] (fU f vs) []) j=((vs.take j).map λv=>v.items.length).sum:=λl=>QJ s (by rw[t];rfl) l
    rw[o ag,o ag,Aw _ e,Nat.add_sub_cancel_left];have:(List.range v.items.length).map (λj=>lp c.val (c.dn (c.st (cg f.k f.w (cj f.cs) 0 vs))) (((vs.take i).map λv=>v.items.length).sum+j))=v.items:=by
      refine ET rfl λj x l=>vJ r h ?_;rw[g,Uw ak.items e (List.getElem?_eq_some_iff.1 l).1];exact l
    rw[this,val_mk v,n,a.2.1,a.2.2.1];rfl
theorem aav {f c:ai} (a:f.cs=[c]) (e:f.k=16) {vs:List ak} (g:f.can vs):∀v∈vs,(if v.aq then List.replicate f.w.toNat ((cj f.cs).getD 0 v0) else v.items).length=f.w.toNat:=by
 intro v b;cases d:v.aq with
 | true=>simp
 | false=>simpa using (Ob a e (((ai.eC f vs).1 g).fit v b) d).2.1
theorem ad4 {f c:ai} (u:bp f) (d:f.cs=[c]) (b:f.k=16) (r:jA c):jA f:=by
  intro vs n i v m;have a:=((ai.eC f vs).1 n).fit v (List.mem_of_getElem? m);have t:=(List.getElem?_eq_some_iff.1 m).1;have g:f.cs[0]? = some c:=by rw[d];rfl
  rw[ai.oW];unfold kV;rw[yo (.inl b),w5 (by rw[b];rfl) rfl m,oo ag ag ag]
  cases h:v.aq with
  | true=>rw[if_pos rfl];rw[ai.c9] at a;exact (jR a h).1.symm
  | false =>
    rw[if_neg aS,if_neg ag,if_neg ag,if_pos b,AX ag,xX g,xB (pJ g)];obtain ⟨s,hl,_⟩:=Ob d b a h;have l:v.num=0:=by
      rw[ai.c9] at a;unfold dr at a;rw[b] at a;simp[h] at a;exact a.2.1
    have p:cg f.k f.w (cj f.cs) 0 vs=vs.flatMap λv=>if v.aq then List.replicate f.w.toNat ((cj f.cs).getD 0 v0) else v.items:=by rw[b,BG]
    have:(List.range f.w.toNat).map (λj=>lp c.val (c.dn (c.st (cg f.k f.w (cj f.cs) 0 vs))) (i*f.w.toNat+j))=v.items:=by
      refine ET hl λj x q=>vJ r (ai.de g n) ?_;have o:=(List.getElem?_eq_some_iff.1 q).1;have e:=Uw (λv=>if v.aq then List.replicate f.w.toNat ((cj f.cs).getD 0 v0) else v.items) m (j:=j) (by simpa[h] using o)
      rw[Va (aav d b n) i ag] at e;rw[p,e];simpa[h] using q
    rw[this,val_mk v,h,s,l];rfl
theorem ad2 {f:ai} (q:bp f) (d:f.k=17) (o:∀c∈f.cs,jA c):jA f:=by
  intro vs n i v l;have a:=((ai.eC f vs).1 n).fit v (List.mem_of_getElem? l);rw[ai.oW];unfold kV;rw[yo (.inr d),w5 (by rw[d];rfl) rfl l,oo ag ag ag]
  cases e:v.aq with
  | true=>rw[if_pos rfl];rw[ai.c9] at a;exact (jR a e).1.symm
  | false =>
    rw[if_neg aS,if_neg ag,if_neg ag,if_neg ag,if_pos d,AX ag,List.length_map];obtain ⟨p,hl,_⟩:=FM d a e;have h:v.num=0:=by
      rw[ai.c9] at a;unfold dr at a;rw[d] at a;simp[e] at a;exact a.2.1
    have:(List.range f.cs.length).map (λj=>lp ((f.cs.map ai.val).getD j vz) (part (aJ.mk vs.length 0 (aG f.k vs).bu [bZ (aG f.k vs)] (fU f vs) []) j) i)=v.items:=by
      refine ET hl λj x m => ?_;have g:j < f.cs.length:=by have:=(List.getElem?_eq_some_iff.1 m).1;omega
      have b:f.cs[j]? = some f.cs[j]:=List.getElem?_eq_getElem g;rw[xX b,xB (pJ b)];refine vJ (o _ (List.getElem_mem g)) (ai.de b n) ?_;rw[d,aiZ l e,N7 m]
    rw[this,val_mk v,e,p,h];rfl
theorem ad9 {f:ai} (l:bp f) (a:f.k=18) (s:∀c∈f.cs,jA c):jA f:=by
 intro vs o i v e;have p:=(ai.eC f vs).1 o;have n:=p.fit v (List.mem_of_getElem? e);have m:=(List.getElem?_eq_some_iff.1 e).1;have B:=p.n4;have hl:f.lets=false:=by rw[qR f l];exact l.right.2.1.2.1 a
 obtain ⟨w,t,A,c,x,b,g,C⟩:=Od a hl n;have r:=(ai1 l a n).1;rw[ai.oW];unfold kV;rw[Om a,if_neg (by unfold fR iD;simp[a]),if_neg ag,if_neg ag,if_neg ag,if_neg ag,if_pos a,AX ag]
 have z:(aG f.k vs).all=vs.map λv=>UInt8.ofNat (dM v):=by simp[aG,a]
 have y:(aG f.k vs).ends=(List.range vs.length).map λi=>((vs.take i).filter λv=>decide (dM v=dM (vs.getD i v0))).length:=by simp[aG,a]
 have d:BH (aJ.mk vs.length 0 (aG f.k vs).bu [(aG f.k vs).all,laidB (aG f.k vs).ends 4] (fU f vs) []) i=dM v:=by
  show (((aG f.k vs).all.getD i 0)).toNat=_
  rw[z,List.getD_eq_getElem?_getD,List.getElem?_map,e];simp only[Option.map_some,Option.getD_some,UInt8.toNat_ofNat'];omega
 have j:(aG f.k vs).ends[i]? = some ((vs.take i).filter λu=>decide (dM u=dM v)).length:=by
  rw[y,List.getElem?_map,List.getElem?_range m,Option.map_some,List.getD_eq_getElem?_getD,e];rfl
 have q:((vs.take i).filter λu=>decide (dM u=dM v)).length<=4096:=by
  have:=List.length_filter_le (λu=>decide (dM u=dM v)) (vs.take i);rw[List.length_take] at this;omega
 have h:ny (aJ.mk vs.length 0 (aG f.k vs).bu [(aG f.k vs).all,laidB (aG f.k vs).ends 4] (fU f vs) []) i=((vs.take i).filter λu=>decide (dM u=dM v)).length:=by
  show (i32 (laidB (aG f.k vs).ends 4) i).toNat=_
  rw[Nd j ag];rfl
 rw[d,h,xX b,xB (pJ b),vJ (s c (List.mem_of_getElem? b)) (ai.de b o) (v:=x) (by rw[a,Gc,List.getElem?_map,UH _ e rfl,Option.map_some,g];rfl)]
 rw[val_mk v,w,t,g];have:((dM v:Nat):Int)=v.num:=by unfold dM;omega
 simp only[ak.mk.injEq,true_and,and_true];rw[show dM (ak.mk false v.num [] [x])=dM v from rfl,this]
theorem ad8 {f c:ai} (A:bp f) (r:f.cs=[c]) (b:f.k=19) (z:jA c):jA f:=by
  intro vs u i v g;have y:=(ai.eC f vs).1 u;have t:=y.fit v (List.mem_of_getElem? g);have G:=(List.getElem?_eq_some_iff.1 g).1;have e:f.cs[0]? = some c:=by rw[r];rfl
  have j:=ai.de e u;have E:=A.right.1.2.2.2.2.2.1 b;rw[ai.oW];unfold kV;rw[F2 b,w5 (by rw[b];rfl) rfl g,oo ag ag ag]
  cases n:v.aq with
  | true=>rw[if_pos rfl];rw[ai.c9] at t;exact (jR t n).1.symm
  | false =>
    rw[if_neg aS,if_neg ag,if_neg ag,if_neg ag,if_neg ag,if_neg ag,if_pos b,AX ag,xX e,acB (pJ e)];obtain ⟨e1,D,H⟩:=Ei (k:=f.ix) ag;have B:(aG f.k vs).ends=vs.map λv=>if v.aq then 0 else (dS v (ez vs)).getD 0:=by simp[aG,b]
    obtain ⟨p,m⟩:∃p,dS v (ez vs)=some p:=by
      cases m:dS v (ez vs) with
      | none=>exact absurd (MM _ vs rfl v (List.mem_of_getElem? g) n) (AW.1 m)
      | some p=>exact ⟨p,rfl⟩
    have l:(aG f.k vs).ends[i]? = some p:=by rw[B,List.getElem?_map,g];simp[n,m]
    have a:=(AV m).1;have F:=(List.getElem?_eq_some_iff.1 a).1;have d:=y.ds b;have h:cg f.k f.w (cj f.cs) 0 vs=ez vs:=by rw[b,BE]
    have o:=((ai.eC c _).1 j).n4;rw[h] at o;have C:p < 2 ^ (8*wB f.ix):=by
      unfold pG at d;rcases D with q | q | q | q <;> rw[q] <;> simp <;> (try omega)
      have:f.ix=3\/f.ix=7:=by
        unfold wB at q
        by_cases x:f.ix=3\/f.ix=7
        · exact x
        · rw[if_neg x] at q;split at q <;> (try omega);split at q <;> omega
      rcases this with s | s <;> rw[s] at d <;> simp at d <;> omega
    show lp c.val _ (kZ (laidB (aG f.k vs).ends (wB f.ix)) (i*(cl f.ix).toNat) (cl f.ix).toNat)=v
    rw[e1,Nc l,Nat.mod_eq_of_lt C];exact vJ z j (by rw[h];exact a)
theorem UO {l:List Nat} (hl:∀x∈l,x<=4096) {n u:Int} {b:List UInt8} {i x:Nat} (a:l[i]? = some x):vj (.mk n 0 u [b,laidB l 4] [] []) i=x:=by
 have:=hl x (List.mem_of_getElem? a)
 show i32 (laidB l 4) (0+i)=x
 rw[Nat.zero_add];exact Nd a ag
theorem ad5 {f c:ai} (D:bp f) (d:f.cs=[c]) (a:f.k=20) (t:jA c):jA f:=by
 intro vs r i v q;have B:=(List.getElem?_eq_some_iff.1 q).1;have g:f.cs[0]? = some c:=by rw[d];rfl
 have C:=((ai.eC f vs).1 r).n4;have R:=Rq _ vs rfl;have y:(aG f.k vs).ends=(bR vs).2:=by rw[a];simp[aG]
 have b:∀x∈(bR vs).2,x<=4096:=λx h=>by
  obtain ⟨j,u⟩:=List.mem_iff_getElem?.1 h;have:=(R.pos j x u).2;omega
 rw[ai.oW];unfold kV;rw[Ol a,if_neg (by unfold fR iD;simp[a]),if_neg ag,if_neg ag,if_neg ag,if_neg ag,if_neg ag,if_neg ag,if_pos a]
 have m:(mS f.k f.cs)[1]? = some c:=by unfold mS;rw[if_pos a,d];rfl
 rw[xX m,xB (j:=1) (c:=c.dn (c.st (cg f.k f.w (cj f.cs) 0 vs))) (by rw[List.getElem?_cons_succ];exact pJ g),xB (j:=0) rfl,y]
 obtain ⟨j,e,A,s,E,z⟩:=R.row i v q;have n:=(List.getElem?_eq_some_iff.1 s).1;rw[abL (j:=j) (by simpa[aJ.len] using n) (by rw[UO b s];omega) (λp o=>by
  have h:=List.getElem?_eq_getElem (l:=(bR vs).2) (i:=p) ag;rw[UO b h];have:=z p _ o h;omega)]
 exact vJ t (ai.de g r) (by rw[a,Ga];exact A)
theorem SU:∀f:ai,bp f->jA f
  | .mk m aq k w id ix cs,b=>by
    have d:∀c∈cs,jA c:=λc n=>SU c (b.aC n);generalize o:ai.mk m aq k w id ix cs=f at b;have d:∀c∈f.cs,jA c:=by rw[<-o];exact d
    by_cases e:f.k=15
    · obtain ⟨c,a,_⟩:=b.one (.inl e);exact ad6 b a e (d c (by rw[a];simp))
    by_cases l:f.k=16
    · obtain ⟨c,a,_⟩:=b.one ag;exact ad4 b a l (d c (by rw[a];simp))
    by_cases j:f.k=17
    · exact ad2 b j d
    by_cases i:f.k=18
    · exact ad9 b i d
    by_cases h:f.k=19
    · obtain ⟨c,a,_⟩:=b.one ag;exact ad8 b a h (d c (by rw[a];simp))
    by_cases g:f.k=20
    · obtain ⟨c,a,_⟩:=b.one ag;exact ad5 b a g (d c (by rw[a];simp))
    exact SV b ⟨e,l,j,i,h,g⟩
end Go.Proofs.YtikpikmkhdapiaaGreatDoor
