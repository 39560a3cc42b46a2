import Derived.Test.YtikpikmkhdapiaaGreatDoorBeginsJ4
import Derived.Test.YtikpikmkhdapiaaGreatDoorBeginsShGlue
import Derived.SizedLaws
import Derived.Test.YtikpikmkhdapiaaGreatDoorCards
import Derived.Test.YtikpikmkhdapiaaGreatDoorTie
set_option linter.unusedSimpArgs false
set_option linter.unusedVariables false
set_option maxRecDepth 100000
set_option maxHeartbeats 1000000
namespace Go.Proofs.YtikpikmkhdapiaaGreatDoor
open Go Go.Sh Go.WideShapes
section
variable {f:ai} {h hx h':Hp} {K:Value->HP} {Kp:PK}
structure Xj (lo:Nat) (cs:List ai) (h:Hp) (x:Sl) (ws:List Value) (As:List (Nat->Prop)):Prop where
 n:ws.length=As.length/\As.length<=cs.length
 aC:∀(j:Nat) c A w,cs[j]? = some c->As[j]? = some A->ws[j]? = some w->c.hY A h w c.begun none
 bd:∀A∈As,∀c,A c->(lo<=c/\c < h.size)/\¬x.at c
 ap:As.Pairwise λA B=>∀c,A c->¬B c
 sl:cN lo 1 h x (ws.map λv=>[v]) BX
theorem Wa (f:ai):f.begun.b={ xu with ends:=if f.k=12\/f.k=13\/f.k=15 then [0] else [] }:=by rw[ai.GF];rfl
theorem aj5 {j:Nat} {c:ai} (a:f.cs[j]? = some c):f.begun.aC j=c.begun:=by
 rw[ai.GF]
 show (f.cs.map ai.begun).getD j r0=_
 rw[List.getD_eq_getElem?_getD,List.getElem?_map,a];rfl
theorem ad7 {m b:Nat} {s t u:Sl} {C:List Value} {p:List (Nat->Prop)} {SS:List Sl} {ST:List (Nat->Prop)} {X:Nat->Prop} {sp:List Value} {N:Nat->Prop} (G:bp f) (o:Xj m f.cs hx u C p) (hl:p.length=f.cs.length) (h0:h.size<=m)
  (P:au N h' t f.bO.items) (hN:∀c,N c->h.size<=c/\c < m) (D:ah hx h') (Y:m<=hx.size) (O:aB h' b (bt f s t Sl.nil 0 0 0 (dB f.k SS C u sp)).toArray (eM f.k)) (Z:hx.size<=b)
  (H:SS.length=(bC f.k f.begun.b).length/\ST.length=(bC f.k f.begun.b).length) (F:∀(i:Nat) s A y,SS[i]? = some s->ST[i]? = some A->(bC f.k f.begun.b)[i]? = some y->Os A h' s y.1 y.2)
  (g:∀A∈X::ST,∀c,A c->hx.size<=c/\c < h'.size/\c≠b) (I:(X::ST).Pairwise λA B=>∀c,A c->¬B c) (E:eY f.k X h' sp f.begun.b) :
  f.hY (λc=>h.size<=c/\c < h'.size) h' (.iface (aU f.k) (.pointer (some ⟨b,0,none⟩))) f.begun none:=by
 have z:=D.1;have bl:=O.lt;have v:∀c,u.at c->m<=c/\c < hx.size:=λc q=>o.sl.at q;have r:=Wa f;have tr:iq (λc=>h.size<=c/\c < h'.size) h' b ((λ_=>False)::(λc=>N c\/u.at c)::X::(ST++p)):=by
  refine ⟨⟨by omega,by omega⟩,λc q=>q.2,?_,?_⟩
  ·intro L l c d;simp only[List.mem_cons,List.mem_append] at l;rcases l with rfl | rfl | l | l | l
   ·exact d.elim
   ·rcases d with q | q
    ·have:=hN c q;exact ⟨⟨by omega,by omega⟩,by omega⟩
    ·have:=v c q;exact ⟨⟨by omega,by omega⟩,by omega⟩
   ·have:=g L (by rw[l];exact List.mem_cons_self ..) c d;exact ⟨⟨by omega,by omega⟩,by omega⟩
   ·have:=g L (List.mem_cons_of_mem _ l) c d;exact ⟨⟨by omega,by omega⟩,by omega⟩
   ·have:=(o.bd L l c d).1;exact ⟨⟨by omega,by omega⟩,by omega⟩
  ·have e:X::(ST++p)=(X::ST)++p:=rfl;refine List.pairwise_cons.2 ⟨λ_ _ _ q=>q.elim,List.pairwise_cons.2 ⟨λB hB c q z => ?_,?_⟩⟩
   ·rw[e,List.mem_append] at hB;rcases hB with hB | hB
    ·have:=g B hB c z;rcases q with q | q
     ·have:=hN c q;omega
     ·have:=v c q;omega
    ·have:=o.bd B hB c z;rcases q with q | q
     ·have:=hN c q;omega
     ·exact this.2 q
   ·rw[e,List.pairwise_append];exact ⟨I,o.ap,λA V B hB c q z=>by have:=g A V c q;have:=(o.bd B hB c z).1;omega⟩
 rw[ai.SI];refine ⟨{ b:=b,sf:=s,sn:=t,sb:=Sl.nil,ks:=u,SS:=SS,ST:=ST,KT:=p,kv:=C,sp:=sp,T0:=λ_=>False,R:=λc=>N c\/u.at c,X:=X },rfl,⟨tr,⟨?_, .inl ⟨rfl,?_⟩,id,?_,?_,?_⟩,H,F,⟨?_,?_,?_⟩,λj M A w J T Q => ?_,au.mo P λc q=>.inl q,λ_ => ?_,E,λW q=>by cases q⟩⟩
 ·rw[r];exact O
 ·rw[r];rfl
 ·rw[r];show (0:Nat)=(0+7) / 8;decide
 ·rw[r];exact Nat.le_refl _
 ·rw[r];exact Nat.zero_le _
 ·rw[o.n.1,hl,List.length_map]
 ·rw[hl,List.length_map]
 ·rw[ai.GF];show (f.cs.map ai.begun).length=_;rw[List.length_map,List.length_map]
 ·rw[List.getElem?_map,Option.map_eq_some_iff] at J;obtain ⟨c,d,rfl⟩:=J;rw[aj5 d];exact (uP c (G.aC (List.mem_of_getElem? d))).fr (S:=No) (o.aC j c A w d T Q) (Tn.aT D) λ_ _ _=>id
 ·exact ⟨(cN.iS o.sl).1.aj D,λ_ a U=>.inr ⟨a,U,rfl⟩⟩
theorem adp {D:Nat->Prop} {n c:Nat} (i:D n) (d:h[n]? = some (.map #[] c)):di D h Sl.nil n [] 0:=by
 have e:∀u,¬hl [] 0 u≠[]:=λu q=>q rfl;refine ⟨λ_=>False,[],λ_=>Sl.nil,λ_=>0,⟨λc q=>q.elim,λc ⟨a,g,_⟩=>(by cases g),i,λu b=>absurd b (e u),λu _ b=>absurd b (e u)⟩,⟨rfl,cN.nil _ _ _ _,λj v t k=>by simp at k⟩,#[],c,d,⟨λx hx=>by simp at hx,λu b=>absurd b (e u),List.Pairwise.nil⟩⟩
theorem ad3 (J:bp f) (q':f.fy) (IH:∀c∈f.cs,qj c c.hY):qj f f.hY:=by
 intro h s K Kp ht hs hk;obtain ⟨_,_,_,_,_,_,_,h1,u',t',j'⟩:=J.right.1;have hsn:=hs.n;have Ul:f.cs.length<=32:=by
  by_cases a:f.k=15\/f.k=16\/f.k=19\/f.k=20
  ·have:=h1 a;omega
  by_cases b:f.k=17
  ·exact u' b
  by_cases c:f.k=18
  ·exact (t' c).2
  ·have:=j' ag;omega
 refine zX.of (az λa1 v' e1 g1 k1 _=>aN.b k1 (aj7 (Qd f J) (P8 f J) J q' (ht.aj g1) (hs.gr g1) λt h2 g2 vn=>az λa3 h3 e3 g3 Q _=>mH.b Q rfl λh4 o4 Q => ?_));have s1:=g1.1;have s2:=g2.1;have s3:=g3.1;have s4:=o4.1;have k1l:=k1.lt;have Ng:=Q.lt;have g4:ah h2 h4:=aM.aj g3 o4 ag;have G4:ah h h4:=ah.trans (ah.trans g1 g2) g4;have k1:=(k1.aj g2).aj g4;have vn:au (λc=>h.size<=c/\c < h2.size) h4 t f.bO.items:=au.gr (au.mo (au.lt _ vn) λc (q:v'.size<=c/\c < h2.size)=>⟨by omega,q.2⟩) g4
 simp only[aI,Nat.reduceAdd,Nat.zero_add];refine an k1 rfl (HJ.bB (λx z hx=>∃(i:Nat) (ws:List Value) (As:List (Nat->Prop)),z=i/\i<=f.cs.length/\As.length=i/\ah h4 hx/\Xj h4.size f.cs hx x ws As) (λ_ z _=>f.cs.length - z.toNat) ⟨0,[],[],rfl,Nat.zero_le _,rfl,ah.refl _,⟨rfl,Nat.zero_le _⟩,by simp,by simp,List.Pairwise.nil,cN.nil _ _ _ _⟩ ?_)
 rintro x z hx ⟨i,ws,As,rfl,hi,g',gx,KM⟩ N hN;have zx:=gx.1;have kn:=KM.n;refine aA (λcc => ?_) λcc => ?_
 ·have cc:=ay cc;have l':i < f.cs.length:=ag;have T:f.cs[i]? = some f.cs[i]:=List.getElem?_eq_getElem l';generalize f.cs[i]=c at T;have d':=List.mem_of_getElem? T;have Cc:=uP c (J.aC d');refine ((hs.gr G4).gr gx).ix rfl T λp hp => ?_;obtain ⟨u,cp,hu⟩:=hp.row;refine aN.c cp (az λa6 h5 e5 R k6 _=>dW.b k6 rfl λh6 o6 k6=>aN.b k6 ?_);have g6:ah hx h6:=aM.aj R o6 ag;have s6:=g6.1;refine IH c d' (((ht.aj G4).aj gx).aj g6) (hu.gr g6) λv h7 g7 M7 => ?_;obtain ⟨kk,bb,ev⟩:=Cc.na M7;subst ev;refine ⟨rfl,az λa8 h8 e8 g8 k8 _ => ?_⟩;have s7:=g7.1;have s8:=g8.1;have G8:ah hx h8:=ah.trans g6 (ah.trans g7 g8);have e':∀c,x.at c->h4.size<=c/\c < hx.size:=λc q=>KM.sl.at q;have xn:x.n=ws.length:=by have:=KM.sl.n;rw[List.length_map] at this;exact this
  refine (KM.sl.aj G8).ap ag rfl (new:=[[.iface (aU kk) (.pointer (some ⟨bb,0,none⟩))]]) rfl (λr hr=>by simp at hr;subst hr;rfl) (λr hr=>by simp at hr;subst hr;simp[one]) (by simpa using iB k8 rfl) ag ag λx' h9 t9 m' o9=>aP ag ag (hN _ _ _ ⟨i+1,ws++[.iface (aU kk) (.pointer (some ⟨bb,0,none⟩))],As++[λc=>h6.size<=c/\c < h7.size],by simp,by omega,by simp[g'],?_,⟨by simp[kn.1],by simp;omega⟩,?_,?_,?_,?_⟩ ag)
  ·exact ((Tn.aT (ah.trans gx G8):Tn No h4 h8).trans' t9 λc q l'=>by have:=(e' c q).1;omega).aj
  ·intro j W A w l C m;rcases xe (i:=i) g' C with ⟨hj,C⟩ | ⟨rfl,rfl⟩
   ·rw[List.getElem?_append_left ag] at m;have g:=List.mem_of_getElem? C;exact (uP W (J.aC (List.mem_of_getElem? l))).fr (KM.aC j W A w l C m) ((Tn.aT G8:Tn x.at hx h8).trans t9) λc hc _=>(KM.bd A g c hc).2
   ·rw[List.getElem?_append_right ag] at m;rw[show j - ws.length=0 by omega] at m
    simp at m;subst m;rw[T] at l;cases l;exact Cc.fr M7 ((Tn.aT g8:Tn x.at h7 h8).trans t9) λd (hd:h6.size<=d/\d < h7.size) _ q=>by have:=e' d q;omega
  ·intro A g W f';have z9:=t9.1;rcases List.mem_append.1 g with g | g
   ·have:=KM.bd A g W f';refine ⟨⟨this.1.1,by omega⟩,λq => ?_⟩
    rcases m' W q with q | q
    ·exact this.2 q
    ·omega
   ·rw[List.mem_singleton] at g;subst g;have f':h6.size<=W/\W < h7.size:=f';refine ⟨⟨by omega,by omega⟩,λq => ?_⟩
    rcases m' W q with q | q
    ·have:=e' W q;omega
    ·omega
  ·rw[List.pairwise_append];refine ⟨KM.ap,List.pairwise_singleton _ _,λA g B hB W q z => ?_⟩;rw[List.mem_singleton] at hB;subst hB;have z:h6.size<=W/\W < h7.size:=z;have:=(KM.bd A g W q).1;omega
  ·rw[List.map_append];exact o9
 ·have cc:=ay cc;have r':i=f.cs.length:=ag;subst r';have GX:ah h hx:=ah.trans G4 gx;have Q:=Q.aj gx;have lx:h4.size<=hx.size:=gx.1;have s':h.size<=h4.size:=G4.1;have eb:=Wa f;have fin:=λ{h':Hp} {b:Nat} {SS:List Sl} {ST:List (Nat->Prop)} {X:Nat->Prop} {sp:List Value} (o:ah hx h') (F:aB h' b (bt f s t Sl.nil 0 0 0 (dB f.k SS ws x sp)).toArray (eM f.k)) (lb:hx.size<=b) =>
   ad7 (SS:=SS) (ST:=ST) (X:=X) (sp:=sp) (N:=λc=>h.size<=c/\c < h2.size) J KM g' s' (au.gr (au.gr vn gx) o) (λc q=>⟨q.1,by omega⟩) o lx F lb
  -- the one z' y'
  have U:∀{X:Addr->Value->Prop},f.cs.length=1->(∀k b a,ws=[.iface (aU k) (.pointer (some ⟨b,0,none⟩))]->cell hx a=some (.iface (aU k) (.pointer (some ⟨b,0,none⟩)))->X a (.iface (aU k) (.pointer (some ⟨b,0,none⟩))))->Ix x.a x.n 1 0 λZ=>Ld hx Z id (X Z):=by
   intro X hc hX;have lw:ws.length=1:=ag;have lA:As.length=1:=ag;obtain ⟨w,rfl⟩:∃w,ws=[w]:=by
    match hq:ws,lw with
    | [a],_=>exact ⟨a,rfl⟩
   have T:f.cs[0]? = some f.cs[0]:=List.getElem?_eq_getElem ag;have M:=KM.aC 0 _ As[0] w T (List.getElem?_eq_getElem ag) rfl;obtain ⟨kk,bb,ev⟩:=(uP _ (J.aC (List.mem_of_getElem? T))).na M;subst ev;have sv:=(cN.iS KM.sl).1;exact sv.ix ag (by have:=sv.1;simp at this;omega) (v:=.iface (aU kk) (.pointer (some ⟨bb,0,none⟩))) rfl λa ha=>GS ha (hX kk bb a rfl ha)
  have o':∀A∈((λ_=>False)::[]:List (Nat->Prop)),∀c,A c->∀(h':Hp) (b:Nat),hx.size<=c/\c < h'.size/\c≠b:=λA g c q=>by
   rw[List.mem_singleton] at g;subst g;exact q.elim
  have i':((λ_=>False)::[]:List (Nat->Prop)).Pairwise λA B=>∀c,A c->¬B c:=List.pairwise_singleton _ _;have n':((λ_=>False)::[λ_=>False,λ_=>False]:List (Nat->Prop)).Pairwise λA B=>∀c,A c->¬B c:=List.pairwise_cons.2 ⟨λ_ _ _ q=>q.elim,List.pairwise_cons.2 ⟨λ_ _ _ q=>q.elim,List.pairwise_singleton _ _⟩⟩;have w':((λ_=>False)::[λ_=>False]:List (Nat->Prop)).Pairwise λA B=>∀c,A c->¬B c:=List.pairwise_cons.2 ⟨λ_ _ _ q=>q.elim,List.pairwise_singleton _ _⟩;have S:f.k≠19->f.k≠20->∀X h',eY f.k X h' [] f.begun.b:=λa b X h'=>by unfold eY;rw[if_neg a,if_neg b]
  refine II.of ?_;simp only[aI,Nat.zero_add];refine an (k1.aj gx) rfl (aA (λc1 => ?_) λc1 => ?_)
  ·have c1:=ay c1;have D:bC f.k f.begun.b=[]:=by unfold bC;rw[if_neg ag,if_neg ag,if_neg ag,if_pos ag]
   have I:aU f.k=jW:=by unfold aU;rw[if_pos c1]
   have H:eM f.k=Pd:=by unfold eM;rw[if_pos c1]
   refine fZ.b Q (az λb h' L o F _ => ?_);have:=hk _ h' (ah.trans GX o) (fin (SS:=[]) (ST:=[]) (X:=λ_=>False) (sp:=[]) o (by rw[H];unfold dB jG;rw[if_neg ag,if_neg ag];exact F) ag (by rw[D];exact ⟨rfl,rfl⟩) (λi s A y q=>by simp at q) (λA g c q=>o' A g c q h' b) i' (S ag ag _ _))
   rw[I] at this;exact this
  have c1:f.k≠1:=by simpa using c1
  have J2:yV K Kp ⟨a3,0,none⟩ x f.k (f.k == 12 || f.k == 13) hx:=by
   refine yV.of (aA (λV => ?_) λV=>aA (λE => ?_) λE=>aA (λG => ?_) λG=>aA (λP => ?_) λP=>aA (λeX => ?_) λeX=>aA (λO => ?_) λO=>aA (λY => ?_) λY => ?_)
   ·have V:f.k=12\/f.k=13:=by simpa using V
    have D:bC f.k f.begun.b=[(ints [0],Y6),(bv [],Y8)]:=by rw[eb];unfold bC;rw[if_pos V];simp only[if_pos (show f.k=12\/f.k=13\/f.k=15 by omega)];rfl
    have I:aU f.k=jV:=by unfold aU;rw[if_neg ag,if_pos V]
    have H:eM f.k=Pc:=by unfold eM;rw[if_neg ag,if_pos V]
    refine fZ.b Q (az λb' h5 e5 R k5 _=>az λb h' L o F _ => ?_);have s5:=R.1;have sq:=o.1;have p':=k5.lt;have k':=F.lt;have:=hk _ h' (ah.trans GX (ah.trans R o)) (fin (SS:=[⟨some ⟨b',0,none⟩,1,1⟩,Sl.nil]) (ST:=[λc=>c=b',λ_=>False]) (X:=λ_=>False) (sp:=[]) (ah.trans R o) (by rw[H];unfold dB jG;rw[if_neg ag,if_neg ag];exact F) ag (by rw[D];exact ⟨rfl,rfl⟩) (λi s A y l C m => ?_) (λA g c q => ?_) ?_ (S ag ag _ _))
    ·rw[I] at this;exact this
    ·rw[D] at m;rcases i with _ | _ | i
     ·simp at l C m;subst l C m;exact .inr ⟨b',rfl,rfl,rfl,_,k5.aj o,Nat.le_refl _,rfl,λi hi=>by simp[ints]⟩
     ·simp at l C m;subst l C m;exact .inl ⟨rfl,rfl⟩
     ·simp at l
    ·simp only[List.mem_cons,List.not_mem_nil,or_false] at g;rcases g with rfl | rfl | rfl
     ·exact q.elim
     ·have q:c=b':=q;omega
     ·exact q.elim
    ·refine List.pairwise_cons.2 ⟨λ_ _ _ q=>q.elim,List.pairwise_cons.2 ⟨λB hB c _ z => ?_,List.pairwise_singleton _ _⟩⟩;rw[List.mem_singleton] at hB;subst hB;exact z
   ·have e:¬(f.k=12\/f.k=13):=by simpa using V
    have E:=ay E;have D:bC f.k f.begun.b=[(ints [0],Y6)]:=by rw[eb];unfold bC;rw[if_neg e,if_pos ag];simp only[if_pos (show f.k=12\/f.k=13\/f.k=15 by omega)]
    have I:aU f.k=jU:=by unfold aU;rw[if_neg ag,if_neg e,if_pos E]
    have H:eM f.k=Pb:=by unfold eM;rw[if_neg ag,if_neg e,if_pos E]
    refine fZ.b Q (U (h1 ag) λkk bb Z ew ha=>az λa' h5 e5 R k5 _=>vY ha R (bK Q R ⟨rfl,az λb h' L o F _ => ?_⟩));have s5:=R.1;have sq:=o.1;have p':=k5.lt;have k':=F.lt;have:=hk _ h' (ah.trans GX (ah.trans R o)) (fin (SS:=[⟨some ⟨a',0,none⟩,1,1⟩]) (ST:=[λc=>c=a']) (X:=λ_=>False) (sp:=[]) (ah.trans R o) (by rw[H];unfold dB jG;rw[if_pos ag,ew];exact F) ag (by rw[D];exact ⟨rfl,rfl⟩) (λi s A y l C m => ?_) (λA g c q => ?_) (List.pairwise_cons.2 ⟨λ_ _ _ q=>q.elim,List.pairwise_singleton _ _⟩) (S ag ag _ _))
    ·rw[I] at this;exact this
    ·rw[D] at m;rcases i with _ | i
     ·simp at l C m;subst l C m;exact .inr ⟨a',rfl,rfl,rfl,_,k5.aj o,Nat.le_refl _,rfl,λi hi=>by simp[ints]⟩
     ·simp at l
    ·simp only[List.mem_cons,List.not_mem_nil,or_false] at g;rcases g with rfl | rfl
     ·exact q.elim
     ·have q:c=a':=q;omega
   ·have e:¬(f.k=12\/f.k=13):=by simpa using V
    simp only[sm,reduceCtorEq] at E G;have D:bC f.k f.begun.b=[]:=by unfold bC;rw[if_neg e,if_neg ag,if_neg ag,if_pos ag]
    have I:aU f.k=jy:=by unfold aU;rw[if_neg ag,if_neg e,if_neg ag,if_pos G]
    have H:eM f.k=Pa:=by unfold eM;rw[if_neg ag,if_neg e,if_neg ag,if_pos G]
    refine fZ.b Q (U (h1 ag) λkk bb Z ew ha=>⟨rfl,az λb h' L o F _ => ?_⟩);have:=hk _ h' (ah.trans GX o) (fin (SS:=[]) (ST:=[]) (X:=λ_=>False) (sp:=[]) o (by rw[H];unfold dB jG;rw[if_pos ag,ew];exact F) ag (by rw[D];exact ⟨rfl,rfl⟩) (λi s A y l=>by simp at l) (λA g c q=>by simp only[List.mem_cons,List.not_mem_nil,or_false] at g;rcases g with rfl <;> exact q.elim) i' (S ag ag _ _))
    rw[I] at this;exact this
   ·have e:¬(f.k=12\/f.k=13):=by simpa using V
    simp only[sm,reduceCtorEq] at E G P;have D:bC f.k f.begun.b=[]:=by unfold bC;rw[if_neg e,if_neg ag,if_neg ag,if_pos ag]
    have I:aU f.k=jw:=by unfold aU;rw[if_neg ag,if_neg e,if_neg ag,if_neg ag,if_pos P]
    have H:eM f.k=O9:=by unfold eM;rw[if_neg ag,if_neg e,if_neg ag,if_neg ag,if_pos P]
    refine fZ.b Q (az λb h' L o F _ => ?_);have:=hk _ h' (ah.trans GX o) (fin (SS:=[]) (ST:=[]) (X:=λ_=>False) (sp:=[]) o (by rw[H];unfold dB jG;rw[if_neg ag,if_pos ag];exact F) ag (by rw[D];exact ⟨rfl,rfl⟩) (λi s A y l=>by simp at l) (λA g c q=>by simp only[List.mem_cons,List.not_mem_nil,or_false] at g;rcases g with rfl <;> exact q.elim) i' (S ag ag _ _))
    rw[I] at this;exact this
   ·have e:¬(f.k=12\/f.k=13):=by simpa using V
    simp only[sm,reduceCtorEq] at E G P eX;have D:bC f.k f.begun.b=[(bv [],Y8),(ints [],Y6)]:=by rw[eb];unfold bC;rw[if_neg e,if_neg ag,if_pos eX];simp only[if_neg (show ¬(f.k=12\/f.k=13\/f.k=15) by omega)];rfl
    have I:aU f.k=kH:=by unfold aU;rw[if_neg ag,if_neg e,if_neg ag,if_neg ag,if_neg ag,if_pos eX]
    have H:eM f.k=O8:=by unfold eM;rw[if_neg ag,if_neg e,if_neg ag,if_neg ag,if_neg ag,if_pos eX]
    refine fZ.b Q (az λb h' L o F _ => ?_);have:=hk _ h' (ah.trans GX o) (fin (SS:=[Sl.nil,Sl.nil]) (ST:=[λ_=>False,λ_=>False]) (X:=λ_=>False) (sp:=[]) o (by rw[H];unfold dB jG;rw[if_neg ag,if_pos ag];exact F) ag (by rw[D];exact ⟨rfl,rfl⟩) (λi s A y l C m => ?_) (λA g c q=>by simp only[List.mem_cons,List.not_mem_nil,or_false] at g;rcases g with rfl | rfl | rfl <;> exact q.elim) n' (S ag ag _ _))
    ·rw[I] at this;exact this
    ·rw[D] at m;rcases i with _ | _ | i
     ·simp at l C m;subst l C m;exact .inl ⟨rfl,rfl⟩
     ·simp at l C m;subst l C m;exact .inl ⟨rfl,rfl⟩
     ·simp at l
   ·have e:¬(f.k=12\/f.k=13):=by simpa using V
    simp only[sm,reduceCtorEq] at E G P eX O;have D:bC f.k f.begun.b=[(ints [],Y6)]:=by rw[eb];unfold bC;rw[if_neg e,if_pos ag];simp only[if_neg (show ¬(f.k=12\/f.k=13\/f.k=15) by omega)]
    have I:aU f.k=kG:=by unfold aU;rw[if_neg ag,if_neg e,if_neg ag,if_neg ag,if_neg ag,if_neg ag,if_pos O]
    have H:eM f.k=O7:=by unfold eM;rw[if_neg ag,if_neg e,if_neg ag,if_neg ag,if_neg ag,if_neg ag,if_pos O]
    refine fZ.b Q (U (h1 ag) λkk bb Z ew ha => ?_);unfold yG;have R:ah hx (hx.push (.map #[] 0)):=ah.push hx _;have z5:(hx.push (Obj.map #[] 0)).size=hx.size+1:=Array.size_push ..;refine vY ha R (bK Q R ⟨rfl,az λb h' L o F _ => ?_⟩);have sq:=o.1;have k':=F.lt;have:=hk _ h' (ah.trans GX (ah.trans R o)) (fin (SS:=[Sl.nil]) (ST:=[λ_=>False]) (X:=λc=>c=hx.size) (sp:=[Sl.v Sl.nil, .map (some hx.size)]) (ah.trans R o) (by rw[H];unfold dB jG;rw[if_pos ag,ew];exact F) ag (by rw[D];exact ⟨rfl,rfl⟩) (λi s A y l C m => ?_) (λA g c q => ?_) (List.pairwise_cons.2 ⟨λB hB c _ z => ?_,List.pairwise_singleton _ _⟩) ?_)
    ·rw[I] at this;exact this
    ·rw[D] at m;rcases i with _ | i
     ·simp at l C m;subst l C m;exact .inl ⟨rfl,rfl⟩
     ·simp at l
    ·simp only[List.mem_cons,List.not_mem_nil,or_false] at g;rcases g with rfl | rfl
     ·have q:c=hx.size:=q;omega
     ·exact q.elim
    ·rw[List.mem_singleton] at hB;subst hB;exact z
    ·unfold eY;rw[if_pos O,eb];exact ⟨Sl.nil,hx.size,rfl,adp (c:=0) rfl ((o.2 hx.size ag).trans aS)⟩
   ·have e:¬(f.k=12\/f.k=13):=by simpa using V
    simp only[sm,reduceCtorEq] at E G P eX O Y;have D:bC f.k f.begun.b=[(ints [],Y6)]:=by rw[eb];unfold bC;rw[if_neg e,if_pos ag];simp only[if_neg (show ¬(f.k=12\/f.k=13\/f.k=15) by omega)]
    have I:aU f.k=jT:=by unfold aU;rw[if_neg ag,if_neg e,if_neg ag,if_neg ag,if_neg ag,if_neg ag,if_neg ag,if_pos Y]
    have H:eM f.k=O6:=by unfold eM;rw[if_neg ag,if_neg e,if_neg ag,if_neg ag,if_neg ag,if_neg ag,if_neg ag,if_pos Y]
    refine fZ.b Q (U (h1 ag) λkk bb Z ew ha=>⟨rfl,az λb h' L o F _ => ?_⟩);have:=hk _ h' (ah.trans GX o) (fin (SS:=[Sl.nil]) (ST:=[λ_=>False]) (X:=λ_=>False) (sp:=[.bool false, .int .i64 0, .string (bs []),Sl.v Sl.nil]) o (by rw[H];unfold dB jG;rw[if_pos ag,ew];exact F) ag (by rw[D];exact ⟨rfl,rfl⟩) (λi s A y l C m => ?_) (λA g c q=>by simp only[List.mem_cons,List.not_mem_nil,or_false] at g;rcases g with rfl | rfl <;> exact q.elim) w' ?_)
    ·rw[I] at this;exact this
    ·rw[D] at m;rcases i with _ | i
     ·simp at l C m;subst l C m;exact .inl ⟨rfl,rfl⟩
     ·simp at l
    ·unfold eY;rw[if_neg O,if_pos Y,eb];exact ⟨Sl.nil,rfl,au.nil _⟩
   ·have e:¬(f.k=12\/f.k=13):=by simpa using V
    simp only[sm,reduceCtorEq] at E G P eX O Y;have D:bC f.k f.begun.b=[(gF [],kI),(strs [],lS)]:=by rw[eb];unfold bC;rw[if_neg e,if_neg ag,if_neg eX,if_neg ag];rfl
    have I:aU f.k=kF:=by unfold aU;rw[if_neg ag,if_neg e,if_neg ag,if_neg ag,if_neg ag,if_neg ag,if_neg ag,if_neg ag]
    have H:eM f.k=O5:=by unfold eM;rw[if_neg ag,if_neg e,if_neg ag,if_neg ag,if_neg ag,if_neg ag,if_neg ag,if_neg ag]
    refine fZ.b Q (az λb h' L o F _ => ?_);have:=hk _ h' (ah.trans GX o) (fin (SS:=[Sl.nil,Sl.nil]) (ST:=[λ_=>False,λ_=>False]) (X:=λ_=>False) (sp:=[]) o (by rw[H];unfold dB jG;rw[if_neg ag,if_neg ag];exact F) ag (by rw[D];exact ⟨rfl,rfl⟩) (λi s A y l C m => ?_) (λA g c q=>by simp only[List.mem_cons,List.not_mem_nil,or_false] at g;rcases g with rfl | rfl | rfl <;> exact q.elim) n' (S ag ag _ _))
    ·rw[I] at this;exact this
    ·rw[D] at m;rcases i with _ | _ | i
     ·simp at l C m;subst l C m;exact .inl ⟨rfl,rfl⟩
     ·simp at l C m;subst l C m;exact .inl ⟨rfl,rfl⟩
     ·simp at l
  refine aA (λyy => ?_) λyy => ?_
  ·rw[yy] at J2;exact J2
  ·rw[yy] at J2;exact J2
theorem MS:∀f:ai,bp f->f.fy->qj f f.hY
  | .mk g aq k w id ix cs,b,a=>by
    have e:∀c∈cs,qj c c.hY:=λc d=>MS c (b.aC d) (gj.get a.2.2 c d);exact ad3 b a e
end
theorem akm {f:ai} (e:jA f) {l:List ak} (c:f.can l):l=fV f (f.dn (f.st l)) (f.dn (f.st l)).off.toNat (f.dn (f.st l)).len.toNat:=by
 rw[ru,pN];apply List.ext_getElem?;intro i;simp only[Int.toNat_natCast]
 by_cases b:i < l.length
 ·rw[Wg b];have a:l[i]? = some l[i]:=List.getElem?_eq_getElem b;rw[a];have:=e l c i _ a;simp only[Int.toNat_zero,Nat.zero_add];rw[this]
 ·rw[List.getElem?_eq_none ag,List.getElem?_eq_none (by rw[GH];omega)]
theorem Wt {f:ai} (a:dU f.k=true) (vs:List ak) (x:ak):gm f vs x=if x.aV<=4194304/\f.fit x=true then (if 4096<=vs.length then 3 else if 4194304 < bg vs+(16+x.text.length) then 3 else 0) else 7:=by
 unfold gm;rw[Zm a];unfold LF;rw[cQ];have e1:(aG f.k vs).rows=vs.length:=rfl;have b:(aG f.k vs).aW=bg vs:=rfl;rw[e1,b];split
 ·split
  ·rfl
  ·rfl
 ·rfl
def vN (n:Int):ak:=.mk false n [] []
theorem oe:bp fA:=by
 refine bp.LR ?_;simp only[fA,ai.places,dm];refine ⟨⟨by decide,by decide,SD,by simp,by simp[Shaped,ai.k,ai.w,ai.id,ai.ix,ai.cs],by simp[yF,ai.k,ai.aq,ai.cs],by simp,by simp[ai.k]⟩,trivial⟩
theorem R0:dU fA.k=true:=rfl
theorem Ay:fA.fy:=by
 unfold fA ai.fy;exact ⟨by decide,by decide,trivial⟩
theorem MO:MC fA fA.hY:=uP fA oe
theorem MN:qj fA fA.hY:=MS fA oe Ay
theorem LG:fo fA:=λv a=>QV oe aL a
theorem mvA:jA fA:=SV oe aL
theorem Oe:iN fA:=UG aL
theorem ag2 (n:Int):fA.fit (vN n)=(decide (-32768<=n) && decide (n < 32768)):=by
 simp[fA,vN,ai.fit,dr,ak.items,ak.aq,ak.text,ak.num,iU,cl]
theorem ag1:fA.fit v0=true:=by
 simp[fA,v0,ai.fit,dr,mw,ot,ak.items,ak.aq,ak.text,ak.num]
theorem O1 (vs:List ak) (n:Int) (c:vs.length<=1) (b:bg vs<=16):gm fA vs (vN n)=if -32768<=n/\n < 32768 then 0 else 7:=by
 rw[Wt R0,ag2];have e:(vN n).aV=16:=rfl;have a:(vN n).text.length=0:=rfl;rw[e,a]
 by_cases q : -32768<=n/\n < 32768
 ·rw[if_pos ⟨by omega,by simp[q]⟩,if_neg ag,if_neg ag,if_pos q]
 ·rw[if_neg (λz=>q (by simpa using z.2)),if_neg q]
theorem akA (vs:List ak) (c:vs.length<=1) (b:bg vs<=16):gm fA vs v0=0:=by
 rw[Wt R0,ag1];have e:v0.aV=16:=rfl;have a:v0.text.length=0:=rfl;rw[e,a,if_pos ⟨by omega,rfl⟩,if_neg ag,if_neg ag]
def lA:List ak:=[vN (-2),v0]
def lB:List ak:=[vN 1,vN 40000]
theorem N4:Good fA lA 2:=by
 intro j x b a;rcases j with _ | _ | j
 ·simp[lA] at a;subst a;exact O1 [] (-2) aL aL
 ·simp[lA] at a;subst a;exact akA [vN (-2)] aL aL
 ·omega
theorem Wb:gm fA (lB.take 1) (vN 40000)=7:=O1 [vN 1] 40000 aL aL
theorem agt:gm fA (lB.take 0) (vN 1)=0:=O1 [] 1 aL aL
theorem yl:fA.dn (fA.st lA)=.mk 2 0 1 [[1],[254,255,0,0]] [] []:=by
 rw[vr aL];have e1:(aG fA.k lA).bu=1:=by decide
 have b:bZ (aG fA.k lA)=[1]:=by decide
 have a:laidB (aG fA.k lA).cm (wB fA.k)=[254,255,0,0]:=by decide
 rw[e1,b,a];rfl
theorem Qu {h:Hp} {a:Nat} {el:TypeId} {B d:Bool} {x y:Int} (k:aB h a #[.bool B, .int .i64 x, .string (bs []), .slice none 0 0, .bool d, .int .i64 y, .string (bs []), .slice none 0 0] el) :
  au (λ_=>True) h ⟨some ⟨a,0,none⟩,2,2⟩ [.mk B x [] [], .mk d y [] []]:=by
 refine au.of rfl (Nat.le_refl _) λ_=>⟨_,rfl,trivial,λj v c => ?_⟩;rcases j with _ | _ | j
 ·simp at c;subst c;refine VA.of (s:=⟨none,0,0⟩) (λi w b => ?_) (au.nil _);rw[aI,aI,eW k];rcases i with _ | _ | _ | _ | i
  all_goals first | (simp[ak.row,qD] at b;done) | (simpa[ak.row,qD,Sl.v,ak.aq,ak.num,ak.text] using b)
 ·simp at c;subst c;refine VA.of (s:=⟨none,0,0⟩) (λi w b => ?_) (au.nil _);rw[aI,aI,eW k];rcases i with _ | _ | _ | _ | i
  all_goals first | (simp[ak.row,qD] at b;done) | (simpa[ak.row,qD,Sl.v,ak.aq,ak.num,ak.text] using b)
 ·simp at c
theorem akl {h:Hp} {K:Bool->HP} {Kp:PK} (y:kJ h) (B:fW h) (hk:∀v,ah h v->K true v):Dk h K Kp:=by
 have kD:(fA.dn (fA.st lA)).kD:=by rw[yl];exact ⟨by decide,⟨by decide,trivial⟩,by decide,trivial⟩
 refine Dk.of (az λa1 h1 e1 g1 m _=>dW.b m rfl λh2 o2 m=>aN.b m (az λd' h3 e3 F O _ => ?_));have s1:=g1.1;have g2:ah h h2:=aM.aj g1 o2 ag;have L:=ah.trans g2 F;have b':=m.lt;have G:∀{v:Hp},bM v ⟨none,0,0⟩ fA.cs:=λ{v}=>by unfold fA ai.cs bM;exact ⟨rfl,Nat.le_refl _⟩
 have rA:ku lA:=⟨⟨by decide,trivial⟩,⟨by decide,trivial⟩,trivial⟩
 have rB:ku lB:=⟨⟨by decide,trivial⟩,⟨by decide,trivial⟩,trivial⟩
 refine yE (f:=fA) (l:=lA) MO MN LG Oe oe Ay rA aL (y.k.aj L) (B.aj L) G (Qu O) (λq h4 z X _ D4 => ?_) λi x v _ _ o r => ?_;rotate_left
 ·rcases i with _ | _ | i
  ·exact absurd (N4 0 x aL o) r
  ·exact absurd (N4 1 x aL o) r
  ·simp[lA] at o
 refine az λa2 h5 e5 E e _=>bw.b e rfl λh6 U e=>IN.of (aN.b ((m.aj F).aj (ah.trans z (aM.aj E U ag))) (az λc' h7 e7 C N _ => ?_));have s4:=z.1;have s5:=E.1;have a':=e.lt;have g6:ah h4 h6:=aM.aj E U ag;have u:=ah.trans g6 C;have J:=ah.trans L (ah.trans z u);have m:=(m.aj F).aj (ah.trans z u);have e:=e.aj C;refine yE (f:=fA) (l:=lB) MO MN LG Oe oe Ay rB aL (y.k.aj J) (B.aj J) G (Qu N) (λq Y _ _ W _ => ?_) λi x Y g8 W o r => ?_
 ·have:=W 1 (vN 40000) aL rfl;rw[Wb] at this;cases this
 obtain ⟨rfl,rfl⟩:i=1/\x=vN 40000:=by
  rcases i with _ | _ | i
  ·simp[lB] at o;subst o;exact absurd agt r
  ·simp[lB] at o;exact ⟨rfl,o.symm⟩
  ·simp[lB] at o
 rw[Wb];refine az λa5 h9 e9 Z V _=>bw.b V rfl λQ M V => ?_;have s7:=C.1;have s8:=g8.1;have s9:=Z.1;have T:ah Y Q:=aM.aj Z M ag;have c:=ah.trans g8 T;have s:=ah.trans J c;have m:=m.aj c;have e:=e.aj c;have g:=(D4.gr u).gr c;have el:(fA.dn (fA.st lA)).len=2:=by rw[yl];rfl
 have en:(fA.dn (fA.st lA)).aq=1:=by rw[yl];rfl
 have w:(fA.dn (fA.st lA)).aH=[[1],[254,255,0,0]]:=by rw[yl];rfl
 have bn:=g.b.n;rw[w] at bn;refine IM.of (bx rfl (an e rfl (Cy.of (bx (by rw[el];rfl) ?_))))
 simp only[aI,Nat.zero_add];refine an e rfl (Cw.of (bx (by rw[en];rfl) ?_))
 simp only[aI,Nat.zero_add];refine an e rfl (Cv.of (bx (by rw[bn.1];rfl) ?_))
 simp only[aI,Nat.zero_add];refine an e rfl (g.b.ix (j:=0) rfl (by rw[w];decide) λa t H A=>⟨t,H,tJ A.1 (Ct.of (bx (by rw[w,BS];rfl) ?_))⟩)
 simp only[aI,Nat.zero_add];refine an e rfl (g.b.ix (j:=1) rfl (by rw[w];decide) λa t H A=>⟨t,H,tJ A.1 (Cr.of (bx (by rw[w,BS];rfl) (Cq.of (bx rfl (Cp.of (bx rfl (aN.b m (bq.b e ?_))))))))⟩)
 have I:=akp oe aL lA X;have av:=akm mvA X;rw[yl] at g I av kD ⊢;refine alq (f:=fA) (d:=dA) (D:=λ_=>True) MO MN LG Oe oe Ay (y.aj s) (B.aj s) G (p:=q) ?_ (acX oe Ay (y.aj s) ?_ I) acP I av rA kD λb P R hb => ?_
 ·exact g.fr (S:=No) (Tn.refl _ _) (λ_ _ _=>id) (λ_ _ _=>id) (λ_ _=>trivial) λ_ _=>trivial
 ·exact g.fr (S:=No) (Tn.refl _ _) (λ_ _ _=>id) (λ_ _ _=>id) (λ_ _=>trivial) λ_ _=>trivial
 ·obtain rfl:b=true:=hb.2 ⟨N4,yl⟩;exact hk P (ah.trans s R)
open Go Go.Sh Go.ChangeShapes Go.WideShapes Go.RowKit
theorem own:ownKnob Tryz.prog.godebug=none:=by kernel_rfl
theorem laidOut:laidOutB Tryz.prog=true:=by kernel_rfl
theorem ad1:mapsRowed Tryz.prog=true:=by kernel_rfl
theorem aaQ:((List.range Tryz.prog.types.size).all λt=>match Tryz.prog.underlying t with | some (.slice e)=>decide (0 < Tryz.prog.cellsOf e) | _=>true)=true:=by kernel_rfl
noncomputable def tg (t:TypeId):Array Field:=match Tryz.prog.underlying t with | some (.struct fs)=>fs | _=>#[]
abbrev dN (t:TypeId) (i:Nat) (ty:TypeId) (off:Nat):Prop:=((tg t)[i]?).map (λf=>(f.type,f.offset))=some (ty,off)
theorem u3:Tryz.prog.underlying 3=some (.int .i64):=by kernel_rfl
theorem u4:Tryz.prog.underlying 4=some (.bool):=by kernel_rfl
theorem u5:Tryz.prog.underlying 5=some (.int .u8):=by kernel_rfl
theorem u9:Tryz.prog.underlying 9=some (.string):=by kernel_rfl
theorem Zc:Tryz.prog.underlying 22=some (.slice 26):=by kernel_rfl
theorem Za:Tryz.prog.underlying 187=some (.array 21 186):=by kernel_rfl
theorem Y9:Tryz.prog.underlying 160=some (.array 256 5):=by kernel_rfl
theorem Y7:Tryz.prog.underlying 163=some (.array 16 162):=by kernel_rfl
theorem Zb:Tryz.prog.underlying 24=some (.struct (tg 24)):=by kernel_rfl
theorem aiM:dN 24 0 3 0:=by unfold dN;kernel_rfl
theorem aiL:dN 24 1 3 1:=by unfold dN;kernel_rfl
theorem aiK:dN 24 2 3 2:=by unfold dN;kernel_rfl
theorem aiJ:dN 24 3 3 3:=by unfold dN;kernel_rfl
theorem aiI:dN 24 4 22 4:=by unfold dN;kernel_rfl
theorem Qr:Tryz.prog.underlying 26=some (.struct (tg 26)):=by kernel_rfl
theorem aiH:dN 26 0 9 0:=by unfold dN;kernel_rfl
theorem aiG:dN 26 1 4 1:=by unfold dN;kernel_rfl
theorem aiF:dN 26 2 24 2:=by unfold dN;kernel_rfl
theorem KE:Tryz.prog.underlying 186=some (.struct (tg 186)):=by kernel_rfl
theorem aiE:dN 186 1 3 1:=by unfold dN;kernel_rfl
theorem aiD:dN 186 2 3 2:=by unfold dN;kernel_rfl
theorem aiC:dN 186 3 4 3:=by unfold dN;kernel_rfl
theorem Qp:Tryz.prog.underlying 162=some (.struct (tg 162)):=by kernel_rfl
theorem aiB:dN 162 0 5 0:=by unfold dN;kernel_rfl
theorem aiA:dN 162 1 5 1:=by unfold dN;kernel_rfl
theorem U4:Tryz.prog.cellsOf 3=1:=by kernel_rfl
theorem Oq:Tryz.prog.cellsOf 4=1:=by kernel_rfl
theorem U3:Tryz.prog.cellsOf 5=1:=by kernel_rfl
theorem U1:Tryz.prog.cellsOf 9=1:=by kernel_rfl
theorem aiR:Tryz.prog.cellsOf 22=1:=by kernel_rfl
theorem aiQ:Tryz.prog.cellsOf 24=5:=by kernel_rfl
theorem U5:Tryz.prog.cellsOf 26=7:=by kernel_rfl
theorem aiO:Tryz.prog.cellsOf 186=4:=by kernel_rfl
theorem aiN:Tryz.prog.cellsOf 162=2:=by kernel_rfl
theorem MY {α:Type} {Q:Nat->α->Prop}:∀{n:Nat},(∀i,i < n->∃v,Q i v)->∃l:List α,l.length=n/\∀(i:Nat) v,l[i]? = some v->Q i v
  | 0,_=>⟨[],rfl,λi v h=>by simp at h⟩
  | n+1,h=>by
    obtain ⟨l,hl,b⟩:=MY (n:=n) λi b=>h i ag;obtain ⟨v,c⟩:=h n ag;refine ⟨l++[v],by simp[hl],λi u a => ?_⟩
    by_cases d:i < n
    · rw[List.getElem?_append_left ag] at a;exact b i u a
    · have:i=n:=by have:=(List.getElem?_eq_some_iff.1 a).1;simp at this;omega
      subst this;rw[List.getElem?_append_right ag,hl] at a;simp only[Nat.sub_self,List.getElem?_cons_zero,Option.some.injEq] at a;subst a;exact c
theorem aeg {α:Type} {l:List α} (h:l.length=4):∃d c b a,l=[d,c,b,a]:=by
 match l,h with
 | [_,_,_,_],_=>exact ⟨_,_,_,_,rfl⟩
theorem aef {α:Type} {l:List α} (h:l.length=7):∃g f e d c b a,l=[g,f,e,d,c,b,a]:=by
 match l,h with
 | [g,f,e,d,c,b,a],_=>exact ⟨_,_,_,_,_,_,_,rfl⟩
section
variable {H:Type} {enc:TypeId × Value->H} {W:World} {fuel:Nat} {cs:List Value} {x:DataW H × List MemPlace}
abbrev Rd (enc:TypeId × Value->H) (W:World) (fuel:Nat) (t:TypeId) (cs:List Value) (x:DataW H × List MemPlace):Prop:=DataW.trod enc Tryz.prog W 0 (λ_=>true) true fuel t cs=some x
theorem RH {t e:TypeId} (f:Tryz.prog.underlying t=some (.slice e)) (h:Rd enc W fuel t cs x) :
  ∃(s:Sl) (n:Nat),cs=[s.v]/\fuel=n+1/\s.n<=s.c/\s.n<=jY/\∀i,i < s.n->∃a b y,s.a=some a/\b.length=Tryz.prog.cellsOf e/\Cs (aE W) (a.add (i*Tryz.prog.cellsOf e)) b/\Rd enc W n e b y:=by
 obtain ⟨s,vk,k,n,rfl,rfl,p,l,_,d⟩:=acW f h;refine ⟨s,n,rfl,rfl,l,?_,λi q => ?_⟩
 ·rcases DataW.trod_slice f h with ⟨e1,_⟩ | ⟨a,len,cap,_,_,_,_,e1,_,_,j,g,_⟩
  ·simp only[Sl.v,List.cons.injEq,Value.slice.injEq,and_true] at e1;omega
  ·simp only[Sl.v,List.cons.injEq,Value.slice.injEq,and_true] at e1;have:maxLen=9223372036854775807:=by decide
   show s.n<=9223372036854775807;omega
 ·obtain ⟨a,b,j,g,o,m⟩:=d i vk[i] (List.getElem?_eq_getElem ag);exact ⟨a,b,vk[i],j,g,o,m⟩
theorem Lp {t:TypeId} (j:Tryz.prog.underlying t=some (.struct (tg t))) (h:Rd enc W fuel t cs x) :
  ∃n,fuel=n+1/\cs.length=Tryz.prog.cellsOf t/\∀(i:Nat) (ty:TypeId) (off:Nat),dN t i ty off->∃y,Rd enc W n ty ((cs.drop off).take (Tryz.prog.cellsOf ty)) y:=by
 obtain ⟨d,n,rfl,rfl,hl,g,k⟩:=DataW.trod_struct j h;refine ⟨n,rfl,hl,λi ty off b => ?_⟩;unfold dN at b;rw[Option.map_eq_some_iff] at b;obtain ⟨f,a,e⟩:=b;cases e;have c:i < d.length:=by have:=(Array.getElem?_eq_some_iff.1 a).1;omega
 have:=k i f a;rw[List.getElem?_eq_getElem c] at this;exact ⟨d[i],this⟩
theorem AS (h:Rd enc W fuel 3 cs x):∃v:Int,cs=[.int .i64 v]/\v < 2 ^ 63:=by
 obtain ⟨v,rfl,b,a⟩:=Sf u3 h;exact ⟨v,rfl,by omega⟩
theorem RJ (h:Rd enc W fuel 4 cs x):∃v,cs=[.bool v]:=by
 obtain ⟨v,rfl,_⟩:=DataW.trod_bool u4 h;exact ⟨v,rfl⟩
theorem RG (h:Rd enc W fuel 9 cs x):∃v:ByteArray,cs=[.string v]/\v.size<=jY:=by
 obtain ⟨v,rfl,_,hl⟩:=DataW.trod_string u9 h;have:maxLen=9223372036854775807:=by decide
 exact ⟨v,rfl,by show _<=9223372036854775807;omega⟩
theorem fJ.of {h:Hp} {a:Addr}:∀{fs:List ai} {i:Nat},(∀(j:Nat) f,fs[j]? = some f->iw h (a.add ((i+j)*7)) f)->fJ h a i fs
  | [],_,_=>by unfold fJ;trivial
  | f::fs,i,b=>by
    unfold fJ;refine ⟨b 0 f rfl,fJ.of λj g c => ?_⟩;have:=b (j+1) g (by simpa using c)
    have e:i+1+j=i+(j+1):=ag;rw[e];exact this
theorem bM.of {h:Hp} {s:Sl} {fs:List ai} (k:s.n=fs.length) (q:s.n<=s.c) (o:∀(j:Nat) f,fs[j]? = some f->∃a,s.a=some a/\iw h (a.add (j*7)) f):bM h s fs:=by
  cases fs with
  | nil=>unfold bM;exact ⟨k,q⟩
  | cons f fs =>
    unfold bM;obtain ⟨a,d,m⟩:=o 0 f rfl;refine ⟨k,q,a,d,by simpa[add_zero'] using m,fJ.of λj g i => ?_⟩
    obtain ⟨p,b,l⟩:=o (j+1) g (by simpa using i)
    rw[d] at b;cases b;have e:1+j=j+1:=ag;rw[e];exact l
theorem gj.of:∀{fs:List ai},(∀(j:Nat) f,fs[j]? = some f->f.fy)->gj fs
 | [],_=>by unfold gj;trivial
 | f::fs,h=>by unfold gj;exact ⟨h 0 f rfl,gj.of λj g a=>h (j+1) g (by simpa using a)⟩
def Xo (H:Type) (enc:TypeId × Value->H) (W:World) (fuel:Nat):Prop:=∀{cs:List Value} {x:DataW H × List MemPlace},Rd enc W fuel 22 cs x->∃(s:Sl) (fs:List ai),cs=[s.v]/\bM (aE W) s fs/\gj fs/\fs.length<=jY
theorem RI (C:∀n,n < fuel->Xo H enc W n) (h:Rd enc W fuel 26 cs x):∃(f:ai) (u:Sl),cs=[.string f.name, .bool f.aq, .int .i64 f.k, .int .i64 f.w, .int .i64 f.id, .int .i64 f.ix,Sl.v u]/\bM (aE W) u f.cs/\f.fy:=by
 obtain ⟨V,rfl,c,b⟩:=Lp Qr h;rw[U5] at c;obtain ⟨v0,U,T,S,R,Q,P,rfl⟩:=aef c;obtain ⟨O,y⟩:=b 0 _ _ aiH;obtain ⟨N,t⟩:=b 1 _ _ aiG;obtain ⟨M,s⟩:=b 2 _ _ aiF;obtain ⟨A,l,z⟩:=RG y;obtain ⟨aq,e1⟩:=RJ t;obtain ⟨B,rfl,_,a⟩:=Lp Zb s;obtain ⟨L,r⟩:=a 0 _ _ aiM;obtain ⟨K,q⟩:=a 1 _ _ aiL;obtain ⟨J,p⟩:=a 2 _ _ aiK;obtain ⟨I,o⟩:=a 3 _ _ aiJ;obtain ⟨G,m⟩:=a 4 _ _ aiI;obtain ⟨k,j,_⟩:=AS r;obtain ⟨w,i,_⟩:=AS q;obtain ⟨id,g,_⟩:=AS p;obtain ⟨ix,e,_⟩:=AS o;obtain ⟨u,ds,d,F,E,D⟩:=C B ag m;simp[U4,Oq,U1,aiR,aiQ] at l e1 j i g e d;subst l e1 j i g e d;exact ⟨.mk A aq k w id ix ds,u,rfl,F,by unfold ai.fy;exact ⟨z,D,E⟩⟩
theorem abZ:∀(fuel:Nat),Xo H enc W fuel:=by
  intro fuel
  induction fuel using Nat.strongRecOn with
  | _ fuel g =>
    intro cs x h;obtain ⟨s,n,rfl,rfl,p,o,d⟩:=RH Zc h;obtain ⟨l,hl,b⟩:=MY (Q:=λi (f:ai)=>(∃a,s.a=some a/\iw (aE W) (a.add (i*7)) f)/\f.fy) λi b=>by
      obtain ⟨a,z,y,r,B,e,q⟩:=d i b;rw[U5] at e;obtain ⟨f,u,rfl,v,t⟩:=RI (λm o=>g m ag) q;exact ⟨f,⟨a,r,by obtain ⟨A,aq,k,w,id,ix,ds⟩:=f;unfold iw;exact ⟨u,e,v⟩⟩,t⟩
    exact ⟨s,l,rfl,bM.of hl.symm p λj f c=>(b j f c).1,gj.of λj f c=>(b j f c).2,by omega⟩
theorem ab0 (h:Rd enc W fuel 26 cs x):∃(f:ai) (u:Sl),cs=[.string f.name, .bool f.aq, .int .i64 f.k, .int .i64 f.w, .int .i64 f.id, .int .i64 f.ix,Sl.v u]/\bM (aE W) u f.cs/\f.fy:=RI (λn _=>abZ n) h
end
def SC:String:=Rows.buildBeginsRow.named.getD 2 ""
def SA:String:=Rows.buildBeginsRow.named.getD 0 ""
def SB:String:=Rows.buildBeginsRow.named.getD 1 ""
theorem Un:Tryz.prog.globalNamed SA=some 2:=by kernel_rfl
theorem Uo:Tryz.prog.globalNamed SB=some 0:=by kernel_rfl
theorem Uq:Tryz.prog.globalNamed SC=some 1:=by kernel_rfl
theorem agp:(Tryz.prog.globals[2]?).map (·.type)=some 187:=by kernel_rfl
theorem agq:(Tryz.prog.globals[0]?).map (·.type)=some 160:=by kernel_rfl
theorem agr:(Tryz.prog.globals[1]?).map (·.type)=some 163:=by kernel_rfl
theorem Na {W:World} {n:String} {j b e r z fuel:Nat} {d:DataW Unit} {cs:Array Value} {p:List MemPlace} (D:Tryz.prog.globalNamed n=some j) (A:Tryz.prog.underlying b=some (.array r e)) (s:Tryz.prog.cellsOf e=z)
  (f:W.var? Tryz.prog n=some cs) (E:DataW.trod (λ_=>()) Tryz.prog W 0 (λ_=>true) false fuel b cs.toList=some (d,p)) {i:Nat} (C:i < r) :
  ∃(l:List (DataW Unit)) (m:Nat) (y:DataW Unit × List MemPlace) (c:List Value),d=.agg l/\l[i]? = some y.1/\DataW.trod (λ_=>()) Tryz.prog W 0 (λ_=>true) false m e c=some y/\∀(k:Nat) v,k < z->c[k]? = some v->cell (aE W) ⟨j,i*z+k,none⟩=some v:=by
 obtain ⟨h,m,rfl,u,hl,F,o⟩:=DataW.trod_array A E;rw[s] at o;have a:h[i]? = some h[i]:=List.getElem?_eq_getElem ag;have q:=o i C;rw[a] at q;refine ⟨h.map (·.1),m,h[i],(cs.toList.drop (i*z)).take z,congrArg Prod.fst u,by rw[List.getElem?_map,a];rfl,q,λk v B w => ?_⟩
 rw[Vd];have:=World.var?_cell D f (i*z+k);rw[this]
 simpa[List.getElem?_take,List.getElem?_drop,B] using w
theorem abm:∀(i:Nat) (d:DataW Unit),i < 21->(match (Rows.laid_colonnade_kind_says:DataW Unit) with | .agg l=>l[i]? | _=>none)=some d->∃a,d=.agg [a, .lit (.int .i64 (if i=0 then 0 else cl i)), .lit (.int .i64 (if i=0 then 0 else gC i)), .lit (.bool (decide (3<=i/\i<=10)))]:=by
 intro i d b h;rcases i with _ | _ | _ | _ | _ | _ | _ | _ | _ | _ | _ | _ | _ | _ | _ | _ | _ | _ | _ | _ | _ | i
 all_goals first | (obtain rfl:=Option.some.inj h;exact ⟨_,rfl⟩) | omega
theorem Bc {W:World} {m n:Nat} {cs:List Value} {y:DataW Unit × List MemPlace} {k:IntKind} {v:Int} (b:Tryz.prog.underlying n=some (.int k)) (h:DataW.trod (λ_=>()) Tryz.prog W 0 (λ_=>true) false m n cs=some y) (a:y.1=.lit (.int k v)):cs=[.int k v]:=by
 obtain ⟨w,rfl,e,_⟩:=DataW.trod_int b h;rw[e] at a;simp only[DataW.lit.injEq,Lit.int.injEq,true_and] at a;rw[a]
theorem aeq {W:World} {m n:Nat} {cs:List Value} {y:DataW Unit × List MemPlace} {v:Bool} (b:Tryz.prog.underlying n=some .bool) (h:DataW.trod (λ_=>()) Tryz.prog W 0 (λ_=>true) false m n cs=some y) (a:y.1=.lit (.bool v)):cs=[.bool v]:=by
 obtain ⟨w,rfl,e⟩:=DataW.trod_bool b h;rw[e] at a;simp only[DataW.lit.injEq,Lit.bool.injEq] at a;rw[a]
theorem Bb {W:World} {m j:Nat} {cs:List Value} {y:DataW Unit × List MemPlace} {l:List (DataW Unit)} (s:Tryz.prog.underlying j=some (.struct (tg j))) (h:DataW.trod (λ_=>()) Tryz.prog W 0 (λ_=>true) false m j cs=some y) (r:y.1=.agg l)
  {i:Nat} {ty:TypeId} {off:Nat} {d:DataW Unit} (g:dN j i ty off) (k:l[i]? = some d):∃n z,DataW.trod (λ_=>()) Tryz.prog W 0 (λ_=>true) false n ty ((cs.drop off).take (Tryz.prog.cellsOf ty))=some z/\z.1=d:=by
 obtain ⟨c,n,rfl,q,hl,p,u⟩:=DataW.trod_struct s h;unfold dN at g;rw[Option.map_eq_some_iff] at g;obtain ⟨f,b,e⟩:=g;cases e;have a:i < c.length:=by have:=(Array.getElem?_eq_some_iff.1 b).1;omega
 have:=u i f b;rw[List.getElem?_eq_getElem a] at this;refine ⟨n,c[i],this,?_⟩;have o:y.1=.agg (c.map (·.1)):=by rw[q]
 rw[r] at o;rw[DataW.agg.inj o,List.getElem?_map,List.getElem?_eq_getElem a] at k
 simpa using k
theorem Bd {cs:List Value} {off:Nat} {v:Value} (h:(cs.drop off).take 1=[v]):cs[off]? = some v:=by
 have:=congrArg (·[0]?) h
 simpa[List.getElem?_take,List.getElem?_drop] using this
theorem ag3 (i:Nat) (a:i < 256):(match (Rows.laid_unicode_utf8_first:DataW Unit) with | .agg l=>l[i]? | _=>none)=some (.lit (.int .u8 (uF i))):=by
 have h:∀j:Fin 256,(Pinned.utf8FirstZ[j.1]?)=some (uF j.1):=by decide +kernel
 have:=h ⟨i,a⟩
 show (Pinned.numbers .u8 Pinned.utf8FirstZ)[i]? = _
 unfold Pinned.numbers;simp only[List.getElem?_map,this];rfl
theorem akB:∀(i:Nat) (d:DataW Unit),i < 16->(match (Rows.laid_unicode_utf8_acceptRanges:DataW Unit) with | .agg l=>l[i]? | _=>none)=some d->d=.agg [.lit (.int .u8 (Ep i)), .lit (.int .u8 (Er i))]:=by
 intro i d a h;rcases i with _ | _ | _ | _ | _ | _ | _ | _ | _ | _ | _ | _ | _ | _ | _ | _ | i
 all_goals first | (obtain rfl:=Option.some.inj h;rfl) | omega
theorem ZC {W:World} (h:laidMetH Tryz.prog Rows.buildBeginsRow.laid W):kJ (aE W)/\fW (aE W):=by
 have h:laidMet Tryz.prog [(SC,Rows.laid_unicode_utf8_acceptRanges),(SA,Rows.laid_colonnade_kind_says),(SB,Rows.laid_unicode_utf8_first)] W:=h;obtain ⟨ps,⟨g1,Y,U,f1,p1,t,E,B,w,I,⟨g2,X,F7,f2,p2,q2,D,A,v,G,⟨g3,V,T,f3,p3,Z,C,z,u,F,_,_⟩,_⟩,_⟩,_⟩:=h;obtain rfl:=Option.some.inj (Uq.symm.trans E);obtain rfl:=Option.some.inj (agr.symm.trans B);obtain rfl:=Option.some.inj (Un.symm.trans D);obtain rfl:=Option.some.inj (agp.symm.trans A);obtain rfl:=Option.some.inj (Uo.symm.trans C);obtain rfl:=Option.some.inj (agq.symm.trans z);have d:∀i,i < 21->cell (aE W) ⟨2,i*4+1,none⟩=some (.int .i64 (if i=0 then 0 else cl i))/\cell (aE W) ⟨2,i*4+2,none⟩=some (.int .i64 (if i=0 then 0 else gC i))/\cell (aE W) ⟨2,i*4+3,none⟩=some (.bool (decide (3<=i/\i<=10))):=by
  intro i e;obtain ⟨l,m,y,o,e1,j,g,f⟩:=Na Un Za aiO v G e;obtain ⟨a,b⟩:=abm i y.1 e (by rw[e1];exact j)
  obtain ⟨P,L,s,q⟩:=Bb KE g b aiE rfl;obtain ⟨O,K,r,p⟩:=Bb KE g b aiD rfl;obtain ⟨n3,S,N,M⟩:=Bb KE g b aiC rfl;have n:=Bc u3 s q;have k:=Bc u3 r p;have J:=aeq u4 N M;rw[U4] at n k;rw[Oq] at J;exact ⟨f 1 _ ag (Bd n),f 2 _ ag (Bd k),f 3 _ ag (Bd J)⟩
 refine ⟨⟨λi e=>(d i e).2.2,λi R Q => ?_,λi R Q => ?_⟩,⟨λi e => ?_,λi e => ?_⟩⟩
 ·have:=(d i ag).2.1;rwa [if_neg ag] at this
 ·have:=(d i ag).1;rwa [if_neg ag] at this
 ·obtain ⟨l,m,y,o,e1,j,g,f⟩:=Na Uo Y9 U3 u F e;have b:=ag3 i e;rw[e1] at b;have b:y.1=.lit (.int .u8 (uF i)):=Option.some.inj (j.symm.trans b);have c:=Bc u5 g b;have:=f 0 (.int .u8 (uF i)) ag (by rw[c];rfl)
  simpa using this
 ·obtain ⟨l,m,y,o,e1,j,g,f⟩:=Na Uq Y7 aiN w I e;have b:=akB i y.1 e (by rw[e1];exact j)
  obtain ⟨P,L,s,q⟩:=Bb Qp g b aiB rfl;obtain ⟨O,K,r,p⟩:=Bb Qp g b aiA rfl;have n:=Bc u5 s q;have k:=Bc u5 r p;rw[U3] at n k;have t:=f 0 _ ag (Bd n);rw[Nat.add_zero] at t;exact ⟨t,f 1 _ ag (Bd k)⟩
section
theorem gG {x:Int × Raw} {g:Raw->Int × Raw} (b:x.1≠5) (a:∀r,(g r).1≠5):(bL x g).1≠5:=by
 unfold bL;split
 ·exact a _
 ·exact b
theorem mR (n:Bool) (r:Raw):(cR n r).1≠5:=by unfold cR;split <;> simp
theorem l9 (n:Nat) (r:Raw):(cO n r).1≠5:=by unfold cO;dsimp only;split <;> simp
theorem lf {i:Nat} {g:Raw->Int × Raw} (h:∀r,(g r).1≠5) (r:Raw):(bY i g r).1≠5:=h _
theorem xk:∀{l:List (Raw->Int × Raw)},(∀g∈l,∀r,(g r).1≠5)->∀r,(cX l r).1≠5
 | [],_,r=>by simp[cX]
 | g::b,h,r=>gG (h g (List.mem_cons_self ..) r) (xk λg a=>h g (List.mem_cons_of_mem _ a))
theorem Th {c:Nat} {g:Raw->Int × Raw} (h:∀r,(g r).1≠5) (r:Raw):(mT c g r).1≠5:=by
 unfold mT;exact gG (mR _ _) λb=>gG (lf h _) λa=>l9 _ _
open Classical in
theorem ZB {k w ix:Int} {T:List B0} {Z:List vL} (hT:∀t∈T,∀r x,(t r x).1≠5) (hZ:∀z∈Z,∀r,(z r).1≠5) (r:Raw) (v:ak):(gY k w ix T Z r v).1≠5:=by
 have t0:∀i r x,(T.getD i kW r x).1≠5:=λi r x=>by
  rw[List.getD_eq_getElem?_getD]
  cases h:T[i]? with
  | none=>simp[kW]
  | some t=>exact hT t (List.mem_of_getElem? h) r x
 have z0:∀i r,(Z.getD i iR r).1≠5:=λi r=>by
  rw[List.getD_eq_getElem?_getD]
  cases h:Z[i]? with
  | none=>simp[iR]
  | some z=>exact hZ z (List.mem_of_getElem? h) r
 have its:∀g∈(v.items.map λx=>bY 0 λc=>(T.getD 0 kW) c x),∀r,(g r).1≠5:=λg hg r=>by
  obtain ⟨x,_,rfl⟩:=List.mem_map.1 hg
  exact lf (λr=>t0 0 r x) r
 unfold gY
 by_cases c:k=1
 ·rw[if_pos c];exact gG (mR _ _) λr=>l9 _ _
 rw[if_neg c]
 by_cases c:k=12\/k=13
 ·rw[if_pos c]
  refine gG (mR _ _) λr => ?_
  split
  ·simp
  ·exact l9 _ _
 rw[if_neg c]
 by_cases c:k=15
 ·rw[if_pos c];exact gG (mR _ _) λr=>gG (xk its _) λr=>l9 _ _
 rw[if_neg c]
 by_cases c:k=16
 ·rw[if_pos c]
  refine gG (mR _ _) λr=>gG (xk (λg hg r => ?_) _) λr=>l9 _ _
  split at hg
  ·rw[List.eq_of_mem_replicate hg];exact lf (z0 0) r
  ·exact its g hg r
 rw[if_neg c]
 by_cases c:k=17
 ·rw[if_pos c]
  refine gG (mR _ _) λr=>gG (xk (λg hg r => ?_) _) λr=>l9 _ _
  obtain ⟨i,_,rfl⟩:=List.mem_map.1 hg
  refine lf (λr => ?_) r
  split
  ·exact z0 i r
  ·exact t0 i r _
 rw[if_neg c]
 by_cases c:k=18
 ·rw[if_pos c];exact Th (λr=>t0 _ r _) r
 rw[if_neg c]
 by_cases c:k=19
 ·rw[if_pos c]
  refine gG (mR _ _) λr => ?_
  split
  ·exact l9 _ _
  ·split
   ·exact l9 _ _
   ·split
    ·simp
    ·exact gG (lf (λr=>t0 0 r v) _) λr=>l9 _ _
 rw[if_neg c]
 by_cases c:k=20
 ·rw[if_pos c]
  refine gG (mR _ _) λr => ?_
  split
  ·exact l9 _ _
  ·exact gG (lf (λr=>t0 0 r v) _) λr=>l9 _ _
 rw[if_neg c]
 exact gG (mR _ _) λr=>l9 _ _
theorem X9 {s:Bool} {k w ix:Int} {tk:Raw->Int × Raw} {Z:List vL} (c:∀r,(tk r).1≠5) (d:∀z∈Z,∀r,(z r).1≠5) (r:Raw):(ng s k w ix tk Z r).1≠5:=by
 have a:∀i r,(Z.getD i iR r).1≠5:=λi r=>by
  rw[List.getD_eq_getElem?_getD];cases h:Z[i]? with
  | none=>simp[iR]
  | some z=>exact d z (List.mem_of_getElem? h) r
 unfold ng;split
 ·exact c r
 split
 ·refine gG (mR _ _) λr=>gG (xk (λg b r => ?_) _) λr=>l9 _ _;rw[List.eq_of_mem_replicate b];exact lf (a 0) r
 split
 ·refine gG (mR _ _) λr=>gG (xk (λg b r => ?_) _) λr=>l9 _ _;obtain ⟨i,_,rfl⟩:=List.mem_map.1 b;exact lf (a i) r
 split
 ·exact Th (a 0) r
 split
 ·refine gG (mR _ _) λr => ?_;split
  ·simp
  ·exact gG (lf (a 0) _) λr=>by simp
 ·exact gG (mR _ _) λr=>gG (lf (a 0) _) λr=>by simp
theorem Qx:∀f:ai,(∀r x,(f.tk r x).1≠5)/\∀r,(f.zk r).1≠5
  | .mk h aq k w id ix cs=>by
    have a:∀c∈cs,(∀r x,(c.tk r x).1≠5)/\∀r,(c.zk r).1≠5:=λc _=>Qx c;generalize i:ai.mk h aq k w id ix cs=f;have a:∀c∈f.cs,(∀r x,(c.tk r x).1≠5)/\∀r,(c.zk r).1≠5:=by rw[<-i];exact a
    have hT:∀t∈f.cs.map ai.tk,∀r x,(t r x).1≠5:=λt b r x=>by obtain ⟨c,d,rfl⟩:=List.mem_map.1 b;exact (a c d).1 r x
    have e:∀z∈f.cs.map ai.zk,∀r,(z r).1≠5:=λt b r=>by obtain ⟨c,d,rfl⟩:=List.mem_map.1 b;exact (a c d).2 r
    have g:∀r x,(f.tk r x).1≠5:=λr x=>by rw[ai.jF];exact ZB hT e r x
    exact ⟨g,λr=>by rw[ai.qB];exact X9 (λr=>g r _) e r⟩
theorem akz (f:ai) (vs:List ak) (x:ak):gm f vs x≠5:=by
 unfold gm;split
 ·exact (Qx f).1 _ _
 ·simp
theorem FP:∀{l:List aJ},(∀d∈l,d.kD)->ri l
 | [],_=>trivial
 | d::ds,h=>⟨h d (List.mem_cons_self ..),FP λx a=>h x (List.mem_cons_of_mem _ a)⟩
theorem ahB {k w ix:Int} {D:List (Raw->aJ)} (f:∀g∈D,∀r,(g r).kD) (hl:D.length<=1000) (r:Raw):(iX k w ix D r).kD:=by
 have ks:∀d∈(List.range D.length).map (λi=>(D.getD i λ_=>oJ) (r.aC i)),d.kD:=λd e=>by
  obtain ⟨i,b,rfl⟩:=List.mem_map.1 e;rw[List.mem_range] at b;have c:D[i]? = some D[i]:=List.getElem?_eq_getElem b;rw[List.getD_eq_getElem?_getD,c];exact f _ (List.getElem_mem b) _
 have j:((List.range D.length).map (λi=>(D.getD i λ_=>oJ) (r.aC i))).length<=1000:=by rw[List.length_map,List.length_range];exact hl
 have a:∀(n o u:Int) (aH:List (List UInt8)),aH.length<=1000->(aJ.mk n o u aH [] []).kD:=λn o u aH h=>⟨by omega,⟨by simp,trivial⟩,by simp,trivial⟩
 have kids:∀(n o u:Int) (aH:List (List UInt8)),aH.length<=1000->(aJ.mk n o u aH ((List.range D.length).map (λi=>(D.getD i λ_=>oJ) (r.aC i))) []).kD:=λn o u aH h=>⟨by omega,⟨by omega,FP ks⟩,by simp,trivial⟩
 unfold iX;split
 ·exact a _ _ _ _ aS
 split
 ·exact a _ _ _ _ aS
 split
 ·exact kids _ _ _ _ aS
 split
 ·exact kids _ _ _ _ aS
 split
 ·exact kids _ _ _ _ aS
 split
 ·exact ⟨by simp,⟨by simp,trivial⟩,by omega,FP ks⟩
 split
 ·exact ⟨by simp,⟨by rw[List.length_cons];omega,a _ _ _ _ aS,FP ks⟩,by simp,trivial⟩
 split
 ·exact a _ _ _ _ aS
 split
 ·exact a _ _ _ _ aS
 ·exact a _ _ _ _ aS
theorem aey {f:ai} (e:bp f):f.cs.length<=32:=by
 obtain ⟨_,_,_,_,_,_,_,i,h,g,d⟩:=e.right.1
 by_cases a:f.k=15\/f.k=16\/f.k=19\/f.k=20
 ·have:=i a;omega
 by_cases b:f.k=17
 ·exact h b
 by_cases c:f.k=18
 ·exact (g c).2
 ·have:=d ag;omega
theorem UX:∀f:ai,bp f->∀r,(f.dn r).kD
  | .mk h aq k w id ix cs,b=>by
    have d:∀c∈cs,∀r,(c.dn r).kD:=λc a=>UX c (b.aC a);have hl:cs.length<=32:=aey b;intro r;rw[ai.mD];refine ahB (λg e r => ?_) (by rw[List.length_map];show cs.length<=1000;omega) r
    obtain ⟨c,a,rfl⟩:=List.mem_map.1 e;exact d c a r
end
def DZ (d:aJ):Prop:=∀{D E D' E':Nat->Prop} {h:Hp} {p q:Sl × Sl × Sl} {K:Bool->HP} {Kp:PK},d.kD->c7 D E h p d->c7 D' E' h q d->(∀h',ah h h'->K true h') ->
 Ab d.len d.off d.aq p.1 p.2.1 p.2.2 d.len d.off d.aq q.1 q.2.1 q.2.2 h K Kp
theorem UN {D E A z:Nat->Prop} {h:Hp} {s t:Sl} {cs:List aJ} {K:Bool->HP} {w:PK} (y:∀c∈cs,DZ c) (r:ri cs) (l:bN D E h s cs) (k:bN A z h t cs) (hl:cs.length<=2 ^ 50) (o:∀e,ah h e->K true e):Aa s t h K w:=by
 have C:=l.n;have B:=k.n;refine Aa.of (aR cC (HL.bB (λx e=>ah h e/\∃i:Nat,x=i/\i<=cs.length) (λx _=>cs.length - x.toNat) ⟨ah.refl _,0,rfl,Nat.zero_le _⟩ ?_));rintro x e ⟨G,i,rfl,F⟩ N hN;refine aA (λg => ?_) λg=>o e G;have g:=ay g;have b:cs[i]? = some cs[i]:=List.getElem?_eq_getElem ag;have f:cs[i]∈cs:=List.getElem_mem ag;generalize cs[i]=d at b f;refine (l.gr G).ix rfl b λa p v vp=>bq.c v ((k.gr G).ix rfl b λI q j m=>bq.c j (y d f (r.get d f) vp m λH u=>aR rfl (aP ag ag (hN _ _ ⟨ah.trans G u,i+1,by simp,by omega⟩ ag))))
theorem ahs {n y k:Int} {aH:List (List UInt8)} {cs ds:List aJ} (U:∀c∈cs,DZ c) (T:∀c∈ds,DZ c):DZ (.mk n y k aH cs ds):=by
 intro D E D' E' h p q K Kp g v s L;refine Ab.of (az λS Y e1 Q d _=>az λR O Z C e _ => ?_);have G:=ah.trans Q C;have d:=d.aj C;have F:=(v.b.gr G);have b2:=(s.b.gr G);have J:=F.n;have I:=b2.n;have e1:(aJ.mk n y k aH cs ds).aH=aH:=rfl;rw[e1] at J I;refine an d rfl (an e rfl (aR aS ?_));simp only[aI,Nat.zero_add];refine an d rfl (an e rfl (Co.of (aR aS ?_)));simp only[aI,Nat.zero_add];refine an d rfl (an e rfl (Cn.of (aR aS ?_)));simp only[aI,Nat.zero_add];refine an d rfl (an e rfl (aR cC (IK.of (HM.bB (λx r=>r=O/\∃i:Nat,x=i/\i<=aH.length) (λx _=>aH.length - x.toNat) ⟨rfl,0,rfl,Nat.zero_le _⟩ ?_))));rintro x r ⟨rfl,i,rfl,V⟩ N hN;simp only[aI,Nat.zero_add];refine an d rfl (aA (λz => ?_) λz => ?_)
 ·have z:=ay z;have W:=g.1;refine an d rfl (F.ix (j:=i) rfl (by rw[e1];omega) λa t w B=>⟨t,w,an e rfl (b2.ix (j:=i) rfl (by rw[e1];omega) λa' H f m=>⟨H,f,?_⟩)⟩)
  have fin:If (!((bs (bQ (aJ.mk n y k aH cs ds).aH i)).toList == (bs (bQ (aJ.mk n y k aH cs ds).aH i)).toList)) (K false r) (Wr .i64 ((i:Int)+1) λA=>N (A7 ⟨S,0,none⟩ ⟨R,0,none⟩ A) r):=by
   refine aR aS (aP ag ag (hN _ _ ⟨rfl,i+1,by simp,by omega⟩ ag))
  exact ⟨tJ B.1 (vY f (ah.refl _) (iY e e (tJ m.1 (vY w (ah.refl _) (iY d d fin))))),tJ m.1 (vY w (ah.refl _) (iY d d (tJ B.1 (vY f (ah.refl _) (iY e e fin)))))⟩
 ·refine IJ.of ?_;simp only[aI,Nat.zero_add];refine an d rfl (an e rfl (UN U g.2.1.2 (v.c.gr G) (s.c.gr G) g.2.1.1 λX l=>bx rfl (an (d.aj l) rfl (an (e.aj l) rfl (UN T g.2.2.2 ((v.x.gr G).gr l) ((s.x.gr G).gr l) g.2.2.1 λM P=>L M (ah.trans (ah.trans G l) P))))))
theorem Oi:∀d:aJ,DZ d
 | .mk n o u aH cs ds=>ahs (λc _=>Oi c) λc _=>Oi c
theorem amf {f:ai} {M:bD} {D:Nat->Prop} {h:Hp} {n:Nat} {vs:List ak} {j:PK} {K:Int->Int->Int->Sl->Sl->Sl->Int->HP} (B:j0 f M D h n vs true) (g:∀d,ah h d->K 0 0 0 ⟨none,0,0⟩ ⟨none,0,0⟩ ⟨none,0,0⟩ 9 d):rZ (some ⟨n,0,none⟩) h K j:=by
 obtain ⟨l,v,s,R,B⟩:=B;refine rZ.of (az λr o q c a _ => ?_);refine bF ?_;have m:=c.1;exact an (B.k.aj c) rfl (bx rfl (bw.b a rfl λi e a=>bq.b a (g i (aM.aj c e ag))))
theorem Lm:∀{l:List ak},(∀y∈l,y.mq)->ku l
 | [],_=>trivial
 | x::b,h=>⟨h x (List.mem_cons_self ..),Lm λy a=>h y (List.mem_cons_of_mem _ a)⟩
theorem Good.take {f:ai} {l:List ak} {n m:Nat} (h:Good f l n) (c:m<=n):Good f (l.take m) m:=λj x b a=>by
 rw[List.getElem?_take,if_pos b] at a;rw[List.take_take,Nat.min_eq_left ag];exact h j x ag a
theorem aeo {f:ai} {l:List ak} {D:Nat->Prop} {h:Hp} {s t:Sl} {n:Int} {K:Bool->HP} {Kp:PK} (A:f.fy) (hr:ku l) (hl:l.length<=9223372036854775807) (hs:bM h s f.cs) (hv:au D h t l) (Y:kJ h) (hu:fW h) (hk:∀F,ah h F->K true F) :
  JM f.name f.aq f.k f.w f.id f.ix s t n h K Kp:=by
 refine JM.of (az λa3 h1 e1 g1 W _=>akl (Y.aj g1) (hu.aj g1) λh2 g2=>aR rfl (aN.b (W.aj g2) ?_));have s1:=g1.1;have X:=ah.trans g1 g2;have W:=W.aj g2;have tn:=hv.n
 by_cases g:bp f
 rotate_left
 ·refine akW (l:=l) g A (Y.k.aj X) (hs.gr X) λh3 g3=>az λa7 h4 e4 g4 k7 _=>bw.b k7 rfl λL o5 k7=>wC.of (bx rfl ?_);have g5:ah h3 L:=aM.aj g4 o5 ag;have M:=ah.trans g3 g5;exact aN.b (W.aj M) (Xc g A (Y.k.aj (ah.trans X M)) (hs.gr (ah.trans X M)) λO Q=>bx rfl (hk O (ah.trans (ah.trans X M) Q)))
 have C:=uP f g;have MD:qj f f.hY:=MS f g A;have PF:fo f:=(ED f g).1;have FC:iN f:=UF f g;have hv:=au.lt _ hv;have main:∀{L:Hp} {e H:Int} {d:Nat},ah h2 L->d<=l.length->Good f l d->((e=0/\d=l.length)\/∃x,e≠0/\e≠5/\l[d]? = some x/\gm f (l.take d) x=e/\H=d)->wC K Kp t n ⟨a3,0,none⟩ e H L:=by
  intro L e H d s' hgl Z V;have M:=ah.trans X s';have W:=W.aj s';have s5:=M.1;have j4:∀m:Nat,m<=d->wv K Kp t (m:Int) ⟨a3,0,none⟩ e H (d:Int) L:=by
   intro m hm;have m':(l.take m).length=m:=by rw[List.length_take];omega
   have n':f.can (l.take m):=Z.can PF ag |> λ_=>(Good.can PF (l:=l) (i:=m) ag λj x hj o=>Z j x ag o);have l':ku (l.take m):=Lm λy hy=>EP hr y (List.mem_of_mem_take hy);have j5:∀{E:Hp} {I:Nat} {q:Sl × Sl × Sl} {D8 E8:Nat->Prop},ah L E->aB E I #[.int .i64 (f.dn (f.st (l.take m))).len, .int .i64 (f.dn (f.st (l.take m))).off, .int .i64 (f.dn (f.st (l.take m))).aq,Sl.v q.1,Sl.v q.2.1,Sl.v q.2.2] bG->c7 D8 E8 E q (f.dn (f.st (l.take m))) ->
     yX K Kp t (m:Int) ⟨a3,0,none⟩ e H (d:Int) ⟨I,0,none⟩ 0 E:=by
    intro E I q D8 E8 g8 r d8;have G8:=ah.trans M g8;have s8:=G8.1;refine yX.of (aN.b (W.aj g8) (Xd C MD g A (Y.k.aj G8) (hs.gr G8) λp h9 g9 B9=>IS.of (aR rfl (CA.of (aR rfl (aR rfl (IQ.of ?_)))))));have j9:∀{F:Hp} {T:Nat->Prop},ah E F->j0 f f.hY T F p (l.take m) false->(∀c,T c->E.size<=c)->yW K Kp (m:Int) ⟨I,0,none⟩ (some ⟨p,0,none⟩) F:=by
     intro F T g' B hT;have hp:E.size<=p:=hT p B.choose_spec.choose_spec.choose_spec.choose_spec.tp;have z':=g'.1;refine yW.of (Xq C B n' λq2 r' i' B10 D10=>az λa19 Bw e11 x' b' _=>bw.b b' rfl λq' o12 b'=>IU.of ?_);have Yd:=i'.1;have Yc:=x'.1;have g10:ah E r':=((Tn.aT g':Tn No E F).trans' i' λc q R=>by omega).aj
     have e':ah r' q':=aM.aj x' o12 ag;have XE:=B10.fr (S:=No) C (Tn.aT e') λ_ _=>id;refine amf XE λUm w'=>az λa20 xW tu g14 j' _=>bw.b j' rfl λp' o15 j'=>IT.of (bx rfl ?_);have Yb:=w'.1;have a':ah q' p':=ah.trans w' (aM.aj g14 o15 ag);have f':ah E p':=ah.trans (ah.trans g10 e') a';refine bq.b (b'.aj a') (bq.b (r.aj f') (Oi _ (UX f g _) ((D10.gr e').gr a') (d8.gr f') λxV v'=>CD.of (bx rfl (CC.of (bx rfl ?_)))));have XD:=XE.fr (S:=No) C (Tn.aT (ah.trans a' v')) λ_ _=>id;refine amv XD λBv u'=>CB.of (bx rfl (PG C (XD.fr (S:=No) C (Tn.aT u') λ_ _=>id) ?_));have:=hk Bv (ah.trans G8 (ah.trans (ah.trans f' v') u'));have e2:(((l.take m).length:Int) == (m:Int))=true:=by rw[m'];simp
     rw[e2];exact this
    refine HO.bB (λx F=>∃(i:Nat) (T:Nat->Prop),x=i/\i<=m/\ah E F/\j0 f f.hY T F p (l.take i) false/\∀c,T c->E.size<=c) (λx _=>m - x.toNat) ⟨0,_,rfl,Nat.zero_le _,g9,B9,λc q=>q.1⟩ ?_;rintro x F ⟨i,T,rfl,hi,g',B,hT⟩ N hN;have G':=ah.trans G8 g';have z':=G'.1;have zz:=g'.1;have hD:∀c,(D c/\c < h.size)->¬T c:=λc q z=>by have:=hT c z;omega
    refine aA (λcc => ?_) λcc => ?_
    ·have cc:=ay cc;have R:i < l.length:=ag;have o:l[i]? = some l[i]:=List.getElem?_eq_getElem R;have k':l.take (i+1)=l.take i++[l[i]]:=List.take_succ_eq_append_getElem R;generalize l[i]=x at o k';have hci:f.can (l.take i):=Good.can PF (l:=l) (i:=i) ag λj y hj hy=>Z j y ag hy;have e0:=Z i x ag o;refine (au.gr hv G').ix rfl o λa u cx c'=>aQ.c cx (P3 C PF FC g A (Y.k.aj G') (hu.aj G') B hci (hr.get o) c' hD λO t6 B6 => ?_);rw[e0];rw[if_pos e0,<-k'] at B6;have hli:((l.take (i+1)).length:Int)=(i:Int)+1:=by rw[List.length_take];omega
     refine aR rfl (PG C B6 (aP ag ag (aR (by rw[hli];simp) (aP ag ag (hN _ _ ⟨i+1,_,by simp,by omega,?_,B6,λc q => ?_⟩ ag)))))
     ·exact ((Tn.aT g':Tn No E F).trans' t6 λc q R=>by have:=hT c q;omega).aj
     ·rcases q with q | q
      ·exact hT c q
      ·omega
    ·have cc:=ay cc;have:i=m:=ag;subst this;have y':wA K Kp t (i:Int) e H ⟨I,0,none⟩ (some ⟨p,0,none⟩) false F:=wA.of (aR rfl (j9 g' B hT));refine IP.of (aA (λc2 => ?_) λc2=>y');have c2:=ay c2;rcases V with ⟨rfl,_⟩ | ⟨x,h0,o',o,U,rfl⟩
     ·exact y'
     ·have ig:i=d:=ag;subst ig;have en0:(e != 0)=true:=by simpa using h0
      rw[en0];refine wA.of (bx rfl ((au.gr hv G').ix rfl o λa u cx c'=>aQ.c cx (P3 C PF FC g A (Y.k.aj G') (hu.aj G') B n' (hr.get o) c' hD λO t6 B6 => ?_)));rw[U];rw[if_neg (by rw[U];exact h0)] at B6
      refine aR aS (PG C B6 (aR (by rw[m'];simp) (j9 ?_ B6 λc q => ?_)))
      ·exact ((Tn.aT g':Tn No E F).trans' t6 λc q R=>by have:=hT c q;omega).aj
      ·rcases q with q | q
       ·exact hT c q
       ·omega
   have bad:∀{P:Prop} (i:Nat) x,Good f (l.take m) i->(l.take m)[i]? = some x->gm f ((l.take m).take i) x≠0->P:=λi x _ o G=>absurd ((Z.take hm) i x (by have:=(List.getElem?_eq_some_iff.1 o).1;omega) o) G
   refine wv.of (aN.b W ((au.gr hv M).KY (a:=0) (b:=m) (m:=t.c) rfl rfl rfl (Nat.zero_le _) ag ag (Nat.le_refl _) λt' J=>⟨?_,?_⟩))
   ·have J:au (λc=>D c/\c < h.size) L t' (l.take m):=by simpa using J
    refine yE C MD PF FC g A l' ag (Y.k.aj M) (hu.aj M) (hs.gr M) J (λq O Q _ _ D6=>az λI h7 e7 g7 r _=>bK (W.aj Q) g7 (bw.b r rfl λE o8 r => ?_)) λi x O Q d' o G=>bad i x d' o G;have g8:ah O E:=aM.aj g7 o8 ag;exact j5 (ah.trans Q g8) r (D6.gr g8)
   ·have J:au (λc=>D c/\c < h.size) L t' (l.take m):=by simpa using J
    refine az λI O e6 Q r _=>bK W Q ?_;have G6:=ah.trans M Q;refine yE C MD PF FC g A l' ag (Y.k.aj G6) (hu.aj G6) (hs.gr G6) (au.gr J Q) (λq h7 g7 _ _ D7=>bw.b (r.aj g7) rfl λE o8 r => ?_) λi x h7 g7 d' o G=>bad i x d' o G;have z6:=Q.1;have z7:=g7.1;have am6:=r.lt;refine j5 (aM.aj (ah.trans Q g7) o8 ag) r (D7.fr (D':=Nw O) (E':=Nw O) o8.fr (λc (q:O.size<=c) _ e=>by omega) (λc (q:O.size<=c) _ e=>by omega) (λ_ q=>q) λ_ q=>q)
  have j3:yY K Kp t n ⟨a3,0,none⟩ e H (d:Int) L:=by
   refine yY.of (aA (λc=>j4 d (Nat.le_refl _)) λc=>aA (λc2=>j4 d (Nat.le_refl _)) λc2 => ?_);simp only[sm,reduceCtorEq] at c c2;obtain ⟨m,rfl⟩:∃m:Nat,n=m:=⟨n.toNat,by omega⟩
   exact j4 m ag
  rcases V with ⟨rfl,rfl⟩ | ⟨x,h0,o',o,U,rfl⟩
  ·refine wC.of (aR rfl (Cz.of (aR rfl ?_)));rw[tn.1];exact j3
  ·have anB:=(List.getElem?_eq_some_iff.1 o).1;refine wC.of (aR (by simpa using o') (Cz.of (bx (by simpa using h0) (aR aS (aR cC j3)))))
 refine yE C MD PF FC g A hr hl (Y.k.aj X) (hu.aj X) (hs.gr X) (au.gr hv X) (λq h3 g3 hc Z D3=>az λa7 h4 e4 g4 k7 _=>bw.b k7 rfl λL o5 k7=>main (ah.trans g3 (aM.aj g4 o5 ag)) (Nat.le_refl _) Z (.inl ⟨rfl,rfl⟩)) λi x h3 g3 Z o G=>az λa7 h4 e4 g4 k7 _=>bw.b k7 rfl λL o5 k7=>main (ah.trans g3 (aM.aj g4 o5 ag)) (Nat.le_of_lt (List.getElem?_eq_some_iff.1 o).1) Z (.inr ⟨x,G,akz f _ _,o,rfl,rfl⟩)
open Go Go.Sh Go.ChangeShapes Go.WideShapes
theorem u2:Tryz.prog.underlying 2=some (.int .i64):=by kernel_rfl
theorem Qq:Tryz.prog.underlying 27=some (.slice 41):=by kernel_rfl
theorem Y5:Tryz.prog.underlying 41=some (.struct (tg 41)):=by kernel_rfl
theorem aiz:dN 41 0 4 0:=by unfold dN;kernel_rfl
theorem aiy:dN 41 1 2 1:=by unfold dN;kernel_rfl
theorem aix:dN 41 2 9 2:=by unfold dN;kernel_rfl
theorem aiw:dN 41 3 27 3:=by unfold dN;kernel_rfl
theorem cz2:Tryz.prog.cellsOf 2=1:=by kernel_rfl
theorem aiP:Tryz.prog.cellsOf 27=1:=by kernel_rfl
theorem U2:Tryz.prog.cellsOf 41=4:=by kernel_rfl
section
variable {H:Type} {enc:TypeId × Value->H} {W:World} {fuel:Nat} {cs:List Value} {x:DataW H × List MemPlace}
def WM (H:Type) (enc:TypeId × Value->H) (W:World) (fuel:Nat):Prop:=∀{cs:List Value} {x:DataW H × List MemPlace},Rd enc W fuel 27 cs x->∃(s:Sl) (l:List ak),cs=[s.v]/\au Tt (aE W) s l/\ku l/\l.length<=jY
theorem abY (p:∀n,n < fuel->WM H enc W n) (h:Rd enc W fuel 41 cs x):∃(v:ak) (u:Sl),cs=v.row u/\au Tt (aE W) u v.items/\v.mq:=by
 obtain ⟨o,rfl,b,a⟩:=Lp Y5 h;rw[U2] at b;obtain ⟨v0,B,A,z,rfl⟩:=aeg b;obtain ⟨y,j⟩:=a 0 _ _ aiz;obtain ⟨w,i⟩:=a 1 _ _ aiy;obtain ⟨t,g⟩:=a 2 _ _ aix;obtain ⟨s,f⟩:=a 3 _ _ aiw;obtain ⟨aq,e⟩:=RJ j;obtain ⟨num,e1,m,k⟩:=Sf u2 i;obtain ⟨tx,d,_⟩:=RG g;obtain ⟨u,l,c,r,q,_⟩:=p o ag f;simp[Oq,cz2,U1,aiP] at e e1 d c;subst e e1 d c;exact ⟨.mk aq num tx.data.toList l,u,rfl,r,⟨m,k⟩,q⟩
theorem abX:∀(fuel:Nat),WM H enc W fuel:=by
  intro fuel
  induction fuel using Nat.strongRecOn with
  | _ fuel p =>
    intro cs x h;obtain ⟨s,n,rfl,rfl,w,r,f⟩:=RH Qq h;obtain ⟨l,hl,b⟩:=MY (Q:=λi (v:ak)=>(∃a,s.a=some a/\VA Tt (aE W) (a.add (i*4)) v)/\v.mq) λi b=>by
      obtain ⟨a,D,y,A,E,k,z⟩:=f i b;rw[U2] at k;obtain ⟨v,u,rfl,C,B⟩:=abY (λm r=>p m ag) z;exact ⟨v,⟨a,A,VA.of k C⟩,B⟩
    refine ⟨s,l,rfl,au.of hl.symm w λe => ?_,Lm λy q => ?_,by omega⟩
    · obtain ⟨v,d⟩:∃v,l[0]? = some v:=⟨_,List.getElem?_eq_getElem (List.length_pos_iff.2 e)⟩;obtain ⟨⟨a,g,_⟩,_⟩:=b 0 v d;refine ⟨a,g,trivial,λj v d => ?_⟩;obtain ⟨⟨F,c,o⟩,_⟩:=b j v d;rw[g] at c;cases c;exact o
    · obtain ⟨j,t⟩:=List.mem_iff_getElem?.1 q;exact (b j y t).2
end
end Go.Proofs.YtikpikmkhdapiaaGreatDoor
