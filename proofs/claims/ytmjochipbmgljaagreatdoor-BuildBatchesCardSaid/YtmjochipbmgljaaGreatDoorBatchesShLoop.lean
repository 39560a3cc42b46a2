import Derived.Test.YtmjochipbmgljaaGreatDoorBatchesShDraw
namespace Go.Sh
variable {B:(Fr->HP)->Fr->HP}
variable {P:Program}
def sub:List Nat->Code->Code
 |[],c=>c
 |0::p,.seq x _=>sub p x
 |_::p,.seq _ y=>sub p y
 |0::p,.cond _ x _=>sub p x
 |_::p,.cond _ _ y=>sub p y
 |_::p,.block _ x=>sub p x
 |_::p,.loop x=>sub p x
 |0::p,.rangeFunc _ _ x _=>sub p x
 |_::p,.rangeFunc _ _ _ y=>sub p y
 |_,c=>c
def tF(P:Program)(bS:fS)(D:Nat->Array Oper->(Fr->HP)->PK->Fr->HP)(rd:Option Nat)(Kp:PK):List Nat->Code->List (Fr->HP)->Qt->Qt
 |0::p,.seq x y,Ns,Q=>tF P bS D rd Kp p x Ns (zm (λcW h'=>bS.at (Sk y) cW λDD=>fV P bS D rd y Q Kp DD h') Q)
 |_::p,.seq _ y,Ns,Q=>tF P bS D rd Kp p y Ns Q
 |0::p,.cond _ x _,Ns,Q=>tF P bS D rd Kp p x Ns Q
 |_::p,.cond _ _ y,Ns,Q=>tF P bS D rd Kp p y Ns Q
 |_::p,.block id x,Ns,Q=>tF P bS D rd Kp p x Ns (LI id Q)
 |_::p,.loop x,N::Ns,Q=>tF P bS D rd Kp p x Ns (zm (λcW h'=>N (bS.find (iF x+2000) cW) h') Q)
 |_,_,_,Q=>Q
theorem J1{σ:Type}(mk:σ->Fr)(T:(Fr->HP)->σ->HP)(hT:∀N s h,T N s h=B N (mk s) h)(I:σ->HP)(μ:σ->Hp->Nat){s0:σ}{h:Hp}
    (i:I s0 h) (step:∀s h,I s h->∀N:Fr->HP,(∀a b,I a b->μ a b<μ s h->N (mk a) b)->T N s h):Cr B (mk s0) h:=by
  have key:∀n s h,I s h->μ s h<n->Gf B n (mk s) h:=by
    intro n
    induction n with
    |zero=>intro s h _ c;omega
    | succ n f=>
      intro s h g c
      show B _ _ h
      rw[<-hT];exact step s h g _ λa b d e=>f a b d ag
  exact⟨_,key _ s0 h i (Nat.lt_succ_self _)⟩
def bs(l:dB):ByteArray:=⟨l.toArray⟩
def Lt{α:Type}(x:α)(K:α->Prop):Prop:=K x
def aU(h h':Hp)(a:Addr)(n:Nat)(X:Prop):Prop:=Cw h h' a n/\X
abbrev nO:Option Value:=none
abbrev vP(a:Addr):Option Value:=some (dw a)
abbrev vI(x:Int):Option Value:=some (ah x)
abbrev vS(s:Sl):Option Value:=some s.v
abbrev mI(x:Int):Value:=ah x
def nn(n:Nat):Fr:=List.replicate n none
def rI(v:Value)(K:Int->Prop):Prop:=match v with|.int _ x=>K x|_=>False
def rB(v:Value)(K:Bool->Prop):Prop:=match v with|.bool x=>K x|_=>False
def rT(v:Value)(K:ByteArray->Prop):Prop:=match v with|.string x=>K x|_=>False
def rS(v:Value)(K:Sl->Prop):Prop:=match v with|.slice a n c=>K ⟨a,n,c⟩|_=>False
def rP(v:Value)(K:Option Addr->Prop):Prop:=match v with|.pointer x=>K x|_=>False
def rM(v:Value)(K:Option Nat->Prop):Prop:=match v with|.map x=>K x|_=>False
def rA(v:Value)(K:Value->Prop):Prop:=K v
def rG(v:Value)(K:List Value->Prop):Prop:=match v with|.agg x=>K x.toList|_=>False
def rU(v:Value)(K:List Value->Prop):Prop:=match v with|.tuple x=>K x.toList|_=>False
abbrev wX:=List (Nat×OT)
structure Cx where
 P:Program
 bS:fS
 ord:wX
 rd:Option Nat
 c:Code
 q:Qt
 Kp:PK
 n:Nat
def Z2(C:Cx)(p:cG)(Ns:List (Fr->HP))(fr:Fr)(h:Hp):Prop:=fV C.P C.bS (kU C.P C.ord) C.rd (sub p C.c) (tF C.P C.bS (kU C.P C.ord) C.rd C.Kp p C.c Ns C.q) C.Kp fr h
def anP(C:Cx)(p:cG)(Ns:List (Fr->HP))(fr:Fr)(h:Hp):Prop:=Il (fV C.P C.bS (kU C.P C.ord) C.rd (sub p C.c) (tF C.P C.bS (kU C.P C.ord) C.rd C.Kp p C.c Ns C.q) C.Kp fr h)
def anJ(C:Cx)(p:cG)(Ns:List (Fr->HP))(id:Nat)(l:cG)(fr:Fr)(h:Hp):Prop:=Il (Fv C.P (fS.FJ id C.bS) (oY (sub p C.c)) l (tF C.P C.bS (kU C.P C.ord) C.rd C.Kp p C.c Ns C.q .normal) C.Kp fr h)
def anY(C:Cx)(k:Nat)(p:cG)(Ns:List (Fr->HP))(N:Fr->HP)(fr:Fr)(h:Hp):Prop:=fV C.P C.bS (kU C.P C.ord) C.rd (sub (p++[0]) C.c) (zm (λcW h'=>N (C.bS.find k cW) h') (tF C.P C.bS (kU C.P C.ord) C.rd C.Kp p C.c Ns C.q)) C.Kp fr h
def anO(C:Cx)(k:Nat)(p:cG)(Ns:List (Fr->HP))(fr:Fr)(h:Hp):Prop:=Cr (anY C k p Ns) fr h
theorem jof{A B:Prop}(H:A)(e:A=B):Il B:=⟨e▸H⟩
theorem aub{b:fS}{o:wX}{f:FuncId}{a:Func}{zs:bg}{C:bg}{h:Hp}{g:de}{i:PK}{S:Prop}{j:de}(m:P.funcs[f]? =some a)(n:a.body.isSome=true)
  (H:S) (e:S=fV P b (kU P o) none (a.body.getD .skip) (mM P a.results.toList zs g) i (C.map some++List.replicate (a.ntmps-C.length) none) h)
  (p:(λv q=>gO zs v λl=>g l q)=j):dP P f C h j i:=by
 obtain⟨c,d⟩:=Mb.1 n;rw[d]at e;exact p▸To (zN _) m d (e▸H)
def V0(L:HP)(mk:Fr)(T:(Fr->HP)->HP):Prop:=∀(I:HP)(μ:Hp->Nat){h:Hp},I h->(∀h,I h->∀N:Fr->HP,(∀h',I h'->μ h'<μ h->N mk h')->T N h)->L h
theorem arf{L:HP}{mk:Fr}{T:(Fr->HP)->HP}(b:∀h,L h=Cr B mk h:=by intros;exact rfl)(hT:∀N h,T N h=B N mk h:=by intros;kernel_rfl):V0 L mk T:=by
 intro I μ  h d step;rw[b];exact J1 (σ:=Unit) _ _ (λN s h=>hT N h) _ (λs h=>μ h) (s0:=()) d λs h c N hN=>step h c N λe a hl=>hN () e a hl
def eH{A0:Type}(L:A0->HP)(mk:A0->Fr)(T:(Fr->HP)->A0->HP):Prop:=∀(I:A0->HP)(μ:A0->Hp->Nat){x0:A0}{h:Hp},I x0 h->(∀x0 h,I x0 h->∀N:Fr->HP,(∀y0 h',I y0 h'->μ y0 h'<μ x0 h->N (mk y0) h')->T N x0 h)->L x0 h
theorem eI{A0:Type}{L:A0->HP}{mk:A0->Fr}{T:(Fr->HP)->A0->HP}(d:∀a h,L a h=Cr B (mk a) h:=by intros;exact rfl)(hT:∀N a h,T N a h=B N (mk a) h:=by intros;kernel_rfl):eH L mk T:=by
 intro I μ a h f step;rw[d];exact J1 (σ:=A0) _ _ (λN s h=>hT N s h) _ _ f λs h e N hN=>step s h e N λc g b hl=>hN c g b hl
def jB{A0 A1:Type}(L:A0->A1->HP)(mk:A0->A1->Fr)(T:(Fr->HP)->A0->A1->HP):Prop:=∀(I:A0->A1->HP)(μ:A0->A1->Hp->Nat){x0:A0}{x1:A1}{h:Hp},I x0 x1 h->(∀x0 x1 h,I x0 x1 h->∀N:Fr->HP,(∀y0 y1 h',I y0 y1 h'->μ y0 y1 h'<μ x0 x1 h->N (mk y0 y1) h')->T N x0 x1 h)->L x0 x1 h
theorem jD{A0 A1:Type}{L:A0->A1->HP}{mk:A0->A1->Fr}{T:(Fr->HP)->A0->A1->HP}(f:∀b a h,L b a h=Cr B (mk b a) h:=by intros;exact rfl)(hT:∀N b a h,T N b a h=B N (mk b a) h:=by intros;kernel_rfl):jB L mk T:=by
 intro I μ b a h i step;rw[f];exact J1 (σ:=A0×A1) _ _ (λN s h=>hT N (s.1) (s.2) h) _ (λs h=>μ (s.1) (s.2) h) (s0:=⟨b,a⟩) i λs h g N hN=>step _ _ h g N λe d j c hl=>hN ⟨e,d⟩ j c hl
def LR3{A0 A1 A2:Type}(L:A0->A1->A2->HP)(mk:A0->A1->A2->Fr)(T:(Fr->HP)->A0->A1->A2->HP):Prop:=∀(I:A0->A1->A2->HP)(μ:A0->A1->A2->Hp->Nat){x0:A0}{x1:A1}{x2:A2}{h:Hp},I x0 x1 x2 h->(∀x0 x1 x2 h,I x0 x1 x2 h->∀N:Fr->HP,(∀y0 y1 y2 h',I y0 y1 y2 h'->μ y0 y1 y2 h'<μ x0 x1 x2 h->N (mk y0 y1 y2) h')->T N x0 x1 x2 h)->L x0 x1 x2 h
theorem are{A0 e d:Type}{L:A0->e->d->HP}{mk:A0->e->d->Fr}{T:(Fr->HP)->A0->e->d->HP}(l:∀c b a h,L c b a h=Cr B (mk c b a) h:=by intros;exact rfl)(hT:∀N c b a h,T N c b a h=B N (mk c b a) h:=by intros;kernel_rfl):LR3 L mk T:=by
 intro I μ c b a h n step;rw[l];exact J1 (σ:=A0×e×d) _ _ (λN s h=>hT N (s.1) (s.2.1) (s.2.2) h) _ (λs h=>μ (s.1) (s.2.1) (s.2.2) h) (s0:=⟨c,b,a⟩) n λs h m N hN=>step _ _ _ h m N λj i g o f hl=>hN ⟨j,i,g⟩ o f hl
abbrev PA:=Option Addr
abbrev BA:=ByteArray
abbrev vp(a:PA):Option Value:=some (.pointer a)
def fg:List (Nat×Option Value)->Nat->Fr
 |[],n=>nn n
 |(k,v)::r,n=>nn k++v::fg r n
def pbA:Nat->Nat->List Nat->List Nat
 |0,_,l=>l
 |f+1,n,l=>bif Nat.ble n 1 then l else pbA f (n/2) (n%2::l)
def pb(n:Nat):List Nat:=pbA 200 n []
def fq:Nat->List Nat->List (Option Value)->Nat->Fr
 |p,s::ss,v::vs,n=>nn (s-p)++v::fq (s+1) ss vs n
 |p,_,_,n=>nn (n-p)
def jQ(C:Cx)(i p:Nat)(Ns:List (Fr->HP))(vs:List (Option Value))(h:Hp):Prop:=anP C (pb p) Ns (fq 0 (C.bS.getD i (0,[])).2 vs C.n) h
def aao:Code->Nat|.region i _ _=>i|_=>0
def rQ(C:Cx)(i p:Nat)(Ns:List (Fr->HP))(vs:List (Option Value))(h:Hp):Prop:=
 anJ C (pb p) Ns (aao (sub (pb p) C.c)) ((List.range (oY (sub (pb p) C.c)).size).drop ((C.bS.getD i (0,[])).1-40000-1000*aao (sub (pb p) C.c))) (fq 0 (C.bS.getD i (0,[])).2 vs C.n) h
def lQ(C:Cx)(k p:Nat)(Ns:List (Fr->HP))(fr:Fr)(h:Hp):Prop:=anO C k (pb p) Ns fr h
inductive Tg|i (k:IntKind)|b|t|s|p|m|a (z:Value)|d
abbrev tI:Tg:=.i .i64
abbrev Tg.ty:Tg->Type|.i _=>Int|.b=>Bool|.t=>ByteArray|.s=>Sl|.p=>Option Addr|.m=>Option Nat|.a _=>Value|.d=>Addr
def Tg.mk:(y:Tg)->y.ty->Value|.i k,x=>.int k x|.b,x=>.bool x|.t,x=>.string x|.s,x=>Sl.v x|.p,x=>.pointer x|.m,x=>.map x|.a _,x=>x|.d,x=>dw x
def Tg.z:Tg->Value|.i k=>.int k 0|.b=>.bool false|.t=>.string (bs [])|.s=>.slice none 0 0|.p=>.pointer none|.m=>.map none|.a z=>z|.d=>undef
def Tg.rd:(y:Tg)->Value->(y.ty->Prop)->Prop|.i _,v,K=>rI v K|.b,v,K=>rB v K|.t,v,K=>rT v K|.s,v,K=>rS v K|.p,v,K=>rP v K|.m,v,K=>rM v K|.a _,v,K=>rA v K|.d,v,K=>match v with|.pointer (some x)=>K x|_=>False
def Cu:List Tg->Type->Type|[],R=>R|y::l,R=>y.ty->Cu l R
abbrev Rs:=List (Bool×List Tg)
def zc:Rs->Type|[]=>HP|c::r=>Cu c.2 (zc r)
def zQ(q:Rs):List Value:=q.map λc=>bif c.1 then .agg (c.2.map Tg.z).toArray else(c.2.map Tg.z).headD undef
def kL:(l:List Tg)->{R:Type}->Cu l R->List Value->Nat->(R->Prop)->Prop
 |[],_,k,_,_,c=>c k
 |y::l,_,k,cs,i,c=>y.rd (cs.getD i undef) λx=>kL l (k x) cs (i+1) c
def kC(b:Bool)(l:List Tg){R:Type}(k:Cu l R)(v:Value)(c:R->Prop):Prop:=match b with|true=>rG v λcs=>kL l k cs 0 c|false=>kL l k [v] 0 c
def kM:(q:Rs)->zc q->List Value->Nat->HP
 |[],k,_,_,h=>k h
 |c::r,k,vs,i,h=>kC c.1 c.2 k (vs.getD i undef) λk'=>kM r k' vs (i+1) h
def kQ:(q:Rs)->zc q->Value->HP
 |[],K,_,h=>K h
 |[c],K,v,h=>kC c.1 c.2 K v λk=>k h
 |c::d::r,K,v,h=>rU v λvs=>kM (c::d::r) K vs 0 h
def xL:(l:List Tg)->{R:Type}->Cu l R->List Value->(List Value->R->Prop)->Prop
 |[],_,k,acc,c=>c acc k
 |y::l,_,k,acc,c=>∃x:y.ty,xL l (k x) (acc++[y.mk x]) c
def xM:(q:Rs)->zc q->List Value->(List Value->HP->Prop)->Prop
 |[],k,acc,c=>c acc k
 |(b,l)::r,k,acc,c=>xL l k [] λvs k'=>xM r k' (acc++[bif b then .agg vs.toArray else vs.headD undef]) c
def xQ(q:Rs)(K:zc q)(v:Value)(h:Hp):Prop:=xM q K [] λvs k=>v=mO vs/\k h
abbrev uA:Tg:=.a undef
def jL{R:Type}:(l:List Tg)->List (Option Value)->(List (Option Value)->R)->Cu l R
 |[],acc,f=>f acc
 |y::l,acc,f=>λx=>jL l (acc++[some (y.mk x)]) f
def fz:Fr->List Nat->List (Option Value)->Fr
 |f,s::ss,v::vs=>fz (f.set s v) ss vs
 |f,_,_=>f
def fK(n:Nat)(ss:cG)(l:List Tg):Cu l Fr:=jL l [] λvs=>fz (nn n) ss vs
def TH:(l:List Tg)->{A B:Type}->Cu l A->(A->B)->Cu l B
 |[],_,_,a,f=>f a
 |_::l,_,_,k,f=>λx=>TH l (k x) f
def lK{κ:Type}{l:List Tg}(c:κ->PK->Cx)(k p:Nat)(m:Cu l Fr)(K:κ)(Kp:PK):Cu l HP:=TH l m (lQ (c K Kp) k p [])
def zH{κ:Type}{l:List Tg}(c:κ->PK->Cx)(k p:Nat)(m:Cu l Fr)(K:κ)(Kp:PK)(N1:Fr->HP):Cu l HP:=TH l m (lQ (c K Kp) k p [N1])
def jK{κ:Type}(c:κ->PK->Cx)(i p:Nat)(l:List Tg)(K:κ)(Kp:PK):Cu l HP:=jL l [] λvs=>jQ (c K Kp) i p [] vs
def rZ{κ:Type}(c:κ->PK->Cx)(i p:Nat)(l:List Tg)(K:κ)(Kp:PK)(N1:Fr->HP):Cu l HP:=jL l [] λvs=>jQ (c K Kp) i p [N1] vs
def rK{κ:Type}(c:κ->PK->Cx)(i p:Nat)(l:List Tg)(K:κ)(Kp:PK):Cu l HP:=jL l [] λvs=>rQ (c K Kp) i p [] vs
def rK1{κ:Type}(c:κ->PK->Cx)(i p:Nat)(l:List Tg)(K:κ)(Kp:PK)(N1:Fr->HP):Cu l HP:=jL l [] λvs=>rQ (c K Kp) i p [N1] vs
section
variable {R:Type} (k:Value->R)
abbrev cI(x:Int):R:=k (ah x)
abbrev cB(x:Bool):R:=k (.bool x)
abbrev cT(x:BA):R:=k (.string x)
abbrev cS(x:Sl):R:=k (Sl.v x)
abbrev cP(x:PA):R:=k (.pointer x)
abbrev cD(x:Addr):R:=k (dw x)
abbrev cM(x:Option Nat):R:=k (.map x)
abbrev cA(x:Value):R:=k x
end
def bt:Nat->Nat->Nat->List Nat
 |0,_,_=>[]
 |f+1,i,m=>bif Nat.beq m 0 then[]else bif Nat.beq (m%2) 1 then i::bt f (i+1) (m/2)else bt f (i+1) (m/2)
def am(l:List (Nat×Nat)):fS:=l.map λx=>(x.1,bt 999 0 x.2)
def mc(P:Program)(fn:Func)(bS:fS)(ord:wX)(q:Rs)(K:zc q)(Kp:PK):Cx:=⟨P,bS,ord,none,fn.body.getD .skip,mM P fn.results.toList (zQ q) (kQ q K),Kp,fn.ntmps⟩
theorem jf{A B:Prop}(H:A)(e:A=B:=by kernel_rfl):Il B:=jof H e
theorem DE(c:fS)(o:wX)(q:Rs)(K:zc q){f:FuncId}{b:Func}{a:bg}{h:Hp}{d:PK}{S:Prop}{e:de}(i:P.funcs[f]? =some b)(H:S)
  (j:b.body.isSome=true:=by kernel_rfl) (l:S=fV P c (kU P o) none (b.body.getD .skip) (mM P b.results.toList (zQ q) (kQ q K)) d (a.map some++List.replicate (b.ntmps-a.length) none) h:=by kernel_rfl)
  (m:(λv n=>gO (zQ q) v λg=>kQ q K g n)=e:=by kernel_rfl):dP P f a h e d:=aub i j H l m
theorem cZ(q:Rs)(K:zc q){f:FuncId}{b:Func}{a:bg}{h:Hp}{c:PK}{S:Prop}{d:de}(g:P.funcs[f]? =some b)(H:S)
  (i:b.body.isSome=true:=by kernel_rfl) (j:S=fV P [] (kU P []) none (b.body.getD .skip) (mM P b.results.toList (zQ q) (kQ q K)) c (a.map some++List.replicate (b.ntmps-a.length) none) h:=by kernel_rfl)
  (l:(λv m=>gO (zQ q) v λe=>kQ q K e m)=d:=by kernel_rfl):dP P f a h d c:=DE [] [] q K g H i j l
theorem cF(C:Cx)(q:Rs)(K:zc q){f:FuncId}{b:Func}{a:bg}{h:Hp}{S:Prop}{c:de}(e:C.P.funcs[f]? =some b)(H:S)(g:b.body.isSome=true:=by kernel_rfl)
  (i:S=fV C.P C.bS (kU C.P C.ord) none (b.body.getD .skip) (mM C.P b.results.toList (zQ q) (kQ q K)) C.Kp (a.map some++List.replicate (b.ntmps-a.length) none) h:=by kernel_rfl)
  (j:(λv l=>gO (zQ q) v λd=>kQ q K d l)=c:=by kernel_rfl):dP C.P f a h c C.Kp:=DE C.bS C.ord q K e H g i j
theorem xq1{y:Tg}{i:FuncId}{C:bg}{h:Hp}{a:PK}{K:y.ty->HP}(H:dP P i C h (xQ [(false,[y])] K) a):dP P i C h (λv b=>∃x:y.ty,v=y.mk x/\K x b) a:=H
end Go.Sh
