import Derived.Test.YtmjochipbmgljaaGreatDoorBatchesShCode
import Derived.OrdersIn
set_option linter.all false
namespace Go.Sh
variable {e ty:TypeId} {e':Operand->Option Value} {o:Oper} {op:Op} {c:BinOp} {k b V v:Value} {a:Addr} {K:Value->Prop} {h:Hp} {i n:Nat} {m d:Option Nat} {kd:TypeDesc} {C:bg} {Kp:PK} {fr:Fr} {ops:Array Oper} {N:cG}
variable {P:Program}
theorem adg{e:Operand->Option Value}:∀{xs:List Operand},(∀x∈xs,e x=e' x)->iH e xs=iH e' xs:=by
 intro xs
 induction xs with
 |nil=>intro _;rfl
 |cons x xs a=>intro h;simp only[iH,h x aA,a (λy b=>h y (by simp[b]))]
theorem adi{e:Operand->Option Value}:∀{xs:List (Nat×Operand)},(∀x∈xs.map (·.2),e x=e' x)->xY e xs=xY e' xs:=by
 intro xs
 induction xs with
 |nil=>intro _;rfl
 |cons x xs b=>intro h;obtain⟨i,x⟩:=x;simp only[xY,h x aA,b (λy a=>h y dM)]
theorem apQ{e:Operand->Option Value}{o:Option Operand}(h:∀x∈o.toArray,e x=e' x):qm e o=qm e' o:=by
 cases o with
 |none=>rfl
 |some x=>simp only[qm,h x aA]
theorem Pk{e:Operand->Option Value}(h:∀x∈op.operands,e x=e' x):iL P op ty e=iL P op ty e':=by
  funext K Kp hp
  cases op <;> simp only[Op.operands,Array.mem_append]at h <;> simp only[iL]
  case makeFunc fn first captured=>
    grind[adg]
  case slice t x lo hi mx=>
    have hx:=h x aA;grind[apQ]
  case build t parts=>
    rw[adi (e':=e') (λx hx=>bU)]
  case buildSlice t n parts=>
    rw[adi (e':=e') (λx hx=>bU)]
  case call c=>
    have ha:iH e c.args.toList=iH e' c.args.toList:=adg λx hx=>h x (by simp[Call.operands];grind)
    cases hc:c.callee with
    |builtin b=>simp[*]
    | invoke r m=>
      have hf:=h r (by simp[Call.operands,hc])
      simp[*]
    | value f=>
      have hf:=h f (by simp[Call.operands,hc])
      simp[*]
  all_goals simp[*]
theorem aaW{k:IntKind}{a b:Int}{e:Value->Prop}(h:vR c k a b K)(d:∀v,K v->e v):vR c k a b e:=by
 cases c <;> simp only[vR,Wr,Dv,Nn]at h⊢ <;> first|exact d _ h|simp[*]
theorem apZ{a b:ff}{e:Value->Prop}(h:xC c a b K)(d:∀v,K v->e v):xC c a b e:=by
 cases c <;> simp only[xC]at h⊢ <;> grind
theorem ap4{op:BinOp}{t:TypeId}{a:Value}{K':Value->Prop}(h:xD P op t a b K)(hk:∀v,K v->K' v):xD P op t a b K':=by
 unfold xD at h⊢
 repeat' split at h
 all_goals first|exact h.elim|exact aaW h hk|exact apZ h hk|exact hk _ h|(rename_i hc;rw[aI hc];exact aaW h hk)|skip
 all_goals simp[*]
theorem aDc{K a:Bool->Prop}(h:oN V K)(b:∀v,K v->a v):oN V a:=by
 unfold oN at h ⊢;grind
theorem ap2{a:Value}{f:Value->Prop}(h:xE P c e a b K)(d:∀v,K v->f v):xE P c e a b f:=by
 unfold xE at h ⊢;split at h
 ·split at h
  ·split at h <;> first|exact aDc h λv g=>d _ g|omega
  omega
 ·exact ap4 h d
theorem apX{b:UnOp}{a:Value}{c:Value->Prop}(h:xB b a K)(d:∀v,K v->c v):xB b a c:=by
 unfold xB at h ⊢;split at h
 all_goals first|exact h.elim|(split at h <;> first|exact h.elim|exact d _ h)
theorem arw:∀{zs:bg}{i:Nat}{K b:List Value->Prop},xI h a i zs K->(∀v,K v->b v)->xI h a i zs b:=by
 intro zs
 induction zs with
 |nil=>intro i K b d c;exact c _ d
 |cons z zs g=>intro i K b d c;exact vC d λv f=>⟨f.1,g f.2 λvs e=>c _ e⟩
theorem aru{i:Value->Prop}(b:mQ P e h a K)(f:∀v,K v->i v):mQ P e h a i:=by
  unfold mQ at b ⊢;split at b
  · rename_i d z l k
    cases g:uK d with
    | true=>
      rw[g]at b;simp only[iy]at b ⊢;split at b
      · split at b
        ·rename_i j;simp only[j,gu];exact arw b λv c=>f _ c
        grind
      omega
    | false=>
      grind[vC]
  omega
theorem VI:∀{vs:bg}{h:Hp}{i:Nat}{K c:Hp->Prop},ji h a i vs K->(∀v,K v->c v)->ji h a i vs c:=by
 intro vs
 induction vs with
 |nil=>intro h i K c b d;exact d _ b
 |cons v vs e=>intro h i K c b d;exact⟨b.1,b.2.1,b.2.2.1,e b.2.2.2 d⟩
theorem amX{K c:Hp->Prop}(b:vG P e h a v K)(f:∀v,K v->c v):vG P e h a v c:=by
 apply amW b;replace b:=ZD b;split at b
 ·rename_i d;simp only[d,gu];exact VI b f
 ·exact b.elim
theorem aGG{el:TypeId}{z:Array Value}{m bytes:Nat}{s:Sl}{a:List Value->Prop}{K j:Sl->HP}(e:Ap h el z m bytes s n a K)(d:∀s h,K s h->j s h):Ap h el z m bytes s n a j:=by
 obtain⟨vs,l,e⟩:=e;refine⟨vs,l,?_⟩;grind[VI]
theorem anZ{c:List TypeId}{s:Value}{K e:de}(a:Fy P c s v h K)(d:∀s h,K s h->e s h):Fy P c s v h e:=by
 unfold Fy at a ⊢;split at a
 ·split at a
  ·split at a
   all_goals grind[aGG]
  omega
 omega
theorem anN{a:Value->Prop}(h:C3 V K)(b:∀v,K v->a v):C3 V a:=by
 unfold C3 at h ⊢;grind
theorem aGz{a:Option Addr}{b:List Value->Prop}{K e:Hp->Prop}(f:AJ h a b K)(c:∀h,K h->e h):AJ h a b e:=by
 obtain⟨vs,g,d⟩:=f;refine⟨vs,g,?_⟩;grind[VI]
theorem aGw{K e:Hp->Prop}(a:zb h m kd k K)(d:∀h,K h->e h):zb h m kd k e:=by
 unfold zb at a ⊢;grind
theorem anX{b:Builtin}{f:List TypeId}{K i:de}(a:AW P b f C h K)(c:∀s h,K s h->i s h):AW P b f C h i:=by
 unfold AW at a ⊢;split at a
 ·split at a
  ·split at a
   ·rename_i k;simp only[k,gu];exact anN a λv j=>c _ _ j
   ·exact a.elim
  omega
 ·grind
 ·grind
 ·grind
 ·grind[anZ]
 ·split at a
  ·unfold Pn at a ⊢;split at a
   ·split at a
    ·split at a
     all_goals grind[aGz]
    omega
   omega
  omega
 ·split at a
  ·unfold Pm at a ⊢;split at a
   ·split at a
    ·split at a
     ·rename_i kd l
      cases e:rY kd with
      |true=>rw[e,lH]at a;rw[lH];exact aGw a λg d=>c _ _ d
      |false=>grind
     omega
    omega
   omega
  omega
 omega
theorem aal{zs:bg}{c:Value->Prop}(h:gO zs v K)(b:∀v,K v->c v):gO zs v c:=by
 unfold gO at h ⊢;grind[O9,Zb]
theorem dP.mono{f:FuncId}{args:bg}{K k:de}{j:PK}(B:dP P f args h K Kp)(z:∀s h,K s h->k s h)(q:∀c h,Kp c h->j c h):dP P f args h k j:=by
 intro w b;refine(B w b).mono ?_;grind
theorem ajF{name:String}{K j:de}{i d:PK}(a:fE P v name C h K i)(f:∀s h,K s h->j s h)(e:∀c h,i c h->d c h):fE P v name C h j d:=by
  unfold fE at a ⊢;split at a
  · split at a
    ·grind[dP.mono]
    · split at a
      · rename_i g off l
        cases b:jV P g with
        |false=>grind
        | true=>
          rw[b,lH]at a;unfold PY at a ⊢;rw[lH];grind[dP.mono]
      omega
  omega
theorem ajE{fv:Value}{K p:de}{o i:PK}(a:cX P fv C h K o)(m:∀s h,K s h->p s h)(l:∀c h,o c h->i c h):cX P fv C h p i:=by
 unfold cX at a ⊢;split at a
 ·grind[dP.mono]
 ·intro w q;obtain⟨y,j,b,k,x,u⟩:=a w q;refine⟨y,j,b,k,x,u.mono ?_⟩;grind
 ·unfold Yx at a ⊢;grind[ajF]
 omega
theorem anV{K f:de}{e a:PK}(b:Fx P ty V C h K e)(j:∀s h,K s h->f s h)(i:∀c h,e c h->a c h):Fx P ty V C h f a:=by
 unfold Fx at b ⊢;split at b
 ·exact ajE b (λv l g=>aal g λk d=>j _ _ d) i
 omega
theorem anW{name:String}{K f:de}{e a:PK}(b:Fw P ty V name C h K e)(j:∀s h,K s h->f s h)(i:∀c h,e c h->a c h):Fw P ty V name C h f a:=by
 unfold Fw at b ⊢;split at b
 all_goals grind[ajF,aal]
theorem ayT{c:Value->Prop}(a:yP v K)(b:∀v,K v->c v):yP v c:=by
 unfold yP at a ⊢;split at a
 ·unfold NN at a ⊢;grind
 all_goals first|exact b _ a|omega
theorem ayS(a:yP v K):∃u,K u/\∀b:Value->Prop,b u->yP v b:=by
 unfold yP at a;split at a
 ·unfold NN at a;split at a
  ·exact⟨_,a,λ_ h=>h⟩
  ·exact a.elim
 all_goals first|exact⟨_,a,λ_ h=>h⟩|exact a.elim
theorem ayV{c:Value->Prop}(a:sJ P v K)(b:∀v,K v->c v):sJ P v c:=by
 unfold sJ at a ⊢;split at a
 ·split at a
  ·unfold Cq at a ⊢;grind
  omega
 ·exact ayT a b
theorem ayU(a:sJ P v K):∃u,K u/\∀b:Value->Prop,b u->sJ P v b:=by
 unfold sJ at a;split at a
 ·split at a
  ·rename_i d
   unfold Cq at a;split at a
   ·exact⟨_,a.2,λ_ h=>by unfold sJ;simp only[d];exact⟨a.1,h⟩⟩
   ·exact a.elim
  ·exact a.elim
 ·rename_i c
  obtain⟨u,f,e⟩:=ayS a;exact⟨u,f,λb h=>by
   unfold sJ;simp[*]⟩
theorem awz{s d:TypeId}{c:Value->Prop}(a:BI P s d V h K)(b:∀v,K v->c v):BI P s d V h c:=by
 unfold BI at a ⊢;split at a
 ·split at a
  ·exact b _ a
  omega
 ·grind
 ·split at a
  ·obtain⟨bs,f,e⟩:=a;exact⟨bs,f,b _ e⟩
  omega
 omega
theorem O8{z:Value}(h:nJ z K):∃v,K v/\∀a:Value->Prop,a v->nJ z a:=by
 unfold nJ at h ⊢;grind
theorem ast{cs:Array Value}{i:Int}{f:Value->Prop}(a:xN P e cs n i K)(h:∀v,K v->f v):xN P e cs n i f:=by
  unfold xN at a ⊢;split at a
  · rename_i d z _ _
    cases c:uK d with
    |true=>grind
    | false=>
      rw[c,Ht]at a;rw[Ht];split at a
      · rename_i g
        rw[aI g];grind[vC]
      grind
  omega
theorem ass{cs:Array Value}{i:Int}(a:xN P e cs n i K):∃v,K v/\∀c:Value->Prop,c v->xN P e cs n i c:=by
  unfold xN at a;split at a
  · rename_i d z g f
    cases b:uK d with
    |true=>grind
    | false=>
      rw[b,Ht]at a;split at a
      · rename_i j
        obtain⟨p,o,m⟩:=a;obtain⟨v,h,l⟩:=O8 m;refine⟨v,h.2,λc k=>?_⟩;unfold xN;grind
      grind
  grind
theorem ari{z:Value}{K g:Value->Bool->Prop}(e:Dr h m kd k z K)(f:∀v b,K v b->g v b):Dr h m kd k z g:=by
 unfold Dr at e ⊢;split at e
 ·grind[vC]
 ·obtain⟨n,c,d,l,j,i⟩:=e;refine⟨n,c,d,l,j,vC i λv a=>?_⟩;grind
theorem ayt{K d:Hp->Prop}(a:Up h m kd k v K)(e:∀h,K h->d h):Up h m kd k v d:=by
 unfold Up at a ⊢;grind
theorem Z1{e:Operand->Option Value}{K K':Option Value->HP}{Kp':PK}(hh:iL P op ty e K Kp h)(hk:∀s h,K s h->K' s h)(hp:∀c h,Kp c h->Kp' c h):iL P op ty e K' Kp' h:=by
 cases op <;> simp only[iL]at hh⊢ <;> first|exact hh|exact hk _ _ hh|skip
 case pick=>
  split at hh
  ·split at hh <;> exact hk _ _ hh
  ·exact hh.elim
 case alloc=>split at hh <;> first|exact hk _ _ hh|omega
 case box=>split at hh <;> first|exact hk _ _ hh|omega
 case load=>grind[aru]
 case store=>grind[amX]
 case nilCheck=>
  grind[ayV]
 case binOp=>grind[ap2]
 case unOp=>grind[apX]
 case convert=>grind[awz]
 case makeInterface=>split at hh <;> simp_all
 case makeFunc=>split at hh <;> first|exact hk _ _ hh|exact hh.elim
 case makeSlice=>
  split at hh
  ·split at hh
   ·exact⟨hh.1,hh.2.1,hh.2.2.1,hh.2.2.2.1,hk _ _ hh.2.2.2.2⟩
   omega
  omega
 case slice=>
  split at hh
  ·split at hh
   ·split at hh
    ·split at hh
     ·exact hh.elim
     ·rename_i hc;simp only[hc];exact⟨hh.1,hh.2.1,hh.2.2.1,hh.2.2.2.1,hk _ _ hh.2.2.2.2⟩
    omega
   omega
  ·split at hh
   ·exact⟨hh.1,hh.2.1,hh.2.2.1,hk _ _ hh.2.2.2⟩
   omega
  omega
 case fieldAddr=>split at hh <;> first|(split at hh <;> first|exact hk _ _ hh|exact hh.elim)|exact hh.elim
 case field=>split at hh <;> first|(split at hh <;> first|exact hk _ _ hh|exact hh.elim)|exact hh.elim
 case indexAddr=>
  split at hh
  ·split at hh
   ·split at hh
    ·unfold Ix at hh ⊢;split at hh <;> simp_all
    omega
   omega
  ·split at hh
   ·split at hh
    ·unfold Ix at hh ⊢;split at hh <;> simp_all
    omega
   omega
  omega
 case index=>
  split at hh
  ·split at hh
   ·obtain⟨b,h1,h2,h3⟩:=hh;exact⟨b,h1,h2,hk _ _ h3⟩
   omega
  all_goals grind[ast]
 case makeMap r=>cases r with|none=>exact hk _ _ hh|some x=>omega
 case lookup=>
  split at hh
  ·split at hh
   ·rename_i kd z _ _
    cases Gv:rY kd with
    |false=>rw[Gv]at hh;exact hh.elim
    |true=>rw[Gv,lH]at hh;rw[lH];grind[ari]
   omega
  omega
 case mapUpdate=>
  split at hh
  ·split at hh
   ·rename_i kd _
    cases Gv:rY kd with
    |false=>rw[Gv]at hh;exact hh.elim
    |true=>rw[Gv,lH]at hh;rw[lH];exact ayt hh λh' hv=>hk _ _ hv
   omega
  omega
 case typeAssert=>split at hh <;> first|(split at hh <;> first|exact hk _ _ hh|exact hh.elim)|exact hh.elim
 case extract=>split at hh <;> first|(split at hh <;> first|exact hk _ _ hh|exact hh.elim)|exact hh.elim
 case build=>grind[Ul]
 case buildSlice=>
  split at hh
  ·obtain⟨cs,el,_,h,hK⟩:=aeO hh;exact hK _ (hk _ _ h)
  omega
 case panic=>split at hh <;> first|exact hp _ _ hh|exact hh.elim
 case call=>
  split at hh
  all_goals grind[anX,anV,anW]
def uJ(P:Program):Op->Bool
 |.move _|.assign _|.pick ..|.load ..|.nilCheck _|.binOp ..|.unOp ..|.makeInterface ..|.makeFunc ..|.slice ..|.fieldAddr ..|.field ..|.indexAddr ..|.index ..|.extract ..|.build ..=>true
 |.convert s _ _=>match P.underlying s with|some (.int _)=>true|_=>false
 |.call c=>match c.callee with|.builtin .len|.builtin .cap|.builtin .min|.builtin .max=>true|_=>false
 |_=>false
def zF(P:Program)(t:TypeId):Nat:=max 1 ((jo P t).getD 0)
def Cw(h h2:Hp)(a:Addr)(n:Nat):Prop:=∀i,i<n->cell h2 (a.add i)=cell h (a.add i)
theorem aaV{k:IntKind}{a b:Int}(h:vR c k a b K):∃v,K v/\∀d,d v->vR c k a b d:=by
 cases c <;> simp only[vR,Wr,Dv,Nn]at h⊢ <;> grind
theorem apY{a b:ff}(h:xC c a b K):∃v,K v/\∀d,d v->xC c a b d:=by
 cases c <;> simp only[xC]at h⊢ <;> grind
theorem apW{b:UnOp}{a:Value}(h:xB b a K):∃v,K v/\∀c,c v->xB b a c:=by
 unfold xB at h ⊢;split at h
 all_goals first|exact h.elim|(split at h <;> first|exact h.elim|exact⟨_,h,λ_ h=>h⟩)
theorem ap3{op:BinOp}{t:TypeId}{a:Value}(h:xD P op t a b K):∃v,K v/\∀K',K' v->xD P op t a b K':=by
 unfold xD at h⊢
 repeat' split at h
 all_goals first|exact h.elim|exact aaV h|exact apY h|exact⟨_,h,λ_ h=>h⟩|(rename_i hc;simp only[aI hc];exact aaV h)|skip
 all_goals grind
theorem aDb{K:Bool->Prop}(h:oN v K):∃b,K b/\∀a:Bool->Prop,a b->oN v a:=by
 unfold oN at h ⊢;grind
theorem ap0{f:BinOp}{a:Value}(h:xE P f e a b K):∃v,K v/\∀g,g v->xE P f e a b g:=by
 unfold xE at h ⊢;split at h
 all_goals grind[aDb,ap3]
theorem arv{g:Hp}:∀{zs:bg}{i:Nat}{K:List Value->Prop},xI h a i zs K->(∀j,j<zs.length->cell g (a.add (i+j))=cell h (a.add (i+j)))->xI g a i zs K:=by
  intro zs
  induction zs with
  |nil=>intro i K b _;exact b
  | cons z zs e=>
    intro i K b d;exact vC b λv c=>⟨(d 0 aA).trans c.1,e c.2 λj f=>by have:=d (j+1) cj;grind⟩
theorem arx:∀{zs:bg}{i:Nat}{K:List Value->Prop},xI h a i zs K->∃vs,K vs/\∀c:List Value->Prop,c vs->xI h a i zs c:=by
  intro zs
  induction zs with
  |nil=>intro i K b;exact⟨[],b,λ_ h=>h⟩
  | cons z zs d=>
    intro i K b;obtain⟨v,⟨j,e⟩,k⟩:=O8 b;obtain⟨vs,g,f⟩:=d e;exact⟨v::vs,g,λc l=>k _ ⟨j,f _ l⟩⟩
theorem abI{h2:Hp}(b:mQ P e h a K)(k:Cw h h2 a (zF P e)):∃v,K v/\∀c:Value->Prop,c v->mQ P e h2 a c:=by
  unfold mQ at b ⊢;split at b
  · rename_i d z p o
    cases l:uK d with
    | true=>
      rw[l]at b;simp only[iy]at b ⊢;split at b
      · split at b
        · rename_i zs i
          simp only[i,gu];obtain⟨vs,f,h2⟩:=arx b;refine⟨_,f,λc g=>arv (h2 _ g) λj m=>?_⟩;rw[cz];exact k j (by simp[zF,i];grind)
        grind
      grind
    | false=>
      rw[l]at b;simp only[iy]at b ⊢;obtain⟨v,⟨f,h2⟩,n⟩:=O8 b;exact⟨v,h2,λc g=>n _ ⟨(k 0 (by simp[zF];omega)).trans f,g⟩⟩
  grind
theorem anL{e:Operand->Option Value}{K:Option Value->HP}(hr:uJ P op=true)(hh:iL P op ty e K Kp h):∃v,K v h/\∀(h2:Hp)(K2:Option Value->HP)(Kp2:PK),(∀t x a,op=.load t x->e x=some (dw a)->Cw h h2 a (zF P t))->K2 v h2->iL P op ty e K2 Kp2 h2:=by
  cases op <;> simp only[uJ]at hr <;> first|(cases hr;done)|skip
  all_goals simp only[iL]at hh⊢
  case move=>exact⟨_,hh,λ_ _ _ _ h=>h⟩
  case assign=>exact⟨_,hh,λ_ _ _ _ h=>h⟩
  case pick=>
    split at hh
    ·split at hh <;> exact⟨_,hh,λ_ _ _ _ h=>h⟩
    ·exact hh.elim
  case load t x=>
    split at hh
    · rename_i a ha
      obtain⟨v,hk⟩:∃v,K _ h/\∀h2,Cw h h2 a _->∀K':Value->Prop,K' v->mQ P t h2 a K':=by
        have key:=abI hh (λ_ _=>rfl);obtain⟨v,h1,h2⟩:=key;refine⟨v,h1,λh3 SL K' hK'=>?_⟩;obtain⟨u,hu,hb⟩:=abI (h2 (λx=>x=v) rfl) SL;simp[*]
      exact⟨some v,hk.1,λh2 K2 Kp2 SL hK2=>hk.2 h2 (SL t x a rfl ha) _ hK2⟩
    ·exact hh.elim
  case nilCheck=>
    grind[ayU]
  case binOp=>
    grind[ap0]
  case unOp=>
    grind[apW]
  case convert s d x=>
    split at hr
    · rename_i k hs
      split at hh
      · unfold BI at hh ⊢;rw[hs]at hh ⊢;split at hh
        · split at hh
          ·exact⟨_,hh,λ_ _ _ _ h=>h⟩
          ·exact hh.elim
        all_goals simp_all
      ·exact hh.elim
    ·cases hr
  case makeInterface=>split at hh <;> first|exact⟨_,hh,λ_ _ _ _ h=>h⟩|exact hh.elim
  case makeFunc=>split at hh <;> first|exact⟨_,hh,λ_ _ _ _ h=>h⟩|exact hh.elim
  case slice=>
    split at hh
    · split at hh
      · split at hh
        · split at hh
          ·exact hh.elim
          ·rename_i hc;simp only[hc];exact⟨_,hh.2.2.2.2,λ_ _ _ _ h=>⟨hh.1,hh.2.1,hh.2.2.1,hh.2.2.2.1,h⟩⟩
        ·exact hh.elim
      ·exact hh.elim
    · split at hh
      ·exact⟨_,hh.2.2.2,λ_ _ _ _ h=>⟨hh.1,hh.2.1,hh.2.2.1,h⟩⟩
      ·exact hh.elim
    ·exact hh.elim
  case fieldAddr=>split at hh <;> first|(split at hh <;> first|exact⟨_,hh,λ_ _ _ _ h=>h⟩|exact hh.elim)|exact hh.elim
  case field=>split at hh <;> first|(split at hh <;> first|exact⟨_,hh,λ_ _ _ _ h=>h⟩|exact hh.elim)|exact hh.elim
  case indexAddr=>
    split at hh
    · split at hh
      · split at hh
        ·unfold Ix at hh ⊢;split at hh <;> first|exact⟨_,hh.2.2,λ_ _ _ _ h=>⟨hh.1,hh.2.1,h⟩⟩|exact hh.elim
        ·exact hh.elim
      ·exact hh.elim
    · split at hh
      · split at hh
        ·unfold Ix at hh ⊢;split at hh <;> first|exact⟨_,hh.2.2,λ_ _ _ _ h=>⟨hh.1,hh.2.1,h⟩⟩|exact hh.elim
        ·exact hh.elim
      ·exact hh.elim
    ·exact hh.elim
  case index=>
    split at hh
    · split at hh
      ·obtain⟨b,h1,h2,h3⟩:=hh;exact⟨_,h3,λ_ _ _ _ h=>⟨b,h1,h2,h⟩⟩
      ·exact hh.elim
    all_goals grind[ass]
  case extract=>split at hh <;> first|(split at hh <;> first|exact⟨_,hh,λ_ _ _ _ h=>h⟩|exact hh.elim)|exact hh.elim
  case build=>grind[Ul]
  case call c =>
    cases hc:c.callee with
    |value f=>rw[hc]at hr;cases hr
    |invoke x m=>rw[hc]at hr;cases hr
    | builtin b=>
      rw[hc]at hr;simp only[hc]at hh ⊢;split at hh
      · unfold AW at hh ⊢;cases b <;> first|(cases hr;done)|skip
        all_goals simp only at hh⊢
        · split at hh
          · split at hh
            ·exact⟨_,hh,λ_ _ _ _ h=>h⟩
            ·exact hh.elim
          ·exact hh.elim
        · split at hh
          · split at hh
            · rename_i hf
              simp only[hf,gu];unfold C3 at hh ⊢;split at hh <;> first|exact⟨_,hh,λ_ _ _ _ h=>h⟩|exact hh.elim
            ·exact hh.elim
          ·exact hh.elim
        · split at hh
          · split at hh
            ·exact⟨_,hh,λ_ _ _ _ h=>h⟩
            ·exact hh.elim
          ·exact hh.elim
        · split at hh
          · split at hh
            ·exact⟨_,hh,λ_ _ _ _ h=>h⟩
            ·exact hh.elim
          ·exact hh.elim
      ·exact hh.elim
def gd(ops:Array Oper)(o:Oper)(fr:Fr):Option Bool:=
  match o.guard with
  |none=>some true
  | some (j,b)=>match(ops[j]?).bind (·.dst)with
    |some d=>(match fr.getD d none with|some (.bool c)=>some (c==b)|some (.tuple _)=>some false|_=>none)
    |none=>none
def lq(P:Program)(ops:Array Oper)(o:Oper)(K:Fr->HP)(Kp:PK)(fr:Fr)(h:Hp):Prop:=
 match gd ops o fr with
 |some true=>iL P o.op o.type (ev fr) (λv h'=>K (gR fr o.dst v) h') Kp h
 |some false=>K (gR fr o.dst (some undef)) h
 |none=>False
theorem ZV{d:Nat}(h:fr.getD d none=some v):fr.set d (some v)=fr:=by
  apply sE;grind
theorem JB(g:ops[i]? =some o)(K:Fr->HP)(a:PK)(fr:Fr)(h:Hp):vK P ops i K a fr h=lq P ops o K a fr h:=by
  unfold vK lq gd;simp only[g];cases k:o.guard with
  |none=>rfl
  | some e=>
    obtain⟨j,b⟩:=e;simp only;cases l:(ops[j]?).bind (·.dst)with
    |none=>rfl
    | some d=>
      simp only;cases f:fr.getD d none with
      |none=>rfl
      | some v=>
        cases v <;> try rfl
        rename_i c
        cases c <;> cases b <;> simp only[iy,(ZV f)] <;> rfl
theorem Ju{b:Array Oper}{K g:Fr->HP}{f:PK}(a:lq P b o K f fr h)(e:∀v c,K (gR fr o.dst v) c->g (gR fr o.dst v) c):lq P b o g f fr h:=by
 unfold lq at a ⊢;split at a
 ·exact Z1 a (λv c d=>e v c d) (λ_ _ d=>d)
 ·exact e _ h a
 omega
def looks(ops:Array Oper)(o:Oper):List Nat:=
 o.op.operands.toList.filterMap (λ|.tmp t=>some t|_=>none)++(match o.guard with|some (j,_)=>((ops[j]?).bind (·.dst)).toList|none=>[])
def Uu(ops:Array Oper)(x y:Oper):Bool:=
 (match x.dst with|some d=>!(looks ops y).contains d&&!(y.dst==some d)|none=>true)&&(match y.dst with|some d=>!(looks ops x).contains d|none=>true)
theorem auS{v:Option Value}{x:Operand}(h:∀t,d=some t->x≠.tmp t):ev (gR fr d v) x=ev fr x:=by
  cases d with
  |none=>rfl
  | some t=>
    cases x with
    | tmp u=>
      have:u≠t:=bU
      simp only[ev,gR];grind
    |_=>rfl
theorem RZ{v:Option Value}(h:∀t,d=some t->(looks ops o).contains t=false):∀x∈o.op.operands,ev (gR fr d v) x=ev fr x:=by
 intro x b;refine auS λt c a=>?_;have:=h t c;subst a;simp only[looks,Ek,nt,wP,not_or,L9]at this;exact this.1 ⟨.tmp t,dM,rfl⟩
theorem RY{v:Option Value}(h:∀t,d=some t->(looks ops o).contains t=false):gd ops o (gR fr d v)=gd ops o fr:=by
  unfold gd;cases i:o.guard with
  |none=>rfl
  | some f=>
    obtain⟨j,b⟩:=f;simp only;cases k:(ops[j]?).bind (·.dst)with
    |none=>rfl
    | some u=>
      have c:∀t,d=some t->u≠t:=by
        intro t g a;have:=h t g;subst a;simp[looks,i,k]at this
      simp only;cases d with
      |none=>rfl
      | some t=>
        have:=c t rfl;simp only[gR,gL];grind
theorem ZY{a:Option Nat}{v b:Option Value}(h:∀t,d=some t->a≠some t):gR (gR fr d v) a b=gR (gR fr a b) d v:=by
  cases d with
  |none=>rfl
  | some t=>
    cases a with
    |none=>rfl
    | some u=>
      have:t≠u:=bU
      exact List.set_comm _ _ this
structure vu(ops:Array Oper)(x y:Oper):Prop where
 l:∀t,x.dst=some t->(looks ops y).contains t=false
 r:∀t,y.dst=some t->(looks ops x).contains t=false
 d:∀t,x.dst=some t->y.dst≠some t
theorem ax6{b:Array Oper}{x y:Oper}(h:Uu b x y=true):vu b x y:=by
 unfold Uu at h;refine⟨?_,?_,?_⟩
 all_goals grind
theorem ZA{K:Fr->HP}{q:PK}(n:uJ P o.op=true)(f:lq P ops o K q fr h):∃v,K (gR fr o.dst v) h/\∀(b:Fr)(g:Hp)(j:Fr->HP)(d:PK),(∀x∈o.op.operands,ev b x=ev fr x)->gd ops o b=gd ops o fr->
   (∀t x a,o.op=.load t x->ev fr x=some (dw a)->Cw h g a (zF P t))->j (gR b o.dst v) g->lq P ops o j d b g:=by
 unfold lq at f;split at f
 ·rename_i k
  obtain⟨v,p,g⟩:=anL n f;refine⟨v,p,λb i j d m e c l=>?_⟩;unfold lq;simp_all[Pk]
 ·rename_i k
  refine⟨some undef,f,λb i j d m e c l=>?_⟩;unfold lq;simp[*]
 ·exact f.elim
def sZ(P:Program)(x:Nat)(o:Oper)(fr:Fr)(ld:List (Nat×Addr×Nat)):List (Nat×Addr×Nat):=
 match o.op with
 |.load t y=>(match ev fr y with|some (.pointer (some a))=>(x,a,zF P t)::ld|_=>ld)
 |_=>ld
def keeps(ms:cG)(x:Nat)(h h':Hp):List (Nat×Addr×Nat)->Prop->Prop
 |[],X=>X
 |(j,a,n)::ld,X=>iy ((ms.getD x 0).testBit j) (keeps ms x h h' ld X)<|Cw h h' a n/\keeps ms x h h' ld X
inductive OT where
 |fin
 |op (x:Nat) (t:OT)
 |alt (a b:OT)
variable {t:OT}
def OT.l:List Nat->OT->OT
 |[],t=>t
 |x::l,t=>.op x (OT.l l t)
def OT.all:OT->List Nat
 |.fin=>[]
 |.op x t=>x::t.all
 |.alt a _=>a.all
def OT.qP:OT->List Nat
 |.fin=>[]
 |.op x _=>[x]
 |.alt a b=>a.qP++b.qP
def kq(P:Program)(ops:Array Oper)(ms:cG):List (Nat×Addr×Nat)->OT->(Fr->HP)->PK->Fr->HP
  |_,.fin,K,_,fr,h=>K fr h
  | ld,.op x l,K,Kp,fr,h=>match ops[x]? with
    |none=>False
    |some o=>iy (uJ P o.op) (vK P ops x (λcW h'=>kq P ops ms (sZ P x o fr ld) l K Kp cW h') Kp fr h)<|vK P ops x (λcW h'=>keeps ms x h h' ld (kq P ops ms ld l K Kp cW h')) Kp fr h
  |ld,.alt a b,K,Kp,fr,h=>kq P ops ms ld a K Kp fr h/\kq P ops ms ld b K Kp fr h
def qV(ms:cG)(j x:Nat):Bool:=(ms.getD j 0).testBit x
def jF(o:Oper):List Nat:=(o.after.toList.filter (Region.binds .any)).map (·.on)
def FV(ops:Array Oper)(ms:cG):Bool:=
 (List.range ops.size).all λj=>match ops[j]? with
  |some o=>(jF o).all (λe=>decide (e<j))&&ms.getD j 0==(jF o).foldl (λs e=>s|||(2^e)|||ms.getD e 0) 0
  |none=>false
def kr(P:Program)(ops:Array Oper)(ms:cG):Bool->OT->Bool
  |br,.fin=>!br
  | br,.op x t=>(br||(match ops[x]? with
    |some ox=>t.all.all λj=>match ops[j]? with|some oj=>!(qV ms x j)&&(qV ms j x||(uJ P ox.op&&Uu ops ox oj))|none=>false
    |none=>false))&&!(t.all.contains x)&&kr P ops ms false t
  |br,.alt a b=>kr P ops ms true a&&kr P ops ms true b&&a.all.all (b.all.contains ·)&&b.all.all (a.all.contains ·)&&(br||a.all.all λj=>(a.qP++b.qP).contains j||((a.qP++b.qP).any λw=>qV ms j w&&a.all.contains w))
def Qb(P:Program)(ops:Array Oper)(l:OT)(ms:cG):Bool:=
 P.follows .mixedOrders&&(ops.all λo=>!(o.op matches .defer _))&&FV ops ms&&kr P ops ms false l&&(List.range ops.size).all (λi=>l.all.contains i)&&l.all.all λi=>decide (i<ops.size)
theorem J4{m:Nat}{g:Hp}{X:Prop}:∀{ld:List (Nat×Addr×Nat)},keeps N m h g ld X↔(∀p∈ld,(N.getD m 0).testBit p.1=false->Cw h g p.2.1 p.2.2)/\X:=by
  intro ld
  induction ld with
  |nil=>simp[keeps]
  | cons p ld b=>
    obtain⟨j,a,n⟩:=p;unfold keeps;cases c:(N.getD m 0).testBit j with
    | true=>
      grind
    | false=>
      simp only[b,mB,forall_eq_or_imp];grind
theorem J3{ld:List (Nat×Addr×Nat)}{p:Nat×Addr×Nat}:p∈sZ P n o fr ld↔p∈ld\/∃t y a,o.op=.load t y/\ev fr y=some (dw a)/\p=(n,a,zF P t):=by
 unfold sZ;grind
theorem anR{K:Fr->HP}{s:PK}:∀{l:OT}{ld d:List (Nat×Addr×Nat)}{fr:Fr}{h:Hp},(∀p∈d,p∈ld)->kq P ops N ld l K s fr h->kq P ops N d l K s fr h:=by
  intro l
  induction l with
  |fin=>intro ld d fr h _ c;exact c
  |alt a b k j=>intro ld d fr h e c;exact⟨k e c.1,j e c.2⟩
  | op x l m=>
    intro ld d fr h e c;unfold kq at c ⊢;split at c
    ·omega
    · rename_i o q
      cases n:uJ P o.op with
      | true=>
        rw[n]at c;simp only[iy]at c ⊢;rw[JB q]at c ⊢;grind[Ju,J3]
      | false=>
        rw[n]at c;simp only[iy]at c ⊢;rw[JB q]at c ⊢;grind[Ju,J4]
theorem C4{K:Fr->HP}{a:PK}(c:ops[n]? =some o){l:OT}{ld:List (Nat×Addr×Nat)}{fr:Fr}{h:Hp}:
  kq P ops N ld (.op n l) K a fr h=(iy (uJ P o.op) (lq P ops o (λcW b=>kq P ops N (sZ P n o fr ld) l K a cW b) a fr h)<|lq P ops o (λcW b=>keeps N n h b ld (kq P ops N ld l K a cW b)) a fr h):=by
 rw[kq];simp only[c,JB c]
theorem anQ{K:Fr->HP}{o:PK}{c f:Oper}(F:ops[n]? =some c)(Q:ops[i]? =some f)(k:uJ P c.op=true)(b:vu ops c f)
    (I:qV N i n=false) {l:OT} {ld:List (Nat×Addr×Nat)} {fr:Fr} {h:Hp} (H:kq P ops N ld (.op n (.op i l)) K o fr h):kq P ops N ld (.op i (.op n l)) K o fr h:=by
  rw[C4 F,k,lH]at H;obtain⟨v,g,tx⟩:=ZA k H;have E:∀u:Option Value,∀z∈c.op.operands,ev (gR fr f.dst u) z=ev fr z:=λu=>RZ b.r;have J:∀u:Option Value,gd ops c (gR fr f.dst u)=gd ops c fr:=λu=>RY b.r;have m:∀u e,sZ P n c (gR fr f.dst u) e=sZ P n c fr e:=by
    intro u e;unfold sZ;split
    · rename_i t y B
      rw[E u y (by rw[B];simp[Op.operands])]
    ·rfl
  rw[C4 Q]at g ⊢;cases q:uJ P f.op with
  | true=>
    rw[q]at g;simp only[iy]at g ⊢;obtain⟨u,S,L⟩:=ZA q g;have j:∀z∈f.op.operands,ev fr z=ev (gR fr c.dst v) z:=λz M=>(RZ b.l z M).symm;apply L fr h _ o j (RY (v:=v) b.l).symm (λ_ _ _ _ _ _ _=>rfl);rw[C4 F,k,lH];apply tx _ h _ o (E u) (J u) (λ_ _ _ _ _ _ _=>rfl);rw[<-ZY b.d];refine anR (λp s=>?_) S;rw[m]at s;have D:∀e,sZ P i f (gR fr c.dst v) e=sZ P i f fr e:=by
      intro e;unfold sZ;split
      · rename_i t y B
        rw[<-j y (by rw[B];simp[Op.operands])]
      ·rfl
    grind[J3]
  | false=>
    rw[q]at g;simp only[iy]at g ⊢;have j:∀z∈f.op.operands,ev (gR fr c.dst v) z=ev fr z:=RZ b.l;have G:gd ops f (gR fr c.dst v)=gd ops f fr:=RY b.l;have fin:∀u A,keeps N i h A (sZ P n c fr ld) (kq P ops N (sZ P n c fr ld) l K o (gR (gR fr c.dst v) f.dst u) A)->
        keeps N i h A ld (kq P ops N ld (.op n l) K o (gR fr f.dst u) A):=by
      intro u A O;obtain⟨w,C⟩:=J4.1 O;refine J4.2 ⟨λp s=>w p (J3.2 (.inl s)),?_⟩;rw[C4 F,k,lH];apply tx _ A _ o (E u) (J u) (λt y a B R=>w (n,a,zF P t) (J3.2 (.inr ⟨t,y,a,B,R,rfl⟩)) I);rw[<-ZY b.d,m];exact C
    unfold lq at g ⊢;rw[G]at g;split at g
    ·rw[Pk j]at g;exact Z1 g fin (λ_ _ s=>s)
    all_goals simp[*]
theorem aaY{a:Array Oper}{B:Bool}(h:kr P a N B (.op n t)=true):kr P a N false t=true/\n∉t.all:=by
 simp only[kr,dm,tS,Ek,wP]at h;simp[*]
theorem ap8{a:Array Oper}(h:kr P a N false (.op n t)=true):∃b,a[n]? =some b/\∀j∈t.all,qV N j n=false->uJ P b.op=true/\∃d,a[j]? =some d/\vu a b d:=by
  simp only[kr,dm,U8]at h;have e:=h.1.1;cases f:a[n]? with
  |none=>simp[f]at e
  | some b=>
    rw[f]at e;simp only[Aj]at e;refine⟨b,rfl,λj i g=>?_⟩;have:=e j i;cases c:a[j]? with
    |none=>grind
    | some d=>
      simp_all[HS,ax6]
theorem ap7{a:Array Oper}{e:OT}(h:kr P a N false (.op n t)=true)(g:kr P a N false e=true)(b:∀j∈e.all,j∈t.all):kr P a N false (.op n e)=true:=by
  simp only[kr,dm]at h ⊢;grind
theorem aaZ{c:Array Oper}{B:Bool}{a b:OT}(h:kr P c N B (.alt a b)=true):kr P c N true a=true/\kr P c N true b=true/\(∀j,j∈a.all↔j∈b.all)/\
  (B=true\/∀j∈a.all,j∈a.qP\/j∈b.qP\/∃w∈a.all,qV N j w=true):=by
 simp only[kr,dm]at h;grind
theorem anS{d:Array Oper}{K:Fr->HP}{u:PK}:∀(T:OT),kr P d N true T=true->i∈T.qP->
    ∃f,kr P d N false f=true/\(∀j,j∈f.all↔j∈T.all/\j≠i)/\∀{ld:List (Nat×Addr×Nat)}{fr:Fr}{h:Hp},kq P d N ld T K u fr h->kq P d N ld (.op i f) K u fr h:=by
  intro T
  induction T with
  |fin=>intro _ c;simp[OT.qP]at c
  | op x t y=>
    intro g c;simp only[OT.qP,mA]at c;subst c;obtain⟨p,o⟩:=aaY g;refine⟨t,p,λj=>?_,λH=>H⟩;simp only[OT.all,mB];grind
  | alt a b s q=>
    intro g c;obtain⟨p,o,w,_⟩:=aaZ g;simp only[OT.qP,nt]at c;rcases c with c|c
    ·obtain⟨f,n,m,l⟩:=s p c;exact⟨f,n,m,λH=>l H.1⟩
    ·obtain⟨f,n,m,l⟩:=q o c;exact⟨f,n,λj=>by rw[m j,<-w j];exact Iff.rfl,λH=>l H.2⟩
theorem anT{c:Array Oper}{K:Fr->HP}{B:PK}{O:Oper}(I:c[i]? =some O){T:OT}{ld:List (Nat×Addr×Nat)}{fr:Fr}{h:Hp}
    (d:kr P c N false T=true) (m:i∈T.all) (g:∀x∈T.all,qV N i x=false) (H:kq P c N ld T K B fr h):∃k,kr P c N false k=true/\(∀j,j∈k.all↔j∈T.all/\j≠i)/\kq P c N ld (.op i k) K B fr h:=by
  have key:∀(T:OT),kr P c N false T=true->i∈T.all->(∀x∈T.all,qV N i x=false)->
      ∃k,kr P c N false k=true/\(∀j,j∈k.all↔j∈T.all/\j≠i)/\∀{ld:List _}{fr:Fr}{h:Hp},kq P c N ld T K B fr h->kq P c N ld (.op i k) K B fr h:=by
    intro T
    induction T with
    |fin=>intro _ m _;simp[OT.all]at m
    | op x t Q=>
      intro d m g;obtain⟨o,E⟩:=aaY d
      by_cases e:x=i
      ·subst e;refine⟨t,o,λj=>?_,λH=>H⟩;simp only[OT.all,mB];grind
      · obtain⟨ox,C,V⟩:=ap8 d;have z:i∈t.all:=by
          simp only[OT.all,mB]at m;exact m.resolve_left (λh=>e h.symm)
        obtain⟨M,F,q,W⟩:=Q o z λy R=>g y (by simp[OT.all,R])
        have u:=g x (by simp[OT.all])
        obtain⟨s,X,p,G⟩:=V i z u;rw[I]at p;cases p;refine⟨.op x M,ap7 d F λj l=>((q j).1 l).1,λj=>?_,λH=>?_⟩
        ·simp only[OT.all,mB];grind
        ·apply anQ C I s G u;rw[C4 C,s,lH]at H;rw[C4 C,s,lH];exact Ju H λv h' U=>W U
    | alt a b Z Y=>
      intro d m g;obtain⟨f,n,L,D⟩:=aaZ d;have D:=D.resolve_left aA;have A:kr P c N true (.alt a b)=true:=by
        simp only[kr,dm,Bool.true_or,Em]at d ⊢;exact d.1
      apply anS _ A;rcases D i m with h|h|⟨w,S,J⟩
      ·simp[OT.qP,h]
      ·simp[OT.qP,h]
      ·rw[g w S]at J;cases J
  grind
theorem Z3{d:Array Oper}{K:Fr->HP}{f:PK}:∀{T:OT}{ld:List (Nat×Addr×Nat)}{fr:Fr}{h:Hp},(∀j,j∉T.all)->kq P d N ld T K f fr h->K fr h:=by
 intro T
 induction T with
 |fin=>intro ld fr h _ H;exact H
 |op x t i=>intro ld fr h c H;exact absurd (by simp[OT.all]) (c x)
 |alt a b e g=>intro ld fr h c H;exact e c H.1
variable {r:Option Nat}
theorem at7(c:cG)(x:Nat):∀(l:cG)(s:Nat),(l.foldl (λs e=>s|||(2^e)|||c.getD e 0) s).testBit x=true->s.testBit x=true\/x∈l\/∃e∈l,(c.getD e 0).testBit x=true:=by
  intro l
  induction l with
  |nil=>simp
  | cons e l d=>
    grind
theorem Qk{a:Array Oper}(h:FV a N=true){j:Nat}{o:Oper}(d:a[j]? =some o):(∀e∈jF o,e<j)/\∀x,qV N j x=true->x∈jF o\/∃e∈jF o,qV N e x=true:=by
 unfold FV at h;have f:j<a.size:=bU;have:=Aj.1 h j (wO.2 f);rw[d]at this;simp only[dm,Aj,dQ,nv]at this;refine⟨this.1,λx c=>?_⟩;unfold qV at c;rw[this.2]at c;rcases at7 N x _ 0 c with b|b|b
 ·simp at b
 ·simp[*]
 ·exact .inr b
theorem ax9{b:Array Oper}(i:FV b N=true){a:Array Bool}(k:∀j o,b[j]? =some o->a.getD j false=true->∀e∈jF o,a.getD e false=true)(h:a.size=b.size):∀(e x:Nat),a.getD e false=true->qV N e x=true->a.getD x false=true:=by
  intro e
  induction e using Nat.strongRecOn with
  | _ e l=>
    intro x hl p;have n:e<b.size:=by
      rw[<-h];apply yL;intro m;simp[m]at hl
    obtain⟨o,d⟩:∃o,b[e]? =some o:=⟨b[e],Ak n⟩;grind[Qk]
theorem K3{a:Array Bool}:(o.after.all λe=>!Region.binds .any e||a.getD e.on false)=true↔∀e∈jF o,a.getD e false=true:=by
 simp only[afh,HS,jF];grind
theorem Ku{a:Array Bool}(b:i<a.size):a.getD i true=a.getD i false:=dM
theorem anU{c:Array Oper}(b':Ey N c){R:cG}(L:FV c R=true){K:Fr->HP}{Kp:PK}{Q:Exit->Act->World->Prop}:∀(f:Nat)(b:Array Bool)(U:cG)(l:OT)(ld:List (Nat×Addr×Nat))(fr:Fr)(a:Act)(w:World),
    eC fr a->kr P c R false l=true->(∀i,i∈l.all↔i<c.size/\b.getD i false=false)->(∀i,i∈l.all->i∈U)->b.size=c.size->(∀j o,c[j]? =some o->b.getD j false=true->∀e∈jF o,b.getD e false=true)->
    U.length<=f->kq P c R ld l K Kp fr (aT w)->(∀cW q n,eC cW q->Kd N a q->cE w n->K cW (aT n)->Q .normal q n)->
    (∀ch q n,Kd N a q->cE w n->Kp ch (aT n)->Q (.panic ch) q n)->wpAnyIn (Fc r) 0 P .any c Q f b a w:=by
  intro f;have d:∀(b:Array Bool)(i:Nat),b.size=c.size->(i∈Region.ready .any c b↔i<c.size/\b.getD i false=false/\∃o,c[i]? =some o/\∀e∈jF o,b.getD e false=true):=by
    intro b i g;unfold Region.ready;simp only[List.mem_filter,wO,dm,tS];constructor
    ·rintro⟨D,hl,s⟩;have t:=Ak D;rw[t]at s;simp only[pH,oI]at s;exact⟨D,by rw[<-Ku ag];exact hl,_,t,K3.1 s⟩
    · rintro⟨D,hl,o,t,s⟩;refine⟨D,by rw[Ku ag];exact hl,?_⟩
      rw[t];simp only[pH,oI];exact K3.2 s
  have p:∀(b:Array Bool)(l:cG),b.size=c.size->(∀i,i∈l↔i<c.size/\b.getD i false=false)->Region.ready .any c b=[]->∀j,j∉l:=by
    intro b l g hl T;intro x hx
    · obtain⟨m,hm,d'⟩:=least _ ⟨x,hx⟩;obtain⟨Y,hf⟩:=(hl m).1 hm;have t:=Ak Y;have:m∈Region.ready .any c b:=by
        refine(d b m g).2 ⟨Y,hf,_,t,λe V=>?_⟩;have n':=(Qk L t).1 e V;have:=d' e n';rw[hl e]at this;cases i':b.getD e false with
        |true=>rfl
        |false=>exact absurd ⟨ag,i'⟩ this
      rw[T]at this;simp at this
  induction f with
  | zero=>
    intro b U l ld fr a w W hp hl hU g hc E H hN hP;have hn:∀j,j∉l.all:=by simp_all
    refine⟨?_,hN fr a w W (yC _ _) (j0 w) (Z3 hn H)⟩;simp_all[U7]
  | succ f ih=>
    intro b U l ld fr a w W hp hl hU g hc E H hN hP;refine⟨λT=>?_,λi D=>?_⟩
    ·exact hN fr a w W (yC _ _) (j0 w) (Z3 (p b l.all g hl T) H)
    · obtain⟨y,m',oi,u,z⟩:=(d b i g).1 D;have Z:=(hl i).2 ⟨y,m'⟩;have e':∀x∈l.all,qV R i x=false:=by
        intro x hx;cases p':qV R i x with
        |false=>rfl
        | true=>
          exfalso
          have h':b.getD x false=true:=by
            rcases(Qk L u).2 x p' with C|⟨e,V,C⟩
            ·exact z x C
            ·exact ax9 L hc g e x (z e V) C
          have:=((hl x).1 hx).2;rw[h']at this;cases this
      obtain⟨T',c',A,G⟩:=anT u hp Z e' H;have j':∀j,j∈T'.all↔j<c.size/\(b.setIfInBounds i true).getD j false=false:=by
        intro j;rw[A j]
        by_cases B:j=i
        · subst B;constructor
          ·intro h;exact absurd rfl h.2
          ·rintro⟨_,X⟩;simp[g,y]at X
        ·have C:=hl j;rw[tQ,L8 ag,<-tQ];rw[<-C];simp[B]
      have r':∀j,j∈T'.all->j∈U.erase i:=λj B=>by
        obtain⟨C,X⟩:=(A j).1 B;exact(List.mem_erase_of_ne X).2 (hU j C)
      have q':(U.erase i).length<=f:=by
        rw[afg (hU i Z)];omega
      have o':∀j o,c[j]? =some o->(b.setIfInBounds i true).getD j false=true->∀e∈jF o,(b.setIfInBounds i true).getD e false=true:=by
        intro j o t B e V;have mono:∀k,b.getD k false=true->(b.setIfInBounds i true).getD k false=true:=by
          intro k F
          by_cases k':k=i
          ·subst k';simp[Array.getD,g,y]
          ·rw[tQ,L8 ag,<-tQ];exact F
        by_cases l':j=i
        ·subst l';rw[u]at t;cases t;exact mono e (z e V)
        ·rw[tQ,L8 ag,<-tQ]at B;exact mono e (hc j o t B e V)
      have next:∀I cW q n,eC cW q->Kd N a q->cE w n->kq P c R I T' K Kp cW (aT n)->wpAnyIn (Fc r) 0 P .any c Q f (b.setIfInBounds i true) q n:=by
        intro I cW q n v s S F;refine ih _ (U.erase i) T' I cW q n v c' j' r' (by simpa using g) o' q' F ?_ ?_
        ·intro t' s' g' f' O J M;exact hN _ _ _ f' (O.trans s) (S.trans J) M
        ·intro ch s' g' O J M;exact hP _ _ _ (O.trans s) (S.trans J) M
      have step:wV r P c i (wpAnyIn (Fc r) 0 P .any c Q f (b.setIfInBounds i true)) Q a w:=by
        unfold kq at G;rw[u]at G;simp only at G;cases T:uJ P oi.op with
        | true=>
          rw[T,lH]at G;exact Ft b' W G (λcW q n v s S F=>next _ cW q n v s S F) hP
        | false=>
          rw[T,Ht]at G;exact Ft b' W G (λcW q n v s S F=>next _ cW q n v s S (J4.1 F).2) hP
      unfold wV at step;unfold wpOpIn;omega
def Ql(ops:Array Oper):List Nat:=ops.toList.foldl (λl o=>l++[(jF o).foldl (λs e=>s|||(2^e)|||l.getD e 0) 0]) []
def Qc(Bb:List (Nat×OT))(id:Nat)(ops:Array Oper):OT:=match Bb.find? (λx=>x.1==id)with
 |some x=>x.2
 |none=>OT.l (List.range ops.size) .fin
def kU(P:Program)(Bb:List (Nat×OT))(id:Nat)(ops:Array Oper)(K:Fr->HP)(Kp:PK)(fr:Fr)(h:Hp):Prop:=
 iy (Qb P ops (Qc Bb id ops) (Ql ops)) (kq P ops (Ql ops) [] (Qc Bb id ops) K Kp fr h)<|False
theorem zN(k:List (Nat×OT)):vr P r (kU P k):=by
  intro E id b K F fr a w Q v B d hN C;unfold kU at d;generalize Qc k id b=l at d;generalize Ql b=x at d
  cases g:Qb P b l x with
  |false=>grind
  | true=>
    rw[g,lH]at d;simp only[Qb,dm,Aj,dQ,Ek]at g;obtain⟨⟨⟨⟨⟨z,_⟩,t⟩,y⟩,f⟩,c⟩:=g;refine wpIn_region_any z (anU v t b.size _ _ l [] fr a {w with drawn:=w.drawn+1} B y ?_ (λi e=>wO.2 (c i e)) aA ?_ aA d ?_ ?_)
    · intro i;constructor
      ·intro e;simp[*]
      grind
    ·intro j o s A;have:j<b.size:=bU;simp[this]at A
    ·intro cW q h u p m n;exact hN cW q h u p m n
    ·intro D q h p m n;exact C D q h p m n
end Go.Sh
