import Derived.Test.YtbahbhkogflhbaaGreatDoorMakesShCode
import Derived.OrdersIn
set_option linter.all false
namespace Go.Sh
variable {e ty:TypeId} {e':Operand->Option Value} {o:Oper} {op:Op} {c:BinOp} {k b V v:Value} {a:Addr} {K:Value->Prop} {h:Hp} {i n:Nat} {m d:Option Nat} {kd:TypeDesc} {C:bq} {Kp:PK} {fr:Fr} {ops:Array Oper} {N:cU}
variable {P:Program}
theorem adW{e:Operand->Option Value}:∀{xs:List Operand},(∀x∈xs,e x=e' x)->iL e xs=iL e' xs:=by
 intro xs
 induction xs with
 |nil=>intro _;rfl
 |cons x xs a=>intro h;simp only[iL,h x aA,a (λy b=>h y (by simp[b]))]
theorem adY{e:Operand->Option Value}:∀{xs:List (Nat×Operand)},(∀x∈xs.map (·.2),e x=e' x)->xN e xs=xN e' xs:=by
 intro xs
 induction xs with
 |nil=>intro _;rfl
 |cons x xs b=>intro h;obtain⟨i,x⟩:=x;simp only[xN,h x aA,b (λy a=>h y dG)]
theorem aqF{e:Operand->Option Value}{o:Option Operand}(h:∀x∈o.toArray,e x=e' x):qs e o=qs e' o:=by
 cases o with
 |none=>rfl
 |some x=>simp only[qs,h x aA]
theorem P2{e:Operand->Option Value}(h:∀x∈op.operands,e x=e' x):iQ P op ty e=iQ P op ty e':=by
  funext K Kp hp
  cases op <;> simp only[Op.operands,Array.mem_append]at h <;> simp only[iQ]
  case makeFunc fn first captured=>
    grind[adW]
  case slice t x lo hi mx=>
    have hx:=h x aA;grind[aqF]
  case build t parts=>
    rw[adY (e':=e') (λx hx=>bZ)]
  case buildSlice t n parts=>
    rw[adY (e':=e') (λx hx=>bZ)]
  case call c=>
    have ha:iL e c.args.toList=iL e' c.args.toList:=adW λx hx=>h x (by simp[Call.operands];grind)
    cases hc:c.callee with
    |builtin b=>simp[*]
    | invoke r m=>
      have hf:=h r (by simp[Call.operands,hc])
      simp[*]
    | value f=>
      have hf:=h f (by simp[Call.operands,hc])
      simp[*]
  all_goals simp[*]
theorem abA{k:IntKind}{a b:Int}{e:Value->Prop}(h:vR c k a b K)(d:∀v,K v->e v):vR c k a b e:=by
 cases c <;> simp only[vR,Wr,Dv,Nn]at h⊢ <;> first|exact d _ h|simp[*]
theorem aqO{a b:fh}{e:Value->Prop}(h:xp c a b K)(d:∀v,K v->e v):xp c a b e:=by
 cases c <;> simp only[xp]at h⊢ <;> grind
theorem aqS{op:BinOp}{t:TypeId}{a:Value}{K':Value->Prop}(h:xq P op t a b K)(hk:∀v,K v->K' v):xq P op t a b K':=by
 unfold xq at h⊢
 repeat' split at h
 all_goals first|exact h.elim|exact abA h hk|exact aqO h hk|exact hk _ h|(rename_i hc;rw[aK hc];exact abA h hk)|skip
 all_goals simp[*]
theorem aD0{K a:Bool->Prop}(h:oY V K)(b:∀v,K v->a v):oY V a:=by
 unfold oY at h ⊢;grind
theorem aqQ{a:Value}{f:Value->Prop}(h:xu P c e a b K)(d:∀v,K v->f v):xu P c e a b f:=by
 unfold xu at h ⊢;split at h
 ·split at h
  ·split at h <;> first|exact aD0 h λv g=>d _ g|omega
  omega
 ·exact aqS h d
theorem aqM{b:UnOp}{a:Value}{c:Value->Prop}(h:xo b a K)(d:∀v,K v->c v):xo b a c:=by
 unfold xo at h ⊢;split at h
 all_goals first|exact h.elim|(split at h <;> first|exact h.elim|exact d _ h)
theorem aso:∀{zs:bq}{i:Nat}{K b:List Value->Prop},xy h a i zs K->(∀v,K v->b v)->xy h a i zs b:=by
 intro zs
 induction zs with
 |nil=>intro i K b d c;exact c _ d
 |cons z zs g=>intro i K b d c;exact vC d λv f=>⟨f.1,g f.2 λvs e=>c _ e⟩
theorem asm{i:Value->Prop}(b:mR P e h a K)(f:∀v,K v->i v):mR P e h a i:=by
  unfold mR at b ⊢;split at b
  · rename_i d z l k
    cases g:uL d with
    | true=>
      rw[g]at b;simp only[iD]at b ⊢;split at b
      · split at b
        ·rename_i j;simp only[j,gB];exact aso b λv c=>f _ c
        grind
      omega
    | false=>
      grind[vC]
  omega
theorem V7:∀{vs:bq}{h:Hp}{i:Nat}{K c:Hp->Prop},iZ h a i vs K->(∀v,K v->c v)->iZ h a i vs c:=by
 intro vs
 induction vs with
 |nil=>intro h i K c b d;exact d _ b
 |cons v vs e=>intro h i K c b d;exact⟨b.1,b.2.1,b.2.2.1,e b.2.2.2 d⟩
theorem anG{K c:Hp->Prop}(b:vG P e h a v K)(f:∀v,K v->c v):vG P e h a v c:=by
 apply anF b;replace b:=aaa b;split at b
 ·rename_i d;simp only[d,gB];exact V7 b f
 ·exact b.elim
theorem aHs{el:TypeId}{z:Array Value}{m bytes:Nat}{s:Sl}{a:List Value->Prop}{K j:Sl->HP}(e:Ap h el z m bytes s n a K)(d:∀s h,K s h->j s h):Ap h el z m bytes s n a j:=by
 obtain⟨vs,l,e⟩:=e;refine⟨vs,l,?_⟩;grind[V7]
theorem aoF{c:List TypeId}{s:Value}{K e:di}(a:F5 P c s v h K)(d:∀s h,K s h->e s h):F5 P c s v h e:=by
 unfold F5 at a ⊢;split at a
 ·split at a
  ·split at a
   all_goals grind[aHs]
  omega
 omega
theorem aot{a:Value->Prop}(h:Dt V K)(b:∀v,K v->a v):Dt V a:=by
 unfold Dt at h ⊢;grind
theorem aHl{a:Option Addr}{b:List Value->Prop}{K e:Hp->Prop}(f:AW h a b K)(c:∀h,K h->e h):AW h a b e:=by
 obtain⟨vs,g,d⟩:=f;refine⟨vs,g,?_⟩;grind[V7]
theorem aHi{K e:Hp->Prop}(a:yY h m kd k K)(d:∀h,K h->e h):yY h m kd k e:=by
 unfold yY at a ⊢;grind
theorem aoD{b:Builtin}{f:List TypeId}{K i:di}(a:Bc P b f C h K)(c:∀s h,K s h->i s h):Bc P b f C h i:=by
 unfold Bc at a ⊢;split at a
 ·split at a
  ·split at a
   ·rename_i k;simp only[k,gB];exact aot a λv j=>c _ _ j
   ·exact a.elim
  omega
 ·grind
 ·grind
 ·grind
 ·grind[aoF]
 ·split at a
  ·unfold P4 at a ⊢;split at a
   ·split at a
    ·split at a
     all_goals grind[aHl]
    omega
   omega
  omega
 ·split at a
  ·unfold P3 at a ⊢;split at a
   ·split at a
    ·split at a
     ·rename_i kd l
      cases e:si kd with
      |true=>rw[e,lI]at a;rw[lI];exact aHi a λg d=>c _ _ d
      |false=>grind
     omega
    omega
   omega
  omega
 omega
theorem aaN{zs:bq}{c:Value->Prop}(h:gQ zs v K)(b:∀v,K v->c v):gQ zs v c:=by
 unfold gQ at h ⊢;grind[PN,ZE]
theorem dX.mono{f:FuncId}{args:bq}{K k:di}{j:PK}(B:dX P f args h K Kp)(z:∀s h,K s h->k s h)(q:∀c h,Kp c h->j c h):dX P f args h k j:=by
 intro w b;refine(B w b).mono ?_;grind
theorem akc{name:String}{K j:di}{i d:PK}(a:fD P v name C h K i)(f:∀s h,K s h->j s h)(e:∀c h,i c h->d c h):fD P v name C h j d:=by
  unfold fD at a ⊢;split at a
  · split at a
    ·grind[dX.mono]
    · split at a
      · rename_i g off l
        cases b:jV P g with
        |false=>grind
        | true=>
          rw[b,lI]at a;unfold Qz at a ⊢;rw[lI];grind[dX.mono]
      omega
  omega
theorem akb{fv:Value}{K p:di}{o i:PK}(a:cZ P fv C h K o)(m:∀s h,K s h->p s h)(l:∀c h,o c h->i c h):cZ P fv C h p i:=by
 unfold cZ at a ⊢;split at a
 ·grind[dX.mono]
 ·intro w q;obtain⟨y,j,b,k,x,u⟩:=a w q;refine⟨y,j,b,k,x,u.mono ?_⟩;grind
 ·unfold YY at a ⊢;grind[akc]
 omega
theorem aoB{K f:di}{e a:PK}(b:F4 P ty V C h K e)(j:∀s h,K s h->f s h)(i:∀c h,e c h->a c h):F4 P ty V C h f a:=by
 unfold F4 at b ⊢;split at b
 ·exact akb b (λv l g=>aaN g λk d=>j _ _ d) i
 omega
theorem aoC{name:String}{K f:di}{e a:PK}(b:F2 P ty V name C h K e)(j:∀s h,K s h->f s h)(i:∀c h,e c h->a c h):F2 P ty V name C h f a:=by
 unfold F2 at b ⊢;split at b
 all_goals grind[akc,aaN]
theorem azL{c:Value->Prop}(a:yK v K)(b:∀v,K v->c v):yK v c:=by
 unfold yK at a ⊢;split at a
 ·unfold NN at a ⊢;grind
 all_goals first|exact b _ a|omega
theorem azK(a:yK v K):∃u,K u/\∀b:Value->Prop,b u->yK v b:=by
 unfold yK at a;split at a
 ·unfold NN at a;split at a
  ·exact⟨_,a,λ_ h=>h⟩
  ·exact a.elim
 all_goals first|exact⟨_,a,λ_ h=>h⟩|exact a.elim
theorem azN{c:Value->Prop}(a:sI P v K)(b:∀v,K v->c v):sI P v c:=by
 unfold sI at a ⊢;split at a
 ·split at a
  ·unfold CV at a ⊢;grind
  omega
 ·exact azL a b
theorem azM(a:sI P v K):∃u,K u/\∀b:Value->Prop,b u->sI P v b:=by
 unfold sI at a;split at a
 ·split at a
  ·rename_i d
   unfold CV at a;split at a
   ·exact⟨_,a.2,λ_ h=>by unfold sI;simp only[d];exact⟨a.1,h⟩⟩
   ·exact a.elim
  ·exact a.elim
 ·rename_i c
  obtain⟨u,f,e⟩:=azK a;exact⟨u,f,λb h=>by
   unfold sI;simp[*]⟩
theorem axx{s d:TypeId}{c:Value->Prop}(a:B7 P s d V h K)(b:∀v,K v->c v):B7 P s d V h c:=by
 unfold B7 at a ⊢;split at a
 ·split at a
  ·exact b _ a
  omega
 ·grind
 ·split at a
  ·obtain⟨bs,f,e⟩:=a;exact⟨bs,f,b _ e⟩
  omega
 omega
theorem PM{z:Value}(h:nV z K):∃v,K v/\∀a:Value->Prop,a v->nV z a:=by
 unfold nV at h ⊢;grind
theorem ath{cs:Array Value}{i:Int}{f:Value->Prop}(a:xB P e cs n i K)(h:∀v,K v->f v):xB P e cs n i f:=by
  unfold xB at a ⊢;split at a
  · rename_i d z _ _
    cases c:uL d with
    |true=>grind
    | false=>
      rw[c,Ie]at a;rw[Ie];split at a
      · rename_i g
        rw[aK g];grind[vC]
      grind
  omega
theorem atg{cs:Array Value}{i:Int}(a:xB P e cs n i K):∃v,K v/\∀c:Value->Prop,c v->xB P e cs n i c:=by
  unfold xB at a;split at a
  · rename_i d z g f
    cases b:uL d with
    |true=>grind
    | false=>
      rw[b,Ie]at a;split at a
      · rename_i j
        obtain⟨p,o,m⟩:=a;obtain⟨v,h,l⟩:=PM m;refine⟨v,h.2,λc k=>?_⟩;unfold xB;grind
      grind
  grind
theorem ar9{z:Value}{K g:Value->Bool->Prop}(e:DU h m kd k z K)(f:∀v b,K v b->g v b):DU h m kd k z g:=by
 unfold DU at e ⊢;split at e
 ·grind[vC]
 ·obtain⟨n,c,d,l,j,i⟩:=e;refine⟨n,c,d,l,j,vC i λv a=>?_⟩;grind
theorem azi{K d:Hp->Prop}(a:Up h m kd k v K)(e:∀h,K h->d h):Up h m kd k v d:=by
 unfold Up at a ⊢;grind
theorem aau{e:Operand->Option Value}{K K':Option Value->HP}{Kp':PK}(hh:iQ P op ty e K Kp h)(hk:∀s h,K s h->K' s h)(hp:∀c h,Kp c h->Kp' c h):iQ P op ty e K' Kp' h:=by
 cases op <;> simp only[iQ]at hh⊢ <;> first|exact hh|exact hk _ _ hh|skip
 case pick=>
  split at hh
  ·split at hh <;> exact hk _ _ hh
  ·exact hh.elim
 case alloc=>split at hh <;> first|exact hk _ _ hh|omega
 case box=>split at hh <;> first|exact hk _ _ hh|omega
 case load=>grind[asm]
 case store=>grind[anG]
 case nilCheck=>
  grind[azN]
 case binOp=>grind[aqQ]
 case unOp=>grind[aqM]
 case convert=>grind[axx]
 case makeInterface=>split at hh <;> simp_all
 case makeFunc=>split at hh <;> first|exact hk _ _ hh|exact hh.elim
 case makeSlice=>
  split at hh
  ·split at hh
   ·exact⟨hh.1,hh.2.1,hh.2.2.1,hh.2.2.2.1,hk _ _ hh.2.2.2.2⟩
   omega
  omega
 case slice=>
  split at hh
  ·split at hh
   ·split at hh
    ·split at hh
     ·exact hh.elim
     ·rename_i hc;simp only[hc];exact⟨hh.1,hh.2.1,hh.2.2.1,hh.2.2.2.1,hk _ _ hh.2.2.2.2⟩
    omega
   omega
  ·split at hh
   ·exact⟨hh.1,hh.2.1,hh.2.2.1,hk _ _ hh.2.2.2⟩
   omega
  omega
 case fieldAddr=>split at hh <;> first|(split at hh <;> first|exact hk _ _ hh|exact hh.elim)|exact hh.elim
 case field=>split at hh <;> first|(split at hh <;> first|exact hk _ _ hh|exact hh.elim)|exact hh.elim
 case indexAddr=>
  split at hh
  ·split at hh
   ·split at hh
    ·unfold Ix at hh ⊢;split at hh <;> simp_all
    omega
   omega
  ·split at hh
   ·split at hh
    ·unfold Ix at hh ⊢;split at hh <;> simp_all
    omega
   omega
  omega
 case index=>
  split at hh
  ·split at hh
   ·obtain⟨b,h1,h2,h3⟩:=hh;exact⟨b,h1,h2,hk _ _ h3⟩
   omega
  all_goals grind[ath]
 case makeMap r=>cases r with|none=>exact hk _ _ hh|some x=>omega
 case lookup=>
  split at hh
  ·split at hh
   ·rename_i kd z _ _
    cases Hj:si kd with
    |false=>rw[Hj]at hh;exact hh.elim
    |true=>rw[Hj,lI]at hh;rw[lI];grind[ar9]
   omega
  omega
 case mapUpdate=>
  split at hh
  ·split at hh
   ·rename_i kd _
    cases Hj:si kd with
    |false=>rw[Hj]at hh;exact hh.elim
    |true=>rw[Hj,lI]at hh;rw[lI];exact azi hh λh' hv=>hk _ _ hv
   omega
  omega
 case typeAssert=>split at hh <;> first|(split at hh <;> first|exact hk _ _ hh|exact hh.elim)|exact hh.elim
 case extract=>split at hh <;> first|(split at hh <;> first|exact hk _ _ hh|exact hh.elim)|exact hh.elim
 case build=>grind[UJ]
 case buildSlice=>
  split at hh
  ·obtain⟨cs,el,_,h,hK⟩:=afo hh;exact hK _ (hk _ _ h)
  omega
 case panic=>split at hh <;> first|exact hp _ _ hh|exact hh.elim
 case call=>
  split at hh
  all_goals grind[aoD,aoB,aoC]
def uK(P:Program):Op->Bool
 |.move _|.assign _|.pick ..|.load ..|.nilCheck _|.binOp ..|.unOp ..|.makeInterface ..|.makeFunc ..|.slice ..|.fieldAddr ..|.field ..|.indexAddr ..|.index ..|.extract ..|.build ..=>true
 |.convert s _ _=>match P.underlying s with|some (.int _)=>true|_=>false
 |.call c=>match c.callee with|.builtin .len|.builtin .cap|.builtin .min|.builtin .max=>true|_=>false
 |_=>false
def zK(P:Program)(t:TypeId):Nat:=max 1 ((jt P t).getD 0)
def CZ(h h2:Hp)(a:Addr)(n:Nat):Prop:=∀i,i<n->cell h2 (a.add i)=cell h (a.add i)
theorem abz{k:IntKind}{a b:Int}(h:vR c k a b K):∃v,K v/\∀d,d v->vR c k a b d:=by
 cases c <;> simp only[vR,Wr,Dv,Nn]at h⊢ <;> grind
theorem aqN{a b:fh}(h:xp c a b K):∃v,K v/\∀d,d v->xp c a b d:=by
 cases c <;> simp only[xp]at h⊢ <;> grind
theorem aqL{b:UnOp}{a:Value}(h:xo b a K):∃v,K v/\∀c,c v->xo b a c:=by
 unfold xo at h ⊢;split at h
 all_goals first|exact h.elim|(split at h <;> first|exact h.elim|exact⟨_,h,λ_ h=>h⟩)
theorem aqR{op:BinOp}{t:TypeId}{a:Value}(h:xq P op t a b K):∃v,K v/\∀K',K' v->xq P op t a b K':=by
 unfold xq at h⊢
 repeat' split at h
 all_goals first|exact h.elim|exact abz h|exact aqN h|exact⟨_,h,λ_ h=>h⟩|(rename_i hc;simp only[aK hc];exact abz h)|skip
 all_goals grind
theorem aDZ{K:Bool->Prop}(h:oY v K):∃b,K b/\∀a:Bool->Prop,a b->oY v a:=by
 unfold oY at h ⊢;grind
theorem aqP{f:BinOp}{a:Value}(h:xu P f e a b K):∃v,K v/\∀g,g v->xu P f e a b g:=by
 unfold xu at h ⊢;split at h
 all_goals grind[aDZ,aqR]
theorem asn{g:Hp}:∀{zs:bq}{i:Nat}{K:List Value->Prop},xy h a i zs K->(∀j,j<zs.length->cell g (a.add (i+j))=cell h (a.add (i+j)))->xy g a i zs K:=by
  intro zs
  induction zs with
  |nil=>intro i K b _;exact b
  | cons z zs e=>
    intro i K b d;exact vC b λv c=>⟨(d 0 aA).trans c.1,e c.2 λj f=>by have:=d (j+1) cy;grind⟩
theorem asp:∀{zs:bq}{i:Nat}{K:List Value->Prop},xy h a i zs K->∃vs,K vs/\∀c:List Value->Prop,c vs->xy h a i zs c:=by
  intro zs
  induction zs with
  |nil=>intro i K b;exact⟨[],b,λ_ h=>h⟩
  | cons z zs d=>
    intro i K b;obtain⟨v,⟨j,e⟩,k⟩:=PM b;obtain⟨vs,g,f⟩:=d e;exact⟨v::vs,g,λc l=>k _ ⟨j,f _ l⟩⟩
theorem aco{h2:Hp}(b:mR P e h a K)(k:CZ h h2 a (zK P e)):∃v,K v/\∀c:Value->Prop,c v->mR P e h2 a c:=by
  unfold mR at b ⊢;split at b
  · rename_i d z p o
    cases l:uL d with
    | true=>
      rw[l]at b;simp only[iD]at b ⊢;split at b
      · split at b
        · rename_i zs i
          simp only[i,gB];obtain⟨vs,f,h2⟩:=asp b;refine⟨_,f,λc g=>asn (h2 _ g) λj m=>?_⟩;rw[cF];exact k j (by simp[zK,i];grind)
        grind
      grind
    | false=>
      rw[l]at b;simp only[iD]at b ⊢;obtain⟨v,⟨f,h2⟩,n⟩:=PM b;exact⟨v,h2,λc g=>n _ ⟨(k 0 (by simp[zK];omega)).trans f,g⟩⟩
  grind
theorem aor{e:Operand->Option Value}{K:Option Value->HP}(hr:uK P op=true)(hh:iQ P op ty e K Kp h):∃v,K v h/\∀(h2:Hp)(K2:Option Value->HP)(Kp2:PK),(∀t x a,op=.load t x->e x=some (c9 a)->CZ h h2 a (zK P t))->K2 v h2->iQ P op ty e K2 Kp2 h2:=by
  cases op <;> simp only[uK]at hr <;> first|(cases hr;done)|skip
  all_goals simp only[iQ]at hh⊢
  case move=>exact⟨_,hh,λ_ _ _ _ h=>h⟩
  case assign=>exact⟨_,hh,λ_ _ _ _ h=>h⟩
  case pick=>
    split at hh
    ·split at hh <;> exact⟨_,hh,λ_ _ _ _ h=>h⟩
    ·exact hh.elim
  case load t x=>
    split at hh
    · rename_i a ha
      obtain⟨v,hk⟩:∃v,K _ h/\∀h2,CZ h h2 a _->∀K':Value->Prop,K' v->mR P t h2 a K':=by
        have key:=aco hh (λ_ _=>rfl);obtain⟨v,h1,h2⟩:=key;refine⟨v,h1,λh3 Tp K' hK'=>?_⟩;obtain⟨u,hu,hb⟩:=aco (h2 (λx=>x=v) rfl) Tp;simp[*]
      exact⟨some v,hk.1,λh2 K2 Kp2 Tp hK2=>hk.2 h2 (Tp t x a rfl ha) _ hK2⟩
    ·exact hh.elim
  case nilCheck=>
    grind[azM]
  case binOp=>
    grind[aqP]
  case unOp=>
    grind[aqL]
  case convert s d x=>
    split at hr
    · rename_i k hs
      split at hh
      · unfold B7 at hh ⊢;rw[hs]at hh ⊢;split at hh
        · split at hh
          ·exact⟨_,hh,λ_ _ _ _ h=>h⟩
          ·exact hh.elim
        all_goals simp_all
      ·exact hh.elim
    ·cases hr
  case makeInterface=>split at hh <;> first|exact⟨_,hh,λ_ _ _ _ h=>h⟩|exact hh.elim
  case makeFunc=>split at hh <;> first|exact⟨_,hh,λ_ _ _ _ h=>h⟩|exact hh.elim
  case slice=>
    split at hh
    · split at hh
      · split at hh
        · split at hh
          ·exact hh.elim
          ·rename_i hc;simp only[hc];exact⟨_,hh.2.2.2.2,λ_ _ _ _ h=>⟨hh.1,hh.2.1,hh.2.2.1,hh.2.2.2.1,h⟩⟩
        ·exact hh.elim
      ·exact hh.elim
    · split at hh
      ·exact⟨_,hh.2.2.2,λ_ _ _ _ h=>⟨hh.1,hh.2.1,hh.2.2.1,h⟩⟩
      ·exact hh.elim
    ·exact hh.elim
  case fieldAddr=>split at hh <;> first|(split at hh <;> first|exact⟨_,hh,λ_ _ _ _ h=>h⟩|exact hh.elim)|exact hh.elim
  case field=>split at hh <;> first|(split at hh <;> first|exact⟨_,hh,λ_ _ _ _ h=>h⟩|exact hh.elim)|exact hh.elim
  case indexAddr=>
    split at hh
    · split at hh
      · split at hh
        ·unfold Ix at hh ⊢;split at hh <;> first|exact⟨_,hh.2.2,λ_ _ _ _ h=>⟨hh.1,hh.2.1,h⟩⟩|exact hh.elim
        ·exact hh.elim
      ·exact hh.elim
    · split at hh
      · split at hh
        ·unfold Ix at hh ⊢;split at hh <;> first|exact⟨_,hh.2.2,λ_ _ _ _ h=>⟨hh.1,hh.2.1,h⟩⟩|exact hh.elim
        ·exact hh.elim
      ·exact hh.elim
    ·exact hh.elim
  case index=>
    split at hh
    · split at hh
      ·obtain⟨b,h1,h2,h3⟩:=hh;exact⟨_,h3,λ_ _ _ _ h=>⟨b,h1,h2,h⟩⟩
      ·exact hh.elim
    all_goals grind[atg]
  case extract=>split at hh <;> first|(split at hh <;> first|exact⟨_,hh,λ_ _ _ _ h=>h⟩|exact hh.elim)|exact hh.elim
  case build=>grind[UJ]
  case call c =>
    cases hc:c.callee with
    |value f=>rw[hc]at hr;cases hr
    |invoke x m=>rw[hc]at hr;cases hr
    | builtin b=>
      rw[hc]at hr;simp only[hc]at hh ⊢;split at hh
      · unfold Bc at hh ⊢;cases b <;> first|(cases hr;done)|skip
        all_goals simp only at hh⊢
        · split at hh
          · split at hh
            ·exact⟨_,hh,λ_ _ _ _ h=>h⟩
            ·exact hh.elim
          ·exact hh.elim
        · split at hh
          · split at hh
            · rename_i hf
              simp only[hf,gB];unfold Dt at hh ⊢;split at hh <;> first|exact⟨_,hh,λ_ _ _ _ h=>h⟩|exact hh.elim
            ·exact hh.elim
          ·exact hh.elim
        · split at hh
          · split at hh
            ·exact⟨_,hh,λ_ _ _ _ h=>h⟩
            ·exact hh.elim
          ·exact hh.elim
        · split at hh
          · split at hh
            ·exact⟨_,hh,λ_ _ _ _ h=>h⟩
            ·exact hh.elim
          ·exact hh.elim
      ·exact hh.elim
def gd(ops:Array Oper)(o:Oper)(fr:Fr):Option Bool:=
  match o.guard with
  |none=>some true
  | some (j,b)=>match(ops[j]?).bind (·.dst)with
    |some d=>(match fr.getD d none with|some (.bool c)=>some (c==b)|some (.tuple _)=>some false|_=>none)
    |none=>none
def lu(P:Program)(ops:Array Oper)(o:Oper)(K:Fr->HP)(Kp:PK)(fr:Fr)(h:Hp):Prop:=
 match gd ops o fr with
 |some true=>iQ P o.op o.type (ev fr) (λv h'=>K (gW fr o.dst v) h') Kp h
 |some false=>K (gW fr o.dst (some undef)) h
 |none=>False
theorem aao{d:Nat}(h:fr.getD d none=some v):fr.set d (some v)=fr:=by
  apply qz;grind
theorem Kc(g:ops[i]? =some o)(K:Fr->HP)(a:PK)(fr:Fr)(h:Hp):vK P ops i K a fr h=lu P ops o K a fr h:=by
  unfold vK lu gd;simp only[g];cases k:o.guard with
  |none=>rfl
  | some e=>
    obtain⟨j,b⟩:=e;simp only;cases l:(ops[j]?).bind (·.dst)with
    |none=>rfl
    | some d=>
      simp only;cases f:fr.getD d none with
      |none=>rfl
      | some v=>
        cases v <;> try rfl
        rename_i c
        cases c <;> cases b <;> simp only[iD,(aao f)] <;> rfl
theorem J6{b:Array Oper}{K g:Fr->HP}{f:PK}(a:lu P b o K f fr h)(e:∀v c,K (gW fr o.dst v) c->g (gW fr o.dst v) c):lu P b o g f fr h:=by
 unfold lu at a ⊢;split at a
 ·exact aau a (λv c d=>e v c d) (λ_ _ d=>d)
 ·exact e _ h a
 omega
def looks(ops:Array Oper)(o:Oper):List Nat:=
 o.op.operands.toList.filterMap (λ|.tmp t=>some t|_=>none)++(match o.guard with|some (j,_)=>((ops[j]?).bind (·.dst)).toList|none=>[])
def UR(ops:Array Oper)(x y:Oper):Bool:=
 (match x.dst with|some d=>!(looks ops y).contains d&&!(y.dst==some d)|none=>true)&&(match y.dst with|some d=>!(looks ops x).contains d|none=>true)
theorem avO{v:Option Value}{x:Operand}(h:∀t,d=some t->x≠.tmp t):ev (gW fr d v) x=ev fr x:=by
  cases d with
  |none=>rfl
  | some t=>
    cases x with
    | tmp u=>
      have:u≠t:=bZ
      simp only[ev,gW];grind
    |_=>rfl
theorem SA{v:Option Value}(h:∀t,d=some t->(looks ops o).contains t=false):∀x∈o.op.operands,ev (gW fr d v) x=ev fr x:=by
 intro x b;refine avO λt c a=>?_;have:=h t c;subst a;simp only[looks,EO,nh,wI,not_or,MH]at this;exact this.1 ⟨.tmp t,dG,rfl⟩
theorem Sy{v:Option Value}(h:∀t,d=some t->(looks ops o).contains t=false):gd ops o (gW fr d v)=gd ops o fr:=by
  unfold gd;cases i:o.guard with
  |none=>rfl
  | some f=>
    obtain⟨j,b⟩:=f;simp only;cases k:(ops[j]?).bind (·.dst)with
    |none=>rfl
    | some u=>
      have c:∀t,d=some t->u≠t:=by
        intro t g a;have:=h t g;subst a;simp[looks,i,k]at this
      simp only;cases d with
      |none=>rfl
      | some t=>
        have:=c t rfl;simp only[gW,gV];grind
theorem aar{a:Option Nat}{v b:Option Value}(h:∀t,d=some t->a≠some t):gW (gW fr d v) a b=gW (gW fr a b) d v:=by
  cases d with
  |none=>rfl
  | some t=>
    cases a with
    |none=>rfl
    | some u=>
      have:t≠u:=bZ
      exact List.set_comm _ _ this
structure vu(ops:Array Oper)(x y:Oper):Prop where
 l:∀t,x.dst=some t->(looks ops y).contains t=false
 r:∀t,y.dst=some t->(looks ops x).contains t=false
 d:∀t,x.dst=some t->y.dst≠some t
theorem ay0{b:Array Oper}{x y:Oper}(h:UR b x y=true):vu b x y:=by
 unfold UR at h;refine⟨?_,?_,?_⟩
 all_goals grind
theorem Z7{K:Fr->HP}{q:PK}(n:uK P o.op=true)(f:lu P ops o K q fr h):∃v,K (gW fr o.dst v) h/\∀(b:Fr)(g:Hp)(j:Fr->HP)(d:PK),(∀x∈o.op.operands,ev b x=ev fr x)->gd ops o b=gd ops o fr->
   (∀t x a,o.op=.load t x->ev fr x=some (c9 a)->CZ h g a (zK P t))->j (gW b o.dst v) g->lu P ops o j d b g:=by
 unfold lu at f;split at f
 ·rename_i k
  obtain⟨v,p,g⟩:=aor n f;refine⟨v,p,λb i j d m e c l=>?_⟩;unfold lu;simp_all[P2]
 ·rename_i k
  refine⟨some undef,f,λb i j d m e c l=>?_⟩;unfold lu;simp[*]
 ·exact f.elim
def tg(P:Program)(x:Nat)(o:Oper)(fr:Fr)(ld:List (Nat×Addr×Nat)):List (Nat×Addr×Nat):=
 match o.op with
 |.load t y=>(match ev fr y with|some (.pointer (some a))=>(x,a,zK P t)::ld|_=>ld)
 |_=>ld
def keeps(ms:cU)(x:Nat)(h h':Hp):List (Nat×Addr×Nat)->Prop->Prop
 |[],X=>X
 |(j,a,n)::ld,X=>iD ((ms.getD x 0).testBit j) (keeps ms x h h' ld X)<|CZ h h' a n/\keeps ms x h h' ld X
inductive OT where
 |fin
 |op (x:Nat) (t:OT)
 |alt (a b:OT)
variable {t:OT}
def OT.l:List Nat->OT->OT
 |[],t=>t
 |x::l,t=>.op x (OT.l l t)
def OT.all:OT->List Nat
 |.fin=>[]
 |.op x t=>x::t.all
 |.alt a _=>a.all
def OT.qW:OT->List Nat
 |.fin=>[]
 |.op x _=>[x]
 |.alt a b=>a.qW++b.qW
def ku(P:Program)(ops:Array Oper)(ms:cU):List (Nat×Addr×Nat)->OT->(Fr->HP)->PK->Fr->HP
  |_,.fin,K,_,fr,h=>K fr h
  | ld,.op x l,K,Kp,fr,h=>match ops[x]? with
    |none=>False
    |some o=>iD (uK P o.op) (vK P ops x (λcY h'=>ku P ops ms (tg P x o fr ld) l K Kp cY h') Kp fr h)<|vK P ops x (λcY h'=>keeps ms x h h' ld (ku P ops ms ld l K Kp cY h')) Kp fr h
  |ld,.alt a b,K,Kp,fr,h=>ku P ops ms ld a K Kp fr h/\ku P ops ms ld b K Kp fr h
def rm(ms:cU)(j x:Nat):Bool:=(ms.getD j 0).testBit x
def jH(o:Oper):List Nat:=(o.after.toList.filter (Region.binds .any)).map (·.on)
def Gq(ops:Array Oper)(ms:cU):Bool:=
 (List.range ops.size).all λj=>match ops[j]? with
  |some o=>(jH o).all (λe=>decide (e<j))&&ms.getD j 0==(jH o).foldl (λs e=>s|||(2^e)|||ms.getD e 0) 0
  |none=>false
def kz(P:Program)(ops:Array Oper)(ms:cU):Bool->OT->Bool
  |br,.fin=>!br
  | br,.op x t=>(br||(match ops[x]? with
    |some ox=>t.all.all λj=>match ops[j]? with|some oj=>!(rm ms x j)&&(rm ms j x||(uK P ox.op&&UR ops ox oj))|none=>false
    |none=>false))&&!(t.all.contains x)&&kz P ops ms false t
  |br,.alt a b=>kz P ops ms true a&&kz P ops ms true b&&a.all.all (b.all.contains ·)&&b.all.all (a.all.contains ·)&&(br||a.all.all λj=>(a.qW++b.qW).contains j||((a.qW++b.qW).any λw=>rm ms j w&&a.all.contains w))
def QS(P:Program)(ops:Array Oper)(l:OT)(ms:cU):Bool:=
 P.follows .mixedOrders&&(ops.all λo=>!(o.op matches .defer _))&&Gq ops ms&&kz P ops ms false l&&(List.range ops.size).all (λi=>l.all.contains i)&&l.all.all λi=>decide (i<ops.size)
theorem KL{m:Nat}{g:Hp}{X:Prop}:∀{ld:List (Nat×Addr×Nat)},keeps N m h g ld X↔(∀p∈ld,(N.getD m 0).testBit p.1=false->CZ h g p.2.1 p.2.2)/\X:=by
  intro ld
  induction ld with
  |nil=>simp[keeps]
  | cons p ld b=>
    obtain⟨j,a,n⟩:=p;unfold keeps;cases c:(N.getD m 0).testBit j with
    | true=>
      grind
    | false=>
      simp only[b,mE,forall_eq_or_imp];grind
theorem KK{ld:List (Nat×Addr×Nat)}{p:Nat×Addr×Nat}:p∈tg P n o fr ld↔p∈ld\/∃t y a,o.op=.load t y/\ev fr y=some (c9 a)/\p=(n,a,zK P t):=by
 unfold tg;grind
theorem aox{K:Fr->HP}{s:PK}:∀{l:OT}{ld d:List (Nat×Addr×Nat)}{fr:Fr}{h:Hp},(∀p∈d,p∈ld)->ku P ops N ld l K s fr h->ku P ops N d l K s fr h:=by
  intro l
  induction l with
  |fin=>intro ld d fr h _ c;exact c
  |alt a b k j=>intro ld d fr h e c;exact⟨k e c.1,j e c.2⟩
  | op x l m=>
    intro ld d fr h e c;unfold ku at c ⊢;split at c
    ·omega
    · rename_i o q
      cases n:uK P o.op with
      | true=>
        rw[n]at c;simp only[iD]at c ⊢;rw[Kc q]at c ⊢;grind[J6,KK]
      | false=>
        rw[n]at c;simp only[iD]at c ⊢;rw[Kc q]at c ⊢;grind[J6,KL]
theorem Du{K:Fr->HP}{a:PK}(c:ops[n]? =some o){l:OT}{ld:List (Nat×Addr×Nat)}{fr:Fr}{h:Hp}:
  ku P ops N ld (.op n l) K a fr h=(iD (uK P o.op) (lu P ops o (λcY b=>ku P ops N (tg P n o fr ld) l K a cY b) a fr h)<|lu P ops o (λcY b=>keeps N n h b ld (ku P ops N ld l K a cY b)) a fr h):=by
 rw[ku];simp only[c,Kc c]
theorem aow{K:Fr->HP}{o:PK}{c f:Oper}(F:ops[n]? =some c)(Q:ops[i]? =some f)(k:uK P c.op=true)(b:vu ops c f)
    (I:rm N i n=false) {l:OT} {ld:List (Nat×Addr×Nat)} {fr:Fr} {h:Hp} (H:ku P ops N ld (.op n (.op i l)) K o fr h):ku P ops N ld (.op i (.op n l)) K o fr h:=by
  rw[Du F,k,lI]at H;obtain⟨v,g,tx⟩:=Z7 k H;have E:∀u:Option Value,∀z∈c.op.operands,ev (gW fr f.dst u) z=ev fr z:=λu=>SA b.r;have J:∀u:Option Value,gd ops c (gW fr f.dst u)=gd ops c fr:=λu=>Sy b.r;have m:∀u e,tg P n c (gW fr f.dst u) e=tg P n c fr e:=by
    intro u e;unfold tg;split
    · rename_i t y B
      rw[E u y (by rw[B];simp[Op.operands])]
    ·rfl
  rw[Du Q]at g ⊢;cases q:uK P f.op with
  | true=>
    rw[q]at g;simp only[iD]at g ⊢;obtain⟨u,S,L⟩:=Z7 q g;have j:∀z∈f.op.operands,ev fr z=ev (gW fr c.dst v) z:=λz M=>(SA b.l z M).symm;apply L fr h _ o j (Sy (v:=v) b.l).symm (λ_ _ _ _ _ _ _=>rfl);rw[Du F,k,lI];apply tx _ h _ o (E u) (J u) (λ_ _ _ _ _ _ _=>rfl);rw[<-aar b.d];refine aox (λp s=>?_) S;rw[m]at s;have D:∀e,tg P i f (gW fr c.dst v) e=tg P i f fr e:=by
      intro e;unfold tg;split
      · rename_i t y B
        rw[<-j y (by rw[B];simp[Op.operands])]
      ·rfl
    grind[KK]
  | false=>
    rw[q]at g;simp only[iD]at g ⊢;have j:∀z∈f.op.operands,ev (gW fr c.dst v) z=ev fr z:=SA b.l;have G:gd ops f (gW fr c.dst v)=gd ops f fr:=Sy b.l;have fin:∀u A,keeps N i h A (tg P n c fr ld) (ku P ops N (tg P n c fr ld) l K o (gW (gW fr c.dst v) f.dst u) A)->
        keeps N i h A ld (ku P ops N ld (.op n l) K o (gW fr f.dst u) A):=by
      intro u A O;obtain⟨w,C⟩:=KL.1 O;refine KL.2 ⟨λp s=>w p (KK.2 (.inl s)),?_⟩;rw[Du F,k,lI];apply tx _ A _ o (E u) (J u) (λt y a B R=>w (n,a,zK P t) (KK.2 (.inr ⟨t,y,a,B,R,rfl⟩)) I);rw[<-aar b.d,m];exact C
    unfold lu at g ⊢;rw[G]at g;split at g
    ·rw[P2 j]at g;exact aau g fin (λ_ _ s=>s)
    all_goals simp[*]
theorem abC{a:Array Oper}{B:Bool}(h:kz P a N B (.op n t)=true):kz P a N false t=true/\n∉t.all:=by
 simp only[kz,dw,tU,EO,wI]at h;simp[*]
theorem aqW{a:Array Oper}(h:kz P a N false (.op n t)=true):∃b,a[n]? =some b/\∀j∈t.all,rm N j n=false->uK P b.op=true/\∃d,a[j]? =some d/\vu a b d:=by
  simp only[kz,dw,Vx]at h;have e:=h.1.1;cases f:a[n]? with
  |none=>simp[f]at e
  | some b=>
    rw[f]at e;simp only[AB]at e;refine⟨b,rfl,λj i g=>?_⟩;have:=e j i;cases c:a[j]? with
    |none=>grind
    | some d=>
      simp_all[IE,ay0]
theorem aqV{a:Array Oper}{e:OT}(h:kz P a N false (.op n t)=true)(g:kz P a N false e=true)(b:∀j∈e.all,j∈t.all):kz P a N false (.op n e)=true:=by
  simp only[kz,dw]at h ⊢;grind
theorem abD{c:Array Oper}{B:Bool}{a b:OT}(h:kz P c N B (.alt a b)=true):kz P c N true a=true/\kz P c N true b=true/\(∀j,j∈a.all↔j∈b.all)/\
  (B=true\/∀j∈a.all,j∈a.qW\/j∈b.qW\/∃w∈a.all,rm N j w=true):=by
 simp only[kz,dw]at h;grind
theorem aoy{d:Array Oper}{K:Fr->HP}{u:PK}:∀(T:OT),kz P d N true T=true->i∈T.qW->
    ∃f,kz P d N false f=true/\(∀j,j∈f.all↔j∈T.all/\j≠i)/\∀{ld:List (Nat×Addr×Nat)}{fr:Fr}{h:Hp},ku P d N ld T K u fr h->ku P d N ld (.op i f) K u fr h:=by
  intro T
  induction T with
  |fin=>intro _ c;simp[OT.qW]at c
  | op x t y=>
    intro g c;simp only[OT.qW,ng]at c;subst c;obtain⟨p,o⟩:=abC g;refine⟨t,p,λj=>?_,λH=>H⟩;simp only[OT.all,mE];grind
  | alt a b s q=>
    intro g c;obtain⟨p,o,w,_⟩:=abD g;simp only[OT.qW,nh]at c;rcases c with c|c
    ·obtain⟨f,n,m,l⟩:=s p c;exact⟨f,n,m,λH=>l H.1⟩
    ·obtain⟨f,n,m,l⟩:=q o c;exact⟨f,n,λj=>by rw[m j,<-w j];exact Iff.rfl,λH=>l H.2⟩
theorem aoz{c:Array Oper}{K:Fr->HP}{B:PK}{O:Oper}(I:c[i]? =some O){T:OT}{ld:List (Nat×Addr×Nat)}{fr:Fr}{h:Hp}
    (d:kz P c N false T=true) (m:i∈T.all) (g:∀x∈T.all,rm N i x=false) (H:ku P c N ld T K B fr h):∃k,kz P c N false k=true/\(∀j,j∈k.all↔j∈T.all/\j≠i)/\ku P c N ld (.op i k) K B fr h:=by
  have key:∀(T:OT),kz P c N false T=true->i∈T.all->(∀x∈T.all,rm N i x=false)->
      ∃k,kz P c N false k=true/\(∀j,j∈k.all↔j∈T.all/\j≠i)/\∀{ld:List _}{fr:Fr}{h:Hp},ku P c N ld T K B fr h->ku P c N ld (.op i k) K B fr h:=by
    intro T
    induction T with
    |fin=>intro _ m _;simp[OT.all]at m
    | op x t Q=>
      intro d m g;obtain⟨o,E⟩:=abC d
      by_cases e:x=i
      ·subst e;refine⟨t,o,λj=>?_,λH=>H⟩;simp only[OT.all,mE];grind
      · obtain⟨ox,C,V⟩:=aqW d;have z:i∈t.all:=by
          simp only[OT.all,mE]at m;exact m.resolve_left (λh=>e h.symm)
        obtain⟨M,F,q,W⟩:=Q o z λy R=>g y (by simp[OT.all,R])
        have u:=g x (by simp[OT.all])
        obtain⟨s,X,p,G⟩:=V i z u;rw[I]at p;cases p;refine⟨.op x M,aqV d F λj l=>((q j).1 l).1,λj=>?_,λH=>?_⟩
        ·simp only[OT.all,mE];grind
        ·apply aow C I s G u;rw[Du C,s,lI]at H;rw[Du C,s,lI];exact J6 H λv h' U=>W U
    | alt a b Z Y=>
      intro d m g;obtain⟨f,n,L,D⟩:=abD d;have D:=D.resolve_left aA;have A:kz P c N true (.alt a b)=true:=by
        simp only[kz,dw,Bool.true_or,EP]at d ⊢;exact d.1
      apply aoy _ A;rcases D i m with h|h|⟨w,S,J⟩
      ·simp[OT.qW,h]
      ·simp[OT.qW,h]
      ·rw[g w S]at J;cases J
  grind
theorem aaw{d:Array Oper}{K:Fr->HP}{f:PK}:∀{T:OT}{ld:List (Nat×Addr×Nat)}{fr:Fr}{h:Hp},(∀j,j∉T.all)->ku P d N ld T K f fr h->K fr h:=by
 intro T
 induction T with
 |fin=>intro ld fr h _ H;exact H
 |op x t i=>intro ld fr h c H;exact absurd (by simp[OT.all]) (c x)
 |alt a b e g=>intro ld fr h c H;exact e c H.1
variable {r:Option Nat}
theorem au7(c:cU)(x:Nat):∀(l:cU)(s:Nat),(l.foldl (λs e=>s|||(2^e)|||c.getD e 0) s).testBit x=true->s.testBit x=true\/x∈l\/∃e∈l,(c.getD e 0).testBit x=true:=by
  intro l
  induction l with
  |nil=>simp
  | cons e l d=>
    grind
theorem Q3{a:Array Oper}(h:Gq a N=true){j:Nat}{o:Oper}(d:a[j]? =some o):(∀e∈jH o,e<j)/\∀x,rm N j x=true->x∈jH o\/∃e∈jH o,rm N e x=true:=by
 unfold Gq at h;have f:j<a.size:=bZ;have:=AB.1 h j (wF.2 f);rw[d]at this;simp only[dw,AB,dR,oh]at this;refine⟨this.1,λx c=>?_⟩;unfold rm at c;rw[this.2]at c;rcases au7 N x _ 0 c with b|b|b
 ·simp at b
 ·simp[*]
 ·exact .inr b
theorem ay2{b:Array Oper}(i:Gq b N=true){a:Array Bool}(k:∀j o,b[j]? =some o->a.getD j false=true->∀e∈jH o,a.getD e false=true)(h:a.size=b.size):∀(e x:Nat),a.getD e false=true->rm N e x=true->a.getD x false=true:=by
  intro e
  induction e using Nat.strongRecOn with
  | _ e l=>
    intro x hl p;have n:e<b.size:=by
      rw[<-h];apply yD;intro m;simp[m]at hl
    obtain⟨o,d⟩:∃o,b[e]? =some o:=⟨b[e],AD n⟩;grind[Q3]
theorem LK{a:Array Bool}:(o.after.all λe=>!Region.binds .any e||a.getD e.on false)=true↔∀e∈jH o,a.getD e false=true:=by
 simp only[afS,IE,jH];grind
theorem Lf{a:Array Bool}(b:i<a.size):a.getD i true=a.getD i false:=dG
theorem aoA{c:Array Oper}(b':E7 N c){R:cU}(L:Gq c R=true){K:Fr->HP}{Kp:PK}{Q:Exit->Act->World->Prop}:∀(f:Nat)(b:Array Bool)(U:cU)(l:OT)(ld:List (Nat×Addr×Nat))(fr:Fr)(a:Act)(w:World),
    eI fr a->kz P c R false l=true->(∀i,i∈l.all↔i<c.size/\b.getD i false=false)->(∀i,i∈l.all->i∈U)->b.size=c.size->(∀j o,c[j]? =some o->b.getD j false=true->∀e∈jH o,b.getD e false=true)->
    U.length<=f->ku P c R ld l K Kp fr (aU w)->(∀cY q n,eI cY q->Kd N a q->cG w n->K cY (aU n)->Q .normal q n)->
    (∀ch q n,Kd N a q->cG w n->Kp ch (aU n)->Q (.panic ch) q n)->wpAnyIn (Fc r) 0 P .any c Q f b a w:=by
  intro f;have d:∀(b:Array Bool)(i:Nat),b.size=c.size->(i∈Region.ready .any c b↔i<c.size/\b.getD i false=false/\∃o,c[i]? =some o/\∀e∈jH o,b.getD e false=true):=by
    intro b i g;unfold Region.ready;simp only[List.mem_filter,wF,dw,tU];constructor
    ·rintro⟨D,hl,s⟩;have t:=AD D;rw[t]at s;simp only[pP,pQ]at s;exact⟨D,by rw[<-Lf ag];exact hl,_,t,LK.1 s⟩
    · rintro⟨D,hl,o,t,s⟩;refine⟨D,by rw[Lf ag];exact hl,?_⟩
      rw[t];simp only[pP,pQ];exact LK.2 s
  have p:∀(b:Array Bool)(l:cU),b.size=c.size->(∀i,i∈l↔i<c.size/\b.getD i false=false)->Region.ready .any c b=[]->∀j,j∉l:=by
    intro b l g hl T;intro x hx
    · obtain⟨m,hm,d'⟩:=least _ ⟨x,hx⟩;obtain⟨Y,hf⟩:=(hl m).1 hm;have t:=AD Y;have:m∈Region.ready .any c b:=by
        refine(d b m g).2 ⟨Y,hf,_,t,λe V=>?_⟩;have n':=(Q3 L t).1 e V;have:=d' e n';rw[hl e]at this;cases i':b.getD e false with
        |true=>rfl
        |false=>exact absurd ⟨ag,i'⟩ this
      rw[T]at this;simp at this
  induction f with
  | zero=>
    intro b U l ld fr a w W hp hl hU g hc E H hN hP;have hn:∀j,j∉l.all:=by simp_all
    refine⟨?_,hN fr a w W (yo _ _) (kg w) (aaw hn H)⟩;simp_all[Vw]
  | succ f ih=>
    intro b U l ld fr a w W hp hl hU g hc E H hN hP;refine⟨λT=>?_,λi D=>?_⟩
    ·exact hN fr a w W (yo _ _) (kg w) (aaw (p b l.all g hl T) H)
    · obtain⟨y,m',oi,u,z⟩:=(d b i g).1 D;have Z:=(hl i).2 ⟨y,m'⟩;have e':∀x∈l.all,rm R i x=false:=by
        intro x hx;cases p':rm R i x with
        |false=>rfl
        | true=>
          exfalso
          have h':b.getD x false=true:=by
            rcases(Q3 L u).2 x p' with C|⟨e,V,C⟩
            ·exact z x C
            ·exact ay2 L hc g e x (z e V) C
          have:=((hl x).1 hx).2;rw[h']at this;cases this
      obtain⟨T',c',A,G⟩:=aoz u hp Z e' H;have j':∀j,j∈T'.all↔j<c.size/\(b.setIfInBounds i true).getD j false=false:=by
        intro j;rw[A j]
        by_cases B:j=i
        · subst B;constructor
          ·intro h;exact absurd rfl h.2
          ·rintro⟨_,X⟩;simp[g,y]at X
        ·have C:=hl j;rw[tR,MG ag,<-tR];rw[<-C];simp[B]
      have r':∀j,j∈T'.all->j∈U.erase i:=λj B=>by
        obtain⟨C,X⟩:=(A j).1 B;exact(List.mem_erase_of_ne X).2 (hU j C)
      have q':(U.erase i).length<=f:=by
        rw[afR (hU i Z)];omega
      have o':∀j o,c[j]? =some o->(b.setIfInBounds i true).getD j false=true->∀e∈jH o,(b.setIfInBounds i true).getD e false=true:=by
        intro j o t B e V;have mono:∀k,b.getD k false=true->(b.setIfInBounds i true).getD k false=true:=by
          intro k F
          by_cases k':k=i
          ·subst k';simp[Array.getD,g,y]
          ·rw[tR,MG ag,<-tR];exact F
        by_cases l':j=i
        ·subst l';rw[u]at t;cases t;exact mono e (z e V)
        ·rw[tR,MG ag,<-tR]at B;exact mono e (hc j o t B e V)
      have next:∀I cY q n,eI cY q->Kd N a q->cG w n->ku P c R I T' K Kp cY (aU n)->wpAnyIn (Fc r) 0 P .any c Q f (b.setIfInBounds i true) q n:=by
        intro I cY q n v s S F;refine ih _ (U.erase i) T' I cY q n v c' j' r' (by simpa using g) o' q' F ?_ ?_
        ·intro t' s' g' f' O J M;exact hN _ _ _ f' (O.trans s) (S.trans J) M
        ·intro ch s' g' O J M;exact hP _ _ _ (O.trans s) (S.trans J) M
      have step:wO r P c i (wpAnyIn (Fc r) 0 P .any c Q f (b.setIfInBounds i true)) Q a w:=by
        unfold ku at G;rw[u]at G;simp only at G;cases T:uK P oi.op with
        | true=>
          rw[T,lI]at G;exact FX b' W G (λcY q n v s S F=>next _ cY q n v s S F) hP
        | false=>
          rw[T,Ie]at G;exact FX b' W G (λcY q n v s S F=>next _ cY q n v s S (KL.1 F).2) hP
      unfold wO at step;unfold wpOpIn;omega
def Q6(ops:Array Oper):List Nat:=ops.toList.foldl (λl o=>l++[(jH o).foldl (λs e=>s|||(2^e)|||l.getD e 0) 0]) []
def QT(Bq:List (Nat×OT))(id:Nat)(ops:Array Oper):OT:=match Bq.find? (λx=>x.1==id)with
 |some x=>x.2
 |none=>OT.l (List.range ops.size) .fin
def kT(P:Program)(Bq:List (Nat×OT))(id:Nat)(ops:Array Oper)(K:Fr->HP)(Kp:PK)(fr:Fr)(h:Hp):Prop:=
 iD (QS P ops (QT Bq id ops) (Q6 ops)) (ku P ops (Q6 ops) [] (QT Bq id ops) K Kp fr h)<|False
theorem zZ(k:List (Nat×OT)):vr P r (kT P k):=by
  intro E id b K F fr a w Q v B d hN C;unfold kT at d;generalize QT k id b=l at d;generalize Q6 b=x at d
  cases g:QS P b l x with
  |false=>grind
  | true=>
    rw[g,lI]at d;simp only[QS,dw,AB,dR,EO]at g;obtain⟨⟨⟨⟨⟨z,_⟩,t⟩,y⟩,f⟩,c⟩:=g;refine wpIn_region_any z (aoA v t b.size _ _ l [] fr a {w with drawn:=w.drawn+1} B y ?_ (λi e=>wF.2 (c i e)) aA ?_ aA d ?_ ?_)
    · intro i;constructor
      ·intro e;simp[*]
      grind
    ·intro j o s A;have:j<b.size:=bZ;simp[this]at A
    ·intro cY q h u p m n;exact hN cY q h u p m n
    ·intro D q h p m n;exact C D q h p m n
end Go.Sh
