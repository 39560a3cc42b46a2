import Derived.Test.YtmjifnioaoamfaaGreatDoorBuildsShCode
import Derived.OrdersIn
set_option linter.all false
namespace Go.Sh
variable {e ty:TypeId} {e':Operand->Option Value} {o:Oper} {op:Op} {c:BinOp} {k b V v:Value} {a:Addr} {K:Value->Prop} {h:Hp} {i n:Nat} {m d:Option Nat} {kd:TypeDesc} {C:bg} {Kp:PK} {fr:Fr} {ops:Array Oper} {N:cV}
variable {P:Program}
theorem aez{e:Operand->Option Value}:∀{xs:List Operand},(∀x∈xs,e x=e' x)->iF e xs=iF e' xs:=by
 intro xs
 induction xs with
 |nil=>intro _;rfl
 |cons x xs a=>intro h;simp only[iF,h x aC,a (λy b=>h y (by simp[b]))]
theorem aeB{e:Operand->Option Value}:∀{xs:List (Nat×Operand)},(∀x∈xs.map (·.2),e x=e' x)->xy e xs=xy e' xs:=by
 intro xs
 induction xs with
 |nil=>intro _;rfl
 |cons x xs b=>intro h;obtain⟨i,x⟩:=x;simp only[xy,h x aC,b (λy a=>h y dH)]
theorem anl{e:Operand->Option Value}{o:Option Operand}(h:∀x∈o.toArray,e x=e' x):qi e o=qi e' o:=by
 cases o with
 |none=>rfl
 |some x=>simp only[qi,h x aC]
theorem Uh{e:Operand->Option Value}(h:∀x∈op.operands,e x=e' x):iL P op ty e=iL P op ty e':=by
  funext K Kp hp
  cases op <;> simp only[Op.operands,Array.mem_append,List.mem_toArray,kZ,lT,nS,yh,forall_eq_or_imp,forall_eq]at h <;> simp only[iL]
  case makeFunc fn first captured=>
    grind[aez]
  case slice t x lo hi mx=>
    have hx:=h x aC;grind[anl]
  case build t parts=>
    rw[aeB (e':=e') (λx hx=>bZ)]
  case buildSlice t n parts=>
    rw[aeB (e':=e') (λx hx=>bZ)]
  case call c=>
    have ha:iF e c.args.toList=iF e' c.args.toList:=aez λx hx=>h x (by simp[Call.operands];grind)
    cases hc:c.callee with
    |builtin b=>simp[*]
    | invoke r m=>
      have hf:=h r (by simp[Call.operands,hc])
      simp[*]
    | value f=>
      have hf:=h f (by simp[Call.operands,hc])
      simp[*]
  all_goals simp[*]
theorem acu{k:IntKind}{a b:Int}{e:Value->Prop}(h:vj c k a b K)(d:∀v,K v->e v):vj c k a b e:=by
 cases c <;> simp only[vj,Wr,Dv,Nn]at h⊢ <;> first|exact d _ h|simp[*]
theorem anv{a b:eU}{e:Value->Prop}(h:wX c a b K)(d:∀v,K v->e v):wX c a b e:=by
 cases c <;> simp only[wX]at h⊢ <;> grind
theorem anA{op:BinOp}{t:TypeId}{a:Value}{K':Value->Prop}(h:wY P op t a b K)(hk:∀v,K v->K' v):wY P op t a b K':=by
 unfold wY at h⊢
 repeat' split at h
 all_goals first|exact h.elim|exact acu h hk|exact anv h hk|exact hk _ h|(rename_i hc;rw[aI hc];exact acu h hk)|skip
 all_goals simp[*]
theorem awy{K a:Bool->Prop}(h:oP V K)(b:∀v,K v->a v):oP V a:=by
 unfold oP at h ⊢;grind
theorem anx{a:Value}{f:Value->Prop}(h:wZ P c e a b K)(d:∀v,K v->f v):wZ P c e a b f:=by
 unfold wZ at h ⊢;split at h
 ·split at h
  ·split at h <;> first|exact awy h λv g=>d _ g|omega
  omega
 ·exact anA h d
theorem ant{b:UnOp}{a:Value}{c:Value->Prop}(h:wW b a K)(d:∀v,K v->c v):wW b a c:=by
 unfold wW at h ⊢;split at h
 all_goals first|exact h.elim|(split at h <;> first|exact h.elim|exact d _ h)
theorem aoZ:∀{zs:bg}{i:Nat}{K b:List Value->Prop},xd h a i zs K->(∀v,K v->b v)->xd h a i zs b:=by
 intro zs
 induction zs with
 |nil=>intro i K b d c;exact c _ d
 |cons z zs g=>intro i K b d c;exact uR d λv f=>⟨f.1,g f.2 λvs e=>c _ e⟩
theorem aoX{i:Value->Prop}(b:mH P e h a K)(f:∀v,K v->i v):mH P e h a i:=by
  unfold mH at b ⊢;split at b
  · rename_i d z l k
    cases g:ud d with
    | true=>
      rw[g]at b;simp only[ic]at b ⊢;split at b
      · split at b
        ·rename_i j;simp only[j,fY];exact aoZ b λv c=>f _ c
        grind
      omega
    | false=>
      grind[uR]
  omega
theorem Zw:∀{vs:bg}{h:Hp}{i:Nat}{K c:Hp->Prop},iZ h a i vs K->(∀v,K v->c v)->iZ h a i vs c:=by
 intro vs
 induction vs with
 |nil=>intro h i K c b d;exact d _ b
 |cons v vs e=>intro h i K c b d;exact⟨b.1,b.2.1,b.2.2.1,e b.2.2.2 d⟩
theorem akB{K c:Hp->Prop}(b:uV P e h a v K)(f:∀v,K v->c v):uV P e h a v c:=by
 apply akA b;replace b:=aa2 b;split at b
 ·rename_i d;simp only[d,fY];exact Zw b f
 ·exact b.elim
theorem awO{el:TypeId}{z:Array Value}{m bytes:Nat}{s:Sl}{a:List Value->Prop}{K j:Sl->HP}(e:Ap h el z m bytes s n a K)(d:∀s h,K s h->j s h):
  Ap h el z m bytes s n a j:=by
 obtain⟨vs,l,e⟩:=e;refine⟨vs,l,?_⟩;grind[Zw]
theorem alB{c:List TypeId}{s:Value}{K e:de}(a:HL P c s v h K)(d:∀s h,K s h->e s h):HL P c s v h e:=by
 unfold HL at a ⊢;split at a
 ·split at a
  ·split at a
   all_goals grind[awO]
  omega
 omega
theorem alo{a:Value->Prop}(h:Dp V K)(b:∀v,K v->a v):Dp V a:=by
 unfold Dp at h ⊢;grind
theorem awH{a:Option Addr}{b:List Value->Prop}{K e:Hp->Prop}(f:AA h a b K)(c:∀h,K h->e h):AA h a b e:=by
 obtain⟨vs,g,d⟩:=f;refine⟨vs,g,?_⟩;grind[Zw]
theorem awE{K e:Hp->Prop}(a:yK h m kd k K)(d:∀h,K h->e h):yK h m kd k e:=by
 unfold yK at a ⊢;grind
theorem alz{b:Builtin}{f:List TypeId}{K i:de}(a:AO P b f C h K)(c:∀s h,K s h->i s h):AO P b f C h i:=by
 unfold AO at a ⊢;split at a
 ·split at a
  ·split at a
   ·rename_i k;simp only[k,fY];exact alo a λv j=>c _ _ j
   ·exact a.elim
  omega
 ·grind
 ·grind
 ·grind
 ·grind[alB]
 ·split at a
  ·unfold Uj at a ⊢;split at a
   ·split at a
    ·split at a
     all_goals grind[awH]
    omega
   omega
  omega
 ·split at a
  ·unfold Ui at a ⊢;split at a
   ·split at a
    ·split at a
     ·rename_i kd l
      cases e:rD kd with
      |true=>rw[e,lE]at a;rw[lE];exact awE a λg d=>c _ _ d
      |false=>grind
     omega
    omega
   omega
  omega
 omega
theorem abI{zs:bg}{c:Value->Prop}(h:gI zs v K)(b:∀v,K v->c v):gI zs v c:=by
 unfold gI at h ⊢;grind[TV,aaB]
theorem dW.mono{f:FuncId}{args:bg}{K k:de}{j:PK}(B:dW P f args h K Kp)(z:∀s h,K s h->k s h)(q:∀c h,Kp c h->j c h):
  dW P f args h k j:=by
 intro w b;refine(B w b).mono ?_;grind
theorem ahr{name:String}{K j:de}{i d:PK}(a:fo P v name C h K i)(f:∀s h,K s h->j s h)(e:∀c h,i c h->d c h):
    fo P v name C h j d:=by
  unfold fo at a ⊢;split at a
  · split at a
    ·grind[dW.mono]
    · split at a
      · rename_i g off l
        cases b:jT P g with
        |false=>grind
        | true=>
          rw[b,lE]at a;unfold Nj at a ⊢;rw[lE];grind[dW.mono]
      omega
  omega
theorem ahq{fv:Value}{K p:de}{o i:PK}(a:c8 P fv C h K o)(m:∀s h,K s h->p s h)(l:∀c h,o c h->i c h):
  c8 P fv C h p i:=by
 unfold c8 at a ⊢;split at a
 ·grind[dW.mono]
 ·intro w q;obtain⟨y,j,b,k,x,u⟩:=a w q;refine⟨y,j,b,k,x,u.mono ?_⟩;grind
 ·unfold Z0 at a ⊢;grind[ahr]
 omega
theorem alx{K f:de}{e a:PK}(b:HK P ty V C h K e)(j:∀s h,K s h->f s h)(i:∀c h,e c h->a c h):
  HK P ty V C h f a:=by
 unfold HK at b ⊢;split at b
 ·exact ahq b (λv l g=>abI g λk d=>j _ _ d) i
 omega
theorem aly{name:String}{K f:de}{e a:PK}(b:HJ P ty V name C h K e)(j:∀s h,K s h->f s h)(i:∀c h,e c h->a c h):
  HJ P ty V name C h f a:=by
 unfold HJ at b ⊢;split at b
 all_goals grind[ahr,abI]
theorem awf{c:Value->Prop}(a:yu v K)(b:∀v,K v->c v):yu v c:=by
 unfold yu at a ⊢;split at a
 ·unfold NN at a ⊢;grind
 all_goals first|exact b _ a|omega
theorem awe(a:yu v K):∃u,K u/\∀b:Value->Prop,b u->yu v b:=by
 unfold yu at a;split at a
 ·unfold NN at a;split at a
  ·exact⟨_,a,λ_ h=>h⟩
  ·exact a.elim
 all_goals first|exact⟨_,a,λ_ h=>h⟩|exact a.elim
theorem awh{c:Value->Prop}(a:su P v K)(b:∀v,K v->c v):su P v c:=by
 unfold su at a ⊢;split at a
 ·split at a
  ·unfold Ck at a ⊢;grind
  omega
 ·exact awf a b
theorem awg(a:su P v K):∃u,K u/\∀b:Value->Prop,b u->su P v b:=by
 unfold su at a;split at a
 ·split at a
  ·rename_i d
   unfold Ck at a;split at a
   ·exact⟨_,a.2,λ_ h=>by unfold su;simp only[d];exact⟨a.1,h⟩⟩
   ·exact a.elim
  ·exact a.elim
 ·rename_i c
  obtain⟨u,f,e⟩:=awe a;exact⟨u,f,λb h=>by
   unfold su;simp[*]⟩
theorem atV{s d:TypeId}{c:Value->Prop}(a:Bw P s d V h K)(b:∀v,K v->c v):Bw P s d V h c:=by
 unfold Bw at a ⊢;split at a
 ·split at a
  ·exact b _ a
  omega
 ·grind
 ·split at a
  ·obtain⟨bs,f,e⟩:=a;exact⟨bs,f,b _ e⟩
  omega
 omega
theorem TU{z:Value}(h:nF z K):∃v,K v/\∀a:Value->Prop,a v->nF z a:=by
 unfold nF at h ⊢;grind
theorem apV{cs:Array Value}{i:Int}{f:Value->Prop}(a:xh P e cs n i K)(h:∀v,K v->f v):xh P e cs n i f:=by
  unfold xh at a ⊢;split at a
  · rename_i d z _ _
    cases c:ud d with
    |true=>grind
    | false=>
      rw[c,Jk]at a;rw[Jk];split at a
      · rename_i g
        rw[aI g];grind[uR]
      grind
  omega
theorem apU{cs:Array Value}{i:Int}(a:xh P e cs n i K):∃v,K v/\∀c:Value->Prop,c v->xh P e cs n i c:=by
  unfold xh at a;split at a
  · rename_i d z g f
    cases b:ud d with
    |true=>grind
    | false=>
      rw[b,Jk]at a;split at a
      · rename_i j
        obtain⟨p,o,m⟩:=a;obtain⟨v,h,l⟩:=TU m;refine⟨v,h.2,λc k=>?_⟩;unfold xh;grind
      grind
  grind
theorem aoN{z:Value}{K g:Value->Bool->Prop}(e:DO h m kd k z K)(f:∀v b,K v b->g v b):DO h m kd k z g:=by
 unfold DO at e ⊢;split at e
 ·grind[uR]
 ·obtain⟨n,c,d,l,j,i⟩:=e;refine⟨n,c,d,l,j,uR i λv a=>?_⟩;grind
theorem avL{K d:Hp->Prop}(a:Up h m kd k v K)(e:∀h,K h->d h):Up h m kd k v d:=by
 unfold Up at a ⊢;grind
theorem abm{e:Operand->Option Value}{K K':Option Value->HP}{Kp':PK}(hh:iL P op ty e K Kp h)(hk:∀s h,K s h->K' s h)(hp:∀c h,Kp c h->Kp' c h):
  iL P op ty e K' Kp' h:=by
 cases op <;> simp only[iL]at hh⊢ <;> first|exact hh|exact hk _ _ hh|skip
 case pick=>
  split at hh
  ·split at hh <;> exact hk _ _ hh
  ·exact hh.elim
 case alloc=>split at hh <;> first|exact hk _ _ hh|omega
 case box=>split at hh <;> first|exact hk _ _ hh|omega
 case load=>grind[aoX]
 case store=>grind[akB]
 case nilCheck=>
  grind[awh]
 case binOp=>grind[anx]
 case unOp=>grind[ant]
 case convert=>grind[atV]
 case makeInterface=>split at hh <;> simp_all
 case makeFunc=>split at hh <;> first|exact hk _ _ hh|exact hh.elim
 case makeSlice=>
  split at hh
  ·split at hh
   ·exact⟨hh.1,hh.2.1,hh.2.2.1,hh.2.2.2.1,hk _ _ hh.2.2.2.2⟩
   omega
  omega
 case slice=>
  split at hh
  ·split at hh
   ·split at hh
    ·split at hh
     ·exact hh.elim
     ·rename_i hc;simp only[hc];exact⟨hh.1,hh.2.1,hh.2.2.1,hh.2.2.2.1,hk _ _ hh.2.2.2.2⟩
    omega
   omega
  ·split at hh
   ·exact⟨hh.1,hh.2.1,hh.2.2.1,hk _ _ hh.2.2.2⟩
   omega
  omega
 case fieldAddr=>split at hh <;> first|(split at hh <;> first|exact hk _ _ hh|exact hh.elim)|exact hh.elim
 case field=>split at hh <;> first|(split at hh <;> first|exact hk _ _ hh|exact hh.elim)|exact hh.elim
 case indexAddr=>
  split at hh
  ·split at hh
   ·split at hh
    ·unfold Ix at hh ⊢;split at hh <;> simp_all
    omega
   omega
  ·split at hh
   ·split at hh
    ·unfold Ix at hh ⊢;split at hh <;> simp_all
    omega
   omega
  omega
 case index=>
  split at hh
  ·split at hh
   ·obtain⟨b,h1,h2,h3⟩:=hh;exact⟨b,h1,h2,hk _ _ h3⟩
   omega
  all_goals grind[apV]
 case makeMap r=>cases r with|none=>exact hk _ _ hh|some x=>omega
 case lookup=>
  split at hh
  ·split at hh
   ·rename_i kd z _ _
    cases II:rD kd with
    |false=>rw[II]at hh;exact hh.elim
    |true=>rw[II,lE]at hh;rw[lE];grind[aoN]
   omega
  omega
 case mapUpdate=>
  split at hh
  ·split at hh
   ·rename_i kd _
    cases II:rD kd with
    |false=>rw[II]at hh;exact hh.elim
    |true=>rw[II,lE]at hh;rw[lE];exact avL hh λh' hv=>hk _ _ hv
   omega
  omega
 case typeAssert=>split at hh <;> first|(split at hh <;> first|exact hk _ _ hh|exact hh.elim)|exact hh.elim
 case extract=>split at hh <;> first|(split at hh <;> first|exact hk _ _ hh|exact hh.elim)|exact hh.elim
 case build=>grind[Yh]
 case buildSlice=>
  split at hh
  ·obtain⟨cs,el,_,h,hK⟩:=af4 hh;exact hK _ (hk _ _ h)
  omega
 case panic=>split at hh <;> first|exact hp _ _ hh|exact hh.elim
 case call=>
  split at hh
  all_goals grind[alz,alx,aly]
def uc(P:Program):Op->Bool
 |.move _|.assign _|.pick ..|.load ..|.nilCheck _|.binOp ..|.unOp ..|.makeInterface ..|.makeFunc ..|.slice ..|.fieldAddr ..|.field ..|.indexAddr ..|.index ..|.extract ..|.build ..=>true
 |.convert s _ _=>match P.underlying s with|some (.int _)=>true|_=>false
 |.call c=>match c.callee with|.builtin .len|.builtin .cap|.builtin .min|.builtin .max=>true|_=>false
 |_=>false
def w9(P:Program)(t:TypeId):Nat:=max 1 ((jm P t).getD 0)
def Cp(h h2:Hp)(a:Addr)(n:Nat):Prop:=∀i,i<n->cell h2 (a.add i)=cell h (a.add i)
theorem acs{k:IntKind}{a b:Int}(h:vj c k a b K):∃v,K v/\∀d,d v->vj c k a b d:=by
 cases c <;> simp only[vj,Wr,Dv,Nn]at h⊢ <;> grind
theorem anu{a b:eU}(h:wX c a b K):∃v,K v/\∀d,d v->wX c a b d:=by
 cases c <;> simp only[wX]at h⊢ <;> grind
theorem ans{b:UnOp}{a:Value}(h:wW b a K):∃v,K v/\∀c,c v->wW b a c:=by
 unfold wW at h ⊢;split at h
 all_goals first|exact h.elim|(split at h <;> first|exact h.elim|exact⟨_,h,λ_ h=>h⟩)
theorem anz{op:BinOp}{t:TypeId}{a:Value}(h:wY P op t a b K):∃v,K v/\∀K',K' v->wY P op t a b K':=by
 unfold wY at h⊢
 repeat' split at h
 all_goals first|exact h.elim|exact acs h|exact anu h|exact⟨_,h,λ_ h=>h⟩|(rename_i hc;simp only[aI hc];exact acs h)|skip
 all_goals grind
theorem awx{K:Bool->Prop}(h:oP v K):∃b,K b/\∀a:Bool->Prop,a b->oP v a:=by
 unfold oP at h ⊢;grind
theorem anw{f:BinOp}{a:Value}(h:wZ P f e a b K):∃v,K v/\∀g,g v->wZ P f e a b g:=by
 unfold wZ at h ⊢;split at h
 all_goals grind[awx,anz]
theorem aoY{g:Hp}:∀{zs:bg}{i:Nat}{K:List Value->Prop},xd h a i zs K->(∀j,j<zs.length->cell g (a.add (i+j))=cell h (a.add (i+j)))->xd g a i zs K:=by
  intro zs
  induction zs with
  |nil=>intro i K b _;exact b
  | cons z zs e=>
    intro i K b d;exact uR b λv c=>⟨(d 0 aC).trans c.1,e c.2 λj f=>by have:=d (j+1) cy;grind⟩
theorem ao0:∀{zs:bg}{i:Nat}{K:List Value->Prop},xd h a i zs K->∃vs,K vs/\∀c:List Value->Prop,c vs->xd h a i zs c:=by
  intro zs
  induction zs with
  |nil=>intro i K b;exact⟨[],b,λ_ h=>h⟩
  | cons z zs d=>
    intro i K b;obtain⟨v,⟨j,e⟩,k⟩:=TU b;obtain⟨vs,g,f⟩:=d e;exact⟨v::vs,g,λc l=>k _ ⟨j,f _ l⟩⟩
theorem adg{h2:Hp}(b:mH P e h a K)(k:Cp h h2 a (w9 P e)):∃v,K v/\∀c:Value->Prop,c v->mH P e h2 a c:=by
  unfold mH at b ⊢;split at b
  · rename_i d z p o
    cases l:ud d with
    | true=>
      rw[l]at b;simp only[ic]at b ⊢;split at b
      · split at b
        · rename_i zs i
          simp only[i,fY];obtain⟨vs,f,h2⟩:=ao0 b;refine⟨_,f,λc g=>aoY (h2 _ g) λj m=>?_⟩;rw[bX];exact k j (by simp[w9,i];grind)
        grind
      grind
    | false=>
      rw[l]at b;simp only[ic]at b ⊢;obtain⟨v,⟨f,h2⟩,n⟩:=TU b;exact⟨v,h2,λc g=>n _ ⟨(k 0 (by simp[w9];omega)).trans f,g⟩⟩
  grind
theorem alm{e:Operand->Option Value}{K:Option Value->HP}(hr:uc P op=true)(hh:iL P op ty e K Kp h):
    ∃v,K v h/\∀(h2:Hp)(K2:Option Value->HP)(Kp2:PK),(∀t x a,op=.load t x->e x=some (cU a)->Cp h h2 a (w9 P t))->K2 v h2->iL P op ty e K2 Kp2 h2:=by
  cases op <;> simp only[uc]at hr <;> first|(cases hr;done)|skip
  all_goals simp only[iL]at hh⊢
  case move=>exact⟨_,hh,λ_ _ _ _ h=>h⟩
  case assign=>exact⟨_,hh,λ_ _ _ _ h=>h⟩
  case pick=>
    split at hh
    ·split at hh <;> exact⟨_,hh,λ_ _ _ _ h=>h⟩
    ·exact hh.elim
  case load t x=>
    split at hh
    · rename_i a ha
      obtain⟨v,hk⟩:∃v,K (some v) h/\∀h2,Cp h h2 a (w9 P t)->∀K':Value->Prop,K' v->mH P t h2 a K':=by
        have key:=adg hh (λ_ _=>rfl);obtain⟨v,h1,h2⟩:=key;refine⟨v,h1,λh3 Xg K' hK'=>?_⟩;obtain⟨u,hu,hb⟩:=adg (h2 (λx=>x=v) rfl) Xg;simp[*]
      exact⟨some v,hk.1,λh2 K2 Kp2 Xg hK2=>hk.2 h2 (Xg t x a rfl ha) _ hK2⟩
    ·exact hh.elim
  case nilCheck=>
    grind[awg]
  case binOp=>
    grind[anw]
  case unOp=>
    grind[ans]
  case convert s d x=>
    split at hr
    · rename_i k hs
      split at hh
      · unfold Bw at hh ⊢;rw[hs]at hh ⊢;split at hh
        · split at hh
          ·exact⟨_,hh,λ_ _ _ _ h=>h⟩
          ·exact hh.elim
        all_goals simp_all
      ·exact hh.elim
    ·cases hr
  case makeInterface=>split at hh <;> first|exact⟨_,hh,λ_ _ _ _ h=>h⟩|exact hh.elim
  case makeFunc=>split at hh <;> first|exact⟨_,hh,λ_ _ _ _ h=>h⟩|exact hh.elim
  case slice=>
    split at hh
    · split at hh
      · split at hh
        · split at hh
          ·exact hh.elim
          ·rename_i hc;simp only[hc];exact⟨_,hh.2.2.2.2,λ_ _ _ _ h=>⟨hh.1,hh.2.1,hh.2.2.1,hh.2.2.2.1,h⟩⟩
        ·exact hh.elim
      ·exact hh.elim
    · split at hh
      ·exact⟨_,hh.2.2.2,λ_ _ _ _ h=>⟨hh.1,hh.2.1,hh.2.2.1,h⟩⟩
      ·exact hh.elim
    ·exact hh.elim
  case fieldAddr=>split at hh <;> first|(split at hh <;> first|exact⟨_,hh,λ_ _ _ _ h=>h⟩|exact hh.elim)|exact hh.elim
  case field=>split at hh <;> first|(split at hh <;> first|exact⟨_,hh,λ_ _ _ _ h=>h⟩|exact hh.elim)|exact hh.elim
  case indexAddr=>
    split at hh
    · split at hh
      · split at hh
        ·unfold Ix at hh ⊢;split at hh <;> first|exact⟨_,hh.2.2,λ_ _ _ _ h=>⟨hh.1,hh.2.1,h⟩⟩|exact hh.elim
        ·exact hh.elim
      ·exact hh.elim
    · split at hh
      · split at hh
        ·unfold Ix at hh ⊢;split at hh <;> first|exact⟨_,hh.2.2,λ_ _ _ _ h=>⟨hh.1,hh.2.1,h⟩⟩|exact hh.elim
        ·exact hh.elim
      ·exact hh.elim
    ·exact hh.elim
  case index=>
    split at hh
    · split at hh
      ·obtain⟨b,h1,h2,h3⟩:=hh;exact⟨_,h3,λ_ _ _ _ h=>⟨b,h1,h2,h⟩⟩
      ·exact hh.elim
    all_goals grind[apU]
  case extract=>split at hh <;> first|(split at hh <;> first|exact⟨_,hh,λ_ _ _ _ h=>h⟩|exact hh.elim)|exact hh.elim
  case build=>grind[Yh]
  case call c =>
    cases hc:c.callee with
    |value f=>rw[hc]at hr;cases hr
    |invoke x m=>rw[hc]at hr;cases hr
    | builtin b=>
      rw[hc]at hr;simp only[hc]at hh ⊢;split at hh
      · unfold AO at hh ⊢;cases b <;> first|(cases hr;done)|skip
        all_goals simp only at hh⊢
        · split at hh
          · split at hh
            ·exact⟨_,hh,λ_ _ _ _ h=>h⟩
            ·exact hh.elim
          ·exact hh.elim
        · split at hh
          · split at hh
            · rename_i hf
              simp only[hf,fY];unfold Dp at hh ⊢;split at hh <;> first|exact⟨_,hh,λ_ _ _ _ h=>h⟩|exact hh.elim
            ·exact hh.elim
          ·exact hh.elim
        · split at hh
          · split at hh
            ·exact⟨_,hh,λ_ _ _ _ h=>h⟩
            ·exact hh.elim
          ·exact hh.elim
        · split at hh
          · split at hh
            ·exact⟨_,hh,λ_ _ _ _ h=>h⟩
            ·exact hh.elim
          ·exact hh.elim
      ·exact hh.elim
def gd(ops:Array Oper)(o:Oper)(fr:Fr):Option Bool:=
  match o.guard with
  |none=>some true
  | some (j,b)=>match(ops[j]?).bind (·.dst)with
    |some d=>(match fr.getD d none with|some (.bool c)=>some (c==b)|some (.tuple _)=>some false|_=>none)
    |none=>none
def lu(P:Program)(ops:Array Oper)(o:Oper)(K:Fr->HP)(Kp:PK)(fr:Fr)(h:Hp):Prop:=
 match gd ops o fr with
 |some true=>iL P o.op o.type (ev fr) (λv h'=>K (gO fr o.dst v) h') Kp h
 |some false=>K (gO fr o.dst (some undef)) h
 |none=>False
theorem abg{d:Nat}(h:fr.getD d none=some v):fr.set d (some v)=fr:=by
  apply si;grind
theorem M9(g:ops[i]? =some o)(K:Fr->HP)(a:PK)(fr:Fr)(h:Hp):uY P ops i K a fr h=lu P ops o K a fr h:=by
  unfold uY lu gd;simp only[g];cases k:o.guard with
  |none=>rfl
  | some e=>
    obtain⟨j,b⟩:=e;simp only;cases l:(ops[j]?).bind (·.dst)with
    |none=>rfl
    | some d=>
      simp only;cases f:fr.getD d none with
      |none=>rfl
      | some v=>
        cases v <;> try rfl
        rename_i c
        cases c <;> cases b <;> simp only[If,ic,(abg f)] <;> rfl
theorem MX{b:Array Oper}{K g:Fr->HP}{f:PK}(a:lu P b o K f fr h)(e:∀v c,K (gO fr o.dst v) c->g (gO fr o.dst v) c):lu P b o g f fr h:=by
 unfold lu at a ⊢;split at a
 ·exact abm a (λv c d=>e v c d) (λ_ _ d=>d)
 ·exact e (some undef) h a
 omega
def looks(ops:Array Oper)(o:Oper):List Nat:=
 o.op.operands.toList.filterMap (λ|.tmp t=>some t|_=>none)++(match o.guard with|some (j,_)=>((ops[j]?).bind (·.dst)).toList|none=>[])
def Yo(ops:Array Oper)(x y:Oper):Bool:=
 (match x.dst with|some d=>!(looks ops y).contains d&&!(y.dst==some d)|none=>true)&&(match y.dst with|some d=>!(looks ops x).contains d|none=>true)
theorem ash{v:Option Value}{x:Operand}(h:∀t,d=some t->x≠.tmp t):ev (gO fr d v) x=ev fr x:=by
  cases d with
  |none=>rfl
  | some t=>
    cases x with
    | tmp u=>
      have:u≠t:=bZ
      simp only[ev,gO,gB];grind
    |_=>rfl
theorem WC{v:Option Value}(h:∀t,d=some t->(looks ops o).contains t=false):∀x∈o.op.operands,ev (gO fr d v) x=ev fr x:=by
 intro x b;refine ash λt c a=>?_;have:=h t c;subst a;simp only[looks,zT,ni,yp,not_or,Pw]at this;exact this.1 ⟨.tmp t,dH,rfl⟩
theorem WB{v:Option Value}(h:∀t,d=some t->(looks ops o).contains t=false):gd ops o (gO fr d v)=gd ops o fr:=by
  unfold gd;cases i:o.guard with
  |none=>rfl
  | some f=>
    obtain⟨j,b⟩:=f;simp only;cases k:(ops[j]?).bind (·.dst)with
    |none=>rfl
    | some u=>
      have c:∀t,d=some t->u≠t:=by
        intro t g a;have:=h t g;subst a;simp[looks,i,k]at this
      simp only;cases d with
      |none=>rfl
      | some t=>
        have:=c t rfl;simp only[gO,gB];grind
theorem abj{a:Option Nat}{v b:Option Value}(h:∀t,d=some t->a≠some t):gO (gO fr d v) a b=gO (gO fr a b) d v:=by
  cases d with
  |none=>rfl
  | some t=>
    cases a with
    |none=>rfl
    | some u=>
      have:t≠u:=bZ
      exact List.set_comm _ _ this
structure uO(ops:Array Oper)(x y:Oper):Prop where
 l:∀t,x.dst=some t->(looks ops y).contains t=false
 r:∀t,y.dst=some t->(looks ops x).contains t=false
 d:∀t,x.dst=some t->y.dst≠some t
theorem avr{b:Array Oper}{x y:Oper}(h:Yo b x y=true):uO b x y:=by
 unfold Yo at h;refine⟨?_,?_,?_⟩
 all_goals grind
theorem aaZ{K:Fr->HP}{q:PK}(n:uc P o.op=true)(f:lu P ops o K q fr h):
  ∃v,K (gO fr o.dst v) h/\∀(b:Fr)(g:Hp)(j:Fr->HP)(d:PK),(∀x∈o.op.operands,ev b x=ev fr x)->gd ops o b=gd ops o fr->
   (∀t x a,o.op=.load t x->ev fr x=some (cU a)->Cp h g a (w9 P t))->j (gO b o.dst v) g->lu P ops o j d b g:=by
 unfold lu at f;split at f
 ·rename_i k
  obtain⟨v,p,g⟩:=alm n f;refine⟨v,p,λb i j d m e c l=>?_⟩;unfold lu;simp_all[Uh]
 ·rename_i k
  refine⟨some undef,f,λb i j d m e c l=>?_⟩;unfold lu;simp[*]
 ·exact f.elim
def sK(P:Program)(x:Nat)(o:Oper)(fr:Fr)(ld:List (Nat×Addr×Nat)):List (Nat×Addr×Nat):=
 match o.op with
 |.load t y=>(match ev fr y with|some (.pointer (some a))=>(x,a,w9 P t)::ld|_=>ld)
 |_=>ld
def keeps(ms:cV)(x:Nat)(h h':Hp):List (Nat×Addr×Nat)->Prop->Prop
 |[],X=>X
 |(j,a,n)::ld,X=>ic ((ms.getD x 0).testBit j) (keeps ms x h h' ld X)<|Cp h h' a n/\keeps ms x h h' ld X
inductive OT where
 |fin
 |op (x:Nat) (t:OT)
 |alt (a b:OT)
variable {t:OT}
def OT.l:List Nat->OT->OT
 |[],t=>t
 |x::l,t=>.op x (OT.l l t)
def OT.all:OT->List Nat
 |.fin=>[]
 |.op x t=>x::t.all
 |.alt a _=>a.all
def OT.qH:OT->List Nat
 |.fin=>[]
 |.op x _=>[x]
 |.alt a b=>a.qH++b.qH
def ki(P:Program)(ops:Array Oper)(ms:cV):List (Nat×Addr×Nat)->OT->(Fr->HP)->PK->Fr->HP
  |_,.fin,K,_,fr,h=>K fr h
  | ld,.op x l,K,Kp,fr,h=>match ops[x]? with
    |none=>False
    |some o=>ic (uc P o.op) (uY P ops x (λcZ h'=>ki P ops ms (sK P x o fr ld) l K Kp cZ h') Kp fr h)<|uY P ops x (λcZ h'=>keeps ms x h h' ld (ki P ops ms ld l K Kp cZ h')) Kp fr h
  |ld,.alt a b,K,Kp,fr,h=>ki P ops ms ld a K Kp fr h/\ki P ops ms ld b K Kp fr h
def qN(ms:cV)(j x:Nat):Bool:=(ms.getD j 0).testBit x
def jE(o:Oper):List Nat:=(o.after.toList.filter (Region.binds .any)).map (·.on)
def Ic(ops:Array Oper)(ms:cV):Bool:=
 (List.range ops.size).all λj=>match ops[j]? with
  |some o=>(jE o).all (λe=>decide (e<j))&&ms.getD j 0==(jE o).foldl (λs e=>s|||(2^e)|||ms.getD e 0) 0
  |none=>false
def kj(P:Program)(ops:Array Oper)(ms:cV):Bool->OT->Bool
  |br,.fin=>!br
  | br,.op x t=>(br||(match ops[x]? with
    |some ox=>t.all.all λj=>match ops[j]? with|some oj=>!(qN ms x j)&&(qN ms j x||(uc P ox.op&&Yo ops ox oj))|none=>false
    |none=>false))&&!(t.all.contains x)&&kj P ops ms false t
  |br,.alt a b=>kj P ops ms true a&&kj P ops ms true b&&a.all.all (b.all.contains ·)&&b.all.all (a.all.contains ·)&&(br||a.all.all λj=>(a.qH++b.qH).contains j||((a.qH++b.qH).any λw=>qN ms j w&&a.all.contains w))
def UX(P:Program)(ops:Array Oper)(l:OT)(ms:cV):Bool:=
 P.follows .mixedOrders&&(ops.all λo=>!(o.op matches .defer _))&&Ic ops ms&&kj P ops ms false l&&(List.range ops.size).all (λi=>l.all.contains i)&&l.all.all λi=>decide (i<ops.size)
theorem NJ{m:Nat}{g:Hp}{X:Prop}:∀{ld:List (Nat×Addr×Nat)},keeps N m h g ld X↔(∀p∈ld,(N.getD m 0).testBit p.1=false->Cp h g p.2.1 p.2.2)/\X:=by
  intro ld
  induction ld with
  |nil=>simp[keeps]
  | cons p ld b=>
    obtain⟨j,a,n⟩:=p;unfold keeps;cases c:(N.getD m 0).testBit j with
    | true=>
      grind
    | false=>
      simp only[ic,b,lT,forall_eq_or_imp,c];grind
theorem NI{ld:List (Nat×Addr×Nat)}{p:Nat×Addr×Nat}:p∈sK P n o fr ld↔p∈ld\/∃t y a,o.op=.load t y/\ev fr y=some (cU a)/\p=(n,a,w9 P t):=by
 unfold sK;grind
theorem als{K:Fr->HP}{s:PK}:∀{l:OT}{ld d:List (Nat×Addr×Nat)}{fr:Fr}{h:Hp},(∀p∈d,p∈ld)->ki P ops N ld l K s fr h->ki P ops N d l K s fr h:=by
  intro l
  induction l with
  |fin=>intro ld d fr h _ c;exact c
  |alt a b k j=>intro ld d fr h e c;exact⟨k e c.1,j e c.2⟩
  | op x l m=>
    intro ld d fr h e c;unfold ki at c ⊢;split at c
    ·omega
    · rename_i o q
      cases n:uc P o.op with
      | true=>
        rw[n]at c;simp only[ic]at c ⊢;rw[M9 q]at c ⊢;grind[MX,NI]
      | false=>
        rw[n]at c;simp only[ic]at c ⊢;rw[M9 q]at c ⊢;grind[MX,NJ]
theorem Dq{K:Fr->HP}{a:PK}(c:ops[n]? =some o){l:OT}{ld:List (Nat×Addr×Nat)}{fr:Fr}{h:Hp}:
  ki P ops N ld (.op n l) K a fr h=(ic (uc P o.op) (lu P ops o (λcZ b=>ki P ops N (sK P n o fr ld) l K a cZ b) a fr h)<|lu P ops o (λcZ b=>keeps N n h b ld (ki P ops N ld l K a cZ b)) a fr h):=by
 rw[ki];simp only[c,M9 c]
theorem alr{K:Fr->HP}{o:PK}{c f:Oper}(F:ops[n]? =some c)(Q:ops[i]? =some f)(k:uc P c.op=true)(b:uO ops c f)
    (I:qN N i n=false) {l:OT} {ld:List (Nat×Addr×Nat)} {fr:Fr} {h:Hp} (H:ki P ops N ld (.op n (.op i l)) K o fr h):ki P ops N ld (.op i (.op n l)) K o fr h:=by
  rw[Dq F,k,lE]at H;obtain⟨v,g,tx⟩:=aaZ k H;have E:∀u:Option Value,∀z∈c.op.operands,ev (gO fr f.dst u) z=ev fr z:=λu=>WC b.r;have J:∀u:Option Value,gd ops c (gO fr f.dst u)=gd ops c fr:=λu=>WB b.r;have m:∀u e,sK P n c (gO fr f.dst u) e=sK P n c fr e:=by
    intro u e;unfold sK;split
    · rename_i t y B
      rw[E u y (by rw[B];simp[Op.operands])]
    ·rfl
  rw[Dq Q]at g ⊢;cases q:uc P f.op with
  | true=>
    rw[q]at g;simp only[ic]at g ⊢;obtain⟨u,S,L⟩:=aaZ q g;have j:∀z∈f.op.operands,ev fr z=ev (gO fr c.dst v) z:=λz M=>(WC b.l z M).symm;apply L fr h _ o j (WB (v:=v) b.l).symm (λ_ _ _ _ _ _ _=>rfl);rw[Dq F,k,lE];apply tx _ h _ o (E u) (J u) (λ_ _ _ _ _ _ _=>rfl);rw[<-abj b.d];refine als (λp s=>?_) S;rw[m]at s;have D:∀e,sK P i f (gO fr c.dst v) e=sK P i f fr e:=by
      intro e;unfold sK;split
      · rename_i t y B
        rw[<-j y (by rw[B];simp[Op.operands])]
      ·rfl
    grind[NI]
  | false=>
    rw[q]at g;simp only[ic]at g ⊢;have j:∀z∈f.op.operands,ev (gO fr c.dst v) z=ev fr z:=WC b.l;have G:gd ops f (gO fr c.dst v)=gd ops f fr:=WB b.l;have fin:∀u A,keeps N i h A (sK P n c fr ld) (ki P ops N (sK P n c fr ld) l K o (gO (gO fr c.dst v) f.dst u) A)->
        keeps N i h A ld (ki P ops N ld (.op n l) K o (gO fr f.dst u) A):=by
      intro u A O;obtain⟨w,C⟩:=NJ.1 O;refine NJ.2 ⟨λp s=>w p (NI.2 (.inl s)),?_⟩;rw[Dq F,k,lE];apply tx _ A _ o (E u) (J u) (λt y a B R=>w (n,a,w9 P t) (NI.2 (.inr ⟨t,y,a,B,R,rfl⟩)) I);rw[<-abj b.d,m];exact C
    unfold lu at g ⊢;rw[G]at g;split at g
    ·rw[Uh j]at g;exact abm g fin (λ_ _ s=>s)
    all_goals simp[*]
theorem acw{a:Array Oper}{B:Bool}(h:kj P a N B (.op n t)=true):kj P a N false t=true/\n∉t.all:=by
 simp only[kj,dr,qR,zT,yp]at h;simp[*]
theorem anE{a:Array Oper}(h:kj P a N false (.op n t)=true):∃b,a[n]? =some b/\∀j∈t.all,qN N j n=false->uc P b.op=true/\∃d,a[j]? =some d/\uO a b d:=by
  simp only[kj,dr,Pv]at h;have e:=h.1.1;cases f:a[n]? with
  |none=>simp[f]at e
  | some b=>
    rw[f]at e;simp only[yg]at e;refine⟨b,rfl,λj i g=>?_⟩;have:=e j i;cases c:a[j]? with
    |none=>grind
    | some d=>
      simp_all[dr,EK,lH,false_or,avr]
theorem anD{a:Array Oper}{e:OT}(h:kj P a N false (.op n t)=true)(g:kj P a N false e=true)(b:∀j∈e.all,j∈t.all):kj P a N false (.op n e)=true:=by
  simp only[kj,dr,Pv,qR,zT,yp]at h ⊢;grind
theorem acy{c:Array Oper}{B:Bool}{a b:OT}(h:kj P c N B (.alt a b)=true):kj P c N true a=true/\kj P c N true b=true/\(∀j,j∈a.all↔j∈b.all)/\
  (B=true\/∀j∈a.all,j∈a.qH\/j∈b.qH\/∃w∈a.all,qN N j w=true):=by
 simp only[kj,dr,yg,zT,dP,EK,List.any_eq_true,ni]at h;grind
theorem alu{d:Array Oper}{K:Fr->HP}{u:PK}:∀(T:OT),kj P d N true T=true->i∈T.qH->
    ∃f,kj P d N false f=true/\(∀j,j∈f.all↔j∈T.all/\j≠i)/\∀{ld:List (Nat×Addr×Nat)}{fr:Fr}{h:Hp},ki P d N ld T K u fr h->ki P d N ld (.op i f) K u fr h:=by
  intro T
  induction T with
  |fin=>intro _ c;simp[OT.qH]at c
  | op x t y=>
    intro g c;simp only[OT.qH,mR]at c;subst c;obtain⟨p,o⟩:=acw g;refine⟨t,p,λj=>?_,λH=>H⟩;simp only[OT.all,lT];grind
  | alt a b s q=>
    intro g c;obtain⟨p,o,w,_⟩:=acy g;simp only[OT.qH,ni]at c;rcases c with c|c
    ·obtain⟨f,n,m,l⟩:=s p c;exact⟨f,n,m,λH=>l H.1⟩
    ·obtain⟨f,n,m,l⟩:=q o c;exact⟨f,n,λj=>by rw[m j,<-w j];exact Iff.rfl,λH=>l H.2⟩
theorem alv{c:Array Oper}{K:Fr->HP}{B:PK}{O:Oper}(I:c[i]? =some O){T:OT}{ld:List (Nat×Addr×Nat)}{fr:Fr}{h:Hp}
    (d:kj P c N false T=true) (m:i∈T.all) (g:∀x∈T.all,qN N i x=false) (H:ki P c N ld T K B fr h):
    ∃k,kj P c N false k=true/\(∀j,j∈k.all↔j∈T.all/\j≠i)/\ki P c N ld (.op i k) K B fr h:=by
  have key:∀(T:OT),kj P c N false T=true->i∈T.all->(∀x∈T.all,qN N i x=false)->
      ∃k,kj P c N false k=true/\(∀j,j∈k.all↔j∈T.all/\j≠i)/\∀{ld:List (Nat×Addr×Nat)}{fr:Fr}{h:Hp},ki P c N ld T K B fr h->ki P c N ld (.op i k) K B fr h:=by
    intro T
    induction T with
    |fin=>intro _ m _;simp[OT.all]at m
    | op x t Q=>
      intro d m g;obtain⟨o,E⟩:=acw d
      by_cases e:x=i
      ·subst e;refine⟨t,o,λj=>?_,λH=>H⟩;simp only[OT.all,lT];grind
      · obtain⟨ox,C,V⟩:=anE d;have z:i∈t.all:=by
          simp only[OT.all,lT]at m;exact m.resolve_left (λh=>e h.symm)
        obtain⟨M,F,q,W⟩:=Q o z λy R=>g y (by simp[OT.all,R])
        have u:=g x (by simp[OT.all])
        obtain⟨s,X,p,G⟩:=V i z u;rw[I]at p;cases p;refine⟨.op x M,anD d F λj l=>((q j).1 l).1,λj=>?_,λH=>?_⟩
        ·simp only[OT.all,lT,q];grind
        ·apply alr C I s G u;rw[Dq C,s,lE]at H;rw[Dq C,s,lE];exact MX H λv h' U=>W U
    | alt a b Z Y=>
      intro d m g;obtain⟨f,n,L,D⟩:=acy d;have D:=D.resolve_left aC;have A:kj P c N true (.alt a b)=true:=by
        simp only[kj,dr,Bool.true_or,yl]at d ⊢;exact d.1
      apply alu (.alt a b) A;rcases D i m with h|h|⟨w,S,J⟩
      ·simp[OT.qH,h]
      ·simp[OT.qH,h]
      ·rw[g w S]at J;cases J
  grind
theorem abo{d:Array Oper}{K:Fr->HP}{f:PK}:∀{T:OT}{ld:List (Nat×Addr×Nat)}{fr:Fr}{h:Hp},(∀j,j∉T.all)->ki P d N ld T K f fr h->K fr h:=by
 intro T
 induction T with
 |fin=>intro ld fr h _ H;exact H
 |op x t i=>intro ld fr h c H;exact absurd (by simp[OT.all]) (c x)
 |alt a b e g=>intro ld fr h c H;exact e c H.1
variable {r:Option Nat}
theorem ary(c:cV)(x:Nat):∀(l:cV)(s:Nat),(l.foldl (λs e=>s|||(2^e)|||c.getD e 0) s).testBit x=true->s.testBit x=true\/x∈l\/∃e∈l,(c.getD e 0).testBit x=true:=by
  intro l
  induction l with
  |nil=>simp
  | cons e l d=>
    grind
theorem U5{a:Array Oper}(h:Ic a N=true){j:Nat}{o:Oper}(d:a[j]? =some o):
  (∀e∈jE o,e<j)/\∀x,qN N j x=true->x∈jE o\/∃e∈jE o,qN N e x=true:=by
 unfold Ic at h;have f:j<a.size:=bZ;have:=yg.1 h j (uz.2 f);rw[d]at this;simp only[dr,yg,dP,nU]at this;refine⟨this.1,λx c=>?_⟩;unfold qN at c;rw[this.2]at c;rcases ary N x _ 0 c with b|b|b
 ·simp at b
 ·simp[*]
 ·exact .inr b
theorem avu{b:Array Oper}(i:Ic b N=true){a:Array Bool}(k:∀j o,b[j]? =some o->a.getD j false=true->∀e∈jE o,a.getD e false=true)(h:a.size=b.size):
    ∀(e x:Nat),a.getD e false=true->qN N e x=true->a.getD x false=true:=by
  intro e
  induction e using Nat.strongRecOn with
  | _ e l=>
    intro x hl p;have n:e<b.size:=by
      rw[<-h];apply yj;intro m;simp[Array.getD,m]at hl
    obtain⟨o,d⟩:∃o,b[e]? =some o:=⟨b[e],zU n⟩;grind[U5]
theorem OB{a:Array Bool}:(o.after.all λe=>!Region.binds .any e||a.getD e.on false)=true↔∀e∈jE o,a.getD e false=true:=by
 simp only[agw,EK,qR,jE,kZ,Y3,Array.mem_toList_iff];grind
theorem N6{a:Array Bool}(b:i<a.size):a.getD i true=a.getD i false:=dH
theorem alw{c:Array Oper}(b':EZ N c){R:cV}(L:Ic c R=true){K:Fr->HP}{Kp:PK}{Q:Exit->Act->World->Prop}:∀(f:Nat)(b:Array Bool)(U:cV)(l:OT)(ld:List (Nat×Addr×Nat))(fr:Fr)(a:Act)(w:World),
    eC fr a->kj P c R false l=true->(∀i,i∈l.all↔i<c.size/\b.getD i false=false)->(∀i,i∈l.all->i∈U)->b.size=c.size->(∀j o,c[j]? =some o->b.getD j false=true->∀e∈jE o,b.getD e false=true)->
    U.length<=f->ki P c R ld l K Kp fr (aV w)->(∀cZ q n,eC cZ q->Kd N a q->cH w n->K cZ (aV n)->Q .normal q n)->
    (∀ch q n,Kd N a q->cH w n->Kp ch (aV n)->Q (.panic ch) q n)->wpAnyIn (Fc r) 0 P .any c Q f b a w:=by
  intro f;have d:∀(b:Array Bool)(i:Nat),b.size=c.size->(i∈Region.ready .any c b↔i<c.size/\b.getD i false=false/\∃o,c[i]? =some o/\∀e∈jE o,b.getD e false=true):=by
    intro b i g;unfold Region.ready;simp only[Y3,uz,dr,qR];constructor
    ·rintro⟨D,hl,s⟩;have t:=zU D;rw[t]at s;simp only[oD,oG]at s;exact⟨D,by rw[<-N6 ag];exact hl,_,t,OB.1 s⟩
    · rintro⟨D,hl,o,t,s⟩;refine⟨D,by rw[N6 ag];exact hl,?_⟩
      rw[t];simp only[oD,oG];exact OB.2 s
  have p:∀(b:Array Bool)(l:cV),b.size=c.size->(∀i,i∈l↔i<c.size/\b.getD i false=false)->Region.ready .any c b=[]->∀j,j∉l:=by
    intro b l g hl T;intro x hx
    · obtain⟨m,hm,d'⟩:=least (λi=>i∈l) ⟨x,hx⟩;obtain⟨Y,hf⟩:=(hl m).1 hm;have t:=zU Y;have:m∈Region.ready .any c b:=by
        refine(d b m g).2 ⟨Y,hf,_,t,λe V=>?_⟩;have n':=(U5 L t).1 e V;have:=d' e n';rw[hl e]at this;cases i':b.getD e false with
        |true=>rfl
        |false=>exact absurd ⟨ag,i'⟩ this
      rw[T]at this;simp at this
  induction f with
  | zero=>
    intro b U l ld fr a w W hp hl hU g hc E H hN hP;have hn:∀j,j∉l.all:=by simp_all
    refine⟨?_,hN fr a w W (xT _ _) (jZ w) (abo hn H)⟩;simp_all[Y2]
  | succ f ih=>
    intro b U l ld fr a w W hp hl hU g hc E H hN hP;refine⟨λT=>?_,λi D=>?_⟩
    ·exact hN fr a w W (xT _ _) (jZ w) (abo (p b l.all g hl T) H)
    · obtain⟨y,m',oi,u,z⟩:=(d b i g).1 D;have Z:=(hl i).2 ⟨y,m'⟩;have e':∀x∈l.all,qN R i x=false:=by
        intro x hx;cases p':qN R i x with
        |false=>rfl
        | true=>
          exfalso
          have h':b.getD x false=true:=by
            rcases(U5 L u).2 x p' with C|⟨e,V,C⟩
            ·exact z x C
            ·exact avu L hc g e x (z e V) C
          have:=((hl x).1 hx).2;rw[h']at this;cases this
      obtain⟨T',c',A,G⟩:=alv u hp Z e' H;have j':∀j,j∈T'.all↔j<c.size/\(b.setIfInBounds i true).getD j false=false:=by
        intro j;rw[A j]
        by_cases B:j=i
        · subst B;constructor
          ·intro h;exact absurd rfl h.2
          ·rintro⟨_,X⟩;simp[Array.getD,g,y]at X
        ·have C:=hl j;rw[sj,Pu ag,<-sj];rw[<-C];simp[B]
      have r':∀j,j∈T'.all->j∈U.erase i:=λj B=>by
        obtain⟨C,X⟩:=(A j).1 B;exact(List.mem_erase_of_ne X).2 (hU j C)
      have q':(U.erase i).length<=f:=by
        rw[agv (hU i Z)];omega
      have o':∀j o,c[j]? =some o->(b.setIfInBounds i true).getD j false=true->∀e∈jE o,(b.setIfInBounds i true).getD e false=true:=by
        intro j o t B e V;have mono:∀k,b.getD k false=true->(b.setIfInBounds i true).getD k false=true:=by
          intro k F
          by_cases k':k=i
          ·subst k';simp[Array.getD,g,y]
          ·rw[sj,Pu ag,<-sj];exact F
        by_cases l':j=i
        ·subst l';rw[u]at t;cases t;exact mono e (z e V)
        ·rw[sj,Pu ag,<-sj]at B;exact mono e (hc j o t B e V)
      have next:∀I cZ q n,eC cZ q->Kd N a q->cH w n->ki P c R I T' K Kp cZ (aV n)->wpAnyIn (Fc r) 0 P .any c Q f (b.setIfInBounds i true) q n:=by
        intro I cZ q n v s S F;refine ih _ (U.erase i) T' I cZ q n v c' j' r' (by simpa using g) o' q' F ?_ ?_
        ·intro t' s' g' f' O J M;exact hN _ _ _ f' (O.trans s) (S.trans J) M
        ·intro ch s' g' O J M;exact hP _ _ _ (O.trans s) (S.trans J) M
      have step:vY r P c i (wpAnyIn (Fc r) 0 P .any c Q f (b.setIfInBounds i true)) Q a w:=by
        unfold ki at G;rw[u]at G;simp only at G;cases T:uc P oi.op with
        | true=>
          rw[T,lE]at G;exact HF b' W G (λcZ q n v s S F=>next _ cZ q n v s S F) hP
        | false=>
          rw[T,Jk]at G;exact HF b' W G (λcZ q n v s S F=>next _ cZ q n v s S (NJ.1 F).2) hP
      unfold vY at step;unfold wpOpIn;omega
def U6(ops:Array Oper):List Nat:=ops.toList.foldl (λl o=>l++[(jE o).foldl (λs e=>s|||(2^e)|||l.getD e 0) 0]) []
def UY(AZ:List (Nat×OT))(id:Nat)(ops:Array Oper):OT:=match AZ.find? (λx=>x.1==id)with
 |some x=>x.2
 |none=>OT.l (List.range ops.size) .fin
def kT(P:Program)(AZ:List (Nat×OT))(id:Nat)(ops:Array Oper)(K:Fr->HP)(Kp:PK)(fr:Fr)(h:Hp):Prop:=
 ic (UX P ops (UY AZ id ops) (U6 ops)) (ki P ops (U6 ops) [] (UY AZ id ops) K Kp fr h)<|False
theorem zy(k:List (Nat×OT)):uN P r (kT P k):=by
  intro E id b K F fr a w Q v B d hN C;unfold kT at d;generalize UY k id b=l at d;generalize U6 b=x at d
  cases g:UX P b l x with
  |false=>grind
  | true=>
    rw[g,lE]at d;simp only[UX,dr,yg,uz,dP,zT]at g;obtain⟨⟨⟨⟨⟨z,_⟩,t⟩,y⟩,f⟩,c⟩:=g;refine wpIn_region_any z (alw v t b.size (Array.replicate b.size false) (List.range b.size) l [] fr a {w with drawn:=w.drawn+1} B y ?_ (λi e=>uz.2 (c i e)) aC ?_ aC d ?_ ?_)
    · intro i;constructor
      ·intro e;simp[*]
      grind
    ·intro j o s A;have:j<b.size:=bZ;simp[Array.getD,this]at A
    ·intro cZ q h u p m n;exact hN cZ q h u p m n
    ·intro D q h p m n;exact C D q h p m n
end Go.Sh
