import Derived.Test.YtmjochipbmgljaaGreatDoorBatchesShCore
set_option linter.all false
namespace Go.Sh
variable {w:World} {a:Addr} {v z b k V:Value} {t el ty:TypeId} {n d c m:Nat} {i:TypeInfo} {vs:bg} {kd:TypeDesc} {x y:Operand} {s:Sem Value} {cs Z:Array Value} {op:BinOp} {e:Operand->Option Value} {g:FuncId} {name:String}
variable {P:Program}
theorem FT(w:World)(b:Nat):(aT w)[b]? =(w.heap[b]?).map uC:=by simp[aT]
theorem adS(w:World)(a:Addr):w.cell? a=cell (aT w) a:=by
 simp only[World.cell?,cell,FT];cases w.heap[a.block]? with
 |none=>rfl
 |some o=>cases o <;> rfl
theorem at1(w:World)(a:Addr):w.frozen? a=DC (aT w) a:=by
 simp only[World.frozen?,DC,FT];cases w.heap[a.block]? with
 |none=>rfl
 |some o=>cases o <;> rfl
theorem asU(w:World)(a:Addr)(v:Value):aT (w.setCell a v)=put (aT w) a v:=by
 apply Al;intro i;simp only[aT,World.setCell,put,B0,Mc];split
 ·cases w.heap[i]? with
  |none=>rfl
  |some o=>cases o <;> rfl
 ·rfl
theorem Kl(w:World)(o:Obj):aT {w with heap:=w.heap.push o}=(aT w).push (uC o):=by simp[aT]
theorem acq(w:World)(o:Obj):aT (w.alloc o)=(aT w).push (uC o):=Kl w o
theorem Bm(w:World):(aT w).size=w.heap.size:=by simp[aT]
theorem an5(w:World)(a:Addr)(v:Value):cE w (w.setCell a v):=by
 refine⟨rfl,rfl,rfl,aA,λb ds h=>?_⟩
 simp only[World.setCell,Mc];simp[*]
theorem xy(w:World)(o:Obj):cE w {w with heap:=w.heap.push o}:=by
 refine⟨rfl,rfl,rfl,aA,λb ds h=>?_⟩
 grind
theorem Z4(w:World)(o:Obj):cE w (w.alloc o):=xy w o
theorem an6(w:World):cE w w.drew:=⟨rfl,rfl,rfl,bP _,λ_ _ h=>h⟩
theorem Px(h:cell (aT w) a=some v):(load a).run P w=.ok v w:=by
 simp_all[adS]
theorem aof(g:one v=true)(c:(cell (aT w) a).isSome=true)(b:DC (aT w) a=false):(store a v).run P w=.ok () (w.setCell a v):=by
 obtain⟨v0,d⟩:=Mb.1 c;have h:w.cell? a=some v0:=(adS w a).trans d;have f:w.frozen? a=false:=(at1 w a).trans b;cases v <;> simp_all [store,Sem.run,one]
theorem aon{zs:bg}:∀{i:Nat}{K:List Value->Prop}{w:World}{acc:Array Value},xI (aT w) a i zs K->
    ∃vs,vs.length=zs.length/\(loadCellsFrom a i zs.length acc).run P w=.ok (acc++vs.toArray) w/\K vs:=by
  induction zs with
  |nil=>intro i K w acc h;exact⟨[],rfl,by simp[loadCellsFrom],h⟩
  | cons z zs c=>
    intro i K w acc h;obtain⟨v,g,d⟩:=CU h;obtain⟨vs,hl,b,f⟩:=c (acc:=acc.push v) d;refine⟨v::vs,by simp[hl],?_,f⟩
    simp only[iq,loadCellsFrom,Sem.run_bind,Px g,Result.andThen_ok,b];simp
theorem m7(h:jo P t=some n):(sizeOf t).run P w=.ok n w:=by
 unfold jo at h;obtain⟨i,a,rfl⟩:=tU.1 h;simp[sizeOf,typeInfo,program,Sem.run,a]
theorem Py(h:P.info? t=some i):(typeInfo t).run P w=.ok i w:=by
 simp[typeInfo,program,Sem.run,h]
theorem C5(h:zeroOf P t=some z):(zeroValue t).run P w=.ok z w:=by
 unfold zeroOf at h;obtain⟨i,b,a⟩:=BZ.1 h;simp[zeroValue,typeInfo,program,Sem.run,b,a]
theorem fo{d:TypeDesc}(h:P.underlying t=some d):(underlying t).run P w=.ok d w:=Go.run_underlying h w
theorem aab{d:TypeDesc}(h:P.underlying t=some d):(isAgg t).run P w=.ok (uK d) w:=by
 simp only[isAgg,Sem.run_bind,fo h,Result.andThen_ok];cases d <;> rfl
theorem aaa{K:Value->Prop}(h:mQ P t (aT w) a K):∃v,(loadVar t a).run P w=.ok v w/\K v:=by
  unfold mQ at h;split at h
  · rename_i d z i l
    have c:=aab (w:=w) i;cases g:uK d with
    | true=>
      rw[g]at h c;simp only[iy]at h;split at h
      · rename_i zs
        split at h
        · rename_i j
          obtain⟨vs,hl,b,f⟩:=aon (P:=P) (acc:=#[]) h;refine⟨_,?_,f⟩;simp only[Array.length_toList]at b;simp[loadVar,c,m7 j,loadCells,b]
        grind
      grind
    | false=>
      rw[g]at h c;simp only[iy]at h;obtain⟨v,k,f⟩:=CU h;refine⟨v,?_,f⟩;simp only[loadVar,Sem.run_bind,c,Result.andThen_ok,mD,lJ,Px k]
  grind
theorem PB:∀{i:Nat}{K:Hp->Prop}{w:World},ji (aT w) a i vs K->
    ∃b,(storeCells a vs i).run P w=.ok () b/\cE w b/\K (aT b):=by
  induction vs with
  |nil=>intro i K w h;exact⟨w,by simp[storeCells],j0 w,h⟩
  | cons v vs c=>
    intro i K w h;obtain⟨m,l,k,j⟩:=h;obtain⟨b,f,d,g⟩:=c (by rw[asU];exact j)
    refine⟨b,?_,(an5 w _ _).trans d,g⟩;simp[storeCells,aof m l k,f]
theorem aog{K:Hp->Prop}(h:vG P t (aT w) a v K):∃b,(storeVar t a v).run P w=.ok () b/\cE w b/\K (aT b):=by
 replace h:=ZD h;split at h
 ·rename_i d
  obtain⟨b,f,c,g⟩:=PB (P:=P) h;exact⟨b,by simp[storeVar,m7 d,f],c,g⟩
 ·exact h.elim
def sN(P:Program)(K:Option Value->HP)(Kp:PK)(w:World):Result Next->Prop
 |.ok (.value v) w'=>cE w w'/\∃v',(∀x,v'=some x->v=x)/\K v' (aT w')
 |.ok .skip w'=>cE w w'/\K none (aT w')
 |.ok (.enter f args) w'=>cE w w'/\dP P f args.toList (aT w') (λv h=>∃v',(∀x,v'=some x->v=x)/\K v' h) Kp
 | .ok (.round l f tmps assign body) w'=>cE w w'/\RoundIn (Fc none) 0 P l f tmps assign body w' λe CQ=>cE w' CQ/\match e with
   |.returned v=>∃v',(∀x,v'=some x->v=x)/\K v' (aT CQ)
   |.panicked ch=>Kp ch (aT CQ)
   |.outgrown=>False
 |.halt (.panic v) w'=>cE w w'/\Kp [{v,recovered:=false}] (aT w')
 |_=>False
section ops
variable {K:Option Value->HP} {Kp:PK} {ρ:Operand->Option Value} {r:Operand->Value}
theorem run_checkKey{b:Bool}{a:TypeId}(c:P.underlying a=some kd)(d:rY kd=true):(Instr.checkKey b 10000 a k).run P w=.ok () w:=by
 show(Instr.checkKey b (9999+1) a k).run P w=.ok () w
 unfold Instr.checkKey;simp only[Sem.run_bind,fo c,Result.andThen_ok];cases kd <;> first|rfl|(simp[rY]at d)
theorem run_findKey{b:TypeId}{c:List MapEntry}{a:Option (Nat×Value)}(d:P.underlying b=some kd)(h:Instr.findNow kd k c 0=some a):(Instr.findKey b k c).run P w=.ok a w:=by
 unfold Instr.findKey;simp_all[Sem.run_bind,fo,Result.andThen_ok,Sem.run_pure]
theorem RU{r:Nat}{d:Array MapEntry}(h:(aT w)[r]? =some (.map d c)):w.heap[r]? =some (.map d c):=by
 rw[FT]at h;cases a:w.heap[r]? with
 |none=>simp[a]at h
 |some o=>cases o <;> simp[a,uC]at h ⊢;exact h
theorem FA{r:Nat}{a:Array MapEntry}(h:(aT w)[r]? =some (.map a c)):(getObj r).run P w=.ok (.map a c) w:=by
 simp[getObj,Sem.run,RU h]
theorem auy:∀{a:List MapEntry}{i j:Nat}{v:Value},Instr.findNow kd k a i=some (some (j,v))->∃e,i<=j/\a[j-i]? =some e/\Instr.sameNow kd k e.key=some true:=by
  intro a
  induction a with
  |nil=>intro i j v h;simp[Instr.findNow]at h
  | cons e a b=>
    intro i j v h;unfold Instr.findNow at h;grind
theorem ae0{a b:ff}:(a==b)=true↔a=b:=by
 constructor
 ·intro h;have h:(a.data==b.data)=true:=h;rw[nv]at h;exact ByteArray.ext h
 ·rintro rfl
  show(a.data==a.data)=true
  simp
theorem an7(h:Instr.sameNow kd k v=some true):Instr.sameBits 10000 v k=true:=by
 show Instr.sameBits (9999+1) v k=true
 unfold Instr.sameNow at h;split at h
 ·split at h
  ·rename_i a;subst a;simp at h;subst h;simp[Instr.sameBits]
  ·cases h
 ·simp only[mC]at h;rw[ae0]at h;subst h;simp only[Instr.sameBits];exact ae0.2 rfl
 ·simp at h;subst h;simp[Instr.sameBits]
 ·cases h
theorem Kj{l:Nat}{o:Obj}:aT {w with heap:=w.heap.setIfInBounds l o}=(aT w).setIfInBounds l (uC o):=by
 apply Al;intro i;simp only[aT,B0,vg,Ve];grind
theorem JC{l:Nat}{x:Array MapEntry}{o:Obj}(h:w.heap[l]? =some (.map x c)):cE w {w with heap:=w.heap.setIfInBounds l o}:=by
 refine⟨rfl,rfl,rfl,aA,λb ds a=>?_⟩
 grind
theorem aom{m:Option Nat}{s A:TypeId}{ok:Bool}{K:Value->Bool->Prop}(n:P.underlying t=some (.map s A))(y:P.underlying s=some kd)(B:rY kd=true)(x:zeroOf P A=some z)(h:Dr (aT w) m kd k z K):∃v b,(Instr.lookup t (.map m) k ok).run P w=.ok (bif ok then .tuple #[v,.bool b]else v) w/\K v b:=by
  have fin:∀(g:Array MapEntry)(a:Option (Nat×Value)),Instr.findNow kd k g.toList 0=some a->((m=none/\g=#[])\/∃r c,m=some r/\(getObj r).run P w=.ok (.map g c) w)->
      (nJ z λv=>match a with|some (_,u)=>u=v/\K v true|none=>z=v/\K v false)->
      ∃v b,(Instr.lookup t (.map m) k ok).run P w=.ok (bif ok then .tuple #[v,.bool b]else v) w/\K v b:=by
    intro g a C l j;obtain⟨v,j⟩:=CU j;have f:=run_checkKey (P:=P) (w:=w) (b:=g.isEmpty) (k:=k) y B;have d:=run_findKey (P:=P) (w:=w) y C;cases a with
    | none=>
      obtain⟨rfl,q⟩:=j;refine⟨z,false,?_,q⟩;unfold Instr.lookup;rcases l with⟨rfl,rfl⟩|⟨r,c,rfl,o⟩
      all_goals simp_all[Sem.run_bind,fo,Result.andThen_ok,Sem.run_pure,C5]
    | some p=>
      obtain⟨i,u⟩:=p;obtain⟨rfl,q⟩:=j;refine⟨u,true,?_,q⟩;unfold Instr.lookup;rcases l with⟨rfl,rfl⟩|⟨r,c,rfl,o⟩
      all_goals simp_all[Sem.run_bind,fo,Result.andThen_ok,Sem.run_pure]
  unfold Dr at h;split at h
  ·exact fin #[] none rfl (.inl ⟨rfl,rfl⟩) (vC h λ_ j=>j)
  · rename_i r
    obtain⟨g,c,a,F,E,D⟩:=h;exact fin g a E (.inr ⟨r,c,rfl,FA F⟩) D
theorem aol{m:Option Nat}{q D:TypeId}{K:Hp->Prop}(x:P.underlying t=some (.map q D))(s:P.underlying q=some kd)(C:rY kd=true)(h:Up (aT w) m kd k v K):∃l,(Instr.mapUpdate t (.map m) k v).run P w=.ok () l/\cE w l/\K (aT l):=by
  unfold Up at h;split at h
  ·exact h.elim
  · rename_i r
    obtain⟨j,c,o,n,A,z⟩:=h;have d:=run_checkKey (w:=w) (b:=false) (k:=k) s C;have a:=run_findKey (w:=w) s A;have g:=RU n;cases o with
    | none=>
      refine⟨{w with heap:=w.heap.setIfInBounds r (.map (j.push {key:=k,val:=v,born:=c}) (c+1))},?_,JC g,?_⟩
      ·unfold Instr.mapUpdate;simp only[Sem.run_bind,fo x,Result.andThen_ok,FA n,d,a];simp[setObj,Sem.run,g]
      ·rw[Kj];exact z
    | some p=>
      obtain⟨i,u⟩:=p;obtain⟨e,_,y,B⟩:=auy A;refine⟨{w with heap:=w.heap.setIfInBounds r (.map (j.modify i λe=>{e with key:=k,val:=v}) c)},?_,JC g,?_⟩
      · unfold Instr.mapUpdate;have f:((j[i]?).map (·.key)).getD k=e.key:=by
          rw[Ma]at y;have:j[i]? =some e:=by simpa using y
          simp[this]
        simp only[Sem.run_bind,fo x,Result.andThen_ok,FA n,d,a,f,Instr.keyThatStays,(an7 B),gu,Sem.run_pure];simp[setObj,Sem.run,g]
      ·rw[Kj];exact z
def rE(P:Program)(s:Sem Value)(w:World)(K:de):Prop:=∃v w',s.run P w=.ok v w'/\cE w w'/\K v (aT w')
theorem rE.up{K:Option Value->HP}(h:rE P s w λv h=>K (some v) h):sN P K Kp w ((do pure (Next.value (<-s)):Sem Next).run P w):=by
 obtain⟨v,w',hr,hs,hk⟩:=h;simp only[Sem.run_bind,hr,Result.andThen_ok,Sem.run_pure];exact⟨hs,some v,λx hx=>by cases hx;rfl,hk⟩
abbrev wI:=@rE.up
theorem Pw{K:Addr->HP}(h:aH (aT w) cs t K):∃a b,(newRow t cs).run P w=.ok a b/\cE w b/\K a (aT b):=
 ⟨(aJ w.heap.size),{w with heap:=w.heap.push (.cells cs t)},by simp[newRow,newObj,Sem.run],xy w _,by rw[Kl,<-Bm w];exact h⟩
theorem Z9{p:Option Addr}(a:Addr)(k:p=some a)(h:rd (aT w) p n vs):(loadCells a n).run P w=.ok vs.toArray w:=by
  subst k;obtain⟨hl,l⟩:=h;subst hl;have key:∀(c:bg)(i:Nat)(b:Array Value),(∀(j:Nat)v,c[j]? =some v->cell (aT w) (a.add (i+j))=some v)->
      (loadCellsFrom a i c.length b).run P w=.ok (b++c.toArray) w:=by
    intro c
    induction c with
    |nil=>intro i b _;simp[loadCellsFrom]
    | cons u c g=>
      intro i b h;have f:=h 0 u rfl;simp only[Eo]at f;simp only[iq,loadCellsFrom,Sem.run_bind,Px f,Result.andThen_ok];rw[g (i+1) (b.push u) (λj v d=>by have:=h (j+1) v d;grind)]
      simp
  have:=key vs 0 #[] (λj v d=>dM)
  simpa[loadCells]using this
theorem Pz{a:Option Addr}(h:rd (aT w) a (m*n) vs):(Builtin.firstCells n m (.slice a m c)).run P w=.ok vs.toArray w:=by
 cases a with
 |none=>simp only[rd]at h;subst h;simp[Builtin.firstCells]
 |some a=>simp only[Builtin.firstCells];exact Z9 a rfl h
theorem Pd{k:IntKind}{a b:Int}{kb:IntKind}{K:Value->Prop}(h:vR op k a b K)(hk:k=kb\/op=.shl\/op=.shr):∃v,(binOp op t (.int k a) (.int kb b)).run P w=.ok v w/\K v:=by
 cases op
 case shl=>obtain⟨h0,h⟩:=h;refine⟨_,?_,h⟩;simp[binOp,Op.shift,Int.not_lt.2 h0]
 case shr=>obtain⟨h0,h⟩:=h;refine⟨_,?_,h⟩;simp[binOp,Op.shift,Int.not_lt.2 h0]
 case quo=>obtain rfl:=hk.resolve_right aA;obtain⟨h0,h⟩:=h;refine⟨_,?_,h⟩;simp[binOp,Op.intDiv,h0]
 case rem=>obtain rfl:=hk.resolve_right aA;obtain⟨h0,h⟩:=h;refine⟨_,?_,h⟩;simp[binOp,Op.intDiv,h0]
 all_goals
  obtain rfl:=hk.resolve_right aA;refine⟨_,?_,h⟩;simp[binOp,Op.intArith,Op.intBits,Op.intCmp,gH]
theorem anb{a b:ff}{K:Value->Prop}(h:xC op a b K):∃v,(binOp op t (.string a) (.string b)).run P w=.ok v w/\K v:=by
 cases op <;> simp only[xC]at h <;> first
  |exact h.elim
  |exact⟨_,by simp[binOp,Op.stringOp],h⟩
  |(obtain⟨c,h⟩:=h;exact⟨_,by simp only[binOp,Op.stringOp];rw[ay];simp,h⟩)
theorem JP{off:Nat}(h:Dh P t cs off=some v):(part t cs off).run P w=.ok v w:=by
  unfold Dh at h;split at h
  · rename_i d n c f
    have a:=aab (w:=w) c;cases b:uK d with
    | true=>
      rw[b]at h a;cases h;simp[part,a,m7 f]
    | false=>
      rw[b]at h a;simp only[cond_false]at h;simp only[part,Sem.run_bind,a,Result.andThen_ok,mD,lJ,h,Sem.run_pure]
  ·cases h
theorem Pe{x y:Value}{r:Bool}(h:zL P t x y=some r):(Op.equalIn (d+1) t x y).run P w=.ok r w:=by
 unfold zL at h;split at h
 case h_9=>cases h
 all_goals
  rename_i hu
  cases x <;> cases y <;> (try simp only[reduceCtorEq,mC,Option.ite_none_right_eq_some]at h)
 case h_2.int.int=>obtain⟨rfl,rfl⟩:=h;simp[Op.equalIn,fo hu]
 case h_4.pointer.pointer p q=>cases p <;> cases q <;> simp[Dp]at h <;> subst h <;> simp[Op.equalIn,fo hu]
 case h_5.slice.slice p _ _ q _ _=>cases p <;> cases q <;> simp[Dp]at h <;> subst h <;> simp[Op.equalIn,fo hu]
 case h_6.map.map p q=>cases p <;> cases q <;> simp[Dp]at h <;> subst h <;> simp[Op.equalIn,fo hu]
 case h_7.nilIface.nilIface ms=>
  cases hm:Array.isEmpty ms with
  |true=>rw[hm]at h;simp only[En,mC]at h;subst h;simp[Op.equalIn,fo hu]
  |false=>grind
 all_goals first
  |(subst h;simp[Op.equalIn,fo hu];done)
theorem P2{c:BinOp}{a:Value}(f:ux a b=true)(g:¬(a=.nilIface/\b=.nilIface)):(eqGuard c t x y a b).run P w=.ok () w:=by
 unfold eqGuard;cases c <;> first|rfl|(cases a <;> first|rfl|(cases b <;> first|rfl|(simp[ux]at f;done)|(exact absurd ⟨rfl,rfl⟩ g)))
theorem api{a:Value}{r:Bool}(j:ux a b=true)(c:zL P t a b=some r):(eqGuard op t x y a b).run P w=.ok () w:=by
 by_cases f:a=.nilIface/\b=.nilIface
 ·obtain⟨rfl,rfl⟩:=f;unfold zL at c;split at c <;> simp only[reduceCtorEq]at c
  rename_i d g
  have k:d.isEmpty=true:=by cases h:d.isEmpty with|true=>rfl|false=>rw[h]at c;cases c
  have i:(Op.eqGuardIn Op.maxDepth t .nilIface .nilIface).run P w=.ok false w:=by
   show(Op.eqGuardIn (9999+1) t .nilIface .nilIface).run P w=.ok false w
   unfold Op.eqGuardIn;simp[fo g,k]
  unfold eqGuard;simp[*]
 ·exact P2 j f
theorem Pv:(program:Sem Program).run P w=.ok P w:=aA
theorem ang{xs ys:Array Value}:∀{fs:List Field}{r:Bool},GO P fs xs ys=some r->
    (forIn (m:=Sem) fs ((none,()):Option Bool×Unit) λf _=>if f.name≠"_" then(do if !(<-Op.equalIn (d+1) f.type (<-part f.type xs f.offset) (<-part f.type ys f.offset))then pure (.done (some false,()))else pure (.yield (none,())))else pure (.yield (none,()))).run P w=.ok (if r then none else some false,()) w:=by
  intro fs
  induction fs with
  |nil=>intro r h;simp only[GO,mC]at h;simp[*]
  | cons f fs ih=>
    intro r h;unfold GO at h;split at h
    ·cases h
    · rename_i hn
      split at h
      · rename_i a b ha hb
        split at h
        · rename_i q q' hq hq'
          simp only[mC]at h;subst h;have:=ih hq';simp only[List.forIn_cons,Sem.run_bind,hn,ne_eq,not_false_eq_true,gu,JP ha,JP hb,Result.andThen_ok,Pe hq];cases q
          all_goals simp_all
        ·cases h
      ·cases h
theorem ZO{b:Array Value}{r:Bool}(h:KP P t Z b=some r):(eqGuard op t x y (.agg Z) (.agg b)).run P w=.ok () w/\(Op.equal t (.agg Z) (.agg b)).run P w=.ok r w:=by
  unfold KP at h;split at h
  · rename_i f c
    cases a:P.stoodInHeld t||P.eqGuardType P.depth t with
    |true=>grind
    | false=>
      rw[a,cond_false]at h;simp only[Bool.or_eq_false_iff]at a;refine⟨?_,?_⟩
      ·unfold eqGuard;simp[*]
      · show(Op.equalIn (9999+1) t (.agg Z) (.agg b)).run P w=.ok r w
        have:=ang (w:=w) (d:=9998) h;unfold Op.equalIn;simp only[Sem.run_bind,fo c,Result.andThen_ok,Pv,a.1,mD,lJ];rw[<-Array.forIn_toList];rw[show(9999:Nat)=9998+1 from rfl,this];cases r <;> simp
  ·cases h
theorem ane{a:Value}{K:Value->Prop}(h:xD P op t a b K):∃v,(do eqGuard op t x y a b;binOp op t a b:Sem Value).run P w=.ok v w/\K v:=by
 have step:∀{s:Sem Value}{v:Value},ux a b=true->¬(a=.nilIface/\b=.nilIface)->s.run P w=.ok v w->(do eqGuard op t x y a b;s:Sem Value).run P w=.ok v w:=by
  intro s v hp hn hs;simp only[Sem.run_bind,P2 hp hn,Result.andThen_ok,hs]
 have aHa:∀{s:Sem Value}{v:Value}{r:Bool},ux a b=true->zL P t a b=some r->s.run P w=.ok v w->(do eqGuard op t x y a b;s:Sem Value).run P w=.ok v w:=by
  intro s v r hp hr hs;simp only[Sem.run_bind,api hp hr,Result.andThen_ok,hs]
 unfold xD at h;split at h
 ·rename_i k n
  split at h
  ·rename_i k' m
   split at h
   ·obtain⟨v,hr,hk⟩:=Pd h (.inr (.inl rfl));exact⟨v,step rfl (λq=>by cases q.1) hr,hk⟩
   ·obtain⟨v,hr,hk⟩:=Pd h (.inr (.inr rfl));exact⟨v,step rfl (λq=>by cases q.1) hr,hk⟩
   ·split at h
    ·rename_i hk;obtain⟨v,hr,hk⟩:=Pd h (.inl hk);exact⟨v,step rfl (λq=>by cases q.1) hr,hk⟩
    ·exact h.elim
  ·exact h.elim
 ·split at h
  ·obtain⟨v,hr,hk⟩:=anb h;exact⟨v,step rfl (λq=>by cases q.1) hr,hk⟩
  ·exact h.elim
 ·rename_i xs
  split at h
  ·rename_i ys
   split at h
   ·split at h
    ·rename_i q hq
     obtain⟨h1,h2⟩:=ZO (w:=w) (op:=.eql) (x:=x) (y:=y) hq;exact⟨_,by simp only[Sem.run_bind,h1,Result.andThen_ok,binOp,h2,Sem.run_pure],h⟩
    ·exact h.elim
   ·split at h
    ·rename_i q hq
     obtain⟨h1,h2⟩:=ZO (w:=w) (op:=.neq) (x:=x) (y:=y) hq;exact⟨_,by simp only[Sem.run_bind,h1,Result.andThen_ok,binOp,h2,Sem.run_pure],h⟩
    ·exact h.elim
   ·exact h.elim
  ·exact h.elim
 ·rename_i hn1 hn2 hn3
  have he1:ux a b=true->binOp .eql t a b=(do pure (.bool (<-Op.equal t a b))):=by
   intro hp;cases a <;> first|rfl|grind|(simp[ux]at hp;done)|(cases b <;> rfl)
  have he2:ux a b=true->binOp .neq t a b=(do pure (.bool (!(<-Op.equal t a b)))):=by
   intro hp;cases a <;> first|rfl|grind|(simp[ux]at hp;done)|(cases b <;> rfl)
  split at h
  ·split at h
   ·rename_i hg
    split at h
    ·rename_i r hr
     have he:(Op.equal t a b).run P w=.ok r w:=Pe hr;simp[*]
    ·exact h.elim
   ·exact h.elim
  ·split at h
   ·rename_i hg
    split at h
    ·rename_i r hr
     have he:(Op.equal t a b).run P w=.ok r w:=Pe hr;simp[*]
    ·exact h.elim
   ·exact h.elim
  ·exact h.elim
theorem ZQ{K:Bool->Prop}{f c:Array TypeId}{B:Bool}(a:P.underlying t=some (.func f c B))(h:oN v K):∃b,(Op.equalIn (d+1) t v .nilFunc).run P w=.ok b w/\K b:=by
 unfold oN at h;split at h
 ·exact⟨false,by simp[Op.equalIn,fo a],h⟩
 ·exact⟨true,by simp[Op.equalIn,fo a],h⟩
 ·exact h.elim
theorem anf{a:Value}{K:Value->Prop}(h:xE P op t a b K):∃v,(do eqGuard op t x y a b;binOp op t a b:Sem Value).run P w=.ok v w/\K v:=by
 unfold xE at h;split at h
 ·split at h
  ·rename_i hu
   have hg:∀op,oN a (λ_=>True)->(eqGuard op t x y a .nilFunc).run P w=.ok () w:=by
    intro op hf;refine P2 ?_ (λq=>by cases q.2)
    unfold oN at hf;split at hf <;> first|rfl|exact hf.elim
   have tr:∀{K':Bool->Prop},oN a K'->oN a (λ_=>True):=by
    intro K' hf;unfold oN at hf ⊢;grind
   split at h
   ·obtain⟨r,hr,hk⟩:=ZQ hu h;refine⟨_,?_,hk⟩;have hb:binOp .eql t a .nilFunc=(do pure (.bool (<-Op.equal t a .nilFunc))):=by
     have:=tr h;unfold oN at this;split at this <;> first|rfl|grind
    have Dw:(Op.equal t a .nilFunc).run P w=.ok r w:=hr;grind[Sem.run_bind,Result.andThen_ok,Sem.run_pure]
   ·obtain⟨r,hr,hk⟩:=ZQ hu h;refine⟨_,?_,hk⟩;have hb:binOp .neq t a .nilFunc=(do pure (.bool (!(<-Op.equal t a .nilFunc)))):=by
     have:=tr h;unfold oN at this;split at this <;> first|rfl|grind
    have Dw:(Op.equal t a .nilFunc).run P w=.ok r w:=hr;grind[Sem.run_bind,Result.andThen_ok,Sem.run_pure]
   ·exact h.elim
  ·exact h.elim
 ·exact ane h
theorem ana{b:UnOp}{a:Value}{K:Value->Prop}(h:xB b a K):∃v,(Op.unary b a).run P w=.ok v w/\K v:=by
 unfold xB at h;split at h
 ·split at h
  ·exact⟨_,by simp[Op.unary],h⟩
  ·exact h.elim
 ·split at h
  ·exact⟨_,by simp[Op.unary,Op.intArith],h⟩
  ·exact h.elim
 ·split at h
  ·exact⟨_,by simp only[Op.unary,Op.intBits];rfl,h⟩
  ·exact h.elim
 ·exact h.elim
theorem anq{s:Sl}{K:ByteArray->Prop}(h:sM (aT w) s K):∃b,(Conv.bytesToString s.v).run P w=.ok (.string b) w/\K b:=by
  obtain⟨bs,d,i⟩:=h;refine⟨_,?_,i⟩;obtain⟨a,n,c⟩:=s;cases a with
  | none=>
    simp only[rd,Vd]at d;subst d;simp only[Sl.v,Conv.bytesToString,Sem.run_pure];rfl
  | some a=>
    have hl:=Z9 (P:=P) a rfl d;have key:∀(l:dB)(s:ff),(l.map λb:UInt8=>(b.toNat:Int)).foldl (λr n=>r.push (UInt8.ofNat n.toNat)) s=⟨s.data++l.toArray⟩:=by
      intro l
      induction l with
      |nil=>simp
      |cons b l g=>simp[*]
    have f:(loadCells a n).run P w=.ok ((bs.map λb:UInt8=>(b.toNat:Int)).map (Value.int .u8)).toArray w:=by rw[hl];simp[Function.comp_def]
    rw[show Sl.v ⟨some a,n,c⟩=.slice (some a) n c from rfl,run_bytesToString w a n c _ f,key];simp
theorem anh{s d:TypeId}{K:Value->Prop}(h:BI P s d V (aT w) K):∃v,(convert s d V).run P w=.ok v w/\K v:=by
 unfold BI at h;split at h
 ·rename_i a c
  split at h
  ·refine⟨_,?_,h⟩;simp[convert,fo a,fo c,Conv.intToInt]
  ·exact h.elim
 ·rename_i a c
  split at h
  ·refine⟨_,?_,h⟩;simp[convert,fo a,fo c]
  ·exact h.elim
 ·rename_i el a c
  split at h
  ·rename_i i
   obtain⟨b,f,g⟩:=anq h;refine⟨_,?_,g⟩;rw[run_convert_bytes_string w s d el _ _ _ a i c];exact f
  ·exact h.elim
 ·exact h.elim
theorem FD{k:IntKind}{n:Int}:(asIntOf (.int k n)).run P w=.ok (k,n) w:=by simp[asIntOf]
theorem aac{k:IntKind}{n:Int}{a:BoundsCode}(c:0<=n)(b:n<=m):(Instr.sliceBound (.int k n) m a).run P w=.ok n.toNat w:=by
 simp[Instr.sliceBound,FD,c,b]
theorem FR{r:Operand->Value}(b:∀x v,e x=some v->r x=v){o:Option Operand}{l:Option Int}(h:qm e o=some l):(o=none/\l=none)\/∃x k n,o=some x/\r x=.int k n/\l=some n:=by
  cases o with
  |none=>simp[qm]at h;simp[*]
  | some x=>
    simp only[qm]at h;grind
theorem anm{sl:Sl}{i:Nat}{f g d:Option Operand}{l b m:Option Int}{K:Sl->Prop} (j:∀x v,e x=some v->r x=v) (hl:qm e f=some l) (y:qm e g=some b)
  (s:qm e d=some m) (p:P.underlying t=some (.slice el)) (q:jo P el=some i) (o:(b.isNone && m.isSome)=false) (h:jA sl i l b m K):∃k,(Instr.sliceAt t sl.v (f.map r) (g.map r) (d.map r)).run P w=.ok (Sl.v k) w/\K k:=by
 have⟨D,C,B,A,u⟩:=h;refine ⟨_,?_,u⟩;have⟨a,n,c⟩:=sl;have z:(Instr.sliceBounds true n c (f.map r) (g.map r) (d.map r)).run P w=.ok ((l.getD 0).toNat,(b.getD n).toNat,(m.getD c).toNat) w:=by
  rcases FR j s with ⟨rfl,rfl⟩ | ⟨xm,J,H,rfl,N,rfl⟩ <;>
   rcases FR j y with ⟨rfl,rfl⟩ | ⟨G,M,I,rfl,O,rfl⟩ <;>
   rcases FR j hl with ⟨rfl,rfl⟩ | ⟨F,L,nl,rfl,E,rfl⟩ <;>
   (try simp at o) <;> simp only[tT,oI] at D C B A <;>
   simp only[Instr.sliceBounds,pH,Option.map_none,Sem.run_bind,Sem.run_pure,Result.andThen_ok, *] <;>
   (repeat (rw[aac ag ag];simp only[Result.andThen_ok])) <;> simp
 simp only[Sl.v,Instr.sliceAt,Sem.run_bind,fo p,Result.andThen_ok,Instr.slice,z,m7 q,Sem.run_pure,me]
theorem anl{s:ff}{a b:Option Operand}{l c:Option Int}{K:ByteArray->Prop} (f:∀x v,e x=some v->r x=v) (hl:qm e a=some l) (j:qm e b=some c)
  (g:P.underlying t=some .string) (h:qz s l c K):∃d,(Instr.sliceAt t (.string s) (a.map r) (b.map r) none).run P w=.ok (.string d) w/\K d:=by
 have⟨o,n,m,i⟩:=h;refine ⟨_,?_,i⟩;have k:(Instr.sliceBounds false s.size s.size (a.map r) (b.map r) none).run P w=.ok ((l.getD 0).toNat,(c.getD s.size).toNat,s.size) w:=by
  rcases FR f j with ⟨rfl,rfl⟩ | ⟨u,A,y,rfl,B,rfl⟩ <;>
   rcases FR f hl with ⟨rfl,rfl⟩ | ⟨q,z,nl,rfl,p,rfl⟩ <;>
   simp only[tT,oI] at o n m <;>
   simp only[Instr.sliceBounds,pH,Option.map_none,Sem.run_bind,Sem.run_pure,Result.andThen_ok, *] <;>
   (repeat (rw[aac ag ag];simp only[Result.andThen_ok])) <;> simp
 simp only[Instr.sliceAt,Sem.run_bind,fo g,Result.andThen_ok,Instr.slice,k,Sem.run_pure,Option.isSome_none,mD,lJ]
theorem aou{k:IntKind}{i:Int}(b:P.underlying t=some (.slice el))(d:jo P el=some m)(g:0<=i)(f:i<n):(Instr.indexAt t (.slice (some a) n c) (.int k i)).run P w=.ok (.pointer (some (a.add (i.toNat*m)))) w:=by
 simp[Instr.indexAt,FD,fo b,m7 d,g,f]
theorem aot{k:IntKind}{i:Int}(b:P.underlying t=some (.array n el))(c:jo P el=some m)(f:0<=i)(d:i<n):(Instr.indexAt t (dw a) (.int k i)).run P w=.ok (.pointer (some (a.add (i.toNat*m)))) w:=by
 simp[Instr.indexAt,FD,fo b,m7 c,f,d,Instr.sureAddr]
theorem ano{b d:IntKind}{l c:Int}{K:Sl->HP}(j:P.underlying t=some (.slice el))(f:P.info? el=some i)(g:zeroOf P el=some z)
  (h:dO (aT w) el z.cells i.size i.bytes l c K):rE P (Instr.makeSlice t (.int b l) (.int d c)) w λv o=>∃s:Sl,v=s.v/\K s o:=by
 obtain⟨n,m,q,p,k⟩:=h;have a:i.zero=some z:=by simpa[zeroOf,f]using g
 exact⟨_,_,run_make w t el i z j f a b d l c n m ag ag,Z4 w _,⟨some (aJ w.heap.size),l.toNat,c.toNat⟩,rfl,by rw[acq,<-Bm w];exact k⟩
theorem alB{a:Array TypeId}{u:TypeId}(h:a.toList=[t,u]):a=#[t,u]:=by
 grind
theorem ZT{ts:Array TypeId}{u:TypeId}{du:TypeDesc}{x:Value}{s:Sl}{aF:List Value->Prop}{K:Sl->HP}(ht:ts.toList=[t,u])(hu:P.underlying t=some (.slice el))
    (SW:P.underlying u=some du) (hni:∀k,du≠.int k) (hi:P.info? el=some i) (hz:zeroOf P el=some z)
    (hlen:Builtin.lenOf x=pure n) (SV:∀(w':World)vs,aT w'=aT w->aF vs->(Builtin.firstCells i.size n x).run P w'=.ok vs.toArray w')
    (h:Ap (aT w) el z.cells i.size i.bytes s n aF K):rE P (Builtin.append_ ts ty #[s.v,x]) w λv h'=>∃s:Sl,v=s.v/\K s h':=by
  obtain⟨vs,hv,h⟩:=h;have ng:jo P el=some i.size:=by simp[jo,hi]
  have Gk:i.zero=some z:=by simpa[zeroOf,hi]using hz
  obtain rfl:=alB ht;obtain⟨a,m,c⟩:=s;have aHG:∀{α:Type}(k:Sem α)(k':Sem α),(match du with|.int _=>k|_=>k')=k':=by
    intro α k k';cases du <;> first|rfl|exact absurd rfl (hni _)
  rcases h with⟨hr,h⟩|⟨hr,atv,h63,fG,hold,hk⟩
  · have Dw:=hr;cases a with
    | none=>
      refine⟨_,w,?_,j0 w,⟨none,m+n,c⟩,rfl,h⟩;simp[Builtin.append_,fo hu,fo SW,m7 ng,hlen,Dw,SV w vs rfl hv,Sl.v]
    | some a=>
      obtain⟨w',si,hs,hk⟩:=PB h;refine⟨_,w',?_,hs,⟨some a,m+n,c⟩,rfl,hk⟩;have asE:(storeCells (a.add (m*i.size)) vs).run P w=.ok () w':=si;simp[Builtin.append_,fo hu,fo SW,m7 ng,hlen,Dw,SV w vs rfl hv,Sl.v,asE]
  · have Dw:¬(m+n<=c):=by simp only at hr;omega
    have h2:m+n<2^63:=h63;have atI:¬(9223372036854775807<((m:Int)+(n:Int))):=ag;have atK:¬(281474976710656<Builtin.nextslicecap (m+n) c*i.bytes):=by simp only at atv;omega
    have Gz:=grownCap_ge w (m+n) c el;have eW:grownCap w (m+n) c el<2^63:=by
      have eW:=yM (w.tape w.drawn (.appendCap (m+n) c el)) (show 0<2^63-(m+n) by omega)
      simp only[grownCap,Question.cut]at Gz ⊢;omega
    have zK:=hk (grownCap w (m+n) c el) Gz eW;have ho:(Builtin.firstCells i.size m (.slice a m c)).run P w.drew=.ok fG.toArray w.drew:=Pz hold;refine⟨_,w.drew.alloc (.cells ((fG++vs).toArray++Builtin.zeroCells z.cells (grownCap w (m+n) c el-(m+n))) el),?_,(an6 w).trans (Z4 _ _),⟨some (aJ w.heap.size),m+n,grownCap w (m+n) c el⟩,rfl,by rw[acq,<-Bm w];exact zK⟩
    simp[Builtin.append_,fo hu,fo SW,m7 ng,typeInfo,zeroValue,hi,Gk,hlen,Dw,atI,atK,Question.forced,SV w.drew vs rfl hv,ho,newRow,grownCap,Sl.v]
    grind[Array.ext',List.append_assoc]
theorem DL{r:Operand->Value}(f:∀x v,e x=some v->r x=v):∀{a:List Operand}{vs:bg},iH e a=some vs->a.map r=vs:=by
  intro a
  induction a with
  |nil=>intro vs h;simp[iH]at h;simp[h]
  | cons x a c=>
    intro vs h;simp only[iH]at h;grind
theorem adh{r:Operand->Value}(f:∀x v,e x=some v->r x=v):∀{a:List (Nat×Operand)}{vs:List (Nat×Value)},xY e a=some vs->a.map (λ(i,x)=>(i,r x))=vs:=by
  intro a
  induction a with
  |nil=>intro vs h;simp[xY]at h;simp[h]
  | cons x a c=>
    intro vs h;obtain⟨i,x⟩:=x;simp only[xY]at h;grind
theorem auz{b:List Field}:∀{a:List (Nat×Nat)},places P b=some a->(b.mapM λf=>Functor.map (Prod.mk f.offset) (sizeOf f.type):Sem (List (Nat×Nat))).run P w=.ok a w:=by
  induction b with
  |nil=>intro a h;simp[places]at h;simp[*]
  | cons f b c=>
    intro a h;simp only[places]at h;split at h
    all_goals simp_all[Va,m7]
theorem ank{g:Array (Nat×Value)}(h:LA P t g.toList=some v):(Instr.build t g).run P w=.ok v w:=by
 unfold LA at h;split at h
 ·rename_i z fields a b
  split at h
  ·rename_i j l
   obtain⟨cs,c,rfl⟩:=tU.1 h;have m:=auz (w:=w) l;have d:(fields.mapM λf=>Functor.map (Prod.mk f.offset) (sizeOf f.type):Sem (Array (Nat×Nat))).run P w=.ok j.toArray w:=by
    rw[<-Array.toArray_toList (xs:=fields),List.mapM_toArray];simp[m]
   simp[Instr.build,C5 a,fo b,d,c]
  ·cases h
 ·rename_i z n el a b
  split at h
  ·rename_i i k
   obtain⟨cs,c,rfl⟩:=tU.1 h;simp[Instr.build,C5 a,fo b,m7 k,c]
  ·cases h
 ·cases h
theorem anj{len:Nat}{j:Array (Nat×Value)}{K:Sl->HP}(h:LC P t len j.toList=some (cs,el))
  (q:aH (aT w) cs el λa d=>K ⟨some a,len,len⟩ d):rE P (Instr.buildSlice t len j) w λv d=>∃s:Sl,v=s.v/\K s d:=by
 unfold LC at h;split at h
 ·rename_i x k
  split at h
  ·rename_i b z l p
   split at h
   ·rename_i A
    obtain⟨y,c,u⟩:=tU.1 h;cases u;obtain⟨a,o,m,f,g⟩:=Pw (P:=P) q;refine⟨_,o,?_,f,_,rfl,g⟩;have i:¬(16777216<len*b):=ag;unfold zs at c
    by_cases n:len*b=0
    ·simp[Instr.buildSlice,fo k,m7 l,n]at c ⊢;simp[c,m,Sl.v]
    ·simp[Instr.buildSlice,fo k,m7 l,i,n,C5 p]at c ⊢;simp[c,m,Sl.v]
   ·cases h
  ·cases h
 ·cases h
theorem am9{K:Value->Prop}{b:List TypeId}{c:Array TypeId}{xs:bg}(i:c.toList=t::b)(j:Z.toList=V::xs)
  (d:R1 P t V=true) (h:C3 V K):∃v,(Builtin.len_ c ty Z).run P w=.ok v w/\K v:=by
 have g:c[0]? =some t:=by rw[<-Cd,i];rfl
 have f:Z[0]? =some V:=by rw[<-Cd,j];rfl
 unfold R1 at d;split at d
 ·rename_i a;exact⟨_,by simp[Builtin.len_,g,f,fo a,goInt],h⟩
 ·rename_i a;exact⟨_,by simp[Builtin.len_,g,f,fo a,goInt],h⟩
 ·rename_i a;exact⟨_,by simp[Builtin.len_,g,f,fo a,goInt],h⟩
 ·cases d
theorem aok{B:Bool}(a:sX P t name=some (g,B))(b:C6 P t B=true):(method (n+1) t v name).run P w=.ok (g,v) w:=by
  unfold sX at a;obtain⟨i,j,a⟩:=BZ.1 a;obtain⟨m,k,a⟩:=BZ.1 a;cases c:m.path.isEmpty with
  |false=>rw[c]at a;cases a
  | true=>
    rw[c]at a;simp only[cond]at a;have f:m.path.toList=[]:=by simpa using c
    unfold C6 at b;simp only[method,Sem.run_bind,Py j,Result.andThen_ok,k,f,follow,Sem.run_pure,a,receiverAt];split at b
    · rename_i e h
      subst b;simp[fo h,Place.get]
    · rename_i d h l
      have:B=false:=by simpa using b
      subst this;simp only[fo l,Result.andThen_ok];simp[Place.get]
    ·cases b
theorem aoj{off:Nat}(b:Dq P t name=some (g,off)):(method (n+1) t (dw a) name).run P w=.ok (g,dw (a.add off)) w:=by
  unfold Dq at b;obtain⟨i,u,b⟩:=BZ.1 b;obtain⟨m,v,b⟩:=BZ.1 b;split at b
  · rename_i s z d l
    cases h:s.deref with
    |false=>grind
    | true=>
      rw[h]at b;simp only[cond]at b;split at b
      · rename_i f c
        split at b
        · rename_i k A p o
          cases b;split at c
          · rename_i y j
            have x:m.path.isEmpty=false:=by
              cases q:m.path.isEmpty with
              |false=>rfl
              |true=>simp_all
            simp only[method,Sem.run_bind,Py u,Result.andThen_ok,v,d,follow,h,gu,Place.get,Sem.run_pure,asAddr,fo j,c,fieldPlace,m7 p,l,receiverAt,fo o];simp_all[Sem.run_pure,fo,Result.andThen_ok,m7]
          ·cases c
        ·cases b
      ·cases b
  ·cases b
theorem ZN{K:Option Value->HP}{zs:bg}(j:(method (P.types.size+Made.depth) t v name).run P w=.ok (g,V) w)(a:jV P g=true)
    (h:dP P g (V::Z.toList) (aT w) (λv f=>gO zs v λV=>K (some V) f) Kp):sN P K Kp w ((invoke (.fn (.method name) #[]) (#[.iface t v]++Z)).run P w):=by
  have fin:∀{v:Value}{f:Hp},gO zs v (λV=>K (some V) f)->∃V,(∀x,V=some x->v=x)/\K V f:=by grind[aak]
  unfold jV at a;split at a
  · rename_i n s
    simp only[dm,tS]at a;obtain⟨m,l⟩:=a;have e0:(#[Value.iface t v]++Z)[0]? =some (.iface t v):=by rw[U9 aA];rfl
    have e1:(#[Value.iface t v]++Z).extract 1 (#[Value.iface t v]++Z).size=Z:=by
      apply tR;simp
    have c:(callFunc g (#[V]++Z)).run P w=.ok (.enter g (#[V]++Z)) w:=by
      have y:¬n.name="runtime.NumGoroutine":=by simpa using l
      have u:¬n.body=none:=by intro k;simp[k]at m
      simp only[callFunc,program,Sem.run_bind,Sem.run,Result.andThen_ok,s];simp[y,u]
    simp only[invoke,e0,e1,callMethod,Sem.run_bind,Pv,Result.andThen_ok,j,c];refine⟨j0 w,?_⟩;intro o i;have z:(#[V]++Z).toList.toArray=(V::Z.toList).toArray:=aA
    rw[z];refine(h o i).mono ?_;rintro e A ⟨q,b⟩;refine⟨q,?_⟩;cases e with
    |returned v=>exact fin b
    |panicked B=>exact b
    |outgrown=>exact b
  ·cases a
theorem ZR{fv:Value}{args:Array Value}{K:Option Value->HP}{zs:bg}
    (h:fE P fv name args.toList (aT w) (λv f=>gO zs v λc=>K (some c) f) Kp):sN P K Kp w ((invoke (.fn (.method name) #[]) (#[fv]++args)).run P w):=by
  unfold fE at h;split at h
  · rename_i t v
    split at h
    · rename_i g d b
      cases a:(C6 P t d&&jV P g)with
      |false=>grind
      | true=>
        rw[a,lH]at h;simp only[dm]at a;exact ZN (aok b a.1) a.2 h
    · split at h
      · rename_i g off b
        cases a:jV P g with
        |false=>grind
        | true=>
          rw[a,lH]at h;unfold PY at h;split at h
          ·exact ZN (aoj b) a h
          grind
      grind
  grind
theorem aoi(a:sX P t name=some (g,true)):(nilAhead (n+1) t v name).run P w=.ok (some false) w:=by
  unfold sX at a;obtain⟨i,d,a⟩:=BZ.1 a;obtain⟨m,f,a⟩:=BZ.1 a;cases b:m.path.isEmpty with
  |false=>grind
  | true=>
    rw[b]at a;simp only[cond]at a;have c:m.path.toList=[]:=by simpa using b
    simp only[nilAhead,Sem.run_bind,Py d,Result.andThen_ok,f,c,followBlind,Sem.run_pure,a]
theorem anp{fv:Value}{args:Array Value}{K:Option Value->HP}{zs:bg}{d:Deferred}(j:(Deferred.ofValue fv args).run P w=.ok d w)
    (h:cX P fv args.toList (aT w) (λv o=>gO zs v λi=>K (some i) o) Kp):sN P K Kp w ((invoke d.target d.args).run P w):=by
  have fin:∀{v:Value}{o:Hp},gO zs v (λi=>K (some i) o)->∃i,(∀x,i=some x->v=x)/\K i o:=by grind[aak]
  unfold cX at h;split at h
  · rename_i g first a
    simp only[Deferred.ofValue,Sem.run_pure,Result.ok.injEq,Em]at j;subst j;cases b:jV P g with
    |false=>rw[b]at h;exact h.elim
    | true=>
      rw[b,lH]at h;unfold jV at b;split at b
      · rename_i s J
        simp only[dm,tS]at b;obtain⟨A,z⟩:=b;have m:(callFunc g (first++args++a)).run P w=.ok (.enter g (first++args++a)) w:=by
          have M:¬s.name="runtime.NumGoroutine":=by simpa using z
          have L:¬s.body=none:=by intro y;simp[y]at A
          simp only[callFunc,program,Sem.run_bind,Sem.run,Result.andThen_ok,J];simp[M,L]
        simp only[invoke,m];refine⟨j0 w,?_⟩;intro E t;have k:(first++args++a).toList.toArray=(first.toList++args.toList++a.toList).toArray:=aA
        rw[k];refine(h E t).mono ?_;rintro e F ⟨q,f⟩;refine⟨q,?_⟩;cases e with
        |returned v=>exact fin f
        |panicked N=>exact f
        |outgrown=>exact f
      ·cases b
  · rename_i l first a
    simp only[Deferred.ofValue,Sem.run_pure,Result.ok.injEq,Em]at j;subst j;obtain⟨s,C,p,D,B,I⟩:=h w rfl;have k:(first.toList++args.toList).toArray=first++args:=aA
    rw[k]at B;simp only[invoke,B];refine⟨j0 w,I.mono ?_⟩;rintro e F ⟨q,f⟩;refine⟨q,?_⟩;cases e with
    |returned v=>exact fin f
    |panicked N=>exact f
    |outgrown=>exact f
  · rename_i O name first a
    simp only[Deferred.ofValue,Sem.run_pure,Result.ok.injEq,Em]at j;subst j;unfold Yx at h;split at h
    · rename_i r c u
      split at h
      · rename_i Q H
        have k:first++args=#[r]++c.toArray:=by
          apply tR;simp only[Array.toList_append,u];rfl
        have:=ZR ag
        simp only[invoke,k]at this ⊢;simp_all[U9,aA,Sem.run_bind,fo,Result.andThen_ok,Sem.run_pure]
      ·exact h.elim
    ·exact h.elim
  ·exact h.elim
theorem auR{o:Oper}{c:Call}(a:o.op=.call c):execOp r o=(do let d <-resolve r c o.type;invoke d.target d.args):=by
 obtain⟨_,b,_,_,_,_⟩:=o;cases a;rfl
theorem rE.up'{K:Option Value->HP}(h:∃v,s.run P w=.ok v w/\K (some v) (aT w)):sN P K Kp w ((do pure (Next.value (<-s)):Sem Next).run P w):=by
 obtain⟨v,hr,hk⟩:=h;exact wI ⟨v,w,hr,j0 w,hk⟩
abbrev lS:=@rE.up'
theorem rE.Jd{K:Option Value->HP}(h:rE P s w λv h'=>∃sl:Sl,v=sl.v/\K (some sl.v) h'):sN P K Kp w ((do pure (Next.value (<-s)):Sem Next).run P w):=by
 obtain⟨v,w',hr,hs,sl,rfl,hk⟩:=h;exact wI ⟨_,w',hr,hs,hk⟩
theorem ani{b:Builtin}{F:Array TypeId}{vs:Array Value}{cs:Array Bool}{K:Option Value->HP}(h:AW P b F.toList vs.toList (aT w) λv T=>K (some v) T):sN P K Kp w ((builtin b F ty cs vs).run P w):=by
  unfold AW at h;split at h
  · split at h
    · rename_i t j x xs l d
      split at h
      · rename_i S
        exact lS (am9 l d S h)
      grind
    grind
  · split at h
    · rename_i t j a n c xs l d
      have A:F[0]? =some t:=by rw[<-Cd,l];rfl
      have B:vs[0]? =some (.slice a n c):=by rw[<-Cd,d];rfl
      split at h
      · rename_i f
        exact lS ⟨_,by simp[Builtin.cap_,A,B,fo f,goInt],h⟩
      grind
    grind
  · split at h
    · rename_i x y d
      split at h
      · rename_i v o
        refine lS ⟨v,?_,h⟩;cases x <;> cases y <;> simp[abm]at o
        subst o;simp[Builtin.min_,d,Builtin.min2,List.foldlM]
      grind
    grind
  · split at h
    · rename_i x y d
      split at h
      · rename_i v o
        refine lS ⟨v,?_,h⟩;cases x <;> cases y <;> simp[abp]at o
        subst o;simp[Builtin.max_,d,Builtin.max2,List.foldlM]
      grind
    grind
  · split at h
    · rename_i s x d
      obtain rfl:vs=#[s,x]:=bU
      unfold Fy at h;split at h
      · rename_i t u a n c l
        split at h
        · rename_i el du f L
          split at h
          · rename_i i z hi Z
            split at h
            ·exact h.elim
            · rename_i b m cc D
              exact rE.Jd (ZT l f L (λk H=>D k H) hi Z rfl (λG vs hw o=>Pz dM) h)
            · rename_i bs D
              refine rE.Jd (ZT l f L (λk H=>D k H) hi Z rfl (λG vs hw o=>?_) h);subst o;have hx:bs.extract 0 bs.size=bs:=aA
              simp only[Builtin.firstCells,hx,Sem.run_pure]
              congr 1
              grind
            grind
          grind
        grind
      grind
    grind
  · split at h
    · rename_i s x d
      obtain rfl:vs=#[s,x]:=bU
      unfold Pn at h;split at h
      · rename_i t j a n c l
        have A:F[0]? =some t:=by rw[<-Cd,l];rfl
        split at h
        · rename_i el f
          split at h
          · rename_i N hs
            have fin:∀{k:Nat}{g:List Value->Prop}{x:Value},(Builtin.lenOf x).run P w=.ok k w->(∀vs,g vs->(Builtin.firstCells N (Nat.min k n) x).run P w=.ok vs.toArray w)->AJ (aT w) a g (λT=>K (some (ah (Nat.min k n:Nat))) T)->
                sN P K Kp w ((builtin .copy F ty cs #[.slice a n c,x]).run P w):=by
              intro k g x hl S hc;obtain⟨O,B,R⟩:=hc;have J:=S O B;cases a with
              | none=>
                refine wI ⟨_,w,?_,j0 w,R⟩;simp[Builtin.copy_,A,fo f,hl,m7 hs,J,goInt]
              | some a=>
                obtain⟨G,hr,X,H⟩:=PB R;have Y:(storeCells a O).run P w=.ok () G:=hr;refine wI ⟨_,G,?_,X,H⟩;simp[Builtin.copy_,A,fo f,hl,m7 hs,J,goInt,Y,Result.andThen_ok]
            split at h
            · rename_i b m cc
              exact fin (by simp[Builtin.lenOf]) (λO C=>by
                have:=Pz (P:=P) (c:=cc) C;cases b with
                |none=>simpa[Builtin.firstCells]using this
                |some b=>simpa[Builtin.firstCells]using this) h
            · rename_i bs
              exact fin (by simp[Builtin.lenOf]) (λO C=>by
                subst C;simp only[Builtin.firstCells,Sem.run_pure]
                congr 1
                apply tR;simp) h
            grind
          grind
        grind
      grind
    grind
  · split at h
    · rename_i m k d
      obtain rfl:vs=#[m,k]:=bU
      unfold Pm at h;split at h
      · rename_i t j m l
        have A:F[0]? =some t:=by rw[<-Cd,l];rfl
        split at h
        · rename_i kt et f
          split at h
          · rename_i kd E
            cases q:rY kd with
            |false=>grind
            | true=>
              rw[q,lH]at h;unfold zb at h;split at h
              ·refine wI ⟨_,w,?_,j0 w,h⟩;simp[Builtin.delete_,A,fo f,run_checkKey E q]
              · rename_i r
                obtain⟨U,c,W,B,R,h3⟩:=h;have Q:=RU B;have M:=run_checkKey (w:=w) (b:=U.isEmpty) (k:=k) E q;have I:=run_findKey (w:=w) E R;cases W with
                | none=>
                  refine wI ⟨_,{w with heap:=w.heap.setIfInBounds r (.map U c)},?_,JC Q,by rw[Kj];exact h3⟩
                  have e1:(#[Value.map (some r),k])[0]? =some (.map (some r)):=rfl;have V:(#[Value.map (some r),k])[1]? =some k:=rfl;simp only[Builtin.delete_,A,e1,V,Sem.run_bind,fo f,Result.andThen_ok,FA B,M,I];simp[setObj,Sem.run,Q,Sem.run_bind,Result.andThen_ok]
                | some p=>
                  obtain⟨i,u⟩:=p;refine wI ⟨_,{w with heap:=w.heap.setIfInBounds r (.map (U.eraseIdxIfInBounds i) c)},?_,JC Q,by rw[Kj];exact h3⟩
                  have e1:(#[Value.map (some r),k])[0]? =some (.map (some r)):=rfl;have V:(#[Value.map (some r),k])[1]? =some k:=rfl;simp only[Builtin.delete_,A,e1,V,Sem.run_bind,fo f,Result.andThen_ok,FA B,M,I];simp[setObj,Sem.run,Q,Sem.run_bind,Result.andThen_ok]
          grind
        grind
      grind
    grind
  grind
theorem aos{a f:TypeId}{ok:Bool}(h:Ur P a t v ok=some V):(Instr.typeAssert (.iface t v) f a ok).run P w=.ok V w:=by
  unfold Ur at h;unfold Instr.typeAssert;split at h
  ·cases h
  · rename_i d c i
    rw[Sem.run_bind,run_underlying i,Result.andThen_ok];split at h
    · rename_i b
      simp only[mC]at h;subst h;simp[*]
    · rename_i b
      cases ok with
      |false=>cases h
      | true=>
        simp only[En,tU]at h;obtain⟨z,g,rfl⟩:=h;simp_all[lJ,Sem.run_bind,C5,Result.andThen_ok]
  ·cases h
theorem aoo{vs:Array Value}{i:Nat}(h:vs[i]? =some v):(Instr.extract (.tuple vs) i).run P w=.ok v w:=by simp[Instr.extract,h]
theorem anM{o:Oper}(he:∀x v,e x=some v->r x=v)(h:iL P o.op o.type e K Kp (aT w)):sN P K Kp w ((execOp r o).run P w):=by
  have val:∀(x:Operand),K (e x) (aT w)->sN P K Kp w ((pure (Next.value (r x)):Sem Next).run P w):=by
    intro x hx;exact⟨j0 w,e x,λv hv=>he x v hv,hx⟩
  obtain⟨dst,op,ty,pos,wQ,gd⟩:=o;cases op <;> simp only[iL]at h <;> first|exact h.elim|skip
  case move x=>exact val x h
  case assign x=>exact val x h
  case pick c a b=>
    split at h
    · rename_i t hc
      have hc':=he _ _ hc;split at h
      · have:(execOp r ⟨dst,.pick c a b,ty,pos,wQ,gd⟩).run P w=(pure (Next.value (r a)):Sem Next).run P w:=by simp[execOp,hc',asBool]
        rw[this];exact val a h
      · have:(execOp r ⟨dst,.pick c a b,ty,pos,wQ,gd⟩).run P w=(pure (Next.value (r b)):Sem Next).run P w:=by simp[execOp,hc',asBool]
        rw[this];exact val b h
    ·exact h.elim
  case alloc t=>
    split at h
    · rename_i z hz
      obtain⟨a,w',hr,hs,hk⟩:=Pw (P:=P) h;refine wI ⟨_,w',?_,hs,hk⟩;simp[Instr.alloc,C5 hz,newVar,hr]
    ·exact h.elim
  case box t x=>
    split at h
    · rename_i v hv
      obtain⟨a,w',hr,hs,hk⟩:=Pw (P:=P) h;refine wI ⟨_,w',?_,hs,hk⟩;simp[Instr.box,he _ _ hv,newVar,hr]
    ·exact h.elim
  case load t x=>
    split at h
    · rename_i a ha
      obtain⟨v,hr,hk⟩:=aaa h;refine lS ⟨v,?_,hk⟩;simp[Instr.loadAt,he _ _ ha,Instr.sureAddr,hr]
    ·exact h.elim
  case store t x y=>
    split at h
    · rename_i a v ha hv
      obtain⟨w',hr,hs,hk⟩:=aog h;have:(execOp r ⟨dst,.store t x y,ty,pos,wQ,gd⟩).run P w=.ok .skip w':=by
        simp[execOp,Instr.storeAt,he _ _ ha,he _ _ hv,Instr.sureAddr,hr]
      rw[this];exact⟨hs,hk⟩
    ·exact h.elim
  case nilCheck x=>
    split at h
    · rename_i v hp
      unfold sJ at h;split at h
      · rename_i name first captured
        split at h
        · rename_i u0 uM
          unfold Cq at h;split at h
          · rename_i t u
            obtain⟨hm,h⟩:=h;split at hm
            · rename_i g hmp
              have hf0:first[0]? =some (.iface t u):=by rw[<-Cd,uM];rfl
              have:(execOp r ⟨dst,.nilCheck x,ty,pos,wQ,gd⟩).run P w=.ok (.value (.func (.method name) first captured)) w:=by
                have hn:=aoi (w:=w) (v:=u) (n:=P.types.size+99) hmp;have Gr:(nilAhead (P.types.size+Made.depth) t u name).run P w=.ok (some false) w:=hn;simp only[execOp,he _ _ hp,hf0,Sem.run_bind,Pv,Result.andThen_ok,Gr];simp
              rw[this];exact⟨j0 w,_,λy hy=>by cases hy;rfl,h⟩
            ·exact hm.elim
          ·exact h.elim
        ·exact h.elim
      · rename_i Bp
        clear Bp;unfold yP at h;split at h
        · unfold NN at h;split at h
          · rename_i a
            have:(execOp r ⟨dst,.nilCheck x,ty,pos,wQ,gd⟩).run P w=.ok (.value (dw a)) w:=by simp[execOp,he _ _ hp]
            rw[this];exact⟨j0 w,_,λy hy=>by cases hy;rfl,h⟩
          ·exact h.elim
        · rename_i f xs ys
          have:(execOp r ⟨dst,.nilCheck x,ty,pos,wQ,gd⟩).run P w=.ok (.value (.func (.func f) xs ys)) w:=by simp[execOp,he _ _ hp]
          rw[this];exact⟨j0 w,_,λy hy=>by cases hy;rfl,h⟩
        · rename_i a n c
          have:(execOp r ⟨dst,.nilCheck x,ty,pos,wQ,gd⟩).run P w=.ok (.value (.slice a n c)) w:=by simp[execOp,he _ _ hp]
          rw[this];exact⟨j0 w,_,λy hy=>by cases hy;rfl,h⟩
        · rename_i t u
          have:(execOp r ⟨dst,.nilCheck x,ty,pos,wQ,gd⟩).run P w=.ok (.value (.iface t u)) w:=by simp[execOp,he _ _ hp]
          rw[this];exact⟨j0 w,_,λy hy=>by cases hy;rfl,h⟩
        ·exact h.elim
    ·exact h.elim
  case binOp op t x y yt=>
    split at h
    · rename_i a b ha hb
      obtain⟨v,hr,hk⟩:=anf (w:=w) (x:=x) (y:=y) h;exact lS ⟨v,dM,hk⟩
    ·exact h.elim
  case unOp op t x=>
    split at h
    · rename_i a ha
      obtain⟨v,hr,hk⟩:=ana (P:=P) (w:=w) h;exact lS ⟨v,dM,hk⟩
    ·exact h.elim
  case convert s d x=>
    split at h
    · rename_i a ha
      obtain⟨v,hr,hk⟩:=anh h;exact lS ⟨v,dM,hk⟩
    ·exact h.elim
  case makeInterface t x=>
    split at h
    ·exact h.elim
    · rename_i v d hn hv hd
      refine lS ⟨_,?_,h⟩;rw[he _ _ hv];simp only[Instr.makeInterface,Sem.run_bind,fo hd,Result.andThen_ok];simp
    ·exact h.elim
  case makeFunc fn first captured=>
    split at h
    · rename_i xs ys hx hy
      have h1:=DL he hx;have h2:=DL he hy;refine lS ⟨_,?_,h⟩;have e1:first.map r=xs.toArray:=by rw[<-h1];apply tR;simp
      have e2:captured.map r=ys.toArray:=by rw[<-h2];apply tR;simp
      simp[Instr.makeFunc,e1,e2]
    ·exact h.elim
  case makeSlice t l c=>
    split at h
    · rename_i kl nl kc nc el hl hc hu
      split at h
      · rename_i i z hi hz
        apply rE.Jd;grind[ano]
      ·exact h.elim
    ·exact h.elim
  case slice t x lo hi mx=>
    split at h
    · rename_i a n c l hh m hx hl SO hm
      split at h
      · rename_i el hu
        split at h
        · rename_i size hs
          split at h
          ·exact h.elim
          · rename_i Bp
            obtain⟨s',hr,hk⟩:=anm he hl SO hm hu hs dM h
            exact lS ⟨_,by rw[he _ _ hx];exact hr,hk⟩
        ·exact h.elim
      ·exact h.elim
    · rename_i s l hh hx hl SO hm
      split at h
      · rename_i hu
        have hmx:mx=none:=by
          cases mx with
          |none=>rfl
          |some x=>simp only[qm]at hm;split at hm <;> cases hm
        subst hmx;obtain⟨s',hr,hk⟩:=anl (w:=w) he hl SO hu h;exact lS ⟨_,dM,hk⟩
      ·exact h.elim
    ·exact h.elim
  case fieldAddr t x i=>
    split at h
    · rename_i a f ha hf
      split at h
      · rename_i n hs
        refine lS ⟨_,?_,h⟩;unfold KK at hf;split at hf
        · rename_i fs hu
          rw[he _ _ ha];simp[Instr.fieldAt,fo hu,hf,Instr.sureAddr,fieldPlace,m7 hs]
        ·cases hf
      ·exact h.elim
    ·exact h.elim
  case field t x i=>
    split at h
    · rename_i cs f ha hf
      split at h
      · rename_i v hv
        refine lS ⟨_,?_,h⟩;unfold KK at hf;split at hf
        · rename_i fs hu
          rw[he _ _ ha];simp[Instr.field,fo hu,hf,asAgg,JP hv]
        ·cases hf
      ·exact h.elim
    ·exact h.elim
  case indexAddr t x ix=>
    split at h
    · rename_i a n c k i ha hi
      split at h
      · rename_i el hu
        split at h
        · rename_i size hs
          unfold Ix at h;split at h
          ·obtain⟨h0,h1,hk⟩:=h;refine lS ⟨_,?_,hk⟩;grind[aou]
          ·exact h.elim
        ·exact h.elim
      ·exact h.elim
    · rename_i p k i ha hi
      split at h
      · rename_i n el hu
        split at h
        · rename_i size hs
          unfold Ix at h;split at h
          ·obtain⟨h0,h1,hk⟩:=h;refine lS ⟨_,?_,hk⟩;grind[aot]
          ·exact h.elim
        ·exact h.elim
      ·exact h.elim
    ·exact h.elim
  case index t x ix=>
    split at h
    · rename_i s k i ha hi
      split at h
      · rename_i hu
        obtain⟨b,h0,hb,hk⟩:=h;refine lS ⟨_,?_,hk⟩;rw[he _ _ ha,he _ _ hi];simp[Instr.index,FD,fo hu,h0,hb]
      ·exact h.elim
    · rename_i cs k i ha hi
      split at h
      · rename_i n elem hu
        unfold xN at h;split at h
        · rename_i d z hd hz
          cases xT:uK d with
          |true=>rw[xT]at h;exact h.elim
          | false=>
            rw[xT,Ht]at h;split at h
            · rename_i hs
              obtain⟨h0,h1,h⟩:=h;obtain⟨v,hv,hk⟩:=CU h;refine lS ⟨v,?_,hk⟩;rw[he _ _ ha,he _ _ hi];have hp:(part elem cs (i.toNat*1)).run P w=.ok v w:=JP (by unfold Dh;simp[*])
              simp only[Instr.index,Sem.run_bind,FD,Result.andThen_ok,fo hu,h0,h1,and_self,gu,m7 hs,hp]
            ·exact h.elim
        ·exact h.elim
      ·exact h.elim
    ·exact h.elim
  case makeMap t rs=>
    cases rs with
    |some x=>exact h.elim
    | none=>
      refine wI ⟨.map (some w.heap.size),{w with heap:=w.heap.push (.map #[] 0)},by simp[Instr.makeMap,newObj,Sem.run],xy w _,?_⟩
      rw[Kl];unfold Ez at h;rw[Bm]at h;exact h
  case lookup t x ix ok=>
    split at h
    · rename_i m k kt et hx hi ht
      split at h
      · rename_i kd z hu hz
        cases hk:rY kd with
        |false=>rw[hk]at h;exact h.elim
        | true=>
          rw[hk,lH]at h;obtain⟨v,b,hr,hK⟩:=aom (ok:=ok) ht hu hk hz h;refine lS ⟨_,?_,hK⟩;simp[*]
      ·exact h.elim
    ·exact h.elim
  case mapUpdate t x k v=>
    split at h
    · rename_i m k' v' kt et hx Gu hv ht
      split at h
      · rename_i kd hu
        cases hk:rY kd with
        |false=>rw[hk]at h;exact h.elim
        | true=>
          rw[hk,lH]at h;obtain⟨w',hr,hs,hK⟩:=aol (P:=P) ht hu hk h;have:(execOp r ⟨dst,.mapUpdate t x k v,ty,pos,wQ,gd⟩).run P w=.ok .skip w':=by
            simp[execOp,he _ _ hx,he _ _ Gu,he _ _ hv,hr]
          rw[this];exact⟨hs,hK⟩
      ·exact h.elim
    ·exact h.elim
  case typeAssert x xt asserted ok=>
    split at h
    · rename_i t v hv
      split at h
      · rename_i u hu
        exact lS ⟨_,by rw[he _ _ hv];exact aos hu,h⟩
      ·exact h.elim
    ·exact h.elim
  case extract x i=>
    split at h
    · rename_i vs hv
      split at h
      · rename_i v Su
        exact lS ⟨_,by grind[aoo],h⟩
      ·exact h.elim
    ·exact h.elim
  case build t parts=>
    split at h
    · rename_i ps SD
      obtain⟨v,hv,h,_⟩:=Ul h;refine lS ⟨_,?_,h⟩;have e1:parts.map (λ(i,x)=>(i,r x))=ps.toArray:=by rw[<-adh he SD];apply tR;simp
      rw[e1];exact ank hv
    ·exact h.elim
  case buildSlice t len parts=>
    split at h
    · rename_i ps SD
      obtain⟨cs,el,hv,h,_⟩:=aeO h;refine rE.Jd ?_;have e1:parts.map (λ(i,x)=>(i,r x))=ps.toArray:=by rw[<-adh he SD];apply tR;simp
      rw[e1];exact anj hv h
    ·exact h.elim
  case panic x=>
    split at h
    · rename_i t v hv
      have:(execOp r ⟨dst,.panic x,ty,pos,wQ,gd⟩).run P w=.halt (.panic (.iface t v)) w:=by
        simp[execOp,he _ _ hv,Instr.panic,goPanic,Sem.run]
      rw[this];exact⟨j0 w,h⟩
    ·exact h.elim
  case call c =>
    rw[auR (c:=c) rfl];split at h
    · rename_i b hc
      split at h
      · rename_i vs J9
        have e1:c.args.map r=vs.toArray:=by rw[<-DL he J9];apply tR;simp
        simp only[resolve,hc,e1,invoke,Sem.run_bind,Sem.run_pure,Result.andThen_ok];exact ani h
      ·exact h.elim
    · rename_i f hc
      split at h
      · rename_i fv args uM Ks
        have e1:c.args.map r=args.toArray:=by rw[<-DL he Ks];apply tR;simp
        unfold Fx at h;split at h
        · rename_i zs hz
          cases hd:(Deferred.ofValue fv args.toArray).run P w with
          | halt x w'=>
            exfalso
            unfold cX at h;split at h <;> first|exact h|(simp[Deferred.ofValue]at hd)
          | ok d w'=>
            have hw:w'=w:=by
              unfold Deferred.ofValue at hd;split at hd <;> simp[stuck]at hd <;> simp[*]
            subst hw;have:=anp (K:=K) (Kp:=Kp) (zs:=zs) (args:=args.toArray) hd (by simpa using h)
            simp only[resolve,hc,e1,he _ _ uM,Sem.run_bind,hd,Result.andThen_ok];omega
        ·exact h.elim
      ·exact h.elim
    · rename_i f name hc
      split at h
      · rename_i fv args uM Ks
        have e1:c.args.map r=args.toArray:=by rw[<-DL he Ks];apply tR;simp
        unfold Fw at h;split at h
        · rename_i zs hz
          have:=ZR (P:=P) (w:=w) (K:=K) (Kp:=Kp) (zs:=zs) (args:=args.toArray) (name:=name) (fv:=fv) ag
          simp only[resolve,hc,e1,he _ _ uM,Sem.run_bind,Sem.run_pure,Result.andThen_ok];omega
        ·exact h.elim
      ·exact h.elim
end ops
end Go.Sh
