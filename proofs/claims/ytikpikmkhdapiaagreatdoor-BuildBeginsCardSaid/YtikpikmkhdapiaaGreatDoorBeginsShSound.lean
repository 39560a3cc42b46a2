import Derived.Test.YtikpikmkhdapiaaGreatDoorBeginsShCore
set_option linter.unusedSimpArgs false
set_option linter.unusedVariables false
set_option maxRecDepth 100000
set_option maxHeartbeats 1000000
namespace Go.Sh
variable {P:Program}
theorem A2 (w:World) (b:Nat):(aE w)[b]? = (w.heap[b]?).map oh:=by simp[aE]
theorem Ve (w:World) (a:Addr):w.cell? a=cell (aE w) a:=by
 simp only[World.cell?,cell,A2];cases w.heap[a.block]? with
 | none=>rfl
 | some o=>cases o <;> rfl
theorem agz (w:World) (a:Addr):w.frozen? a=xY (aE w) a:=by
 simp only[World.frozen?,xY,A2];cases w.heap[a.block]? with
 | none=>rfl
 | some o=>cases o <;> rfl
theorem afp (w:World) (a:Addr) (v:Value):aE (w.setCell a v)=put (aE w) a v:=by
 apply Array.ext_getElem?;intro i;simp only[aE,World.setCell,put,Array.getElem?_map,Array.getElem?_modify];split
 ·cases w.heap[i]? with
  | none=>rfl
  | some o=>cases o <;> rfl
 ·rfl
theorem Fx (w:World) (o:Obj):aE { w with heap:=w.heap.push o }=(aE w).push (oh o):=by simp[aE]
theorem TV (w:World) (o:Obj):aE (w.alloc o)=(aE w).push (oh o):=Fx w o
theorem uT (w:World):(aE w).size=w.heap.size:=by simp[aE]
theorem abp (w:World) (a:Addr) (v:Value):aY w (w.setCell a v):=by
 refine ⟨rfl,rfl,rfl,by simp[World.setCell],λb ds h => ?_⟩
 simp only[World.setCell,Array.getElem?_modify];split <;> simp[h]
theorem qJ (w:World) (o:Obj):aY w { w with heap:=w.heap.push o }:=by
 refine ⟨rfl,rfl,rfl,by simp,λb ds h => ?_⟩
 have a:=(Array.getElem?_eq_some_iff.1 h).1;simp only[Array.getElem?_push];rw[if_neg ag];exact h
theorem Ro (w:World) (o:Obj):aY w (w.alloc o):=qJ w o
theorem abq (w:World):aY w w.drew:=⟨rfl,rfl,rfl,Nat.le_refl _,λ_ _ h=>h⟩
theorem Lb {w:World} {a:Addr} {v:Value} (h:cell (aE w) a=some v):(load a).run P w=.ok v w:=by
 have b:w.cell? a=some v:=(Ve w a).trans h;simp[load,Sem.run,b]
theorem abv {w:World} {a:Addr} {v:Value} (g:one v=true) (c:(cell (aE w) a).isSome=true) (b:xY (aE w) a=false) :
  (store a v).run P w=.ok () (w.setCell a v):=by
 obtain ⟨v0,d⟩:=Option.isSome_iff_exists.1 c;have h:w.cell? a=some v0:=(Ve w a).trans d;have f:w.frozen? a=false:=(agz w a).trans b;cases v <;> simp_all [store,Sem.run,one]
theorem abD {a:Addr} {zs:List Value}:∀{i:Nat} {K:List Value->Prop} {w:World} {acc:Array Value},qT (aE w) a i zs K ->
    ∃vs,vs.length=zs.length/\(loadCellsFrom a i zs.length acc).run P w=.ok (acc++vs.toArray) w/\K vs:=by
  induction zs with
  | nil=>intro i K w acc h;exact ⟨[],rfl,by simp[loadCellsFrom],h⟩
  | cons z zs c =>
    intro i K w acc h;obtain ⟨v,g,d⟩:=w8 h;obtain ⟨vs,hl,b,f⟩:=c (acc:=acc.push v) d;refine ⟨v::vs,by simp[hl],?_,f⟩
    simp only[List.length_cons,loadCellsFrom,Sem.run_bind,Lb g,Result.andThen_ok,b];simp
theorem jl {t:TypeId} {n:Nat} {w:World} (h:fB P t=some n):(sizeOf t).run P w=.ok n w:=by
 unfold fB at h;obtain ⟨i,a,rfl⟩:=Option.map_eq_some_iff.1 h;simp[sizeOf,typeInfo,program,Sem.run,a]
theorem Le {t:TypeId} {i:TypeInfo} {w:World} (h:P.info? t=some i):(typeInfo t).run P w=.ok i w:=by
 simp[typeInfo,program,Sem.run,h]
theorem uI {t:TypeId} {z:Value} {w:World} (h:zeroOf P t=some z):(zeroValue t).run P w=.ok z w:=by
 unfold zeroOf at h;obtain ⟨i,b,a⟩:=Option.bind_eq_some_iff.1 h;simp[zeroValue,typeInfo,program,Sem.run,b,a]
theorem cH {t:TypeId} {d:TypeDesc} {w:World} (h:P.underlying t=some d):(underlying t).run P w=.ok d w:=Go.run_underlying h w
theorem Rv {t:TypeId} {d:TypeDesc} {w:World} (h:P.underlying t=some d):(isAgg t).run P w=.ok (oz d) w:=by
 simp only[isAgg,Sem.run_bind,cH h,Result.andThen_ok];cases d <;> rfl
theorem Ru {t:TypeId} {a:Addr} {K:Value->Prop} {w:World} (h:nC P t (aE w) a K):∃v,(loadVar t a).run P w=.ok v w/\K v:=by
  unfold nC at h;split at h
  · rename_i d z i l
    have c:=Rv (w:=w) i;cases g:oz d with
    | true =>
      rw[g] at h c;simp only[dJ] at h;split at h
      · rename_i zs
        split at h
        · rename_i j
          obtain ⟨vs,hl,b,f⟩:=abD (P:=P) (acc:=#[]) h;refine ⟨_,?_,f⟩;simp only[Array.length_toList] at b;simp[loadVar,c,jl j,loadCells,b]
        · exact h.elim
      · exact h.elim
    | false =>
      rw[g] at h c;simp only[dJ] at h;obtain ⟨v,k,f⟩:=w8 h;refine ⟨v,?_,f⟩;simp only[loadVar,Sem.run_bind,c,Result.andThen_ok,Bool.false_eq_true,if_false,Lb k]
  · exact h.elim
theorem Lg {a:Addr} {vs:List Value}:∀{i:Nat} {K:Hp->Prop} {w:World},fI (aE w) a i vs K ->
    ∃b,(storeCells a vs i).run P w=.ok () b/\aY w b/\K (aE b):=by
  induction vs with
  | nil=>intro i K w h;exact ⟨w,by simp[storeCells],aY.refl w,h⟩
  | cons v vs c =>
    intro i K w h;obtain ⟨m,l,k,j⟩:=h;obtain ⟨b,f,d,g⟩:=c (w:=w.setCell (a.add i) v) (by rw[afp];exact j)
    refine ⟨b,?_,(abp w _ _).trans d,g⟩;simp[storeCells,abv m l k,f]
theorem abw {t:TypeId} {a:Addr} {v:Value} {K:Hp->Prop} {w:World} (h:pe P t (aE w) a v K) :
  ∃b,(storeVar t a v).run P w=.ok () b/\aY w b/\K (aE b):=by
 replace h:=QZ h;split at h
 ·rename_i d
  obtain ⟨b,f,c,g⟩:=Lg (P:=P) h;exact ⟨b,by simp[storeVar,jl d,f],c,g⟩
 ·exact h.elim
def ni (P:Program) (K:Option Value->Hp->Prop) (Kp:List PanicEntry->Hp->Prop) (w:World):Result Next->Prop
 | .ok (.value v) w'=>aY w w'/\∃v',(∀x,v'=some x->v=x)/\K v' (aE w')
 | .ok .skip w'=>aY w w'/\K none (aE w')
 | .ok (.enter f args) w'=>aY w w'/\cr P f args.toList (aE w') (λv h=>∃v',(∀x,v'=some x->v=x)/\K v' h) Kp
 | .ok (.round l f tmps assign body) w'=>aY w w'/\RoundIn (Fc none) 0 P l f tmps assign body w' λe wX=>aY w' wX/\match e with
   | .returned v=>∃v',(∀x,v'=some x->v=x)/\K v' (aE wX)
   | .panicked ch=>Kp ch (aE wX)
   | .outgrown=>False
 | .halt (.panic v) w'=>aY w w'/\Kp [{ v,recovered:=false }] (aE w')
 | _=>False
section ops
variable {K:Option Value->Hp->Prop} {Kp:List PanicEntry->Hp->Prop} {w:World} {e ρ:Operand->Option Value} {r:Operand->Value}
theorem run_checkKey {b:Bool} {a:TypeId} {c:TypeDesc} {k:Value} (d:P.underlying a=some c) (f:mU c=true):(Instr.checkKey b 10000 a k).run P w=.ok () w:=by
 show (Instr.checkKey b (9999+1) a k).run P w=.ok () w
 unfold Instr.checkKey;simp only[Sem.run_bind,cH d,Result.andThen_ok];cases c <;> first | rfl | (simp[mU] at f)
theorem run_findKey {b:TypeId} {c:TypeDesc} {k:Value} {d:List MapEntry} {a:Option (Nat × Value)} (f:P.underlying b=some c) (h:Instr.findNow c k d 0=some a):(Instr.findKey b k d).run P w=.ok a w:=by
 unfold Instr.findKey;simp only[Sem.run_bind,cH f,Result.andThen_ok,h,Sem.run_pure]
theorem MR {w:World} {r:Nat} {d:Array MapEntry} {c:Nat} (h:(aE w)[r]? = some (.map d c)):w.heap[r]? = some (.map d c):=by
 rw[A2] at h;cases a:w.heap[r]? with
 | none=>simp[a] at h
 | some o=>cases o <;> simp[a,oh] at h ⊢;exact h
theorem AL {r:Nat} {a:Array MapEntry} {c:Nat} (h:(aE w)[r]? = some (.map a c)):(getObj r).run P w=.ok (.map a c) w:=by
 simp[getObj,Sem.run,MR h]
theorem ag4 {b:TypeDesc} {k:Value}:∀{a:List MapEntry} {i j:Nat} {v:Value},Instr.findNow b k a i=some (some (j,v))->∃e,i<=j/\a[j - i]? = some e/\Instr.sameNow b k e.key=some true:=by
  intro a
  induction a with
  | nil=>intro i j v h;simp[Instr.findNow] at h
  | cons e a c =>
    intro i j v h;unfold Instr.findNow at h;split at h
    · rename_i d
      simp only[Option.some.injEq,Prod.mk.injEq] at h;obtain ⟨rfl,rfl⟩:=h;exact ⟨e,Nat.le_refl _,by simp,d⟩
    · obtain ⟨l,m,g,f⟩:=c h;refine ⟨l,by omega,?_,f⟩
      have:j - i=j - (i+1)+1:=ag;rw[this,List.getElem?_cons_succ];exact g
    · cases h
theorem Wd {a b:ByteArray}:(a == b)=true↔a=b:=by
 constructor
 ·intro h;have h:(a.data == b.data)=true:=h;rw[beq_iff_eq] at h;exact ByteArray.ext h
 ·rintro rfl
  show (a.data == a.data)=true
  simp
theorem abr {a:TypeDesc} {k v:Value} (h:Instr.sameNow a k v=some true):Instr.sameBits 10000 v k=true:=by
 show Instr.sameBits (9999+1) v k=true
 unfold Instr.sameNow at h;split at h
 ·split at h
  ·rename_i b;subst b;simp at h;subst h;simp[Instr.sameBits]
  ·cases h
 ·simp only[Option.some.injEq] at h;rw[Wd] at h;subst h;simp only[Instr.sameBits];exact Wd.2 rfl
 ·simp at h;subst h;simp[Instr.sameBits]
 ·cases h
theorem Fv {w:World} {l:Nat} {o:Obj}:aE { w with heap:=w.heap.setIfInBounds l o }=(aE w).setIfInBounds l (oh o):=by
 apply Array.ext_getElem?;intro i;simp only[aE,Array.getElem?_map,Array.getElem?_setIfInBounds,Array.size_map];split
 ·split <;> simp
 ·rfl
theorem EL {w:World} {l:Nat} {x:Array MapEntry} {c:Nat} {o:Obj} (h:w.heap[l]? = some (.map x c)):aY w { w with heap:=w.heap.setIfInBounds l o }:=by
 refine ⟨rfl,rfl,rfl,by simp,λb ds a => ?_⟩
 have:l≠b:=λe=>by subst e;rw[h] at a;cases a
 simp only[Array.getElem?_setIfInBounds];rw[if_neg this];exact a
theorem abC {t:TypeId} {m:Option Nat} {x B:TypeId} {n:TypeDesc} {k z:Value} {ok:Bool} {K:Value->Bool->Prop} (o:P.underlying t=some (.map x B)) (A:P.underlying x=some n) (C:mU n=true) (y:zeroOf P B=some z) (h:xK (aE w) m n k z K) :
    ∃v b,(Instr.lookup t (.map m) k ok).run P w=.ok (bif ok then .tuple #[v, .bool b] else v) w/\K v b:=by
  have fin:∀(g:Array MapEntry) (a:Option (Nat × Value)),Instr.findNow n k g.toList 0=some a->((m=none/\g=#[])\/∃r c,m=some r/\(getObj r).run P w=.ok (.map g c) w) ->
      (jE z λv=>match a with | some (_,u)=>u=v/\K v true | none=>z=v/\K v false) ->
      ∃v b,(Instr.lookup t (.map m) k ok).run P w=.ok (bif ok then .tuple #[v, .bool b] else v) w/\K v b:=by
    intro g a D l j;obtain ⟨v,j⟩:=w8 j;have f:=run_checkKey (P:=P) (w:=w) (b:=g.isEmpty) (k:=k) A C;have d:=run_findKey (P:=P) (w:=w) A D;cases a with
    | none =>
      obtain ⟨rfl,s⟩:=j;refine ⟨z,false,?_,s⟩;unfold Instr.lookup;rcases l with ⟨rfl,rfl⟩ | ⟨r,c,rfl,q⟩
      · simp only[Sem.run_bind,cH o,Result.andThen_ok,Sem.run_pure,f,d,uI y];cases ok <;> rfl
      · simp only[Sem.run_bind,cH o,Result.andThen_ok,q,Sem.run_pure,f,d,uI y];cases ok <;> rfl
    | some p =>
      obtain ⟨i,u⟩:=p;obtain ⟨rfl,s⟩:=j;refine ⟨u,true,?_,s⟩;unfold Instr.lookup;rcases l with ⟨rfl,rfl⟩ | ⟨r,c,rfl,q⟩
      · simp only[Sem.run_bind,cH o,Result.andThen_ok,Sem.run_pure,f,d];cases ok <;> rfl
      · simp only[Sem.run_bind,cH o,Result.andThen_ok,q,Sem.run_pure,f,d];cases ok <;> rfl
  unfold xK at h;split at h
  · exact fin #[] none rfl (.inl ⟨rfl,rfl⟩) (oY h λ_ j=>j)
  · rename_i r
    obtain ⟨g,c,a,G,F,E⟩:=h;exact fin g a F (.inr ⟨r,c,rfl,AL G⟩) E
theorem abB {t:TypeId} {m:Option Nat} {s E:TypeId} {n:TypeDesc} {k v:Value} {K:Hp->Prop} (y:P.underlying t=some (.map s E)) (x:P.underlying s=some n) (D:mU n=true) (h:Up (aE w) m n k v K) :
    ∃l,(Instr.mapUpdate t (.map m) k v).run P w=.ok () l/\aY w l/\K (aE l):=by
  unfold Up at h;split at h
  · exact h.elim
  · rename_i r
    obtain ⟨j,c,q,o,B,A⟩:=h;have d:=run_checkKey (P:=P) (w:=w) (b:=false) (k:=k) x D;have a:=run_findKey (P:=P) (w:=w) x B;have g:=MR o;cases q with
    | none =>
      refine ⟨{ w with heap:=w.heap.setIfInBounds r (.map (j.push { key:=k,val:=v,born:=c }) (c+1)) },?_,EL g,?_⟩
      · unfold Instr.mapUpdate;simp only[Sem.run_bind,cH y,Result.andThen_ok,AL o,d,a];simp[setObj,Sem.run,g]
      · rw[Fv];exact A
    | some p =>
      obtain ⟨i,u⟩:=p;obtain ⟨e,_,z,C⟩:=ag4 B;refine ⟨{ w with heap:=w.heap.setIfInBounds r (.map (j.modify i λe=>{ e with key:=k,val:=v }) c) },?_,EL g,?_⟩
      · unfold Instr.mapUpdate;have f:((j[i]?).map (·.key)).getD k=e.key:=by
          rw[Nat.sub_zero] at z;have:j[i]? = some e:=by simpa using z
          simp[this]
        simp only[Sem.run_bind,cH y,Result.andThen_ok,AL o,d,a,f,Instr.keyThatStays,(abr C),if_true,Sem.run_pure];simp[setObj,Sem.run,g]
      · rw[Fv];exact A
def dh (P:Program) (s:Sem Value) (w:World) (K:Value->Hp->Prop):Prop:=∃v w',s.run P w=.ok v w'/\aY w w'/\K v (aE w')
theorem dh.up {s:Sem Value} {K:Option Value->Hp->Prop} (h:dh P s w λv h=>K (some v) h) :
  ni P K Kp w ((do pure (Next.value (<-s)):Sem Next).run P w):=by
 obtain ⟨v,w',hr,hs,hk⟩:=h;simp only[Sem.run_bind,hr,Result.andThen_ok,Sem.run_pure];exact ⟨hs,some v,λx hx=>by cases hx;rfl,hk⟩
theorem La {cs:Array Value} {t:TypeId} {K:Addr->Hp->Prop} (h:aD (aE w) cs t K) :
  ∃a b,(newRow t cs).run P w=.ok a b/\aY w b/\K a (aE b) :=
 ⟨⟨w.heap.size,0,none⟩,{ w with heap:=w.heap.push (.cells cs t) },by simp[newRow,newObj,Sem.run],qJ w _,by rw[Fx,<-uT w];exact h⟩
theorem Rt {p:Option Addr} {n:Nat} {vs:List Value} (a:Addr) (k:p=some a) (h:rd (aE w) p n vs):(loadCells a n).run P w=.ok vs.toArray w:=by
  subst k;obtain ⟨hl,l⟩:=h;subst hl;have key:∀(c:List Value) (i:Nat) (b:Array Value),(∀(j:Nat) v,c[j]? = some v->cell (aE w) (a.add (i+j))=some v) ->
      (loadCellsFrom a i c.length b).run P w=.ok (b++c.toArray) w:=by
    intro c
    induction c with
    | nil=>intro i b _;simp[loadCellsFrom]
    | cons u c g =>
      intro i b h;have f:=h 0 u rfl;simp only[Nat.add_zero] at f;simp only[List.length_cons,loadCellsFrom,Sem.run_bind,Lb f,Result.andThen_ok];rw[g (i+1) (b.push u) (λj v d=>by have:=h (j+1) v d;rw[show i+(j+1)=i+1+j by omega] at this;exact this)]
      simp
  have:=key vs 0 #[] (λj v d=>by rw[Nat.zero_add];exact l j v d)
  simpa[loadCells] using this
theorem Lf {a:Option Addr} {m n c:Nat} {vs:List Value} (h:rd (aE w) a (m*n) vs):(Builtin.firstCells n m (.slice a m c)).run P w=.ok vs.toArray w:=by
 cases a with
 | none=>simp only[rd] at h;subst h;simp[Builtin.firstCells]
 | some a=>simp only[Builtin.firstCells];exact Rt a rfl h
theorem KS {op:BinOp} {k:IntKind} {a b:Int} {t:TypeId} {kb:IntKind} {K:Value->Prop} (h:pF op k a b K) (hk:k=kb\/op=.shl\/op=.shr) :
  ∃v,(binOp op t (.int k a) (.int kb b)).run P w=.ok v w/\K v:=by
 cases op
 case shl=>obtain ⟨h0,h⟩:=h;refine ⟨_,?_,h⟩;simp[binOp,Op.shift,Int.not_lt.2 h0]
 case shr=>obtain ⟨h0,h⟩:=h;refine ⟨_,?_,h⟩;simp[binOp,Op.shift,Int.not_lt.2 h0]
 case quo=>obtain rfl:=hk.resolve_right aS;obtain ⟨h0,h⟩:=h;refine ⟨_,?_,h⟩;simp[binOp,Op.intDiv,h0]
 case rem=>obtain rfl:=hk.resolve_right aS;obtain ⟨h0,h⟩:=h;refine ⟨_,?_,h⟩;simp[binOp,Op.intDiv,h0]
 all_goals
  obtain rfl:=hk.resolve_right aS;refine ⟨_,?_,h⟩;simp[binOp,Op.intArith,Op.intBits,Op.intCmp,dF]
theorem aaB {op:BinOp} {a b:ByteArray} {t:TypeId} {K:Value->Prop} (h:qN op a b K) :
  ∃v,(binOp op t (.string a) (.string b)).run P w=.ok v w/\K v:=by
 cases op <;> simp only[qN] at h <;> first
  | exact h.elim
  | exact ⟨_,by simp[binOp,Op.stringOp],h⟩
  | (obtain ⟨c,h⟩:=h;exact ⟨_,by simp only[binOp,Op.stringOp];rw[if_neg ag];simp,h⟩)
theorem E4 {t:TypeId} {cs:Array Value} {off:Nat} {v:Value} (h:xC P t cs off=some v):(part t cs off).run P w=.ok v w:=by
  unfold xC at h;split at h
  · rename_i d n c f
    have a:=Rv (w:=w) c;cases b:oz d with
    | true =>
      rw[b] at h a;cases h;simp[part,a,jl f]
    | false =>
      rw[b] at h a;simp only[cond_false] at h;simp only[part,Sem.run_bind,a,Result.andThen_ok,Bool.false_eq_true,if_false,h,Sem.run_pure]
  · cases h
theorem KU {d:Nat} {t:TypeId} {x y:Value} {r:Bool} (h:tj P t x y=some r):(Op.equalIn (d+1) t x y).run P w=.ok r w:=by
 unfold tj at h;split at h
 case h_9=>cases h
 all_goals
  rename_i hu
  cases x <;> cases y <;> (try simp only[reduceCtorEq,Option.some.injEq,Option.ite_none_right_eq_some] at h)
 case h_2.int.int=>obtain ⟨rfl,rfl⟩:=h;simp[Op.equalIn,cH hu]
 case h_4.pointer.pointer p q=>cases p <;> cases q <;> simp[xH] at h <;> subst h <;> simp[Op.equalIn,cH hu]
 case h_5.slice.slice p _ _ q _ _=>cases p <;> cases q <;> simp[xH] at h <;> subst h <;> simp[Op.equalIn,cH hu]
 case h_6.map.map p q=>cases p <;> cases q <;> simp[xH] at h <;> subst h <;> simp[Op.equalIn,cH hu]
 case h_7.nilIface.nilIface ms =>
  cases hm:Array.isEmpty ms with
  | true=>rw[hm] at h;simp only[cond_true,Option.some.injEq] at h;subst h;simp[Op.equalIn,cH hu]
  | false=>rw[hm] at h;cases h
 all_goals first
  | (subst h;simp[Op.equalIn,cH hu];done)
theorem LC {c:BinOp} {t:TypeId} {x y:Operand} {a b:Value} (d:oc a b=true) (f:¬(a=.nilIface/\b=.nilIface)):(eqGuard c t x y a b).run P w=.ok () w:=by
 unfold eqGuard;cases c <;> first | rfl | (cases a <;> first | rfl | (cases b <;> first | rfl | (simp[oc] at d;done) | (exact absurd ⟨rfl,rfl⟩ f)))
theorem acn {d:BinOp} {t:TypeId} {x y:Operand} {a b:Value} {r:Bool} (k:oc a b=true) (c:tj P t a b=some r):(eqGuard d t x y a b).run P w=.ok () w:=by
 by_cases g:a=.nilIface/\b=.nilIface
 ·obtain ⟨rfl,rfl⟩:=g;unfold tj at c;split at c <;> simp only[reduceCtorEq] at c
  rename_i f i
  have l:f.isEmpty=true:=by cases h:f.isEmpty with | true=>rfl | false=>rw[h] at c;cases c
  have j:(Op.eqGuardIn Op.maxDepth t .nilIface .nilIface).run P w=.ok false w:=by
   show (Op.eqGuardIn (9999+1) t .nilIface .nilIface).run P w=.ok false w
   unfold Op.eqGuardIn;simp[cH i,l]
  unfold eqGuard;cases d <;> first | rfl | (simp only[Sem.run_bind];split <;> first | rfl | (simp[j];done) | skip)
 ·exact LC k g
theorem EO:(program:Sem Program).run P w=.ok P w:=by simp[program,Sem.run]
theorem aaE {d:Nat} {xs ys:Array Value}:∀{fs:List Field} {r:Bool},Bz P fs xs ys=some r ->
    (forIn (m:=Sem) fs ((none,()):Option Bool × Unit) λf _=>if f.name ≠ "_" then (do if !(<-Op.equalIn (d+1) f.type (<-part f.type xs f.offset) (<-part f.type ys f.offset)) then pure (.done (some false,())) else pure (.yield (none,()))) else pure (.yield (none,()))).run P w=.ok (if r then none else some false,()) w:=by
  intro fs
  induction fs with
  | nil=>intro r h;simp only[Bz,Option.some.injEq] at h;subst h;simp
  | cons f fs ih =>
    intro r h;unfold Bz at h;split at h
    · cases h
    · rename_i hn
      split at h
      · rename_i a b ha hb
        split at h
        · rename_i q q' hq hq'
          simp only[Option.some.injEq] at h;subst h;have:=ih hq';simp only[List.forIn_cons,Sem.run_bind,hn,ne_eq,not_false_eq_true,if_true,E4 ha,E4 hb,Result.andThen_ok,KU hq];cases q
          · simp
          · simp only[Bool.not_true,Bool.false_eq_true,if_false,Sem.run_pure,Result.andThen_ok,Bool.true_and];exact this
        · cases h
      · cases h
theorem Q8 {op:BinOp} {t:TypeId} {x y:Operand} {Z b:Array Value} {r:Bool} (h:FU P t Z b=some r) :
    (eqGuard op t x y (.agg Z) (.agg b)).run P w=.ok () w/\(Op.equal t (.agg Z) (.agg b)).run P w=.ok r w:=by
  unfold FU at h;split at h
  · rename_i f c
    cases a:P.stoodInHeld t || P.eqGuardType P.depth t with
    | true=>rw[a] at h;cases h
    | false =>
      rw[a,cond_false] at h;simp only[Bool.or_eq_false_iff] at a;refine ⟨?_,?_⟩
      · unfold eqGuard;cases op <;> first | rfl | simp[EO,a.2]
      · show (Op.equalIn (9999+1) t (.agg Z) (.agg b)).run P w=.ok r w
        have:=aaE (P:=P) (w:=w) (d:=9998) h;unfold Op.equalIn;simp only[Sem.run_bind,cH c,Result.andThen_ok,EO,a.1,Bool.false_eq_true,if_false];rw[<-Array.forIn_toList];rw[show (9999:Nat)=9998+1 from rfl,this];cases r <;> simp
  · cases h
theorem aaC {op:BinOp} {t:TypeId} {x y:Operand} {a b:Value} {K:Value->Prop} (h:qO P op t a b K) :
  ∃v,(do eqGuard op t x y a b;binOp op t a b:Sem Value).run P w=.ok v w/\K v:=by
 have step:∀{s:Sem Value} {v:Value},oc a b=true->¬(a=.nilIface/\b=.nilIface)->s.run P w=.ok v w->(do eqGuard op t x y a b;s:Sem Value).run P w=.ok v w:=by
  intro s v hp hn hs;simp only[Sem.run_bind,LC hp hn,Result.andThen_ok,hs]
 have QX:∀{s:Sem Value} {v:Value} {r:Bool},oc a b=true->tj P t a b=some r->s.run P w=.ok v w->(do eqGuard op t x y a b;s:Sem Value).run P w=.ok v w:=by
  intro s v r hp hr hs;simp only[Sem.run_bind,acn hp hr,Result.andThen_ok,hs]
 unfold qO at h;split at h
 ·rename_i k n
  split at h
  ·rename_i k' m
   split at h
   ·obtain ⟨v,hr,hk⟩:=KS (P:=P) (w:=w) (t:=t) (kb:=k') h (.inr (.inl rfl));exact ⟨v,step rfl (λq=>by cases q.1) hr,hk⟩
   ·obtain ⟨v,hr,hk⟩:=KS (P:=P) (w:=w) (t:=t) (kb:=k') h (.inr (.inr rfl));exact ⟨v,step rfl (λq=>by cases q.1) hr,hk⟩
   ·split at h
    ·rename_i hk;obtain ⟨v,hr,hk⟩:=KS (P:=P) (w:=w) (t:=t) (kb:=k') h (.inl hk);exact ⟨v,step rfl (λq=>by cases q.1) hr,hk⟩
    ·exact h.elim
  ·exact h.elim
 ·split at h
  ·obtain ⟨v,hr,hk⟩:=aaB (P:=P) (w:=w) (t:=t) h;exact ⟨v,step rfl (λq=>by cases q.1) hr,hk⟩
  ·exact h.elim
 ·rename_i xs
  split at h
  ·rename_i ys
   split at h
   ·split at h
    ·rename_i q hq
     obtain ⟨h1,h2⟩:=Q8 (P:=P) (w:=w) (op:=.eql) (x:=x) (y:=y) hq;exact ⟨_,by simp only[Sem.run_bind,h1,Result.andThen_ok,binOp,h2,Sem.run_pure],h⟩
    ·exact h.elim
   ·split at h
    ·rename_i q hq
     obtain ⟨h1,h2⟩:=Q8 (P:=P) (w:=w) (op:=.neq) (x:=x) (y:=y) hq;exact ⟨_,by simp only[Sem.run_bind,h1,Result.andThen_ok,binOp,h2,Sem.run_pure],h⟩
    ·exact h.elim
   ·exact h.elim
  ·exact h.elim
 ·rename_i NC Nz TY
  have he1:oc a b=true->binOp .eql t a b=(do pure (.bool (<-Op.equal t a b))):=by
   intro hp;cases a <;> first | rfl | (exfalso;first | exact NC _ _ rfl | exact Nz _ rfl | exact TY _ rfl) | (simp[oc] at hp;done) | (cases b <;> rfl)
  have he2:oc a b=true->binOp .neq t a b=(do pure (.bool (!(<-Op.equal t a b)))):=by
   intro hp;cases a <;> first | rfl | (exfalso;first | exact NC _ _ rfl | exact Nz _ rfl | exact TY _ rfl) | (simp[oc] at hp;done) | (cases b <;> rfl)
  split at h
  ·split at h
   ·rename_i hg
    split at h
    ·rename_i r hr
     have he:(Op.equal t a b).run P w=.ok r w:=KU hr;exact ⟨_,QX hg hr (by rw[he1 hg];simp only[Sem.run_bind,Result.andThen_ok,he,Sem.run_pure]),h⟩
    ·exact h.elim
   ·exact h.elim
  ·split at h
   ·rename_i hg
    split at h
    ·rename_i r hr
     have he:(Op.equal t a b).run P w=.ok r w:=KU hr;exact ⟨_,QX hg hr (by rw[he2 hg];simp only[Sem.run_bind,Result.andThen_ok,he,Sem.run_pure]),h⟩
    ·exact h.elim
   ·exact h.elim
  ·exact h.elim
theorem Q9 {d:Nat} {t:TypeId} {v:Value} {K:Bool->Prop} {f c:Array TypeId} {B:Bool} (a:P.underlying t=some (.func f c B)) (h:kR v K):∃b,(Op.equalIn (d+1) t v .nilFunc).run P w=.ok b w/\K b:=by
 unfold kR at h;split at h
 ·exact ⟨false,by simp[Op.equalIn,cH a],h⟩
 ·exact ⟨true,by simp[Op.equalIn,cH a],h⟩
 ·exact h.elim
theorem aaD {op:BinOp} {t:TypeId} {x y:Operand} {a b:Value} {K:Value->Prop} (h:qP P op t a b K) :
  ∃v,(do eqGuard op t x y a b;binOp op t a b:Sem Value).run P w=.ok v w/\K v:=by
 unfold qP at h;split at h
 ·split at h
  ·rename_i hu
   have hg:∀op,kR a (λ_=>True)->(eqGuard op t x y a .nilFunc).run P w=.ok () w:=by
    intro op hf;refine LC ?_ (λq=>by cases q.2)
    unfold kR at hf;split at hf <;> first | rfl | exact hf.elim
   have tr:∀{K':Bool->Prop},kR a K'->kR a (λ_=>True):=by
    intro K' hf;unfold kR at hf ⊢;split at hf <;> first | trivial | exact hf.elim
   split at h
   ·obtain ⟨r,hr,hk⟩:=Q9 (P:=P) (w:=w) (d:=9999) hu h;refine ⟨_,?_,hk⟩;have hb:binOp .eql t a .nilFunc=(do pure (.bool (<-Op.equal t a .nilFunc))):=by
     have:=tr h;unfold kR at this;split at this <;> first | rfl | exact this.elim
    have sV:(Op.equal t a .nilFunc).run P w=.ok r w:=hr;simp only[Sem.run_bind,hg _ (tr h),Result.andThen_ok,hb,sV,Sem.run_pure]
   ·obtain ⟨r,hr,hk⟩:=Q9 (P:=P) (w:=w) (d:=9999) hu h;refine ⟨_,?_,hk⟩;have hb:binOp .neq t a .nilFunc=(do pure (.bool (!(<-Op.equal t a .nilFunc)))):=by
     have:=tr h;unfold kR at this;split at this <;> first | rfl | exact this.elim
    have sV:(Op.equal t a .nilFunc).run P w=.ok r w:=hr;simp only[Sem.run_bind,hg _ (tr h),Result.andThen_ok,hb,sV,Sem.run_pure]
   ·exact h.elim
  ·exact h.elim
 ·exact aaC h
theorem aaA {b:UnOp} {a:Value} {K:Value->Prop} (h:qM b a K):∃v,(Op.unary b a).run P w=.ok v w/\K v:=by
 unfold qM at h;split at h
 ·split at h
  ·exact ⟨_,by simp[Op.unary],h⟩
  ·exact h.elim
 ·split at h
  ·exact ⟨_,by simp[Op.unary,Op.intArith],h⟩
  ·exact h.elim
 ·split at h
  ·exact ⟨_,by simp only[Op.unary,Op.intBits];rfl,h⟩
  ·exact h.elim
 ·exact h.elim
theorem aaN {s:Sl} {K:ByteArray->Prop} (h:nZ (aE w) s K):∃b,(Conv.bytesToString s.v).run P w=.ok (.string b) w/\K b:=by
  obtain ⟨bs,d,i⟩:=h;refine ⟨_,?_,i⟩;obtain ⟨a,n,c⟩:=s;cases a with
  | none =>
    simp only[rd,List.map_eq_nil_iff] at d;subst d;simp only[Sl.v,Conv.bytesToString,Sem.run_pure];rfl
  | some a =>
    have hl:=Rt (P:=P) (w:=w) a rfl d;have key:∀(l:List UInt8) (s:ByteArray),(l.map λb:UInt8=>(b.toNat:Int)).foldl (λr n=>r.push (UInt8.ofNat n.toNat)) s=⟨s.data++l.toArray⟩:=by
      intro l
      induction l with
      | nil=>intro s;simp
      | cons b l g=>intro s;simp only[List.map_cons,List.foldl_cons,g];simp[ByteArray.push]
    have f:(loadCells a n).run P w=.ok ((bs.map λb:UInt8=>(b.toNat:Int)).map (Value.int .u8)).toArray w:=by rw[hl];simp[Function.comp_def]
    rw[show Sl.v ⟨some a,n,c⟩=.slice (some a) n c from rfl,run_bytesToString w a n c _ f,key];simp[ByteArray.empty,ByteArray.emptyWithCapacity];rfl
theorem aaF {s d:TypeId} {V:Value} {K:Value->Prop} (h:vA P s d V (aE w) K):∃v,(convert s d V).run P w=.ok v w/\K v:=by
 unfold vA at h;split at h
 ·rename_i a c
  split at h
  ·refine ⟨_,?_,h⟩;simp[convert,cH a,cH c,Conv.intToInt]
  ·exact h.elim
 ·rename_i a c
  split at h
  ·refine ⟨_,?_,h⟩;simp[convert,cH a,cH c]
  ·exact h.elim
 ·rename_i el a c
  split at h
  ·rename_i i
   obtain ⟨b,f,g⟩:=aaN (P:=P) h;refine ⟨_,?_,g⟩;rw[run_convert_bytes_string w s d el _ _ _ a i c];exact f
  ·exact h.elim
 ·exact h.elim
theorem AN {k:IntKind} {n:Int}:(asIntOf (.int k n)).run P w=.ok (k,n) w:=by simp[asIntOf]
theorem Rw {k:IntKind} {n:Int} {m:Nat} {a:BoundsCode} (c:0<=n) (b:n<=m):(Instr.sliceBound (.int k n) m a).run P w=.ok n.toNat w:=by
 simp[Instr.sliceBound,AN,c,b]
theorem AZ {e:Operand->Option Value} {r:Operand->Value} (b:∀x v,e x=some v->r x=v) {o:Option Operand} {l:Option Int} (h:lM e o=some l) :
    (o=none/\l=none)\/∃x k n,o=some x/\r x=.int k n/\l=some n:=by
  cases o with
  | none=>simp[lM] at h;exact .inl ⟨rfl,h.symm⟩
  | some x =>
    simp only[lM] at h;split at h
    · rename_i k n a;cases h;exact .inr ⟨x,k,n,rfl,b _ _ a,rfl⟩
    · cases h
theorem aaK {sl:Sl} {i:Nat} {f g d:Option Operand} {l b m:Option Int} {t el:TypeId} {K:Sl->Prop} (j:∀x v,e x=some v->r x=v) (hl:lM e f=some l) (y:lM e g=some b)
  (s:lM e d=some m) (p:P.underlying t=some (.slice el)) (q:fB P el=some i) (o:(b.isNone && m.isSome)=false) (h:gp sl i l b m K) :
  ∃k,(Instr.sliceAt t sl.v (f.map r) (g.map r) (d.map r)).run P w=.ok (Sl.v k) w/\K k:=by
 obtain ⟨D,C,B,A,u⟩:=h;refine ⟨_,?_,u⟩;obtain ⟨a,n,c⟩:=sl;have z:(Instr.sliceBounds true n c (f.map r) (g.map r) (d.map r)).run P w=.ok ((l.getD 0).toNat,(b.getD n).toNat,(m.getD c).toNat) w:=by
  rcases AZ j s with ⟨rfl,rfl⟩ | ⟨xm,J,H,rfl,N,rfl⟩ <;>
   rcases AZ j y with ⟨rfl,rfl⟩ | ⟨G,M,I,rfl,O,rfl⟩ <;>
   rcases AZ j hl with ⟨rfl,rfl⟩ | ⟨F,L,nl,rfl,E,rfl⟩ <;>
   (try simp at o) <;> simp only[Option.getD_none,Option.getD_some] at D C B A <;>
   simp only[Instr.sliceBounds,Option.map_some,Option.map_none,Sem.run_bind,Sem.run_pure,Result.andThen_ok, *] <;>
   (repeat (rw[Rw ag ag];simp only[Result.andThen_ok])) <;> simp
 simp only[Sl.v,Instr.sliceAt,Sem.run_bind,cH p,Result.andThen_ok,Instr.slice,z,jl q,Sem.run_pure,jH]
theorem aaJ {s:ByteArray} {a b:Option Operand} {l c:Option Int} {t:TypeId} {K:ByteArray->Prop} (f:∀x v,e x=some v->r x=v) (hl:lM e a=some l) (j:lM e b=some c)
  (g:P.underlying t=some .string) (h:lU s l c K) :
  ∃d,(Instr.sliceAt t (.string s) (a.map r) (b.map r) none).run P w=.ok (.string d) w/\K d:=by
 obtain ⟨o,n,m,i⟩:=h;refine ⟨_,?_,i⟩;have k:(Instr.sliceBounds false s.size s.size (a.map r) (b.map r) none).run P w=.ok ((l.getD 0).toNat,(c.getD s.size).toNat,s.size) w:=by
  rcases AZ f j with ⟨rfl,rfl⟩ | ⟨u,A,y,rfl,B,rfl⟩ <;>
   rcases AZ f hl with ⟨rfl,rfl⟩ | ⟨q,z,nl,rfl,p,rfl⟩ <;>
   simp only[Option.getD_none,Option.getD_some] at o n m <;>
   simp only[Instr.sliceBounds,Option.map_some,Option.map_none,Sem.run_bind,Sem.run_pure,Result.andThen_ok, *] <;>
   (repeat (rw[Rw ag ag];simp only[Result.andThen_ok])) <;> simp
 simp only[Instr.sliceAt,Sem.run_bind,cH g,Result.andThen_ok,Instr.slice,k,Sem.run_pure,Option.isSome_none,Bool.false_eq_true,if_false]
theorem abK {a:Addr} {t el:TypeId} {n m c:Nat} {k:IntKind} {i:Int} (b:P.underlying t=some (.slice el)) (d:fB P el=some m) (g:0<=i) (f:i < n) :
  (Instr.indexAt t (.slice (some a) n c) (.int k i)).run P w=.ok (.pointer (some (a.add (i.toNat*m)))) w:=by
 simp[Instr.indexAt,AN,cH b,jl d,g,f]
theorem abJ {a:Addr} {t el:TypeId} {n m:Nat} {k:IntKind} {i:Int} (b:P.underlying t=some (.array n el)) (c:fB P el=some m) (f:0<=i) (d:i < n) :
  (Instr.indexAt t (.pointer (some a)) (.int k i)).run P w=.ok (.pointer (some (a.add (i.toNat*m)))) w:=by
 simp[Instr.indexAt,AN,cH b,jl c,f,d,Instr.sureAddr]
theorem aaL {el t:TypeId} {i:TypeInfo} {z:Value} {b d:IntKind} {l c:Int} {K:Sl->Hp->Prop} (j:P.underlying t=some (.slice el)) (f:P.info? el=some i) (g:zeroOf P el=some z)
  (h:bI (aE w) el z.cells i.size i.bytes l c K):dh P (Instr.makeSlice t (.int b l) (.int d c)) w λv o=>∃s:Sl,v=s.v/\K s o:=by
 obtain ⟨n,m,q,p,k⟩:=h;have a:i.zero=some z:=by simpa[zeroOf,f] using g
 exact ⟨_,_,run_make w t el i z j f a b d l c n m ag ag,Ro w _,⟨some ⟨w.heap.size,0,none⟩,l.toNat,c.toNat⟩,rfl,by rw[TV,<-uT w];exact k⟩
theorem Zg {a:Array TypeId} {t u:TypeId} (h:a.toList=[t,u]):a=#[t,u]:=by
 rw[<-Array.toArray_toList (xs:=a),h]
theorem Rc {ts:Array TypeId} {t u el ty:TypeId} {du:TypeDesc} {i:TypeInfo} {z x:Value} {s:Sl} {n:Nat} {vals:List Value->Prop} {K:Sl->Hp->Prop} (ht:ts.toList=[t,u]) (hu:P.underlying t=some (.slice el))
    (NR:P.underlying u=some du) (hni:∀k,du≠.int k) (hi:P.info? el=some i) (hz:zeroOf P el=some z)
    (hlen:Builtin.lenOf x=pure n) (NP:∀(w':World) vs,aE w'=aE w->vals vs->(Builtin.firstCells i.size n x).run P w'=.ok vs.toArray w')
    (h:Ap (aE w) el z.cells i.size i.bytes s n vals K):dh P (Builtin.append_ ts ty #[s.v,x]) w λv h'=>∃s:Sl,v=s.v/\K s h':=by
  obtain ⟨vs,hv,h⟩:=h;have jq:fB P el=some i.size:=by simp[fB,hi]
  have Bh:i.zero=some z:=by simpa[zeroOf,hi] using hz
  obtain rfl:=Zg ht;obtain ⟨a,m,c⟩:=s;have anm:∀{α:Type} (k:Sem α) (k':Sem α),(match du with | .int _=>k | _=>k')=k':=by
    intro α k k';cases du <;> first | rfl | exact absurd rfl (hni _)
  rcases h with ⟨hr,h⟩ | ⟨hr,af3,h63,old,hold,hk⟩
  · have sV:m+n<=c:=hr;cases a with
    | none =>
      refine ⟨_,w,?_,aY.refl w,⟨none,m+n,c⟩,rfl,h⟩;simp[Builtin.append_,cH hu,cH NR,jl jq,hlen,sV,NP w vs rfl hv,Sl.v]
    | some a =>
      obtain ⟨w',mW,hs,hk⟩:=Lg (P:=P) h;refine ⟨_,w',?_,hs,⟨some a,m+n,c⟩,rfl,hk⟩;have afd:(storeCells (a.add (m*i.size)) vs).run P w=.ok () w':=mW;simp[Builtin.append_,cH hu,cH NR,jl jq,hlen,sV,NP w vs rfl hv,Sl.v,afd]
  · have sV:¬(m+n<=c):=by simp only at hr;omega
    have h2:m+n < 2 ^ 63:=h63;have agk:¬(9223372036854775807 < ((m:Int)+(n:Int))):=ag;have agm:¬(281474976710656 < Builtin.nextslicecap (m+n) c*i.bytes):=by simp only at af3;omega
    have Br:=grownCap_ge w (m+n) c el;have fO:grownCap w (m+n) c el < 2 ^ 63:=by
      have fO:=Nat.mod_lt (w.tape w.drawn (.appendCap (m+n) c el)) (show 0 < 2 ^ 63 - (m+n) by omega)
      simp only[grownCap,Question.cut] at Br ⊢;omega
    have sY:=hk (grownCap w (m+n) c el) Br fO;have ho:(Builtin.firstCells i.size m (.slice a m c)).run P w.drew=.ok old.toArray w.drew:=Lf (w:=w.drew) hold;refine ⟨_,w.drew.alloc (.cells ((old++vs).toArray++Builtin.zeroCells z.cells (grownCap w (m+n) c el - (m+n))) el),?_,(abq w).trans (Ro _ _),⟨some ⟨w.heap.size,0,none⟩,m+n,grownCap w (m+n) c el⟩,rfl,by rw[TV,<-uT w];exact sY⟩
    simp[Builtin.append_,cH hu,cH NR,jl jq,typeInfo,zeroValue,hi,Bh,hlen,sV,agk,agm,Question.forced,NP w.drew vs rfl hv,ho,newRow,grownCap,Sl.v]
    congr 2
    apply Array.ext';simp[List.append_assoc]
theorem yg {e:Operand->Option Value} {r:Operand->Value} (f:∀x v,e x=some v->r x=v):∀{a:List Operand} {vs:List Value},eV e a=some vs->a.map r=vs:=by
  intro a
  induction a with
  | nil=>intro vs h;simp[eV] at h;simp[h]
  | cons x a c =>
    intro vs h;simp only[eV] at h;split at h
    · rename_i v g d b;cases h;simp[f _ _ d,c b]
    · cases h
theorem UL {e:Operand->Option Value} {r:Operand->Value} (f:∀x v,e x=some v->r x=v):∀{a:List (Nat × Operand)} {vs:List (Nat × Value)},rq e a=some vs->a.map (λ(i,x)=>(i,r x))=vs:=by
  intro a
  induction a with
  | nil=>intro vs h;simp[rq] at h;simp[h]
  | cons x a c =>
    intro vs h;obtain ⟨i,x⟩:=x;simp only[rq] at h;split at h
    · rename_i v g d b;cases h;simp[f _ _ d,c b]
    · cases h
theorem ag5 {b:List Field}:∀{a:List (Nat × Nat)},places P b=some a->(b.mapM λf=>Functor.map (Prod.mk f.offset) (sizeOf f.type):Sem (List (Nat × Nat))).run P w=.ok a w:=by
  induction b with
  | nil=>intro a h;simp[places] at h;subst h;simp
  | cons f b c =>
    intro a h;simp only[places] at h;split at h
    · rename_i n r g d
      cases h;simp[List.mapM_cons,jl g,c d]
    · cases h
theorem aaI {t:TypeId} {i:Array (Nat × Value)} {v:Value} (h:Gw P t i.toList=some v):(Instr.build t i).run P w=.ok v w:=by
 unfold Gw at h;split at h
 ·rename_i z a b c
  split at h
  ·rename_i k m
   obtain ⟨cs,d,rfl⟩:=Option.map_eq_some_iff.1 h;have o:=ag5 (P:=P) (w:=w) m;have g:(a.mapM λf=>Functor.map (Prod.mk f.offset) (sizeOf f.type):Sem (Array (Nat × Nat))).run P w=.ok k.toArray w:=by
    rw[<-Array.toArray_toList (xs:=a),List.mapM_toArray];simp[o]
   simp[Instr.build,uI b,cH c,g,d]
  ·cases h
 ·rename_i z n el b c
  split at h
  ·rename_i j l
   obtain ⟨cs,d,rfl⟩:=Option.map_eq_some_iff.1 h;simp[Instr.build,uI b,cH c,jl l,d]
  ·cases h
 ·cases h
theorem aaH {t:TypeId} {len:Nat} {j:Array (Nat × Value)} {cs:Array Value} {el:TypeId} {K:Sl->Hp->Prop} (h:Gz P t len j.toList=some (cs,el))
  (q:aD (aE w) cs el λa d=>K ⟨some a,len,len⟩ d):dh P (Instr.buildSlice t len j) w λv d=>∃s:Sl,v=s.v/\K s d:=by
 unfold Gz at h;split at h
 ·rename_i x k
  split at h
  ·rename_i b z l p
   split at h
   ·rename_i A
    obtain ⟨y,c,u⟩:=Option.map_eq_some_iff.1 h;cases u;obtain ⟨a,o,m,f,g⟩:=La (P:=P) q;refine ⟨_,o,?_,f,_,rfl,g⟩;have i:¬(16777216 < len*b):=ag;unfold zs at c
    by_cases n:len*b=0
    ·simp[Instr.buildSlice,cH k,jl l,n] at c ⊢;simp[c,m,Sl.v]
    ·simp[Instr.buildSlice,cH k,jl l,i,n,uI p] at c ⊢;simp[c,m,Sl.v]
   ·cases h
  ·cases h
 ·cases h
theorem aaz {t:TypeId} {V:Value} {K:Value->Prop} {b:List TypeId} {c:Array TypeId} {ty:TypeId} {C:List Value} {Z:Array Value} (i:c.toList=t::b) (j:Z.toList=V::C)
  (d:M0 P t V=true) (h:xo V K):∃v,(Builtin.len_ c ty Z).run P w=.ok v w/\K v:=by
 have g:c[0]? = some t:=by rw[<-Array.getElem?_toList,i];rfl
 have f:Z[0]? = some V:=by rw[<-Array.getElem?_toList,j];rfl
 unfold M0 at d;split at d
 ·rename_i a;exact ⟨_,by simp[Builtin.len_,g,f,cH a,goInt],h⟩
 ·rename_i a;exact ⟨_,by simp[Builtin.len_,g,f,cH a,goInt],h⟩
 ·rename_i a;exact ⟨_,by simp[Builtin.len_,g,f,cH a,goInt],h⟩
 ·cases d
theorem abA {t:TypeId} {v:Value} {name:String} {g:FuncId} {B:Bool} {n:Nat} (a:nB P t name=some (g,B)) (b:uK P t B=true):(method (n+1) t v name).run P w=.ok (g,v) w:=by
  unfold nB at a;obtain ⟨i,j,a⟩:=Option.bind_eq_some_iff.1 a;obtain ⟨m,k,a⟩:=Option.bind_eq_some_iff.1 a;cases c:m.path.isEmpty with
  | false=>rw[c] at a;cases a
  | true =>
    rw[c] at a;simp only[cond] at a;have f:m.path.toList=[]:=by simpa using c
    unfold uK at b;simp only[method,Sem.run_bind,Le j,Result.andThen_ok,k,f,follow,Sem.run_pure,a,receiverAt];split at b
    · rename_i e h
      subst b;simp[cH h,Place.get]
    · rename_i d h l
      have:B=false:=by simpa using b
      subst this;simp only[cH l,Result.andThen_ok];simp[Place.get]
    · cases b
theorem abz {t:TypeId} {a:Addr} {name:String} {g:FuncId} {off n:Nat} (b:xJ P t name=some (g,off)):(method (n+1) t (.pointer (some a)) name).run P w=.ok (g, .pointer (some (a.add off))) w:=by
  unfold xJ at b;obtain ⟨i,u,b⟩:=Option.bind_eq_some_iff.1 b;obtain ⟨m,v,b⟩:=Option.bind_eq_some_iff.1 b;split at b
  · rename_i s z d l
    cases h:s.deref with
    | false=>rw[h] at b;cases b
    | true =>
      rw[h] at b;simp only[cond] at b;split at b
      · rename_i f c
        split at b
        · rename_i k A p o
          cases b;split at c
          · rename_i y j
            have x:m.path.isEmpty=false:=by
              cases q:m.path.isEmpty with
              | false=>rfl
              | true => have:m.path.toList=[]:=by simpa using q
                        rw[this] at d;cases d
            simp only[method,Sem.run_bind,Le u,Result.andThen_ok,v,d,follow,h,if_true,Place.get,Sem.run_pure,asAddr,cH j,c,fieldPlace,jl p,l,receiverAt,cH o];simp[Sem.run_pure,cH o,Result.andThen_ok,fieldPlace,jl p,follow,receiverAt]
          · cases c
        · cases b
      · cases b
  · cases b
theorem Q7 {t:TypeId} {v V:Value} {g:FuncId} {name:String} {Z:Array Value} {K:Option Value->Hp->Prop} {zs:List Value} (j:(method (P.types.size+Made.depth) t v name).run P w=.ok (g,V) w) (a:fC P g=true)
    (h:cr P g (V::Z.toList) (aE w) (λv f=>dK zs v λV=>K (some V) f) Kp):ni P K Kp w ((invoke (.fn (.method name) #[]) (#[.iface t v]++Z)).run P w):=by
  have fin:∀{v:Value} {f:Hp},dK zs v (λV=>K (some V) f)->∃V,(∀x,V=some x->v=x)/\K V f:=λb=>⟨some _,λx p=>by cases p;rfl,RA b⟩
  unfold fC at a;split at a
  · rename_i n s
    simp only[Bool.and_eq_true,Bool.not_eq_true'] at a;obtain ⟨m,l⟩:=a;have A:(#[Value.iface t v]++Z)[0]? = some (.iface t v):=by rw[Array.getElem?_append_left aS];rfl
    have e1:(#[Value.iface t v]++Z).extract 1 (#[Value.iface t v]++Z).size=Z:=by
      apply Array.ext';simp
    have c:(callFunc g (#[V]++Z)).run P w=.ok (.enter g (#[V]++Z)) w:=by
      have y:¬n.name = "runtime.NumGoroutine" := by simpa using l
      have u:¬n.body=none:=by intro k;simp[k] at m
      simp only[callFunc,program,Sem.run_bind,Sem.run,Result.andThen_ok,s];simp[y,u]
    simp only[invoke,A,e1,callMethod,Sem.run_bind,EO,Result.andThen_ok,j,c];refine ⟨aY.refl w,?_⟩;intro o i;have z:(#[V]++Z).toList.toArray=(V::Z.toList).toArray:=by simp
    rw[z];refine (h o i).mono ?_;rintro e B ⟨q,b⟩;refine ⟨q,?_⟩;cases e with
    | returned v=>exact fin b
    | panicked C=>exact b
    | outgrown=>exact b
  · cases a
theorem Ra {fv:Value} {name:String} {args:Array Value} {K:Option Value->Hp->Prop} {zs:List Value}
    (h:cL P fv name args.toList (aE w) (λv f=>dK zs v λc=>K (some c) f) Kp):ni P K Kp w ((invoke (.fn (.method name) #[]) (#[fv]++args)).run P w):=by
  unfold cL at h;split at h
  · rename_i t v
    split at h
    · rename_i g d b
      cases a:(uK P t d && fC P g) with
      | false=>rw[a] at h;exact h.elim
      | true =>
        rw[a,gU] at h;simp only[Bool.and_eq_true] at a;exact Q7 (abA (n:=P.types.size+99) b a.1) a.2 h
    · split at h
      · rename_i g off b
        cases a:fC P g with
        | false=>rw[a] at h;exact h.elim
        | true =>
          rw[a,gU] at h;unfold EX at h;split at h
          · exact Q7 (abz (n:=P.types.size+99) b) a h
          · exact h.elim
      · exact h.elim
  · exact h.elim
theorem aby {t:TypeId} {v:Value} {name:String} {g:FuncId} {n:Nat} (a:nB P t name=some (g,true)):(nilAhead (n+1) t v name).run P w=.ok (some false) w:=by
  unfold nB at a;obtain ⟨i,d,a⟩:=Option.bind_eq_some_iff.1 a;obtain ⟨m,f,a⟩:=Option.bind_eq_some_iff.1 a;cases b:m.path.isEmpty with
  | false=>rw[b] at a;cases a
  | true =>
    rw[b] at a;simp only[cond] at a;have c:m.path.toList=[]:=by simpa using b
    simp only[nilAhead,Sem.run_bind,Le d,Result.andThen_ok,f,c,followBlind,Sem.run_pure,a]
theorem aaM {fv:Value} {args:Array Value} {K:Option Value->Hp->Prop} {zs:List Value} {d:Deferred} (j:(Deferred.ofValue fv args).run P w=.ok d w)
    (h:bJ P fv args.toList (aE w) (λv o=>dK zs v λi=>K (some i) o) Kp):ni P K Kp w ((invoke d.target d.args).run P w):=by
  have fin:∀{v:Value} {o:Hp},dK zs v (λi=>K (some i) o)->∃i,(∀x,i=some x->v=x)/\K i o:=λf=>⟨some _,λx G=>by cases G;rfl,RA f⟩
  unfold bJ at h;split at h
  · rename_i g first a
    simp only[Deferred.ofValue,Sem.run_pure,Result.ok.injEq,and_true] at j;subst j;cases b:fC P g with
    | false=>rw[b] at h;exact h.elim
    | true =>
      rw[b,gU] at h;unfold fC at b;split at b
      · rename_i s J
        simp only[Bool.and_eq_true,Bool.not_eq_true'] at b;obtain ⟨A,z⟩:=b;have m:(callFunc g (first++args++a)).run P w=.ok (.enter g (first++args++a)) w:=by
          have M:¬s.name = "runtime.NumGoroutine" := by simpa using z
          have L:¬s.body=none:=by intro y;simp[y] at A
          simp only[callFunc,program,Sem.run_bind,Sem.run,Result.andThen_ok,J];simp[M,L]
        simp only[invoke,m];refine ⟨aY.refl w,?_⟩;intro E t;have k:(first++args++a).toList.toArray=(first.toList++args.toList++a.toList).toArray:=by simp
        rw[k];refine (h E t).mono ?_;rintro e F ⟨q,f⟩;refine ⟨q,?_⟩;cases e with
        | returned v=>exact fin f
        | panicked O=>exact f
        | outgrown=>exact f
      · cases b
  · rename_i l first a
    simp only[Deferred.ofValue,Sem.run_pure,Result.ok.injEq,and_true] at j;subst j;obtain ⟨s,C,p,D,B,I⟩:=h w rfl;have k:(first.toList++args.toList).toArray=first++args:=by simp
    rw[k] at B;simp only[invoke,B];refine ⟨aY.refl w,I.mono ?_⟩;rintro e F ⟨q,f⟩;refine ⟨q,?_⟩;cases e with
    | returned v=>exact fin f
    | panicked O=>exact f
    | outgrown=>exact f
  · rename_i Q name first a
    simp only[Deferred.ofValue,Sem.run_pure,Result.ok.injEq,and_true] at j;subst j;unfold P0 at h;split at h
    · rename_i r c u
      split at h
      · rename_i R H
        have k:first++args=#[r]++c.toArray:=by
          apply Array.ext';simp only[Array.toList_append,u];rfl
        have:=Ra (P:=P) (w:=w) (K:=K) (Kp:=Kp) (zs:=zs) (args:=c.toArray) (name:=name) (fv:=r) (by simpa using h)
        simp only[invoke,k] at this ⊢;have N:(#[r]++c.toArray)[0]? = some r:=by rw[Array.getElem?_append_left aS];rfl
        simp only[N,Sem.run_bind,cH H,Result.andThen_ok,Sem.run_pure] at this ⊢;exact this
      · exact h.elim
    · exact h.elim
  · exact h.elim
theorem ahp {o:Oper} {c:Call} (a:o.op=.call c):execOp r o=(do let d <-resolve r c o.type;invoke d.target d.args):=by
 obtain ⟨_,b,_,_,_,_⟩:=o;cases a;rfl
theorem dh.gX {s:Sem Value} {K:Option Value->Hp->Prop} (h:∃v,s.run P w=.ok v w/\K (some v) (aE w)) :
  ni P K Kp w ((do pure (Next.value (<-s)):Sem Next).run P w):=by
 obtain ⟨v,hr,hk⟩:=h;exact dh.up ⟨v,w,hr,aY.refl w,hk⟩
theorem dh.Em {s:Sem Value} {K:Option Value->Hp->Prop} (h:dh P s w λv h'=>∃sl:Sl,v=sl.v/\K (some sl.v) h') :
  ni P K Kp w ((do pure (Next.value (<-s)):Sem Next).run P w):=by
 obtain ⟨v,w',hr,hs,sl,rfl,hk⟩:=h;exact dh.up ⟨_,w',hr,hs,hk⟩
theorem aaG {b:Builtin} {F:Array TypeId} {vs:Array Value} {ty:TypeId} {cs:Array Bool} {K:Option Value->Hp->Prop} (h:uG P b F.toList vs.toList (aE w) λv T=>K (some v) T) :
    ni P K Kp w ((builtin b F ty cs vs).run P w):=by
  unfold uG at h;split at h
  · split at h
    · rename_i t j x xs l d
      split at h
      · rename_i S
        exact dh.gX (aaz l d S h)
      · exact h.elim
    · exact h.elim
  · split at h
    · rename_i t j a n c xs l d
      have A:F[0]? = some t:=by rw[<-Array.getElem?_toList,l];rfl
      have B:vs[0]? = some (.slice a n c):=by rw[<-Array.getElem?_toList,d];rfl
      split at h
      · rename_i f
        exact dh.gX ⟨_,by simp[Builtin.cap_,A,B,cH f,goInt],h⟩
      · exact h.elim
    · exact h.elim
  · split at h
    · rename_i x y d
      split at h
      · rename_i v o
        refine dh.gX ⟨v,?_,h⟩;cases x <;> cases y <;> simp[SK] at o
        subst o;simp[Builtin.min_,d,Builtin.min2,List.foldlM]
      · exact h.elim
    · exact h.elim
  · split at h
    · rename_i x y d
      split at h
      · rename_i v o
        refine dh.gX ⟨v,?_,h⟩;cases x <;> cases y <;> simp[SN] at o
        subst o;simp[Builtin.max_,d,Builtin.max2,List.foldlM]
      · exact h.elim
    · exact h.elim
  · split at h
    · rename_i s x d
      obtain rfl:vs=#[s,x]:=by rw[<-Array.toArray_toList (xs:=vs),d]
      unfold AJ at h;split at h
      · rename_i t u a n c l
        split at h
        · rename_i el du f L
          split at h
          · rename_i i z hi Z
            split at h
            · exact h.elim
            · rename_i b m cc D
              exact dh.Em (Rc (s:=⟨a,n,c⟩) l f L (λk H=>D k H) hi Z rfl (λG vs hw o=>Lf (w:=G) (by rw[hw];exact o)) h)
            · rename_i bs D
              refine dh.Em (Rc (s:=⟨a,n,c⟩) l f L (λk H=>D k H) hi Z rfl (λG vs hw o => ?_) h);subst o;have hx:bs.extract 0 bs.size=bs:=by simp
              simp only[Builtin.firstCells,hx,Sem.run_pure]
              congr 1
              apply Array.ext';simp
            · exact h.elim
          · exact h.elim
        · exact h.elim
      · exact h.elim
    · exact h.elim
  · split at h
    · rename_i s x d
      obtain rfl:vs=#[s,x]:=by rw[<-Array.toArray_toList (xs:=vs),d]
      unfold K4 at h;split at h
      · rename_i t j a n c l
        have A:F[0]? = some t:=by rw[<-Array.getElem?_toList,l];rfl
        split at h
        · rename_i el f
          split at h
          · rename_i N hs
            have fin:∀{k:Nat} {g:List Value->Prop} {x:Value},(Builtin.lenOf x).run P w=.ok k w->(∀vs,g vs->(Builtin.firstCells N (Nat.min k n) x).run P w=.ok vs.toArray w)->Ak (aE w) a g (λT=>K (some (.int .i64 (Nat.min k n:Nat))) T) ->
                ni P K Kp w ((builtin .copy F ty cs #[.slice a n c,x]).run P w):=by
              intro k g x hl S hc;obtain ⟨O,B,R⟩:=hc;have J:=S O B;cases a with
              | none =>
                refine dh.up ⟨_,w,?_,aY.refl w,R⟩;simp[Builtin.copy_,A,cH f,hl,jl hs,J,goInt]
              | some a =>
                obtain ⟨G,hr,X,H⟩:=Lg (P:=P) R;have Y:(storeCells a O).run P w=.ok () G:=hr;refine dh.up ⟨_,G,?_,X,H⟩;simp[Builtin.copy_,A,cH f,hl,jl hs,J,goInt,Y,Result.andThen_ok]
            split at h
            · rename_i b m cc
              exact fin (k:=m) (by simp[Builtin.lenOf]) (λO C=>by
                have:=Lf (P:=P) (w:=w) (c:=cc) C;cases b with
                | none=>simpa[Builtin.firstCells] using this
                | some b=>simpa[Builtin.firstCells] using this) h
            · rename_i bs
              exact fin (k:=bs.size) (by simp[Builtin.lenOf]) (λO C=>by
                subst C;simp only[Builtin.firstCells,Sem.run_pure]
                congr 1
                apply Array.ext';simp) h
            · exact h.elim
          · exact h.elim
        · exact h.elim
      · exact h.elim
    · exact h.elim
  · split at h
    · rename_i m k d
      obtain rfl:vs=#[m,k]:=by rw[<-Array.toArray_toList (xs:=vs),d]
      unfold K3 at h;split at h
      · rename_i t j m l
        have A:F[0]? = some t:=by rw[<-Array.getElem?_toList,l];rfl
        split at h
        · rename_i kt et f
          split at h
          · rename_i kd E
            cases q:mU kd with
            | false=>rw[q] at h;exact h.elim
            | true =>
              rw[q,gU] at h;unfold r7 at h;split at h
              · refine dh.up ⟨_,w,?_,aY.refl w,h⟩;simp[Builtin.delete_,A,cH f,run_checkKey E q]
              · rename_i r
                obtain ⟨U,c,W,B,R,h3⟩:=h;have Q:=MR B;have M:=run_checkKey (P:=P) (w:=w) (b:=U.isEmpty) (k:=k) E q;have I:=run_findKey (P:=P) (w:=w) E R;cases W with
                | none =>
                  refine dh.up ⟨_,{ w with heap:=w.heap.setIfInBounds r (.map U c) },?_,EL Q,by rw[Fv];exact h3⟩
                  have e1:(#[Value.map (some r),k])[0]? = some (.map (some r)):=rfl;have V:(#[Value.map (some r),k])[1]? = some k:=rfl;simp only[Builtin.delete_,A,e1,V,Sem.run_bind,cH f,Result.andThen_ok,AL B,M,I];simp[setObj,Sem.run,Q,Sem.run_bind,Result.andThen_ok]
                | some p =>
                  obtain ⟨i,u⟩:=p;refine dh.up ⟨_,{ w with heap:=w.heap.setIfInBounds r (.map (U.eraseIdxIfInBounds i) c) },?_,EL Q,by rw[Fv];exact h3⟩
                  have e1:(#[Value.map (some r),k])[0]? = some (.map (some r)):=rfl;have V:(#[Value.map (some r),k])[1]? = some k:=rfl;simp only[Builtin.delete_,A,e1,V,Sem.run_bind,cH f,Result.andThen_ok,AL B,M,I];simp[setObj,Sem.run,Q,Sem.run_bind,Result.andThen_ok]
          · exact h.elim
        · exact h.elim
      · exact h.elim
    · exact h.elim
  · exact h.elim
theorem abI {a t f:TypeId} {v V:Value} {ok:Bool} {w:World} (h:OR P a t v ok=some V):(Instr.typeAssert (.iface t v) f a ok).run P w=.ok V w:=by
  unfold OR at h;unfold Instr.typeAssert;split at h
  · cases h
  · rename_i d c i
    rw[Sem.run_bind,run_underlying i,Result.andThen_ok];split at h
    · rename_i b
      simp only[Option.some.injEq] at h;subst h;cases d <;> first | exact absurd rfl (c _) | (simp only[b,if_true];cases ok <;> simp)
    · rename_i b
      cases ok with
      | false=>cases h
      | true =>
        simp only[cond_true,Option.map_eq_some_iff] at h;obtain ⟨z,g,rfl⟩:=h;cases d <;> first | exact absurd rfl (c _) | (simp only[b,if_false];simp[Sem.run_bind,uI g,Result.andThen_ok])
  · cases h
theorem abE {vs:Array Value} {i:Nat} {v:Value} (h:vs[i]? = some v):(Instr.extract (.tuple vs) i).run P w=.ok v w:=by simp[Instr.extract,h]
theorem aa6 {o:Oper} {e:Operand->Option Value} (he:∀x v,e x=some v->r x=v) (h:fc P o.op o.type e K Kp (aE w)) :
    ni P K Kp w ((execOp r o).run P w):=by
  have val:∀(x:Operand),K (e x) (aE w)->ni P K Kp w ((pure (Next.value (r x)):Sem Next).run P w):=by
    intro x hx;exact ⟨aY.refl w,e x,λv hv=>he x v hv,hx⟩
  obtain ⟨dst,op,ty,pos,pT,gd⟩:=o;cases op <;> simp only[fc] at h <;> first | exact h.elim | skip
  case move x=>exact val x h
  case assign x=>exact val x h
  case pick c a b =>
    split at h
    · rename_i t hc
      have Ub:=he _ _ hc;split at h
      · have:(execOp r ⟨dst, .pick c a b,ty,pos,pT,gd⟩).run P w=(pure (Next.value (r a)):Sem Next).run P w:=by simp[execOp,Ub,asBool]
        rw[this];exact val a h
      · have:(execOp r ⟨dst, .pick c a b,ty,pos,pT,gd⟩).run P w=(pure (Next.value (r b)):Sem Next).run P w:=by simp[execOp,Ub,asBool]
        rw[this];exact val b h
    · exact h.elim
  case alloc t =>
    split at h
    · rename_i z hz
      obtain ⟨a,w',hr,hs,hk⟩:=La (P:=P) h;refine dh.up ⟨_,w',?_,hs,hk⟩;simp[Instr.alloc,uI hz,newVar,hr]
    · exact h.elim
  case box t x =>
    split at h
    · rename_i v hv
      obtain ⟨a,w',hr,hs,hk⟩:=La (P:=P) h;refine dh.up ⟨_,w',?_,hs,hk⟩;simp[Instr.box,he _ _ hv,newVar,hr]
    · exact h.elim
  case load t x =>
    split at h
    · rename_i a ha
      obtain ⟨v,hr,hk⟩:=Ru (P:=P) h;refine dh.gX ⟨v,?_,hk⟩;simp[Instr.loadAt,he _ _ ha,Instr.sureAddr,hr]
    · exact h.elim
  case store t x y =>
    split at h
    · rename_i a v ha hv
      obtain ⟨w',hr,hs,hk⟩:=abw (P:=P) h;have:(execOp r ⟨dst, .store t x y,ty,pos,pT,gd⟩).run P w=.ok .skip w':=by
        simp[execOp,Instr.storeAt,he _ _ ha,he _ _ hv,Instr.sureAddr,hr]
      rw[this];exact ⟨hs,hk⟩
    · exact h.elim
  case nilCheck x =>
    split at h
    · rename_i v hp
      unfold m9 at h;split at h
      · rename_i name first captured
        split at h
        · rename_i u0 oD
          unfold vW at h;split at h
          · rename_i t u
            obtain ⟨hm,h⟩:=h;split at hm
            · rename_i g hmp
              have hf0:first[0]? = some (.iface t u):=by rw[<-Array.getElem?_toList,oD];rfl
              have:(execOp r ⟨dst, .nilCheck x,ty,pos,pT,gd⟩).run P w=.ok (.value (.func (.method name) first captured)) w:=by
                have hn:=aby (P:=P) (w:=w) (v:=u) (n:=P.types.size+99) hmp;have Bn:(nilAhead (P.types.size+Made.depth) t u name).run P w=.ok (some false) w:=hn;simp only[execOp,he _ _ hp,hf0,Sem.run_bind,EO,Result.andThen_ok,Bn];simp
              rw[this];exact ⟨aY.refl w,_,λy hy=>by cases hy;rfl,h⟩
            · exact hm.elim
          · exact h.elim
        · exact h.elim
      · rename_i sW
        clear sW;unfold rN at h;split at h
        · unfold NN at h;split at h
          · rename_i a
            have:(execOp r ⟨dst, .nilCheck x,ty,pos,pT,gd⟩).run P w=.ok (.value (.pointer (some a))) w:=by simp[execOp,he _ _ hp]
            rw[this];exact ⟨aY.refl w,_,λy hy=>by cases hy;rfl,h⟩
          · exact h.elim
        · rename_i f xs ys
          have:(execOp r ⟨dst, .nilCheck x,ty,pos,pT,gd⟩).run P w=.ok (.value (.func (.func f) xs ys)) w:=by simp[execOp,he _ _ hp]
          rw[this];exact ⟨aY.refl w,_,λy hy=>by cases hy;rfl,h⟩
        · rename_i a n c
          have:(execOp r ⟨dst, .nilCheck x,ty,pos,pT,gd⟩).run P w=.ok (.value (.slice a n c)) w:=by simp[execOp,he _ _ hp]
          rw[this];exact ⟨aY.refl w,_,λy hy=>by cases hy;rfl,h⟩
        · rename_i t u
          have:(execOp r ⟨dst, .nilCheck x,ty,pos,pT,gd⟩).run P w=.ok (.value (.iface t u)) w:=by simp[execOp,he _ _ hp]
          rw[this];exact ⟨aY.refl w,_,λy hy=>by cases hy;rfl,h⟩
        · exact h.elim
    · exact h.elim
  case binOp op t x y yt =>
    split at h
    · rename_i a b ha hb
      obtain ⟨v,hr,hk⟩:=aaD (P:=P) (w:=w) (x:=x) (y:=y) h;exact dh.gX ⟨v,by rw[he _ _ ha,he _ _ hb];exact hr,hk⟩
    · exact h.elim
  case unOp op t x =>
    split at h
    · rename_i a ha
      obtain ⟨v,hr,hk⟩:=aaA (P:=P) (w:=w) h;exact dh.gX ⟨v,by rw[he _ _ ha];exact hr,hk⟩
    · exact h.elim
  case convert s d x =>
    split at h
    · rename_i a ha
      obtain ⟨v,hr,hk⟩:=aaF (P:=P) h;exact dh.gX ⟨v,by rw[he _ _ ha];exact hr,hk⟩
    · exact h.elim
  case makeInterface t x =>
    split at h
    · exact h.elim
    · rename_i v d hn hv hd
      refine dh.gX ⟨_,?_,h⟩;rw[he _ _ hv];simp only[Instr.makeInterface,Sem.run_bind,cH hd,Result.andThen_ok];cases d <;> first | rfl | (exfalso;exact hn _ rfl)
    · exact h.elim
  case makeFunc fn first captured =>
    split at h
    · rename_i xs ys hx hy
      have h1:=yg he hx;have h2:=yg he hy;refine dh.gX ⟨_,?_,h⟩;have e1:first.map r=xs.toArray:=by rw[<-h1];apply Array.ext';simp
      have e2:captured.map r=ys.toArray:=by rw[<-h2];apply Array.ext';simp
      simp[Instr.makeFunc,e1,e2]
    · exact h.elim
  case makeSlice t l c =>
    split at h
    · rename_i kl nl kc nc el hl hc hu
      split at h
      · rename_i i z hi hz
        refine dh.Em ?_;rw[he _ _ hl,he _ _ hc];exact aaL hu hi hz h
      · exact h.elim
    · exact h.elim
  case slice t x lo hi mx =>
    split at h
    · rename_i a n c l hh m hx hl NJ hm
      split at h
      · rename_i el hu
        split at h
        · rename_i size hs
          split at h
          · exact h.elim
          · rename_i sW
            obtain ⟨s',hr,hk⟩:=aaK (P:=P) (w:=w) (sl:=⟨a,n,c⟩) he hl NJ hm hu hs (by simpa using sW) h
            exact dh.gX ⟨_,by rw[he _ _ hx];exact hr,hk⟩
        · exact h.elim
      · exact h.elim
    · rename_i s l hh hx hl NJ hm
      split at h
      · rename_i hu
        have hmx:mx=none:=by
          cases mx with
          | none=>rfl
          | some x=>simp only[lM] at hm;split at hm <;> cases hm
        subst hmx;obtain ⟨s',hr,hk⟩:=aaJ (P:=P) (w:=w) he hl NJ hu h;exact dh.gX ⟨_,by rw[he _ _ hx];exact hr,hk⟩
      · exact h.elim
    · exact h.elim
  case fieldAddr t x i =>
    split at h
    · rename_i a f ha hf
      split at h
      · rename_i n hs
        refine dh.gX ⟨_,?_,h⟩;unfold FO at hf;split at hf
        · rename_i fs hu
          rw[he _ _ ha];simp[Instr.fieldAt,cH hu,hf,Instr.sureAddr,fieldPlace,jl hs]
        · cases hf
      · exact h.elim
    · exact h.elim
  case field t x i =>
    split at h
    · rename_i cs f ha hf
      split at h
      · rename_i v hv
        refine dh.gX ⟨_,?_,h⟩;unfold FO at hf;split at hf
        · rename_i fs hu
          rw[he _ _ ha];simp[Instr.field,cH hu,hf,asAgg,E4 hv]
        · cases hf
      · exact h.elim
    · exact h.elim
  case indexAddr t x ix =>
    split at h
    · rename_i a n c k i ha hi
      split at h
      · rename_i el hu
        split at h
        · rename_i size hs
          unfold Ix at h;split at h
          · obtain ⟨h0,h1,hk⟩:=h;refine dh.gX ⟨_,?_,hk⟩;rw[he _ _ ha,he _ _ hi];exact abK hu hs h0 h1
          · exact h.elim
        · exact h.elim
      · exact h.elim
    · rename_i p k i ha hi
      split at h
      · rename_i n el hu
        split at h
        · rename_i size hs
          unfold Ix at h;split at h
          · obtain ⟨h0,h1,hk⟩:=h;refine dh.gX ⟨_,?_,hk⟩;rw[he _ _ ha,he _ _ hi];exact abJ hu hs h0 h1
          · exact h.elim
        · exact h.elim
      · exact h.elim
    · exact h.elim
  case index t x ix =>
    split at h
    · rename_i s k i ha hi
      split at h
      · rename_i hu
        obtain ⟨b,h0,hb,hk⟩:=h;refine dh.gX ⟨_,?_,hk⟩;rw[he _ _ ha,he _ _ hi];simp[Instr.index,AN,cH hu,h0,hb]
      · exact h.elim
    · rename_i cs k i ha hi
      split at h
      · rename_i n elem hu
        unfold qW at h;split at h
        · rename_i d z hd hz
          cases oG:oz d with
          | true=>rw[oG] at h;exact h.elim
          | false =>
            rw[oG,BR] at h;split at h
            · rename_i hs
              obtain ⟨h0,h1,h⟩:=h;obtain ⟨v,hv,hk⟩:=w8 h;refine dh.gX ⟨v,?_,hk⟩;rw[he _ _ ha,he _ _ hi];have hp:(part elem cs (i.toNat*1)).run P w=.ok v w:=E4 (by unfold xC;rw[hd,hs];simp only[oG,dJ,Nat.mul_one];exact hv)
              simp only[Instr.index,Sem.run_bind,AN,Result.andThen_ok,cH hu,h0,h1,and_self,if_true,jl hs,hp]
            · exact h.elim
        · exact h.elim
      · exact h.elim
    · exact h.elim
  case makeMap t rs =>
    cases rs with
    | some x=>exact h.elim
    | none =>
      refine dh.up ⟨.map (some w.heap.size),{ w with heap:=w.heap.push (.map #[] 0) },by simp[Instr.makeMap,newObj,Sem.run],qJ w _,?_⟩
      rw[Fx];unfold yG at h;rw[uT] at h;exact h
  case lookup t x ix ok =>
    split at h
    · rename_i m k kt et hx hi ht
      split at h
      · rename_i kd z hu hz
        cases hk:mU kd with
        | false=>rw[hk] at h;exact h.elim
        | true =>
          rw[hk,gU] at h;obtain ⟨v,b,hr,hK⟩:=abC (P:=P) (ok:=ok) ht hu hk hz h;refine dh.gX ⟨_,?_,hK⟩;rw[he _ _ hx,he _ _ hi];exact hr
      · exact h.elim
    · exact h.elim
  case mapUpdate t x k v =>
    split at h
    · rename_i m k' v' kt et hx Bp hv ht
      split at h
      · rename_i kd hu
        cases hk:mU kd with
        | false=>rw[hk] at h;exact h.elim
        | true =>
          rw[hk,gU] at h;obtain ⟨w',hr,hs,hK⟩:=abB (P:=P) ht hu hk h;have:(execOp r ⟨dst, .mapUpdate t x k v,ty,pos,pT,gd⟩).run P w=.ok .skip w':=by
            simp[execOp,he _ _ hx,he _ _ Bp,he _ _ hv,hr]
          rw[this];exact ⟨hs,hK⟩
      · exact h.elim
    · exact h.elim
  case typeAssert x xt asserted ok =>
    split at h
    · rename_i t v hv
      split at h
      · rename_i u hu
        exact dh.gX ⟨_,by rw[he _ _ hv];exact abI hu,h⟩
      · exact h.elim
    · exact h.elim
  case extract x i =>
    split at h
    · rename_i vs hv
      split at h
      · rename_i v hvi
        exact dh.gX ⟨_,by rw[he _ _ hv];exact abE hvi,h⟩
      · exact h.elim
    · exact h.elim
  case build t parts =>
    split at h
    · rename_i ps Nu
      obtain ⟨v,hv,h,_⟩:=ON h;refine dh.gX ⟨_,?_,h⟩;have e1:parts.map (λ(i,x)=>(i,r x))=ps.toArray:=by rw[<-UL he Nu];apply Array.ext';simp
      rw[e1];exact aaI hv
    · exact h.elim
  case buildSlice t len parts =>
    split at h
    · rename_i ps Nu
      obtain ⟨cs,el,hv,h,_⟩:=V4 h;refine dh.Em ?_;have e1:parts.map (λ(i,x)=>(i,r x))=ps.toArray:=by rw[<-UL he Nu];apply Array.ext';simp
      rw[e1];exact aaH hv h
    · exact h.elim
  case panic x =>
    split at h
    · rename_i t v hv
      have:(execOp r ⟨dst, .panic x,ty,pos,pT,gd⟩).run P w=.halt (.panic (.iface t v)) w:=by
        simp[execOp,he _ _ hv,Instr.panic,goPanic,Sem.run]
      rw[this];exact ⟨aY.refl w,h⟩
    · exact h.elim
  case call c =>
    rw[ahp (c:=c) rfl];split at h
    · rename_i b hc
      split at h
      · rename_i vs Fm
        have e1:c.args.map r=vs.toArray:=by rw[<-yg he Fm];apply Array.ext';simp
        simp only[resolve,hc,e1,invoke,Sem.run_bind,Sem.run_pure,Result.andThen_ok];exact aaG h
      · exact h.elim
    · rename_i f hc
      split at h
      · rename_i fv args oD FD
        have e1:c.args.map r=args.toArray:=by rw[<-yg he FD];apply Array.ext';simp
        unfold AI at h;split at h
        · rename_i zs hz
          cases hd:(Deferred.ofValue fv args.toArray).run P w with
          | halt x w' =>
            exfalso
            unfold bJ at h;split at h <;> first | exact h | (simp[Deferred.ofValue] at hd)
          | ok d w' =>
            have hw:w'=w:=by
              unfold Deferred.ofValue at hd;split at hd <;> simp[stuck] at hd <;> exact hd.2.symm
            subst hw;have:=aaM (K:=K) (Kp:=Kp) (zs:=zs) (args:=args.toArray) hd (by simpa using h)
            simp only[resolve,hc,e1,he _ _ oD,Sem.run_bind,hd,Result.andThen_ok];exact this
        · exact h.elim
      · exact h.elim
    · rename_i f name hc
      split at h
      · rename_i fv args oD FD
        have e1:c.args.map r=args.toArray:=by rw[<-yg he FD];apply Array.ext';simp
        unfold AH at h;split at h
        · rename_i zs hz
          have:=Ra (P:=P) (w:=w) (K:=K) (Kp:=Kp) (zs:=zs) (args:=args.toArray) (name:=name) (fv:=fv) (by simpa using h)
          simp only[resolve,hc,e1,he _ _ oD,Sem.run_bind,Sem.run_pure,Result.andThen_ok];exact this
        · exact h.elim
      · exact h.elim
end ops
end Go.Sh
