/- The computable reading of operations is sound for the model: what 'semOp' promises, the run of the operation keeps. -/
import Derived.Test.YtlbbdbdjiekkaaaGreatDoorNamesShCore
set_option linter.unusedVariables false
set_option linter.unusedSimpArgs false
namespace Go.Sh
variable {P:Program}
theorem nrm_at (w:World) (b:Nat):(hpz w)[b]? = (w.heap[b]?).map nrm:=by simp [hpz]
theorem cell_eq (w:World) (a:Addr):w.cell? a=cell (hpz w) a:=by
  simp only [World.cell?,cell,nrm_at]
  cases w.heap[a.block]? with
  | none=>rfl
  | some o=>cases o <;> rfl
theorem frz_eq (w:World) (a:Addr):w.frozen? a=frz (hpz w) a:=by
  simp only [World.frozen?,frz,nrm_at]
  cases w.heap[a.block]? with
  | none=>rfl
  | some o=>cases o <;> rfl
theorem hpz_setCell (w:World) (a:Addr) (v:Value):hpz (w.setCell a v)=put (hpz w) a v:=by
  apply Array.ext_getElem?
  intro i
  simp only [hpz,World.setCell,put,Array.getElem?_map,Array.getElem?_modify]
  split
  · cases w.heap[i]? with
    | none=>rfl
    | some o=>cases o <;> rfl
  · rfl
theorem hpz_push (w:World) (o:Obj):hpz { w with heap:=w.heap.push o }=(hpz w).push (nrm o):=by simp [hpz]
theorem hpz_alloc (w:World) (o:Obj):hpz (w.alloc o)=(hpz w).push (nrm o):=hpz_push w o
theorem hpz_size (w:World):(hpz w).size=w.heap.size:=by simp [hpz]
theorem same_setCell (w:World) (a:Addr) (v:Value):Same w (w.setCell a v):=by
  refine ⟨rfl,rfl,rfl,by simp [World.setCell],fun b ds h => ?_⟩
  simp only [World.setCell,Array.getElem?_modify]
  split <;> simp [h]
theorem same_push (w:World) (o:Obj):Same w { w with heap:=w.heap.push o }:=by
  refine ⟨rfl,rfl,rfl,by simp,fun b ds h => ?_⟩
  have hb:=(Array.getElem?_eq_some_iff.1 h).1
  simp only [Array.getElem?_push]
  rw [if_neg (by omega)]
  exact h
theorem same_alloc (w:World) (o:Obj):Same w (w.alloc o):=same_push w o
theorem same_drew (w:World):Same w w.drew:=⟨rfl,rfl,rfl,Nat.le_refl _,fun _ _ h=>h⟩
theorem run_load_of {w:World} {a:Addr} {v:Value} (h:cell (hpz w) a=some v):(load a).run P w=.ok v w:=by
  have h':w.cell? a=some v:=(cell_eq w a).trans h
  simp [load,Sem.run,h']
theorem run_store_of {w:World} {a:Addr} {v:Value} (h1:one v=true) (h2:(cell (hpz w) a).isSome=true) (h3:frz (hpz w) a=false) :
    (store a v).run P w=.ok () (w.setCell a v):=by
  obtain ⟨v0,h0⟩:=Option.isSome_iff_exists.1 h2
  have h':w.cell? a=some v0:=(cell_eq w a).trans h0
  have h3':w.frozen? a=false:=(frz_eq w a).trans h3
  cases v <;> simp_all [store,Sem.run,one]
theorem run_ldMany {a:Addr} {zs:List Value}:∀{i:Nat} {K:List Value→Prop} {w:World} {acc:Array Value},ldMany (hpz w) a i zs K →
    ∃vs,vs.length=zs.length∧(loadCellsFrom a i zs.length acc).run P w=.ok (acc++vs.toArray) w∧K vs:=by
  induction zs with
  | nil=>intro i K w acc h;exact ⟨[],rfl,by simp [loadCellsFrom],h⟩
  | cons z zs ih =>
    intro i K w acc h
    obtain ⟨v,hc,hr⟩:=tyEx_get h
    obtain ⟨vs,hl,hrun,hk⟩:=ih (acc:=acc.push v) hr
    refine ⟨v::vs,by simp [hl],?_,hk⟩
    simp only [List.length_cons,loadCellsFrom,Sem.run_bind,run_load_of hc,Result.andThen_ok,hrun]
    simp
theorem run_sizeP {t:TypeId} {n:Nat} {w:World} (h:sizeP P t=some n):(sizeOf t).run P w=.ok n w:=by
  unfold sizeP at h
  obtain ⟨i,hi,rfl⟩:=Option.map_eq_some_iff.1 h
  simp [sizeOf,typeInfo,program,Sem.run,hi]
theorem run_info {t:TypeId} {i:TypeInfo} {w:World} (h:P.info? t=some i):(typeInfo t).run P w=.ok i w:=by
  simp [typeInfo,program,Sem.run,h]
theorem run_zeroP {t:TypeId} {z:Value} {w:World} (h:zeroOf P t=some z):(zeroValue t).run P w=.ok z w:=by
  unfold zeroOf at h
  obtain ⟨i,hi,hz⟩:=Option.bind_eq_some_iff.1 h
  simp [zeroValue,typeInfo,program,Sem.run,hi,hz]
theorem run_und {t:TypeId} {d:TypeDesc} {w:World} (h:P.underlying t=some d):(underlying t).run P w=.ok d w:=Go.run_underlying h w
theorem run_isAgg {t:TypeId} {d:TypeDesc} {w:World} (h:P.underlying t=some d):(isAgg t).run P w=.ok (isAggD d) w:=by
  simp only [isAgg,Sem.run_bind,run_und h,Result.andThen_ok]
  cases d <;> rfl
theorem run_ldV {t:TypeId} {a:Addr} {K:Value→Prop} {w:World} (h:ldV P t (hpz w) a K):∃v,(loadVar t a).run P w=.ok v w∧K v:=by
  unfold ldV at h
  split at h
  · rename_i d z hu hz
    have ha:=run_isAgg (w:=w) hu
    cases hd:isAggD d with
    | true =>
      rw [hd] at h ha
      simp only [bsel] at h
      split at h
      · rename_i zs
        split at h
        · rename_i hs
          obtain ⟨vs,hl,hrun,hk⟩:=run_ldMany (P:=P) (acc:=#[]) h
          refine ⟨_,?_,hk⟩
          simp only [Array.length_toList] at hrun
          simp [loadVar,ha,run_sizeP hs,loadCells,hrun]
        · exact h.elim
      · exact h.elim
    | false =>
      rw [hd] at h ha
      simp only [bsel] at h
      obtain ⟨v,hc,hk⟩:=tyEx_get h
      refine ⟨v,?_,hk⟩
      simp only [loadVar,Sem.run_bind,ha,Result.andThen_ok,Bool.false_eq_true,if_false,run_load_of hc]
  · exact h.elim
theorem run_StL {a:Addr} {vs:List Value}:∀{i:Nat} {K:Hp→Prop} {w:World},StL (hpz w) a i vs K →
    ∃w',(storeCells a vs i).run P w=.ok () w'∧Same w w'∧K (hpz w'):=by
  induction vs with
  | nil=>intro i K w h;exact ⟨w,by simp [storeCells],Same.refl w,h⟩
  | cons v vs ih =>
    intro i K w h
    obtain ⟨h1,h2,h3,h4⟩:=h
    obtain ⟨w',hr,hs,hk⟩:=ih (w:=w.setCell (a.add i) v) (by rw [hpz_setCell];exact h4)
    refine ⟨w',?_,(same_setCell w _ _).trans hs,hk⟩
    simp [storeCells,run_store_of h1 h2 h3,hr]
theorem run_stV {t:TypeId} {a:Addr} {v:Value} {K:Hp→Prop} {w:World} (h:stV P t (hpz w) a v K) :
    ∃w',(storeVar t a v).run P w=.ok () w'∧Same w w'∧K (hpz w'):=by
  replace h:=stV_old h
  split at h
  · rename_i hs
    obtain ⟨w',hr,hsm,hk⟩:=run_StL (P:=P) h
    exact ⟨w',by simp [storeVar,run_sizeP hs,hr],hsm,hk⟩
  · exact h.elim
def upR (P:Program) (K:Option Value→Hp→Prop) (Kp:List PanicEntry→Hp→Prop) (w:World):Result Next→Prop
  | .ok (.value v) w'=>Same w w'∧∃v',(∀x,v'=some x→v=x)∧K v' (hpz w')
  | .ok .skip w'=>Same w w'∧K none (hpz w')
  | .ok (.enter f args) w'=>Same w w'∧CallH P f args.toList (hpz w') (fun v h=>∃v',(∀x,v'=some x→v=x)∧K v' h) Kp
  | .ok (.round l f tmps assign body) w'=>Same w w'∧RoundIn (Fc none) 0 P l f tmps assign body w' fun e w''=>Same w' w''∧match e with
      | .returned v=>∃v',(∀x,v'=some x→v=x)∧K v' (hpz w'')
      | .panicked ch=>Kp ch (hpz w'')
      | .outgrown=>False
  | .halt (.panic v) w'=>Same w w'∧Kp [{ v,recovered:=false }] (hpz w')
  | _=>False
section ops
variable {K:Option Value→Hp→Prop} {Kp:List PanicEntry→Hp→Prop} {w:World} {e ρ:Operand→Option Value} {r:Operand→Value}
theorem run_checkKey {b:Bool} {kt:TypeId} {kd:TypeDesc} {k:Value} (hu:P.underlying kt=some kd) (hk:keyD kd=true):(Instr.checkKey b 10000 kt k).run P w=.ok () w:=by
  show (Instr.checkKey b (9999+1) kt k).run P w=.ok () w
  unfold Instr.checkKey
  simp only [Sem.run_bind,run_und hu,Result.andThen_ok]
  cases kd <;> first | rfl | (simp [keyD] at hk)
theorem run_findKey {kt:TypeId} {kd:TypeDesc} {k:Value} {es:List MapEntry} {res:Option (Nat × Value)} (hu:P.underlying kt=some kd) (h:Instr.findNow kd k es 0=some res):(Instr.findKey kt k es).run P w=.ok res w:=by
  unfold Instr.findKey
  simp only [Sem.run_bind,run_und hu,Result.andThen_ok,h,Sem.run_pure]
theorem map_at {w:World} {r:Nat} {es:Array MapEntry} {c:Nat} (h:(hpz w)[r]? = some (.map es c)):w.heap[r]? = some (.map es c):=by
  rw [nrm_at] at h
  cases ho:w.heap[r]? with
  | none=>simp [ho] at h
  | some o=>cases o <;> simp [ho,nrm] at h ⊢;exact h
theorem run_getMap {r:Nat} {es:Array MapEntry} {c:Nat} (h:(hpz w)[r]? = some (.map es c)):(getObj r).run P w=.ok (.map es c) w:=by
  simp [getObj,Sem.run,map_at h]
theorem findNow_at {kd:TypeDesc} {k:Value}:∀{es:List MapEntry} {i j:Nat} {v:Value},Instr.findNow kd k es i=some (some (j,v))→∃e,i≤j∧es[j - i]? = some e∧Instr.sameNow kd k e.key=some true:=by
  intro es
  induction es with
  | nil=>intro i j v h;simp [Instr.findNow] at h
  | cons e es ih =>
    intro i j v h
    unfold Instr.findNow at h
    split at h
    · rename_i hs
      simp only [Option.some.injEq,Prod.mk.injEq] at h
      obtain ⟨rfl,rfl⟩:=h
      exact ⟨e,Nat.le_refl _,by simp,hs⟩
    · obtain ⟨e',h1,h2,h3⟩:=ih h
      refine ⟨e',by omega,?_,h3⟩
      have:j - i=j - (i+1)+1:=by omega
      rw [this,List.getElem?_cons_succ];exact h2
    · cases h
theorem ba_iff {a b:ByteArray}:(a == b)=true↔a=b:=by
  constructor
  · intro h
    have h:(a.data == b.data)=true:=h
    rw [beq_iff_eq] at h;exact ByteArray.ext h
  · rintro rfl
    show (a.data == a.data)=true
    simp
theorem sameBits_of {kd:TypeDesc} {k k':Value} (h:Instr.sameNow kd k k'=some true):Instr.sameBits 10000 k' k=true:=by
  show Instr.sameBits (9999+1) k' k=true
  unfold Instr.sameNow at h
  split at h
  · split at h
    · rename_i he;subst he;simp at h;subst h;simp [Instr.sameBits]
    · cases h
  · simp only [Option.some.injEq] at h;rw [ba_iff] at h;subst h;simp only [Instr.sameBits];exact ba_iff.2 rfl
  · simp at h;subst h;simp [Instr.sameBits]
  · cases h
theorem hpz_setO {w:World} {l:Nat} {o:Obj}:hpz { w with heap:=w.heap.setIfInBounds l o }=(hpz w).setIfInBounds l (nrm o):=by
  apply Array.ext_getElem?
  intro i
  simp only [hpz,Array.getElem?_map,Array.getElem?_setIfInBounds,Array.size_map]
  split
  · split <;> simp
  · rfl
theorem same_map {w:World} {l:Nat} {x:Array MapEntry} {c:Nat} {o:Obj} (h:w.heap[l]? = some (.map x c)):Same w { w with heap:=w.heap.setIfInBounds l o }:=by
  refine ⟨rfl,rfl,rfl,by simp,fun b ds hb => ?_⟩
  have:l≠b:=fun e=>by subst e;rw [h] at hb;cases hb
  simp only [Array.getElem?_setIfInBounds]
  rw [if_neg this]
  exact hb
theorem run_lookup {t:TypeId} {m:Option Nat} {kt et:TypeId} {kd:TypeDesc} {k z:Value} {ok:Bool} {K:Value→Bool→Prop} (ht:P.underlying t=some (.map kt et)) (hu:P.underlying kt=some kd) (hk:keyD kd=true) (hz:zeroOf P et=some z) (h:lkV (hpz w) m kd k z K) :
    ∃v b,(Instr.lookup t (.map m) k ok).run P w=.ok (bif ok then .tuple #[v, .bool b] else v) w∧K v b:=by
  have fin:∀(es:Array MapEntry) (res:Option (Nat × Value)),Instr.findNow kd k es.toList 0=some res→((m=none∧es=#[])∨∃r c,m=some r∧(getObj r).run P w=.ok (.map es c) w) →
      (tyEx z fun v=>match res with | some (_,u)=>u=v∧K v true | none=>z=v∧K v false) →
      ∃v b,(Instr.lookup t (.map m) k ok).run P w=.ok (bif ok then .tuple #[v, .bool b] else v) w∧K v b:=by
    intro es res hf hes hv
    obtain ⟨v,hv⟩:=tyEx_get hv
    have hck:=run_checkKey (P:=P) (w:=w) (b:=es.isEmpty) (k:=k) hu hk
    have hfk:=run_findKey (P:=P) (w:=w) hu hf
    cases res with
    | none =>
      obtain ⟨rfl,hK⟩:=hv
      refine ⟨z,false,?_,hK⟩
      unfold Instr.lookup
      rcases hes with ⟨rfl,rfl⟩ | ⟨r,c,rfl,hg⟩
      · simp only [Sem.run_bind,run_und ht,Result.andThen_ok,Sem.run_pure,hck,hfk,run_zeroP hz];cases ok <;> rfl
      · simp only [Sem.run_bind,run_und ht,Result.andThen_ok,hg,Sem.run_pure,hck,hfk,run_zeroP hz];cases ok <;> rfl
    | some p =>
      obtain ⟨i,u⟩:=p
      obtain ⟨rfl,hK⟩:=hv
      refine ⟨u,true,?_,hK⟩
      unfold Instr.lookup
      rcases hes with ⟨rfl,rfl⟩ | ⟨r,c,rfl,hg⟩
      · simp only [Sem.run_bind,run_und ht,Result.andThen_ok,Sem.run_pure,hck,hfk];cases ok <;> rfl
      · simp only [Sem.run_bind,run_und ht,Result.andThen_ok,hg,Sem.run_pure,hck,hfk];cases ok <;> rfl
  unfold lkV at h
  split at h
  · exact fin #[] none rfl (.inl ⟨rfl,rfl⟩) (tyEx_mono h fun _ hv=>hv)
  · rename_i r
    obtain ⟨es,c,res,h1,h2,h3⟩:=h
    exact fin es res h2 (.inr ⟨r,c,rfl,run_getMap h1⟩) h3
theorem run_mapUpdate {t:TypeId} {m:Option Nat} {kt et:TypeId} {kd:TypeDesc} {k v:Value} {K:Hp→Prop} (ht:P.underlying t=some (.map kt et)) (hu:P.underlying kt=some kd) (hk:keyD kd=true) (h:Up (hpz w) m kd k v K) :
    ∃w',(Instr.mapUpdate t (.map m) k v).run P w=.ok () w'∧Same w w'∧K (hpz w'):=by
  unfold Up at h
  split at h
  · exact h.elim
  · rename_i r
    obtain ⟨es,c,res,h1,h2,h3⟩:=h
    have hck:=run_checkKey (P:=P) (w:=w) (b:=false) (k:=k) hu hk
    have hfk:=run_findKey (P:=P) (w:=w) hu h2
    have hm:=map_at h1
    cases res with
    | none =>
      refine ⟨{ w with heap:=w.heap.setIfInBounds r (.map (es.push { key:=k,val:=v,born:=c }) (c+1)) },?_,same_map hm,?_⟩
      · unfold Instr.mapUpdate
        simp only [Sem.run_bind,run_und ht,Result.andThen_ok,run_getMap h1,hck,hfk]
        simp [setObj,Sem.run,hm]
      · rw [hpz_setO];exact h3
    | some p =>
      obtain ⟨i,u⟩:=p
      obtain ⟨e,_,he,hs⟩:=findNow_at h2
      have hb:=sameBits_of hs
      refine ⟨{ w with heap:=w.heap.setIfInBounds r (.map (es.modify i fun e=>{ e with key:=k,val:=v }) c) },?_,same_map hm,?_⟩
      · unfold Instr.mapUpdate
        have hkey:((es[i]?).map (·.key)).getD k=e.key:=by
          rw [Nat.sub_zero] at he
          have:es[i]? = some e:=by simpa using he
          simp [this]
        simp only [Sem.run_bind,run_und ht,Result.andThen_ok,run_getMap h1,hck,hfk,hkey,Instr.keyThatStays,hb,if_true,Sem.run_pure]
        simp [setObj,Sem.run,hm]
      · rw [hpz_setO];exact h3
/-- the run hands back a value that K takes -/
def Gives (P:Program) (s:Sem Value) (w:World) (K:Value→Hp→Prop):Prop:=∃v w',s.run P w=.ok v w'∧Same w w'∧K v (hpz w')
theorem Gives.up {s:Sem Value} {K:Option Value→Hp→Prop} (h:Gives P s w fun v h=>K (some v) h) :
    upR P K Kp w ((do pure (Next.value (←s)):Sem Next).run P w):=by
  obtain ⟨v,w',hr,hs,hk⟩:=h
  simp only [Sem.run_bind,hr,Result.andThen_ok,Sem.run_pure]
  exact ⟨hs,some v,fun x hx=>by cases hx;rfl,hk⟩
theorem run_new {cs:Array Value} {t:TypeId} {K:Addr→Hp→Prop} (h:New (hpz w) cs t K) :
    ∃a w',(newRow t cs).run P w=.ok a w'∧Same w w'∧K a (hpz w') :=
  ⟨⟨w.heap.size,0,none⟩,{ w with heap:=w.heap.push (.cells cs t) },by simp [newRow,newObj,Sem.run],same_push w _,by rw [hpz_push,←hpz_size w];exact h⟩
theorem run_rd {p:Option Addr} {n:Nat} {vs:List Value} (a:Addr) (hp:p=some a) (h:rd (hpz w) p n vs):(loadCells a n).run P w=.ok vs.toArray w:=by
  subst hp
  obtain ⟨hl,hc⟩:=h
  subst hl
  have key:∀(us:List Value) (i:Nat) (acc:Array Value),(∀(j:Nat) v,us[j]? = some v→cell (hpz w) (a.add (i+j))=some v) →
      (loadCellsFrom a i us.length acc).run P w=.ok (acc++us.toArray) w:=by
    intro us
    induction us with
    | nil=>intro i acc _;simp [loadCellsFrom]
    | cons u us ih =>
      intro i acc h
      have h0:=h 0 u rfl
      simp only [Nat.add_zero] at h0
      simp only [List.length_cons,loadCellsFrom,Sem.run_bind,run_load_of h0,Result.andThen_ok]
      rw [ih (i+1) (acc.push u) (fun j v hj=>by have:=h (j+1) v hj;rw [show i+(j+1)=i+1+j by omega] at this;exact this)]
      simp
  have:=key vs 0 #[] (fun j v hj=>by rw [Nat.zero_add];exact hc j v hj)
  simpa [loadCells] using this
theorem run_first {a:Option Addr} {m size c:Nat} {vs:List Value} (h:rd (hpz w) a (m*size) vs):(Builtin.firstCells size m (.slice a m c)).run P w=.ok vs.toArray w:=by
  cases a with
  | none=>simp only [rd] at h;subst h;simp [Builtin.firstCells]
  | some a=>simp only [Builtin.firstCells];exact run_rd a rfl h
theorem sound_opInt {op:BinOp} {k:IntKind} {a b:Int} {t:TypeId} {kb:IntKind} {K:Value→Prop} (h:opInt op k a b K) (hk:k=kb∨op=.shl∨op=.shr) :
    ∃v,(binOp op t (.int k a) (.int kb b)).run P w=.ok v w∧K v:=by
  cases op
  case shl=>obtain ⟨h0,h⟩:=h;refine ⟨_,?_,h⟩;simp [binOp,Op.shift,Int.not_lt.2 h0]
  case shr=>obtain ⟨h0,h⟩:=h;refine ⟨_,?_,h⟩;simp [binOp,Op.shift,Int.not_lt.2 h0]
  case quo=>obtain rfl:=hk.resolve_right (by simp);obtain ⟨h0,h⟩:=h;refine ⟨_,?_,h⟩;simp [binOp,Op.intDiv,h0]
  case rem=>obtain rfl:=hk.resolve_right (by simp);obtain ⟨h0,h⟩:=h;refine ⟨_,?_,h⟩;simp [binOp,Op.intDiv,h0]
  all_goals
    obtain rfl:=hk.resolve_right (by simp)
    refine ⟨_,?_,h⟩
    simp [binOp,Op.intArith,Op.intBits,Op.intCmp,bitsV]
theorem sound_opStr {op:BinOp} {a b:ByteArray} {t:TypeId} {K:Value→Prop} (h:opStr op a b K) :
    ∃v,(binOp op t (.string a) (.string b)).run P w=.ok v w∧K v:=by
  cases op <;> simp only [opStr] at h <;> first
    | exact h.elim
    | exact ⟨_,by simp [binOp,Op.stringOp],h⟩
    | (obtain ⟨h0,h⟩:=h;exact ⟨_,by simp only [binOp,Op.stringOp];rw [if_neg (by omega)];simp,h⟩)
theorem part_run {t:TypeId} {cs:Array Value} {off:Nat} {v:Value} (h:partV P t cs off=some v):(part t cs off).run P w=.ok v w:=by
  unfold partV at h
  split at h
  · rename_i d n hu hs
    have ha:=run_isAgg (w:=w) hu
    cases hd:isAggD d with
    | true =>
      rw [hd] at h ha
      cases h
      simp [part,ha,run_sizeP hs]
    | false =>
      rw [hd] at h ha
      simp only [cond_false] at h
      simp only [part,Sem.run_bind,ha,Result.andThen_ok,Bool.false_eq_true,if_false,h,Sem.run_pure]
  · cases h
theorem sound_eqT {d:Nat} {t:TypeId} {x y:Value} {r:Bool} (h:eqT P t x y=some r):(Op.equalIn (d+1) t x y).run P w=.ok r w:=by
  unfold eqT at h
  split at h
  case h_9=>cases h
  all_goals
    rename_i hu
    cases x <;> cases y <;> (try simp only [reduceCtorEq,Option.some.injEq,Option.ite_none_right_eq_some] at h)
  case h_2.int.int=>obtain ⟨rfl,rfl⟩:=h;simp [Op.equalIn,run_und hu]
  case h_4.pointer.pointer p q=>cases p <;> cases q <;> simp [nilEq] at h <;> subst h <;> simp [Op.equalIn,run_und hu]
  case h_5.slice.slice p _ _ q _ _=>cases p <;> cases q <;> simp [nilEq] at h <;> subst h <;> simp [Op.equalIn,run_und hu]
  case h_6.map.map p q=>cases p <;> cases q <;> simp [nilEq] at h <;> subst h <;> simp [Op.equalIn,run_und hu]
  case h_7.nilIface.nilIface ms =>
    cases hm:Array.isEmpty ms with
    | true=>rw [hm] at h;simp only [cond_true,Option.some.injEq] at h;subst h;simp [Op.equalIn,run_und hu]
    | false=>rw [hm] at h;cases h
  all_goals first
    | (subst h;simp [Op.equalIn,run_und hu];done)
theorem plain_guard0 {op:BinOp} {t:TypeId} {x y:Operand} {a b:Value} (hp:plainEq a b=true) (hn:¬(a=.nilIface∧b=.nilIface)):(eqGuard op t x y a b).run P w=.ok () w:=by
  unfold eqGuard
  cases op <;> first | rfl | (cases a <;> first | rfl | (cases b <;> first | rfl | (simp [plainEq] at hp;done) | (exact absurd ⟨rfl,rfl⟩ hn)))
theorem plain_guard {op:BinOp} {t:TypeId} {x y:Operand} {a b:Value} {r:Bool} (hp:plainEq a b=true) (hr:eqT P t a b=some r):(eqGuard op t x y a b).run P w=.ok () w:=by
  by_cases hn:a=.nilIface∧b=.nilIface
  · obtain ⟨rfl,rfl⟩:=hn
    unfold eqT at hr
    split at hr <;> simp only [reduceCtorEq] at hr
    rename_i ms hu
    have hm:ms.isEmpty=true:=by cases h:ms.isEmpty with | true=>rfl | false=>rw [h] at hr;cases hr
    have hq:(Op.eqGuardIn Op.maxDepth t .nilIface .nilIface).run P w=.ok false w:=by
      show (Op.eqGuardIn (9999+1) t .nilIface .nilIface).run P w=.ok false w
      unfold Op.eqGuardIn
      simp [run_und hu,hm]
    unfold eqGuard
    cases op <;> first | rfl | (simp only [Sem.run_bind];split <;> first | rfl | (simp [hq];done) | skip)
  · exact plain_guard0 hp hn
theorem run_prog:(program:Sem Program).run P w=.ok P w:=by simp [program,Sem.run]
theorem sound_eqFs {d:Nat} {xs ys:Array Value}:∀{fs:List Field} {r:Bool},eqFs P fs xs ys=some r →
    (forIn (m:=Sem) fs ((none,()):Option Bool × Unit) fun f _=>if f.name ≠ "_" then (do if !(←Op.equalIn (d+1) f.type (←part f.type xs f.offset) (←part f.type ys f.offset)) then pure (.done (some false,())) else pure (.yield (none,()))) else pure (.yield (none,()))).run P w=.ok (if r then none else some false,()) w:=by
  intro fs
  induction fs with
  | nil=>intro r h;simp only [eqFs,Option.some.injEq] at h;subst h;simp
  | cons f fs ih =>
    intro r h
    unfold eqFs at h
    split at h
    · cases h
    · rename_i hn
      split at h
      · rename_i a b ha hb
        split at h
        · rename_i q q' hq hq'
          simp only [Option.some.injEq] at h
          subst h
          have:=ih hq'
          simp only [List.forIn_cons,Sem.run_bind,hn,ne_eq,not_false_eq_true,if_true,part_run ha,part_run hb,Result.andThen_ok,sound_eqT hq]
          cases q
          · simp
          · simp only [Bool.not_true,Bool.false_eq_true,if_false,Sem.run_pure,Result.andThen_ok,Bool.true_and];exact this
        · cases h
      · cases h
theorem sound_eqAgg {op:BinOp} {t:TypeId} {x y:Operand} {xs ys:Array Value} {r:Bool} (h:eqAgg P t xs ys=some r) :
    (eqGuard op t x y (.agg xs) (.agg ys)).run P w=.ok () w∧(Op.equal t (.agg xs) (.agg ys)).run P w=.ok r w:=by
  unfold eqAgg at h
  split at h
  · rename_i fs hu
    cases hg:P.stoodInHeld t || P.eqGuardType P.depth t with
    | true=>rw [hg] at h;cases h
    | false =>
      rw [hg,cond_false] at h
      simp only [Bool.or_eq_false_iff] at hg
      refine ⟨?_,?_⟩
      · unfold eqGuard
        cases op <;> first | rfl | simp [run_prog,hg.2]
      · show (Op.equalIn (9999+1) t (.agg xs) (.agg ys)).run P w=.ok r w
        have:=sound_eqFs (P:=P) (w:=w) (d:=9998) h
        unfold Op.equalIn
        simp only [Sem.run_bind,run_und hu,Result.andThen_ok,run_prog,hg.1,Bool.false_eq_true,if_false]
        rw [←Array.forIn_toList]
        rw [show (9999:Nat)=9998+1 from rfl,this]
        cases r <;> simp
  · cases h
theorem sound_opBin0 {op:BinOp} {t:TypeId} {x y:Operand} {a b:Value} {K:Value→Prop} (h:opBin0 P op t a b K) :
    ∃v,(do eqGuard op t x y a b;binOp op t a b:Sem Value).run P w=.ok v w∧K v:=by
  have step:∀{s:Sem Value} {v:Value},plainEq a b=true→¬(a=.nilIface∧b=.nilIface)→s.run P w=.ok v w→(do eqGuard op t x y a b;s:Sem Value).run P w=.ok v w:=by
    intro s v hp hn hs
    simp only [Sem.run_bind,plain_guard0 hp hn,Result.andThen_ok,hs]
  have step2:∀{s:Sem Value} {v:Value} {r:Bool},plainEq a b=true→eqT P t a b=some r→s.run P w=.ok v w→(do eqGuard op t x y a b;s:Sem Value).run P w=.ok v w:=by
    intro s v r hp hr hs
    simp only [Sem.run_bind,plain_guard hp hr,Result.andThen_ok,hs]
  unfold opBin0 at h
  split at h
  · rename_i k n
    split at h
    · rename_i k' m
      split at h
      · obtain ⟨v,hr,hk⟩:=sound_opInt (P:=P) (w:=w) (t:=t) (kb:=k') h (.inr (.inl rfl));exact ⟨v,step rfl (fun q=>by cases q.1) hr,hk⟩
      · obtain ⟨v,hr,hk⟩:=sound_opInt (P:=P) (w:=w) (t:=t) (kb:=k') h (.inr (.inr rfl));exact ⟨v,step rfl (fun q=>by cases q.1) hr,hk⟩
      · split at h
        · rename_i hk;obtain ⟨v,hr,hk⟩:=sound_opInt (P:=P) (w:=w) (t:=t) (kb:=k') h (.inl hk);exact ⟨v,step rfl (fun q=>by cases q.1) hr,hk⟩
        · exact h.elim
    · exact h.elim
  · split at h
    · obtain ⟨v,hr,hk⟩:=sound_opStr (P:=P) (w:=w) (t:=t) h;exact ⟨v,step rfl (fun q=>by cases q.1) hr,hk⟩
    · exact h.elim
  · rename_i xs
    split at h
    · rename_i ys
      split at h
      · split at h
        · rename_i q hq
          obtain ⟨h1,h2⟩:=sound_eqAgg (P:=P) (w:=w) (op:=.eql) (x:=x) (y:=y) hq
          exact ⟨_,by simp only [Sem.run_bind,h1,Result.andThen_ok,binOp,h2,Sem.run_pure],h⟩
        · exact h.elim
      · split at h
        · rename_i q hq
          obtain ⟨h1,h2⟩:=sound_eqAgg (P:=P) (w:=w) (op:=.neq) (x:=x) (y:=y) hq
          exact ⟨_,by simp only [Sem.run_bind,h1,Result.andThen_ok,binOp,h2,Sem.run_pure],h⟩
        · exact h.elim
      · exact h.elim
    · exact h.elim
  · rename_i hn1 hn2 hn3
    have he1:plainEq a b=true→binOp .eql t a b=(do pure (.bool (←Op.equal t a b))):=by
      intro hp
      cases a <;> first | rfl | (exfalso;first | exact hn1 _ _ rfl | exact hn2 _ rfl | exact hn3 _ rfl) | (simp [plainEq] at hp;done) | (cases b <;> rfl)
    have he2:plainEq a b=true→binOp .neq t a b=(do pure (.bool (!(←Op.equal t a b)))):=by
      intro hp
      cases a <;> first | rfl | (exfalso;first | exact hn1 _ _ rfl | exact hn2 _ rfl | exact hn3 _ rfl) | (simp [plainEq] at hp;done) | (cases b <;> rfl)
    split at h
    · split at h
      · rename_i hg
        split at h
        · rename_i r hr
          have he:(Op.equal t a b).run P w=.ok r w:=sound_eqT hr
          exact ⟨_,step2 hg hr (by rw [he1 hg];simp only [Sem.run_bind,Result.andThen_ok,he,Sem.run_pure]),h⟩
        · exact h.elim
      · exact h.elim
    · split at h
      · rename_i hg
        split at h
        · rename_i r hr
          have he:(Op.equal t a b).run P w=.ok r w:=sound_eqT hr
          exact ⟨_,step2 hg hr (by rw [he2 hg];simp only [Sem.run_bind,Result.andThen_ok,he,Sem.run_pure]),h⟩
        · exact h.elim
      · exact h.elim
    · exact h.elim
theorem sound_FnNil {d:Nat} {t:TypeId} {x:Value} {K:Bool→Prop} {ps rs:Array TypeId} {va:Bool} (hu:P.underlying t=some (.func ps rs va)) (h:FnNil x K):∃b,(Op.equalIn (d+1) t x .nilFunc).run P w=.ok b w∧K b:=by
  unfold FnNil at h
  split at h
  · exact ⟨false,by simp [Op.equalIn,run_und hu],h⟩
  · exact ⟨true,by simp [Op.equalIn,run_und hu],h⟩
  · exact h.elim
theorem sound_opBin {op:BinOp} {t:TypeId} {x y:Operand} {a b:Value} {K:Value→Prop} (h:opBin P op t a b K) :
    ∃v,(do eqGuard op t x y a b;binOp op t a b:Sem Value).run P w=.ok v w∧K v:=by
  unfold opBin at h
  split at h
  · split at h
    · rename_i hu
      have hg:∀op,FnNil a (fun _=>True)→(eqGuard op t x y a .nilFunc).run P w=.ok () w:=by
        intro op hf
        refine plain_guard0 ?_ (fun q=>by cases q.2)
        unfold FnNil at hf
        split at hf <;> first | rfl | exact hf.elim
      have tr:∀{K':Bool→Prop},FnNil a K'→FnNil a (fun _=>True):=by
        intro K' hf;unfold FnNil at hf ⊢;split at hf <;> first | trivial | exact hf.elim
      split at h
      · obtain ⟨r,hr,hk⟩:=sound_FnNil (P:=P) (w:=w) (d:=9999) hu h
        refine ⟨_,?_,hk⟩
        have hb:binOp .eql t a .nilFunc=(do pure (.bool (←Op.equal t a .nilFunc))):=by
          have:=tr h;unfold FnNil at this;split at this <;> first | rfl | exact this.elim
        have hr':(Op.equal t a .nilFunc).run P w=.ok r w:=hr
        simp only [Sem.run_bind,hg _ (tr h),Result.andThen_ok,hb,hr',Sem.run_pure]
      · obtain ⟨r,hr,hk⟩:=sound_FnNil (P:=P) (w:=w) (d:=9999) hu h
        refine ⟨_,?_,hk⟩
        have hb:binOp .neq t a .nilFunc=(do pure (.bool (!(←Op.equal t a .nilFunc)))):=by
          have:=tr h;unfold FnNil at this;split at this <;> first | rfl | exact this.elim
        have hr':(Op.equal t a .nilFunc).run P w=.ok r w:=hr
        simp only [Sem.run_bind,hg _ (tr h),Result.andThen_ok,hb,hr',Sem.run_pure]
      · exact h.elim
    · exact h.elim
  · exact sound_opBin0 h
theorem sound_opUn {op:UnOp} {a:Value} {K:Value→Prop} (h:opUn op a K):∃v,(Op.unary op a).run P w=.ok v w∧K v:=by
  unfold opUn at h
  split at h
  · split at h
    · exact ⟨_,by simp [Op.unary],h⟩
    · exact h.elim
  · split at h
    · exact ⟨_,by simp [Op.unary,Op.intArith],h⟩
    · exact h.elim
  · split at h
    · exact ⟨_,by simp only [Op.unary,Op.intBits];rfl,h⟩
    · exact h.elim
  · exact h.elim
theorem sound_Bts {s:Sl} {K:ByteArray→Prop} (h:Bts (hpz w) s K):∃b,(Conv.bytesToString s.v).run P w=.ok (.string b) w∧K b:=by
  obtain ⟨bs,hr,hk⟩:=h
  refine ⟨_,?_,hk⟩
  obtain ⟨a,n,c⟩:=s
  cases a with
  | none =>
    simp only [rd,List.map_eq_nil_iff] at hr
    subst hr
    simp only [Sl.v,Conv.bytesToString,Sem.run_pure];rfl
  | some a =>
    have hl:=run_rd (P:=P) (w:=w) a rfl hr
    have key:∀(l:List UInt8) (s:ByteArray),(l.map fun b:UInt8=>(b.toNat:Int)).foldl (fun r n=>r.push (UInt8.ofNat n.toNat)) s=⟨s.data++l.toArray⟩:=by
      intro l
      induction l with
      | nil=>intro s;simp
      | cons b l ih=>intro s;simp only [List.map_cons,List.foldl_cons,ih];simp [ByteArray.push]
    have hl':(loadCells a n).run P w=.ok ((bs.map fun b:UInt8=>(b.toNat:Int)).map (Value.int .u8)).toArray w:=by rw [hl];simp [Function.comp_def]
    rw [show Sl.v ⟨some a,n,c⟩=.slice (some a) n c from rfl,run_bytesToString w a n c _ hl',key]
    simp [ByteArray.empty,ByteArray.emptyWithCapacity]
    rfl
theorem sound_conv {s d:TypeId} {x:Value} {K:Value→Prop} (h:convV P s d x (hpz w) K):∃v,(convert s d x).run P w=.ok v w∧K v:=by
  unfold convV at h
  split at h
  · rename_i hs hd
    split at h
    · refine ⟨_,?_,h⟩;simp [convert,run_und hs,run_und hd,Conv.intToInt]
    · exact h.elim
  · rename_i hs hd
    split at h
    · refine ⟨_,?_,h⟩;simp [convert,run_und hs,run_und hd]
    · exact h.elim
  · rename_i el hs hd
    split at h
    · rename_i he
      obtain ⟨b,hr,hk⟩:=sound_Bts (P:=P) h
      refine ⟨_,?_,hk⟩
      rw [run_convert_bytes_string w s d el _ _ _ hs he hd]
      exact hr
    · exact h.elim
  · exact h.elim
theorem run_asInt {k:IntKind} {n:Int}:(asIntOf (.int k n)).run P w=.ok (k,n) w:=by simp [asIntOf]
theorem run_bound {k:IntKind} {n:Int} {y:Nat} {code:BoundsCode} (h0:0≤n) (h1:n≤y):(Instr.sliceBound (.int k n) y code).run P w=.ok n.toNat w:=by
  simp [Instr.sliceBound,run_asInt,h0,h1]
theorem optInt_some {e:Operand→Option Value} {r:Operand→Value} (he:∀x v,e x=some v→r x=v) {o:Option Operand} {l:Option Int} (h:optInt e o=some l) :
    (o=none∧l=none)∨∃x k n,o=some x∧r x=.int k n∧l=some n:=by
  cases o with
  | none=>simp [optInt] at h;exact .inl ⟨rfl,h.symm⟩
  | some x =>
    simp only [optInt] at h
    split at h
    · rename_i k n hx;cases h;exact .inr ⟨x,k,n,rfl,he _ _ hx,rfl⟩
    · cases h
theorem sound_Slc {sl:Sl} {size:Nat} {lo hi mx:Option Operand} {l h' m:Option Int} {t el:TypeId} {K:Sl→Prop} (he:∀x v,e x=some v→r x=v) (hl:optInt e lo=some l) (hh:optInt e hi=some h')
    (hm:optInt e mx=some m) (hu:P.underlying t=some (.slice el)) (hs:sizeP P el=some size) (hx:(h'.isNone && m.isSome)=false) (h:Slc sl size l h' m K) :
    ∃s',(Instr.sliceAt t sl.v (lo.map r) (hi.map r) (mx.map r)).run P w=.ok (Sl.v s') w∧K s':=by
  obtain ⟨h1,h2,h3,h4,hk⟩:=h
  refine ⟨_,?_,hk⟩
  obtain ⟨a,n,c⟩:=sl
  have hb:(Instr.sliceBounds true n c (lo.map r) (hi.map r) (mx.map r)).run P w=.ok ((l.getD 0).toNat,(h'.getD n).toNat,(m.getD c).toNat) w:=by
    rcases optInt_some he hm with ⟨rfl,rfl⟩ | ⟨xm,km,nm,rfl,em,rfl⟩ <;>
      rcases optInt_some he hh with ⟨rfl,rfl⟩ | ⟨xh,kh,nh,rfl,eh,rfl⟩ <;>
      rcases optInt_some he hl with ⟨rfl,rfl⟩ | ⟨xl,kl,nl,rfl,el',rfl⟩ <;>
      (try simp at hx) <;> simp only [Option.getD_none,Option.getD_some] at h1 h2 h3 h4 <;>
      simp only [Instr.sliceBounds,Option.map_some,Option.map_none,Sem.run_bind,Sem.run_pure,Result.andThen_ok, *] <;>
      (repeat (rw [run_bound (by omega) (by omega)];simp only [Result.andThen_ok])) <;> simp
  simp only [Sl.v,Instr.sliceAt,Sem.run_bind,run_und hu,Result.andThen_ok,Instr.slice,hb,run_sizeP hs,Sem.run_pure,slAt]
theorem sound_SlcS {s:ByteArray} {lo hi:Option Operand} {l h':Option Int} {t:TypeId} {K:ByteArray→Prop} (he:∀x v,e x=some v→r x=v) (hl:optInt e lo=some l) (hh:optInt e hi=some h')
    (hu:P.underlying t=some .string) (h:SlcS s l h' K) :
    ∃s',(Instr.sliceAt t (.string s) (lo.map r) (hi.map r) none).run P w=.ok (.string s') w∧K s':=by
  obtain ⟨h1,h2,h3,hk⟩:=h
  refine ⟨_,?_,hk⟩
  have hb:(Instr.sliceBounds false s.size s.size (lo.map r) (hi.map r) none).run P w=.ok ((l.getD 0).toNat,(h'.getD s.size).toNat,s.size) w:=by
    rcases optInt_some he hh with ⟨rfl,rfl⟩ | ⟨xh,kh,nh,rfl,eh,rfl⟩ <;>
      rcases optInt_some he hl with ⟨rfl,rfl⟩ | ⟨xl,kl,nl,rfl,el',rfl⟩ <;>
      simp only [Option.getD_none,Option.getD_some] at h1 h2 h3 <;>
      simp only [Instr.sliceBounds,Option.map_some,Option.map_none,Sem.run_bind,Sem.run_pure,Result.andThen_ok, *] <;>
      (repeat (rw [run_bound (by omega) (by omega)];simp only [Result.andThen_ok])) <;> simp
  simp only [Instr.sliceAt,Sem.run_bind,run_und hu,Result.andThen_ok,Instr.slice,hb,Sem.run_pure,Option.isSome_none,Bool.false_eq_true,if_false]
theorem run_Ix {a:Addr} {t el:TypeId} {n size c:Nat} {k:IntKind} {i:Int} (hu:P.underlying t=some (.slice el)) (hs:sizeP P el=some size) (h0:0≤i) (h1:i < n) :
    (Instr.indexAt t (.slice (some a) n c) (.int k i)).run P w=.ok (.pointer (some (a.add (i.toNat*size)))) w:=by
  simp [Instr.indexAt,run_asInt,run_und hu,run_sizeP hs,h0,h1]
theorem run_IxA {a:Addr} {t el:TypeId} {n size:Nat} {k:IntKind} {i:Int} (hu:P.underlying t=some (.array n el)) (hs:sizeP P el=some size) (h0:0≤i) (h1:i < n) :
    (Instr.indexAt t (.pointer (some a)) (.int k i)).run P w=.ok (.pointer (some (a.add (i.toNat*size)))) w:=by
  simp [Instr.indexAt,run_asInt,run_und hu,run_sizeP hs,h0,h1,Instr.sureAddr]
theorem sound_MkS {el t:TypeId} {i:TypeInfo} {z:Value} {kl kc:IntKind} {l c:Int} {K:Sl→Hp→Prop} (hu:P.underlying t=some (.slice el)) (hi:P.info? el=some i) (hz:zeroOf P el=some z)
    (h:MkS (hpz w) el z.cells i.size i.bytes l c K):Gives P (Instr.makeSlice t (.int kl l) (.int kc c)) w fun v h'=>∃s:Sl,v=s.v∧K s h':=by
  obtain ⟨h0,h1,h2,h3,hk⟩:=h
  have hz':i.zero=some z:=by simpa [zeroOf,hi] using hz
  exact ⟨_,_,run_make w t el i z hu hi hz' kl kc l c h0 h1 (by omega) (by omega),same_alloc w _,⟨some ⟨w.heap.size,0,none⟩,l.toNat,c.toNat⟩,rfl,by rw [hpz_alloc,←hpz_size w];exact hk⟩
theorem toList_two {ts:Array TypeId} {t u:TypeId} (h:ts.toList=[t,u]):ts=#[t,u]:=by
  rw [←Array.toArray_toList (xs:=ts),h]
theorem sound_Ap {ts:Array TypeId} {t u el ty:TypeId} {du:TypeDesc} {i:TypeInfo} {z x:Value} {s:Sl} {n:Nat} {vals:List Value→Prop} {K:Sl→Hp→Prop} (ht:ts.toList=[t,u]) (hu:P.underlying t=some (.slice el))
    (hdu:P.underlying u=some du) (hni:∀k,du≠.int k) (hi:P.info? el=some i) (hz:zeroOf P el=some z)
    (hlen:Builtin.lenOf x=pure n) (hfirst:∀(w':World) vs,hpz w'=hpz w→vals vs→(Builtin.firstCells i.size n x).run P w'=.ok vs.toArray w')
    (h:Ap (hpz w) el z.cells i.size i.bytes s n vals K):Gives P (Builtin.append_ ts ty #[s.v,x]) w fun v h'=>∃s:Sl,v=s.v∧K s h':=by
  obtain ⟨vs,hv,h⟩:=h
  have hsz:sizeP P el=some i.size:=by simp [sizeP,hi]
  have hz':i.zero=some z:=by simpa [zeroOf,hi] using hz
  obtain rfl:=toList_two ht
  obtain ⟨a,m,c⟩:=s
  have hni':∀{α:Type} (k:Sem α) (k':Sem α),(match du with | .int _=>k | _=>k')=k':=by
    intro α k k';cases du <;> first | rfl | exact absurd rfl (hni _)
  rcases h with ⟨hr,h⟩ | ⟨hr,hcap,h63,old,hold,hk⟩
  · have hr':m+n≤c:=hr
    cases a with
    | none =>
      refine ⟨_,w,?_,Same.refl w,⟨none,m+n,c⟩,rfl,h⟩
      simp [Builtin.append_,run_und hu,run_und hdu,run_sizeP hsz,hlen,hr',hfirst w vs rfl hv,Sl.v]
    | some a =>
      obtain ⟨w',hst,hs,hk⟩:=run_StL (P:=P) h
      refine ⟨_,w',?_,hs,⟨some a,m+n,c⟩,rfl,hk⟩
      have hst':(storeCells (a.add (m*i.size)) vs).run P w=.ok () w':=hst
      simp [Builtin.append_,run_und hu,run_und hdu,run_sizeP hsz,hlen,hr',hfirst w vs rfl hv,Sl.v,hst']
  · have hr':¬(m+n≤c):=by simp only at hr;omega
    have h2:m+n < 2 ^ 63:=h63
    have h63':¬(9223372036854775807 < ((m:Int)+(n:Int))):=by omega
    have h48':¬(281474976710656 < Builtin.nextslicecap (m+n) c*i.bytes):=by simp only at hcap;omega
    have hge:=grownCap_ge w (m+n) c el
    have hlt:grownCap w (m+n) c el < 2 ^ 63:=by
      have hlt:=Nat.mod_lt (w.tape w.drawn (.appendCap (m+n) c el)) (show 0 < 2 ^ 63 - (m+n) by omega)
      simp only [grownCap,Question.cut] at hge ⊢
      omega
    have hk':=hk (grownCap w (m+n) c el) hge hlt
    have ho:(Builtin.firstCells i.size m (.slice a m c)).run P w.drew=.ok old.toArray w.drew:=run_first (w:=w.drew) hold
    refine ⟨_,w.drew.alloc (.cells ((old++vs).toArray++Builtin.zeroCells z.cells (grownCap w (m+n) c el - (m+n))) el),?_,(same_drew w).trans (same_alloc _ _),⟨some ⟨w.heap.size,0,none⟩,m+n,grownCap w (m+n) c el⟩,rfl,by rw [hpz_alloc,←hpz_size w];exact hk'⟩
    simp [Builtin.append_,run_und hu,run_und hdu,run_sizeP hsz,typeInfo,zeroValue,hi,hz',hlen,hr',h63',h48',Question.forced,hfirst w.drew vs rfl hv,ho,newRow,grownCap,Sl.v]
    congr 2
    apply Array.ext'
    simp [List.append_assoc]
theorem evs_run {e:Operand→Option Value} {r:Operand→Value} (he:∀x v,e x=some v→r x=v):∀{xs:List Operand} {vs:List Value},evs e xs=some vs→xs.map r=vs:=by
  intro xs
  induction xs with
  | nil=>intro vs h;simp [evs] at h;simp [h]
  | cons x xs ih =>
    intro vs h
    simp only [evs] at h
    split at h
    · rename_i v us hv hus;cases h;simp [he _ _ hv,ih hus]
    · cases h
theorem evParts_run {e:Operand→Option Value} {r:Operand→Value} (he:∀x v,e x=some v→r x=v):∀{xs:List (Nat × Operand)} {vs:List (Nat × Value)},evParts e xs=some vs→xs.map (fun (i,x)=>(i,r x))=vs:=by
  intro xs
  induction xs with
  | nil=>intro vs h;simp [evParts] at h;simp [h]
  | cons x xs ih =>
    intro vs h
    obtain ⟨i,x⟩:=x
    simp only [evParts] at h
    split at h
    · rename_i v us hv hus;cases h;simp [he _ _ hv,ih hus]
    · cases h
theorem fields_places {fs:List Field}:∀{ps:List (Nat × Nat)},places P fs=some ps→(fs.mapM fun f=>Functor.map (Prod.mk f.offset) (sizeOf f.type):Sem (List (Nat × Nat))).run P w=.ok ps w:=by
  induction fs with
  | nil=>intro ps h;simp [places] at h;subst h;simp
  | cons f fs ih =>
    intro ps h
    simp only [places] at h
    split at h
    · rename_i n r hn hr
      cases h
      simp [List.mapM_cons,run_sizeP hn,ih hr]
    · cases h
theorem sound_build {t:TypeId} {ps:Array (Nat × Value)} {v:Value} (h:buildV P t ps.toList=some v):(Instr.build t ps).run P w=.ok v w:=by
  unfold buildV at h
  split at h
  · rename_i z fields hz hu
    split at h
    · rename_i pl hp
      obtain ⟨cs,hc,rfl⟩:=Option.map_eq_some_iff.1 h
      have hm:=fields_places (P:=P) (w:=w) hp
      have hm':(fields.mapM fun f=>Functor.map (Prod.mk f.offset) (sizeOf f.type):Sem (Array (Nat × Nat))).run P w=.ok pl.toArray w:=by
        rw [←Array.toArray_toList (xs:=fields),List.mapM_toArray]
        simp [hm]
      simp [Instr.build,run_zeroP hz,run_und hu,hm',hc]
    · cases h
  · rename_i z n el hz hu
    split at h
    · rename_i size hs
      obtain ⟨cs,hc,rfl⟩:=Option.map_eq_some_iff.1 h
      simp [Instr.build,run_zeroP hz,run_und hu,run_sizeP hs,hc]
    · cases h
  · cases h
theorem sound_buildSl {t:TypeId} {len:Nat} {ps:Array (Nat × Value)} {cs:Array Value} {el:TypeId} {K:Sl→Hp→Prop} (h:buildSl P t len ps.toList=some (cs,el))
    (hk:New (hpz w) cs el fun a h'=>K ⟨some a,len,len⟩ h'):Gives P (Instr.buildSlice t len ps) w fun v h'=>∃s:Sl,v=s.v∧K s h':=by
  unfold buildSl at h
  split at h
  · rename_i el' hu
    split at h
    · rename_i size z hs hz
      split at h
      · rename_i hb
        obtain ⟨cs',hc,he⟩:=Option.map_eq_some_iff.1 h
        cases he
        obtain ⟨a,w',hr,hsm,hk'⟩:=run_new (P:=P) hk
        refine ⟨_,w',?_,hsm,_,rfl,hk'⟩
        have hb':¬(16777216 < len*size):=by omega
        unfold zs at hc
        by_cases hn:len*size=0
        · simp [Instr.buildSlice,run_und hu,run_sizeP hs,hn] at hc ⊢
          simp [hc,hr,Sl.v]
        · simp [Instr.buildSlice,run_und hu,run_sizeP hs,hb',hn,run_zeroP hz] at hc ⊢
          simp [hc,hr,Sl.v]
      · cases h
    · cases h
  · cases h
theorem sound_semLen {t:TypeId} {x:Value} {K:Value→Prop} {rest:List TypeId} {ts:Array TypeId} {ty:TypeId} {xs:List Value} {args:Array Value} (ht:ts.toList=t::rest) (ha:args.toList=x::xs)
    (hf:lenFits P t x=true) (h:semLen x K):∃v,(Builtin.len_ ts ty args).run P w=.ok v w∧K v:=by
  have h0:ts[0]? = some t:=by rw [←Array.getElem?_toList,ht];rfl
  have h1:args[0]? = some x:=by rw [←Array.getElem?_toList,ha];rfl
  unfold lenFits at hf
  split at hf
  · rename_i hu;exact ⟨_,by simp [Builtin.len_,h0,h1,run_und hu,goInt],h⟩
  · rename_i hu;exact ⟨_,by simp [Builtin.len_,h0,h1,run_und hu,goInt],h⟩
  · rename_i hu;exact ⟨_,by simp [Builtin.len_,h0,h1,run_und hu,goInt],h⟩
  · cases hf
theorem run_method {t:TypeId} {v:Value} {name:String} {g:FuncId} {pr:Bool} {n:Nat} (hm:methP P t name=some (g,pr)) (hr:recvOk P t pr=true):(method (n+1) t v name).run P w=.ok (g,v) w:=by
  unfold methP at hm
  obtain ⟨i,hi,hm⟩:=Option.bind_eq_some_iff.1 hm
  obtain ⟨m,hf,hm⟩:=Option.bind_eq_some_iff.1 hm
  cases hp:m.path.isEmpty with
  | false=>rw [hp] at hm;cases hm
  | true =>
    rw [hp] at hm
    simp only [cond] at hm
    have hp':m.path.toList=[]:=by simpa using hp
    unfold recvOk at hr
    simp only [method,Sem.run_bind,run_info hi,Result.andThen_ok,hf,hp',follow,Sem.run_pure,hm,receiverAt]
    split at hr
    · rename_i e hu
      subst hr
      simp [run_und hu,Place.get]
    · rename_i d hu hd
      have:pr=false:=by simpa using hr
      subst this
      simp only [run_und hd,Result.andThen_ok]
      simp [Place.get]
    · cases hr
theorem run_methodQ {t:TypeId} {a:Addr} {name:String} {g:FuncId} {off n:Nat} (hm:methQ P t name=some (g,off)):(method (n+1) t (.pointer (some a)) name).run P w=.ok (g, .pointer (some (a.add off))) w:=by
  unfold methQ at hm
  obtain ⟨i,hi,hm⟩:=Option.bind_eq_some_iff.1 hm
  obtain ⟨m,hf,hm⟩:=Option.bind_eq_some_iff.1 hm
  split at hm
  · rename_i s g' hp hfn
    cases hd:s.deref with
    | false=>rw [hd] at hm;cases hm
    | true =>
      rw [hd] at hm
      simp only [cond] at hm
      split at hm
      · rename_i f hfo
        split at hm
        · rename_i k fs hs hu
          cases hm
          split at hfo
          · rename_i fs' hus
            have hpe:m.path.isEmpty=false:=by
              cases hq:m.path.isEmpty with
              | false=>rfl
              | true => have:m.path.toList=[]:=by simpa using hq
                        rw [this] at hp;cases hp
            simp only [method,Sem.run_bind,run_info hi,Result.andThen_ok,hf,hp,follow,hd,if_true,Place.get,Sem.run_pure,asAddr,run_und hus,hfo,fieldPlace,run_sizeP hs,hfn,receiverAt,run_und hu]
            simp [Sem.run_pure,run_und hu,Result.andThen_ok,fieldPlace,run_sizeP hs,follow,receiverAt]
          · cases hfo
        · cases hm
      · cases hm
  · cases hm
theorem sound_meth {t:TypeId} {v v':Value} {g:FuncId} {name:String} {args:Array Value} {K:Option Value→Hp→Prop} {zs:List Value} (hm':(method (P.types.size+Made.depth) t v name).run P w=.ok (g,v') w) (hok:okFn P g=true)
    (h:CallH P g (v'::args.toList) (hpz w) (fun v h'=>resEx zs v fun v'=>K (some v') h') Kp):upR P K Kp w ((invoke (.fn (.method name) #[]) (#[.iface t v]++args)).run P w):=by
  have fin:∀{v:Value} {h':Hp},resEx zs v (fun v'=>K (some v') h')→∃v',(∀x,v'=some x→v=x)∧K v' h':=fun he=>⟨some _,fun x hx=>by cases hx;rfl,resEx_of he⟩
  unfold okFn at hok
  split at hok
  · rename_i fn hf
    simp only [Bool.and_eq_true,Bool.not_eq_true'] at hok
    obtain ⟨hb1,hb2⟩:=hok
    have e0:(#[Value.iface t v]++args)[0]? = some (.iface t v):=by rw [Array.getElem?_append_left (by simp)];rfl
    have e1:(#[Value.iface t v]++args).extract 1 (#[Value.iface t v]++args).size=args:=by
      apply Array.ext';simp
    have hrun:(callFunc g (#[v']++args)).run P w=.ok (.enter g (#[v']++args)) w:=by
      have h1:¬fn.name = "runtime.NumGoroutine" := by simpa using hb2
      have h2:¬fn.body=none:=by intro hbb;simp [hbb] at hb1
      simp only [callFunc,program,Sem.run_bind,Sem.run,Result.andThen_ok,hf]
      simp [h1,h2]
    simp only [invoke,e0,e1,callMethod,Sem.run_bind,run_prog,Result.andThen_ok,hm',hrun]
    refine ⟨Same.refl w,?_⟩
    intro w1 hw1
    have e2:(#[v']++args).toList.toArray=(v'::args.toList).toArray:=by simp
    rw [e2]
    refine (h w1 hw1).mono ?_
    rintro e w' ⟨hs,he⟩
    refine ⟨hs,?_⟩
    cases e with
    | returned v=>exact fin he
    | panicked ch=>exact he
    | outgrown=>exact he
  · cases hok
theorem sound_CallI {fv:Value} {name:String} {args:Array Value} {K:Option Value→Hp→Prop} {zs:List Value}
    (h:CallI P fv name args.toList (hpz w) (fun v h'=>resEx zs v fun v'=>K (some v') h') Kp):upR P K Kp w ((invoke (.fn (.method name) #[]) (#[fv]++args)).run P w):=by
  unfold CallI at h
  split at h
  · rename_i t v
    split at h
    · rename_i g pr hm
      cases hok:(recvOk P t pr && okFn P g) with
      | false=>rw [hok] at h;exact h.elim
      | true =>
        rw [hok,bsel_true] at h
        simp only [Bool.and_eq_true] at hok
        exact sound_meth (run_method (n:=P.types.size+99) hm hok.1) hok.2 h
    · split at h
      · rename_i g off hm
        cases hok:okFn P g with
        | false=>rw [hok] at h;exact h.elim
        | true =>
          rw [hok,bsel_true] at h
          unfold ptrAt at h
          split at h
          · exact sound_meth (run_methodQ (n:=P.types.size+99) hm) hok h
          · exact h.elim
      · exact h.elim
  · exact h.elim
theorem run_nilAhead {t:TypeId} {v:Value} {name:String} {g:FuncId} {n:Nat} (hm:methP P t name=some (g,true)):(nilAhead (n+1) t v name).run P w=.ok (some false) w:=by
  unfold methP at hm
  obtain ⟨i,hi,hm⟩:=Option.bind_eq_some_iff.1 hm
  obtain ⟨m,hf,hm⟩:=Option.bind_eq_some_iff.1 hm
  cases hp:m.path.isEmpty with
  | false=>rw [hp] at hm;cases hm
  | true =>
    rw [hp] at hm
    simp only [cond] at hm
    have hp':m.path.toList=[]:=by simpa using hp
    simp only [nilAhead,Sem.run_bind,run_info hi,Result.andThen_ok,hf,hp',followBlind,Sem.run_pure,hm]
theorem sound_CallV {fv:Value} {args:Array Value} {K:Option Value→Hp→Prop} {zs:List Value} {d:Deferred} (hd:(Deferred.ofValue fv args).run P w=.ok d w)
    (h:CallV P fv args.toList (hpz w) (fun v h'=>resEx zs v fun v'=>K (some v') h') Kp):upR P K Kp w ((invoke d.target d.args).run P w):=by
  have fin:∀{v:Value} {h':Hp},resEx zs v (fun v'=>K (some v') h')→∃v',(∀x,v'=some x→v=x)∧K v' h':=fun he=>⟨some _,fun x hx=>by cases hx;rfl,resEx_of he⟩
  unfold CallV at h
  split at h
  · rename_i g first captured
    simp only [Deferred.ofValue,Sem.run_pure,Result.ok.injEq,and_true] at hd
    subst hd
    cases hok:okFn P g with
    | false=>rw [hok] at h;exact h.elim
    | true =>
      rw [hok,bsel_true] at h
      unfold okFn at hok
      split at hok
      · rename_i fn hf
        simp only [Bool.and_eq_true,Bool.not_eq_true'] at hok
        obtain ⟨hb1,hb2⟩:=hok
        have hrun:(callFunc g (first++args++captured)).run P w=.ok (.enter g (first++args++captured)) w:=by
          have h1:¬fn.name = "runtime.NumGoroutine" := by simpa using hb2
          have h2:¬fn.body=none:=by intro hbb;simp [hbb] at hb1
          simp only [callFunc,program,Sem.run_bind,Sem.run,Result.andThen_ok,hf]
          simp [h1,h2]
        simp only [invoke,hrun]
        refine ⟨Same.refl w,?_⟩
        intro w1 hw1
        have e2:(first++args++captured).toList.toArray=(first.toList++args.toList++captured.toList).toArray:=by simp
        rw [e2]
        refine (h w1 hw1).mono ?_
        rintro e w' ⟨hs,he⟩
        refine ⟨hs,?_⟩
        cases e with
        | returned v=>exact fin he
        | panicked ch=>exact he
        | outgrown=>exact he
      · cases hok
  · rename_i l first captured
    simp only [Deferred.ofValue,Sem.run_pure,Result.ok.injEq,and_true] at hd
    subst hd
    obtain ⟨fn,tmps,assign,body,hy,hr⟩:=h w rfl
    have e2:(first.toList++args.toList).toArray=first++args:=by simp
    rw [e2] at hy
    simp only [invoke,hy]
    refine ⟨Same.refl w,hr.mono ?_⟩
    rintro e w' ⟨hs,he⟩
    refine ⟨hs,?_⟩
    cases e with
    | returned v=>exact fin he
    | panicked ch=>exact he
    | outgrown=>exact he
  · rename_i ti name first captured
    simp only [Deferred.ofValue,Sem.run_pure,Result.ok.injEq,and_true] at hd
    subst hd
    unfold CallM at h
    split at h
    · rename_i r rest hrr
      split at h
      · rename_i ms hu
        have e2:first++args=#[r]++rest.toArray:=by
          apply Array.ext';simp only [Array.toList_append,hrr];rfl
        have:=sound_CallI (P:=P) (w:=w) (K:=K) (Kp:=Kp) (zs:=zs) (args:=rest.toArray) (name:=name) (fv:=r) (by simpa using h)
        simp only [invoke,e2] at this ⊢
        have e0:(#[r]++rest.toArray)[0]? = some r:=by rw [Array.getElem?_append_left (by simp)];rfl
        simp only [e0,Sem.run_bind,run_und hu,Result.andThen_ok,Sem.run_pure] at this ⊢
        exact this
      · exact h.elim
    · exact h.elim
  · exact h.elim
theorem execOp_call {o:Oper} {c:Call} (ho:o.op=.call c):execOp r o=(do let d ←resolve r c o.type;invoke d.target d.args):=by
  obtain ⟨_,op,_,_,_,_⟩:=o;cases ho;rfl
theorem Gives.up' {s:Sem Value} {K:Option Value→Hp→Prop} (h:∃v,s.run P w=.ok v w∧K (some v) (hpz w)) :
    upR P K Kp w ((do pure (Next.value (←s)):Sem Next).run P w):=by
  obtain ⟨v,hr,hk⟩:=h
  exact Gives.up ⟨v,w,hr,Same.refl w,hk⟩
theorem Gives.upS {s:Sem Value} {K:Option Value→Hp→Prop} (h:Gives P s w fun v h'=>∃sl:Sl,v=sl.v∧K (some sl.v) h') :
    upR P K Kp w ((do pure (Next.value (←s)):Sem Next).run P w):=by
  obtain ⟨v,w',hr,hs,sl,rfl,hk⟩:=h
  exact Gives.up ⟨_,w',hr,hs,hk⟩
theorem sound_builtin {b:Builtin} {ts:Array TypeId} {vs:Array Value} {ty:TypeId} {cs:Array Bool} {K:Option Value→Hp→Prop} (h:semBuiltin P b ts.toList vs.toList (hpz w) fun v h'=>K (some v) h') :
    upR P K Kp w ((builtin b ts ty cs vs).run P w):=by
  unfold semBuiltin at h
  split at h
  · split at h
    · rename_i t rest x xs ht ha
      split at h
      · rename_i hf
        exact Gives.up' (sound_semLen ht ha hf h)
      · exact h.elim
    · exact h.elim
  · split at h
    · rename_i t rest a n c xs ht ha
      have h0:ts[0]? = some t:=by rw [←Array.getElem?_toList,ht];rfl
      have h1:vs[0]? = some (.slice a n c):=by rw [←Array.getElem?_toList,ha];rfl
      split at h
      · rename_i hu
        exact Gives.up' ⟨_,by simp [Builtin.cap_,h0,h1,run_und hu,goInt],h⟩
      · exact h.elim
    · exact h.elim
  · split at h
    · rename_i x y ha
      split at h
      · rename_i v hv
        refine Gives.up' ⟨v,?_,h⟩
        cases x <;> cases y <;> simp [minV] at hv
        subst hv
        simp [Builtin.min_,ha,Builtin.min2,List.foldlM]
      · exact h.elim
    · exact h.elim
  · split at h
    · rename_i x y ha
      split at h
      · rename_i v hv
        refine Gives.up' ⟨v,?_,h⟩
        cases x <;> cases y <;> simp [maxV] at hv
        subst hv
        simp [Builtin.max_,ha,Builtin.max2,List.foldlM]
      · exact h.elim
    · exact h.elim
  · split at h
    · rename_i s x ha
      obtain rfl:vs=#[s,x]:=by rw [←Array.toArray_toList (xs:=vs),ha]
      unfold semAppend at h
      split at h
      · rename_i t u a n c ht
        split at h
        · rename_i el du hu hdu
          split at h
          · rename_i i z hi hz
            split at h
            · exact h.elim
            · rename_i b m cc hni
              exact Gives.upS (sound_Ap (s:=⟨a,n,c⟩) ht hu hdu (fun k hk=>hni k hk) hi hz rfl (fun w' vs hw hv=>run_first (w:=w') (by rw [hw];exact hv)) h)
            · rename_i bs hni
              refine Gives.upS (sound_Ap (s:=⟨a,n,c⟩) ht hu hdu (fun k hk=>hni k hk) hi hz rfl (fun w' vs hw hv => ?_) h)
              subst hv
              have hx:bs.extract 0 bs.size=bs:=by simp
              simp only [Builtin.firstCells,hx,Sem.run_pure]
              congr 1
              apply Array.ext'
              simp
            · exact h.elim
          · exact h.elim
        · exact h.elim
      · exact h.elim
    · exact h.elim
  · split at h
    · rename_i s x ha
      obtain rfl:vs=#[s,x]:=by rw [←Array.toArray_toList (xs:=vs),ha]
      unfold semCopy at h
      split at h
      · rename_i t rest a n c ht
        have h0:ts[0]? = some t:=by rw [←Array.getElem?_toList,ht];rfl
        split at h
        · rename_i el hu
          split at h
          · rename_i size hs
            have fin:∀{k:Nat} {vals:List Value→Prop} {x:Value},(Builtin.lenOf x).run P w=.ok k w→(∀vs,vals vs→(Builtin.firstCells size (Nat.min k n) x).run P w=.ok vs.toArray w)→Cpy (hpz w) a vals (fun h'=>K (some (.int .i64 (Nat.min k n:Nat))) h') →
                upR P K Kp w ((builtin .copy ts ty cs #[.slice a n c,x]).run P w):=by
              intro k vals x hl hf hc
              obtain ⟨us,h1,h2⟩:=hc
              have hfc:=hf us h1
              cases a with
              | none =>
                refine Gives.up ⟨_,w,?_,Same.refl w,h2⟩
                simp [Builtin.copy_,h0,run_und hu,hl,run_sizeP hs,hfc,goInt]
              | some a =>
                obtain ⟨w',hr,hsm,hk⟩:=run_StL (P:=P) h2
                have hr':(storeCells a us).run P w=.ok () w':=hr
                refine Gives.up ⟨_,w',?_,hsm,hk⟩
                simp [Builtin.copy_,h0,run_und hu,hl,run_sizeP hs,hfc,goInt,hr',Result.andThen_ok]
            split at h
            · rename_i b m cc
              exact fin (k:=m) (by simp [Builtin.lenOf]) (fun us hus=>by
                have:=run_first (P:=P) (w:=w) (c:=cc) hus
                cases b with
                | none=>simpa [Builtin.firstCells] using this
                | some b=>simpa [Builtin.firstCells] using this) h
            · rename_i bs
              exact fin (k:=bs.size) (by simp [Builtin.lenOf]) (fun us hus=>by
                subst hus
                simp only [Builtin.firstCells,Sem.run_pure]
                congr 1
                apply Array.ext'
                simp) h
            · exact h.elim
          · exact h.elim
        · exact h.elim
      · exact h.elim
    · exact h.elim
  · split at h
    · rename_i m k ha
      obtain rfl:vs=#[m,k]:=by rw [←Array.toArray_toList (xs:=vs),ha]
      unfold semDel at h
      split at h
      · rename_i t rest m ht
        have h0:ts[0]? = some t:=by rw [←Array.getElem?_toList,ht];rfl
        split at h
        · rename_i kt et hu
          split at h
          · rename_i kd hkd
            cases hkk:keyD kd with
            | false=>rw [hkk] at h;exact h.elim
            | true =>
              rw [hkk,bsel_true] at h
              unfold Del at h
              split at h
              · refine Gives.up ⟨_,w,?_,Same.refl w,h⟩
                simp [Builtin.delete_,h0,run_und hu,run_checkKey hkd hkk]
              · rename_i r
                obtain ⟨es,c,res,h1,h2,h3⟩:=h
                have hm:=map_at h1
                have hck:=run_checkKey (P:=P) (w:=w) (b:=es.isEmpty) (k:=k) hkd hkk
                have hfk:=run_findKey (P:=P) (w:=w) hkd h2
                cases res with
                | none =>
                  refine Gives.up ⟨_,{ w with heap:=w.heap.setIfInBounds r (.map es c) },?_,same_map hm,by rw [hpz_setO];exact h3⟩
                  have e1:(#[Value.map (some r),k])[0]? = some (.map (some r)):=rfl
                  have e2:(#[Value.map (some r),k])[1]? = some k:=rfl
                  simp only [Builtin.delete_,h0,e1,e2,Sem.run_bind,run_und hu,Result.andThen_ok,run_getMap h1,hck,hfk]
                  simp [setObj,Sem.run,hm,Sem.run_bind,Result.andThen_ok]
                | some p =>
                  obtain ⟨i,u⟩:=p
                  refine Gives.up ⟨_,{ w with heap:=w.heap.setIfInBounds r (.map (es.eraseIdxIfInBounds i) c) },?_,same_map hm,by rw [hpz_setO];exact h3⟩
                  have e1:(#[Value.map (some r),k])[0]? = some (.map (some r)):=rfl
                  have e2:(#[Value.map (some r),k])[1]? = some k:=rfl
                  simp only [Builtin.delete_,h0,e1,e2,Sem.run_bind,run_und hu,Result.andThen_ok,run_getMap h1,hck,hfk]
                  simp [setObj,Sem.run,hm,Sem.run_bind,Result.andThen_ok]
          · exact h.elim
        · exact h.elim
      · exact h.elim
    · exact h.elim
  · exact h.elim
theorem run_assert {asserted t xt:TypeId} {v u:Value} {ok:Bool} {w:World} (h:asrtV P asserted t v ok=some u):(Instr.typeAssert (.iface t v) xt asserted ok).run P w=.ok u w:=by
  unfold asrtV at h
  unfold Instr.typeAssert
  split at h
  · cases h
  · rename_i d hd hu
    rw [Sem.run_bind,run_underlying hu,Result.andThen_ok]
    split at h
    · rename_i hta
      simp only [Option.some.injEq] at h
      subst h
      cases d <;> first | exact absurd rfl (hd _) | (simp only [hta,if_true];cases ok <;> simp)
    · rename_i hta
      cases ok with
      | false=>cases h
      | true =>
        simp only [cond_true,Option.map_eq_some_iff] at h
        obtain ⟨z,hz,rfl⟩:=h
        cases d <;> first | exact absurd rfl (hd _) | (simp only [hta,if_false];simp [Sem.run_bind,run_zeroP hz,Result.andThen_ok])
  · cases h
theorem run_extract {vs:Array Value} {i:Nat} {v:Value} (h:vs[i]? = some v):(Instr.extract (.tuple vs) i).run P w=.ok v w:=by simp [Instr.extract,h]
/-- **WHAT 'semOp' PROMISES OF AN OPERATION, ITS RUN KEEPS.** -/
theorem semOp_sound {o:Oper} {e:Operand→Option Value} (he:∀x v,e x=some v→r x=v) (h:semOp P o.op o.type e K Kp (hpz w)) :
    upR P K Kp w ((execOp r o).run P w):=by
  have val:∀(x:Operand),K (e x) (hpz w)→upR P K Kp w ((pure (Next.value (r x)):Sem Next).run P w):=by
    intro x hx
    exact ⟨Same.refl w,e x,fun v hv=>he x v hv,hx⟩
  obtain ⟨dst,op,ty,pos,aft,gd⟩:=o
  cases op <;> simp only [semOp] at h <;> first | exact h.elim | skip
  case move x=>exact val x h
  case assign x=>exact val x h
  case pick c a b =>
    split at h
    · rename_i t hc
      have hc':=he _ _ hc
      split at h
      · have:(execOp r ⟨dst, .pick c a b,ty,pos,aft,gd⟩).run P w=(pure (Next.value (r a)):Sem Next).run P w:=by simp [execOp,hc',asBool]
        rw [this];exact val a h
      · have:(execOp r ⟨dst, .pick c a b,ty,pos,aft,gd⟩).run P w=(pure (Next.value (r b)):Sem Next).run P w:=by simp [execOp,hc',asBool]
        rw [this];exact val b h
    · exact h.elim
  case alloc t =>
    split at h
    · rename_i z hz
      obtain ⟨a,w',hr,hs,hk⟩:=run_new (P:=P) h
      refine Gives.up ⟨_,w',?_,hs,hk⟩
      simp [Instr.alloc,run_zeroP hz,newVar,hr]
    · exact h.elim
  case box t x =>
    split at h
    · rename_i v hv
      obtain ⟨a,w',hr,hs,hk⟩:=run_new (P:=P) h
      refine Gives.up ⟨_,w',?_,hs,hk⟩
      simp [Instr.box,he _ _ hv,newVar,hr]
    · exact h.elim
  case load t x =>
    split at h
    · rename_i a ha
      obtain ⟨v,hr,hk⟩:=run_ldV (P:=P) h
      refine Gives.up' ⟨v,?_,hk⟩
      simp [Instr.loadAt,he _ _ ha,Instr.sureAddr,hr]
    · exact h.elim
  case store t x y =>
    split at h
    · rename_i a v ha hv
      obtain ⟨w',hr,hs,hk⟩:=run_stV (P:=P) h
      have:(execOp r ⟨dst, .store t x y,ty,pos,aft,gd⟩).run P w=.ok .skip w':=by
        simp [execOp,Instr.storeAt,he _ _ ha,he _ _ hv,Instr.sureAddr,hr]
      rw [this]
      exact ⟨hs,hk⟩
    · exact h.elim
  case nilCheck x =>
    split at h
    · rename_i v hp
      unfold NNQ at h
      split at h
      · rename_i name first captured
        split at h
        · rename_i u0 hfv
          unfold MOk at h
          split at h
          · rename_i t u
            obtain ⟨hm,h⟩:=h
            split at hm
            · rename_i g hmp
              have hf0:first[0]? = some (.iface t u):=by rw [←Array.getElem?_toList,hfv];rfl
              have:(execOp r ⟨dst, .nilCheck x,ty,pos,aft,gd⟩).run P w=.ok (.value (.func (.method name) first captured)) w:=by
                have hn:=run_nilAhead (P:=P) (w:=w) (v:=u) (n:=P.types.size+99) hmp
                have hn':(nilAhead (P.types.size+Made.depth) t u name).run P w=.ok (some false) w:=hn
                simp only [execOp,he _ _ hp,hf0,Sem.run_bind,run_prog,Result.andThen_ok,hn']
                simp
              rw [this]
              exact ⟨Same.refl w,_,fun y hy=>by cases hy;rfl,h⟩
            · exact hm.elim
          · exact h.elim
        · exact h.elim
      · rename_i hne
        clear hne
        unfold NNV at h
        split at h
        · unfold NN at h
          split at h
          · rename_i a
            have:(execOp r ⟨dst, .nilCheck x,ty,pos,aft,gd⟩).run P w=.ok (.value (.pointer (some a))) w:=by simp [execOp,he _ _ hp]
            rw [this]
            exact ⟨Same.refl w,_,fun y hy=>by cases hy;rfl,h⟩
          · exact h.elim
        · rename_i f xs ys
          have:(execOp r ⟨dst, .nilCheck x,ty,pos,aft,gd⟩).run P w=.ok (.value (.func (.func f) xs ys)) w:=by simp [execOp,he _ _ hp]
          rw [this]
          exact ⟨Same.refl w,_,fun y hy=>by cases hy;rfl,h⟩
        · rename_i a n c
          have:(execOp r ⟨dst, .nilCheck x,ty,pos,aft,gd⟩).run P w=.ok (.value (.slice a n c)) w:=by simp [execOp,he _ _ hp]
          rw [this]
          exact ⟨Same.refl w,_,fun y hy=>by cases hy;rfl,h⟩
        · rename_i t u
          have:(execOp r ⟨dst, .nilCheck x,ty,pos,aft,gd⟩).run P w=.ok (.value (.iface t u)) w:=by simp [execOp,he _ _ hp]
          rw [this]
          exact ⟨Same.refl w,_,fun y hy=>by cases hy;rfl,h⟩
        · exact h.elim
    · exact h.elim
  case binOp op t x y yt =>
    split at h
    · rename_i a b ha hb
      obtain ⟨v,hr,hk⟩:=sound_opBin (P:=P) (w:=w) (x:=x) (y:=y) h
      exact Gives.up' ⟨v,by rw [he _ _ ha,he _ _ hb];exact hr,hk⟩
    · exact h.elim
  case unOp op t x =>
    split at h
    · rename_i a ha
      obtain ⟨v,hr,hk⟩:=sound_opUn (P:=P) (w:=w) h
      exact Gives.up' ⟨v,by rw [he _ _ ha];exact hr,hk⟩
    · exact h.elim
  case convert s d x =>
    split at h
    · rename_i a ha
      obtain ⟨v,hr,hk⟩:=sound_conv (P:=P) h
      exact Gives.up' ⟨v,by rw [he _ _ ha];exact hr,hk⟩
    · exact h.elim
  case makeInterface t x =>
    split at h
    · exact h.elim
    · rename_i v d hn hv hd
      refine Gives.up' ⟨_,?_,h⟩
      rw [he _ _ hv]
      simp only [Instr.makeInterface,Sem.run_bind,run_und hd,Result.andThen_ok]
      cases d <;> first | rfl | (exfalso;exact hn _ rfl)
    · exact h.elim
  case makeFunc fn first captured =>
    split at h
    · rename_i xs ys hx hy
      have h1:=evs_run he hx
      have h2:=evs_run he hy
      refine Gives.up' ⟨_,?_,h⟩
      have e1:first.map r=xs.toArray:=by rw [←h1];apply Array.ext';simp
      have e2:captured.map r=ys.toArray:=by rw [←h2];apply Array.ext';simp
      simp [Instr.makeFunc,e1,e2]
    · exact h.elim
  case makeSlice t l c =>
    split at h
    · rename_i kl nl kc nc el hl hc hu
      split at h
      · rename_i i z hi hz
        refine Gives.upS ?_
        rw [he _ _ hl,he _ _ hc]
        exact sound_MkS hu hi hz h
      · exact h.elim
    · exact h.elim
  case slice t x lo hi mx =>
    split at h
    · rename_i a n c l hh m hx hl hhh hm
      split at h
      · rename_i el hu
        split at h
        · rename_i size hs
          split at h
          · exact h.elim
          · rename_i hne
            obtain ⟨s',hr,hk⟩:=sound_Slc (P:=P) (w:=w) (sl:=⟨a,n,c⟩) he hl hhh hm hu hs (by simpa using hne) h
            exact Gives.up' ⟨_,by rw [he _ _ hx];exact hr,hk⟩
        · exact h.elim
      · exact h.elim
    · rename_i s l hh hx hl hhh hm
      split at h
      · rename_i hu
        have hmx:mx=none:=by
          cases mx with
          | none=>rfl
          | some x=>simp only [optInt] at hm;split at hm <;> cases hm
        subst hmx
        obtain ⟨s',hr,hk⟩:=sound_SlcS (P:=P) (w:=w) he hl hhh hu h
        exact Gives.up' ⟨_,by rw [he _ _ hx];exact hr,hk⟩
      · exact h.elim
    · exact h.elim
  case fieldAddr t x i =>
    split at h
    · rename_i a f ha hf
      split at h
      · rename_i n hs
        refine Gives.up' ⟨_,?_,h⟩
        unfold fieldOf at hf
        split at hf
        · rename_i fs hu
          rw [he _ _ ha]
          simp [Instr.fieldAt,run_und hu,hf,Instr.sureAddr,fieldPlace,run_sizeP hs]
        · cases hf
      · exact h.elim
    · exact h.elim
  case field t x i =>
    split at h
    · rename_i cs f ha hf
      split at h
      · rename_i v hv
        refine Gives.up' ⟨_,?_,h⟩
        unfold fieldOf at hf
        split at hf
        · rename_i fs hu
          rw [he _ _ ha]
          simp [Instr.field,run_und hu,hf,asAgg,part_run hv]
        · cases hf
      · exact h.elim
    · exact h.elim
  case indexAddr t x ix =>
    split at h
    · rename_i a n c k i ha hi
      split at h
      · rename_i el hu
        split at h
        · rename_i size hs
          unfold Ix at h
          split at h
          · obtain ⟨h0,h1,hk⟩:=h
            refine Gives.up' ⟨_,?_,hk⟩
            rw [he _ _ ha,he _ _ hi]
            exact run_Ix hu hs h0 h1
          · exact h.elim
        · exact h.elim
      · exact h.elim
    · rename_i p k i ha hi
      split at h
      · rename_i n el hu
        split at h
        · rename_i size hs
          unfold Ix at h
          split at h
          · obtain ⟨h0,h1,hk⟩:=h
            refine Gives.up' ⟨_,?_,hk⟩
            rw [he _ _ ha,he _ _ hi]
            exact run_IxA hu hs h0 h1
          · exact h.elim
        · exact h.elim
      · exact h.elim
    · exact h.elim
  case index t x ix =>
    split at h
    · rename_i s k i ha hi
      split at h
      · rename_i hu
        obtain ⟨b,h0,hb,hk⟩:=h
        refine Gives.up' ⟨_,?_,hk⟩
        rw [he _ _ ha,he _ _ hi]
        simp [Instr.index,run_asInt,run_und hu,h0,hb]
      · exact h.elim
    · rename_i cs k i ha hi
      split at h
      · rename_i n elem hu
        unfold ixA at h
        split at h
        · rename_i d z hd hz
          cases hag:isAggD d with
          | true=>rw [hag] at h;exact h.elim
          | false =>
            rw [hag,bsel_false] at h
            split at h
            · rename_i hs
              obtain ⟨h0,h1,h⟩:=h
              obtain ⟨v,hv,hk⟩:=tyEx_get h
              refine Gives.up' ⟨v,?_,hk⟩
              rw [he _ _ ha,he _ _ hi]
              have hp:(part elem cs (i.toNat*1)).run P w=.ok v w:=part_run (by unfold partV;rw [hd,hs];simp only [hag,bsel,Nat.mul_one];exact hv)
              simp only [Instr.index,Sem.run_bind,run_asInt,Result.andThen_ok,run_und hu,h0,h1,and_self,if_true,run_sizeP hs,hp]
            · exact h.elim
        · exact h.elim
      · exact h.elim
    · exact h.elim
  case makeMap t rs =>
    cases rs with
    | some x=>exact h.elim
    | none =>
      refine Gives.up ⟨.map (some w.heap.size),{ w with heap:=w.heap.push (.map #[] 0) },by simp [Instr.makeMap,newObj,Sem.run],same_push w _,?_⟩
      rw [hpz_push]
      unfold NewM at h
      rw [hpz_size] at h
      exact h
  case lookup t x ix ok =>
    split at h
    · rename_i m k kt et hx hi ht
      split at h
      · rename_i kd z hu hz
        cases hk:keyD kd with
        | false=>rw [hk] at h;exact h.elim
        | true =>
          rw [hk,bsel_true] at h
          obtain ⟨v,b,hr,hK⟩:=run_lookup (P:=P) (ok:=ok) ht hu hk hz h
          refine Gives.up' ⟨_,?_,hK⟩
          rw [he _ _ hx,he _ _ hi];exact hr
      · exact h.elim
    · exact h.elim
  case mapUpdate t x k v =>
    split at h
    · rename_i m k' v' kt et hx hkk hv ht
      split at h
      · rename_i kd hu
        cases hk:keyD kd with
        | false=>rw [hk] at h;exact h.elim
        | true =>
          rw [hk,bsel_true] at h
          obtain ⟨w',hr,hs,hK⟩:=run_mapUpdate (P:=P) ht hu hk h
          have:(execOp r ⟨dst, .mapUpdate t x k v,ty,pos,aft,gd⟩).run P w=.ok .skip w':=by
            simp [execOp,he _ _ hx,he _ _ hkk,he _ _ hv,hr]
          rw [this]
          exact ⟨hs,hK⟩
      · exact h.elim
    · exact h.elim
  case typeAssert x xt asserted ok =>
    split at h
    · rename_i t v hv
      split at h
      · rename_i u hu
        exact Gives.up' ⟨_,by rw [he _ _ hv];exact run_assert hu,h⟩
      · exact h.elim
    · exact h.elim
  case extract x i =>
    split at h
    · rename_i vs hv
      split at h
      · rename_i v hvi
        exact Gives.up' ⟨_,by rw [he _ _ hv];exact run_extract hvi,h⟩
      · exact h.elim
    · exact h.elim
  case build t parts =>
    split at h
    · rename_i ps hps
      obtain ⟨v,hv,h,_⟩:=buildK_of h
      refine Gives.up' ⟨_,?_,h⟩
      have e1:parts.map (fun (i,x)=>(i,r x))=ps.toArray:=by rw [←evParts_run he hps];apply Array.ext';simp
      rw [e1]
      exact sound_build hv
    · exact h.elim
  case buildSlice t len parts =>
    split at h
    · rename_i ps hps
      obtain ⟨cs,el,hv,h,_⟩:=buildSlK_of h
      refine Gives.upS ?_
      have e1:parts.map (fun (i,x)=>(i,r x))=ps.toArray:=by rw [←evParts_run he hps];apply Array.ext';simp
      rw [e1]
      exact sound_buildSl hv h
    · exact h.elim
  case panic x =>
    split at h
    · rename_i t v hv
      have:(execOp r ⟨dst, .panic x,ty,pos,aft,gd⟩).run P w=.halt (.panic (.iface t v)) w:=by
        simp [execOp,he _ _ hv,Instr.panic,goPanic,Sem.run]
      rw [this]
      exact ⟨Same.refl w,h⟩
    · exact h.elim
  case call c =>
    rw [execOp_call (c:=c) rfl]
    split at h
    · rename_i b hc
      split at h
      · rename_i vs hvs
        have e1:c.args.map r=vs.toArray:=by rw [←evs_run he hvs];apply Array.ext';simp
        simp only [resolve,hc,e1,invoke,Sem.run_bind,Sem.run_pure,Result.andThen_ok]
        exact sound_builtin h
      · exact h.elim
    · rename_i f hc
      split at h
      · rename_i fv args hfv hargs
        have e1:c.args.map r=args.toArray:=by rw [←evs_run he hargs];apply Array.ext';simp
        unfold semCall at h
        split at h
        · rename_i zs hz
          cases hd:(Deferred.ofValue fv args.toArray).run P w with
          | halt x w' =>
            exfalso
            unfold CallV at h
            split at h <;> first | exact h | (simp [Deferred.ofValue] at hd)
          | ok d w' =>
            have hw:w'=w:=by
              unfold Deferred.ofValue at hd
              split at hd <;> simp [stuck] at hd <;> exact hd.2.symm
            subst hw
            have:=sound_CallV (K:=K) (Kp:=Kp) (zs:=zs) (args:=args.toArray) hd (by simpa using h)
            simp only [resolve,hc,e1,he _ _ hfv,Sem.run_bind,hd,Result.andThen_ok]
            exact this
        · exact h.elim
      · exact h.elim
    · rename_i f name hc
      split at h
      · rename_i fv args hfv hargs
        have e1:c.args.map r=args.toArray:=by rw [←evs_run he hargs];apply Array.ext';simp
        unfold semCallI at h
        split at h
        · rename_i zs hz
          have:=sound_CallI (P:=P) (w:=w) (K:=K) (Kp:=Kp) (zs:=zs) (args:=args.toArray) (name:=name) (fv:=fv) (by simpa using h)
          simp only [resolve,hc,e1,he _ _ hfv,Sem.run_bind,Sem.run_pure,Result.andThen_ok]
          exact this
        · exact h.elim
      · exact h.elim
end ops
end Go.Sh
