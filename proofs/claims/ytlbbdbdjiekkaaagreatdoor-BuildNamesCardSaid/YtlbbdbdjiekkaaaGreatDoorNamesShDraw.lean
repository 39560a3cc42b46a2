/- Regions that draw their order: one order's reading, with what loads must keep, is sound for every order. -/
import Derived.Test.YtlbbdbdjiekkaaaGreatDoorNamesShCode
import Derived.OrdersIn
set_option linter.unusedVariables false
set_option linter.unusedSimpArgs false
namespace Go.Sh
variable {P:Program}
/-! ### what an operation's reading depends on -/
theorem evs_ext {e e':Operand→Option Value}:∀{xs:List Operand},(∀x∈xs,e x=e' x)→evs e xs=evs e' xs:=by
  intro xs
  induction xs with
  | nil=>intro _;rfl
  | cons x xs ih=>intro h;simp only [evs,h x (by simp),ih (fun y hy=>h y (by simp [hy]))]
theorem evParts_ext {e e':Operand→Option Value}:∀{xs:List (Nat × Operand)},(∀x∈xs.map (·.2),e x=e' x)→evParts e xs=evParts e' xs:=by
  intro xs
  induction xs with
  | nil=>intro _;rfl
  | cons x xs ih=>intro h;obtain ⟨i,x⟩:=x;simp only [evParts,h x (by simp),ih (fun y hy=>h y (by simp at hy ⊢;exact .inr hy))]
theorem optInt_ext {e e':Operand→Option Value} {o:Option Operand} (h:∀x∈o.toArray,e x=e' x):optInt e o=optInt e' o:=by
  cases o with
  | none=>rfl
  | some x=>simp only [optInt,h x (by simp)]
theorem semOp_ext {op:Op} {ty:TypeId} {e e':Operand→Option Value} (h:∀x∈op.operands,e x=e' x):semOp P op ty e=semOp P op ty e':=by
  funext K Kp hp
  cases op <;> simp only [Op.operands,Array.mem_append,List.mem_toArray,List.mem_map,List.mem_cons,List.not_mem_nil,or_false,forall_eq_or_imp,forall_eq] at h <;> simp only [semOp]
  case makeFunc fn first captured =>
    rw [evs_ext (e:=e) (e':=e') (xs:=first.toList) (fun x hx=>h x (.inl (by simpa using hx))),evs_ext (e:=e) (e':=e') (xs:=captured.toList) (fun x hx=>h x (.inr (by simpa using hx)))]
  case slice t x lo hi mx =>
    have hx:=h x (by simp)
    rw [hx,optInt_ext (e:=e) (e':=e') (o:=lo) (fun y hy=>h y (by simp [hy])),optInt_ext (e:=e) (e':=e') (o:=hi) (fun y hy=>h y (by simp [hy])),optInt_ext (e:=e) (e':=e') (o:=mx) (fun y hy=>h y (by simp [hy]))]
  case build t parts =>
    rw [evParts_ext (e:=e) (e':=e') (xs:=parts.toList) (fun x hx=>by obtain ⟨y,hy,rfl⟩:=List.mem_map.1 hx;exact h _ ⟨y,hy,rfl⟩)]
  case buildSlice t n parts =>
    rw [evParts_ext (e:=e) (e':=e') (xs:=parts.toList) (fun x hx=>by obtain ⟨y,hy,rfl⟩:=List.mem_map.1 hx;exact h _ ⟨y,hy,rfl⟩)]
  case call c =>
    have ha:evs e c.args.toList=evs e' c.args.toList:=evs_ext fun x hx=>h x (by simp [Call.operands];exact .inr (by simpa using hx))
    cases hc:c.callee with
    | builtin b=>simp only [ha]
    | invoke r m =>
      have hf:e r=e' r:=h r (by simp [Call.operands,hc])
      simp only [hf,ha]
    | value f =>
      have hf:e f=e' f:=h f (by simp [Call.operands,hc])
      simp only [hf,ha]
  all_goals (first | rfl | (simp only [h]) | (obtain ⟨h1,h2⟩:=h;simp only [h1,h2]) | (obtain ⟨h1,h2,h3⟩:=h;simp only [h1,h2,h3]))
/-! ### what is promised may be weakened -/
theorem opInt_mono {op:BinOp} {k:IntKind} {a b:Int} {K K':Value→Prop} (h:opInt op k a b K) (hk:∀v,K v→K' v):opInt op k a b K':=by
  cases op <;> simp only [opInt,Wr,Dv,Nn] at h ⊢ <;> first | exact hk _ h | exact ⟨h.1,hk _ h.2⟩
theorem opStr_mono {op:BinOp} {a b:ByteArray} {K K':Value→Prop} (h:opStr op a b K) (hk:∀v,K v→K' v):opStr op a b K':=by
  cases op <;> simp only [opStr] at h ⊢ <;> first | exact hk _ h | exact ⟨h.1,hk _ h.2⟩ | exact h
theorem opBin0_mono {op:BinOp} {t:TypeId} {a b:Value} {K K':Value→Prop} (h:opBin0 P op t a b K) (hk:∀v,K v→K' v):opBin0 P op t a b K':=by
  unfold opBin0 at h ⊢
  repeat' split at h
  all_goals first | exact h.elim | exact opInt_mono h hk | exact opStr_mono h hk | exact hk _ h | (rename_i hc;rw [if_pos hc];exact opInt_mono h hk) | skip
  all_goals (simp_all;done)
theorem FnNil_mono {x:Value} {K K':Bool→Prop} (h:FnNil x K) (hk:∀v,K v→K' v):FnNil x K':=by
  unfold FnNil at h ⊢
  split at h <;> first | exact hk _ h | exact h.elim
theorem opBin_mono {op:BinOp} {t:TypeId} {a b:Value} {K K':Value→Prop} (h:opBin P op t a b K) (hk:∀v,K v→K' v):opBin P op t a b K':=by
  unfold opBin at h ⊢
  split at h
  · split at h
    · split at h <;> first | exact FnNil_mono h fun v hv=>hk _ hv | exact h.elim
    · exact h.elim
  · exact opBin0_mono h hk
theorem opUn_mono {op:UnOp} {a:Value} {K K':Value→Prop} (h:opUn op a K) (hk:∀v,K v→K' v):opUn op a K':=by
  unfold opUn at h ⊢
  split at h
  all_goals first | exact h.elim | (split at h <;> first | exact h.elim | exact hk _ h)
theorem ldMany_mono {h:Hp} {a:Addr}:∀{zs:List Value} {i:Nat} {K K':List Value→Prop},ldMany h a i zs K→(∀v,K v→K' v)→ldMany h a i zs K':=by
  intro zs
  induction zs with
  | nil=>intro i K K' hh hk;exact hk _ hh
  | cons z zs ih=>intro i K K' hh hk;exact tyEx_mono hh fun v hv=>⟨hv.1,ih hv.2 fun vs hvs=>hk _ hvs⟩
theorem ldV_mono {t:TypeId} {h:Hp} {a:Addr} {K K':Value→Prop} (hh:ldV P t h a K) (hk:∀v,K v→K' v):ldV P t h a K':=by
  unfold ldV at hh ⊢
  split at hh
  · rename_i d z hd hz
    cases hc:isAggD d with
    | true =>
      rw [hc] at hh
      simp only [bsel] at hh ⊢
      split at hh
      · split at hh
        · rename_i hs;simp only [hs,if_true];exact ldMany_mono hh fun v hv=>hk _ hv
        · exact hh.elim
      · exact hh.elim
    | false =>
      rw [hc] at hh
      simp only [bsel] at hh ⊢
      exact tyEx_mono hh fun v hv=>⟨hv.1,hk _ hv.2⟩
  · exact hh.elim
theorem StL_mono {a:Addr}:∀{vs:List Value} {h:Hp} {i:Nat} {K K':Hp→Prop},StL h a i vs K→(∀v,K v→K' v)→StL h a i vs K':=by
  intro vs
  induction vs with
  | nil=>intro h i K K' hh hk;exact hk _ hh
  | cons v vs ih=>intro h i K K' hh hk;exact ⟨hh.1,hh.2.1,hh.2.2.1,ih hh.2.2.2 hk⟩
theorem stV_mono {t:TypeId} {h:Hp} {a:Addr} {v:Value} {K K':Hp→Prop} (hh:stV P t h a v K) (hk:∀v,K v→K' v):stV P t h a v K':=by
  refine stV_new hh ?_
  replace hh:=stV_old hh
  split at hh
  · rename_i hs;simp only [hs,if_true];exact StL_mono hh hk
  · exact hh.elim
theorem Ap_mono {h:Hp} {el:TypeId} {z:Array Value} {size bytes n:Nat} {s:Sl} {vals:List Value→Prop} {K K':Sl→Hp→Prop} (hh:Ap h el z size bytes s n vals K) (hk:∀s h,K s h→K' s h) :
    Ap h el z size bytes s n vals K':=by
  obtain ⟨vs,hv,hh⟩:=hh
  refine ⟨vs,hv,?_⟩
  rcases hh with ⟨h1,h2⟩ | ⟨h1,h2,h3,old,h4,h5⟩
  · refine .inl ⟨h1,?_⟩
    split at h2
    · exact StL_mono h2 fun _ hx=>hk _ _ hx
    · exact hk _ _ h2
  · exact .inr ⟨h1,h2,h3,old,h4,fun c hc hc'=>hk _ _ (h5 c hc hc')⟩
theorem semAppend_mono {ts:List TypeId} {s x:Value} {h:Hp} {K K':Value→Hp→Prop} (hh:semAppend P ts s x h K) (hk:∀s h,K s h→K' s h):semAppend P ts s x h K':=by
  unfold semAppend at hh ⊢
  split at hh
  · split at hh
    · split at hh
      · split at hh
        · exact hh.elim
        · exact Ap_mono hh fun _ _ hx=>hk _ _ hx
        · exact Ap_mono hh fun _ _ hx=>hk _ _ hx
        · exact hh.elim
      · exact hh.elim
    · exact hh.elim
  · exact hh.elim
theorem semLen_mono {x:Value} {K K':Value→Prop} (h:semLen x K) (hk:∀v,K v→K' v):semLen x K':=by
  unfold semLen at h ⊢
  split at h <;> first | exact h.elim | exact hk _ h
theorem Cpy_mono {h:Hp} {a:Option Addr} {vals:List Value→Prop} {K K':Hp→Prop} (hh:Cpy h a vals K) (hk:∀h,K h→K' h):Cpy h a vals K':=by
  obtain ⟨vs,h1,h2⟩:=hh
  refine ⟨vs,h1,?_⟩
  cases a with
  | none=>exact hk _ h2
  | some a=>exact StL_mono h2 hk
theorem Del_mono {h:Hp} {m:Option Nat} {kd:TypeDesc} {k:Value} {K K':Hp→Prop} (hh:Del h m kd k K) (hk:∀h,K h→K' h):Del h m kd k K':=by
  unfold Del at hh ⊢
  split at hh
  · exact hk _ hh
  · obtain ⟨es,c,res,h1,h2,h3⟩:=hh
    exact ⟨es,c,res,h1,h2,hk _ h3⟩
theorem semBuiltin_mono {b:Builtin} {ts:List TypeId} {xs:List Value} {h:Hp} {K K':Value→Hp→Prop} (hh:semBuiltin P b ts xs h K) (hk:∀s h,K s h→K' s h):semBuiltin P b ts xs h K':=by
  unfold semBuiltin at hh ⊢
  split at hh
  · split at hh
    · split at hh
      · rename_i hf;simp only [hf,if_true];exact semLen_mono hh fun v hv=>hk _ _ hv
      · exact hh.elim
    · exact hh.elim
  · split at hh
    · split at hh
      · exact hk _ _ hh
      · exact hh.elim
    · exact hh.elim
  · split at hh
    · split at hh
      · exact hk _ _ hh
      · exact hh.elim
    · exact hh.elim
  · split at hh
    · split at hh
      · exact hk _ _ hh
      · exact hh.elim
    · exact hh.elim
  · split at hh
    · exact semAppend_mono hh hk
    · exact hh.elim
  · split at hh
    · unfold semCopy at hh ⊢
      split at hh
      · split at hh
        · split at hh
          · split at hh
            · exact Cpy_mono hh fun h' hx=>hk _ _ hx
            · exact Cpy_mono hh fun h' hx=>hk _ _ hx
            · exact hh.elim
          · exact hh.elim
        · exact hh.elim
      · exact hh.elim
    · exact hh.elim
  · split at hh
    · unfold semDel at hh ⊢
      split at hh
      · split at hh
        · split at hh
          · rename_i kd hkd
            cases hkk:keyD kd with
            | true=>rw [hkk,bsel_true] at hh;rw [bsel_true];exact Del_mono hh fun h' hx=>hk _ _ hx
            | false=>rw [hkk] at hh;exact hh.elim
          · exact hh.elim
        · exact hh.elim
      · exact hh.elim
    · exact hh.elim
  · exact hh.elim
theorem resEx_mono {zs:List Value} {v:Value} {K K':Value→Prop} (h:resEx zs v K) (hk:∀v,K v→K' v):resEx zs v K':=by
  unfold resEx at h ⊢
  split at h
  · exact tyComp_mono h fun x hx=>⟨hx.1,hk _ hx.2⟩
  · exact tyComps_mono h fun x hx=>⟨hx.1,hk _ hx.2⟩
theorem CallH.mono {f:FuncId} {args:List Value} {h:Hp} {K K':Value→Hp→Prop} {Kp Kp':List PanicEntry→Hp→Prop} (hh:CallH P f args h K Kp) (hk:∀s h,K s h→K' s h) (hp:∀c h,Kp c h→Kp' c h) :
    CallH P f args h K' Kp':=by
  intro w hw
  refine (hh w hw).mono ?_
  rintro e w' ⟨hs,he⟩
  refine ⟨hs,?_⟩
  cases e with
  | returned v=>exact hk _ _ he
  | panicked c=>exact hp _ _ he
  | outgrown=>exact he
theorem CallI_mono {fv:Value} {name:String} {args:List Value} {h:Hp} {K K':Value→Hp→Prop} {Kp Kp':List PanicEntry→Hp→Prop} (hh:CallI P fv name args h K Kp) (hk:∀s h,K s h→K' s h) (hp:∀c h,Kp c h→Kp' c h) :
    CallI P fv name args h K' Kp':=by
  unfold CallI at hh ⊢
  split at hh
  · split at hh
    · rename_i g pr hm
      cases hok:(recvOk P _ pr && okFn P g) with
      | false=>rw [hok] at hh;exact hh.elim
      | true=>rw [hok] at hh;exact CallH.mono hh hk hp
    · split at hh
      · rename_i g off hm
        cases hok:okFn P g with
        | false=>rw [hok] at hh;exact hh.elim
        | true =>
          rw [hok,bsel_true] at hh
          unfold ptrAt at hh ⊢
          rw [bsel_true]
          split at hh
          · exact CallH.mono hh hk hp
          · exact hh.elim
      · exact hh.elim
  · exact hh.elim
theorem CallV_mono {fv:Value} {args:List Value} {h:Hp} {K K':Value→Hp→Prop} {Kp Kp':List PanicEntry→Hp→Prop} (hh:CallV P fv args h K Kp) (hk:∀s h,K s h→K' s h) (hp:∀c h,Kp c h→Kp' c h) :
    CallV P fv args h K' Kp':=by
  unfold CallV at hh ⊢
  split at hh
  · rename_i g first captured
    cases hok:okFn P g with
    | false=>rw [hok] at hh;exact hh.elim
    | true=>rw [hok] at hh;exact CallH.mono hh hk hp
  · intro w hw
    obtain ⟨fn,tmps,assign,body,h1,h2⟩:=hh w hw
    refine ⟨fn,tmps,assign,body,h1,h2.mono ?_⟩
    rintro e w' ⟨hs,he⟩
    refine ⟨hs,?_⟩
    cases e with
    | returned v=>exact hk _ _ he
    | panicked c=>exact hp _ _ he
    | outgrown=>exact he
  · unfold CallM at hh ⊢
    split at hh
    · split at hh
      · exact CallI_mono hh hk hp
      · exact hh.elim
    · exact hh.elim
  · exact hh.elim
theorem semCall_mono {ty:TypeId} {fv:Value} {args:List Value} {h:Hp} {K K':Value→Hp→Prop} {Kp Kp':List PanicEntry→Hp→Prop} (hh:semCall P ty fv args h K Kp) (hk:∀s h,K s h→K' s h) (hp:∀c h,Kp c h→Kp' c h) :
    semCall P ty fv args h K' Kp':=by
  unfold semCall at hh ⊢
  split at hh
  · exact CallV_mono hh (fun v h' hx=>resEx_mono hx fun v' hx'=>hk _ _ hx') hp
  · exact hh.elim
theorem semCallI_mono {ty:TypeId} {fv:Value} {name:String} {args:List Value} {h:Hp} {K K':Value→Hp→Prop} {Kp Kp':List PanicEntry→Hp→Prop} (hh:semCallI P ty fv name args h K Kp) (hk:∀s h,K s h→K' s h) (hp:∀c h,Kp c h→Kp' c h) :
    semCallI P ty fv name args h K' Kp':=by
  unfold semCallI at hh ⊢
  split at hh
  · exact CallI_mono hh (fun v h' hx=>resEx_mono hx fun v' hx'=>hk _ _ hx') hp
  · exact hh.elim
theorem NNV_mono {v:Value} {K K':Value→Prop} (hh:NNV v K) (hk:∀v,K v→K' v):NNV v K':=by
  unfold NNV at hh ⊢
  split at hh
  · unfold NN at hh ⊢;split at hh <;> first | exact hk _ hh | exact hh.elim
  all_goals first | exact hk _ hh | exact hh.elim
theorem NNV_val {v:Value} {K:Value→Prop} (hh:NNV v K):∃u,K u∧∀K':Value→Prop,K' u→NNV v K':=by
  unfold NNV at hh
  split at hh
  · unfold NN at hh
    split at hh
    · exact ⟨_,hh,fun _ h=>h⟩
    · exact hh.elim
  all_goals first | exact ⟨_,hh,fun _ h=>h⟩ | exact hh.elim
theorem NNQ_mono {v:Value} {K K':Value→Prop} (hh:NNQ P v K) (hk:∀v,K v→K' v):NNQ P v K':=by
  unfold NNQ at hh ⊢
  split at hh
  · split at hh
    · unfold MOk at hh ⊢
      split at hh
      · exact ⟨hh.1,hk _ hh.2⟩
      · exact hh.elim
    · exact hh.elim
  · exact NNV_mono hh hk
theorem NNQ_val {v:Value} {K:Value→Prop} (hh:NNQ P v K):∃u,K u∧∀K':Value→Prop,K' u→NNQ P v K':=by
  unfold NNQ at hh
  split at hh
  · split at hh
    · rename_i hf
      unfold MOk at hh
      split at hh
      · exact ⟨_,hh.2,fun _ h=>by unfold NNQ;simp only [hf];exact ⟨hh.1,h⟩⟩
      · exact hh.elim
    · exact hh.elim
  · rename_i hne
    obtain ⟨u,h1,h2⟩:=NNV_val hh
    exact ⟨u,h1,fun K' h=>by
      unfold NNQ
      split
      · exact (hne _ _ _ rfl).elim
      · exact h2 _ h⟩
theorem convV_mono {s d:TypeId} {x:Value} {h:Hp} {K K':Value→Prop} (hh:convV P s d x h K) (hk:∀v,K v→K' v):convV P s d x h K':=by
  unfold convV at hh ⊢
  split at hh
  · split at hh
    · exact hk _ hh
    · exact hh.elim
  · split at hh
    · exact hk _ hh
    · exact hh.elim
  · split at hh
    · obtain ⟨bs,h1,h2⟩:=hh;exact ⟨bs,h1,hk _ h2⟩
    · exact hh.elim
  · exact hh.elim
theorem tyEx_val {z:Value} {K:Value→Prop} (h:tyEx z K):∃v,K v∧∀K':Value→Prop,K' v→tyEx z K':=by
  unfold tyEx at h ⊢
  split at h <;> (obtain ⟨x,hx⟩:=h;exact ⟨_,hx,fun _ h=>⟨x,h⟩⟩)
theorem ixA_mono {elem:TypeId} {cs:Array Value} {n:Nat} {i:Int} {K K':Value→Prop} (hh:ixA P elem cs n i K) (hk:∀v,K v→K' v):ixA P elem cs n i K':=by
  unfold ixA at hh ⊢
  split at hh
  · rename_i d z _ _
    cases hd:isAggD d with
    | true=>rw [hd] at hh;exact hh.elim
    | false =>
      rw [hd,bsel_false] at hh
      rw [bsel_false]
      split at hh
      · rename_i hs
        rw [if_pos hs]
        exact ⟨hh.1,hh.2.1,tyEx_mono hh.2.2 fun v hv=>⟨hv.1,hk _ hv.2⟩⟩
      · exact hh.elim
  · exact hh.elim
theorem ixA_val {elem:TypeId} {cs:Array Value} {n:Nat} {i:Int} {K:Value→Prop} (hh:ixA P elem cs n i K):∃v,K v∧∀K':Value→Prop,K' v→ixA P elem cs n i K':=by
  unfold ixA at hh
  split at hh
  · rename_i d z hd' hz'
    cases hd:isAggD d with
    | true=>rw [hd] at hh;exact hh.elim
    | false =>
      rw [hd,bsel_false] at hh
      split at hh
      · rename_i hs
        obtain ⟨h1,h2,h3⟩:=hh
        obtain ⟨v,hv,hf⟩:=tyEx_val h3
        refine ⟨v,hv.2,fun K' hk => ?_⟩
        unfold ixA
        rw [hd',hz']
        simp only [hd,bsel,hs,if_true]
        exact ⟨h1,h2,hf _ ⟨hv.1,hk⟩⟩
      · exact hh.elim
  · exact hh.elim
theorem lkV_mono {h:Hp} {m:Option Nat} {kd:TypeDesc} {k z:Value} {K K':Value→Bool→Prop} (hh:lkV h m kd k z K) (hk:∀v b,K v b→K' v b):lkV h m kd k z K':=by
  unfold lkV at hh ⊢
  split at hh
  · exact tyEx_mono hh fun v hv=>⟨hv.1,hk _ _ hv.2⟩
  · obtain ⟨es,c,res,h1,h2,h3⟩:=hh
    refine ⟨es,c,res,h1,h2,tyEx_mono h3 fun v hv => ?_⟩
    cases res with
    | none=>exact ⟨hv.1,hk _ _ hv.2⟩
    | some p=>exact ⟨hv.1,hk _ _ hv.2⟩
theorem Up_mono {h:Hp} {m:Option Nat} {kd:TypeDesc} {k v:Value} {K K':Hp→Prop} (hh:Up h m kd k v K) (hk:∀h,K h→K' h):Up h m kd k v K':=by
  unfold Up at hh ⊢
  split at hh
  · exact hh.elim
  · obtain ⟨es,c,res,h1,h2,h3⟩:=hh
    exact ⟨es,c,res,h1,h2,hk _ h3⟩
theorem semOp_mono {op:Op} {ty:TypeId} {e:Operand→Option Value} {K K':Option Value→Hp→Prop} {Kp Kp':List PanicEntry→Hp→Prop} {h:Hp} (hh:semOp P op ty e K Kp h) (hk:∀s h,K s h→K' s h) (hp:∀c h,Kp c h→Kp' c h) :
    semOp P op ty e K' Kp' h:=by
  cases op <;> simp only [semOp] at hh ⊢ <;> first | exact hh | exact hk _ _ hh | skip
  case pick =>
    split at hh
    · split at hh <;> exact hk _ _ hh
    · exact hh.elim
  case alloc=>split at hh <;> first | exact hk _ _ hh | exact hh.elim
  case box=>split at hh <;> first | exact hk _ _ hh | exact hh.elim
  case load=>split at hh <;> first | exact ldV_mono hh fun v hv=>hk _ _ hv | exact hh.elim
  case store=>split at hh <;> first | exact stV_mono hh fun v hv=>hk _ _ hv | exact hh.elim
  case nilCheck =>
    split at hh
    · exact NNQ_mono hh fun v hv=>hk _ _ hv
    · exact hh.elim
  case binOp=>split at hh <;> first | exact opBin_mono hh fun v hv=>hk _ _ hv | exact hh.elim
  case unOp=>split at hh <;> first | exact opUn_mono hh fun v hv=>hk _ _ hv | exact hh.elim
  case convert=>split at hh <;> first | exact convV_mono hh fun v hv=>hk _ _ hv | exact hh.elim
  case makeInterface=>split at hh <;> first | exact hk _ _ hh | exact hh.elim
  case makeFunc=>split at hh <;> first | exact hk _ _ hh | exact hh.elim
  case makeSlice =>
    split at hh
    · split at hh
      · exact ⟨hh.1,hh.2.1,hh.2.2.1,hh.2.2.2.1,hk _ _ hh.2.2.2.2⟩
      · exact hh.elim
    · exact hh.elim
  case slice =>
    split at hh
    · split at hh
      · split at hh
        · split at hh
          · exact hh.elim
          · rename_i hc;simp only [hc];exact ⟨hh.1,hh.2.1,hh.2.2.1,hh.2.2.2.1,hk _ _ hh.2.2.2.2⟩
        · exact hh.elim
      · exact hh.elim
    · split at hh
      · exact ⟨hh.1,hh.2.1,hh.2.2.1,hk _ _ hh.2.2.2⟩
      · exact hh.elim
    · exact hh.elim
  case fieldAddr=>split at hh <;> first | (split at hh <;> first | exact hk _ _ hh | exact hh.elim) | exact hh.elim
  case field=>split at hh <;> first | (split at hh <;> first | exact hk _ _ hh | exact hh.elim) | exact hh.elim
  case indexAddr =>
    split at hh
    · split at hh
      · split at hh
        · unfold Ix at hh ⊢;split at hh <;> first | exact ⟨hh.1,hh.2.1,hk _ _ hh.2.2⟩ | exact hh.elim
        · exact hh.elim
      · exact hh.elim
    · split at hh
      · split at hh
        · unfold Ix at hh ⊢;split at hh <;> first | exact ⟨hh.1,hh.2.1,hk _ _ hh.2.2⟩ | exact hh.elim
        · exact hh.elim
      · exact hh.elim
    · exact hh.elim
  case index =>
    split at hh
    · split at hh
      · obtain ⟨b,h1,h2,h3⟩:=hh;exact ⟨b,h1,h2,hk _ _ h3⟩
      · exact hh.elim
    · split at hh
      · exact ixA_mono hh fun v hv=>hk _ _ hv
      · exact hh.elim
    · exact hh.elim
  case makeMap r=>cases r with | none=>exact hk _ _ hh | some x=>exact hh.elim
  case lookup =>
    split at hh
    · split at hh
      · rename_i kd z _ _
        cases hkd:keyD kd with
        | false=>rw [hkd] at hh;exact hh.elim
        | true=>rw [hkd,bsel_true] at hh;rw [bsel_true];exact lkV_mono hh fun v b hv=>hk _ _ hv
      · exact hh.elim
    · exact hh.elim
  case mapUpdate =>
    split at hh
    · split at hh
      · rename_i kd _
        cases hkd:keyD kd with
        | false=>rw [hkd] at hh;exact hh.elim
        | true=>rw [hkd,bsel_true] at hh;rw [bsel_true];exact Up_mono hh fun h' hv=>hk _ _ hv
      · exact hh.elim
    · exact hh.elim
  case typeAssert=>split at hh <;> first | (split at hh <;> first | exact hk _ _ hh | exact hh.elim) | exact hh.elim
  case extract=>split at hh <;> first | (split at hh <;> first | exact hk _ _ hh | exact hh.elim) | exact hh.elim
  case build=>split at hh <;> first | (obtain ⟨v,_,h1,h2⟩:=buildK_of hh;exact h2 _ (hk _ _ h1)) | exact hh.elim
  case buildSlice =>
    split at hh
    · obtain ⟨cs,el,_,h,hK⟩:=buildSlK_of hh
      exact hK _ (hk _ _ h)
    · exact hh.elim
  case panic=>split at hh <;> first | exact hp _ _ hh | exact hh.elim
  case call =>
    split at hh
    · split at hh
      · exact semBuiltin_mono hh fun v h' hv=>hk _ _ hv
      · exact hh.elim
    · split at hh
      · exact semCall_mono hh (fun v h' hv=>hk _ _ hv) hp
      · exact hh.elim
    · split at hh
      · exact semCallI_mono hh (fun v h' hv=>hk _ _ hv) hp
      · exact hh.elim
/-! ### operations that only read -/
def isR (P:Program):Op→Bool
  | .move _ | .assign _ | .pick .. | .load .. | .nilCheck _ | .binOp .. | .unOp .. | .makeInterface .. | .makeFunc .. | .slice .. | .fieldAddr .. | .field .. | .indexAddr .. | .index .. | .extract .. | .build ..=>true
  | .convert s _ _=>match P.underlying s with | some (.int _)=>true | _=>false
  | .call c=>match c.callee with | .builtin .len | .builtin .cap | .builtin .min | .builtin .max=>true | _=>false
  | _=>false
def ldSize (P:Program) (t:TypeId):Nat:=max 1 ((sizeP P t).getD 0)
def KeepAt (h h2:Hp) (a:Addr) (n:Nat):Prop:=∀i,i < n→cell h2 (a.add i)=cell h (a.add i)
theorem opInt_val {op:BinOp} {k:IntKind} {a b:Int} {K:Value→Prop} (h:opInt op k a b K):∃v,K v∧∀K',K' v→opInt op k a b K':=by
  cases op <;> simp only [opInt,Wr,Dv,Nn] at h ⊢ <;> first | exact ⟨_,h,fun _ h=>h⟩ | exact ⟨_,h.2,fun _ h'=>⟨h.1,h'⟩⟩
theorem opStr_val {op:BinOp} {a b:ByteArray} {K:Value→Prop} (h:opStr op a b K):∃v,K v∧∀K',K' v→opStr op a b K':=by
  cases op <;> simp only [opStr] at h ⊢ <;> first | exact h.elim | exact ⟨_,h,fun _ h=>h⟩ | exact ⟨_,h.2,fun _ h'=>⟨h.1,h'⟩⟩
theorem opUn_val {op:UnOp} {a:Value} {K:Value→Prop} (h:opUn op a K):∃v,K v∧∀K',K' v→opUn op a K':=by
  unfold opUn at h ⊢
  split at h
  all_goals first | exact h.elim | (split at h <;> first | exact h.elim | exact ⟨_,h,fun _ h=>h⟩)
theorem opBin0_val {op:BinOp} {t:TypeId} {a b:Value} {K:Value→Prop} (h:opBin0 P op t a b K):∃v,K v∧∀K',K' v→opBin0 P op t a b K':=by
  unfold opBin0 at h ⊢
  repeat' split at h
  all_goals first | exact h.elim | exact opInt_val h | exact opStr_val h | exact ⟨_,h,fun _ h=>h⟩ | (rename_i hc;simp only [if_pos hc];exact opInt_val h) | skip
  all_goals (refine ⟨_,h,?_⟩;simp_all;done)
theorem FnNil_val {x:Value} {K:Bool→Prop} (h:FnNil x K):∃b,K b∧∀K':Bool→Prop,K' b→FnNil x K':=by
  unfold FnNil at h ⊢
  split at h <;> first | exact ⟨_,h,fun _ h=>h⟩ | exact h.elim
theorem opBin_val {op:BinOp} {t:TypeId} {a b:Value} {K:Value→Prop} (h:opBin P op t a b K):∃v,K v∧∀K',K' v→opBin P op t a b K':=by
  unfold opBin at h ⊢
  split at h
  · split at h
    · split at h
      · obtain ⟨b,h1,h2⟩:=FnNil_val h;exact ⟨_,h1,fun _ h=>h2 _ h⟩
      · obtain ⟨b,h1,h2⟩:=FnNil_val h;exact ⟨_,h1,fun _ h=>h2 _ h⟩
      · exact h.elim
    · exact h.elim
  · exact opBin0_val h
theorem ldMany_val {h h2:Hp} {a:Addr}:∀{zs:List Value} {i:Nat} {K:List Value→Prop},ldMany h a i zs K→(∀j,j < zs.length→cell h2 (a.add (i+j))=cell h (a.add (i+j)))→ldMany h2 a i zs K:=by
  intro zs
  induction zs with
  | nil=>intro i K hh _;exact hh
  | cons z zs ih =>
    intro i K hh hc
    exact tyEx_mono hh fun v hv=>⟨(hc 0 (by simp)).trans hv.1,ih hv.2 fun j hj=>by have:=hc (j+1) (by simp;omega);rw [show i+(j+1)=i+1+j by omega] at this;exact this⟩
theorem ldMany_get {h:Hp} {a:Addr}:∀{zs:List Value} {i:Nat} {K:List Value→Prop},ldMany h a i zs K→∃vs,K vs∧∀K':List Value→Prop,K' vs→ldMany h a i zs K':=by
  intro zs
  induction zs with
  | nil=>intro i K hh;exact ⟨[],hh,fun _ h=>h⟩
  | cons z zs ih =>
    intro i K hh
    obtain ⟨v,⟨hc,hv⟩,hb⟩:=tyEx_val hh
    obtain ⟨vs,hk,hr⟩:=ih hv
    exact ⟨v::vs,hk,fun K' h'=>hb _ ⟨hc,hr _ h'⟩⟩
theorem ldV_val {t:TypeId} {h h2:Hp} {a:Addr} {K:Value→Prop} (hh:ldV P t h a K) (hk:KeepAt h h2 a (ldSize P t)):∃v,K v∧∀K':Value→Prop,K' v→ldV P t h2 a K':=by
  unfold ldV at hh ⊢
  split at hh
  · rename_i d z hd hz
    cases hc:isAggD d with
    | true =>
      rw [hc] at hh
      simp only [bsel] at hh ⊢
      split at hh
      · split at hh
        · rename_i zs hs
          simp only [hs,if_true]
          obtain ⟨vs,h1,h2⟩:=ldMany_get hh
          refine ⟨_,h1,fun K' h'=>ldMany_val (h2 _ h') fun j hj => ?_⟩
          rw [Nat.zero_add]
          exact hk j (by simp [ldSize,hs];simp at hj;omega)
        · exact hh.elim
      · exact hh.elim
    | false =>
      rw [hc] at hh
      simp only [bsel] at hh ⊢
      obtain ⟨v,⟨h1,h2⟩,h3⟩:=tyEx_val hh
      exact ⟨v,h2,fun K' h'=>h3 _ ⟨(hk 0 (by simp [ldSize];omega)).trans h1,h'⟩⟩
  · exact hh.elim
/-- an operation that only reads has one value, in each heap that keeps what it reads -/
theorem semOp_val {op:Op} {ty:TypeId} {e:Operand→Option Value} {K:Option Value→Hp→Prop} {Kp:List PanicEntry→Hp→Prop} {h:Hp} (hr:isR P op=true) (hh:semOp P op ty e K Kp h) :
    ∃v,K v h∧∀(h2:Hp) (K2:Option Value→Hp→Prop) (Kp2:List PanicEntry→Hp→Prop),(∀t x a,op=.load t x→e x=some (.pointer (some a))→KeepAt h h2 a (ldSize P t))→K2 v h2→semOp P op ty e K2 Kp2 h2:=by
  cases op <;> simp only [isR] at hr <;> first | (cases hr;done) | skip
  all_goals simp only [semOp] at hh ⊢
  case move=>exact ⟨_,hh,fun _ _ _ _ h=>h⟩
  case assign=>exact ⟨_,hh,fun _ _ _ _ h=>h⟩
  case pick =>
    split at hh
    · split at hh <;> exact ⟨_,hh,fun _ _ _ _ h=>h⟩
    · exact hh.elim
  case load t x =>
    split at hh
    · rename_i a ha
      obtain ⟨v,hk⟩:∃v,K (some v) h∧∀h2,KeepAt h h2 a (ldSize P t)→∀K':Value→Prop,K' v→ldV P t h2 a K':=by
        have key:∃v,K (some v) h∧∀K':Value→Prop,K' v→ldV P t h a K':=ldV_val (h2:=h) hh (fun _ _=>rfl)
        obtain ⟨v,h1,h2⟩:=key
        refine ⟨v,h1,fun h3 hkeep K' hK' => ?_⟩
        obtain ⟨u,hu,hb⟩:=ldV_val (h2:=h3) (h2 (fun x=>x=v) rfl) hkeep
        subst hu
        exact hb _ hK'
      exact ⟨some v,hk.1,fun h2 K2 Kp2 hkeep hK2=>hk.2 h2 (hkeep t x a rfl ha) _ hK2⟩
    · exact hh.elim
  case nilCheck =>
    split at hh
    · obtain ⟨u,h1,h2⟩:=NNQ_val hh;exact ⟨_,h1,fun _ _ _ _ h=>h2 _ h⟩
    · exact hh.elim
  case binOp =>
    split at hh
    · obtain ⟨v,h1,h2⟩:=opBin_val hh;exact ⟨some v,h1,fun _ _ _ _ h=>h2 _ h⟩
    · exact hh.elim
  case unOp =>
    split at hh
    · obtain ⟨v,h1,h2⟩:=opUn_val hh;exact ⟨some v,h1,fun _ _ _ _ h=>h2 _ h⟩
    · exact hh.elim
  case convert s d x =>
    split at hr
    · rename_i k hs
      split at hh
      · unfold convV at hh ⊢
        rw [hs] at hh ⊢
        split at hh
        · split at hh
          · exact ⟨_,hh,fun _ _ _ _ h=>h⟩
          · exact hh.elim
        · rename_i heq _;cases heq
        · rename_i heq _;cases heq
        · exact hh.elim
      · exact hh.elim
    · cases hr
  case makeInterface=>split at hh <;> first | exact ⟨_,hh,fun _ _ _ _ h=>h⟩ | exact hh.elim
  case makeFunc=>split at hh <;> first | exact ⟨_,hh,fun _ _ _ _ h=>h⟩ | exact hh.elim
  case slice =>
    split at hh
    · split at hh
      · split at hh
        · split at hh
          · exact hh.elim
          · rename_i hc;simp only [hc];exact ⟨_,hh.2.2.2.2,fun _ _ _ _ h=>⟨hh.1,hh.2.1,hh.2.2.1,hh.2.2.2.1,h⟩⟩
        · exact hh.elim
      · exact hh.elim
    · split at hh
      · exact ⟨_,hh.2.2.2,fun _ _ _ _ h=>⟨hh.1,hh.2.1,hh.2.2.1,h⟩⟩
      · exact hh.elim
    · exact hh.elim
  case fieldAddr=>split at hh <;> first | (split at hh <;> first | exact ⟨_,hh,fun _ _ _ _ h=>h⟩ | exact hh.elim) | exact hh.elim
  case field=>split at hh <;> first | (split at hh <;> first | exact ⟨_,hh,fun _ _ _ _ h=>h⟩ | exact hh.elim) | exact hh.elim
  case indexAddr =>
    split at hh
    · split at hh
      · split at hh
        · unfold Ix at hh ⊢;split at hh <;> first | exact ⟨_,hh.2.2,fun _ _ _ _ h=>⟨hh.1,hh.2.1,h⟩⟩ | exact hh.elim
        · exact hh.elim
      · exact hh.elim
    · split at hh
      · split at hh
        · unfold Ix at hh ⊢;split at hh <;> first | exact ⟨_,hh.2.2,fun _ _ _ _ h=>⟨hh.1,hh.2.1,h⟩⟩ | exact hh.elim
        · exact hh.elim
      · exact hh.elim
    · exact hh.elim
  case index =>
    split at hh
    · split at hh
      · obtain ⟨b,h1,h2,h3⟩:=hh;exact ⟨_,h3,fun _ _ _ _ h=>⟨b,h1,h2,h⟩⟩
      · exact hh.elim
    · split at hh
      · obtain ⟨v,h1,h2⟩:=ixA_val hh;exact ⟨_,h1,fun _ _ _ _ h=>h2 _ h⟩
      · exact hh.elim
    · exact hh.elim
  case extract=>split at hh <;> first | (split at hh <;> first | exact ⟨_,hh,fun _ _ _ _ h=>h⟩ | exact hh.elim) | exact hh.elim
  case build=>split at hh <;> first | (obtain ⟨v,_,h1,h2⟩:=buildK_of hh;exact ⟨_,h1,fun _ _ _ _ h=>h2 _ h⟩) | exact hh.elim
  case call c =>
    cases hc:c.callee with
    | value f=>rw [hc] at hr;cases hr
    | invoke x m=>rw [hc] at hr;cases hr
    | builtin b =>
      rw [hc] at hr
      simp only [hc] at hh ⊢
      split at hh
      · unfold semBuiltin at hh ⊢
        cases b <;> first | (cases hr;done) | skip
        all_goals simp only at hh ⊢
        · split at hh
          · split at hh
            · exact ⟨_,hh,fun _ _ _ _ h=>h⟩
            · exact hh.elim
          · exact hh.elim
        · split at hh
          · split at hh
            · rename_i hf
              simp only [hf,if_true]
              unfold semLen at hh ⊢
              split at hh <;> first | exact ⟨_,hh,fun _ _ _ _ h=>h⟩ | exact hh.elim
            · exact hh.elim
          · exact hh.elim
        · split at hh
          · split at hh
            · exact ⟨_,hh,fun _ _ _ _ h=>h⟩
            · exact hh.elim
          · exact hh.elim
        · split at hh
          · split at hh
            · exact ⟨_,hh,fun _ _ _ _ h=>h⟩
            · exact hh.elim
          · exact hh.elim
      · exact hh.elim
/-! ### one step, its guard decided -/
def gd (ops:Array Oper) (o:Oper) (fr:Fr):Option Bool :=
  match o.guard with
  | none=>some true
  | some (j,b)=>match (ops[j]?).bind (·.dst) with
    | some d=>(match fr.getD d none with | some (.bool c)=>some (c == b) | some (.tuple _)=>some false | _=>none)
    | none=>none
def stepF (P:Program) (ops:Array Oper) (o:Oper) (K:Fr→Hp→Prop) (Kp:List PanicEntry→Hp→Prop) (fr:Fr) (h:Hp):Prop :=
  match gd ops o fr with
  | some true=>semOp P o.op o.type (ev fr) (fun v h'=>K (setF fr o.dst v) h') Kp h
  | some false=>K (setF fr o.dst (some undef)) h
  | none=>False
theorem set_self {fr:Fr} {d:Nat} {v:Value} (h:fr.getD d none=some v):fr.set d (some v)=fr:=by
  apply List.ext_getElem?
  intro i
  by_cases hi:i=d
  · subst hi
    rw [List.getD_eq_getElem?_getD] at h
    cases hf:fr[i]? with
    | none=>simp [hf] at h
    | some x =>
      rw [hf] at h
      simp only [Option.getD_some] at h
      subst h
      have hlt:=(List.getElem?_eq_some_iff.1 hf).1
      rw [List.getElem?_set_self hlt]
  · rw [List.getElem?_set_ne (by omega)]
theorem semStep_eq {ops:Array Oper} {i:Nat} {o:Oper} (ho:ops[i]? = some o) (K:Fr→Hp→Prop) (Kp:List PanicEntry→Hp→Prop) (fr:Fr) (h:Hp):semStep P ops i K Kp fr h=stepF P ops o K Kp fr h:=by
  unfold semStep stepF gd
  simp only [ho]
  cases hg:o.guard with
  | none=>rfl
  | some jb =>
    obtain ⟨j,b⟩:=jb
    simp only
    cases hd:(ops[j]?).bind (·.dst) with
    | none=>rfl
    | some d =>
      simp only
      cases hv:fr.getD d none with
      | none=>rfl
      | some v =>
        cases v <;> try rfl
        rename_i c
        have e1:=set_self hv
        cases c <;> cases b <;> simp only [If,bsel,e1] <;> rfl
theorem stepF_mono {ops:Array Oper} {o:Oper} {K K':Fr→Hp→Prop} {Kp:List PanicEntry→Hp→Prop} {fr:Fr} {h:Hp} (hh:stepF P ops o K Kp fr h) (hk:∀v h',K (setF fr o.dst v) h'→K' (setF fr o.dst v) h'):stepF P ops o K' Kp fr h:=by
  unfold stepF at hh ⊢
  split at hh
  · exact semOp_mono hh (fun v h' hx=>hk v h' hx) (fun _ _ hx=>hx)
  · exact hk (some undef) h hh
  · exact hh.elim
/-- the slots that an operation looks at -/
def looks (ops:Array Oper) (o:Oper):List Nat :=
  o.op.operands.toList.filterMap (fun | .tmp t=>some t | _=>none)++(match o.guard with | some (j,_)=>((ops[j]?).bind (·.dst)).toList | none=>[])
/-- neither writes what the other one looks at or writes -/
def apartB (ops:Array Oper) (x y:Oper):Bool :=
  (match x.dst with | some d=>!(looks ops y).contains d && !(y.dst == some d) | none=>true) && (match y.dst with | some d=>!(looks ops x).contains d | none=>true)
theorem ev_setF {fr:Fr} {d:Option Nat} {v:Option Value} {x:Operand} (h:∀t,d=some t→x≠.tmp t):ev (setF fr d v) x=ev fr x:=by
  cases d with
  | none=>rfl
  | some t =>
    cases x with
    | tmp u =>
      have:u≠t:=fun hut=>h t rfl (by rw [hut])
      simp only [ev,setF,List.getD_eq_getElem?_getD]
      rw [List.getElem?_set_ne (fun e=>this e.symm)]
    | _=>rfl
theorem looks_ev {ops:Array Oper} {o:Oper} {fr:Fr} {d:Option Nat} {v:Option Value} (h:∀t,d=some t→(looks ops o).contains t=false):∀x∈o.op.operands,ev (setF fr d v) x=ev fr x:=by
  intro x hx
  refine ev_setF fun t ht hxt => ?_
  have:=h t ht
  subst hxt
  simp only [looks,List.contains_eq_mem,List.mem_append,decide_eq_false_iff_not,not_or,List.mem_filterMap] at this
  exact this.1 ⟨.tmp t,by simpa using hx,rfl⟩
theorem looks_gd {ops:Array Oper} {o:Oper} {fr:Fr} {d:Option Nat} {v:Option Value} (h:∀t,d=some t→(looks ops o).contains t=false):gd ops o (setF fr d v)=gd ops o fr:=by
  unfold gd
  cases hg:o.guard with
  | none=>rfl
  | some jb =>
    obtain ⟨j,b⟩:=jb
    simp only
    cases hd:(ops[j]?).bind (·.dst) with
    | none=>rfl
    | some u =>
      have hne:∀t,d=some t→u≠t:=by
        intro t ht hut
        have:=h t ht
        subst hut
        simp [looks,hg,hd] at this
      simp only
      cases d with
      | none=>rfl
      | some t =>
        have:=hne t rfl
        simp only [setF,List.getD_eq_getElem?_getD]
        rw [List.getElem?_set_ne (fun e=>this e.symm)]
theorem setF_comm {fr:Fr} {d d':Option Nat} {v v':Option Value} (h:∀t,d=some t→d'≠some t):setF (setF fr d v) d' v'=setF (setF fr d' v') d v:=by
  cases d with
  | none=>rfl
  | some t =>
    cases d' with
    | none=>rfl
    | some u =>
      have:t≠u:=fun e=>h t rfl (by rw [e])
      exact List.set_comm _ _ this
structure Apart (ops:Array Oper) (x y:Oper):Prop where
  l:∀t,x.dst=some t→(looks ops y).contains t=false
  r:∀t,y.dst=some t→(looks ops x).contains t=false
  d:∀t,x.dst=some t→y.dst≠some t
theorem apart_of {ops:Array Oper} {x y:Oper} (h:apartB ops x y=true):Apart ops x y:=by
  unfold apartB at h
  refine ⟨?_,?_,?_⟩
  · intro t ht;rw [ht] at h;simp at h;simp [h.1.1]
  · intro t ht;rw [ht] at h;simp at h;simp [h.2]
  · intro t ht hy;rw [ht,hy] at h;simp at h
/-- the step of an operation that only reads: one value, in each frame and heap that keep what it looks at -/
theorem stepF_val {ops:Array Oper} {o:Oper} {K:Fr→Hp→Prop} {Kp:List PanicEntry→Hp→Prop} {fr:Fr} {h:Hp} (hr:isR P o.op=true) (hh:stepF P ops o K Kp fr h) :
    ∃ v,K (setF fr o.dst v) h∧∀(fr2:Fr) (h2:Hp) (K2:Fr→Hp→Prop) (Kp2:List PanicEntry→Hp→Prop),(∀x∈o.op.operands,ev fr2 x=ev fr x)→gd ops o fr2=gd ops o fr →
      (∀t x a,o.op=.load t x→ev fr x=some (.pointer (some a))→KeepAt h h2 a (ldSize P t))→K2 (setF fr2 o.dst v) h2→stepF P ops o K2 Kp2 fr2 h2:=by
  unfold stepF at hh
  split at hh
  · rename_i hg
    obtain ⟨v,h1,h2⟩:=semOp_val hr hh
    refine ⟨v,h1,fun fr2 h2' K2 Kp2 he hgd hkeep hK => ?_⟩
    unfold stepF
    rw [hgd,hg]
    simp only
    rw [semOp_ext (P:=P) he]
    exact h2 h2' _ Kp2 hkeep hK
  · rename_i hg
    refine ⟨some undef,hh,fun fr2 h2' K2 Kp2 he hgd hkeep hK => ?_⟩
    unfold stepF
    rw [hgd,hg]
    exact hK
  · exact hh.elim
/-! ### the reading of a region that draws: one order; at each step that may write, the loads that may come behind it keep what they read -/
def ldAdd (P:Program) (x:Nat) (o:Oper) (fr:Fr) (ld:List (Nat × Addr × Nat)):List (Nat × Addr × Nat) :=
  match o.op with
  | .load t y=>(match ev fr y with | some (.pointer (some a))=>(x,a,ldSize P t)::ld | _=>ld)
  | _=>ld
def keeps (ms:List Nat) (x:Nat) (h h':Hp):List (Nat × Addr × Nat)→Prop→Prop
  | [],X=>X
  | (j,a,n)::ld,X=>bsel ((ms.getD x 0).testBit j) (keeps ms x h h' ld X)<|KeepAt h h' a n∧keeps ms x h h' ld X
/-- an order of a region's operations; where writers are in no order, one for each of theirs -/
inductive OT where
  | fin
  | op (x:Nat) (t:OT)
  | alt (a b:OT)
def OT.l:List Nat→OT→OT
  | [],t=>t
  | x::l,t=>.op x (OT.l l t)
def OT.all:OT→List Nat
  | .fin=>[]
  | .op x t=>x::t.all
  | .alt a _=>a.all
def OT.heads:OT→List Nat
  | .fin=>[]
  | .op x _=>[x]
  | .alt a b=>a.heads++b.heads
def semDr (P:Program) (ops:Array Oper) (ms:List Nat):List (Nat × Addr × Nat)→OT→(Fr→Hp→Prop)→(List PanicEntry→Hp→Prop)→Fr→Hp→Prop
  | _, .fin,K,_,fr,h=>K fr h
  | ld, .op x l,K,Kp,fr,h=>match ops[x]? with
    | none=>False
    | some o=>bsel (isR P o.op) (semStep P ops x (fun fr' h'=>semDr P ops ms (ldAdd P x o fr ld) l K Kp fr' h') Kp fr h)<|semStep P ops x (fun fr' h'=>keeps ms x h h' ld (semDr P ops ms ld l K Kp fr' h')) Kp fr h
  | ld, .alt a b,K,Kp,fr,h=>semDr P ops ms ld a K Kp fr h∧semDr P ops ms ld b K Kp fr h
def anc (ms:List Nat) (j x:Nat):Bool:=(ms.getD j 0).testBit x
def depsOf (o:Oper):List Nat:=(o.after.toList.filter (Region.binds .any)).map (·.on)
def msOk (ops:Array Oper) (ms:List Nat):Bool :=
  (List.range ops.size).all fun j=>match ops[j]? with
    | some o=>(depsOf o).all (fun e=>decide (e < j)) && ms.getD j 0 == (depsOf o).foldl (fun s e=>s ||| (2 ^ e) ||| ms.getD e 0) 0
    | none=>false
def okT (P:Program) (ops:Array Oper) (ms:List Nat):Bool→OT→Bool
  | br, .fin=>!br
  | br, .op x t=>(br || (match ops[x]? with
    | some ox=>t.all.all fun j=>match ops[j]? with | some oj=>!(anc ms x j) && (anc ms j x || (isR P ox.op && apartB ops ox oj)) | none=>false
    | none=>false)) && !(t.all.contains x) && okT P ops ms false t
  | _, .alt a b=>okT P ops ms true a && okT P ops ms true b && a.all.all (b.all.contains ·) && b.all.all (a.all.contains ·) && a.all.all fun j=>(a.heads++b.heads).contains j || ((a.heads++b.heads).any fun w=>anc ms j w && a.all.contains w)
def orderOk (P:Program) (ops:Array Oper) (l:OT) (ms:List Nat):Bool :=
  P.follows .mixedOrders && (ops.all fun o=>!(o.op matches .defer _)) && msOk ops ms && okT P ops ms false l && (List.range ops.size).all (fun i=>l.all.contains i) && l.all.all fun i=>decide (i < ops.size)
theorem keeps_iff {ms:List Nat} {x:Nat} {h h':Hp} {X:Prop}:∀{ld:List (Nat × Addr × Nat)},keeps ms x h h' ld X↔(∀p∈ld,(ms.getD x 0).testBit p.1=false→KeepAt h h' p.2.1 p.2.2)∧X:=by
  intro ld
  induction ld with
  | nil=>simp [keeps]
  | cons p ld ih =>
    obtain ⟨j,a,n⟩:=p
    unfold keeps
    cases hb:(ms.getD x 0).testBit j with
    | true =>
      simp only [bsel,ih,List.mem_cons,forall_eq_or_imp,hb]
      simp
    | false =>
      simp only [bsel,ih,List.mem_cons,forall_eq_or_imp,hb]
      simp [and_assoc]
theorem ldAdd_mem {x:Nat} {o:Oper} {fr:Fr} {ld:List (Nat × Addr × Nat)} {p:Nat × Addr × Nat}:p∈ldAdd P x o fr ld↔p∈ld∨∃t y a,o.op=.load t y∧ev fr y=some (.pointer (some a))∧p=(x,a,ldSize P t):=by
  unfold ldAdd
  constructor
  · intro h
    split at h
    · rename_i t y ho
      split at h
      · rename_i a ha
        simp only [List.mem_cons] at h
        rcases h with h | h
        · exact .inr ⟨t,y,a,ho,ha,h⟩
        · exact .inl h
      · exact .inl h
    · exact .inl h
  · rintro (h | ⟨t,y,a,ho,ha,rfl⟩)
    · split
      · split
        · exact List.mem_cons_of_mem _ h
        · exact h
      · exact h
    · simp [ho,ha]
theorem semDr_sub {ops:Array Oper} {ms:List Nat} {K:Fr→Hp→Prop} {Kp:List PanicEntry→Hp→Prop}:∀{l:OT} {ld ld':List (Nat × Addr × Nat)} {fr:Fr} {h:Hp},(∀p∈ld',p∈ld)→semDr P ops ms ld l K Kp fr h→semDr P ops ms ld' l K Kp fr h:=by
  intro l
  induction l with
  | fin=>intro ld ld' fr h _ hh;exact hh
  | alt a b iha ihb=>intro ld ld' fr h hs hh;exact ⟨iha hs hh.1,ihb hs hh.2⟩
  | op x l ih =>
    intro ld ld' fr h hs hh
    unfold semDr at hh ⊢
    split at hh
    · exact hh.elim
    · rename_i o ho
      cases hr:isR P o.op with
      | true =>
        rw [hr] at hh
        simp only [bsel] at hh ⊢
        rw [semStep_eq ho] at hh ⊢
        refine stepF_mono hh fun v h' hx=>ih (fun p hp => ?_) hx
        rcases ldAdd_mem.1 hp with h1 | h1
        · exact ldAdd_mem.2 (.inl (hs p h1))
        · exact ldAdd_mem.2 (.inr h1)
      | false =>
        rw [hr] at hh
        simp only [bsel] at hh ⊢
        rw [semStep_eq ho] at hh ⊢
        refine stepF_mono hh fun v h' hx => ?_
        obtain ⟨h1,h2⟩:=keeps_iff.1 hx
        exact keeps_iff.2 ⟨fun p hp=>h1 p (hs p hp),ih hs h2⟩
theorem semDr_cons {ops:Array Oper} {ms:List Nat} {K:Fr→Hp→Prop} {Kp:List PanicEntry→Hp→Prop} {x:Nat} {o:Oper} (ho:ops[x]? = some o) {l:OT} {ld:List (Nat × Addr × Nat)} {fr:Fr} {h:Hp} :
    semDr P ops ms ld (.op x l) K Kp fr h=(bsel (isR P o.op) (stepF P ops o (fun fr' h'=>semDr P ops ms (ldAdd P x o fr ld) l K Kp fr' h') Kp fr h)<|stepF P ops o (fun fr' h'=>keeps ms x h h' ld (semDr P ops ms ld l K Kp fr' h')) Kp fr h):=by
  rw [semDr]
  simp only [ho,semStep_eq ho]
/-- two neighbours, the first of which only reads, change places -/
theorem semDr_swap {ops:Array Oper} {ms:List Nat} {K:Fr→Hp→Prop} {Kp:List PanicEntry→Hp→Prop} {x i:Nat} {ox oi:Oper} (hx:ops[x]? = some ox) (hi:ops[i]? = some oi) (hrx:isR P ox.op=true) (hap:Apart ops ox oi)
    (hna:anc ms i x=false) {l:OT} {ld:List (Nat × Addr × Nat)} {fr:Fr} {h:Hp} (H:semDr P ops ms ld (.op x (.op i l)) K Kp fr h):semDr P ops ms ld (.op i (.op x l)) K Kp fr h:=by
  rw [semDr_cons hx,hrx,bsel_true] at H
  obtain ⟨v,H1,tx⟩:=stepF_val hrx H
  have lo:∀u:Option Value,∀z∈ox.op.operands,ev (setF fr oi.dst u) z=ev fr z:=fun u=>looks_ev (ops:=ops) hap.r
  have lg:∀u:Option Value,gd ops ox (setF fr oi.dst u)=gd ops ox fr:=fun u=>looks_gd hap.r
  have ladd:∀u ld0,ldAdd P x ox (setF fr oi.dst u) ld0=ldAdd P x ox fr ld0:=by
    intro u ld0
    unfold ldAdd
    split
    · rename_i t y ho
      rw [lo u y (by rw [ho];simp [Op.operands])]
    · rfl
  rw [semDr_cons hi] at H1 ⊢
  cases hri:isR P oi.op with
  | true =>
    rw [hri] at H1
    simp only [bsel] at H1 ⊢
    obtain ⟨u,H2,ti⟩:=stepF_val hri H1
    have loi:∀z∈oi.op.operands,ev fr z=ev (setF fr ox.dst v) z:=fun z hz=>(looks_ev (ops:=ops) (v:=v) hap.l z hz).symm
    refine ti fr h _ Kp loi (looks_gd (v:=v) hap.l).symm (fun _ _ _ _ _ _ _=>rfl) ?_
    rw [semDr_cons hx,hrx,bsel_true]
    refine tx _ h _ Kp (lo u) (lg u) (fun _ _ _ _ _ _ _=>rfl) ?_
    rw [←setF_comm hap.d]
    refine semDr_sub (fun p hp => ?_) H2
    rw [ladd] at hp
    have ladi:∀ld0,ldAdd P i oi (setF fr ox.dst v) ld0=ldAdd P i oi fr ld0:=by
      intro ld0
      unfold ldAdd
      split
      · rename_i t y ho
        rw [←loi y (by rw [ho];simp [Op.operands])]
      · rfl
    rw [ladi]
    rcases ldAdd_mem.1 hp with h1 | h1
    · rcases ldAdd_mem.1 h1 with h2 | h2
      · exact ldAdd_mem.2 (.inl (ldAdd_mem.2 (.inl h2)))
      · exact ldAdd_mem.2 (.inr h2)
    · exact ldAdd_mem.2 (.inl (ldAdd_mem.2 (.inr h1)))
  | false =>
    rw [hri] at H1
    simp only [bsel] at H1 ⊢
    have loi:∀z∈oi.op.operands,ev (setF fr ox.dst v) z=ev fr z:=looks_ev (ops:=ops) hap.l
    have lgi:gd ops oi (setF fr ox.dst v)=gd ops oi fr:=looks_gd hap.l
    have fin:∀u h',keeps ms i h h' (ldAdd P x ox fr ld) (semDr P ops ms (ldAdd P x ox fr ld) l K Kp (setF (setF fr ox.dst v) oi.dst u) h') →
        keeps ms i h h' ld (semDr P ops ms ld (.op x l) K Kp (setF fr oi.dst u) h'):=by
      intro u h' hk
      obtain ⟨h1,h2⟩:=keeps_iff.1 hk
      refine keeps_iff.2 ⟨fun p hp=>h1 p (ldAdd_mem.2 (.inl hp)),?_⟩
      rw [semDr_cons hx,hrx,bsel_true]
      refine tx _ h' _ Kp (lo u) (lg u) (fun t y a ho ha=>h1 (x,a,ldSize P t) (ldAdd_mem.2 (.inr ⟨t,y,a,ho,ha,rfl⟩)) hna) ?_
      rw [←setF_comm hap.d,ladd]
      exact h2
    unfold stepF at H1 ⊢
    rw [lgi] at H1
    split at H1
    · rw [semOp_ext (P:=P) loi] at H1
      exact semOp_mono H1 fin (fun _ _ hp=>hp)
    · exact fin (some undef) h H1
    · exact H1.elim
theorem okT_op {ops:Array Oper} {ms:List Nat} {br:Bool} {x:Nat} {t:OT} (h:okT P ops ms br (.op x t)=true):okT P ops ms false t=true∧x∉t.all:=by
  simp only [okT,Bool.and_eq_true,Bool.not_eq_true',List.contains_eq_mem,decide_eq_false_iff_not] at h
  exact ⟨h.2,h.1.2⟩
theorem okT_op1 {ops:Array Oper} {ms:List Nat} {x:Nat} {t:OT} (h:okT P ops ms false (.op x t)=true):∃ox,ops[x]? = some ox∧∀j∈t.all,anc ms j x=false→isR P ox.op=true∧∃oj,ops[j]? = some oj∧Apart ops ox oj:=by
  simp only [okT,Bool.and_eq_true,Bool.false_or] at h
  have h1:=h.1.1
  cases hx:ops[x]? with
  | none=>simp [hx] at h1
  | some ox =>
    rw [hx] at h1
    simp only [List.all_eq_true] at h1
    refine ⟨ox,rfl,fun j hj hn => ?_⟩
    have:=h1 j hj
    cases hjj:ops[j]? with
    | none=>simp [hjj] at this
    | some oj =>
      rw [hjj] at this
      simp only [Bool.and_eq_true,Bool.or_eq_true] at this
      rw [hn] at this
      simp only [Bool.false_eq_true,false_or] at this
      exact ⟨this.2.1,oj,rfl,apart_of this.2.2⟩
theorem okT_pairs {ops:Array Oper} {ms:List Nat} {x:Nat} {t t':OT} (h:okT P ops ms false (.op x t)=true) (h':okT P ops ms false t'=true) (hall:∀j∈t'.all,j∈t.all):okT P ops ms false (.op x t')=true:=by
  simp only [okT,Bool.and_eq_true,Bool.false_or,Bool.not_eq_true',List.contains_eq_mem,decide_eq_false_iff_not] at h ⊢
  refine ⟨⟨?_,fun hx=>h.1.2 (hall x hx)⟩,h'⟩
  have h1:=h.1.1
  cases hx:ops[x]? with
  | none=>simp [hx] at h1
  | some ox =>
    rw [hx] at h1
    simp only [List.all_eq_true] at h1 ⊢
    intro j hj
    exact h1 j (hall j hj)
theorem okT_alt {ops:Array Oper} {ms:List Nat} {br:Bool} {a b:OT} (h:okT P ops ms br (.alt a b)=true):okT P ops ms true a=true∧okT P ops ms true b=true∧(∀j,j∈a.all↔j∈b.all) ∧
    ∀j∈a.all,j∈a.heads∨j∈b.heads∨∃w∈a.all,anc ms j w=true:=by
  simp only [okT,Bool.and_eq_true,List.all_eq_true,List.contains_eq_mem,decide_eq_true_eq,Bool.or_eq_true,List.any_eq_true,List.mem_append] at h
  obtain ⟨⟨⟨⟨h1,h2⟩,h3⟩,h4⟩,h5⟩:=h
  refine ⟨h1,h2,fun j=>⟨h3 j,h4 j⟩,fun j hj => ?_⟩
  rcases h5 j hj with (h | h) | ⟨w,_,h6,h7⟩
  · exact .inl h
  · exact .inr (.inl h)
  · exact .inr (.inr ⟨w,h7,h6⟩)
/-- one of the alternatives is begun -/
theorem semDr_head {ops:Array Oper} {ms:List Nat} {K:Fr→Hp→Prop} {Kp:List PanicEntry→Hp→Prop} {i:Nat}:∀(T:OT),okT P ops ms true T=true→i∈T.heads →
    ∃T',okT P ops ms false T'=true∧(∀j,j∈T'.all↔j∈T.all∧j≠i)∧∀{ld:List (Nat × Addr × Nat)} {fr:Fr} {h:Hp},semDr P ops ms ld T K Kp fr h→semDr P ops ms ld (.op i T') K Kp fr h:=by
  intro T
  induction T with
  | fin=>intro _ hm;simp [OT.heads] at hm
  | op x t ih =>
    intro hok hm
    simp only [OT.heads,List.mem_singleton] at hm
    subst hm
    obtain ⟨h1,h2⟩:=okT_op hok
    refine ⟨t,h1,fun j => ?_,fun H=>H⟩
    simp only [OT.all,List.mem_cons]
    constructor
    · intro hj;exact ⟨.inr hj,fun e=>h2 (e ▸ hj)⟩
    · rintro ⟨hj | hj,hn⟩
      · exact absurd hj hn
      · exact hj
  | alt a b iha ihb =>
    intro hok hm
    obtain ⟨h1,h2,h3,_⟩:=okT_alt hok
    simp only [OT.heads,List.mem_append] at hm
    rcases hm with hm | hm
    · obtain ⟨T',q1,q2,q3⟩:=iha h1 hm
      exact ⟨T',q1,q2,fun H=>q3 H.1⟩
    · obtain ⟨T',q1,q2,q3⟩:=ihb h2 hm
      exact ⟨T',q1,fun j=>by rw [q2 j,←h3 j];exact Iff.rfl,fun H=>q3 H.2⟩
/-- what is ready is moved to the front -/
theorem semDr_front {ops:Array Oper} {ms:List Nat} {K:Fr→Hp→Prop} {Kp:List PanicEntry→Hp→Prop} {i:Nat} {oi:Oper} (hi:ops[i]? = some oi) {T:OT} {ld:List (Nat × Addr × Nat)} {fr:Fr} {h:Hp}
    (hok:okT P ops ms false T=true) (hm:i∈T.all) (hna:∀x∈T.all,anc ms i x=false) (H:semDr P ops ms ld T K Kp fr h) :
    ∃T',okT P ops ms false T'=true∧(∀j,j∈T'.all↔j∈T.all∧j≠i)∧semDr P ops ms ld (.op i T') K Kp fr h:=by
  have key:∀(T:OT),okT P ops ms false T=true→i∈T.all→(∀x∈T.all,anc ms i x=false) →
      ∃T',okT P ops ms false T'=true∧(∀j,j∈T'.all↔j∈T.all∧j≠i)∧∀{ld:List (Nat × Addr × Nat)} {fr:Fr} {h:Hp},semDr P ops ms ld T K Kp fr h→semDr P ops ms ld (.op i T') K Kp fr h:=by
    intro T
    induction T with
    | fin=>intro _ hm _;simp [OT.all] at hm
    | op x t ih =>
      intro hok hm hna
      obtain ⟨hok',hxt⟩:=okT_op hok
      by_cases e:x=i
      · subst e
        refine ⟨t,hok',fun j => ?_,fun H=>H⟩
        simp only [OT.all,List.mem_cons]
        constructor
        · intro hjt;exact ⟨.inr hjt,fun e=>hxt (e ▸ hjt)⟩
        · rintro ⟨h1 | h1,h2⟩
          · exact absurd h1 h2
          · exact h1
      · obtain ⟨ox,hx,hj⟩:=okT_op1 hok
        have hmt:i∈t.all:=by
          simp only [OT.all,List.mem_cons] at hm
          exact hm.resolve_left (fun h=>e h.symm)
        obtain ⟨t',ht',hall,hf⟩:=ih hok' hmt fun y hy=>hna y (by simp [OT.all,hy])
        have hxi:anc ms i x=false:=hna x (by simp [OT.all])
        obtain ⟨hrx,oi',hoi',hap⟩:=hj i hmt hxi
        rw [hi] at hoi';cases hoi'
        refine ⟨.op x t',okT_pairs hok ht' fun j hjt=>((hall j).1 hjt).1,fun j => ?_,fun H => ?_⟩
        · simp only [OT.all,List.mem_cons,hall]
          constructor
          · rintro (h1 | ⟨h1,h2⟩)
            · subst h1;exact ⟨.inl rfl,e⟩
            · exact ⟨.inr h1,h2⟩
          · rintro ⟨h1 | h1,h2⟩
            · exact .inl h1
            · exact .inr ⟨h1,h2⟩
        · refine semDr_swap hx hi hrx hap hxi ?_
          rw [semDr_cons hx,hrx,bsel_true] at H
          rw [semDr_cons hx,hrx,bsel_true]
          exact stepF_mono H fun v h' hk=>hf hk
    | alt a b iha ihb =>
      intro hok hm hna
      obtain ⟨h1,h2,h3,h4⟩:=okT_alt hok
      have hok2:okT P ops ms true (.alt a b)=true:=hok
      refine semDr_head (.alt a b) hok2 ?_
      rcases h4 i hm with h | h | ⟨w,hw,ha⟩
      · simp [OT.heads,h]
      · simp [OT.heads,h]
      · rw [hna w hw] at ha;cases ha
  obtain ⟨T',h1,h2,h3⟩:=key T hok hm hna
  exact ⟨T',h1,h2,h3 H⟩
theorem semDr_nil {ops:Array Oper} {ms:List Nat} {K:Fr→Hp→Prop} {Kp:List PanicEntry→Hp→Prop}:∀{T:OT} {ld:List (Nat × Addr × Nat)} {fr:Fr} {h:Hp},(∀j,j∉T.all)→semDr P ops ms ld T K Kp fr h→K fr h:=by
  intro T
  induction T with
  | fin=>intro ld fr h _ H;exact H
  | op x t ih=>intro ld fr h hn H;exact absurd (by simp [OT.all]) (hn x)
  | alt a b iha ihb=>intro ld fr h hn H;exact iha hn H.1
variable {r:Option Nat}
theorem foldl_bits (ms:List Nat) (x:Nat):∀(l:List Nat) (s:Nat),(l.foldl (fun s e=>s ||| (2 ^ e) ||| ms.getD e 0) s).testBit x=true→s.testBit x=true∨x∈l∨∃e∈l,(ms.getD e 0).testBit x=true:=by
  intro l
  induction l with
  | nil=>intro s h;exact .inl h
  | cons e l ih =>
    intro s h
    rcases ih _ h with h1 | h1 | ⟨e',he',h1⟩
    · simp only [Nat.testBit_or,Bool.or_eq_true,Nat.testBit_two_pow] at h1
      rcases h1 with (h1 | h1) | h1
      · exact .inl h1
      · simp at h1;exact .inr (.inl (by simp [h1]))
      · exact .inr (.inr ⟨e,by simp,h1⟩)
    · exact .inr (.inl (by simp [h1]))
    · exact .inr (.inr ⟨e',by simp [he'],h1⟩)
theorem msOk_spec {ops:Array Oper} {ms:List Nat} (h:msOk ops ms=true) {j:Nat} {o:Oper} (ho:ops[j]? = some o) :
    (∀e∈depsOf o,e < j)∧∀x,anc ms j x=true→x∈depsOf o∨∃e∈depsOf o,anc ms e x=true:=by
  unfold msOk at h
  have hj:j < ops.size:=(Array.getElem?_eq_some_iff.1 ho).1
  have:=List.all_eq_true.1 h j (List.mem_range.2 hj)
  rw [ho] at this
  simp only [Bool.and_eq_true,List.all_eq_true,decide_eq_true_eq,beq_iff_eq] at this
  refine ⟨this.1,fun x hx => ?_⟩
  unfold anc at hx
  rw [this.2] at hx
  rcases foldl_bits ms x _ 0 hx with h1 | h1 | h1
  · simp at h1
  · exact .inl h1
  · exact .inr h1
theorem anc_listed {ops:Array Oper} {ms:List Nat} (hms:msOk ops ms=true) {listed:Array Bool} (hc:∀j o,ops[j]? = some o→listed.getD j false=true→∀e∈depsOf o,listed.getD e false=true) (hsz:listed.size=ops.size) :
    ∀(e x:Nat),listed.getD e false=true→anc ms e x=true→listed.getD x false=true:=by
  intro e
  induction e using Nat.strongRecOn with
  | _ e ih =>
    intro x hl ha
    have he:e < ops.size:=by
      rw [←hsz]
      apply Classical.byContradiction
      intro hn
      simp [Array.getD,hn] at hl
    obtain ⟨o,ho⟩:∃o,ops[e]? = some o:=⟨ops[e],Array.getElem?_eq_getElem he⟩
    obtain ⟨h1,h2⟩:=msOk_spec hms ho
    rcases h2 x ha with h3 | ⟨e',he',h3⟩
    · exact hc e o ho hl x h3
    · exact ih e' (h1 e' he') x (hc e o ho hl e' he') h3
theorem dep_iff {o:Oper} {listed:Array Bool}:(o.after.all fun e=>!Region.binds .any e || listed.getD e.on false)=true↔∀e∈depsOf o,listed.getD e false=true:=by
  simp only [Array.all_eq_true_iff_forall_mem,Bool.or_eq_true,Bool.not_eq_true',depsOf,List.mem_map,List.mem_filter,Array.mem_toList_iff]
  constructor
  · rintro h e ⟨x,⟨hx,hb⟩,rfl⟩
    rcases h x hx with h1 | h1
    · rw [hb] at h1;cases h1
    · exact h1
  · intro h x hx
    cases hb:Region.binds .any x with
    | false=>exact .inl rfl
    | true=>exact .inr (h _ ⟨x,⟨hx,hb⟩,rfl⟩)
theorem getD_tf {listed:Array Bool} {i:Nat} (hi:i < listed.size):listed.getD i true=listed.getD i false:=by simp [Array.getD,hi]
theorem semDr_any {T0:List Nat} {ops:Array Oper} (hT0:OpsT T0 ops) {ms:List Nat} (hms:msOk ops ms=true) {K:Fr→Hp→Prop} {Kp:List PanicEntry→Hp→Prop} {Q:Exit→Act→World→Prop}:∀(fuel:Nat) (listed:Array Bool) (U:List Nat) (l:OT) (ld:List (Nat × Addr × Nat)) (fr:Fr) (a:Act) (w:World),
    Agr fr a→okT P ops ms false l=true→(∀i,i∈l.all↔i < ops.size∧listed.getD i false=false)→(∀i,i∈l.all→i∈U)→listed.size=ops.size→(∀j o,ops[j]? = some o→listed.getD j false=true→∀e∈depsOf o,listed.getD e false=true) →
    U.length≤fuel→semDr P ops ms ld l K Kp fr (hpz w)→(∀fr' a' w',Agr fr' a'→Kd T0 a a'→Same w w'→K fr' (hpz w')→Q .normal a' w') →
    (∀ch a' w',Kd T0 a a'→Same w w'→Kp ch (hpz w')→Q (.panic ch) a' w')→wpAnyIn (Fc r) 0 P .any ops Q fuel listed a w:=by
  intro fuel
  have ready_mem:∀(listed:Array Bool) (i:Nat),listed.size=ops.size→(i∈Region.ready .any ops listed↔i < ops.size∧listed.getD i false=false∧∃o,ops[i]? = some o∧∀e∈depsOf o,listed.getD e false=true):=by
    intro listed i hsz
    unfold Region.ready
    simp only [List.mem_filter,List.mem_range,Bool.and_eq_true,Bool.not_eq_true']
    constructor
    · rintro ⟨hi,hl,hd⟩
      have ho:ops[i]? = some ops[i]:=Array.getElem?_eq_getElem hi
      rw [ho] at hd
      simp only [Option.map_some,Option.getD_some] at hd
      exact ⟨hi,by rw [←getD_tf (by omega)];exact hl,_,ho,dep_iff.1 hd⟩
    · rintro ⟨hi,hl,o,ho,hd⟩
      refine ⟨hi,by rw [getD_tf (by omega)];exact hl,?_⟩
      rw [ho]
      simp only [Option.map_some,Option.getD_some]
      exact dep_iff.2 hd
  have none_ready:∀(listed:Array Bool) (l:List Nat),listed.size=ops.size→(∀i,i∈l↔i < ops.size∧listed.getD i false=false)→Region.ready .any ops listed=[]→∀j,j∉l:=by
    intro listed l hsz hl hr
    intro x hx
    · obtain ⟨m,hm,hmin⟩:=least (fun i=>i∈l) ⟨x,hx⟩
      obtain ⟨hlt,hf⟩:=(hl m).1 hm
      have ho:ops[m]? = some ops[m]:=Array.getElem?_eq_getElem hlt
      have:m∈Region.ready .any ops listed:=by
        refine (ready_mem listed m hsz).2 ⟨hlt,hf,_,ho,fun e he => ?_⟩
        have hem:=(msOk_spec hms ho).1 e he
        have:=hmin e hem
        rw [hl e] at this
        cases hle:listed.getD e false with
        | true=>rfl
        | false=>exact absurd ⟨by omega,hle⟩ this
      rw [hr] at this
      simp at this
  induction fuel with
  | zero =>
    intro listed U l ld fr a w ha hp hl hU hsz hc hlen H hN hP
    have hn:∀j,j∉l.all:=fun j hj=>by
      have:U=[]:=by cases U with | nil=>rfl | cons=>simp at hlen
      have:=hU j hj;simp_all
    refine ⟨?_,hN fr a w ha (Kd.refl _ _) (Same.refl w) (semDr_nil hn H)⟩
    apply List.eq_nil_iff_forall_not_mem.2
    intro i hi
    obtain ⟨h1,h2,_⟩:=(ready_mem listed i hsz).1 hi
    exact hn i ((hl i).2 ⟨h1,h2⟩)
  | succ fuel ih =>
    intro listed U l ld fr a w ha hp hl hU hsz hc hlen H hN hP
    refine ⟨fun hr => ?_,fun i hi => ?_⟩
    · exact hN fr a w ha (Kd.refl _ _) (Same.refl w) (semDr_nil (none_ready listed l.all hsz hl hr) H)
    · obtain ⟨hilt,hif,oi,hoi,hdep⟩:=(ready_mem listed i hsz).1 hi
      have him:=(hl i).2 ⟨hilt,hif⟩
      have hanc:∀x∈l.all,anc ms i x=false:=by
        intro x hx
        cases hax:anc ms i x with
        | false=>rfl
        | true =>
          exfalso
          have hxl:listed.getD x false=true:=by
            rcases (msOk_spec hms hoi).2 x hax with h1 | ⟨e,he,h1⟩
            · exact hdep x h1
            · exact anc_listed hms hc hsz e x (hdep e he) h1
          have:=((hl x).1 hx).2
          rw [hxl] at this;cases this
      obtain ⟨T',hok',hall',H2⟩:=semDr_front hoi hp him hanc H
      have hl':∀j,j∈T'.all↔j < ops.size∧(listed.setIfInBounds i true).getD j false=false:=by
        intro j
        rw [hall' j]
        by_cases hj:j=i
        · subst hj
          constructor
          · intro h;exact absurd rfl h.2
          · rintro ⟨_,h2⟩
            simp [Array.getD,hsz,hilt] at h2
        · have h1:=hl j
          rw [Array.getD_eq_getD_getElem?,Array.getElem?_setIfInBounds_ne (by omega),←Array.getD_eq_getD_getElem?]
          rw [←h1]
          simp [hj]
      have hU':∀j,j∈T'.all→j∈U.erase i:=fun j hj=>by
        obtain ⟨h1,h2⟩:=(hall' j).1 hj
        exact (List.mem_erase_of_ne h2).2 (hU j h1)
      have hUl:(U.erase i).length≤fuel:=by
        rw [List.length_erase_of_mem (hU i him)];omega
      have hc':∀j o,ops[j]? = some o→(listed.setIfInBounds i true).getD j false=true→∀e∈depsOf o,(listed.setIfInBounds i true).getD e false=true:=by
        intro j o ho hj e he
        have mono:∀k,listed.getD k false=true→(listed.setIfInBounds i true).getD k false=true:=by
          intro k hk
          by_cases hki:k=i
          · subst hki;simp [Array.getD,hsz,hilt]
          · rw [Array.getD_eq_getD_getElem?,Array.getElem?_setIfInBounds_ne (by omega),←Array.getD_eq_getD_getElem?];exact hk
        by_cases hji:j=i
        · subst hji
          rw [hoi] at ho;cases ho
          exact mono e (hdep e he)
        · rw [Array.getD_eq_getD_getElem?,Array.getElem?_setIfInBounds_ne (by omega),←Array.getD_eq_getD_getElem?] at hj
          exact mono e (hc j o ho hj e he)
      have next:∀ld' fr' a' w',Agr fr' a'→Kd T0 a a'→Same w w'→semDr P ops ms ld' T' K Kp fr' (hpz w')→wpAnyIn (Fc r) 0 P .any ops Q fuel (listed.setIfInBounds i true) a' w':=by
        intro ld' fr' a' w' ha' hd hs hk
        refine ih _ (U.erase i) T' ld' fr' a' w' ha' hok' hl' hU' (by simpa using hsz) hc' hUl hk ?_ ?_
        · intro fr'' a'' w'' ha'' hd' hs' hk';exact hN _ _ _ ha'' (hd'.trans hd) (hs.trans hs') hk'
        · intro ch a'' w'' hd' hs' hk';exact hP _ _ _ (hd'.trans hd) (hs.trans hs') hk'
      have step:StepIn r P ops i (wpAnyIn (Fc r) 0 P .any ops Q fuel (listed.setIfInBounds i true)) Q a w:=by
        unfold semDr at H2
        rw [hoi] at H2
        simp only at H2
        cases hr:isR P oi.op with
        | true =>
          rw [hr,bsel_true] at H2
          exact semStep_sound hT0 ha H2 (fun fr' a' w' ha' hd hs hk=>next _ fr' a' w' ha' hd hs hk) hP
        | false =>
          rw [hr,bsel_false] at H2
          exact semStep_sound hT0 ha H2 (fun fr' a' w' ha' hd hs hk=>next _ fr' a' w' ha' hd hs (keeps_iff.1 hk).2) hP
      unfold StepIn at step
      unfold wpOpIn
      rw [hoi] at step ⊢
      exact step
def DrawSem (P:Program) (ords:List (Nat × OT × List Nat)) (id:Nat) (ops:Array Oper) (K:Fr→Hp→Prop) (Kp:List PanicEntry→Hp→Prop) (fr:Fr) (h:Hp):Prop :=
  match ords.find? (fun x=>x.1 == id) with
  | some (_,l,ms)=>bsel (orderOk P ops l ms) (semDr P ops ms [] l K Kp fr h)<|False
  | none=>False
theorem drawOk (ords:List (Nat × OT × List Nat)):DrawOk P r (DrawSem P ords):=by
  intro T0 id ops K Kp fr a w Q hT0 ha hD hN hP
  unfold DrawSem at hD
  split at hD
  · rename_i l ms _
    cases ho:orderOk P ops l ms with
    | false=>rw [ho] at hD;exact hD.elim
    | true =>
      rw [ho,bsel_true] at hD
      simp only [orderOk,Bool.and_eq_true,List.all_eq_true,List.mem_range,decide_eq_true_eq,List.contains_eq_mem] at ho
      obtain ⟨⟨⟨⟨⟨hm,_⟩,hms⟩,hp⟩,hall⟩,hsub⟩:=ho
      refine wpIn_region_any hm ?_
      refine semDr_any (r:=r) hT0 hms ops.size (Array.replicate ops.size false) (List.range ops.size) l [] fr a { w with drawn:=w.drawn+1 } ha hp ?_ (fun i hi=>List.mem_range.2 (hsub i hi)) (by simp) ?_ (by simp) hD ?_ ?_
      · intro i
        constructor
        · intro hi;exact ⟨hsub i hi,by simp [Array.getD,hsub i hi]⟩
        · rintro ⟨hi,_⟩;exact hall i hi
      · intro j o hoj hj
        have:j < ops.size:=(Array.getElem?_eq_some_iff.1 hoj).1
        simp [Array.getD,this] at hj
      · intro fr' a' w' ha' hd hs hk;exact hN fr' a' w' ha' hd hs hk
      · intro ch a' w' hd hs hk;exact hP ch a' w' hd hs hk
  · exact hD.elim
end Go.Sh
