/- Slices of structs as lists of rows. -/
import Derived.Test.YtlbbdbdjiekkaaaGreatDoorNamesShLoc
set_option linter.unusedVariables false
set_option linter.unusedSimpArgs false
namespace Go.Sh
def Lens (sz:Nat) (rows:List (List Value)):Prop:=∀r∈rows,r.length=sz
theorem Lens.flat {sz:Nat}:∀{rows:List (List Value)},Lens sz rows→rows.flatten.length=rows.length*sz
  | [],_=>by simp
  | r::rows,h=>by
    have h1:=h r (by simp)
    have h2:=Lens.flat (rows:=rows) fun x hx=>h x (by simp [hx])
    simp only [List.flatten_cons,List.length_append,List.length_cons,h1,h2,Nat.succ_mul];omega
theorem flat_get {sz:Nat}:∀{rows:List (List Value)},Lens sz rows→∀{i k:Nat},k < sz→rows.flatten[i*sz+k]? = (rows[i]?).bind (·[k]?)
  | [],_,i,k,_=>by simp
  | r :: rows,h,i,k,hk=>by
    have h1:=h r (by simp)
    simp only [List.flatten_cons]
    cases i with
    | zero=>rw [List.getElem?_append_left (by omega)];simp
    | succ i =>
      rw [List.getElem?_append_right (by rw [h1,Nat.succ_mul];omega)]
      have e:(i+1)*sz+k - r.length=i*sz+k:=by rw [h1,Nat.succ_mul];omega
      rw [e,flat_get (fun x hx=>h x (by simp [hx])) hk];simp
theorem flat_mul {sz j:Nat} (hs:0 < sz):j=j / sz*sz+j % sz∧j % sz < sz:=⟨by rw [Nat.mul_comm];exact (Nat.div_add_mod j sz).symm,Nat.mod_lt _ hs⟩
theorem add_add' (a:Addr) (x y:Nat):(a.add x).add y=a.add (x+y):=by
  unfold Addr.add
  by_cases hx:x=0
  · subst hx;simp
  · by_cases hy:y=0
    · subst hy;simp
    · simp [hx,hy,Nat.add_assoc]
theorem add_block (a:Addr) (i:Nat):(a.add i).block=a.block:=by unfold Addr.add;split <;> rfl
theorem Cs.fr {S:Nat→Prop} {h h':Hp} {a:Addr} {vs:List Value} (c:Cs h a vs) (f:Tn S h h') (hn:¬S a.block):Cs h' a vs:=fun i v hv=>f.cell (c i v hv) (by rw [add_block];exact hn)
/-- a slice in a block of its own that holds these rows -/
structure RowH (sz:Nat) (h:Hp) (s:Sl) (b:Nat) (rows:List (List Value)) (el:TypeId):Prop where
  len:Lens sz rows
  n:s.n=rows.length
  own:OwnS sz h s b rows.flatten el
section
variable {sz b:Nat} {h h':Hp} {s:Sl} {rows:List (List Value)} {el:TypeId}
theorem RowH.a (o:RowH sz h s b rows el):s.a=some ⟨b,0,none⟩:=o.own.1
theorem RowH.cap (o:RowH sz h s b rows el):s.n≤s.c:=by obtain ⟨_,_,_,_,h,_⟩:=o.own;exact h
theorem RowH.lt (o:RowH sz h s b rows el):b < h.size:=o.own.lt
theorem RowH.fr {S:Nat→Prop} (o:RowH sz h s b rows el) (f:Tn S h h') (hn:¬S b):RowH sz h' s b rows el:=⟨o.len,o.n,o.own.fr f hn⟩
theorem RowH.grw (o:RowH sz h s b rows el) (g:Grw h h'):RowH sz h' s b rows el:=⟨o.len,o.n,o.own.grw g⟩
theorem RowH.ix (o:RowH sz h s b rows el) {x:Int} {i:Nat} (hx:x=i) (hi:i < rows.length) {K:Addr→Prop} (hk:K ⟨b,i*sz,none⟩):Ix s.a s.n sz x K:=by
  subst hx
  exact o.own.ix (by omega) (by rw [o.n];omega) (by simpa using hk)
theorem RowH.cs (o:RowH sz h s b rows el) {i:Nat} {r:List Value} (hr:rows[i]? = some r):Cs h ⟨b,i*sz,none⟩ r:=by
  intro k v hv
  have hrl:=o.len r (List.mem_of_getElem? hr)
  have hk:k < sz:=by have:=(List.getElem?_eq_some_iff.1 hv).1;omega
  have hi:=(List.getElem?_eq_some_iff.1 hr).1
  obtain ⟨_,h2,cs,h3,h4,h5,h6⟩:=o.own
  have hlt:i*sz+k < s.n*sz:=by
    have h1:(i+1)*sz≤s.n*sz:=Nat.mul_le_mul_right _ (by rw [o.n];omega)
    rw [Nat.succ_mul] at h1;omega
  rw [add_blk,cell_blk h3,h6 _ hlt,flat_get o.len hk,hr];exact hv
theorem RowH.set (o:RowH sz h s b rows el) {i:Nat} (hi:i < rows.length) {r:List Value} (hr:r.length=sz) (ho:∀v∈r,one v=true) {K:Hp→Prop}
    (hk:∀h',Only b h h'→RowH sz h' s b (rows.set i r) el→K h'):StL h ⟨b,i*sz,none⟩ 0 r K:=by
  obtain ⟨h1,h2,cs,h3,h4,h5,h6⟩:=o.own
  have hle:(i+1)*sz≤s.n*sz:=Nat.mul_le_mul_right _ (by rw [o.n];omega)
  have hlc:s.n*sz≤s.c*sz:=Nat.mul_le_mul_right _ h4
  rw [Nat.succ_mul] at hle
  have hl:Lens sz (rows.set i r):=fun x hx=>by
    rcases List.mem_or_eq_of_mem_set hx with q | q
    · exact o.len x q
    · rw [q,hr]
  refine StL_i r h3 (by omega) ho fun h' cs' o1 o2 o3 o4=>hk h' o1 ⟨hl,by rw [List.length_set];exact o.n,h1,by rw [hl.flat,List.length_set,o.n],cs',o2,h4,by rw [o3,h5],fun j hj => ?_⟩
  rcases Nat.eq_zero_or_pos sz with hz | hz
  · subst hz;simp at hj
  obtain ⟨e,em⟩:=flat_mul (sz:=sz) (j:=j) hz
  have e2:=flat_get hl em (i:=j / sz)
  rw [←e] at e2
  rw [o4 j,e2,List.getElem?_set]
  have hq:i*sz+r.length=(i+1)*sz:=by rw [hr,Nat.succ_mul]
  have div:(i*sz+0≤j∧j < i*sz+0+r.length)↔i=j / sz:=by
    rw [Nat.add_zero,hq]
    constructor
    · rintro ⟨a,c⟩
      exact (Nat.div_eq_of_lt_le a c).symm
    · rintro rfl
      exact ⟨Nat.div_mul_le_self _ _,by rw [Nat.mul_comm];exact Nat.lt_mul_div_succ j hz⟩
  by_cases hd:i=j / sz
  · rw [if_pos (div.2 hd),if_pos hd,if_pos (by omega)]
    simp only [Option.bind_some]
    congr 1
    rw [hd];omega
  · rw [if_neg (fun q=>hd (div.1 q)),if_neg hd]
    rw [h6 j hj]
    have:=flat_get o.len em (i:=j / sz)
    rw [←e] at this;exact this
end
/-- rows in a block of a stretch, or none -/
structure RowS (lo sz:Nat) (h:Hp) (s:Sl) (rows:List (List Value)) (el:TypeId):Prop where
  len:Lens sz rows
  n:s.n=rows.length
  sh:Sh lo h.size sz h s rows.flatten el
section
variable {lo sz:Nat} {h h':Hp} {s:Sl} {rows:List (List Value)} {el:TypeId}
theorem RowS.nil (lo sz:Nat) (h:Hp) (el:TypeId):RowS lo sz h Sl.nil [] el:=⟨fun _ h=>by simp at h,rfl,Sh.nil _ _ _ _ _⟩
theorem RowS.cases (o:RowS lo sz h s rows el):(s=Sl.nil∧rows=[])∨∃b,lo≤b∧RowH sz h s b rows el:=by
  rcases o.sh with ⟨h1,_⟩ | ⟨b,h1,_,h3⟩
  · refine .inl ⟨h1,List.eq_nil_of_length_eq_zero ?_⟩
    rw [←o.n,h1];rfl
  · exact .inr ⟨b,h1,o.len,o.n,h3⟩
theorem RowS.fr {S:Nat→Prop} (o:RowS lo sz h s rows el) (f:Tn S h h') (hn:∀b,lo≤b→b < h.size→¬S b):RowS lo sz h' s rows el:=⟨o.len,o.n,(o.sh.fr f hn).wide (Nat.le_refl _) f.1⟩
theorem RowS.grw (o:RowS lo sz h s rows el) (g:Grw h h'):RowS lo sz h' s rows el:=o.fr (S:=No) (Tn.of_grw g) fun _ _ _=>id
theorem RowS.at (o:RowS lo sz h s rows el) {c:Nat} (hc:s.at c):lo≤c∧c < h.size:=o.sh.at hc
theorem RowS.cap (o:RowS lo sz h s rows el):s.n≤s.c:=o.sh.cap
/-- rows are appended; only blocks of the stretch turn -/
theorem RowS.ap (o:RowS lo sz h s rows el) (hlo:lo≤h.size) {z:Array Value} (hz:z.size=sz) {bytes n:Nat} {new:List (List Value)} {vals:List Value→Prop} {K:Sl→Hp→Prop} (hn:new.length=n) (hl:Lens sz new)
    (hone:∀r∈new,∀v∈r,one v=true) (hv:vals new.flatten) (hroom:(s.n+n+(s.n+n) / 4+192)*bytes≤2 ^ 48) (hn2:s.n+n < 2 ^ 63)
    (hk:∀s' h',Tn s.at h h'→(∀c,s'.at c→s.at c∨h.size≤c)→RowS lo sz h' s' (rows++new) el→K s' h'):Ap h el z sz bytes s n vals K:=by
  refine Ap_sh o.sh hlo hz (new:=new.flatten) (by rw [hl.flat,hn]) (fun v hv => ?_) hv hroom hn2 fun s' h' f at' o' hn'=>hk s' h' f at' ⟨fun r hr => ?_,?_,?_⟩
  · obtain ⟨r,hr,hv⟩:=List.mem_flatten.1 hv;exact hone r hr v hv
  · rcases List.mem_append.1 hr with q | q
    · exact o.len r q
    · exact hl r q
  · rw [hn',List.length_append,o.n,hn]
  · rw [List.flatten_append];exact o'
/-- an empty block for rows to come -/
theorem RowS.start {lo b:Nat} {el:TypeId} (k:Blk h b #[] el) (h1:lo≤b):RowS lo sz h ⟨some ⟨b,0,none⟩,0,0⟩ [] el :=
  ⟨fun _ h=>by simp at h,rfl, .inr ⟨b,h1,k.lt,rfl,by simp,_,k,Nat.le_refl _,by simp,fun i hi=>by simp at hi⟩⟩
end
theorem Sv.rd1 {h:Hp} {s:Sl} {vs:List Value} (v:Sv h s vs) (ha:s.a≠none∨vs=[]):rd h s.a (s.n*1) vs:=by
  obtain ⟨h1,h2,h3⟩:=v
  cases hs:s.a with
  | none=>rcases ha with q | q;exact absurd hs q;exact q
  | some a =>
    refine ⟨by omega,fun i w hw => ?_⟩
    have:=(List.getElem?_eq_some_iff.1 hw).1
    obtain ⟨a',ha',c⟩:=h3 (vs.length - 1) (by omega)
    rw [hs] at ha';cases ha';exact c i w hw
theorem Sv.na {h:Hp} {s:Sl} {vs:List Value} (v:Sv h s vs):s.a≠none∨vs=[]:=by
  obtain ⟨h1,h2,h3⟩:=v
  cases vs with
  | nil=>exact .inr rfl
  | cons w ws=>obtain ⟨a,ha,_⟩:=h3 ws.length (by simpa using h1);exact .inl (by rw [ha];simp)
end Go.Sh
