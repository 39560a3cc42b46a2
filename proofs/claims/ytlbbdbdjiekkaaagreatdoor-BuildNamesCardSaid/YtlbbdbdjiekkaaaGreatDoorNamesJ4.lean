import Derived.Test.YtlbbdbdjiekkaaaGreatDoorNamesJ3
import Derived.Test.YtlbbdbdjiekkaaaGreatDoorNamesShDraw3
import Derived.Test.YtlbbdbdjiekkaaaGreatDoorNamesShDeferH
set_option linter.unusedSimpArgs false
set_option linter.unusedVariables false
set_option maxRecDepth 100000
set_option maxHeartbeats 1000000
/- Slices of one's own in a territory; what an older head of such a slice still sees. -/
namespace Go.Proofs.YtlbbdbdjiekkaaaGreatDoor
open Go Go.Sh Go.WideShapes
/-- T, and what is new since h -/
abbrev Or (T:Nat→Prop) (h:Hp):Nat→Prop:=fun c=>T c∨h.size≤c
/-- a slice in a block of T, of its own -/
def Os (T:Nat→Prop) (h:Hp) (s:Sl) (vs:List Value) (el:TypeId):Prop:=s=Sl.nil∧vs=[]∨∃b,T b∧Own h s b vs el
section
variable {T T' S:Nat→Prop} {h h':Hp} {s s0:Sl} {vs l0:List Value} {el:TypeId}
theorem Os.nil:Os T h Sl.nil [] el:=.inl ⟨rfl,rfl⟩
theorem Os.fr (o:Os T h s vs el) (f:Tn S h h') (hn:∀c,T c→c < h.size→¬S c):Os T h' s vs el :=
  o.imp id fun ⟨b,t,o⟩=>⟨b,t,o.fr f (hn b t o.lt)⟩
theorem Os.mono (o:Os T h s vs el) (hT:∀c,T c→T' c):Os T' h s vs el:=o.imp id fun ⟨b,t,o⟩=>⟨b,hT b t,o⟩
theorem Os.gr (o:Os T h s vs el) (g:Grw h h'):Os T h' s vs el:=o.imp id fun ⟨b,t,o⟩=>⟨b,t,o.grw g⟩
theorem Os.n (o:Os T h s vs el):s.n=vs.length:=by
  rcases o with ⟨rfl,rfl⟩ | ⟨b,_,o⟩
  · rfl
  · exact o.2.1
theorem Os.sv (o:Os T h s vs el):Sv h s vs:=by
  rcases o with ⟨rfl,rfl⟩ | ⟨b,_,o⟩
  · exact Sv.nil h
  · exact o.sv
/-- what an older head of the slice still sees: all but its last cell -/
structure Old (T:Nat→Prop) (h:Hp) (s s0:Sl) (l0:List Value) (el:TypeId):Prop where
  le:s0.n≤s.n
  old:s0=Sl.nil∧l0=[]∨∃b cs,T b∧s0.a=some ⟨b,0,none⟩∧s0.n=l0.length∧Blk h b cs el∧s0.n≤s0.c∧cs.size=s0.c∧∀i,i+1 < s0.n→cs[i]? = l0[i]?
theorem Old.of (o:Os T h s vs el):Old T h s s vs el:=by
  refine ⟨Nat.le_refl _,o.imp id ?_⟩
  rintro ⟨b,t,h1,h2,cs,h3,h4,h5,h6⟩
  exact ⟨b,cs,t,h1,h2,h3,h4,h5,fun i hi=>h6 i (by omega)⟩
theorem Old.fr (o:Old T h s s0 l0 el) (f:Tn S h h') (hn:∀c,T c→c < h.size→¬S c):Old T h' s s0 l0 el :=
  ⟨o.le,o.old.imp id fun ⟨b,cs,t,h1,h2,h3,h4⟩=>⟨b,cs,t,h1,h2,f.blk h3 (hn b t h3.lt),h4⟩⟩
theorem Old.mono (o:Old T h s s0 l0 el) (hT:∀c,T c→T' c):Old T' h s s0 l0 el :=
  ⟨o.le,o.old.imp id fun ⟨b,cs,t,x⟩=>⟨b,cs,hT b t,x⟩⟩
/-- one more behind; an older head sees on what it saw -/
theorem Os.ap {bytes:Nat} {x:Value} {vals:List Value→Prop} {z:Array Value} {K:Sl→HP} (o:Os T h s vs el) (hz:z.size=1) (ho:one x=true) (hv:vals [x])
    (hroom:(s.n+1+(s.n+1) / 4+192)*bytes≤2 ^ 48) (hn:s.n+1 < 2 ^ 63)
    (hk:∀s' h',Tn T h h'→Os (Or T h) h' s' (vs++[x]) el→(∀{s0:Sl} {l0:List Value},Old T h s s0 l0 el→Old (Or T h) h' s' s0 l0 el)→K s' h'):Ap h el z 1 bytes s 1 vals K:=by
  have grown:∀old:List Value,rd h s.a (s.n*1) old→old=vs→s.c < s.n+1→Ap h el z 1 bytes s 1 vals K:=by
    intro old hrd hold hc
    subst hold
    have hl:=o.n
    refine ⟨[x],hv, .inr ⟨hc,?_,hn,old,hrd,?_⟩⟩
    · have:=nextslicecap_le_wide (need:=s.n+1) (old:=s.c) hc
      have h7:=Nat.mul_le_mul_right bytes this
      omega
    · intro newCap hn1 hn2
      refine hk _ _ (Tn.of_grw (Grw.push h _)) (.inr ⟨h.size, .inr (Nat.le_refl _),rfl,?_,_,by simp only [Blk,Array.getElem?_push_size];rfl,hn1,?_,fun i hi => ?_⟩) fun q => ?_
      · simp [hl]
      · simp [Builtin.zeroCells,hl,hz];omega
      · simp only at hi
        rw [Array.getElem?_append_left (by simp [←hl];omega),List.getElem?_toArray]
      · refine ⟨by have:=q.le;simp only;omega,?_⟩
        exact ((q.fr (S:=No) (Tn.of_grw (Grw.push h _)) fun _ _ _=>id).mono fun _ c=>.inl c).old
  rcases o with ⟨rfl,rfl⟩ | ⟨b,t,h1,h2,cs,h3,h4,h5,h6⟩
  · exact grown [] rfl rfl (by simp only [Sl.nil];omega)
  · by_cases hc:s.n+1≤s.c
    · refine ⟨[x],hv, .inl ⟨hc,?_⟩⟩
      rw [h1]
      show StL h ((Addr.mk b 0 none).add (s.n*1)) 0 [x] _
      rw [add_blk]
      refine StL_i [x] h3 (by simp;omega) (by simpa using ho) fun h' cs' o1 o2 o3 o4 => ?_
      refine hk _ h' (o1.fr.mono fun d hd _=>hd ▸ t) (.inr ⟨b, .inl t,rfl,by simp [h2],cs',o2,hc,by rw [o3,h5],fun i hi => ?_⟩) fun q=>⟨?_,?_⟩
      · rw [o4 i]
        simp only at hi
        by_cases hlt:i < s.n
        · rw [if_neg (by simp;omega),h6 i hlt,List.getElem?_append_left (by omega)]
        · rw [if_pos (by simp;omega),List.getElem?_append_right (by omega)]
          congr 1;omega
      · have:=q.le;simp only;omega
      · refine q.old.imp id ?_
        rintro ⟨b0,cs0,t0,g1,g2,g3,g4,g5,g6⟩
        by_cases e:b0=b
        · subst e
          have:cs0=cs:=by have:=g3.symm.trans h3;simpa using this
          subst this
          refine ⟨b0,cs', .inl t0,g1,g2,o2,g4,by rw [o3,g5],fun i hi => ?_⟩
          have:=q.le
          rw [o4 i,if_neg (by simp;omega),g6 i hi]
        · exact ⟨b0,cs0, .inl t0,g1,g2,o1.blk g3 e,g4,g5,g6⟩
    · refine grown vs ?_ rfl (by omega)
      rw [h1]
      refine ⟨by omega,fun i v hi => ?_⟩
      have:i < vs.length:=(List.getElem?_eq_some_iff.1 hi).1
      rw [add_blk,Nat.zero_add,cell_blk h3,h6 i (by omega)];exact hi
/-- the last cell is set -/
theorem Os.setLast {x:Value} {a:Addr} {K:HP} (o:Os T h s vs el) (hn:0 < s.n) (ha:∃b,s.a=some ⟨b,0,none⟩∧a=⟨b,s.n - 1,none⟩) (ho:one x=true)
    (hk:∀h',Tn T h h'→Os T h' s (vs.set (s.n - 1) x) el→(∀{s0:Sl} {l0:List Value},Old T h s s0 l0 el→Old T h' s s0 l0 el)→K h'):St h a x K:=by
  rcases o with ⟨rfl,rfl⟩ | ⟨b,t,o⟩
  · simp [Sl.nil] at hn
  · obtain ⟨b',hb',rfl⟩:=ha
    have e:b'=b:=by have:=hb'.symm.trans o.1;simpa using this
    subst e
    obtain ⟨h1,h2,cs,h3,h4,h5,h6⟩:=o
    refine St_i h3 (by omega) ho fun h' o1 k=>hk h' (o1.fr.mono fun d hd _=>hd ▸ t) (.inr ⟨b',t,h1,by simp [h2],_,k,h4,by simp [h5],fun j hj => ?_⟩) fun q=>⟨q.le,q.old.imp id ?_⟩
    · rw [Array.getElem?_setIfInBounds,List.getElem?_set]
      have:=h6 j hj
      split
      · rename_i e;subst e;rw [if_pos (by omega),if_pos (by omega)]
      · exact this
    · rintro ⟨b0,cs0,t0,g1,g2,g3,g4,g5,g6⟩
      by_cases e:b0=b'
      · subst e
        have:cs0=cs:=by have:=g3.symm.trans h3;simpa using this
        subst this
        refine ⟨b0,_,t0,g1,g2,k,g4,by simp [g5],fun i hi => ?_⟩
        have:=q.le
        rw [Array.getElem?_setIfInBounds,if_neg (by omega),g6 i hi]
      · exact ⟨b0,cs0,t0,g1,g2,o1.blk g3 e,g4,g5,g6⟩
/-- the older head again, its last cell set as it was -/
theorem Old.back {a:Addr} {x:Value} {K:HP} (o:Old T h s s0 l0 el) (hn:0 < s0.n) (hx:l0[s0.n - 1]? = some x) (ha:∃b,s0.a=some ⟨b,0,none⟩∧a=⟨b,s0.n - 1,none⟩) (ho:one x=true)
    (hk:∀h',Tn T h h'→Os T h' s0 l0 el→K h'):St h a x K:=by
  rcases o.old with ⟨rfl,rfl⟩ | ⟨b,cs,t,h1,h2,h3,h4,h5,h6⟩
  · simp [Sl.nil] at hn
  · obtain ⟨b',hb',rfl⟩:=ha
    have e:b'=b:=by have:=hb'.symm.trans h1;simpa using this
    subst e
    refine St_i h3 (by omega) ho fun h' o1 k=>hk h' (o1.fr.mono fun d hd _=>hd ▸ t) (.inr ⟨b',t,h1,h2,_,k,h4,by simp [h5],fun j hj => ?_⟩)
    rw [Array.getElem?_setIfInBounds]
    split
    · rename_i e;subst e;rw [if_pos (by omega),hx]
    · exact h6 j (by omega)
/-- an older head of nothing -/
theorem Old.back0 (o:Old T h s s0 l0 el) (hn:¬0 < s0.n):Os T h s0 l0 el:=by
  rcases o.old with q | ⟨b,cs,t,h1,h2,h3,h4,h5,h6⟩
  · exact .inl q
  · exact .inr ⟨b,t,h1,h2,cs,h3,h4,h5,fun i hi=>by omega⟩
end
end Go.Proofs.YtlbbdbdjiekkaaaGreatDoor
set_option maxRecDepth 100000
set_option maxHeartbeats 200000
/- Arrays in the making: plain. -/
namespace Go.Proofs.YtlbbdbdjiekkaaaGreatDoor
open Go Go.Sh Go.WideShapes
/-! ### fields: what lets a null, the zero value, what fits -/
def letsK (k:Int) (nul:Bool) (L:List Bool):Bool:=if k=20∧L.length=1 then L.getD 0 false else nul && decide (k≠18)
mutual
def Fld.lets:Fld→Bool
  | .mk _ nul k _ _ _ cs=>letsK k nul (letsL cs)
def letsL:List Fld→List Bool
  | []=>[]
  | f::fs=>f.lets::letsL fs
end
def wzK (k w:Int) (l:Bool) (W:List Nat):Nat :=
  if l then 16 else min 4194305 (if k=14 then 16+w.toNat else if k=16 then 16+w.toNat*W.getD 0 0 else if k=17 then 16+W.sum else if k=18 then 16+W.getD 0 0 else if k=19∨k=20 then W.getD 0 0 else 16)
mutual
def Fld.wz:Fld→Nat
  | .mk _ nul k w _ _ cs=>wzK k w (letsK k nul (letsL cs)) (wzs cs)
def wzs:List Fld→List Nat
  | []=>[]
  | f::fs=>f.wz::wzs fs
end
def zvK (k w:Int) (l:Bool) (Z:List Val):Val :=
  if l then v0 else if k=14 then .mk false 0 (List.replicate w.toNat 0) [] else if k=16 then .mk false 0 [] (List.replicate w.toNat (Z.getD 0 v0)) else if k=17 then .mk false 0 [] Z
  else if k=18 then .mk false 0 [] [Z.getD 0 v0] else if k=19∨k=20 then Z.getD 0 v0 else .mk false 0 [] []
mutual
def Fld.zv:Fld→Val
  | .mk _ nul k w _ _ cs=>zvK k w (letsK k nul (letsL cs)) (zvs cs)
def zvs:List Fld→List Val
  | []=>[]
  | f::fs=>f.zv::zvs fs
end
def vEmpty:Val:=.mk false 0 [] []
/-- the zero value as a maker has it -/
def Fld.nought (f:Fld):Val:=if f.wz≤4194304 then f.zv else vEmpty
def Fld.small (f:Fld):Bool:=decide (f.wz≤4194304)
def rangeK (k n:Int):Bool :=
  if k=6∨k=10∨k=11 then decide (-9223372036854775808≤n) && decide (n≤9223372036854775807) else if 3≤k∧k≤5 then decide (-(2 ^ (8*(widK k).toNat - 1))≤n) && decide (n < 2 ^ (8*(widK k).toNat - 1)) else decide (0≤n) && decide (n < 2 ^ (8*(widK k).toNat))
def allZ:List (Val→Bool)→List Val→Bool
  | F::Fs,v::vs=>F v && allZ Fs vs
  | [],[]=>true
  | _,_=>false
def noF:Val→Bool:=fun _=>false
def fitK (k w:Int) (l:Bool) (F:List (Val→Bool)) (v:Val):Bool :=
  decide (v.items.length≤4096) &&
  (if v.nul then decide (v.num=0) && decide (v.text.length=0) && decide (v.items.length=0) && l
  else if k=19∨k=20 then F.getD 0 noF v
  else if k=18 then decide (v.text.length=0) && (decide (0≤v.num) && (decide (v.num < F.length) && (decide (v.items.length=1) && F.getD v.num.toNat noF (v.items.getD 0 v0))))
  else if k=15 then decide (v.num=0) && (decide (v.text.length=0) && v.items.all (F.getD 0 noF))
  else if k=16 then decide (v.num=0) && (decide (v.text.length=0) && (decide (v.items.length=w.toNat) && v.items.all (F.getD 0 noF)))
  else if k=17 then decide (v.num=0) && (decide (v.text.length=0) && allZ F v.items)
  else if k=12∨k=13∨k=14 then decide (v.num=0) && (decide (v.items.length=0) && ((decide (k≠12) || utf v.text) && (decide (k≠14) || decide (v.text.length=w.toNat))))
  else decide (v.text.length=0) && (decide (v.items.length=0) && (if k=2 then decide (v.num=0∨v.num=1) else decide (3≤k∧k≤11) && rangeK k v.num)))
mutual
def Fld.fit:Fld→Val→Bool
  | .mk _ nul k w _ _ cs=>fitK k w (letsK k nul (letsL cs)) (fits cs)
def fits:List Fld→List (Val→Bool)
  | []=>[]
  | f::fs=>f.fit::fits fs
end
/-! ### the array in the making -/
structure Rb where
  rows:Nat
  nulls:Nat
  bits:List UInt8
  heavy:Nat
  nums:List Nat
  texts:List (List UInt8)
  ends:List Nat
  all:List UInt8
  vals:List Val
inductive Raw
  | mk (b:Rb) (kids:List Raw)
def Raw.b:Raw→Rb | .mk b _=>b
def Raw.kids:Raw→List Raw | .mk _ k=>k
def rb0:Rb:=⟨0,0,[],0,[],[],[],[],[]⟩
def r0:Raw:=.mk rb0 []
def Raw.kid (r:Raw) (i:Nat):Raw:=r.kids.getD i r0
def Raw.setKid (r:Raw) (i:Nat) (c:Raw):Raw:=.mk r.b (r.kids.set i c)
def Raw.up (r:Raw) (g:Rb→Rb):Raw:=.mk (g r.b) r.kids
def setBit (l:List UInt8) (i:Nat):List UInt8:=l.set (i / 8) (UInt8.ofNat ((l.getD (i / 8) 0).toNat ||| 2 ^ (i % 8)))
def Rb.row (nul:Bool) (b:Rb):Rb :=
  { b with rows:=b.rows+1,nulls:=if nul then b.nulls+1 else b.nulls,bits:=if nul then (if b.rows % 8=0 then b.bits++[0] else b.bits) else setBit (if b.rows % 8=0 then b.bits++[0] else b.bits) b.rows }
def thenR (x:Int × Raw) (g:Raw→Int × Raw):Int × Raw:=if x.1=0 then g x.2 else x
def rowR (nul:Bool) (r:Raw):Int × Raw:=if 4096≤r.b.rows then (3,r) else (0,r.up (Rb.row nul))
def weighR (n:Nat) (r:Raw):Int × Raw:=(if 4194304 < r.b.heavy+n then 3 else 0,r.up fun b=>{ b with heavy:=b.heavy+n })
def kidR (i:Nat) (g:Raw→Int × Raw) (r:Raw):Int × Raw:=((g (r.kid i)).1,r.setKid i (g (r.kid i)).2)
def seqR:List (Raw→Int × Raw)→Raw→Int × Raw
  | [],r=>(0,r)
  | g::gs,r=>thenR (g r) (seqR gs)
abbrev TkF:=Raw→Val→Int × Raw
abbrev ZkF:=Raw→Int × Raw
def tk0:TkF:=fun r _=>(0,r)
def zk0:ZkF:=fun r=>(0,r)
def heavyAt (r:Raw) (i:Nat):Nat:=(r.kid i).b.heavy
def total (r:Raw):Nat:=(r.kids.map fun c=>c.b.heavy).sum
def numsK (ix:Int):Nat:=if ix=3 then 128 else if ix=7 then 256 else 4097
open Classical in
noncomputable def posV (v:Val):List Val→Option Nat
  | []=>none
  | x::xs=>if x=v then some 0 else (posV v xs).map (·+1)
/-- a child's row, and what it weighs -/
def layR (code:Nat) (g:Raw→Int × Raw) (r:Raw):Int × Raw :=
  thenR (rowR false r) fun r1=>thenR (kidR code g (r1.up fun b=>{ b with all:=b.all++[UInt8.ofNat code],ends:=b.ends++[(r1.kid code).b.rows] })) fun r2=>weighR (16+(heavyAt r2 code - heavyAt r1 code)) r2
open Classical in
noncomputable def takeK (k w ix:Int) (T:List TkF) (Z:List ZkF) (r:Raw) (v:Val):Int × Raw :=
  if k=1 then thenR (rowR true r) (weighR 16)
  else if k=12∨k=13 then thenR (rowR v.nul r) fun r1=>if 65536 < r1.b.all.length+v.text.length then (4,r1) else weighR (16+v.text.length) (r1.up fun b=>{ b with all:=b.all++v.text,ends:=b.ends++[b.all.length+v.text.length] })
  else if k=15 then thenR (rowR v.nul r) fun r1=>thenR (seqR (v.items.map fun x=>kidR 0 fun c=>(T.getD 0 tk0) c x) r1) fun r2=>weighR (16+(heavyAt r2 0 - heavyAt r1 0)) (r2.up fun b=>{ b with ends:=b.ends++[(r2.kid 0).b.rows] })
  else if k=16 then thenR (rowR v.nul r) fun r1=>thenR (seqR (if v.nul then List.replicate w.toNat (kidR 0 (Z.getD 0 zk0)) else v.items.map fun x=>kidR 0 fun c=>(T.getD 0 tk0) c x) r1) fun r2=>weighR (if v.nul then 16 else 16+(heavyAt r2 0 - heavyAt r1 0)) r2
  else if k=17 then thenR (rowR v.nul r) fun r1=>thenR (seqR ((List.range T.length).map fun i=>kidR i (if v.nul then Z.getD i zk0 else fun c=>(T.getD i tk0) c (v.items.getD i v0))) r1) fun r2=>weighR (if v.nul then 16 else 16+(total r2 - total r1)) r2
  else if k=18 then layR v.num.toNat (fun c=>(T.getD v.num.toNat tk0) c (v.items.getD 0 v0)) r
  else if k=19 then thenR (rowR v.nul r) fun r1 =>
    if v.nul then weighR 16 (r1.up fun b=>{ b with ends:=b.ends++[0] })
    else match posV v r1.b.vals with
      | some i=>weighR v.wgt (r1.up fun b=>{ b with ends:=b.ends++[i] })
      | none=>if numsK ix≤r1.b.vals.length then (102,r1) else thenR (kidR 0 (fun c=>(T.getD 0 tk0) c v) r1) fun r2=>weighR v.wgt (r2.up fun b=>{ b with vals:=b.vals++[v],ends:=b.ends++[b.vals.length] })
  else if k=20 then thenR (rowR false r) fun r1 =>
    if r1.b.vals.getLast? = some v then weighR v.wgt (r1.up fun b=>{ b with ends:=b.ends.dropLast++[b.rows] })
    else thenR (kidR 0 (fun c=>(T.getD 0 tk0) c v) r1) fun r2=>weighR v.wgt (r2.up fun b=>{ b with ends:=b.ends++[b.rows],vals:=b.vals++[v] })
  else thenR (rowR v.nul r) fun r1=>weighR (16+v.text.length) (r1.up fun b=>{ b with nums:=b.nums++[(v.num % 2 ^ 64).toNat],texts:=b.texts++[v.text] })
noncomputable def zeroK (small:Bool) (k w ix:Int) (tk:Raw→Int × Raw) (Z:List ZkF) (r:Raw):Int × Raw :=
  if small∨¬(16≤k∧k≤20) then tk r
  else if k=16 then thenR (rowR false r) fun r1=>thenR (seqR (List.replicate w.toNat (kidR 0 (Z.getD 0 zk0))) r1) fun r2=>weighR (16+(heavyAt r2 0 - heavyAt r1 0)) r2
  else if k=17 then thenR (rowR false r) fun r1=>thenR (seqR ((List.range Z.length).map fun i=>kidR i (Z.getD i zk0)) r1) fun r2=>weighR (16+(total r2 - total r1)) r2
  else if k=18 then layR 0 (Z.getD 0 zk0) r
  else if k=19 then thenR (rowR false r) fun r1=>if numsK ix≤r1.b.vals.length then (102,r1) else thenR (kidR 0 (Z.getD 0 zk0) r1) fun r2=>(3,r2)
  else thenR (rowR false r) fun r1=>thenR (kidR 0 (Z.getD 0 zk0) r1) fun r2=>(3,r2)
mutual
noncomputable def Fld.tk:Fld→TkF
  | .mk _ _ k w _ ix cs=>takeK k w ix (tks cs) (zks cs)
noncomputable def tks:List Fld→List TkF
  | []=>[]
  | f::fs=>f.tk::tks fs
noncomputable def Fld.zk:Fld→ZkF
  | .mk nm nul k w id ix cs=>zeroK (Fld.small (.mk nm nul k w id ix cs)) k w ix (fun r=>takeK k w ix (tks cs) (zks cs) r (Fld.nought (.mk nm nul k w id ix cs))) (zks cs)
noncomputable def zks:List Fld→List ZkF
  | []=>[]
  | f::fs=>f.zk::zks fs
end
/-! ### the array made -/
def leB (x n:Nat):List UInt8:=(List.range n).map fun i=>UInt8.ofNat (x / 2 ^ (8*i))
def laidB (l:List Nat) (n:Nat):List UInt8:=l.flatMap fun x=>leB x n
def validB (b:Rb):List UInt8:=if b.nulls=0 then [] else b.bits
def boolB (l:List Nat):List UInt8:=l.zipIdx.foldl (fun b x=>if x.1 % 2=1 then setBit b x.2 else b) (List.replicate ((l.length+7) / 8) 0)
def fixB (w:Nat) (l:List (List UInt8)):List UInt8:=l.flatMap fun t=>if t=[] then List.replicate w 0 else t
def wB (k:Int):Nat:=if k=3∨k=7 then 1 else if k=4∨k=8 then 2 else if k=5∨k=9 then 4 else 8
def doneK (k w ix:Int) (D:List (Raw→Dat)) (r:Raw):Dat :=
  if k=1 then .mk r.b.rows 0 r.b.nulls [] [] []
  else if k=12∨k=13 then .mk r.b.rows 0 r.b.nulls [validB r.b,laidB r.b.ends 4,r.b.all] [] []
  else if k=15 then .mk r.b.rows 0 r.b.nulls [validB r.b,laidB r.b.ends 4] ((List.range D.length).map fun i=>(D.getD i fun _=>dat0) (r.kid i)) []
  else if k=16∨k=17 then .mk r.b.rows 0 r.b.nulls [validB r.b] ((List.range D.length).map fun i=>(D.getD i fun _=>dat0) (r.kid i)) []
  else if k=18 then .mk r.b.rows 0 r.b.nulls [r.b.all,laidB r.b.ends 4] ((List.range D.length).map fun i=>(D.getD i fun _=>dat0) (r.kid i)) []
  else if k=19 then .mk r.b.rows 0 r.b.nulls [validB r.b,laidB r.b.ends (wB ix)] [] ((List.range D.length).map fun i=>(D.getD i fun _=>dat0) (r.kid i))
  else if k=20 then .mk r.b.rows 0 0 [] (.mk r.b.ends.length 0 0 [[],laidB r.b.ends 4] [] []::(List.range D.length).map fun i=>(D.getD i fun _=>dat0) (r.kid i)) []
  else if k=2 then .mk r.b.rows 0 r.b.nulls [validB r.b,boolB r.b.nums] [] []
  else if k=14 then .mk r.b.rows 0 r.b.nulls [validB r.b,fixB w.toNat r.b.texts] [] []
  else .mk r.b.rows 0 r.b.nulls [validB r.b,laidB r.b.nums (wB k)] [] []
mutual
def Fld.dn:Fld→Raw→Dat
  | .mk _ _ k w _ ix cs=>doneK k w ix (dns cs)
def dns:List Fld→List (Raw→Dat)
  | []=>[]
  | f::fs=>f.dn::dns fs
end
mutual
/-- one without rows -/
def Fld.begun:Fld→Raw
  | .mk _ _ k _ _ _ cs=>.mk { rb0 with ends:=if k=12∨k=13∨k=15 then [0] else [] } (beguns cs)
def beguns:List Fld→List Raw
  | []=>[]
  | f::fs=>f.begun::beguns fs
end
end Go.Proofs.YtlbbdbdjiekkaaaGreatDoor
set_option maxRecDepth 100000
set_option maxHeartbeats 200000
/- Bits and numbers laid: plain. -/
namespace Go.Proofs.YtlbbdbdjiekkaaaGreatDoor
open Go Go.Sh Go.WideShapes
theorem or_bit_lt {x i:Nat} (hx:x < 256) (hi:i < 8):x ||| 2 ^ i < 256 :=
  Nat.or_lt_two_pow (n:=8) hx (Nat.pow_lt_pow_right (by decide) hi)
theorem setBit_len (l:List UInt8) (i:Nat):(setBit l i).length=l.length:=by simp [setBit]
theorem bitL_tb (l:List UInt8) (r:Nat):bitL l r=(l.getD (r / 8) 0).toNat.testBit (r % 8):=by
  unfold bitL
  rw [Nat.testBit_eq_decide_div_mod_eq]
  cases h:decide ((l.getD (r / 8) 0).toNat / 2 ^ (r % 8) % 2=1) <;> simp_all
theorem setBit_bit {l:List UInt8} {i:Nat} (h:i / 8 < l.length) (j:Nat):bitL (setBit l i) j=(decide (j=i) || bitL l j):=by
  rw [bitL_tb,bitL_tb]
  unfold setBit
  have hb:=(l.getD (i / 8) 0).toNat_lt
  by_cases e:j / 8=i / 8
  · have e1:(l.set (i / 8) (UInt8.ofNat ((l.getD (i / 8) 0).toNat ||| 2 ^ (i % 8)))).getD (j / 8) 0=UInt8.ofNat ((l.getD (i / 8) 0).toNat ||| 2 ^ (i % 8)):=by
      rw [List.getD_eq_getElem?_getD,e,List.getElem?_set_self h];rfl
    rw [e1,UInt8.toNat_ofNat',Nat.mod_eq_of_lt (or_bit_lt hb (Nat.mod_lt _ (by decide))),Nat.testBit_or,e,Nat.testBit_two_pow]
    have:(i % 8=j % 8)↔(j=i):=by omega
    simp only [this]
    rw [Bool.or_comm]
  · have e1:(l.set (i / 8) (UInt8.ofNat ((l.getD (i / 8) 0).toNat ||| 2 ^ (i % 8)))).getD (j / 8) 0=l.getD (j / 8) 0:=by
      rw [List.getD_eq_getElem?_getD,List.getElem?_set_ne (by omega),←List.getD_eq_getElem?_getD]
    rw [e1]
    have:¬j=i:=by intro q;subst q;exact e rfl
    simp [this]
theorem bitL_app (l m:List UInt8) {j:Nat} (h:j / 8 < l.length):bitL (l++m) j=bitL l j:=by
  unfold bitL;rw [List.getD_eq_getElem?_getD,List.getElem?_append_left h,←List.getD_eq_getElem?_getD]
theorem bitL_zero (l:List UInt8) {j:Nat} (h:l.length≤j / 8):bitL (l++[0]) j=false:=by
  unfold bitL
  have:(l++[0]).getD (j / 8) 0=0:=by
    rw [List.getD_eq_getElem?_getD,List.getElem?_append_right h]
    rcases hk:j / 8 - l.length with _ | k <;> simp [hk]
  rw [this];simp
/-- bits, one by one -/
def packS (n:Nat) (x:Bool) (b:List UInt8):List UInt8:=if x then setBit (if n % 8=0 then b++[0] else b) n else (if n % 8=0 then b++[0] else b)
def packR:List Bool→List UInt8
  | []=>[]
  | x::xs=>packS xs.length x (packR xs)
def packB (l:List Bool):List UInt8:=packR l.reverse
theorem packB_snoc (l:List Bool) (x:Bool):packB (l++[x])=packS l.length x (packB l):=by simp [packB,packR]
theorem packR_len:∀l:List Bool,(packR l).length=(l.length+7) / 8
  | []=>rfl
  | x::xs=>by
    have ih:=packR_len xs
    unfold packR packS
    split <;> split <;> simp only [setBit_len,List.length_append,List.length_cons,List.length_nil,ih] <;> omega
theorem packB_len (l:List Bool):(packB l).length=(l.length+7) / 8:=by rw [packB,packR_len,List.length_reverse]
theorem packR_bit:∀(l:List Bool) (i:Nat),bitL (packR l) i=(decide (i < l.length) && l.getD (l.length - 1 - i) false)
  | [],i=>by simp [packR,bitL]
  | x :: xs,i=>by
    have ih:=packR_bit xs i
    have hl:=packR_len xs
    have base:bitL (if xs.length % 8=0 then packR xs++[0] else packR xs) i=bitL (packR xs) i:=by
      split
      · by_cases h:i / 8 < (packR xs).length
        · exact bitL_app _ _ h
        · rw [bitL_zero _ (by omega),ih]
          have:¬i < xs.length:=by omega
          simp [this]
      · rfl
    have hin:xs.length / 8 < (if xs.length % 8=0 then packR xs++[0] else packR xs).length:=by
      split <;> simp only [List.length_append,List.length_cons,List.length_nil,hl] <;> omega
    have key:bitL (packR (x::xs)) i=((decide (i=xs.length) && x) || bitL (packR xs) i):=by
      rw [show packR (x::xs)=packS xs.length x (packR xs) from rfl]
      unfold packS
      cases x
      · simp only [Bool.false_eq_true,if_false,base,Bool.and_false,Bool.false_or]
      · simp only [if_true,setBit_bit hin,base,Bool.and_true]
    rw [key,ih]
    simp only [List.length_cons]
    by_cases h1:i=xs.length
    · subst h1;simp
    · by_cases h2:i < xs.length
      · have e:xs.length - i=(xs.length - 1 - i)+1:=by omega
        have h3:i < xs.length+1:=by omega
        simp [h1,h2,h3,e]
      · have h3:¬i < xs.length+1:=by omega
        simp [h1,h2,h3]
theorem packB_bit (l:List Bool) (i:Nat):bitL (packB l) i=l.getD i false:=by
  rw [packB,packR_bit,List.length_reverse]
  by_cases h:i < l.length
  · rw [List.getD_eq_getElem?_getD,List.getElem?_reverse (by omega)]
    have:l.length - 1 - (l.length - 1 - i)=i:=by omega
    simp [h,this,List.getD_eq_getElem?_getD]
  · simp [h,List.getD_eq_getElem?_getD,List.getElem?_eq_none (Nat.le_of_not_lt h)]
theorem Rb.row_bits (nul:Bool) (b:Rb):(b.row nul).bits=packS b.rows (!nul) b.bits:=by
  unfold Rb.row packS;cases nul <;> rfl
/-! ### numbers laid -/
theorem leB_len (x n:Nat):(leB x n).length=n:=by simp [leB]
theorem leB_succ (x n:Nat):leB x (n+1)=leB x n++[UInt8.ofNat (x / 2 ^ (8*n))]:=by simp [leB,List.range_succ]
theorem leN_leB (x:Nat):∀n,leN (leB x n)=x % 2 ^ (8*n)
  | 0=>by simp [leB,leN,Nat.mod_one]
  | n+1=>by
    rw [leB_succ,leN_snoc,leB_len,leN_leB x n,UInt8.toNat_ofNat',show 8*(n+1)=8*n+8 by omega,Nat.pow_add,Nat.mod_mul,Nat.mul_comm (2 ^ (8*n)) (_ % _)]
theorem laidB_len (l:List Nat) (n:Nat):(laidB l n).length=l.length*n:=by
  unfold laidB
  rw [List.length_flatMap]
  simp only [leB_len,List.map_const',List.sum_replicate_nat]
theorem laidB_cons (x:Nat) (l:List Nat) (n:Nat):laidB (x::l) n=leB x n++laidB l n:=by simp [laidB]
theorem laidB_at {n:Nat}:∀{l:List Nat} {i x:Nat},l[i]? = some x→((laidB l n).drop (i*n)).take n=leB x n
  | [],i,x,h=>by simp at h
  | y::l,0,x,h=>by
    simp only [List.getElem?_cons_zero,Option.some.injEq] at h
    subst h
    rw [laidB_cons,Nat.zero_mul,List.drop_zero,List.take_append_of_le_length (by rw [leB_len];omega),List.take_of_length_le (by rw [leB_len];omega)]
  | y::l,i+1,x,h=>by
    simp only [List.getElem?_cons_succ] at h
    rw [laidB_cons,Nat.succ_mul,Nat.add_comm,←List.drop_drop,List.drop_left' (leB_len y n)]
    exact laidB_at h
theorem laidB_nAt {l:List Nat} {n i x:Nat} (h:l[i]? = some x):nAt (laidB l n) (i*n) n=x % 2 ^ (8*n):=by
  unfold nAt;rw [laidB_at h,leN_leB]
theorem laidB_i32 {l:List Nat} {i x:Nat} (h:l[i]? = some x) (hx:x < 2 ^ 31):i32 (laidB l 4) i=x:=by
  unfold i32
  rw [Nat.mul_comm,laidB_nAt h,Nat.mod_eq_of_lt (by omega)]
  unfold sg;rw [if_pos (by omega)]
/-! ### bits of numbers, texts of one width -/
theorem boolB_len (l:List Nat):(boolB l).length=(l.length+7) / 8:=by
  unfold boolB
  have:∀(m:List (Nat × Nat)) (b:List UInt8),(m.foldl (fun b x=>if x.1 % 2=1 then setBit b x.2 else b) b).length=b.length:=by
    intro m
    induction m with
    | nil=>intro b;rfl
    | cons x m ih=>intro b;rw [List.foldl_cons,ih];split <;> simp [setBit_len]
  rw [this,List.length_replicate]
theorem boolB_fold (l:List Nat):∀(k:Nat) (b:List UInt8),(∀j,k≤j→j < k+l.length→j / 8 < b.length)→∀i,bitL ((l.zipIdx k).foldl (fun b x=>if x.1 % 2=1 then setBit b x.2 else b) b) i=(bitL b i || decide (k≤i∧l.getD (i - k) 0 % 2=1)):=by
  induction l with
  | nil=>intro k b _ i;simp
  | cons x l ih =>
    intro k b hb i
    rw [List.zipIdx_cons,List.foldl_cons]
    have hk:=hb k (Nat.le_refl _) (by simp)
    have hb':∀j,k+1≤j→j < k+1+l.length→j / 8 < (if x % 2=1 then setBit b k else b).length:=by
      intro j h1 h2
      have:=hb j (by omega) (by simp only [List.length_cons];omega)
      split <;> simpa [setBit_len] using this
    rw [ih (k+1) _ hb' i]
    have e0:bitL (if x % 2=1 then setBit b k else b) i=(bitL b i || (decide (i=k) && decide (x % 2=1))):=by
      split
      · rename_i h;rw [setBit_bit hk];simp [h,Bool.or_comm]
      · rename_i h;simp [h]
    rw [e0,Bool.or_assoc]
    congr 1
    by_cases h1:i=k
    · subst h1
      have h4:¬i+1≤i:=by omega
      simp [h4]
    · by_cases h2:k≤i
      · have e:i - k=(i - (k+1))+1:=by omega
        have h3:k+1≤i:=by omega
        simp [h1,h2,h3,e]
      · have h3:¬k+1≤i:=by omega
        simp [h1,h2,h3]
theorem boolB_bit (l:List Nat) (i:Nat):bitL (boolB l) i=decide (l.getD i 0 % 2=1):=by
  unfold boolB
  rw [boolB_fold l 0 _ (fun j _ h=>by rw [List.length_replicate];omega) i]
  have:bitL (List.replicate ((l.length+7) / 8) (0:UInt8)) i=false:=by
    unfold bitL
    have:(List.replicate ((l.length+7) / 8) (0:UInt8)).getD (i / 8) 0=0:=by
      rw [List.getD_eq_getElem?_getD,List.getElem?_replicate];split <;> rfl
    rw [this];simp
  rw [this];simp
theorem fixB_cons (w:Nat) (t:List UInt8) (l:List (List UInt8)):fixB w (t::l)=(if t=[] then List.replicate w 0 else t)++fixB w l:=by simp [fixB]
theorem fixB_len {w:Nat}:∀{l:List (List UInt8)},(∀t∈l,t=[]∨t.length=w)→(fixB w l).length=l.length*w
  | [],_=>by simp [fixB]
  | t :: l,h=>by
    have ih:=fixB_len (l:=l) fun x hx=>h x (by simp [hx])
    have ht:(if t=[] then List.replicate w (0:UInt8) else t).length=w:=by
      rcases h t (by simp) with q | q
      · simp [q]
      · split <;> simp_all
    rw [fixB_cons,List.length_append,ht,ih,List.length_cons,Nat.succ_mul,Nat.add_comm]
theorem fixB_at {w:Nat}:∀{l:List (List UInt8)} {i:Nat} {t:List UInt8},(∀t∈l,t=[]∨t.length=w)→l[i]? = some t→t.length=w→((fixB w l).drop (i*w)).take w=t
  | [],i,t,_,h,_=>by simp at h
  | u :: l,i,t,hh,h,ht=>by
    have hu:(if u=[] then List.replicate w (0:UInt8) else u).length=w:=by
      rcases hh u (by simp) with q | q
      · simp [q]
      · split <;> simp_all
    rw [fixB_cons]
    cases i with
    | zero =>
      simp only [List.getElem?_cons_zero,Option.some.injEq] at h
      subst h
      rw [Nat.zero_mul,List.drop_zero,List.take_append_of_le_length (by omega),List.take_of_length_le (by omega)]
      split
      · rename_i q;subst q;simp at ht;subst ht;rfl
      · rfl
    | succ i =>
      simp only [List.getElem?_cons_succ] at h
      rw [Nat.succ_mul,Nat.add_comm,←List.drop_drop,List.drop_left' hu]
      exact fixB_at (fun x hx=>hh x (by simp [hx])) h ht
end Go.Proofs.YtlbbdbdjiekkaaaGreatDoor
set_option maxRecDepth 100000
set_option maxHeartbeats 200000
/- What is right of a field is right of its children: plain. -/
namespace Go.Proofs.YtlbbdbdjiekkaaaGreatDoor
open Go Go.Sh Go.WideShapes
theorem idsOf_map:∀{a b:List Pl} {ids ids':List Int},a.map Pl.f=b.map Pl.f→(∀x∈ids',x∈ids)→∀x∈idsOf ids' b,x∈idsOf ids a
  | [],[],ids,ids',_,hi=>hi
  | [],_::_,_,_,h,_=>by simp at h
  | _::_,[],_,_,h,_=>by simp at h
  | x :: a,y::b,ids,ids',h,hi=>by
    simp only [List.map_cons,List.cons.injEq] at h
    unfold idsOf
    refine idsOf_map h.2 fun z hz => ?_
    rw [←h.1] at hz
    unfold nextIds at hz ⊢
    split
    · rename_i e
      rw [if_pos e] at hz
      rcases List.mem_append.1 hz with q | q
      · exact List.mem_append_left _ (hi z q)
      · exact List.mem_append_right _ q
    · rename_i e
      rw [if_neg e] at hz
      exact hi z hz
structure Les (d d':Nat) (ins ins':Bool):Prop where
  d:d'≤d
  i:ins'=true→ins=true
abbrev PlM (f:Fld):Prop:=∀{d d':Nat} {ins ins':Bool} {n n':Nat} {ids ids':List Int},Les d d' ins ins'→n'≤n→(∀x∈ids',x∈ids)→AllR n ids (f.places d [] ins) →
  AllR n' ids' (f.places d' [] ins')∧(f.places d [] ins).map Pl.f=(f.places d' [] ins').map Pl.f
theorem placesU_mono {cs:List Fld} (IH:∀f∈cs,PlM f) {d d':Nat} {ins ins':Bool} (l:Les d d' ins ins'):∀{n n':Nat} {ids ids':List Int},n'≤n→(∀x∈ids',x∈ids)→AllR n ids (placesU d ins cs) →
    AllR n' ids' (placesU d' ins' cs)∧(placesU d ins cs).map Pl.f=(placesU d' ins' cs).map Pl.f:=by
  induction cs with
  | nil=>intro n n' ids ids' _ _ _;simp [placesU,AllR]
  | cons f fs ih =>
    intro n n' ids ids' hn hi h
    simp only [placesU,AllR_append] at h ⊢
    obtain ⟨h1,e1⟩:=IH f (by simp) l hn hi h.1
    have el:(f.places d [] ins).length=(f.places d' [] ins').length:=by simpa using congrArg List.length e1
    obtain ⟨h2,e2⟩:=ih (fun g hg=>IH g (by simp [hg])) (n:=n+(f.places d [] ins).length) (n':=n'+(f.places d' [] ins').length) (by omega) (idsOf_map e1 hi) h.2
    exact ⟨⟨h1,h2⟩,by rw [List.map_append,List.map_append,e1,e2]⟩
theorem placesL_f {fs:List Fld} {d:Nat} {ins:Bool}:∀{ahead:List Fld},(placesL d ahead ins fs).map Pl.f=(placesU d ins fs).map Pl.f:=by
  induction fs with
  | nil=>intro a;rfl
  | cons f fs ih =>
    intro a
    have:(f.places d a ins).map Pl.f=(f.places d [] ins).map Pl.f:=by cases f;unfold Fld.places;simp
    simp only [placesL,placesU,List.map_append,ih,this]
theorem places_mono:∀f:Fld,PlM f
  | .mk nm nul k w id ix cs=>by
    rename_i d d' ins ins' n n' ids ids'
    intro l hn hi h
    have IH:∀f∈cs,PlM f:=fun f _=>places_mono f
    have hd:d≤64:=by unfold Fld.places at h;exact h.1.1
    have hd':d'≤64:=Nat.le_trans l.d hd
    rw [places_cons hd] at h ⊢
    rw [places_cons hd']
    obtain ⟨a1,a2,a3,a4,a5,a6,a7,a8⟩:=h.1
    obtain ⟨b1,b2⟩:=AllR_0.1 h.2
    have l2:Les (d+1) (d'+1) (ins || k == 19) (ins' || k == 19):=⟨by have:=l.d;omega,fun q=>by
      rcases (Bool.or_eq_true _ _).mp q with q | q
      · rw [l.i q];rfl
      · rw [q];simp⟩
    have hi2:∀x∈nextIds ids' (.mk nm nul k w id ix cs),x∈nextIds ids (.mk nm nul k w id ix cs):=by
      intro x hx
      unfold nextIds at hx ⊢
      split
      · rename_i e;rw [if_pos e] at hx
        rcases List.mem_append.1 hx with q | q
        · exact List.mem_append_left _ (hi x q)
        · exact List.mem_append_right _ q
      · rename_i e;rw [if_neg e] at hx;exact hi x hx
    obtain ⟨c1,c2⟩:=placesU_mono IH l2 (n:=n+1) (n':=n'+1) (by omega) hi2 b2
    refine ⟨⟨⟨hd',by omega,a3,a4,a5,a6,?_,fun e=>⟨(a8 e).1,fun q=>(a8 e).2 (hi _ q)⟩⟩,AllR_0.2 ⟨b1,c1⟩⟩,?_⟩
    · rintro ⟨q1,q2⟩;exact a7 ⟨l.i q1,q2⟩
    · simp only [List.map_cons,placesL_f,c2]
theorem FldOk.places {f:Fld} (h:FldOk f):AllR 0 [] (f.places 1 [] false):=by
  have:=h.2.2.2.2
  simpa only [placesU,List.append_nil] using this
theorem FldOk.of_places {f:Fld} (h:AllR 0 [] (f.places 1 [] false)):FldOk f:=by
  refine ⟨by simp,by simp,fun j m hm=>by simp at hm,?_,by simpa only [placesU,List.append_nil] using h⟩
  intro i j a b hij ha hb
  have:i=0:=by
    have:=(List.getElem?_eq_some_iff.1 ha).1
    simp at this;exact this
  omega
theorem FldOk.kid {f c:Fld} (h:FldOk f) (hc:c∈f.cs):FldOk c:=by
  obtain ⟨nm,nul,k,w,id,ix,cs⟩:=f
  have h1:=h.places
  rw [places_cons (by omega)] at h1
  obtain ⟨n,ids,h2⟩:=placesU_AllR (AllR_0.1 h1.2).2 c hc
  exact FldOk.of_places (places_mono c (d:=2) (d':=1) ⟨by omega,fun q=>by cases q⟩ (Nat.zero_le _) (fun x hx=>by simp at hx) h2).1
theorem FldOk.right {f:Fld} (h:FldOk f):Shaped f.k f.w f.id f.ix f.cs.length∧Nulls f.k f.nul f.cs∧(f.k=19→∃c,f.cs[0]? = some c∧c.nul=false):=by
  obtain ⟨nm,nul,k,w,id,ix,cs⟩:=f
  have h1:=h.places
  rw [places_cons (by omega)] at h1
  exact ⟨h1.1.2.2.2.2.1,h1.1.2.2.2.2.2.1,fun e=>(h1.1.2.2.2.2.2.2.2 e).1⟩
theorem nameA:NameOk (bs [97]):=by
  refine ⟨by decide,by decide,fun j b h => ?_⟩
  rcases j with _ | j
  · have h':some (97:UInt8)=some b:=h
    cases h'
    exact .inl (.inl (by decide))
  · rw [getElem?_neg _ _ (by show ¬j+1 < 1;omega)] at h;cases h
theorem FldOk.ty {f:Fld} (h:FldOk f):TyOk f.k f.w f.id f.ix f.cs:=by
  obtain ⟨nm,nul,k,w,id,ix,cs⟩:=f
  have h1:=h.places
  refine FldOk.of_places ?_
  unfold hFld
  rw [places_cons (by omega)] at h1 ⊢
  obtain ⟨⟨a1,a2,a3,a4,a5,a6,a7,a8⟩,b⟩:=h1
  refine ⟨⟨a1,a2,nameA,by simp,a5,⟨fun e => ?_,fun e => ?_,fun e => ?_⟩,a7,a8⟩,b⟩
  · simp only [Fld.k] at e;subst e;simp [hnul,Fld.nul,Fld.k]
  · simp only [Fld.k] at e;subst e;simp [hnul,Fld.nul,Fld.k]
  · simp only [Fld.k] at e;subst e
    obtain ⟨c,hc,_⟩:=a6.2.2 rfl
    refine ⟨c,hc,?_⟩
    simp only [Fld.cs] at hc
    cases cs with
    | nil=>simp at hc
    | cons g gs=>simp at hc;subst hc;simp [hnul,Fld.nul,Fld.k,Fld.cs]
end Go.Proofs.YtlbbdbdjiekkaaaGreatDoor
set_option maxRecDepth 100000
set_option maxHeartbeats 200000
/- What values make of an array in the making: plain. -/
namespace Go.Proofs.YtlbbdbdjiekkaaaGreatDoor
open Go Go.Sh Go.WideShapes
/-- a row whose bit is off -/
def nulK (k:Int) (v:Val):Bool:=if k=1 then true else if k=18∨k=20 then false else v.nul
open Classical in
noncomputable def distS (l:List Val) (v:Val):List Val:=if v.nul then l else match posV v l with | some _=>l | none=>l++[v]
noncomputable def distV (vs:List Val):List Val:=vs.foldl distS []
open Classical in
noncomputable def runS (x:List Val × List Nat) (v:Val):List Val × List Nat :=
  if x.1.getLast? = some v then (x.1,x.2.dropLast++[x.2.getLastD 0+1]) else (x.1++[v],x.2++[x.2.getLastD 0+1])
noncomputable def runE (vs:List Val):List Val × List Nat:=vs.foldl runS ([],[])
theorem distV_snoc (vs:List Val) (v:Val):distV (vs++[v])=distS (distV vs) v:=by simp [distV]
theorem runE_snoc (vs:List Val) (v:Val):runE (vs++[v])=runS (runE vs) v:=by simp [runE]
def sumsL (g:Val→Nat) (vs:List Val):List Nat:=(List.range (vs.length+1)).map fun i=>((vs.take i).map g).sum
theorem take_snoc {α:Type} (vs:List α) (v:α) {i:Nat} (h:i≤vs.length):(vs++[v]).take i=vs.take i:=List.take_append_of_le_length h
theorem sumsL_snoc (g:Val→Nat) (vs:List Val) (v:Val):sumsL g (vs++[v])=sumsL g vs++[((vs++[v]).map g).sum]:=by
  unfold sumsL
  rw [List.length_append,List.length_singleton,List.range_succ (n:=vs.length+1),List.map_append]
  congr 1
  · refine List.map_congr_left fun i hi => ?_
    rw [take_snoc _ _ (by simp at hi;omega)]
  · rw [List.map_singleton,List.take_of_length_le (by simp)]
theorem sumsL_get {g:Val→Nat} {vs:List Val} {i:Nat} (h:i≤vs.length):(sumsL g vs)[i]? = some ((vs.take i).map g).sum:=by
  unfold sumsL;rw [List.getElem?_map,List.getElem?_range (by omega)];rfl
theorem sumsL_len (g:Val→Nat) (vs:List Val):(sumsL g vs).length=vs.length+1:=by simp [sumsL]
def codeN (v:Val):Nat:=v.num.toNat
/-- what lies in a child -/
noncomputable def contK (k w:Int) (N:List Val) (j:Nat) (vs:List Val):List Val :=
  if k=15 then vs.flatMap Val.items
  else if k=16 then vs.flatMap fun v=>if v.nul then List.replicate w.toNat (N.getD 0 v0) else v.items
  else if k=17 then vs.map fun v=>if v.nul then N.getD j v0 else v.items.getD j v0
  else if k=18 then (vs.filter fun v=>decide (codeN v=j)).map fun v=>v.items.getD 0 v0
  else if k=19 then distV vs
  else (runE vs).1
def plainK (k:Int):Bool:=!(k == 1 || k == 12 || k == 13 || k == 15 || k == 16 || k == 17 || k == 18 || k == 19 || k == 20)
noncomputable def rbK (k:Int) (vs:List Val):Rb where
  rows:=vs.length
  nulls:=vs.countP (nulK k)
  bits:=packB (vs.map fun v=>!nulK k v)
  heavy:=wsum vs
  nums:=if plainK k then vs.map fun v=>(v.num % 2 ^ 64).toNat else []
  texts:=if plainK k then vs.map Val.text else []
  ends:=if k=12∨k=13 then sumsL (fun v=>v.text.length) vs else if k=15 then sumsL (fun v=>v.items.length) vs
    else if k=18 then (List.range vs.length).map fun i=>((vs.take i).filter fun v=>decide (codeN v=codeN (vs.getD i v0))).length
    else if k=19 then vs.map fun v=>if v.nul then 0 else (posV v (distV vs)).getD 0 else if k=20 then (runE vs).2 else []
  all:=if k=12∨k=13 then vs.flatMap Val.text else if k=18 then vs.map fun v=>UInt8.ofNat (codeN v) else []
  vals:=if k=19 then distV vs else if k=20 then (runE vs).1 else []
abbrev StF:=List Val→Raw
def st0:StF:=fun _=>r0
noncomputable def stK (k w:Int) (N:List Val) (S:List StF) (vs:List Val):Raw:=.mk (rbK k vs) ((List.range S.length).map fun j=>(S.getD j st0) (contK k w N j vs))
def noughts:List Fld→List Val:=List.map Fld.nought
mutual
/-- the state that values make -/
noncomputable def Fld.st:Fld→StF
  | .mk _ _ k w _ _ cs=>stK k w (noughts cs) (sts cs)
noncomputable def sts:List Fld→List StF
  | []=>[]
  | f::fs=>f.st::sts fs
end
abbrev OkF:=List Val→Prop
structure OkK (k w ix:Int) (N:List Val) (F:Val→Bool) (O:List OkF) (vs:List Val):Prop where
  fit:∀v∈vs,F v=true
  n4:vs.length≤4096
  wt:wsum vs≤4194304
  tx:k=12∨k=13→(vs.flatMap Val.text).length≤65536
  ds:k=19→(distV vs).length≤numsK ix
  kid:∀(j:Nat) (o:OkF),O[j]? = some o→o (contK k w N j vs)
mutual
/-- the values can be laid -/
noncomputable def Fld.can:Fld→OkF
  | .mk nm nul k w id ix cs=>OkK k w ix (noughts cs) (Fld.fit (.mk nm nul k w id ix cs)) (cans cs)
noncomputable def cans:List Fld→List OkF
  | []=>[]
  | f::fs=>f.can::cans fs
end
theorem sts_eq:∀fs:List Fld,sts fs=fs.map Fld.st
  | []=>rfl
  | f::fs=>by simp [sts,sts_eq fs]
theorem cans_eq:∀fs:List Fld,cans fs=fs.map Fld.can
  | []=>rfl
  | f::fs=>by simp [cans,cans_eq fs]
theorem tks_eq:∀fs:List Fld,tks fs=fs.map Fld.tk
  | []=>rfl
  | f::fs=>by simp [tks,tks_eq fs]
theorem zks_eq:∀fs:List Fld,zks fs=fs.map Fld.zk
  | []=>rfl
  | f::fs=>by simp [zks,zks_eq fs]
theorem dns_eq:∀fs:List Fld,dns fs=fs.map Fld.dn
  | []=>rfl
  | f::fs=>by simp [dns,dns_eq fs]
theorem fits_eq:∀fs:List Fld,fits fs=fs.map Fld.fit
  | []=>rfl
  | f::fs=>by simp [fits,fits_eq fs]
theorem letsL_eq:∀fs:List Fld,letsL fs=fs.map Fld.lets
  | []=>rfl
  | f::fs=>by simp [letsL,letsL_eq fs]
theorem wzs_eq:∀fs:List Fld,wzs fs=fs.map Fld.wz
  | []=>rfl
  | f::fs=>by simp [wzs,wzs_eq fs]
theorem zvs_eq:∀fs:List Fld,zvs fs=fs.map Fld.zv
  | []=>rfl
  | f::fs=>by simp [zvs,zvs_eq fs]
theorem beguns_eq:∀fs:List Fld,beguns fs=fs.map Fld.begun
  | []=>rfl
  | f::fs=>by simp [beguns,beguns_eq fs]
theorem Fld.st_eq (f:Fld) (vs:List Val):f.st vs=.mk (rbK f.k vs) ((List.range f.cs.length).map fun j=>((f.cs.map Fld.st).getD j st0) (contK f.k f.w (noughts f.cs) j vs)):=by
  obtain ⟨nm,nul,k,w,id,ix,cs⟩:=f
  simp only [Fld.st,stK,sts_eq,List.length_map];rfl
theorem Fld.can_eq (f:Fld) (vs:List Val):f.can vs↔OkK f.k f.w f.ix (noughts f.cs) f.fit (f.cs.map Fld.can) vs:=by
  obtain ⟨nm,nul,k,w,id,ix,cs⟩:=f
  simp only [Fld.can,cans_eq];exact Iff.rfl
theorem Fld.tk_eq (f:Fld):f.tk=takeK f.k f.w f.ix (f.cs.map Fld.tk) (f.cs.map Fld.zk):=by
  obtain ⟨nm,nul,k,w,id,ix,cs⟩:=f
  simp only [Fld.tk,tks_eq,zks_eq];rfl
theorem Fld.zk_eq (f:Fld):f.zk=zeroK f.small f.k f.w f.ix (fun r=>f.tk r f.nought) (f.cs.map Fld.zk):=by
  obtain ⟨nm,nul,k,w,id,ix,cs⟩:=f
  simp only [Fld.zk,Fld.tk,tks_eq,zks_eq];rfl
theorem Fld.dn_eq (f:Fld):f.dn=doneK f.k f.w f.ix (f.cs.map Fld.dn):=by
  obtain ⟨nm,nul,k,w,id,ix,cs⟩:=f
  simp only [Fld.dn,dns_eq];rfl
theorem Fld.fit_eq (f:Fld):f.fit=fitK f.k f.w f.lets (f.cs.map Fld.fit):=by
  obtain ⟨nm,nul,k,w,id,ix,cs⟩:=f
  simp only [Fld.fit,Fld.lets,fits_eq];rfl
theorem Fld.lets_eq (f:Fld):f.lets=letsK f.k f.nul (f.cs.map Fld.lets):=by
  obtain ⟨nm,nul,k,w,id,ix,cs⟩:=f
  simp only [Fld.lets,letsL_eq];rfl
theorem Fld.wz_eq (f:Fld):f.wz=wzK f.k f.w f.lets (f.cs.map Fld.wz):=by
  obtain ⟨nm,nul,k,w,id,ix,cs⟩:=f
  simp only [Fld.wz,Fld.lets,wzs_eq];rfl
theorem Fld.zv_eq (f:Fld):f.zv=zvK f.k f.w f.lets (f.cs.map Fld.zv):=by
  obtain ⟨nm,nul,k,w,id,ix,cs⟩:=f
  simp only [Fld.zv,Fld.lets,zvs_eq];rfl
theorem Fld.begun_eq (f:Fld):f.begun=.mk { rb0 with ends:=if f.k=12∨f.k=13∨f.k=15 then [0] else [] } (f.cs.map Fld.begun):=by
  obtain ⟨nm,nul,k,w,id,ix,cs⟩:=f
  simp only [Fld.begun,beguns_eq];rfl
theorem Fld.st_kid {f c:Fld} {j:Nat} (hc:f.cs[j]? = some c) (vs:List Val):(f.st vs).kid j=c.st (contK f.k f.w (noughts f.cs) j vs):=by
  have hj:=(List.getElem?_eq_some_iff.1 hc).1
  rw [Fld.st_eq]
  simp only [Raw.kid,Raw.kids,List.getD_eq_getElem?_getD,List.getElem?_map,List.getElem?_range hj,hc,Option.map_some,Option.getD_some]
theorem Fld.can_kid {f c:Fld} {j:Nat} (hc:f.cs[j]? = some c) {vs:List Val} (h:f.can vs):c.can (contK f.k f.w (noughts f.cs) j vs) :=
  ((Fld.can_eq f vs).1 h).kid j c.can (by rw [List.getElem?_map,hc];rfl)
/-- one without rows is what no values make -/
theorem cont_nil (k w:Int) (N:List Val) (j:Nat):contK k w N j []=[]:=by unfold contK distV runE;split <;> (try rfl);split <;> (try rfl);split <;> (try rfl);split <;> (try rfl);split <;> rfl
theorem rbK_nil (k:Int):rbK k []={ rb0 with ends:=if k=12∨k=13∨k=15 then [0] else [] }:=by
  simp only [rbK,rb0,List.length_nil,List.countP_nil,List.map_nil,List.flatMap_nil,List.range_zero,wsum,packB,packR,List.reverse_nil,ite_self,distV,runE,List.foldl_nil,sumsL,List.take_nil,Rb.mk.injEq,true_and,and_true]
  by_cases h1:k=12∨k=13
  · have h3:k=12∨k=13∨k=15:=by omega
    simp only [h1,h3,if_true];rfl
  · by_cases h2:k=15
    · have h3:k=12∨k=13∨k=15:=by omega
      simp only [h1,h2,if_true,if_false];rfl
    · have h3:¬(k=12∨k=13∨k=15):=by omega
      rw [if_neg h3,if_neg h1,if_neg h2]
theorem st_nil:∀f:Fld,f.st []=f.begun
  | .mk nm nul k w id ix cs=>by
    have ih:∀c∈cs,c.st []=c.begun:=fun c _=>st_nil c
    rw [Fld.st_eq,Fld.begun_eq]
    congr 1
    · exact rbK_nil k
    · refine List.ext_getElem? fun j => ?_
      simp only [Fld.cs,Fld.k,Fld.w,List.getElem?_map,cont_nil]
      by_cases hj:j < cs.length
      · rw [List.getElem?_range hj,List.getElem?_eq_getElem hj]
        simp only [Option.map_some,List.getD_eq_getElem?_getD,List.getElem?_map,List.getElem?_eq_getElem hj,Option.getD_some]
        rw [ih _ (List.getElem_mem hj)]
      · rw [List.getElem?_eq_none (by simpa using hj),List.getElem?_eq_none (by simpa using hj)];rfl
end Go.Proofs.YtlbbdbdjiekkaaaGreatDoor
set_option maxRecDepth 100000
set_option maxHeartbeats 200000
/- The zero value fits, and weighs what it is said to: plain. -/
namespace Go.Proofs.YtlbbdbdjiekkaaaGreatDoor
open Go Go.Sh Go.WideShapes
theorem FldOk.one {f:Fld} (h:FldOk f) (hk:f.k=15∨f.k=16∨f.k=19∨f.k=20):∃c,f.cs=[c]∧FldOk c:=by
  have hl:=h.right.1.2.2.2.2.2.2.2.1 hk
  match hc:f.cs,hl with
  | [c],_=>exact ⟨c,rfl,h.kid (by rw [hc];simp)⟩
theorem FldOk.ks {f:Fld} (h:FldOk f):1≤f.k∧f.k≤20:=⟨h.right.1.1,h.right.1.2.1⟩
theorem wsum_app (a b:List Val):wsum (a++b)=wsum a+wsum b:=by
  induction a with
  | nil=>simp [wsum]
  | cons v a ih=>simp only [List.cons_append,wsum,ih];omega
theorem wsum_rep (n:Nat) (v:Val):wsum (List.replicate n v)=n*v.wgt:=by
  induction n with
  | zero=>simp [wsum]
  | succ n ih=>rw [List.replicate_succ,wsum,ih,Nat.succ_mul];omega
theorem val_wgt (v:Val):v.wgt=16+v.text.length+wsum v.items:=by cases v;rfl
theorem fit_null {k w:Int} {F:List (Val→Bool)}:fitK k w true F v0=true:=by
  unfold fitK v0;simp [Val.nul,Val.num,Val.text,Val.items]
theorem wz_sum:∀{cs:List Fld},(∀c∈cs,c.wz=min 4194305 c.zv.wgt)→min 4194305 (16+(cs.map Fld.wz).sum)=min 4194305 (16+wsum (cs.map Fld.zv))
  | [],_=>rfl
  | c::cs,h=>by
    have h1:=h c (by simp)
    have h2:=wz_sum (cs:=cs) fun x hx=>h x (by simp [hx])
    simp only [List.map_cons,List.sum_cons,wsum]
    omega
theorem allZ_map:∀{cs:List Fld},(∀c∈cs,c.fit c.zv=true)→allZ (cs.map Fld.fit) (cs.map Fld.zv)=true
  | [],_=>rfl
  | c::cs,h=>by
    simp only [List.map_cons,allZ,h c (by simp),Bool.true_and]
    exact allZ_map fun x hx=>h x (by simp [hx])
theorem lets_nul:∀f:Fld,FldOk f→f.lets=f.nul
  | .mk nm nul k w id ix cs,h=>by
    have ih:∀c∈cs,c.lets=c.nul:=fun c hc=>lets_nul c (h.kid hc)
    obtain ⟨_,n1,_⟩:=h.right
    have one:=fun hk=>FldOk.one h hk
    rw [Fld.lets_eq]
    show letsK k nul (cs.map Fld.lets)=nul
    simp only [Fld.k,Fld.cs,Fld.nul] at n1 one
    unfold letsK
    by_cases e:k=20
    · obtain ⟨c,rfl,_⟩:=one (by simp [e])
      obtain ⟨d,hd,hn⟩:=n1.2.2 e
      simp only [List.getElem?_cons_zero,Option.some.injEq] at hd
      subst hd
      simp [e,ih c (by simp),hn,Fld.nul]
    · rw [if_neg (fun q:k=20∧_=>e q.1)]
      by_cases e18:k=18
      · have:=n1.2.1 e18;simp [this,e18]
      · simp [e18]
theorem zv_nul:∀f:Fld,FldOk f→f.nul=false→f.zv.nul=false
  | .mk nm nul k w id ix cs,h,hn=>by
    have ih:∀c∈cs,c.nul=false→c.zv.nul=false:=fun c hc=>zv_nul c (h.kid hc)
    have hl:=lets_nul _ h
    obtain ⟨_,n1,n2⟩:=h.right
    have one:=fun hk=>FldOk.one h hk
    rw [Fld.zv_eq,hl,hn]
    simp only [Fld.k,Fld.w,Fld.cs,Fld.nul] at n1 n2 one hn ⊢
    simp only [zvK,Bool.false_eq_true,if_false]
    split
    · rfl
    split
    · rfl
    split
    · rfl
    split
    · rfl
    split
    · rename_i e
      obtain ⟨c,rfl,_⟩:=one (by omega)
      simp only [List.map_cons,List.map_nil,List.getD_cons_zero]
      refine ih c (by simp) ?_
      rcases e with rfl | rfl
      · obtain ⟨d,hd,hd'⟩:=n2 rfl
        simp only [List.getElem?_cons_zero,Option.some.injEq] at hd
        subst hd;exact hd'
      · obtain ⟨d,hd,hd'⟩:=n1.2.2 rfl
        simp only [List.getElem?_cons_zero,Option.some.injEq] at hd
        subst hd;rw [←hd'];exact hn
    · rfl
theorem fit_len {k w:Int} {l:Bool} {F:List (Val→Bool)} {v:Val} (h:fitK k w l F v=true):v.items.length≤4096:=by
  unfold fitK at h
  simp only [Bool.and_eq_true,decide_eq_true_eq] at h
  exact h.1
theorem zv_ok:∀f:Fld,FldOk f→f.fit f.zv=true∧f.wz=min 4194305 f.zv.wgt
  | .mk nm nul k w id ix cs,h=>by
    have ih:∀c∈cs,c.fit c.zv=true∧c.wz=min 4194305 c.zv.wgt:=fun c hc=>zv_ok c (h.kid hc)
    rw [Fld.fit_eq,Fld.zv_eq,Fld.wz_eq]
    obtain ⟨⟨s1,s2,s3,s4,s5,s6,s7,s8,s9,s10,s11⟩,n1,n2⟩:=h.right
    have one:=fun hk=>FldOk.one h hk
    simp only [Fld.k,Fld.w,Fld.cs,Fld.nul,Fld.id,Fld.ix] at s1 s2 s3 s4 s5 s6 s7 s8 s9 s10 s11 n1 n2 one ⊢
    generalize hl:(Fld.mk nm nul k w id ix cs).lets=l
    have hl':l=letsK k nul (cs.map Fld.lets):=by rw [←hl,Fld.lets_eq];rfl
    cases l with
    | true=>exact ⟨by simpa [zvK] using fit_null,by simp [wzK,zvK,v0,Val.wgt,wsum]⟩
    | false =>
      have k1:k≠1:=by
        rintro rfl
        simp [letsK,n1.1] at hl'
      simp only [zvK,wzK,Bool.false_eq_true,if_false]
      by_cases e14:k=14
      · subst e14
        have:=s3 rfl
        simp [fitK,Val.nul,Val.num,Val.text,Val.items,Val.wgt,wsum]
      rw [if_neg e14,if_neg e14]
      by_cases e16:k=16
      · subst e16
        have:=s4 rfl
        obtain ⟨c,rfl,hc⟩:=one (by simp)
        obtain ⟨h1,h2⟩:=ih c (by simp)
        simp only [if_true,List.map_cons,List.map_nil,List.getD_cons_zero,Val.wgt,wsum_rep,h2]
        refine ⟨?_,?_⟩
        · simp only [fitK,Val.nul,Val.num,Val.text,Val.items,List.length_replicate]
          simp [h1,noF];omega
        · have hw:1≤w.toNat:=by omega
          generalize w.toNat=n at hw
          by_cases hc:c.zv.wgt≤4194305
          · rw [Nat.min_eq_right hc];simp
          · have q1:1*4194305≤n*4194305:=Nat.mul_le_mul_right _ hw
            have q2:n*4194305≤n*c.zv.wgt:=Nat.mul_le_mul_left _ (by omega)
            rw [Nat.min_eq_left (by omega:4194305≤c.zv.wgt)]
            simp;omega
      rw [if_neg e16,if_neg e16]
      by_cases e17:k=17
      · subst e17
        have hcl:=s9 rfl
        simp only [if_true,Val.wgt,List.length_nil,Nat.add_zero]
        refine ⟨?_,wz_sum fun c hc=>(ih c hc).2⟩
        simp only [fitK,Val.nul,Val.num,Val.text,Val.items,List.length_map,allZ_map fun c hc=>(ih c hc).1]
        simp;omega
      rw [if_neg e17,if_neg e17]
      by_cases e18:k=18
      · subst e18
        have hcl:=s10 rfl
        obtain ⟨c,cs',rfl⟩:∃c cs',cs=c::cs':=by
          cases cs with
          | nil=>simp at hcl
          | cons c cs'=>exact ⟨c,cs',rfl⟩
        obtain ⟨h1,h2⟩:=ih c (by simp)
        simp only [if_true,List.map_cons,List.getD_cons_zero,Val.wgt,wsum,List.length_nil,h2]
        refine ⟨?_,by omega⟩
        simp only [fitK,Val.nul,Val.num,Val.text,Val.items,List.length_map,List.length_cons,List.length_nil]
        simp [h1]
      rw [if_neg e18,if_neg e18]
      by_cases e1920:k=19∨k=20
      · obtain ⟨c,rfl,hc⟩:=one (by omega)
        obtain ⟨h1,h2⟩:=ih c (by simp)
        simp only [e1920,if_true,List.map_cons,List.map_nil,List.getD_cons_zero,h2]
        refine ⟨?_,by omega⟩
        have hn:c.zv.nul=false:=by
          refine zv_nul c hc ?_
          have hll:=lets_nul _ h
          rw [hl] at hll
          rcases e1920 with rfl | rfl
          · obtain ⟨d,hd,hd'⟩:=n2 rfl
            simp only [List.getElem?_cons_zero,Option.some.injEq] at hd
            subst hd;exact hd'
          · obtain ⟨d,hd,hd'⟩:=n1.2.2 rfl
            simp only [List.getElem?_cons_zero,Option.some.injEq] at hd
            subst hd;rw [←hd'];exact hll.symm
        have hlen:=h1
        rw [Fld.fit_eq] at hlen
        have hlen:=fit_len hlen
        unfold fitK
        simp only [hn,e1920,hlen,List.map_cons,List.map_nil,List.getD_cons_zero,if_true,h1]
        simp
      rw [if_neg e1920,if_neg e1920]
      refine ⟨?_,by simp [Val.wgt,wsum]⟩
      simp only [not_or] at e1920
      have hu:utf []=true:=rfl
      unfold fitK
      simp only [Val.nul,Val.num,Val.text,Val.items,List.length_nil,if_false,Bool.false_eq_true,e1920,e18,e16,e17,e14,hu]
      by_cases e15:k=15
      · simp [e15]
      · by_cases e12:k=12∨k=13
        · simp [e15,e12,e14]
        · by_cases e2:k=2
          · simp [e2]
          · simp only [e15,e12,e14,e2]
            have h3:3≤k∧k≤11:=by omega
            have:rangeK k 0=true:=by
              unfold rangeK
              split
              · rfl
              · have hp:∀n:Nat,(0:Int) < 2 ^ n:=fun n=>Int.pow_pos (by decide)
                split
                · have:=hp (8*(widK k).toNat - 1)
                  simp;omega
                · have:=hp (8*(widK k).toNat)
                  simp;omega
            have q12:k≠12∧k≠13:=by omega
            simp [h3,this,q12,e14]
theorem small_nought {f:Fld} (h:FldOk f) (hs:f.small=true):f.nought=f.zv∧f.fit f.nought=true∧f.nought.wgt=f.wz∧f.wz≤4194304:=by
  have hw:f.wz≤4194304:=by simpa [Fld.small] using hs
  have e:f.nought=f.zv:=by unfold Fld.nought;rw [if_pos hw]
  obtain ⟨h1,h2⟩:=zv_ok f h
  refine ⟨e,by rw [e];exact h1,?_,hw⟩
  rw [e];omega
end Go.Proofs.YtlbbdbdjiekkaaaGreatDoor
set_option maxRecDepth 100000
set_option maxHeartbeats 200000
/- One value more: plain steps. -/
namespace Go.Proofs.YtlbbdbdjiekkaaaGreatDoor
open Go Go.Sh Go.WideShapes
theorem thenR_0 {x:Int × Raw} {g:Raw→Int × Raw} (h:(thenR x g).1=0):x.1=0∧(g x.2).1=0∧thenR x g=g x.2:=by
  unfold thenR at h ⊢
  split at h
  · rename_i e;exact ⟨e,h,by rw [if_pos e]⟩
  · rename_i e;exact absurd h e
theorem rowR_0 {n:Bool} {r:Raw} (h:(rowR n r).1=0):r.b.rows < 4096∧(rowR n r).2=r.up (Rb.row n):=by
  unfold rowR at h ⊢
  split at h
  · simp at h
  · rename_i e;exact ⟨by omega,by rw [if_neg e]⟩
theorem weighR_0 {n:Nat} {r:Raw} (h:(weighR n r).1=0):r.b.heavy+n≤4194304∧(weighR n r).2=r.up fun b=>{ b with heavy:=b.heavy+n }:=by
  refine ⟨?_,rfl⟩
  unfold weighR at h
  dsimp only at h
  split at h
  · simp at h
  · omega
theorem Rb.eq {a b:Rb} (h1:a.rows=b.rows) (h2:a.nulls=b.nulls) (h3:a.bits=b.bits) (h4:a.heavy=b.heavy) (h5:a.nums=b.nums) (h6:a.texts=b.texts) (h7:a.ends=b.ends) (h8:a.all=b.all) (h9:a.vals=b.vals):a=b:=by
  cases a;cases b;simp_all
theorem up_kids {r:Raw} {g:Rb→Rb}:(r.up g).kids=r.kids:=by cases r;rfl
theorem up_b {r:Raw} {g:Rb→Rb}:(r.up g).b=g r.b:=by cases r;rfl
theorem Raw.eq {a b:Raw} (h1:a.b=b.b) (h2:a.kids=b.kids):a=b:=by
  cases a;cases b;simp only [Raw.b,Raw.kids] at h1 h2;rw [h1,h2]
/-- the step lays x -/
def Play (c:Fld) (g:Raw→Int × Raw) (x:Val):Prop:=∀vs,c.can vs→(g (c.st vs)).1=0→c.can (vs++[x])∧(g (c.st vs)).2=c.st (vs++[x])
/-! ### what fits -/
theorem fit_nul {k w:Int} {l:Bool} {F:List (Val→Bool)} {v:Val} (h:fitK k w l F v=true) (hn:v.nul=true):v=v0∧l=true:=by
  unfold fitK at h
  simp only [hn,if_true,Bool.and_eq_true,decide_eq_true_eq] at h
  obtain ⟨_,⟨⟨h1,h2⟩,h3⟩,h4⟩:=h
  obtain ⟨n,x,t,s⟩:=v
  simp only [Val.nul,Val.num,Val.text,Val.items,List.length_eq_zero_iff] at hn h1 h2 h3
  subst hn h1 h2 h3
  exact ⟨rfl,h4⟩
theorem v0_wgt:v0.wgt=16:=rfl
end Go.Proofs.YtlbbdbdjiekkaaaGreatDoor
set_option maxRecDepth 100000
set_option maxHeartbeats 200000
/- One value more: what it makes of the state. -/
namespace Go.Proofs.YtlbbdbdjiekkaaaGreatDoor
open Go Go.Sh Go.WideShapes
theorem wsum_snoc (vs:List Val) (v:Val):wsum (vs++[v])=wsum vs+v.wgt:=by rw [wsum_app];simp [wsum]
theorem can_snoc {f:Fld} {vs:List Val} {v:Val} (h:f.can vs) (hf:f.fit v=true) (hn:vs.length < 4096) (hw:wsum vs+v.wgt≤4194304) (tx:f.k=12∨f.k=13→(vs.flatMap Val.text).length+v.text.length≤65536)
    (ds:f.k=19→(distV (vs++[v])).length≤numsK f.ix) (kid:∀(j:Nat) c,f.cs[j]? = some c→c.can (contK f.k f.w (noughts f.cs) j (vs++[v]))):f.can (vs++[v]):=by
  have h0:=(Fld.can_eq f vs).1 h
  refine (Fld.can_eq f _).2 ⟨fun u hu => ?_,by simp;omega,by rw [wsum_snoc];exact hw,fun e=>by have:=tx e;simp;simp at this;omega,ds,fun j o ho => ?_⟩
  · rcases List.mem_append.1 hu with q | q
    · exact h0.fit u q
    · simp at q;subst q;exact hf
  · rw [List.getElem?_map,Option.map_eq_some_iff] at ho
    obtain ⟨c,hc,rfl⟩:=ho
    exact kid j c hc
theorem st_of {f:Fld} {vs:List Val} {r:Raw} (hb:r.b=rbK f.k vs) (hl:r.kids.length=f.cs.length) (hk:∀(j:Nat) c,f.cs[j]? = some c→r.kid j=c.st (contK f.k f.w (noughts f.cs) j vs)):r=f.st vs:=by
  rw [Fld.st_eq]
  refine Raw.eq hb ?_
  refine List.ext_getElem? fun j => ?_
  show r.kids[j]? = ((List.range f.cs.length).map _)[j]?
  rw [List.getElem?_map]
  by_cases hj:j < f.cs.length
  · have hc:f.cs[j]? = some f.cs[j]:=List.getElem?_eq_getElem hj
    have:=hk j _ hc
    rw [List.getElem?_range hj]
    simp only [Option.map_some,List.getD_eq_getElem?_getD,List.getElem?_map,hc,Option.getD_some]
    rw [←this]
    cases r with
    | mk b ks =>
      have hl':ks.length=f.cs.length:=hl
      show ks[j]? = some (ks.getD j r0)
      rw [List.getD_eq_getElem?_getD,List.getElem?_eq_getElem (l:=ks) (i:=j) (by omega)];rfl
  · rw [List.getElem?_eq_none (l:=r.kids) (by omega),List.getElem?_eq_none (by simp;omega)];rfl
theorem st_b (f:Fld) (vs:List Val):(f.st vs).b=rbK f.k vs:=by rw [Fld.st_eq];rfl
theorem st_len (f:Fld) (vs:List Val):(f.st vs).kids.length=f.cs.length:=by rw [Fld.st_eq];simp [Raw.kids]
theorem row_rows (k:Int) (vs:List Val) (v:Val) (n:Bool):((rbK k vs).row n).rows=(rbK k (vs++[v])).rows:=by simp [Rb.row,rbK]
theorem row_nulls {k:Int} {vs:List Val} {v:Val} {n:Bool} (h:nulK k v=n):((rbK k vs).row n).nulls=(rbK k (vs++[v])).nulls:=by
  simp only [Rb.row,rbK,List.countP_append,List.countP_cons,List.countP_nil,h]
  cases n <;> simp
theorem row_bits {k:Int} {vs:List Val} {v:Val} {n:Bool} (h:nulK k v=n):((rbK k vs).row n).bits=(rbK k (vs++[v])).bits:=by
  rw [Rb.row_bits]
  simp only [rbK,List.map_append,List.map_cons,List.map_nil,packB_snoc,List.length_map,h]
/-- the fields that a kind doesn't have -/
theorem rb_none {k:Int} (vs:List Val):(plainK k=false→(rbK k vs).nums=[]∧(rbK k vs).texts=[])∧(¬(k=12∨k=13∨k=15∨k=18∨k=19∨k=20)→(rbK k vs).ends=[])∧(¬(k=12∨k=13∨k=18)→(rbK k vs).all=[])∧(¬(k=19∨k=20)→(rbK k vs).vals=[]):=by
  refine ⟨fun h=>by simp [rbK,h],fun h => ?_,fun h => ?_,fun h => ?_⟩ <;> simp only [not_or] at h <;> simp [rbK,h]
structure Row1 (f:Fld) (vs:List Val) (v:Val) (n:Bool) (r1:Raw):Prop where
  lt:vs.length < 4096
  b:r1.b=(rbK f.k vs).row n
  kids:r1.kids=(f.st vs).kids
theorem Row1.of {f:Fld} {vs:List Val} {v:Val} {n:Bool} (h:(rowR n (f.st vs)).1=0):Row1 f vs v n (rowR n (f.st vs)).2:=by
  obtain ⟨h1,h2⟩:=rowR_0 h
  rw [st_b] at h1
  exact ⟨h1,by rw [h2,up_b,st_b],by rw [h2,up_kids]⟩
theorem Row1.len {f:Fld} {vs:List Val} {v:Val} {n:Bool} {r1:Raw} (R:Row1 f vs v n r1):r1.kids.length=f.cs.length:=by rw [R.kids,st_len]
theorem st_rows (c:Fld) (vs:List Val):(c.st vs).b.rows=vs.length:=by rw [st_b];rfl
/-- nulls, plain ones, texts -/
theorem step_flat {f:Fld} (hf:FldOk f) (hk:f.k≠15∧f.k≠16∧f.k≠17∧f.k≠18∧f.k≠19∧f.k≠20) {v:Val} (hv:f.fit v=true):Play f (fun r=>f.tk r v) v:=by
  intro vs hc h
  dsimp only at h ⊢
  obtain ⟨k15,k16,k17,k18,k19,k20⟩:=hk
  have hncs:f.cs=[]:=by
    have:=hf.right.1.2.2.2.2.2.2.2.2.2.2 ⟨k15,k16,k19,k20,k17,k18⟩
    exact List.length_eq_zero_iff.1 this
  have h0:=(Fld.can_eq f vs).1 hc
  rw [Fld.tk_eq] at h ⊢
  rw [Fld.fit_eq] at hv
  have hv':f.fit v=true:=by rw [Fld.fit_eq];exact hv
  unfold takeK at h ⊢
  by_cases k1:f.k=1
  · simp only [if_pos k1] at h ⊢
    obtain ⟨h1,h2,h3⟩:=thenR_0 h
    have R:=Row1.of (v:=v) h1
    obtain ⟨w1,w2⟩:=weighR_0 h2
    have hn:v.nul=true:=by
      cases hn:v.nul with
      | true=>rfl
      | false=>unfold fitK at hv;simp [hn,k1] at hv
    obtain ⟨rfl,_⟩:=fit_nul hv hn
    rw [R.b] at w1
    have nk:nulK f.k v0=true:=by simp [nulK,k1]
    refine ⟨can_snoc hc hv' R.lt ?_ (by omega) (by omega) fun j c hj=>by rw [hncs] at hj;simp at hj,?_⟩
    · have:((rbK f.k vs).row true).heavy=wsum vs:=rfl
      rw [v0_wgt];omega
    · rw [h3,w2]
      refine st_of ?_ (by rw [up_kids,R.len]) fun j c hj=>by rw [hncs] at hj;simp at hj
      rw [up_b,R.b]
      obtain ⟨n1,n2,n3,n4⟩:=rb_none (k:=f.k) vs
      obtain ⟨m1,m2,m3,m4⟩:=rb_none (k:=f.k) (vs++[v0])
      have pk:plainK f.k=false:=by simp [plainK,k1]
      refine Rb.eq (row_rows f.k vs v0 true) (row_nulls nk) (row_bits nk) ?_ ((n1 pk).1.trans (m1 pk).1.symm) ((n1 pk).2.trans (m1 pk).2.symm) ((n2 (by omega)).trans (m2 (by omega)).symm) ((n3 (by omega)).trans (m3 (by omega)).symm) ((n4 (by omega)).trans (m4 (by omega)).symm)
      show wsum vs+16=wsum (vs++[v0])
      rw [wsum_snoc,v0_wgt]
  simp only [if_neg k1] at h ⊢
  by_cases k12:f.k=12∨f.k=13
  · simp only [if_pos k12] at h ⊢
    obtain ⟨h1,h2,h3⟩:=thenR_0 h
    have R:=Row1.of (v:=v) h1
    rw [h3]
    have hal:(rowR v.nul (f.st vs)).2.b.all=vs.flatMap Val.text:=by rw [R.b];show (rbK f.k vs).all=_;simp [rbK,k12]
    rw [hal] at h2 ⊢
    split at h2
    · simp at h2
    rename_i hle
    rw [if_neg hle]
    obtain ⟨w1,w2⟩:=weighR_0 h2
    rw [up_b,R.b] at w1
    have w1:wsum vs+(16+v.text.length)≤4194304:=w1
    have hit:v.items=[]:=by
      cases hn:v.nul with
      | true=>rw [(fit_nul hv hn).1];rfl
      | false =>
        unfold fitK at hv
        have e18:f.k≠18:=k18
        have e3:f.k=12∨f.k=13∨f.k=14:=by omega
        simp only [hn,Bool.false_eq_true,if_false,k19,k20,k18,k15,k16,k17,e3,or_self,if_true,Bool.and_eq_true,decide_eq_true_eq,List.length_eq_zero_iff] at hv
        exact hv.2.2.1
    have hwg:v.wgt=16+v.text.length:=by rw [val_wgt,hit];rfl
    have nk:nulK f.k v=v.nul:=by unfold nulK;rw [if_neg k1,if_neg (by omega)]
    refine ⟨can_snoc hc hv' R.lt (by omega) (fun _=>by omega) (by omega) fun j c hj=>by rw [hncs] at hj;simp at hj,?_⟩
    rw [w2]
    refine st_of ?_ (by rw [up_kids,up_kids,R.len]) fun j c hj=>by rw [hncs] at hj;simp at hj
    rw [up_b,up_b,R.b]
    obtain ⟨n1,n2,n3,n4⟩:=rb_none (k:=f.k) vs
    obtain ⟨m1,m2,m3,m4⟩:=rb_none (k:=f.k) (vs++[v])
    have pk:plainK f.k=false:=by rcases k12 with e | e <;> simp [plainK,e]
    refine Rb.eq (row_rows f.k vs v v.nul) (row_nulls nk) (row_bits nk) ?_ ((n1 pk).1.trans (m1 pk).1.symm) ((n1 pk).2.trans (m1 pk).2.symm) ?_ ?_ ((n4 (by omega)).trans (m4 (by omega)).symm)
    · show wsum vs+(16+v.text.length)=wsum (vs++[v])
      rw [wsum_snoc,hwg]
    · show (rbK f.k vs).ends++[(rbK f.k vs).all.length+v.text.length]=(rbK f.k (vs++[v])).ends
      simp only [rbK,if_pos k12,sumsL_snoc]
      simp [List.length_flatMap]
    · show (rbK f.k vs).all++v.text=(rbK f.k (vs++[v])).all
      simp [rbK,k12]
  simp only [if_neg k12,if_neg k15,if_neg k16,if_neg k17,if_neg k18,if_neg k19,if_neg k20] at h ⊢
  obtain ⟨h1,h2,h3⟩:=thenR_0 h
  have R:=Row1.of (v:=v) h1
  rw [h3]
  obtain ⟨w1,w2⟩:=weighR_0 h2
  rw [up_b,R.b] at w1
  have w1:wsum vs+(16+v.text.length)≤4194304:=w1
  have hit:v.items=[]:=by
    cases hn:v.nul with
    | true=>rw [(fit_nul hv hn).1];rfl
    | false =>
      unfold fitK at hv
      by_cases e14:f.k=14
      · have e3:f.k=12∨f.k=13∨f.k=14:=by omega
        simp only [hn,Bool.false_eq_true,if_false,k19,k20,k18,k15,k16,k17,e3,or_self,if_true,Bool.and_eq_true,decide_eq_true_eq,List.length_eq_zero_iff] at hv
        exact hv.2.2.1
      · have e3:¬(f.k=12∨f.k=13∨f.k=14):=by omega
        simp only [hn,Bool.false_eq_true,if_false,k19,k20,k18,k15,k16,k17,e3,or_self,Bool.and_eq_true,decide_eq_true_eq,List.length_eq_zero_iff] at hv
        exact hv.2.2.1
  have hwg:v.wgt=16+v.text.length:=by rw [val_wgt,hit];rfl
  have nk:nulK f.k v=v.nul:=by unfold nulK;rw [if_neg k1,if_neg (by omega)]
  refine ⟨can_snoc hc hv' R.lt (by omega) (by omega) (by omega) fun j c hj=>by rw [hncs] at hj;simp at hj,?_⟩
  rw [w2]
  refine st_of ?_ (by rw [up_kids,up_kids,R.len]) fun j c hj=>by rw [hncs] at hj;simp at hj
  rw [up_b,up_b,R.b]
  obtain ⟨n1,n2,n3,n4⟩:=rb_none (k:=f.k) vs
  obtain ⟨m1,m2,m3,m4⟩:=rb_none (k:=f.k) (vs++[v])
  have pk:plainK f.k=true:=by
    simp only [not_or] at k12
    simp [plainK,k1,k12,k15,k16,k17,k18,k19,k20]
  refine Rb.eq (row_rows f.k vs v v.nul) (row_nulls nk) (row_bits nk) ?_ ?_ ?_ ((n2 (by omega)).trans (m2 (by omega)).symm) ((n3 (by omega)).trans (m3 (by omega)).symm) ((n4 (by omega)).trans (m4 (by omega)).symm)
  · show wsum vs+(16+v.text.length)=wsum (vs++[v])
    rw [wsum_snoc,hwg]
  · show (rbK f.k vs).nums++_=(rbK f.k (vs++[v])).nums
    simp [rbK,pk]
  · show (rbK f.k vs).texts++_=(rbK f.k (vs++[v])).texts
    simp [rbK,pk]
end Go.Proofs.YtlbbdbdjiekkaaaGreatDoor
set_option maxRecDepth 100000
set_option maxHeartbeats 200000
/- One value more: lists, spans, structs, choices. -/
namespace Go.Proofs.YtlbbdbdjiekkaaaGreatDoor
open Go Go.Sh Go.WideShapes
theorem cont15 {w:Int} {N:List Val} {j:Nat} {vs:List Val}:contK 15 w N j vs=vs.flatMap Val.items:=by simp [contK]
theorem cont16 {w:Int} {N:List Val} {j:Nat} {vs:List Val}:contK 16 w N j vs=vs.flatMap fun v=>if v.nul then List.replicate w.toNat (N.getD 0 v0) else v.items:=by simp [contK]
theorem cont17 {w:Int} {N:List Val} {j:Nat} {vs:List Val}:contK 17 w N j vs=vs.map fun v=>if v.nul then N.getD j v0 else v.items.getD j v0:=by simp [contK]
theorem cont18 {w:Int} {N:List Val} {j:Nat} {vs:List Val}:contK 18 w N j vs=(vs.filter fun v=>decide (codeN v=j)).map fun v=>v.items.getD 0 v0:=by simp [contK]
theorem cont19 {w:Int} {N:List Val} {j:Nat} {vs:List Val}:contK 19 w N j vs=distV vs:=by simp [contK]
theorem cont20 {w:Int} {N:List Val} {j:Nat} {vs:List Val}:contK 20 w N j vs=(runE vs).1:=by simp [contK]
theorem map_sum_wgt (vs:List Val):(vs.map Val.wgt).sum=wsum vs:=(wsum_eq vs).symm
theorem fit_span {f c:Fld} (hcs:f.cs=[c]) (hk:f.k=16) {v:Val} (hv:f.fit v=true) (hn:v.nul=false):v.text=[]∧v.items.length=f.w.toNat∧∀x∈v.items,c.fit x=true:=by
  rw [Fld.fit_eq] at hv
  unfold fitK at hv
  rw [hk,hcs] at hv
  simp [hn] at hv
  exact ⟨hv.2.2.1,hv.2.2.2.1,hv.2.2.2.2⟩
theorem allZ_get:∀{F:List (Val→Bool)} {vs:List Val},allZ F vs=true→F.length=vs.length∧∀(i:Nat) g,F[i]? = some g→g (vs.getD i v0)=true
  | [],[],_=>⟨rfl,fun i g h=>by simp at h⟩
  | [],_::_,h=>by simp [allZ] at h
  | _::_,[],h=>by simp [allZ] at h
  | g::F,v::vs,h=>by
    simp only [allZ,Bool.and_eq_true] at h
    obtain ⟨h1,h2⟩:=allZ_get h.2
    refine ⟨by simp [h1],fun i g' hg => ?_⟩
    cases i with
    | zero=>simp at hg;subst hg;simpa using h.1
    | succ i=>simp at hg;simpa using h2 i g' hg
theorem fit_struct {f:Fld} (hk:f.k=17) {v:Val} (hv:f.fit v=true) (hn:v.nul=false):v.text=[]∧v.items.length=f.cs.length∧∀(i:Nat) c,f.cs[i]? = some c→c.fit (v.items.getD i v0)=true:=by
  rw [Fld.fit_eq] at hv
  unfold fitK at hv
  rw [hk] at hv
  simp [hn] at hv
  obtain ⟨h1,h2⟩:=allZ_get hv.2.2.2
  exact ⟨hv.2.2.1,by simpa using h1.symm,fun i c hc=>h2 i c.fit (by rw [List.getElem?_map,hc];rfl)⟩
theorem fit_choice {f:Fld} (hk:f.k=18) (hl:f.lets=false) {v:Val} (hv:f.fit v=true):v.nul=false∧v.text=[]∧0≤v.num∧∃c x,f.cs[codeN v]? = some c∧v.items=[x]∧c.fit x=true:=by
  rw [Fld.fit_eq] at hv
  cases hn:v.nul with
  | true=>have:=(fit_nul hv hn).2;rw [hl] at this;cases this
  | false =>
    unfold fitK at hv
    rw [hk] at hv
    simp [hn] at hv
    obtain ⟨_,h1,h2,h3,h4,h5⟩:=hv
    have hlt:codeN v < f.cs.length:=by unfold codeN;omega
    obtain ⟨x,hx⟩:∃x,v.items=[x]:=by
      match hi:v.items,h4 with
      | [x],_=>exact ⟨x,rfl⟩
    refine ⟨rfl,h1,h2,f.cs[codeN v],x,List.getElem?_eq_getElem hlt,hx,?_⟩
    have e:v.num.toNat=codeN v:=rfl
    rw [e,hx,List.getElem?_eq_getElem hlt] at h5
    simpa using h5
theorem nk_nul {f:Fld} {v:Val} (h1:f.k≠1) (h18:f.k≠18) (h20:f.k≠20):nulK f.k v=v.nul:=by unfold nulK;rw [if_neg h1,if_neg (by omega)]
end Go.Proofs.YtlbbdbdjiekkaaaGreatDoor
set_option maxRecDepth 100000
set_option maxHeartbeats 200000
/- One value more: spans, structs. -/
namespace Go.Proofs.YtlbbdbdjiekkaaaGreatDoor
open Go Go.Sh Go.WideShapes
theorem getD_kid {α:Type} {cs:List Fld} {g:Fld→α} {d:α} {i:Nat} {c:Fld} (h:cs[i]? = some c):(cs.map g).getD i d=g c:=by
  rw [List.getD_eq_getElem?_getD,List.getElem?_map,h];rfl
end Go.Proofs.YtlbbdbdjiekkaaaGreatDoor
set_option maxRecDepth 100000
set_option maxHeartbeats 200000
/- One value more: choices, dictionaries, runs. -/
namespace Go.Proofs.YtlbbdbdjiekkaaaGreatDoor
open Go Go.Sh Go.WideShapes
/-! ### places in lists -/
theorem posV_some {v:Val}:∀{l:List Val} {i:Nat},posV v l=some i→l[i]? = some v∧∀j,j < i→l[j]? ≠ some v
  | [],i,h=>by simp [posV] at h
  | x :: xs,i,h=>by
    unfold posV at h
    split at h
    · rename_i e;cases h;subst e;exact ⟨rfl,fun j hj=>by omega⟩
    · rename_i e
      rw [Option.map_eq_some_iff] at h
      obtain ⟨k,hk,rfl⟩:=h
      obtain ⟨h1,h2⟩:=posV_some hk
      refine ⟨by simpa using h1,fun j hj => ?_⟩
      cases j with
      | zero=>simpa using e
      | succ j=>simpa using h2 j (by omega)
theorem posV_none {v:Val}:∀{l:List Val},posV v l=none↔v∉l
  | []=>by simp [posV]
  | x :: xs=>by
    unfold posV
    split
    · rename_i e;subst e;simp
    · rename_i e
      rw [Option.map_eq_none_iff,posV_none (l:=xs)]
      simp only [List.mem_cons,not_or]
      exact ⟨fun h=>⟨fun q=>e q.symm,h⟩,fun h=>h.2⟩
theorem distS_mem {l:List Val} {v u:Val} (h:u∈l):u∈distS l v:=by
  unfold distS;split
  · exact h
  · split
    · exact h
    · exact List.mem_append_left _ h
theorem distS_self {l:List Val} {v:Val} (h:v.nul=false):v∈distS l v:=by
  unfold distS;rw [if_neg (by simp [h])]
  split
  · rename_i i hi;exact List.mem_of_getElem? (posV_some hi).1
  · simp
theorem mem_distV:∀(n:Nat) (vs:List Val),vs.length=n→∀u∈vs,u.nul=false→u∈distV vs
  | 0,vs,hn,u,hu,_=>by
    have:vs=[]:=List.eq_nil_of_length_eq_zero hn
    subst this;simp at hu
  | n+1,vs,hn,u,hu,h=>by
    have hne:vs≠[]:=by intro e;subst e;simp at hn
    obtain ⟨ws,w,rfl⟩:∃ws w,vs=ws++[w]:=⟨vs.dropLast,vs.getLast hne,(List.dropLast_concat_getLast hne).symm⟩
    rw [distV_snoc]
    rcases List.mem_append.1 hu with q | q
    · exact distS_mem (mem_distV n ws (by simp at hn;omega) u q h)
    · simp at q;subst q;exact distS_self h
theorem runE_last:∀(n:Nat) (vs:List Val),vs.length=n→(runE vs).2.getLastD 0=vs.length∧(runE vs).1.length=(runE vs).2.length
  | 0,vs,hn=>by
    have:vs=[]:=List.eq_nil_of_length_eq_zero hn
    subst this;exact ⟨rfl,rfl⟩
  | n + 1,vs,hn=>by
    have hne:vs≠[]:=by intro e;subst e;simp at hn
    obtain ⟨ws,w,rfl⟩:∃ws w,vs=ws++[w]:=⟨vs.dropLast,vs.getLast hne,(List.dropLast_concat_getLast hne).symm⟩
    obtain ⟨h1,h2⟩:=runE_last n ws (by simp at hn;omega)
    rw [runE_snoc]
    unfold runS
    split
    · rename_i e
      have hp:(runE ws).2≠[]:=by
        intro q
        rw [q] at h2
        have:(runE ws).1=[]:=List.eq_nil_of_length_eq_zero (by simpa using h2)
        rw [this] at e;simp at e
      have hl:=List.length_pos_iff.2 hp
      refine ⟨by rw [List.getLastD_concat,h1];simp,?_⟩
      show (runE ws).1.length=((runE ws).2.dropLast++[_]).length
      rw [List.length_append,List.length_dropLast,List.length_singleton];omega
    · refine ⟨by rw [List.getLastD_concat,h1];simp,?_⟩
      show ((runE ws).1++[w]).length=((runE ws).2++[_]).length
      simp [h2]
end Go.Proofs.YtlbbdbdjiekkaaaGreatDoor
set_option maxRecDepth 100000
set_option maxHeartbeats 200000
/- One value more: dictionaries, runs; the zero value; all fields. -/
namespace Go.Proofs.YtlbbdbdjiekkaaaGreatDoor
open Go Go.Sh Go.WideShapes
end Go.Proofs.YtlbbdbdjiekkaaaGreatDoor
set_option maxRecDepth 100000
set_option maxHeartbeats 200000
/- The zero value laid; all fields. -/
namespace Go.Proofs.YtlbbdbdjiekkaaaGreatDoor
open Go Go.Sh Go.WideShapes
theorem small_iff (f:Fld):f.small=true↔f.wz≤4194304:=by simp [Fld.small]
end Go.Proofs.YtlbbdbdjiekkaaaGreatDoor
set_option maxRecDepth 100000
set_option maxHeartbeats 200000
/- What is made, read: plain. -/
namespace Go.Proofs.YtlbbdbdjiekkaaaGreatDoor
open Go Go.Sh Go.WideShapes
theorem kids_get {cs:List Fld} {r:Raw} {j:Nat} {c:Fld} (hc:cs[j]? = some c):((List.range (cs.map Fld.dn).length).map fun i=>((cs.map Fld.dn).getD i fun _=>dat0) (r.kid i))[j]? = some (c.dn (r.kid j)):=by
  have hj:=(List.getElem?_eq_some_iff.1 hc).1
  rw [List.getElem?_map,List.getElem?_range (by rw [List.length_map];exact hj)]
  simp only [Option.map_some]
  rw [getD_kid hc]
theorem doneK_off {k w ix:Int} {D:List (Raw→Dat)} {r:Raw}:(doneK k w ix D r).off=0:=by unfold doneK;repeat' (first | rfl | split)
theorem doneK_len {k w ix:Int} {D:List (Raw→Dat)} {r:Raw}:(doneK k w ix D r).len=r.b.rows:=by unfold doneK;repeat' (first | rfl | split)
theorem doneK_nul {k w ix:Int} {D:List (Raw→Dat)} {r:Raw} (h:k=20→r.b.nulls=0):(doneK k w ix D r).nul=r.b.nulls:=by
  unfold doneK
  repeat' (first | rfl | (rename_i e;rw [h e];rfl) | split)
theorem dn_off (f:Fld) (r:Raw):(f.dn r).off=0:=by rw [Fld.dn_eq,doneK_off]
theorem dn_len (f:Fld) (vs:List Val):(f.dn (f.st vs)).len=vs.length:=by rw [Fld.dn_eq,doneK_len,st_rows]
theorem countP_le' {α:Type} (p:α→Bool) (l:List α):l.countP p≤l.length:=List.countP_le_length
theorem dn_nul (f:Fld) (vs:List Val):(f.dn (f.st vs)).nul=vs.countP (nulK f.k):=by
  have:(f.st vs).b.nulls=vs.countP (nulK f.k):=by rw [st_b];rfl
  have h20:f.k=20→vs.countP (nulK f.k)=0:=fun e=>by
    rw [List.countP_eq_zero];intro v _;simp [nulK,e]
  rw [Fld.dn_eq,doneK_nul (by rw [this];exact h20),this]
theorem getD_bit {vs:List Val} {k:Int} {i:Nat} {v:Val} (hi:vs[i]? = some v):(vs.map fun v=>!nulK k v).getD i false=!nulK k v:=by
  rw [List.getD_eq_getElem?_getD,List.getElem?_map,hi];rfl
theorem valid_null {k:Int} {vs:List Val} {bufs:List (List UInt8)} (hv:hasV k=true) (hb:bufD bufs 0=validB (rbK k vs)) {i:Nat} {v:Val} (hi:vs[i]? = some v):nullB k bufs i=nulK k v:=by
  have k1:(k == 1)=false:=by
    unfold hasV at hv
    cases h:k == 1 with
    | false=>rfl
    | true=>simp only [beq_iff_eq] at h;subst h;simp at hv
  unfold nullB
  rw [hv,hb,k1]
  unfold validB
  have hlt:=(List.getElem?_eq_some_iff.1 hi).1
  split
  · rename_i h0
    have:nulK k v=false:=by
      have:=(List.countP_eq_zero.1 h0) v (List.mem_of_getElem? hi)
      simpa using this
    rw [this];simp
  · rename_i h0
    have e:bitL (rbK k vs).bits i=!nulK k v:=by
      show bitL (packB _) i=_
      rw [packB_bit,getD_bit hi]
    have l:(rbK k vs).bits.length≠0:=by
      show (packB _).length≠0
      rw [packB_len,List.length_map];omega
    rw [e]
    simp only [Bool.false_or,Bool.true_and,Bool.not_not]
    have:((rbK k vs).bits.length != 0)=true:=by simpa using l
    rw [this];rfl
theorem flat_cut {α:Type} (g:Val→List α):∀{vs:List Val} {i:Nat} {v:Val},vs[i]? = some v→((vs.flatMap g).drop ((vs.take i).map fun u=>(g u).length).sum).take (g v).length=g v
  | [],i,v,h=>by simp at h
  | u::vs,0,v,h=>by
    simp only [List.getElem?_cons_zero,Option.some.injEq] at h
    subst h
    simp
  | u::vs,i+1,v,h=>by
    simp only [List.getElem?_cons_succ] at h
    have:=flat_cut g h
    rw [List.flatMap_cons,List.take_succ_cons,List.map_cons,List.sum_cons,←List.drop_drop,List.drop_left]
    exact this
theorem flat_get' {α:Type} (g:Val→List α) {vs:List Val} {i j:Nat} {v:Val} (h:vs[i]? = some v) (hj:j < (g v).length):(vs.flatMap g)[((vs.take i).map fun u=>(g u).length).sum+j]? = (g v)[j]? := by
  have:=flat_cut g h
  rw [←this,List.getElem?_take_of_lt hj,List.getElem?_drop]
theorem take_sum_succ (g:Val→Nat) {vs:List Val} {i:Nat} {v:Val} (h:vs[i]? = some v):((vs.take (i+1)).map g).sum=((vs.take i).map g).sum+g v:=by
  rw [List.take_add_one,h];simp
theorem take_sum_le (g:Val→Nat) (vs:List Val) (i:Nat):((vs.take i).map g).sum≤(vs.map g).sum:=by
  have:(vs.map g).sum=((vs.take i).map g).sum+((vs.drop i).map g).sum:=by rw [←List.sum_append,←List.map_append,List.take_append_drop]
  omega
theorem range_list {α:Type} {l:List α} {n:Nat} {g:Nat→α} (hn:l.length=n) (h:∀i a,l[i]? = some a→g i=a):(List.range n).map g=l:=by
  refine List.ext_getElem? fun i => ?_
  rw [List.getElem?_map]
  by_cases hi:i < n
  · have:=List.getElem?_eq_getElem (l:=l) (i:=i) (by omega)
    rw [List.getElem?_range hi,this,Option.map_some,h i _ this]
  · rw [List.getElem?_eq_none (by simp;omega),List.getElem?_eq_none (by omega)];rfl
theorem sums_i32 {g:Val→Nat} {vs:List Val} (h:(vs.map g).sum < 2 ^ 31) {i:Nat} (hi:i≤vs.length):i32 (laidB (sumsL g vs) 4) i=((vs.take i).map g).sum :=
  laidB_i32 (sumsL_get hi) (by have:=take_sum_le g vs i;omega)
theorem sums_off {g:Val→Nat} {vs:List Val} (h:(vs.map g).sum < 2 ^ 31) {d:Dat} (hb:bufD d.bufs 1=laidB (sumsL g vs) 4) {i:Nat} (hi:i≤vs.length):offR d i=((vs.take i).map g).sum:=by
  unfold offR;rw [hb,sums_i32 h hi];rfl
/-- a number of w bytes, with its sign, comes back -/
theorem sg_back {w:Nat} (hw:w=1∨w=2∨w=4∨w=8) {n:Int} (h1 : -(2 ^ (8*w - 1))≤n) (h2:n < 2 ^ (8*w - 1)):sg w ((n % 2 ^ 64).toNat % 2 ^ (8*w))=n:=by
  unfold sg
  rcases hw with rfl | rfl | rfl | rfl <;> simp only [Nat.reduceMul,Nat.reduceSub,Nat.reducePow,Int.reducePow,Int.reduceNeg] at h1 h2 ⊢ <;> split <;> omega
theorem us_back {w:Nat} (hw:w=1∨w=2∨w=4) {n:Int} (h1:0≤n) (h2:n < 2 ^ (8*w)):sg 8 ((n % 2 ^ 64).toNat % 2 ^ (8*w))=n:=by
  unfold sg
  rcases hw with rfl | rfl | rfl <;> simp only [Nat.reduceMul,Nat.reduceSub,Nat.reducePow,Int.reducePow,Int.reduceNeg] at h1 h2 ⊢ <;> split <;> omega
theorem wB_wid {k:Int} (h:3≤k∧k≤11):(widK k).toNat=wB k∧(wB k=1∨wB k=2∨wB k=4∨wB k=8)∧(k=6∨k=10∨k=11↔wB k=8):=by
  have:k=3∨k=4∨k=5∨k=6∨k=7∨k=8∨k=9∨k=10∨k=11:=by omega
  rcases this with rfl | rfl | rfl | rfl | rfl | rfl | rfl | rfl | rfl <;> decide
theorem num_back {k:Int} (hk:3≤k∧k≤11) {l:List Nat} {i:Nat} {n:Int} (hi:l[i]? = some (n % 2 ^ 64).toNat) (hr:rangeK k n=true):numN k (laidB l (wB k)) i=n:=by
  obtain ⟨e1,e2,e3⟩:=wB_wid hk
  unfold numN
  rw [e1,laidB_nAt hi]
  unfold rangeK at hr
  rw [e1] at hr
  by_cases h8:k=6∨k=10∨k=11
  · rw [if_pos h8] at hr
    have w8:=e3.1 h8
    rw [w8]
    simp only [Bool.and_eq_true,decide_eq_true_eq] at hr
    have:=sg_back (w:=8) (by omega) (n:=n) (by simp;omega) (by simp;omega)
    split <;> exact this
  · rw [if_neg h8] at hr
    have w8:wB k≠8:=fun q=>h8 (e3.2 q)
    by_cases h35:3≤k∧k≤5
    · rw [if_pos h35] at hr
      simp only [Bool.and_eq_true,decide_eq_true_eq] at hr
      rw [if_pos (by omega)]
      exact sg_back e2 hr.1 hr.2
    · rw [if_neg h35] at hr
      simp only [Bool.and_eq_true,decide_eq_true_eq] at hr
      rw [if_neg (by omega)]
      exact us_back (by omega) hr.1 hr.2
end Go.Proofs.YtlbbdbdjiekkaaaGreatDoor
set_option maxRecDepth 100000
set_option maxHeartbeats 200000
/- The values of what is made are the values that it was made of. -/
namespace Go.Proofs.YtlbbdbdjiekkaaaGreatDoor
open Go Go.Sh Go.WideShapes
noncomputable def kidsD (f:Fld) (vs:List Val):List Dat:=(List.range (f.cs.map Fld.dn).length).map fun i=>((f.cs.map Fld.dn).getD i fun _=>dat0) ((f.st vs).kid i)
theorem kidsD_get {f c:Fld} {vs:List Val} {j:Nat} (hc:f.cs[j]? = some c):(kidsD f vs)[j]? = some (c.dn (c.st (contK f.k f.w (noughts f.cs) j vs))):=by
  unfold kidsD;rw [kids_get hc,Fld.st_kid hc]
section
variable {f:Fld} {vs:List Val}
theorem dn1 (h:f.k=1):f.dn (f.st vs)=.mk vs.length 0 (rbK f.k vs).nulls [] [] []:=by
  rw [Fld.dn_eq];unfold doneK;rw [if_pos h,st_b];rfl
theorem dn12 (h:f.k=12∨f.k=13):f.dn (f.st vs)=.mk vs.length 0 (rbK f.k vs).nulls [validB (rbK f.k vs),laidB (rbK f.k vs).ends 4,(rbK f.k vs).all] [] []:=by
  rw [Fld.dn_eq];unfold doneK;rw [if_neg (by omega),if_pos h,st_b];rfl
theorem dn15 (h:f.k=15):f.dn (f.st vs)=.mk vs.length 0 (rbK f.k vs).nulls [validB (rbK f.k vs),laidB (rbK f.k vs).ends 4] (kidsD f vs) []:=by
  rw [Fld.dn_eq];unfold doneK;rw [if_neg (by omega),if_neg (by omega),if_pos h,st_b];rfl
theorem dn16 (h:f.k=16∨f.k=17):f.dn (f.st vs)=.mk vs.length 0 (rbK f.k vs).nulls [validB (rbK f.k vs)] (kidsD f vs) []:=by
  rw [Fld.dn_eq];unfold doneK;rw [if_neg (by omega),if_neg (by omega),if_neg (by omega),if_pos h,st_b];rfl
theorem dn18 (h:f.k=18):f.dn (f.st vs)=.mk vs.length 0 (rbK f.k vs).nulls [(rbK f.k vs).all,laidB (rbK f.k vs).ends 4] (kidsD f vs) []:=by
  rw [Fld.dn_eq];unfold doneK;rw [if_neg (by omega),if_neg (by omega),if_neg (by omega),if_neg (by omega),if_pos h,st_b];rfl
theorem dn19 (h:f.k=19):f.dn (f.st vs)=.mk vs.length 0 (rbK f.k vs).nulls [validB (rbK f.k vs),laidB (rbK f.k vs).ends (wB f.ix)] [] (kidsD f vs):=by
  rw [Fld.dn_eq];unfold doneK;rw [if_neg (by omega),if_neg (by omega),if_neg (by omega),if_neg (by omega),if_neg (by omega),if_pos h,st_b];rfl
theorem dn20 (h:f.k=20):f.dn (f.st vs)=.mk vs.length 0 0 [] (.mk (rbK f.k vs).ends.length 0 0 [[],laidB (rbK f.k vs).ends 4] [] []::kidsD f vs) []:=by
  rw [Fld.dn_eq];unfold doneK;rw [if_neg (by omega),if_neg (by omega),if_neg (by omega),if_neg (by omega),if_neg (by omega),if_neg (by omega),if_pos h,st_b];rfl
theorem dn2 (h:f.k=2):f.dn (f.st vs)=.mk vs.length 0 (rbK f.k vs).nulls [validB (rbK f.k vs),boolB (rbK f.k vs).nums] [] []:=by
  rw [Fld.dn_eq];unfold doneK;rw [if_neg (by omega),if_neg (by omega),if_neg (by omega),if_neg (by omega),if_neg (by omega),if_neg (by omega),if_neg (by omega),if_pos h,st_b];rfl
theorem dn14 (h:f.k=14):f.dn (f.st vs)=.mk vs.length 0 (rbK f.k vs).nulls [validB (rbK f.k vs),fixB f.w.toNat (rbK f.k vs).texts] [] []:=by
  rw [Fld.dn_eq];unfold doneK;rw [if_neg (by omega),if_neg (by omega),if_neg (by omega),if_neg (by omega),if_neg (by omega),if_neg (by omega),if_neg (by omega),if_neg (by omega),if_pos h,st_b];rfl
theorem dn3 (h:3≤f.k∧f.k≤11):f.dn (f.st vs)=.mk vs.length 0 (rbK f.k vs).nulls [validB (rbK f.k vs),laidB (rbK f.k vs).nums (wB f.k)] [] []:=by
  rw [Fld.dn_eq];unfold doneK;rw [if_neg (by omega),if_neg (by omega),if_neg (by omega),if_neg (by omega),if_neg (by omega),if_neg (by omega),if_neg (by omega),if_neg (by omega),if_neg (by omega),st_b];rfl
end
abbrev MadeV (c:Fld):Prop:=∀us,c.can us→∀(i:Nat) v,us[i]? = some v→c.val (c.dn (c.st us)) i=v
theorem at0_made {c:Fld} (h:MadeV c) {us:List Val} (hc:c.can us) {i:Nat} {v:Val} (hi:us[i]? = some v):at0 c.val (c.dn (c.st us)) i=v:=by
  unfold at0;rw [dn_off];simpa using h us hc i v hi
theorem fit_flat {f:Fld} (hk:f.k≠1∧f.k≠15∧f.k≠16∧f.k≠17∧f.k≠18∧f.k≠19∧f.k≠20) {v:Val} (hv:f.fit v=true) (hn:v.nul=false) :
    v.items=[]∧(f.k=12∨f.k=13∨f.k=14→v.num=0∧(f.k=12→utf v.text=true)∧(f.k=14→v.text.length=f.w.toNat))∧(¬(f.k=12∨f.k=13∨f.k=14)→v.text=[]∧(f.k=2→v.num=0∨v.num=1)∧(f.k≠2→(3≤f.k∧f.k≤11)∧rangeK f.k v.num=true)):=by
  rw [Fld.fit_eq] at hv
  unfold fitK at hv
  obtain ⟨k1,k15,k16,k17,k18,k19,k20⟩:=hk
  simp only [hn,Bool.false_eq_true,if_false,k19,k20,k18,k15,k16,k17,or_self,Bool.and_eq_true,decide_eq_true_eq] at hv
  obtain ⟨_,hv⟩:=hv
  by_cases e:f.k=12∨f.k=13∨f.k=14
  · rw [if_pos e] at hv
    simp only [Bool.and_eq_true,decide_eq_true_eq,List.length_eq_zero_iff,Bool.or_eq_true,decide_eq_true_eq] at hv
    refine ⟨hv.2.1,fun _=>⟨hv.1,fun q => ?_,fun q => ?_⟩,fun q=>absurd e q⟩
    · rcases hv.2.2.1 with h | h
      · exact absurd q h
      · exact h
    · rcases hv.2.2.2 with h | h
      · exact absurd q h
      · exact h
  · rw [if_neg e] at hv
    simp only [Bool.and_eq_true,decide_eq_true_eq,List.length_eq_zero_iff] at hv
    refine ⟨hv.2.1,fun q=>absurd q e,fun _=>⟨hv.1,fun q => ?_,fun q => ?_⟩⟩
    · have:=hv.2.2;rw [if_pos q] at this;simpa using this
    · have:=hv.2.2;rw [if_neg q] at this
      simpa using this
theorem val_mk (v:Val):v=.mk v.nul v.num v.text v.items:=by cases v;rfl
theorem codeN_lt {f:Fld} (hf:FldOk f) (hk:f.k=18) {v:Val} (hv:f.fit v=true):codeN v < 32∧codeN v < f.cs.length:=by
  have hl:f.lets=false:=by rw [lets_nul f hf];exact hf.right.2.1.2.1 hk
  obtain ⟨_,_,_,c,_,hc,_⟩:=fit_choice hk hl hv
  have h1:=(List.getElem?_eq_some_iff.1 hc).1
  have h2:=(hf.right.1.2.2.2.2.2.2.2.2.2.1 hk).2
  exact ⟨by omega,h1⟩
/-- those without children -/
theorem made_flat {f:Fld} (hf:FldOk f) (hk:f.k≠15∧f.k≠16∧f.k≠17∧f.k≠18∧f.k≠19∧f.k≠20):MadeV f:=by
  intro vs hc i v hi
  have h0:=(Fld.can_eq f vs).1 hc
  have hv:=h0.fit v (List.mem_of_getElem? hi)
  have hlt:=(List.getElem?_eq_some_iff.1 hi).1
  obtain ⟨k15,k16,k17,k18,k19,k20⟩:=hk
  have ks:=hf.ks
  rw [Fld.val_eq]
  unfold valK
  by_cases k1:f.k=1
  · rw [dn1 k1,if_pos (by unfold nullB;simp [k1])]
    have hn:v.nul=true:=by
      cases hn:v.nul with
      | true=>rfl
      | false=>rw [Fld.fit_eq] at hv;unfold fitK at hv;simp [hn,k1] at hv
    rw [Fld.fit_eq] at hv
    exact (fit_nul hv hn).1.symm
  have hnk:nulK f.k v=v.nul:=nk_nul k1 k18 k20
  have hhv:hasV f.k=true:=by unfold hasV;simp [k1,k18,k20]
  have hb0:bufD (f.dn (f.st vs)).bufs 0=validB (rbK f.k vs):=by
    by_cases e12:f.k=12∨f.k=13
    · rw [dn12 e12];rfl
    · by_cases e2:f.k=2
      · rw [dn2 e2];rfl
      · by_cases e14:f.k=14
        · rw [dn14 e14];rfl
        · rw [dn3 (by omega)];rfl
  rw [valid_null hhv hb0 hi,hnk]
  cases hn:v.nul with
  | true =>
    rw [if_pos rfl]
    rw [Fld.fit_eq] at hv
    exact (fit_nul hv hn).1.symm
  | false =>
    obtain ⟨hit,h12,hno⟩:=fit_flat ⟨k1,k15,k16,k17,k18,k19,k20⟩ hv hn
    rw [if_neg (by simp)]
    by_cases e12:f.k=12∨f.k=13
    · rw [if_pos e12,dn12 e12]
      have htx:=h0.tx e12
      have he:(rbK f.k vs).ends=sumsL (fun v=>v.text.length) vs:=by simp [rbK,e12]
      have ha:(rbK f.k vs).all=vs.flatMap Val.text:=by simp [rbK,e12]
      have hs:(vs.map fun v=>v.text.length).sum < 2 ^ 31:=by
        rw [List.length_flatMap] at htx;omega
      have o:∀{j},j≤vs.length→offR (Dat.mk vs.length 0 (rbK f.k vs).nulls [validB (rbK f.k vs),laidB (rbK f.k vs).ends 4,(rbK f.k vs).all] [] []) j=((vs.take j).map fun v=>v.text.length).sum:=fun hj=>sums_off hs (by rw [he];rfl) hj
      rw [o (by omega),o (by omega),take_sum_succ _ hi,Nat.add_sub_cancel_left]
      show Val.mk false 0 (((rbK f.k vs).all.drop _).take _) []=v
      rw [ha,flat_cut Val.text hi]
      rw [val_mk v,hn,(h12 (by omega)).1,hit];rfl
    rw [if_neg e12,if_neg k15,if_neg k16,if_neg k17,if_neg k18,if_neg k19,if_neg k20]
    by_cases e2:f.k=2
    · rw [if_pos e2,dn2 e2]
      obtain ⟨ht,hb,_⟩:=hno (by omega)
      show Val.mk false (if bitL (boolB (rbK f.k vs).nums) i=true then 1 else 0) [] []=v
      have hnum:(rbK f.k vs).nums=vs.map fun v=>(v.num % 2 ^ 64).toNat:=by simp [rbK,e2,plainK]
      rw [boolB_bit,hnum,List.getD_eq_getElem?_getD,List.getElem?_map,hi]
      have e:v=.mk false v.num [] []:=by rw [←hn,←ht,←hit];exact val_mk v
      rcases hb e2 with q | q
      · rw [q] at e;rw [e];rfl
      · rw [q] at e;rw [e];rfl
    rw [if_neg e2]
    by_cases e14:f.k=14
    · rw [if_pos e14,dn14 e14]
      have hnum:(rbK f.k vs).texts=vs.map Val.text:=by simp [rbK,e14,plainK]
      show Val.mk false 0 (((fixB f.w.toNat (rbK f.k vs).texts).drop (i*f.w.toNat)).take f.w.toNat) []=v
      rw [hnum,fixB_at (t:=v.text) (fun t ht => ?_) (by rw [List.getElem?_map,hi];rfl) ((h12 (by omega)).2.2 e14)]
      · rw [val_mk v,hn,(h12 (by omega)).1,hit];rfl
      · obtain ⟨u,hu,rfl⟩:=List.mem_map.1 ht
        have hfu:=h0.fit u hu
        cases hun:u.nul with
        | true=>rw [Fld.fit_eq] at hfu;rw [(fit_nul hfu hun).1];exact .inl rfl
        | false=>exact .inr (((fit_flat ⟨k1,k15,k16,k17,k18,k19,k20⟩ hfu hun).2.1 (by omega)).2.2 e14)
    rw [if_neg e14]
    obtain ⟨ht,_,hr⟩:=hno (by omega)
    obtain ⟨h311,hr⟩:=hr e2
    rw [dn3 h311]
    have hnum:(rbK f.k vs).nums=vs.map fun v=>(v.num % 2 ^ 64).toNat:=by
      simp only [not_or] at e12
      simp [rbK,plainK,k1,e12,k15,k16,k17,k18,k19,k20]
    show Val.mk false (numN f.k (laidB (rbK f.k vs).nums (wB f.k)) i) [] []=v
    rw [num_back h311 (n:=v.num) (by rw [hnum,List.getElem?_map,hi];rfl) hr,val_mk v,hn,ht,hit];rfl
end Go.Proofs.YtlbbdbdjiekkaaaGreatDoor
set_option maxRecDepth 100000
set_option maxHeartbeats 200000
/- The values of what is made: those with children. -/
namespace Go.Proofs.YtlbbdbdjiekkaaaGreatDoor
open Go Go.Sh Go.WideShapes
theorem snoc_of {α:Type} {n:Nat} {l:List α} (h:l.length=n+1):∃ws w,l=ws++[w]∧ws.length=n:=by
  have hne:l≠[]:=by intro e;subst e;simp at h
  exact ⟨l.dropLast,l.getLast hne,(List.dropLast_concat_getLast hne).symm,by simp [h]⟩
structure RunsOk (vs:List Val):Prop where
  len:(runE vs).1.length=(runE vs).2.length
  pos:∀(j e:Nat),(runE vs).2[j]? = some e→0 < e∧e≤vs.length
  inc:∀(i j e e':Nat),i < j→(runE vs).2[i]? = some e→(runE vs).2[j]? = some e'→e < e'
  row:∀(i:Nat) v,vs[i]? = some v→∃j e:Nat,(runE vs).1[j]? = some v∧(runE vs).2[j]? = some e∧i < e∧∀j2 e2:Nat,j2 < j→(runE vs).2[j2]? = some e2→e2≤i
theorem runs_ok:∀(n:Nat) (vs:List Val),vs.length=n→RunsOk vs
  | 0,vs,hn=>by
    have:vs=[]:=List.eq_nil_of_length_eq_zero hn
    subst this
    exact ⟨rfl,fun j e h=>by simp [runE] at h,fun i j e e' _ h=>by simp [runE] at h,fun i v h=>by simp at h⟩
  | n + 1,vs,hn=>by
    obtain ⟨ws,w,rfl,hw⟩:=snoc_of hn
    obtain ⟨len,pos,inc,hat⟩:=runs_ok n ws hw
    have hlast:=(runE_last n ws hw).1
    have hsn:=runE_snoc ws w
    unfold runS at hsn
    by_cases e:(runE ws).1.getLast? = some w
    · rw [if_pos e,hlast] at hsn
      have hp:(runE ws).2≠[]:=by
        intro q
        rw [q] at len
        have q2:(runE ws).1=[]:=List.eq_nil_of_length_eq_zero (by simpa using len)
        rw [q2] at e;simp at e
      have hL:=List.length_pos_iff.2 hp
      have get:∀j,((runE ws).2.dropLast++[ws.length+1])[j]? = if j < (runE ws).2.length - 1 then (runE ws).2[j]? else if j=(runE ws).2.length - 1 then some (ws.length+1) else none:=by
        intro j
        have hdl:(runE ws).2.dropLast.length=(runE ws).2.length - 1:=List.length_dropLast
        by_cases h1:j < (runE ws).2.length - 1
        · rw [if_pos h1,List.getElem?_append_left (by omega),List.getElem?_dropLast,if_pos h1]
        · rw [if_neg h1,List.getElem?_append_right (by omega),hdl]
          split
          · rename_i h2;subst h2;simp
          · rename_i h2;rw [List.getElem?_eq_none (by simp;omega)]
      have elast:(runE ws).2[(runE ws).2.length - 1]? = some ws.length:=by
        have:(runE ws).2.getLast? = (runE ws).2[(runE ws).2.length - 1]? := List.getLast?_eq_getElem?
        rw [←this]
        rw [List.getLastD_eq_getLast?] at hlast
        cases hg:(runE ws).2.getLast? with
        | none=>exact absurd (List.getLast?_eq_none_iff.1 hg) hp
        | some x=>rw [hg] at hlast;simp at hlast;rw [hlast]
      refine ⟨?_,?_,?_,?_⟩
      · rw [hsn];simp [len];omega
      · intro j x h
        rw [hsn] at h
        rw [get] at h
        rw [List.length_append,List.length_singleton]
        split at h
        · obtain ⟨a,b⟩:=pos j x h;omega
        · split at h
          · cases h;omega
          · cases h
      · intro i j x y hij hx hy
        rw [hsn] at hx hy
        rw [get] at hx hy
        split at hy
        · rw [if_pos (by omega)] at hx;exact inc i j x y hij hx hy
        · split at hy
          · rw [if_pos (by omega)] at hx
            cases hy
            have:=(pos i x hx).2;omega
          · cases hy
      · intro i v hi
        rw [hsn]
        by_cases h1:i < ws.length
        · rw [List.getElem?_append_left h1] at hi
          obtain ⟨j,x,a1,a2,a3,a4⟩:=hat i v hi
          have hj:=(List.getElem?_eq_some_iff.1 a2).1
          by_cases h2:j < (runE ws).2.length - 1
          · refine ⟨j,x,a1,by rw [get,if_pos h2];exact a2,a3,fun j' x' hj' hx' => ?_⟩
            rw [get,if_pos (by omega)] at hx'
            exact a4 j' x' hj' hx'
          · refine ⟨j,ws.length+1,a1,by rw [get,if_neg h2,if_pos (by omega)],by omega,fun j' x' hj' hx' => ?_⟩
            rw [get,if_pos (by omega)] at hx'
            exact a4 j' x' hj' hx'
        · have hi':i=ws.length:=by have:=(List.getElem?_eq_some_iff.1 hi).1;simp at this;omega
          subst hi'
          rw [List.getElem?_append_right (Nat.le_refl _)] at hi
          simp at hi
          subst hi
          refine ⟨(runE ws).2.length - 1,ws.length+1,?_,by rw [get,if_neg (by omega),if_pos rfl],by omega,fun j' x' hj' hx' => ?_⟩
          · have:(runE ws).1.getLast? = (runE ws).1[(runE ws).1.length - 1]? := List.getLast?_eq_getElem?
            rw [←len,←this,e]
          · rw [get,if_pos hj'] at hx'
            exact (pos j' x' hx').2
    · rw [if_neg e,hlast] at hsn
      have get:∀j,((runE ws).2++[ws.length+1])[j]? = if j < (runE ws).2.length then (runE ws).2[j]? else if j=(runE ws).2.length then some (ws.length+1) else none:=by
        intro j
        by_cases h1:j < (runE ws).2.length
        · rw [if_pos h1,List.getElem?_append_left h1]
        · rw [if_neg h1,List.getElem?_append_right (by omega)]
          split
          · rename_i h2;subst h2;simp
          · rename_i h2;rw [List.getElem?_eq_none (by simp;omega)]
      refine ⟨?_,?_,?_,?_⟩
      · rw [hsn];simp [len]
      · intro j x h
        rw [hsn] at h
        rw [get] at h
        rw [List.length_append,List.length_singleton]
        split at h
        · obtain ⟨a,b⟩:=pos j x h;omega
        · split at h
          · cases h;omega
          · cases h
      · intro i j x y hij hx hy
        rw [hsn] at hx hy
        rw [get] at hx hy
        split at hy
        · rw [if_pos (by omega)] at hx;exact inc i j x y hij hx hy
        · split at hy
          · rw [if_pos (by omega)] at hx
            cases hy
            have:=(pos i x hx).2;omega
          · cases hy
      · intro i v hi
        rw [hsn]
        by_cases h1:i < ws.length
        · rw [List.getElem?_append_left h1] at hi
          obtain ⟨j,x,a1,a2,a3,a4⟩:=hat i v hi
          have hj:=(List.getElem?_eq_some_iff.1 a2).1
          refine ⟨j,x,by rw [List.getElem?_append_left (by omega)];exact a1,by rw [get,if_pos hj];exact a2,a3,fun j' x' hj' hx' => ?_⟩
          rw [get,if_pos (by omega)] at hx'
          exact a4 j' x' hj' hx'
        · have hi':i=ws.length:=by have:=(List.getElem?_eq_some_iff.1 hi).1;simp at this;omega
          subst hi'
          rw [List.getElem?_append_right (Nat.le_refl _)] at hi
          simp at hi
          subst hi
          refine ⟨(runE ws).2.length,ws.length+1,by rw [←len,List.getElem?_append_right (Nat.le_refl _)];simp,by rw [get,if_neg (by omega),if_pos rfl],by omega,fun j' x' hj' hx' => ?_⟩
          rw [get,if_pos hj'] at hx'
          exact (pos j' x' hx').2
theorem filter_at (c:Nat):∀{vs:List Val} {i:Nat} {v:Val},vs[i]? = some v→codeN v=c→(vs.filter fun u=>decide (codeN u=c))[((vs.take i).filter fun u=>decide (codeN u=c)).length]? = some v
  | [],i,v,h,_=>by simp at h
  | u::vs,0,v,h,hc=>by
    simp only [List.getElem?_cons_zero,Option.some.injEq] at h
    subst h;simp [hc]
  | u::vs,i+1,v,h,hc=>by
    simp only [List.getElem?_cons_succ] at h
    have ih:=filter_at c h hc
    rw [List.take_succ_cons,List.filter_cons,List.filter_cons]
    split
    · simpa using ih
    · exact ih
theorem chunk_sum {g:Val→Nat} {w:Nat} {vs:List Val} (h:∀v∈vs,g v=w):∀i,i≤vs.length→((vs.take i).map g).sum=i*w
  | 0,_=>by simp
  | i+1,hi=>by
    have hv:vs[i]? = some vs[i]:=List.getElem?_eq_getElem (by omega)
    rw [take_sum_succ g hv,chunk_sum h i (by omega),h _ (List.mem_of_getElem? hv),Nat.succ_mul]
end Go.Proofs.YtlbbdbdjiekkaaaGreatDoor
set_option maxRecDepth 100000
set_option maxHeartbeats 200000
/- The values of what is made are the values: all fields. -/
namespace Go.Proofs.YtlbbdbdjiekkaaaGreatDoor
open Go Go.Sh Go.WideShapes
theorem part_ds0 {l o u:Int} {b:List (List UInt8)} {cs:List Dat} {j:Nat} {c:Dat} (h:cs[j]? = some c):part (.mk l o u b cs []) j=c:=by
  unfold part partsD;rw [if_neg (by simp [Dat.ds])];exact getD_of h
theorem part_ds1 {l o u:Int} {b:List (List UInt8)} {cs ds:List Dat} {j:Nat} {c:Dat} (h:ds[j]? = some c):part (.mk l o u b cs ds) j=c:=by
  have:ds.length > 0:=by have:=(List.getElem?_eq_some_iff.1 h).1;omega
  unfold part partsD;rw [if_pos (by simpa [Dat.ds] using this)];exact getD_of h
theorem pfs_ne {k:Int} {cs:List Fld} (h:k≠20):pfs k cs=cs:=by unfold pfs;rw [if_neg h]
theorem getD_val {cs:List Fld} {j:Nat} {c:Fld} (h:cs[j]? = some c):(cs.map Fld.val).getD j vz=c.val:=by
  rw [List.getD_eq_getElem?_getD,List.getElem?_map,h];rfl
theorem cont_get17 {w:Int} {N:List Val} {j i:Nat} {vs:List Val} {v:Val} (h:vs[i]? = some v) (hn:v.nul=false):(contK 17 w N j vs)[i]? = some (v.items.getD j v0):=by
  rw [cont17,List.getElem?_map,h];simp [hn]
theorem made_list {f c:Fld} (hf:FldOk f) (hcs:f.cs=[c]) (hk:f.k=15) (ih:MadeV c):MadeV f:=by
  intro vs hc i v hi
  have h0:=(Fld.can_eq f vs).1 hc
  have hv:=h0.fit v (List.mem_of_getElem? hi)
  have hlt:=(List.getElem?_eq_some_iff.1 hi).1
  have hc0:f.cs[0]? = some c:=by rw [hcs];rfl
  have hck:=Fld.can_kid hc0 hc
  rw [Fld.val_eq]
  unfold valK
  rw [dn15 hk,valid_null (by rw [hk];rfl) rfl hi,nk_nul (by omega) (by omega) (by omega)]
  cases hn:v.nul with
  | true=>rw [if_pos rfl];rw [Fld.fit_eq] at hv;exact (fit_nul hv hn).1.symm
  | false =>
    rw [if_neg (by simp),if_neg (by omega),if_pos hk,pfs_ne (by omega),getD_val hc0,part_ds0 (kidsD_get hc0)]
    have hv':=hv
    rw [Fld.fit_eq] at hv'
    unfold fitK at hv'
    rw [hk] at hv'
    simp [hn] at hv'
    have hct:contK f.k f.w (noughts f.cs) 0 vs=vs.flatMap Val.items:=by rw [hk,cont15]
    have he:(rbK f.k vs).ends=sumsL (fun v=>v.items.length) vs:=by simp [rbK,hk]
    have hs:(vs.map fun v=>v.items.length).sum < 2 ^ 31:=by
      have:=((Fld.can_eq c _).1 hck).n4
      rw [hct,List.length_flatMap] at this;omega
    have o:∀{j},j≤vs.length→offR (Dat.mk vs.length 0 (rbK f.k vs).nulls [validB (rbK f.k vs),laidB (rbK f.k vs).ends 4] (kidsD f vs) []) j=((vs.take j).map fun v=>v.items.length).sum:=fun hj=>sums_off hs (by rw [he];rfl) hj
    rw [o (by omega),o (by omega),take_sum_succ _ hi,Nat.add_sub_cancel_left]
    have:(List.range v.items.length).map (fun j=>at0 c.val (c.dn (c.st (contK f.k f.w (noughts f.cs) 0 vs))) (((vs.take i).map fun v=>v.items.length).sum+j))=v.items:=by
      refine range_list rfl fun j x hj=>at0_made ih hck ?_
      rw [hct,flat_get' Val.items hi (List.getElem?_eq_some_iff.1 hj).1];exact hj
    rw [this,val_mk v,hn,hv'.2.1,hv'.2.2.1];rfl
theorem span_cont {f c:Fld} (hcs:f.cs=[c]) (hk:f.k=16) {vs:List Val} (hc:f.can vs):∀v∈vs,(if v.nul then List.replicate f.w.toNat ((noughts f.cs).getD 0 v0) else v.items).length=f.w.toNat:=by
  intro v hv
  have h0:=((Fld.can_eq f vs).1 hc).fit v hv
  cases hn:v.nul with
  | true=>simp
  | false=>simpa using (fit_span hcs hk h0 hn).2.1
theorem made_span {f c:Fld} (hf:FldOk f) (hcs:f.cs=[c]) (hk:f.k=16) (ih:MadeV c):MadeV f:=by
  intro vs hc i v hi
  have h0:=(Fld.can_eq f vs).1 hc
  have hv:=h0.fit v (List.mem_of_getElem? hi)
  have hlt:=(List.getElem?_eq_some_iff.1 hi).1
  have hc0:f.cs[0]? = some c:=by rw [hcs];rfl
  have hck:=Fld.can_kid hc0 hc
  rw [Fld.val_eq]
  unfold valK
  rw [dn16 (.inl hk),valid_null (by rw [hk];rfl) rfl hi,nk_nul (by omega) (by omega) (by omega)]
  cases hn:v.nul with
  | true=>rw [if_pos rfl];rw [Fld.fit_eq] at hv;exact (fit_nul hv hn).1.symm
  | false =>
    rw [if_neg (by simp),if_neg (by omega),if_neg (by omega),if_pos hk,pfs_ne (by omega),getD_val hc0,part_ds0 (kidsD_get hc0)]
    obtain ⟨ht,hl,_⟩:=fit_span hcs hk hv hn
    have hnum:v.num=0:=by
      rw [Fld.fit_eq] at hv;unfold fitK at hv;rw [hk] at hv;simp [hn] at hv;exact hv.2.1
    have hct:contK f.k f.w (noughts f.cs) 0 vs=vs.flatMap fun v=>if v.nul then List.replicate f.w.toNat ((noughts f.cs).getD 0 v0) else v.items:=by rw [hk,cont16]
    have:(List.range f.w.toNat).map (fun j=>at0 c.val (c.dn (c.st (contK f.k f.w (noughts f.cs) 0 vs))) (i*f.w.toNat+j))=v.items:=by
      refine range_list hl fun j x hj=>at0_made ih hck ?_
      have hj':=(List.getElem?_eq_some_iff.1 hj).1
      have e:=flat_get' (fun v=>if v.nul then List.replicate f.w.toNat ((noughts f.cs).getD 0 v0) else v.items) hi (j:=j) (by simpa [hn] using hj')
      rw [chunk_sum (span_cont hcs hk hc) i (by omega)] at e
      rw [hct,e];simpa [hn] using hj
    rw [this,val_mk v,hn,ht,hnum];rfl
theorem made_struct {f:Fld} (hf:FldOk f) (hk:f.k=17) (ih:∀c∈f.cs,MadeV c):MadeV f:=by
  intro vs hc i v hi
  have h0:=(Fld.can_eq f vs).1 hc
  have hv:=h0.fit v (List.mem_of_getElem? hi)
  rw [Fld.val_eq]
  unfold valK
  rw [dn16 (.inr hk),valid_null (by rw [hk];rfl) rfl hi,nk_nul (by omega) (by omega) (by omega)]
  cases hn:v.nul with
  | true=>rw [if_pos rfl];rw [Fld.fit_eq] at hv;exact (fit_nul hv hn).1.symm
  | false =>
    rw [if_neg (by simp),if_neg (by omega),if_neg (by omega),if_neg (by omega),if_pos hk,pfs_ne (by omega),List.length_map]
    obtain ⟨ht,hl,_⟩:=fit_struct hk hv hn
    have hnum:v.num=0:=by
      rw [Fld.fit_eq] at hv;unfold fitK at hv;rw [hk] at hv;simp [hn] at hv;exact hv.2.1
    have:(List.range f.cs.length).map (fun j=>at0 ((f.cs.map Fld.val).getD j vz) (part (Dat.mk vs.length 0 (rbK f.k vs).nulls [validB (rbK f.k vs)] (kidsD f vs) []) j) i)=v.items:=by
      refine range_list hl fun j x hj => ?_
      have hjl:j < f.cs.length:=by have:=(List.getElem?_eq_some_iff.1 hj).1;omega
      have hcj:f.cs[j]? = some f.cs[j]:=List.getElem?_eq_getElem hjl
      rw [getD_val hcj,part_ds0 (kidsD_get hcj)]
      refine at0_made (ih _ (List.getElem_mem hjl)) (Fld.can_kid hcj hc) ?_
      rw [hk,cont_get17 hi hn,getD_of hj]
    rw [this,val_mk v,hn,ht,hnum];rfl
theorem made_choice {f:Fld} (hf:FldOk f) (hk:f.k=18) (ih:∀c∈f.cs,MadeV c):MadeV f:=by
  intro vs hc i v hi
  have h0:=(Fld.can_eq f vs).1 hc
  have hv:=h0.fit v (List.mem_of_getElem? hi)
  have hlt:=(List.getElem?_eq_some_iff.1 hi).1
  have n4:=h0.n4
  have hl:f.lets=false:=by rw [lets_nul f hf];exact hf.right.2.1.2.1 hk
  obtain ⟨hn,ht,h0n,c,x,hcc,hit,hx⟩:=fit_choice hk hl hv
  have hc32:=(codeN_lt hf hk hv).1
  rw [Fld.val_eq]
  unfold valK
  rw [dn18 hk,if_neg (by unfold nullB hasV;simp [hk]),if_neg (by omega),if_neg (by omega),if_neg (by omega),if_neg (by omega),if_pos hk,pfs_ne (by omega)]
  have ha:(rbK f.k vs).all=vs.map fun v=>UInt8.ofNat (codeN v):=by simp [rbK,hk]
  have he:(rbK f.k vs).ends=(List.range vs.length).map fun i=>((vs.take i).filter fun v=>decide (codeN v=codeN (vs.getD i v0))).length:=by simp [rbK,hk]
  have hcode:codeD (Dat.mk vs.length 0 (rbK f.k vs).nulls [(rbK f.k vs).all,laidB (rbK f.k vs).ends 4] (kidsD f vs) []) i=codeN v:=by
    show (((rbK f.k vs).all.getD i 0)).toNat=_
    rw [ha,List.getD_eq_getElem?_getD,List.getElem?_map,hi]
    simp only [Option.map_some,Option.getD_some,UInt8.toNat_ofNat']
    omega
  have hend:(rbK f.k vs).ends[i]? = some ((vs.take i).filter fun u=>decide (codeN u=codeN v)).length:=by
    rw [he,List.getElem?_map,List.getElem?_range hlt,Option.map_some,List.getD_eq_getElem?_getD,hi];rfl
  have hlen:((vs.take i).filter fun u=>decide (codeN u=codeN v)).length≤4096:=by
    have:=List.length_filter_le (fun u=>decide (codeN u=codeN v)) (vs.take i)
    rw [List.length_take] at this;omega
  have hoff:offR (Dat.mk vs.length 0 (rbK f.k vs).nulls [(rbK f.k vs).all,laidB (rbK f.k vs).ends 4] (kidsD f vs) []) i=((vs.take i).filter fun u=>decide (codeN u=codeN v)).length:=by
    show (i32 (laidB (rbK f.k vs).ends 4) i).toNat=_
    rw [laidB_i32 hend (by omega)];rfl
  rw [hcode,hoff,getD_val hcc,part_ds0 (kidsD_get hcc),at0_made (ih c (List.mem_of_getElem? hcc)) (Fld.can_kid hcc hc) (v:=x) (by rw [hk,cont18,List.getElem?_map,filter_at _ hi rfl,Option.map_some,hit];rfl)]
  rw [val_mk v,hn,ht,hit]
  have:((codeN v:Nat):Int)=v.num:=by unfold codeN;omega
  simp only [Val.mk.injEq,true_and,and_true]
  rw [show codeN (Val.mk false v.num [] [x])=codeN v from rfl,this]
theorem made_dict {f c:Fld} (hf:FldOk f) (hcs:f.cs=[c]) (hk:f.k=19) (ih:MadeV c):MadeV f:=by
  intro vs hc i v hi
  have h0:=(Fld.can_eq f vs).1 hc
  have hv:=h0.fit v (List.mem_of_getElem? hi)
  have hlt:=(List.getElem?_eq_some_iff.1 hi).1
  have hc0:f.cs[0]? = some c:=by rw [hcs];rfl
  have hck:=Fld.can_kid hc0 hc
  have six:=hf.right.1.2.2.2.2.2.1 hk
  rw [Fld.val_eq]
  unfold valK
  rw [dn19 hk,valid_null (by rw [hk];rfl) rfl hi,nk_nul (by omega) (by omega) (by omega)]
  cases hn:v.nul with
  | true=>rw [if_pos rfl];rw [Fld.fit_eq] at hv;exact (fit_nul hv hn).1.symm
  | false =>
    rw [if_neg (by simp),if_neg (by omega),if_neg (by omega),if_neg (by omega),if_neg (by omega),if_neg (by omega),if_pos hk,pfs_ne (by omega),getD_val hc0,part_ds1 (kidsD_get hc0)]
    obtain ⟨e1,e2,e3⟩:=wB_wid (k:=f.ix) (by omega)
    have he:(rbK f.k vs).ends=vs.map fun v=>if v.nul then 0 else (posV v (distV vs)).getD 0:=by simp [rbK,hk]
    have hm:=mem_distV _ vs rfl v (List.mem_of_getElem? hi) hn
    obtain ⟨p,hp⟩:∃p,posV v (distV vs)=some p:=by
      cases hp:posV v (distV vs) with
      | none=>exact absurd hm (posV_none.1 hp)
      | some p=>exact ⟨p,rfl⟩
    have hend:(rbK f.k vs).ends[i]? = some p:=by rw [he,List.getElem?_map,hi];simp [hn,hp]
    have hget:=(posV_some hp).1
    have hpl:=(List.getElem?_eq_some_iff.1 hget).1
    have hds:=h0.ds hk
    have hct:contK f.k f.w (noughts f.cs) 0 vs=distV vs:=by rw [hk,cont19]
    have hn4:=((Fld.can_eq c _).1 hck).n4
    rw [hct] at hn4
    have hb:p < 2 ^ (8*wB f.ix):=by
      unfold numsK at hds
      rcases e2 with q | q | q | q <;> rw [q] <;> simp <;> (try omega)
      have:f.ix=3∨f.ix=7:=by
        unfold wB at q
        by_cases h3:f.ix=3∨f.ix=7
        · exact h3
        · rw [if_neg h3] at q;split at q <;> (try omega);split at q <;> omega
      rcases this with q2 | q2 <;> rw [q2] at hds <;> simp at hds <;> omega
    show at0 c.val _ (nAt (laidB (rbK f.k vs).ends (wB f.ix)) (i*(widK f.ix).toNat) (widK f.ix).toNat)=v
    rw [e1,laidB_nAt hend,Nat.mod_eq_of_lt hb]
    exact at0_made ih hck (by rw [hct];exact hget)
theorem ends_N {l:List Nat} (hl:∀x∈l,x≤4096) {n u:Int} {b:List UInt8} {i x:Nat} (hi:l[i]? = some x):endN (.mk n 0 u [b,laidB l 4] [] []) i=x:=by
  have:=hl x (List.mem_of_getElem? hi)
  show i32 (laidB l 4) (0+i)=x
  rw [Nat.zero_add];exact laidB_i32 hi (by omega)
theorem made_runs {f c:Fld} (hf:FldOk f) (hcs:f.cs=[c]) (hk:f.k=20) (ih:MadeV c):MadeV f:=by
  intro vs hc i v hi
  have h0:=(Fld.can_eq f vs).1 hc
  have hlt:=(List.getElem?_eq_some_iff.1 hi).1
  have hc0:f.cs[0]? = some c:=by rw [hcs];rfl
  have hck:=Fld.can_kid hc0 hc
  have n4:=h0.n4
  have R:=runs_ok _ vs rfl
  have he:(rbK f.k vs).ends=(runE vs).2:=by rw [hk];simp [rbK]
  have hle:∀x∈(runE vs).2,x≤4096:=fun x hx=>by
    obtain ⟨j,hj⟩:=List.mem_iff_getElem?.1 hx
    have:=(R.pos j x hj).2;omega
  rw [Fld.val_eq]
  unfold valK
  rw [dn20 hk,if_neg (by unfold nullB hasV;simp [hk]),if_neg (by omega),if_neg (by omega),if_neg (by omega),if_neg (by omega),if_neg (by omega),if_neg (by omega),if_pos hk]
  have hpf:(pfs f.k f.cs)[1]? = some c:=by unfold pfs;rw [if_pos hk,hcs];rfl
  rw [getD_val hpf,part_ds0 (j:=1) (c:=c.dn (c.st (contK f.k f.w (noughts f.cs) 0 vs))) (by rw [List.getElem?_cons_succ];exact kidsD_get hc0),part_ds0 (j:=0) rfl,he]
  obtain ⟨j,e,a1,a2,a3,a4⟩:=R.row i v hi
  have hjl:=(List.getElem?_eq_some_iff.1 a2).1
  rw [runN_of (j:=j) (by simpa [Dat.len] using hjl) (by rw [ends_N hle a2];omega) (fun j' hj'=>by
    have hx:=List.getElem?_eq_getElem (l:=(runE vs).2) (i:=j') (by omega)
    rw [ends_N hle hx]
    have:=a4 j' _ hj' hx
    omega)]
  exact at0_made ih hck (by rw [hk,cont20];exact a1)
/-- **THE VALUES OF WHAT IS MADE.** -/
theorem made_val:∀f:Fld,FldOk f→MadeV f
  | .mk nm nul k w id ix cs,hf=>by
    have ih:∀c∈cs,MadeV c:=fun c hc=>made_val c (hf.kid hc)
    generalize hF:Fld.mk nm nul k w id ix cs=f at hf
    have ih:∀c∈f.cs,MadeV c:=by rw [←hF];exact ih
    by_cases k15:f.k=15
    · obtain ⟨c,hcs,_⟩:=hf.one (.inl k15)
      exact made_list hf hcs k15 (ih c (by rw [hcs];simp))
    by_cases k16:f.k=16
    · obtain ⟨c,hcs,_⟩:=hf.one (by omega)
      exact made_span hf hcs k16 (ih c (by rw [hcs];simp))
    by_cases k17:f.k=17
    · exact made_struct hf k17 ih
    by_cases k18:f.k=18
    · exact made_choice hf k18 ih
    by_cases k19:f.k=19
    · obtain ⟨c,hcs,_⟩:=hf.one (by omega)
      exact made_dict hf hcs k19 (ih c (by rw [hcs];simp))
    by_cases k20:f.k=20
    · obtain ⟨c,hcs,_⟩:=hf.one (by omega)
      exact made_runs hf hcs k20 (ih c (by rw [hcs];simp))
    exact made_flat hf ⟨k15,k16,k17,k18,k19,k20⟩
end Go.Proofs.YtlbbdbdjiekkaaaGreatDoor
set_option maxRecDepth 100000
set_option maxHeartbeats 200000
/- What is made is an array of its field. -/
namespace Go.Proofs.YtlbbdbdjiekkaaaGreatDoor
open Go Go.Sh Go.WideShapes
theorem null_made {f:Fld} (hf:FldOk f) {vs:List Val} {i:Nat} {v:Val} (hi:vs[i]? = some v):nullB f.k (f.dn (f.st vs)).bufs i=nulK f.k v:=by
  have ks:=hf.ks
  by_cases k1:f.k=1
  · unfold nullB nulK;simp [k1]
  by_cases k18:f.k=18
  · unfold nullB nulK hasV;simp [k18]
  by_cases k20:f.k=20
  · unfold nullB nulK hasV;simp [k20]
  refine valid_null (by unfold hasV;simp [k1,k18,k20]) ?_ hi
  by_cases e12:f.k=12∨f.k=13
  · rw [dn12 e12];rfl
  by_cases e15:f.k=15
  · rw [dn15 e15];rfl
  by_cases e16:f.k=16∨f.k=17
  · rw [dn16 e16];rfl
  by_cases e19:f.k=19
  · rw [dn19 e19];rfl
  by_cases e2:f.k=2
  · rw [dn2 e2];rfl
  by_cases e14:f.k=14
  · rw [dn14 e14];rfl
  rw [dn3 (by omega)];rfl
theorem countP_range {p:Nat→Bool} {q:Val→Bool}:∀{vs:List Val},(∀i v,vs[i]? = some v→p i=q v)→(List.range vs.length).countP p=vs.countP q
  | vs, h=>by
    have e:(List.range vs.length).map p=vs.map q:=by
      refine List.ext_getElem? fun i => ?_
      rw [List.getElem?_map,List.getElem?_map]
      by_cases hi:i < vs.length
      · have:=List.getElem?_eq_getElem (l:=vs) (i:=i) hi
        rw [List.getElem?_range hi,this,Option.map_some,Option.map_some,h i _ this]
      · rw [List.getElem?_eq_none (by simpa using hi),List.getElem?_eq_none (by simpa using hi)];rfl
    have e2:∀{α:Type} (p:α→Bool) (l:List α),l.countP p=(l.map p).countP id:=fun p l=>by rw [List.countP_map];rfl
    rw [e2 p,e2 q,e]
theorem nul_made {f:Fld} (hf:FldOk f) {vs:List Val} (hc:f.can vs):NulOk f.nul f.k (f.dn (f.st vs)):=by
  have h0:=(Fld.can_eq f vs).1 hc
  have e:cntN f.k (f.dn (f.st vs)).bufs (f.dn (f.st vs)).off.toNat (f.dn (f.st vs)).len.toNat=vs.countP (nulK f.k):=by
    rw [dn_off,dn_len]
    unfold cntN
    exact countP_range (vs:=vs) fun i v hi=>by rw [show (0:Int).toNat+i=i from Nat.zero_add i];exact null_made hf hi
  refine ⟨by rw [e,dn_nul],fun hpos => ?_⟩
  rw [e] at hpos
  obtain ⟨v,hv,hn⟩:=List.countP_pos_iff.1 hpos
  by_cases k1:f.k=1
  · exact hf.right.2.1.1 k1
  · have k18:f.k≠18∧f.k≠20:=by constructor <;> (intro q;unfold nulK at hn;simp [q] at hn)
    rw [nk_nul k1 k18.1 k18.2] at hn
    have hfit:=h0.fit v hv
    rw [Fld.fit_eq] at hfit
    have:=(fit_nul hfit hn).2
    rwa [lets_nul f hf] at this
theorem valid_len {k:Int} {vs:List Val}:(validB (rbK k vs)).length=0∨(validB (rbK k vs)).length=(vs.length+7) / 8:=by
  unfold validB
  split
  · exact .inl rfl
  · refine .inr ?_
    show (packB _).length=_
    rw [packB_len,List.length_map]
theorem sums_len4 (g:Val→Nat) (vs:List Val):(laidB (sumsL g vs) 4).length=(vs.length+1)*4:=by rw [laidB_len,sumsL_len]
theorem nums_plain {k:Int} (h:plainK k=true) (vs:List Val):(rbK k vs).nums=vs.map (fun v=>(v.num % 2 ^ 64).toNat)∧(rbK k vs).texts=vs.map Val.text:=by simp [rbK,h]
theorem need0 {k w ix:Int} {n b:Nat} (hk:k≠18) (h:b=0∨b=(n+7) / 8):needB k w ix 0 n b≤b:=by
  unfold needB
  rw [if_neg hk]
  by_cases hb:b=0
  · rw [if_pos (.inl ⟨rfl,hb⟩)];omega
  · rw [if_neg (by omega),if_pos (.inl rfl)];omega
theorem siz_bufs {f:Fld} (hf:FldOk f) {vs:List Val} (hc:f.can vs):((f.dn (f.st vs)).bufs.length:Int)=bufK f.k∧(∀j,j < (f.dn (f.st vs)).bufs.length→(bufD (f.dn (f.st vs)).bufs j).length≤65536) ∧
    ∀j,j < (f.dn (f.st vs)).bufs.length→needB f.k f.w f.ix j vs.length (bufD (f.dn (f.st vs)).bufs j).length≤(bufD (f.dn (f.st vs)).bufs j).length:=by
  have h0:=(Fld.can_eq f vs).1 hc
  have n4:=h0.n4
  have ks:=hf.ks
  have vl:=valid_len (k:=f.k) (vs:=vs)
  have two:∀{a b:List UInt8} {P:Nat→Prop},(∀j,j < [a,b].length→P j)↔P 0∧P 1:=fun {a b P}=>⟨fun h=>⟨h 0 (by simp),h 1 (by simp)⟩,fun h j hj=>by
    match j,hj with
    | 0,_=>exact h.1
    | 1,_=>exact h.2⟩
  by_cases k1:f.k=1
  · rw [dn1 k1];exact ⟨by rw [k1];rfl,fun j hj=>by simp [Dat.bufs] at hj,fun j hj=>by simp [Dat.bufs] at hj⟩
  by_cases k20:f.k=20
  · rw [dn20 k20];exact ⟨by rw [k20];rfl,fun j hj=>by simp [Dat.bufs] at hj,fun j hj=>by simp [Dat.bufs] at hj⟩
  by_cases k16:f.k=16∨f.k=17
  · rw [dn16 k16]
    refine ⟨by rcases k16 with q | q <;> rw [q] <;> rfl,fun j hj => ?_,fun j hj => ?_⟩
    · have:j=0:=by simp [Dat.bufs] at hj;exact hj
      subst this
      show (validB (rbK f.k vs)).length≤_;omega
    · have:j=0:=by simp [Dat.bufs] at hj;exact hj
      subst this
      show needB f.k f.w f.ix 0 vs.length (validB (rbK f.k vs)).length≤(validB (rbK f.k vs)).length
      exact need0 (by omega) vl
  by_cases k12:f.k=12∨f.k=13
  · have he:(rbK f.k vs).ends=sumsL (fun v=>v.text.length) vs:=by simp [rbK,k12]
    have ha:(rbK f.k vs).all=vs.flatMap Val.text:=by simp [rbK,k12]
    have htx:=h0.tx k12
    rw [dn12 k12,he,ha]
    have l1:=sums_len4 (fun v=>v.text.length) vs
    refine ⟨by rcases k12 with q | q <;> rw [q] <;> rfl,fun j hj => ?_,fun j hj => ?_⟩
    · match j,hj with
      | 0,_=>show (validB (rbK f.k vs)).length≤_;omega
      | 1,_=>show (laidB _ 4).length≤_;omega
      | 2,_=>exact htx
    · match j,hj with
      | 0,_=>exact need0 (by omega) vl
      | 1,_ =>
        show needB f.k f.w f.ix 1 vs.length (laidB _ 4).length≤(laidB (sumsL (fun v=>v.text.length) vs) 4).length
        unfold needB
        rw [if_neg (by omega),if_neg (by omega),if_neg (by omega),if_pos (by omega)];omega
      | 2,_=>unfold needB;rw [if_neg (by omega),if_pos (.inr rfl)];exact Nat.zero_le _
  by_cases k15:f.k=15
  · have he:(rbK f.k vs).ends=sumsL (fun v=>v.items.length) vs:=by simp [rbK,k15]
    rw [dn15 k15,he]
    have l1:=sums_len4 (fun v=>v.items.length) vs
    refine ⟨by rw [k15];rfl,two.2 ⟨?_,?_⟩,two.2 ⟨?_,?_⟩⟩
    · show (validB (rbK f.k vs)).length≤_;omega
    · show (laidB _ 4).length≤_;omega
    · show needB f.k f.w f.ix 0 vs.length (validB (rbK f.k vs)).length≤(validB (rbK f.k vs)).length
      exact need0 (by omega) vl
    · show needB f.k f.w f.ix 1 vs.length (laidB _ 4).length≤(laidB (sumsL (fun v=>v.items.length) vs) 4).length
      unfold needB
      rw [if_neg (by omega),if_neg (by omega),if_neg (by omega),if_pos (by omega)];omega
  by_cases k18:f.k=18
  · have ha:(rbK f.k vs).all=vs.map fun v=>UInt8.ofNat (codeN v):=by simp [rbK,k18]
    have he:(rbK f.k vs).ends.length=vs.length:=by simp [rbK,k18]
    rw [dn18 k18]
    have l1:=laidB_len (rbK f.k vs).ends 4
    rw [he] at l1
    have l0:(rbK f.k vs).all.length=vs.length:=by rw [ha,List.length_map]
    refine ⟨by rw [k18];rfl,two.2 ⟨?_,?_⟩,two.2 ⟨?_,?_⟩⟩
    · show (rbK f.k vs).all.length≤_;omega
    · show (laidB _ 4).length≤_;omega
    · show needB f.k f.w f.ix 0 vs.length (rbK f.k vs).all.length≤(rbK f.k vs).all.length
      unfold needB
      rw [if_pos k18];omega
    · show needB f.k f.w f.ix 1 vs.length (laidB _ 4).length≤(laidB (rbK f.k vs).ends 4).length
      unfold needB
      rw [if_pos k18];omega
  -- those with a validity and one buffer more
  have last:∀(b:List UInt8) (W:Nat),b.length≤65536→(f.k=2→b.length=(vs.length+7) / 8)→(f.k≠2→W=(wdK f.k f.w f.ix).toNat∧b.length=vs.length*W) →
      (([validB (rbK f.k vs),b].length:Nat):Int)=bufK f.k∧(∀j,j < [validB (rbK f.k vs),b].length→(bufD [validB (rbK f.k vs),b] j).length≤65536)∧∀j,j < [validB (rbK f.k vs),b].length→needB f.k f.w f.ix j vs.length (bufD [validB (rbK f.k vs),b] j).length≤(bufD [validB (rbK f.k vs),b] j).length:=by
    intro b W hb h2 hn2
    refine ⟨by unfold bufK;rw [if_neg (by omega),if_neg (by omega),if_neg (by omega)];rfl,two.2 ⟨?_,hb⟩,two.2 ⟨?_,?_⟩⟩
    · show (validB (rbK f.k vs)).length≤_;omega
    · show needB f.k f.w f.ix 0 vs.length (validB (rbK f.k vs)).length≤(validB (rbK f.k vs)).length
      exact need0 k18 vl
    · show needB f.k f.w f.ix 1 vs.length b.length≤b.length
      unfold needB
      rw [if_neg k18,if_neg (by omega)]
      by_cases k2:f.k=2
      · rw [if_pos (.inr k2),h2 k2];exact Nat.le_refl _
      · obtain ⟨e1,e2⟩:=hn2 k2
        rw [if_neg (by omega),if_neg (by omega),e2,e1];exact Nat.le_refl _
  by_cases k19:f.k=19
  · have he:(rbK f.k vs).ends.length=vs.length:=by simp [rbK,k19]
    have six:=hf.right.1.2.2.2.2.2.1 k19
    obtain ⟨e1,e2,_⟩:=wB_wid (k:=f.ix) (by omega)
    rw [dn19 k19]
    have l:=laidB_len (rbK f.k vs).ends (wB f.ix)
    rw [he] at l
    refine last _ (wB f.ix) ?_ (fun q=>by omega) fun _=>⟨?_,l⟩
    · rw [l];rcases e2 with q | q | q | q <;> rw [q] <;> omega
    · unfold wdK;rw [if_neg (by omega),if_pos k19,e1]
  have pk:plainK f.k=true:=by
    simp only [not_or] at k12 k16
    simp [plainK,k1,k12,k15,k16,k18,k19,k20]
  obtain ⟨en,et⟩:=nums_plain pk vs
  by_cases k2:f.k=2
  · rw [dn2 k2]
    have l:=boolB_len (rbK f.k vs).nums
    rw [en,List.length_map] at l
    refine last _ 0 (by rw [en,l];omega) (fun _=>by rw [en];exact l) fun q=>absurd k2 q
  by_cases k14:f.k=14
  · rw [dn14 k14]
    have hw:=hf.right.1.2.2.1 k14
    have l:(fixB f.w.toNat (rbK f.k vs).texts).length=vs.length*f.w.toNat:=by
      rw [fixB_len,et,List.length_map]
      intro t ht
      rw [et] at ht
      obtain ⟨u,hu,rfl⟩:=List.mem_map.1 ht
      have hfu:=h0.fit u hu
      cases hun:u.nul with
      | true=>rw [Fld.fit_eq] at hfu;rw [(fit_nul hfu hun).1];exact .inl rfl
      | false=>exact .inr (((fit_flat ⟨k1,k15,by omega,by omega,k18,k19,k20⟩ hfu hun).2.1 (by omega)).2.2 k14)
    refine last _ f.w.toNat ?_ (fun q=>by omega) fun _=>⟨by unfold wdK;rw [if_pos k14],l⟩
    rw [l]
    have:vs.length*f.w.toNat≤4096*16:=Nat.mul_le_mul n4 (by omega)
    omega
  rw [dn3 (by omega)]
  obtain ⟨e1,e2,_⟩:=wB_wid (k:=f.k) (by omega)
  have l:=laidB_len (rbK f.k vs).nums (wB f.k)
  rw [en,List.length_map] at l
  refine last _ (wB f.k) ?_ (fun q=>absurd q k2) fun _=>⟨by unfold wdK;rw [if_neg k14,if_neg k19,e1],by rw [en];exact l⟩
  rw [en,l];rcases e2 with q | q | q | q <;> rw [q] <;> omega
end Go.Proofs.YtlbbdbdjiekkaaaGreatDoor
set_option maxRecDepth 100000
set_option maxHeartbeats 200000
/- What is made is an array of its field: rows, parts, ends. -/
namespace Go.Proofs.YtlbbdbdjiekkaaaGreatDoor
open Go Go.Sh Go.WideShapes
abbrev MadeA (c:Fld):Prop:=∀us,c.can us→c.arr (c.dn (c.st us))
theorem wts_made {f:Fld} (hf:FldOk f) {vs:List Val} (hc:f.can vs):wts f.val (f.dn (f.st vs))=vs.map Val.wgt:=by
  unfold wts
  rw [dn_len]
  show (List.range vs.length).map _=_
  refine range_list (by simp) fun i x hi => ?_
  rw [List.getElem?_map,Option.map_eq_some_iff] at hi
  obtain ⟨v,hv,rfl⟩:=hi
  rw [at0_made (made_val f hf) hc hv]
theorem arr_of {f:Fld} (hf:FldOk f) {vs:List Val} (hc:f.can vs) (nc:(f.dn (f.st vs)).cs.length=chK f.k f.cs) (nd:(f.dn (f.st vs)).ds.length=diK f.k)
    (ch:∀(j:Nat) (c:Dat),(f.dn (f.st vs)).cs[j]? = some c→(f.k=16→(vs.length:Int)*f.w≤c.len)∧(f.k=17→(vs.length:Int)≤c.len)) (ro:RowsOk f.k f.ix (f.dn (f.st vs)))
    (pt:∀(j:Nat) (c:Dat),(partsD (f.dn (f.st vs)))[j]? = some c→∃g,(pfs f.k f.cs)[j]? = some g∧g.arr c) (eo:f.k=20→EndOk (f.dn (f.st vs))):f.arr (f.dn (f.st vs)):=by
  have h0:=(Fld.can_eq f vs).1 hc
  have n4:=h0.n4
  obtain ⟨b1,b2,b3⟩:=siz_bufs hf hc
  have en:((f.dn (f.st vs)).off+(f.dn (f.st vs)).len).toNat=vs.length:=by rw [dn_off,dn_len];omega
  rw [Fld.arr_eq]
  refine ⟨⟨hf.ty,b1,nc,nd,by rw [dn_len];omega,by rw [dn_off];omega,by rw [dn_nul];omega,?_,by rw [dn_len];omega,by rw [dn_off];omega,by rw [dn_off,dn_len];omega,b2,fun j hj=>by rw [en];exact b3 j hj,fun j c hj => ?_,nul_made hf hc⟩,ro,fun j c hj => ?_,eo,?_⟩
  · rw [dn_nul,dn_len]
    have:=countP_le' (nulK f.k) vs;omega
  · rw [dn_off,dn_len]
    have:=ch j c hj
    simpa using this
  · obtain ⟨g,hg,ha⟩:=pt j c hj
    exact ⟨g.arr,by rw [List.getElem?_map,hg];rfl,ha⟩
  · have:=wts_made hf hc
    rw [Fld.val_eq] at this
    rw [this,map_sum_wgt];exact h0.wt
theorem rows_none {k ix:Int} {d:Dat} (h:¬(k=12∨k=13∨k=15∨k=18∨k=19)):RowsOk k ix d:=⟨fun q=>absurd q (by omega),fun q=>absurd q (by omega),fun q=>absurd q (by omega)⟩
/-- offsets that are sums -/
theorem off_made {d:Dat} {g:Val→Nat} {vs:List Val} (ho:d.off=0) (hb:bufD d.bufs 1=laidB (sumsL g vs) 4) (hs:(vs.map g).sum < 2 ^ 31) {i:Nat} (hi:i≤vs.length):offN d i=((vs.take i).map g).sum:=by
  unfold offN
  rw [hb,ho]
  show i32 _ (0+i)=_
  rw [Nat.zero_add,sums_i32 hs hi]
theorem offs_made {d:Dat} {k:Int} {g:Val→Nat} {vs:List Val} (ho:d.off=0) (hl:d.len=vs.length) (hb:bufD d.bufs 1=laidB (sumsL g vs) 4) (hs:(vs.map g).sum < 2 ^ 31) (hm:mostD k d=(vs.map g).sum)
    (hu:k=12→∀(i:Nat) v,vs[i]? = some v→nullB k d.bufs i=false→utf (((bufD d.bufs 2).drop (((vs.take i).map g).sum)).take (g v))=true):OffOk k d:=by
  refine ⟨fun i hi => ?_,fun e i hi hn => ?_⟩
  · have hi':i≤vs.length:=by rw [hl] at hi;omega
    rw [off_made ho hb hs hi',hm]
    refine ⟨by omega,by have:=take_sum_le g vs i;omega,fun j hj => ?_⟩
    subst hj
    rw [off_made ho hb hs (by omega)]
    have hv:=List.getElem?_eq_getElem (l:=vs) (i:=j) (by omega)
    rw [take_sum_succ g hv];omega
  · have hi':i < vs.length:=by rw [hl] at hi;omega
    have hv:=List.getElem?_eq_getElem (l:=vs) (i:=i) hi'
    rw [ho] at hn
    have:=hu e i _ hv (by simpa using hn)
    rw [off_made ho hb hs (by omega),off_made ho hb hs (by omega),take_sum_succ g hv]
    have e1:((((vs.take i).map g).sum+g vs[i]:Nat):Int).toNat - ((((vs.take i).map g).sum:Nat):Int).toNat=g vs[i]:=by omega
    rw [e1];exact this
theorem arr_flat {f:Fld} (hf:FldOk f) (hk:f.k≠15∧f.k≠16∧f.k≠17∧f.k≠18∧f.k≠19∧f.k≠20):MadeA f:=by
  intro vs hc
  have h0:=(Fld.can_eq f vs).1 hc
  obtain ⟨k15,k16,k17,k18,k19,k20⟩:=hk
  have ks:=hf.ks
  have hncs:f.cs=[]:=List.length_eq_zero_iff.1 (hf.right.1.2.2.2.2.2.2.2.2.2.2 ⟨k15,k16,k19,k20,k17,k18⟩)
  have hd:(f.dn (f.st vs)).cs=[]∧(f.dn (f.st vs)).ds=[]:=by
    by_cases k1:f.k=1
    · rw [dn1 k1];exact ⟨rfl,rfl⟩
    by_cases e12:f.k=12∨f.k=13
    · rw [dn12 e12];exact ⟨rfl,rfl⟩
    by_cases e2:f.k=2
    · rw [dn2 e2];exact ⟨rfl,rfl⟩
    by_cases e14:f.k=14
    · rw [dn14 e14];exact ⟨rfl,rfl⟩
    rw [dn3 (by omega)];exact ⟨rfl,rfl⟩
  refine arr_of hf hc ?_ ?_ (fun j c hj=>by rw [hd.1] at hj;simp at hj) ?_ (fun j c hj=>by unfold partsD at hj;rw [hd.1,hd.2] at hj;simp at hj) (fun q=>absurd q k20)
  · rw [hd.1,hncs];unfold chK;rw [if_neg k19,if_neg k20];rfl
  · rw [hd.2];unfold diK;rw [if_neg k19];rfl
  · by_cases e12:f.k=12∨f.k=13
    · have htx:=h0.tx e12
      have he:(rbK f.k vs).ends=sumsL (fun v=>v.text.length) vs:=by simp [rbK,e12]
      have ha:(rbK f.k vs).all=vs.flatMap Val.text:=by simp [rbK,e12]
      refine ⟨fun _ => ?_,fun q=>absurd q (by omega),fun q=>absurd q (by omega)⟩
      refine offs_made (dn_off f _) (dn_len f vs) (g:=fun v=>v.text.length) (by rw [dn12 e12,he];rfl) (by rw [List.length_flatMap] at htx;omega) ?_ fun e i v hi hn => ?_
      · unfold mostD;rw [if_neg k15,dn12 e12,ha]
        show ((vs.flatMap Val.text).length:Int)=_
        rw [List.length_flatMap]
      · rw [null_made hf hi,nk_nul (by omega) k18 k20] at hn
        have hv:=h0.fit v (List.mem_of_getElem? hi)
        rw [dn12 e12,ha]
        show utf (((vs.flatMap Val.text).drop _).take v.text.length)=true
        rw [flat_cut Val.text hi]
        exact ((fit_flat ⟨by omega,k15,k16,k17,k18,k19,k20⟩ hv hn).2.1 (by omega)).2.1 e
    · exact rows_none (by omega)
end Go.Proofs.YtlbbdbdjiekkaaaGreatDoor
set_option maxRecDepth 100000
set_option maxHeartbeats 200000
/- What is made is an array of its field: all fields. -/
namespace Go.Proofs.YtlbbdbdjiekkaaaGreatDoor
open Go Go.Sh Go.WideShapes
end Go.Proofs.YtlbbdbdjiekkaaaGreatDoor
set_option maxRecDepth 100000
set_option maxHeartbeats 1000000
/- The base of what makes: rows, weights. -/
namespace Go.Proofs.YtlbbdbdjiekkaaaGreatDoor
open Go Go.Sh Go.WideShapes
/-- the sixteen cells of the base -/
def baseV (f:Fld) (sf sn sb:Sl) (rows nulls heavy:Nat) (ex:List Value):List Value :=
  .string f.name::.bool f.nul::.int .i64 f.k::.int .i64 f.w::.int .i64 f.id::.int .i64 f.ix::Sl.v sf::.int .i64 rows::.int .i64 nulls::Sl.v sb::.int .i64 heavy ::
  .bool f.nought.nul::.int .i64 f.nought.num::.string (bs f.nought.text)::Sl.v sn::.bool f.small::ex
/-- a base in block b, its bits in T -/
structure BaseH (T:Nat→Prop) (h:Hp) (b:Nat) (ty:TypeId) (f:Fld) (sf sn sb:Sl) (r:Rb) (ex:List Value):Prop where
  k:Blk h b (baseV f sf sn sb r.rows r.nulls r.heavy ex).toArray ty
  o:Os T h sb (bv r.bits) Y8
  nT:¬T b
  len:r.bits.length=(r.rows+7) / 8
  nl:r.nulls≤r.rows
  rl:r.rows≤4096
section
variable {T S:Nat→Prop} {h h':Hp} {b:Nat} {ty:TypeId} {f:Fld} {sf sn sb:Sl} {r:Rb} {ex:List Value} {Kp:PK}
theorem BaseH.lt (B:BaseH T h b ty f sf sn sb r ex):b < h.size:=B.k.lt
theorem BaseH.fr (B:BaseH T h b ty f sf sn sb r ex) (t:Tn S h h') (hb:¬S b) (hn:∀c,T c→c < h.size→¬S c):BaseH T h' b ty f sf sn sb r ex :=
  ⟨t.blk B.k hb,B.o.fr t hn,B.nT,B.len,B.nl,B.rl⟩
theorem bor8 (x y:Nat) (hx:x < 2 ^ 8) (hy:y < 2 ^ 8):bitsV .or .u8 (x:Int) (y:Int)=((x ||| y:Nat):Int):=by
  have h:x ||| y < 2 ^ 8:=Nat.or_lt_two_pow hx hy
  have e:(BitVec.ofInt 8 (x:Int) ||| BitVec.ofInt 8 (y:Int)).toNat=x ||| y:=by
    rw [BitVec.toNat_or,BitVec.ofInt_natCast,BitVec.ofInt_natCast,BitVec.toNat_ofNat,BitVec.toNat_ofNat,Nat.mod_eq_of_lt hx,Nat.mod_eq_of_lt hy]
  show IntKind.u8.wrap ((BitVec.ofInt 8 (x:Int) ||| BitVec.ofInt 8 (y:Int)).toNat:Int)=_
  rw [e];simp only [IntKind.wrap,IntKind.signed,IntKind.bits];simp;omega
end
section
variable {h:Hp} {b:Nat} {ty:TypeId} {f:Fld} {sf sn sb sb':Sl} {n u w m:Nat} {ex:List Value} {K:HP}
theorem BV.st7 (k:Blk h b (baseV f sf sn sb n u w ex).toArray ty) (hk:∀h',Only b h h'→Blk h' b (baseV f sf sn sb m u w ex).toArray ty→K h'):St h ⟨b,7,none⟩ (.int .i64 (m:Int)) K :=
  St_i k (by simp [baseV]) rfl fun h' o k'=>hk h' o (by simpa [baseV] using k')
theorem BV.st8 (k:Blk h b (baseV f sf sn sb n u w ex).toArray ty) (hk:∀h',Only b h h'→Blk h' b (baseV f sf sn sb n m w ex).toArray ty→K h'):St h ⟨b,8,none⟩ (.int .i64 (m:Int)) K :=
  St_i k (by simp [baseV]) rfl fun h' o k'=>hk h' o (by simpa [baseV] using k')
theorem BV.st9 (k:Blk h b (baseV f sf sn sb n u w ex).toArray ty) (hk:∀h',Only b h h'→Blk h' b (baseV f sf sn sb' n u w ex).toArray ty→K h'):St h ⟨b,9,none⟩ (Sl.v sb') K :=
  St_i k (by simp [baseV]) rfl fun h' o k'=>hk h' o (by simpa [baseV] using k')
theorem BV.st10 (k:Blk h b (baseV f sf sn sb n u w ex).toArray ty) (hk:∀h',Only b h h'→Blk h' b (baseV f sf sn sb n u m ex).toArray ty→K h'):St h ⟨b,10,none⟩ (.int .i64 (m:Int)) K :=
  St_i k (by simp [baseV]) rfl fun h' o k'=>hk h' o (by simpa [baseV] using k')
theorem BV.ld7 {K:Int→Prop} (k:Blk h b (baseV f sf sn sb n u w ex).toArray ty) (hk:K (n:Int)):Ld h ⟨b,7,none⟩ mI K:=Ld_blk k (by simp [baseV]) hk
theorem BV.ld8 {K:Int→Prop} (k:Blk h b (baseV f sf sn sb n u w ex).toArray ty) (hk:K (u:Int)):Ld h ⟨b,8,none⟩ mI K:=Ld_blk k (by simp [baseV]) hk
theorem BV.ld9 {K:Sl→Prop} (k:Blk h b (baseV f sf sn sb n u w ex).toArray ty) (hk:K sb):Ld h ⟨b,9,none⟩ Sl.v K:=Ld_blk k (by simp [baseV]) hk
theorem BV.ld10 {K:Int→Prop} (k:Blk h b (baseV f sf sn sb n u w ex).toArray ty) (hk:K (w:Int)):Ld h ⟨b,10,none⟩ mI K:=Ld_blk k (by simp [baseV]) hk
end
section
variable {T S:Nat→Prop} {h h':Hp} {b:Nat} {ty:TypeId} {f:Fld} {sf sn sb:Sl} {r:Rb} {ex:List Value} {Kp:PK}
/-- the row is counted -/
theorem row2 {n u w:Nat} {K:Int→HP} (k:Blk h b (baseV f sf sn sb n u w ex).toArray ty) (hn:n < 4096) (hk:∀h',Only b h h'→Blk h' b (baseV f sf sn sb (n+1) u w ex).toArray ty→K 0 h'):J350_2 K Kp (some ⟨b,0,none⟩) h:=by
  refine J350_2.of ?_
  simp only [NN_some,add_blk,Nat.zero_add]
  refine BV.ld7 k (Wr_i64 (by omega) (by omega) ?_)
  exact BV.st7 (m:=n+1) k hk
/-- its bit is laid -/
theorem row1 {n u w:Nat} {bits:List UInt8} {nul:Bool} {K:Int→HP} (k:Blk h b (baseV f sf sn sb n u w ex).toArray ty) (o:Os T h sb (bv bits) Y8) (nT:¬T b) (hl:bits.length=n / 8+1) (hn:n < 4096) (hu:u≤n)
    (hk:∀h',Tn (fun c=>c=b∨T c) h h'→Blk h' b (baseV f sf sn sb (n+1) (if nul then u+1 else u) w ex).toArray ty→Os T h' sb (bv (if nul then bits else setBit bits n)) Y8 →
      (∀{s0:Sl} {l0:List Value},Old T h sb s0 l0 Y8→Old T h' sb s0 l0 Y8)→K 0 h'):J350_1 K Kp (some ⟨b,0,none⟩) nul h:=by
  refine J350_1.of (If_i (fun c => ?_) fun c => ?_)
  · subst c
    simp only [NN_some,add_blk,Nat.zero_add]
    refine BV.ld8 k (Wr_i64 (by omega) (by omega) ?_)
    refine BV.st8 (m:=u+1) k fun h1 o1 k1=>row2 k1 hn fun h2 o2 k2 => ?_
    have t:Tn (·=b) h h2:=o1.fr.trans o2.fr
    exact hk h2 (t.mono fun d hd _=>.inl hd) k2 (o.fr t fun c q _ e=>nT (e ▸ q)) fun q=>q.fr t fun c q _ e=>nT (e ▸ q)
  · subst c
    simp only [NN_some,add_blk,Nat.zero_add]
    have e1:Int.tdiv (n:Int) 8=((n / 8:Nat):Int):=rfl
    have e2:Int.tmod (n:Int) 8=((n % 8:Nat):Int):=rfl
    have sn':sb.n=n / 8+1:=by rw [o.n,bv_len,hl]
    obtain ⟨bb,tb,ow⟩:∃bb,T bb∧Own h sb bb (bv bits) Y8:=by
      rcases o with ⟨rfl,_⟩ | q
      · simp [Sl.nil] at sn'
      · exact q
    have hb:=(bits.getD (n / 8) 0).toNat_lt
    have hp:2 ^ (n % 8) < 2 ^ 8:=Nat.pow_lt_pow_right (by decide) (Nat.mod_lt _ (by decide))
    have hg:bits[n / 8]? = some (bits.getD (n / 8) 0):=by rw [List.getD_eq_getElem?_getD];simp [hl]
    refine BV.ld9 k (BV.ld7 k (Dv_i (by decide) ?_))
    rw [e1]
    refine Wr_i64 (by omega) (by omega) (ow.ixSt (by omega) (by omega) ?_)
    refine ow.ld (i:=n / 8) (x:=((bits.getD (n / 8) 0).toNat:Int)) (by omega) (by unfold bv;rw [List.getElem?_map,hg];rfl) ?_
    refine BV.ld7 k (Dv_i (by decide) ?_)
    rw [e2]
    refine Lt_any (Nn_i (by omega) ?_)
    have em:min (Int.toNat ((n % 8:Nat):Int)) (IntKind.bits .u8)=n % 8:=by
      rw [Int.toNat_natCast];have:=Nat.mod_lt n (show 8 > 0 by decide);show min (n % 8) 8=_;omega
    rw [em]
    have es:(1:Int)*2 ^ (n % 8)=((2 ^ (n % 8):Nat):Int):=by rw [Int.one_mul];norm_cast
    rw [es]
    refine Wr_u rfl hp (Lt_any ?_)
    rw [bor8 _ _ hb hp]
    refine ow.ixSt (by omega) (by omega) ?_
    have ei:(((n / 8:Nat):Int)).toNat=n / 8:=Int.toNat_natCast _
    have hlt:(bits.getD (n / 8) 0).toNat ||| 2 ^ (n % 8) < 2 ^ 8:=Nat.or_lt_two_pow hb hp
    refine Os.setLast (T:=T) (.inr ⟨bb,tb,ow⟩) (by omega) ⟨bb,ow.1,by rw [ei,sn'];simp⟩ rfl fun h1 t1 o1 q1 => ?_
    refine row2 (t1.blk k nT) hn fun h2 o2 k2 => ?_
    have t2:Tn (·=b) h1 h2:=o2.fr
    refine hk h2 ((t1.mono fun d hd _=>.inr hd).trans (t2.mono fun d hd _=>.inl hd)) k2 ?_ fun q=>(q1 q).fr t2 fun c q _ e=>nT (e ▸ q)
    have e3:(bv bits).set (sb.n - 1) (.int .u8 (((bits.getD (n / 8) 0).toNat ||| 2 ^ (n % 8):Nat):Int))=bv (setBit bits n):=by
      rw [sn',Nat.add_sub_cancel]
      simp only [bv,setBit,List.map_set]
      rw [UInt8.toNat_ofNat',Nat.mod_eq_of_lt hlt]
    rw [e3] at o1
    exact o1.fr t2 fun c q _ e=>nT (e ▸ q)
/-- a row's bit -/
theorem row_c {nul:Bool} {K:Int→HP} (B:BaseH T h b ty f sf sn sb r ex) (hT:∀c,T c→c < h.size) (hbad:4096≤r.rows→K 3 h)
    (hk:r.rows < 4096→∀sb' h',Tn (fun c=>c=b∨T c) h h'→BaseH (Or T h) h' b ty f sf sn sb' (Rb.row nul r) ex→(∀{s0:Sl} {l0:List Value},Old T h sb s0 l0 Y8→Old (Or T h) h' sb' s0 l0 Y8)→K 0 h') :
    Fn350 (some ⟨b,0,none⟩) nul h K Kp:=by
  have bl:=B.lt
  have hl:=B.len
  have nl:=B.nl
  refine Fn350.of ?_
  simp only [NN_some,add_blk,Nat.zero_add]
  refine BV.ld7 B.k (If_i (fun c=>hbad ?_) fun c => ?_)
  · simp only [sm,reduceCtorEq] at c;omega
  · simp only [sm,reduceCtorEq] at c
    have hn:r.rows < 4096:=by omega
    refine BV.ld7 B.k (Dv_i (by decide) ?_)
    rw [show Int.tmod (r.rows:Int) 8=((r.rows % 8:Nat):Int) from rfl]
    refine Lt_any (If_i (fun c2 => ?_) fun c2 => ?_)
    · simp only [sm,reduceCtorEq] at c2
      have h8:r.rows % 8=0:=by omega
      have sn':sb.n=r.rows / 8:=by rw [B.o.n,bv_len,hl];omega
      refine BV.ld9 B.k (New_i fun ba h1 e1 g1 k1 _ => ?_)
      refine (B.o.gr g1).ap rfl rfl (rd_blk k1 rfl) (by omega) (by omega) fun s2 h2 t2 o2 q2 => ?_
      have nT2:¬Or T h1 b:=fun q=>q.elim B.nT fun q=>by have:=g1.1;omega
      have k2:=t2.blk (B.k.grw g1) B.nT
      refine BV.st9 k2 fun h3 o3 k3 => ?_
      have t3:Tn (·=b) h2 h3:=o3.fr
      have o3':Os (Or T h1) h3 s2 (bv (r.bits++[0])) Y8:=by
        rw [bv_append];exact o2.fr t3 fun c q _ e=>nT2 (e ▸ q)
      refine row1 k3 o3' nT2 (by simp [hl];omega) hn nl fun h4 t4 k4 o4 q4=>hk hn s2 h4 ?_ ⟨?_,?_,?_,?_,?_,?_⟩ fun q => ?_
      · refine ((Tn.of_grw g1).trans (t2.mono fun d hd _=>.inr hd)).trans' ((t3.mono fun d hd _=>.inl hd).trans t4) fun d hd hlt => ?_
        rcases hd with q | q | q
        · exact .inl q
        · exact .inr q
        · have:=g1.1;omega
      · simp only [Rb.row];exact k4
      · simp only [Rb.row,if_pos h8];exact o4.mono fun c q=>q.imp id fun q=>by have:=g1.1;omega
      · exact fun q=>q.elim B.nT fun q=>by omega
      · simp only [Rb.row,if_pos h8];split <;> simp [setBit_len,hl] <;> omega
      · simp only [Rb.row];split <;> omega
      · show r.rows+1≤4096;omega
      · have q1:=q2 (q.fr (S:=No) (Tn.of_grw g1) fun _ _ _=>id)
        exact (q4 (q1.fr t3 fun c q _ e=>nT2 (e ▸ q))).mono fun c q=>q.imp id fun q=>by have:=g1.1;omega
    · simp only [sm,reduceCtorEq] at c2
      have h8:¬r.rows % 8=0:=by omega
      refine row1 B.k B.o B.nT (by omega) hn nl fun h4 t4 k4 o4 q4=>hk hn sb h4 t4 ⟨?_,?_,?_,?_,?_,?_⟩ fun q=>(q4 q).mono fun c q=>.inl q
      · simp only [Rb.row];exact k4
      · simp only [Rb.row,if_neg h8];exact o4.mono fun c q=>.inl q
      · exact fun q=>q.elim B.nT fun q=>by omega
      · simp only [Rb.row,if_neg h8];split <;> simp [setBit_len,hl] <;> omega
      · simp only [Rb.row];split <;> omega
      · show r.rows+1≤4096;omega
/-- its weight -/
theorem weighs_c {x:Int} {n:Nat} {K:Int→HP} (B:BaseH T h b ty f sf sn sb r ex) (hx:x=n) (h1:r.heavy+n < 2 ^ 62)
    (hk:∀h',Only b h h'→BaseH T h' b ty f sf sn sb { r with heavy:=r.heavy+n } ex→K (if 4194304 < r.heavy+n then 3 else 0) h'):Fn351 (some ⟨b,0,none⟩) x h K Kp:=by
  subst hx
  refine Fn351.of ?_
  simp only [NN_some,add_blk,Nat.zero_add]
  refine BV.ld10 B.k (Wr_i64 (by omega) (by omega) ?_)
  refine BV.st10 (m:=r.heavy+n) B.k fun h1 o1 k1=>BV.ld10 k1 ?_
  have B1:BaseH T h1 b ty f sf sn sb { r with heavy:=r.heavy+n } ex:=⟨k1,B.o.fr o1.fr fun c q _ e=>B.nT (e ▸ q),B.nT,B.len,B.nl,B.rl⟩
  have:=hk h1 o1 B1
  refine If_i (fun c => ?_) fun c => ?_
  · simp only [sm,reduceCtorEq] at c
    rw [if_pos (by omega)] at this;exact this
  · simp only [sm,reduceCtorEq] at c
    rw [if_neg (by omega)] at this;exact this
theorem bcount_c {K:Int→HP} (B:BaseH T h b ty f sf sn sb r ex) (hk:K (r.rows:Int) h):Fn342 (some ⟨b,0,none⟩) h K Kp:=by
  refine Fn342.of ?_
  simp only [NN_some,add_blk,Nat.zero_add]
  exact BV.ld7 B.k hk
theorem bweight_c {K:Int→HP} (B:BaseH T h b ty f sf sn sb r ex) (hk:K (r.heavy:Int) h):Fn346 (some ⟨b,0,none⟩) h K Kp:=by
  refine Fn346.of ?_
  simp only [NN_some,add_blk,Nat.zero_add]
  exact BV.ld10 B.k hk
end
end Go.Proofs.YtlbbdbdjiekkaaaGreatDoor
set_option maxRecDepth 100000
set_option maxHeartbeats 1000000
/- The base marked and set back. -/
namespace Go.Proofs.YtlbbdbdjiekkaaaGreatDoor
open Go Go.Sh Go.WideShapes
section
variable {h:Hp} {b:Nat} {ty:TypeId} {f:Fld} {sf sn sb sb':Sl} {n u w n' u' w':Nat} {ex:List Value}
theorem BV.all {K:ByteArray→Bool→Int→Int→Int→Int→Sl→Int→Int→Sl→Int→Bool→Int→ByteArray→Sl→Bool→Prop} (k:Blk h b (baseV f sf sn sb n u w ex).toArray ty)
    (hk:K f.name f.nul f.k f.w f.id f.ix sf n u sb w f.nought.nul f.nought.num (bs f.nought.text) sn f.small):LY352 h ⟨b,0,none⟩ K:=by
  unfold LY352;simp only [add_blk,Nat.zero_add]
  refine Ld_blk k (by simp [baseV]) (Ld_blk k (by simp [baseV]) (Ld_blk k (by simp [baseV]) (Ld_blk k (by simp [baseV]) (Ld_blk k (by simp [baseV]) (Ld_blk k (by simp [baseV]) (Ld_blk k (by simp [baseV]) (Ld_blk k (by simp [baseV]) (Ld_blk k (by simp [baseV]) (Ld_blk k (by simp [baseV]) (Ld_blk k (by simp [baseV]) (Ld_blk k (by simp [baseV]) (Ld_blk k (by simp [baseV]) (Ld_blk k (by simp [baseV]) (Ld_blk k (by simp [baseV]) (Ld_blk k (by simp [baseV]) hk)))))))))))))))
theorem BV.put {K:HP} (k:Blk h b (baseV f sf sn sb n u w ex).toArray ty) (hk:∀h',Only b h h'→Blk h' b (baseV f sf sn sb' n' u' w' ex).toArray ty→K h') :
    SY352 h ⟨b,0,none⟩ f.name f.nul f.k f.w f.id f.ix sf n' u' sb' w' f.nought.nul f.nought.num (bs f.nought.text) sn f.small K:=by
  refine SY352.l (StL_i _ k (by simp [baseV]) (by simp [one,Sl.v]) fun h' cs o1 o2 o3 o4=>hk h' o1 ?_)
  have:cs=(baseV f sf sn sb' n' u' w' ex).toArray:=by
    apply Array.ext_getElem?
    intro i
    rw [o4 i,List.getElem?_toArray,List.getElem?_toArray]
    have e:∀n u w sb,baseV f sf sn sb n u w ex=baseV f sf sn sb n u w []++ex:=fun _ _ _ _=>rfl
    rw [e,e n' u' w' sb']
    have l:∀n u w sb,(baseV f sf sn sb n u w []).length=16:=fun _ _ _ _=>rfl
    by_cases hi:i < 16
    · rw [if_pos (by simp;omega),List.getElem?_append_left (by rw [l];exact hi)]
      simp [baseV]
    · rw [if_neg (by simp;omega),List.getElem?_append_right (by rw [l];omega),List.getElem?_append_right (by rw [l];omega),l,l]
  exact this ▸ o2
end
/-- what marked hands out, and what it holds -/
structure BMark (M:Nat→Prop) (h:Hp) (b:Nat) (F:Value) (f:Fld) (sf sn sb0:Sl) (r0:Rb):Prop where
  m : ∃b3 b1 b4 x,M b3∧M b1∧M b4∧F=.func (.func I352) #[] #[.pointer (some ⟨b3,0,none⟩), .pointer (some ⟨b1,0,none⟩), .pointer (some ⟨b4,0,none⟩)] ∧
    Blk h b3 (baseV f sf sn sb0 r0.rows r0.nulls r0.heavy []).toArray Y352∧Blk h b1 #[.pointer (some ⟨b,0,none⟩)] Y421∧Blk h b4 #[.int .u8 x] Y8∧(0 < sb0.n→(bv r0.bits)[sb0.n - 1]? = some (.int .u8 x))
section
variable {T M S:Nat→Prop} {h h':Hp} {b:Nat} {ty:TypeId} {f:Fld} {sf sn sb sb0:Sl} {r r0:Rb} {ex:List Value} {Kp:PK} {F:Value}
theorem BMark.fr (m:BMark M h b F f sf sn sb0 r0) (t:Tn S h h') (hn:∀c,M c→c < h.size→¬S c):BMark M h' b F f sf sn sb0 r0:=by
  obtain ⟨b3,b1,b4,x,m3,m1,m4,e,k3,k1,k4,hx⟩:=m
  exact ⟨b3,b1,b4,x,m3,m1,m4,e,t.blk k3 (hn _ m3 k3.lt),t.blk k1 (hn _ m1 k1.lt),t.blk k4 (hn _ m4 k4.lt),hx⟩
theorem BMark.mono {M':Nat→Prop} (m:BMark M h b F f sf sn sb0 r0) (hM:∀c,M c→M' c):BMark M' h b F f sf sn sb0 r0:=by
  obtain ⟨b3,b1,b4,x,m3,m1,m4,e⟩:=m
  exact ⟨b3,b1,b4,x,hM _ m3,hM _ m1,hM _ m4,e⟩
theorem marked_c {K:Value→HP} (B:BaseH T h b ty f sf sn sb r ex) (hk:∀F h',Grw h h'→one F=true→BMark (Nw h) h' b F f sf sn sb r→K F h'):Fn349 (some ⟨b,0,none⟩) h K Kp:=by
  refine Fn349.of (New_i fun b1 h1 e1 g1 k1 _=>Ld_blk k1 rfl ?_)
  have hl:=B.len
  have rl:=B.rl
  have sn':sb.n=r.bits.length:=by rw [B.o.n,bv_len]
  simp only [NN_some,add_blk,Nat.zero_add]
  have B1:=B.fr (S:=No) (Tn.of_grw g1) id fun _ _ _=>id
  refine BV.all B1.k (New_i fun b3 h2 e2 g2 k3 _=>SY352.b k3 rfl fun h3 o3 k3=>New_i fun b4 h4 e4 g4 k4 _=>St_i k4 (by simp) rfl fun h5 o5 k5 => ?_)
  have s1:=g1.1
  have s2:=g2.1
  have s4:=g4.1
  have k1l:=k1.lt
  have k3l:=k3.lt
  have g3:Grw h1 h3:=Only.grw g2 o3 (by omega)
  have g5:Grw h3 h5:=Only.grw g4 o5 (by omega)
  have G:Grw h h5:=Grw.trans (Grw.trans g1 g3) g5
  have k1':=(k1.grw g3).grw g5
  have k3':=k3.grw g5
  have B5:=B.fr (S:=No) (Tn.of_grw G) id fun _ _ _=>id
  refine Ld_blk k1' rfl ?_
  simp only [NN_some,add_blk,Nat.zero_add]
  have one3:one (.func (.func I352) #[] #[(.pointer (some ⟨b3,0,none⟩)),(.pointer (some ⟨b1,0,none⟩)),(.pointer (some ⟨b4,0,none⟩))])=true:=rfl
  refine BV.ld9 B5.k (If_i (fun c => ?_) fun c => ?_)
  · simp only [sm,reduceCtorEq] at c
    refine Ld_blk k1' rfl ?_
    simp only [NN_some,add_blk,Nat.zero_add]
    refine BV.ld9 B5.k (Ld_blk k1' rfl ?_)
    simp only [NN_some,add_blk,Nat.zero_add]
    refine BV.ld9 B5.k (Wr_i64 (by omega) (by omega) ?_)
    obtain ⟨bb,tb,ow⟩:∃bb,T bb∧Own h5 sb bb (bv r.bits) Y8:=by
      rcases B5.o with ⟨e,_⟩ | q
      · rw [e] at c;simp [Sl.nil] at c
      · exact q
    obtain ⟨y,hy⟩:∃y,r.bits[sb.n - 1]? = some y:=⟨_,List.getElem?_eq_getElem (by omega)⟩
    have hy2:(bv r.bits)[sb.n - 1]? = some (.int .u8 (y.toNat:Int)):=by unfold bv;rw [List.getElem?_map,hy];rfl
    refine ow.ixSt (by omega) (by omega) ?_
    refine ow.ld (by omega) (x:=(y.toNat:Int)) (by rw [←hy2];congr 1;omega) (St_i k5 (by simp) rfl fun h6 o6 k6 => ?_)
    refine hk _ h6 (Only.grw G o6 (by omega)) one3 ⟨b3,b1,b4,(y.toNat:Int),?_,?_,?_,rfl,o6.blk k3' (by omega),o6.blk k1' (by omega),by simpa using k6,fun _=>hy2⟩
    · show h.size≤b3;omega
    · show h.size≤b1;omega
    · show h.size≤b4;omega
  · simp only [sm,reduceCtorEq] at c
    refine hk _ h5 G one3 ⟨b3,b1,b4,0,?_,?_,?_,rfl,k3',k1',by simpa using k5,fun q=>by omega⟩
    · show h.size≤b3;omega
    · show h.size≤b1;omega
    · show h.size≤b4;omega
theorem callv352 {c0 c1 c2:Addr} {K:HP} (H:Fn352 c0 c1 c2 h K Kp):CallV Tryz.prog (.func (.func I352) #[] #[.pointer (some c0), .pointer (some c1), .pointer (some c2)]) [] h (fun r h1=>r=.tuple #[]∧K h1) Kp:=by
  unfold CallV
  exact cast (by kernel_rfl) H
/-- all of the base as it was -/
theorem back_c {K:HP} (m:BMark M h b F f sf sn sb0 r0) (k:Blk h b (baseV f sf sn sb r.rows r.nulls r.heavy ex).toArray ty) (o:Old T h sb sb0 (bv r0.bits) Y8) (nT:¬T b) (nM:∀c,M c→¬T c∧c≠b)
    (h1:r0.bits.length=(r0.rows+7) / 8) (h2:r0.nulls≤r0.rows) (h3:r0.rows≤4096)
    (hk:∀h',Tn (fun c=>c=b∨T c) h h'→BaseH T h' b ty f sf sn sb0 r0 ex→K h'):CallV Tryz.prog F [] h (fun r h1=>r=.tuple #[]∧K h1) Kp:=by
  obtain ⟨b3,b1,b4,x,m3,m1,m4,rfl,k3,k1,k4,hx⟩:=m
  refine callv352 (Fn352.of (Ld_blk k1 rfl (LY352.b k3 ?_)))
  simp only [NN_some,add_blk,Nat.zero_add]
  have sn':sb0.n=r0.bits.length:=by
    rcases o.old with ⟨e,e2⟩ | ⟨_,_,_,_,e,_⟩
    · have:=congrArg List.length e2;rw [bv_len] at this;rw [e,this];rfl
    · rw [e,bv_len]
  refine BV.put k fun h1' o1 kb => ?_
  have t1:Tn (·=b) h h1':=o1.fr
  have k1':=o1.blk k1 (nM _ m1).2
  have k4':=o1.blk k4 (nM _ m4).2
  have q1:Old T h1' sb sb0 (bv r0.bits) Y8:=o.fr t1 fun c q _ e=>nT (e ▸ q)
  refine Ld_blk k1' rfl ?_
  simp only [NN_some,add_blk,Nat.zero_add]
  refine BV.ld9 kb (If_i (fun c => ?_) fun c => ?_)
  · simp only [sm,reduceCtorEq] at c
    refine Ld_blk k1' rfl ?_
    simp only [NN_some,add_blk,Nat.zero_add]
    refine BV.ld9 kb (Ld_blk k1' rfl ?_)
    simp only [NN_some,add_blk,Nat.zero_add]
    refine BV.ld9 kb (Wr_i64 (by omega) (by omega) (Ld_blk k4' rfl ?_))
    obtain ⟨b0,ha⟩:∃b0,sb0.a=some ⟨b0,0,none⟩:=by
      rcases q1.old with ⟨e,_⟩ | ⟨b0,_,_,e,_⟩
      · rw [e] at c;simp [Sl.nil] at c
      · exact ⟨b0,e⟩
    unfold Ix
    rw [ha]
    refine ⟨by omega,by omega,?_⟩
    rw [add_blk]
    refine q1.back (by omega) (hx (by omega)) ⟨b0,ha,?_⟩ rfl fun h2' t2 o2=>hk h2' ((t1.mono fun d hd _=>.inl hd).trans (t2.mono fun d hd _=>.inr hd)) ⟨t2.blk kb nT,o2,nT,by assumption,by assumption,by assumption⟩
    congr 1;omega
  · simp only [sm,reduceCtorEq] at c
    exact hk h1' (t1.mono fun d hd _=>.inl hd) ⟨kb,q1.back0 (by omega),nT,by assumption,by assumption,by assumption⟩
end
end Go.Proofs.YtlbbdbdjiekkaaaGreatDoor
set_option maxRecDepth 100000
set_option maxHeartbeats 1000000
/- Data begun, bits cloned, numbers laid. -/
namespace Go.Proofs.YtlbbdbdjiekkaaaGreatDoor
open Go Go.Sh Go.WideShapes
section
variable {T:Nat→Prop} {h h0:Hp} {b:Nat} {ty:TypeId} {f:Fld} {sf sn sb:Sl} {r:Rb} {ex:List Value} {Kp:PK}
theorem data_c {bu:Sl} {K:Int→Int→Int→Sl→Sl→Sl→HP} (B:BaseH T h b ty f sf sn sb r ex) (hk:∀h',Grw h h'→K r.rows 0 r.nulls bu Sl.nil Sl.nil h'):Fn348 (some ⟨b,0,none⟩) bu h K Kp:=by
  refine Fn348.of (New_i fun b4 h1 e1 g1 k1 _ => ?_)
  simp only [NN_some,add_blk,Nat.zero_add]
  have k:=B.k.grw g1
  refine BV.ld7 k (BV.ld8 k (SY33.b k1 rfl fun h2 o2 k2=>LY33.b k2 (hk h2 (Only.grw g1 o2 (by omega)))))
theorem bclone_c {s:Sl} {l:List UInt8} {K:Sl→HP} (o:Os T h s (bv l) Y8) (hl:l.length≤70000) (hk:∀u h',Grw h h'→SvA (Nw h) h' u (bv l)→K u h'):Fn428 s h K Kp:=by
  refine Fn428.of (If_i (fun c => ?_) fun c => ?_)
  · rcases o with ⟨rfl,e⟩ | ⟨b,_,o⟩
    · rw [e] at hk
      exact hk Sl.nil h (Grw.refl h) ⟨Sv.nil h,fun q=>absurd rfl q⟩
    · rw [o.1] at c;cases c
  · refine New_i fun b5 h1 e1 g1 k1 _ => ?_
    have v:=(o.gr g1).sv
    have hn:=v.1
    rw [bv_len] at hn
    refine (RowS.start k1 (Nat.le_refl b5)).ap (by have:=k1.lt;omega) rfl (new:=(bv l).map fun v=>[v]) (by simp [bv_len,hn]) (one_lens _) (bv_ones l) (by rw [map_flat];exact v.rd1 v.na) (by simp;omega) (by simp;omega) fun s' h' f _ o' => ?_
    refine hk s' h' ?_ (by subst e1;exact RowS.sva o')
    exact ((Tn.of_grw g1:Tn No h h1).trans' f fun d hd hlt=>by
      obtain ⟨a,ha,hd⟩:=hd
      simp only [Option.some.injEq] at ha
      subst ha;simp only at hd;omega).grw
theorem bvalid_c {K:Sl→HP} (B:BaseH T h b ty f sf sn sb r ex) (hk:∀u h',Grw h h'→SvA (Nw h) h' u (bv (validB r))→K u h'):Fn357 (some ⟨b,0,none⟩) h K Kp:=by
  have hl:=B.len
  have rl:=B.rl
  refine Fn357.of ?_
  simp only [NN_some,add_blk,Nat.zero_add]
  refine BV.ld8 B.k (If_i (fun c => ?_) fun c => ?_)
  · simp only [sm,reduceCtorEq] at c
    have e:validB r=[]:=by unfold validB;rw [if_pos (by omega)]
    rw [e] at hk
    exact hk Sl.nil h (Grw.refl h) ⟨Sv.nil h,fun q=>absurd rfl q⟩
  · simp only [sm,reduceCtorEq] at c
    have e:validB r=r.bits:=by unfold validB;rw [if_neg (by omega)]
    rw [e] at hk
    exact BV.ld9 B.k (bclone_c B.o (by omega) hk)
/-- bytes that grow, apart from what stood in h0 -/
structure Gb (h0 h:Hp) (t:Sl) (out:List UInt8):Prop where
  g:Grw h0 h
  o:RowS h0.size 1 h t ((bv out).map fun v=>[v]) Y8
theorem Gb.n {t:Sl} {out:List UInt8} (x:Gb h0 h t out):t.n=out.length:=by rw [x.o.n];simp [bv]
theorem Gb.ap1 {t:Sl} {out:List UInt8} {y:UInt8} {v:Int} {K:Sl→HP} (x:Gb h0 h t out) (hv:v=y.toNat) (hl:out.length≤1000000) (hk:∀t' h',Gb h0 h' t' (out++[y])→K t' h') :
    New h #[.int .u8 v] Y8 fun a h1=>Ap h1 Y8 #[(.int .u8 0)] 1 1 t 1 (rd h1 (some a) (1*1)) fun t' h2=>K t' h2:=by
  subst hv
  have hn:=x.n
  have hg:=x.g.1
  refine New_i fun b1 h1 e1 g1 k1 _ => ?_
  refine (x.o.grw g1).ap (by have:=g1.1;omega) rfl (new:=[[.int .u8 (y.toNat:Int)]]) rfl (fun r hr=>by simp at hr;subst hr;rfl) (fun r hr=>by simp at hr;subst hr;simp [one]) (rd_blk k1 rfl) (by omega) (by omega) fun s' h' f _ o' => ?_
  refine hk s' h' ⟨?_,by simpa [bv] using o'⟩
  exact ((Tn.of_grw (Grw.trans x.g g1):Tn No h0 h1).trans' f fun d hd hlt=>by have:=((x.o.grw g1).at hd).1;omega).grw
theorem byte_i {x i:Nat} {X:Int→Prop} (hi:i < 8) (hk:X ((UInt8.ofNat (x / 2 ^ (8*i))).toNat:Int)) :
    Wr .i64 ((8:Int)*(i:Int)) fun t27=>Nn t27<|Lt (Int.fdiv (x:Int) (2 ^ (min (Int.toNat t27) (IntKind.bits .u64)))) fun t28=>Wr .u8 t28 X:=by
  refine Wr_i64 (by omega) (by omega) (Nn_i (by omega) (Lt_any ?_))
  have e1:min (Int.toNat ((8:Int)*(i:Int))) (IntKind.bits .u64)=8*i:=by
    have:Int.toNat ((8:Int)*(i:Int))=8*i:=by omega
    rw [this];show min (8*i) 64=_;omega
  rw [e1]
  have e2:Int.fdiv (x:Int) (2 ^ (8*i))=((x / 2 ^ (8*i):Nat):Int):=by
    rw [Int.fdiv_eq_ediv_of_nonneg _ (Int.le_of_lt (Int.pow_pos (by decide)))];norm_cast
  rw [e2]
  refine Wr_any ?_
  rw [IntKind.wrap_u8]
  rw [UInt8.toNat_ofNat'] at hk
  have e3:((x / 2 ^ (8*i):Nat):Int) % 256=((x / 2 ^ (8*i) % 2 ^ 8:Nat):Int):=by norm_cast
  rw [e3];exact hk
theorem leB_take (x n:Nat):leB x (n+1)=leB x n++[UInt8.ofNat (x / 2 ^ (8*n))]:=by simp [leB,List.range_succ]
end
end Go.Proofs.YtlbbdbdjiekkaaaGreatDoor
set_option maxRecDepth 100000
set_option maxHeartbeats 1000000
/- Numbers laid. -/
namespace Go.Proofs.YtlbbdbdjiekkaaaGreatDoor
open Go Go.Sh Go.WideShapes
section
variable {h h0:Hp} {Kp:PK}
theorem Gb.start {c:Int} {K:Sl→HP} (h0:0≤c) (h1:c≤1000000) (hk:∀t h',Gb h h' t []→K t h'):MkS h Y8 #[(.int .u8 0)] 1 1 0 c K:=by
  refine ⟨Int.le_refl _,h0,by omega,by omega,hk _ _ ⟨Grw.push h _,fun r hr=>by simp [bv] at hr,by simp [bv], .inr ⟨h.size,Nat.le_refl _,by simp,rfl,by simp [bv],zs #[.int .u8 0] (c.toNat*1),by simp [Blk],by simp,by simp [zs],fun i hi=>by simp at hi⟩⟩⟩
theorem Gb.sva {t:Sl} {out:List UInt8} (x:Gb h0 h t out):SvA (Nw h0) h t (bv out):=RowS.sva x.o
theorem laidB_take {l:List Nat} {i x n:Nat} (hx:l[i]? = some x):laidB (l.take (i+1)) n=laidB (l.take i) n++leB x n:=by
  simp [laidB,List.take_add_one,hx]
theorem laidB_len' (l:List Nat) (n:Nat):(laidB l n).length=l.length*n:=by
  induction l with
  | nil=>simp [laidB]
  | cons x xs ih=>simp only [laidB,List.flatMap_cons,List.length_append,List.length_cons] at ih ⊢;rw [ih,leB_len,Nat.succ_mul];omega
/-- a list of whole numbers laid -/
theorem laidI_c {T:Nat→Prop} {s:Sl} {l:List Nat} {w:Nat} {K:Sl→HP} (o:Os T h s (l.map fun x:Nat=>.int .i64 (x:Int)) Y6) (hl:l.length≤70000) (hw:w≤8) (hx:∀x∈l,x < 2 ^ 63)
    (hk:∀t h',Gb h h' t (laidB l w)→K t h'):Fn358 s (w:Int) h K Kp:=by
  have hn:=o.n
  rw [List.length_map] at hn
  have hm:(w:Int)*(s.n:Int)=((w*s.n:Nat):Int):=by norm_cast
  have hm2:w*s.n≤8*70000:=Nat.mul_le_mul hw (by omega)
  refine Fn358.of ?_
  rw [hm]
  refine Wr_i64 (by omega) (by omega) (Gb.start (by omega) (by omega) fun t0 h1 gb => ?_)
  refine L358_1.rule (fun t x h2=>∃i:Nat,x=i∧i≤l.length∧Gb h h2 t (laidB (l.take i) w)) (fun _ x _=>l.length - x.toNat) ⟨0,rfl,by omega,by simpa [laidB] using gb⟩ ?_
  rintro t x h2 ⟨i,rfl,hi,gb⟩ N1 hN
  refine If_i (fun c => ?_) fun c => ?_
  · simp only [sm,reduceCtorEq] at c
    have hi':i < l.length:=by omega
    have hj:l[i]? = some l[i]:=List.getElem?_eq_getElem hi'
    have hxl:=hx _ (List.getElem_mem hi')
    generalize l[i]=y at hj hxl
    obtain ⟨bb,tb,ow⟩:∃bb,T bb∧Own h2 s bb (l.map fun x:Nat=>.int .i64 (x:Int)) Y6:=by
      rcases o.gr gb.g with ⟨e,_⟩ | q
      · rw [e] at c;simp [Sl.nil] at c;omega
      · exact q
    refine ow.ixSt (by omega) (by omega) (ow.ld (by omega) (x:=(y:Int)) (by simp [hj]) ?_)
    have hol:(laidB (l.take i) w).length≤8*70000:=by rw [laidB_len',List.length_take];exact Nat.le_trans (Nat.mul_le_mul (Nat.min_le_left _ _) hw) (by omega)
    refine L358_2.rule (fun t x h3=>∃k:Nat,x=k∧k≤w∧Gb h h3 t (laidB (l.take i) w++leB y k)) (fun _ x _=>w - x.toNat) ⟨0,rfl,by omega,by simpa [leB] using gb⟩ ?_
    rintro t x h3 ⟨k,rfl,hkw,gb⟩ N2 hN2
    refine If_i (fun c2 => ?_) fun c2 => ?_
    · simp only [sm,reduceCtorEq] at c2
      refine Wr_u rfl (by show y < 2 ^ 64;omega) ?_
      refine byte_i (by omega) (gb.ap1 rfl (by rw [List.length_append,leB_len];omega) fun t' h' gb'=>Wr_i64 (by omega) (by omega) (hN2 _ _ _ ⟨k+1,by omega,by omega,by rw [leB_take,←List.append_assoc];exact gb'⟩ (by omega)))
    · simp only [sm,reduceCtorEq] at c2
      obtain rfl:k=w:=by omega
      exact Wr_i64 (by omega) (by omega) (hN _ _ _ ⟨i+1,by omega,by omega,by rw [laidB_take hj];exact gb⟩ (by omega))
  · simp only [sm,reduceCtorEq] at c
    obtain rfl:i=l.length:=by omega
    rw [List.take_length] at gb
    exact hk t h2 gb
/-- a list of numbers of 64 bits laid -/
theorem laidU_c {T:Nat→Prop} {s:Sl} {l:List Nat} {w:Nat} {K:Sl→HP} (o:Os T h s (l.map fun x:Nat=>.int .u64 (x:Int)) Y201) (hl:l.length≤70000) (hw:w≤8) (hx:∀x∈l,x < 2 ^ 64)
    (hk:∀t h',Gb h h' t (laidB l w)→K t h'):Fn409 s (w:Int) h K Kp:=by
  have hn:=o.n
  rw [List.length_map] at hn
  have hm:(w:Int)*(s.n:Int)=((w*s.n:Nat):Int):=by norm_cast
  have hm2:w*s.n≤8*70000:=Nat.mul_le_mul hw (by omega)
  refine Fn409.of ?_
  rw [hm]
  refine Wr_i64 (by omega) (by omega) (Gb.start (by omega) (by omega) fun t0 h1 gb => ?_)
  refine L409_1.rule (fun t x h2=>∃i:Nat,x=i∧i≤l.length∧Gb h h2 t (laidB (l.take i) w)) (fun _ x _=>l.length - x.toNat) ⟨0,rfl,by omega,by simpa [laidB] using gb⟩ ?_
  rintro t x h2 ⟨i,rfl,hi,gb⟩ N1 hN
  refine If_i (fun c => ?_) fun c => ?_
  · simp only [sm,reduceCtorEq] at c
    have hi':i < l.length:=by omega
    have hj:l[i]? = some l[i]:=List.getElem?_eq_getElem hi'
    have hxl:=hx _ (List.getElem_mem hi')
    generalize l[i]=y at hj hxl
    obtain ⟨bb,tb,ow⟩:∃bb,T bb∧Own h2 s bb (l.map fun x:Nat=>.int .u64 (x:Int)) Y201:=by
      rcases o.gr gb.g with ⟨e,_⟩ | q
      · rw [e] at c;simp [Sl.nil] at c;omega
      · exact q
    refine ow.ixSt (by omega) (by omega) (ow.ld (by omega) (x:=(y:Int)) (by simp [hj]) ?_)
    have hol:(laidB (l.take i) w).length≤8*70000:=by rw [laidB_len',List.length_take];exact Nat.le_trans (Nat.mul_le_mul (Nat.min_le_left _ _) hw) (by omega)
    refine L409_2.rule (fun t x h3=>∃k:Nat,x=k∧k≤w∧Gb h h3 t (laidB (l.take i) w++leB y k)) (fun _ x _=>w - x.toNat) ⟨0,rfl,by omega,by simpa [leB] using gb⟩ ?_
    rintro t x h3 ⟨k,rfl,hkw,gb⟩ N2 hN2
    refine If_i (fun c2 => ?_) fun c2 => ?_
    · simp only [sm,reduceCtorEq] at c2
      refine byte_i (by omega) (gb.ap1 rfl (by rw [List.length_append,leB_len];omega) fun t' h' gb'=>Wr_i64 (by omega) (by omega) (hN2 _ _ _ ⟨k+1,by omega,by omega,by rw [leB_take,←List.append_assoc];exact gb'⟩ (by omega)))
    · simp only [sm,reduceCtorEq] at c2
      obtain rfl:k=w:=by omega
      exact Wr_i64 (by omega) (by omega) (hN _ _ _ ⟨i+1,by omega,by omega,by rw [laidB_take hj];exact gb⟩ (by omega))
  · simp only [sm,reduceCtorEq] at c
    obtain rfl:i=l.length:=by omega
    rw [List.take_length] at gb
    exact hk t h2 gb
end
end Go.Proofs.YtlbbdbdjiekkaaaGreatDoor
set_option maxRecDepth 100000
set_option maxHeartbeats 200000
/- The makers' methods, by their types. Printed by mkdisp.py. -/
namespace Go.Proofs.YtlbbdbdjiekkaaaGreatDoor
open Go Go.Sh Go.WideShapes
abbrev CTake (v:Value) (x0:Bool) (x1:Int) (x2:ByteArray) (x3:Sl) (h:Hp) (K:Int→HP) (Kp:PK):Prop :=
  CallI Tryz.prog v "colonnade/build.take" [.agg #[.bool x0, .int .i64 x1, .string x2,Sl.v x3]] h (fun r h'=>∃t:Int,r=.int .i64 t∧K t h') Kp
abbrev CZero (v:Value) (h:Hp) (K:Int→HP) (Kp:PK):Prop:=CallI Tryz.prog v "colonnade/build.zero" [] h (fun r h'=>∃t:Int,r=.int .i64 t∧K t h') Kp
abbrev CMark (v:Value) (h:Hp) (K:Value→HP) (Kp:PK):Prop:=CallI Tryz.prog v "colonnade/build.mark" [] h (fun r h'=>∃t:Value,r=t∧K t h') Kp
abbrev CCount (v:Value) (h:Hp) (K:Int→HP) (Kp:PK):Prop:=CallI Tryz.prog v "colonnade/build.count" [] h (fun r h'=>∃t:Int,r=.int .i64 t∧K t h') Kp
abbrev CWeight (v:Value) (h:Hp) (K:Int→HP) (Kp:PK):Prop:=CallI Tryz.prog v "colonnade/build.weight" [] h (fun r h'=>∃t:Int,r=.int .i64 t∧K t h') Kp
abbrev CDone (v:Value) (h:Hp) (K:Int→Int→Int→Sl→Sl→Sl→HP) (Kp:PK):Prop :=
  CallI Tryz.prog v "colonnade/build.done" [] h (fun r h'=>∃t0:Int,∃t1:Int,∃t2:Int,∃t3:Sl,∃t4:Sl,∃t5:Sl,r=.agg #[.int .i64 t0, .int .i64 t1, .int .i64 t2,Sl.v t3,Sl.v t4,Sl.v t5]∧K t0 t1 t2 t3 t4 t5 h') Kp
theorem callI_d {t:TypeId} {g:FuncId} {name:String} {v:Value} {args:List Value} {h:Hp} {K:Value→HP} {Kp:PK} (h1:methP Tryz.prog t name=some (g,true)) (h2:(recvOk Tryz.prog t true && okFn Tryz.prog g)=true)
    (hh:CallH Tryz.prog g (v::args) h K Kp):CallI Tryz.prog (.iface t v) name args h K Kp:=by
  unfold CallI
  simp only [h1,h2]
  exact hh
theorem callI_q {t:TypeId} {g:FuncId} {name:String} {b:Nat} {args:List Value} {h:Hp} {K:Value→HP} {Kp:PK} (h1:methP Tryz.prog t name=none) (h2:methQ Tryz.prog t name=some (g,0)) (h3:okFn Tryz.prog g=true)
    (hh:CallH Tryz.prog g (.pointer (some ⟨b,0,none⟩)::args) h K Kp):CallI Tryz.prog (.iface t (.pointer (some ⟨b,0,none⟩))) name args h K Kp:=by
  unfold CallI
  simp only [h1,h2,h3,ptrAt,add_blk,Nat.add_zero]
  exact hh
section
variable {b:Nat} {h:Hp} {Kp:PK}
theorem d_take_plains {x0:Bool} {x1:Int} {x2:ByteArray} {x3:Sl} {K:Int→HP} (H:Fn407 (some ⟨b,0,none⟩) x0 x1 x2 x3 h K Kp):CTake (.iface Y380 (.pointer (some ⟨b,0,none⟩))) x0 x1 x2 x3 h K Kp:=callI_d (g:=I407) (by kernel_rfl) (by kernel_rfl) H
theorem d_zero_plains {K:Int→HP} (H:Fn408 (some ⟨b,0,none⟩) h K Kp):CZero (.iface Y380 (.pointer (some ⟨b,0,none⟩))) h K Kp:=callI_d (g:=I408) (by kernel_rfl) (by kernel_rfl) H
theorem d_mark_plains {K:Value→HP} (H:Fn406 (some ⟨b,0,none⟩) h K Kp):CMark (.iface Y380 (.pointer (some ⟨b,0,none⟩))) h K Kp:=callI_d (g:=I406) (by kernel_rfl) (by kernel_rfl) H
theorem d_done_plains {K:Int→Int→Int→Sl→Sl→Sl→HP} (H:Fn405 (some ⟨b,0,none⟩) h K Kp):CDone (.iface Y380 (.pointer (some ⟨b,0,none⟩))) h K Kp:=callI_d (g:=I405) (by kernel_rfl) (by kernel_rfl) H
theorem d_count_plains {K:Int→HP} (H:Fn342 (some ⟨b,0,none⟩) h K Kp):CCount (.iface Y380 (.pointer (some ⟨b,0,none⟩))) h K Kp:=callI_q (g:=I342) (by kernel_rfl) (by kernel_rfl) (by kernel_rfl) H
theorem d_weight_plains {K:Int→HP} (H:Fn346 (some ⟨b,0,none⟩) h K Kp):CWeight (.iface Y380 (.pointer (some ⟨b,0,none⟩))) h K Kp:=callI_q (g:=I346) (by kernel_rfl) (by kernel_rfl) (by kernel_rfl) H
end
end Go.Proofs.YtlbbdbdjiekkaaaGreatDoor
set_option maxRecDepth 100000
set_option maxHeartbeats 1000000
/- Territories; the plain ones: what stands in memory, taking in. -/
namespace Go.Proofs.YtlbbdbdjiekkaaaGreatDoor
open Go Go.Sh Go.WideShapes
/-- T, and what came between h and h' -/
abbrev Tr (T:Nat→Prop) (h h':Hp):Nat→Prop:=fun c=>T c∨(h.size≤c∧c < h'.size)
/-- a maker's territory T, its block b, and the parts of the rest -/
structure Terr (T:Nat→Prop) (h:Hp) (b:Nat) (Ls:List (Nat→Prop)):Prop where
  tb:T b
  lt:∀c,T c→c < h.size
  sub:∀L∈Ls,∀c,L c→T c∧c≠b
  ap:Ls.Pairwise fun A B=>∀c,A c→¬B c
section
variable {T L:Nat→Prop} {h h':Hp} {b:Nat} {Ls:List (Nat→Prop)}
theorem Terr.step (t:Terr T h b Ls) (i:Nat) (hs:h.size≤h'.size):Terr (Tr T h h') h' b (Ls.modify i fun A=>Tr A h h'):=by
  refine ⟨.inl t.tb,fun c hc => ?_,fun A hA c hc => ?_,?_⟩
  · rcases hc with q | q
    · have:=t.lt c q;omega
    · exact q.2
  · obtain ⟨j,hj,rfl⟩:=List.getElem_of_mem hA
    rw [List.getElem_modify] at hc
    have hj':j < Ls.length:=by simpa using hj
    split at hc
    · rcases hc with q | q
      · have:=t.sub _ (List.getElem_mem hj') c q;exact ⟨.inl this.1,this.2⟩
      · exact ⟨.inr q,fun e=>by have:=t.lt b t.tb;omega⟩
    · have:=t.sub _ (List.getElem_mem hj') c hc;exact ⟨.inl this.1,this.2⟩
  · rw [List.pairwise_iff_getElem]
    intro j k hj hk hjk c
    have hj':j < Ls.length:=by simpa using hj
    have hk':k < Ls.length:=by simpa using hk
    have old:=List.pairwise_iff_getElem.1 t.ap j k hj' hk' hjk c
    have lj:=fun q=>t.lt c (t.sub _ (List.getElem_mem hj') c q).1
    have lk:=fun q=>t.lt c (t.sub _ (List.getElem_mem hk') c q).1
    rw [List.getElem_modify,List.getElem_modify]
    split
    · rw [if_neg (by omega)]
      rintro (q | q) p
      · exact old q p
      · have:=lk p;omega
    · split
      · rintro q (p | p)
        · exact old q p
        · have:=lj q;omega
      · exact old
theorem Terr.nb (t:Terr T h b Ls) {A:Nat→Prop} (hA:A∈Ls) {c:Nat} (hc:A c):c≠b:=(t.sub A hA c hc).2
theorem Terr.l (t:Terr T h b Ls) {A:Nat→Prop} (hA:A∈Ls) {c:Nat} (hc:A c):c < h.size:=t.lt c (t.sub A hA c hc).1
theorem Os.tr {s:Sl} {vs:List Value} {el:TypeId} (o:Os (Or L h) h' s vs el):Os (Tr L h h') h' s vs el :=
  o.imp id fun ⟨b,t,o⟩=>⟨b,t.imp id fun q=>⟨q,o.lt⟩,o⟩
theorem Old.tr {s s0:Sl} {l0:List Value} {el:TypeId} (o:Old (Or L h) h' s s0 l0 el):Old (Tr L h h') h' s s0 l0 el :=
  ⟨o.le,o.old.imp id fun ⟨b,cs,t,h1,h2,h3,h4⟩=>⟨b,cs,t.imp id fun q=>⟨q,h3.lt⟩,h1,h2,h3,h4⟩⟩
end
inductive Mem
  | mk (F:Value) (r:Raw) (s:Sl) (ks:List Mem)
def Mem.F:Mem→Value | .mk F _ _ _=>F
def Mem.r:Mem→Raw | .mk _ r _ _=>r
def Mem.s:Mem→Sl | .mk _ _ s _=>s
def u64s (l:List Nat):List Value:=l.map fun x:Nat=>.int .u64 (x:Int)
def strs (l:List (List UInt8)):List Value:=l.map fun t=>.string (bs t)
/-- what all marks hold: the base's, in cells of the territory R; the base as it was -/
structure BMem (R T0:Nat→Prop) (h:Hp) (b:Nat) (f:Fld) (sf sn sb:Sl) (F0:Value) (s0:Sl) (r0:Rb):Prop where
  bm:BMark R h b F0 f sf sn s0 r0
  o:Old T0 h sb s0 (bv r0.bits) Y8
  len:r0.bits.length=(r0.rows+7) / 8
  nl:r0.nulls≤r0.rows
  rl:r0.rows≤4096
section
variable {R R' T0 T0' S:Nat→Prop} {h h':Hp} {b:Nat} {f:Fld} {sf sn sb s0:Sl} {F0:Value} {r0:Rb}
theorem BMem.fr (m:BMem R T0 h b f sf sn sb F0 s0 r0) (t:Tn S h h') (h1:∀c,R c→c < h.size→¬S c) (h2:∀c,T0 c→c < h.size→¬S c):BMem R T0 h' b f sf sn sb F0 s0 r0 :=
  ⟨m.bm.fr t h1,m.o.fr t h2,m.len,m.nl,m.rl⟩
end
/-- the cells of a mark of plain ones -/
structure PlMem (R T0:Nat→Prop) (h:Hp) (b:Nat) (f:Fld) (sf sn sb:Sl) (r:Raw) (m:Mem):Prop where
  c : ∃F0 c0 c1 c2 t0 t1 t2,R c0∧R c1∧R c2∧m.F=.func (.func I410) #[] #[.pointer (some ⟨c0,0,none⟩), .pointer (some ⟨c1,0,none⟩), .pointer (some ⟨c2,0,none⟩)]∧Blk h c0 #[F0] t0 ∧
    Blk h c1 #[.pointer (some ⟨b,0,none⟩)] t1∧Blk h c2 #[.int .i64 (m.r.b.nums.length:Int)] t2∧BMem R T0 h b f sf sn sb F0 m.s m.r.b
  e1:r.b.nums.take m.r.b.nums.length=m.r.b.nums
  e2:r.b.texts.take m.r.b.nums.length=m.r.b.texts
  e3:r.b.ends=m.r.b.ends∧r.b.all=m.r.b.all∧r.b.vals=m.r.b.vals∧r.kids=m.r.kids
  e4:m.r.b.nums.length≤r.b.nums.length∧m.r.b.nums.length≤r.b.texts.length
/-- a maker of plain ones -/
structure PlH (f:Fld) (T:Nat→Prop) (h:Hp) (r:Raw) (m:Option Mem) (b:Nat) (sf sn sb su st:Sl) (T0 T1 T2 R:Nat→Prop):Prop where
  t:Terr T h b [T0,T1,T2,R]
  B:BaseH T0 h b Y383 f sf sn sb r.b [Sl.v su,Sl.v st]
  nu:Os T1 h su (u64s r.b.nums) Y201
  tx:Os T2 h st (strs r.b.texts) Y12
  no:VsA R h sn f.nought.items
  m:∀mm,m=some mm→PlMem R T0 h b f sf sn sb r mm
def HPlains (f:Fld) (T:Nat→Prop) (h:Hp) (v:Value) (r:Raw) (m:Option Mem):Prop :=
  ∃b sf sn sb su st T0 T1 T2 R,v=.iface Y380 (.pointer (some ⟨b,0,none⟩))∧PlH f T h r m b sf sn sb su st T0 T1 T2 R
theorem PlMem.fr {R T0 S:Nat→Prop} {h h':Hp} {b:Nat} {f:Fld} {sf sn sb:Sl} {r:Raw} {m:Mem} (p:PlMem R T0 h b f sf sn sb r m) (t:Tn S h h') (h1:∀c,R c→c < h.size→¬S c) (h2:∀c,T0 c→c < h.size→¬S c):PlMem R T0 h' b f sf sn sb r m:=by
  obtain ⟨⟨F0,c0,c1,c2,t0,t1,t2,r0,r1,r2,e,k0,k1,k2,bm⟩,x⟩:=p
  exact ⟨⟨F0,c0,c1,c2,t0,t1,t2,r0,r1,r2,e,t.blk k0 (h1 _ r0 k0.lt),t.blk k1 (h1 _ r1 k1.lt),t.blk k2 (h1 _ r2 k2.lt),bm.fr t h1 h2⟩,by assumption,by assumption,by assumption,by assumption⟩
theorem u64_wrap (x:Int):IntKind.u64.wrap x=(((x % 2 ^ 64).toNat:Nat):Int):=by
  simp only [IntKind.wrap,IntKind.signed,IntKind.bits];simp;omega
end Go.Proofs.YtlbbdbdjiekkaaaGreatDoor
set_option maxRecDepth 100000
set_option maxHeartbeats 1000000
/- The plain ones take in. -/
namespace Go.Proofs.YtlbbdbdjiekkaaaGreatDoor
open Go Go.Sh Go.WideShapes
section
variable {T T':Nat→Prop} {h h':Hp} {b:Nat} {Ls:List (Nat→Prop)}
theorem Terr.grow (t:Terr T h b Ls) (hs:h.size≤h'.size):Terr T h' b Ls:=⟨t.tb,fun c q=>Nat.lt_of_lt_of_le (t.lt c q) hs,t.sub,t.ap⟩
theorem Terr.mono (t:Terr T h b Ls) (hT:∀c,T c→T' c) (hl:∀c,T' c→c < h.size):Terr T' h b Ls:=⟨hT b t.tb,hl,fun A hA c q=>⟨hT c (t.sub A hA c q).1,(t.sub A hA c q).2⟩,t.ap⟩
theorem Terr.ne (t:Terr T h b Ls) {i j:Nat} {A B:Nat→Prop} (hi:Ls[i]? = some A) (hj:Ls[j]? = some B) (hij:i≠j) (c:Nat) (ha:A c):¬B c:=by
  obtain ⟨hi',rfl⟩:=List.getElem?_eq_some_iff.1 hi
  obtain ⟨hj',rfl⟩:=List.getElem?_eq_some_iff.1 hj
  rcases Nat.lt_or_gt_of_ne hij with q | q
  · exact List.pairwise_iff_getElem.1 t.ap i j hi' hj' q c ha
  · exact fun hb=>List.pairwise_iff_getElem.1 t.ap j i hj' hi' q c hb ha
theorem Terr.nbi (t:Terr T h b Ls) {i:Nat} {A:Nat→Prop} (hi:Ls[i]? = some A):¬A b:=fun q=>t.nb (List.mem_of_getElem? hi) q rfl
end
section
variable {h:Hp} {b:Nat} {ty:TypeId} {f:Fld} {sf sn sb x y z:Sl} {n u w:Nat} {K:HP}
theorem BV.ld16 {K:Sl→Prop} {ex:List Value} (k:Blk h b (baseV f sf sn sb n u w (Sl.v x::ex)).toArray ty) (hk:K x):Ld h ⟨b,16,none⟩ Sl.v K:=Ld_blk k (by simp [baseV]) hk
theorem BV.ld17 {K:Sl→Prop} {v:Value} {ex:List Value} (k:Blk h b (baseV f sf sn sb n u w (v::Sl.v x::ex)).toArray ty) (hk:K x):Ld h ⟨b,17,none⟩ Sl.v K:=Ld_blk k (by simp [baseV]) hk
theorem BV.st16 {v:Value} {ex:List Value} (k:Blk h b (baseV f sf sn sb n u w (v::ex)).toArray ty) (hk:∀h',Only b h h'→Blk h' b (baseV f sf sn sb n u w (Sl.v z::ex)).toArray ty→K h'):St h ⟨b,16,none⟩ (Sl.v z) K :=
  St_i k (by simp [baseV]) rfl fun h' o k'=>hk h' o (by simpa [baseV] using k')
theorem BV.st17 {v v':Value} {ex:List Value} (k:Blk h b (baseV f sf sn sb n u w (v::v'::ex)).toArray ty) (hk:∀h',Only b h h'→Blk h' b (baseV f sf sn sb n u w (v::Sl.v z::ex)).toArray ty→K h'):St h ⟨b,17,none⟩ (Sl.v z) K :=
  St_i k (by simp [baseV]) rfl fun h' o k'=>hk h' o (by simpa [baseV] using k')
end
theorem bs_size (l:List UInt8):(bs l).size=l.length:=by simp [bs,ByteArray.size]
/-- what a plain one has taken in -/
def plUp (x:Val) (r:Rb):Rb:={ Rb.row x.nul r with heavy:=r.heavy+(16+x.text.length),nums:=r.nums++[(x.num % 2 ^ 64).toNat],texts:=r.texts++[x.text] }
def plTk (r:Raw) (x:Val):Int × Raw:=if 4096≤r.b.rows then (3,r) else (if 4194304 < r.b.heavy+(16+x.text.length) then 3 else 0,r.up (plUp x))
section
variable {T:Nat→Prop} {h:Hp} {b:Nat} {f:Fld} {sf sn sb su st:Sl} {r:Raw} {m:Option Mem} {T0 T1 T2 R S:Nat→Prop} {Kp:PK}
theorem PlH.fr {h':Hp} (H:PlH f T h r m b sf sn sb su st T0 T1 T2 R) (t:Tn S h h') (hS:∀c,T c→¬S c):PlH f T h' r m b sf sn sb su st T0 T1 T2 R:=by
  have q:∀{A:Nat→Prop} (i:Nat),[T0,T1,T2,R][i]? = some A→∀c,A c→c < h.size→¬S c:=fun i hi c hc _=>hS c (H.t.sub _ (List.mem_of_getElem? hi) c hc).1
  exact ⟨H.t.grow t.1,H.B.fr t (hS b H.t.tb) (q 0 rfl),H.nu.fr t (q 1 rfl),H.tx.fr t (q 2 rfl),VsA.fr t (q 3 rfl) (fun _ z=>z) _ H.no,fun mm e=>(H.m mm e).fr t (q 3 rfl) (q 0 rfl)⟩
theorem take_pl0 {b0:Nat} {x:Val} {s:Sl} {K:Int→HP} (H:HPlains f T h (.iface Y380 (.pointer (some ⟨b0,0,none⟩))) r m) (b1:r.b.nums.length≤70000) (b2:r.b.texts.length≤70000) (b3:r.b.heavy≤2 ^ 50) (b4:x.text.length≤2 ^ 50)
    (hk:∀h',Tn T h h'→HPlains f (Tr T h h') h' (.iface Y380 (.pointer (some ⟨b0,0,none⟩))) (plTk r x).2 m→K (plTk r x).1 h'):Fn407 (some ⟨b0,0,none⟩) x.nul x.num (bs x.text) s h K Kp:=by
  obtain ⟨b,sf,sn,sb,su,st,T0,T1,T2,R,eb,H⟩:=H
  obtain rfl:b=b0:=by simp at eb;exact eb.symm
  refine Fn407.of (New_i fun a h1 ea g1 ka _ => ?_)
  have s1:=g1.1
  have bl:=H.t.lt b H.t.tb
  have kal:=ka.lt
  have H1:PlH f T h1 r m b sf sn sb su st T0 T1 T2 R:=H.fr (S:=No) (Tn.of_grw g1) fun _ _=>id
  simp only [NN_some,add_blk,Nat.zero_add]
  refine Ld_blk ka rfl (row_c H1.B (fun c q=>H1.t.l (by simp) q) (fun c => ?_) fun hrow sb2 h2 t2 B2 q2 => ?_)
  · refine If_t rfl ?_
    have e:plTk r x=(3,r):=by unfold plTk;rw [if_pos c]
    rw [e] at hk
    refine hk h1 (Tn.of_grw g1) ⟨b,sf,sn,sb,su,st,T0,T1,T2,R,rfl,H1.t.mono (fun c q=>.inl q) fun c q => ?_,H1.B,H1.nu,H1.tx,H1.no,H1.m⟩
    rcases q with q | q
    · exact H1.t.lt c q
    · exact q.2
  · refine If_f rfl ?_
    have s2:=t2.1
    have Ta:=H1.t.step 0 s2
    have nTa:∀c,T c→c≠a:=fun c q e=>by have:=H.t.lt c q;omega
    have sub:∀{A:Nat→Prop} (i:Nat),[T0,T1,T2,R][i]? = some A→∀c,A c→T c:=fun i hi c hc=>(H.t.sub _ (List.mem_of_getElem? hi) c hc).1
    have ka2:=t2.blk ka (fun q=>q.elim (fun q=>nTa b H.t.tb q.symm) fun q=>nTa a (sub 0 rfl a q) rfl)
    have av:∀{A:Nat→Prop} (i:Nat),i≠0→[T0,T1,T2,R][i]? = some A→∀c,A c→c < h1.size→¬(c=b∨T0 c):=fun i h0 hi c hc _ q=>q.elim (fun e=>H.t.nbi hi (e ▸ hc)) fun q=>H.t.ne hi (show [T0,T1,T2,R][0]? = some T0 from rfl) h0 c hc q
    have nu2:=H1.nu.fr t2 (av 1 (by decide) rfl)
    have tx2:=H1.tx.fr t2 (av 2 (by decide) rfl)
    have no2:=VsA.fr (D':=R) t2 (av 3 (by decide) rfl) (fun _ z=>z) _ H1.no
    have nb:∀{A:Nat→Prop} (i:Nat),[T0,T1,T2,R][i]? = some A→¬A b:=fun i hi=>H.t.nbi hi
    have B2:BaseH (Tr T0 h1 h2) h2 b Y383 f sf sn sb2 (Rb.row x.nul r.b) [Sl.v su,Sl.v st]:=⟨B2.k,B2.o.tr,fun q=>q.elim (nb 0 rfl) fun q=>by omega,B2.len,B2.nl,B2.rl⟩
    have n1:=nu2.n
    rw [u64s,List.length_map] at n1
    have n2:=tx2.n
    rw [strs,List.length_map] at n2
    refine BV.ld16 B2.k (Ld_blk ka2 rfl (Wr_any ?_))
    rw [u64_wrap]
    refine New_i fun b3 h3 e3 g3 k3 _=>Keep_blk B2.k g3 ?_
    have s3:=g3.1
    refine (nu2.gr g3).ap rfl rfl (rd_blk k3 rfl) (by omega) (by omega) fun su' h4 t4 nu4 _ => ?_
    have s4:=t4.1
    have k4:=t4.blk (B2.k.grw g3) (nb 1 rfl)
    refine BV.st16 k4 fun h5 o5 k5=>J407_1.of ?_
    have s5:=o5.1
    simp only [NN_some,add_blk,Nat.zero_add]
    have ab:a≠b:=fun e=>nTa b H.t.tb e.symm
    have ka5:=o5.blk (t4.blk (ka2.grw g3) fun q=>nTa a (sub 1 rfl a q) rfl) ab
    refine BV.ld17 k5 (Ld_blk ka5 rfl (New_i fun b6 h6 e6 g6 k6 _=>Keep_blk k5 g6 ?_))
    have s6:=g6.1
    have t25:Tn (fun c=>T1 c∨c=b) h2 h5:=((Tn.of_grw g3).trans (t4.mono fun c q _=>.inl q)).trans (o5.fr.mono fun c q _=>.inr q)
    have t26:Tn (fun c=>T1 c∨c=b) h2 h6:=t25.trans (Tn.of_grw g6)
    have tx6:=tx2.fr t26 fun c q _ z=>z.elim (H.t.ne (i:=2) (j:=1) rfl rfl (by decide) c q) fun e=>nb 2 rfl (e ▸ q)
    refine tx6.ap rfl rfl (rd_blk k6 rfl) (by omega) (by omega) fun st' h7 t7 tx7 _ => ?_
    have s7:=t7.1
    have k7:=t7.blk (k5.grw g6) (nb 2 rfl)
    refine BV.st17 k7 fun h8 o8 k8=>J407_2.of ?_
    have s8:=o8.1
    simp only [NN_some,add_blk,Nat.zero_add]
    have ka8:=o8.blk (t7.blk (ka5.grw g6) fun q=>nTa a (sub 2 rfl a q) rfl) ab
    refine Ld_blk ka8 rfl (Wr_i64 (by rw [bs_size];omega) (by rw [bs_size];omega) ?_)
    have t28:Tn (fun c=>T1 c∨T2 c∨c=b) h2 h8:=((t26.mono fun c q _=>q.imp id .inr).trans (t7.mono fun c q _=>.inr (.inl q))).trans (o8.fr.mono fun c q _=>.inr (.inr q))
    have av0:∀c,Tr T0 h1 h2 c→c < h2.size→¬(T1 c∨T2 c∨c=b):=by
      intro c q _ z
      rcases q with q | q
      · rcases z with z | z | z
        · exact H.t.ne (i:=0) (j:=1) rfl rfl (by decide) c q z
        · exact H.t.ne (i:=0) (j:=2) rfl rfl (by decide) c q z
        · exact nb 0 rfl (z ▸ q)
      · have:=H.t.lt c
        rcases z with z | z | z
        · have:=this (sub 1 rfl c z);omega
        · have:=this (sub 2 rfl c z);omega
        · omega
    have B8:BaseH (Tr T0 h1 h2) h8 b Y383 f sf sn sb2 (Rb.row x.nul r.b) [Sl.v su',Sl.v st']:=⟨k8,B2.o.fr t28 av0,B2.nT,B2.len,B2.nl,B2.rl⟩
    have hv:(Rb.row x.nul r.b).heavy=r.b.heavy:=rfl
    refine weighs_c B8 (n:=16+x.text.length) (by rw [bs_size];omega) (by rw [hv];omega) fun h9 o9 B9 => ?_
    have s9:=o9.1
    have e:plTk r x=(if 4194304 < (Rb.row x.nul r.b).heavy+(16+x.text.length) then 3 else 0,r.up (plUp x)):=by unfold plTk;rw [if_neg (by omega)];rfl
    rw [e] at hk
    have t29:Tn (fun c=>T1 c∨T2 c∨c=b) h2 h9:=t28.trans (o9.fr.mono fun c q _=>.inr (.inr q))
    have t19:Tn (fun c=>(c=b∨T0 c)∨(T1 c∨T2 c∨c=b)) h1 h9:=(t2.mono fun c q _=>.inl q).trans (t29.mono fun c q _=>.inr q)
    have avR:∀c,R c→c < h1.size→¬((c=b∨T0 c)∨(T1 c∨T2 c∨c=b)):=by
      intro c q _ z
      have nbR:=fun e:c=b=>nb 3 rfl (e ▸ q:R b)
      rcases z with (z | z) | z | z | z
      · exact nbR z
      · exact H.t.ne (i:=3) (j:=0) rfl rfl (by decide) c q z
      · exact H.t.ne (i:=3) (j:=1) rfl rfl (by decide) c q z
      · exact H.t.ne (i:=3) (j:=2) rfl rfl (by decide) c q z
      · exact nbR z
    have t49:Tn (fun c=>T2 c∨c=b) h4 h9:=((((o5.fr.mono fun c q _=>.inr q).trans (Tn.of_grw g6)).trans (t7.mono fun c q _=>.inl q)).trans (o8.fr.mono fun c q _=>.inr q)).trans (o9.fr.mono fun c q _=>.inr q)
    have t79:Tn (fun c=>c=b) h7 h9:=o8.fr.trans o9.fr
    have Td:=((((Ta.grow s3).step 1 s4).grow (show h4.size≤h6.size by omega)).step 2 s7).grow (show h7.size≤h9.size by omega)
    have TT:Tn T h h9:=by
      refine ((Tn.of_grw g1:Tn T h h1).trans (t19.mono fun c q _ => ?_))
      rcases q with (q | q) | q | q | q
      · exact q ▸ H.t.tb
      · exact sub 0 rfl c q
      · exact sub 1 rfl c q
      · exact sub 2 rfl c q
      · exact q ▸ H.t.tb
    refine hk h9 TT ⟨b,sf,sn,sb2,su',st',Tr T0 h1 h2,Tr T1 h3 h4,Tr T2 h6 h7,R,rfl,Td.mono (fun c q => ?_) (fun c q => ?_),⟨B9.k,B9.o,B9.nT,B9.len,B9.nl,B9.rl⟩,?_,?_,?_,fun mm em => ?_⟩
    · rcases q with ((q | q) | q) | q
      · exact .inl q
      · exact .inr (by omega)
      · exact .inr (by omega)
      · exact .inr (by omega)
    · rcases q with q | q
      · have:=H.t.lt c q;omega
      · exact q.2
    · have:=nu4.tr.fr t49 fun c q hlt z => ?_
      · simpa [u64s,Raw.up,plUp,Raw.b] using this
      · rcases q with q | q
        · rcases z with z | z
          · exact H.t.ne (i:=1) (j:=2) rfl rfl (by decide) c q z
          · exact nb 1 rfl (z ▸ q)
        · rcases z with z | z
          · have:=H.t.lt c (sub 2 rfl c z);omega
          · omega
    · have:=tx7.tr.fr t79 fun c q hlt z => ?_
      · simpa [strs,Raw.up,plUp,Raw.b] using this
      · rcases q with q | q
        · exact nb 2 rfl (z ▸ q)
        · omega
    · exact VsA.fr t19 avR (fun _ z=>z) _ H1.no
    · obtain ⟨⟨F0,c0,c1,c2,y0,y1,y2,r0,r1,r2,eF,z0,z1,z2,bm⟩,m1,m2,m3,m4⟩:=H1.m mm em
      refine ⟨⟨F0,c0,c1,c2,y0,y1,y2,r0,r1,r2,eF,t19.blk z0 (avR _ r0 z0.lt),t19.blk z1 (avR _ r1 z1.lt),t19.blk z2 (avR _ r2 z2.lt),⟨bm.bm.fr t19 avR,(q2 bm.o).tr.fr t29 av0,bm.len,bm.nl,bm.rl⟩⟩,?_,?_,m3,?_⟩
      · show (r.b.nums++[_]).take _=_
        rw [List.take_append_of_le_length m4.1];exact m1
      · show (r.b.texts++[_]).take _=_
        rw [List.take_append_of_le_length m4.2];exact m2
      · show _≤(r.b.nums++[_]).length∧_≤(r.b.texts++[_]).length
        simp only [List.length_append];omega
theorem take_pl {v:Value} {x:Val} {s:Sl} {K:Int→HP} (H:HPlains f T h v r m) (b1:r.b.nums.length≤70000) (b2:r.b.texts.length≤70000) (b3:r.b.heavy≤2 ^ 50) (b4:x.text.length≤2 ^ 50)
    (hk:∀h',Tn T h h'→HPlains f (Tr T h h') h' v (plTk r x).2 m→K (plTk r x).1 h'):CTake v x.nul x.num (bs x.text) s h K Kp:=by
  obtain ⟨b,_,_,_,_,_,_,_,_,_,rfl,_⟩:=id H
  exact d_take_plains (take_pl0 H b1 b2 b3 b4 hk)
end
end Go.Proofs.YtlbbdbdjiekkaaaGreatDoor
set_option maxRecDepth 100000
set_option maxHeartbeats 1000000
/- The plain ones set back; the zero value. -/
namespace Go.Proofs.YtlbbdbdjiekkaaaGreatDoor
open Go Go.Sh Go.WideShapes
section
variable {T:Nat→Prop} {h:Hp} {s:Sl} {vs:List Value} {el:TypeId}
/-- the first n of a slice of one's own -/
theorem Os.cut {n:Nat} {hi:Int} {K:Sl→Prop} (o:Os T h s vs el) (hn:n≤s.n) (e:hi=n) (hk:∀s',s'.n=n→Os T h s' (vs.take n) el→K s'):Slc s 1 none (some hi) none K:=by
  subst e
  have c:s.n≤s.c:=by
    rcases o with ⟨rfl,_⟩ | ⟨b,_,o⟩
    · exact Nat.le_refl _
    · obtain ⟨_,_,_,_,q,_⟩:=o;exact q
  refine ⟨Int.le_refl _,by simp,by simp;omega,by simp,?_⟩
  simp only [Option.getD_none,Option.getD_some,Int.toNat_zero,Int.toNat_natCast,Nat.sub_zero]
  have e0:(0:Int).toNat=0:=rfl
  rcases o with ⟨rfl,rfl⟩ | ⟨b,t,h1,h2,cs,h3,h4,h5,h6⟩
  · have:n=0:=by simpa [Sl.nil] using hn
    subst this
    exact hk _ rfl (.inl ⟨by simp [slAt,Sl.nil],by simp⟩)
  · refine hk _ rfl (.inr ⟨b,t,?_,?_,cs,h3,?_,?_,fun i hi => ?_⟩)
    · simp only [slAt]
      split
      · exact h1
      · rw [h1];simp [add_blk]
    · simp only [List.length_take];omega
    · exact Nat.le_trans hn c
    · exact h5
    · simp only at hi
      rw [h6 i (by omega),List.getElem?_take_of_lt hi]
end
section
variable {T:Nat→Prop} {h:Hp} {f:Fld} {r:Raw} {m:Option Mem} {v:Value} {Kp:PK}
theorem callv410 {c0 c1 c2:Addr} {K:HP} (H:Fn410 c0 c1 c2 h K Kp):CallV Tryz.prog (.func (.func I410) #[] #[.pointer (some c0), .pointer (some c1), .pointer (some c2)]) [] h (fun r h1=>r=.tuple #[]∧K h1) Kp:=by
  unfold CallV
  exact cast (by kernel_rfl) H
theorem BV.cs11 {b:Nat} {ty:TypeId} {f:Fld} {sf sn sb:Sl} {n u w:Nat} {ex:List Value} (k:Blk h b (baseV f sf sn sb n u w ex).toArray ty) :
    Cs h ⟨b,11,none⟩ [.bool f.nought.nul, .int .i64 f.nought.num, .string (bs f.nought.text),Sl.v sn]:=by
  intro i v hv
  rw [add_blk,cell_blk k]
  rcases i with _ | _ | _ | _ | i
  · simpa [baseV] using hv
  · simpa [baseV] using hv
  · simpa [baseV] using hv
  · simpa [baseV] using hv
  · simp at hv
theorem zero_pl {K:Int→HP} (H:HPlains f T h v r m) (b1:r.b.nums.length≤70000) (b2:r.b.texts.length≤70000) (b3:r.b.heavy≤2 ^ 50) (b4:f.nought.text.length≤2 ^ 50)
    (hk:∀h',Tn T h h'→HPlains f (Tr T h h') h' v (plTk r f.nought).2 m→K (plTk r f.nought).1 h'):CZero v h K Kp:=by
  have H':=H
  obtain ⟨b,sf,sn,sb,su,st,T0,T1,T2,R,rfl,H⟩:=H
  refine d_zero_plains (Fn408.of ?_)
  simp only [NN_some,add_blk,Nat.zero_add]
  refine LY66.c (BV.cs11 H.B.k) ?_
  exact (take_pl0 (s:=sn) H' b1 b2 b3 b4 fun h' t' H'=>hk h' t' H')
theorem back_pl {mm:Mem} {K:HP} (H:HPlains f T h v r (some mm)) (hk:∀h',Tn T h h'→HPlains f T h' v mm.r none→K h'):CallV Tryz.prog mm.F [] h (fun r h1=>r=.tuple #[]∧K h1) Kp:=by
  obtain ⟨b,sf,sn,sb,su,st,T0,T1,T2,R,rfl,H⟩:=H
  obtain ⟨⟨F0,c0,c1,c2,y0,y1,y2,r0,r1,r2,eF,z0,z1,z2,bm⟩,m1,m2,m3,m4⟩:=H.m mm rfl
  rw [eF]
  have nb:∀{A:Nat→Prop} (i:Nat),[T0,T1,T2,R][i]? = some A→¬A b:=fun i hi=>H.t.nbi hi
  have sub:∀{A:Nat→Prop} (i:Nat),[T0,T1,T2,R][i]? = some A→∀c,A c→T c:=fun i hi c hc=>(H.t.sub _ (List.mem_of_getElem? hi) c hc).1
  refine callv410 (Fn410.of (Ld_blk z0 rfl ?_))
  refine back_c bm.bm H.B.k bm.o H.B.nT (fun c q=>⟨H.t.ne (i:=3) (j:=0) rfl rfl (by decide) c q,fun e=>nb 3 rfl (e ▸ q)⟩) bm.len bm.nl bm.rl fun h1 t1 B1 => ?_
  have avT:∀{A:Nat→Prop} (i:Nat),i≠0→[T0,T1,T2,R][i]? = some A→∀c,A c→¬(c=b∨T0 c):=fun i h0 hi c hc q=>q.elim (fun e=>nb i hi (e ▸ hc)) fun q=>H.t.ne hi (show [T0,T1,T2,R][0]? = some T0 from rfl) h0 c hc q
  have avR:=avT (A:=R) 3 (by decide) rfl
  have z1':=t1.blk z1 (avR _ r1)
  have z2':=t1.blk z2 (avR _ r2)
  have nu1:=H.nu.fr t1 fun c q _=>avT 1 (by decide) rfl c q
  have tx1:=H.tx.fr t1 fun c q _=>avT 2 (by decide) rfl c q
  have n1:=nu1.n
  rw [u64s,List.length_map] at n1
  have n2:=tx1.n
  rw [strs,List.length_map] at n2
  refine Ld_blk z1' rfl (Ld_blk z1' rfl (Ld_blk z1' rfl ?_))
  try simp only [NN_some,add_blk,Nat.zero_add]
  refine BV.ld16 B1.k (Ld_blk z2' rfl (nu1.cut (by omega) rfl fun su' e1 nu2=>Ld_blk z1' rfl ?_))
  try simp only [NN_some,add_blk,Nat.zero_add]
  refine BV.ld17 B1.k (Ld_blk z2' rfl (tx1.cut (by omega) rfl fun st' e2 tx2 => ?_))
  refine BV.st16 B1.k fun h2 o2 k2 => ?_
  have nR:∀{c:Nat},R c→c≠b:=fun q e=>nb 3 rfl (e ▸ q)
  refine Keep_b2 z2' (o2.blk z2' (nR r2)) (Keep_b2 z1' (o2.blk z1' (nR r1)) ?_)
  try simp only [NN_some,add_blk,Nat.zero_add]
  refine BV.st17 k2 fun h3 o3 k3 => ?_
  have t13:Tn (fun c=>c=b) h1 h3:=o2.fr.trans o3.fr
  have t3:Tn (fun c=>c=b∨T0 c) h h3:=t1.trans (t13.mono fun c q _=>.inl q)
  refine hk h3 (t3.mono fun c q _=>q.elim (fun e=>e ▸ H.t.tb) fun q=>sub 0 rfl c q) ⟨b,sf,sn,mm.s,su',st',T0,T1,T2,R,rfl,H.t.grow t3.1,⟨k3,B1.o.fr t13 fun c q _ e=>nb 0 rfl (e ▸ q),B1.nT,B1.len,B1.nl,B1.rl⟩,?_,?_,VsA.fr t3 (fun c q _=>avR c q) (fun _ z=>z) _ H.no,fun _ e=>by cases e⟩
  · have e:(u64s r.b.nums).take mm.r.b.nums.length=u64s mm.r.b.nums:=by unfold u64s;rw [←List.map_take,m1]
    rw [e] at nu2
    exact nu2.fr t13 fun c q _ e=>nb 1 rfl (e ▸ q)
  · have e:(strs r.b.texts).take mm.r.b.nums.length=strs mm.r.b.texts:=by unfold strs;rw [←List.map_take,m2]
    rw [e] at tx2
    exact tx2.fr t13 fun c q _ e=>nb 2 rfl (e ▸ q)
end
end Go.Proofs.YtlbbdbdjiekkaaaGreatDoor
set_option maxRecDepth 100000
set_option maxHeartbeats 1000000
/- The plain ones done. -/
namespace Go.Proofs.YtlbbdbdjiekkaaaGreatDoor
open Go Go.Sh Go.WideShapes
section
variable {T:Nat→Prop} {h h0:Hp} {Kp:PK}
theorem bwidth_c {k:Int} {K:Int→HP} (hk:K (wB k:Int) h):Fn390 k h K Kp:=by
  have e:=hk
  unfold wB at e
  refine Fn390.of ?_
  repeat' refine If_i (fun c => ?_) (fun c => ?_)
  all_goals
    simp only [beq_iff_eq,beq_eq_false_iff_ne,ne_eq] at *
    simp_all
/-- two buffers: the validity and what was laid -/
theorem bufs2_i {D:Nat→Prop} {s t:Sl} {l1 l2:List UInt8} {K:Addr→HP} (v1:SvA D h s (bv l1)) (v2:SvA D h t (bv l2)) (hD:D h.size) (hk:∀a h',Grw h h'→BfsA D D h' ⟨some a,2,2⟩ [l1,l2]→K a h') :
    New h #[Sl.v s,Sl.v t] Y96 K:=by
  refine New_i fun b h1 e1 g1 k1 _=>hk _ h1 g1 ⟨[s,t],rfl,?_,fun j u l h1' h2' => ?_⟩
  · refine ⟨⟨rfl,Nat.le_refl _,fun x hx=>⟨_,rfl,fun i v hv => ?_⟩⟩,fun _ a ha=>by cases ha;exact e1 ▸ hD⟩
    rw [add_blk,cell_blk k1]
    rcases i with _ | _ | i
    · simpa using hv
    · simpa using hv
    · simp at hv
  · rcases j with _ | _ | j
    · simp at h1' h2';subst h1' h2';exact v1.gr g1
    · simp at h1' h2';subst h1' h2';exact v2.gr g1
    · simp at h1'
theorem SvA.mo {D D':Nat→Prop} {s:Sl} {vs:List Value} (v:SvA D h s vs) (hD:∀c,D c→D' c):SvA D' h s vs:=v.fr (S:=No) (Tn.refl _ _) (fun _ _ _=>id) hD
/-- validity, what was laid, and the rest -/
theorem done2_pl {b a2:Nat} {f:Fld} {sf sn sb t:Sl} {r:Rb} {ex:List Value} {T0:Nat→Prop} {cs:Array Value} {out:List UInt8} {ty:TypeId} {K:Int→Int→Int→Sl→Sl→Sl→HP}
    (B:BaseH T0 h b ty f sf sn sb r ex) (k2:Blk h a2 cs Y33) (h6:cs.size=6) (g:Grw h0 h) (hlo:h0.size≤a2) (v:SvA (fun c=>h0.size≤c∧c≠a2) h t (bv out))
    (hk:∀p h',Grw h0 h'→DvA (Nw h0) (Nw h0) h' p (.mk r.rows 0 r.nulls [validB r,out] [] [])→K r.rows 0 r.nulls p.1 p.2.1 p.2.2 h'):J405_1 K Kp (some ⟨b,0,none⟩) ⟨a2,0,none⟩ t h:=by
  have a2l:=k2.lt
  have s0:=g.1
  refine J405_1.of ?_
  simp only [NN_some]
  refine bvalid_c B fun u h1 g1 v1 => ?_
  have s1:=g1.1
  refine bufs2_i (D:=fun c=>h0.size≤c∧c≠a2) (v1.mo fun c (q:h.size≤c)=>⟨by omega,by omega⟩) (v.gr g1) ⟨by omega,by omega⟩ fun a h2 g2 bf => ?_
  have B2:=B.fr (S:=No) (Tn.of_grw (Grw.trans g1 g2)) id fun _ _ _=>id
  refine data_c B2 fun h3 g3=>SY33.b ((k2.grw (Grw.trans g1 g2)).grw g3) h6 fun h4 o4 k4=>LY33.b k4 (hk (_,_,_) h4 (Only.grw (Grw.trans g (Grw.trans (Grw.trans g1 g2) g3)) o4 hlo) ⟨?_,DsA.nil _,DsA.nil _⟩)
  exact (bf.gr g3).fr o4.fr (fun c q _ e=>q.2 e) (fun c q _ e=>q.2 e) (fun c q=>q.1) fun c q=>q.1
theorem BV.cs2 {b:Nat} {ty:TypeId} {f:Fld} {sf sn sb:Sl} {n u w:Nat} {ex:List Value} (k:Blk h b (baseV f sf sn sb n u w ex).toArray ty) :
    Cs h ⟨b,2,none⟩ [.int .i64 f.k, .int .i64 f.w, .int .i64 f.id, .int .i64 f.ix,Sl.v sf]:=by
  intro i v hv
  rw [add_blk,cell_blk k]
  rcases i with _ | _ | _ | _ | _ | i
  · simpa [baseV] using hv
  · simpa [baseV] using hv
  · simpa [baseV] using hv
  · simpa [baseV] using hv
  · simpa [baseV] using hv
  · simp at hv
/-- numbers done -/
theorem done_num {f:Fld} {r:Raw} {m:Option Mem} {v:Value} {K:Int→Int→Int→Sl→Sl→Sl→HP} (H:HPlains f T h v r m) (h2:f.k≠2) (h14:f.k≠14) (hb:r.b.nums.length≤70000) (hx:∀x∈r.b.nums,x < 2 ^ 64)
    (hk:∀p h',Grw h h'→DvA (Nw h) (Nw h) h' p (.mk r.b.rows 0 r.b.nulls [validB r.b,laidB r.b.nums (wB f.k)] [] [])→K r.b.rows 0 r.b.nulls p.1 p.2.1 p.2.2 h'):CDone v h K Kp:=by
  obtain ⟨b,sf,sn,sb,su,st,T0,T1,T2,R,rfl,H⟩:=H
  refine d_done_plains (Fn405.of (New_i fun a2 h1 e1 g1 k1 _ => ?_))
  simp only [NN_some,add_blk,Nat.zero_add]
  have B1:=H.B.fr (S:=No) (Tn.of_grw g1) id fun _ _ _=>id
  refine LY27.c (BV.cs2 B1.k) (New_i fun a4 h2' e2 g2 k2 _=>SY27.b k2 rfl fun h3 o3 k3=>Ld_blk k3 rfl (If_f (by simp [h2]) (If_f (by simp [h14]) ?_)))
  have k1l:=k1.lt
  have s1:=g1.1
  have s2:=g2.1
  have g3:Grw h1 h3:=Only.grw g2 o3 (by omega)
  have s3:=g3.1
  have B3:=B1.fr (S:=No) (Tn.of_grw g3) id fun _ _ _=>id
  have nu3:=(H.nu.gr g1).gr g3
  refine BV.ld16 B3.k (Ld_blk k3 rfl (bwidth_c (Keep_blk B3.k (Grw.refl _) ?_)))
  refine laidU_c nu3 hb (by unfold wB;split <;> (try split) <;> (try split) <;> omega) hx fun t h4 gb => ?_
  have g4:=gb.g
  exact done2_pl (B3.fr (S:=No) (Tn.of_grw g4) id fun _ _ _=>id) ((k1.grw g3).grw g4) rfl (Grw.trans (Grw.trans g1 g3) g4) (by omega) (gb.sva.mo fun c (q:h3.size≤c)=>⟨by omega,by omega⟩) hk
end
end Go.Proofs.YtlbbdbdjiekkaaaGreatDoor
set_option maxRecDepth 100000
set_option maxHeartbeats 1000000
/- A field in memory of its own (ownField). -/
namespace Go.Proofs.YtlbbdbdjiekkaaaGreatDoor
open Go Go.Sh Go.WideShapes
def OCop (cs:List Fld):Prop:=∀{n:ByteArray} {nul:Bool} {k w id ix:Int} {h:Hp} {s:Sl} {K:ByteArray→Bool→Int→Int→Int→Int→Sl→HP} {Kp:PK},FsH h s cs→cs.length≤70000→lns cs →
  (∀t h',Grw h h'→FsA (Nw h) h' t cs→K n nul k w id ix t h')→Fn286 n nul k w id ix s h K Kp
theorem ocop_step {cs:List Fld} (IH:∀f∈cs,OCop f.cs):OCop cs:=by
  intro n nul k w id' ix hz s K Kp hsz hl hln hk
  have hn:=hsz.n
  refine Fn286.of (New_i fun a1 hy e1 gy k1 _=>New_i fun a2 h e2 gz k2 _ => ?_)
  have G0:Grw hz h:=Grw.trans gy gz
  have sy:=gy.1
  have sz:=gz.1
  have hs:=hsz.gr G0
  have k1l:=k1.lt
  have k1':=k1.grw gz
  have k1l':=k1'.lt
  have k2l:=k2.lt
  simp only [add_blk,Nat.zero_add,Nat.reduceAdd]
  refine Ld_blk k1' rfl ?_
  refine L286_1.rule (fun x3 x h1=>∃(i:Nat) (us:List Sl),x=i∧i≤cs.length∧us.length=i∧Grw h h1∧RowS h.size 7 h1 x3 (List.zipWith Fld.row (cs.take i) us) Y29 ∧
      ∀(j:Nat) (f:Fld) (u:Sl),cs[j]? = some f→us[j]? = some u→FsA (fun b=>h.size≤b∧¬x3.at b) h1 u f.cs)
    (fun x3 x _=>cs.length - x.toNat) ⟨0,[],rfl,by omega,rfl,Grw.refl _,RowS.nil _ _ _ _,by simp⟩ ?_
  rintro x3 x h1 ⟨i,us,rfl,hi,hus,g1,o1,hu⟩ N1 hN
  have o1n:=o1.n
  rw [List.length_zipWith,List.length_take] at o1n
  refine If_i (fun c => ?_) fun c => ?_
  · simp only [sm,reduceCtorEq] at c
    have hi':i < cs.length:=by omega
    have hj:cs[i]? = some cs[i]:=List.getElem?_eq_getElem hi'
    have htk:cs.take (i+1)=cs.take i++[cs[i]]:=List.take_succ_eq_append_getElem hi'
    have hmem:cs[i]∈cs:=List.getElem_mem hi'
    generalize cs[i]=f at hj htk hmem
    refine hs.ix rfl hj fun a ha => ?_
    obtain ⟨u,c,hfu⟩:=ha.row
    refine LY29.c (c.grw g1) (New_i fun b5 hx eb gx kx _=>SY29.b kx rfl fun h2 o2 k5=>LY29.b k5 ?_)
    have g2:Grw h1 h2:=Only.grw gx o2 (by omega)
    have hfl:=(hln.get f hmem).cs
    refine IH f hmem ((hfu.gr g1).gr g2) hfl.1 hfl.2 fun t h3 g3 ht=>New_i fun b20 h5 e5 g5 k20 _ => ?_
    have b5l:h1.size≤b5:=by omega
    have G5:Grw h1 h5:=Grw.trans (Grw.trans g2 g3) g5
    have ht5:FsA (Nw h2) h5 t f.cs:=FsA.gr ht g5
    refine (o1.grw G5).ap (by have:=g1.1;have:=G5.1;omega) rfl (new:=[f.row t]) rfl (fun r hr=>by simp at hr;subst hr;rfl) (fun r hr=>by simp at hr;subst hr;exact row_one f t) (by simpa [Fld.row,vals7] using rd_blk k20 rfl) (by omega) (by omega) fun s' h6 f6 at6 o6 => ?_
    refine Wr_i64 (by omega) (by omega) (hN _ _ _ ⟨i+1,us++[t],by simp,by omega,by simp [hus],?_,?_,?_⟩ (by omega))
    · exact (((Tn.of_grw (Grw.trans g1 G5):Tn No h h5)).trans' f6 fun d hd hlt=>by have:=((o1.grw G5).at hd).1;omega).grw
    · rw [htk,List.zipWith_append (by simp;omega)];exact o6
    · intro j g v hg hv
      have sz5:=G5.1
      by_cases e:j < i
      · rw [List.getElem?_append_left (by omega)] at hv
        refine FsA.fr f6 (D:=fun b=>(h.size≤b∧¬x3.at b)∧b < h1.size) (fun b hb=>hb.1.2) (fun b hb=>⟨hb.1.1,fun q => ?_⟩) _ (FsA.gr (FsA.lt _ (hu j g v hg hv)) G5)
        rcases at6 b q with q | q
        · exact hb.1.2 q
        · have:=hb.2;omega
      · have hj':=(List.getElem?_eq_some_iff.1 hv).1
        simp only [List.length_append,List.length_singleton] at hj'
        have:j=i:=by omega
        subst this
        rw [List.getElem?_append_right (by omega),hus] at hv
        simp only [Nat.sub_self,List.getElem?_cons_zero,Option.some.injEq] at hv
        subst hv
        rw [hj] at hg;cases hg
        refine FsA.fr f6 (D:=fun b=>Nw h2 b∧b < h5.size) (fun b hb q=>by have:=(o1.at q).2;have:=g2.1;have:=hb.1;omega) (fun b hb=>⟨by have:=g1.1;have:=g2.1;have:=hb.1;omega,fun q => ?_⟩) _ (FsA.lt _ ht5)
        rcases at6 b q with q | q
        · have:=(o1.at q).2;have:=g2.1;have:=hb.1;omega
        · have:=hb.2;omega
  · simp only [sm,reduceCtorEq] at c
    have:i=cs.length:=by omega
    subst this
    rw [List.take_length] at o1
    have fin:FsA (fun b=>h.size≤b∧b < h1.size) h1 x3 cs:=by
      refine FsA.lt _ ?_
      rcases o1.cases with ⟨rfl,e⟩ | ⟨b,hb,o⟩
      · have:cs=[]:=by
          cases cs with
          | nil=>rfl
          | cons f fs=>cases us with
            | nil=>simp at hus
            | cons=>simp at e
        subst this
        unfold FsA;exact ⟨rfl,Nat.le_refl _⟩
      · exact FsA.sub (FsA.of (D:=Nw h) o hus hb fun j f u hf hu'=>FsA.fr (S:=No) (Tn.refl _ _) (fun _ _=>id) (fun b hb=>hb.1) _ (hu j f u hf hu')) rfl rfl o1.cap
    simp only [add_blk,Nat.zero_add,Nat.reduceAdd]
    have s1:=g1.1
    refine St_i (k1'.grw g1) (by simp) rfl fun h2 o2 k3=>LY29.b k3 (SY29.b (o2.blk (k2.grw g1) (by omega)) rfl fun h3 o3 k4=>LY29.b k4 (hk x3 h3 ?_ ?_))
    · exact Only.grw (Only.grw (Grw.trans G0 g1) o2 (by omega)) o3 (by omega)
    · have f2:=FsA.fr (E:=fun b=>h.size≤b∧b < h1.size) o2.fr (fun b hb e=>by have:=hb.1;omega) (fun _ q=>q) _ fin
      exact FsA.fr (E:=Nw hz) o3.fr (fun b hb e=>by have:=hb.1;omega) (fun b hb=>by have:=hb.1;show hz.size≤b;omega) _ f2
theorem ocop_all:∀f:Fld,OCop f.cs
  | .mk _ _ _ _ _ _ cs=>ocop_step (cs:=cs) fun f _=>ocop_all f
end Go.Proofs.YtlbbdbdjiekkaaaGreatDoor
set_option maxRecDepth 100000
set_option maxHeartbeats 1000000
/- What lets a null be. -/
namespace Go.Proofs.YtlbbdbdjiekkaaaGreatDoor
open Go Go.Sh Go.WideShapes
open Classical in
/-- a loop without variables, its measure told by what holds -/
theorem lr0_n {L:HP} {mk:Fr} {T:(Fr→HP)→HP} (rule:LR0 L mk T) (P:Nat→HP) {h:Hp} (h0:∃n,P n h) (step:∀n h,P n h→∀N:Fr→HP,(∀m h',m < n→P m h'→N mk h')→T N h):L h:=by
  let μ:Hp→Nat:=fun h=>if hh:∃n,P n h then Classical.choose (least (fun n=>P n h) hh) else 0
  have sp:∀h,(∃n,P n h)→P (μ h) h∧∀m,m < μ h→¬P m h:=by
    intro h hh
    have:μ h=Classical.choose (least (fun n=>P n h) hh):=by simp only [μ];rw [dif_pos hh]
    rw [this];exact Classical.choose_spec (least (fun n=>P n h) hh)
  refine rule (fun h=>∃n,P n h) μ h0 fun h hI N hN=>step (μ h) h (sp h hI).1 N fun m h' hm hP=>hN h' ⟨m,hP⟩ ?_
  have:=(sp h' ⟨m,hP⟩).2 m
  by_cases q:m < μ h'
  · exact absurd hP (this q)
  · omega
theorem dep_kid {g c:Fld} (e:g.cs[0]? = some c):c.dep < g.dep:=by
  obtain ⟨nm,nul,k,w,id,ix,cs⟩:=g
  cases cs with
  | nil=>simp [Fld.cs] at e
  | cons x xs=>simp [Fld.cs] at e;subst e;simp [Fld.dep,deps];omega
theorem letsL_len:∀cs:List Fld,(letsL cs).length=cs.length
  | []=>rfl
  | x::xs=>by simp [letsL,letsL_len xs]
theorem lets_c {f:Fld} {h:Hp} {s:Sl} {K:Bool→HP} {Kp:PK} (hs:FsH h s f.cs) (hk:∀h',Grw h h'→K f.lets h'):Fn331 f.name f.nul f.k f.w f.id f.ix s h K Kp:=by
  refine Fn331.of (New_i fun a h1 ea g1 ka _ => ?_)
  refine lr0_n L331_2.rule (fun n h'=>∃(g:Fld) (u:Sl),g.dep=n∧Grw h h'∧Blk h' a (g.row u).toArray Y29∧FsH h u g.cs∧g.lets=f.lets) ⟨f.dep,f,s,rfl,g1,ka,hs,rfl⟩ ?_
  rintro n h2 ⟨g,u,rfl,G,k,hu,el⟩ N hN
  have j1:¬(g.k=20∧g.cs.length=1)→J331_1 K Kp ⟨a,0,none⟩ h2:=by
    intro hn
    have e:g.lets=(g.nul && decide (g.k≠18)):=by
      obtain ⟨nm,nul,kk,w,id,ix,cs⟩:=g
      simp only [Fld.lets,letsK,Fld.k,Fld.cs,Fld.nul] at hn ⊢
      rw [if_neg (by rw [letsL_len];exact hn)]
      congr
    refine J331_1.of ?_
    simp only [add_blk,Nat.zero_add]
    refine Ld_blk k rfl (If_i (fun c=>Ld_blk k rfl ?_) fun c => ?_)
    · have:=hk h2 G
      rw [←el,e,c] at this
      have e2:(g.k != 18)=(true && decide (g.k≠18)):=by rw [Bool.eq_iff_iff];simp
      rw [e2];exact this
    · have:=hk h2 G
      rw [←el,e,c] at this
      simpa using this
  simp only [add_blk,Nat.zero_add,Nat.reduceAdd]
  have hun:=hu.n
  have s1:=g1.1
  refine Ld_blk k rfl (If_i (fun c => ?_) fun c=>j1 ?_)
  · simp only [sm,reduceCtorEq] at c
    refine Ld_blk k rfl (If_i (fun c2 => ?_) fun c2=>j1 ?_)
    · simp only [sm,reduceCtorEq] at c2
      have hl:g.cs.length=1:=by omega
      have e:g.cs[0]? = some g.cs[0]:=List.getElem?_eq_getElem (by omega)
      generalize g.cs[0]=c0 at e
      refine Ld_blk k rfl (hu.ix (x:=0) (i:=0) rfl e fun p hp => ?_)
      obtain ⟨u',cp,hu'⟩:=hp.row
      refine LY29.c (cp.grw G) (SY29.b k rfl fun h3 o3 k3=>hN c0.dep h3 (dep_kid e) ⟨c0,u',rfl,Only.grw G o3 (by omega),k3,hu',?_⟩)
      rw [←el]
      obtain ⟨nm,nul,kk,w,id,ix,cs⟩:=g
      simp only [Fld.k,Fld.cs] at c hl e
      cases cs with
      | nil=>simp at e
      | cons x xs =>
        simp at e;subst e
        simp only [Fld.lets,letsK]
        rw [if_pos ⟨c,by rw [letsL_len];exact hl⟩]
        simp [letsL]
    · simp only [sm,reduceCtorEq] at c2;omega
  · simp only [sm,reduceCtorEq] at c;omega
/-- the field may be -/
theorem right_c {nm:ByteArray} {nul:Bool} {k w id ix:Int} {cs:List Fld} {h:Hp} {s:Sl} {K:Bool→HP} {Kp:PK} (ht:KTab h) (hsm:(Fld.mk nm nul k w id ix cs).sml) (hs:FsH h s cs)
    (hk:∀b h',Grw h h'→(b=true↔FldOk (.mk nm nul k w id ix cs))→K b h'):Fn275 nm nul k w id ix s h K Kp:=by
  refine Fn275.of (New_i fun a h1 ea g1 ka _=>LY29.b ka (cfield_c (ht.grw g1) hsm (hs.gr g1) fun e p n h2 g2 he=>hk _ h2 (Grw.trans g1 g2) ?_))
  rw [←he,beq_iff_eq]
theorem may_c' {nm:ByteArray} {nul:Bool} {k w id ix:Int} {cs:List Fld} {h:Hp} {s:Sl} {K:Bool→HP} {Kp:PK} (ht:KTab h) (hsm:(Fld.mk nm nul k w id ix cs).sml) (hs:FsH h s cs)
    (hk:∀b h',Grw h h'→(b=true↔FldOk (.mk nm nul k w id ix cs))→K b h'):Fn305 nm nul k w id ix s h K Kp:=by
  refine Fn305.of (New_i fun a h1 ea g1 ka _=>LY29.b ka (cfield_c (ht.grw g1) hsm (hs.gr g1) fun e p n h2 g2 he=>hk _ h2 (Grw.trans g1 g2) ?_))
  rw [←he,beq_iff_eq]
end Go.Proofs.YtlbbdbdjiekkaaaGreatDoor
set_option maxRecDepth 100000
set_option maxHeartbeats 1000000
/- Makers: what is asked of each; those of numbers. -/
namespace Go.Proofs.YtlbbdbdjiekkaaaGreatDoor
open Go Go.Sh Go.WideShapes
/-- a maker of the field f stands in the territory T -/
def MkH (f:Fld) (T:Nat→Prop) (h:Hp) (v:Value) (r:Raw) (m:Option Mem):Prop:=plainK f.k=true∧HPlains f T h v r m
structure MkC (f:Fld):Prop where
  fr:∀{T S:Nat→Prop} {h h':Hp} {v:Value} {r:Raw} {m:Option Mem},MkH f T h v r m→Tn S h h'→(∀c,T c→¬S c)→MkH f T h' v r m
  lt:∀{T:Nat→Prop} {h:Hp} {v:Value} {r:Raw} {m:Option Mem},MkH f T h v r m→∀c,T c→c < h.size
  na:∀{T:Nat→Prop} {h:Hp} {v:Value} {r:Raw} {m:Option Mem},MkH f T h v r m→one v=true∧v.cells=#[v]
  mono:∀{T T':Nat→Prop} {h:Hp} {v:Value} {r:Raw} {m:Option Mem},MkH f T h v r m→(∀c,T c→T' c)→(∀c,T' c→c < h.size)→MkH f T' h v r m
  drop:∀{T:Nat→Prop} {h:Hp} {v:Value} {r:Raw} {m:Option Mem},MkH f T h v r m→MkH f T h v r none
  take:∀{T D:Nat→Prop} {h:Hp} {v:Value} {vs:List Val} {m:Option Mem} {x:Val} {s:Sl} {K:Int→HP} {Kp:PK},f.can vs→f.fit x=true→x.wgt≤4194304→MkH f T h v (f.st vs) m→VsA D h s x.items→(∀c,D c→¬T c) →
    (∀h',Tn T h h'→MkH f (Tr T h h') h' v (f.tk (f.st vs) x).2 m→K (f.tk (f.st vs) x).1 h')→CTake v x.nul x.num (bs x.text) s h K Kp
  zero:∀{T:Nat→Prop} {h:Hp} {v:Value} {vs:List Val} {m:Option Mem} {K:Int→HP} {Kp:PK},f.can vs→MkH f T h v (f.st vs) m →
    (∀h',Tn T h h'→MkH f (Tr T h h') h' v (f.zk (f.st vs)).2 m→K (f.zk (f.st vs)).1 h')→CZero v h K Kp
  mark:∀{T:Nat→Prop} {h:Hp} {v:Value} {vs:List Val} {K:Value→HP} {Kp:PK},f.can vs→MkH f T h v (f.st vs) none →
    (∀mm h',Grw h h'→one mm.F=true→mm.F.cells=#[mm.F]→mm.r=f.st vs→MkH f (Tr T h h') h' v (f.st vs) (some mm)→K mm.F h')→CMark v h K Kp
  back:∀{T:Nat→Prop} {h:Hp} {v:Value} {r:Raw} {mm:Mem} {K:HP} {Kp:PK},MkH f T h v r (some mm) →
    (∀h',Tn T h h'→MkH f T h' v mm.r none→K h')→CallV Tryz.prog mm.F [] h (fun r h1=>r=.tuple #[]∧K h1) Kp
  done:∀{T:Nat→Prop} {h:Hp} {v:Value} {vs:List Val} {m:Option Mem} {K:Int→Int→Int→Sl→Sl→Sl→HP} {Kp:PK},f.can vs→MkH f T h v (f.st vs) m →
    (∀p h',Grw h h'→DvA (Nw h) (Nw h) h' p (f.dn (f.st vs))→K (f.dn (f.st vs)).len (f.dn (f.st vs)).off (f.dn (f.st vs)).nul p.1 p.2.1 p.2.2 h')→CDone v h K Kp
  count:∀{T:Nat→Prop} {h:Hp} {v:Value} {r:Raw} {m:Option Mem} {K:Int→HP} {Kp:PK},MkH f T h v r m→K (r.b.rows:Int) h→CCount v h K Kp
  weight:∀{T:Nat→Prop} {h:Hp} {v:Value} {r:Raw} {m:Option Mem} {K:Int→HP} {Kp:PK},MkH f T h v r m→K (r.b.heavy:Int) h→CWeight v h K Kp
theorem plainK_ne {k:Int} (h:plainK k=true):k≠1∧k≠12∧k≠13∧k≠15∧k≠16∧k≠17∧k≠18∧k≠19∧k≠20:=by
  simp [plainK] at h;omega
theorem tk_pl {f:Fld} (hk:plainK f.k=true) (r:Raw) (x:Val):f.tk r x=plTk r x:=by
  obtain ⟨k1,k12,k13,k15,k16,k17,k18,k19,k20⟩:=plainK_ne hk
  rw [Fld.tk_eq]
  unfold takeK plTk
  rw [if_neg k1,if_neg (by omega),if_neg k15,if_neg k16,if_neg k17,if_neg k18,if_neg k19,if_neg k20]
  unfold rowR
  split
  · simp [thenR]
  · simp only [thenR,if_true,weighR]
    congr 1
theorem zk_pl {f:Fld} (hk:plainK f.k=true) (r:Raw):f.zk r=plTk r f.nought:=by
  obtain ⟨k1,k12,k13,k15,k16,k17,k18,k19,k20⟩:=plainK_ne hk
  rw [Fld.zk_eq]
  unfold zeroK
  rw [if_pos (.inr (by omega))]
  exact tk_pl hk _ _
theorem wgt_text (x:Val):16+x.text.length≤x.wgt:=by rw [val_wgt];omega
theorem st_pl {f:Fld} {vs:List Val} (hc:f.can vs):(f.st vs).b.nums.length≤70000∧(f.st vs).b.texts.length≤70000∧(f.st vs).b.heavy≤4194304:=by
  have c:=(Fld.can_eq f vs).1 hc
  have:=c.n4
  have:=c.wt
  rw [st_b]
  refine ⟨?_,?_,?_⟩
  · simp only [rbK];split <;> simp;omega
  · simp only [rbK];split <;> simp;omega
  · simp only [rbK];omega
end Go.Proofs.YtlbbdbdjiekkaaaGreatDoor
set_option maxRecDepth 100000
set_option maxHeartbeats 1000000
/- The zero value; what is begun; the making of plain ones begun. -/
namespace Go.Proofs.YtlbbdbdjiekkaaaGreatDoor
open Go Go.Sh Go.WideShapes
theorem may_f {f:Fld} {h:Hp} {s:Sl} {K:Bool→HP} {Kp:PK} (ht:KTab h) (hsm:f.sml) (hs:FsH h s f.cs) (hk:∀b h',Grw h h'→(b=true↔FldOk f)→K b h'):Fn305 f.name f.nul f.k f.w f.id f.ix s h K Kp:=by
  obtain ⟨nm,nul,k,w,id,ix,cs⟩:=f
  exact may_c' ht hsm hs hk
theorem right_f {f:Fld} {h:Hp} {s:Sl} {K:Bool→HP} {Kp:PK} (ht:KTab h) (hsm:f.sml) (hs:FsH h s f.cs) (hk:∀b h',Grw h h'→(b=true↔FldOk f)→K b h'):Fn275 f.name f.nul f.k f.w f.id f.ix s h K Kp:=by
  obtain ⟨nm,nul,k,w,id,ix,cs⟩:=f
  exact right_c ht hsm hs hk
def WtC (f:Fld):Prop:=∀{h:Hp} {s:Sl} {K:Int→HP} {Kp:PK},FsH h s f.cs→(∀h',Grw h h'→K (f.wz:Int) h')→Fn329 f.name f.nul f.k f.w f.id f.ix s h K Kp
def ZvC (f:Fld):Prop:=∀{h:Hp} {s:Sl} {K:Bool→Int→ByteArray→Sl→HP} {Kp:PK},FsH h s f.cs→(∀t h',Grw h h'→VsA (Nw h) h' t f.zv.items→K f.zv.nul f.zv.num (bs f.zv.text) t h') →
  Fn330 f.name f.nul f.k f.w f.id f.ix s h K Kp
theorem wz_l {f:Fld} (hl:f.lets=true):f.wz=16:=by rw [Fld.wz_eq,hl];rfl
theorem zv_l {f:Fld} (hl:f.lets=true):f.zv=v0:=by rw [Fld.zv_eq,hl];rfl
theorem wtC_l {f:Fld} (hl:f.lets=true):WtC f:=by
  intro h s K Kp hs hk
  refine Fn329.of (New_i fun a1 h1 e1 g1 k1 _=>LY29.b k1 (lets_c (f:=f) (hs.gr g1) fun h2 g2=>If_t hl ?_))
  have:=hk h2 (Grw.trans g1 g2)
  rwa [wz_l hl] at this
theorem zvC_l {f:Fld} (hl:f.lets=true):ZvC f:=by
  intro h s K Kp hs hk
  refine Fn330.of (New_i fun a1 h1 e1 g1 k1 _=>New_i fun a2 h2 e2 g2 k2 _=>LY29.b (k1.grw g2) (lets_c (f:=f) ((hs.gr g1).gr g2) fun h3 g3=>If_t hl (SY66.b (k2.grw g3) rfl fun h4 o4 k4=>LY66.b k4 ?_)))
  have s1:=g1.1
  have:=hk ⟨none,0,0⟩ h4 (Only.grw (Grw.trans g1 (Grw.trans g2 g3)) o4 (by omega)) (by rw [zv_l hl];exact VsA.nil _)
  rwa [zv_l hl] at this
theorem Zero_c {f:Fld} (hw:WtC f) (hz:ZvC f) (hok:FldOk f) (hsm:f.sml) {h:Hp} {s:Sl} {K:Bool→Int→ByteArray→Sl→Int→HP} {Kp:PK} (ht:KTab h) (hs:FsH h s f.cs)
    (hk:∀t h',Grw h h'→VsA (Nw h) h' t f.nought.items→K f.nought.nul f.nought.num (bs f.nought.text) t (if f.small then 0 else 3) h'):Fn318 f.name f.nul f.k f.w f.id f.ix s h K Kp:=by
  refine Fn318.of (New_i fun a1 h1 e1 g1 k1 _=>New_i fun a2 h2 e2 g2 k2 _=>LY29.b (k1.grw g2) ?_)
  have s1:=g1.1
  have G2:=Grw.trans g1 g2
  refine may_f (f:=f) (ht.grw G2) hsm (hs.gr G2) fun b h3 g3 hb => ?_
  obtain rfl:b=true:=hb.2 hok
  have G3:=Grw.trans G2 g3
  refine If_f rfl (LY29.b ((k1.grw g2).grw g3) (hw (hs.gr G3) fun h4 g4 => ?_))
  have G4:=Grw.trans G3 g4
  refine If_i (fun c => ?_) fun c => ?_
  · simp only [sm,reduceCtorEq] at c
    refine SY66.b ((k2.grw g3).grw g4) rfl fun h5 o5 k5=>LY66.b k5 ?_
    have e1:f.nought=vEmpty:=by unfold Fld.nought;rw [if_neg (by omega)]
    have e2:f.small=false:=by unfold Fld.small;simp;omega
    have:=hk ⟨none,0,0⟩ h5 (Only.grw G4 o5 (by omega)) (by rw [e1];exact VsA.nil _)
    rw [e1,e2] at this
    exact this
  · simp only [sm,reduceCtorEq] at c
    refine LY29.b (((k1.grw g2).grw g3).grw g4) (hz (hs.gr G4) fun t h5 g5 vt=>SY66.b (((k2.grw g3).grw g4).grw g5) rfl fun h6 o6 k6=>LY66.b k6 ?_)
    have e1:f.nought=f.zv:=by unfold Fld.nought;rw [if_pos (by omega)]
    have e2:f.small=true:=by unfold Fld.small;simp;omega
    have k2l:=k2.lt
    have s4:=g3.1
    have s5:=g4.1
    have:=hk t h6 (Only.grw (Grw.trans G4 g5) o6 (by omega)) (by
      rw [e1]
      exact VsA.fr (D:=Nw h4) o6.fr (fun c (q:h4.size≤c) _ e=>by omega) (fun c (q:h4.size≤c)=>by have:=G4.1;show h.size≤c;omega) _ vt)
    rw [e1,e2] at this
    exact this
theorem based_c {f:Fld} (hw:WtC f) (hz:ZvC f) (hok:FldOk f) (hsm:f.sml) {h:Hp} {s:Sl} {K:ByteArray→Bool→Int→Int→Int→Int→Sl→Int→Int→Sl→Int→Bool→Int→ByteArray→Sl→Bool→HP} {Kp:PK} (ht:KTab h) (hs:FsH h s f.cs)
    (hk:∀t h',Grw h h'→VsA (Nw h) h' t f.nought.items→K f.name f.nul f.k f.w f.id f.ix s 0 0 ⟨none,0,0⟩ 0 f.nought.nul f.nought.num (bs f.nought.text) t f.small h'):Fn304 f.name f.nul f.k f.w f.id f.ix s h K Kp:=by
  refine Fn304.of (New_i fun a1 h1 e1 g1 k1 _=>New_i fun a2 h2 e2 g2 k2 _=>LY29.b (k1.grw g2) ?_)
  have s1:=g1.1
  have s2:=g2.1
  have G2:=Grw.trans g1 g2
  refine Zero_c hw hz hok hsm (ht.grw G2) (hs.gr G2) fun t h3 g3 vt=>New_i fun a3 h4 e4 g4 k4 _=>SY66.b k4 rfl fun h5 o5 k5 => ?_
  have s3:=g3.1
  have g5:Grw h3 h5:=Only.grw g4 o5 (by omega)
  refine LY29.b (((k1.grw g2).grw g3).grw g5) (LY66.b k5 (SY352.b ((k2.grw g3).grw g5) rfl fun h6 o6 k6=>LY352.b k6 ?_))
  have k2l:=k2.lt
  have s5:=g5.1
  have:=hk t h6 (Only.grw (Grw.trans G2 (Grw.trans g3 g5)) o6 (by omega)) (VsA.fr (D:=Nw h2) o6.fr (fun c (q:h2.size≤c) _ e=>by omega) (fun c (q:h2.size≤c)=>by have:=G2.1;show h.size≤c;omega) _ (VsA.gr vt g5))
  have e:((if f.small=true then (0:Int) else 3) == 0)=f.small:=by cases f.small <;> rfl
  rw [e]
  exact this
def MadeC (f:Fld):Prop:=∀{h:Hp} {s:Sl} {K:Value→HP} {Kp:PK},KTab h→FsH h s f.cs→(∀v h',Grw h h'→MkH f (fun c=>h.size≤c∧c < h'.size) h' v f.begun none→K v h')→Fn287 f.name f.nul f.k f.w f.id f.ix s h K Kp
theorem plain_cs {f:Fld} (hok:FldOk f) (hp:plainK f.k=true):f.cs=[]:=by
  obtain ⟨k1,k12,k13,k15,k16,k17,k18,k19,k20⟩:=plainK_ne hp
  exact List.length_eq_zero_iff.1 (hok.right.1.2.2.2.2.2.2.2.2.2.2 ⟨k15,k16,k19,k20,k17,k18⟩)
theorem made_pl {f:Fld} (hw:WtC f) (hz:ZvC f) (hok:FldOk f) (hsm:f.sml) (hp:plainK f.k=true):MadeC f:=by
  intro h s K Kp ht hs hk
  have hcs:=plain_cs hok hp
  have hn:=hs.n
  rw [hcs] at hn
  have hn0:s.n=0:=hn.1
  obtain ⟨k1',k12,k13,k15,k16,k17,k18,k19,k20⟩:=plainK_ne hp
  refine Fn287.of (New_i fun a1 h1 e1 g1 k1 _=>LY29.b k1 (based_c hw hz hok hsm (ht.grw g1) (hs.gr g1) fun t h2 g2 vt=>New_i fun a3 h3 e3 g3 k3 _=>SY352.b k3 rfl fun h4 o4 k4 => ?_))
  have s1:=g1.1
  have s2:=g2.1
  have s3:=g3.1
  have g4:Grw h2 h4:=Only.grw g3 o4 (by omega)
  have k1b:=((k1.grw g2).grw g4)
  simp only [add_blk,Nat.zero_add,Nat.reduceAdd]
  refine Ld_blk k1b rfl ?_
  refine L287_3.rule (fun x4 x14 h'=>h'=h4∧x14=0∧x4=⟨none,0,0⟩) (fun _ _ _=>0) ⟨rfl,rfl,rfl⟩ ?_
  rintro x4 x14 h' ⟨rfl,rfl,rfl⟩ N1 hN
  refine If_f (by rw [hn0];rfl) (J287_1.of ?_)
  simp only [add_blk,Nat.zero_add,Nat.reduceAdd]
  refine Ld_blk k1b rfl (If_f (by simp [k1']) (If_f (by simp [k12]) (J287_2.of (If_f (by simp [k13]) (If_f (by simp [k15]) (If_f (by simp [k16]) (If_f (by simp [k17]) (If_f (by simp [k18]) (If_f (by simp [k19]) (If_f (by simp [k20]) ?_))))))))))
  refine LY352.b k4 (New_i fun b h5 e5 g5 k5 _=>hk _ h5 (Grw.trans (Grw.trans g1 g2) (Grw.trans g4 g5)) ⟨hp,?_⟩)
  have s4:=g4.1
  have s5:=g5.1
  have kb:=k5.lt
  have ebeg:f.begun.b={ rb0 with ends:=if f.k=12∨f.k=13∨f.k=15 then [0] else [] }:=by rw [Fld.begun_eq];rfl
  refine ⟨b,s,t,⟨none,0,0⟩,⟨none,0,0⟩,⟨none,0,0⟩,No,No,No,fun c=>h1.size≤c∧c < h2.size,rfl,⟨⟨⟨by omega,kb⟩,fun c q=>q.2,?_,?_⟩,⟨?_,?_,id,?_,?_,?_⟩,?_,?_,?_,fun _ e=>by cases e⟩⟩
  · intro L hL c hc
    simp only [List.mem_cons,List.not_mem_nil,or_false] at hL
    rcases hL with rfl | rfl | rfl | rfl
    · exact hc.elim
    · exact hc.elim
    · exact hc.elim
    · exact ⟨⟨by omega,by omega⟩,by omega⟩
  · simp [List.pairwise_cons,No]
  · rw [ebeg];exact k5
  · rw [ebeg];exact Os.nil
  · rw [ebeg];simp [rb0]
  · rw [ebeg];exact Nat.le_refl _
  · rw [ebeg];exact Nat.zero_le _
  · rw [ebeg];exact Os.nil
  · rw [ebeg];exact Os.nil
  · exact VsA.gr (VsA.gr (VsA.lt _ vt) g4) g5
end Go.Proofs.YtlbbdbdjiekkaaaGreatDoor
set_option maxRecDepth 100000
set_option maxHeartbeats 1000000
/- Which values fit: the head, and what is flat. -/
namespace Go.Proofs.YtlbbdbdjiekkaaaGreatDoor
open Go Go.Sh Go.WideShapes
mutual
/-- numbers of the machine -/
def Val.rng:Val→Prop
  | .mk _ n _ xs=>(-9223372036854775808≤n∧n≤9223372036854775807)∧rngs xs
def rngs:List Val→Prop
  | []=>True
  | x::xs=>x.rng∧rngs xs
end
theorem Val.rng.num {v:Val} (h:v.rng) : -9223372036854775808≤v.num∧v.num≤9223372036854775807:=by
  obtain ⟨_,n,_,xs⟩:=v;exact h.1
theorem whole_c {k:Int} {h:Hp} {K:Bool→HP} {Kp:PK} (hk:K (decide (3≤k∧k≤10)) h):Fn333 k h K Kp:=by
  refine Fn333.of (If_i (fun c => ?_) fun c => ?_)
  · simp only [sm,reduceCtorEq] at c
    have e:decide (3≤k∧k≤10)=decide (k≤10):=by rw [Bool.eq_iff_iff];simp;omega
    rw [←e];exact hk
  · simp only [sm,reduceCtorEq] at c
    have e:decide (3≤k∧k≤10)=false:=by simp;omega
    rw [←e];exact hk
theorem ranged_c {k n:Int} {h:Hp} {K:Bool→HP} {Kp:PK} (hr:3≤k∧k≤10) (hn : -9223372036854775808≤n∧n≤9223372036854775807) (hk:K (rangeK k n) h):Fn334 k n h K Kp:=by
  have e:k=3∨k=4∨k=5∨k=6∨k=7∨k=8∨k=9∨k=10:=by omega
  have fin:∀b,b=rangeK k n→K b h:=fun b e=>e ▸ hk
  rcases e with rfl | rfl | rfl | rfl | rfl | rfl | rfl | rfl
  · refine Fn334.of (Fn340.of (If_t rfl (If_t rfl (Wr_i64 (by decide) (by decide) (Nn_i (by decide) (Wr_i64 (by decide) (by decide) (If_f rfl (If_t rfl (Wr_i64 (by decide) (by decide) (Nn_i (by decide) (Wr_i64 (by decide) (by decide) (show If (decide (n ≥ -128)) _ _ from If_i (fun c=>(Wr_i64 (by decide) (by decide) (Nn_i (by decide) (fin (decide (n < 128)) ?_)))) fun c=>fin _ ?_))))))))))))
    all_goals (simp only [sm,reduceCtorEq] at c;unfold rangeK;rw [Bool.eq_iff_iff];simp [widK];omega)
  · refine Fn334.of (Fn340.of (If_t rfl (If_t rfl (Wr_i64 (by decide) (by decide) (Nn_i (by decide) (Wr_i64 (by decide) (by decide) (If_f rfl (If_t rfl (Wr_i64 (by decide) (by decide) (Nn_i (by decide) (Wr_i64 (by decide) (by decide) (show If (decide (n ≥ -32768)) _ _ from If_i (fun c=>(Wr_i64 (by decide) (by decide) (Nn_i (by decide) (fin (decide (n < 32768)) ?_)))) fun c=>fin _ ?_))))))))))))
    all_goals (simp only [sm,reduceCtorEq] at c;unfold rangeK;rw [Bool.eq_iff_iff];simp [widK];omega)
  · refine Fn334.of (Fn340.of (If_t rfl (If_t rfl (Wr_i64 (by decide) (by decide) (Nn_i (by decide) (Wr_i64 (by decide) (by decide) (If_f rfl (If_t rfl (Wr_i64 (by decide) (by decide) (Nn_i (by decide) (Wr_i64 (by decide) (by decide) (show If (decide (n ≥ -2147483648)) _ _ from If_i (fun c=>(Wr_i64 (by decide) (by decide) (Nn_i (by decide) (fin (decide (n < 2147483648)) ?_)))) fun c=>fin _ ?_))))))))))))
    all_goals (simp only [sm,reduceCtorEq] at c;unfold rangeK;rw [Bool.eq_iff_iff];simp [widK];omega)
  · refine Fn334.of (Fn340.of (If_t rfl (If_t rfl (Wr_i64 (by decide) (by decide) (Nn_i (by decide) (Wr_i64 (by decide) (by decide) (If_t rfl (fin _ ?_))))))))
    unfold rangeK;simp;omega
  · refine Fn334.of (Fn340.of (If_t rfl (If_f rfl (Wr_i64 (by decide) (by decide) (Nn_i (by decide) (Wr_i64 (by decide) (by decide) (If_f rfl (If_f rfl (If_i (fun c=>(Nn_i (by decide) (Wr_i64 (by decide) (by decide) (fin (decide (n < 256)) ?_)))) fun c=>fin _ ?_)))))))))
    all_goals (simp only [sm,reduceCtorEq] at c;unfold rangeK;rw [Bool.eq_iff_iff];simp [widK];omega)
  · refine Fn334.of (Fn340.of (If_t rfl (If_f rfl (Wr_i64 (by decide) (by decide) (Nn_i (by decide) (Wr_i64 (by decide) (by decide) (If_f rfl (If_f rfl (If_i (fun c=>(Nn_i (by decide) (Wr_i64 (by decide) (by decide) (fin (decide (n < 65536)) ?_)))) fun c=>fin _ ?_)))))))))
    all_goals (simp only [sm,reduceCtorEq] at c;unfold rangeK;rw [Bool.eq_iff_iff];simp [widK];omega)
  · refine Fn334.of (Fn340.of (If_t rfl (If_f rfl (Wr_i64 (by decide) (by decide) (Nn_i (by decide) (Wr_i64 (by decide) (by decide) (If_f rfl (If_f rfl (If_i (fun c=>(Nn_i (by decide) (Wr_i64 (by decide) (by decide) (fin (decide (n < 4294967296)) ?_)))) fun c=>fin _ ?_)))))))))
    all_goals (simp only [sm,reduceCtorEq] at c;unfold rangeK;rw [Bool.eq_iff_iff];simp [widK];omega)
  · refine Fn334.of (Fn340.of (If_t rfl (If_f rfl (Wr_i64 (by decide) (by decide) (Nn_i (by decide) (Wr_i64 (by decide) (by decide) (If_t rfl (fin _ ?_))))))))
    unfold rangeK;simp;omega
/-- a fitter's weight left -/
def FitC (f:Fld):Prop:=∀{D:Nat→Prop} {h:Hp} {x left:Nat} {v:Val} {s t:Sl} {K:Bool→HP} {Kp:PK},UTab h→Blk h x #[.int .i64 (left:Int)] Y396→left≤4194304→FsA D h s f.cs→VsA D h t v.items→¬D x→v.rng →
  (∀b h',Tn (·=x) h h'→(b=true↔v.wgt≤left∧f.fit v=true)→(b=true→Blk h' x #[.int .i64 ((left - v.wgt:Nat):Int)] Y396)→K b h')→Fn319 (some ⟨x,0,none⟩) f.name f.nul f.k f.w f.id f.ix s v.nul v.num (bs v.text) t h K Kp
theorem bs_eq2 (l m:List UInt8):((bs l).toList == (bs m).toList)=decide (l=m):=by
  rw [Bool.eq_iff_iff,bytes_eq,decide_eq_true_eq]
  constructor
  · intro h;have:=congrArg tx h;simpa only [tx_bs] using this
  · intro h;rw [h]
theorem bs_eq (l:List UInt8):((bs l).toList == (bs []).toList)=decide (l.length=0):=by
  rw [bs_eq2,Bool.eq_iff_iff];simp
section
variable {f:Fld} {D:Nat→Prop} {h:Hp} {x left:Nat} {v:Val} {s t:Sl} {K:Bool→HP} {Kp:PK}
theorem fits_pre (k:Blk h x #[.int .i64 (left:Int)] Y396) (hl:left≤4194304) (hs:FsA D h s f.cs) (nx:¬D x) (hv:VsA D h t v.items)
    (hbad:∀h',Tn (·=x) h h'→¬(v.wgt≤left∧f.fit v=true)→K false h')
    (hnul:∀h',Tn (·=x) h h'→Blk h' x #[.int .i64 ((left - v.wgt:Nat):Int)] Y396→v.wgt≤left→f.fit v=true→K true h')
    (hrest:∀h' a4 a5,Tn (·=x) h h'→Blk h' x #[.int .i64 ((left - 16 - v.text.length:Nat):Int)] Y396→16+v.text.length≤left→v.items.length≤4096→v.nul=false→Blk h' a4 (f.row s).toArray Y29 →
      Blk h' a5 #[.bool v.nul, .int .i64 v.num, .string (bs v.text),Sl.v t] Y66→h.size≤a4→h.size≤a5→J319_3 K Kp (some ⟨x,0,none⟩) ⟨a4,0,none⟩ ⟨a5,0,none⟩ h') :
    Fn319 (some ⟨x,0,none⟩) f.name f.nul f.k f.w f.id f.ix s v.nul v.num (bs v.text) t h K Kp:=by
  refine Fn319.of (New_i fun a4 h1 e1 g1 k4 _=>New_i fun a5 h2 e2 g2 k5 _ => ?_)
  have hn:=hv.n
  have xl:=k.lt
  have s1:=g1.1
  have s2:=g2.1
  have hw:=val_wgt v
  have kx:=(k.grw g1).grw g2
  have k4:=k4.grw g2
  simp only [NN_some,add_blk,Nat.zero_add]
  refine Ld_blk kx rfl (Wr_i64 (by omega) (by omega) (St_i kx (by simp) rfl fun h3 o3 kx=>Ld_blk kx rfl ?_))
  have s3:=o3.1
  have t3:Tn (·=x) h h3:=((Tn.of_grw (Grw.trans g1 g2)).trans o3.fr)
  have k4:=o3.blk k4 (by omega)
  have k5:=o3.blk k5 (by omega)
  have fitF:f.fit v=true→v.items.length≤4096:=fun q=>by rw [Fld.fit_eq] at q;exact fit_len q
  refine If_i (fun c=>hbad _ t3 ?_) fun c => ?_
  · simp only [sm,reduceCtorEq] at c;omega
  simp only [sm,reduceCtorEq] at c
  refine Ld_blk k5 rfl (Ld_blk kx rfl (If_i (fun c2=>hbad _ t3 ?_) fun c2 => ?_))
  · simp only [sm,reduceCtorEq] at c2;rw [bs_size] at c2;omega
  simp only [sm,reduceCtorEq] at c2
  rw [bs_size] at c2
  refine Ld_blk k5 rfl (If_i (fun c3=>hbad _ t3 ?_) fun c3 => ?_)
  · simp only [sm,reduceCtorEq] at c3;intro q;have:=fitF q.2;omega
  simp only [sm,reduceCtorEq] at c3
  refine J319_1.of ?_
  simp only [NN_some,add_blk,Nat.zero_add]
  refine Ld_blk kx rfl (Ld_blk k5 rfl (Wr_i64 (by rw [bs_size];omega) (by rw [bs_size];omega) (St_i kx (by simp) rfl fun h4 o4 kx=>J319_2.of ?_)))
  have s4:=o4.1
  have t4:Tn (·=x) h h4:=t3.trans o4.fr
  have k4:=o4.blk k4 (by omega)
  have k5:=o4.blk k5 (by omega)
  rw [bs_size] at kx
  have ex:(left:Int) - 16 - (v.text.length:Int)=((left - 16 - v.text.length:Nat):Int):=by omega
  have kx:Blk h4 x #[.int .i64 ((left - 16 - v.text.length:Nat):Int)] Y396:=by simpa [ex] using kx
  simp only [add_blk,Nat.zero_add]
  refine Ld_blk k5 rfl (If_i (fun c4 => ?_) fun c4=>hrest h4 a4 a5 t4 kx (by omega) (by omega) c4 k4 k5 (by omega) (by omega))
  have fe:f.fit v=(decide (v.items.length≤4096) && (decide (v.num=0) && decide (v.text.length=0) && decide (v.items.length=0) && f.lets)):=by
    rw [Fld.fit_eq];unfold fitK;rw [if_pos c4]
  have no14:∀b,(b=true→v.num=0∧v.text.length=0∧v.items.length=0)→(b=false→¬(v.num=0∧v.text.length=0∧v.items.length=0))→J319_14 K Kp ⟨a4,0,none⟩ b h4:=by
    intro b hb1 hb2
    refine J319_14.of (If_i (fun c5 => ?_) fun c5=>hbad _ t4 ?_)
    · obtain ⟨q1,q2,q3⟩:=hb1 c5
      refine LY29.b k4 (lets_c (f:=f) (FsA.h _ (FsA.fr (E:=D) t4 (fun b q e=>nx (e ▸ q)) (fun _ q=>q) _ hs)) fun h5 g5 => ?_)
      · have kx:=kx.grw g5
        have t5:Tn (·=x) h h5:=t4.trans (Tn.of_grw g5)
        have lw:v.wgt=16:=by
          have:v.items=[]:=List.length_eq_zero_iff.1 q3
          rw [hw,this,q2];rfl
        cases hl:f.lets with
        | true=>exact hnul _ t5 (by rw [lw];simpa [q2] using kx) (by omega) (by rw [fe];simp [q1,q2,q3,hl])
        | false=>exact hbad _ t5 fun q=>by rw [fe,hl] at q;simp at q
    · intro q
      have:=q.2
      rw [fe] at this
      simp at this
      exact hb2 c5 ⟨this.2.1.1.1,by simp [this.2.1.1.2],by simp [this.2.1.2]⟩
  refine Ld_blk k5 rfl (If_i (fun c5 => ?_) fun c5 => ?_)
  · simp only [sm,reduceCtorEq] at c5
    refine Ld_blk k5 rfl ?_
    rw [bs_eq]
    refine J319_13.of (If_i (fun c6 => ?_) fun c6 => ?_)
    · simp only [sm,reduceCtorEq] at c6
      simp only [add_blk,Nat.zero_add]
      refine Ld_blk k5 rfl (no14 _ (fun q => ?_) fun q => ?_)
      · simp only [sm,reduceCtorEq] at q;exact ⟨c5,c6,by omega⟩
      · simp only [sm,reduceCtorEq] at q;rintro ⟨_,_,q3⟩;omega
    · simp only [sm,reduceCtorEq] at c6
      exact no14 _ (fun q=>by cases q) fun _ q=>c6 q.2.1
  · simp only [sm,reduceCtorEq] at c5
    exact J319_13.of (If_f rfl (no14 _ (fun q=>by cases q) fun _ q=>c5 q.1))
/-- what is flat, but texts -/
theorem fitC_flat {f:Fld} (hf:1≤f.k∧f.k≤11):FitC f:=by
  intro D h x left v s t K Kp hu k hl hs hv nx hr hk
  have hw:=val_wgt v
  refine fits_pre k hl hs nx hv (fun h' t' q=>hk false h' t' (by simpa using q) (fun e=>by cases e)) (fun h' t' k' q1 q2=>hk true h' t' (by simp [q1,q2]) fun _=>k') fun h3 a4 a5 t3 kx b1 b2 hnul k4 k5 l4 l5=>J319_3.of ?_
  have xl:=k.lt
  have fe:f.fit v=(decide (v.text.length=0) && (decide (v.items.length=0) && (if f.k=2 then decide (v.num=0∨v.num=1) else decide (3≤f.k∧f.k≤11) && rangeK f.k v.num))):=by
    rw [Fld.fit_eq];unfold fitK
    rw [if_neg (by simp [hnul]),if_neg (by omega),if_neg (by omega),if_neg (by omega),if_neg (by omega),if_neg (by omega),if_neg (by omega)]
    simp [b2]
  have ck:Cs h3 ⟨a4,2,none⟩ [.int .i64 f.k, .int .i64 f.w, .int .i64 f.id, .int .i64 f.ix,Sl.v s]:=by
    intro i v hv
    rw [add_blk,cell_blk k4]
    rcases i with _ | _ | _ | _ | _ | i
    · simpa [Fld.row,vals7] using hv
    · simpa [Fld.row,vals7] using hv
    · simpa [Fld.row,vals7] using hv
    · simpa [Fld.row,vals7] using hv
    · simpa [Fld.row,vals7] using hv
    · simp at hv
  simp only [add_blk,Nat.zero_add]
  refine LY27.c ck (New_i fun a7 h4 e7 g4 k7 _=>SY27.b k7 rfl fun h5 o5 k7=>Ld_blk k7 rfl ?_)
  have s4:=g4.1
  have k4l:=k4.lt
  have k5l:=k5.lt
  have k7l:=k7.lt
  have G:Grw h3 h5:=Only.grw g4 o5 (by omega)
  have k5:=k5.grw G
  have kx:=kx.grw G
  have t5:Tn (·=x) h h5:=t3.trans (Tn.of_grw G)
  refine If_f (by simp;omega) (J319_7.of (If_f (by simp;omega) (If_f (by simp;omega) (If_f (by simp;omega) (If_f (by simp;omega) (J319_8.of (If_f (by simp;omega) (If_f (by simp;omega) (If_f (by simp;omega) (J319_10.of (If_f (by simp;omega) (J319_4.of ?_))))))))))))
  simp only [add_blk,Nat.zero_add]
  have fin:∀b,b=f.fit v→K b h5:=fun b e=>hk b h5 t5 ⟨fun q => ?_,fun q=>by rw [e];exact q.2⟩ fun q => ?_
  rotate_left
  · have q:=e ▸ q
    rw [fe] at q
    simp only [Bool.and_eq_true,decide_eq_true_eq] at q
    have:v.items=[]:=List.length_eq_zero_iff.1 q.2.1
    rw [this] at hw
    exact ⟨by rw [hw];simp [wsum];omega,by rw [←e];assumption⟩
  · have q:=e ▸ q
    rw [fe] at q
    simp only [Bool.and_eq_true,decide_eq_true_eq] at q
    have:v.items=[]:=List.length_eq_zero_iff.1 q.2.1
    rw [this] at hw
    have e2:left - v.wgt=left - 16 - v.text.length:=by rw [hw];simp [wsum];omega
    rw [e2];exact kx
  refine Ld_blk k5 rfl ?_
  rw [bs_eq]
  refine If_i (fun c=>fin _ ?_) fun c => ?_
  · simp only [sm,reduceCtorEq] at c;rw [fe];simp [c]
  simp only [sm,reduceCtorEq] at c
  refine Ld_blk k5 rfl (If_i (fun c2=>fin _ ?_) fun c2=>J319_5.of ?_)
  · simp only [sm,reduceCtorEq] at c2;have:=hv.n;rw [fe];simp;intro _ q;rw [q] at this;simp at this;omega
  simp only [sm,reduceCtorEq] at c2
  have il:v.items.length=0:=by have:=hv.n;omega
  have fe:f.fit v=(if f.k=2 then decide (v.num=0∨v.num=1) else decide (3≤f.k∧f.k≤11) && rangeK f.k v.num):=by
    rw [fe];simp [c,il]
  simp only [add_blk,Nat.zero_add]
  refine Ld_blk k7 rfl (If_i (fun c3 => ?_) fun c3 => ?_)
  · simp only [sm,reduceCtorEq] at c3
    rw [if_pos c3] at fe
    refine Ld_blk k5 rfl (If_i (fun c4=>fin _ ?_) fun c4=>Ld_blk k5 rfl (fin _ ?_))
    · simp only [sm,reduceCtorEq] at c4;rw [fe];simp [c4]
    · simp only [sm,reduceCtorEq] at c4;rw [fe,Bool.eq_iff_iff];simp [c4]
  · simp only [sm,reduceCtorEq] at c3
    rw [if_neg c3] at fe
    refine Ld_blk k7 rfl (If_i (fun c4=>fin _ ?_) fun c4=>J319_6.of ?_)
    · simp only [sm,reduceCtorEq] at c4;rw [fe,c4];have:=hr.num;simp [rangeK];omega
    simp only [sm,reduceCtorEq] at c4
    refine Ld_blk k7 rfl (whole_c (If_i (fun c5 => ?_) fun c5=>fin _ ?_))
    · simp only [sm,reduceCtorEq] at c5
      simp only [add_blk,Nat.zero_add]
      refine Ld_blk k7 rfl (Ld_blk k5 rfl (ranged_c c5 hr.num (fin _ ?_)))
      rw [fe]
      have:decide (3≤f.k∧f.k≤11)=true:=by simp;omega
      rw [this];simp
    · simp only [sm,reduceCtorEq] at c5
      rw [fe]
      have:decide (3≤f.k∧f.k≤11)=false:=by simp;omega
      rw [this];simp
end
/-- does it fit? -/
theorem good_c {f:Fld} (hf:FitC f) {D E:Nat→Prop} {h:Hp} {v:Val} {s t:Sl} {K:Bool→HP} {Kp:PK} (hu:UTab h) (hs:FsA D h s f.cs) (hv:VsA E h t v.items) (hr:v.rng)
    (hk:∀b h',Grw h h'→(b=true↔v.wgt≤4194304∧f.fit v=true)→K b h'):Fn306 f.name f.nul f.k f.w f.id f.ix s v.nul v.num (bs v.text) t h K Kp:=by
  refine Fn306.of (New_i fun a2 h1 e1 g1 k2 _=>New_i fun a3 h2 e2 g2 k3 _=>New_i fun a7 h3 e7 g3 k7 _=>LY29.b ((k2.grw g2).grw g3) (LY66.b (k3.grw g3) ?_))
  have s1:=g1.1
  have s2:=g2.1
  have s3:=g3.1
  have G:=Grw.trans g1 (Grw.trans g2 g3)
  refine hf (D:=fun c=>(D c∨E c)∧c < h.size) (left:=4194304) (hu.grw G) k7 (Nat.le_refl _) ?_ ?_ (fun q=>by have:=q.2;omega) hr fun b h4 t4 hb _=>hk b h4 (((Tn.of_grw G:Tn No h h3)).trans' t4 fun c q hlt=>by omega).grw hb
  · exact FsA.fr (S:=No) (Tn.of_grw G) (fun _ _=>id) (fun c q=>⟨.inl q.1,q.2⟩) _ (FsA.lt _ hs)
  · exact VsA.fr (S:=No) (Tn.of_grw G) (fun _ _ _=>id) (fun c q=>⟨.inr q.1,q.2⟩) _ (VsA.lt _ hv)
theorem Fits_c {f:Fld} (hf:FitC f) (hok:FldOk f) (hsm:f.sml) {D E:Nat→Prop} {h:Hp} {v:Val} {s t:Sl} {K:Int→HP} {Kp:PK} (ht:KTab h) (hu:UTab h) (hs:FsA D h s f.cs) (hv:VsA E h t v.items) (hr:v.rng)
    (hk:∀h',Grw h h'→K (if v.wgt≤4194304∧f.fit v=true then 0 else 7) h'):Fn288 f.name f.nul f.k f.w f.id f.ix s v.nul v.num (bs v.text) t h K Kp:=by
  refine Fn288.of (New_i fun a2 h1 e1 g1 k2 _=>New_i fun a3 h2 e2 g2 k3 _=>LY29.b (k2.grw g2) ?_)
  have G:=Grw.trans g1 g2
  refine may_f (f:=f) (ht.grw G) hsm ((FsA.h _ hs).gr G) fun b h3 g3 hb => ?_
  obtain rfl:b=true:=hb.2 hok
  refine If_f rfl (LY29.b ((k2.grw g2).grw g3) (LY66.b (k3.grw g3) ?_))
  have G3:=Grw.trans G g3
  refine good_c hf (hu.grw G3) (FsA.gr hs G3) (VsA.gr hv G3) hr fun b h4 g4 hb => ?_
  have:=hk h4 (Grw.trans G3 g4)
  refine If_i (fun c => ?_) fun c => ?_
  · simp only [sm,reduceCtorEq] at c
    rw [if_neg (fun q=>by rw [hb.2 q] at c;cases c)] at this;exact this
  · simp only [sm,reduceCtorEq] at c
    rw [if_pos (hb.1 (by simpa using c))] at this;exact this
end Go.Proofs.YtlbbdbdjiekkaaaGreatDoor
set_option maxRecDepth 100000
set_option maxHeartbeats 1000000
/- A value laid, and set back where it can't be: the text of lay. -/
namespace Go.Proofs.YtlbbdbdjiekkaaaGreatDoor
open Go Go.Sh Go.WideShapes
noncomputable def code289:Code:=Tryz.f76.body.getD .skip
def ord289:OrdT:=[(3,(OT.l [0,1,2,3,4,5,6] .fin),[0,1,3,7,0,31,63])]
def z289:List Value:=[.int .i64 0]
def kv289 (K:Int→HP):Value→HP:=fun v h=>rI v fun r0=>K r0 h
theorem D307 {c0 c1:Addr} {h:Hp} {K:HP} (H:Ld h c0 mI fun t2=>If (t2 != 0) (Ld h c1 id fun t4=>CallV Tryz.prog t4 [] h (fun r h1=>r=(.tuple #[])∧(K h1)) (fun _ _=>False)) (K h)) :
    ∀w,hpz w=h→DefRun Tryz.prog I307 [.pointer (some c0), .pointer (some c1)] .returning w fun u2 w'=>u2=.returning∧Same w w'∧K (hpz w'):=by
  intro w hw
  have:=def_plain (P:=Tryz.prog) (ann:=[]) (D:=DrawSem Tryz.prog []) (drawOk _) (g:=I307) (fn:=Tryz.f118) (c:=code307) (caps:=[.pointer (some c0), .pointer (some c1)]) (h:=h) (zs:=[]) (Kv:=fun _ h=>K h)
    Tryz.func118 (by kernel_rfl) (by kernel_rfl) (cast (by kernel_rfl) H) w hw
  refine this.mono ?_
  rintro e u2 w' ⟨hv,h1,h2,v,h3⟩
  refine ⟨hv,h1,h2,?_⟩
  simp only [resEx,tyComps] at h3
  exact h3.2
def L289c (b:Option Addr) (a3 a4 a5:Addr) (K:Int→HP) (h:Hp):Prop :=
  NN b fun p13 =>
  Ld h (p13.add 7) id fun t15 =>
  LY66 h a3 fun t16_0 t16_1 t16_2 t16_3 =>
  CallI Tryz.prog t15 "colonnade/build.take" [(.agg #[(.bool t16_0),(.int .i64 t16_1),(.string t16_2),(Sl.v t16_3)])] h (fun r h1=>∃t17:Int,r=(.int .i64 t17)∧(
    St h1 a4 (.int .i64 t17) fun h2 =>
    ∀w,hpz w=h2→DefRun Tryz.prog I307 [.pointer (some a4), .pointer (some a5)] .returning w fun u' w'=>u'=.returning∧Same w w'∧Ld (hpz w') a4 mI fun r0=>K r0 (hpz w'))) (fun _ _=>False)
abbrev fr289 (b:Option Addr) (v_0:Bool) (v_1:Int) (v_2:ByteArray) (v_3:Sl) (a3 a4 a5 p7:Addr) (t9 t10:Value):Fr :=
  [some (.pointer b),some (.agg #[(.bool v_0),(.int .i64 v_1),(.string v_2),(Sl.v v_3)]),none,some (.pointer (some a3)),some (.pointer (some a4)),some (.pointer (some a5)),some (.pointer b),some (.pointer (some p7)),some (.pointer (some (p7.add 7))),some t9,some t10,none,none,none,none,none,none,none]
abbrev DX289 (b:Option Addr) (v_0:Bool) (v_1:Int) (v_2:ByteArray) (v_3:Sl) (a3 a4 a5 p7:Addr) (t9 t10:Value) (K:Int→HP) (h:Hp):Prop :=
  ∃ (caps:List Value),Nat.blt 11 (fr289 b v_0 v_1 v_2 v_3 a3 a4 a5 p7 t9 t10).length=true∧evs (ev (fr289 b v_0 v_1 v_2 v_3 a3 a4 a5 p7 t9 t10)) [.tmp 4, .tmp 5]=some caps ∧
    sem Tryz.prog [] (DrawSem Tryz.prog ord289) none (sub [1,1,1] code289) (defQ Tryz.prog I307 caps Tryz.f76.results.toList z289 (kv289 K)) (fun _ _=>False) ((fr289 b v_0 v_1 v_2 v_3 a3 a4 a5 p7 t9 t10).set 11 (some (.func (.func I307) #[] caps.toArray))) h
theorem DX289.of {b:Option Addr} {v_0:Bool} {v_1:Int} {v_2:ByteArray} {v_3:Sl} {a3 a4 a5 p7:Addr} {t9 t10:Value} {K:Int→HP} {h:Hp} (H:L289c b a3 a4 a5 K h):DX289 b v_0 v_1 v_2 v_3 a3 a4 a5 p7 t9 t10 K h :=
  ⟨[.pointer (some a4), .pointer (some a5)],by kernel_rfl,by kernel_rfl,cast (by kernel_rfl) H⟩
theorem Fn289.of {b:Option Addr} {v_0:Bool} {v_1:Int} {v_2:ByteArray} {v_3:Sl} {h:Hp} {K:Int→HP} {Kp:PK} (H :
    NY66 h v_0 v_1 v_2 v_3 fun a3 h1 =>
    New h1 #[(.int .i64 0)] Y34 fun a4 h2 =>
    NN b fun p7 =>
    Ld h2 (p7.add 7) id fun t9 =>
    CallI Tryz.prog t9 "colonnade/build.mark" [] h2 (fun r h3=>∃t10:Value,r=t10∧(
      New h3 #[(.nilFunc)] Y4 fun a5 h4 =>
      NA t10 <|
      St h4 a5 t10 fun h5 =>
      DX289 b v_0 v_1 v_2 v_3 a3 a4 a5 p7 t9 t10 K h5)) (fun _ _=>False)):Fn289 b v_0 v_1 v_2 v_3 h K Kp:=by
  have:=fn_deferH (P:=Tryz.prog) (ann:=[]) (D:=DrawSem Tryz.prog ord289) (drawOk _) (f:=I289) (g:=I307) (fn:=Tryz.f76) (pre:=[sub [0] code289,sub [1,0] code289]) (c2:=sub [1,1,1] code289) (id:=2) (o1:=opc (sub [1,1] code289) 0) (o2:=opc (sub [1,1] code289) 1) (tc:=11) (capOps:=#[.tmp 4, .tmp 5]) (call:=callOf (opc (sub [1,1] code289) 1))
    (zs:=z289) (args:=[(.pointer b),(.agg #[(.bool v_0),(.int .i64 v_1),(.string v_2),(Sl.v v_3)])]) (h:=h) (Kv:=kv289 K) (Kp:=Kp) Tryz.func76 (by kernel_rfl) (by kernel_rfl) (by kernel_rfl) (by kernel_rfl) (by kernel_rfl) (by kernel_rfl) (by kernel_rfl) (by kernel_rfl) (by kernel_rfl) (by kernel_rfl) (by kernel_rfl) (by kernel_rfl) (cast (by kernel_rfl) H)
  exact cast (by kernel_rfl) this
end Go.Proofs.YtlbbdbdjiekkaaaGreatDoor
set_option maxRecDepth 100000
set_option maxHeartbeats 1000000
/- The builder: New, lay, Add, Done, Len, Of. -/
namespace Go.Proofs.YtlbbdbdjiekkaaaGreatDoor
open Go Go.Sh Go.WideShapes
/-- a builder in block p -/
structure BldP (f:Fld) (T:Nat→Prop) (h:Hp) (p:Nat) (vs:List Val) (en:Bool) (sf:Sl) (v:Value) (Tm R:Nat→Prop):Prop where
  tp:T p
  lt:∀c,T c→c < h.size
  tm:∀c,Tm c→T c∧c≠p∧¬R c
  tr:∀c,R c→T c∧c≠p
  k:Blk h p #[.string f.name, .bool f.nul, .int .i64 f.k, .int .i64 f.w, .int .i64 f.id, .int .i64 f.ix,Sl.v sf,v, .bool en] Y336
  c:FsA R h sf f.cs
  m:MkH f Tm h v (f.st vs) none
def BldH (f:Fld) (T:Nat→Prop) (h:Hp) (p:Nat) (vs:List Val) (en:Bool):Prop:=∃sf v Tm R,BldP f T h p vs en sf v Tm R
section
variable {f:Fld} {T S D:Nat→Prop} {h h':Hp} {p:Nat} {vs:List Val} {en:Bool} {x:Val} {s:Sl} {Kp:PK}
theorem BldH.fr (MC:MkC f) (B:BldH f T h p vs en) (t:Tn S h h') (hS:∀c,T c→¬S c):BldH f T h' p vs en:=by
  obtain ⟨sf,v,Tm,R,B⟩:=B
  exact ⟨sf,v,Tm,R,B.tp,fun c q=>Nat.lt_of_lt_of_le (B.lt c q) t.1,B.tm,B.tr,t.blk B.k (hS p B.tp),FsA.fr t (fun c q=>hS c (B.tr c q).1) (fun _ q=>q) _ B.c,MC.fr B.m t fun c q=>hS c (B.tm c q).1⟩
theorem lay_c {K:Int→HP} (MC:MkC f) (B:BldH f T h p vs en) (hc:f.can vs) (hfit:f.fit x=true) (hP:Play f (fun r=>f.tk r x) x) (hw:x.wgt≤4194304) (hv:VsA D h s x.items) (hD:∀c,D c→¬T c)
    (hk:∀h',Tn T h h'→BldH f (Tr T h h') h' p (if (f.tk (f.st vs) x).1=0 then vs++[x] else vs) en→K (f.tk (f.st vs) x).1 h'):Fn289 (some ⟨p,0,none⟩) x.nul x.num (bs x.text) s h K Kp:=by
  obtain ⟨sf,v,Tm,R,B⟩:=B
  refine Fn289.of (New_i fun a3 h1 e3 g1 k3 _=>New_i fun a4 h2 e4 g2 k4 _ => ?_)
  have pl:=B.k.lt
  have s1:=g1.1
  have s2:=g2.1
  have G2:=Grw.trans g1 g2
  have tml:=fun c q=>B.lt c (B.tm c q).1
  simp only [NN_some,add_blk,Nat.zero_add]
  refine Ld_blk (B.k.grw G2) rfl (MC.mark hc (MC.fr (S:=No) B.m (Tn.of_grw G2) fun _ _=>id) fun mm h3 g3 o3 c3 er M3=>New_i fun a5 h4 e5 g4 k5 _=>⟨c3,St_i k5 (by simp) o3 fun h5 o5 k5=>DX289.of ?_⟩)
  have s3:=g3.1
  have s4:=g4.1
  have k3l:=k3.lt
  have k4l:=k4.lt
  have G5:Grw h3 h5:=Only.grw g4 o5 (by omega)
  have s5:=G5.1
  have Gs:Grw h2 h5:=Grw.trans g3 G5
  have G:Grw h h5:=Grw.trans G2 Gs
  have k3:=(k3.grw g2).grw Gs
  have k4:=k4.grw Gs
  have kp:=B.k.grw G
  have k5:Blk h5 a5 #[mm.F] Y4:=by simpa using k5
  have M5:=MC.fr (S:=No) M3 (Tn.of_grw G5) fun _ _=>id
  unfold L289c
  simp only [NN_some,add_blk,Nat.zero_add]
  have nTr:∀c,Tr Tm h2 h3 c→(Tm c∧c < h.size)∨(h2.size≤c∧c < h3.size):=fun c q=>q.imp (fun q=>⟨q,tml c q⟩) id
  refine Ld_blk kp rfl (LY66.b k3 (MC.take (D:=fun c=>D c∧c < h.size) hc hfit hw M5 (VsA.gr (VsA.lt _ hv) G) (fun c q z => ?_) fun h6 t6 M6 => ?_))
  · rcases nTr c z with q2 | q2
    · exact hD c q.1 (B.tm c q2.1).1
    · have:=q.2;omega
  have s6:=t6.1
  have k4:=t6.blk k4 fun q=>by rcases nTr a4 q with q | q <;> omega
  have k5:=t6.blk k5 fun q=>by rcases nTr a5 q with q | q <;> omega
  have kp:=t6.blk kp fun q=>by
    rcases nTr p q with q | q
    · exact (B.tm p q.1).2.1 rfl
    · omega
  refine St_i k4 (by simp) rfl fun h7 o7 k4 => ?_
  have s7:=o7.1
  have k5:=o7.blk k5 (by omega)
  have kp:=o7.blk kp (by omega)
  have k4:Blk h7 a4 #[.int .i64 (f.tk (f.st vs) x).1] Y34:=by simpa using k4
  have nTr2:∀c,Tr (Tr Tm h2 h3) h5 h6 c→(Tm c∧c < h.size)∨(h2.size≤c∧c < h3.size)∨(h5.size≤c∧c < h6.size):=fun c q=>by
    rcases q with q | q
    · exact (nTr c q).imp id .inl
    · exact .inr (.inr q)
  have M7:=MC.fr (S:=(·=a4)) M6 o7.fr fun c q e=>by rcases nTr2 c q with q | q | q <;> omega
  have t57:Tn (fun c=>Tr Tm h2 h3 c∨c=a4) h5 h7:=(t6.mono fun c q _=>.inl q).trans (o7.fr.mono fun c q _=>.inr q)
  have fs7:FsA R h7 sf f.cs:=by
    refine FsA.fr (D:=fun c=>R c∧c < h.size) t57 (fun c q z => ?_) (fun c q=>q.1) _ (FsA.gr (FsA.lt _ B.c) G)
    rcases z with z | z
    · rcases nTr c z with q2 | q2
      · exact (B.tm c q2.1).2.2 q.1
      · have:=q.2;omega
    · have:=q.2;omega
  -- the end, from a heap h8 that follows h7
  have fin:∀h8 r',Tn (Tr (Tr Tm h2 h3) h5 h6) h7 h8→MkH f (Tr (Tr Tm h2 h3) h5 h6) h8 v r' none→r'=f.st (if (f.tk (f.st vs) x).1=0 then vs++[x] else vs)→Blk h8 a4 #[.int .i64 (f.tk (f.st vs) x).1] Y34→Ld h8 ⟨a4,0,none⟩ mI fun r0=>K r0 h8:=by
    intro h8 r' t8 M8 er k4
    subst er
    have s8:=t8.1
    have kp:=t8.blk kp fun q=>by
      rcases nTr2 p q with q | q | q
      · exact (B.tm p q.1).2.1 rfl
      · omega
      · omega
    refine Ld_blk k4 rfl (hk h8 ?_ ⟨sf,v,Tr (Tr Tm h2 h3) h5 h6,R, .inl B.tp,fun c q => ?_,fun c q => ?_,fun c q=>⟨.inl (B.tr c q).1,(B.tr c q).2⟩,kp,?_,M8⟩)
    · refine ((Tn.of_grw G).trans' t57 fun c q hlt => ?_).trans' t8 fun c q hlt => ?_
      · rcases q with q | q
        · rcases nTr c q with q | q
          · exact (B.tm c q.1).1
          · omega
        · omega
      · rcases nTr2 c q with q | q | q
        · exact (B.tm c q.1).1
        · omega
        · omega
    · rcases q with q | q
      · have:=B.lt c q;omega
      · exact q.2
    · rcases nTr2 c q with q | q | q
      · exact ⟨.inl (B.tm c q.1).1,(B.tm c q.1).2⟩
      · exact ⟨.inr (by omega),by omega,fun z=>by have:=B.lt c (B.tr c z).1;omega⟩
      · exact ⟨.inr (by omega),by omega,fun z=>by have:=B.lt c (B.tr c z).1;omega⟩
    · refine FsA.fr (D:=fun c=>R c∧c < h.size) t8 (fun c q z => ?_) (fun c q=>q.1) _ (FsA.fr (S:=No) (Tn.refl _ _) (fun _ _=>id) (fun c q=>⟨q.1,B.lt c (B.tr c q.1).1⟩) _ (FsA.lt _ fs7))
      rcases nTr2 c z with q2 | q2 | q2
      · exact (B.tm c q2.1).2.2 q.1
      · have:=q.2;omega
      · have:=q.2;omega
  refine D307 (c0:=⟨a4,0,none⟩) (c1:=⟨a5,0,none⟩) (h:=h7) (K:=fun h'=>Ld h' ⟨a4,0,none⟩ mI fun r0=>K r0 h') (Ld_blk k4 rfl (If_i (fun c => ?_) fun c => ?_))
  · simp only [sm,reduceCtorEq] at c
    refine Ld_blk k5 rfl (MC.back M7 fun h8 t8 M8=>fin h8 _ t8 M8 ?_ (t8.blk k4 fun q=>by rcases nTr2 a4 q with q | q | q <;> omega))
    rw [er,if_neg c]
  · simp only [sm,reduceCtorEq] at c
    exact fin h7 _ (Tn.refl _ _) (MC.drop M7) (by rw [if_pos c];exact (hP vs hc c).2) k4
/-- what Add answers -/
noncomputable def addR (f:Fld) (vs:List Val) (x:Val):Int:=if x.wgt≤4194304∧f.fit x=true then (f.tk (f.st vs) x).1 else 7
def PlayF (f:Fld):Prop:=∀v,f.fit v=true→Play f (fun r=>f.tk r v) v
theorem addR_0 {f:Fld} (PF:PlayF f) {vs:List Val} {x:Val} (hc:f.can vs) (h:addR f vs x=0):f.can (vs++[x])∧f.fit x=true:=by
  unfold addR at h
  split at h
  · rename_i q;exact ⟨((PF x q.2) vs hc h).1,q.2⟩
  · cases h
theorem Add_c {K:Int→HP} (MC:MkC f) (PF:PlayF f) (FC:FitC f) (hok:FldOk f) (hsm:f.sml) (ht:KTab h) (hu:UTab h) (B:BldH f T h p vs false) (hc:f.can vs) (hr:x.rng) (hv:VsA D h s x.items) (hD:∀c,D c→¬T c)
    (hk:∀h',Tn T h h'→BldH f (Tr T h h') h' p (if addR f vs x=0 then vs++[x] else vs) false→K (addR f vs x) h'):Fn261 (some ⟨p,0,none⟩) x.nul x.num (bs x.text) s h K Kp:=by
  have B0:=B
  obtain ⟨sf,v,Tm,R,B⟩:=B
  refine Fn261.of (New_i fun a3 h1 e3 g1 k3 _ => ?_)
  have s1:=g1.1
  simp only [NN_some,add_blk,Nat.zero_add]
  refine Ld_blk (B.k.grw g1) rfl (If_f rfl (LY29.c (a:=⟨p,0,none⟩) ?_ (LY66.b k3 (Fits_c FC hok hsm (ht.grw g1) (hu.grw g1) (FsA.gr B.c g1) (VsA.gr hv g1) hr fun h2 g2 => ?_))))
  · intro i w hw
    rw [add_blk,cell_blk (B.k.grw g1)]
    rcases i with _ | _ | _ | _ | _ | _ | _ | i
    all_goals first | (simp at hw;done) | (simpa using hw)
  have G:=Grw.trans g1 g2
  have s2:=g2.1
  have B2:=B0.fr (S:=No) MC (Tn.of_grw G) fun _ _=>id
  have up:∀{h':Hp} {vs':List Val},h2.size≤h'.size→BldH f (Tr T h2 h') h' p vs' false→BldH f (Tr T h h') h' p vs' false:=by
    rintro h' vs' hs ⟨sf,v,Tm,R,B⟩
    exact ⟨sf,v,Tm,R, .inl B0.choose_spec.choose_spec.choose_spec.choose_spec.tp,fun c q=>by rcases q with q | q;exact B.lt c (.inl q);exact q.2,fun c q=>⟨(B.tm c q).1.imp id fun q=>⟨by omega,q.2⟩,(B.tm c q).2⟩,fun c q=>⟨(B.tr c q).1.imp id fun q=>⟨by omega,q.2⟩,(B.tr c q).2⟩,B.k,B.c,B.m⟩
  refine If_i (fun c => ?_) fun c=>LY66.b (k3.grw g2) ?_
  · simp only [sm,reduceCtorEq] at c
    have hn:¬(x.wgt≤4194304∧f.fit x=true):=fun q=>by rw [if_pos q] at c;exact c rfl
    have e:addR f vs x=7:=by unfold addR;rw [if_neg hn]
    rw [if_neg hn]
    rw [e] at hk
    exact hk h2 (Tn.of_grw G) (up (Nat.le_refl _) (by
      obtain ⟨sf,v,Tm,R,B⟩:=B2
      exact ⟨sf,v,Tm,R, .inl B.tp,fun c q=>by rcases q with q | q;exact B.lt c q;exact q.2,fun c q=>⟨.inl (B.tm c q).1,(B.tm c q).2⟩,fun c q=>⟨.inl (B.tr c q).1,(B.tr c q).2⟩,B.k,B.c,B.m⟩))
  · simp only [sm,reduceCtorEq] at c
    have hp:x.wgt≤4194304∧f.fit x=true:=by
      by_cases q:x.wgt≤4194304∧f.fit x=true
      · exact q
      · rw [if_neg q] at c;cases c
    have e:addR f vs x=(f.tk (f.st vs) x).1:=by unfold addR;rw [if_pos hp]
    rw [e] at hk
    exact lay_c MC B2 hc hp.2 (PF x hp.2) hp.1 (VsA.gr hv G) hD fun h3 t3 B3=>hk h3 ((Tn.of_grw G:Tn T h h2).trans t3) (up t3.1 B3)
theorem Done_c {K:Int→Int→Int→Sl→Sl→Sl→Int→HP} (MC:MkC f) (B:BldH f T h p vs false) (hc:f.can vs)
    (hk:∀q h',Tn (·=p) h h'→BldH f T h' p vs true→DvA (Nw h) (Nw h) h' q (f.dn (f.st vs))→K (f.dn (f.st vs)).len (f.dn (f.st vs)).off (f.dn (f.st vs)).nul q.1 q.2.1 q.2.2 0 h'):Fn263 (some ⟨p,0,none⟩) h K Kp:=by
  obtain ⟨sf,v,Tm,R,B⟩:=B
  refine Fn263.of (New_i fun a2 h1 e2 g1 k2 _ => ?_)
  have pl:=B.k.lt
  have s1:=g1.1
  simp only [NN_some,add_blk,Nat.zero_add]
  refine Ld_blk (B.k.grw g1) rfl (If_f rfl (St_i (B.k.grw g1) (by simp) rfl fun h2 o2 kp => ?_))
  have s2:=o2.1
  have M2:=MC.fr (S:=(·=p)) (MC.fr (S:=No) B.m (Tn.of_grw g1) fun _ _=>id) o2.fr fun c q e=>(B.tm c q).2.1 e
  refine Ld_blk kp rfl (MC.done hc M2 fun q h3 g3 D3 => ?_)
  have k2l:=k2.lt
  have s3:=g3.1
  refine SY33.b ((o2.blk k2 (by omega)).grw g3) rfl fun h4 o4 k4=>LY33.b k4 ?_
  have s4:=o4.1
  have t3:Tn (·=p) h h3:=((Tn.of_grw g1).trans o2.fr).trans (Tn.of_grw g3)
  have t4:Tn (·=p) h h4:=t3.trans' o4.fr fun c q hlt=>by omega
  refine hk q h4 t4 ⟨sf,v,Tm,R,B.tp,fun c q=>Nat.lt_of_lt_of_le (B.lt c q) t4.1,B.tm,B.tr,?_,FsA.fr t4 (fun c q=>(B.tr c q).2) (fun _ q=>q) _ B.c,?_⟩ ?_
  · have:=o4.blk (kp.grw g3) (by omega)
    simpa using this
  · exact MC.fr (S:=(·=a2)) (MC.fr (S:=No) M2 (Tn.of_grw g3) fun _ _=>id) o4.fr fun c q e=>by have:=B.lt c (B.tm c q).1;omega
  · exact D3.fr o4.fr (fun c (q:h2.size≤c) _ e=>by omega) (fun c (q:h2.size≤c) _ e=>by omega) (fun c (q:h2.size≤c)=>by show h.size≤c;omega) fun c (q:h2.size≤c)=>by show h.size≤c;omega
end
end Go.Proofs.YtlbbdbdjiekkaaaGreatDoor
set_option maxRecDepth 100000
set_option maxHeartbeats 1000000
/- The mark of plain ones: the text (printed by gen.py with ALTF 406:8; three may come first: fnof3). -/
namespace Go.Proofs.YtlbbdbdjiekkaaaGreatDoor
open Go Go.Sh Go.WideShapes
section
def ann406:Ann:=[]
def ord406:OrdT:=[(1,(OT.l [0,1,2,4,5,6,7,8] (.alt (OT.l [3] (.alt (OT.l [9,10,11,12] .fin) (OT.l [10,9,11,12] .fin))) (OT.l [] (.alt (OT.l [9] (.alt (OT.l [3,10,11,12] .fin) (OT.l [10,3,11,12] .fin))) (OT.l [10] (.alt (OT.l [3,9,11,12] .fin) (OT.l [9,3,11,12] .fin))))))),[0,1,3,7,0,16,48,112,240,0,0,1551,4095])]
def z406:List Value:=[(.nilFunc)]
def kv406 (K:Value→HP):Value→HP:=fun v h=>rA v fun r0=>K r0 h
variable (K:Value→HP) (Kp:PK) 
variable {K Kp} {h:Hp}
theorem Fn406.of {m:Option Addr} (H :
  New h #[(.pointer m)] Y380 fun a1 h1 =>
  Ld h1 a1 .pointer fun t5 =>
  NN t5 fun p6 =>
  Ld h1 a1 .pointer fun t9 =>
  NN t9 fun p10 =>
  Ld h1 (p10.add 16) Sl.v fun t12 =>
  (
    Fn349 (some p6) h1 (fun t8 h2 =>
      Keep h1 h2 (p10.add 16) 1 <|
      Keep h1 h2 a1 1 <|
      (
        New h2 #[(.nilFunc)] Y4 fun a3 h3 =>
        Keep h2 h3 (p10.add 16) 1 <|
        Keep h2 h3 a1 1 <|
        Keep h2 h3 a1 1 <|
        New h3 #[(.int .i64 0)] Y6 fun a4 h4 =>
        Keep h3 h4 (p10.add 16) 1 <|
        Keep h3 h4 a1 1 <|
        Keep h3 h4 a1 1 <|
        NA t8 <|
        St h4 a3 t8 fun h5 =>
        Keep h4 h5 (p10.add 16) 1 <|
        Keep h4 h5 a1 1 <|
        St h5 a4 (.int .i64 (t12.n:Int)) fun h6 =>
        K (.func (.func I410) #[] #[(.pointer (some a3)),(.pointer (some a1)),(.pointer (some a4))]) h6)∧(
        New h2 #[(.int .i64 0)] Y6 fun a4 h3 =>
        Keep h2 h3 (p10.add 16) 1 <|
        Keep h2 h3 a1 1 <|
        Keep h2 h3 a1 1 <|
        New h3 #[(.nilFunc)] Y4 fun a3 h4 =>
        Keep h3 h4 (p10.add 16) 1 <|
        Keep h3 h4 a1 1 <|
        Keep h3 h4 a1 1 <|
        NA t8 <|
        St h4 a3 t8 fun h5 =>
        Keep h4 h5 (p10.add 16) 1 <|
        Keep h4 h5 a1 1 <|
        St h5 a4 (.int .i64 (t12.n:Int)) fun h6 =>
        K (.func (.func I410) #[] #[(.pointer (some a3)),(.pointer (some a1)),(.pointer (some a4))]) h6)) Kp)∧(
    (
      New h1 #[(.nilFunc)] Y4 fun a3 h2 =>
      Keep h1 h2 (p10.add 16) 1 <|
      Keep h1 h2 a1 1 <|
      Keep h1 h2 a1 1 <|
      (
        Fn349 (some p6) h2 (fun t8 h3 =>
          Keep h2 h3 (p10.add 16) 1 <|
          Keep h2 h3 a1 1 <|
          New h3 #[(.int .i64 0)] Y6 fun a4 h4 =>
          Keep h3 h4 (p10.add 16) 1 <|
          Keep h3 h4 a1 1 <|
          Keep h3 h4 a1 1 <|
          NA t8 <|
          St h4 a3 t8 fun h5 =>
          Keep h4 h5 (p10.add 16) 1 <|
          Keep h4 h5 a1 1 <|
          St h5 a4 (.int .i64 (t12.n:Int)) fun h6 =>
          K (.func (.func I410) #[] #[(.pointer (some a3)),(.pointer (some a1)),(.pointer (some a4))]) h6) Kp)∧(
        New h2 #[(.int .i64 0)] Y6 fun a4 h3 =>
        Keep h2 h3 (p10.add 16) 1 <|
        Keep h2 h3 a1 1 <|
        Keep h2 h3 a1 1 <|
        Fn349 (some p6) h3 (fun t8 h4 =>
          Keep h3 h4 (p10.add 16) 1 <|
          Keep h3 h4 a1 1 <|
          NA t8 <|
          St h4 a3 t8 fun h5 =>
          Keep h4 h5 (p10.add 16) 1 <|
          Keep h4 h5 a1 1 <|
          St h5 a4 (.int .i64 (t12.n:Int)) fun h6 =>
          K (.func (.func I410) #[] #[(.pointer (some a3)),(.pointer (some a1)),(.pointer (some a4))]) h6) Kp))∧(
      New h1 #[(.int .i64 0)] Y6 fun a4 h2 =>
      Keep h1 h2 (p10.add 16) 1 <|
      Keep h1 h2 a1 1 <|
      Keep h1 h2 a1 1 <|
      (
        Fn349 (some p6) h2 (fun t8 h3 =>
          Keep h2 h3 (p10.add 16) 1 <|
          Keep h2 h3 a1 1 <|
          New h3 #[(.nilFunc)] Y4 fun a3 h4 =>
          Keep h3 h4 (p10.add 16) 1 <|
          Keep h3 h4 a1 1 <|
          Keep h3 h4 a1 1 <|
          NA t8 <|
          St h4 a3 t8 fun h5 =>
          Keep h4 h5 (p10.add 16) 1 <|
          Keep h4 h5 a1 1 <|
          St h5 a4 (.int .i64 (t12.n:Int)) fun h6 =>
          K (.func (.func I410) #[] #[(.pointer (some a3)),(.pointer (some a1)),(.pointer (some a4))]) h6) Kp)∧(
        New h2 #[(.nilFunc)] Y4 fun a3 h3 =>
        Keep h2 h3 (p10.add 16) 1 <|
        Keep h2 h3 a1 1 <|
        Keep h2 h3 a1 1 <|
        Fn349 (some p6) h3 (fun t8 h4 =>
          Keep h3 h4 (p10.add 16) 1 <|
          Keep h3 h4 a1 1 <|
          NA t8 <|
          St h4 a3 t8 fun h5 =>
          Keep h4 h5 (p10.add 16) 1 <|
          Keep h4 h5 a1 1 <|
          St h5 a4 (.int .i64 (t12.n:Int)) fun h6 =>
          K (.func (.func I410) #[] #[(.pointer (some a3)),(.pointer (some a1)),(.pointer (some a4))]) h6) Kp)))) :
  Fn406 m h K Kp:=fnof3 (ann:=ann406) (o:=ord406) (zs:=z406) (Kv:=kv406 K) Tryz.func340 (by kernel_rfl) H (by kernel_rfl) (by kernel_rfl)
end
end Go.Proofs.YtlbbdbdjiekkaaaGreatDoor
set_option maxRecDepth 100000
set_option maxHeartbeats 1000000
/- The makers of numbers: all that is asked. -/
namespace Go.Proofs.YtlbbdbdjiekkaaaGreatDoor
open Go Go.Sh Go.WideShapes
theorem BMark.lt {M:Nat→Prop} {h:Hp} {b:Nat} {F:Value} {f:Fld} {sf sn sb0:Sl} {r0:Rb} (m:BMark M h b F f sf sn sb0 r0):BMark (fun c=>M c∧c < h.size) h b F f sf sn sb0 r0:=by
  obtain ⟨b3,b1,b4,x,m3,m1,m4,e,k3,k1,k4,hx⟩:=m
  exact ⟨b3,b1,b4,x,⟨m3,k3.lt⟩,⟨m1,k1.lt⟩,⟨m4,k4.lt⟩,e,k3,k1,k4,hx⟩
theorem BMark.cells {M:Nat→Prop} {h:Hp} {b:Nat} {F:Value} {f:Fld} {sf sn sb0:Sl} {r0:Rb} (m:BMark M h b F f sf sn sb0 r0):F.cells=#[F]:=by
  obtain ⟨b3,b1,b4,x,m3,m1,m4,e,_⟩:=m
  rw [e];rfl
section
variable {f:Fld} {T:Nat→Prop} {h:Hp} {r:Raw} {b:Nat} {sf sn sb su st:Sl} {T0 T1 T2 R:Nat→Prop} {Kp:PK}
theorem mark_fin {K:Value→HP} {h6:Hp} {a1 a3 a4:Nat} {F:Value} {M:Nat→Prop} {t1 t3 t4:TypeId} (H:PlH f T h r none b sf sn sb su st T0 T1 T2 R) (hp:plainK f.k=true) (hl:r.b.nums.length=r.b.texts.length)
    (hk:∀mm h',Grw h h'→one mm.F=true→mm.F.cells=#[mm.F]→mm.r=r→MkH f (Tr T h h') h' (.iface Y380 (.pointer (some ⟨b,0,none⟩))) r (some mm)→K mm.F h')
    (G:Grw h h6) (l1:h.size≤a1) (l3:h.size≤a3) (l4:h.size≤a4) (k1:Blk h6 a1 #[.pointer (some ⟨b,0,none⟩)] t1) (k3:Blk h6 a3 #[F] t3) (k4:Blk h6 a4 #[.int .i64 (su.n:Int)] t4) (bm:BMark M h6 b F f sf sn sb r.b) (hM:∀c,M c→h.size≤c) :
    K (.func (.func I410) #[] #[.pointer (some ⟨a3,0,none⟩), .pointer (some ⟨a1,0,none⟩), .pointer (some ⟨a4,0,none⟩)]) h6:=by
  have hn:=H.nu.n
  rw [u64s,List.length_map] at hn
  rw [hn] at k4
  have H6:=H.fr (S:=No) (Tn.of_grw G) fun _ _=>id
  refine hk (.mk (.func (.func I410) #[] #[.pointer (some ⟨a3,0,none⟩), .pointer (some ⟨a1,0,none⟩), .pointer (some ⟨a4,0,none⟩)]) r sb []) h6 G rfl rfl rfl ⟨hp,b,sf,sn,sb,su,st,T0,T1,T2,Tr R h h6,rfl,H.t.step 3 G.1,H6.B,H6.nu,H6.tx,VsA.mo H6.no fun c q=>.inl q,fun mm e => ?_⟩
  cases e
  refine ⟨⟨F,a3,a1,a4,t3,t1,t4, .inr ⟨l3,k3.lt⟩, .inr ⟨l1,k1.lt⟩, .inr ⟨l4,k4.lt⟩,rfl,k3,k1,k4,⟨bm.lt.mono fun c q=>.inr ⟨hM c q.1,q.2⟩,Old.of H6.B.o,H.B.len,H.B.nl,H.B.rl⟩⟩,?_,?_,⟨rfl,rfl,rfl,rfl⟩,?_⟩
  · exact List.take_length
  · show r.b.texts.take r.b.nums.length=_
    rw [hl];exact List.take_length
  · exact ⟨Nat.le_refl _,by show r.b.nums.length≤_;omega⟩
theorem mark_pl {K:Value→HP} (H:PlH f T h r none b sf sn sb su st T0 T1 T2 R) (hp:plainK f.k=true) (hl:r.b.nums.length=r.b.texts.length)
    (hk:∀mm h',Grw h h'→one mm.F=true→mm.F.cells=#[mm.F]→mm.r=r→MkH f (Tr T h h') h' (.iface Y380 (.pointer (some ⟨b,0,none⟩))) r (some mm)→K mm.F h'):CMark (.iface Y380 (.pointer (some ⟨b,0,none⟩))) h K Kp:=by
  have fin:=@mark_fin f T h r b sf sn sb su st T0 T1 T2 R K
  refine d_mark_plains (Fn406.of (New_i fun a1 h1 e1 g1 k1 _ => ?_))
  have s1:=g1.1
  have kb:=H.B.k.grw g1
  have bl:=H.B.k.lt
  have k1l:=k1.lt
  have l1:h.size≤a1:=by omega
  have G:=g1
  refine Ld_blk k1 rfl ?_
  simp only [NN_some,add_blk,Nat.zero_add]
  refine Ld_blk k1 rfl ?_
  simp only [NN_some,add_blk,Nat.zero_add]
  refine BV.ld16 kb ?_
  refine ⟨?_,?_⟩
  · refine marked_c (H.B.fr (S:=No) (Tn.of_grw G) id fun _ _ _=>id) fun F h2 g2 oF bm=>Keep_blk kb g2 (Keep_blk k1 g2 ?_)
    have bm:=bm.lt
    have cF:=bm.cells
    have s2:=g2.1
    have kb:=kb.grw g2
    have k1:=k1.grw g2
    have G:=Grw.trans G g2
    refine ⟨?_,?_⟩
    · refine New_i fun a3 h3 e3 g3 k3 _=>Keep_blk kb g3 (Keep_blk k1 g3 (Keep_blk k1 g3 ?_))
      have k3l:=k3.lt
      have s3:=g3.1
      have kb:=kb.grw g3
      have k1:=k1.grw g3
      have G:=Grw.trans G g3
      have bm:=bm.fr (S:=No) (Tn.of_grw g3) fun _ _ _=>id
      refine New_i fun a4 h4 e4 g4 k4 _=>Keep_blk kb g4 (Keep_blk k1 g4 (Keep_blk k1 g4 ?_))
      have k4l:=k4.lt
      have s4:=g4.1
      have kb:=kb.grw g4
      have k1:=k1.grw g4
      have G:=Grw.trans G g4
      have bm:=bm.fr (S:=No) (Tn.of_grw g4) fun _ _ _=>id
      have k3:=k3.grw g4
      refine ⟨cF,St_i k3 (by simp) oF fun h5 o5 k3=>Keep_b2 kb (o5.blk kb (by omega)) (Keep_b2 k1 (o5.blk k1 (by omega)) ?_)⟩
      refine St_i (o5.blk k4 (by omega)) (by simp) rfl fun h6 o6 k4 => ?_
      have ta:Tn (fun c=>c=a3∨c=a4) h4 h6:=(o5.fr.mono fun c q _=>.inl q).trans (o6.fr.mono fun c q _=>.inr q)
      have G6:Grw h h6:=Only.grw (Only.grw G o5 (by omega)) o6 (by omega)
      refine fin H hp hl hk G6 l1 (by omega) (by omega) (ta.blk k1 (by omega)) (o6.blk (by simpa using k3) (by omega)) (by simpa using k4) (bm.fr ta fun c q hlt z => ?_) fun c q => ?_
      · simp only [Nw] at q;omega
      · simp only [Nw] at q;omega
    · refine New_i fun a4 h3 e3 g3 k4 _=>Keep_blk kb g3 (Keep_blk k1 g3 (Keep_blk k1 g3 ?_))
      have k4l:=k4.lt
      have s3:=g3.1
      have kb:=kb.grw g3
      have k1:=k1.grw g3
      have G:=Grw.trans G g3
      have bm:=bm.fr (S:=No) (Tn.of_grw g3) fun _ _ _=>id
      refine New_i fun a3 h4 e4 g4 k3 _=>Keep_blk kb g4 (Keep_blk k1 g4 (Keep_blk k1 g4 ?_))
      have k3l:=k3.lt
      have s4:=g4.1
      have kb:=kb.grw g4
      have k1:=k1.grw g4
      have G:=Grw.trans G g4
      have bm:=bm.fr (S:=No) (Tn.of_grw g4) fun _ _ _=>id
      have k4:=k4.grw g4
      refine ⟨cF,St_i k3 (by simp) oF fun h5 o5 k3=>Keep_b2 kb (o5.blk kb (by omega)) (Keep_b2 k1 (o5.blk k1 (by omega)) ?_)⟩
      refine St_i (o5.blk k4 (by omega)) (by simp) rfl fun h6 o6 k4 => ?_
      have ta:Tn (fun c=>c=a3∨c=a4) h4 h6:=(o5.fr.mono fun c q _=>.inl q).trans (o6.fr.mono fun c q _=>.inr q)
      have G6:Grw h h6:=Only.grw (Only.grw G o5 (by omega)) o6 (by omega)
      refine fin H hp hl hk G6 l1 (by omega) (by omega) (ta.blk k1 (by omega)) (o6.blk (by simpa using k3) (by omega)) (by simpa using k4) (bm.fr ta fun c q hlt z => ?_) fun c q => ?_
      · simp only [Nw] at q;omega
      · simp only [Nw] at q;omega
  · refine ⟨?_,?_⟩
    · refine New_i fun a3 h2 e2 g2 k3 _=>Keep_blk kb g2 (Keep_blk k1 g2 (Keep_blk k1 g2 ?_))
      have k3l:=k3.lt
      have s2:=g2.1
      have kb:=kb.grw g2
      have k1:=k1.grw g2
      have G:=Grw.trans G g2
      refine ⟨?_,?_⟩
      · refine marked_c (H.B.fr (S:=No) (Tn.of_grw G) id fun _ _ _=>id) fun F h3 g3 oF bm=>Keep_blk kb g3 (Keep_blk k1 g3 ?_)
        have bm:=bm.lt
        have cF:=bm.cells
        have s3:=g3.1
        have kb:=kb.grw g3
        have k1:=k1.grw g3
        have G:=Grw.trans G g3
        have k3:=k3.grw g3
        refine New_i fun a4 h4 e4 g4 k4 _=>Keep_blk kb g4 (Keep_blk k1 g4 (Keep_blk k1 g4 ?_))
        have k4l:=k4.lt
        have s4:=g4.1
        have kb:=kb.grw g4
        have k1:=k1.grw g4
        have G:=Grw.trans G g4
        have k3:=k3.grw g4
        have bm:=bm.fr (S:=No) (Tn.of_grw g4) fun _ _ _=>id
        refine ⟨cF,St_i k3 (by simp) oF fun h5 o5 k3=>Keep_b2 kb (o5.blk kb (by omega)) (Keep_b2 k1 (o5.blk k1 (by omega)) ?_)⟩
        refine St_i (o5.blk k4 (by omega)) (by simp) rfl fun h6 o6 k4 => ?_
        have ta:Tn (fun c=>c=a3∨c=a4) h4 h6:=(o5.fr.mono fun c q _=>.inl q).trans (o6.fr.mono fun c q _=>.inr q)
        have G6:Grw h h6:=Only.grw (Only.grw G o5 (by omega)) o6 (by omega)
        refine fin H hp hl hk G6 l1 (by omega) (by omega) (ta.blk k1 (by omega)) (o6.blk (by simpa using k3) (by omega)) (by simpa using k4) (bm.fr ta fun c q hlt z => ?_) fun c q => ?_
        · simp only [Nw] at q;omega
        · simp only [Nw] at q;omega
      · refine New_i fun a4 h3 e3 g3 k4 _=>Keep_blk kb g3 (Keep_blk k1 g3 (Keep_blk k1 g3 ?_))
        have k4l:=k4.lt
        have s3:=g3.1
        have kb:=kb.grw g3
        have k1:=k1.grw g3
        have G:=Grw.trans G g3
        have k3:=k3.grw g3
        refine marked_c (H.B.fr (S:=No) (Tn.of_grw G) id fun _ _ _=>id) fun F h4 g4 oF bm=>Keep_blk kb g4 (Keep_blk k1 g4 ?_)
        have bm:=bm.lt
        have cF:=bm.cells
        have s4:=g4.1
        have kb:=kb.grw g4
        have k1:=k1.grw g4
        have G:=Grw.trans G g4
        have k3:=k3.grw g4
        have k4:=k4.grw g4
        refine ⟨cF,St_i k3 (by simp) oF fun h5 o5 k3=>Keep_b2 kb (o5.blk kb (by omega)) (Keep_b2 k1 (o5.blk k1 (by omega)) ?_)⟩
        refine St_i (o5.blk k4 (by omega)) (by simp) rfl fun h6 o6 k4 => ?_
        have ta:Tn (fun c=>c=a3∨c=a4) h4 h6:=(o5.fr.mono fun c q _=>.inl q).trans (o6.fr.mono fun c q _=>.inr q)
        have G6:Grw h h6:=Only.grw (Only.grw G o5 (by omega)) o6 (by omega)
        refine fin H hp hl hk G6 l1 (by omega) (by omega) (ta.blk k1 (by omega)) (o6.blk (by simpa using k3) (by omega)) (by simpa using k4) (bm.fr ta fun c q hlt z => ?_) fun c q => ?_
        · simp only [Nw] at q;omega
        · simp only [Nw] at q;omega
    · refine New_i fun a4 h2 e2 g2 k4 _=>Keep_blk kb g2 (Keep_blk k1 g2 (Keep_blk k1 g2 ?_))
      have k4l:=k4.lt
      have s2:=g2.1
      have kb:=kb.grw g2
      have k1:=k1.grw g2
      have G:=Grw.trans G g2
      refine ⟨?_,?_⟩
      · refine marked_c (H.B.fr (S:=No) (Tn.of_grw G) id fun _ _ _=>id) fun F h3 g3 oF bm=>Keep_blk kb g3 (Keep_blk k1 g3 ?_)
        have bm:=bm.lt
        have cF:=bm.cells
        have s3:=g3.1
        have kb:=kb.grw g3
        have k1:=k1.grw g3
        have G:=Grw.trans G g3
        have k4:=k4.grw g3
        refine New_i fun a3 h4 e4 g4 k3 _=>Keep_blk kb g4 (Keep_blk k1 g4 (Keep_blk k1 g4 ?_))
        have k3l:=k3.lt
        have s4:=g4.1
        have kb:=kb.grw g4
        have k1:=k1.grw g4
        have G:=Grw.trans G g4
        have k4:=k4.grw g4
        have bm:=bm.fr (S:=No) (Tn.of_grw g4) fun _ _ _=>id
        refine ⟨cF,St_i k3 (by simp) oF fun h5 o5 k3=>Keep_b2 kb (o5.blk kb (by omega)) (Keep_b2 k1 (o5.blk k1 (by omega)) ?_)⟩
        refine St_i (o5.blk k4 (by omega)) (by simp) rfl fun h6 o6 k4 => ?_
        have ta:Tn (fun c=>c=a3∨c=a4) h4 h6:=(o5.fr.mono fun c q _=>.inl q).trans (o6.fr.mono fun c q _=>.inr q)
        have G6:Grw h h6:=Only.grw (Only.grw G o5 (by omega)) o6 (by omega)
        refine fin H hp hl hk G6 l1 (by omega) (by omega) (ta.blk k1 (by omega)) (o6.blk (by simpa using k3) (by omega)) (by simpa using k4) (bm.fr ta fun c q hlt z => ?_) fun c q => ?_
        · simp only [Nw] at q;omega
        · simp only [Nw] at q;omega
      · refine New_i fun a3 h3 e3 g3 k3 _=>Keep_blk kb g3 (Keep_blk k1 g3 (Keep_blk k1 g3 ?_))
        have k3l:=k3.lt
        have s3:=g3.1
        have kb:=kb.grw g3
        have k1:=k1.grw g3
        have G:=Grw.trans G g3
        have k4:=k4.grw g3
        refine marked_c (H.B.fr (S:=No) (Tn.of_grw G) id fun _ _ _=>id) fun F h4 g4 oF bm=>Keep_blk kb g4 (Keep_blk k1 g4 ?_)
        have bm:=bm.lt
        have cF:=bm.cells
        have s4:=g4.1
        have kb:=kb.grw g4
        have k1:=k1.grw g4
        have G:=Grw.trans G g4
        have k4:=k4.grw g4
        have k3:=k3.grw g4
        refine ⟨cF,St_i k3 (by simp) oF fun h5 o5 k3=>Keep_b2 kb (o5.blk kb (by omega)) (Keep_b2 k1 (o5.blk k1 (by omega)) ?_)⟩
        refine St_i (o5.blk k4 (by omega)) (by simp) rfl fun h6 o6 k4 => ?_
        have ta:Tn (fun c=>c=a3∨c=a4) h4 h6:=(o5.fr.mono fun c q _=>.inl q).trans (o6.fr.mono fun c q _=>.inr q)
        have G6:Grw h h6:=Only.grw (Only.grw G o5 (by omega)) o6 (by omega)
        refine fin H hp hl hk G6 l1 (by omega) (by omega) (ta.blk k1 (by omega)) (o6.blk (by simpa using k3) (by omega)) (by simpa using k4) (bm.fr ta fun c q hlt z => ?_) fun c q => ?_
        · simp only [Nw] at q;omega
        · simp only [Nw] at q;omega
theorem nought_text {f:Fld} (hok:FldOk f):f.nought.text.length≤4194304:=by
  by_cases hs:f.small=true
  · obtain ⟨_,_,h3,h4⟩:=small_nought hok hs
    have:=val_wgt f.nought
    omega
  · have:f.nought=vEmpty:=by unfold Fld.nought;rw [if_neg (by rw [small_iff] at hs;exact hs)]
    rw [this];exact Nat.zero_le _
theorem mkC_num {f:Fld} (hok:FldOk f) (hf:3≤f.k∧f.k≤11):MkC f:=by
  have hp:plainK f.k=true:=by simp [plainK];omega
  refine ⟨?_,?_,?_,?_,?_,?_,?_,?_,?_,?_,?_,?_⟩
  · rintro T S h h' v r m ⟨_,b,sf,sn,sb,su,st,T0,T1,T2,R,e,H⟩ t hS
    exact ⟨hp,b,sf,sn,sb,su,st,T0,T1,T2,R,e,H.fr t hS⟩
  · rintro T h v r m ⟨_,b,sf,sn,sb,su,st,T0,T1,T2,R,e,H⟩
    exact H.t.lt
  · rintro T h v r m ⟨_,b,sf,sn,sb,su,st,T0,T1,T2,R,rfl,H⟩
    exact ⟨rfl,rfl⟩
  · rintro T T' h v r m ⟨_,b,sf,sn,sb,su,st,T0,T1,T2,R,e,H⟩ h1 h2
    exact ⟨hp,b,sf,sn,sb,su,st,T0,T1,T2,R,e,H.t.mono h1 h2,H.B,H.nu,H.tx,H.no,H.m⟩
  · rintro T h v r m ⟨_,b,sf,sn,sb,su,st,T0,T1,T2,R,e,H⟩
    exact ⟨hp,b,sf,sn,sb,su,st,T0,T1,T2,R,e,H.t,H.B,H.nu,H.tx,H.no,fun _ e=>by cases e⟩
  · intro T D h v vs m x s K Kp hc hfit hw H hv hD hk
    obtain ⟨b1,b2,b3⟩:=st_pl hc
    have:=wgt_text x
    refine take_pl H.2 b1 b2 (by omega) (by omega) fun h' t' H' => ?_
    rw [←tk_pl hp] at H' ⊢
    exact hk h' t' ⟨hp,H'⟩
  · intro T h v vs m K Kp hc H hk
    obtain ⟨b1,b2,b3⟩:=st_pl hc
    have:=nought_text hok
    refine zero_pl H.2 b1 b2 (by omega) (by omega) fun h' t' H' => ?_
    rw [←zk_pl hp] at H' ⊢
    exact hk h' t' ⟨hp,H'⟩
  · intro T h v vs K Kp hc H hk
    obtain ⟨_,b,sf,sn,sb,su,st,T0,T1,T2,R,rfl,H⟩:=H
    refine mark_pl H hp ?_ hk
    rw [st_b]
    simp only [rbK,hp,if_true,List.length_map]
  · intro T h v r mm K Kp H hk
    exact back_pl H.2 fun h' t' H'=>hk h' t' ⟨hp,H'⟩
  · intro T h v vs m K Kp hc H hk
    obtain ⟨b1,b2,b3⟩:=st_pl hc
    have e:f.dn (f.st vs)=.mk (f.st vs).b.rows 0 (f.st vs).b.nulls [validB (f.st vs).b,laidB (f.st vs).b.nums (wB f.k)] [] []:=by
      rw [dn3 hf,st_b];rfl
    rw [e] at hk
    refine done_num H.2 (by omega) (by omega) b1 (fun y hy => ?_) hk
    rw [st_b] at hy
    simp only [rbK,hp,if_true,List.mem_map] at hy
    obtain ⟨w,_,rfl⟩:=hy
    omega
  · intro T h v r m K Kp H hk
    obtain ⟨_,b,sf,sn,sb,su,st,T0,T1,T2,R,rfl,H⟩:=H
    exact d_count_plains (bcount_c H.B hk)
  · intro T h v r m K Kp H hk
    obtain ⟨_,b,sf,sn,sb,su,st,T0,T1,T2,R,rfl,H⟩:=H
    exact d_weight_plains (bweight_c H.B hk)
end
end Go.Proofs.YtlbbdbdjiekkaaaGreatDoor
set_option maxRecDepth 100000
set_option maxHeartbeats 1000000
/- New, Of. -/
namespace Go.Proofs.YtlbbdbdjiekkaaaGreatDoor
open Go Go.Sh Go.WideShapes
section
variable {f:Fld} {D:Nat→Prop} {h:Hp} {s t:Sl} {Kp:PK}
theorem New_c {K:Option Addr→Int→HP} (MC:MkC f) (MD:MadeC f) (hok:FldOk f) (hsm:f.sml) (ht:KTab h) (hs:FsH h s f.cs)
    (hk:∀p h',Grw h h'→BldH f (fun c=>h.size≤c∧c < h'.size) h' p [] false→K (some ⟨p,0,none⟩) 0 h'):Fn259 f.name f.nul f.k f.w f.id f.ix s h K Kp:=by
  refine Fn259.of (New_i fun a1 h1 e1 g1 k1 _=>LY29.b k1 (right_f (f:=f) (ht.grw g1) hsm (hs.gr g1) fun b h2 g2 hb => ?_))
  obtain rfl:b=true:=hb.2 hok
  have s1:=g1.1
  have s2:=g2.1
  have G2:=Grw.trans g1 g2
  refine If_f rfl (LY29.b (k1.grw g2) (ocop_all f (hs.gr G2) hok.lns.cs.1 hok.lns.cs.2 fun u h3 g3 fu=>New_i fun a4 h4 e4 g4 k4 _=>SY29.b k4 rfl fun h5 o5 k5=>LY29.b k5 (LY29.b k5 ?_)))
  have s3:=g3.1
  have s4:=g4.1
  have g5:Grw h3 h5:=Only.grw g4 o5 (by omega)
  have s5:=g5.1
  have fu5:=FsA.gr (FsA.lt _ fu) g5
  have G5:=Grw.trans (Grw.trans G2 g3) g5
  refine MD (ht.grw G5) (FsA.h _ fu5) fun v h6 g6 M6=>Keep_blk k5 g6 ⟨(MC.na M6).2,New_i fun p h7 e7 g7 k7 _=>hk p h7 (Grw.trans (Grw.trans G5 g6) g7) ?_⟩
  have s6:=g6.1
  have s7:=g7.1
  have pl:=k7.lt
  refine ⟨u,v,fun c=>h5.size≤c∧c < h6.size,fun c=>h2.size≤c∧c < h3.size,⟨by omega,pl⟩,fun c q=>q.2,fun c q=>⟨⟨by omega,by omega⟩,by omega,by omega⟩,fun c q=>⟨⟨by omega,by omega⟩,by omega⟩,k7,FsA.gr (FsA.gr fu5 g6) g7,?_⟩
  rw [st_nil]
  exact MC.fr (S:=No) M6 (Tn.of_grw g7) fun _ _=>id
/-- the first i values can be laid, one by one -/
def Good (f:Fld) (l:List Val) (i:Nat):Prop:=∀j x,j < i→l[j]? = some x→addR f (l.take j) x=0
theorem can_nil:∀f:Fld,f.can []
  | .mk nm nul k w id ix cs=>by
    have ih:∀c∈cs,c.can []:=fun c _=>can_nil c
    refine (Fld.can_eq _ _).2 ⟨by simp,by simp,by simp [wsum],by simp,by simp [distV],fun j o ho => ?_⟩
    rw [cont_nil]
    simp only [Fld.cs,List.getElem?_map,Option.map_eq_some_iff] at ho
    obtain ⟨c,hc,rfl⟩:=ho
    exact ih c (List.mem_of_getElem? hc)
theorem Good.can (PF:PlayF f) {l:List Val}:∀{i:Nat},i≤l.length→Good f l i→f.can (l.take i):=by
  intro i
  induction i with
  | zero=>intro _ _;exact can_nil f
  | succ i ih =>
    intro hi hg
    have hx:l[i]? = some l[i]:=List.getElem?_eq_getElem (by omega)
    rw [List.take_succ_eq_append_getElem (by omega)]
    exact (addR_0 PF (ih (by omega) fun j x hj=>hg j x (by omega)) (hg i _ (by omega) hx)).1
theorem rngs.get:∀{l:List Val},rngs l→∀{i:Nat} {x:Val},l[i]? = some x→x.rng
  | [],_,i,x,h=>by simp at h
  | y::l,hr,0,x,h=>by simp at h;subst h;exact hr.1
  | y::l,hr,i+1,x,h=>rngs.get hr.2 (by simpa using h)
theorem Of_c {l:List Val} {K:Int→Int→Int→Sl→Sl→Sl→Int→Int→HP} (MC:MkC f) (MD:MadeC f) (PF:PlayF f) (FC:FitC f) (hok:FldOk f) (hsm:f.sml) (hr:rngs l) (hl:l.length≤2 ^ 50) (ht:KTab h) (hu:UTab h) (hs:FsH h s f.cs) (hv:VsA D h t l)
    (hk1:∀q h',Grw h h'→f.can l→Good f l l.length→DvA (Nw h) (Nw h) h' q (f.dn (f.st l))→K (f.dn (f.st l)).len (f.dn (f.st l)).off (f.dn (f.st l)).nul q.1 q.2.1 q.2.2 0 0 h')
    (hk2:∀(i:Nat) x h',Grw h h'→Good f l i→l[i]? = some x→addR f (l.take i) x≠0→K 0 0 0 ⟨none,0,0⟩ ⟨none,0,0⟩ ⟨none,0,0⟩ (addR f (l.take i) x) (i:Int) h') :
    Fn245 f.name f.nul f.k f.w f.id f.ix s t h K Kp:=by
  refine Fn245.of (New_i fun a2 h1 e1 g1 k1 _=>New_i fun a4 h2 e2 g2 k4 _=>LY29.b (k1.grw g2) ?_)
  have s1:=g1.1
  have s2:=g2.1
  have k4l:=k4.lt
  have G2:=Grw.trans g1 g2
  have hn:=hv.n
  refine New_c MC MD hok hsm (ht.grw G2) (hs.gr G2) fun p h3 g3 B3=>If_f rfl ?_
  refine L245_2.rule (fun x h'=>∃(i:Nat) (T:Nat→Prop),x=i∧i≤l.length∧Grw h2 h'∧BldH f T h' p (l.take i) false∧(∀c,T c→h2.size≤c)∧Good f l i) (fun x _=>l.length - x.toNat)
    ⟨0,_,rfl,Nat.zero_le _,g3,B3,fun c q=>q.1,fun j x hj=>by omega⟩ ?_
  rintro x h' ⟨i,T,rfl,hi,G,B,hT,hg⟩ N hN
  have Gh:=Grw.trans G2 G
  have hc:=hg.can PF hi
  have kr:=k4.grw G
  have s3:=G.1
  refine If_i (fun c => ?_) fun c => ?_
  · simp only [sm,reduceCtorEq] at c
    have hi':i < l.length:=by omega
    have hx:l[i]? = some l[i]:=List.getElem?_eq_getElem hi'
    have htk:l.take (i+1)=l.take i++[l[i]]:=List.take_succ_eq_append_getElem hi'
    generalize l[i]=x at hx htk
    refine (VsA.gr (VsA.lt _ hv) Gh).ix rfl hx fun a u cx hx'=>LY66.c cx (New_i fun a10 h4 e4 g4 k10 _=>SY66.b k10 rfl fun h5 o5 k10=>LY66.b k10 ?_)
    have s4:=g4.1
    have g5:Grw h' h5:=Only.grw g4 o5 (by omega)
    have s5:=g5.1
    refine Add_c MC PF FC hok hsm (ht.grw (Grw.trans Gh g5)) (hu.grw (Grw.trans Gh g5)) (B.fr (S:=No) MC (Tn.of_grw g5) fun _ _=>id) hc (hr.get hx) (VsA.gr hx' g5) (fun c q z=>by have:=hT c z;have:=q.2;omega) fun h6 t6 B6 => ?_
    have G6:Grw h2 h6:=((Tn.of_grw (Grw.trans G g5):Tn No h2 h5).trans' t6 fun c q hlt=>by have:=hT c q;omega).grw
    have kr6:=(k4.grw G6)
    refine If_i (fun c2 => ?_) fun c2 => ?_
    · simp only [sm,reduceCtorEq] at c2
      exact SY33.b kr6 rfl fun h7 o7 k7=>LY33.b k7 (hk2 i x h7 (Only.grw (Grw.trans G2 G6) o7 (by omega)) hg hx c2)
    · simp only [sm,reduceCtorEq] at c2
      rw [if_pos c2] at B6
      refine Wr_i64 (by omega) (by omega) (hN _ _ ⟨i+1,_,by simp,by omega,G6,htk ▸ B6,fun c q => ?_,fun j y hj hy => ?_⟩ (by omega))
      · rcases q with q | q
        · exact hT c q
        · omega
      · by_cases e:j=i
        · subst e;rw [hx] at hy;cases hy;exact c2
        · exact hg j y (by omega) hy
  · simp only [sm,reduceCtorEq] at c
    have:i=l.length:=by omega
    subst this
    rw [List.take_length] at B hc
    have hp2:h2.size≤p:=hT p B.choose_spec.choose_spec.choose_spec.choose_spec.tp
    refine J245_1.of (Done_c MC B hc fun q h4 t4 _ D4=>New_i fun a12 h5 e5 g5 k12 _=>SY33.b k12 rfl fun h6 o6 k12=>LY33.b k12 ?_)
    have s4:=t4.1
    have s5:=g5.1
    have k12l:=k12.lt
    have g6:Grw h4 h6:=Only.grw g5 o6 (by omega)
    have kr6:=(t4.blk kr (by omega)).grw g6
    refine SY33.b kr6 rfl fun h7 o7 k7=>LY33.b k7 (hk1 q h7 ?_ hc hg ?_)
    · exact ((((Tn.of_grw Gh:Tn No h h').trans' t4 fun c q hlt=>by omega).trans (Tn.of_grw g6)).trans' o7.fr fun c q hlt=>by omega).grw
    · exact (D4.gr g6).fr o7.fr (fun c (q:h'.size≤c) _ e=>by omega) (fun c (q:h'.size≤c) _ e=>by omega) (fun c (q:h'.size≤c)=>by have:=Gh.1;show h.size≤c;omega) fun c (q:h'.size≤c)=>by have:=Gh.1;show h.size≤c;omega
end
end Go.Proofs.YtlbbdbdjiekkaaaGreatDoor
