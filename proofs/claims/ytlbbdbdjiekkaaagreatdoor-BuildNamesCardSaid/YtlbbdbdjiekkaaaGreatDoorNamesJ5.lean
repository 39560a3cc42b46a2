import Derived.Test.YtlbbdbdjiekkaaaGreatDoorNamesJ4
import Derived.Test.YtlbbdbdjiekkaaaGreatDoorNamesShGlue
import Derived.SizedLaws
import Derived.Test.YtlbbdbdjiekkaaaGreatDoorCards
import Derived.Test.YtlbbdbdjiekkaaaGreatDoorTie
set_option linter.unusedSimpArgs false
set_option linter.unusedVariables false
set_option maxRecDepth 100000
set_option maxHeartbeats 1000000
/- Two arrays byte for byte: same. -/
namespace Go.Proofs.YtlbbdbdjiekkaaaGreatDoor
open Go Go.Sh Go.WideShapes
theorem callv412 {s t:Sl} {h:Hp} {K:Bool→HP} {Kp:PK} (H:Fn412 s t h K Kp):CallV Tryz.prog (.func (.func I412) #[] #[]) [Sl.v s,Sl.v t] h (fun r h1=>∃t:Bool,r=.bool t∧K t h1) Kp:=by
  unfold CallV
  exact cast (by kernel_rfl) H
theorem callv276 {a0 a1 a2 b0 b1 b2:Int} {a3 a4 a5 b3 b4 b5:Sl} {h:Hp} {K:Bool→HP} {Kp:PK} (H:Fn276 a0 a1 a2 a3 a4 a5 b0 b1 b2 b3 b4 b5 h K Kp) :
    CallV Tryz.prog (.func (.func I276) #[] #[]) [(.agg #[(.int .i64 a0),(.int .i64 a1),(.int .i64 a2),(Sl.v a3),(Sl.v a4),(Sl.v a5)]),(.agg #[(.int .i64 b0),(.int .i64 b1),(.int .i64 b2),(Sl.v b3),(Sl.v b4),(Sl.v b5)])] h (fun r h1=>∃t:Bool,r=.bool t∧K t h1) Kp:=by
  unfold CallV
  exact cast (by kernel_rfl) H
theorem bts_i {h:Hp} {s:Sl} {l:List UInt8} {K:ByteArray→Prop} (v:Sv h s (bv l)) (hk:K (bs l)):Bts h s K:=⟨l,by have:=v.rd1 v.na;rw [Nat.mul_one] at this;exact this,hk⟩
section
variable {D E D' E':Nat→Prop} {h:Hp} {s1 s2:Sl} {Kp:PK}
theorem bufs_same {b1 b2:List (List UInt8)} {K:Bool→HP} (v1:BfsA D E h s1 b1) (v2:BfsA D' E' h s2 b2) (hl:b1.length≤2 ^ 50) (hk:∀b,(b=true↔b1=b2)→K b h):Fn411 s1 s2 (.func (.func I412) #[] #[]) h K Kp:=by
  have n1:=v1.n
  have n2:=v2.n
  refine Fn411.of (If_i (fun c=>hk false ?_) fun c => ?_)
  · simp only [sm,reduceCtorEq] at c
    exact ⟨fun e=>(by cases e),fun e=>by rw [e] at n1;omega⟩
  simp only [sm,reduceCtorEq] at c
  refine L411_1.rule (fun x h'=>h'=h∧∃i:Nat,x=i∧i≤b1.length∧∀j,j < i→bufD b1 j=bufD b2 j) (fun x _=>b1.length - x.toNat) ⟨rfl,0,rfl,Nat.zero_le _,fun j hj=>by omega⟩ ?_
  rintro x h' ⟨rfl,i,rfl,hi,he⟩ N hN
  refine If_i (fun c2 => ?_) fun c2=>hk true ⟨fun _ => ?_,fun _=>rfl⟩
  · simp only [sm,reduceCtorEq] at c2
    refine v1.ix rfl (by omega) fun a t ct vt=>⟨t,ct,v2.ix rfl (by omega) fun a' t' ct' vt'=>⟨t',ct',callv412 (Fn412.of (bts_i vt.1 (bts_i vt'.1 ?_)))⟩⟩
    rw [bs_eq2]
    refine If_i (fun c3=>hk false ⟨fun e=>(by cases e),fun e => ?_⟩) fun c3=>Wr_i64 (by omega) (by omega) (hN _ _ ⟨rfl,i+1,by simp,by omega,fun j hj => ?_⟩ (by omega))
    · simp only [sm,reduceCtorEq] at c3;rw [e] at c3;exact absurd rfl c3
    · simp only [sm,reduceCtorEq] at c3
      by_cases q:j=i
      · subst q;exact c3
      · exact he j (by omega)
  · simp only [sm,reduceCtorEq] at c2
    apply List.ext_getElem
    · omega
    · intro j h1 h2
      have:=he j (by omega)
      simpa [bufD,List.getD_eq_getElem?_getD,h1,h2] using this
mutual
def Dat.few:Dat→Prop
  | .mk _ _ _ bufs cs ds=>bufs.length≤2 ^ 50∧(cs.length≤2 ^ 50∧fews cs)∧ds.length≤2 ^ 50∧fews ds
def fews:List Dat→Prop
  | []=>True
  | d::ds=>d.few∧fews ds
end
theorem fews.get:∀{ds:List Dat},fews ds→∀d∈ds,d.few
  | [],_,d,h=>by simp at h
  | x::xs,hf,d,h=>by
    rcases List.mem_cons.1 h with rfl | h
    · exact hf.1
    · exact fews.get hf.2 d h
def SameC (d:Dat):Prop:=∀{e:Dat} {D E D' E':Nat→Prop} {h:Hp} {p q:Sl × Sl × Sl} {K:Bool→HP} {Kp:PK},d.few→DvA D E h p d→DvA D' E' h q e→(∀b h',Grw h h'→(b=true↔d=e)→K b h') →
  Fn276 d.len d.off d.nul p.1 p.2.1 p.2.2 e.len e.off e.nul q.1 q.2.1 q.2.2 h K Kp
theorem list_same {cs cs':List Dat} {K:Bool→HP} (IH:∀c∈cs,SameC c) (hf:fews cs) (v1:DsA D E h s1 cs) (v2:DsA D' E' h s2 cs') (hl:cs.length≤2 ^ 50) (hk:∀b h',Grw h h'→(b=true↔cs=cs')→K b h'):Fn413 s1 s2 (.func (.func I276) #[] #[]) h K Kp:=by
  have n1:=v1.n
  have n2:=v2.n
  refine Fn413.of (If_i (fun c=>hk false h (Grw.refl _) ?_) fun c => ?_)
  · simp only [sm,reduceCtorEq] at c
    exact ⟨fun e=>(by cases e),fun e=>by rw [e] at n1;omega⟩
  simp only [sm,reduceCtorEq] at c
  refine L413_1.rule (fun x h'=>Grw h h'∧∃i:Nat,x=i∧i≤cs.length∧∀j,j < i→cs[j]? = cs'[j]?) (fun x _=>cs.length - x.toNat) ⟨Grw.refl _,0,rfl,Nat.zero_le _,fun j hj=>by omega⟩ ?_
  rintro x h' ⟨G,i,rfl,hi,he⟩ N hN
  refine If_i (fun c2 => ?_) fun c2=>hk true h' G ⟨fun _ => ?_,fun _=>rfl⟩
  · simp only [sm,reduceCtorEq] at c2
    have hj1:cs[i]? = some cs[i]:=List.getElem?_eq_getElem (by omega)
    have hj2:cs'[i]? = some cs'[i]:=List.getElem?_eq_getElem (by omega)
    have hm:cs[i]∈cs:=List.getElem_mem (by omega)
    generalize cs[i]=d at hj1 hm
    generalize cs'[i]=e at hj2
    refine (v1.gr G).ix rfl hj1 fun a p ca vp=>LY33.c ca (New_i fun a8 h1 e8 g1 k8 _=>SY33.b k8 rfl fun h2 o2 k8 => ?_)
    have s1:=g1.1
    have g2:Grw h' h2:=Only.grw g1 o2 (by omega)
    have s2:=g2.1
    refine ((v2.gr G).gr g2).ix rfl hj2 fun a' q ca' vq=>LY33.c ca' (New_i fun a9 h3 e9 g3 k9 _=>SY33.b k9 rfl fun h4 o4 k9 => ?_)
    have s3:=g3.1
    have k8l:=k8.lt
    have g4:Grw h2 h4:=Only.grw g3 o4 (by omega)
    refine LY33.b (k8.grw g4) (LY33.b k9 (callv276 (IH d hm (hf.get d hm) ((vp.gr g2).gr g4) (vq.gr g4) fun b h5 g5 hb => ?_)))
    have G5:=Grw.trans G (Grw.trans (Grw.trans g2 g4) g5)
    refine If_i (fun c3=>hk false h5 G5 ⟨fun e=>(by cases e),fun e2 => ?_⟩) fun c3=>Wr_i64 (by omega) (by omega) (hN _ _ ⟨G5,i+1,by simp,by omega,fun j hj => ?_⟩ (by omega))
    · simp only [sm,reduceCtorEq] at c3
      rw [e2,hj2] at hj1
      have:=hb.2 (by simpa using hj1.symm)
      rw [this] at c3;cases c3
    · simp only [sm,reduceCtorEq] at c3
      by_cases q:j=i
      · subst q
        rw [hj1,hj2,hb.1 c3]
      · exact he j (by omega)
  · simp only [sm,reduceCtorEq] at c2
    apply List.ext_getElem?
    intro j
    by_cases q:j < i
    · exact he j q
    · rw [List.getElem?_eq_none (by omega),List.getElem?_eq_none (by omega)]
theorem same_step {n o u:Int} {bufs:List (List UInt8)} {cs ds:List Dat} (I1:∀c∈cs,SameC c) (I2:∀c∈ds,SameC c):SameC (.mk n o u bufs cs ds):=by
  intro e D E D' E' h p q K Kp hf v1 v2 hk
  obtain ⟨n',o',u',bufs',cs',ds'⟩:=e
  refine Fn276.of (New_i fun a2 h1 e1 g1 k1 _=>New_i fun a3 h2 e2 g2 k2 _ => ?_)
  have G:=Grw.trans g1 g2
  have k1:=k1.grw g2
  have no:∀h',Grw h h'→¬(Dat.mk n o u bufs cs ds=Dat.mk n' o' u' bufs' cs' ds')→K false h':=fun h' g' q=>hk false h' g' ⟨fun e=>(by cases e),fun e=>absurd e q⟩
  have j4:∀h',Grw h h'→¬(Dat.mk n o u bufs cs ds=Dat.mk n' o' u' bufs' cs' ds')→J276_4 K Kp ⟨a2,0,none⟩ ⟨a3,0,none⟩ false h':=fun h' g' q=>J276_4.of (If_f rfl (no h' g' q))
  have j3:∀h',Grw h h'→¬(Dat.mk n o u bufs cs ds=Dat.mk n' o' u' bufs' cs' ds')→J276_3 K Kp ⟨a2,0,none⟩ ⟨a3,0,none⟩ false h':=fun h' g' q=>J276_3.of (If_f rfl (j4 h' g' q))
  have j2:∀h',Grw h h'→¬(Dat.mk n o u bufs cs ds=Dat.mk n' o' u' bufs' cs' ds')→J276_2 K Kp ⟨a2,0,none⟩ ⟨a3,0,none⟩ false h':=fun h' g' q=>J276_2.of (If_f rfl (j3 h' g' q))
  have j1:∀h',Grw h h'→¬(Dat.mk n o u bufs cs ds=Dat.mk n' o' u' bufs' cs' ds')→J276_1 K Kp ⟨a2,0,none⟩ ⟨a3,0,none⟩ false h':=fun h' g' q=>J276_1.of (If_f rfl (j2 h' g' q))
  refine Ld_blk k1 rfl (Ld_blk k2 rfl (If_i (fun c => ?_) fun c=>j1 _ G ?_))
  · simp only [sm,reduceCtorEq] at c
    simp only [add_blk,Nat.zero_add]
    refine Ld_blk k1 rfl (Ld_blk k2 rfl (J276_1.of (If_i (fun c2 => ?_) fun c2=>j2 _ G ?_)))
    · simp only [sm,reduceCtorEq] at c2
      simp only [add_blk,Nat.zero_add]
      refine Ld_blk k1 rfl (Ld_blk k2 rfl (J276_2.of (If_i (fun c3 => ?_) fun c3=>j3 _ G ?_)))
      · simp only [sm,reduceCtorEq] at c3
        simp only [add_blk,Nat.zero_add]
        refine Ld_blk k1 rfl (Ld_blk k2 rfl (bufs_same (v1.b.gr G) (v2.b.gr G) hf.1 fun b hb=>J276_3.of (If_i (fun c4 => ?_) fun c4=>j4 _ G ?_)))
        · simp only [add_blk,Nat.zero_add]
          have hb:=hb.1 c4
          refine Ld_blk k1 rfl (Ld_blk k2 rfl (list_same I1 hf.2.1.2 (v1.c.gr G) (v2.c.gr G) hf.2.1.1 fun b h3 g3 hc=>J276_4.of (If_i (fun c5 => ?_) fun c5=>no _ (Grw.trans G g3) ?_)))
          · have hc:=hc.1 c5
            simp only [add_blk,Nat.zero_add]
            refine Ld_blk (k1.grw g3) rfl (Ld_blk (k2.grw g3) rfl (list_same I2 hf.2.2.2 ((v1.x.gr G).gr g3) ((v2.x.gr G).gr g3) hf.2.2.1 fun b h4 g4 hd=>hk b h4 (Grw.trans (Grw.trans G g3) g4) ?_))
            rw [hd]
            simp only [Dat.bufs] at hb
            simp only [Dat.cs,Dat.ds] at hc ⊢
            simp only [Dat.len,Dat.off,Dat.nul] at c c2 c3
            constructor
            · intro e;rw [c,c2,c3,hb,hc,e]
            · intro e;cases e;rfl
          · intro e
            cases e
            rw [hc.2 rfl] at c5;cases c5
        · intro e
          cases e
          rw [hb.2 rfl] at c4;cases c4
      · intro e;simp only [sm,reduceCtorEq] at c3;cases e;exact absurd rfl c3
    · intro e;simp only [sm,reduceCtorEq] at c2;cases e;exact absurd rfl c2
  · intro e;simp only [sm,reduceCtorEq] at c;cases e;exact absurd rfl c
theorem same_all:∀d:Dat,SameC d
  | .mk n o u bufs cs ds=>same_step (fun c _=>same_all c) fun c _=>same_all c
end
end Go.Proofs.YtlbbdbdjiekkaaaGreatDoor
set_option maxRecDepth 100000
set_option maxHeartbeats 1000000
/- Form, IsForm. -/
namespace Go.Proofs.YtlbbdbdjiekkaaaGreatDoor
open Go Go.Sh Go.WideShapes
section
variable {f:Fld} {d:Dat} {D:Nat→Prop} {h:Hp} {s:Sl} {p:Sl × Sl × Sl} {Kp:PK}
/-- two boxes are written, one behind the other -/
theorem two33 {K:Int→Int→Int→Sl→Sl→Sl→HP} {h9:Hp} {a8 a4:Nat} {c8 c4:Array Value} {t8 t4:TypeId} {x0 x1 x2:Int} {x3 x4 x5:Sl} (k8:Blk h9 a8 c8 t8) (e8:c8.size=6) (k4:Blk h9 a4 c4 t4) (e4:c4.size=6) (ne:a4≠a8)
    (kf:∀h',Tn (fun c=>c=a8∨c=a4) h9 h'→K x0 x1 x2 x3 x4 x5 h') :
    SY33 h9 ⟨a8,0,none⟩ x0 x1 x2 x3 x4 x5 fun h11=>LY33 h11 ⟨a8,0,none⟩ fun t0 t1 t2 t3 t4 t5=>SY33 h11 ⟨a4,0,none⟩ t0 t1 t2 t3 t4 t5 fun h12=>LY33 h12 ⟨a4,0,none⟩ fun r0 r1 r2 r3 r4 r5=>K r0 r1 r2 r3 r4 r5 h12 :=
  SY33.b k8 e8 fun h11 o11 k8=>LY33.b k8 (SY33.b (o11.blk k4 ne) e4 fun h12 o12 k4=>LY33.b k4 (kf h12 ((o11.fr.mono fun c q _=>.inl q).trans (o12.fr.mono fun c q _=>.inr q))))
theorem Form_c {K:Int→Int→Int→Sl→Sl→Sl→Int→HP} (MC:MkC f) (MD:MadeC f) (PF:PlayF f) (FC:FitC f) (hok:FldOk f) (hsm:f.sml) (ht:Tab h) (hu:UTab h) (hs:FsH h s f.cs) (v0:DvA D D h p d) (hm:d.mac) (ar:f.arr d) {l:List Val} (el:l=avs f d d.off.toNat d.len.toNat) (hr:rngs l)
    (hk1:∀q h',Grw h h'→f.can l→Good f l l.length→DvA (Nw h) (Nw h) h' q (f.dn (f.st l))→K (f.dn (f.st l)).len (f.dn (f.st l)).off (f.dn (f.st l)).nul q.1 q.2.1 q.2.2 0 h')
    (hk2:∀(i:Nat) x h',Grw h h'→Good f l i→l[i]? = some x→addR f (l.take i) x≠0→K 0 0 0 ⟨none,0,0⟩ ⟨none,0,0⟩ ⟨none,0,0⟩ (addR f (l.take i) x) h') :
    Fn247 f.name f.nul f.k f.w f.id f.ix s d.len d.off d.nul p.1 p.2.1 p.2.2 h K Kp:=by
  refine Fn247.of (New_i fun a2 h1 e1 g1 k2 _=>New_i fun a3 h2 e2 g2 k3 _=>New_i fun a4 h3 e3 g3 k4 _=>LY29.b ((k2.grw g2).grw g3) ?_)
  have s1:=g1.1
  have s2:=g2.1
  have s3:=g3.1
  have k4l:=k4.lt
  have G:=Grw.trans g1 (Grw.trans g2 g3)
  have k2:=(k2.grw g2).grw g3
  have k3:=k3.grw g3
  refine right_f (f:=f) (ht.k.grw G) hsm (hs.gr G) fun b h4 g4 hb => ?_
  obtain rfl:b=true:=hb.2 hok
  have G4:=Grw.trans G g4
  have s4:=g4.1
  refine If_f rfl (LY29.b (k2.grw g4) (LY33.b (k3.grw g4) (Open_c (ht.grw G4) (hu.grw G4) hsm (hs.gr G4) (v0.gr G4) hm (fun e l m h' g' _ hno=>absurd ⟨hok,ar⟩ hno) fun _ _ bA s' q' h5 g5 lb A=>New_i fun a7 h6 e6 g6 k7 _=>SY37.b k7 rfl fun h7 o7 k7=>Ld_blk k7 rfl (If_f rfl ?_))))
  have s5:=g5.1
  have s6:=g6.1
  have g57:Grw h5 h7:=Only.grw g6 o7 (by omega)
  have s7:=g57.1
  have g37:Grw h3 h7:=Grw.trans g4 (Grw.trans g5 g57)
  have G7:=Grw.trans G g37
  have k2:=k2.grw g37
  have k4:=k4.grw g37
  have V:=Av.whole (A.gr g57) ar
  have hl:l.length≤2 ^ 50:=by rw [el,avs_len];have:=V.bd;omega
  -- what is made of the values
  have of:∀{h8:Hp} {t:Sl} {K':Int→Int→Int→Sl→Sl→Sl→Int→Int→HP} (G8:Grw h h8) (vt:VsA (Nw h7) h8 t l) (c1:∀q h',Grw h8 h'→f.can l→Good f l l.length→DvA (Nw h8) (Nw h8) h' q (f.dn (f.st l))→K' (f.dn (f.st l)).len (f.dn (f.st l)).off (f.dn (f.st l)).nul q.1 q.2.1 q.2.2 0 0 h')
      (c2:∀(i:Nat) x h',Grw h8 h'→Good f l i→l[i]? = some x→addR f (l.take i) x≠0→K' 0 0 0 ⟨none,0,0⟩ ⟨none,0,0⟩ ⟨none,0,0⟩ (addR f (l.take i) x) (i:Int) h'),Fn245 f.name f.nul f.k f.w f.id f.ix s t h8 K' Kp :=
    fun G8 vt c1 c2=>Of_c MC MD PF FC hok hsm hr hl (ht.k.grw G8) (hu.grw G8) (hs.gr G8) vt c1 c2
  have f1:∀{h9:Hp} {q:Sl × Sl × Sl} {lo hi a8:Nat},Grw h h9→DvA (fun c=>lo≤c∧c < hi) (fun c=>lo≤c∧c < hi) h9 q (f.dn (f.st l))→h3.size≤lo→h3.size≤a8→(a8 < lo∨hi≤a8)→f.can l→Good f l l.length→∀h',Tn (fun c=>c=a8∨c=a4) h9 h'→K (f.dn (f.st l)).len (f.dn (f.st l)).off (f.dn (f.st l)).nul q.1 q.2.1 q.2.2 0 h':=by
    intro h9 q lo hi a8 G9 D9 b1 b2 b3 hc hg h' t'
    refine hk1 q h' (((Tn.of_grw G9:Tn No h h9).trans' t' fun c q hlt=>by omega).grw) hc hg ?_
    exact D9.fr t' (fun c q _ z=>by omega) (fun c q _ z=>by omega) (fun c q=>by show h.size≤c;omega) fun c q=>by show h.size≤c;omega
  have f2:∀{h9:Hp} {a8:Nat} {i:Nat} {x:Val},Grw h h9→h3.size≤a8→Good f l i→l[i]? = some x→addR f (l.take i) x≠0→∀h',Tn (fun c=>c=a8∨c=a4) h9 h'→K 0 0 0 ⟨none,0,0⟩ ⟨none,0,0⟩ ⟨none,0,0⟩ (addR f (l.take i) x) h' :=
    fun G9 b2 hg hx hne h' t'=>hk2 _ _ h' (((Tn.of_grw G9:Tn No h _).trans' t' fun c q hlt=>by omega).grw) hg hx hne
  have lt2:∀{h8 h9:Hp} {q:Sl × Sl × Sl},DvA (Nw h8) (Nw h8) h9 q (f.dn (f.st l))→DvA (fun c=>h8.size≤c∧c < h9.size) (fun c=>h8.size≤c∧c < h9.size) h9 q (f.dn (f.st l)):=fun D9=>D9.lt
  refine LY29.b k2 ⟨Values_v V (hu.grw G7) fun t h8 g8 vt=>Keep_blk k2 g8 ?_,New_i fun a8 h8 e8 g8 k8 _=>Keep_blk k2 g8 (Values_v (V.gr g8) (hu.grw (Grw.trans G7 g8)) fun t h9 g9 vt=>Keep_blk (k2.grw g8) g9 ?_)⟩
  · rw [←el] at vt
    have G8:=Grw.trans G7 g8
    have k2:=k2.grw g8
    have k4:=k4.grw g8
    have s8:=g8.1
    refine ⟨of G8 vt (fun q h9 g9 hc hg D9=>New_i fun a8 h10 e10 g10 k8 _=>Keep_blk (k2.grw g9) g10 ?_) (fun i x h9 g9 hg hx hne=>New_i fun a8 h10 e10 g10 k8 _=>Keep_blk (k2.grw g9) g10 ?_),New_i fun a8 h9 e9 g9 k8 _=>Keep_blk k2 g9 ?_⟩
    · have s9:=g9.1
      have s10:=g10.1
      exact two33 k8 rfl ((k4.grw g9).grw g10) rfl (by omega) (f1 (Grw.trans (Grw.trans G8 g9) g10) ((lt2 D9).gr g10) (by omega) (by omega) (.inr (by omega)) hc hg)
    · have s9:=g9.1
      have s10:=g10.1
      exact two33 k8 rfl ((k4.grw g9).grw g10) rfl (by omega) (f2 (Grw.trans (Grw.trans G8 g9) g10) (by omega) hg hx hne)
    · have s9:=g9.1
      have k8l:=k8.lt
      refine of (Grw.trans G8 g9) (VsA.gr vt g9) (fun q h10 g10 hc hg D9 => ?_) fun i x h10 g10 hg hx hne => ?_
      · exact two33 (k8.grw g10) rfl ((k4.grw g9).grw g10) rfl (by omega) (f1 (Grw.trans (Grw.trans G8 g9) g10) (lt2 D9) (by omega) (by omega) (.inl (by omega)) hc hg)
      · exact two33 (k8.grw g10) rfl ((k4.grw g9).grw g10) rfl (by omega) (f2 (Grw.trans (Grw.trans G8 g9) g10) (by omega) hg hx hne)
  · rw [←el] at vt
    have s8:=g8.1
    have s9:=g9.1
    have k8l:=k8.lt
    have G9:=Grw.trans (Grw.trans G7 g8) g9
    refine of G9 (VsA.mo vt fun c (q:h8.size≤c)=>by show h7.size≤c;omega) (fun q h10 g10 hc hg D9 => ?_) fun i x h10 g10 hg hx hne => ?_
    · exact two33 ((k8.grw g9).grw g10) rfl (((k4.grw g8).grw g9).grw g10) rfl (by omega) (f1 (Grw.trans G9 g10) (lt2 D9) (by omega) (by omega) (.inl (by omega)) hc hg)
    · exact two33 ((k8.grw g9).grw g10) rfl (((k4.grw g8).grw g9).grw g10) rfl (by omega) (f2 (Grw.trans G9 g10) (by omega) hg hx hne)
theorem IsForm_c {K:Bool→HP} (MC:MkC f) (MD:MadeC f) (PF:PlayF f) (FC:FitC f) (hok:FldOk f) (hsm:f.sml) (ht:Tab h) (hu:UTab h) (hs:FsH h s f.cs) (v0:DvA D D h p d) (hm:d.mac) (ar:f.arr d) {l:List Val} (el:l=avs f d d.off.toNat d.len.toNat) (hr:rngs l) (hfew:(f.dn (f.st l)).few)
    (hk:∀b h',Grw h h'→(b=true↔Good f l l.length∧f.dn (f.st l)=d)→K b h'):Fn249 f.name f.nul f.k f.w f.id f.ix s d.len d.off d.nul p.1 p.2.1 p.2.2 h K Kp:=by
  refine Fn249.of (New_i fun a2 h1 e1 g1 k2 _=>New_i fun a3 h2 e2 g2 k3 _=>LY29.b (k2.grw g2) (LY33.b k3 ?_))
  have s1:=g1.1
  have s2:=g2.1
  have k3l:=k3.lt
  have G:=Grw.trans g1 g2
  refine Form_c MC MD PF FC hok hsm (ht.grw G) (hu.grw G) (hs.gr G) (v0.gr G) hm ar el hr (fun q h3 g3 hc hg D3=>New_i fun a5 h4 e4 g4 k5 _=>SY33.b k5 rfl fun h5 o5 k5=>If_t rfl (LY33.b k5 ?_)) fun i x h3 g3 hg hx hne=>New_i fun a5 h4 e4 g4 k5 _=>SY33.b k5 rfl fun h5 o5 k5=>If_f (by simpa using hne) ?_
  · have s3:=g3.1
    have g5:Grw h3 h5:=Only.grw g4 o5 (by omega)
    have g35:=Grw.trans g3 g5
    refine LY33.b (k3.grw g35) (same_all _ hfew (D3.gr g5) ((v0.gr G).gr g35) fun b h6 g6 hb=>hk b h6 (Grw.trans (Grw.trans G g35) g6) ?_)
    rw [hb]
    exact ⟨fun q=>⟨hg,q⟩,fun q=>q.2⟩
  · have s3:=g3.1
    have g5:Grw h3 h5:=Only.grw g4 o5 (by omega)
    refine hk false h5 (Grw.trans G (Grw.trans g3 g5)) ⟨fun e=>(by cases e),fun q => ?_⟩
    exact absurd (q.1 i x (List.getElem?_eq_some_iff.1 hx).1 hx) hne
end
end Go.Proofs.YtlbbdbdjiekkaaaGreatDoor
set_option maxRecDepth 100000
set_option maxHeartbeats 1000000
/- Some answers that the document fixes: the values. -/
namespace Go.Proofs.YtlbbdbdjiekkaaaGreatDoor
open Go Go.Sh Go.WideShapes
theorem avs_made {f:Fld} (MV:MadeV f) {l:List Val} (hc:f.can l):l=avs f (f.dn (f.st l)) (f.dn (f.st l)).off.toNat (f.dn (f.st l)).len.toNat:=by
  rw [dn_off,dn_len]
  apply List.ext_getElem?
  intro i
  simp only [Int.toNat_natCast]
  by_cases hi:i < l.length
  · rw [avs_get hi]
    have hx:l[i]? = some l[i]:=List.getElem?_eq_getElem hi
    rw [hx]
    have:=MV l hc i _ hx
    simp only [Int.toNat_zero,Nat.zero_add]
    rw [this]
  · rw [List.getElem?_eq_none (by omega),List.getElem?_eq_none (by rw [avs_len];omega)]
theorem addR_pl {f:Fld} (hp:plainK f.k=true) (vs:List Val) (x:Val):addR f vs x=if x.wgt≤4194304∧f.fit x=true then (if 4096≤vs.length then 3 else if 4194304 < wsum vs+(16+x.text.length) then 3 else 0) else 7:=by
  unfold addR
  rw [tk_pl hp]
  unfold plTk
  rw [st_b]
  have e1:(rbK f.k vs).rows=vs.length:=rfl
  have e2:(rbK f.k vs).heavy=wsum vs:=rfl
  rw [e1,e2]
  split
  · split
    · rfl
    · rfl
  · rfl
def fA:Fld:=.mk (bs [97]) true 4 0 0 0 []
def vN (n:Int):Val:=.mk false n [] []
theorem okA:FldOk fA:=by
  refine FldOk.of_places ?_
  simp only [fA,Fld.places,placesL]
  refine ⟨⟨by decide,by decide,nameA,by simp,by simp [Shaped,Fld.k,Fld.w,Fld.id,Fld.ix,Fld.cs],by simp [Nulls,Fld.k,Fld.nul,Fld.cs],by simp,by simp [Fld.k]⟩,trivial⟩
theorem letsA:fA.lets=true:=by simp [fA,Fld.lets,letsK,letsL]
theorem plainA:plainK fA.k=true:=rfl
theorem smlA:fA.sml:=by
  unfold fA Fld.sml
  exact ⟨by decide,by decide,trivial⟩
theorem mcA:MkC fA:=mkC_num okA (by decide)
theorem mdA:MadeC fA:=made_pl (wtC_l letsA) (zvC_l letsA) okA smlA plainA
theorem pfA:PlayF fA:=fun v hv=>step_flat okA (by decide) hv
theorem mvA:MadeV fA:=made_flat okA (by decide)
theorem fcA:FitC fA:=fitC_flat (by decide)
theorem fitA (n:Int):fA.fit (vN n)=(decide (-32768≤n) && decide (n < 32768)):=by
  simp [fA,vN,Fld.fit,fitK,Val.items,Val.nul,Val.text,Val.num,rangeK,widK]
theorem fitA0:fA.fit v0=true:=by
  simp [fA,v0,Fld.fit,fitK,letsK,letsL,Val.items,Val.nul,Val.text,Val.num]
theorem addA (vs:List Val) (n:Int) (h1:vs.length≤1) (h2:wsum vs≤16):addR fA vs (vN n)=if -32768≤n∧n < 32768 then 0 else 7:=by
  rw [addR_pl plainA,fitA]
  have e:(vN n).wgt=16:=rfl
  have e2:(vN n).text.length=0:=rfl
  rw [e,e2]
  by_cases q : -32768≤n∧n < 32768
  · rw [if_pos ⟨by omega,by simp [q]⟩,if_neg (by omega),if_neg (by omega),if_pos q]
  · rw [if_neg (fun z=>q (by simpa using z.2)),if_neg q]
theorem addA0 (vs:List Val) (h1:vs.length≤1) (h2:wsum vs≤16):addR fA vs v0=0:=by
  rw [addR_pl plainA,fitA0]
  have e:v0.wgt=16:=rfl
  have e2:v0.text.length=0:=rfl
  rw [e,e2,if_pos ⟨by omega,rfl⟩,if_neg (by omega),if_neg (by omega)]
def lA:List Val:=[vN (-2),v0]
def lB:List Val:=[vN 1,vN 40000]
theorem goodA:Good fA lA 2:=by
  intro j x hj hx
  rcases j with _ | _ | j
  · simp [lA] at hx;subst hx;exact addA [] (-2) (by decide) (by decide)
  · simp [lA] at hx;subst hx;exact addA0 [vN (-2)] (by decide) (by decide)
  · omega
theorem badB:addR fA (lB.take 1) (vN 40000)=7:=addA [vN 1] 40000 (by decide) (by decide)
theorem goodB:addR fA (lB.take 0) (vN 1)=0:=addA [] 1 (by decide) (by decide)
theorem dnA:fA.dn (fA.st lA)=.mk 2 0 1 [[1],[254,255,0,0]] [] []:=by
  rw [dn3 (by decide)]
  have e1:(rbK fA.k lA).nulls=1:=by decide
  have e2:validB (rbK fA.k lA)=[1]:=by decide
  have e3:laidB (rbK fA.k lA).nums (wB fA.k)=[254,255,0,0]:=by decide
  rw [e1,e2,e3];rfl
end Go.Proofs.YtlbbdbdjiekkaaaGreatDoor
set_option maxRecDepth 100000
set_option maxHeartbeats 1000000
/- Some answers that the document fixes: awake; the names. -/
namespace Go.Proofs.YtlbbdbdjiekkaaaGreatDoor
open Go Go.Sh Go.WideShapes
/-- two values without lists, as a literal -/
theorem two_vals {h:Hp} {a:Nat} {el:TypeId} {n1 n2:Bool} {x1 x2:Int} (k:Blk h a #[.bool n1, .int .i64 x1, .string (bs []), .slice none 0 0, .bool n2, .int .i64 x2, .string (bs []), .slice none 0 0] el) :
    VsA (fun _=>True) h ⟨some ⟨a,0,none⟩,2,2⟩ [.mk n1 x1 [] [], .mk n2 x2 [] []]:=by
  refine VsA.of rfl (Nat.le_refl _) fun _=>⟨_,rfl,trivial,fun j v hj => ?_⟩
  rcases j with _ | _ | j
  · simp at hj;subst hj
    refine VA.of (s:=⟨none,0,0⟩) (fun i w hw => ?_) (VsA.nil _)
    rw [add_blk,add_blk,cell_blk k]
    rcases i with _ | _ | _ | _ | i
    all_goals first | (simp [Val.row,vals4] at hw;done) | (simpa [Val.row,vals4,Sl.v,Val.nul,Val.num,Val.text] using hw)
  · simp at hj;subst hj
    refine VA.of (s:=⟨none,0,0⟩) (fun i w hw => ?_) (VsA.nil _)
    rw [add_blk,add_blk,cell_blk k]
    rcases i with _ | _ | _ | _ | i
    all_goals first | (simp [Val.row,vals4] at hw;done) | (simpa [Val.row,vals4,Sl.v,Val.nul,Val.num,Val.text] using hw)
  · simp at hj
theorem awake_c {h:Hp} {K:Bool→HP} {Kp:PK} (ht:Tab h) (hu:UTab h) (hk:∀h',Grw h h'→K true h'):Fn244 h K Kp:=by
  have few:(fA.dn (fA.st lA)).few:=by rw [dnA];exact ⟨by decide,⟨by decide,trivial⟩,by decide,trivial⟩
  refine Fn244.of (New_i fun a1 h1 e1 g1 k1 _=>SY29.b k1 rfl fun h2 o2 k1=>LY29.b k1 (New_i fun a14 h3 e3 g3 k14 _ => ?_))
  have s1:=g1.1
  have g2:Grw h h2:=Only.grw g1 o2 (by omega)
  have G3:=Grw.trans g2 g3
  have k1l:=k1.lt
  have fs:∀{h':Hp},FsH h' ⟨none,0,0⟩ fA.cs:=fun {h'}=>by unfold fA Fld.cs FsH;exact ⟨rfl,Nat.le_refl _⟩
  have rA:rngs lA:=⟨⟨by decide,trivial⟩,⟨by decide,trivial⟩,trivial⟩
  have rB:rngs lB:=⟨⟨by decide,trivial⟩,⟨by decide,trivial⟩,trivial⟩
  refine Of_c (f:=fA) (l:=lA) mcA mdA pfA fcA okA smlA rA (by decide) (ht.k.grw G3) (hu.grw G3) fs (two_vals k14) (fun q h4 g4 hc _ D4 => ?_) fun i x h' _ _ hx hne => ?_
  rotate_left
  · rcases i with _ | _ | i
    · exact absurd (goodA 0 x (by decide) hx) hne
    · exact absurd (goodA 1 x (by decide) hx) hne
    · simp [lA] at hx
  refine New_i fun a2 h5 e5 g5 k2 _=>SY33.b k2 rfl fun h6 o6 k2=>J244_1.of (LY29.b ((k1.grw g3).grw (Grw.trans g4 (Only.grw g5 o6 (by omega)))) (New_i fun a23 h7 e7 g7 k23 _ => ?_))
  have s4:=g4.1
  have s5:=g5.1
  have k2l:=k2.lt
  have g6:Grw h4 h6:=Only.grw g5 o6 (by omega)
  have g67:=Grw.trans g6 g7
  have G7:=Grw.trans G3 (Grw.trans g4 g67)
  have k1:=(k1.grw g3).grw (Grw.trans g4 g67)
  have k2:=k2.grw g7
  have D7:=D4.gr g67
  refine Of_c (f:=fA) (l:=lB) mcA mdA pfA fcA okA smlA rB (by decide) (ht.k.grw G7) (hu.grw G7) fs (two_vals k23) (fun q h8 _ _ hg _ => ?_) fun i x h8 g8 hg hx hne => ?_
  · have:=hg 1 (vN 40000) (by decide) rfl
    rw [badB] at this;cases this
  obtain ⟨rfl,rfl⟩:i=1∧x=vN 40000:=by
    rcases i with _ | _ | i
    · simp [lB] at hx;subst hx;exact absurd goodB hne
    · simp [lB] at hx;exact ⟨rfl,hx.symm⟩
    · simp [lB] at hx
  rw [badB]
  refine New_i fun a5 h9 e9 g9 k5 _=>SY33.b k5 rfl fun h10 o10 k5 => ?_
  have s7:=g7.1
  have s8:=g8.1
  have s9:=g9.1
  have g10:Grw h8 h10:=Only.grw g9 o10 (by omega)
  have g710:=Grw.trans g8 g10
  have G10:=Grw.trans G7 g710
  have k1:=k1.grw g710
  have k2:=k2.grw g710
  have D10:=D7.gr g710
  have el:(fA.dn (fA.st lA)).len=2:=by rw [dnA];rfl
  have en:(fA.dn (fA.st lA)).nul=1:=by rw [dnA];rfl
  have eb:(fA.dn (fA.st lA)).bufs=[[1],[254,255,0,0]]:=by rw [dnA];rfl
  have bn:=D10.b.n
  rw [eb] at bn
  refine J244_2.of (If_t rfl (Ld_blk k2 rfl (J244_3.of (If_t (by rw [el];rfl) ?_))))
  simp only [add_blk,Nat.zero_add]
  refine Ld_blk k2 rfl (J244_4.of (If_t (by rw [en];rfl) ?_))
  simp only [add_blk,Nat.zero_add]
  refine Ld_blk k2 rfl (J244_5.of (If_t (by rw [bn.1];rfl) ?_))
  simp only [add_blk,Nat.zero_add]
  refine Ld_blk k2 rfl (D10.b.ix (j:=0) rfl (by rw [eb];decide) fun a t ct vt=>⟨t,ct,bts_i vt.1 ?_⟩)
  refine J244_6.of (If_t (by rw [eb,bs_eq2];rfl) ?_)
  simp only [add_blk,Nat.zero_add]
  refine Ld_blk k2 rfl (D10.b.ix (j:=1) rfl (by rw [eb];decide) fun a t ct vt=>⟨t,ct,bts_i vt.1 ?_⟩)
  refine J244_7.of (If_t (by rw [eb,bs_eq2];rfl) (J244_8.of (If_t rfl (J244_9.of (If_t rfl (LY29.b k1 (LY33.b k2 ?_)))))))
  refine IsForm_c (f:=fA) (d:=fA.dn (fA.st lA)) (D:=fun _=>True) mcA mdA pfA fcA okA smlA (ht.grw G10) (hu.grw G10) fs (p:=q) ?_ ?_ ?_ (avs_made mvA hc) rA few fun b h11 g11 hb => ?_
  · exact D10.fr (S:=No) (Tn.refl _ _) (fun _ _ _=>id) (fun _ _ _=>id) (fun _ _=>trivial) fun _ _=>trivial
  · rw [dnA];exact ⟨by decide,trivial,trivial⟩
  · exact arr_flat okA (by decide) lA hc
  · obtain rfl:b=true:=hb.2 ⟨goodA,rfl⟩
    exact hk h11 (Grw.trans G10 g11)
section
def ann233:Ann:=[]
def ord233:OrdT:=[]
def z233:List Value:=[(.bool false)]
def kv233 (K:Bool→HP):Value→HP:=fun v h=>rB v fun r0=>K r0 h
variable (K:Bool→HP) (Kp:PK) 
variable {K Kp} {h:Hp}
theorem Fn233.of (H :
  Fn244  h (fun t2 h1 =>
    K t2 h1) Kp) :
  Fn233  h K Kp:=fnof (ann:=ann233) (o:=ord233) (zs:=z233) (Kv:=kv233 K) Tryz.func3 (by kernel_rfl) H (by kernel_rfl) (by kernel_rfl)
end
theorem law233 {h:Hp} {K:Bool→HP} {Kp:PK} (ht:Tab h) (hu:UTab h) (hk:∀h',Grw h h'→K true h'):Fn233 h K Kp :=
  Fn233.of (awake_c ht hu fun h' g=>hk h' g)
end Go.Proofs.YtlbbdbdjiekkaaaGreatDoor
set_option maxRecDepth 100000
set_option maxHeartbeats 200000
/- What the rows of this seat ask of a call: reading the arguments, the tables. -/
namespace Go.Proofs.YtlbbdbdjiekkaaaGreatDoor
open Go Go.Sh Go.ChangeShapes Go.WideShapes Go.RowKit
theorem own:ownKnob Tryz.prog.godebug=none:=by kernel_rfl
theorem laidOut:laidOutB Tryz.prog=true:=by kernel_rfl
theorem mapsR:mapsRowed Tryz.prog=true:=by kernel_rfl
theorem slicesFull:((List.range Tryz.prog.types.size).all fun t=>match Tryz.prog.underlying t with | some (.slice e)=>decide (0 < Tryz.prog.cellsOf e) | _=>true)=true:=by kernel_rfl
noncomputable def fsOf (t:TypeId):Array Field:=match Tryz.prog.underlying t with | some (.struct fs)=>fs | _=>#[]
abbrev FdAt (t:TypeId) (i:Nat) (ty:TypeId) (off:Nat):Prop:=((fsOf t)[i]?).map (fun f=>(f.type,f.offset))=some (ty,off)
theorem u3:Tryz.prog.underlying 3=some (.int .i64):=by kernel_rfl
theorem u4:Tryz.prog.underlying 4=some (.bool):=by kernel_rfl
theorem u5:Tryz.prog.underlying 5=some (.int .u8):=by kernel_rfl
theorem u304:Tryz.prog.underlying 304=some (.array 21 303):=by kernel_rfl
theorem u317:Tryz.prog.underlying 317=some (.array 256 5):=by kernel_rfl
theorem u320:Tryz.prog.underlying 320=some (.array 16 319):=by kernel_rfl
theorem u32:Tryz.prog.underlying 32=some (.struct (fsOf 32)):=by kernel_rfl
theorem u303:Tryz.prog.underlying 303=some (.struct (fsOf 303)):=by kernel_rfl
theorem d303_1:FdAt 303 1 3 1:=by unfold FdAt;kernel_rfl
theorem d303_2:FdAt 303 2 3 2:=by unfold FdAt;kernel_rfl
theorem d303_3:FdAt 303 3 4 3:=by unfold FdAt;kernel_rfl
theorem u319:Tryz.prog.underlying 319=some (.struct (fsOf 319)):=by kernel_rfl
theorem d319_0:FdAt 319 0 5 0:=by unfold FdAt;kernel_rfl
theorem d319_1:FdAt 319 1 5 1:=by unfold FdAt;kernel_rfl
theorem cz3:Tryz.prog.cellsOf 3=1:=by kernel_rfl
theorem cz4:Tryz.prog.cellsOf 4=1:=by kernel_rfl
theorem cz5:Tryz.prog.cellsOf 5=1:=by kernel_rfl
theorem cz303:Tryz.prog.cellsOf 303=4:=by kernel_rfl
theorem cz319:Tryz.prog.cellsOf 319=2:=by kernel_rfl
/-! ### the tables -/
def nmAcc:String:=Rows.buildNamesRow.named.getD 2 ""
def nmSays:String:=Rows.buildNamesRow.named.getD 0 ""
def nmFirst:String:=Rows.buildNamesRow.named.getD 1 ""
theorem gSays:Tryz.prog.globalNamed nmSays=some 0:=by kernel_rfl
theorem gFirst:Tryz.prog.globalNamed nmFirst=some 1:=by kernel_rfl
theorem gAcc:Tryz.prog.globalNamed nmAcc=some 2:=by kernel_rfl
theorem gtSays:(Tryz.prog.globals[0]?).map (·.type)=some 304:=by kernel_rfl
theorem gtFirst:(Tryz.prog.globals[1]?).map (·.type)=some 317:=by kernel_rfl
theorem gtAcc:(Tryz.prog.globals[2]?).map (·.type)=some 320:=by kernel_rfl
theorem laid_at {W:World} {n:String} {g t e N z fuel:Nat} {d:DataW Unit} {cs:Array Value} {p:List MemPlace} (hg:Tryz.prog.globalNamed n=some g) (hu:Tryz.prog.underlying t=some (.array N e)) (hz:Tryz.prog.cellsOf e=z)
    (hvar:W.var? Tryz.prog n=some cs) (hd:DataW.trod (fun _=>()) Tryz.prog W 0 (fun _=>true) false fuel t cs.toList=some (d,p)) {i:Nat} (hi:i < N) :
    ∃(l:List (DataW Unit)) (m:Nat) (y:DataW Unit × List MemPlace) (cs':List Value),d=.agg l∧l[i]? = some y.1∧DataW.trod (fun _=>()) Tryz.prog W 0 (fun _=>true) false m e cs'=some y∧∀(k:Nat) v,k < z→cs'[k]? = some v→cell (hpz W) ⟨g,i*z+k,none⟩=some v:=by
  obtain ⟨xs,m,rfl,hx,hl,hxl,hh⟩:=DataW.trod_array hu hd
  rw [hz] at hh
  have hxi:xs[i]? = some xs[i]:=List.getElem?_eq_getElem (by omega)
  have h1:=hh i hi
  rw [hxi] at h1
  refine ⟨xs.map (·.1),m,xs[i],(cs.toList.drop (i*z)).take z,congrArg Prod.fst hx,by rw [List.getElem?_map,hxi];rfl,h1,fun k v hk hv => ?_⟩
  rw [cell_hpz]
  have:=World.var?_cell hg hvar (i*z+k)
  rw [this]
  simpa [List.getElem?_take,List.getElem?_drop,hk] using hv
theorem says_at:∀(i:Nat) (d:DataW Unit),i < 21→(match (Rows.laid_colonnade_kind_says:DataW Unit) with | .agg l=>l[i]? | _=>none)=some d→∃a,d=.agg [a, .lit (.int .i64 (if i=0 then 0 else widK i)), .lit (.int .i64 (if i=0 then 0 else bufK i)), .lit (.bool (decide (3≤i∧i≤10)))]:=by
  intro i d hi h
  rcases i with _ | _ | _ | _ | _ | _ | _ | _ | _ | _ | _ | _ | _ | _ | _ | _ | _ | _ | _ | _ | _ | i
  all_goals first | (obtain rfl:=Option.some.inj h;exact ⟨_,rfl⟩) | omega
theorem laid_int {W:World} {m t:Nat} {cs:List Value} {y:DataW Unit × List MemPlace} {k:IntKind} {v:Int} (hu:Tryz.prog.underlying t=some (.int k)) (h:DataW.trod (fun _=>()) Tryz.prog W 0 (fun _=>true) false m t cs=some y) (hy:y.1=.lit (.int k v)):cs=[.int k v]:=by
  obtain ⟨w,rfl,e,_⟩:=DataW.trod_int hu h
  rw [e] at hy
  simp only [DataW.lit.injEq,Lit.int.injEq,true_and] at hy
  rw [hy]
theorem laid_bool {W:World} {m t:Nat} {cs:List Value} {y:DataW Unit × List MemPlace} {v:Bool} (hu:Tryz.prog.underlying t=some .bool) (h:DataW.trod (fun _=>()) Tryz.prog W 0 (fun _=>true) false m t cs=some y) (hy:y.1=.lit (.bool v)):cs=[.bool v]:=by
  obtain ⟨w,rfl,e⟩:=DataW.trod_bool hu h
  rw [e] at hy
  simp only [DataW.lit.injEq,Lit.bool.injEq] at hy
  rw [hy]
theorem laid_struct {W:World} {m t:Nat} {cs:List Value} {y:DataW Unit × List MemPlace} {l:List (DataW Unit)} (ht:Tryz.prog.underlying t=some (.struct (fsOf t))) (h:DataW.trod (fun _=>()) Tryz.prog W 0 (fun _=>true) false m t cs=some y) (hy:y.1=.agg l)
    {i:Nat} {ty:TypeId} {off:Nat} {d:DataW Unit} (hf:FdAt t i ty off) (hd:l[i]? = some d):∃n z,DataW.trod (fun _=>()) Tryz.prog W 0 (fun _=>true) false n ty ((cs.drop off).take (Tryz.prog.cellsOf ty))=some z∧z.1=d:=by
  obtain ⟨xs,n,rfl,hz,hl,hlen,hh⟩:=DataW.trod_struct ht h
  unfold FdAt at hf
  rw [Option.map_eq_some_iff] at hf
  obtain ⟨f,hif,e⟩:=hf
  cases e
  have hlt:i < xs.length:=by have:=(Array.getElem?_eq_some_iff.1 hif).1;omega
  have:=hh i f hif
  rw [List.getElem?_eq_getElem hlt] at this
  refine ⟨n,xs[i],this,?_⟩
  have h1:y.1=.agg (xs.map (·.1)):=by rw [hz]
  rw [hy] at h1
  rw [DataW.agg.inj h1,List.getElem?_map,List.getElem?_eq_getElem hlt] at hd
  simpa using hd
theorem laid_get {cs:List Value} {off:Nat} {v:Value} (h:(cs.drop off).take 1=[v]):cs[off]? = some v:=by
  have:=congrArg (·[0]?) h
  simpa [List.getElem?_take,List.getElem?_drop] using this
theorem first_at (i:Nat) (hi:i < 256):(match (Rows.laid_unicode_utf8_first:DataW Unit) with | .agg l=>l[i]? | _=>none)=some (.lit (.int .u8 (uF i))):=by
  have h:∀j:Fin 256,(Pinned.utf8FirstZ[j.1]?)=some (uF j.1):=by decide +kernel
  have:=h ⟨i,hi⟩
  show (Pinned.numbers .u8 Pinned.utf8FirstZ)[i]? = _
  unfold Pinned.numbers
  simp only [List.getElem?_map,this]
  rfl
theorem acc_at:∀(i:Nat) (d:DataW Unit),i < 16→(match (Rows.laid_unicode_utf8_acceptRanges:DataW Unit) with | .agg l=>l[i]? | _=>none)=some d→d=.agg [.lit (.int .u8 (uLo i)), .lit (.int .u8 (uHi i))]:=by
  intro i d hi h
  rcases i with _ | _ | _ | _ | _ | _ | _ | _ | _ | _ | _ | _ | _ | _ | _ | _ | i
  all_goals first | (obtain rfl:=Option.some.inj h;rfl) | omega
theorem tabs_of {W:World} (h:laidMetH Tryz.prog Rows.buildNamesRow.laid W):Tab (hpz W)∧UTab (hpz W):=by
  have h:laidMet Tryz.prog [(nmAcc,Rows.laid_unicode_utf8_acceptRanges),(nmSays,Rows.laid_colonnade_kind_says),(nmFirst,Rows.laid_unicode_utf8_first)] W:=h
  obtain ⟨ps,⟨g1,t1,cs1,f1,p1,q1,hg1,ht1,hv1,hd1,⟨g2,t2,cs2,f2,p2,q2,hg2,ht2,hv2,hd2,⟨g3,t3,cs3,f3,p3,q3,hg3,ht3,hv3,hd3,_,_⟩,_⟩,_⟩,_⟩:=h
  obtain rfl:=Option.some.inj (gAcc.symm.trans hg1)
  obtain rfl:=Option.some.inj (gtAcc.symm.trans ht1)
  obtain rfl:=Option.some.inj (gSays.symm.trans hg2)
  obtain rfl:=Option.some.inj (gtSays.symm.trans ht2)
  obtain rfl:=Option.some.inj (gFirst.symm.trans hg3)
  obtain rfl:=Option.some.inj (gtFirst.symm.trans ht3)
  have says:∀i,i < 21→cell (hpz W) ⟨0,i*4+1,none⟩=some (.int .i64 (if i=0 then 0 else widK i))∧cell (hpz W) ⟨0,i*4+2,none⟩=some (.int .i64 (if i=0 then 0 else bufK i))∧cell (hpz W) ⟨0,i*4+3,none⟩=some (.bool (decide (3≤i∧i≤10))):=by
    intro i hi
    obtain ⟨l,m,y,cs',e1,e2,e3,e4⟩:=laid_at gSays u304 cz303 hv2 hd2 hi
    obtain ⟨a,hy⟩:=says_at i y.1 hi (by rw [e1];exact e2)
    obtain ⟨n1,z1,r1,s1⟩:=laid_struct u303 e3 hy d303_1 rfl
    obtain ⟨n2,z2,r2,s2⟩:=laid_struct u303 e3 hy d303_2 rfl
    obtain ⟨n3,z3',r3,s3⟩:=laid_struct u303 e3 hy d303_3 rfl
    have c1:=laid_int u3 r1 s1
    have c2:=laid_int u3 r2 s2
    have c3:=laid_bool u4 r3 s3
    rw [cz3] at c1 c2
    rw [cz4] at c3
    exact ⟨e4 1 _ (by omega) (laid_get c1),e4 2 _ (by omega) (laid_get c2),e4 3 _ (by omega) (laid_get c3)⟩
  refine ⟨⟨fun i hi=>(says i hi).2.2,fun i h1 h2 => ?_,fun i h1 h2 => ?_⟩,⟨fun i hi => ?_,fun i hi => ?_⟩⟩
  · have:=(says i (by omega)).2.1;rwa [if_neg (by omega)] at this
  · have:=(says i (by omega)).1;rwa [if_neg (by omega)] at this
  · obtain ⟨l,m,y,cs',e1,e2,e3,e4⟩:=laid_at gFirst u317 cz5 hv3 hd3 hi
    have hy:=first_at i hi
    rw [e1] at hy
    have hy:y.1=.lit (.int .u8 (uF i)):=Option.some.inj (e2.symm.trans hy)
    have c:=laid_int u5 e3 hy
    have:=e4 0 (.int .u8 (uF i)) (by omega) (by rw [c];rfl)
    simpa using this
  · obtain ⟨l,m,y,cs',e1,e2,e3,e4⟩:=laid_at gAcc u320 cz319 hv1 hd1 hi
    have hy:=acc_at i y.1 hi (by rw [e1];exact e2)
    obtain ⟨n1,z1,r1,s1⟩:=laid_struct u319 e3 hy d319_0 rfl
    obtain ⟨n2,z2,r2,s2⟩:=laid_struct u319 e3 hy d319_1 rfl
    have c1:=laid_int u5 r1 s1
    have c2:=laid_int u5 r2 s2
    rw [cz5] at c1 c2
    have q1:=e4 0 _ (by omega) (laid_get c1)
    rw [Nat.add_zero] at q1
    exact ⟨q1,e4 1 _ (by omega) (laid_get c2)⟩
end Go.Proofs.YtlbbdbdjiekkaaaGreatDoor
