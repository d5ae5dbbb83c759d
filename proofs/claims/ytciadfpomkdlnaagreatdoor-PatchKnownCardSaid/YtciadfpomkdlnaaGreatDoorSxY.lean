/- The engine, part Y: a region that draws its order, by what holds of the operations that are done, in whatever order. -/
import Derived.Test.YtciadfpomkdlnaaGreatDoorSxX
set_option maxHeartbeats 1000000
namespace Go.Sx
open Go
section
variable {P:Program} {N:Ctx} {w0:World} {ops:Array Oper} {Q:Exit→Act→World→Prop} {e e0:Env} {As:List Ent}
def O1 (P:Program) (N:Ctx) (w0:World) (ops:Array Oper) (Q:Exit→Act→World→Prop) (i d:Nat) (e:Env) (As:List Ent) (R:Value→List Ent→Prop):Prop :=
 ∀ a w,OkA N a e→St w0 w As→wpOpIn (fen N.ro) 0 P ops Q i (fun a' w'=>∃ v Bs,R v Bs∧a'=a.put (some d) v∧St w0 w' Bs) a w
theorem Zh8 {i d:Nat} {op:Op} {ty:TypeId} {pos:String} {af:Array Edge} {R:Value→List Ent→Prop} (ho:ops[i]?=some ⟨some d,op,ty,pos,af,none⟩) (hx:ExR P N w0 op ty e As R):O1 P N w0 ops Q i d e As R:=by
 intro a w ha hs
 unfold wpOpIn
 simp only [ho]
 rw [gOk.wanted (ops:=ops) (e:=e) (o:=⟨some d,op,ty,pos,af,none⟩) (r:=true) ha rfl,if_pos rfl]
 unfold ExR at hx
 obtain ⟨v,w',As',hrun,hr,hs'⟩:=hx a w ha hs (some d) pos af none
 refine ⟨fun _ _=>trivial,?_⟩
 show Oper.uponIn (fen N.ro) 0 P _ a _ Q ((Oper.semAt N.ro a.eval _).run P w)
 rw [Za7 hrun (by intro d;simp),hrun,Oper.uponIn_value]
 exact ⟨v,As',hr,rfl,hs'⟩
theorem O1.f {i d:Nat} {op:Op} {ty:TypeId} {pos:String} {af:Array Edge} {v:Value} (ho:ops[i]?=some ⟨some d,op,ty,pos,af,none⟩) (hx:ExF P N w0 op ty e As v):O1 P N w0 ops Q i d e As (fun u Bs=>u=v∧Bs=As):=by
 refine Zh8 ho ?_
 unfold ExR
 unfold ExF at hx
 exact fun a w ha hs d pos af g=>⟨v,w,As,hx a w ha hs d pos af g,⟨rfl,rfl⟩,hs⟩
theorem O1.call {i d:Nat} {f:FuncId} {xs:Array Operand} {vs vs':List Value} {tys:Array TypeId} {ty:TypeId} {pos:String} {af:Array Edge} {K:Value→List Ent→Prop} [Body P f] (ho:ops[i]?=some ⟨some d,.call ⟨.value (.func f),xs,tys⟩,ty,pos,af,none⟩)
  (hxs:evs e xs.toList=some vs) (hv:vs=vs') (hc:CallsS P w0 f vs' As K):O1 P N w0 ops Q i d e As K:=by
 subst hv
 intro a w ha hs
 unfold wpOpIn
 simp only [ho]
 rw [gOk.wanted (ops:=ops) (e:=e) (o:=⟨some d,.call ⟨.value (.func f),xs,tys⟩,ty,pos,af,none⟩) (r:=true) ha rfl,if_pos rfl]
 refine ⟨fun _ _=>trivial,?_⟩
 show Oper.uponIn (fen N.ro) 0 P _ a _ Q ((Oper.semAt N.ro a.eval _).run P w)
 have hx:=Zdl (P:=P) (f:=f) (tys:=tys) (d:=some d) (ty:=ty) (pos:=pos) (af:=af) (g:=none) hxs a w ha
 rw [Za7 hx (by intro d;simp),hx]
 refine ⟨fun h=>(by cases h),Zcp ((hc.out w hs).mono fun en w' ⟨v,As',h1,h2,h3⟩=>?_)⟩
 subst h1
 exact ⟨v,As',h2,rfl,h3⟩
/-! ### by what is done -/
def RelJ (X:Nat→Option (List Int)) (V:(Nat→Value)→Nat→Value) (val:Nat→Value) (i:Nat):Prop:=match X i with
 | none=>val i=V val i
 | some xs=>∃ c,val i=.slice (some ⟨c,0,none⟩) xs.length xs.length
def FBJ (X:Nat→Option (List Int)) (L:Array Bool) (val:Nat→Value):PF:=⟨fun H=>∀ i xs,X i=some xs→L.getD i false=true→Rdb H (cI .i64) (val i) xs,fun H H' hle h i xs h1 h2=>(rd (cI .i64) (val i) xs).2 H H' hle (h i xs h1 h2)⟩
def okJ (ops:Array Oper) (d0:Nat) (D:Nat→List Nat):Bool:=(List.range ops.size).all fun i=>match ops[i]? with
 | none=>false
 | some o=>o.dst == some (d0+i)&&(o.guard.isNone&&(o.after.all (fun e=>!Region.binds .any e||decide (e.on < i))&&(D i).all fun k=>o.after.any fun e=>Region.binds .any e&&(e.on == k||(D e.on).contains k)))
theorem Z1e {d0:Nat} {D:Nat→List Nat} (h:okJ ops d0 D=true) {i:Nat} {o:Oper} (ho:ops[i]?=some o) :
  (∀ e∈o.after,Region.binds .any e=true→e.on < i)∧∀ k∈D i,∃ e∈o.after,Region.binds .any e=true∧(e.on=k∨k∈D e.on):=by
 have hi:=(Array.getElem?_eq_some_iff.1 ho).1
 have h1:=List.all_eq_true.1 h i (List.mem_range.2 hi)
 rw [ho] at h1
 simp only [Bool.and_eq_true] at h1
 obtain ⟨_,_,h2,h3⟩:=h1
 refine ⟨fun e he hb=>?_,fun k hk=>?_⟩
 ·have:=Array.all_eq_true'.1 h2 e he
  rw [hb] at this
  simpa using this
 ·have:=List.all_eq_true.1 h3 k hk
  obtain ⟨e,he,hb⟩:=Array.any_eq_true'.1 this
  rw [Bool.and_eq_true,Bool.or_eq_true] at hb
  exact ⟨e,he,hb.1,hb.2.imp (fun h=>eq_of_beq h) (fun h=>by simpa using h)⟩
theorem Zwx {d0:Nat} {val:Nat→Value} {l:List Nat} {k:Nat} {v:Value} (h:Env.get (l.map (fun j=>(d0+j,val j))++e0) k=some v):(∃ j∈l,d0+j=k∧v=val j)∨Env.get e0 k=some v:=by
 induction l with
 | nil=>exact .inr h
 | cons a r ih =>
  have h':(bif Nat.beq (d0+a) k then some (val a) else Env.get (r.map (fun j=>(d0+j,val j))++e0) k)=some v:=h
  cases hb:Nat.beq (d0+a) k with
  | true =>
   rw [hb] at h'
   exact .inl ⟨a,List.mem_cons_self ..,Nat.eq_of_beq_eq_true hb,(Option.some.inj h').symm⟩
  | false =>
   rw [hb] at h'
   rcases ih h' with ⟨j,hj,h1,h2⟩|h1
   ·exact .inl ⟨j,List.mem_cons_of_mem _ hj,h1,h2⟩
   ·exact .inr h1
theorem Z2t {d0:Nat} (he0:(e0.all fun p=>Nat.blt p.1 d0)=true) {k:Nat} {v:Value} (h:e0.get k=some v):k < d0:=by
 induction e0 with
 | nil=>cases h
 | cons a r ih =>
  rw [List.all_cons,Bool.and_eq_true] at he0
  have h':(bif Nat.beq a.1 k then some a.2 else Env.get r k)=some v:=h
  cases hb:Nat.beq a.1 k with
  | true=>have:=Nat.eq_of_beq_eq_true hb;have h2:=he0.1;rw [Nat.blt_eq] at h2;omega
  | false=>rw [hb] at h';exact ih he0.2 h'
theorem Zso {w:World} {F G:PF} (h:∀ H,F.p H→G.p H) (hs:St w0 w (.ft F::As)):St w0 w (.ft G::As):=by
 obtain ⟨H,bs,g⟩:=hs
 exact ⟨H,bs,g.size,g.os,g.tape,g.output,g.fz,g.old,⟨h H g.sat.1,g.sat.2⟩,g.nd,g.ap⟩
theorem Z0o {w:World} {F1 F2 G:PF} (h:∀ H,F1.p H→F2.p H→G.p H) (hs:St w0 w (.ft F1::.ft F2::As)):St w0 w (.ft G::As):=by
 obtain ⟨H,bs,g⟩:=hs
 exact ⟨H,bs,g.size,g.os,g.tape,g.output,g.fz,g.old,⟨h H g.sat.1 g.sat.2.1,g.sat.2.2⟩,g.nd,g.ap⟩
structure JInv (N:Ctx) (w0:World) (ops:Array Oper) (e0:Env) (As:List Ent) (d0:Nat) (D:Nat→List Nat) (X:Nat→Option (List Int)) (V:(Nat→Value)→Nat→Value) (L:Array Bool) (val:Nat→Value) (a:Act) (w:World):Prop where
 sz:L.size=ops.size
 env:OkA N a e0
 slots:∀ i,L.getD i false=true→a.tmps[d0+i]?=some (val i)
 rel:∀ i,L.getD i false=true→RelJ X V val i
 clo:∀ i,L.getD i false=true→∀ j∈D i,L.getD j false=true
 st:St w0 w (.ft (FBJ X L val)::As)
theorem Z2o {L:Array Bool} {i:Nat} (h:L.getD i false=true):i < L.size:=by
 by_cases hi:i < L.size
 ·exact hi
 ·rw [Array.getD_eq_getD_getElem?,Array.getElem?_eq_none (by omega)] at h;cases h
theorem Zd6 {L:Array Bool} {i j:Nat} (hi:i < L.size):(L.setIfInBounds i true).getD j false=true↔j=i∨L.getD j false=true:=by
 rw [Array.getD_eq_getD_getElem?,Array.getD_eq_getD_getElem?,Array.getElem?_setIfInBounds]
 by_cases h:i=j
 ·subst h;simp [hi]
 ·rw [if_neg h];simp [Ne.symm h]
theorem Zxi [hm:Mix P] {id d0:Nat} {outs:List Nat} (D:Nat→List Nat) (X:Nat→Option (List Int)) (V:(Nat→Value)→Nat→Value)
  (hok:okJ ops d0 D=true) (hN:Nat.ble (d0+ops.size) N.N=true) (he0:(e0.all fun p=>Nat.blt p.1 d0)=true) (hsub:Sub e e0) (hout:∀ j∈outs,j < ops.size)
  (hV:∀ (val val':Nat→Value) (i:Nat),i < ops.size→X i=none→(∀ j∈D i,val j=val' j)→V val i=V val' i)
  (hstep:∀ i,i < ops.size→∀ (val:Nat→Value) (F:PF),(∀ j∈D i,RelJ X V val j)→O1 P N w0 ops Q i (d0+i) ((D i).map (fun j=>(d0+j,val j))++e0) (.ft F::As)
   (fun v Bs=>match X i with
    | none=>v=V val i∧Bs=.ft F::As
    | some xs=>∃ c,v=.slice (some ⟨c,0,none⟩) xs.length xs.length∧Bs=.ft (rd (cI .i64) (.slice (some ⟨c,0,none⟩) xs.length xs.length) xs)::.ft F::As))
  (hfin:∀ val:Nat→Value,(∀ j,j < ops.size→RelJ X V val j)→Post N w0 Q .normal (outs.map (fun j=>(d0+j,val j))++e0) (.ft (FBJ X (Array.replicate ops.size true) val)::As)) :
  Tri P N w0 (.region id ops true) e As Q:=by
 have key:∀ (fuel:Nat) (L:Array Bool) (R:List Nat) (val:Nat→Value) (a:Act) (w:World),R.length≤fuel→(∀ j,j < ops.size→L.getD j false=false→j∈R)→JInv N w0 ops e0 As d0 D X V L val a w →
   wpAnyIn (fen N.ro) 0 P .any ops Q fuel L a w:=by
  have hend:∀ (L:Array Bool) (val:Nat→Value) (a:Act) (w:World),JInv N w0 ops e0 As d0 D X V L val a w→(∀ j,j < ops.size→L.getD j false=true)→Q .normal a w:=by
   intro L val a w hJ hall
   have hL:L=Array.replicate ops.size true:=by
    apply Array.ext
    ·rw [hJ.sz,Array.size_replicate]
    ·intro i h1 h2
     have:=hall i (by rw [hJ.sz] at h1;exact h1)
     rw [Array.getD_eq_getD_getElem?,Array.getElem?_eq_getElem h1] at this
     rw [Array.getElem_replicate];exact this
   have hst:=hJ.st
   rw [hL] at hst
   refine (hfin val fun j hj=>hJ.rel j (hall j hj)).out a w ⟨hJ.env.defers,hJ.env.size,fun k v hk=>?_⟩ hst
   rcases Zwx hk with ⟨j,hj,rfl,rfl⟩|h1
   ·exact hJ.slots j (hall j (hout j hj))
   ·exact hJ.env.holds k v h1
  intro fuel
  induction fuel with
  | zero =>
   intro L R val a w hR hun hJ
   have hall:∀ j,j < ops.size→L.getD j false=true:=by
    intro j hj
    cases hb:L.getD j false with
    | true=>rfl
    | false=>have:=hun j hj hb;rw [List.length_eq_zero_iff.1 (Nat.le_zero.1 hR)] at this;cases this
   refine ⟨?_,hend L val a w hJ hall⟩
   cases hr:Region.ready .any ops L with
   | nil=>rfl
   | cons i r =>
    obtain ⟨h1,o,ho,_⟩:=mem_ready.1 (show i∈Region.ready .any ops L by rw [hr];exact List.mem_cons_self ..)
    have hi:=(Array.getElem?_eq_some_iff.1 ho).1
    have h2:=hall i hi
    rw [Array.getD_eq_getD_getElem?,Array.getElem?_eq_getElem (by rw [hJ.sz];exact hi)] at h1 h2
    simp only [Option.getD_some] at h1 h2
    rw [h1] at h2;cases h2
  | succ fuel ih =>
   intro L R val a w hR hun hJ
   refine ⟨fun hr=>?_,fun i hi=>?_⟩
   ·refine hend L val a w hJ ?_
    intro j
    induction j using Nat.strongRecOn with
    | _ j ihj =>
     intro hj
     cases hb:L.getD j false with
     | true=>rfl
     | false =>
      exfalso
      have ho:ops[j]?=some ops[j]:=Array.getElem?_eq_getElem hj
      have:j∈Region.ready .any ops L:=mem_ready.2 ⟨by
       rw [Array.getD_eq_getD_getElem?,Array.getElem?_eq_getElem (by rw [hJ.sz];exact hj)] at hb ⊢
       exact hb,_,ho,fun e he hbd=>by
        have h1:=(Z1e hok ho).1 e he hbd
        exact ihj e.on h1 (by omega)⟩
      rw [hr] at this;cases this
   ·obtain ⟨hun1,o,ho,hpre⟩:=mem_ready.1 hi
    have his:=(Array.getElem?_eq_some_iff.1 ho).1
    have hiL:i < L.size:=by rw [hJ.sz];exact his
    have hif:¬ L.getD i false=true:=by
     intro h
     rw [Array.getD_eq_getD_getElem?,Array.getElem?_eq_getElem hiL] at hun1 h
     simp only [Option.getD_some] at hun1 h
     rw [hun1] at h;cases h
    obtain ⟨hb1,hb2⟩:=Z1e hok ho
    have hDl:∀ k∈D i,L.getD k false=true:=by
     intro k hk
     obtain ⟨e,he,hbd,h1⟩:=hb2 k hk
     have h2:=hpre e he hbd
     rcases h1 with rfl|h1
     ·exact h2
     ·exact hJ.clo _ h2 k h1
    have hne:∀ k,L.getD k false=true→k≠i:=fun k hk e=>hif (by rw [← e];exact hk)
    refine wpOpIn_mono (fun a' w' hK=>?_) (hstep i his val (FBJ X L val) (fun j hj=>hJ.rel j (hDl j hj)) a w ⟨hJ.env.defers,hJ.env.size,fun k v hk=>?_⟩ hJ.st)
    ·obtain ⟨v,Bs,hR1,rfl,hs'⟩:=hK
     have hlt:d0+i < a.tmps.size:=by rw [hJ.env.size];have:=Nat.le_of_ble_eq_true hN;omega
     refine ih (L.setIfInBounds i true) (R.erase i) (fun j=>if j=i then v else val j) _ w' ?_ ?_ ?_
     ·have hmem:i∈R:=hun i his (by cases hb:L.getD i false with|false=>rfl|true=>exact absurd hb hif)
      rw [List.length_erase_of_mem hmem];omega
     ·intro j hj hjf
      have h1:¬ (j=i∨L.getD j false=true):=fun h=>by rw [(Zd6 hiL).2 h] at hjf;cases hjf
      exact (List.mem_erase_of_ne (fun e=>h1 (.inl e))).2 (hun j hj (by cases hb:L.getD j false with|false=>rfl|true=>exact absurd (.inr hb) h1))
     ·refine ⟨by rw [Array.size_setIfInBounds];exact hJ.sz,⟨hJ.env.defers,by simp [Act.put,hJ.env.size],fun k u hk=>?_⟩,fun j hj=>?_,fun j hj=>?_,fun j hj k hk=>?_,?_⟩
      ·show (a.tmps.setIfInBounds (d0+i) v)[k]?=some u
       have:=Z2t he0 hk
       rw [Array.getElem?_setIfInBounds,if_neg (by omega)]
       exact hJ.env.holds k u hk
      ·show (a.tmps.setIfInBounds (d0+i) v)[d0+j]?=some (if j=i then v else val j)
       rw [Array.getElem?_setIfInBounds]
       rcases (Zd6 hiL).1 hj with rfl|h1
       ·rw [if_pos rfl,if_pos hlt,if_pos rfl]
       ·have:=hne j h1
        rw [if_neg (by omega),if_neg this]
        exact hJ.slots j h1
      ·rcases (Zd6 hiL).1 hj with rfl|h1
       ·unfold RelJ
        cases hX:X j with
        | none =>
         rw [hX] at hR1
         simp only at hR1 ⊢
         rw [if_pos trivial,hR1.1]
         exact hV _ _ j his hX fun k hk=>(if_neg (hne k (hDl k hk))).symm
        | some xs =>
         rw [hX] at hR1
         obtain ⟨c,h2,_⟩:=hR1
         exact ⟨c,(if_pos rfl).trans h2⟩
       ·have h2:=hJ.rel j h1
        unfold RelJ at h2 ⊢
        cases hX:X j with
        | none =>
         rw [hX] at h2
         simp only at h2 ⊢
         rw [if_neg (hne j h1),h2]
         exact hV _ _ j (by have:=Z2o h1;rw [hJ.sz] at this;exact this) hX fun k hk=>(if_neg (hne k (hJ.clo j h1 k hk))).symm
        | some xs =>
         rw [hX] at h2
         obtain ⟨c,h3⟩:=h2
         exact ⟨c,(if_neg (hne j h1)).trans h3⟩
      ·rcases (Zd6 hiL).1 hj with rfl|h1
       ·exact (Zd6 hiL).2 (.inr (hDl k hk))
       ·exact (Zd6 hiL).2 (.inr (hJ.clo j h1 k hk))
      ·cases hX:X i with
       | none =>
        rw [hX] at hR1
        obtain ⟨_,rfl⟩:=hR1
        refine Zso (fun H h k xs hk hkL=>?_) hs'
        have hki:k≠i:=fun e=>by rw [e,hX] at hk;cases hk
        show Rdb H (cI .i64) (if k=i then v else val k) xs
        rw [if_neg hki]
        exact h k xs hk (((Zd6 hiL).1 hkL).resolve_left hki)
       | some ys =>
        rw [hX] at hR1
        obtain ⟨c,rfl,rfl⟩:=hR1
        refine Z0o (fun H h1 h2 k xs hk hkL=>?_) hs'
        by_cases hki:k=i
        ·subst hki
         rw [hX] at hk
         cases hk
         show Rdb H (cI .i64) (if k=k then _ else val k) _
         rw [if_pos rfl]
         exact h1
        ·show Rdb H (cI .i64) (if k=i then _ else val k) xs
         rw [if_neg hki]
         exact h2 k xs hk (((Zd6 hiL).1 hkL).resolve_left hki)
    ·rcases Zwx hk with ⟨j,hj,rfl,rfl⟩|h1
     ·exact hJ.slots j (hDl j hj)
     ·exact hJ.env.holds k v h1
 refine Tri.mk fun a w ha hs=>wpIn_region_any hm.h ?_
 refine key ops.size (Array.replicate ops.size false) (List.range ops.size) (fun _=>undef) a w.drew (by simp) (fun j hj _=>List.mem_range.2 hj) ⟨by simp,ha.sub hsub,fun i h=>?_,fun i h=>?_,fun i h=>?_,?_⟩
 ·rw [Array.getD_eq_getD_getElem?,Array.getElem?_replicate] at h;split at h<;>cases h
 ·rw [Array.getD_eq_getD_getElem?,Array.getElem?_replicate] at h;split at h<;>cases h
 ·rw [Array.getD_eq_getD_getElem?,Array.getElem?_replicate] at h;split at h<;>cases h
 ·have hs2:=hs.drew
  obtain ⟨H,bs,g⟩:=hs2
  refine ⟨H,bs,g.size,g.os,g.tape,g.output,g.fz,g.old,⟨fun i xs _ h=>?_,g.sat⟩,g.nd,g.ap⟩
  rw [Array.getD_eq_getD_getElem?,Array.getElem?_replicate] at h;split at h<;>cases h
end
end Go.Sx
