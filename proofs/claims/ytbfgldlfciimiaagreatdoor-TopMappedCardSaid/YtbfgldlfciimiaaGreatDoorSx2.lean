/- The engine, part 1: the state (environment of slots, list of heap entries), judgements over code, structural rules, function entry, calls. -/
import Derived.Calls
import Derived.Orders
import Derived.Laws.Sem
import Derived.Laws.World
import Derived.LoopNIn
import Derived.OrdersIn
import Derived.RangeFuncLeaves
import Derived.RangeFuncCalls
import Derived.Laws.CopyRow
import Derived.Laws.Bits
import Derived.WalkKit
import Derived.LoopN
set_option maxHeartbeats 1000000
namespace Go.Sx
open Go

/-! ### Frozen memory and facts about it -/
abbrev FH:=Nat→Option Obj
def FH.le (H H':FH):Prop:=∀ b o,H b=some o→H' b=some o
theorem FH.le_refl (H:FH):FH.le H H:=fun _ _ h=>h
theorem FH.le_trans {H1 H2 H3:FH} (h:FH.le H1 H2) (k:FH.le H2 H3):FH.le H1 H3:=fun b o hb=>k b o (h b o hb)
structure PF where
 p:FH→Prop
 mono:∀ H H',FH.le H H'→p H→p H'

/-! ### Entries -/
structure Cod (α:Type) where
 n:Nat
 enc:α→List Value
 len:∀ x,(enc x).length=n
 one:∀ x,∀ v∈enc x,v.oneCell'=true
def Cod.flat {α:Type} (c:Cod α) (xs:List α):List Value:=xs.flatMap c.enc

inductive Ent:Type 1
 /-- block b holds just these cells, ours alone -/
 | cl (b:Nat) (l:List Value) (T:TypeId)
 /-- block b is this object, ours alone -/
 | ob (b:Nat) (o:Obj)
 /-- a fact about frozen memory -/
 | ft (f:PF)
 /-- slice v, whose array is ours alone, reads xs -/
 | ow {α:Type} (c:Cod α) (T:TypeId) (v:Value) (xs:List α)

def OwAt {α:Type} (w:World) (c:Cod α) (T:TypeId) (v:Value) (xs:List α) (b:Nat):Prop :=
 ∃ off cap front rest,v=.slice (some ⟨b,off,none⟩) xs.length cap∧front.length=off∧xs.length≤cap∧c.n * cap≤(c.flat xs++rest).length ∧
   w.heap[b]?=some (.cells (front++c.flat xs++rest).toArray T (0,0))

def Sat (w:World) (H:FH):List Ent→List Nat→Prop
 | [],bs=>bs=[]
 | .ft f::r,bs=>f.p H∧Sat w H r bs
 | .cl b l T::r,bs=>∃ bs',bs=b::bs'∧w.heap[b]?=some (.cells l.toArray T (0,0))∧Sat w H r bs'
 | .ob b o::r,bs=>∃ bs',bs=b::bs'∧w.heap[b]?=some o∧Sat w H r bs'
 | .ow c T v xs::r,bs=>((∃ p,v=.slice p 0 0)∧xs=[]∧Sat w H r bs)∨∃ b bs',bs=b::bs'∧OwAt w c T v xs b∧Sat w H r bs'

structure StW (w0 w:World) (H:FH) (As:List Ent) (bs:List Nat):Prop where
 size:w0.heap.size≤w.heap.size
 os:w.os=w0.os
 tape:w.tape=w0.tape
 output:w.output=w0.output
 fz:∀ b o,H b=some o→w.heap[b]?=some o
 old:∀ b,b < w0.heap.size→H b=w0.heap[b]?
 sat:Sat w H As bs
 nd:bs.Nodup
 ap:∀ b∈bs,H b=none

def St (w0 w:World) (As:List Ent):Prop:=∃ H bs,StW w0 w H As bs

theorem Sat.lt {w:World} {H:FH}:∀ {As:List Ent} {bs:List Nat},Sat w H As bs→∀ b∈bs,b < w.heap.size
 | [],bs,h,b,hb=>by simp only [Sat] at h;subst h;cases hb
 | .ft f::r,bs,h,b,hb=>Sat.lt h.2 b hb
 | .cl b' l T::r,bs,h,b,hb=>by
  obtain ⟨bs',rfl,hw,hr⟩:=h
  rcases List.mem_cons.1 hb with rfl|hb
  ·exact (Array.getElem?_eq_some_iff.1 hw).1
  ·exact Sat.lt hr b hb
 | .ob b' o::r,bs,h,b,hb=>by
  obtain ⟨bs',rfl,hw,hr⟩:=h
  rcases List.mem_cons.1 hb with rfl|hb
  ·exact (Array.getElem?_eq_some_iff.1 hw).1
  ·exact Sat.lt hr b hb
 | .ow c T v xs::r,bs,h,b,hb=>by
  rcases h with ⟨_,_,hr⟩|⟨b',bs',rfl,⟨_,_,_,_,_,_,_,_,hw⟩,hr⟩
  ·exact Sat.lt hr b hb
  ·rcases List.mem_cons.1 hb with rfl|hb
   ·exact (Array.getElem?_eq_some_iff.1 hw).1
   ·exact Sat.lt hr b hb

theorem Sat.move {w w':World} {H H':FH} (hH:FH.le H H'):∀ {As:List Ent} {bs:List Nat},Sat w H As bs→(∀ b∈bs,w'.heap[b]?=w.heap[b]?)→Sat w' H' As bs
 | [],_,h,_=>h
 | .ft f::r,bs,h,k=>⟨f.mono _ _ hH h.1,Sat.move hH h.2 k⟩
 | .cl b' l T::r,bs,h,k=>by
  obtain ⟨bs',rfl,hw,hr⟩:=h
  exact ⟨bs',rfl,(k b' (List.mem_cons_self ..)).trans hw,Sat.move hH hr fun b hb=>k b (List.mem_cons_of_mem _ hb)⟩
 | .ob b' o::r,bs,h,k=>by
  obtain ⟨bs',rfl,hw,hr⟩:=h
  exact ⟨bs',rfl,(k b' (List.mem_cons_self ..)).trans hw,Sat.move hH hr fun b hb=>k b (List.mem_cons_of_mem _ hb)⟩
 | .ow c T v xs::r,bs,h,k=>by
  rcases h with ⟨h1,h2,hr⟩|⟨b',bs',rfl,⟨off,cap,front,rest,h1,h2,h3,h4,hw⟩,hr⟩
  ·exact .inl ⟨h1,h2,Sat.move hH hr k⟩
  ·exact .inr ⟨b',bs',rfl,⟨off,cap,front,rest,h1,h2,h3,h4,(k b' (List.mem_cons_self ..)).trans hw⟩,Sat.move hH hr fun b hb=>k b (List.mem_cons_of_mem _ hb)⟩

theorem St.drew {w0 w:World} {As:List Ent} (h:St w0 w As):St w0 w.drew As:=by
 obtain ⟨H,bs,h⟩:=h
 exact ⟨H,bs,h.size,h.os,h.tape,h.output,h.fz,h.old,Sat.move (FH.le_refl H) h.sat (fun _ _=>rfl),h.nd,h.ap⟩

theorem Zji (w:World) (o:Obj) {k:Nat} (h:k < w.heap.size):(w.alloc o).heap[k]?=w.heap[k]?:=by
 show (w.heap.push o)[k]?=_
 rw [Array.getElem?_push,if_neg (by omega)]
theorem Zn5 (w:World) (o:Obj):(w.alloc o).heap[w.heap.size]?=some o:=by
 show (w.heap.push o)[w.heap.size]?=_
 rw [Array.getElem?_push,if_pos rfl]

theorem StW.alloc {w0 w:World} {H:FH} {As:List Ent} {bs:List Nat} (h:StW w0 w H As bs) (o:Obj) :
  StW w0 (w.alloc o) H (.ob w.heap.size o::As) (w.heap.size::bs):=by
 have hlt:=h.sat.lt
 refine ⟨by simp;have:=h.size;omega,h.os,h.tape,h.output,fun b o' hb=>?_,h.old,⟨bs,rfl,Zn5 _ _,Sat.move (FH.le_refl H) h.sat fun b hb=>Zji _ _ (hlt b hb)⟩,?_,?_⟩
 ·have h1:=h.fz b o' hb
  rw [Zji _ _ (Array.getElem?_eq_some_iff.1 h1).1];exact h1
 ·exact List.nodup_cons.2 ⟨fun hm=>Nat.lt_irrefl _ (hlt _ hm),h.nd⟩
 ·intro b hb
  rcases List.mem_cons.1 hb with rfl|hb
  ·cases hh:H w.heap.size with
   | none=>rfl
   | some o'=>exact absurd (Array.getElem?_eq_some_iff.1 (h.fz _ _ hh)).1 (Nat.lt_irrefl _)
  ·exact h.ap b hb
theorem St.alloc_ob {w0 w:World} {As:List Ent} (h:St w0 w As) (o:Obj):St w0 (w.alloc o) (.ob w.heap.size o::As):=by
 obtain ⟨H,bs,h⟩:=h;exact ⟨H,_,h.alloc o⟩
theorem Zgk {w0 w:World} {As:List Ent} (h:St w0 w As) (l:List Value) (T:TypeId):St w0 (w.alloc (.cells l.toArray T)) (.cl w.heap.size l T::As):=by
 obtain ⟨H,bs,h⟩:=h
 have g:=h.alloc (.cells l.toArray T)
 obtain ⟨bs',he,hw,hs⟩:=g.sat
 exact ⟨H,_,g.size,g.os,g.tape,g.output,g.fz,g.old,⟨_,he,hw,hs⟩,g.nd,g.ap⟩

/-! ### Entailment Zri lists of entries (in one world) -/
def Ents (As Bs:List Ent):Prop:=∀ w0 w,St w0 w As→St w0 w Bs
theorem Ents.refl (As:List Ent):Ents As As:=fun _ _ h=>h
theorem Ents.trans {A B C:List Ent} (h:Ents A B) (k:Ents B C):Ents A C:=fun w0 w x=>k w0 w (h w0 w x)

theorem Sat.append {w:World} {H:FH}:∀ {As Bs:List Ent} {bs:List Nat},Sat w H (As++Bs) bs↔∃ b1 b2,bs=b1++b2∧Sat w H As b1∧Sat w H Bs b2
 | [],Bs,bs=>by
  constructor
  ·intro h;exact ⟨[],bs,rfl,rfl,h⟩
  ·rintro ⟨b1,b2,rfl,h1,h2⟩;simp only [Sat] at h1;subst h1;exact h2
 | .ft f::r,Bs,bs=>by
  simp only [List.cons_append,Sat]
  rw [Sat.append (As:=r)]
  constructor
  ·rintro ⟨hf,b1,b2,rfl,h1,h2⟩;exact ⟨b1,b2,rfl,⟨hf,h1⟩,h2⟩
  ·rintro ⟨b1,b2,rfl,⟨hf,h1⟩,h2⟩;exact ⟨hf,b1,b2,rfl,h1,h2⟩
 | .cl b l T::r,Bs,bs=>by
  simp only [List.cons_append,Sat]
  constructor
  ·rintro ⟨bs',rfl,hw,hr⟩
   obtain ⟨b1,b2,rfl,h1,h2⟩:=Sat.append.1 hr
   exact ⟨b::b1,b2,rfl,⟨b1,rfl,hw,h1⟩,h2⟩
  ·rintro ⟨b1,b2,rfl,⟨b1',rfl,hw,h1⟩,h2⟩
   exact ⟨b1'++b2,rfl,hw,Sat.append.2 ⟨b1',b2,rfl,h1,h2⟩⟩
 | .ob b o::r,Bs,bs=>by
  simp only [List.cons_append,Sat]
  constructor
  ·rintro ⟨bs',rfl,hw,hr⟩
   obtain ⟨b1,b2,rfl,h1,h2⟩:=Sat.append.1 hr
   exact ⟨b::b1,b2,rfl,⟨b1,rfl,hw,h1⟩,h2⟩
  ·rintro ⟨b1,b2,rfl,⟨b1',rfl,hw,h1⟩,h2⟩
   exact ⟨b1'++b2,rfl,hw,Sat.append.2 ⟨b1',b2,rfl,h1,h2⟩⟩
 | .ow c T v xs::r,Bs,bs=>by
  simp only [List.cons_append,Sat]
  constructor
  ·rintro (⟨e1,e2,hr⟩|⟨b,bs',rfl,hw,hr⟩)
   ·obtain ⟨b1,b2,rfl,h1,h2⟩:=Sat.append.1 hr
    exact ⟨b1,b2,rfl,.inl ⟨e1,e2,h1⟩,h2⟩
   ·obtain ⟨b1,b2,rfl,h1,h2⟩:=Sat.append.1 hr
    exact ⟨b::b1,b2,rfl,.inr ⟨b,b1,rfl,hw,h1⟩,h2⟩
  ·rintro ⟨b1,b2,rfl,(⟨e1,e2,h1⟩|⟨b,b1',rfl,hw,h1⟩),h2⟩
   ·exact .inl ⟨e1,e2,Sat.append.2 ⟨b1,b2,rfl,h1,h2⟩⟩
   ·exact .inr ⟨b,b1'++b2,rfl,hw,Sat.append.2 ⟨b1',b2,rfl,h1,h2⟩⟩

theorem Sat.cons {w:World} {H:FH} {x:Ent} {r:List Ent} {bs:List Nat}:Sat w H (x::r) bs↔∃ b1 b2,bs=b1++b2∧Sat w H [x] b1∧Sat w H r b2 :=
 Sat.append (As:=[x])

theorem Sat.perm {w:World} {H:FH} {As Bs:List Ent} (hp:As.Perm Bs):∀ {bs:List Nat},Sat w H As bs→∃ bs',bs.Perm bs'∧Sat w H Bs bs':=by
 induction hp with
 | nil=>intro bs h;exact ⟨bs,.refl _,h⟩
 | cons x _ ih =>
  intro bs h
  obtain ⟨b1,b2,rfl,h1,h2⟩:=Sat.cons.1 h
  obtain ⟨b3,hp3,h3⟩:=ih h2
  exact ⟨b1++b3,.append_left _ hp3,Sat.cons.2 ⟨b1,b3,rfl,h1,h3⟩⟩
 | swap x y l =>
  intro bs h
  obtain ⟨b1,b2,rfl,h1,h2⟩:=Sat.cons.1 h
  obtain ⟨b3,b4,rfl,h3,h4⟩:=Sat.cons.1 h2
  refine ⟨b3++(b1++b4),?_,Sat.cons.2 ⟨b3,b1++b4,rfl,h3,Sat.cons.2 ⟨b1,b4,rfl,h1,h4⟩⟩⟩
  rw [← List.append_assoc,← List.append_assoc]
  exact (List.perm_append_comm).append_right _
 | trans _ _ ih1 ih2 =>
  intro bs h
  obtain ⟨b1,p1,h1⟩:=ih1 h
  obtain ⟨b2,p2,h2⟩:=ih2 h1
  exact ⟨b2,p1.trans p2,h2⟩
theorem Ents.perm {As Bs:List Ent} (hp:As.Perm Bs):Ents As Bs:=by
 rintro w0 w ⟨H,bs,h⟩
 obtain ⟨bs',hp',hs⟩:=Sat.perm hp h.sat
 exact ⟨H,bs',h.size,h.os,h.tape,h.output,h.fz,h.old,hs,hp'.nodup_iff.1 h.nd,fun b hb=>h.ap b (hp'.mem_iff.2 hb)⟩
theorem Zb3 {x:Ent} {As:List Ent}:Ents (x::As) As:=by
 rintro w0 w ⟨H,bs,h⟩
 obtain ⟨b1,b2,rfl,h1,h2⟩:=Sat.cons.1 h.sat
 exact ⟨H,b2,h.size,h.os,h.tape,h.output,h.fz,h.old,h2,(List.nodup_append.1 h.nd).2.1,fun b hb=>h.ap b (List.mem_append_right _ hb)⟩

/-! ### Taking an entry out of a list: by instances -/
class Take (As:List Ent) (x:Ent) (rest:outParam (List Ent)):Prop where
 perm:As.Perm (x::rest)
instance Take.head {x:Ent} {r:List Ent}:Take (x::r) x r:=⟨.refl _⟩
instance (priority:=low) Take.tail {x y:Ent} {r s:List Ent} [h:Take r x s]:Take (y::r) x (y::s):=⟨(h.perm.cons y).trans (.swap x y s)⟩
class TakeC (As:List Ent) (b:Nat) (l:outParam (List Value)) (T:outParam TypeId) (rest:outParam (List Ent)):Prop where
 perm:As.Perm (.cl b l T::rest)
instance TakeC.head {b:Nat} {l:List Value} {T:TypeId} {r:List Ent}:TakeC (.cl b l T::r) b l T r:=⟨.refl _⟩
instance (priority:=low) TakeC.tail {b:Nat} {l:List Value} {T:TypeId} {y:Ent} {r s:List Ent} [h:TakeC r b l T s]:TakeC (y::r) b l T (y::s):=⟨(h.perm.cons y).trans (.swap _ y s)⟩
class TakeO (As:List Ent) (b:Nat) (o:outParam Obj) (rest:outParam (List Ent)):Prop where
 perm:As.Perm (.ob b o::rest)
instance TakeO.head {b:Nat} {o:Obj} {r:List Ent}:TakeO (.ob b o::r) b o r:=⟨.refl _⟩
instance (priority:=low) TakeO.tail {b:Nat} {o:Obj} {y:Ent} {r s:List Ent} [h:TakeO r b o s]:TakeO (y::r) b o (y::s):=⟨(h.perm.cons y).trans (.swap _ y s)⟩
class TakeW {α:outParam Type} (As:List Ent) (v:Value) (c:outParam (Cod α)) (T:outParam TypeId) (xs:outParam (List α)) (rest:outParam (List Ent)):Prop where
 perm:As.Perm (.ow c T v xs::rest)
instance TakeW.head {α:Type} {c:Cod α} {T:TypeId} {v:Value} {xs:List α} {r:List Ent}:TakeW (.ow c T v xs::r) v c T xs r:=⟨.refl _⟩
instance (priority:=low) TakeW.tail {α:Type} {c:Cod α} {T:TypeId} {v:Value} {xs:List α} {y:Ent} {r s:List Ent} [h:TakeW r v c T xs s]:TakeW (y::r) v c T xs (y::s) :=
 ⟨(h.perm.cons y).trans (.swap _ y s)⟩
class Fact (As:List Ent) (f:PF):Prop where
 mem:.ft f∈As
instance Fact.head {f:PF} {r:List Ent}:Fact (.ft f::r) f:=⟨List.mem_cons_self ..⟩
instance (priority:=low) Fact.tail {f:PF} {y:Ent} {r:List Ent} [h:Fact r f]:Fact (y::r) f:=⟨List.mem_cons_of_mem _ h.mem⟩
class Cov (As Bs:List Ent):Prop where
 ents:∀ w H bs,Sat w H As bs→∃ b1 b2,bs.Perm (b1++b2)∧Sat w H Bs b1
theorem Zgl {As Bs:List Ent} (h:Cov As Bs):Ents As Bs:=by
 rintro w0 w ⟨H,bs,g⟩
 obtain ⟨b1,b2,hp,hs⟩:=h.ents w H bs g.sat
 exact ⟨H,b1,g.size,g.os,g.tape,g.output,g.fz,g.old,hs,(List.nodup_append.1 (hp.nodup_iff.1 g.nd)).1,fun b hb=>g.ap b (hp.mem_iff.2 (List.mem_append_left _ hb))⟩
instance Cov.self {As:List Ent}:Cov As As:=⟨fun w H bs h=>⟨bs,[],by simp,h⟩⟩
instance (priority:=low) Cov.nil {As:List Ent}:Cov As []:=⟨fun w H bs h=>⟨[],bs,by simp,rfl⟩⟩
theorem Sat.fact {w:World} {H:FH} {f:PF}:∀ {As:List Ent} {bs:List Nat},Sat w H As bs→.ft f∈As→f.p H
 | [],_,_,hm=>by cases hm
 | x::r,bs,h,hm=>by
  obtain ⟨b1,b2,rfl,h1,h2⟩:=Sat.cons.1 h
  rcases List.mem_cons.1 hm with rfl|hm
  ·exact h1.1
  ·exact Sat.fact h2 hm
instance (priority:=low) Cov.fact {As Bs:List Ent} {f:PF} [h:Fact As f] [k:Cov As Bs]:Cov As (.ft f::Bs):=⟨fun w H bs hs=>by
 obtain ⟨b1,b2,hp,g⟩:=k.ents w H bs hs
 exact ⟨b1,b2,hp,hs.fact h.mem,g⟩⟩
instance (priority:=low) Cov.take {As Bs rest:List Ent} {x:Ent} [h:Take As x rest] [k:Cov rest Bs]:Cov As (x::Bs):=⟨fun w H bs hs=>by
 obtain ⟨bs',hp,g⟩:=Sat.perm h.perm hs
 obtain ⟨b1,b2,rfl,g1,g2⟩:=Sat.cons.1 g
 obtain ⟨b3,b4,hp',g3⟩:=k.ents w H b2 g2
 refine ⟨b1++b3,b4,hp.trans ?_,Sat.cons.2 ⟨b1,b3,rfl,g1,g3⟩⟩
 rw [List.append_assoc]
 exact hp'.append_left _⟩

instance (priority:=50) Cov.drop {y:Ent} {As Bs:List Ent} [k:Cov As Bs]:Cov (y::As) Bs:=⟨fun w H bs hs=>by
 obtain ⟨b1,b2,rfl,h1,h2⟩:=Sat.cons.1 hs
 obtain ⟨b3,b4,hp,h3⟩:=k.ents w H b2 h2
 refine ⟨b3,b4++b1,?_,h3⟩
 refine (List.perm_append_comm).trans ?_
 rw [← List.append_assoc]
 exact hp.append_right _⟩

/-! ### What a frame is -/
structure Ctx where
 N:Nat
 ro:Option Nat
 ds:List Deferred
def fen (ro:Option Nat):Fence:={ fn:=fun _=>True,depth:=none,alive:=false,round:=ro }
theorem Zew {P:Program} {f:FuncId} {args:Array Value} {w:World} {R:Ending→World→Prop} {ro:Option Nat} {n:Nat} (h:Calls P f args w R):CallsIn (fen ro) n P f args w R:=by
 have h1:CallsIn Fence.wide n P f args w R:=callsIn_wide.2 h
 cases ro with
 | none=>exact h1
 | some l=>exact CallsIn.inRound l h1
/-! ### The environment -/
abbrev Env:=List (Nat × Value)
def Env.get:Env→Nat→Option Value
 | [],_=>none
 | (i,v)::r,k=>bif Nat.beq i k then some v else Env.get r k
def ev (e:Env):Operand→Option Value
 | .tmp t=>e.get t
 | .const v=>some v
 | .global g=>some (.pointer (some ⟨g,0,none⟩))
 | .func f=>some (.func (.func f) #[] #[])
def evs (e:Env):List Operand→Option (List Value)
 | []=>some []
 | x :: r=>match ev e x with
  | some v=>match evs e r with
   | some vs=>some (v::vs)
   | none=>none
  | none=>none
structure OkA (N:Ctx) (a:Act) (e:Env):Prop where
 defers:a.defers=N.ds
 size:a.tmps.size=N.N
 holds:∀ k v,e.get k=some v→a.tmps[k]?=some v
theorem OkA.eval {N:Ctx} {a:Act} {e:Env} (h:OkA N a e) {x:Operand} {v:Value} (hx:ev e x=some v):a.eval x=v:=by
 cases x with
 | tmp t =>
  have:=h.holds t v hx
  simp only [Act.eval,Array.getD_eq_getD_getElem?,this,Option.getD_some]
 | const u=>simpa [ev,Act.eval] using hx
 | global g=>simpa [ev,Act.eval] using hx
 | func f=>simpa [ev,Act.eval] using hx
theorem OkA.evals {N:Ctx} {a:Act} {e:Env} (h:OkA N a e):∀ {xs:List Operand} {vs:List Value},evs e xs=some vs→xs.map a.eval=vs
 | [],vs,hx=>by simpa [evs] using hx
 | x :: r,vs,hx=>by
  simp only [evs] at hx
  cases h1:ev e x with
  | none=>rw [h1] at hx;cases hx
  | some v =>
   rw [h1] at hx
   cases h2:evs e r with
   | none=>rw [h2] at hx;cases hx
   | some us =>
    rw [h2] at hx
    cases hx
    simp [h.eval h1,h.evals h2]
theorem OkA.put {N:Ctx} {a:Act} {e:Env} (h:OkA N a e) {d:Nat} (hd:Nat.blt d N.N=true) (v:Value):OkA N (a.put (some d) v) ((d,v)::e):=by
 refine ⟨h.defers,by simp [Act.put,h.size],fun k u hk=>?_⟩
 have hd':d < N.N:=by simpa [Nat.blt_eq] using hd
 simp only [Env.get] at hk
 show (a.tmps.setIfInBounds d v)[k]?=some u
 by_cases hdk:d=k
 ·subst hdk
  simp only [Nat.beq_refl,cond_true,Option.some.injEq] at hk
  subst hk
  rw [Array.getElem?_setIfInBounds,if_pos rfl,if_pos (by rw [h.size];exact hd')]
 ·have:Nat.beq d k=false:=by
   cases hb:Nat.beq d k with
   | false=>rfl
   | true=>exact absurd (Nat.eq_of_beq_eq_true hb) hdk
  rw [this] at hk
  simp only [cond_false] at hk
  rw [Array.getElem?_setIfInBounds,if_neg hdk]
  exact h.holds k u hk
def Sub (e:Env):Env→Prop
 | []=>True
 | (k,v)::r=>e.get k=some v∧Sub e r
theorem Sub.get {e:Env}:∀ {e':Env},Sub e e'→∀ k v,e'.get k=some v→e.get k=some v
 | [],_,k,v,h=>by cases h
 | (i,u)::r,hs,k,v,h=>by
  simp only [Env.get] at h
  cases hb:Nat.beq i k with
  | true=>rw [hb] at h;simp only [cond_true,Option.some.injEq] at h;subst h;rw [← Nat.eq_of_beq_eq_true hb];exact hs.1
  | false=>rw [hb] at h;exact Sub.get hs.2 k v h
theorem OkA.sub {N:Ctx} {a:Act} {e e':Env} (h:OkA N a e) (hs:Sub e e'):OkA N a e':=⟨h.defers,h.size,fun k v hk=>h.holds k v (hs.get k v hk)⟩

/-! ### Judgements -/
section
variable {P:Program} {N:Ctx} {w0:World}
def Tri (P:Program) (N:Ctx) (w0:World) (c:Code) (e:Env) (As:List Ent) (Q:Exit→Act→World→Prop):Prop :=
 ∀ a w,OkA N a e→St w0 w As→Code.wpIn (fen N.ro) 0 P c Q a w
def Post (N:Ctx) (w0:World) (Q:Exit→Act→World→Prop) (x:Exit) (e:Env) (As:List Ent):Prop :=
 ∀ a w,OkA N a e→St w0 w As→Q x a w
def TL (P:Program) (N:Ctx) (w0:World) (ops:Array Oper) (l:List Oper) (e:Env) (As:List Ent) (Q:Exit→Act→World→Prop):Prop :=
 ∀ i,ops.toList.drop i=l→∀ a w,OkA N a e→St w0 w As→wpOpsIn (fen N.ro) 0 P ops Q (List.range' i l.length) a w
variable {c c1 c2:Code} {e e':Env} {As As' Bs:List Ent} {Q:Exit→Act→World→Prop} {x:Exit}

theorem Tri.ents (h:Ents As Bs) (k:Tri P N w0 c e Bs Q):Tri P N w0 c e As Q:=fun a w ha hs=>k a w ha (h w0 w hs)
theorem Zrn [h:Cov As Bs] (he:Sub e e') (k:Tri P N w0 c e' Bs Q):Tri P N w0 c e As Q:=fun a w ha hs=>k a w (ha.sub he) (Zgl h w0 w hs)
theorem TL.ents {ops:Array Oper} {l:List Oper} (h:Ents As Bs) (k:TL P N w0 ops l e Bs Q):TL P N w0 ops l e As Q:=fun i hi a w ha hs=>k i hi a w ha (h w0 w hs)
theorem Post.ents (h:Ents As Bs) (k:Post N w0 Q x e Bs):Post N w0 Q x e As:=fun a w ha hs=>k a w ha (h w0 w hs)

theorem Tri.seq (h:Tri P N w0 c1 e As (Exit.then (c2.wpIn (fen N.ro) 0 P Q) Q)):Tri P N w0 (.seq c1 c2) e As Q:=fun a w ha hs=>wpIn_seq (h a w ha hs)
theorem Tri.skip (h:Post N w0 Q .normal e As):Tri P N w0 .skip e As Q:=fun a w ha hs=>wpIn_skip (h a w ha hs)
theorem Tri.ret (h:Post N w0 Q .ret e As):Tri P N w0 .ret e As Q:=fun a w ha hs=>wpIn_ret (h a w ha hs)
theorem Tri.exit {id:Nat} (h:Post N w0 Q (.exit id) e As):Tri P N w0 (.exit id) e As Q:=fun a w ha hs=>wpIn_exit (h a w ha hs)
theorem Tri.block {id:Nat} (h:Tri P N w0 c e As (Exit.inBlock id Q)):Tri P N w0 (.block id c) e As Q:=fun a w ha hs=>wpIn_block (h a w ha hs)
theorem Zgg {x:Operand} {b:Bool} (hx:ev e x=some (.bool b)) (hb:b=true) (h:Tri P N w0 c1 e As Q):Tri P N w0 (.cond x c1 c2) e As Q :=
 fun a w ha hs=>wpIn_cond_true (by rw [ha.eval hx,hb]) (h a w ha hs)
theorem Zfj {x:Operand} {b:Bool} (hx:ev e x=some (.bool b)) (hb:b=false) (h:Tri P N w0 c2 e As Q):Tri P N w0 (.cond x c1 c2) e As Q :=
 fun a w ha hs=>wpIn_cond_false (by rw [ha.eval hx,hb]) (h a w ha hs)
theorem Tri.cond {x:Operand} {b:Bool} (hx:ev e x=some (.bool b)) (h1:b=true→Tri P N w0 c1 e As Q) (h2:b=false→Tri P N w0 c2 e As Q):Tri P N w0 (.cond x c1 c2) e As Q :=
 fun a w ha hs=>wpIn_cond_split (ha.eval hx) (fun ht=>h1 ht a w ha hs) (fun hf=>h2 hf a w ha hs)
theorem Tri.region {id:Nat} {ops:Array Oper} (h:TL P N w0 ops ops.toList e As Q):Tri P N w0 (.region id ops false) e As Q :=
 fun a w ha hs=>wpIn_region (by rw [List.range_eq_range'];exact h 0 rfl a w ha hs)

/-! exits -/
theorem Zgo (h:Tri P N w0 c e As Q):Post N w0 (Exit.then (c.wpIn (fen N.ro) 0 P Q) Q) .normal e As:=h
theorem Zrs {K:Act→World→Prop} (h:Post N w0 Q .ret e As):Post N w0 (Exit.then K Q) .ret e As:=h
theorem Zn6 {K:Act→World→Prop} {id:Nat} (h:Post N w0 Q (.exit id) e As):Post N w0 (Exit.then K Q) (.exit id) e As:=h
theorem Znq {id:Nat} (h:Post N w0 Q .normal e As):Post N w0 (Exit.inBlock id Q) (.exit id) e As:=fun a w ha hs=>by
 show (if id=id then Q .normal a w else Q (.exit id) a w)
 rw [if_pos rfl];exact h a w ha hs
theorem Zk7 {id id':Nat} (hn:Nat.beq id' id=false) (h:Post N w0 Q (.exit id') e As):Post N w0 (Exit.inBlock id Q) (.exit id') e As:=fun a w ha hs=>by
 have hne:id'≠id:=fun he=>by subst he;simp at hn
 show (if id'=id then Q .normal a w else Q (.exit id') a w)
 rw [if_neg hne];exact h a w ha hs
theorem Zki {id:Nat} (h:Post N w0 Q .normal e As):Post N w0 (Exit.inBlock id Q) .normal e As:=h
theorem Zn8 {id:Nat} (h:Post N w0 Q .ret e As):Post N w0 (Exit.inBlock id Q) .ret e As:=h

/-! a loop: E, A give the environment and the entries at the head of a round, out of a ghost x -/
def LoopQ {ι:Type} (N:Ctx) (w0:World) (Inv:ι→Prop) (μ:ι→Nat) (E:ι→Env) (A:ι→List Ent) (m:Nat) (a:Act) (w:World):Prop :=
 ∃ y,Inv y∧μ y < m∧OkA N a (E y)∧St w0 w (A y)
theorem Tri.loop {ι:Type} (Inv:ι→Prop) (μ:ι→Nat) (E:ι→Env) (A:ι→List Ent) (x0:ι) (h0:Inv x0) (he:Sub e (E x0)) (hA:Ents As (A x0))
  (round:∀ y,Inv y→Tri P N w0 c (E y) (A y) (Exit.then (LoopQ N w0 Inv μ E A (μ y)) Q)):Tri P N w0 (.loop c) e As Q:=by
 intro a w ha hs
 have key:∀ n y a w,μ y=n→Inv y→OkA N a (E y)→St w0 w (A y)→Code.wpIn (fen N.ro) 0 P (.loop c) Q a w:=by
  intro n y a w hn hI ha hs
  refine wpIn_loop (fun a w=>∃ y,Inv y∧OkA N a (E y)∧St w0 w (A y)) (fun a w=>(Classical.epsilon fun (m:Nat)=>(∃ y,Inv y∧OkA N a (E y)∧St w0 w (A y)∧μ y=m)∧∀ y,Inv y→OkA N a (E y)→St w0 w (A y)→m≤μ y)) ⟨y,hI,ha,hs⟩ ?_
  intro a w hI
  have hne:∃ m:Nat,(∃ y,Inv y∧OkA N a (E y)∧St w0 w (A y)∧μ y=m)∧∀ y,Inv y→OkA N a (E y)→St w0 w (A y)→m≤μ y:=by
   obtain ⟨y,h1,h2,h3⟩:=hI
   have:∀ n y,μ y=n→Inv y→OkA N a (E y)→St w0 w (A y)→∃ m:Nat,(∃ y,Inv y∧OkA N a (E y)∧St w0 w (A y)∧μ y=m)∧∀ y,Inv y→OkA N a (E y)→St w0 w (A y)→m≤μ y:=by
    intro n
    induction n using Nat.strongRecOn with
    | _ n ih =>
     intro y hn h1 h2 h3
     by_cases hb:∃ z,Inv z∧OkA N a (E z)∧St w0 w (A z)∧μ z < n
     ·obtain ⟨z,z1,z2,z3,z4⟩:=hb
      exact ih (μ z) z4 z rfl z1 z2 z3
     ·refine ⟨n,⟨y,h1,h2,h3,hn⟩,fun z z1 z2 z3=>?_⟩
      rcases Nat.lt_or_ge (μ z) n with hl|hl
      ·exact absurd ⟨z,z1,z2,z3,hl⟩ hb
      ·exact hl
   exact this _ y rfl h1 h2 h3
  obtain ⟨⟨y,h1,h2,h3,h4⟩,hmin⟩:=Classical.epsilon_spec hne
  refine wpIn_mono (round y h1 a w h2 h3) ?_
  intro ex a' w' hq
  cases ex with
  | normal =>
   obtain ⟨z,z1,z2,z3,z4⟩:=hq
   refine ⟨⟨z,z1,z3,z4⟩,?_⟩
   have hne':∃ m:Nat,(∃ y,Inv y∧OkA N a' (E y)∧St w0 w' (A y)∧μ y=m)∧∀ y,Inv y→OkA N a' (E y)→St w0 w' (A y)→m≤μ y:=by
    have:∀ n y,μ y=n→Inv y→OkA N a' (E y)→St w0 w' (A y)→∃ m:Nat,(∃ y,Inv y∧OkA N a' (E y)∧St w0 w' (A y)∧μ y=m)∧∀ y,Inv y→OkA N a' (E y)→St w0 w' (A y)→m≤μ y:=by
     intro n
     induction n using Nat.strongRecOn with
     | _ n ih =>
      intro y hn h1 h2 h3
      by_cases hb:∃ z,Inv z∧OkA N a' (E z)∧St w0 w' (A z)∧μ z < n
      ·obtain ⟨z,z1,z2,z3,z4⟩:=hb
       exact ih (μ z) z4 z rfl z1 z2 z3
      ·refine ⟨n,⟨y,h1,h2,h3,hn⟩,fun z z1 z2 z3=>?_⟩
       rcases Nat.lt_or_ge (μ z) n with hl|hl
       ·exact absurd ⟨z,z1,z2,z3,hl⟩ hb
       ·exact hl
    exact this _ z rfl z1 z3 z4
   have:=(Classical.epsilon_spec hne').2 z z1 z3 z4
   show Classical.epsilon _ < Classical.epsilon _
   omega
  | exit id=>exact hq
  | goto l=>exact hq
  | ret=>exact hq
  | panic ch=>exact hq
  | outgrown=>exact hq
 exact key _ x0 a w rfl h0 (ha.sub he) (hA w0 w hs)
theorem Post.round {ι:Type} {Inv:ι→Prop} {μ:ι→Nat} {E:ι→Env} {A:ι→List Ent} {m:Nat} (y:ι) (hI:Inv y) (hm:μ y < m) (he:Sub e (E y)) (hA:Ents As (A y)) :
  Post N w0 (Exit.then (LoopQ N w0 Inv μ E A m) Q) .normal e As:=fun _ w ha hs=>⟨y,hI,hm,ha.sub he,hA w0 w hs⟩

/-! a cut: the state behind a piece of code, said once -/
theorem Tri.cut (R:Env→List Ent→Prop) (h:Tri P N w0 c1 e As (Exit.then (fun a w=>∃ e' As',R e' As'∧OkA N a e'∧St w0 w As') Q)) (k:∀ e' As',R e' As'→Tri P N w0 c2 e' As' Q) :
  Tri P N w0 (.seq c1 c2) e As Q:=fun a w ha hs=>wpIn_seq (wpIn_mono (h a w ha hs) fun ex a' w' hq=>by
 cases ex with
 | normal=>obtain ⟨e',As',hr,h1,h2⟩:=hq;exact k e' As' hr a' w' h1 h2
 | exit id=>exact hq
 | goto l=>exact hq
 | ret=>exact hq
 | panic ch=>exact hq
 | outgrown=>exact hq)
theorem Post.cut {R:Env→List Ent→Prop} (e':Env) (As':List Ent) (hr:R e' As') (he:Sub e e') (hA:Ents As As') :
  Post N w0 (Exit.then (fun a w=>∃ e' As',R e' As'∧OkA N a e'∧St w0 w As') Q) .normal e As:=fun _ w ha hs=>⟨e',As',hr,ha.sub he,hA w0 w hs⟩

theorem Tri.mid (R:Env→List Ent→Prop) (h:Tri P N w0 c e As (Exit.then (fun a w=>∃ e' As',R e' As'∧OkA N a e'∧St w0 w As') Q)) (k:∀ e' As',R e' As'→Post N w0 Q .normal e' As') :
  Tri P N w0 c e As Q:=fun a w ha hs=>wpIn_mono (h a w ha hs) fun ex a' w' hq=>by
 cases ex with
 | normal=>obtain ⟨e',As',hr,h1,h2⟩:=hq;exact k e' As' hr a' w' h1 h2
 | exit id=>exact hq
 | goto l=>exact hq
 | ret=>exact hq
 | panic ch=>exact hq
 | outgrown=>exact hq

/-! ### operations, one by one -/
def gOk (ops:Array Oper) (e:Env):Option (Nat × Bool)→Option Bool
 | none=>some true
 | some (j,want)=>match ops[j]? with
  | some o=>match o.dst with
   | some d=>match e.get d with
    | some (.bool b)=>some (b == want)
    | some (.tuple _)=>some false
    | _=>none
   | none=>none
  | none=>none
theorem gOk.wanted {ops:Array Oper} {o:Oper} {a:Act} {r:Bool} (ha:OkA N a e) (h:gOk ops e o.guard=some r):Region.wanted o (yielded ops a.tmps)=r:=by
 unfold gOk at h
 unfold Region.wanted
 split at h
 ·rename_i hg;rw [hg];simpa using h
 ·rename_i j want hg
  rw [hg]
  show (yielded ops a.tmps j == some want)=r
  split at h
  ·rename_i o' ho'
   split at h
   ·rename_i d hd
    split at h
    ·rename_i b hb
     have:=ha.holds d _ hb
     unfold yielded
     simp only [ho',Option.bind_some,hd,this]
     simpa using h
    ·rename_i b hb
     have:=ha.holds d _ hb
     unfold yielded
     simp only [ho',Option.bind_some,hd,this]
     simpa using h
    ·cases h
   ·cases h
  ·cases h

variable {ops:Array Oper} {o:Oper} {r:List Oper}
theorem TL.nil (h:Post N w0 Q .normal e As):TL P N w0 ops [] e As Q:=fun _ _ a w ha hs=>h a w ha hs
theorem Zg5 {i:Nat} (h:ops.toList.drop i=o::r):ops[i]?=some o∧ops.toList.drop (i+1)=r:=by
 constructor
 ·have:=congrArg (·[0]?) h
  simpa using this
 ·rw [← List.drop_drop,h];rfl
theorem Zbv {ro:Option Nat} {ρ:Operand→Value} {w w':World} {nx:Next} (h:(execOp ρ o).run P w=.ok nx w') (hn:∀ d,nx≠.defer d):o.semAt ro ρ=execOp ρ o:=by
 refine Oper.semAt_eq ro ρ o fun c hc=>?_
 unfold execOp at h
 rw [hc] at h
 simp only [Sem.run_bind] at h
 cases hr:(resolve ρ c o.type).run P w with
 | ok d w1 =>
  rw [hr] at h
  simp only [Result.andThen_ok,Sem.run_pure,Result.ok.injEq] at h
  exact hn d h.1.symm
 | halt x w1=>rw [hr] at h;cases h
theorem Zez (h:∀ a w,OkA N a e→St w0 w As→∀ K:Act→World→Prop,(∀ a' w' e' As',TL P N w0 ops r e' As' Q→OkA N a' e'→St w0 w' As'→K a' w') →
   if Region.wanted o (yielded ops a.tmps) then o.uponIn (fen N.ro) 0 P a K Q ((o.semAt N.ro a.eval).run P w) else K (a.put o.dst undef) w):TL P N w0 ops (o::r) e As Q:=by
 intro i hi a w ha hs
 obtain ⟨ho,hr⟩:=Zg5 hi
 rw [List.length_cons,List.range'_succ]
 simp only [wpOpsIn,ho]
 have:=h a w ha hs _ fun a' w' e' As' ht ha' hs'=>ht (i+1) hr a' w' ha' hs'
 split
 ·rename_i hw
  rw [if_pos hw] at this
  exact ⟨fun _ _=>trivial,this⟩
 ·rename_i hw
  rw [if_neg hw] at this
  exact ⟨fun _ _=>trivial,this⟩
theorem Z4z {d:Nat} (R:Value→List Ent→Prop) (hg:gOk ops e o.guard=some true) (hd:o.dst=some d) (hN:Nat.blt d N.N=true)
  (hx:∀ a w,OkA N a e→St w0 w As→∃ v w' As',(execOp a.eval o).run P w=.ok (.value v) w'∧R v As'∧St w0 w' As')
  (h:∀ v As',R v As'→TL P N w0 ops r ((d,v)::e) As' Q):TL P N w0 ops (o::r) e As Q:=by
 refine Zez fun a w ha hs K hK=>?_
 rw [gOk.wanted ha hg,if_pos rfl]
 obtain ⟨v,w',As',hrun,hr,hs'⟩:=hx a w ha hs
 rw [Zbv hrun (by intro d;simp),hrun,Oper.uponIn_value,hd]
 exact hK _ _ _ _ (h v As' hr) (ha.put hN v) hs'
theorem TL.val {d:Nat} {v:Value} (hg:gOk ops e o.guard=some true) (hd:o.dst=some d) (hN:Nat.blt d N.N=true)
  (hx:∀ a w,OkA N a e→St w0 w As→∃ w',(execOp a.eval o).run P w=.ok (.value v) w'∧St w0 w' As')
  (h:TL P N w0 ops r ((d,v)::e) As' Q):TL P N w0 ops (o::r) e As Q :=
 Z4z (fun u Bs=>u=v∧Bs=As') hg hd hN (fun a w ha hs=>let ⟨w',h1,h2⟩:=hx a w ha hs;⟨v,w',As',h1,⟨rfl,rfl⟩,h2⟩) (fun u Bs ⟨h1,h2⟩=>by subst h1;subst h2;exact h)
theorem Yb1 (hg:gOk ops e o.guard=some true) (hd:o.dst=none)
  (hx:∀ a w,OkA N a e→St w0 w As→∃ w',(execOp a.eval o).run P w=.ok .skip w'∧St w0 w' As')
  (h:TL P N w0 ops r e As' Q):TL P N w0 ops (o::r) e As Q:=by
 refine Zez fun a w ha hs K hK=>?_
 rw [gOk.wanted ha hg,if_pos rfl]
 obtain ⟨w',hrun,hs'⟩:=hx a w ha hs
 rw [Zbv hrun (by intro d;simp),hrun]
 show K (a.put o.dst undef) w'
 rw [hd]
 exact hK _ _ _ _ h ha hs'
theorem TL.off {d:Nat} (hg:gOk ops e o.guard=some false) (hd:o.dst=some d) (hN:Nat.blt d N.N=true) (h:TL P N w0 ops r ((d,undef)::e) As Q):TL P N w0 ops (o::r) e As Q:=by
 refine Zez fun a w ha hs K hK=>?_
 rw [gOk.wanted ha hg,if_neg (by decide),hd]
 exact hK _ _ _ _ h (ha.put hN undef) hs
theorem Yb2 (hg:gOk ops e o.guard=some false) (hd:o.dst=none) (h:TL P N w0 ops r e As Q):TL P N w0 ops (o::r) e As Q:=by
 refine Zez fun a w ha hs K hK=>?_
 rw [gOk.wanted ha hg,if_neg (by decide),hd]
 exact hK _ _ _ _ h ha hs

def gslot (ops:Array Oper):Option (Nat × Bool)→Option Nat
 | some (j,_)=>match ops[j]? with
  | some o=>o.dst
  | none=>none
 | none=>none
theorem OkA.know {a:Act} {d:Nat} {b c:Bool} (h:OkA N a e) (he:e.get d=some (.bool b)) (hb:b=c):OkA N a ((d,.bool c)::e):=by
 subst hb
 refine ⟨h.defers,h.size,fun k v hk=>?_⟩
 simp only [Env.get] at hk
 cases hq:Nat.beq d k with
 | true=>rw [hq] at hk;simp only [cond_true,Option.some.injEq] at hk;subst hk;rw [← Nat.eq_of_beq_eq_true hq];exact h.holds d _ he
 | false=>rw [hq] at hk;exact h.holds k v hk
theorem TL.know {d:Nat} {b c:Bool} {l:List Oper} (he:e.get d=some (.bool b)) (hb:b=c) (h:TL P N w0 ops l ((d,.bool c)::e) As Q):TL P N w0 ops l e As Q :=
 fun i hi a w ha hs=>h i hi a w (ha.know he hb) hs
theorem Zbg {d:Nat} {p:Prop} [Decidable p] (_hd:gslot ops o.guard=some d) (he:e.get d=some (.bool (decide p))) (h1:p→TL P N w0 ops (o::r) ((d,.bool true)::e) As Q) (h0:¬ p→TL P N w0 ops (o::r) ((d,.bool false)::e) As Q):TL P N w0 ops (o::r) e As Q:=by
 by_cases h:p
 ·exact TL.know he (decide_eq_true h) (h1 h)
 ·exact TL.know he (decide_eq_false h) (h0 h)
theorem Za7 {d:Nat} {p:Prop} [Decidable p] (_hd:gslot ops o.guard=some d) (he:e.get d=some (.bool !(decide p))) (h1:¬ p→TL P N w0 ops (o::r) ((d,.bool true)::e) As Q) (h0:p→TL P N w0 ops (o::r) ((d,.bool false)::e) As Q):TL P N w0 ops (o::r) e As Q:=by
 by_cases h:p
 ·exact TL.know he (by simp [h]) (h0 h)
 ·exact TL.know he (by simp [h]) (h1 h)
theorem Yey {d:Nat} {p:Prop} [Decidable p] (_hd:gslot ops o.guard=some d) (he:e.get d=some (.bool (decide p))) (h:p) (k:TL P N w0 ops (o::r) ((d,.bool true)::e) As Q):TL P N w0 ops (o::r) e As Q:=TL.know he (decide_eq_true h) k
theorem Ye0 {d:Nat} {p:Prop} [Decidable p] (_hd:gslot ops o.guard=some d) (he:e.get d=some (.bool (decide p))) (h:¬ p) (k:TL P N w0 ops (o::r) ((d,.bool false)::e) As Q):TL P N w0 ops (o::r) e As Q:=TL.know he (decide_eq_false h) k
theorem Z9l {d:Nat} {p:Prop} [Decidable p] (_hd:gslot ops o.guard=some d) (he:e.get d=some (.bool !(decide p))) (h:¬ p) (k:TL P N w0 ops (o::r) ((d,.bool true)::e) As Q):TL P N w0 ops (o::r) e As Q:=TL.know he (by simp [h]) k
theorem Z9m {d:Nat} {p:Prop} [Decidable p] (_hd:gslot ops o.guard=some d) (he:e.get d=some (.bool !(decide p))) (h:p) (k:TL P N w0 ops (o::r) ((d,.bool false)::e) As Q):TL P N w0 ops (o::r) e As Q:=TL.know he (by simp [h]) k

/-! ### Calls -/
def CallsS (P:Program) (w0:World) (f:FuncId) (args:List Value) (As:List Ent) (K:Value→List Ent→Prop):Prop :=
 ∀ w,St w0 w As→Calls P f args.toArray w fun en w'=>∃ v As',en=.returned v∧K v As'∧St w0 w' As'
theorem CallsS.mono {f:FuncId} {args:List Value} {K K':Value→List Ent→Prop} (h:CallsS P w0 f args As K) (k:∀ v As',K v As'→K' v As'):CallsS P w0 f args As K' :=
 fun w hs=>(h w hs).mono fun _ _ ⟨v,As',h1,h2,h3⟩=>⟨v,As',h1,k v As' h2,h3⟩
theorem CallsS.ents {f:FuncId} {args:List Value} {K:Value→List Ent→Prop} (h:Ents As Bs) (k:CallsS P w0 f args Bs K):CallsS P w0 f args As K:=fun w hs=>k w (h w0 w hs)
class Body (P:Program) (f:FuncId):Prop where
 run:∀ (args:Array Value) (w:World),(callFunc f args).run P w=.ok (.enter f args) w
theorem TL.callK {d:Nat} {f:FuncId} {args:List Value} (K:Value→List Ent→Prop) (hg:gOk ops e o.guard=some true) (hd:o.dst=some d) (hN:Nat.blt d N.N=true)
  (hx:∀ a w,OkA N a e→(execOp a.eval o).run P w=.ok (.enter f args.toArray) w) (hc:CallsS P w0 f args As K)
  (h:∀ v As',K v As'→TL P N w0 ops r ((d,v)::e) As' Q):TL P N w0 ops (o::r) e As Q:=by
 refine Zez fun a w ha hs K' hK=>?_
 rw [gOk.wanted ha hg,if_pos rfl]
 rw [Zbv (hx a w ha) (by intro d;simp),hx a w ha]
 refine ⟨fun h=>(by cases h),Zew ((hc w hs).mono fun en w' ⟨v,As',h1,h2,h3⟩=>?_)⟩
 subst h1
 simp only [hd]
 exact hK _ _ _ _ (h v As' h2) (ha.put hN v) h3
theorem Zfu {f:FuncId} {xs:Array Operand} {vs:List Value} {tys:Array TypeId} {d:Option Tmp} {ty:TypeId} {pos:String} {af:Array Edge} {g:Option (Nat × Bool)} [hb:Body P f] (hxs:evs e xs.toList=some vs) (a:Act) (w:World) (ha:OkA N a e) :
  (execOp a.eval { dst:=d,op:=.call { callee:=.value (.func f),args:=xs,argTypes:=tys },type:=ty,pos:=pos,after:=af,guard:=g }).run P w=.ok (.enter f vs.toArray) w:=by
 have h1:xs.map a.eval=vs.toArray:=by
  apply Array.toList_inj.1
  rw [Array.toList_map,ha.evals hxs]
 simp only [execOp,resolve,Deferred.ofValue,Act.eval]
 simp only [Sem.run_bind,Sem.run_pure,Result.andThen_ok,invoke]
 simp [h1,hb.run]
theorem TL.call {d:Nat} {f:FuncId} {xs:Array Operand} {vs:List Value} {tys:Array TypeId} {ty:TypeId} {pos:String} {af:Array Edge} {g:Option (Nat × Bool)} {K:Value→List Ent→Prop}
  [Body P f] (hg:gOk ops e g=some true) (hN:Nat.blt d N.N=true) (hxs:evs e xs.toList=some vs) (hc:CallsS P w0 f vs As K)
  (h:∀ v As',K v As'→TL P N w0 ops r ((d,v)::e) As' Q) :
  TL P N w0 ops ({ dst:=some d,op:=.call { callee:=.value (.func f),args:=xs,argTypes:=tys },type:=ty,pos:=pos,after:=af,guard:=g }::r) e As Q :=
 TL.callK K hg rfl hN (fun a w ha=>Zfu hxs a w ha) hc h
/-! ### a function -/
def env0:Nat→List Value→Env
 | _,[]=>[]
 | i,v::vs=>(i,v)::env0 (i+1) vs
theorem Zq2:∀ (vs:List Value) (i k:Nat) (v:Value),(env0 i vs).get k=some v→i≤k∧vs[k - i]?=some v
 | [],_,_,_,h=>by cases h
 | u :: vs,i,k,v,h=>by
  simp only [env0,Env.get] at h
  cases hb:Nat.beq i k with
  | true=>rw [hb] at h;simp only [cond_true,Option.some.injEq] at h;have:=Nat.eq_of_beq_eq_true hb;subst this;subst h;simp
  | false =>
   rw [hb] at h
   obtain ⟨h1,h2⟩:=Zq2 vs (i+1) k v h
   refine ⟨by omega,?_⟩
   rw [show k - i=(k - (i+1))+1 from by omega,List.getElem?_cons_succ]
   exact h2
def FQ (P:Program) (w0:World) (fn:Func) (K:Value→List Ent→Prop):Exit→Act→World→Prop
 | .panic _,_,_=>False
 | .outgrown,_,_=>False
 | ex,a,w=>bodyPostM (fen none) 0 P fn (fun en w'=>∃ v As',en=.returned v∧K v As'∧St w0 w' As') ex a w
theorem Zab {n:Nat} {f:FuncId} {fn:Func} {c:Code} {args:List Value} {K:Value→List Ent→Prop} (hf:P.funcs[f]?=some fn) (hb:fn.body=some c) (hN:fn.ntmps=n) (hle:Nat.ble args.length n=true)
  (h:Tri P ⟨n,none,[]⟩ w0 c (env0 0 args) As (FQ P w0 fn K)):CallsS P w0 f args As K:=by
 intro w hs
 refine callsIn_wide.1 (callsIn_of_wp_marks (F:=fen none) (n:=0) hf hb trivial (wpIn_mono (h _ w ⟨rfl,?_,?_⟩ hs) ?_) rfl)
 ·have:=Nat.le_of_ble_eq_true hle
  simp [hN];omega
 ·intro k v hk
  obtain ⟨_,h2⟩:=Zq2 args 0 k v hk
  simp only [Nat.sub_zero] at h2
  have hl:k < args.length:=(List.getElem?_eq_some_iff.1 h2).1
  rw [Array.getElem?_append_left (by simpa using hl)]
  simpa using h2
 ·intro ex a w hq
  cases ex<;>first|exact hq|exact False.elim hq
theorem Zdf {fn:Func} {K:Value→List Ent→Prop} (h:Post N w0 (FQ P w0 fn K) .ret e As):Post N w0 (FQ P w0 fn K) .normal e As:=h
theorem Zlr {fn:Func} {K:Value→List Ent→Prop} {v:Value} (hds:N.ds=[]) (hr:∀ a w,OkA N a e→St w0 w As→(results fn a.tmps).run P w=.ok v w) (hk:∃ As',K v As'∧Ents As As'):Post N w0 (FQ P w0 fn K) .ret e As:=by
 intro a w ha hs
 obtain ⟨As',hk,hA⟩:=hk
 show LeavesInM (fen none) 0 P fn a.tmps _ a.defers .returning w
 rw [ha.defers,hds]
 exact ⟨v,hr a w ha hs,v,As',rfl,hk,hA w0 w hs⟩
theorem Ycy {c:Code} (n:Nat) (h:∀ a w,OkA N a e→St w0 w As→Code.roundsIn (fen N.ro) 0 P c Q n a w):Tri P N w0 (.loop c) e As Q:=fun a w ha hs=>wpIn_loop_rounds n (h a w ha hs)
def Rnds (P:Program) (N:Ctx) (w0:World) (c:Code) (n:Nat) (e:Env) (As:List Ent) (Q:Exit→Act→World→Prop):Prop:=∀ a w,OkA N a e→St w0 w As→Code.roundsIn (fen N.ro) 0 P c Q n a w
theorem Zao {c:Code} (n:Nat) (h:Rnds P N w0 c n e As Q):Tri P N w0 (.loop c) e As Q:=fun a w ha hs=>wpIn_loop_rounds n (h a w ha hs)
theorem Rnds.next {c:Code} {n:Nat} (h:Tri P N w0 c e As (Exit.then (Code.roundsIn (fen N.ro) 0 P c Q n) Q)):Rnds P N w0 c (n+1) e As Q:=h
theorem Post.next {c:Code} {n:Nat} (h:Rnds P N w0 c n e As Q):Post N w0 (Exit.then (Code.roundsIn (fen N.ro) 0 P c Q n) Q) .normal e As:=h


theorem Tri.mk {c:Code} (h:∀ a w,OkA N a e→St w0 w As→Code.wpIn (fen N.ro) 0 P c Q a w):Tri P N w0 c e As Q:=h
theorem Tri.out {c:Code} (h:Tri P N w0 c e As Q):∀ a w,OkA N a e→St w0 w As→Code.wpIn (fen N.ro) 0 P c Q a w:=h
theorem Post.mk (h:∀ a w,OkA N a e→St w0 w As→Q x a w):Post N w0 Q x e As:=h
theorem Post.out (h:Post N w0 Q x e As):∀ a w,OkA N a e→St w0 w As→Q x a w:=h
theorem TL.mk {ops:Array Oper} {l:List Oper} (h:∀ i,ops.toList.drop i=l→∀ a w,OkA N a e→St w0 w As→wpOpsIn (fen N.ro) 0 P ops Q (List.range' i l.length) a w):TL P N w0 ops l e As Q:=h
theorem TL.out {ops:Array Oper} {l:List Oper} (h:TL P N w0 ops l e As Q):∀ i,ops.toList.drop i=l→∀ a w,OkA N a e→St w0 w As→wpOpsIn (fen N.ro) 0 P ops Q (List.range' i l.length) a w:=h
theorem CallsS.mk {f:FuncId} {args:List Value} {K:Value→List Ent→Prop} (h:∀ w,St w0 w As→Calls P f args.toArray w fun en w'=>∃ v As',en=.returned v∧K v As'∧St w0 w' As'):CallsS P w0 f args As K:=h
theorem CallsS.out {f:FuncId} {args:List Value} {K:Value→List Ent→Prop} (h:CallsS P w0 f args As K):∀ w,St w0 w As→Calls P f args.toArray w fun en w'=>∃ v As',en=.returned v∧K v As'∧St w0 w' As':=h
end
attribute [irreducible] TL Tri Post CallsS Rnds
end Go.Sx
namespace Go.Sx
open Go

/-! ### the tables of the program -/
class UL (P:Program) (t:TypeId) (d:outParam TypeDesc):Prop where
 h:P.underlying t=some d
class TI (P:Program) (t:TypeId) (z:outParam Value) (n b:outParam Nat):Prop where
 h:(P.info? t).map (fun i=>(i.zero,i.size,i.bytes))=some (some z,n,b)
class FO (P:Program) (s:TypeId) (f:Nat) (k n:outParam Nat):Prop where
 h:∃ fields fld,P.underlying s=some (.struct fields)∧fields[f]?=some fld∧fld.offset=k∧(∃ i,P.info? fld.type=some i∧i.size=n)∧n≠0
def aggB:TypeDesc→Bool
 | .struct _|.array _ _=>true
 | _=>false
section
variable {P:Program} {N:Ctx} {w0:World} {w:World}
theorem TI.info {t:TypeId} {z:Value} {n b:Nat} (h:TI P t z n b):∃ i,P.info? t=some i∧i.zero=some z∧i.size=n∧i.bytes=b:=by
 have:=h.h
 cases hq:P.info? t with
 | none=>rw [hq] at this;cases this
 | some i=>rw [hq] at this;simp at this;exact ⟨i,rfl,this.1,this.2.1,this.2.2⟩
theorem Zar {t:TypeId} {d:TypeDesc} [h:UL P t d]:(underlying t).run P w=.ok d w:=run_underlying h.h w
theorem Zd5 {t:TypeId} {d:TypeDesc} [h:UL P t d]:(isAgg t).run P w=.ok (aggB d) w:=by
 unfold isAgg
 simp only [Sem.run_bind,Zar,Result.andThen_ok]
 cases d<;>rfl
theorem Za9 {t:TypeId} {z:Value} {n b:Nat} [h:TI P t z n b]:(sizeOf t).run P w=.ok n w:=by
 obtain ⟨i,h1,_,h2,_⟩:=h.info
 simp [sizeOf,typeInfo,h1,h2]
theorem Zlb {t:TypeId} {z:Value} {n b:Nat} [h:TI P t z n b]:(zeroValue t).run P w=.ok z w:=by
 obtain ⟨i,h1,h2,_,_⟩:=h.info
 simp [zeroValue,typeInfo,h1,h2]
end

theorem Body.mk' {P : Program} {f : FuncId} {fn : Func} (hf : P.funcs[f]? = some fn) (h1 : (fn.name == "runtime.NumGoroutine") = false) (h2 : fn.body.isNone = false) : Body P f := ⟨fun args w => by
 simp only [callFunc,Sem.run_bind,run_program,Result.andThen_ok,hf,h1,h2]
 rfl⟩

/-! ### judgements on one operation -/
section
variable {P:Program} {N:Ctx} {w0:World} {e:Env} {As As' rest:List Ent} {Q:Exit→Act→World→Prop} {ty:TypeId}
def ExF (P:Program) (N:Ctx) (w0:World) (op:Op) (ty:TypeId) (e:Env) (As:List Ent) (v:Value):Prop :=
 ∀ a w,OkA N a e→St w0 w As→∀ d pos af g,(execOp a.eval ⟨d,op,ty,pos,af,g⟩).run P w=.ok (.value v) w
def ExU (P:Program) (N:Ctx) (w0:World) (op:Op) (ty:TypeId) (e:Env) (As As':List Ent):Prop :=
 ∀ a w,OkA N a e→St w0 w As→∀ d pos af g,∃ w',(execOp a.eval ⟨d,op,ty,pos,af,g⟩).run P w=.ok .skip w'∧St w0 w' As'
def ExR (P:Program) (N:Ctx) (w0:World) (op:Op) (ty:TypeId) (e:Env) (As:List Ent) (R:Value→List Ent→Prop):Prop :=
 ∀ a w,OkA N a e→St w0 w As→∀ d pos af g,∃ v w' As',(execOp a.eval ⟨d,op,ty,pos,af,g⟩).run P w=.ok (.value v) w'∧R v As'∧St w0 w' As'
variable {ops:Array Oper} {r:List Oper} {op:Op} {pos:String} {af:Array Edge} {g:Option (Nat × Bool)} {d:Nat} {v:Value}
theorem TL.f (hg:gOk ops e g=some true) (hN:Nat.blt d N.N=true) (hx:ExF P N w0 op ty e As v) (h:TL P N w0 ops r ((d,v)::e) As Q):TL P N w0 ops (⟨some d,op,ty,pos,af,g⟩::r) e As Q :=
 TL.val hg rfl hN (fun a w ha hs=>⟨w,hx a w ha hs _ _ _ _,hs⟩) h
theorem TL.u (hg:gOk ops e g=some true) (hx:ExU P N w0 op ty e As As') (h:TL P N w0 ops r e As' Q):TL P N w0 ops (⟨none,op,ty,pos,af,g⟩::r) e As Q :=
 Yb1 hg rfl (fun a w ha hs=>hx a w ha hs _ _ _ _) h
theorem Zrq {R:Value→List Ent→Prop} (hg:gOk ops e g=some true) (hN:Nat.blt d N.N=true) (hx:ExR P N w0 op ty e As R) (h:∀ v As',R v As'→TL P N w0 ops r ((d,v)::e) As' Q):TL P N w0 ops (⟨some d,op,ty,pos,af,g⟩::r) e As Q :=
 Z4z R hg rfl hN (fun a w ha hs=>hx a w ha hs _ _ _ _) h
def RB (f:Nat→Value) (A:Nat→List Ent) (v:Value) (As':List Ent):Prop:=∃ b,v=f b∧As'=A b
theorem TL.rb {f:Nat→Value} {A:Nat→List Ent} (hg:gOk ops e g=some true) (hN:Nat.blt d N.N=true) (hx:ExR P N w0 op ty e As (RB f A)) (h:∀ b,TL P N w0 ops r ((d,f b)::e) (A b) Q):TL P N w0 ops (⟨some d,op,ty,pos,af,g⟩::r) e As Q :=
 Zrq hg hN hx (fun _ _ ⟨b,h1,h2⟩=>by subst h1;subst h2;exact h b)
theorem Z41 (hg:gOk ops e g=some false) (hN:Nat.blt d N.N=true) (h:TL P N w0 ops r ((d,undef)::e) As Q):TL P N w0 ops (⟨some d,op,ty,pos,af,g⟩::r) e As Q:=TL.off hg rfl hN h
theorem Zys (hg:gOk ops e g=some false) (h:TL P N w0 ops r e As Q):TL P N w0 ops (⟨none,op,ty,pos,af,g⟩::r) e As Q:=Yb2 hg rfl h
/-! ### only values -/
variable {x y z:Operand} {u:Value}
theorem ExF.move (hx:ev e x=some v):ExF P N w0 (.move x) ty e As v:=fun a w ha _ d pos af g=>by simp only [execOp,ha.eval hx];rfl
theorem ExF.assign (hx:ev e x=some v):ExF P N w0 (.assign x) ty e As v:=fun a w ha _ d pos af g=>by simp only [execOp,ha.eval hx];rfl
theorem Z5m (hx:ev e x=some (.bool true)) (hy:ev e y=some v):ExF P N w0 (.pick x y z) ty e As v:=fun a w ha _ d pos af g=>by
 simp [execOp,ha.eval hx,ha.eval hy,asBool]
theorem Z5n (hx:ev e x=some (.bool false)) (hy:ev e z=some v):ExF P N w0 (.pick x y z) ty e As v:=fun a w ha _ d pos af g=>by
 simp [execOp,ha.eval hx,ha.eval hy,asBool]
theorem Z5k {p:Prop} [Decidable p] (hx:ev e x=some (.bool (decide p))) (h:p) (hy:ev e y=some v):ExF P N w0 (.pick x y z) ty e As v:=fun a w ha _ d pos af g=>by
 simp [execOp,ha.eval hx,ha.eval hy,asBool,h]
theorem Z5l {p:Prop} [Decidable p] (hx:ev e x=some (.bool (decide p))) (h:¬ p) (hy:ev e z=some v):ExF P N w0 (.pick x y z) ty e As v:=fun a w ha _ d pos af g=>by
 simp [execOp,ha.eval hx,ha.eval hy,asBool,h]
theorem Z0r {p:Prop} [Decidable p] (hx:ev e x=some (.bool !(decide p))) (h:¬ p) (hy:ev e y=some v):ExF P N w0 (.pick x y z) ty e As v:=fun a w ha _ d pos af g=>by
 simp [execOp,ha.eval hx,ha.eval hy,asBool,h]
theorem Z0s {p:Prop} [Decidable p] (hx:ev e x=some (.bool !(decide p))) (h:p) (hy:ev e z=some v):ExF P N w0 (.pick x y z) ty e As v:=fun a w ha _ d pos af g=>by
 simp [execOp,ha.eval hx,ha.eval hy,asBool,h]
section
variable {k:IntKind} {m n:Int} {t t':TypeId}
theorem ExF.add (hx:ev e x=some (.int k m)) (hy:ev e y=some (.int k n)):ExF P N w0 (.binOp .add t x y t') ty e As (.int k (k.wrap (m+n))):=fun a w ha _ d pos af g=>by
 simp [execOp,ha.eval hx,ha.eval hy,eqGuard,binOp,Op.intArith]
theorem ExF.sub (hx:ev e x=some (.int k m)) (hy:ev e y=some (.int k n)):ExF P N w0 (.binOp .sub t x y t') ty e As (.int k (k.wrap (m - n))):=fun a w ha _ d pos af g=>by
 simp [execOp,ha.eval hx,ha.eval hy,eqGuard,binOp,Op.intArith]
theorem ExF.mul (hx:ev e x=some (.int k m)) (hy:ev e y=some (.int k n)):ExF P N w0 (.binOp .mul t x y t') ty e As (.int k (k.wrap (m * n))):=fun a w ha _ d pos af g=>by
 simp [execOp,ha.eval hx,ha.eval hy,eqGuard,binOp,Op.intArith]
theorem ExF.quo (hx:ev e x=some (.int k m)) (hy:ev e y=some (.int k n)) (h0:n≠0):ExF P N w0 (.binOp .quo t x y t') ty e As (.int k (k.wrap (m.tdiv n))):=fun a w ha _ d pos af g=>by
 simp [execOp,ha.eval hx,ha.eval hy,eqGuard,binOp,Op.intDiv,h0]
theorem ExF.rem (hx:ev e x=some (.int k m)) (hy:ev e y=some (.int k n)) (h0:n≠0):ExF P N w0 (.binOp .rem t x y t') ty e As (.int k (m.tmod n)):=fun a w ha _ d pos af g=>by
 simp [execOp,ha.eval hx,ha.eval hy,eqGuard,binOp,Op.intDiv,h0]
def IR:IntKind→Int→Prop
 | .i64,x=>-9223372036854775808≤x∧x≤9223372036854775807
 | .i32,x=>-2147483648≤x∧x≤2147483647
 | .i16,x=>-32768≤x∧x≤32767
 | .i8,x=>-128≤x∧x≤127
 | .u64,x=>0≤x∧x≤18446744073709551615
 | .u32,x=>0≤x∧x≤4294967295
 | .u16,x=>0≤x∧x≤65535
 | .u8,x=>0≤x∧x≤255
theorem Zbr {x:Int} (h:IR k x):k.wrap x=x:=by
 cases k<;>simp only [IR] at h<;>simp [IntKind.wrap,IntKind.bits,IntKind.signed]<;>omega
theorem IR.wrap {x:Int}:IR k (k.wrap x):=by
 cases k<;>simp only [IR]<;>simp [IntKind.wrap,IntKind.bits,IntKind.signed]<;>omega
theorem Z82 (hx:ev e x=some (.int k m)) (hy:ev e y=some (.int k n)) (h:IR k (m+n)):ExF P N w0 (.binOp .add t x y t') ty e As (.int k (m+n)):=by
 have:=ExF.add (P:=P) (N:=N) (w0:=w0) (As:=As) (ty:=ty) (t:=t) (t':=t') hx hy;rwa [Zbr h] at this
theorem Zyz (hx:ev e x=some (.int k m)) (hy:ev e y=some (.int k n)) (h:IR k (m - n)):ExF P N w0 (.binOp .sub t x y t') ty e As (.int k (m - n)):=by
 have:=ExF.sub (P:=P) (N:=N) (w0:=w0) (As:=As) (ty:=ty) (t:=t) (t':=t') hx hy;rwa [Zbr h] at this
theorem Z8y (hx:ev e x=some (.int k m)) (hy:ev e y=some (.int k n)) (h:IR k (m * n)):ExF P N w0 (.binOp .mul t x y t') ty e As (.int k (m * n)):=by
 have:=ExF.mul (P:=P) (N:=N) (w0:=w0) (As:=As) (ty:=ty) (t:=t) (t':=t') hx hy;rwa [Zbr h] at this
theorem Z8v (hx:ev e x=some (.int k m)) (hy:ev e y=some (.int k n)) (h1:0≤m) (h0:0 < n) (h:IR k m):ExF P N w0 (.binOp .quo t x y t') ty e As (.int k (m / n)):=by
 have:=ExF.quo (P:=P) (N:=N) (w0:=w0) (As:=As) (ty:=ty) (t:=t) (t':=t') hx hy (by omega)
 rw [Int.tdiv_eq_ediv_of_nonneg h1] at this
 rwa [Zbr] at this
 have a1:0≤m / n:=Int.ediv_nonneg h1 (by omega)
 have a2:m / n≤m:=Int.ediv_le_self _ h1
 cases k<;>simp only [IR] at h ⊢<;>omega
theorem Z8u (hx:ev e x=some (.int k m)) (hy:ev e y=some (.int k n)) (h1:0≤m) (h0:0 < n):ExF P N w0 (.binOp .rem t x y t') ty e As (.int k (m % n)):=by
 have:=ExF.rem (P:=P) (N:=N) (w0:=w0) (As:=As) (ty:=ty) (t:=t) (t':=t') hx hy (by omega)
 rwa [Int.tmod_eq_emod_of_nonneg h1] at this
theorem ExF.lss (hx:ev e x=some (.int k m)) (hy:ev e y=some (.int k n)):ExF P N w0 (.binOp .lss t x y t') ty e As (.bool (decide (m < n))):=fun a w ha _ d pos af g=>by
 simp [execOp,ha.eval hx,ha.eval hy,eqGuard,binOp,Op.intCmp]
theorem ExF.leq (hx:ev e x=some (.int k m)) (hy:ev e y=some (.int k n)):ExF P N w0 (.binOp .leq t x y t') ty e As (.bool (decide (m≤n))):=fun a w ha _ d pos af g=>by
 simp [execOp,ha.eval hx,ha.eval hy,eqGuard,binOp,Op.intCmp]
theorem ExF.gtr (hx:ev e x=some (.int k m)) (hy:ev e y=some (.int k n)):ExF P N w0 (.binOp .gtr t x y t') ty e As (.bool (decide (n < m))):=fun a w ha _ d pos af g=>by
 simp [execOp,ha.eval hx,ha.eval hy,eqGuard,binOp,Op.intCmp]
theorem ExF.geq (hx:ev e x=some (.int k m)) (hy:ev e y=some (.int k n)):ExF P N w0 (.binOp .geq t x y t') ty e As (.bool (decide (n≤m))):=fun a w ha _ d pos af g=>by
 simp [execOp,ha.eval hx,ha.eval hy,eqGuard,binOp,Op.intCmp]
theorem ExF.eql (hx:ev e x=some (.int k m)) (hy:ev e y=some (.int k n)):ExF P N w0 (.binOp .eql t x y t') ty e As (.bool (decide (m=n))):=fun a w ha _ d pos af g=>by
 simp [execOp,ha.eval hx,ha.eval hy,eqGuard,binOp,Op.intCmp]
 rw [Bool.eq_iff_iff];simp
theorem ExF.neq (hx:ev e x=some (.int k m)) (hy:ev e y=some (.int k n)):ExF P N w0 (.binOp .neq t x y t') ty e As (.bool (!decide (m=n))):=fun a w ha _ d pos af g=>by
 simp [execOp,ha.eval hx,ha.eval hy,eqGuard,binOp,Op.intCmp,bne]
 rw [Bool.eq_iff_iff];simp
theorem Zy1 {s s':ByteArray} (hx:ev e x=some (.string s)) (hy:ev e y=some (.string s')):ExF P N w0 (.binOp .eql t x y t') ty e As (.bool (decide (s.toList=s'.toList))):=fun a w ha _ d pos af g=>by
 have h1:decide (s.toList=s'.toList)=(s.toList == s'.toList):=by cases hb:s.toList == s'.toList<;>simp_all
 simp [execOp,ha.eval hx,ha.eval hy,eqGuard,binOp,Op.stringOp,h1]
theorem Zy0 {s s':ByteArray} (hx:ev e x=some (.string s)) (hy:ev e y=some (.string s')):ExF P N w0 (.binOp .neq t x y t') ty e As (.bool !(decide (s.toList=s'.toList))):=fun a w ha _ d pos af g=>by
 have h1:decide (s.toList=s'.toList)=(s.toList == s'.toList):=by cases hb:s.toList == s'.toList<;>simp_all
 simp [execOp,ha.eval hx,ha.eval hy,eqGuard,binOp,Op.stringOp,h1]
theorem Zzi {t:TypeId} [UL P t .bool] (dp:Nat) (b b':Bool) (w:World):(Op.equalIn (dp+1) t (.bool b) (.bool b')).run P w=.ok (b == b') w:=by
 simp [Op.equalIn,Zar]
theorem Z12 {t:TypeId} [UL P t .bool] (b b':Bool) (w:World):(Op.equal t (.bool b) (.bool b')).run P w=.ok (b == b') w:=Zzi 9999 b b' w
theorem Z81 {b b':Bool} [UL P t .bool] (hx:ev e x=some (.bool b)) (hy:ev e y=some (.bool b')):ExF P N w0 (.binOp .eql t x y t') ty e As (.bool (decide (b=b'))):=fun a w ha _ d pos af g=>by
 have h1:decide (b=b')=(b == b'):=by cases b<;>cases b'<;>rfl
 simp [execOp,ha.eval hx,ha.eval hy,eqGuard,binOp,Z12,h1]
theorem Z8w {b b':Bool} [UL P t .bool] (hx:ev e x=some (.bool b)) (hy:ev e y=some (.bool b')):ExF P N w0 (.binOp .neq t x y t') ty e As (.bool !(decide (b=b'))):=fun a w ha _ d pos af g=>by
 have h1:decide (b=b')=(b == b'):=by cases b<;>cases b'<;>rfl
 simp [execOp,ha.eval hx,ha.eval hy,eqGuard,binOp,Z12,h1]
theorem ExF.not {b:Bool} (hx:ev e x=some (.bool b)):ExF P N w0 (.unOp .not t x) ty e As (.bool !b):=fun a w ha _ d pos af g=>by
 simp [execOp,ha.eval hx,Op.unary]
theorem ExF.neg (hx:ev e x=some (.int k m)):ExF P N w0 (.unOp .neg t x) ty e As (.int k (k.wrap (-m))):=fun a w ha _ d pos af g=>by
 simp [execOp,ha.eval hx,Op.unary,Op.intArith]
theorem Z8x (hx:ev e x=some (.int k m)) (h:IR k (-m)):ExF P N w0 (.unOp .neg t x) ty e As (.int k (-m)):=by
 have:=ExF.neg (P:=P) (N:=N) (w0:=w0) (As:=As) (ty:=ty) (t:=t) hx;rwa [Zbr h] at this
theorem Zy2 {k':IntKind} {dsc:TypeDesc} [UL P t dsc] [UL P t' (.int k')] (hx:ev e x=some (.int k m)):ExF P N w0 (.convert t t' x) ty e As (.int k' (k'.wrap m)):=fun a w ha _ d pos af g=>by
 simp [execOp,ha.eval hx,convert,Zar,Conv.intToInt]
theorem Z5x {k':IntKind} {dsc:TypeDesc} [UL P t dsc] [UL P t' (.int k')] (hx:ev e x=some (.int k m)) (h:IR k' m):ExF P N w0 (.convert t t' x) ty e As (.int k' m):=by
 have:=Zy2 (P:=P) (N:=N) (w0:=w0) (As:=As) (ty:=ty) (t:=t) (t':=t') hx;rwa [Zbr h] at this
theorem Z5w {s:ByteArray} [UL P t .string] [UL P t' .string] (hx:ev e x=some (.string s)):ExF P N w0 (.convert t t' x) ty e As (.string s):=fun a w ha _ d pos af g=>by
 simp [execOp,ha.eval hx,convert,Zar]
end
theorem ExF.extract {vs:Array Value} {i:Nat} (hx:ev e x=some (.tuple vs)) (hv:vs[i]?=some v):ExF P N w0 (.extract x i) ty e As v:=fun a w ha _ d pos af g=>by
 simp [execOp,ha.eval hx,Instr.extract,hv]
theorem ExF.makeFunc {fn:Fn} {first cap:Array Operand} {vs us:List Value} (hx:evs e first.toList=some vs) (hy:evs e cap.toList=some us):ExF P N w0 (.makeFunc fn first cap) ty e As (.func fn vs.toArray us.toArray):=fun a w ha _ d pos af g=>by
 have h1:first.map a.eval=vs.toArray:=by apply Array.toList_inj.1;rw [Array.toList_map,ha.evals hx]
 have h2:cap.map a.eval=us.toArray:=by apply Array.toList_inj.1;rw [Array.toList_map,ha.evals hy]
 simp [execOp,Instr.makeFunc,h1,h2]
theorem Zr0 {p:Addr} (hx:ev e x=some (.pointer (some p))):ExF P N w0 (.nilCheck x) ty e As (.pointer (some p)):=fun a w ha _ d pos af g=>by
 simp [execOp,ha.eval hx]
theorem Z5r {t:TypeId} {el:TypeId} [UL P t (.slice el)] {p:Option Addr} {l c:Nat} (hx:ev e x=some (.slice p l c)):ExF P N w0 (.call ⟨.builtin .len,#[x],#[t]⟩) ty e As (.int .i64 l):=fun a w ha _ d pos af g=>by
 simp [execOp,ha.eval hx,resolve,invoke,builtin,Builtin.len_,Zar,goInt]
theorem Zpq {t:TypeId} [UL P t .string] {s:ByteArray} (hx:ev e x=some (.string s)):ExF P N w0 (.call ⟨.builtin .len,#[x],#[t]⟩) ty e As (.int .i64 s.size):=fun a w ha _ d pos af g=>by
 simp [execOp,ha.eval hx,resolve,invoke,builtin,Builtin.len_,Zar,goInt]
theorem Z0w {t:TypeId} [UL P t .string] {s:ByteArray} {k:IntKind} {i:Nat} (hx:ev e x=some (.string s)) (hy:ev e y=some (.int k (i:Int))) (hi:i < s.size):ExF P N w0 (.index t x y) ty e As (.int .u8 (s[i].toNat:Int)):=fun a w ha _ d pos af g=>by
 simp [execOp,ha.eval hx,ha.eval hy,Instr.index,asIntOf,Zar,hi]

/-! ### arrays as values -/
theorem Z0y {t el:TypeId} {ud:TypeDesc} {n:Nat} {z':Value} {b':Nat} [UL P t (.array n el)] [UL P el ud] [TI P el z' 1 b'] (hag:aggB ud=false) {l:List Value} {k:IntKind} {i:Nat}
  (hx:ev e x=some (.agg l.toArray)) (hy:ev e y=some (.int k (i:Int))) (hi:Nat.blt i n=true) (hv:l[i]?=some v):ExF P N w0 (.index t x y) ty e As v:=fun a w ha _ d pos af g=>by
 have hi':i < n:=by simpa [Nat.blt_eq] using hi
 simp [execOp,ha.eval hx,ha.eval hy,Instr.index,asIntOf,Zar,hi',Za9,part,Zd5,hag,hv]
theorem Znx {t el:TypeId} {ud:TypeDesc} {n s:Nat} {z':Value} {b':Nat} [UL P t (.array n el)] [UL P el ud] [TI P el z' s b'] (hag:aggB ud=true) {l vs:List Value} {k:IntKind} {i:Nat}
  (hx:ev e x=some (.agg l.toArray)) (hy:ev e y=some (.int k (i:Int))) (hi:Nat.blt i n=true) (hv:(l.drop (i * s)).take s=vs):ExF P N w0 (.index t x y) ty e As (.agg vs.toArray):=fun a w ha _ d pos af g=>by
 have hi':i < n:=by simpa [Nat.blt_eq] using hi
 subst hv
 simp [execOp,ha.eval hx,ha.eval hy,Instr.index,asIntOf,Zar,hi',Za9,part,Zd5,hag]
theorem ExF.fld {t:TypeId} {fld:Field} {fields:Array Field} {f:Nat} {ud:TypeDesc} {l:List Value} [UL P t (.struct fields)] (hf:fields[f]?=some fld) [UL P fld.type ud] (hag:aggB ud=false)
  (hx:ev e x=some (.agg l.toArray)) (hv:l[fld.offset]?=some v):ExF P N w0 (.field t x f) ty e As v:=fun a w ha _ d pos af g=>by
 simp [execOp,ha.eval hx,Instr.field,Zar,hf,asAgg,part,Zd5,hag,hv]

/-! ### building values -/
theorem ExF.build {t:TypeId} {parts:Array (Nat × Operand)} {vs:List Value} (hp:evs e (parts.toList.map (·.2))=some vs) {l:List Value}
  (hb:∀ w,(Instr.build t ((parts.toList.map (·.1)).zip vs).toArray).run P w=.ok (.agg l.toArray) w):ExF P N w0 (.build t parts) ty e As (.agg l.toArray):=fun a w ha _ d pos af g=>by
 have h1:(parts.map fun (i,x)=>(i,a.eval x))=((parts.toList.map (·.1)).zip vs).toArray:=by
  apply Array.toList_inj.1
  have:=ha.evals hp
  rw [← this]
  simp only [Array.toList_map,List.map_map]
  induction parts.toList with
  | nil=>rfl
  | cons q r ih=>simp [ih]
 simp only [execOp,h1,Sem.run_bind,hb,Result.andThen_ok]
 rfl

/-! ### addresses -/
theorem Zal (b o k:Nat):(⟨b,o,none⟩:Addr).add k=⟨b,o+k,none⟩:=by
 unfold Addr.add;split<;>simp_all
theorem ExF.fieldAddr {s:TypeId} {f k n b off off':Nat} [h:FO P s f k n] (hx:ev e x=some (.pointer (some ⟨b,off,none⟩))) (ho:off+k=off'):ExF P N w0 (.fieldAddr s x f) ty e As (.pointer (some ⟨b,off',none⟩)):=fun a w ha _ d pos af g=>by
 obtain ⟨fields,fld,h1,h2,h3,⟨i,h4,h5⟩,h6⟩:=h.h
 simp [execOp,ha.eval hx,Instr.fieldAt,run_underlying h1,h2,Instr.sureAddr,fieldPlace,sizeOf,typeInfo,h4,h5,h6,Zal,h3,ho]
theorem Zuh {t el:TypeId} {n s:Nat} {z':Value} {b':Nat} [UL P t (.array n el)] [TI P el z' s b'] {b off off':Nat} {k:IntKind} {i:Nat}
  (hx:ev e x=some (.pointer (some ⟨b,off,none⟩))) (hy:ev e y=some (.int k (i:Int))) (hi:i < n) (ho:off+i * s=off'):ExF P N w0 (.indexAddr t x y) ty e As (.pointer (some ⟨b,off',none⟩)):=fun a w ha _ d pos af g=>by
 subst ho
 simp [execOp,ha.eval hx,ha.eval hy,Instr.indexAt,asIntOf,Zar,Instr.sureAddr,hi,Za9,Zal]

/-! ### memory: a block of cells -/
theorem Ze2 {b:Nat} {l:List Value} {T:TypeId} [h:TakeC As b l T rest] {w:World} (hs:St w0 w As):w.heap[b]?=some (.cells l.toArray T (0,0)):=by
 obtain ⟨H,bs,g⟩:=hs
 obtain ⟨bs',_,k⟩:=Sat.perm h.perm g.sat
 obtain ⟨_,_,hw,_⟩:=k
 exact hw
theorem Zeh {w:World} {b:Nat} {c c':Array Value} {T:TypeId} {f:Nat × Nat} (h:w.heap[b]?=some (.cells c T f)):(w.setRow b c').heap[b]?=some (.cells c' T f):=setRow_heap w b c c' T f h
theorem Ze7 {w:World} {b k:Nat} {c':Array Value} (h:k≠b):(w.setRow b c').heap[k]?=w.heap[k]?:=by
 simp only [World.setRow,Array.getElem?_modify]
 rw [if_neg (by omega)]
theorem StW.setHead {w:World} {H:FH} {bs:List Nat} {b:Nat} {l l':List Value} {T:TypeId} (g:StW w0 w H (.cl b l T::rest) bs):StW w0 (w.setRow b l'.toArray) H (.cl b l' T::rest) bs:=by
 obtain ⟨bs',rfl,hw,hr⟩:=g.sat
 have hb:∀ k,H k≠none→k≠b:=fun k hk he=>hk (by subst he;exact g.ap _ (List.mem_cons_self ..))
 refine ⟨by simpa [World.setRow] using g.size,g.os,g.tape,g.output,fun k o hk=>?_,g.old,⟨bs',rfl,Zeh hw,Sat.move (FH.le_refl H) hr fun k hk=>Ze7 ?_⟩,g.nd,g.ap⟩
 ·rw [Ze7 (hb k (by rw [hk];simp))];exact g.fz k o hk
 ·intro he;subst he;exact (List.nodup_cons.1 g.nd).1 hk
theorem Z45 {b:Nat} {l:List Value} {T:TypeId} [h:TakeC As b l T rest] {w:World} (hs:St w0 w As) (l':List Value):St w0 (w.setRow b l'.toArray) (.cl b l' T::rest):=by
 obtain ⟨H,bs,g⟩:=Ents.perm h.perm w0 w hs
 exact ⟨H,bs,g.setHead⟩
theorem ExF.load {t:TypeId} {ud:TypeDesc} {b off:Nat} {l:List Value} {T:TypeId} [UL P t ud] (hag:aggB ud=false) (hx:ev e x=some (.pointer (some ⟨b,off,none⟩))) [TakeC As b l T rest] (hv:l[off]?=some v):ExF P N w0 (.load t x) ty e As v :=
 fun a w ha hs d pos af g=>by
  have hw:=Ze2 (b:=b) (l:=l) (T:=T) (rest:=rest) hs
  have hc:w.cell? ⟨b,off,none⟩=some v:=by simp [World.cell?,hw,hv]
  simp [execOp,ha.eval hx,Instr.loadAt,Instr.sureAddr,loadVar,Zd5,hag,hc]
theorem Zig {P:Program} {w:World} {b off n:Nat} {l:List Value} {T:TypeId} {fr:Nat × Nat} (hw:w.heap[b]?=some (.cells l.toArray T fr)) (hl:off+n≤l.length) :
  (loadCells ⟨b,off,none⟩ n).run P w=.ok ((l.drop off).take n).toArray w:=by
 have hlen:((l.drop off).take n).length=n:=by simp;omega
 have:=run_loadCells_list (P:=P) w ⟨b,off,none⟩ ((l.drop off).take n) (fun j v hj=>by
  rw [Zal]
  have hjn:j < n:=by have:=(List.getElem?_eq_some_iff.1 hj).1;omega
  rw [List.getElem?_take,if_pos hjn,List.getElem?_drop] at hj
  simp [World.cell?,hw,hj])
 rwa [hlen] at this
theorem Zug {t:TypeId} {ud:TypeDesc} {z':Value} {n b' b off:Nat} {l vs:List Value} {T:TypeId} [UL P t ud] [TI P t z' n b'] (hag:aggB ud=true) (hx:ev e x=some (.pointer (some ⟨b,off,none⟩))) [TakeC As b l T rest]
  (hl:Nat.ble (off+n) l.length=true) (hv:(l.drop off).take n=vs):ExF P N w0 (.load t x) ty e As (.agg vs.toArray) :=
 fun a w ha hs d pos af g=>by
  have hw:=Ze2 (b:=b) (l:=l) (T:=T) (rest:=rest) hs
  have hl':=Nat.le_of_ble_eq_true hl
  subst hv
  simp [execOp,ha.eval hx,Instr.loadAt,Instr.sureAddr,loadVar,Zd5,hag,Za9,Zig hw hl']
def setAll (l:List Value) (off:Nat) (vs:List Value):List Value:=l.take off++vs++l.drop (off+vs.length)
theorem Ze8 {P:Program} {w:World} {b off:Nat} {l vs:List Value} {T:TypeId} (hw:w.heap[b]?=some (.cells l.toArray T (0,0))) (hl:off+vs.length≤l.length) (h1:∀ v∈vs,v.oneCell'=true) :
  (storeCells ⟨b,off,none⟩ vs).run P w=.ok () (w.setRow b (setAll l off vs).toArray):=by
 have:=run_storeCells_at P b off T vs 0 l.toArray w hw (by simpa using hl) h1
 simpa [setAll] using this
def oneB:List Value→Bool
 | []=>true
 | v::r=>v.oneCell'&&oneB r
theorem oneB.all:∀ {vs:List Value},oneB vs=true→∀ v∈vs,v.oneCell'=true
 | [],_,v,hv=>by cases hv
 | u::r,h,v,hv=>by
  simp only [oneB,Bool.and_eq_true] at h
  rcases List.mem_cons.1 hv with rfl|hv
  ·exact h.1
  ·exact oneB.all h.2 v hv
theorem ExU.store {t:TypeId} {z':Value} {b' b off:Nat} {l l':List Value} {T:TypeId} [TI P t z' 1 b'] (hx:ev e x=some (.pointer (some ⟨b,off,none⟩))) (hy:ev e y=some v) (hv:v.cells=#[v]) (h1:v.oneCell'=true) [TakeC As b l T rest]
  (hl:Nat.blt off l.length=true) (hl':l.set off v=l'):ExU P N w0 (.store t x y) ty e As (.cl b l' T::rest):=fun a w ha hs d pos af g=>by
 have hw:=Ze2 (b:=b) (l:=l) (T:=T) (rest:=rest) hs
 have hlt:off < l.length:=by simpa [Nat.blt_eq] using hl
 have hst:=Ze8 (P:=P) (off:=off) (vs:=[v]) hw (by simp;omega) (by simpa using h1)
 have he:setAll l off [v]=l':=by subst hl';simp [setAll,List.set_eq_take_append_cons_drop,hlt]
 rw [he] at hst
 refine ⟨_,?_,Z45 (b:=b) (l:=l) (T:=T) (rest:=rest) hs l'⟩
 simp [execOp,ha.eval hx,ha.eval hy,Instr.storeAt,Instr.sureAddr,storeVar,hv,Za9,hst]
theorem Zpo {t:TypeId} {z':Value} {n b' b off:Nat} {l l' vs:List Value} {T:TypeId} [TI P t z' n b'] (hx:ev e x=some (.pointer (some ⟨b,off,none⟩))) (hy:ev e y=some (.agg vs.toArray)) (hn:vs.length=n) (h1:oneB vs=true) [TakeC As b l T rest]
  (hl:Nat.ble (off+n) l.length=true) (hl':setAll l off vs=l'):ExU P N w0 (.store t x y) ty e As (.cl b l' T::rest):=fun a w ha hs d pos af g=>by
 have hw:=Ze2 (b:=b) (l:=l) (T:=T) (rest:=rest) hs
 have hlt:=Nat.le_of_ble_eq_true hl
 have hst:=Ze8 (P:=P) (off:=off) (vs:=vs) hw (by omega) (oneB.all h1)
 rw [hl'] at hst
 refine ⟨_,?_,Z45 (b:=b) (l:=l) (T:=T) (rest:=rest) hs l'⟩
 simp [execOp,ha.eval hx,ha.eval hy,Instr.storeAt,Instr.sureAddr,storeVar,Value.cells,Za9,hn,hst]
theorem ExR.alloc {t:TypeId} {z:Value} {l:List Value} {n b':Nat} [TI P t z n b'] (hl:z.cells.toList=l):ExR P N w0 (.alloc t) ty e As (RB (fun b=>.pointer (some ⟨b,0,none⟩)) (fun b=>.cl b l t::As)):=fun a w ha hs d pos af g=>by
 refine ⟨_,w.alloc (.cells l.toArray t),_,?_,⟨w.heap.size,rfl,rfl⟩,Zgk hs l t⟩
 subst hl
 simp [execOp,Instr.alloc,Zlb,newVar,newRow]
theorem ExR.box {t:TypeId} {l:List Value} (hx:ev e x=some v) (hl:v.cells.toList=l):ExR P N w0 (.box t x) ty e As (RB (fun b=>.pointer (some ⟨b,0,none⟩)) (fun b=>.cl b l t::As)):=fun a w ha hs d pos af g=>by
 refine ⟨_,w.alloc (.cells l.toArray t),_,?_,⟨w.heap.size,rfl,rfl⟩,Zgk hs l t⟩
 subst hl
 simp [execOp,ha.eval hx,Instr.box,newVar,newRow]
end
attribute [irreducible] ExF ExU ExR
end Go.Sx
