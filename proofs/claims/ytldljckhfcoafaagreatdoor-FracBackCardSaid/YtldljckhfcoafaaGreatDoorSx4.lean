/- The engine, part 4: a region that draws its order. What only yields a value in every world that has the entries Rs is taken first; of the rest each order is walked (a tree). -/
import Derived.Test.YtldljckhfcoafaaGreatDoorSx3
import Derived.OrdersHeld
import Derived.OrdersIn
namespace Go.Sx
open Go
section
variable {P : Program} {ops : Array Oper} {Q : Exit → Act → World → Prop} {md : Region.Mode} {S : World → Prop}
/-- operation j waits for every other one -/
def sinkAt (md : Region.Mode) (ops : Array Oper) (j : Nat) : Bool :=
  match ops[j]? with
  | some o => (List.range ops.size).all fun i => i == j || o.after.any fun e => Region.binds md e && e.on == i
  | none => false
theorem sinkAt_waits {i j : Nat} {oj : Oper} (h : sinkAt md ops j = true) (hj : ops[j]? = some oj) (hi : i < ops.size) (hne : j ≠ i) : ∃ e ∈ oj.after, Region.binds md e = true ∧ e.on = i := by
  unfold sinkAt at h
  rw [hj] at h
  have := List.all_eq_true.1 h i (List.mem_range.2 hi)
  rcases Bool.or_eq_true _ _ ▸ this with h1 | h1
  · exact absurd (by simpa using h1) (Ne.symm hne)
  · obtain ⟨e, he, hb⟩ := Array.any_eq_true'.1 h1
    simp only [Bool.and_eq_true, beq_iff_eq] at hb
    exact ⟨e, he, hb⟩
/-- no deferred call is made, and no select -/
def tame (ops : Array Oper) : Bool := ops.toList.all fun o => match o.op with
  | .select .. => false
  | .defer _ => false
  | _ => true
theorem tame_of {j : Nat} {o : Oper} (h : tame ops = true) (hj : ops[j]? = some o) : (∀ cs b, o.op ≠ .select cs b) ∧ ∀ c, o.op ≠ .defer c := by
  have hm : o ∈ ops.toList := by
    rw [Array.mem_toList_iff]
    exact Array.mem_of_getElem? hj
  have := List.all_eq_true.1 h o hm
  refine ⟨fun cs b he => ?_, fun c he => ?_⟩ <;> simp [he] at this
/-- operation j waits for k -/
def waits (md : Region.Mode) (ops : Array Oper) (j k : Nat) : Bool := match ops[j]? with
  | some o => o.after.any fun e => Region.binds md e && e.on == k
  | none => false
/-- what must hold behind operation j: it waited for all others, or nothing has changed, or what the operations that did not have to come before it look at is still there -/
def CondL (md : Region.Mode) (ops : Array Oper) (S : World → Prop) (Z : Nat → World → Prop) (j : Nat) (w w' : World) : Prop :=
  sinkAt md ops j = true ∨ w' = w ∨ (S w' ∧ ∀ k, waits md ops j k = true ∨ Z k w')
def wpAnyL (ro : Option Nat) (P : Program) (md : Region.Mode) (ops : Array Oper) (Q : Exit → Act → World → Prop) (S : World → Prop) (Z : Nat → World → Prop) : Nat → Array Bool → Act → World → Prop
  | 0, listed, a, w => Region.ready md ops listed = [] ∧ Q .normal a w
  | fuel + 1, listed, a, w => (Region.ready md ops listed = [] → Q .normal a w) ∧
    ∀ i ∈ Region.ready md ops listed, wpOpIn (fen ro) 0 P ops Q i (fun a' w' => CondL md ops S Z i w w' ∧ wpAnyL ro P md ops Q S Z fuel (listed.setIfInBounds i true) a' w') a w
variable {ro : Option Nat} {Z : Nat → World → Prop} {I : World → Prop}
theorem wpAnyL.any : ∀ (fuel : Nat) (listed : Array Bool) (a : Act) (w : World), wpAnyL ro P md ops Q S Z fuel listed a w → wpAnyIn (fen ro) 0 P md ops Q fuel listed a w
  | 0, _, _, _, h => h
  | fuel + 1, _, _, _, h => ⟨h.1, fun i hi => wpOpIn_mono (fun a' w' k => wpAnyL.any fuel _ a' w' k.2) (h.2 i hi)⟩
theorem YieldsIf.go {i : Nat} {o : Oper} {v : Value} {a : Act} {w : World} (hi : ops[i]? = some o) (hy : YieldsIf P ops S o v a) {K : Act → World → Prop} (hS : S w) (h : K (a.put o.dst v) w) : wpOpIn (fen ro) 0 P ops Q i K a w := by
  unfold wpOpIn
  simp only [hi]
  rcases hy with ⟨hw, hv⟩ | ⟨hw, rfl⟩
  · rw [if_pos hw]
    refine ⟨fun _ _ => trivial, ?_⟩
    show o.uponIn (fen ro) 0 P a K Q ((o.semAt ro a.eval).run P w)
    rw [semAt_eq' (hv w hS) (by intro d; simp), hv w hS]
    exact h
  · rw [if_neg (by rw [hw]; decide)]
    exact ⟨fun _ _ => trivial, h⟩
theorem putIn {j : Nat} {oi oj : Oper} {v : Value} (hj : ops[j]? = some oj) (hap : oi.apart ops oj = true) (ht : tame ops = true) (hti : ∀ cs b, oi.op ≠ .select cs b) (hQ : ∀ c a w, Q (.panic c) (a.put oi.dst v) w → Q (.panic c) a w)
    {K : Act → World → Prop} {a : Act} {w : World} (hy : YieldsIf P ops S oi v a) (h : wpOpIn (fen ro) 0 P ops Q j K (a.put oi.dst v) w) :
    wpOpIn (fen ro) 0 P ops Q j (fun a' w' => YieldsIf P ops S oi v a' ∧ K (a'.put oi.dst v) w') a w := by
  obtain ⟨h1, h2, h3⟩ := Oper.apart_spec hap
  obtain ⟨hs, hd⟩ := tame_of ht hj
  have keep : ∀ (a : Act), YieldsIf P ops S oi v a → ∀ u, YieldsIf P ops S oi v (a.put oj.dst u) := fun a hy u =>
    hy.of_same (execOp_put oi hti a oj.dst u h3) (wanted_put oi a oj.dst u h3)
  unfold wpOpIn at *
  simp only [hj] at *
  rw [wanted_put oj a oi.dst v h1] at h
  split
  · rename_i hw
    rw [if_pos hw] at h
    refine ⟨fun _ _ => trivial, ?_⟩
    have hk : oj.uponIn (fen ro) 0 P (a.put oi.dst v) K Q ((execOp a.eval oj).run P w) := by
      have := h.2
      show oj.uponIn (fen ro) 0 P (a.put oi.dst v) K Q ((execOp a.eval oj).run P w)
      rw [← execOp_put oj hs a oi.dst v h1, ← Oper.semAt_eq ro _ oj hd]
      exact this
    show oj.uponIn (fen ro) 0 P a _ Q ((oj.semAt ro a.eval).run P w)
    rw [Oper.semAt_eq ro _ oj hd]
    generalize (execOp a.eval oj).run P w = r at *
    cases r with
    | ok n w' =>
      cases n <;> simp only [Oper.uponIn] at hk ⊢
      case value u => exact ⟨keep a hy u, by rw [← Act.put_comm a v u h2]; exact hk⟩
      case skip => exact ⟨keep a hy _, by rw [← Act.put_comm a v undef h2]; exact hk⟩
      case defer d =>
        refine ⟨keep { a with defers := d :: a.defers } (hy.of_same rfl rfl) undef, ?_⟩
        rw [← Act.put_comm _ v undef h2, ← Act.put_defers]
        exact hk
      case enter f args =>
        refine ⟨hk.1, hk.2.mono fun e w'' he => ?_⟩
        cases e with
        | returned u => exact ⟨keep a hy u, by rw [← Act.put_comm a v u h2]; exact he⟩
        | panicked c => exact hQ _ _ _ he
        | outgrown => exact he
      case row row args => exact ⟨hk.1, RowsIn.mono hk.2 fun u w'' he => ⟨keep a hy u, by rw [← Act.put_comm a v u h2]; exact he⟩⟩
      case round l f tmps x y =>
        refine ⟨hk.1, RoundIn.mono hk.2 fun e w'' he => ?_⟩
        cases e with
        | returned u => exact ⟨keep a hy u, by rw [← Act.put_comm a v u h2]; exact he⟩
        | panicked c => exact hQ _ _ _ he
        | outgrown => exact he
    | halt x w' =>
      cases x <;> simp only [Oper.uponIn] at hk ⊢
      case panic u => exact hQ _ _ _ hk
  · rename_i hw
    rw [if_neg hw] at h
    exact ⟨fun _ _ => trivial, keep a hy _, by rw [← Act.put_comm a v undef h2]; exact h.2⟩
theorem wpAnyL.first {i : Nat} {oi : Oper} {v : Value} (hi : ops[i]? = some oi) (ht : tame ops = true) (hQ : ∀ c a w, Q (.panic c) (a.put oi.dst v) w → Q (.panic c) a w) (hI : ∀ w, S w → Z i w → I w) :
    ∀ (fuel : Nat) (listed : Array Bool) (a : Act) (w : World), Region.free md ops listed i = true → i ∈ Region.ready md ops listed → YieldsIf P ops I oi v a → I w →
      wpAnyL ro P md ops Q S Z fuel (listed.setIfInBounds i true) (a.put oi.dst v) w → wpAnyL ro P md ops Q S Z (fuel + 1) listed a w := by
  intro fuel
  have hil : i < ops.size := (Array.getElem?_eq_some_iff.1 hi).1
  induction fuel with
  | zero =>
    intro listed a w _ hr hy hS K
    refine ⟨fun h => (by rw [h] at hr; cases hr), fun j hj => ?_⟩
    rcases Nat.decEq j i with hne | rfl
    · have hm := ready_mono hj hne
      rw [K.1] at hm
      cases hm
    · exact YieldsIf.go hi hy hS ⟨.inr (.inl rfl), K⟩
  | succ fuel ih =>
    intro listed a w hfr hr hy hS K
    refine ⟨fun h => (by rw [h] at hr; cases hr), fun j hj => ?_⟩
    rcases Nat.decEq j i with hne | rfl
    case isTrue => exact YieldsIf.go hi hy hS ⟨.inr (.inl rfl), K⟩
    obtain ⟨hun, oj, hoj, hpre⟩ := mem_ready.1 hj
    have hiun := (mem_ready.1 hr).1
    have hno : ∀ e ∈ oj.after, Region.binds md e = true → e.on ≠ i := by
      intro e he hb heq
      have h1 := hpre e he hb
      rw [heq] at h1
      by_cases hs : i < listed.size
      · simp [hs] at hiun h1; rw [hiun] at h1; cases h1
      · rw [Array.getD_eq_getD_getElem?, Array.getElem?_eq_none (by omega)] at h1; cases h1
    have hap := Region.free_spec hi hfr j oj hoj hne hun hno
    have step := putIn (S := I) hoj hap ht (tame_of ht hi).1 hQ hy (K.2 j (ready_mono hj hne))
    refine wpOpIn_mono (fun a' w' t => ?_) step
    obtain ⟨ty, ts, tk⟩ := t
    have hSw : I w' := by
      rcases ts with hs | rfl | ⟨hs, hz⟩
      · obtain ⟨e, he, hb, ho⟩ := sinkAt_waits hs hoj hil hne
        exact absurd ho (hno e he hb)
      · exact hS
      · rcases hz i with h1 | h1
        · unfold waits at h1
          rw [hoj] at h1
          obtain ⟨e, he, hb⟩ := Array.any_eq_true'.1 h1
          simp only [Bool.and_eq_true, beq_iff_eq] at hb
          exact absurd hb.2 (hno e he hb.1)
        · exact hI _ hs h1
    refine ⟨ts, ih (listed.setIfInBounds j true) a' w' ?_ (ready_mono hr (Ne.symm hne)) ty hSw ?_⟩
    · unfold Region.free at hfr ⊢
      rw [hi] at hfr ⊢
      rw [List.all_eq_true] at hfr ⊢
      intro k hk
      have h1 := hfr k hk
      simp only [Bool.or_eq_true] at h1 ⊢
      rcases h1 with (h1 | h1) | h1
      · exact .inl (.inl h1)
      · refine .inl (.inr ?_)
        by_cases hjk : j = k
        · subst hjk; rw [hun] at h1; cases h1
        · rw [getD_set_ne true hjk]; exact h1
      · exact .inr h1
    · rw [Array.setIfInBounds_comm _ _ hne]
      exact tk

/-! trees of orders -/
inductive Tree where
  | done
  | take (i : Nat) (t : Tree)
  | all (l : List (Nat × Tree))
mutual
def Tree.depth : Tree → Nat
  | .done => 0
  | .take _ t => t.depth + 1
  | .all l => Tree.depths l + 1
def Tree.depths : List (Nat × Tree) → Nat
  | [] => 0
  | (_, t) :: r => max t.depth (Tree.depths r)
end
mutual
def Tree.ok (ops : Array Oper) (listed : Array Bool) : Tree → Bool
  | .done => (Region.ready .any ops listed).isEmpty
  | .take i t => (Region.ready .any ops listed).contains i && Region.free .any ops listed i && t.ok ops (listed.setIfInBounds i true)
  | .all l => (Region.ready .any ops listed == l.map (·.1)) && !l.isEmpty && Tree.oks ops listed l
def Tree.oks (ops : Array Oper) (listed : Array Bool) : List (Nat × Tree) → Bool
  | [] => true
  | (i, t) :: r => t.ok ops (listed.setIfInBounds i true) && Tree.oks ops listed r
end
/-- what stays: r0 all the while, and for some operations of their own -/
structure RsP where
  r0 : List Ent
  own : List (Nat × List Ent)
def RsP.SW (w0 : World) (R : RsP) (w : World) : Prop := St w0 w R.r0
def RsP.ZW (w0 : World) (R : RsP) (k : Nat) (w : World) : Prop := ∀ x, (k, x) ∈ R.own → St w0 w x
class MemT (l : List (Nat × List Ent)) (i : Nat) (x : outParam (List Ent)) : Prop where
  mem : (i, x) ∈ l
instance MemT.head {i : Nat} {x : List Ent} {l : List (Nat × List Ent)} : MemT ((i, x) :: l) i x := ⟨List.mem_cons_self ..⟩
instance (priority := low) MemT.tl {i : Nat} {x : List Ent} {y : Nat × List Ent} {l : List (Nat × List Ent)} [h : MemT l i x] : MemT (y :: l) i x := ⟨List.mem_cons_of_mem _ h.mem⟩
/-- a panic does not look at the slots -/
class PanicOk (Q : Exit → Act → World → Prop) : Prop where
  h : ∀ c a d v w, Q (.panic c) (Act.put a d v) w → Q (.panic c) a w
instance {K : Act → World → Prop} [h : PanicOk Q] : PanicOk (Exit.then K Q) := ⟨h.h⟩
instance {id : Nat} [h : PanicOk Q] : PanicOk (Exit.inBlock id Q) := ⟨h.h⟩
instance {w0 : World} {fn : Func} {K : Value → List Ent → Prop} : PanicOk (FQ P w0 fn K) := ⟨fun _ _ _ _ _ h => h⟩
instance {l : Nat} {R : Ending → World → Prop} : PanicOk (roundPost P l R) := ⟨fun _ _ _ _ _ h => h⟩
variable {N : Ctx} {w0 : World} {e : Env} {As As' R : List Ent} {Rs : RsP} {t : Tree}
def TT (P : Program) (N : Ctx) (w0 : World) (ops : Array Oper) (Rs : RsP) (t : Tree) (e : Env) (As : List Ent) (Q : Exit → Act → World → Prop) : Prop :=
  tame ops = true → ∀ fuel listed, t.depth ≤ fuel → t.ok ops listed = true → ∀ a w, OkA N a e → St w0 w As → Rs.SW w0 w → wpAnyL N.ro P .any ops Q (Rs.SW w0) (Rs.ZW w0) fuel listed a w
/-- one operation, then the tree; sk: it waits for all others -/
def T1 (P : Program) (N : Ctx) (w0 : World) (ops : Array Oper) (Rs : RsP) (i : Nat) (t : Tree) (e : Env) (As : List Ent) (Q : Exit → Act → World → Prop) : Prop :=
  tame ops = true → ∀ fuel listed, t.depth ≤ fuel → t.ok ops listed = true → ∀ a w, OkA N a e → St w0 w As → wpOpIn (fen N.ro) 0 P ops Q i (fun a' w' => CondL .any ops (Rs.SW w0) (Rs.ZW w0) i w w' ∧ wpAnyL N.ro P .any ops Q (Rs.SW w0) (Rs.ZW w0) fuel listed a' w') a w
def TTs (P : Program) (N : Ctx) (w0 : World) (ops : Array Oper) (Rs : RsP) (l : List (Nat × Tree)) (e : Env) (As : List Ent) (Q : Exit → Act → World → Prop) : Prop :=
  ∀ p ∈ l, T1 P N w0 ops Rs p.1 p.2 e As Q
theorem TT.done (h : Post N w0 Q .normal e As) : TT P N w0 ops Rs .done e As Q := by
  intro _ fuel listed _ hok a w ha hs _
  have hr : Region.ready .any ops listed = [] := by simpa [Tree.ok, List.isEmpty_iff] using hok
  have hq := h.out a w ha hs
  cases fuel with
  | zero => exact ⟨hr, hq⟩
  | succ n => exact ⟨fun _ => hq, by rw [hr]; intro i hi; cases hi⟩
theorem TT.take {i d : Nat} {op : Op} {ty : TypeId} {pos : String} {af : Array Edge} {g : Option (Nat × Bool)} {v : Value} (ho : ops[i]? = some ⟨some d, op, ty, pos, af, g⟩) (hg : gOk ops e g = some true) (hN : Nat.blt d N.N = true) (hx : ExF P N w0 op ty e Rs.r0 v) [hp : PanicOk Q] (h : TT P N w0 ops Rs t ((d, v) :: e) As Q) : TT P N w0 ops Rs (.take i t) e As Q := by
  intro hsel fuel listed hd hok a w ha hs hrs
  simp only [Tree.depth] at hd
  simp only [Tree.ok, Bool.and_eq_true] at hok
  obtain ⟨⟨h1, h2⟩, h3⟩ := hok
  cases fuel with
  | zero => omega
  | succ n =>
    refine wpAnyL.first (I := Rs.SW w0) ho hsel (fun c a w => hp.h c a _ v w) (fun w h _ => h) n listed a w h2 (by simpa using h1) ?_ hrs ?_
    · refine .inl ⟨gOk.wanted (o := ⟨some d, op, ty, pos, af, g⟩) ha hg, fun w' hw' => ?_⟩
      unfold ExF at hx
      exact hx a w' ha hw' _ _ _ _
    · exact h hsel n _ (by omega) h3 _ w (ha.put hN v) hs hrs
/-- an operation that looks at entries of its own -/
theorem TT.takeM {i d : Nat} {op : Op} {ty : TypeId} {pos : String} {af : Array Edge} {g : Option (Nat × Bool)} {v : Value} [hm : MemT Rs.own i R] (ho : ops[i]? = some ⟨some d, op, ty, pos, af, g⟩) (hg : gOk ops e g = some true) (hN : Nat.blt d N.N = true) (hA : Ents As R) (hx : ExF P N w0 op ty e R v) [hp : PanicOk Q] (h : TT P N w0 ops Rs t ((d, v) :: e) As Q) : TT P N w0 ops Rs (.take i t) e As Q := by
  intro hsel fuel listed hd hok a w ha hs hrs
  simp only [Tree.depth] at hd
  simp only [Tree.ok, Bool.and_eq_true] at hok
  obtain ⟨⟨h1, h2⟩, h3⟩ := hok
  cases fuel with
  | zero => omega
  | succ n =>
    refine wpAnyL.first (I := fun w => St w0 w R) ho hsel (fun c a w => hp.h c a _ v w) (fun w _ hz => hz R hm.mem) n listed a w h2 (by simpa using h1) ?_ (hA w0 w hs) ?_
    · refine .inl ⟨gOk.wanted (o := ⟨some d, op, ty, pos, af, g⟩) ha hg, fun w' hw' => ?_⟩
      unfold ExF at hx
      exact hx a w' ha hw' _ _ _ _
    · exact h hsel n _ (by omega) h3 _ w (ha.put hN v) hs hrs
theorem TT.takeOff {i d : Nat} {op : Op} {ty : TypeId} {pos : String} {af : Array Edge} {g : Option (Nat × Bool)} (ho : ops[i]? = some ⟨some d, op, ty, pos, af, g⟩) (hg : gOk ops e g = some false) (hN : Nat.blt d N.N = true) [hp : PanicOk Q] (h : TT P N w0 ops Rs t ((d, undef) :: e) As Q) : TT P N w0 ops Rs (.take i t) e As Q := by
  intro hsel fuel listed hd hok a w ha hs hrs
  simp only [Tree.depth] at hd
  simp only [Tree.ok, Bool.and_eq_true] at hok
  obtain ⟨⟨h1, h2⟩, h3⟩ := hok
  cases fuel with
  | zero => omega
  | succ n =>
    refine wpAnyL.first (I := Rs.SW w0) ho hsel (fun c a w => hp.h c a _ undef w) (fun w h _ => h) n listed a w h2 (by simpa using h1) ?_ hrs ?_
    · exact .inr ⟨gOk.wanted (o := ⟨some d, op, ty, pos, af, g⟩) ha hg, rfl⟩
    · exact h hsel n _ (by omega) h3 _ w (ha.put hN undef) hs hrs
theorem TT.know {d : Nat} {b c : Bool} (he : e.get d = some (.bool b)) (hb : b = c) (h : TT P N w0 ops Rs t ((d, .bool c) :: e) As Q) : TT P N w0 ops Rs t e As Q :=
  fun h0 fuel listed hd hok a w ha hs hrs => h h0 fuel listed hd hok a w (ha.know he hb) hs hrs
theorem T1.know {i d : Nat} {b c : Bool} (he : e.get d = some (.bool b)) (hb : b = c) (h : T1 P N w0 ops Rs i t ((d, .bool c) :: e) As Q) : T1 P N w0 ops Rs i t e As Q :=
  fun h0 fuel listed hd hok a w ha hs => h h0 fuel listed hd hok a w (ha.know he hb) hs
section
variable {i d : Nat} {o : Oper} {p : Prop} [Decidable p]
theorem TT.gsplit (_ho : ops[i]? = some o) (_hd : gslot ops o.guard = some d) (he : e.get d = some (.bool (decide p))) (h1 : p → TT P N w0 ops Rs (.take i t) ((d, .bool true) :: e) As Q) (h0 : ¬ p → TT P N w0 ops Rs (.take i t) ((d, .bool false) :: e) As Q) : TT P N w0 ops Rs (.take i t) e As Q := by
  by_cases h : p
  · exact TT.know he (decide_eq_true h) (h1 h)
  · exact TT.know he (decide_eq_false h) (h0 h)
theorem TT.gsplitN (_ho : ops[i]? = some o) (_hd : gslot ops o.guard = some d) (he : e.get d = some (.bool !(decide p))) (h1 : ¬ p → TT P N w0 ops Rs (.take i t) ((d, .bool true) :: e) As Q) (h0 : p → TT P N w0 ops Rs (.take i t) ((d, .bool false) :: e) As Q) : TT P N w0 ops Rs (.take i t) e As Q := by
  by_cases h : p
  · exact TT.know he (by simp [h]) (h0 h)
  · exact TT.know he (by simp [h]) (h1 h)
theorem TT.gT (_ho : ops[i]? = some o) (_hd : gslot ops o.guard = some d) (he : e.get d = some (.bool (decide p))) (h : p) (k : TT P N w0 ops Rs (.take i t) ((d, .bool true) :: e) As Q) : TT P N w0 ops Rs (.take i t) e As Q := TT.know he (decide_eq_true h) k
theorem TT.gF (_ho : ops[i]? = some o) (_hd : gslot ops o.guard = some d) (he : e.get d = some (.bool (decide p))) (h : ¬ p) (k : TT P N w0 ops Rs (.take i t) ((d, .bool false) :: e) As Q) : TT P N w0 ops Rs (.take i t) e As Q := TT.know he (decide_eq_false h) k
theorem TT.gNT (_ho : ops[i]? = some o) (_hd : gslot ops o.guard = some d) (he : e.get d = some (.bool !(decide p))) (h : ¬ p) (k : TT P N w0 ops Rs (.take i t) ((d, .bool true) :: e) As Q) : TT P N w0 ops Rs (.take i t) e As Q := TT.know he (by simp [h]) k
theorem TT.gNF (_ho : ops[i]? = some o) (_hd : gslot ops o.guard = some d) (he : e.get d = some (.bool !(decide p))) (h : p) (k : TT P N w0 ops Rs (.take i t) ((d, .bool false) :: e) As Q) : TT P N w0 ops Rs (.take i t) e As Q := TT.know he (by simp [h]) k
end
theorem depth_le : ∀ {l : List (Nat × Tree)} {p : Nat × Tree}, p ∈ l → p.2.depth ≤ Tree.depths l
  | q :: r, p, hp => by
    rcases List.mem_cons.1 hp with rfl | hp
    · exact Nat.le_max_left _ _
    · exact Nat.le_trans (depth_le hp) (Nat.le_max_right _ _)
theorem oks_of {listed : Array Bool} : ∀ {l : List (Nat × Tree)} {p : Nat × Tree}, p ∈ l → Tree.oks ops listed l = true → p.2.ok ops (listed.setIfInBounds p.1 true) = true
  | (i, t) :: r, p, hp, h => by
    simp only [Tree.oks, Bool.and_eq_true] at h
    rcases List.mem_cons.1 hp with rfl | hp
    · exact h.1
    · exact oks_of hp h.2
theorem TT.all {l : List (Nat × Tree)} (h : TTs P N w0 ops Rs l e As Q) : TT P N w0 ops Rs (.all l) e As Q := by
  intro hsel fuel listed hd hok a w ha hs hrs
  simp only [Tree.depth] at hd
  simp only [Tree.ok, Bool.and_eq_true, beq_iff_eq] at hok
  obtain ⟨⟨h1, h2⟩, h3⟩ := hok
  cases fuel with
  | zero => omega
  | succ n =>
    refine ⟨fun h0 => ?_, fun i hi => ?_⟩
    · rw [h1] at h0
      have : l = [] := by simpa using h0
      subst this; cases h2
    · rw [h1] at hi
      obtain ⟨p, hp, rfl⟩ := List.mem_map.1 hi
      exact h p hp hsel n _ (Nat.le_trans (depth_le hp) (by omega)) (oks_of hp h3) a w ha hs
theorem TTs.nil : TTs P N w0 ops Rs [] e As Q := fun _ h => by cases h
theorem TTs.cons {i : Nat} {l : List (Nat × Tree)} (h : T1 P N w0 ops Rs i t e As Q) (k : TTs P N w0 ops Rs l e As Q) : TTs P N w0 ops Rs ((i, t) :: l) e As Q := fun p hp => by
  rcases List.mem_cons.1 hp with rfl | hp
  · exact h
  · exact k p hp
/-- what the others look at is still there behind operation i, or they had to come before it -/
def Keep (ops : Array Oper) (i : Nat) (As : List Ent) (l : List (Nat × List Ent)) : Prop := ∀ k x, (k, x) ∈ l → waits .any ops i k = true ∨ Ents As x
theorem Keep.nil {i : Nat} : Keep ops i As [] := fun _ _ h => by cases h
theorem Keep.w {i k : Nat} {x : List Ent} {l : List (Nat × List Ent)} (hw : waits .any ops i k = true) (h : Keep ops i As l) : Keep ops i As ((k, x) :: l) := fun k' x' hm => by
  rcases List.mem_cons.1 hm with he | hm
  · cases he; exact .inl hw
  · exact h k' x' hm
theorem Keep.c {i k : Nat} {x : List Ent} {l : List (Nat × List Ent)} (hc : Ents As x) (h : Keep ops i As l) : Keep ops i As ((k, x) :: l) := fun k' x' hm => by
  rcases List.mem_cons.1 hm with he | hm
  · cases he; exact .inr hc
  · exact h k' x' hm
/-- what is behind an operation: the entries Rs are still there and the tree goes on; or it waited for all others and was the last -/
def TC (P : Program) (N : Ctx) (w0 : World) (ops : Array Oper) (Rs : RsP) (i : Nat) (t : Tree) (e : Env) (As : List Ent) (Q : Exit → Act → World → Prop) : Prop :=
  (Ents As Rs.r0 ∧ Keep ops i As Rs.own ∧ TT P N w0 ops Rs t e As Q) ∨ (sinkAt .any ops i = true ∧ t = .done ∧ Post N w0 Q .normal e As)
theorem TC.go {i : Nat} [h : Cov As Rs.r0] (hk : Keep ops i As Rs.own) (k : TT P N w0 ops Rs t e As Q) : TC P N w0 ops Rs i t e As Q := .inl ⟨Ents.of_cov h, hk, k⟩
theorem TC.fin {i : Nat} (h : sinkAt .any ops i = true) (k : Post N w0 Q .normal e As) : TC P N w0 ops Rs i .done e As Q := .inr ⟨h, rfl, k⟩
theorem TC.out {i : Nat} (h : TC P N w0 ops Rs i t e As Q) (hsel : tame ops = true) {fuel : Nat} {listed : Array Bool} (hd : t.depth ≤ fuel) (hok : t.ok ops listed = true) {a : Act} {w w1 : World} (ha : OkA N a e) (hs : St w0 w As) :
    CondL .any ops (Rs.SW w0) (Rs.ZW w0) i w1 w ∧ wpAnyL N.ro P .any ops Q (Rs.SW w0) (Rs.ZW w0) fuel listed a w := by
  rcases h with ⟨h1, h0, h2⟩ | ⟨h1, rfl, h2⟩
  · refine ⟨.inr (.inr ⟨h1 w0 w hs, fun k => ?_⟩), h2 hsel fuel listed hd hok a w ha hs (h1 w0 w hs)⟩
    by_cases hw : waits .any ops i k = true
    · exact .inl hw
    · exact .inr fun x hx => by
        rcases h0 k x hx with h3 | h3
        · exact absurd h3 hw
        · exact h3 w0 w hs
  · have hr : Region.ready .any ops listed = [] := by simpa [Tree.ok, List.isEmpty_iff] using hok
    have hq := h2.out a w ha hs
    refine ⟨.inl h1, ?_⟩
    cases fuel with
    | zero => exact ⟨hr, hq⟩
    | succ n => exact ⟨fun _ => hq, by rw [hr]; intro i hi; cases hi⟩
section
variable {i d : Nat} {op : Op} {ty : TypeId} {pos : String} {af : Array Edge} {g : Option (Nat × Bool)} {v : Value}
theorem T1.rr {R : Value → List Ent → Prop} (ho : ops[i]? = some ⟨some d, op, ty, pos, af, g⟩) (hg : gOk ops e g = some true) (hN : Nat.blt d N.N = true) (hx : ExR P N w0 op ty e As R)
    (h : ∀ v As', R v As' → TC P N w0 ops Rs i t ((d, v) :: e) As' Q) : T1 P N w0 ops Rs i t e As Q := by
  intro hsel fuel listed hd hok a w ha hs
  unfold wpOpIn
  simp only [ho]
  rw [gOk.wanted (o := ⟨some d, op, ty, pos, af, g⟩) ha hg, if_pos rfl]
  unfold ExR at hx
  obtain ⟨v, w', As', hrun, hr, hs'⟩ := hx a w ha hs (some d) pos af g
  refine ⟨fun _ _ => trivial, ?_⟩
  show Oper.uponIn (fen N.ro) 0 P _ a _ Q ((Oper.semAt N.ro a.eval _).run P w)
  rw [semAt_eq' hrun (by intro d; simp), hrun, Oper.uponIn_value]
  exact (h v As' hr).out hsel hd hok (ha.put hN v) hs'
theorem T1.rb {f : Nat → Value} {A : Nat → List Ent} (ho : ops[i]? = some ⟨some d, op, ty, pos, af, g⟩) (hg : gOk ops e g = some true) (hN : Nat.blt d N.N = true) (hx : ExR P N w0 op ty e As (RB f A))
    (h : ∀ b, TC P N w0 ops Rs i t ((d, f b) :: e) (A b) Q) : T1 P N w0 ops Rs i t e As Q := T1.rr ho hg hN hx (fun _ _ ⟨b, h1, h2⟩ => by subst h1; subst h2; exact h b)
theorem T1.f (ho : ops[i]? = some ⟨some d, op, ty, pos, af, g⟩) (hg : gOk ops e g = some true) (hN : Nat.blt d N.N = true) (hx : ExF P N w0 op ty e As v)
    (h : TC P N w0 ops Rs i t ((d, v) :: e) As Q) : T1 P N w0 ops Rs i t e As Q := by
  refine T1.rr (R := fun u Bs => u = v ∧ Bs = As) ho hg hN ?_ (fun u Bs ⟨h1, h2⟩ => by subst h1; subst h2; exact h)
  unfold ExR
  unfold ExF at hx
  exact fun a w ha hs d pos af g => ⟨v, w, As, hx a w ha hs d pos af g, ⟨rfl, rfl⟩, hs⟩
theorem T1.u (ho : ops[i]? = some ⟨none, op, ty, pos, af, g⟩) (hg : gOk ops e g = some true) (hx : ExU P N w0 op ty e As As') (h : TC P N w0 ops Rs i t e As' Q) : T1 P N w0 ops Rs i t e As Q := by
  intro hsel fuel listed hd hok a w ha hs
  unfold wpOpIn
  simp only [ho]
  rw [gOk.wanted (o := ⟨none, op, ty, pos, af, g⟩) ha hg, if_pos rfl]
  unfold ExU at hx
  obtain ⟨w', hrun, hs'⟩ := hx a w ha hs none pos af g
  refine ⟨fun _ _ => trivial, ?_⟩
  show Oper.uponIn (fen N.ro) 0 P _ a _ Q ((Oper.semAt N.ro a.eval _).run P w)
  rw [semAt_eq' hrun (by intro d; simp), hrun]
  exact h.out hsel hd hok ha hs'
theorem T1.off (ho : ops[i]? = some ⟨some d, op, ty, pos, af, g⟩) (hg : gOk ops e g = some false) (hN : Nat.blt d N.N = true) (h : TC P N w0 ops Rs i t ((d, undef) :: e) As Q) : T1 P N w0 ops Rs i t e As Q := by
  intro hsel fuel listed hd hok a w ha hs
  unfold wpOpIn
  simp only [ho]
  rw [gOk.wanted (o := ⟨some d, op, ty, pos, af, g⟩) ha hg, if_neg (by decide)]
  exact ⟨fun _ _ => trivial, h.out hsel hd hok (ha.put hN undef) hs⟩
theorem T1.off0 (ho : ops[i]? = some ⟨none, op, ty, pos, af, g⟩) (hg : gOk ops e g = some false) (h : TC P N w0 ops Rs i t e As Q) : T1 P N w0 ops Rs i t e As Q := by
  intro hsel fuel listed hd hok a w ha hs
  unfold wpOpIn
  simp only [ho]
  rw [gOk.wanted (o := ⟨none, op, ty, pos, af, g⟩) ha hg, if_neg (by decide)]
  exact ⟨fun _ _ => trivial, h.out hsel hd hok ha hs⟩
theorem T1.callK {f : FuncId} {args : List Value} {K : Value → List Ent → Prop} (ho : ops[i]? = some ⟨some d, op, ty, pos, af, g⟩) (hg : gOk ops e g = some true) (hN : Nat.blt d N.N = true)
    (hx : ∀ a w, OkA N a e → (execOp a.eval ⟨some d, op, ty, pos, af, g⟩).run P w = .ok (.enter f args.toArray) w) (hc : CallsS P w0 f args As K)
    (h : ∀ v As', K v As' → TC P N w0 ops Rs i t ((d, v) :: e) As' Q) : T1 P N w0 ops Rs i t e As Q := by
  intro hsel fuel listed hd hok a w ha hs
  unfold wpOpIn
  simp only [ho]
  rw [gOk.wanted (o := ⟨some d, op, ty, pos, af, g⟩) ha hg, if_pos rfl]
  refine ⟨fun _ _ => trivial, ?_⟩
  show Oper.uponIn (fen N.ro) 0 P _ a _ Q ((Oper.semAt N.ro a.eval _).run P w)
  rw [semAt_eq' (hx a w ha) (by intro d; simp), hx a w ha]
  refine ⟨fun h => (by cases h), calls_fen ((hc.out w hs).mono fun en w' ⟨v, As', h1, h2, h3⟩ => ?_)⟩
  subst h1
  exact (h v As' h2).out hsel hd hok (ha.put hN v) h3
theorem T1.call {f : FuncId} {xs : Array Operand} {vs : List Value} {tys : Array TypeId} {K : Value → List Ent → Prop} [Body P f] (ho : ops[i]? = some ⟨some d, .call ⟨.value (.func f), xs, tys⟩, ty, pos, af, g⟩) (hg : gOk ops e g = some true) (hN : Nat.blt d N.N = true)
    (hxs : evs e xs.toList = some vs) (hc : CallsS P w0 f vs As K) (h : ∀ v As', K v As' → TC P N w0 ops Rs i t ((d, v) :: e) As' Q) : T1 P N w0 ops Rs i t e As Q :=
  T1.callK ho hg hN (fun a w ha => exec_callf hxs a w ha) hc h
end
class Mix (P : Program) : Prop where
  h : P.follows .mixedOrders = true
theorem Tri.drawT [hm : Mix P] {id : Nat} (Rs : RsP) (t : Tree) (hd : Nat.ble t.depth ops.size = true) (hok : (tame ops && t.ok ops (Array.replicate ops.size false)) = true) (hR : Ents As Rs.r0) (h : TT P N w0 ops Rs t e As Q) : Tri P N w0 (.region id ops true) e As Q :=
  Tri.mk fun a w ha hs => wpIn_region_any hm.h (wpAnyL.any _ _ _ _ (h (by simpa using (Bool.and_eq_true _ _ ▸ hok).1) _ _ (Nat.le_of_ble_eq_true hd) (Bool.and_eq_true _ _ ▸ hok).2 a w.drew ha hs.drew (hR w0 _ hs.drew)))
theorem Tri.drawR [hm : Mix P] {id : Nat} {Rs : List Ent} (t : Tree) (hd : Nat.ble t.depth ops.size = true) (hok : (tame ops && t.ok ops (Array.replicate ops.size false)) = true) (hR : Ents As Rs) (h : TT P N w0 ops ⟨Rs, []⟩ t e As Q) : Tri P N w0 (.region id ops true) e As Q :=
  Tri.drawT ⟨Rs, []⟩ t hd hok hR h
theorem Tri.draw [Mix P] {id : Nat} (t : Tree) (hd : Nat.ble t.depth ops.size = true) (hok : (tame ops && t.ok ops (Array.replicate ops.size false)) = true) (h : TT P N w0 ops ⟨As, []⟩ t e As Q) : Tri P N w0 (.region id ops true) e As Q :=
  Tri.drawR t hd hok (Ents.refl As) h
end
attribute [irreducible] TT T1 TTs TC
end Go.Sx
