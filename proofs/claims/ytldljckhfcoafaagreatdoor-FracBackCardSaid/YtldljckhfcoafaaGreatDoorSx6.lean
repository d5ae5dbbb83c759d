/- The engine, part 6: function values, objects, range over a function. -/
import Derived.Test.YtldljckhfcoafaaGreatDoorSx5
import Derived.RangeFuncIn
namespace Go.Sx
open Go
section
variable {P : Program} {N : Ctx} {w0 : World} {e : Env} {As As' rest : List Ent} {Q : Exit → Act → World → Prop} {ty : TypeId} {ops : Array Oper} {r : List Oper} {op : Op} {pos : String} {af : Array Edge} {g : Option (Nat × Bool)} {d : Nat} {x : Operand}

/-! objects -/
theorem St.getO {b : Nat} {o : Obj} [h : TakeO As b o rest] {w : World} (hs : St w0 w As) : w.heap[b]? = some o := by
  obtain ⟨H, bs, g⟩ := hs
  obtain ⟨bs', _, k⟩ := Sat.perm h.perm g.sat
  obtain ⟨_, _, hw, _⟩ := k
  exact hw
theorem St.setHeap {w : World} {x x' : Ent} {b : Nat} {o o' : Obj} (hx : ∀ w H, Sat w H [x] [b] ↔ w.heap[b]? = some o) (hx' : ∀ w H, Sat w H [x'] [b] ↔ w.heap[b]? = some o') (hs : St w0 w (x :: rest)) (hone : ∀ w H bs, Sat w H [x] bs → bs = [b]) : St w0 { w with heap := w.heap.setIfInBounds b o' } (x' :: rest) := by
  obtain ⟨H, bs, g⟩ := hs
  obtain ⟨b1, b2, rfl, h1, h2⟩ := Sat.cons.1 g.sat
  have hb1 := hone _ _ _ h1
  subst hb1
  have hw := (hx w H).1 h1
  have hlt : b < w.heap.size := (Array.getElem?_eq_some_iff.1 hw).1
  have hother : ∀ k, k ≠ b → ({ w with heap := w.heap.setIfInBounds b o' } : World).heap[k]? = w.heap[k]? := fun k hk => by
    show (w.heap.setIfInBounds b o')[k]? = _
    rw [Array.getElem?_setIfInBounds, if_neg (Ne.symm hk)]
  have hb : ∀ k, H k ≠ none → k ≠ b := fun k hk he => hk (by subst he; exact g.ap _ (List.mem_append_left _ (List.mem_singleton.2 rfl)))
  refine ⟨H, [b] ++ b2, by simpa using g.size, g.os, g.tape, g.output, fun k o hk => ?_, g.old, Sat.cons.2 ⟨[b], b2, rfl, (hx' _ H).2 ?_, Sat.move (FH.le_refl H) h2 fun k hk => hother k fun he => ?_⟩, g.nd, g.ap⟩
  · rw [hother k (hb k (by rw [hk]; simp))]; exact g.fz k o hk
  · show (w.heap.setIfInBounds b o')[b]? = _
    rw [Array.getElem?_setIfInBounds, if_pos rfl, if_pos hlt]
  · subst he
    exact (List.nodup_cons.1 g.nd).1 hk
theorem St.setO {b : Nat} {o : Obj} [h : TakeO As b o rest] {w : World} (hs : St w0 w As) (o' : Obj) : St w0 { w with heap := w.heap.setIfInBounds b o' } (.ob b o' :: rest) := by
  refine St.setHeap (x := .ob b o) (o := o) ?_ ?_ (Ents.perm h.perm w0 w hs) ?_
  · intro w H; exact ⟨fun ⟨_, h1, h2, _⟩ => h2, fun h => ⟨[], rfl, h, rfl⟩⟩
  · intro w H; exact ⟨fun ⟨_, h1, h2, _⟩ => h2, fun h => ⟨[], rfl, h, rfl⟩⟩
  · intro w H bs hs
    obtain ⟨bs', h1, _, h3⟩ := hs
    simp only [Sat] at h3
    rw [h1, h3]
theorem run_getO {b : Nat} {o : Obj} {w : World} (h : w.heap[b]? = some o) (hc : ∀ c t f, o ≠ .cells c t f) : (getObj b).run P w = .ok o w := by
  unfold getObj
  simp only [Sem.run, h]
theorem run_setO {b : Nat} {o o' : Obj} {w : World} (h : w.heap[b]? = some o) (hc : ∀ c t f, o ≠ .cells c t f) : (setObj b o').run P w = .ok () { w with heap := w.heap.setIfInBounds b o' } := by
  unfold setObj
  simp only [Sem.run, h]

/-! function values -/
theorem exec_callv {f : FuncId} {xs : Array Operand} {vs fst cap : List Value} {tys : Array TypeId} {dd : Option Tmp} [hb : Body P f] (hx : ev e x = some (.func (.func f) fst.toArray cap.toArray)) (hxs : evs e xs.toList = some vs) (a : Act) (w : World) (ha : OkA N a e) :
    (execOp a.eval { dst := dd, op := .call { callee := .value x, args := xs, argTypes := tys }, type := ty, pos := pos, after := af, guard := g }).run P w = .ok (.enter f (fst ++ (vs ++ cap)).toArray) w := by
  have h1 : xs.map a.eval = vs.toArray := by
    apply Array.toList_inj.1
    rw [Array.toList_map, ha.evals hxs]
  simp only [execOp, resolve, ha.eval hx, Deferred.ofValue]
  simp only [Sem.run_bind, Sem.run_pure, Result.andThen_ok, invoke]
  simp [h1, hb.run]
theorem TL.callv {f : FuncId} {xs : Array Operand} {vs fst cap : List Value} {tys : Array TypeId} {K : Value → List Ent → Prop} [Body P f] (hg : gOk ops e g = some true) (hN : Nat.blt d N.N = true) (hx : ev e x = some (.func (.func f) fst.toArray cap.toArray)) (hxs : evs e xs.toList = some vs)
    (hc : CallsS P w0 f (fst ++ (vs ++ cap)) As K) (h : ∀ v As', K v As' → TL P N w0 ops r ((d, v) :: e) As' Q) : TL P N w0 ops (⟨some d, .call ⟨.value x, xs, tys⟩, ty, pos, af, g⟩ :: r) e As Q :=
  TL.callK K hg rfl hN (fun a w ha => exec_callv hx hxs a w ha) hc h
theorem T1.callv {i : Nat} {t : Tree} {Rs : RsP} {f : FuncId} {xs : Array Operand} {vs fst cap : List Value} {tys : Array TypeId} {K : Value → List Ent → Prop} [Body P f] (ho : ops[i]? = some ⟨some d, .call ⟨.value x, xs, tys⟩, ty, pos, af, g⟩) (hg : gOk ops e g = some true) (hN : Nat.blt d N.N = true)
    (hx : ev e x = some (.func (.func f) fst.toArray cap.toArray)) (hxs : evs e xs.toList = some vs) (hc : CallsS P w0 f (fst ++ (vs ++ cap)) As K) (h : ∀ v As', K v As' → TC P N w0 ops Rs i t ((d, v) :: e) As' Q) : T1 P N w0 ops Rs i t e As Q :=
  T1.callK ho hg hN (fun a w ha => exec_callv hx hxs a w ha) hc h

/-! yield -/
theorem round_fen {ro : Option Nat} {n l : Nat} {f : FuncId} {tmps : Array Value} {x y : Code} {w : World} {R : Ending → World → Prop} (h : RoundIn (fen none) n P l f tmps x y w R) : RoundIn (fen ro) n P l f tmps x y w R := h
def setTmps (ps : Array Tmp) (vs : Array Value) (tmps : Array Value) : Array Value := (ps.zip vs).foldl (fun tmps (t, a) => tmps.setIfInBounds t a) tmps
/-- one round of the loop l, with the arguments vs -/
def YieldS (P : Program) (w0 : World) (l : Nat) (L : Loop) (vs : List Value) (As : List Ent) (K : Value → List Ent → Prop) : Prop :=
  ∀ w, St w0 w As → RoundIn (fen none) 0 P l L.fn (setTmps L.params vs.toArray L.tmps) L.assign L.body w fun en w' => ∃ v As', en = .returned v ∧ K v As' ∧ St w0 w' As'
theorem exec_yield {l : Nat} {L : Loop} {xs : Array Operand} {vs : List Value} {tys : Array TypeId} {dd : Option Tmp} [TakeO As l (.loop L) rest] (hx : ev e x = some (.func (.yield l) #[] #[])) (hxs : evs e xs.toList = some vs) (hn : vs.length = L.params.size) (a : Act) (w : World) (ha : OkA N a e) (hs : St w0 w As) :
    (execOp a.eval { dst := dd, op := .call { callee := .value x, args := xs, argTypes := tys }, type := ty, pos := pos, after := af, guard := g }).run P w = .ok (.round l L.fn (setTmps L.params vs.toArray L.tmps) L.assign L.body) w := by
  have h1 : xs.map a.eval = vs.toArray := by
    apply Array.toList_inj.1
    rw [Array.toList_map, ha.evals hxs]
  have hw := St.getO (b := l) (o := .loop L) (rest := rest) hs
  have hget : (Instr.getLoop l).run P w = .ok L w := by
    unfold Instr.getLoop
    simp only [Sem.run_bind, run_getO (P := P) hw (by intro c t f; simp), Result.andThen_ok]
    rfl
  simp only [execOp, resolve, ha.eval hx, Deferred.ofValue]
  simp only [Sem.run_bind, Sem.run_pure, Result.andThen_ok, invoke, Instr.yield, hget]
  simp [h1, hn, setTmps]
theorem TL.yield {l : Nat} {L : Loop} {xs : Array Operand} {vs : List Value} {tys : Array TypeId} {K : Value → List Ent → Prop} [TakeO As l (.loop L) rest] (hg : gOk ops e g = some true) (hN : Nat.blt d N.N = true) (hx : ev e x = some (.func (.yield l) #[] #[])) (hxs : evs e xs.toList = some vs) (hn : vs.length = L.params.size)
    (hy : YieldS P w0 l L vs As K) (h : ∀ v As', K v As' → TL P N w0 ops r ((d, v) :: e) As' Q) : TL P N w0 ops (⟨some d, .call ⟨.value x, xs, tys⟩, ty, pos, af, g⟩ :: r) e As Q := by
  refine TL.step fun a w ha hs K' hK => ?_
  rw [gOk.wanted (o := ⟨some d, .call ⟨.value x, xs, tys⟩, ty, pos, af, g⟩) ha hg, if_pos rfl]
  have hrun := exec_yield (P := P) (rest := rest) (ty := ty) (pos := pos) (af := af) (g := g) (tys := tys) (dd := some d) hx hxs hn a w ha hs
  rw [semAt_eq' hrun (by intro d; simp), hrun]
  refine ⟨fun h => (by cases h), round_fen (RoundIn.mono (hy w hs) fun en w' ⟨v, As', h1, h2, h3⟩ => ?_)⟩
  subst h1
  exact hK _ _ _ _ (h v As' h2) (ha.put hN v) h3
theorem T1.yield {i : Nat} {t : Tree} {Rs : RsP} {l : Nat} {L : Loop} {xs : Array Operand} {vs : List Value} {tys : Array TypeId} {K : Value → List Ent → Prop} [TakeO As l (.loop L) rest] (ho : ops[i]? = some ⟨some d, .call ⟨.value x, xs, tys⟩, ty, pos, af, g⟩) (hg : gOk ops e g = some true) (hN : Nat.blt d N.N = true)
    (hx : ev e x = some (.func (.yield l) #[] #[])) (hxs : evs e xs.toList = some vs) (hn : vs.length = L.params.size)
    (hy : YieldS P w0 l L vs As K) (h : ∀ v As', K v As' → TC P N w0 ops Rs i t ((d, v) :: e) As' Q) : T1 P N w0 ops Rs i t e As Q := by
  unfold T1
  intro hsel fuel listed hd hok a w ha hs
  unfold wpOpIn
  simp only [ho]
  rw [gOk.wanted (o := ⟨some d, .call ⟨.value x, xs, tys⟩, ty, pos, af, g⟩) ha hg, if_pos rfl]
  have hrun := exec_yield (P := P) (rest := rest) (ty := ty) (pos := pos) (af := af) (g := g) (tys := tys) (dd := some d) hx hxs hn a w ha hs
  refine ⟨fun _ _ => trivial, ?_⟩
  show Oper.uponIn (fen N.ro) 0 P _ a _ Q ((Oper.semAt N.ro a.eval _).run P w)
  rw [semAt_eq' hrun (by intro d; simp), hrun]
  refine ⟨fun h => (by cases h), round_fen (RoundIn.mono (hy w hs) fun en w' ⟨v, As', h1, h2, h3⟩ => ?_)⟩
  subst h1
  exact (h v As' h2).out hsel hd hok (ha.put hN v) h3

theorem YieldS.conv {l : Nat} {L : Loop} {vs : List Value} {Bs : List Ent} {K K' : Value → List Ent → Prop} (k : YieldS P w0 l L vs Bs K) (h : Ents As Bs) (hk : ∀ v A, K v A → ∃ A', K' v A' ∧ Ents A A') : YieldS P w0 l L vs As K' := fun w hs =>
  RoundIn.mono (k w (h w0 w hs)) fun en w' ⟨v, A, h1, h2, h3⟩ => by
    obtain ⟨A', g1, g2⟩ := hk v A h2
    exact ⟨v, A', h1, g1, g2 _ _ h3⟩
/-! a round, out of its code -/
def penv : List Tmp → List Value → Env
  | p :: ps, v :: vs => (p, v) :: penv ps vs
  | _, _ => []
theorem setTmps_list (ps : List Tmp) (vs : List Value) (tmps : Array Value) : setTmps ps.toArray vs.toArray tmps = (ps.zip vs).foldl (fun t x => t.setIfInBounds x.1 x.2) tmps := by
  unfold setTmps
  rw [← Array.foldl_toList, Array.toList_zip]
/-- the parameters' slots get the arguments; they are different slots -/
theorem setTmps_ok {n : Nat} {l : Option Nat} : ∀ (ps : List Tmp) (vs : List Value) (tmps : Array Value) (e : Env), OkA ⟨n, l, []⟩ ⟨tmps, []⟩ e → ps.all (Nat.blt · n) = true → ps.Nodup → OkA ⟨n, l, []⟩ ⟨setTmps ps.toArray vs.toArray tmps, []⟩ (penv ps vs ++ e)
  | [], vs, tmps, e, h, _, _ => by simpa [setTmps_list, penv] using h
  | p :: ps, [], tmps, e, h, _, _ => by simpa [setTmps_list, penv] using h
  | p :: ps, v :: vs, tmps, e, h, hb, hn => by
    simp only [List.all_cons, Bool.and_eq_true] at hb
    have h1 : OkA ⟨n, l, []⟩ ⟨tmps.setIfInBounds p v, []⟩ ((p, v) :: e) := h.put hb.1 v
    have h2 := setTmps_ok ps vs _ _ h1 hb.2 (List.nodup_cons.1 hn).2
    have e1 : setTmps (p :: ps).toArray (v :: vs).toArray tmps = setTmps ps.toArray vs.toArray (tmps.setIfInBounds p v) := by rw [setTmps_list, setTmps_list]; rfl
    rw [e1]
    refine ⟨h2.defers, h2.size, fun k u hk => ?_⟩
    simp only [penv, List.cons_append, Env.get] at hk
    have hpn : p ∉ ps := (List.nodup_cons.1 hn).1
    have key : ∀ (ps : List Tmp) (vs : List Value), p ∉ ps → ((penv ps vs ++ (p, v) :: e).get p = some v) := by
      intro ps
      induction ps with
      | nil => intro vs _; simp [penv, Env.get]
      | cons q qs ih =>
        intro vs hq
        cases vs with
        | nil => simp [penv, Env.get]
        | cons u us =>
          simp only [List.mem_cons, not_or] at hq
          have : Nat.beq q p = false := by
            cases hb : Nat.beq q p with
            | false => rfl
            | true => exact absurd (Nat.eq_of_beq_eq_true hb).symm hq.1
          simp only [penv, List.cons_append, Env.get, this, cond_false]
          exact ih us hq.2
    have key2 : ∀ (ps : List Tmp) (vs : List Value) (k : Nat), Nat.beq p k = false → ((penv ps vs ++ (p, v) :: e).get k = (penv ps vs ++ e).get k) := by
      intro ps
      induction ps with
      | nil => intro vs k hk; simp [penv, Env.get, hk]
      | cons q qs ih =>
        intro vs k hk
        cases vs with
        | nil => simp [penv, Env.get, hk]
        | cons u us => simp only [penv, List.cons_append, Env.get]; rw [ih us k hk]
    cases hq : Nat.beq p k with
    | true =>
      rw [hq] at hk
      simp only [cond_true, Option.some.injEq] at hk
      subst hk
      rw [← Nat.eq_of_beq_eq_true hq]
      exact h2.holds p _ (key ps vs hpn)
    | false =>
      rw [hq] at hk
      exact h2.holds k u (by rw [key2 ps vs k hq]; exact hk)
def RK (w0 : World) (K : Value → List Ent → Prop) (en : Ending) (w' : World) : Prop := ∃ v As', en = .returned v ∧ K v As' ∧ St w0 w' As'
def RA (P : Program) (w0 : World) (l : Nat) (body : Code) (K : Value → List Ent → Prop) : Exit → Act → World → Prop :=
  Exit.then (fun a₁ w₁ => ∃ w₂, (Instr.beginRound l).run P w₁ = .ok () w₂ ∧ body.wpIn (fen (some l)) 0 P (roundPost P l (RK w0 K)) a₁ w₂) (fun _ _ _ => False)
instance {l : Nat} {K : Value → List Ent → Prop} {body : Code} : PanicOk (RA P w0 l body K) := ⟨fun _ _ _ _ _ h => h⟩
theorem YieldS.of {n l : Nat} {L : Loop} {ps : List Tmp} {vs : List Value} {K : Value → List Ent → Prop} {ca cb : Code} (hps : L.params = ps.toArray) (hca : L.assign = ca) (hcb : L.body = cb) (hb : ps.all (Nat.blt · n) = true) (hn : ps.Nodup) (ha : OkA ⟨n, some l, []⟩ ⟨L.tmps, []⟩ e)
    (h : Tri P ⟨n, some l, []⟩ w0 ca (penv ps vs ++ e) As (RA P w0 l cb K)) : YieldS P w0 l L vs As K := by
  intro w hs
  subst hca hcb
  rw [hps]
  exact roundIn_of_wpIn (F := fen none) trivial (h.out _ w (setTmps_ok ps vs L.tmps e ha hb hn) hs)
theorem run_getLoop {l : Nat} {L : Loop} {w : World} (h : w.heap[l]? = some (.loop L)) : (Instr.getLoop l).run P w = .ok L w := by
  unfold Instr.getLoop
  simp only [Sem.run_bind, run_getO (P := P) h (by intro c t f; simp), Result.andThen_ok]
  rfl
theorem Post.beginRound {n l : Nat} {L : Loop} {body : Code} {K : Value → List Ent → Prop} [TakeO As l (.loop L) rest] (hst : L.state = .ready) (h : Tri P ⟨n, some l, []⟩ w0 body e (.ob l (.loop { L with state := .busy }) :: rest) (roundPost P l (RK w0 K))) :
    Post ⟨n, some l, []⟩ w0 (RA P w0 l body K) .normal e As := Post.mk fun a w ha hs => by
  have hw := St.getO (b := l) (o := .loop L) (rest := rest) hs
  refine ⟨_, ?_, h.out a _ ha (St.setO (o := .loop L) (rest := rest) hs (.loop { L with state := .busy }))⟩
  unfold Instr.beginRound
  simp only [Sem.run_bind, run_getLoop hw, Result.andThen_ok, run_setO (P := P) hw (by intro c t f; simp), hst]
  rfl
theorem run_endRound {l : Nat} {L : Loop} {w : World} {j : Option Code} (h : w.heap[l]? = some (.loop L)) :
    (Instr.endRound l j).run P w = .ok (.bool j.isNone) { w with heap := w.heap.setIfInBounds l (.loop { L with state := if j.isNone then .ready else .done, pending := j }) } := by
  unfold Instr.endRound
  simp only [Sem.run_bind, run_getLoop h, Result.andThen_ok, run_setO (P := P) h (by intro c t f; simp)]
  rfl
theorem Post.endRound {l : Nat} {L : Loop} {K : Value → List Ent → Prop} [TakeO As l (.loop L) rest] (h : ∃ As', K (.bool true) As' ∧ Ents (.ob l (.loop { L with state := .ready, pending := none }) :: rest) As') : Post N w0 (roundPost P l (RK w0 K)) .normal e As := Post.mk fun a w ha hs => by
  have hw := St.getO (b := l) (o := .loop L) (rest := rest) hs
  obtain ⟨As', hk, hA⟩ := h
  exact ⟨_, _, run_endRound hw, _, As', rfl, hk, hA _ _ (St.setO (o := .loop L) (rest := rest) hs _)⟩
/-! the statement -/
def mark (rb : Nat) : Deferred := { target := .collected rb, args := #[] }
end
attribute [irreducible] YieldS
end Go.Sx
