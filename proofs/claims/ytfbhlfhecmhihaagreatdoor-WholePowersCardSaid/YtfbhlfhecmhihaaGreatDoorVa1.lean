/- Walks: the reference of the chapter on whole numbers: lists of digits. -/
import Derived.Test.YtfbhlfhecmhihaaGreatDoorWa4
import Derived.Test.YtfbhlfhecmhihaaGreatDoorPl
import Derived.Test.YtfbhlfhecmhihaaGreatDoorSxB
import Derived.Laws.IdiomStrings
namespace Go.Sx
open Go
section
variable {P : Program} {N : Ctx} {w0 : World} {e : Env} {As rest : List Ent} {ty : TypeId} {x : Operand}
/-- string(b) of bytes that lie in a block of their own -/
theorem ExF.convBS {t t' el T : TypeId} {b n cap : Nat} {cs : List Value} (l : List UInt8) [ht : UL P t (.slice el)] [he : UL P el (.int .u8)] [hd : UL P t' .string] (hx : ev e x = some (.slice (some ⟨b, 0, none⟩) n cap)) [TakeC As b cs T rest] (hl : cs = l.map fun c => Value.int .u8 (c.toNat : Int)) (hn : n = l.length) :
    ExF P N w0 (.convert t t' x) ty e As (.string ⟨l.toArray⟩) := by
  subst hn
  unfold ExF
  intro a w ha hs d pos af g
  have hw := St.getC (b := b) (l := cs) (T := T) (rest := rest) hs
  have := run_convert_bytes_back (P := P) w t t' el (some ⟨b, 0, none⟩).get! cap l ht.h he.h hd.h (fun j hj => by
    show w.cell? ((⟨b, 0, none⟩ : Addr).add j) = _
    rw [Addr.add_plain]
    simp only [World.cell?, hw, hl]
    simp [hj])
  simp only [execOp, ha.eval hx]
  simp only [Option.get!] at this
  simp [this]
end
end Go.Sx
namespace Go.Proofs.YtfbhlfhecmhihaaGreatDoor
open Go Go.Sx
variable {w0 : World} {As : List Ent}
instance : ElC Tryz.prog 3 Nat (cN .i64) 0 8 := ⟨by obtain ⟨i, h1, h2, h3, h4⟩ := (inferInstance : TI Tryz.prog 3 _ _ _).info; exact ⟨i, _, h1, h2, h3, h4, rfl⟩, by decide⟩
/-- a list of digits comes back -/
def QudR (As : List Ent) (n : Nat) (v : Value) (Bs : List Ent) : Prop := ∃ p cap, v = .slice p (qud n).length cap ∧ Bs = .ft (rd (cN .i64) v (qud n)) :: As
theorem qudR_of {f : FuncId} {args : List Value} {n : Nat} (h : CallsS Tryz.prog w0 f args As fun v Bs => Bs = .ft (rd (cN .i64) v (qud n)) :: As) : CallsS Tryz.prog w0 f args As (QudR As n) :=
  (CallsS.slc (cd := cN .i64) (xs := qud n) h fun v Bs h => by rw [h]; infer_instance).mono fun _ _ ⟨p, cap, h1, h2⟩ => ⟨p, cap, h1, h2⟩
theorem cut_ok {v : Value} {xs : List Nat} [hf : FtIn As v Nat (cN .i64) xs] (hs : ∀ d ∈ xs, d < 10000) (hl : xs.length ≤ 1000000000) : CallsS Tryz.prog w0 107 [v] As (QudR As (valQ xs)) := by
  refine qudR_of ?_
  rw [← trimL_qud hs]
  refine CallsS.of_tri Tryz.func107 rfl Tryz.ntmps107 rfl ?_
  (repeat' (first | ((show TL _ _ _ _ (_ :: _) _ _ _; first | refine TL.fa ?_ | refine TL.ua ?_ | (refine TL.rba ?_; intro _) | (refine TL.rra ?_; first | rintro _ _ ⟨rfl, rfl⟩ | rintro _ _ rfl) | refine TL.offa ?_ | refine TL.off0a ?_ | refine TL.gu ?_ | fail)) | (first | refine Stp.h ?_ | refine Post.then_normal ?_ | refine Post.next ?_ | refine Post.block_other rfl ?_) | ((show Tri _ _ _ (.cond _ _ _) _ _ _; first | refine Tri.cTa ?_ | refine Tri.cFa ?_ | refine Tri.condTa ?_ | refine Tri.condFa ?_ | refine Tri.condNTa ?_ | refine Tri.condNFa ?_ | fail))))
  refine Tri.loop (ι := Nat) (fun n => n ≤ xs.length ∧ trimL (xs.take n) = trimL xs) (fun n => n)
    (fun n => [(0, v), (3, .int .i64 (n : Int))]) (fun _ => As) xs.length ⟨Nat.le_refl _, by rw [List.take_length]⟩ (by (exact Sub.au)) (by (exact Ents.au)) ?_
  rintro n ⟨hn, ht⟩
  cases n with
  | zero =>
    (repeat' (first | ((show TL _ _ _ _ (_ :: _) _ _ _; first | refine TL.fa ?_ | refine TL.ua ?_ | (refine TL.rba ?_; intro _) | (refine TL.rra ?_; first | rintro _ _ ⟨rfl, rfl⟩ | rintro _ _ rfl) | refine TL.offa ?_ | refine TL.off0a ?_ | refine TL.gu ?_ | fail)) | (first | refine Stp.h ?_ | refine Post.then_normal ?_ | refine Post.next ?_ | refine Post.block_other rfl ?_) | ((show Tri _ _ _ (.cond _ _ _) _ _ _; first | refine Tri.cTa ?_ | refine Tri.cFa ?_ | refine Tri.condTa ?_ | refine Tri.condFa ?_ | refine Tri.condNTa ?_ | refine Tri.condNFa ?_ | fail))))
    ((try refine Post.ret_normal ?_); first | refine Post.r1a ?_ | refine Post.r2a ?_ | refine Post.r3a ?_ | refine Post.r0a ?_ | fail)
    refine ⟨_, rfl, ?_⟩
    rw [← ht, show trimL (xs.take 0) = (xs.drop 0).take (0 - 0) from rfl]
    (exact Ents.au)
  | succ n =>
    obtain ⟨d, hd⟩ : ∃ d, xs[n]? = some d := ⟨_, List.getElem?_eq_getElem (by omega)⟩
    have e1 : ((n + 1 : Nat) : Int) - 1 = (n : Int) := by omega
    have et : xs.take (n + 1) = xs.take n ++ [d] := by rw [List.take_add_one, hd]; rfl
    (repeat' (first | ((show TL _ _ _ _ (_ :: _) _ _ _; first | refine TL.fa ?_ | refine TL.ua ?_ | (refine TL.rba ?_; intro _) | (refine TL.rra ?_; first | rintro _ _ ⟨rfl, rfl⟩ | rintro _ _ rfl) | refine TL.offa ?_ | refine TL.off0a ?_ | refine TL.gu ?_ | fail)) | (first | refine Stp.h ?_ | refine Post.then_normal ?_ | refine Post.next ?_ | refine Post.block_other rfl ?_) | ((show Tri _ _ _ (.cond _ _ _) _ _ _; first | refine Tri.cTa ?_ | refine Tri.cFa ?_ | refine Tri.condTa ?_ | refine Tri.condFa ?_ | refine Tri.condNTa ?_ | refine Tri.condNFa ?_ | fail))))
    ((show Tri _ _ _ (.cond _ _ _) _ _ _; first | refine Tri.condP rfl (fun hc => ?_) (fun hc => ?_) | refine Tri.condN rfl (fun hc => ?_) (fun hc => ?_)))
    · have hd0 : d = 0 := by omega
      subst hd0
      (repeat' (first | ((show TL _ _ _ _ (_ :: _) _ _ _; first | refine TL.fa ?_ | refine TL.ua ?_ | (refine TL.rba ?_; intro _) | (refine TL.rra ?_; first | rintro _ _ ⟨rfl, rfl⟩ | rintro _ _ rfl) | refine TL.offa ?_ | refine TL.off0a ?_ | refine TL.gu ?_ | fail)) | (first | refine Stp.h ?_ | refine Post.then_normal ?_ | refine Post.next ?_ | refine Post.block_other rfl ?_) | ((show Tri _ _ _ (.cond _ _ _) _ _ _; first | refine Tri.cTa ?_ | refine Tri.cFa ?_ | refine Tri.condTa ?_ | refine Tri.condFa ?_ | refine Tri.condNTa ?_ | refine Tri.condNFa ?_ | fail))))
      exact Post.round n ⟨by omega, by rw [← ht, et, trimL_zero]⟩ (by omega) (by (exact Sub.au)) (by (exact Ents.au))
    · (repeat' (first | ((show TL _ _ _ _ (_ :: _) _ _ _; first | refine TL.fa ?_ | refine TL.ua ?_ | (refine TL.rba ?_; intro _) | (refine TL.rra ?_; first | rintro _ _ ⟨rfl, rfl⟩ | rintro _ _ rfl) | refine TL.offa ?_ | refine TL.off0a ?_ | refine TL.gu ?_ | fail)) | (first | refine Stp.h ?_ | refine Post.then_normal ?_ | refine Post.next ?_ | refine Post.block_other rfl ?_) | ((show Tri _ _ _ (.cond _ _ _) _ _ _; first | refine Tri.cTa ?_ | refine Tri.cFa ?_ | refine Tri.condTa ?_ | refine Tri.condFa ?_ | refine Tri.condNTa ?_ | refine Tri.condNFa ?_ | fail))))
      ((try refine Post.ret_normal ?_); first | refine Post.r1a ?_ | refine Post.r2a ?_ | refine Post.r3a ?_ | refine Post.r0a ?_ | fail)
      refine ⟨_, rfl, ?_⟩
      rw [← ht, et, trimL_snoc (by omega), ← et, show xs.take (n + 1) = (xs.drop 0).take (n + 1 - 0) by simp]
      (exact Ents.au)
/-- a number comes back -/
def PlainR (As : List Ent) (z : Int) (u : Value) (Bs : List Ent) : Prop := ∃ p cap, u = .agg #[.bool (decide (z < 0)), .slice p (qud z.natAbs).length cap] ∧ Bs = .ft (rd (cN .i64) (.slice p (qud z.natAbs).length cap) (qud z.natAbs)) :: As
theorem made_ok {b : Bool} {v : Value} {xs : List Nat} [hf : FtIn As v Nat (cN .i64) xs] (hs : ∀ d ∈ xs, d < 10000) (hl : xs.length ≤ 1000000000) {z : Int} (h1 : z.natAbs = valQ xs) (h2 : decide (z < 0) = (b && decide (valQ xs ≠ 0))) :
    CallsS Tryz.prog w0 75 [.bool b, v] As (PlainR As z) := by
  refine CallsS.of_tri Tryz.func75 rfl Tryz.ntmps75 rfl ?_
  unfold PlainR
  rw [h1, h2]
  have h0 : (0 < ((qud (valQ xs)).length : Int)) ↔ valQ xs ≠ 0 := by
    have := qud_len0 (n := valQ xs)
    constructor
    · intro h h'
      have := this.2 h'
      omega
    · intro h
      have h' : (qud (valQ xs)).length ≠ 0 := fun h' => h (this.1 h')
      omega
  (repeat' (first | ((show TL _ _ _ _ (_ :: _) _ _ _; first | refine TL.fa ?_ | refine TL.ua ?_ | (refine TL.rba ?_; intro _) | (refine TL.rra ?_; first | rintro _ _ ⟨rfl, rfl⟩ | rintro _ _ rfl) | refine TL.offa ?_ | refine TL.off0a ?_ | refine TL.gu ?_ | fail)) | (first | refine Stp.h ?_ | refine Post.then_normal ?_ | refine Post.next ?_ | refine Post.block_other rfl ?_) | ((show Tri _ _ _ (.cond _ _ _) _ _ _; first | refine Tri.cTa ?_ | refine Tri.cFa ?_ | refine Tri.condTa ?_ | refine Tri.condFa ?_ | refine Tri.condNTa ?_ | refine Tri.condNFa ?_ | fail))))
  refine TL.call rfl rfl rfl (cut_ok hs hl) ?_
  rintro _ _ ⟨p, cap, rfl, rfl⟩
  cases b
  · (repeat' (first | ((show TL _ _ _ _ (_ :: _) _ _ _; first | refine TL.fa ?_ | refine TL.ua ?_ | (refine TL.rba ?_; intro _) | (refine TL.rra ?_; first | rintro _ _ ⟨rfl, rfl⟩ | rintro _ _ rfl) | refine TL.offa ?_ | refine TL.off0a ?_ | refine TL.gu ?_ | fail)) | (first | refine Stp.h ?_ | refine Post.then_normal ?_ | refine Post.next ?_ | refine Post.block_other rfl ?_) | ((show Tri _ _ _ (.cond _ _ _) _ _ _; first | refine Tri.cTa ?_ | refine Tri.cFa ?_ | refine Tri.condTa ?_ | refine Tri.condFa ?_ | refine Tri.condNTa ?_ | refine Tri.condNFa ?_ | fail))))
    ((try refine Post.ret_normal ?_); first | refine Post.r1a ?_ | refine Post.r2a ?_ | refine Post.r3a ?_ | refine Post.r0a ?_ | fail)
    exact ⟨_, ⟨_, _, rfl, rfl⟩, by (exact Ents.au)⟩
  · (repeat' (first | ((show TL _ _ _ _ (_ :: _) _ _ _; first | refine TL.fa ?_ | refine TL.ua ?_ | (refine TL.rba ?_; intro _) | (refine TL.rra ?_; first | rintro _ _ ⟨rfl, rfl⟩ | rintro _ _ rfl) | refine TL.offa ?_ | refine TL.off0a ?_ | refine TL.gu ?_ | fail)) | (first | refine Stp.h ?_ | refine Post.then_normal ?_ | refine Post.next ?_ | refine Post.block_other rfl ?_) | ((show Tri _ _ _ (.cond _ _ _) _ _ _; first | refine Tri.cTa ?_ | refine Tri.cFa ?_ | refine Tri.condTa ?_ | refine Tri.condFa ?_ | refine Tri.condNTa ?_ | refine Tri.condNFa ?_ | fail))))
    ((try refine Post.ret_normal ?_); first | refine Post.r1a ?_ | refine Post.r2a ?_ | refine Post.r3a ?_ | refine Post.r0a ?_ | fail)
    refine ⟨_, ⟨p, cap, ?_, rfl⟩, by (exact Ents.au)⟩
    simp only [Bool.true_and, h0]
/-- a fresh list of digits, some of which may be 0 at the end -/
def RawR (As : List Ent) (n : Nat) (v : Value) (Bs : List Ent) : Prop := ∃ xs : List Nat, valQ xs = n ∧ (∀ d ∈ xs, d < 10000) ∧ xs.length ≤ 100000000 ∧ Bs = .ow (cN .i64) 3 v xs :: As
theorem sumR_ok {v o : Value} {a b : Nat} [hf : RdIn As v Nat (cN .i64) (qud a)] [hg : RdIn As o Nat (cN .i64) (qud b)] (ha : (qud a).length ≤ 10000000) (hb : (qud b).length ≤ 10000000) : CallsS Tryz.prog w0 103 [v, o] As (RawR As (a + b)) := by
  have hsa := qud_small a
  have hsb := qud_small b
  refine CallsS.of_tri Tryz.func103 rfl Tryz.ntmps103 rfl ?_
  (repeat' (first | ((show TL _ _ _ _ (_ :: _) _ _ _; first | refine TL.fa ?_ | refine TL.ua ?_ | (refine TL.rba ?_; intro _) | (refine TL.rra ?_; first | rintro _ _ ⟨rfl, rfl⟩ | rintro _ _ rfl) | refine TL.offa ?_ | refine TL.off0a ?_ | refine TL.gu ?_ | fail)) | (first | refine Stp.h ?_ | refine Post.then_normal ?_ | refine Post.next ?_ | refine Post.block_other rfl ?_) | ((show Tri _ _ _ (.cond _ _ _) _ _ _; first | refine Tri.cTa ?_ | refine Tri.cFa ?_ | refine Tri.condTa ?_ | refine Tri.condFa ?_ | refine Tri.condNTa ?_ | refine Tri.condNFa ?_ | fail))))
  refine Tri.ents (Ents.nilW (T := 3) (cN .i64)) ?_
  refine Tri.loop (ι := Nat × Value × List Nat × Nat) (fun s => s.1 ≤ max (qud a).length (qud b).length + 1 ∧ (s.1 = max (qud a).length (qud b).length + 1 → s.2.2.2 = 0) ∧ s.2.2.1.length = s.1 ∧ (∀ x ∈ s.2.2.1, x < 10000) ∧ s.2.2.2 ≤ 1 ∧ valQ s.2.2.1 + 10000 ^ s.1 * s.2.2.2 = valQ ((qud a).take s.1) + valQ ((qud b).take s.1)) (fun s => max (qud a).length (qud b).length + 1 - s.1)
    (fun s => [(0, v), (1, o), (5, s.2.1), (6, .int .i64 (s.2.2.2 : Int)), (7, .int .i64 (s.1 : Int))]) (fun s => .ow (cN .i64) 3 s.2.1 s.2.2.1 :: As)
    (0, .slice none 0 0, [], 0) ⟨by omega, fun h => rfl, rfl, (fun _ h => by cases h), Nat.zero_le 1, by simp [valQ]⟩ (by (exact Sub.au)) (by (exact Ents.au)) ?_
  rintro ⟨i, sv, xs, c⟩ ⟨hi, hic, hxl, hxs, hc1, hval⟩
  simp only at hi hic hxl hxs hc1 hval
  show Tri _ _ _ _ [(0, v), (1, o), (5, sv), (6, .int .i64 (c : Int)), (7, .int .i64 (i : Int))] (.ow (cN .i64) 3 sv xs :: As) _
  by_cases hgo : i < (qud a).length ∨ i < (qud b).length ∨ 0 < c
  · obtain ⟨d, hd9, hta, had⟩ : ∃ d, d < 10000 ∧ valQ ((qud a).take (i + 1)) = valQ ((qud a).take i) + 10000 ^ i * d ∧ ((i < (qud a).length ∧ (qud a)[i]? = some d) ∨ (¬ i < (qud a).length ∧ d = 0)) := by
      by_cases h : i < (qud a).length
      · have h1 : (qud a)[i]? = some (qud a)[i] := List.getElem?_eq_getElem h
        exact ⟨_, hsa _ (List.mem_of_getElem? h1), valQ_take h1, .inl ⟨h, h1⟩⟩
      · exact ⟨0, by omega, by rw [List.take_of_length_le (by omega), List.take_of_length_le (by omega)]; omega, .inr ⟨h, rfl⟩⟩
    obtain ⟨ee, he9, htb, heb⟩ : ∃ ee, ee < 10000 ∧ valQ ((qud b).take (i + 1)) = valQ ((qud b).take i) + 10000 ^ i * ee ∧ ((i < (qud b).length ∧ (qud b)[i]? = some ee) ∨ (¬ i < (qud b).length ∧ ee = 0)) := by
      by_cases h : i < (qud b).length
      · have h1 : (qud b)[i]? = some (qud b)[i] := List.getElem?_eq_getElem h
        exact ⟨_, hsb _ (List.mem_of_getElem? h1), valQ_take h1, .inl ⟨h, h1⟩⟩
      · exact ⟨0, by omega, by rw [List.take_of_length_le (by omega), List.take_of_length_le (by omega)]; omega, .inr ⟨h, rfl⟩⟩
    have hxl2 : xs.length ≤ 20000000 := by omega
    have hnew : ∀ t : Nat, t = c + d + ee → valQ (xs ++ [t % 10000]) + 10000 ^ (i + 1) * (t / 10000) = valQ ((qud a).take (i + 1)) + valQ ((qud b).take (i + 1)) := fun t ht => by
      rw [valQ_append, hxl, hta, htb, Nat.pow_succ]
      simp only [valQ, Nat.mul_zero, Nat.add_zero]
      have h1 : 10000 ^ i * (t % 10000) + 10000 ^ i * 10000 * (t / 10000) = 10000 ^ i * t := by
        rw [Nat.mul_assoc, ← Nat.mul_add]; congr 1; omega
      have h2 : 10000 ^ i * t = 10000 ^ i * c + 10000 ^ i * d + 10000 ^ i * ee := by rw [ht, Nat.mul_add, Nat.mul_add]
      omega
    have hend : i = max (qud a).length (qud b).length → (c + d + ee) / 10000 = 0 := fun h => by
      rcases had with ⟨h1, _⟩ | ⟨_, rfl⟩
      · omega
      · rcases heb with ⟨h1, _⟩ | ⟨_, rfl⟩ <;> omega
    rcases had with ⟨h1, h2⟩ | ⟨h1, rfl⟩ <;> rcases heb with ⟨k1, k2⟩ | ⟨k1, rfl⟩
    all_goals
      (repeat' (first | ((show TL _ _ _ _ (_ :: _) _ _ _; first | refine TL.fa ?_ | refine TL.ua ?_ | (refine TL.rba ?_; intro _) | (refine TL.rra ?_; first | rintro _ _ ⟨rfl, rfl⟩ | rintro _ _ rfl) | refine TL.offa ?_ | refine TL.off0a ?_ | refine TL.gu ?_ | fail)) | (first | refine Stp.h ?_ | refine Post.then_normal ?_ | refine Post.next ?_ | refine Post.block_other rfl ?_) | (first | (show TT _ _ _ _ _ _ _ _ _; first | refine TT.takea ?_ | refine TT.takeMa ?_ | refine TT.takeOffa ?_ | refine TT.gu ?_ | fail) | exact TTs.nil | refine TTs.cons ?_ ?_ | (show T1 _ _ _ _ _ _ _ _ _ _; first | refine T1.ua ?_ | (refine T1.rba ?_; intro _) | (refine T1.rra ?_; first | rintro _ _ ⟨rfl, rfl⟩ | rintro _ _ rfl) | refine T1.fa ?_ | refine T1.offa ?_ | refine T1.off0a ?_ | fail) | (show TC _ _ _ _ _ _ _ _ _ _; first | refine TC.goa ?_ | refine TC.fina ?_ | fail)) | ((show Tri _ _ _ (.cond _ _ _) _ _ _; first | refine Tri.cTa ?_ | refine Tri.cFa ?_ | refine Tri.condTa ?_ | refine Tri.condFa ?_ | refine Tri.condNTa ?_ | refine Tri.condNFa ?_ | fail))))
      rename_i v9
      refine Post.round (i + 1, v9, xs ++ [(c + _ + _) % 10000], (c + _ + _) / 10000) ⟨by simp only; omega, fun h => hend (by simp only at h; omega), by simp [hxl], fun x hx => ?_, by simp only; omega, hnew _ rfl⟩ (by simp only; omega) (by (exact Sub.au)) (Ents.refl _)
      rcases List.mem_append.1 hx with hx | hx
      · exact hxs x hx
      · rw [List.mem_singleton.1 hx]; omega
  · have hc0 : c = 0 := by omega
    subst hc0
    rw [List.take_of_length_le (by omega), List.take_of_length_le (by omega), valQ_qud, valQ_qud, Nat.mul_zero, Nat.add_zero] at hval
    (repeat' (first | ((show TL _ _ _ _ (_ :: _) _ _ _; first | refine TL.fa ?_ | refine TL.ua ?_ | (refine TL.rba ?_; intro _) | (refine TL.rra ?_; first | rintro _ _ ⟨rfl, rfl⟩ | rintro _ _ rfl) | refine TL.offa ?_ | refine TL.off0a ?_ | refine TL.gu ?_ | fail)) | (first | refine Stp.h ?_ | refine Post.then_normal ?_ | refine Post.next ?_ | refine Post.block_other rfl ?_) | (first | (show TT _ _ _ _ _ _ _ _ _; first | refine TT.takea ?_ | refine TT.takeMa ?_ | refine TT.takeOffa ?_ | refine TT.gu ?_ | fail) | exact TTs.nil | refine TTs.cons ?_ ?_ | (show T1 _ _ _ _ _ _ _ _ _ _; first | refine T1.ua ?_ | (refine T1.rba ?_; intro _) | (refine T1.rra ?_; first | rintro _ _ ⟨rfl, rfl⟩ | rintro _ _ rfl) | refine T1.fa ?_ | refine T1.offa ?_ | refine T1.off0a ?_ | fail) | (show TC _ _ _ _ _ _ _ _ _ _; first | refine TC.goa ?_ | refine TC.fina ?_ | fail)) | ((show Tri _ _ _ (.cond _ _ _) _ _ _; first | refine Tri.cTa ?_ | refine Tri.cFa ?_ | refine Tri.condTa ?_ | refine Tri.condFa ?_ | refine Tri.condNTa ?_ | refine Tri.condNFa ?_ | fail))))
    ((try refine Post.ret_normal ?_); first | refine Post.r1a ?_ | refine Post.r2a ?_ | refine Post.r3a ?_ | refine Post.r0a ?_ | fail)
    exact ⟨_, ⟨xs, hval, hxs, by omega, rfl⟩, by (exact Ents.au)⟩
/-- m less o, which is not greater -/
theorem differenceR_ok {v o : Value} {a b : Nat} [hf : RdIn As v Nat (cN .i64) (qud a)] [hg : RdIn As o Nat (cN .i64) (qud b)] (hab : b ≤ a) (ha : (qud a).length ≤ 10000000) : CallsS Tryz.prog w0 105 [v, o] As (QudR As (a - b)) := by
  have hlb := qud_len_le hab
  have hsa := qud_small a
  have hsb := qud_small b
  refine CallsS.of_tri Tryz.func105 rfl Tryz.ntmps105 rfl ?_
  (repeat' (first | ((show TL _ _ _ _ (_ :: _) _ _ _; first | refine TL.fa ?_ | refine TL.ua ?_ | (refine TL.rba ?_; intro _) | (refine TL.rra ?_; first | rintro _ _ ⟨rfl, rfl⟩ | rintro _ _ rfl) | refine TL.offa ?_ | refine TL.off0a ?_ | refine TL.gu ?_ | fail)) | (first | refine Stp.h ?_ | refine Post.then_normal ?_ | refine Post.next ?_ | refine Post.block_other rfl ?_) | (first | (show TT _ _ _ _ _ _ _ _ _; first | refine TT.takea ?_ | refine TT.takeMa ?_ | refine TT.takeOffa ?_ | refine TT.gu ?_ | fail) | exact TTs.nil | refine TTs.cons ?_ ?_ | (show T1 _ _ _ _ _ _ _ _ _ _; first | refine T1.ua ?_ | (refine T1.rba ?_; intro _) | (refine T1.rra ?_; first | rintro _ _ ⟨rfl, rfl⟩ | rintro _ _ rfl) | refine T1.fa ?_ | refine T1.offa ?_ | refine T1.off0a ?_ | fail) | (show TC _ _ _ _ _ _ _ _ _ _; first | refine TC.goa ?_ | refine TC.fina ?_ | fail)) | ((show Tri _ _ _ (.cond _ _ _) _ _ _; first | refine Tri.cTa ?_ | refine Tri.cFa ?_ | refine Tri.condTa ?_ | refine Tri.condFa ?_ | refine Tri.condNTa ?_ | refine Tri.condNFa ?_ | fail))))
  refine Tri.ents (Ents.nilW (T := 3) (cN .i64)) ?_
  refine Tri.loop (ι := Nat × Value × List Nat × Nat) (fun s => s.1 ≤ (qud a).length ∧ s.2.2.1.length = s.1 ∧ (∀ x ∈ s.2.2.1, x < 10000) ∧ s.2.2.2 ≤ 1 ∧ valQ s.2.2.1 + valQ ((qud b).take s.1) = valQ ((qud a).take s.1) + 10000 ^ s.1 * s.2.2.2) (fun s => (qud a).length - s.1)
    (fun s => [(0, v), (1, o), (5, s.2.1), (6, .int .i64 (s.2.2.2 : Int)), (7, .int .i64 (s.1 : Int))]) (fun s => .ow (cN .i64) 3 s.2.1 s.2.2.1 :: As)
    (0, .slice none 0 0, [], 0) ⟨by omega, rfl, (fun _ h => by cases h), Nat.zero_le 1, by simp [valQ]⟩ (by (exact Sub.au)) (by (exact Ents.au)) ?_
  rintro ⟨i, sv, xs, c⟩ ⟨hi, hxl, hxs, hc1, hval⟩
  simp only at hi hxl hxs hc1 hval
  show Tri _ _ _ _ [(0, v), (1, o), (5, sv), (6, .int .i64 (c : Int)), (7, .int .i64 (i : Int))] (.ow (cN .i64) 3 sv xs :: As) _
  (repeat' (first | ((show TL _ _ _ _ (_ :: _) _ _ _; first | refine TL.fa ?_ | refine TL.ua ?_ | (refine TL.rba ?_; intro _) | (refine TL.rra ?_; first | rintro _ _ ⟨rfl, rfl⟩ | rintro _ _ rfl) | refine TL.offa ?_ | refine TL.off0a ?_ | refine TL.gu ?_ | fail)) | (first | refine Stp.h ?_ | refine Post.then_normal ?_ | refine Post.next ?_ | refine Post.block_other rfl ?_) | ((show Tri _ _ _ (.cond _ _ _) _ _ _; first | refine Tri.cTa ?_ | refine Tri.cFa ?_ | refine Tri.condTa ?_ | refine Tri.condFa ?_ | refine Tri.condNTa ?_ | refine Tri.condNFa ?_ | fail))))
  ((show Tri _ _ _ (.cond _ _ _) _ _ _; first | refine Tri.condP rfl (fun hc => ?_) (fun hc => ?_) | refine Tri.condN rfl (fun hc => ?_) (fun hc => ?_)))
  · obtain ⟨d, hd⟩ : ∃ d, (qud a)[i]? = some d := ⟨_, List.getElem?_eq_getElem (by omega)⟩
    have hd9 := hsa d (List.mem_of_getElem? hd)
    have hta := valQ_take hd
    obtain ⟨ee, he9, htb, heb⟩ : ∃ ee, ee < 10000 ∧ valQ ((qud b).take (i + 1)) = valQ ((qud b).take i) + 10000 ^ i * ee ∧ ((i < (qud b).length ∧ (qud b)[i]? = some ee) ∨ (¬ i < (qud b).length ∧ ee = 0)) := by
      by_cases h : i < (qud b).length
      · have h1 : (qud b)[i]? = some (qud b)[i] := List.getElem?_eq_getElem h
        exact ⟨_, hsb _ (List.mem_of_getElem? h1), valQ_take h1, .inl ⟨h, h1⟩⟩
      · exact ⟨0, by omega, by rw [List.take_of_length_le (by omega), List.take_of_length_le (by omega)]; omega, .inr ⟨h, rfl⟩⟩
    have hnew : ∀ g c', g + c + ee = d + 10000 * c' → valQ (xs ++ [g]) + valQ ((qud b).take (i + 1)) = valQ ((qud a).take (i + 1)) + 10000 ^ (i + 1) * c' := fun g c' h => by
      rw [valQ_append, hxl, hta, htb, Nat.pow_succ]
      simp only [valQ, Nat.mul_zero, Nat.add_zero]
      have h1 : 10000 ^ i * g + 10000 ^ i * c + 10000 ^ i * ee = 10000 ^ i * d + 10000 ^ i * 10000 * c' := by
        rw [← Nat.mul_add, ← Nat.mul_add, h, Nat.mul_add, Nat.mul_assoc]
      omega
    have hsm : ∀ g, g < 10000 → ∀ x ∈ xs ++ [g], x < 10000 := fun g hg x hx => by
      rcases List.mem_append.1 hx with hx | hx
      · exact hxs x hx
      · rw [List.mem_singleton.1 hx]; exact hg
    have hfin : ∀ z : Int, z = (d : Int) - c - ee → True := fun _ _ => trivial
    by_cases hneg : d < c + ee
    · have e9 : ((d : Int) - c - ee + 10000) = ((d + 10000 - c - ee : Nat) : Int) := by omega
      have e8 : ((d : Int) - c + 10000) = ((d + 10000 - c - 0 : Nat) : Int) ∨ 0 < ee := by omega
      rcases heb with ⟨k1, k2⟩ | ⟨k1, rfl⟩
      · (repeat' (first | ((show TL _ _ _ _ (_ :: _) _ _ _; first | refine TL.fa ?_ | refine TL.ua ?_ | (refine TL.rba ?_; intro _) | (refine TL.rra ?_; first | rintro _ _ ⟨rfl, rfl⟩ | rintro _ _ rfl) | refine TL.offa ?_ | refine TL.off0a ?_ | refine TL.gu ?_ | fail)) | (first | refine Stp.h ?_ | refine Post.then_normal ?_ | refine Post.next ?_ | refine Post.block_other rfl ?_) | ((show Tri _ _ _ (.cond _ _ _) _ _ _; first | refine Tri.cTa ?_ | refine Tri.cFa ?_ | refine Tri.condTa ?_ | refine Tri.condFa ?_ | refine Tri.condNTa ?_ | refine Tri.condNFa ?_ | fail))))
        rw [e9]
        (repeat' (first | ((show TL _ _ _ _ (_ :: _) _ _ _; first | refine TL.fa ?_ | refine TL.ua ?_ | (refine TL.rba ?_; intro _) | (refine TL.rra ?_; first | rintro _ _ ⟨rfl, rfl⟩ | rintro _ _ rfl) | refine TL.offa ?_ | refine TL.off0a ?_ | refine TL.gu ?_ | fail)) | (first | refine Stp.h ?_ | refine Post.then_normal ?_ | refine Post.next ?_ | refine Post.block_other rfl ?_) | ((show Tri _ _ _ (.cond _ _ _) _ _ _; first | refine Tri.cTa ?_ | refine Tri.cFa ?_ | refine Tri.condTa ?_ | refine Tri.condFa ?_ | refine Tri.condNTa ?_ | refine Tri.condNFa ?_ | fail))))
        rename_i v9
        refine Post.round (i + 1, v9, xs ++ [d + 10000 - c - ee], 1) ⟨by simp only; omega, by simp [hxl], hsm _ (by omega), Nat.le_refl 1, hnew _ 1 (by omega)⟩ (by simp only; omega) (by (exact Sub.au)) (by (exact Ents.au))
      · have e7 : ((d : Int) - c + 10000) = ((d + 10000 - c : Nat) : Int) := by omega
        (repeat' (first | ((show TL _ _ _ _ (_ :: _) _ _ _; first | refine TL.fa ?_ | refine TL.ua ?_ | (refine TL.rba ?_; intro _) | (refine TL.rra ?_; first | rintro _ _ ⟨rfl, rfl⟩ | rintro _ _ rfl) | refine TL.offa ?_ | refine TL.off0a ?_ | refine TL.gu ?_ | fail)) | (first | refine Stp.h ?_ | refine Post.then_normal ?_ | refine Post.next ?_ | refine Post.block_other rfl ?_) | ((show Tri _ _ _ (.cond _ _ _) _ _ _; first | refine Tri.cTa ?_ | refine Tri.cFa ?_ | refine Tri.condTa ?_ | refine Tri.condFa ?_ | refine Tri.condNTa ?_ | refine Tri.condNFa ?_ | fail))))
        rw [e7]
        (repeat' (first | ((show TL _ _ _ _ (_ :: _) _ _ _; first | refine TL.fa ?_ | refine TL.ua ?_ | (refine TL.rba ?_; intro _) | (refine TL.rra ?_; first | rintro _ _ ⟨rfl, rfl⟩ | rintro _ _ rfl) | refine TL.offa ?_ | refine TL.off0a ?_ | refine TL.gu ?_ | fail)) | (first | refine Stp.h ?_ | refine Post.then_normal ?_ | refine Post.next ?_ | refine Post.block_other rfl ?_) | ((show Tri _ _ _ (.cond _ _ _) _ _ _; first | refine Tri.cTa ?_ | refine Tri.cFa ?_ | refine Tri.condTa ?_ | refine Tri.condFa ?_ | refine Tri.condNTa ?_ | refine Tri.condNFa ?_ | fail))))
        rename_i v9
        refine Post.round (i + 1, v9, xs ++ [d + 10000 - c], 1) ⟨by simp only; omega, by simp [hxl], hsm _ (by omega), Nat.le_refl 1, hnew _ 1 (by omega)⟩ (by simp only; omega) (by (exact Sub.au)) (by (exact Ents.au))
    · rcases heb with ⟨k1, k2⟩ | ⟨k1, rfl⟩
      · have e9 : ((d : Int) - c - ee) = ((d - c - ee : Nat) : Int) := by omega
        (repeat' (first | ((show TL _ _ _ _ (_ :: _) _ _ _; first | refine TL.fa ?_ | refine TL.ua ?_ | (refine TL.rba ?_; intro _) | (refine TL.rra ?_; first | rintro _ _ ⟨rfl, rfl⟩ | rintro _ _ rfl) | refine TL.offa ?_ | refine TL.off0a ?_ | refine TL.gu ?_ | fail)) | (first | refine Stp.h ?_ | refine Post.then_normal ?_ | refine Post.next ?_ | refine Post.block_other rfl ?_) | ((show Tri _ _ _ (.cond _ _ _) _ _ _; first | refine Tri.cTa ?_ | refine Tri.cFa ?_ | refine Tri.condTa ?_ | refine Tri.condFa ?_ | refine Tri.condNTa ?_ | refine Tri.condNFa ?_ | fail))))
        rw [e9]
        (repeat' (first | ((show TL _ _ _ _ (_ :: _) _ _ _; first | refine TL.fa ?_ | refine TL.ua ?_ | (refine TL.rba ?_; intro _) | (refine TL.rra ?_; first | rintro _ _ ⟨rfl, rfl⟩ | rintro _ _ rfl) | refine TL.offa ?_ | refine TL.off0a ?_ | refine TL.gu ?_ | fail)) | (first | refine Stp.h ?_ | refine Post.then_normal ?_ | refine Post.next ?_ | refine Post.block_other rfl ?_) | ((show Tri _ _ _ (.cond _ _ _) _ _ _; first | refine Tri.cTa ?_ | refine Tri.cFa ?_ | refine Tri.condTa ?_ | refine Tri.condFa ?_ | refine Tri.condNTa ?_ | refine Tri.condNFa ?_ | fail))))
        rename_i v9
        refine Post.round (i + 1, v9, xs ++ [d - c - ee], 0) ⟨by simp only; omega, by simp [hxl], hsm _ (by omega), Nat.zero_le 1, hnew _ 0 (by omega)⟩ (by simp only; omega) (by (exact Sub.au)) (by (exact Ents.au))
      · have e9 : ((d : Int) - c) = ((d - c : Nat) : Int) := by omega
        (repeat' (first | ((show TL _ _ _ _ (_ :: _) _ _ _; first | refine TL.fa ?_ | refine TL.ua ?_ | (refine TL.rba ?_; intro _) | (refine TL.rra ?_; first | rintro _ _ ⟨rfl, rfl⟩ | rintro _ _ rfl) | refine TL.offa ?_ | refine TL.off0a ?_ | refine TL.gu ?_ | fail)) | (first | refine Stp.h ?_ | refine Post.then_normal ?_ | refine Post.next ?_ | refine Post.block_other rfl ?_) | ((show Tri _ _ _ (.cond _ _ _) _ _ _; first | refine Tri.cTa ?_ | refine Tri.cFa ?_ | refine Tri.condTa ?_ | refine Tri.condFa ?_ | refine Tri.condNTa ?_ | refine Tri.condNFa ?_ | fail))))
        rw [e9]
        (repeat' (first | ((show TL _ _ _ _ (_ :: _) _ _ _; first | refine TL.fa ?_ | refine TL.ua ?_ | (refine TL.rba ?_; intro _) | (refine TL.rra ?_; first | rintro _ _ ⟨rfl, rfl⟩ | rintro _ _ rfl) | refine TL.offa ?_ | refine TL.off0a ?_ | refine TL.gu ?_ | fail)) | (first | refine Stp.h ?_ | refine Post.then_normal ?_ | refine Post.next ?_ | refine Post.block_other rfl ?_) | ((show Tri _ _ _ (.cond _ _ _) _ _ _; first | refine Tri.cTa ?_ | refine Tri.cFa ?_ | refine Tri.condTa ?_ | refine Tri.condFa ?_ | refine Tri.condNTa ?_ | refine Tri.condNFa ?_ | fail))))
        rename_i v9
        refine Post.round (i + 1, v9, xs ++ [d - c], 0) ⟨by simp only; omega, by simp [hxl], hsm _ (by omega), Nat.zero_le 1, hnew _ 0 (by omega)⟩ (by simp only; omega) (by (exact Sub.au)) (by (exact Ents.au))
  · have hie : i = (qud a).length := by omega
    rw [List.take_of_length_le (by omega), List.take_of_length_le (by omega), valQ_qud, valQ_qud] at hval
    have hX := valQ_lt hxs
    rw [hxl] at hX
    have hc0 : c = 0 := by
      rcases Nat.lt_or_ge 0 c with h | h
      · have : c = 1 := by omega
        subst this
        omega
      · omega
    subst hc0
    have hv : valQ xs = a - b := by omega
    (repeat' (first | ((show TL _ _ _ _ (_ :: _) _ _ _; first | refine TL.fa ?_ | refine TL.ua ?_ | (refine TL.rba ?_; intro _) | (refine TL.rra ?_; first | rintro _ _ ⟨rfl, rfl⟩ | rintro _ _ rfl) | refine TL.offa ?_ | refine TL.off0a ?_ | refine TL.gu ?_ | fail)) | (first | refine Stp.h ?_ | refine Post.then_normal ?_ | refine Post.next ?_ | refine Post.block_other rfl ?_) | ((show Tri _ _ _ (.cond _ _ _) _ _ _; first | refine Tri.cTa ?_ | refine Tri.cFa ?_ | refine Tri.condTa ?_ | refine Tri.condFa ?_ | refine Tri.condNTa ?_ | refine Tri.condNFa ?_ | fail))))
    refine TL.ents Ents.freeze ?_
    refine TL.call rfl rfl rfl (cut_ok hxs (by omega)) ?_
    rintro _ _ ⟨p, cap, rfl, rfl⟩
    rw [hv]
    (repeat' (first | ((show TL _ _ _ _ (_ :: _) _ _ _; first | refine TL.fa ?_ | refine TL.ua ?_ | (refine TL.rba ?_; intro _) | (refine TL.rra ?_; first | rintro _ _ ⟨rfl, rfl⟩ | rintro _ _ rfl) | refine TL.offa ?_ | refine TL.off0a ?_ | refine TL.gu ?_ | fail)) | (first | refine Stp.h ?_ | refine Post.then_normal ?_ | refine Post.next ?_ | refine Post.block_other rfl ?_) | ((show Tri _ _ _ (.cond _ _ _) _ _ _; first | refine Tri.cTa ?_ | refine Tri.cFa ?_ | refine Tri.condTa ?_ | refine Tri.condFa ?_ | refine Tri.condNTa ?_ | refine Tri.condNFa ?_ | fail))))
    ((try refine Post.ret_normal ?_); first | refine Post.r1a ?_ | refine Post.r2a ?_ | refine Post.r3a ?_ | refine Post.r0a ?_ | fail)
    exact ⟨_, ⟨p, cap, rfl, rfl⟩, by (exact Ents.au)⟩
end Go.Proofs.YtfbhlfhecmhihaaGreatDoor
