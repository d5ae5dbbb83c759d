/- MeshTetra: the row and the card. -/
import Derived.Test.YtolchkdndnjhbaaDoorCards
import Derived.Test.YtolchkdndnjhbaaDoorTie
import Derived.Test.YtolchkdndnjhbaaDoorFr2
import Derived.Test.YtolchkdndnjhbaaDoorMl3
import Derived.SevenTiedAt
namespace Go.Proofs.YtolchkdndnjhbaaDoor
open Go Go.Sx Go.ChangeShapes Go.WideShapes Go.ChangeAt Go.RowKit
theorem own : ownKnob Tryd.prog.godebug = none := by kernel_rfl
theorem tab_of_laid {W : World} (h : laidMet Tryd.prog Rows.meshTetraRow.laid W) : Tab W := by
  obtain ⟨g, t, cs, fuel, p, hg, hty, hvar, hd⟩ := Lib.laidMet.reads h (n := "internal/strconv.uint64pow10") (d := Rows.laid_internal_strconv_uint64pow10) (by simp [Rows.meshTetraRow])
  obtain rfl := Option.some.inj ((show Tryd.prog.globalNamed "internal/strconv.uint64pow10" = some 0 by kernel_rfl).symm.trans hg)
  obtain rfl := Option.some.inj ((show (Tryd.prog.globals[0]?).map (·.type) = some 125 by kernel_rfl).symm.trans hty)
  unfold Tab Lib.TabIs
  rw [hvar]
  have hd' : DataW.trod (fun _ => ()) Tryd.prog W 0 (fun _ => true) false fuel 125 cs.toList = some (Lib.tabData .u64 Lib.pow10Tab, p) := hd
  have := Lib.cells_of_tab Tryd.underlying125 Tryd.underlying109 (by kernel_rfl) (by kernel_rfl) hd'
  rw [← this]
set_option maxRecDepth 100000 in
theorem lifted (os : Os) (started : os.Started) (H : Type) (enc : TypeId × Value → H) :
    ReturnsInHanded {} Tryd.checked os 5 .any (fun w args => (Rows.meshTetraSpec.pre enc Tryd.prog Tryd.f5 [] false w args ∧ laidMetH Tryd.prog Rows.meshTetraRow.laid w) ∧ sizedMet enc Tryd.prog Tryd.f5 (OpenSpec.ofChange Rows.meshTetraSpec) false w args)
      (Rows.meshTetraSpec.post enc Tryd.prog Tryd.f5 false true false false) := by
  refine law_lifted started own (by kernel_rfl) Tryd.func5 rfl rfl Tryd.underlying4 ?_ (by kernel_rfl) (by kernel_rfl) (by kernel_rfl) ?_ (by kernel_rfl)
    (ChangeSpec.witness_shaped (enc := enc) (C := Tryd.checked) (os := os) (X := fun w _ => laidMetH Tryd.prog Rows.meshTetraRow.laid w) false (World.laidAll Tryd.prog os Rows.meshTetraRow.laid) #[.agg (Array.replicate 12 (.int .i32 0))] 8 (World.laidAll_os _ _ _)
      (World.shaped_of_ZipB (by kernel_rfl) (by kernel_rfl)) (by kernel_rfl) (by kernel_rfl) (by kernel_rfl)
      (by rw [MakeChecks.laidMetH_plain _ _ _ (by kernel_rfl)]; exact laidMet_laidAll _ (by kernel_rfl) (by kernel_rfl))) ?_
  · intro ds hds
    rw [Tryd.params5] at hds
    match ds, hds with
    | [d], _ => rfl
  · have : ((Tryd.f5.params.toList).all fun t => decide (t < Tryd.prog.types.size)) = true := by kernel_rfl
    intro t ht
    exact of_decide_eq_true (List.all_eq_true.1 this t ht)
  · intro W base args ds ps hval hA _ hL
    have htab := tab_of_laid hL
    rw [Tryd.params5] at hA hval
    obtain ⟨v0, d0, rfl, rfl, fuel, h0⟩ := trodAll_one hA
    obtain ⟨cs, rfl, hlen⟩ := okWide_array Tryd.underlying53 (hval 0 53 v0 rfl rfl)
    rw [show Tryd.prog.cellsOf 53 = 12 by kernel_rfl] at hlen
    have hall : AllK .i32 cs := by
      have h1 : DataW.trod enc Tryd.prog W 0 (fun _ => true) true fuel 53 cs = some (d0, ps) := h0
      refine allK_arr Tryd.underlying53 (by kernel_rfl) (fun fu c x hx => ?_) h1
      exact allK_arr Tryd.underlying52 (by kernel_rfl) (fun fu c x hx => allK_int Tryd.underlying21 hx) hx
    obtain ⟨a0, a1, a2, a3, a4, a5, a6, a7, a8, a9, a10, a11, rfl⟩ := list12 hlen
    obtain ⟨a0, rfl, w0⟩ := hall a0 (by simp)
    obtain ⟨a1, rfl, w1⟩ := hall a1 (by simp)
    obtain ⟨a2, rfl, w2⟩ := hall a2 (by simp)
    obtain ⟨a3, rfl, w3⟩ := hall a3 (by simp)
    obtain ⟨a4, rfl, w4⟩ := hall a4 (by simp)
    obtain ⟨a5, rfl, w5⟩ := hall a5 (by simp)
    obtain ⟨a6, rfl, w6⟩ := hall a6 (by simp)
    obtain ⟨a7, rfl, w7⟩ := hall a7 (by simp)
    obtain ⟨a8, rfl, w8⟩ := hall a8 (by simp)
    obtain ⟨a9, rfl, w9⟩ := hall a9 (by simp)
    obtain ⟨a10, rfl, w10⟩ := hall a10 (by simp)
    obtain ⟨a11, rfl, w11⟩ := hall a11 (by simp)
    refine meshTetra_ok htab (fun a ha => ?_)
    simp only [List.mem_cons, List.not_mem_nil, or_false] at ha
    rcases ha with rfl | rfl | rfl | rfl | rfl | rfl | rfl | rfl | rfl | rfl | rfl | rfl <;> exact wf_i32 (by assumption)
theorem over : Rows.meshTetraRow.holds Tryd.pinned (OpenSpec.ofChange Rows.meshTetraSpec) :=
  OpenClaim.holds_of_wide 5 Tryd.f5 rfl rfl rfl rfl rfl rfl rfl ⟨rfl, rfl, rfl, rfl, rfl⟩ rfl rfl rfl rfl rfl (by kernel_rfl) Tryd.func5 (by kernel_rfl)
    (of_decide_eq_true (by kernel_rfl)) (by unfold Func.isWrapper; first | (rw [if_pos (by decide +kernel)]; kernel_rfl) | (rw [if_neg (by decide +kernel)]; exact ⟨rfl, rfl⟩))
    (fun os started H enc _ => lifted os started H enc)
theorem meshTetra_holds : Rows.MeshTetraCardSaid :=
  Claim7.holds_tied_plain_at .later [] [.data, .data, .data] true (true, "e2950a573dc62ab8f30b79f0698a82765b0e4979d1d76df949231829e9d428d3") false
    over (fun _ h => by cases h) (by kernel_rfl) (fun _ h => by cases h) meshTetra_row_tie rfl ⟨rfl, rfl⟩ (by kernel_rfl) rfl
    (fun f fn hf hfn => by
      obtain rfl : f = 5 := Option.some.inj ((show Tryd.prog.funcNamed "verdigris/verdigrislaw35.MeshTetra" = some 5 by kernel_rfl).symm.trans hf) |>.symm
      obtain rfl : fn = Tryd.f5 := (Option.some.inj (Tryd.func5.symm.trans hfn)).symm
      exact ⟨by kernel_rfl, fun j t ht => by
        rw [Tryd.params5] at ht
        have hm := Array.mem_of_getElem? ht
        have hall : ((Tryd.f5.params).all fun u => !Tryd.prog.wantsStandIn u) = true := by kernel_rfl
        rw [Tryd.params5] at hall
        exact (show Tryd.prog.wantsStandIn t = false by simpa using Array.all_eq_true_iff_forall_mem.1 hall t hm)⟩)
    (by kernel_rfl)
end Go.Proofs.YtolchkdndnjhbaaDoor
