/- MeshClosed: the row and the card. -/
import Derived.Test.YtolchkdndnjhbaaDoorCards
import Derived.Test.YtolchkdndnjhbaaDoorTie
import Derived.Test.YtolchkdndnjhbaaDoorFr4
import Derived.Test.YtolchkdndnjhbaaDoorMrc
import Derived.SevenTiedAt
import Derived.Carry
namespace Go.Proofs.YtolchkdndnjhbaaDoor
open Go Go.Sx Go.ChangeShapes Go.WideShapes Go.ChangeAt Go.RowKit
theorem own : ownKnob Tryd.prog.godebug = none := by kernel_rfl
theorem tab_of_laid {W : World} (h : laidMet Tryd.prog Rows.meshClosedRow.laid W) : Tab W := by
  obtain ⟨g, t, cs, fuel, p, hg, hty, hvar, hd⟩ := Lib.laidMet.reads h (n := "internal/strconv.uint64pow10") (d := Rows.laid_internal_strconv_uint64pow10) (by simp [Rows.meshClosedRow])
  obtain rfl := Option.some.inj ((show Tryd.prog.globalNamed "internal/strconv.uint64pow10" = some 0 by kernel_rfl).symm.trans hg)
  obtain rfl := Option.some.inj ((show (Tryd.prog.globals[0]?).map (·.type) = some 125 by kernel_rfl).symm.trans hty)
  unfold Tab Lib.TabIs
  rw [hvar]
  have hd' : DataW.trod (fun _ => ()) Tryd.prog W 0 (fun _ => true) false fuel 125 cs.toList = some (Lib.tabData .u64 Lib.pow10Tab, p) := hd
  have := Lib.cells_of_tab Tryd.underlying125 Tryd.underlying109 (by kernel_rfl) (by kernel_rfl) hd'
  rw [← this]
set_option maxRecDepth 100000 in
theorem lifted (os : Os) (started : os.Started) (H : Type) (enc : TypeId × Value → H) :
    ReturnsInHanded {} Tryd.checked os 4 .any (fun w args => (Rows.meshClosedSpec.pre enc Tryd.prog Tryd.f4 [] false w args ∧ laidMetH Tryd.prog Rows.meshClosedRow.laid w) ∧ sizedMet enc Tryd.prog Tryd.f4 (OpenSpec.ofChange Rows.meshClosedSpec) false w args)
      (Rows.meshClosedSpec.post enc Tryd.prog Tryd.f4 false true false false) := by
  refine law_lifted started own (by kernel_rfl) Tryd.func4 rfl rfl Tryd.underlying4 ?_ (by kernel_rfl) (by kernel_rfl) (by kernel_rfl) ?_ (by kernel_rfl)
    (ChangeSpec.witness_shaped (enc := enc) (C := Tryd.checked) (os := os) (X := fun w _ => laidMetH Tryd.prog Rows.meshClosedRow.laid w) false (World.laidAll Tryd.prog os Rows.meshClosedRow.laid) #[.agg #[.int .u8 0, .int .u8 0, .int .i16 0, .int .i16 0, .int .i16 0, .slice none 0 0, .bool false], .agg #[.int .u8 0, .int .u8 0, .int .u8 0, .int .i64 0, .int .u8 0, .int .u8 0, .int .u8 0, .int .i64 0]] 8 (World.laidAll_os _ _ _)
      (World.shaped_of_ZipB (by kernel_rfl) (by kernel_rfl)) (by kernel_rfl) (by kernel_rfl) (by kernel_rfl)
      (by rw [MakeChecks.laidMetH_plain _ _ _ (by kernel_rfl)]; exact laidMet_laidAll _ (by kernel_rfl) (by kernel_rfl))) ?_
  · intro ds hds
    rw [Tryd.params4] at hds
    match ds, hds with
    | [d0, d1], _ => rfl
  · have : ((Tryd.f4.params.toList).all fun t => decide (t < Tryd.prog.types.size)) = true := by kernel_rfl
    intro t ht
    exact of_decide_eq_true (List.all_eq_true.1 this t ht)
  · intro W base args ds ps hval hA _ hL
    have htab := tab_of_laid hL
    rw [Tryd.params4] at hA hval
    obtain ⟨v0, vs0, d0, ds0, p0, q0, ha0, _, _, ⟨fu0, ht0⟩, hA0⟩ := trodAll_cons hA
    obtain ⟨v1, vs1, d1, ds1, p1, q1, ha1, _, _, ⟨fu1, ht1⟩, hA1⟩ := trodAll_cons hA0
    obtain ⟨hnil, _, _⟩ := trodAll_nil hA1
    have hargs : args.toList = [v0, v1] := by rw [ha0, ha1, hnil]
    have hv0 : args[0]? = some v0 := by rw [← Array.getElem?_toList, hargs]; rfl
    obtain ⟨cs0, rfl⟩ := okWide_str (UL.h (P := Tryd.prog) (t := 29)) (hval 0 29 v0 rfl hv0)
    have hu0 : DataW.trod enc Tryd.prog W 0 (fun _ => true) true fu0 29 cs0 = some (d0, p0) := ht0
    obtain ⟨d, rfl, hd, ro⟩ := draft_of_trod (fun _ => rfl) hu0
    have hv1 : args[1]? = some v1 := by rw [← Array.getElem?_toList, hargs]; rfl
    obtain ⟨cs1, rfl, _⟩ := okWide_array (UL.h (P := Tryd.prog) (t := 32)) (hval 1 32 v1 rfl hv1)
    have hu1 : DataW.trod enc Tryd.prog W 0 (fun _ => true) true fu1 32 cs1 = some (d1, p1) := ht1
    obtain ⟨b, c, rfl, hb, hc⟩ := bends_of_trod hu1
    rw [hargs]
    refine CallsS.oldFact (rd (cI .i8) d.ov d.off) ro ?_
    exact meshClosed_ok htab d b c hd hb hc
theorem over : Rows.meshClosedRow.holds Tryd.pinned (OpenSpec.ofChange Rows.meshClosedSpec) :=
  OpenClaim.holds_of_wide 4 Tryd.f4 rfl rfl rfl rfl rfl rfl rfl ⟨rfl, rfl, rfl, rfl, rfl⟩ rfl rfl rfl rfl rfl (by kernel_rfl) Tryd.func4 (by kernel_rfl)
    (of_decide_eq_true (by kernel_rfl)) (by unfold Func.isWrapper; first | (rw [if_pos (by decide +kernel)]; kernel_rfl) | (rw [if_neg (by decide +kernel)]; exact ⟨rfl, rfl⟩))
    (fun os started H enc _ => lifted os started H enc)
theorem meshClosed_holds : Rows.MeshClosedCardSaid :=
  Claim7.holds_tied_plain_at .later [] [.data, .data, .data] true (true, "e2950a573dc62ab8f30b79f0698a82765b0e4979d1d76df949231829e9d428d3") false
    over (fun _ h => by cases h) (by kernel_rfl) (fun _ h => by cases h) meshClosed_row_tie rfl ⟨rfl, rfl⟩ (by kernel_rfl) rfl
    (fun f fn hf hfn => by
      obtain rfl : f = 4 := Option.some.inj ((show Tryd.prog.funcNamed "verdigris/verdigrislaw35.MeshClosed" = some 4 by kernel_rfl).symm.trans hf) |>.symm
      obtain rfl : fn = Tryd.f4 := (Option.some.inj (Tryd.func4.symm.trans hfn)).symm
      exact ⟨by kernel_rfl, fun j t ht => by
        rw [Tryd.params4] at ht
        have hm := Array.mem_of_getElem? ht
        have hall : ((Tryd.f4.params).all fun u => !Tryd.prog.wantsStandIn u) = true := by kernel_rfl
        rw [Tryd.params4] at hall
        exact (show Tryd.prog.wantsStandIn t = false by simpa using Array.all_eq_true_iff_forall_mem.1 hall t hm)⟩)
    (by kernel_rfl)
end Go.Proofs.YtolchkdndnjhbaaDoor
