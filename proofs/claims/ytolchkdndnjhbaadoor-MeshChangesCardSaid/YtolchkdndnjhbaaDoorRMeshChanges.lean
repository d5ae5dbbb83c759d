/- MeshChanges: the row and the card. -/
import Derived.Test.YtolchkdndnjhbaaDoorCards
import Derived.Test.YtolchkdndnjhbaaDoorTie
import Derived.Test.YtolchkdndnjhbaaDoorFr4
import Derived.Test.YtolchkdndnjhbaaDoorMr9
import Derived.SevenTiedAt
import Derived.Carry
namespace Go.Proofs.YtolchkdndnjhbaaDoor
open Go Go.Sx Go.ChangeShapes Go.WideShapes Go.ChangeAt Go.RowKit
theorem own : ownKnob Tryd.prog.godebug = none := by kernel_rfl
theorem tab_of_laid {W : World} (h : laidMet Tryd.prog Rows.meshChangesRow.laid W) : Tab W := by
  obtain ⟨g, t, cs, fuel, p, hg, hty, hvar, hd⟩ := Lib.laidMet.reads h (n := "internal/strconv.uint64pow10") (d := Rows.laid_internal_strconv_uint64pow10) (by simp [Rows.meshChangesRow])
  obtain rfl := Option.some.inj ((show Tryd.prog.globalNamed "internal/strconv.uint64pow10" = some 0 by kernel_rfl).symm.trans hg)
  obtain rfl := Option.some.inj ((show (Tryd.prog.globals[0]?).map (·.type) = some 125 by kernel_rfl).symm.trans hty)
  unfold Tab Lib.TabIs
  rw [hvar]
  have hd' : DataW.trod (fun _ => ()) Tryd.prog W 0 (fun _ => true) false fuel 125 cs.toList = some (Lib.tabData .u64 Lib.pow10Tab, p) := hd
  have := Lib.cells_of_tab Tryd.underlying125 Tryd.underlying109 (by kernel_rfl) (by kernel_rfl) hd'
  rw [← this]
set_option maxRecDepth 100000 in
theorem lifted (os : Os) (started : os.Started) (H : Type) (enc : TypeId × Value → H) :
    ReturnsInHanded {} Tryd.checked os 3 .any (fun w args => (Rows.meshChangesSpec.pre enc Tryd.prog Tryd.f3 [] false w args ∧ laidMetH Tryd.prog Rows.meshChangesRow.laid w) ∧ sizedMet enc Tryd.prog Tryd.f3 (OpenSpec.ofChange Rows.meshChangesSpec) false w args)
      (Rows.meshChangesSpec.post enc Tryd.prog Tryd.f3 false true false false) := by
  refine law_lifted started own (by kernel_rfl) Tryd.func3 rfl rfl Tryd.underlying4 ?_ (by kernel_rfl) (by kernel_rfl) (by kernel_rfl) ?_ (by kernel_rfl)
    (ChangeSpec.witness_shaped (enc := enc) (C := Tryd.checked) (os := os) (X := fun w _ => laidMetH Tryd.prog Rows.meshChangesRow.laid w) false (World.laidAll Tryd.prog os Rows.meshChangesRow.laid) #[.agg #[.slice none 0 0, .slice none 0 0], .agg #[.int .u8 0, .int .u8 0, .int .i16 0, .int .i16 0, .int .i16 0, .slice none 0 0, .bool false], .agg #[.int .u8 0, .int .u8 0, .int .u8 0, .int .i64 0, .int .u8 0, .int .u8 0, .int .u8 0, .int .i64 0], .agg #[.int .i64 0, .int .i64 0, .int .i64 0], .agg #[.int .i16 0, .int .i16 0, .int .i16 0]] 8 (World.laidAll_os _ _ _)
      (World.shaped_of_ZipB (by kernel_rfl) (by kernel_rfl)) (by kernel_rfl) (by kernel_rfl) (by kernel_rfl)
      (by rw [MakeChecks.laidMetH_plain _ _ _ (by kernel_rfl)]; exact laidMet_laidAll _ (by kernel_rfl) (by kernel_rfl))) ?_
  · intro ds hds
    rw [Tryd.params3] at hds
    match ds, hds with
    | [d0, d1, d2, d3, d4], _ => rfl
  · have : ((Tryd.f3.params.toList).all fun t => decide (t < Tryd.prog.types.size)) = true := by kernel_rfl
    intro t ht
    exact of_decide_eq_true (List.all_eq_true.1 this t ht)
  · intro W base args ds ps hval hA _ hL
    have htab := tab_of_laid hL
    rw [Tryd.params3] at hA hval
    obtain ⟨v0, vs0, d0, ds0, p0, q0, ha0, _, _, ⟨fu0, ht0⟩, hA0⟩ := trodAll_cons hA
    obtain ⟨v1, vs1, d1, ds1, p1, q1, ha1, _, _, ⟨fu1, ht1⟩, hA1⟩ := trodAll_cons hA0
    obtain ⟨v2, vs2, d2, ds2, p2, q2, ha2, _, _, ⟨fu2, ht2⟩, hA2⟩ := trodAll_cons hA1
    obtain ⟨v3, vs3, d3, ds3, p3, q3, ha3, _, _, ⟨fu3, ht3⟩, hA3⟩ := trodAll_cons hA2
    obtain ⟨v4, vs4, d4, ds4, p4, q4, ha4, _, _, ⟨fu4, ht4⟩, hA4⟩ := trodAll_cons hA3
    obtain ⟨hnil, _, _⟩ := trodAll_nil hA4
    have hargs : args.toList = [v0, v1, v2, v3, v4] := by rw [ha0, ha1, ha2, ha3, ha4, hnil]
    have hv0 : args[0]? = some v0 := by rw [← Array.getElem?_toList, hargs]; rfl
    obtain ⟨cs0, rfl⟩ := okWide_str (UL.h (P := Tryd.prog) (t := 24)) (hval 0 24 v0 rfl hv0)
    have hu0 : DataW.trod enc Tryd.prog W 0 (fun _ => true) true fu0 24 cs0 = some (d0, p0) := ht0
    obtain ⟨pv, fv, pts, fcs, rfl, rp, rf⟩ := mesh_of_trod (fun _ => rfl) hu0
    have hv1 : args[1]? = some v1 := by rw [← Array.getElem?_toList, hargs]; rfl
    obtain ⟨cs1, rfl⟩ := okWide_str (UL.h (P := Tryd.prog) (t := 29)) (hval 1 29 v1 rfl hv1)
    have hu1 : DataW.trod enc Tryd.prog W 0 (fun _ => true) true fu1 29 cs1 = some (d1, p1) := ht1
    obtain ⟨d, rfl, hd, ro⟩ := draft_of_trod (fun _ => rfl) hu1
    have hv2 : args[2]? = some v2 := by rw [← Array.getElem?_toList, hargs]; rfl
    obtain ⟨cs2, rfl, _⟩ := okWide_array (UL.h (P := Tryd.prog) (t := 32)) (hval 2 32 v2 rfl hv2)
    have hu2 : DataW.trod enc Tryd.prog W 0 (fun _ => true) true fu2 32 cs2 = some (d2, p2) := ht2
    obtain ⟨b, c, rfl, hb, hc⟩ := bends_of_trod hu2
    have hv3 : args[3]? = some v3 := by rw [← Array.getElem?_toList, hargs]; rfl
    obtain ⟨cs3, rfl, _⟩ := okWide_array (UL.h (P := Tryd.prog) (t := 33)) (hval 3 33 v3 rfl hv3)
    have hu3 : DataW.trod enc Tryd.prog W 0 (fun _ => true) true fu3 33 cs3 = some (d3, p3) := ht3
    obtain ⟨by_, rfl, _⟩ := v3_of_trod hu3
    have hv4 : args[4]? = some v4 := by rw [← Array.getElem?_toList, hargs]; rfl
    obtain ⟨cs4, rfl, _⟩ := okWide_array (UL.h (P := Tryd.prog) (t := 26)) (hval 4 26 v4 rfl hv4)
    have hu4 : DataW.trod enc Tryd.prog W 0 (fun _ => true) true fu4 26 cs4 = some (d4, p4) := ht4
    obtain ⟨s0, s1, s2, rfl, hs⟩ := s3_of_trod hu4
    rw [hargs]
    refine CallsS.oldFact (rd cV3 pv pts) rp ?_
    refine CallsS.oldFact (rd cV3 fv fcs) rf ?_
    refine CallsS.oldFact (rd (cI .i8) d.ov d.off) ro ?_
    exact meshChanges_ok htab d b c hd hb hc hs
theorem over : Rows.meshChangesRow.holds Tryd.pinned (OpenSpec.ofChange Rows.meshChangesSpec) :=
  OpenClaim.holds_of_wide 3 Tryd.f3 rfl rfl rfl rfl rfl rfl rfl ⟨rfl, rfl, rfl, rfl, rfl⟩ rfl rfl rfl rfl rfl (by kernel_rfl) Tryd.func3 (by kernel_rfl)
    (of_decide_eq_true (by kernel_rfl)) (by unfold Func.isWrapper; first | (rw [if_pos (by decide +kernel)]; kernel_rfl) | (rw [if_neg (by decide +kernel)]; exact ⟨rfl, rfl⟩))
    (fun os started H enc _ => lifted os started H enc)
theorem meshChanges_holds : Rows.MeshChangesCardSaid :=
  Claim7.holds_tied_plain_at .later [] [.data, .data, .data] true (true, "e2950a573dc62ab8f30b79f0698a82765b0e4979d1d76df949231829e9d428d3") false
    over (fun _ h => by cases h) (by kernel_rfl) (fun _ h => by cases h) meshChanges_row_tie rfl ⟨rfl, rfl⟩ (by kernel_rfl) rfl
    (fun f fn hf hfn => by
      obtain rfl : f = 3 := Option.some.inj ((show Tryd.prog.funcNamed "verdigris/verdigrislaw35.MeshChanges" = some 3 by kernel_rfl).symm.trans hf) |>.symm
      obtain rfl : fn = Tryd.f3 := (Option.some.inj (Tryd.func3.symm.trans hfn)).symm
      exact ⟨by kernel_rfl, fun j t ht => by
        rw [Tryd.params3] at ht
        have hm := Array.mem_of_getElem? ht
        have hall : ((Tryd.f3.params).all fun u => !Tryd.prog.wantsStandIn u) = true := by kernel_rfl
        rw [Tryd.params3] at hall
        exact (show Tryd.prog.wantsStandIn t = false by simpa using Array.all_eq_true_iff_forall_mem.1 hall t hm)⟩)
    (by kernel_rfl)
end Go.Proofs.YtolchkdndnjhbaaDoor
