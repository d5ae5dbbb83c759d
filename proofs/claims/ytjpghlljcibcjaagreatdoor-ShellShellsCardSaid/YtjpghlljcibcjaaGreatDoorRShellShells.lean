/- ShellShells: the row and the card. -/
import Derived.Test.YtjpghlljcibcjaaGreatDoorCards
import Derived.Test.YtjpghlljcibcjaaGreatDoorTie
import Derived.Test.YtjpghlljcibcjaaGreatDoorFs2
import Derived.Test.YtjpghlljcibcjaaGreatDoorLt3
import Derived.SevenTiedAt
import Derived.Carry
namespace Go.Proofs.YtjpghlljcibcjaaGreatDoor
open Go Go.Sx Go.ChangeShapes Go.WideShapes Go.ChangeAt Go.RowKit
theorem own : ownKnob Tryz.prog.godebug = none := by kernel_rfl
theorem tab_of_laid {W : World} (h : laidMet Tryz.prog Rows.shellShellsRow.laid W) : Tab W := by
  obtain ⟨g, t, cs, fuel, p, hg, hty, hvar, hd⟩ := Lib.laidMet.reads h (n := "internal/strconv.uint64pow10") (d := Rows.laid_internal_strconv_uint64pow10) (by simp [Rows.shellShellsRow])
  obtain rfl := Option.some.inj ((show Tryz.prog.globalNamed "internal/strconv.uint64pow10" = some 0 by kernel_rfl).symm.trans hg)
  obtain rfl := Option.some.inj ((show (Tryz.prog.globals[0]?).map (·.type) = some 173 by kernel_rfl).symm.trans hty)
  unfold Tab Lib.TabIs
  rw [hvar]
  have hd' : DataW.trod (fun _ => ()) Tryz.prog W 0 (fun _ => true) false fuel 173 cs.toList = some (Lib.tabData .u64 Lib.pow10Tab, p) := hd
  have := Lib.cells_of_tab Tryz.underlying173 Tryz.underlying144 (by kernel_rfl) (by kernel_rfl) hd'
  rw [← this]
set_option maxRecDepth 100000 in
theorem lifted (os : Os) (started : os.Started) (H : Type) (enc : TypeId × Value → H) :
    ReturnsInHanded {} Tryz.checked os 4 .any (fun w args => (Rows.shellShellsSpec.pre enc Tryz.prog Tryz.f4 [] false w args ∧ laidMetH Tryz.prog Rows.shellShellsRow.laid w) ∧ sizedMet enc Tryz.prog Tryz.f4 (OpenSpec.ofChange Rows.shellShellsSpec) false w args)
      (Rows.shellShellsSpec.post enc Tryz.prog Tryz.f4 false true false false) := by
  refine law_lifted started own (by kernel_rfl) Tryz.func4 rfl rfl Tryz.underlying4 ?_ (by kernel_rfl) (by kernel_rfl) (by kernel_rfl) ?_ (by kernel_rfl)
    (ChangeSpec.witness_shaped (enc := enc) (C := Tryz.checked) (os := os) (X := fun w _ => laidMetH Tryz.prog Rows.shellShellsRow.laid w) false (World.laidAll Tryz.prog os Rows.shellShellsRow.laid) #[.agg #[.int .u8 0, .int .u8 0, .int .u16 0, .int .u16 0, .int .u16 0, .int .u8 0, .int .u8 0, .int .u8 0], .agg #[.slice none 0 0, .int .u8 0, .slice none 0 0, .bool false], .int .u16 0, .int .i64 0, .int .u8 0] 8 (World.laidAll_os _ _ _)
      (World.shaped_of_ZipB (by kernel_rfl) (by kernel_rfl)) (by kernel_rfl) (by kernel_rfl) (by kernel_rfl)
      (by rw [MakeChecks.laidMetH_plain _ _ _ (by kernel_rfl)]; exact laidMet_laidAll _ (by kernel_rfl) (by kernel_rfl))) ?_
  · intro ds hds
    rw [Tryz.params4] at hds
    match ds, hds with
    | [d0, d1, d2, d3, d4], _ => rfl
  · have : ((Tryz.f4.params.toList).all fun t => decide (t < Tryz.prog.types.size)) = true := by kernel_rfl
    intro t ht
    exact of_decide_eq_true (List.all_eq_true.1 this t ht)
  · intro W base args ds ps hval hA _ hL
    have htab := tab_of_laid hL
    rw [Tryz.params4] at hA hval
    obtain ⟨v0, vs0, d0, ds0, p0, q0, ha0, _, _, ⟨fu0, ht0⟩, hA0⟩ := trodAll_cons hA
    obtain ⟨v1, vs1, d1, ds1, p1, q1, ha1, _, _, ⟨fu1, ht1⟩, hA1⟩ := trodAll_cons hA0
    obtain ⟨v2, vs2, d2, ds2, p2, q2, ha2, _, _, ⟨fu2, ht2⟩, hA2⟩ := trodAll_cons hA1
    obtain ⟨v3, vs3, d3, ds3, p3, q3, ha3, _, _, ⟨fu3, ht3⟩, hA3⟩ := trodAll_cons hA2
    obtain ⟨v4, vs4, d4, ds4, p4, q4, ha4, _, _, ⟨fu4, ht4⟩, hA4⟩ := trodAll_cons hA3
    obtain ⟨hnil, _, _⟩ := trodAll_nil hA4
    have hargs : args.toList = [v0, v1, v2, v3, v4] := by rw [ha0, ha1, ha2, ha3, ha4, hnil]
    have hv0 : args[0]? = some v0 := by rw [← Array.getElem?_toList, hargs]; rfl
    obtain ⟨cs0, rfl⟩ := okWide_str (UL.h (P := Tryz.prog) (t := 40)) (hval 0 40 v0 rfl hv0)
    have hu0 : DataW.trod enc Tryz.prog W 0 (fun _ => true) true fu0 40 cs0 = some (d0, p0) := ht0
    obtain ⟨x0, rfl, k0⟩ := d37_of_trod hu0
    have hv1 : args[1]? = some v1 := by rw [← Array.getElem?_toList, hargs]; rfl
    obtain ⟨cs1, rfl⟩ := okWide_str (UL.h (P := Tryz.prog) (t := 44)) (hval 1 44 v1 rfl hv1)
    have hu1 : DataW.trod enc Tryz.prog W 0 (fun _ => true) true fu1 44 cs1 = some (d1, p1) := ht1
    obtain ⟨y1, rfl, j1, r1, q1r⟩ := g10_of_trod (fun _ => rfl) hu1
    have hv2 : args[2]? = some v2 := by rw [← Array.getElem?_toList, hargs]; rfl
    obtain ⟨n2, rfl, k2⟩ := int_arg (UL.h (P := Tryz.prog) (t := 23)) (hval 2 23 v2 rfl hv2) ht2
    have hv3 : args[3]? = some v3 := by rw [← Array.getElem?_toList, hargs]; rfl
    obtain ⟨n3, rfl, k3⟩ := int_arg (UL.h (P := Tryz.prog) (t := 3)) (hval 3 3 v3 rfl hv3) ht3
    have hv4 : args[4]? = some v4 := by rw [← Array.getElem?_toList, hargs]; rfl
    obtain ⟨n4, rfl, k4⟩ := int_arg (UL.h (P := Tryz.prog) (t := 5)) (hval 4 5 v4 rfl hv4) ht4
    rw [hargs]
    refine CallsS.oldFact (rd (cI .u8) y1.sv y1.S) r1 ?_
    refine CallsS.oldFact (rd (cI .u16) y1.vv y1.V) q1r ?_
    exact (by obtain ⟨m, rfl⟩ := nat_of (wfS_u16 k2); have hm := wfS_u16 k2; obtain ⟨o, rfl⟩ := nat_of (wfS_u8 k4); have ho := wfS_u8 k4; exact shellShells_ok htab x0 k0 y1 j1 (by omega) (by omega))
theorem over : Rows.shellShellsRow.holds Tryz.pinned (OpenSpec.ofChange Rows.shellShellsSpec) :=
  OpenClaim.holds_of_wide 4 Tryz.f4 rfl rfl rfl rfl rfl rfl rfl ⟨rfl, rfl, rfl, rfl, rfl⟩ rfl rfl rfl rfl rfl (by kernel_rfl) Tryz.func4 (by kernel_rfl)
    (of_decide_eq_true (by kernel_rfl)) (by unfold Func.isWrapper; first | (rw [if_pos (by decide +kernel)]; kernel_rfl) | (rw [if_neg (by decide +kernel)]; exact ⟨rfl, rfl⟩))
    (fun os started H enc _ => lifted os started H enc)
theorem shellShells_holds : Rows.ShellShellsCardSaid :=
  Claim7.holds_tied_plain_at .later [] [.data, .data, .data] true (true, "b0c7b5186f3ae85b323b1a33b7ce93c08079d9b750dc66a336a8ffe7b04f4d0b") true
    over (fun _ h => by cases h) (by kernel_rfl) (fun _ h => by cases h) shellShells_row_tie rfl ⟨rfl, rfl⟩ (by kernel_rfl) rfl
    (fun f fn hf hfn => by
      obtain rfl : f = 4 := Option.some.inj ((show Tryz.prog.funcNamed "verdigris/verdigrislaw37.ShellShells" = some 4 by kernel_rfl).symm.trans hf) |>.symm
      obtain rfl : fn = Tryz.f4 := (Option.some.inj (Tryz.func4.symm.trans hfn)).symm
      exact ⟨by kernel_rfl, fun j t ht => by
        rw [Tryz.params4] at ht
        have hm := Array.mem_of_getElem? ht
        have hall : ((Tryz.f4.params).all fun u => !Tryz.prog.wantsStandIn u) = true := by kernel_rfl
        rw [Tryz.params4] at hall
        exact (show Tryz.prog.wantsStandIn t = false by simpa using Array.all_eq_true_iff_forall_mem.1 hall t hm)⟩)
    (by kernel_rfl)
end Go.Proofs.YtjpghlljcibcjaaGreatDoor
