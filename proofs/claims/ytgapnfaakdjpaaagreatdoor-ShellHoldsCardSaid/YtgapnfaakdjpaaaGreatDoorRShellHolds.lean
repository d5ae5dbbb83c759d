/- ShellHolds: the row and the card. -/
import Derived.Test.YtgapnfaakdjpaaaGreatDoorCards
import Derived.Test.YtgapnfaakdjpaaaGreatDoorTie
import Derived.Test.YtgapnfaakdjpaaaGreatDoorFs
import Derived.Test.YtgapnfaakdjpaaaGreatDoorIh4
import Derived.SevenTiedAt
import Derived.Carry
namespace Go.Proofs.YtgapnfaakdjpaaaGreatDoor
open Go Go.Sx Go.ChangeShapes Go.WideShapes Go.ChangeAt Go.RowKit
theorem own:ownKnob Tryz.prog.godebug=none:=by kernel_rfl
theorem tab_of_laid {W:World} (h:laidMet Tryz.prog Rows.shellHoldsRow.laid W):Tab W:=by
  obtain ⟨g, t, cs, fuel, p, hg, hty, hvar, hd⟩ := Lib.laidMet.reads h (n := "internal/strconv.uint64pow10") (d := Rows.laid_internal_strconv_uint64pow10) (by simp [Rows.shellHoldsRow])
  obtain rfl := Option.some.inj ((show Tryz.prog.globalNamed "internal/strconv.uint64pow10" = some 0 by kernel_rfl).symm.trans hg)
  obtain rfl:=Option.some.inj ((show (Tryz.prog.globals[0]?).map (·.type)=some 287 by kernel_rfl).symm.trans hty)
  unfold Tab Lib.TabIs
  rw [hvar]
  have hd':DataW.trod (fun _=>()) Tryz.prog W 0 (fun _=>true) false fuel 287 cs.toList=some (Lib.tabData .u64 Lib.pow10Tab,p):=hd
  have:=Lib.cells_of_tab Tryz.underlying287 Tryz.underlying263 (by kernel_rfl) (by kernel_rfl) hd'
  rw [← this]
set_option maxRecDepth 100000 in
theorem lifted (os:Os) (started:os.Started) (H:Type) (enc:TypeId × Value→H) :
    ReturnsInHanded {} Tryz.checked os 9 .any (fun w args=>(Rows.shellHoldsSpec.pre enc Tryz.prog Tryz.f9 [] false w args∧laidMetH Tryz.prog Rows.shellHoldsRow.laid w)∧sizedMet enc Tryz.prog Tryz.f9 (OpenSpec.ofChange Rows.shellHoldsSpec) false w args)
      (Rows.shellHoldsSpec.post enc Tryz.prog Tryz.f9 false true false false):=by
  refine law_lifted started own (by kernel_rfl) Tryz.func9 rfl rfl Tryz.underlying4 ?_ (by kernel_rfl) (by kernel_rfl) (by kernel_rfl) ?_ (by kernel_rfl)
    (ChangeSpec.witness_shaped (enc:=enc) (C:=Tryz.checked) (os:=os) (X:=fun w _=>laidMetH Tryz.prog Rows.shellHoldsRow.laid w) false (World.laidAll Tryz.prog os Rows.shellHoldsRow.laid) #[.agg #[.int .u8 0,.int .u8 0,.int .u16 0,.int .u16 0,.int .u16 0,.int .u8 0,.int .u8 0,.int .u8 0],.int .u8 0] 8 (World.laidAll_os _ _ _)
      (World.shaped_of_ZipB (by kernel_rfl) (by kernel_rfl)) (by kernel_rfl) (by kernel_rfl) (by kernel_rfl)
      (by rw [MakeChecks.laidMetH_plain _ _ _ (by kernel_rfl)];exact laidMet_laidAll _ (by kernel_rfl) (by kernel_rfl))) ?_
  · intro ds hds
    rw [Tryz.params9] at hds
    match ds,hds with
    | [d0,d1],_=>rfl
  · have:((Tryz.f9.params.toList).all fun t=>decide (t < Tryz.prog.types.size))=true:=by kernel_rfl
    intro t ht
    exact of_decide_eq_true (List.all_eq_true.1 this t ht)
  · intro W base args ds ps hval hA _ hL
    have htab:=tab_of_laid hL
    rw [Tryz.params9] at hA hval
    obtain ⟨v0,vs0,d0,ds0,p0,q0,ha0,_,_,⟨fu0,ht0⟩,hA0⟩:=trodAll_cons hA
    obtain ⟨v1,vs1,d1,ds1,p1,q1,ha1,_,_,⟨fu1,ht1⟩,hA1⟩:=trodAll_cons hA0
    obtain ⟨hnil,_,_⟩:=trodAll_nil hA1
    have hargs:args.toList=[v0,v1]:=by rw [ha0,ha1,hnil]
    have hv0:args[0]?=some v0:=by rw [← Array.getElem?_toList,hargs];rfl
    obtain ⟨cs0,rfl⟩:=okWide_str (UL.h (P:=Tryz.prog) (t:=73)) (hval 0 73 v0 rfl hv0)
    have hu0:DataW.trod enc Tryz.prog W 0 (fun _=>true) true fu0 73 cs0=some (d0,p0):=ht0
    obtain ⟨x0,rfl,k0⟩:=d37_of_trod hu0
    have hv1:args[1]?=some v1:=by rw [← Array.getElem?_toList,hargs];rfl
    obtain ⟨n1,rfl,k1⟩:=int_arg (UL.h (P:=Tryz.prog) (t:=5)) (hval 1 5 v1 rfl hv1) ht1
    rw [hargs]
    exact (by obtain ⟨m,rfl⟩:=nat_of (wfS_u8 k1);have hm:=wfS_u8 k1;exact shellHolds_ok htab x0 k0 (by omega))
theorem over:Rows.shellHoldsRow.holds Tryz.pinned (OpenSpec.ofChange Rows.shellHoldsSpec) :=
  OpenClaim.holds_of_wide 9 Tryz.f9 rfl rfl rfl rfl rfl rfl rfl ⟨rfl,rfl,rfl,rfl,rfl⟩ rfl rfl rfl rfl rfl (by kernel_rfl) Tryz.func9 (by kernel_rfl)
    (of_decide_eq_true (by kernel_rfl)) (by unfold Func.isWrapper;first|(rw [if_pos (by decide +kernel)];kernel_rfl)|(rw [if_neg (by decide +kernel)];exact ⟨rfl,rfl⟩))
    (fun os started H enc _=>lifted os started H enc)
theorem shellHolds_holds:Rows.ShellHoldsCardSaid :=
  Claim7.holds_tied_plain_at .later [] [.data, .data, .data] true (true, "9972970e67a8e020aa2d7a28cef4402365f28e4eb7422be72179fc0bcf27c06f") true
    over (fun _ h=>by cases h) (by kernel_rfl) (fun _ h=>by cases h) shellHolds_row_tie rfl ⟨rfl,rfl⟩ (by kernel_rfl) rfl
    (fun f fn hf hfn=>by
      obtain rfl : f = 9 := Option.some.inj ((show Tryz.prog.funcNamed "verdigris/verdigrislaw37.ShellHolds" = some 9 by kernel_rfl).symm.trans hf) |>.symm
      obtain rfl:fn=Tryz.f9:=(Option.some.inj (Tryz.func9.symm.trans hfn)).symm
      exact ⟨by kernel_rfl,fun j t ht=>by
        rw [Tryz.params9] at ht
        have hm:=Array.mem_of_getElem? ht
        have hall:((Tryz.f9.params).all fun u=>!Tryz.prog.wantsStandIn u)=true:=by kernel_rfl
        rw [Tryz.params9] at hall
        exact (show Tryz.prog.wantsStandIn t=false by simpa using Array.all_eq_true_iff_forall_mem.1 hall t hm)⟩)
    (by kernel_rfl)
end Go.Proofs.YtgapnfaakdjpaaaGreatDoor
