/- MeshKnown: the row and the card. -/
import Derived.Test.YtlgdjjkiofcdmaaDoorCards
import Derived.Test.YtlgdjjkiofcdmaaDoorTie
import Derived.Test.YtlgdjjkiofcdmaaDoorFr
import Derived.Test.YtlgdjjkiofcdmaaDoorMk2
import Derived.SevenTiedAt
import Derived.Carry
set_option maxHeartbeats 1000000
namespace Go.Proofs.YtlgdjjkiofcdmaaDoor
open Go Go.Sx Go.ChangeShapes Go.WideShapes Go.ChangeAt Go.RowKit
theorem own:ownKnob Tryd.prog.godebug=none:=by kernel_rfl
theorem tab_of_laid {W:World} (h:laidMet Tryd.prog Rows.meshKnownRow.laid W):Tab W:=by
 obtain ⟨g, t, cs, fuel, p, hg, hty, hvar, hd⟩ := Lib.laidMet.reads h (n := "internal/strconv.uint64pow10") (d := Rows.laid_internal_strconv_uint64pow10) (by simp [Rows.meshKnownRow])
 obtain rfl := Option.some.inj ((show Tryd.prog.globalNamed "internal/strconv.uint64pow10" = some 0 by kernel_rfl).symm.trans hg)
 obtain rfl:=Option.some.inj ((show (Tryd.prog.globals[0]?).map (·.type)=some 102 by kernel_rfl).symm.trans hty)
 unfold Tab Lib.TabIs
 rw [hvar]
 have hd':DataW.trod (fun _=>()) Tryd.prog W 0 (fun _=>true) false fuel 102 cs.toList=some (Lib.tabData .u64 Lib.pow10Tab,p):=hd
 have:=Lib.cells_of_tab Tryd.underlying102 Tryd.underlying86 (by kernel_rfl) (by kernel_rfl) hd'
 rw [← this]
set_option maxRecDepth 100000 in
theorem lifted (os:Os) (started:os.Started) (H:Type) (enc:TypeId × Value→H) :
  ReturnsInHanded {} Tryd.checked os 3 .any (fun w args=>(Rows.meshKnownSpec.pre enc Tryd.prog Tryd.f3 [] false w args∧laidMetH Tryd.prog Rows.meshKnownRow.laid w)∧sizedMet enc Tryd.prog Tryd.f3 (OpenSpec.ofChange Rows.meshKnownSpec) false w args)
   (Rows.meshKnownSpec.post enc Tryd.prog Tryd.f3 false true false false):=by
 refine Zmc started own (by kernel_rfl) Tryd.func3 rfl rfl Tryd.underlying4 ?_ (by kernel_rfl) (by kernel_rfl) (by kernel_rfl) ?_ (by kernel_rfl)
  (ChangeSpec.witness_shaped (enc:=enc) (C:=Tryd.checked) (os:=os) (X:=fun w _=>laidMetH Tryd.prog Rows.meshKnownRow.laid w) false (World.laidAll Tryd.prog os Rows.meshKnownRow.laid) #[] 8 (World.laidAll_os _ _ _)
   (World.shaped_of_ZipB (by kernel_rfl) (by kernel_rfl)) (by kernel_rfl) (by kernel_rfl) (by kernel_rfl)
   (by rw [MakeChecks.laidMetH_plain _ _ _ (by kernel_rfl)];exact laidMet_laidAll _ (by kernel_rfl) (by kernel_rfl))) ?_
 ·intro ds hds
  rw [Tryd.params3] at hds
  match ds,hds with
  | [],_=>rfl
 ·have:((Tryd.f3.params.toList).all fun t=>decide (t < Tryd.prog.types.size))=true:=by kernel_rfl
  intro t ht
  exact of_decide_eq_true (List.all_eq_true.1 this t ht)
 ·intro W base args ds ps hval hA _ hL
  have htab:=tab_of_laid hL
  rw [Tryd.params3] at hA hval
  obtain ⟨hnil,_,_⟩:=trodAll_nil hA
  have hargs:args.toList=[]:=hnil
  rw [hargs]
  exact Zis htab
theorem over:Rows.meshKnownRow.holds Tryd.pinned (OpenSpec.ofChange Rows.meshKnownSpec) :=
 OpenClaim.holds_of_wide 3 Tryd.f3 rfl rfl rfl rfl rfl rfl rfl ⟨rfl,rfl,rfl,rfl,rfl⟩ rfl rfl rfl rfl rfl (by kernel_rfl) Tryd.func3 (by kernel_rfl)
  (of_decide_eq_true (by kernel_rfl)) (by unfold Func.isWrapper;first|(rw [if_pos (by decide +kernel)];kernel_rfl)|(rw [if_neg (by decide +kernel)];exact ⟨rfl,rfl⟩))
  (fun os started H enc _=>lifted os started H enc)
theorem meshKnown_holds:Rows.MeshKnownCardSaid :=
 Claim7.holds_tied_plain_at .later [] [.data, .data, .data] true (true, "1fe67985151228ff348a0ec0942d757b7cb78b5599479287bac2edcce25b63df") false
  over (fun _ h=>by cases h) (by kernel_rfl) (fun _ h=>by cases h) meshKnown_row_tie rfl ⟨rfl,rfl⟩ (by kernel_rfl) rfl
  (fun f fn hf hfn=>by
   obtain rfl : f = 3 := Option.some.inj ((show Tryd.prog.funcNamed "verdigris/verdigrislaw35.MeshKnown" = some 3 by kernel_rfl).symm.trans hf) |>.symm
   obtain rfl:fn=Tryd.f3:=(Option.some.inj (Tryd.func3.symm.trans hfn)).symm
   exact ⟨by kernel_rfl,fun j t ht=>by
        rw [Tryd.params3] at ht
        have hm:=Array.mem_of_getElem? ht
        have hall:((Tryd.f3.params).all fun u=>!Tryd.prog.wantsStandIn u)=true:=by kernel_rfl
        rw [Tryd.params3] at hall
        exact (show Tryd.prog.wantsStandIn t=false by simpa using Array.all_eq_true_iff_forall_mem.1 hall t hm)⟩)
  (by kernel_rfl)
end Go.Proofs.YtlgdjjkiofcdmaaDoor
