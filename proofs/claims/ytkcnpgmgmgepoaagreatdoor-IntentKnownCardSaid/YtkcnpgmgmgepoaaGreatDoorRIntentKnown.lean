/- IntentKnown: the card. -/
import Derived.Test.YtkcnpgmgmgepoaaGreatDoorRaIntentKnown
import Derived.Test.YtkcnpgmgmgepoaaGreatDoorRjIntentKnown
namespace Go.Proofs.YtkcnpgmgmgepoaaGreatDoor
open Go Go.Sx Go.ChangeShapes Go.WideShapes Go.ChangeAt Go.RowKit
theorem over:Rows.intentKnownRow.holds Tryz.pinned (OpenSpec.ofChange Rows.intentKnownSpec) :=
 OpenClaim.holds_of_wide 10 Tryz.f10 rfl rfl rfl rfl rfl rfl rfl ⟨rfl,rfl,rfl,rfl,rfl⟩ rfl rfl rfl rfl rfl jn Tryz.func10 jf
  (of_decide_eq_true (by kernel_rfl)) (by unfold Func.isWrapper;first|(rw [if_pos (by decide +kernel)];kernel_rfl)|(rw [if_neg (by decide +kernel)];exact ⟨rfl,rfl⟩))
  (fun os started H enc _=>lifted os started H enc)
theorem intentKnown_holds:Rows.IntentKnownCardSaid :=
 Claim7.holds_tied_plain_at .later [] [.data, .data, .data, .sentinel, .sentinel] true (true, "c16a81a91475e077ee1d400e6b946e39e46fe98b5526861d9d4a7de521fd2f5b") true
  over (fun _ h=>by cases h) m1 (fun _ h=>by cases h) intentKnown_row_tie rfl ⟨rfl,rfl⟩ m2 rfl
  (fun f fn hf hfn=>by
   obtain rfl : f = 10 := Option.some.inj (jn.symm.trans hf) |>.symm
   obtain rfl:fn=Tryz.f10:=(Option.some.inj (Tryz.func10.symm.trans hfn)).symm
   exact ⟨m3,fun j t ht=>by
        rw [Tryz.params10] at ht
        have hm:=Array.mem_of_getElem? ht
        have hall:((Tryz.f10.params).all fun u=>!Tryz.prog.wantsStandIn u)=true:=m5
        rw [Tryz.params10] at hall
        exact (show Tryz.prog.wantsStandIn t=false by simpa using Array.all_eq_true_iff_forall_mem.1 hall t hm)⟩)
  m4
end Go.Proofs.YtkcnpgmgmgepoaaGreatDoor
