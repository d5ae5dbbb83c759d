/- MeshMoves: the row and the card. -/
import Derived.Test.YtcgcjknkfalijaaGreatDoorCards
import Derived.Test.YtcgcjknkfalijaaGreatDoorTie
import Derived.Test.YtcgcjknkfalijaaGreatDoorFr
import Derived.Test.YtcgcjknkfalijaaGreatDoorMm1
import Derived.SevenTiedAt
import Derived.Carry
set_option maxHeartbeats 1000000
namespace Go.Proofs.YtcgcjknkfalijaaGreatDoor
open Go Go.Sx Go.ChangeShapes Go.WideShapes Go.ChangeAt Go.RowKit
theorem own:ownKnob Tryz.prog.godebug=none:=by kernel_rfl
theorem tab_of_laid {W:World} (h:laidMet Tryz.prog Rows.meshMovesRow.laid W):Tab W:=by
 obtain ⟨g, t, cs, fuel, p, hg, hty, hvar, hd⟩ := Lib.laidMet.reads h (n := "internal/strconv.uint64pow10") (d := Rows.laid_internal_strconv_uint64pow10) (by simp [Rows.meshMovesRow])
 obtain rfl := Option.some.inj ((show Tryz.prog.globalNamed "internal/strconv.uint64pow10" = some 2 by kernel_rfl).symm.trans hg)
 obtain rfl:=Option.some.inj ((show (Tryz.prog.globals[2]?).map (·.type)=some 151 by kernel_rfl).symm.trans hty)
 unfold Tab Lib.TabIs
 rw [hvar]
 have hd':DataW.trod (fun _=>()) Tryz.prog W 0 (fun _=>true) false fuel 151 cs.toList=some (Lib.tabData .u64 Lib.pow10Tab,p):=hd
 have:=Lib.cells_of_tab Tryz.underlying151 Tryz.underlying101 (by kernel_rfl) (by kernel_rfl) hd'
 rw [← this]
set_option maxRecDepth 100000 in
theorem lifted (os:Os) (started:os.Started) (H:Type) (enc:TypeId × Value→H) :
  ReturnsInHanded {} Tryz.checked os 3 .any (fun w args=>(Rows.meshMovesSpec.pre enc Tryz.prog Tryz.f3 [] false w args∧laidMetH Tryz.prog Rows.meshMovesRow.laid w)∧sizedMet enc Tryz.prog Tryz.f3 (OpenSpec.ofChange Rows.meshMovesSpec) false w args)
   (Rows.meshMovesSpec.post enc Tryz.prog Tryz.f3 false true false false):=by
 refine Zmm started own (by kernel_rfl) Tryz.func3 rfl rfl Tryz.underlying4 ?_ (by kernel_rfl) (by kernel_rfl) (by kernel_rfl) ?_ (by kernel_rfl)
  (ChangeSpec.witness_shaped (enc:=enc) (C:=Tryz.checked) (os:=os) (X:=fun w _=>laidMetH Tryz.prog Rows.meshMovesRow.laid w) false (World.laidAll Tryz.prog os Rows.meshMovesRow.laid) #[.agg #[.int .u8 0,.int .u8 0,.int .i16 0,.int .i16 0,.int .i16 0,.slice none 0 0,.bool false],.agg #[.int .i16 0,.int .i16 0,.int .i16 0]] 8 (World.laidAll_os _ _ _)
   (World.shaped_of_ZipB (by kernel_rfl) (by kernel_rfl)) (by kernel_rfl) (by kernel_rfl) (by kernel_rfl)
   (by rw [MakeChecks.laidMetH_plain _ _ _ (by kernel_rfl)];exact laidMet_laidAll _ (by kernel_rfl) (by kernel_rfl))) ?_
 ·intro ds hds
  rw [Tryz.params3] at hds
  match ds,hds with
  | [d0,d1],_=>rfl
 ·have:((Tryz.f3.params.toList).all fun t=>decide (t < Tryz.prog.types.size))=true:=by kernel_rfl
  intro t ht
  exact of_decide_eq_true (List.all_eq_true.1 this t ht)
 ·intro W base args ds ps hval hA _ hL
  have htab:=tab_of_laid hL
  rw [Tryz.params3] at hA hval
  obtain ⟨v0,vs0,d0,ds0,p0,q0,ha0,_,_,⟨fu0,ht0⟩,hA0⟩:=trodAll_cons hA
  obtain ⟨v1,vs1,d1,ds1,p1,q1,ha1,_,_,⟨fu1,ht1⟩,hA1⟩:=trodAll_cons hA0
  obtain ⟨hnil,_,_⟩:=trodAll_nil hA1
  have hargs:args.toList=[v0,v1]:=by rw [ha0,ha1,hnil]
  have hv0:args[0]?=some v0:=by rw [← Array.getElem?_toList,hargs];rfl
  obtain ⟨cs0,rfl⟩:=Zmd (UL.h (P:=Tryz.prog) (t:=26)) (hval 0 26 v0 rfl hv0)
  have hu0:DataW.trod enc Tryz.prog W 0 (fun _=>true) true fu0 26 cs0=some (d0,p0):=ht0
  obtain ⟨d,rfl,hd,ro⟩:=Zhu (fun _=>rfl) hu0
  have hv1:args[1]?=some v1:=by rw [← Array.getElem?_toList,hargs];rfl
  obtain ⟨cs1,rfl,_⟩:=Zim (UL.h (P:=Tryz.prog) (t:=23)) (hval 1 23 v1 rfl hv1)
  have hu1:DataW.trod enc Tryz.prog W 0 (fun _=>true) true fu1 23 cs1=some (d1,p1):=ht1
  obtain ⟨s0,s1,s2,rfl,hs⟩:=Zma hu1
  rw [hargs]
  refine CallsS.oldFact (rd (cI .i8) d.ov d.off) ro ?_
  exact Ziq htab d hd hs
theorem over:Rows.meshMovesRow.holds Tryz.pinned (OpenSpec.ofChange Rows.meshMovesSpec) :=
 OpenClaim.holds_of_wide 3 Tryz.f3 rfl rfl rfl rfl rfl rfl rfl ⟨rfl,rfl,rfl,rfl,rfl⟩ rfl rfl rfl rfl rfl (by kernel_rfl) Tryz.func3 (by kernel_rfl)
  (of_decide_eq_true (by kernel_rfl)) (by unfold Func.isWrapper;first|(rw [if_pos (by decide +kernel)];kernel_rfl)|(rw [if_neg (by decide +kernel)];exact ⟨rfl,rfl⟩))
  (fun os started H enc _=>lifted os started H enc)
theorem meshMoves_holds:Rows.MeshMovesCardSaid :=
 Claim7.holds_tied_plain_at .later [] [.data, .data, .data, .sentinel, .sentinel] true (true, "a8fd672a7d67d2b3a3d8fd5db396cd1fc3369681c53ad88362b114f3afeddac6") true
  over (fun _ h=>by cases h) (by kernel_rfl) (fun _ h=>by cases h) meshMoves_row_tie rfl ⟨rfl,rfl⟩ (by kernel_rfl) rfl
  (fun f fn hf hfn=>by
   obtain rfl : f = 3 := Option.some.inj ((show Tryz.prog.funcNamed "verdigris/verdigrislaw35.MeshMoves" = some 3 by kernel_rfl).symm.trans hf) |>.symm
   obtain rfl:fn=Tryz.f3:=(Option.some.inj (Tryz.func3.symm.trans hfn)).symm
   exact ⟨by kernel_rfl,fun j t ht=>by
        rw [Tryz.params3] at ht
        have hm:=Array.mem_of_getElem? ht
        have hall:((Tryz.f3.params).all fun u=>!Tryz.prog.wantsStandIn u)=true:=by kernel_rfl
        rw [Tryz.params3] at hall
        exact (show Tryz.prog.wantsStandIn t=false by simpa using Array.all_eq_true_iff_forall_mem.1 hall t hm)⟩)
  (by kernel_rfl)
end Go.Proofs.YtcgcjknkfalijaaGreatDoor
