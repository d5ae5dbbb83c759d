/- InsideRays: the row and the card. -/
import Derived.Test.YtgapnfaakdjpaaaGreatDoorCards
import Derived.Test.YtgapnfaakdjpaaaGreatDoorTie
import Derived.Test.YtgapnfaakdjpaaaGreatDoorFr4
import Derived.Test.YtgapnfaakdjpaaaGreatDoorJr6
import Derived.SevenTiedAt
import Derived.Carry
namespace Go.Proofs.YtgapnfaakdjpaaaGreatDoor
open Go Go.Sx Go.ChangeShapes Go.WideShapes Go.ChangeAt Go.RowKit
theorem own:ownKnob Tryz.prog.godebug=none:=by kernel_rfl
theorem tab_of_laid {W:World} (h:laidMet Tryz.prog Rows.insideRaysRow.laid W):Tab W:=by
  obtain ⟨g, t, cs, fuel, p, hg, hty, hvar, hd⟩ := Lib.laidMet.reads h (n := "internal/strconv.uint64pow10") (d := Rows.laid_internal_strconv_uint64pow10) (by simp [Rows.insideRaysRow])
  obtain rfl := Option.some.inj ((show Tryz.prog.globalNamed "internal/strconv.uint64pow10" = some 0 by kernel_rfl).symm.trans hg)
  obtain rfl:=Option.some.inj ((show (Tryz.prog.globals[0]?).map (·.type)=some 287 by kernel_rfl).symm.trans hty)
  unfold Tab Lib.TabIs
  rw [hvar]
  have hd':DataW.trod (fun _=>()) Tryz.prog W 0 (fun _=>true) false fuel 287 cs.toList=some (Lib.tabData .u64 Lib.pow10Tab,p):=hd
  have:=Lib.cells_of_tab Tryz.underlying287 Tryz.underlying263 (by kernel_rfl) (by kernel_rfl) hd'
  rw [← this]
set_option maxRecDepth 100000 in
theorem lifted (os:Os) (started:os.Started) (H:Type) (enc:TypeId × Value→H) :
    ReturnsInHanded {} Tryz.checked os 4 .any (fun w args=>(Rows.insideRaysSpec.pre enc Tryz.prog Tryz.f4 [] false w args∧laidMetH Tryz.prog Rows.insideRaysRow.laid w)∧sizedMet enc Tryz.prog Tryz.f4 (OpenSpec.ofChange Rows.insideRaysSpec) false w args)
      (Rows.insideRaysSpec.post enc Tryz.prog Tryz.f4 false true false false):=by
  refine law_lifted started own (by kernel_rfl) Tryz.func4 rfl rfl Tryz.underlying4 ?_ (by kernel_rfl) (by kernel_rfl) (by kernel_rfl) ?_ (by kernel_rfl)
    (ChangeSpec.witness_shaped (enc:=enc) (C:=Tryz.checked) (os:=os) (X:=fun w _=>laidMetH Tryz.prog Rows.insideRaysRow.laid w) false (World.laidAll Tryz.prog os Rows.insideRaysRow.laid) #[.agg #[.int .u8 0,.int .u8 0,.int .i16 0,.int .i16 0,.int .i16 0,.slice none 0 0,.bool false],.int .u8 0,.agg #[.int .u8 0,.int .u8 0,.int .u8 0,.int .u8 0,.int .u8 0,.int .u8 0,.int .i16 0,.int .i16 0,.int .i16 0,.int .u8 0,.int .u8 0,.int .u8 0,.int .u8 0,.int .u8 0,.int .u8 0,.int .i16 0,.int .i16 0,.int .i16 0,.int .u8 0,.int .u8 0,.int .u8 0,.int .u8 0,.int .u8 0,.int .u8 0,.int .i16 0,.int .i16 0,.int .i16 0],.agg #[.int .i64 0,.int .i64 0,.int .i64 0]] 8 (World.laidAll_os _ _ _)
      (World.shaped_of_ZipB (by kernel_rfl) (by kernel_rfl)) (by kernel_rfl) (by kernel_rfl) (by kernel_rfl)
      (by rw [MakeChecks.laidMetH_plain _ _ _ (by kernel_rfl)];exact laidMet_laidAll _ (by kernel_rfl) (by kernel_rfl))) ?_
  · intro ds hds
    rw [Tryz.params4] at hds
    match ds,hds with
    | [d0,d1,d2,d3],_=>rfl
  · have:((Tryz.f4.params.toList).all fun t=>decide (t < Tryz.prog.types.size))=true:=by kernel_rfl
    intro t ht
    exact of_decide_eq_true (List.all_eq_true.1 this t ht)
  · intro W base args ds ps hval hA _ hL
    have htab:=tab_of_laid hL
    rw [Tryz.params4] at hA hval
    obtain ⟨v0,vs0,d0,ds0,p0,q0,ha0,_,_,⟨fu0,ht0⟩,hA0⟩:=trodAll_cons hA
    obtain ⟨v1,vs1,d1,ds1,p1,q1,ha1,_,_,⟨fu1,ht1⟩,hA1⟩:=trodAll_cons hA0
    obtain ⟨v2,vs2,d2,ds2,p2,q2,ha2,_,_,⟨fu2,ht2⟩,hA2⟩:=trodAll_cons hA1
    obtain ⟨v3,vs3,d3,ds3,p3,q3,ha3,_,_,⟨fu3,ht3⟩,hA3⟩:=trodAll_cons hA2
    obtain ⟨hnil,_,_⟩:=trodAll_nil hA3
    have hargs:args.toList=[v0,v1,v2,v3]:=by rw [ha0,ha1,ha2,ha3,hnil]
    have hv0:args[0]?=some v0:=by rw [← Array.getElem?_toList,hargs];rfl
    obtain ⟨cs0,rfl⟩:=okWide_str (UL.h (P:=Tryz.prog) (t:=26)) (hval 0 26 v0 rfl hv0)
    have hu0:DataW.trod enc Tryz.prog W 0 (fun _=>true) true fu0 26 cs0=some (d0,p0):=ht0
    obtain ⟨d,rfl,hd,ro⟩:=draft_of_trod (fun _=>rfl) hu0
    have hv1:args[1]?=some v1:=by rw [← Array.getElem?_toList,hargs];rfl
    obtain ⟨n1,rfl,k1⟩:=int_arg (UL.h (P:=Tryz.prog) (t:=5)) (hval 1 5 v1 rfl hv1) ht1
    have hv2:args[2]?=some v2:=by rw [← Array.getElem?_toList,hargs];rfl
    obtain ⟨cs2,rfl,_⟩:=okWide_array (UL.h (P:=Tryz.prog) (t:=44)) (hval 2 44 v2 rfl hv2)
    have hu2:DataW.trod enc Tryz.prog W 0 (fun _=>true) true fu2 44 cs2=some (d2,p2):=ht2
    obtain ⟨y2,z2,u2,rfl,k2,j2,m2⟩:=places3_of_trod hu2
    have hv3:args[3]?=some v3:=by rw [← Array.getElem?_toList,hargs];rfl
    obtain ⟨cs3,rfl,_⟩:=okWide_array (UL.h (P:=Tryz.prog) (t:=31)) (hval 3 31 v3 rfl hv3)
    have hu3:DataW.trod enc Tryz.prog W 0 (fun _=>true) true fu3 31 cs3=some (d3,p3):=ht3
    obtain ⟨by_,rfl,_⟩:=v3_of_trod hu3
    rw [hargs]
    refine CallsS.oldFact (rd (cI .i8) d.ov d.off) ro ?_
    exact insideRays_ok htab d hd (wf_u8 k1) k2 j2 m2
theorem over:Rows.insideRaysRow.holds Tryz.pinned (OpenSpec.ofChange Rows.insideRaysSpec) :=
  OpenClaim.holds_of_wide 4 Tryz.f4 rfl rfl rfl rfl rfl rfl rfl ⟨rfl,rfl,rfl,rfl,rfl⟩ rfl rfl rfl rfl rfl (by kernel_rfl) Tryz.func4 (by kernel_rfl)
    (of_decide_eq_true (by kernel_rfl)) (by unfold Func.isWrapper;first|(rw [if_pos (by decide +kernel)];kernel_rfl)|(rw [if_neg (by decide +kernel)];exact ⟨rfl,rfl⟩))
    (fun os started H enc _=>lifted os started H enc)
theorem insideRays_holds:Rows.InsideRaysCardSaid :=
  Claim7.holds_tied_plain_at .later [] [.data, .data, .data] true (true, "9972970e67a8e020aa2d7a28cef4402365f28e4eb7422be72179fc0bcf27c06f") true
    over (fun _ h=>by cases h) (by kernel_rfl) (fun _ h=>by cases h) insideRays_row_tie rfl ⟨rfl,rfl⟩ (by kernel_rfl) rfl
    (fun f fn hf hfn=>by
      obtain rfl : f = 4 := Option.some.inj ((show Tryz.prog.funcNamed "verdigris/verdigrislaw36.InsideRays" = some 4 by kernel_rfl).symm.trans hf) |>.symm
      obtain rfl:fn=Tryz.f4:=(Option.some.inj (Tryz.func4.symm.trans hfn)).symm
      exact ⟨by kernel_rfl,fun j t ht=>by
        rw [Tryz.params4] at ht
        have hm:=Array.mem_of_getElem? ht
        have hall:((Tryz.f4.params).all fun u=>!Tryz.prog.wantsStandIn u)=true:=by kernel_rfl
        rw [Tryz.params4] at hall
        exact (show Tryz.prog.wantsStandIn t=false by simpa using Array.all_eq_true_iff_forall_mem.1 hall t hm)⟩)
    (by kernel_rfl)
end Go.Proofs.YtgapnfaakdjpaaaGreatDoor
