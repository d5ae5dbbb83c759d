/- InkSplits: the row and the card. -/
import Derived.Test.YtoednejlfbfciaaGreatDoorCards
import Derived.Test.YtoednejlfbfciaaGreatDoorTie
import Derived.Test.YtoednejlfbfciaaGreatDoorFk2
import Derived.Test.YtoednejlfbfciaaGreatDoorKl7
import Derived.SevenTiedAt
import Derived.Carry
set_option maxHeartbeats 1000000
namespace Go.Proofs.YtoednejlfbfciaaGreatDoor
open Go Go.Sx Go.ChangeShapes Go.WideShapes Go.ChangeAt Go.RowKit
theorem own:ownKnob Tryz.prog.godebug=none:=by kernel_rfl
theorem tab_of_laid {W:World} (h:laidMet Tryz.prog Rows.inkSplitsRow.laid W):Tab W:=by
 obtain ⟨g, t, cs, fuel, p, hg, hty, hvar, hd⟩ := Lib.laidMet.reads h (n := "internal/strconv.uint64pow10") (d := Rows.laid_internal_strconv_uint64pow10) (by simp [Rows.inkSplitsRow])
 obtain rfl := Option.some.inj ((show Tryz.prog.globalNamed "internal/strconv.uint64pow10" = some 2 by kernel_rfl).symm.trans hg)
 obtain rfl:=Option.some.inj ((show (Tryz.prog.globals[2]?).map (·.type)=some 240 by kernel_rfl).symm.trans hty)
 unfold Tab Lib.TabIs
 rw [hvar]
 have hd':DataW.trod (fun _=>()) Tryz.prog W 0 (fun _=>true) false fuel 240 cs.toList=some (Lib.tabData .u64 Lib.pow10Tab,p):=hd
 have:=Lib.cells_of_tab Tryz.underlying240 Tryz.underlying126 (by kernel_rfl) (by kernel_rfl) hd'
 rw [← this]
theorem err_of_laid {W:World} (h:laidMet Tryz.prog Rows.inkSplitsRow.laid W):ErrR W:=by
 obtain ⟨g, t, cs, fuel, p, hg, hty, hvar, hd⟩ := Lib.laidMet.reads h (n := "strconv.ErrRange") (d := Rows.laid_strconv_ErrRange) (by simp [Rows.inkSplitsRow])
 obtain rfl := Option.some.inj ((show Tryz.prog.globalNamed "strconv.ErrRange" = some 1 by kernel_rfl).symm.trans hg)
 obtain rfl:=Option.some.inj ((show (Tryz.prog.globals[1]?).map (·.type)=some 149 by kernel_rfl).symm.trans hty)
 obtain ⟨f1,u,v,hcs,_,_⟩:=iface_of_trod Tryz.underlying149 hd
 refine ⟨.iface u v,?_,.inr ⟨u,v,rfl⟩⟩
 unfold World.var? at hvar
 rw [hg,Option.bind_some] at hvar
 simp only [World.cell?]
 cases ho:W.heap[1]? with
 | none=>rw [ho] at hvar;cases hvar
 | some o =>
  rw [ho] at hvar
  cases o with
  | cells c T fr =>
   simp only [Option.some.injEq] at hvar
   subst hvar
   have:c=#[.iface u v]:=Array.toList_inj.1 hcs
   rw [this];rfl
  | _=>cases hvar
set_option maxRecDepth 100000 in
theorem lifted (os:Os) (started:os.Started) (H:Type) (enc:TypeId × Value→H) :
  ReturnsInHanded {} Tryz.checked os 3 .any (fun w args=>(Rows.inkSplitsSpec.pre enc Tryz.prog Tryz.f3 [] false w args∧laidMetH Tryz.prog Rows.inkSplitsRow.laid w)∧sizedMet enc Tryz.prog Tryz.f3 (OpenSpec.ofChange Rows.inkSplitsSpec) false w args)
   (Rows.inkSplitsSpec.post enc Tryz.prog Tryz.f3 false true false false):=by
 refine Zjp started own (by kernel_rfl) Tryz.func3 rfl rfl Tryz.underlying4 ?_ (by kernel_rfl) (by kernel_rfl) (by kernel_rfl) ?_ (by kernel_rfl)
  (ChangeSpec.witness_shaped (enc:=enc) (C:=Tryz.checked) (os:=os) (X:=fun w _=>laidMetH Tryz.prog Rows.inkSplitsRow.laid w) false (World.laidAll Tryz.prog os Rows.inkSplitsRow.laid) #[.agg #[.int .i64 0,.slice none 0 0,.slice none 0 0,.int .i64 0],.agg #[.int .u8 0,.slice none 0 0,.slice none 0 0,.bool false,.bool false],.int .u16 0,.agg #[.int .i64 0,.int .i64 0,.int .i64 0],.agg #[.int .u16 0,.int .u16 0,.int .u16 0]] 8 (World.laidAll_os _ _ _)
   (World.shaped_of_ZipB (by kernel_rfl) (by kernel_rfl)) (by kernel_rfl) (by kernel_rfl) (by kernel_rfl)
   (by rw [MakeChecks.laidMetH_plain _ _ _ (by kernel_rfl)];exact laidMet_laidAll _ (by kernel_rfl) (by kernel_rfl))) ?_
 ·intro ds hds
  rw [Tryz.params3] at hds
  match ds,hds with
  | [d0,d1,d2,d3,d4],_=>rfl
 ·have:((Tryz.f3.params.toList).all fun t=>decide (t < Tryz.prog.types.size))=true:=by kernel_rfl
  intro t ht
  exact of_decide_eq_true (List.all_eq_true.1 this t ht)
 ·intro W base args ds ps hval hA _ hL
  have htab:=tab_of_laid hL
  have herr:=err_of_laid hL
  rw [Tryz.params3] at hA hval
  obtain ⟨v0,vs0,d0,ds0,p0,q0,ha0,_,_,⟨fu0,ht0⟩,hA0⟩:=trodAll_cons hA
  obtain ⟨v1,vs1,d1,ds1,p1,q1,ha1,_,_,⟨fu1,ht1⟩,hA1⟩:=trodAll_cons hA0
  obtain ⟨v2,vs2,d2,ds2,p2,q2,ha2,_,_,⟨fu2,ht2⟩,hA2⟩:=trodAll_cons hA1
  obtain ⟨v3,vs3,d3,ds3,p3,q3,ha3,_,_,⟨fu3,ht3⟩,hA3⟩:=trodAll_cons hA2
  obtain ⟨v4,vs4,d4,ds4,p4,q4,ha4,_,_,⟨fu4,ht4⟩,hA4⟩:=trodAll_cons hA3
  obtain ⟨hnil,_,_⟩:=trodAll_nil hA4
  have hargs:args.toList=[v0,v1,v2,v3,v4]:=by rw [ha0,ha1,ha2,ha3,ha4,hnil]
  have hv0:args[0]?=some v0:=by rw [← Array.getElem?_toList,hargs];rfl
  obtain ⟨cs0,rfl⟩:=Zgn (UL.h (P:=Tryz.prog) (t:=27)) (hval 0 27 v0 rfl hv0)
  have hu0:DataW.trod enc Tryz.prog W 0 (fun _=>true) true fu0 27 cs0=some (d0,p0):=ht0
  obtain ⟨rk0,rn0,rt0,rtb0,rs0,rsg0,rfl,rl0,rm0,rr0,rq0⟩:=Zkl (fun _=>rfl) hu0
  have hv1:args[1]?=some v1:=by rw [← Array.getElem?_toList,hargs];rfl
  obtain ⟨cs1,rfl⟩:=Zgn (UL.h (P:=Tryz.prog) (t:=31)) (hval 1 31 v1 rfl hv1)
  have hu1:DataW.trod enc Tryz.prog W 0 (fun _=>true) true fu1 31 cs1=some (d1,p1):=ht1
  obtain ⟨kd1,dt1,dus1,dv1,dps1,dro1,dri1,rfl,dk1,dl1,du1,dm1,dp1,dr1,dq1⟩:=Zil (fun _=>rfl) hu1
  have hv2:args[2]?=some v2:=by rw [← Array.getElem?_toList,hargs];rfl
  obtain ⟨n2,rfl,k2⟩:=Ztl (UL.h (P:=Tryz.prog) (t:=32)) (hval 2 32 v2 rfl hv2) ht2
  have hv3:args[3]?=some v3:=by rw [← Array.getElem?_toList,hargs];rfl
  obtain ⟨cs3,rfl,_⟩:=Zeq (UL.h (P:=Tryz.prog) (t:=33)) (hval 3 33 v3 rfl hv3)
  have hu3:DataW.trod enc Tryz.prog W 0 (fun _=>true) true fu3 33 cs3=some (d3,p3):=ht3
  obtain ⟨m3,n3,o3,rfl,a3,b3,c3⟩:=Zmp hu3
  have hv4:args[4]?=some v4:=by rw [← Array.getElem?_toList,hargs];rfl
  obtain ⟨cs4,rfl,_⟩:=Zeq (UL.h (P:=Tryz.prog) (t:=34)) (hval 4 34 v4 rfl hv4)
  have hu4:DataW.trod enc Tryz.prog W 0 (fun _=>true) true fu4 34 cs4=some (d4,p4):=ht4
  obtain ⟨m4,n4,o4,rfl,a4,b4,c4⟩:=Zgz hu4
  rw [hargs]
  refine CallsS.oldFact (rd (cI .i64) rt0 rtb0) rr0 ?_
  refine CallsS.oldFact (rd cSeg rs0 rsg0) rq0 ?_
  refine CallsS.oldFact (rd (cI .u16) dt1 dus1) dr1 ?_
  refine CallsS.oldFact (rd cPrt dv1 dps1) dq1 ?_
  exact Zmq htab herr dk1 du1 dl1 dp1 dm1 rl0 rm0 (Zdf k2) a4 b4 c4
theorem over:Rows.inkSplitsRow.holds Tryz.pinned (OpenSpec.ofChange Rows.inkSplitsSpec) :=
 OpenClaim.holds_of_wide 3 Tryz.f3 rfl rfl rfl rfl rfl rfl rfl ⟨rfl,rfl,rfl,rfl,rfl⟩ rfl rfl rfl rfl rfl (by kernel_rfl) Tryz.func3 (by kernel_rfl)
  (of_decide_eq_true (by kernel_rfl)) (by unfold Func.isWrapper;first|(rw [if_pos (by decide +kernel)];kernel_rfl)|(rw [if_neg (by decide +kernel)];exact ⟨rfl,rfl⟩))
  (fun os started H enc _=>lifted os started H enc)
theorem inkSplits_holds:Rows.InkSplitsCardSaid :=
 Claim7.holds_tied_plain_at .later [] [.data, .data, .data, .sentinel, .sentinel] true (true, "304733f08f9013bb1d223d3d9c3b8eb53bc6fe503147fbec593b8ecf0b64372e") true
  over (fun _ h=>by cases h) (by kernel_rfl) (fun _ h=>by cases h) inkSplits_row_tie rfl ⟨rfl,rfl⟩ (by kernel_rfl) rfl
  (fun f fn hf hfn=>by
   obtain rfl : f = 3 := Option.some.inj ((show Tryz.prog.funcNamed "verdigris/verdigrislaw39.InkSplits" = some 3 by kernel_rfl).symm.trans hf) |>.symm
   obtain rfl:fn=Tryz.f3:=(Option.some.inj (Tryz.func3.symm.trans hfn)).symm
   exact ⟨by kernel_rfl,fun j t ht=>by
        rw [Tryz.params3] at ht
        have hm:=Array.mem_of_getElem? ht
        have hall:((Tryz.f3.params).all fun u=>!Tryz.prog.wantsStandIn u)=true:=by kernel_rfl
        rw [Tryz.params3] at hall
        exact (show Tryz.prog.wantsStandIn t=false by simpa using Array.all_eq_true_iff_forall_mem.1 hall t hm)⟩)
  (by kernel_rfl)
end Go.Proofs.YtoednejlfbfciaaGreatDoor
