/- IntentNeutral: the row and the card. -/
import Derived.Test.YtngcfjfaobcpmaaGreatDoorCards
import Derived.Test.YtngcfjfaobcpmaaGreatDoorTie
import Derived.Test.YtngcfjfaobcpmaaGreatDoorFr
import Derived.Test.YtngcfjfaobcpmaaGreatDoorNl6
import Derived.SevenTiedAt
import Derived.Carry
set_option maxHeartbeats 1000000
namespace Go.Proofs.YtngcfjfaobcpmaaGreatDoor
open Go Go.Sx Go.ChangeShapes Go.WideShapes Go.ChangeAt Go.RowKit
theorem own:ownKnob Tryz.prog.godebug=none:=by kernel_rfl
theorem tab_of_laid {W:World} (h:laidMet Tryz.prog Rows.intentNeutralRow.laid W):Tab W:=by
 obtain ⟨g, t, cs, fuel, p, hg, hty, hvar, hd⟩ := Lib.laidMet.reads h (n := "internal/strconv.uint64pow10") (d := Rows.laid_internal_strconv_uint64pow10) (by simp [Rows.intentNeutralRow])
 obtain rfl := Option.some.inj ((show Tryz.prog.globalNamed "internal/strconv.uint64pow10" = some 2 by kernel_rfl).symm.trans hg)
 obtain rfl:=Option.some.inj ((show (Tryz.prog.globals[2]?).map (·.type)=some 311 by kernel_rfl).symm.trans hty)
 unfold Tab Lib.TabIs
 rw [hvar]
 have hd':DataW.trod (fun _=>()) Tryz.prog W 0 (fun _=>true) false fuel 311 cs.toList=some (Lib.tabData .u64 Lib.pow10Tab,p):=hd
 have:=Lib.cells_of_tab Tryz.underlying311 Tryz.underlying230 (by kernel_rfl) (by kernel_rfl) hd'
 rw [← this]
theorem err_of_laid {W:World} (h:laidMet Tryz.prog Rows.intentNeutralRow.laid W):ErrR W:=by
 obtain ⟨g, t, cs, fuel, p, hg, hty, hvar, hd⟩ := Lib.laidMet.reads h (n := "strconv.ErrRange") (d := Rows.laid_strconv_ErrRange) (by simp [Rows.intentNeutralRow])
 obtain rfl := Option.some.inj ((show Tryz.prog.globalNamed "strconv.ErrRange" = some 1 by kernel_rfl).symm.trans hg)
 obtain rfl:=Option.some.inj ((show (Tryz.prog.globals[1]?).map (·.type)=some 257 by kernel_rfl).symm.trans hty)
 obtain ⟨f1,u,v,hcs,_,_⟩:=iface_of_trod Tryz.underlying257 hd
 refine ⟨.iface u v,?_,.inr ⟨u,v,rfl⟩⟩
 unfold World.var? at hvar
 rw [hg,Option.bind_some] at hvar
 simp only [World.cell?]
 cases ho:W.heap[1]? with
 | none=>rw [ho] at hvar;cases hvar
 | some o =>
  rw [ho] at hvar
  cases o with
  | cells c T fr =>
   simp only [Option.some.injEq] at hvar
   subst hvar
   have:c=#[.iface u v]:=Array.toList_inj.1 hcs
   rw [this];rfl
  | _=>cases hvar
set_option maxRecDepth 100000 in
theorem lifted (os:Os) (started:os.Started) (H:Type) (enc:TypeId × Value→H) :
  ReturnsInHanded {} Tryz.checked os 8 .any (fun w args=>(Rows.intentNeutralSpec.pre enc Tryz.prog Tryz.f8 [] false w args∧laidMetH Tryz.prog Rows.intentNeutralRow.laid w)∧sizedMet enc Tryz.prog Tryz.f8 (OpenSpec.ofChange Rows.intentNeutralSpec) false w args)
   (Rows.intentNeutralSpec.post enc Tryz.prog Tryz.f8 false true false false):=by
 refine Ze3 started own (by kernel_rfl) Tryz.func8 rfl rfl Tryz.underlying4 ?_ (by kernel_rfl) (by kernel_rfl) (by kernel_rfl) ?_ (by kernel_rfl)
  (ChangeSpec.witness_shaped (enc:=enc) (C:=Tryz.checked) (os:=os) (X:=fun w _=>laidMetH Tryz.prog Rows.intentNeutralRow.laid w) false (World.laidAll Tryz.prog os Rows.intentNeutralRow.laid) #[.agg #[.int .u8 0,.int .u8 0,.int .i16 0,.int .i16 0,.int .i16 0,.slice none 0 0,.bool false,.int .u16 0],.agg #[.int .u8 0,.int .u8 0,.int .u8 0,.int .u8 0,.int .u8 0,.int .u8 0,.int .i16 0,.int .i16 0,.int .i16 0],.int .u32 0,.agg #[.int .u16 0,.int .u16 0]] 8 (World.laidAll_os _ _ _)
   (World.shaped_of_ZipB (by kernel_rfl) (by kernel_rfl)) (by kernel_rfl) (by kernel_rfl) (by kernel_rfl)
   (by rw [MakeChecks.laidMetH_plain _ _ _ (by kernel_rfl)];exact laidMet_laidAll _ (by kernel_rfl) (by kernel_rfl))) ?_
 ·intro ds hds
  rw [Tryz.params8] at hds
  match ds,hds with
  | [d0,d1,d2,d3],_=>rfl
 ·have:((Tryz.f8.params.toList).all fun t=>decide (t < Tryz.prog.types.size))=true:=by kernel_rfl
  intro t ht
  exact of_decide_eq_true (List.all_eq_true.1 this t ht)
 ·intro W base args ds ps hval hA _ hL
  have htab:=tab_of_laid hL
  have herr:=err_of_laid hL
  rw [Tryz.params8] at hA hval
  obtain ⟨v0,vs0,d0,ds0,p0,q0,ha0,_,_,⟨fu0,ht0⟩,hA0⟩:=trodAll_cons hA
  obtain ⟨v1,vs1,d1,ds1,p1,q1,ha1,_,_,⟨fu1,ht1⟩,hA1⟩:=trodAll_cons hA0
  obtain ⟨v2,vs2,d2,ds2,p2,q2,ha2,_,_,⟨fu2,ht2⟩,hA2⟩:=trodAll_cons hA1
  obtain ⟨v3,vs3,d3,ds3,p3,q3,ha3,_,_,⟨fu3,ht3⟩,hA3⟩:=trodAll_cons hA2
  obtain ⟨hnil,_,_⟩:=trodAll_nil hA3
  have hargs:args.toList=[v0,v1,v2,v3]:=by rw [ha0,ha1,ha2,ha3,hnil]
  have hv0:args[0]?=some v0:=by rw [← Array.getElem?_toList,hargs];rfl
  obtain ⟨cs0,rfl⟩:=Zbq (UL.h (P:=Tryz.prog) (t:=29)) (hval 0 29 v0 rfl hv0)
  have hu0:DataW.trod enc Tryz.prog W 0 (fun _=>true) true fu0 29 cs0=some (d0,p0):=ht0
  obtain ⟨g0,l0,rfl,hg0,hl0,rg0⟩:=Zd8 (fun _=>rfl) hu0
  have hv1:args[1]?=some v1:=by rw [← Array.getElem?_toList,hargs];rfl
  obtain ⟨cs1,rfl⟩:=Zbq (UL.h (P:=Tryz.prog) (t:=32)) (hval 1 32 v1 rfl hv1)
  have hu1:DataW.trod enc Tryz.prog W 0 (fun _=>true) true fu1 32 cs1=some (d1,p1):=ht1
  obtain ⟨y1,rfl,k1⟩:=Zc1 hu1
  have hv2:args[2]?=some v2:=by rw [← Array.getElem?_toList,hargs];rfl
  obtain ⟨n2,rfl,k2⟩:=Ybr (UL.h (P:=Tryz.prog) (t:=81)) (hval 2 81 v2 rfl hv2) ht2
  have hv3:args[3]?=some v3:=by rw [← Array.getElem?_toList,hargs];rfl
  obtain ⟨cs3,rfl,_⟩:=Zbf (UL.h (P:=Tryz.prog) (t:=59)) (hval 3 59 v3 rfl hv3)
  have hu3:DataW.trod enc Tryz.prog W 0 (fun _=>true) true fu3 59 cs3=some (d3,p3):=ht3
  obtain ⟨m3,n3,rfl,a3,b3⟩:=Zfi hu3
  rw [hargs]
  refine CallsS.oldFact (rd (cI .i8) g0.ov g0.off) rg0 ?_
  exact Zl4 htab herr g0 hg0 hl0 k1 (Yag k2) a3 b3
theorem cand {a b:Bool} (h:a=true) (k:b=true):(a&&b)=true:=by rw [h,k];rfl
theorem cj0:(Rows.intentNeutralRow.inPlace==Tryz.prog.inPlace 8)=true:=by kernel_rfl
theorem cj1:(Rows.intentNeutralRow.unfollowed==Tryz.prog.unfollowed 8)=true:=by kernel_rfl
theorem cj2:(Rows.intentNeutralRow.recurses==Tryz.prog.recurses 8)=true:=by kernel_rfl
theorem cj3:(Rows.intentNeutralRow.named==Tryz.prog.varsNamed 8)=true:=by kernel_rfl
theorem cj4:laidOutB Tryz.prog=true:=by kernel_rfl
theorem cj5:mapsRowed Tryz.prog=true:=by kernel_rfl
theorem cj6:Tryz.prog.stopsHeard=true:=by kernel_rfl
theorem cj7:Tryz.prog.mayEnter=true:=by kernel_rfl
theorem cj8:(Rows.intentNeutralRow.lifted==Tryz.prog.liftsFinal)=true:=by kernel_rfl
theorem cj9:(Rows.intentNeutralRow.plainKeys==Tryz.prog.plainKeys)=true:=by kernel_rfl
theorem cj10:namedTie Tryz.prog Rows.intentNeutralRow.named Rows.intentNeutralSpec.vars=true:=by kernel_rfl
theorem cm1:Rows.intentNeutralRow.wfByText (OpenSpec.ofChange Rows.intentNeutralSpec)=true:=by kernel_rfl
theorem cm2:Tryz.prog.mainIs=some (true,"5f80e1667658a947f582734aa5d4c403d45d1544bb2b3a547059ba3fde96e38b".toList):=by kernel_rfl
theorem cm3:true=Tryz.prog.looks []:=by kernel_rfl
theorem cm4:false=Rows.intentNeutralRow.goesBy Tryz.prog:=by kernel_rfl
theorem cm5:((Tryz.f8.params).all fun u=>!Tryz.prog.wantsStandIn u)=true:=by kernel_rfl
theorem cjn:Tryz.prog.funcNamed "verdigris/verdigrislaw38.IntentNeutral"=some 8:=by kernel_rfl
theorem cjf:joinedFacts Tryz.prog 8 Tryz.f8 Rows.intentNeutralSpec Rows.intentNeutralRow=true:=by
 unfold joinedFacts
 repeat' (with_reducible refine cand ?_ ?_)
 all_goals first|with_reducible exact cj0|with_reducible exact cj1|with_reducible exact cj2|with_reducible exact cj3|with_reducible exact cj4|with_reducible exact cj5|with_reducible exact cj6|with_reducible exact cj7|with_reducible exact cj8|with_reducible exact cj9|with_reducible exact cj10|kernel_rfl
theorem over:Rows.intentNeutralRow.holds Tryz.pinned (OpenSpec.ofChange Rows.intentNeutralSpec) :=
 OpenClaim.holds_of_wide 8 Tryz.f8 rfl rfl rfl rfl rfl rfl rfl ⟨rfl,rfl,rfl,rfl,rfl⟩ rfl rfl rfl rfl rfl cjn Tryz.func8 cjf
  (of_decide_eq_true (by kernel_rfl)) (by unfold Func.isWrapper;first|(rw [if_pos (by decide +kernel)];kernel_rfl)|(rw [if_neg (by decide +kernel)];exact ⟨rfl,rfl⟩))
  (fun os started H enc _=>lifted os started H enc)
theorem intentNeutral_holds:Rows.IntentNeutralCardSaid :=
 Claim7.holds_tied_plain_at .later [] [.data, .data, .data, .sentinel, .sentinel] true (true, "5f80e1667658a947f582734aa5d4c403d45d1544bb2b3a547059ba3fde96e38b") true
  over (fun _ h=>by cases h) cm1 (fun _ h=>by cases h) intentNeutral_row_tie rfl ⟨rfl,rfl⟩ cm2 rfl
  (fun f fn hf hfn=>by
   obtain rfl : f = 8 := Option.some.inj (cjn.symm.trans hf) |>.symm
   obtain rfl:fn=Tryz.f8:=(Option.some.inj (Tryz.func8.symm.trans hfn)).symm
   exact ⟨cm3,fun j t ht=>by
        rw [Tryz.params8] at ht
        have hm:=Array.mem_of_getElem? ht
        have hall:((Tryz.f8.params).all fun u=>!Tryz.prog.wantsStandIn u)=true:=cm5
        rw [Tryz.params8] at hall
        exact (show Tryz.prog.wantsStandIn t=false by simpa using Array.all_eq_true_iff_forall_mem.1 hall t hm)⟩)
  cm4
end Go.Proofs.YtngcfjfaobcpmaaGreatDoor
