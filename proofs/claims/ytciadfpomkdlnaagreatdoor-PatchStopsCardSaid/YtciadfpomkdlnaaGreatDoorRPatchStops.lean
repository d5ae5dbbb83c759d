/- PatchStops: the row and the card. -/
import Derived.Test.YtciadfpomkdlnaaGreatDoorCards
import Derived.Test.YtciadfpomkdlnaaGreatDoorTie
import Derived.Test.YtciadfpomkdlnaaGreatDoorFp
import Derived.Test.YtciadfpomkdlnaaGreatDoorPl5
import Derived.SevenTiedAt
import Derived.Carry
set_option maxHeartbeats 1000000
namespace Go.Proofs.YtciadfpomkdlnaaGreatDoor
open Go Go.Sx Go.ChangeShapes Go.WideShapes Go.ChangeAt Go.RowKit
theorem own:ownKnob Tryz.prog.godebug=none:=by kernel_rfl
theorem tab_of_laid {W:World} (h:laidMet Tryz.prog Rows.patchStopsRow.laid W):Tab W:=by
 obtain ⟨g, t, cs, fuel, p, hg, hty, hvar, hd⟩ := Lib.laidMet.reads h (n := "internal/strconv.uint64pow10") (d := Rows.laid_internal_strconv_uint64pow10) (by simp [Rows.patchStopsRow])
 obtain rfl := Option.some.inj ((show Tryz.prog.globalNamed "internal/strconv.uint64pow10" = some 3 by kernel_rfl).symm.trans hg)
 obtain rfl:=Option.some.inj ((show (Tryz.prog.globals[3]?).map (·.type)=some 309 by kernel_rfl).symm.trans hty)
 unfold Tab Lib.TabIs
 rw [hvar]
 have hd':DataW.trod (fun _=>()) Tryz.prog W 0 (fun _=>true) false fuel 309 cs.toList=some (Lib.tabData .u64 Lib.pow10Tab,p):=hd
 have:=Lib.cells_of_tab Tryz.underlying309 Tryz.underlying210 (by kernel_rfl) (by kernel_rfl) hd'
 rw [← this]
theorem err_of_laid {W:World} (h:laidMet Tryz.prog Rows.patchStopsRow.laid W):ErrR W:=by
 obtain ⟨g, t, cs, fuel, p, hg, hty, hvar, hd⟩ := Lib.laidMet.reads h (n := "strconv.ErrRange") (d := Rows.laid_strconv_ErrRange) (by simp [Rows.patchStopsRow])
 obtain rfl := Option.some.inj ((show Tryz.prog.globalNamed "strconv.ErrRange" = some 5 by kernel_rfl).symm.trans hg)
 obtain rfl:=Option.some.inj ((show (Tryz.prog.globals[5]?).map (·.type)=some 169 by kernel_rfl).symm.trans hty)
 obtain ⟨f1,u,v,hcs,_,_⟩:=iface_of_trod Tryz.underlying169 hd
 refine ⟨.iface u v,?_,.inr ⟨u,v,rfl⟩⟩
 unfold World.var? at hvar
 rw [hg,Option.bind_some] at hvar
 simp only [World.cell?]
 cases ho:W.heap[5]? with
 | none=>rw [ho] at hvar;cases hvar
 | some o =>
  rw [ho] at hvar
  cases o with
  | cells c T fr =>
   simp only [Option.some.injEq] at hvar
   subst hvar
   have:c=#[.iface u v]:=Array.toList_inj.1 hcs
   rw [this];rfl
  | _=>cases hvar
set_option maxRecDepth 100000 in
theorem lifted (os:Os) (started:os.Started) (H:Type) (enc:TypeId × Value→H) :
  ReturnsInHanded {} Tryz.checked os 9 .any (fun w args=>(Rows.patchStopsSpec.pre enc Tryz.prog Tryz.f9 [] false w args∧laidMetH Tryz.prog Rows.patchStopsRow.laid w)∧sizedMet enc Tryz.prog Tryz.f9 (OpenSpec.ofChange Rows.patchStopsSpec) false w args)
   (Rows.patchStopsSpec.post enc Tryz.prog Tryz.f9 false true false false):=by
 refine Zgn started own (by kernel_rfl) Tryz.func9 rfl rfl Tryz.underlying4 ?_ (by kernel_rfl) (by kernel_rfl) (by kernel_rfl) ?_ (by kernel_rfl)
  (ChangeSpec.witness_shaped (enc:=enc) (C:=Tryz.checked) (os:=os) (X:=fun w _=>laidMetH Tryz.prog Rows.patchStopsRow.laid w) false (World.laidAll Tryz.prog os Rows.patchStopsRow.laid) #[.agg #[.int .u8 0,.slice none 0 0],.int .u8 0,.int .u8 0,.string ⟨#[]⟩] 8 (World.laidAll_os _ _ _)
   (World.shaped_of_ZipB (by kernel_rfl) (by kernel_rfl)) (by kernel_rfl) (by kernel_rfl) (by kernel_rfl)
   (by rw [MakeChecks.laidMetH_plain _ _ _ (by kernel_rfl)];exact laidMet_laidAll _ (by kernel_rfl) (by kernel_rfl))) ?_
 ·intro ds hds
  rw [Tryz.params9] at hds
  match ds,hds with
  | [d0,d1,d2,d3],_=>rfl
 ·have:((Tryz.f9.params.toList).all fun t=>decide (t < Tryz.prog.types.size))=true:=by kernel_rfl
  intro t ht
  exact of_decide_eq_true (List.all_eq_true.1 this t ht)
 ·intro W base args ds ps hval hA _ hL hSh
  have htab:=tab_of_laid hL
  have herr:=err_of_laid hL
  have hlen:=Zen hSh
  rw [Tryz.params9] at hA hval
  obtain ⟨v0,vs0,d0,ds0,p0,q0,ha0,_,_,⟨fu0,ht0⟩,hA0⟩:=trodAll_cons hA
  obtain ⟨v1,vs1,d1,ds1,p1,q1,ha1,_,_,⟨fu1,ht1⟩,hA1⟩:=trodAll_cons hA0
  obtain ⟨v2,vs2,d2,ds2,p2,q2,ha2,_,_,⟨fu2,ht2⟩,hA2⟩:=trodAll_cons hA1
  obtain ⟨v3,vs3,d3,ds3,p3,q3,ha3,_,_,⟨fu3,ht3⟩,hA3⟩:=trodAll_cons hA2
  obtain ⟨hnil,_,_⟩:=trodAll_nil hA3
  have hargs:args.toList=[v0,v1,v2,v3]:=by rw [ha0,ha1,ha2,ha3,hnil]
  have hv0:args[0]?=some v0:=by rw [← Array.getElem?_toList,hargs];rfl
  obtain ⟨cs0,rfl⟩:=Zh1 (UL.h (P:=Tryz.prog) (t:=55)) (hval 0 55 v0 rfl hv0)
  have hu0:DataW.trod enc Tryz.prog W 0 (fun _=>true) true fu0 55 cs0=some (d0,p0):=ht0
  obtain ⟨c0h,lv0,X0,rfl,hc0,hX0,rX0⟩:=Zgp (fun _=>rfl) hu0
  have hv1:args[1]?=some v1:=by rw [← Array.getElem?_toList,hargs];rfl
  obtain ⟨n1,rfl,k1⟩:=Zwk (UL.h (P:=Tryz.prog) (t:=5)) (hval 1 5 v1 rfl hv1) ht1
  have hv2:args[2]?=some v2:=by rw [← Array.getElem?_toList,hargs];rfl
  obtain ⟨n2,rfl,k2⟩:=Zwk (UL.h (P:=Tryz.prog) (t:=5)) (hval 2 5 v2 rfl hv2) ht2
  have hv3:args[3]?=some v3:=by rw [← Array.getElem?_toList,hargs];rfl
  obtain ⟨s3,rfl⟩:=Z10 (UL.h (P:=Tryz.prog) (t:=9)) (hval 3 9 v3 rfl hv3) ht3
  rw [hargs]
  refine CallsS.oldFact (rd c7 lv0 X0) rX0 ?_
  exact (by obtain ⟨p,rfl⟩:=Int.eq_ofNat_of_zero_le (Zrk k1).1;obtain ⟨q,rfl⟩:=Int.eq_ofNat_of_zero_le (Zrk k2).1;have e1:=(Zrk k1).2;have e2:=(Zrk k2).2;exact Q.Zzn htab herr hlen hX0 hc0 (by omega) (by omega))
theorem cand {a b:Bool} (h:a=true) (k:b=true):(a&&b)=true:=by rw [h,k];rfl
theorem cj0:(Rows.patchStopsRow.inPlace==Tryz.prog.inPlace 9)=true:=by kernel_rfl
theorem cj1:(Rows.patchStopsRow.unfollowed==Tryz.prog.unfollowed 9)=true:=by kernel_rfl
theorem cj2:(Rows.patchStopsRow.recurses==Tryz.prog.recurses 9)=true:=by kernel_rfl
theorem cj3:(Rows.patchStopsRow.named==Tryz.prog.varsNamed 9)=true:=by kernel_rfl
theorem cj4:laidOutB Tryz.prog=true:=by kernel_rfl
theorem cj5:mapsRowed Tryz.prog=true:=by kernel_rfl
theorem cj6:Tryz.prog.stopsHeard=true:=by kernel_rfl
theorem cj7:Tryz.prog.mayEnter=true:=by kernel_rfl
theorem cj8:(Rows.patchStopsRow.lifted==Tryz.prog.liftsFinal)=true:=by kernel_rfl
theorem cj9:(Rows.patchStopsRow.plainKeys==Tryz.prog.plainKeys)=true:=by kernel_rfl
theorem cj10:namedTie Tryz.prog Rows.patchStopsRow.named Rows.patchStopsSpec.vars=true:=by kernel_rfl
theorem cm1:Rows.patchStopsRow.wfByText (OpenSpec.ofChange Rows.patchStopsSpec)=true:=by kernel_rfl
theorem cm2:Tryz.prog.mainIs=some (true,"e5c877036b3a61030f48b9be09e298fb9572c0046c1ce4f04d1a4d84f649d174".toList):=by kernel_rfl
theorem cm3:true=Tryz.prog.looks []:=by kernel_rfl
theorem cm4:false=Rows.patchStopsRow.goesBy Tryz.prog:=by kernel_rfl
theorem cm5:((Tryz.f9.params).all fun u=>!Tryz.prog.wantsStandIn u)=true:=by kernel_rfl
theorem cjn:Tryz.prog.funcNamed "verdigris/verdigrislaw31.PatchStops"=some 9:=by kernel_rfl
theorem cjf:joinedFacts Tryz.prog 9 Tryz.f9 Rows.patchStopsSpec Rows.patchStopsRow=true:=by
 unfold joinedFacts
 repeat' (with_reducible refine cand ?_ ?_)
 all_goals first|with_reducible exact cj0|with_reducible exact cj1|with_reducible exact cj2|with_reducible exact cj3|with_reducible exact cj4|with_reducible exact cj5|with_reducible exact cj6|with_reducible exact cj7|with_reducible exact cj8|with_reducible exact cj9|with_reducible exact cj10|kernel_rfl
theorem over:Rows.patchStopsRow.holds Tryz.pinned (OpenSpec.ofChange Rows.patchStopsSpec) :=
 OpenClaim.holds_of_wide 9 Tryz.f9 rfl rfl rfl rfl rfl rfl rfl ⟨rfl,rfl,rfl,rfl,rfl⟩ rfl rfl rfl rfl rfl cjn Tryz.func9 cjf
  (of_decide_eq_true (by kernel_rfl)) (by unfold Func.isWrapper;first|(rw [if_pos (by decide +kernel)];kernel_rfl)|(rw [if_neg (by decide +kernel)];exact ⟨rfl,rfl⟩))
  (fun os started H enc _=>lifted os started H enc)
theorem patchStops_holds:Rows.PatchStopsCardSaid :=
 Claim7.holds_tied_plain_at .later [] [.data, .data, .data, .data, .sentinel, .sentinel, .pinned] true (true, "e5c877036b3a61030f48b9be09e298fb9572c0046c1ce4f04d1a4d84f649d174") true
  over (fun _ h=>by cases h) cm1 (fun _ h=>by cases h) patchStops_row_tie rfl ⟨rfl,rfl⟩ cm2 rfl
  (fun f fn hf hfn=>by
   obtain rfl : f = 9 := Option.some.inj (cjn.symm.trans hf) |>.symm
   obtain rfl:fn=Tryz.f9:=(Option.some.inj (Tryz.func9.symm.trans hfn)).symm
   exact ⟨cm3,fun j t ht=>by
    rw [Tryz.params9] at ht
    have hm:=Array.mem_of_getElem? ht
    have hall:((Tryz.f9.params).all fun u=>!Tryz.prog.wantsStandIn u)=true:=cm5
    rw [Tryz.params9] at hall
    exact (show Tryz.prog.wantsStandIn t=false by simpa using Array.all_eq_true_iff_forall_mem.1 hall t hm)⟩)
  cm4
end Go.Proofs.YtciadfpomkdlnaaGreatDoor
