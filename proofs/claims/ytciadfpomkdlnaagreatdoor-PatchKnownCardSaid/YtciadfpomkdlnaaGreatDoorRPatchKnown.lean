/- PatchKnown: the row and the card. -/
import Derived.Test.YtciadfpomkdlnaaGreatDoorCards
import Derived.Test.YtciadfpomkdlnaaGreatDoorTie
import Derived.Test.YtciadfpomkdlnaaGreatDoorFp
import Derived.Test.YtciadfpomkdlnaaGreatDoorPl7
import Derived.SevenTiedAt
import Derived.Carry
set_option maxHeartbeats 1000000
namespace Go.Proofs.YtciadfpomkdlnaaGreatDoor
open Go Go.Sx Go.ChangeShapes Go.WideShapes Go.ChangeAt Go.RowKit
theorem own:ownKnob Tryz.prog.godebug=none:=by kernel_rfl
theorem tab_of_laid {W:World} (h:laidMet Tryz.prog Rows.patchKnownRow.laid W):Tab W:=by
 obtain ⟨g, t, cs, fuel, p, hg, hty, hvar, hd⟩ := Lib.laidMet.reads h (n := "internal/strconv.uint64pow10") (d := Rows.laid_internal_strconv_uint64pow10) (by simp [Rows.patchKnownRow])
 obtain rfl := Option.some.inj ((show Tryz.prog.globalNamed "internal/strconv.uint64pow10" = some 3 by kernel_rfl).symm.trans hg)
 obtain rfl:=Option.some.inj ((show (Tryz.prog.globals[3]?).map (·.type)=some 309 by kernel_rfl).symm.trans hty)
 unfold Tab Lib.TabIs
 rw [hvar]
 have hd':DataW.trod (fun _=>()) Tryz.prog W 0 (fun _=>true) false fuel 309 cs.toList=some (Lib.tabData .u64 Lib.pow10Tab,p):=hd
 have:=Lib.cells_of_tab Tryz.underlying309 Tryz.underlying210 (by kernel_rfl) (by kernel_rfl) hd'
 rw [← this]
theorem err_of_laid {W:World} (h:laidMet Tryz.prog Rows.patchKnownRow.laid W):ErrR W:=by
 obtain ⟨g, t, cs, fuel, p, hg, hty, hvar, hd⟩ := Lib.laidMet.reads h (n := "strconv.ErrRange") (d := Rows.laid_strconv_ErrRange) (by simp [Rows.patchKnownRow])
 obtain rfl := Option.some.inj ((show Tryz.prog.globalNamed "strconv.ErrRange" = some 5 by kernel_rfl).symm.trans hg)
 obtain rfl:=Option.some.inj ((show (Tryz.prog.globals[5]?).map (·.type)=some 169 by kernel_rfl).symm.trans hty)
 obtain ⟨f1,u,v,hcs,_,_⟩:=iface_of_trod Tryz.underlying169 hd
 refine ⟨.iface u v,?_,.inr ⟨u,v,rfl⟩⟩
 unfold World.var? at hvar
 rw [hg,Option.bind_some] at hvar
 simp only [World.cell?]
 cases ho:W.heap[5]? with
 | none=>rw [ho] at hvar;cases hvar
 | some o =>
  rw [ho] at hvar
  cases o with
  | cells c T fr =>
   simp only [Option.some.injEq] at hvar
   subst hvar
   have:c=#[.iface u v]:=Array.toList_inj.1 hcs
   rw [this];rfl
  | _=>cases hvar
set_option maxRecDepth 100000 in
theorem lifted (os:Os) (started:os.Started) (H:Type) (enc:TypeId × Value→H) :
  ReturnsInHanded {} Tryz.checked os 7 .any (fun w args=>(Rows.patchKnownSpec.pre enc Tryz.prog Tryz.f7 [] false w args∧laidMetH Tryz.prog Rows.patchKnownRow.laid w)∧sizedMet enc Tryz.prog Tryz.f7 (OpenSpec.ofChange Rows.patchKnownSpec) false w args)
   (Rows.patchKnownSpec.post enc Tryz.prog Tryz.f7 false true false false):=by
 refine Zqk started own (by kernel_rfl) Tryz.func7 rfl rfl Tryz.underlying4 ?_ (by kernel_rfl) (by kernel_rfl) (by kernel_rfl) ?_ (by kernel_rfl)
  (ChangeSpec.witness_shaped (enc:=enc) (C:=Tryz.checked) (os:=os) (X:=fun w _=>laidMetH Tryz.prog Rows.patchKnownRow.laid w) false (World.laidAll Tryz.prog os Rows.patchKnownRow.laid) #[] 8 (World.laidAll_os _ _ _)
   (World.shaped_of_ZipB (by kernel_rfl) (by kernel_rfl)) (by kernel_rfl) (by kernel_rfl) (by kernel_rfl)
   (by rw [MakeChecks.laidMetH_plain _ _ _ (by kernel_rfl)];exact laidMet_laidAll _ (by kernel_rfl) (by kernel_rfl))) ?_
 ·intro ds hds
  rw [Tryz.params7] at hds
  match ds,hds with
  | [],_=>rfl
 ·have:((Tryz.f7.params.toList).all fun t=>decide (t < Tryz.prog.types.size))=true:=by kernel_rfl
  intro t ht
  exact of_decide_eq_true (List.all_eq_true.1 this t ht)
 ·intro W base args ds ps hval hA _ hL hSh
  have htab:=tab_of_laid hL
  have herr:=err_of_laid hL
  have hlen:=Zm1 hSh
  rw [Tryz.params7] at hA hval
  obtain ⟨hnil,_,_⟩:=trodAll_nil hA
  have hargs:args.toList=[]:=hnil
  rw [hargs]
  exact Q.Zzp htab herr hlen
theorem cand {a b:Bool} (h:a=true) (k:b=true):(a&&b)=true:=by rw [h,k];rfl
theorem cj0:(Rows.patchKnownRow.inPlace==Tryz.prog.inPlace 7)=true:=by kernel_rfl
theorem cj1:(Rows.patchKnownRow.unfollowed==Tryz.prog.unfollowed 7)=true:=by kernel_rfl
theorem cj2:(Rows.patchKnownRow.recurses==Tryz.prog.recurses 7)=true:=by kernel_rfl
theorem cj3:(Rows.patchKnownRow.named==Tryz.prog.varsNamed 7)=true:=by kernel_rfl
theorem cj4:laidOutB Tryz.prog=true:=by kernel_rfl
theorem cj5:mapsRowed Tryz.prog=true:=by kernel_rfl
theorem cj6:Tryz.prog.stopsHeard=true:=by kernel_rfl
theorem cj7:Tryz.prog.mayEnter=true:=by kernel_rfl
theorem cj8:(Rows.patchKnownRow.lifted==Tryz.prog.liftsFinal)=true:=by kernel_rfl
theorem cj9:(Rows.patchKnownRow.plainKeys==Tryz.prog.plainKeys)=true:=by kernel_rfl
theorem cj10:namedTie Tryz.prog Rows.patchKnownRow.named Rows.patchKnownSpec.vars=true:=by kernel_rfl
theorem cm1:Rows.patchKnownRow.wfByText (OpenSpec.ofChange Rows.patchKnownSpec)=true:=by kernel_rfl
theorem cm2:Tryz.prog.mainIs=some (true,"e5c877036b3a61030f48b9be09e298fb9572c0046c1ce4f04d1a4d84f649d174".toList):=by kernel_rfl
theorem cm3:true=Tryz.prog.looks []:=by kernel_rfl
theorem cm4:false=Rows.patchKnownRow.goesBy Tryz.prog:=by kernel_rfl
theorem cm5:((Tryz.f7.params).all fun u=>!Tryz.prog.wantsStandIn u)=true:=by kernel_rfl
theorem cjn:Tryz.prog.funcNamed "verdigris/verdigrislaw31.PatchKnown"=some 7:=by kernel_rfl
theorem cjf:joinedFacts Tryz.prog 7 Tryz.f7 Rows.patchKnownSpec Rows.patchKnownRow=true:=by
 unfold joinedFacts
 repeat' (with_reducible refine cand ?_ ?_)
 all_goals first|with_reducible exact cj0|with_reducible exact cj1|with_reducible exact cj2|with_reducible exact cj3|with_reducible exact cj4|with_reducible exact cj5|with_reducible exact cj6|with_reducible exact cj7|with_reducible exact cj8|with_reducible exact cj9|with_reducible exact cj10|kernel_rfl
theorem over:Rows.patchKnownRow.holds Tryz.pinned (OpenSpec.ofChange Rows.patchKnownSpec) :=
 OpenClaim.holds_of_wide 7 Tryz.f7 rfl rfl rfl rfl rfl rfl rfl ⟨rfl,rfl,rfl,rfl,rfl⟩ rfl rfl rfl rfl rfl cjn Tryz.func7 cjf
  (of_decide_eq_true (by kernel_rfl)) (by unfold Func.isWrapper;first|(rw [if_pos (by decide +kernel)];kernel_rfl)|(rw [if_neg (by decide +kernel)];exact ⟨rfl,rfl⟩))
  (fun os started H enc _=>lifted os started H enc)
theorem patchKnown_holds:Rows.PatchKnownCardSaid :=
 Claim7.holds_tied_plain_at .later [] [.data, .data, .data, .data, .sentinel, .sentinel, .pinned] true (true, "e5c877036b3a61030f48b9be09e298fb9572c0046c1ce4f04d1a4d84f649d174") true
  over (fun _ h=>by cases h) cm1 (fun _ h=>by cases h) patchKnown_row_tie rfl ⟨rfl,rfl⟩ cm2 rfl
  (fun f fn hf hfn=>by
   obtain rfl : f = 7 := Option.some.inj (cjn.symm.trans hf) |>.symm
   obtain rfl:fn=Tryz.f7:=(Option.some.inj (Tryz.func7.symm.trans hfn)).symm
   exact ⟨cm3,fun j t ht=>by
    rw [Tryz.params7] at ht
    have hm:=Array.mem_of_getElem? ht
    have hall:((Tryz.f7.params).all fun u=>!Tryz.prog.wantsStandIn u)=true:=cm5
    rw [Tryz.params7] at hall
    exact (show Tryz.prog.wantsStandIn t=false by simpa using Array.all_eq_true_iff_forall_mem.1 hall t hm)⟩)
  cm4
end Go.Proofs.YtciadfpomkdlnaaGreatDoor
