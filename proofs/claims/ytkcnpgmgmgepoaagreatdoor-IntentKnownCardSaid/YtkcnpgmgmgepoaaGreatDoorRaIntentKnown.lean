/- IntentKnown: the law, lifted. -/
import Derived.Test.YtkcnpgmgmgepoaaGreatDoorCards
import Derived.Test.YtkcnpgmgmgepoaaGreatDoorTie
import Derived.Test.YtkcnpgmgmgepoaaGreatDoorFr4
import Derived.Test.YtkcnpgmgmgepoaaGreatDoorNk1
import Derived.SevenTiedAt
import Derived.Carry
namespace Go.Proofs.YtkcnpgmgmgepoaaGreatDoor
open Go Go.Sx Go.ChangeShapes Go.WideShapes Go.ChangeAt Go.RowKit
theorem own:ownKnob Tryz.prog.godebug=none:=by kernel_rfl
theorem tab_of_laid {W:World} (h:laidMet Tryz.prog Rows.intentKnownRow.laid W):Tab W:=by
 obtain ⟨g, t, cs, fuel, p, hg, hty, hvar, hd⟩ := Lib.laidMet.reads h (n := "internal/strconv.uint64pow10") (d := Rows.laid_internal_strconv_uint64pow10) (by simp [Rows.intentKnownRow])
 obtain rfl := Option.some.inj ((show Tryz.prog.globalNamed "internal/strconv.uint64pow10" = some 5 by kernel_rfl).symm.trans hg)
 obtain rfl:=Option.some.inj ((show (Tryz.prog.globals[5]?).map (·.type)=some 412 by kernel_rfl).symm.trans hty)
 unfold Tab Lib.TabIs
 rw [hvar]
 have hd':DataW.trod (fun _=>()) Tryz.prog W 0 (fun _=>true) false fuel 412 cs.toList=some (Lib.tabData .u64 Lib.pow10Tab,p):=hd
 have:=Lib.cells_of_tab Tryz.underlying412 Tryz.underlying274 (by kernel_rfl) (by kernel_rfl) hd'
 rw [← this]
theorem err_of_laid {W:World} (h:laidMet Tryz.prog Rows.intentKnownRow.laid W):ErrR W:=by
 obtain ⟨g, t, cs, fuel, p, hg, hty, hvar, hd⟩ := Lib.laidMet.reads h (n := "strconv.ErrRange") (d := Rows.laid_strconv_ErrRange) (by simp [Rows.intentKnownRow])
 obtain rfl := Option.some.inj ((show Tryz.prog.globalNamed "strconv.ErrRange" = some 1 by kernel_rfl).symm.trans hg)
 obtain rfl:=Option.some.inj ((show (Tryz.prog.globals[1]?).map (·.type)=some 42 by kernel_rfl).symm.trans hty)
 obtain ⟨f1,u,v,hcs,_,_⟩:=iface_of_trod Tryz.underlying42 hd
 refine ⟨.iface u v,?_,.inr ⟨u,v,rfl⟩⟩
 unfold World.var? at hvar
 rw [hg,Option.bind_some] at hvar
 simp only [World.cell?]
 cases ho:W.heap[1]? with
 | none=>rw [ho] at hvar;cases hvar
 | some o =>
  rw [ho] at hvar
  cases o with
  | cells c T fr =>
   simp only [Option.some.injEq] at hvar
   subst hvar
   have:c=#[.iface u v]:=Array.toList_inj.1 hcs
   rw [this];rfl
  | _=>cases hvar
set_option maxRecDepth 100000 in
theorem lifted (os:Os) (started:os.Started) (H:Type) (enc:TypeId × Value→H) :
  ReturnsInHanded {} Tryz.checked os 10 .any (fun w args=>(Rows.intentKnownSpec.pre enc Tryz.prog Tryz.f10 [] false w args∧laidMetH Tryz.prog Rows.intentKnownRow.laid w)∧sizedMet enc Tryz.prog Tryz.f10 (OpenSpec.ofChange Rows.intentKnownSpec) false w args)
   (Rows.intentKnownSpec.post enc Tryz.prog Tryz.f10 false true false false):=by
 refine law_lifted started own (by kernel_rfl) Tryz.func10 rfl rfl Tryz.underlying4 ?_ (by kernel_rfl) (by kernel_rfl) (by kernel_rfl) ?_ (by kernel_rfl)
  (ChangeSpec.witness_shaped (enc:=enc) (C:=Tryz.checked) (os:=os) (X:=fun w _=>laidMetH Tryz.prog Rows.intentKnownRow.laid w) false (World.laidAll Tryz.prog os Rows.intentKnownRow.laid) #[] 8 (World.laidAll_os _ _ _)
   (World.shaped_of_ZipB (by kernel_rfl) (by kernel_rfl)) (by kernel_rfl) (by kernel_rfl) (by kernel_rfl)
   (by rw [MakeChecks.laidMetH_plain _ _ _ (by kernel_rfl)];exact laidMet_laidAll _ (by kernel_rfl) (by kernel_rfl))) ?_
 ·intro ds hds
  rw [Tryz.params10] at hds
  match ds,hds with
  | [],_=>rfl
 ·have:((Tryz.f10.params.toList).all fun t=>decide (t < Tryz.prog.types.size))=true:=by kernel_rfl
  intro t ht
  exact of_decide_eq_true (List.all_eq_true.1 this t ht)
 ·intro W base args ds ps hval hA _ hL
  have htab:=tab_of_laid hL
  have herr:=err_of_laid hL
  rw [Tryz.params10] at hA hval
  obtain ⟨hnil,_,_⟩:=trodAll_nil hA
  have hargs:args.toList=[]:=hnil
  rw [hargs]
  exact intentKnown_ok htab herr
end Go.Proofs.YtkcnpgmgmgepoaaGreatDoor
