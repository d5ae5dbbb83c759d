/- TopShell: the row and the card. -/
import Derived.Test.YtbfgldlfciimiaaGreatDoorCards
import Derived.Test.YtbfgldlfciimiaaGreatDoorTie
import Derived.Test.YtbfgldlfciimiaaGreatDoorFs
import Derived.Test.YtbfgldlfciimiaaGreatDoorTw6
import Derived.SevenTiedAt
import Derived.Carry
set_option maxHeartbeats 1000000
namespace Go.Proofs.YtbfgldlfciimiaaGreatDoor
open Go Go.Sx Go.ChangeShapes Go.WideShapes Go.ChangeAt Go.RowKit
theorem own:ownKnob Tryz.prog.godebug=none:=by kernel_rfl
theorem tab_of_laid {W:World} (h:laidMet Tryz.prog Rows.topShellRow.laid W):Tab W:=by
 obtain ⟨g, t, cs, fuel, p, hg, hty, hvar, hd⟩ := Lib.laidMet.reads h (n := "internal/strconv.uint64pow10") (d := Rows.laid_internal_strconv_uint64pow10) (by simp [Rows.topShellRow])
 obtain rfl := Option.some.inj ((show Tryz.prog.globalNamed "internal/strconv.uint64pow10" = some 1 by kernel_rfl).symm.trans hg)
 obtain rfl:=Option.some.inj ((show (Tryz.prog.globals[1]?).map (·.type)=some 314 by kernel_rfl).symm.trans hty)
 unfold Tab Lib.TabIs
 rw [hvar]
 have hd':DataW.trod (fun _=>()) Tryz.prog W 0 (fun _=>true) false fuel 314 cs.toList=some (Lib.tabData .u64 Lib.pow10Tab,p):=hd
 have:=Lib.cells_of_tab Tryz.underlying314 Tryz.underlying278 (by kernel_rfl) (by kernel_rfl) hd'
 rw [← this]
theorem Ztj {W:World} (h:laidMet Tryz.prog Rows.topShellRow.laid W):(rd cOrd ordsV [()]).p fun b=>W.heap[b]?:=by
 obtain ⟨g, t, cs, fuel, p, hg, hty, hvar, hd⟩ := Lib.laidMet.reads h (n := "verdigris/locate.orders") (d := Rows.laid_verdigris_locate_orders) (by simp [Rows.topShellRow])
 obtain rfl := Option.some.inj ((show Tryz.prog.globalNamed "verdigris/locate.orders" = some 0 by kernel_rfl).symm.trans hg)
 obtain rfl:=Option.some.inj ((show (Tryz.prog.globals[0]?).map (·.type)=some 61 by kernel_rfl).symm.trans hty)
 have hd':DataW.trod (fun _=>()) Tryz.prog W 0 (fun _=>true) false fuel 61 cs.toList=some (Rows.laid_verdigris_locate_orders,p):=hd
 obtain ⟨xs,m,_,hx,hl,hxl,hf⟩:=DataW.trod_array (UL.h (P:=Tryz.prog)) hd'
 rw [show Tryz.prog.cellsOf 61=18 by kernel_rfl] at hl
 have hxs:xs.map (·.1)=[Lib.tabData .i64 [0,1,2],Lib.tabData .i64 [0,2,1],Lib.tabData .i64 [1,0,2],Lib.tabData .i64 [1,2,0],Lib.tabData .i64 [2,0,1],Lib.tabData .i64 [2,1,0]]:=(DataW.agg.inj (congrArg Prod.fst hx)).symm
 have key:∀ (i:Nat) (zs:List Int),i < 6→(xs.map (·.1))[i]?=some (Lib.tabData .i64 zs)→(cs.toList.drop (i * 3)).take 3=zs.map fun z=>Value.int .i64 z:=by
  intro i zs hi he
  rw [List.getElem?_map] at he
  obtain ⟨y,hy,he⟩:=Option.map_eq_some_iff.1 he
  have h1:=hf i hi
  rw [hy,show Tryz.prog.cellsOf 39=3 by kernel_rfl] at h1
  obtain ⟨y1,y2⟩:=y
  simp only at he
  subst he
  exact Lib.cells_of_tab Tryz.underlying39 Tryz.underlying3 (by kernel_rfl) (by kernel_rfl) h1
 rw [hxs] at key
 have k0:=key 0 _ (by decide) rfl
 have k1:=key 1 _ (by decide) rfl
 have k2:=key 2 _ (by decide) rfl
 have k3:=key 3 _ (by decide) rfl
 have k4:=key 4 _ (by decide) rfl
 have k5:=key 5 _ (by decide) rfl
 have st:∀ n,cs.toList.drop n=(cs.toList.drop n).take 3++cs.toList.drop (n+3):=fun n=>by rw [← List.drop_drop];exact (List.take_append_drop 3 _).symm
 have hcs:cs.toList=ordsL:=by
  have e0:cs.toList.drop 0=_:=st 0
  rw [st 3,st 6,st 9,st 12,st 15,List.drop_eq_nil_of_le (i:=15+3) (by omega)] at e0
  rw [show cs.toList=cs.toList.drop 0 from rfl,e0,show (cs.toList.drop 0).take 3=_ from k0,show (cs.toList.drop 3).take 3=_ from k1,show (cs.toList.drop 6).take 3=_ from k2,show (cs.toList.drop 9).take 3=_ from k3,show (cs.toList.drop 12).take 3=_ from k4,show (cs.toList.drop 15).take 3=_ from k5]
  rfl
 unfold World.var? at hvar
 rw [hg,Option.bind_some] at hvar
 cases ho:W.heap[0]? with
 | none=>rw [ho] at hvar;cases hvar
 | some o =>
  rw [ho] at hvar
  cases o with
  | cells c T fr =>
   simp only [Option.some.injEq] at hvar
   subst hvar
   refine .inr ⟨0,0,1,[],[],T,fr,rfl,rfl,Nat.le_refl _,?_⟩
   show W.heap[0]?=some (.cells ordsL.toArray T fr)
   rw [ho,← hcs]
  | _=>cases hvar
set_option maxRecDepth 100000 in
theorem lifted (os:Os) (started:os.Started) (H:Type) (enc:TypeId × Value→H) :
  ReturnsInHanded {} Tryz.checked os 3 .any (fun w args=>(Rows.topShellSpec.pre enc Tryz.prog Tryz.f3 [] false w args∧laidMetH Tryz.prog Rows.topShellRow.laid w)∧sizedMet enc Tryz.prog Tryz.f3 (OpenSpec.ofChange Rows.topShellSpec) false w args)
   (Rows.topShellSpec.post enc Tryz.prog Tryz.f3 false true false false):=by
 refine Zxv started own (by kernel_rfl) Tryz.func3 rfl rfl Tryz.underlying4 ?_ (by kernel_rfl) (by kernel_rfl) (by kernel_rfl) ?_ (by kernel_rfl)
  (ChangeSpec.witness_shaped (enc:=enc) (C:=Tryz.checked) (os:=os) (X:=fun w _=>laidMetH Tryz.prog Rows.topShellRow.laid w) false (World.laidAll Tryz.prog os Rows.topShellRow.laid) #[.agg #[.int .u8 0,.int .u8 0,.int .u16 0,.int .u16 0,.int .u16 0,.int .u8 0,.int .u8 0,.int .u8 0],.int .u8 0] 8 (World.laidAll_os _ _ _)
   (World.shaped_of_ZipB (by kernel_rfl) (by kernel_rfl)) (by kernel_rfl) (by kernel_rfl) (by kernel_rfl)
   (by rw [MakeChecks.laidMetH_plain _ _ _ (by kernel_rfl)];exact laidMet_laidAll _ (by kernel_rfl) (by kernel_rfl))) ?_
 ·intro ds hds
  rw [Tryz.params3] at hds
  match ds,hds with
  | [d0,d1],_=>rfl
 ·have:((Tryz.f3.params.toList).all fun t=>decide (t < Tryz.prog.types.size))=true:=by kernel_rfl
  intro t ht
  exact of_decide_eq_true (List.all_eq_true.1 this t ht)
 ·intro W base args ds ps hval hA _ hL
  have htab:=tab_of_laid hL
  rw [Tryz.params3] at hA hval
  obtain ⟨v0,vs0,d0,ds0,p0,q0,ha0,_,_,⟨fu0,ht0⟩,hA0⟩:=trodAll_cons hA
  obtain ⟨v1,vs1,d1,ds1,p1,q1,ha1,_,_,⟨fu1,ht1⟩,hA1⟩:=trodAll_cons hA0
  obtain ⟨hnil,_,_⟩:=trodAll_nil hA1
  have hargs:args.toList=[v0,v1]:=by rw [ha0,ha1,hnil]
  have hv0:args[0]?=some v0:=by rw [← Array.getElem?_toList,hargs];rfl
  obtain ⟨cs0,rfl⟩:=Zxk (UL.h (P:=Tryz.prog) (t:=26)) (hval 0 26 v0 rfl hv0)
  have hu0:DataW.trod enc Tryz.prog W 0 (fun _=>true) true fu0 26 cs0=some (d0,p0):=ht0
  obtain ⟨x0,rfl,k0⟩:=Zuc hu0
  have hv1:args[1]?=some v1:=by rw [← Array.getElem?_toList,hargs];rfl
  obtain ⟨n1,rfl,k1⟩:=Z78 (UL.h (P:=Tryz.prog) (t:=5)) (hval 1 5 v1 rfl hv1) ht1
  rw [hargs]
  refine CallsS.oldFact (rd cOrd ordsV [()]) (Ztj hL) ?_
  exact (by obtain ⟨m,rfl⟩:=Zju (Zm0 k1);have hm:=Zm0 k1;exact Zsy htab x0 k0 (by omega))
theorem over:Rows.topShellRow.holds Tryz.pinned (OpenSpec.ofChange Rows.topShellSpec) :=
 OpenClaim.holds_of_wide 3 Tryz.f3 rfl rfl rfl rfl rfl rfl rfl ⟨rfl,rfl,rfl,rfl,rfl⟩ rfl rfl rfl rfl rfl (by kernel_rfl) Tryz.func3 (by kernel_rfl)
  (of_decide_eq_true (by kernel_rfl)) (by unfold Func.isWrapper;first|(rw [if_pos (by decide +kernel)];kernel_rfl)|(rw [if_neg (by decide +kernel)];exact ⟨rfl,rfl⟩))
  (fun os started H enc _=>lifted os started H enc)
theorem topShell_holds:Rows.TopShellCardSaid :=
 Claim7.holds_tied_plain_at .later [] [.data, .data, .data, .data] true (true, "0cae1832a82f1f213738dc069982f8be67fade268ecc0a56b53a5608b11c1021") true
  over (fun _ h=>by cases h) (by kernel_rfl) (fun _ h=>by cases h) topShell_row_tie rfl ⟨rfl,rfl⟩ (by kernel_rfl) rfl
  (fun f fn hf hfn=>by
   obtain rfl : f = 3 := Option.some.inj ((show Tryz.prog.funcNamed "verdigris/verdigristop.TopShell" = some 3 by kernel_rfl).symm.trans hf) |>.symm
   obtain rfl:fn=Tryz.f3:=(Option.some.inj (Tryz.func3.symm.trans hfn)).symm
   exact ⟨by kernel_rfl,fun j t ht=>by
    rw [Tryz.params3] at ht
    have hm:=Array.mem_of_getElem? ht
    have hall:((Tryz.f3.params).all fun u=>!Tryz.prog.wantsStandIn u)=true:=by kernel_rfl
    rw [Tryz.params3] at hall
    exact (show Tryz.prog.wantsStandIn t=false by simpa using Array.all_eq_true_iff_forall_mem.1 hall t hm)⟩)
  (by kernel_rfl)
end Go.Proofs.YtbfgldlfciimiaaGreatDoor
