/- What the arguments of the laws on whole numbers hold: drafts, integers, texts; the library's variables. -/
import Derived.Test.YtciadfpomkdlnaaGreatDoorFr
import Derived.Test.YtciadfpomkdlnaaGreatDoorVb1
import Derived.LaidLaws
import Derived.Test.YtciadfpomkdlnaaGreatDoorCd1
import Derived.Test.YtciadfpomkdlnaaGreatDoorCc5
import Derived.HandedShaped
set_option maxHeartbeats 1000000
namespace Go.Sx
open Go Go.ChangeShapes Go.WideShapes Go.ChangeAt Go.RowKit
variable {H:Type} {enc:TypeId × Value→H} {P:Program} {w:World} {base:Nat} {spare:Nat→Bool} {held:Bool}
end Go.Sx
namespace Go.Proofs.YtciadfpomkdlnaaGreatDoor
open Go Go.Sx Go.ChangeShapes Go.WideShapes Go.ChangeAt Go.RowKit
variable {H:Type} {enc:TypeId × Value→H} {W:World}
section
variable {base:Nat} {sp:Nat→Bool} {held:Bool} {fuel:Nat} {cs:List Value} {x:DataW H × List MemPlace}
end
end Go.Proofs.YtciadfpomkdlnaaGreatDoor
namespace Go.Sx
open Go Go.ChangeShapes Go.WideShapes Go.ChangeAt Go.RowKit
variable {H:Type} {enc:TypeId × Value→H}
theorem Zqk {C:Checked} {os:Os} {f:FuncId} {fn:Func} {s:ChangeSpec} {l:List (String × DataW Unit)} {tb:TypeId}
  (started:os.Started) (own:ownKnob C.prog.godebug=none) (noInit:C.prog.inits.idxOf? f=none) (hfn:C.prog.funcs[f]?=some fn)
  (hvars:s.vars=[]) (hres:fn.resultTypes=#[tb]) (hb:C.prog.underlying tb=some .bool)
  (hS:∀ ds:List (DataW H),ds.length=fn.params.toList.length→s.fn H ds={ results:=[.lit (.bool true)],args:=ds })
  (hl:laidOutB C.prog=true) (hm:mapsRowed C.prog=true)
  (hz:((List.range C.prog.types.size).all fun t=>match C.prog.underlying t with|some (.slice e)=>decide (0 < C.prog.cellsOf e)|_=>true)=true)
  (hts:∀ t∈fn.params.toList,t < C.prog.types.size) (hh:(l.all fun x=>x.2.handleName?.isNone)=true)
  (witness:∃ (w:World) (tape:Tape) (i:Input),w.os=os∧(w.forCall tape i).Shaped C.prog∧i.vars=[]∧Input.okWide C.prog (w.forCall tape i) .any w.heap.size f i ∧
   ((s.pre enc C.prog fn [] false (w.forCall tape i).memory i.args∧laidMetH C.prog l (w.forCall tape i).memory)∧sizedMet enc C.prog fn (OpenSpec.ofChange s) false (w.forCall tape i).memory i.args)∧({}:Assume).holds C.prog (lone (Frame.enter C.prog f i.args .normal) [] (w.forCall tape i)))
  (walk:∀ (W:World) (base:Nat) (args:Array Value) (ds:List (DataW H)) (ps:List MemPlace),
   (∀ (j:Nat) t v,fn.params[j]?=some t→args[j]?=some v→Value.okWide C.prog W .any base t v) →
   DataW.TrodAll enc C.prog W 0 (fun _=>true) true fn.params.toList args.toList ds ps →
   (DataW.weightsEach C.prog (fn.params.toList++s.plain.varTypes C.prog) (ds++[])).all (·≤reachBytes)=true →
   laidMet C.prog l W→W.ShapedOpen C.prog→CallsS C.prog W f args.toList [] fun v _=>v=.bool true) :
  ReturnsInHanded {} C os f .any (fun w args=>(s.pre enc C.prog fn [] false w args∧laidMetH C.prog l w)∧sizedMet enc C.prog fn (OpenSpec.ofChange s) false w args)
   (s.post enc C.prog fn false true false false):=by
 refine returnsInHanded_of_calls own started noInit witness ?_
 intro w tape i _ hshape _ hok hpre _
 obtain ⟨_,_,_,fn',hfn',_,_,_,_,hval⟩:=hok
 obtain rfl:fn'=fn:=Option.some.inj (hfn'.symm.trans hfn)
 obtain ⟨⟨⟨ds,gs,before,hw,_⟩,hx⟩,hz9⟩:=hpre
 have hW:=DataW.Whole.of_heap (w':=w.forCall tape i) (by rfl) hw
 have hwt:=hz9.weights hw
 have hL:laidMetH C.prog l (w.forCall tape i):=by
  rw [MakeChecks.laidMetH_plain _ _ _ hh] at hx ⊢
  exact hx.of_heap (by rfl)
 generalize w.forCall tape i=W at hshape hval hW hL ⊢
 have hW':=hW
 obtain ⟨p,q,hA,hV,rfl,_,_⟩:=hW
 rw [hvars] at hV
 obtain ⟨rfl,rfl⟩:=trodVars_none hV
 rw [MakeChecks.laidMetH_plain _ _ _ hh] at hL
 have hc:=(walk W w.heap.size i.args ds p hval hA hwt hL hshape).out W (Zsm W)
 have ha:i.args.toList.toArray=i.args:=by simp
 rw [ha] at hc
 refine hc.mono fun e W' ⟨v,As',he,hv,hst⟩=>?_
 subst he hv
 have hlen:=(trodAll_length hA).2
 refine ChangeSpec.post_blind ⟨ds,[],p++[],[],p,[],hW',?_,?_,?_,hst.keptBut _,fun h=>by cases h⟩
 ·simp only [List.append_nil]
  rw [hS ds hlen,hres]
  exact trodAll_mk1 (shut_bool hb _)
 ·simp only [List.append_nil]
  rw [hS ds hlen]
  have h1:=DataW.TrodAll.respare (spare':=fun b=>decide (b < W.heap.size)) (kids_rows hl hm) (slices_full_of _ hz) hts hA (fun x hx=>by simpa using DataW.TrodAll.lt hA x hx)
  exact Zek h1 (fun x hx=>hst.sameAt x (DataW.TrodAll.lt hA x hx))
 ·simp only [List.append_nil]
  rw [hS ds hlen,hvars]
  rfl
end Go.Sx
namespace Go.Proofs.YtciadfpomkdlnaaGreatDoor
open Go Go.Sx Go.ChangeShapes Go.WideShapes Go.ChangeAt Go.RowKit
theorem Zm1 {W:World} (h:W.ShapedOpen Tryz.prog):LenR W :=
 Go.Proofs.cell_of_shapedOpen_int (zero:=#[.int .i64 0]) (t:=3) h (of_decide_eq_true (by kernel_rfl)) (by kernel_rfl) rfl (by kernel_rfl) (by kernel_rfl) Tryz.underlying3
variable {H:Type} {enc:TypeId × Value→H} {W:World} {base:Nat} {sp:Nat→Bool} {held:Bool} {fuel:Nat} {cs:List Value} {x:DataW H × List MemPlace}
end Go.Proofs.YtciadfpomkdlnaaGreatDoor
