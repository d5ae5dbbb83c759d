/- From a walk to a law's row: an argument that is not written reads as it read before. -/
import Derived.Test.YtbfgldlfciimiaaGreatDoorSx2
import Derived.Handed
import Derived.LaidLaws
import Derived.ReadAgain
import Derived.ProofKit
import Derived.OpenShut
import Derived.MakeChecks
import Derived.ChangeOld
import Derived.ChangeCalls
import Derived.Lib.LaidTab
import Derived.Lib.LaidU8
import Derived.Lay
import Derived.Test.YtbfgldlfciimiaaGreatDoorSx9
set_option maxHeartbeats 1000000
namespace Go.Sx
open Go Go.ChangeShapes Go.WideShapes Go.ChangeAt Go.RowKit
variable {H:Type} {enc:TypeId × Value→H} {P:Program} {w w' w0:World} {As:List Ent}
theorem Z8m (w:World):St w w [] :=
 ⟨fun b=>w.heap[b]?,[],⟨Nat.le_refl _,rfl,rfl,rfl,fun _ _ h=>h,fun _ _=>rfl,by simp [Sat],List.nodup_nil,fun _ h=>by cases h⟩⟩
theorem St.kept (h:St w0 w As) {b:Nat} (hb:b < w0.heap.size):w.heap[b]?=w0.heap[b]?:=by
 obtain ⟨H,bs,h⟩:=h
 have e:w0.heap[b]?=some w0.heap[b]:=Array.getElem?_eq_getElem hb
 rw [e]
 exact h.fz b _ ((h.old b hb).trans e)
theorem St.keptBut (h:St w0 w As) (m:MemPlace→Prop):w0.keptBut w m:=by
 have hk:∀ i:Nat,i < w0.heap.size→w.heap[i]?=w0.heap[i]?:=fun i hi=>h.kept hi
 obtain ⟨H,bs,h⟩:=h
 refine ⟨h.os,h.output,fun i hi=>?_⟩
 rw [hk i hi,Array.getElem?_eq_getElem hi]
 cases w0.heap[i]<;>simp
theorem St.sameAt (h:St w0 w As) (p:MemPlace) (hp:p.block < w0.heap.size):w0.sameAt w p:=by
 cases p with
 | cell b off =>
  have:=h.kept (b:=b) hp
  simp only [World.sameAt,World.cell?,this]
 | map b=>exact h.kept hp
theorem Ziw {base:Nat} {sp:Nat→Bool} {held:Bool}:∀ {ts:List TypeId} {vs:List Value} {ds:List (DataW H)} {ps:List MemPlace},DataW.TrodAll enc P w base sp held ts vs ds ps→(∀ p∈ps,w.sameAt w' p)→DataW.TrodAll enc P w' base sp held ts vs ds ps
 | [],[],[],_,h,_=>h
 | _::_,_::_,_::_,_,⟨p,q,⟨n,hn⟩,hs,e⟩,k=>⟨p,q,⟨n,DataW.trod_carry n _ _ _ hn (fun x hx=>k x (by rw [e];exact List.mem_append_left _ hx))⟩,Ziw hs (fun x hx=>k x (by rw [e];exact List.mem_append_right _ hx)),e⟩
theorem Zzz {C:Checked} {os:Os} {f:FuncId} {fn:Func} {s:ChangeSpec} {l:List (String × DataW Unit)} {tb:TypeId}
  (started:os.Started) (own:ownKnob C.prog.godebug=none) (noInit:C.prog.inits.idxOf? f=none) (hfn:C.prog.funcs[f]?=some fn)
  (hvars:s.vars=[]) (hres:fn.resultTypes=#[tb]) (hb:C.prog.underlying tb=some .bool)
  (hS:∀ ds:List (DataW H),ds.length=fn.params.toList.length→s.fn H ds={ results:=[.lit (.bool true)],args:=ds })
  (hl:laidOutB C.prog=true) (hm:mapsRowed C.prog=true)
  (hz:((List.range C.prog.types.size).all fun t=>match C.prog.underlying t with|some (.slice e)=>decide (0 < C.prog.cellsOf e)|_=>true)=true)
  (hts:∀ t∈fn.params.toList,t < C.prog.types.size) (hh:(l.all fun x=>x.2.handleName?.isNone)=true)
  (witness:∃ (w:World) (tape:Tape) (i:Input),w.os=os∧(w.forCall tape i).Shaped C.prog∧i.vars=[]∧Input.okWide C.prog (w.forCall tape i) .any w.heap.size f i ∧
   ((s.pre enc C.prog fn [] false (w.forCall tape i).memory i.args∧laidMetH C.prog l (w.forCall tape i).memory)∧sizedMet enc C.prog fn (OpenSpec.ofChange s) false (w.forCall tape i).memory i.args)∧({}:Assume).holds C.prog (lone (Frame.enter C.prog f i.args .normal) [] (w.forCall tape i)))
  (walk:∀ (W:World) (base:Nat) (args:Array Value) (ds:List (DataW H)) (ps:List MemPlace),
   (∀ (j:Nat) t v,fn.params[j]?=some t→args[j]?=some v→Value.okWide C.prog W .any base t v) →
   DataW.TrodAll enc C.prog W 0 (fun _=>true) true fn.params.toList args.toList ds ps →
   (DataW.weightsEach C.prog (fn.params.toList++s.plain.varTypes C.prog) (ds++[])).all (·≤reachBytes)=true →
   laidMet C.prog l W→CallsS C.prog W f args.toList [] fun v _=>v=.bool true) :
  ReturnsInHanded {} C os f .any (fun w args=>(s.pre enc C.prog fn [] false w args∧laidMetH C.prog l w)∧sizedMet enc C.prog fn (OpenSpec.ofChange s) false w args)
   (s.post enc C.prog fn false true false false):=by
 refine returnsInHanded_of_change_and (C:=C) (X:=fun w _=>laidMetH C.prog l w) (fun _ _ _ hk h=>by rw [MakeChecks.laidMetH_plain _ _ _ hh] at h ⊢;exact h.of_heap hk) own started noInit hfn witness ?_
 intro W base args ds gs before hval hW _ hwt hL _
 have hW':=hW
 obtain ⟨p,q,hA,hV,rfl,_,_⟩:=hW
 rw [hvars] at hV
 obtain ⟨rfl,rfl⟩:=trodVars_none hV
 rw [MakeChecks.laidMetH_plain _ _ _ hh] at hL
 have hc:=(walk W base args ds p hval hA hwt hL).out W (Z8m W)
 have ha:args.toList.toArray=args:=by simp
 rw [ha] at hc
 refine hc.mono fun e W' ⟨v,As',he,hv,hst⟩=>?_
 subst he hv
 have hlen:=(trodAll_length hA).2
 refine ⟨_,rfl,ds,[],p++[],[],p,[],hW',?_,?_,?_,hst.keptBut _,fun h=>by cases h⟩
 ·simp only [List.append_nil]
  rw [hS ds hlen,hres]
  exact trodAll_mk1 (shut_bool hb _)
 ·simp only [List.append_nil]
  rw [hS ds hlen]
  have h1:=DataW.TrodAll.respare (spare':=fun b=>decide (b < W.heap.size)) (kids_rows hl hm) (slices_full_of _ hz) hts hA (fun x hx=>by simpa using DataW.TrodAll.lt hA x hx)
  exact Ziw h1 (fun x hx=>hst.sameAt x (DataW.TrodAll.lt hA x hx))
 ·simp only [List.append_nil]
  rw [hS ds hlen,hvars]
  rfl
end Go.Sx
namespace Go.Sx
open Go Go.ChangeShapes Go.WideShapes Go.ChangeAt Go.RowKit
variable {H:Type} {enc:TypeId × Value→H} {P:Program} {w:World} {base:Nat} {spare:Nat→Bool} {held:Bool}
def AllK (k:IntKind) (cs:List Value):Prop:=∀ v∈cs,∃ z,v=.int k z∧(Lit.int k z).wf=true
theorem Zrl {e:TypeId} {k:IntKind} (hu:P.underlying e=some (.int k)) {fuel:Nat} {cs:List Value} {x:DataW H × List MemPlace} (h:DataW.trod enc P w base spare held fuel e cs=some x):AllK k cs:=by
 obtain ⟨n,rfl,_,hw⟩:=DataW.trod_int hu h
 intro v hv
 rw [List.mem_singleton.1 hv]
 exact ⟨n,rfl,hw⟩
theorem Zrm {t e:TypeId} {n:Nat} {k:IntKind} (ht:P.underlying t=some (.array n e)) (hc:P.cellsOf t=n * P.cellsOf e)
  (he:∀ (fuel:Nat) (cs:List Value) (x:DataW H × List MemPlace),DataW.trod enc P w base spare held fuel e cs=some x→AllK k cs)
  {fuel:Nat} {cs:List Value} {x:DataW H × List MemPlace} (h:DataW.trod enc P w base spare held fuel t cs=some x):AllK k cs:=by
 obtain ⟨xs,m,rfl,rfl,hl,hxl,hall⟩:=DataW.trod_array ht h
 intro v hv
 obtain ⟨i,hi⟩:=List.mem_iff_getElem?.1 hv
 have hil:i < cs.length:=(List.getElem?_eq_some_iff.1 hi).1
 rw [hl,hc] at hil
 have hpos:0 < P.cellsOf e:=by
  rcases Nat.eq_zero_or_pos (P.cellsOf e) with h0|h0
  ·rw [h0] at hil;omega
  ·exact h0
 have hq:i / P.cellsOf e < n:=(Nat.div_lt_iff_lt_mul hpos).2 hil
 have h1:=hall _ hq
 rw [List.getElem?_eq_getElem (by omega)] at h1
 refine he _ _ _ h1 v (List.mem_iff_getElem?.2 ⟨i % P.cellsOf e,?_⟩)
 rw [List.getElem?_take_of_lt (Nat.mod_lt _ hpos),List.getElem?_drop,Nat.div_add_mod']
 exact hi
theorem Zsz {r:Reach} {b0:Nat} {t e:TypeId} {n:Nat} {v:Value} (ht:P.underlying t=some (.array n e)) (h:Value.okWide P w r b0 t v):∃ cs:List Value,v=.agg cs.toArray∧cs.length=P.cellsOf t:=by
 simp only [Value.okWide,ht] at h
 obtain ⟨cs,rfl,h2,_⟩:=h
 exact ⟨cs.toList,by simp,by simpa using h2⟩
end Go.Sx
namespace Go.Sx
open Go Go.ChangeShapes Go.WideShapes Go.ChangeAt Go.RowKit
variable {H:Type} {enc:TypeId × Value→H} {P:Program} {w w0:World} {base:Nat} {spare:Nat→Bool} {held:Bool} {As:List Ent}
theorem St.oldFact {f:PF} (h:St w0 w As) (hf:f.p fun b=>w0.heap[b]?):St w0 w (.ft f::As):=by
 obtain ⟨G,bs,g⟩:=h
 refine ⟨G,bs,g.size,g.os,g.tape,g.output,g.fz,g.old,⟨f.mono _ _ (fun b o hb=>?_) hf,g.sat⟩,g.nd,g.ap⟩
 rw [g.old b (Array.getElem?_eq_some_iff.1 hb).1];exact hb
theorem CallsS.oldFact {f:FuncId} {args:List Value} {K:Value→List Ent→Prop} (f':PF) (hf:f'.p fun b=>w0.heap[b]?) (h:CallsS P w0 f args (.ft f'::As) K):CallsS P w0 f args As K :=
 CallsS.mk fun w hs=>h.out w (hs.oldFact hf)
theorem Zzp {r:Reach} {b0:Nat} {t:TypeId} {fs:Array Field} {v:Value} (ht:P.underlying t=some (.struct fs)) (h:Value.okWide P w r b0 t v):∃ cs:List Value,v=.agg cs.toArray:=by
 simp only [Value.okWide,ht] at h
 obtain ⟨cs,rfl,_⟩:=h
 exact ⟨cs.toList,by simp⟩
end Go.Sx
