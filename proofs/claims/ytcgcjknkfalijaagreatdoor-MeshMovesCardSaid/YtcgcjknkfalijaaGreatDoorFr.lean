/- From a walk to a law's row: an argument that is not written reads as it read before. -/
import Derived.Test.YtcgcjknkfalijaaGreatDoorSx2
import Derived.Handed
import Derived.LaidLaws
import Derived.ReadAgain
import Derived.ProofKit
import Derived.OpenShut
import Derived.MakeChecks
import Derived.ChangeOld
import Derived.ChangeCalls
import Derived.Lib.LaidTab
import Derived.Lib.LaidU8
import Derived.Lay
import Derived.Test.YtcgcjknkfalijaaGreatDoorSx9
import Derived.Test.YtcgcjknkfalijaaGreatDoorMr1
set_option maxHeartbeats 1000000
namespace Go.Sx
open Go Go.ChangeShapes Go.WideShapes Go.ChangeAt Go.RowKit
variable {H:Type} {enc:TypeId × Value→H} {P:Program} {w w' w0:World} {As:List Ent}
theorem Zq9 (w:World):St w w [] :=
 ⟨fun b=>w.heap[b]?,[],⟨Nat.le_refl _,rfl,rfl,rfl,fun _ _ h=>h,fun _ _=>rfl,by simp [Sat],List.nodup_nil,fun _ h=>by cases h⟩⟩
theorem St.kept (h:St w0 w As) {b:Nat} (hb:b < w0.heap.size):w.heap[b]?=w0.heap[b]?:=by
 obtain ⟨H,bs,h⟩:=h
 have e:w0.heap[b]?=some w0.heap[b]:=Array.getElem?_eq_getElem hb
 rw [e]
 exact h.fz b _ ((h.old b hb).trans e)
theorem St.keptBut (h:St w0 w As) (m:MemPlace→Prop):w0.keptBut w m:=by
 have hk:∀ i:Nat,i < w0.heap.size→w.heap[i]?=w0.heap[i]?:=fun i hi=>h.kept hi
 obtain ⟨H,bs,h⟩:=h
 refine ⟨h.os,h.output,fun i hi=>?_⟩
 rw [hk i hi,Array.getElem?_eq_getElem hi]
 cases w0.heap[i]<;>simp
theorem St.sameAt (h:St w0 w As) (p:MemPlace) (hp:p.block < w0.heap.size):w0.sameAt w p:=by
 cases p with
 | cell b off =>
  have:=h.kept (b:=b) hp
  simp only [World.sameAt,World.cell?,this]
 | map b=>exact h.kept hp
theorem Zd1 {base:Nat} {sp:Nat→Bool} {held:Bool}:∀ {ts:List TypeId} {vs:List Value} {ds:List (DataW H)} {ps:List MemPlace},DataW.TrodAll enc P w base sp held ts vs ds ps→(∀ p∈ps,w.sameAt w' p)→DataW.TrodAll enc P w' base sp held ts vs ds ps
 | [],[],[],_,h,_=>h
 | _::_,_::_,_::_,_,⟨p,q,⟨n,hn⟩,hs,e⟩,k=>⟨p,q,⟨n,DataW.trod_carry n _ _ _ hn (fun x hx=>k x (by rw [e];exact List.mem_append_left _ hx))⟩,Zd1 hs (fun x hx=>k x (by rw [e];exact List.mem_append_right _ hx)),e⟩
theorem Zmm {C:Checked} {os:Os} {f:FuncId} {fn:Func} {s:ChangeSpec} {l:List (String × DataW Unit)} {tb:TypeId}
  (started:os.Started) (own:ownKnob C.prog.godebug=none) (noInit:C.prog.inits.idxOf? f=none) (hfn:C.prog.funcs[f]?=some fn)
  (hvars:s.vars=[]) (hres:fn.resultTypes=#[tb]) (hb:C.prog.underlying tb=some .bool)
  (hS:∀ ds:List (DataW H),ds.length=fn.params.toList.length→s.fn H ds={ results:=[.lit (.bool true)],args:=ds })
  (hl:laidOutB C.prog=true) (hm:mapsRowed C.prog=true)
  (hz:((List.range C.prog.types.size).all fun t=>match C.prog.underlying t with|some (.slice e)=>decide (0 < C.prog.cellsOf e)|_=>true)=true)
  (hts:∀ t∈fn.params.toList,t < C.prog.types.size) (hh:(l.all fun x=>x.2.handleName?.isNone)=true)
  (witness:∃ (w:World) (tape:Tape) (i:Input),w.os=os∧(w.forCall tape i).Shaped C.prog∧i.vars=[]∧Input.okWide C.prog (w.forCall tape i) .any w.heap.size f i ∧
   ((s.pre enc C.prog fn [] false (w.forCall tape i).memory i.args∧laidMetH C.prog l (w.forCall tape i).memory)∧sizedMet enc C.prog fn (OpenSpec.ofChange s) false (w.forCall tape i).memory i.args)∧({}:Assume).holds C.prog (lone (Frame.enter C.prog f i.args .normal) [] (w.forCall tape i)))
  (walk:∀ (W:World) (base:Nat) (args:Array Value) (ds:List (DataW H)) (ps:List MemPlace),
   (∀ (j:Nat) t v,fn.params[j]?=some t→args[j]?=some v→Value.okWide C.prog W .any base t v) →
   DataW.TrodAll enc C.prog W 0 (fun _=>true) true fn.params.toList args.toList ds ps →
   (DataW.weightsEach C.prog (fn.params.toList++s.plain.varTypes C.prog) (ds++[])).all (·≤reachBytes)=true →
   laidMet C.prog l W→CallsS C.prog W f args.toList [] fun v _=>v=.bool true) :
  ReturnsInHanded {} C os f .any (fun w args=>(s.pre enc C.prog fn [] false w args∧laidMetH C.prog l w)∧sizedMet enc C.prog fn (OpenSpec.ofChange s) false w args)
   (s.post enc C.prog fn false true false false):=by
 refine returnsInHanded_of_change_and (C:=C) (X:=fun w _=>laidMetH C.prog l w) (fun _ _ _ hk h=>by rw [MakeChecks.laidMetH_plain _ _ _ hh] at h ⊢;exact h.of_heap hk) own started noInit hfn witness ?_
 intro W base args ds gs before hval hW _ hwt hL _
 have hW':=hW
 obtain ⟨p,q,hA,hV,rfl,_,_⟩:=hW
 rw [hvars] at hV
 obtain ⟨rfl,rfl⟩:=trodVars_none hV
 rw [MakeChecks.laidMetH_plain _ _ _ hh] at hL
 have hc:=(walk W base args ds p hval hA hwt hL).out W (Zq9 W)
 have ha:args.toList.toArray=args:=by simp
 rw [ha] at hc
 refine hc.mono fun e W' ⟨v,As',he,hv,hst⟩=>?_
 subst he hv
 have hlen:=(trodAll_length hA).2
 refine ⟨_,rfl,ds,[],p++[],[],p,[],hW',?_,?_,?_,hst.keptBut _,fun h=>by cases h⟩
 ·simp only [List.append_nil]
  rw [hS ds hlen,hres]
  exact trodAll_mk1 (shut_bool hb _)
 ·simp only [List.append_nil]
  rw [hS ds hlen]
  have h1:=DataW.TrodAll.respare (spare':=fun b=>decide (b < W.heap.size)) (kids_rows hl hm) (slices_full_of _ hz) hts hA (fun x hx=>by simpa using DataW.TrodAll.lt hA x hx)
  exact Zd1 h1 (fun x hx=>hst.sameAt x (DataW.TrodAll.lt hA x hx))
 ·simp only [List.append_nil]
  rw [hS ds hlen,hvars]
  rfl
end Go.Sx
namespace Go.Sx
open Go Go.ChangeShapes Go.WideShapes Go.ChangeAt Go.RowKit
variable {H:Type} {enc:TypeId × Value→H} {P:Program} {w:World} {base:Nat} {spare:Nat→Bool} {held:Bool}
def AllK (k:IntKind) (cs:List Value):Prop:=∀ v∈cs,∃ z,v=.int k z∧(Lit.int k z).wf=true
theorem Zhw {e:TypeId} {k:IntKind} (hu:P.underlying e=some (.int k)) {fuel:Nat} {cs:List Value} {x:DataW H × List MemPlace} (h:DataW.trod enc P w base spare held fuel e cs=some x):AllK k cs:=by
 obtain ⟨n,rfl,_,hw⟩:=DataW.trod_int hu h
 intro v hv
 rw [List.mem_singleton.1 hv]
 exact ⟨n,rfl,hw⟩
theorem Zhx {t e:TypeId} {n:Nat} {k:IntKind} (ht:P.underlying t=some (.array n e)) (hc:P.cellsOf t=n * P.cellsOf e)
  (he:∀ (fuel:Nat) (cs:List Value) (x:DataW H × List MemPlace),DataW.trod enc P w base spare held fuel e cs=some x→AllK k cs)
  {fuel:Nat} {cs:List Value} {x:DataW H × List MemPlace} (h:DataW.trod enc P w base spare held fuel t cs=some x):AllK k cs:=by
 obtain ⟨xs,m,rfl,rfl,hl,hxl,hall⟩:=DataW.trod_array ht h
 intro v hv
 obtain ⟨i,hi⟩:=List.mem_iff_getElem?.1 hv
 have hil:i < cs.length:=(List.getElem?_eq_some_iff.1 hi).1
 rw [hl,hc] at hil
 have hpos:0 < P.cellsOf e:=by
  rcases Nat.eq_zero_or_pos (P.cellsOf e) with h0|h0
  ·rw [h0] at hil;omega
  ·exact h0
 have hq:i / P.cellsOf e < n:=(Nat.div_lt_iff_lt_mul hpos).2 hil
 have h1:=hall _ hq
 rw [List.getElem?_eq_getElem (by omega)] at h1
 refine he _ _ _ h1 v (List.mem_iff_getElem?.2 ⟨i % P.cellsOf e,?_⟩)
 rw [List.getElem?_take_of_lt (Nat.mod_lt _ hpos),List.getElem?_drop,Nat.div_add_mod']
 exact hi
theorem Zim {r:Reach} {b0:Nat} {t e:TypeId} {n:Nat} {v:Value} (ht:P.underlying t=some (.array n e)) (h:Value.okWide P w r b0 t v):∃ cs:List Value,v=.agg cs.toArray∧cs.length=P.cellsOf t:=by
 simp only [Value.okWide,ht] at h
 obtain ⟨cs,rfl,h2,_⟩:=h
 exact ⟨cs.toList,by simp,by simpa using h2⟩
end Go.Sx
namespace Go.Sx
open Go Go.ChangeShapes Go.WideShapes Go.ChangeAt Go.RowKit
variable {H:Type} {enc:TypeId × Value→H} {P:Program} {w w0:World} {base:Nat} {spare:Nat→Bool} {held:Bool} {As:List Ent}
theorem St.oldFact {f:PF} (h:St w0 w As) (hf:f.p fun b=>w0.heap[b]?):St w0 w (.ft f::As):=by
 obtain ⟨G,bs,g⟩:=h
 refine ⟨G,bs,g.size,g.os,g.tape,g.output,g.fz,g.old,⟨f.mono _ _ (fun b o hb=>?_) hf,g.sat⟩,g.nd,g.ap⟩
 rw [g.old b (Array.getElem?_eq_some_iff.1 hb).1];exact hb
theorem CallsS.oldFact {f:FuncId} {args:List Value} {K:Value→List Ent→Prop} (f':PF) (hf:f'.p fun b=>w0.heap[b]?) (h:CallsS P w0 f args (.ft f'::As) K):CallsS P w0 f args As K :=
 CallsS.mk fun w hs=>h.out w (hs.oldFact hf)
theorem Zmd {r:Reach} {b0:Nat} {t:TypeId} {fs:Array Field} {v:Value} (ht:P.underlying t=some (.struct fs)) (h:Value.okWide P w r b0 t v):∃ cs:List Value,v=.agg cs.toArray:=by
 simp only [Value.okWide,ht] at h
 obtain ⟨cs,rfl,_⟩:=h
 exact ⟨cs.toList,by simp⟩
theorem Zmr {a:Addr} {n:Nat} {l:List Value} (h:w.cells? base a n=some l):l.length=n∧∀ j,j < n→w.cell? (a.add j)=l[j]?:=by
 unfold World.cells? at h
 split at h
 ·refine ⟨by simpa using mapM_some_length h,fun j hj=>?_⟩
  exact mapM_some_get h j j (by simp [hj])
 ·cases h
theorem Zjp (a:Addr) (i j:Nat):(a.add i).add j=a.add (i+j):=by
 unfold Addr.add
 by_cases hi:i=0
 ·subst hi;simp
 ·by_cases hj:j=0
  ·subst hj;simp [hi]
  ·simp [hi,hj,Nat.add_assoc]
theorem Zf0 {α:Type} {c:Cod α} {C:List Value} {off:Nat} {f:Nat→α}:∀ {k:Nat},(∀ i,i < k→∀ j,j < c.n→C[off+i * c.n+j]?=(c.enc (f i))[j]?)→off+k * c.n≤C.length→c.flat ((List.range k).map f)=(C.drop off).take (k * c.n)
 | 0,_,_=>by simp [Cod.flat]
 | k + 1,h,hl=>by
  have e:(k+1) * c.n=k * c.n+c.n:=Nat.succ_mul _ _
  rw [List.range_succ,List.map_append,Zaf,Zf0 (k:=k) (fun i hi=>h i (by omega)) (by omega),e,List.take_add]
  congr 1
  simp only [List.map_cons,List.map_nil,Zbo,Zc4,List.append_nil]
  apply List.ext_getElem?
  intro j
  rcases Nat.lt_or_ge j c.n with hj|hj
  ·rw [List.getElem?_take_of_lt hj,List.getElem?_drop,List.getElem?_drop,← h k (by omega) j hj]
   congr 1;omega
  ·rw [List.getElem?_eq_none (by rw [c.len];exact hj),List.getElem?_eq_none (by rw [List.length_take];omega)]
theorem Zfl {α:Type} {c:Cod α} {t e:TypeId} (ht:P.underlying t=some (.slice e)) (hc:P.cellsOf e=c.n) (hpos:0 < c.n) (hsp:∀ b,spare b=true)
  (q:α→Prop) (he:∀ (fuel:Nat) (cs:List Value) (x:DataW H × List MemPlace),DataW.trod enc P w base spare held fuel e cs=some x→∃ y,cs=c.enc y∧q y)
  {fuel:Nat} {cs:List Value} {x:DataW H × List MemPlace} (h:DataW.trod enc P w base spare held fuel t cs=some x):∃ v xs,cs=[v]∧xs.length≤maxLen∧(∀ y∈xs,q y)∧Rdb (fun b=>w.heap[b]?) c v xs:=by
 rcases DataW.trod_slice ht h with ⟨rfl,_⟩|⟨a,len,cap,elems,rest,n,_,rfl,_,_,hl,hm,hlen,hel,hr,_⟩
 ·exact ⟨_,[],rfl,by simp,by simp,.inl ⟨⟨_,rfl⟩,rfl⟩⟩
 ·obtain ⟨hr1,hr2⟩:=hr (hsp _)
  by_cases h0:cap=0
  ·subst h0
   obtain rfl:len=0:=by omega
   exact ⟨_,[],rfl,by simp,by simp,.inl ⟨⟨_,rfl⟩,rfl⟩⟩
  ·have each:∀ i,∃ y,i < cap→q y∧∀ j,j < c.n→w.cell? (a.add (i * c.n+j))=(c.enc y)[j]?:=by
        intro i
        have hz:∃ y:α,True:=by
         have h1:∃ z,((w.cells? base (a.add (0 * P.cellsOf e)) (P.cellsOf e)).bind (DataW.trod enc P w base spare held n e))=some z:=by
          rcases Nat.eq_zero_or_pos len with h1|h1
          ·have:=hr2 0 (by omega)
           rw [h1] at this
           exact ⟨_,this.trans (List.getElem?_eq_getElem (by omega))⟩
          ·exact ⟨_,(hel 0 h1).trans (List.getElem?_eq_getElem (by omega))⟩
         obtain ⟨z,h1⟩:=h1
         obtain ⟨l,_,h3⟩:=Option.bind_eq_some_iff.1 h1
         obtain ⟨y,_⟩:=he _ _ _ h3
         exact ⟨y,trivial⟩
        rcases Nat.lt_or_ge i cap with hi|hi
        ·have h1:∃ z,((w.cells? base (a.add (i * P.cellsOf e)) (P.cellsOf e)).bind (DataW.trod enc P w base spare held n e))=some z:=by
          rcases Nat.lt_or_ge i len with h1|h1
          ·exact ⟨_,(hel i h1).trans (List.getElem?_eq_getElem (by omega))⟩
          ·have:=hr2 (i - len) (by omega)
           rw [show len+(i - len)=i by omega] at this
           exact ⟨_,this.trans (List.getElem?_eq_getElem (by omega))⟩
         obtain ⟨z,h1⟩:=h1
         obtain ⟨l,h2,h3⟩:=Option.bind_eq_some_iff.1 h1
         obtain ⟨y,rfl,hq⟩:=he _ _ _ h3
         obtain ⟨_,h4⟩:=Zmr h2
         refine ⟨y,fun _=>⟨hq,fun j hj=>?_⟩⟩
         rw [← h4 j (by omega),Zjp,hc]
        ·exact ⟨hz.choose,fun h=>by omega⟩
   obtain ⟨f,hf⟩:=Classical.axiomOfChoice each
   have h00:=(hf 0 (by omega)).2 0 hpos
   rw [List.getElem?_eq_getElem (by rw [c.len];exact hpos)] at h00
   simp only [Nat.zero_mul,Nat.add_zero] at h00
   have hadd:a.add 0=a:=rfl
   rw [hadd] at h00
   obtain ⟨b,off,spot⟩:=a
   have hcell:spot=none∧∃ C T fr,w.heap[b]?=some (.cells C T fr):=by
        unfold World.cell? at h00
        simp only at h00
        split at h00
        ·rename_i C T fr hw
         cases spot with
         | none=>exact ⟨rfl,C,T,fr,hw⟩
         | some s=>simp at h00
        ·cases h00
   obtain ⟨rfl,C,T,fr,hw⟩:=hcell
   have hget:∀ i,i < cap→∀ j,j < c.n→C.toList[off+i * c.n+j]?=(c.enc (f i))[j]?:=by
        intro i hi j hj
        rw [← (hf i hi).2 j hj,Zag]
        simp only [World.cell?,hw]
        simp [Nat.add_assoc]
   have hsz:off+cap * c.n≤C.toList.length:=by
        have h1:=hget (cap - 1) (by omega) (c.n - 1) (by omega)
        rw [List.getElem?_eq_getElem (l:=c.enc _) (by rw [c.len];omega)] at h1
        have h2:=(List.getElem?_eq_some_iff.1 h1).1
        have h3:cap * c.n=(cap - 1) * c.n+c.n:=by
         obtain ⟨k,rfl⟩:∃ k,cap=k+1:=⟨cap - 1,by omega⟩
         rw [Nat.add_sub_cancel,Nat.succ_mul]
        omega
   have hle:len * c.n≤cap * c.n:=Nat.mul_le_mul_right _ hl
   have hfl:=Zf0 (c:=c) (C:=C.toList) (off:=off) (f:=f) (k:=len) (fun i hi=>hget i (by omega)) (by omega)
   refine ⟨_,(List.range len).map f,rfl,by simp;omega,fun y hy=>?_,.inr ⟨b,off,cap,C.toList.take off,C.toList.drop (off+len * c.n),T,fr,by simp,by rw [List.length_take];omega,by simpa using hl,?_⟩⟩
   ·obtain ⟨i,hi,rfl⟩:=List.mem_map.1 hy
    exact (hf i (by have:=List.mem_range.1 hi;omega)).1
   show w.heap[b]?=_
   rw [hw,hfl]
   congr 2
   apply Array.ext'
   simp only []
   rw [← List.drop_drop,List.append_assoc,List.take_append_drop,List.take_append_drop]
end Go.Sx
namespace Go.Proofs.YtcgcjknkfalijaaGreatDoor
open Go Go.Sx Go.ChangeShapes Go.WideShapes Go.ChangeAt Go.RowKit
variable {H:Type} {enc:TypeId × Value→H} {W:World}
theorem Zug {α:Type} {l:List α} (h:l.length=3):∃ a b c,l=[a,b,c]:=by
 match l,h with
 | [a,b,c],_=>exact ⟨_,_,_,rfl⟩
theorem Zv5 {α:Type} {l:List α} (h:l.length=7):∃ a b c d e f g,l=[a,b,c,d,e,f,g]:=by
 match l,h with
 | [a,b,c,d,e,f,g],_=>exact ⟨_,_,_,_,_,_,_,rfl⟩
theorem Zdl {α:Type} {l:List α} {i:Nat} (h:i < l.length):∃ x,l[i]?=some x:=⟨_,List.getElem?_eq_getElem h⟩
section
variable {base:Nat} {sp:Nat→Bool} {held:Bool} {fuel:Nat} {cs:List Value} {x:DataW H × List MemPlace}
theorem Zvx {n:Int} (h:(Lit.int .u8 n).wf=true):0≤n∧n≤255:=by
 simpa [Lit.wf,IntKind.min,IntKind.max,IntKind.signed,IntKind.bits] using h
theorem Zvy {n:Int} (h:(Lit.int .i8 n).wf=true):-128≤n∧n≤127:=by
 simpa [Lit.wf,IntKind.min,IntKind.max,IntKind.signed,IntKind.bits] using h
theorem Zgl {n:Int} (h:(Lit.int .i16 n).wf=true):-32768≤n∧n≤32767:=by
 simpa [Lit.wf,IntKind.min,IntKind.max,IntKind.signed,IntKind.bits] using h
theorem Zma (h:DataW.trod enc Tryz.prog W base sp held fuel 23 cs=some x):∃ a b c,cs=[.int .i16 a,.int .i16 b,.int .i16 c]∧(-32768≤a∧a≤32767)∧(-32768≤b∧b≤32767)∧(-32768≤c∧c≤32767):=by
 have h1:AllK .i16 cs:=Zhx (UL.h (P:=Tryz.prog)) (by kernel_rfl) (fun fu c x hx=>Zhw (UL.h (P:=Tryz.prog)) hx) h
 obtain ⟨xs,m,_,_,hl,_,_⟩:=DataW.trod_array (UL.h (P:=Tryz.prog) (t:=23)) h
 rw [show Tryz.prog.cellsOf 23=3 by kernel_rfl] at hl
 obtain ⟨a,b,c,rfl⟩:=Zug hl
 obtain ⟨a,rfl,w0⟩:=h1 a (by simp)
 obtain ⟨b,rfl,w1⟩:=h1 b (by simp)
 obtain ⟨c,rfl,w2⟩:=h1 c (by simp)
 exact ⟨a,b,c,rfl,Zgl w0,Zgl w1,Zgl w2⟩
theorem Zgp (h:DataW.trod enc Tryz.prog W base sp held fuel 5 cs=some x):∃ n,cs=[.int .u8 n]∧0≤n∧n≤255:=by
 obtain ⟨n,h1,_,h2⟩:=DataW.trod_int (UL.h (P:=Tryz.prog)) h
 exact ⟨n,h1,Zvx h2⟩
theorem Zs0:Tryz.prog.cellsOf 5=1:=by kernel_rfl
theorem Zqy:Tryz.prog.cellsOf 24=1:=by kernel_rfl
theorem Zs1:Tryz.prog.cellsOf 23=3:=by kernel_rfl
theorem Zos:Tryz.prog.cellsOf 4=1:=by kernel_rfl
theorem Zmq:Tryz.prog.cellsOf 26=7:=by kernel_rfl
theorem Zjz (hsp:∀ b,sp b=true) (h:DataW.trod enc Tryz.prog W base sp held fuel 24 cs=some x):∃ v xs,cs=[v]∧xs.length≤9223372036854775807∧(∀ y∈xs,-128≤y∧y≤127)∧Rdb (fun b=>W.heap[b]?) (cI .i8) v xs:=by
 obtain ⟨v,xs,h1,h2,h3,h4⟩:=Zfl (c:=cI .i8) (UL.h (P:=Tryz.prog)) (by kernel_rfl) (by decide) hsp (fun y=>-128≤y∧y≤127) (fun fu c x hx=>by
  obtain ⟨n,h1,_,h2⟩:=DataW.trod_int (UL.h (P:=Tryz.prog)) hx
  exact ⟨n,h1,Zvy h2⟩) h
 exact ⟨v,xs,h1,Nat.le_trans h2 (by decide),h3,h4⟩
theorem Zhu (hsp:∀ b,sp b=true) (h:DataW.trod enc Tryz.prog W base sp held fuel 26 cs=some x):∃ d:DraftA,cs=d.cells∧d.ok∧Rdb (fun b=>W.heap[b]?) (cI .i8) d.ov d.off:=by
 obtain ⟨xs,n,_,_,hl,hx,hf⟩:=DataW.trod_struct (UL.h (P:=Tryz.prog)) h
 have h0:=hf 0 _ rfl
 replace h0:DataW.trod enc Tryz.prog W base sp held n 5 ((cs.drop 0).take (Tryz.prog.cellsOf 5))=xs[0]?:=h0
 have h1:=hf 1 _ rfl
 replace h1:DataW.trod enc Tryz.prog W base sp held n 5 ((cs.drop 1).take (Tryz.prog.cellsOf 5))=xs[1]?:=h1
 have h2:=hf 2 _ rfl
 replace h2:DataW.trod enc Tryz.prog W base sp held n 23 ((cs.drop 2).take (Tryz.prog.cellsOf 23))=xs[2]?:=h2
 have h3:=hf 3 _ rfl
 replace h3:DataW.trod enc Tryz.prog W base sp held n 24 ((cs.drop 5).take (Tryz.prog.cellsOf 24))=xs[3]?:=h3
 have h4:=hf 4 _ rfl
 replace h4:DataW.trod enc Tryz.prog W base sp held n 4 ((cs.drop 6).take (Tryz.prog.cellsOf 4))=xs[4]?:=h4
 obtain ⟨y0,e0⟩:=Zdl (l:=xs) (i:=0) (by rw [hx];decide)
 obtain ⟨y1,e1⟩:=Zdl (l:=xs) (i:=1) (by rw [hx];decide)
 obtain ⟨y2,e2⟩:=Zdl (l:=xs) (i:=2) (by rw [hx];decide)
 obtain ⟨y3,e3⟩:=Zdl (l:=xs) (i:=3) (by rw [hx];decide)
 obtain ⟨y4,e4⟩:=Zdl (l:=xs) (i:=4) (by rw [hx];decide)
 rw [e0] at h0
 rw [e1] at h1
 rw [e2] at h2
 rw [e3] at h3
 rw [e4] at h4
 rw [Zmq] at hl
 obtain ⟨c0,c1,c2,c3,c4,c5,c6,rfl⟩:=Zv5 hl
 rw [Zs0] at h0 h1
 rw [Zs1] at h2
 rw [Zqy] at h3
 rw [Zos] at h4
 obtain ⟨kd,k1,k2⟩:=Zgp h0
 obtain ⟨sz,s1,s2⟩:=Zgp h1
 have hk:AllK .i16 [c2,c3,c4]:=Zhx (UL.h (P:=Tryz.prog)) (by kernel_rfl) (fun fu c x hx=>Zhw (UL.h (P:=Tryz.prog)) hx) h2
 obtain ⟨a0,rfl,w0⟩:=hk c2 (by simp)
 obtain ⟨a1,rfl,w1⟩:=hk c3 (by simp)
 obtain ⟨a2,rfl,w2⟩:=hk c4 (by simp)
 obtain ⟨ov,off,o1,o2,o3,o4⟩:=Zjz hsp h3
 obtain ⟨tn,t1,_⟩:=DataW.trod_bool (UL.h (P:=Tryz.prog)) h4
 cases k1
 cases s1
 cases o1
 cases t1
 exact ⟨⟨kd,sz,a0,a1,a2,_,off,tn⟩,rfl,⟨k2,s2,Zgl w0,Zgl w1,Zgl w2,o3,o2⟩,o4⟩
end
end Go.Proofs.YtcgcjknkfalijaaGreatDoor
