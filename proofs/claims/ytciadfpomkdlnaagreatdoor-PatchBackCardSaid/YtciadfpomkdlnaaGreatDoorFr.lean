/- From a walk to a law's row: an argument that is not written reads as it read before. -/
import Derived.Test.YtciadfpomkdlnaaGreatDoorSx2
import Derived.Handed
import Derived.LaidLaws
import Derived.ReadAgain
import Derived.ProofKit
import Derived.OpenShut
import Derived.MakeChecks
import Derived.ChangeOld
import Derived.ChangeCalls
import Derived.Lib.LaidTab
import Derived.Lib.LaidU8
import Derived.Lay
import Derived.Test.YtciadfpomkdlnaaGreatDoorSx9
set_option maxHeartbeats 1000000
namespace Go.Sx
open Go Go.ChangeShapes Go.WideShapes Go.ChangeAt Go.RowKit
variable {H:Type} {enc:TypeId × Value→H} {P:Program} {w w' w0:World} {As:List Ent}
theorem Zsr (w:World):St w w [] :=
 ⟨fun b=>w.heap[b]?,[],⟨Nat.le_refl _,rfl,rfl,rfl,fun _ _ h=>h,fun _ _=>rfl,by simp [Sat],List.nodup_nil,fun _ h=>by cases h⟩⟩
theorem St.kept (h:St w0 w As) {b:Nat} (hb:b < w0.heap.size):w.heap[b]?=w0.heap[b]?:=by
 obtain ⟨H,bs,h⟩:=h
 have e:w0.heap[b]?=some w0.heap[b]:=Array.getElem?_eq_getElem hb
 rw [e]
 exact h.fz b _ ((h.old b hb).trans e)
theorem St.keptBut (h:St w0 w As) (m:MemPlace→Prop):w0.keptBut w m:=by
 have hk:∀ i:Nat,i < w0.heap.size→w.heap[i]?=w0.heap[i]?:=fun i hi=>h.kept hi
 obtain ⟨H,bs,h⟩:=h
 refine ⟨h.os,h.output,fun i hi=>?_⟩
 rw [hk i hi,Array.getElem?_eq_getElem hi]
 cases w0.heap[i]<;>simp
theorem St.sameAt (h:St w0 w As) (p:MemPlace) (hp:p.block < w0.heap.size):w0.sameAt w p:=by
 cases p with
 | cell b off =>
  have:=h.kept (b:=b) hp
  simp only [World.sameAt,World.cell?,this]
 | map b=>exact h.kept hp
theorem Zeh {base:Nat} {sp:Nat→Bool} {held:Bool}:∀ {ts:List TypeId} {vs:List Value} {ds:List (DataW H)} {ps:List MemPlace},DataW.TrodAll enc P w base sp held ts vs ds ps→(∀ p∈ps,w.sameAt w' p)→DataW.TrodAll enc P w' base sp held ts vs ds ps
 | [],[],[],_,h,_=>h
 | _::_,_::_,_::_,_,⟨p,q,⟨n,hn⟩,hs,e⟩,k=>⟨p,q,⟨n,DataW.trod_carry n _ _ _ hn (fun x hx=>k x (by rw [e];exact List.mem_append_left _ hx))⟩,Zeh hs (fun x hx=>k x (by rw [e];exact List.mem_append_right _ hx)),e⟩
end Go.Sx
namespace Go.Sx
open Go Go.ChangeShapes Go.WideShapes Go.ChangeAt Go.RowKit
variable {H:Type} {enc:TypeId × Value→H} {P:Program} {w:World} {base:Nat} {spare:Nat→Bool} {held:Bool}
def AllK (k:IntKind) (cs:List Value):Prop:=∀ v∈cs,∃ z,v=.int k z∧(Lit.int k z).wf=true
theorem Z0f {e:TypeId} {k:IntKind} (hu:P.underlying e=some (.int k)) {fuel:Nat} {cs:List Value} {x:DataW H × List MemPlace} (h:DataW.trod enc P w base spare held fuel e cs=some x):AllK k cs:=by
 obtain ⟨n,rfl,_,hw⟩:=DataW.trod_int hu h
 intro v hv
 rw [List.mem_singleton.1 hv]
 exact ⟨n,rfl,hw⟩
theorem Z0g {t e:TypeId} {n:Nat} {k:IntKind} (ht:P.underlying t=some (.array n e)) (hc:P.cellsOf t=n * P.cellsOf e)
  (he:∀ (fuel:Nat) (cs:List Value) (x:DataW H × List MemPlace),DataW.trod enc P w base spare held fuel e cs=some x→AllK k cs)
  {fuel:Nat} {cs:List Value} {x:DataW H × List MemPlace} (h:DataW.trod enc P w base spare held fuel t cs=some x):AllK k cs:=by
 obtain ⟨xs,m,rfl,rfl,hl,hxl,hall⟩:=DataW.trod_array ht h
 intro v hv
 obtain ⟨i,hi⟩:=List.mem_iff_getElem?.1 hv
 have hil:i < cs.length:=(List.getElem?_eq_some_iff.1 hi).1
 rw [hl,hc] at hil
 have hpos:0 < P.cellsOf e:=by
  rcases Nat.eq_zero_or_pos (P.cellsOf e) with h0|h0
  ·rw [h0] at hil;omega
  ·exact h0
 have hq:i / P.cellsOf e < n:=(Nat.div_lt_iff_lt_mul hpos).2 hil
 have h1:=hall _ hq
 rw [List.getElem?_eq_getElem (by omega)] at h1
 refine he _ _ _ h1 v (List.mem_iff_getElem?.2 ⟨i % P.cellsOf e,?_⟩)
 rw [List.getElem?_take_of_lt (Nat.mod_lt _ hpos),List.getElem?_drop,Nat.div_add_mod']
 exact hi
end Go.Sx
namespace Go.Sx
open Go Go.ChangeShapes Go.WideShapes Go.ChangeAt Go.RowKit
variable {H:Type} {enc:TypeId × Value→H} {P:Program} {w w0:World} {base:Nat} {spare:Nat→Bool} {held:Bool} {As:List Ent}
theorem St.oldFact {f:PF} (h:St w0 w As) (hf:f.p fun b=>w0.heap[b]?):St w0 w (.ft f::As):=by
 obtain ⟨G,bs,g⟩:=h
 refine ⟨G,bs,g.size,g.os,g.tape,g.output,g.fz,g.old,⟨f.mono _ _ (fun b o hb=>?_) hf,g.sat⟩,g.nd,g.ap⟩
 rw [g.old b (Array.getElem?_eq_some_iff.1 hb).1];exact hb
theorem CallsS.oldFact {f:FuncId} {args:List Value} {K:Value→List Ent→Prop} (f':PF) (hf:f'.p fun b=>w0.heap[b]?) (h:CallsS P w0 f args (.ft f'::As) K):CallsS P w0 f args As K :=
 CallsS.mk fun w hs=>h.out w (hs.oldFact hf)
theorem Zh1 {r:Reach} {b0:Nat} {t:TypeId} {fs:Array Field} {v:Value} (ht:P.underlying t=some (.struct fs)) (h:Value.okWide P w r b0 t v):∃ cs:List Value,v=.agg cs.toArray:=by
 simp only [Value.okWide,ht] at h
 obtain ⟨cs,rfl,_⟩:=h
 exact ⟨cs.toList,by simp⟩
theorem Zt9 {a:Addr} {n:Nat} {l:List Value} (h:w.cells? base a n=some l):l.length=n∧∀ j,j < n→w.cell? (a.add j)=l[j]?:=by
 unfold World.cells? at h
 split at h
 ·refine ⟨by simpa using mapM_some_length h,fun j hj=>?_⟩
  exact mapM_some_get h j j (by simp [hj])
 ·cases h
theorem Zpk (a:Addr) (i j:Nat):(a.add i).add j=a.add (i+j):=by
 unfold Addr.add
 by_cases hi:i=0
 ·subst hi;simp
 ·by_cases hj:j=0
  ·subst hj;simp [hi]
  ·simp [hi,hj,Nat.add_assoc]
theorem Zkf {α:Type} {c:Cod α} {C:List Value} {off:Nat} {f:Nat→α}:∀ {k:Nat},(∀ i,i < k→∀ j,j < c.n→C[off+i * c.n+j]?=(c.enc (f i))[j]?)→off+k * c.n≤C.length→c.flat ((List.range k).map f)=(C.drop off).take (k * c.n)
 | 0,_,_=>by simp [Cod.flat]
 | k + 1,h,hl=>by
  have e:(k+1) * c.n=k * c.n+c.n:=Nat.succ_mul _ _
  rw [List.range_succ,List.map_append,Zai,Zkf (k:=k) (fun i hi=>h i (by omega)) (by omega),e,List.take_add]
  congr 1
  simp only [List.map_cons,List.map_nil,Zdb,Zfi,List.append_nil]
  apply List.ext_getElem?
  intro j
  rcases Nat.lt_or_ge j c.n with hj|hj
  ·rw [List.getElem?_take_of_lt hj,List.getElem?_drop,List.getElem?_drop,← h k (by omega) j hj]
   congr 1;omega
  ·rw [List.getElem?_eq_none (by rw [c.len];exact hj),List.getElem?_eq_none (by rw [List.length_take];omega)]
theorem Zgj {α:Type} {c:Cod α} {t e:TypeId} (ht:P.underlying t=some (.slice e)) (hc:P.cellsOf e=c.n) (hpos:0 < c.n) (hsp:∀ b,spare b=true)
  (q:α→Prop) (he:∀ (fuel:Nat) (cs:List Value) (x:DataW H × List MemPlace),DataW.trod enc P w base spare held fuel e cs=some x→∃ y,cs=c.enc y∧q y)
  {fuel:Nat} {cs:List Value} {x:DataW H × List MemPlace} (h:DataW.trod enc P w base spare held fuel t cs=some x):∃ v xs,cs=[v]∧xs.length≤maxLen∧(∀ y∈xs,q y)∧Rdb (fun b=>w.heap[b]?) c v xs:=by
 rcases DataW.trod_slice ht h with ⟨rfl,_⟩|⟨a,len,cap,elems,rest,n,_,rfl,_,_,hl,hm,hlen,hel,hr,_⟩
 ·exact ⟨_,[],rfl,by simp,by simp,.inl ⟨⟨_,rfl⟩,rfl⟩⟩
 ·obtain ⟨hr1,hr2⟩:=hr (hsp _)
  by_cases h0:cap=0
  ·subst h0
   obtain rfl:len=0:=by omega
   exact ⟨_,[],rfl,by simp,by simp,.inl ⟨⟨_,rfl⟩,rfl⟩⟩
  ·have each:∀ i,∃ y,i < cap→q y∧∀ j,j < c.n→w.cell? (a.add (i * c.n+j))=(c.enc y)[j]?:=by
    intro i
    have hz:∃ y:α,True:=by
     have h1:∃ z,((w.cells? base (a.add (0 * P.cellsOf e)) (P.cellsOf e)).bind (DataW.trod enc P w base spare held n e))=some z:=by
      rcases Nat.eq_zero_or_pos len with h1|h1
      ·have:=hr2 0 (by omega)
       rw [h1] at this
       exact ⟨_,this.trans (List.getElem?_eq_getElem (by omega))⟩
      ·exact ⟨_,(hel 0 h1).trans (List.getElem?_eq_getElem (by omega))⟩
     obtain ⟨z,h1⟩:=h1
     obtain ⟨l,_,h3⟩:=Option.bind_eq_some_iff.1 h1
     obtain ⟨y,_⟩:=he _ _ _ h3
     exact ⟨y,trivial⟩
    rcases Nat.lt_or_ge i cap with hi|hi
    ·have h1:∃ z,((w.cells? base (a.add (i * P.cellsOf e)) (P.cellsOf e)).bind (DataW.trod enc P w base spare held n e))=some z:=by
      rcases Nat.lt_or_ge i len with h1|h1
      ·exact ⟨_,(hel i h1).trans (List.getElem?_eq_getElem (by omega))⟩
      ·have:=hr2 (i - len) (by omega)
       rw [show len+(i - len)=i by omega] at this
       exact ⟨_,this.trans (List.getElem?_eq_getElem (by omega))⟩
     obtain ⟨z,h1⟩:=h1
     obtain ⟨l,h2,h3⟩:=Option.bind_eq_some_iff.1 h1
     obtain ⟨y,rfl,hq⟩:=he _ _ _ h3
     obtain ⟨_,h4⟩:=Zt9 h2
     refine ⟨y,fun _=>⟨hq,fun j hj=>?_⟩⟩
     rw [← h4 j (by omega),Zpk,hc]
    ·exact ⟨hz.choose,fun h=>by omega⟩
   obtain ⟨f,hf⟩:=Classical.axiomOfChoice each
   have h00:=(hf 0 (by omega)).2 0 hpos
   rw [List.getElem?_eq_getElem (by rw [c.len];exact hpos)] at h00
   simp only [Nat.zero_mul,Nat.add_zero] at h00
   have hadd:a.add 0=a:=rfl
   rw [hadd] at h00
   obtain ⟨b,off,spot⟩:=a
   have hcell:spot=none∧∃ C T fr,w.heap[b]?=some (.cells C T fr):=by
    unfold World.cell? at h00
    simp only at h00
    split at h00
    ·rename_i C T fr hw
     cases spot with
     | none=>exact ⟨rfl,C,T,fr,hw⟩
     | some s=>simp at h00
    ·cases h00
   obtain ⟨rfl,C,T,fr,hw⟩:=hcell
   have hget:∀ i,i < cap→∀ j,j < c.n→C.toList[off+i * c.n+j]?=(c.enc (f i))[j]?:=by
    intro i hi j hj
    rw [← (hf i hi).2 j hj,Zah]
    simp only [World.cell?,hw]
    simp [Nat.add_assoc]
   have hsz:off+cap * c.n≤C.toList.length:=by
    have h1:=hget (cap - 1) (by omega) (c.n - 1) (by omega)
    rw [List.getElem?_eq_getElem (l:=c.enc _) (by rw [c.len];omega)] at h1
    have h2:=(List.getElem?_eq_some_iff.1 h1).1
    have h3:cap * c.n=(cap - 1) * c.n+c.n:=by
     obtain ⟨k,rfl⟩:∃ k,cap=k+1:=⟨cap - 1,by omega⟩
     rw [Nat.add_sub_cancel,Nat.succ_mul]
    omega
   have hle:len * c.n≤cap * c.n:=Nat.mul_le_mul_right _ hl
   have hfl:=Zkf (c:=c) (C:=C.toList) (off:=off) (f:=f) (k:=len) (fun i hi=>hget i (by omega)) (by omega)
   refine ⟨_,(List.range len).map f,rfl,by simp;omega,fun y hy=>?_,.inr ⟨b,off,cap,C.toList.take off,C.toList.drop (off+len * c.n),T,fr,by simp,by rw [List.length_take];omega,by simpa using hl,?_⟩⟩
   ·obtain ⟨i,hi,rfl⟩:=List.mem_map.1 hy
    exact (hf i (by have:=List.mem_range.1 hi;omega)).1
   show w.heap[b]?=_
   rw [hw,hfl]
   congr 2
   apply Array.ext'
   simp only []
   rw [← List.drop_drop,List.append_assoc,List.take_append_drop,List.take_append_drop]
end Go.Sx
