/- The engine, part A: strings, pointers held against pointers, unsafe. -/
import Derived.Test.YtbfgldlfciimiaaGreatDoorSx8
import Derived.Lib.UnsafeStr
import Derived.Lib.Strings
import Derived.Lib.Builder
import Derived.Lib.ItoaNum
import Derived.Lib.LaidTab
import Derived.Laws.Externs
import Derived.Deep.Draws
import Derived.LaidEqlPtr
import Derived.KernelRfl
import Derived.Scope
import Derived.Sort.Grow
set_option maxHeartbeats 1000000
namespace Go.Sx
open Go
theorem size_toArray (l:List UInt8):(⟨l.toArray⟩:ByteArray).size=l.length:=by simp [ByteArray.size]
theorem Zh4 (l:List UInt8):(⟨l.toArray⟩:ByteArray).toList=l:=by
 simp [Lib.toList_data]
/-! a scope with labels that are not jumped to -/
section
variable {P:Program} {F:Fence} {n:Nat} {Q:Exit→Act→World→Prop} {a:Act} {w:World}
theorem Zdk {b:Frame} {k:List Item} {cs:List Frame} {c:Code}:step P (lone (b.atR a (.code (.scope c)::k)) cs w)=.next (lone (b.atR a (.code c::.inScope c::k)) cs w) :=
 step_lone_go (by simp [stepG,stepG.exec,Frame.atR])
theorem Zp0 {b:Frame} {k:List Item} {cs:List Frame} {c:Code}:step P (lone (b.atR a (.inScope c::k)) cs w)=.next (lone (b.atR a k) cs w) :=
 step_lone_go (by simp [stepG,stepG.exec,Frame.atR])
theorem Zul {c:Code} (h:c.wpIn F n P (Exit.noGoto Q) a w):(Code.scope c).wpIn F n P Q a w:=by
 intro b k cs hro hb hr
 have h0:(lone (b.atR a (.code (.scope c)::k)) cs w).fenced P F:=fenced_calm hb hr rfl
 obtain ⟨e,a₁,w₁,hq,harr⟩:=h b (.inScope c::k) cs hro hb hr
 cases e with
 | normal=>exact ⟨.normal,a₁,w₁,hq,.head h0 Zdk (StepsIn.trans harr (.one (fenced_calm hb hr rfl) Zp0))⟩
 | exit id =>
  have hx:exitTo id (.inScope c::k)=exitTo id k:=by simp [exitTo]
  exact ⟨.exit id,a₁,w₁,hq,fun k' hk=>.head h0 Zdk (harr.1 k' (by rw [hx];exact hk)),
    fun hr' hk=>let ⟨k₁,h1,h2⟩:=harr.2 hr' (by rw [hx];exact hk);⟨k₁,h1,.head h0 Zdk h2⟩⟩
 | goto l=>exact hq.elim
 | ret=>exact ⟨_,a₁,w₁,hq,.of_steps (.one h0 Zdk) harr⟩
 | panic ch=>exact ⟨_,a₁,w₁,hq,.of_steps (.one h0 Zdk) harr⟩
 | outgrown=>exact ⟨_,a₁,w₁,hq,.of_steps (.one h0 Zdk) harr⟩
end
section
variable {P:Program} {N:Ctx} {w0:World} {e:Env} {As:List Ent} {Q:Exit→Act→World→Prop} {c:Code}
theorem Tri.scope (h:Tri P N w0 c e As (Exit.noGoto Q)):Tri P N w0 (.scope c) e As Q:=Tri.mk fun a w ha hs=>Zul (h.out a w ha hs)
theorem Tri.label {l:Nat} (h:Post N w0 Q .normal e As):Tri P N w0 (.label l) e As Q:=Tri.mk fun a w ha hs=>wpIn_label (h.out a w ha hs)
theorem Zn7 (h:Post N w0 Q .normal e As):Post N w0 (Exit.noGoto Q) .normal e As:=Post.mk h.out
theorem Zwf (h:Post N w0 Q .ret e As):Post N w0 (Exit.noGoto Q) .ret e As:=Post.mk h.out
theorem Zt7 {id:Nat} (h:Post N w0 Q (.exit id) e As):Post N w0 (Exit.noGoto Q) (.exit id) e As:=Post.mk h.out
instance [h:PanicOk Q]:PanicOk (Exit.noGoto Q):=⟨h.h⟩
end
/-! elements of one cell -/
def cB:Cod Bool:=⟨1,fun b=>[.bool b],fun _=>rfl,fun b v hv=>by
 simp only [List.mem_cons,List.not_mem_nil,or_false] at hv
 subst hv;rfl⟩
def cI (k:IntKind):Cod Int:=⟨1,fun b=>[.int k b],fun _=>rfl,fun b v hv=>by
 simp only [List.mem_cons,List.not_mem_nil,or_false] at hv
 subst hv;rfl⟩
def cN (k:IntKind):Cod Nat:=⟨1,fun b=>[.int k (b:Int)],fun _=>rfl,fun b v hv=>by
 simp only [List.mem_cons,List.not_mem_nil,or_false] at hv
 subst hv;rfl⟩
instance {b:Bool}:EncL cB b [.bool b]:=⟨rfl⟩
instance {k:IntKind} {n:Int}:EncL (cI k) n [.int k n]:=⟨rfl⟩
instance {k:IntKind} {n:Nat}:EncL (cN k) n [.int k (n:Int)]:=⟨rfl⟩
instance {b:Bool}:Cell1 cB (.bool b) b:=⟨rfl⟩
instance {k:IntKind} {n:Int}:Cell1 (cI k) (.int k n) n:=⟨rfl⟩
instance {k:IntKind} {n:Nat}:Cell1 (cN k) (.int k (n:Int)) n:=⟨rfl⟩
section
variable {P:Program} {N:Ctx} {w0 w:World} {e:Env} {As As' rest:List Ent} {Q:Exit→Act→World→Prop} {ty t t':TypeId} {x y z:Operand} {v u:Value} {l l':List UInt8} {k:IntKind} {i lo hi:Nat} {c:UInt8} {tys:Array TypeId}
theorem Zwu [UL P t .string] (hx:ev e x=some (.string ⟨l.toArray⟩)):ExF P N w0 (.call ⟨.builtin .len,#[x],#[t]⟩) ty e As (.int .i64 l.length):=by
 have:=Zpq (P:=P) (N:=N) (w0:=w0) (ty:=ty) (As:=As) (t:=t) hx
 rwa [size_toArray] at this
theorem Zwv [UL P t .string] (hx:ev e x=some (.string ⟨l.toArray⟩)) (hy:ev e y=some (.int k (i:Int))) (hi:l[i]?=some c):ExF P N w0 (.index t x y) ty e As (.int .u8 (c.toNat:Int)):=by
 have hlt:=(List.getElem?_eq_some_iff.1 hi).1
 have:=Z0w (P:=P) (N:=N) (w0:=w0) (ty:=ty) (As:=As) (t:=t) hx hy (by rw [size_toArray];exact hlt)
 have h2:(⟨l.toArray⟩:ByteArray)[i]'(by rw [size_toArray];exact hlt)=c:=(List.getElem?_eq_some_iff.1 hi).2
 rwa [h2] at this
theorem Z5u (hx:ev e x=some (.string ⟨l.toArray⟩)) (hy:ev e y=some (.string ⟨l'.toArray⟩)):ExF P N w0 (.binOp .eql t x y t') ty e As (.bool (decide (l=l'))):=by
 have:=Zy1 (P:=P) (N:=N) (w0:=w0) (ty:=ty) (As:=As) (t:=t) (t':=t') hx hy
 simpa only [Zh4] using this
theorem Z5o (hx:ev e x=some (.string ⟨l.toArray⟩)) (hy:ev e y=some (.string ⟨l'.toArray⟩)):ExF P N w0 (.binOp .neq t x y t') ty e As (.bool !(decide (l=l'))):=by
 have:=Zy0 (P:=P) (N:=N) (w0:=w0) (ty:=ty) (As:=As) (t:=t) (t':=t') hx hy
 simpa only [Zh4] using this
theorem Z5y (hx:ev e x=some (.string ⟨l.toArray⟩)) (hy:ev e y=some (.string ⟨l'.toArray⟩)) (h63:l.length+l'.length≤9223372036854775807):ExF P N w0 (.binOp .add t x y t') ty e As (.string ⟨(l++l').toArray⟩):=by
 unfold ExF
 intro a w ha _ d pos af g
 have h1:(⟨l.toArray⟩:ByteArray)++⟨l'.toArray⟩=⟨(l++l').toArray⟩:=by
  apply ByteArray.ext
  simp
 have h2:((⟨l.toArray⟩:ByteArray).size:Int)+(⟨l'.toArray⟩:ByteArray).size≤9223372036854775807:=by rw [size_toArray,size_toArray];omega
 simp [execOp,ha.eval hx,ha.eval hy,eqGuard,binOp,Op.stringOp,h1,h2]
theorem Zg8 {a b:Option Operand} [UL P t .string] (hx:ev e x=some (.string ⟨l.toArray⟩)) (hl:evLo e a lo) (hh:evHi e l.length b hi) (h1:lo≤hi) (h2:hi≤l.length) :
  ExR P N w0 (.slice t x a b none) ty e As (fun u As'=>u=.string ⟨((l.drop lo).take (hi - lo)).toArray⟩∧As'=As):=by
 unfold ExR
 intro ac w ha hs d pos af g
 have h3:(⟨l.toArray⟩:ByteArray).extract lo hi=⟨((l.drop lo).take (hi - lo)).toArray⟩:=Lib.extract_eq _ lo hi
 have hsz:(⟨l.toArray⟩:ByteArray).size=l.length:=size_toArray l
 have hrun:∀ (lo' hi':Option Value),((lo'=none∧lo=0)∨∃ k,lo'=some (.int k (lo:Int)))→((hi'=none∧hi=l.length)∨∃ k,hi'=some (.int k (hi:Int)))→(Instr.sliceAt t (.string ⟨l.toArray⟩) lo' hi' none).run P w=.ok (.string ⟨((l.drop lo).take (hi - lo)).toArray⟩) w:=by
  intro lo' hi' hl hh
  rcases hl with ⟨rfl,rfl⟩|⟨k,rfl⟩<;>rcases hh with ⟨rfl,rfl⟩|⟨k',rfl⟩<;>simp only [Instr.sliceAt,Instr.slice,Instr.sliceBounds,Instr.sliceBound,asIntOf,Sem.run_bind,Zar,Result.andThen_ok,hsz]<;>simp [h1,h2,h3]
 refine ⟨_,w,_,?_,⟨rfl,rfl⟩,hs⟩
 simp [execOp,ha.eval hx,hrun _ _ (hl.run ha) (hh.run ha)]

theorem Z8s {m n:Nat} (hx:ev e x=some (.int k ((m:Nat):Int))) (hy:ev e y=some (.int k ((n:Nat):Int))) (h:n≤m) (hr:IR k (m:Int)):ExF P N w0 (.binOp .sub t x y t') ty e As (.int k ((m - n:Nat):Int)):=by
 have h1:IR k ((m:Int) - (n:Int)):=by cases k<;>simp only [IR] at hr ⊢<;>omega
 have:=Zyz (P:=P) (N:=N) (w0:=w0) (As:=As) (ty:=ty) (t:=t) (t':=t') hx hy h1
 rwa [← Int.ofNat_sub h] at this
theorem Z8t {m:Nat} (hx:ev e x=some (.int k ((m:Nat):Int))) (hy:ev e y=some (.int k 1)) (h:1≤m) (hr:IR k (m:Int)):ExF P N w0 (.binOp .sub t x y t') ty e As (.int k ((m - 1:Nat):Int)):=Z8s hx hy h hr
theorem Ents.dup {α:Type} {cd:Cod α} {xs:List α} [h:FtIn As v α cd xs]:Ents As (.ft (rd cd v xs)::As):=fun _ _ hs=>Zkg hs h.mem fun _ hp=>hp
theorem Zps {α:Type} {cd:Cod α} {xs:List α} {f:FuncId} {args:List Value} {K:Value→List Ent→Prop} (h:CallsS P w0 f args As K) (hK:∀ v Bs,K v Bs→RdIn Bs v α cd xs):CallsS P w0 f args As (fun v Bs=>∃ p cap,v=.slice p xs.length cap∧K v Bs):=CallsS.mk fun w hs =>
 (h.out w hs).mono fun en w' ⟨v,Bs,h1,h2,h3⟩=>by
  obtain ⟨p,cap,hv,_⟩:=((hK v Bs h2).get w0 w' h3).len
  exact ⟨v,Bs,h1,⟨p,cap,hv,h2⟩,h3⟩
theorem Zae {f:FuncId} {args:List Value} {K:Value→List Ent→Prop} (v:Value) {α:Type} {cd:Cod α} {xs:List α} [hr:RdIn As v α cd xs] (h:∀ p cap,v=.slice p xs.length cap→CallsS P w0 f args As K):CallsS P w0 f args As K:=CallsS.mk fun w hs=>by
 obtain ⟨p,cap,hv,_⟩:=(hr.get w0 w hs).len
 exact (h p cap hv).out w hs
theorem Znr {α:Type} {cd:Cod α} {el:TypeId} {z0:α} {by_ n:Nat} {zz:Int} {k':IntKind} [UL P t (.slice el)] [hel:ElC P el α cd z0 by_] (hx:ev e x=some (.int k ((n:Nat):Int))) (hy:ev e y=some (.int k' zz)) (h0:0≤zz) (hle:n≤zz.toNat) (hb:by_ * zz.toNat≤281474976710656) (h63:zz.toNat≤9223372036854775807) :
  ExR P N w0 (.makeSlice t x y) ty e As (RW cd el (List.replicate n z0) As) :=
 Zyx (m:=zz.toNat) hx (by rw [hy,Int.toNat_of_nonneg h0]) hle hb h63
/-! pointers -/
theorem Z00 {el:TypeId} [UL P t (.pointer el)] (hx:ev e x=some (.pointer none)) (hy:ev e y=some (.pointer none)):ExF P N w0 (.binOp .eql t x y t') ty e As (.bool true):=by
 unfold ExF
 intro a w ha _ d pos af g
 have h:(binOp .eql t (.pointer none) (.pointer none)).run P w=.ok (.bool true) w:=by
  have h:∀ d:Nat,(Op.equalIn (d+1) t (.pointer none) (.pointer none)).run P w=.ok true w:=fun d=>by simp [Op.equalIn,Zar]
  simp only [binOp]
  simp [Op.equal,Op.maxDepth,h 9999]
 simp [execOp,ha.eval hx,ha.eval hy,eqGuard,h]
theorem Z0z {el:TypeId} {p:Addr} [UL P t (.pointer el)] (hx:ev e x=some (.pointer (some p))) (hy:ev e y=some (.pointer none)):ExF P N w0 (.binOp .eql t x y t') ty e As (.bool false):=by
 unfold ExF
 intro a w ha _ d pos af g
 have h:(binOp .eql t (.pointer (some p)) (.pointer none)).run P w=.ok (.bool false) w:=by
  have h:∀ d:Nat,(Op.equalIn (d+1) t (.pointer (some p)) (.pointer none)).run P w=.ok false w:=fun d=>by simp [Op.equalIn,Zar]
  simp only [binOp]
  simp [Op.equal,Op.maxDepth,h 9999]
 simp [execOp,ha.eval hx,ha.eval hy,eqGuard,h]
theorem Z5p {el:TypeId} {z':Value} {n b:Nat} {p:Addr} [UL P t (.pointer el)] [hT:TI P el z' n b] (hx:ev e x=some (.pointer (some p))) (hy:ev e y=some (.pointer (some p))):ExF P N w0 (.binOp .neq t x y t') ty e As (.bool false):=by
 unfold ExF
 intro a w ha _ d pos af g
 obtain ⟨i,h1,_⟩:=hT.info
 have h:=Lib.run_neq_ptr_same (P:=P) w p (UL.h (P:=P) (t:=t)) h1
 simp [execOp,ha.eval hx,ha.eval hy,eqGuard,h]
/-! unsafe.Pointer -/
theorem Z02 {el T:TypeId} {z':Value} {n b b':Nat} {cs:List Value} [UL P t (.pointer el)] [UL P t' .unsafePointer] [hT:TI P el z' n b'] (hn:n≠0) (hx:ev e x=some (.pointer (some ⟨b,0,none⟩))) [TakeC As b cs T rest] (hc:0 < cs.length) :
  ExF P N w0 (.convert t t' x) ty e As (.pointer (some ⟨b,0,none⟩)):=by
 unfold ExF
 intro a w ha hs d pos af g
 have hw:=Ze2 (b:=b) (l:=cs) (T:=T) (rest:=rest) hs
 obtain ⟨i,h1,_,h2,_⟩:=hT.info
 have h:=Lib.run_to_unsafe (P:=P) w (src:=t) (dst:=t') (e:=T) (cells:=cs.length) ⟨b,0,none⟩ UL.h UL.h h1 (by rw [h2];exact hn) (by simp [World.shape?,hw]) hc
 simp [execOp,ha.eval hx,h]
theorem Z01 {el T:TypeId} {z':Value} {n b b':Nat} {cs:List Value} [UL P t .unsafePointer] [UL P t' (.pointer el)] [hT:TI P el z' n b'] (hx:ev e x=some (.pointer (some ⟨b,0,none⟩))) [TakeC As b cs T rest] (hlies:liesAt P P.depth T (cs.length / P.cellsOf T) 0 el 1=true) :
  ExF P N w0 (.convert t t' x) ty e As (.pointer (some ⟨b,0,none⟩)):=by
 unfold ExF
 intro a w ha hs d pos af g
 have hw:=Ze2 (b:=b) (l:=cs) (T:=T) (rest:=rest) hs
 obtain ⟨i,h1,_,h2,_⟩:=hT.info
 have h:=Lib.run_from_unsafe (P:=P) w (src:=t) (dst:=t') (e:=T) (cells:=cs.length) ⟨b,0,none⟩ UL.h UL.h h1 (by simp [World.shape?,hw]) hlies
 simp [execOp,ha.eval hx,h]
class Same1 (P:Program) (f:FuncId):Prop where
 run:∀ (x:Value) (w:World),(callFunc f #[x]).run P w=.ok (.value x) w
theorem Zuj {f:FuncId} {xs:Array Operand} [hb:Same1 P f] (hxs:evs e xs.toList=some [v]):ExF P N w0 (.call ⟨.value (.func f),xs,tys⟩) ty e As v:=by
 unfold ExF
 intro a w ha hs d pos af g
 have h1:xs.map a.eval=#[v]:=by
  apply Array.toList_inj.1
  rw [Array.toList_map,ha.evals hxs]
 simp only [execOp,resolve,Deferred.ofValue,Act.eval]
 simp only [Sem.run_bind,Sem.run_pure,Result.andThen_ok,invoke]
 simp [h1,hb.run]

theorem Zwk {α:Type} {cd:Cod α} {xs:List α} {z':Value} {b' b off:Nat} {cs cs':List Value} {T:TypeId} [hT:TI P t z' 1 b'] (hx:ev e x=some (.pointer (some ⟨b,off,none⟩))) (hy:ev e y=some v) [hr:RdIn As v α cd xs] [hc:TakeC As b cs T rest]
  (hl:Nat.blt off cs.length=true) (hl':cs.set off v=cs'):ExU P N w0 (.store t x y) ty e As (.cl b cs' T::rest):=by
 by_cases h1:v.cells=#[v]∧v.oneCell'=true
 ·exact ExU.store (rest:=rest) hx hy h1.1 h1.2 hl hl'
 ·unfold ExU
  intro a w ha hs d pos af g
  obtain ⟨p,cap,hv,_⟩:=(hr.get w0 w hs).len
  exact absurd ⟨by rw [hv];rfl,by rw [hv];rfl⟩ h1
/-! bytes -/
def cU8:Cod UInt8:=⟨1,fun b=>[.int .u8 (b.toNat:Int)],fun _=>rfl,fun b v hv=>by
 simp only [List.mem_cons,List.not_mem_nil,or_false] at hv
 subst hv;rfl⟩
instance {b:UInt8}:EncL cU8 b [.int .u8 (b.toNat:Int)]:=⟨rfl⟩
theorem Zx7 (l:List UInt8):cU8.flat l=l.map fun b=>Value.int .u8 (b.toNat:Int):=by
 induction l with
 | nil=>rfl
 | cons b l ih=>rw [Zeb,ih];rfl
theorem Zwo {tx el:TypeId} {z0:UInt8} {by_:Nat} {xs:List UInt8} [UL P t (.slice el)] [UL P tx .string] [ElC P el UInt8 cU8 z0 by_] (hx:ev e x=some v) (hy:ev e y=some (.string ⟨l.toArray⟩)) [h:TakeW As v cU8 el xs rest]
  (hb:(xs.length+l.length) * by_≤140737488355328) (h63:xs.length+l.length≤9223372036854775807):ExR P N w0 (.call ⟨.builtin .append,#[x,y],#[t,tx]⟩) ty e As (RW cU8 el (xs++l) rest):=by
 unfold ExR
 intro a w ha hs d pos af g
 have hsrc:Src P cU8.n tx (.string ⟨l.toArray⟩) l.length (cU8.flat l) w:=by
  have:=Src.ofString (P:=P) w (tx:=tx) UL.h (⟨l.toArray⟩:ByteArray)
  rw [size_toArray] at this
  rw [Zx7]
  exact this
 obtain ⟨v',w',h1,h2⟩:=St.append (P:=P) (t:=t) (tx:=tx) (ty':=ty) (Ents.perm h.perm w0 w hs) hsrc hb h63
 exact ⟨v',w',_,by simp [execOp,ha.eval hx,ha.eval hy,resolve,invoke,builtin,h1],rfl,h2⟩

/-! memory that a callee makes, and draws -/
theorem St.grow {os:Array Obj} (h:St w0 w As):St w0 (Go.Sort.grow w os) As:=by
 obtain ⟨H,bs,g⟩:=h
 have hlt:∀ (b:Nat) (o:Obj),w.heap[b]?=some o→(Go.Sort.grow w os).heap[b]?=some o:=fun b o hb=>by
  show (w.heap++os)[b]?=some o
  rw [Array.getElem?_append_left (Array.getElem?_eq_some_iff.1 hb).1];exact hb
 refine ⟨H,bs,?_,g.os,g.tape,g.output,fun b o hb=>hlt b o (g.fz b o hb),g.old,Sat.move (FH.le_refl H) g.sat fun b hb=>?_,g.nd,g.ap⟩
 ·have:=g.size
  show w0.heap.size≤(w.heap++os).size
  rw [Array.size_append];omega
 ·have:=g.sat.lt b hb
  show (w.heap++os)[b]?=w.heap[b]?
  rw [Array.getElem?_append_left this]
theorem St.drewN {n:Nat} (h:St w0 w As):St w0 (w.drewN n) As:=by
 obtain ⟨H,bs,g⟩:=h
 exact ⟨H,bs,g.size,g.os,g.tape,g.output,g.fz,g.old,Sat.move (FH.le_refl H) g.sat (fun _ _=>rfl),g.nd,g.ap⟩
theorem St.old {b:Nat} {o:Obj} (h:St w0 w As) (hb:w0.heap[b]?=some o):w.heap[b]?=some o:=by
 obtain ⟨H,bs,g⟩:=h
 refine g.fz b o ?_
 rw [g.old b (Array.getElem?_eq_some_iff.1 hb).1];exact hb
theorem Zyt {T:TypeId} {α:Type} {cd:Cod α} {xs:List α} (h:St w0 w (.ow cd T v xs::rest)) (hx:xs≠[]) :
  ∃ b,OwAt w cd T v xs b∧∀ w':World,w'.heap.size=w.heap.size→w'.os=w.os→w'.tape=w.tape→w'.output=w.output→(∀ k,k≠b→w'.heap[k]?=w.heap[k]?)→St w0 w' rest:=by
 obtain ⟨H,bs,g⟩:=h
 rcases g.sat with ⟨_,h0,_⟩|⟨b,bs',rfl,hb,hr⟩
 ·exact absurd h0 hx
 ·refine ⟨b,hb,fun w' hs ho ht hu hk=>?_⟩
  have hap:=g.ap b (List.mem_cons_self ..)
  refine ⟨H,bs',by rw [hs];exact g.size,by rw [ho];exact g.os,by rw [ht];exact g.tape,by rw [hu];exact g.output,fun k o hko=>?_,g.old,Sat.move (FH.le_refl H) hr fun k hkb=>hk k fun he=>?_,(List.nodup_cons.1 g.nd).2,fun k hkb=>g.ap k (List.mem_cons_of_mem _ hkb)⟩
  ·rw [hk k fun he=>by subst he;rw [hap] at hko;cases hko];exact g.fz k o hko
  ·subst he;exact (List.nodup_cons.1 g.nd).1 hkb
/-! the bytes of a slice become a string: the slice is not used any more -/
theorem Zzy {el:TypeId} (hc:P.cellsOf el=1) (count off n:Nat) (hn:off+n≤count):liesAt P P.depth el count off el n=true:=by
 have hd:P.depth=(2 * (P.types.size+Made.depth)+1)+1:=rfl
 rw [hd]
 simp only [liesAt,Bool.or_eq_true]
 left
 rw [hd]
 simp [rowAt,hc,hn,sameLayout]
 exact .inl (Nat.mod_one _)
theorem Zrz {xs:List UInt8} {el:TypeId} [ht:TakeW As v cU8 el xs rest] (hx:ev e x=some v) (h0:xs≠[]):ExF P N w0 (.call ⟨.builtin .unsafeSliceData,#[x],tys⟩) ty e As (.pointer (some (elp 1 v 0 0))):=by
 unfold ExF
 intro a w ha hs d pos af g
 have hs':=Ents.perm ht.perm w0 w hs
 obtain ⟨b,⟨off,cap,front,rs,rfl,h2,h3,h4,h5⟩,_⟩:=Zyt hs' h0
 have hc:cap≠0:=by
  have:=List.length_pos_iff.2 h0
  omega
 have h:=Lib.run_unsafeSliceData_row (P:=P) w tys ty ⟨b,off,none⟩ xs.length cap hc
 simp [execOp,ha.eval hx,resolve,invoke,builtin,h,Zq3]
theorem ExR.unsafeString {xs:List UInt8} {el pt it:TypeId} [UL P pt (.pointer el)] [ht:TakeW As v cU8 el xs rest] (hx:ev e x=some (.pointer (some (elp 1 v 0 0)))) (hy:ev e y=some (.int .i64 (xs.length:Int))) (h0:xs≠[]) (hc:P.cellsOf el=1) (h63:xs.length≤9223372036854775807) :
  ExR P N w0 (.call ⟨.builtin .unsafeString,#[x,y],#[pt,it]⟩) ty e As (fun u As'=>u=.string ⟨xs.toArray⟩∧As'=rest):=by
 unfold ExR
 intro a w ha hs d pos af g
 have hs':=Ents.perm ht.perm w0 w hs
 obtain ⟨b,⟨off,cap,front,rs,rfl,h2,h3,h4,h5⟩,hgo⟩:=Zyt hs' h0
 have hl:xs.length≠0:=by simpa using h0
 have hfl:=Zaf cU8 xs
 have hcell:∀ (j:Nat) (c:UInt8),xs[j]?=some c→w.cell? ((⟨b,off,none⟩:Addr).add j)=some (.int .u8 c.toNat):=fun j c hj=>by
  have hjl:=(List.getElem?_eq_some_iff.1 hj).1
  rw [Zal]
  simp only [World.cell?,h5,Zx7]
  subst h2
  simp [List.getElem?_append,hjl,(List.getElem?_eq_some_iff.1 hj).2]
 have hlb:=Lib.run_loadBytes (P:=P) w xs ⟨b,off,none⟩ .empty hcell
 have hn1:cU8.n=1:=rfl
 have hsz:off+xs.length≤(front++cU8.flat xs++rs).length:=by
  simp only [List.length_append,hfl,hn1,h2];omega
 have hlies:=Zzy (P:=P) hc ((front++cU8.flat xs++rs).length / P.cellsOf el) off xs.length (by rw [hc,Nat.div_one];exact hsz)
 have h63':¬ (9223372036854775807:Int) < (xs.length:Int):=by omega
 have hsh:w.shape? b=some (el,(front++cU8.flat xs++rs).length):=by simp [World.shape?,h5]
 generalize (front++cU8.flat xs++rs).length=cells at hsz hlies hsh
 have hdef:Builtin.unsafeString_ #[pt,it] ty #[.pointer (some ⟨b,off,none⟩),.int .i64 xs.length] =
   (do
    let n ← asInt (.int .i64 xs.length)
    if n < 0 then runtimePanic (.error "unsafe.String: len out of range")
    if n > IntKind.i64.max then unsupported (.unsafePointer "String: a length above the largest int")
    if n=0 then pure (.string .empty)
    else if ← variablesAt ⟨b,off,none⟩ (← elemOf pt) n.toNat then do
     let s ← loadBytes ⟨b,off,none⟩ .empty n.toNat
     freeze ⟨b,off,none⟩ n.toNat
     pure (.string s)
    else unsupported (.unsafePointer "String: not so many bytes at ptr")) := rfl
 have hmax:IntKind.i64.max=9223372036854775807:=rfl
 have hneg:¬ (xs.length:Int) < 0:=by omega
 have hrun:(Builtin.unsafeString_ #[pt,it] ty #[.pointer (some ⟨b,off,none⟩),.int .i64 xs.length]).run P w=.ok (.string ⟨xs.toArray⟩) (w.freeze ⟨b,off,none⟩ xs.length):=by
  rw [hdef]
  simp [asInt,asIntOf,hmax,h63',hneg,hl,variablesAt,hsh,elemOf,Zar,hlies,hlb]
  try rfl
 refine ⟨.string ⟨xs.toArray⟩,w.freeze ⟨b,off,none⟩ xs.length,rest,?_,⟨rfl,rfl⟩,hgo _ ?_ ?_ ?_ ?_ ?_⟩
 ·rw [Zq3] at hx
  have e0:off+0 * 1+0=off:=by omega
  rw [e0] at hx
  simp [execOp,ha.eval hx,ha.eval hy,resolve,invoke,builtin,hrun]
 ·unfold World.freeze;split<;>simp
 ·unfold World.freeze;split<;>rfl
 ·unfold World.freeze;split<;>rfl
 ·unfold World.freeze;split<;>rfl
 ·intro k hk
  unfold World.freeze
  split
  ·rfl
  ·simp only [Array.getElem?_modify]
   rw [if_neg (by omega)]
end
end Go.Sx
