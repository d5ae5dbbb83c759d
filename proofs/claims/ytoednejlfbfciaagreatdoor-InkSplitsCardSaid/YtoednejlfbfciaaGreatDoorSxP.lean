/- The engine, part P: functions that panic, deferred calls, recover. -/
import Derived.Test.YtoednejlfbfciaaGreatDoorSxB
import Derived.RecoverIn
import Derived.Test.YtoednejlfbfciaaGreatDoorSx8
import Derived.Maps.RangeRun
set_option maxHeartbeats 1000000
namespace Go.Sx
open Go
abbrev thrown (v:Value):List PanicEntry:=[{ v:=v,recovered:=false }]
section
variable {P:Program} {N:Ctx} {w0:World} {e:Env} {As As' rest:List Ent} {Q:Exit→Act→World→Prop} {ty:TypeId} {ops:Array Oper} {o:Oper} {r:List Oper} {op:Op} {pos:String} {af:Array Edge} {g:Option (Nat × Bool)} {d:Nat} {x:Operand}
def CallsE (P:Program) (w0:World) (f:FuncId) (args:List Value) (As:List Ent) (K K2:Value→List Ent→Prop):Prop :=
 ∀ w,St w0 w As→Calls P f args.toArray w fun en w'=>∃ v As',(en=.returned v∧K v As'∨en=.panicked (thrown v)∧K2 v As')∧St w0 w' As'
def CallsP (P:Program) (w0:World) (f:FuncId) (args:List Value) (As:List Ent) (K2:Value→List Ent→Prop):Prop:=CallsE P w0 f args As (fun _ _=>False) K2
theorem CallsE.mono {f:FuncId} {args:List Value} {K K' K2 K2':Value→List Ent→Prop} (h:CallsE P w0 f args As K K2) (k:∀ v As',K v As'→K' v As') (k2:∀ v As',K2 v As'→K2' v As'):CallsE P w0 f args As K' K2' :=
 fun w hs=>(h w hs).mono fun _ _ ⟨v,As',h1,h3⟩=>⟨v,As',h1.imp (fun h=>⟨h.1,k _ _ h.2⟩) (fun h=>⟨h.1,k2 _ _ h.2⟩),h3⟩

/-! values in interfaces -/
theorem Zay {t el:TypeId} {n m b' hi b off:Nat} {zv:Value} {h:Option Operand} [UL P t (.array n el)] [TI P el zv m b'] (hx:ev e x=some (.pointer (some ⟨b,off,none⟩))) (hh:evHi e n h hi) (h2:hi≤n) (h0:n≠0) :
  ExF P N w0 (.slice t x none h none) ty e As (.slice (some ⟨b,off,none⟩) hi n):=by
 unfold ExF
 intro a w ha hs d pos af g
 have hz:(⟨b,off,none⟩:Addr).add 0=⟨b,off,none⟩:=by rw [Zah,Nat.add_zero]
 have key:∀ h':Option Value,((h'=none∧hi=n)∨∃ k,h'=some (.int k (hi:Int)))→(Instr.sliceAt t (.pointer (some ⟨b,off,none⟩)) none h' none).run P w=.ok (.slice (some ⟨b,off,none⟩) hi n) w:=by
  intro h' hh'
  rcases hh' with ⟨rfl,rfl⟩|⟨k,rfl⟩
  ·simp [Instr.sliceAt,Instr.sliceBounds,Zan,Za4,Instr.sureAddr,hz]
  ·simp [Instr.sliceAt,Instr.sliceBounds,Instr.sliceBound,asIntOf,Zan,Za4,Instr.sureAddr,hz,h2]
 simp [execOp,ha.eval hx,key _ (hh.run ha)]
/-! calls of such functions -/
theorem TL.callEK {f:FuncId} {args:List Value} (K K2:Value→List Ent→Prop) (hg:gOk ops e o.guard=some true) (hd:o.dst=some d) (hN:Nat.blt d N.N=true)
  (hx:∀ a w,OkA N a e→(execOp a.eval o).run P w=.ok (.enter f args.toArray) w) (hc:CallsE P w0 f args As K K2)
  (h2:∀ v As',K2 v As'→Post N w0 Q (.panic (thrown v)) e As') (h:∀ v As',K v As'→TL P N w0 ops r ((d,v)::e) As' Q):TL P N w0 ops (o::r) e As Q:=by
 refine Zc2 fun a w ha hs K' hK=>?_
 rw [gOk.wanted ha hg,if_pos rfl]
 rw [Za6 (hx a w ha) (by intro d;simp),hx a w ha]
 refine ⟨fun h=>(by cases h),Zc1 ((hc w hs).mono fun en w' ⟨v,As',hh,h3⟩=>?_)⟩
 rcases hh with ⟨h1,hk⟩|⟨h1,hk⟩
 ·subst h1
  simp only [hd]
  exact hK _ _ _ _ (h v As' hk) (ha.put hN v) h3
 ·subst h1
  exact (h2 v As' hk).out a w' ha h3
section
variable {f:FuncId} {xs:Array Operand} {vs fst cap:List Value} {tys:Array TypeId} {K K2:Value→List Ent→Prop}
theorem T1.callEK {i:Nat} {t:Tree} {Rs:RsP} {args:List Value} (ho:ops[i]?=some o) (hg:gOk ops e o.guard=some true) (hd:o.dst=some d) (hN:Nat.blt d N.N=true)
  (hx:∀ a w,OkA N a e→(execOp a.eval o).run P w=.ok (.enter f args.toArray) w) (hc:CallsE P w0 f args As K K2)
  (h2:∀ v As',K2 v As'→Post N w0 Q (.panic (thrown v)) e As') (h:∀ v As',K v As'→TC P N w0 ops Rs i t ((d,v)::e) As' Q):T1 P N w0 ops Rs i t e As Q:=by
 unfold T1
 intro hsel fuel listed hdp hok a w ha hs
 unfold wpOpIn
 simp only [ho]
 rw [gOk.wanted ha hg,if_pos rfl]
 refine ⟨fun _ _=>trivial,?_⟩
 show Oper.uponIn (fen N.ro) 0 P _ a _ Q ((Oper.semAt N.ro a.eval _).run P w)
 rw [Za6 (hx a w ha) (by intro d;simp),hx a w ha]
 refine ⟨fun h=>(by cases h),Zc1 ((hc w hs).mono fun en w' ⟨v,As',hh,h3⟩=>?_)⟩
 rcases hh with ⟨h1,hk⟩|⟨h1,hk⟩
 ·subst h1
  simp only [hd]
  exact (h v As' hk).out hsel hdp hok (ha.put hN v) h3
 ·subst h1
  exact (h2 v As' hk).out a w' ha h3
end
theorem Zui {v:Value} (hg:gOk ops e o.guard=some true) (hn:∀ c,o.op≠.defer c) (hx:∀ a w,OkA N a e→(execOp a.eval o).run P w=.halt (.panic v) w) (h:Post N w0 Q (.panic (thrown v)) e As):TL P N w0 ops (o::r) e As Q:=by
 refine Zc2 fun a w ha hs K' hK=>?_
 rw [gOk.wanted ha hg,if_pos rfl,Oper.semAt_eq N.ro a.eval o fun c hc=>absurd hc (hn c),hx a w ha]
 exact h.out a w ha hs
theorem TL.panic {t:TypeId} {z:Value} (hg:gOk ops e g=some true) (hx:ev e x=some (.iface t z)) (h:Post N w0 Q (.panic (thrown (.iface t z))) e As):TL P N w0 ops (⟨none,.panic x,ty,pos,af,g⟩::r) e As Q :=
 Zui hg (by intro c h;cases h) (fun a w ha=>by simp only [execOp,ha.eval hx];rfl) h
theorem Zuk {n:Nat} {ds:List Deferred} {D:Deferred} (hg:gOk ops e o.guard=some true) (hd:o.dst=none) (hx:∀ a w,OkA ⟨n,none,ds⟩ a e→(execOp a.eval o).run P w=.ok (.defer D) w)
  (h:TL P ⟨n,none,D::ds⟩ w0 ops r e As Q):TL P ⟨n,none,ds⟩ w0 ops (o::r) e As Q:=by
 refine TL.mk fun i hi a w ha hs=>?_
 obtain ⟨ho,hr⟩:=Zeu hi
 rw [List.length_cons,List.range'_succ]
 simp only [wpOpsIn,ho]
 rw [gOk.wanted ha hg,if_pos rfl]
 refine ⟨fun _ _=>trivial,?_⟩
 show Oper.uponIn (fen none) 0 P o a _ Q ((Oper.semAt none a.eval o).run P w)
 rw [Oper.semAt_none,hx a w ha,Oper.uponIn_defer]
 have:=h.out (i+1) hr { a with defers:=D::a.defers } w ⟨by simp only;rw [ha.defers],ha.size,ha.holds⟩ hs
 rw [hd]
 exact this
theorem TL.defer {n:Nat} {ds:List Deferred} {f:FuncId} {xs:Array Operand} {vs fst cap:List Value} {tys:Array TypeId} (hg:gOk ops e g=some true) (hx:ev e x=some (.func (.func f) fst.toArray cap.toArray)) (hxs:evs e xs.toList=some vs)
  (h:TL P ⟨n,none,{ target:=.fn (.func f) cap.toArray,args:=(fst++vs).toArray }::ds⟩ w0 ops r e As Q):TL P ⟨n,none,ds⟩ w0 ops (⟨none,.defer ⟨.value x,xs,tys⟩,ty,pos,af,g⟩::r) e As Q:=by
 refine Zuk hg rfl (fun a w ha=>?_) h
 have h1:xs.map a.eval=vs.toArray:=by
  apply Array.toList_inj.1
  rw [Array.toList_map,ha.evals hxs]
 simp only [execOp,resolve,ha.eval hx,Deferred.ofValue]
 simp only [Sem.run_bind,Sem.run_pure,Result.andThen_ok]
 simp [h1]

/-! a function that may panic -/
theorem Zck {F:Fence} {n:Nat} {fn:Func} {tmps:Array Value} {R R':Ending→World→Prop} (h:∀ en w,R en w→R' en w):∀ (ds:List Deferred) (u:FrameMode) (w:World),LeavesInM F n P fn tmps R ds u w→LeavesInM F n P fn tmps R' ds u w
 | [],.run,_,hl=>hl
 | [],.returning,_,⟨v,h1,h2⟩=>⟨v,h1,h _ _ h2⟩
 | [],.panicking _,w,hl=>h _ w hl
 | d :: ds,u,w,hl=>by
  obtain ⟨hr,hl⟩:=hl
  refine ⟨hr,?_⟩
  rcases hl with ⟨r,w',h1,h2,h3⟩|⟨hn,fv,cap,f,args,h1,h2,h3,h4⟩
  ·exact .inl ⟨r,w',h1,h2,Zck h ds u w' h3⟩
  ·refine .inr ⟨hn,fv,cap,f,args,h1,h2,h3,h4.mono fun en u' w' hk=>?_⟩
   cases en with
   | returned v=>exact Zck h ds _ _ hk
   | panicked ch=>exact Zck h ds _ _ hk
   | outgrown=>exact h _ _ hk
def FQE (P:Program) (w0:World) (fn:Func) (K K2:Value→List Ent→Prop):Exit→Act→World→Prop
 | .panic ch,a,w=>a.defers=[]∧∃ v As',ch=thrown v∧K2 v As'∧St w0 w As'
 | .normal,a,w=>FQ P w0 fn K .normal a w
 | .ret,a,w=>FQ P w0 fn K .ret a w
 | _,_,_=>False
theorem Zke {n:Nat} {fn:Func} {args:List Value} (hN:fn.ntmps=n) (hle:Nat.ble args.length n=true):OkA ⟨n,none,[]⟩ { tmps:=args.toArray++Array.replicate (fn.ntmps - args.toArray.size) undef,defers:=[] } (env0 0 args):=by
 refine ⟨rfl,?_,?_⟩
 ·have:=Nat.le_of_ble_eq_true hle
  simp [hN];omega
 ·intro k v hk
  obtain ⟨_,h2⟩:=Zk1 args 0 k v hk
  simp only [Nat.sub_zero] at h2
  have hl:k < args.length:=(List.getElem?_eq_some_iff.1 h2).1
  rw [Array.getElem?_append_left (by simpa using hl)]
  simpa using h2
theorem Zlr {n:Nat} {f:FuncId} {fn:Func} {c:Code} {args:List Value} {K K2:Value→List Ent→Prop} (hf:P.funcs[f]?=some fn) (hb:fn.body=some c) (hN:fn.ntmps=n) (hle:Nat.ble args.length n=true)
  (h:Tri P ⟨n,none,[]⟩ w0 c (env0 0 args) As (FQE P w0 fn K K2)):CallsE P w0 f args As K K2:=by
 intro w hs
 refine callsIn_wide.1 (callsIn_of_wp_marks (F:=fen none) (n:=0) hf hb trivial (wpIn_mono (h.out _ w (Zke hN hle) hs) ?_) rfl)
 intro ex a w hq
 cases ex with
 | panic ch =>
  obtain ⟨hd,v,As',rfl,hk,hs⟩:=hq
  show LeavesInM (fen none) 0 P fn a.tmps _ a.defers (.panicking (thrown v)) w
  rw [hd]
  exact ⟨v,As',.inr ⟨rfl,hk⟩,hs⟩
 | normal=>exact Zck (fun en w ⟨v,As',h1,h2,h3⟩=>⟨v,As',.inl ⟨h1,h2⟩,h3⟩) _ _ _ hq
 | ret=>exact Zck (fun en w ⟨v,As',h1,h2,h3⟩=>⟨v,As',.inl ⟨h1,h2⟩,h3⟩) _ _ _ hq
 | exit id=>exact hq.elim
 | goto l=>exact hq.elim
 | outgrown=>exact hq.elim
theorem Zxh {n:Nat} {f:FuncId} {fn:Func} {c:Code} {args:List Value} {K2:Value→List Ent→Prop} (hf:P.funcs[f]?=some fn) (hb:fn.body=some c) (hN:fn.ntmps=n) (hle:Nat.ble args.length n=true)
  (h:Tri P ⟨n,none,[]⟩ w0 c (env0 0 args) As (FQE P w0 fn (fun _ _=>False) K2)):CallsP P w0 f args As K2:=Zlr hf hb hN hle h
section
variable {fn:Func} {K K2:Value→List Ent→Prop}
instance:PanicOk (FQE P w0 fn K K2):=⟨fun _ _ d _ _ ⟨h1,h2⟩=>⟨by cases d<;>exact h1,h2⟩⟩
theorem Ziw {KK:Act→World→Prop} {ch:List PanicEntry} (h:Post N w0 Q (.panic ch) e As):Post N w0 (Exit.then KK Q) (.panic ch) e As:=Post.mk h.out
theorem Zhe {id:Nat} {ch:List PanicEntry} (h:Post N w0 Q (.panic ch) e As):Post N w0 (Exit.inBlock id Q) (.panic ch) e As:=Post.mk h.out
theorem Zlj {ch:List PanicEntry} (h:Post N w0 Q (.panic ch) e As):Post N w0 (Exit.noGoto Q) (.panic ch) e As:=Post.mk h.out
instance {KK:Act→World→Prop} {ch:List PanicEntry}:Stp (Post N w0 (Exit.then KK Q) (.panic ch) e As) (Post N w0 Q (.panic ch) e As):=⟨Ziw⟩
instance {id:Nat} {ch:List PanicEntry}:Stp (Post N w0 (Exit.inBlock id Q) (.panic ch) e As) (Post N w0 Q (.panic ch) e As):=⟨Zhe⟩
instance {ch:List PanicEntry}:Stp (Post N w0 (Exit.noGoto Q) (.panic ch) e As) (Post N w0 Q (.panic ch) e As):=⟨Zlj⟩
end

/-! a function that defers -/
def DefS (P:Program) (w0:World) (f:FuncId) (args:List Value) (As:List Ent) (u:FrameMode) (K:FrameMode→List Ent→Prop):Prop :=
 ∀ w,St w0 w As→CallsDIn (fen none) 0 P f args.toArray u w fun en u' w'=>∃ As',en=.returned (.tuple #[])∧K u' As'∧St w0 w' As'
theorem DefS.mono {f:FuncId} {args:List Value} {u:FrameMode} {K K':FrameMode→List Ent→Prop} (h:DefS P w0 f args As u K) (k:∀ u' A,K u' A→K' u' A):DefS P w0 f args As u K' :=
 fun w hs=>(h w hs).mono fun _ _ _ ⟨A,h1,h2,h3⟩=>⟨A,h1,k _ _ h2,h3⟩
def Res (P:Program) (N:Ctx) (w0:World) (fn:Func) (e:Env) (As:List Ent) (v:Value):Prop:=∀ a w,OkA N a e→St w0 w As→(results fn a.tmps).run P w=.ok v w
section
variable {fn:Func} {K:Value→List Ent→Prop} {rv rv' rv'':ResultVar} {v u u':Value}
theorem Res.r0 (hf:fn.results=#[]:=by exact rfl):Res P N w0 fn e As (.tuple #[]):=fun a w _ _=>by simp [Zbq,hf]
theorem Z24 (hf:fn.results=#[rv]:=by exact rfl) (hr:RV P N w0 e As rv v:=by exact Zco):Res P N w0 fn e As v:=fun a w ha hs=>by
 rw [Zbq,hf];simp [hr a w ha hs]
theorem Z23 (hf:fn.results=#[rv,rv']:=by exact rfl) (hr:RV P N w0 e As rv v:=by exact Zco) (hr':RV P N w0 e As rv' u:=by exact Zco):Res P N w0 fn e As (.tuple #[v,u]):=fun a w ha hs=>by
 rw [Zbq,hf];simp [hr a w ha hs,hr' a w ha hs]
theorem Z22 (hf:fn.results=#[rv,rv',rv'']:=by exact rfl) (hr:RV P N w0 e As rv v:=by exact Zco) (hr':RV P N w0 e As rv' u:=by exact Zco) (hr'':RV P N w0 e As rv'' u':=by exact Zco):Res P N w0 fn e As (.tuple #[v,u,u']):=fun a w ha hs=>by
 rw [Zbq,hf];simp [hr a w ha hs,hr' a w ha hs,hr'' a w ha hs]
end

/-! a deferred function that calls recover first -/
def FQ2 (P:Program) (w0:World) (fn:Func) (K:List Ent→Prop):Exit→Act→World→Prop
 | .normal,a,w=>a.defers=[]∧∃ A,(results fn a.tmps).run P w=.ok (.tuple #[]) w∧K A∧St w0 w A
 | .ret,a,w=>a.defers=[]∧∃ A,(results fn a.tmps).run P w=.ok (.tuple #[]) w∧K A∧St w0 w A
 | _,_,_=>False
instance {fn:Func} {K:List Ent→Prop}:PanicOk (FQ2 P w0 fn K):=⟨fun _ _ _ _ _ h=>h⟩
def TLS (P:Program) (n:Nat) (w0:World) (ops:Array Oper) (l:List Oper) (e:Env) (As:List Ent) (Q:Exit→Act→List Frame→World→Prop) (cs:List Frame):Prop :=
 ∀ i,ops.toList.drop i=l→∀ a w,OkA ⟨n,none,[]⟩ a e→St w0 w As→wpOpsSIn (fen none) 0 P ops Q (List.range' i l.length) a cs w
section
variable {n:Nat} {QS:Exit→Act→List Frame→World→Prop} {cs:List Frame}
theorem TLS.f {v:Value} (h:TLS P n w0 ops r ((d,v)::e) As QS cs) (hg:gOk ops e g=some true:=by exact rfl) (hN:Nat.blt d n=true:=by exact rfl) (hx:ExF P ⟨n,none,[]⟩ w0 op ty e As v:=by exact Zgf):TLS P n w0 ops (⟨some d,op,ty,pos,af,g⟩::r) e As QS cs:=by
 intro i hi a w ha hs
 obtain ⟨ho,hr⟩:=Zeu hi
 rw [List.length_cons,List.range'_succ]
 simp only [wpOpsSIn,ho]
 refine ⟨fun _ _=>trivial,?_⟩
 rw [gOk.wanted (o:=⟨some d,op,ty,pos,af,g⟩) ha hg,if_pos rfl]
 unfold ExF at hx
 rw [hx a w ha hs _ _ _ _]
 exact h (i+1) hr _ w (ha.put hN v) hs
theorem TLS.off (h:TLS P n w0 ops r ((d,undef)::e) As QS cs) (hg:gOk ops e g=some false:=by exact rfl) (hN:Nat.blt d n=true:=by exact rfl):TLS P n w0 ops (⟨some d,op,ty,pos,af,g⟩::r) e As QS cs:=by
 intro i hi a w ha hs
 obtain ⟨ho,hr⟩:=Zeu hi
 rw [List.length_cons,List.range'_succ]
 simp only [wpOpsSIn,ho]
 refine ⟨fun _ _=>trivial,?_⟩
 rw [gOk.wanted (o:=⟨some d,op,ty,pos,af,g⟩) ha hg,if_neg (by decide)]
 exact h (i+1) hr _ w (ha.put hN undef) hs
end
def DQ (P:Program) (w0:World) (fn:Func) (c0:Frame) (cs:List Frame) (K:FrameMode→List Ent→Prop):Exit→Act→List Frame→World→Prop :=
 bodyPostS P fn c0 cs fun en u' w'=>∃ A,en=.returned (.tuple #[])∧K u' A∧St w0 w' A
section
variable {n:Nat} {f:FuncId} {fn:Func} {args:List Value} {u u':FrameMode} {K:FrameMode→List Ent→Prop} {id:Nat} {c2:Code} {l:List Oper} {rv:Value}
theorem TLS.nil {c0:Frame} {cs:List Frame} (h:Tri P ⟨n,none,[]⟩ w0 c2 e As (FQ2 P w0 fn (K u'))) :
  TLS P n w0 ops [] e As (Exit.thenS (c2.wpSIn (fen none) 0 P (DQ P w0 fn c0 cs K)) (DQ P w0 fn c0 cs K)) ({ c0 with mode:=u' }::cs):=by
 intro i _ a w ha hs
 show c2.wpSIn (fen none) 0 P (DQ P w0 fn c0 cs K) a _ w
 refine wpSIn_of_wpIn rfl (wpIn_mono (h.out a w ha hs) ?_)
 intro ex a' w' hq
 cases ex with
 | normal=>obtain ⟨h1,A,h2,h3,h4⟩:=hq;exact ⟨h1,u',rfl,_,h2,A,rfl,h3,h4⟩
 | ret=>obtain ⟨h1,A,h2,h3,h4⟩:=hq;exact ⟨h1,u',rfl,_,h2,A,rfl,h3,h4⟩
 | exit id=>exact hq.elim
 | goto l=>exact hq.elim
 | panic ch=>exact hq.elim
 | outgrown=>exact hq.elim
end
end
end Go.Sx
namespace Go.Sx
open Go
set_option linter.unusedSectionVars false
section
variable {κ ν:Type} [DecidableEq κ] {P:Program} {N:Ctx} {w0:World} {e:Env} {As rest:List Ent} {ty:TypeId} {x:Operand} {ck:κ→Value} {cv:ν→Value}
end
end Go.Sx
