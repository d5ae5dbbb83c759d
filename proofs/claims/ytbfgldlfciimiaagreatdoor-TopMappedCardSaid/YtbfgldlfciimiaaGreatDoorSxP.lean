/- The engine, part P: functions that panic, deferred calls, recover. -/
import Derived.Test.YtbfgldlfciimiaaGreatDoorSxB
import Derived.RecoverIn
import Derived.Test.YtbfgldlfciimiaaGreatDoorSx8
import Derived.Maps.RangeRun
import Derived.Test.YtbfgldlfciimiaaGreatDoorSx9
import Derived.Laws.RangeAny
import Derived.Test.YtbfgldlfciimiaaGreatDoorSxA
import Derived.Test.YtbfgldlfciimiaaGreatDoorPl
set_option maxHeartbeats 1000000
namespace Go.Sx
open Go
abbrev thrown (v:Value):List PanicEntry:=[{ v:=v,recovered:=false }]
abbrev caught (v:Value):List PanicEntry:=[{ v:=v,recovered:=true }]
section
variable {P:Program} {N:Ctx} {w0:World} {e:Env} {As As' rest:List Ent} {Q:Exit→Act→World→Prop} {ty:TypeId} {ops:Array Oper} {o:Oper} {r:List Oper} {op:Op} {pos:String} {af:Array Edge} {g:Option (Nat × Bool)} {d:Nat} {x:Operand}
def CallsE (P:Program) (w0:World) (f:FuncId) (args:List Value) (As:List Ent) (K K2:Value→List Ent→Prop):Prop :=
 ∀ w,St w0 w As→Calls P f args.toArray w fun en w'=>∃ v As',(en=.returned v∧K v As'∨en=.panicked (thrown v)∧K2 v As')∧St w0 w' As'
def CallsP (P:Program) (w0:World) (f:FuncId) (args:List Value) (As:List Ent) (K2:Value→List Ent→Prop):Prop:=CallsE P w0 f args As (fun _ _=>False) K2
theorem CallsE.mono {f:FuncId} {args:List Value} {K K' K2 K2':Value→List Ent→Prop} (h:CallsE P w0 f args As K K2) (k:∀ v As',K v As'→K' v As') (k2:∀ v As',K2 v As'→K2' v As'):CallsE P w0 f args As K' K2' :=
 fun w hs=>(h w hs).mono fun _ _ ⟨v,As',h1,h3⟩=>⟨v,As',h1.imp (fun h=>⟨h.1,k _ _ h.2⟩) (fun h=>⟨h.1,k2 _ _ h.2⟩),h3⟩

/-! values in interfaces -/
def ifaceB:TypeDesc→Bool
 | .interface _=>true
 | _=>false
theorem Ze4 {t:TypeId} {dd:TypeDesc} {v:Value} [UL P t dd] (hd:ifaceB dd=false) (hx:ev e x=some v):ExF P N w0 (.makeInterface t x) ty e As (.iface t v):=by
 unfold ExF
 intro a w ha hs d pos af g
 simp only [execOp,ha.eval hx,Instr.makeInterface,Sem.run_bind,Zar,Result.andThen_ok]
 cases dd<;>first|rfl|cases hd
theorem Zea {t t0:TypeId} {dd:TypeDesc} {v:Value} [UL P t dd] (hd:ifaceB dd=false) (hx:ev e x=some (.iface t v)):ExF P N w0 (.typeAssert x t0 t true) ty e As (.tuple #[v,.bool true]):=by
 unfold ExF
 intro a w ha hs d pos af g
 simp only [execOp,ha.eval hx,Instr.typeAssert,Sem.run_bind,Zar,Result.andThen_ok]
 match dd,hd with
 | .interface _,hd=>cases hd
 | .invalid,_|.bool,_|.string,_|.unsafePointer,_|.int _,_|.float _,_|.complex _,_|.pointer _,_|.slice _,_|.array _ _,_|.map _ _,_|.chan _ _,_|.struct _,_|.func ..,_|.tuple _,_|.named _ _,_=>simp
theorem ExU.insert {t:TypeId} {y z:Operand} (h:ExU P N w0 (.mapUpdate t x y z) ty e As As'):ExU P N w0 (.insert t x y z) ty e As As':=by
 unfold ExU at h ⊢
 exact h
theorem Zuc {t el:TypeId} {n m b' hi b off:Nat} {zv:Value} {h:Option Operand} [UL P t (.array n el)] [TI P el zv m b'] (hx:ev e x=some (.pointer (some ⟨b,off,none⟩))) (hh:evHi e n h hi) (h2:hi≤n) (h0:n≠0) :
  ExF P N w0 (.slice t x none h none) ty e As (.slice (some ⟨b,off,none⟩) hi n):=by
 unfold ExF
 intro a w ha hs d pos af g
 have hz:(⟨b,off,none⟩:Addr).add 0=⟨b,off,none⟩:=by rw [Zal,Nat.add_zero]
 have key:∀ h':Option Value,((h'=none∧hi=n)∨∃ k,h'=some (.int k (hi:Int)))→(Instr.sliceAt t (.pointer (some ⟨b,off,none⟩)) none h' none).run P w=.ok (.slice (some ⟨b,off,none⟩) hi n) w:=by
  intro h' hh'
  rcases hh' with ⟨rfl,rfl⟩|⟨k,rfl⟩
  ·simp [Instr.sliceAt,Instr.sliceBounds,Zar,Za9,Instr.sureAddr,hz]
  ·simp [Instr.sliceAt,Instr.sliceBounds,Instr.sliceBound,asIntOf,Zar,Za9,Instr.sureAddr,hz,h2]
 simp [execOp,ha.eval hx,key _ (hh.run ha)]
/-! calls of such functions -/
theorem TL.callEK {f:FuncId} {args:List Value} (K K2:Value→List Ent→Prop) (hg:gOk ops e o.guard=some true) (hd:o.dst=some d) (hN:Nat.blt d N.N=true)
  (hx:∀ a w,OkA N a e→(execOp a.eval o).run P w=.ok (.enter f args.toArray) w) (hc:CallsE P w0 f args As K K2)
  (h2:∀ v As',K2 v As'→Post N w0 Q (.panic (thrown v)) e As') (h:∀ v As',K v As'→TL P N w0 ops r ((d,v)::e) As' Q):TL P N w0 ops (o::r) e As Q:=by
 refine Zez fun a w ha hs K' hK=>?_
 rw [gOk.wanted ha hg,if_pos rfl]
 rw [Zbv (hx a w ha) (by intro d;simp),hx a w ha]
 refine ⟨fun h=>(by cases h),Zew ((hc w hs).mono fun en w' ⟨v,As',hh,h3⟩=>?_)⟩
 rcases hh with ⟨h1,hk⟩|⟨h1,hk⟩
 ·subst h1
  simp only [hd]
  exact hK _ _ _ _ (h v As' hk) (ha.put hN v) h3
 ·subst h1
  exact (h2 v As' hk).out a w' ha h3
section
variable {f:FuncId} {xs:Array Operand} {vs fst cap:List Value} {tys:Array TypeId} {K K2:Value→List Ent→Prop}
theorem TL.callE [Body P f] (hg:gOk ops e g=some true) (hN:Nat.blt d N.N=true) (hxs:evs e xs.toList=some vs) (hc:CallsE P w0 f vs As K K2)
  (h2:∀ v As',K2 v As'→Post N w0 Q (.panic (thrown v)) e As') (h:∀ v As',K v As'→TL P N w0 ops r ((d,v)::e) As' Q) :
  TL P N w0 ops ({ dst:=some d,op:=.call { callee:=.value (.func f),args:=xs,argTypes:=tys },type:=ty,pos:=pos,after:=af,guard:=g }::r) e As Q :=
 TL.callEK K K2 hg rfl hN (fun a w ha=>Zfu hxs a w ha) hc h2 h
theorem TL.callvE [Body P f] (hg:gOk ops e g=some true) (hN:Nat.blt d N.N=true) (hx:ev e x=some (.func (.func f) fst.toArray cap.toArray)) (hxs:evs e xs.toList=some vs) (hc:CallsE P w0 f (fst++(vs++cap)) As K K2)
  (h2:∀ v As',K2 v As'→Post N w0 Q (.panic (thrown v)) e As') (h:∀ v As',K v As'→TL P N w0 ops r ((d,v)::e) As' Q):TL P N w0 ops (⟨some d,.call ⟨.value x,xs,tys⟩,ty,pos,af,g⟩::r) e As Q :=
 TL.callEK K K2 hg rfl hN (fun a w ha=>Zhs hx hxs a w ha) hc h2 h
theorem TL.callP [Body P f] (hg:gOk ops e g=some true) (hN:Nat.blt d N.N=true) (hxs:evs e xs.toList=some vs) (hc:CallsP P w0 f vs As K2)
  (h2:∀ v As',K2 v As'→Post N w0 Q (.panic (thrown v)) e As') :
  TL P N w0 ops ({ dst:=some d,op:=.call { callee:=.value (.func f),args:=xs,argTypes:=tys },type:=ty,pos:=pos,after:=af,guard:=g }::r) e As Q :=
 TL.callE hg hN hxs hc h2 (fun _ _ h=>h.elim)
theorem T1.callEK {i:Nat} {t:Tree} {Rs:RsP} {args:List Value} (ho:ops[i]?=some o) (hg:gOk ops e o.guard=some true) (hd:o.dst=some d) (hN:Nat.blt d N.N=true)
  (hx:∀ a w,OkA N a e→(execOp a.eval o).run P w=.ok (.enter f args.toArray) w) (hc:CallsE P w0 f args As K K2)
  (h2:∀ v As',K2 v As'→Post N w0 Q (.panic (thrown v)) e As') (h:∀ v As',K v As'→TC P N w0 ops Rs i t ((d,v)::e) As' Q):T1 P N w0 ops Rs i t e As Q:=by
 unfold T1
 intro hsel fuel listed hdp hok a w ha hs
 unfold wpOpIn
 simp only [ho]
 rw [gOk.wanted ha hg,if_pos rfl]
 refine ⟨fun _ _=>trivial,?_⟩
 show Oper.uponIn (fen N.ro) 0 P _ a _ Q ((Oper.semAt N.ro a.eval _).run P w)
 rw [Zbv (hx a w ha) (by intro d;simp),hx a w ha]
 refine ⟨fun h=>(by cases h),Zew ((hc w hs).mono fun en w' ⟨v,As',hh,h3⟩=>?_)⟩
 rcases hh with ⟨h1,hk⟩|⟨h1,hk⟩
 ·subst h1
  simp only [hd]
  exact (h v As' hk).out hsel hdp hok (ha.put hN v) h3
 ·subst h1
  exact (h2 v As' hk).out a w' ha h3
end
theorem Z40 {v:Value} (hg:gOk ops e o.guard=some true) (hn:∀ c,o.op≠.defer c) (hx:∀ a w,OkA N a e→(execOp a.eval o).run P w=.halt (.panic v) w) (h:Post N w0 Q (.panic (thrown v)) e As):TL P N w0 ops (o::r) e As Q:=by
 refine Zez fun a w ha hs K' hK=>?_
 rw [gOk.wanted ha hg,if_pos rfl,Oper.semAt_eq N.ro a.eval o fun c hc=>absurd hc (hn c),hx a w ha]
 exact h.out a w ha hs
theorem TL.panic {t:TypeId} {z:Value} (hg:gOk ops e g=some true) (hx:ev e x=some (.iface t z)) (h:Post N w0 Q (.panic (thrown (.iface t z))) e As):TL P N w0 ops (⟨none,.panic x,ty,pos,af,g⟩::r) e As Q :=
 Z40 hg (by intro c h;cases h) (fun a w ha=>by simp only [execOp,ha.eval hx];rfl) h
theorem Z42 {n:Nat} {ds:List Deferred} {D:Deferred} (hg:gOk ops e o.guard=some true) (hd:o.dst=none) (hx:∀ a w,OkA ⟨n,none,ds⟩ a e→(execOp a.eval o).run P w=.ok (.defer D) w)
  (h:TL P ⟨n,none,D::ds⟩ w0 ops r e As Q):TL P ⟨n,none,ds⟩ w0 ops (o::r) e As Q:=by
 refine TL.mk fun i hi a w ha hs=>?_
 obtain ⟨ho,hr⟩:=Zg5 hi
 rw [List.length_cons,List.range'_succ]
 simp only [wpOpsIn,ho]
 rw [gOk.wanted ha hg,if_pos rfl]
 refine ⟨fun _ _=>trivial,?_⟩
 show Oper.uponIn (fen none) 0 P o a _ Q ((Oper.semAt none a.eval o).run P w)
 rw [Oper.semAt_none,hx a w ha,Oper.uponIn_defer]
 have:=h.out (i+1) hr { a with defers:=D::a.defers } w ⟨by simp only;rw [ha.defers],ha.size,ha.holds⟩ hs
 rw [hd]
 exact this
theorem TL.defer {n:Nat} {ds:List Deferred} {f:FuncId} {xs:Array Operand} {vs fst cap:List Value} {tys:Array TypeId} (hg:gOk ops e g=some true) (hx:ev e x=some (.func (.func f) fst.toArray cap.toArray)) (hxs:evs e xs.toList=some vs)
  (h:TL P ⟨n,none,{ target:=.fn (.func f) cap.toArray,args:=(fst++vs).toArray }::ds⟩ w0 ops r e As Q):TL P ⟨n,none,ds⟩ w0 ops (⟨none,.defer ⟨.value x,xs,tys⟩,ty,pos,af,g⟩::r) e As Q:=by
 refine Z42 hg rfl (fun a w ha=>?_) h
 have h1:xs.map a.eval=vs.toArray:=by
  apply Array.toList_inj.1
  rw [Array.toList_map,ha.evals hxs]
 simp only [execOp,resolve,ha.eval hx,Deferred.ofValue]
 simp only [Sem.run_bind,Sem.run_pure,Result.andThen_ok]
 simp [h1]

/-! a function that may panic -/
theorem Zcl {F:Fence} {n:Nat} {fn:Func} {tmps:Array Value} {R R':Ending→World→Prop} (h:∀ en w,R en w→R' en w):∀ (ds:List Deferred) (u:FrameMode) (w:World),LeavesInM F n P fn tmps R ds u w→LeavesInM F n P fn tmps R' ds u w
 | [],.run,_,hl=>hl
 | [],.returning,_,⟨v,h1,h2⟩=>⟨v,h1,h _ _ h2⟩
 | [],.panicking _,w,hl=>h _ w hl
 | d :: ds,u,w,hl=>by
  obtain ⟨hr,hl⟩:=hl
  refine ⟨hr,?_⟩
  rcases hl with ⟨r,w',h1,h2,h3⟩|⟨hn,fv,cap,f,args,h1,h2,h3,h4⟩
  ·exact .inl ⟨r,w',h1,h2,Zcl h ds u w' h3⟩
  ·refine .inr ⟨hn,fv,cap,f,args,h1,h2,h3,h4.mono fun en u' w' hk=>?_⟩
   cases en with
   | returned v=>exact Zcl h ds _ _ hk
   | panicked ch=>exact Zcl h ds _ _ hk
   | outgrown=>exact h _ _ hk
def FQE (P:Program) (w0:World) (fn:Func) (K K2:Value→List Ent→Prop):Exit→Act→World→Prop
 | .panic ch,a,w=>a.defers=[]∧∃ v As',ch=thrown v∧K2 v As'∧St w0 w As'
 | .normal,a,w=>FQ P w0 fn K .normal a w
 | .ret,a,w=>FQ P w0 fn K .ret a w
 | _,_,_=>False
theorem Zk9 {n:Nat} {fn:Func} {args:List Value} (hN:fn.ntmps=n) (hle:Nat.ble args.length n=true):OkA ⟨n,none,[]⟩ { tmps:=args.toArray++Array.replicate (fn.ntmps - args.toArray.size) undef,defers:=[] } (env0 0 args):=by
 refine ⟨rfl,?_,?_⟩
 ·have:=Nat.le_of_ble_eq_true hle
  simp [hN];omega
 ·intro k v hk
  obtain ⟨_,h2⟩:=Zq2 args 0 k v hk
  simp only [Nat.sub_zero] at h2
  have hl:k < args.length:=(List.getElem?_eq_some_iff.1 h2).1
  rw [Array.getElem?_append_left (by simpa using hl)]
  simpa using h2
theorem Zct {n:Nat} {f:FuncId} {fn:Func} {c:Code} {args:List Value} {K K2:Value→List Ent→Prop} (hf:P.funcs[f]?=some fn) (hb:fn.body=some c) (hN:fn.ntmps=n) (hle:Nat.ble args.length n=true)
  (h:Tri P ⟨n,none,[]⟩ w0 c (env0 0 args) As (FQE P w0 fn K K2)):CallsE P w0 f args As K K2:=by
 intro w hs
 refine callsIn_wide.1 (callsIn_of_wp_marks (F:=fen none) (n:=0) hf hb trivial (wpIn_mono (h.out _ w (Zk9 hN hle) hs) ?_) rfl)
 intro ex a w hq
 cases ex with
 | panic ch =>
  obtain ⟨hd,v,As',rfl,hk,hs⟩:=hq
  show LeavesInM (fen none) 0 P fn a.tmps _ a.defers (.panicking (thrown v)) w
  rw [hd]
  exact ⟨v,As',.inr ⟨rfl,hk⟩,hs⟩
 | normal=>exact Zcl (fun en w ⟨v,As',h1,h2,h3⟩=>⟨v,As',.inl ⟨h1,h2⟩,h3⟩) _ _ _ hq
 | ret=>exact Zcl (fun en w ⟨v,As',h1,h2,h3⟩=>⟨v,As',.inl ⟨h1,h2⟩,h3⟩) _ _ _ hq
 | exit id=>exact hq.elim
 | goto l=>exact hq.elim
 | outgrown=>exact hq.elim
theorem Zec {n:Nat} {f:FuncId} {fn:Func} {c:Code} {args:List Value} {K2:Value→List Ent→Prop} (hf:P.funcs[f]?=some fn) (hb:fn.body=some c) (hN:fn.ntmps=n) (hle:Nat.ble args.length n=true)
  (h:Tri P ⟨n,none,[]⟩ w0 c (env0 0 args) As (FQE P w0 fn (fun _ _=>False) K2)):CallsP P w0 f args As K2:=Zct hf hb hN hle h
section
variable {fn:Func} {K K2:Value→List Ent→Prop}
instance:PanicOk (FQE P w0 fn K K2):=⟨fun _ _ d _ _ ⟨h1,h2⟩=>⟨by cases d<;>exact h1,h2⟩⟩
theorem Zcw (h:Post N w0 (FQ P w0 fn K) .ret e As):Post N w0 (FQE P w0 fn K K2) .ret e As:=Post.mk h.out
theorem Zay {v:Value} (hds:N.ds=[]) (hk:∃ As',K2 v As'∧Ents As As'):Post N w0 (FQE P w0 fn K K2) (.panic (thrown v)) e As:=Post.mk fun a w ha hs=>by
 obtain ⟨As',h1,h2⟩:=hk
 exact ⟨by rw [ha.defers,hds],v,As',rfl,h1,h2 w0 w hs⟩
theorem Znl {KK:Act→World→Prop} {ch:List PanicEntry} (h:Post N w0 Q (.panic ch) e As):Post N w0 (Exit.then KK Q) (.panic ch) e As:=Post.mk h.out
theorem Zk6 {id:Nat} {ch:List PanicEntry} (h:Post N w0 Q (.panic ch) e As):Post N w0 (Exit.inBlock id Q) (.panic ch) e As:=Post.mk h.out
theorem Zrt {ch:List PanicEntry} (h:Post N w0 Q (.panic ch) e As):Post N w0 (Exit.noGoto Q) (.panic ch) e As:=Post.mk h.out
instance {KK:Act→World→Prop} {ch:List PanicEntry}:Stp (Post N w0 (Exit.then KK Q) (.panic ch) e As) (Post N w0 Q (.panic ch) e As):=⟨Znl⟩
instance {id:Nat} {ch:List PanicEntry}:Stp (Post N w0 (Exit.inBlock id Q) (.panic ch) e As) (Post N w0 Q (.panic ch) e As):=⟨Zk6⟩
instance {ch:List PanicEntry}:Stp (Post N w0 (Exit.noGoto Q) (.panic ch) e As) (Post N w0 Q (.panic ch) e As):=⟨Zrt⟩
end

/-! a function that defers -/
def FQD (P:Program) (w0:World) (fn:Func) (K:Value→List Ent→Prop):Exit→Act→World→Prop:=bodyPostM (fen none) 0 P fn fun en w'=>∃ v As',en=.returned v∧K v As'∧St w0 w' As'
theorem Zce {n:Nat} {f:FuncId} {fn:Func} {c:Code} {args:List Value} {K:Value→List Ent→Prop} (hf:P.funcs[f]?=some fn) (hb:fn.body=some c) (hN:fn.ntmps=n) (hle:Nat.ble args.length n=true)
  (h:Tri P ⟨n,none,[]⟩ w0 c (env0 0 args) As (FQD P w0 fn K)):CallsS P w0 f args As K:=CallsS.mk fun w hs =>
 callsIn_wide.1 (callsIn_of_wp_marks (F:=fen none) (n:=0) hf hb trivial (h.out _ w (Zk9 hN hle) hs) rfl)
def DefS (P:Program) (w0:World) (f:FuncId) (args:List Value) (As:List Ent) (u:FrameMode) (K:FrameMode→List Ent→Prop):Prop :=
 ∀ w,St w0 w As→CallsDIn (fen none) 0 P f args.toArray u w fun en u' w'=>∃ As',en=.returned (.tuple #[])∧K u' As'∧St w0 w' As'
theorem DefS.mono {f:FuncId} {args:List Value} {u:FrameMode} {K K':FrameMode→List Ent→Prop} (h:DefS P w0 f args As u K) (k:∀ u' A,K u' A→K' u' A):DefS P w0 f args As u K' :=
 fun w hs=>(h w hs).mono fun _ _ _ ⟨A,h1,h2,h3⟩=>⟨A,h1,k _ _ h2,h3⟩
def Res (P:Program) (N:Ctx) (w0:World) (fn:Func) (e:Env) (As:List Ent) (v:Value):Prop:=∀ a w,OkA N a e→St w0 w As→(results fn a.tmps).run P w=.ok v w
section
variable {fn:Func} {K:Value→List Ent→Prop} {rv rv' rv'':ResultVar} {v u u':Value}
theorem Res.r0 (hf:fn.results=#[]:=by exact rfl):Res P N w0 fn e As (.tuple #[]):=fun a w _ _=>by simp [Zcq,hf]
theorem Res.r1 (hf:fn.results=#[rv]:=by exact rfl) (hr:RV P N w0 e As rv v:=by exact Zd9):Res P N w0 fn e As v:=fun a w ha hs=>by
 rw [Zcq,hf];simp [hr a w ha hs]
theorem Res.r2 (hf:fn.results=#[rv,rv']:=by exact rfl) (hr:RV P N w0 e As rv v:=by exact Zd9) (hr':RV P N w0 e As rv' u:=by exact Zd9):Res P N w0 fn e As (.tuple #[v,u]):=fun a w ha hs=>by
 rw [Zcq,hf];simp [hr a w ha hs,hr' a w ha hs]
theorem Yim (hf:fn.results=#[rv,rv',rv'']:=by exact rfl) (hr:RV P N w0 e As rv v:=by exact Zd9) (hr':RV P N w0 e As rv' u:=by exact Zd9) (hr'':RV P N w0 e As rv'' u':=by exact Zd9):Res P N w0 fn e As (.tuple #[v,u,u']):=fun a w ha hs=>by
 rw [Zcq,hf];simp [hr a w ha hs,hr' a w ha hs,hr'' a w ha hs]
theorem Zon {f:FuncId} {vs cap:List Value} {w:World} [hb:Body P f]:(invoke (.fn (.func f) cap.toArray) vs.toArray).run P w=.ok (.enter f (vs++cap).toArray) w:=by
 simp [invoke,hb.run]
theorem Zan {f:FuncId} {vs cap:List Value} [Body P f] (hds:N.ds=[{ target:=.fn (.func f) cap.toArray,args:=vs.toArray }])
  (hc:DefS P w0 f (vs++cap) As .returning fun u' A=>u'=.returning∧∃ v,Res P N w0 fn e A v∧∃ A',K v A'∧Ents A A'):Post N w0 (FQD P w0 fn K) .ret e As:=Post.mk fun a w ha hs=>by
 show LeavesInM (fen none) 0 P fn a.tmps _ a.defers .returning w
 rw [ha.defers,hds]
 refine ⟨by simp,.inr ⟨fun h=>(by cases h),.func f,cap.toArray,f,(vs++cap).toArray,rfl,Zon,fun _ _=>trivial,(hc w hs).mono fun en u' w' hq=>?_⟩⟩
 obtain ⟨A,rfl,⟨rfl,v,h1,A',h2,h3⟩,h4⟩:=hq
 exact ⟨v,h1 a w' ha h4,v,A',rfl,h2,h3 w0 w' h4⟩
theorem Zcd {f:FuncId} {vs cap:List Value} {z:Value} [Body P f] (hds:N.ds=[{ target:=.fn (.func f) cap.toArray,args:=vs.toArray }])
  (hc:DefS P w0 f (vs++cap) As (.panicking (thrown z)) fun u' A=>u'=.panicking (caught z)∧∃ v,Res P N w0 fn e A v∧∃ A',K v A'∧Ents A A'):Post N w0 (FQD P w0 fn K) (.panic (thrown z)) e As:=Post.mk fun a w ha hs=>by
 show LeavesInM (fen none) 0 P fn a.tmps _ a.defers (.panicking (thrown z)) w
 rw [ha.defers,hds]
 refine ⟨by simp,.inr ⟨fun h=>(by cases h),.func f,cap.toArray,f,(vs++cap).toArray,rfl,Zon,fun _ _=>trivial,(hc w hs).mono fun en u' w' hq=>?_⟩⟩
 obtain ⟨A,rfl,⟨rfl,v,h1,A',h2,h3⟩,h4⟩:=hq
 exact ⟨v,h1 a w' ha h4,v,A',rfl,h2,h3 w0 w' h4⟩
end

/-! a deferred function that calls recover first -/
def FQ2 (P:Program) (w0:World) (fn:Func) (K:List Ent→Prop):Exit→Act→World→Prop
 | .normal,a,w=>a.defers=[]∧∃ A,(results fn a.tmps).run P w=.ok (.tuple #[]) w∧K A∧St w0 w A
 | .ret,a,w=>a.defers=[]∧∃ A,(results fn a.tmps).run P w=.ok (.tuple #[]) w∧K A∧St w0 w A
 | _,_,_=>False
instance {fn:Func} {K:List Ent→Prop}:PanicOk (FQ2 P w0 fn K):=⟨fun _ _ _ _ _ h=>h⟩
theorem Zcz {fn:Func} {K:List Ent→Prop} (hk:∃ A,K A∧Ents As A) (hds:N.ds=[]:=by exact rfl) (hf:fn.results=#[]:=by exact rfl):Post N w0 (FQ2 P w0 fn K) .ret e As:=Post.mk fun a w ha hs=>by
 obtain ⟨A,h1,h2⟩:=hk
 exact ⟨by rw [ha.defers,hds],A,by simp [Zcq,hf],h1,h2 w0 w hs⟩
theorem Zdu {fn:Func} {K:List Ent→Prop} (h:Post N w0 (FQ2 P w0 fn K) .ret e As):Post N w0 (FQ2 P w0 fn K) .normal e As:=Post.mk h.out
def TLS (P:Program) (n:Nat) (w0:World) (ops:Array Oper) (l:List Oper) (e:Env) (As:List Ent) (Q:Exit→Act→List Frame→World→Prop) (cs:List Frame):Prop :=
 ∀ i,ops.toList.drop i=l→∀ a w,OkA ⟨n,none,[]⟩ a e→St w0 w As→wpOpsSIn (fen none) 0 P ops Q (List.range' i l.length) a cs w
section
variable {n:Nat} {QS:Exit→Act→List Frame→World→Prop} {cs:List Frame}
theorem TLS.f {v:Value} (h:TLS P n w0 ops r ((d,v)::e) As QS cs) (hg:gOk ops e g=some true:=by exact rfl) (hN:Nat.blt d n=true:=by exact rfl) (hx:ExF P ⟨n,none,[]⟩ w0 op ty e As v:=by exact Zjt):TLS P n w0 ops (⟨some d,op,ty,pos,af,g⟩::r) e As QS cs:=by
 intro i hi a w ha hs
 obtain ⟨ho,hr⟩:=Zg5 hi
 rw [List.length_cons,List.range'_succ]
 simp only [wpOpsSIn,ho]
 refine ⟨fun _ _=>trivial,?_⟩
 rw [gOk.wanted (o:=⟨some d,op,ty,pos,af,g⟩) ha hg,if_pos rfl]
 unfold ExF at hx
 rw [hx a w ha hs _ _ _ _]
 exact h (i+1) hr _ w (ha.put hN v) hs
theorem TLS.off (h:TLS P n w0 ops r ((d,undef)::e) As QS cs) (hg:gOk ops e g=some false:=by exact rfl) (hN:Nat.blt d n=true:=by exact rfl):TLS P n w0 ops (⟨some d,op,ty,pos,af,g⟩::r) e As QS cs:=by
 intro i hi a w ha hs
 obtain ⟨ho,hr⟩:=Zg5 hi
 rw [List.length_cons,List.range'_succ]
 simp only [wpOpsSIn,ho]
 refine ⟨fun _ _=>trivial,?_⟩
 rw [gOk.wanted (o:=⟨some d,op,ty,pos,af,g⟩) ha hg,if_neg (by decide)]
 exact h (i+1) hr _ w (ha.put hN undef) hs
end
def DQ (P:Program) (w0:World) (fn:Func) (c0:Frame) (cs:List Frame) (K:FrameMode→List Ent→Prop):Exit→Act→List Frame→World→Prop :=
 bodyPostS P fn c0 cs fun en u' w'=>∃ A,en=.returned (.tuple #[])∧K u' A∧St w0 w' A
section
variable {n:Nat} {f:FuncId} {fn:Func} {args:List Value} {u u':FrameMode} {K:FrameMode→List Ent→Prop} {id:Nat} {c2:Code} {l:List Oper} {rv:Value}
theorem TLS.nil {c0:Frame} {cs:List Frame} (h:Tri P ⟨n,none,[]⟩ w0 c2 e As (FQ2 P w0 fn (K u'))) :
  TLS P n w0 ops [] e As (Exit.thenS (c2.wpSIn (fen none) 0 P (DQ P w0 fn c0 cs K)) (DQ P w0 fn c0 cs K)) ({ c0 with mode:=u' }::cs):=by
 intro i _ a w ha hs
 show c2.wpSIn (fen none) 0 P (DQ P w0 fn c0 cs K) a _ w
 refine wpSIn_of_wpIn rfl (wpIn_mono (h.out a w ha hs) ?_)
 intro ex a' w' hq
 cases ex with
 | normal=>obtain ⟨h1,A,h2,h3,h4⟩:=hq;exact ⟨h1,u',rfl,_,h2,A,rfl,h3,h4⟩
 | ret=>obtain ⟨h1,A,h2,h3,h4⟩:=hq;exact ⟨h1,u',rfl,_,h2,A,rfl,h3,h4⟩
 | exit id=>exact hq.elim
 | goto l=>exact hq.elim
 | panic ch=>exact hq.elim
 | outgrown=>exact hq.elim
theorem Zy3 (hf:P.funcs[f]?=some fn) (hb:fn.body=some (.seq (.region id ops false) c2)) (hN:fn.ntmps=n) (hle:Nat.ble args.length n=true) (ho:ops.toList=o::l) (hg:o.guard=none) (hd:o.dst=some d) (hdn:Nat.blt d n=true)
  (hrec:∀ (ρ:Operand→Value) (w:World),(execOp ρ o).run P w=.ok .recover w)
  (hu:∀ (c0:Frame) (cs:List Frame),c0.mode=u→(recoverD (c0::cs)=some (rv,{ c0 with mode:=u' }::cs))∨(recoverD (c0::cs)=none∧rv=.nilIface∧u'=u))
  (h:∀ c0 cs,TLS P n w0 ops l ((d,rv)::env0 0 args) As (Exit.thenS (c2.wpSIn (fen none) 0 P (DQ P w0 fn c0 cs K)) (DQ P w0 fn c0 cs K)) ({ c0 with mode:=u' }::cs)):DefS P w0 f args As u K:=by
 intro w hs
 refine callsDIn_of_wpSIn hf hb trivial fun c0 cs hm=>?_
 show Code.wpSIn (fen none) 0 P _ (DQ P w0 fn c0 cs K) _ _ w
 refine wpSIn_seq (wpSIn_region ?_)
 have hsz:ops.size=l.length+1:=by rw [← Array.length_toList,ho,List.length_cons]
 rw [List.range_eq_range',hsz,List.range'_succ]
 obtain ⟨ho',hl⟩:=Zg5 (ops:=ops) (i:=0) (o:=o) (r:=l) (by rw [List.drop_zero,ho])
 simp only [wpOpsSIn,ho']
 refine ⟨fun _ _=>trivial,?_⟩
 have hw:Region.wanted o (yielded ops (args.toArray++Array.replicate (fn.ntmps - args.toArray.size) undef))=true:=by unfold Region.wanted;rw [hg]
 rw [hw,if_pos rfl,hrec]
 have ha:=(Zk9 (fn:=fn) hN hle).put (N:=⟨n,none,[]⟩) hdn rv
 rcases hu c0 cs hm with h1|⟨h1,h2,h3⟩
 ·rw [h1,hd]
  exact h c0 cs 1 hl _ w ha hs
 ·have hc:({ c0 with mode:=u' }:Frame)=c0:=by subst h3;subst hm;rfl
  have hh:=h c0 cs 1 hl _ w ha hs
  rw [hc] at hh
  rw [h1,hd,← h2]
  exact hh
theorem Zfy (hf:P.funcs[f]?=some fn) (hb:fn.body=some (.seq (.region id ops false) c2)) (hN:fn.ntmps=n) (hle:Nat.ble args.length n=true) (ho:ops.toList=o::l) (hg:o.guard=none) (hd:o.dst=some d) (hdn:Nat.blt d n=true)
  (hrec:∀ (ρ:Operand→Value) (w:World),(execOp ρ o).run P w=.ok .recover w)
  (h:∀ c0 cs,TLS P n w0 ops l ((d,.nilIface)::env0 0 args) As (Exit.thenS (c2.wpSIn (fen none) 0 P (DQ P w0 fn c0 cs K)) (DQ P w0 fn c0 cs K)) ({ c0 with mode:=.returning }::cs)):DefS P w0 f args As .returning K :=
 Zy3 hf hb hN hle ho hg hd hdn hrec (fun c0 cs hm=>.inr ⟨by simp [recoverD,hm],rfl,rfl⟩) h
theorem Zhz {v:Value} (hf:P.funcs[f]?=some fn) (hb:fn.body=some (.seq (.region id ops false) c2)) (hN:fn.ntmps=n) (hle:Nat.ble args.length n=true) (ho:ops.toList=o::l) (hg:o.guard=none) (hd:o.dst=some d) (hdn:Nat.blt d n=true)
  (hrec:∀ (ρ:Operand→Value) (w:World),(execOp ρ o).run P w=.ok .recover w)
  (h:∀ c0 cs,TLS P n w0 ops l ((d,v)::env0 0 args) As (Exit.thenS (c2.wpSIn (fen none) 0 P (DQ P w0 fn c0 cs K)) (DQ P w0 fn c0 cs K)) ({ c0 with mode:=.panicking (caught v) }::cs)):DefS P w0 f args As (.panicking (thrown v)) K :=
 Zy3 hf hb hN hle ho hg hd hdn hrec (fun c0 cs hm=>.inl (by simp [recoverD,hm])) h
end
end
end Go.Sx
namespace Go.Sx
open Go
section
variable {P:Program} {w0:World} {As rest:List Ent} {e:Env}
def FQM (P:Program) (w0:World) (fn:Func) (K K2:Value→List Ent→Prop):Exit→Act→World→Prop
 | .panic ch,a,w=>∃ v As',ch=thrown v∧K2 v As'∧((a.defers=[]∧St w0 w As')∨∃ rb w',a.defers=[mark rb]∧(Instr.takeDeferred rb).run P w=.ok [] w'∧St w0 w' As')
 | .normal,a,w=>FQ P w0 fn K .normal a w
 | .ret,a,w=>FQ P w0 fn K .ret a w
 | _,_,_=>False
theorem Zn9 {n:Nat} {f:FuncId} {fn:Func} {c:Code} {args:List Value} {K K2:Value→List Ent→Prop} (hf:P.funcs[f]?=some fn) (hb:fn.body=some c) (hN:fn.ntmps=n) (hle:Nat.ble args.length n=true)
  (h:Tri P ⟨n,none,[]⟩ w0 c (env0 0 args) As (FQM P w0 fn K K2)):CallsE P w0 f args As K K2:=by
 intro w hs
 refine callsIn_wide.1 (callsIn_of_wp_marks (F:=fen none) (n:=0) hf hb trivial (wpIn_mono (h.out _ w (Zk9 hN hle) hs) ?_) rfl)
 intro ex a w hq
 cases ex with
 | panic ch =>
  obtain ⟨v,As',rfl,hk,hd⟩:=hq
  show LeavesInM (fen none) 0 P fn a.tmps _ a.defers (.panicking (thrown v)) w
  rcases hd with ⟨hd,hs⟩|⟨rb,w',hd,ht,hs⟩
  ·rw [hd]
   exact ⟨v,As',.inr ⟨rfl,hk⟩,hs⟩
  ·rw [hd]
   exact ⟨by simp,.inl ⟨rb,w',rfl,ht,⟨v,As',.inr ⟨rfl,hk⟩,hs⟩⟩⟩
 | normal=>exact Zcl (fun en w ⟨v,As',h1,h2,h3⟩=>⟨v,As',.inl ⟨h1,h2⟩,h3⟩) _ _ _ hq
 | ret=>exact Zcl (fun en w ⟨v,As',h1,h2,h3⟩=>⟨v,As',.inl ⟨h1,h2⟩,h3⟩) _ _ _ hq
 | exit id=>exact hq.elim
 | goto l=>exact hq.elim
 | outgrown=>exact hq.elim
variable {N:Ctx} {fn:Func} {K K2:Value→List Ent→Prop}
instance:PanicOk (FQM P w0 fn K K2):=⟨fun _ _ d _ _ ⟨v,As',h1,h2,h3⟩=>⟨v,As',h1,h2,by cases d<;>exact h3⟩⟩
theorem Z5i (h:Post N w0 (FQ P w0 fn K) .ret e As):Post N w0 (FQM P w0 fn K K2) .ret e As:=Post.mk h.out
theorem Zt6 {n:Nat} {v:Value} {rb:Nat} [TakeO As rb (.deferred (some [])) rest] (hk:∃ As',K2 v As'∧Ents rest As'):Post ⟨n,none,[mark rb]⟩ w0 (FQM P w0 fn K K2) (.panic (thrown v)) e As:=Post.mk fun a w ha hs=>by
 obtain ⟨As',h1,h2⟩:=hk
 have hw:=Zde (As:=As) (b:=rb) (o:=.deferred (some [])) (rest:=rest) hs
 have h3:=Zb3 _ _ (Zgj (As:=As) (b:=rb) (o:=.deferred (some [])) (rest:=rest) hs (.deferred none))
 refine ⟨v,As',rfl,h1,.inr ⟨rb,_,ha.defers,?_,h2 w0 _ h3⟩⟩
 unfold Instr.takeDeferred
 simp only [Sem.run_bind,Zld (P:=P) hw (by intro c t f;simp),Result.andThen_ok,Zhf (P:=P) hw (by intro c t f;simp)]
 rfl
end
section
variable {P:Program} {N:Ctx} {w0:World} {e:Env} {As As':List Ent} {Q:Exit→Act→World→Prop} {ty:TypeId} {ops:Array Oper} {pos:String} {af:Array Edge} {g:Option (Nat × Bool)} {d:Nat} {x:Operand} {f:FuncId} {xs:Array Operand} {vs fst cap:List Value} {tys:Array TypeId} {K K2:Value→List Ent→Prop}
theorem T1.callvE [Body P f] {i:Nat} {t:Tree} {Rs:RsP} (ho:ops[i]?=some ⟨some d,.call ⟨.value x,xs,tys⟩,ty,pos,af,g⟩) (hg:gOk ops e g=some true) (hN:Nat.blt d N.N=true) (hx:ev e x=some (.func (.func f) fst.toArray cap.toArray)) (hxs:evs e xs.toList=some vs) (hc:CallsE P w0 f (fst++(vs++cap)) As K K2)
  (h2:∀ v As',K2 v As'→Post N w0 Q (.panic (thrown v)) e As') (h:∀ v As',K v As'→TC P N w0 ops Rs i t ((d,v)::e) As' Q):T1 P N w0 ops Rs i t e As Q :=
 T1.callEK ho hg rfl hN (fun a w ha=>Zhs hx hxs a w ha) hc h2 h
end
end Go.Sx
namespace Go.Sx
open Go
set_option linter.unusedSectionVars false
section
variable {κ ν:Type} [DecidableEq κ] {P:Program} {N:Ctx} {w0:World} {e:Env} {As rest:List Ent} {ty:TypeId} {x:Operand} {ck:κ→Value} {cv:ν→Value}
end
end Go.Sx
namespace Go.Sx
open Go
section
variable {P:Program} {N:Ctx} {w0:World} {e:Env} {As rest:List Ent} {ty:TypeId} {x:Operand}
theorem Zk2 {t:TypeId} {l:List UInt8} {lo hi:Nat} {a b:Option Operand} [UL P t .string] (hx:ev e x=some (.string ⟨l.toArray⟩)) (hl:evLo e a lo) (hh:evHi e l.length b hi) (h1:lo≤hi) (h2:hi≤l.length) :
  ExF P N w0 (.slice t x a b none) ty e As (.string ⟨((l.drop lo).take (hi - lo)).toArray⟩):=by
 unfold ExF
 intro ac w ha hs d pos af g
 have h3:(⟨l.toArray⟩:ByteArray).extract lo hi=⟨((l.drop lo).take (hi - lo)).toArray⟩:=Lib.extract_eq _ lo hi
 have hsz:(⟨l.toArray⟩:ByteArray).size=l.length:=size_toArray l
 have hrun:∀ (lo' hi':Option Value),((lo'=none∧lo=0)∨∃ k,lo'=some (.int k (lo:Int)))→((hi'=none∧hi=l.length)∨∃ k,hi'=some (.int k (hi:Int)))→(Instr.sliceAt t (.string ⟨l.toArray⟩) lo' hi' none).run P w=.ok (.string ⟨((l.drop lo).take (hi - lo)).toArray⟩) w:=by
  intro lo' hi' hl hh
  rcases hl with ⟨rfl,rfl⟩|⟨k,rfl⟩<;>rcases hh with ⟨rfl,rfl⟩|⟨k',rfl⟩<;>simp only [Instr.sliceAt,Instr.slice,Instr.sliceBounds,Instr.sliceBound,asIntOf,Sem.run_bind,Zar,Result.andThen_ok,hsz]<;>simp [h1,h2,h3]
 simp [execOp,ha.eval hx,hrun _ _ (hl.run ha) (hh.run ha)]
end
end Go.Sx
namespace Go.Sx
open Go
class TwoS (P:Program) (t:TypeId):Prop where
 h : ∃ (f g : Field) (ts us : TypeId), P.underlying t = some (.struct #[f, g]) ∧ f.name ≠ "_" ∧ g.name ≠ "_" ∧ f.offset = 0 ∧ g.offset = 1 ∧ f.type = ts ∧ g.type = us ∧ P.underlying ts = some .string ∧ P.underlying us = some .string
 h1:P.eqGuardType P.depth t=false
 h2:P.stoodInHeld t=false
section
variable {P:Program} {N:Ctx} {w0:World} {e:Env} {As:List Ent} {ty:TypeId} {x y:Operand} {w:World}
theorem Zxa {t:TypeId} [UL P t .string] (d:Nat) (a b:List UInt8):(Op.equalIn (d+1) t (.string ⟨a.toArray⟩) (.string ⟨b.toArray⟩)).run P w=.ok (decide (a=b)) w:=by
 have h:((⟨a.toArray⟩:ByteArray) == ⟨b.toArray⟩)=decide (a=b):=by
  show (a.toArray == b.toArray)=decide (a=b)
  rw [Bool.eq_iff_iff,beq_iff_eq,decide_eq_true_eq]
  constructor
  ·intro h
   have:=congrArg Array.toList h
   simpa using this
  ·rintro rfl;rfl
 simp [Op.equalIn,Zar,h]
theorem Zhg {t:TypeId} [UL P t .string] (cs:Array Value) (i:Nat) {v:Value} (h:cs[i]?=some v):(part t cs i).run P w=.ok v w:=by
 simp [part,Zd5,aggB,h]
end
end Go.Sx
namespace Go.Sx
open Go
def six (l:List (List UInt8)):Array Value:=(l.map fun s=>Value.string ⟨s.toArray⟩).toArray
section
variable {P:Program} {N:Ctx} {w0:World} {e:Env} {As:List Ent} {ty:TypeId} {x y:Operand} {w:World}
theorem Z11 {t:TypeId} [hT:TwoS P t] (d:Nat) (a b c f:List UInt8):(Op.equalIn (d+1+1) t (.agg #[.string ⟨a.toArray⟩,.string ⟨b.toArray⟩]) (.agg #[.string ⟨c.toArray⟩,.string ⟨f.toArray⟩])).run P w=.ok (decide (a=c∧b=f)) w:=by
 obtain ⟨f',g,ts,us,h1,h2,h3,h4,h5,h6,h7,h8,h9⟩:=hT.h
 haveI:UL P t (.struct #[f',g]):=⟨h1⟩
 haveI:UL P ts .string:=⟨h8⟩
 haveI:UL P us .string:=⟨h9⟩
 have h10:=hT.h2
 have p0:∀ (a b:List UInt8),(part ts #[.string ⟨a.toArray⟩,.string ⟨b.toArray⟩] 0).run P w=.ok (.string ⟨a.toArray⟩) w:=fun a b=>Zhg _ _ rfl
 have p1:∀ (a b:List UInt8),(part us #[.string ⟨a.toArray⟩,.string ⟨b.toArray⟩] 1).run P w=.ok (.string ⟨b.toArray⟩) w:=fun a b=>Zhg _ _ rfl
 unfold Op.equalIn
 simp only [Sem.run_bind,Zar,Result.andThen_ok]
 have hp:(program).run P w=.ok P w:=rfl
 simp only [hp,Result.andThen_ok,h10]
 by_cases e1:a=c<;>by_cases e2:b=f<;>simp [h2,h3,h4,h5,h6,h7,p0,p1,Zxa,e1,e2]
class Six (P:Program) (t:TypeId):Prop where
 h:∃ (el:TypeId) (f g:Field) (z:Value) (b:Nat),P.underlying t=some (.array 3 el)∧P.underlying el=some (.struct #[f,g])∧TwoS P el∧(P.info? el).map (fun i=>(i.zero,i.size,i.bytes))=some (some z,2,b)
 h1:P.eqGuardType P.depth t=false
theorem Zma {el:TypeId} {f g:Field} {z:Value} {b:Nat} [UL P el (.struct #[f,g])] [TI P el z 2 b] (cs:Array Value) (i:Nat) {u v:Value} (h:cs.extract i (i+2)=#[u,v]):(part el cs i).run P w=.ok (.agg #[u,v]) w:=by
 have hs:(sizeOf el).run P w=.ok 2 w:=Za9
 simp [part,Zd5,aggB,hs,h]
theorem Zsj {t:TypeId} [hT:Six P t] (a b c d f g a' b' c' d' f' g':List UInt8) :
  (Op.equal t (.agg #[.string ⟨a.toArray⟩,.string ⟨b.toArray⟩,.string ⟨c.toArray⟩,.string ⟨d.toArray⟩,.string ⟨f.toArray⟩,.string ⟨g.toArray⟩]) (.agg #[.string ⟨a'.toArray⟩,.string ⟨b'.toArray⟩,.string ⟨c'.toArray⟩,.string ⟨d'.toArray⟩,.string ⟨f'.toArray⟩,.string ⟨g'.toArray⟩])).run P w =
   .ok (decide ((a=a'∧b=b')∧(c=c'∧d=d')∧(f=f'∧g=g'))) w:=by
 obtain ⟨el,fi,gi,z,bb,h1,h2,h3,h4⟩:=hT.h
 haveI:UL P t (.array 3 el):=⟨h1⟩
 haveI:UL P el (.struct #[fi,gi]):=⟨h2⟩
 haveI:TwoS P el:=h3
 haveI:TI P el z 2 bb:=⟨h4⟩
 have p0:∀ a b c d f g:List UInt8,(part el #[.string ⟨a.toArray⟩,.string ⟨b.toArray⟩,.string ⟨c.toArray⟩,.string ⟨d.toArray⟩,.string ⟨f.toArray⟩,.string ⟨g.toArray⟩] 0).run P w=.ok (.agg #[.string ⟨a.toArray⟩,.string ⟨b.toArray⟩]) w:=fun _ _ _ _ _ _=>Zma _ 0 rfl
 have p1:∀ a b c d f g:List UInt8,(part el #[.string ⟨a.toArray⟩,.string ⟨b.toArray⟩,.string ⟨c.toArray⟩,.string ⟨d.toArray⟩,.string ⟨f.toArray⟩,.string ⟨g.toArray⟩] 2).run P w=.ok (.agg #[.string ⟨c.toArray⟩,.string ⟨d.toArray⟩]) w:=fun _ _ _ _ _ _=>Zma _ 2 rfl
 have p2:∀ a b c d f g:List UInt8,(part el #[.string ⟨a.toArray⟩,.string ⟨b.toArray⟩,.string ⟨c.toArray⟩,.string ⟨d.toArray⟩,.string ⟨f.toArray⟩,.string ⟨g.toArray⟩] 4).run P w=.ok (.agg #[.string ⟨f.toArray⟩,.string ⟨g.toArray⟩]) w:=fun _ _ _ _ _ _=>Zma _ 4 rfl
 unfold Op.equal Op.maxDepth
 show (Op.equalIn (9997+1+1+1) t _ _).run P w=_
 unfold Op.equalIn
 simp only [Sem.run_bind,Zar,Result.andThen_ok]
 simp only [Za9,Result.andThen_ok]
 simp only [Std.Legacy.Range.forIn_eq_forIn_range']
 simp [List.range'_succ,p0,p1,p2,Z11]
 by_cases e0:a=a'<;>by_cases e1:b=b'<;>simp [e0,e1]
 by_cases e2:c=c'<;>by_cases e3:d=d'<;>simp [e2,e3]
 by_cases e4:f=f'<;>by_cases e5:g=g'<;>simp [e4,e5]
theorem Zkp {t:TypeId} [h:Six P t] (op:BinOp) (x y:Operand) (a b:Array Value):(eqGuard op t x y (.agg a) (.agg b)).run P w=.ok () w:=by
 unfold eqGuard
 cases op<;>simp [h.h1]
theorem Z0t {t t':TypeId} [Six P t] {a b c d f g a' b' c' d' f' g':List UInt8} (hx:ev e x=some (.agg #[.string ⟨a.toArray⟩,.string ⟨b.toArray⟩,.string ⟨c.toArray⟩,.string ⟨d.toArray⟩,.string ⟨f.toArray⟩,.string ⟨g.toArray⟩])) (hy:ev e y=some (.agg #[.string ⟨a'.toArray⟩,.string ⟨b'.toArray⟩,.string ⟨c'.toArray⟩,.string ⟨d'.toArray⟩,.string ⟨f'.toArray⟩,.string ⟨g'.toArray⟩])) :
  ExF P N w0 (.binOp .neq t x y t') ty e As (.bool !(decide ((a=a'∧b=b')∧(c=c'∧d=d')∧(f=f'∧g=g')))):=by
 unfold ExF
 intro ac w ha hs dd pos af g
 have h1:∀ u v:Array Value,binOp .neq t (.agg u) (.agg v)=(do pure (.bool (!(← Op.equal t (.agg u) (.agg v))))):=fun _ _=>rfl
 simp only [execOp,ha.eval hx,ha.eval hy,Sem.run_bind,Zkp,Result.andThen_ok,h1,Zsj]
 rfl
end
end Go.Sx
