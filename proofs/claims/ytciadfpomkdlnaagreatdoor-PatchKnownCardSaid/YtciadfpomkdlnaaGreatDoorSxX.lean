/- The engine, part X: panics out of the rounds of a loop over a function; scopes. -/
import Derived.Test.YtciadfpomkdlnaaGreatDoorSxP
import Derived.Scope
set_option maxHeartbeats 1000000
namespace Go.Sx
open Go
section
variable {P:Program} {Q:Exit→Act→World→Prop} {a:Act} {w:World}
theorem fz (P:Program) (m:Machine):m.fenced P (fen none):=fenced_wide P m
def wpV (P:Program) (c:Code) (Q:Exit→Act→World→Prop) (a:Act) (w:World):Prop :=
 ∀ (b:Frame) (k:List Item) (cs:List Frame),b.roundOf=none→(∃ fn,P.funcs[b.fn]?=some fn) →
   ∃ e a' w',Q e a' w'∧ArrivesIn (Machine.fenced P (fen none)) P (lone (b.atR a (.code c::k)) cs w) b k cs e a' w'
theorem wpV.of {c:Code} (h:c.wpIn (fen none) 0 P Q a w):wpV P c Q a w:=fun b k cs hr _=>h b k cs hr trivial (Zi3 _)
theorem wpV.seq {x y:Code} (h:wpV P x (Exit.then (wpV P y Q) Q) a w):wpV P (.seq x y) Q a w:=by
 intro b k cs hro hb
 obtain ⟨e,a₁,w₁,hq,harr⟩:=h b (.code y::k) cs hro hb
 cases e with
 | normal =>
  obtain ⟨e₂,a₂,w₂,hq₂,harr₂⟩:=hq b k cs hro hb
  exact ⟨e₂,a₂,w₂,hq₂,.of_steps (.head (fz _ _) stepR_seq harr) harr₂⟩
 | exit id=>exact ⟨_,a₁,w₁,hq,.of_steps (.one (fz _ _) stepR_seq) (.pass (x:=.code y) rfl (fun _ _=>.inl (by simp)) harr)⟩
 | goto l=>exact ⟨_,a₁,w₁,hq,.of_steps (.one (fz _ _) stepR_seq) (.pass (x:=.code y) rfl (fun _ _=>.inl (by simp)) harr)⟩
 | ret=>exact ⟨_,a₁,w₁,hq,.of_steps (.one (fz _ _) stepR_seq) (.pass (x:=.code y) rfl (fun _ _=>.inl (by simp)) harr)⟩
 | panic ch=>exact ⟨_,a₁,w₁,hq,.of_steps (.one (fz _ _) stepR_seq) (.pass (x:=.code y) rfl (fun _ _=>.inl (by simp)) harr)⟩
 | outgrown=>exact ⟨_,a₁,w₁,hq,.of_steps (.one (fz _ _) stepR_seq) (.pass (x:=.code y) rfl (fun _ _=>.inl (by simp)) harr)⟩
def noExit (id:Nat) (Q:Exit→Act→World→Prop):Exit→Act→World→Prop
 | .exit id',a,w=>id'≠id∧Q (.exit id') a w
 | e,a,w=>Q e a w
theorem wpV.block {id:Nat} {c:Code} (h:wpV P c (noExit id Q) a w):wpV P (.block id c) Q a w:=by
 intro b k cs hro hb
 obtain ⟨e,a₁,w₁,hq,harr⟩:=h b (.inBlock id::k) cs hro hb
 cases e with
 | normal=>exact ⟨.normal,a₁,w₁,hq,.head (fz _ _) stepR_block (StepsIn.trans harr (.one (fz _ _) stepR_inBlock))⟩
 | exit id' =>
  obtain ⟨hne,hq⟩:=hq
  have hid:(id == id')=false:=by simpa using fun h=>hne h.symm
  have hx:exitTo id' (.inBlock id::k)=exitTo id' k:=by simp [exitTo,hid]
  refine ⟨.exit id',a₁,w₁,hq,fun k' hk=>.head (fz _ _) stepR_block (harr.1 k' (by rw [hx];exact hk)),fun hr' _=>?_⟩
  rw [hro] at hr'
  cases hr'
 | goto l =>
  have hx:gotoIn l (.inBlock id::k)=gotoIn l k:=by simp [gotoIn]
  refine ⟨_,a₁,w₁,hq,fun k' hk=>.head (fz _ _) stepR_block (harr.1 k' (by rw [hx];exact hk)),fun hr' _=>?_⟩
  rw [hro] at hr'
  cases hr'
 | ret=>exact ⟨_,a₁,w₁,hq,.of_steps (.one (fz _ _) stepR_block) harr⟩
 | panic ch=>exact ⟨_,a₁,w₁,hq,.of_steps (.one (fz _ _) stepR_block) harr⟩
 | outgrown=>exact ⟨_,a₁,w₁,hq,.of_steps (.one (fz _ _) stepR_block) harr⟩
theorem wpV.scope {c:Code} (h:wpV P c (Exit.noGoto Q) a w):wpV P (.scope c) Q a w:=by
 intro b k cs hro hb
 obtain ⟨e,a₁,w₁,hq,harr⟩:=h b (.inScope c::k) cs hro hb
 have s1:step P (lone (b.atR a (.code (.scope c)::k)) cs w)=.next (lone (b.atR a (.code c::.inScope c::k)) cs w):=by
  rw [Frame.atR_of_none hro,Frame.atR_of_none hro];exact step_scope
 cases e with
 | normal =>
  refine ⟨.normal,a₁,w₁,hq,.head (fz _ _) s1 (StepsIn.trans harr (.one (fz _ _) ?_))⟩
  rw [Frame.atR_of_none hro,Frame.atR_of_none hro];exact step_inScope
 | exit id =>
  refine ⟨.exit id,a₁,w₁,hq,fun k' hk=>.head (fz _ _) s1 (harr.1 k' (by simp [exitTo,hk])),fun hr' _=>?_⟩
  rw [hro] at hr'
  cases hr'
 | goto l=>exact hq.elim
 | ret=>exact ⟨_,a₁,w₁,hq,.of_steps (.one (fz _ _) s1) harr⟩
 | panic ch=>exact ⟨_,a₁,w₁,hq,.of_steps (.one (fz _ _) s1) harr⟩
 | outgrown=>exact ⟨_,a₁,w₁,hq,.of_steps (.one (fz _ _) s1) harr⟩
def rangeV (P:Program) (l:Nat) (Q:Exit→Act→World→Prop) (a':Act):Ending→World→Prop
 | .returned _,w₃=>∃ w₄,(Instr.endLoop l).run P w₃=.ok none w₄∧Q .normal a' w₄
 | .panicked chain,w₃=>Q (.panic chain) a' w₃
 | .outgrown,_=>False
theorem wpV.rangeFunc {g:Operand} {ps:Array Tmp} {assign body:Code}
  (h:∀ fn,(∃ x,P.funcs[fn]?=some x)→∃ (l:Nat) (mark:List Deferred) (w₁:World) (d:Deferred) (w₁':World) (f:FuncId) (args:Array Value) (w₂:World),
   (Instr.enterLoop fn a.tmps ps assign body none).run P w=.ok (l,mark) w₁ ∧
   (resolve a.eval (rangeCall g l) 0).run P w₁=.ok d w₁' ∧
   (invoke d.target d.args).run P w₁'=.ok (.enter f args) w₂ ∧
   CallsIn (fen none) 0 P f args w₂ (rangeV P l Q { a with defers:=mark++a.defers })) :
  wpV P (.rangeFunc g ps assign body) Q a w:=by
 intro b k cs hro hb
 obtain ⟨l,mark,w₁,d,w₁',f,args,w₂,he,hres,hinv,hF,hcall⟩:=h b.fn hb
 rw [← hro] at he
 have henter:=stepR_rangeFunc (P:=P) (b:=b) (a:=a) (k:=k) (cs:=cs) (w:=w) he hres hinv
 obtain ⟨e,w₃,fr,hR,hsteps,hfn,hleave⟩:=hcall (b.atR { a with defers:=mark++a.defers } (.inRangeFunc l::k)::cs) (Zi3 _)
 cases e with
 | outgrown=>exact hR.elim
 | returned v =>
  obtain ⟨w₄,hend,hq⟩:=hR
  refine ⟨.normal,_,w₄,hq,.head (fz _ _) henter (StepsIn.trans hsteps (.head (fz _ _) ?_ (.one (fz _ _) (stepR_endRangeFunc hend))))⟩
  rw [← finish_atR_inRangeFunc l v];exact step_leave_returned hleave
 | panicked chain =>
  refine ⟨.panic chain,_,w₃,hR,.inRangeFunc l::k,.head (fz _ _) henter (StepsIn.trans hsteps (.one (fz _ _) ?_))⟩
  rw [← Frame.raise_atR];exact step_leave_panicked hleave
theorem Zk7 {f:FuncId} {fn:Func} {c:Code} {args:Array Value} {R:Ending→World→Prop} (hf:P.funcs[f]?=some fn) (hb:fn.body=some c)
  (h:wpV P c (bodyPostM (fen none) 0 P fn R) { tmps:=args++Array.replicate (fn.ntmps - args.size) undef,defers:=[] } w):CallsIn (fen none) 0 P f args w R:=by
 refine ⟨trivial,fun cs hr=>?_⟩
 let b:Frame:={ (default:Frame) with fn:=f,kind:=.normal,roundOf:=none }
 have henter:Frame.enter P f args .normal=b.atR { tmps:=args++Array.replicate (fn.ntmps - args.size) undef,defers:=[] } [.code c]:=by
  simp [Frame.enter,Frame.atR,hf,hb,b]
 obtain ⟨e,a',w',hq,harr⟩:=h b [] cs rfl ⟨fn,hf⟩
 rw [← henter] at harr
 have out:∀ (u:FrameMode) (todo:List Item),LeavesInM (fen none) 0 P fn a'.tmps R a'.defers u w'→StepsIn (Machine.fenced P (fen none)) P (lone (Frame.enter P f args .normal) cs w) (lone { b.atR a' todo with mode:=u } cs w') →
   ∃ e w'' fr',R e w''∧ComesIn (Machine.fenced P (fen none)) P (lone (Frame.enter P f args .normal) cs w) (lone fr' cs w'') e∧fr'.fn=f∧fr'.leaving P w'' e:=by
  intro u todo hl hs₀
  obtain ⟨e',w'',fr',hR,hs,hfn,hl⟩:=leaves_stepsInM a'.defers u w' { b.atR a' todo with mode:=u } cs rfl rfl rfl hf rfl trivial hr hl
  exact ⟨e',w'',fr',hR,ComesIn.of_steps hs₀ hs,hfn,hl⟩
 cases e with
 | normal=>exact out .returning [] hq (StepsIn.trans harr (.one (fz _ _) (stepR_end rfl)))
 | ret =>
  obtain ⟨todo,hs₀⟩:=harr.1 rfl
  exact out .returning todo hq hs₀
 | panic chain =>
  obtain ⟨todo,hs₀⟩:=harr
  exact out (.panicking chain) todo hq hs₀
 | exit id=>exact hq.elim
 | goto l=>exact hq.elim
 | outgrown=>exact ⟨.outgrown,w',b,hq,harr.resolve_left (by simp [b]),rfl,trivial⟩
/-! a round that may panic -/
def roundPostP (P:Program) (l:Nat) (R:Ending→World→Prop):Exit→Act→World→Prop
 | .panic ch,a,w=>a.defers=[]∧R (.panicked ch) w
 | .normal,a,w=>roundPost P l R .normal a w
 | _,_,_=>False
theorem Zvj {l:Nat} {f:FuncId} {tmps:Array Value} {assign body:Code} {R:Ending→World→Prop} (hf:∃ fn,P.funcs[f]?=some fn)
  (h:assign.wpIn (fen (some l)) 0 P (Exit.then (fun a₁ w₁=>∃ w₂,(Instr.beginRound l).run P w₁=.ok () w₂∧body.wpIn (fen (some l)) 0 P (roundPostP P l R) a₁ w₂) (fun _ _ _=>False)) { tmps:=tmps,defers:=[] } w) :
  RoundIn (fen none) 0 P l f tmps assign body w R:=by
 refine ⟨trivial,fun c cs _=>?_⟩
 let b:Frame:={ (default:Frame) with fn:=f,kind:=.normal,roundOf:=some l }
 have hb0:Frame.round l f tmps assign body .normal=b.atR { tmps:=tmps,defers:=[] } [.code assign,.beginRound,.code body]:=by
  simp [Frame.round,Frame.atR,b]
 obtain ⟨e,a₁,w₁,hq,harr⟩:=h b [.beginRound,.code body] (c::cs) rfl trivial (Zi3 _)
 rw [← hb0] at harr
 have conv:∀ {m m':Machine},StepsIn (Machine.fenced P (fen (some l))) P m m'→StepsIn (Machine.fenced P (fen none)) P m m':=fun {m m'} hs=>stepsIn_wide.2 hs.steps
 cases e with
 | normal =>
  obtain ⟨w₂,hbr,hbody⟩:=hq
  have s1:StepsIn (Machine.fenced P (fen none)) P (lone (b.atR a₁ [.beginRound,.code body]) (c::cs) w₁) (lone (b.atR a₁ [.code body]) (c::cs) w₂):=.one (fz _ _) (stepR_beginRound rfl hbr)
  obtain ⟨e₂,a₂,w₃,hq₂,harr₂⟩:=hbody b [] (c::cs) rfl trivial (Zi3 _)
  cases e₂ with
  | normal =>
   obtain ⟨v,w₄,hend,hR⟩:=hq₂
   exact ⟨.returned v,w₄,hR,(StepsIn.trans (conv harr) s1).trans (StepsIn.trans (conv harr₂) (.one (fz _ _) (stepR_round_end rfl rfl hend)))⟩
  | panic chain =>
   obtain ⟨hd,hR⟩:=hq₂
   obtain ⟨todo,hs⟩:=harr₂
   exact ⟨.panicked chain,w₃,hR,(StepsIn.trans (conv harr) s1).trans (StepsIn.trans (conv hs) (.one (fz _ _) (step_leave_panicked ⟨rfl,hd,hf⟩)))⟩
  | ret=>exact hq₂.elim
  | exit id=>exact hq₂.elim
  | goto t=>exact hq₂.elim
  | outgrown=>exact hq₂.elim
 | exit id=>exact hq.elim
 | goto t=>exact hq.elim
 | ret=>exact hq.elim
 | panic chain=>exact hq.elim
 | outgrown=>exact hq.elim
end
section
variable {P:Program} {N:Ctx} {w0:World} {e:Env} {As As' rest:List Ent} {Q:Exit→Act→World→Prop} {ty:TypeId} {ops:Array Oper} {r:List Oper} {pos:String} {af:Array Edge} {g:Option (Nat × Bool)} {d:Nat} {x:Operand} {K K2:Value→List Ent→Prop}
def YieldE (P:Program) (w0:World) (l:Nat) (L:Loop) (vs:List Value) (As:List Ent) (K K2:Value→List Ent→Prop):Prop :=
 ∀ w,St w0 w As→RoundIn (fen none) 0 P l L.fn (setTmps L.params vs.toArray L.tmps) L.assign L.body w fun en w'=>∃ v As',(en=.returned v∧K v As'∨en=.panicked (thrown v)∧K2 v As')∧St w0 w' As'
theorem Zxn {l:Nat} {L:Loop} {xs:Array Operand} {vs:List Value} {tys:Array TypeId} [TakeO As l (.loop L) rest] (hg:gOk ops e g=some true) (hN:Nat.blt d N.N=true) (hx:ev e x=some (.func (.yield l) #[] #[])) (hxs:evs e xs.toList=some vs) (hn:vs.length=L.params.size)
  (hy:YieldE P w0 l L vs As K K2) (h2:∀ v As',K2 v As'→Post N w0 Q (.panic (thrown v)) e As') (h:∀ v As',K v As'→TL P N w0 ops r ((d,v)::e) As' Q):TL P N w0 ops (⟨some d,.call ⟨.value x,xs,tys⟩,ty,pos,af,g⟩::r) e As Q:=by
 refine TL.step fun a w ha hs K' hK=>?_
 rw [gOk.wanted (o:=⟨some d,.call ⟨.value x,xs,tys⟩,ty,pos,af,g⟩) ha hg,if_pos rfl]
 have hrun:=Zh1 (P:=P) (rest:=rest) (ty:=ty) (pos:=pos) (af:=af) (g:=g) (tys:=tys) (dd:=some d) hx hxs hn a w ha hs
 rw [Za7 hrun (by intro d;simp),hrun]
 refine ⟨fun h=>(by cases h),Zjt (RoundIn.mono (hy w hs) fun en w' ⟨v,As',h1,h3⟩=>?_)⟩
 rcases h1 with ⟨h1,hk⟩|⟨h1,hk⟩
 ·subst h1
  exact hK _ _ _ _ (h v As' hk) (ha.put hN v) h3
 ·subst h1
  exact (h2 v As' hk).out a w' ha h3
theorem Z24 {l:Nat} {L:Loop} {vs:List Value} {Bs:List Ent} {K' K2':Value→List Ent→Prop} (k:YieldE P w0 l L vs Bs K K2) (h:Ents As Bs) (hk:∀ v A,K v A→∃ A',K' v A'∧Ents A A') (hk2:∀ v A,K2 v A→∃ A',K2' v A'∧Ents A A'):YieldE P w0 l L vs As K' K2':=fun w hs =>
 RoundIn.mono (k w (h w0 w hs)) fun en w' ⟨v,A,h1,h3⟩=>by
  rcases h1 with ⟨h1,h2⟩|⟨h1,h2⟩
  ·obtain ⟨A',g1,g2⟩:=hk v A h2
   exact ⟨v,A',.inl ⟨h1,g1⟩,g2 _ _ h3⟩
  ·obtain ⟨A',g1,g2⟩:=hk2 v A h2
   exact ⟨v,A',.inr ⟨h1,g1⟩,g2 _ _ h3⟩
def RE (w0:World) (K K2:Value→List Ent→Prop) (en:Ending) (w':World):Prop:=∃ v As',(en=.returned v∧K v As'∨en=.panicked (thrown v)∧K2 v As')∧St w0 w' As'
def RAE (P:Program) (w0:World) (l:Nat) (body:Code) (K K2:Value→List Ent→Prop):Exit→Act→World→Prop :=
 Exit.then (fun a₁ w₁=>∃ w₂,(Instr.beginRound l).run P w₁=.ok () w₂∧body.wpIn (fen (some l)) 0 P (roundPostP P l (RE w0 K K2)) a₁ w₂) (fun _ _ _=>False)
instance {l:Nat} {body:Code}:PanicOk (RAE P w0 l body K K2):=⟨fun _ _ _ _ _ h=>h⟩
instance {l:Nat}:PanicOk (roundPostP P l (RE w0 K K2)):=⟨fun _ _ d _ _ ⟨h1,h2⟩=>⟨by cases d<;>exact h1,h2⟩⟩
theorem YieldE.of {n l:Nat} {L:Loop} {ps:List Tmp} {vs:List Value} {ca cb:Code} (hfn:∃ x,P.funcs[L.fn]?=some x) (hps:L.params=ps.toArray) (hca:L.assign=ca) (hcb:L.body=cb) (hb:ps.all (Nat.blt · n)=true) (hn:ps.Nodup) (ha:OkA ⟨n,some l,[]⟩ ⟨L.tmps,[]⟩ e)
  (h:Tri P ⟨n,some l,[]⟩ w0 ca (penv ps vs++e) As (RAE P w0 l cb K K2)):YieldE P w0 l L vs As K K2:=by
 intro w hs
 subst hca hcb
 rw [hps]
 exact Zvj hfn (h.out _ w (Zht ps vs L.tmps e ha hb hn) hs)
theorem Ziu {n l:Nat} {L:Loop} {body:Code} [TakeO As l (.loop L) rest] (hst:L.state=.ready) (h:Tri P ⟨n,some l,[]⟩ w0 body e (.ob l (.loop { L with state:=.busy })::rest) (roundPostP P l (RE w0 K K2))) :
  Post ⟨n,some l,[]⟩ w0 (RAE P w0 l body K K2) .normal e As:=Post.mk fun a w ha hs=>by
 have hw:=Zbz (b:=l) (o:=.loop L) (rest:=rest) hs
 refine ⟨_,?_,h.out a _ ha (Zc2 (o:=.loop L) (rest:=rest) hs (.loop { L with state:=.busy }))⟩
 unfold Instr.beginRound
 simp only [Sem.run_bind,Zdu hw,Result.andThen_ok,Zc4 (P:=P) hw (by intro c t f;simp),hst]
 rfl
theorem Zc7 {l:Nat} {L:Loop} [TakeO As l (.loop L) rest] (h:∃ As',K (.bool true) As'∧Ents (.ob l (.loop { L with state:=.ready,pending:=none })::rest) As'):Post N w0 (roundPostP P l (RE w0 K K2)) .normal e As:=Post.mk fun a w ha hs=>by
 have hw:=Zbz (b:=l) (o:=.loop L) (rest:=rest) hs
 obtain ⟨As',hk,hA⟩:=h
 exact ⟨_,_,Zd4 hw,_,As',.inl ⟨rfl,hk⟩,hA _ _ (Zc2 (o:=.loop L) (rest:=rest) hs _)⟩
theorem Zce {l:Nat} {v:Value} (hds:N.ds=[]) (h:∃ As',K2 v As'∧Ents As As'):Post N w0 (roundPostP P l (RE w0 K K2)) (.panic (thrown v)) e As:=Post.mk fun a w ha hs=>by
 obtain ⟨As',hk,hA⟩:=h
 exact ⟨by rw [ha.defers,hds],v,As',.inr ⟨rfl,hk⟩,hA _ _ hs⟩
/-! codes in a frame of a function that there is -/
def TriV (P:Program) (N:Ctx) (w0:World) (c:Code) (e:Env) (As:List Ent) (Q:Exit→Act→World→Prop):Prop:=∀ a w,OkA N a e→St w0 w As→wpV P c Q a w
variable {c c1 c2:Code} {n:Nat} {ds:List Deferred}
theorem TriV.of (h:Tri P ⟨n,none,ds⟩ w0 c e As Q):TriV P ⟨n,none,ds⟩ w0 c e As Q:=fun a w ha hs=>wpV.of (h.out a w ha hs)
theorem TriV.seq (h:Tri P ⟨n,none,ds⟩ w0 c1 e As (Exit.then (wpV P c2 Q) Q)):TriV P ⟨n,none,ds⟩ w0 (.seq c1 c2) e As Q:=fun a w ha hs=>wpV.seq (wpV.of (h.out a w ha hs))
theorem Zxg (h:TriV P N w0 c1 e As (Exit.then (wpV P c2 Q) Q)):TriV P N w0 (.seq c1 c2) e As Q:=fun a w ha hs=>wpV.seq (h a w ha hs)
theorem TriV.block {id:Nat} (h:TriV P N w0 c e As (noExit id Q)):TriV P N w0 (.block id c) e As Q:=fun a w ha hs=>wpV.block (h a w ha hs)
theorem TriV.scope (h:TriV P N w0 c e As (Exit.noGoto Q)):TriV P N w0 (.scope c) e As Q:=fun a w ha hs=>wpV.scope (h a w ha hs)
theorem Zcl (h:TriV P N w0 c e As Q):Post N w0 (Exit.then (wpV P c Q) Q) .normal e As:=Post.mk h
theorem Zk9 {id:Nat} (h:Post N w0 Q .normal e As):Post N w0 (noExit id Q) .normal e As:=Post.mk h.out
theorem Znj {id:Nat} {ch:List PanicEntry} (h:Post N w0 Q (.panic ch) e As):Post N w0 (noExit id Q) (.panic ch) e As:=Post.mk h.out
theorem Zo1 {gx:Operand} {ps:Array Tmp} {assign body:Code} {f:FuncId} {cap:List Value} [Body P f] (hg:ev e gx=some (.func (.func f) #[] cap.toArray)) (R:List Ent→Prop) (R2:Value→List Ent→Prop)
  (hc : ∀ (L:Loop) (l rb:Nat),(∃ x,P.funcs[L.fn]?=some x)→L.state=.ready→L.pending=none→L.params=ps→L.assign=assign→L.body=body→OkA ⟨n,some l,[]⟩ ⟨L.tmps,[]⟩ e →
   CallsE P w0 f (.func (.yield l) #[] #[]::cap) (.ob l (.loop L)::.ob rb (.deferred (some []))::As)
    (fun _ Bs=>∃ st As',R As'∧st≠.busy∧Ents Bs (.ob l (.loop { L with state:=st,pending:=none })::.ob rb (.deferred (some []))::As'))
    (fun v Bs=>∃ As',R2 v As'∧Ents Bs (.ob rb (.deferred (some []))::As')))
  (hn:∀ As',R As'→∀ rb,Post ⟨n,none,mark rb::ds⟩ w0 Q .normal e (.ob rb (.deferred (some []))::As'))
  (hp:∀ v As',R2 v As'→∀ rb,Post ⟨n,none,mark rb::ds⟩ w0 Q (.panic (thrown v)) e (.ob rb (.deferred (some []))::As')) :
  TriV P ⟨n,none,ds⟩ w0 (.rangeFunc gx ps assign body) e As Q:=fun a w ha hs=>by
 refine wpV.rangeFunc fun fn hfn=>?_
 have hs1:=hs.alloc_ob (.deferred (some []))
 have hs2:=hs1.alloc_ob (.loop ⟨.ready,none,fn,a.tmps,ps,assign,body,w.heap.size⟩)
 refine ⟨w.heap.size+1,[mark w.heap.size],(w.alloc (.deferred (some []))).alloc (.loop ⟨.ready,none,fn,a.tmps,ps,assign,body,w.heap.size⟩),⟨.fn (.func f) cap.toArray,#[.func (.yield (w.heap.size+1)) #[] #[]]⟩,
  (w.alloc (.deferred (some []))).alloc (.loop ⟨.ready,none,fn,a.tmps,ps,assign,body,w.heap.size⟩),f,(.func (.yield (w.heap.size+1)) #[] #[]::cap).toArray,(w.alloc (.deferred (some []))).alloc (.loop ⟨.ready,none,fn,a.tmps,ps,assign,body,w.heap.size⟩),?_,?_,?_,?_⟩
 ·show (Instr.enterLoop fn a.tmps ps assign body none).run P w=_
  simp [Instr.enterLoop,mark]
 ·have hg':=ha.eval hg
  unfold rangeCall
  simp only [resolve,hg',Deferred.ofValue,Sem.run_pure]
  simp [Act.eval]
 ·have:=(inferInstance:Body P f).run (#[.func (.yield (w.heap.size+1)) #[] #[]]++cap.toArray) ((w.alloc (.deferred (some []))).alloc (.loop ⟨.ready,none,fn,a.tmps,ps,assign,body,w.heap.size⟩))
  simpa [invoke] using this
 ·have hok:OkA ⟨n,some (w.heap.size+1),[]⟩ ⟨a.tmps,[]⟩ e:=⟨rfl,ha.size,ha.holds⟩
  rw [World.size_alloc] at hs2
  have hoka:OkA ⟨n,none,mark w.heap.size::ds⟩ { a with defers:=[mark w.heap.size]++a.defers } e:=⟨by simp [ha.defers],ha.size,ha.holds⟩
  refine Zcp ((hc ⟨.ready,none,fn,a.tmps,ps,assign,body,w.heap.size⟩ (w.heap.size+1) w.heap.size hfn rfl rfl rfl rfl rfl hok _ hs2).mono fun en w' ⟨v,Bs,h1,h3⟩=>?_)
  rcases h1 with ⟨h1,st,As',hR,hst,hE⟩|⟨h1,As',hR,hE⟩
  ·subst h1
   have h4:=hE _ _ h3
   have hw:=Zbz (As:=.ob (w.heap.size+1) (.loop ⟨st,none,fn,a.tmps,ps,assign,body,w.heap.size⟩)::.ob w.heap.size (.deferred (some []))::As') (b:=w.heap.size+1) (rest:=.ob w.heap.size (.deferred (some []))::As') h4
   have h5:=Zc2 (As:=.ob (w.heap.size+1) (.loop ⟨st,none,fn,a.tmps,ps,assign,body,w.heap.size⟩)::.ob w.heap.size (.deferred (some []))::As') (b:=w.heap.size+1) (rest:=.ob w.heap.size (.deferred (some []))::As') h4 (.loop ⟨.exhausted,none,fn,a.tmps,ps,assign,body,w.heap.size⟩)
   have h6:=Zby _ _ h5
   refine ⟨{ w' with heap:=w'.heap.setIfInBounds (w.heap.size+1) (.loop ⟨.exhausted,none,fn,a.tmps,ps,assign,body,w.heap.size⟩) },?_,(hn As' hR w.heap.size).out _ _ hoka h6⟩
   unfold Instr.endLoop
   simp only [Sem.run_bind,Zdu hw,Result.andThen_ok]
   cases st<;>first|exact absurd rfl hst|(simp [Zc4 (P:=P) hw (by intro c t f;simp)];done)|(show ((if (_:Bool)=true then _ else _):Sem (Option Code)).run P w'=_;simp [Zc4 (P:=P) hw (by intro c t f;simp)])
  ·subst h1
   exact (hp v As' hR w.heap.size).out _ _ hoka (hE _ _ h3)
theorem Zk3 {f:FuncId} {fn:Func} {args:List Value} (hf:P.funcs[f]?=some fn) (hb:fn.body=some c) (hN:fn.ntmps=n) (hle:Nat.ble args.length n=true)
  (h:TriV P ⟨n,none,[]⟩ w0 c (env0 0 args) As (FQD P w0 fn K)):CallsS P w0 f args As K:=CallsS.mk fun w hs =>
 callsIn_wide.1 (Zk7 hf hb (h _ w (Zgw hN hle) hs))
theorem Zrn {rb:Nat} [TakeO As rb (.deferred (some [])) rest] {w:World} (hs:St w0 w As):∃ w',(Instr.takeDeferred rb).run P w=.ok [] w'∧St w0 w' rest:=by
 have hw:=Zbz (As:=As) (b:=rb) (o:=.deferred (some [])) (rest:=rest) hs
 refine ⟨_,?_,Zby _ _ (Zc2 (As:=As) (b:=rb) (o:=.deferred (some [])) (rest:=rest) hs (.deferred none))⟩
 unfold Instr.takeDeferred
 simp only [Sem.run_bind,Zgy (P:=P) hw (by intro c t f;simp),Result.andThen_ok,Zc4 (P:=P) hw (by intro c t f;simp)]
 rfl
theorem Zo4 {fn:Func} {rb:Nat} [TakeO As rb (.deferred (some [])) rest] (h:Post ⟨n,none,ds⟩ w0 (FQD P w0 fn K) .ret e rest):Post ⟨n,none,mark rb::ds⟩ w0 (FQD P w0 fn K) .ret e As:=Post.mk fun a w ha hs=>by
 obtain ⟨w',h1,h2⟩:=Zrn (P:=P) (rb:=rb) hs
 have h3:=h.out { a with defers:=ds } _ ⟨rfl,ha.size,ha.holds⟩ h2
 show LeavesInM (fen none) 0 P fn a.tmps _ a.defers .returning w
 rw [ha.defers]
 exact ⟨by simp,.inl ⟨rb,_,rfl,h1,h3⟩⟩
theorem Zin {fn:Func} {rb:Nat} {ch:List PanicEntry} [TakeO As rb (.deferred (some [])) rest] (h:Post ⟨n,none,ds⟩ w0 (FQD P w0 fn K) (.panic ch) e rest):Post ⟨n,none,mark rb::ds⟩ w0 (FQD P w0 fn K) (.panic ch) e As:=Post.mk fun a w ha hs=>by
 obtain ⟨w',h1,h2⟩:=Zrn (P:=P) (rb:=rb) hs
 have h3:=h.out { a with defers:=ds } _ ⟨rfl,ha.size,ha.holds⟩ h2
 show LeavesInM (fen none) 0 P fn a.tmps _ a.defers (.panicking ch) w
 rw [ha.defers]
 exact ⟨by simp,.inl ⟨rb,_,rfl,h1,h3⟩⟩
end
end Go.Sx
