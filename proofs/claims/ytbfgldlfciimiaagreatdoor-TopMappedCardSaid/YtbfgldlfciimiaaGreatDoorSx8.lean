/- The engine, part 6: function values, objects, range over a function. -/
import Derived.Test.YtbfgldlfciimiaaGreatDoorSx5
import Derived.RangeFuncIn
import Derived.Laws.Slices
set_option maxHeartbeats 1000000
namespace Go.Sx
open Go
section
variable {P:Program} {N:Ctx} {w0:World} {e:Env} {As As' rest:List Ent} {Q:Exit→Act→World→Prop} {ty:TypeId} {ops:Array Oper} {r:List Oper} {op:Op} {pos:String} {af:Array Edge} {g:Option (Nat × Bool)} {d:Nat} {x:Operand}

/-! objects -/
theorem Zde {b:Nat} {o:Obj} [h:TakeO As b o rest] {w:World} (hs:St w0 w As):w.heap[b]?=some o:=by
 obtain ⟨H,bs,g⟩:=hs
 obtain ⟨bs',_,k⟩:=Sat.perm h.perm g.sat
 obtain ⟨_,_,hw,_⟩:=k
 exact hw
theorem Z0l {w:World} {x x':Ent} {b:Nat} {o o':Obj} (hx:∀ w H,Sat w H [x] [b]↔w.heap[b]?=some o) (hx':∀ w H,Sat w H [x'] [b]↔w.heap[b]?=some o') (hs:St w0 w (x::rest)) (hone:∀ w H bs,Sat w H [x] bs→bs=[b]):St w0 { w with heap:=w.heap.setIfInBounds b o' } (x'::rest):=by
 obtain ⟨H,bs,g⟩:=hs
 obtain ⟨b1,b2,rfl,h1,h2⟩:=Sat.cons.1 g.sat
 have hb1:=hone _ _ _ h1
 subst hb1
 have hw:=(hx w H).1 h1
 have hlt:b < w.heap.size:=(Array.getElem?_eq_some_iff.1 hw).1
 have hother:∀ k,k≠b→({ w with heap:=w.heap.setIfInBounds b o' }:World).heap[k]?=w.heap[k]?:=fun k hk=>by
  show (w.heap.setIfInBounds b o')[k]?=_
  rw [Array.getElem?_setIfInBounds,if_neg (Ne.symm hk)]
 have hb:∀ k,H k≠none→k≠b:=fun k hk he=>hk (by subst he;exact g.ap _ (List.mem_append_left _ (List.mem_singleton.2 rfl)))
 refine ⟨H,[b]++b2,by simpa using g.size,g.os,g.tape,g.output,fun k o hk=>?_,g.old,Sat.cons.2 ⟨[b],b2,rfl,(hx' _ H).2 ?_,Sat.move (FH.le_refl H) h2 fun k hk=>hother k fun he=>?_⟩,g.nd,g.ap⟩
 ·rw [hother k (hb k (by rw [hk];simp))];exact g.fz k o hk
 ·show (w.heap.setIfInBounds b o')[b]?=_
  rw [Array.getElem?_setIfInBounds,if_pos rfl,if_pos hlt]
 ·subst he
  exact (List.nodup_cons.1 g.nd).1 hk
theorem Zgj {b:Nat} {o:Obj} [h:TakeO As b o rest] {w:World} (hs:St w0 w As) (o':Obj):St w0 { w with heap:=w.heap.setIfInBounds b o' } (.ob b o'::rest):=by
 refine Z0l (x:=.ob b o) (o:=o) ?_ ?_ (Ents.perm h.perm w0 w hs) ?_
 ·intro w H;exact ⟨fun ⟨_,h1,h2,_⟩=>h2,fun h=>⟨[],rfl,h,rfl⟩⟩
 ·intro w H;exact ⟨fun ⟨_,h1,h2,_⟩=>h2,fun h=>⟨[],rfl,h,rfl⟩⟩
 ·intro w H bs hs
  obtain ⟨bs',h1,_,h3⟩:=hs
  simp only [Sat] at h3
  rw [h1,h3]
theorem Zld {b:Nat} {o:Obj} {w:World} (h:w.heap[b]?=some o) (hc:∀ c t f,o≠.cells c t f):(getObj b).run P w=.ok o w:=by
 unfold getObj
 simp only [Sem.run,h]
theorem Zhf {b:Nat} {o o':Obj} {w:World} (h:w.heap[b]?=some o) (hc:∀ c t f,o≠.cells c t f):(setObj b o').run P w=.ok () { w with heap:=w.heap.setIfInBounds b o' }:=by
 unfold setObj
 simp only [Sem.run,h]

/-! function values -/
theorem Zhs {f:FuncId} {xs:Array Operand} {vs fst cap:List Value} {tys:Array TypeId} {dd:Option Tmp} [hb:Body P f] (hx:ev e x=some (.func (.func f) fst.toArray cap.toArray)) (hxs:evs e xs.toList=some vs) (a:Act) (w:World) (ha:OkA N a e) :
  (execOp a.eval { dst:=dd,op:=.call { callee:=.value x,args:=xs,argTypes:=tys },type:=ty,pos:=pos,after:=af,guard:=g }).run P w=.ok (.enter f (fst++(vs++cap)).toArray) w:=by
 have h1:xs.map a.eval=vs.toArray:=by
  apply Array.toList_inj.1
  rw [Array.toList_map,ha.evals hxs]
 simp only [execOp,resolve,ha.eval hx,Deferred.ofValue]
 simp only [Sem.run_bind,Sem.run_pure,Result.andThen_ok,invoke]
 simp [h1,hb.run]
theorem TL.callv {f:FuncId} {xs:Array Operand} {vs fst cap:List Value} {tys:Array TypeId} {K:Value→List Ent→Prop} [Body P f] (hg:gOk ops e g=some true) (hN:Nat.blt d N.N=true) (hx:ev e x=some (.func (.func f) fst.toArray cap.toArray)) (hxs:evs e xs.toList=some vs)
  (hc:CallsS P w0 f (fst++(vs++cap)) As K) (h:∀ v As',K v As'→TL P N w0 ops r ((d,v)::e) As' Q):TL P N w0 ops (⟨some d,.call ⟨.value x,xs,tys⟩,ty,pos,af,g⟩::r) e As Q :=
 TL.callK K hg rfl hN (fun a w ha=>Zhs hx hxs a w ha) hc h
theorem T1.callv {i:Nat} {t:Tree} {Rs:RsP} {f:FuncId} {xs:Array Operand} {vs fst cap:List Value} {tys:Array TypeId} {K:Value→List Ent→Prop} [Body P f] (ho:ops[i]?=some ⟨some d,.call ⟨.value x,xs,tys⟩,ty,pos,af,g⟩) (hg:gOk ops e g=some true) (hN:Nat.blt d N.N=true)
  (hx:ev e x=some (.func (.func f) fst.toArray cap.toArray)) (hxs:evs e xs.toList=some vs) (hc:CallsS P w0 f (fst++(vs++cap)) As K) (h:∀ v As',K v As'→TC P N w0 ops Rs i t ((d,v)::e) As' Q):T1 P N w0 ops Rs i t e As Q :=
 T1.callK ho hg hN (fun a w ha=>Zhs hx hxs a w ha) hc h

/-! yield -/
theorem Zsk {ro:Option Nat} {n l:Nat} {f:FuncId} {tmps:Array Value} {x y:Code} {w:World} {R:Ending→World→Prop} (h:RoundIn (fen none) n P l f tmps x y w R):RoundIn (fen ro) n P l f tmps x y w R:=h
def setTmps (ps:Array Tmp) (vs:Array Value) (tmps:Array Value):Array Value:=(ps.zip vs).foldl (fun tmps (t,a)=>tmps.setIfInBounds t a) tmps
def YieldS (P:Program) (w0:World) (l:Nat) (L:Loop) (vs:List Value) (As:List Ent) (K:Value→List Ent→Prop):Prop :=
 ∀ w,St w0 w As→RoundIn (fen none) 0 P l L.fn (setTmps L.params vs.toArray L.tmps) L.assign L.body w fun en w'=>∃ v As',en=.returned v∧K v As'∧St w0 w' As'
theorem Zpe {l:Nat} {L:Loop} {xs:Array Operand} {vs:List Value} {tys:Array TypeId} {dd:Option Tmp} [TakeO As l (.loop L) rest] (hx:ev e x=some (.func (.yield l) #[] #[])) (hxs:evs e xs.toList=some vs) (hn:vs.length=L.params.size) (a:Act) (w:World) (ha:OkA N a e) (hs:St w0 w As) :
  (execOp a.eval { dst:=dd,op:=.call { callee:=.value x,args:=xs,argTypes:=tys },type:=ty,pos:=pos,after:=af,guard:=g }).run P w=.ok (.round l L.fn (setTmps L.params vs.toArray L.tmps) L.assign L.body) w:=by
 have h1:xs.map a.eval=vs.toArray:=by
  apply Array.toList_inj.1
  rw [Array.toList_map,ha.evals hxs]
 have hw:=Zde (b:=l) (o:=.loop L) (rest:=rest) hs
 have hget:(Instr.getLoop l).run P w=.ok L w:=by
  unfold Instr.getLoop
  simp only [Sem.run_bind,Zld (P:=P) hw (by intro c t f;simp),Result.andThen_ok]
  rfl
 simp only [execOp,resolve,ha.eval hx,Deferred.ofValue]
 simp only [Sem.run_bind,Sem.run_pure,Result.andThen_ok,invoke,Instr.yield,hget]
 simp [h1,hn,setTmps]
theorem TL.yield {l:Nat} {L:Loop} {xs:Array Operand} {vs:List Value} {tys:Array TypeId} {K:Value→List Ent→Prop} [TakeO As l (.loop L) rest] (hg:gOk ops e g=some true) (hN:Nat.blt d N.N=true) (hx:ev e x=some (.func (.yield l) #[] #[])) (hxs:evs e xs.toList=some vs) (hn:vs.length=L.params.size)
  (hy:YieldS P w0 l L vs As K) (h:∀ v As',K v As'→TL P N w0 ops r ((d,v)::e) As' Q):TL P N w0 ops (⟨some d,.call ⟨.value x,xs,tys⟩,ty,pos,af,g⟩::r) e As Q:=by
 refine Zez fun a w ha hs K' hK=>?_
 rw [gOk.wanted (o:=⟨some d,.call ⟨.value x,xs,tys⟩,ty,pos,af,g⟩) ha hg,if_pos rfl]
 have hrun:=Zpe (P:=P) (rest:=rest) (ty:=ty) (pos:=pos) (af:=af) (g:=g) (tys:=tys) (dd:=some d) hx hxs hn a w ha hs
 rw [Zbv hrun (by intro d;simp),hrun]
 refine ⟨fun h=>(by cases h),Zsk (RoundIn.mono (hy w hs) fun en w' ⟨v,As',h1,h2,h3⟩=>?_)⟩
 subst h1
 exact hK _ _ _ _ (h v As' h2) (ha.put hN v) h3
theorem T1.yield {i:Nat} {t:Tree} {Rs:RsP} {l:Nat} {L:Loop} {xs:Array Operand} {vs:List Value} {tys:Array TypeId} {K:Value→List Ent→Prop} [TakeO As l (.loop L) rest] (ho:ops[i]?=some ⟨some d,.call ⟨.value x,xs,tys⟩,ty,pos,af,g⟩) (hg:gOk ops e g=some true) (hN:Nat.blt d N.N=true)
  (hx:ev e x=some (.func (.yield l) #[] #[])) (hxs:evs e xs.toList=some vs) (hn:vs.length=L.params.size)
  (hy:YieldS P w0 l L vs As K) (h:∀ v As',K v As'→TC P N w0 ops Rs i t ((d,v)::e) As' Q):T1 P N w0 ops Rs i t e As Q:=by
 unfold T1
 intro hsel fuel listed hd hok a w ha hs
 unfold wpOpIn
 simp only [ho]
 rw [gOk.wanted (o:=⟨some d,.call ⟨.value x,xs,tys⟩,ty,pos,af,g⟩) ha hg,if_pos rfl]
 have hrun:=Zpe (P:=P) (rest:=rest) (ty:=ty) (pos:=pos) (af:=af) (g:=g) (tys:=tys) (dd:=some d) hx hxs hn a w ha hs
 refine ⟨fun _ _=>trivial,?_⟩
 show Oper.uponIn (fen N.ro) 0 P _ a _ Q ((Oper.semAt N.ro a.eval _).run P w)
 rw [Zbv hrun (by intro d;simp),hrun]
 refine ⟨fun h=>(by cases h),Zsk (RoundIn.mono (hy w hs) fun en w' ⟨v,As',h1,h2,h3⟩=>?_)⟩
 subst h1
 exact (h v As' h2).out hsel hd hok (ha.put hN v) h3

theorem Zng {l:Nat} {L:Loop} {vs:List Value} {Bs:List Ent} {K K':Value→List Ent→Prop} (k:YieldS P w0 l L vs Bs K) (h:Ents As Bs) (hk:∀ v A,K v A→∃ A',K' v A'∧Ents A A'):YieldS P w0 l L vs As K':=fun w hs =>
 RoundIn.mono (k w (h w0 w hs)) fun en w' ⟨v,A,h1,h2,h3⟩=>by
  obtain ⟨A',g1,g2⟩:=hk v A h2
  exact ⟨v,A',h1,g1,g2 _ _ h3⟩
/-! a round, out of its code -/
def penv:List Tmp→List Value→Env
 | p::ps,v::vs=>(p,v)::penv ps vs
 | _,_=>[]
theorem Ze6 (ps:List Tmp) (vs:List Value) (tmps:Array Value):setTmps ps.toArray vs.toArray tmps=(ps.zip vs).foldl (fun t x=>t.setIfInBounds x.1 x.2) tmps:=by
 unfold setTmps
 rw [← Array.foldl_toList,Array.toList_zip]
theorem Zom {n:Nat} {l:Option Nat}:∀ (ps:List Tmp) (vs:List Value) (tmps:Array Value) (e:Env),OkA ⟨n,l,[]⟩ ⟨tmps,[]⟩ e→ps.all (Nat.blt · n)=true→ps.Nodup→OkA ⟨n,l,[]⟩ ⟨setTmps ps.toArray vs.toArray tmps,[]⟩ (penv ps vs++e)
 | [],vs,tmps,e,h,_,_=>by simpa [Ze6,penv] using h
 | p::ps,[],tmps,e,h,_,_=>by simpa [Ze6,penv] using h
 | p :: ps,v::vs,tmps,e,h,hb,hn=>by
  simp only [List.all_cons,Bool.and_eq_true] at hb
  have h1:OkA ⟨n,l,[]⟩ ⟨tmps.setIfInBounds p v,[]⟩ ((p,v)::e):=h.put hb.1 v
  have h2:=Zom ps vs _ _ h1 hb.2 (List.nodup_cons.1 hn).2
  have e1:setTmps (p::ps).toArray (v::vs).toArray tmps=setTmps ps.toArray vs.toArray (tmps.setIfInBounds p v):=by rw [Ze6,Ze6];rfl
  rw [e1]
  refine ⟨h2.defers,h2.size,fun k u hk=>?_⟩
  simp only [penv,List.cons_append,Env.get] at hk
  have hpn:p ∉ ps:=(List.nodup_cons.1 hn).1
  have key:∀ (ps:List Tmp) (vs:List Value),p ∉ ps→((penv ps vs++(p,v)::e).get p=some v):=by
   intro ps
   induction ps with
   | nil=>intro vs _;simp [penv,Env.get]
   | cons q qs ih =>
    intro vs hq
    cases vs with
    | nil=>simp [penv,Env.get]
    | cons u us =>
     simp only [List.mem_cons,not_or] at hq
     have:Nat.beq q p=false:=by
      cases hb:Nat.beq q p with
      | false=>rfl
      | true=>exact absurd (Nat.eq_of_beq_eq_true hb).symm hq.1
     simp only [penv,List.cons_append,Env.get,this,cond_false]
     exact ih us hq.2
  have key2:∀ (ps:List Tmp) (vs:List Value) (k:Nat),Nat.beq p k=false→((penv ps vs++(p,v)::e).get k=(penv ps vs++e).get k):=by
   intro ps
   induction ps with
   | nil=>intro vs k hk;simp [penv,Env.get,hk]
   | cons q qs ih =>
    intro vs k hk
    cases vs with
    | nil=>simp [penv,Env.get,hk]
    | cons u us=>simp only [penv,List.cons_append,Env.get];rw [ih us k hk]
  cases hq:Nat.beq p k with
  | true =>
   rw [hq] at hk
   simp only [cond_true,Option.some.injEq] at hk
   subst hk
   rw [← Nat.eq_of_beq_eq_true hq]
   exact h2.holds p _ (key ps vs hpn)
  | false =>
   rw [hq] at hk
   exact h2.holds k u (by rw [key2 ps vs k hq];exact hk)
def RK (w0:World) (K:Value→List Ent→Prop) (en:Ending) (w':World):Prop:=∃ v As',en=.returned v∧K v As'∧St w0 w' As'
def RA (P:Program) (w0:World) (l:Nat) (body:Code) (K:Value→List Ent→Prop):Exit→Act→World→Prop :=
 Exit.then (fun a₁ w₁=>∃ w₂,(Instr.beginRound l).run P w₁=.ok () w₂∧body.wpIn (fen (some l)) 0 P (roundPost P l (RK w0 K)) a₁ w₂) (fun _ _ _=>False)
instance {l:Nat} {K:Value→List Ent→Prop} {body:Code}:PanicOk (RA P w0 l body K):=⟨fun _ _ _ _ _ h=>h⟩
theorem YieldS.of {n l:Nat} {L:Loop} {ps:List Tmp} {vs:List Value} {K:Value→List Ent→Prop} {ca cb:Code} (hps:L.params=ps.toArray) (hca:L.assign=ca) (hcb:L.body=cb) (hb:ps.all (Nat.blt · n)=true) (hn:ps.Nodup) (ha:OkA ⟨n,some l,[]⟩ ⟨L.tmps,[]⟩ e)
  (h:Tri P ⟨n,some l,[]⟩ w0 ca (penv ps vs++e) As (RA P w0 l cb K)):YieldS P w0 l L vs As K:=by
 intro w hs
 subst hca hcb
 rw [hps]
 exact roundIn_of_wpIn (F:=fen none) trivial (h.out _ w (Zom ps vs L.tmps e ha hb hn) hs)
theorem Zih {l:Nat} {L:Loop} {w:World} (h:w.heap[l]?=some (.loop L)):(Instr.getLoop l).run P w=.ok L w:=by
 unfold Instr.getLoop
 simp only [Sem.run_bind,Zld (P:=P) h (by intro c t f;simp),Result.andThen_ok]
 rfl
theorem Post.beginRound {n l:Nat} {L:Loop} {body:Code} {K:Value→List Ent→Prop} [TakeO As l (.loop L) rest] (hst:L.state=.ready) (h:Tri P ⟨n,some l,[]⟩ w0 body e (.ob l (.loop { L with state:=.busy })::rest) (roundPost P l (RK w0 K))) :
  Post ⟨n,some l,[]⟩ w0 (RA P w0 l body K) .normal e As:=Post.mk fun a w ha hs=>by
 have hw:=Zde (b:=l) (o:=.loop L) (rest:=rest) hs
 refine ⟨_,?_,h.out a _ ha (Zgj (o:=.loop L) (rest:=rest) hs (.loop { L with state:=.busy }))⟩
 unfold Instr.beginRound
 simp only [Sem.run_bind,Zih hw,Result.andThen_ok,Zhf (P:=P) hw (by intro c t f;simp),hst]
 rfl
theorem Zgu {l:Nat} {L:Loop} {w:World} {j:Option Code} (h:w.heap[l]?=some (.loop L)) :
  (Instr.endRound l j).run P w=.ok (.bool j.isNone) { w with heap:=w.heap.setIfInBounds l (.loop { L with state:=if j.isNone then .ready else .done,pending:=j }) }:=by
 unfold Instr.endRound
 simp only [Sem.run_bind,Zih h,Result.andThen_ok,Zhf (P:=P) h (by intro c t f;simp)]
 rfl
theorem Post.endRound {l:Nat} {L:Loop} {K:Value→List Ent→Prop} [TakeO As l (.loop L) rest] (h:∃ As',K (.bool true) As'∧Ents (.ob l (.loop { L with state:=.ready,pending:=none })::rest) As'):Post N w0 (roundPost P l (RK w0 K)) .normal e As:=Post.mk fun a w ha hs=>by
 have hw:=Zde (b:=l) (o:=.loop L) (rest:=rest) hs
 obtain ⟨As',hk,hA⟩:=h
 exact ⟨_,_,Zgu hw,_,As',rfl,hk,hA _ _ (Zgj (o:=.loop L) (rest:=rest) hs _)⟩
theorem Zb6 {l:Nat} {L:Loop} {K:Value→List Ent→Prop} [TakeO As l (.loop L) rest] (h:∃ As',K (.bool false) As'∧Ents (.ob l (.loop { L with state:=.done,pending:=some .ret })::rest) As'):Post N w0 (roundPost P l (RK w0 K)) .ret e As:=Post.mk fun a w ha hs=>by
 have hw:=Zde (b:=l) (o:=.loop L) (rest:=rest) hs
 obtain ⟨As',hk,hA⟩:=h
 exact ⟨_,_,Zgu hw,_,As',rfl,hk,hA _ _ (Zgj (o:=.loop L) (rest:=rest) hs _)⟩
/-! the statement -/
def mark (rb:Nat):Deferred:={ target:=.collected rb,args:=#[] }
theorem Zdr {n:Nat} {ds:List Deferred} {gx:Operand} {ps:Array Tmp} {assign body:Code} {f:FuncId} {cap:List Value} [Body P f] (hg:ev e gx=some (.func (.func f) #[] cap.toArray)) (R:Option Code→List Ent→Prop)
  (hc : ∀ (L:Loop) (l rb:Nat),L.state=.ready→L.pending=none→L.params=ps→L.assign=assign→L.body=body→OkA ⟨n,some l,[]⟩ ⟨L.tmps,[]⟩ e →
   CallsS P w0 f (.func (.yield l) #[] #[]::cap) (.ob l (.loop L)::.ob rb (.deferred (some []))::As)
    (fun _ Bs=>∃ st pd As',R pd As'∧st≠.busy∧Ents Bs (.ob l (.loop { L with state:=st,pending:=pd })::.ob rb (.deferred (some []))::As')))
  (hn:∀ As',R none As'→∀ rb,Post ⟨n,none,mark rb::ds⟩ w0 Q .normal e (.ob rb (.deferred (some []))::As'))
  (hj:∀ c As',R (some c) As'→∀ rb,Tri P ⟨n,none,mark rb::ds⟩ w0 c e (.ob rb (.deferred (some []))::As') Q) :
  Tri P ⟨n,none,ds⟩ w0 (.rangeFunc gx ps assign body) e As Q:=Tri.mk fun a w ha hs=>by
 refine wpIn_rangeFunc (F:=fen none) fun fn _=>?_
 have hs1:=hs.alloc_ob (.deferred (some []))
 have hs2:=hs1.alloc_ob (.loop ⟨.ready,none,fn,a.tmps,ps,assign,body,w.heap.size⟩)
 refine ⟨w.heap.size+1,[mark w.heap.size],(w.alloc (.deferred (some []))).alloc (.loop ⟨.ready,none,fn,a.tmps,ps,assign,body,w.heap.size⟩),⟨.fn (.func f) cap.toArray,#[.func (.yield (w.heap.size+1)) #[] #[]]⟩,
  (w.alloc (.deferred (some []))).alloc (.loop ⟨.ready,none,fn,a.tmps,ps,assign,body,w.heap.size⟩),f,(.func (.yield (w.heap.size+1)) #[] #[]::cap).toArray,(w.alloc (.deferred (some []))).alloc (.loop ⟨.ready,none,fn,a.tmps,ps,assign,body,w.heap.size⟩),?_,?_,fun _ _=>trivial,?_,fun h=>(by cases h),?_⟩
 ·show (Instr.enterLoop fn a.tmps ps assign body none).run P w=_
  simp [Instr.enterLoop,mark]
 ·have hg':=ha.eval hg
  unfold rangeCall
  simp only [resolve,hg',Deferred.ofValue,Sem.run_pure]
  simp [Act.eval]
 ·have:=(inferInstance:Body P f).run (#[.func (.yield (w.heap.size+1)) #[] #[]]++cap.toArray) ((w.alloc (.deferred (some []))).alloc (.loop ⟨.ready,none,fn,a.tmps,ps,assign,body,w.heap.size⟩))
  simpa [invoke] using this
 ·have hok:OkA ⟨n,some (w.heap.size+1),[]⟩ ⟨a.tmps,[]⟩ e:=⟨rfl,ha.size,ha.holds⟩
  rw [World.size_alloc] at hs2
  refine Zew (((hc ⟨.ready,none,fn,a.tmps,ps,assign,body,w.heap.size⟩ (w.heap.size+1) w.heap.size rfl rfl rfl rfl rfl hok).out _ hs2).mono fun en w' ⟨v,Bs,h1,⟨st,pd,As',hR,hst,hE⟩,h3⟩=>?_)
  subst h1
  have h4:=hE _ _ h3
  have hw:=Zde (As:=.ob (w.heap.size+1) (.loop ⟨st,pd,fn,a.tmps,ps,assign,body,w.heap.size⟩)::.ob w.heap.size (.deferred (some []))::As') (b:=w.heap.size+1) (rest:=.ob w.heap.size (.deferred (some []))::As') h4
  have h5:=Zgj (As:=.ob (w.heap.size+1) (.loop ⟨st,pd,fn,a.tmps,ps,assign,body,w.heap.size⟩)::.ob w.heap.size (.deferred (some []))::As') (b:=w.heap.size+1) (rest:=.ob w.heap.size (.deferred (some []))::As') h4 (.loop ⟨.exhausted,pd,fn,a.tmps,ps,assign,body,w.heap.size⟩)
  have h6:=Zb3 _ _ h5
  have hoka:OkA ⟨n,none,mark w.heap.size::ds⟩ { a with defers:=[mark w.heap.size]++a.defers } e:=⟨by simp [ha.defers],ha.size,ha.holds⟩
  refine ⟨pd,{ w' with heap:=w'.heap.setIfInBounds (w.heap.size+1) (.loop ⟨.exhausted,pd,fn,a.tmps,ps,assign,body,w.heap.size⟩) },?_,?_⟩
  ·unfold Instr.endLoop
   simp only [Sem.run_bind,Zih hw,Result.andThen_ok]
   cases st<;>first|exact absurd rfl hst|(simp [Zhf (P:=P) hw (by intro c t f;simp)];done)|(show ((if (_:Bool)=true then _ else _):Sem (Option Code)).run P w'=_;simp [Zhf (P:=P) hw (by intro c t f;simp)])
  ·cases pd with
   | none=>exact (hn As' hR w.heap.size).out _ _ hoka h6
   | some c=>exact (hj c As' hR w.heap.size).out _ _ hoka h6
theorem Zb0 {n:Nat} {ds:List Deferred} {fn:Func} {K:Value→List Ent→Prop} {rb:Nat} [TakeO As rb (.deferred (some [])) rest] (h:Post ⟨n,none,ds⟩ w0 (FQ P w0 fn K) .ret e rest):Post ⟨n,none,mark rb::ds⟩ w0 (FQ P w0 fn K) .ret e As:=Post.mk fun a w ha hs=>by
 have hw:=Zde (As:=As) (b:=rb) (o:=.deferred (some [])) (rest:=rest) hs
 have h1:=Zb3 _ _ (Zgj (As:=As) (b:=rb) (o:=.deferred (some [])) (rest:=rest) hs (.deferred none))
 have h2:=h.out { a with defers:=ds } _ ⟨rfl,ha.size,ha.holds⟩ h1
 show LeavesInM (fen none) 0 P fn a.tmps _ a.defers .returning w
 rw [ha.defers]
 refine ⟨by simp,.inl ⟨rb,_,rfl,?_,h2⟩⟩
 unfold Instr.takeDeferred
 simp only [Sem.run_bind,Zld (P:=P) hw (by intro c t f;simp),Result.andThen_ok,Zhf (P:=P) hw (by intro c t f;simp)]
 rfl
end
attribute [irreducible] YieldS
end Go.Sx
namespace Go.Sx
open Go
set_option linter.unusedSectionVars false
section
variable {κ ν:Type} [DecidableEq κ]
def mapEs (ck:κ→Value) (cv:ν→Value):List (κ × ν)→Nat→List MapEntry
 | [],_=>[]
 | x::l,i=>⟨ck x.1,cv x.2,i⟩::mapEs ck cv l (i+1)
def mapO (ck:κ→Value) (cv:ν→Value) (l:List (κ × ν)):Obj:=.map (mapEs ck cv l 0).toArray l.length
def mGet:List (κ × ν)→κ→Option ν
 | [],_=>none
 | x::l,k=>if x.1=k then some x.2 else mGet l k
def mIdx:List (κ × ν)→κ→Nat
 | [],_=>0
 | x::l,k=>if x.1=k then 0 else mIdx l k+1
def mSet:List (κ × ν)→κ→ν→List (κ × ν)
 | [],k,v=>[(k,v)]
 | x::l,k,v=>if x.1=k then (k,v)::l else x::mSet l k v
def mTouch (l:List (κ × ν)) (k:κ) (z:ν):List (κ × ν):=mSet l k ((mGet l k).getD z)
theorem Zhk {l:List (κ × ν)} {k k':κ} {v:ν}:mGet (mSet l k v) k'=if k=k' then some v else mGet l k':=by
 induction l with
 | nil=>simp [mSet,mGet]
 | cons x l ih =>
  simp only [mSet]
  by_cases h:x.1=k
  ·rw [if_pos h]
   simp only [mGet]
   by_cases h':k=k'
   ·simp [h']
   ·rw [if_neg h',if_neg h',if_neg (by rw [h];exact h')]
  ·rw [if_neg h]
   simp only [mGet,ih]
   by_cases h':k=k'
   ·subst h';simp [h]
   ·simp [h']
theorem Zzx {l:List (κ × ν)} {k:κ} {z v:ν}:mSet (mTouch l k z) k v=mSet l k v:=by
 unfold mTouch
 generalize (mGet l k).getD z=u
 induction l with
 | nil=>simp [mSet]
 | cons x l ih =>
  simp only [mSet]
  by_cases h:x.1=k
  ·simp [h,mSet]
  ·simp [h,mSet,ih]
theorem Zfb {ck:κ→Value} {cv:ν→Value}:∀ {l:List (κ × ν)} {i:Nat},(mapEs ck cv l i).length=l.length
 | [],_=>rfl
 | x::l,i=>by simp [mapEs,Zfb (l:=l)]
theorem Zd0 {ck:κ→Value} {cv:ν→Value}:∀ {l:List (κ × ν)} {i j:Nat},(mapEs ck cv l i)[j]?=(l[j]?).map fun x=>⟨ck x.1,cv x.2,i+j⟩
 | [],_,_=>by simp [mapEs]
 | x::l,i,0=>by simp [mapEs]
 | x::l,i,j+1=>by simp [mapEs,Zd0 (l:=l),Nat.add_assoc,Nat.add_comm 1]
theorem Zqn {l:List (κ × ν)} {k:κ} {v:ν} (h:mGet l k=some v):mIdx l k < l.length∧l[mIdx l k]?=some (k,v):=by
 induction l with
 | nil=>cases h
 | cons x l ih =>
  simp only [mGet,mIdx] at h ⊢
  by_cases hx:x.1=k
  ·rw [if_pos hx] at h ⊢
   cases h;subst hx
   simp
  ·rw [if_neg hx] at h ⊢
   have:=ih h
   exact ⟨by simpa using this.1,by simpa using this.2⟩
theorem Zje {l:List (κ × ν)} {k:κ} {v u:ν} (h:mGet l k=some v):mSet l k u=l.set (mIdx l k) (k,u):=by
 induction l with
 | nil=>cases h
 | cons x l ih =>
  simp only [mGet,mIdx,mSet] at h ⊢
  by_cases hx:x.1=k
  ·simp [hx]
  ·rw [if_neg hx] at h ⊢
   simp [hx,ih h]
theorem Zfc {l:List (κ × ν)} {k:κ} {u:ν} (h:mGet l k=none):mSet l k u=l++[(k,u)]:=by
 induction l with
 | nil=>rfl
 | cons x l ih =>
  simp only [mGet,mSet] at h ⊢
  by_cases hx:x.1=k
  ·rw [if_pos hx] at h;cases h
  ·rw [if_neg hx] at h
   simp [hx,ih h]
theorem Z7e {l:List (κ × ν)} {k:κ} (h:mGet l k=none):mIdx l k=l.length:=by
 induction l with
 | nil=>rfl
 | cons x l ih =>
  simp only [mGet,mIdx] at h ⊢
  by_cases hx:x.1=k
  ·rw [if_pos hx] at h;cases h
  ·rw [if_neg hx] at h
   simp [hx,ih h]
theorem Z7d {l:List (κ × ν)} {k:κ} {u:ν}:mIdx (mSet l k u) k=mIdx l k:=by
 induction l with
 | nil=>simp [mSet,mIdx]
 | cons x l ih =>
  simp only [mSet]
  by_cases hx:x.1=k
  ·simp [hx,mIdx]
  ·simp [hx,mIdx,ih]
theorem Zs6 {ck:κ→Value} {cv:ν→Value} {k:κ} {u:ν}:∀ {l:List (κ × ν)} {i j:Nat},j < l.length→mapEs ck cv (l.set j (k,u)) i=(mapEs ck cv l i).set j ⟨ck k,cv u,i+j⟩
 | x::l,i,0,_=>by simp [mapEs]
 | x::l,i,j+1,h=>by
  have h':j < l.length:=by simpa using h
  simp [mapEs,Zs6 (l:=l) h',Nat.add_assoc,Nat.add_comm 1]
theorem Zg2 {ck:κ→Value} {cv:ν→Value} {y:κ × ν}:∀ {l:List (κ × ν)} {i:Nat},mapEs ck cv (l++[y]) i=mapEs ck cv l i++[⟨ck y.1,cv y.2,i+l.length⟩]
 | [],i=>by simp [mapEs]
 | x::l,i=>by simp [mapEs,Zg2 (l:=l),Nat.add_assoc,Nat.add_comm 1]

class KeyT (P:Program) (kt:TypeId) (κ:Type) [DecidableEq κ] (ck:κ→Value):Prop where
 check:∀ (em:Bool) (k:κ) (w:World),(Instr.checkKey em 10000 kt (ck k)).run P w=.ok () w
 same:∀ k:κ,Instr.sameBits 10000 (ck k) (ck k)=true
 find:∃ d,P.underlying kt=some d∧((∀ a b:κ,Instr.sameNow d (ck a) (ck b)=some (decide (a=b))) ∨
  ((∀ a b:κ,Instr.sameNow d (ck a) (ck b)=none)∧∀ (a b:κ) (w:World),(Op.equal kt (ck a) (ck b)).run P w=.ok (decide (a=b)) w))
class EncV {α:Type} (f:α→Value) (v:Value) (x:outParam α):Prop where
 h:v=f x
instance (priority:=low) EncV.same {α:Type} {f:α→Value} {x:α}:EncV f (f x) x:=⟨rfl⟩
variable {P:Program} {w:World} {kt:TypeId} {ck:κ→Value} {cv:ν→Value}
theorem Zpd {d:TypeDesc} (h:∀ a b:κ,Instr.sameNow d (ck a) (ck b)=some (decide (a=b))) (k:κ):∀ (l:List (κ × ν)) (i j:Nat),Instr.findNow d (ck k) (mapEs ck cv l i) j=some ((mGet l k).map fun v=>(mIdx l k+j,cv v))
 | [],i,j=>rfl
 | x :: l,i,j=>by
  simp only [mapEs,Instr.findNow,h,mGet,mIdx]
  by_cases hx:x.1=k
  ·simp [hx]
  ·have hx':¬ k=x.1:=fun e=>hx e.symm
   simp only [hx,hx',decide_false,if_false,Zpd h k l (i+1) (j+1)]
   cases mGet l k<;>simp [Nat.add_assoc,Nat.add_comm 1]
theorem Zjk (h:∀ (a b:κ) (w:World),(Op.equal kt (ck a) (ck b)).run P w=.ok (decide (a=b)) w) (k:κ):∀ (l:List (κ × ν)) (i j:Nat),(Instr.findAsking kt (ck k) (mapEs ck cv l i) j).run P w=.ok ((mGet l k).map fun v=>(mIdx l k+j,cv v)) w
 | [],i,j=>rfl
 | x :: l,i,j=>by
  simp only [mapEs,Instr.findAsking,Sem.run_bind,h,Result.andThen_ok,mGet,mIdx]
  by_cases hx:x.1=k
  ·simp [hx]
  ·have hx':¬ k=x.1:=fun e=>hx e.symm
   simp only [hx,hx',decide_false,if_false,Bool.false_eq_true,Zjk h k l (i+1) (j+1)]
   cases mGet l k<;>simp [Nat.add_assoc,Nat.add_comm 1]
theorem Zle [K:KeyT P kt κ ck] (l:List (κ × ν)) (k:κ):(Instr.findKey kt (ck k) (mapEs ck cv l 0)).run P w=.ok ((mGet l k).map fun v=>(mIdx l k,cv v)) w:=by
 obtain ⟨d,hd,h⟩:=K.find
 unfold Instr.findKey
 simp only [Sem.run_bind,run_underlying hd,Result.andThen_ok]
 rcases h with h|⟨h1,h2⟩
 ·rw [Zpd h];rfl
 ·cases l with
  | nil=>rfl
  | cons x l =>
   simp only [mapEs,Instr.findNow,h1]
   exact Zjk h2 k (x::l) 0 0
theorem Zsh [K:KeyT P kt κ ck] (k:κ):(Instr.keyThatStays (ck k) (ck k)).run P w=.ok (ck k) w:=by
 unfold Instr.keyThatStays
 rw [if_pos (K.same k)]
 rfl
end
section
variable {κ ν:Type} [DecidableEq κ] {P:Program} {N:Ctx} {w0:World} {e:Env} {As rest:List Ent} {ty:TypeId} {x y z:Operand} {ck:κ→Value} {cv:ν→Value}
theorem St.map {w:World} {b:Nat} {l:List (κ × ν)} [TakeO As b (mapO ck cv l) rest] (hs:St w0 w As):(getObj b).run P w=.ok (.map (mapEs ck cv l 0).toArray l.length) w:=by
 have hw:w.heap[b]?=some (mapO ck cv l):=by
  obtain ⟨H,bs,g⟩:=hs
  obtain ⟨bs',_,k⟩:=Sat.perm (inferInstance:TakeO As b (mapO ck cv l) rest).perm g.sat
  obtain ⟨_,_,hw,_⟩:=k
  exact hw
 unfold getObj
 simp only [Sem.run,hw]
 rfl
theorem Znk {w:World} {b:Nat} {l:List (κ × ν)} [h:TakeO As b (mapO ck cv l) rest] (hs:St w0 w As) (l':List (κ × ν)):St w0 { w with heap:=w.heap.setIfInBounds b (mapO ck cv l') } (.ob b (mapO ck cv l')::rest):=by
 obtain ⟨H,bs,g⟩:=Ents.perm h.perm w0 w hs
 obtain ⟨b1,b2,rfl,h1,h2⟩:=Sat.cons.1 g.sat
 obtain ⟨bs',hb1,hw,h3⟩:=h1
 simp only [Sat] at h3
 subst h3 hb1
 have hlt:b < w.heap.size:=(Array.getElem?_eq_some_iff.1 hw).1
 have hother:∀ k,k≠b→({ w with heap:=w.heap.setIfInBounds b (mapO ck cv l') }:World).heap[k]?=w.heap[k]?:=fun k hk=>by
  show (w.heap.setIfInBounds b _)[k]?=_
  rw [Array.getElem?_setIfInBounds,if_neg (Ne.symm hk)]
 have hb:∀ k,H k≠none→k≠b:=fun k hk he=>hk (by subst he;exact g.ap _ (List.mem_append_left _ (List.mem_singleton.2 rfl)))
 refine ⟨H,[b]++b2,by simpa using g.size,g.os,g.tape,g.output,fun k o hk=>?_,g.old,Sat.cons.2 ⟨[b],b2,rfl,⟨[],rfl,?_,rfl⟩,Sat.move (FH.le_refl H) h2 fun k hk=>hother k fun he=>?_⟩,g.nd,g.ap⟩
 ·rw [hother k (hb k (by rw [hk];simp))];exact g.fz k o hk
 ·show (w.heap.setIfInBounds b _)[b]?=_
  rw [Array.getElem?_setIfInBounds,if_pos rfl,if_pos hlt]
 ·subst he
  exact (List.nodup_cons.1 g.nd).1 hk
theorem Zfn {w:World} {b:Nat} {l:List (κ × ν)} {es:Array MapEntry} {c:Nat} (h:(getObj b).run P w=.ok (.map (mapEs ck cv l 0).toArray l.length) w):(setObj b (.map es c)).run P w=.ok () { w with heap:=w.heap.setIfInBounds b (.map es c) }:=by
 unfold getObj at h
 unfold setObj
 simp only [Sem.run] at h ⊢
 cases hq:w.heap[b]? with
 | none=>rw [hq] at h;simp at h
 | some o =>
  rw [hq] at h
  cases o with
  | cells c t f=>simp at h
  | _=>rfl
theorem ExR.makeMap {t:TypeId} (ck:κ→Value) (cv:ν→Value):ExR P N w0 (.makeMap t none) ty e As (RB (fun b=>.map (some b)) (fun b=>.ob b (mapO ck cv ([]:List (κ × ν)))::As)):=by
 unfold ExR
 intro a w ha hs d pos af g
 refine ⟨_,w.alloc (mapO ck cv ([]:List (κ × ν))),_,?_,⟨w.heap.size,rfl,rfl⟩,St.alloc_ob hs _⟩
 simp [execOp,Instr.makeMap,newObj,mapO,mapEs]
 rfl
theorem ExF.lookup {t kt el:TypeId} {b n b':Nat} {l:List (κ × ν)} {zv u:Value} {k:κ} [UL P t (.map kt el)] [TI P el zv n b'] [K:KeyT P kt κ ck] (hx:ev e x=some (.map (some b))) [TakeO As b (mapO ck cv l) rest] (hy:ev e y=some u) [hk:EncV ck u k] :
  ExF P N w0 (.lookup t x y false) ty e As (((mGet l k).map cv).getD zv):=by
 unfold ExF
 intro a w ha hs d pos af g
 have h1:=St.map (P:=P) (w0:=w0) (w:=w) (As:=As) (b:=b) (l:=l) (ck:=ck) (cv:=cv) (rest:=rest) hs
 simp only [execOp,ha.eval hx,ha.eval hy,hk.h,Instr.lookup,Sem.run_bind,Zar,Result.andThen_ok,h1,K.check,Zle,Sem.run_pure]
 cases mGet l k<;>simp [Zlb]
theorem Zue {t kt el:TypeId} {b n b':Nat} {l:List (κ × ν)} {zv u:Value} {k:κ} [UL P t (.map kt el)] [TI P el zv n b'] [K:KeyT P kt κ ck] (hx:ev e x=some (.map (some b))) [TakeO As b (mapO ck cv l) rest] (hy:ev e y=some u) [hk:EncV ck u k] :
  ExF P N w0 (.lookup t x y true) ty e As (.tuple #[((mGet l k).map cv).getD zv,.bool (mGet l k).isSome]):=by
 unfold ExF
 intro a w ha hs d pos af g
 have h1:=St.map (P:=P) (w0:=w0) (w:=w) (As:=As) (b:=b) (l:=l) (ck:=ck) (cv:=cv) (rest:=rest) hs
 simp only [execOp,ha.eval hx,ha.eval hy,hk.h,Instr.lookup,Sem.run_bind,Zar,Result.andThen_ok,h1,K.check,Zle,Sem.run_pure]
 cases mGet l k<;>simp [Zlb]
theorem Zmo {l:List (κ × ν)} {k:κ} {v u:ν} (h:mGet l k=some v) (f:MapEntry→MapEntry) (hf:f ⟨ck k,cv v,mIdx l k⟩=⟨ck k,cv u,mIdx l k⟩):(mapEs ck cv l 0).toArray.modify (mIdx l k) f=(mapEs ck cv (mSet l k u) 0).toArray:=by
 obtain ⟨h1,h2⟩:=Zqn h
 rw [Zje h,Zs6 h1]
 apply Array.toList_inj.1
 apply List.ext_getElem?
 intro j
 rw [Array.toList_modify,List.getElem?_modify,List.getElem?_set]
 simp only [Zfb,h1]
 by_cases hj:mIdx l k=j
 ·subst hj
  simp [Zd0,h2,hf]
 ·simp [hj]
theorem ExU.mapUpdate {t kt el:TypeId} {b:Nat} {l:List (κ × ν)} {u u':Value} {k:κ} {v:ν} [UL P t (.map kt el)] [K:KeyT P kt κ ck] (hx:ev e x=some (.map (some b))) [TakeO As b (mapO ck cv l) rest] (hy:ev e y=some u) [hk:EncV ck u k] (hz:ev e z=some u') [hv:EncV cv u' v] :
  ExU P N w0 (.mapUpdate t x y z) ty e As (.ob b (mapO ck cv (mSet l k v))::rest):=by
 unfold ExU
 intro a w ha hs d pos af g
 have h1:=St.map (P:=P) (w0:=w0) (w:=w) (As:=As) (b:=b) (l:=l) (ck:=ck) (cv:=cv) (rest:=rest) hs
 refine ⟨_,?_,Znk (w0:=w0) (w:=w) (As:=As) (b:=b) (l:=l) (ck:=ck) (cv:=cv) (rest:=rest) hs (mSet l k v)⟩
 simp only [execOp,ha.eval hx,ha.eval hy,ha.eval hz,hk.h,hv.h,Instr.mapUpdate,Sem.run_bind,Zar,Result.andThen_ok,h1,K.check,Zle]
 cases hg:mGet l k with
 | none =>
  have e1:mapEs ck cv (mSet l k v) 0=mapEs ck cv l 0++[⟨ck k,cv v,l.length⟩]:=by rw [Zfc hg,Zg2];simp
  have e2:(mSet l k v).length=l.length+1:=by rw [Zfc hg];simp
  simp [Zfn h1,mapO,e1,e2]
 | some v0 =>
  obtain ⟨g1,g2⟩:=Zqn hg
  have e2:(mSet l k v).length=l.length:=by rw [Zje hg];simp
  have e3:((mapEs ck cv l 0).toArray[mIdx l k]?)=some ⟨ck k,cv v0,mIdx l k⟩:=by simp [Zd0,g2]
  have e4:=Zmo (ck:=ck) (cv:=cv) (u:=v) hg (fun e=>{ e with key:=ck k,val:=cv v }) rfl
  simp only [Option.map_some,e3,Option.getD_some,Sem.run_bind,Zsh (kt:=kt),Result.andThen_ok,Zfn h1,e4]
  simp [mapO,e2]
theorem ExR.mapEntry {t kt el:TypeId} {b n b':Nat} {l:List (κ × ν)} {zv u:Value} {k:κ} {zn:ν} [UL P t (.map kt el)] [TI P el zv n b'] [K:KeyT P kt κ ck] (hx:ev e x=some (.map (some b))) [TakeO As b (mapO ck cv l) rest] (hy:ev e y=some u) [hk:EncV ck u k] [hz:EncV cv zv zn] :
  ExR P N w0 (.mapEntry t x y) ty e As (fun v As'=>v=.tuple #[cv ((mGet l k).getD zn),.int .i64 (mIdx l k:Int)]∧As'=.ob b (mapO ck cv (mTouch l k zn))::rest):=by
 unfold ExR
 intro a w ha hs d pos af g
 have h1:=St.map (P:=P) (w0:=w0) (w:=w) (As:=As) (b:=b) (l:=l) (ck:=ck) (cv:=cv) (rest:=rest) hs
 refine ⟨_,_,_,?_,⟨rfl,rfl⟩,Znk (w0:=w0) (w:=w) (As:=As) (b:=b) (l:=l) (ck:=ck) (cv:=cv) (rest:=rest) hs (mTouch l k zn)⟩
 simp only [execOp,ha.eval hx,ha.eval hy,hk.h,Instr.mapEntry,Sem.run_bind,Zar,Result.andThen_ok,h1,K.check,Zle]
 cases hg:mGet l k with
 | none =>
  have e1:mapEs ck cv (mTouch l k zn) 0=mapEs ck cv l 0++[⟨ck k,cv zn,l.length⟩]:=by rw [mTouch,hg,Zfc hg,Zg2];simp
  have e2:(mTouch l k zn).length=l.length+1:=by rw [mTouch,Zfc hg];simp
  simp [Zfn h1,mapO,e1,e2,Zlb,hz.h,goInt,Z7e hg]
 | some v0 =>
  obtain ⟨g1,g2⟩:=Zqn hg
  have e2:(mTouch l k zn).length=l.length:=by rw [mTouch,Zje hg];simp
  have e3:((mapEs ck cv l 0).toArray[mIdx l k]?)=some ⟨ck k,cv v0,mIdx l k⟩:=by simp [Zd0,g2]
  have e4:=Zmo (ck:=ck) (cv:=cv) (u:=v0) hg (fun e=>{ e with key:=ck k }) rfl
  have e5:mTouch l k zn=mSet l k v0:=by rw [mTouch,hg];rfl
  simp only [Option.map_some,e3,Option.getD_some,Sem.run_bind,Zsh (kt:=kt),Result.andThen_ok,Zfn h1,e4]
  rw [e5] at e2
  simp [mapO,e2,e5,goInt]
theorem ExU.entryStore {t kt el:TypeId} {b:Nat} {l:List (κ × ν)} {u':Value} {k:κ} {v zn:ν} [UL P t (.map kt el)] (hx:ev e x=some (.map (some b))) [TakeO As b (mapO ck cv (mTouch l k zn)) rest] (hy:ev e y=some (.int .i64 (mIdx l k:Int))) (hz:ev e z=some u') [hv:EncV cv u' v] :
  ExU P N w0 (.entryStore t x y z) ty e As (.ob b (mapO ck cv (mSet l k v))::rest):=by
 unfold ExU
 intro a w ha hs d pos af g
 have h1:=St.map (P:=P) (w0:=w0) (w:=w) (As:=As) (b:=b) (l:=mTouch l k zn) (ck:=ck) (cv:=cv) (rest:=rest) hs
 refine ⟨_,?_,Znk (w0:=w0) (w:=w) (As:=As) (b:=b) (l:=mTouch l k zn) (ck:=ck) (cv:=cv) (rest:=rest) hs (mSet l k v)⟩
 have hg:mGet (mTouch l k zn) k=some ((mGet l k).getD zn):=by rw [mTouch,Zhk,if_pos rfl]
 have hi:mIdx (mTouch l k zn) k=mIdx l k:=by rw [mTouch,Z7d]
 obtain ⟨g1,g2⟩:=Zqn hg
 have e4:=Zmo (ck:=ck) (cv:=cv) (u:=v) hg (fun e=>{ e with val:=cv v }) rfl
 rw [Zzx,hi] at e4
 rw [hi] at g1 g2
 have e2:(mTouch l k zn).length=(mSet l k v).length:=by
  cases hq:mGet l k with
  | none=>rw [mTouch,Zfc hq,Zfc hq];simp
  | some _=>rw [mTouch,Zje hq,Zje hq];simp
 have hfind:(mapEs ck cv (mTouch l k zn) 0).toArray.findIdx? (fun e=>(e.born:Int) == (mIdx l k:Int))=some (mIdx l k):=by
  rw [Array.findIdx?_eq_some_iff_getElem]
  refine ⟨by simpa [Zfb] using g1,?_,fun j hj=>?_⟩
  ·have:(mapEs ck cv (mTouch l k zn) 0)[mIdx l k]?=some ⟨ck k,cv ((mGet l k).getD zn),0+mIdx l k⟩:=by rw [Zd0,g2];rfl
   obtain ⟨_,h3⟩:=List.getElem?_eq_some_iff.1 this
   simp [h3]
  ·have hj':j < (mTouch l k zn).length:=by omega
   have:(mapEs ck cv (mTouch l k zn) 0)[j]?=some ⟨ck (mTouch l k zn)[j].1,cv (mTouch l k zn)[j].2,0+j⟩:=by rw [Zd0,List.getElem?_eq_getElem hj'];rfl
   obtain ⟨_,h3⟩:=List.getElem?_eq_some_iff.1 this
   simp [h3]
   omega
 simp only [execOp,ha.eval hx,ha.eval hy,ha.eval hz,hv.h,Instr.entryStore,Sem.run_bind,h1,Result.andThen_ok,asInt,asIntOf,Sem.run_pure,hfind,Zfn h1,e4]
 simp [mapO,e2]
end
end Go.Sx
namespace Go.Sx
open Go
section
variable {P:Program} {N:Ctx} {w0:World} {e:Env} {As rest:List Ent} {ty:TypeId} {x y z:Operand} {v:Value} {α:Type} {c:Cod α} {xs:List α}

instance (priority:=low) RdIn.app {As Bs:List Ent} [h:RdIn As v α c xs]:RdIn (As++Bs) v α c xs:=⟨fun w0 w hs=>by
 obtain ⟨H,bs,g⟩:=hs
 obtain ⟨b1,b2,rfl,h1,h2⟩:=Sat.append.1 g.sat
 exact h.get w0 w ⟨H,b1,g.size,g.os,g.tape,g.output,g.fz,g.old,h1,(List.nodup_append.1 g.nd).1,fun b hb=>g.ap b (List.mem_append_left _ hb)⟩⟩
theorem Zas {f:FuncId} {args:List Value} {K:Value→List Ent→Prop} (v:Value) {α:Type} {c:Cod α} {xs:List α} [hr:RdIn As v α c xs] (h:v.oneCell'=true→CallsS P w0 f args As K):CallsS P w0 f args As K:=CallsS.mk fun w hs=>by
 obtain ⟨p,cap,hv,_⟩:=(hr.get w0 w hs).len
 exact (h (by rw [hv];rfl)).out w hs
class FtIn (As:List Ent) (v:Value) (α:outParam Type) (c:outParam (Cod α)) (xs:outParam (List α)):Prop where
 mem:Ent.ft (rd c v xs)∈As
instance FtIn.head {r:List Ent}:FtIn (.ft (rd c v xs)::r) v α c xs:=⟨List.mem_cons_self ..⟩
instance (priority:=low) FtIn.tl {u:Ent} {r:List Ent} [h:FtIn r v α c xs]:FtIn (u::r) v α c xs:=⟨List.mem_cons_of_mem _ h.mem⟩
instance (priority:=low) FtIn.toRd {As:List Ent} [h:FtIn As v α c xs]:RdIn As v α c xs:=⟨fun w0 w hs=>by
 obtain ⟨H,bs,g⟩:=hs
 have h1:(rd c v xs).p H:=Sat.fact g.sat h.mem
 rcases h1 with h1|⟨b,off,cap,front,rest,T,fr,h1,h2,h3,h4⟩
 ·exact .inl h1
 ·exact .inr ⟨b,off,cap,front,rest,T,fr,h1,h2,h3,g.fz _ _ h4⟩⟩
theorem Zkg {w:World} {f f':PF} (hs:St w0 w As) (hm:Ent.ft f∈As) (h:∀ H,f.p H→f'.p H):St w0 w (.ft f'::As):=by
 obtain ⟨H,bs,g⟩:=hs
 exact ⟨H,bs,g.size,g.os,g.tape,g.output,g.fz,g.old,⟨h H (Sat.fact g.sat hm),g.sat⟩,g.nd,g.ap⟩
theorem Zlc {t el:TypeId} {x:Value} {lo hi mx:Option Value} {w:World} [h:UL P t (.slice el)]:(Instr.sliceAt t x lo hi mx).run P w=(Instr.slice t x lo hi mx).run P w:=by
 simp [Instr.sliceAt,run_underlying h.h]
theorem Z10 {t el:TypeId} {zv:Value} {n b' lo hi:Nat} {p:Option Addr} {ln cap:Nat} {w:World} [UL P t (.slice el)] [TI P el zv n b'] {lo' hi':Option Value} (hl:(lo'=none∧lo=0)∨∃ k,lo'=some (.int k (lo:Int))) (hh:(hi'=none∧hi=ln)∨∃ k,hi'=some (.int k (hi:Int)))
  (h1:lo≤hi) (h2:hi≤ln) (h3:ln≤cap):(Instr.slice t (.slice p ln cap) lo' hi' none).run P w=.ok (subV n (.slice p ln cap) lo hi) w:=by
 have h4:hi≤cap:=Nat.le_trans h2 h3
 rcases hl with ⟨rfl,rfl⟩|⟨k,rfl⟩<;>rcases hh with ⟨rfl,rfl⟩|⟨k',rfl⟩<;>simp [Instr.slice,Instr.sliceBounds,Instr.sliceBound,asIntOf,Zar,Za9,subV,h1,h4]
theorem OwAt.sub {w:World} {T:TypeId} {b lo hi:Nat} (h:OwAt w c T v xs b) (h1:lo≤hi) (h2:hi≤xs.length):OwAt w c T (subV c.n v lo hi) ((xs.drop lo).take (hi - lo)) b:=by
 obtain ⟨off,cap,front,rest,rfl,g2,g3,g4,g5⟩:=h
 have hlen:((xs.drop lo).take (hi - lo)).length=hi - lo:=by simp;omega
 have e1:xs=xs.take lo++((xs.drop lo).take (hi - lo)++xs.drop hi):=by
  conv=>lhs;rw [← List.take_append_drop lo xs,← List.take_append_drop (hi - lo) (xs.drop lo),List.drop_drop]
  rw [show lo+(hi - lo)=hi from by omega]
 have e2:c.flat xs=c.flat (xs.take lo)++(c.flat ((xs.drop lo).take (hi - lo))++c.flat (xs.drop hi)):=by
  conv=>lhs;rw [e1]
  rw [Zaj,Zaj]
 by_cases hc:cap=lo
 ·subst hc
  have:hi=cap:=by omega
  subst this
  refine ⟨off,0,front,c.flat xs++rest,by simp [subV],g2,by simp,by simp,?_⟩
  rw [g5];simp [Zha]
 ·refine ⟨off+lo * c.n,cap - lo,front++c.flat (xs.take lo),c.flat (xs.drop hi)++rest,?_,?_,by rw [hlen];omega,?_,?_⟩
  ·simp only [subV,if_neg hc,Option.map_some,Zal,hlen]
  ·simp only [List.length_append,Zaf,List.length_take,g2]
   rw [Nat.min_eq_left (by omega)]
  ·have g4':=g4
   rw [e2] at g4'
   simp only [List.length_append,Zaf c (xs.take lo),List.length_take,Nat.min_eq_left (Nat.le_trans h1 h2)] at g4' ⊢
   rw [Nat.mul_sub,Nat.mul_comm c.n lo]
   omega
  ·rw [g5,e2];simp only [List.append_assoc]
theorem Znz {T:TypeId} {lo hi:Nat} (h1:lo≤hi) (h2:hi≤xs.length):Ents (.ow c T v xs::As) (.ow c T (subV c.n v lo hi) ((xs.drop lo).take (hi - lo))::As):=by
 rintro w0 w ⟨H,bs,g⟩
 refine ⟨H,bs,g.size,g.os,g.tape,g.output,g.fz,g.old,?_,g.nd,g.ap⟩
 rcases g.sat with ⟨⟨p,h3⟩,h4,hr⟩|⟨b,bs',rfl,ho,hr⟩
 ·subst h3 h4
  have e1:hi=0:=by simpa using h2
  subst e1
  have e2:lo=0:=by omega
  subst e2
  exact .inl ⟨⟨p,by simp [subV]⟩,by simp,hr⟩
 ·exact .inr ⟨b,bs',rfl,ho.sub h1 h2,hr⟩
def evLo (e:Env):Option Operand→Nat→Prop
 | none,i=>i=0
 | some y,i=>∃ k,ev e y=some (.int k (i:Int))
def evHi (e:Env) (n:Nat):Option Operand→Nat→Prop
 | none,i=>i=n
 | some y,i=>∃ k,ev e y=some (.int k (i:Int))
theorem Zq1:evLo e none 0:=rfl
theorem Zmz {n:Nat}:evHi e n none n:=rfl
theorem Zev {k:IntKind} {i:Nat} (h:ev e y=some (.int k (i:Int))):evLo e (some y) i:=⟨k,h⟩
theorem Zfh {k:IntKind} {i n:Nat} (h:ev e y=some (.int k (i:Int))):evHi e n (some y) i:=⟨k,h⟩
theorem evLo.run {a:Act} {lo:Option Operand} {i:Nat} (ha:OkA N a e) (h:evLo e lo i):(lo.map a.eval=none∧i=0)∨∃ k,lo.map a.eval=some (.int k (i:Int)):=by
 cases lo with
 | none=>exact .inl ⟨rfl,h⟩
 | some y=>obtain ⟨k,hk⟩:=h;exact .inr ⟨k,by simp [ha.eval hk]⟩
theorem evHi.run {a:Act} {hi:Option Operand} {i n:Nat} (ha:OkA N a e) (h:evHi e n hi i):(hi.map a.eval=none∧i=n)∨∃ k,hi.map a.eval=some (.int k (i:Int)):=by
 cases hi with
 | none=>exact .inl ⟨rfl,h⟩
 | some y=>obtain ⟨k,hk⟩:=h;exact .inr ⟨k,by simp [ha.eval hk]⟩
theorem Zkk {t el T:TypeId} {zv:Value} {n b' lo hi:Nat} {l h:Option Operand} [UL P t (.slice el)] [TI P el zv n b'] (hx:ev e x=some v) [ht:TakeW As v c T xs rest] (hcn:c.n=n) (hl:evLo e l lo) (hh:evHi e xs.length h hi) (h1:lo≤hi) (h2:hi≤xs.length) :
  ExR P N w0 (.slice t x l h none) ty e As (fun u As'=>u=subV n v lo hi∧As'=.ow c T u ((xs.drop lo).take (hi - lo))::rest):=by
 unfold ExR
 intro a w ha hs d pos af g
 have hs':=Ents.perm ht.perm w0 w hs
 obtain ⟨p,cap,hv,hcap⟩:=((inferInstance:RdIn (.ow c T v xs::rest) v α c xs).get w0 w hs').len
 refine ⟨_,w,_,?_,⟨rfl,rfl⟩,by rw [← hcn];exact Znz h1 h2 w0 w hs'⟩
 have:=Z10 (P:=P) (w:=w) (t:=t) (el:=el) (zv:=zv) (n:=n) (b':=b') (p:=p) (hl.run ha) (hh.run ha) h1 h2 hcap
 simp [execOp,ha.eval hx,hv,Zlc,this]
theorem Zkl {t el:TypeId} {zv:Value} {n b' lo hi:Nat} {l h:Option Operand} [UL P t (.slice el)] [TI P el zv n b'] (hx:ev e x=some v) [ht:FtIn As v α c xs] (hcn:c.n=n) (hl:evLo e l lo) (hh:evHi e xs.length h hi) (h1:lo≤hi) (h2:hi≤xs.length) :
  ExR P N w0 (.slice t x l h none) ty e As (fun u As'=>u=subV n v lo hi∧As'=.ft (rd c u ((xs.drop lo).take (hi - lo)))::As):=by
 unfold ExR
 intro a w ha hs d pos af g
 obtain ⟨p,cap,hv,hcap⟩:=((inferInstance:RdIn As v α c xs).get w0 w hs).len
 refine ⟨_,w,_,?_,⟨rfl,rfl⟩,Zkg hs ht.mem fun H hH=>by rw [← hcn];exact Rdb.sub hH h1 h2⟩
 have:=Z10 (P:=P) (w:=w) (t:=t) (el:=el) (zv:=zv) (n:=n) (b':=b') (p:=p) (hl.run ha) (hh.run ha) h1 h2 hcap
 simp [execOp,ha.eval hx,hv,Zlc,this]
theorem Z80 {k k':IntKind} {m n:Int} {tys:Array TypeId} (hx:ev e x=some (.int k m)) (hy:ev e y=some (.int k' n)):ExF P N w0 (.call ⟨.builtin .max,#[x,y],tys⟩) ty e As (.int k (if m < n then n else m)):=by
 unfold ExF
 intro a w ha hs d pos af g
 simp [execOp,ha.eval hx,ha.eval hy,resolve,invoke,builtin,Builtin.max_,Builtin.max2]
theorem Z8z {k k':IntKind} {m n:Int} {tys:Array TypeId} (hx:ev e x=some (.int k m)) (hy:ev e y=some (.int k' n)):ExF P N w0 (.call ⟨.builtin .min,#[x,y],tys⟩) ty e As (.int k (if n < m then n else m)):=by
 unfold ExF
 intro a w ha hs d pos af g
 simp [execOp,ha.eval hx,ha.eval hy,resolve,invoke,builtin,Builtin.min_,Builtin.min2]
end
section
variable {κ ν:Type} [DecidableEq κ] {P:Program} {N:Ctx} {w0:World} {e:Env} {As rest:List Ent} {ty:TypeId} {x y z:Operand} {ck:κ→Value} {cv:ν→Value}
theorem Zwq {t kt el:TypeId} {b n b':Nat} {l:List (κ × ν)} {zv u:Value} {k:κ} {v0:ν} [UL P t (.map kt el)] [TI P el zv n b'] [K:KeyT P kt κ ck] (hx:ev e x=some (.map (some b))) [TakeO As b (mapO ck cv l) rest] (hy:ev e y=some u) [hk:EncV ck u k] (hm:mGet l k=some v0) :
  ExF P N w0 (.lookup t x y false) ty e As (cv v0):=by
 have:=ExF.lookup (P:=P) (N:=N) (w0:=w0) (ty:=ty) (t:=t) (l:=l) (ck:=ck) (cv:=cv) (rest:=rest) (As:=As) (b:=b) hx hy
 rw [hm] at this
 exact this
theorem Zwr {t kt el:TypeId} {b n b':Nat} {l:List (κ × ν)} {zv u:Value} {k:κ} [UL P t (.map kt el)] [TI P el zv n b'] [K:KeyT P kt κ ck] (hx:ev e x=some (.map (some b))) [TakeO As b (mapO ck cv l) rest] (hy:ev e y=some u) [hk:EncV ck u k] :
  ExF P N w0 (.lookup t x y true) ty e As (.tuple #[((mGet l k).map cv).getD zv,.bool (decide ((mGet l k).isSome=true))]):=by
 have:=Zue (P:=P) (N:=N) (w0:=w0) (ty:=ty) (t:=t) (l:=l) (ck:=ck) (cv:=cv) (rest:=rest) (As:=As) (b:=b) hx hy
 simpa using this
end
section
variable {P:Program} {N:Ctx} {w0:World} {e:Env} {As rest:List Ent} {ty:TypeId} {x y z:Operand} {v:Value} {α:Type} {c:Cod α} {xs:List α}
/-! a part of a slice -/
theorem Z0u {t el:TypeId} {n lo hi:Nat} [UL P t (.slice el)] (hx:ev e x=some (subV n v lo hi)) [hr:RdIn As v α c xs]:ExF P N w0 (.call ⟨.builtin .len,#[x],#[t]⟩) ty e As (.int .i64 ((hi - lo:Nat):Int)):=by
 unfold ExF
 intro a w ha hs d pos af g
 obtain ⟨p,cap,hv,_⟩:=(hr.get w0 w hs).len
 have:subV n v lo hi=.slice (if cap=lo then p else p.map (·.add (lo * n))) (hi - lo) (cap - lo):=by rw [hv];simp [subV]
 simp [execOp,ha.eval hx,this,resolve,invoke,builtin,Builtin.len_,Zar,goInt]
theorem Z0v {t el:TypeId} {z':Value} {n m b' lo hi:Nat} [UL P t (.slice el)] [TI P el z' n b'] (hx:ev e x=some (subV m v lo hi)) [hr:RdIn As v α c xs] (hcn:c.n=n) (hm:m=n) {k:IntKind} {i:Nat} (hy:ev e y=some (.int k (i:Int))) (hlt:lo+i < hi) (hl:hi≤xs.length) :
  ExF P N w0 (.indexAddr t x y) ty e As (.pointer (some (elp n v (lo+i) 0))):=by
 unfold ExF
 intro a w ha hs d pos af g
 subst hm
 subst hcn
 have h:=hr.get w0 w hs
 rcases h with ⟨⟨_,rfl⟩,rfl⟩|⟨b,off,cap,front,rest,T,fr,rfl,h2,h3,h4⟩
 ·simp at hl;omega
 ·have hcl:¬ cap=lo:=by omega
  have:subV c.n (.slice (some ⟨b,off,none⟩) xs.length cap) lo hi=.slice (some ⟨b,off+lo * c.n,none⟩) (hi - lo) (cap - lo):=by simp [subV,hcl,Zal]
  have hi':i < hi - lo:=by omega
  simp [execOp,ha.eval hx,ha.eval hy,this,Instr.indexAt,asIntOf,Zar,hi',Za9,Zal,elp,Nat.add_mul,Nat.add_assoc]
end
end Go.Sx
