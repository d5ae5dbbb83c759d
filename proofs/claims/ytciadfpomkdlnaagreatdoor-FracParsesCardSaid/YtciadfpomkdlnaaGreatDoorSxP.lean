/- The engine: range over a map that is ours. -/
import Derived.Test.YtciadfpomkdlnaaGreatDoorSx8
import Derived.Maps.RangeRun
import Derived.Test.YtciadfpomkdlnaaGreatDoorSx9
import Derived.Laws.RangeAny
import Derived.Test.YtciadfpomkdlnaaGreatDoorSxA
set_option maxHeartbeats 1000000
namespace Go.Sx
open Go
set_option linter.unusedSectionVars false
section
variable {κ ν:Type} [DecidableEq κ] {P:Program} {N:Ctx} {w0:World} {e:Env} {As rest:List Ent} {ty:TypeId} {x:Operand} {ck:κ→Value} {cv:ν→Value}
end
end Go.Sx
namespace Go.Sx
open Go
section
variable {P:Program} {N:Ctx} {w0:World} {e:Env} {As rest:List Ent} {ty:TypeId} {x:Operand}
theorem Zmn {t:TypeId} {l:List UInt8} [hu:UL P t .string] (hx:ev e x=some (.string ⟨l.toArray⟩)) :
  ExR P N w0 (.range t x) ty e As (RB (fun r=>.pointer (some ⟨r,0,none⟩)) (fun r=>.ob r (.stringIter ⟨l.toArray⟩ 0)::As)):=by
 unfold ExR
 intro a w ha hs d pos af g
 have h2:=run_range_string (P:=P) w t ⟨l.toArray⟩ hu.h
 refine ⟨_,_,_,?_,⟨w.heap.size,rfl,rfl⟩,St.alloc_ob hs _⟩
 simp only [execOp,ha.eval hx,Sem.run_bind,h2,Result.andThen_ok]
 rfl
theorem Zn9 {r pos:Nat} {s:ByteArray} (hx:ev e x=some (.pointer (some ⟨r,0,none⟩))) [hi:TakeO As r (.stringIter s pos) rest] :
  ExR P N w0 (.next x true) ty e As (fun v As'=>(s.size≤pos∧v=.tuple #[.bool false]∧As'=As)∨(pos < s.size∧v=.tuple #[.bool true,.int .i64 (pos:Int),.int .i32 ((Utf8.decode s pos).1:Int)]∧As'=.ob r (.stringIter s (pos+(Utf8.decode s pos).2))::rest)):=by
 unfold ExR
 intro a w ha hs d ps af g
 have hr:=Zcn (b:=r) (o:=.stringIter s pos) (rest:=rest) hs
 by_cases hlt:pos < s.size
 ·have h2:=Zen (b:=r) (o:=.stringIter s pos) (rest:=rest) hs (.stringIter s (pos+(Utf8.decode s pos).2))
  refine ⟨_,_,_,?_,.inr ⟨hlt,rfl,rfl⟩,h2⟩
  simp [execOp,ha.eval hx,Instr.next,getObj,setObj,Sem.run_bind,Sem.run,hr,hlt,goInt]
 ·refine ⟨_,w,As,?_,.inl ⟨by omega,rfl,rfl⟩,hs⟩
  simp [execOp,ha.eval hx,Instr.next,getObj,Sem.run_bind,Sem.run,hr,hlt]
theorem Zep {t:TypeId} {l:List UInt8} {lo hi:Nat} {a b:Option Operand} [UL P t .string] (hx:ev e x=some (.string ⟨l.toArray⟩)) (hl:evLo e a lo) (hh:evHi e l.length b hi) (h1:lo≤hi) (h2:hi≤l.length) :
  ExF P N w0 (.slice t x a b none) ty e As (.string ⟨((l.drop lo).take (hi - lo)).toArray⟩):=by
 unfold ExF
 intro ac w ha hs d pos af g
 have h3:(⟨l.toArray⟩:ByteArray).extract lo hi=⟨((l.drop lo).take (hi - lo)).toArray⟩:=Lib.extract_eq _ lo hi
 have hsz:(⟨l.toArray⟩:ByteArray).size=l.length:=size_toArray l
 have hrun:∀ (lo' hi':Option Value),((lo'=none∧lo=0)∨∃ k,lo'=some (.int k (lo:Int)))→((hi'=none∧hi=l.length)∨∃ k,hi'=some (.int k (hi:Int)))→(Instr.sliceAt t (.string ⟨l.toArray⟩) lo' hi' none).run P w=.ok (.string ⟨((l.drop lo).take (hi - lo)).toArray⟩) w:=by
  intro lo' hi' hl hh
  rcases hl with ⟨rfl,rfl⟩|⟨k,rfl⟩<;>rcases hh with ⟨rfl,rfl⟩|⟨k',rfl⟩<;>simp only [Instr.sliceAt,Instr.slice,Instr.sliceBounds,Instr.sliceBound,asIntOf,Sem.run_bind,Zav,Result.andThen_ok,hsz]<;>simp [h1,h2,h3]
 simp [execOp,ha.eval hx,hrun _ _ (hl.run ha) (hh.run ha)]
theorem Zdt {t:TypeId} {l:List UInt8} {hi:Nat} {b:Option Operand} [UL P t .string] (hx:ev e x=some (.string ⟨l.toArray⟩)) (hh:evHi e l.length b hi) (h2:hi≤l.length) :
  ExF P N w0 (.slice t x none b none) ty e As (.string ⟨(l.take hi).toArray⟩):=by
 have h:=Zep (P:=P) (N:=N) (w0:=w0) (e:=e) (As:=As) (ty:=ty) (t:=t) (a:=none) (b:=b) (lo:=0) (hi:=hi) hx rfl hh (Nat.zero_le _) h2
 rwa [List.drop_zero,Nat.sub_zero] at h
theorem Zd6 {t:TypeId} {l:List UInt8} {lo:Nat} {a:Option Operand} [UL P t .string] (hx:ev e x=some (.string ⟨l.toArray⟩)) (hl:evLo e a lo) (h1:lo≤l.length) :
  ExF P N w0 (.slice t x a none none) ty e As (.string ⟨(l.drop lo).toArray⟩):=by
 have h:=Zep (P:=P) (N:=N) (w0:=w0) (e:=e) (As:=As) (ty:=ty) (t:=t) (a:=a) (b:=none) (lo:=lo) (hi:=l.length) hx hl rfl h1 (Nat.le_refl _)
 rwa [List.take_of_length_le (by rw [List.length_drop];omega)] at h
end
end Go.Sx
namespace Go.Sx
open Go
class TwoS (P:Program) (t:TypeId):Prop where
 h : ∃ (f g : Field) (ts us : TypeId), P.underlying t = some (.struct #[f, g]) ∧ f.name ≠ "_" ∧ g.name ≠ "_" ∧ f.offset = 0 ∧ g.offset = 1 ∧ f.type = ts ∧ g.type = us ∧ P.underlying ts = some .string ∧ P.underlying us = some .string
 h1:P.eqGuardType P.depth t=false
 h2:P.stoodInHeld t=false
section
variable {P:Program} {N:Ctx} {w0:World} {e:Env} {As:List Ent} {ty:TypeId} {x y:Operand} {w:World}
theorem Zui {t:TypeId} [UL P t .string] (d:Nat) (a b:List UInt8):(Op.equalIn (d+1) t (.string ⟨a.toArray⟩) (.string ⟨b.toArray⟩)).run P w=.ok (decide (a=b)) w:=by
 have h:((⟨a.toArray⟩:ByteArray) == ⟨b.toArray⟩)=decide (a=b):=by
  show (a.toArray == b.toArray)=decide (a=b)
  rw [Bool.eq_iff_iff,beq_iff_eq,decide_eq_true_eq]
  constructor
  ·intro h
   have:=congrArg Array.toList h
   simpa using this
  ·rintro rfl;rfl
 simp [Op.equalIn,Zav,h]
theorem Zjn {t:TypeId} [UL P t .string] (cs:Array Value) (i:Nat) {v:Value} (h:cs[i]?=some v):(part t cs i).run P w=.ok v w:=by
 simp [part,Zdf,aggB,h]
theorem Zor {t:TypeId} [hT:TwoS P t] (a b c d:List UInt8):(Op.equal t (.agg #[.string ⟨a.toArray⟩,.string ⟨b.toArray⟩]) (.agg #[.string ⟨c.toArray⟩,.string ⟨d.toArray⟩])).run P w=.ok (decide (a=c∧b=d)) w:=by
 obtain ⟨f,g,ts,us,h1,h2,h3,h4,h5,h6,h7,h8,h9⟩:=hT.h
 haveI:UL P t (.struct #[f,g]):=⟨h1⟩
 haveI:UL P ts .string:=⟨h8⟩
 haveI:UL P us .string:=⟨h9⟩
 have h10:=hT.h2
 have p0:∀ (a b:List UInt8),(part ts #[.string ⟨a.toArray⟩,.string ⟨b.toArray⟩] 0).run P w=.ok (.string ⟨a.toArray⟩) w:=fun a b=>Zjn _ _ rfl
 have p1:∀ (a b:List UInt8),(part us #[.string ⟨a.toArray⟩,.string ⟨b.toArray⟩] 1).run P w=.ok (.string ⟨b.toArray⟩) w:=fun a b=>Zjn _ _ rfl
 unfold Op.equal Op.maxDepth
 show (Op.equalIn (9998+1+1) t _ _).run P w=_
 unfold Op.equalIn
 simp only [Sem.run_bind,Zav,Result.andThen_ok]
 have hp:(program).run P w=.ok P w:=rfl
 simp only [hp,Result.andThen_ok,h10]
 by_cases e1:a=c<;>by_cases e2:b=d<;>simp [h2,h3,h4,h5,h6,h7,p0,p1,Zui,e1,e2]
theorem Zh5 {t:TypeId} [h:TwoS P t] (op:BinOp) (x y:Operand) (a b:Array Value):(eqGuard op t x y (.agg a) (.agg b)).run P w=.ok () w:=by
 unfold eqGuard
 cases op<;>simp [h.h1]
theorem Zi6 {t t':TypeId} [TwoS P t] {a b c d:List UInt8} (hx:ev e x=some (.agg #[.string ⟨a.toArray⟩,.string ⟨b.toArray⟩])) (hy:ev e y=some (.agg #[.string ⟨c.toArray⟩,.string ⟨d.toArray⟩])):ExF P N w0 (.binOp .eql t x y t') ty e As (.bool (decide (a=c∧b=d))):=by
 unfold ExF
 intro ac w ha hs dd pos af g
 have h1:∀ u v:Array Value,binOp .eql t (.agg u) (.agg v)=(do pure (.bool (← Op.equal t (.agg u) (.agg v)))):=fun _ _=>rfl
 simp only [execOp,ha.eval hx,ha.eval hy,Sem.run_bind,Zh5,Result.andThen_ok,h1,Zor]
 rfl
theorem Zi4 {t t':TypeId} [TwoS P t] {a b c d:List UInt8} (hx:ev e x=some (.agg #[.string ⟨a.toArray⟩,.string ⟨b.toArray⟩])) (hy:ev e y=some (.agg #[.string ⟨c.toArray⟩,.string ⟨d.toArray⟩])):ExF P N w0 (.binOp .neq t x y t') ty e As (.bool !(decide (a=c∧b=d))):=by
 unfold ExF
 intro ac w ha hs dd pos af g
 have h1:∀ u v:Array Value,binOp .neq t (.agg u) (.agg v)=(do pure (.bool (!(← Op.equal t (.agg u) (.agg v))))):=fun _ _=>rfl
 simp only [execOp,ha.eval hx,ha.eval hy,Sem.run_bind,Zh5,Result.andThen_ok,h1,Zor]
 rfl
end
end Go.Sx
