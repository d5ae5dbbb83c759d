/- The engine: append(v, make([]T, n). -/
import Derived.Test.YtlgdjjkiofcdmaaDoorSxB
set_option maxHeartbeats 1000000
namespace Go.Sx
open Go
section
variable {P:Program} {N:Ctx} {w0 w:World} {e:Env} {As rest:List Ent} {ty:TypeId} {x y:Operand} {v:Value} {α:Type} {c:Cod α} {xs:List α}
theorem Zep (w:World) (t tx ty el:TypeId) {k kk:IntKind} (i:TypeInfo) (z:Value) (ht:P.underlying t=some (.slice el)) (htx:P.underlying tx=some (.int k)) (hi:P.info? el=some i) (hz:i.zero=some z) (base:Option Addr) (sLen sCap:Nat) (olds:List Value)
  (hold:(Builtin.firstCells i.size sLen (.slice base sLen sCap)).run P w.drew=.ok olds.toArray w.drew) (n:Nat) (hn0:n * i.size≠0) (hn6:(n:Int)≤9223372036854775807) (hnb:(n:Int) * (i.bytes:Int)≤281474976710656)
  (hg:sCap < sLen+n) (h63:((sLen+n:Nat):Int)≤9223372036854775807) (hfit:Builtin.nextslicecap (sLen+n) sCap * i.bytes≤281474976710656) :
  (Builtin.append_ #[t,tx] ty #[.slice base sLen sCap,.int kk (n:Int)]).run P w =
   .ok (.slice (some ⟨w.heap.size,0,none⟩) (sLen+n) (grownCap w (sLen+n) sCap el))
        (w.drew.alloc (.cells ((olds++(Builtin.zeroCells z.cells n).toList).toArray++Builtin.zeroCells z.cells (grownCap w (sLen+n) sCap el - (sLen+n))) el)):=by
 have hn:¬ (sLen+n≤sCap):=by omega
 have h63':¬ (9223372036854775807 < ((sLen:Int)+(n:Int))):=by omega
 have h48':¬ (281474976710656 < Builtin.nextslicecap (sLen+n) sCap * i.bytes):=by omega
 have hw:IntKind.i64.wrap (n:Int)=(n:Int):=Zav (show -9223372036854775808≤(n:Int)∧(n:Int)≤9223372036854775807 by omega)
 have hai:∀ w':World,(asInt (.int kk (n:Int))).run P w'=.ok (n:Int) w':=fun _=>rfl
 have hneg:¬ ((n:Int) < 0):=by omega
 have hbig:¬ (281474976710656 < (n:Int) * (i.bytes:Int)):=by omega
 simp [Builtin.append_,run_underlying ht,run_underlying htx,sizeOf,typeInfo,zeroValue,hi,hz,hai,hw,hneg,hbig,hn,h63',h48',hn0,Question.forced,hold,newRow,grownCap]
 congr 2
 apply Array.ext'
 simp [List.append_assoc]
theorem Zgl (zs:Array Value) (n:Nat):Builtin.zeroCells zs n=madeCells zs (n * zs.size):=rfl
theorem Zmk {t tx ty' el:TypeId} {k kk:IntKind} {z0:α} {by_:Nat} [ht:UL P t (.slice el)] [htx:UL P tx (.int k)] [hel:ElC P el α c z0 by_] {base:Option Addr} {sCap n:Nat} (hs:St w0 w (.ow c el (.slice base xs.length sCap) xs::rest))
  (hn:0 < n) (hlt:sCap < xs.length+n) (hb:(xs.length+n) * by_≤140737488355328) (h63:xs.length+n≤9223372036854775807) :
  ∃ v' w',(Builtin.append_ #[t,tx] ty' #[.slice base xs.length sCap,.int kk (n:Int)]).run P w=.ok v' w'∧St w0 w' (.ow c el v' (xs++List.replicate n z0)::rest):=by
 obtain ⟨i,z,hi,hz,hsz,hby,hzc⟩:=hel.h
 have hzs:z.cells.size=c.n:=by rw [← c.len z0,← hzc];simp
 have hcp:=hel.pos
 have hnl:(List.replicate n z0).length=n:=List.length_replicate
 have hrd:=(inferInstance:RdIn (.ow c el (.slice base xs.length sCap) xs::rest) (.slice base xs.length sCap) α c xs).get w0 w hs
 have hsrc:=Rdb.src (P:=P) (tx:=t) hrd
 obtain ⟨H,bs,G⟩:=hs
 have hmul:=Nat.mul_pos hn hcp
 have hle:n * by_≤(xs.length+n) * by_:=Nat.mul_le_mul_right _ (by omega)
 have hold:(Builtin.firstCells i.size xs.length (.slice base xs.length sCap)).run P w.drew=.ok (c.flat xs).toArray w.drew:=by rw [hsz];exact hsrc.cellsD
 have hrun:=Zep (kk:=kk) w t tx ty' el i z ht.h htx.h hi hz base xs.length sCap (c.flat xs) hold n (by rw [hsz];omega) (by omega) (by rw [hby];have h2:((n * by_:Nat):Int)≤281474976710656:=(by omega);rw [Int.natCast_mul] at h2;exact h2) hlt (by omega) (growslice_fits hlt (by rw [hby];exact hb))
 have hzf:(Builtin.zeroCells z.cells n).toList=c.flat (List.replicate n z0):=by
  rw [Zgl,hzs]
  exact Zdv (_i:=i) hzc hcp n
 rw [hzf] at hrun
 have hcap:=grownCap_ge w (xs.length+n) sCap el
 generalize grownCap w (xs.length+n) sCap el=newCap at *
 have fin:∀ bs0:List Nat,Sat w H rest bs0→bs0.Nodup→(∀ b∈bs0,H b=none)→∃ v' w',(Builtin.append_ #[t,tx] ty' #[.slice base xs.length sCap,.int kk (n:Int)]).run P w=.ok v' w'∧St w0 w' (.ow c el v' (xs++List.replicate n z0)::rest):=by
  intro bs0 hrest hnd hap
  have g0:StW w0 w.drew H rest bs0:=⟨G.size,G.os,G.tape,G.output,G.fz,G.old,Sat.move (FH.le_refl H) hrest (fun _ _=>rfl),hnd,hap⟩
  have g1:=g0.alloc (.cells ((c.flat xs++c.flat (List.replicate n z0)).toArray++Builtin.zeroCells z.cells (newCap - (xs.length+n))) el)
  refine ⟨_,_,hrun,H,_,g1.size,g1.os,g1.tape,g1.output,g1.fz,g1.old,?_,g1.nd,g1.ap⟩
  obtain ⟨bs',he,hw,hr⟩:=g1.sat
  refine .inr ⟨_,bs',he,⟨0,newCap,[],(Builtin.zeroCells z.cells (newCap - (xs.length+n))).toList,by simp,rfl,by simpa using hcap,?_,?_⟩,hr⟩
  ·simp only [List.length_append,Zac,Array.length_toList,Zce,hzs,hnl]
   rw [Nat.mul_comm c.n,← Nat.add_mul]
   exact Nat.mul_le_mul_right _ (by omega)
  ·rw [hw]
   congr 2
   apply Array.ext'
   simp [Zaf]
 rcases G.sat with ⟨_,_,hr⟩|⟨b,bs',rfl,_,hr⟩
 ·exact fin _ hr G.nd G.ap
 ·exact fin _ hr (List.nodup_cons.1 G.nd).2 fun q hq=>G.ap q (List.mem_cons_of_mem _ hq)
theorem Zko {t tx el:TypeId} {k kk:IntKind} {z0:α} {by_ m cap n:Nat} {base:Option Addr} [UL P t (.slice el)] [UL P tx (.int k)] [ElC P el α c z0 by_] (hx:ev e x=some (.slice base m cap)) (hy:ev e y=some (.int kk (n:Int))) [h:TakeW As (.slice base m cap) c el xs rest] (hm:xs.length=m)
  (hn:0 < n) (hlt:cap < m+n) (hb:(m+n) * by_≤140737488355328) (h63:m+n≤9223372036854775807):ExR P N w0 (.call ⟨.builtin .append,#[x,y],#[t,tx]⟩) ty e As (RW c el (xs++List.replicate n z0) rest):=by
 subst hm
 unfold ExR
 intro a w ha hs d pos af g
 obtain ⟨v',w',h1,h2⟩:=Zmk (P:=P) (t:=t) (tx:=tx) (ty':=ty) (kk:=kk) (n:=n) (z0:=z0) (by_:=by_) (Ents.perm h.perm w0 w hs) hn hlt hb h63
 exact ⟨v',w',_,by simp [execOp,ha.eval hx,ha.eval hy,resolve,invoke,builtin,h1],rfl,h2⟩
end
end Go.Sx
