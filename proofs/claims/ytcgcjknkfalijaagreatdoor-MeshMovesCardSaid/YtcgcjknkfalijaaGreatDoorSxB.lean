/- The engine, part 11: append to a slice whose old value is read on (it is ranged over); append of a slice's end to its beginning. -/
import Derived.Test.YtcgcjknkfalijaaGreatDoorSx9
import Derived.Laws.CopyRow
import Derived.Laws.IdiomCopy
import Derived.Laws.Entries
set_option maxHeartbeats 1000000
namespace Go.Sx
open Go
section
variable {P:Program} {N:Ctx} {w0 w:World} {e:Env} {As rest:List Ent} {Q:Exit→Act→World→Prop} {ty:TypeId} {x y:Operand} {u:Value} {α:Type} {c:Cod α} {xs ys:List α}
theorem RdIn.pre {T:TypeId} {p:Option Addr} {cap cap':Nat} (h0:0 < xs.length) (h:xs.length≤cap'):RdIn (.ow c T (.slice p (xs.length+ys.length) cap) (xs++ys)::rest) (.slice p xs.length cap') α c xs:=⟨fun w0 w ⟨H,bs,g⟩=>by
 rcases g.sat with ⟨h1,h2,_⟩|⟨b,bs',_,⟨off,cap,front,rest,h1,h2,h3,h4,hw⟩,_⟩
 ·have:xs=[]:=(List.append_eq_nil_iff.1 h2).1
  subst this
  simp at h0
 ·simp only [Value.slice.injEq] at h1
  obtain ⟨rfl,_,rfl⟩:=h1
  exact .inr ⟨b,off,cap',front,c.flat ys++rest,T,(0,0),rfl,h2,h,by show w.heap[b]?=_;rw [hw,Zaf];simp⟩⟩
end
end Go.Sx
namespace Go.Sx
open Go
section
variable {P:Program} {N:Ctx} {w0 w:World} {e:Env} {As rest:List Ent} {Q:Exit→Act→World→Prop} {ty:TypeId} {x y:Operand} {u v:Value} {α:Type} {c:Cod α} {xs ys:List α}
theorem RdIn.sub [h:RdIn As v α c xs] {lo hi:Nat} (h1:lo≤hi) (h2:hi≤xs.length):RdIn As (subV c.n v lo hi) α c ((xs.drop lo).take (hi - lo)):=⟨fun w0 w hs=>Rdb.sub (h.get w0 w hs) h1 h2⟩
theorem Zpa [h:RdIn As v α c xs] {k n:Nat} (hn:c.n=n) (h2:k≤xs.length):RdIn As (subV n v 0 k) α c (xs.take k):=by
 subst hn
 simpa using RdIn.sub (As:=As) (v:=v) (c:=c) (xs:=xs) (lo:=0) (hi:=k) (Nat.zero_le _) h2
theorem Zu3 [h:RdIn As v α c xs] {k n m:Nat} (hn:c.n=n) (hm:m=xs.length) (h2:k≤xs.length):RdIn As (subV n v k m) α c (xs.drop k):=by
 subst hn hm
 have:=RdIn.sub (As:=As) (v:=v) (c:=c) (xs:=xs) (lo:=k) (hi:=xs.length) h2 (Nat.le_refl _)
 rwa [List.take_of_length_le (by simp)] at this
theorem Znp {n l cap hi:Nat} {a:Option Addr}:subV n (.slice a l cap) 0 hi=.slice a hi cap:=by
 cases a<;>simp [subV,Addr.add]
theorem RdIn.take {p:Option Addr} {m cap:Nat} [h:RdIn As (.slice p m cap) α c xs] {k:Nat} (h2:k≤xs.length):RdIn As (.slice p k cap) α c (xs.take k):=by
 have:=Zpa (As:=As) (v:=.slice p m cap) (c:=c) (xs:=xs) (k:=k) rfl h2
 rwa [Znp] at this
theorem Tri.open {c1:Code} (v:Value) [hr:RdIn As v α c xs] (hx:xs≠[]) (h:∀ b off cap,xs.length≤cap→v=.slice (some ⟨b,off,none⟩) xs.length cap→Tri P N w0 c1 e As Q):Tri P N w0 c1 e As Q:=by
 unfold Tri
 intro a w ha hs
 rcases hr.get w0 w hs with ⟨_,h1⟩|⟨b,off,cap,front,rest,T,fr,hv,_,hc,_⟩
 ·exact absurd h1 hx
 ·have h0:=h b off cap hc hv
  unfold Tri at h0
  exact h0 a w ha hs
theorem TL.open {ops:Array Oper} {l:List Oper} (v:Value) [hr:RdIn As v α c xs] (hx:xs≠[]) (h:∀ b off cap,xs.length≤cap→v=.slice (some ⟨b,off,none⟩) xs.length cap→TL P N w0 ops l e As Q):TL P N w0 ops l e As Q:=by
 unfold TL
 intro i hi a w ha hs
 rcases hr.get w0 w hs with ⟨_,h1⟩|⟨b,off,cap,front,rest,T,fr,hv,_,hc,_⟩
 ·exact absurd h1 hx
 ·have h0:=h b off cap hc hv
  unfold TL at h0
  exact h0 i hi a w ha hs
end
end Go.Sx
namespace Go.Sx
open Go
section
variable {P:Program} {N:Ctx} {w0 w:World} {e:Env} {As rest:List Ent} {Q:Exit→Act→World→Prop} {ty:TypeId} {x y:Operand} {u v:Value} {α:Type} {c:Cod α} {xs ys:List α}
/-! an interface value against nil -/
class IfT (P:Program) (t:TypeId):Prop where
 h:∃ ms,P.underlying t=some (.interface ms)
theorem Zew {t:TypeId} [hi:IfT P t] (d:Nat):(Op.equalIn (d+1) t .nilIface .nilIface).run P w=.ok true w:=by
 obtain ⟨ms,h⟩:=hi.h
 simp [Op.equalIn,run_underlying h]
theorem Zdg {t:TypeId} [hi:IfT P t]:(Op.equal t .nilIface .nilIface).run P w=.ok true w:=Zew 9999
theorem Zdb (a:Act) (c:Value):a.eval (.const c)=c:=rfl
theorem Zhb {t t':TypeId} [IfT P t] (hx:ev e x=some .nilIface):ExF P N w0 (.binOp .eql t x (.const .nilIface) t') ty e As (.bool true):=by
 unfold ExF
 intro a w ha _ d pos af g
 simp [execOp,ha.eval hx,Zdb,eqGuard_nil_constR,binOp,Zdg]
end
end Go.Sx
