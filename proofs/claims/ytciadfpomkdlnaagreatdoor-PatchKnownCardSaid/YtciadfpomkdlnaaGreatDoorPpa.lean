/- Plain: a wrong line behind right ones. -/
import Derived.Test.YtciadfpomkdlnaaGreatDoorPp9
set_option maxHeartbeats 1000000
namespace Go.Proofs.YtciadfpomkdlnaaGreatDoor.Q
open Go Go.Sx
theorem Zrk {n ch:Nat} {ps:List PP} {ws:List (List UInt8)} (hch:ch≠0) (he:ws≠[wEnd]) (hp:patchP ch ps ws=none):stepP n (ch,ps,false) ws=.inl n:=by
 unfold stepP
 rw [if_neg (by intro h;cases h),if_neg hch,if_neg he,hp]
def restW (p:PP):List UInt8:=joinW (p.2.1.map (decT · 4)++[decT p.2.2.1 2,decT p.2.2.2.1 2,decT p.2.2.2.2 2])
theorem Zr6 {w v:List UInt8} {r:List (List UInt8)}:joinW (w::v::r)=w++32::joinW (v::r):=by
 simp only [joinW,List.flatMap_cons,List.cons_append]
theorem Zwi {w:List UInt8} {r:List (List UInt8)} (h:r≠[]):joinW (w::r)=w++32::joinW r:=by
 cases r with
 | nil=>exact absurd rfl h
 | cons v r=>exact Zr6
theorem Zm5 {p:PP}:joinW (wordsT p)=p.1++32::restW p:=by
 unfold wordsT restW
 rw [Zwi (by simp)]
end Go.Proofs.YtciadfpomkdlnaaGreatDoor.Q
