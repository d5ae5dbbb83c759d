/- Walks: PatchCanon: what is parsed is valid, and its text is parsed to the same. -/
import Derived.Test.YtciadfpomkdlnaaGreatDoorPl1
set_option maxHeartbeats 1000000
namespace Go.Proofs.YtciadfpomkdlnaaGreatDoor.Q
open Go Go.Sx
variable {w0:World} {As:List Ent}
theorem Zd2 {L:List RawP} (h:checkP (L.map ppOf)=true):Shr L:=by
 obtain ⟨_,h1,h2⟩:=Zw9.1 h
 refine ⟨by rw [List.length_map] at h1;omega,fun r hr=>?_⟩
 have:=(Z3v.1 (h2.sound (ppOf r) (List.mem_map_of_mem hr)).1).1
 have h3:=(Z4d.1 this).1.2
 exact Nat.le_trans h3 (by decide)
theorem Zd3 {L:List RawP} (h:checkP (L.map ppOf)=true):Fwd L:=by
 obtain ⟨_,h1,h2⟩:=Zw9.1 h
 refine ⟨by rw [List.length_map] at h1;omega,fun r hr=>?_⟩
 have:=(Z3v.1 (h2.sound (ppOf r) (List.mem_map_of_mem hr)).1).2.1.2
 exact Nat.le_trans this (by decide)
end Go.Proofs.YtciadfpomkdlnaaGreatDoor.Q
