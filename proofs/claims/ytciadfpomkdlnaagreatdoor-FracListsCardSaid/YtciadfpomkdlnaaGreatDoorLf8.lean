/- Walks: the law of powers. -/
import Derived.Test.YtciadfpomkdlnaaGreatDoorLf5
set_option maxHeartbeats 1000000
namespace Go.Proofs.YtciadfpomkdlnaaGreatDoor.Q
open Go Go.Sx
variable {w0:World} {As:List Ent}
instance (priority:=low) {p:List UInt8 × List UInt8}:EncL cF p [.string ⟨p.1.toArray⟩,.string ⟨p.2.toArray⟩]:=⟨rfl⟩
instance:ElC Tryz.prog 24 (List UInt8 × List UInt8) cF ([],[]) 32:=⟨by obtain ⟨i,h1,h2,h3,h4⟩:=(inferInstance:TI Tryz.prog 24 _ _ _).info;exact ⟨i,_,h1,h2,h3,h4,rfl⟩,by decide⟩
end Go.Proofs.YtciadfpomkdlnaaGreatDoor.Q
