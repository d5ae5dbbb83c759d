/- Walks: frac. -/
import Derived.Test.YtciadfpomkdlnaaGreatDoorCc7
set_option maxHeartbeats 1000000
namespace Go.Sx
open Go
structure RawQ where
 o1:Option Addr
 n1:Nat
 c1:Nat
 b:Bool
 o2:Option Addr
 n2:Nat
 c2:Nat
def cR:Cod RawQ:=⟨3,fun r=>[.slice r.o1 r.n1 r.c1,.bool r.b,.slice r.o2 r.n2 r.c2],fun _=>rfl,fun r v hv=>by
 simp only [List.mem_cons,List.not_mem_nil,or_false] at hv
 rcases hv with rfl|rfl|rfl<;>rfl⟩
instance (priority:=low) {r:RawQ}:EncL cR r [.slice r.o1 r.n1 r.c1,.bool r.b,.slice r.o2 r.n2 r.c2]:=⟨rfl⟩
instance {o1 o2:Option Addr} {n1 c1 n2 c2:Nat} {b:Bool}:EncL cR ⟨o1,n1,c1,b,o2,n2,c2⟩ [.slice o1 n1 c1,.bool b,.slice o2 n2 c2]:=⟨rfl⟩
instance {o1 o2:Option Addr} {n1 c1 n2 c2:Nat} {b:Bool}:DecL cR [.slice o1 n1 c1,.bool b,.slice o2 n2 c2] ⟨o1,n1,c1,b,o2,n2,c2⟩:=⟨rfl⟩
def cF:Cod (List UInt8 × List UInt8):=⟨2,fun p=>[.string ⟨p.1.toArray⟩,.string ⟨p.2.toArray⟩],fun _=>rfl,fun p v hv=>by
 simp only [List.mem_cons,List.not_mem_nil,or_false] at hv
 rcases hv with rfl|rfl<;>rfl⟩
instance {a b:List UInt8}:EncL cF (a,b) [.string ⟨a.toArray⟩,.string ⟨b.toArray⟩]:=⟨rfl⟩
instance {a b:List UInt8}:DecL cF [.string ⟨a.toArray⟩,.string ⟨b.toArray⟩] (a,b):=⟨rfl⟩
structure FitQ (As:List Ent) (r:RawQ) (x:Rat):Prop where
 n1:r.n1=(mag x.num.natAbs).length
 b:r.b=decide (x.num < 0)
 n2:r.n2=(mag x.den).length
 f1:FtIn As (.slice r.o1 r.n1 r.c1) Nat (cN .u32) (mag x.num.natAbs)
 f2:FtIn As (.slice r.o2 r.n2 r.c2) Nat (cN .u32) (mag x.den)
theorem FitQ.tl {As:List Ent} {r:RawQ} {x:Rat} (h:FitQ As r x) (e:Ent):FitQ (e::As) r x:=⟨h.n1,h.b,h.n2,⟨List.mem_cons_of_mem _ h.f1.mem⟩,⟨List.mem_cons_of_mem _ h.f2.mem⟩⟩
end Go.Sx
namespace Go.Proofs.YtciadfpomkdlnaaGreatDoor.Q
open Go Go.Sx
variable {w0:World} {As:List Ent}
instance:ElC Tryz.prog 130 RawQ cR ⟨none,0,0,false,none,0,0⟩ 56:=⟨by obtain ⟨i,h1,h2,h3,h4⟩:=(inferInstance:TI Tryz.prog 130 _ _ _).info;exact ⟨i,_,h1,h2,h3,h4,rfl⟩,by decide⟩
end Go.Proofs.YtciadfpomkdlnaaGreatDoor.Q
