/- Plain: powers: the program's answer is the reference's. -/
import Derived.Test.YtciadfpomkdlnaaGreatDoorCp1
import Derived.Test.YtciadfpomkdlnaaGreatDoorCc3
set_option maxHeartbeats 1000000
namespace Go.Proofs.YtciadfpomkdlnaaGreatDoor.Q
open Go Go.Sx
theorem Zo1 (z:Int):((outW z).2=0∧(outW z).1=textI z)∨((outW z).2=6∧(outW z).1=[]):=by
 unfold outW
 by_cases h:600 < Lib.nDigits z.natAbs
 ·rw [if_pos h];exact .inr ⟨rfl,rfl⟩
 ·rw [if_neg h];exact .inl ⟨rfl,rfl⟩
theorem Zz4 {a b:List UInt8} {n:Int}:powO a b n=(match readF a b with
  | none=>([],[],20)
  | some x=>if n < 0∨40 < n then ([],[],2) else outF (x ^ n.toNat)):=by
 unfold powO
 cases h:readF a b with
 | none=>rfl
 | some x =>
  obtain ⟨h1,h2⟩:=Zc1 h
  simp only
  unfold powW
  rw [h1,h2]
  simp only
  by_cases hn:n < 0∨40 < n
  ·rw [if_pos hn,if_pos hn,if_pos hn];rfl
  ·rw [if_neg hn,if_neg hn,if_neg hn]
   unfold outF
   rw [Rat.num_pow,Rat.den_pow]
   have e:((x.den ^ n.toNat:Nat):Int)=(x.den:Int) ^ n.toNat:=by push_cast;rfl
   rw [e]
   rcases Zo1 (x.num ^ n.toNat) with ⟨p1,p2⟩|⟨p1,p2⟩
   ·rw [if_neg (fun h=>h p1)]
    rcases Zo1 ((x.den:Int) ^ n.toNat) with ⟨q1,q2⟩|⟨q1,q2⟩
    ·rw [if_neg (fun h=>h q1),if_pos ⟨p1,q1⟩,p2,q2]
    ·rw [if_pos (by rw [q1];decide),if_neg (fun h=>by rw [q1] at h;exact absurd h.2 (by decide)),q1]
   ·rw [if_pos (by rw [p1];decide),if_neg (fun h=>by rw [p1] at h;exact absurd h.1 (by decide)),p1]
end Go.Proofs.YtciadfpomkdlnaaGreatDoor.Q
