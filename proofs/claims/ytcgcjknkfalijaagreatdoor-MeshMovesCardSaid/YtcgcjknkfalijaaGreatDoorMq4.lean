/- Meshes, plain: intervals, and the sign of a determinant. -/
import Derived.Test.YtcgcjknkfalijaaGreatDoorMq1
set_option maxHeartbeats 1000000
namespace Go.Sx
open Go
structure Itv where
 lo:Int
 hi:Int
def Itv.has (I:Itv) (h x:Int):Prop:=I.lo * h≤x∧x≤I.hi * h
def min4 (a b c d:Int):Int:=min (min a b) (min c d)
def max4 (a b c d:Int):Int:=max (max a b) (max c d)
def Itv.mul (I J:Itv):Itv:=⟨min4 (I.lo * J.lo) (I.lo * J.hi) (I.hi * J.lo) (I.hi * J.hi),max4 (I.lo * J.lo) (I.lo * J.hi) (I.hi * J.lo) (I.hi * J.hi)⟩
def Itv.add (I J:Itv):Itv:=⟨I.lo+J.lo,I.hi+J.hi⟩
def Itv.sub (I J:Itv):Itv:=⟨I.lo - J.hi,I.hi - J.lo⟩
theorem Zds {a b x:Int} (h1:a≤x) (h2:x≤b) (y:Int):(a * y≤x * y∨b * y≤x * y)∧(x * y≤a * y∨x * y≤b * y):=by
 rcases Int.le_total 0 y with h|h
 ·exact ⟨.inl (Int.mul_le_mul_of_nonneg_right h1 h),.inr (Int.mul_le_mul_of_nonneg_right h2 h)⟩
 ·exact ⟨.inr (Int.mul_le_mul_of_nonpos_right h2 h),.inl (Int.mul_le_mul_of_nonpos_right h1 h)⟩
section
variable {I J:Itv} {h g x y:Int}
theorem Itv.has.add (p:I.has h x) (q:J.has h y):(I.add J).has h (x+y):=by
 simp only [Itv.has,Itv.add,Int.add_mul] at *
 omega
theorem Itv.has.sub (p:I.has h x) (q:J.has h y):(I.sub J).has h (x - y):=by
 simp only [Itv.has,Itv.sub,Int.sub_mul] at *
 omega
theorem Itv.has.mul (hh:0≤h) (hg:0≤g) (p:I.has h x) (q:J.has g y):(I.mul J).has (h * g) (x * y):=by
 obtain ⟨p1,p2⟩:=p
 obtain ⟨q1,q2⟩:=q
 have hT:0≤h * g:=Int.mul_nonneg hh hg
 obtain ⟨b1,b2⟩:=Zds p1 p2 y
 obtain ⟨c1,c2⟩:=Zds q1 q2 (I.lo * h)
 obtain ⟨d1,d2⟩:=Zds q1 q2 (I.hi * h)
 rw [Int.mul_comm y (I.lo * h)] at c1 c2
 rw [Int.mul_comm y (I.hi * h)] at d1 d2
 have e1:J.lo * g * (I.lo * h)=I.lo * J.lo * (h * g):=by grind
 have e2:J.hi * g * (I.lo * h)=I.lo * J.hi * (h * g):=by grind
 have e3:J.lo * g * (I.hi * h)=I.hi * J.lo * (h * g):=by grind
 have e4:J.hi * g * (I.hi * h)=I.hi * J.hi * (h * g):=by grind
 rw [e1,e2] at c1 c2
 rw [e3,e4] at d1 d2
 have mono:∀ {u v:Int},u≤v→u * (h * g)≤v * (h * g):=fun k=>Int.mul_le_mul_of_nonneg_right k hT
 generalize hA:I.lo * J.lo=A at *
 generalize hB:I.lo * J.hi=B at *
 generalize hC:I.hi * J.lo=C at *
 generalize hD:I.hi * J.hi=D at *
 have lo:∀ {v:Int},v=A∨v=B∨v=C∨v=D→min4 A B C D * (h * g)≤v * (h * g):=fun k=>mono (by unfold min4;omega)
 have hi:∀ {v:Int},v=A∨v=B∨v=C∨v=D→v * (h * g)≤max4 A B C D * (h * g):=fun k=>mono (by unfold max4;omega)
 have l1:=lo (.inl rfl);have l2:=lo (.inr (.inl rfl));have l3:=lo (.inr (.inr (.inl rfl)));have l4:=lo (.inr (.inr (.inr rfl)))
 have u1:=hi (.inl rfl);have u2:=hi (.inr (.inl rfl));have u3:=hi (.inr (.inr (.inl rfl)));have u4:=hi (.inr (.inr (.inr rfl)))
 simp only [Itv.has,Itv.mul,hA,hB,hC,hD]
 omega
end
structure Itv3 where
 x:Itv
 y:Itv
 z:Itv
def Itv3.has (I:Itv3) (h:Int) (p:V3):Prop:=I.x.has h p.x∧I.y.has h p.y∧I.z.has h p.z
def Itv3.det (a b c:Itv3):Itv:=((a.x.mul ((b.y.mul c.z).sub (b.z.mul c.y))).add (a.y.mul ((b.z.mul c.x).sub (b.x.mul c.z)))).add (a.z.mul ((b.x.mul c.y).sub (b.y.mul c.x)))
theorem Itv3.has.det {a b c:Itv3} {h:Int} (hh:0≤h) {p q r:V3} (ha:a.has h p) (hb:b.has h q) (hc:c.has h r):(a.det b c).has (h * (h * h)) (p.dot (q.cross r)):=by
 obtain ⟨a1,a2,a3⟩:=ha
 obtain ⟨b1,b2,b3⟩:=hb
 obtain ⟨c1,c2,c3⟩:=hc
 have h2:0≤h * h:=Int.mul_nonneg hh hh
 exact ((a1.mul hh h2 ((b2.mul hh hh c3).sub (b3.mul hh hh c2))).add (a2.mul hh h2 ((b3.mul hh hh c1).sub (b1.mul hh hh c3)))).add (a3.mul hh h2 ((b1.mul hh hh c2).sub (b2.mul hh hh c1)))
end Go.Sx
