/- Plain: a drafted mesh is moved, moved back, turned and turned again. -/
import Derived.Test.YtcgcjknkfalijaaGreatDoorMq7
set_option maxHeartbeats 1000000
namespace Go.Sx
open Go
theorem Zj2 {u c:Int} (hu:0≤u) (hu2:u≤13250) (h1:-3≤c) (h2:c≤3):-79500≤c * (2 * u)∧c * (2 * u)≤79500:=by
 have a:=Int.mul_le_mul_of_nonneg_right h1 (show 0≤2 * u by omega)
 have b:=Int.mul_le_mul_of_nonneg_right h2 (show 0≤2 * u by omega)
 omega
theorem Zs2 {k:Nat} {u:Int} {t:V3} {off:List Int} (hu:0≤u) (hu2:u≤13250) (ht:t.in 32768) (ho:∀ x∈off,-128≤x∧x≤127):∀ p∈baseM k (2 * u) t off,p.in 112396:=by
 obtain ⟨t1,t2,t3,t4,t5,t6⟩:=ht
 have key:∀ o:List Int,(∀ x∈o,-128≤x∧x≤127)→∀ p∈offM o (plainM k (2 * u) t),p.in 112396:=by
  intro o ho p hp
  obtain ⟨i,hi⟩:=List.mem_iff_getElem?.1 hp
  rw [offM,List.getElem?_mapIdx,plainM,List.getElem?_map] at hi
  cases hq:(shapeP k)[i]? with
  | none=>rw [hq] at hi;cases hi
  | some q =>
   rw [hq] at hi
   obtain ⟨c1,c2,c3,c4,c5,c6⟩:=Zfi q (List.mem_of_getElem? hq)
   have m1:=Zj2 hu hu2 c1 c2
   have m2:=Zj2 hu hu2 c3 c4
   have m3:=Zj2 hu hu2 c5 c6
   have o1:=Zd5 ho (3 * i)
   have o2:=Zd5 ho (3 * i+1)
   have o3:=Zd5 ho (3 * i+2)
   have e:p=offP o i (V3.lay (2 * u) t q):=by simpa using hi.symm
   rw [e]
   simp only [offP,V3.lay]
   generalize q.x * (2 * u)=z1 at *
   generalize q.y * (2 * u)=z2 at *
   generalize q.z * (2 * u)=z3 at *
   refine ⟨?_,?_,?_,?_,?_,?_⟩<;>simp only<;>omega
 unfold baseM
 split
 ·exact key off ho
 ·have:=key [] (by simp)
  rwa [Zhk] at this
structure Moves (P F:List V3) (v:V3) (tn:Bool):Prop where
 good:okM P F
 move:movedM P F v=(0,P.map (·.add v),F)
 goodV:okM (P.map (·.add v)) F
 back:movedM (P.map (·.add v)) F ⟨-v.x,-v.y,-v.z⟩=(0,P,F)
 turn:turnedM P F=(0,P,F.map swapF)
 goodT:okM P (F.map swapF)
 again:turnedM P (F.map swapF)=(0,P,F)
 volV:volM (P.map (·.add v)) F=volM P F
 volT:volM P (F.map swapF)=-volM P F
 sign:volM P F≠0∧decide (volM P F < 0)=tn
 small:-10800000000000000≤volM P F∧volM P F≤10800000000000000
 box:∀ p∈P,p.in 112396
theorem Zog {P:List V3} (h:∀ p∈P,p.in 200000):farF P=none:=by
 refine List.findIdx?_eq_none_iff.2 fun p hp=>?_
 obtain ⟨a1,a2,a3,a4,a5,a6⟩:=h p hp
 simp only [isFar,Bool.or_eq_false_iff,decide_eq_false_iff_not]
 omega
theorem Zk8 {P F:List V3} {v:V3} (h:okM P F) (hv:v.in 100000) (hf:∀ p∈P.map (·.add v),p.in 200000):movedM P F v=(0,P.map (·.add v),F):=by
 obtain ⟨a1,a2,a3,a4,a5,a6⟩:=hv
 have hb:bigBy v=false:=by simp only [bigBy,Bool.or_eq_false_iff,decide_eq_false_iff_not];omega
 have ha:(P.map (·.add v)).any isFar=false:=by
  rw [List.any_eq_false]
  intro p hp
  have:=List.findIdx?_eq_none_iff.1 (Zog hf) p hp
  simpa using this
 unfold movedM
 rw [if_pos h,if_neg (by rw [hb,ha];simp)]
theorem Zqk {k:Nat} {u:Int} {t v:V3} {off:List Int} (hk:k < 4) (hu:500≤u) (hu2:u≤13250) (ht:t.in 32768) (ho:∀ x∈off,-128≤x∧x≤127) (hv:v.in 65536) (tn:Bool):Moves (draftM k (2 * u) t off tn).1 (draftM k (2 * u) t off tn).2 v tn:=by
 have hok:=Ziy (off:=off) (s:=2 * u) (t:=t) hk (by omega) (by omega) ht tn
 have hno:=Ziy (off:=off) (s:=2 * u) (t:=t) hk (by omega) (by omega) ht (!tn)
 have e1:=Zcm (off:=off) (s:=2 * u) (t:=t) hk (by omega) (by omega) ht tn
 have e2:=Zcm (off:=off) (s:=2 * u) (t:=t) hk (by omega) (by omega) ht (!tn)
 have hb:=Zs2 (k:=k) (off:=off) (by omega) hu2 ht ho
 have hvol:=Zq0 (t:=t) hk hu hu2 ht ho
 have hvle:=Zkc (t:=t) hk hu hu2 ht ho
 rw [e1] at hok ⊢
 rw [e2] at hno
 simp only at hok hno ⊢
 generalize baseM k (2 * u) t off=P at *
 generalize hF:(if tn then (shapeF k).map swapF else shapeF k)=F at *
 have hF':(if !tn then (shapeF k).map swapF else shapeF k)=F.map swapF:=by
  rw [← hF]
  cases tn with
  | false=>rfl
  | true=>simp only [Bool.not_true,Bool.false_eq_true,if_false,if_true];exact Znm.symm
 rw [hF'] at hno
 have hvF:volM P F=if tn then -volM P (shapeF k) else volM P (shapeF k):=by
  rw [← hF]
  cases tn with
  | false=>rfl
  | true=>exact Zib
 obtain ⟨v1,v2,v3,v4,v5,v6⟩:=hv
 have hfar:∀ p∈P.map (·.add v),p.in 200000:=by
  intro p hp
  obtain ⟨q,hq,rfl⟩:=List.mem_map.1 hp
  obtain ⟨a1,a2,a3,a4,a5,a6⟩:=hb q hq
  simp only [V3.add]
  exact ⟨by show _≤q.x+v.x;omega,by show q.x+v.x≤_;omega,by show _≤q.y+v.y;omega,by show q.y+v.y≤_;omega,by show _≤q.z+v.z;omega,by show q.z+v.z≤_;omega⟩
 have hg:=Zvk.1 hok
 have hgv:okM (P.map (·.add v)) F:=Zvk.2 (hg.move (Zog hfar))
 have hback:(P.map (·.add v)).map (·.add ⟨-v.x,-v.y,-v.z⟩)=P:=Zq3 rfl rfl rfl
 refine ⟨hok,Zk8 hok ⟨by omega,by omega,by omega,by omega,by omega,by omega⟩ hfar,hgv,?_,?_,hno,?_,hg.vol_add v,Zib,?_,?_,hb⟩
 ·have:=Zk8 hgv (v:=⟨-v.x,-v.y,-v.z⟩) ⟨by show _≤-v.x;omega,by show -v.x≤_;omega,by show _≤-v.y;omega,by show -v.y≤_;omega,by show _≤-v.z;omega,by show -v.z≤_;omega⟩ (by
   rw [hback]
   intro p hp
   obtain ⟨a1,a2,a3,a4,a5,a6⟩:=hb p hp
   exact ⟨by omega,by omega,by omega,by omega,by omega,by omega⟩)
  rw [hback] at this
  exact this
 ·unfold turnedM;rw [if_pos hok]
 ·unfold turnedM;rw [if_pos hno,Znm]
 ·rw [hvF]
  cases tn with
  | false=>simp only [Bool.false_eq_true,if_false];exact ⟨by omega,decide_eq_false (by omega)⟩
  | true=>simp only [if_true];exact ⟨by omega,decide_eq_true (by omega)⟩
 ·rw [hvF]
  cases tn with
  | false=>simp only [Bool.false_eq_true,if_false];omega
  | true=>simp only [if_true];omega
theorem Zj8 {n:Int} {f:V3→V3→V3} (hf:∀ a b:V3,a.in n→b.in n→(f a b).in n):∀ (l:List V3) (p:V3),p.in n→(∀ q∈l,q.in n)→(l.foldl f p).in n
 | [],_,h,_=>h
 | a::l,p,h,hl=>Zj8 hf l _ (hf p a h (hl a List.mem_cons_self)) fun q hq=>hl q (List.mem_cons_of_mem _ hq)
theorem Zv4 {n:Int} (a b:V3) (ha:a.in n) (hb:b.in n):(a.mn b).in n:=by
 obtain ⟨a1,a2,a3,a4,a5,a6⟩:=ha
 obtain ⟨b1,b2,b3,b4,b5,b6⟩:=hb
 refine ⟨?_,?_,?_,?_,?_,?_⟩<;>simp only [V3.mn]<;>split<;>omega
theorem Zv3 {n:Int} (a b:V3) (ha:a.in n) (hb:b.in n):(a.mx b).in n:=by
 obtain ⟨a1,a2,a3,a4,a5,a6⟩:=ha
 obtain ⟨b1,b2,b3,b4,b5,b6⟩:=hb
 refine ⟨?_,?_,?_,?_,?_,?_⟩<;>simp only [V3.mx]<;>split<;>omega
theorem Moves.boxes {P F:List V3} {v:V3} {tn:Bool} (h:Moves P F v tn):∃ lo hi:V3,lo.in 112396∧hi.in 112396∧boxM P F=(lo,hi,0)∧boxM (P.map (·.add v)) F=(lo.add v,hi.add v,0):=by
 have hb:=Zqz (v:=v) h.good h.goodV
 have e1:(boxM P F).2.2=0:=by unfold boxM;rw [if_pos h.good]
 have e2:(boxM (P.map (·.add v)) F).2.2=0:=by unfold boxM;rw [if_pos h.goodV]
 have p0:(ptAt P 0).in 112396:=Zbw (by decide) h.box 0
 refine ⟨(boxM P F).1,(boxM P F).2.1,?_,?_,?_,?_⟩
 ·unfold boxM;rw [if_pos h.good];exact Zj8 Zv4 _ _ p0 h.box
 ·unfold boxM;rw [if_pos h.good];exact Zj8 Zv3 _ _ p0 h.box
 ·rw [← e1]
 ·rw [← hb.1,← hb.2,← e2]
end Go.Sx
