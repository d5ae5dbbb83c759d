/- Meshes, plain: a draft's volume is not great. -/
import Derived.Test.YtcgcjknkfalijaaGreatDoorMq6
set_option maxHeartbeats 1000000
namespace Go.Sx
open Go
def near4 (c p:V3):Bool:=decide (-4≤2 * p.x - c.x∧2 * p.x - c.x≤4∧-4≤2 * p.y - c.y∧2 * p.y - c.y≤4∧-4≤2 * p.z - c.z∧2 * p.z - c.z≤4)
theorem Zqj:∀ k,k < 4→(shapeP k).all (near4 (ctr k))=true:=by decide +kernel
theorem Zn3 {c p u o t:Int} (h1:-4≤2 * p - c) (h2:2 * p - c≤4) (hu:0≤u) (hu2:u≤13250) (ho:-128≤o∧o≤127):-53128≤p * (2 * u)+t+o+-(t+u * c)∧p * (2 * u)+t+o+-(t+u * c)≤53128:=by
 have e3:p * (2 * u)+t+o+-(t+u * c)=(2 * p - c) * u+o:=by grind
 have a:=Int.mul_le_mul_of_nonneg_right h1 hu
 have b:=Int.mul_le_mul_of_nonneg_right h2 hu
 rw [e3]
 omega
theorem Zsw {pts:List V3} (h:∀ p∈pts,p.in 53128) (f:V3):-900000000000000≤faceV pts f∧faceV pts f≤900000000000000:=by
 have:=Zr0 (by decide) (by decide) (Zbw (by decide) h f.x) (Ze7 (by decide) (by decide) (Zbw (by decide) h f.y) (Zbw (by decide) h f.z))
 unfold faceV
 omega
theorem Zrq {pts:List V3} (h:∀ p∈pts,p.in 53128):∀ (l:List V3) (z:Int),z - 900000000000000 * (l.length:Int)≤l.foldl (fun s f=>s+faceV pts f) z∧l.foldl (fun s f=>s+faceV pts f) z≤z+900000000000000 * (l.length:Int)
 | [],z=>by simp
 | f::l,z=>by
  have h1:=Zsw h f
  have h2:=Zrq h l (z+faceV pts f)
  simp only [List.foldl_cons,List.length_cons]
  omega
theorem Zt8 {k:Nat} {u:Int} {t:V3} {off:List Int} (hk:k < 4) (hu:0≤u) (hu2:u≤13250) (ho:∀ x∈off,-128≤x∧x≤127):∀ p∈(offM off (plainM k (2 * u) t)).map (·.add (mid k u t)),p.in 53128:=by
 intro p hp
 obtain ⟨i,hi⟩:=List.mem_iff_getElem?.1 hp
 rw [List.getElem?_map,offM,List.getElem?_mapIdx,plainM,List.getElem?_map] at hi
 cases hq:(shapeP k)[i]? with
 | none=>rw [hq] at hi;cases hi
 | some q =>
  rw [hq] at hi
  have h4:=List.all_eq_true.1 (Zqj k hk) q (List.mem_of_getElem? hq)
  simp only [near4,decide_eq_true_eq] at h4
  obtain ⟨a1,a2,a3,a4,a5,a6⟩:=h4
  have e:p=(offP off i (V3.lay (2 * u) t q)).add (mid k u t):=by simpa using hi.symm
  rw [e]
  have x1:=Zn3 (t:=t.x) a1 a2 hu hu2 (Zd5 ho (3 * i))
  have x2:=Zn3 (t:=t.y) a3 a4 hu hu2 (Zd5 ho (3 * i+1))
  have x3:=Zn3 (t:=t.z) a5 a6 hu hu2 (Zd5 ho (3 * i+2))
  exact ⟨x1.1,x1.2,x2.1,x2.2,x3.1,x3.2⟩
theorem Zrp {k:Nat} {u:Int} {t:V3} {off:List Int} (hk:k < 4) (hu:500≤u) (hu2:u≤13250) (ht:t.in 32768) (ho:∀ x∈off,-128≤x∧x≤127):volM (offM off (plainM k (2 * u) t)) (shapeF k)≤10800000000000000:=by
 have hg:=Zvk.1 (Zhh (k:=k) (s:=2 * u) (t:=t) hk (by omega) (by omega) ht)
 have hlen:(offM off (plainM k (2 * u) t)).length=(shapeP k).length:=by simp [offM,plainM]
 have hw:∀ f∈shapeF k,isWrong (offM off (plainM k (2 * u) t)).length f=false:=by
  rw [hlen,← Zce (s:=2 * u) (t:=t)];exact Za0 hg.wrong
 have h1:=Zez (v:=mid k u t) hw (shapeF k).length
 rw [List.take_length,hg.sumN'] at h1
 have h2:volM (offM off (plainM k (2 * u) t)) (shapeF k)=volM ((offM off (plainM k (2 * u) t)).map (·.add (mid k u t))) (shapeF k):=by
  rw [h1];simp [V3.dot,V3.zero]
 rw [h2]
 have h3:=(Zrq (Zt8 (t:=t) hk (by omega) hu2 ho) (shapeF k) 0).2
 have h4:=(Zc7 (k:=k)).2
 unfold volM
 omega
theorem Zkc {k:Nat} {u:Int} {t:V3} {off:List Int} (hk:k < 4) (hu:500≤u) (hu2:u≤13250) (ht:t.in 32768) (ho:∀ x∈off,-128≤x∧x≤127):volM (baseM k (2 * u) t off) (shapeF k)≤10800000000000000:=by
 unfold baseM
 split
 ·exact Zrp hk hu hu2 ht ho
 ·have:=Zrp (off:=[]) hk hu hu2 ht (by simp)
  rwa [Zhk] at this
end Go.Sx
