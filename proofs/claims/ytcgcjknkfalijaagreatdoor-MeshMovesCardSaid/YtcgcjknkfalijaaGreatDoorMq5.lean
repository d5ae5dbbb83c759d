/- Meshes, plain: a draft that is not turned has a volume above nought. -/
import Derived.Test.YtcgcjknkfalijaaGreatDoorMq4
set_option maxHeartbeats 1000000
namespace Go.Sx
open Go
def ctr:Nat→V3
 | 0=>⟨1,1,1⟩
 | 1=>⟨0,0,0⟩
 | 2=>⟨1,1,1⟩
 | _=>⟨4,2,2⟩
def ivC (c p:Int):Itv:=⟨125 * (2 * p - c) - 32,125 * (2 * p - c)+32⟩
def ivP (c p:V3):Itv3:=⟨ivC c.x p.x,ivC c.y p.y,ivC c.z p.z⟩
def ivAt (k:Nat) (i:Int):Itv3:=ivP (ctr k) (ptAt (shapeP k) i)
def loF (k:Nat) (f:V3):Int:=(Itv3.det (ivAt k f.x) (ivAt k f.y) (ivAt k f.z)).lo
def loS (k:Nat) (l:List V3):Int:=l.foldl (fun s f=>s+loF k f) 0
theorem Zuf:∀ k,k < 4→0 < loS k (shapeF k):=by decide +kernel
def sc (p:V3):V3:=⟨125 * p.x,125 * p.y,125 * p.z⟩
theorem Zum {a b c:V3}:(sc a).dot ((sc b).cross (sc c))=1953125 * a.dot (b.cross c):=by
 simp only [sc,V3.dot,V3.cross]
 grind
theorem Zj5 {c p u o t:Int} (hu:500≤u) (ho:-128≤o∧o≤127):(ivC c p).has u (125 * (p * (2 * u)+t+o+-(t+u * c))):=by
 have e1:(125 * (2 * p - c) - 32) * u=125 * ((2 * p - c) * u) - 32 * u:=by grind
 have e2:(125 * (2 * p - c)+32) * u=125 * ((2 * p - c) * u)+32 * u:=by grind
 have e3:p * (2 * u)+t+o+-(t+u * c)=(2 * p - c) * u+o:=by grind
 simp only [Itv.has,ivC,e1,e2,e3]
 omega
def mid (k:Nat) (u:Int) (t:V3):V3:=⟨-(t.x+u * (ctr k).x),-(t.y+u * (ctr k).y),-(t.z+u * (ctr k).z)⟩
theorem Zd5 {off:List Int} (h:∀ x∈off,-128≤x∧x≤127) (i:Nat):-128≤off[i]?.getD 0∧off[i]?.getD 0≤127:=by
 cases hi:off[i]? with
 | none=>simp
 | some x=>exact h x (List.mem_of_getElem? hi)
theorem Znz {k:Nat} {u:Int} {t:V3} {off:List Int} (hu:500≤u) (ho:∀ x∈off,-128≤x∧x≤127) {i:Int} (h0:0≤i) (h1:i < (shapeP k).length) :
  (ivAt k i).has u (sc (ptAt ((offM off (plainM k (2 * u) t)).map (·.add (mid k u t))) i)):=by
 have hl:i.toNat < (shapeP k).length:=by omega
 have e1:(shapeP k)[i.toNat]?=some (shapeP k)[i.toNat]:=List.getElem?_eq_getElem hl
 unfold ivAt
 have e2:ptAt ((offM off (plainM k (2 * u) t)).map (·.add (mid k u t))) i=(offP off i.toNat (V3.lay (2 * u) t (ptAt (shapeP k) i))).add (mid k u t):=by
  simp [ptAt,offM,plainM,e1]
 rw [e2]
 generalize ptAt (shapeP k) i=q
 exact ⟨Zj5 hu (Zd5 ho _),Zj5 hu (Zd5 ho _),Zj5 hu (Zd5 ho _)⟩
theorem Ztx {k:Nat} {u:Int} {Y:List V3} (hu:0≤u) {F:List V3} (hF:∀ f∈F,(ivAt k f.x).has u (sc (ptAt Y f.x))∧(ivAt k f.y).has u (sc (ptAt Y f.y))∧(ivAt k f.z).has u (sc (ptAt Y f.z))) :
  ∀ {z w:Int},z * (u * (u * u))≤1953125 * w→(F.foldl (fun s f=>s+loF k f) z) * (u * (u * u))≤1953125 * F.foldl (fun s f=>s+faceV Y f) w:=by
 induction F with
 | nil=>intro z w h;exact h
 | cons f F ih =>
  intro z w h
  simp only [List.foldl_cons]
  refine ih (fun g hg=>hF g (List.mem_cons_of_mem _ hg)) ?_
  obtain ⟨h1,h2,h3⟩:=hF f (List.mem_cons_self ..)
  have h4:=(Itv3.has.det hu h1 h2 h3).1
  rw [Zum] at h4
  change loF k f * (u * (u * u))≤1953125 * faceV Y f at h4
  rw [Int.add_mul]
  omega
theorem Znf {k:Nat} {u:Int} {t:V3} {off:List Int} (hk:k < 4) (hu:500≤u) (hu2:u≤13250) (ht:t.in 32768) (ho:∀ x∈off,-128≤x∧x≤127):0 < volM (offM off (plainM k (2 * u) t)) (shapeF k):=by
 have hg:=Zvk.1 (Zhh (k:=k) (s:=2 * u) (t:=t) hk (by omega) (by omega) ht)
 have hlen:(offM off (plainM k (2 * u) t)).length=(shapeP k).length:=by simp [offM,plainM]
 have hw:∀ f∈shapeF k,isWrong (offM off (plainM k (2 * u) t)).length f=false:=by
  rw [hlen,← Zce (s:=2 * u) (t:=t)];exact Za0 hg.wrong
 have h1:=Zez (v:=mid k u t) hw (shapeF k).length
 rw [List.take_length,hg.sumN'] at h1
 have h2:volM (offM off (plainM k (2 * u) t)) (shapeF k)=volM ((offM off (plainM k (2 * u) t)).map (·.add (mid k u t))) (shapeF k):=by
  rw [h1];simp [V3.dot,V3.zero]
 rw [h2]
 have h3:=Ztx (k:=k) (u:=u) (Y:=(offM off (plainM k (2 * u) t)).map (·.add (mid k u t))) (by omega) (F:=shapeF k) (fun f hf=>by
  have h:=hw f hf
  rw [hlen] at h
  simp only [isWrong,Bool.or_eq_false_iff,decide_eq_false_iff_not] at h
  exact ⟨Znz hu ho (by omega) (by omega),Znz hu ho (by omega) (by omega),Znz hu ho (by omega) (by omega)⟩) (z:=0) (w:=0) (by omega)
 have h4:=Zuf k hk
 have h5:0 < u * (u * u):=Int.mul_pos (by omega) (Int.mul_pos (by omega) (by omega))
 have h6:=Int.mul_pos h4 h5
 unfold loS at h6
 unfold volM
 omega
theorem Zhk {l:List V3}:offM [] l=l:=by
 unfold offM
 apply List.ext_getElem?
 intro i
 rw [List.getElem?_mapIdx]
 cases l[i]? with
 | none=>rfl
 | some p=>simp [offP]
theorem Zq0 {k:Nat} {u:Int} {t:V3} {off:List Int} (hk:k < 4) (hu:500≤u) (hu2:u≤13250) (ht:t.in 32768) (ho:∀ x∈off,-128≤x∧x≤127):0 < volM (baseM k (2 * u) t off) (shapeF k):=by
 unfold baseM
 split
 ·exact Znf hk hu hu2 ht ho
 ·have:=Znf (off:=[]) hk hu hu2 ht (by simp)
  rwa [Zhk] at this
end Go.Sx
