/- Plain: a mesh whose corners all lie on one side of a plane through a point does not wind round the point; a tetrahedron and a point, by the signs of four determinants. -/
import Derived.Test.YtbfgldlfciimiaaGreatDoorIw1
import Derived.Test.YtbfgldlfciimiaaGreatDoorPl
import Derived.Test.YtbfgldlfciimiaaGreatDoorMq1
set_option maxHeartbeats 1000000
namespace Go.Sx
open Go
/-! the tetrahedron -/
variable {a b c e p:V3}
end Go.Sx
namespace Go.Sx
open Go
variable {P P' F:List V3} {p p':V3}
structure Like (P F P':List V3) (p p':V3) (φ:V3→V3):Prop where
 hdet:∀ a b c,det3 (φ a) (φ b) (φ c)=det3 a b c
 hc:∀ x y z a b c,cmb3 x y z (φ a) (φ b) (φ c)=φ (cmb3 x y z a b c)
 hz:∀ v,φ v=V3.zero↔v=V3.zero
 hr:∀ f∈F,relV P' p' f.x=φ (relV P p f.x)∧relV P' p' f.y=φ (relV P p f.y)∧relV P' p' f.z=φ (relV P p f.z)
theorem Like.on {φ:V3→V3} (h:Like P F P' p p' φ) (hg:Good P F) (hg':Good P' F):onM axP P' F p'=onM axP P F p:=by
 rw [Bool.eq_iff_iff,Zer hg',Zer hg]
 have key:∀ f∈F,(OnI P' p' f↔OnI P p f):=fun f hf=>by
  obtain ⟨e1,e2,e3⟩:=h.hr f hf
  unfold OnI
  rw [e1,e2,e3]
  simp only [h.hc,h.hz]
 constructor
 ·rintro ⟨f,hf,k⟩;exact ⟨f,hf,(key f hf).1 k⟩
 ·rintro ⟨f,hf,k⟩;exact ⟨f,hf,(key f hf).2 k⟩
theorem Like.wind {φ:V3→V3} (h:Like P F P' p p' φ) (hg:Good P F) (hg':Good P' F) (ho:onM axP P F p=false):windN P' F p'=windN P F p:=by
 obtain ⟨t,_,_,_,hf⟩:=Zd9 hg p
 have hf':Fine P' F p' (φ (dirT t)):=fun f hfF h0=>by
  obtain ⟨e1,e2,e3⟩:=h.hr f hfF
  rw [e1,e2,e3,h.hdet] at h0
  rw [e1,e2,e3,h.hdet,h.hdet,h.hdet]
  exact hf f hfF h0
 rw [Zfd hg ho hf,Zfd hg' (by rw [h.on hg hg'];exact ho) hf']
 unfold windM
 refine Ze7 F 0 fun f hf=>?_
 obtain ⟨e1,e2,e3⟩:=h.hr f hf
 unfold hitF hit3
 rw [e1,e2,e3,h.hdet,h.hdet,h.hdet,h.hdet]
theorem Like.side {φ:V3→V3} (h:Like P F P' p p' φ) (hg:Good P F) (hg':Good P' F) (hp:isFar p=false) (hp':isFar p'=false):sideW P' F p'=sideW P F p∧wndW P' F p'=wndW P F p:=by
 have f1:(flawM P F).1=0:=Yb3.2 hg
 have f2:(flawM P' F).1=0:=Yb3.2 hg'
 have ho:=h.on hg hg'
 unfold sideW wndW
 rw [f1,f2,hp,hp',ho]
 cases hq:onM axP P F p with
 | true=>exact ⟨rfl,rfl⟩
 | false=>rw [h.wind hg hg' hq];exact ⟨rfl,rfl⟩
theorem Zj9 (hg:Good P F) {f:V3} (hf:f∈F):(0≤f.x∧f.x < P.length)∧(0≤f.y∧f.y < P.length)∧(0≤f.z∧f.z < P.length):=by
 have h:=List.findIdx?_eq_none_iff.1 hg.wrong f hf
 simp only [isWrong,Bool.or_eq_false_iff,decide_eq_false_iff_not] at h
 omega
def cyc (v:V3):V3:=⟨v.y,v.z,v.x⟩
theorem Z8g (p:V3):isFar (cyc p)=isFar p:=by
 rw [Bool.eq_iff_iff,Zlp,Zlp]
 simp only [cyc]
 omega
theorem Z1r (a b:V3):(cyc a).cross (cyc b)=cyc (a.cross b):=by
 simp only [V3.cross,cyc]
theorem Zze (a b:V3):(cyc a).sub (cyc b)=cyc (a.sub b):=rfl
theorem Ycs (hg:Good P F):Good (P.map Sx.cyc) F where
 p4:=by rw [List.length_map];exact hg.p4
 p300:=by rw [List.length_map];exact hg.p300
 f4:=hg.f4
 f600:=hg.f600
 far:=List.findIdx?_eq_none_iff.2 fun q hq=>by
  obtain ⟨r,hr,rfl⟩:=List.mem_map.1 hq
  rw [Z8g]
  exact List.findIdx?_eq_none_iff.1 hg.far r hr
 wrong:=by rw [List.length_map];exact hg.wrong
 flat:=List.findIdx?_eq_none_iff.2 fun f hf=>by
  obtain ⟨h1,h2,h3⟩:=Zj9 hg hf
  have h:=List.findIdx?_eq_none_iff.1 hg.flat f hf
  simp only [isFlat,decide_eq_false_iff_not] at h ⊢
  intro k
  apply h
  unfold normal at k ⊢
  rw [Zbr h1.1 h1.2,Zbr h2.1 h2.2,Zbr h3.1 h3.2,Zze,Zze,Z1r] at k
  generalize ((ptAt P f.y).sub (ptAt P f.x)).cross ((ptAt P f.z).sub (ptAt P f.x))=n at k ⊢
  obtain ⟨x,y,z⟩:=n
  simp only [Sx.cyc,V3.zero,V3.mk.injEq] at k ⊢
  omega
 twice:=hg.twice
 opn:=hg.opn
 spare:=by rw [List.length_map];exact hg.spare
 apart:=hg.apart
theorem Zo2 (hg:Good P F) (hg':Good P (F.map swapF)):onM axP P (F.map swapF) p=onM axP P F p:=by
 rw [Bool.eq_iff_iff,Zer hg',Zer hg]
 have key:∀ f,OnI P p f→OnI P p (swapF f):=fun f=>by
  rintro ⟨x,y,z,hx,hy,hz,hs,he⟩
  refine ⟨x,z,y,hx,hz,hy,by omega,?_⟩
  rw [← he]
  simp only [cmb3,swapF,V3.mk.injEq]
  omega
 constructor
 ·rintro ⟨f,hf,k⟩
  obtain ⟨g,hg,rfl⟩:=List.mem_map.1 hf
  exact ⟨g,hg,key _ k⟩
 ·rintro ⟨f,hf,k⟩;exact ⟨swapF f,List.mem_map.2 ⟨f,hf,rfl⟩,key f k⟩
end Go.Sx
