/- Plain: sides and winding numbers of meshes that are moved, whose axes are renamed, that are turned; points outside of the box. -/
import Derived.Test.YtgapnfaakdjpaaaGreatDoorIt1
import Derived.Test.YtgapnfaakdjpaaaGreatDoorMq1
namespace Go.Sx
open Go
variable {P P' F:List V3} {p p':V3}
structure Like (P F P':List V3) (p p':V3) (φ:V3→V3):Prop where
  hdet:∀ a b c,det3 (φ a) (φ b) (φ c)=det3 a b c
  hc:∀ x y z a b c,cmb3 x y z (φ a) (φ b) (φ c)=φ (cmb3 x y z a b c)
  hz:∀ v,φ v=V3.zero↔v=V3.zero
  hr:∀ f∈F,relV P' p' f.x=φ (relV P p f.x)∧relV P' p' f.y=φ (relV P p f.y)∧relV P' p' f.z=φ (relV P p f.z)
theorem Like.on {φ:V3→V3} (h:Like P F P' p p' φ) (hg:Good P F) (hg':Good P' F):onM axP P' F p'=onM axP P F p:=by
  rw [Bool.eq_iff_iff,onM_iff hg',onM_iff hg]
  have key:∀ f∈F,(OnI P' p' f↔OnI P p f):=fun f hf=>by
    obtain ⟨e1,e2,e3⟩:=h.hr f hf
    unfold OnI
    rw [e1,e2,e3]
    simp only [h.hc,h.hz]
  constructor
  · rintro ⟨f,hf,k⟩;exact ⟨f,hf,(key f hf).1 k⟩
  · rintro ⟨f,hf,k⟩;exact ⟨f,hf,(key f hf).2 k⟩
theorem Like.wind {φ:V3→V3} (h:Like P F P' p p' φ) (hg:Good P F) (hg':Good P' F) (ho:onM axP P F p=false):windN P' F p'=windN P F p:=by
  obtain ⟨t,_,_,_,hf⟩:=goodT_some hg p
  have hf':Fine P' F p' (φ (dirT t)):=fun f hfF h0=>by
    obtain ⟨e1,e2,e3⟩:=h.hr f hfF
    rw [e1,e2,e3,h.hdet] at h0
    rw [e1,e2,e3,h.hdet,h.hdet,h.hdet]
    exact hf f hfF h0
  rw [windN_eq hg ho hf,windN_eq hg' (by rw [h.on hg hg'];exact ho) hf']
  unfold windM
  refine fold_congr F 0 fun f hf=>?_
  obtain ⟨e1,e2,e3⟩:=h.hr f hf
  unfold hitF hit3
  rw [e1,e2,e3,h.hdet,h.hdet,h.hdet,h.hdet]
theorem Like.side {φ:V3→V3} (h:Like P F P' p p' φ) (hg:Good P F) (hg':Good P' F) (hp:isFar p=false) (hp':isFar p'=false):sideW P' F p'=sideW P F p∧wndW P' F p'=wndW P F p:=by
  have f1:(flawM P F).1=0:=okM_good.2 hg
  have f2:(flawM P' F).1=0:=okM_good.2 hg'
  have ho:=h.on hg hg'
  unfold sideW wndW
  rw [f1,f2,hp,hp',ho]
  cases hq:onM axP P F p with
  | true=>exact ⟨rfl,rfl⟩
  | false=>rw [h.wind hg hg' hq];exact ⟨rfl,rfl⟩
theorem wrong_at (hg:Good P F) {f:V3} (hf:f∈F):(0≤f.x∧f.x < P.length)∧(0≤f.y∧f.y < P.length)∧(0≤f.z∧f.z < P.length):=by
  have h:=List.findIdx?_eq_none_iff.1 hg.wrong f hf
  simp only [isWrong,Bool.or_eq_false_iff,decide_eq_false_iff_not] at h
  omega
def cyc (v:V3):V3:=⟨v.y,v.z,v.x⟩
theorem far_cyc (p:V3):isFar (cyc p)=isFar p:=by
  rw [Bool.eq_iff_iff,isFar_iff,isFar_iff]
  simp only [cyc]
  omega
theorem cross_cyc (a b:V3):(cyc a).cross (cyc b)=cyc (a.cross b):=by
  simp only [V3.cross,cyc]
theorem sub_cyc (a b:V3):(cyc a).sub (cyc b)=cyc (a.sub b):=rfl
theorem Good.cyc (hg:Good P F):Good (P.map Sx.cyc) F where
  p4:=by rw [List.length_map];exact hg.p4
  p300:=by rw [List.length_map];exact hg.p300
  f4:=hg.f4
  f600:=hg.f600
  far:=List.findIdx?_eq_none_iff.2 fun q hq=>by
    obtain ⟨r,hr,rfl⟩:=List.mem_map.1 hq
    rw [far_cyc]
    exact List.findIdx?_eq_none_iff.1 hg.far r hr
  wrong:=by rw [List.length_map];exact hg.wrong
  flat:=List.findIdx?_eq_none_iff.2 fun f hf=>by
    obtain ⟨h1,h2,h3⟩:=wrong_at hg hf
    have h:=List.findIdx?_eq_none_iff.1 hg.flat f hf
    simp only [isFlat,decide_eq_false_iff_not] at h ⊢
    intro k
    apply h
    unfold normal at k ⊢
    rw [ptAt_map h1.1 h1.2,ptAt_map h2.1 h2.2,ptAt_map h3.1 h3.2,sub_cyc,sub_cyc,cross_cyc] at k
    generalize ((ptAt P f.y).sub (ptAt P f.x)).cross ((ptAt P f.z).sub (ptAt P f.x))=n at k ⊢
    obtain ⟨x,y,z⟩:=n
    simp only [Sx.cyc,V3.zero,V3.mk.injEq] at k ⊢
    omega
  twice:=hg.twice
  opn:=hg.opn
  spare:=by rw [List.length_map];exact hg.spare
  apart:=hg.apart
theorem hit_turn (d a b c:V3):hit3 d a c b=- hit3 d a b c:=by
  unfold hit3
  rw [det_swap a b c,det_swap d b c,det_swap d a b,det_swap d c a]
  unfold hitS
  simp only [Int.sign_neg]
  by_cases h:det3 a b c≠0∧(det3 d b c).sign=(det3 a b c).sign∧(det3 d c a).sign=(det3 a b c).sign∧(det3 d a b).sign=(det3 a b c).sign
  · rw [if_pos h,if_pos (by omega)]
  · rw [if_neg h,if_neg (by omega)];rfl
theorem fold_turn {g h:V3→Int} (k:∀ f,g (swapF f)=- h f):∀ (F:List V3) (s:Int),(F.map swapF).foldl (fun s f=>s+g f) (-s)=- F.foldl (fun s f=>s+h f) s
  | [],s=>rfl
  | f::F,s=>by
    rw [List.map_cons,List.foldl_cons,List.foldl_cons,k,← Int.neg_add,fold_turn k F]
theorem wind_turn (P F:List V3) (p d:V3):windM P (F.map swapF) p d=- windM P F p d :=
  fold_turn (g:=hitF P p d) (h:=hitF P p d) (fun _=>hit_turn d _ _ _) F 0
theorem on_turn (hg:Good P F) (hg':Good P (F.map swapF)):onM axP P (F.map swapF) p=onM axP P F p:=by
  rw [Bool.eq_iff_iff,onM_iff hg',onM_iff hg]
  have key:∀ f,OnI P p f→OnI P p (swapF f):=fun f=>by
    rintro ⟨x,y,z,hx,hy,hz,hs,he⟩
    refine ⟨x,z,y,hx,hz,hy,by omega,?_⟩
    rw [← he]
    simp only [cmb3,swapF,V3.mk.injEq]
    omega
  constructor
  · rintro ⟨f,hf,k⟩
    obtain ⟨g,hg,rfl⟩:=List.mem_map.1 hf
    exact ⟨g,hg,key _ k⟩
  · rintro ⟨f,hf,k⟩;exact ⟨swapF f,List.mem_map.2 ⟨f,hf,rfl⟩,key f k⟩
theorem windN_turn (hg:Good P F) (hg':Good P (F.map swapF)) (ho:onM axP P F p=false):windN P (F.map swapF) p=- windN P F p:=by
  obtain ⟨t,_,_,_,hf⟩:=goodT_some hg p
  have hf':Fine P (F.map swapF) p (dirT t):=fun f hfF h0=>by
    obtain ⟨g,hgF,rfl⟩:=List.mem_map.1 hfF
    have h0':det3 (relV P p g.x) (relV P p g.y) (relV P p g.z)≠0:=by
      have:det3 (relV P p g.x) (relV P p g.z) (relV P p g.y)=- det3 (relV P p g.x) (relV P p g.y) (relV P p g.z):=det_swap _ _ _
      have h0:det3 (relV P p g.x) (relV P p g.z) (relV P p g.y)≠0:=h0
      omega
    obtain ⟨k1,k2,k3⟩:=hf g hgF h0'
    show det3 (dirT t) (relV P p g.x) (relV P p g.z)≠0∧det3 (dirT t) (relV P p g.z) (relV P p g.y)≠0∧det3 (dirT t) (relV P p g.y) (relV P p g.x)≠0
    have q1:=det_swap (dirT t) (relV P p g.x) (relV P p g.y)
    have q2:=det_swap (dirT t) (relV P p g.y) (relV P p g.z)
    have q3:=det_swap (dirT t) (relV P p g.z) (relV P p g.x)
    omega
  rw [windN_eq hg ho hf,windN_eq hg' (by rw [on_turn hg hg'];exact ho) hf',wind_turn]
end Go.Sx
