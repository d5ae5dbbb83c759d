/- Meshes, plain: in a valid mesh each edge stands once and has its opposite; the faces are even; what the faces' vectors add up to. -/
import Derived.Test.YtcgcjknkfalijaaGreatDoorPl
set_option maxHeartbeats 1000000
namespace Go.Sx
open Go
def edgesL (fcs:List V3) (p:Nat):List Edg:=(List.range p).map (edgeAt fcs)
theorem Zbx {fcs:List V3} {p:Nat}:edgesL fcs (p+1)=edgesL fcs p++[edgeAt fcs p]:=by
 simp [edgesL,List.range_succ]
theorem Zfn {fcs:List V3} {u:Edg}:∀ {p:Nat},mGet (own fcs p) u=none↔u ∉ edgesL fcs p
 | 0=>by simp [own,mGet,edgesL]
 | p + 1=>by
  rw [own,Zd8,Zbx,List.mem_append,List.mem_singleton]
  by_cases h:edgeAt fcs p=u
  ·simp [h]
  ·have h':¬ u=edgeAt fcs p:=fun e=>h e.symm
   simp only [h,if_false,h',or_false]
   exact Zfn
section
variable {pts fcs:List V3}
theorem Good.dup (hg:Good pts fcs) {p:Nat} (hp:p < 3 * fcs.length):edgeAt fcs p ∉ edgesL fcs p:=by
 have h1:twiceP fcs=none:=by
  have:=hg.twice
  unfold twiceF at this
  simpa using this
 unfold twiceP at h1
 rw [List.find?_eq_none] at h1
 have h2:=h1 p (List.mem_range.2 hp)
 unfold Sx.dup at h2
 rw [← Zfn]
 cases h3:mGet (own fcs p) (edgeAt fcs p) with
 | none=>rfl
 | some _=>rw [h3] at h2;exact absurd rfl h2
theorem Good.nodup (hg:Good pts fcs):∀ {p:Nat},p≤3 * fcs.length→(edgesL fcs p).Nodup
 | 0,_=>by simp [edgesL]
 | p+1,hp=>by
  rw [Zbx,List.nodup_append]
  refine ⟨Good.nodup hg (by omega),by simp,fun a ha b hb=>?_⟩
  rw [List.mem_singleton] at hb
  subst hb
  intro e
  subst e
  exact hg.dup (by omega) ha
theorem Good.swap (hg:Good pts fcs) {u:Edg} (hu:u∈edgesL fcs (3 * fcs.length)):u.swap∈edgesL fcs (3 * fcs.length):=by
 obtain ⟨p,hp,rfl⟩:=List.mem_map.1 hu
 have h0:twiceP fcs=none:=by
  have:=hg.twice
  unfold twiceF at this
  simpa using this
 have h1:openP fcs (ownF fcs)=none:=by
  have:=hg.opn
  unfold openF at this
  simpa using this
 unfold openP at h1
 rw [List.find?_eq_none] at h1
 have h2:=h1 p hp
 unfold sole ownF at h2
 rw [h0] at h2
 refine Classical.byContradiction fun h=>?_
 rw [← Zfn] at h
 simp only [Option.getD_none] at h2
 rw [h] at h2
 exact h2 rfl
theorem Good.apart2 (hg:Good pts fcs) {u:Edg} (hu:u∈edgesL fcs (3 * fcs.length)):u.1≠u.2:=by
 obtain ⟨p,hp,rfl⟩:=List.mem_map.1 hu
 have hp':=List.mem_range.1 hp
 have hi:p / 3 < fcs.length:=by omega
 have hw:=(List.findIdx?_eq_none_iff.1 hg.wrong) _ (List.getElem_mem hi)
 have he:fcs[p / 3]?=some fcs[p / 3]:=List.getElem?_eq_getElem hi
 simp only [edgeAt,he]
 simp only [isWrong,Bool.or_eq_false_iff,decide_eq_false_iff_not] at hw
 unfold V3.edge
 split
 ·exact hw.1.1.2
 ·split
  ·exact hw.1.2
  ·exact hw.2
theorem Zic (u:Edg):u.swap.swap=u:=rfl
theorem Zid {E:List Edg} (hn:E.Nodup) (hs:∀ u∈E,u.swap∈E):(E.map Prod.swap).Perm E:=by
 have h1:(E.map Prod.swap).Nodup:=by
  unfold List.Nodup
  rw [List.pairwise_map]
  exact hn.imp fun {a b} h e=>h (by rw [← Zic a,← Zic b,e])
 refine (List.perm_ext_iff_of_nodup h1 hn).2 fun a=>⟨fun h=>?_,fun h=>?_⟩
 ·obtain ⟨u,hu,rfl⟩:=List.mem_map.1 h
  exact hs u hu
 ·exact List.mem_map.2 ⟨a.swap,hs a h,rfl⟩
theorem Ziw {E:List Edg} (hn:E.Nodup) (hs:∀ u∈E,u.swap∈E) (hd:∀ u∈E,u.1≠u.2):E.length % 2=0:=by
 have h1:=List.length_eq_countP_add_countP (fun u:Edg=>decide (u.1 < u.2)) (l:=E)
 have h2:=(Zid hn hs).countP_eq (fun u:Edg=>decide (u.1 < u.2))
 rw [List.countP_map] at h2
 have h3:E.countP (fun u=>decide ¬decide (u.1 < u.2)=true)=E.countP ((fun u:Edg=>decide (u.1 < u.2)) ∘ Prod.swap):=by
  refine List.countP_congr fun u hu=>?_
  have:=hd u hu
  simp only [decide_eq_true_eq,Function.comp_apply,Prod.fst_swap,Prod.snd_swap]
  omega
 omega
theorem Zu4 (hg:Good pts fcs):fcs.length % 2=0:=by
 have h:=Ziw (hg.nodup (Nat.le_refl _)) (fun u hu=>hg.swap hu) (fun u hu=>hg.apart2 hu)
 have h2:(edgesL fcs (3 * fcs.length)).length=3 * fcs.length:=by simp [edgesL]
 omega
def sumE (f:Edg→Int) (l:List Edg):Int:=l.foldr (fun u s=>f u+s) 0
theorem Zjw {f:Edg→Int} {l l':List Edg}:sumE f (l++l')=sumE f l+sumE f l':=by
 induction l with
 | nil=>simp [sumE]
 | cons a r ih=>simp only [sumE,List.cons_append,List.foldr_cons] at ih ⊢;omega
theorem Zno {f:Edg→Int} {l l':List Edg} (h:l.Perm l'):sumE f l=sumE f l':=by
 induction h with
 | nil=>rfl
 | cons x _ ih=>simp only [sumE,List.foldr_cons] at ih ⊢;omega
 | swap x y l=>simp only [sumE,List.foldr_cons];omega
 | trans _ _ h1 h2=>rw [h1,h2]
theorem Znn {f:Edg→Int} (hf:∀ u,f u.swap=- f u) {l:List Edg}:sumE f (l.map Prod.swap)=- sumE f l:=by
 induction l with
 | nil=>rfl
 | cons a r ih=>simp only [sumE,List.map_cons,List.foldr_cons,hf] at ih ⊢;omega
theorem Zcc {f:Edg→Int} (hf:∀ u,f u.swap=- f u) {E:List Edg} (hn:E.Nodup) (hs:∀ u∈E,u.swap∈E):sumE f E=0:=by
 have h1:=Zno (f:=f) (Zid hn hs)
 rw [Znn hf] at h1
 omega
def V3.add' (a b:V3):V3:=⟨a.x+b.x,a.y+b.y,a.z+b.z⟩
def sumN (pts l:List V3):V3:=l.foldl (fun s f=>s.add' (normal pts f)) V3.zero
def ex (pts:List V3) (u:Edg):V3:=(ptAt pts u.1).cross (ptAt pts u.2)
theorem Zio {f:V3}:(normal pts f).x=(ex pts (f.x,f.y)).x+(ex pts (f.y,f.z)).x+(ex pts (f.z,f.x)).x ∧
  (normal pts f).y=(ex pts (f.x,f.y)).y+(ex pts (f.y,f.z)).y+(ex pts (f.z,f.x)).y ∧
  (normal pts f).z=(ex pts (f.x,f.y)).z+(ex pts (f.y,f.z)).z+(ex pts (f.z,f.x)).z:=by
 simp only [normal,ex,V3.cross,V3.sub]
 refine ⟨?_,?_,?_⟩<;>grind
theorem Zfh:∀ {k:Nat},k≤fcs.length→(sumN pts (fcs.take k)).x=sumE (fun u=>(ex pts u).x) (edgesL fcs (3 * k)) ∧
  (sumN pts (fcs.take k)).y=sumE (fun u=>(ex pts u).y) (edgesL fcs (3 * k))∧(sumN pts (fcs.take k)).z=sumE (fun u=>(ex pts u).z) (edgesL fcs (3 * k))
 | 0,_=>by simp [sumN,edgesL,sumE,V3.zero]
 | k + 1,hk=>by
  obtain ⟨i1,i2,i3⟩:=Zfh (k:=k) (by omega)
  have hf:fcs[k]?=some fcs[k]:=List.getElem?_eq_getElem (by omega)
  generalize fcs[k]=f at hf
  have e1:edgesL fcs (3 * (k+1))=edgesL fcs (3 * k)++[(f.x,f.y),(f.y,f.z),(f.z,f.x)]:=by
     rw [show 3 * (k+1)=3 * k+1+1+1 from rfl,Zbx,Zbx,Zbx,Zol hf,Zok hf,Zoj hf]
     simp
  have e2:sumN pts (fcs.take (k+1))=(sumN pts (fcs.take k)).add' (normal pts f):=by
     unfold sumN;rw [Zak hf]
  obtain ⟨n1,n2,n3⟩:=Zio (pts:=pts) (f:=f)
  have s3:∀ g:Edg→Int,sumE g [(f.x,f.y),(f.y,f.z),(f.z,f.x)]=g (f.x,f.y)+g (f.y,f.z)+g (f.z,f.x):=fun g=>by simp [sumE];omega
  rw [e1,e2]
  simp only [Zjw,s3,V3.add']
  refine ⟨?_,?_,?_⟩<;>omega
theorem Zek (u:Edg):(ex pts u.swap).x=-(ex pts u).x∧(ex pts u.swap).y=-(ex pts u).y∧(ex pts u.swap).z=-(ex pts u).z:=by
 simp only [ex,V3.cross,Prod.fst_swap,Prod.snd_swap]
 refine ⟨?_,?_,?_⟩<;>grind
theorem Good.sumN (hg:Good pts fcs):Sx.sumN pts fcs=V3.zero:=by
 have h:=Zfh (pts:=pts) (fcs:=fcs) (Nat.le_refl _)
 rw [List.take_length] at h
 obtain ⟨h1,h2,h3⟩:=h
 have hn:=hg.nodup (Nat.le_refl _)
 have hs:=fun u hu=>hg.swap (u:=u) hu
 rw [Zcc (fun u=>(Zek u).1) hn hs] at h1
 rw [Zcc (fun u=>(Zek u).2.1) hn hs] at h2
 rw [Zcc (fun u=>(Zek u).2.2) hn hs] at h3
 generalize Sx.sumN pts fcs=s at *
 obtain ⟨x,y,z⟩:=s
 simp only at h1 h2 h3
 subst h1 h2 h3
 rfl
end
end Go.Sx
namespace Go.Sx
open Go
def comb (n:Nat) (F:List V3):Bool:=(wrongF n F).isNone&&(twiceF F).isNone&&(openF F (ownF F)).isNone&&(spareF n F).isNone&&(apartF (fun u=>(mGet (ownF F) u).getD 0) F).isNone
theorem Zdc:∀ k,k < 4→comb (shapeP k).length (shapeF k)=true∧comb (shapeP k).length ((shapeF k).map swapF)=true∧flatF (shapeP k) (shapeF k)=none:=by
 decide +kernel
theorem Zoa {pts F:List V3} (h1:4≤pts.length) (h2:pts.length≤300) (h3:4≤F.length) (h4:F.length≤600) (hf:farF pts=none) (hc:comb pts.length F=true) (hl:flatF pts F=none):Good pts F:=by
 simp only [comb,Bool.and_eq_true,Option.isNone_iff_eq_none] at hc
 exact ⟨h1,h2,h3,h4,hf,hc.1.1.1.1,hl,hc.1.1.1.2,hc.1.1.2,hc.1.2,hc.2⟩
theorem Zbk {f:V3→V3} {l:List V3} {i:Int} (h0:0≤i) (h1:i < l.length):ptAt (l.map f) i=f (ptAt l i):=by
 have:i.toNat < l.length:=by omega
 simp [ptAt,List.getElem?_map,List.getElem?_eq_getElem this]
theorem Zme {s:Int} {t a b c:V3}:((V3.lay s t b).sub (V3.lay s t a)).cross ((V3.lay s t c).sub (V3.lay s t a))=⟨s * s * ((b.sub a).cross (c.sub a)).x,s * s * ((b.sub a).cross (c.sub a)).y,s * s * ((b.sub a).cross (c.sub a)).z⟩:=by
 simp only [V3.lay,V3.sub,V3.cross,V3.mk.injEq]
 refine ⟨?_,?_,?_⟩<;>grind
theorem Zj0 {a b c:V3}:(c.sub a).cross (b.sub a)=⟨-((b.sub a).cross (c.sub a)).x,-((b.sub a).cross (c.sub a)).y,-((b.sub a).cross (c.sub a)).z⟩:=by
 simp only [V3.sub,V3.cross,V3.mk.injEq]
 refine ⟨?_,?_,?_⟩<;>grind
theorem Zud {s x:Int} (hs:s≠0) (hx:x≠0):s * s * x≠0:=Int.mul_ne_zero (Int.mul_ne_zero hs hs) hx
theorem Zmn {k:Nat} {s:Int} {t:V3} (hk:k < 4) (hs:s≠0):flatF (plainM k s t) (shapeF k)=none:=by
 have hc:=(Zdc k hk).1
 have hfl:=(Zdc k hk).2.2
 simp only [comb,Bool.and_eq_true,Option.isNone_iff_eq_none] at hc
 have hw:=List.findIdx?_eq_none_iff.1 hc.1.1.1.1
 have hfl:=List.findIdx?_eq_none_iff.1 hfl
 refine List.findIdx?_eq_none_iff.2 fun f hf=>?_
 have h1:=hw f hf
 have h2:=hfl f hf
 simp only [isWrong,Bool.or_eq_false_iff,decide_eq_false_iff_not] at h1
 simp only [isFlat,decide_eq_false_iff_not] at h2 ⊢
 intro h
 apply h2
 unfold normal plainM at h
 rw [Zbk (by omega) (by omega),Zbk (by omega) (by omega),Zbk (by omega) (by omega),Zme] at h
 unfold normal
 generalize ((ptAt (shapeP k) f.y).sub (ptAt (shapeP k) f.x)).cross ((ptAt (shapeP k) f.z).sub (ptAt (shapeP k) f.x))=n at h
 obtain ⟨x,y,z⟩:=n
 simp only [V3.zero,V3.mk.injEq] at h ⊢
 have e:∀ {x:Int},s * s * x=0→x=0:=fun {x} hx=>Classical.byContradiction fun hne=>Zud hs hne hx
 exact ⟨e h.1,e h.2.1,e h.2.2⟩
theorem Zod {pts F:List V3} (h:flatF pts F=none):flatF pts (F.map swapF)=none:=by
 have h:=List.findIdx?_eq_none_iff.1 h
 refine List.findIdx?_eq_none_iff.2 fun g hg=>?_
 obtain ⟨f,hf,rfl⟩:=List.mem_map.1 hg
 have h2:=h f hf
 simp only [isFlat,decide_eq_false_iff_not] at h2 ⊢
 intro h3
 apply h2
 unfold normal at h3 ⊢
 simp only [swapF] at h3
 rw [Zj0] at h3
 generalize ((ptAt pts f.y).sub (ptAt pts f.x)).cross ((ptAt pts f.z).sub (ptAt pts f.x))=n at h3
 obtain ⟨x,y,z⟩:=n
 simp only [V3.zero,V3.mk.injEq] at h3 ⊢
 omega
theorem Zj1 {x s:Int} (h1:-3≤x) (h2:x≤3) (h0:0≤s):-(3 * s)≤x * s∧x * s≤3 * s:=by
 have a:=Int.mul_le_mul_of_nonneg_right h1 h0
 have b:=Int.mul_le_mul_of_nonneg_right h2 h0
 omega
theorem Zof {k:Nat} {s:Int} {t:V3} (hs0:0≤s) (hs:s≤26500) (ht:t.in 32768):farF (plainM k s t)=none:=by
 obtain ⟨t1,t2,t3,t4,t5,t6⟩:=ht
 refine List.findIdx?_eq_none_iff.2 fun p hp=>?_
 obtain ⟨q,hq,rfl⟩:=List.mem_map.1 hp
 obtain ⟨q1,q2,q3,q4,q5,q6⟩:=Zfi q hq
 have a1:=Zj1 q1 q2 hs0
 have a2:=Zj1 q3 q4 hs0
 have a3:=Zj1 q5 q6 hs0
 have e1:(V3.lay s t q).x=q.x * s+t.x:=rfl
 have e2:(V3.lay s t q).y=q.y * s+t.y:=rfl
 have e3:(V3.lay s t q).z=q.z * s+t.z:=rfl
 generalize V3.lay s t q=v at e1 e2 e3
 simp only [isFar,Bool.or_eq_false_iff,decide_eq_false_iff_not]
 omega
theorem Zce {k:Nat} {s:Int} {t:V3}:(plainM k s t).length=(shapeP k).length:=by simp [plainM]
theorem Zhh {k:Nat} {s:Int} {t:V3} (hk:k < 4) (hs0:1≤s) (hs:s≤26500) (ht:t.in 32768):okM (plainM k s t) (shapeF k):=by
 have h1:=Zeh (k:=k)
 have h2:=Zc7 (k:=k)
 refine Zvk.2 (Zoa (by rw [Zce];omega) (by rw [Zce];omega) (by omega) (by omega) (Zof (by omega) hs ht) ?_ (Zmn hk (by omega)))
 rw [Zce];exact (Zdc k hk).1
theorem Zou {k:Nat} {s:Int} {t:V3} {off:List Int} (hk:k < 4) (hs0:1≤s) (hs:s≤26500) (ht:t.in 32768):okM (baseM k s t off) (shapeF k):=by
 unfold baseM
 split
 ·assumption
 ·exact Zhh hk hs0 hs ht
theorem Zse {k:Nat} {P:List V3} (hk:k < 4) (hl:P.length=(shapeP k).length) (h:okM P (shapeF k)):okM P ((shapeF k).map swapF):=by
 have hg:=Zvk.1 h
 refine Zvk.2 (Zoa hg.p4 hg.p300 (by simpa using hg.f4) (by simpa using hg.f600) hg.far ?_ (Zod hg.flat))
 rw [hl];exact (Zdc k hk).2.1
theorem Zcm {k:Nat} {s:Int} {t:V3} {off:List Int} (hk:k < 4) (hs0:1≤s) (hs:s≤26500) (ht:t.in 32768) (b:Bool):draftM k s t off b=(baseM k s t off,if b then (shapeF k).map swapF else shapeF k):=by
 unfold draftM
 cases b with
 | false=>rfl
 | true=>simp only [if_true];rw [turnedM,if_pos (Zou hk hs0 hs ht)]
theorem Ziy {k:Nat} {s:Int} {t:V3} {off:List Int} (hk:k < 4) (hs0:1≤s) (hs:s≤26500) (ht:t.in 32768) (b:Bool):okM (draftM k s t off b).1 (draftM k s t off b).2:=by
 rw [Zcm hk hs0 hs ht]
 have h:=Zou (off:=off) hk hs0 hs ht
 cases b with
 | false=>exact h
 | true=>exact Zse hk Zi8 h
end Go.Sx
namespace Go.Sx
open Go
section
variable {pts fcs:List V3}
theorem Good.sumN' (hg:Good pts fcs) (q:List V3):Sx.sumN q fcs=V3.zero:=by
 have h:=Zfh (pts:=q) (fcs:=fcs) (Nat.le_refl _)
 rw [List.take_length] at h
 obtain ⟨h1,h2,h3⟩:=h
 have hn:=hg.nodup (Nat.le_refl _)
 have hs:=fun u hu=>hg.swap (u:=u) hu
 rw [Zcc (fun u=>(Zek u).1) hn hs] at h1
 rw [Zcc (fun u=>(Zek u).2.1) hn hs] at h2
 rw [Zcc (fun u=>(Zek u).2.2) hn hs] at h3
 generalize Sx.sumN q fcs=s at *
 obtain ⟨x,y,z⟩:=s
 simp only at h1 h2 h3
 subst h1 h2 h3
 rfl
theorem Zqs {a b c v:V3}:(a.add v).dot ((b.add v).cross (c.add v))=a.dot (b.cross c)+v.dot ((b.sub a).cross (c.sub a)):=by
 simp only [V3.add,V3.dot,V3.cross,V3.sub]
 grind
theorem Zoh {v:V3} {f:V3} (hw:isWrong pts.length f=false):faceV (pts.map (·.add v)) f=faceV pts f+v.dot (normal pts f):=by
 simp only [isWrong,Bool.or_eq_false_iff,decide_eq_false_iff_not] at hw
 unfold faceV normal
 rw [Zbk (by omega) (by omega),Zbk (by omega) (by omega),Zbk (by omega) (by omega),Zqs]
theorem Zez {v:V3} (hw:∀ f∈fcs,isWrong pts.length f=false):∀ k:Nat,volM (pts.map (·.add v)) (fcs.take k)=volM pts (fcs.take k)+v.dot (Sx.sumN pts (fcs.take k))
 | 0=>by simp [volM,Sx.sumN,V3.dot,V3.zero]
 | k + 1=>by
  have ih:=Zez (v:=v) hw k
  cases hf:fcs[k]? with
  | none =>
     have h1:fcs.take (k+1)=fcs.take k:=by
       have:=List.getElem?_eq_none_iff.1 hf
       rw [List.take_of_length_le (by omega),List.take_of_length_le (by omega)]
     rw [h1];exact ih
  | some f =>
     have e1:volM (pts.map (·.add v)) (fcs.take (k+1))=volM (pts.map (·.add v)) (fcs.take k)+faceV (pts.map (·.add v)) f:=by unfold volM;rw [Zak hf]
     have e2:volM pts (fcs.take (k+1))=volM pts (fcs.take k)+faceV pts f:=by unfold volM;rw [Zak hf]
     have e3:Sx.sumN pts (fcs.take (k+1))=(Sx.sumN pts (fcs.take k)).add' (normal pts f):=by unfold Sx.sumN;rw [Zak hf]
     rw [e1,e2,e3,ih,Zoh (hw f (List.mem_of_getElem? hf))]
     simp only [V3.dot,V3.add']
     grind
theorem Good.vol_add (hg:Good pts fcs) (v:V3):volM (pts.map (·.add v)) fcs=volM pts fcs:=by
 have h:=Zez (v:=v) (Za0 hg.wrong) fcs.length
 rw [List.take_length,hg.sumN] at h
 rw [h]
 simp [V3.dot,V3.zero]
theorem Zkz:∀ (l:List V3) (z:Int),(l.map swapF).foldl (fun s f=>s+faceV pts f) (-z)=-(l.foldl (fun s f=>s+faceV pts f) z)
 | [],z=>rfl
 | f :: l,z=>by
  have h1:faceV pts (swapF f)=- faceV pts f:=by
     simp only [faceV,swapF,V3.dot,V3.cross]
     grind
  simp only [List.map_cons,List.foldl_cons,h1]
  rw [show -z+-faceV pts f=-(z+faceV pts f) by omega]
  exact Zkz l _
theorem Zib:volM pts (fcs.map swapF)=- volM pts fcs:=Zkz fcs 0
theorem Zmf {a b c v:V3}:((b.add v).sub (a.add v)).cross ((c.add v).sub (a.add v))=(b.sub a).cross (c.sub a):=by
 simp only [V3.add,V3.sub,V3.cross,V3.mk.injEq]
 refine ⟨?_,?_,?_⟩<;>grind
theorem Good.move (hg:Good pts fcs) {v:V3} (hf:farF (pts.map (·.add v))=none):Good (pts.map (·.add v)) fcs:=by
 have hl:(pts.map (·.add v)).length=pts.length:=by simp
 refine ⟨by rw [hl];exact hg.p4,by rw [hl];exact hg.p300,hg.f4,hg.f600,hf,by rw [hl];exact hg.wrong,?_,hg.twice,hg.opn,by rw [hl];exact hg.spare,hg.apart⟩
 have hw:=Za0 hg.wrong
 have h:=List.findIdx?_eq_none_iff.1 hg.flat
 refine List.findIdx?_eq_none_iff.2 fun f hfm=>?_
 have h1:=hw f hfm
 have h2:=h f hfm
 simp only [isWrong,Bool.or_eq_false_iff,decide_eq_false_iff_not] at h1
 simp only [isFlat,decide_eq_false_iff_not] at h2 ⊢
 unfold normal at h2 ⊢
 rw [Zbk (by omega) (by omega),Zbk (by omega) (by omega),Zbk (by omega) (by omega),Zmf]
 exact h2
end
end Go.Sx
