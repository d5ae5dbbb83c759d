/- Meshes, plain: in a valid mesh each edge stands once and has its opposite; the faces are even; what the faces' vectors add up to. -/
import Derived.Test.YtbfgldlfciimiaaGreatDoorPl
set_option maxHeartbeats 1000000
namespace Go.Sx
open Go
def edgesL (fcs:List V3) (p:Nat):List Edg:=(List.range p).map (edgeAt fcs)
theorem Zbl {fcs:List V3} {p:Nat}:edgesL fcs (p+1)=edgesL fcs p++[edgeAt fcs p]:=by
 simp [edgesL,List.range_succ]
theorem Zgz {fcs:List V3} {u:Edg}:∀ {p:Nat},mGet (own fcs p) u=none↔u ∉ edgesL fcs p
 | 0=>by simp [own,mGet,edgesL]
 | p + 1=>by
  rw [own,Zhk,Zbl,List.mem_append,List.mem_singleton]
  by_cases h:edgeAt fcs p=u
  ·simp [h]
  ·have h':¬ u=edgeAt fcs p:=fun e=>h e.symm
   simp only [h,if_false,h',or_false]
   exact Zgz
section
variable {pts fcs:List V3}
theorem Good.dup (hg:Good pts fcs) {p:Nat} (hp:p < 3 * fcs.length):edgeAt fcs p ∉ edgesL fcs p:=by
 have h1:twiceP fcs=none:=by
  have:=hg.twice
  unfold twiceF at this
  simpa using this
 unfold twiceP at h1
 rw [List.find?_eq_none] at h1
 have h2:=h1 p (List.mem_range.2 hp)
 unfold Sx.dup at h2
 rw [← Zgz]
 cases h3:mGet (own fcs p) (edgeAt fcs p) with
 | none=>rfl
 | some _=>rw [h3] at h2;exact absurd rfl h2
theorem Good.nodup (hg:Good pts fcs):∀ {p:Nat},p≤3 * fcs.length→(edgesL fcs p).Nodup
 | 0,_=>by simp [edgesL]
 | p+1,hp=>by
  rw [Zbl,List.nodup_append]
  refine ⟨Good.nodup hg (by omega),by simp,fun a ha b hb=>?_⟩
  rw [List.mem_singleton] at hb
  subst hb
  intro e
  subst e
  exact hg.dup (by omega) ha
theorem Good.swap (hg:Good pts fcs) {u:Edg} (hu:u∈edgesL fcs (3 * fcs.length)):u.swap∈edgesL fcs (3 * fcs.length):=by
 obtain ⟨p,hp,rfl⟩:=List.mem_map.1 hu
 have h0:twiceP fcs=none:=by
  have:=hg.twice
  unfold twiceF at this
  simpa using this
 have h1:openP fcs (ownF fcs)=none:=by
  have:=hg.opn
  unfold openF at this
  simpa using this
 unfold openP at h1
 rw [List.find?_eq_none] at h1
 have h2:=h1 p hp
 unfold sole ownF at h2
 rw [h0] at h2
 refine Classical.byContradiction fun h=>?_
 rw [← Zgz] at h
 simp only [Option.getD_none] at h2
 rw [h] at h2
 exact h2 rfl
theorem Good.apart2 (hg:Good pts fcs) {u:Edg} (hu:u∈edgesL fcs (3 * fcs.length)):u.1≠u.2:=by
 obtain ⟨p,hp,rfl⟩:=List.mem_map.1 hu
 have hp':=List.mem_range.1 hp
 have hi:p / 3 < fcs.length:=by omega
 have hw:=(List.findIdx?_eq_none_iff.1 hg.wrong) _ (List.getElem_mem hi)
 have he:fcs[p / 3]?=some fcs[p / 3]:=List.getElem?_eq_getElem hi
 simp only [edgeAt,he]
 simp only [isWrong,Bool.or_eq_false_iff,decide_eq_false_iff_not] at hw
 unfold V3.edge
 split
 ·exact hw.1.1.2
 ·split
  ·exact hw.1.2
  ·exact hw.2
theorem Zl4 (u:Edg):u.swap.swap=u:=rfl
theorem Zl5 {E:List Edg} (hn:E.Nodup) (hs:∀ u∈E,u.swap∈E):(E.map Prod.swap).Perm E:=by
 have h1:(E.map Prod.swap).Nodup:=by
  unfold List.Nodup
  rw [List.pairwise_map]
  exact hn.imp fun {a b} h e=>h (by rw [← Zl4 a,← Zl4 b,e])
 refine (List.perm_ext_iff_of_nodup h1 hn).2 fun a=>⟨fun h=>?_,fun h=>?_⟩
 ·obtain ⟨u,hu,rfl⟩:=List.mem_map.1 h
  exact hs u hu
 ·exact List.mem_map.2 ⟨a.swap,hs a h,rfl⟩
theorem Ztq {E:List Edg} (hn:E.Nodup) (hs:∀ u∈E,u.swap∈E) (hd:∀ u∈E,u.1≠u.2):E.length % 2=0:=by
 have h1:=List.length_eq_countP_add_countP (fun u:Edg=>decide (u.1 < u.2)) (l:=E)
 have h2:=(Zl5 hn hs).countP_eq (fun u:Edg=>decide (u.1 < u.2))
 rw [List.countP_map] at h2
 have h3:E.countP (fun u=>decide ¬decide (u.1 < u.2)=true)=E.countP ((fun u:Edg=>decide (u.1 < u.2)) ∘ Prod.swap):=by
  refine List.countP_congr fun u hu=>?_
  have:=hd u hu
  simp only [decide_eq_true_eq,Function.comp_apply,Prod.fst_swap,Prod.snd_swap]
  omega
 omega
theorem Ye5 (hg:Good pts fcs):fcs.length % 2=0:=by
 have h:=Ztq (hg.nodup (Nat.le_refl _)) (fun u hu=>hg.swap hu) (fun u hu=>hg.apart2 hu)
 have h2:(edgesL fcs (3 * fcs.length)).length=3 * fcs.length:=by simp [edgesL]
 omega
def sumE (f:Edg→Int) (l:List Edg):Int:=l.foldr (fun u s=>f u+s) 0
theorem Zl7 {f:Edg→Int} {l l':List Edg}:sumE f (l++l')=sumE f l+sumE f l':=by
 induction l with
 | nil=>simp [sumE]
 | cons a r ih=>simp only [sumE,List.cons_append,List.foldr_cons] at ih ⊢;omega
theorem Z1n {f:Edg→Int} {l l':List Edg} (h:l.Perm l'):sumE f l=sumE f l':=by
 induction h with
 | nil=>rfl
 | cons x _ ih=>simp only [sumE,List.foldr_cons] at ih ⊢;omega
 | swap x y l=>simp only [sumE,List.foldr_cons];omega
 | trans _ _ h1 h2=>rw [h1,h2]
theorem Z1m {f:Edg→Int} (hf:∀ u,f u.swap=- f u) {l:List Edg}:sumE f (l.map Prod.swap)=- sumE f l:=by
 induction l with
 | nil=>rfl
 | cons a r ih=>simp only [sumE,List.map_cons,List.foldr_cons,hf] at ih ⊢;omega
theorem Zep {f:Edg→Int} (hf:∀ u,f u.swap=- f u) {E:List Edg} (hn:E.Nodup) (hs:∀ u∈E,u.swap∈E):sumE f E=0:=by
 have h1:=Z1n (f:=f) (Zl5 hn hs)
 rw [Z1m hf] at h1
 omega
def V3.add' (a b:V3):V3:=⟨a.x+b.x,a.y+b.y,a.z+b.z⟩
def sumN (pts l:List V3):V3:=l.foldl (fun s f=>s.add' (normal pts f)) V3.zero
def ex (pts:List V3) (u:Edg):V3:=(ptAt pts u.1).cross (ptAt pts u.2)
theorem Zs0 {f:V3}:(normal pts f).x=(ex pts (f.x,f.y)).x+(ex pts (f.y,f.z)).x+(ex pts (f.z,f.x)).x ∧
  (normal pts f).y=(ex pts (f.x,f.y)).y+(ex pts (f.y,f.z)).y+(ex pts (f.z,f.x)).y ∧
  (normal pts f).z=(ex pts (f.x,f.y)).z+(ex pts (f.y,f.z)).z+(ex pts (f.z,f.x)).z:=by
 simp only [normal,ex,V3.cross,V3.sub]
 refine ⟨?_,?_,?_⟩<;>grind
theorem Zl6:∀ {k:Nat},k≤fcs.length→(sumN pts (fcs.take k)).x=sumE (fun u=>(ex pts u).x) (edgesL fcs (3 * k)) ∧
  (sumN pts (fcs.take k)).y=sumE (fun u=>(ex pts u).y) (edgesL fcs (3 * k))∧(sumN pts (fcs.take k)).z=sumE (fun u=>(ex pts u).z) (edgesL fcs (3 * k))
 | 0,_=>by simp [sumN,edgesL,sumE,V3.zero]
 | k + 1,hk=>by
  obtain ⟨i1,i2,i3⟩:=Zl6 (k:=k) (by omega)
  have hf:fcs[k]?=some fcs[k]:=List.getElem?_eq_getElem (by omega)
  generalize fcs[k]=f at hf
  have e1:edgesL fcs (3 * (k+1))=edgesL fcs (3 * k)++[(f.x,f.y),(f.y,f.z),(f.z,f.x)]:=by
   rw [show 3 * (k+1)=3 * k+1+1+1 from rfl,Zbl,Zbl,Zbl,Zm2 hf,Zm1 hf,Zm0 hf]
   simp
  have e2:sumN pts (fcs.take (k+1))=(sumN pts (fcs.take k)).add' (normal pts f):=by
   unfold sumN;rw [Za1 hf]
  obtain ⟨n1,n2,n3⟩:=Zs0 (pts:=pts) (f:=f)
  have s3:∀ g:Edg→Int,sumE g [(f.x,f.y),(f.y,f.z),(f.z,f.x)]=g (f.x,f.y)+g (f.y,f.z)+g (f.z,f.x):=fun g=>by simp [sumE];omega
  rw [e1,e2]
  simp only [Zl7,s3,V3.add']
  refine ⟨?_,?_,?_⟩<;>omega
theorem Zj8 (u:Edg):(ex pts u.swap).x=-(ex pts u).x∧(ex pts u.swap).y=-(ex pts u).y∧(ex pts u.swap).z=-(ex pts u).z:=by
 simp only [ex,V3.cross,Prod.fst_swap,Prod.snd_swap]
 refine ⟨?_,?_,?_⟩<;>grind
theorem Good.sumN (hg:Good pts fcs):Sx.sumN pts fcs=V3.zero:=by
 have h:=Zl6 (pts:=pts) (fcs:=fcs) (Nat.le_refl _)
 rw [List.take_length] at h
 obtain ⟨h1,h2,h3⟩:=h
 have hn:=hg.nodup (Nat.le_refl _)
 have hs:=fun u hu=>hg.swap (u:=u) hu
 rw [Zep (fun u=>(Zj8 u).1) hn hs] at h1
 rw [Zep (fun u=>(Zj8 u).2.1) hn hs] at h2
 rw [Zep (fun u=>(Zj8 u).2.2) hn hs] at h3
 generalize Sx.sumN pts fcs=s at *
 obtain ⟨x,y,z⟩:=s
 simp only at h1 h2 h3
 subst h1 h2 h3
 rfl
end
end Go.Sx
namespace Go.Sx
open Go
def comb (n:Nat) (F:List V3):Bool:=(wrongF n F).isNone&&(twiceF F).isNone&&(openF F (ownF F)).isNone&&(spareF n F).isNone&&(apartF (fun u=>(mGet (ownF F) u).getD 0) F).isNone
theorem Zqy {pts F:List V3} (h1:4≤pts.length) (h2:pts.length≤300) (h3:4≤F.length) (h4:F.length≤600) (hf:farF pts=none) (hc:comb pts.length F=true) (hl:flatF pts F=none):Good pts F:=by
 simp only [comb,Bool.and_eq_true,Option.isNone_iff_eq_none] at hc
 exact ⟨h1,h2,h3,h4,hf,hc.1.1.1.1,hl,hc.1.1.1.2,hc.1.1.2,hc.1.2,hc.2⟩
theorem Zbk {f:V3→V3} {l:List V3} {i:Int} (h0:0≤i) (h1:i < l.length):ptAt (l.map f) i=f (ptAt l i):=by
 have:i.toNat < l.length:=by omega
 simp [ptAt,List.getElem?_map,List.getElem?_eq_getElem this]
theorem Zmk {a b c:V3}:(c.sub a).cross (b.sub a)=⟨-((b.sub a).cross (c.sub a)).x,-((b.sub a).cross (c.sub a)).y,-((b.sub a).cross (c.sub a)).z⟩:=by
 simp only [V3.sub,V3.cross,V3.mk.injEq]
 refine ⟨?_,?_,?_⟩<;>grind
theorem Zto {pts F:List V3} (h:flatF pts F=none):flatF pts (F.map swapF)=none:=by
 have h:=List.findIdx?_eq_none_iff.1 h
 refine List.findIdx?_eq_none_iff.2 fun g hg=>?_
 obtain ⟨f,hf,rfl⟩:=List.mem_map.1 hg
 have h2:=h f hf
 simp only [isFlat,decide_eq_false_iff_not] at h2 ⊢
 intro h3
 apply h2
 unfold normal at h3 ⊢
 simp only [swapF] at h3
 rw [Zmk] at h3
 generalize ((ptAt pts f.y).sub (ptAt pts f.x)).cross ((ptAt pts f.z).sub (ptAt pts f.x))=n at h3
 obtain ⟨x,y,z⟩:=n
 simp only [V3.zero,V3.mk.injEq] at h3 ⊢
 omega
end Go.Sx
namespace Go.Sx
open Go
section
variable {pts fcs:List V3}
theorem Zzt {a b c v:V3}:((b.add v).sub (a.add v)).cross ((c.add v).sub (a.add v))=(b.sub a).cross (c.sub a):=by
 simp only [V3.add,V3.sub,V3.cross,V3.mk.injEq]
 refine ⟨?_,?_,?_⟩<;>grind
theorem Good.move (hg:Good pts fcs) {v:V3} (hf:farF (pts.map (·.add v))=none):Good (pts.map (·.add v)) fcs:=by
 have hl:(pts.map (·.add v)).length=pts.length:=by simp
 refine ⟨by rw [hl];exact hg.p4,by rw [hl];exact hg.p300,hg.f4,hg.f600,hf,by rw [hl];exact hg.wrong,?_,hg.twice,hg.opn,by rw [hl];exact hg.spare,hg.apart⟩
 have hw:=Zed hg.wrong
 have h:=List.findIdx?_eq_none_iff.1 hg.flat
 refine List.findIdx?_eq_none_iff.2 fun f hfm=>?_
 have h1:=hw f hfm
 have h2:=h f hfm
 simp only [isWrong,Bool.or_eq_false_iff,decide_eq_false_iff_not] at h1
 simp only [isFlat,decide_eq_false_iff_not] at h2 ⊢
 unfold normal at h2 ⊢
 rw [Zbk (by omega) (by omega),Zbk (by omega) (by omega),Zbk (by omega) (by omega),Zzt]
 exact h2
end
end Go.Sx
namespace Go.Sx
open Go
def codeE (n:Nat) (u:Edg):Nat:=u.1.toNat * n+u.2.toNat
def codesF (n:Nat) (F:List V3):List Nat:=F.flatMap fun f=>[codeE n (f.x,f.y),codeE n (f.y,f.z),codeE n (f.z,f.x)]
def marks:List Nat→Nat→Option Nat
 | [],s=>some s
 | c::l,s=>if s.testBit c then none else marks l (s ||| 2 ^ c)
def joinB (n D:Nat) (f:V3):Nat :=
 if D.testBit (codeE n (f.y,f.x))||D.testBit (codeE n (f.z,f.y))||D.testBit (codeE n (f.x,f.z)) then D ||| 2 ^ codeE n (f.x,f.y) ||| 2 ^ codeE n (f.y,f.z) ||| 2 ^ codeE n (f.z,f.x) else D
def passes (n:Nat) (F:List V3):Nat→Nat→Nat
 | 0,D=>D
 | k+1,D=>passes n F k (F.foldl (joinB n) D)
def usedB (s:Nat) (f:V3):Nat:=s ||| 2 ^ f.x.toNat ||| 2 ^ f.y.toNat ||| 2 ^ f.z.toNat
def firstB (n:Nat):List V3→Nat
 | []=>0
 | f::_=>2 ^ codeE n (f.x,f.y) ||| 2 ^ codeE n (f.y,f.z) ||| 2 ^ codeE n (f.z,f.x)
def fastOk (n k:Nat) (F:List V3):Bool :=
 F.all (fun f=>!isWrong n f)&&(match marks (codesF n F) 0 with
  | some t=>F.all (fun f=>t.testBit (codeE n (f.y,f.x))&&t.testBit (codeE n (f.z,f.y))&&t.testBit (codeE n (f.x,f.z)))
  | none=>false) &&
 (codesF n F).all (fun c=>(passes n F k (firstB n F)).testBit c)&&decide (F.foldl usedB 0+1=2 ^ n)
theorem Zpi {s c d:Nat}:(s ||| 2 ^ c).testBit d=(s.testBit d||decide (c=d)):=by
 rw [Nat.testBit_or,Nat.testBit_two_pow]
theorem Zo1:∀ {l:List Nat} {s t:Nat},marks l s=some t→l.Nodup∧(∀ c∈l,s.testBit c=false)∧∀ c,t.testBit c=(s.testBit c||decide (c∈l))
 | [],s,t,h=>by
  simp only [marks,Option.some.injEq] at h
  subst h
  simp
 | c :: l,s,t,h=>by
  unfold marks at h
  split at h
  ·cases h
  ·rename_i h0
   have h0:s.testBit c=false:=by simpa using h0
   obtain ⟨k1,k2,k3⟩:=Zo1 h
   refine ⟨List.nodup_cons.2 ⟨fun hm=>?_,k1⟩,fun d hd=>?_,fun d=>?_⟩
   ·have:=k2 c hm
    rw [Zpi] at this
    simp at this
   ·rcases List.mem_cons.1 hd with rfl|hd
    ·exact h0
    ·have:=k2 d hd
     rw [Zpi] at this
     simp only [Bool.or_eq_false_iff] at this
     exact this.1
   ·rw [k3,Zpi,Bool.or_assoc]
    congr 1
    rw [Bool.eq_iff_iff]
    simp only [Bool.or_eq_true,decide_eq_true_eq,List.mem_cons]
    constructor
    ·rintro (h|h)
     ·exact .inl h.symm
     ·exact .inr h
    ·rintro (h|h)
     ·exact .inl h.symm
     ·exact .inr h
section
variable {n:Nat} {F:List V3}
theorem Zww {f:V3} (h:isWrong n f=false):0≤f.x∧f.x < n∧0≤f.y∧f.y < n∧0≤f.z∧f.z < n:=by
 simp only [isWrong,Bool.or_eq_false_iff,decide_eq_false_iff_not] at h
 omega
def EIn (n:Nat) (u:Edg):Prop:=0≤u.1∧u.1 < n∧0≤u.2∧u.2 < n
theorem Zrf {u v:Edg} (hu:EIn n u) (hv:EIn n v) (h:codeE n u=codeE n v):u=v:=by
 obtain ⟨a,b⟩:=u
 obtain ⟨c,d⟩:=v
 obtain ⟨a0,a1,b0,b1⟩:=hu
 obtain ⟨c0,c1,d0,d1⟩:=hv
 simp only at a0 a1 b0 b1 c0 c1 d0 d1
 simp only [codeE] at h
 have hb:b.toNat < n:=by omega
 have hd:d.toNat < n:=by omega
 have e1:(a.toNat * n+b.toNat) % n=b.toNat:=by rw [Nat.mul_comm,Nat.mul_add_mod,Nat.mod_eq_of_lt hb]
 have e2:(c.toNat * n+d.toNat) % n=d.toNat:=by rw [Nat.mul_comm,Nat.mul_add_mod,Nat.mod_eq_of_lt hd]
 have e3:(a.toNat * n+b.toNat) / n=a.toNat:=by rw [Nat.mul_comm,Nat.mul_add_div (by omega),Nat.div_eq_of_lt hb,Nat.add_zero]
 have e4:(c.toNat * n+d.toNat) / n=c.toNat:=by rw [Nat.mul_comm,Nat.mul_add_div (by omega),Nat.div_eq_of_lt hd,Nat.add_zero]
 rw [h] at e1 e3
 exact Prod.ext (by omega) (by omega)
theorem Zna (n:Nat) (F:List V3):codesF n F=(edgesL F (3 * F.length)).map (codeE n):=by
 have key:∀ k,k≤F.length→codesF n (F.take k)=(edgesL F (3 * k)).map (codeE n):=by
  intro k
  induction k with
  | zero=>intro _;simp [codesF,edgesL]
  | succ k ih =>
   intro hk
   have hf:F[k]?=some F[k]:=List.getElem?_eq_getElem (by omega)
   generalize F[k]=f at hf
   have e1:edgesL F (3 * (k+1))=edgesL F (3 * k)++[(f.x,f.y),(f.y,f.z),(f.z,f.x)]:=by
    rw [show 3 * (k+1)=3 * k+1+1+1 from rfl,Zbl,Zbl,Zbl,Zm2 hf,Zm1 hf,Zm0 hf]
    simp
   rw [e1,List.map_append,← ih (by omega),List.take_add_one,hf]
   simp [codesF]
 have:=key F.length (Nat.le_refl _)
 rwa [List.take_length] at this
theorem Zio (hw:∀ f∈F,isWrong n f=false) {u:Edg} (hu:u∈edgesL F (3 * F.length)):EIn n u:=by
 obtain ⟨p,hp,rfl⟩:=List.mem_map.1 hu
 have hp':=List.mem_range.1 hp
 have hi:p / 3 < F.length:=by omega
 have hw:=Zww (hw _ (List.getElem_mem hi))
 have he:F[p / 3]?=some F[p / 3]:=List.getElem?_eq_getElem hi
 simp only [edgeAt,he]
 unfold V3.edge EIn
 split
 ·simp only;omega
 ·split<;>simp only<;>omega
theorem Zs4 (hw:∀ f∈F,isWrong n f=false) {u:Edg} (hu:EIn n u):codeE n u∈codesF n F↔u∈edgesL F (3 * F.length):=by
 rw [Zna]
 constructor
 ·intro h
  obtain ⟨v,hv,he⟩:=List.mem_map.1 h
  have:=Zrf (Zio hw hv) hu he
  rwa [← this]
 ·intro h;exact List.mem_map.2 ⟨u,h,rfl⟩
theorem Zn1 (h:(codesF n F).Nodup):(edgesL F (3 * F.length)).Nodup:=by
 rw [Zna] at h
 unfold List.Nodup at h ⊢
 rw [List.pairwise_map] at h
 exact h.imp fun h1 h2=>h1 (by rw [h2])
theorem Zia {p q:Nat} (h:(edgesL F (3 * F.length)).Nodup) (hp:p < 3 * F.length) (hq:q < 3 * F.length) (he:edgeAt F p=edgeAt F q):p=q:=by
 have hl:(edgesL F (3 * F.length)).length=3 * F.length:=by simp [edgesL]
 have e:∀ r,r < 3 * F.length→(edgesL F (3 * F.length))[r]?=some (edgeAt F r):=fun r hr=>by
  unfold edgesL;rw [List.getElem?_map,List.getElem?_range hr];rfl
 exact (List.getElem?_inj (by omega) h).1 (by rw [e p hp,e q hq,he])
theorem Z2m (h:(edgesL F (3 * F.length)).Nodup):∀ {m p:Nat},m≤3 * F.length→p < m→mGet (own F m) (edgeAt F p)=some (p / 3)
 | 0,_,_,hp=>by omega
 | m + 1,p,hm,hp=>by
  rw [own,Zhk]
  by_cases he:edgeAt F m=edgeAt F p
  ·rw [if_pos he,Zia h (by omega) (by omega) he]
  ·rw [if_neg he]
   have:p≠m:=fun e=>he (by rw [e])
   exact Z2m h (by omega) (by omega)
theorem Zw0 (h:(edgesL F (3 * F.length)).Nodup):twiceP F=none:=by
 unfold twiceP
 refine Zem fun j hj=>?_
 unfold dup
 have:mGet (own F j) (edgeAt F j)=none:=by
  rw [Zgz]
  intro hm
  obtain ⟨i,hi,he⟩:=List.mem_map.1 hm
  have hi:=List.mem_range.1 hi
  have:=Zia h (by omega) hj he
  omega
 rw [this];rfl
theorem Z2n (h:(edgesL F (3 * F.length)).Nodup):ownF F=own F (3 * F.length):=by
 unfold ownF;rw [Zw0 h];rfl
/-! what is reached is closed -/
theorem Zly {ow:Edg→Nat} {s:List Bool × List Nat} {u:Edg} {i:Nat} (h:s.1[i]?=some true):(visit1 ow s u).1[i]?=some true:=by
 unfold visit1
 split
 ·exact h
 ·have:=(List.getElem?_eq_some_iff.1 h).1
  rw [List.getElem?_set]
  split
  ·rename_i he;subst he;rw [if_pos this]
  ·exact h
theorem Zzb {ow:Edg→Nat} {s:List Bool × List Nat} {u:Edg} (h:ow u < s.1.length):(visit1 ow s u).1[ow u]?=some true:=by
 unfold visit1
 split
 ·assumption
 ·simp only;rw [List.getElem?_set,if_pos rfl,if_pos h]
theorem Zy9 {ow:Edg→Nat} {s:List Bool × List Nat} {u:Edg} {i:Nat} (h:(visit1 ow s u).1[i]?=some true):s.1[i]?=some true∨i∈(visit1 ow s u).2:=by
 unfold visit1 at h ⊢
 split at h
 ·rename_i h0;exact .inl h
 ·rename_i h0
  simp only [h0,if_false]
  simp only at h
  rw [List.getElem?_set] at h
  split at h
  ·rename_i he;subst he;exact .inr (by simp)
  ·exact .inl h
theorem Zlx {ow:Edg→Nat} {s:List Bool × List Nat} {u:Edg} {i:Nat} (h:i∈s.2):i∈(visit1 ow s u).2:=by
 unfold visit1
 split
 ·exact h
 ·exact List.mem_append_left _ h
theorem Zic {ow:Edg→Nat} {s:List Bool × List Nat} {f:V3} {i:Nat} (h:s.1[i]?=some true):∀ k,(visitN ow s f k).1[i]?=some true
 | 0=>h
 | k+1=>Zly (Zic h k)
theorem Zof {ow:Edg→Nat} {s:List Bool × List Nat} {f:V3}:∀ k,(∀ j,j < k→ow (f.edge j).swap < s.1.length)→∀ j,j < k→(visitN ow s f k).1[ow (f.edge j).swap]?=some true
 | 0,_,j,hj=>by omega
 | k+1,h,j,hj=>by
  by_cases e:j=k
  ·subst e;exact Zzb (by rw [Zc9];exact h j (by omega))
  ·exact Zly (Zof k (fun i hi=>h i (by omega)) j (by omega))
theorem Zod {ow:Edg→Nat} {s:List Bool × List Nat} {f:V3} {i:Nat}:∀ k,(visitN ow s f k).1[i]?=some true→s.1[i]?=some true∨i∈(visitN ow s f k).2
 | 0,h=>.inl h
 | k + 1,h=>by
  rcases Zy9 h with h1|h1
  ·rcases Zod k h1 with h2|h2
   ·exact .inl h2
   ·exact .inr (Zlx h2)
  ·exact .inr h1
theorem Zlw {ow:Edg→Nat} {s:List Bool × List Nat} {f:V3} {i:Nat} (h:i∈s.2):∀ k,i∈(visitN ow s f k).2
 | 0=>h
 | k+1=>Zlx (Zlw h k)
def Closed (ow:Edg→Nat) (F:List V3) (r:List Bool) (i:Nat):Prop:=∀ f,F[i]?=some f→∀ k,k < 3→r[ow (f.edge k).swap]?=some true
theorem Zkq {ow:Edg→Nat} (ho:∀ f∈F,∀ k,k < 3→ow (f.edge k).swap < F.length):∀ (m:Nat) (s:List Bool × List Nat),left s≤m→s.1.length=F.length→(∀ x∈s.2,x < F.length) →
  (∀ i:Nat,s.1[i]?=some true→i∈s.2∨Closed ow F s.1 i)→(∀ i:Nat,s.1[i]?=some true→(reach ow F m s)[i]?=some true)∧∀ i:Nat,(reach ow F m s)[i]?=some true→Closed ow F (reach ow F m s) i
 | 0,s,hl,h1,h2,h3=>by
  have hs:s.2=[]:=by
   unfold left at hl
   exact List.length_eq_zero_iff.1 (by omega)
  refine ⟨fun i h=>h,fun i h=>?_⟩
  have:=h3 i h
  rw [hs] at this
  exact this.resolve_left (by simp)
 | m+1,(r,[]),hl,h1,h2,h3=>by
  refine ⟨fun i h=>h,fun i h=>?_⟩
  exact (h3 i h).resolve_left (by simp)
 | m + 1, (r,x::st),hl,h1,h2,h3=>by
  have hx:x < F.length:=h2 x (List.mem_cons_self ..)
  have hf:F[x]?=some F[x]:=List.getElem?_eq_getElem hx
  have hm:F[x]∈F:=List.getElem_mem hx
  generalize F[x]=f at hf hm
  simp only at h1 h2 h3
  have hob:∀ j,j < 3→ow (f.edge j).swap < (r,st).1.length:=fun j hj=>by simp only;rw [h1];exact ho f hm j hj
  have e:reach ow F (m+1) (r,x::st)=reach ow F m (visit ow (r,st) f):=by simp [reach,hf]
  have hlen:(visit ow (r,st) f).1.length=F.length:=by unfold visit;rw [Zc9];exact h1
  have hleft:left (visit ow (r,st) f)≤m:=by
   unfold visit
   rw [Zlv hob]
   simp only [left,List.length_cons] at hl ⊢
   omega
  have hmem:∀ y∈(visit ow (r,st) f).2,y < F.length:=by
   unfold visit
   exact Zoe (fun j hj=>ho f hm j hj) fun y hy=>h2 y (List.mem_cons_of_mem _ hy)
  have hcl:∀ i:Nat,(visit ow (r,st) f).1[i]?=some true→i∈(visit ow (r,st) f).2∨Closed ow F (visit ow (r,st) f).1 i:=by
   intro i hi
   unfold visit at hi ⊢
   rcases Zod 3 hi with h|h
   ·rcases h3 i h with h4|h4
    ·rcases List.mem_cons.1 h4 with rfl|h5
     ·right
      intro g hg k hk
      rw [hf] at hg
      cases hg
      exact Zof 3 hob k hk
     ·exact .inl (Zlw h5 3)
    ·right
     intro g hg k hk
     exact Zic (h4 g hg k hk) 3
   ·exact .inl h
  obtain ⟨k1,k2⟩:=Zkq ho m (visit ow (r,st) f) hleft hlen hmem hcl
  rw [e]
  refine ⟨fun i hi=>k1 i ?_,k2⟩
  unfold visit
  exact Zic (s:=(r,st)) hi 3
theorem Zz5 (hw:∀ f∈F,isWrong n f=false) (hn:(edgesL F (3 * F.length)).Nodup) (hs:∀ u∈edgesL F (3 * F.length),u.swap∈edgesL F (3 * F.length)) (h0:0 < F.length) {k:Nat} (hp:∀ c∈codesF n F,(passes n F k (firstB n F)).testBit c=true) :
  apartF (fun u=>(mGet (ownF F) u).getD 0) F=none:=by
 have hown:∀ (i:Nat) (f:V3) (j:Nat),F[i]?=some f→j < 3→(mGet (ownF F) (f.edge j)).getD 0=i:=fun i f j hf hj=>by
  have hi:=(List.getElem?_eq_some_iff.1 hf).1
  rw [Z2n hn,← Zb2 hf hj,Z2m hn (Nat.le_refl _) (by omega),Option.getD_some]
  omega
 have hmemE:∀ (i:Nat) (f:V3) (j:Nat),F[i]?=some f→j < 3→f.edge j∈edgesL F (3 * F.length):=fun i f j hf hj=>by
  have hi:=(List.getElem?_eq_some_iff.1 hf).1
  exact List.mem_map.2 ⟨3 * i+j,List.mem_range.2 (by omega),Zb2 hf hj⟩
 have hface:∀ u∈edgesL F (3 * F.length),∃ (i:Nat) (f:V3) (j:Nat),F[i]?=some f∧j < 3∧f.edge j=u:=fun u hu=>by
  obtain ⟨p,hp,rfl⟩:=List.mem_map.1 hu
  have hp:=List.mem_range.1 hp
  have hf:F[p / 3]?=some F[p / 3]:=List.getElem?_eq_getElem (by omega)
  refine ⟨p / 3,F[p / 3],p % 3,hf,Nat.mod_lt _ (by omega),?_⟩
  rw [← Zb2 hf (Nat.mod_lt _ (by omega)),show 3 * (p / 3)+p % 3=p by omega]
 have ho:∀ f∈F,∀ k,k < 3→(mGet (ownF F) (f.edge k).swap).getD 0 < F.length:=fun f hf k hk=>by
  obtain ⟨i,hi⟩:=List.mem_iff_getElem?.1 hf
  obtain ⟨i',f',j',hf',hj',he⟩:=hface _ (hs _ (hmemE i f k hi hk))
  rw [← he,hown i' f' j' hf' hj']
  exact (List.getElem?_eq_some_iff.1 hf').1
 have hinit:∀ i:Nat,((List.replicate F.length false).set 0 true)[i]?=some true→i=0:=fun i hi=>by
  rw [List.getElem?_set] at hi
  split at hi
  ·rename_i he;exact he.symm
  ·rw [List.getElem?_replicate] at hi
   split at hi<;>simp at hi
 have h1st:((List.replicate F.length false).set 0 true)[0]?=some true:=by
  rw [List.getElem?_set,if_pos rfl,if_pos (by simpa using h0)]
 obtain ⟨k1,k2⟩:=Zkq (F:=F) (ow:=fun u=>(mGet (ownF F) u).getD 0) ho F.length ((List.replicate F.length false).set 0 true,[0]) (by
  have:(List.replicate F.length false)[0]?=some false:=by rw [List.getElem?_replicate,if_pos h0]
  have:=Zm7 this
  rw [List.count_replicate_self] at this
  simp only [left,List.length_cons,List.length_nil]
  omega) (by simp) (by intro x hx;simp at hx;omega) (fun i hi=>.inl (by simp [hinit i hi]))
 have hr:reach0 (fun u=>(mGet (ownF F) u).getD 0) F=reach (fun u=>(mGet (ownF F) u).getD 0) F F.length ((List.replicate F.length false).set 0 true,[0]):=rfl
 rw [← hr] at k1 k2
 have hr0:=k1 0 h1st
 have hlen:(reach0 (fun u=>(mGet (ownF F) u).getD 0) F).length=F.length:=by
  have:∀ m s,(reach (fun u=>(mGet (ownF F) u).getD 0) F m s).length=s.1.length:=by
   intro m
   induction m with
   | zero=>intro s;rfl
   | succ m ih =>
    intro s
    unfold reach
    split
    ·rfl
    ·split
     ·rfl
     ·rw [ih];unfold visit;rw [Zc9]
  unfold reach0;rw [this];simp
 generalize hR:reach0 (fun u=>(mGet (ownF F) u).getD 0) F=r at k1 k2 hr0 hlen
 -- every edge in the set belongs to a face that is reached
 have J0:∀ c,(firstB n F).testBit c=true→∃ (i:Nat) (f:V3) (j:Nat),F[i]?=some f∧j < 3∧r[i]?=some true∧c=codeE n (f.edge j):=by
  intro c hc
  match F,h0,hc with
  | f::R,_,hc =>
   simp only [firstB,Zpi,Nat.testBit_two_pow,Bool.or_eq_true,decide_eq_true_eq] at hc
   rcases hc with (hc|hc)|hc
   ·exact ⟨0,f,0,rfl,by omega,hr0,hc.symm⟩
   ·exact ⟨0,f,1,rfl,by omega,hr0,hc.symm⟩
   ·exact ⟨0,f,2,rfl,by omega,hr0,hc.symm⟩
 have Jadd:∀ D:Nat,(∀ c,D.testBit c=true→∃ (i:Nat) (f:V3) (j:Nat),F[i]?=some f∧j < 3∧r[i]?=some true∧c=codeE n (f.edge j))→∀ f∈F,∀ c,(joinB n D f).testBit c=true→∃ (i:Nat) (f:V3) (j:Nat),F[i]?=some f∧j < 3∧r[i]?=some true∧c=codeE n (f.edge j):=by
  intro D hD f hf c hc
  unfold joinB at hc
  split at hc
  ·rename_i hj
   obtain ⟨i,hi⟩:=List.mem_iff_getElem?.1 hf
   have hone:∀ k,k < 3→D.testBit (codeE n (f.edge k).swap)=true→r[i]?=some true:=fun k hk hb=>by
    obtain ⟨i',f',j',hf',hj',hr',he⟩:=hD _ hb
    have m1:=hs _ (hmemE i f k hi hk)
    have m2:=hmemE i' f' j' hf' hj'
    have e:=Zrf (Zio hw m1) (Zio hw m2) he
    have:=k2 i' hr' f' hf' j' hj'
    simp only at this
    rw [← e,Zl4,hown i f k hi hk] at this
    exact this
   have hri:r[i]?=some true:=by
    simp only [Bool.or_eq_true] at hj
    rcases hj with (hj|hj)|hj
    ·exact hone 0 (by omega) hj
    ·exact hone 1 (by omega) hj
    ·exact hone 2 (by omega) hj
   simp only [Zpi,Bool.or_eq_true,decide_eq_true_eq] at hc
   rcases hc with ((hc|hc)|hc)|hc
   ·exact hD c hc
   ·exact ⟨i,f,0,hi,by omega,hri,hc.symm⟩
   ·exact ⟨i,f,1,hi,by omega,hri,hc.symm⟩
   ·exact ⟨i,f,2,hi,by omega,hri,hc.symm⟩
  ·exact hD c hc
 have Jfold:∀ (l:List V3),(∀ f∈l,f∈F)→∀ D:Nat,(∀ c,D.testBit c=true→∃ (i:Nat) (f:V3) (j:Nat),F[i]?=some f∧j < 3∧r[i]?=some true∧c=codeE n (f.edge j))→∀ c,(l.foldl (joinB n) D).testBit c=true→∃ (i:Nat) (f:V3) (j:Nat),F[i]?=some f∧j < 3∧r[i]?=some true∧c=codeE n (f.edge j):=by
  intro l
  induction l with
  | nil=>intro _ D hD;exact hD
  | cons f l ih=>intro hl D hD;exact ih (fun g hg=>hl g (List.mem_cons_of_mem _ hg)) _ (Jadd D hD f (hl f (List.mem_cons_self ..)))
 have Jp:∀ k D,(∀ c,D.testBit c=true→∃ (i:Nat) (f:V3) (j:Nat),F[i]?=some f∧j < 3∧r[i]?=some true∧c=codeE n (f.edge j))→∀ c,(passes n F k D).testBit c=true→∃ (i:Nat) (f:V3) (j:Nat),F[i]?=some f∧j < 3∧r[i]?=some true∧c=codeE n (f.edge j):=by
  intro k
  induction k with
  | zero=>intro D hD;exact hD
  | succ k ih=>intro D hD;exact ih _ (Jfold F (fun _ h=>h) D hD)
 have Jk:=Jp k _ J0
 unfold apartF
 rw [hR,List.findIdx?_eq_none_iff]
 intro x hx
 obtain ⟨i,hi⟩:=List.mem_iff_getElem?.1 hx
 have hlt:i < F.length:=by have:=(List.getElem?_eq_some_iff.1 hi).1;omega
 have hf:F[i]?=some F[i]:=List.getElem?_eq_getElem hlt
 generalize F[i]=f at hf
 have m0:=hmemE i f 0 hf (by omega)
 obtain ⟨i',f',j',hf',hj',hr',he⟩:=Jk _ (hp _ ((Zs4 hw (Zio hw m0)).2 m0))
 have e:=Zrf (Zio hw m0) (Zio hw (hmemE i' f' j' hf' hj')) he
 have e1:=hown i f 0 hf (by omega)
 rw [e,hown i' f' j' hf' hj'] at e1
 subst e1
 rw [hr'] at hi
 cases hi
 rfl
theorem Z3w {k:Nat} (h:fastOk n k F=true) (h0:0 < F.length):comb n F=true:=by
 simp only [fastOk,Bool.and_eq_true,decide_eq_true_eq] at h
 obtain ⟨⟨⟨h1,h2⟩,h3⟩,h4⟩:=h
 have hw:∀ f∈F,isWrong n f=false:=fun f hf=>by simpa using List.all_eq_true.1 h1 f hf
 split at h2
 ·rename_i t ht
  obtain ⟨m1,_,m3⟩:=Zo1 ht
  have hn:=Zn1 m1
  have hs:∀ u∈edgesL F (3 * F.length),u.swap∈edgesL F (3 * F.length):=fun u hu=>by
   have hin:=Zio hw hu
   have hin':EIn n u.swap:=⟨hin.2.2.1,hin.2.2.2,hin.1,hin.2.1⟩
   refine (Zs4 hw hin').1 ?_
   have hb:t.testBit (codeE n u.swap)=true:=by
    obtain ⟨p,hp,rfl⟩:=List.mem_map.1 hu
    have hp:=List.mem_range.1 hp
    have hf:F[p / 3]?=some F[p / 3]:=List.getElem?_eq_getElem (by omega)
    have hm:F[p / 3]∈F:=List.getElem_mem _
    have hall:=List.all_eq_true.1 h2 _ hm
    generalize F[p / 3]=f at hf hall
    simp only [Bool.and_eq_true] at hall
    simp only [edgeAt,hf]
    unfold V3.edge
    split
    ·exact hall.1.1
    ·split
     ·exact hall.1.2
     ·exact hall.2
   rw [m3] at hb
   simpa using hb
  have ht:=Zw0 hn
  have e1:wrongF n F=none:=List.findIdx?_eq_none_iff.2 hw
  have e2:twiceF F=none:=by unfold twiceF;rw [ht];rfl
  have e3:openF F (ownF F)=none:=by
   unfold openF openP
   rw [Zem fun j hj=>?_]
   ·rfl
   ·unfold sole
    rw [Z2n hn]
    have:mGet (own F (3 * F.length)) (edgeAt F j).swap≠none:=by
     rw [Ne,Zgz,Classical.not_not]
     exact hs _ (List.mem_map.2 ⟨j,List.mem_range.2 hj,rfl⟩)
    cases hg:mGet (own F (3 * F.length)) (edgeAt F j).swap with
    | none=>exact absurd hg this
    | some g=>rfl
  have e4 : spareF n F=none:=by
   unfold spareF
   rw [List.findIdx?_eq_none_iff]
   have key:∀ (l:List V3) (u:List Bool) (s:Nat),(∀ f∈l,isWrong u.length f=false)→(∀ i:Nat,i < u.length→(u[i]?=some true↔s.testBit i=true))→∀ i:Nat,i < u.length→((l.foldl mark1 u)[i]?=some true↔(l.foldl usedB s).testBit i=true):=by
    intro l
    induction l with
    | nil=>intro u s _ h;exact h
    | cons f l ih =>
     intro u s hw h i hi
     simp only [List.foldl_cons]
     have hwf:=Zww (hw f (List.mem_cons_self ..))
     refine ih (mark1 u f) (usedB s f) (fun g hg=>by rw [Zfa];exact hw g (List.mem_cons_of_mem _ hg)) ?_ i (by rw [Zfa];exact hi)
     intro j hj
     rw [Zfa] at hj
     have hx:f.x.toNat < u.length:=by omega
     have hy:f.y.toNat < u.length:=by omega
     have hz:f.z.toNat < u.length:=by omega
     unfold mark1 usedB
     simp only [Zpi,Bool.or_eq_true,decide_eq_true_eq,← h j hj,List.getElem?_set,List.length_set,hx,hy,hz,if_true]
     by_cases c3:f.z.toNat=j
     ·simp [c3]
     ·by_cases c2:f.y.toNat=j
      ·simp [c3,c2]
      ·by_cases c1:f.x.toNat=j
       ·simp [c3,c2,c1]
       ·simp [c3,c2,c1]
   intro b hb
   obtain ⟨i,hi⟩:=List.mem_iff_getElem?.1 hb
   have hlt:i < n:=by
    have:=(List.getElem?_eq_some_iff.1 hi).1
    unfold usedF at this
    rw [Zfr,List.length_replicate] at this
    exact this
   have hk:=(key F (List.replicate n false) 0 (by rw [List.length_replicate];exact hw) (fun i hi=>by
    rw [List.length_replicate] at hi
    rw [List.getElem?_replicate,if_pos hi]
    simp) i (by rw [List.length_replicate];exact hlt)).2 (by
     have e:F.foldl usedB 0=2 ^ n - 1:=by omega
     rw [e,Nat.testBit_two_pow_sub_one]
     simpa using hlt)
   unfold usedF at hi
   rw [hk] at hi
   cases hi
   rfl
  have e5:=Zz5 hw hn hs h0 (k:=k) fun c hc=>List.all_eq_true.1 h3 c hc
  simp only [comb,e1,e2,e3,e4,e5,Option.isNone_none,Bool.and_self]
 ·cases h2
end
end Go.Sx
