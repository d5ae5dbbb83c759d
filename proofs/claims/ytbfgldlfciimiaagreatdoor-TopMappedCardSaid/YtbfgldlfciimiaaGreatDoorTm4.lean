/- Plain: the sides of the nodes of a drafted grid, with shears. -/
import Derived.Test.YtbfgldlfciimiaaGreatDoorTm1
import Derived.Test.YtbfgldlfciimiaaGreatDoorTp1
import Derived.Test.YtbfgldlfciimiaaGreatDoorNp1
set_option maxHeartbeats 1000000
namespace Go.Sx
open Go Go.Proofs.YtbfgldlfciimiaaGreatDoor
theorem Zjm (w a b c:V3):w.dot ((a.plus b).plus c)=w.dot a+w.dot b+w.dot c:=by
 simp only [V3.dot,V3.plus];grind
theorem Z9q:∀ n∈NAs,(-4≤n.x∧n.x≤4)∧(-4≤n.y∧n.y≤4)∧(-4≤n.z∧n.z≤4)∧(n.x * 0+n.y * -1+n.z * 1)+(n.x * 1+n.y * 0+n.z * 1)+(n.x * 0+n.y * 0+n.z * 1)≤-1:=by decide
theorem Ye4:∀ n∈N6s,(-4≤n.x∧n.x≤4)∧(-4≤n.y∧n.y≤4)∧(-4≤n.z∧n.z≤4):=by decide
theorem Zf4 {q:D37} {a b c:Nat} {x y:V3} (hy:y∈nodesF a b c):relV ((nodesF a b c).map (phi q)) (phi q x) (posN (nodesF a b c) y:Nat)=(phi q y).sub (phi q x):=by
 have hp:=Zhj (Zcj a b c (a * b * c)) hy
 unfold relV
 rw [Zbk (by omega) (by have:=hp.2;exact_mod_cast this),Zxk hy]
set_option maxHeartbeats 2000000 in
theorem Z9w {q:D37} (h:q.ok) {a b c i j k:Nat} (hz:Sz a b c) (hi:0 < i∧i+1 < a) (hj:0 < j∧j+1 < b) (hk:0 < k∧k+1 < c) (hg:Good ((nodesF a b c).map (phi q)) (shellF a b c)) :
  onM axP ((nodesF a b c).map (phi q)) (shellF a b c) (phi q ⟨i,j,k⟩)=false∧windN ((nodesF a b c).map (phi q)) (shellF a b c) (phi q ⟨i,j,k⟩)≠0:=by
 obtain ⟨u,Q,hQ,hl⟩:=Z7g h
 have hc:=hz.cert hi hj hk
 unfold certK at hc
 rw [Bool.and_eq_true,List.all_eq_true,List.any_eq_true] at hc
 obtain ⟨hw,f0,hf0,hs⟩:=hc
 rw [Bool.and_eq_true,List.all_eq_true] at hs
 obtain ⟨hseen,hs⟩:=hs
 have hsg:sgK c k=1∨sgK c k=-1:=by unfold sgK;split;exact .inl rfl;exact .inr rfl
 obtain ⟨x,hx⟩:∃ x:V3,x=⟨i,j,k⟩:=⟨_,rfl⟩
 rw [← hx] at hw hseen hs ⊢
 have pt:∀ (s:Int) (n y:V3),(s=1∨s=-1)→(-4≤n.x∧n.x≤4)→(-4≤n.y∧n.y≤4)→(-4≤n.z∧n.z≤4) →
   250 * (Q * (s * (n.x * (y.x - x.x)+n.y * (y.y - x.y)+n.z * (y.z - x.z)))) - 12 * Q≤65535 * (wK u s n).dot ((phi q y).sub (phi q x))∧65535 * (wK u s n).dot ((phi q y).sub (phi q x))≤250 * (Q * (s * (n.x * (y.x - x.x)+n.y * (y.y - x.y)+n.z * (y.z - x.z))))+12 * Q :=
  fun s n y hs nx ny nz=>Ygo hQ hs (hl x y 0 (by decide)) (hl x y 1 (by decide)) (hl x y 2 (by decide)) nx ny nz
 have pos:∀ (s:Int) (n y:V3),(s=1∨s=-1)→(-4≤n.x∧n.x≤4)→(-4≤n.y∧n.y≤4)→(-4≤n.z∧n.z≤4)→sideK s x n y=true→0 < (wK u s n).dot ((phi q y).sub (phi q x)):=fun s n y hs nx ny nz hd=>by
  have h1:=(pt s n y hs nx ny nz).1
  have h2:1≤s * (n.x * (y.x - x.x)+n.y * (y.y - x.y)+n.z * (y.z - x.z)):=of_decide_eq_true hd
  generalize s * (n.x * (y.x - x.x)+n.y * (y.y - x.y)+n.z * (y.z - x.z))=t at *
  have h3:=Int.mul_le_mul_of_nonneg_left h2 (Int.le_of_lt hQ)
  omega
 have tv:∀ (n v:V3) (t:Int),(-4≤n.x∧n.x≤4)→(-4≤n.y∧n.y≤4)→(-4≤n.z∧n.z≤4)→n.x * v.x+n.y * v.y+n.z * v.z=t →
   250 * (Q * t) - 12 * Q≤65535 * (wK u (sgK c k) n).dot ((phi q (moved (sgK c k) x v)).sub (phi q x))∧65535 * (wK u (sgK c k) n).dot ((phi q (moved (sgK c k) x v)).sub (phi q x))≤250 * (Q * t)+12 * Q:=fun n v t nx ny nz ht=>by
  have h1:=pt (sgK c k) n (moved (sgK c k) x v) hsg nx ny nz
  have e:sgK c k * (n.x * ((moved (sgK c k) x v).x - x.x)+n.y * ((moved (sgK c k) x v).y - x.y)+n.z * ((moved (sgK c k) x v).z - x.z))=t:=by
   rw [← ht]
   simp only [moved]
   rcases hsg with e|e<;>rw [e]<;>grind
  rwa [e] at h1
 have hsh:∀ f∈shellF a b c,∃ y∈shellN a b c,f=posF (nodesF a b c) y:=fun f hf=>by
  rw [Zeq] at hf
  obtain ⟨y,hy,e⟩:=List.mem_map.1 hf
  exact ⟨y,hy,e.symm⟩
 have off:onM axP ((nodesF a b c).map (phi q)) (shellF a b c) (phi q x)=false:=by
  refine Z9a hg fun f hf=>?_
  obtain ⟨y,hy,rfl⟩:=hsh f hf
  obtain ⟨i1,i2,i3⟩:=Zfm hz.a2 hz.b2 hz.c2 hy
  have hw:=hw y hy
  rw [List.any_eq_true] at hw
  obtain ⟨n,hn,hw⟩:=hw
  rw [Zhx] at hw
  obtain ⟨nx,ny,nz⟩:=Ye4 n hn
  refine ⟨wK u 1 n,?_⟩
  unfold posF
  dsimp only
  rw [Zf4 i1,Zf4 i2,Zf4 i3]
  exact ⟨pos 1 n _ (.inl rfl) nx ny nz hw.1,pos 1 n _ (.inl rfl) nx ny nz hw.2.1,pos 1 n _ (.inl rfl) nx ny nz hw.2.2⟩
 refine ⟨off,?_⟩
 obtain ⟨j1,j2,j3⟩:=Zfm hz.a2 hz.b2 hz.c2 hf0
 have hmem:posF (nodesF a b c) f0∈shellF a b c:=by rw [Zeq];exact List.mem_map_of_mem hf0
 have r1:relV ((nodesF a b c).map (phi q)) (phi q x) (posF (nodesF a b c) f0).x=(phi q f0.1).sub (phi q x):=Zf4 j1
 have r2:relV ((nodesF a b c).map (phi q)) (phi q x) (posF (nodesF a b c) f0).y=(phi q f0.2.1).sub (phi q x):=Zf4 j2
 have r3:relV ((nodesF a b c).map (phi q)) (phi q x) (posF (nodesF a b c) f0).z=(phi q f0.2.2).sub (phi q x):=Zf4 j3
 have d11:=tv ⟨0,-1,0⟩ ⟨0,-1,1⟩ 1 (by decide) (by decide) (by decide) (by decide)
 have d12:=tv ⟨0,-1,0⟩ ⟨1,0,1⟩ 0 (by decide) (by decide) (by decide) (by decide)
 have d13:=tv ⟨0,-1,0⟩ ⟨0,0,1⟩ 0 (by decide) (by decide) (by decide) (by decide)
 have d21:=tv ⟨1,0,0⟩ ⟨0,-1,1⟩ 0 (by decide) (by decide) (by decide) (by decide)
 have d22:=tv ⟨1,0,0⟩ ⟨1,0,1⟩ 1 (by decide) (by decide) (by decide) (by decide)
 have d23:=tv ⟨1,0,0⟩ ⟨0,0,1⟩ 0 (by decide) (by decide) (by decide) (by decide)
 have d31:=tv ⟨-1,1,1⟩ ⟨0,-1,1⟩ 0 (by decide) (by decide) (by decide) (by decide)
 have d32:=tv ⟨-1,1,1⟩ ⟨1,0,1⟩ 0 (by decide) (by decide) (by decide) (by decide)
 have d33:=tv ⟨-1,1,1⟩ ⟨0,0,1⟩ 1 (by decide) (by decide) (by decide) (by decide)
 have md:∀ n∈NAs,(wK u (sgK c k) n).dot ((phi q (moved (sgK c k) x ⟨0,-1,1⟩)).sub (phi q x))+(wK u (sgK c k) n).dot ((phi q (moved (sgK c k) x ⟨1,0,1⟩)).sub (phi q x))+(wK u (sgK c k) n).dot ((phi q (moved (sgK c k) x ⟨0,0,1⟩)).sub (phi q x)) < 0:=fun n hn=>by
  obtain ⟨nx,ny,nz,hm⟩:=Z9q n hn
  have k1:=tv n ⟨0,-1,1⟩ _ nx ny nz rfl
  have k2:=tv n ⟨1,0,1⟩ _ nx ny nz rfl
  have k3:=tv n ⟨0,0,1⟩ _ nx ny nz rfl
  simp only at k1 k2 k3
  generalize n.x * 0+n.y * -1+n.z * 1=t1 at *
  generalize n.x * 1+n.y * 0+n.z * 1=t2 at *
  generalize n.x * 0+n.y * 0+n.z * 1=t3 at *
  have k4:=Int.mul_le_mul_of_nonneg_left hm (Int.le_of_lt hQ)
  rw [Int.mul_add,Int.mul_add] at k4
  omega
 have all:∀ f∈shellF a b c,f≠posF (nodesF a b c) f0→∃ n∈NAs,0≤(wK u (sgK c k) n).dot (relV ((nodesF a b c).map (phi q)) (phi q x) f.x)∧0≤(wK u (sgK c k) n).dot (relV ((nodesF a b c).map (phi q)) (phi q x) f.y)∧0≤(wK u (sgK c k) n).dot (relV ((nodesF a b c).map (phi q)) (phi q x) f.z):=fun f hf hff=>by
  obtain ⟨y,hy,rfl⟩:=hsh f hf
  obtain ⟨i1,i2,i3⟩:=Zfm hz.a2 hz.b2 hz.c2 hy
  have hs:=hs y hy
  rw [Bool.or_eq_true,decide_eq_true_eq] at hs
  have hs:=hs.resolve_left fun e=>hff (by rw [e])
  rw [List.any_eq_true] at hs
  obtain ⟨n,hn,hs⟩:=hs
  rw [Zhx] at hs
  obtain ⟨nx,ny,nz,_⟩:=Z9q n hn
  refine ⟨n,hn,?_⟩
  unfold posF
  dsimp only
  rw [Zf4 i1,Zf4 i2,Zf4 i3]
  exact ⟨Int.le_of_lt (pos _ n _ hsg nx ny nz hs.1),Int.le_of_lt (pos _ n _ hsg nx ny nz hs.2.1),Int.le_of_lt (pos _ n _ hsg nx ny nz hs.2.2)⟩
 unfold seenK at hseen
 simp only [Bool.or_eq_true,decide_eq_true_eq] at hseen
 rcases hseen with ((e|e)|e)|e<;>have e1:=congrArg (fun z:V3 × V3 × V3=>z.1) e<;>have e2:=congrArg (fun z:V3 × V3 × V3=>z.2.1) e<;>have e3:=congrArg (fun z:V3 × V3 × V3=>z.2.2) e<;>simp only at e1 e2 e3<;>rw [e1] at r1<;>rw [e2] at r2<;>rw [e3] at r3
 ·refine Zqi hg off hmem (by rw [r1,r2,r3];exact Zq7 hQ (by omega) (by omega) (by omega) (by omega) (by omega) (by omega) (by omega) (by omega) (by omega) (w1:=wK u (sgK c k) ⟨0,-1,0⟩) (w2:=wK u (sgK c k) ⟨1,0,0⟩) (w3:=wK u (sgK c k) ⟨-1,1,1⟩)) fun f hf hff=>?_
  obtain ⟨n,hn,hw⟩:=all f hf hff
  have:=md n hn
  exact ⟨_,by rw [r1,r2,r3,Zjm];omega,hw⟩
 ·refine Zqi hg off hmem (by rw [r1,r2,r3];exact Zq7 hQ (by omega) (by omega) (by omega) (by omega) (by omega) (by omega) (by omega) (by omega) (by omega) (w1:=wK u (sgK c k) ⟨0,-1,0⟩) (w2:=wK u (sgK c k) ⟨-1,1,1⟩) (w3:=wK u (sgK c k) ⟨1,0,0⟩)) fun f hf hff=>?_
  obtain ⟨n,hn,hw⟩:=all f hf hff
  have:=md n hn
  exact ⟨_,by rw [r1,r2,r3,Zjm];omega,hw⟩
 ·refine Zqi hg off hmem (by rw [r1,r2,r3];exact Zq7 hQ (by omega) (by omega) (by omega) (by omega) (by omega) (by omega) (by omega) (by omega) (by omega) (w1:=wK u (sgK c k) ⟨1,0,0⟩) (w2:=wK u (sgK c k) ⟨-1,1,1⟩) (w3:=wK u (sgK c k) ⟨0,-1,0⟩)) fun f hf hff=>?_
  obtain ⟨n,hn,hw⟩:=all f hf hff
  have:=md n hn
  exact ⟨_,by rw [r1,r2,r3,Zjm];omega,hw⟩
 ·refine Zqi hg off hmem (by rw [r1,r2,r3];exact Zq7 hQ (by omega) (by omega) (by omega) (by omega) (by omega) (by omega) (by omega) (by omega) (by omega) (w1:=wK u (sgK c k) ⟨1,0,0⟩) (w2:=wK u (sgK c k) ⟨0,-1,0⟩) (w3:=wK u (sgK c k) ⟨-1,1,1⟩)) fun f hf hff=>?_
  obtain ⟨n,hn,hw⟩:=all f hf hff
  have:=md n hn
  exact ⟨_,by rw [r1,r2,r3,Zjm];omega,hw⟩
theorem Z22 {q:D37} (h:q.ok) {a b c:Nat} (hz:Sz a b c) {i j k:Nat} (hi:i < a) (hj:j < b) (hk:k < c) {F:List V3}
  (hF:F=shellF a b c∨F=(shellF a b c).map swapF):sideW ((nodesF a b c).map (phi q)) F (phi q ⟨i,j,k⟩)=(if onI a b c i j k=true then (1,0) else (2,0)):=by
 by_cases hon:onI a b c i j k=true
 ·rw [if_pos hon];exact Yaz h hz hi hj hk hF hon
 ·rw [if_neg hon]
  have hon':=hon
  rw [Z2x] at hon'
  have hst:Steps q.t (phi q):=Zg9 h
  have hfa:∀ x∈nodesF a b c,isFar (phi q x)=false:=fun x hx=>by
   obtain ⟨i,j,k,rfl,hi,hj,hk,_⟩:=Zil hx
   have:=hz.a5;have:=hz.b4;have:=hz.c4
   exact Zgc (Zh8 h (by omega) (by omega) (by omega))
  have hg:=Zeg hz hst h.1 hfa
  have ht:=Zdz hz hst h.1 hfa
  have hgF:Good ((nodesF a b c).map (phi q)) F:=by rcases hF with rfl|rfl;exact hg;exact ht
  have hfl:(flawM ((nodesF a b c).map (phi q)) F).1=0:=Yft.2 hgF
  have hfar:isFar (phi q ⟨i,j,k⟩)=false:=by
   have:=hz.a5;have:=hz.b4;have:=hz.c4
   exact Zgc (Zh8 h (by omega) (by omega) (by omega))
  have onF:onM axP ((nodesF a b c).map (phi q)) F (phi q ⟨i,j,k⟩)=onM axP ((nodesF a b c).map (phi q)) (shellF a b c) (phi q ⟨i,j,k⟩):=by
   rcases hF with rfl|rfl
   ·rfl
   ·exact Zmh hg ht
  obtain ⟨off,wnd⟩:=Z9w h hz (i:=i) (j:=j) (k:=k) (by omega) (by omega) (by omega) hg
  unfold sideW
  rw [if_neg (fun h=>h hfl),hfar,if_neg (by decide),onF,off,if_neg (by decide)]
  refine if_pos ?_
  rcases hF with rfl|rfl
  ·exact wnd
  ·rw [Zjv hg ht off];omega
end Go.Sx
namespace Go.Sx
open Go
variable {P F:List V3} {p:V3}
theorem Zpj {c:V3} (hg:Good P F) (h:anchorO P F p=some c):isFar c=false∧(sideW P F c).1=2:=by
 unfold anchorO at h
 cases he:extO P F with
 | none=>rw [he] at h;cases h
 | some x =>
  rw [he,Option.bind_some] at h
  by_cases h2:(sideW P F (anchorV x.1 x.2 p)).1=2
  ·rw [if_pos h2] at h
   have e:=Option.some.inj h
   rw [← e]
   exact ⟨Zkd hg he p,h2⟩
  ·rw [if_neg h2] at h;cases h
theorem Z0j (hg:Good P F) (hp:isFar p=false):anchorW P F p=(match anchorO P F p with|none=>(V3.zero,4)|some c=>(c,0)):=by
 have hf:(flawM P F).1=0:=Yft.2 hg
 unfold anchorW
 rw [if_neg (fun h=>h hf),hp,if_neg (by decide)]
 rfl
def betw (c p:Int) (y:Rat):Prop:=((min p c:Int):Rat)≤y∧y≤((max p c:Int):Rat)
theorem Zv9 {c p:Int} {s:Rat} (h0:0≤s) (h1:s≤1):betw c p ((c:Rat)+s * ((p - c:Int):Rat)):=by
 rw [Rat.intCast_sub]
 unfold betw
 rcases Int.le_total c p with h|h
 ·have hr:(c:Rat)≤(p:Rat):=Rat.intCast_le_intCast.2 h
  rw [Int.min_eq_right h,Int.max_eq_left h]
  have k1:=Rat.mul_nonneg h0 (show (0:Rat)≤(p:Rat) - c by grind)
  have k2:=Rat.mul_nonneg (show (0:Rat)≤1 - s by grind) (show (0:Rat)≤(p:Rat) - c by grind)
  constructor<;>grind
 ·have hr:(p:Rat)≤(c:Rat):=Rat.intCast_le_intCast.2 h
  rw [Int.min_eq_left h,Int.max_eq_right h]
  have k1:=Rat.mul_nonneg h0 (show (0:Rat)≤(c:Rat) - p by grind)
  have k2:=Rat.mul_nonneg (show (0:Rat)≤1 - s by grind) (show (0:Rat)≤(c:Rat) - p by grind)
  constructor<;>grind
theorem Zk5 {k m:Int} {c:V3} (hg:Good P F) (hp:isFar p=false) (hk:0≤k∧k < 1000) (hm:1000 < m∧m≤10000) (h:anchorO P F p=some c):∃ y0 y1 y2:Rat,compressW P F p k m=.inr [y0,y1,y2]∧(betw c.x p.x y0∧betw c.y p.y y1∧betw c.z p.z y2)∧Fit 600 y0∧Fit 600 y1∧Fit 600 y2:=by
 have hf:(flawM P F).1=0:=Yft.2 hg
 obtain ⟨hc,h2⟩:=Zpj hg h
 obtain ⟨z1,z2,z3,z4,z5,z6⟩:=Zcv hc
 obtain ⟨w1,w2,w3,w4,w5,w6⟩:=Zcv hp
 unfold compressW
 rw [if_neg (fun h=>h hf),hp,if_neg (by decide),if_neg (by omega),h]
 simp only
 have self:∀ n:Int,betw n n (n:Rat):=fun n=>by unfold betw;rw [Int.min_self,Int.max_self];exact ⟨Rat.le_refl,Rat.le_refl⟩
 by_cases e:p=c
 ·rw [if_pos e,e]
  exact ⟨_,_,_,rfl,⟨self _,self _,self _⟩,(Zbx (by omega)).mono (by decide),(Zbx (by omega)).mono (by decide),(Zbx (by omega)).mono (by decide)⟩
 ·rw [if_neg e]
  obtain ⟨t,j,hr⟩:=Zxv hg hc h2 (Ne.symm e)
  have ht:=Zxw hg hc h2 (Ne.symm e) hr
  obtain ⟨s,hs,s0,s1,_⟩:=Zxj hk.1 hk.2 hm.1 ht
  rw [hr]
  simp only
  rw [hs]
  have hfs:=Zst hk.1 hk.2 hm.1 hm.2 (Zlf hg hc hp (Ne.symm e) hr) hs
  exact ⟨_,_,_,rfl,⟨Zv9 s0 s1,Zv9 s0 s1,Zv9 s0 s1⟩,(Zq0 (by omega) (by omega) hfs).2.mono (by decide),(Zq0 (by omega) (by omega) hfs).2.mono (by decide),(Zq0 (by omega) (by omega) hfs).2.mono (by decide)⟩
end Go.Sx
