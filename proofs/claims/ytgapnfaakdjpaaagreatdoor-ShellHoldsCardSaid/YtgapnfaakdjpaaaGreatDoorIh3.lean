/- Plain: a node within a drafted grid without shears lies in its shell. -/
import Derived.Test.YtgapnfaakdjpaaaGreatDoorIh2
namespace Go.Sx
open Go Go.Proofs.YtgapnfaakdjpaaaGreatDoor
def diagP (j:V3):Prop:=(j.y=0∧j.z=0)∨(j.y=1∧j.z=1)∨(j.y=0∧j.z=1)
theorem behind_sep {m:Nat→Int→Int} (lt:∀ o,o < 3→∀ i j:Int,i < j→m o i < m o j) {S X:V3} (hx:(0 < X.x∧X.x < S.x)∧(0 < X.y∧X.y < S.y)∧(0 < X.z∧X.z < S.z)) {j1 j2 j3:V3}
    (hb:∀ j:V3,(j=j1∨j=j2∨j=j3)→(0≤j.x∧j.x≤S.x)∧(0≤j.y∧j.y≤S.y)∧(0≤j.z∧j.z≤S.z))
    (hk:(j1.x=0∧j2.x=0∧j3.x=0)∨(j1.y=0∧j2.y=0∧j3.y=0)∨(j1.z=0∧j2.z=0∧j3.z=0)∨(j1.y=S.y∧j2.y=S.y∧j3.y=S.y)∨(j1.z=S.z∧j2.z=S.z∧j3.z=S.z) ∨
      ((j1.x=S.x∧j2.x=S.x∧j3.x=S.x)∧((1≤j1.y∧1≤j2.y∧1≤j3.y)∨(1≤j1.z∧1≤j2.z∧1≤j3.z)∨(diagP j1∧diagP j2∧diagP j3)))) :
    ∃ w,Sep w (seeV m X ⟨S.x,0,0⟩) (seeV m X ⟨S.x,1,0⟩) (seeV m X ⟨S.x,1,1⟩) (seeV m X j1) (seeV m X j2) (seeV m X j3):=by
  have lt0:=lt 0 (by decide)
  have lt1:=lt 1 (by decide)
  have lt2:=lt 2 (by decide)
  have le0:∀ i j:Int,i≤j→m 0 i≤m 0 j:=fun i j h=>by
    by_cases e:i=j
    · subst e;exact Int.le_refl _
    · exact Int.le_of_lt (lt0 i j (by omega))
  have le1:∀ i j:Int,i≤j→m 1 i≤m 1 j:=fun i j h=>by
    by_cases e:i=j
    · subst e;exact Int.le_refl _
    · exact Int.le_of_lt (lt1 i j (by omega))
  have le2:∀ i j:Int,i≤j→m 2 i≤m 2 j:=fun i j h=>by
    by_cases e:i=j
    · subst e;exact Int.le_refl _
    · exact Int.le_of_lt (lt2 i j (by omega))
  obtain ⟨b1,b2,b3⟩:=hb j1 (.inl rfl)
  obtain ⟨c1,c2,c3⟩:=hb j2 (.inr (.inl rfl))
  obtain ⟨d1,d2,d3⟩:=hb j3 (.inr (.inr rfl))
  clear hb
  obtain ⟨x0,x1,x2⟩:=hx
  have hX:=lt0 _ _ x0.2
  have hX':=lt0 _ _ x0.1
  have hY:=lt1 _ _ x1.2
  have hY':=lt1 _ _ x1.1
  have hZ:=lt2 _ _ x2.2
  have hZ':=lt2 _ _ x2.1
  have dy:=lt1 0 1 (by decide)
  have dz:=lt2 0 1 (by decide)
  have y1S:=le1 1 S.y (by omega)
  have z1S:=le2 1 S.z (by omega)
  have y1T:=lt1 0 S.y (by omega)
  have z1T:=lt2 0 S.z (by omega)
  have m1:=le0 _ _ b1.2
  have m2:=le0 _ _ c1.2
  have m3:=le0 _ _ d1.2
  rcases hk with ⟨e1,e2,e3⟩|⟨e1,e2,e3⟩|⟨e1,e2,e3⟩|⟨e1,e2,e3⟩|⟨e1,e2,e3⟩|⟨⟨f1,f2,f3⟩,hk⟩
  · refine ⟨⟨-1,0,0⟩,⟨?_,?_,?_⟩,.inl ?_,?_,?_,?_⟩<;>simp only [V3.dot,seeV,e1,e2,e3]<;>omega
  · refine ⟨_,sep_wall (X:=m 0 S.x - m 0 X.x) (k:=m 1 X.y - m 1 0) (β:=-1) (γ:=0) (by omega) rfl rfl rfl ?_ ?_ ?_ ?_ (.inr ⟨by omega,?_,?_,?_⟩) ?_ ?_ ?_⟩<;>simp only [seeV,e1,e2,e3]<;>omega
  · refine ⟨_,sep_wall (X:=m 0 S.x - m 0 X.x) (k:=m 2 X.z - m 2 0) (β:=0) (γ:=-1) (by omega) rfl rfl rfl ?_ ?_ ?_ ?_ (.inr ⟨by omega,?_,?_,?_⟩) ?_ ?_ ?_⟩<;>simp only [seeV,e1,e2,e3]<;>omega
  · refine ⟨_,sep_wall (X:=m 0 S.x - m 0 X.x) (k:=m 1 S.y - m 1 X.y) (β:=1) (γ:=0) (by omega) rfl rfl rfl ?_ ?_ ?_ ?_ (.inr ⟨by omega,?_,?_,?_⟩) ?_ ?_ ?_⟩<;>simp only [seeV,e1,e2,e3]<;>omega
  · refine ⟨_,sep_wall (X:=m 0 S.x - m 0 X.x) (k:=m 2 S.z - m 2 X.z) (β:=0) (γ:=1) (by omega) rfl rfl rfl ?_ ?_ ?_ ?_ (.inr ⟨by omega,?_,?_,?_⟩) ?_ ?_ ?_⟩<;>simp only [seeV,e1,e2,e3]<;>omega
  · rcases hk with ⟨e1,e2,e3⟩|⟨e1,e2,e3⟩|⟨e1,e2,e3⟩
    · have k1:=le1 _ _ e1
      have k2:=le1 _ _ e2
      have k3:=le1 _ _ e3
      refine ⟨_,sep_wall (X:=m 0 S.x - m 0 X.x) (k:=m 1 1 - m 1 X.y) (β:=1) (γ:=0) (by omega) rfl rfl rfl ?_ ?_ ?_ ?_ (.inl ⟨?_,?_,?_⟩) ?_ ?_ ?_⟩<;>simp only [seeV,f1,f2,f3]<;>omega
    · have k1:=le2 _ _ e1
      have k2:=le2 _ _ e2
      have k3:=le2 _ _ e3
      refine ⟨_,sep_wall (X:=m 0 S.x - m 0 X.x) (k:=m 2 1 - m 2 X.z) (β:=0) (γ:=1) (by omega) rfl rfl rfl ?_ ?_ ?_ ?_ (.inl ⟨?_,?_,?_⟩) ?_ ?_ ?_⟩<;>simp only [seeV,f1,f2,f3]<;>omega
    · obtain ⟨y0,hy0⟩:∃ y,y=m 1 0 - m 1 X.y:=⟨_,rfl⟩
      obtain ⟨z0,hz0⟩:∃ y,y=m 2 0 - m 2 X.z:=⟨_,rfl⟩
      obtain ⟨u,hu⟩:∃ y,y=m 1 1 - m 1 0:=⟨_,rfl⟩
      obtain ⟨v,hv⟩:∃ y,y=m 2 1 - m 2 0:=⟨_,rfl⟩
      have hy1:m 1 1 - m 1 X.y=y0+u:=by omega
      have hz1:m 2 1 - m 2 X.z=z0+v:=by omega
      have huv:0 < u * v:=Int.mul_pos (by omega) (by omega)
      have g10:-v * (y0+u)+u * z0=-v * y0+u * z0 - u * v:=by grind
      have g11:-v * (y0+u)+u * (z0+v)=-v * y0+u * z0:=by grind
      have g01:-v * y0+u * (z0+v)=-v * y0+u * z0+u * v:=by grind
      have dg:∀ j:V3,diagP j→-v * y0+u * z0≤-v * (m 1 j.y - m 1 X.y)+u * (m 2 j.z - m 2 X.z):=by
        rintro j (⟨h1,h2⟩|⟨h1,h2⟩|⟨h1,h2⟩)
        · rw [h1,h2,← hy0,← hz0];exact Int.le_refl _
        · rw [h1,h2,hy1,hz1,g11];exact Int.le_refl _
        · rw [h1,h2,← hy0,hz1,g01];omega
      refine ⟨_,sep_wall (X:=m 0 S.x - m 0 X.x) (k:=-v * y0+u * z0) (β:=-v) (γ:=u) (by omega) rfl rfl rfl ?_ ?_ ?_ (.inr (.inl ?_)) (.inl ⟨?_,?_,?_⟩) (dg _ e1) (dg _ e2) (dg _ e3)⟩
      · simp only [seeV];rw [← hy0,← hz0];exact Int.le_refl _
      · simp only [seeV];rw [hy1,← hz0,g10];omega
      · simp only [seeV];rw [hy1,hz1,g11];exact Int.le_refl _
      · simp only [seeV];rw [hy1,← hz0,g10];omega
      · simp only [seeV,f1]
      · simp only [seeV,f2]
      · simp only [seeV,f3]
theorem Sep.swap {w a b c a' b' c':V3} (h:Sep w a b c a' b' c'):Sep w a c b a' b' c':=by
  obtain ⟨⟨s1,s2,s3⟩,s4,s5⟩:=h
  exact ⟨⟨s1,s3,s2⟩,by rcases s4 with s|s|s;exact .inl s;exact .inr (.inr s);exact .inr (.inl s),s5⟩
variable {t a b c:Nat} {φ:V3→V3} {m:Nat→Int→Int} {x:V3}
theorem at12_iff {y:V3} {j k:Int}:at12 t y j k=true↔jo t 1 y=j∧jo t 2 y=k:=by
  unfold at12;simp only [Bool.and_eq_true,decide_eq_true_eq]
theorem wind_node (ha:2≤a) (hb2:2≤b) (hc:2≤c) (hm:Mono t φ m) (hg:Good ((nodesF a b c).map φ) (shellF a b c)) (hb:holdB a b c t=true) (hx:Within a b c t x):windN ((nodesF a b c).map φ) (shellF a b c) (φ x)≠0:=by
  have hoff:=off_node ha hb2 hc hm hg hb hx
  unfold holdB at hb
  rw [Bool.and_eq_true,List.all_eq_true,List.any_eq_true] at hb
  obtain ⟨hin,f0,hf0,hs⟩:=hb
  rw [Bool.and_eq_true,List.all_eq_true] at hs
  obtain ⟨hs,hbe⟩:=hs
  have hX:(0 < (jV t x).x∧(jV t x).x < sz a b c t 0)∧(0 < (jV t x).y∧(jV t x).y < sz a b c t 1)∧(0 < (jV t x).z∧(jV t x).z < sz a b c t 2):=⟨hx 0 (by decide),hx 1 (by decide),hx 2 (by decide)⟩
  have inb:∀ y∈shellN a b c,∀ j:V3,(j=jV t y.1∨j=jV t y.2.1∨j=jV t y.2.2)→(0≤j.x∧j.x≤sz a b c t 0)∧(0≤j.y∧j.y≤sz a b c t 1)∧(0≤j.z∧j.z≤sz a b c t 2):=by
    intro f hf j hj
    have h:=hin f hf
    rw [Bool.and_eq_true] at h
    have h:=h.1
    rw [allJ_iff] at h
    unfold inBJ at h
    simp only [Bool.and_eq_true,decide_eq_true_eq] at h
    obtain ⟨⟨⟨a1,a2⟩,a3⟩,⟨⟨b1,b2⟩,b3⟩,⟨c1,c2⟩,c3⟩:=h
    rcases hj with rfl|rfl|rfl
    · exact ⟨a1,a2,a3⟩
    · exact ⟨b1,b2,b3⟩
    · exact ⟨c1,c2,c3⟩
  have rel:∀ y∈shellN a b c,relV ((nodesF a b c).map φ) (φ x) (posF (nodesF a b c) y).x=seeV m (jV t x) (jV t y.1)∧relV ((nodesF a b c).map φ) (φ x) (posF (nodesF a b c) y).y=seeV m (jV t x) (jV t y.2.1)∧relV ((nodesF a b c).map φ) (φ x) (posF (nodesF a b c) y).z=seeV m (jV t x) (jV t y.2.2):=by
    intro y hy
    obtain ⟨i1,i2,i3⟩:=shellN_mem ha hb2 hc hy
    exact ⟨hm.rel i1,hm.rel i2,hm.rel i3⟩
  unfold seenJ at hs
  simp only [Bool.and_eq_true,Bool.or_eq_true,allJ_iff,decide_eq_true_eq,at12_iff] at hs
  obtain ⟨⟨⟨s1,s2,s3⟩,s4,s5⟩,s6⟩:=hs
  obtain ⟨r1,r2,r3⟩:=rel f0 hf0
  have key:∀ f∈shellN a b c,f≠f0→∃ w,Sep w (seeV m (jV t x) ⟨sz a b c t 0,0,0⟩) (seeV m (jV t x) ⟨sz a b c t 0,1,0⟩) (seeV m (jV t x) ⟨sz a b c t 0,1,1⟩)
      (relV ((nodesF a b c).map φ) (φ x) (posF (nodesF a b c) f).x) (relV ((nodesF a b c).map φ) (φ x) (posF (nodesF a b c) f).y) (relV ((nodesF a b c).map φ) (φ x) (posF (nodesF a b c) f).z):=by
    intro f hf hff
    have h:=hbe f hf
    rw [Bool.or_eq_true,decide_eq_true_eq] at h
    have h:=h.resolve_left hff
    unfold behindJ at h
    simp only [Bool.and_eq_true,Bool.or_eq_true,allJ_iff,decide_eq_true_eq,at12_iff] at h
    obtain ⟨k1,k2,k3⟩:=rel f hf
    rw [k1,k2,k3]
    refine behind_sep (S:=⟨sz a b c t 0,sz a b c t 1,sz a b c t 2⟩) (X:=jV t x) hm.lt hX ?_ ?_
    · rintro j (rfl|rfl|rfl)
      · exact inb f hf _ (.inl rfl)
      · exact inb f hf _ (.inr (.inl rfl))
      · exact inb f hf _ (.inr (.inr rfl))
    · unfold diagP jV
      exact h
  have hlt1:=hm.lt 1 (by decide) 0 1 (by decide)
  have hlt2:=hm.lt 2 (by decide) 0 1 (by decide)
  have hlt0:=hm.lt 0 (by decide) _ _ hX.1.2
  have e1:jV t f0.1=⟨sz a b c t 0,0,0⟩:=by unfold jV;rw [s1,s4,s5]
  rw [e1] at r1
  have hpos:(m 1 1 - m 1 0) * (m 2 1 - m 2 0)≠0:=Int.mul_ne_zero (by omega) (by omega)
  have hmem:posF (nodesF a b c) f0∈shellF a b c:=by rw [shellN_eq];exact List.mem_map_of_mem hf0
  have sep:∀ f∈shellF a b c,f≠posF (nodesF a b c) f0→∃ w,Sep w (seeV m (jV t x) ⟨sz a b c t 0,0,0⟩) (seeV m (jV t x) ⟨sz a b c t 0,1,0⟩) (seeV m (jV t x) ⟨sz a b c t 0,1,1⟩) (relV ((nodesF a b c).map φ) (φ x) f.x) (relV ((nodesF a b c).map φ) (φ x) f.y) (relV ((nodesF a b c).map φ) (φ x) f.z):=by
    intro f hf hff
    rw [shellN_eq] at hf
    obtain ⟨y,hy,rfl⟩:=List.mem_map.1 hf
    exact key y hy fun e=>hff (by rw [e])
  generalize jV t x=X at *
  rcases s6 with ⟨⟨s6,s7⟩,s8,s9⟩|⟨⟨s6,s7⟩,s8,s9⟩
  · have e2:jV t f0.2.1=⟨sz a b c t 0,1,0⟩:=by unfold jV;rw [s2,s6,s7]
    have e3:jV t f0.2.2=⟨sz a b c t 0,1,1⟩:=by unfold jV;rw [s3,s8,s9]
    rw [e2] at r2
    rw [e3] at r3
    refine one_hit hg hoff hmem ?_ fun f hf hff=>?_
    · rw [r1,r2,r3,wall_det (X:=m 0 (sz a b c t 0) - m 0 X.x) rfl rfl rfl]
      refine Int.mul_ne_zero (by omega) ?_
      simp only [seeV]
      have e:(m 1 1 - m 1 X.y - (m 1 0 - m 1 X.y)) * (m 2 1 - m 2 X.z - (m 2 0 - m 2 X.z)) - (m 2 0 - m 2 X.z - (m 2 0 - m 2 X.z)) * (m 1 1 - m 1 X.y - (m 1 0 - m 1 X.y))=(m 1 1 - m 1 0) * (m 2 1 - m 2 0):=by grind
      rw [e];exact hpos
    · rw [r1,r2,r3]
      exact sep f hf hff
  · have e2:jV t f0.2.1=⟨sz a b c t 0,1,1⟩:=by unfold jV;rw [s2,s6,s7]
    have e3:jV t f0.2.2=⟨sz a b c t 0,1,0⟩:=by unfold jV;rw [s3,s8,s9]
    rw [e2] at r2
    rw [e3] at r3
    refine one_hit hg hoff hmem ?_ fun f hf hff=>?_
    · rw [r1,r2,r3,wall_det (X:=m 0 (sz a b c t 0) - m 0 X.x) rfl rfl rfl]
      refine Int.mul_ne_zero (by omega) ?_
      simp only [seeV]
      have e:(m 1 1 - m 1 X.y - (m 1 0 - m 1 X.y)) * (m 2 0 - m 2 X.z - (m 2 0 - m 2 X.z)) - (m 2 1 - m 2 X.z - (m 2 0 - m 2 X.z)) * (m 1 1 - m 1 X.y - (m 1 0 - m 1 X.y))=-((m 1 1 - m 1 0) * (m 2 1 - m 2 0)):=by grind
      rw [e];omega
    · rw [r1,r2,r3]
      obtain ⟨w,hw⟩:=sep f hf hff
      exact ⟨w,hw.swap⟩
def mono37 (d:D37) (o:Nat) (i:Int):Int:=if o=0 then nearI (8000+d.s0 * i) 100000 else if o=1 then nearI (8000+d.s1 * i) 256000 - 128000 else nearI (8000+d.s2 * i) 256000 - 128000
theorem near_mono {s:Nat} {w i j:Int} (hs:1000≤s) (hw:100000≤w) (h:i < j):nearI (8000+s * i) w < nearI (8000+s * j) w:=by
  have e:8000+(s:Int) * j=8000+(s:Int) * i+(s:Int) * (j - i):=by grind
  rw [e]
  refine near_lt ?_ hw
  have:=Int.mul_le_mul (show (1000:Int)≤(s:Int) by omega) (show 1≤j - i by omega) (by decide) (by omega)
  omega
theorem D37.mono {d:D37} (h:d.ok) (h0:d.h0=0) (h1:d.h1=0) (h2:d.h2=0):Mono d.t (phi d) (mono37 d) where
  at_:=by
    intro o ho x
    have h:o=0∨o=1∨o=2:=by omega
    unfold phi colV colorV D37.out mono37
    rw [h0,h1,h2]
    rcases h with rfl|rfl|rfl
    · simp [comp]
    · simp [comp]
    · simp [comp]
  lt:=by
    obtain ⟨_,⟨a0,_⟩,⟨a1,_⟩,⟨a2,_⟩,_⟩:=h
    intro o ho i j hij
    have h:o=0∨o=1∨o=2:=by omega
    unfold mono37
    rcases h with rfl|rfl|rfl
    · simp only [if_true];exact near_mono a0 (by decide) hij
    · have:=near_mono a1 (w:=256000) (by decide) hij
      simp only [Nat.one_ne_zero,if_false,if_true];omega
    · have:=near_mono a2 (w:=256000) (by decide) hij
      simp only [Nat.reduceEqDiff,if_false];omega
theorem node_sides {q:D37} (h:q.ok) (h0:q.h0=0) (h1:q.h1=0) (h2:q.h2=0) {a b c:Nat} (hz:Sz a b c) {i j k:Nat} (hi:i < a) (hj:j < b) (hk:k < c) {F:List V3}
    (hF:F=shellF a b c∨F=(shellF a b c).map swapF):sideW ((nodesF a b c).map (phi q)) F (phi q ⟨i,j,k⟩)=(if onI a b c i j k=true then (1,0) else (2,0)):=by
  have hst:Steps q.t (phi q):=D37.steps h
  have hfa:∀ x∈nodesF a b c,isFar (phi q x)=false:=fun x hx=>by
    obtain ⟨i,j,k,rfl,hi,hj,hk,_⟩:=node_in hx
    have:=hz.a5;have:=hz.b4;have:=hz.c4
    exact col_far (out_in h (by omega) (by omega) (by omega))
  have hg:=shell_good hz hst h.1 hfa
  have ht:=shell_turned hz hst h.1 hfa
  have hgF:Good ((nodesF a b c).map (phi q)) F:=by rcases hF with rfl|rfl;exact hg;exact ht
  have hfl:(flawM ((nodesF a b c).map (phi q)) F).1=0:=okM_good.2 hgF
  have hfar:isFar (phi q ⟨i,j,k⟩)=false:=by
    have:=hz.a5;have:=hz.b4;have:=hz.c4
    exact col_far (out_in h (by omega) (by omega) (by omega))
  have onF:onM axP ((nodesF a b c).map (phi q)) F (phi q ⟨i,j,k⟩)=onM axP ((nodesF a b c).map (phi q)) (shellF a b c) (phi q ⟨i,j,k⟩):=by
    rcases hF with rfl|rfl
    · rfl
    · exact on_turn hg ht
  unfold sideW
  rw [if_neg (fun h=>h hfl),hfar,if_neg (by decide),onF]
  by_cases hon:onI a b c i j k=true
  · rw [if_pos hon]
    have hmem:=mem_nodes hi hj hk hon
    have hu:=hz.used
    unfold usedJ at hu
    rw [List.all_eq_true] at hu
    have hu:=hu _ hmem
    rw [List.any_eq_true] at hu
    obtain ⟨y,hy,hu⟩:=hu
    simp only [Bool.or_eq_true,decide_eq_true_eq] at hu
    have hp:ptAt ((nodesF a b c).map (phi q)) (posN (nodesF a b c) ⟨i,j,k⟩:Nat)=phi q ⟨i,j,k⟩:=by
      have hp:=posN_mem (nodes_nodup a b c (a * b * c)) hmem
      rw [ptAt_map (by omega) (by have:=hp.2;exact_mod_cast this),pos_pt hmem]
    have:onM axP ((nodesF a b c).map (phi q)) (shellF a b c) (phi q ⟨i,j,k⟩)=true:=by
      refine corner_on hg (f:=posF (nodesF a b c) y) (by rw [shellN_eq];exact List.mem_map_of_mem hy) ?_
      unfold posF
      rcases hu with e|e|e
      · rw [e];exact .inl hp
      · rw [e];exact .inr (.inl hp)
      · rw [e];exact .inr (.inr hp)
    rw [this,if_pos rfl]
  · rw [if_neg hon]
    have hon':=hon
    rw [onI_iff] at hon'
    have b1:=hz.hold (t:=q.t) h.1 (by omega) (by omega) (by omega)
    have hm:=D37.mono h h0 h1 h2
    have hw:Within a b c q.t ⟨i,j,k⟩:=by
      intro o ho
      have:∀ r,r < 3→0 < comp ⟨i,j,k⟩ r∧comp (⟨i,j,k⟩:V3) r < (size3 a b c r:Int) - 1:=by
        intro r hr
        have hr:r=0∨r=1∨r=2:=by omega
        rcases hr with rfl|rfl|rfl
        · simp only [comp,size3,if_true];omega
        · simp only [comp,size3,Nat.one_ne_zero,if_false,if_true];omega
        · simp only [comp,size3,Nat.reduceEqDiff,if_false];omega
      unfold sz
      obtain ⟨⟨t0,t1,t2⟩,_⟩:=ordT_lt q.t h.1
      have ho:o=0∨o=1∨o=2:=by omega
      rcases ho with rfl|rfl|rfl
      · exact this _ t0
      · exact this _ t1
      · exact this _ t2
    have off:=off_node hz.a2 hz.b2 hz.c2 hm hg b1 hw
    have wnd:=wind_node hz.a2 hz.b2 hz.c2 hm hg b1 hw
    rw [off,if_neg (by decide)]
    refine if_pos ?_
    rcases hF with rfl|rfl
    · exact wnd
    · rw [windN_turn hg ht off];omega
theorem grid_shell2 {q:D37} (h:q.ok) {a b c:Nat} (hz:Sz a b c):∃ F,shellR [(a:Int),(b:Int),(c:Int)] 3 (gridD q a b c)=(0,(nodesF a b c).map (phi q),F)∧Good ((nodesF a b c).map (phi q)) F∧(F=shellF a b c∨F=(shellF a b c).map swapF):=by
  have hst:Steps q.t (phi q):=D37.steps h
  have hf:∀ x∈nodesF a b c,isFar (phi q x)=false:=fun x hx=>by
    obtain ⟨i,j,k,rfl,hi,hj,hk,_⟩:=node_in hx
    have:=hz.a5;have:=hz.b4;have:=hz.c4
    exact col_far (out_in h (by omega) (by omega) (by omega))
  have hg:=shell_good hz hst h.1 hf
  have ht:=shell_turned hz hst h.1 hf
  obtain ⟨l1,l2,l3⟩:=hz.len
  have e:shellR [(a:Int),(b:Int),(c:Int)] 3 (gridD q a b c)=shellM (gridD q a b c) a b c:=shellR_three rfl (grid_ok h hz)
  rw [e]
  unfold shellM
  rw [if_neg (by omega),grid_pts,if_pos (okM_good.2 hg)]
  by_cases hv:volM ((nodesF a b c).map (phi q)) (shellF a b c) < 0
  · rw [if_pos hv]
    exact ⟨_,rfl,ht,.inr rfl⟩
  · rw [if_neg hv]
    exact ⟨_,rfl,hg,.inl rfl⟩
end Go.Sx
