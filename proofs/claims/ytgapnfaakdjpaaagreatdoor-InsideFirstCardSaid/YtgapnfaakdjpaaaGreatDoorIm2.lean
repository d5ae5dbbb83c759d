/- Plain: the points of a segment ahead of its first meeting with a mesh. -/
import Derived.Test.YtgapnfaakdjpaaaGreatDoorIm1
namespace Go.Sx
open Go
variable {P F:List V3} {a b v:V3} {n i:Int}
theorem qI_le {n d k m:Int} (hd:0 < d) (hm:0 < m):qI n d≤qI k m↔n * m≤k * d:=by
  have h:=quot_le (u:=-n) (v:=d) (t:=qI k m) hd
  rw [Int.neg_neg] at h
  rw [h,half_int hm,Int.neg_mul]
  omega
def MeetF (P F:List V3) (a d:V3) (s:Rat):Prop:=∃ f∈F,HitR (relV P a f.x) (relV P a f.y) (relV P a f.z) d s
theorem ray_meet (hg:Good P F) (hab:a≠b) :
    (∀ t j,rayM metP P F a b false=some (t,j)→j < F.length∧MeetF P F a (b.sub a) t∧0≤t∧t≤1∧∀ s,MeetF P F a (b.sub a) s→0≤s→s≤1→t≤s) ∧
    (rayM metP P F a b false=none→∀ s,MeetF P F a (b.sub a) s→0≤s→s≤1→False):=by
  have hd:b.sub a≠V3.zero:=by
    intro h
    apply hab
    rw [V3.eq_iff]
    simp only [V3.sub,V3.zero,V3.mk.injEq] at h
    omega
  have hs:=firstK_spec (g:=fun f=>metP false (relV P a f.x) (relV P a f.y) (relV P a f.z) (b.sub a)) (F:=F) (k:=F.length) (Nat.le_refl _)
  have hm:=fun (f:V3) (hf:f∈F)=>met_spec false (hg.nzR a hf) hd
  refine ⟨fun t j h=>?_,fun h s hs' h0 h1=>?_⟩
  · obtain ⟨k1,⟨f,hf,hfm⟩,k3⟩:=hs.2 t j h
    have hfF:=List.mem_of_getElem? hf
    obtain ⟨q1,q2⟩:=(hm f hfF).1 t hfm
    have q3:t≤1:=by
      rcases q2.2 with q|q
      · cases q
      · exact q
    refine ⟨k1,⟨f,hfF,q1⟩,q2.1,q3,fun s hs' h0 h1=>?_⟩
    obtain ⟨f',hf',hh⟩:=hs'
    obtain ⟨u,hu,hle⟩:=(hm f' hf').2 s hh ⟨h0,.inr h1⟩
    obtain ⟨i,hi⟩:=List.getElem?_of_mem hf'
    exact Rat.le_trans (k3 i (List.getElem?_eq_some_iff.1 hi).1 f' hi u hu) hle
  · obtain ⟨f',hf',hh⟩:=hs'
    obtain ⟨u,hu,hle⟩:=(hm f' hf').2 s hh ⟨h0,.inr h1⟩
    obtain ⟨i,hi⟩:=List.getElem?_of_mem hf'
    have:=hs.1 h i (List.getElem?_eq_some_iff.1 hi).1 f' hi
    rw [hu] at this
    cases this
theorem hit_scale {x y z w:V3} {k m i n:Int} (hn:0 < n) (h:HitI x y z (V3.smul i w) k m):HitI x y z (V3.smul n w) (k * i) (m * n):=by
  obtain ⟨hm,u1,u2,u3,g1,g2,g3,hs,he⟩:=h
  refine ⟨Int.mul_pos hm hn,u1 * n,u2 * n,u3 * n,Int.mul_nonneg g1 (by omega),Int.mul_nonneg g2 (by omega),Int.mul_nonneg g3 (by omega),by rw [← hs];grind,?_⟩
  simp only [cmb3,scal,V3.smul,V3.mk.injEq] at he ⊢
  obtain ⟨h1,h2,h3⟩:=he
  refine ⟨?_,?_,?_⟩<;>grind
theorem cmb_sub (x y z:Int) (p q r w:V3):cmb3 x y z (p.sub w) (q.sub w) (r.sub w)=(cmb3 x y z p q r).sub (scal (x+y+z) w):=by
  simp only [cmb3,scal,V3.sub,V3.mk.injEq]
  refine ⟨?_,?_,?_⟩<;>grind
theorem sub_zero {p w:V3}:p.sub w=V3.zero↔p=w:=by
  obtain ⟨p1,p2,p3⟩:=p
  obtain ⟨w1,w2,w3⟩:=w
  simp only [V3.sub,V3.zero,V3.mk.injEq]
  omega
theorem on_way (hg:Good P F) (hn:0 < n):onM axP P F (a.plus (V3.smul i v))=true↔MeetF P F a (V3.smul n v) (qI i n):=by
  rw [onM_iff hg]
  have key:∀ f,OnI P (a.plus (V3.smul i v)) f↔HitR (relV P a f.x) (relV P a f.y) (relV P a f.z) (V3.smul n v) (qI i n):=fun f=>by
    unfold OnI
    rw [relV_move,relV_move,relV_move]
    simp only [cmb_sub,sub_zero]
    constructor
    · rintro ⟨x,y,z,hx,hy,hz,hs,he⟩
      refine ⟨(x+y+z) * i,(x+y+z) * n,?_,hit_scale hn ⟨hs,x,y,z,hx,hy,hz,rfl,he⟩⟩
      rw [qI_eq (by omega) (by have:=Int.mul_pos hs hn;omega)]
      grind
    · rintro ⟨k,m,hk,hm,x,y,z,hx,hy,hz,hs,he⟩
      have hki:i * m=k * n:=(qI_eq (by omega) (by omega)).1 hk
      refine ⟨x,y,z,hx,hy,hz,by omega,?_⟩
      rw [he,hs]
      simp only [scal,V3.smul,V3.mk.injEq]
      refine ⟨?_,?_,?_⟩<;>grind
  constructor
  · rintro ⟨f,hf,h⟩;exact ⟨f,hf,(key f).1 h⟩
  · rintro ⟨f,hf,h⟩;exact ⟨f,hf,(key f).2 h⟩
theorem plus_zero (a v:V3):a.plus (V3.smul 0 v)=a:=by
  simp only [V3.plus,V3.smul,Int.zero_mul,Int.add_zero]
theorem smul_ne (hn:i≠0) (hv:v≠V3.zero):V3.smul i v≠V3.zero:=by
  intro h
  apply hv
  obtain ⟨x,y,z⟩:=v
  simp only [V3.smul,V3.zero,V3.mk.injEq,Int.mul_eq_zero] at h ⊢
  omega
theorem way_side (hg:Good P F) (hn:0 < n) (hi:0≤i) (hv:v≠V3.zero) (ha:isFar a=false) (hb:isFar (a.plus (V3.smul i v))=false)
    (h:∀ s,MeetF P F a (V3.smul n v) s→0≤s→s≤qI i n→False):sideW P F (a.plus (V3.smul i v))=sideW P F a∧(sideW P F a).1≠1:=by
  have hi0:0≤qI i n:=(qI_ge_zero hn).2 hi
  have off1:onM axP P F (a.plus (V3.smul i v))=false:=by
    cases ho:onM axP P F (a.plus (V3.smul i v)) with
    | false=>rfl
    | true=>exact (h _ ((on_way hg hn).1 ho) hi0 Rat.le_refl).elim
  have off0:onM axP P F a=false:=by
    cases ho:onM axP P F a with
    | false=>rfl
    | true =>
      rw [← plus_zero a v] at ho
      exact (h _ ((on_way hg hn).1 ho) (by rw [qI_zero];exact Rat.le_refl) (by rw [qI_zero];exact hi0)).elim
  have hw:windN P F (a.plus (V3.smul i v))=windN P F a:=by
    by_cases h0:i=0
    · subst h0;rw [plus_zero]
    · obtain ⟨t,_,_,_,hf⟩:=goodT_some hg a
      obtain ⟨t',_,_,_,hf'⟩:=goodT_some hg (a.plus (V3.smul i v))
      rw [windN_eq hg off0 hf,windN_eq hg off1 hf']
      refine (seg_wind hg (smul_ne h0 hv) (fun f hfF k m hk hkm hh=>?_) hf hf').symm
      have hm:0 < m:=hh.1
      refine h (qI (k * i) (m * n)) ⟨f,hfF,_,_,rfl,hit_scale hn hh⟩ ((qI_ge_zero (Int.mul_pos hm hn)).2 (Int.mul_nonneg hk hi)) ?_
      rw [qI_le (Int.mul_pos hm hn) hn]
      have:=Int.mul_le_mul_of_nonneg_right hkm (Int.mul_nonneg hi (Int.le_of_lt hn))
      have e1:k * i * n=k * (i * n):=by grind
      have e2:i * (m * n)=m * (i * n):=by grind
      rw [e1,e2]
      exact this
  have f1:(flawM P F).1=0:=okM_good.2 hg
  unfold sideW
  rw [f1,ha,hb,off0,off1,hw]
  refine ⟨rfl,?_⟩
  simp only [ne_eq,not_true_eq_false,if_false,Bool.false_eq_true]
  split<;>decide
theorem side_on (hg:Good P F) (ha:isFar a=false):(sideW P F a).1=1↔onM axP P F a=true:=by
  have f1:(flawM P F).1=0:=okM_good.2 hg
  unfold sideW
  rw [f1,ha]
  cases onM axP P F a with
  | true=>simp
  | false =>
    simp only [ne_eq,not_true_eq_false,if_false,Bool.false_eq_true]
    split<;>simp
theorem between {x y n i:Int} (h0:0≤i) (h1:i≤n):(x≤x+i * y∧x+i * y≤x+n * y)∨(x+n * y≤x+i * y∧x+i * y≤x):=by
  rcases Int.le_total 0 y with h|h
  · have a1:=Int.mul_nonneg h0 h
    have a2:=Int.mul_le_mul_of_nonneg_right h1 h
    omega
  · have a1:=Int.mul_nonneg h0 (show 0≤-y by omega)
    have a2:=Int.mul_le_mul_of_nonneg_right h1 (show 0≤-y by omega)
    rw [Int.mul_neg] at a1
    rw [Int.mul_neg,Int.mul_neg] at a2
    omega
theorem far_between (ha:isFar a=false) (hb:isFar (a.plus (V3.smul n v))=false) (h0:0≤i) (h1:i≤n):isFar (a.plus (V3.smul i v))=false:=by
  have b1:=between (x:=a.x) (y:=v.x) h0 h1
  have b2:=between (x:=a.y) (y:=v.y) h0 h1
  have b3:=between (x:=a.z) (y:=v.z) h0 h1
  rw [isFar_no] at ha hb ⊢
  simp only [V3.plus,V3.smul] at hb ⊢
  omega
theorem way_sub (a v:V3) (n:Int):(a.plus (V3.smul n v)).sub a=V3.smul n v:=by
  simp only [V3.sub,V3.plus,V3.smul,V3.mk.injEq]
  omega
theorem first_at (hg:Good P F) (hn:0 < n) (h0:0≤i) (h1:i≤n) (ha:isFar a=false) (hb:isFar (a.plus (V3.smul n v))=false) (hab:a≠a.plus (V3.smul n v)) :
    (sideW P F (a.plus (V3.smul i v))).2=0 ∧
    (rayM metP P F a (a.plus (V3.smul n v)) false=none→sideW P F (a.plus (V3.smul i v))=sideW P F a∧(sideW P F a).1≠1) ∧
    (∀ t j,rayM metP P F a (a.plus (V3.smul n v)) false=some (t,j)→(qI i n < t→sideW P F (a.plus (V3.smul i v))=sideW P F a∧(sideW P F a).1≠1)∧(qI i n=t→(sideW P F (a.plus (V3.smul i v))).1=1)):=by
  have hv:v≠V3.zero:=by
    rintro rfl
    apply hab
    simp [V3.plus,V3.smul,V3.zero]
  have hf:=far_between (i:=i) ha hb h0 h1
  have hle:qI i n≤1:=(qI_le_one hn).2 h1
  have f1:(flawM P F).1=0:=okM_good.2 hg
  obtain ⟨r1,r2⟩:=ray_meet hg hab
  rw [way_sub] at r1 r2
  refine ⟨?_,fun h=>?_,fun t j h=>⟨fun hlt=>?_,fun he=>?_⟩⟩
  · unfold sideW
    rw [f1,hf]
    simp only [ne_eq,not_true_eq_false,if_false,Bool.false_eq_true]
    split
    · rfl
    · split<;>rfl
  · exact way_side hg hn h0 hv ha hf fun s hs k0 k1=>r2 h s hs k0 (Rat.le_trans k1 hle)
  · obtain ⟨_,_,_,_,hmin⟩:=r1 t j h
    exact way_side hg hn h0 hv ha hf fun s hs k0 k1=>Rat.not_lt.2 (Rat.le_trans (hmin s hs k0 (Rat.le_trans k1 hle)) k1) hlt
  · obtain ⟨_,hm,_,_,_⟩:=r1 t j h
    rw [side_on hg hf,on_way hg hn,he]
    exact hm
theorem first_zero (hg:Good P F) (hn:0 < n) (ha:isFar a=false) (hab:a≠a.plus (V3.smul n v)) :
    (sideW P F a).1=1↔∃ j,rayM metP P F a (a.plus (V3.smul n v)) false=some (0,j):=by
  obtain ⟨r1,r2⟩:=ray_meet hg hab
  rw [way_sub] at r1 r2
  have h01:(0:Rat)≤1:=by decide
  rw [side_on hg ha]
  have key:=on_way (P:=P) (F:=F) (a:=a) (v:=v) (i:=0) hg hn
  rw [plus_zero,qI_zero] at key
  rw [key]
  constructor
  · intro hm
    cases hr:rayM metP P F a (a.plus (V3.smul n v)) false with
    | none=>exact (r2 hr 0 hm Rat.le_refl h01).elim
    | some q =>
      obtain ⟨t,j⟩:=q
      obtain ⟨_,_,k0,_,hmin⟩:=r1 t j hr
      exact ⟨j,by rw [Rat.le_antisymm (hmin 0 hm Rat.le_refl h01) k0]⟩
  · rintro ⟨j,h⟩
    exact (r1 0 j h).2.1
end Go.Sx
