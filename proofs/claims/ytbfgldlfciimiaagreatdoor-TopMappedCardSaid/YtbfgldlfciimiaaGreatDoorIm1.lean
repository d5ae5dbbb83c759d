/- Plain: a mesh whose corners all lie on one side of a plane through a point does not wind round the point; a tetrahedron and a point, by the signs of four determinants. -/
import Derived.Test.YtbfgldlfciimiaaGreatDoorIw1
import Derived.Test.YtbfgldlfciimiaaGreatDoorPl
import Derived.Test.YtbfgldlfciimiaaGreatDoorMq1
set_option maxHeartbeats 1000000
namespace Go.Sx
open Go
theorem Zq8 (d a b:V3):det3 (V3.smul (-1) d) a b=- det3 d a b:=by
 simp only [det3,V3.dot,V3.cross,V3.smul];grind
def HalfF (P F:List V3) (p n:V3):Prop:=∀ f∈F,0 < n.dot (relV P p f.x)∧0 < n.dot (relV P p f.y)∧0 < n.dot (relV P p f.z)
theorem Zxz {P F:List V3} (hg:Good P F) {p n:V3} (h:HalfF P F p n):onM axP P F p=false:=by
 cases ho:onM axP P F p with
 | false=>rfl
 | true =>
  obtain ⟨f,hf,x,y,z,hx,hy,hz,hs,he⟩:=(Zd6 hg).1 ho
  obtain ⟨h1,h2,h3⟩:=h f hf
  exfalso
  generalize relV P p f.x=a at *
  generalize relV P p f.y=b at *
  generalize relV P p f.z=c at *
  have e:x * n.dot a+y * n.dot b+z * n.dot c=0:=by
   simp only [cmb3,V3.zero,V3.mk.injEq] at he
   simp only [V3.dot]
   grind
  have k1:=Int.mul_nonneg hx (Int.le_of_lt h1)
  have k2:=Int.mul_nonneg hy (Int.le_of_lt h2)
  have k3:=Int.mul_nonneg hz (Int.le_of_lt h3)
  rcases Int.lt_or_eq_of_le hx with q|q
  ·have:=Int.mul_pos q h1;omega
  rcases Int.lt_or_eq_of_le hy with q'|q'
  ·have:=Int.mul_pos q' h2;omega
  have q'':0 < z:=by omega
  have:=Int.mul_pos q'' h3;omega
theorem Z7p {a b c d n:V3} (h1:0 < n.dot a) (h2:0 < n.dot b) (h3:0 < n.dot c) (hd:n.dot d≤0):hit3 d a b c=0:=by
 unfold hit3 hitS
 refine if_neg ?_
 rintro ⟨hD,s1,s2,s3⟩
 have e:det3 a b c * n.dot d=det3 d b c * n.dot a+det3 d c a * n.dot b+det3 d a b * n.dot c:=by
  simp only [det3,V3.dot,V3.cross];grind
 rcases Int.lt_or_gt_of_ne hD with q|q
 ·have g:(det3 a b c).sign=-1:=Int.sign_eq_neg_one_of_neg q
  rw [g] at s1 s2 s3
  have t1:=Int.mul_neg_of_neg_of_pos (Int.neg_of_sign_eq_neg_one s1) h1
  have t2:=Int.mul_neg_of_neg_of_pos (Int.neg_of_sign_eq_neg_one s2) h2
  have t3:=Int.mul_neg_of_neg_of_pos (Int.neg_of_sign_eq_neg_one s3) h3
  have t4:=Int.mul_nonneg_of_nonpos_of_nonpos (Int.le_of_lt q) hd
  omega
 ·have g:(det3 a b c).sign=1:=Int.sign_eq_one_of_pos q
  rw [g] at s1 s2 s3
  have t1:=Int.mul_pos (Int.pos_of_sign_eq_one s1) h1
  have t2:=Int.mul_pos (Int.pos_of_sign_eq_one s2) h2
  have t3:=Int.mul_pos (Int.pos_of_sign_eq_one s3) h3
  have t4:=Int.mul_nonpos_of_nonneg_of_nonpos (Int.le_of_lt q) hd
  omega
theorem Ztl {g:V3→Int}:∀ (F:List V3),(∀ f∈F,g f=0)→∀ s,F.foldl (fun s f=>s+g f) s=s
 | [],_,s=>rfl
 | f::F,h,s=>by
  rw [List.foldl_cons,h f List.mem_cons_self,Int.add_zero]
  exact Ztl F (fun x hx=>h x (List.mem_cons_of_mem _ hx)) s
theorem Ztd {P F:List V3} (hg:Good P F) {p n:V3} (h:HalfF P F p n):windN P F p=0:=by
 obtain ⟨t,_,_,_,hf⟩:=Zcc hg p
 obtain ⟨d,hd,hfd⟩:∃ d,n.dot d≤0∧Fine P F p d:=by
  by_cases hq:n.dot (dirT t)≤0
  ·exact ⟨_,hq,hf⟩
  ·refine ⟨V3.smul (-1) (dirT t),?_,?_⟩
   ·have e:n.dot (V3.smul (-1) (dirT t))=- n.dot (dirT t):=by simp only [V3.dot,V3.smul];grind
    omega
   ·intro f hfF hD
    obtain ⟨k1,k2,k3⟩:=hf f hfF hD
    rw [Zq8,Zq8,Zq8]
    exact ⟨by omega,by omega,by omega⟩
 rw [Zcx hg (Zxz hg h) hfd]
 unfold windM
 refine Ztl F (fun f hfF=>?_) 0
 obtain ⟨h1,h2,h3⟩:=h f hfF
 exact Z7p h1 h2 h3 hd
/-! the tetrahedron -/
variable {a b c e p:V3}
end Go.Sx
namespace Go.Sx
open Go
variable {P P' F:List V3} {p p':V3}
structure Like (P F P':List V3) (p p':V3) (φ:V3→V3):Prop where
 hdet:∀ a b c,det3 (φ a) (φ b) (φ c)=det3 a b c
 hc:∀ x y z a b c,cmb3 x y z (φ a) (φ b) (φ c)=φ (cmb3 x y z a b c)
 hz:∀ v,φ v=V3.zero↔v=V3.zero
 hr:∀ f∈F,relV P' p' f.x=φ (relV P p f.x)∧relV P' p' f.y=φ (relV P p f.y)∧relV P' p' f.z=φ (relV P p f.z)
theorem Like.on {φ:V3→V3} (h:Like P F P' p p' φ) (hg:Good P F) (hg':Good P' F):onM axP P' F p'=onM axP P F p:=by
 rw [Bool.eq_iff_iff,Zd6 hg',Zd6 hg]
 have key:∀ f∈F,(OnI P' p' f↔OnI P p f):=fun f hf=>by
  obtain ⟨e1,e2,e3⟩:=h.hr f hf
  unfold OnI
  rw [e1,e2,e3]
  simp only [h.hc,h.hz]
 constructor
 ·rintro ⟨f,hf,k⟩;exact ⟨f,hf,(key f hf).1 k⟩
 ·rintro ⟨f,hf,k⟩;exact ⟨f,hf,(key f hf).2 k⟩
theorem Like.wind {φ:V3→V3} (h:Like P F P' p p' φ) (hg:Good P F) (hg':Good P' F) (ho:onM axP P F p=false):windN P' F p'=windN P F p:=by
 obtain ⟨t,_,_,_,hf⟩:=Zcc hg p
 have hf':Fine P' F p' (φ (dirT t)):=fun f hfF h0=>by
  obtain ⟨e1,e2,e3⟩:=h.hr f hfF
  rw [e1,e2,e3,h.hdet] at h0
  rw [e1,e2,e3,h.hdet,h.hdet,h.hdet]
  exact hf f hfF h0
 rw [Zcx hg ho hf,Zcx hg' (by rw [h.on hg hg'];exact ho) hf']
 unfold windM
 refine Zfs F 0 fun f hf=>?_
 obtain ⟨e1,e2,e3⟩:=h.hr f hf
 unfold hitF hit3
 rw [e1,e2,e3,h.hdet,h.hdet,h.hdet,h.hdet]
theorem Like.side {φ:V3→V3} (h:Like P F P' p p' φ) (hg:Good P F) (hg':Good P' F) (hp:isFar p=false) (hp':isFar p'=false):sideW P' F p'=sideW P F p∧wndW P' F p'=wndW P F p:=by
 have f1:(flawM P F).1=0:=Yft.2 hg
 have f2:(flawM P' F).1=0:=Yft.2 hg'
 have ho:=h.on hg hg'
 unfold sideW wndW
 rw [f1,f2,hp,hp',ho]
 cases hq:onM axP P F p with
 | true=>exact ⟨rfl,rfl⟩
 | false=>rw [h.wind hg hg' hq];exact ⟨rfl,rfl⟩
theorem Zit (hg:Good P F) {f:V3} (hf:f∈F):(0≤f.x∧f.x < P.length)∧(0≤f.y∧f.y < P.length)∧(0≤f.z∧f.z < P.length):=by
 have h:=List.findIdx?_eq_none_iff.1 hg.wrong f hf
 simp only [isWrong,Bool.or_eq_false_iff,decide_eq_false_iff_not] at h
 omega
def cyc (v:V3):V3:=⟨v.y,v.z,v.x⟩
theorem Ybh (p:V3):isFar (cyc p)=isFar p:=by
 rw [Bool.eq_iff_iff,Zms,Zms]
 simp only [cyc]
 omega
theorem Z4b (a b:V3):(cyc a).cross (cyc b)=cyc (a.cross b):=by
 simp only [V3.cross,cyc]
theorem Z1o (a b:V3):(cyc a).sub (cyc b)=cyc (a.sub b):=rfl
theorem Ygm (hg:Good P F):Good (P.map Sx.cyc) F where
 p4:=by rw [List.length_map];exact hg.p4
 p300:=by rw [List.length_map];exact hg.p300
 f4:=hg.f4
 f600:=hg.f600
 far:=List.findIdx?_eq_none_iff.2 fun q hq=>by
  obtain ⟨r,hr,rfl⟩:=List.mem_map.1 hq
  rw [Ybh]
  exact List.findIdx?_eq_none_iff.1 hg.far r hr
 wrong:=by rw [List.length_map];exact hg.wrong
 flat:=List.findIdx?_eq_none_iff.2 fun f hf=>by
  obtain ⟨h1,h2,h3⟩:=Zit hg hf
  have h:=List.findIdx?_eq_none_iff.1 hg.flat f hf
  simp only [isFlat,decide_eq_false_iff_not] at h ⊢
  intro k
  apply h
  unfold normal at k ⊢
  rw [Zbk h1.1 h1.2,Zbk h2.1 h2.2,Zbk h3.1 h3.2,Z1o,Z1o,Z4b] at k
  generalize ((ptAt P f.y).sub (ptAt P f.x)).cross ((ptAt P f.z).sub (ptAt P f.x))=n at k ⊢
  obtain ⟨x,y,z⟩:=n
  simp only [Sx.cyc,V3.zero,V3.mk.injEq] at k ⊢
  omega
 twice:=hg.twice
 opn:=hg.opn
 spare:=by rw [List.length_map];exact hg.spare
 apart:=hg.apart
theorem Z7m (d a b c:V3):hit3 d a c b=- hit3 d a b c:=by
 unfold hit3
 rw [Zbq a b c,Zbq d b c,Zbq d a b,Zbq d c a]
 unfold hitS
 simp only [Int.sign_neg]
 by_cases h:det3 a b c≠0∧(det3 d b c).sign=(det3 a b c).sign∧(det3 d c a).sign=(det3 a b c).sign∧(det3 d a b).sign=(det3 a b c).sign
 ·rw [if_pos h,if_pos (by omega)]
 ·rw [if_neg h,if_neg (by omega)];rfl
theorem Ztm {g h:V3→Int} (k:∀ f,g (swapF f)=- h f):∀ (F:List V3) (s:Int),(F.map swapF).foldl (fun s f=>s+g f) (-s)=- F.foldl (fun s f=>s+h f) s
 | [],s=>rfl
 | f::F,s=>by
  rw [List.map_cons,List.foldl_cons,List.foldl_cons,k,← Int.neg_add,Ztm k F]
theorem Z09 (P F:List V3) (p d:V3):windM P (F.map swapF) p d=- windM P F p d :=
 Ztm (g:=hitF P p d) (h:=hitF P p d) (fun _=>Z7m d _ _ _) F 0
theorem Zmh (hg:Good P F) (hg':Good P (F.map swapF)):onM axP P (F.map swapF) p=onM axP P F p:=by
 rw [Bool.eq_iff_iff,Zd6 hg',Zd6 hg]
 have key:∀ f,OnI P p f→OnI P p (swapF f):=fun f=>by
  rintro ⟨x,y,z,hx,hy,hz,hs,he⟩
  refine ⟨x,z,y,hx,hz,hy,by omega,?_⟩
  rw [← he]
  simp only [cmb3,swapF,V3.mk.injEq]
  omega
 constructor
 ·rintro ⟨f,hf,k⟩
  obtain ⟨g,hg,rfl⟩:=List.mem_map.1 hf
  exact ⟨g,hg,key _ k⟩
 ·rintro ⟨f,hf,k⟩;exact ⟨swapF f,List.mem_map.2 ⟨f,hf,rfl⟩,key f k⟩
theorem Zjv (hg:Good P F) (hg':Good P (F.map swapF)) (ho:onM axP P F p=false):windN P (F.map swapF) p=- windN P F p:=by
 obtain ⟨t,_,_,_,hf⟩:=Zcc hg p
 have hf':Fine P (F.map swapF) p (dirT t):=fun f hfF h0=>by
  obtain ⟨g,hgF,rfl⟩:=List.mem_map.1 hfF
  have h0':det3 (relV P p g.x) (relV P p g.y) (relV P p g.z)≠0:=by
   have:det3 (relV P p g.x) (relV P p g.z) (relV P p g.y)=- det3 (relV P p g.x) (relV P p g.y) (relV P p g.z):=Zbq _ _ _
   have h0:det3 (relV P p g.x) (relV P p g.z) (relV P p g.y)≠0:=h0
   omega
  obtain ⟨k1,k2,k3⟩:=hf g hgF h0'
  show det3 (dirT t) (relV P p g.x) (relV P p g.z)≠0∧det3 (dirT t) (relV P p g.z) (relV P p g.y)≠0∧det3 (dirT t) (relV P p g.y) (relV P p g.x)≠0
  have q1:=Zbq (dirT t) (relV P p g.x) (relV P p g.y)
  have q2:=Zbq (dirT t) (relV P p g.y) (relV P p g.z)
  have q3:=Zbq (dirT t) (relV P p g.z) (relV P p g.x)
  omega
 rw [Zcx hg ho hf,Zcx hg' (by rw [Zmh hg hg'];exact ho) hf',Z09]
end Go.Sx
namespace Go.Sx
open Go
variable {P F:List V3} {a b v:V3} {n i:Int}
theorem Yal {n d k m:Int} (hd:0 < d) (hm:0 < m):qI n d≤qI k m↔n * m≤k * d:=by
 have h:=Zu5 (u:=-n) (v:=d) (t:=qI k m) hd
 rw [Int.neg_neg] at h
 rw [h,Zx0 hm,Int.neg_mul]
 omega
def MeetF (P F:List V3) (a d:V3) (s:Rat):Prop:=∃ f∈F,HitR (relV P a f.x) (relV P a f.y) (relV P a f.z) d s
theorem Zi4 (hg:Good P F) (hab:a≠b) :
  (∀ t j,rayM metP P F a b false=some (t,j)→j < F.length∧MeetF P F a (b.sub a) t∧0≤t∧t≤1∧∀ s,MeetF P F a (b.sub a) s→0≤s→s≤1→t≤s) ∧
  (rayM metP P F a b false=none→∀ s,MeetF P F a (b.sub a) s→0≤s→s≤1→False):=by
 have hd:b.sub a≠V3.zero:=by
  intro h
  apply hab
  rw [Zcm]
  simp only [V3.sub,V3.zero,V3.mk.injEq] at h
  omega
 have hs:=Zdq (g:=fun f=>metP false (relV P a f.x) (relV P a f.y) (relV P a f.z) (b.sub a)) (F:=F) (k:=F.length) (Nat.le_refl _)
 have hm:=fun (f:V3) (hf:f∈F)=>Zlk false (hg.nzR a hf) hd
 refine ⟨fun t j h=>?_,fun h s hs' h0 h1=>?_⟩
 ·obtain ⟨k1,⟨f,hf,hfm⟩,k3⟩:=hs.2 t j h
  have hfF:=List.mem_of_getElem? hf
  obtain ⟨q1,q2⟩:=(hm f hfF).1 t hfm
  have q3:t≤1:=by
   rcases q2.2 with q|q
   ·cases q
   ·exact q
  refine ⟨k1,⟨f,hfF,q1⟩,q2.1,q3,fun s hs' h0 h1=>?_⟩
  obtain ⟨f',hf',hh⟩:=hs'
  obtain ⟨u,hu,hle⟩:=(hm f' hf').2 s hh ⟨h0,.inr h1⟩
  obtain ⟨i,hi⟩:=List.getElem?_of_mem hf'
  exact Rat.le_trans (k3 i (List.getElem?_eq_some_iff.1 hi).1 f' hi u hu) hle
 ·obtain ⟨f',hf',hh⟩:=hs'
  obtain ⟨u,hu,hle⟩:=(hm f' hf').2 s hh ⟨h0,.inr h1⟩
  obtain ⟨i,hi⟩:=List.getElem?_of_mem hf'
  have:=hs.1 h i (List.getElem?_eq_some_iff.1 hi).1 f' hi
  rw [hu] at this
  cases this
theorem Zg3 {x y z w:V3} {k m i n:Int} (hn:0 < n) (h:HitI x y z (V3.smul i w) k m):HitI x y z (V3.smul n w) (k * i) (m * n):=by
 obtain ⟨hm,u1,u2,u3,g1,g2,g3,hs,he⟩:=h
 refine ⟨Int.mul_pos hm hn,u1 * n,u2 * n,u3 * n,Int.mul_nonneg g1 (by omega),Int.mul_nonneg g2 (by omega),Int.mul_nonneg g3 (by omega),by rw [← hs];grind,?_⟩
 simp only [cmb3,scal,V3.smul,V3.mk.injEq] at he ⊢
 obtain ⟨h1,h2,h3⟩:=he
 refine ⟨?_,?_,?_⟩<;>grind
theorem Ybs (x y z:Int) (p q r w:V3):cmb3 x y z (p.sub w) (q.sub w) (r.sub w)=(cmb3 x y z p q r).sub (scal (x+y+z) w):=by
 simp only [cmb3,scal,V3.sub,V3.mk.injEq]
 refine ⟨?_,?_,?_⟩<;>grind
theorem sub_zero {p w:V3}:p.sub w=V3.zero↔p=w:=by
 obtain ⟨p1,p2,p3⟩:=p
 obtain ⟨w1,w2,w3⟩:=w
 simp only [V3.sub,V3.zero,V3.mk.injEq]
 omega
theorem Zou (hg:Good P F) (hn:0 < n):onM axP P F (a.plus (V3.smul i v))=true↔MeetF P F a (V3.smul n v) (qI i n):=by
 rw [Zd6 hg]
 have key:∀ f,OnI P (a.plus (V3.smul i v)) f↔HitR (relV P a f.x) (relV P a f.y) (relV P a f.z) (V3.smul n v) (qI i n):=fun f=>by
  unfold OnI
  rw [Zch,Zch,Zch]
  simp only [Ybs,sub_zero]
  constructor
  ·rintro ⟨x,y,z,hx,hy,hz,hs,he⟩
   refine ⟨(x+y+z) * i,(x+y+z) * n,?_,Zg3 hn ⟨hs,x,y,z,hx,hy,hz,rfl,he⟩⟩
   rw [Zqa (by omega) (by have:=Int.mul_pos hs hn;omega)]
   grind
  ·rintro ⟨k,m,hk,hm,x,y,z,hx,hy,hz,hs,he⟩
   have hki:i * m=k * n:=(Zqa (by omega) (by omega)).1 hk
   refine ⟨x,y,z,hx,hy,hz,by omega,?_⟩
   rw [he,hs]
   simp only [scal,V3.smul,V3.mk.injEq]
   refine ⟨?_,?_,?_⟩<;>grind
 constructor
 ·rintro ⟨f,hf,h⟩;exact ⟨f,hf,(key f).1 h⟩
 ·rintro ⟨f,hf,h⟩;exact ⟨f,hf,(key f).2 h⟩
theorem Zi6 (a v:V3):a.plus (V3.smul 0 v)=a:=by
 simp only [V3.plus,V3.smul,Int.zero_mul,Int.add_zero]
theorem Zut (hn:i≠0) (hv:v≠V3.zero):V3.smul i v≠V3.zero:=by
 intro h
 apply hv
 obtain ⟨x,y,z⟩:=v
 simp only [V3.smul,V3.zero,V3.mk.injEq,Int.mul_eq_zero] at h ⊢
 omega
theorem Zpu (hg:Good P F) (hn:0 < n) (hi:0≤i) (hv:v≠V3.zero) (ha:isFar a=false) (hb:isFar (a.plus (V3.smul i v))=false)
  (h:∀ s,MeetF P F a (V3.smul n v) s→0≤s→s≤qI i n→False):sideW P F (a.plus (V3.smul i v))=sideW P F a∧(sideW P F a).1≠1:=by
 have hi0:0≤qI i n:=(Zfo hn).2 hi
 have off1:onM axP P F (a.plus (V3.smul i v))=false:=by
  cases ho:onM axP P F (a.plus (V3.smul i v)) with
  | false=>rfl
  | true=>exact (h _ ((Zou hg hn).1 ho) hi0 Rat.le_refl).elim
 have off0:onM axP P F a=false:=by
  cases ho:onM axP P F a with
  | false=>rfl
  | true =>
   rw [← Zi6 a v] at ho
   exact (h _ ((Zou hg hn).1 ho) (by rw [Zer];exact Rat.le_refl) (by rw [Zer];exact hi0)).elim
 have hw:windN P F (a.plus (V3.smul i v))=windN P F a:=by
  by_cases h0:i=0
  ·subst h0;rw [Zi6]
  ·obtain ⟨t,_,_,_,hf⟩:=Zcc hg a
   obtain ⟨t',_,_,_,hf'⟩:=Zcc hg (a.plus (V3.smul i v))
   rw [Zcx hg off0 hf,Zcx hg off1 hf']
   refine (Zw8 hg (Zut h0 hv) (fun f hfF k m hk hkm hh=>?_) hf hf').symm
   have hm:0 < m:=hh.1
   refine h (qI (k * i) (m * n)) ⟨f,hfF,_,_,rfl,Zg3 hn hh⟩ ((Zfo (Int.mul_pos hm hn)).2 (Int.mul_nonneg hk hi)) ?_
   rw [Yal (Int.mul_pos hm hn) hn]
   have:=Int.mul_le_mul_of_nonneg_right hkm (Int.mul_nonneg hi (Int.le_of_lt hn))
   have e1:k * i * n=k * (i * n):=by grind
   have e2:i * (m * n)=m * (i * n):=by grind
   rw [e1,e2]
   exact this
 have f1:(flawM P F).1=0:=Yft.2 hg
 unfold sideW
 rw [f1,ha,hb,off0,off1,hw]
 refine ⟨rfl,?_⟩
 simp only [ne_eq,not_true_eq_false,if_false,Bool.false_eq_true]
 split<;>decide
theorem Zri {x y n i:Int} (h0:0≤i) (h1:i≤n):(x≤x+i * y∧x+i * y≤x+n * y)∨(x+n * y≤x+i * y∧x+i * y≤x):=by
 rcases Int.le_total 0 y with h|h
 ·have a1:=Int.mul_nonneg h0 h
  have a2:=Int.mul_le_mul_of_nonneg_right h1 h
  omega
 ·have a1:=Int.mul_nonneg h0 (show 0≤-y by omega)
  have a2:=Int.mul_le_mul_of_nonneg_right h1 (show 0≤-y by omega)
  rw [Int.mul_neg] at a1
  rw [Int.mul_neg,Int.mul_neg] at a2
  omega
end Go.Sx
