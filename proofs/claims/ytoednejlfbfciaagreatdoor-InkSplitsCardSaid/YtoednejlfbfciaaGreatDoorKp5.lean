/- Plain: how long a curve's numbers are at the greys; what Split makes. -/
import Derived.Test.YtoednejlfbfciaaGreatDoorKp4
set_option maxHeartbeats 1000000
namespace Go.Sx
open Go
theorem Zdk {z:Int} {d k:Nat} (hk:0 < k) (h0:d≠0) (h1:z.natAbs < 10 ^ k) (h2:d < 10 ^ k):Fit k (mkRat z d):=by
 obtain ⟨e1,e2⟩:=Zd1 (n:=z) h0
 refine Fit.of hk ?_ ?_
 ·rw [e1];exact Nat.lt_of_le_of_lt (Int.natAbs_ediv_le_natAbs _ _) h1
 ·rw [e2];exact Nat.lt_of_le_of_lt (Nat.div_le_self _ _) h2
theorem Zap {z:Int} {k:Nat} (hk:0 < k) (h:z.natAbs < 10 ^ k):Fit k (z:Rat):=by
 refine Fit.of hk ?_ ?_
 ·rw [Rat.num_intCast];exact h
 ·rw [Rat.den_intCast];exact Nat.one_lt_pow (by omega) (by decide)
theorem Zky {g:Int} (h0:0≤g) (h1:g≤10000):Fit 5 (mkRat g 10000):=Zdk (by decide) (by decide) (by omega) (by decide)
theorem Zif {g:Int} (h0:0≤g) (h1:g≤10000):0≤mkRat g 10000∧mkRat g 10000≤1:=by
 have e:mkRat g 10000=(g:Rat) * (10000:Rat)⁻¹:=by
  rw [Rat.mkRat_eq_div]
  have h:((10000:Nat):Rat)=10000:=rfl
  rw [h,Rat.div_def]
 have k0:(0:Rat)≤(10000:Rat)⁻¹:=by decide +kernel
 have k1:(10000:Rat) * (10000:Rat)⁻¹=1:=by decide +kernel
 rw [e]
 refine ⟨Rat.mul_nonneg (Rat.intCast_nonneg.2 h0) k0,?_⟩
 have:=Rat.mul_le_mul_of_nonneg_right ((Rat.intCast_le_intCast (b:=10000)).2 h1) k0
 rw [show ((10000:Int):Rat)=10000 from rfl,k1] at this
 exact this
theorem Zgo {g:Int} (h0:0≤g) (h1:g≤10000):clampQ (mkRat g 10000)=mkRat g 10000:=Zrh (Zif h0 h1).1 (Zif h0 h1).2
theorem Zkf {s:Seg} (hs:s.fine) {g:Int} (h0:0≤g) (h1:g≤10000):Fit 13 (segW s (mkRat g 10000)):=by
 obtain ⟨⟨a1,a2⟩,⟨b1,b2⟩,_⟩:=hs
 rw [Zsi]
 refine Zdk (by decide) (by decide) ?_ (by decide)
 have l1:s.mul * g≤100000000 * 10000:=by
  have:=Int.mul_le_mul_of_nonneg_right a2 h0
  omega
 have l2:-(100000000 * 10000)≤s.mul * g:=by
  have:=Int.mul_le_mul_of_nonneg_right a1 h0
  omega
 generalize s.mul * g=m at *
 omega
theorem Zpd {s:Seg} (hs:s.fine) {g:Int} (h0:0≤g) (h1:g≤10000):Fit 13 (segU s (mkRat g 10000)):=by
 unfold segU
 split
 ·exact Fit.mono (k:=1) (Fit.of (by decide) (by decide) (by decide)) (by decide)
 ·exact Zkf hs h0 h1
theorem Zkh {s:Seg} (hs:s.fine) {g:Int} (h0:0≤g) (h1:g≤10000) {n:Nat} (hn:n≤36):Fit 469 (segU s (mkRat g 10000) ^ n):=((Zpd hs h0 h1).pow n).mono (by omega)
theorem Zs5 {s:Seg} (hs:s.fine):Fit 9 (mkRat s.off 1000000):=by
 obtain ⟨_,_,⟨c1,c2⟩,_⟩:=hs
 exact Zdk (by decide) (by decide) (by omega) (by decide)
theorem Zkg {s:Seg} (hs:s.fine) {g:Int} (h0:0≤g) (h1:g≤10000) {n:Nat} (hn:n≤36):Fit 479 (segU s (mkRat g 10000) ^ n+mkRat s.off 1000000):=((Zkh hs h0 h1 hn).add (Zs5 hs)).mono (by decide)
theorem Zmx {x:Rat} {k:Nat} (hx:Fit k x):Fit k (clampQ x):=by
 unfold clampQ
 split
 ·exact Fit.mono (k:=1) (Fit.of (by decide) (by decide) (by decide)) hx.pos
 ·split
  ·exact Fit.mono (k:=1) (Fit.of (by decide) (by decide) (by decide)) hx.pos
  ·exact hx
theorem Zka {l:List Int} {x:Rat} {k:Nat} (hx:Fit k x) (hl:2≤l.length∧l.length≤17):Fit (k+2) (tabP l x):=hx.mul (Zap (by decide) (by omega))
theorem Zkb {l:List Int} {x:Rat} {k:Nat} (hx:Fit k x) (hl:2≤l.length∧l.length≤17) (hv:∀ v∈l,0≤v∧v≤65535) :
  Fit (k+5) (tabP l x - (tabI l x:Rat))∧Fit (k+10) (((tabB l x - tabA l x:Int):Rat) * (tabP l x - (tabI l x:Rat)))∧Fit (k+16) ((tabA l x:Rat)+((tabB l x - tabA l x:Int):Rat) * (tabP l x - (tabI l x:Rat)))∧Fit (k+21) (tabQ l x):=by
 obtain ⟨i0,i1⟩:=Zgg (x:=x) hl.1
 have hA:0≤tabA l x∧tabA l x≤65535:=by
  unfold tabA
  rw [List.getElem?_eq_getElem (by omega)]
  exact hv _ (List.getElem_mem _)
 have hB:0≤tabB l x∧tabB l x≤65535:=by
  unfold tabB
  rw [List.getElem?_eq_getElem (by omega)]
  exact hv _ (List.getElem_mem _)
 have f1:Fit (k+5) (tabP l x - (tabI l x:Rat)):=((Zka hx hl).sub (Zap (z:=tabI l x) (k:=2) (by decide) (by omega))).mono (by omega)
 have f2:Fit (k+10) (((tabB l x - tabA l x:Int):Rat) * (tabP l x - (tabI l x:Rat))):=((Zap (z:=tabB l x - tabA l x) (k:=5) (by decide) (by omega)).mul f1).mono (by omega)
 have f3:Fit (k+16) ((tabA l x:Rat)+((tabB l x - tabA l x:Int):Rat) * (tabP l x - (tabI l x:Rat))):=((Zap (z:=tabA l x) (k:=5) (by decide) (by omega)).add f2).mono (by omega)
 have f4:Fit (k+21) (tabQ l x):=(f3.mul (Fit.inv (Fit.of (k:=5) (r:=(65535:Rat)) (by decide) (by decide) (by decide)))).mono (by omega)
 exact ⟨f1,f2,f3,f4⟩
def blackI (c:Crv) (g:Int):Int:=match crvQ c (mkRat g 10000) with|.inl _=>0|.inr y=>Go.Proofs.YtoednejlfbfciaaGreatDoor.Q.nearQ y 10000
theorem Zio {c:Crv} (hc:c.ok) (he:c.exact) (g:Int):0≤blackI c g∧blackI c g≤10000:=by
 obtain ⟨y,h,y0,y1⟩:=Zxt hc he (mkRat g 10000)
 unfold blackI
 rw [h]
 exact Zp4 (k:=10000) y0 y1
theorem Zoj {g:Int} (h0:0≤g) (h1:g≤10000):blackI ⟨1,[],[]⟩ g=g:=by
 unfold blackI crvQ
 rw [if_pos rfl,Zgo h0 h1]
 exact Zwt
theorem Zok (g:Int):blackI ⟨2,[0,0],[]⟩ g=0:=by
 unfold blackI crvQ
 rw [if_neg (by decide),if_pos rfl,Zvl]
 simp only
 decide +kernel
def rulesE (c:Crv) (n:Int):Int:=if ¬ c.ok then 90 else if ¬ c.exact∨n < 10000∨40000 < n then 390 else 0
def in3 (c m y:Int):Prop:=(0≤c∧c≤10000)∧(0≤m∧m≤10000)∧(0≤y∧y≤10000)
instance (c m y:Int):Decidable (in3 c m y):=by unfold in3;infer_instance
def splitW (c m y:Int) (r:Crv) (n:Int):Int ⊕ Ink:=if ¬ in3 c m y then .inl 2 else if rulesE r n≠0 then .inl (rulesE r n) else .inr (splitI c m y (blackI r (greyI c m y)) n)
theorem Zkk {c:Crv} {n:Int} (h:rulesE c n=0):c.ok∧c.exact∧10000≤n∧n≤40000:=by
 unfold rulesE at h
 split at h
 ·cases h
 ·rename_i h1
  split at h
  ·cases h
  ·rename_i h2
   refine ⟨Decidable.not_not.1 h1,Decidable.not_not.1 fun h=>h2 (.inl h),?_,?_⟩
   ·exact Int.not_lt.1 fun h=>h2 (.inr (.inl h))
   ·exact Int.not_lt.1 fun h=>h2 (.inr (.inr h))
theorem Zpg {c:Crv} {n:Int} (h:c.ok) (he:c.exact) (h1:10000≤n) (h2:n≤40000):rulesE c n=0:=by
 unfold rulesE
 rw [if_neg (fun k=>k h),if_neg (by rintro (k|k|k);exact k he;omega;omega)]
theorem Z10:Crv.ok ⟨1,[],[]⟩∧Crv.exact ⟨1,[],[]⟩:=by decide
theorem Z17:Crv.ok ⟨2,[0,0],[]⟩∧Crv.exact ⟨2,[0,0],[]⟩:=by decide
theorem Zq9 {g n:Int} (h0:0≤g) (h1:g≤10000) (n0:10000≤n) (n1:n≤40000):splitW g g g ⟨1,[],[]⟩ n=.inr ⟨0,0,0,g⟩:=by
 unfold splitW
 rw [if_neg (fun h=>h ⟨⟨h0,h1⟩,⟨h0,h1⟩,⟨h0,h1⟩⟩),if_neg (fun h=>h (Zpg Z10.1 Z10.2 n0 n1)),show greyI g g g=g by unfold greyI;omega,Zoj h0 h1,Zqs h0 (by omega)]
theorem Zra {c m y n:Int} (h:in3 c m y) (n0:10000≤n) (n1:n≤40000):splitW c m y ⟨2,[0,0],[]⟩ n=.inr (cutI ⟨c,m,y,0⟩ n):=by
 unfold splitW
 rw [if_neg (fun k=>k h),if_neg (fun k=>k (Zpg Z17.1 Z17.2 n0 n1)),Zok,Zqr h.1.1 h.2.1.1 h.2.2.1]
theorem Zwk {c m y n:Int} {r:Crv} {a:Ink} (h:splitW c m y r n=.inr a):a.ok∧a.tot≤n∧a.k≤10000∧a.c≤c∧a.m≤m∧a.y≤y:=by
 unfold splitW at h
 split at h
 ·cases h
 ·rename_i h1
  split at h
  ·cases h
  ·rename_i h2
   obtain ⟨⟨c0,_⟩,⟨m0,_⟩,⟨y0,_⟩⟩:=Decidable.not_not.1 h1
   obtain ⟨k1,k2,n0,n1⟩:=Zkk (Decidable.not_not.1 h2)
   have hb:=Zio k1 k2 (greyI c m y)
   have hs:=Zvs (n:=n) c0 m0 y0 hb.1 (by omega)
   cases h
   exact ⟨hs.1,hs.2.1,by omega,hs.2.2.1,hs.2.2.2.1,hs.2.2.2.2.1⟩
theorem Zwj {c m y n:Int} {r:Crv} {e:Int} (hc:in3 c m y) (h:splitW c m y r n=.inl e):rulesE r n=e:=by
 unfold splitW at h
 rw [if_neg (fun k=>k hc)] at h
 split at h
 ·cases h;rfl
 ·cases h
end Go.Sx
