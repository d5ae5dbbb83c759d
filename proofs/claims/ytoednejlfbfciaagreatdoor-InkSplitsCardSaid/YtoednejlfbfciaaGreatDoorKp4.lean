/- Plain: the value of a formula; curves; how long the numbers are at the greys. -/
import Derived.Test.YtoednejlfbfciaaGreatDoorKp3
import Derived.Test.YtoednejlfbfciaaGreatDoorCp1
set_option maxHeartbeats 1000000
namespace Go.Sx
open Go
def clampQ (x:Rat):Rat:=if x < 0 then 0 else if 1 < x then 1 else x
theorem Zp3 (x:Rat):0≤clampQ x∧clampQ x≤1:=by
 unfold clampQ
 split
 ·exact ⟨by decide,by decide⟩
 ·split
  ·exact ⟨by decide,by decide⟩
  ·constructor<;>grind
theorem Zrh {x:Rat} (h0:0≤x) (h1:x≤1):clampQ x=x:=by
 unfold clampQ
 rw [if_neg (Rat.not_lt.2 h0),if_neg (Rat.not_lt.2 h1)]
structure Seg where
 till:Int
 mul:Int
 add:Int
 num:Int
 den:Int
 off:Int
deriving DecidableEq
def Seg.fine (s:Seg):Prop:=(-100000000≤s.mul∧s.mul≤100000000)∧(-100000000≤s.add∧s.add≤100000000)∧(-100000000≤s.off∧s.off≤100000000)∧(1≤s.num∧s.num≤36)∧(1≤s.den∧s.den≤12)∧Int.gcd s.num s.den=1
instance (s:Seg):Decidable s.fine:=by unfold Seg.fine;infer_instance
def segsFrom:Int→List Seg→Prop
 | l,[]=>l=1000000
 | l,s::r=>s.fine∧l < s.till∧s.till≤1000000∧segsFrom s.till r
def segsFromD:∀ (r:List Seg) (l:Int),Decidable (segsFrom l r)
 | [],l=>inferInstanceAs (Decidable (l=1000000))
 | s::r,l=>by
    have:=segsFromD r s.till
    unfold segsFrom
    infer_instance
instance (l:Int) (r:List Seg):Decidable (segsFrom l r):=segsFromD r l
structure Crv where
 kind:Int
 table:List Int
 segs:List Seg
def Crv.ok (c:Crv):Prop:=(c.kind=1∧c.table=[]∧c.segs=[])∨(c.kind=2∧(2≤c.table.length∧c.table.length≤17)∧(∀ v∈c.table,0≤v∧v≤65535)∧c.segs=[])∨(c.kind=3∧c.table=[]∧(1≤c.segs.length∧c.segs.length≤4)∧segsFrom 0 c.segs)
instance (c:Crv):Decidable c.ok:=by unfold Crv.ok;infer_instance
def Crv.exact (c:Crv):Prop:=∀ s∈c.segs,s.den=1
instance (c:Crv):Decidable c.exact:=by unfold Crv.exact;infer_instance
def segAt:List Seg→Rat→Option Seg
 | [],_=>none
 | s::r,x=>if x≤mkRat s.till 1000000 then some s else segAt r x
theorem Zhh {x:Rat} (h1:x≤1):∀ {r:List Seg} {l:Int},segsFrom l r→r≠[]→∃ s,segAt r x=some s∧s∈r
 | [],_,_,h0=>absurd rfl h0
 | [s],l,h,_=>by
  have e:s.till=1000000:=h.2.2.2
  refine ⟨s,?_,List.mem_cons_self⟩
  unfold segAt
  rw [e,if_pos (by rw [show mkRat 1000000 1000000=1 by decide +kernel];exact h1)]
 | s :: t::r,l,h,_=>by
  unfold segAt
  by_cases hx:x≤mkRat s.till 1000000
  ·exact ⟨s,by rw [if_pos hx],List.mem_cons_self⟩
  ·rw [if_neg hx]
   obtain ⟨u,h1,h2⟩:=Zhh h1 h.2.2.2 (List.cons_ne_nil t r)
   exact ⟨u,h1,List.mem_cons_of_mem _ h2⟩
def segW (s:Seg) (x:Rat):Rat:=((s.mul:Rat) * x+(s.add:Rat)) * (1000000:Rat)⁻¹
def segU (s:Seg) (x:Rat):Rat:=if segW s x < 0 then 0 else segW s x
def segQ (s:Seg) (x:Rat):Rat:=clampQ (segU s x ^ s.num.toNat+mkRat s.off 1000000)
def crvQ (c:Crv) (x:Rat):Int ⊕ Rat:=if c.kind=1 then .inr (clampQ x) else if c.kind=2 then .inr (tabQ c.table (clampQ x)) else match segAt c.segs (clampQ x) with
 | none=>.inl 0
 | some s=>if s.den=1 then .inr (segQ s (clampQ x)) else .inl 5
theorem Zxt {c:Crv} (hc:c.ok) (he:c.exact) (x:Rat):∃ y,crvQ c x=.inr y∧0≤y∧y≤1:=by
 obtain ⟨x0,x1⟩:=Zp3 x
 unfold crvQ
 rcases hc with ⟨hk,_⟩|⟨hk,hl,hv,_⟩|⟨hk,_,hl,hs⟩
 ·rw [if_pos hk];exact ⟨_,rfl,x0,x1⟩
 ·rw [if_neg (by omega),if_pos hk]
  have h:=Zzx (l:=c.table) (x:=clampQ x) hl.1 hv x0 x1
  exact ⟨_,rfl,h.1,h.2⟩
 ·rw [if_neg (by omega),if_neg (by omega)]
  obtain ⟨s,h1,h2⟩:=Zhh x1 hs (by intro h;rw [h] at hl;simp at hl)
  rw [h1]
  simp only
  rw [if_pos (he s h2)]
  have h:=Zp3 (segU s (clampQ x) ^ s.num.toNat+mkRat s.off 1000000)
  exact ⟨_,rfl,h.1,h.2⟩
theorem Zsi (s:Seg) (g:Int):segW s (mkRat g 10000)=mkRat (s.mul * g+s.add * 10000) 10000000000:=by
 unfold segW
 rw [Rat.mkRat_eq_div,Rat.mkRat_eq_div,Rat.intCast_add,Rat.intCast_mul,Rat.intCast_mul]
 have h1:((10000:Nat):Rat)=10000:=rfl
 have h2:((10000:Int):Rat)=10000:=rfl
 have h3:((10000000000:Nat):Rat)=10000000000:=rfl
 rw [h1,h2,h3]
 grind
end Go.Sx
