/- Walks: the reference on curves: values. -/
import Derived.Test.YtoednejlfbfciaaGreatDoorKc5
import Derived.Test.YtoednejlfbfciaaGreatDoorKr3
set_option maxHeartbeats 1000000
namespace Go.Proofs.YtoednejlfbfciaaGreatDoor
open Go Go.Sx
variable {w0:World} {As:List Ent} {kv:Int} {tv sv:Value} {tab:List Int} {ss:List Seg}
set_option maxRecDepth 100000 in
set_option maxHeartbeats 1000000 in
theorem Zt5 {s:Seg} (hs:s.fine) {x:Rat} (hx:Fit 10 x):CQ Tryz.prog w0 90 [.agg #[.int .i64 s.till,.int .i64 s.mul,.int .i64 s.add,.int .i64 s.num,.int .i64 s.den,.int .i64 s.off],.agg #[.string ⟨(tN (x)).toArray⟩,.string ⟨(tD (x)).toArray⟩]] As (.tuple #[.agg #[.string ⟨(tN (segW s x)).toArray⟩,.string ⟨(tD (segW s x)).toArray⟩],.int .i64 0]):=by
 obtain ⟨⟨a1,a2⟩,⟨c1,c2⟩,_⟩:=hs
 have g1:Fit 9 ((s.mul:Int):Rat):=Zap (by decide) (by omega)
 have g2:Fit 9 ((s.add:Int):Rat):=Zap (by decide) (by omega)
 have f1:Fit 20 ((s.mul:Rat) * x):=(g1.mul hx).mono (by decide)
 have f2:Fit 40 ((s.mul:Rat) * x+(s.add:Rat)):=(f1.add g2).mono (by decide)
 have g3:Fit 7 (((1000000:Int):Rat)):=Zap (by decide) (by decide)
 have f3:Fit 60 (((s.mul:Rat) * x+(s.add:Rat)) * (((1000000:Int):Rat))⁻¹):=(f2.mul g3.inv).mono (by decide)
 rw [Zsj]
 refine Zab Tryz.func90 rfl Tryz.ntmps90 rfl ?_
 repeat' first|refine Kz ?_|intro _
 rename_i b2 b3 b4
 refine Tri.mid (fun e' As'=>∃ b6,e'=[(2,.pointer (some ⟨b2,0,none⟩)),(4,.pointer (some ⟨b4,0,none⟩)),(6,.pointer (some ⟨b6,0,none⟩)),(7,.int .i64 0)]∧As'=.cl b6 [.string ⟨(tN ((s.mul:Rat) * x)).toArray⟩,.string ⟨(tD ((s.mul:Rat) * x)).toArray⟩] 72::.cl b2 [.int .i64 s.till,.int .i64 s.mul,.int .i64 s.add,.int .i64 s.num,.int .i64 s.den,.int .i64 s.off] 59::.cl b4 [.string ⟨#[]⟩,.string ⟨#[]⟩] 72::As) ?_ ?_
 ·refine Zaj [.cl b2 [.int .i64 s.till,.int .i64 s.mul,.int .i64 s.add,.int .i64 s.num,.int .i64 s.den,.int .i64 s.off] 59,.cl b3 [.string ⟨(tN (x)).toArray⟩,.string ⟨(tD (x)).toArray⟩] 72] [] (.take 0 (.take 1 (.take 3 (.all [(2,.all [(4,.take 5 (.take 6 (.take 7 (.all [(8,.all [(9,.take 10 (.done))])])))),(8,.all [(4,.take 5 (.take 6 (.take 7 (.all [(9,.take 10 (.done))]))))])]),(8,.all [(2,.all [(4,.take 5 (.take 6 (.take 7 (.all [(9,.take 10 (.done))]))))])])])))) ?_
  repeat' first|refine Kf ?_|intro _|constructor
  repeat' (first|(refine T1.callv rfl rfl rfl rfl rfl (Zbr (n:=s.mul) (by omega)) ?_;rintro _ _ ⟨rfl,rfl⟩;(repeat' first|refine Kf ?_|intro _|constructor))|(refine T1.callv rfl rfl rfl rfl rfl (Zhn (r:=(s.mul:Rat)) (s:=x) (g1.mono (by decide)) (hx.mono (by decide)) (f1.mono (by decide))) ?_;rintro _ _ ⟨rfl,rfl⟩;(repeat' first|refine Kf ?_|intro _|constructor)))
  all_goals exact Post.cut _ _ ⟨_,rfl,rfl⟩ Zae Zaa
 rintro _ _ ⟨b6,rfl,rfl⟩
 repeat' first|refine Kz ?_|intro _
 refine Tri.mid (fun e' As'=> e'=[(4,.pointer (some ⟨b4,0,none⟩)),(6,.pointer (some ⟨b6,0,none⟩)),(7,.int .i64 0)]∧As'=.cl b6 [.string ⟨(tN ((s.mul:Rat) * x+(s.add:Rat))).toArray⟩,.string ⟨(tD ((s.mul:Rat) * x+(s.add:Rat))).toArray⟩] 72::.cl b4 [.string ⟨#[]⟩,.string ⟨#[]⟩] 72::As) ?_ ?_
 ·refine Zaj [.cl b2 [.int .i64 s.till,.int .i64 s.mul,.int .i64 s.add,.int .i64 s.num,.int .i64 s.den,.int .i64 s.off] 59] [(0,.c b6)] (.take 0 (.take 1 (.take 2 (.all [(3,.all [(4,.take 5 (.take 6 (.take 7 (.all [(8,.take 9 (.done))]))))])])))) ?_
  repeat' first|refine Kf ?_|intro _|constructor
  repeat' (first|(refine T1.callv rfl rfl rfl rfl rfl (Zbr (n:=s.add) (by omega)) ?_;rintro _ _ ⟨rfl,rfl⟩;(repeat' first|refine Kf ?_|intro _|constructor))|(refine T1.callv rfl rfl rfl rfl rfl (Zlb (r:=(s.mul:Rat) * x) (s:=(s.add:Rat)) (f1.mono (by decide)) (g2.mono (by decide)) (f2.mono (by decide))) ?_;rintro _ _ ⟨rfl,rfl⟩;(repeat' first|refine Kf ?_|intro _|constructor)))
  all_goals exact Post.cut _ _ ⟨rfl,rfl⟩ Zae Zaa
 rintro _ _ ⟨rfl,rfl⟩
 repeat' first|refine Kz ?_|intro _
 refine Zaj [.cl b6 [.string ⟨(tN ((s.mul:Rat) * x+(s.add:Rat))).toArray⟩,.string ⟨(tD ((s.mul:Rat) * x+(s.add:Rat))).toArray⟩] 72] [] (.take 0 (.all [(1,.all [(2,.take 3 (.take 4 (.all [(5,.take 6 (.done))])))])])) ?_
 repeat' first|refine Kf ?_|intro _|constructor
 refine T1.callv rfl rfl rfl rfl rfl (Zbr (n:=1000000) (by decide)) ?_;rintro _ _ ⟨rfl,rfl⟩;(repeat' first|refine Kf ?_|intro _|constructor)
 refine T1.callv rfl rfl rfl rfl rfl (Zp0 (r:=(s.mul:Rat) * x+(s.add:Rat)) (s:=((1000000:Int):Rat)) (f2.mono (by decide)) (g3.mono (by decide)) (by decide) (f3.mono (by decide))) ?_;rintro _ _ ⟨rfl,rfl⟩;(repeat' first|refine Kf ?_|intro _|constructor)
 exact Kv
set_option maxRecDepth 100000 in
set_option maxHeartbeats 2000000 in
theorem Zmv {s:Seg} (hs:s.fine) {x:Rat} (hx:Fit 10 x) (fW:Fit 13 (segW s x)) (fP:∀ n:Nat,n≤36→Fit 469 (segU s x ^ n)) (fS:∀ n:Nat,n≤36→Fit 479 (segU s x ^ n+mkRat s.off 1000000)):CQ Tryz.prog w0 58 [.agg #[.int .i64 s.till,.int .i64 s.mul,.int .i64 s.add,.int .i64 s.num,.int .i64 s.den,.int .i64 s.off],.agg #[.string ⟨(tN (x)).toArray⟩,.string ⟨(tD (x)).toArray⟩]] As (.tuple #[.agg #[.string ⟨(tN (segQ s x)).toArray⟩,.string ⟨(tD (segQ s x)).toArray⟩],.int .i64 0]):=by
 have hs9:=hs
 obtain ⟨_,_,hof,⟨n0,n1⟩,_⟩:=hs
 have hoF:Fit 9 (mkRat s.off 1000000):=Zdk (by decide) (by decide) (by omega) (by decide)
 have fS':=fS s.num.toNat (by omega)
 have hy0:segU s x ^ (0+1)=segU s x:=by rw [Rat.pow_succ,Rat.pow_zero,Rat.one_mul]
 have f1U:Fit 469 (segU s x):=by have:=fP (0+1) (by decide);rwa [hy0] at this
 have f0:Fit 600 (((0:Int)):Rat):=(Zap (z:=0) (k:=1) (by decide) (by decide)).mono (by decide)
 refine Zab Tryz.func58 rfl Tryz.ntmps58 rfl ?_
 repeat' first|refine Kz ?_|intro _
 rename_i b2 b3 b4
 refine Ks rfl (Zt5 hs9 (x:=x) hx) ?_
 repeat' first|refine Kz ?_|intro _
 rename_i b6
 refine Zaj [.cl b6 [.string ⟨(tN (segW s x)).toArray⟩,.string ⟨(tD (segW s x)).toArray⟩] 72] [] (.take 0 (.all [(1,.all [(2,.done)])])) ?_
 repeat' first|refine Kf ?_|intro _|constructor
 refine T1.callv rfl rfl rfl rfl rfl (Zbr (n:=0) (by decide)) ?_;rintro _ _ ⟨rfl,rfl⟩;(repeat' first|refine Kf ?_|intro _|constructor)
 refine Ku rfl (Zid (r:=segW s x) (s:=((0:Int):Rat)) (fW.mono (by decide)) f0) ?_
 by_cases hneg:segW s x < ((0:Int):Rat)
 rotate_left
 rw [decide_eq_false hneg]
 have hU:segU s x=segW s x:=if_neg hneg
 rw [← hU]
 repeat' first|refine Kf ?_|intro _|constructor
 rename_i b8
 rotate_left
 rw [decide_eq_true hneg]
 have hU:segU s x=((0:Int):Rat):=if_pos hneg
 repeat' first|refine Kf ?_|intro _|constructor
 refine TL.callv rfl rfl rfl rfl (Zbr (n:=0) (by decide)) ?_
 rw [← hU]
 rintro _ _ ⟨rfl,rfl⟩
 repeat' first|refine Kz ?_|intro _
 rename_i b8
 rotate_left
 all_goals
   refine Tri.loop (ι:=Nat) (fun k=>(k:Int)≤s.num - 1) (fun k=>(s.num - 1).toNat - k) (fun k=>[(2,.pointer (some ⟨b2,0,none⟩)),(4,.pointer (some ⟨b4,0,none⟩)),(6,.pointer (some ⟨b6,0,none⟩)),(8,.pointer (some ⟨b8,0,none⟩)),(9,.int .i64 ((k:Int)+1))]) (fun k=>.cl b8 [.string ⟨(tN (segU s x ^ (k+1))).toArray⟩,.string ⟨(tD (segU s x ^ (k+1))).toArray⟩] 72::.cl b6 [.string ⟨(tN (segU s x)).toArray⟩,.string ⟨(tD (segU s x)).toArray⟩] 72::.cl b4 [.string ⟨#[]⟩,.string ⟨#[]⟩] 72::.cl b2 [.int .i64 s.till,.int .i64 s.mul,.int .i64 s.add,.int .i64 s.num,.int .i64 s.den,.int .i64 s.off] 59::As) 0 (by show ((0:Nat):Int)≤s.num - 1;omega) Zae (by simp only [hy0];(exact Zaa)) ?_
   intro k hk
   repeat' first|refine Kz ?_|intro _
   (refine Kx (fun hc=>?_) fun hc=>?_)
   ·have hp:segU s x ^ (k+1) * segU s x=segU s x ^ (k+1+1):=(Rat.pow_succ ..).symm
    repeat' first|refine Kz ?_|intro _
    refine TL.callv rfl rfl rfl rfl (Zhn (r:=segU s x ^ (k+1)) (s:=segU s x) ((fP (k+1) (by omega)).mono (by decide)) (f1U.mono (by decide)) (by rw [hp];exact (fP (k+1+1) (by omega)).mono (by decide))) ?_
    rw [hp]
    rintro _ _ ⟨rfl,rfl⟩
    repeat' first|refine Kz ?_|intro _
    exact Post.round (k+1) (by omega) (by omega) Zae Zaa
   ·have hk1:k+1=s.num.toNat:=by omega
    rw [hk1]
    have fY:=fP s.num.toNat (by omega)
    repeat' first|refine Kz ?_|intro _
    refine Zaj [.cl b2 [.int .i64 s.till,.int .i64 s.mul,.int .i64 s.add,.int .i64 s.num,.int .i64 s.den,.int .i64 s.off] 59] [(0,.c b8)] (.take 0 (.take 1 (.take 2 (.all [(3,.all [(4,.take 5 (.take 6 (.take 7 (.all [(8,.take 9 (.done))]))))])])))) ?_
    repeat' first|refine Kf ?_|intro _|constructor
    repeat' (first|(refine T1.callv rfl rfl rfl rfl rfl (Zpp (n:=s.off) (by omega)) ?_;rintro _ _ ⟨rfl,rfl⟩;(repeat' first|refine Kf ?_|intro _|constructor))|(refine T1.callv rfl rfl rfl rfl rfl (Zlb (r:=segU s x ^ s.num.toNat) (s:=mkRat s.off 1000000) (fY.mono (by decide)) (hoF.mono (by decide)) (fS'.mono (by decide))) ?_;rintro _ _ ⟨rfl,rfl⟩;(repeat' first|refine Kf ?_|intro _|constructor)))
    all_goals refine TL.callv rfl rfl rfl rfl (Zg9 (x:=segU s x ^ s.num.toNat+mkRat s.off 1000000) (fS'.mono (by decide))) ?_
    all_goals rintro _ _ ⟨rfl,rfl⟩
    all_goals (repeat' first|refine Kf ?_|intro _|constructor)
    all_goals (refine Zac ?_)
    all_goals exact ⟨_,⟨rfl,rfl⟩,Zaa⟩
set_option maxRecDepth 100000 in
theorem Zsx [RdIn As sv Seg cSeg ss] (hl:ss.length≤1000000000) (_htv:tv.oneCell'=true) (hss:segsFrom 0 ss) (h0:ss≠[]) {x:Rat} (hx:Fit 10 x) (x1:x≤1):CallsS Tryz.prog w0 57 [.agg #[.int .i64 kv,tv,sv],.agg #[.string ⟨(tN (x)).toArray⟩,.string ⟨(tD (x)).toArray⟩]] As fun u Bs=>∃ (k:Nat) (s:Seg),u=.int .i64 k∧ss[k]?=some s∧segAt ss x=some s∧Bs=As:=by
 refine Zad sv fun p1 c1 e1=>?_
 subst e1
 have hok:=(Zvx.1 hss).1
 obtain ⟨s0,hs0,_⟩:=Zhh x1 hss h0
 refine Zab Tryz.func57 rfl Tryz.ntmps57 rfl ?_
 repeat' first|refine Kz ?_|intro _
 rename_i b2 b3
 refine Tri.loop (ι:=Nat) (fun k=>k≤ss.length∧∀ j < k,∀ t,ss[j]?=some t→¬ x≤mkRat t.till 1000000) (fun k=>ss.length - k) (fun k=>[(2,.pointer (some ⟨b2,0,none⟩)),(3,.pointer (some ⟨b3,0,none⟩)),(5,.int .i64 k)]) (fun _=>.cl b2 [.int .i64 kv,tv,.slice p1 ss.length c1] 25::.cl b3 [.string ⟨(tN (x)).toArray⟩,.string ⟨(tD (x)).toArray⟩] 72::As) 0 ⟨by omega,fun j h=>by omega⟩ Zae Zaa ?_
 intro k ⟨hk,hI⟩
 repeat' first|refine Kz ?_|intro _
 (refine Kx (fun hc=>?_) fun hc=>?_)
 ·obtain ⟨s,hs⟩:∃ s,ss[k]?=some s:=⟨_,List.getElem?_eq_getElem (by omega)⟩
  have hfr:=Zkz (k:=k) (fun j hj=>hok j (by omega)) (by omega)
  have hsk:=hok k (by omega) s hs
  have ht0:0≤s.till∧s.till≤1000000:=⟨by have:=hsk.2.1;omega,hsk.2.2⟩
  have hq:Fit 600 (mkRat s.till 1000000):=(Zdk (k:=8) (by decide) (by decide) (by omega) (by decide)).mono (by decide)
  repeat' first|refine Kz ?_|intro _
  refine Zaj (.cl b3 [.string ⟨(tN (x)).toArray⟩,.string ⟨(tD (x)).toArray⟩] 72::.cl b2 [.int .i64 kv,tv,.slice p1 ss.length c1] 25::As) [] (.take 0 (.take 1 (.take 2 (.take 3 (.take 4 (.take 5 (.take 7 (.all [(6,.all [(8,.take 9 (.done))])])))))))) ?_
  repeat' first|refine Kf ?_|intro _|constructor
  repeat' (first|(refine T1.callv rfl rfl rfl rfl rfl (Zpp (n:=s.till) (by omega)) ?_;rintro _ _ ⟨rfl,rfl⟩;(repeat' first|refine Kf ?_|intro _|constructor))|(refine T1.callv rfl rfl rfl rfl rfl (Zid (r:=mkRat s.till 1000000) (s:=x) hq (hx.mono (by decide))) ?_;rintro _ _ ⟨rfl,rfl⟩;(repeat' first|refine Kf ?_|intro _|constructor)))
  all_goals by_cases hlt:mkRat s.till 1000000 < x
  all_goals first|(rw [decide_eq_true hlt];(repeat' first|refine Kf ?_|intro _|constructor);exact Post.round (k+1) ⟨by omega,fun j hj t ht=>by rcases Nat.lt_or_ge j k with h1|h1;exact hI j h1 t ht;rw [show j=k by omega,hs] at ht;rw [← Option.some.inj ht];exact Rat.not_le.2 hlt⟩ (by omega) Zae Zaa)|(rw [decide_eq_false hlt];(repeat' first|refine Kf ?_|intro _|constructor);(refine Zac ?_);exact ⟨_,⟨k,s,rfl,hs,Zki hI hs (Rat.not_lt.1 hlt),rfl⟩,Zaa⟩)
 ·have hkl:k=ss.length:=by omega
  subst hkl
  rw [Zpe hI] at hs0
  cases hs0
set_option maxRecDepth 100000 in
set_option maxHeartbeats 4000000 in
theorem Zqo {x:Rat} {k:Nat} (hx:Fit k x) (hk:k≤100) (x0:0≤x) (x1:x≤1) [RdIn As tv Int (cI .i64) tab] (h2:2≤tab.length∧tab.length≤17) (hv:inW 65535 tab) :
  CQ Tryz.prog w0 56 [tv,.agg #[.string ⟨(tN (x)).toArray⟩,.string ⟨(tD (x)).toArray⟩]] As (.tuple #[.agg #[.string ⟨(tN (tabQ tab x)).toArray⟩,.string ⟨(tD (tabQ tab x)).toArray⟩],.int .i64 0]):=by
 refine Zad tv fun p0 c0 e0=>?_
 subst e0
 obtain ⟨f1,f2,f3,f4⟩:=Zkb hx h2 hv
 have f0:=Zka hx h2
 obtain ⟨i0,i1⟩:=Zgg (x:=x) h2.1
 obtain ⟨g0,g1⟩:=Zhy h2.1 x0 x1
 have hsr:=fun (i:Nat)=>Zqp (l:=tab) (x:=x) g0 (i:=i)
 obtain ⟨i,hi⟩:∃ i:Nat,tabI tab x=(i:Int):=⟨(tabI tab x).toNat,by omega⟩
 obtain ⟨u,hu⟩:∃ u,tab[i]?=some u:=⟨_,List.getElem?_eq_getElem (by omega)⟩
 obtain ⟨v,hw⟩:∃ v,tab[i+1]?=some v:=⟨_,List.getElem?_eq_getElem (by omega)⟩
 have hu1:=hv u (List.mem_of_getElem? hu)
 have hv1:=hv v (List.mem_of_getElem? hw)
 have hA:tabA tab x=u:=by unfold tabA;rw [hi,Int.toNat_natCast,hu];rfl
 have hB:tabB tab x=v:=by unfold tabB;rw [hi,Int.toNat_natCast,hw];rfl
 have eq:tabQ tab x=((u:Rat)+((v - u:Int):Rat) * (tabP tab x - ((i:Int):Rat))) * (((65535:Int):Rat))⁻¹:=by unfold tabQ;rw [hA,hB,hi];rfl
 rw [hA,hB,hi] at f2 f3
 rw [hi] at f1
 rw [eq] at f4 ⊢
 rw [hi] at i1
 have hsr':=fun (j:Nat) a b c=>Int.ofNat.inj (hi.symm.trans (hsr j a b c))
 clear hsr
 have hP:tabP tab x=x * ((((tab.length:Int) - 1:Int)):Rat):=rfl
 generalize tabP tab x=P at *
 have hcast:((tab.length - 1:Nat):Int)=(tab.length:Int) - 1:=by omega
 refine Zab Tryz.func56 rfl Tryz.ntmps56 rfl ?_
 repeat' first|refine Kz ?_|intro _
 rename_i b3 b4
 refine Tri.mid (fun e' As'=>∃ b6,e'=[(0,.slice p0 tab.length c0),(4,.pointer (some ⟨b4,0,none⟩)),(6,.pointer (some ⟨b6,0,none⟩)),(7,.int .i64 0)]∧As'=.cl b6 [.string ⟨(tN (P)).toArray⟩,.string ⟨(tD (P)).toArray⟩] 72::.cl b4 [.string ⟨#[]⟩,.string ⟨#[]⟩] 72::As) ?_ ?_
 ·refine Zaj [.cl b3 [.string ⟨(tN (x)).toArray⟩,.string ⟨(tD (x)).toArray⟩] 72] [] (.take 0 (.take 1 (.take 2 (.take 3 (.all [(4,.all [(5,.take 6 (.take 7 (.take 8 (.all [(9,.all [(10,.take 11 (.done))])])))),(9,.all [(5,.take 6 (.take 7 (.take 8 (.all [(10,.take 11 (.done))]))))])]),(9,.all [(4,.all [(5,.take 6 (.take 7 (.take 8 (.all [(10,.take 11 (.done))]))))])])]))))) ?_
  repeat' first|refine Kf ?_|intro _|constructor
  all_goals rw [hcast]
  repeat' (first|(refine T1.callv rfl rfl rfl rfl rfl (Zbr (n:=(tab.length:Int) - 1) (by omega)) ?_;rintro _ _ ⟨rfl,rfl⟩;(repeat' first|refine Kf ?_|intro _|constructor))|(refine T1.callv rfl rfl rfl rfl rfl (Zhn (r:=x) (s:=((((tab.length:Int) - 1:Int)):Rat)) (hx.mono (by omega)) ((Zap (k:=2) (by decide) (by omega)).mono (by decide)) (by rw [← hP];exact f0.mono (by omega))) ?_;rw [← hP];rintro _ _ ⟨rfl,rfl⟩;(repeat' first|refine Kf ?_|intro _|constructor)))
  all_goals exact Post.cut _ _ ⟨_,rfl,rfl⟩ Zae Zaa
 rintro _ _ ⟨b6,rfl,rfl⟩
 repeat' first|refine Kz ?_|intro _
 refine Tri.midB (fun e' As'=>e'=[(0,.slice p0 tab.length c0),(4,.pointer (some ⟨b4,0,none⟩)),(6,.pointer (some ⟨b6,0,none⟩)),(8,.int .i64 i)]∧As'=.cl b6 [.string ⟨(tN (P)).toArray⟩,.string ⟨(tD (P)).toArray⟩] 72::.cl b4 [.string ⟨#[]⟩,.string ⟨#[]⟩] 72::As) ?_ ?_
 ·refine Tri.loop (ι:=Nat) (fun j=>(j:Int)+2≤tab.length∧∀ q:Nat,q < j→¬ P < (((q:Int)+1:Int):Rat)) (fun j=>tab.length - j) (fun j=>[(0,.slice p0 tab.length c0),(4,.pointer (some ⟨b4,0,none⟩)),(6,.pointer (some ⟨b6,0,none⟩)),(8,.int .i64 j)]) (fun _=>.cl b6 [.string ⟨(tN (P)).toArray⟩,.string ⟨(tD (P)).toArray⟩] 72::.cl b4 [.string ⟨#[]⟩,.string ⟨#[]⟩] 72::As) 0 ⟨by omega,fun q h=>by omega⟩ Zae Zaa ?_
  intro j ⟨hj,hI⟩
  have hjf:Fit 600 ((((j:Int)+1:Int)):Rat):=(Zap (k:=2) (by decide) (by omega)).mono (by decide)
  repeat' first|refine Kz ?_|intro _
  by_cases hlast:(j:Int)+2=tab.length
  ·obtain rfl:=hsr' j (by omega) hI (.inl hlast)
   refine Zaj (.cl b6 [.string ⟨(tN (P)).toArray⟩,.string ⟨(tD (P)).toArray⟩] 72::As) [] (.take 0 (.take 1 (.take 2 (.take 3 (.take 4 (.take 5 (.take 6 (.take 7 (.take 8 (.all [(9,.all [(10,.take 11 (.take 12 (.done)))])])))))))))) ?_
   repeat' first|refine Kf ?_|intro _|constructor
   all_goals exact Post.cut _ _ ⟨rfl,rfl⟩ Zae Zaa
  ·refine Zaj (.cl b6 [.string ⟨(tN (P)).toArray⟩,.string ⟨(tD (P)).toArray⟩] 72::As) [] (.take 0 (.take 1 (.take 2 (.take 3 (.take 4 (.take 5 (.take 6 (.take 7 (.take 8 (.all [(9,.all [(10,.take 11 (.take 12 (.done)))])])))))))))) ?_
   repeat' first|refine Kf ?_|intro _|constructor
   repeat' (first|(refine T1.callv rfl rfl rfl rfl rfl (Zbr (n:=(j:Int)+1) (by omega)) ?_;rintro _ _ ⟨rfl,rfl⟩;(repeat' first|refine Kf ?_|intro _|constructor))|(refine T1.callv rfl rfl rfl rfl rfl (Zid (r:=P) (s:=((((j:Int)+1:Int)):Rat)) (f0.mono (by omega)) hjf) ?_;rintro _ _ ⟨rfl,rfl⟩;(repeat' first|refine Kf ?_|intro _|constructor)))
   all_goals by_cases hlt:P < ((((j:Int)+1:Int)):Rat)
   all_goals first|(obtain rfl:=hsr' j (by omega) hI (.inr hlt);rw [decide_eq_true hlt];(repeat' first|refine Kf ?_|intro _|constructor);exact Post.cut _ _ ⟨rfl,rfl⟩ Zae Zaa)|(rw [decide_eq_false hlt];(repeat' first|refine Kf ?_|intro _|constructor);exact Post.round (j+1) ⟨by omega,fun q hq=>by rcases Nat.lt_or_ge q j with h1|h1;exact hI q h1;rw [show q=j by omega];exact hlt⟩ (by omega) Zae Zaa)
 rintro _ _ ⟨rfl,rfl⟩
 repeat' first|refine Kz ?_|intro _
 clear g0 g1 hP hsr'
 refine Tri.mid (fun e' As'=>∃ b9,e'=[(0,.slice p0 tab.length c0),(4,.pointer (some ⟨b4,0,none⟩)),(9,.pointer (some ⟨b9,0,none⟩)),(8,.int .i64 i),(7,.int .i64 0)]∧As'=.cl b9 [.string ⟨(tN (P - ((i:Int):Rat))).toArray⟩,.string ⟨(tD (P - ((i:Int):Rat))).toArray⟩] 72::.cl b4 [.string ⟨#[]⟩,.string ⟨#[]⟩] 72::As) ?_ ?_
 ·refine Zaj [.cl b6 [.string ⟨(tN (P)).toArray⟩,.string ⟨(tD (P)).toArray⟩] 72] [] (.take 0 (.take 1 (.all [(2,.all [(3,.take 4 (.take 5 (.take 6 (.all [(7,.all [(8,.take 9 (.done))])])))),(7,.all [(3,.take 4 (.take 5 (.take 6 (.all [(8,.take 9 (.done))]))))])]),(7,.all [(2,.all [(3,.take 4 (.take 5 (.take 6 (.all [(8,.take 9 (.done))]))))])])]))) ?_
  repeat' first|refine Kf ?_|intro _|constructor
  repeat' (first|(refine T1.callv rfl rfl rfl rfl rfl (Zbr (n:=(i:Int)) (by omega)) ?_;rintro _ _ ⟨rfl,rfl⟩;(repeat' first|refine Kf ?_|intro _|constructor))|(refine T1.callv rfl rfl rfl rfl rfl (Zvq (r:=P) (s:=((i:Int):Rat)) (f0.mono (by omega)) ((Zap (k:=2) (by decide) (by omega)).mono (by decide)) (f1.mono (by omega))) ?_;rintro _ _ ⟨rfl,rfl⟩;(repeat' first|refine Kf ?_|intro _|constructor)))
  all_goals exact Post.cut _ _ ⟨_,rfl,rfl⟩ Zae Zaa
 rintro _ _ ⟨b9,rfl,rfl⟩
 repeat' first|refine Kz ?_|intro _
 generalize P - ((i:Int):Rat)=R at *
 have hc2:R * ((v - u:Int):Rat)=((v - u:Int):Rat) * R:=Rat.mul_comm _ _
 have f2':Fit (k+10) (R * ((v - u:Int):Rat)):=by rw [hc2];exact f2
 refine Tri.mid (fun e' As'=> e'=[(0,.slice p0 tab.length c0),(4,.pointer (some ⟨b4,0,none⟩)),(9,.pointer (some ⟨b9,0,none⟩)),(8,.int .i64 i),(7,.int .i64 0)]∧As'=.cl b9 [.string ⟨(tN (((v - u:Int):Rat) * R)).toArray⟩,.string ⟨(tD (((v - u:Int):Rat) * R)).toArray⟩] 72::.cl b4 [.string ⟨#[]⟩,.string ⟨#[]⟩] 72::As) ?_ ?_
 ·refine Zaj As [(0,.c b9)] (.take 0 (.take 1 (.take 2 (.take 3 (.take 4 (.take 5 (.take 6 (.take 7 (.take 8 (.take 9 (.take 10 (.all [(11,.all [(12,.take 13 (.take 14 (.take 15 (.all [(16,.take 17 (.done))]))))])])))))))))))) ?_
  repeat' first|refine Kf ?_|intro _|constructor
  all_goals rw [show ((i:Int)+1)=((i+1:Nat):Int) by omega]
  all_goals (repeat' first|refine Kf ?_|intro _|constructor)
  repeat' (first|(refine T1.callv rfl rfl rfl rfl rfl (Zbr (n:=v - u) (by omega)) ?_;rintro _ _ ⟨rfl,rfl⟩;(repeat' first|refine Kf ?_|intro _|constructor))|(refine T1.callv rfl rfl rfl rfl rfl (Zhn (r:=R) (s:=((v - u:Int):Rat)) (f1.mono (by omega)) ((Zap (k:=5) (by decide) (by omega)).mono (by decide)) (f2'.mono (by omega))) ?_;rw [hc2];rintro _ _ ⟨rfl,rfl⟩;(repeat' first|refine Kf ?_|intro _|constructor)))
  all_goals exact Post.cut _ _ ⟨rfl,rfl⟩ Zae Zaa
 rintro _ _ ⟨rfl,rfl⟩
 repeat' first|refine Kz ?_|intro _
 refine Tri.mid (fun e' As'=>∃ b10,e'=[(4,.pointer (some ⟨b4,0,none⟩)),(10,.pointer (some ⟨b10,0,none⟩)),(7,.int .i64 0)]∧As'=.cl b10 [.string ⟨(tN ((u:Rat)+((v - u:Int):Rat) * R)).toArray⟩,.string ⟨(tD ((u:Rat)+((v - u:Int):Rat) * R)).toArray⟩] 72::.cl b4 [.string ⟨#[]⟩,.string ⟨#[]⟩] 72::As) ?_ ?_
 ·refine Zaj (.cl b9 [.string ⟨(tN (((v - u:Int):Rat) * R)).toArray⟩,.string ⟨(tD (((v - u:Int):Rat) * R)).toArray⟩] 72::As) [] (.take 0 (.take 1 (.take 2 (.take 3 (.take 5 (.all [(4,.all [(6,.take 7 (.take 8 (.take 9 (.all [(10,.all [(11,.take 12 (.done))])])))),(10,.all [(6,.take 7 (.take 8 (.take 9 (.all [(11,.take 12 (.done))]))))])]),(10,.all [(4,.all [(6,.take 7 (.take 8 (.take 9 (.all [(11,.take 12 (.done))]))))])])])))))) ?_
  repeat' first|refine Kf ?_|intro _|constructor
  repeat' (first|(refine T1.callv rfl rfl rfl rfl rfl (Zbr (n:=u) (by omega)) ?_;rintro _ _ ⟨rfl,rfl⟩;(repeat' first|refine Kf ?_|intro _|constructor))|(refine T1.callv rfl rfl rfl rfl rfl (Zlb (r:=(u:Rat)) (s:=((v - u:Int):Rat) * R) ((Zap (k:=5) (by decide) (by omega)).mono (by decide)) (f2.mono (by omega)) (f3.mono (by omega))) ?_;rintro _ _ ⟨rfl,rfl⟩;(repeat' first|refine Kf ?_|intro _|constructor)))
  all_goals exact Post.cut _ _ ⟨_,rfl,rfl⟩ Zae Zaa
 rintro _ _ ⟨b10,rfl,rfl⟩
 repeat' first|refine Kz ?_|intro _
 refine Zaj [.cl b10 [.string ⟨(tN ((u:Rat)+((v - u:Int):Rat) * R)).toArray⟩,.string ⟨(tD ((u:Rat)+((v - u:Int):Rat) * R)).toArray⟩] 72] [] (.take 0 (.all [(1,.all [(2,.take 3 (.take 4 (.all [(5,.take 6 (.done))])))])])) ?_
 repeat' first|refine Kf ?_|intro _|constructor
 refine T1.callv rfl rfl rfl rfl rfl (Zbr (n:=65535) (by decide)) ?_;rintro _ _ ⟨rfl,rfl⟩;(repeat' first|refine Kf ?_|intro _|constructor)
 refine T1.callv rfl rfl rfl rfl rfl (Zp0 (r:=(u:Rat)+((v - u:Int):Rat) * R) (s:=((65535:Int):Rat)) (f3.mono (by omega)) ((Zap (k:=5) (by decide) (by decide)).mono (by decide)) (by decide) (f4.mono (by omega))) ?_;rintro _ _ ⟨rfl,rfl⟩;(repeat' first|refine Kf ?_|intro _|constructor)
 exact Kv
set_option maxRecDepth 100000 in
set_option maxHeartbeats 2000000 in
theorem Zv3 [RdIn As tv Int (cI .i64) tab] [RdIn As sv Seg cSeg ss] (hl:tab.length≤1000000000) (hl':ss.length≤1000000000) (hc:Crv.ok ⟨kv,tab,ss⟩) (hx:Crv.exact ⟨kv,tab,ss⟩) {g:Int} (g0:0≤g) (g1:g≤10000) :
  CallsS Tryz.prog w0 38 [.agg #[.int .i64 kv,tv,sv],.agg #[.string ⟨(tN (mkRat g 10000)).toArray⟩,.string ⟨(tD (mkRat g 10000)).toArray⟩]] As fun u Bs=>∃ y,crvQ ⟨kv,tab,ss⟩ (mkRat g 10000)=.inr y∧Fit 500 y∧u=.tuple #[.agg #[.string ⟨(tN (y)).toArray⟩,.string ⟨(tD (y)).toArray⟩],.int .i64 0]∧Bs=As:=by
 refine Zad tv fun p0 c0 e0=>Zad sv fun p1 c1 e1=>?_
 subst e0 e1
 have hcl:=Zgo g0 g1
 have hfx:=Zky g0 g1
 obtain ⟨x0,x1⟩:=Zif g0 g1
 have hfit:=fun (s:Seg) (hs:s.fine)=>(⟨Zkf hs g0 g1,fun n (hn:n≤36)=>Zkh hs g0 g1 hn,fun n (hn:n≤36)=>Zkg hs g0 g1 hn⟩:Fit 13 (segW s (mkRat g 10000))∧(∀ n:Nat,n≤36→Fit 469 (segU s (mkRat g 10000) ^ n))∧(∀ n:Nat,n≤36→Fit 479 (segU s (mkRat g 10000) ^ n+mkRat s.off 1000000)))
 refine Zab Tryz.func38 rfl Tryz.ntmps38 rfl ?_
 repeat' first|refine Kz ?_|intro _
 refine Ks rfl (Zgj (kv:=kv) (tv:=.slice p0 tab.length c0) (tab:=tab) (sv:=.slice p1 ss.length c1) (ss:=ss) hl hl') ?_
 rw [decide_eq_true hc]
 repeat' first|refine Kz ?_|intro _
 refine Ks rfl (Zrl (r:=mkRat g 10000) (hfx.mono (by decide))) ?_
 repeat' first|refine Kz ?_|intro _
 rename_i b2 b3 b4
 refine TL.callv rfl rfl rfl rfl (Zg9 (x:=mkRat g 10000) (hfx.mono (by decide))) ?_
 rw [hcl]
 rintro _ _ ⟨rfl,rfl⟩
 unfold crvQ
 simp only [hcl]
 rcases hc with ⟨hk,_,_⟩|⟨hk,h2,hv,_⟩|⟨hk,_,h1,hs⟩
 ·have hk':kv=1:=hk
  subst hk'
  repeat' first|refine Kz ?_|intro _
  (refine Zac ?_)
  exact ⟨_,⟨_,rfl,hfx.mono (by decide),rfl,rfl⟩,Zaa⟩
 ·have hk':kv=2:=hk
  subst hk'
  repeat' first|refine Kz ?_|intro _
  refine Ks rfl (Zqo (tv:=.slice p0 tab.length c0) (tab:=tab) (k:=5) hfx (by decide) x0 x1 h2 hv) ?_
  repeat' first|refine Kz ?_|intro _
  (refine Zac ?_)
  exact ⟨_,⟨_,rfl,(Zkb hfx h2 hv).2.2.2.mono (by decide),rfl,rfl⟩,Zaa⟩
 ·have hk':kv=3:=hk
  subst hk'
  have h0:ss≠[]:=by intro h;subst h;simp at h1
  repeat' first|refine Kz ?_|intro _
  refine Zaj (.cl b2 [.int .i64 3,.slice p0 tab.length c0,.slice p1 ss.length c1] 25::.cl b3 [.string ⟨(tN (mkRat g 10000)).toArray⟩,.string ⟨(tD (mkRat g 10000)).toArray⟩] 72::As) [] (.take 0 (.take 1 (.take 2 (.take 3 (.all [(4,.take 5 (.take 6 (.all [(7,.all [(8,.done)])]))),(7,.all [(4,.take 5 (.take 6 (.all [(8,.done)])))])]))))) ?_
  repeat' first|refine Kf ?_|intro _|constructor
  repeat' (first|(refine T1.callv rfl rfl rfl rfl rfl (Zsx (kv:=3) (tv:=.slice p0 tab.length c0) (sv:=.slice p1 ss.length c1) (ss:=ss) hl' rfl hs h0 (x:=mkRat g 10000) (hfx.mono (by decide)) x1) ?_;rintro _ _ ⟨k,s,rfl,hk,hat,rfl⟩;have hkl:k < ss.length:=(List.getElem?_eq_some_iff.1 hk).1;(repeat' first|refine Kf ?_|intro _|constructor)))
  all_goals have hsm:=List.mem_of_getElem? hk
  all_goals have hsf:=Zfz hs s hsm
  all_goals have hd:s.den=1:=hx s hsm
  all_goals obtain ⟨fW,fP,fS⟩:=hfit s hsf
  all_goals (repeat' first|refine Kf ?_|intro _|constructor)
  all_goals refine TL.callv rfl rfl rfl rfl (Zmv (s:=s) hsf (x:=mkRat g 10000) (hfx.mono (by decide)) fW fP fS) ?_
  all_goals rintro _ _ ⟨rfl,rfl⟩
  all_goals (repeat' first|refine Kf ?_|intro _|constructor)
  all_goals (refine Zac ?_)
  all_goals exact ⟨_,⟨segQ s (mkRat g 10000),by rw [if_neg (by decide),if_neg (by decide),hat];exact if_pos hd,(Zmx (fS s.num.toNat (by have:=hsf.2.2.2.1;omega))).mono (by decide),rfl,rfl⟩,Zaa⟩
end Go.Proofs.YtoednejlfbfciaaGreatDoor
