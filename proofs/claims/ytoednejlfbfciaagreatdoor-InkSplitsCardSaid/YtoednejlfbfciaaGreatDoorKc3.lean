/- Walks: curves: the segments' check, Check, Exact. -/
import Derived.Test.YtoednejlfbfciaaGreatDoorKc2
set_option maxHeartbeats 1000000
namespace Go.Sx
open Go
def okTo (ss:List Seg) (k:Nat):Prop:=∀ j < k,∀ s,ss[j]?=some s→segOk (fromI ss j) s
theorem Zs4 {ss:List Seg} {k:Nat} {s:Seg} (h:okTo ss k) (hs:ss[k]?=some s) (hk:segOk (fromI ss k) s):okTo ss (k+1):=by
 intro j hj t ht
 rcases Nat.lt_or_ge j k with h1|h1
 ·exact h j h1 t ht
 ·have e:j=k:=by omega
  subst e
  rw [hs] at ht
  rw [← Option.some.inj ht];exact hk
theorem Zkz {ss:List Seg}:∀ {k:Nat},okTo ss k→k≤ss.length→0≤fromI ss k∧fromI ss k≤1000000
 | 0,_,_=>by show (0:Int)≤0∧(0:Int)≤1000000;omega
 | k+1,h,hk=>by
  obtain ⟨s,hs⟩:∃ s,ss[k]?=some s:=⟨_,List.getElem?_eq_getElem (by omega)⟩
  have h1:=Zkz (k:=k) (fun j hj=>h j (by omega)) (by omega)
  have h2:=h k (by omega) s hs
  rw [Zce hs]
  obtain ⟨_,h3,h4⟩:=h2
  omega
theorem Zjg {ss:List Seg}:∀ {n k:Nat},n+k=ss.length→(segsFrom (fromI ss k) (ss.drop k)↔(∀ j,k≤j→∀ s,ss[j]?=some s→segOk (fromI ss j) s)∧fromI ss ss.length=1000000)
 | 0,k,h=>by
  rw [List.drop_eq_nil_of_le (by omega)]
  unfold segsFrom
  have e:k=ss.length:=by omega
  rw [e]
  refine ⟨fun g=>⟨fun j hj s hs=>?_,g⟩,fun g=>g.2⟩
  have:=(List.getElem?_eq_some_iff.1 hs).1
  omega
 | n + 1,k,h=>by
  obtain ⟨s,hs⟩:∃ s,ss[k]?=some s:=⟨_,List.getElem?_eq_getElem (by omega)⟩
  have hd:ss.drop k=s::ss.drop (k+1):=by
     have hk:k < ss.length:=by omega
     rw [List.drop_eq_getElem_cons hk,(List.getElem?_eq_some_iff.1 hs).2]
  have ih:=Zjg (ss:=ss) (n:=n) (k:=k+1) (by omega)
  rw [Zce hs] at ih
  rw [hd]
  unfold segsFrom
  rw [ih]
  constructor
  ·rintro ⟨g1,g2,g3,g4,g5⟩
   refine ⟨fun j hj t ht=>?_,g5⟩
   rcases Nat.lt_or_ge k j with h1|h1
   ·exact g4 j h1 t ht
   ·have e:j=k:=by omega
    subst e
    rw [hs] at ht
    rw [← Option.some.inj ht]
    exact ⟨g1,g2,g3⟩
  ·rintro ⟨g1,g2⟩
   obtain ⟨a,b,c⟩:=g1 k (Nat.le_refl _) s hs
   exact ⟨a,b,c,fun j hj t ht=>g1 j (by omega) t ht,g2⟩
theorem Zvx {ss:List Seg}:segsFrom 0 ss↔okTo ss ss.length∧fromI ss ss.length=1000000:=by
 have h:=Zjg (ss:=ss) (n:=ss.length) (k:=0) (by omega)
 rw [List.drop_zero] at h
 refine Iff.trans h ⟨fun g=>⟨fun j _ s hs=>g.1 j (Nat.zero_le _) s hs,g.2⟩,fun g=>⟨fun j _ s hs=>g.1 j (List.getElem?_eq_some_iff.1 hs).1 s hs,g.2⟩⟩
theorem crv1 {t:List Int} {s:List Seg}:Crv.ok ⟨1,t,s⟩↔t.length=0∧s.length=0:=by
 unfold Crv.ok
 simp only [List.length_eq_zero_iff]
 constructor
 ·rintro (⟨_,a,b⟩|⟨h,_⟩|⟨h,_⟩)
  ·exact ⟨a,b⟩
  ·cases h
  ·cases h
 ·rintro ⟨a,b⟩;exact .inl ⟨trivial,a,b⟩
theorem crv2 {t:List Int} {s:List Seg}:Crv.ok ⟨2,t,s⟩↔((2≤t.length∧t.length≤17)∧inW 65535 t)∧s.length=0:=by
 unfold Crv.ok inW
 simp only [List.length_eq_zero_iff]
 constructor
 ·rintro (⟨h,_⟩|⟨_,a,b,c⟩|⟨h,_⟩)
  ·cases h
  ·exact ⟨⟨a,b⟩,c⟩
  ·cases h
 ·rintro ⟨⟨a,b⟩,c⟩;exact .inr (.inl ⟨trivial,a,b,c⟩)
theorem crv3 {t:List Int} {s:List Seg}:Crv.ok ⟨3,t,s⟩↔t.length=0∧((1≤s.length∧s.length≤4)∧segsFrom 0 s):=by
 unfold Crv.ok
 simp only [List.length_eq_zero_iff]
 constructor
 ·rintro (⟨h,_⟩|⟨h,_⟩|⟨_,a,b,c⟩)
  ·cases h
  ·cases h
  ·exact ⟨a,b,c⟩
 ·rintro ⟨a,b,c⟩;exact .inr (.inr ⟨trivial,a,b,c⟩)
theorem crv0 {k:Int} {t:List Int} {s:List Seg} (h1:k≠1) (h2:k≠2) (h3:k≠3):¬ Crv.ok ⟨k,t,s⟩:=by
 rintro (⟨h,_⟩|⟨h,_⟩|⟨h,_⟩)
 ·exact h1 h
 ·exact h2 h
 ·exact h3 h
def crvE (c:Crv):Int:=if c.ok then 0 else 90
end Go.Sx
namespace Go.Proofs.YtoednejlfbfciaaGreatDoor
open Go Go.Sx
variable {w0:World} {As:List Ent} {kv:Int} {tv sv:Value} {tab:List Int} {ss:List Seg}
set_option maxRecDepth 100000 in
set_option maxHeartbeats 2000000 in
theorem Zhd [RdIn As sv Seg cSeg ss] (hl:ss.length≤1000000000):CQ Tryz.prog w0 47 [.agg #[.int .i64 kv,tv,sv]] As (.bool (decide ((1≤ss.length∧ss.length≤4)∧segsFrom 0 ss))):=by
 refine Zab Tryz.func47 rfl Tryz.ntmps47 rfl ?_
 by_cases h0:ss.length < 1
 ·repeat' first|refine Kz ?_|intro _
  (refine Zac ?_)
  exact ⟨_,⟨by rw [decide_eq_false (fun k=>by omega)],rfl⟩,Zaa⟩
 by_cases h1:4 < ss.length
 ·repeat' first|refine Kz ?_|intro _
  (refine Zac ?_)
  exact ⟨_,⟨by rw [decide_eq_false (fun k=>by omega)],rfl⟩,Zaa⟩
 repeat' first|refine Kz ?_|intro _
 refine TL.callv rfl rfl rfl rfl Zh1 ?_
 rintro _ _ ⟨bp,rfl,rfl⟩
 repeat' first|refine Kz ?_|intro _
 rename_i b1 b3
 refine Zfp rfl (fun pd As'=>(pd=none∧okTo ss ss.length∧As'=.cl b1 [.int .i64 kv,tv,sv] 25::.cl b3 [.bool true] 4::As) ∨
  (pd=some (.exit 0)∧¬ okTo ss ss.length∧As'=.cl b1 [.int .i64 kv,tv,sv] 25::.cl b3 [.bool false] 4::As)) ?_ ?_ ?_
 ·intro L l rb hL1 hL2 hL3 hL4 hL5 hok
  refine CallsS.ents ?_ (CallsS.mono (Zgl (L:=L) (l:=l) (b:=bp) (kv:=kv) (tv:=tv) (sv:=sv) (ss:=ss) (As:=As) (Y:=fun _=>[.ob rb (.deferred (some [])),.cl b1 [.int .i64 kv,tv,sv] 25,.cl b3 [.bool true] 4])
   (I:=fun k=>okTo ss k)
   (R:=fun k Z=>¬ okTo ss ss.length∧Z=[.ob l (.loop { L with state:=.done,pending:=some (.exit 0) }),.ob rb (.deferred (some [])),.cl b1 [.int .i64 kv,tv,sv] 25,.cl b3 [.bool false] 4])
   hl (by rw [hL3];rfl) (fun j h=>by omega) ?_) ?_)
  ·simp only [List.cons_append,List.nil_append]
   (exact Zaa)
  ·intro k s hk hs hI F
   have hfr:=Zkz hI (by omega)
   have hst:=Zs4 hI hs
   have hno:¬ segOk (fromI ss k) s→¬ okTo ss ss.length:=fun h g=>h (g k hk s hs)
   generalize fromI ss k=fr at *
   generalize decide (k=0)=bk
   refine YieldS.of (ps:=[17]) hL3 hL4 hL5 rfl (by decide) hok ?_
   show Tri _ _ _ _ ((17,.agg #[.int .i64 s.till,.int .i64 s.mul,.int .i64 s.add,.int .i64 s.num,.int .i64 s.den,.int .i64 s.off,.int .i64 fr,.bool bk])::_) (.ob l (.loop L)::.ob rb _::.cl b1 _ _::.cl b3 _ _::F) _
   repeat' first|refine Kz ?_|intro _
   refine Post.beginRound hL1 ?_
   repeat' first|refine Kz ?_|intro _
   refine Ks rfl (Zvh (s:=s) (f:=fr) (b:=bk) hfr) ?_
   by_cases hv:segOk fr s
   ·rw [decide_eq_true hv]
    repeat' first|refine Kz ?_|intro _
    refine Post.endRound ⟨_,.inl ⟨rfl,hst hv,rfl⟩,?_⟩
    simp only [List.cons_append,List.nil_append]
    rw [show ({ L with state:=.ready,pending:=none }:Loop)=L from by cases L;simp only at hL1 hL2;subst hL1 hL2;rfl]
    (exact Zaa)
   ·rw [decide_eq_false hv]
    repeat' first|refine Kz ?_|intro _
    refine Zha ⟨_,.inr ⟨rfl,_,⟨hno hv,rfl⟩,rfl⟩,?_⟩
    simp only [List.cons_append,List.nil_append]
    (exact Zaa)
  ·rintro v Bs (⟨hI,rfl⟩|⟨k,Z,hk,⟨hv,rfl⟩,rfl⟩)
   ·refine ⟨.ready,none,_,.inl ⟨rfl,hI,rfl⟩,by simp,?_⟩
    simp only [List.cons_append,List.nil_append]
    rw [show ({ L with state:=.ready,pending:=none }:Loop)=L from by cases L;simp only at hL1 hL2;subst hL1 hL2;rfl]
    (exact Zaa)
   ·refine ⟨.done,some (.exit 0),_,.inr ⟨rfl,hv,rfl⟩,by simp,?_⟩
    simp only [List.cons_append,List.nil_append]
    (exact Zaa)
 ·rintro As' (⟨_,h,rfl⟩|⟨h,_⟩)
  ·intro rb
   obtain ⟨s,hs⟩:∃ s,ss[ss.length - 1]?=some s:=⟨_,List.getElem?_eq_getElem (by omega)⟩
   have he:fromI ss ss.length=s.till:=by
        have:=Zce hs
        rwa [show ss.length - 1+1=ss.length by omega] at this
   have hcast:((ss.length:Int) - 1)=((ss.length - 1:Nat):Int):=by omega
   repeat' first|refine Kz ?_|intro _
   refine Zc4 ?_
   (refine Zac ?_)
   exact ⟨_,⟨congrArg Value.bool (decide_eq_decide.2 ⟨fun g=>⟨⟨by omega,by omega⟩,Zvx.2 ⟨h,by rw [he];exact g⟩⟩,fun g=>by rw [← he];exact (Zvx.1 g.2).2⟩),rfl⟩,Zaa⟩
  ·cases h
 ·rintro c As' (⟨h,_,_⟩|⟨h,h1,rfl⟩)
  ·cases h
  ·cases h
   intro rb
   repeat' first|refine Kz ?_|intro _
   refine Zc4 ?_
   (refine Zac ?_)
   exact ⟨_,⟨congrArg Value.bool (decide_eq_false fun g=>h1 (Zvx.1 g.2).1).symm,rfl⟩,Zaa⟩
set_option maxRecDepth 100000 in
theorem Zd5 [RdIn As tv Int (cI .i64) tab] [RdIn As sv Seg cSeg ss] (hl:tab.length≤1000000000) (hl':ss.length≤1000000000) :
  CQ Tryz.prog w0 28 [.agg #[.int .i64 kv,tv,sv]] As (.int .i64 (crvE ⟨kv,tab,ss⟩)):=by
 refine Zad tv fun p0 c0 e0=>Zad sv fun p1 c1 e1=>?_
 subst e0 e1
 refine Zab Tryz.func28 rfl Tryz.ntmps28 rfl ?_
 by_cases k1:kv=1
 ·subst k1
  by_cases h0:tab.length=0
  ·by_cases h1:ss.length=0
   ·repeat' first|refine Kz ?_|intro _
    (refine Zac ?_)
    exact ⟨_,⟨by unfold crvE;rw [if_pos (crv1.2 ⟨h0,h1⟩)],rfl⟩,Zaa⟩
   ·repeat' first|refine Kz ?_|intro _
    (refine Zac ?_)
    exact ⟨_,⟨by unfold crvE;rw [if_neg (fun g=>h1 (crv1.1 g).2)],rfl⟩,Zaa⟩
  ·repeat' first|refine Kz ?_|intro _
   (refine Zac ?_)
   exact ⟨_,⟨by unfold crvE;rw [if_neg (fun g=>h0 (crv1.1 g).1)],rfl⟩,Zaa⟩
 by_cases k2:kv=2
 ·subst k2
  repeat' first|refine Kz ?_|intro _
  refine Ks rfl (Zk9 (tv:=.slice p0 tab.length c0) (tab:=tab) hl) ?_
  by_cases h0:(2≤tab.length∧tab.length≤17)∧inW 65535 tab
  ·rw [decide_eq_true h0]
   by_cases h1:ss.length=0
   ·repeat' first|refine Kz ?_|intro _
    (refine Zac ?_)
    exact ⟨_,⟨by unfold crvE;rw [if_pos (crv2.2 ⟨h0,h1⟩)],rfl⟩,Zaa⟩
   ·repeat' first|refine Kz ?_|intro _
    (refine Zac ?_)
    exact ⟨_,⟨by unfold crvE;rw [if_neg (fun g=>h1 (crv2.1 g).2)],rfl⟩,Zaa⟩
  ·rw [decide_eq_false h0]
   repeat' first|refine Kz ?_|intro _
   (refine Zac ?_)
   exact ⟨_,⟨by unfold crvE;rw [if_neg (fun g=>h0 (crv2.1 g).1)],rfl⟩,Zaa⟩
 by_cases k3:kv=3
 ·subst k3
  by_cases h0:tab.length=0
  ·repeat' first|refine Kz ?_|intro _
   refine Ks rfl (Zhd (kv:=3) (tv:=.slice p0 tab.length c0) (sv:=.slice p1 ss.length c1) (ss:=ss) hl') ?_
   by_cases h1:(1≤ss.length∧ss.length≤4)∧segsFrom 0 ss
   ·rw [decide_eq_true h1]
    repeat' first|refine Kz ?_|intro _
    (refine Zac ?_)
    exact ⟨_,⟨by unfold crvE;rw [if_pos (crv3.2 ⟨h0,h1⟩)],rfl⟩,Zaa⟩
   ·rw [decide_eq_false h1]
    repeat' first|refine Kz ?_|intro _
    (refine Zac ?_)
    exact ⟨_,⟨by unfold crvE;rw [if_neg (fun g=>h1 (crv3.1 g).2)],rfl⟩,Zaa⟩
  ·repeat' first|refine Kz ?_|intro _
   (refine Zac ?_)
   exact ⟨_,⟨by unfold crvE;rw [if_neg (fun g=>h0 (crv3.1 g).1)],rfl⟩,Zaa⟩
 ·repeat' first|refine Kz ?_|intro _
  (refine Zac ?_)
  exact ⟨_,⟨by unfold crvE;rw [if_neg (crv0 k1 k2 k3)],rfl⟩,Zaa⟩
set_option maxRecDepth 100000 in
set_option maxHeartbeats 2000000 in
theorem Zk8 [RdIn As tv Int (cI .i64) tab] [RdIn As sv Seg cSeg ss] (hl:tab.length≤1000000000) (hl':ss.length≤1000000000) :
  CQ Tryz.prog w0 29 [.agg #[.int .i64 kv,tv,sv]] As (.bool (decide (Crv.ok ⟨kv,tab,ss⟩∧Crv.exact ⟨kv,tab,ss⟩))):=by
 refine Zad tv fun p0 c0 e0=>Zad sv fun p1 c1 e1=>?_
 subst e0 e1
 refine Zab Tryz.func29 rfl Tryz.ntmps29 rfl ?_
 repeat' first|refine Kz ?_|intro _
 rename_i b1 b2
 refine Ks rfl (Zd5 (kv:=kv) (tv:=.slice p0 tab.length c0) (tab:=tab) (sv:=.slice p1 ss.length c1) (ss:=ss) hl hl') ?_
 by_cases hk:Crv.ok ⟨kv,tab,ss⟩
 case neg =>
  unfold crvE
  rw [if_neg hk]
  repeat' first|refine Kz ?_|intro _
  (refine Zac ?_)
  exact ⟨_,⟨by rw [decide_eq_false (fun g=>hk g.1)],rfl⟩,Zaa⟩
 unfold crvE
 rw [if_pos hk]
 repeat' first|refine Kz ?_|intro _
 refine TL.callv rfl rfl rfl rfl Zh1 ?_
 rintro _ _ ⟨bp,rfl,rfl⟩
 repeat' first|refine Kz ?_|intro _
 have hex:Crv.exact ⟨kv,tab,ss⟩↔∀ j < ss.length,∀ s,ss[j]?=some s→s.den=1:=by
  constructor
  ·intro g j _ s hs;exact g s (List.mem_of_getElem? hs)
  ·intro g s hs
   obtain ⟨j,hj⟩:=List.mem_iff_getElem?.1 hs
   exact g j (List.getElem?_eq_some_iff.1 hj).1 s hj
 refine Zfp rfl (fun pd As'=>(pd=none∧Crv.exact ⟨kv,tab,ss⟩∧As'=.cl b1 [.int .i64 kv,.slice p0 tab.length c0,.slice p1 ss.length c1] 25::.cl b2 [.bool false] 4::As) ∨
  (pd=some .ret∧¬ Crv.exact ⟨kv,tab,ss⟩∧As'=.cl b1 [.int .i64 kv,.slice p0 tab.length c0,.slice p1 ss.length c1] 25::.cl b2 [.bool false] 4::As)) ?_ ?_ ?_
 ·intro L l rb hL1 hL2 hL3 hL4 hL5 hok
  refine CallsS.ents ?_ (CallsS.mono (Zgl (L:=L) (l:=l) (b:=bp) (kv:=kv) (tv:=.slice p0 tab.length c0) (sv:=.slice p1 ss.length c1) (ss:=ss) (As:=As) (Y:=fun _=>[.ob rb (.deferred (some [])),.cl b1 [.int .i64 kv,.slice p0 tab.length c0,.slice p1 ss.length c1] 25,.cl b2 [.bool false] 4])
   (I:=fun k=>∀ j < k,∀ s,ss[j]?=some s→s.den=1)
   (R:=fun k Z=>¬ Crv.exact ⟨kv,tab,ss⟩∧Z=[.ob l (.loop { L with state:=.done,pending:=some .ret }),.ob rb (.deferred (some [])),.cl b1 [.int .i64 kv,.slice p0 tab.length c0,.slice p1 ss.length c1] 25,.cl b2 [.bool false] 4])
   hl' (by rw [hL3];rfl) (fun j h=>by omega) ?_) ?_)
  ·simp only [List.cons_append,List.nil_append]
   (exact Zaa)
  ·intro k s hk hs hI F
   have hst:s.den=1→∀ j < k+1,∀ s,ss[j]?=some s→s.den=1:=fun h j hj t ht=>by
        rcases Nat.lt_or_ge j k with h1|h1
        ·exact hI j h1 t ht
        ·have e:j=k:=by omega
         subst e
         rw [hs] at ht
         rw [← Option.some.inj ht];exact h
   have hno:s.den≠1→¬ Crv.exact ⟨kv,tab,ss⟩:=fun h g=>h (g s (List.mem_of_getElem? hs))
   generalize fromI ss k=fr at *
   generalize decide (k=0)=bk
   refine YieldS.of (ps:=[9]) hL3 hL4 hL5 rfl (by decide) hok ?_
   show Tri _ _ _ _ ((9,.agg #[.int .i64 s.till,.int .i64 s.mul,.int .i64 s.add,.int .i64 s.num,.int .i64 s.den,.int .i64 s.off,.int .i64 fr,.bool bk])::_) (.ob l (.loop L)::.ob rb _::.cl b1 _ _::.cl b2 _ _::F) _
   repeat' first|refine Kz ?_|intro _
   refine Post.beginRound hL1 ?_
   by_cases hv:s.den=1
   ·repeat' first|refine Kz ?_|intro _
    refine Post.endRound ⟨_,.inl ⟨rfl,hst hv,rfl⟩,?_⟩
    simp only [List.cons_append,List.nil_append]
    rw [show ({ L with state:=.ready,pending:=none }:Loop)=L from by cases L;simp only at hL1 hL2;subst hL1 hL2;rfl]
    (exact Zaa)
   ·repeat' first|refine Kz ?_|intro _
    refine Zoq ⟨_,.inr ⟨rfl,_,⟨hno hv,rfl⟩,rfl⟩,?_⟩
    simp only [List.cons_append,List.nil_append]
    (exact Zaa)
  ·rintro v Bs (⟨hI,rfl⟩|⟨k,Z,hk,⟨hv,rfl⟩,rfl⟩)
   ·refine ⟨.ready,none,_,.inl ⟨rfl,hex.2 hI,rfl⟩,by simp,?_⟩
    simp only [List.cons_append,List.nil_append]
    rw [show ({ L with state:=.ready,pending:=none }:Loop)=L from by cases L;simp only at hL1 hL2;subst hL1 hL2;rfl]
    (exact Zaa)
   ·refine ⟨.done,some .ret,_,.inr ⟨rfl,hv,rfl⟩,by simp,?_⟩
    simp only [List.cons_append,List.nil_append]
    (exact Zaa)
 ·rintro As' (⟨_,h,rfl⟩|⟨h,_⟩)
  ·intro rb
   repeat' first|refine Kz ?_|intro _
   refine Zc4 ?_
   (refine Zac ?_)
   exact ⟨_,⟨by rw [decide_eq_true ⟨hk,h⟩],rfl⟩,Zaa⟩
  ·cases h
 ·rintro c As' (⟨h,_,_⟩|⟨h,h1,rfl⟩)
  ·cases h
  ·cases h
   intro rb
   repeat' first|refine Kz ?_|intro _
   refine Zc4 ?_
   (refine Zac ?_)
   exact ⟨_,⟨by rw [decide_eq_false (fun g=>h1 g.2)],rfl⟩,Zaa⟩
end Go.Proofs.YtoednejlfbfciaaGreatDoor
