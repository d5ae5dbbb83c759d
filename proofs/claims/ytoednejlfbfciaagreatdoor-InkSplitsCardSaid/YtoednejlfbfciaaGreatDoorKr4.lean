/- Walks: ink's reference: rules; Split. -/
import Derived.Test.YtoednejlfbfciaaGreatDoorKw2
import Derived.Test.YtoednejlfbfciaaGreatDoorKr1
import Derived.Test.YtoednejlfbfciaaGreatDoorKr5
set_option maxHeartbeats 1000000
namespace Go.Sx
open Go
theorem Ztd {c m y:Int}:(if (if y < m then y else m) < c then (if y < m then y else m) else c)=greyI c m y:=by unfold greyI;split<;>split at *<;>omega
end Go.Sx
namespace Go.Proofs.YtoednejlfbfciaaGreatDoor
open Go Go.Sx
variable {w0:World} {As:List Ent} {kv n:Int} {tv sv:Value} {tab:List Int} {ss:List Seg}
theorem Zs6 {n:Int} (hn:-1000000000000≤n∧n≤1000000000000):CallsS Tryz.prog w0 39 [.int .i64 n,.int .i64 10000] As fun u Bs=>u=.agg #[.string ⟨(tN (mkRat n 10000)).toArray⟩,.string ⟨(tD (mkRat n 10000)).toArray⟩]∧Bs=As :=
 Zym (n:=n) (d:=10000) hn (by decide)
set_option maxRecDepth 100000 in
theorem Zd2 [RdIn As tv Int (cI .i64) tab] [RdIn As sv Seg cSeg ss] (hl:tab.length≤1000000000) (hl':ss.length≤1000000000) :
  CQ Tryz.prog w0 12 [.agg #[.int .i64 kv,tv,sv,.int .i64 n]] As (.int .i64 (rulesE ⟨kv,tab,ss⟩ n)):=by
 refine Zad tv fun p0 c0 e0=>Zad sv fun p1 c1 e1=>?_
 subst e0 e1
 refine Zab Tryz.func12 rfl Tryz.ntmps12 rfl ?_
 repeat' first|refine Kz ?_|intro _
 refine Ks rfl (Zrk (kv:=kv) (tv:=.slice p0 tab.length c0) (tab:=tab) (sv:=.slice p1 ss.length c1) (ss:=ss) hl hl') ?_
 by_cases hk:Crv.ok ⟨kv,tab,ss⟩
 case neg =>
  unfold crvE
  rw [if_neg hk]
  repeat' first|refine Kz ?_|intro _
  (refine Zac ?_)
  exact ⟨_,⟨by unfold rulesE;rw [if_pos hk],rfl⟩,Zaa⟩
 unfold crvE
 rw [if_pos hk]
 repeat' first|refine Kz ?_|intro _
 refine Ks rfl (Zrd (kv:=kv) (tv:=.slice p0 tab.length c0) (tab:=tab) (sv:=.slice p1 ss.length c1) (ss:=ss) hl hl') ?_
 by_cases hx:Crv.ok ⟨kv,tab,ss⟩∧Crv.exact ⟨kv,tab,ss⟩
 case neg =>
  rw [decide_eq_false hx]
  repeat' first|refine Kz ?_|intro _
  (refine Zac ?_)
  exact ⟨_,⟨by unfold rulesE;rw [if_neg (fun g=>g hk),if_pos (.inl fun g=>hx ⟨hk,g⟩)],rfl⟩,Zaa⟩
 rw [decide_eq_true hx]
 by_cases h1:n < 10000
 ·repeat' first|refine Kz ?_|intro _
  (refine Zac ?_)
  exact ⟨_,⟨by unfold rulesE;rw [if_neg (fun g=>g hk),if_pos (.inr (.inl h1))],rfl⟩,Zaa⟩
 by_cases h2:40000 < n
 ·repeat' first|refine Kz ?_|intro _
  (refine Zac ?_)
  exact ⟨_,⟨by unfold rulesE;rw [if_neg (fun g=>g hk),if_pos (.inr (.inr h2))],rfl⟩,Zaa⟩
 ·repeat' first|refine Kz ?_|intro _
  (refine Zac ?_)
  exact ⟨_,⟨by unfold rulesE;rw [if_neg (fun g=>g hk),if_neg (by rintro (g|g|g);exact g hx.2;exact h1 g;exact h2 g)],rfl⟩,Zaa⟩
set_option maxRecDepth 100000 in
set_option maxHeartbeats 1000000 in
theorem Zdq [RdIn As tv Int (cI .i64) tab] [RdIn As sv Seg cSeg ss] (hl:tab.length≤1000000000) (hl':ss.length≤1000000000) {c m y:Int} :
  CallsS Tryz.prog w0 14 [.agg #[.int .i64 c,.int .i64 m,.int .i64 y],.agg #[.int .i64 kv,tv,sv,.int .i64 n]] As
   fun u Bs=>u=.tuple #[(splitA (splitW c m y ⟨kv,tab,ss⟩ n)).val,.int .i64 (splitE (splitW c m y ⟨kv,tab,ss⟩ n))]∧Bs=As:=by
 refine Zad tv fun p0 c0 e0=>Zad sv fun p1 c1 e1=>?_
 subst e0 e1
 refine Zab Tryz.func14 rfl Tryz.ntmps14 rfl ?_
 repeat' first|refine Kz ?_|intro _
 refine TL.f rfl rfl (Zay rfl Zb3 (Nat.le_refl _) (by decide)) ?_
 repeat' first|refine Kz ?_|intro _
 refine Ks rfl (Zdb (xs:=[c,m,y]) (by simp)) ?_
 by_cases h:inW 10000 [c,m,y]
 case neg =>
  rw [decide_eq_false h]
  repeat' first|refine Kz ?_|intro _
  (refine Zac ?_)
  exact ⟨_,⟨by unfold splitW;rw [if_pos (fun g=>h (Z2a.2 g))];rfl,rfl⟩,Zaa⟩
 rw [decide_eq_true h]
 have h3:=Z2a.1 h
 have hg:=Zpw h3
 repeat' first|refine Kz ?_|intro _
 refine Ks rfl (Zd2 (n:=n) (kv:=kv) (tv:=.slice p0 tab.length c0) (tab:=tab) (sv:=.slice p1 ss.length c1) (ss:=ss) hl hl') ?_
 by_cases hr:rulesE ⟨kv,tab,ss⟩ n=0
 case neg =>
  generalize hre:rulesE ⟨kv,tab,ss⟩ n=r at *
  repeat' first|refine Kz ?_|intro _
  (refine Zac ?_)
  exact ⟨_,⟨by unfold splitW;rw [if_neg (fun g=>g h3),if_pos (by rw [hre];exact hr),hre];rfl,rfl⟩,Zaa⟩
 rw [hr]
 obtain ⟨hc,hx,n0,n1⟩:=Zkk hr
 have hw:splitW c m y ⟨kv,tab,ss⟩ n=.inr (splitI c m y (blackI ⟨kv,tab,ss⟩ (greyI c m y)) n):=by unfold splitW;rw [if_neg (fun g=>g h3),if_neg (fun g=>g hr)]
 rw [hw]
 have ha:=fun Bs [RdIn Bs (.slice p0 tab.length c0) Int (cI .i64) tab] [RdIn Bs (.slice p1 ss.length c1) Seg cSeg ss]=>Zv3 (w0:=w0) (As:=Bs) (kv:=kv) (tv:=.slice p0 tab.length c0) (tab:=tab) (sv:=.slice p1 ss.length c1) (ss:=ss) hl hl' hc hx hg.1 hg.2
 have hk:=Zio hc hx (greyI c m y)
 have hbl:∀ z,crvQ ⟨kv,tab,ss⟩ (mkRat (greyI c m y) 10000)=.inr z→Q.nearQ z 10000=blackI ⟨kv,tab,ss⟩ (greyI c m y):=fun z hz=>by unfold blackI;rw [hz]
 have hgc:greyI c m y≤c∧greyI c m y≤m∧greyI c m y≤y:=by unfold greyI;omega
 obtain ⟨⟨i1,i2⟩,⟨i3,i4⟩,⟨i5,i6⟩⟩:=h3
 generalize blackI ⟨kv,tab,ss⟩ (greyI c m y)=k at *
 rw [show splitI c m y k n=cutI ⟨c - min k (greyI c m y),m - min k (greyI c m y),y - min k (greyI c m y),k⟩ n from rfl]
 clear hw hr h
 repeat' first|refine Kz ?_|intro _
 rw [Ztd]
 generalize greyI c m y=g at *
 repeat' first|refine Kz ?_|intro _
 rename_i b2 b3 b4
 refine Zaj (.cl b3 [.int .i64 kv,.slice p0 tab.length c0,.slice p1 ss.length c1,.int .i64 n] 27::As) [] (.take 0 (.take 1 (.take 2 (.all [(3,.all [(4,.take 5 (.take 6 (.take 7 (.all [(8,.all [(9,.take 10 (.done))])])))),(8,.all [(4,.take 5 (.take 6 (.take 7 (.all [(9,.take 10 (.done))]))))])]),(8,.all [(3,.all [(4,.take 5 (.take 6 (.take 7 (.all [(9,.take 10 (.done))]))))])])])))) ?_
 repeat' first|refine Kf ?_|intro _|constructor
 repeat' (first|(refine T1.callv rfl rfl rfl rfl rfl (Zs6 (n:=g) (by omega)) ?_;rintro _ _ ⟨rfl,rfl⟩;(repeat' first|refine Kf ?_|intro _|constructor))|(refine T1.callv rfl rfl rfl rfl rfl (ha _) ?_;rintro _ _ ⟨z,hz,hzf,rfl,rfl⟩;(repeat' first|refine Kf ?_|intro _|constructor)))
 all_goals have hzk:=hbl z hz
 all_goals refine TL.callv rfl rfl rfl rfl (Zs9 (r:=z) hzf (by rw [hzk];exact hk)) ?_
 all_goals rw [hzk]
 all_goals rintro _ _ ⟨rfl,rfl⟩
 all_goals (repeat' first|refine Kf ?_|intro _|constructor)
 all_goals rw [show (if g < k then g else k)=min k g by split<;>omega]
 all_goals (repeat' first|refine Kf ?_|intro _|constructor)
 all_goals refine TL.callv rfl rfl rfl rfl (Zko (c:=c - min k g) (m:=m - min k g) (y:=y - min k g) (k:=k) (n:=n) (by omega) (by omega) (by omega) (by omega) (by omega)) ?_
 all_goals rintro _ _ ⟨rfl,rfl⟩
 all_goals generalize cutI ⟨c - min k g,m - min k g,y - min k g,k⟩ n=q
 all_goals obtain ⟨q1,q2,q3,q4⟩:=q
 all_goals show TL _ _ _ _ _ ((_,.agg #[.int .i64 q1,.int .i64 q2,.int .i64 q3,.int .i64 q4])::_) _ _
 all_goals (repeat' first|refine Kf ?_|intro _|constructor)
 all_goals (refine Zac ?_)
 all_goals exact ⟨_,⟨rfl,rfl⟩,Zaa⟩
end Go.Proofs.YtoednejlfbfciaaGreatDoor
