/- Walks: ink: ranges, sums, amounts cut to a greatest total. -/
import Derived.Test.YtoednejlfbfciaaGreatDoorSxW
import Derived.Test.YtoednejlfbfciaaGreatDoorKp1
import Derived.Test.YtoednejlfbfciaaGreatDoorTy
set_option maxHeartbeats 1000000
namespace Go.Sx
open Go
def inW (n:Int) (xs:List Int):Prop:=∀ x∈xs,0≤x∧x≤n
instance (n:Int) (xs:List Int):Decidable (inW n xs):=by unfold inW;infer_instance
theorem Zho {n p:Int} {xs:List Int} {k:Nat} (h:inW n (xs.take k)) (hp:xs[k]?=some p) (h0:0≤p∧p≤n):inW n (xs.take (k+1)):=by
 intro x hx
 rw [List.take_add_one,hp] at hx
 rcases List.mem_append.1 hx with h1|h1
 ·exact h x h1
 ·simp at h1;rw [h1];exact h0
theorem Z19 {n x:Int}:inW n [x]↔0≤x∧x≤n:=by simp [inW]
theorem Ztm {n x y z:Int}:inW n [x,y,z]↔(0≤x∧x≤n)∧(0≤y∧y≤n)∧(0≤z∧z≤n):=by simp [inW]
theorem Z1i {n x y z u:Int}:inW n [x,y,z,u]↔(0≤x∧x≤n)∧(0≤y∧y≤n)∧(0≤z∧z≤n)∧(0≤u∧u≤n):=by simp [inW]
def sumI (xs:List Int):Int:=xs.foldl (·+·) 0
theorem Zsf {p:Int} {xs:List Int} {k:Nat} (hp:xs[k]?=some p):sumI (xs.take (k+1))=sumI (xs.take k)+p:=by
 unfold sumI
 rw [List.take_add_one,hp]
 simp
theorem Zlz {x y z u:Int}:sumI [x,y,z,u]=x+y+z+u:=by simp [sumI]
theorem Zqq {x y z:Int}:sumI [x,y,z]=x+y+z:=by simp [sumI]
def Ink.val (a:Ink):Value:=.agg #[.int .i64 a.c,.int .i64 a.m,.int .i64 a.y,.int .i64 a.k]
def Ink.list (a:Ink):List Int:=[a.c,a.m,a.y,a.k]
def Ink.zero:Ink:=⟨0,0,0,0⟩
def totalW (a:Ink):Int × Int:=if inW 65535 a.list then (a.tot,0) else (0,2)
def cutW (a:Ink) (n:Int):Ink × Int:=if inW 65535 a.list∧0≤n∧n≤262140 then (cutI a n,0) else (Ink.zero,2)
def limitW (a:Ink) (n:Int):Ink × Int:=if ¬ inW 10000 a.list then (Ink.zero,2) else if n < 10000∨40000 < n then (Ink.zero,390) else (cutI a n,0)
theorem Zhm {x r:Int} (hx:0≤x∧x≤65535) (hr:0≤r∧r≤262140):0≤x * r∧x * r≤17179344900:=by
 have h1:=Int.mul_nonneg hx.1 hr.1
 have h2:=Int.mul_le_mul hx.2 hr.2 hr.1 (by decide)
 exact ⟨h1,h2⟩
end Go.Sx
namespace Go.Proofs.YtoednejlfbfciaaGreatDoor
open Go Go.Sx
variable {w0:World} {As:List Ent}
theorem Zcw {n:Int} {v:Value} {xs:List Int} [RdIn As v Int (cI .i64) xs] (hl:xs.length≤1000000000):CQ Tryz.prog w0 33 [.int .i64 n,v] As (.bool (decide (inW n xs))):=by
 refine Zab Tryz.func33 rfl Tryz.ntmps33 rfl ?_
 repeat' first|refine Kz ?_|intro _
 refine Tri.loop (ι:=Nat) (fun k=>k≤xs.length∧inW n (xs.take k)) (fun k=>xs.length - k)
  (fun k=>[(0,.int .i64 n),(7,v),(8,.int .i64 xs.length),(9,.int .i64 k)]) (fun _=>As) 0 ⟨by omega,fun _ h=>by simp at h⟩ Zae Zaa ?_
 intro k ⟨hk,hf⟩
 repeat' first|refine Kz ?_|intro _
 (refine Kx (fun hc=>?_) fun hc=>?_)
 ·obtain ⟨p,hp⟩:∃ p,xs[k]?=some p:=⟨_,List.getElem?_eq_getElem (by omega)⟩
  have hm:=List.mem_of_getElem? hp
  by_cases h0:p < 0
  ·repeat' first|refine Kz ?_|intro _
   (refine Zac ?_)
   exact ⟨_,⟨by rw [decide_eq_false (fun h=>by have:=(h p hm).1;omega)],rfl⟩,Zaa⟩
  ·by_cases h1:n < p
   ·repeat' first|refine Kz ?_|intro _
    (refine Zac ?_)
    exact ⟨_,⟨by rw [decide_eq_false (fun h=>by have:=(h p hm).2;omega)],rfl⟩,Zaa⟩
   ·repeat' first|refine Kz ?_|intro _
    exact Post.round (k+1) ⟨by omega,Zho hf hp ⟨by omega,by omega⟩⟩ (by omega) Zae Zaa
 ·repeat' first|refine Kz ?_|intro _
  (refine Zac ?_)
  exact ⟨_,⟨by rw [decide_eq_true (by rw [List.take_of_length_le (by omega)] at hf;exact hf)],rfl⟩,Zaa⟩
theorem Zdb {n:Int} {v:Value} {xs:List Int} [RdIn As v Int (cI .i64) xs] (hl:xs.length≤1000000000):CQ Tryz.prog w0 37 [v,.int .i64 n] As (.bool (decide (inW n xs))):=by
 refine Zab Tryz.func37 rfl Tryz.ntmps37 rfl ?_
 repeat' first|refine Kz ?_|intro _
 refine Tri.loop (ι:=Nat) (fun k=>k≤xs.length∧inW n (xs.take k)) (fun k=>xs.length - k)
  (fun k=>[(0,v),(1,.int .i64 n),(5,.int .i64 k)]) (fun _=>As) 0 ⟨by omega,fun _ h=>by simp at h⟩ Zae Zaa ?_
 intro k ⟨hk,hf⟩
 repeat' first|refine Kz ?_|intro _
 (refine Kx (fun hc=>?_) fun hc=>?_)
 ·obtain ⟨p,hp⟩:∃ p,xs[k]?=some p:=⟨_,List.getElem?_eq_getElem (by omega)⟩
  have hm:=List.mem_of_getElem? hp
  by_cases h0:p < 0
  ·repeat' first|refine Kz ?_|intro _
   (refine Zac ?_)
   exact ⟨_,⟨by rw [decide_eq_false (fun h=>by have:=(h p hm).1;omega)],rfl⟩,Zaa⟩
  ·by_cases h1:n < p
   ·repeat' first|refine Kz ?_|intro _
    (refine Zac ?_)
    exact ⟨_,⟨by rw [decide_eq_false (fun h=>by have:=(h p hm).2;omega)],rfl⟩,Zaa⟩
   ·repeat' first|refine Kz ?_|intro _
    exact Post.round (k+1) ⟨by omega,Zho hf hp ⟨by omega,by omega⟩⟩ (by omega) Zae Zaa
 ·repeat' first|refine Kz ?_|intro _
  (refine Zac ?_)
  exact ⟨_,⟨by rw [decide_eq_true (by rw [List.take_of_length_le (by omega)] at hf;exact hf)],rfl⟩,Zaa⟩
theorem Zkc {v:Value} {xs:List Int} [RdIn As v Int (cI .i64) xs] (hl:xs.length≤4) (hb:inW 1000000 xs):CQ Tryz.prog w0 42 [v] As (.int .i64 (sumI xs)):=by
 refine Zab Tryz.func42 rfl Tryz.ntmps42 rfl ?_
 repeat' first|refine Kz ?_|intro _
 refine Tri.loop (ι:=Nat) (fun k=>k≤xs.length∧0≤sumI (xs.take k)∧sumI (xs.take k)≤1000000 * k) (fun k=>xs.length - k)
  (fun k=>[(3,.int .i64 (sumI (xs.take k))),(6,v),(7,.int .i64 xs.length),(8,.int .i64 k)]) (fun _=>As) 0 ⟨by omega,by simp [sumI],by simp [sumI]⟩ Zae Zaa ?_
 intro k ⟨hk,hs0,hs1⟩
 repeat' first|refine Kz ?_|intro _
 (refine Kx (fun hc=>?_) fun hc=>?_)
 ·obtain ⟨p,hp⟩:∃ p,xs[k]?=some p:=⟨_,List.getElem?_eq_getElem (by omega)⟩
  have hm:=hb p (List.mem_of_getElem? hp)
  have hst:=Zsf hp
  repeat' first|refine Kz ?_|intro _
  refine Post.round (k+1) ⟨by omega,by rw [hst];omega,by rw [hst];omega⟩ (by omega) ?_ Zaa
  rw [hst]
  (exact Zae)
 ·rw [List.take_of_length_le (by omega)]
  repeat' first|refine Kz ?_|intro _
  exact Kv
theorem Zip {n:Int}:CQ Tryz.prog w0 30 [.int .i64 n] As (.bool (decide (n < 10000∨40000 < n))):=by
 refine Zab Tryz.func30 rfl Tryz.ntmps30 rfl ?_
 by_cases h0:n < 10000
 ·repeat' first|refine Kz ?_|intro _
  (refine Zac ?_)
  exact ⟨_,⟨by simp [h0],rfl⟩,Zaa⟩
 ·repeat' first|refine Kz ?_|intro _
  (refine Zac ?_)
  exact ⟨_,⟨by simp [h0],rfl⟩,Zaa⟩
theorem Zcy {x r s:Int} {b5 b6:Nat} (hx:0≤x∧x≤65535) (hr:0≤r∧r≤262140) (hs:0≤s∧s≤1000000) :
  CallsS Tryz.prog w0 53 [.int .i64 x,.pointer (some ⟨b5,0,none⟩),.pointer (some ⟨b6,0,none⟩)] (.cl b6 [.int .i64 r] 3::.cl b5 [.int .i64 s] 3::As)
   fun u Bs=>u=.int .i64 (partI x r s)∧Bs=.cl b6 [.int .i64 r] 3::.cl b5 [.int .i64 s] 3::As:=by
 have hb:=Zhm hx hr
 refine Zab Tryz.func53 rfl Tryz.ntmps53 rfl ?_
 repeat' first|refine Kz ?_|intro _
 (refine Kx (fun hc=>?_) fun hc=>?_)
 ·repeat' first|refine Kz ?_|intro _
  (refine Zac ?_)
  exact ⟨_,⟨by unfold partI;rw [if_pos (by omega)],rfl⟩,Zaa⟩
 ·repeat' first|refine Kz ?_|intro _
  (refine Zac ?_)
  exact ⟨_,⟨by unfold partI;rw [if_neg (by omega)],rfl⟩,Zaa⟩
set_option maxRecDepth 100000 in
theorem Zk6 {c m y k n:Int} (hc:0≤c∧c≤65535) (hm:0≤m∧m≤65535) (hy:0≤y∧y≤65535) (hk:0≤k∧k≤65535) (_hn:0≤n∧n≤262140) :
  CQ Tryz.prog w0 36 [.agg #[.int .i64 c,.int .i64 m,.int .i64 y,.int .i64 k],.int .i64 n] As ((cutI ⟨c,m,y,k⟩ n).val):=by
 refine Zab Tryz.func36 rfl Tryz.ntmps36 rfl ?_
 repeat' first|refine Kz ?_|intro _
 refine TL.f rfl rfl (Zay rfl Zb3 (Nat.le_refl _) (by decide)) ?_
 repeat' first|refine Kz ?_|intro _
 refine Ks rfl (Zkc (xs:=[c,m,y,k]) (by simp) (Z1i.2 (by omega))) ?_
 rw [Zlz]
 repeat' first|refine Kz ?_|intro _
 (refine Kx (fun hc=>?_) fun hc=>?_)
 ·repeat' first|refine Kz ?_|intro _
  (refine Zac ?_)
  exact ⟨_,⟨by unfold cutI Ink.tot;rw [if_pos (by simp only;omega)];rfl,rfl⟩,Zaa⟩
 ·repeat' first|refine Kz ?_|intro _
  refine TL.f rfl rfl (Zay rfl (Zdl (i:=3) rfl) (by decide) (by decide)) ?_
  repeat' first|refine Kz ?_|intro _
  refine Ks rfl (Zkc (xs:=[c,m,y]) (by simp) (Ztm.2 (by omega))) ?_
  rw [Zqq]
  repeat' first|refine Kz ?_|intro _
  rename_i b5 b6
  rw [show (if n < k then n else k)=min k n by split<;>omega]
  refine Zbh 4 ?_
  repeat' first|refine Kz ?_|intro _
  iterate 3
   refine Ks rfl (Zaz (.cl b5 [.int .i64 (c+m+y)] 3) (Zaz (.cl b6 [.int .i64 (n - min k n)] 3) (Zcy (by omega) (by omega) (by omega)))) ?_
   repeat' first|refine Kz ?_|intro _
  (refine Zac ?_)
  exact ⟨_,⟨by unfold cutI Ink.tot;rw [if_neg (by simp only;omega)];rfl,rfl⟩,Zaa⟩
theorem Zsa {c m y k:Int}:CQ Tryz.prog w0 17 [.agg #[.int .i64 c,.int .i64 m,.int .i64 y,.int .i64 k]] As (.tuple #[.int .i64 (totalW ⟨c,m,y,k⟩).1,.int .i64 (totalW ⟨c,m,y,k⟩).2]):=by
 refine Zab Tryz.func17 rfl Tryz.ntmps17 rfl ?_
 repeat' first|refine Kz ?_|intro _
 refine TL.f rfl rfl (Zay rfl Zb3 (Nat.le_refl _) (by decide)) ?_
 repeat' first|refine Kz ?_|intro _
 refine Ks rfl (Zcw (xs:=[c,m,y,k]) (by simp)) ?_
 by_cases h:inW 65535 [c,m,y,k]
 ·rw [decide_eq_true h]
  have h4:=Z1i.1 h
  repeat' first|refine Kz ?_|intro _
  refine TL.f rfl rfl (Zay rfl Zb3 (Nat.le_refl _) (by decide)) ?_
  repeat' first|refine Kz ?_|intro _
  refine Ks rfl (Zkc (xs:=[c,m,y,k]) (by simp) (Z1i.2 (by omega))) ?_
  rw [Zlz]
  repeat' first|refine Kz ?_|intro _
  (refine Zac ?_)
  exact ⟨_,⟨by unfold totalW Ink.list;rw [if_pos h];rfl,rfl⟩,Zaa⟩
 ·rw [decide_eq_false h]
  repeat' first|refine Kz ?_|intro _
  (refine Zac ?_)
  exact ⟨_,⟨by unfold totalW Ink.list;rw [if_neg h],rfl⟩,Zaa⟩
theorem Zk5 {c m y k n:Int}:CQ Tryz.prog w0 16 [.agg #[.int .i64 c,.int .i64 m,.int .i64 y,.int .i64 k],.int .i64 n] As (.tuple #[(cutW ⟨c,m,y,k⟩ n).1.val,.int .i64 (cutW ⟨c,m,y,k⟩ n).2]):=by
 refine Zab Tryz.func16 rfl Tryz.ntmps16 rfl ?_
 repeat' first|refine Kz ?_|intro _
 refine TL.f rfl rfl (Zay rfl Zb3 (Nat.le_refl _) (by decide)) ?_
 repeat' first|refine Kz ?_|intro _
 refine Ks rfl (Zcw (xs:=[c,m,y,k]) (by simp)) ?_
 by_cases h:inW 65535 [c,m,y,k]
 ·rw [decide_eq_true h]
  have h4:=Z1i.1 h
  repeat' first|refine Kz ?_|intro _
  refine Ks rfl (Zcw (xs:=[n]) (by simp)) ?_
  by_cases hn:inW 262140 [n]
  ·rw [decide_eq_true hn]
   have hn1:=Z19.1 hn
   repeat' first|refine Kz ?_|intro _
   refine Ks rfl (Zk6 (by omega) (by omega) (by omega) (by omega) hn1) ?_
   generalize hq:cutI ⟨c,m,y,k⟩ n=q
   obtain ⟨q1,q2,q3,q4⟩:=q
   show TL _ _ _ _ _ ((_,.agg #[.int .i64 q1,.int .i64 q2,.int .i64 q3,.int .i64 q4])::_) _ _
   repeat' first|refine Kz ?_|intro _
   (refine Zac ?_)
   exact ⟨_,⟨by unfold cutW Ink.list;rw [if_pos ⟨h,hn1⟩,hq];rfl,rfl⟩,Zaa⟩
  ·rw [decide_eq_false hn]
   repeat' first|refine Kz ?_|intro _
   (refine Zac ?_)
   exact ⟨_,⟨by unfold cutW Ink.list;rw [if_neg (fun g=>hn (Z19.2 g.2))];rfl,rfl⟩,Zaa⟩
 ·rw [decide_eq_false h]
  repeat' first|refine Kz ?_|intro _
  (refine Zac ?_)
  exact ⟨_,⟨by unfold cutW Ink.list;rw [if_neg (fun g=>h g.1)];rfl,rfl⟩,Zaa⟩
theorem Zic {c m y k n:Int}:CQ Tryz.prog w0 20 [.agg #[.int .i64 c,.int .i64 m,.int .i64 y,.int .i64 k],.int .i64 n] As (.tuple #[(limitW ⟨c,m,y,k⟩ n).1.val,.int .i64 (limitW ⟨c,m,y,k⟩ n).2]):=by
 refine Zab Tryz.func20 rfl Tryz.ntmps20 rfl ?_
 repeat' first|refine Kz ?_|intro _
 refine TL.f rfl rfl (Zay rfl Zb3 (Nat.le_refl _) (by decide)) ?_
 repeat' first|refine Kz ?_|intro _
 refine Ks rfl (Zcw (xs:=[c,m,y,k]) (by simp)) ?_
 by_cases h:inW 10000 [c,m,y,k]
 ·rw [decide_eq_true h]
  have h4:=Z1i.1 h
  repeat' first|refine Kz ?_|intro _
  refine Ks rfl Zip ?_
  by_cases hn:n < 10000∨40000 < n
  ·rw [decide_eq_true hn]
   repeat' first|refine Kz ?_|intro _
   (refine Zac ?_)
   exact ⟨_,⟨by unfold limitW Ink.list;rw [if_neg (fun g=>g h),if_pos hn];rfl,rfl⟩,Zaa⟩
  ·rw [decide_eq_false hn]
   repeat' first|refine Kz ?_|intro _
   refine Ks rfl (Zk6 (by omega) (by omega) (by omega) (by omega) (by omega)) ?_
   generalize hq:cutI ⟨c,m,y,k⟩ n=q
   obtain ⟨q1,q2,q3,q4⟩:=q
   show TL _ _ _ _ _ ((_,.agg #[.int .i64 q1,.int .i64 q2,.int .i64 q3,.int .i64 q4])::_) _ _
   repeat' first|refine Kz ?_|intro _
   (refine Zac ?_)
   exact ⟨_,⟨by unfold limitW Ink.list;rw [if_neg (fun g=>g h),if_neg hn,hq];rfl,rfl⟩,Zaa⟩
 ·rw [decide_eq_false h]
  repeat' first|refine Kz ?_|intro _
  (refine Zac ?_)
  exact ⟨_,⟨by unfold limitW Ink.list;rw [if_pos h];rfl,rfl⟩,Zaa⟩
end Go.Proofs.YtoednejlfbfciaaGreatDoor
