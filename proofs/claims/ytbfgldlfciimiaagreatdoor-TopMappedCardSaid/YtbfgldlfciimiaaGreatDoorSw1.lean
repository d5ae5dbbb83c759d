/- Walks: shells: colors, boundary nodes. -/
import Derived.Test.YtbfgldlfciimiaaGreatDoorSh1
import Derived.Test.YtbfgldlfciimiaaGreatDoorMa4
import Derived.Test.YtbfgldlfciimiaaGreatDoorSxB
set_option maxHeartbeats 1000000
namespace Go.Sx
open Go
def colorR (xs:List Int):V3 × Int:=match xs with
 | [x,y,z]=>if inR 0 65535 x&&inR 0 65535 y&&inR 0 65535 z then (colorV x y z,0) else (V3.zero,2)
 | _=>(V3.zero,2)
def nodesR (S:List Int):List V3 × Int:=match S with
 | [a,b,c]=>if inR 2 9 a&&inR 2 9 b&&inR 2 9 c then if 300 < (nodesF a.toNat b.toNat c.toNat).length then ([],3) else (nodesF a.toNat b.toNat c.toNat,0) else ([],2)
 | _=>([],2)
theorem Z0g {xs:List Int} (h:xs.length≠3):colorR xs=(V3.zero,2):=by
 unfold colorR
 split
 ·exact absurd rfl h
 ·rfl
theorem Zov {xs:List Int} (h:xs.length≠3):nodesR xs=([],2):=by
 unfold nodesR
 split
 ·exact absurd rfl h
 ·rfl
theorem len3 {α:Type} {xs:List α} (h:xs.length=3):∃ x y z,xs=[x,y,z]:=by
 match xs,h with
 | [x,y,z],_=>exact ⟨x,y,z,rfl⟩
theorem Yic {lo hi x y z:Int}:(inR lo hi x&&inR lo hi y&&inR lo hi z)=true↔(lo≤x∧x≤hi∧lo≤y∧y≤hi∧lo≤z∧z≤hi):=by
 unfold inR
 simp only [Bool.and_eq_true,decide_eq_true_eq]
 omega
theorem Z4g {x y z:Int} (h:¬ (0≤x∧x≤65535∧0≤y∧y≤65535∧0≤z∧z≤65535)):colorR [x,y,z]=(V3.zero,2) :=
 if_neg fun k=>h (Yic.1 k)
theorem Zph {x y z:Int} (h:0≤x∧x≤65535∧0≤y∧y≤65535∧0≤z∧z≤65535):colorR [x,y,z]=(colorV x y z,0) :=
 if_pos (Yic.2 h)
theorem Zs1 {a b c:Int} (h:¬ (2≤a∧a≤9∧2≤b∧b≤9∧2≤c∧c≤9)):nodesR [a,b,c]=([],2) :=
 if_neg fun k=>h (Yic.1 k)
theorem Zj4 {a b c:Nat} (h:2≤a∧a≤9∧2≤b∧b≤9∧2≤c∧c≤9):nodesR [(a:Int),(b:Int),(c:Int)]=if 300 < (nodesF a b c).length then ([],3) else (nodesF a b c,0) :=
 if_pos (Yic.2 (by omega))
theorem Yg6 {n w:Int} (h0:0≤n) (h1:n≤65535) (h2:0≤w) (h3:w≤256000):0≤2 * n * w∧2 * n * w≤33553920000:=by
 have a:=Int.mul_le_mul (show 2 * n≤131070 by omega) h3 h2 (by omega)
 exact ⟨Int.mul_nonneg (by omega) h2,a⟩
theorem Z23 {n w:Int} (h0:0≤n) (h1:n≤65535) (h2:0≤w) (h3:w≤256000):0≤nearI n w∧nearI n w≤256000:=by
 have a:=Int.mul_le_mul (show 2 * n≤131070 by omega) h3 h2 (by omega)
 have b:0≤2 * n * w:=Int.mul_nonneg (by omega) h2
 unfold nearI
 omega
end Go.Sx
namespace Go.Proofs.YtbfgldlfciimiaaGreatDoor
open Go Go.Sx
variable {w0:World} {As:List Ent}
theorem Zj5 {n w:Int} (h0:0≤n) (h1:n≤65535) (h2:0≤w) (h3:w≤256000):CQ Tryz.prog w0 28 [.int .i64 n,.int .i64 w] As (.int .i64 (nearI n w)):=by
 obtain ⟨k1,k2⟩:=Yg6 h0 h1 h2 h3
 refine Zab Tryz.func28 rfl Tryz.ntmps28 rfl ?_
 repeat' first|refine Kz ?_|intro _
 exact Kv
theorem Zyn {v:Value} {xs:List Int} [hr:RdIn As v Int (cI .i64) xs] (_hl:xs.length≤1000000000):CQ Tryz.prog w0 9 [v] As (.tuple #[(colorR xs).1.val,.int .i64 (colorR xs).2]):=by
 refine Zab Tryz.func9 rfl Tryz.ntmps9 rfl ?_
 repeat' first|refine Kz ?_|intro _
 (refine Kx (fun hc=>?_) fun hc=>?_)
 ·repeat' first|refine Kz ?_|intro _
  (refine Zac ?_)
  exact ⟨_,⟨by rw [Z0g (by omega)];rfl,rfl⟩,Zaa⟩
 ·obtain ⟨x,y,z,hxs⟩:=len3 (xs:=xs) (by omega)
  have g0:xs[0]?=some x:=by rw [hxs];rfl
  have g1:xs[1]?=some y:=by rw [hxs];rfl
  have g2:xs[2]?=some z:=by rw [hxs];rfl
  have hl3:xs.length=3:=by rw [hxs];rfl
  rw [hl3]
  repeat' first|refine Kz ?_|intro _
  refine Zao 4 ?_
  (repeat' (first|((show TL _ _ _ _ (_::_) _ _ _;first|refine Ze1 ?_|refine Zey ?_|(refine Zcn ?_;intro _)|(refine Zdd ?_;first|rintro _ _ ⟨rfl,rfl⟩|rintro _ _ rfl)|refine Zbp ?_|refine Zbb ?_|refine Ze0 ?_|fail))|(refine Stp.h ?_)|((show Tri _ _ _ (.cond _ _ _) _ _ _;first|refine Zbn ?_|refine Zbo ?_|refine Zat ?_|refine Zau ?_|refine Zap ?_|refine Zaq ?_|fail))|(first|refine Zbg rfl rfl (fun hgs=>?_) (fun hgs=>?_)|refine Za7 rfl rfl (fun hgs=>?_) (fun hgs=>?_)|refine Zbf rfl rfl rfl (fun hgs=>?_) (fun hgs=>?_)|refine Za6 rfl rfl rfl (fun hgs=>?_) (fun hgs=>?_))|(refine Kx (fun hc=>?_) fun hc=>?_)))
  all_goals first
   | (show Post _ _ _ _ _ _
      (refine Zac ?_)
      exact ⟨_,⟨by rw [hxs,Z4g (by omega)];rfl,rfl⟩,Zaa⟩)
   | skip
  have hi:0≤x∧x≤65535∧0≤y∧y≤65535∧0≤z∧z≤65535:=by omega
  obtain ⟨x0,x1,y0,y1,z0,z1⟩:=hi
  have b1:=Z23 y0 y1 (w:=256000) (by decide) (by decide)
  have b2:=Z23 z0 z1 (w:=256000) (by decide) (by decide)
  refine Zag As [] (.take 0 (.take 1 (.take 2 (.take 4 (.take 5 (.take 6 (.take 9 (.take 10 (.take 11 (.all [(3,.all [(7,.take 8 (.all [(12,.take 13 (.take 14 (.all [(15,.take 16 (.done))])))]))])])))))))))) ?_
  repeat' first|refine Kf ?_|intro _|constructor
  refine Kw rfl (Zj5 x0 x1 (by decide) (by decide)) ?_
  repeat' first|refine Kf ?_|intro _|constructor
  refine Kw rfl (Zj5 y0 y1 (by decide) (by decide)) ?_
  repeat' first|refine Kf ?_|intro _|constructor
  refine Kw rfl (Zj5 z0 z1 (by decide) (by decide)) ?_
  repeat' first|refine Kf ?_|intro _|constructor
  (refine Zac ?_)
  exact ⟨_,⟨by rw [hxs,Zph ⟨x0,x1,y0,y1,z0,z1⟩];rfl,rfl⟩,Zaa⟩
def NodR (As:List Ent) (r:List V3 × Int) (u:Value) (Bs:List Ent):Prop:=∃ q,u=.tuple #[q,.int .i64 r.2]∧Bs=.ow cV3 39 q r.1::As
end Go.Proofs.YtbfgldlfciimiaaGreatDoor
namespace Go.Proofs.YtbfgldlfciimiaaGreatDoor
open Go Go.Sx
variable {w0:World} {As:List Ent}
set_option maxRecDepth 100000 in
theorem Zxn {v:Value} {xs:List Int} [hr:RdIn As v Int (cI .i64) xs] (_hl:xs.length≤1000000000):CallsS Tryz.prog w0 7 [v] As (NodR As (nodesR xs)):=by
 refine Zab Tryz.func7 rfl Tryz.ntmps7 rfl ?_
 repeat' first|refine Kz ?_|intro _
 (refine Kx (fun hc=>?_) fun hc=>?_)
 ·repeat' first|refine Kz ?_|intro _
  (refine Zac ?_)
  refine ⟨_,⟨_,by rw [Zov (by omega)],rfl⟩,?_⟩
  rw [Zov (by omega)]
  exact Za3 cV3
 ·obtain ⟨x,y,z,hxs⟩:=len3 (xs:=xs) (by omega)
  have g0:xs[0]?=some x:=by rw [hxs];rfl
  have g1:xs[1]?=some y:=by rw [hxs];rfl
  have g2:xs[2]?=some z:=by rw [hxs];rfl
  have hl3:xs.length=3:=by rw [hxs];rfl
  rw [hl3]
  by_cases hin:2≤x∧x≤9∧2≤y∧y≤9∧2≤z∧z≤9
  ·obtain ⟨x2,x9,y2,y9,z2,z9⟩:=hin
   obtain ⟨a,rfl⟩:∃ a:Nat,x=(a:Int):=⟨x.toNat,by omega⟩
   obtain ⟨b,rfl⟩:∃ b:Nat,y=(b:Int):=⟨y.toNat,by omega⟩
   obtain ⟨c,rfl⟩:∃ c:Nat,z=(c:Int):=⟨z.toNat,by omega⟩
   have hR:=Zj4 (a:=a) (b:=b) (c:=c) (by omega)
   rw [← hxs] at hR
   rw [hR]
   have m1:(1:Int) * a * b=((a * b:Nat):Int):=by rw [Int.one_mul,Int.natCast_mul]
   have m2:(1:Int) * a * b * c=((a * b * c:Nat):Int):=by rw [m1,← Int.natCast_mul]
   have m3:(1:Int) * ((a:Int) - 2) * ((b:Int) - 2)=(((a - 2) * (b - 2):Nat):Int):=by rw [Int.one_mul,Int.natCast_mul];congr 1<;>omega
   have m4:(1:Int) * ((a:Int) - 2) * ((b:Int) - 2) * ((c:Int) - 2)=(((a - 2) * (b - 2) * (c - 2):Nat):Int):=by rw [m3,Int.natCast_mul _ (c - 2)];congr 1;omega
   have b1:a * b≤81:=Nat.mul_le_mul (show a≤9 by omega) (show b≤9 by omega)
   have b2:a * b * c≤729:=Nat.mul_le_mul b1 (show c≤9 by omega)
   have b3:(a - 2) * (b - 2)≤49:=Nat.mul_le_mul (show a - 2≤7 by omega) (show b - 2≤7 by omega)
   have b4:(a - 2) * (b - 2) * (c - 2)≤343:=Nat.mul_le_mul b3 (show c - 2≤7 by omega)
   have hcnt:=Zml (a - 2) (by omega) (b - 2) (by omega) (c - 2) (by omega)
   rw [show a - 2+2=a by omega,show b - 2+2=b by omega,show c - 2+2=c by omega] at hcnt
   have hlen:∀ n,n≤a * b * c→(nodesP a b c n).length≤729:=fun n hn=>Nat.le_trans Z20 (by omega)
   generalize hq:a * b * c=q at m2 b2 hcnt hlen
   generalize hr':(a - 2) * (b - 2) * (c - 2)=r at m4 b4 hcnt
   generalize hab:a * b=p at m1 b1
   generalize hst:(a - 2) * (b - 2)=t at m3 b3
   repeat' first|refine Kz ?_|intro _
   refine Zao 4 ?_
   repeat' first|refine Kz ?_|intro _
   (refine Kx (fun hc=>?_) fun hc=>?_)
   ·rw [if_pos (by omega)]
    repeat' first|refine Kz ?_|intro _
    (refine Zac ?_)
    exact ⟨_,⟨_,rfl,rfl⟩,Za3 cV3⟩
   ·rw [if_neg (by omega)]
    clear m1 m2 m3 m4
    repeat' first|refine Kz ?_|intro _
    refine Tri.ents (Za3 (T:=39) cV3) ?_
    refine Tri.loop (ι:=Nat × Value) (fun s=>s.1≤a) (fun s=>a - s.1)
     (fun s=>[(0,v),(8,s.2),(41,.int .i64 (a:Int)),(42,.int .i64 (s.1:Int))])
     (fun s=>.ow cV3 39 s.2 (nodesP a b c (s.1 * b * c))::As) (0,.slice none 0 0) (by simp only;omega) Zad (by simp only [Nat.zero_mul,Zvf];(exact Zaa)) ?_
    rintro ⟨i,sv⟩ hi
    simp only at hi
    show Tri _ _ _ _ [(0,_),(8,sv),(41,_),(42,.int .i64 (i:Int))] (.ow cV3 39 sv (nodesP a b c (i * b * c))::_) _
    repeat' first|refine Kz ?_|intro _
    (refine Kx (fun hc=>?_) fun hc=>?_)
    ·repeat' first|refine Kz ?_|intro _
     refine Tri.loop (ι:=Nat × Value) (fun s=>s.1≤b) (fun s=>b - s.1)
      (fun s=>[(0,v),(8,s.2),(9,.int .i64 (i:Int)),(41,.int .i64 (a:Int)),(42,.int .i64 (i:Int)),(47,.int .i64 (b:Int)),(48,.int .i64 (s.1:Int))])
      (fun s=>.ow cV3 39 s.2 (nodesP a b c ((i * b+s.1) * c))::As) (0,sv) (by simp only;omega) Zad (by simp only [Nat.add_zero];(exact Zaa)) ?_
     rintro ⟨j,sw⟩ hj
     simp only at hj
     show Tri _ _ _ _ [(0,_),(8,sw),(9,_),(41,_),(42,_),(47,_),(48,.int .i64 (j:Int))] (.ow cV3 39 sw (nodesP a b c ((i * b+j) * c))::_) _
     repeat' first|refine Kz ?_|intro _
     (refine Kx (fun hc=>?_) fun hc=>?_)
     ·repeat' first|refine Kz ?_|intro _
      refine Tri.loop (ι:=Nat × Value) (fun s=>s.1≤c) (fun s=>c - s.1)
       (fun s=>[(0,v),(8,s.2),(9,.int .i64 (i:Int)),(10,.int .i64 (j:Int)),(41,.int .i64 (a:Int)),(42,.int .i64 (i:Int)),(47,.int .i64 (b:Int)),(48,.int .i64 (j:Int)),(53,.int .i64 (c:Int)),(54,.int .i64 (s.1:Int))])
       (fun s=>.ow cV3 39 s.2 (nodesP a b c ((i * b+j) * c+s.1))::As) (0,sw) (by simp only;omega) Zad (by simp only [Nat.add_zero];(exact Zaa)) ?_
      rintro ⟨k,sx⟩ hk
      simp only at hk
      show Tri _ _ _ _ [(0,_),(8,sx),(9,_),(10,_),(41,_),(42,_),(47,_),(48,_),(53,_),(54,.int .i64 (k:Int))] (.ow cV3 39 sx (nodesP a b c ((i * b+j) * c+k))::_) _
      repeat' first|refine Kz ?_|intro _
      (refine Kx (fun hc=>?_) fun hc=>?_)
      ·have hlt:=Zhl (a:=a) (b:=b) (c:=c) (i:=i) (j:=j) (k:=k) (by omega) (by omega) (by omega)
       rw [hq] at hlt
       have hl:=hlen ((i * b+j) * c+k) (by omega)
       have hon:=Ydx (a:=a) (b:=b) (c:=c) (i:=i) (j:=j) (k:=k) (by omega) (by omega)
       have hcell:=Zrh (b:=b) (c:=c) (i:=i) (j:=j) (k:=k) (by omega) (by omega)
       have hsucc:=Zvg (a:=a) (b:=b) (c:=c) (n:=(i * b+j) * c+k)
       rw [hon,hcell] at hsucc
       clear hon hcell
       (repeat' (first|((show TL _ _ _ _ (_::_) _ _ _;first|refine Ze1 ?_|refine Zey ?_|(refine Zcn ?_;intro _)|(refine Zdd ?_;first|rintro _ _ ⟨rfl,rfl⟩|rintro _ _ rfl)|refine Zbp ?_|refine Zbb ?_|refine Ze0 ?_|fail))|(refine Stp.h ?_)|((show Tri _ _ _ (.cond _ _ _) _ _ _;first|refine Zbn ?_|refine Zbo ?_|refine Zat ?_|refine Zau ?_|refine Zap ?_|refine Zaq ?_|fail))|(first|refine Zbg rfl rfl (fun hgs=>?_) (fun hgs=>?_)|refine Za7 rfl rfl (fun hgs=>?_) (fun hgs=>?_)|refine Zbf rfl rfl rfl (fun hgs=>?_) (fun hgs=>?_)|refine Za6 rfl rfl rfl (fun hgs=>?_) (fun hgs=>?_))|(refine Kx (fun hc=>?_) fun hc=>?_)))
       all_goals first
        | (rename_i v9
           rw [Z2x.2 (by omega)] at hsucc
           simp only [if_true] at hsucc
           refine Post.round (k+1,v9) (by simp only;omega) (by simp only;omega) Zad ?_
           rw [← Nat.add_assoc,hsucc]
           (exact Zaa))
        | skip
       have hno:onI a b c i j k=false:=by
        rw [Bool.eq_false_iff]
        intro h
        have:=Z2x.1 h
        omega
       rw [hno] at hsucc
       simp only [Bool.false_eq_true,if_false,List.append_nil] at hsucc
       refine Post.round (k+1,sx) (by simp only;omega) (by simp only;omega) Zad ?_
       rw [← Nat.add_assoc,hsucc]
       (exact Zaa)
      ·repeat' first|refine Kz ?_|intro _
       have hkc:k=c:=by omega
       subst hkc
       refine Post.round (j+1,sx) (by simp only;omega) (by simp only;omega) Zad ?_
       rw [show (i * b+j) * k+k=(i * b+(j+1)) * k by rw [← Nat.succ_mul];rfl]
       (exact Zaa)
     ·repeat' first|refine Kz ?_|intro _
      have hjb:j=b:=by omega
      subst hjb
      refine Post.round (i+1,sw) (by simp only;omega) (by simp only;omega) Zad ?_
      rw [show (i * j+j) * c=(i+1) * j * c by rw [← Nat.succ_mul]]
      (exact Zaa)
    ·have hia:i=a:=by omega
     subst hia
     repeat' first|refine Kz ?_|intro _
     (refine Zac ?_)
     exact ⟨_,⟨_,rfl,rfl⟩,by unfold nodesF;rw [hq];(exact Zaa)⟩
  ·repeat' first|refine Kz ?_|intro _
   refine Zao 4 ?_
   (repeat' (first|((show TL _ _ _ _ (_::_) _ _ _;first|refine Ze1 ?_|refine Zey ?_|(refine Zcn ?_;intro _)|(refine Zdd ?_;first|rintro _ _ ⟨rfl,rfl⟩|rintro _ _ rfl)|refine Zbp ?_|refine Zbb ?_|refine Ze0 ?_|fail))|(refine Stp.h ?_)|((show Tri _ _ _ (.cond _ _ _) _ _ _;first|refine Zbn ?_|refine Zbo ?_|refine Zat ?_|refine Zau ?_|refine Zap ?_|refine Zaq ?_|fail))|(first|refine Zbg rfl rfl (fun hgs=>?_) (fun hgs=>?_)|refine Za7 rfl rfl (fun hgs=>?_) (fun hgs=>?_)|refine Zbf rfl rfl rfl (fun hgs=>?_) (fun hgs=>?_)|refine Za6 rfl rfl rfl (fun hgs=>?_) (fun hgs=>?_))|(refine Kx (fun hc=>?_) fun hc=>?_)))
   all_goals first
    | (exfalso;omega)
    | ((refine Zac ?_)
       refine ⟨_,⟨_,by rw [hxs,Zs1 hin],rfl⟩,?_⟩
       rw [hxs,Zs1 hin]
       exact Za3 cV3)
end Go.Proofs.YtbfgldlfciimiaaGreatDoor
