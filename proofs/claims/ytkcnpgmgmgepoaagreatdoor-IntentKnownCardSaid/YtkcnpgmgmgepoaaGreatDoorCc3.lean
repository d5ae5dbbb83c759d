/- Walks: frac: fractions are read, reduced; operations on two. -/
import Derived.Test.YtkcnpgmgmgepoaaGreatDoorCc1
import Derived.Test.YtkcnpgmgmgepoaaGreatDoorWb1
namespace Go.Proofs.YtkcnpgmgmgepoaaGreatDoor.Q
open Go Go.Sx
variable {w0:World} {As:List Ent}
def ReadF (As:List Ent) (o:Option Rat) (u:Value) (Bs:List Ent):Prop:=match o with
 | some r=>∃ p cap q cap',u=.tuple #[.agg #[.slice p (mag r.num.natAbs).length cap,.bool (decide (r.num < 0)),.slice q (mag r.den).length cap'],.bool true]∧Bs=.ft (rd (cN .u32) (.slice p (mag r.num.natAbs).length cap) (mag r.num.natAbs))::.ft (rd (cN .u32) (.slice q (mag r.den).length cap') (mag r.den))::As
 | none=>u=.tuple #[.agg #[.slice none 0 0,.bool false,.slice none 0 0],.bool false]∧Bs=As
def fracV (n d:List UInt8):Value:=.agg #[.string ⟨n.toArray⟩,.string ⟨d.toArray⟩]
theorem checkW_some {s:List UInt8} {x:Int} (h:readW s=some x):checkW s=0:=by rw [checkW,h];rfl
theorem checkW_none {s:List UInt8} (h:readW s=none):checkW s=10:=by rw [checkW,h];rfl
theorem signI_lt1 {y:Int}:signI y < 1↔¬ 0 < y:=by unfold signI;split<;>(try split)<;>omega
set_option maxHeartbeats 2000000 in
theorem read_ok {n d:List UInt8} (hn:n.length≤1000000000) (hd:d.length≤1000000000):CallsS Tryz.prog w0 134 [.agg #[.string ⟨n.toArray⟩,.string ⟨d.toArray⟩]] As (ReadF As (readF n d)):=by
 refine CallsS.of_tri Tryz.func134 rfl Tryz.ntmps134 rfl ?_
 (repeat' first|(refine Ka ?_;first|refine Kb ?_|(refine Kc ?_;intro _))|refine Kd ?_|refine Kh ?_)
 rename_i b1 b2
 refine Kt rfl rfl rfl (check_okW hn) ?_
 cases h1:readW n with
 | none =>
  have hR:readF n d=none:=by unfold readF;rw [h1]
  rw [hR,checkW_none h1]
  (repeat' first|(refine Ka ?_;first|refine Kb ?_|(refine Kc ?_;intro _))|refine Kd ?_|refine Kh ?_)
  (refine Post.ra ?_)
  exact ⟨_,⟨rfl,rfl⟩,by (exact Ents.au)⟩
 | some x =>
  rw [checkW_some h1]
  (repeat' first|(refine Ka ?_;first|refine Kb ?_|(refine Kc ?_;intro _))|refine Kd ?_|refine Kh ?_)
  refine Kt rfl rfl rfl (check_okW hd) ?_
  cases h2:readW d with
  | none =>
   have hR:readF n d=none:=by unfold readF;rw [h1,h2]
   rw [hR,checkW_none h2]
   (repeat' first|(refine Ka ?_;first|refine Kb ?_|(refine Kc ?_;intro _))|refine Kd ?_|refine Kh ?_)
   (refine Post.ra ?_)
   exact ⟨_,⟨rfl,rfl⟩,by (exact Ents.au)⟩
  | some y =>
   rw [checkW_some h2]
   have lx:(mag x.natAbs).length≤600:=readW_len h1
   have ly:(mag y.natAbs).length≤600:=readW_len h2
   (repeat' first|(refine Ka ?_;first|refine Kb ?_|(refine Kc ?_;intro _))|refine Kd ?_|refine Kh ?_)
   refine Tri.mid (fun e' As'=>∃ p cap q cap' b4 b5,e'=[(2,.pointer (some ⟨b2,0,none⟩)),(4,.pointer (some ⟨b4,0,none⟩)),(5,.pointer (some ⟨b5,0,none⟩))] ∧
        As'=.cl b4 [.slice p (mag x.natAbs).length cap,.bool (decide (x < 0))] 199::.cl b5 [.slice q (mag y.natAbs).length cap',.bool (decide (y < 0))] 199::.ft (rd (cN .u32) (.slice p (mag x.natAbs).length cap) (mag x.natAbs))::.ft (rd (cN .u32) (.slice q (mag y.natAbs).length cap') (mag y.natAbs))::.cl b2 [.slice none 0 0,.bool false,.slice none 0 0] 201::As) ?_ ?_
   ·refine Tri.dr (.take 0 (.take 1 (.take 3 (.take 4 (.all [(2,.all [(5,.all [(6,.all [(7,.all [(8,.all [(9,.done)])])]),(7,.all [(6,.all [(8,.all [(9,.done)])])])]),(6,.all [(5,.all [(7,.all [(8,.all [(9,.done)])])]),(7,.all [(5,.all [(8,.all [(9,.done)])])])]),(7,.all [(5,.all [(6,.all [(8,.all [(9,.done)])])]),(6,.all [(5,.all [(8,.all [(9,.done)])])])])]),(6,.all [(2,.all [(5,.all [(7,.all [(8,.all [(9,.done)])])]),(7,.all [(5,.all [(8,.all [(9,.done)])])])]),(7,.all [(2,.all [(5,.all [(8,.all [(9,.done)])])])])]),(7,.all [(2,.all [(5,.all [(6,.all [(8,.all [(9,.done)])])]),(6,.all [(5,.all [(8,.all [(9,.done)])])])]),(6,.all [(2,.all [(5,.all [(8,.all [(9,.done)])])])])])]))))) ?_
    (repeat' first|(refine Ka ?_;first|refine Kb ?_|(refine Kc ?_;intro _))|refine Kd ?_|(refine Ki ?_;refine Kj ?_)|exact Kk|refine Kl ?_ ?_|(refine Km ?_;first|refine Kn ?_|(refine Ko ?_;intro _))|(refine Kp ?_;first|refine Kq ?_|refine Kr ?_)|refine Kh ?_)
    iterate 2
     all_goals
      first
       | (refine T1.callv rfl rfl rfl rfl rfl (number_ok h1) ?_
          rintro _ _ ⟨p,cap,rfl,rfl⟩)
       | (refine T1.callv rfl rfl rfl rfl rfl (number_ok h2) ?_
          rintro _ _ ⟨q,cap',rfl,rfl⟩)
      (repeat' first|(refine Ka ?_;first|refine Kb ?_|(refine Kc ?_;intro _))|refine Kd ?_|(refine Ki ?_;refine Kj ?_)|exact Kk|refine Kl ?_ ?_|(refine Km ?_;first|refine Kn ?_|(refine Ko ?_;intro _))|(refine Kp ?_;first|refine Kq ?_|refine Kr ?_)|refine Kh ?_)
    all_goals exact Post.cut _ _ ⟨p,cap,q,cap',_,_,rfl,rfl⟩ (by (exact Sub.au)) (by (exact Ents.au))
   rintro _ _ ⟨p,cap,q,cap',b4,b5,rfl,rfl⟩
   (repeat' first|(refine Ka ?_;first|refine Kb ?_|(refine Kc ?_;intro _))|refine Kd ?_|refine Kh ?_)
   refine Ks rfl rfl rfl rfl (sign_ok (v:=.slice q (mag y.natAbs).length cap') (x:=y)) ?_
   by_cases hy:0 < y
   ·have hs:¬ signI y < 1:=fun h=>signI_lt1.1 h hy
    have hm1:mag 1=[1]:=mag_single (by omega) (by omega)
    have lg:(mag (Nat.gcd x.natAbs y.natAbs)).length≤600:=Nat.le_trans (mag_len_le (Nat.gcd_le_right _ (by omega))) ly
    (repeat' first|(refine Ka ?_;first|refine Kb ?_|(refine Kc ?_;intro _))|refine Kd ?_|refine Kh ?_)
    refine TL.callv rfl rfl rfl rfl (gcd_ok (v:=.slice p (mag x.natAbs).length cap) (o:=.slice q (mag y.natAbs).length cap') (a:=x.natAbs) (b:=y.natAbs) (by omega) (by omega)) ?_
    rintro _ _ ⟨pg,cg,rfl,rfl⟩
    (repeat' first|(refine Ka ?_;first|refine Kb ?_|(refine Kc ?_;intro _))|refine Kd ?_|refine Kh ?_)
    rename_i bl
    refine TL.ents (Ents.clW (cN .u32) (mag 1) (n:=1) (cap:=1) (by rw [hm1];rfl) (by rw [hm1];rfl) (by rw [hm1];rfl)) ?_
    refine Ks rfl rfl rfl rfl (compare_ok (v:=.slice pg (mag (Nat.gcd x.natAbs y.natAbs)).length cg) (o:=.slice (some ⟨bl,0,none⟩) 1 1) (a:=Nat.gcd x.natAbs y.natAbs) (b:=1) (by omega) (by rw [hm1];simp)) ?_
    by_cases hg:Nat.gcd x.natAbs y.natAbs=1
    ·have hR:readF n d=some ⟨x,y.natAbs,by omega,hg⟩:=by unfold readF;rw [h1,h2];exact dif_pos ⟨hy,hg⟩
     have hc0:Lib.compareInt (Nat.gcd x.natAbs y.natAbs:Nat) (1:Nat)=0:=by rw [hg];rfl
     rw [hR]
     (repeat' first|(refine Ka ?_;first|refine Kb ?_|(refine Kc ?_;intro _))|refine Kd ?_|refine Kh ?_)
     (refine Post.ra ?_)
     exact ⟨_,⟨p,cap,q,cap',rfl,rfl⟩,by (exact Ents.au)⟩
    ·have hR:readF n d=none:=by unfold readF;rw [h1,h2];exact dif_neg fun h=>hg h.2
     have hc0:¬ Lib.compareInt (Nat.gcd x.natAbs y.natAbs:Nat) (1:Nat)=0:=by unfold Lib.compareInt;split<;>(try split)<;>omega
     rw [hR]
     (repeat' first|(refine Ka ?_;first|refine Kb ?_|(refine Kc ?_;intro _))|refine Kd ?_|refine Kh ?_)
     (refine Post.ra ?_)
     exact ⟨_,⟨rfl,rfl⟩,by (exact Ents.au)⟩
   ·have hs:signI y < 1:=signI_lt1.2 hy
    have hR:readF n d=none:=by unfold readF;rw [h1,h2];exact dif_neg fun h=>hy h.1
    rw [hR]
    (repeat' first|(refine Ka ?_;first|refine Kb ?_|(refine Kc ?_;intro _))|refine Kd ?_|refine Kh ?_)
    (refine Post.ra ?_)
    exact ⟨_,⟨rfl,rfl⟩,by (exact Ents.au)⟩
theorem readF_ln {n d:List UInt8} {r:Rat} (h:readF n d=some r):Ln 600 r:=by
 obtain ⟨h1,h2⟩:=readF_num h
 refine ⟨readW_len h1,?_⟩
 have:=readW_len h2
 rwa [Int.natAbs_natCast] at this
theorem reduced_ok {v o:Value} {n:Int} {d:Nat} [hf:FtIn As v Nat (cN .u32) (mag n.natAbs)] [hg:FtIn As o Nat (cN .u32) (mag d)] (hd:d≠0) (ln:(mag n.natAbs).length≤1000000) (ld:(mag d).length≤1000000) :
  CallsS Tryz.prog w0 154 [.agg #[v,.bool (decide (n < 0))],o] As (RatR As (mkRat n d)):=by
 refine CallsS.rdSl v fun p1 c1 h1=>CallsS.rdSl o fun p2 c2 h2=>?_
 subst h1 h2
 obtain ⟨e1,e2⟩:=rat_norm (n:=n) hd
 obtain ⟨g,hg'⟩:∃ g,g=Nat.gcd n.natAbs d:=⟨_,rfl⟩
 rw [← hg'] at e1 e2
 have hg0:g≠0:=by rw [hg'];exact Nat.ne_of_gt (Nat.gcd_pos_of_pos_right _ (by omega))
 obtain ⟨e3,e4⟩:=exact_abs hg0 (show g ∣ n.natAbs by rw [hg'];exact Nat.gcd_dvd_left _ _)
 rw [← e1] at e3 e4
 have lg:(mag g).length≤1000000:=Nat.le_trans (mag_len_le (by rw [hg'];exact Nat.gcd_le_right _ (by omega))) ld
 unfold RatR
 refine CallsS.of_tri Tryz.func154 rfl Tryz.ntmps154 rfl ?_
 (repeat' first|(refine Ka ?_;first|refine Kb ?_|(refine Kc ?_;intro _))|refine Kd ?_|refine Kh ?_)
 refine TL.callv rfl rfl rfl rfl (gcd_ok (v:=.slice p1 (mag n.natAbs).length c1) (o:=.slice p2 (mag d).length c2) (a:=n.natAbs) (b:=d) (by omega) (by omega)) ?_
 rintro _ _ ⟨pg,cg,rfl,rfl⟩
 rw [← hg']
 (repeat' first|(refine Ka ?_;first|refine Kb ?_|(refine Kc ?_;intro _))|refine Kd ?_|refine Kh ?_)
 refine TL.callv rfl rfl rfl rfl (divide_ok (v:=.slice p1 (mag n.natAbs).length c1) (o:=.slice pg (mag g).length cg) (a:=n.natAbs) (b:=g) hg0 (by omega) (by omega)) ?_
 rintro _ _ ⟨pa,ca,pa',ca',rfl,rfl⟩
 (repeat' first|(refine Ka ?_;first|refine Kb ?_|(refine Kc ?_;intro _))|refine Kd ?_|refine Kh ?_)
 refine TL.callv rfl rfl rfl rfl (divide_ok (v:=.slice p2 (mag d).length c2) (o:=.slice pg (mag g).length cg) (a:=d) (b:=g) hg0 (by omega) (by omega)) ?_
 rintro _ _ ⟨pb,cb,pb',cb',rfl,rfl⟩
 (repeat' first|(refine Ka ?_;first|refine Kb ?_|(refine Kc ?_;intro _))|refine Kd ?_|refine Kh ?_)
 refine Ks rfl rfl rfl rfl (signed_ok (v:=.slice pa (mag (n.natAbs / g)).length ca) (n:=n.natAbs / g)) ?_
 (repeat' first|(refine Ka ?_;first|refine Kb ?_|(refine Kc ?_;intro _))|refine Kd ?_|refine Kh ?_)
 (refine Post.ra ?_)
 refine ⟨_,⟨pa,ca,pb,cb,?_,rfl⟩,?_⟩
 ·rw [e3,e4,e2];rfl
 ·rw [e3,e2]<;>(exact Ents.au)
def ApR (As:List Ent) (o:Option Rat) (u:Value) (Bs:List Ent):Prop:=match o with
 | some r=>∃ p cap q cap',u=.tuple #[.agg #[.slice p (mag r.num.natAbs).length cap,.bool (decide (r.num < 0)),.slice q (mag r.den).length cap'],.int .i64 0]∧Bs=.ft (rd (cN .u32) (.slice p (mag r.num.natAbs).length cap) (mag r.num.natAbs))::.ft (rd (cN .u32) (.slice q (mag r.den).length cap') (mag r.den))::As
 | none=>u=.tuple #[.agg #[.slice none 0 0,.bool false,.slice none 0 0],.int .i64 20]∧Bs=As
def ap2 {α:Type} (F:Rat→Rat→α) (a b:Option Rat):Option α:=match a,b with
 | some x,some y=>some (F x y)
 | _,_=>none
def OpR (w0:World) (f:FuncId) (F:Rat→Rat→Rat):Prop:=∀ (As:List Ent) (mv bv nv cv:Value) (x y:Rat) [FtIn As mv Nat (cN .u32) (mag x.num.natAbs)] [FtIn As bv Nat (cN .u32) (mag x.den)] [FtIn As nv Nat (cN .u32) (mag y.num.natAbs)] [FtIn As cv Nat (cN .u32) (mag y.den)],Ln 600 x→Ln 600 y →
 CallsS Tryz.prog w0 f [.agg #[mv,.bool (decide (x.num < 0)),bv],.agg #[nv,.bool (decide (y.num < 0)),cv]] As (RatR As (F x y))
theorem applyR_ok {f:FuncId} [Body Tryz.prog f] {F:Rat→Rat→Rat} (hf:OpR w0 f F) {a b c d:List UInt8} (ha:a.length≤1000000000) (hb:b.length≤1000000000) (hc:c.length≤1000000000) (hd:d.length≤1000000000) :
  CallsS Tryz.prog w0 199 [.agg #[.string ⟨a.toArray⟩,.string ⟨b.toArray⟩],.agg #[.string ⟨c.toArray⟩,.string ⟨d.toArray⟩],.func (.func f) #[] #[]] As (ApR As (ap2 F (readF a b) (readF c d))):=by
 refine CallsS.of_tri Tryz.func199 rfl Tryz.ntmps199 rfl ?_
 (repeat' first|(refine Ka ?_;first|refine Kb ?_|(refine Kc ?_;intro _))|refine Kd ?_|refine Kh ?_)
 refine TL.call rfl rfl rfl (read_ok ha hb) ?_
 intro _ _ h1
 cases hx:readF a b with
 | none =>
  rw [hx] at h1
  obtain ⟨rfl,rfl⟩:=h1
  (repeat' first|(refine Ka ?_;first|refine Kb ?_|(refine Kc ?_;intro _))|refine Kd ?_|refine Kh ?_)
  refine TL.call rfl rfl rfl (read_ok hc hd) ?_
  intro _ _ h2
  cases hy:readF c d with
  | none =>
   rw [hy] at h2
   obtain ⟨rfl,rfl⟩:=h2
   (repeat' first|(refine Ka ?_;first|refine Kb ?_|(refine Kc ?_;intro _))|refine Kd ?_|refine Kh ?_)
   (refine Post.ra ?_)
   exact ⟨_,⟨rfl,rfl⟩,by (exact Ents.au)⟩
  | some y =>
   rw [hy] at h2
   obtain ⟨q1,k1,q2,k2,rfl,rfl⟩:=h2
   (repeat' first|(refine Ka ?_;first|refine Kb ?_|(refine Kc ?_;intro _))|refine Kd ?_|refine Kh ?_)
   (refine Post.ra ?_)
   exact ⟨_,⟨rfl,rfl⟩,by (exact Ents.au)⟩
 | some x =>
  rw [hx] at h1
  obtain ⟨p1,c1,p2,c2,rfl,rfl⟩:=h1
  (repeat' first|(refine Ka ?_;first|refine Kb ?_|(refine Kc ?_;intro _))|refine Kd ?_|refine Kh ?_)
  refine TL.call rfl rfl rfl (read_ok hc hd) ?_
  intro _ _ h2
  cases hy:readF c d with
  | none =>
   rw [hy] at h2
   obtain ⟨rfl,rfl⟩:=h2
   (repeat' first|(refine Ka ?_;first|refine Kb ?_|(refine Kc ?_;intro _))|refine Kd ?_|refine Kh ?_)
   (refine Post.ra ?_)
   exact ⟨_,⟨rfl,rfl⟩,by (exact Ents.au)⟩
  | some y =>
   rw [hy] at h2
   obtain ⟨q1,k1,q2,k2,rfl,rfl⟩:=h2
   (repeat' first|(refine Ka ?_;first|refine Kb ?_|(refine Kc ?_;intro _))|refine Kd ?_|refine Kh ?_)
   refine TL.callv rfl rfl rfl rfl (hf _ (.slice p1 (mag x.num.natAbs).length c1) (.slice p2 (mag x.den).length c2) (.slice q1 (mag y.num.natAbs).length k1) (.slice q2 (mag y.den).length k2) x y (readF_ln hx) (readF_ln hy)) ?_
   rintro _ _ ⟨p5,c5,p6,c6,rfl,rfl⟩
   (repeat' first|(refine Ka ?_;first|refine Kb ?_|(refine Kc ?_;intro _))|refine Kd ?_|refine Kh ?_)
   (refine Post.ra ?_)
   exact ⟨_,⟨p5,c5,p6,c6,rfl,rfl⟩,by (exact Ents.au)⟩
theorem applyI_ok {a b c d:List UInt8} (ha:a.length≤1000000000) (hb:b.length≤1000000000) (hc:c.length≤1000000000) (hd:d.length≤1000000000) :
  CallsS Tryz.prog w0 206 [.agg #[.string ⟨a.toArray⟩,.string ⟨b.toArray⟩],.agg #[.string ⟨c.toArray⟩,.string ⟨d.toArray⟩],.func (.func 207) #[] #[]] As
   fun u Bs=>u=.tuple #[.int .i64 ((ap2 ordQ (readF a b) (readF c d)).getD 0),.int .i64 (if (ap2 ordQ (readF a b) (readF c d)).isSome then 0 else 20)]∧Bs=As:=by
 refine CallsS.of_tri Tryz.func206 rfl Tryz.ntmps206 rfl ?_
 (repeat' first|(refine Ka ?_;first|refine Kb ?_|(refine Kc ?_;intro _))|refine Kd ?_|refine Kh ?_)
 refine TL.call rfl rfl rfl (read_ok ha hb) ?_
 intro _ _ h1
 cases hx:readF a b with
 | none =>
  rw [hx] at h1
  obtain ⟨rfl,rfl⟩:=h1
  (repeat' first|(refine Ka ?_;first|refine Kb ?_|(refine Kc ?_;intro _))|refine Kd ?_|refine Kh ?_)
  refine TL.call rfl rfl rfl (read_ok hc hd) ?_
  intro _ _ h2
  cases hy:readF c d with
  | none =>
   rw [hy] at h2
   obtain ⟨rfl,rfl⟩:=h2
   (repeat' first|(refine Ka ?_;first|refine Kb ?_|(refine Kc ?_;intro _))|refine Kd ?_|refine Kh ?_)
   (refine Post.ra ?_)
   exact ⟨_,⟨rfl,rfl⟩,by (exact Ents.au)⟩
  | some y =>
   rw [hy] at h2
   obtain ⟨q1,k1,q2,k2,rfl,rfl⟩:=h2
   (repeat' first|(refine Ka ?_;first|refine Kb ?_|(refine Kc ?_;intro _))|refine Kd ?_|refine Kh ?_)
   (refine Post.ra ?_)
   exact ⟨_,⟨rfl,rfl⟩,by (exact Ents.au)⟩
 | some x =>
  rw [hx] at h1
  obtain ⟨p1,c1,p2,c2,rfl,rfl⟩:=h1
  (repeat' first|(refine Ka ?_;first|refine Kb ?_|(refine Kc ?_;intro _))|refine Kd ?_|refine Kh ?_)
  refine TL.call rfl rfl rfl (read_ok hc hd) ?_
  intro _ _ h2
  cases hy:readF c d with
  | none =>
   rw [hy] at h2
   obtain ⟨rfl,rfl⟩:=h2
   (repeat' first|(refine Ka ?_;first|refine Kb ?_|(refine Kc ?_;intro _))|refine Kd ?_|refine Kh ?_)
   (refine Post.ra ?_)
   exact ⟨_,⟨rfl,rfl⟩,by (exact Ents.au)⟩
  | some y =>
   rw [hy] at h2
   obtain ⟨q1,k1,q2,k2,rfl,rfl⟩:=h2
   (repeat' first|(refine Ka ?_;first|refine Kb ?_|(refine Kc ?_;intro _))|refine Kd ?_|refine Kh ?_)
   refine Ks rfl rfl rfl rfl (order_ok (mv:=.slice p1 (mag x.num.natAbs).length c1) (bv:=.slice p2 (mag x.den).length c2) (nv:=.slice q1 (mag y.num.natAbs).length k1) (cv:=.slice q2 (mag y.den).length k2) (x:=x) (y:=y) ((readF_ln hx).mono (by omega)) ((readF_ln hy).mono (by omega))) ?_
   (repeat' first|(refine Ka ?_;first|refine Kb ?_|(refine Kc ?_;intro _))|refine Kd ?_|refine Kh ?_)
   (refine Post.ra ?_)
   exact ⟨_,⟨rfl,rfl⟩,by (exact Ents.au)⟩
def outO (o:Option Rat):List UInt8 × List UInt8 × Int:=match o with
 | some r=>outF r
 | none=>([],[],20)
theorem resultE_ok:CallsS Tryz.prog w0 198 [.agg #[.slice none 0 0,.bool false,.slice none 0 0],.int .i64 20] As fun u Bs=>u=.tuple #[.agg #[.string ⟨([]:List UInt8).toArray⟩,.string ⟨([]:List UInt8).toArray⟩],.int .i64 20]∧Bs=As:=by
 refine CallsS.of_tri Tryz.func198 rfl Tryz.ntmps198 rfl ?_
 (repeat' first|(refine Ka ?_;first|refine Kb ?_|(refine Kc ?_;intro _))|refine Kd ?_|refine Kh ?_)
 (refine Post.ra ?_)
 exact ⟨_,⟨rfl,rfl⟩,by (exact Ents.au)⟩
theorem resultS_ok (ht:Tab w0) {mv bv:Value} {x:Rat} [hm:RdIn As mv Nat (cN .u32) (mag x.num.natAbs)] [hb:RdIn As bv Nat (cN .u32) (mag x.den)] (hx:Ln 1000000 x) :
  CallsS Tryz.prog w0 198 [.agg #[mv,.bool (decide (x.num < 0)),bv],.int .i64 0] As fun u Bs=>u=.tuple #[.agg #[.string ⟨(outF x).1.toArray⟩,.string ⟨(outF x).2.1.toArray⟩],.int .i64 (outF x).2.2]∧Bs=As:=by
 refine CallsS.rdSl mv fun p1 c1 h1=>CallsS.rdSl bv fun p2 c2 h2=>?_
 subst h1 h2
 refine CallsS.of_tri Tryz.func198 rfl Tryz.ntmps198 rfl ?_
 (repeat' first|(refine Ka ?_;first|refine Kb ?_|(refine Kc ?_;intro _))|refine Kd ?_|refine Kh ?_)
 refine Ks rfl rfl rfl rfl (write_ok ht (mv:=.slice p1 (mag x.num.natAbs).length c1) (bv:=.slice p2 (mag x.den).length c2) (x:=x) hx) ?_
 (repeat' first|(refine Ka ?_;first|refine Kb ?_|(refine Kc ?_;intro _))|refine Kd ?_|refine Kh ?_)
 (refine Post.ra ?_)
 exact ⟨_,⟨rfl,rfl⟩,by (exact Ents.au)⟩
end Go.Proofs.YtkcnpgmgmgepoaaGreatDoor.Q
namespace Go.Proofs.YtkcnpgmgmgepoaaGreatDoor.Q
open Go Go.Sx
variable {w0:World} {As:List Ent}
theorem ap2_some {α:Type} {F:Rat→Rat→α} {a b:Option Rat} {r:α} (h:ap2 F a b=some r):∃ x y,a=some x∧b=some y∧r=F x y:=by
 cases a with
 | none=>cases h
 | some x =>
  cases b with
  | none=>cases h
  | some y=>exact ⟨x,y,rfl,rfl,(Option.some.inj h).symm⟩
def divO (a b:Option Rat):List UInt8 × List UInt8 × Int:=match a,b with
 | some x,some y=>if y=0 then ([],[],7) else outF (x * y⁻¹)
 | _,_=>([],[],20)
theorem addF_ok (ht:Tab w0) {a b c d:List UInt8} (ha:a.length≤1000000000) (hb:b.length≤1000000000) (hc:c.length≤1000000000) (hd:d.length≤1000000000) :
  CallsS Tryz.prog w0 117 [.agg #[.string ⟨a.toArray⟩,.string ⟨b.toArray⟩],.agg #[.string ⟨c.toArray⟩,.string ⟨d.toArray⟩]] As fun u Bs=>u=.tuple #[.agg #[.string ⟨(outO (ap2 (·+·) (readF a b) (readF c d))).1.toArray⟩,.string ⟨(outO (ap2 (·+·) (readF a b) (readF c d))).2.1.toArray⟩],.int .i64 (outO (ap2 (·+·) (readF a b) (readF c d))).2.2]∧Bs=As:=by
 refine CallsS.of_tri Tryz.func117 rfl Tryz.ntmps117 rfl ?_
 (repeat' first|(refine Ka ?_;first|refine Kb ?_|(refine Kc ?_;intro _))|refine Kd ?_|refine Kh ?_)
 refine TL.call rfl rfl rfl (applyR_ok (f:=200) (F:=(·+·)) (fun _ _ _ _ _ _ _ _ _ _ _ h1 h2=>add_ok (h1.mono (by omega)) (h2.mono (by omega))) ha hb hc hd) ?_
 intro u Bs h
 have hl:∀ r,ap2 (·+·) (readF a b) (readF c d)=some r→Ln 1000000 r:=fun r hr=>by
  obtain ⟨x,y,h1,h2,rfl⟩:=ap2_some hr
  have hx:=readF_ln h1
  have hy:=readF_ln h2
  exact ((hx.add hy).mono (by omega))
 generalize ap2 (·+·) (readF a b) (readF c d)=r at h hl ⊢
 cases r with
 | none =>
  obtain ⟨rfl,rfl⟩:=h
  (repeat' first|(refine Ka ?_;first|refine Kb ?_|(refine Kc ?_;intro _))|refine Kd ?_|refine Kh ?_)
  refine Kt rfl rfl rfl resultE_ok ?_
  (repeat' first|(refine Ka ?_;first|refine Kb ?_|(refine Kc ?_;intro _))|refine Kd ?_|refine Kh ?_)
  (refine Post.ra ?_)
  exact ⟨_,⟨rfl,rfl⟩,by (exact Ents.au)⟩
 | some x =>
  obtain ⟨p1,c1,p2,c2,rfl,rfl⟩:=h
  (repeat' first|(refine Ka ?_;first|refine Kb ?_|(refine Kc ?_;intro _))|refine Kd ?_|refine Kh ?_)
  refine Ks rfl rfl rfl rfl (resultS_ok ht (mv:=.slice p1 (mag x.num.natAbs).length c1) (bv:=.slice p2 (mag x.den).length c2) (hl x rfl)) ?_
  (repeat' first|(refine Ka ?_;first|refine Kb ?_|(refine Kc ?_;intro _))|refine Kd ?_|refine Kh ?_)
  (refine Post.ra ?_)
  exact ⟨_,⟨rfl,rfl⟩,by (exact Ents.au)⟩
theorem subF_ok (ht:Tab w0) {a b c d:List UInt8} (ha:a.length≤1000000000) (hb:b.length≤1000000000) (hc:c.length≤1000000000) (hd:d.length≤1000000000) :
  CallsS Tryz.prog w0 119 [.agg #[.string ⟨a.toArray⟩,.string ⟨b.toArray⟩],.agg #[.string ⟨c.toArray⟩,.string ⟨d.toArray⟩]] As fun u Bs=>u=.tuple #[.agg #[.string ⟨(outO (ap2 (· - ·) (readF a b) (readF c d))).1.toArray⟩,.string ⟨(outO (ap2 (· - ·) (readF a b) (readF c d))).2.1.toArray⟩],.int .i64 (outO (ap2 (· - ·) (readF a b) (readF c d))).2.2]∧Bs=As:=by
 refine CallsS.of_tri Tryz.func119 rfl Tryz.ntmps119 rfl ?_
 (repeat' first|(refine Ka ?_;first|refine Kb ?_|(refine Kc ?_;intro _))|refine Kd ?_|refine Kh ?_)
 refine TL.call rfl rfl rfl (applyR_ok (f:=201) (F:=(· - ·)) (fun _ _ _ _ _ _ _ _ _ _ _ h1 h2=>sub_ok (h1.mono (by omega)) (h2.mono (by omega))) ha hb hc hd) ?_
 intro u Bs h
 have hl:∀ r,ap2 (· - ·) (readF a b) (readF c d)=some r→Ln 1000000 r:=fun r hr=>by
  obtain ⟨x,y,h1,h2,rfl⟩:=ap2_some hr
  have hx:=readF_ln h1
  have hy:=readF_ln h2
  exact ((by rw [Rat.sub_eq_add_neg];exact hx.add hy.neg:Ln (600+600+1) (x - y)).mono (by omega))
 generalize ap2 (· - ·) (readF a b) (readF c d)=r at h hl ⊢
 cases r with
 | none =>
  obtain ⟨rfl,rfl⟩:=h
  (repeat' first|(refine Ka ?_;first|refine Kb ?_|(refine Kc ?_;intro _))|refine Kd ?_|refine Kh ?_)
  refine Kt rfl rfl rfl resultE_ok ?_
  (repeat' first|(refine Ka ?_;first|refine Kb ?_|(refine Kc ?_;intro _))|refine Kd ?_|refine Kh ?_)
  (refine Post.ra ?_)
  exact ⟨_,⟨rfl,rfl⟩,by (exact Ents.au)⟩
 | some x =>
  obtain ⟨p1,c1,p2,c2,rfl,rfl⟩:=h
  (repeat' first|(refine Ka ?_;first|refine Kb ?_|(refine Kc ?_;intro _))|refine Kd ?_|refine Kh ?_)
  refine Ks rfl rfl rfl rfl (resultS_ok ht (mv:=.slice p1 (mag x.num.natAbs).length c1) (bv:=.slice p2 (mag x.den).length c2) (hl x rfl)) ?_
  (repeat' first|(refine Ka ?_;first|refine Kb ?_|(refine Kc ?_;intro _))|refine Kd ?_|refine Kh ?_)
  (refine Post.ra ?_)
  exact ⟨_,⟨rfl,rfl⟩,by (exact Ents.au)⟩
theorem mulF_ok (ht:Tab w0) {a b c d:List UInt8} (ha:a.length≤1000000000) (hb:b.length≤1000000000) (hc:c.length≤1000000000) (hd:d.length≤1000000000) :
  CallsS Tryz.prog w0 120 [.agg #[.string ⟨a.toArray⟩,.string ⟨b.toArray⟩],.agg #[.string ⟨c.toArray⟩,.string ⟨d.toArray⟩]] As fun u Bs=>u=.tuple #[.agg #[.string ⟨(outO (ap2 (· * ·) (readF a b) (readF c d))).1.toArray⟩,.string ⟨(outO (ap2 (· * ·) (readF a b) (readF c d))).2.1.toArray⟩],.int .i64 (outO (ap2 (· * ·) (readF a b) (readF c d))).2.2]∧Bs=As:=by
 refine CallsS.of_tri Tryz.func120 rfl Tryz.ntmps120 rfl ?_
 (repeat' first|(refine Ka ?_;first|refine Kb ?_|(refine Kc ?_;intro _))|refine Kd ?_|refine Kh ?_)
 refine TL.call rfl rfl rfl (applyR_ok (f:=202) (F:=(· * ·)) (fun _ _ _ _ _ _ _ _ _ _ _ h1 h2=>mul_ok (h1.mono (by omega)) (h2.mono (by omega))) ha hb hc hd) ?_
 intro u Bs h
 have hl:∀ r,ap2 (· * ·) (readF a b) (readF c d)=some r→Ln 1000000 r:=fun r hr=>by
  obtain ⟨x,y,h1,h2,rfl⟩:=ap2_some hr
  have hx:=readF_ln h1
  have hy:=readF_ln h2
  exact ((hx.mul hy).mono (by omega))
 generalize ap2 (· * ·) (readF a b) (readF c d)=r at h hl ⊢
 cases r with
 | none =>
  obtain ⟨rfl,rfl⟩:=h
  (repeat' first|(refine Ka ?_;first|refine Kb ?_|(refine Kc ?_;intro _))|refine Kd ?_|refine Kh ?_)
  refine Kt rfl rfl rfl resultE_ok ?_
  (repeat' first|(refine Ka ?_;first|refine Kb ?_|(refine Kc ?_;intro _))|refine Kd ?_|refine Kh ?_)
  (refine Post.ra ?_)
  exact ⟨_,⟨rfl,rfl⟩,by (exact Ents.au)⟩
 | some x =>
  obtain ⟨p1,c1,p2,c2,rfl,rfl⟩:=h
  (repeat' first|(refine Ka ?_;first|refine Kb ?_|(refine Kc ?_;intro _))|refine Kd ?_|refine Kh ?_)
  refine Ks rfl rfl rfl rfl (resultS_ok ht (mv:=.slice p1 (mag x.num.natAbs).length c1) (bv:=.slice p2 (mag x.den).length c2) (hl x rfl)) ?_
  (repeat' first|(refine Ka ?_;first|refine Kb ?_|(refine Kc ?_;intro _))|refine Kd ?_|refine Kh ?_)
  (refine Post.ra ?_)
  exact ⟨_,⟨rfl,rfl⟩,by (exact Ents.au)⟩
theorem cmpF_ok {a b c d:List UInt8} (ha:a.length≤1000000000) (hb:b.length≤1000000000) (hc:c.length≤1000000000) (hd:d.length≤1000000000) :
  CallsS Tryz.prog w0 123 [.agg #[.string ⟨a.toArray⟩,.string ⟨b.toArray⟩],.agg #[.string ⟨c.toArray⟩,.string ⟨d.toArray⟩]] As fun u Bs=>u=.tuple #[.int .i64 ((ap2 ordQ (readF a b) (readF c d)).getD 0),.int .i64 (if (ap2 ordQ (readF a b) (readF c d)).isSome then 0 else 20)]∧Bs=As:=by
 refine CallsS.of_tri Tryz.func123 rfl Tryz.ntmps123 rfl ?_
 (repeat' first|(refine Ka ?_;first|refine Kb ?_|(refine Kc ?_;intro _))|refine Kd ?_|refine Kh ?_)
 refine Kt rfl rfl rfl (applyI_ok ha hb hc hd) ?_
 (repeat' first|(refine Ka ?_;first|refine Kb ?_|(refine Kc ?_;intro _))|refine Kd ?_|refine Kh ?_)
 (refine Post.ra ?_)
 exact ⟨_,⟨rfl,rfl⟩,by (exact Ents.au)⟩
theorem negF_ok (ht:Tab w0) {a b:List UInt8} (ha:a.length≤1000000000) (hb:b.length≤1000000000) :
  CallsS Tryz.prog w0 170 [.agg #[.string ⟨a.toArray⟩,.string ⟨b.toArray⟩]] As fun u Bs=>u=.tuple #[.agg #[.string ⟨(outO ((readF a b).map fun x=>-x)).1.toArray⟩,.string ⟨(outO ((readF a b).map fun x=>-x)).2.1.toArray⟩],.int .i64 (outO ((readF a b).map fun x=>-x)).2.2]∧Bs=As:=by
 refine CallsS.of_tri Tryz.func170 rfl Tryz.ntmps170 rfl ?_
 (repeat' first|(refine Ka ?_;first|refine Kb ?_|(refine Kc ?_;intro _))|refine Kd ?_|refine Kh ?_)
 refine TL.call rfl rfl rfl (read_ok ha hb) ?_
 intro _ _ h1
 cases hx:readF a b with
 | none =>
  rw [hx] at h1
  obtain ⟨rfl,rfl⟩:=h1
  (repeat' first|(refine Ka ?_;first|refine Kb ?_|(refine Kc ?_;intro _))|refine Kd ?_|refine Kh ?_)
  (refine Post.ra ?_)
  exact ⟨_,⟨rfl,rfl⟩,by (exact Ents.au)⟩
 | some x =>
  rw [hx] at h1
  obtain ⟨p1,c1,p2,c2,rfl,rfl⟩:=h1
  have hl:=readF_ln hx
  have en:mag x.num.natAbs=mag (-x).num.natAbs:=by rw [Rat.neg_num,Int.natAbs_neg]
  have ed:mag x.den=mag (-x).den:=rfl
  (repeat' first|(refine Ka ?_;first|refine Kb ?_|(refine Kc ?_;intro _))|refine Kd ?_|refine Kh ?_)
  refine Ks rfl rfl rfl rfl (negated_ok (mv:=.slice p1 (mag x.num.natAbs).length c1) (bv:=.slice p2 (mag x.den).length c2) (x:=x)) ?_
  (repeat' first|(refine Ka ?_;first|refine Kb ?_|(refine Kc ?_;intro _))|refine Kd ?_|refine Kh ?_)
  rw [en,ed]
  refine Ks rfl rfl rfl rfl (write_ok ht (mv:=.slice p1 (mag (-x).num.natAbs).length c1) (bv:=.slice p2 (mag (-x).den).length c2) (x:=-x) (hl.neg.mono (by omega))) ?_
  (repeat' first|(refine Ka ?_;first|refine Kb ?_|(refine Kc ?_;intro _))|refine Kd ?_|refine Kh ?_)
  (refine Post.ra ?_)
  exact ⟨_,⟨rfl,rfl⟩,by (exact Ents.au)⟩
def absQ (x:Rat):Rat:=if x.num < 0 then -x else x
theorem divF_ok (ht:Tab w0) {a b c d:List UInt8} (ha:a.length≤1000000000) (hb:b.length≤1000000000) (hc:c.length≤1000000000) (hd:d.length≤1000000000) :
  CallsS Tryz.prog w0 121 [.agg #[.string ⟨a.toArray⟩,.string ⟨b.toArray⟩],.agg #[.string ⟨c.toArray⟩,.string ⟨d.toArray⟩]] As fun u Bs=>u=.tuple #[.agg #[.string ⟨(divO (readF a b) (readF c d)).1.toArray⟩,.string ⟨(divO (readF a b) (readF c d)).2.1.toArray⟩],.int .i64 (divO (readF a b) (readF c d)).2.2]∧Bs=As:=by
 refine CallsS.of_tri Tryz.func121 rfl Tryz.ntmps121 rfl ?_
 (repeat' first|(refine Ka ?_;first|refine Kb ?_|(refine Kc ?_;intro _))|refine Kd ?_|refine Kh ?_)
 rename_i b2 b3 b4
 refine TL.call rfl rfl rfl (read_ok ha hb) ?_
 intro _ _ h1
 cases hx:readF a b with
 | none =>
  rw [hx] at h1
  obtain ⟨rfl,rfl⟩:=h1
  (repeat' first|(refine Ka ?_;first|refine Kb ?_|(refine Kc ?_;intro _))|refine Kd ?_|refine Kh ?_)
  refine TL.call rfl rfl rfl (read_ok hc hd) ?_
  intro _ _ h2
  cases hy:readF c d with
  | none =>
   rw [hy] at h2
   obtain ⟨rfl,rfl⟩:=h2
   (repeat' first|(refine Ka ?_;first|refine Kb ?_|(refine Kc ?_;intro _))|refine Kd ?_|refine Kh ?_)
   (refine Post.ra ?_)
   exact ⟨_,⟨rfl,rfl⟩,by (exact Ents.au)⟩
  | some y =>
   rw [hy] at h2
   obtain ⟨q1,k1,q2,k2,rfl,rfl⟩:=h2
   (repeat' first|(refine Ka ?_;first|refine Kb ?_|(refine Kc ?_;intro _))|refine Kd ?_|refine Kh ?_)
   (refine Post.ra ?_)
   exact ⟨_,⟨rfl,rfl⟩,by (exact Ents.au)⟩
 | some x =>
  rw [hx] at h1
  obtain ⟨p1,c1,p2,c2,rfl,rfl⟩:=h1
  (repeat' first|(refine Ka ?_;first|refine Kb ?_|(refine Kc ?_;intro _))|refine Kd ?_|refine Kh ?_)
  rename_i b6
  refine TL.call rfl rfl rfl (read_ok hc hd) ?_
  intro _ _ h2
  cases hy:readF c d with
  | none =>
   rw [hy] at h2
   obtain ⟨rfl,rfl⟩:=h2
   (repeat' first|(refine Ka ?_;first|refine Kb ?_|(refine Kc ?_;intro _))|refine Kd ?_|refine Kh ?_)
   (refine Post.ra ?_)
   exact ⟨_,⟨rfl,rfl⟩,by (exact Ents.au)⟩
  | some y =>
   rw [hy] at h2
   obtain ⟨q1,k1,q2,k2,rfl,rfl⟩:=h2
   have lx:=readF_ln hx
   have ly:=readF_ln hy
   (repeat' first|(refine Ka ?_;first|refine Kb ?_|(refine Kc ?_;intro _))|refine Kd ?_|refine Kh ?_)
   rename_i b8
   refine Ks rfl rfl rfl rfl (zero_ok (v:=.slice q1 (mag y.num.natAbs).length k1) (n:=y.num.natAbs)) ?_
   by_cases h0:y.num.natAbs=0
   ·have hy0:y=0:=Rat.num_eq_zero.1 (by omega)
    rw [divO,if_pos hy0]
    (repeat' first|(refine Ka ?_;first|refine Kb ?_|(refine Kc ?_;intro _))|refine Kd ?_|refine Kh ?_)
    (refine Post.ra ?_)
    exact ⟨_,⟨rfl,rfl⟩,by (exact Ents.au)⟩
   ·have hy0:y≠0:=fun h=>h0 (by rw [h];rfl)
    rw [divO,if_neg hy0]
    (repeat' first|(refine Ka ?_;first|refine Kb ?_|(refine Kc ?_;intro _))|refine Kd ?_|refine Kh ?_)
    refine Tri.dw [.cl b6 [.slice p1 (mag x.num.natAbs).length c1,.bool (decide (x.num < 0)),.slice p2 (mag x.den).length c2] 201,.cl b8 [.slice q1 (mag y.num.natAbs).length k1,.bool (decide (y.num < 0)),.slice q2 (mag y.den).length k2] 201] [] (.take 0 (.take 1 (.all [(2,.all [(3,.all [(4,.take 5 (.take 6 (.all [(7,.take 8 (.done))])))])])]))) ?_
    (repeat' first|(refine Ka ?_;first|refine Kb ?_|(refine Kc ?_;intro _))|refine Kd ?_|(refine Ki ?_;refine Kj ?_)|exact Kk|refine Kl ?_ ?_|(refine Km ?_;first|refine Kn ?_|(refine Ko ?_;intro _))|(refine Kp ?_;first|refine Kq ?_|refine Kr ?_)|refine Kh ?_)
    refine T1.callv rfl rfl rfl rfl rfl (inverse_ok (mv:=.slice q1 (mag y.num.natAbs).length k1) (bv:=.slice q2 (mag y.den).length k2) hy0) ?_
    rintro _ _ ⟨q3,k3,q4,k4,rfl,rfl⟩
    (repeat' first|(refine Ka ?_;first|refine Kb ?_|(refine Kc ?_;intro _))|refine Kd ?_|(refine Ki ?_;refine Kj ?_)|exact Kk|refine Kl ?_ ?_|(refine Km ?_;first|refine Kn ?_|(refine Ko ?_;intro _))|(refine Kp ?_;first|refine Kq ?_|refine Kr ?_)|refine Kh ?_)
    refine T1.callv rfl rfl rfl rfl rfl (mul_ok (mv:=.slice p1 (mag x.num.natAbs).length c1) (bv:=.slice p2 (mag x.den).length c2) (nv:=.slice q3 (mag (y⁻¹).num.natAbs).length k3) (cv:=.slice q4 (mag (y⁻¹).den).length k4) (x:=x) (y:=y⁻¹) (lx.mono (by omega)) (ly.inv.mono (by omega))) ?_
    rintro _ _ ⟨q5,k5,q6,k6,rfl,rfl⟩
    (repeat' first|(refine Ka ?_;first|refine Kb ?_|(refine Kc ?_;intro _))|refine Kd ?_|(refine Ki ?_;refine Kj ?_)|exact Kk|refine Kl ?_ ?_|(refine Km ?_;first|refine Kn ?_|(refine Ko ?_;intro _))|(refine Kp ?_;first|refine Kq ?_|refine Kr ?_)|refine Kh ?_)
    refine Ku rfl rfl rfl rfl rfl (write_ok ht (mv:=.slice q5 (mag (x * y⁻¹).num.natAbs).length k5) (bv:=.slice q6 (mag (x * y⁻¹).den).length k6) (x:=x * y⁻¹) ((lx.mul ly.inv).mono (by omega))) ?_
    (repeat' first|(refine Ka ?_;first|refine Kb ?_|(refine Kc ?_;intro _))|refine Kd ?_|(refine Ki ?_;refine Kj ?_)|exact Kk|refine Kl ?_ ?_|(refine Km ?_;first|refine Kn ?_|(refine Ko ?_;intro _))|(refine Kp ?_;first|refine Kq ?_|refine Kr ?_)|refine Kh ?_)
    (refine Post.ra ?_)
    exact ⟨_,⟨rfl,rfl⟩,by (exact Ents.au)⟩
def nearO (o:Option Rat) (k:Int):Int × Int:=match o with
 | none=>(0,20)
 | some x=>if 1≤k∧k≤1000000000000 then (if -9223372036854775808≤nearQ x k.toNat∧nearQ x k.toNat≤9223372036854775807 then (nearQ x k.toNat,0) else (0,6)) else (0,2)
theorem nearQ_len {x:Rat} {k:Nat} (hx:Ln 600 x) (hk:(mag k).length≤3):(mag (nearQ x k).natAbs).length≤700:=by
 obtain ⟨l1,l2⟩:=hx
 unfold nearQ
 refine Nat.le_trans (mag_len_le (Int.natAbs_ediv_le_natAbs _ _)) (Nat.le_trans (mag_len_le (Int.natAbs_add_le _ _)) (Nat.le_trans (mag_len_add _ _) ?_))
 rw [Int.natAbs_mul,Int.natAbs_natCast,Int.natAbs_natCast]
 have h1:=mag_len_mul x.num.natAbs (k * 2)
 have h2:=mag_len_mul k 2
 have hm2:mag 2=[2]:=mag_single (by omega) (by omega)
 have l2:(mag 2).length=1:=by rw [hm2];rfl
 omega
theorem textI_le {z:Int} (h:(mag z.natAbs).length≤1000):(textI z).length≤10002:=by
 have h1:=nDigits_le_mag z.natAbs
 rw [textI_eq]
 split
 ·rw [List.length_cons,dec_len];omega
 ·rw [dec_len];omega
theorem small_digits {z:Int} (h:-9223372036854775808≤z∧z≤9223372036854775807):Lib.nDigits z.natAbs≤19:=nDigits_lt (k:=19) (by omega) (by omega)
theorem intW_in {z:Int} (h:-9223372036854775808≤z∧z≤9223372036854775807):intW (textI z)=(z,0):=by
 have:=small_digits h
 unfold intW
 rw [readW_text (by omega)]
 exact if_pos h
theorem intW_out {z:Int} (h:¬ (-9223372036854775808≤z∧z≤9223372036854775807)):(intW (textI z)).2≠0:=by
 unfold intW
 cases hr:readW (textI z) with
 | none=>simp
 | some w =>
  dsimp only
  by_cases hw:-9223372036854775808≤w∧w≤9223372036854775807
  ·exfalso
   have hd:=small_digits hw
   have ht:=text_readW hr
   have hz:Lib.nDigits z.natAbs≤600:=by
        have hl:=congrArg List.length ht
        rw [textI_eq,textI_eq] at hl
        have d1:=dec_len w.natAbs
        have d2:=dec_len z.natAbs
        split at hl<;>split at hl<;>(try simp only [List.length_cons] at hl)<;>omega
   rw [readW_text hz] at hr
   exact h (by rw [Option.some.inj hr];exact hw)
  ·rw [if_neg hw];decide
theorem nearF_ok (ht:Tab w0) (he:ErrR w0) {a b:List UInt8} {k:Int} (ha:a.length≤1000000000) (hb:b.length≤1000000000) :
  CallsS Tryz.prog w0 126 [.agg #[.string ⟨a.toArray⟩,.string ⟨b.toArray⟩],.int .i64 k] As fun u Bs=>u=.tuple #[.int .i64 (nearO (readF a b) k).1,.int .i64 (nearO (readF a b) k).2]∧Bs=As:=by
 refine CallsS.of_tri Tryz.func126 rfl Tryz.ntmps126 rfl ?_
 (repeat' first|(refine Ka ?_;first|refine Kb ?_|(refine Kc ?_;intro _))|refine Kd ?_|refine Kh ?_)
 refine TL.call rfl rfl rfl (read_ok ha hb) ?_
 intro _ _ h1
 cases hx:readF a b with
 | none =>
  rw [hx] at h1
  obtain ⟨rfl,rfl⟩:=h1
  (repeat' first|(refine Ka ?_;first|refine Kb ?_|(refine Kc ?_;intro _))|refine Kd ?_|refine Kh ?_)
  (refine Post.ra ?_)
  exact ⟨_,⟨rfl,rfl⟩,by (exact Ents.au)⟩
 | some x =>
  rw [hx] at h1
  obtain ⟨p1,c1,p2,c2,rfl,rfl⟩:=h1
  have hl:=readF_ln hx
  by_cases hk:1≤k∧k≤1000000000000
  ·rw [nearO,if_pos hk]
   obtain ⟨n,rfl⟩:∃ n:Nat,k=(n:Int):=⟨k.toNat,by omega⟩
   rw [Int.toNat_natCast]
   obtain ⟨k1,k2⟩:=hk
   have lk:(mag n).length≤2:=mag_len_lt (by omega)
   have lz:=nearQ_len (k:=n) hl (by omega)
   (repeat' first|(refine Ka ?_;first|refine Kb ?_|(refine Kc ?_;intro _))|refine Kd ?_|refine Kh ?_)
   refine Tri.dr (.take 0 (.take 1 (.take 2 (.all [(3,.all [(4,.all [(5,.all [(6,.take 7 (.take 8 (.take 9 (.take 10 (.take 11 (.done))))))])])])])))) ?_
   (repeat' first|(refine Ka ?_;first|refine Kb ?_|(refine Kc ?_;intro _))|refine Kd ?_|(refine Ki ?_;refine Kj ?_)|exact Kk|refine Kl ?_ ?_|(refine Km ?_;first|refine Kn ?_|(refine Ko ?_;intro _))|(refine Kp ?_;first|refine Kq ?_|refine Kr ?_)|refine Kh ?_)
   refine T1.callv rfl rfl rfl rfl rfl (fromSmall_ok (n:=n) (by omega)) ?_
   rintro _ _ ⟨p3,c3,rfl,rfl⟩
   (repeat' first|(refine Ka ?_;first|refine Kb ?_|(refine Kc ?_;intro _))|refine Kd ?_|(refine Ki ?_;refine Kj ?_)|exact Kk|refine Kl ?_ ?_|(refine Km ?_;first|refine Kn ?_|(refine Ko ?_;intro _))|(refine Kp ?_;first|refine Kq ?_|refine Kr ?_)|refine Kh ?_)
   refine T1.callv rfl rfl rfl rfl rfl (near_ok (mv:=.slice p1 (mag x.num.natAbs).length c1) (bv:=.slice p2 (mag x.den).length c2) (sv:=.slice p3 (mag n).length c3) (x:=x) (k:=n) (hl.mono (by omega)) (by omega)) ?_
   rintro _ _ ⟨p4,c4,rfl,rfl⟩
   (repeat' first|(refine Ka ?_;first|refine Kb ?_|(refine Kc ?_;intro _))|refine Kd ?_|(refine Ki ?_;refine Kj ?_)|exact Kk|refine Kl ?_ ?_|(refine Km ?_;first|refine Kn ?_|(refine Ko ?_;intro _))|(refine Kp ?_;first|refine Kq ?_|refine Kr ?_)|refine Kh ?_)
   generalize nearQ x n=z at lz ⊢
   refine Ku rfl rfl rfl rfl rfl (text_ok ht (v:=.slice p4 (mag z.natAbs).length c4) (z:=z) (by omega)) ?_
   (repeat' first|(refine Ka ?_;first|refine Kb ?_|(refine Kc ?_;intro _))|refine Kd ?_|(refine Ki ?_;refine Kj ?_)|exact Kk|refine Kl ?_ ?_|(refine Km ?_;first|refine Kn ?_|(refine Ko ?_;intro _))|(refine Kp ?_;first|refine Kq ?_|refine Kr ?_)|refine Kh ?_)
   have lt:=textI_le (z:=z) (by omega)
   refine Kw rfl rfl rfl rfl (int_ok he (s:=textI z) (by omega)) ?_
   by_cases hr:-9223372036854775808≤z∧z≤9223372036854775807
   ·rw [intW_in hr,if_pos hr]
    (repeat' first|(refine Ka ?_;first|refine Kb ?_|(refine Kc ?_;intro _))|refine Kd ?_|(refine Ki ?_;refine Kj ?_)|exact Kk|refine Kl ?_ ?_|(refine Km ?_;first|refine Kn ?_|(refine Ko ?_;intro _))|(refine Kp ?_;first|refine Kq ?_|refine Kr ?_)|refine Kh ?_)
    (refine Post.ra ?_)
    exact ⟨_,⟨rfl,rfl⟩,by (exact Ents.au)⟩
   ·have h6:=intW_out hr
    rw [if_neg hr]
    generalize intW (textI z)=w at h6 ⊢
    obtain ⟨w1,w2⟩:=w
    simp only at h6
    (repeat' first|(refine Ka ?_;first|refine Kb ?_|(refine Kc ?_;intro _))|refine Kd ?_|(refine Ki ?_;refine Kj ?_)|exact Kk|refine Kl ?_ ?_|(refine Km ?_;first|refine Kn ?_|(refine Ko ?_;intro _))|(refine Kp ?_;first|refine Kq ?_|refine Kr ?_)|refine Kh ?_)
    (refine Post.ra ?_)
    exact ⟨_,⟨rfl,rfl⟩,by (exact Ents.au)⟩
  ·rw [nearO,if_neg hk]
   by_cases hk1:k < 1
   ·(repeat' first|(refine Ka ?_;first|refine Kb ?_|(refine Kc ?_;intro _))|refine Kd ?_|refine Kh ?_)
    (refine Post.ra ?_)
    exact ⟨_,⟨rfl,rfl⟩,by (exact Ents.au)⟩
   ·have hk2:1000000000000 < k:=by omega
    (repeat' first|(refine Ka ?_;first|refine Kb ?_|(refine Kc ?_;intro _))|refine Kd ?_|refine Kh ?_)
    (refine Post.ra ?_)
    exact ⟨_,⟨rfl,rfl⟩,by (exact Ents.au)⟩
def makeO (n d:List UInt8):List UInt8 × List UInt8 × Int:=match readW n,readW d with
 | some x,some y=>if y=0 then ([],[],7) else outF (mkRat (if y < 0 then -x else x) y.natAbs)
 | _,_=>([],[],10)
set_option maxHeartbeats 2000000 in
theorem makeF_ok (ht:Tab w0) {a b:List UInt8} (ha:a.length≤1000000000) (hb:b.length≤1000000000) :
  CallsS Tryz.prog w0 196 [.string ⟨a.toArray⟩,.string ⟨b.toArray⟩] As fun u Bs=>u=.tuple #[.agg #[.string ⟨(makeO a b).1.toArray⟩,.string ⟨(makeO a b).2.1.toArray⟩],.int .i64 (makeO a b).2.2]∧Bs=As:=by
 refine CallsS.of_tri Tryz.func196 rfl Tryz.ntmps196 rfl ?_
 (repeat' first|(refine Ka ?_;first|refine Kb ?_|(refine Kc ?_;intro _))|refine Kd ?_|refine Kh ?_)
 refine Kt rfl rfl rfl (check_okW ha) ?_
 cases h1:readW a with
 | none =>
  rw [checkW_none h1,makeO,h1]
  (repeat' first|(refine Ka ?_;first|refine Kb ?_|(refine Kc ?_;intro _))|refine Kd ?_|refine Kh ?_)
  (refine Post.ra ?_)
  exact ⟨_,⟨rfl,rfl⟩,by (exact Ents.au)⟩
 | some x =>
  rw [checkW_some h1]
  (repeat' first|(refine Ka ?_;first|refine Kb ?_|(refine Kc ?_;intro _))|refine Kd ?_|refine Kh ?_)
  refine Kt rfl rfl rfl (check_okW hb) ?_
  cases h2:readW b with
  | none =>
   rw [checkW_none h2,makeO,h1,h2]
   (repeat' first|(refine Ka ?_;first|refine Kb ?_|(refine Kc ?_;intro _))|refine Kd ?_|refine Kh ?_)
   (refine Post.ra ?_)
   exact ⟨_,⟨rfl,rfl⟩,by (exact Ents.au)⟩
  | some y =>
   rw [checkW_some h2,makeO,h1,h2]
   dsimp only
   have lx:(mag x.natAbs).length≤600:=readW_len h1
   have ly:(mag y.natAbs).length≤600:=readW_len h2
   (repeat' first|(refine Ka ?_;first|refine Kb ?_|(refine Kc ?_;intro _))|refine Kd ?_|refine Kh ?_)
   refine TL.call rfl rfl rfl (number_ok h1) ?_
   rintro _ _ ⟨p1,c1,rfl,rfl⟩
   (repeat' first|(refine Ka ?_;first|refine Kb ?_|(refine Kc ?_;intro _))|refine Kd ?_|refine Kh ?_)
   refine TL.call rfl rfl rfl (number_ok h2) ?_
   rintro _ _ ⟨p2,c2,rfl,rfl⟩
   (repeat' first|(refine Ka ?_;first|refine Kb ?_|(refine Kc ?_;intro _))|refine Kd ?_|refine Kh ?_)
   rename_i b6 b7
   refine Ks rfl rfl rfl rfl (zero_ok (v:=.slice p2 (mag y.natAbs).length c2) (n:=y.natAbs)) ?_
   by_cases h0:y.natAbs=0
   ·rw [if_pos (by omega)]
    (repeat' first|(refine Ka ?_;first|refine Kb ?_|(refine Kc ?_;intro _))|refine Kd ?_|refine Kh ?_)
    (refine Post.ra ?_)
    exact ⟨_,⟨rfl,rfl⟩,by (exact Ents.au)⟩
   ·rw [if_neg (by omega)]
    obtain ⟨z,hz⟩:∃ z,z=if y < 0 then -x else x:=⟨_,rfl⟩
    rw [← hz]
    have ez:z.natAbs=x.natAbs:=by rw [hz];split<;>omega
    have em:mag x.natAbs=mag z.natAbs:=by rw [ez]
    have eb:(!decide (decide (x < 0)=decide (y < 0))&&decide (x.natAbs≠0))=decide (z < 0):=by
     rw [hz,Bool.eq_iff_iff]
     simp only [Bool.and_eq_true,Bool.not_eq_true',decide_eq_false_iff_not,decide_eq_true_eq]
     by_cases k1:x < 0<;>by_cases k2:y < 0<;>simp [k1,k2]<;>omega
    have hR:=rat_norm (n:=z) h0
    have hl:Ln 1000000 (mkRat z y.natAbs):=by
     refine ⟨?_,?_⟩
     ·rw [hR.1]
      exact Nat.le_trans (mag_len_le (Int.natAbs_ediv_le_natAbs _ _)) (by rw [ez];omega)
     ·rw [hR.2]
      exact Nat.le_trans (mag_len_le (Nat.div_le_self _ _)) (by omega)
    (repeat' first|(refine Ka ?_;first|refine Kb ?_|(refine Kc ?_;intro _))|refine Kd ?_|refine Kh ?_)
    refine Tri.dw [.cl b6 [.slice p1 (mag x.natAbs).length c1,.bool (decide (x < 0))] 199,.cl b7 [.slice p2 (mag y.natAbs).length c2,.bool (decide (y < 0))] 199] [] (.take 0 (.take 1 (.take 2 (.take 3 (.take 4 (.take 5 (.take 6 (.take 8 (.take 9 (.all [(7,.all [(10,.all [(11,.take 12 (.take 13 (.all [(14,.take 15 (.done))])))])])])))))))))) ?_
    (repeat' first|(refine Ka ?_;first|refine Kb ?_|(refine Kc ?_;intro _))|refine Kd ?_|(refine Ki ?_;refine Kj ?_)|exact Kk|refine Kl ?_ ?_|(refine Km ?_;first|refine Kn ?_|(refine Ko ?_;intro _))|(refine Kp ?_;first|refine Kq ?_|refine Kr ?_)|refine Kh ?_)
    refine Ku rfl rfl rfl rfl rfl (signed_ok (v:=.slice p1 (mag x.natAbs).length c1) (n:=x.natAbs)) ?_
    rw [eb]
    (repeat' first|(refine Ka ?_;first|refine Kb ?_|(refine Kc ?_;intro _))|refine Kd ?_|(refine Ki ?_;refine Kj ?_)|exact Kk|refine Kl ?_ ?_|(refine Km ?_;first|refine Kn ?_|(refine Ko ?_;intro _))|(refine Kp ?_;first|refine Kq ?_|refine Kr ?_)|refine Kh ?_)
    rw [em]
    refine T1.callv rfl rfl rfl rfl rfl (reduced_ok (v:=.slice p1 (mag z.natAbs).length c1) (o:=.slice p2 (mag y.natAbs).length c2) (n:=z) (d:=y.natAbs) h0 (by rw [← em];omega) (by omega)) ?_
    rintro _ _ ⟨p3,c3,p4,c4,rfl,rfl⟩
    (repeat' first|(refine Ka ?_;first|refine Kb ?_|(refine Kc ?_;intro _))|refine Kd ?_|(refine Ki ?_;refine Kj ?_)|exact Kk|refine Kl ?_ ?_|(refine Km ?_;first|refine Kn ?_|(refine Ko ?_;intro _))|(refine Kp ?_;first|refine Kq ?_|refine Kr ?_)|refine Kh ?_)
    refine Ku rfl rfl rfl rfl rfl (write_ok ht (mv:=.slice p3 (mag (mkRat z y.natAbs).num.natAbs).length c3) (bv:=.slice p4 (mag (mkRat z y.natAbs).den).length c4) (x:=mkRat z y.natAbs) hl) ?_
    (repeat' first|(refine Ka ?_;first|refine Kb ?_|(refine Kc ?_;intro _))|refine Kd ?_|(refine Ki ?_;refine Kj ?_)|exact Kk|refine Kl ?_ ?_|(refine Km ?_;first|refine Kn ?_|(refine Ko ?_;intro _))|(refine Kp ?_;first|refine Kq ?_|refine Kr ?_)|refine Kh ?_)
    (refine Post.ra ?_)
    exact ⟨_,⟨rfl,rfl⟩,by (exact Ents.au)⟩
def ofO (n d:Int):List UInt8 × List UInt8 × Int:=if d=0 then ([],[],7) else outF (mkRat (if d < 0 then -n else n) d.natAbs)
theorem makeO_of {n d:Int} (hn:-9223372036854775808≤n∧n≤9223372036854775807) (hd:-9223372036854775808≤d∧d≤9223372036854775807):makeO (textI n) (textI d)=ofO n d:=by
 have h1:=small_digits hn
 have h2:=small_digits hd
 unfold makeO ofO
 rw [readW_text (by omega),readW_text (by omega)]
theorem ofF_ok (ht:Tab w0) {n d:Int} (hn:-9223372036854775808≤n∧n≤9223372036854775807) (hd:-9223372036854775808≤d∧d≤9223372036854775807) :
  CallsS Tryz.prog w0 114 [.int .i64 n,.int .i64 d] As fun u Bs=>u=.tuple #[.agg #[.string ⟨(ofO n d).1.toArray⟩,.string ⟨(ofO n d).2.1.toArray⟩],.int .i64 (ofO n d).2.2]∧Bs=As:=by
 refine CallsS.of_tri Tryz.func114 rfl Tryz.ntmps114 rfl ?_
 (repeat' first|(refine Ka ?_;first|refine Kb ?_|(refine Kc ?_;intro _))|refine Kd ?_|refine Kh ?_)
 have ln:∀ {z:Int},(-9223372036854775808≤z∧z≤9223372036854775807)→(textI z).length≤1000000000:=fun {z} h=>by
  have h1:=small_digits h
  rw [textI_eq]
  split
  ·rw [List.length_cons,dec_len];omega
  ·rw [dec_len];omega
 refine Kt rfl rfl rfl (ofInt_ok ht hn.1 hn.2) ?_
 (repeat' first|(refine Ka ?_;first|refine Kb ?_|(refine Kc ?_;intro _))|refine Kd ?_|refine Kh ?_)
 refine Kt rfl rfl rfl (ofInt_ok ht hd.1 hd.2) ?_
 (repeat' first|(refine Ka ?_;first|refine Kb ?_|(refine Kc ?_;intro _))|refine Kd ?_|refine Kh ?_)
 refine Kt rfl rfl rfl (makeF_ok ht (ln hn) (ln hd)) ?_
 rw [makeO_of hn hd]
 (repeat' first|(refine Ka ?_;first|refine Kb ?_|(refine Kc ?_;intro _))|refine Kd ?_|refine Kh ?_)
 (refine Post.ra ?_)
 exact ⟨_,⟨rfl,rfl⟩,by (exact Ents.au)⟩
def clampO (a l h:Option Rat):List UInt8 × List UInt8 × Int:=match a,l,h with
 | some x,some y,some z=>if z < y then ([],[],2) else outF (minQ (maxQ x y) z)
 | _,_,_=>([],[],20)
theorem Ln.minQ {k:Nat} {x y:Rat} (hx:Ln k x) (hy:Ln k y):Ln k (minQ x y):=by unfold Q.minQ;split;exact hy;exact hx
theorem Ln.maxQ {k:Nat} {x y:Rat} (hx:Ln k x) (hy:Ln k y):Ln k (maxQ x y):=by unfold Q.maxQ;split;exact hy;exact hx
def powO (a b:List UInt8) (n:Int):List UInt8 × List UInt8 × Int:=match readF a b with
 | none=>([],[],20)
 | some _=>if (powW a n).2≠0 then ([],[],(powW a n).2) else if (powW b n).2≠0 then ([],[],(powW b n).2) else ((powW a n).1,(powW b n).1,0)
end Go.Proofs.YtkcnpgmgmgepoaaGreatDoor.Q
namespace Go.Sx
open Go
def tN (r:Rat):List UInt8:=textI r.num
def tD (r:Rat):List UInt8:=textI (r.den:Int)
theorem tN_len {r:Rat} (h:Fit 600 r):(tN r).length≤1000000000:=by
 have:=textI_len r.num
 have h1:=h.1
 unfold tN
 split at this<;>omega
theorem tD_len {r:Rat} (h:Fit 600 r):(tD r).length≤1000000000:=by
 have:=textI_len (r.den:Int)
 have h1:=h.2
 unfold tD
 rw [Int.natAbs_natCast] at this
 split at this<;>omega
theorem Fit.rd {r:Rat} (h:Fit 600 r):readF (tN r) (tD r)=some r:=h.read
theorem Fit.ot {r:Rat} (h:Fit 600 r):outF r=(tN r,tD r,0):=h.out
end Go.Sx
namespace Go.Proofs.YtkcnpgmgmgepoaaGreatDoor.Q
open Go Go.Sx
variable {w0:World} {As:List Ent}
theorem addT_ok (ht:Tab w0) {r s:Rat} (hr:Fit 600 r) (hs:Fit 600 s) (h:Fit 600 (r+s)) :
  CallsS Tryz.prog w0 117 [.agg #[.string ⟨(tN r).toArray⟩,.string ⟨(tD r).toArray⟩],.agg #[.string ⟨(tN s).toArray⟩,.string ⟨(tD s).toArray⟩]] As fun u Bs=>u=.tuple #[.agg #[.string ⟨(tN (r+s)).toArray⟩,.string ⟨(tD (r+s)).toArray⟩],.int .i64 0]∧Bs=As:=by
 have k:=addF_ok (w0:=w0) (As:=As) ht (tN_len hr) (tD_len hr) (tN_len hs) (tD_len hs)
 rw [hr.rd,hs.rd] at k
 simp only [ap2,outO] at k
 rw [h.ot] at k
 exact k
theorem subT_ok (ht:Tab w0) {r s:Rat} (hr:Fit 600 r) (hs:Fit 600 s) (h:Fit 600 (r - s)) :
  CallsS Tryz.prog w0 119 [.agg #[.string ⟨(tN r).toArray⟩,.string ⟨(tD r).toArray⟩],.agg #[.string ⟨(tN s).toArray⟩,.string ⟨(tD s).toArray⟩]] As fun u Bs=>u=.tuple #[.agg #[.string ⟨(tN (r - s)).toArray⟩,.string ⟨(tD (r - s)).toArray⟩],.int .i64 0]∧Bs=As:=by
 have k:=subF_ok (w0:=w0) (As:=As) ht (tN_len hr) (tD_len hr) (tN_len hs) (tD_len hs)
 rw [hr.rd,hs.rd] at k
 simp only [ap2,outO] at k
 rw [h.ot] at k
 exact k
theorem mulT_ok (ht:Tab w0) {r s:Rat} (hr:Fit 600 r) (hs:Fit 600 s) (h:Fit 600 (r * s)) :
  CallsS Tryz.prog w0 120 [.agg #[.string ⟨(tN r).toArray⟩,.string ⟨(tD r).toArray⟩],.agg #[.string ⟨(tN s).toArray⟩,.string ⟨(tD s).toArray⟩]] As fun u Bs=>u=.tuple #[.agg #[.string ⟨(tN (r * s)).toArray⟩,.string ⟨(tD (r * s)).toArray⟩],.int .i64 0]∧Bs=As:=by
 have k:=mulF_ok (w0:=w0) (As:=As) ht (tN_len hr) (tD_len hr) (tN_len hs) (tD_len hs)
 rw [hr.rd,hs.rd] at k
 simp only [ap2,outO] at k
 rw [h.ot] at k
 exact k
theorem divT_ok (ht:Tab w0) {r s:Rat} (hr:Fit 600 r) (hs:Fit 600 s) (h0:s≠0) (h:Fit 600 (r * s⁻¹)) :
  CallsS Tryz.prog w0 121 [.agg #[.string ⟨(tN r).toArray⟩,.string ⟨(tD r).toArray⟩],.agg #[.string ⟨(tN s).toArray⟩,.string ⟨(tD s).toArray⟩]] As fun u Bs=>u=.tuple #[.agg #[.string ⟨(tN (r * s⁻¹)).toArray⟩,.string ⟨(tD (r * s⁻¹)).toArray⟩],.int .i64 0]∧Bs=As:=by
 have k:=divF_ok (w0:=w0) (As:=As) ht (tN_len hr) (tD_len hr) (tN_len hs) (tD_len hs)
 rw [hr.rd,hs.rd] at k
 simp only [divO] at k
 rw [if_neg h0,h.ot] at k
 exact k
theorem negT_ok (ht:Tab w0) {r:Rat} (hr:Fit 600 r) :
  CallsS Tryz.prog w0 170 [.agg #[.string ⟨(tN r).toArray⟩,.string ⟨(tD r).toArray⟩]] As fun u Bs=>u=.tuple #[.agg #[.string ⟨(tN (-r)).toArray⟩,.string ⟨(tD (-r)).toArray⟩],.int .i64 0]∧Bs=As:=by
 have k:=negF_ok (w0:=w0) (As:=As) ht (tN_len hr) (tD_len hr)
 rw [hr.rd] at k
 simp only [Option.map_some,outO] at k
 rw [hr.neg.ot] at k
 exact k
theorem cmpT_ok {r s:Rat} (hr:Fit 600 r) (hs:Fit 600 s) :
  CallsS Tryz.prog w0 123 [.agg #[.string ⟨(tN r).toArray⟩,.string ⟨(tD r).toArray⟩],.agg #[.string ⟨(tN s).toArray⟩,.string ⟨(tD s).toArray⟩]] As fun u Bs=>u=.tuple #[.int .i64 (ordQ r s),.int .i64 0]∧Bs=As:=by
 have k:=cmpF_ok (w0:=w0) (As:=As) (tN_len hr) (tD_len hr) (tN_len hs) (tD_len hs)
 rw [hr.rd,hs.rd] at k
 exact k
theorem nearV_ok (ht:Tab w0) (he:ErrR w0) {r:Rat} {k:Int} (hr:Fit 600 r) :
  CallsS Tryz.prog w0 126 [.agg #[.string ⟨(tN r).toArray⟩,.string ⟨(tD r).toArray⟩],.int .i64 k] As fun u Bs=>u=.tuple #[.int .i64 (nearO (some r) k).1,.int .i64 (nearO (some r) k).2]∧Bs=As:=by
 have h:=nearF_ok (w0:=w0) (As:=As) ht he (k:=k) (tN_len hr) (tD_len hr)
 rw [hr.rd] at h
 exact h
end Go.Proofs.YtkcnpgmgmgepoaaGreatDoor.Q
