/- Walks: frac: fractions are read, reduced; operations on two. -/
import Derived.Test.YtciadfpomkdlnaaGreatDoorCc1
import Derived.Test.YtciadfpomkdlnaaGreatDoorWb1
set_option maxHeartbeats 1000000
namespace Go.Proofs.YtciadfpomkdlnaaGreatDoor.Q
open Go Go.Sx
variable {w0:World} {As:List Ent}
def ReadF (As:List Ent) (o:Option Rat) (u:Value) (Bs:List Ent):Prop:=match o with
 | some r=>∃ p cap q cap',u=.tuple #[.agg #[.slice p (mag r.num.natAbs).length cap,.bool (decide (r.num < 0)),.slice q (mag r.den).length cap'],.bool true]∧Bs=.ft (rd (cN .u32) (.slice p (mag r.num.natAbs).length cap) (mag r.num.natAbs))::.ft (rd (cN .u32) (.slice q (mag r.den).length cap') (mag r.den))::As
 | none=>u=.tuple #[.agg #[.slice none 0 0,.bool false,.slice none 0 0],.bool false]∧Bs=As
theorem Zeq {s:List UInt8} {x:Int} (h:readW s=some x):checkW s=0:=by rw [checkW,h];rfl
theorem Zer {s:List UInt8} (h:readW s=none):checkW s=10:=by rw [checkW,h];rfl
theorem Z35 {y:Int}:signI y < 1↔¬ 0 < y:=by unfold signI;split<;>(try split)<;>omega
set_option maxHeartbeats 2000000 in
theorem Zbb {n d:List UInt8} (hn:n.length≤1000000000) (hd:d.length≤1000000000):CallsS Tryz.prog w0 68 [.agg #[.string ⟨n.toArray⟩,.string ⟨d.toArray⟩]] As (ReadF As (readF n d)):=by
 refine Zab Tryz.func68 rfl Tryz.ntmps68 rfl ?_
 repeat' first|refine Kz ?_|intro _
 rename_i b1 b2
 refine Kt rfl (Zfg hn) ?_
 cases h1:readW n with
 | none =>
  have hR:readF n d=none:=by unfold readF;rw [h1]
  rw [hR,Zer h1]
  repeat' first|refine Kz ?_|intro _
  exact Kv
 | some x =>
  rw [Zeq h1]
  repeat' first|refine Kz ?_|intro _
  refine Kt rfl (Zfg hd) ?_
  cases h2:readW d with
  | none =>
   have hR:readF n d=none:=by unfold readF;rw [h1,h2]
   rw [hR,Zer h2]
   repeat' first|refine Kz ?_|intro _
   exact Kv
  | some y =>
   rw [Zeq h2]
   have lx:(mag x.natAbs).length≤600:=Zdv h1
   have ly:(mag y.natAbs).length≤600:=Zdv h2
   repeat' first|refine Kz ?_|intro _
   refine Tri.mid (fun e' As'=>∃ p cap q cap' b4 b5,e'=[(2,.pointer (some ⟨b2,0,none⟩)),(4,.pointer (some ⟨b4,0,none⟩)),(5,.pointer (some ⟨b5,0,none⟩))] ∧
    As'=.cl b4 [.slice p (mag x.natAbs).length cap,.bool (decide (x < 0))] 128::.cl b5 [.slice q (mag y.natAbs).length cap',.bool (decide (y < 0))] 128::.ft (rd (cN .u32) (.slice p (mag x.natAbs).length cap) (mag x.natAbs))::.ft (rd (cN .u32) (.slice q (mag y.natAbs).length cap') (mag y.natAbs))::.cl b2 [.slice none 0 0,.bool false,.slice none 0 0] 130::As) ?_ ?_
   ·refine Zao (.take 0 (.take 1 (.take 3 (.take 4 (.all [(2,.all [(5,.all [(6,.all [(7,.all [(8,.all [(9,.done)])])]),(7,.all [(6,.all [(8,.all [(9,.done)])])])]),(6,.all [(5,.all [(7,.all [(8,.all [(9,.done)])])]),(7,.all [(5,.all [(8,.all [(9,.done)])])])]),(7,.all [(5,.all [(6,.all [(8,.all [(9,.done)])])]),(6,.all [(5,.all [(8,.all [(9,.done)])])])])]),(6,.all [(2,.all [(5,.all [(7,.all [(8,.all [(9,.done)])])]),(7,.all [(5,.all [(8,.all [(9,.done)])])])]),(7,.all [(2,.all [(5,.all [(8,.all [(9,.done)])])])])]),(7,.all [(2,.all [(5,.all [(6,.all [(8,.all [(9,.done)])])]),(6,.all [(5,.all [(8,.all [(9,.done)])])])]),(6,.all [(2,.all [(5,.all [(8,.all [(9,.done)])])])])])]))))) ?_
    repeat' first|refine Kf ?_|intro _|constructor
    iterate 2
     all_goals
      first
       | (refine T1.callv rfl rfl rfl rfl rfl (Zg4 h1) ?_
          rintro _ _ ⟨p,cap,rfl,rfl⟩)
       | (refine T1.callv rfl rfl rfl rfl rfl (Zg4 h2) ?_
          rintro _ _ ⟨q,cap',rfl,rfl⟩)
      repeat' first|refine Kf ?_|intro _|constructor
    all_goals exact Post.cut _ _ ⟨p,cap,q,cap',_,_,rfl,rfl⟩ Zad Zaa
   rintro _ _ ⟨p,cap,q,cap',b4,b5,rfl,rfl⟩
   repeat' first|refine Kz ?_|intro _
   refine Ks rfl (Zu7 (v:=.slice q (mag y.natAbs).length cap') (x:=y)) ?_
   by_cases hy:0 < y
   ·have hs:¬ signI y < 1:=fun h=>Z35.1 h hy
    have hm1:mag 1=[1]:=Zck (by omega) (by omega)
    have lg:(mag (Nat.gcd x.natAbs y.natAbs)).length≤600:=Nat.le_trans (Zag (Nat.gcd_le_right _ (by omega))) ly
    repeat' first|refine Kz ?_|intro _
    refine TL.callv rfl rfl rfl rfl (Zly (v:=.slice p (mag x.natAbs).length cap) (o:=.slice q (mag y.natAbs).length cap') (a:=x.natAbs) (b:=y.natAbs) (by omega) (by omega)) ?_
    rintro _ _ ⟨pg,cg,rfl,rfl⟩
    repeat' first|refine Kz ?_|intro _
    rename_i bl
    refine TL.ents (Zaj (cN .u32) (mag 1) (n:=1) (cap:=1) (by rw [hm1];rfl) (by rw [hm1];rfl) (by rw [hm1];rfl)) ?_
    refine Ks rfl (Zfy (v:=.slice pg (mag (Nat.gcd x.natAbs y.natAbs)).length cg) (o:=.slice (some ⟨bl,0,none⟩) 1 1) (a:=Nat.gcd x.natAbs y.natAbs) (b:=1) (by omega) (by rw [hm1];simp)) ?_
    by_cases hg:Nat.gcd x.natAbs y.natAbs=1
    ·have hR:readF n d=some ⟨x,y.natAbs,by omega,hg⟩:=by unfold readF;rw [h1,h2];exact dif_pos ⟨hy,hg⟩
     have hc0:Lib.compareInt (Nat.gcd x.natAbs y.natAbs:Nat) (1:Nat)=0:=by rw [hg];rfl
     rw [hR]
     repeat' first|refine Kz ?_|intro _
     (refine Zac ?_)
     exact ⟨_,⟨p,cap,q,cap',rfl,rfl⟩,Zaa⟩
    ·have hR:readF n d=none:=by unfold readF;rw [h1,h2];exact dif_neg fun h=>hg h.2
     have hc0:¬ Lib.compareInt (Nat.gcd x.natAbs y.natAbs:Nat) (1:Nat)=0:=by unfold Lib.compareInt;split<;>(try split)<;>omega
     rw [hR]
     repeat' first|refine Kz ?_|intro _
     exact Kv
   ·have hs:signI y < 1:=Z35.2 hy
    have hR:readF n d=none:=by unfold readF;rw [h1,h2];exact dif_neg fun h=>hy h.1
    rw [hR]
    repeat' first|refine Kz ?_|intro _
    exact Kv
theorem Zbc {n d:List UInt8} {r:Rat} (h:readF n d=some r):Ln 600 r:=by
 obtain ⟨h1,h2⟩:=Zn3 h
 refine ⟨Zdv h1,?_⟩
 have:=Zdv h2
 rwa [Int.natAbs_natCast] at this
theorem Zca {v o:Value} {n:Int} {d:Nat} [hf:FtIn As v Nat (cN .u32) (mag n.natAbs)] [hg:FtIn As o Nat (cN .u32) (mag d)] (hd:d≠0) (ln:(mag n.natAbs).length≤1000000) (ld:(mag d).length≤1000000) :
  CallsS Tryz.prog w0 87 [.agg #[v,.bool (decide (n < 0))],o] As (RatR As (mkRat n d)):=by
 refine Zae v fun p1 c1 h1=>Zae o fun p2 c2 h2=>?_
 subst h1 h2
 obtain ⟨e1,e2⟩:=Zdd (n:=n) hd
 obtain ⟨g,hg'⟩:∃ g,g=Nat.gcd n.natAbs d:=⟨_,rfl⟩
 rw [← hg'] at e1 e2
 have hg0:g≠0:=by rw [hg'];exact Nat.ne_of_gt (Nat.gcd_pos_of_pos_right _ (by omega))
 obtain ⟨e3,e4⟩:=Zhi hg0 (show g ∣ n.natAbs by rw [hg'];exact Nat.gcd_dvd_left _ _)
 rw [← e1] at e3 e4
 have lg:(mag g).length≤1000000:=Nat.le_trans (Zag (by rw [hg'];exact Nat.gcd_le_right _ (by omega))) ld
 unfold RatR
 refine Zab Tryz.func87 rfl Tryz.ntmps87 rfl ?_
 repeat' first|refine Kz ?_|intro _
 refine TL.callv rfl rfl rfl rfl (Zly (v:=.slice p1 (mag n.natAbs).length c1) (o:=.slice p2 (mag d).length c2) (a:=n.natAbs) (b:=d) (by omega) (by omega)) ?_
 rintro _ _ ⟨pg,cg,rfl,rfl⟩
 rw [← hg']
 repeat' first|refine Kz ?_|intro _
 refine TL.callv rfl rfl rfl rfl (Zbr (v:=.slice p1 (mag n.natAbs).length c1) (o:=.slice pg (mag g).length cg) (a:=n.natAbs) (b:=g) hg0 (by omega) (by omega)) ?_
 rintro _ _ ⟨pa,ca,pa',ca',rfl,rfl⟩
 repeat' first|refine Kz ?_|intro _
 refine TL.callv rfl rfl rfl rfl (Zbr (v:=.slice p2 (mag d).length c2) (o:=.slice pg (mag g).length cg) (a:=d) (b:=g) hg0 (by omega) (by omega)) ?_
 rintro _ _ ⟨pb,cb,pb',cb',rfl,rfl⟩
 repeat' first|refine Kz ?_|intro _
 refine Ks rfl (Zax (v:=.slice pa (mag (n.natAbs / g)).length ca) (n:=n.natAbs / g)) ?_
 repeat' first|refine Kz ?_|intro _
 (refine Zac ?_)
 refine ⟨_,⟨pa,ca,pb,cb,?_,rfl⟩,?_⟩
 ·rw [e3,e4,e2];rfl
 ·rw [e3,e2]<;>(exact Zaa)
end Go.Proofs.YtciadfpomkdlnaaGreatDoor.Q
namespace Go.Proofs.YtciadfpomkdlnaaGreatDoor.Q
open Go Go.Sx
variable {w0:World} {As:List Ent}
def nearO (o:Option Rat) (k:Int):Int × Int:=match o with
 | none=>(0,20)
 | some x=>if 1≤k∧k≤1000000000000 then (if -9223372036854775808≤nearQ x k.toNat∧nearQ x k.toNat≤9223372036854775807 then (nearQ x k.toNat,0) else (0,6)) else (0,2)
theorem Zoe {x:Rat} {k:Nat} (hx:Ln 600 x) (hk:(mag k).length≤3):(mag (nearQ x k).natAbs).length≤700:=by
 obtain ⟨l1,l2⟩:=hx
 unfold nearQ
 refine Nat.le_trans (Zag (Int.natAbs_ediv_le_natAbs _ _)) (Nat.le_trans (Zag (Int.natAbs_add_le _ _)) (Nat.le_trans (Zeo _ _) ?_))
 rw [Int.natAbs_mul,Int.natAbs_natCast,Int.natAbs_natCast]
 have h1:=Zaz x.num.natAbs (k * 2)
 have h2:=Zaz k 2
 have hm2:mag 2=[2]:=Zck (by omega) (by omega)
 have l2:(mag 2).length=1:=by rw [hm2];rfl
 omega
theorem Zy0 {z:Int} (h:(mag z.natAbs).length≤1000):(textI z).length≤10002:=by
 have h1:=Zd7 z.natAbs
 rw [Zb7]
 split
 ·rw [List.length_cons,Zaw];omega
 ·rw [Zaw];omega
theorem Zcj {z:Int} (h:-9223372036854775808≤z∧z≤9223372036854775807):Lib.nDigits z.natAbs≤19:=Zbg (k:=19) (by omega) (by omega)
theorem Z2n {z:Int} (h:-9223372036854775808≤z∧z≤9223372036854775807):intW (textI z)=(z,0):=by
 have:=Zcj h
 unfold intW
 rw [Zdk (by omega)]
 exact if_pos h
theorem Zz2 {z:Int} (h:¬ (-9223372036854775808≤z∧z≤9223372036854775807)):(intW (textI z)).2≠0:=by
 unfold intW
 cases hr:readW (textI z) with
 | none=>simp
 | some w =>
  dsimp only
  by_cases hw:-9223372036854775808≤w∧w≤9223372036854775807
  ·exfalso
   have hd:=Zcj hw
   have ht:=Zdj hr
   have hz:Lib.nDigits z.natAbs≤600:=by
    have hl:=congrArg List.length ht
    rw [Zb7,Zb7] at hl
    have d1:=Zaw w.natAbs
    have d2:=Zaw z.natAbs
    split at hl<;>split at hl<;>(try simp only [List.length_cons] at hl)<;>omega
   rw [Zdk hz] at hr
   exact h (by rw [Option.some.inj hr];exact hw)
  ·rw [if_neg hw];decide
theorem Zzu (ht:Tab w0) (he:ErrR w0) {a b:List UInt8} {k:Int} (ha:a.length≤1000000000) (hb:b.length≤1000000000) :
  CQ Tryz.prog w0 56 [.agg #[.string ⟨a.toArray⟩,.string ⟨b.toArray⟩],.int .i64 k] As (.tuple #[.int .i64 (nearO (readF a b) k).1,.int .i64 (nearO (readF a b) k).2]):=by
 refine Zab Tryz.func56 rfl Tryz.ntmps56 rfl ?_
 repeat' first|refine Kz ?_|intro _
 refine TL.call rfl rfl rfl (Zbb ha hb) ?_
 intro _ _ h1
 cases hx:readF a b with
 | none =>
  rw [hx] at h1
  obtain ⟨rfl,rfl⟩:=h1
  repeat' first|refine Kz ?_|intro _
  exact Kv
 | some x =>
  rw [hx] at h1
  obtain ⟨p1,c1,p2,c2,rfl,rfl⟩:=h1
  have hl:=Zbc hx
  by_cases hk:1≤k∧k≤1000000000000
  ·rw [nearO,if_pos hk]
   obtain ⟨n,rfl⟩:∃ n:Nat,k=(n:Int):=⟨k.toNat,by omega⟩
   rw [Int.toNat_natCast]
   obtain ⟨k1,k2⟩:=hk
   have lk:(mag n).length≤2:=Zcz (by omega)
   have lz:=Zoe (k:=n) hl (by omega)
   repeat' first|refine Kz ?_|intro _
   refine Zao (.take 0 (.take 1 (.take 2 (.all [(3,.all [(4,.all [(5,.all [(6,.take 7 (.take 8 (.take 9 (.take 10 (.take 11 (.done))))))])])])])))) ?_
   repeat' first|refine Kf ?_|intro _|constructor
   refine T1.callv rfl rfl rfl rfl rfl (Zfd (n:=n) (by omega)) ?_
   rintro _ _ ⟨p3,c3,rfl,rfl⟩
   repeat' first|refine Kf ?_|intro _|constructor
   refine T1.callv rfl rfl rfl rfl rfl (Zv5 (mv:=.slice p1 (mag x.num.natAbs).length c1) (bv:=.slice p2 (mag x.den).length c2) (sv:=.slice p3 (mag n).length c3) (x:=x) (k:=n) (hl.mono (by omega)) (by omega)) ?_
   rintro _ _ ⟨p4,c4,rfl,rfl⟩
   repeat' first|refine Kf ?_|intro _|constructor
   generalize nearQ x n=z at lz ⊢
   refine Ku rfl (Zpr ht (v:=.slice p4 (mag z.natAbs).length c4) (z:=z) (by omega)) ?_
   repeat' first|refine Kf ?_|intro _|constructor
   have lt:=Zy0 (z:=z) (by omega)
   refine Kw rfl (Z4q he (s:=textI z) (by omega)) ?_
   by_cases hr:-9223372036854775808≤z∧z≤9223372036854775807
   ·rw [Z2n hr,if_pos hr]
    repeat' first|refine Kf ?_|intro _|constructor
    exact Kv
   ·have h6:=Zz2 hr
    rw [if_neg hr]
    generalize intW (textI z)=w at h6 ⊢
    obtain ⟨w1,w2⟩:=w
    simp only at h6
    repeat' first|refine Kf ?_|intro _|constructor
    exact Kv
  ·rw [nearO,if_neg hk]
   by_cases hk1:k < 1
   ·repeat' first|refine Kz ?_|intro _
    exact Kv
   ·have hk2:1000000000000 < k:=by omega
    repeat' first|refine Kz ?_|intro _
    exact Kv
def makeO (n d:List UInt8):List UInt8 × List UInt8 × Int:=match readW n,readW d with
 | some x,some y=>if y=0 then ([],[],7) else outF (mkRat (if y < 0 then -x else x) y.natAbs)
 | _,_=>([],[],10)
set_option maxHeartbeats 2000000 in
theorem Zzx (ht:Tab w0) {a b:List UInt8} (ha:a.length≤1000000000) (hb:b.length≤1000000000) :
  CQ Tryz.prog w0 114 [.string ⟨a.toArray⟩,.string ⟨b.toArray⟩] As (.tuple #[.agg #[.string ⟨(makeO a b).1.toArray⟩,.string ⟨(makeO a b).2.1.toArray⟩],.int .i64 (makeO a b).2.2]):=by
 refine Zab Tryz.func114 rfl Tryz.ntmps114 rfl ?_
 repeat' first|refine Kz ?_|intro _
 refine Kt rfl (Zfg ha) ?_
 cases h1:readW a with
 | none =>
  rw [Zer h1,makeO,h1]
  repeat' first|refine Kz ?_|intro _
  exact Kv
 | some x =>
  rw [Zeq h1]
  repeat' first|refine Kz ?_|intro _
  refine Kt rfl (Zfg hb) ?_
  cases h2:readW b with
  | none =>
   rw [Zer h2,makeO,h1,h2]
   repeat' first|refine Kz ?_|intro _
   exact Kv
  | some y =>
   rw [Zeq h2,makeO,h1,h2]
   dsimp only
   have lx:(mag x.natAbs).length≤600:=Zdv h1
   have ly:(mag y.natAbs).length≤600:=Zdv h2
   repeat' first|refine Kz ?_|intro _
   refine TL.call rfl rfl rfl (Zg4 h1) ?_
   rintro _ _ ⟨p1,c1,rfl,rfl⟩
   repeat' first|refine Kz ?_|intro _
   refine TL.call rfl rfl rfl (Zg4 h2) ?_
   rintro _ _ ⟨p2,c2,rfl,rfl⟩
   repeat' first|refine Kz ?_|intro _
   rename_i b6 b7
   refine Ks rfl (Zcs (v:=.slice p2 (mag y.natAbs).length c2) (n:=y.natAbs)) ?_
   by_cases h0:y.natAbs=0
   ·rw [if_pos (by omega)]
    repeat' first|refine Kz ?_|intro _
    exact Kv
   ·rw [if_neg (by omega)]
    obtain ⟨z,hz⟩:∃ z,z=if y < 0 then -x else x:=⟨_,rfl⟩
    rw [← hz]
    have ez:z.natAbs=x.natAbs:=by rw [hz];split<;>omega
    have em:mag x.natAbs=mag z.natAbs:=by rw [ez]
    have eb:(!decide (decide (x < 0)=decide (y < 0))&&decide (x.natAbs≠0))=decide (z < 0):=by
     rw [hz,Bool.eq_iff_iff]
     simp only [Bool.and_eq_true,Bool.not_eq_true',decide_eq_false_iff_not,decide_eq_true_eq]
     by_cases k1:x < 0<;>by_cases k2:y < 0<;>simp [k1,k2]<;>omega
    have hR:=Zdd (n:=z) h0
    have hl:Ln 1000000 (mkRat z y.natAbs):=by
     refine ⟨?_,?_⟩
     ·rw [hR.1]
      exact Nat.le_trans (Zag (Int.natAbs_ediv_le_natAbs _ _)) (by rw [ez];omega)
     ·rw [hR.2]
      exact Nat.le_trans (Zag (Nat.div_le_self _ _)) (by omega)
    repeat' first|refine Kz ?_|intro _
    refine Zdz [.cl b6 [.slice p1 (mag x.natAbs).length c1,.bool (decide (x < 0))] 128,.cl b7 [.slice p2 (mag y.natAbs).length c2,.bool (decide (y < 0))] 128] [] (.take 0 (.take 1 (.take 2 (.take 3 (.take 4 (.take 5 (.take 6 (.take 8 (.take 9 (.all [(7,.all [(10,.all [(11,.take 12 (.take 13 (.all [(14,.take 15 (.done))])))])])])))))))))) ?_
    repeat' first|refine Kf ?_|intro _|constructor
    refine Ku rfl (Zax (v:=.slice p1 (mag x.natAbs).length c1) (n:=x.natAbs)) ?_
    rw [eb]
    repeat' first|refine Kf ?_|intro _|constructor
    rw [em]
    refine T1.callv rfl rfl rfl rfl rfl (Zca (v:=.slice p1 (mag z.natAbs).length c1) (o:=.slice p2 (mag y.natAbs).length c2) (n:=z) (d:=y.natAbs) h0 (by rw [← em];omega) (by omega)) ?_
    rintro _ _ ⟨p3,c3,p4,c4,rfl,rfl⟩
    repeat' first|refine Kf ?_|intro _|constructor
    refine Ku rfl (Zbm ht (mv:=.slice p3 (mag (mkRat z y.natAbs).num.natAbs).length c3) (bv:=.slice p4 (mag (mkRat z y.natAbs).den).length c4) (x:=mkRat z y.natAbs) hl) ?_
    repeat' first|refine Kf ?_|intro _|constructor
    exact Kv
def ofO (n d:Int):List UInt8 × List UInt8 × Int:=if d=0 then ([],[],7) else outF (mkRat (if d < 0 then -n else n) d.natAbs)
theorem Zzw {n d:Int} (hn:-9223372036854775808≤n∧n≤9223372036854775807) (hd:-9223372036854775808≤d∧d≤9223372036854775807):makeO (textI n) (textI d)=ofO n d:=by
 have h1:=Zcj hn
 have h2:=Zcj hd
 unfold makeO ofO
 rw [Zdk (by omega),Zdk (by omega)]
theorem Zjx (ht:Tab w0) {n d:Int} (hn:-9223372036854775808≤n∧n≤9223372036854775807) (hd:-9223372036854775808≤d∧d≤9223372036854775807) :
  CQ Tryz.prog w0 44 [.int .i64 n,.int .i64 d] As (.tuple #[.agg #[.string ⟨(ofO n d).1.toArray⟩,.string ⟨(ofO n d).2.1.toArray⟩],.int .i64 (ofO n d).2.2]):=by
 refine Zab Tryz.func44 rfl Tryz.ntmps44 rfl ?_
 repeat' first|refine Kz ?_|intro _
 have ln:∀ {z:Int},(-9223372036854775808≤z∧z≤9223372036854775807)→(textI z).length≤1000000000:=fun {z} h=>by
  have h1:=Zcj h
  rw [Zb7]
  split
  ·rw [List.length_cons,Zaw];omega
  ·rw [Zaw];omega
 refine Kt rfl (Zry ht hn.1 hn.2) ?_
 repeat' first|refine Kz ?_|intro _
 refine Kt rfl (Zry ht hd.1 hd.2) ?_
 repeat' first|refine Kz ?_|intro _
 refine Kt rfl (Zzx ht (ln hn) (ln hd)) ?_
 rw [Zzw hn hd]
 repeat' first|refine Kz ?_|intro _
 exact Kv
theorem Ln.minQ {k:Nat} {x y:Rat} (hx:Ln k x) (hy:Ln k y):Ln k (minQ x y):=by unfold Q.minQ;split;exact hy;exact hx
theorem Ln.maxQ {k:Nat} {x y:Rat} (hx:Ln k x) (hy:Ln k y):Ln k (maxQ x y):=by unfold Q.maxQ;split;exact hy;exact hx
end Go.Proofs.YtciadfpomkdlnaaGreatDoor.Q
namespace Go.Sx
open Go
def tN (r:Rat):List UInt8:=textI r.num
def tD (r:Rat):List UInt8:=textI (r.den:Int)
theorem Zdr {r:Rat} (h:Fit 600 r):(tN r).length≤1000000000:=by
 have:=Zjn r.num
 have h1:=h.1
 unfold tN
 split at this<;>omega
theorem Zds {r:Rat} (h:Fit 600 r):(tD r).length≤1000000000:=by
 have:=Zjn (r.den:Int)
 have h1:=h.2
 unfold tD
 rw [Int.natAbs_natCast] at this
 split at this<;>omega
theorem Fit.rd {r:Rat} (h:Fit 600 r):readF (tN r) (tD r)=some r:=h.read
theorem Fit.ot {r:Rat} (h:Fit 600 r):outF r=(tN r,tD r,0):=h.out
end Go.Sx
namespace Go.Proofs.YtciadfpomkdlnaaGreatDoor.Q
open Go Go.Sx
variable {w0:World} {As:List Ent}
theorem Zi6 (ht:Tab w0) (he:ErrR w0) {r:Rat} {k:Int} (hr:Fit 600 r) :
  CQ Tryz.prog w0 56 [.agg #[.string ⟨(tN r).toArray⟩,.string ⟨(tD r).toArray⟩],.int .i64 k] As (.tuple #[.int .i64 (nearO (some r) k).1,.int .i64 (nearO (some r) k).2]):=by
 have h:=Zzu (w0:=w0) (As:=As) ht he (k:=k) (Zdr hr) (Zds hr)
 rw [hr.rd] at h
 exact h
end Go.Proofs.YtciadfpomkdlnaaGreatDoor.Q
