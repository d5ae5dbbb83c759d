/- Walks: frac: fractions are read, reduced; operations on two. -/
import Derived.Test.YtbfgldlfciimiaaGreatDoorCc1
import Derived.Test.YtbfgldlfciimiaaGreatDoorWb1
set_option maxHeartbeats 1000000
namespace Go.Proofs.YtbfgldlfciimiaaGreatDoor.Q
open Go Go.Sx
variable {w0:World} {As:List Ent}
def ReadF (As:List Ent) (o:Option Rat) (u:Value) (Bs:List Ent):Prop:=match o with
 | some r=>∃ p cap q cap',u=.tuple #[.agg #[.slice p (mag r.num.natAbs).length cap,.bool (decide (r.num < 0)),.slice q (mag r.den).length cap'],.bool true]∧Bs=.ft (rd (cN .u32) (.slice p (mag r.num.natAbs).length cap) (mag r.num.natAbs))::.ft (rd (cN .u32) (.slice q (mag r.den).length cap') (mag r.den))::As
 | none=>u=.tuple #[.agg #[.slice none 0 0,.bool false,.slice none 0 0],.bool false]∧Bs=As
theorem Zgd {s:List UInt8} {x:Int} (h:readW s=some x):checkW s=0:=by rw [checkW,h];rfl
theorem Zge {s:List UInt8} (h:readW s=none):checkW s=10:=by rw [checkW,h];rfl
theorem Ydg {y:Int}:signI y < 1↔¬ 0 < y:=by unfold signI;split<;>(try split)<;>omega
set_option maxHeartbeats 2000000 in
theorem Zc2 {n d:List UInt8} (hn:n.length≤1000000000) (hd:d.length≤1000000000):CallsS Tryz.prog w0 119 [.agg #[.string ⟨n.toArray⟩,.string ⟨d.toArray⟩]] As (ReadF As (readF n d)):=by
 refine Zab Tryz.func119 rfl Tryz.ntmps119 rfl ?_
 repeat' first|refine Kz ?_|intro _
 rename_i b1 b2
 refine Kt rfl (Zg7 hn) ?_
 cases h1:readW n with
 | none =>
  have hR:readF n d=none:=by unfold readF;rw [h1]
  rw [hR,Zge h1]
  repeat' first|refine Kz ?_|intro _
  exact Kv
 | some x =>
  rw [Zgd h1]
  repeat' first|refine Kz ?_|intro _
  refine Kt rfl (Zg7 hd) ?_
  cases h2:readW d with
  | none =>
   have hR:readF n d=none:=by unfold readF;rw [h1,h2]
   rw [hR,Zge h2]
   repeat' first|refine Kz ?_|intro _
   exact Kv
  | some y =>
   rw [Zgd h2]
   have lx:(mag x.natAbs).length≤600:=Zbw h1
   have ly:(mag y.natAbs).length≤600:=Zbw h2
   repeat' first|refine Kz ?_|intro _
   refine Tri.mid (fun e' As'=>∃ p cap q cap' b4 b5,e'=[(2,.pointer (some ⟨b2,0,none⟩)),(4,.pointer (some ⟨b4,0,none⟩)),(5,.pointer (some ⟨b5,0,none⟩))] ∧
    As'=.cl b4 [.slice p (mag x.natAbs).length cap,.bool (decide (x < 0))] 190::.cl b5 [.slice q (mag y.natAbs).length cap',.bool (decide (y < 0))] 190::.ft (rd (cN .u32) (.slice p (mag x.natAbs).length cap) (mag x.natAbs))::.ft (rd (cN .u32) (.slice q (mag y.natAbs).length cap') (mag y.natAbs))::.cl b2 [.slice none 0 0,.bool false,.slice none 0 0] 192::As) ?_ ?_
   ·refine Zam (.take 0 (.take 1 (.take 3 (.take 4 (.all [(2,.all [(5,.all [(6,.all [(7,.all [(8,.all [(9,.done)])])]),(7,.all [(6,.all [(8,.all [(9,.done)])])])]),(6,.all [(5,.all [(7,.all [(8,.all [(9,.done)])])]),(7,.all [(5,.all [(8,.all [(9,.done)])])])]),(7,.all [(5,.all [(6,.all [(8,.all [(9,.done)])])]),(6,.all [(5,.all [(8,.all [(9,.done)])])])])]),(6,.all [(2,.all [(5,.all [(7,.all [(8,.all [(9,.done)])])]),(7,.all [(5,.all [(8,.all [(9,.done)])])])]),(7,.all [(2,.all [(5,.all [(8,.all [(9,.done)])])])])]),(7,.all [(2,.all [(5,.all [(6,.all [(8,.all [(9,.done)])])]),(6,.all [(5,.all [(8,.all [(9,.done)])])])]),(6,.all [(2,.all [(5,.all [(8,.all [(9,.done)])])])])])]))))) ?_
    repeat' first|refine Kf ?_|intro _|constructor
    iterate 2
     all_goals
      first
       | (refine T1.callv rfl rfl rfl rfl rfl (Zi9 h1) ?_
          rintro _ _ ⟨p,cap,rfl,rfl⟩)
       | (refine T1.callv rfl rfl rfl rfl rfl (Zi9 h2) ?_
          rintro _ _ ⟨q,cap',rfl,rfl⟩)
      repeat' first|refine Kf ?_|intro _|constructor
    all_goals exact Post.cut _ _ ⟨p,cap,q,cap',_,_,rfl,rfl⟩ Zad Zaa
   rintro _ _ ⟨p,cap,q,cap',b4,b5,rfl,rfl⟩
   repeat' first|refine Kz ?_|intro _
   refine Ks rfl (Z1r (v:=.slice q (mag y.natAbs).length cap') (x:=y)) ?_
   by_cases hy:0 < y
   ·have hs:¬ signI y < 1:=fun h=>Ydg.1 h hy
    have hm1:mag 1=[1]:=Zel (by omega) (by omega)
    have lg:(mag (Nat.gcd x.natAbs y.natAbs)).length≤600:=Nat.le_trans (Zah (Nat.gcd_le_right _ (by omega))) ly
    repeat' first|refine Kz ?_|intro _
    refine TL.callv rfl rfl rfl rfl (Zku (v:=.slice p (mag x.natAbs).length cap) (o:=.slice q (mag y.natAbs).length cap') (a:=x.natAbs) (b:=y.natAbs) (by omega) (by omega)) ?_
    rintro _ _ ⟨pg,cg,rfl,rfl⟩
    repeat' first|refine Kz ?_|intro _
    rename_i bl
    refine TL.ents (Zbz (cN .u32) (mag 1) (n:=1) (cap:=1) (by rw [hm1];rfl) (by rw [hm1];rfl) (by rw [hm1];rfl)) ?_
    refine Ks rfl (Zc7 (v:=.slice pg (mag (Nat.gcd x.natAbs y.natAbs)).length cg) (o:=.slice (some ⟨bl,0,none⟩) 1 1) (a:=Nat.gcd x.natAbs y.natAbs) (b:=1) (by omega) (by rw [hm1];simp)) ?_
    by_cases hg:Nat.gcd x.natAbs y.natAbs=1
    ·have hR:readF n d=some ⟨x,y.natAbs,by omega,hg⟩:=by unfold readF;rw [h1,h2];exact dif_pos ⟨hy,hg⟩
     have hc0:Lib.compareInt (Nat.gcd x.natAbs y.natAbs:Nat) (1:Nat)=0:=by rw [hg];rfl
     rw [hR]
     repeat' first|refine Kz ?_|intro _
     (refine Zac ?_)
     exact ⟨_,⟨p,cap,q,cap',rfl,rfl⟩,Zaa⟩
    ·have hR:readF n d=none:=by unfold readF;rw [h1,h2];exact dif_neg fun h=>hg h.2
     have hc0:¬ Lib.compareInt (Nat.gcd x.natAbs y.natAbs:Nat) (1:Nat)=0:=by unfold Lib.compareInt;split<;>(try split)<;>omega
     rw [hR]
     repeat' first|refine Kz ?_|intro _
     exact Kv
   ·have hs:signI y < 1:=Ydg.2 hy
    have hR:readF n d=none:=by unfold readF;rw [h1,h2];exact dif_neg fun h=>hy h.1
    rw [hR]
    repeat' first|refine Kz ?_|intro _
    exact Kv
theorem Zcf {n d:List UInt8} {r:Rat} (h:readF n d=some r):Ln 600 r:=by
 obtain ⟨h1,h2⟩:=Zsp h
 refine ⟨Zbw h1,?_⟩
 have:=Zbw h2
 rwa [Int.natAbs_natCast] at this
theorem Zzj {v o:Value} {n:Int} {d:Nat} [hf:FtIn As v Nat (cN .u32) (mag n.natAbs)] [hg:FtIn As o Nat (cN .u32) (mag d)] (hd:d≠0) (ln:(mag n.natAbs).length≤1000000) (ld:(mag d).length≤1000000) :
  CallsS Tryz.prog w0 146 [.agg #[v,.bool (decide (n < 0))],o] As (RatR As (mkRat n d)):=by
 refine Zae v fun p1 c1 h1=>Zae o fun p2 c2 h2=>?_
 subst h1 h2
 obtain ⟨e1,e2⟩:=Zf6 (n:=n) hd
 obtain ⟨g,hg'⟩:∃ g,g=Nat.gcd n.natAbs d:=⟨_,rfl⟩
 rw [← hg'] at e1 e2
 have hg0:g≠0:=by rw [hg'];exact Nat.ne_of_gt (Nat.gcd_pos_of_pos_right _ (by omega))
 obtain ⟨e3,e4⟩:=Zjl hg0 (show g ∣ n.natAbs by rw [hg'];exact Nat.gcd_dvd_left _ _)
 rw [← e1] at e3 e4
 have lg:(mag g).length≤1000000:=Nat.le_trans (Zah (by rw [hg'];exact Nat.gcd_le_right _ (by omega))) ld
 unfold RatR
 refine Zab Tryz.func146 rfl Tryz.ntmps146 rfl ?_
 repeat' first|refine Kz ?_|intro _
 refine TL.callv rfl rfl rfl rfl (Zku (v:=.slice p1 (mag n.natAbs).length c1) (o:=.slice p2 (mag d).length c2) (a:=n.natAbs) (b:=d) (by omega) (by omega)) ?_
 rintro _ _ ⟨pg,cg,rfl,rfl⟩
 rw [← hg']
 repeat' first|refine Kz ?_|intro _
 refine TL.callv rfl rfl rfl rfl (Zby (v:=.slice p1 (mag n.natAbs).length c1) (o:=.slice pg (mag g).length cg) (a:=n.natAbs) (b:=g) hg0 (by omega) (by omega)) ?_
 rintro _ _ ⟨pa,ca,pa',ca',rfl,rfl⟩
 repeat' first|refine Kz ?_|intro _
 refine TL.callv rfl rfl rfl rfl (Zby (v:=.slice p2 (mag d).length c2) (o:=.slice pg (mag g).length cg) (a:=d) (b:=g) hg0 (by omega) (by omega)) ?_
 rintro _ _ ⟨pb,cb,pb',cb',rfl,rfl⟩
 repeat' first|refine Kz ?_|intro _
 refine Ks rfl (Zbu (v:=.slice pa (mag (n.natAbs / g)).length ca) (n:=n.natAbs / g)) ?_
 repeat' first|refine Kz ?_|intro _
 (refine Zac ?_)
 refine ⟨_,⟨pa,ca,pb,cb,?_,rfl⟩,?_⟩
 ·rw [e3,e4,e2];rfl
 ·rw [e3,e2]<;>(exact Zaa)
def ApR (As:List Ent) (o:Option Rat) (u:Value) (Bs:List Ent):Prop:=match o with
 | some r=>∃ p cap q cap',u=.tuple #[.agg #[.slice p (mag r.num.natAbs).length cap,.bool (decide (r.num < 0)),.slice q (mag r.den).length cap'],.int .i64 0]∧Bs=.ft (rd (cN .u32) (.slice p (mag r.num.natAbs).length cap) (mag r.num.natAbs))::.ft (rd (cN .u32) (.slice q (mag r.den).length cap') (mag r.den))::As
 | none=>u=.tuple #[.agg #[.slice none 0 0,.bool false,.slice none 0 0],.int .i64 20]∧Bs=As
def ap2 {α:Type} (F:Rat→Rat→α) (a b:Option Rat):Option α:=match a,b with
 | some x,some y=>some (F x y)
 | _,_=>none
def OpR (w0:World) (f:FuncId) (F:Rat→Rat→Rat):Prop:=∀ (As:List Ent) (mv bv nv cv:Value) (x y:Rat) [FtIn As mv Nat (cN .u32) (mag x.num.natAbs)] [FtIn As bv Nat (cN .u32) (mag x.den)] [FtIn As nv Nat (cN .u32) (mag y.num.natAbs)] [FtIn As cv Nat (cN .u32) (mag y.den)],Ln 600 x→Ln 600 y →
 CallsS Tryz.prog w0 f [.agg #[mv,.bool (decide (x.num < 0)),bv],.agg #[nv,.bool (decide (y.num < 0)),cv]] As (RatR As (F x y))
theorem Znd {f:FuncId} [Body Tryz.prog f] {F:Rat→Rat→Rat} (hf:OpR w0 f F) {a b c d:List UInt8} (ha:a.length≤1000000000) (hb:b.length≤1000000000) (hc:c.length≤1000000000) (hd:d.length≤1000000000) :
  CallsS Tryz.prog w0 113 [.agg #[.string ⟨a.toArray⟩,.string ⟨b.toArray⟩],.agg #[.string ⟨c.toArray⟩,.string ⟨d.toArray⟩],.func (.func f) #[] #[]] As (ApR As (ap2 F (readF a b) (readF c d))):=by
 refine Zab Tryz.func113 rfl Tryz.ntmps113 rfl ?_
 repeat' first|refine Kz ?_|intro _
 refine TL.call rfl rfl rfl (Zc2 ha hb) ?_
 intro _ _ h1
 cases hx:readF a b with
 | none =>
  rw [hx] at h1
  obtain ⟨rfl,rfl⟩:=h1
  repeat' first|refine Kz ?_|intro _
  refine TL.call rfl rfl rfl (Zc2 hc hd) ?_
  intro _ _ h2
  cases hy:readF c d with
  | none =>
   rw [hy] at h2
   obtain ⟨rfl,rfl⟩:=h2
   repeat' first|refine Kz ?_|intro _
   exact Kv
  | some y =>
   rw [hy] at h2
   obtain ⟨q1,k1,q2,k2,rfl,rfl⟩:=h2
   repeat' first|refine Kz ?_|intro _
   exact Kv
 | some x =>
  rw [hx] at h1
  obtain ⟨p1,c1,p2,c2,rfl,rfl⟩:=h1
  repeat' first|refine Kz ?_|intro _
  refine TL.call rfl rfl rfl (Zc2 hc hd) ?_
  intro _ _ h2
  cases hy:readF c d with
  | none =>
   rw [hy] at h2
   obtain ⟨rfl,rfl⟩:=h2
   repeat' first|refine Kz ?_|intro _
   exact Kv
  | some y =>
   rw [hy] at h2
   obtain ⟨q1,k1,q2,k2,rfl,rfl⟩:=h2
   repeat' first|refine Kz ?_|intro _
   refine TL.callv rfl rfl rfl rfl (hf _ (.slice p1 (mag x.num.natAbs).length c1) (.slice p2 (mag x.den).length c2) (.slice q1 (mag y.num.natAbs).length k1) (.slice q2 (mag y.den).length k2) x y (Zcf hx) (Zcf hy)) ?_
   rintro _ _ ⟨p5,c5,p6,c6,rfl,rfl⟩
   repeat' first|refine Kz ?_|intro _
   (refine Zac ?_)
   exact ⟨_,⟨p5,c5,p6,c6,rfl,rfl⟩,Zaa⟩
theorem Z4r {a b c d:List UInt8} (ha:a.length≤1000000000) (hb:b.length≤1000000000) (hc:c.length≤1000000000) (hd:d.length≤1000000000) :
  CallsS Tryz.prog w0 123 [.agg #[.string ⟨a.toArray⟩,.string ⟨b.toArray⟩],.agg #[.string ⟨c.toArray⟩,.string ⟨d.toArray⟩],.func (.func 124) #[] #[]] As
   fun u Bs=>u=.tuple #[.int .i64 ((ap2 ordQ (readF a b) (readF c d)).getD 0),.int .i64 (if (ap2 ordQ (readF a b) (readF c d)).isSome then 0 else 20)]∧Bs=As:=by
 refine Zab Tryz.func123 rfl Tryz.ntmps123 rfl ?_
 repeat' first|refine Kz ?_|intro _
 refine TL.call rfl rfl rfl (Zc2 ha hb) ?_
 intro _ _ h1
 cases hx:readF a b with
 | none =>
  rw [hx] at h1
  obtain ⟨rfl,rfl⟩:=h1
  repeat' first|refine Kz ?_|intro _
  refine TL.call rfl rfl rfl (Zc2 hc hd) ?_
  intro _ _ h2
  cases hy:readF c d with
  | none =>
   rw [hy] at h2
   obtain ⟨rfl,rfl⟩:=h2
   repeat' first|refine Kz ?_|intro _
   exact Kv
  | some y =>
   rw [hy] at h2
   obtain ⟨q1,k1,q2,k2,rfl,rfl⟩:=h2
   repeat' first|refine Kz ?_|intro _
   exact Kv
 | some x =>
  rw [hx] at h1
  obtain ⟨p1,c1,p2,c2,rfl,rfl⟩:=h1
  repeat' first|refine Kz ?_|intro _
  refine TL.call rfl rfl rfl (Zc2 hc hd) ?_
  intro _ _ h2
  cases hy:readF c d with
  | none =>
   rw [hy] at h2
   obtain ⟨rfl,rfl⟩:=h2
   repeat' first|refine Kz ?_|intro _
   exact Kv
  | some y =>
   rw [hy] at h2
   obtain ⟨q1,k1,q2,k2,rfl,rfl⟩:=h2
   repeat' first|refine Kz ?_|intro _
   refine Ks rfl (Z6v (mv:=.slice p1 (mag x.num.natAbs).length c1) (bv:=.slice p2 (mag x.den).length c2) (nv:=.slice q1 (mag y.num.natAbs).length k1) (cv:=.slice q2 (mag y.den).length k2) (x:=x) (y:=y) ((Zcf hx).mono (by omega)) ((Zcf hy).mono (by omega))) ?_
   repeat' first|refine Kz ?_|intro _
   exact Kv
def outO (o:Option Rat):List UInt8 × List UInt8 × Int:=match o with
 | some r=>outF r
 | none=>([],[],20)
theorem Zhi:CQ Tryz.prog w0 112 [.agg #[.slice none 0 0,.bool false,.slice none 0 0],.int .i64 20] As (.tuple #[.agg #[.string ⟨([]:List UInt8).toArray⟩,.string ⟨([]:List UInt8).toArray⟩],.int .i64 20]):=by
 refine Zab Tryz.func112 rfl Tryz.ntmps112 rfl ?_
 repeat' first|refine Kz ?_|intro _
 exact Kv
theorem Zhh (ht:Tab w0) {mv bv:Value} {x:Rat} [hm:RdIn As mv Nat (cN .u32) (mag x.num.natAbs)] [hb:RdIn As bv Nat (cN .u32) (mag x.den)] (hx:Ln 1000000 x) :
  CQ Tryz.prog w0 112 [.agg #[mv,.bool (decide (x.num < 0)),bv],.int .i64 0] As (.tuple #[.agg #[.string ⟨(outF x).1.toArray⟩,.string ⟨(outF x).2.1.toArray⟩],.int .i64 (outF x).2.2]):=by
 refine Zae mv fun p1 c1 h1=>Zae bv fun p2 c2 h2=>?_
 subst h1 h2
 refine Zab Tryz.func112 rfl Tryz.ntmps112 rfl ?_
 repeat' first|refine Kz ?_|intro _
 refine Ks rfl (Zd7 ht (mv:=.slice p1 (mag x.num.natAbs).length c1) (bv:=.slice p2 (mag x.den).length c2) (x:=x) hx) ?_
 repeat' first|refine Kz ?_|intro _
 exact Kv
end Go.Proofs.YtbfgldlfciimiaaGreatDoor.Q
namespace Go.Proofs.YtbfgldlfciimiaaGreatDoor.Q
open Go Go.Sx
variable {w0:World} {As:List Ent}
theorem Zrj {α:Type} {F:Rat→Rat→α} {a b:Option Rat} {r:α} (h:ap2 F a b=some r):∃ x y,a=some x∧b=some y∧r=F x y:=by
 cases a with
 | none=>cases h
 | some x =>
  cases b with
  | none=>cases h
  | some y=>exact ⟨x,y,rfl,rfl,(Option.some.inj h).symm⟩
def divO (a b:Option Rat):List UInt8 × List UInt8 × Int:=match a,b with
 | some x,some y=>if y=0 then ([],[],7) else outF (x * y⁻¹)
 | _,_=>([],[],20)
theorem Yby (ht:Tab w0) {a b c d:List UInt8} (ha:a.length≤1000000000) (hb:b.length≤1000000000) (hc:c.length≤1000000000) (hd:d.length≤1000000000) :
  CQ Tryz.prog w0 78 [.agg #[.string ⟨a.toArray⟩,.string ⟨b.toArray⟩],.agg #[.string ⟨c.toArray⟩,.string ⟨d.toArray⟩]] As (.tuple #[.agg #[.string ⟨(outO (ap2 (·+·) (readF a b) (readF c d))).1.toArray⟩,.string ⟨(outO (ap2 (·+·) (readF a b) (readF c d))).2.1.toArray⟩],.int .i64 (outO (ap2 (·+·) (readF a b) (readF c d))).2.2]):=by
 refine Zab Tryz.func78 rfl Tryz.ntmps78 rfl ?_
 repeat' first|refine Kz ?_|intro _
 refine TL.call rfl rfl rfl (Znd (f:=115) (F:=(·+·)) (fun _ _ _ _ _ _ _ _ _ _ _ h1 h2=>Zyq (h1.mono (by omega)) (h2.mono (by omega))) ha hb hc hd) ?_
 intro u Bs h
 have hl:∀ r,ap2 (·+·) (readF a b) (readF c d)=some r→Ln 1000000 r:=fun r hr=>by
  obtain ⟨x,y,h1,h2,rfl⟩:=Zrj hr
  have hx:=Zcf h1
  have hy:=Zcf h2
  exact ((hx.add hy).mono (by omega))
 generalize ap2 (·+·) (readF a b) (readF c d)=r at h hl ⊢
 cases r with
 | none =>
  obtain ⟨rfl,rfl⟩:=h
  repeat' first|refine Kz ?_|intro _
  refine Kt rfl Zhi ?_
  repeat' first|refine Kz ?_|intro _
  exact Kv
 | some x =>
  obtain ⟨p1,c1,p2,c2,rfl,rfl⟩:=h
  repeat' first|refine Kz ?_|intro _
  refine Ks rfl (Zhh ht (mv:=.slice p1 (mag x.num.natAbs).length c1) (bv:=.slice p2 (mag x.den).length c2) (hl x rfl)) ?_
  repeat' first|refine Kz ?_|intro _
  exact Kv
theorem Z95 (ht:Tab w0) {a b c d:List UInt8} (ha:a.length≤1000000000) (hb:b.length≤1000000000) (hc:c.length≤1000000000) (hd:d.length≤1000000000) :
  CQ Tryz.prog w0 83 [.agg #[.string ⟨a.toArray⟩,.string ⟨b.toArray⟩],.agg #[.string ⟨c.toArray⟩,.string ⟨d.toArray⟩]] As (.tuple #[.agg #[.string ⟨(outO (ap2 (· - ·) (readF a b) (readF c d))).1.toArray⟩,.string ⟨(outO (ap2 (· - ·) (readF a b) (readF c d))).2.1.toArray⟩],.int .i64 (outO (ap2 (· - ·) (readF a b) (readF c d))).2.2]):=by
 refine Zab Tryz.func83 rfl Tryz.ntmps83 rfl ?_
 repeat' first|refine Kz ?_|intro _
 refine TL.call rfl rfl rfl (Znd (f:=125) (F:=(· - ·)) (fun _ _ _ _ _ _ _ _ _ _ _ h1 h2=>Yde (h1.mono (by omega)) (h2.mono (by omega))) ha hb hc hd) ?_
 intro u Bs h
 have hl:∀ r,ap2 (· - ·) (readF a b) (readF c d)=some r→Ln 1000000 r:=fun r hr=>by
  obtain ⟨x,y,h1,h2,rfl⟩:=Zrj hr
  have hx:=Zcf h1
  have hy:=Zcf h2
  exact ((by rw [Rat.sub_eq_add_neg];exact hx.add hy.neg:Ln (600+600+1) (x - y)).mono (by omega))
 generalize ap2 (· - ·) (readF a b) (readF c d)=r at h hl ⊢
 cases r with
 | none =>
  obtain ⟨rfl,rfl⟩:=h
  repeat' first|refine Kz ?_|intro _
  refine Kt rfl Zhi ?_
  repeat' first|refine Kz ?_|intro _
  exact Kv
 | some x =>
  obtain ⟨p1,c1,p2,c2,rfl,rfl⟩:=h
  repeat' first|refine Kz ?_|intro _
  refine Ks rfl (Zhh ht (mv:=.slice p1 (mag x.num.natAbs).length c1) (bv:=.slice p2 (mag x.den).length c2) (hl x rfl)) ?_
  repeat' first|refine Kz ?_|intro _
  exact Kv
theorem Ya3 (ht:Tab w0) {a b c d:List UInt8} (ha:a.length≤1000000000) (hb:b.length≤1000000000) (hc:c.length≤1000000000) (hd:d.length≤1000000000) :
  CQ Tryz.prog w0 77 [.agg #[.string ⟨a.toArray⟩,.string ⟨b.toArray⟩],.agg #[.string ⟨c.toArray⟩,.string ⟨d.toArray⟩]] As (.tuple #[.agg #[.string ⟨(outO (ap2 (· * ·) (readF a b) (readF c d))).1.toArray⟩,.string ⟨(outO (ap2 (· * ·) (readF a b) (readF c d))).2.1.toArray⟩],.int .i64 (outO (ap2 (· * ·) (readF a b) (readF c d))).2.2]):=by
 refine Zab Tryz.func77 rfl Tryz.ntmps77 rfl ?_
 repeat' first|refine Kz ?_|intro _
 refine TL.call rfl rfl rfl (Znd (f:=114) (F:=(· * ·)) (fun _ _ _ _ _ _ _ _ _ _ _ h1 h2=>Z9c (h1.mono (by omega)) (h2.mono (by omega))) ha hb hc hd) ?_
 intro u Bs h
 have hl:∀ r,ap2 (· * ·) (readF a b) (readF c d)=some r→Ln 1000000 r:=fun r hr=>by
  obtain ⟨x,y,h1,h2,rfl⟩:=Zrj hr
  have hx:=Zcf h1
  have hy:=Zcf h2
  exact ((hx.mul hy).mono (by omega))
 generalize ap2 (· * ·) (readF a b) (readF c d)=r at h hl ⊢
 cases r with
 | none =>
  obtain ⟨rfl,rfl⟩:=h
  repeat' first|refine Kz ?_|intro _
  refine Kt rfl Zhi ?_
  repeat' first|refine Kz ?_|intro _
  exact Kv
 | some x =>
  obtain ⟨p1,c1,p2,c2,rfl,rfl⟩:=h
  repeat' first|refine Kz ?_|intro _
  refine Ks rfl (Zhh ht (mv:=.slice p1 (mag x.num.natAbs).length c1) (bv:=.slice p2 (mag x.den).length c2) (hl x rfl)) ?_
  repeat' first|refine Kz ?_|intro _
  exact Kv
theorem Ybr {a b c d:List UInt8} (ha:a.length≤1000000000) (hb:b.length≤1000000000) (hc:c.length≤1000000000) (hd:d.length≤1000000000) :
  CQ Tryz.prog w0 82 [.agg #[.string ⟨a.toArray⟩,.string ⟨b.toArray⟩],.agg #[.string ⟨c.toArray⟩,.string ⟨d.toArray⟩]] As (.tuple #[.int .i64 ((ap2 ordQ (readF a b) (readF c d)).getD 0),.int .i64 (if (ap2 ordQ (readF a b) (readF c d)).isSome then 0 else 20)]):=by
 refine Zab Tryz.func82 rfl Tryz.ntmps82 rfl ?_
 repeat' first|refine Kz ?_|intro _
 refine Kt rfl (Z4r ha hb hc hd) ?_
 repeat' first|refine Kz ?_|intro _
 exact Kv
theorem Ya1 (ht:Tab w0) {a b:List UInt8} (ha:a.length≤1000000000) (hb:b.length≤1000000000) :
  CQ Tryz.prog w0 111 [.agg #[.string ⟨a.toArray⟩,.string ⟨b.toArray⟩]] As (.tuple #[.agg #[.string ⟨(outO ((readF a b).map fun x=>-x)).1.toArray⟩,.string ⟨(outO ((readF a b).map fun x=>-x)).2.1.toArray⟩],.int .i64 (outO ((readF a b).map fun x=>-x)).2.2]):=by
 refine Zab Tryz.func111 rfl Tryz.ntmps111 rfl ?_
 repeat' first|refine Kz ?_|intro _
 refine TL.call rfl rfl rfl (Zc2 ha hb) ?_
 intro _ _ h1
 cases hx:readF a b with
 | none =>
  rw [hx] at h1
  obtain ⟨rfl,rfl⟩:=h1
  repeat' first|refine Kz ?_|intro _
  exact Kv
 | some x =>
  rw [hx] at h1
  obtain ⟨p1,c1,p2,c2,rfl,rfl⟩:=h1
  have hl:=Zcf hx
  have en:mag x.num.natAbs=mag (-x).num.natAbs:=by rw [Rat.neg_num,Int.natAbs_neg]
  have ed:mag x.den=mag (-x).den:=rfl
  repeat' first|refine Kz ?_|intro _
  refine Ks rfl (Zow (mv:=.slice p1 (mag x.num.natAbs).length c1) (bv:=.slice p2 (mag x.den).length c2) (x:=x)) ?_
  repeat' first|refine Kz ?_|intro _
  rw [en,ed]
  refine Ks rfl (Zd7 ht (mv:=.slice p1 (mag (-x).num.natAbs).length c1) (bv:=.slice p2 (mag (-x).den).length c2) (x:=-x) (hl.neg.mono (by omega))) ?_
  repeat' first|refine Kz ?_|intro _
  exact Kv
theorem Z34 (ht:Tab w0) {a b c d:List UInt8} (ha:a.length≤1000000000) (hb:b.length≤1000000000) (hc:c.length≤1000000000) (hd:d.length≤1000000000) :
  CQ Tryz.prog w0 81 [.agg #[.string ⟨a.toArray⟩,.string ⟨b.toArray⟩],.agg #[.string ⟨c.toArray⟩,.string ⟨d.toArray⟩]] As (.tuple #[.agg #[.string ⟨(divO (readF a b) (readF c d)).1.toArray⟩,.string ⟨(divO (readF a b) (readF c d)).2.1.toArray⟩],.int .i64 (divO (readF a b) (readF c d)).2.2]):=by
 refine Zab Tryz.func81 rfl Tryz.ntmps81 rfl ?_
 repeat' first|refine Kz ?_|intro _
 rename_i b2 b3 b4
 refine TL.call rfl rfl rfl (Zc2 ha hb) ?_
 intro _ _ h1
 cases hx:readF a b with
 | none =>
  rw [hx] at h1
  obtain ⟨rfl,rfl⟩:=h1
  repeat' first|refine Kz ?_|intro _
  refine TL.call rfl rfl rfl (Zc2 hc hd) ?_
  intro _ _ h2
  cases hy:readF c d with
  | none =>
   rw [hy] at h2
   obtain ⟨rfl,rfl⟩:=h2
   repeat' first|refine Kz ?_|intro _
   exact Kv
  | some y =>
   rw [hy] at h2
   obtain ⟨q1,k1,q2,k2,rfl,rfl⟩:=h2
   repeat' first|refine Kz ?_|intro _
   exact Kv
 | some x =>
  rw [hx] at h1
  obtain ⟨p1,c1,p2,c2,rfl,rfl⟩:=h1
  repeat' first|refine Kz ?_|intro _
  rename_i b6
  refine TL.call rfl rfl rfl (Zc2 hc hd) ?_
  intro _ _ h2
  cases hy:readF c d with
  | none =>
   rw [hy] at h2
   obtain ⟨rfl,rfl⟩:=h2
   repeat' first|refine Kz ?_|intro _
   exact Kv
  | some y =>
   rw [hy] at h2
   obtain ⟨q1,k1,q2,k2,rfl,rfl⟩:=h2
   have lx:=Zcf hx
   have ly:=Zcf hy
   repeat' first|refine Kz ?_|intro _
   rename_i b8
   refine Ks rfl (Zc8 (v:=.slice q1 (mag y.num.natAbs).length k1) (n:=y.num.natAbs)) ?_
   by_cases h0:y.num.natAbs=0
   ·have hy0:y=0:=Rat.num_eq_zero.1 (by omega)
    rw [divO,if_pos hy0]
    repeat' first|refine Kz ?_|intro _
    exact Kv
   ·have hy0:y≠0:=fun h=>h0 (by rw [h];rfl)
    rw [divO,if_neg hy0]
    repeat' first|refine Kz ?_|intro _
    refine Zag [.cl b6 [.slice p1 (mag x.num.natAbs).length c1,.bool (decide (x.num < 0)),.slice p2 (mag x.den).length c2] 192,.cl b8 [.slice q1 (mag y.num.natAbs).length k1,.bool (decide (y.num < 0)),.slice q2 (mag y.den).length k2] 192] [] (.take 0 (.take 1 (.all [(2,.all [(3,.all [(4,.take 5 (.take 6 (.all [(7,.take 8 (.done))])))])])]))) ?_
    repeat' first|refine Kf ?_|intro _|constructor
    refine T1.callv rfl rfl rfl rfl rfl (Zz0 (mv:=.slice q1 (mag y.num.natAbs).length k1) (bv:=.slice q2 (mag y.den).length k2) hy0) ?_
    rintro _ _ ⟨q3,k3,q4,k4,rfl,rfl⟩
    repeat' first|refine Kf ?_|intro _|constructor
    refine T1.callv rfl rfl rfl rfl rfl (Z9c (mv:=.slice p1 (mag x.num.natAbs).length c1) (bv:=.slice p2 (mag x.den).length c2) (nv:=.slice q3 (mag (y⁻¹).num.natAbs).length k3) (cv:=.slice q4 (mag (y⁻¹).den).length k4) (x:=x) (y:=y⁻¹) (lx.mono (by omega)) (ly.inv.mono (by omega))) ?_
    rintro _ _ ⟨q5,k5,q6,k6,rfl,rfl⟩
    repeat' first|refine Kf ?_|intro _|constructor
    refine Ku rfl (Zd7 ht (mv:=.slice q5 (mag (x * y⁻¹).num.natAbs).length k5) (bv:=.slice q6 (mag (x * y⁻¹).den).length k6) (x:=x * y⁻¹) ((lx.mul ly.inv).mono (by omega))) ?_
    repeat' first|refine Kf ?_|intro _|constructor
    exact Kv
def nearO (o:Option Rat) (k:Int):Int × Int:=match o with
 | none=>(0,20)
 | some x=>if 1≤k∧k≤1000000000000 then (if -9223372036854775808≤nearQ x k.toNat∧nearQ x k.toNat≤9223372036854775807 then (nearQ x k.toNat,0) else (0,6)) else (0,2)
theorem Z25 {x:Rat} {k:Nat} (hx:Ln 600 x) (hk:(mag k).length≤3):(mag (nearQ x k).natAbs).length≤700:=by
 obtain ⟨l1,l2⟩:=hx
 unfold nearQ
 refine Nat.le_trans (Zah (Int.natAbs_ediv_le_natAbs _ _)) (Nat.le_trans (Zah (Int.natAbs_add_le _ _)) (Nat.le_trans (Zgb _ _) ?_))
 rw [Int.natAbs_mul,Int.natAbs_natCast,Int.natAbs_natCast]
 have h1:=Zav x.num.natAbs (k * 2)
 have h2:=Zav k 2
 have hm2:mag 2=[2]:=Zel (by omega) (by omega)
 have l2:(mag 2).length=1:=by rw [hm2];rfl
 omega
theorem Z58 {z:Int} (h:(mag z.natAbs).length≤1000):(textI z).length≤10002:=by
 have h1:=Zh9 z.natAbs
 rw [Zb4]
 split
 ·rw [List.length_cons,Zbm];omega
 ·rw [Zbm];omega
theorem Zc4 {z:Int} (h:-9223372036854775808≤z∧z≤9223372036854775807):Lib.nDigits z.natAbs≤19:=Zej (k:=19) (by omega) (by omega)
theorem Ya8 {z:Int} (h:-9223372036854775808≤z∧z≤9223372036854775807):intW (textI z)=(z,0):=by
 have:=Zc4 h
 unfold intW
 rw [Zbs (by omega)]
 exact if_pos h
theorem Z7i {z:Int} (h:¬ (-9223372036854775808≤z∧z≤9223372036854775807)):(intW (textI z)).2≠0:=by
 unfold intW
 cases hr:readW (textI z) with
 | none=>simp
 | some w =>
  dsimp only
  by_cases hw:-9223372036854775808≤w∧w≤9223372036854775807
  ·exfalso
   have hd:=Zc4 hw
   have ht:=Zef hr
   have hz:Lib.nDigits z.natAbs≤600:=by
    have hl:=congrArg List.length ht
    rw [Zb4,Zb4] at hl
    have d1:=Zbm w.natAbs
    have d2:=Zbm z.natAbs
    split at hl<;>split at hl<;>(try simp only [List.length_cons] at hl)<;>omega
   rw [Zbs hz] at hr
   exact h (by rw [Option.some.inj hr];exact hw)
  ·rw [if_neg hw];decide
theorem Z62 (ht:Tab w0) (he:ErrR w0) {a b:List UInt8} {k:Int} (ha:a.length≤1000000000) (hb:b.length≤1000000000) :
  CQ Tryz.prog w0 155 [.agg #[.string ⟨a.toArray⟩,.string ⟨b.toArray⟩],.int .i64 k] As (.tuple #[.int .i64 (nearO (readF a b) k).1,.int .i64 (nearO (readF a b) k).2]):=by
 refine Zab Tryz.func155 rfl Tryz.ntmps155 rfl ?_
 repeat' first|refine Kz ?_|intro _
 refine TL.call rfl rfl rfl (Zc2 ha hb) ?_
 intro _ _ h1
 cases hx:readF a b with
 | none =>
  rw [hx] at h1
  obtain ⟨rfl,rfl⟩:=h1
  repeat' first|refine Kz ?_|intro _
  exact Kv
 | some x =>
  rw [hx] at h1
  obtain ⟨p1,c1,p2,c2,rfl,rfl⟩:=h1
  have hl:=Zcf hx
  by_cases hk:1≤k∧k≤1000000000000
  ·rw [nearO,if_pos hk]
   obtain ⟨n,rfl⟩:∃ n:Nat,k=(n:Int):=⟨k.toNat,by omega⟩
   rw [Int.toNat_natCast]
   obtain ⟨k1,k2⟩:=hk
   have lk:(mag n).length≤2:=Zdo (by omega)
   have lz:=Z25 (k:=n) hl (by omega)
   repeat' first|refine Kz ?_|intro _
   refine Zam (.take 0 (.take 1 (.take 2 (.all [(3,.all [(4,.all [(5,.all [(6,.take 7 (.take 8 (.take 9 (.take 10 (.take 11 (.done))))))])])])])))) ?_
   repeat' first|refine Kf ?_|intro _|constructor
   refine T1.callv rfl rfl rfl rfl rfl (Zc6 (n:=n) (by omega)) ?_
   rintro _ _ ⟨p3,c3,rfl,rfl⟩
   repeat' first|refine Kf ?_|intro _|constructor
   refine T1.callv rfl rfl rfl rfl rfl (Ya2 (mv:=.slice p1 (mag x.num.natAbs).length c1) (bv:=.slice p2 (mag x.den).length c2) (sv:=.slice p3 (mag n).length c3) (x:=x) (k:=n) (hl.mono (by omega)) (by omega)) ?_
   rintro _ _ ⟨p4,c4,rfl,rfl⟩
   repeat' first|refine Kf ?_|intro _|constructor
   generalize nearQ x n=z at lz ⊢
   refine Ku rfl (Z1i ht (v:=.slice p4 (mag z.natAbs).length c4) (z:=z) (by omega)) ?_
   repeat' first|refine Kf ?_|intro _|constructor
   have lt:=Z58 (z:=z) (by omega)
   refine Kw rfl (Yeg he (s:=textI z) (by omega)) ?_
   by_cases hr:-9223372036854775808≤z∧z≤9223372036854775807
   ·rw [Ya8 hr,if_pos hr]
    repeat' first|refine Kf ?_|intro _|constructor
    exact Kv
   ·have h6:=Z7i hr
    rw [if_neg hr]
    generalize intW (textI z)=w at h6 ⊢
    obtain ⟨w1,w2⟩:=w
    simp only at h6
    repeat' first|refine Kf ?_|intro _|constructor
    exact Kv
  ·rw [nearO,if_neg hk]
   by_cases hk1:k < 1
   ·repeat' first|refine Kz ?_|intro _
    exact Kv
   ·have hk2:1000000000000 < k:=by omega
    repeat' first|refine Kz ?_|intro _
    exact Kv
def makeO (n d:List UInt8):List UInt8 × List UInt8 × Int:=match readW n,readW d with
 | some x,some y=>if y=0 then ([],[],7) else outF (mkRat (if y < 0 then -x else x) y.natAbs)
 | _,_=>([],[],10)
set_option maxHeartbeats 2000000 in
theorem Z7c (ht:Tab w0) {a b:List UInt8} (ha:a.length≤1000000000) (hb:b.length≤1000000000) :
  CQ Tryz.prog w0 99 [.string ⟨a.toArray⟩,.string ⟨b.toArray⟩] As (.tuple #[.agg #[.string ⟨(makeO a b).1.toArray⟩,.string ⟨(makeO a b).2.1.toArray⟩],.int .i64 (makeO a b).2.2]):=by
 refine Zab Tryz.func99 rfl Tryz.ntmps99 rfl ?_
 repeat' first|refine Kz ?_|intro _
 refine Kt rfl (Zg7 ha) ?_
 cases h1:readW a with
 | none =>
  rw [Zge h1,makeO,h1]
  repeat' first|refine Kz ?_|intro _
  exact Kv
 | some x =>
  rw [Zgd h1]
  repeat' first|refine Kz ?_|intro _
  refine Kt rfl (Zg7 hb) ?_
  cases h2:readW b with
  | none =>
   rw [Zge h2,makeO,h1,h2]
   repeat' first|refine Kz ?_|intro _
   exact Kv
  | some y =>
   rw [Zgd h2,makeO,h1,h2]
   dsimp only
   have lx:(mag x.natAbs).length≤600:=Zbw h1
   have ly:(mag y.natAbs).length≤600:=Zbw h2
   repeat' first|refine Kz ?_|intro _
   refine TL.call rfl rfl rfl (Zi9 h1) ?_
   rintro _ _ ⟨p1,c1,rfl,rfl⟩
   repeat' first|refine Kz ?_|intro _
   refine TL.call rfl rfl rfl (Zi9 h2) ?_
   rintro _ _ ⟨p2,c2,rfl,rfl⟩
   repeat' first|refine Kz ?_|intro _
   rename_i b6 b7
   refine Ks rfl (Zc8 (v:=.slice p2 (mag y.natAbs).length c2) (n:=y.natAbs)) ?_
   by_cases h0:y.natAbs=0
   ·rw [if_pos (by omega)]
    repeat' first|refine Kz ?_|intro _
    exact Kv
   ·rw [if_neg (by omega)]
    obtain ⟨z,hz⟩:∃ z,z=if y < 0 then -x else x:=⟨_,rfl⟩
    rw [← hz]
    have ez:z.natAbs=x.natAbs:=by rw [hz];split<;>omega
    have em:mag x.natAbs=mag z.natAbs:=by rw [ez]
    have eb:(!decide (decide (x < 0)=decide (y < 0))&&decide (x.natAbs≠0))=decide (z < 0):=by
     rw [hz,Bool.eq_iff_iff]
     simp only [Bool.and_eq_true,Bool.not_eq_true',decide_eq_false_iff_not,decide_eq_true_eq]
     by_cases k1:x < 0<;>by_cases k2:y < 0<;>simp [k1,k2]<;>omega
    have hR:=Zf6 (n:=z) h0
    have hl:Ln 1000000 (mkRat z y.natAbs):=by
     refine ⟨?_,?_⟩
     ·rw [hR.1]
      exact Nat.le_trans (Zah (Int.natAbs_ediv_le_natAbs _ _)) (by rw [ez];omega)
     ·rw [hR.2]
      exact Nat.le_trans (Zah (Nat.div_le_self _ _)) (by omega)
    repeat' first|refine Kz ?_|intro _
    refine Zag [.cl b6 [.slice p1 (mag x.natAbs).length c1,.bool (decide (x < 0))] 190,.cl b7 [.slice p2 (mag y.natAbs).length c2,.bool (decide (y < 0))] 190] [] (.take 0 (.take 1 (.take 2 (.take 3 (.take 4 (.take 5 (.take 6 (.take 8 (.take 9 (.all [(7,.all [(10,.all [(11,.take 12 (.take 13 (.all [(14,.take 15 (.done))])))])])])))))))))) ?_
    repeat' first|refine Kf ?_|intro _|constructor
    refine Ku rfl (Zbu (v:=.slice p1 (mag x.natAbs).length c1) (n:=x.natAbs)) ?_
    rw [eb]
    repeat' first|refine Kf ?_|intro _|constructor
    rw [em]
    refine T1.callv rfl rfl rfl rfl rfl (Zzj (v:=.slice p1 (mag z.natAbs).length c1) (o:=.slice p2 (mag y.natAbs).length c2) (n:=z) (d:=y.natAbs) h0 (by rw [← em];omega) (by omega)) ?_
    rintro _ _ ⟨p3,c3,p4,c4,rfl,rfl⟩
    repeat' first|refine Kf ?_|intro _|constructor
    refine Ku rfl (Zd7 ht (mv:=.slice p3 (mag (mkRat z y.natAbs).num.natAbs).length c3) (bv:=.slice p4 (mag (mkRat z y.natAbs).den).length c4) (x:=mkRat z y.natAbs) hl) ?_
    repeat' first|refine Kf ?_|intro _|constructor
    exact Kv
def ofO (n d:Int):List UInt8 × List UInt8 × Int:=if d=0 then ([],[],7) else outF (mkRat (if d < 0 then -n else n) d.natAbs)
theorem Z7b {n d:Int} (hn:-9223372036854775808≤n∧n≤9223372036854775807) (hd:-9223372036854775808≤d∧d≤9223372036854775807):makeO (textI n) (textI d)=ofO n d:=by
 have h1:=Zc4 hn
 have h2:=Zc4 hd
 unfold makeO ofO
 rw [Zbs (by omega),Zbs (by omega)]
theorem Yh7 (ht:Tab w0) {n d:Int} (hn:-9223372036854775808≤n∧n≤9223372036854775807) (hd:-9223372036854775808≤d∧d≤9223372036854775807) :
  CQ Tryz.prog w0 67 [.int .i64 n,.int .i64 d] As (.tuple #[.agg #[.string ⟨(ofO n d).1.toArray⟩,.string ⟨(ofO n d).2.1.toArray⟩],.int .i64 (ofO n d).2.2]):=by
 refine Zab Tryz.func67 rfl Tryz.ntmps67 rfl ?_
 repeat' first|refine Kz ?_|intro _
 have ln:∀ {z:Int},(-9223372036854775808≤z∧z≤9223372036854775807)→(textI z).length≤1000000000:=fun {z} h=>by
  have h1:=Zc4 h
  rw [Zb4]
  split
  ·rw [List.length_cons,Zbm];omega
  ·rw [Zbm];omega
 refine Kt rfl (Zli ht hn.1 hn.2) ?_
 repeat' first|refine Kz ?_|intro _
 refine Kt rfl (Zli ht hd.1 hd.2) ?_
 repeat' first|refine Kz ?_|intro _
 refine Kt rfl (Z7c ht (ln hn) (ln hd)) ?_
 rw [Z7b hn hd]
 repeat' first|refine Kz ?_|intro _
 exact Kv
theorem Ln.minQ {k:Nat} {x y:Rat} (hx:Ln k x) (hy:Ln k y):Ln k (minQ x y):=by unfold Q.minQ;split;exact hy;exact hx
theorem Ln.maxQ {k:Nat} {x y:Rat} (hx:Ln k x) (hy:Ln k y):Ln k (maxQ x y):=by unfold Q.maxQ;split;exact hy;exact hx
end Go.Proofs.YtbfgldlfciimiaaGreatDoor.Q
namespace Go.Sx
open Go
def tN (r:Rat):List UInt8:=textI r.num
def tD (r:Rat):List UInt8:=textI (r.den:Int)
theorem Zdw {r:Rat} (h:Fit 600 r):(tN r).length≤1000000000:=by
 have:=Zl3 r.num
 have h1:=h.1
 unfold tN
 split at this<;>omega
theorem Zdx {r:Rat} (h:Fit 600 r):(tD r).length≤1000000000:=by
 have:=Zl3 (r.den:Int)
 have h1:=h.2
 unfold tD
 rw [Int.natAbs_natCast] at this
 split at this<;>omega
theorem Fit.rd {r:Rat} (h:Fit 600 r):readF (tN r) (tD r)=some r:=h.read
theorem Fit.ot {r:Rat} (h:Fit 600 r):outF r=(tN r,tD r,0):=h.out
end Go.Sx
namespace Go.Proofs.YtbfgldlfciimiaaGreatDoor.Q
open Go Go.Sx
variable {w0:World} {As:List Ent}
theorem Yhr (ht:Tab w0) {r s:Rat} (hr:Fit 600 r) (hs:Fit 600 s) (h:Fit 600 (r+s)) :
  CQ Tryz.prog w0 78 [.agg #[.string ⟨(tN r).toArray⟩,.string ⟨(tD r).toArray⟩],.agg #[.string ⟨(tN s).toArray⟩,.string ⟨(tD s).toArray⟩]] As (.tuple #[.agg #[.string ⟨(tN (r+s)).toArray⟩,.string ⟨(tD (r+s)).toArray⟩],.int .i64 0]):=by
 have k:=Yby (w0:=w0) (As:=As) ht (Zdw hr) (Zdx hr) (Zdw hs) (Zdx hs)
 rw [hr.rd,hs.rd] at k
 simp only [ap2,outO] at k
 rw [h.ot] at k
 exact k
theorem Ygu (ht:Tab w0) {r s:Rat} (hr:Fit 600 r) (hs:Fit 600 s) (h:Fit 600 (r - s)) :
  CQ Tryz.prog w0 83 [.agg #[.string ⟨(tN r).toArray⟩,.string ⟨(tD r).toArray⟩],.agg #[.string ⟨(tN s).toArray⟩,.string ⟨(tD s).toArray⟩]] As (.tuple #[.agg #[.string ⟨(tN (r - s)).toArray⟩,.string ⟨(tD (r - s)).toArray⟩],.int .i64 0]):=by
 have k:=Z95 (w0:=w0) (As:=As) ht (Zdw hr) (Zdx hr) (Zdw hs) (Zdx hs)
 rw [hr.rd,hs.rd] at k
 simp only [ap2,outO] at k
 rw [h.ot] at k
 exact k
theorem Yg7 (ht:Tab w0) {r s:Rat} (hr:Fit 600 r) (hs:Fit 600 s) (h:Fit 600 (r * s)) :
  CQ Tryz.prog w0 77 [.agg #[.string ⟨(tN r).toArray⟩,.string ⟨(tD r).toArray⟩],.agg #[.string ⟨(tN s).toArray⟩,.string ⟨(tD s).toArray⟩]] As (.tuple #[.agg #[.string ⟨(tN (r * s)).toArray⟩,.string ⟨(tD (r * s)).toArray⟩],.int .i64 0]):=by
 have k:=Ya3 (w0:=w0) (As:=As) ht (Zdw hr) (Zdx hr) (Zdw hs) (Zdx hs)
 rw [hr.rd,hs.rd] at k
 simp only [ap2,outO] at k
 rw [h.ot] at k
 exact k
theorem Yhj (ht:Tab w0) {r s:Rat} (hr:Fit 600 r) (hs:Fit 600 s) (h0:s≠0) (h:Fit 600 (r * s⁻¹)) :
  CQ Tryz.prog w0 81 [.agg #[.string ⟨(tN r).toArray⟩,.string ⟨(tD r).toArray⟩],.agg #[.string ⟨(tN s).toArray⟩,.string ⟨(tD s).toArray⟩]] As (.tuple #[.agg #[.string ⟨(tN (r * s⁻¹)).toArray⟩,.string ⟨(tD (r * s⁻¹)).toArray⟩],.int .i64 0]):=by
 have k:=Z34 (w0:=w0) (As:=As) ht (Zdw hr) (Zdx hr) (Zdw hs) (Zdx hs)
 rw [hr.rd,hs.rd] at k
 simp only [divO] at k
 rw [if_neg h0,h.ot] at k
 exact k
theorem Yg5 (ht:Tab w0) {r:Rat} (hr:Fit 600 r) :
  CQ Tryz.prog w0 111 [.agg #[.string ⟨(tN r).toArray⟩,.string ⟨(tD r).toArray⟩]] As (.tuple #[.agg #[.string ⟨(tN (-r)).toArray⟩,.string ⟨(tD (-r)).toArray⟩],.int .i64 0]):=by
 have k:=Ya1 (w0:=w0) (As:=As) ht (Zdw hr) (Zdx hr)
 rw [hr.rd] at k
 simp only [Option.map_some,outO] at k
 rw [hr.neg.ot] at k
 exact k
theorem Yhn {r s:Rat} (hr:Fit 600 r) (hs:Fit 600 s) :
  CQ Tryz.prog w0 82 [.agg #[.string ⟨(tN r).toArray⟩,.string ⟨(tD r).toArray⟩],.agg #[.string ⟨(tN s).toArray⟩,.string ⟨(tD s).toArray⟩]] As (.tuple #[.int .i64 (ordQ r s),.int .i64 0]):=by
 have k:=Ybr (w0:=w0) (As:=As) (Zdw hr) (Zdx hr) (Zdw hs) (Zdx hs)
 rw [hr.rd,hs.rd] at k
 exact k
theorem Yfz (ht:Tab w0) (he:ErrR w0) {r:Rat} {k:Int} (hr:Fit 600 r) :
  CQ Tryz.prog w0 155 [.agg #[.string ⟨(tN r).toArray⟩,.string ⟨(tD r).toArray⟩],.int .i64 k] As (.tuple #[.int .i64 (nearO (some r) k).1,.int .i64 (nearO (some r) k).2]):=by
 have h:=Z62 (w0:=w0) (As:=As) ht he (k:=k) (Zdw hr) (Zdx hr)
 rw [hr.rd] at h
 exact h
end Go.Proofs.YtbfgldlfciimiaaGreatDoor.Q
