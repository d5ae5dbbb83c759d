/- Walks: frac: fractions are read, reduced; operations on two. -/
import Derived.Test.YtbfgldlfciimiaaGreatDoorCc1
import Derived.Test.YtbfgldlfciimiaaGreatDoorWb1
set_option maxHeartbeats 1000000
namespace Go.Proofs.YtbfgldlfciimiaaGreatDoor.Q
open Go Go.Sx
variable {w0:World} {As:List Ent}
def ReadF (As:List Ent) (o:Option Rat) (u:Value) (Bs:List Ent):Prop:=match o with
 | some r=>∃ p cap q cap',u=.tuple #[.agg #[.slice p (mag r.num.natAbs).length cap,.bool (decide (r.num < 0)),.slice q (mag r.den).length cap'],.bool true]∧Bs=.ft (rd (cN .u32) (.slice p (mag r.num.natAbs).length cap) (mag r.num.natAbs))::.ft (rd (cN .u32) (.slice q (mag r.den).length cap') (mag r.den))::As
 | none=>u=.tuple #[.agg #[.slice none 0 0,.bool false,.slice none 0 0],.bool false]∧Bs=As
theorem Zfp {s:List UInt8} {x:Int} (h:readW s=some x):checkW s=0:=by rw [checkW,h];rfl
theorem Zfq {s:List UInt8} (h:readW s=none):checkW s=10:=by rw [checkW,h];rfl
theorem Z92 {y:Int}:signI y < 1↔¬ 0 < y:=by unfold signI;split<;>(try split)<;>omega
set_option maxHeartbeats 2000000 in
theorem Zcu {n d:List UInt8} (hn:n.length≤1000000000) (hd:d.length≤1000000000):CallsS Tryz.prog w0 119 [.agg #[.string ⟨n.toArray⟩,.string ⟨d.toArray⟩]] As (ReadF As (readF n d)):=by
 refine Zab Tryz.func119 rfl Tryz.ntmps119 rfl ?_
 repeat' first|refine Kz ?_|intro _
 rename_i b1 b2
 refine Kt rfl (Zgm hn) ?_
 cases h1:readW n with
 | none =>
  have hR:readF n d=none:=by unfold readF;rw [h1]
  rw [hR,Zfq h1]
  repeat' first|refine Kz ?_|intro _
  exact Kv
 | some x =>
  rw [Zfp h1]
  repeat' first|refine Kz ?_|intro _
  refine Kt rfl (Zgm hd) ?_
  cases h2:readW d with
  | none =>
   have hR:readF n d=none:=by unfold readF;rw [h1,h2]
   rw [hR,Zfq h2]
   repeat' first|refine Kz ?_|intro _
   exact Kv
  | some y =>
   rw [Zfp h2]
   have lx:(mag x.natAbs).length≤600:=Zby h1
   have ly:(mag y.natAbs).length≤600:=Zby h2
   repeat' first|refine Kz ?_|intro _
   refine Tri.mid (fun e' As'=>∃ p cap q cap' b4 b5,e'=[(2,.pointer (some ⟨b2,0,none⟩)),(4,.pointer (some ⟨b4,0,none⟩)),(5,.pointer (some ⟨b5,0,none⟩))] ∧
    As'=.cl b4 [.slice p (mag x.natAbs).length cap,.bool (decide (x < 0))] 190::.cl b5 [.slice q (mag y.natAbs).length cap',.bool (decide (y < 0))] 190::.ft (rd (cN .u32) (.slice p (mag x.natAbs).length cap) (mag x.natAbs))::.ft (rd (cN .u32) (.slice q (mag y.natAbs).length cap') (mag y.natAbs))::.cl b2 [.slice none 0 0,.bool false,.slice none 0 0] 192::As) ?_ ?_
   ·refine Zai (.take 0 (.take 1 (.take 3 (.take 4 (.all [(2,.all [(5,.all [(6,.all [(7,.all [(8,.all [(9,.done)])])]),(7,.all [(6,.all [(8,.all [(9,.done)])])])]),(6,.all [(5,.all [(7,.all [(8,.all [(9,.done)])])]),(7,.all [(5,.all [(8,.all [(9,.done)])])])]),(7,.all [(5,.all [(6,.all [(8,.all [(9,.done)])])]),(6,.all [(5,.all [(8,.all [(9,.done)])])])])]),(6,.all [(2,.all [(5,.all [(7,.all [(8,.all [(9,.done)])])]),(7,.all [(5,.all [(8,.all [(9,.done)])])])]),(7,.all [(2,.all [(5,.all [(8,.all [(9,.done)])])])])]),(7,.all [(2,.all [(5,.all [(6,.all [(8,.all [(9,.done)])])]),(6,.all [(5,.all [(8,.all [(9,.done)])])])]),(6,.all [(2,.all [(5,.all [(8,.all [(9,.done)])])])])])]))))) ?_
    repeat' first|refine Kf ?_|intro _|constructor
    iterate 2
     all_goals
      first
       | (refine T1.callv rfl rfl rfl rfl rfl (Zib h1) ?_
          rintro _ _ ⟨p,cap,rfl,rfl⟩)
       | (refine T1.callv rfl rfl rfl rfl rfl (Zib h2) ?_
          rintro _ _ ⟨q,cap',rfl,rfl⟩)
      repeat' first|refine Kf ?_|intro _|constructor
    all_goals exact Post.cut _ _ ⟨p,cap,q,cap',_,_,rfl,rfl⟩ Zad Zaa
   rintro _ _ ⟨p,cap,q,cap',b4,b5,rfl,rfl⟩
   repeat' first|refine Kz ?_|intro _
   refine Ks rfl (Zzh (v:=.slice q (mag y.natAbs).length cap') (x:=y)) ?_
   by_cases hy:0 < y
   ·have hs:¬ signI y < 1:=fun h=>Z92.1 h hy
    have hm1:mag 1=[1]:=Zd8 (by omega) (by omega)
    have lg:(mag (Nat.gcd x.natAbs y.natAbs)).length≤600:=Nat.le_trans (Zaj (Nat.gcd_le_right _ (by omega))) ly
    repeat' first|refine Kz ?_|intro _
    refine TL.callv rfl rfl rfl rfl (Zjw (v:=.slice p (mag x.natAbs).length cap) (o:=.slice q (mag y.natAbs).length cap') (a:=x.natAbs) (b:=y.natAbs) (by omega) (by omega)) ?_
    rintro _ _ ⟨pg,cg,rfl,rfl⟩
    repeat' first|refine Kz ?_|intro _
    rename_i bl
    refine TL.ents (Zb0 (cN .u32) (mag 1) (n:=1) (cap:=1) (by rw [hm1];rfl) (by rw [hm1];rfl) (by rw [hm1];rfl)) ?_
    refine Ks rfl (Zc1 (v:=.slice pg (mag (Nat.gcd x.natAbs y.natAbs)).length cg) (o:=.slice (some ⟨bl,0,none⟩) 1 1) (a:=Nat.gcd x.natAbs y.natAbs) (b:=1) (by omega) (by rw [hm1];simp)) ?_
    by_cases hg:Nat.gcd x.natAbs y.natAbs=1
    ·have hR:readF n d=some ⟨x,y.natAbs,by omega,hg⟩:=by unfold readF;rw [h1,h2];exact dif_pos ⟨hy,hg⟩
     have hc0:Lib.compareInt (Nat.gcd x.natAbs y.natAbs:Nat) (1:Nat)=0:=by rw [hg];rfl
     rw [hR]
     repeat' first|refine Kz ?_|intro _
     (refine Zac ?_)
     exact ⟨_,⟨p,cap,q,cap',rfl,rfl⟩,Zaa⟩
    ·have hR:readF n d=none:=by unfold readF;rw [h1,h2];exact dif_neg fun h=>hg h.2
     have hc0:¬ Lib.compareInt (Nat.gcd x.natAbs y.natAbs:Nat) (1:Nat)=0:=by unfold Lib.compareInt;split<;>(try split)<;>omega
     rw [hR]
     repeat' first|refine Kz ?_|intro _
     exact Kv
   ·have hs:signI y < 1:=Z92.2 hy
    have hR:readF n d=none:=by unfold readF;rw [h1,h2];exact dif_neg fun h=>hy h.1
    rw [hR]
    repeat' first|refine Kz ?_|intro _
    exact Kv
theorem Zch {n d:List UInt8} {r:Rat} (h:readF n d=some r):Ln 600 r:=by
 obtain ⟨h1,h2⟩:=Zq1 h
 refine ⟨Zby h1,?_⟩
 have:=Zby h2
 rwa [Int.natAbs_natCast] at this
theorem Zxe {v o:Value} {n:Int} {d:Nat} [hf:FtIn As v Nat (cN .u32) (mag n.natAbs)] [hg:FtIn As o Nat (cN .u32) (mag d)] (hd:d≠0) (ln:(mag n.natAbs).length≤1000000) (ld:(mag d).length≤1000000) :
  CallsS Tryz.prog w0 146 [.agg #[v,.bool (decide (n < 0))],o] As (RatR As (mkRat n d)):=by
 refine Zae v fun p1 c1 h1=>Zae o fun p2 c2 h2=>?_
 subst h1 h2
 obtain ⟨e1,e2⟩:=Zfl (n:=n) hd
 obtain ⟨g,hg'⟩:∃ g,g=Nat.gcd n.natAbs d:=⟨_,rfl⟩
 rw [← hg'] at e1 e2
 have hg0:g≠0:=by rw [hg'];exact Nat.ne_of_gt (Nat.gcd_pos_of_pos_right _ (by omega))
 obtain ⟨e3,e4⟩:=Zil hg0 (show g ∣ n.natAbs by rw [hg'];exact Nat.gcd_dvd_left _ _)
 rw [← e1] at e3 e4
 have lg:(mag g).length≤1000000:=Nat.le_trans (Zaj (by rw [hg'];exact Nat.gcd_le_right _ (by omega))) ld
 unfold RatR
 refine Zab Tryz.func146 rfl Tryz.ntmps146 rfl ?_
 repeat' first|refine Kz ?_|intro _
 refine TL.callv rfl rfl rfl rfl (Zjw (v:=.slice p1 (mag n.natAbs).length c1) (o:=.slice p2 (mag d).length c2) (a:=n.natAbs) (b:=d) (by omega) (by omega)) ?_
 rintro _ _ ⟨pg,cg,rfl,rfl⟩
 rw [← hg']
 repeat' first|refine Kz ?_|intro _
 refine TL.callv rfl rfl rfl rfl (Zbz (v:=.slice p1 (mag n.natAbs).length c1) (o:=.slice pg (mag g).length cg) (a:=n.natAbs) (b:=g) hg0 (by omega) (by omega)) ?_
 rintro _ _ ⟨pa,ca,pa',ca',rfl,rfl⟩
 repeat' first|refine Kz ?_|intro _
 refine TL.callv rfl rfl rfl rfl (Zbz (v:=.slice p2 (mag d).length c2) (o:=.slice pg (mag g).length cg) (a:=d) (b:=g) hg0 (by omega) (by omega)) ?_
 rintro _ _ ⟨pb,cb,pb',cb',rfl,rfl⟩
 repeat' first|refine Kz ?_|intro _
 refine Ks rfl (Zbw (v:=.slice pa (mag (n.natAbs / g)).length ca) (n:=n.natAbs / g)) ?_
 repeat' first|refine Kz ?_|intro _
 (refine Zac ?_)
 refine ⟨_,⟨pa,ca,pb,cb,?_,rfl⟩,?_⟩
 ·rw [e3,e4,e2];rfl
 ·rw [e3,e2]<;>(exact Zaa)
def ap2 {α:Type} (F:Rat→Rat→α) (a b:Option Rat):Option α:=match a,b with
 | some x,some y=>some (F x y)
 | _,_=>none
theorem Z15 {a b c d:List UInt8} (ha:a.length≤1000000000) (hb:b.length≤1000000000) (hc:c.length≤1000000000) (hd:d.length≤1000000000) :
  CallsS Tryz.prog w0 123 [.agg #[.string ⟨a.toArray⟩,.string ⟨b.toArray⟩],.agg #[.string ⟨c.toArray⟩,.string ⟨d.toArray⟩],.func (.func 124) #[] #[]] As
   fun u Bs=>u=.tuple #[.int .i64 ((ap2 ordQ (readF a b) (readF c d)).getD 0),.int .i64 (if (ap2 ordQ (readF a b) (readF c d)).isSome then 0 else 20)]∧Bs=As:=by
 refine Zab Tryz.func123 rfl Tryz.ntmps123 rfl ?_
 repeat' first|refine Kz ?_|intro _
 refine TL.call rfl rfl rfl (Zcu ha hb) ?_
 intro _ _ h1
 cases hx:readF a b with
 | none =>
  rw [hx] at h1
  obtain ⟨rfl,rfl⟩:=h1
  repeat' first|refine Kz ?_|intro _
  refine TL.call rfl rfl rfl (Zcu hc hd) ?_
  intro _ _ h2
  cases hy:readF c d with
  | none =>
   rw [hy] at h2
   obtain ⟨rfl,rfl⟩:=h2
   repeat' first|refine Kz ?_|intro _
   exact Kv
  | some y =>
   rw [hy] at h2
   obtain ⟨q1,k1,q2,k2,rfl,rfl⟩:=h2
   repeat' first|refine Kz ?_|intro _
   exact Kv
 | some x =>
  rw [hx] at h1
  obtain ⟨p1,c1,p2,c2,rfl,rfl⟩:=h1
  repeat' first|refine Kz ?_|intro _
  refine TL.call rfl rfl rfl (Zcu hc hd) ?_
  intro _ _ h2
  cases hy:readF c d with
  | none =>
   rw [hy] at h2
   obtain ⟨rfl,rfl⟩:=h2
   repeat' first|refine Kz ?_|intro _
   exact Kv
  | some y =>
   rw [hy] at h2
   obtain ⟨q1,k1,q2,k2,rfl,rfl⟩:=h2
   repeat' first|refine Kz ?_|intro _
   refine Ks rfl (Z4b (mv:=.slice p1 (mag x.num.natAbs).length c1) (bv:=.slice p2 (mag x.den).length c2) (nv:=.slice q1 (mag y.num.natAbs).length k1) (cv:=.slice q2 (mag y.den).length k2) (x:=x) (y:=y) ((Zch hx).mono (by omega)) ((Zch hy).mono (by omega))) ?_
   repeat' first|refine Kz ?_|intro _
   exact Kv
end Go.Proofs.YtbfgldlfciimiaaGreatDoor.Q
namespace Go.Proofs.YtbfgldlfciimiaaGreatDoor.Q
open Go Go.Sx
variable {w0:World} {As:List Ent}
theorem Z8q {a b c d:List UInt8} (ha:a.length≤1000000000) (hb:b.length≤1000000000) (hc:c.length≤1000000000) (hd:d.length≤1000000000) :
  CQ Tryz.prog w0 82 [.agg #[.string ⟨a.toArray⟩,.string ⟨b.toArray⟩],.agg #[.string ⟨c.toArray⟩,.string ⟨d.toArray⟩]] As (.tuple #[.int .i64 ((ap2 ordQ (readF a b) (readF c d)).getD 0),.int .i64 (if (ap2 ordQ (readF a b) (readF c d)).isSome then 0 else 20)]):=by
 refine Zab Tryz.func82 rfl Tryz.ntmps82 rfl ?_
 repeat' first|refine Kz ?_|intro _
 refine Kt rfl (Z15 ha hb hc hd) ?_
 repeat' first|refine Kz ?_|intro _
 exact Kv
theorem Zcx {z:Int} (h:-9223372036854775808≤z∧z≤9223372036854775807):Lib.nDigits z.natAbs≤19:=Zd6 (k:=19) (by omega) (by omega)
def makeO (n d:List UInt8):List UInt8 × List UInt8 × Int:=match readW n,readW d with
 | some x,some y=>if y=0 then ([],[],7) else outF (mkRat (if y < 0 then -x else x) y.natAbs)
 | _,_=>([],[],10)
set_option maxHeartbeats 2000000 in
theorem Z4r (ht:Tab w0) {a b:List UInt8} (ha:a.length≤1000000000) (hb:b.length≤1000000000) :
  CQ Tryz.prog w0 99 [.string ⟨a.toArray⟩,.string ⟨b.toArray⟩] As (.tuple #[.agg #[.string ⟨(makeO a b).1.toArray⟩,.string ⟨(makeO a b).2.1.toArray⟩],.int .i64 (makeO a b).2.2]):=by
 refine Zab Tryz.func99 rfl Tryz.ntmps99 rfl ?_
 repeat' first|refine Kz ?_|intro _
 refine Kt rfl (Zgm ha) ?_
 cases h1:readW a with
 | none =>
  rw [Zfq h1,makeO,h1]
  repeat' first|refine Kz ?_|intro _
  exact Kv
 | some x =>
  rw [Zfp h1]
  repeat' first|refine Kz ?_|intro _
  refine Kt rfl (Zgm hb) ?_
  cases h2:readW b with
  | none =>
   rw [Zfq h2,makeO,h1,h2]
   repeat' first|refine Kz ?_|intro _
   exact Kv
  | some y =>
   rw [Zfp h2,makeO,h1,h2]
   dsimp only
   have lx:(mag x.natAbs).length≤600:=Zby h1
   have ly:(mag y.natAbs).length≤600:=Zby h2
   repeat' first|refine Kz ?_|intro _
   refine TL.call rfl rfl rfl (Zib h1) ?_
   rintro _ _ ⟨p1,c1,rfl,rfl⟩
   repeat' first|refine Kz ?_|intro _
   refine TL.call rfl rfl rfl (Zib h2) ?_
   rintro _ _ ⟨p2,c2,rfl,rfl⟩
   repeat' first|refine Kz ?_|intro _
   rename_i b6 b7
   refine Ks rfl (Zc3 (v:=.slice p2 (mag y.natAbs).length c2) (n:=y.natAbs)) ?_
   by_cases h0:y.natAbs=0
   ·rw [if_pos (by omega)]
    repeat' first|refine Kz ?_|intro _
    exact Kv
   ·rw [if_neg (by omega)]
    obtain ⟨z,hz⟩:∃ z,z=if y < 0 then -x else x:=⟨_,rfl⟩
    rw [← hz]
    have ez:z.natAbs=x.natAbs:=by rw [hz];split<;>omega
    have em:mag x.natAbs=mag z.natAbs:=by rw [ez]
    have eb:(!decide (decide (x < 0)=decide (y < 0))&&decide (x.natAbs≠0))=decide (z < 0):=by
     rw [hz,Bool.eq_iff_iff]
     simp only [Bool.and_eq_true,Bool.not_eq_true',decide_eq_false_iff_not,decide_eq_true_eq]
     by_cases k1:x < 0<;>by_cases k2:y < 0<;>simp [k1,k2]<;>omega
    have hR:=Zfl (n:=z) h0
    have hl:Ln 1000000 (mkRat z y.natAbs):=by
     refine ⟨?_,?_⟩
     ·rw [hR.1]
      exact Nat.le_trans (Zaj (Int.natAbs_ediv_le_natAbs _ _)) (by rw [ez];omega)
     ·rw [hR.2]
      exact Nat.le_trans (Zaj (Nat.div_le_self _ _)) (by omega)
    repeat' first|refine Kz ?_|intro _
    refine Zaf [.cl b6 [.slice p1 (mag x.natAbs).length c1,.bool (decide (x < 0))] 190,.cl b7 [.slice p2 (mag y.natAbs).length c2,.bool (decide (y < 0))] 190] [] (.take 0 (.take 1 (.take 2 (.take 3 (.take 4 (.take 5 (.take 6 (.take 8 (.take 9 (.all [(7,.all [(10,.all [(11,.take 12 (.take 13 (.all [(14,.take 15 (.done))])))])])])))))))))) ?_
    repeat' first|refine Kf ?_|intro _|constructor
    refine Ku rfl (Zbw (v:=.slice p1 (mag x.natAbs).length c1) (n:=x.natAbs)) ?_
    rw [eb]
    repeat' first|refine Kf ?_|intro _|constructor
    rw [em]
    refine T1.callv rfl rfl rfl rfl rfl (Zxe (v:=.slice p1 (mag z.natAbs).length c1) (o:=.slice p2 (mag y.natAbs).length c2) (n:=z) (d:=y.natAbs) h0 (by rw [← em];omega) (by omega)) ?_
    rintro _ _ ⟨p3,c3,p4,c4,rfl,rfl⟩
    repeat' first|refine Kf ?_|intro _|constructor
    refine Ku rfl (Zdy ht (mv:=.slice p3 (mag (mkRat z y.natAbs).num.natAbs).length c3) (bv:=.slice p4 (mag (mkRat z y.natAbs).den).length c4) (x:=mkRat z y.natAbs) hl) ?_
    repeat' first|refine Kf ?_|intro _|constructor
    exact Kv
def ofO (n d:Int):List UInt8 × List UInt8 × Int:=if d=0 then ([],[],7) else outF (mkRat (if d < 0 then -n else n) d.natAbs)
theorem Z4q {n d:Int} (hn:-9223372036854775808≤n∧n≤9223372036854775807) (hd:-9223372036854775808≤d∧d≤9223372036854775807):makeO (textI n) (textI d)=ofO n d:=by
 have h1:=Zcx hn
 have h2:=Zcx hd
 unfold makeO ofO
 rw [Zcy (by omega),Zcy (by omega)]
theorem Yd6 (ht:Tab w0) {n d:Int} (hn:-9223372036854775808≤n∧n≤9223372036854775807) (hd:-9223372036854775808≤d∧d≤9223372036854775807) :
  CQ Tryz.prog w0 67 [.int .i64 n,.int .i64 d] As (.tuple #[.agg #[.string ⟨(ofO n d).1.toArray⟩,.string ⟨(ofO n d).2.1.toArray⟩],.int .i64 (ofO n d).2.2]):=by
 refine Zab Tryz.func67 rfl Tryz.ntmps67 rfl ?_
 repeat' first|refine Kz ?_|intro _
 have ln:∀ {z:Int},(-9223372036854775808≤z∧z≤9223372036854775807)→(textI z).length≤1000000000:=fun {z} h=>by
  have h1:=Zcx h
  rw [Zcg]
  split
  ·rw [List.length_cons,Zbp];omega
  ·rw [Zbp];omega
 refine Kt rfl (Zkj ht hn.1 hn.2) ?_
 repeat' first|refine Kz ?_|intro _
 refine Kt rfl (Zkj ht hd.1 hd.2) ?_
 repeat' first|refine Kz ?_|intro _
 refine Kt rfl (Z4r ht (ln hn) (ln hd)) ?_
 rw [Z4q hn hd]
 repeat' first|refine Kz ?_|intro _
 exact Kv
theorem Ln.minQ {k:Nat} {x y:Rat} (hx:Ln k x) (hy:Ln k y):Ln k (minQ x y):=by unfold Q.minQ;split;exact hy;exact hx
theorem Ln.maxQ {k:Nat} {x y:Rat} (hx:Ln k x) (hy:Ln k y):Ln k (maxQ x y):=by unfold Q.maxQ;split;exact hy;exact hx
end Go.Proofs.YtbfgldlfciimiaaGreatDoor.Q
namespace Go.Sx
open Go
def tN (r:Rat):List UInt8:=textI r.num
def tD (r:Rat):List UInt8:=textI (r.den:Int)
theorem Zdw {r:Rat} (h:Fit 600 r):(tN r).length≤1000000000:=by
 have:=Zk0 r.num
 have h1:=h.1
 unfold tN
 split at this<;>omega
theorem Zdx {r:Rat} (h:Fit 600 r):(tD r).length≤1000000000:=by
 have:=Zk0 (r.den:Int)
 have h1:=h.2
 unfold tD
 rw [Int.natAbs_natCast] at this
 split at this<;>omega
theorem Fit.rd {r:Rat} (h:Fit 600 r):readF (tN r) (tD r)=some r:=h.read
theorem Fit.ot {r:Rat} (h:Fit 600 r):outF r=(tN r,tD r,0):=h.out
end Go.Sx
namespace Go.Proofs.YtbfgldlfciimiaaGreatDoor.Q
open Go Go.Sx
variable {w0:World} {As:List Ent}
end Go.Proofs.YtbfgldlfciimiaaGreatDoor.Q
