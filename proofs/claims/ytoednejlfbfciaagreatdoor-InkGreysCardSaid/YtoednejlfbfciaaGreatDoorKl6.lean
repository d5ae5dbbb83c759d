/- Walks: InkGreys. -/
import Derived.Test.YtoednejlfbfciaaGreatDoorKl1
import Derived.Test.YtoednejlfbfciaaGreatDoorKr6
set_option maxHeartbeats 1000000
namespace Go.Sx
open Go
theorem Zsh {c m y n e:Int} {r:Crv} (h:splitW c m y r n=.inl e):e≠0:=by
 unfold splitW at h
 split at h
 ·cases h;decide
 ·split at h
  ·rename_i h1;cases h;exact h1
  ·cases h
theorem Ztj {c m y n:Int} (h:in3 c m y) (h1:10000≤n) (h2:n≤40000):limitW ⟨c,m,y,0⟩ n=(cutI ⟨c,m,y,0⟩ n,0):=by
 obtain ⟨⟨_,_⟩,⟨_,_⟩,⟨_,_⟩⟩:=h
 unfold limitW Ink.list
 simp only
 rw [if_neg (fun g=>g (Z1i.2 ⟨by omega,by omega,by omega,by omega⟩)),if_neg (by omega)]
end Go.Sx
namespace Go.Proofs.YtoednejlfbfciaaGreatDoor
open Go Go.Sx
variable {w0:World} {As:List Ent}
set_option maxRecDepth 100000 in
set_option maxHeartbeats 4000000 in
theorem Zob (ht:Tab w0) (he:ErrR w0) {kd lim l0 l1 l2:Int} {tv pv:Value} {us:List Int} {ps:List Prt} {ro ri:Bool} [RdIn As tv Int (cI .u16) us] [RdIn As pv Prt cPrt ps] (hk:0≤kd∧kd≤255) (hu:∀ u∈us,0≤u∧u≤65535) (hl:us.length≤9223372036854775807) (hp:∀ p∈ps,p.ok) (hl':ps.length≤9223372036854775807)
  (h0:0≤l0∧l0≤65535) (h1:0≤l1∧l1≤65535) (h2:0≤l2∧l2≤65535) (hm:0≤lim∧lim≤65535) :
  CallsS Tryz.prog w0 7 [.agg #[.int .u8 kd,tv,pv,.bool ro,.bool ri],.agg #[.int .u16 l0,.int .u16 l1,.int .u16 l2],.int .u16 lim] As fun u _=>u=.bool true:=by
 refine Zad tv fun p0 c0 e0=>Zad pv fun p1 c1 e1=>?_
 subst e0 e1
 refine Zab Tryz.func7 rfl Tryz.ntmps7 rfl ?_
 repeat' first|refine Kz ?_|intro _
 rename_i b3 b4
 refine Ks rfl (Zje ht he) ?_
 have g0:0≤l0 % 10001∧l0 % 10001≤10000:=by omega
 have g1:0≤l1 % 10001∧l1 % 10001≤10000:=by omega
 have g2:0≤l2 % 10001∧l2 % 10001≤10000:=by omega
 have gn:10000≤10000+lim % 30001∧10000+lim % 30001≤40000:=by omega
 repeat' first|refine Kz ?_|intro _
 rename_i b8
 generalize 10000+lim % 30001=n at *
 generalize l0 % 10001=c at *
 generalize l1 % 10001=m at *
 generalize l2 % 10001=y at *
 clear h0 h1 h2 hm
 have hin:in3 c m y:=⟨g0,g1,g2⟩
 have s1:=fun Bs=>Zg0 (w0:=w0) (As:=Bs) ht he (c:=c) (m:=c) (y:=c) (n:=n)
 simp only [Zq9 g0.1 g0.2 gn.1 gn.2,splitA,splitE,Ink.val] at s1
 have s2:=fun Bs k [RdIn Bs (.slice (some ⟨k,0,none⟩) 2 2) Int (cI .i64) [0,0]]=>Zg1 (w0:=w0) (As:=Bs) (k:=k) ht he (c:=c) (m:=m) (y:=y) (n:=n)
 have s3:=fun Bs=>Zic (w0:=w0) (As:=Bs) (c:=c) (m:=m) (y:=y) (k:=0) (n:=n)
 simp only [Zra hin gn.1 gn.2,splitA,splitE] at s2
 simp only [Ztj hin gn.1 gn.2] at s3
 generalize cutI ⟨c,m,y,0⟩ n=q at s2 s3
 obtain ⟨q1,q2,q3,q4⟩:=q
 simp only [Ink.val] at s2 s3
 refine TL.callv rfl rfl rfl rfl (Zfo) ?_
 rintro _ _ ⟨k,rfl,rfl⟩
 repeat' first|refine Kz ?_|intro _
 refine Ks rfl Zl5 ?_
 repeat' first|refine Kz ?_|intro _
 refine Ks rfl (s1 _) ?_
 repeat' first|refine Kz ?_|intro _
 refine TL.callv (fst:=[]) rfl rfl rfl rfl (Zaz (.cl k [.int .i64 0,.int .i64 0,.int .i64 0,.int .i64 c] 41) Zie) ?_
 rw [decide_eq_true (by simp)]
 rintro _ _ ⟨rfl,rfl⟩
 repeat' first|refine Kz ?_|intro _
 refine Tri.mid (fun e' As'=>∃ b10,e'=[(7,.int .i64 n),(11,.int .i64 0),(3,.pointer (some ⟨b3,0,none⟩)),(8,.pointer (some ⟨b8,0,none⟩)),(10,.pointer (some ⟨b10,0,none⟩))]∧As'=.cl b10 [.int .i64 q1,.int .i64 q2,.int .i64 q3,.int .i64 q4] 41::.cl b8 [.int .i64 c,.int .i64 m,.int .i64 y] 33::.cl b3 [.int .u8 kd,.slice p0 us.length c0,.slice p1 ps.length c1,.bool ro,.bool ri] 31::As) ?_ ?_
 ·refine Zaj [.cl b8 [.int .i64 c,.int .i64 m,.int .i64 y] 33] [] (.take 0 (.take 2 (.all [(1,.take 3 (.all [(4,.take 5 (.take 6 (.take 7 (.all [(8,.all [(9,.take 10 (.done))])])))),(8,.all [(4,.take 5 (.take 6 (.take 7 (.all [(9,.take 10 (.done))]))))])])),(8,.all [(1,.take 3 (.all [(4,.take 5 (.take 6 (.take 7 (.all [(9,.take 10 (.done))]))))]))])]))) ?_
  repeat' first|refine Kf ?_|intro _|constructor
  repeat' (first|(refine T1.callv rfl rfl rfl rfl rfl Zmi ?_;rintro _ _ ⟨k',rfl,rfl⟩;(repeat' first|refine Kf ?_|intro _|constructor))|(refine T1.callv rfl rfl rfl rfl rfl (s2 _ _) ?_;rintro _ _ ⟨rfl,rfl⟩;(repeat' first|refine Kf ?_|intro _|constructor)))
  all_goals exact Post.cut _ _ ⟨_,rfl,rfl⟩ Zae Zaa
 rintro _ _ ⟨b10,rfl,rfl⟩
 repeat' first|refine Kz ?_|intro _
 refine Ks rfl (s3 _) ?_
 repeat' first|refine Kz ?_|intro _
 refine TL.f rfl rfl (Zc5 rfl rfl) ?_
 rw [decide_eq_true ⟨rfl,rfl,rfl,rfl⟩]
 repeat' first|refine Kz ?_|intro _
 refine TL.callv rfl rfl rfl rfl (Zga (tv:=.slice p0 us.length c0) (pv:=.slice p1 ps.length c1) (us:=us) (ps:=ps) hk hu hl hp hl') ?_
 rintro _ _ ⟨kv,p,n',c',q,m',d,tab,ss,rfl,t1,t2,rfl⟩
 repeat' first|refine Kz ?_|intro _
 refine TL.callv rfl rfl rfl rfl (Zb2 ht he (kv:=kv) (n:=n) (tv:=.slice p n' c') (tab:=tab) (sv:=.slice q m' d) (ss:=ss) (by omega) (by omega) (c:=c) (m:=m) (y:=y)) ?_
 generalize hsw:splitW c m y ⟨kv,tab,ss⟩ n=r
 rcases r with e|⟨a1,a2,a3,a4⟩
 ·have hne:=Zsh hsw
  simp only [splitA,splitE,Ink.val,Ink.zero]
  rintro _ _ ⟨rfl,rfl⟩
  repeat' first|refine Kz ?_|intro _
  refine TL.f rfl rfl (Zge rfl rfl) ?_
  rw [decide_eq_true ⟨rfl,rfl,rfl,rfl⟩]
  repeat' first|refine Kz ?_|intro _
  refine TL.callv rfl rfl rfl rfl (Zc0 (kv:=kv) (n:=n) (tv:=.slice p n' c') (tab:=tab) (sv:=.slice q m' d) (ss:=ss) (by omega) (by omega)) ?_
  rw [Zwj hin hsw]
  rintro _ _ ⟨rfl,rfl⟩
  repeat' first|refine Kz ?_|intro _
  (refine Zac ?_)
  exact ⟨_,by simp,Ents.refl _⟩
 ·obtain ⟨k1,k2,k3,k4,k5,k6⟩:=Zwk hsw
  unfold Ink.ok at k1
  simp only at k1 k3 k4 k5 k6
  have k7:totalW ⟨a1,a2,a3,a4⟩=(a1+a2+a3+a4,0):=by unfold totalW;exact if_pos (show inW 65535 [a1,a2,a3,a4] from Z1i.2 (by omega))
  have k8:a1+a2+a3+a4≤n:=k2
  simp only [splitA,splitE,Ink.val]
  rintro _ _ ⟨rfl,rfl⟩
  repeat' first|refine Kz ?_|intro _
  refine TL.callv rfl rfl rfl rfl (Zsa (c:=a1) (m:=a2) (y:=a3) (k:=a4)) ?_
  rw [k7]
  rintro _ _ ⟨rfl,rfl⟩
  repeat' first|refine Kz ?_|intro _
  (refine Zac ?_)
  exact ⟨_,by rw [decide_eq_true k6],Ents.refl _⟩
end Go.Proofs.YtoednejlfbfciaaGreatDoor
