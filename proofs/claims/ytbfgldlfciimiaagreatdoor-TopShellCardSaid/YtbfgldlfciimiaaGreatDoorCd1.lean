/- Walks: the reference on fractions: ratios, texts. -/
import Derived.Test.YtbfgldlfciimiaaGreatDoorCp1
import Derived.Test.YtbfgldlfciimiaaGreatDoorVb5
set_option maxHeartbeats 1000000
namespace Go.Proofs.YtbfgldlfciimiaaGreatDoor.Q
open Go Go.Sx
variable {w0:World} {As:List Ent}
def RatP (As:List Ent) (r:Rat) (u:Value) (Bs:List Ent):Prop:=∃ p c q d,u=.agg #[.bool (decide (r.num < 0)),.slice p (qud r.num.natAbs).length c,.bool (decide ((r.den:Int) < 0)),.slice q (qud (r.den:Int).natAbs).length d] ∧
 Bs=.ft (rd (cN .i64) (.slice q (qud (r.den:Int).natAbs).length d) (qud (r.den:Int).natAbs))::.ft (rd (cN .i64) (.slice p (qud r.num.natAbs).length c) (qud r.num.natAbs))::As
theorem Z0s {v o:Value} {x y:Int} [hf:FtIn As v Nat (cN .i64) (qud x.natAbs)] [hg:FtIn As o Nat (cN .i64) (qud y.natAbs)] (hy:y≠0) (ha:(qud x.natAbs).length≤10000) (hb:(qud y.natAbs).length≤10000) :
  CallsS Tryz.prog w0 101 [.agg #[.bool (decide (x < 0)),v],.agg #[.bool (decide (y < 0)),o]] As (RatP As (mkRat (if y < 0 then -x else x) y.natAbs)):=by
 refine Zae v fun pv cv hv=>Zae o fun po co ho=>?_
 subst hv ho
 obtain ⟨X,hX⟩:∃ X,X=if y < 0 then -x else x:=⟨_,rfl⟩
 rw [← hX]
 have hXa:X.natAbs=x.natAbs:=by rw [hX];split<;>omega
 refine Zab Tryz.func101 rfl Tryz.ntmps101 rfl ?_
 repeat' first|refine Kz ?_|intro _
 rename_i b2 b3 b4
 refine Tri.mid (fun e' As'=>∃ px cx py cy,e'=[(2,.pointer (some ⟨b2,0,none⟩)),(3,.pointer (some ⟨b3,0,none⟩)),(4,.pointer (some ⟨b4,0,none⟩))] ∧
  As'=.cl b2 [.bool (decide (X < 0)),.slice px (qud X.natAbs).length cx] 132::.cl b3 [.bool (decide ((y.natAbs:Int) < 0)),.slice py (qud (y.natAbs:Int).natAbs).length cy] 132 ::
   .ft (rd (cN .i64) (.slice px (qud X.natAbs).length cx) (qud X.natAbs))::.ft (rd (cN .i64) (.slice py (qud (y.natAbs:Int).natAbs).length cy) (qud (y.natAbs:Int).natAbs)) ::
   .cl b4 [.bool false,.slice none 0 0,.bool false,.slice none 0 0] 134::As) ?_ ?_
 ·by_cases hy0:y < 0
  ·have e1:-x=X:=by rw [hX,if_pos hy0]
   have e2:-y=(y.natAbs:Int):=by omega
   repeat' first|refine Kz ?_|intro _
   refine Zaf [] [(0,.c b2),(2,.c b3)] (.take 0 (.take 2 (.all [(1,.all [(3,.all [(4,.all [(5,.done)])])])]))) ?_
   repeat' first|refine Kf ?_|intro _|constructor
   iterate 2
    all_goals
     first
      | (refine T1.callv rfl rfl rfl rfl rfl (Zol (v:=.slice pv (qud x.natAbs).length cv) (x:=x) (by omega)) ?_
         rw [e1]
         rintro _ _ ⟨p1,c1,rfl,rfl⟩)
      | (refine T1.callv rfl rfl rfl rfl rfl (Zol (v:=.slice po (qud y.natAbs).length co) (x:=y) (by omega)) ?_
         rw [e2]
         rintro _ _ ⟨p2,c2,rfl,rfl⟩)
     repeat' first|refine Kf ?_|intro _|constructor
   all_goals exact Post.cut _ _ ⟨p1,c1,p2,c2,rfl,rfl⟩ Zad Zaa
  ·have e1:x=X:=by rw [hX,if_neg hy0]
   have e2:y=(y.natAbs:Int):=by omega
   subst e1
   repeat' first|refine Kz ?_|intro _
   refine Post.cut _ _ ⟨pv,cv,po,co,rfl,rfl⟩ Zad ?_
   rw [← e2]
   exact Ents.trans (Ents.dup (v:=.slice po (qud y.natAbs).length co)) (Ents.trans (Ents.dup (v:=.slice pv (qud x.natAbs).length cv)) Zaa)
 rintro _ _ ⟨px,cx,py,cy,rfl,rfl⟩
 have hY0:y.natAbs≠0:=by omega
 rw [← hXa] at ha
 clear hf hg hXa hX
 generalize y.natAbs=Y at hY0 hb ⊢
 obtain ⟨g,hg⟩:∃ g,g=Nat.gcd X.natAbs Y:=⟨_,rfl⟩
 have hg0:(g:Int)≠0:=by have:=Nat.gcd_pos_of_pos_right X.natAbs (Nat.pos_of_ne_zero hY0);omega
 have hgi:gcdI X (Y:Int)=(g:Int):=by rw [gcdI,Int.natAbs_natCast,hg]
 obtain ⟨r1,r2⟩:=Zfl (n:=X) hY0
 rw [← hg] at r1 r2
 have r3:(Y:Int) / (g:Int)=(((mkRat X Y).den:Nat):Int):=by rw [r2];rfl
 have lY:(qud (Y:Int).natAbs).length≤10000:=hb
 have lg:(qud (g:Int).natAbs).length≤10000:=by
  rw [Int.natAbs_natCast]
  exact Nat.le_trans (Zce (by rw [hg];exact Nat.gcd_le_right _ (Nat.pos_of_ne_zero hY0))) hb
 repeat' first|refine Kz ?_|intro _
 refine TL.callv rfl rfl rfl rfl (Zt8 (v:=.slice px (qud X.natAbs).length cx) (o:=.slice py (qud (Y:Int).natAbs).length cy) (x:=X) (y:=(Y:Int)) ha lY) ?_
 rw [hgi]
 rintro _ _ ⟨p5,c5,rfl,rfl⟩
 repeat' first|refine Kz ?_|intro _
 refine TL.callv rfl rfl rfl rfl (Zq7 (v:=.slice px (qud X.natAbs).length cx) (o:=.slice p5 (qud (g:Int).natAbs).length c5) (x:=X) (y:=(g:Int)) hg0 ha lg) ?_
 rw [← r1]
 rintro _ _ ⟨p6,c6,p7,c7,rfl,rfl⟩
 repeat' first|refine Kz ?_|intro _
 have eY:(Y:Int).natAbs=Y:=Int.natAbs_natCast Y
 refine TL.callv rfl rfl rfl rfl (Zq7 (v:=.slice py (qud (Y:Int).natAbs).length cy) (o:=.slice p5 (qud (g:Int).natAbs).length c5) (x:=(Y:Int)) (y:=(g:Int)) hg0 lY lg) ?_
 rw [r3]
 rintro _ _ ⟨p8,c8,p9,c9,rfl,rfl⟩
 repeat' first|refine Kz ?_|intro _
 (refine Zac ?_)
 exact ⟨_,⟨p6,c6,p8,c8,rfl,rfl⟩,Zaa⟩
end Go.Proofs.YtbfgldlfciimiaaGreatDoor.Q
namespace Go.Sx
open Go
structure D02 where
 n:D01
 d:D01
def D02.cells (x:D02):List Value:=x.n.cells++x.d.cells
def D02.ok (x:D02):Prop:=x.n.ok∧x.d.ok
theorem Zq8 {z:Int} (h:(outW z).2=0):(outW z).1=textI z:=by
 unfold outW at h ⊢
 by_cases hb:600 < Lib.nDigits z.natAbs
 ·rw [if_pos hb] at h;cases h
 ·rw [if_neg hb]
theorem Fit.qud {k:Nat} {r:Rat} (h:Fit k r):(qud r.num.natAbs).length≤k∧(qud r.den).length≤k:=by
 have h1:(10:Nat) ^ k≤10000 ^ k:=Nat.pow_le_pow_left (by decide) k
 exact ⟨Zbn (Nat.lt_of_lt_of_le (Zbg h.1) h1),Zbn (Nat.lt_of_lt_of_le (Zbg h.2) h1)⟩
end Go.Sx
namespace Go.Proofs.YtbfgldlfciimiaaGreatDoor.Q
open Go Go.Sx
variable {w0:World} {As:List Ent}
theorem Yc4 {v o:Value} {r:Rat} [hf:RdIn As v Nat (cN .i64) (qud r.num.natAbs)] [hg:RdIn As o Nat (cN .i64) (qud (r.den:Int).natAbs)] (ha:(qud r.num.natAbs).length≤100000000) (hb:(qud (r.den:Int).natAbs).length≤100000000) :
  CQ Tryz.prog w0 68 [.agg #[.bool (decide (r.num < 0)),v,.bool (decide ((r.den:Int) < 0)),o]] As (.tuple #[.agg #[.string ⟨(outF r).1.toArray⟩,.string ⟨(outF r).2.1.toArray⟩],.int .i64 (outF r).2.2]):=by
 refine Zae v fun pv cv hv=>Zae o fun po co ho=>?_
 subst hv ho
 refine Zab Tryz.func68 rfl Tryz.ntmps68 rfl ?_
 repeat' first|refine Kz ?_|intro _
 refine Ks rfl (Z0c (v:=.slice pv (qud r.num.natAbs).length cv) (z:=r.num) ha) ?_
 repeat' first|refine Kz ?_|intro _
 refine Ks rfl (Z0c (v:=.slice po (qud (r.den:Int).natAbs).length co) (z:=(r.den:Int)) hb) ?_
 by_cases h1:(outW r.num).2=0
 ·by_cases h2:(outW (r.den:Int)).2=0
  ·have e1:=Zq8 h1
   have e2:=Zq8 h2
   rw [outF,if_pos ⟨h1,h2⟩,← e1,← e2]
   generalize outW r.num=a at h1 ⊢
   generalize outW (r.den:Int)=b at h2 ⊢
   repeat' first|refine Kz ?_|intro _
   exact Kv
  ·rw [outF,if_neg (fun h=>h2 h.2)]
   generalize outW r.num=a at h1 ⊢
   generalize outW (r.den:Int)=b at h2 ⊢
   repeat' first|refine Kz ?_|intro _
   exact Kv
 ·rw [outF,if_neg (fun h=>h1 h.1)]
  generalize outW r.num=a at h1 ⊢
  generalize outW (r.den:Int)=b
  repeat' first|refine Kz ?_|intro _
  exact Kv
end Go.Proofs.YtbfgldlfciimiaaGreatDoor.Q
