/- Walks: the reference on fractions: ratios, texts. -/
import Derived.Test.YtbfgldlfciimiaaGreatDoorCp1
import Derived.Test.YtbfgldlfciimiaaGreatDoorVb5
import Derived.Test.YtbfgldlfciimiaaGreatDoorCc3
import Derived.Test.YtbfgldlfciimiaaGreatDoorVb1
import Derived.Test.YtbfgldlfciimiaaGreatDoorCc1
set_option maxHeartbeats 1000000
namespace Go.Proofs.YtbfgldlfciimiaaGreatDoor.Q
open Go Go.Sx
variable {w0:World} {As:List Ent}
def RatP (As:List Ent) (r:Rat) (u:Value) (Bs:List Ent):Prop:=∃ p c q d,u=.agg #[.bool (decide (r.num < 0)),.slice p (qud r.num.natAbs).length c,.bool (decide ((r.den:Int) < 0)),.slice q (qud (r.den:Int).natAbs).length d] ∧
 Bs=.ft (rd (cN .i64) (.slice q (qud (r.den:Int).natAbs).length d) (qud (r.den:Int).natAbs))::.ft (rd (cN .i64) (.slice p (qud r.num.natAbs).length c) (qud r.num.natAbs))::As
theorem Z29 {v o:Value} {x y:Int} [hf:FtIn As v Nat (cN .i64) (qud x.natAbs)] [hg:FtIn As o Nat (cN .i64) (qud y.natAbs)] (hy:y≠0) (ha:(qud x.natAbs).length≤10000) (hb:(qud y.natAbs).length≤10000) :
  CallsS Tryz.prog w0 101 [.agg #[.bool (decide (x < 0)),v],.agg #[.bool (decide (y < 0)),o]] As (RatP As (mkRat (if y < 0 then -x else x) y.natAbs)):=by
 refine Zae v fun pv cv hv=>Zae o fun po co ho=>?_
 subst hv ho
 obtain ⟨X,hX⟩:∃ X,X=if y < 0 then -x else x:=⟨_,rfl⟩
 rw [← hX]
 have hXa:X.natAbs=x.natAbs:=by rw [hX];split<;>omega
 refine Zab Tryz.func101 rfl Tryz.ntmps101 rfl ?_
 repeat' first|refine Kz ?_|intro _
 rename_i b2 b3 b4
 refine Tri.mid (fun e' As'=>∃ px cx py cy,e'=[(2,.pointer (some ⟨b2,0,none⟩)),(3,.pointer (some ⟨b3,0,none⟩)),(4,.pointer (some ⟨b4,0,none⟩))] ∧
  As'=.cl b2 [.bool (decide (X < 0)),.slice px (qud X.natAbs).length cx] 132::.cl b3 [.bool (decide ((y.natAbs:Int) < 0)),.slice py (qud (y.natAbs:Int).natAbs).length cy] 132 ::
   .ft (rd (cN .i64) (.slice px (qud X.natAbs).length cx) (qud X.natAbs))::.ft (rd (cN .i64) (.slice py (qud (y.natAbs:Int).natAbs).length cy) (qud (y.natAbs:Int).natAbs)) ::
   .cl b4 [.bool false,.slice none 0 0,.bool false,.slice none 0 0] 134::As) ?_ ?_
 ·by_cases hy0:y < 0
  ·have e1:-x=X:=by rw [hX,if_pos hy0]
   have e2:-y=(y.natAbs:Int):=by omega
   repeat' first|refine Kz ?_|intro _
   refine Zag [] [(0,.c b2),(2,.c b3)] (.take 0 (.take 2 (.all [(1,.all [(3,.all [(4,.all [(5,.done)])])])]))) ?_
   repeat' first|refine Kf ?_|intro _|constructor
   iterate 2
    all_goals
     first
      | (refine T1.callv rfl rfl rfl rfl rfl (Zpz (v:=.slice pv (qud x.natAbs).length cv) (x:=x) (by omega)) ?_
         rw [e1]
         rintro _ _ ⟨p1,c1,rfl,rfl⟩)
      | (refine T1.callv rfl rfl rfl rfl rfl (Zpz (v:=.slice po (qud y.natAbs).length co) (x:=y) (by omega)) ?_
         rw [e2]
         rintro _ _ ⟨p2,c2,rfl,rfl⟩)
     repeat' first|refine Kf ?_|intro _|constructor
   all_goals exact Post.cut _ _ ⟨p1,c1,p2,c2,rfl,rfl⟩ Zad Zaa
  ·have e1:x=X:=by rw [hX,if_neg hy0]
   have e2:y=(y.natAbs:Int):=by omega
   subst e1
   repeat' first|refine Kz ?_|intro _
   refine Post.cut _ _ ⟨pv,cv,po,co,rfl,rfl⟩ Zad ?_
   rw [← e2]
   exact Ents.trans (Ents.dup (v:=.slice po (qud y.natAbs).length co)) (Ents.trans (Ents.dup (v:=.slice pv (qud x.natAbs).length cv)) Zaa)
 rintro _ _ ⟨px,cx,py,cy,rfl,rfl⟩
 have hY0:y.natAbs≠0:=by omega
 rw [← hXa] at ha
 clear hf hg hXa hX
 generalize y.natAbs=Y at hY0 hb ⊢
 obtain ⟨g,hg⟩:∃ g,g=Nat.gcd X.natAbs Y:=⟨_,rfl⟩
 have hg0:(g:Int)≠0:=by have:=Nat.gcd_pos_of_pos_right X.natAbs (Nat.pos_of_ne_zero hY0);omega
 have hgi:gcdI X (Y:Int)=(g:Int):=by rw [gcdI,Int.natAbs_natCast,hg]
 obtain ⟨r1,r2⟩:=Zf6 (n:=X) hY0
 rw [← hg] at r1 r2
 have r3:(Y:Int) / (g:Int)=(((mkRat X Y).den:Nat):Int):=by rw [r2];rfl
 have lY:(qud (Y:Int).natAbs).length≤10000:=hb
 have lg:(qud (g:Int).natAbs).length≤10000:=by
  rw [Int.natAbs_natCast]
  exact Nat.le_trans (Zcb (by rw [hg];exact Nat.gcd_le_right _ (Nat.pos_of_ne_zero hY0))) hb
 repeat' first|refine Kz ?_|intro _
 refine TL.callv rfl rfl rfl rfl (Zm3 (v:=.slice px (qud X.natAbs).length cx) (o:=.slice py (qud (Y:Int).natAbs).length cy) (x:=X) (y:=(Y:Int)) ha lY) ?_
 rw [hgi]
 rintro _ _ ⟨p5,c5,rfl,rfl⟩
 repeat' first|refine Kz ?_|intro _
 refine TL.callv rfl rfl rfl rfl (Zsv (v:=.slice px (qud X.natAbs).length cx) (o:=.slice p5 (qud (g:Int).natAbs).length c5) (x:=X) (y:=(g:Int)) hg0 ha lg) ?_
 rw [← r1]
 rintro _ _ ⟨p6,c6,p7,c7,rfl,rfl⟩
 repeat' first|refine Kz ?_|intro _
 have eY:(Y:Int).natAbs=Y:=Int.natAbs_natCast Y
 refine TL.callv rfl rfl rfl rfl (Zsv (v:=.slice py (qud (Y:Int).natAbs).length cy) (o:=.slice p5 (qud (g:Int).natAbs).length c5) (x:=(Y:Int)) (y:=(g:Int)) hg0 lY lg) ?_
 rw [r3]
 rintro _ _ ⟨p8,c8,p9,c9,rfl,rfl⟩
 repeat' first|refine Kz ?_|intro _
 (refine Zac ?_)
 exact ⟨_,⟨p6,c6,p8,c8,rfl,rfl⟩,Zaa⟩
end Go.Proofs.YtbfgldlfciimiaaGreatDoor.Q
namespace Go.Sx
open Go
structure D02 where
 n:D01
 d:D01
def D02.cells (x:D02):List Value:=x.n.cells++x.d.cells
def D02.ok (x:D02):Prop:=x.n.ok∧x.d.ok
theorem Zsw {z:Int} (h:(outW z).2=0):(outW z).1=textI z:=by
 unfold outW at h ⊢
 by_cases hb:600 < Lib.nDigits z.natAbs
 ·rw [if_pos hb] at h;cases h
 ·rw [if_neg hb]
theorem Fit.qud {k:Nat} {r:Rat} (h:Fit k r):(qud r.num.natAbs).length≤k∧(qud r.den).length≤k:=by
 have h1:(10:Nat) ^ k≤10000 ^ k:=Nat.pow_le_pow_left (by decide) k
 exact ⟨Zbj (Nat.lt_of_lt_of_le (Zbd h.1) h1),Zbj (Nat.lt_of_lt_of_le (Zbd h.2) h1)⟩
end Go.Sx
namespace Go.Proofs.YtbfgldlfciimiaaGreatDoor.Q
open Go Go.Sx
variable {w0:World} {As:List Ent}
theorem Yg2 {v o:Value} {r:Rat} [hf:RdIn As v Nat (cN .i64) (qud r.num.natAbs)] [hg:RdIn As o Nat (cN .i64) (qud (r.den:Int).natAbs)] (ha:(qud r.num.natAbs).length≤100000000) (hb:(qud (r.den:Int).natAbs).length≤100000000) :
  CQ Tryz.prog w0 68 [.agg #[.bool (decide (r.num < 0)),v,.bool (decide ((r.den:Int) < 0)),o]] As (.tuple #[.agg #[.string ⟨(outF r).1.toArray⟩,.string ⟨(outF r).2.1.toArray⟩],.int .i64 (outF r).2.2]):=by
 refine Zae v fun pv cv hv=>Zae o fun po co ho=>?_
 subst hv ho
 refine Zab Tryz.func68 rfl Tryz.ntmps68 rfl ?_
 repeat' first|refine Kz ?_|intro _
 refine Ks rfl (Z2r (v:=.slice pv (qud r.num.natAbs).length cv) (z:=r.num) ha) ?_
 repeat' first|refine Kz ?_|intro _
 refine Ks rfl (Z2r (v:=.slice po (qud (r.den:Int).natAbs).length co) (z:=(r.den:Int)) hb) ?_
 by_cases h1:(outW r.num).2=0
 ·by_cases h2:(outW (r.den:Int)).2=0
  ·have e1:=Zsw h1
   have e2:=Zsw h2
   rw [outF,if_pos ⟨h1,h2⟩,← e1,← e2]
   generalize outW r.num=a at h1 ⊢
   generalize outW (r.den:Int)=b at h2 ⊢
   repeat' first|refine Kz ?_|intro _
   exact Kv
  ·rw [outF,if_neg (fun h=>h2 h.2)]
   generalize outW r.num=a at h1 ⊢
   generalize outW (r.den:Int)=b at h2 ⊢
   repeat' first|refine Kz ?_|intro _
   exact Kv
 ·rw [outF,if_neg (fun h=>h1 h.1)]
  generalize outW r.num=a at h1 ⊢
  generalize outW (r.den:Int)=b
  repeat' first|refine Kz ?_|intro _
  exact Kv
end Go.Proofs.YtbfgldlfciimiaaGreatDoor.Q
namespace Go.Sx
open Go
theorem Zzd:textI 1=[49]:=by rw [Zb4,if_neg (by omega)];exact Zb7 (by decide)
end Go.Sx
namespace Go.Proofs.YtbfgldlfciimiaaGreatDoor
open Go Go.Sx
variable {w0:World} {As:List Ent}
theorem Zoq {r:Rat} (hr:Fit 600 r):CQ Tryz.prog w0 84 [.agg #[.string ⟨(tN r).toArray⟩,.string ⟨(tD r).toArray⟩]] As (.bool true):=by
 have r1:readW (tN r)=some r.num:=Zbs hr.1
 have r2:readW (tD r)=some (r.den:Int):=Zbs (by rw [Int.natAbs_natCast];exact hr.2)
 obtain ⟨l1,l2⟩:=hr.qud
 have l3:(qud (r.den:Int).natAbs).length≤600:=by rw [Int.natAbs_natCast];exact l2
 have hl0:(qud (r.den:Int).natAbs).length≠0:=by
  intro h
  have h1:valQ (qud (r.den:Int).natAbs)=0:=by rw [List.length_eq_zero_iff.1 h];rfl
  rw [Za0,Int.natAbs_natCast] at h1
  exact r.den_nz h1
 have hg:gcdI r.num (r.den:Int)=1:=by
  have:=r.reduced
  unfold Nat.Coprime at this
  unfold gcdI
  rw [Int.natAbs_natCast,this];rfl
 refine Zab Tryz.func84 rfl Tryz.ntmps84 rfl ?_
 repeat' first|refine Kz ?_|intro _
 refine Kt rfl (Zsm (s:=tN r) (Zdw hr)) ?_
 rw [r1]
 repeat' first|refine Kz ?_|intro _
 refine Kt rfl (Zsm (s:=tD r) (Zdx hr)) ?_
 rw [r2]
 repeat' first|refine Kz ?_|intro _
 rename_i b1
 refine Tri.mid (fun e' As'=>∃ p c q d b3 b4,e'=[(1,.pointer (some ⟨b1,0,none⟩)),(2,.bool false),(3,.pointer (some ⟨b3,0,none⟩)),(4,.pointer (some ⟨b4,0,none⟩))] ∧
  As'=.cl b3 [.bool (decide (r.num < 0)),.slice p (qud r.num.natAbs).length c] 132::.cl b4 [.bool (decide ((r.den:Int) < 0)),.slice q (qud (r.den:Int).natAbs).length d] 132 ::
   .ft (rd (cN .i64) (.slice p (qud r.num.natAbs).length c) (qud r.num.natAbs))::.ft (rd (cN .i64) (.slice q (qud (r.den:Int).natAbs).length d) (qud (r.den:Int).natAbs))::As) ?_ ?_
 ·refine Zag [.cl b1 [.string ⟨(tN r).toArray⟩,.string ⟨(tD r).toArray⟩] 47] [] (.take 0 (.take 1 (.take 3 (.take 4 (.all [(2,.all [(5,.all [(6,.all [(7,.all [(8,.all [(9,.done)])])]),(7,.all [(6,.all [(8,.all [(9,.done)])])])]),(6,.all [(5,.all [(7,.all [(8,.all [(9,.done)])])]),(7,.all [(5,.all [(8,.all [(9,.done)])])])]),(7,.all [(5,.all [(6,.all [(8,.all [(9,.done)])])]),(6,.all [(5,.all [(8,.all [(9,.done)])])])])]),(6,.all [(2,.all [(5,.all [(7,.all [(8,.all [(9,.done)])])]),(7,.all [(5,.all [(8,.all [(9,.done)])])])]),(7,.all [(2,.all [(5,.all [(8,.all [(9,.done)])])])])]),(7,.all [(2,.all [(5,.all [(6,.all [(8,.all [(9,.done)])])]),(6,.all [(5,.all [(8,.all [(9,.done)])])])]),(6,.all [(2,.all [(5,.all [(8,.all [(9,.done)])])])])])]))))) ?_
  repeat' first|refine Kf ?_|intro _|constructor
  repeat' (first|(refine T1.callv rfl rfl rfl rfl rfl (Zxx r1) ?_;rintro _ _ ⟨p1,c1,rfl,rfl⟩;(repeat' first|refine Kf ?_|intro _|constructor))|(refine T1.callv rfl rfl rfl rfl rfl (Zxx r2) ?_;rintro _ _ ⟨p2,c2,rfl,rfl⟩;(repeat' first|refine Kf ?_|intro _|constructor)))
  all_goals exact Post.cut _ _ ⟨p1,c1,p2,c2,_,_,rfl,rfl⟩ Zad Zaa
 rintro _ _ ⟨p,c,q,d,b3,b4,rfl,rfl⟩
 rw [show decide ((r.den:Int) < 0)=false from decide_eq_false (by omega)]
 have hl1:((qud (r.den:Int).natAbs).length:Int)≠0:=by omega
 repeat' first|refine Kz ?_|intro _
 have hdv:=fun Bs [FtIn Bs (.slice p (qud r.num.natAbs).length c) Nat (cN .i64) (qud r.num.natAbs)] [FtIn Bs (.slice q (qud (r.den:Int).natAbs).length d) Nat (cN .i64) (qud (r.den:Int).natAbs)]=>Zm3 (w0:=w0) (As:=Bs) (v:=.slice p (qud r.num.natAbs).length c) (o:=.slice q (qud (r.den:Int).natAbs).length d) (x:=r.num) (y:=(r.den:Int)) (by omega) (by omega)
 rw [show decide ((r.den:Int) < 0)=false from decide_eq_false (by omega),hg] at hdv
 refine TL.callv rfl rfl rfl rfl (hdv _) ?_
 rintro _ _ ⟨q3,d3,rfl,rfl⟩
 repeat' first|refine Kz ?_|intro _
 refine Kt rfl (Zw2 (z:=1) (Nat.le_trans (Zbj (k:=1) (by decide)) (by decide))) ?_
 rw [Zzd]
 repeat' first|refine Kz ?_|intro _
 exact Kv
theorem Z3h {r:Rat} (hr:Fit 600 r):CallsS Tryz.prog w0 86 [.agg #[.string ⟨(tN r).toArray⟩,.string ⟨(tD r).toArray⟩]] As (Q.RatP As r):=by
 have r1:readW (tN r)=some r.num:=Zbs hr.1
 have r2:readW (tD r)=some (r.den:Int):=Zbs (by rw [Int.natAbs_natCast];exact hr.2)
 refine Zab Tryz.func86 rfl Tryz.ntmps86 rfl ?_
 repeat' first|refine Kz ?_|intro _
 rename_i b1 b2
 refine Zag [.cl b1 [.string ⟨(tN r).toArray⟩,.string ⟨(tD r).toArray⟩] 47] [] (.take 0 (.take 1 (.take 3 (.take 4 (.all [(2,.all [(5,.take 6 (.all [(7,.done)]))])]))))) ?_
 repeat' first|refine Kf ?_|intro _|constructor
 refine T1.callv rfl rfl rfl rfl rfl (Zxx r1) ?_
 rintro _ _ ⟨p1,c1,rfl,rfl⟩
 repeat' first|refine Kf ?_|intro _|constructor
 refine T1.callv rfl rfl rfl rfl rfl (Zxx r2) ?_
 rintro _ _ ⟨p2,c2,rfl,rfl⟩
 repeat' first|refine Kf ?_|intro _|constructor
 (refine Zac ?_)
 exact ⟨_,⟨p1,c1,p2,c2,rfl,rfl⟩,Zaa⟩
theorem Zzo {v1 v2 v3 v4:Value} {r s:Rat} [RdIn As v1 Nat (cN .i64) (qud r.num.natAbs)] [RdIn As v2 Nat (cN .i64) (qud (r.den:Int).natAbs)] [RdIn As v3 Nat (cN .i64) (qud s.num.natAbs)] [RdIn As v4 Nat (cN .i64) (qud (s.den:Int).natAbs)] (hr:Fit 600 r) (hs:Fit 600 s) :
  CQ Tryz.prog w0 85 [.agg #[.bool (decide (r.num < 0)),v1,.bool (decide ((r.den:Int) < 0)),v2],.agg #[.bool (decide (s.num < 0)),v3,.bool (decide ((s.den:Int) < 0)),v4]] As (.int .i64 (ordQ r s)):=by
 obtain ⟨l1,l2⟩:=hr.qud
 obtain ⟨l3,l4⟩:=hs.qud
 rw [← Int.natAbs_natCast r.den] at l2
 rw [← Int.natAbs_natCast s.den] at l4
 have k1:=Zf7 r.num.natAbs (s.den:Int).natAbs
 rw [← Int.natAbs_mul] at k1
 have k2:=Zf7 s.num.natAbs (r.den:Int).natAbs
 rw [← Int.natAbs_mul] at k2
 refine Zab Tryz.func85 rfl Tryz.ntmps85 rfl ?_
 repeat' first|refine Kz ?_|intro _
 rename_i b2 b3
 refine Zag [.cl b2 [.bool (decide (r.num < 0)),v1,.bool (decide ((r.den:Int) < 0)),v2] 134,.cl b3 [.bool (decide (s.num < 0)),v3,.bool (decide ((s.den:Int) < 0)),v4] 134] [] (.take 0 (.take 1 (.take 2 (.take 3 (.take 5 (.take 6 (.take 7 (.take 8 (.all [(4,.all [(9,.all [(10,.take 11 (.done))])])]))))))))) ?_
 repeat' first|refine Kf ?_|intro _|constructor
 refine T1.callv rfl rfl rfl rfl rfl (Zr6 (v:=v1) (o:=v4) (x:=r.num) (y:=(s.den:Int)) (by omega) (by omega)) ?_
 rintro _ _ ⟨p1,c1,rfl,rfl⟩
 repeat' first|refine Kf ?_|intro _|constructor
 refine T1.callv rfl rfl rfl rfl rfl (Zr6 (v:=v3) (o:=v2) (x:=s.num) (y:=(r.den:Int)) (by omega) (by omega)) ?_
 rintro _ _ ⟨p2,c2,rfl,rfl⟩
 repeat' first|refine Kf ?_|intro _|constructor
 refine Ku rfl (Z2t (v:=.slice p1 (qud (r.num * (s.den:Int)).natAbs).length c1) (o:=.slice p2 (qud (s.num * (r.den:Int)).natAbs).length c2) (x:=r.num * (s.den:Int)) (y:=s.num * (r.den:Int)) (by omega) (by omega)) ?_
 repeat' first|refine Kf ?_|intro _|constructor
 exact Kv
theorem Z8d {r s:Rat} (hr:Fit 600 r) (hs:Fit 600 s):CQ Tryz.prog w0 47 [.agg #[.string ⟨(tN r).toArray⟩,.string ⟨(tD r).toArray⟩],.agg #[.string ⟨(tN s).toArray⟩,.string ⟨(tD s).toArray⟩]] As (.tuple #[.int .i64 (ordQ r s),.int .i64 0]):=by
 refine Zab Tryz.func47 rfl Tryz.ntmps47 rfl ?_
 repeat' first|refine Kz ?_|intro _
 refine Ks rfl (Zoq hr) ?_
 repeat' first|refine Kz ?_|intro _
 refine Ks rfl (Zoq hs) ?_
 repeat' first|refine Kz ?_|intro _
 rename_i b2 b3
 refine Zag [.cl b2 [.string ⟨(tN r).toArray⟩,.string ⟨(tD r).toArray⟩] 47,.cl b3 [.string ⟨(tN s).toArray⟩,.string ⟨(tD s).toArray⟩] 47] [] (.take 0 (.take 2 (.all [(1,.all [(3,.all [(4,.take 5 (.take 6 (.done)))])])]))) ?_
 repeat' first|refine Kf ?_|intro _|constructor
 refine T1.callv rfl rfl rfl rfl rfl (Z3h hr) ?_
 rintro _ _ ⟨p1,c1,p2,c2,rfl,rfl⟩
 repeat' first|refine Kf ?_|intro _|constructor
 refine T1.callv rfl rfl rfl rfl rfl (Z3h hs) ?_
 rintro _ _ ⟨p3,c3,p4,c4,rfl,rfl⟩
 repeat' first|refine Kf ?_|intro _|constructor
 refine Ku rfl (Zzo (v1:=.slice p1 (qud r.num.natAbs).length c1) (v2:=.slice p2 (qud (r.den:Int).natAbs).length c2) (v3:=.slice p3 (qud s.num.natAbs).length c3) (v4:=.slice p4 (qud (s.den:Int).natAbs).length c4) hr hs) ?_
 repeat' first|refine Kf ?_|intro _|constructor
 exact Kv
end Go.Proofs.YtbfgldlfciimiaaGreatDoor
