/- Walks: the reference on fractions: ratios, texts. -/
import Derived.Test.YtciadfpomkdlnaaGreatDoorCp1
import Derived.Test.YtciadfpomkdlnaaGreatDoorVb5
set_option maxHeartbeats 1000000
namespace Go.Proofs.YtciadfpomkdlnaaGreatDoor.Q
open Go Go.Sx
variable {w0:World} {As:List Ent}
def RatP (As:List Ent) (r:Rat) (u:Value) (Bs:List Ent):Prop:=∃ p c q d,u=.agg #[.bool (decide (r.num < 0)),.slice p (qud r.num.natAbs).length c,.bool (decide ((r.den:Int) < 0)),.slice q (qud (r.den:Int).natAbs).length d] ∧
 Bs=.ft (rd (cN .i64) (.slice q (qud (r.den:Int).natAbs).length d) (qud (r.den:Int).natAbs))::.ft (rd (cN .i64) (.slice p (qud r.num.natAbs).length c) (qud r.num.natAbs))::As
theorem Zl9 {v o:Value} {x y:Int} [hf:FtIn As v Nat (cN .i64) (qud x.natAbs)] [hg:FtIn As o Nat (cN .i64) (qud y.natAbs)] (hy:y≠0) (ha:(qud x.natAbs).length≤10000) (hb:(qud y.natAbs).length≤10000) :
  CallsS Tryz.prog w0 74 [.agg #[.bool (decide (x < 0)),v],.agg #[.bool (decide (y < 0)),o]] As (RatP As (mkRat (if y < 0 then -x else x) y.natAbs)):=by
 refine Zad v fun pv cv hv=>Zad o fun po co ho=>?_
 subst hv ho
 obtain ⟨X,hX⟩:∃ X,X=if y < 0 then -x else x:=⟨_,rfl⟩
 rw [← hX]
 have hXa:X.natAbs=x.natAbs:=by rw [hX];split<;>omega
 refine Zab Tryz.func74 rfl Tryz.ntmps74 rfl ?_
 repeat' first|refine Kz ?_|intro _
 rename_i b2 b3 b4
 refine Tri.mid (fun e' As'=>∃ px cx py cy,e'=[(2,.pointer (some ⟨b2,0,none⟩)),(3,.pointer (some ⟨b3,0,none⟩)),(4,.pointer (some ⟨b4,0,none⟩))] ∧
  As'=.cl b2 [.bool (decide (X < 0)),.slice px (qud X.natAbs).length cx] 115::.cl b3 [.bool (decide ((y.natAbs:Int) < 0)),.slice py (qud (y.natAbs:Int).natAbs).length cy] 115 ::
   .ft (rd (cN .i64) (.slice px (qud X.natAbs).length cx) (qud X.natAbs))::.ft (rd (cN .i64) (.slice py (qud (y.natAbs:Int).natAbs).length cy) (qud (y.natAbs:Int).natAbs)) ::
   .cl b4 [.bool false,.slice none 0 0,.bool false,.slice none 0 0] 117::As) ?_ ?_
 ·by_cases hy0:y < 0
  ·have e1:-x=X:=by rw [hX,if_pos hy0]
   have e2:-y=(y.natAbs:Int):=by omega
   repeat' first|refine Kz ?_|intro _
   refine Zbg [] [(0,.c b2),(2,.c b3)] (.take 0 (.take 2 (.all [(1,.all [(3,.all [(4,.all [(5,.done)])])])]))) ?_
   repeat' first|refine Kf ?_|intro _|constructor
   iterate 2
    all_goals
     first
      | (refine T1.callv rfl rfl rfl rfl rfl (Zki (v:=.slice pv (qud x.natAbs).length cv) (x:=x) (by omega)) ?_
         rw [e1]
         rintro _ _ ⟨p1,c1,rfl,rfl⟩)
      | (refine T1.callv rfl rfl rfl rfl rfl (Zki (v:=.slice po (qud y.natAbs).length co) (x:=y) (by omega)) ?_
         rw [e2]
         rintro _ _ ⟨p2,c2,rfl,rfl⟩)
     repeat' first|refine Kf ?_|intro _|constructor
   all_goals exact Post.cut _ _ ⟨p1,c1,p2,c2,rfl,rfl⟩ Zae Zaa
  ·have e1:x=X:=by rw [hX,if_neg hy0]
   have e2:y=(y.natAbs:Int):=by omega
   subst e1
   repeat' first|refine Kz ?_|intro _
   refine Post.cut _ _ ⟨pv,cv,po,co,rfl,rfl⟩ Zae ?_
   rw [← e2]
   exact Ents.trans (Za2 (v:=.slice po (qud y.natAbs).length co)) (Ents.trans (Za2 (v:=.slice pv (qud x.natAbs).length cv)) Zaa)
 rintro _ _ ⟨px,cx,py,cy,rfl,rfl⟩
 have hY0:y.natAbs≠0:=by omega
 rw [← hXa] at ha
 clear hf hg hXa hX
 generalize y.natAbs=Y at hY0 hb ⊢
 obtain ⟨g,hg⟩:∃ g,g=Nat.gcd X.natAbs Y:=⟨_,rfl⟩
 have hg0:(g:Int)≠0:=by have:=Nat.gcd_pos_of_pos_right X.natAbs (Nat.pos_of_ne_zero hY0);omega
 have hgi:gcdI X (Y:Int)=(g:Int):=by rw [gcdI,Int.natAbs_natCast,hg]
 obtain ⟨r1,r2⟩:=Zdc (n:=X) hY0
 rw [← hg] at r1 r2
 have r3:(Y:Int) / (g:Int)=(((mkRat X Y).den:Nat):Int):=by rw [r2];rfl
 have lY:(qud (Y:Int).natAbs).length≤10000:=hb
 have lg:(qud (g:Int).natAbs).length≤10000:=by
  rw [Int.natAbs_natCast]
  exact Nat.le_trans (Zbq (by rw [hg];exact Nat.gcd_le_right _ (Nat.pos_of_ne_zero hY0))) hb
 repeat' first|refine Kz ?_|intro _
 refine TL.callv rfl rfl rfl rfl (Zfk (v:=.slice px (qud X.natAbs).length cx) (o:=.slice py (qud (Y:Int).natAbs).length cy) (x:=X) (y:=(Y:Int)) ha lY) ?_
 rw [hgi]
 rintro _ _ ⟨p5,c5,rfl,rfl⟩
 repeat' first|refine Kz ?_|intro _
 refine TL.callv rfl rfl rfl rfl (Zf1 (v:=.slice px (qud X.natAbs).length cx) (o:=.slice p5 (qud (g:Int).natAbs).length c5) (x:=X) (y:=(g:Int)) hg0 ha lg) ?_
 rw [← r1]
 rintro _ _ ⟨p6,c6,p7,c7,rfl,rfl⟩
 repeat' first|refine Kz ?_|intro _
 have eY:(Y:Int).natAbs=Y:=Int.natAbs_natCast Y
 refine TL.callv rfl rfl rfl rfl (Zf1 (v:=.slice py (qud (Y:Int).natAbs).length cy) (o:=.slice p5 (qud (g:Int).natAbs).length c5) (x:=(Y:Int)) (y:=(g:Int)) hg0 lY lg) ?_
 rw [r3]
 rintro _ _ ⟨p8,c8,p9,c9,rfl,rfl⟩
 repeat' first|refine Kz ?_|intro _
 (refine Zac ?_)
 exact ⟨_,⟨p6,c6,p8,c8,rfl,rfl⟩,Zaa⟩
end Go.Proofs.YtciadfpomkdlnaaGreatDoor.Q
namespace Go.Sx
open Go
structure D02 where
 n:D01
 d:D01
def D02.cells (x:D02):List Value:=x.n.cells++x.d.cells
def D02.ok (x:D02):Prop:=x.n.ok∧x.d.ok
theorem Zct {z:Int} {d k:Nat} (hk:0 < k) (h0:d≠0) (h1:z.natAbs < 10 ^ k) (h2:d < 10 ^ k):Fit k (mkRat z d):=by
 obtain ⟨e1,e2⟩:=Zdc (n:=z) h0
 refine Fit.of hk ?_ ?_
 ·rw [e1];exact Nat.lt_of_le_of_lt (Int.natAbs_ediv_le_natAbs _ _) h1
 ·rw [e2];exact Nat.lt_of_le_of_lt (Nat.div_le_self _ _) h2
theorem Zl3 {z:Int} (h:(outW z).2=0):(outW z).1=textI z:=by
 unfold outW at h ⊢
 by_cases hb:600 < Lib.nDigits z.natAbs
 ·rw [if_pos hb] at h;cases h
 ·rw [if_neg hb]
theorem Fit.qud {k:Nat} {r:Rat} (h:Fit k r):(qud r.num.natAbs).length≤k∧(qud r.den).length≤k:=by
 have h1:(10:Nat) ^ k≤10000 ^ k:=Nat.pow_le_pow_left (by decide) k
 exact ⟨Zaj (Nat.lt_of_lt_of_le (Zam h.1) h1),Zaj (Nat.lt_of_lt_of_le (Zam h.2) h1)⟩
end Go.Sx
namespace Go.Proofs.YtciadfpomkdlnaaGreatDoor.Q
open Go Go.Sx
variable {w0:World} {As:List Ent}
def FracE (k:Nat) (As:List Ent) (u:Value) (Bs:List Ent):Prop:=∃ r:Rat,Fit k r∧u=.agg #[.string ⟨(textI r.num).toArray⟩,.string ⟨(textI (r.den:Int)).toArray⟩]∧Bs=As
theorem Zks {v o:Value} {r:Rat} [hf:RdIn As v Nat (cN .i64) (qud r.num.natAbs)] [hg:RdIn As o Nat (cN .i64) (qud (r.den:Int).natAbs)] (ha:(qud r.num.natAbs).length≤100000000) (hb:(qud (r.den:Int).natAbs).length≤100000000) :
  CQ Tryz.prog w0 61 [.agg #[.bool (decide (r.num < 0)),v,.bool (decide ((r.den:Int) < 0)),o]] As (.tuple #[.agg #[.string ⟨(outF r).1.toArray⟩,.string ⟨(outF r).2.1.toArray⟩],.int .i64 (outF r).2.2]):=by
 refine Zad v fun pv cv hv=>Zad o fun po co ho=>?_
 subst hv ho
 refine Zab Tryz.func61 rfl Tryz.ntmps61 rfl ?_
 repeat' first|refine Kz ?_|intro _
 refine Ks rfl (Zic (v:=.slice pv (qud r.num.natAbs).length cv) (z:=r.num) ha) ?_
 repeat' first|refine Kz ?_|intro _
 refine Ks rfl (Zic (v:=.slice po (qud (r.den:Int).natAbs).length co) (z:=(r.den:Int)) hb) ?_
 by_cases h1:(outW r.num).2=0
 ·by_cases h2:(outW (r.den:Int)).2=0
  ·have e1:=Zl3 h1
   have e2:=Zl3 h2
   rw [outF,if_pos ⟨h1,h2⟩,← e1,← e2]
   generalize outW r.num=a at h1 ⊢
   generalize outW (r.den:Int)=b at h2 ⊢
   repeat' first|refine Kz ?_|intro _
   exact Kv
  ·rw [outF,if_neg (fun h=>h2 h.2)]
   generalize outW r.num=a at h1 ⊢
   generalize outW (r.den:Int)=b at h2 ⊢
   repeat' first|refine Kz ?_|intro _
   exact Kv
 ·rw [outF,if_neg (fun h=>h1 h.1)]
  generalize outW r.num=a at h1 ⊢
  generalize outW (r.den:Int)=b
  repeat' first|refine Kz ?_|intro _
  exact Kv
theorem Zko {x y:Int} (hx:-9223372036854775808≤x∧x≤9223372036854775807) (hy:0 < y∧y≤9223372036854775807) :
  CallsS Tryz.prog w0 62 [.int .i64 x,.int .i64 y] As (RatP As (mkRat x y.toNat)):=by
 have lx:(qud x.natAbs).length≤5:=Zaj (by omega)
 have ly:(qud y.natAbs).length≤5:=Zaj (by omega)
 refine Zab Tryz.func62 rfl Tryz.ntmps62 rfl ?_
 repeat' first|refine Kz ?_|intro _
 refine TL.call rfl rfl rfl (Zaw (n:=x) hx.1 hx.2) ?_
 rintro _ _ ⟨p1,c1,rfl,rfl⟩
 repeat' first|refine Kz ?_|intro _
 refine TL.call rfl rfl rfl (Zaw (n:=y) (by omega) hy.2) ?_
 rintro _ _ ⟨p2,c2,rfl,rfl⟩
 repeat' first|refine Kz ?_|intro _
 refine TL.callv rfl rfl rfl rfl (Zl9 (v:=.slice p1 (qud x.natAbs).length c1) (o:=.slice p2 (qud y.natAbs).length c2) (x:=x) (y:=y) (by omega) (by omega) (by omega)) ?_
 rw [if_neg (by omega),show y.natAbs=y.toNat by omega]
 rintro _ _ ⟨p3,c3,p4,c4,rfl,rfl⟩
 repeat' first|refine Kz ?_|intro _
 (refine Zac ?_)
 exact ⟨_,⟨p3,c3,p4,c4,rfl,rfl⟩,Zaa⟩
theorem Zfx (d:D01) [hr:RdIn As d.gv Nat (cN .u16) d.gs] (hd:d.ok) :
  CallsS Tryz.prog w0 60 [.agg d.cells.toArray] As fun u Bs=>∃ n:Int,-999999≤n∧n≤999999∧u=.int .i64 n∧Bs=As:=by
 obtain ⟨below,gv,gs,zeros⟩:=d
 obtain ⟨hg,hgl,hz⟩:=hd
 simp only at hg hgl hz
 replace hr:RdIn As gv Nat (cN .u16) gs:=hr
 refine Zad gv fun pg cg hgv=>?_
 subst hgv
 refine Zab Tryz.func60 rfl Tryz.ntmps60 rfl ?_
 show Tri _ _ _ _ (env0 0 [.agg #[.bool below,.slice pg gs.length cg,.int .u16 (zeros:Int)]]) _ _
 repeat' first|refine Kz ?_|intro _
 rename_i b1
 refine Tri.loop (ι:=Nat × Nat) (fun s=>s.1≤2∧s.1≤gs.length∧s.2 < 1000 ^ s.1) (fun s=>2 - s.1)
  (fun s=>[(1,.pointer (some ⟨b1,0,none⟩)),(3,.int .i64 (s.2:Int)),(4,.int .i64 (s.1:Int))])
  (fun _=>.cl b1 [.bool below,.slice pg gs.length cg,.int .u16 (zeros:Int)] 28::As)
  (0,0) ⟨by omega,by omega,by simp⟩ Zae Zaa ?_
 rintro ⟨k,n⟩ ⟨h1,h2,h3⟩
 simp only at h1 h2 h3
 show Tri _ _ _ _ [(1,_),(3,.int .i64 (n:Int)),(4,.int .i64 (k:Int))] _ _
 have hn:n < 1000000:=Nat.lt_of_lt_of_le h3 (Nat.le_trans (Nat.pow_le_pow_right (by omega) h1) (by decide))
 by_cases h4:(k:Int) < gs.length
 ·by_cases h5:(k:Int) < 2
  ·obtain ⟨g,hgk⟩:∃ g,gs[k]?=some g:=⟨_,List.getElem?_eq_getElem (by omega)⟩
   have hg9:=hg g (List.mem_of_getElem? hgk)
   repeat' first|refine Kz ?_|intro _
   have e:((n:Int) * 1000+(g:Int) % 1000)=((n * 1000+g % 1000:Nat):Int):=by omega
   have hlt:n * 1000+g % 1000 < 1000 ^ (k+1):=by rw [Nat.pow_succ];omega
   rw [e]
   exact Post.round (k+1,n * 1000+g % 1000) ⟨by simp only;omega,by simp only;omega,hlt⟩ (by simp only;omega) Zae Zaa
  ·cases below with
   | true =>
    repeat' first|refine Kz ?_|intro _
    (refine Zac ?_)
    exact ⟨_,⟨-(n:Int),by omega,by omega,rfl,rfl⟩,Zaa⟩
   | false =>
    repeat' first|refine Kz ?_|intro _
    (refine Zac ?_)
    exact ⟨_,⟨(n:Int),by omega,by omega,rfl,rfl⟩,Zaa⟩
 ·cases below with
  | true =>
   repeat' first|refine Kz ?_|intro _
   (refine Zac ?_)
   exact ⟨_,⟨-(n:Int),by omega,by omega,rfl,rfl⟩,Zaa⟩
  | false =>
   repeat' first|refine Kz ?_|intro _
   (refine Zac ?_)
   exact ⟨_,⟨(n:Int),by omega,by omega,rfl,rfl⟩,Zaa⟩
theorem Zru (x:D02) [hn:RdIn As x.n.gv Nat (cN .u16) x.n.gs] [hm:RdIn As x.d.gv Nat (cN .u16) x.d.gs] (hd:x.ok) :
  CallsS Tryz.prog w0 11 [.agg x.cells.toArray] As (FracE 3 As):=by
 obtain ⟨⟨below,gv,gs,zeros⟩,⟨below',gv',gs',zeros'⟩⟩:=x
 obtain ⟨hd1,hd2⟩:=hd
 replace hn:RdIn As gv Nat (cN .u16) gs:=hn
 replace hm:RdIn As gv' Nat (cN .u16) gs':=hm
 refine Zad gv fun pg cg hgv=>Zad gv' fun pg' cg' hgv'=>?_
 subst hgv hgv'
 refine Zab Tryz.func11 rfl Tryz.ntmps11 rfl ?_
 show Tri _ _ _ _ (env0 0 [.agg #[.bool below,.slice pg gs.length cg,.int .u16 (zeros:Int),.bool below',.slice pg' gs'.length cg',.int .u16 (zeros':Int)]]) _ _
 repeat' first|refine Kz ?_|intro _
 refine TL.callv rfl rfl rfl rfl (Zfx ⟨below',.slice pg' gs'.length cg',gs',zeros'⟩ hd2) ?_
 rintro _ _ ⟨m,m0,m1,rfl,rfl⟩
 repeat' first|refine Kz ?_|intro _
 rename_i b1 b2
 refine Tri.mid (fun e' As'=>∃ M:Int,0≤M∧M≤999999∧e'=[(1,.pointer (some ⟨b1,0,none⟩)),(2,.pointer (some ⟨b2,0,none⟩)),(3,.int .i64 M)] ∧
  As'=.cl b2 [.string ⟨#[]⟩,.string ⟨#[]⟩] 24::.cl b1 [.bool below,.slice pg gs.length cg,.int .u16 (zeros:Int),.bool below',.slice pg' gs'.length cg',.int .u16 (zeros':Int)] 30::As) ?_ ?_
 ·by_cases hm0:m < 0
  ·repeat' first|refine Kz ?_|intro _
   exact Post.cut _ _ ⟨-m,by omega,by omega,rfl,rfl⟩ Zae Zaa
  ·repeat' first|refine Kz ?_|intro _
   exact Post.cut _ _ ⟨m,by omega,by omega,rfl,rfl⟩ Zae Zaa
 rintro _ _ ⟨M,hM0,hM1,rfl,rfl⟩
 repeat' first|refine Kz ?_|intro _
 refine TL.callv rfl rfl rfl rfl (Zfx ⟨below,.slice pg gs.length cg,gs,zeros⟩ hd1) ?_
 rintro _ _ ⟨n,n0,n1,rfl,rfl⟩
 repeat' first|refine Kz ?_|intro _
 have ha:-1000 < n.tmod 1000∧n.tmod 1000 < 1000:=by
  have:=Int.natAbs_tmod n 1000
  have h2:(1000:Int).natAbs=1000:=rfl
  rw [h2] at this
  omega
 have hb:1≤1+M % 60∧1+M % 60≤60:=by omega
 generalize n.tmod 1000=a at ha ⊢
 generalize 1+M % 60=b at hb ⊢
 repeat' first|refine Kz ?_|intro _
 refine TL.callv rfl rfl rfl rfl (Zko (x:=a) (y:=b) (by omega) (by omega)) ?_
 rintro _ _ ⟨p3,c3,p4,c4,rfl,rfl⟩
 have hfit:Fit 3 (mkRat a b.toNat):=Zct (by decide) (by omega) (by omega) (by omega)
 generalize mkRat a b.toNat=r at hfit ⊢
 obtain ⟨lq1,lq2⟩:=hfit.qud
 repeat' first|refine Kz ?_|intro _
 refine TL.callv rfl rfl rfl rfl (Zks (v:=.slice p3 (qud r.num.natAbs).length c3) (o:=.slice p4 (qud (r.den:Int).natAbs).length c4) (r:=r) (by omega) (by rw [Int.natAbs_natCast];omega)) ?_
 rw [(hfit.mono (by decide)).out]
 rintro _ _ ⟨rfl,rfl⟩
 repeat' first|refine Kz ?_|intro _
 (refine Zac ?_)
 exact ⟨_,⟨r,hfit,rfl,rfl⟩,Zaa⟩
theorem Zua (x:D02) [hn:RdIn As x.n.gv Nat (cN .u16) x.n.gs] [hm:RdIn As x.d.gv Nat (cN .u16) x.d.gs] (hd:x.ok) :
  CallsS Tryz.prog w0 17 [.agg x.cells.toArray] As (FracE 5 As):=by
 obtain ⟨⟨below,gv,gs,zeros⟩,⟨below',gv',gs',zeros'⟩⟩:=x
 obtain ⟨hd1,hd2⟩:=hd
 replace hn:RdIn As gv Nat (cN .u16) gs:=hn
 replace hm:RdIn As gv' Nat (cN .u16) gs':=hm
 refine Zad gv fun pg cg hgv=>Zad gv' fun pg' cg' hgv'=>?_
 subst hgv hgv'
 refine Zab Tryz.func17 rfl Tryz.ntmps17 rfl ?_
 show Tri _ _ _ _ (env0 0 [.agg #[.bool below,.slice pg gs.length cg,.int .u16 (zeros:Int),.bool below',.slice pg' gs'.length cg',.int .u16 (zeros':Int)]]) _ _
 repeat' first|refine Kz ?_|intro _
 rename_i b1 b2
 refine Tri.mid (fun e' As'=>∃ n m:Int,-999999≤n∧n≤999999∧-999999≤m∧m≤999999∧e'=[(2,.pointer (some ⟨b2,0,none⟩)),(3,.int .i64 n),(4,.int .i64 m)] ∧
  As'=.cl b2 [.string ⟨#[]⟩,.string ⟨#[]⟩] 24::As) ?_ ?_
 ·refine Zau (.take 0 (.take 1 (.take 3 (.take 4 (.all [(2,.all [(5,.take 6 (.take 7 (.done)))])]))))) ?_
  repeat' first|refine Kf ?_|intro _|constructor
  iterate 2
   all_goals
    first
     | (refine T1.callv rfl rfl rfl rfl rfl (Zfx ⟨below,.slice pg gs.length cg,gs,zeros⟩ hd1) ?_
        rintro _ _ ⟨n,n0,n1,rfl,rfl⟩)
     | (refine T1.callv rfl rfl rfl rfl rfl (Zfx ⟨below',.slice pg' gs'.length cg',gs',zeros'⟩ hd2) ?_
        rintro _ _ ⟨m,m0,m1,rfl,rfl⟩)
    repeat' first|refine Kf ?_|intro _|constructor
  all_goals exact Post.cut _ _ ⟨n,m,n0,n1,m0,m1,rfl,rfl⟩ Zae Zaa
 rintro _ _ ⟨n,m,n0,n1,m0,m1,rfl,rfl⟩
 repeat' first|refine Kz ?_|intro _
 refine Tri.mid (fun e' As'=>∃ N:Int,0≤N∧N≤999999∧e'=[(2,.pointer (some ⟨b2,0,none⟩)),(3,.int .i64 N),(4,.int .i64 m)] ∧
  As'=.cl b2 [.string ⟨#[]⟩,.string ⟨#[]⟩] 24::As) ?_ ?_
 ·by_cases hm0:n < 0
  ·repeat' first|refine Kz ?_|intro _
   exact Post.cut _ _ ⟨-n,by omega,by omega,rfl,rfl⟩ Zae Zaa
  ·repeat' first|refine Kz ?_|intro _
   exact Post.cut _ _ ⟨n,by omega,by omega,rfl,rfl⟩ Zae Zaa
 rintro _ _ ⟨N,hN0,hN1,rfl,rfl⟩
 by_cases hm0:m < 0
 ·repeat' first|refine Kz ?_|intro _
  have ha:0≤N % 65536∧N % 65536 < 65536:=by omega
  obtain ⟨b,hb⟩:∃ b:Int,b=65535:=⟨_,rfl⟩
  generalize N % 65536=a at ha ⊢
  rw [← hb]
  refine TL.callv rfl rfl rfl rfl (Zko (x:=a) (y:=b) (by omega) (by omega)) ?_
  rintro _ _ ⟨p3,c3,p4,c4,rfl,rfl⟩
  have hfit:Fit 5 (mkRat a b.toNat):=Zct (by decide) (by omega) (by omega) (by omega)
  generalize mkRat a b.toNat=r at hfit ⊢
  obtain ⟨lq1,lq2⟩:=hfit.qud
  repeat' first|refine Kz ?_|intro _
  refine TL.callv rfl rfl rfl rfl (Zks (v:=.slice p3 (qud r.num.natAbs).length c3) (o:=.slice p4 (qud (r.den:Int).natAbs).length c4) (r:=r) (by omega) (by rw [Int.natAbs_natCast];omega)) ?_
  rw [(hfit.mono (by decide)).out]
  rintro _ _ ⟨rfl,rfl⟩
  repeat' first|refine Kz ?_|intro _
  (refine Zac ?_)
  exact ⟨_,⟨r,hfit,rfl,rfl⟩,Zaa⟩
 ·repeat' first|refine Kz ?_|intro _
  have hb:1≤1+m % 60∧1+m % 60≤60:=by omega
  generalize 1+m % 60=b at hb ⊢
  repeat' first|refine Kz ?_|intro _
  have ha:0≤N % (b+1)∧N % (b+1) < b+1:=⟨Int.emod_nonneg _ (by omega),Int.emod_lt_of_pos _ (by omega)⟩
  generalize N % (b+1)=a at ha ⊢
  refine TL.callv rfl rfl rfl rfl (Zko (x:=a) (y:=b) (by omega) (by omega)) ?_
  rintro _ _ ⟨p3,c3,p4,c4,rfl,rfl⟩
  have hfit:Fit 5 (mkRat a b.toNat):=Zct (by decide) (by omega) (by omega) (by omega)
  generalize mkRat a b.toNat=r at hfit ⊢
  obtain ⟨lq1,lq2⟩:=hfit.qud
  repeat' first|refine Kz ?_|intro _
  refine TL.callv rfl rfl rfl rfl (Zks (v:=.slice p3 (qud r.num.natAbs).length c3) (o:=.slice p4 (qud (r.den:Int).natAbs).length c4) (r:=r) (by omega) (by rw [Int.natAbs_natCast];omega)) ?_
  rw [(hfit.mono (by decide)).out]
  rintro _ _ ⟨rfl,rfl⟩
  repeat' first|refine Kz ?_|intro _
  (refine Zac ?_)
  exact ⟨_,⟨r,hfit,rfl,rfl⟩,Zaa⟩
end Go.Proofs.YtciadfpomkdlnaaGreatDoor.Q
namespace Go.Proofs.YtciadfpomkdlnaaGreatDoor.Q
open Go Go.Sx
variable {w0:World} {As:List Ent}
theorem Zjk {b:Bool} {v:Value} {gs:List Nat} {z:Nat}:(⟨b,v,gs,z % 4⟩:D01).size < 10 ^ 40:=by
 have h1:=Ze2 gs 12
 have h3:(1000:Nat) ^ 12=10 ^ 36:=by rw [show (1000:Nat)=10 ^ 3 from rfl,← Nat.pow_mul]
 rw [h3] at h1
 show groupsD (gs.take 12) * 10 ^ (z % 4 % 501) < 10 ^ (36+4)
 exact Zjx h1 (by omega)
theorem Zsx (x:D02) [hn:RdIn As x.n.gv Nat (cN .u16) x.n.gs] [hm:RdIn As x.d.gv Nat (cN .u16) x.d.gs] (hd:x.ok) :
  CallsS Tryz.prog w0 19 [.agg x.cells.toArray] As (FracE 40 As):=by
 obtain ⟨⟨below,gv,gs,zeros⟩,⟨below',gv',gs',zeros'⟩⟩:=x
 obtain ⟨⟨hg1,hg2,hg3⟩,⟨hk1,hk2,hk3⟩⟩:=hd
 simp only at hg1 hg2 hg3 hk1 hk2 hk3
 replace hn:RdIn As gv Nat (cN .u16) gs:=hn
 replace hm:RdIn As gv' Nat (cN .u16) gs':=hm
 refine Zad gv fun pg cg hgv=>Zad gv' fun pg' cg' hgv'=>?_
 subst hgv hgv'
 refine Zab Tryz.func19 rfl Tryz.ntmps19 rfl ?_
 show Tri _ _ _ _ (env0 0 [.agg #[.bool below,.slice pg gs.length cg,.int .u16 (zeros:Int),.bool below',.slice pg' gs'.length cg',.int .u16 (zeros':Int)]]) _ _
 repeat' first|refine Kz ?_|intro _
 rename_i b1 b2
 refine Tri.mid (fun e' As'=>∃ b3 b4,e'=[(2,.pointer (some ⟨b2,0,none⟩)),(3,.pointer (some ⟨b3,0,none⟩)),(4,.pointer (some ⟨b4,0,none⟩))] ∧
  As'=.cl b3 [.bool below,.slice pg gs.length cg,.int .u16 (zeros:Int)] 28::.cl b4 [.bool below',.slice pg' gs'.length cg',.int .u16 (zeros':Int)] 28::.cl b2 [.string ⟨#[]⟩,.string ⟨#[]⟩] 24::As) ?_ ?_
 ·refine Zbg [.cl b1 [.bool below,.slice pg gs.length cg,.int .u16 (zeros:Int),.bool below',.slice pg' gs'.length cg',.int .u16 (zeros':Int)] 30] [] (.take 0 (.take 1 (.take 2 (.take 3 (.all [(4,.all [(5,.all [(6,.all [(7,.done)])])]),(5,.all [(4,.all [(6,.all [(7,.done)])])])]))))) ?_
  repeat' first|refine Kf ?_|intro _|constructor
  all_goals exact Post.cut _ _ ⟨_,_,rfl,rfl⟩ Zae Zaa
 rintro _ _ ⟨b3,b4,rfl,rfl⟩
 repeat' first|refine Kz ?_|intro _
 refine Tri.mid (fun e' As'=>e'=[(2,.pointer (some ⟨b2,0,none⟩)),(3,.pointer (some ⟨b3,0,none⟩)),(4,.pointer (some ⟨b4,0,none⟩))] ∧
  As'=.cl b3 [.bool below,.slice pg gs.length cg,.int .u16 ((zeros % 4:Nat):Int)] 28::.cl b4 [.bool below',.slice pg' gs'.length cg',.int .u16 ((zeros' % 4:Nat):Int)] 28::.cl b2 [.string ⟨#[]⟩,.string ⟨#[]⟩] 24::As) ?_ ?_
 ·refine Zbg [] [(1,.c b3),(4,.c b4)] (.take 0 (.take 1 (.take 2 (.take 3 (.take 4 (.take 5 (.take 6 (.all [(7,.take 8 (.all [(9,.done)]))])))))))) ?_
  repeat' first|refine Kf ?_|intro _|constructor
  all_goals
   rw [show (zeros:Int) % 4=((zeros % 4:Nat):Int) by omega,show (zeros':Int) % 4=((zeros' % 4:Nat):Int) by omega]
   exact Post.cut _ _ ⟨rfl,rfl⟩ Zae Zaa
 rintro _ _ ⟨rfl,rfl⟩
 obtain ⟨X,hX⟩:∃ X:Int,X=D01.num ⟨below,.slice pg gs.length cg,gs,zeros % 4⟩:=⟨_,rfl⟩
 obtain ⟨Y,hY⟩:∃ Y:Int,Y=D01.num ⟨below',.slice pg' gs'.length cg',gs',zeros' % 4⟩:=⟨_,rfl⟩
 have wX:∀ {Bs:List Ent} [RdIn Bs (.slice pg gs.length cg) Nat (cN .u16) gs],CallsS Tryz.prog w0 81 [.agg #[.bool below,.slice pg gs.length cg,.int .u16 ((zeros % 4:Nat):Int)]] Bs fun u Cs=>u=.string ⟨(textI X).toArray⟩∧Cs=Bs:=by
  intro Bs hi
  rw [hX]
  exact @Zll w0 Bs ⟨below,.slice pg gs.length cg,gs,zeros % 4⟩ hi ⟨hg1,hg2,by show zeros % 4≤_;omega⟩
 have wY:∀ {Bs:List Ent} [RdIn Bs (.slice pg' gs'.length cg') Nat (cN .u16) gs'],CallsS Tryz.prog w0 81 [.agg #[.bool below',.slice pg' gs'.length cg',.int .u16 ((zeros' % 4:Nat):Int)]] Bs fun u Cs=>u=.string ⟨(textI Y).toArray⟩∧Cs=Bs:=by
  intro Bs hi
  rw [hY]
  exact @Zll w0 Bs ⟨below',.slice pg' gs'.length cg',gs',zeros' % 4⟩ hi ⟨hk1,hk2,by show zeros' % 4≤_;omega⟩
 have nX:X.natAbs < 10 ^ 40:=by rw [hX,D01.natAbs];exact Zjk
 have nY:Y.natAbs < 10 ^ 40:=by rw [hY,D01.natAbs];exact Zjk
 have dX:readW (textI X)=some X:=Za7 (by rw [hX];exact D01.digits _)
 have dY:readW (textI Y)=some Y:=Za7 (by rw [hY];exact D01.digits _)
 have qX:(qud X.natAbs).length≤40:=Zaj (Nat.lt_of_lt_of_le nX (Nat.pow_le_pow_left (by decide) 40))
 have qY:(qud Y.natAbs).length≤40:=Zaj (Nat.lt_of_lt_of_le nY (Nat.pow_le_pow_left (by decide) 40))
 clear hX hY
 repeat' first|refine Kz ?_|intro _
 refine Tri.mid (fun e' As'=>∃ p c q d b5 b6,e'=[(2,.pointer (some ⟨b2,0,none⟩)),(5,.pointer (some ⟨b5,0,none⟩)),(6,.pointer (some ⟨b6,0,none⟩))] ∧
  As'=.cl b5 [.bool (decide (X < 0)),.slice p (qud X.natAbs).length c] 115::.cl b6 [.bool (decide (Y < 0)),.slice q (qud Y.natAbs).length d] 115 ::
   .ft (rd (cN .i64) (.slice p (qud X.natAbs).length c) (qud X.natAbs))::.ft (rd (cN .i64) (.slice q (qud Y.natAbs).length d) (qud Y.natAbs))::.cl b2 [.string ⟨#[]⟩,.string ⟨#[]⟩] 24::As) ?_ ?_
 ·refine Zbg [.cl b3 [.bool below,.slice pg gs.length cg,.int .u16 ((zeros % 4:Nat):Int)] 28,.cl b4 [.bool below',.slice pg' gs'.length cg',.int .u16 ((zeros' % 4:Nat):Int)] 28] [] (.take 0 (.take 3 (.all [(1,.all [(2,.all [(4,.all [(5,.all [(6,.all [(7,.all [(8,.all [(9,.done)])])]),(7,.all [(6,.all [(8,.all [(9,.done)])])])]),(6,.all [(5,.all [(7,.all [(8,.all [(9,.done)])])]),(7,.all [(5,.all [(8,.all [(9,.done)])])])]),(7,.all [(5,.all [(6,.all [(8,.all [(9,.done)])])]),(6,.all [(5,.all [(8,.all [(9,.done)])])])])]),(6,.all [(4,.all [(5,.all [(7,.all [(8,.all [(9,.done)])])]),(7,.all [(5,.all [(8,.all [(9,.done)])])])]),(7,.all [(4,.all [(5,.all [(8,.all [(9,.done)])])])])]),(7,.all [(4,.all [(5,.all [(6,.all [(8,.all [(9,.done)])])]),(6,.all [(5,.all [(8,.all [(9,.done)])])])]),(6,.all [(4,.all [(5,.all [(8,.all [(9,.done)])])])])])]),(6,.all [(2,.all [(4,.all [(5,.all [(7,.all [(8,.all [(9,.done)])])]),(7,.all [(5,.all [(8,.all [(9,.done)])])])]),(7,.all [(4,.all [(5,.all [(8,.all [(9,.done)])])])])]),(7,.all [(2,.all [(4,.all [(5,.all [(8,.all [(9,.done)])])])])])]),(7,.all [(2,.all [(4,.all [(5,.all [(6,.all [(8,.all [(9,.done)])])]),(6,.all [(5,.all [(8,.all [(9,.done)])])])]),(6,.all [(4,.all [(5,.all [(8,.all [(9,.done)])])])])]),(6,.all [(2,.all [(4,.all [(5,.all [(8,.all [(9,.done)])])])])])])]),(6,.all [(1,.all [(2,.all [(4,.all [(5,.all [(7,.all [(8,.all [(9,.done)])])]),(7,.all [(5,.all [(8,.all [(9,.done)])])])]),(7,.all [(4,.all [(5,.all [(8,.all [(9,.done)])])])])]),(7,.all [(2,.all [(4,.all [(5,.all [(8,.all [(9,.done)])])])])])]),(7,.all [(1,.all [(2,.all [(4,.all [(5,.all [(8,.all [(9,.done)])])])])])])]),(7,.all [(1,.all [(2,.all [(4,.all [(5,.all [(6,.all [(8,.all [(9,.done)])])]),(6,.all [(5,.all [(8,.all [(9,.done)])])])]),(6,.all [(4,.all [(5,.all [(8,.all [(9,.done)])])])])]),(6,.all [(2,.all [(4,.all [(5,.all [(8,.all [(9,.done)])])])])])]),(6,.all [(1,.all [(2,.all [(4,.all [(5,.all [(8,.all [(9,.done)])])])])])])])]))) ?_
  repeat' first|refine Kf ?_|intro _|constructor
  iterate 4
   all_goals
    first
     | (refine T1.callv rfl rfl rfl rfl rfl wX ?_
        rintro _ _ ⟨rfl,rfl⟩)
     | (refine T1.callv rfl rfl rfl rfl rfl wY ?_
        rintro _ _ ⟨rfl,rfl⟩)
     | (refine T1.callv rfl rfl rfl rfl rfl (Zg8 dX) ?_
        rintro _ _ ⟨pA,cA,rfl,rfl⟩)
     | (refine T1.callv rfl rfl rfl rfl rfl (Zg8 dY) ?_
        rintro _ _ ⟨pB,cB,rfl,rfl⟩)
    repeat' first|refine Kf ?_|intro _|constructor
  all_goals exact Post.cut _ _ ⟨pA,cA,pB,cB,_,_,rfl,rfl⟩ Zae Zaa
 rintro _ _ ⟨p,c,q,d,b5,b6,rfl,rfl⟩
 repeat' first|refine Kz ?_|intro _
 refine Tri.mid (fun e' As'=>∃ (Z:Int) (q:Option Addr) (d:Nat),Z≠0∧Z.natAbs < 10 ^ 40∧(qud Z.natAbs).length≤40∧e'=[(2,.pointer (some ⟨b2,0,none⟩)),(5,.pointer (some ⟨b5,0,none⟩)),(6,.pointer (some ⟨b6,0,none⟩))] ∧
  As'=.cl b5 [.bool (decide (X < 0)),.slice p (qud X.natAbs).length c] 115::.cl b6 [.bool (decide (Z < 0)),.slice q (qud Z.natAbs).length d] 115 ::
   .ft (rd (cN .i64) (.slice p (qud X.natAbs).length c) (qud X.natAbs))::.ft (rd (cN .i64) (.slice q (qud Z.natAbs).length d) (qud Z.natAbs))::.cl b2 [.string ⟨#[]⟩,.string ⟨#[]⟩] 24::As) ?_ ?_
 ·by_cases h0:Y=0
  ·have hz:(qud Y.natAbs).length=0:=by rw [h0];exact Zuo.2 rfl
   have hz':((qud Y.natAbs).length:Int)=0:=by omega
   repeat' first|refine Kz ?_|intro _
   refine TL.call rfl rfl rfl (Zaw (n:=1) (by omega) (by omega)) ?_
   rintro _ _ ⟨p9,c9,rfl,rfl⟩
   repeat' first|refine Kz ?_|intro _
   exact Post.cut _ _ ⟨1,p9,c9,by decide,by decide,Zaj (by decide),rfl,rfl⟩ Zae Zaa
  ·have hz:(qud Y.natAbs).length≠0:=fun h=>h0 (by have:=Zuo.1 h;omega)
   have hz':¬ ((qud Y.natAbs).length:Int)=0:=by omega
   repeat' first|refine Kz ?_|intro _
   exact Post.cut _ _ ⟨Y,q,d,h0,nY,qY,rfl,rfl⟩ Zae Zaa
 rintro _ _ ⟨Z,q,d,hZ,nZ,qZ,rfl,rfl⟩
 repeat' first|refine Kz ?_|intro _
 refine TL.callv rfl rfl rfl rfl (Zl9 (v:=.slice p (qud X.natAbs).length c) (o:=.slice q (qud Z.natAbs).length d) (x:=X) (y:=Z) hZ (by omega) (by omega)) ?_
 rintro _ _ ⟨p3,c3,p4,c4,rfl,rfl⟩
 have hfit:Fit 40 (mkRat (if Z < 0 then -X else X) Z.natAbs):=Zct (by decide) (by omega) (by split<;>omega) nZ
 generalize mkRat (if Z < 0 then -X else X) Z.natAbs=r at hfit ⊢
 obtain ⟨lq1,lq2⟩:=hfit.qud
 repeat' first|refine Kz ?_|intro _
 refine TL.callv rfl rfl rfl rfl (Zks (v:=.slice p3 (qud r.num.natAbs).length c3) (o:=.slice p4 (qud (r.den:Int).natAbs).length c4) (r:=r) (by omega) (by rw [Int.natAbs_natCast];omega)) ?_
 rw [(hfit.mono (by decide)).out]
 rintro _ _ ⟨rfl,rfl⟩
 repeat' first|refine Kz ?_|intro _
 (refine Zac ?_)
 exact ⟨_,⟨r,hfit,rfl,rfl⟩,Zaa⟩
end Go.Proofs.YtciadfpomkdlnaaGreatDoor.Q
