/- Walks: the reference on fractions: texts of drafted fractions (some text comes out). -/
import Derived.Test.YtciadfpomkdlnaaGreatDoorFp3
import Derived.Test.YtciadfpomkdlnaaGreatDoorCd1
set_option maxHeartbeats 1000000
namespace Go.Sx
open Go
theorem Zil {a b k:Nat} (hk:0 < k) (h:a≤b) (hb:Lib.nDigits b≤k):Lib.nDigits a≤k:=Zb9 hk (Nat.lt_of_le_of_lt h (Zam hb))
theorem Zc8 {z:Int} {k:Nat} (h:Lib.nDigits z.natAbs≤k):(textI z).length≤k+1:=by
 rw [Zfv];split<;>omega
end Go.Sx
namespace Go.Proofs.YtciadfpomkdlnaaGreatDoor
open Go Go.Sx
variable {w0:World} {As:List Ent}
theorem Znm {v1 v2:Value} {z:Rat} [RdIn As v1 Nat (cN .i64) (qud z.num.natAbs)] [RdIn As v2 Nat (cN .i64) (qud (z.den:Int).natAbs)] (hz:Fit 900 z) :
  CallsS Tryz.prog w0 72 [.agg #[.bool (decide (z.num < 0)),v1,.bool (decide ((z.den:Int) < 0)),v2]] As (PlainR As ((z+mkRat 1 2).floor)):=by
 refine Zad v1 fun p1 c1 e1=>Zad v2 fun p2 c2 e2=>?_
 subst e1 e2
 have h0:=den_mul z (mkRat 1 2)
 have hq:=Zsj z (mkRat 1 2)
 have l3:(qud (mkRat 1 2).num.natAbs).length≤5:=Zaj (by decide +kernel)
 have l4:(qud ((mkRat 1 2).den:Int).natAbs).length≤5:=Zaj (by decide +kernel)
 obtain ⟨l1,l2⟩:=hz.qud
 rw [← Int.natAbs_natCast z.den] at l2
 obtain ⟨l5,l6⟩:=(hz.add (Zct (z:=1) (d:=2) (k:=1) (by decide) (by decide) (by decide) (by decide))).qud
 rw [← Int.natAbs_natCast (z+mkRat 1 2).den] at l6
 refine Zab Tryz.func72 rfl Tryz.ntmps72 rfl ?_
 repeat' first|refine Kz ?_|intro _
 rename_i b1 b2
 refine Zbg [.cl b1 [.bool (decide (z.num < 0)),.slice p1 (qud z.num.natAbs).length c1,.bool (decide ((z.den:Int) < 0)),.slice p2 (qud (z.den:Int).natAbs).length c2] 117] [] (.take 0 (.all [(1,.all [(2,.all [(3,.all [(4,.done)])])])])) ?_
 repeat' first|refine Kf ?_|intro _|constructor
 refine T1.callv rfl rfl rfl rfl rfl (Q.Zko (x:=1) (y:=2) (by decide) (by decide)) ?_
 rw [show ((2:Int).toNat)=2 from rfl]
 generalize mkRat 1 2=s at *
 rintro _ _ ⟨p3,c3,p4,c4,rfl,rfl⟩
 repeat' first|refine Kf ?_|intro _|constructor
 refine T1.callv rfl rfl rfl rfl rfl (Zox (v1:=.slice p1 (qud z.num.natAbs).length c1) (v2:=.slice p2 (qud (z.den:Int).natAbs).length c2) (v3:=.slice p3 (qud s.num.natAbs).length c3) (v4:=.slice p4 (qud (s.den:Int).natAbs).length c4) (n1:=z.num) (d1:=(z.den:Int)) (n2:=s.num) (d2:=(s.den:Int)) h0 hq (by omega) (by omega) (by omega) (by omega)) ?_
 generalize z+s=Z at *
 rintro _ _ ⟨p5,c5,p6,c6,rfl,rfl⟩
 repeat' first|refine Kf ?_|intro _|constructor
 refine T1.callv rfl rfl rfl rfl rfl (Zsy (v1:=.slice p5 (qud Z.num.natAbs).length c5) (v2:=.slice p6 (qud (Z.den:Int).natAbs).length c6) (n1:=Z.num) (d1:=(Z.den:Int)) (Int.ne_of_gt (den_pos Z)) (by omega) (by omega)) ?_
 rw [← Rat.floor_def]
 rintro _ _ ⟨p7,c7,rfl,rfl⟩
 repeat' first|refine Kf ?_|intro _|constructor
 (refine Zac ?_)
 exact ⟨_,⟨p7,c7,rfl,rfl⟩,Zaa⟩
set_option maxHeartbeats 8000000 in
theorem Zp3 {r:Rat} {n:Nat} (hr:Fit 40 r) (hn:n≤20):CallsS Tryz.prog w0 18 [.agg #[.string ⟨(tN r).toArray⟩,.string ⟨(tD r).toArray⟩],.int .i64 (n:Int)] As fun u Bs=>∃ (w:List UInt8) (e:Int),w.length≤300∧u=.tuple #[.string ⟨w.toArray⟩,.int .i64 e]∧Bs=As:=by
 have hr6:Fit 600 r:=hr.mono (by decide)
 obtain ⟨l1,l2⟩:=Zgb hr6
 have hT:((10:Int) ^ n).natAbs=10 ^ n:=by rw [Int.natAbs_pow];rfl
 have hT0:(0:Int) < (10:Int) ^ n:=Int.pow_pos (by decide)
 have hTl:(qud ((10:Int) ^ n).natAbs).length≤30:=by rw [hT];exact Nat.le_trans (Q.Zz2 n) (by omega)
 have l10:(qud (1:Int).natAbs).length≤1:=Zaj (by decide)
 have fk:Fit 22 (mkRat ((10:Int) ^ n) 1):=Zct (by decide) (by decide) (by rw [hT];exact Nat.pow_lt_pow_right (by decide) (by omega)) (by decide)
 have fm:=(hr.mul fk).mono (show 40+22≤900 by decide)
 have fz:=(hr.mul fk).add (Zct (z:=1) (d:=2) (k:=1) (by decide) (by decide) (by decide) (by decide))
 have h0:=den_mul r (mkRat ((10:Int) ^ n) 1)
 have hq:=Zyj r (mkRat ((10:Int) ^ n) 1)
 obtain ⟨l3,l4⟩:=Zgb (fk.mono (show 22≤600 by decide))
 have hmk:mkRat (if (1:Int) < 0 then -((10:Int) ^ n) else (10:Int) ^ n) (1:Int).natAbs=mkRat ((10:Int) ^ n) 1:=by rw [if_neg (by decide)];rfl
 have hmd:Lib.nDigits (r * mkRat ((10:Int) ^ n) 1+mkRat 1 2).floor.natAbs≤64:=by
  rw [Rat.floor_def]
  exact Zil (by decide) (Int.natAbs_ediv_le_natAbs _ _) fz.1
 have h20:¬ (20:Int) < (n:Int):=by omega
 have hnn:¬ (n:Int) < 0:=by omega
 refine Zab Tryz.func18 rfl Tryz.ntmps18 rfl ?_
 repeat' first|refine Kz ?_|intro _
 refine Ks rfl (Zp8 hr6) ?_
 repeat' first|refine Kz ?_|intro _
 refine TL.callv rfl rfl rfl rfl (Znr hr6) ?_
 rintro _ _ ⟨p1,c1,p2,c2,rfl,rfl⟩
 repeat' first|refine Kz ?_|intro _
 refine TL.callv rfl rfl rfl rfl (Q.Zy8 (n:=n) hn) ?_
 rintro _ _ ⟨p3,c3,rfl,rfl⟩
 repeat' first|refine Kz ?_|intro _
 refine TL.callv rfl rfl rfl rfl (Zaw (n:=1) (by decide) (by decide)) ?_
 rintro _ _ ⟨p4,c4,rfl,rfl⟩
 repeat' first|refine Kz ?_|intro _
 refine TL.callv rfl rfl rfl rfl (Q.Zl9 (v:=.slice p3 (qud ((10:Int) ^ n).natAbs).length c3) (o:=.slice p4 (qud (1:Int).natAbs).length c4) (x:=(10:Int) ^ n) (y:=1) (by decide) (by omega) (by omega)) ?_
 rw [hmk]
 generalize mkRat ((10:Int) ^ n) 1=k at *
 rintro _ _ ⟨p5,c5,p6,c6,rfl,rfl⟩
 repeat' first|refine Kz ?_|intro _
 refine TL.callv rfl rfl rfl rfl (Zrk (v1:=.slice p1 (qud r.num.natAbs).length c1) (v2:=.slice p2 (qud (r.den:Int).natAbs).length c2) (v3:=.slice p5 (qud k.num.natAbs).length c5) (v4:=.slice p6 (qud (k.den:Int).natAbs).length c6) (n1:=r.num) (d1:=(r.den:Int)) (n2:=k.num) (d2:=(k.den:Int)) h0 hq (by omega) (by omega) (by omega) (by omega)) ?_
 generalize r * k=Z at *
 rintro _ _ ⟨p7,c7,p8,c8,rfl,rfl⟩
 repeat' first|refine Kz ?_|intro _
 refine TL.callv rfl rfl rfl rfl (Znm (v1:=.slice p7 (qud Z.num.natAbs).length c7) (v2:=.slice p8 (qud (Z.den:Int).natAbs).length c8) (z:=Z) fm) ?_
 generalize (Z+mkRat 1 2).floor=m at *
 rintro _ _ ⟨p9,c9,rfl,rfl⟩
 repeat' first|refine Kz ?_|intro _
 rename_i b6
 refine Tri.mid (fun e' As'=>∃ sg:List UInt8,sg.length≤1∧e'=[(1,.int .i64 (n:Int)),(6,.pointer (some ⟨b6,0,none⟩)),(7,.string ⟨sg.toArray⟩)]∧As'=.cl b6 [.bool (decide (m < 0)),.slice p9 (qud m.natAbs).length c9] 115::.ft (rd (cN .i64) (.slice p9 (qud m.natAbs).length c9) (qud m.natAbs))::As) ?_ ?_
 ·(refine Kx (fun hc=>?_) fun hc=>?_)
  ·repeat' first|refine Kz ?_|intro _
   exact Post.cut _ _ ⟨[45],by decide,rfl,rfl⟩ Zae Zaa
  ·repeat' first|refine Kz ?_|intro _
   exact Post.cut _ _ ⟨[],by decide,rfl,rfl⟩ Zae Zaa
 rintro _ _ ⟨sg,hsg,rfl,rfl⟩
 repeat' first|refine Kz ?_|intro _
 obtain ⟨z,hz⟩:∃ z:Int,z=(m.natAbs:Int):=⟨_,rfl⟩
 have hza:m.natAbs=z.natAbs:=by omega
 rw [hza] at hmd ⊢
 have hz0:¬ z < 0:=by omega
 have hzl:=Zgm hmd
 have hdq:Lib.nDigits (z / (10:Int) ^ n).natAbs≤64:=Zil (by decide) (Int.natAbs_ediv_le_natAbs _ _) hmd
 have hdr:Lib.nDigits (z % (10:Int) ^ n).natAbs≤64:=Zil (by decide) (by
  have h1:=Int.emod_nonneg z (show (10:Int) ^ n≠0 by omega)
  have h2:z % (10:Int) ^ n≤z:=by
   have:=Int.emod_add_mul_ediv z ((10:Int) ^ n)
   have h3:0≤(10:Int) ^ n * (z / (10:Int) ^ n):=Int.mul_nonneg (by omega) (Int.ediv_nonneg (by omega) (by omega))
   omega
  omega) hmd
 refine Tri.mid (fun e' As'=>∃ p c p' c' b8 b9,e'=[(1,.int .i64 (n:Int)),(7,.string ⟨sg.toArray⟩),(8,.pointer (some ⟨b8,0,none⟩)),(9,.pointer (some ⟨b9,0,none⟩))]∧As'=.cl b8 [.bool (decide (z / (10:Int) ^ n < 0)),.slice p (qud (z / (10:Int) ^ n).natAbs).length c] 115::.cl b9 [.bool (decide (z % (10:Int) ^ n < 0)),.slice p' (qud (z % (10:Int) ^ n).natAbs).length c'] 115::.ft (rd (cN .i64) (.slice p (qud (z / (10:Int) ^ n).natAbs).length c) (qud (z / (10:Int) ^ n).natAbs))::.ft (rd (cN .i64) (.slice p' (qud (z % (10:Int) ^ n).natAbs).length c') (qud (z % (10:Int) ^ n).natAbs))::As) ?_ ?_
 ·have hpt:=fun Bs [RdIn Bs (.slice p9 (qud z.natAbs).length c9) Nat (cN .i64) (qud z.natAbs)] (pq:Option Addr) (cq:Nat) [RdIn Bs (.slice pq (qud ((10:Int) ^ n).natAbs).length cq) Nat (cN .i64) (qud ((10:Int) ^ n).natAbs)]=>Zf1 (w0:=w0) (As:=Bs) (v:=.slice p9 (qud z.natAbs).length c9) (o:=.slice pq (qud ((10:Int) ^ n).natAbs).length cq) (x:=z) (y:=(10:Int) ^ n) (by omega) (by omega) (by omega)
  rw [decide_eq_false hz0] at hpt
  refine Zbg [.cl b6 [.bool false,.slice p9 (qud z.natAbs).length c9] 115] [] (.take 0 (.take 1 (.all [(2,.all [(3,.take 4 (.take 5 (.take 6 (.all [(7,.all [(8,.all [(9,.all [(10,.done)])])]),(8,.all [(7,.all [(9,.all [(10,.done)])])])])))),(7,.all [(3,.take 4 (.take 5 (.take 6 (.all [(8,.all [(9,.all [(10,.done)])])])))),(8,.all [(3,.take 4 (.take 5 (.take 6 (.all [(9,.all [(10,.done)])]))))])]),(8,.all [(3,.take 4 (.take 5 (.take 6 (.all [(7,.all [(9,.all [(10,.done)])])])))),(7,.all [(3,.take 4 (.take 5 (.take 6 (.all [(9,.all [(10,.done)])]))))])])]),(7,.all [(2,.all [(3,.take 4 (.take 5 (.take 6 (.all [(8,.all [(9,.all [(10,.done)])])])))),(8,.all [(3,.take 4 (.take 5 (.take 6 (.all [(9,.all [(10,.done)])]))))])]),(8,.all [(2,.all [(3,.take 4 (.take 5 (.take 6 (.all [(9,.all [(10,.done)])]))))])])]),(8,.all [(2,.all [(3,.take 4 (.take 5 (.take 6 (.all [(7,.all [(9,.all [(10,.done)])])])))),(7,.all [(3,.take 4 (.take 5 (.take 6 (.all [(9,.all [(10,.done)])]))))])]),(7,.all [(2,.all [(3,.take 4 (.take 5 (.take 6 (.all [(9,.all [(10,.done)])]))))])])])]))) ?_
  repeat' first|refine Kf ?_|intro _|constructor
  repeat' (first|(refine T1.callv rfl rfl rfl rfl rfl (Q.Zy8 (n:=n) hn) ?_;rintro _ _ ⟨p10,c10,rfl,rfl⟩;(repeat' first|refine Kf ?_|intro _|constructor))|(refine T1.callv rfl rfl rfl rfl rfl (hpt _ p10 c10) ?_;rintro _ _ ⟨p11,c11,p12,c12,rfl,rfl⟩;(repeat' first|refine Kf ?_|intro _|constructor)))
  all_goals exact Post.cut _ _ ⟨p11,c11,p12,c12,_,_,rfl,rfl⟩ Zae Zaa
 rintro _ _ ⟨p11,c11,p12,c12,b8,b9,rfl,rfl⟩
 have lq:=Zgm hdq
 have lr:=Zgm hdr
 have hoq:outW (z / (10:Int) ^ n)=(textI (z / (10:Int) ^ n),0):=Zgq (Nat.le_trans hdq (by decide))
 have tq:=Zc8 hdq
 have tr:=Zc8 hdr
 generalize z / (10:Int) ^ n=q at *
 generalize z % (10:Int) ^ n=y at *
 repeat' first|refine Kz ?_|intro _
 refine TL.callv rfl rfl rfl rfl (Zic (v:=.slice p11 (qud q.natAbs).length c11) (z:=q) (by omega)) ?_
 rw [hoq]
 rintro _ _ ⟨rfl,rfl⟩
 generalize textI q=tQ at *
 simp only
 repeat' first|refine Kz ?_|intro _
 by_cases hn0:(n:Int)=0
 ·repeat' first|refine Kz ?_|intro _
  (refine Zac ?_)
  exact ⟨_,⟨sg++tQ,0,by rw [List.length_append];omega,rfl,rfl⟩,Zaa⟩
 repeat' first|refine Kz ?_|intro _
 refine Ks rfl (Zhm (v:=.slice p12 (qud y.natAbs).length c12) (z:=y) (by omega)) ?_
 generalize textI y=tY at *
 repeat' first|refine Kz ?_|intro _
 refine Tri.loop (ι:=List UInt8) (fun w=>w.length≤65) (fun w=>n - w.length) (fun w=>[(1,.int .i64 (n:Int)),(7,.string ⟨sg.toArray⟩),(10,.string ⟨tQ.toArray⟩),(12,.string ⟨w.toArray⟩)]) (fun _=>As) tY (by omega) Zae Zaa ?_
 rintro w hw
 replace hw:w.length≤65:=hw
 repeat' first|refine Kz ?_|intro _
 (refine Kx (fun hc=>?_) fun hc=>?_)
 ·repeat' first|refine Kz ?_|intro _
  exact Post.round ([48]++w) (by show ([48]++w).length≤65;rw [List.length_append];show 1+w.length≤65;omega) (by show n - ([48]++w).length < n - w.length;rw [List.length_append];show n - (1+w.length) < n - w.length;omega) Zae Zaa
 ·repeat' first|refine Kz ?_|intro _
  (refine Zac ?_)
  exact ⟨_,⟨sg++tQ++[46]++w,0,by simp only [List.length_append,List.length_cons,List.length_nil];omega,rfl,rfl⟩,Zaa⟩
end Go.Proofs.YtciadfpomkdlnaaGreatDoor
