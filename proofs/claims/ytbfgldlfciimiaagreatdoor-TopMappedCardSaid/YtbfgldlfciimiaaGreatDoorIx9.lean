/- Walks: inside: where a ray meets a face. -/
import Derived.Test.YtbfgldlfciimiaaGreatDoorIx7
import Derived.Test.YtbfgldlfciimiaaGreatDoorSxP
set_option maxHeartbeats 1000000
namespace Go.Sx
open Go
theorem Zs3 {a b c d:V3} (hd:d≠V3.zero) (h0:det3 a b c≠0) (hm:¬ ((det3 d b c).sign * (det3 a b c).sign < 0∨(det3 a d c).sign * (det3 a b c).sign < 0∨(det3 a b d).sign * (det3 a b c).sign < 0)) :
  det3 d b c+det3 a d c+det3 a b d≠0:=by
 simp only [Zp1] at hm
 obtain ⟨c1,c2,c3⟩:=Zrc a b c d
 intro hT
 have e:det3 d b c * det3 a b c+det3 a d c * det3 a b c+det3 a b d * det3 a b c=0:=by rw [← Int.add_mul,← Int.add_mul,hT,Int.zero_mul]
 have z1:det3 d b c=0:=(Int.mul_eq_zero.1 (show det3 d b c * det3 a b c=0 by omega)).resolve_right h0
 have z2:det3 a d c=0:=(Int.mul_eq_zero.1 (show det3 a d c * det3 a b c=0 by omega)).resolve_right h0
 have z3:det3 a b d=0:=(Int.mul_eq_zero.1 (show det3 a b d * det3 a b c=0 by omega)).resolve_right h0
 rw [z1,z2,z3] at c1 c2 c3
 simp only [Int.zero_mul,Int.add_zero,Int.mul_eq_zero] at c1 c2 c3
 apply hd
 obtain ⟨x,y,w⟩:=d
 simp only at c1 c2 c3
 rw [c1.resolve_left h0,c2.resolve_left h0,c3.resolve_left h0];rfl
def MetR (As:List Ent) (o:Option Rat) (r:Value) (Bs:List Ent):Prop :=
 (∃ x y:List UInt8,r=.tuple #[.agg #[.string ⟨x.toArray⟩,.string ⟨y.toArray⟩],.bool o.isSome]∧∀ t,o=some t→x=tN t∧y=tD t)∧Bs=As
theorem MetR.some {As:List Ent} {t:Rat}:MetR As (some t) (.tuple #[.agg #[.string ⟨(tN t).toArray⟩,.string ⟨(tD t).toArray⟩],.bool true]) As:=⟨⟨_,_,rfl,fun s h=>by cases h;exact ⟨rfl,rfl⟩⟩,rfl⟩
theorem MetR.none {As:List Ent} {x y:List UInt8}:MetR As none (.tuple #[.agg #[.string ⟨x.toArray⟩,.string ⟨y.toArray⟩],.bool false]) As:=⟨⟨_,_,rfl,fun s h=>by cases h⟩,rfl⟩
end Go.Sx
namespace Go.Proofs.YtbfgldlfciimiaaGreatDoor
open Go Go.Sx
variable {w0:World} {As:List Ent}
set_option maxRecDepth 100000 in
set_option maxHeartbeats 8000000 in
theorem Ya9 (ht:Tab w0) {q:Bool} {a b c d:V3} (ha:a.in 400000) (hb:b.in 400000) (hc:c.in 400000) (hd:d.in 400000) (hd0:d≠V3.zero) :
  CallsS Tryz.prog w0 163 [triV a b c,spnV (path0 q),d.val] As (MetR As (metP q a b c d)):=by
 have hd3:d.in 3243601:=Zkf hd (by decide)
 have bD:=Zky (l:=400000) (m:=400000) (n:=400000) (by decide) (by decide) (by decide) ha hb hc
 have g1:=Zky (l:=400000) (m:=400000) (n:=400000) (by decide) (by decide) (by decide) hd hb hc
 have g2:=Zky (l:=400000) (m:=400000) (n:=400000) (by decide) (by decide) (by decide) ha hd hc
 have g3:=Zky (l:=400000) (m:=400000) (n:=400000) (by decide) (by decide) (by decide) ha hb hd
 have m1:=Zif (B:=1) (Zh5 (det3 d b c)) (Zh5 (det3 a b c))
 have m2:=Zif (B:=1) (Zh5 (det3 a d c)) (Zh5 (det3 a b c))
 have m3:=Zif (B:=1) (Zh5 (det3 a b d)) (Zh5 (det3 a b c))
 refine Zab Tryz.func163 rfl Tryz.ntmps163 rfl ?_
 show Tri _ _ _ _ (env0 0 [.agg #[.int .i64 a.x,.int .i64 a.y,.int .i64 a.z,.int .i64 b.x,.int .i64 b.y,.int .i64 b.z,.int .i64 c.x,.int .i64 c.y,.int .i64 c.z],.agg #[.string ⟨(tN 0).toArray⟩,.string ⟨(tD 0).toArray⟩,.string ⟨(tN 1).toArray⟩,.string ⟨(tD 1).toArray⟩,.bool q],.agg #[.int .i64 d.x,.int .i64 d.y,.int .i64 d.z]]) _ _
 repeat' first|refine Kz ?_|intro _
 refine Ks rfl (Zmt (a:=a) (b:=b) (c:=c) ha hb hc (by decide) (by decide) (by decide)) ?_
 repeat' first|refine Kz ?_|intro _
 refine Ks rfl (Zo3 (a:=a) (b:=b) (c:=c) (d:=d) ha hb hc hd3) ?_
 show TL _ _ _ _ _ ((_,.agg #[.int .i64 (det3 d b c),.int .i64 (det3 a d c),.int .i64 (det3 a b d)])::_) _ _
 by_cases hD:det3 a b c=0
 ·have hmet:metP q a b c d=if (nrm a b c).dot d≠0 then (if onT axP a b c then some 0 else none) else (cut3S (path0 q) (axP (nrm a b c)) (nrm a b c) a b c d).map (·.low):=by
   unfold metP onT
   rw [if_neg (fun h=>h hD)]
  rw [hmet]
  clear hmet m1 m2 m3
  have bn:(nrm a b c).in (2 * (800000 * 800000)):=Zd8 (by decide) (by decide) (Zdy hb ha) (Zdy hc ha)
  have bd:=Zv1 (by decide) (by decide) bn hd
  generalize det3 d b c=s1 at *
  generalize det3 a d c=s2 at *
  generalize det3 a b d=s3 at *
  generalize det3 a b c=D at *
  repeat' first|refine Kz ?_|intro _
  refine Zao 4 ?_
  repeat' first|refine Kz ?_|intro _
  refine Ks rfl (Zo4 (a:=a) (b:=b) (c:=c) ha hb hc (by decide) (by decide) (by decide)) ?_
  have hdot:(nrm a b c).dot d=(nrm a b c).x * d.x+(nrm a b c).y * d.y+(nrm a b c).z * d.z:=rfl
  have hwith:=fun (Bs:List Ent)=>Zo2 (As:=Bs) ht (s:=path0 q) (a:=a) (b:=b) (c:=c) (d:=d) (Zqd q) ha hb hc hd3
  generalize cut3S (path0 q) (axP (nrm a b c)) (nrm a b c) a b c d=O at hwith ⊢
  generalize nrm a b c=n at *
  show TL _ _ _ _ _ ((_,.agg #[.int .i64 n.x,.int .i64 n.y,.int .i64 n.z])::_) _ _
  by_cases hnd:n.dot d=0
  ·rw [if_neg (fun h=>h hnd)]
   rw [hdot] at hnd
   repeat' first|refine Kz ?_|intro _
   refine Ks rfl (hwith _) ?_
   cases O with
   | none =>
    show TL _ _ _ _ _ ((_,.tuple #[.agg #[.string ⟨([]:List UInt8).toArray⟩,.string ⟨([]:List UInt8).toArray⟩,.string ⟨([]:List UInt8).toArray⟩,.string ⟨([]:List UInt8).toArray⟩,.bool false],.bool false])::_) _ _
    repeat' first|refine Kz ?_|intro _
    (refine Zac ?_)
    exact ⟨_,MetR.none (x:=[]) (y:=[]),Zaa⟩
   | some t =>
    show TL _ _ _ _ _ ((_,.tuple #[.agg #[.string ⟨(tN t.low).toArray⟩,.string ⟨(tD t.low).toArray⟩,.string ⟨(tN t.high).toArray⟩,.string ⟨(tD t.high).toArray⟩,.bool t.opn],.bool true])::_) _ _
    repeat' first|refine Kz ?_|intro _
    (refine Zac ?_)
    exact ⟨_,MetR.some (t:=t.low),Zaa⟩
  ·rw [if_pos hnd]
   rw [hdot] at hnd
   repeat' first|refine Kz ?_|intro _
   rename_i b3 b4 b5 b6 b13
   refine Zag [.cl b3 [.int .i64 a.x,.int .i64 a.y,.int .i64 a.z,.int .i64 b.x,.int .i64 b.y,.int .i64 b.z,.int .i64 c.x,.int .i64 c.y,.int .i64 c.z] 144,.cl b4 [.string ⟨(tN 0).toArray⟩,.string ⟨(tD 0).toArray⟩,.string ⟨(tN 1).toArray⟩,.string ⟨(tD 1).toArray⟩,.bool q] 179] [] (.take 0 (.take 1 (.take 2 (.all [(3,.all [(4,.take 5 (.done))])])))) ?_
   repeat' first|refine Kf ?_|intro _|constructor
   refine Ku rfl (Zs9 ht (a:=a) (b:=b) (c:=c) ha hb hc) ?_
   repeat' first|refine Kf ?_|intro _|constructor
   cases hv:onT axP a b c with
   | true =>
    rw [if_pos rfl]
    (refine Zac ?_)
    exact ⟨_,MetR.some (t:=0),Zaa⟩
   | false =>
    rw [if_neg (by decide)]
    (refine Zac ?_)
    exact ⟨_,MetR.none (x:=tN 0) (y:=tD 0),Zaa⟩
 ·have hD':(det3 a b c).sign≠0:=by rw [ne_eq,Int.sign_eq_zero_iff_zero];exact hD
  have hmt:=Zs3 hd0 hD
  unfold metP
  rw [if_pos hD]
  generalize det3 d b c=s1 at *
  generalize det3 a d c=s2 at *
  generalize det3 a b d=s3 at *
  generalize det3 a b c=D at *
  repeat' first|refine Kz ?_|intro _
  refine Zao 4 ?_
  repeat' first|refine Kz ?_|intro _
  refine Kt rfl Zb1 ?_
  repeat' first|refine Kz ?_|intro _
  refine Kt rfl Zb1 ?_
  by_cases q1:s1.sign * D.sign < 0
  ·rw [if_pos (.inl q1)]
   repeat' first|refine Kz ?_|intro _
   (refine Zac ?_)
   exact ⟨_,MetR.none (x:=[]) (y:=[]),Zaa⟩
  repeat' first|refine Kz ?_|intro _
  refine Kt rfl Zb1 ?_
  repeat' first|refine Kz ?_|intro _
  refine Kt rfl Zb1 ?_
  by_cases q2:s2.sign * D.sign < 0
  ·rw [if_pos (.inr (.inl q2))]
   repeat' first|refine Kz ?_|intro _
   (refine Zac ?_)
   exact ⟨_,MetR.none (x:=[]) (y:=[]),Zaa⟩
  repeat' first|refine Kz ?_|intro _
  refine Kt rfl Zb1 ?_
  repeat' first|refine Kz ?_|intro _
  refine Kt rfl Zb1 ?_
  by_cases q3:s3.sign * D.sign < 0
  ·rw [if_pos (.inr (.inr q3))]
   repeat' first|refine Kz ?_|intro _
   (refine Zac ?_)
   exact ⟨_,MetR.none (x:=[]) (y:=[]),Zaa⟩
  repeat' first|refine Kz ?_|intro _
  have hno:¬ (s1.sign * D.sign < 0∨s2.sign * D.sign < 0∨s3.sign * D.sign < 0):=by omega
  rw [if_neg hno]
  have hT:=hmt hno
  clear hmt hno q1 q2 q3 m1 m2 m3
  have e0:(0:Int)+s1+s2+s3=s1+s2+s3:=by omega
  rw [e0]
  refine Ks rfl (Zg0 ht (n:=D) (d:=s1+s2+s3) (by omega) (by omega) hT) ?_
  repeat' first|refine Kz ?_|intro _
  refine Kt rfl Zlj ?_
  have fq:Fit 600 (qI D (s1+s2+s3)):=(Zmy (by omega) (by omega) hT).mono (by decide)
  generalize qI D (s1+s2+s3)=u at fq ⊢
  repeat' first|refine Kz ?_|intro _
  rename_i b3 b4 b5 b6 b12
  cases q with
  | true =>
   rw [if_pos (.inl rfl)]
   refine Zag [.cl b12 [.string ⟨(tN u).toArray⟩,.string ⟨(tD u).toArray⟩] 47,.cl b4 [.string ⟨(tN 0).toArray⟩,.string ⟨(tD 0).toArray⟩,.string ⟨(tN 1).toArray⟩,.string ⟨(tD 1).toArray⟩,.bool true] 179] [] (.take 0 (.take 1 (.take 2 (.take 3 (.take 4 (.take 5 (.take 6 (.all [(7,.take 8 (.take 9 (.all [(10,.take 11 (.take 12 (.all [(13,.take 14 (.done))])))])))])))))))) ?_
   repeat' first|refine Kf ?_|intro _|constructor
   (refine Zac ?_)
   exact ⟨_,MetR.some (t:=u),Zaa⟩
  | false =>
   refine Zag [.cl b12 [.string ⟨(tN u).toArray⟩,.string ⟨(tD u).toArray⟩] 47,.cl b4 [.string ⟨(tN 0).toArray⟩,.string ⟨(tD 0).toArray⟩,.string ⟨(tN 1).toArray⟩,.string ⟨(tD 1).toArray⟩,.bool false] 179] [] (.take 0 (.take 1 (.take 2 (.take 3 (.take 4 (.take 5 (.take 6 (.all [(7,.take 8 (.take 9 (.all [(10,.take 11 (.take 12 (.all [(13,.take 14 (.done))])))])))])))))))) ?_
   repeat' first|refine Kf ?_|intro _|constructor
   refine Ku rfl (Zcs (r:=u) (s:=1) fq (fit1.mono (by decide))) ?_
   repeat' first|refine Kf ?_|intro _|constructor
   refine Ku rfl Zcr ?_
   have hor:=@Zqh u 1
   by_cases hu:u≤1
   ·have ho:ordQ u 1≤0:=by
     have:¬ 0 < ordQ u 1:=fun h=>Rat.not_lt.2 hu (hor.1 h)
     omega
    rw [if_pos (.inr hu)]
    generalize ordQ u 1=O at ho ⊢
    repeat' first|refine Kf ?_|intro _|constructor
    (refine Zac ?_)
    refine ⟨As,?_,Zaa⟩
    rw [decide_eq_true ho]
    exact MetR.some (t:=u)
   ·have ho:¬ ordQ u 1≤0:=by
     have:=hor.2 (Rat.not_le.1 hu)
     omega
    rw [if_neg (fun h=>by rcases h with h|h;cases h;exact hu h)]
    generalize ordQ u 1=O at ho ⊢
    repeat' first|refine Kf ?_|intro _|constructor
    (refine Zac ?_)
    refine ⟨As,?_,Zaa⟩
    rw [decide_eq_false ho]
    exact MetR.none (x:=tN u) (y:=tD u)
end Go.Proofs.YtbfgldlfciimiaaGreatDoor
namespace Go.Sx
open Go
theorem Z4a {s t:Spn} {a b c d:V3} {κ:Nat} {n:V3} (hs:s.fit) (ha:a.in 400000) (hb:b.in 400000) (hc:c.in 400000) (hd:d.in 3243601) (h:cut3S s κ n a b c d=some t):t.fit:=by
 unfold cut3S at h
 rw [Option.bind_eq_some_iff] at h
 obtain ⟨s2,h2,h3⟩:=h
 rw [Option.bind_eq_some_iff] at h2
 obtain ⟨s1,h1,h2⟩:=h2
 have f1:=hs.cut (Zo7 ha hb) (Zo6 ha hb hd) h1
 have f2:=f1.cut (Zo7 hb hc) (Zo6 hb hc hd) h2
 exact f2.cut (Zo7 hc ha) (Zo6 hc ha hd) h3
theorem Zll {q:Bool} {a b c d:V3} {t:Rat} (ha:a.in 400000) (hb:b.in 400000) (hc:c.in 400000) (hd:d.in 400000) (hd0:d≠V3.zero) (h:metP q a b c d=some t):Fit 19 t:=by
 have hd3:d.in 3243601:=Zkf hd (by decide)
 unfold metP at h
 split at h
 ·rename_i hD
  split at h
  ·cases h
  ·rename_i hm
   split at h
   ·rw [← Option.some.inj h]
    have bD:=Zky (l:=400000) (m:=400000) (n:=400000) (by decide) (by decide) (by decide) ha hb hc
    have g1:=Zky (l:=400000) (m:=400000) (n:=400000) (by decide) (by decide) (by decide) hd hb hc
    have g2:=Zky (l:=400000) (m:=400000) (n:=400000) (by decide) (by decide) (by decide) ha hd hc
    have g3:=Zky (l:=400000) (m:=400000) (n:=400000) (by decide) (by decide) (by decide) ha hb hd
    exact Zmy (by omega) (by omega) (Zs3 hd0 hD hm)
   ·cases h
 ·split at h
  ·split at h
   ·rw [← Option.some.inj h];exact fit0
   ·cases h
  ·rw [Option.map_eq_some_iff] at h
   obtain ⟨s,h1,rfl⟩:=h
   exact (Z4a (Zqd q) ha hb hc hd3 h1).1
def bestC:Option (Rat × Nat)→List Value
 | none=>[.string ⟨#[]⟩,.string ⟨#[]⟩,.int .i64 (-1)]
 | some (t,j)=>[.string ⟨(tN t).toArray⟩,.string ⟨(tD t).toArray⟩,.int .i64 (j:Int)]
def bestFit:Option (Rat × Nat)→Prop
 | none=>True
 | some (t,_)=>Fit 19 t
theorem Z4m {b:Option (Rat × Nat)} {k:Nat} {o:Option Rat} (hb:bestFit b) (ho:∀ t,o=some t→Fit 19 t):bestFit (bestS b k o):=by
 unfold bestS
 cases o with
 | none=>exact hb
 | some t =>
  cases b with
  | none=>exact ho t rfl
  | some b =>
   obtain ⟨u,j⟩:=b
   simp only
   split
   ·exact ho t rfl
   ·exact hb
def meetV (t:Rat) (j:Nat):Value:=.agg #[.string ⟨(tN t).toArray⟩,.string ⟨(tD t).toArray⟩,.int .i64 (j:Int)]
end Go.Sx
namespace Go.Proofs.YtbfgldlfciimiaaGreatDoor
open Go Go.Sx
variable {w0:World} {As:List Ent} {pv fv:Value} {pts fcs:List V3}
def firE (As:List Ent) (o:Option (Rat × Nat)) (v:Value) (Bs:List Ent):Prop:=∃ t j,o=some (t,j)∧v=meetV t j∧Bs=As
def firT (As:List Ent) (o:Option (Rat × Nat)) (v:Value) (Bs:List Ent):Prop:=o=none∧v=failV 4∧Bs=As
set_option maxRecDepth 100000 in
set_option maxHeartbeats 4000000 in
theorem Z3i (ht:Tab w0) {q:Bool} {p d:V3} [RdIn As fv V3 cV3 fcs] [RdIn As pv V3 cV3 pts] (hs:Seeable pts fcs p) (hd:d.in 400000) (hd0:d≠V3.zero) :
  CallsE Tryz.prog w0 118 [.agg #[pv,fv],p.val,d.val,spnV (path0 q)] As
   (firE As (firstK (fun f=>metP q (relV pts p f.x) (relV pts p f.y) (relV pts p f.z) d) fcs fcs.length)) (firT As (firstK (fun f=>metP q (relV pts p f.x) (relV pts p f.y) (relV pts p f.z) d) fcs fcs.length)):=by
 refine Zn9 Tryz.func118 rfl Tryz.ntmps118 rfl ?_
 show Tri _ _ _ _ (env0 0 [.agg #[pv,fv],.agg #[.int .i64 p.x,.int .i64 p.y,.int .i64 p.z],.agg #[.int .i64 d.x,.int .i64 d.y,.int .i64 d.z],.agg #[.string ⟨(tN 0).toArray⟩,.string ⟨(tD 0).toArray⟩,.string ⟨(tN 1).toArray⟩,.string ⟨(tD 1).toArray⟩,.bool q]]) _ _
 have hlF:=hs.lenF
 obtain ⟨g,hg⟩:∃ g:V3→Option Rat,g=(fun f=>metP q (relV pts p f.x) (relV pts p f.y) (relV pts p f.z) d):=⟨_,rfl⟩
 rw [← hg]
 have hfit:∀ k,k≤fcs.length→bestFit (firstK g fcs k):=by
  intro k
  induction k with
  | zero=>intro _;exact trivial
  | succ k ih =>
   intro hk
   obtain ⟨f,hf⟩:∃ f,fcs[k]?=some f:=⟨_,List.getElem?_eq_getElem (by omega)⟩
   obtain ⟨n1,n2,n3⟩:=hs.rel (List.mem_of_getElem? hf)
   unfold firstK
   rw [hf,Option.bind_some]
   exact Z4m (ih (by omega)) fun t h=>Zll n1 n2 n3 hd hd0 (by rw [hg] at h;exact h)
 repeat' first|refine Kz ?_|intro _
 refine TL.f rfl rfl (ExF.build (vs:=[.int .i64 (-1)]) (l:=[.string ⟨#[]⟩,.string ⟨#[]⟩,.int .i64 (-1)]) rfl (fun w=>by kernel_rfl)) ?_
 repeat' first|refine Kz ?_|intro _
 refine TL.callv rfl rfl rfl rfl (Zuw (pv:=pv) (fv:=fv) (p:=p)) ?_
 rintro v Bs ⟨b,c,rfl,rfl⟩
 repeat' first|refine Kz ?_|intro _
 rename_i b4 b5 b6 b7 b8 b9
 refine Zdr rfl (fun pd As'=>pd=none∧As'=.cl b4 [pv,fv] 33::.cl b5 [.int .i64 p.x,.int .i64 p.y,.int .i64 p.z] 139::.cl b6 [.int .i64 d.x,.int .i64 d.y,.int .i64 d.z] 139::.cl b7 [.string ⟨(tN 0).toArray⟩,.string ⟨(tD 0).toArray⟩,.string ⟨(tN 1).toArray⟩,.string ⟨(tD 1).toArray⟩,.bool q] 179::.cl b8 [.string ⟨#[]⟩,.string ⟨#[]⟩,.int .i64 0] 198::.cl b9 (bestC (firstK g fcs fcs.length)) 198::As) ?_ ?_ ?_
 ·intro L l rb hL1 hL2 hL3 hL4 hL5 hok
  refine CallsS.ents ?_ (CallsS.mono (Zp2 (L:=L) (l:=l) (b:=b) (c:=c) (pv:=pv) (fv:=fv) (As:=As) (p:=p) (Y:=fun k=>[.ob rb (.deferred (some [])),.cl b4 [pv,fv] 33,.cl b5 [.int .i64 p.x,.int .i64 p.y,.int .i64 p.z] 139,.cl b6 [.int .i64 d.x,.int .i64 d.y,.int .i64 d.z] 139,.cl b7 [.string ⟨(tN 0).toArray⟩,.string ⟨(tD 0).toArray⟩,.string ⟨(tN 1).toArray⟩,.string ⟨(tD 1).toArray⟩,.bool q] 179,.cl b8 [.string ⟨#[]⟩,.string ⟨#[]⟩,.int .i64 0] 198,.cl b9 (bestC (firstK g fcs k)) 198])
   (I:=fun _=>True) (R:=fun _ _=>False) hs (by rw [hL3];rfl) trivial ?_) ?_)
  ·simp only [List.cons_append,List.nil_append]
   show Ents _ (_::_::_::_::_::_::_::.cl b9 [.string ⟨#[]⟩,.string ⟨#[]⟩,.int .i64 (-1)] _::_)
   (exact Zaa)
  ·intro k f hk hf _ F
   have hfm:=List.mem_of_getElem? hf
   obtain ⟨n1,n2,n3⟩:=hs.rel hfm
   have hK:firstK g fcs (k+1)=bestS (firstK g fcs k) k (metP q (relV pts p f.x) (relV pts p f.y) (relV pts p f.z) d):=by
    show bestS (firstK g fcs k) k ((fcs[k]?).bind g)=_
    rw [hf,Option.bind_some,hg]
   have hb:=hfit k (by omega)
   have ho:∀ t,metP q (relV pts p f.x) (relV pts p f.y) (relV pts p f.z) d=some t→Fit 19 t:=fun t h=>Zll n1 n2 n3 hd hd0 h
   rw [hK]
   have hmet:=fun (Bs:List Ent)=>Ya9 (As:=Bs) ht (q:=q) (a:=relV pts p f.x) (b:=relV pts p f.y) (c:=relV pts p f.z) (d:=d) n1 n2 n3 hd hd0
   generalize metP q (relV pts p f.x) (relV pts p f.y) (relV pts p f.z) d=o at *
   generalize relV pts p f.x=x1 at *
   generalize relV pts p f.y=x2 at *
   generalize relV pts p f.z=x3 at *
   generalize firstK g fcs k=B at *
   refine YieldS.of (ps:=[18,19]) hL3 hL4 hL5 rfl (by decide) hok ?_
   show Tri _ _ _ _ ((18,_)::(19,.agg #[.int .i64 x1.x,.int .i64 x1.y,.int .i64 x1.z,.int .i64 x2.x,.int .i64 x2.y,.int .i64 x2.z,.int .i64 x3.x,.int .i64 x3.y,.int .i64 x3.z])::_) (.ob l (.loop L)::.ob rb _::.cl b4 _ _::.cl b5 _ _::.cl b6 _ _::.cl b7 _ _::.cl b8 _ _::.cl b9 _ _::F) _
   repeat' first|refine Kz ?_|intro _
   refine Post.beginRound hL1 ?_
   repeat' first|refine Kz ?_|intro _
   refine TL.callv rfl rfl rfl rfl (hmet _) ?_
   rintro _ _ ⟨⟨x,y,rfl,hxy⟩,rfl⟩
   cases o with
   | none =>
    repeat' first|refine Kz ?_|intro _
    refine Post.endRound ⟨_,.inl ⟨rfl,trivial,rfl⟩,?_⟩
    simp only [List.cons_append,List.nil_append]
    rw [show ({ L with state:=.ready,pending:=none }:Loop)=L from by cases L;simp only at hL1 hL2;subst hL1 hL2;rfl]
    show Ents _ (_::_::_::_::_::_::_::.cl b9 (bestC B) _::_)
    (exact Zaa)
   | some t =>
    obtain ⟨rfl,rfl⟩:=hxy t rfl
    have ft:Fit 600 t:=(ho t rfl).mono (by decide)
    cases B with
    | none =>
     simp only [bestS,bestC]
     repeat' first|refine Kz ?_|intro _
     refine Post.endRound ⟨_,.inl ⟨rfl,trivial,rfl⟩,?_⟩
     simp only [List.cons_append,List.nil_append]
     rw [show ({ L with state:=.ready,pending:=none }:Loop)=L from by cases L;simp only at hL1 hL2;subst hL1 hL2;rfl]
     (exact Zaa)
    | some B =>
     obtain ⟨u,j⟩:=B
     have fu:Fit 600 u:=Fit.mono (k:=19) hb (by decide)
     have hor:=@Zvd t u
     simp only [bestS,bestC]
     repeat' first|refine Kz ?_|intro _
     refine Ks rfl (Zcs (r:=t) (s:=u) ft fu) ?_
     repeat' first|refine Kz ?_|intro _
     refine Kt rfl Zcr ?_
     by_cases htu:t < u
     ·have ho:=hor.2 htu
      rw [if_pos htu]
      generalize ordQ t u=O at ho ⊢
      repeat' first|refine Kz ?_|intro _
      refine Post.endRound ⟨_,.inl ⟨rfl,trivial,rfl⟩,?_⟩
      simp only [List.cons_append,List.nil_append]
      rw [show ({ L with state:=.ready,pending:=none }:Loop)=L from by cases L;simp only at hL1 hL2;subst hL1 hL2;rfl]
      (exact Zaa)
     ·have ho:¬ ordQ t u < 0:=fun h=>htu (hor.1 h)
      rw [if_neg htu]
      generalize ordQ t u=O at ho ⊢
      repeat' first|refine Kz ?_|intro _
      refine Post.endRound ⟨_,.inl ⟨rfl,trivial,rfl⟩,?_⟩
      simp only [List.cons_append,List.nil_append]
      rw [show ({ L with state:=.ready,pending:=none }:Loop)=L from by cases L;simp only at hL1 hL2;subst hL1 hL2;rfl]
      (exact Zaa)
  ·rintro v Bs (⟨_,rfl⟩|⟨k,Z,hk,h,_⟩)
   ·refine ⟨.ready,none,_,⟨rfl,rfl⟩,by simp,?_⟩
    simp only [List.cons_append,List.nil_append]
    rw [show ({ L with state:=.ready,pending:=none }:Loop)=L from by cases L;simp only at hL1 hL2;subst hL1 hL2;rfl]
    (exact Zaa)
   ·exact h.elim
 ·rintro As' ⟨_,rfl⟩
  intro rb
  have hb:=hfit fcs.length (Nat.le_refl _)
  generalize firstK g fcs fcs.length=B at *
  cases B with
  | none =>
   simp only [bestC]
   repeat' first|refine Kz ?_|intro _
   refine TL.callP rfl rfl rfl (Zid (e:=4) (by decide)) ?_
   rintro _ _ ⟨rfl,rfl⟩
   repeat' first|refine Kz ?_|intro _
   exact Zt6 ⟨_,⟨rfl,rfl,rfl⟩,Zaa⟩
  | some B =>
   obtain ⟨u,j⟩:=B
   simp only [bestC]
   repeat' first|refine Kz ?_|intro _
   refine Z5i ?_
   refine Zb0 ?_
   (refine Zac ?_)
   exact ⟨_,⟨u,j,rfl,rfl,rfl⟩,Zaa⟩
 ·rintro c As' ⟨h,_⟩
  cases h
end Go.Proofs.YtbfgldlfciimiaaGreatDoor
namespace Go.Proofs.YtbfgldlfciimiaaGreatDoor
open Go Go.Sx
variable {w0:World} {As:List Ent} {pv fv:Value} {pts fcs:List V3}
theorem Z4p {b2 b3:Nat}:DefS Tryz.prog w0 162 [.pointer (some ⟨b2,0,none⟩),.pointer (some ⟨b3,0,none⟩)] As .returning fun u' A=>u'=.returning∧A=As:=by
 refine Zfy Tryz.func162 rfl Tryz.ntmps162 rfl rfl rfl rfl rfl (fun _ _=>rfl) fun c0 cs=>?_
 refine TLS.f ?_
 refine TLS.nil ?_
 repeat' first|refine Kz ?_|intro _
 refine TL.f rfl rfl (Zpr rfl) ?_
 repeat' first|refine Kz ?_|intro _
 exact Zcz ⟨_,⟨rfl,rfl⟩,Zaa⟩
theorem Z8i {b2 b3:Nat} {ev:Value} {e:Int}:DefS Tryz.prog w0 162 [.pointer (some ⟨b2,0,none⟩),.pointer (some ⟨b3,0,none⟩)] (.cl b2 [.string ⟨#[]⟩,.string ⟨#[]⟩,.int .i64 0] 198::.cl b3 [ev] 34::As) (.panicking (thrown (failV e)))
  fun u' A=>u'=.panicking (caught (failV e))∧A=.cl b2 [.string ⟨#[]⟩,.string ⟨#[]⟩,.int .i64 0] 198::.cl b3 [.int .i64 e] 34::As:=by
 refine Zhz Tryz.func162 rfl Tryz.ntmps162 rfl rfl rfl rfl rfl (fun _ _=>rfl) fun c0 cs=>?_
 refine TLS.f ?_
 refine TLS.nil ?_
 repeat' first|refine Kz ?_|intro _
 refine TL.f rfl rfl (Zny rfl) ?_
 repeat' first|refine Kz ?_|intro _
 refine TL.f rfl rfl (Zea rfl rfl) ?_
 repeat' first|refine Kz ?_|intro _
 refine Zdu ?_
 exact Zcz ⟨_,⟨rfl,rfl⟩,Zaa⟩
def mtgE (As:List Ent) (o:Int ⊕ (Rat × Nat)) (v:Value) (Bs:List Ent):Prop:=∃ t j,o=.inr (t,j)∧v=meetV t j∧Bs=As
def mtgT (As:List Ent) (o:Int ⊕ (Rat × Nat)) (v:Value) (Bs:List Ent):Prop:=∃ e,o=.inl e∧v=failV e∧Bs=As
def mtgR:Int ⊕ (Rat × Nat)→Value
 | .inl e=>.tuple #[.agg #[.string ⟨#[]⟩,.string ⟨#[]⟩,.int .i64 0],.int .i64 e]
 | .inr (t,j)=>.tuple #[meetV t j,.int .i64 0]
theorem Ybv {f:FuncId} {caps:List Value} {o:Int ⊕ (Rat × Nat)} [Body Tryz.prog f]
  (hc:∀ b2 b3,CallsE Tryz.prog w0 f caps (.cl b3 [.int .i64 0] 34::.cl b2 [.string ⟨#[]⟩,.string ⟨#[]⟩,.int .i64 0] 198::As) (mtgE (.cl b3 [.int .i64 0] 34::.cl b2 [.string ⟨#[]⟩,.string ⟨#[]⟩,.int .i64 0] 198::As) o) (mtgT (.cl b3 [.int .i64 0] 34::.cl b2 [.string ⟨#[]⟩,.string ⟨#[]⟩,.int .i64 0] 198::As) o)) :
  CQ Tryz.prog w0 116 [.func (.func f) #[] caps.toArray] As (mtgR o):=by
 refine Zce Tryz.func116 rfl Tryz.ntmps116 rfl ?_
 repeat' first|refine Kz ?_|intro _
 rename_i b2 b3
 refine TL.defer (vs:=[]) (fst:=[]) rfl rfl rfl ?_
 repeat' first|refine Kz ?_|intro _
 refine TL.callvE (fst:=[]) (vs:=[]) (cap:=caps) rfl rfl rfl rfl (hc b2 b3) ?_ ?_
 ·rintro _ _ ⟨e,rfl,rfl,rfl⟩
  repeat' first|refine Kz ?_|intro _
  refine Zcd rfl ((Zfz Zaa (Z8i (ev:=.int .i64 0) (e:=e) (As:=As))).mono ?_)
  rintro _ _ ⟨rfl,rfl⟩
  exact ⟨rfl,_,Res.r2,_,⟨rfl,rfl⟩,Zaa⟩
 ·rintro _ _ ⟨t,j,rfl,rfl,rfl⟩
  show TL _ _ _ _ _ ((_,.agg #[.string ⟨(tN t).toArray⟩,.string ⟨(tD t).toArray⟩,.int .i64 (j:Int)])::_) _ _
  repeat' first|refine Kz ?_|intro _
  refine Zan rfl ((Z4p).mono ?_)
  rintro _ _ ⟨rfl,rfl⟩
  exact ⟨rfl,_,Res.r2,_,⟨rfl,rfl⟩,Zaa⟩
set_option maxRecDepth 100000 in
set_option maxHeartbeats 4000000 in
theorem Yab (ht:Tab w0) {b c c' c2:Nat} {p q:V3} {y:Bool} [RdIn As fv V3 cV3 fcs] [RdIn As pv V3 cV3 pts] :
  CallsE Tryz.prog w0 117 [.pointer (some ⟨b,0,none⟩),.pointer (some ⟨c,0,none⟩),.pointer (some ⟨c',0,none⟩),.pointer (some ⟨c2,0,none⟩)] (.cl b [pv,fv] 33::.cl c [.int .i64 p.x,.int .i64 p.y,.int .i64 p.z] 39::.cl c' [.int .i64 q.x,.int .i64 q.y,.int .i64 q.z] 39::.cl c2 [.bool y] 4::As)
   (mtgE (.cl b [pv,fv] 33::.cl c [.int .i64 p.x,.int .i64 p.y,.int .i64 p.z] 39::.cl c' [.int .i64 q.x,.int .i64 q.y,.int .i64 q.z] 39::.cl c2 [.bool y] 4::As) (rayW pts fcs p q y)) (mtgT (.cl b [pv,fv] 33::.cl c [.int .i64 p.x,.int .i64 p.y,.int .i64 p.z] 39::.cl c' [.int .i64 q.x,.int .i64 q.y,.int .i64 q.z] 39::.cl c2 [.bool y] 4::As) (rayW pts fcs p q y)):=by
 refine Zct Tryz.func117 rfl Tryz.ntmps117 rfl ?_
 unfold rayW
 repeat' first|refine Kz ?_|intro _
 refine Kt rfl (Zfe (pts:=pts) (fcs:=fcs)) ?_
 by_cases hfl:(flawM pts fcs).1=0
 ·rw [if_neg (fun h=>h hfl),show chkM pts fcs=0 from if_pos hfl]
  have hg:Sx.Good pts fcs:=Yft.1 hfl
  repeat' first|refine Kz ?_|intro _
  refine Kt rfl Zk8 ?_
  repeat' first|refine Kz ?_|intro _
  refine Ks rfl (Zvr (p:=p)) ?_
  cases hfar:isFar p with
  | true =>
   rw [if_pos (.inl rfl)]
   repeat' first|refine Kz ?_|intro _
   refine TL.callP rfl rfl rfl (Zid (e:=2) (by decide)) ?_
   rintro _ _ ⟨rfl,rfl⟩
   repeat' first|refine Kz ?_|intro _
   exact Zay rfl ⟨_,⟨_,rfl,rfl,rfl⟩,Zaa⟩
  | false =>
   repeat' first|refine Kz ?_|intro _
   refine Ks rfl (Zvr (p:=q)) ?_
   cases hfaq:isFar q with
   | true =>
    rw [if_pos (.inr (.inl rfl))]
    repeat' first|refine Kz ?_|intro _
    refine TL.callP rfl rfl rfl (Zid (e:=2) (by decide)) ?_
    rintro _ _ ⟨rfl,rfl⟩
    repeat' first|refine Kz ?_|intro _
    exact Zay rfl ⟨_,⟨_,rfl,rfl,rfl⟩,Zaa⟩
   | false =>
    repeat' first|refine Kz ?_|intro _
    rw [show decide ((⟨p.x,p.y,p.z⟩:V3)=⟨q.x,q.y,q.z⟩)=decide (p=q) from rfl]
    by_cases hpq:p=q
    ·rw [if_pos (.inr (.inr hpq))]
     repeat' first|refine Kz ?_|intro _
     refine TL.callP rfl rfl rfl (Zid (e:=2) (by decide)) ?_
     rintro _ _ ⟨rfl,rfl⟩
     repeat' first|refine Kz ?_|intro _
     exact Zay rfl ⟨_,⟨_,rfl,rfl,rfl⟩,Zaa⟩
    ·rw [if_neg (by rintro (h|h|h);cases h;cases h;exact hpq h)]
     have hs:=hg.see hfar
     have hd:(q.sub p).in 400000:=Zdy (Zcv hfaq) (Zcv hfar)
     have hd0:q.sub p≠V3.zero:=fun h=>hpq (by
      rw [Zcm]
      simp only [V3.sub,V3.zero,V3.mk.injEq] at h
      omega)
     have hfir:=fun (Bs:List Ent) [RdIn Bs fv V3 cV3 fcs] [RdIn Bs pv V3 cV3 pts]=>Z3i (As:=Bs) (pv:=pv) (fv:=fv) ht (q:=y) hs hd hd0
     unfold rayM
     generalize firstK (fun f=>metP y (relV pts p f.x) (relV pts p f.y) (relV pts p f.z) (q.sub p)) fcs fcs.length=o at *
     repeat' first|refine Kz ?_|intro _
     refine Zag (.cl b [pv,fv] 33::.cl c [.int .i64 p.x,.int .i64 p.y,.int .i64 p.z] 39::.cl c' [.int .i64 q.x,.int .i64 q.y,.int .i64 q.z] 39::.cl c2 [.bool y] 4::As) [] (.take 0 (.take 1 (.take 2 (.take 3 (.take 5 (.all [(4,.all [(6,.all [(7,.all [(8,.done)])])])])))))) ?_
     repeat' first|refine Kf ?_|intro _|constructor
     refine Ku rfl (Zfq (p:=q) (q:=p) (Zcv hfaq) (Zcv hfar) (by decide)) ?_
     repeat' first|refine Kf ?_|intro _|constructor
     refine Ku rfl (Zxt ht (b:=y)) ?_
     repeat' first|refine Kf ?_|intro _|constructor
     refine T1.callvE rfl rfl rfl rfl rfl (hfir _) ?_ ?_
     ·rintro _ _ ⟨rfl,rfl,rfl⟩
      repeat' first|refine Kf ?_|intro _|constructor
      exact Zay rfl ⟨_,⟨_,rfl,rfl,rfl⟩,Zaa⟩
     ·rintro _ _ ⟨t,j,rfl,rfl,rfl⟩
      repeat' first|refine Kf ?_|intro _|constructor
      refine Zcw ?_
      (refine Zac ?_)
      exact ⟨_,⟨t,j,rfl,rfl,rfl⟩,Zaa⟩
 ·rw [if_pos hfl,show chkM pts fcs=350 from if_neg hfl]
  repeat' first|refine Kz ?_|intro _
  refine TL.callP rfl rfl rfl (Zid (e:=350) (by decide)) ?_
  rintro _ _ ⟨rfl,rfl⟩
  repeat' first|refine Kz ?_|intro _
  exact Zay rfl ⟨_,⟨_,rfl,rfl,rfl⟩,Zaa⟩
def rayR:Int ⊕ (Rat × Nat)→Value
 | .inl e=>.tuple #[.agg #[.string ⟨#[]⟩,.string ⟨#[]⟩],.int .i64 0,.int .i64 e]
 | .inr (t,j)=>.tuple #[.agg #[.string ⟨(tN t).toArray⟩,.string ⟨(tD t).toArray⟩],.int .i64 (j:Int),.int .i64 0]
set_option maxRecDepth 100000 in
theorem Ydp (ht:Tab w0) {p q:V3} {y:Bool} [RdIn As fv V3 cV3 fcs] [RdIn As pv V3 cV3 pts] :
  CQ Tryz.prog w0 79 [.agg #[pv,fv],p.val,q.val,.bool y] As (rayR (rayW pts fcs p q y)):=by
 refine Zab Tryz.func79 rfl Tryz.ntmps79 rfl ?_
 show Tri _ _ _ _ (env0 0 [.agg #[pv,fv],.agg #[.int .i64 p.x,.int .i64 p.y,.int .i64 p.z],.agg #[.int .i64 q.x,.int .i64 q.y,.int .i64 q.z],.bool y]) _ _
 repeat' first|refine Kz ?_|intro _
 rename_i b4 b5 b6 b7 b8
 refine TL.call rfl rfl rfl (Ybv (f:=117) (caps:=[.pointer (some ⟨b4,0,none⟩),.pointer (some ⟨b5,0,none⟩),.pointer (some ⟨b6,0,none⟩),.pointer (some ⟨b7,0,none⟩)]) (o:=rayW pts fcs p q y) ?_) ?_
 ·intro b2 b3
  refine Zn0 (Yab (As:=.cl b3 [.int .i64 0] 34::.cl b2 [.string ⟨#[]⟩,.string ⟨#[]⟩,.int .i64 0] 198::.cl b8 [.string ⟨#[]⟩,.string ⟨#[]⟩] 47::As) ht (pv:=pv) (fv:=fv) (pts:=pts) (fcs:=fcs) (p:=p) (q:=q) (y:=y)) Zaa ?_ ?_
  ·rintro v A ⟨t,j,h1,h2,rfl⟩
   exact ⟨_,⟨t,j,h1,h2,rfl⟩,Zaa⟩
  ·rintro v A ⟨e,h1,h2,rfl⟩
   exact ⟨_,⟨e,h1,h2,rfl⟩,Zaa⟩
 rintro _ _ ⟨rfl,rfl⟩
 cases rayW pts fcs p q y with
 | inl e =>
  show TL _ _ _ _ _ ((_,.tuple #[.agg #[.string ⟨#[]⟩,.string ⟨#[]⟩,.int .i64 0],.int .i64 e])::_) _ _
  repeat' first|refine Kz ?_|intro _
  rename_i b11
  refine Zag [.cl b11 [.string ⟨#[]⟩,.string ⟨#[]⟩,.int .i64 0] 198] [] (.take 0 (.take 1 (.take 2 (.take 3 (.take 4 (.all [(5,.take 6 (.take 7 (.done)))])))))) ?_
  repeat' first|refine Kf ?_|intro _|constructor
  exact Kv
 | inr r =>
  obtain ⟨t,j⟩:=r
  show TL _ _ _ _ _ ((_,.tuple #[.agg #[.string ⟨(tN t).toArray⟩,.string ⟨(tD t).toArray⟩,.int .i64 (j:Int)],.int .i64 0])::_) _ _
  repeat' first|refine Kz ?_|intro _
  rename_i b11
  refine Zag [.cl b11 [.string ⟨(tN t).toArray⟩,.string ⟨(tD t).toArray⟩,.int .i64 (j:Int)] 198] [] (.take 0 (.take 1 (.take 2 (.take 3 (.take 4 (.all [(5,.take 6 (.take 7 (.done)))])))))) ?_
  repeat' first|refine Kf ?_|intro _|constructor
  exact Kv
end Go.Proofs.YtbfgldlfciimiaaGreatDoor
