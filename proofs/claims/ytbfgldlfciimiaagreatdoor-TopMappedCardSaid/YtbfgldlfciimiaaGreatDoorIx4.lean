/- Walks: inside: the part of a span within a face; points in a face. -/
import Derived.Test.YtbfgldlfciimiaaGreatDoorIx3
set_option maxHeartbeats 1000000
namespace Go.Sx
open Go
theorem Zo7 {a b:V3} {κ:Nat} {n:V3} (ha:a.in 400000) (hb:b.in 400000):-9223372036854775807≤hfU κ n a b∧hfU κ n a b≤9223372036854775807:=by
 have h:=Zgx (Zd8 (by decide) (by decide) ha hb) κ
 have:=Zif (Zh5 (n.proj κ)) h
 unfold hfU
 omega
theorem Zo6 {a b d:V3} {κ:Nat} {n:V3} (ha:a.in 400000) (hb:b.in 400000) (hd:d.in 3243601):-9223372036854775807≤hfV κ n a b d∧hfV κ n a b d≤9223372036854775807:=by
 have h:=Zgx (Zd8 (by decide) (by decide) (Zdy hb ha) hd) κ
 have:=Zif (Zh5 (n.proj κ)) h
 unfold hfV
 omega
theorem Z8a {s t:Spn} {u v:Int} (h:cutS s u v=some t):(if v=0 then s else cutV s u v)=t:=by
 unfold cutS at h
 split at h
 ·rename_i h0
  split at h
  ·rw [if_pos h0];exact Option.some.inj h
  ·cases h
 ·rename_i h0
  split at h
  ·rw [if_neg h0];exact Option.some.inj h
  ·cases h
def spn0:Value:=.agg #[.string ⟨#[]⟩,.string ⟨#[]⟩,.string ⟨#[]⟩,.string ⟨#[]⟩,.bool false]
def withV:Option Spn→Value
 | some t=>.tuple #[spnV t,.bool true]
 | none=>.tuple #[spn0,.bool false]
theorem Zqd (b:Bool):(path0 b).fit:=⟨fit0,fit1⟩
end Go.Sx
namespace Go.Proofs.YtbfgldlfciimiaaGreatDoor
open Go Go.Sx
variable {w0:World} {As:List Ent}
set_option maxRecDepth 100000 in
set_option maxHeartbeats 8000000 in
theorem Zo2 (ht:Tab w0) {s:Spn} {a b c d:V3} (hs:s.fit) (ha:a.in 400000) (hb:b.in 400000) (hc:c.in 400000) (hd:d.in 3243601) :
  CQ Tryz.prog w0 106 [triV a b c,spnV s,d.val] As (withV (cut3S s (axP (nrm a b c)) (nrm a b c) a b c d)):=by
 refine Zab Tryz.func106 rfl Tryz.ntmps106 rfl ?_
 show Tri _ _ _ _ (env0 0 [.agg #[.int .i64 a.x,.int .i64 a.y,.int .i64 a.z,.int .i64 b.x,.int .i64 b.y,.int .i64 b.z,.int .i64 c.x,.int .i64 c.y,.int .i64 c.z],.agg #[.string ⟨(tN s.low).toArray⟩,.string ⟨(tD s.low).toArray⟩,.string ⟨(tN s.high).toArray⟩,.string ⟨(tD s.high).toArray⟩,.bool s.opn],.agg #[.int .i64 d.x,.int .i64 d.y,.int .i64 d.z]]) _ _
 have u1:=Zo7 (κ:=axP (nrm a b c)) (n:=nrm a b c) ha hb
 have u2:=Zo7 (κ:=axP (nrm a b c)) (n:=nrm a b c) hb hc
 have u3:=Zo7 (κ:=axP (nrm a b c)) (n:=nrm a b c) hc ha
 have v1:=Zo6 (κ:=axP (nrm a b c)) (n:=nrm a b c) ha hb hd
 have v2:=Zo6 (κ:=axP (nrm a b c)) (n:=nrm a b c) hb hc hd
 have v3:=Zo6 (κ:=axP (nrm a b c)) (n:=nrm a b c) hc ha hd
 have sg:=Zh5 ((nrm a b c).proj (axP (nrm a b c)))
 repeat' first|refine Kz ?_|intro _
 rename_i b3 b4 b5 b6
 refine TL.callv rfl rfl rfl rfl (Z3l (a:=a) (b:=b) (c:=c) (d:=d) ha hb hc hd) ?_
 rintro _ _ ⟨h3,h6,h7,h8,p11,p13,p14,q11,q13,q14,r11,r13,r14,i,j,hij,rfl,rfl⟩
 have hV:∀ {s t:Spn} {u v:Int},cutS s u v=some t→(if v=0 then s else cutV s u v)=t:=fun {s t u v} h=>Z8a h
 simp only [edgC,List.cons_append,List.nil_append]
 unfold cut3S
 repeat' first|refine Kz ?_|intro _
 refine Zao 4 ?_
 repeat' first|refine Kz ?_|intro _
 refine TL.callv rfl rfl rfl rfl (CallsS.ents (show Ents _ (.cl h8 [.int .i64 ((nrm a b c).proj (axP (nrm a b c))).sign] 3::.cl h6 [.int .i64 (i:Int)] 3::.cl h7 [.int .i64 (j:Int)] 3::.cl h3 [.int .i64 d.x,.int .i64 d.y,.int .i64 d.z] 139::.cl p14 [.int .i64 (b.proj j - a.proj j)] 3::.cl p11 [.int .i64 a.x,.int .i64 a.y,.int .i64 a.z] 139::.cl p13 [.int .i64 (b.proj i - a.proj i)] 3::.cl b4 [.string ⟨(tN s.low).toArray⟩,.string ⟨(tD s.low).toArray⟩,.string ⟨(tN s.high).toArray⟩,.string ⟨(tD s.high).toArray⟩,.bool s.opn] 179::.cl b6 [.string ⟨#[]⟩,.string ⟨#[]⟩,.string ⟨#[]⟩,.string ⟨#[]⟩,.bool false] 179::.cl q14 [.int .i64 (c.proj j - b.proj j)] 3::.cl q11 [.int .i64 b.x,.int .i64 b.y,.int .i64 b.z] 139::.cl q13 [.int .i64 (c.proj i - b.proj i)] 3::.cl r14 [.int .i64 (a.proj j - c.proj j)] 3::.cl r11 [.int .i64 c.x,.int .i64 c.y,.int .i64 c.z] 139::.cl r13 [.int .i64 (a.proj i - c.proj i)] 3::As) from Zaa) (Zqw (a:=a) (b:=b) (d:=d) hij sg ha hb hd)) ?_
 rw [Z9z hij,Z9y hij]
 rintro _ _ ⟨rfl,rfl⟩
 repeat' first|refine Kz ?_|intro _
 refine Ks rfl (Zvs ht (s:=s) (u:=hfU (axP (nrm a b c)) (nrm a b c) a b) (v:=hfV (axP (nrm a b c)) (nrm a b c) a b d) hs u1 v1) ?_
 cases c1:cutS s (hfU (axP (nrm a b c)) (nrm a b c) a b) (hfV (axP (nrm a b c)) (nrm a b c) a b d) with
 | none =>
  simp only [Option.bind_none]
  repeat' first|refine Kz ?_|intro _
  exact Kv
 | some s1 =>
 rw [hV c1]
 have hs1:s1.fit:=hs.cut u1 v1 c1
 simp only [Option.bind_some]
 show TL _ _ _ _ _ ((_,.tuple #[.agg #[.string ⟨(tN s1.low).toArray⟩,.string ⟨(tD s1.low).toArray⟩,.string ⟨(tN s1.high).toArray⟩,.string ⟨(tD s1.high).toArray⟩,.bool s1.opn],.bool true])::_) _ _
 repeat' first|refine Kz ?_|intro _
 refine TL.callv rfl rfl rfl rfl (CallsS.ents (show Ents _ (.cl h8 [.int .i64 ((nrm a b c).proj (axP (nrm a b c))).sign] 3::.cl h6 [.int .i64 (i:Int)] 3::.cl h7 [.int .i64 (j:Int)] 3::.cl h3 [.int .i64 d.x,.int .i64 d.y,.int .i64 d.z] 139::.cl q14 [.int .i64 (c.proj j - b.proj j)] 3::.cl q11 [.int .i64 b.x,.int .i64 b.y,.int .i64 b.z] 139::.cl q13 [.int .i64 (c.proj i - b.proj i)] 3::.cl b4 [.string ⟨(tN s1.low).toArray⟩,.string ⟨(tD s1.low).toArray⟩,.string ⟨(tN s1.high).toArray⟩,.string ⟨(tD s1.high).toArray⟩,.bool s1.opn] 179::.cl b6 [.string ⟨#[]⟩,.string ⟨#[]⟩,.string ⟨#[]⟩,.string ⟨#[]⟩,.bool false] 179::.cl r14 [.int .i64 (a.proj j - c.proj j)] 3::.cl r11 [.int .i64 c.x,.int .i64 c.y,.int .i64 c.z] 139::.cl r13 [.int .i64 (a.proj i - c.proj i)] 3::As) from Zaa) (Zqw (a:=b) (b:=c) (d:=d) hij sg hb hc hd)) ?_
 rw [Z9z hij,Z9y hij]
 rintro _ _ ⟨rfl,rfl⟩
 repeat' first|refine Kz ?_|intro _
 refine Ks rfl (Zvs ht (s:=s1) (u:=hfU (axP (nrm a b c)) (nrm a b c) b c) (v:=hfV (axP (nrm a b c)) (nrm a b c) b c d) hs1 u2 v2) ?_
 cases c2:cutS s1 (hfU (axP (nrm a b c)) (nrm a b c) b c) (hfV (axP (nrm a b c)) (nrm a b c) b c d) with
 | none =>
  simp only [Option.bind_none]
  repeat' first|refine Kz ?_|intro _
  exact Kv
 | some s2 =>
 rw [hV c2]
 have hs2:s2.fit:=hs1.cut u2 v2 c2
 simp only [Option.bind_some]
 show TL _ _ _ _ _ ((_,.tuple #[.agg #[.string ⟨(tN s2.low).toArray⟩,.string ⟨(tD s2.low).toArray⟩,.string ⟨(tN s2.high).toArray⟩,.string ⟨(tD s2.high).toArray⟩,.bool s2.opn],.bool true])::_) _ _
 repeat' first|refine Kz ?_|intro _
 refine TL.callv rfl rfl rfl rfl (CallsS.ents (show Ents _ (.cl h8 [.int .i64 ((nrm a b c).proj (axP (nrm a b c))).sign] 3::.cl h6 [.int .i64 (i:Int)] 3::.cl h7 [.int .i64 (j:Int)] 3::.cl h3 [.int .i64 d.x,.int .i64 d.y,.int .i64 d.z] 139::.cl r14 [.int .i64 (a.proj j - c.proj j)] 3::.cl r11 [.int .i64 c.x,.int .i64 c.y,.int .i64 c.z] 139::.cl r13 [.int .i64 (a.proj i - c.proj i)] 3::.cl b4 [.string ⟨(tN s2.low).toArray⟩,.string ⟨(tD s2.low).toArray⟩,.string ⟨(tN s2.high).toArray⟩,.string ⟨(tD s2.high).toArray⟩,.bool s2.opn] 179::.cl b6 [.string ⟨#[]⟩,.string ⟨#[]⟩,.string ⟨#[]⟩,.string ⟨#[]⟩,.bool false] 179::As) from Zaa) (Zqw (a:=c) (b:=a) (d:=d) hij sg hc ha hd)) ?_
 rw [Z9z hij,Z9y hij]
 rintro _ _ ⟨rfl,rfl⟩
 repeat' first|refine Kz ?_|intro _
 refine Ks rfl (Zvs ht (s:=s2) (u:=hfU (axP (nrm a b c)) (nrm a b c) c a) (v:=hfV (axP (nrm a b c)) (nrm a b c) c a d) hs2 u3 v3) ?_
 cases c3:cutS s2 (hfU (axP (nrm a b c)) (nrm a b c) c a) (hfV (axP (nrm a b c)) (nrm a b c) c a d) with
 | none =>
  repeat' first|refine Kz ?_|intro _
  exact Kv
 | some s3 =>
 rw [hV c3]
 have hs3:s3.fit:=hs2.cut u3 v3 c3
 show TL _ _ _ _ _ ((_,.tuple #[.agg #[.string ⟨(tN s3.low).toArray⟩,.string ⟨(tD s3.low).toArray⟩,.string ⟨(tN s3.high).toArray⟩,.string ⟨(tD s3.high).toArray⟩,.bool s3.opn],.bool true])::_) _ _
 repeat' first|refine Kz ?_|intro _
 exact Kv
theorem Zqs {κ:Nat} {n a b:V3}:hfV κ n a b V3.zero=0:=by
 unfold hfV
 have:((b.sub a).cross V3.zero)=V3.zero:=by simp [V3.cross,V3.zero]
 rw [this]
 unfold V3.proj V3.zero;simp
theorem Z39 {s:Spn} {κ:Nat} {n a b c:V3}:(cut3S s κ n a b c V3.zero).isSome=(decide (0≤hfU κ n a b)&&decide (0≤hfU κ n b c)&&decide (0≤hfU κ n c a)):=by
 unfold cut3S
 rw [Zqs,Zqs,Zqs]
 have e:∀ (s:Spn) (u:Int),cutS s u 0=if 0≤u then some s else none:=fun s u=>by unfold cutS;rw [if_pos rfl]
 simp only [e]
 by_cases h1:0≤hfU κ n a b<;>by_cases h2:0≤hfU κ n b c<;>by_cases h3:0≤hfU κ n c a<;>simp [h1,h2,h3]
theorem Zum (o:Option Spn):∃ x y z w q,withV o=.tuple #[.agg #[.string ⟨x⟩,.string ⟨y⟩,.string ⟨z⟩,.string ⟨w⟩,.bool q],.bool o.isSome]:=by
 cases o with
 | none=>exact ⟨_,_,_,_,_,rfl⟩
 | some t=>exact ⟨_,_,_,_,_,rfl⟩
set_option maxRecDepth 100000 in
set_option maxHeartbeats 2000000 in
theorem Zs9 (ht:Tab w0) {a b c:V3} (ha:a.in 400000) (hb:b.in 400000) (hc:c.in 400000) :
  CQ Tryz.prog w0 72 [triV a b c] As (.bool (onT axP a b c)):=by
 refine Zab Tryz.func72 rfl Tryz.ntmps72 rfl ?_
 show Tri _ _ _ _ (env0 0 [.agg #[.int .i64 a.x,.int .i64 a.y,.int .i64 a.z,.int .i64 b.x,.int .i64 b.y,.int .i64 b.z,.int .i64 c.x,.int .i64 c.y,.int .i64 c.z]]) _ _
 repeat' first|refine Kz ?_|intro _
 rename_i b1
 refine Ks rfl (Zmt (a:=a) (b:=b) (c:=c) ha hb hc (by decide) (by decide) (by decide)) ?_
 by_cases h0:det3 a b c=0
 ·have hv:V3.zero.in 3243601:=⟨by decide,by decide,by decide,by decide,by decide,by decide⟩
  have hr:onT axP a b c=(cut3S (path0 false) (axP (nrm a b c)) (nrm a b c) a b c V3.zero).isSome:=by
   rw [Z39]
   unfold onT holdsM
   rw [Bool.eq_iff_iff]
   simp only [decide_eq_true_eq,Bool.and_eq_true,h0,true_and,and_assoc]
  rw [hr]
  repeat' first|refine Kz ?_|intro _
  refine Zag [.cl b1 [.int .i64 a.x,.int .i64 a.y,.int .i64 a.z,.int .i64 b.x,.int .i64 b.y,.int .i64 b.z,.int .i64 c.x,.int .i64 c.y,.int .i64 c.z] 144] [] (.take 0 (.take 2 (.all [(1,.all [(3,.take 4 (.take 5 (.take 6 (.all [(7,.all [(8,.take 9 (.done))])])))),(7,.all [(3,.take 4 (.take 5 (.take 6 (.all [(8,.take 9 (.done))]))))])]),(7,.all [(1,.all [(3,.take 4 (.take 5 (.take 6 (.all [(8,.take 9 (.done))]))))])])]))) ?_
  repeat' first|refine Kf ?_|intro _|constructor
  iterate 2
   all_goals
    first
     | (refine T1.callv rfl rfl rfl rfl rfl (Zxt ht (b:=false)) ?_
        rintro _ _ ⟨rfl,rfl⟩)
     | (refine T1.callv rfl rfl rfl rfl rfl (Zo2 ht (s:=path0 false) (a:=a) (b:=b) (c:=c) (d:=V3.zero) (Zqd false) ha hb hc hv) ?_
        obtain ⟨x,y,z,w,q,hw⟩:=Zum (cut3S (path0 false) (axP (nrm a b c)) (nrm a b c) a b c V3.zero)
        rw [hw]
        rintro _ _ ⟨rfl,rfl⟩)
    repeat' first|refine Kf ?_|intro _|constructor
  all_goals
   exact Kv
 ·have hr:onT axP a b c=false:=by
   unfold onT holdsM
   exact decide_eq_false fun h=>h0 h.1
  rw [hr]
  repeat' first|refine Kz ?_|intro _
  exact Kv
end Go.Proofs.YtbfgldlfciimiaaGreatDoor
namespace Go.Sx
open Go
structure Seeable (P F:List V3) (p:V3):Prop where
 pts:∀ q∈P,q.in 200000
 idx:∀ f∈F,0≤f.x∧f.x < P.length∧0≤f.y∧f.y < P.length∧0≤f.z∧f.z < P.length
 at_:p.in 200000
 lenP:P.length≤1000000000
 lenF:F.length≤1000000000
theorem Zcv {p:V3} (h:isFar p=false):p.in 200000:=by
 unfold isFar at h
 simp only [Bool.or_eq_false_iff,decide_eq_false_iff_not] at h
 exact ⟨by omega,by omega,by omega,by omega,by omega,by omega⟩
theorem Good.see {P F:List V3} (hg:Good P F) {p:V3} (hp:isFar p=false):Seeable P F p:=by
 refine ⟨fun q hq=>?_,fun f hf=>?_,Zcv hp,by have:=hg.p300;omega,by have:=hg.f600;omega⟩
 ·have h:=hg.far
  unfold farF at h
  rw [List.findIdx?_eq_none_iff] at h
  exact Zcv (h q hq)
 ·have h:=hg.wrong
  unfold wrongF at h
  rw [List.findIdx?_eq_none_iff] at h
  have:=h f hf
  unfold isWrong at this
  simp only [Bool.or_eq_false_iff,decide_eq_false_iff_not] at this
  omega
theorem Seeable.pt {P F:List V3} {p f:V3} (h:Seeable P F p) (hf:f∈F):∃ a b c,P[f.x.toNat]?=some a∧P[f.y.toNat]?=some b∧P[f.z.toNat]?=some c∧a.in 200000∧b.in 200000∧c.in 200000 ∧
  relV P p f.x=a.sub p∧relV P p f.y=b.sub p∧relV P p f.z=c.sub p:=by
 obtain ⟨h1,h2,h3,h4,h5,h6⟩:=h.idx f hf
 have key:∀ i:Int,0≤i→i < P.length→∃ a,P[i.toNat]?=some a∧a.in 200000∧relV P p i=a.sub p:=fun i h0 h1=>by
  have hl:i.toNat < P.length:=by omega
  refine ⟨P[i.toNat],List.getElem?_eq_getElem hl,h.pts _ (List.getElem_mem hl),?_⟩
  unfold relV ptAt
  rw [List.getElem?_eq_getElem hl];rfl
 obtain ⟨a,a1,a2,a3⟩:=key _ h1 h2
 obtain ⟨b,b1,b2,b3⟩:=key _ h3 h4
 obtain ⟨c,c1,c2,c3⟩:=key _ h5 h6
 exact ⟨a,b,c,a1,b1,c1,a2,b2,c2,a3,b3,c3⟩
theorem Seeable.rel {P F:List V3} {p f:V3} (h:Seeable P F p) (hf:f∈F):(relV P p f.x).in 400000∧(relV P p f.y).in 400000∧(relV P p f.z).in 400000:=by
 obtain ⟨a,b,c,_,_,_,a2,b2,c2,a3,b3,c3⟩:=h.pt hf
 rw [a3,b3,c3]
 exact ⟨Zdy a2 h.at_,Zdy b2 h.at_,Zdy c2 h.at_⟩
end Go.Sx
namespace Go.Proofs.YtbfgldlfciimiaaGreatDoor
open Go Go.Sx
variable {w0:World} {As:List Ent} {pv fv:Value} {pts fcs:List V3}
theorem Zuw {p:V3}:CallsS Tryz.prog w0 71 [.agg #[pv,fv],p.val] As fun v Bs=>∃ b c,v=.func (.func 103) #[] #[.pointer (some ⟨b,0,none⟩),.pointer (some ⟨c,0,none⟩)] ∧
  Bs=.cl b [pv,fv] 33::.cl c [.int .i64 p.x,.int .i64 p.y,.int .i64 p.z] 139::As:=by
 refine Zab Tryz.func71 rfl Tryz.ntmps71 rfl ?_
 show Tri _ _ _ _ (env0 0 [.agg #[pv,fv],.agg #[.int .i64 p.x,.int .i64 p.y,.int .i64 p.z]]) _ _
 repeat' first|refine Kz ?_|intro _
 (refine Zac ?_)
 exact ⟨_,⟨_,_,rfl,rfl⟩,Zaa⟩
set_option maxRecDepth 100000 in
set_option maxHeartbeats 2000000 in
theorem Zp2 {l b c:Nat} {L:Loop} {Y:Nat→List Ent} {I:Nat→Prop} {R:Nat→List Ent→Prop} [RdIn As fv V3 cV3 fcs] [RdIn As pv V3 cV3 pts] {p:V3} (hs:Seeable pts fcs p) (hL:L.params.size=2) (h0:I 0)
  (hy:∀ k f,k < fcs.length→fcs[k]?=some f→I k→∀ F,YieldS Tryz.prog w0 l L [.int .i64 (k:Int),triV (relV pts p f.x) (relV pts p f.y) (relV pts p f.z)] (.ob l (.loop L)::(Y k++F)) fun v Bs=>(v=.bool true∧I (k+1)∧Bs=.ob l (.loop L)::(Y (k+1)++F))∨(v=.bool false∧∃ Z,R k Z∧Bs=Z++F)) :
  CallsS Tryz.prog w0 103 [.func (.yield l) #[] #[],.pointer (some ⟨b,0,none⟩),.pointer (some ⟨c,0,none⟩)] (.ob l (.loop L)::(Y 0++(.cl b [pv,fv] 33::.cl c [.int .i64 p.x,.int .i64 p.y,.int .i64 p.z] 139::As)))
   fun _ Bs=>(I fcs.length∧Bs=.ob l (.loop L)::(Y fcs.length++(.cl b [pv,fv] 33::.cl c [.int .i64 p.x,.int .i64 p.y,.int .i64 p.z] 139::As)))∨∃ k Z,k < fcs.length∧R k Z∧Bs=Z++(.cl b [pv,fv] 33::.cl c [.int .i64 p.x,.int .i64 p.y,.int .i64 p.z] 139::As):=by
 refine CallsS.ents (Ents.perm (List.Perm.cons _ (List.perm_append_comm (l₁:=Y 0) (l₂:=.cl b [pv,fv] 33::.cl c [.int .i64 p.x,.int .i64 p.y,.int .i64 p.z] 139::As)))) ?_
 refine Zab Tryz.func103 rfl Tryz.ntmps103 rfl ?_
 show Tri _ _ _ _ _ (.ob l (.loop L)::.cl b [pv,fv] 33::.cl c [.int .i64 p.x,.int .i64 p.y,.int .i64 p.z] 139::(As++Y 0)) _
 have hlF:=hs.lenF
 have hlP:=hs.lenP
 repeat' first|refine Kz ?_|intro _
 refine Tri.loop (ι:=Nat) (fun k=>k≤fcs.length∧I k) (fun k=>fcs.length - k)
  (fun k=>[(0,.func (.yield l) #[] #[]),(1,.pointer (some ⟨b,0,none⟩)),(2,.pointer (some ⟨c,0,none⟩)),(9,fv),(10,.int .i64 fcs.length),(11,.int .i64 k)]) (fun k=>.ob l (.loop L)::.cl b [pv,fv] 33::.cl c [.int .i64 p.x,.int .i64 p.y,.int .i64 p.z] 139::(As++Y k)) 0 ⟨by omega,h0⟩ Zad Zaa ?_
 intro k ⟨hk,hI⟩
 repeat' first|refine Kz ?_|intro _
 (refine Kx (fun hc=>?_) fun hc=>?_)
 ·obtain ⟨f,hf⟩:∃ f,fcs[k]?=some f:=⟨_,List.getElem?_eq_getElem (by omega)⟩
  have hfm:f∈fcs:=List.mem_of_getElem? hf
  obtain ⟨i1,i2,i3,i4,i5,i6⟩:=hs.idx f hfm
  obtain ⟨q1,q2,q3,e1,e2,e3,n1,n2,n3,r1,r2,r3⟩:=hs.pt hfm
  have hy1:=hy k f (by omega) hf hI
  rw [r1,r2,r3] at hy1
  have np:=hs.at_
  clear r1 r2 r3 hy hfm
  obtain ⟨x,hx⟩:∃ i:Nat,f.x=(i:Int):=⟨f.x.toNat,by omega⟩
  obtain ⟨y,hy'⟩:∃ i:Nat,f.y=(i:Int):=⟨f.y.toNat,by omega⟩
  obtain ⟨z,hz⟩:∃ i:Nat,f.z=(i:Int):=⟨f.z.toNat,by omega⟩
  obtain ⟨fx,fy,fz⟩:=f
  simp only at hx hy' hz i1 i2 i3 i4 i5 i6 e1 e2 e3
  subst hx hy' hz
  rw [Int.toNat_natCast] at e1 e2 e3
  repeat' first|refine Kz ?_|intro _
  refine Zao 4 ?_
  repeat' first|refine Kz ?_|intro _
  rename_i b5 b6
  have hyk:∀ b6 b5 cs T cs' T',YieldS Tryz.prog w0 l L [.int .i64 (k:Int),triV (q1.sub p) (q2.sub p) (q3.sub p)] (.cl b6 cs T::.cl b5 cs' T'::.ob l (.loop L)::.cl b [pv,fv] 33::.cl c [.int .i64 p.x,.int .i64 p.y,.int .i64 p.z] 139::(As++Y k))
    fun v Bs=>(v=.bool true∧I (k+1)∧Bs=.cl b6 cs T::.cl b5 cs' T'::.ob l (.loop L)::.cl b [pv,fv] 33::.cl c [.int .i64 p.x,.int .i64 p.y,.int .i64 p.z] 139::(As++Y (k+1))) ∨
     (v=.bool false∧∃ Z,R k Z∧Bs=.cl b6 cs T::.cl b5 cs' T'::(Z++(.cl b [pv,fv] 33::.cl c [.int .i64 p.x,.int .i64 p.y,.int .i64 p.z] 139::As))):=by
   intro b6 b5 cs T cs' T'
   have h1:=hy1 (.cl b6 cs T::.cl b5 cs' T'::.cl b [pv,fv] 33::.cl c [.int .i64 p.x,.int .i64 p.y,.int .i64 p.z] 139::As)
   have pm:∀ X:List Ent,(Ent.cl b6 cs T::.cl b5 cs' T'::.ob l (.loop L)::.cl b [pv,fv] 33::.cl c [.int .i64 p.x,.int .i64 p.y,.int .i64 p.z] 139::(As++X)).Perm (.ob l (.loop L)::(X++(.cl b6 cs T::.cl b5 cs' T'::.cl b [pv,fv] 33::.cl c [.int .i64 p.x,.int .i64 p.y,.int .i64 p.z] 139::As))):=fun X =>
    (show ([Ent.cl b6 cs T,Ent.cl b5 cs' T']++Ent.ob l (.loop L)::(Ent.cl b [pv,fv] 33::.cl c [.int .i64 p.x,.int .i64 p.y,.int .i64 p.z] 139::(As++X))).Perm _ from List.perm_middle).trans (List.Perm.cons _ (show ((Ent.cl b6 cs T::.cl b5 cs' T'::.cl b [pv,fv] 33::.cl c [.int .i64 p.x,.int .i64 p.y,.int .i64 p.z] 139::As)++X).Perm _ from List.perm_append_comm))
   refine Zng h1 (Ents.perm (pm _)) ?_
   rintro v A (⟨rfl,g1,rfl⟩|⟨rfl,Z,g1,rfl⟩)
   ·exact ⟨_,.inl ⟨rfl,g1,rfl⟩,Ents.perm (pm _).symm⟩
   ·refine ⟨_,.inr ⟨rfl,Z,g1,rfl⟩,?_⟩
    exact Ents.perm (show (Z++([Ent.cl b6 cs T,.cl b5 cs' T']++(.cl b [pv,fv] 33::.cl c [.int .i64 p.x,.int .i64 p.y,.int .i64 p.z] 139::As))).Perm ([Ent.cl b6 cs T,.cl b5 cs' T']++(Z++_)) from by
     rw [← List.append_assoc,← List.append_assoc]
     exact List.Perm.append_right _ List.perm_append_comm)
  refine Zag (.cl b [pv,fv] 33::.cl c [.int .i64 p.x,.int .i64 p.y,.int .i64 p.z] 139::.cl b5 [.int .i64 (x:Int),.int .i64 (y:Int),.int .i64 (z:Int)] 39::(As++Y k)) [] (.take 0 (.take 1 (.take 2 (.take 3 (.take 4 (.take 5 (.take 6 (.take 7 (.take 8 (.all [(9,.take 10 (.all [(11,.done)]))])))))))))) ?_
  repeat' first|refine Kf ?_|intro _|constructor
  refine Ku rfl (Zfq (p:=q1) (q:=p) n1 np (by decide)) ?_
  repeat' first|refine Kf ?_|intro _|constructor
  refine Zag (.cl b [pv,fv] 33::.cl c [.int .i64 p.x,.int .i64 p.y,.int .i64 p.z] 139::.cl b5 [.int .i64 (x:Int),.int .i64 (y:Int),.int .i64 (z:Int)] 39::(As++Y k)) [] (.take 0 (.take 1 (.take 2 (.take 3 (.take 4 (.take 5 (.take 6 (.take 7 (.take 8 (.all [(9,.take 10 (.all [(11,.done)]))])))))))))) ?_
  repeat' first|refine Kf ?_|intro _|constructor
  refine Ku rfl (Zfq (p:=q2) (q:=p) n2 np (by decide)) ?_
  repeat' first|refine Kf ?_|intro _|constructor
  refine Zag (.cl b [pv,fv] 33::.cl c [.int .i64 p.x,.int .i64 p.y,.int .i64 p.z] 139::.cl b5 [.int .i64 (x:Int),.int .i64 (y:Int),.int .i64 (z:Int)] 39::(As++Y k)) [] (.take 0 (.take 1 (.take 2 (.take 3 (.take 4 (.take 5 (.take 6 (.take 7 (.take 8 (.all [(9,.take 10 (.all [(11,.done)]))])))))))))) ?_
  repeat' first|refine Kf ?_|intro _|constructor
  refine Ku rfl (Zfq (p:=q3) (q:=p) n3 np (by decide)) ?_
  repeat' first|refine Kf ?_|intro _|constructor
  refine TL.yield rfl rfl rfl rfl hL.symm (hyk _ _ _ _ _ _) ?_
  rintro v Bs (⟨rfl,hI1,rfl⟩|⟨rfl,Z,hZ,rfl⟩)
  ·repeat' first|refine Kz ?_|intro _
   exact Post.round (k+1) ⟨by omega,hI1⟩ (by omega) Zad Zaa
  ·repeat' first|refine Kz ?_|intro _
   (refine Zac ?_)
   exact ⟨_,.inr ⟨_,_,by omega,hZ,rfl⟩,Ents.trans Zb3 Zb3⟩
 ·repeat' first|refine Kz ?_|intro _
  (refine Zac ?_)
  have:k=fcs.length:=by omega
  subst this
  refine ⟨_,.inl ⟨hI,rfl⟩,Ents.perm (List.Perm.cons _ (show ((Ent.cl b [pv,fv] 33::.cl c [.int .i64 p.x,.int .i64 p.y,.int .i64 p.z] 139::As)++Y fcs.length).Perm _ from List.perm_append_comm))⟩
end Go.Proofs.YtbfgldlfciimiaaGreatDoor
namespace Go.Sx
open Go
def onAt (P:List V3) (p f:V3):Bool:=onT axP (relV P p f.x) (relV P p f.y) (relV P p f.z)
theorem Yau {P F:List V3} {p:V3} (h:∀ j < F.length,∀ f,F[j]?=some f→onAt P p f=false):onM axP P F p=false:=by
 unfold onM
 rw [List.any_eq_false]
 intro f hf
 obtain ⟨j,hj⟩:=List.getElem?_of_mem hf
 have hlt:=(List.getElem?_eq_some_iff.1 hj).1
 have:=h j hlt f hj
 unfold onAt at this
 rw [this];simp
theorem Yat {P F:List V3} {p f:V3} {j:Nat} (hj:F[j]?=some f) (h:onAt P p f=true):onM axP P F p=true:=by
 unfold onM
 rw [List.any_eq_true]
 exact ⟨f,List.mem_of_getElem? hj,h⟩
end Go.Sx
namespace Go.Proofs.YtbfgldlfciimiaaGreatDoor
open Go Go.Sx
variable {w0:World} {As:List Ent} {pv fv:Value} {pts fcs:List V3}
set_option maxRecDepth 100000 in
set_option maxHeartbeats 2000000 in
theorem Yef (ht:Tab w0) {p:V3} [RdIn As fv V3 cV3 fcs] [RdIn As pv V3 cV3 pts] (hs:Seeable pts fcs p) :
  CQ Tryz.prog w0 34 [.agg #[pv,fv],p.val] As (.bool (onM axP pts fcs p)):=by
 refine Zab Tryz.func34 rfl Tryz.ntmps34 rfl ?_
 show Tri _ _ _ _ (env0 0 [.agg #[pv,fv],.agg #[.int .i64 p.x,.int .i64 p.y,.int .i64 p.z]]) _ _
 repeat' first|refine Kz ?_|intro _
 refine TL.callv rfl rfl rfl rfl (Zuw (pv:=pv) (fv:=fv) (p:=p)) ?_
 rintro v Bs ⟨b,c,rfl,rfl⟩
 repeat' first|refine Kz ?_|intro _
 rename_i b2 b3 b4
 refine Zdr rfl (fun pd As'=>(pd=none∧onM axP pts fcs p=false∧As'=.cl b2 [pv,fv] 33::.cl b3 [.int .i64 p.x,.int .i64 p.y,.int .i64 p.z] 139::.cl b4 [.bool false] 4::As) ∨
  (pd=some .ret∧onM axP pts fcs p=true∧As'=.cl b2 [pv,fv] 33::.cl b3 [.int .i64 p.x,.int .i64 p.y,.int .i64 p.z] 139::.cl b4 [.bool true] 4::As)) ?_ ?_ ?_
 ·intro L l rb hL1 hL2 hL3 hL4 hL5 hok
  refine CallsS.ents ?_ (CallsS.mono (Zp2 (L:=L) (l:=l) (b:=b) (c:=c) (pv:=pv) (fv:=fv) (As:=As) (p:=p) (Y:=fun _=>[.ob rb (.deferred (some [])),.cl b2 [pv,fv] 33,.cl b3 [.int .i64 p.x,.int .i64 p.y,.int .i64 p.z] 139,.cl b4 [.bool false] 4])
   (I:=fun k=>∀ j < k,∀ f,fcs[j]?=some f→onAt pts p f=false)
   (R:=fun k Z=>(∃ f,fcs[k]?=some f∧onAt pts p f=true)∧Z=[.ob l (.loop { L with state:=.done,pending:=some .ret }),.ob rb (.deferred (some [])),.cl b2 [pv,fv] 33,.cl b3 [.int .i64 p.x,.int .i64 p.y,.int .i64 p.z] 139,.cl b4 [.bool true] 4])
   hs (by rw [hL3];rfl) (fun j h=>by omega) ?_) ?_)
  ·simp only [List.cons_append,List.nil_append]
   (exact Zaa)
  ·intro k f hk hf hI F
   have hfm:=List.mem_of_getElem? hf
   obtain ⟨n1,n2,n3⟩:=hs.rel hfm
   have hO:onAt pts p f=onT axP (relV pts p f.x) (relV pts p f.y) (relV pts p f.z):=rfl
   have hI':onAt pts p f=false→∀ j < k+1,∀ f,fcs[j]?=some f→onAt pts p f=false:=fun h j hj g hg=>by
    rcases Nat.lt_or_ge j k with h1|h1
    ·exact hI j h1 g hg
    ·rw [show j=k from by omega,hf] at hg
     rw [← Option.some.inj hg];exact h
   generalize relV pts p f.x=x1 at *
   generalize relV pts p f.y=x2 at *
   generalize relV pts p f.z=x3 at *
   refine YieldS.of (ps:=[10,11]) hL3 hL4 hL5 rfl (by decide) hok ?_
   show Tri _ _ _ _ ((10,_)::(11,.agg #[.int .i64 x1.x,.int .i64 x1.y,.int .i64 x1.z,.int .i64 x2.x,.int .i64 x2.y,.int .i64 x2.z,.int .i64 x3.x,.int .i64 x3.y,.int .i64 x3.z])::_) (.ob l (.loop L)::.ob rb _::.cl b2 _ _::.cl b3 _ _::.cl b4 _ _::F) _
   repeat' first|refine Kz ?_|intro _
   refine Post.beginRound hL1 ?_
   repeat' first|refine Kz ?_|intro _
   refine Ks rfl (Zs9 ht (a:=x1) (b:=x2) (c:=x3) n1 n2 n3) ?_
   rw [← hO]
   cases hv:onAt pts p f with
   | true =>
    repeat' first|refine Kz ?_|intro _
    refine Zb6 ⟨_,.inr ⟨rfl,_,⟨⟨f,hf,hv⟩,rfl⟩,rfl⟩,?_⟩
    simp only [List.cons_append,List.nil_append]
    (exact Zaa)
   | false =>
    repeat' first|refine Kz ?_|intro _
    refine Post.endRound ⟨_,.inl ⟨rfl,hI' hv,rfl⟩,?_⟩
    simp only [List.cons_append,List.nil_append]
    rw [show ({ L with state:=.ready,pending:=none }:Loop)=L from by cases L;simp only at hL1 hL2;subst hL1 hL2;rfl]
    (exact Zaa)
  ·rintro v Bs (⟨hI,rfl⟩|⟨k,Z,hk,⟨⟨f,hf,hv⟩,rfl⟩,rfl⟩)
   ·refine ⟨.ready,none,_,.inl ⟨rfl,Yau hI,rfl⟩,by simp,?_⟩
    simp only [List.cons_append,List.nil_append]
    rw [show ({ L with state:=.ready,pending:=none }:Loop)=L from by cases L;simp only at hL1 hL2;subst hL1 hL2;rfl]
    (exact Zaa)
   ·refine ⟨.done,some .ret,_,.inr ⟨rfl,Yat hf hv,rfl⟩,by simp,?_⟩
    simp only [List.cons_append,List.nil_append]
    (exact Zaa)
 ·rintro As' (⟨_,h,rfl⟩|⟨h,_⟩)
  ·intro rb
   rw [h]
   repeat' first|refine Kz ?_|intro _
   refine Zb0 ?_
   exact Kv
  ·cases h
 ·rintro c As' (⟨h,_,_⟩|⟨h,h1,rfl⟩)
  ·cases h
  ·cases h
   intro rb
   rw [h1]
   repeat' first|refine Kz ?_|intro _
   refine Zb0 ?_
   exact Kv
end Go.Proofs.YtbfgldlfciimiaaGreatDoor
