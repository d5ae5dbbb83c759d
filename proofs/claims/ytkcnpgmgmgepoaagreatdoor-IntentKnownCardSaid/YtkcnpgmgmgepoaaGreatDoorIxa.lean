/- Walks: inside: where a ray meets a mesh first. -/
import Derived.Test.YtkcnpgmgmgepoaaGreatDoorIx9
import Derived.Test.YtkcnpgmgmgepoaaGreatDoorSxP
namespace Go.Sx
open Go
theorem cut3S_fit {s t:Spn} {a b c d:V3} {κ:Nat} {n:V3} (hs:s.fit) (ha:a.in 400000) (hb:b.in 400000) (hc:c.in 400000) (hd:d.in 3243601) (h:cut3S s κ n a b c d=some t):t.fit:=by
 unfold cut3S at h
 rw [Option.bind_eq_some_iff] at h
 obtain ⟨s2,h2,h3⟩:=h
 rw [Option.bind_eq_some_iff] at h2
 obtain ⟨s1,h1,h2⟩:=h2
 have f1:=hs.cut (hfU_in ha hb) (hfV_in ha hb hd) h1
 have f2:=f1.cut (hfU_in hb hc) (hfV_in hb hc hd) h2
 exact f2.cut (hfU_in hc ha) (hfV_in hc ha hd) h3
theorem metP_fit {q:Bool} {a b c d:V3} {t:Rat} (ha:a.in 400000) (hb:b.in 400000) (hc:c.in 400000) (hd:d.in 400000) (hd0:d≠V3.zero) (h:metP q a b c d=some t):Fit 19 t:=by
 have hd3:d.in 3243601:=V3.in_mono hd (by decide)
 unfold metP at h
 split at h
 ·rename_i hD
  split at h
  ·cases h
  ·rename_i hm
   split at h
   ·rw [← Option.some.inj h]
    have bD:=det_in (l:=400000) (m:=400000) (n:=400000) (by decide) (by decide) (by decide) ha hb hc
    have g1:=det_in (l:=400000) (m:=400000) (n:=400000) (by decide) (by decide) (by decide) hd hb hc
    have g2:=det_in (l:=400000) (m:=400000) (n:=400000) (by decide) (by decide) (by decide) ha hd hc
    have g3:=det_in (l:=400000) (m:=400000) (n:=400000) (by decide) (by decide) (by decide) ha hb hd
    exact fit_qI (by omega) (by omega) (met_total hd0 hD hm)
   ·cases h
 ·split at h
  ·split at h
   ·rw [← Option.some.inj h];exact fit0
   ·cases h
  ·rw [Option.map_eq_some_iff] at h
   obtain ⟨s,h1,rfl⟩:=h
   exact (cut3S_fit (path_fit q) ha hb hc hd3 h1).1
def bestC:Option (Rat × Nat)→List Value
 | none=>[.string ⟨#[]⟩,.string ⟨#[]⟩,.int .i64 (-1)]
 | some (t,j)=>[.string ⟨(tN t).toArray⟩,.string ⟨(tD t).toArray⟩,.int .i64 (j:Int)]
def bestFit:Option (Rat × Nat)→Prop
 | none=>True
 | some (t,_)=>Fit 19 t
theorem bestS_fit {b:Option (Rat × Nat)} {k:Nat} {o:Option Rat} (hb:bestFit b) (ho:∀ t,o=some t→Fit 19 t):bestFit (bestS b k o):=by
 unfold bestS
 cases o with
 | none=>exact hb
 | some t =>
  cases b with
  | none=>exact ho t rfl
  | some b =>
   obtain ⟨u,j⟩:=b
   simp only
   split
   ·exact ho t rfl
   ·exact hb
def meetV (t:Rat) (j:Nat):Value:=.agg #[.string ⟨(tN t).toArray⟩,.string ⟨(tD t).toArray⟩,.int .i64 (j:Int)]
end Go.Sx
namespace Go.Proofs.YtkcnpgmgmgepoaaGreatDoor
open Go Go.Sx
variable {w0:World} {As:List Ent} {pv fv:Value} {pts fcs:List V3}
def firE (As:List Ent) (o:Option (Rat × Nat)) (v:Value) (Bs:List Ent):Prop:=∃ t j,o=some (t,j)∧v=meetV t j∧Bs=As
def firT (As:List Ent) (o:Option (Rat × Nat)) (v:Value) (Bs:List Ent):Prop:=o=none∧v=failV 4∧Bs=As
set_option maxRecDepth 100000 in
set_option maxHeartbeats 4000000 in
theorem ifirst_ok (ht:Tab w0) {q:Bool} {p d:V3} [RdIn As fv V3 cV3 fcs] [RdIn As pv V3 cV3 pts] (hs:Seeable pts fcs p) (hd:d.in 400000) (hd0:d≠V3.zero) :
  CallsE Tryz.prog w0 104 [.agg #[pv,fv],p.val,d.val,spnV (path0 q)] As
   (firE As (firstK (fun f=>metP q (relV pts p f.x) (relV pts p f.y) (relV pts p f.z) d) fcs fcs.length)) (firT As (firstK (fun f=>metP q (relV pts p f.x) (relV pts p f.y) (relV pts p f.z) d) fcs fcs.length)):=by
 refine CallsE.of_triM Tryz.func104 rfl Tryz.ntmps104 rfl ?_
 show Tri _ _ _ _ (env0 0 [.agg #[pv,fv],.agg #[.int .i64 p.x,.int .i64 p.y,.int .i64 p.z],.agg #[.int .i64 d.x,.int .i64 d.y,.int .i64 d.z],.agg #[.string ⟨(tN 0).toArray⟩,.string ⟨(tD 0).toArray⟩,.string ⟨(tN 1).toArray⟩,.string ⟨(tD 1).toArray⟩,.bool q]]) _ _
 have hlF:=hs.lenF
 obtain ⟨g,hg⟩:∃ g:V3→Option Rat,g=(fun f=>metP q (relV pts p f.x) (relV pts p f.y) (relV pts p f.z) d):=⟨_,rfl⟩
 rw [← hg]
 have hfit:∀ k,k≤fcs.length→bestFit (firstK g fcs k):=by
  intro k
  induction k with
  | zero=>intro _;exact trivial
  | succ k ih =>
   intro hk
   obtain ⟨f,hf⟩:∃ f,fcs[k]?=some f:=⟨_,List.getElem?_eq_getElem (by omega)⟩
   obtain ⟨n1,n2,n3⟩:=hs.rel (List.mem_of_getElem? hf)
   unfold firstK
   rw [hf,Option.bind_some]
   exact bestS_fit (ih (by omega)) fun t h=>metP_fit n1 n2 n3 hd hd0 (by rw [hg] at h;exact h)
 (repeat' first|(refine Ka ?_;first|refine Kb ?_|(refine Kc ?_;intro _))|refine Kd ?_|refine Kh ?_)
 refine TL.f rfl rfl (ExF.build (vs:=[.int .i64 (-1)]) (l:=[.string ⟨#[]⟩,.string ⟨#[]⟩,.int .i64 (-1)]) rfl (fun w=>by kernel_rfl)) ?_
 (repeat' first|(refine Ka ?_;first|refine Kb ?_|(refine Kc ?_;intro _))|refine Kd ?_|refine Kh ?_)
 refine TL.callv rfl rfl rfl rfl (seen_ok (pv:=pv) (fv:=fv) (p:=p)) ?_
 rintro v Bs ⟨b,c,rfl,rfl⟩
 (repeat' first|(refine Ka ?_;first|refine Kb ?_|(refine Kc ?_;intro _))|refine Kd ?_|refine Kh ?_)
 rename_i b4 b5 b6 b7 b8 b9
 refine Tri.rangeFn rfl (fun pd As'=>pd=none∧As'=.cl b4 [pv,fv] 30::.cl b5 [.int .i64 p.x,.int .i64 p.y,.int .i64 p.z] 169::.cl b6 [.int .i64 d.x,.int .i64 d.y,.int .i64 d.z] 169::.cl b7 [.string ⟨(tN 0).toArray⟩,.string ⟨(tD 0).toArray⟩,.string ⟨(tN 1).toArray⟩,.string ⟨(tD 1).toArray⟩,.bool q] 172::.cl b8 [.string ⟨#[]⟩,.string ⟨#[]⟩,.int .i64 0] 165::.cl b9 (bestC (firstK g fcs fcs.length)) 165::As) ?_ ?_ ?_
 ·intro L l rb hL1 hL2 hL3 hL4 hL5 hok
  refine CallsS.ents ?_ (CallsS.mono (seen1_ok (L:=L) (l:=l) (b:=b) (c:=c) (pv:=pv) (fv:=fv) (As:=As) (p:=p) (Y:=fun k=>[.ob rb (.deferred (some [])),.cl b4 [pv,fv] 30,.cl b5 [.int .i64 p.x,.int .i64 p.y,.int .i64 p.z] 169,.cl b6 [.int .i64 d.x,.int .i64 d.y,.int .i64 d.z] 169,.cl b7 [.string ⟨(tN 0).toArray⟩,.string ⟨(tD 0).toArray⟩,.string ⟨(tN 1).toArray⟩,.string ⟨(tD 1).toArray⟩,.bool q] 172,.cl b8 [.string ⟨#[]⟩,.string ⟨#[]⟩,.int .i64 0] 165,.cl b9 (bestC (firstK g fcs k)) 165])
   (I:=fun _=>True) (R:=fun _ _=>False) hs (by rw [hL3];rfl) trivial ?_) ?_)
  ·simp only [List.cons_append,List.nil_append]
   show Ents _ (_::_::_::_::_::_::_::.cl b9 [.string ⟨#[]⟩,.string ⟨#[]⟩,.int .i64 (-1)] _::_)
   (exact Ents.au)
  ·intro k f hk hf _ F
   have hfm:=List.mem_of_getElem? hf
   obtain ⟨n1,n2,n3⟩:=hs.rel hfm
   have hK:firstK g fcs (k+1)=bestS (firstK g fcs k) k (metP q (relV pts p f.x) (relV pts p f.y) (relV pts p f.z) d):=by
        show bestS (firstK g fcs k) k ((fcs[k]?).bind g)=_
        rw [hf,Option.bind_some,hg]
   have hb:=hfit k (by omega)
   have ho:∀ t,metP q (relV pts p f.x) (relV pts p f.y) (relV pts p f.z) d=some t→Fit 19 t:=fun t h=>metP_fit n1 n2 n3 hd hd0 h
   rw [hK]
   have hmet:=fun (Bs:List Ent)=>imet_ok (As:=Bs) ht (q:=q) (a:=relV pts p f.x) (b:=relV pts p f.y) (c:=relV pts p f.z) (d:=d) n1 n2 n3 hd hd0
   generalize metP q (relV pts p f.x) (relV pts p f.y) (relV pts p f.z) d=o at *
   generalize relV pts p f.x=x1 at *
   generalize relV pts p f.y=x2 at *
   generalize relV pts p f.z=x3 at *
   generalize firstK g fcs k=B at *
   refine YieldS.of (ps:=[18,19]) hL3 hL4 hL5 rfl (by decide) hok ?_
   show Tri _ _ _ _ ((18,_)::(19,.agg #[.int .i64 x1.x,.int .i64 x1.y,.int .i64 x1.z,.int .i64 x2.x,.int .i64 x2.y,.int .i64 x2.z,.int .i64 x3.x,.int .i64 x3.y,.int .i64 x3.z])::_) (.ob l (.loop L)::.ob rb _::.cl b4 _ _::.cl b5 _ _::.cl b6 _ _::.cl b7 _ _::.cl b8 _ _::.cl b9 _ _::F) _
   (repeat' first|(refine Ka ?_;first|refine Kb ?_|(refine Kc ?_;intro _))|refine Kd ?_|refine Kh ?_)
   refine Post.beginRound hL1 ?_
   (repeat' first|(refine Ka ?_;first|refine Kb ?_|(refine Kc ?_;intro _))|refine Kd ?_|refine Kh ?_)
   refine TL.callv rfl rfl rfl rfl (hmet _) ?_
   rintro _ _ ⟨⟨x,y,rfl,hxy⟩,rfl⟩
   cases o with
   | none =>
        (repeat' first|(refine Ka ?_;first|refine Kb ?_|(refine Kc ?_;intro _))|refine Kd ?_|refine Kh ?_)
        refine Post.endRound ⟨_,.inl ⟨rfl,trivial,rfl⟩,?_⟩
        simp only [List.cons_append,List.nil_append]
        rw [show ({ L with state:=.ready,pending:=none }:Loop)=L from by cases L;simp only at hL1 hL2;subst hL1 hL2;rfl]
        show Ents _ (_::_::_::_::_::_::_::.cl b9 (bestC B) _::_)
        (exact Ents.au)
   | some t =>
        obtain ⟨rfl,rfl⟩:=hxy t rfl
        have ft:Fit 600 t:=(ho t rfl).mono (by decide)
        cases B with
        | none =>
        simp only [bestS,bestC]
        (repeat' first|(refine Ka ?_;first|refine Kb ?_|(refine Kc ?_;intro _))|refine Kd ?_|refine Kh ?_)
        refine Post.endRound ⟨_,.inl ⟨rfl,trivial,rfl⟩,?_⟩
        simp only [List.cons_append,List.nil_append]
        rw [show ({ L with state:=.ready,pending:=none }:Loop)=L from by cases L;simp only at hL1 hL2;subst hL1 hL2;rfl]
        (exact Ents.au)
        | some B =>
        obtain ⟨u,j⟩:=B
        have fu:Fit 600 u:=Fit.mono (k:=19) hb (by decide)
        have hor:=@ordQ_lt t u
        simp only [bestS,bestC]
        (repeat' first|(refine Ka ?_;first|refine Kb ?_|(refine Kc ?_;intro _))|refine Kd ?_|refine Kh ?_)
        refine Ks rfl rfl rfl rfl (cmpR_okQ (r:=t) (s:=u) ft fu) ?_
        (repeat' first|(refine Ka ?_;first|refine Kb ?_|(refine Kc ?_;intro _))|refine Kd ?_|refine Kh ?_)
        refine Kt rfl rfl rfl needI_ok ?_
        by_cases htu:t < u
        ·have ho:=hor.2 htu
         rw [if_pos htu]
         generalize ordQ t u=O at ho ⊢
         (repeat' first|(refine Ka ?_;first|refine Kb ?_|(refine Kc ?_;intro _))|refine Kd ?_|refine Kh ?_)
         refine Post.endRound ⟨_,.inl ⟨rfl,trivial,rfl⟩,?_⟩
         simp only [List.cons_append,List.nil_append]
         rw [show ({ L with state:=.ready,pending:=none }:Loop)=L from by cases L;simp only at hL1 hL2;subst hL1 hL2;rfl]
         (exact Ents.au)
        ·have ho:¬ ordQ t u < 0:=fun h=>htu (hor.1 h)
         rw [if_neg htu]
         generalize ordQ t u=O at ho ⊢
         (repeat' first|(refine Ka ?_;first|refine Kb ?_|(refine Kc ?_;intro _))|refine Kd ?_|refine Kh ?_)
         refine Post.endRound ⟨_,.inl ⟨rfl,trivial,rfl⟩,?_⟩
         simp only [List.cons_append,List.nil_append]
         rw [show ({ L with state:=.ready,pending:=none }:Loop)=L from by cases L;simp only at hL1 hL2;subst hL1 hL2;rfl]
         (exact Ents.au)
  ·rintro v Bs (⟨_,rfl⟩|⟨k,Z,hk,h,_⟩)
   ·refine ⟨.ready,none,_,⟨rfl,rfl⟩,by simp,?_⟩
    simp only [List.cons_append,List.nil_append]
    rw [show ({ L with state:=.ready,pending:=none }:Loop)=L from by cases L;simp only at hL1 hL2;subst hL1 hL2;rfl]
    (exact Ents.au)
   ·exact h.elim
 ·rintro As' ⟨_,rfl⟩
  intro rb
  have hb:=hfit fcs.length (Nat.le_refl _)
  generalize firstK g fcs fcs.length=B at *
  cases B with
  | none =>
   simp only [bestC]
   (repeat' first|(refine Ka ?_;first|refine Kb ?_|(refine Kc ?_;intro _))|refine Kd ?_|refine Kh ?_)
   refine TL.callP rfl rfl rfl (stop_ok (e:=4) (by decide)) ?_
   rintro _ _ ⟨rfl,rfl⟩
   (repeat' first|(refine Ka ?_;first|refine Kb ?_|(refine Kc ?_;intro _))|refine Kd ?_|refine Kh ?_)
   exact Post.throwsM ⟨_,⟨rfl,rfl,rfl⟩,by (exact Ents.au)⟩
  | some B =>
   obtain ⟨u,j⟩:=B
   simp only [bestC]
   (repeat' first|(refine Ka ?_;first|refine Kb ?_|(refine Kc ?_;intro _))|refine Kd ?_|refine Kh ?_)
   refine Post.mret ?_
   refine Post.unmark ?_
   (refine Post.ra ?_)
   exact ⟨_,⟨u,j,rfl,rfl,rfl⟩,by (exact Ents.au)⟩
 ·rintro c As' ⟨h,_⟩
  cases h
end Go.Proofs.YtkcnpgmgmgepoaaGreatDoor
namespace Go.Proofs.YtkcnpgmgmgepoaaGreatDoor
open Go Go.Sx
variable {w0:World} {As:List Ent} {pv fv:Value} {pts fcs:List V3}
theorem attM_idle {b2 b3:Nat}:DefS Tryz.prog w0 185 [.pointer (some ⟨b2,0,none⟩),.pointer (some ⟨b3,0,none⟩)] As .returning fun u' A=>u'=.returning∧A=As:=by
 refine DefS.idle Tryz.func185 rfl Tryz.ntmps185 rfl rfl rfl rfl rfl (fun _ _=>rfl) fun c0 cs=>?_
 refine TLS.f ?_
 refine TLS.nil ?_
 (repeat' first|(refine Ka ?_;first|refine Kb ?_|(refine Kc ?_;intro _))|refine Kd ?_|refine Kh ?_)
 refine TL.f rfl rfl (ExF.eqlNil rfl) ?_
 (repeat' first|(refine Ka ?_;first|refine Kb ?_|(refine Kc ?_;intro _))|refine Kd ?_|refine Kh ?_)
 exact Post.r2d ⟨_,⟨rfl,rfl⟩,by (exact Ents.au)⟩
def mtg0:List Value:=[.string ⟨#[]⟩,.string ⟨#[]⟩,.int .i64 0]
theorem attM_hit {b2 b3:Nat} {ev:Value} {e:Int}:DefS Tryz.prog w0 185 [.pointer (some ⟨b2,0,none⟩),.pointer (some ⟨b3,0,none⟩)] (.cl b2 [.string ⟨#[]⟩,.string ⟨#[]⟩,.int .i64 0] 165::.cl b3 [ev] 33::As) (.panicking (thrown (failV e)))
  fun u' A=>u'=.panicking (caught (failV e))∧A=.cl b2 [.string ⟨#[]⟩,.string ⟨#[]⟩,.int .i64 0] 165::.cl b3 [.int .i64 e] 33::As:=by
 refine DefS.hit Tryz.func185 rfl Tryz.ntmps185 rfl rfl rfl rfl rfl (fun _ _=>rfl) fun c0 cs=>?_
 refine TLS.f ?_
 refine TLS.nil ?_
 (repeat' first|(refine Ka ?_;first|refine Kb ?_|(refine Kc ?_;intro _))|refine Kd ?_|refine Kh ?_)
 refine TL.f rfl rfl (ExF.eqlHeld rfl) ?_
 (repeat' first|(refine Ka ?_;first|refine Kb ?_|(refine Kc ?_;intro _))|refine Kd ?_|refine Kh ?_)
 refine TL.f rfl rfl (ExF.assertHit rfl rfl) ?_
 (repeat' first|(refine Ka ?_;first|refine Kb ?_|(refine Kc ?_;intro _))|refine Kd ?_|refine Kh ?_)
 refine Post.r2n ?_
 exact Post.r2d ⟨_,⟨rfl,rfl⟩,by (exact Ents.au)⟩
def mtgE (As:List Ent) (o:Int ⊕ (Rat × Nat)) (v:Value) (Bs:List Ent):Prop:=∃ t j,o=.inr (t,j)∧v=meetV t j∧Bs=As
def mtgT (As:List Ent) (o:Int ⊕ (Rat × Nat)) (v:Value) (Bs:List Ent):Prop:=∃ e,o=.inl e∧v=failV e∧Bs=As
def mtgR:Int ⊕ (Rat × Nat)→Value
 | .inl e=>.tuple #[.agg #[.string ⟨#[]⟩,.string ⟨#[]⟩,.int .i64 0],.int .i64 e]
 | .inr (t,j)=>.tuple #[meetV t j,.int .i64 0]
theorem attM_ok {f:FuncId} {caps:List Value} {o:Int ⊕ (Rat × Nat)} [Body Tryz.prog f]
  (hc:∀ b2 b3,CallsE Tryz.prog w0 f caps (.cl b3 [.int .i64 0] 33::.cl b2 [.string ⟨#[]⟩,.string ⟨#[]⟩,.int .i64 0] 165::As) (mtgE (.cl b3 [.int .i64 0] 33::.cl b2 [.string ⟨#[]⟩,.string ⟨#[]⟩,.int .i64 0] 165::As) o) (mtgT (.cl b3 [.int .i64 0] 33::.cl b2 [.string ⟨#[]⟩,.string ⟨#[]⟩,.int .i64 0] 165::As) o)) :
  CallsS Tryz.prog w0 102 [.func (.func f) #[] caps.toArray] As fun r Bs=>r=mtgR o∧Bs=As:=by
 refine CallsS.of_triD Tryz.func102 rfl Tryz.ntmps102 rfl ?_
 (repeat' first|(refine Ka ?_;first|refine Kb ?_|(refine Kc ?_;intro _))|refine Kd ?_|refine Kh ?_)
 rename_i b2 b3
 refine TL.defer (vs:=[]) (fst:=[]) rfl rfl rfl ?_
 (repeat' first|(refine Ka ?_;first|refine Kb ?_|(refine Kc ?_;intro _))|refine Kd ?_|refine Kh ?_)
 refine TL.callvE (fst:=[]) (vs:=[]) (cap:=caps) rfl rfl rfl rfl (hc b2 b3) ?_ ?_
 ·rintro _ _ ⟨e,rfl,rfl,rfl⟩
  (repeat' first|(refine Ka ?_;first|refine Kb ?_|(refine Kc ?_;intro _))|refine Kd ?_|refine Kh ?_)
  refine Post.doorPanic rfl ((DefS.entsA (by (exact Ents.au)) (attM_hit (ev:=.int .i64 0) (e:=e) (As:=As))).mono ?_)
  rintro _ _ ⟨rfl,rfl⟩
  exact ⟨rfl,_,Res.r2,_,⟨rfl,rfl⟩,by (exact Ents.au)⟩
 ·rintro _ _ ⟨t,j,rfl,rfl,rfl⟩
  show TL _ _ _ _ _ ((_,.agg #[.string ⟨(tN t).toArray⟩,.string ⟨(tD t).toArray⟩,.int .i64 (j:Int)])::_) _ _
  (repeat' first|(refine Ka ?_;first|refine Kb ?_|(refine Kc ?_;intro _))|refine Kd ?_|refine Kh ?_)
  refine Post.doorRet rfl ((attM_idle).mono ?_)
  rintro _ _ ⟨rfl,rfl⟩
  exact ⟨rfl,_,Res.r2,_,⟨rfl,rfl⟩,by (exact Ents.au)⟩
set_option maxRecDepth 100000 in
set_option maxHeartbeats 4000000 in
theorem rayL_ok (ht:Tab w0) {b c c' c2:Nat} {p q:V3} {y:Bool} [RdIn As fv V3 cV3 fcs] [RdIn As pv V3 cV3 pts] :
  CallsE Tryz.prog w0 103 [.pointer (some ⟨b,0,none⟩),.pointer (some ⟨c,0,none⟩),.pointer (some ⟨c',0,none⟩),.pointer (some ⟨c2,0,none⟩)] (.cl b [pv,fv] 30::.cl c [.int .i64 p.x,.int .i64 p.y,.int .i64 p.z] 32::.cl c' [.int .i64 q.x,.int .i64 q.y,.int .i64 q.z] 32::.cl c2 [.bool y] 4::As)
   (mtgE (.cl b [pv,fv] 30::.cl c [.int .i64 p.x,.int .i64 p.y,.int .i64 p.z] 32::.cl c' [.int .i64 q.x,.int .i64 q.y,.int .i64 q.z] 32::.cl c2 [.bool y] 4::As) (rayW pts fcs p q y)) (mtgT (.cl b [pv,fv] 30::.cl c [.int .i64 p.x,.int .i64 p.y,.int .i64 p.z] 32::.cl c' [.int .i64 q.x,.int .i64 q.y,.int .i64 q.z] 32::.cl c2 [.bool y] 4::As) (rayW pts fcs p q y)):=by
 refine CallsE.of_tri Tryz.func103 rfl Tryz.ntmps103 rfl ?_
 unfold rayW
 (repeat' first|(refine Ka ?_;first|refine Kb ?_|(refine Kc ?_;intro _))|refine Kd ?_|refine Kh ?_)
 refine Kt rfl rfl rfl (check_ok (pts:=pts) (fcs:=fcs)) ?_
 by_cases hfl:(flawM pts fcs).1=0
 ·rw [if_neg (fun h=>h hfl),show chkM pts fcs=0 from if_pos hfl]
  have hg:Sx.Good pts fcs:=okM_good.1 hfl
  (repeat' first|(refine Ka ?_;first|refine Kb ?_|(refine Kc ?_;intro _))|refine Kd ?_|refine Kh ?_)
  refine Kt rfl rfl rfl stop0_ok ?_
  (repeat' first|(refine Ka ?_;first|refine Kb ?_|(refine Kc ?_;intro _))|refine Kd ?_|refine Kh ?_)
  refine Ks rfl rfl rfl rfl (ifar_ok (p:=p)) ?_
  cases hfar:isFar p with
  | true =>
   rw [if_pos (.inl rfl)]
   (repeat' first|(refine Ka ?_;first|refine Kb ?_|(refine Kc ?_;intro _))|refine Kd ?_|refine Kh ?_)
   refine TL.callP rfl rfl rfl (stop_ok (e:=2) (by decide)) ?_
   rintro _ _ ⟨rfl,rfl⟩
   (repeat' first|(refine Ka ?_;first|refine Kb ?_|(refine Kc ?_;intro _))|refine Kd ?_|refine Kh ?_)
   exact Post.throws rfl ⟨_,⟨_,rfl,rfl,rfl⟩,by (exact Ents.au)⟩
  | false =>
   (repeat' first|(refine Ka ?_;first|refine Kb ?_|(refine Kc ?_;intro _))|refine Kd ?_|refine Kh ?_)
   refine Ks rfl rfl rfl rfl (ifar_ok (p:=q)) ?_
   cases hfaq:isFar q with
   | true =>
        rw [if_pos (.inr (.inl rfl))]
        (repeat' first|(refine Ka ?_;first|refine Kb ?_|(refine Kc ?_;intro _))|refine Kd ?_|refine Kh ?_)
        refine TL.callP rfl rfl rfl (stop_ok (e:=2) (by decide)) ?_
        rintro _ _ ⟨rfl,rfl⟩
        (repeat' first|(refine Ka ?_;first|refine Kb ?_|(refine Kc ?_;intro _))|refine Kd ?_|refine Kh ?_)
        exact Post.throws rfl ⟨_,⟨_,rfl,rfl,rfl⟩,by (exact Ents.au)⟩
   | false =>
        (repeat' first|(refine Ka ?_;first|refine Kb ?_|(refine Kc ?_;intro _))|refine Kd ?_|refine Kh ?_)
        rw [show decide ((⟨p.x,p.y,p.z⟩:V3)=⟨q.x,q.y,q.z⟩)=decide (p=q) from rfl]
        by_cases hpq:p=q
        ·rw [if_pos (.inr (.inr hpq))]
         (repeat' first|(refine Ka ?_;first|refine Kb ?_|(refine Kc ?_;intro _))|refine Kd ?_|refine Kh ?_)
         refine TL.callP rfl rfl rfl (stop_ok (e:=2) (by decide)) ?_
         rintro _ _ ⟨rfl,rfl⟩
         (repeat' first|(refine Ka ?_;first|refine Kb ?_|(refine Kc ?_;intro _))|refine Kd ?_|refine Kh ?_)
         exact Post.throws rfl ⟨_,⟨_,rfl,rfl,rfl⟩,by (exact Ents.au)⟩
        ·rw [if_neg (by rintro (h|h|h);cases h;cases h;exact hpq h)]
         have hs:=hg.see hfar
         have hd:(q.sub p).in 400000:=sub_in (far_in hfaq) (far_in hfar)
         have hd0:q.sub p≠V3.zero:=fun h=>hpq (by
          rw [V3.eq_iff]
          simp only [V3.sub,V3.zero,V3.mk.injEq] at h
          omega)
         have hfir:=fun (Bs:List Ent) [RdIn Bs fv V3 cV3 fcs] [RdIn Bs pv V3 cV3 pts]=>ifirst_ok (As:=Bs) (pv:=pv) (fv:=fv) ht (q:=y) hs hd hd0
         unfold rayM
         generalize firstK (fun f=>metP y (relV pts p f.x) (relV pts p f.y) (relV pts p f.z) (q.sub p)) fcs fcs.length=o at *
         (repeat' first|(refine Ka ?_;first|refine Kb ?_|(refine Kc ?_;intro _))|refine Kd ?_|refine Kh ?_)
         refine Tri.dw (.cl b [pv,fv] 30::.cl c [.int .i64 p.x,.int .i64 p.y,.int .i64 p.z] 32::.cl c' [.int .i64 q.x,.int .i64 q.y,.int .i64 q.z] 32::.cl c2 [.bool y] 4::As) [] (.take 0 (.take 1 (.take 2 (.take 3 (.take 5 (.all [(4,.all [(6,.all [(7,.all [(8,.done)])])])])))))) ?_
         (repeat' first|(refine Ka ?_;first|refine Kb ?_|(refine Kc ?_;intro _))|refine Kd ?_|(refine Ki ?_;refine Kj ?_)|exact Kk|refine Kl ?_ ?_|(refine Km ?_;first|refine Kn ?_|(refine Ko ?_;intro _))|(refine Kp ?_;first|refine Kq ?_|refine Kr ?_)|refine Kh ?_)
         refine Ku rfl rfl rfl rfl rfl (ilessV_ok (p:=q) (q:=p) (far_in hfaq) (far_in hfar) (by decide)) ?_
         (repeat' first|(refine Ka ?_;first|refine Kb ?_|(refine Kc ?_;intro _))|refine Kd ?_|(refine Ki ?_;refine Kj ?_)|exact Kk|refine Kl ?_ ?_|(refine Km ?_;first|refine Kn ?_|(refine Ko ?_;intro _))|(refine Kp ?_;first|refine Kq ?_|refine Kr ?_)|refine Kh ?_)
         refine Ku rfl rfl rfl rfl rfl (ipath_ok ht (b:=y)) ?_
         (repeat' first|(refine Ka ?_;first|refine Kb ?_|(refine Kc ?_;intro _))|refine Kd ?_|(refine Ki ?_;refine Kj ?_)|exact Kk|refine Kl ?_ ?_|(refine Km ?_;first|refine Kn ?_|(refine Ko ?_;intro _))|(refine Kp ?_;first|refine Kq ?_|refine Kr ?_)|refine Kh ?_)
         refine T1.callvE rfl rfl rfl rfl rfl (hfir _) ?_ ?_
         ·rintro _ _ ⟨rfl,rfl,rfl⟩
          (repeat' first|(refine Ka ?_;first|refine Kb ?_|(refine Kc ?_;intro _))|refine Kd ?_|(refine Ki ?_;refine Kj ?_)|exact Kk|refine Kl ?_ ?_|(refine Km ?_;first|refine Kn ?_|(refine Ko ?_;intro _))|(refine Kp ?_;first|refine Kq ?_|refine Kr ?_)|refine Kh ?_)
          exact Post.throws rfl ⟨_,⟨_,rfl,rfl,rfl⟩,by (exact Ents.au)⟩
         ·rintro _ _ ⟨t,j,rfl,rfl,rfl⟩
          (repeat' first|(refine Ka ?_;first|refine Kb ?_|(refine Kc ?_;intro _))|refine Kd ?_|(refine Ki ?_;refine Kj ?_)|exact Kk|refine Kl ?_ ?_|(refine Km ?_;first|refine Kn ?_|(refine Ko ?_;intro _))|(refine Kp ?_;first|refine Kq ?_|refine Kr ?_)|refine Kh ?_)
          refine Post.eret ?_
          (refine Post.ra ?_)
          exact ⟨_,⟨t,j,rfl,rfl,rfl⟩,by (exact Ents.au)⟩
 ·rw [if_pos hfl,show chkM pts fcs=350 from if_neg hfl]
  (repeat' first|(refine Ka ?_;first|refine Kb ?_|(refine Kc ?_;intro _))|refine Kd ?_|refine Kh ?_)
  refine TL.callP rfl rfl rfl (stop_ok (e:=350) (by decide)) ?_
  rintro _ _ ⟨rfl,rfl⟩
  (repeat' first|(refine Ka ?_;first|refine Kb ?_|(refine Kc ?_;intro _))|refine Kd ?_|refine Kh ?_)
  exact Post.throws rfl ⟨_,⟨_,rfl,rfl,rfl⟩,by (exact Ents.au)⟩
def rayR:Int ⊕ (Rat × Nat)→Value
 | .inl e=>.tuple #[.agg #[.string ⟨#[]⟩,.string ⟨#[]⟩],.int .i64 0,.int .i64 e]
 | .inr (t,j)=>.tuple #[.agg #[.string ⟨(tN t).toArray⟩,.string ⟨(tD t).toArray⟩],.int .i64 (j:Int),.int .i64 0]
set_option maxRecDepth 100000 in
theorem ray_ok (ht:Tab w0) {p q:V3} {y:Bool} [RdIn As fv V3 cV3 fcs] [RdIn As pv V3 cV3 pts] :
  CallsS Tryz.prog w0 37 [.agg #[pv,fv],p.val,q.val,.bool y] As fun r Bs=>r=rayR (rayW pts fcs p q y)∧Bs=As:=by
 refine CallsS.of_tri Tryz.func37 rfl Tryz.ntmps37 rfl ?_
 show Tri _ _ _ _ (env0 0 [.agg #[pv,fv],.agg #[.int .i64 p.x,.int .i64 p.y,.int .i64 p.z],.agg #[.int .i64 q.x,.int .i64 q.y,.int .i64 q.z],.bool y]) _ _
 (repeat' first|(refine Ka ?_;first|refine Kb ?_|(refine Kc ?_;intro _))|refine Kd ?_|refine Kh ?_)
 rename_i b4 b5 b6 b7 b8
 refine TL.call rfl rfl rfl (attM_ok (f:=103) (caps:=[.pointer (some ⟨b4,0,none⟩),.pointer (some ⟨b5,0,none⟩),.pointer (some ⟨b6,0,none⟩),.pointer (some ⟨b7,0,none⟩)]) (o:=rayW pts fcs p q y) ?_) ?_
 ·intro b2 b3
  refine CallsE.conv (rayL_ok (As:=.cl b3 [.int .i64 0] 33::.cl b2 [.string ⟨#[]⟩,.string ⟨#[]⟩,.int .i64 0] 165::.cl b8 [.string ⟨#[]⟩,.string ⟨#[]⟩] 67::As) ht (pv:=pv) (fv:=fv) (pts:=pts) (fcs:=fcs) (p:=p) (q:=q) (y:=y)) (by (exact Ents.au)) ?_ ?_
  ·rintro v A ⟨t,j,h1,h2,rfl⟩
   exact ⟨_,⟨t,j,h1,h2,rfl⟩,by (exact Ents.au)⟩
  ·rintro v A ⟨e,h1,h2,rfl⟩
   exact ⟨_,⟨e,h1,h2,rfl⟩,by (exact Ents.au)⟩
 rintro _ _ ⟨rfl,rfl⟩
 cases rayW pts fcs p q y with
 | inl e =>
  show TL _ _ _ _ _ ((_,.tuple #[.agg #[.string ⟨#[]⟩,.string ⟨#[]⟩,.int .i64 0],.int .i64 e])::_) _ _
  (repeat' first|(refine Ka ?_;first|refine Kb ?_|(refine Kc ?_;intro _))|refine Kd ?_|refine Kh ?_)
  rename_i b11
  refine Tri.dw [.cl b11 [.string ⟨#[]⟩,.string ⟨#[]⟩,.int .i64 0] 165] [] (.take 0 (.take 1 (.take 2 (.take 3 (.take 4 (.all [(5,.take 6 (.take 7 (.done)))])))))) ?_
  (repeat' first|(refine Ka ?_;first|refine Kb ?_|(refine Kc ?_;intro _))|refine Kd ?_|(refine Ki ?_;refine Kj ?_)|exact Kk|refine Kl ?_ ?_|(refine Km ?_;first|refine Kn ?_|(refine Ko ?_;intro _))|(refine Kp ?_;first|refine Kq ?_|refine Kr ?_)|refine Kh ?_)
  (refine Post.ra ?_)
  exact ⟨_,⟨rfl,rfl⟩,by (exact Ents.au)⟩
 | inr r =>
  obtain ⟨t,j⟩:=r
  show TL _ _ _ _ _ ((_,.tuple #[.agg #[.string ⟨(tN t).toArray⟩,.string ⟨(tD t).toArray⟩,.int .i64 (j:Int)],.int .i64 0])::_) _ _
  (repeat' first|(refine Ka ?_;first|refine Kb ?_|(refine Kc ?_;intro _))|refine Kd ?_|refine Kh ?_)
  rename_i b11
  refine Tri.dw [.cl b11 [.string ⟨(tN t).toArray⟩,.string ⟨(tD t).toArray⟩,.int .i64 (j:Int)] 165] [] (.take 0 (.take 1 (.take 2 (.take 3 (.take 4 (.all [(5,.take 6 (.take 7 (.done)))])))))) ?_
  (repeat' first|(refine Ka ?_;first|refine Kb ?_|(refine Kc ?_;intro _))|refine Kd ?_|(refine Ki ?_;refine Kj ?_)|exact Kk|refine Kl ?_ ?_|(refine Km ?_;first|refine Kn ?_|(refine Ko ?_;intro _))|(refine Kp ?_;first|refine Kq ?_|refine Kr ?_)|refine Kh ?_)
  (refine Post.ra ?_)
  exact ⟨_,⟨rfl,rfl⟩,by (exact Ents.au)⟩
end Go.Proofs.YtkcnpgmgmgepoaaGreatDoor
