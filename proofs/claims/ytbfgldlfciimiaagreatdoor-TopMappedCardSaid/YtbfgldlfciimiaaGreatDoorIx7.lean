/- Walks: inside: the winding number for a direction. -/
import Derived.Test.YtbfgldlfciimiaaGreatDoorIx4
import Derived.Test.YtbfgldlfciimiaaGreatDoorMa4
import Derived.Test.YtbfgldlfciimiaaGreatDoorPl
set_option maxHeartbeats 1000000
namespace Go.Sx
open Go
theorem Z3k (D p1 p2 p3:Int):-1≤hitS D p1 p2 p3∧hitS D p1 p2 p3≤1:=by
 unfold hitS
 split
 ·exact Zh5 D
 ·decide
theorem Z52 {P:List V3} {p d:V3}:∀ {F:List V3},-(F.length:Int)≤windM P F p d∧windM P F p d≤F.length:=by
 intro F
 unfold windM
 have key:∀ (F:List V3) (s:Int),s - F.length≤F.foldl (fun s f=>s+hitF P p d f) s∧F.foldl (fun s f=>s+hitF P p d f) s≤s+F.length:=by
  intro F
  induction F with
  | nil=>intro s;simp
  | cons f F ih =>
   intro s
   rw [List.foldl_cons,List.length_cons]
   have h1:=ih (s+hitF P p d f)
   have h2:=Z3k (det3 (relV P p f.x) (relV P p f.y) (relV P p f.z)) (det3 d (relV P p f.y) (relV P p f.z)) (det3 d (relV P p f.z) (relV P p f.x)) (det3 d (relV P p f.x) (relV P p f.y))
   have h3:hitF P p d f=hitS (det3 (relV P p f.x) (relV P p f.y) (relV P p f.z)) (det3 d (relV P p f.y) (relV P p f.z)) (det3 d (relV P p f.z) (relV P p f.x)) (det3 d (relV P p f.x) (relV P p f.y)):=rfl
   rw [← h3] at h2
   omega
 have:=key F 0
 omega
theorem Zy6 {P F:List V3} {p d f:V3} {k:Nat} (h:F[k]?=some f):windM P (F.take (k+1)) p d=windM P (F.take k) p d+hitF P p d f:=by
 unfold windM
 rw [List.take_add_one,h,List.foldl_append];rfl
def fineAt (P:List V3) (p d f:V3):Bool:=fineT d (relV P p f.x) (relV P p f.y) (relV P p f.z)
theorem Z7w {P F:List V3} {p d:V3} (h:∀ j < F.length,∀ f,F[j]?=some f→fineAt P p d f=true):fineB P F p d=true:=by
 unfold fineB
 rw [List.all_eq_true]
 intro f hf
 obtain ⟨j,hj⟩:=List.getElem?_of_mem hf
 exact h j (List.getElem?_eq_some_iff.1 hj).1 f hj
theorem Z7v {P F:List V3} {p d f:V3} {j:Nat} (hj:F[j]?=some f) (h:fineAt P p d f=false):fineB P F p d=false:=by
 unfold fineB
 rw [List.all_eq_false]
 exact ⟨f,List.mem_of_getElem? hj,by unfold fineAt at h;rw [h];simp⟩
end Go.Sx
namespace Go.Proofs.YtbfgldlfciimiaaGreatDoor
open Go Go.Sx
variable {w0:World} {As:List Ent} {pv fv:Value} {pts fcs:List V3}
set_option maxRecDepth 100000 in
set_option maxHeartbeats 4000000 in
theorem Zvp {p d:V3} [RdIn As fv V3 cV3 fcs] [RdIn As pv V3 cV3 pts] (hs:Seeable pts fcs p) (hd:d.in 3243601) :
  CQ Tryz.prog w0 73 [.agg #[pv,fv],p.val,d.val] As (.tuple #[.int .i64 (if fineB pts fcs p d then windM pts fcs p d else 0),.bool (fineB pts fcs p d)]):=by
 refine Zab Tryz.func73 rfl Tryz.ntmps73 rfl ?_
 show Tri _ _ _ _ (env0 0 [.agg #[pv,fv],.agg #[.int .i64 p.x,.int .i64 p.y,.int .i64 p.z],.agg #[.int .i64 d.x,.int .i64 d.y,.int .i64 d.z]]) _ _
 have hlF:=hs.lenF
 repeat' first|refine Kz ?_|intro _
 refine TL.callv rfl rfl rfl rfl (Zuw (pv:=pv) (fv:=fv) (p:=p)) ?_
 rintro v Bs ⟨b,c,rfl,rfl⟩
 repeat' first|refine Kz ?_|intro _
 rename_i b3 b4 b5 b6 b7
 refine Zdr rfl (fun pd As'=>(pd=none∧fineB pts fcs p d=true∧As'=.cl b3 [pv,fv] 33::.cl b4 [.int .i64 p.x,.int .i64 p.y,.int .i64 p.z] 139::.cl b5 [.int .i64 d.x,.int .i64 d.y,.int .i64 d.z] 139::.cl b6 [.int .i64 (windM pts fcs p d)] 3::.cl b7 [.bool false] 4::As) ∨
  (pd=some .ret∧fineB pts fcs p d=false∧As'=.cl b3 [pv,fv] 33::.cl b4 [.int .i64 p.x,.int .i64 p.y,.int .i64 p.z] 139::.cl b5 [.int .i64 d.x,.int .i64 d.y,.int .i64 d.z] 139::.cl b6 [.int .i64 0] 3::.cl b7 [.bool false] 4::As)) ?_ ?_ ?_
 ·intro L l rb hL1 hL2 hL3 hL4 hL5 hok
  refine CallsS.ents ?_ (CallsS.mono (Zp2 (L:=L) (l:=l) (b:=b) (c:=c) (pv:=pv) (fv:=fv) (As:=As) (p:=p) (Y:=fun k=>[.ob rb (.deferred (some [])),.cl b3 [pv,fv] 33,.cl b4 [.int .i64 p.x,.int .i64 p.y,.int .i64 p.z] 139,.cl b5 [.int .i64 d.x,.int .i64 d.y,.int .i64 d.z] 139,.cl b6 [.int .i64 (windM pts (fcs.take k) p d)] 3,.cl b7 [.bool false] 4])
   (I:=fun k=>∀ j < k,∀ f,fcs[j]?=some f→fineAt pts p d f=true)
   (R:=fun k Z=>(∃ f,fcs[k]?=some f∧fineAt pts p d f=false)∧Z=[.ob l (.loop { L with state:=.done,pending:=some .ret }),.ob rb (.deferred (some [])),.cl b3 [pv,fv] 33,.cl b4 [.int .i64 p.x,.int .i64 p.y,.int .i64 p.z] 139,.cl b5 [.int .i64 d.x,.int .i64 d.y,.int .i64 d.z] 139,.cl b6 [.int .i64 0] 3,.cl b7 [.bool false] 4])
   hs (by rw [hL3];rfl) (fun j h=>by omega) ?_) ?_)
  ·simp only [List.cons_append,List.nil_append]
   show Ents _ (_::_::_::_::_::.cl b6 [.int .i64 0] _::_)
   (exact Zaa)
  ·intro k f hk hf hI F
   have hfm:=List.mem_of_getElem? hf
   obtain ⟨n1,n2,n3⟩:=hs.rel hfm
   have hO:fineAt pts p d f=fineT d (relV pts p f.x) (relV pts p f.y) (relV pts p f.z):=rfl
   have hW:hitF pts p d f=hit3 d (relV pts p f.x) (relV pts p f.y) (relV pts p f.z):=rfl
   have hK:=Zy6 (P:=pts) (p:=p) (d:=d) hf
   rw [hW] at hK
   have hin:=Z52 (P:=pts) (p:=p) (d:=d) (F:=fcs.take k)
   have hlt:(fcs.take k).length≤1000000000:=by rw [List.length_take];omega
   have hI':fineAt pts p d f=true→∀ j < k+1,∀ f,fcs[j]?=some f→fineAt pts p d f=true:=fun h j hj g hg=>by
    rcases Nat.lt_or_ge j k with h1|h1
    ·exact hI j h1 g hg
    ·rw [show j=k from by omega,hf] at hg
     rw [← Option.some.inj hg];exact h
   generalize relV pts p f.x=x1 at *
   generalize relV pts p f.y=x2 at *
   generalize relV pts p f.z=x3 at *
   generalize windM pts (fcs.take k) p d=W at *
   have hle:W+hit3 d x1 x2 x3≤1000000001∧-1000000001≤W+hit3 d x1 x2 x3:=by
    have:-1≤hit3 d x1 x2 x3∧hit3 d x1 x2 x3≤1:=Z3k _ _ _ _
    omega
   refine YieldS.of (ps:=[17,18]) hL3 hL4 hL5 rfl (by decide) hok ?_
   show Tri _ _ _ _ ((17,_)::(18,.agg #[.int .i64 x1.x,.int .i64 x1.y,.int .i64 x1.z,.int .i64 x2.x,.int .i64 x2.y,.int .i64 x2.z,.int .i64 x3.x,.int .i64 x3.y,.int .i64 x3.z])::_) (.ob l (.loop L)::.ob rb _::.cl b3 _ _::.cl b4 _ _::.cl b5 _ _::.cl b6 _ _::.cl b7 _ _::F) _
   repeat' first|refine Kz ?_|intro _
   refine Post.beginRound hL1 ?_
   repeat' first|refine Kz ?_|intro _
   refine Ks rfl (Zmt (a:=x1) (b:=x2) (c:=x3) n1 n2 n3 (by decide) (by decide) (by decide)) ?_
   repeat' first|refine Kz ?_|intro _
   refine Kt rfl Zb1 ?_
   by_cases hD:det3 x1 x2 x3=0
   ·have hfi:fineAt pts p d f=true:=by rw [hO];unfold fineT;simp [hD]
    have hhit:hit3 d x1 x2 x3=0:=by unfold hit3 hitS;exact if_neg fun h=>h.1 hD
    rw [hhit,Int.add_zero] at hK
    rw [hD,Int.sign_zero]
    repeat' first|refine Kz ?_|intro _
    refine Post.endRound ⟨_,.inl ⟨rfl,hI' hfi,rfl⟩,?_⟩
    simp only [List.cons_append,List.nil_append]
    rw [hK,show ({ L with state:=.ready,pending:=none }:Loop)=L from by cases L;simp only at hL1 hL2;subst hL1 hL2;rfl]
    (exact Zaa)
   ·have hD':(det3 x1 x2 x3).sign≠0:=by rw [ne_eq,Int.sign_eq_zero_iff_zero];exact hD
    repeat' first|refine Kz ?_|intro _
    refine Ks rfl (Zo3 (a:=x1) (b:=x2) (c:=x3) (d:=d) n1 n2 n3 hd) ?_
    have hfT:fineT d x1 x2 x3=(decide (det3 d x2 x3≠0)&&decide (det3 x1 d x3≠0)&&decide (det3 x1 x2 d≠0)):=by
     unfold fineT;rw [decide_eq_false hD,Bool.false_or]
    rw [hfT] at hO
    have hh:hit3 d x1 x2 x3=hitS (det3 x1 x2 x3) (det3 d x2 x3) (det3 x1 d x3) (det3 x1 x2 d):=by
     unfold hit3;rw [cyc3 d x3 x1,Z78 d x1 x2]
    rw [hh] at hK hle
    unfold hitS at hK hle
    show TL _ _ _ _ _ ((_,.agg #[.int .i64 (det3 d x2 x3),.int .i64 (det3 x1 d x3),.int .i64 (det3 x1 x2 d)])::_) _ _
    clear hh hfT hW hin
    generalize det3 d x2 x3=s1 at *
    generalize det3 x1 d x3=s2 at *
    generalize det3 x1 x2 d=s3 at *
    generalize det3 x1 x2 x3=D at *
    repeat' first|refine Kz ?_|intro _
    refine Zao 4 ?_
    repeat' first|refine Kz ?_|intro _
    by_cases z1:s1=0
    ·have hv:fineAt pts p d f=false:=by rw [hO];simp [z1]
     repeat' first|refine Kz ?_|intro _
     refine Zb6 ⟨_,.inr ⟨rfl,_,⟨⟨f,hf,hv⟩,rfl⟩,rfl⟩,?_⟩
     simp only [List.cons_append,List.nil_append]
     (exact Zaa)
    ·by_cases h1:s1.sign=D.sign
     ·repeat' first|refine Kz ?_|intro _
      refine Kt rfl Zb1 ?_
      repeat' first|refine Kz ?_|intro _
      by_cases z2:s2=0
      ·have hv:fineAt pts p d f=false:=by rw [hO];simp [z2]
       repeat' first|refine Kz ?_|intro _
       refine Zb6 ⟨_,.inr ⟨rfl,_,⟨⟨f,hf,hv⟩,rfl⟩,rfl⟩,?_⟩
       simp only [List.cons_append,List.nil_append]
       (exact Zaa)
      ·by_cases h2:s2.sign=D.sign
       ·repeat' first|refine Kz ?_|intro _
        refine Kt rfl Zb1 ?_
        repeat' first|refine Kz ?_|intro _
        by_cases z3:s3=0
        ·have hv:fineAt pts p d f=false:=by rw [hO];simp [z3]
         repeat' first|refine Kz ?_|intro _
         refine Zb6 ⟨_,.inr ⟨rfl,_,⟨⟨f,hf,hv⟩,rfl⟩,rfl⟩,?_⟩
         simp only [List.cons_append,List.nil_append]
         (exact Zaa)
        ·by_cases h3:s3.sign=D.sign
         ·repeat' first|refine Kz ?_|intro _
          refine Kt rfl Zb1 ?_
          repeat' first|refine Kz ?_|intro _
          have hfi:fineAt pts p d f=true:=by rw [hO];simp [z1,z2,z3]
          rw [if_pos ⟨hD,h1,h2,h3⟩] at hK hle
          repeat' first|refine Kz ?_|intro _
          refine Post.endRound ⟨_,.inl ⟨rfl,hI' hfi,rfl⟩,?_⟩
          simp only [List.cons_append,List.nil_append]
          rw [hK,show ({ L with state:=.ready,pending:=none }:Loop)=L from by cases L;simp only at hL1 hL2;subst hL1 hL2;rfl]
          (exact Zaa)
         ·repeat' first|refine Kz ?_|intro _
          refine Kt rfl Zb1 ?_
          repeat' first|refine Kz ?_|intro _
          have hfi:fineAt pts p d f=true:=by rw [hO];simp [z1,z2,z3]
          rw [if_neg (fun h=>h3 h.2.2.2),Int.add_zero] at hK
          repeat' first|refine Kz ?_|intro _
          refine Post.endRound ⟨_,.inl ⟨rfl,hI' hfi,rfl⟩,?_⟩
          simp only [List.cons_append,List.nil_append]
          rw [hK,show ({ L with state:=.ready,pending:=none }:Loop)=L from by cases L;simp only at hL1 hL2;subst hL1 hL2;rfl]
          (exact Zaa)
       ·repeat' first|refine Kz ?_|intro _
        refine Kt rfl Zb1 ?_
        repeat' first|refine Kz ?_|intro _
        by_cases z3:s3=0
        ·have hv:fineAt pts p d f=false:=by rw [hO];simp [z3]
         repeat' first|refine Kz ?_|intro _
         refine Zb6 ⟨_,.inr ⟨rfl,_,⟨⟨f,hf,hv⟩,rfl⟩,rfl⟩,?_⟩
         simp only [List.cons_append,List.nil_append]
         (exact Zaa)
        ·repeat' first|refine Kz ?_|intro _
         have hfi:fineAt pts p d f=true:=by rw [hO];simp [z1,z2,z3]
         rw [if_neg (fun h=>h2 h.2.2.1),Int.add_zero] at hK
         repeat' first|refine Kz ?_|intro _
         refine Post.endRound ⟨_,.inl ⟨rfl,hI' hfi,rfl⟩,?_⟩
         simp only [List.cons_append,List.nil_append]
         rw [hK,show ({ L with state:=.ready,pending:=none }:Loop)=L from by cases L;simp only at hL1 hL2;subst hL1 hL2;rfl]
         (exact Zaa)
     ·repeat' first|refine Kz ?_|intro _
      refine Kt rfl Zb1 ?_
      repeat' first|refine Kz ?_|intro _
      by_cases z2:s2=0
      ·have hv:fineAt pts p d f=false:=by rw [hO];simp [z2]
       repeat' first|refine Kz ?_|intro _
       refine Zb6 ⟨_,.inr ⟨rfl,_,⟨⟨f,hf,hv⟩,rfl⟩,rfl⟩,?_⟩
       simp only [List.cons_append,List.nil_append]
       (exact Zaa)
      ·repeat' first|refine Kz ?_|intro _
       by_cases z3:s3=0
       ·have hv:fineAt pts p d f=false:=by rw [hO];simp [z3]
        repeat' first|refine Kz ?_|intro _
        refine Zb6 ⟨_,.inr ⟨rfl,_,⟨⟨f,hf,hv⟩,rfl⟩,rfl⟩,?_⟩
        simp only [List.cons_append,List.nil_append]
        (exact Zaa)
       ·repeat' first|refine Kz ?_|intro _
        have hfi:fineAt pts p d f=true:=by rw [hO];simp [z1,z2,z3]
        rw [if_neg (fun h=>h1 h.2.1),Int.add_zero] at hK
        repeat' first|refine Kz ?_|intro _
        refine Post.endRound ⟨_,.inl ⟨rfl,hI' hfi,rfl⟩,?_⟩
        simp only [List.cons_append,List.nil_append]
        rw [hK,show ({ L with state:=.ready,pending:=none }:Loop)=L from by cases L;simp only at hL1 hL2;subst hL1 hL2;rfl]
        (exact Zaa)
  ·rintro v Bs (⟨hI,rfl⟩|⟨k,Z,hk,⟨⟨f,hf,hv⟩,rfl⟩,rfl⟩)
   ·refine ⟨.ready,none,_,.inl ⟨rfl,Z7w hI,rfl⟩,by simp,?_⟩
    simp only [List.cons_append,List.nil_append]
    rw [List.take_length,show ({ L with state:=.ready,pending:=none }:Loop)=L from by cases L;simp only at hL1 hL2;subst hL1 hL2;rfl]
    (exact Zaa)
   ·refine ⟨.done,some .ret,_,.inr ⟨rfl,Z7v hf hv,rfl⟩,by simp,?_⟩
    simp only [List.cons_append,List.nil_append]
    (exact Zaa)
 ·rintro As' (⟨_,h,rfl⟩|⟨h,_⟩)
  ·intro rb
   rw [h,if_pos rfl]
   repeat' first|refine Kz ?_|intro _
   refine Zb0 ?_
   exact Kv
  ·cases h
 ·rintro c As' (⟨h,_,_⟩|⟨h,h1,rfl⟩)
  ·cases h
  ·cases h
   intro rb
   rw [h1,if_neg (by decide)]
   repeat' first|refine Kz ?_|intro _
   refine Zb0 ?_
   exact Kv
end Go.Proofs.YtbfgldlfciimiaaGreatDoor
namespace Go.Sx
open Go
theorem Z3s {P F:List V3} {p:V3} {T:Nat} (h:goodT P F p=some T):∀ j,1≤j→j < T→fineB P F p (dirT j)=false:=by
 intro j h1 h2
 unfold goodT at h
 rw [List.find?_eq_some_iff_getElem] at h
 obtain ⟨_,i,hi,he,hm⟩:=h
 rw [List.getElem_range'] at he
 rw [List.length_range'] at hi
 have:=hm (j - 1) (by omega)
 rw [List.getElem_range',show 1+1 * (j - 1)=j by omega] at this
 simpa using this
theorem Ybm {t:Nat} (h:t≤1801):(dirT t).in 3243601∧(t:Int) * (t:Int)≤3243601∧0≤(t:Int) * (t:Int):=by
 have h1:t * t≤1801 * 1801:=Nat.mul_le_mul h h
 have h2:((t * t:Nat):Int)=(t:Int) * (t:Int):=Int.natCast_mul t t
 have h3:(t:Int) * (t:Int)≤3243601:=by rw [← h2];omega
 have h4:0≤(t:Int) * (t:Int):=by rw [← h2];omega
 refine ⟨⟨?_,?_,?_,?_,?_,?_⟩,h3,h4⟩<;>simp only [dirT]<;>omega
end Go.Sx
namespace Go.Proofs.YtbfgldlfciimiaaGreatDoor
open Go Go.Sx
variable {w0:World} {As:List Ent} {pv fv:Value} {pts fcs:List V3}
theorem CallsE.ents {P:Program} {Bs:List Ent} {f:FuncId} {args:List Value} {K K2:Value→List Ent→Prop} (h:Ents As Bs) (k:CallsE P w0 f args Bs K K2):CallsE P w0 f args As K K2:=fun w hs=>k w (h w0 w hs)
theorem Zn0 {P:Program} {Bs:List Ent} {f:FuncId} {args:List Value} {K K2 K' K2':Value→List Ent→Prop} (h:CallsE P w0 f args Bs K K2) (h0:Ents As Bs) (k:∀ v A,K v A→∃ A',K' v A'∧Ents A A') (k2:∀ v A,K2 v A→∃ A',K2' v A'∧Ents A A'):CallsE P w0 f args As K' K2' :=
 fun w hs=>(h w (h0 w0 w hs)).mono fun _ w' ⟨v,As',h1,h3⟩=>by
  rcases h1 with ⟨e1,h1⟩|⟨e1,h1⟩
  ·obtain ⟨A',a1,a2⟩:=k v As' h1
   exact ⟨v,A',.inl ⟨e1,a1⟩,a2 w0 w' h3⟩
  ·obtain ⟨A',a1,a2⟩:=k2 v As' h1
   exact ⟨v,A',.inr ⟨e1,a1⟩,a2 w0 w' h3⟩
set_option maxRecDepth 100000 in
theorem Zz1 {p:V3} [RdIn As fv V3 cV3 fcs] [RdIn As pv V3 cV3 pts] (hs:Seeable pts fcs p) (hg:Sx.Good pts fcs) :
  CQ Tryz.prog w0 35 [.agg #[pv,fv],p.val] As (.int .i64 (windN pts fcs p)):=by
 obtain ⟨T,hT,h1,h2,h3⟩:=Zcc hg p
 have hm:=Z3s hT
 have hW:windN pts fcs p=windM pts fcs p (dirT T):=by unfold windN;rw [hT]
 have hF:=Yej.2 h3
 clear hT h3
 refine Zab Tryz.func35 rfl Tryz.ntmps35 rfl ?_
 show Tri _ _ _ _ (env0 0 [.agg #[pv,fv],.agg #[.int .i64 p.x,.int .i64 p.y,.int .i64 p.z]]) _ _
 repeat' first|refine Kz ?_|intro _
 rename_i b2 b3
 refine Tri.loop (ι:=Nat) (fun t=>1≤t∧t≤T) (fun t=>T - t) (fun t=>[(2,.pointer (some ⟨b2,0,none⟩)),(3,.pointer (some ⟨b3,0,none⟩)),(4,.int .i64 0),(5,.int .i64 (t:Int))])
  (fun _=>.cl b2 [pv,fv] 33::.cl b3 [.int .i64 p.x,.int .i64 p.y,.int .i64 p.z] 139::As) 1 ⟨by omega,h1⟩ Zad Zaa ?_
 intro t ⟨ht1,ht2⟩
 obtain ⟨hd,hq1,hq2⟩:=Ybm (t:=t) (by omega)
 repeat' first|refine Kz ?_|intro _
 refine Ks rfl (Zvp (pv:=pv) (fv:=fv) (pts:=pts) (fcs:=fcs) (p:=p) (d:=dirT t) hs hd) ?_
 by_cases he:t=T
 ·subst he
  rw [hF,if_pos rfl,← hW]
  repeat' first|refine Kz ?_|intro _
  exact Kv
 ·rw [hm t ht1 (by omega),if_neg (by decide)]
  repeat' first|refine Kz ?_|intro _
  exact Post.round (t+1) ⟨by omega,by omega⟩ (by omega) Zad Zaa
/-! what is thrown is caught -/
instance:IfT Tryz.prog 20:=⟨_,Tryz.underlying20⟩
theorem Z4q {b2 b3:Nat}:DefS Tryz.prog w0 70 [.pointer (some ⟨b2,0,none⟩),.pointer (some ⟨b3,0,none⟩)] As .returning fun u' A=>u'=.returning∧A=As:=by
 refine Zfy Tryz.func70 rfl Tryz.ntmps70 rfl rfl rfl rfl rfl (fun _ _=>rfl) fun c0 cs=>?_
 refine TLS.f ?_
 refine TLS.nil ?_
 repeat' first|refine Kz ?_|intro _
 refine TL.f rfl rfl (Zpr rfl) ?_
 repeat' first|refine Kz ?_|intro _
 exact Zcz ⟨_,⟨rfl,rfl⟩,Zaa⟩
theorem Z8j {b2 b3:Nat} {v ev:Value} {e:Int}:DefS Tryz.prog w0 70 [.pointer (some ⟨b2,0,none⟩),.pointer (some ⟨b3,0,none⟩)] (.cl b2 [v] 3::.cl b3 [ev] 34::As) (.panicking (thrown (failV e)))
  fun u' A=>u'=.panicking (caught (failV e))∧A=.cl b2 [.int .i64 0] 3::.cl b3 [.int .i64 e] 34::As:=by
 refine Zhz Tryz.func70 rfl Tryz.ntmps70 rfl rfl rfl rfl rfl (fun _ _=>rfl) fun c0 cs=>?_
 refine TLS.f ?_
 refine TLS.nil ?_
 repeat' first|refine Kz ?_|intro _
 refine TL.f rfl rfl (Zny rfl) ?_
 repeat' first|refine Kz ?_|intro _
 refine TL.f rfl rfl (Zea rfl rfl) ?_
 repeat' first|refine Kz ?_|intro _
 refine Zdu ?_
 exact Zcz ⟨_,⟨rfl,rfl⟩,Zaa⟩
theorem Zfz {P:Program} {f:FuncId} {args:List Value} {Bs:List Ent} {u:FrameMode} {K:FrameMode→List Ent→Prop} (h:Ents As Bs) (k:DefS P w0 f args Bs u K):DefS P w0 f args As u K:=fun w hs=>k w (h w0 w hs)
def outE (As:List Ent) (n e:Int) (v:Value) (Bs:List Ent):Prop:=e=0∧v=.int .i64 n∧Bs=As
def outT (As:List Ent) (e:Int) (v:Value) (Bs:List Ent):Prop:=e≠0∧v=failV e∧Bs=As
theorem Ybw {f:FuncId} {caps:List Value} {n e:Int} [Body Tryz.prog f]
  (hc:∀ b2 b3,CallsE Tryz.prog w0 f caps (.cl b3 [.int .i64 0] 34::.cl b2 [.int .i64 0] 3::As) (outE (.cl b3 [.int .i64 0] 34::.cl b2 [.int .i64 0] 3::As) n e) (outT (.cl b3 [.int .i64 0] 34::.cl b2 [.int .i64 0] 3::As) e)) :
  CQ Tryz.prog w0 30 [.func (.func f) #[] caps.toArray] As (.tuple #[.int .i64 (if e=0 then n else 0),.int .i64 e]):=by
 refine Zce Tryz.func30 rfl Tryz.ntmps30 rfl ?_
 repeat' first|refine Kz ?_|intro _
 rename_i b2 b3
 refine TL.defer (vs:=[]) (fst:=[]) rfl rfl rfl ?_
 repeat' first|refine Kz ?_|intro _
 refine TL.callvE (fst:=[]) (vs:=[]) (cap:=caps) rfl rfl rfl rfl (hc b2 b3) ?_ ?_
 ·rintro _ _ ⟨h0,rfl,rfl⟩
  repeat' first|refine Kz ?_|intro _
  refine Zcd rfl ((Zfz Zaa (Z8j (v:=.int .i64 0) (ev:=.int .i64 0) (e:=e) (As:=As))).mono ?_)
  rintro _ _ ⟨rfl,rfl⟩
  rw [if_neg h0]
  exact ⟨rfl,_,Res.r2,_,⟨rfl,rfl⟩,Zaa⟩
 ·rintro _ _ ⟨rfl,rfl,rfl⟩
  repeat' first|refine Kz ?_|intro _
  refine Zan rfl ((Z4q).mono ?_)
  rintro _ _ ⟨rfl,rfl⟩
  exact ⟨rfl,_,Res.r2,_,⟨rfl,rfl⟩,Zaa⟩
theorem Z6e (ht:Tab w0) {b c:Nat} {p:V3} [RdIn As fv V3 cV3 fcs] [RdIn As pv V3 cV3 pts] :
  CallsE Tryz.prog w0 31 [.pointer (some ⟨b,0,none⟩),.pointer (some ⟨c,0,none⟩)] (.cl b [pv,fv] 33::.cl c [.int .i64 p.x,.int .i64 p.y,.int .i64 p.z] 39::As)
   (outE (.cl b [pv,fv] 33::.cl c [.int .i64 p.x,.int .i64 p.y,.int .i64 p.z] 39::As) (sideW pts fcs p).1 (sideW pts fcs p).2) (outT (.cl b [pv,fv] 33::.cl c [.int .i64 p.x,.int .i64 p.y,.int .i64 p.z] 39::As) (sideW pts fcs p).2):=by
 refine Zct Tryz.func31 rfl Tryz.ntmps31 rfl ?_
 unfold sideW
 repeat' first|refine Kz ?_|intro _
 refine Kt rfl (Zfe (pts:=pts) (fcs:=fcs)) ?_
 by_cases hfl:(flawM pts fcs).1=0
 ·rw [if_neg (fun h=>h hfl),show chkM pts fcs=0 from if_pos hfl]
  have hg:Sx.Good pts fcs:=Yft.1 hfl
  repeat' first|refine Kz ?_|intro _
  refine Kt rfl Zk8 ?_
  repeat' first|refine Kz ?_|intro _
  refine Ks rfl (Zvr (p:=p)) ?_
  cases hfar:isFar p with
  | true =>
   rw [if_pos rfl]
   repeat' first|refine Kz ?_|intro _
   refine TL.callP rfl rfl rfl (Zid (e:=2) (by decide)) ?_
   rintro _ _ ⟨rfl,rfl⟩
   repeat' first|refine Kz ?_|intro _
   exact Zay rfl ⟨_,⟨by decide,rfl,rfl⟩,Zaa⟩
  | false =>
   rw [if_neg (by decide)]
   have hs:=hg.see hfar
   repeat' first|refine Kz ?_|intro _
   refine Ks rfl (Yef ht (pv:=pv) (fv:=fv) (pts:=pts) (fcs:=fcs) (p:=p) hs) ?_
   cases hon:onM axP pts fcs p with
   | true =>
    rw [if_pos rfl]
    repeat' first|refine Kz ?_|intro _
    refine Zcw ?_
    (refine Zac ?_)
    exact ⟨_,⟨rfl,rfl,rfl⟩,Zaa⟩
   | false =>
    rw [if_neg (by decide)]
    repeat' first|refine Kz ?_|intro _
    refine Ks rfl (Zz1 (pv:=pv) (fv:=fv) (pts:=pts) (fcs:=fcs) (p:=p) hs hg) ?_
    by_cases hw:windN pts fcs p=0
    ·rw [if_neg (fun h=>h hw)]
     repeat' first|refine Kz ?_|intro _
     refine Zcw ?_
     (refine Zac ?_)
     exact ⟨_,⟨rfl,rfl,rfl⟩,Zaa⟩
    ·rw [if_pos hw]
     repeat' first|refine Kz ?_|intro _
     refine Zcw ?_
     (refine Zac ?_)
     exact ⟨_,⟨rfl,rfl,rfl⟩,Zaa⟩
 ·rw [if_pos hfl,show chkM pts fcs=350 from if_neg hfl]
  repeat' first|refine Kz ?_|intro _
  refine TL.callP rfl rfl rfl (Zid (e:=350) (by decide)) ?_
  rintro _ _ ⟨rfl,rfl⟩
  repeat' first|refine Kz ?_|intro _
  exact Zay rfl ⟨_,⟨by decide,rfl,rfl⟩,Zaa⟩
theorem Z1w (P F:List V3) (p:V3):(if (sideW P F p).2=0 then (sideW P F p).1 else 0)=(sideW P F p).1:=by
 unfold sideW
 split
 ·rfl
 ·split
  ·rfl
  ·split
   ·rfl
   ·split<;>rfl
theorem Z1u (ht:Tab w0) {p:V3} [RdIn As fv V3 cV3 fcs] [RdIn As pv V3 cV3 pts] :
  CQ Tryz.prog w0 11 [.agg #[pv,fv],p.val] As (.tuple #[.int .i64 (sideW pts fcs p).1,.int .i64 (sideW pts fcs p).2]):=by
 refine Zab Tryz.func11 rfl Tryz.ntmps11 rfl ?_
 show Tri _ _ _ _ (env0 0 [.agg #[pv,fv],.agg #[.int .i64 p.x,.int .i64 p.y,.int .i64 p.z]]) _ _
 repeat' first|refine Kz ?_|intro _
 rename_i b c
 refine TL.call rfl rfl rfl (Ybw (f:=31) (caps:=[.pointer (some ⟨b,0,none⟩),.pointer (some ⟨c,0,none⟩)]) (n:=(sideW pts fcs p).1) (e:=(sideW pts fcs p).2) ?_) ?_
 ·intro b2 b3
  refine Zn0 (Z6e (As:=.cl b3 [.int .i64 0] 34::.cl b2 [.int .i64 0] 3::As) ht (pv:=pv) (fv:=fv) (pts:=pts) (fcs:=fcs) (p:=p)) Zaa ?_ ?_
  ·rintro v A ⟨h1,h2,rfl⟩
   exact ⟨_,⟨h1,h2,rfl⟩,Zaa⟩
  ·rintro v A ⟨h1,h2,rfl⟩
   exact ⟨_,⟨h1,h2,rfl⟩,Zaa⟩
 rw [Z1w]
 rintro _ _ ⟨rfl,rfl⟩
 repeat' first|refine Kz ?_|intro _
 exact Kv
end Go.Proofs.YtbfgldlfciimiaaGreatDoor
