/- Walks: edges that are there twice; edges without an opposite one. -/
import Derived.Test.YtkcnpgmgmgepoaaGreatDoorMa1
import Derived.Test.YtkcnpgmgmgepoaaGreatDoorPl
namespace Go.Proofs.YtkcnpgmgmgepoaaGreatDoor
open Go Go.Sx
variable {w0:World} {As:List Ent} {pv fv mv:Value} {pts fcs:List V3}
theorem twice_ok {mb:Nat} [RdIn As fv V3 cV3 fcs] (hl:fcs.length≤1000000000) :
  CallsS Tryz.prog w0 258 [.agg #[pv,fv,.map (some mb)]] (.ob mb (mapO cE cNv [])::As) fun v Bs=>v=found (twiceF fcs)∧Bs=.ob mb (mapO cE cNv (ownF fcs))::As:=by
 refine CallsS.of_tri Tryz.func258 rfl Tryz.ntmps258 rfl ?_
 (repeat' first|(refine Ka ?_;first|refine Kb ?_|(refine Kc ?_;intro _))|refine Kd ?_|refine Kh ?_)
 refine TL.call rfl rfl rfl edges_ok ?_
 rintro v Bs ⟨b,rfl,rfl⟩
 (repeat' first|(refine Ka ?_;first|refine Kb ?_|(refine Kc ?_;intro _))|refine Kd ?_|refine Kh ?_)
 rename_i b1 r2 r3
 refine Tri.rangeFn rfl (fun pd As'=>(pd=none∧twiceP fcs=none∧As'=.cl b1 [pv,fv,.map (some mb)] 230::.cl r2 [.int .i64 0] 3::.cl r3 [.bool false] 4::.ob mb (mapO cE cNv (own fcs (3 * fcs.length)))::As) ∨
  (∃ p,pd=some .ret∧twiceP fcs=some p∧As'=.cl b1 [pv,fv,.map (some mb)] 230::.cl r2 [.int .i64 (p / 3:Nat)] 3::.cl r3 [.bool true] 4::.ob mb (mapO cE cNv (own fcs p))::As)) ?_ ?_ ?_
 ·intro L l rb hL1 hL2 hL3 hL4 hL5 hok
  refine CallsS.ents ?_ (CallsS.mono (edges1_ok (L:=L) (l:=l) (b:=b) (pv:=pv) (fv:=fv) (mv:=.map (some mb)) (As:=As) (Y:=fun p=>[.ob rb (.deferred (some [])),.cl b1 [pv,fv,.map (some mb)] 230,.cl r2 [.int .i64 0] 3,.cl r3 [.bool false] 4,.ob mb (mapO cE cNv (own fcs p))])
   (I:=fun p=>∀ j,j < p→dup fcs j=false)
   (R:=fun p Z=>dup fcs p=true∧(∀ j,j < p→dup fcs j=false)∧Z=[.ob l (.loop { L with state:=.done,pending:=some .ret }),.ob rb (.deferred (some [])),.cl b1 [pv,fv,.map (some mb)] 230,.cl r2 [.int .i64 (p / 3:Nat)] 3,.cl r3 [.bool true] 4,.ob mb (mapO cE cNv (own fcs p))])
   hl (by rw [hL3];rfl) (fun j h=>by omega) ?_) ?_)
  ·simp only [List.cons_append,List.nil_append,own]
   (exact Ents.au)
  ·intro p hp hI F
   generalize hu:edgeAt fcs p=u
   obtain ⟨a,b⟩:=u
   refine YieldS.of (ps:=[10,11]) hL3 hL4 hL5 rfl (by decide) hok ?_
   show Tri _ _ _ _ ((10,_)::(11,_)::_) (.ob l (.loop L)::.ob rb _::.cl b1 _ _::.cl r2 _ _::.cl r3 _ _::.ob mb _::F) _
   (repeat' first|(refine Ka ?_;first|refine Kb ?_|(refine Kc ?_;intro _))|refine Kd ?_|refine Kh ?_)
   refine Post.beginRound hL1 ?_
   (repeat' first|(refine Ka ?_;first|refine Kb ?_|(refine Kc ?_;intro _))|refine Kd ?_|refine Kh ?_)
   ((show Tri _ _ _ (.cond _ _ _) _ _ _;first|refine Tri.condP rfl (fun hc=>?_) (fun hc=>?_)|refine Tri.condN rfl (fun hc=>?_) (fun hc=>?_)))
   ·have hd:dup fcs p=true:=by simpa [dup,hu] using hc
    (repeat' first|(refine Ka ?_;first|refine Kb ?_|(refine Kc ?_;intro _))|refine Kd ?_|refine Kh ?_)
    refine Post.endRet ⟨_,.inr ⟨rfl,_,⟨hd,hI,rfl⟩,rfl⟩,?_⟩
    simp only [List.cons_append,List.nil_append]
    (exact Ents.au)
   ·have hd:dup fcs p=false:=by simpa [dup,hu] using hc
    (repeat' first|(refine Ka ?_;first|refine Kb ?_|(refine Kc ?_;intro _))|refine Kd ?_|refine Kh ?_)
    refine Post.endRound ⟨_,.inl ⟨rfl,fun j hj=>?_,rfl⟩,?_⟩
    ·rcases Nat.lt_or_ge j p with h1|h1
     ·exact hI j h1
     ·rw [show j=p from by omega];exact hd
    ·simp only [List.cons_append,List.nil_append,own,hu]
     rw [show ({ L with state:=.ready,pending:=none }:Loop)=L from by cases L;simp only at hL1 hL2;subst hL1 hL2;rfl]
     (exact Ents.au)
  ·rintro v Bs (⟨hI,rfl⟩|⟨p,Z,hp,⟨hd,hI,rfl⟩,rfl⟩)
   ·refine ⟨.ready,none,_,.inl ⟨rfl,findR_none hI,rfl⟩,by simp,?_⟩
    simp only [List.cons_append,List.nil_append]
    rw [show ({ L with state:=.ready,pending:=none }:Loop)=L from by cases L;simp only at hL1 hL2;subst hL1 hL2;rfl]
    (exact Ents.au)
   ·refine ⟨.done,some .ret,_,.inr ⟨p,rfl,findR_some hp hd hI,rfl⟩,by simp,?_⟩
    simp only [List.cons_append,List.nil_append]
    (exact Ents.au)
 ·rintro As' (⟨_,ht,rfl⟩|⟨p,h,_⟩)
  ·intro rb
   (repeat' first|(refine Ka ?_;first|refine Kb ?_|(refine Kc ?_;intro _))|refine Kd ?_|refine Kh ?_)
   refine Post.unmark ?_
   (refine Post.ra ?_)
   refine ⟨_,⟨?_,rfl⟩,?_⟩
   ·simp [found,twiceF,ht]
   ·simp only [ownF,ht,Option.getD_none]
    (exact Ents.au)
  ·cases h
 ·rintro c As' (⟨h,_,_⟩|⟨p,h,ht,rfl⟩)
  ·cases h
  ·cases h
   intro rb
   (repeat' first|(refine Ka ?_;first|refine Kb ?_|(refine Kc ?_;intro _))|refine Kd ?_|refine Kh ?_)
   refine Post.unmark ?_
   (refine Post.ra ?_)
   refine ⟨_,⟨?_,rfl⟩,?_⟩
   ·simp [found,twiceF,ht]
   ·simp only [ownF,ht,Option.getD_some]
    (exact Ents.au)
theorem open_ok {mb:Nat} {ow:List (Edg × Nat)} [RdIn As fv V3 cV3 fcs] (hl:fcs.length≤1000000000) :
  CallsS Tryz.prog w0 259 [.agg #[pv,fv,.map (some mb)]] (.ob mb (mapO cE cNv ow)::As) fun v Bs=>v=found (openF fcs ow)∧Bs=.ob mb (mapO cE cNv ow)::As:=by
 refine CallsS.of_tri Tryz.func259 rfl Tryz.ntmps259 rfl ?_
 (repeat' first|(refine Ka ?_;first|refine Kb ?_|(refine Kc ?_;intro _))|refine Kd ?_|refine Kh ?_)
 refine TL.call rfl rfl rfl edges_ok ?_
 rintro v Bs ⟨b,rfl,rfl⟩
 (repeat' first|(refine Ka ?_;first|refine Kb ?_|(refine Kc ?_;intro _))|refine Kd ?_|refine Kh ?_)
 rename_i b1 r2 r3
 refine Tri.rangeFn rfl (fun pd As'=>(pd=none∧openP fcs ow=none∧As'=.cl b1 [pv,fv,.map (some mb)] 230::.cl r2 [.int .i64 0] 3::.cl r3 [.bool false] 4::.ob mb (mapO cE cNv ow)::As) ∨
  (∃ p,pd=some .ret∧openP fcs ow=some p∧As'=.cl b1 [pv,fv,.map (some mb)] 230::.cl r2 [.int .i64 (p / 3:Nat)] 3::.cl r3 [.bool true] 4::.ob mb (mapO cE cNv ow)::As)) ?_ ?_ ?_
 ·intro L l rb hL1 hL2 hL3 hL4 hL5 hok
  refine CallsS.ents ?_ (CallsS.mono (edges1_ok (L:=L) (l:=l) (b:=b) (pv:=pv) (fv:=fv) (mv:=.map (some mb)) (As:=As) (Y:=fun p=>[.ob rb (.deferred (some [])),.cl b1 [pv,fv,.map (some mb)] 230,.cl r2 [.int .i64 0] 3,.cl r3 [.bool false] 4,.ob mb (mapO cE cNv ow)])
   (I:=fun p=>∀ j,j < p→sole fcs ow j=false)
   (R:=fun p Z=>sole fcs ow p=true∧(∀ j,j < p→sole fcs ow j=false)∧Z=[.ob l (.loop { L with state:=.done,pending:=some .ret }),.ob rb (.deferred (some [])),.cl b1 [pv,fv,.map (some mb)] 230,.cl r2 [.int .i64 (p / 3:Nat)] 3,.cl r3 [.bool true] 4,.ob mb (mapO cE cNv ow)])
   hl (by rw [hL3];rfl) (fun j h=>by omega) ?_) ?_)
  ·simp only [List.cons_append,List.nil_append]
   (exact Ents.au)
  ·intro p hp hI F
   generalize hu:edgeAt fcs p=u
   obtain ⟨a,b⟩:=u
   refine YieldS.of (ps:=[10,11]) hL3 hL4 hL5 rfl (by decide) hok ?_
   show Tri _ _ _ _ ((10,_)::(11,_)::_) (.ob l (.loop L)::.ob rb _::.cl b1 _ _::.cl r2 _ _::.cl r3 _ _::.ob mb _::F) _
   (repeat' first|(refine Ka ?_;first|refine Kb ?_|(refine Kc ?_;intro _))|refine Kd ?_|refine Kh ?_)
   refine Post.beginRound hL1 ?_
   (repeat' first|(refine Ka ?_;first|refine Kb ?_|(refine Kc ?_;intro _))|refine Kd ?_|refine Kh ?_)
   refine Tri.draw (.take 0 (.take 1 (.take 2 (.all [(3,.take 4 (.take 5 (.take 6 (.take 7 (.take 8 (.take 9 (.done)))))))])))) rfl (by kernel_rfl) ?_
   (repeat' first|(refine Ka ?_;first|refine Kb ?_|(refine Kc ?_;intro _))|refine Kd ?_|(refine Ki ?_;refine Kj ?_)|exact Kk|refine Kl ?_ ?_|(refine Km ?_;first|refine Kn ?_|(refine Ko ?_;intro _))|(refine Kp ?_;first|refine Kq ?_|refine Kr ?_)|refine Kh ?_)
   refine T1.call rfl rfl rfl rfl (edgeOpp_ok (u:=(a,b))) ?_
   rintro v Bs ⟨rfl,rfl⟩
   (repeat' first|(refine Ka ?_;first|refine Kb ?_|(refine Kc ?_;intro _))|refine Kd ?_|(refine Ki ?_;refine Kj ?_)|exact Kk|refine Kl ?_ ?_|(refine Km ?_;first|refine Kn ?_|(refine Ko ?_;intro _))|(refine Kp ?_;first|refine Kq ?_|refine Kr ?_)|refine Kh ?_)
   ((show Tri _ _ _ (.cond _ _ _) _ _ _;first|refine Tri.condP rfl (fun hc=>?_) (fun hc=>?_)|refine Tri.condN rfl (fun hc=>?_) (fun hc=>?_)))
   ·have hd:sole fcs ow p=true:=by simpa [sole,hu] using hc
    (repeat' first|(refine Ka ?_;first|refine Kb ?_|(refine Kc ?_;intro _))|refine Kd ?_|(refine Ki ?_;refine Kj ?_)|exact Kk|refine Kl ?_ ?_|(refine Km ?_;first|refine Kn ?_|(refine Ko ?_;intro _))|(refine Kp ?_;first|refine Kq ?_|refine Kr ?_)|refine Kh ?_)
    refine Post.endRet ⟨_,.inr ⟨rfl,_,⟨hd,hI,rfl⟩,rfl⟩,?_⟩
    simp only [List.cons_append,List.nil_append]
    (exact Ents.au)
   ·have hd:sole fcs ow p=false:=by simpa [sole,hu] using hc
    (repeat' first|(refine Ka ?_;first|refine Kb ?_|(refine Kc ?_;intro _))|refine Kd ?_|(refine Ki ?_;refine Kj ?_)|exact Kk|refine Kl ?_ ?_|(refine Km ?_;first|refine Kn ?_|(refine Ko ?_;intro _))|(refine Kp ?_;first|refine Kq ?_|refine Kr ?_)|refine Kh ?_)
    refine Post.endRound ⟨_,.inl ⟨rfl,fun j hj=>?_,rfl⟩,?_⟩
    ·rcases Nat.lt_or_ge j p with h1|h1
     ·exact hI j h1
     ·rw [show j=p from by omega];exact hd
    ·simp only [List.cons_append,List.nil_append]
     rw [show ({ L with state:=.ready,pending:=none }:Loop)=L from by cases L;simp only at hL1 hL2;subst hL1 hL2;rfl]
     (exact Ents.au)
  ·rintro v Bs (⟨hI,rfl⟩|⟨p,Z,hp,⟨hd,hI,rfl⟩,rfl⟩)
   ·refine ⟨.ready,none,_,.inl ⟨rfl,findR_none hI,rfl⟩,by simp,?_⟩
    simp only [List.cons_append,List.nil_append]
    rw [show ({ L with state:=.ready,pending:=none }:Loop)=L from by cases L;simp only at hL1 hL2;subst hL1 hL2;rfl]
    (exact Ents.au)
   ·refine ⟨.done,some .ret,_,.inr ⟨p,rfl,findR_some hp hd hI,rfl⟩,by simp,?_⟩
    simp only [List.cons_append,List.nil_append]
    (exact Ents.au)
 ·rintro As' (⟨_,ht,rfl⟩|⟨p,h,_⟩)
  ·intro rb
   (repeat' first|(refine Ka ?_;first|refine Kb ?_|(refine Kc ?_;intro _))|refine Kd ?_|refine Kh ?_)
   refine Post.unmark ?_
   (refine Post.ra ?_)
   refine ⟨_,⟨?_,rfl⟩,?_⟩
   ·simp [found,openF,ht]
   ·(exact Ents.au)
  ·cases h
 ·rintro c As' (⟨h,_,_⟩|⟨p,h,ht,rfl⟩)
  ·cases h
  ·cases h
   intro rb
   (repeat' first|(refine Ka ?_;first|refine Kb ?_|(refine Kc ?_;intro _))|refine Kd ?_|refine Kh ?_)
   refine Post.unmark ?_
   (refine Post.ra ?_)
   refine ⟨_,⟨?_,rfl⟩,?_⟩
   ·simp [found,openF,ht]
   ·(exact Ents.au)
end Go.Proofs.YtkcnpgmgmgepoaaGreatDoor
namespace Go.Proofs.YtkcnpgmgmgepoaaGreatDoor
open Go Go.Sx
instance:ElC Tryz.prog 4 Bool cB false 1:=⟨by obtain ⟨i,h1,h2,h3,h4⟩:=(inferInstance:TI Tryz.prog 4 _ _ _).info;exact ⟨i,_,h1,h2,h3,h4,rfl⟩,by decide⟩
instance:ElC Tryz.prog 3 Nat (cN .i64) 0 8:=⟨by obtain ⟨i,h1,h2,h3,h4⟩:=(inferInstance:TI Tryz.prog 3 _ _ _).info;exact ⟨i,_,h1,h2,h3,h4,rfl⟩,by decide⟩
variable {w0:World} {As:List Ent} {pv fv mv:Value} {pts fcs:List V3}
theorem index_ok {v:Value} {xs:List Bool} {b:Bool} [RdIn As v Bool cB xs] (hl:xs.length≤1000000000):CallsS Tryz.prog w0 327 [v,.bool b] As fun u Bs=>u=.int .i64 (idxOf xs b)∧Bs=As:=by
 refine CallsS.of_tri Tryz.func327 rfl Tryz.ntmps327 rfl ?_
 (repeat' first|(refine Ka ?_;first|refine Kb ?_|(refine Kc ?_;intro _))|refine Kd ?_|refine Kh ?_)
 refine Tri.loop (ι:=Nat) (fun k=>k≤xs.length∧∀ (j:Nat) (y:Bool),j < k→xs[j]?=some y→(y == b)=false) (fun k=>xs.length - k)
  (fun k=>[(0,v),(1,.bool b),(7,.int .i64 xs.length),(8,.int .i64 k)]) (fun _=>As) 0 ⟨by omega,fun _ _ h=>by omega⟩ (by (exact Sub.au)) (by (exact Ents.au)) ?_
 intro k ⟨hk,hf⟩
 (repeat' first|(refine Ka ?_;first|refine Kb ?_|(refine Kc ?_;intro _))|refine Kd ?_|refine Kh ?_)
 ((show Tri _ _ _ (.cond _ _ _) _ _ _;first|refine Tri.condP rfl (fun hc=>?_) (fun hc=>?_)|refine Tri.condN rfl (fun hc=>?_) (fun hc=>?_)))
 ·obtain ⟨p,hp⟩:∃ p,xs[k]?=some p:=⟨_,List.getElem?_eq_getElem (by omega)⟩
  (repeat' first|(refine Ka ?_;first|refine Kb ?_|(refine Kc ?_;intro _))|refine Kd ?_|refine Kh ?_)
  ((show Tri _ _ _ (.cond _ _ _) _ _ _;first|refine Tri.condP rfl (fun hc=>?_) (fun hc=>?_)|refine Tri.condN rfl (fun hc=>?_) (fun hc=>?_)))
  ·(repeat' first|(refine Ka ?_;first|refine Kb ?_|(refine Kc ?_;intro _))|refine Kd ?_|refine Kh ?_)
   (refine Post.ra ?_)
   exact ⟨_,⟨by rw [idxOf,find_some hp (by simp_all) hf],rfl⟩,by (exact Ents.au)⟩
  ·(repeat' first|(refine Ka ?_;first|refine Kb ?_|(refine Kc ?_;intro _))|refine Kd ?_|refine Kh ?_)
   refine Post.round (k+1) ⟨by omega,fun j y hj hy=>?_⟩ (by omega) (by (exact Sub.au)) (by (exact Ents.au))
   rcases Nat.lt_or_ge j k with h1|h1
   ·exact hf j y h1 hy
   ·rw [show j=k from (by omega),hp] at hy;cases hy
    cases p<;>cases b<;>simp_all
 ·(repeat' first|(refine Ka ?_;first|refine Kb ?_|(refine Kc ?_;intro _))|refine Kd ?_|refine Kh ?_)
  (refine Post.ra ?_)
  have:xs.findIdx? (· == b)=none:=find_none fun j y hj=>hf j y (by have:=(List.getElem?_eq_some_iff.1 hj).1;omega) hj
  exact ⟨_,⟨by rw [idxOf,this],rfl⟩,by (exact Ents.au)⟩
theorem spare_ok [RdIn As fv V3 cV3 fcs] [RdIn As pv V3 cV3 pts] (hl:fcs.length≤1000000000) (hl':pts.length≤1000000000) (hw:∀ f∈fcs,isWrong pts.length f=false) :
  CallsS Tryz.prog w0 260 [.agg #[pv,fv,mv]] As fun v Bs=>v=found (spareF pts.length fcs)∧Bs=As:=by
 refine CallsS.of_tri Tryz.func260 rfl Tryz.ntmps260 rfl ?_
 (repeat' first|(refine Ka ?_;first|refine Kb ?_|(refine Kc ?_;intro _))|refine Kd ?_|refine Kh ?_)
 rename_i b1 uv
 refine Tri.loop (ι:=Nat) (fun k=>k≤fcs.length) (fun k=>fcs.length - k)
  (fun k=>[(1,.pointer (some ⟨b1,0,none⟩)),(4,uv),(17,fv),(18,.int .i64 fcs.length),(19,.int .i64 k)])
  (fun k=>.ow cB 4 uv ((fcs.take k).foldl mark1 (List.replicate pts.length false))::.cl b1 [pv,fv,mv] 230::As) 0 (by omega) (by (exact Sub.au)) (by simp only [List.take_zero,List.foldl_nil];(exact Ents.au)) ?_
 intro k hk
 generalize hu:(fcs.take k).foldl mark1 (List.replicate pts.length false)=us
 have hul:us.length=pts.length:=by rw [← hu,foldl_mark_length];simp
 (repeat' first|(refine Ka ?_;first|refine Kb ?_|(refine Kc ?_;intro _))|refine Kd ?_|refine Kh ?_)
 ((show Tri _ _ _ (.cond _ _ _) _ _ _;first|refine Tri.condP rfl (fun hc=>?_) (fun hc=>?_)|refine Tri.condN rfl (fun hc=>?_) (fun hc=>?_)))
 ·obtain ⟨f,hp⟩:∃ p,fcs[k]?=some p:=⟨_,List.getElem?_eq_getElem (by omega)⟩
  have hv:=hw f (List.mem_of_getElem? hp)
  simp only [isWrong,Bool.or_eq_false_iff,decide_eq_false_iff_not] at hv
  obtain ⟨i,hi⟩:∃ i:Nat,f.x=(i:Int):=⟨f.x.toNat,by omega⟩
  obtain ⟨j,hj⟩:∃ i:Nat,f.y=(i:Int):=⟨f.y.toNat,by omega⟩
  obtain ⟨l,hl'⟩:∃ i:Nat,f.z=(i:Int):=⟨f.z.toNat,by omega⟩
  obtain ⟨fx,fy,fz⟩:=f
  simp only at hi hj hl' hv
  subst hi hj hl'
  have hm:mark1 us ⟨(i:Int),(j:Int),(l:Int)⟩=((us.set i true).set j true).set l true:=by simp [mark1]
  obtain ⟨q1,e1⟩:∃ p,us[i]?=some p:=⟨_,List.getElem?_eq_getElem (by omega)⟩
  obtain ⟨q2,e2⟩:∃ p,(us.set i true)[j]?=some p:=⟨_,List.getElem?_eq_getElem (by simp;omega)⟩
  obtain ⟨q3,e3⟩:∃ p,((us.set i true).set j true)[l]?=some p:=⟨_,List.getElem?_eq_getElem (by simp;omega)⟩
  have l2:(us.set i true).length=us.length:=List.length_set
  have l3:((us.set i true).set j true).length=us.length:=by rw [List.length_set,List.length_set]
  (repeat' first|(refine Ka ?_;first|refine Kb ?_|(refine Kc ?_;intro _))|refine Kd ?_|refine Kh ?_)
  refine Tri.unroll 4 ?_
  (repeat' first|(refine Ka ?_;first|refine Kb ?_|(refine Kc ?_;intro _))|refine Kd ?_|refine Kh ?_)
  (repeat' first|(refine Ka ?_;first|refine Kb ?_|(refine Kc ?_;intro _))|refine Kd ?_|refine Kh ?_)
  refine Post.round (k+1) (by omega) (by omega) (by (exact Sub.au)) ?_
  simp only [take_succ_foldl hp,hu,hm]
  (exact Ents.au)
 ·(repeat' first|(refine Ka ?_;first|refine Kb ?_|(refine Kc ?_;intro _))|refine Kd ?_|refine Kh ?_)
  refine TL.call rfl rfl rfl (index_ok (by omega)) ?_
  rintro v Bs ⟨rfl,rfl⟩
  (repeat' first|(refine Ka ?_;first|refine Kb ?_|(refine Kc ?_;intro _))|refine Kd ?_|refine Kh ?_)
  (refine Post.ra ?_)
  have hk':k=fcs.length:=by omega
  subst hk'
  rw [List.take_length] at hu
  refine ⟨_,⟨?_,rfl⟩,by (exact Ents.au)⟩
  rw [spareF,usedF,hu,found_idx]
end Go.Proofs.YtkcnpgmgmgepoaaGreatDoor
