/- Walks: edges that are there twice; edges without an opposite one. -/
import Derived.Test.YtbfgldlfciimiaaGreatDoorMa1
import Derived.Test.YtbfgldlfciimiaaGreatDoorPl
import Derived.Test.YtbfgldlfciimiaaGreatDoorWa3
set_option maxHeartbeats 1000000
namespace Go.Proofs.YtbfgldlfciimiaaGreatDoor
open Go Go.Sx
variable {w0:World} {As:List Ent} {pv fv mv:Value} {pts fcs:List V3}
theorem Z55 {mb:Nat} [RdIn As fv V3 cV3 fcs] (hl:fcs.length≤1000000000) :
  CallsS Tryz.prog w0 93 [.agg #[pv,fv,.map (some mb)]] (.ob mb (mapO cE cNv [])::As) fun v Bs=>v=found (twiceF fcs)∧Bs=.ob mb (mapO cE cNv (ownF fcs))::As:=by
 refine Zab Tryz.func93 rfl Tryz.ntmps93 rfl ?_
 repeat' first|refine Kz ?_|intro _
 refine TL.call rfl rfl rfl Zyb ?_
 rintro v Bs ⟨b,rfl,rfl⟩
 repeat' first|refine Kz ?_|intro _
 rename_i b1 r2 r3
 refine Zdr rfl (fun pd As'=>(pd=none∧twiceP fcs=none∧As'=.cl b1 [pv,fv,.map (some mb)] 166::.cl r2 [.int .i64 0] 3::.cl r3 [.bool false] 4::.ob mb (mapO cE cNv (own fcs (3 * fcs.length)))::As) ∨
  (∃ p,pd=some .ret∧twiceP fcs=some p∧As'=.cl b1 [pv,fv,.map (some mb)] 166::.cl r2 [.int .i64 (p / 3:Nat)] 3::.cl r3 [.bool true] 4::.ob mb (mapO cE cNv (own fcs p))::As)) ?_ ?_ ?_
 ·intro L l rb hL1 hL2 hL3 hL4 hL5 hok
  refine CallsS.ents ?_ (CallsS.mono (Ztr (L:=L) (l:=l) (b:=b) (pv:=pv) (fv:=fv) (mv:=.map (some mb)) (As:=As) (Y:=fun p=>[.ob rb (.deferred (some [])),.cl b1 [pv,fv,.map (some mb)] 166,.cl r2 [.int .i64 0] 3,.cl r3 [.bool false] 4,.ob mb (mapO cE cNv (own fcs p))])
   (I:=fun p=>∀ j,j < p→dup fcs j=false)
   (R:=fun p Z=>dup fcs p=true∧(∀ j,j < p→dup fcs j=false)∧Z=[.ob l (.loop { L with state:=.done,pending:=some .ret }),.ob rb (.deferred (some [])),.cl b1 [pv,fv,.map (some mb)] 166,.cl r2 [.int .i64 (p / 3:Nat)] 3,.cl r3 [.bool true] 4,.ob mb (mapO cE cNv (own fcs p))])
   hl (by rw [hL3];rfl) (fun j h=>by omega) ?_) ?_)
  ·simp only [List.cons_append,List.nil_append,own]
   (exact Zaa)
  ·intro p hp hI F
   generalize hu:edgeAt fcs p=u
   obtain ⟨a,b⟩:=u
   refine YieldS.of (ps:=[10,11]) hL3 hL4 hL5 rfl (by decide) hok ?_
   show Tri _ _ _ _ ((10,_)::(11,_)::_) (.ob l (.loop L)::.ob rb _::.cl b1 _ _::.cl r2 _ _::.cl r3 _ _::.ob mb _::F) _
   repeat' first|refine Kz ?_|intro _
   refine Post.beginRound hL1 ?_
   repeat' first|refine Kz ?_|intro _
   (refine Kx (fun hc=>?_) fun hc=>?_)
   ·have hd:dup fcs p=true:=by simpa [dup,hu] using hc
    repeat' first|refine Kz ?_|intro _
    refine Zb6 ⟨_,.inr ⟨rfl,_,⟨hd,hI,rfl⟩,rfl⟩,?_⟩
    simp only [List.cons_append,List.nil_append]
    (exact Zaa)
   ·have hd:dup fcs p=false:=by simpa [dup,hu] using hc
    repeat' first|refine Kz ?_|intro _
    refine Post.endRound ⟨_,.inl ⟨rfl,fun j hj=>?_,rfl⟩,?_⟩
    ·rcases Nat.lt_or_ge j p with h1|h1
     ·exact hI j h1
     ·rw [show j=p from by omega];exact hd
    ·simp only [List.cons_append,List.nil_append,own,hu]
     rw [show ({ L with state:=.ready,pending:=none }:Loop)=L from by cases L;simp only at hL1 hL2;subst hL1 hL2;rfl]
     (exact Zaa)
  ·rintro v Bs (⟨hI,rfl⟩|⟨p,Z,hp,⟨hd,hI,rfl⟩,rfl⟩)
   ·refine ⟨.ready,none,_,.inl ⟨rfl,Zem hI,rfl⟩,by simp,?_⟩
    simp only [List.cons_append,List.nil_append]
    rw [show ({ L with state:=.ready,pending:=none }:Loop)=L from by cases L;simp only at hL1 hL2;subst hL1 hL2;rfl]
    (exact Zaa)
   ·refine ⟨.done,some .ret,_,.inr ⟨p,rfl,Zhr hp hd hI,rfl⟩,by simp,?_⟩
    simp only [List.cons_append,List.nil_append]
    (exact Zaa)
 ·rintro As' (⟨_,ht,rfl⟩|⟨p,h,_⟩)
  ·intro rb
   repeat' first|refine Kz ?_|intro _
   refine Zb0 ?_
   (refine Zac ?_)
   refine ⟨_,⟨?_,rfl⟩,?_⟩
   ·simp [found,twiceF,ht]
   ·simp only [ownF,ht,Option.getD_none]
    (exact Zaa)
  ·cases h
 ·rintro c As' (⟨h,_,_⟩|⟨p,h,ht,rfl⟩)
  ·cases h
  ·cases h
   intro rb
   repeat' first|refine Kz ?_|intro _
   refine Zb0 ?_
   (refine Zac ?_)
   refine ⟨_,⟨?_,rfl⟩,?_⟩
   ·simp [found,twiceF,ht]
   ·simp only [ownF,ht,Option.getD_some]
    (exact Zaa)
theorem Yar {mb:Nat} {ow:List (Edg × Nat)} [RdIn As fv V3 cV3 fcs] (hl:fcs.length≤1000000000) :
  CallsS Tryz.prog w0 94 [.agg #[pv,fv,.map (some mb)]] (.ob mb (mapO cE cNv ow)::As) fun v Bs=>v=found (openF fcs ow)∧Bs=.ob mb (mapO cE cNv ow)::As:=by
 refine Zab Tryz.func94 rfl Tryz.ntmps94 rfl ?_
 repeat' first|refine Kz ?_|intro _
 refine TL.call rfl rfl rfl Zyb ?_
 rintro v Bs ⟨b,rfl,rfl⟩
 repeat' first|refine Kz ?_|intro _
 rename_i b1 r2 r3
 refine Zdr rfl (fun pd As'=>(pd=none∧openP fcs ow=none∧As'=.cl b1 [pv,fv,.map (some mb)] 166::.cl r2 [.int .i64 0] 3::.cl r3 [.bool false] 4::.ob mb (mapO cE cNv ow)::As) ∨
  (∃ p,pd=some .ret∧openP fcs ow=some p∧As'=.cl b1 [pv,fv,.map (some mb)] 166::.cl r2 [.int .i64 (p / 3:Nat)] 3::.cl r3 [.bool true] 4::.ob mb (mapO cE cNv ow)::As)) ?_ ?_ ?_
 ·intro L l rb hL1 hL2 hL3 hL4 hL5 hok
  refine CallsS.ents ?_ (CallsS.mono (Ztr (L:=L) (l:=l) (b:=b) (pv:=pv) (fv:=fv) (mv:=.map (some mb)) (As:=As) (Y:=fun p=>[.ob rb (.deferred (some [])),.cl b1 [pv,fv,.map (some mb)] 166,.cl r2 [.int .i64 0] 3,.cl r3 [.bool false] 4,.ob mb (mapO cE cNv ow)])
   (I:=fun p=>∀ j,j < p→sole fcs ow j=false)
   (R:=fun p Z=>sole fcs ow p=true∧(∀ j,j < p→sole fcs ow j=false)∧Z=[.ob l (.loop { L with state:=.done,pending:=some .ret }),.ob rb (.deferred (some [])),.cl b1 [pv,fv,.map (some mb)] 166,.cl r2 [.int .i64 (p / 3:Nat)] 3,.cl r3 [.bool true] 4,.ob mb (mapO cE cNv ow)])
   hl (by rw [hL3];rfl) (fun j h=>by omega) ?_) ?_)
  ·simp only [List.cons_append,List.nil_append]
   (exact Zaa)
  ·intro p hp hI F
   generalize hu:edgeAt fcs p=u
   obtain ⟨a,b⟩:=u
   refine YieldS.of (ps:=[10,11]) hL3 hL4 hL5 rfl (by decide) hok ?_
   show Tri _ _ _ _ ((10,_)::(11,_)::_) (.ob l (.loop L)::.ob rb _::.cl b1 _ _::.cl r2 _ _::.cl r3 _ _::.ob mb _::F) _
   repeat' first|refine Kz ?_|intro _
   refine Post.beginRound hL1 ?_
   repeat' first|refine Kz ?_|intro _
   refine Zdc (.take 0 (.take 1 (.take 2 (.all [(3,.take 4 (.take 5 (.take 6 (.take 7 (.take 8 (.take 9 (.done)))))))])))) rfl (by kernel_rfl) ?_
   repeat' first|refine Kf ?_|intro _|constructor
   refine T1.call rfl rfl rfl rfl (Zz6 (u:=(a,b))) ?_
   rintro v Bs ⟨rfl,rfl⟩
   repeat' first|refine Kf ?_|intro _|constructor
   (refine Kx (fun hc=>?_) fun hc=>?_)
   ·have hd:sole fcs ow p=true:=by simpa [sole,hu] using hc
    repeat' first|refine Kf ?_|intro _|constructor
    refine Zb6 ⟨_,.inr ⟨rfl,_,⟨hd,hI,rfl⟩,rfl⟩,?_⟩
    simp only [List.cons_append,List.nil_append]
    (exact Zaa)
   ·have hd:sole fcs ow p=false:=by simpa [sole,hu] using hc
    repeat' first|refine Kf ?_|intro _|constructor
    refine Post.endRound ⟨_,.inl ⟨rfl,fun j hj=>?_,rfl⟩,?_⟩
    ·rcases Nat.lt_or_ge j p with h1|h1
     ·exact hI j h1
     ·rw [show j=p from by omega];exact hd
    ·simp only [List.cons_append,List.nil_append]
     rw [show ({ L with state:=.ready,pending:=none }:Loop)=L from by cases L;simp only at hL1 hL2;subst hL1 hL2;rfl]
     (exact Zaa)
  ·rintro v Bs (⟨hI,rfl⟩|⟨p,Z,hp,⟨hd,hI,rfl⟩,rfl⟩)
   ·refine ⟨.ready,none,_,.inl ⟨rfl,Zem hI,rfl⟩,by simp,?_⟩
    simp only [List.cons_append,List.nil_append]
    rw [show ({ L with state:=.ready,pending:=none }:Loop)=L from by cases L;simp only at hL1 hL2;subst hL1 hL2;rfl]
    (exact Zaa)
   ·refine ⟨.done,some .ret,_,.inr ⟨p,rfl,Zhr hp hd hI,rfl⟩,by simp,?_⟩
    simp only [List.cons_append,List.nil_append]
    (exact Zaa)
 ·rintro As' (⟨_,ht,rfl⟩|⟨p,h,_⟩)
  ·intro rb
   repeat' first|refine Kz ?_|intro _
   refine Zb0 ?_
   (refine Zac ?_)
   refine ⟨_,⟨?_,rfl⟩,?_⟩
   ·simp [found,openF,ht]
   ·(exact Zaa)
  ·cases h
 ·rintro c As' (⟨h,_,_⟩|⟨p,h,ht,rfl⟩)
  ·cases h
  ·cases h
   intro rb
   repeat' first|refine Kz ?_|intro _
   refine Zb0 ?_
   (refine Zac ?_)
   refine ⟨_,⟨?_,rfl⟩,?_⟩
   ·simp [found,openF,ht]
   ·(exact Zaa)
end Go.Proofs.YtbfgldlfciimiaaGreatDoor
namespace Go.Proofs.YtbfgldlfciimiaaGreatDoor
open Go Go.Sx
instance:ElC Tryz.prog 4 Bool cB false 1:=⟨by obtain ⟨i,h1,h2,h3,h4⟩:=(inferInstance:TI Tryz.prog 4 _ _ _).info;exact ⟨i,_,h1,h2,h3,h4,rfl⟩,by decide⟩
instance:ElC Tryz.prog 3 Nat (cN .i64) 0 8:=⟨by obtain ⟨i,h1,h2,h3,h4⟩:=(inferInstance:TI Tryz.prog 3 _ _ _).info;exact ⟨i,_,h1,h2,h3,h4,rfl⟩,by decide⟩
variable {w0:World} {As:List Ent} {pv fv mv:Value} {pts fcs:List V3}
theorem Zxu {v:Value} {xs:List Bool} {b:Bool} [RdIn As v Bool cB xs] (hl:xs.length≤1000000000):CQ Tryz.prog w0 136 [v,.bool b] As (.int .i64 (idxOf xs b)):=by
 refine Zab Tryz.func136 rfl Tryz.ntmps136 rfl ?_
 repeat' first|refine Kz ?_|intro _
 refine Tri.loop (ι:=Nat) (fun k=>k≤xs.length∧∀ (j:Nat) (y:Bool),j < k→xs[j]?=some y→(y == b)=false) (fun k=>xs.length - k)
  (fun k=>[(0,v),(1,.bool b),(7,.int .i64 xs.length),(8,.int .i64 k)]) (fun _=>As) 0 ⟨by omega,fun _ _ h=>by omega⟩ Zad Zaa ?_
 intro k ⟨hk,hf⟩
 repeat' first|refine Kz ?_|intro _
 (refine Kx (fun hc=>?_) fun hc=>?_)
 ·obtain ⟨p,hp⟩:∃ p,xs[k]?=some p:=⟨_,List.getElem?_eq_getElem (by omega)⟩
  repeat' first|refine Kz ?_|intro _
  (refine Kx (fun hc=>?_) fun hc=>?_)
  ·repeat' first|refine Kz ?_|intro _
   (refine Zac ?_)
   exact ⟨_,⟨by rw [idxOf,Zft hp (by simp_all) hf],rfl⟩,Zaa⟩
  ·repeat' first|refine Kz ?_|intro _
   refine Post.round (k+1) ⟨by omega,fun j y hj hy=>?_⟩ (by omega) Zad Zaa
   rcases Nat.lt_or_ge j k with h1|h1
   ·exact hf j y h1 hy
   ·rw [show j=k from (by omega),hp] at hy;cases hy
    cases p<;>cases b<;>simp_all
 ·repeat' first|refine Kz ?_|intro _
  (refine Zac ?_)
  have:xs.findIdx? (· == b)=none:=Zg4 fun j y hj=>hf j y (by have:=(List.getElem?_eq_some_iff.1 hj).1;omega) hj
  exact ⟨_,⟨by rw [idxOf,this],rfl⟩,Zaa⟩
theorem Z6b [RdIn As fv V3 cV3 fcs] [RdIn As pv V3 cV3 pts] (hl:fcs.length≤1000000000) (hl':pts.length≤1000000000) (hw:∀ f∈fcs,isWrong pts.length f=false) :
  CQ Tryz.prog w0 95 [.agg #[pv,fv,mv]] As (found (spareF pts.length fcs)):=by
 refine Zab Tryz.func95 rfl Tryz.ntmps95 rfl ?_
 repeat' first|refine Kz ?_|intro _
 rename_i b1 uv
 refine Tri.loop (ι:=Nat) (fun k=>k≤fcs.length) (fun k=>fcs.length - k)
  (fun k=>[(1,.pointer (some ⟨b1,0,none⟩)),(4,uv),(17,fv),(18,.int .i64 fcs.length),(19,.int .i64 k)])
  (fun k=>.ow cB 4 uv ((fcs.take k).foldl mark1 (List.replicate pts.length false))::.cl b1 [pv,fv,mv] 166::As) 0 (by omega) Zad (by simp only [List.take_zero,List.foldl_nil];(exact Zaa)) ?_
 intro k hk
 generalize hu:(fcs.take k).foldl mark1 (List.replicate pts.length false)=us
 have hul:us.length=pts.length:=by rw [← hu,Zfr];simp
 repeat' first|refine Kz ?_|intro _
 (refine Kx (fun hc=>?_) fun hc=>?_)
 ·obtain ⟨f,hp⟩:∃ p,fcs[k]?=some p:=⟨_,List.getElem?_eq_getElem (by omega)⟩
  have hv:=hw f (List.mem_of_getElem? hp)
  simp only [isWrong,Bool.or_eq_false_iff,decide_eq_false_iff_not] at hv
  obtain ⟨i,hi⟩:∃ i:Nat,f.x=(i:Int):=⟨f.x.toNat,by omega⟩
  obtain ⟨j,hj⟩:∃ i:Nat,f.y=(i:Int):=⟨f.y.toNat,by omega⟩
  obtain ⟨l,hl'⟩:∃ i:Nat,f.z=(i:Int):=⟨f.z.toNat,by omega⟩
  obtain ⟨fx,fy,fz⟩:=f
  simp only at hi hj hl' hv
  subst hi hj hl'
  have hm:mark1 us ⟨(i:Int),(j:Int),(l:Int)⟩=((us.set i true).set j true).set l true:=by simp [mark1]
  obtain ⟨q1,e1⟩:∃ p,us[i]?=some p:=⟨_,List.getElem?_eq_getElem (by omega)⟩
  obtain ⟨q2,e2⟩:∃ p,(us.set i true)[j]?=some p:=⟨_,List.getElem?_eq_getElem (by simp;omega)⟩
  obtain ⟨q3,e3⟩:∃ p,((us.set i true).set j true)[l]?=some p:=⟨_,List.getElem?_eq_getElem (by simp;omega)⟩
  have l2:(us.set i true).length=us.length:=List.length_set
  have l3:((us.set i true).set j true).length=us.length:=by rw [List.length_set,List.length_set]
  repeat' first|refine Kz ?_|intro _
  refine Zao 4 ?_
  repeat' first|refine Kz ?_|intro _
  repeat' first|refine Kz ?_|intro _
  refine Post.round (k+1) (by omega) (by omega) Zad ?_
  simp only [Za1 hp,hu,hm]
  (exact Zaa)
 ·repeat' first|refine Kz ?_|intro _
  refine TL.call rfl rfl rfl (Zxu (by omega)) ?_
  rintro v Bs ⟨rfl,rfl⟩
  repeat' first|refine Kz ?_|intro _
  (refine Zac ?_)
  have hk':k=fcs.length:=by omega
  subst hk'
  rw [List.take_length] at hu
  refine ⟨_,⟨?_,rfl⟩,Zaa⟩
  rw [spareF,usedF,hu,Ztk]
end Go.Proofs.YtbfgldlfciimiaaGreatDoor
namespace Go.Proofs.YtbfgldlfciimiaaGreatDoor
open Go Go.Sx
variable {w0:World} {As:List Ent} {pv fv mv:Value} {pts fcs:List V3}
set_option maxHeartbeats 8000000 in
theorem Z8k {mb:Nat} {ow:List (Edg × Nat)} [RdIn As fv V3 cV3 fcs] (hl:fcs.length≤1000000000) (h0:0 < fcs.length)
  (hown:∀ f∈fcs,∀ k,k < 3→∃ g,g < fcs.length∧mGet ow (f.edge k).swap=some g) :
  CallsS Tryz.prog w0 96 [.agg #[pv,fv,.map (some mb)]] (.ob mb (mapO cE cNv ow)::As) fun v Bs=>v=found (apartF (fun u=>(mGet ow u).getD 0) fcs)∧Bs=.ob mb (mapO cE cNv ow)::As:=by
 refine Zab Tryz.func96 rfl Tryz.ntmps96 rfl ?_
 have hrl:(List.replicate fcs.length false).length=fcs.length:=List.length_replicate
 repeat' first|refine Kz ?_|intro _
 rename_i b1 rv bq
 refine Tri.ents (Zbz (cN .i64) [0] rfl rfl rfl) ?_
 generalize hR:apartF (fun u=>(mGet ow u).getD 0) fcs=R
 refine Tri.loop (ι:=Value × List Bool × List Nat) (fun s=>s.2.1.length=fcs.length∧(∀ x∈s.2.2,x < fcs.length)∧left s.2≤fcs.length∧(reach (fun u=>(mGet ow u).getD 0) fcs (left s.2) s.2).findIdx? (· == false)=R) (fun s=>left s.2)
  (fun s=>[(1,.pointer (some ⟨b1,0,none⟩)),(4,rv),(5,s.1)])
  (fun s=>.ow (cN .i64) 3 s.1 s.2.2::.ow cB 4 rv s.2.1::.cl b1 [pv,fv,.map (some mb)] 166::.ob mb (mapO cE cNv ow)::As)
  (.slice (some ⟨bq,0,none⟩) 1 1,(List.replicate fcs.length false).set 0 true,[0]) ⟨by simp,by simpa using h0,?_⟩ Zad Zaa ?_
 ·have hlf:left ((List.replicate fcs.length false).set 0 true,[0])=fcs.length:=by
   have h1:(List.replicate fcs.length false)[0]?=some false:=by simp [h0]
   have h2:=Zm7 h1
   simp only [left,List.length_cons,List.length_nil]
   rw [List.count_replicate_self] at h2
   omega
  rw [hlf,← hR]
  exact ⟨Nat.le_refl _,rfl⟩
 rintro ⟨qv,r,nx⟩ ⟨hrn,hnx,hlf,hre⟩
 simp only at hrn hnx hlf hre
 show Tri _ _ _ _ [(1,_),(4,rv),(5,qv)] (.ow (cN .i64) 3 qv nx::.ow cB 4 rv r::.cl b1 [pv,fv,.map (some mb)] 166::.ob mb (mapO cE cNv ow)::As) _
 repeat' first|refine Kz ?_|intro _
 (refine Kx (fun hc=>?_) fun hc=>?_)
 ·obtain ⟨x,rest,hnxe⟩:∃ x rest,nx=x::rest:=by
   cases nx with
   | nil=>simp at hc
   | cons x rest=>exact ⟨x,rest,rfl⟩
  have hx0:nx[0]?=some x:=by rw [hnxe];rfl
  have hxn:x < fcs.length:=hnx x (by rw [hnxe];simp)
  obtain ⟨f,hp⟩:∃ p,fcs[x]?=some p:=⟨_,List.getElem?_eq_getElem hxn⟩
  have hlen:nx.length=rest.length+1:=by rw [hnxe];rfl
  repeat' first|refine Kz ?_|intro _
  refine Zdc (.take 0 (.take 1 (.take 2 (.take 3 (.take 4 (.take 5 (.take 6 (.take 7 (.all [(8,.all [(9,.done)])]))))))))) rfl (by kernel_rfl) ?_
  repeat' first|refine Kf ?_|intro _|constructor
  rename_i bf
  have hrest:(nx.drop 1).take (nx.length - 1)=rest:=by rw [hnxe];simp
  simp only [hrest]
  have hle:left (r,rest)+1=left (r,nx):=by rw [hnxe];simp only [left,List.length_cons];omega
  have hw:∀ k,k < 3→(fun u=>(mGet ow u).getD 0) (f.edge k).swap < (r,rest).1.length:=fun k hk=>by
   obtain ⟨g,g1,g2⟩:=hown f (List.mem_of_getElem? hp) k hk
   simp only [g2,Option.getD_some,hrn];exact g1
  generalize hW:(fun u=>(mGet ow u).getD 0)=W at *
  refine Tri.loop (ι:=Nat × Value) (fun k=>k.1≤3) (fun k=>3 - k.1) (fun k=>[(1,.pointer (some ⟨b1,0,none⟩)),(4,rv),(5,k.2),(6,.pointer (some ⟨bf,0,none⟩)),(31,.int .i64 k.1)])
   (fun k=>.ow (cN .i64) 3 k.2 (visitN W (r,rest) f k.1).2::.ow cB 4 rv (visitN W (r,rest) f k.1).1::.cl bf [.int .i64 f.x,.int .i64 f.y,.int .i64 f.z] 39::.cl b1 [pv,fv,.map (some mb)] 166::.ob mb (mapO cE cNv ow)::As)
   (0,subV 1 qv 1 nx.length) (by omega) Zad (by simp only [visitN];(exact Zaa)) ?_
  rintro ⟨j,v5⟩ hj
  simp only at hj
  have hsl:=Zlv (ow:=W) (s:=(r,rest)) (f:=f) (k:=j) fun k hk=>hw k (by omega)
  have hsn:(visitN W (r,rest) f j).1.length=fcs.length:=by rw [Zc9];exact hrn
  show Tri _ _ _ _ [(1,_),(4,rv),(5,v5),(6,_),(31,.int .i64 (j:Int))] (.ow (cN .i64) 3 v5 (visitN W (r,rest) f j).2::.ow cB 4 rv (visitN W (r,rest) f j).1::_) _
  have hstep:visitN W (r,rest) f (j+1)=visit1 W (visitN W (r,rest) f j) (f.edge j).swap:=rfl
  obtain ⟨r',q',hs⟩:∃ r' q',visitN W (r,rest) f j=(r',q'):=⟨_,_,rfl⟩
  simp only [hs] at hsl hsn hstep ⊢
  have hql:q'.length≤1000000000:=by simp only [left] at hsl hlf hle;omega
  repeat' first|refine Kz ?_|intro _
  (refine Kx (fun hc=>?_) fun hc=>?_)
  ·obtain ⟨g,g1,g2⟩:=hown f (List.mem_of_getElem? hp) j (by omega)
   have hWg:W (f.edge j).swap=g:=by rw [← hW];simp [g2]
   obtain ⟨b,hb⟩:∃ b,r'[g]?=some b:=⟨_,List.getElem?_eq_getElem (by omega)⟩
   have h3:j=0∨j=1∨j=2:=by omega
   rcases h3 with rfl|rfl|rfl
   ·have g3:mGet ow (f.y,f.x)=some g:=g2
    cases b
    ·have hv:visitN W (r,rest) f (0+1)=(r'.set g true,q'++[g]):=by rw [hstep,visit1,hWg];simp [hb]
     repeat' first|refine Kz ?_|intro _
     refine Zdc (.take 0 (.take 1 (.take 2 (.take 3 (.take 4 (.take 5 (.take 6 (.take 7 (.take 8 (.take 9 (.take 10 (.take 11 (.take 12 (.done)))))))))))))) rfl (by kernel_rfl) ?_
     repeat' first|refine Kf ?_|intro _|constructor
     rename_i v6
     refine Post.round (0+1,v6) (by simp) (by simp) Zad ?_
     show Ents _ (.ow _ _ v6 (visitN W (r,rest) f (0+1)).2::.ow _ _ rv (visitN W (r,rest) f (0+1)).1::_)
     rw [hv]
     show Ents _ (.ow _ _ v6 (q'++[g])::.ow _ _ rv (r'.set g true)::_)
     (exact Zaa)
    ·have hv:visitN W (r,rest) f (0+1)=(r',q'):=by rw [hstep,visit1,hWg];simp [hb]
     repeat' first|refine Kz ?_|intro _
     refine Zdc (.take 0 (.take 1 (.take 2 (.take 3 (.take 4 (.take 5 (.take 6 (.take 7 (.take 8 (.take 9 (.take 10 (.take 11 (.take 12 (.done)))))))))))))) rfl (by kernel_rfl) ?_
     repeat' first|refine Kf ?_|intro _|constructor
     refine Post.round (0+1,v5) (by simp) (by simp) Zad ?_
     show Ents _ (.ow _ _ v5 (visitN W (r,rest) f (0+1)).2::.ow _ _ rv (visitN W (r,rest) f (0+1)).1::_)
     rw [hv]
     show Ents _ (.ow _ _ v5 q'::.ow _ _ rv r'::_)
     (exact Zaa)
   ·have g3:mGet ow (f.z,f.y)=some g:=g2
    cases b
    ·have hv:visitN W (r,rest) f (1+1)=(r'.set g true,q'++[g]):=by rw [hstep,visit1,hWg];simp [hb]
     repeat' first|refine Kz ?_|intro _
     refine Zdc (.take 0 (.take 1 (.take 2 (.take 3 (.take 4 (.take 5 (.take 6 (.take 7 (.take 8 (.take 9 (.take 10 (.take 11 (.take 12 (.done)))))))))))))) rfl (by kernel_rfl) ?_
     repeat' first|refine Kf ?_|intro _|constructor
     rename_i v6
     refine Post.round (1+1,v6) (by simp) (by simp) Zad ?_
     show Ents _ (.ow _ _ v6 (visitN W (r,rest) f (1+1)).2::.ow _ _ rv (visitN W (r,rest) f (1+1)).1::_)
     rw [hv]
     show Ents _ (.ow _ _ v6 (q'++[g])::.ow _ _ rv (r'.set g true)::_)
     (exact Zaa)
    ·have hv:visitN W (r,rest) f (1+1)=(r',q'):=by rw [hstep,visit1,hWg];simp [hb]
     repeat' first|refine Kz ?_|intro _
     refine Zdc (.take 0 (.take 1 (.take 2 (.take 3 (.take 4 (.take 5 (.take 6 (.take 7 (.take 8 (.take 9 (.take 10 (.take 11 (.take 12 (.done)))))))))))))) rfl (by kernel_rfl) ?_
     repeat' first|refine Kf ?_|intro _|constructor
     refine Post.round (1+1,v5) (by simp) (by simp) Zad ?_
     show Ents _ (.ow _ _ v5 (visitN W (r,rest) f (1+1)).2::.ow _ _ rv (visitN W (r,rest) f (1+1)).1::_)
     rw [hv]
     show Ents _ (.ow _ _ v5 q'::.ow _ _ rv r'::_)
     (exact Zaa)
   ·have g3:mGet ow (f.x,f.z)=some g:=g2
    cases b
    ·have hv:visitN W (r,rest) f (2+1)=(r'.set g true,q'++[g]):=by rw [hstep,visit1,hWg];simp [hb]
     repeat' first|refine Kz ?_|intro _
     refine Zdc (.take 0 (.take 1 (.take 2 (.take 3 (.take 4 (.take 5 (.take 6 (.take 7 (.take 8 (.take 9 (.take 10 (.take 11 (.take 12 (.done)))))))))))))) rfl (by kernel_rfl) ?_
     repeat' first|refine Kf ?_|intro _|constructor
     rename_i v6
     refine Post.round (2+1,v6) (by simp) (by simp) Zad ?_
     show Ents _ (.ow _ _ v6 (visitN W (r,rest) f (2+1)).2::.ow _ _ rv (visitN W (r,rest) f (2+1)).1::_)
     rw [hv]
     show Ents _ (.ow _ _ v6 (q'++[g])::.ow _ _ rv (r'.set g true)::_)
     (exact Zaa)
    ·have hv:visitN W (r,rest) f (2+1)=(r',q'):=by rw [hstep,visit1,hWg];simp [hb]
     repeat' first|refine Kz ?_|intro _
     refine Zdc (.take 0 (.take 1 (.take 2 (.take 3 (.take 4 (.take 5 (.take 6 (.take 7 (.take 8 (.take 9 (.take 10 (.take 11 (.take 12 (.done)))))))))))))) rfl (by kernel_rfl) ?_
     repeat' first|refine Kf ?_|intro _|constructor
     refine Post.round (2+1,v5) (by simp) (by simp) Zad ?_
     show Ents _ (.ow _ _ v5 (visitN W (r,rest) f (2+1)).2::.ow _ _ rv (visitN W (r,rest) f (2+1)).1::_)
     rw [hv]
     show Ents _ (.ow _ _ v5 q'::.ow _ _ rv r'::_)
     (exact Zaa)
  ·have hj3:j=3:=by omega
   subst hj3
   have hw':∀ k,k < 3→W (f.edge k).swap < fcs.length:=fun k hk=>by rw [← hrn];exact hw k hk
   have hmem:=Zoe (ow:=W) (s:=(r,rest)) (f:=f) (n:=fcs.length) (k:=3) hw' fun y hy=>hnx y (by rw [hnxe];exact List.mem_cons_of_mem _ hy)
   rw [hs] at hmem
   repeat' first|refine Kz ?_|intro _
   refine Post.round (v5,r',q') ⟨hsn,hmem,?_,?_⟩ ?_ Zad Zaa
   ·show left (r',q')≤fcs.length
    omega
   ·show (reach W fcs (left (r',q')) (r',q')).findIdx? (· == false)=R
    rw [← hre,← hle,hsl,hnxe]
    simp only [reach,hp,visit,hs]
   ·show left (r',q') < left (r,nx)
    omega
 ·have hnil:nx=[]:=by
   cases nx with
   | nil=>rfl
   | cons x rest=>simp at hc
  subst hnil
  rw [Z18] at hre
  repeat' first|refine Kz ?_|intro _
  refine TL.call rfl rfl rfl (Zxu (by omega)) ?_
  rintro v Bs ⟨rfl,rfl⟩
  repeat' first|refine Kz ?_|intro _
  (refine Zac ?_)
  refine ⟨_,⟨?_,rfl⟩,Zaa⟩
  rw [← hre,Ztk]
end Go.Proofs.YtbfgldlfciimiaaGreatDoor
namespace Go.Proofs.YtbfgldlfciimiaaGreatDoor
open Go Go.Sx
variable {w0:World} {As:List Ent} {pv fv mv:Value} {pts fcs:List V3}
set_option maxHeartbeats 8000000 in
theorem Ybe [RdIn As fv V3 cV3 fcs] [RdIn As pv V3 cV3 pts] :
  CQ Tryz.prog w0 57 [.agg #[pv,fv]] As (flawV (flawM pts fcs)):=by
 refine Zas pv fun hpv=>Zas fv fun hfv=>?_
 refine Zab Tryz.func57 rfl Tryz.ntmps57 rfl ?_
 (repeat' (first|((show TL _ _ _ _ (_::_) _ _ _;first|refine Ze1 ?_|refine Zey ?_|(refine Zcn ?_;intro _)|(refine Zdd ?_;first|rintro _ _ ⟨rfl,rfl⟩|rintro _ _ rfl)|refine Zbp ?_|refine Zbb ?_|refine Ze0 ?_|fail))|(refine Stp.h ?_)|((show Tri _ _ _ (.cond _ _ _) _ _ _;first|refine Zbn ?_|refine Zbo ?_|refine Zat ?_|refine Zau ?_|refine Zap ?_|refine Zaq ?_|fail))|(first|refine Zbg rfl rfl (fun hgs=>?_) (fun hgs=>?_)|refine Za7 rfl rfl (fun hgs=>?_) (fun hgs=>?_)|refine Zbf rfl rfl rfl (fun hgs=>?_) (fun hgs=>?_)|refine Za6 rfl rfl rfl (fun hgs=>?_) (fun hgs=>?_))|(refine Kx (fun hc=>?_) fun hc=>?_)))
 iterate 4
  (refine Zac ?_)
  refine ⟨_,⟨?_,rfl⟩,Zaa⟩
  simp only [flawM,flawV]
  first
   | (rw [if_pos (by omega)];rfl)
   | (rw [if_neg (by omega),if_pos (by omega)];rfl)
  rotate_left 0
 refine TL.rb rfl rfl (ExR.makeMap cE cNv) ?_
 intro mb
 have hM:flawM pts fcs=firstOf [farF pts,wrongF pts.length fcs,flatF pts fcs,twiceF fcs,openF fcs (ownF fcs),spareF pts.length fcs,apartF (fun u=>(mGet (ownF fcs) u).getD 0) fcs] 2:=by
  rw [flawM,if_neg (by omega),if_neg (by omega)]
 rw [hM]
 repeat' first|refine Kz ?_|intro _
 refine Zao 8 ?_
 repeat' first|refine Kz ?_|intro _
 refine Ks rfl (Yel (by omega)) ?_
 rcases h1:farF pts with _|i
 rotate_left
 ·repeat' first|refine Kz ?_|intro _
  exact Kv
 repeat' first|refine Kz ?_|intro _
 refine Ks rfl (Z51 (by omega)) ?_
 rcases h2:wrongF pts.length fcs with _|i
 rotate_left
 ·repeat' first|refine Kz ?_|intro _
  exact Kv
 repeat' first|refine Kz ?_|intro _
 refine Ks rfl (Ybf (by omega) (Zx8 h1) (Zed h2)) ?_
 rcases h3:flatF pts fcs with _|i
 rotate_left
 ·repeat' first|refine Kz ?_|intro _
  exact Kv
 repeat' first|refine Kz ?_|intro _
 refine Ks rfl (Zhb (.ob mb (mapO cE cNv [])) (Z55 (by omega))) ?_
 rcases h4:twiceF fcs with _|i
 rotate_left
 ·repeat' first|refine Kz ?_|intro _
  exact Kv
 repeat' first|refine Kz ?_|intro _
 refine Ks rfl (Zhb (.ob mb (mapO cE cNv (ownF fcs))) (Yar (by omega))) ?_
 rcases h5:openF fcs (ownF fcs) with _|i
 rotate_left
 ·repeat' first|refine Kz ?_|intro _
  exact Kv
 repeat' first|refine Kz ?_|intro _
 refine Ks rfl (Z6b (by omega) (by omega) (Zed h2)) ?_
 rcases h6:spareF pts.length fcs with _|i
 rotate_left
 ·repeat' first|refine Kz ?_|intro _
  exact Kv
 repeat' first|refine Kz ?_|intro _
 refine Ks rfl (Zhb (.ob mb (mapO cE cNv (ownF fcs))) (Z8k (by omega) (by omega) (Z2v h5))) ?_
 rcases h7:apartF (fun u=>(mGet (ownF fcs) u).getD 0) fcs with _|i
 rotate_left
 ·repeat' first|refine Kz ?_|intro _
  exact Kv
 repeat' first|refine Kz ?_|intro _
 exact Kv
end Go.Proofs.YtbfgldlfciimiaaGreatDoor
namespace Go.Proofs.YtbfgldlfciimiaaGreatDoor
open Go Go.Sx
variable {w0:World} {As:List Ent} {pv fv pv' fv':Value} {pts fcs pts' fcs':List V3}
theorem Zfe [RdIn As fv V3 cV3 fcs] [RdIn As pv V3 cV3 pts] :
  CQ Tryz.prog w0 19 [.agg #[pv,fv]] As (.int .i64 (chkM pts fcs)):=by
 refine Zab Tryz.func19 rfl Tryz.ntmps19 rfl ?_
 repeat' first|refine Kz ?_|intro _
 refine Kt rfl Ybe ?_
 repeat' first|refine Kz ?_|intro _
 (refine Kx (fun hc=>?_) fun hc=>?_)
 ·repeat' first|refine Kz ?_|intro _
  (refine Zac ?_)
  exact ⟨_,⟨by rw [chkM,if_neg (by omega)],rfl⟩,Zaa⟩
 ·repeat' first|refine Kz ?_|intro _
  (refine Zac ?_)
  exact ⟨_,⟨by rw [chkM,if_pos (by omega)],rfl⟩,Zaa⟩
theorem Zyo {xv:Value} {xs:List V3} [RdIn As xv V3 cV3 xs] (hl:xs.length≤1000000000) :
  CallsS Tryz.prog w0 62 [xv] As fun v Bs=>∃ p cap,v=.slice p xs.length cap∧Bs=.ow cV3 39 v xs::As:=by
 refine Z5z (α:=V3) (c:=cV3) ?_ fun v Bs h=>by rw [h];infer_instance
 refine Zab Tryz.func62 rfl Tryz.ntmps62 rfl ?_
 repeat' first|refine Kz ?_|intro _
 refine Zrq rfl rfl (Z0o rfl rfl) ?_
 rintro _ _ ⟨b,rfl,hb,rfl⟩
 repeat' first|refine Kz ?_|intro _
 cases b
 ·repeat' first|refine Kz ?_|intro _
  (refine Zac ?_)
  exact ⟨_,rfl,Zaa⟩
 ·cases hb rfl
  repeat' first|refine Kz ?_|intro _
  (refine Zac ?_)
  exact ⟨_,rfl,Za3 cV3⟩
end Go.Proofs.YtbfgldlfciimiaaGreatDoor
namespace Go.Proofs.YtbfgldlfciimiaaGreatDoor
open Go Go.Sx
variable {w0:World} {As:List Ent} {pv fv:Value} {pts fcs:List V3}
end Go.Proofs.YtbfgldlfciimiaaGreatDoor
namespace Go.Proofs.YtbfgldlfciimiaaGreatDoor
open Go Go.Sx
variable {w0:World} {As:List Ent} {pv fv:Value} {pts fcs:List V3}
def MeshR (As:List Ent) (r:Int × List V3 × List V3) (v:Value) (Bs:List Ent):Prop:=∃ pv fv,v=.tuple #[.agg #[pv,fv],.int .i64 r.1]∧pv.oneCell'=true∧fv.oneCell'=true∧Bs=.ow cV3 39 pv r.2.1::.ow cV3 39 fv r.2.2::As
theorem Zek {r:Int}:∃ As',MeshR As (r,[],[]) (.tuple #[.agg #[.slice none 0 0,.slice none 0 0],.int .i64 r]) As'∧Ents As As' :=
 ⟨_,⟨_,_,rfl,rfl,rfl,rfl⟩,Ents.trans (Za3 cV3) (Za3 cV3)⟩
theorem Zxo {r:Int × List V3 × List V3} {e:Int} {P F:List V3} (hr:r=(e,P,F)) {v:Value} {Bs:List Ent} (h:MeshR As r v Bs):∃ pv fv,v=.tuple #[.agg #[pv,fv],.int .i64 e]∧pv.oneCell'=true∧fv.oneCell'=true∧Bs=.ow cV3 39 pv P::.ow cV3 39 fv F::As:=by
 subst hr;exact h
theorem Z1f [RdIn As fv V3 cV3 fcs] [RdIn As pv V3 cV3 pts] :
  CallsS Tryz.prog w0 23 [.agg #[pv,fv]] As (MeshR As (turnedM pts fcs)):=by
 refine Zab Tryz.func23 rfl Tryz.ntmps23 rfl ?_
 repeat' first|refine Kz ?_|intro _
 refine Kt rfl Zfe ?_
 repeat' first|refine Kz ?_|intro _
 (refine Kx (fun hc=>?_) fun hc=>?_)
 ·obtain ⟨h1,h2⟩:=Z4k hc
  rw [h2]
  repeat' first|refine Kz ?_|intro _
  (refine Zac ?_)
  rw [turnedM,if_neg h1]
  obtain ⟨As',h3,h4⟩:=Zek (As:=As) (r:=350)
  exact ⟨As',h3,Ents.trans Zaa h4⟩
 ·have hk:=Z4j hc
  have hg:=Yft.1 hk
  have hlp:=hg.p300
  have hlf:=hg.f600
  repeat' first|refine Kz ?_|intro _
  rename_i b1 b2
  refine Tri.mid (fun e' As'=>∃ p1 c1 p2 c2 b5,e'=[(1,.pointer (some ⟨b1,0,none⟩)),(2,.pointer (some ⟨b2,0,none⟩)),(5,.pointer (some ⟨b5,0,none⟩))] ∧
   As'=.ow cV3 39 (.slice p1 pts.length c1) pts::.ow cV3 39 (.slice p2 fcs.length c2) fcs::.cl b5 [.slice p1 pts.length c1,.slice p2 fcs.length c2] 33::.cl b1 [pv,fv] 33::.cl b2 [.slice none 0 0,.slice none 0 0] 33::As) ?_ ?_
  ·refine Zag (.cl b1 [pv,fv] 33::As) [] (.take 0 (.take 1 (.take 3 (.take 4 (.all [(2,.all [(5,.take 6 (.all [(7,.all [(8,.done)])])),(7,.all [(5,.take 6 (.all [(8,.done)]))])]),(7,.all [(2,.all [(5,.take 6 (.all [(8,.done)]))])])]))))) ?_
   repeat' first|refine Kf ?_|intro _|constructor
   all_goals
    refine T1.call rfl rfl rfl rfl (Zyo (by omega)) ?_
    rintro _ _ ⟨p1,c1,rfl,rfl⟩
    repeat' first|refine Kf ?_|intro _|constructor
   all_goals
    refine T1.call rfl rfl rfl rfl (Zyo (by omega)) ?_
    rintro _ _ ⟨p2,c2,rfl,rfl⟩
    repeat' first|refine Kf ?_|intro _|constructor
   all_goals
    rename_i b5
    exact Post.cut _ _ ⟨p1,c1,p2,c2,b5,rfl,rfl⟩ Zad Zaa
  ·rintro _ _ ⟨p1,c1,p2,c2,b5,rfl,rfl⟩
   repeat' first|refine Kz ?_|intro _
   refine Tri.loop (ι:=Nat) (fun k=>k≤fcs.length) (fun k=>fcs.length - k)
    (fun k=>[(1,.pointer (some ⟨b1,0,none⟩)),(2,.pointer (some ⟨b2,0,none⟩)),(5,.pointer (some ⟨b5,0,none⟩)),(22,fv),(23,.int .i64 fcs.length),(24,.int .i64 k)])
    (fun k=>.ow cV3 39 (.slice p1 pts.length c1) pts::.ow cV3 39 (.slice p2 fcs.length c2) ((fcs.take k).map swapF++fcs.drop k)::.cl b5 [.slice p1 pts.length c1,.slice p2 fcs.length c2] 33::.cl b2 [.slice none 0 0,.slice none 0 0] 33::As) 0 (by omega) Zad (by simp only [List.take_zero,List.map_nil,List.nil_append,List.drop_zero];(exact Zaa)) ?_
   intro k hkl
   have hlen:((fcs.take k).map swapF++fcs.drop k).length=fcs.length:=Zn2
   generalize hxs:(fcs.take k).map swapF++fcs.drop k=xs at hlen ⊢
   repeat' first|refine Kz ?_|intro _
   (refine Kx (fun hc=>?_) fun hc=>?_)
   ·obtain ⟨f,hp⟩:∃ p,fcs[k]?=some p:=⟨_,List.getElem?_eq_getElem (by omega)⟩
    have hq:xs[k]?=some f:=by rw [← hxs];exact Zvm hp
    repeat' first|refine Kz ?_|intro _
    refine Post.round (k+1) (by omega) (by omega) Zad ?_
    have e9:=Zvl (f:=swapF) (y:=⟨f.x,f.z,f.y⟩) hp rfl
    rw [hxs] at e9
    rw [← e9]
    (exact Zaa)
   ·repeat' first|refine Kz ?_|intro _
    (refine Zac ?_)
    have hk':k=fcs.length:=by omega
    subst hk'
    rw [List.take_length,List.drop_length,List.append_nil] at hxs
    subst hxs
    rw [turnedM,if_pos hk]
    exact ⟨_,⟨_,_,rfl,rfl,rfl,rfl⟩,Zaa⟩
end Go.Proofs.YtbfgldlfciimiaaGreatDoor
namespace Go.Proofs.YtbfgldlfciimiaaGreatDoor
open Go Go.Sx
variable {w0:World} {As:List Ent} {pv fv:Value} {pts fcs:List V3}
theorem Yen {p q:V3} {m n:Int} (hp:p.in m) (hq:q.in n) (g0:0≤m) (g1:0≤n) (hm:3 * (m * n)≤9223372036854775807) :
  CQ Tryz.prog w0 60 [p.val,q.val] As (.int .i64 (p.dot q)):=by
 obtain ⟨h1,h2,h3,h4,h5,h6⟩:=hp
 obtain ⟨k1,k2,k3,k4,k5,k6⟩:=hq
 have a1:=Za5 g0 g1 h1 h2 k1 k2
 have a2:=Za5 g0 g1 h3 h4 k3 k4
 have a3:=Za5 g0 g1 h5 h6 k5 k6
 refine Zab Tryz.func60 rfl Tryz.ntmps60 rfl ?_
 repeat' first|refine Kz ?_|intro _
 exact Kv
theorem Z4u {x y:Int} (hx:Lib.nDigits x.natAbs≤600) (hy:Lib.nDigits y.natAbs≤600) (hxy:Lib.nDigits (x+y).natAbs≤600):addW (textI x) (textI y)=(textI (x+y),0):=by
 rw [addW,Zbs hx,Zbs hy]
 simp only
 rw [outW,if_neg (by omega)]
theorem Zw1 {x:Int} (hx:Lib.nDigits x.natAbs≤600):(textI x).length≤601:=by
 have:=Zbm x.natAbs
 unfold textI Lib.itoa
 split
 ·simp;omega
 ·rw [show x.toNat=x.natAbs by omega];omega
theorem Zin {x:Int} (h1:-100000000000000000000000000000≤x) (h2:x≤100000000000000000000000000000):Lib.nDigits x.natAbs≤600:=by
 have:=Zbt (k:=29) (r:=x.natAbs) (by
  have:(10:Nat) ^ (29+1)=1000000000000000000000000000000:=by decide
  omega)
 omega
set_option maxHeartbeats 1000000 in
theorem Zy8 (ht:Tab w0) [RdIn As fv V3 cV3 fcs] [RdIn As pv V3 cV3 pts] :
  CQ Tryz.prog w0 21 [.agg #[pv,fv]] As ((if okM pts fcs then .tuple #[.string ⟨(textI (volM pts fcs)).toArray⟩,.int .i64 0] else .tuple #[.string ⟨#[]⟩,.int .i64 350])):=by
 refine Zab Tryz.func21 rfl Tryz.ntmps21 rfl ?_
 repeat' first|refine Kz ?_|intro _
 refine Kt rfl Zfe ?_
 repeat' first|refine Kz ?_|intro _
 (refine Kx (fun hc=>?_) fun hc=>?_)
 ·obtain ⟨h1,h2⟩:=Z4k hc
  rw [h2]
  repeat' first|refine Kz ?_|intro _
  (refine Zac ?_)
  exact ⟨_,⟨by rw [if_neg h1],rfl⟩,Zaa⟩
 ·have hk:=Z4j hc
  have hg:=Yft.1 hk
  have hfar:=Zx8 hg.far
  have hw:=Zed hg.wrong
  have hlf:=hg.f600
  have hlp:=hg.p300
  repeat' first|refine Kz ?_|intro _
  refine Kt rfl (Zli ht (n:=0) (by decide) (by decide)) ?_
  repeat' first|refine Kz ?_|intro _
  rename_i b1
  refine Tri.loop (ι:=Nat) (fun k=>k≤fcs.length) (fun k=>fcs.length - k)
   (fun k=>[(1,.pointer (some ⟨b1,0,none⟩)),(5,.string ⟨(textI (volM pts (fcs.take k))).toArray⟩),(19,fv),(20,.int .i64 fcs.length),(21,.int .i64 k)]) (fun _=>.cl b1 [pv,fv] 33::As) 0 (by omega) Zad Zaa ?_
  intro k hkl
  repeat' first|refine Kz ?_|intro _
  (refine Kx (fun hc=>?_) fun hc=>?_)
  ·obtain ⟨f,hp⟩:∃ p,fcs[k]?=some p:=⟨_,List.getElem?_eq_getElem (by omega)⟩
   have hv:=hw f (List.mem_of_getElem? hp)
   have hvk:=Zoc hfar fcs k
   have hfv:=Zx9 hfar f
   have hstep:volM pts (fcs.take (k+1))=volM pts (fcs.take k)+faceV pts f:=by
    unfold volM;rw [Za1 hp]
   generalize volM pts (fcs.take k)=tk at hvk hstep ⊢
   simp only [isWrong,Bool.or_eq_false_iff,decide_eq_false_iff_not] at hv
   obtain ⟨i,hi⟩:∃ i:Nat,f.x=(i:Int):=⟨f.x.toNat,by omega⟩
   obtain ⟨j,hj⟩:∃ i:Nat,f.y=(i:Int):=⟨f.y.toNat,by omega⟩
   obtain ⟨l,hl'⟩:∃ i:Nat,f.z=(i:Int):=⟨f.z.toNat,by omega⟩
   obtain ⟨fx,fy,fz⟩:=f
   simp only at hi hj hl' hv
   subst hi hj hl'
   obtain ⟨p,ep⟩:∃ p,pts[i]?=some p:=⟨_,List.getElem?_eq_getElem (by omega)⟩
   obtain ⟨q,eq⟩:∃ p,pts[j]?=some p:=⟨_,List.getElem?_eq_getElem (by omega)⟩
   obtain ⟨r,er⟩:∃ p,pts[l]?=some p:=⟨_,List.getElem?_eq_getElem (by omega)⟩
   have hn:faceV pts ⟨(i:Int),(j:Int),(l:Int)⟩=p.dot (q.cross r):=by simp [faceV,ptAt,ep,eq,er]
   rw [hn] at hfv hstep
   repeat' first|refine Kz ?_|intro _
   refine Tri.mid (fun e' As'=>∃ b6 b7 b8,e'=[(1,.pointer (some ⟨b1,0,none⟩)),(5,.string ⟨(textI tk).toArray⟩),(8,.pointer (some ⟨b6,0,none⟩)),(9,.pointer (some ⟨b7,0,none⟩)),(10,.pointer (some ⟨b8,0,none⟩)),(19,fv),(20,.int .i64 fcs.length),(21,.int .i64 k)] ∧
    As'=.cl b6 [.int .i64 p.x,.int .i64 p.y,.int .i64 p.z] 39::.cl b7 [.int .i64 q.x,.int .i64 q.y,.int .i64 q.z] 39::.cl b8 [.int .i64 r.x,.int .i64 r.y,.int .i64 r.z] 39::.cl b1 [pv,fv] 33::As) ?_ ?_
   ·refine Zam (.take 0 (.take 1 (.take 2 (.take 3 (.take 4 (.take 5 (.take 6 (.take 7 (.take 8 (.take 9 (.take 10 (.take 11 (.take 12 (.take 13 (.take 14 (.take 15 (.take 16 (.take 17 (.all [(18,.all [(19,.all [(20,.all [(21,.all [(22,.all [(23,.done)])])])]),(20,.all [(19,.all [(21,.all [(22,.all [(23,.done)])])])])]),(19,.all [(18,.all [(20,.all [(21,.all [(22,.all [(23,.done)])])])]),(20,.all [(18,.all [(21,.all [(22,.all [(23,.done)])])])])]),(20,.all [(18,.all [(19,.all [(21,.all [(22,.all [(23,.done)])])])]),(19,.all [(18,.all [(21,.all [(22,.all [(23,.done)])])])])])]))))))))))))))))))) ?_
    repeat' first|refine Kf ?_|intro _|constructor
    all_goals exact Post.cut _ _ ⟨_,_,_,rfl,rfl⟩ Zad Zaa
   ·rintro e' As' ⟨b6,b7,b8,rfl,rfl⟩
    have hp':=hfar p (List.mem_of_getElem? ep)
    have hq':=hfar q (List.mem_of_getElem? eq)
    have hr':=hfar r (List.mem_of_getElem? er)
    have hd1:Lib.nDigits tk.natAbs≤600:=Zin (by omega) (by omega)
    have hd2:Lib.nDigits (p.dot (q.cross r)).natAbs≤600:=Zin (by omega) (by omega)
    have hd3:Lib.nDigits (tk+p.dot (q.cross r)).natAbs≤600:=Zin (by omega) (by omega)
    have hl1:=Zw1 hd1
    have hl2:=Zw1 hd2
    repeat' first|refine Kz ?_|intro _
    refine Zam (.take 0 (.take 1 (.take 2 (.take 3 (.all [(4,.all [(5,.all [(6,.all [(7,.take 8 (.take 9 (.take 10 (.take 11 (.take 12 (.done))))))])])])]))))) ?_
    repeat' first|refine Kf ?_|intro _|constructor
    refine Kw rfl (Zyl hq' hr' (by decide) (by decide) (by decide)) ?_
    repeat' first|refine Kf ?_|intro _|constructor
    refine Kw rfl (Yen hp' (Zd8 (by decide) (by decide) hq' hr') (by decide) (by decide) (by decide)) ?_
    repeat' first|refine Kf ?_|intro _|constructor
    refine Kw rfl (Zli ht (by omega) (by omega)) ?_
    repeat' first|refine Kf ?_|intro _|constructor
    refine Kw rfl (Zyq ht (by omega) (by omega)) ?_
    rw [Z4u hd1 hd2 hd3]
    repeat' first|refine Kf ?_|intro _|constructor
    refine Post.round (k+1) (by omega) (by omega) ?_ Zaa
    rw [hstep]
    (exact Zad)
  ·repeat' first|refine Kz ?_|intro _
   (refine Zac ?_)
   have hk':k=fcs.length:=by omega
   subst hk'
   rw [List.take_length]
   exact ⟨_,⟨by rw [if_pos hk],rfl⟩,Zaa⟩
end Go.Proofs.YtbfgldlfciimiaaGreatDoor
