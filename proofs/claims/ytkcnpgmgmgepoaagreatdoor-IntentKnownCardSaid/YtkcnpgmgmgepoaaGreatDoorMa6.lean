/- Walks: faces that are not reached. -/
import Derived.Test.YtkcnpgmgmgepoaaGreatDoorMa4
import Derived.Test.YtkcnpgmgmgepoaaGreatDoorMa1
import Derived.Test.YtkcnpgmgmgepoaaGreatDoorPl
namespace Go.Proofs.YtkcnpgmgmgepoaaGreatDoor
open Go Go.Sx
variable {w0:World} {As:List Ent} {pv fv mv:Value} {pts fcs:List V3}
set_option maxHeartbeats 8000000 in
theorem apart_ok {mb:Nat} {ow:List (Edg × Nat)} [RdIn As fv V3 cV3 fcs] (hl:fcs.length≤1000000000) (h0:0 < fcs.length)
  (hown:∀ f∈fcs,∀ k,k < 3→∃ g,g < fcs.length∧mGet ow (f.edge k).swap=some g) :
  CallsS Tryz.prog w0 261 [.agg #[pv,fv,.map (some mb)]] (.ob mb (mapO cE cNv ow)::As) fun v Bs=>v=found (apartF (fun u=>(mGet ow u).getD 0) fcs)∧Bs=.ob mb (mapO cE cNv ow)::As:=by
 refine CallsS.of_tri Tryz.func261 rfl Tryz.ntmps261 rfl ?_
 have hrl:(List.replicate fcs.length false).length=fcs.length:=List.length_replicate
 (repeat' first|(refine Ka ?_;first|refine Kb ?_|(refine Kc ?_;intro _))|refine Kd ?_|refine Kh ?_)
 rename_i b1 rv bq
 refine Tri.ents (Ents.clW (cN .i64) [0] rfl rfl rfl) ?_
 generalize hR:apartF (fun u=>(mGet ow u).getD 0) fcs=R
 refine Tri.loop (ι:=Value × List Bool × List Nat) (fun s=>s.2.1.length=fcs.length∧(∀ x∈s.2.2,x < fcs.length)∧left s.2≤fcs.length∧(reach (fun u=>(mGet ow u).getD 0) fcs (left s.2) s.2).findIdx? (· == false)=R) (fun s=>left s.2)
  (fun s=>[(1,.pointer (some ⟨b1,0,none⟩)),(4,rv),(5,s.1)])
  (fun s=>.ow (cN .i64) 3 s.1 s.2.2::.ow cB 4 rv s.2.1::.cl b1 [pv,fv,.map (some mb)] 230::.ob mb (mapO cE cNv ow)::As)
  (.slice (some ⟨bq,0,none⟩) 1 1,(List.replicate fcs.length false).set 0 true,[0]) ⟨by simp,by simpa using h0,?_⟩ (by (exact Sub.au)) (by (exact Ents.au)) ?_
 ·have hlf:left ((List.replicate fcs.length false).set 0 true,[0])=fcs.length:=by
   have h1:(List.replicate fcs.length false)[0]?=some false:=by simp [h0]
   have h2:=count_set h1
   simp only [left,List.length_cons,List.length_nil]
   rw [List.count_replicate_self] at h2
   omega
  rw [hlf,← hR]
  exact ⟨Nat.le_refl _,rfl⟩
 rintro ⟨qv,r,nx⟩ ⟨hrn,hnx,hlf,hre⟩
 simp only at hrn hnx hlf hre
 show Tri _ _ _ _ [(1,_),(4,rv),(5,qv)] (.ow (cN .i64) 3 qv nx::.ow cB 4 rv r::.cl b1 [pv,fv,.map (some mb)] 230::.ob mb (mapO cE cNv ow)::As) _
 (repeat' first|(refine Ka ?_;first|refine Kb ?_|(refine Kc ?_;intro _))|refine Kd ?_|refine Kh ?_)
 ((show Tri _ _ _ (.cond _ _ _) _ _ _;first|refine Tri.condP rfl (fun hc=>?_) (fun hc=>?_)|refine Tri.condN rfl (fun hc=>?_) (fun hc=>?_)))
 ·obtain ⟨x,rest,hnxe⟩:∃ x rest,nx=x::rest:=by
   cases nx with
   | nil=>simp at hc
   | cons x rest=>exact ⟨x,rest,rfl⟩
  have hx0:nx[0]?=some x:=by rw [hnxe];rfl
  have hxn:x < fcs.length:=hnx x (by rw [hnxe];simp)
  obtain ⟨f,hp⟩:∃ p,fcs[x]?=some p:=⟨_,List.getElem?_eq_getElem hxn⟩
  have hlen:nx.length=rest.length+1:=by rw [hnxe];rfl
  (repeat' first|(refine Ka ?_;first|refine Kb ?_|(refine Kc ?_;intro _))|refine Kd ?_|refine Kh ?_)
  refine Tri.draw (.take 0 (.take 1 (.take 2 (.take 3 (.take 4 (.take 5 (.take 6 (.take 7 (.all [(8,.all [(9,.done)])]))))))))) rfl (by kernel_rfl) ?_
  (repeat' first|(refine Ka ?_;first|refine Kb ?_|(refine Kc ?_;intro _))|refine Kd ?_|(refine Ki ?_;refine Kj ?_)|exact Kk|refine Kl ?_ ?_|(refine Km ?_;first|refine Kn ?_|(refine Ko ?_;intro _))|(refine Kp ?_;first|refine Kq ?_|refine Kr ?_)|refine Kh ?_)
  rename_i bf
  have hrest:(nx.drop 1).take (nx.length - 1)=rest:=by rw [hnxe];simp
  simp only [hrest]
  have hle:left (r,rest)+1=left (r,nx):=by rw [hnxe];simp only [left,List.length_cons];omega
  have hw:∀ k,k < 3→(fun u=>(mGet ow u).getD 0) (f.edge k).swap < (r,rest).1.length:=fun k hk=>by
   obtain ⟨g,g1,g2⟩:=hown f (List.mem_of_getElem? hp) k hk
   simp only [g2,Option.getD_some,hrn];exact g1
  generalize hW:(fun u=>(mGet ow u).getD 0)=W at *
  refine Tri.loop (ι:=Nat × Value) (fun k=>k.1≤3) (fun k=>3 - k.1) (fun k=>[(1,.pointer (some ⟨b1,0,none⟩)),(4,rv),(5,k.2),(6,.pointer (some ⟨bf,0,none⟩)),(31,.int .i64 k.1)])
   (fun k=>.ow (cN .i64) 3 k.2 (visitN W (r,rest) f k.1).2::.ow cB 4 rv (visitN W (r,rest) f k.1).1::.cl bf [.int .i64 f.x,.int .i64 f.y,.int .i64 f.z] 32::.cl b1 [pv,fv,.map (some mb)] 230::.ob mb (mapO cE cNv ow)::As)
   (0,subV 1 qv 1 nx.length) (by omega) (by (exact Sub.au)) (by simp only [visitN];(exact Ents.au)) ?_
  rintro ⟨j,v5⟩ hj
  simp only at hj
  have hsl:=visitN_left (ow:=W) (s:=(r,rest)) (f:=f) (k:=j) fun k hk=>hw k (by omega)
  have hsn:(visitN W (r,rest) f j).1.length=fcs.length:=by rw [visitN_length];exact hrn
  show Tri _ _ _ _ [(1,_),(4,rv),(5,v5),(6,_),(31,.int .i64 (j:Int))] (.ow (cN .i64) 3 v5 (visitN W (r,rest) f j).2::.ow cB 4 rv (visitN W (r,rest) f j).1::_) _
  have hstep:visitN W (r,rest) f (j+1)=visit1 W (visitN W (r,rest) f j) (f.edge j).swap:=rfl
  obtain ⟨r',q',hs⟩:∃ r' q',visitN W (r,rest) f j=(r',q'):=⟨_,_,rfl⟩
  simp only [hs] at hsl hsn hstep ⊢
  have hql:q'.length≤1000000000:=by simp only [left] at hsl hlf hle;omega
  (repeat' first|(refine Ka ?_;first|refine Kb ?_|(refine Kc ?_;intro _))|refine Kd ?_|refine Kh ?_)
  ((show Tri _ _ _ (.cond _ _ _) _ _ _;first|refine Tri.condP rfl (fun hc=>?_) (fun hc=>?_)|refine Tri.condN rfl (fun hc=>?_) (fun hc=>?_)))
  ·obtain ⟨g,g1,g2⟩:=hown f (List.mem_of_getElem? hp) j (by omega)
   have hWg:W (f.edge j).swap=g:=by rw [← hW];simp [g2]
   obtain ⟨b,hb⟩:∃ b,r'[g]?=some b:=⟨_,List.getElem?_eq_getElem (by omega)⟩
   have h3:j=0∨j=1∨j=2:=by omega
   rcases h3 with rfl|rfl|rfl
   ·have g3:mGet ow (f.y,f.x)=some g:=g2
    cases b
    ·have hv:visitN W (r,rest) f (0+1)=(r'.set g true,q'++[g]):=by rw [hstep,visit1,hWg];simp [hb]
     (repeat' first|(refine Ka ?_;first|refine Kb ?_|(refine Kc ?_;intro _))|refine Kd ?_|refine Kh ?_)
     refine Tri.draw (.take 0 (.take 1 (.take 2 (.take 3 (.take 4 (.take 5 (.take 6 (.take 7 (.take 8 (.take 9 (.take 10 (.take 11 (.take 12 (.done)))))))))))))) rfl (by kernel_rfl) ?_
     (repeat' first|(refine Ka ?_;first|refine Kb ?_|(refine Kc ?_;intro _))|refine Kd ?_|(refine Ki ?_;refine Kj ?_)|exact Kk|refine Kl ?_ ?_|(refine Km ?_;first|refine Kn ?_|(refine Ko ?_;intro _))|(refine Kp ?_;first|refine Kq ?_|refine Kr ?_)|refine Kh ?_)
     rename_i v6
     refine Post.round (0+1,v6) (by simp) (by simp) (by (exact Sub.au)) ?_
     show Ents _ (.ow _ _ v6 (visitN W (r,rest) f (0+1)).2::.ow _ _ rv (visitN W (r,rest) f (0+1)).1::_)
     rw [hv]
     show Ents _ (.ow _ _ v6 (q'++[g])::.ow _ _ rv (r'.set g true)::_)
     (exact Ents.au)
    ·have hv:visitN W (r,rest) f (0+1)=(r',q'):=by rw [hstep,visit1,hWg];simp [hb]
     (repeat' first|(refine Ka ?_;first|refine Kb ?_|(refine Kc ?_;intro _))|refine Kd ?_|refine Kh ?_)
     refine Tri.draw (.take 0 (.take 1 (.take 2 (.take 3 (.take 4 (.take 5 (.take 6 (.take 7 (.take 8 (.take 9 (.take 10 (.take 11 (.take 12 (.done)))))))))))))) rfl (by kernel_rfl) ?_
     (repeat' first|(refine Ka ?_;first|refine Kb ?_|(refine Kc ?_;intro _))|refine Kd ?_|(refine Ki ?_;refine Kj ?_)|exact Kk|refine Kl ?_ ?_|(refine Km ?_;first|refine Kn ?_|(refine Ko ?_;intro _))|(refine Kp ?_;first|refine Kq ?_|refine Kr ?_)|refine Kh ?_)
     refine Post.round (0+1,v5) (by simp) (by simp) (by (exact Sub.au)) ?_
     show Ents _ (.ow _ _ v5 (visitN W (r,rest) f (0+1)).2::.ow _ _ rv (visitN W (r,rest) f (0+1)).1::_)
     rw [hv]
     show Ents _ (.ow _ _ v5 q'::.ow _ _ rv r'::_)
     (exact Ents.au)
   ·have g3:mGet ow (f.z,f.y)=some g:=g2
    cases b
    ·have hv:visitN W (r,rest) f (1+1)=(r'.set g true,q'++[g]):=by rw [hstep,visit1,hWg];simp [hb]
     (repeat' first|(refine Ka ?_;first|refine Kb ?_|(refine Kc ?_;intro _))|refine Kd ?_|refine Kh ?_)
     refine Tri.draw (.take 0 (.take 1 (.take 2 (.take 3 (.take 4 (.take 5 (.take 6 (.take 7 (.take 8 (.take 9 (.take 10 (.take 11 (.take 12 (.done)))))))))))))) rfl (by kernel_rfl) ?_
     (repeat' first|(refine Ka ?_;first|refine Kb ?_|(refine Kc ?_;intro _))|refine Kd ?_|(refine Ki ?_;refine Kj ?_)|exact Kk|refine Kl ?_ ?_|(refine Km ?_;first|refine Kn ?_|(refine Ko ?_;intro _))|(refine Kp ?_;first|refine Kq ?_|refine Kr ?_)|refine Kh ?_)
     rename_i v6
     refine Post.round (1+1,v6) (by simp) (by simp) (by (exact Sub.au)) ?_
     show Ents _ (.ow _ _ v6 (visitN W (r,rest) f (1+1)).2::.ow _ _ rv (visitN W (r,rest) f (1+1)).1::_)
     rw [hv]
     show Ents _ (.ow _ _ v6 (q'++[g])::.ow _ _ rv (r'.set g true)::_)
     (exact Ents.au)
    ·have hv:visitN W (r,rest) f (1+1)=(r',q'):=by rw [hstep,visit1,hWg];simp [hb]
     (repeat' first|(refine Ka ?_;first|refine Kb ?_|(refine Kc ?_;intro _))|refine Kd ?_|refine Kh ?_)
     refine Tri.draw (.take 0 (.take 1 (.take 2 (.take 3 (.take 4 (.take 5 (.take 6 (.take 7 (.take 8 (.take 9 (.take 10 (.take 11 (.take 12 (.done)))))))))))))) rfl (by kernel_rfl) ?_
     (repeat' first|(refine Ka ?_;first|refine Kb ?_|(refine Kc ?_;intro _))|refine Kd ?_|(refine Ki ?_;refine Kj ?_)|exact Kk|refine Kl ?_ ?_|(refine Km ?_;first|refine Kn ?_|(refine Ko ?_;intro _))|(refine Kp ?_;first|refine Kq ?_|refine Kr ?_)|refine Kh ?_)
     refine Post.round (1+1,v5) (by simp) (by simp) (by (exact Sub.au)) ?_
     show Ents _ (.ow _ _ v5 (visitN W (r,rest) f (1+1)).2::.ow _ _ rv (visitN W (r,rest) f (1+1)).1::_)
     rw [hv]
     show Ents _ (.ow _ _ v5 q'::.ow _ _ rv r'::_)
     (exact Ents.au)
   ·have g3:mGet ow (f.x,f.z)=some g:=g2
    cases b
    ·have hv:visitN W (r,rest) f (2+1)=(r'.set g true,q'++[g]):=by rw [hstep,visit1,hWg];simp [hb]
     (repeat' first|(refine Ka ?_;first|refine Kb ?_|(refine Kc ?_;intro _))|refine Kd ?_|refine Kh ?_)
     refine Tri.draw (.take 0 (.take 1 (.take 2 (.take 3 (.take 4 (.take 5 (.take 6 (.take 7 (.take 8 (.take 9 (.take 10 (.take 11 (.take 12 (.done)))))))))))))) rfl (by kernel_rfl) ?_
     (repeat' first|(refine Ka ?_;first|refine Kb ?_|(refine Kc ?_;intro _))|refine Kd ?_|(refine Ki ?_;refine Kj ?_)|exact Kk|refine Kl ?_ ?_|(refine Km ?_;first|refine Kn ?_|(refine Ko ?_;intro _))|(refine Kp ?_;first|refine Kq ?_|refine Kr ?_)|refine Kh ?_)
     rename_i v6
     refine Post.round (2+1,v6) (by simp) (by simp) (by (exact Sub.au)) ?_
     show Ents _ (.ow _ _ v6 (visitN W (r,rest) f (2+1)).2::.ow _ _ rv (visitN W (r,rest) f (2+1)).1::_)
     rw [hv]
     show Ents _ (.ow _ _ v6 (q'++[g])::.ow _ _ rv (r'.set g true)::_)
     (exact Ents.au)
    ·have hv:visitN W (r,rest) f (2+1)=(r',q'):=by rw [hstep,visit1,hWg];simp [hb]
     (repeat' first|(refine Ka ?_;first|refine Kb ?_|(refine Kc ?_;intro _))|refine Kd ?_|refine Kh ?_)
     refine Tri.draw (.take 0 (.take 1 (.take 2 (.take 3 (.take 4 (.take 5 (.take 6 (.take 7 (.take 8 (.take 9 (.take 10 (.take 11 (.take 12 (.done)))))))))))))) rfl (by kernel_rfl) ?_
     (repeat' first|(refine Ka ?_;first|refine Kb ?_|(refine Kc ?_;intro _))|refine Kd ?_|(refine Ki ?_;refine Kj ?_)|exact Kk|refine Kl ?_ ?_|(refine Km ?_;first|refine Kn ?_|(refine Ko ?_;intro _))|(refine Kp ?_;first|refine Kq ?_|refine Kr ?_)|refine Kh ?_)
     refine Post.round (2+1,v5) (by simp) (by simp) (by (exact Sub.au)) ?_
     show Ents _ (.ow _ _ v5 (visitN W (r,rest) f (2+1)).2::.ow _ _ rv (visitN W (r,rest) f (2+1)).1::_)
     rw [hv]
     show Ents _ (.ow _ _ v5 q'::.ow _ _ rv r'::_)
     (exact Ents.au)
  ·have hj3:j=3:=by omega
   subst hj3
   have hw':∀ k,k < 3→W (f.edge k).swap < fcs.length:=fun k hk=>by rw [← hrn];exact hw k hk
   have hmem:=visitN_mem (ow:=W) (s:=(r,rest)) (f:=f) (n:=fcs.length) (k:=3) hw' fun y hy=>hnx y (by rw [hnxe];exact List.mem_cons_of_mem _ hy)
   rw [hs] at hmem
   (repeat' first|(refine Ka ?_;first|refine Kb ?_|(refine Kc ?_;intro _))|refine Kd ?_|refine Kh ?_)
   refine Post.round (v5,r',q') ⟨hsn,hmem,?_,?_⟩ ?_ (by (exact Sub.au)) (by (exact Ents.au))
   ·show left (r',q')≤fcs.length
    omega
   ·show (reach W fcs (left (r',q')) (r',q')).findIdx? (· == false)=R
    rw [← hre,← hle,hsl,hnxe]
    simp only [reach,hp,visit,hs]
   ·show left (r',q') < left (r,nx)
    omega
 ·have hnil:nx=[]:=by
   cases nx with
   | nil=>rfl
   | cons x rest=>simp at hc
  subst hnil
  rw [reach_nil] at hre
  (repeat' first|(refine Ka ?_;first|refine Kb ?_|(refine Kc ?_;intro _))|refine Kd ?_|refine Kh ?_)
  refine TL.call rfl rfl rfl (index_ok (by omega)) ?_
  rintro v Bs ⟨rfl,rfl⟩
  (repeat' first|(refine Ka ?_;first|refine Kb ?_|(refine Kc ?_;intro _))|refine Kd ?_|refine Kh ?_)
  (refine Post.ra ?_)
  refine ⟨_,⟨?_,rfl⟩,by (exact Ents.au)⟩
  rw [← hre,found_idx]
end Go.Proofs.YtkcnpgmgmgepoaaGreatDoor
namespace Go.Proofs.YtkcnpgmgmgepoaaGreatDoor
open Go Go.Sx
variable {w0:World} {As:List Ent} {pv fv mv:Value} {pts fcs:List V3}
set_option maxHeartbeats 8000000 in
theorem flaw_ok [RdIn As fv V3 cV3 fcs] [RdIn As pv V3 cV3 pts] :
  CallsS Tryz.prog w0 158 [.agg #[pv,fv]] As fun v Bs=>v=flawV (flawM pts fcs)∧Bs=As:=by
 refine CallsS.rdOne pv fun hpv=>CallsS.rdOne fv fun hfv=>?_
 refine CallsS.of_tri Tryz.func158 rfl Tryz.ntmps158 rfl ?_
 (repeat' (first|((show TL _ _ _ _ (_::_) _ _ _;first|refine TL.fa ?_|refine TL.ua ?_|(refine TL.rba ?_;intro _)|(refine TL.rra ?_;first|rintro _ _ ⟨rfl,rfl⟩|rintro _ _ rfl)|refine TL.offa ?_|refine TL.off0a ?_|refine TL.gu ?_|fail))|(refine Stp.h ?_)|((show Tri _ _ _ (.cond _ _ _) _ _ _;first|refine Tri.cTa ?_|refine Tri.cFa ?_|refine Tri.condTa ?_|refine Tri.condFa ?_|refine Tri.condNTa ?_|refine Tri.condNFa ?_|fail))|(first|refine TL.gsplit rfl rfl (fun hgs=>?_) (fun hgs=>?_)|refine TL.gsplitN rfl rfl (fun hgs=>?_) (fun hgs=>?_)|refine TT.gsplit rfl rfl rfl (fun hgs=>?_) (fun hgs=>?_)|refine TT.gsplitN rfl rfl rfl (fun hgs=>?_) (fun hgs=>?_))|((show Tri _ _ _ (.cond _ _ _) _ _ _;first|refine Tri.condP rfl (fun hc=>?_) (fun hc=>?_)|refine Tri.condN rfl (fun hc=>?_) (fun hc=>?_)))))
 iterate 4
  (refine Post.ra ?_)
  refine ⟨_,⟨?_,rfl⟩,by (exact Ents.au)⟩
  simp only [flawM,flawV]
  first
   | (rw [if_pos (by omega)];rfl)
   | (rw [if_neg (by omega),if_pos (by omega)];rfl)
  rotate_left 0
 refine TL.rb rfl rfl (ExR.makeMap cE cNv) ?_
 intro mb
 have hM:flawM pts fcs=firstOf [farF pts,wrongF pts.length fcs,flatF pts fcs,twiceF fcs,openF fcs (ownF fcs),spareF pts.length fcs,apartF (fun u=>(mGet (ownF fcs) u).getD 0) fcs] 2:=by
  rw [flawM,if_neg (by omega),if_neg (by omega)]
 rw [hM]
 (repeat' first|(refine Ka ?_;first|refine Kb ?_|(refine Kc ?_;intro _))|refine Kd ?_|refine Kh ?_)
 refine Tri.unroll 8 ?_
 (repeat' first|(refine Ka ?_;first|refine Kb ?_|(refine Kc ?_;intro _))|refine Kd ?_|refine Kh ?_)
 refine Ks rfl rfl rfl rfl (far_ok (by omega)) ?_
 rcases h1:farF pts with _|i
 rotate_left
 ·(repeat' first|(refine Ka ?_;first|refine Kb ?_|(refine Kc ?_;intro _))|refine Kd ?_|refine Kh ?_)
  (refine Post.ra ?_)
  exact ⟨_,⟨rfl,rfl⟩,by (exact Ents.au)⟩
 (repeat' first|(refine Ka ?_;first|refine Kb ?_|(refine Kc ?_;intro _))|refine Kd ?_|refine Kh ?_)
 refine Ks rfl rfl rfl rfl (wrong_ok (by omega)) ?_
 rcases h2:wrongF pts.length fcs with _|i
 rotate_left
 ·(repeat' first|(refine Ka ?_;first|refine Kb ?_|(refine Kc ?_;intro _))|refine Kd ?_|refine Kh ?_)
  (refine Post.ra ?_)
  exact ⟨_,⟨rfl,rfl⟩,by (exact Ents.au)⟩
 (repeat' first|(refine Ka ?_;first|refine Kb ?_|(refine Kc ?_;intro _))|refine Kd ?_|refine Kh ?_)
 refine Ks rfl rfl rfl rfl (flat_ok (by omega) (far_none h1) (wrong_none h2)) ?_
 rcases h3:flatF pts fcs with _|i
 rotate_left
 ·(repeat' first|(refine Ka ?_;first|refine Kb ?_|(refine Kc ?_;intro _))|refine Kd ?_|refine Kh ?_)
  (refine Post.ra ?_)
  exact ⟨_,⟨rfl,rfl⟩,by (exact Ents.au)⟩
 (repeat' first|(refine Ka ?_;first|refine Kb ?_|(refine Kc ?_;intro _))|refine Kd ?_|refine Kh ?_)
 refine Ks rfl rfl rfl rfl (CallsS.front (.ob mb (mapO cE cNv [])) (twice_ok (by omega))) ?_
 rcases h4:twiceF fcs with _|i
 rotate_left
 ·(repeat' first|(refine Ka ?_;first|refine Kb ?_|(refine Kc ?_;intro _))|refine Kd ?_|refine Kh ?_)
  (refine Post.ra ?_)
  exact ⟨_,⟨rfl,rfl⟩,by (exact Ents.au)⟩
 (repeat' first|(refine Ka ?_;first|refine Kb ?_|(refine Kc ?_;intro _))|refine Kd ?_|refine Kh ?_)
 refine Ks rfl rfl rfl rfl (CallsS.front (.ob mb (mapO cE cNv (ownF fcs))) (open_ok (by omega))) ?_
 rcases h5:openF fcs (ownF fcs) with _|i
 rotate_left
 ·(repeat' first|(refine Ka ?_;first|refine Kb ?_|(refine Kc ?_;intro _))|refine Kd ?_|refine Kh ?_)
  (refine Post.ra ?_)
  exact ⟨_,⟨rfl,rfl⟩,by (exact Ents.au)⟩
 (repeat' first|(refine Ka ?_;first|refine Kb ?_|(refine Kc ?_;intro _))|refine Kd ?_|refine Kh ?_)
 refine Ks rfl rfl rfl rfl (spare_ok (by omega) (by omega) (wrong_none h2)) ?_
 rcases h6:spareF pts.length fcs with _|i
 rotate_left
 ·(repeat' first|(refine Ka ?_;first|refine Kb ?_|(refine Kc ?_;intro _))|refine Kd ?_|refine Kh ?_)
  (refine Post.ra ?_)
  exact ⟨_,⟨rfl,rfl⟩,by (exact Ents.au)⟩
 (repeat' first|(refine Ka ?_;first|refine Kb ?_|(refine Kc ?_;intro _))|refine Kd ?_|refine Kh ?_)
 refine Ks rfl rfl rfl rfl (CallsS.front (.ob mb (mapO cE cNv (ownF fcs))) (apart_ok (by omega) (by omega) (open_none h5))) ?_
 rcases h7:apartF (fun u=>(mGet (ownF fcs) u).getD 0) fcs with _|i
 rotate_left
 ·(repeat' first|(refine Ka ?_;first|refine Kb ?_|(refine Kc ?_;intro _))|refine Kd ?_|refine Kh ?_)
  (refine Post.ra ?_)
  exact ⟨_,⟨rfl,rfl⟩,by (exact Ents.au)⟩
 (repeat' first|(refine Ka ?_;first|refine Kb ?_|(refine Kc ?_;intro _))|refine Kd ?_|refine Kh ?_)
 (refine Post.ra ?_)
 exact ⟨_,⟨rfl,rfl⟩,by (exact Ents.au)⟩
end Go.Proofs.YtkcnpgmgmgepoaaGreatDoor
namespace Go.Proofs.YtkcnpgmgmgepoaaGreatDoor
open Go Go.Sx
variable {w0:World} {As:List Ent} {pv fv pv' fv':Value} {pts fcs pts' fcs':List V3}
theorem check_ok [RdIn As fv V3 cV3 fcs] [RdIn As pv V3 cV3 pts] :
  CallsS Tryz.prog w0 61 [.agg #[pv,fv]] As fun v Bs=>v=.int .i64 (chkM pts fcs)∧Bs=As:=by
 refine CallsS.of_tri Tryz.func61 rfl Tryz.ntmps61 rfl ?_
 (repeat' first|(refine Ka ?_;first|refine Kb ?_|(refine Kc ?_;intro _))|refine Kd ?_|refine Kh ?_)
 refine Kt rfl rfl rfl flaw_ok ?_
 (repeat' first|(refine Ka ?_;first|refine Kb ?_|(refine Kc ?_;intro _))|refine Kd ?_|refine Kh ?_)
 ((show Tri _ _ _ (.cond _ _ _) _ _ _;first|refine Tri.condP rfl (fun hc=>?_) (fun hc=>?_)|refine Tri.condN rfl (fun hc=>?_) (fun hc=>?_)))
 ·(repeat' first|(refine Ka ?_;first|refine Kb ?_|(refine Kc ?_;intro _))|refine Kd ?_|refine Kh ?_)
  (refine Post.ra ?_)
  exact ⟨_,⟨by rw [chkM,if_neg (by omega)],rfl⟩,by (exact Ents.au)⟩
 ·(repeat' first|(refine Ka ?_;first|refine Kb ?_|(refine Kc ?_;intro _))|refine Kd ?_|refine Kh ?_)
  (refine Post.ra ?_)
  exact ⟨_,⟨by rw [chkM,if_pos (by omega)],rfl⟩,by (exact Ents.au)⟩
end Go.Proofs.YtkcnpgmgmgepoaaGreatDoor
