/- Walks: ShellHolds. -/
import Derived.Test.YtgapnfaakdjpaaaGreatDoorIh3
import Derived.Test.YtgapnfaakdjpaaaGreatDoorLs6
import Derived.Test.YtgapnfaakdjpaaaGreatDoorLs0
import Derived.Test.YtgapnfaakdjpaaaGreatDoorIx7
namespace Go.Proofs.YtgapnfaakdjpaaaGreatDoor
open Go Go.Sx
variable {w0:World} {As:List Ent}
set_option maxRecDepth 100000 in
set_option maxHeartbeats 8000000 in
theorem shellHolds_ok (ht:Tab w0) (d:D37A) (hd:d.ok) {m:Nat} (hm:m < 256):CallsS Tryz.prog w0 9 [.agg d.cells.toArray,.int .u8 (m:Int)] As fun u _=>u=.bool true:=by
  obtain ⟨d',hd'⟩:∃ d':D37A,d'={ d with v0:=0,v1:=0,v2:=0 }:=⟨_,rfl⟩
  have hok:d'.ok:=by
    obtain ⟨h1,h2,h3,h4,h5,h6,h7,h8⟩:=hd
    rw [hd'];exact ⟨h1,h2,h3,h4,h5,(by omega:0 < 256),(by omega:0 < 256),(by omega:0 < 256)⟩
  have hq:=d'.dok hok
  have hz:=d'.szOk
  have h0:d'.d.h0=0:=by rw [hd'];rfl
  have h1:d'.d.h1=0:=by rw [hd'];rfl
  have h2:d'.d.h2=0:=by rw [hd'];rfl
  have hgr:=fun As:List Ent=>grid37_ok (w0:=w0) (As:=As) d' hok
  have hcells:d'.cells=[.int .u8 (d.sz:Int),.int .u8 (d.tu:Int),.int .u16 (d.u0:Int),.int .u16 (d.u1:Int),.int .u16 (d.u2:Int),.int .u8 0,.int .u8 0,.int .u8 0]:=by rw [hd'];rfl
  rw [hcells] at hgr
  clear hd' hcells hok
  generalize d'.d=q at hq hgr h0 h1 h2
  generalize d'.a=a at hz hgr
  generalize d'.b=b at hz hgr
  generalize d'.c=c at hz hgr
  clear d'
  obtain ⟨F,hsh,hg,hF⟩:=grid_shell2 hq hz
  have hgok:=grid_ok hq hz
  have hside:∀ i j k:Nat,i < a→j < b→k < c→sideW ((nodesF a b c).map (phi q)) F (phi q ⟨i,j,k⟩)=(if onI a b c i j k=true then (1,0) else (2,0)):=fun i j k hi hj hk=>node_sides hq h0 h1 h2 hz hi hj hk hF
  have hPl:((nodesF a b c).map (phi q)).length=(nodesF a b c).length:=List.length_map ..
  obtain ⟨l1,l2,l3⟩:=hz.len
  have hDl:(gridD q a b c).length=3 * (a * b * c):=gridP_len
  have hsm:a * b * c≤80:=Nat.mul_le_mul (Nat.mul_le_mul hz.a5 hz.b4) hz.c4
  generalize (nodesF a b c).map (phi q)=P at hsh hg hside hPl
  refine CallsS.of_tri Tryz.func9 rfl Tryz.ntmps9 rfl ?_
  simp only [D37A.cells]
  (repeat' first|(refine Ka ?_;first|refine Kb ?_|(refine Kc ?_;intro _))|refine Kd ?_|refine Kh ?_)
  refine TL.call rfl rfl rfl (works_ok ht) ?_
  rintro _ As ⟨rfl,rfl⟩
  (repeat' first|(refine Ka ?_;first|refine Kb ?_|(refine Kc ?_;intro _))|refine Kd ?_|refine Kh ?_)
  refine TL.callv rfl rfl rfl rfl (hgr _) ?_
  rintro _ _ ⟨sv,dv,rfl,rfl⟩
  refine TL.rdSl (c:=cI .i64) (xs:=gridD q a b c) dv ?_
  rintro dp dc rfl
  refine TL.rdSl (c:=cI .i64) (xs:=[(a:Int),(b:Int),(c:Int)]) sv ?_
  rintro sp sc rfl
  rw [show ([(a:Int),(b:Int),(c:Int)]:List Int).length=3 from rfl]
  (repeat' first|(refine Ka ?_;first|refine Kb ?_|(refine Kc ?_;intro _))|refine Kd ?_|refine Kh ?_)
  rename_i b2 b5
  refine TL.call rfl rfl rfl (shell_ok ht (S:=[(a:Int),(b:Int),(c:Int)]) (D:=gridD q a b c) (by simp) (by omega)) ?_
  intro _ _ h
  obtain ⟨pv,fv,rfl,o1,o2,rfl⟩:=meshR_eq hsh h
  refine TL.rdSl (c:=cV3) (xs:=P) pv ?_
  rintro pp pc rfl
  refine TL.rdSl (c:=cV3) (xs:=F) fv ?_
  rintro fp fc rfl
  (repeat' first|(refine Ka ?_;first|refine Kb ?_|(refine Kc ?_;intro _))|refine Kd ?_|refine Kh ?_)
  rename_i b6
  have hz0:=hz
  obtain ⟨a2,a5,bb2,bb4,c2,c4⟩:=hz
  have g0:([(a:Int),(b:Int),(c:Int)]:List Int)[0]?=some (a:Int):=rfl
  have g1:([(a:Int),(b:Int),(c:Int)]:List Int)[1]?=some (b:Int):=rfl
  have g2:([(a:Int),(b:Int),(c:Int)]:List Int)[2]?=some (c:Int):=rfl
  have gl:([(a:Int),(b:Int),(c:Int)]:List Int).length=3:=rfl
  generalize hS:[(a:Int),(b:Int),(c:Int)]=S at g0 g1 g2 gl hsh ⊢
  have mab:(a:Int) * (b:Int)=((a * b:Nat):Int):=by push_cast;rfl
  have mabc:((a * b:Nat):Int) * (c:Int)=((a * b * c:Nat):Int):=by push_cast;rfl
  have mbc:(b:Int) * (c:Int)=((b * c:Nat):Int):=by push_cast;rfl
  have nab:a * b≤20:=Nat.mul_le_mul a5 bb4
  have nbc:b * c≤16:=Nat.mul_le_mul bb4 c4
  have nbc0:4≤b * c:=Nat.mul_le_mul bb2 c2
  have npos:0 < a * b * c:=Nat.mul_pos (Nat.mul_pos (by omega) (by omega)) (by omega)
  refine Tri.dr (.take 0 (.take 1 (.take 2 (.take 3 (.take 4 (.take 5 (.take 6 (.take 7 (.take 8 (.take 9 (.take 10 (.take 11 (.take 12 (.take 13 (.take 14 (.take 15 (.take 16 (.take 17 (.done))))))))))))))))))) ?_
  (repeat' first|(refine Ka ?_;first|refine Kb ?_|(refine Kc ?_;intro _))|refine Kd ?_|(refine Ki ?_;refine Kj ?_)|exact Kk|refine Kl ?_ ?_|(refine Km ?_;first|refine Kn ?_|(refine Ko ?_;intro _))|(refine Kp ?_;first|refine Kq ?_|refine Kr ?_)|refine Kh ?_)
  rw [mab,mabc,wrap_of_IR (show IR .i64 ((a * b * c:Nat):Int) from ⟨by omega,by omega⟩)]
  have hcin:=fun n=>cell_in (a:=a) (b:=b) (c:=c) (p:=n)
  generalize a * b * c=T at *
  (repeat' first|(refine Ka ?_;first|refine Kb ?_|(refine Kc ?_;intro _))|refine Kd ?_|(refine Ki ?_;refine Kj ?_)|exact Kk|refine Kl ?_ ?_|(refine Km ?_;first|refine Kn ?_|(refine Ko ?_;intro _))|(refine Kp ?_;first|refine Kq ?_|refine Kr ?_)|refine Kh ?_)
  obtain ⟨n,hn,hn1⟩:∃ n:Nat,(m:Int) % (T:Int)=(n:Int)∧n < T:=⟨m % T,by push_cast;rfl,Nat.mod_lt _ npos⟩
  obtain ⟨i,j,k,hcell,hi,hj,hk,hp⟩:=hcin n hn1
  have e2:(n:Int) % (c:Int)=(k:Int):=by rw [hp];have:=(div_at (i:=i) hj hk).2.2;omega
  have e1:(n:Int) / (c:Int) % (b:Int)=(j:Int):=by have:=(div_at (i:=i) hj hk).2.1;rw [← hp] at this;rw [← this];push_cast;rfl
  rw [← Int.tmod_eq_emod_of_nonneg (Int.ediv_nonneg (by omega) (by omega))] at e1
  have e0:(n:Int) / ((b:Int) * (c:Int))=(i:Int):=by
    have:=(div_at (i:=i) hj hk).1
    rw [← hp,Nat.div_div_eq_div_mul,Nat.mul_comm c b] at this
    rw [← this];push_cast;rfl
  rw [hn]
  refine Tri.dr (.take 0 (.take 1 (.take 2 (.take 3 (.take 4 (.take 5 (.take 6 (.take 7 (.take 8 (.take 9 (.take 10 (.take 11 (.take 12 (.take 13 (.take 14 (.take 15 (.take 16 (.take 17 (.take 18 (.take 19 (.take 20 (.take 21 (.take 22 (.take 23 (.take 24 (.take 25 (.take 26 (.take 27 (.take 28 (.all [(29,.all [(30,.done)])])))))))))))))))))))))))))))))) ?_
  (repeat' first|(refine Ka ?_;first|refine Kb ?_|(refine Kc ?_;intro _))|refine Kd ?_|(refine Ki ?_;refine Kj ?_)|exact Kk|refine Kl ?_ ?_|(refine Km ?_;first|refine Kn ?_|(refine Ko ?_;intro _))|(refine Kp ?_;first|refine Kq ?_|refine Kr ?_)|refine Kh ?_)
  rename_i b9
  rw [e0,e1,e2]
  have hcol:=col_R (out_in hq (i:=i) (j:=j) (k:=k) (by omega) (by omega) (by omega))
  have hsd:=hside i j k hi hj hk
  obtain ⟨w,hw⟩:∃ w:Int,w=if (i=0∨i+1=a)∨(j=0∨j+1=b)∨(k=0∨k+1=c) then 1 else 2:=⟨_,rfl⟩
  rw [show (if onI a b c i j k=true then ((1:Int),(0:Int)) else (2,0))=(w,0) by
    rw [hw]
    by_cases h:onI a b c i j k=true
    · rw [if_pos h,if_pos (onI_iff.1 h)]
    · rw [if_neg h,if_neg fun k=>h (onI_iff.2 k)]] at hsd
  clear hside e0 e1 e2 hn hn1 hp hcell
  refine TL.callv rfl rfl rfl rfl (node_ok (q:=q) (a:=a) (b:=b) (c:=c) (i:=i) (j:=j) (k:=k) (S:=S) hS.symm hz0 hi hj hk) ?_
  rintro _ _ ⟨rfl,rfl⟩
  rw [show phi q ⟨i,j,k⟩=colV (q.out ⟨i,j,k⟩) from rfl] at hsd
  generalize q.out ⟨i,j,k⟩=y at hcol hsd ⊢
  show TL _ _ _ _ _ ((_,.agg #[.int .i64 y.x,.int .i64 y.y,.int .i64 y.z])::_) _ _
  (repeat' first|(refine Ka ?_;first|refine Kb ?_|(refine Kc ?_;intro _))|refine Kd ?_|(refine Ki ?_;refine Kj ?_)|exact Kk|refine Kl ?_ ?_|(refine Km ?_;first|refine Kn ?_|(refine Ko ?_;intro _))|(refine Kp ?_;first|refine Kq ?_|refine Kr ?_)|refine Kh ?_)
  have hc37:∀ Bs,CallsS Tryz.prog w0 32 [.int .i64 y.x,.int .i64 y.y,.int .i64 y.z] Bs fun u Cs=>u=.tuple #[(colV y).val,.bool true]∧Cs=Bs:=fun Bs=>by
    have h:=color37_ok (w0:=w0) (As:=Bs) (x:=y.x) (y:=y.y) (z:=y.z)
    rw [hcol] at h
    exact h
  refine TL.call rfl rfl rfl (hc37 _) ?_
  rintro _ _ ⟨rfl,rfl⟩
  clear hc37
  generalize colV y=p at hsd ⊢
  show TL _ _ _ _ _ ((_,.tuple #[.agg #[.int .i64 p.x,.int .i64 p.y,.int .i64 p.z],.bool true])::_) _ _
  (repeat' first|(refine Ka ?_;first|refine Kb ?_|(refine Kc ?_;intro _))|refine Kd ?_|refine Kh ?_)
  refine TL.callv rfl rfl rfl rfl (side_ok ht (pv:=.slice pp P.length pc) (fv:=.slice fp F.length fc) (pts:=P) (fcs:=F) (p:=p)) ?_
  rintro _ _ ⟨rfl,rfl⟩
  rw [hsd]
  clear hcol hsd hsh hg hF
  (repeat' first|(refine Ka ?_;first|refine Kb ?_|(refine Kc ?_;intro _))|refine Kd ?_|refine Kh ?_)
  obtain ⟨W,hW⟩:∃ W:Nat→Int,W=fun t=>if (1≤t∧(i=0∨i+1=a))∨(2≤t∧(j=0∨j+1=b))∨(3≤t∧(k=0∨k+1=c)) then 1 else 2:=⟨_,rfl⟩
  have W0:W 0=2:=by rw [hW];exact if_neg (by omega)
  have W1:(¬ (i=0∨i+1=a)→W 1=W 0)∧((i=0∨i+1=a)→W 1=1):=by
    rw [hW];exact ⟨fun h=>by simp only;rw [if_neg (by omega),if_neg (by omega)],fun h=>if_pos (by omega)⟩
  have W2:(¬ (j=0∨j+1=b)→W 2=W 1)∧((j=0∨j+1=b)→W 2=1):=by
    rw [hW];exact ⟨fun h=>by simp only;congr 1;rw [eq_iff_iff];omega,fun h=>if_pos (by omega)⟩
  have W3:(¬ (k=0∨k+1=c)→W 3=W 2)∧((k=0∨k+1=c)→W 3=1):=by
    rw [hW];exact ⟨fun h=>by simp only;congr 1;rw [eq_iff_iff];omega,fun h=>if_pos (by omega)⟩
  have Ww:W 3=w:=by rw [hW,hw];simp only;congr 1;rw [eq_iff_iff];omega
  clear hW hw
  refine Tri.loop (ι:=Nat) (fun t=>t=0∨t=1∨t=2∨t=3) (fun t=>3 - t)
    (fun t=>[(5,.pointer (some ⟨b5,0,none⟩)),(7,.int .i64 0),(9,.pointer (some ⟨b9,0,none⟩)),(12,.bool true),(13,.int .i64 w),(14,.int .i64 0),(15,.int .i64 (W t)),(93,.int .i64 (t:Int))])
    (fun t=>.cl b9 [.int .i64 (i:Int),.int .i64 (j:Int),.int .i64 (k:Int)] 31::.cl b5 [.slice sp 3 sc,.int .i64 3,.slice dp (gridD q a b c).length dc] 76::.ow (cI .i64) 3 (.slice sp 3 sc) S::As) 0 (by omega) (by rw [W0];(exact Sub.au)) (by (exact Ents.au)) ?_
  clear hDl hsm mab mabc mbc nab nbc nbc0 npos hPl hgok
  intro t hT
  rcases hT with rfl|rfl|rfl|rfl
  · show Tri _ _ _ _ [(5,_),(7,_),(9,_),(12,_),(13,_),(14,_),(15,.int .i64 (W 0)),(93,.int .i64 0)] _ _
    obtain ⟨Wn,Wy⟩:=W1
    generalize W 0=v at *
    by_cases h0:i=0
    · have Wk:=Wy (.inl h0)
      subst h0
      (repeat' first|(refine Ka ?_;first|refine Kb ?_|(refine Kc ?_;intro _))|refine Kd ?_|refine Kh ?_)
      refine Tri.dr (.take 0 (.take 1 (.take 2 (.take 3 (.take 4 (.take 5 (.take 6 (.take 7 (.take 8 (.take 9 (.take 10 (.take 11 (.take 12 (.take 13 (.take 14 (.take 15 (.done))))))))))))))))) ?_
      (repeat' first|(refine Ka ?_;first|refine Kb ?_|(refine Kc ?_;intro _))|refine Kd ?_|(refine Ki ?_;refine Kj ?_)|exact Kk|refine Kl ?_ ?_|(refine Km ?_;first|refine Kn ?_|(refine Ko ?_;intro _))|(refine Kp ?_;first|refine Kq ?_|refine Kr ?_)|refine Kh ?_)
      exact Post.round 1 (by omega) (by omega) (by rw [Wk];(exact Sub.au)) (by (exact Ents.au))
    · by_cases h1:i+1=a
      · have Wk:=Wy (.inr h1)
        (repeat' first|(refine Ka ?_;first|refine Kb ?_|(refine Kc ?_;intro _))|refine Kd ?_|(refine Ki ?_;refine Kj ?_)|exact Kk|refine Kl ?_ ?_|(refine Km ?_;first|refine Kn ?_|(refine Ko ?_;intro _))|(refine Kp ?_;first|refine Kq ?_|refine Kr ?_)|refine Kh ?_)
        refine Tri.dr (.take 0 (.take 1 (.take 2 (.take 3 (.take 4 (.take 5 (.take 6 (.take 7 (.take 8 (.take 9 (.take 10 (.take 11 (.take 12 (.take 13 (.take 14 (.take 15 (.done))))))))))))))))) ?_
        (repeat' first|(refine Ka ?_;first|refine Kb ?_|(refine Kc ?_;intro _))|refine Kd ?_|(refine Ki ?_;refine Kj ?_)|exact Kk|refine Kl ?_ ?_|(refine Km ?_;first|refine Kn ?_|(refine Ko ?_;intro _))|(refine Kp ?_;first|refine Kq ?_|refine Kr ?_)|refine Kh ?_)
        exact Post.round 1 (by omega) (by omega) (by rw [Wk];(exact Sub.au)) (by (exact Ents.au))
      · have Wk:=Wn (by omega)
        (repeat' first|(refine Ka ?_;first|refine Kb ?_|(refine Kc ?_;intro _))|refine Kd ?_|(refine Ki ?_;refine Kj ?_)|exact Kk|refine Kl ?_ ?_|(refine Km ?_;first|refine Kn ?_|(refine Ko ?_;intro _))|(refine Kp ?_;first|refine Kq ?_|refine Kr ?_)|refine Kh ?_)
        refine Tri.dr (.take 0 (.take 1 (.take 2 (.take 3 (.take 4 (.take 5 (.take 6 (.take 7 (.take 8 (.take 9 (.take 10 (.take 11 (.take 12 (.take 13 (.take 14 (.take 15 (.done))))))))))))))))) ?_
        (repeat' first|(refine Ka ?_;first|refine Kb ?_|(refine Kc ?_;intro _))|refine Kd ?_|(refine Ki ?_;refine Kj ?_)|exact Kk|refine Kl ?_ ?_|(refine Km ?_;first|refine Kn ?_|(refine Ko ?_;intro _))|(refine Kp ?_;first|refine Kq ?_|refine Kr ?_)|refine Kh ?_)
        exact Post.round 1 (by omega) (by omega) (by rw [Wk];(exact Sub.au)) (by (exact Ents.au))
  · show Tri _ _ _ _ [(5,_),(7,_),(9,_),(12,_),(13,_),(14,_),(15,.int .i64 (W 1)),(93,.int .i64 1)] _ _
    obtain ⟨Wn,Wy⟩:=W2
    generalize W 1=v at *
    by_cases h0:j=0
    · have Wk:=Wy (.inl h0)
      subst h0
      (repeat' first|(refine Ka ?_;first|refine Kb ?_|(refine Kc ?_;intro _))|refine Kd ?_|(refine Ki ?_;refine Kj ?_)|exact Kk|refine Kl ?_ ?_|(refine Km ?_;first|refine Kn ?_|(refine Ko ?_;intro _))|(refine Kp ?_;first|refine Kq ?_|refine Kr ?_)|refine Kh ?_)
      refine Tri.dr (.take 0 (.take 1 (.take 2 (.take 3 (.take 4 (.take 5 (.take 6 (.take 7 (.take 8 (.take 9 (.take 10 (.take 11 (.take 12 (.take 13 (.take 14 (.take 15 (.done))))))))))))))))) ?_
      (repeat' first|(refine Ka ?_;first|refine Kb ?_|(refine Kc ?_;intro _))|refine Kd ?_|(refine Ki ?_;refine Kj ?_)|exact Kk|refine Kl ?_ ?_|(refine Km ?_;first|refine Kn ?_|(refine Ko ?_;intro _))|(refine Kp ?_;first|refine Kq ?_|refine Kr ?_)|refine Kh ?_)
      exact Post.round 2 (by omega) (by omega) (by rw [Wk];(exact Sub.au)) (by (exact Ents.au))
    · by_cases h1:j+1=b
      · have Wk:=Wy (.inr h1)
        (repeat' first|(refine Ka ?_;first|refine Kb ?_|(refine Kc ?_;intro _))|refine Kd ?_|(refine Ki ?_;refine Kj ?_)|exact Kk|refine Kl ?_ ?_|(refine Km ?_;first|refine Kn ?_|(refine Ko ?_;intro _))|(refine Kp ?_;first|refine Kq ?_|refine Kr ?_)|refine Kh ?_)
        refine Tri.dr (.take 0 (.take 1 (.take 2 (.take 3 (.take 4 (.take 5 (.take 6 (.take 7 (.take 8 (.take 9 (.take 10 (.take 11 (.take 12 (.take 13 (.take 14 (.take 15 (.done))))))))))))))))) ?_
        (repeat' first|(refine Ka ?_;first|refine Kb ?_|(refine Kc ?_;intro _))|refine Kd ?_|(refine Ki ?_;refine Kj ?_)|exact Kk|refine Kl ?_ ?_|(refine Km ?_;first|refine Kn ?_|(refine Ko ?_;intro _))|(refine Kp ?_;first|refine Kq ?_|refine Kr ?_)|refine Kh ?_)
        exact Post.round 2 (by omega) (by omega) (by rw [Wk];(exact Sub.au)) (by (exact Ents.au))
      · have Wk:=Wn (by omega)
        (repeat' first|(refine Ka ?_;first|refine Kb ?_|(refine Kc ?_;intro _))|refine Kd ?_|(refine Ki ?_;refine Kj ?_)|exact Kk|refine Kl ?_ ?_|(refine Km ?_;first|refine Kn ?_|(refine Ko ?_;intro _))|(refine Kp ?_;first|refine Kq ?_|refine Kr ?_)|refine Kh ?_)
        refine Tri.dr (.take 0 (.take 1 (.take 2 (.take 3 (.take 4 (.take 5 (.take 6 (.take 7 (.take 8 (.take 9 (.take 10 (.take 11 (.take 12 (.take 13 (.take 14 (.take 15 (.done))))))))))))))))) ?_
        (repeat' first|(refine Ka ?_;first|refine Kb ?_|(refine Kc ?_;intro _))|refine Kd ?_|(refine Ki ?_;refine Kj ?_)|exact Kk|refine Kl ?_ ?_|(refine Km ?_;first|refine Kn ?_|(refine Ko ?_;intro _))|(refine Kp ?_;first|refine Kq ?_|refine Kr ?_)|refine Kh ?_)
        exact Post.round 2 (by omega) (by omega) (by rw [Wk];(exact Sub.au)) (by (exact Ents.au))
  · show Tri _ _ _ _ [(5,_),(7,_),(9,_),(12,_),(13,_),(14,_),(15,.int .i64 (W 2)),(93,.int .i64 2)] _ _
    obtain ⟨Wn,Wy⟩:=W3
    generalize W 2=v at *
    by_cases h0:k=0
    · have Wk:=Wy (.inl h0)
      subst h0
      (repeat' first|(refine Ka ?_;first|refine Kb ?_|(refine Kc ?_;intro _))|refine Kd ?_|(refine Ki ?_;refine Kj ?_)|exact Kk|refine Kl ?_ ?_|(refine Km ?_;first|refine Kn ?_|(refine Ko ?_;intro _))|(refine Kp ?_;first|refine Kq ?_|refine Kr ?_)|refine Kh ?_)
      refine Tri.dr (.take 0 (.take 1 (.take 2 (.take 3 (.take 4 (.take 5 (.take 6 (.take 7 (.take 8 (.take 9 (.take 10 (.take 11 (.take 12 (.take 13 (.take 14 (.take 15 (.done))))))))))))))))) ?_
      (repeat' first|(refine Ka ?_;first|refine Kb ?_|(refine Kc ?_;intro _))|refine Kd ?_|(refine Ki ?_;refine Kj ?_)|exact Kk|refine Kl ?_ ?_|(refine Km ?_;first|refine Kn ?_|(refine Ko ?_;intro _))|(refine Kp ?_;first|refine Kq ?_|refine Kr ?_)|refine Kh ?_)
      exact Post.round 3 (by omega) (by omega) (by rw [Wk];(exact Sub.au)) (by (exact Ents.au))
    · by_cases h1:k+1=c
      · have Wk:=Wy (.inr h1)
        (repeat' first|(refine Ka ?_;first|refine Kb ?_|(refine Kc ?_;intro _))|refine Kd ?_|(refine Ki ?_;refine Kj ?_)|exact Kk|refine Kl ?_ ?_|(refine Km ?_;first|refine Kn ?_|(refine Ko ?_;intro _))|(refine Kp ?_;first|refine Kq ?_|refine Kr ?_)|refine Kh ?_)
        refine Tri.dr (.take 0 (.take 1 (.take 2 (.take 3 (.take 4 (.take 5 (.take 6 (.take 7 (.take 8 (.take 9 (.take 10 (.take 11 (.take 12 (.take 13 (.take 14 (.take 15 (.done))))))))))))))))) ?_
        (repeat' first|(refine Ka ?_;first|refine Kb ?_|(refine Kc ?_;intro _))|refine Kd ?_|(refine Ki ?_;refine Kj ?_)|exact Kk|refine Kl ?_ ?_|(refine Km ?_;first|refine Kn ?_|(refine Ko ?_;intro _))|(refine Kp ?_;first|refine Kq ?_|refine Kr ?_)|refine Kh ?_)
        exact Post.round 3 (by omega) (by omega) (by rw [Wk];(exact Sub.au)) (by (exact Ents.au))
      · have Wk:=Wn (by omega)
        (repeat' first|(refine Ka ?_;first|refine Kb ?_|(refine Kc ?_;intro _))|refine Kd ?_|(refine Ki ?_;refine Kj ?_)|exact Kk|refine Kl ?_ ?_|(refine Km ?_;first|refine Kn ?_|(refine Ko ?_;intro _))|(refine Kp ?_;first|refine Kq ?_|refine Kr ?_)|refine Kh ?_)
        refine Tri.dr (.take 0 (.take 1 (.take 2 (.take 3 (.take 4 (.take 5 (.take 6 (.take 7 (.take 8 (.take 9 (.take 10 (.take 11 (.take 12 (.take 13 (.take 14 (.take 15 (.done))))))))))))))))) ?_
        (repeat' first|(refine Ka ?_;first|refine Kb ?_|(refine Kc ?_;intro _))|refine Kd ?_|(refine Ki ?_;refine Kj ?_)|exact Kk|refine Kl ?_ ?_|(refine Km ?_;first|refine Kn ?_|(refine Ko ?_;intro _))|(refine Kp ?_;first|refine Kq ?_|refine Kr ?_)|refine Kh ?_)
        exact Post.round 3 (by omega) (by omega) (by rw [Wk];(exact Sub.au)) (by (exact Ents.au))
  · show Tri _ _ _ _ [(5,_),(7,_),(9,_),(12,_),(13,_),(14,_),(15,.int .i64 (W 3)),(93,.int .i64 3)] _ _
    rw [Ww]
    (repeat' first|(refine Ka ?_;first|refine Kb ?_|(refine Kc ?_;intro _))|refine Kd ?_|(refine Ki ?_;refine Kj ?_)|exact Kk|refine Kl ?_ ?_|(refine Km ?_;first|refine Kn ?_|(refine Ko ?_;intro _))|(refine Kp ?_;first|refine Kq ?_|refine Kr ?_)|refine Kh ?_)
    (refine Post.ra ?_)
    refine ⟨_,?_,Ents.refl _⟩
    simp
end Go.Proofs.YtgapnfaakdjpaaaGreatDoor
