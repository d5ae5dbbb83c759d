/- Walks: TopMapped. -/
import Derived.Test.YtbfgldlfciimiaaGreatDoorTm4
import Derived.Test.YtbfgldlfciimiaaGreatDoorNw4
import Derived.Test.YtbfgldlfciimiaaGreatDoorLs6
import Derived.Test.YtbfgldlfciimiaaGreatDoorIx7
import Derived.Test.YtbfgldlfciimiaaGreatDoorCd1
import Derived.Test.YtbfgldlfciimiaaGreatDoorIj1
import Derived.Test.YtbfgldlfciimiaaGreatDoorSxP
set_option maxHeartbeats 1000000
namespace Go.Sx
open Go
theorem Ydd {D:List Int} {n:Nat} {x y z:Int} (h0:D[n]?=some x) (h1:D[n+1]?=some y) (h2:D[n+2]?=some z):(D.drop n).take 3=[x,y,z]∧n+3≤D.length:=by
 have hl:n+3≤D.length:=by have:=(List.getElem?_eq_some_iff.1 h2).1;omega
 refine ⟨?_,hl⟩
 rw [List.drop_eq_getElem?_toList_append,List.drop_eq_getElem?_toList_append (l:=D) (i:=n+1),List.drop_eq_getElem?_toList_append (l:=D) (i:=n+1+1),h0,h1,show D[n+1+1]?=some z from h2]
 rfl
theorem Zs5 {P F:List V3} {p:V3} {k m:Int} (hg:Good P F) (hp:isFar p=false) (hs:(sideW P F p).1≠0) (hk:0≤k∧k < 1000) (hm:1000 < m∧m≤10000) :
  (anchorW P F p=(V3.zero,4)∧clipW P F p=.inl 4∧compressW P F p k m=.inl 4) ∨
  ∃ (c:V3) (y0 y1 y2:Rat),anchorW P F p=(c,0)∧isFar c=false∧clipW P F p=.inr (exactQ p)∧compressW P F p k m=.inr [y0,y1,y2]∧(betw c.x p.x y0∧betw c.y p.y y1∧betw c.z p.z y2)∧Fit 600 y0∧Fit 600 y1∧Fit 600 y2:=by
 have ha:=Z0j hg hp
 cases h:anchorO P F p with
 | none=>rw [h] at ha;exact .inl ⟨ha,Z4i hg hp h,Zrd hg hp hk.1 hk.2 hm.1 hm.2 h⟩
 | some c =>
  rw [h] at ha
  obtain ⟨y0,y1,y2,h1,h2,h3⟩:=Zk5 hg hp hk hm h
  exact .inr ⟨c,y0,y1,y2,ha,(Zpj hg h).1,Ybt hg hp h hs,h1,h2,h3⟩
theorem Yg8 (m n:Int):(if n < m then n else m)=min m n:=by rw [Int.min_def];split<;>split<;>omega
theorem Yg9 (m n:Int):(if m < n then n else m)=max m n:=by rw [Int.max_def];split<;>split<;>omega
theorem Zik {b:Prop} [Decidable b] {m n:Int} (hm:-200000≤m∧m≤200000) (hn:-200000≤n∧n≤200000):-200000≤(if b then n else m)∧(if b then n else m)≤200000:=by split<;>assumption
end Go.Sx
namespace Go.Proofs.YtbfgldlfciimiaaGreatDoor
open Go Go.Sx
variable {w0:World} {As:List Ent}
instance:Six Tryz.prog 55:=⟨⟨47,_,_,_,_,(inferInstance:UL Tryz.prog 55 _).h,(inferInstance:UL Tryz.prog 47 _).h,inferInstance,(inferInstance:TI Tryz.prog 47 _ 2 _).h⟩,by kernel_rfl⟩
theorem Zlh {n:Int} (hn:-9223372036854775807≤n∧n≤9223372036854775807) :
  CQ Tryz.prog w0 10 [.int .i64 n,.int .i64 1] As (.agg #[.string ⟨(tN (n:Rat)).toArray⟩,.string ⟨(tD (n:Rat)).toArray⟩]):=by
 have hr:=fun Bs:List Ent=>Z6y (w0:=w0) (As:=Bs) (n:=n) (d:=1) hn (by decide) (by decide)
 rw [Z85] at hr
 refine Zab Tryz.func10 rfl Tryz.ntmps10 rfl ?_
 repeat' first|refine Kz ?_|intro _
 refine Ks rfl (hr _) ?_
 repeat' first|refine Kz ?_|intro _
 exact Kv
theorem Zmi {b:Prop} [Decidable b] {m n:Int} (hm:-200000≤m∧m≤200000) (hn:-200000≤n∧n≤200000) :
  CQ Tryz.prog w0 10 [.int .i64 (if b then n else m),.int .i64 1] As (.agg #[.string ⟨(tN ((if b then n else m:Int):Rat)).toArray⟩,.string ⟨(tD ((if b then n else m:Int):Rat)).toArray⟩]):=by
 have h:=Zik (b:=b) hm hn
 exact Zlh (by omega)
theorem Zhm {r s:Rat} (hr:Fit 600 r) (hs:Fit 600 s) (h:s≤r):CQ Tryz.prog w0 15 [.agg #[.string ⟨(tN r).toArray⟩,.string ⟨(tD r).toArray⟩],.agg #[.string ⟨(tN s).toArray⟩,.string ⟨(tD s).toArray⟩]] As (.bool false):=by
 have ho:¬ ordQ r s < 0:=fun k=>Rat.not_lt.2 h (Zvd.1 k)
 refine Zab Tryz.func15 rfl Tryz.ntmps15 rfl ?_
 repeat' first|refine Kz ?_|intro _
 refine Ks rfl (Z8d hr hs) ?_
 generalize ordQ r s=x at ho ⊢
 repeat' first|refine Kz ?_|intro _
 (refine Zac ?_)
 exact ⟨_,⟨by simp [ho],rfl⟩,Zaa⟩
set_option maxRecDepth 100000 in
set_option maxHeartbeats 8000000 in
theorem Zr5 (ht:Tab w0) (he:ErrR w0) (d:D37A) (hd:d.ok) {m:Nat} (hm:m < 256) {e0 e1:Int} (he0:0≤e0∧e0≤65535) (he1:0≤e1∧e1≤65535):CallsS Tryz.prog w0 4 [.agg d.cells.toArray,.int .u8 (m:Int),.agg #[.int .u16 e0,.int .u16 e1]] As fun u _=>u=.bool true:=by
 have hq:=d.dok hd
 have hz:=d.szOk
 have hgr:=fun As:List Ent=>Z3r (w0:=w0) (As:=As) d hd
 have hcells:d.cells=[.int .u8 (d.sz:Int),.int .u8 (d.tu:Int),.int .u16 (d.u0:Int),.int .u16 (d.u1:Int),.int .u16 (d.u2:Int),.int .u8 (d.v0:Int),.int .u8 (d.v1:Int),.int .u8 (d.v2:Int)]:=rfl
 rw [hcells] at hgr ⊢
 generalize d.d=q at hq hgr
 generalize d.a=a at hz hgr
 generalize d.b=b at hz hgr
 generalize d.c=c at hz hgr
 obtain ⟨F,hsh,hg,hF⟩:=Zvx hq hz
 have hside:∀ i j k:Nat,i < a→j < b→k < c→sideW ((nodesF a b c).map (phi q)) F (phi q ⟨i,j,k⟩)=(if onI a b c i j k=true then (1,0) else (2,0)):=fun i j k hi hj hk=>Z22 hq hz hi hj hk hF
 have hPl:((nodesF a b c).map (phi q)).length=(nodesF a b c).length:=List.length_map ..
 obtain ⟨l1,l2,l3⟩:=hz.len
 have hDl:(gridD q a b c).length=3 * (a * b * c):=Zjj
 have hsm:a * b * c≤80:=Nat.mul_le_mul (Nat.mul_le_mul hz.a5 hz.b4) hz.c4
 generalize (nodesF a b c).map (phi q)=P at hsh hg hside hPl
 refine Zab Tryz.func4 rfl Tryz.ntmps4 rfl ?_
 repeat' first|refine Kz ?_|intro _
 refine TL.callv rfl rfl rfl rfl (hgr _) ?_
 rintro _ _ ⟨sv,dv,rfl,rfl⟩
 refine Zrr (c:=cI .i64) (xs:=gridD q a b c) dv ?_
 rintro dp dc rfl
 refine Zrr (c:=cI .i64) (xs:=[(a:Int),(b:Int),(c:Int)]) sv ?_
 rintro sp sc rfl
 rw [show ([(a:Int),(b:Int),(c:Int)]:List Int).length=3 from rfl]
 refine TL.ents Ents.freeze ?_
 repeat' first|refine Kz ?_|intro _
 rename_i b3 b5 b7
 refine TL.call rfl rfl rfl (Z6f ht (S:=[(a:Int),(b:Int),(c:Int)]) (D:=gridD q a b c) (by simp) (by omega)) ?_
 intro _ _ h
 obtain ⟨pv,fv,rfl,o1,o2,rfl⟩:=Zxo hsh h
 refine TL.ents frzF ?_
 refine Zrr (c:=cV3) (xs:=P) pv ?_
 rintro pp ppc rfl
 refine Zrr (c:=cV3) (xs:=F) fv ?_
 rintro fp fc rfl
 repeat' first|refine Kz ?_|intro _
 rename_i b8
 have hz0:=hz
 obtain ⟨a2,a5,bb2,bb4,c2,c4⟩:=hz
 have g0:([(a:Int),(b:Int),(c:Int)]:List Int)[0]?=some (a:Int):=rfl
 have g1:([(a:Int),(b:Int),(c:Int)]:List Int)[1]?=some (b:Int):=rfl
 have g2:([(a:Int),(b:Int),(c:Int)]:List Int)[2]?=some (c:Int):=rfl
 have gl:([(a:Int),(b:Int),(c:Int)]:List Int).length=3:=rfl
 generalize hS:[(a:Int),(b:Int),(c:Int)]=S at g0 g1 g2 gl hsh ⊢
 have mab:(a:Int) * (b:Int)=((a * b:Nat):Int):=by push_cast;rfl
 have mabc:((a * b:Nat):Int) * (c:Int)=((a * b * c:Nat):Int):=by push_cast;rfl
 have mbc:(b:Int) * (c:Int)=((b * c:Nat):Int):=by push_cast;rfl
 have nab:a * b≤20:=Nat.mul_le_mul a5 bb4
 have nbc:b * c≤16:=Nat.mul_le_mul bb4 c4
 have nbc0:4≤b * c:=Nat.mul_le_mul bb2 c2
 have npos:0 < a * b * c:=Nat.mul_pos (Nat.mul_pos (by omega) (by omega)) (by omega)
 refine Zam (.take 0 (.take 1 (.take 2 (.take 3 (.take 4 (.take 5 (.take 6 (.take 7 (.take 8 (.take 9 (.take 10 (.take 11 (.take 12 (.take 13 (.take 14 (.take 15 (.take 16 (.take 17 (.done))))))))))))))))))) ?_
 repeat' first|refine Kf ?_|intro _|constructor
 rw [mab,mabc,Zbr (show IR .i64 ((a * b * c:Nat):Int) from ⟨by omega,by omega⟩)]
 have hcin:=fun n=>Z4l (a:=a) (b:=b) (c:=c) (p:=n)
 have htk:=fun i j k hi hj hk=>Ydd (Zqx (q:=q) (a:=a) (b:=b) (c:=c) (i:=i) (j:=j) (k:=k) hi hj hk).1 (Zqx hi hj hk).2.1 (Zqx hi hj hk).2.2
 generalize a * b * c=T at *
 repeat' first|refine Kf ?_|intro _|constructor
 obtain ⟨n,hn,hn1⟩:∃ n:Nat,(m:Int) % (T:Int)=(n:Int)∧n < T:=⟨m % T,by push_cast;rfl,Nat.mod_lt _ npos⟩
 obtain ⟨i,j,k,hcell,hi,hj,hk,hp⟩:=hcin n hn1
 have e2:(n:Int) % (c:Int)=(k:Int):=by rw [hp];have:=(Ztt (i:=i) hj hk).2.2;omega
 have e1:(n:Int) / (c:Int) % (b:Int)=(j:Int):=by have:=(Ztt (i:=i) hj hk).2.1;rw [← hp] at this;rw [← this];push_cast;rfl
 rw [← Int.tmod_eq_emod_of_nonneg (Int.ediv_nonneg (by omega) (by omega))] at e1
 have e0:(n:Int) / ((b:Int) * (c:Int))=(i:Int):=by
  have:=(Ztt (i:=i) hj hk).1
  rw [← hp,Nat.div_div_eq_div_mul,Nat.mul_comm c b] at this
  rw [← this];push_cast;rfl
 rw [hn]
 obtain ⟨htk1,htk2⟩:=htk i j k hi hj hk
 rw [← hp] at htk1 htk2
 clear hcin htk
 have hxin:=Zh8 hq (i:=i) (j:=j) (k:=k) (by omega) (by omega) (by omega)
 have hcol:=Yhl hxin
 have hcf:=Zgc hxin
 have hsd:=hside i j k hi hj hk
 obtain ⟨w,hw⟩:∃ w:Int,w=if (i=0∨i+1=a)∨(j=0∨j+1=b)∨(k=0∨k+1=c) then 1 else 2:=⟨_,rfl⟩
 rw [show (if onI a b c i j k=true then ((1:Int),(0:Int)) else (2,0))=(w,0) by
  rw [hw]
  by_cases h:onI a b c i j k=true
  ·rw [if_pos h,if_pos (Z2x.1 h)]
  ·rw [if_neg h,if_neg fun k=>h (Z2x.2 k)]] at hsd
 rw [show phi q ⟨i,j,k⟩=colV (q.out ⟨i,j,k⟩) from rfl] at hsd
 have hsubv:∀ As':List Ent,[RdIn As' (.slice dp (gridD q a b c).length dc) Int (cI .i64) (gridD q a b c)]→RdIn As' (subV 1 (.slice dp (gridD q a b c).length dc) (3 * n) (3 * n+3)) Int (cI .i64) [(q.out ⟨i,j,k⟩).x,(q.out ⟨i,j,k⟩).y,(q.out ⟨i,j,k⟩).z]:=fun As' _=>by
  have h:=RdIn.sub (As:=As') (v:=.slice dp (gridD q a b c).length dc) (c:=cI .i64) (xs:=gridD q a b c) (lo:=3 * n) (hi:=3 * n+3) (Nat.le_add_right _ _) htk2
  rwa [Nat.add_sub_cancel_left,htk1] at h
 rw [Zbr (show IR .i64 (3 * (n:Int)) from ⟨by omega,by omega⟩),Zbr (show IR .i64 (3 * (n:Int)+3) from ⟨by omega,by omega⟩)]
 refine TL.f rfl rfl (Zds (c:=cI .i64) (xs:=gridD q a b c) (lo:=3 * n) (hi:=3 * n+3) rfl (Zev rfl) (Zfh rfl) (by omega) (by omega)) ?_
 generalize subV 1 (.slice dp (gridD q a b c).length dc) (3 * n) (3 * n+3)=tv at hsubv ⊢
 repeat' first|refine Kz ?_|intro _
 generalize hyy:q.out ⟨i,j,k⟩=y at hcol hcf hsd hsubv
 refine TL.callv rfl rfl rfl rfl (Zyn (xs:=[y.x,y.y,y.z]) (by simp)) ?_
 rw [hcol]
 rintro _ _ ⟨rfl,rfl⟩
 generalize colV y=p at hcf hsd ⊢
 show TL _ _ _ _ _ ((_,.tuple #[.agg #[.int .i64 p.x,.int .i64 p.y,.int .i64 p.z],.int .i64 0])::_) _ _
 repeat' first|refine Kz ?_|intro _
 rename_i b11
 refine Zam (.take 0 (.take 1 (.take 2 (.take 3 (.take 4 (.take 5 (.take 6 (.take 7 (.take 8 (.take 9 (.take 10 (.take 11 (.take 12 (.take 13 (.take 14 (.take 15 (.take 16 (.take 17 (.take 18 (.take 19 (.take 20 (.take 21 (.take 22 (.take 23 (.take 24 (.take 25 (.take 26 (.take 27 (.take 28 (.all [(29,.all [(30,.done)])])))))))))))))))))))))))))))))) ?_
 repeat' first|refine Kf ?_|intro _|constructor
 rename_i b13
 rw [e0,e1,e2]
 clear hside e0 e1 e2 hn hn1 hp hcell htk1 htk2 hsubv hcol hxin
 repeat' first|refine Kf ?_|intro _|constructor
 obtain ⟨W,hW⟩:∃ W:Nat→Int,W=fun t=>if (1≤t∧(i=0∨i+1=a))∨(2≤t∧(j=0∨j+1=b))∨(3≤t∧(k=0∨k+1=c)) then 1 else 2:=⟨_,rfl⟩
 have W0:W 0=2:=by rw [hW];exact if_neg (by omega)
 have W1:(¬ (i=0∨i+1=a)→W 1=W 0)∧((i=0∨i+1=a)→W 1=1):=by
  rw [hW];exact ⟨fun h=>by simp only;rw [if_neg (by omega),if_neg (by omega)],fun h=>if_pos (by omega)⟩
 have W2:(¬ (j=0∨j+1=b)→W 2=W 1)∧((j=0∨j+1=b)→W 2=1):=by
  rw [hW];exact ⟨fun h=>by simp only;congr 1;rw [eq_iff_iff];omega,fun h=>if_pos (by omega)⟩
 have W3:(¬ (k=0∨k+1=c)→W 3=W 2)∧((k=0∨k+1=c)→W 3=1):=by
  rw [hW];exact ⟨fun h=>by simp only;congr 1;rw [eq_iff_iff];omega,fun h=>if_pos (by omega)⟩
 have Ww:W 3=w:=by rw [hW,hw];simp only;congr 1;rw [eq_iff_iff];omega
 have hw0:w≠0:=by rw [hw];split<;>decide
 clear hW hw
 refine Tri.loop (ι:=Nat) (fun t=>t=0∨t=1∨t=2∨t=3) (fun t=>3 - t)
  (fun t=>[(5,.pointer (some ⟨b5,0,none⟩)),(7,.pointer (some ⟨b7,0,none⟩)),(8,.pointer (some ⟨b8,0,none⟩)),(11,.pointer (some ⟨b11,0,none⟩)),(13,.pointer (some ⟨b13,0,none⟩)),(14,.int .i64 (W t)),(98,.int .i64 (t:Int))])
  (fun _=>.cl b13 [.int .i64 (i:Int),.int .i64 (j:Int),.int .i64 (k:Int)] 39::.cl b11 [.int .i64 p.x,.int .i64 p.y,.int .i64 p.z] 39::.cl b8 [.slice pp P.length ppc,.slice fp F.length fc] 33::.ft (rd cV3 (.slice pp P.length ppc) P)::.ft (rd cV3 (.slice fp F.length fc) F)::.cl b7 [.slice sp 3 sc,.int .i64 3,.slice dp (gridD q a b c).length dc] 29::.ow (cI .i64) 3 (.slice sp 3 sc) S::.cl b5 [.int .u16 e0,.int .u16 e1] 52::As) 0 (by omega) (by rw [W0];(exact Zad)) Zaa ?_
 clear hDl hsm mab mabc mbc nab nbc nbc0 npos hPl
 intro t hT
 rcases hT with rfl|rfl|rfl|rfl
 ·show Tri _ _ _ _ [(5,_),(7,_),(8,_),(11,_),(13,_),(14,.int .i64 (W 0)),(98,.int .i64 0)] _ _
  obtain ⟨Wn,Wy⟩:=W1
  generalize W 0=v at *
  by_cases h0:i=0
  ·have Wk:=Wy (.inl h0)
   subst h0
   repeat' first|refine Kz ?_|intro _
   refine Zam (.take 0 (.take 1 (.take 2 (.take 3 (.take 4 (.take 5 (.take 6 (.take 7 (.take 8 (.take 9 (.take 10 (.take 11 (.take 12 (.take 13 (.take 14 (.take 15 (.done))))))))))))))))) ?_
   repeat' first|refine Kf ?_|intro _|constructor
   exact Post.round 1 (by omega) (by omega) (by rw [Wk];(exact Zad)) Zaa
  ·by_cases h1:i+1=a
   ·have Wk:=Wy (.inr h1)
    repeat' first|refine Kz ?_|intro _
    refine Zam (.take 0 (.take 1 (.take 2 (.take 3 (.take 4 (.take 5 (.take 6 (.take 7 (.take 8 (.take 9 (.take 10 (.take 11 (.take 12 (.take 13 (.take 14 (.take 15 (.done))))))))))))))))) ?_
    repeat' first|refine Kf ?_|intro _|constructor
    exact Post.round 1 (by omega) (by omega) (by rw [Wk];(exact Zad)) Zaa
   ·have Wk:=Wn (by omega)
    repeat' first|refine Kz ?_|intro _
    refine Zam (.take 0 (.take 1 (.take 2 (.take 3 (.take 4 (.take 5 (.take 6 (.take 7 (.take 8 (.take 9 (.take 10 (.take 11 (.take 12 (.take 13 (.take 14 (.take 15 (.done))))))))))))))))) ?_
    repeat' first|refine Kf ?_|intro _|constructor
    exact Post.round 1 (by omega) (by omega) (by rw [Wk];(exact Zad)) Zaa
 ·show Tri _ _ _ _ [(5,_),(7,_),(8,_),(11,_),(13,_),(14,.int .i64 (W 1)),(98,.int .i64 1)] _ _
  obtain ⟨Wn,Wy⟩:=W2
  generalize W 1=v at *
  by_cases h0:j=0
  ·have Wk:=Wy (.inl h0)
   subst h0
   repeat' first|refine Kz ?_|intro _
   refine Zam (.take 0 (.take 1 (.take 2 (.take 3 (.take 4 (.take 5 (.take 6 (.take 7 (.take 8 (.take 9 (.take 10 (.take 11 (.take 12 (.take 13 (.take 14 (.take 15 (.done))))))))))))))))) ?_
   repeat' first|refine Kf ?_|intro _|constructor
   exact Post.round 2 (by omega) (by omega) (by rw [Wk];(exact Zad)) Zaa
  ·by_cases h1:j+1=b
   ·have Wk:=Wy (.inr h1)
    repeat' first|refine Kz ?_|intro _
    refine Zam (.take 0 (.take 1 (.take 2 (.take 3 (.take 4 (.take 5 (.take 6 (.take 7 (.take 8 (.take 9 (.take 10 (.take 11 (.take 12 (.take 13 (.take 14 (.take 15 (.done))))))))))))))))) ?_
    repeat' first|refine Kf ?_|intro _|constructor
    exact Post.round 2 (by omega) (by omega) (by rw [Wk];(exact Zad)) Zaa
   ·have Wk:=Wn (by omega)
    repeat' first|refine Kz ?_|intro _
    refine Zam (.take 0 (.take 1 (.take 2 (.take 3 (.take 4 (.take 5 (.take 6 (.take 7 (.take 8 (.take 9 (.take 10 (.take 11 (.take 12 (.take 13 (.take 14 (.take 15 (.done))))))))))))))))) ?_
    repeat' first|refine Kf ?_|intro _|constructor
    exact Post.round 2 (by omega) (by omega) (by rw [Wk];(exact Zad)) Zaa
 ·show Tri _ _ _ _ [(5,_),(7,_),(8,_),(11,_),(13,_),(14,.int .i64 (W 2)),(98,.int .i64 2)] _ _
  obtain ⟨Wn,Wy⟩:=W3
  generalize W 2=v at *
  by_cases h0:k=0
  ·have Wk:=Wy (.inl h0)
   subst h0
   repeat' first|refine Kz ?_|intro _
   refine Zam (.take 0 (.take 1 (.take 2 (.take 3 (.take 4 (.take 5 (.take 6 (.take 7 (.take 8 (.take 9 (.take 10 (.take 11 (.take 12 (.take 13 (.take 14 (.take 15 (.done))))))))))))))))) ?_
   repeat' first|refine Kf ?_|intro _|constructor
   exact Post.round 3 (by omega) (by omega) (by rw [Wk];(exact Zad)) Zaa
  ·by_cases h1:k+1=c
   ·have Wk:=Wy (.inr h1)
    repeat' first|refine Kz ?_|intro _
    refine Zam (.take 0 (.take 1 (.take 2 (.take 3 (.take 4 (.take 5 (.take 6 (.take 7 (.take 8 (.take 9 (.take 10 (.take 11 (.take 12 (.take 13 (.take 14 (.take 15 (.done))))))))))))))))) ?_
    repeat' first|refine Kf ?_|intro _|constructor
    exact Post.round 3 (by omega) (by omega) (by rw [Wk];(exact Zad)) Zaa
   ·have Wk:=Wn (by omega)
    repeat' first|refine Kz ?_|intro _
    refine Zam (.take 0 (.take 1 (.take 2 (.take 3 (.take 4 (.take 5 (.take 6 (.take 7 (.take 8 (.take 9 (.take 10 (.take 11 (.take 12 (.take 13 (.take 14 (.take 15 (.done))))))))))))))))) ?_
    repeat' first|refine Kf ?_|intro _|constructor
    exact Post.round 3 (by omega) (by omega) (by rw [Wk];(exact Zad)) Zaa
 ·show Tri _ _ _ _ [(5,_),(7,_),(8,_),(11,_),(13,_),(14,.int .i64 (W 3)),(98,.int .i64 3)] _ _
  rw [Ww]
  clear W0 W1 W2 W3 Ww
  repeat' first|refine Kz ?_|intro _
  refine TL.callv rfl rfl rfl rfl (Z1u ht (pv:=.slice pp P.length ppc) (fv:=.slice fp F.length fc) (pts:=P) (fcs:=F) (p:=p)) ?_
  rw [hsd]
  rintro _ _ ⟨rfl,rfl⟩
  show TL _ _ _ _ _ ((_,.tuple #[.int .i64 w,.int .i64 0])::_) _ _
  repeat' first|refine Kz ?_|intro _
  rw [show (!decide (w=w))=false by simp]
  repeat' first|refine Kz ?_|intro _
  have hs0:(sideW P F p).1≠0:=by rw [hsd];exact hw0
  have k0:0≤e0 % 1000∧e0 % 1000 < 1000:=by omega
  have k1:1000 < 1001+e1 % 9000∧1001+e1 % 9000≤10000:=by omega
  obtain ⟨z1,z2,z3,z4,z5,z6⟩:=Zcv hcf
  rcases Zs5 hg hcf hs0 k0 k1 with ⟨f1,f2,f3⟩|⟨x,y0,y1,y2,f1,hxf,f2,f3,⟨hb0,hb1,hb2⟩,g0',g1',g2'⟩
  ·refine TL.callv rfl rfl rfl rfl (Zne ht he (pv:=.slice pp P.length ppc) (fv:=.slice fp F.length fc) (pts:=P) (fcs:=F) (p:=p)) ?_
   rw [f1]
   rintro _ _ ⟨rfl,rfl⟩
   show TL _ _ _ _ _ ((_,.tuple #[.agg #[.int .i64 0,.int .i64 0,.int .i64 0],.int .i64 4])::_) _ _
   repeat' first|refine Kz ?_|intro _
   refine TL.callv rfl rfl rfl rfl (Z4h ht he (pv:=.slice pp P.length ppc) (fv:=.slice fp F.length fc) (pts:=P) (fcs:=F) (p:=p)) ?_
   rw [f2]
   rintro _ _ ⟨rfl,rfl⟩
   show TL _ _ _ _ _ ((_,.tuple #[.agg #[.string ⟨#[]⟩,.string ⟨#[]⟩,.string ⟨#[]⟩,.string ⟨#[]⟩,.string ⟨#[]⟩,.string ⟨#[]⟩],.int .i64 4])::_) _ _
   repeat' first|refine Kz ?_|intro _
   refine TL.callv rfl rfl rfl rfl (Zm8 ht he (pv:=.slice pp P.length ppc) (fv:=.slice fp F.length fc) (pts:=P) (fcs:=F) (p:=p) (k:=e0 % 1000) (m:=1001+e1 % 9000)) ?_
   rw [f3]
   rintro _ _ ⟨rfl,rfl⟩
   show TL _ _ _ _ _ ((_,.tuple #[.agg #[.string ⟨#[]⟩,.string ⟨#[]⟩,.string ⟨#[]⟩,.string ⟨#[]⟩,.string ⟨#[]⟩,.string ⟨#[]⟩],.int .i64 4])::_) _ _
   repeat' first|refine Kz ?_|intro _
   (refine Zac ?_)
   exact ⟨_,rfl,Ents.refl _⟩
  ·obtain ⟨x1,x2,x3,x4,x5,x6⟩:=Zcv hxf
   unfold betw at hb0 hb1 hb2
   rw [← Yg8,← Yg9] at hb0 hb1 hb2
   refine TL.callv rfl rfl rfl rfl (Zne ht he (pv:=.slice pp P.length ppc) (fv:=.slice fp F.length fc) (pts:=P) (fcs:=F) (p:=p)) ?_
   rw [f1]
   rintro _ _ ⟨rfl,rfl⟩
   show TL _ _ _ _ _ ((_,.tuple #[.agg #[.int .i64 x.x,.int .i64 x.y,.int .i64 x.z],.int .i64 0])::_) _ _
   repeat' first|refine Kz ?_|intro _
   refine TL.callv rfl rfl rfl rfl (Z4h ht he (pv:=.slice pp P.length ppc) (fv:=.slice fp F.length fc) (pts:=P) (fcs:=F) (p:=p)) ?_
   rw [f2]
   rintro _ _ ⟨rfl,rfl⟩
   show TL _ _ _ _ _ ((_,.tuple #[.agg #[.string ⟨(tN (p.x:Rat)).toArray⟩,.string ⟨(tD (p.x:Rat)).toArray⟩,.string ⟨(tN (p.y:Rat)).toArray⟩,.string ⟨(tD (p.y:Rat)).toArray⟩,.string ⟨(tN (p.z:Rat)).toArray⟩,.string ⟨(tD (p.z:Rat)).toArray⟩],.int .i64 0])::_) _ _
   repeat' first|refine Kz ?_|intro _
   refine TL.callv rfl rfl rfl rfl (Zm8 ht he (pv:=.slice pp P.length ppc) (fv:=.slice fp F.length fc) (pts:=P) (fcs:=F) (p:=p) (k:=e0 % 1000) (m:=1001+e1 % 9000)) ?_
   rw [f3]
   rintro _ _ ⟨rfl,rfl⟩
   show TL _ _ _ _ _ ((_,.tuple #[.agg #[.string ⟨(tN y0).toArray⟩,.string ⟨(tD y0).toArray⟩,.string ⟨(tN y1).toArray⟩,.string ⟨(tD y1).toArray⟩,.string ⟨(tN y2).toArray⟩,.string ⟨(tD y2).toArray⟩],.int .i64 0])::_) _ _
   repeat' first|refine Kz ?_|intro _
   clear f1 f2 f3 hsd hsh hg hF
   rename_i b18 b20 b22
   refine Zam (.take 0 (.take 1 (.take 2 (.take 3 (.take 4 (.take 5 (.take 6 (.take 7 (.take 8 (.take 9 (.take 11 (.take 12 (.take 14 (.take 15 (.all [(10,.all [(13,.all [(16,.take 17 (.take 18 (.take 19 (.done))))])])]))))))))))))))) ?_
   repeat' first|refine Kf ?_|intro _|constructor
   refine Ku rfl (Zlh (n:=p.x) (by omega)) ?_
   repeat' first|refine Kf ?_|intro _|constructor
   refine Ku rfl (Zlh (n:=p.y) (by omega)) ?_
   repeat' first|refine Kf ?_|intro _|constructor
   refine Ku rfl (Zlh (n:=p.z) (by omega)) ?_
   repeat' first|refine Kf ?_|intro _|constructor
   refine TT.take rfl rfl rfl (Z0t rfl rfl) ?_
   rw [show ∀ a b c d f g:List UInt8,(!decide ((a=a∧b=b)∧(c=c∧d=d)∧(f=f∧g=g)))=false by simp]
   repeat' first|refine Kf ?_|intro _|constructor
   refine Zao 4 ?_
   repeat' first|refine Kz ?_|intro _
   have hpx:-200000≤p.x∧p.x≤200000:=by omega
   have hpy:-200000≤p.y∧p.y≤200000:=by omega
   have hpz:-200000≤p.z∧p.z≤200000:=by omega
   have hxx:-200000≤x.x∧x.x≤200000:=by omega
   have hxy:-200000≤x.y∧x.y≤200000:=by omega
   have hxz:-200000≤x.z∧x.z≤200000:=by omega
   clear z1 z2 z3 z4 z5 z6 x1 x2 x3 x4 x5 x6 hcf hxf k0 k1 hs0 hw0 g0 g1 g2 gl hS hz0 a2 a5 bb2 bb4 c2 c4 l1 l2 l3 hi hj hk hyy
   refine Tri.mid (fun e' As'=>∃ b25 b26,e'=[(11,.pointer (some ⟨b11,0,none⟩)),(18,.pointer (some ⟨b18,0,none⟩)),(22,.pointer (some ⟨b22,0,none⟩)),(24,.int .i64 0),(25,.pointer (some ⟨b25,0,none⟩)),(26,.pointer (some ⟨b26,0,none⟩)),(192,.int .i64 0)] ∧
    As'=.cl b25 [.string ⟨(tN ((if x.x < p.x then x.x else p.x:Int):Rat)).toArray⟩,.string ⟨(tD ((if x.x < p.x then x.x else p.x:Int):Rat)).toArray⟩] 47::.cl b26 [.string ⟨(tN ((if p.x < x.x then x.x else p.x:Int):Rat)).toArray⟩,.string ⟨(tD ((if p.x < x.x then x.x else p.x:Int):Rat)).toArray⟩] 47::.cl b22 [.string ⟨(tN y0).toArray⟩,.string ⟨(tD y0).toArray⟩,.string ⟨(tN y1).toArray⟩,.string ⟨(tD y1).toArray⟩,.string ⟨(tN y2).toArray⟩,.string ⟨(tD y2).toArray⟩] 55::.cl b18 [.int .i64 x.x,.int .i64 x.y,.int .i64 x.z] 39::.cl b11 [.int .i64 p.x,.int .i64 p.y,.int .i64 p.z] 39::As) ?_ ?_
   ·refine Zrn (e':=[(11,.pointer (some ⟨b11,0,none⟩)),(18,.pointer (some ⟨b18,0,none⟩)),(22,.pointer (some ⟨b22,0,none⟩)),(24,.int .i64 0),(192,.int .i64 0)]) (Bs:=.cl b22 [.string ⟨(tN y0).toArray⟩,.string ⟨(tD y0).toArray⟩,.string ⟨(tN y1).toArray⟩,.string ⟨(tD y1).toArray⟩,.string ⟨(tN y2).toArray⟩,.string ⟨(tD y2).toArray⟩] 55::.cl b18 [.int .i64 x.x,.int .i64 x.y,.int .i64 x.z] 39::.cl b11 [.int .i64 p.x,.int .i64 p.y,.int .i64 p.z] 39::As) Zad ?_
    refine Zag [.cl b11 [.int .i64 p.x,.int .i64 p.y,.int .i64 p.z] 39,.cl b18 [.int .i64 x.x,.int .i64 x.y,.int .i64 x.z] 39] [] (.take 0 (.take 1 (.take 2 (.take 3 (.take 4 (.take 5 (.take 6 (.take 8 (.take 9 (.take 10 (.take 11 (.take 12 (.take 13 (.take 14 (.all [(7,.all [(15,.all [(16,.all [(17,.all [(18,.all [(19,.done)])])]),(17,.all [(16,.all [(18,.all [(19,.done)])])])]),(16,.all [(15,.all [(17,.all [(18,.all [(19,.done)])])]),(17,.all [(15,.all [(18,.all [(19,.done)])])])]),(17,.all [(15,.all [(16,.all [(18,.all [(19,.done)])])]),(16,.all [(15,.all [(18,.all [(19,.done)])])])])]),(16,.all [(7,.all [(15,.all [(17,.all [(18,.all [(19,.done)])])]),(17,.all [(15,.all [(18,.all [(19,.done)])])])]),(17,.all [(7,.all [(15,.all [(18,.all [(19,.done)])])])])]),(17,.all [(7,.all [(15,.all [(16,.all [(18,.all [(19,.done)])])]),(16,.all [(15,.all [(18,.all [(19,.done)])])])]),(16,.all [(7,.all [(15,.all [(18,.all [(19,.done)])])])])])]))))))))))))))) ?_
    repeat' (first|(refine T1.callv rfl rfl rfl rfl rfl (Zmi hpx hxx) ?_;rintro _ _ ⟨rfl,rfl⟩)|((show TL _ _ _ _ (_::_) _ _ _;first|refine Ze1 ?_|refine Zey ?_|(refine Zcn ?_;intro _)|(refine Zdd ?_;first|rintro _ _ ⟨rfl,rfl⟩|rintro _ _ rfl)|refine Zbp ?_|refine Zbb ?_|refine Ze0 ?_|fail))|(refine Stp.h ?_)|(first|(show TT _ _ _ _ _ _ _ _ _;first|refine Zgh ?_|refine Zex ?_|refine Zc3 ?_|refine Zwc ?_|fail)|exact TTs.nil|refine TTs.cons ?_ ?_|(show T1 _ _ _ _ _ _ _ _ _ _;first|refine Zwd ?_|(refine Znj ?_;intro _)|(refine Zni ?_;first|rintro _ _ ⟨rfl,rfl⟩|rintro _ _ rfl)|refine Zwe ?_|refine Ziq ?_|refine Zgi ?_|fail)|(show TC _ _ _ _ _ _ _ _ _ _;first|refine Znh ?_|refine Zip ?_|fail))|((show Tri _ _ _ (.cond _ _ _) _ _ _;first|refine Zbn ?_|refine Zbo ?_|refine Zat ?_|refine Zau ?_|refine Zap ?_|refine Zaq ?_|fail)))
    all_goals
     rename_i u v
     first|exact Post.cut _ _ ⟨u,v,rfl,rfl⟩ Zad Zaa|exact Post.cut _ _ ⟨v,u,rfl,rfl⟩ Zad Zaa
   rintro _ _ ⟨b25,b26,rfl,rfl⟩
   repeat' first|refine Kz ?_|intro _
   refine Zam (.take 0 (.take 1 (.take 2 (.take 3 (.all [(4,.take 5 (.take 6 (.take 7 (.take 8 (.take 9 (.all [(10,.take 11 (.done))]))))))]))))) ?_
   repeat' first|refine Kf ?_|intro _|constructor
   refine Ku rfl (Zhm g0' ((Zbx (by have:=Zik (b:=x.x < p.x) hpx hxx;omega)).mono (by decide)) hb0.1) ?_
   repeat' first|refine Kf ?_|intro _|constructor
   refine Ku rfl (Zhm ((Zbx (by have:=Zik (b:=p.x < x.x) hpx hxx;omega)).mono (by decide)) g0' hb0.2) ?_
   repeat' first|refine Kf ?_|intro _|constructor
   refine Tri.mid (fun e' As'=>∃ b25 b26,e'=[(11,.pointer (some ⟨b11,0,none⟩)),(18,.pointer (some ⟨b18,0,none⟩)),(22,.pointer (some ⟨b22,0,none⟩)),(24,.int .i64 1),(25,.pointer (some ⟨b25,0,none⟩)),(26,.pointer (some ⟨b26,0,none⟩)),(192,.int .i64 1)] ∧
    As'=.cl b25 [.string ⟨(tN ((if x.y < p.y then x.y else p.y:Int):Rat)).toArray⟩,.string ⟨(tD ((if x.y < p.y then x.y else p.y:Int):Rat)).toArray⟩] 47::.cl b26 [.string ⟨(tN ((if p.y < x.y then x.y else p.y:Int):Rat)).toArray⟩,.string ⟨(tD ((if p.y < x.y then x.y else p.y:Int):Rat)).toArray⟩] 47::.cl b22 [.string ⟨(tN y0).toArray⟩,.string ⟨(tD y0).toArray⟩,.string ⟨(tN y1).toArray⟩,.string ⟨(tD y1).toArray⟩,.string ⟨(tN y2).toArray⟩,.string ⟨(tD y2).toArray⟩] 55::.cl b18 [.int .i64 x.x,.int .i64 x.y,.int .i64 x.z] 39::.cl b11 [.int .i64 p.x,.int .i64 p.y,.int .i64 p.z] 39::As) ?_ ?_
   ·refine Zrn (e':=[(11,.pointer (some ⟨b11,0,none⟩)),(18,.pointer (some ⟨b18,0,none⟩)),(22,.pointer (some ⟨b22,0,none⟩)),(24,.int .i64 1),(192,.int .i64 1)]) (Bs:=.cl b22 [.string ⟨(tN y0).toArray⟩,.string ⟨(tD y0).toArray⟩,.string ⟨(tN y1).toArray⟩,.string ⟨(tD y1).toArray⟩,.string ⟨(tN y2).toArray⟩,.string ⟨(tD y2).toArray⟩] 55::.cl b18 [.int .i64 x.x,.int .i64 x.y,.int .i64 x.z] 39::.cl b11 [.int .i64 p.x,.int .i64 p.y,.int .i64 p.z] 39::As) Zad ?_
    refine Zag [.cl b11 [.int .i64 p.x,.int .i64 p.y,.int .i64 p.z] 39,.cl b18 [.int .i64 x.x,.int .i64 x.y,.int .i64 x.z] 39] [] (.take 0 (.take 1 (.take 2 (.take 3 (.take 4 (.take 5 (.take 6 (.take 8 (.take 9 (.take 10 (.take 11 (.take 12 (.take 13 (.take 14 (.all [(7,.all [(15,.all [(16,.all [(17,.all [(18,.all [(19,.done)])])]),(17,.all [(16,.all [(18,.all [(19,.done)])])])]),(16,.all [(15,.all [(17,.all [(18,.all [(19,.done)])])]),(17,.all [(15,.all [(18,.all [(19,.done)])])])]),(17,.all [(15,.all [(16,.all [(18,.all [(19,.done)])])]),(16,.all [(15,.all [(18,.all [(19,.done)])])])])]),(16,.all [(7,.all [(15,.all [(17,.all [(18,.all [(19,.done)])])]),(17,.all [(15,.all [(18,.all [(19,.done)])])])]),(17,.all [(7,.all [(15,.all [(18,.all [(19,.done)])])])])]),(17,.all [(7,.all [(15,.all [(16,.all [(18,.all [(19,.done)])])]),(16,.all [(15,.all [(18,.all [(19,.done)])])])]),(16,.all [(7,.all [(15,.all [(18,.all [(19,.done)])])])])])]))))))))))))))) ?_
    repeat' (first|(refine T1.callv rfl rfl rfl rfl rfl (Zmi hpy hxy) ?_;rintro _ _ ⟨rfl,rfl⟩)|((show TL _ _ _ _ (_::_) _ _ _;first|refine Ze1 ?_|refine Zey ?_|(refine Zcn ?_;intro _)|(refine Zdd ?_;first|rintro _ _ ⟨rfl,rfl⟩|rintro _ _ rfl)|refine Zbp ?_|refine Zbb ?_|refine Ze0 ?_|fail))|(refine Stp.h ?_)|(first|(show TT _ _ _ _ _ _ _ _ _;first|refine Zgh ?_|refine Zex ?_|refine Zc3 ?_|refine Zwc ?_|fail)|exact TTs.nil|refine TTs.cons ?_ ?_|(show T1 _ _ _ _ _ _ _ _ _ _;first|refine Zwd ?_|(refine Znj ?_;intro _)|(refine Zni ?_;first|rintro _ _ ⟨rfl,rfl⟩|rintro _ _ rfl)|refine Zwe ?_|refine Ziq ?_|refine Zgi ?_|fail)|(show TC _ _ _ _ _ _ _ _ _ _;first|refine Znh ?_|refine Zip ?_|fail))|((show Tri _ _ _ (.cond _ _ _) _ _ _;first|refine Zbn ?_|refine Zbo ?_|refine Zat ?_|refine Zau ?_|refine Zap ?_|refine Zaq ?_|fail)))
    all_goals
     rename_i u v
     first|exact Post.cut _ _ ⟨u,v,rfl,rfl⟩ Zad Zaa|exact Post.cut _ _ ⟨v,u,rfl,rfl⟩ Zad Zaa
   rintro _ _ ⟨b25,b26,rfl,rfl⟩
   repeat' first|refine Kz ?_|intro _
   refine Zam (.take 0 (.take 1 (.take 2 (.take 3 (.all [(4,.take 5 (.take 6 (.take 7 (.take 8 (.take 9 (.all [(10,.take 11 (.done))]))))))]))))) ?_
   repeat' first|refine Kf ?_|intro _|constructor
   refine Ku rfl (Zhm g1' ((Zbx (by have:=Zik (b:=x.y < p.y) hpy hxy;omega)).mono (by decide)) hb1.1) ?_
   repeat' first|refine Kf ?_|intro _|constructor
   refine Ku rfl (Zhm ((Zbx (by have:=Zik (b:=p.y < x.y) hpy hxy;omega)).mono (by decide)) g1' hb1.2) ?_
   repeat' first|refine Kf ?_|intro _|constructor
   refine Tri.mid (fun e' As'=>∃ b25 b26,e'=[(11,.pointer (some ⟨b11,0,none⟩)),(18,.pointer (some ⟨b18,0,none⟩)),(22,.pointer (some ⟨b22,0,none⟩)),(24,.int .i64 2),(25,.pointer (some ⟨b25,0,none⟩)),(26,.pointer (some ⟨b26,0,none⟩)),(192,.int .i64 2)] ∧
    As'=.cl b25 [.string ⟨(tN ((if x.z < p.z then x.z else p.z:Int):Rat)).toArray⟩,.string ⟨(tD ((if x.z < p.z then x.z else p.z:Int):Rat)).toArray⟩] 47::.cl b26 [.string ⟨(tN ((if p.z < x.z then x.z else p.z:Int):Rat)).toArray⟩,.string ⟨(tD ((if p.z < x.z then x.z else p.z:Int):Rat)).toArray⟩] 47::.cl b22 [.string ⟨(tN y0).toArray⟩,.string ⟨(tD y0).toArray⟩,.string ⟨(tN y1).toArray⟩,.string ⟨(tD y1).toArray⟩,.string ⟨(tN y2).toArray⟩,.string ⟨(tD y2).toArray⟩] 55::.cl b18 [.int .i64 x.x,.int .i64 x.y,.int .i64 x.z] 39::.cl b11 [.int .i64 p.x,.int .i64 p.y,.int .i64 p.z] 39::As) ?_ ?_
   ·refine Zrn (e':=[(11,.pointer (some ⟨b11,0,none⟩)),(18,.pointer (some ⟨b18,0,none⟩)),(22,.pointer (some ⟨b22,0,none⟩)),(24,.int .i64 2),(192,.int .i64 2)]) (Bs:=.cl b22 [.string ⟨(tN y0).toArray⟩,.string ⟨(tD y0).toArray⟩,.string ⟨(tN y1).toArray⟩,.string ⟨(tD y1).toArray⟩,.string ⟨(tN y2).toArray⟩,.string ⟨(tD y2).toArray⟩] 55::.cl b18 [.int .i64 x.x,.int .i64 x.y,.int .i64 x.z] 39::.cl b11 [.int .i64 p.x,.int .i64 p.y,.int .i64 p.z] 39::As) Zad ?_
    refine Zag [.cl b11 [.int .i64 p.x,.int .i64 p.y,.int .i64 p.z] 39,.cl b18 [.int .i64 x.x,.int .i64 x.y,.int .i64 x.z] 39] [] (.take 0 (.take 1 (.take 2 (.take 3 (.take 4 (.take 5 (.take 6 (.take 8 (.take 9 (.take 10 (.take 11 (.take 12 (.take 13 (.take 14 (.all [(7,.all [(15,.all [(16,.all [(17,.all [(18,.all [(19,.done)])])]),(17,.all [(16,.all [(18,.all [(19,.done)])])])]),(16,.all [(15,.all [(17,.all [(18,.all [(19,.done)])])]),(17,.all [(15,.all [(18,.all [(19,.done)])])])]),(17,.all [(15,.all [(16,.all [(18,.all [(19,.done)])])]),(16,.all [(15,.all [(18,.all [(19,.done)])])])])]),(16,.all [(7,.all [(15,.all [(17,.all [(18,.all [(19,.done)])])]),(17,.all [(15,.all [(18,.all [(19,.done)])])])]),(17,.all [(7,.all [(15,.all [(18,.all [(19,.done)])])])])]),(17,.all [(7,.all [(15,.all [(16,.all [(18,.all [(19,.done)])])]),(16,.all [(15,.all [(18,.all [(19,.done)])])])]),(16,.all [(7,.all [(15,.all [(18,.all [(19,.done)])])])])])]))))))))))))))) ?_
    repeat' (first|(refine T1.callv rfl rfl rfl rfl rfl (Zmi hpz hxz) ?_;rintro _ _ ⟨rfl,rfl⟩)|((show TL _ _ _ _ (_::_) _ _ _;first|refine Ze1 ?_|refine Zey ?_|(refine Zcn ?_;intro _)|(refine Zdd ?_;first|rintro _ _ ⟨rfl,rfl⟩|rintro _ _ rfl)|refine Zbp ?_|refine Zbb ?_|refine Ze0 ?_|fail))|(refine Stp.h ?_)|(first|(show TT _ _ _ _ _ _ _ _ _;first|refine Zgh ?_|refine Zex ?_|refine Zc3 ?_|refine Zwc ?_|fail)|exact TTs.nil|refine TTs.cons ?_ ?_|(show T1 _ _ _ _ _ _ _ _ _ _;first|refine Zwd ?_|(refine Znj ?_;intro _)|(refine Zni ?_;first|rintro _ _ ⟨rfl,rfl⟩|rintro _ _ rfl)|refine Zwe ?_|refine Ziq ?_|refine Zgi ?_|fail)|(show TC _ _ _ _ _ _ _ _ _ _;first|refine Znh ?_|refine Zip ?_|fail))|((show Tri _ _ _ (.cond _ _ _) _ _ _;first|refine Zbn ?_|refine Zbo ?_|refine Zat ?_|refine Zau ?_|refine Zap ?_|refine Zaq ?_|fail)))
    all_goals
     rename_i u v
     first|exact Post.cut _ _ ⟨u,v,rfl,rfl⟩ Zad Zaa|exact Post.cut _ _ ⟨v,u,rfl,rfl⟩ Zad Zaa
   rintro _ _ ⟨b25,b26,rfl,rfl⟩
   repeat' first|refine Kz ?_|intro _
   refine Zam (.take 0 (.take 1 (.take 2 (.take 3 (.all [(4,.take 5 (.take 6 (.take 7 (.take 8 (.take 9 (.all [(10,.take 11 (.done))]))))))]))))) ?_
   repeat' first|refine Kf ?_|intro _|constructor
   refine Ku rfl (Zhm g2' ((Zbx (by have:=Zik (b:=x.z < p.z) hpz hxz;omega)).mono (by decide)) hb2.1) ?_
   repeat' first|refine Kf ?_|intro _|constructor
   refine Ku rfl (Zhm ((Zbx (by have:=Zik (b:=p.z < x.z) hpz hxz;omega)).mono (by decide)) g2' hb2.2) ?_
   repeat' first|refine Kf ?_|intro _|constructor
   (refine Zac ?_)
   exact ⟨_,rfl,Ents.refl _⟩
end Go.Proofs.YtbfgldlfciimiaaGreatDoor
