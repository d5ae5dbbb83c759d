/- Walks: MeshKnown. -/
import Derived.Test.YtlgdjjkiofcdmaaDoorMk1
import Derived.Test.YtlgdjjkiofcdmaaDoorMr1
import Derived.Test.YtlgdjjkiofcdmaaDoorSxZ
set_option maxHeartbeats 1000000
namespace Go.Proofs.YtlgdjjkiofcdmaaDoor
open Go Go.Sx
variable {w0:World} {As:List Ent} {pv fv:Value} {pts fcs:List V3}
theorem Zqq {P:Program} {N:Ctx} {w0:World} {ops:Array Oper} {Rs:RsP} {i:Nat} {t:Tree} {e:Env} {As Bs:List Ent} {Q:Exit→Act→World→Prop} (h:Ents As Bs) (k:T1 P N w0 ops Rs i t e Bs Q):T1 P N w0 ops Rs i t e As Q:=by
 unfold T1 at k ⊢
 exact fun h1 fuel l hd hok a w ha hs=>k h1 fuel l hd hok a w ha (h w0 w hs)
theorem Za9 (ht:Tab w0) {kind at_:Int} [RdIn As fv V3 cV3 fcs] [RdIn As pv V3 cV3 pts] (h:((flawM pts fcs).1:Int)=kind∧((flawM pts fcs).2:Int)=at_) :
  CQ Tryd.prog w0 7 [.agg #[pv,fv],.int .i64 kind,.int .i64 at_] As (.bool true):=by
 have:=Zcc (w0:=w0) (As:=As) (pv:=pv) (fv:=fv) ht (kind:=kind) (at_:=at_)
 rwa [decide_eq_true h] at this
set_option maxRecDepth 100000 in
set_option maxHeartbeats 16000000 in
set_option synthInstance.maxSize 4000 in
set_option synthInstance.maxHeartbeats 400000 in
theorem Zis (ht:Tab w0):CallsS Tryd.prog w0 3 [] As fun u _=>u=.bool true:=by
 have hlP:tetP.length=4:=rfl
 have hlF:tetF.length=4:=rfl
 have hP2:tetP[2]?=some ⟨0,1000,0⟩:=rfl
 have hF0:tetF[0]?=some ⟨0,2,1⟩:=rfl
 refine Zab Tryd.func3 rfl Tryd.ntmps3 rfl ?_
 repeat' first|refine Kz ?_|intro _
 refine TL.call rfl rfl rfl (Zpr ht) ?_
 rintro _ As ⟨rfl,rfl⟩
 repeat' first|refine Kz ?_|intro _
 refine TL.call rfl rfl rfl Za0 ?_
 rintro _ _ ⟨p2,f2,rfl,rfl⟩
 repeat' first|refine Kz ?_|intro _
 refine TL.call rfl rfl rfl Za0 ?_
 rintro _ _ ⟨p3,f3,rfl,rfl⟩
 repeat' first|refine Kz ?_|intro _
 refine TL.call rfl rfl rfl Za0 ?_
 rintro _ _ ⟨p4,f4,rfl,rfl⟩
 repeat' first|refine Kz ?_|intro _
 refine TL.call rfl rfl rfl Za0 ?_
 rintro _ _ ⟨p5,f5,rfl,rfl⟩
 repeat' first|refine Kz ?_|intro _
 refine Zh4 rfl rfl (Zko (n:=297) rfl rfl hlP (by omega) (by omega) (by omega) (by omega)) ?_
 rintro q2 _ rfl
 rename_i b1 b2 b3 b4 b5
 repeat' first|refine Kz ?_|intro _
 rename_i q3
 refine Zbn [.cl b4 [.slice (some ⟨p4,0,none⟩) 4 4,.slice (some ⟨f4,0,none⟩) 4 4] 25] [] (.take 0 (.take 1 (.take 2 (.take 3 (.take 4 (.take 5 (.take 7 (.all [(6,.take 8 (.all [(9,.done)]))])))))))) ?_
 repeat' first|refine Kf ?_|intro _|constructor
 refine TT.take rfl rfl rfl (Za3 rfl rfl (by decide)) ?_
 repeat' first|refine Kf ?_|intro _|constructor
 refine TT.take rfl rfl rfl (Za3 rfl rfl (by decide)) ?_
 repeat' first|refine Kf ?_|intro _|constructor
 refine TL.ents (Zbs (n:=2) (cap:=2) cV3 [⟨1,0,2⟩,⟨0,1,2⟩] rfl rfl rfl) ?_
 repeat' first|refine Kz ?_|intro _
 rename_i b6 q5f b7 q5p
 refine Tri.open q5f (by simp) ?_
 show ∀ b off cap,6≤cap→q5f=.slice (some ⟨b,off,none⟩) 6 cap→_
 rintro g5 o5 c5 _ rfl
 refine Zbn [.cl b5 [q5p,.slice (some ⟨g5,o5,none⟩) 6 c5] 25] [] (.take 0 (.take 1 (.take 2 (.take 3 (.take 4 (.take 5 (.take 6 (.all [(7,.take 8 (.all [(9,.done)]))])))))))) ?_
 repeat' first|refine Kf ?_|intro _|constructor
 refine TT.take rfl rfl rfl (Za3 rfl rfl (by decide)) ?_
 repeat' first|refine Kf ?_|intro _|constructor
 refine TT.take rfl rfl rfl (Za3 rfl rfl (by decide)) ?_
 repeat' first|refine Kf ?_|intro _|constructor
 refine TL.call rfl rfl rfl Za0 ?_
 rintro _ _ ⟨p6,f6,rfl,rfl⟩
 repeat' first|refine Kz ?_|intro _
 refine TL.ents (Zbs (n:=3) (cap:=3) cV3 [⟨9,0,0⟩,⟨9,9,0⟩,⟨9,0,9⟩] rfl rfl rfl) ?_
 repeat' first|refine Kz ?_|intro _
 rename_i b8 b9 q6p b10 q6f
 refine TL.f rfl rfl (ExF.build (vs:=[.int .u8 8]) (l:=[.int .u8 8,.int .u8 0,.int .u8 0,.int .i64 0]) rfl (fun w=>by kernel_rfl)) ?_
 repeat' first|refine Kz ?_|intro _
 refine TL.call rfl rfl rfl Za0 ?_
 rintro _ _ ⟨p7,f7,rfl,rfl⟩
 repeat' first|refine Kz ?_|intro _
 refine TL.callv rfl rfl rfl rfl (Zj8 (wh:=8) (ta:=0) (to_:=0) (n:=0) (by decide) (by decide) (by decide)) ?_
 rintro _ _ ⟨p8,f8,P8,F8,rfl,hp8,hf8,⟨-,-,h8,-⟩,rfl⟩
 obtain ⟨rfl,rfl⟩:=h8 (by decide) (by decide) (by decide) (by decide) (by decide)
 clear h8
 repeat' first|refine Kz ?_|intro _
 refine TL.f rfl rfl (ExF.build (vs:=[.int .u8 10]) (l:=[.int .u8 10,.int .u8 0,.int .u8 0,.int .i64 0]) rfl (fun w=>by kernel_rfl)) ?_
 repeat' first|refine Kz ?_|intro _
 refine TL.call rfl rfl rfl Za0 ?_
 rintro _ _ ⟨p9,f9,rfl,rfl⟩
 repeat' first|refine Kz ?_|intro _
 refine TL.callv rfl rfl rfl rfl (Zj8 (wh:=10) (ta:=0) (to_:=0) (n:=0) (by decide) (by decide) (by decide)) ?_
 rintro _ _ ⟨p10,f10,P10,F10,rfl,hp10,hf10,⟨-,-,-,h10⟩,rfl⟩
 obtain ⟨rfl,rfl⟩:=h10 (by decide) (by decide) (by decide) (by decide) (by decide)
 clear h10
 repeat' first|refine Kz ?_|intro _
 refine TL.call rfl rfl rfl Za0 ?_
 rintro _ _ ⟨p11,f11,rfl,rfl⟩
 repeat' first|refine Kz ?_|intro _
 rename_i b7 b11 b12
 refine TL.ents (Zbl (T:=27) cV3) ?_
 refine Kt rfl (Za9 ht (by decide +kernel)) ?_
 repeat' first|refine Kz ?_|intro _
 refine Kt rfl (Za9 ht (by decide +kernel)) ?_
 repeat' first|refine Kz ?_|intro _
 refine Kt rfl (Za9 ht (by decide +kernel)) ?_
 repeat' first|refine Kz ?_|intro _
 refine Kt rfl (Za9 ht (by decide +kernel)) ?_
 repeat' first|refine Kz ?_|intro _
 refine Kt rfl (Za9 ht (by decide +kernel)) ?_
 repeat' first|refine Kz ?_|intro _
 refine Kt rfl (Za9 ht (by decide +kernel)) ?_
 repeat' first|refine Kz ?_|intro _
 refine Kt rfl (Za9 ht (by decide +kernel)) ?_
 repeat' first|refine Kz ?_|intro _
 refine Kt rfl (Za9 ht (by decide +kernel)) ?_
 repeat' first|refine Kz ?_|intro _
 refine Kt rfl (Za9 ht (by decide +kernel)) ?_
 repeat' first|refine Kz ?_|intro _
 rename_i bg
 refine Tri.ents (Zbl (T:=27) cV3) ?_
 refine Tri.loop (ι:=Nat × Option Addr × Nat) (fun x=>x.1≤297) (fun x=>297 - x.1)
  (fun x=>[(1,.pointer (some ⟨b1,0,none⟩)),(3,.pointer (some ⟨b3,0,none⟩)),(7,.pointer (some ⟨b7,0,none⟩)),(10,.bool true),(11,.pointer (some ⟨bg,0,none⟩)),(147,.int .i64 (x.1:Int))])
  (fun x=>.cl bg [.slice x.2.1 x.1 x.2.2,.slice none 0 0] 25::.ow cV3 27 (.slice x.2.1 x.1 x.2.2) (pyrX x.1)::.cl b3 [q3,.slice (some ⟨f3,0,none⟩) 4 4] 25::.ow cV3 27 q3 (tetP++[⟨7,7,7⟩])::.ow cV3 27 (.slice (some ⟨f3,0,none⟩) 4 4) tetF::.cl b1 [.slice none 0 0,.slice none 0 0] 25::.cl b7 [p8,f8] 25::.ow cV3 27 p8 (tetP++tetP.map besideP)::.ow cV3 27 f8 (tetF++tetF.map (besideF tetP.length))::As) (0,none,0) (by simp) Zae (by show Ents _ (.cl bg [.slice none 0 0,_] _::.ow _ _ (.slice none 0 0) (pyrX 0)::_);rw [Znp];(exact Zaa)) ?_
 rintro ⟨k,q,c⟩ hk
 simp only at hk
 have hXl:(pyrX k).length=k:=Zp6
 have hXs:=Znq (k:=k)
 have hk0:(0:Int)≤k∧(k:Int)≤297:=by omega
 have hkk:=Int.mul_nonneg hk0.1 hk0.1
 have hkm:=Int.mul_le_mul hk0.2 hk0.2 hk0.1 (by decide)
 generalize hX:pyrX k=X at hXl hXs ⊢
 show Tri _ _ _ _ [(1,_),(3,_),(7,_),(10,_),(11,_),(147,.int .i64 (k:Int))] (.cl bg [.slice q k c,_] _::.ow _ _ (.slice q k c) _::_) _
 repeat' first|refine Kz ?_|intro _
 (refine Kx (fun hc=>?_) fun hc=>?_)
 ·repeat' first|refine Kz ?_|intro _
  rename_i u1
  refine Zc9 u1 ?_
  rw [show (X++[(⟨(k:Int),(k:Int) * (k:Int),0⟩:V3)]).length=k+1 by simp [hXl]]
  rintro q' c' rfl
  refine Post.round (k+1,q',c') (by simp only;omega) (by simp only;omega) Zae ?_
  show Ents _ (.cl bg [.slice q' (k+1) c',_] _::.ow _ _ (.slice q' (k+1) c') (pyrX (k+1))::_)
  rw [hXs]
  (exact Zaa)
 obtain rfl:k=297:=by omega
 subst hX
 repeat' first|refine Kz ?_|intro _
 refine TL.ents (Zbs (n:=2) (cap:=2) cV3 [⟨5,100,900⟩,⟨5,100,-900⟩] rfl rfl rfl) ?_
 repeat' first|refine Kz ?_|intro _
 rename_i qP
 refine Tri.ents (Zbl (T:=27) cV3) ?_
 rw [Znr]
 refine Tri.loop (ι:=Nat × Option Addr × Nat) (fun x=>x.1≤297) (fun x=>297 - x.1)
  (fun x=>[(1,.pointer (some ⟨b1,0,none⟩)),(3,.pointer (some ⟨b3,0,none⟩)),(7,.pointer (some ⟨b7,0,none⟩)),(10,.bool true),(11,.pointer (some ⟨bg,0,none⟩)),(168,.int .i64 (x.1:Int))])
  (fun x=>.cl bg [qP,.slice x.2.1 (2 * x.1) x.2.2] 25::.ow cV3 27 (.slice x.2.1 (2 * x.1) x.2.2) (pyrG x.1)::.ow cV3 27 qP pyrP::.cl b3 [q3,.slice (some ⟨f3,0,none⟩) 4 4] 25::.ow cV3 27 q3 (tetP++[⟨7,7,7⟩])::.ow cV3 27 (.slice (some ⟨f3,0,none⟩) 4 4) tetF::.cl b1 [.slice none 0 0,.slice none 0 0] 25::.cl b7 [p8,f8] 25::.ow cV3 27 p8 (tetP++tetP.map besideP)::.ow cV3 27 f8 (tetF++tetF.map (besideF tetP.length))::As) (0,none,0) (by simp) Zae (by show Ents _ (.cl bg [_,.slice none 0 0] _::.ow _ _ (.slice none 0 0) (pyrG 0)::_);rw [Znv];(exact Zaa)) ?_
 rintro ⟨k,q,c⟩ hk
 simp only at hk
 have hXl:(pyrG k).length=2 * k:=Zp8
 have hXs:=Zip (k:=k)
 generalize hX:pyrG k=X at hXl hXs ⊢
 show Tri _ _ _ _ [(1,_),(3,_),(7,_),(10,_),(11,_),(168,.int .i64 (k:Int))] (.cl bg [qP,.slice q (2 * k) c] _::.ow _ _ (.slice q (2 * k) c) _::_) _
 repeat' first|refine Kz ?_|intro _
 (refine Kx (fun hc=>?_) fun hc=>?_)
 ·have hm:0≤((k:Int)+1) % 297∧((k:Int)+1) % 297≤296:=by omega
  repeat' first|refine Kz ?_|intro _
  refine TL.ents (Zbs (n:=2) (cap:=2) cV3 [⟨(k:Int),((k:Int)+1) % 297,297⟩,⟨((k:Int)+1) % 297,(k:Int),298⟩] rfl rfl rfl) ?_
  repeat' first|refine Kz ?_|intro _
  rename_i u1
  refine Zc9 u1 ?_
  rw [show (X++[(⟨(k:Int),((k:Int)+1) % 297,297⟩:V3),⟨((k:Int)+1) % 297,(k:Int),298⟩]).length=2 * (k+1) by simp [hXl];omega]
  rintro q' c' rfl
  refine Post.round (k+1,q',c') (by simp only;omega) (by simp only;omega) Zae ?_
  show Ents _ (.cl bg [_,.slice q' (2 * (k+1)) c'] _::.ow _ _ (.slice q' (2 * (k+1)) c') (pyrG (k+1))::_)
  rw [hXs]
  (exact Zaa)
 obtain rfl:k=297:=by omega
 subst hX
 rw [Znw]
 repeat' first|refine Kz ?_|intro _
 refine Kt rfl Zlc ?_
 rw [Zno]
 repeat' first|refine Kz ?_|intro _
 refine Kt rfl (Zde ht) ?_
 rw [if_pos Zq7,Zrx]
 repeat' first|refine Kz ?_|intro _
 have hPl:=Zp7
 refine Tri.loop (ι:=Nat) (fun x=>x≤297) (fun x=>297 - x)
  (fun x=>[(1,.pointer (some ⟨b1,0,none⟩)),(3,.pointer (some ⟨b3,0,none⟩)),(7,.pointer (some ⟨b7,0,none⟩)),(10,.bool true),(11,.pointer (some ⟨bg,0,none⟩)),(15,.int .i64 891),(16,.int .i64 2),(17,.int .i64 0),(18,.string ⟨(textI (1800 * pyrA)).toArray⟩),(19,.int .i64 0),(20,.int .i64 (pyrS x)),(197,.int .i64 (x:Int))])
  (fun _=>.cl bg [qP,.slice q (2 * 297) c] 25::.ow cV3 27 qP pyrP::.cl b3 [q3,.slice (some ⟨f3,0,none⟩) 4 4] 25::.ow cV3 27 q3 (tetP++[⟨7,7,7⟩])::.ow cV3 27 (.slice (some ⟨f3,0,none⟩) 4 4) tetF::.cl b1 [.slice none 0 0,.slice none 0 0] 25::.cl b7 [p8,f8] 25::.ow cV3 27 p8 (tetP++tetP.map besideP)::.ow cV3 27 f8 (tetF++tetF.map (besideF tetP.length))::As) 0 (by simp) (by rw [Zns];(exact Zae)) Zaa ?_
 rintro k hk
 replace hk:k≤297:=hk
 have hS:=Znt hk
 have hXs:=Zin (k:=k)
 obtain ⟨m,hm⟩:∃ m:Nat,((k:Int)+1) % 297=m:=⟨(((k:Int)+1) % 297).toNat,by omega⟩
 rw [hm] at hXs
 have hPm:=Znu (i:=m) (by omega)
 show Tri _ _ _ _ [(1,_),(3,_),(7,_),(10,_),(11,_),(15,_),(16,_),(17,_),(18,_),(19,_),(20,_),(197,.int .i64 (k:Int))] _ _
 repeat' first|refine Kz ?_|intro _
 (refine Kx (fun hc=>?_) fun hc=>?_)
 ·have hPk:=Znu (i:=k) (by omega)
  have ht:=Zk3 (i:=k) (by omega)
  rw [hm] at ht
  obtain ⟨t1,t2,t3,t4⟩:=ht
  have w1:IntKind.i64.wrap ((k:Int) * ((m:Int) * (m:Int)))=(k:Int) * ((m:Int) * (m:Int)):=Zav (show _∧_ by omega)
  have w2:IntKind.i64.wrap ((k:Int) * (k:Int) * (m:Int))=(k:Int) * (k:Int) * (m:Int):=Zav (show _∧_ by omega)
  have w3:IntKind.i64.wrap ((k:Int) * ((m:Int) * (m:Int)) - (k:Int) * (k:Int) * (m:Int))=(k:Int) * ((m:Int) * (m:Int)) - (k:Int) * (k:Int) * (m:Int):=Zav (show _∧_ by omega)
  have w4:IntKind.i64.wrap (pyrS k+((k:Int) * ((m:Int) * (m:Int)) - (k:Int) * (k:Int) * (m:Int)))=pyrS (k+1):=by rw [hXs];exact Zav (show _∧_ by omega)
  repeat' first|refine Kz ?_|intro _
  refine Zcr (.take 0 (.take 1 (.take 2 (.take 3 (.take 4 (.take 5 (.take 6 (.take 7 (.take 8 (.take 9 (.take 10 (.take 11 (.all [(12,.all [(13,.all [(14,.all [(15,.done)])])]),(13,.all [(12,.all [(14,.all [(15,.done)])])])]))))))))))))) ?_
  repeat' first|refine Kf ?_|intro _|constructor
  rw [hm]
  repeat' first|refine Kf ?_|intro _|constructor
  all_goals
   rw [show IntKind.i64.wrap ((⟨(k:Int),(k:Int) * (k:Int),0⟩:V3).x * (⟨(m:Int),(m:Int) * (m:Int),0⟩:V3).y)=(k:Int) * ((m:Int) * (m:Int)) from w1,show IntKind.i64.wrap ((⟨(k:Int),(k:Int) * (k:Int),0⟩:V3).y * (⟨(m:Int),(m:Int) * (m:Int),0⟩:V3).x)=(k:Int) * (k:Int) * (m:Int) from w2,w3,w4]
   exact Post.round (k+1) (by omega) (by omega) Zae Zaa
 obtain rfl:k=297:=by omega
 rw [Zio]
 repeat' first|refine Kz ?_|intro _
 refine TL.ents (Zbl (T:=27) cV3) ?_
 refine Kt rfl Zrf ?_
 rw [Zqc]
 repeat' first|refine Kz ?_|intro _
 refine TL.call rfl rfl rfl Zif ?_
 intro _ _ h
 obtain ⟨pt,ft,rfl,ht1,ht2,rfl⟩:=Zch (show turnedM (tetP++[⟨7,7,7⟩]) tetF=(350,[],[]) by decide +kernel) h
 repeat' first|refine Kz ?_|intro _
 refine TL.call rfl rfl rfl Za0 ?_
 rintro _ _ ⟨p12,f12,rfl,rfl⟩
 repeat' first|refine Kz ?_|intro _
 refine TL.call rfl rfl rfl (Zed (b:=⟨0,0,4611686018427387904⟩)) ?_
 intro _ _ h
 obtain ⟨pm,fm,rfl,hm1,hm2,rfl⟩:=Zch (show movedM tetP tetF ⟨0,0,4611686018427387904⟩=(6,[],[]) by decide +kernel) h
 repeat' first|refine Kz ?_|intro _
 refine TL.call rfl rfl rfl Za0 ?_
 rintro _ _ ⟨p13,f13,rfl,rfl⟩
 repeat' first|refine Kz ?_|intro _
 refine TL.call rfl rfl rfl (Zed (b:=⟨0,-9223372036854775808,0⟩)) ?_
 intro _ _ h
 obtain ⟨pn,fn,rfl,hn1,hn2,rfl⟩:=Zch (show movedM tetP tetF ⟨0,-9223372036854775808,0⟩=(6,[],[]) by decide +kernel) h
 repeat' first|refine Kz ?_|intro _
 refine TL.f rfl rfl (ExF.build (vs:=[.int .i64 4611686018427387904]) (l:=[.int .i64 4611686018427387904,.int .i64 0,.int .i64 0]) rfl (fun w=>by kernel_rfl)) ?_
 repeat' first|refine Kz ?_|intro _
 refine TL.callv rfl rfl rfl rfl (Zed (b:=⟨4611686018427387904,0,0⟩)) ?_
 intro _ _ h
 obtain ⟨po,fo,rfl,ho1,ho2,rfl⟩:=Zch (show movedM (tetP++tetP.map besideP) (tetF++tetF.map (besideF tetP.length)) ⟨4611686018427387904,0,0⟩=(350,[],[]) by decide +kernel) h
 repeat' first|refine Kz ?_|intro _
 have hA:-17820000000≤pyrA∧pyrA≤17820000000:=by rw [← Zio];exact Znt (by omega)
 rw [show IntKind.i64.wrap (1800 * pyrA)=1800 * pyrA from Zav (show _∧_ by omega)]
 refine Kt rfl (Zhu ht (n:=1800 * pyrA) (by omega) (by omega)) ?_
 repeat' first|refine Kz ?_|intro _
 rw [show decide (textI (1800 * pyrA)=Lib.itoa (1800 * pyrA))=true from decide_eq_true rfl]
 repeat' first|refine Kz ?_|intro _
 refine Zcr (.take 0 (.take 1 (.take 2 (.take 3 (.take 4 (.take 5 (.take 6 (.take 7 (.take 8 (.take 9 (.take 10 (.take 11 (.take 12 (.take 13 (.take 14 (.take 15 (.take 16 (.take 17 (.take 18 (.take 19 (.all [(20,.take 21 (.all [(22,.take 23 (.take 24 (.take 26 (.all [(25,.all [(27,.take 28 (.take 29 (.take 30 (.done))))])]))))]))]))))))))))))))))))))) ?_
 repeat' first|refine Kf ?_|intro _|constructor
 rename_i be
 refine TT.take rfl rfl rfl (ExF.build (vs:=[.slice (some ⟨be,0,none⟩) 0 0]) (l:=[.slice (some ⟨be,0,none⟩) 0 0,.slice none 0 0]) rfl (fun w=>by kernel_rfl)) ?_
 repeat' first|refine Kf ?_|intro _|constructor
 refine Zqq (Zbs (n:=0) (cap:=0) (T:=27) cV3 [] rfl rfl rfl) ?_
 refine Ku rfl (Zni (pts:=[]) (fcs:=[]) (pts':=[]) (fcs':=[]) (by decide) (by decide)) ?_
 rw [show decide (([]:List V3)=[]∧([]:List V3)=[])=true from rfl]
 repeat' first|refine Kf ?_|intro _|constructor
 refine T1.call rfl rfl rfl rfl Za0 ?_
 rintro _ _ ⟨p14,f14,rfl,rfl⟩
 repeat' first|refine Kf ?_|intro _|constructor
 refine Kw rfl (Zni (by decide) (by decide)) ?_
 rw [show decide (tetP=tetP++[(⟨7,7,7⟩:V3)]∧tetF=tetF)=false by decide +kernel]
 repeat' first|refine Kf ?_|intro _|constructor
 (refine Zad ?_)
 exact ⟨[],rfl,Zbp inferInstance⟩
end Go.Proofs.YtlgdjjkiofcdmaaDoor
