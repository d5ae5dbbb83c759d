/- Walks: InkKnown. -/
import Derived.Test.YtoednejlfbfciaaGreatDoorKl1
import Derived.Test.YtoednejlfbfciaaGreatDoorKt1
set_option maxHeartbeats 1000000
namespace Go.Proofs.YtoednejlfbfciaaGreatDoor
open Go Go.Sx
variable {w0:World} {As:List Ent}
set_option maxRecDepth 100000 in
set_option maxHeartbeats 4000000 in
theorem Zmi (ht:Tab w0) (he:ErrR w0):CallsS Tryz.prog w0 8 [] As fun u _=>u=.bool true:=by
 have c1:=fun Bs=>Zbe (w0:=w0) (As:=Bs) (c:=65535) (m:=65535) (y:=65535) (k:=65535) (n:=262140)
 simp only [show cutW ⟨65535,65535,65535,65535⟩ 262140=(⟨65535,65535,65535,65535⟩,0) by decide,Ink.val] at c1
 have c2:=fun Bs=>Zbe (w0:=w0) (As:=Bs) (c:=65535) (m:=65535) (y:=65535) (k:=65535) (n:=0)
 simp only [show cutW ⟨65535,65535,65535,65535⟩ 0=(⟨0,0,0,0⟩,0) by decide,Ink.val] at c2
 have c3:=fun Bs=>Zbe (w0:=w0) (As:=Bs) (c:=65535) (m:=65535) (y:=65535) (k:=65535) (n:=262139)
 simp only [show cutW ⟨65535,65535,65535,65535⟩ 262139=(⟨65534,65534,65534,65535⟩,0) by decide,Ink.val] at c3
 have c4:=fun Bs=>Zbe (w0:=w0) (As:=Bs) (c:=65535) (m:=65535) (y:=65535) (k:=65535) (n:=(-1))
 simp only [show cutW ⟨65535,65535,65535,65535⟩ (-1)=(⟨0,0,0,0⟩,2) by decide,Ink.val] at c4
 have c5:=fun Bs=>Zbe (w0:=w0) (As:=Bs) (c:=65535) (m:=65535) (y:=65535) (k:=65535) (n:=262141)
 simp only [show cutW ⟨65535,65535,65535,65535⟩ 262141=(⟨0,0,0,0⟩,2) by decide,Ink.val] at c5
 have c6:=fun Bs=>Zbe (w0:=w0) (As:=Bs) (c:=0) (m:=(-1)) (y:=0) (k:=0) (n:=5)
 simp only [show cutW ⟨0,(-1),0,0⟩ 5=(⟨0,0,0,0⟩,2) by decide,Ink.val] at c6
 have c7:=fun Bs=>@Zb6 w0 Bs 1 10000 (.slice none 0 0) (.slice none 0 0) [] [] Zar Zar (by decide) (by decide)
 simp only [show rulesE ⟨1,[],[]⟩ 10000=0 by decide] at c7
 have c8:=fun Bs=>@Zb6 w0 Bs 1 9999 (.slice none 0 0) (.slice none 0 0) [] [] Zar Zar (by decide) (by decide)
 simp only [show rulesE ⟨1,[],[]⟩ 9999=390 by decide] at c8
 have c9:=fun Bs=>@Zb6 w0 Bs 1 40001 (.slice none 0 0) (.slice none 0 0) [] [] Zar Zar (by decide) (by decide)
 simp only [show rulesE ⟨1,[],[]⟩ 40001=390 by decide] at c9
 have c10:=fun Bs k [hr:RdIn Bs (.slice (some ⟨k,0,none⟩) 1 1) Seg cSeg [⟨1000000,1000000,0,1,2,0⟩]]=>@Zb6 w0 Bs 3 10000 (.slice none 0 0) (.slice (some ⟨k,0,none⟩) 1 1) [] [⟨1000000,1000000,0,1,2,0⟩] Zar hr (by decide) (by decide)
 simp only [show rulesE ⟨3,[],[⟨1000000,1000000,0,1,2,0⟩]⟩ 10000=390 by decide] at c10
 have c11:=fun Bs=>@Zb6 w0 Bs 9 (-1) (.slice none 0 0) (.slice none 0 0) [] [] Zar Zar (by decide) (by decide)
 simp only [show rulesE ⟨9,[],[]⟩ (-1)=90 by decide] at c11
 have c12:=fun Bs=>@Zcs w0 Bs 9 (-1) (.slice none 0 0) (.slice none 0 0) [] [] ht he Zar Zar (by decide) (by decide) 0 10001 0
 simp only [show splitW 0 10001 0 ⟨9,[],[]⟩ (-1)=.inl 2 by decide +kernel,splitA,splitE,Ink.val,Ink.zero] at c12
 have c13:=fun Bs=>@Zcs w0 Bs 9 (-1) (.slice none 0 0) (.slice none 0 0) [] [] ht he Zar Zar (by decide) (by decide) 0 10000 0
 simp only [show splitW 0 10000 0 ⟨9,[],[]⟩ (-1)=.inl 90 by decide +kernel,splitA,splitE,Ink.val,Ink.zero] at c13
 have c14:=fun Bs k [hr:RdIn Bs (.slice (some ⟨k,0,none⟩) 1 1) Seg cSeg [⟨1000000,1000000,0,1,2,0⟩]]=>@Zcs w0 Bs 3 10000 (.slice none 0 0) (.slice (some ⟨k,0,none⟩) 1 1) [] [⟨1000000,1000000,0,1,2,0⟩] ht he Zar hr (by decide) (by decide) 0 0 0
 simp only [show splitW 0 0 0 ⟨3,[],[⟨1000000,1000000,0,1,2,0⟩]⟩ 10000=.inl 390 by decide +kernel,splitA,splitE,Ink.val,Ink.zero] at c14
 have c15:=fun Bs k [hr:RdIn Bs (.slice (some ⟨k,0,none⟩) 2 2) Int (cI .i64) [0,32767]]=>@Zcs w0 Bs 2 40000 (.slice (some ⟨k,0,none⟩) 2 2) (.slice none 0 0) [0,32767] [] ht he hr Zar (by decide) (by decide) 10000 10000 10000
 simp only [show splitW 10000 10000 10000 ⟨2,[0,32767],[]⟩ 40000=.inr ⟨5000,5000,5000,5000⟩ by decide +kernel,splitA,splitE,Ink.val] at c15
 have c16:=fun Bs k [hr:RdIn Bs (.slice (some ⟨k,0,none⟩) 2 2) Int (cI .i64) [0,32767]]=>@Zcs w0 Bs 2 40000 (.slice (some ⟨k,0,none⟩) 2 2) (.slice none 0 0) [0,32767] [] ht he hr Zar (by decide) (by decide) 3 2 7
 simp only [show splitW 3 2 7 ⟨2,[0,32767],[]⟩ 40000=.inr ⟨2,1,6,1⟩ by decide +kernel,splitA,splitE,Ink.val] at c16
 have c17:=fun Bs=>Zbu (w0:=w0) (As:=Bs) (c:=0) (m:=0) (y:=0) (k:=10001) (n:=5)
 simp only [show limitW ⟨0,0,0,10001⟩ 5=(⟨0,0,0,0⟩,2) by decide,Ink.val] at c17
 have c18:=fun Bs=>Zbu (w0:=w0) (As:=Bs) (c:=0) (m:=0) (y:=0) (k:=10000) (n:=40001)
 simp only [show limitW ⟨0,0,0,10000⟩ 40001=(⟨0,0,0,0⟩,390) by decide,Ink.val] at c18
 have c19:=fun Bs=>Zbu (w0:=w0) (As:=Bs) (c:=10000) (m:=0) (y:=0) (k:=10000) (n:=10000)
 simp only [show limitW ⟨10000,0,0,10000⟩ 10000=(⟨0,0,0,10000⟩,0) by decide,Ink.val] at c19
 refine Zab Tryz.func8 rfl Tryz.ntmps8 rfl ?_
 repeat' first|refine Kz ?_|intro _
 refine TL.callv rfl rfl rfl rfl (Zen ht he) ?_
 rintro _ As ⟨rfl,rfl⟩
 repeat' first|refine Kz ?_|intro _
 rename_i b1
 refine TL.callv rfl rfl rfl rfl (Zb9 (c:=65535) (m:=65535) (y:=65535) (k:=65535)) ?_
 rw [show totalW ⟨65535,65535,65535,65535⟩=(262140,0) by decide]
 rintro _ _ ⟨rfl,rfl⟩
 repeat' first|refine Kz ?_|intro _
 refine TL.callv rfl rfl rfl rfl (Zb9 (c:=0) (m:=0) (y:=65536) (k:=0)) ?_
 rw [show totalW ⟨0,0,65536,0⟩=(0,2) by decide]
 rintro _ _ ⟨rfl,rfl⟩
 repeat' first|refine Kz ?_|intro _
 refine Tri.mid (fun e' As'=>e'=[(6,.bool true)]∧As'=.cl b1 [.int .i64 65535,.int .i64 65535,.int .i64 65535,.int .i64 65535] 41::As) ?_ ?_
 ·refine Zal [.cl b1 [.int .i64 65535,.int .i64 65535,.int .i64 65535,.int .i64 65535] 41] [] (.take 0 (.take 1 (.take 2 (.take 3 (.take 4 (.take 5 (.take 6 (.take 7 (.take 8 (.take 9 (.take 10 (.take 11 (.take 13 (.all [(12,.all [(14,.take 15 (.take 16 (.all [(17,.take 18 (.take 19 (.take 20 (.take 22 (.all [(21,.all [(23,.take 24 (.take 25 (.all [(26,.take 27 (.take 28 (.take 29 (.take 31 (.all [(30,.all [(32,.take 33 (.take 34 (.all [(35,.take 36 (.take 37 (.take 39 (.all [(38,.all [(40,.take 41 (.take 42 (.all [(43,.take 44 (.take 45 (.take 47 (.all [(46,.all [(48,.take 49 (.take 50 (.all [(51,.take 52 (.take 53 (.take 55 (.all [(54,.all [(56,.take 57 (.take 58 (.all [(59,.take 60 (.take 61 (.done)))])))])]))))])))])]))))])))])]))))])))])])))))])))])])))))])))])])))))))))))))) ?_
  repeat' first|refine Kf ?_|intro _|constructor
  refine T1.callv rfl rfl rfl rfl rfl (Zb5) ?_
  rintro _ _ ⟨k,rfl,rfl⟩
  repeat' first|refine Kf ?_|intro _|constructor
  refine Ku rfl (c1 _) ?_
  repeat' first|refine Kf ?_|intro _|constructor
  refine T1.callv (fst:=[]) rfl rfl rfl rfl rfl (Zaj (.cl k [.int .i64 65535,.int .i64 65535,.int .i64 65535,.int .i64 65535] 41) Zdi) ?_
  rw [decide_eq_true (by decide)]
  rintro _ _ ⟨rfl,rfl⟩
  repeat' first|refine Kf ?_|intro _|constructor
  refine T1.callv rfl rfl rfl rfl rfl (Zb5) ?_
  rintro _ _ ⟨k,rfl,rfl⟩
  repeat' first|refine Kf ?_|intro _|constructor
  refine Ku rfl (c2 _) ?_
  repeat' first|refine Kf ?_|intro _|constructor
  refine T1.callv (fst:=[]) rfl rfl rfl rfl rfl (Zaj (.cl k [.int .i64 0,.int .i64 0,.int .i64 0,.int .i64 0] 41) Zdi) ?_
  rw [decide_eq_true (by decide)]
  rintro _ _ ⟨rfl,rfl⟩
  repeat' first|refine Kf ?_|intro _|constructor
  refine T1.callv rfl rfl rfl rfl rfl (Zb5) ?_
  rintro _ _ ⟨k,rfl,rfl⟩
  repeat' first|refine Kf ?_|intro _|constructor
  refine Ku rfl (c3 _) ?_
  repeat' first|refine Kf ?_|intro _|constructor
  refine T1.callv (fst:=[]) rfl rfl rfl rfl rfl (Zaj (.cl k [.int .i64 65534,.int .i64 65534,.int .i64 65534,.int .i64 65535] 41) Zdi) ?_
  rw [decide_eq_true (by decide)]
  rintro _ _ ⟨rfl,rfl⟩
  repeat' first|refine Kf ?_|intro _|constructor
  refine T1.callv rfl rfl rfl rfl rfl (Zba) ?_
  rintro _ _ ⟨k,rfl,rfl⟩
  repeat' first|refine Kf ?_|intro _|constructor
  refine Ku rfl (c4 _) ?_
  repeat' first|refine Kf ?_|intro _|constructor
  refine T1.callv (fst:=[]) rfl rfl rfl rfl rfl (Zaj (.cl k [.int .i64 2] 38) Zbl) ?_
  rw [decide_eq_true (by decide)]
  rintro _ _ ⟨rfl,rfl⟩
  repeat' first|refine Kf ?_|intro _|constructor
  refine T1.callv rfl rfl rfl rfl rfl (Zba) ?_
  rintro _ _ ⟨k,rfl,rfl⟩
  repeat' first|refine Kf ?_|intro _|constructor
  refine Ku rfl (c5 _) ?_
  repeat' first|refine Kf ?_|intro _|constructor
  refine T1.callv (fst:=[]) rfl rfl rfl rfl rfl (Zaj (.cl k [.int .i64 2] 38) Zbl) ?_
  rw [decide_eq_true (by decide)]
  rintro _ _ ⟨rfl,rfl⟩
  repeat' first|refine Kf ?_|intro _|constructor
  refine T1.callv rfl rfl rfl rfl rfl (Zba) ?_
  rintro _ _ ⟨k,rfl,rfl⟩
  repeat' first|refine Kf ?_|intro _|constructor
  refine Ku rfl (c6 _) ?_
  repeat' first|refine Kf ?_|intro _|constructor
  refine T1.callv (fst:=[]) rfl rfl rfl rfl rfl (Zaj (.cl k [.int .i64 2] 38) Zbl) ?_
  rw [decide_eq_true (by decide)]
  rintro _ _ ⟨rfl,rfl⟩
  repeat' first|refine Kf ?_|intro _|constructor
  exact Post.cut _ _ ⟨rfl,rfl⟩ Zad Zaa
 rintro _ _ ⟨rfl,rfl⟩
 repeat' first|refine Kz ?_|intro _
 refine Ks rfl Zkq ?_
 repeat' first|refine Kz ?_|intro _
 rename_i b7
 refine Tri.mid (fun e' As'=>∃ b8 b9 b10,e'=[(6,.bool true),(7,.pointer (some ⟨b7,0,none⟩)),(8,.pointer (some ⟨b8,0,none⟩)),(9,.pointer (some ⟨b9,0,none⟩)),(10,.pointer (some ⟨b10,0,none⟩))]∧As'=.cl b10 [.int .i64 1,.slice none 0 0,.slice none 0 0,.int .i64 10000] 27::.cl b9 [.int .i64 1,.slice none 0 0,.slice none 0 0,.int .i64 10000] 27::.cl b8 [.int .i64 1,.slice none 0 0,.slice none 0 0,.int .i64 10000] 27::.cl b7 [.int .i64 1,.slice none 0 0,.slice none 0 0,.int .i64 10000] 27::As) ?_ ?_
 ·refine Zal [.cl b7 [.int .i64 1,.slice none 0 0,.slice none 0 0,.int .i64 10000] 27] [] (.take 0 (.take 1 (.take 2 (.all [(3,.all [(4,.all [(5,.all [(6,.all [(7,.all [(8,.done)])])])]),(5,.all [(4,.all [(6,.all [(7,.all [(8,.done)])])])])]),(4,.all [(3,.all [(5,.all [(6,.all [(7,.all [(8,.done)])])])]),(5,.all [(3,.all [(6,.all [(7,.all [(8,.done)])])])])]),(5,.all [(3,.all [(4,.all [(6,.all [(7,.all [(8,.done)])])])]),(4,.all [(3,.all [(6,.all [(7,.all [(8,.done)])])])])])])))) ?_
  repeat' first|refine Kf ?_|intro _|constructor
  all_goals exact Post.cut _ _ ⟨_,_,_,rfl,rfl⟩ Zad Zaa
 rintro _ _ ⟨b8,b9,b10,rfl,rfl⟩
 repeat' first|refine Kz ?_|intro _
 refine TL.f rfl rfl (ExF.build (l:=[.int .i64 1000000,.int .i64 1000000,.int .i64 0,.int .i64 1,.int .i64 2,.int .i64 0]) rfl (fun w=>by kernel_rfl)) ?_
 repeat' first|refine Kz ?_|intro _
 rename_i bs
 refine TL.f rfl rfl (ExF.build (l:=[.int .i64 3,.slice none 0 0,.slice (some ⟨bs,0,none⟩) 1 1]) rfl (fun w=>by kernel_rfl)) ?_
 repeat' first|refine Kz ?_|intro _
 refine TL.f rfl rfl (ExF.build (l:=[.int .i64 9,.slice none 0 0,.slice none 0 0]) rfl (fun w=>by kernel_rfl)) ?_
 repeat' first|refine Kz ?_|intro _
 rename_i b11 bh
 refine TL.f rfl rfl (ExF.build (l:=[.int .i64 2,.slice (some ⟨bh,0,none⟩) 2 2,.slice none 0 0]) rfl (fun w=>by kernel_rfl)) ?_
 repeat' first|refine Kz ?_|intro _
 rename_i b12
 rw [show setAll [.int .i64 1,.slice none 0 0,.slice none 0 0,.int .i64 10000] 0 [.int .i64 3,.slice none 0 0,.slice (some ⟨bs,0,none⟩) 1 1]=[.int .i64 3,.slice none 0 0,.slice (some ⟨bs,0,none⟩) 1 1,.int .i64 10000] from rfl]
 refine Tri.ents (Ents.trans (show Ents _ (.cl bs [.int .i64 1000000,.int .i64 1000000,.int .i64 0,.int .i64 1,.int .i64 2,.int .i64 0] 59::.cl b12 [.int .i64 2,.slice (some ⟨bh,0,none⟩) 2 2,.slice none 0 0,.int .i64 40000] 27::.cl bh [.int .i64 0,.int .i64 32767] 3::.cl b11 [.int .i64 9,.slice none 0 0,.slice none 0 0,.int .i64 (-1)] 27::.cl b10 [.int .i64 3,.slice none 0 0,.slice (some ⟨bs,0,none⟩) 1 1,.int .i64 10000] 27::.cl b9 [.int .i64 1,.slice none 0 0,.slice none 0 0,.int .i64 40001] 27::.cl b8 [.int .i64 1,.slice none 0 0,.slice none 0 0,.int .i64 9999] 27::.cl b7 [.int .i64 1,.slice none 0 0,.slice none 0 0,.int .i64 10000] 27::As) from Zaa) (Zd4 (n:=1) (cap:=1) cSeg [⟨1000000,1000000,0,1,2,0⟩] rfl rfl rfl)) ?_
 refine Zal [.cl b7 [.int .i64 1,.slice none 0 0,.slice none 0 0,.int .i64 10000] 27,.cl b8 [.int .i64 1,.slice none 0 0,.slice none 0 0,.int .i64 9999] 27,.cl b9 [.int .i64 1,.slice none 0 0,.slice none 0 0,.int .i64 40001] 27,.cl b10 [.int .i64 3,.slice none 0 0,.slice (some ⟨bs,0,none⟩) 1 1,.int .i64 10000] 27,.cl b11 [.int .i64 9,.slice none 0 0,.slice none 0 0,.int .i64 (-1)] 27,.cl b12 [.int .i64 2,.slice (some ⟨bh,0,none⟩) 2 2,.slice none 0 0,.int .i64 40000] 27] [] (.take 0 (.take 1 (.take 2 (.take 3 (.take 4 (.all [(5,.take 6 (.take 7 (.take 8 (.take 9 (.all [(10,.take 11 (.take 12 (.take 13 (.take 14 (.all [(15,.take 16 (.take 17 (.take 18 (.take 19 (.all [(20,.take 21 (.take 22 (.take 23 (.take 24 (.all [(25,.take 26 (.take 27 (.take 28 (.take 30 (.take 31 (.all [(29,.all [(32,.take 33 (.take 34 (.all [(35,.take 36 (.take 37 (.take 39 (.take 40 (.all [(38,.all [(41,.take 42 (.take 43 (.all [(44,.take 45 (.take 46 (.take 48 (.take 49 (.all [(47,.all [(50,.take 51 (.take 52 (.all [(53,.take 54 (.take 55 (.take 56 (.take 58 (.take 59 (.all [(57,.all [(60,.take 61 (.take 62 (.all [(63,.take 64 (.take 65 (.take 66 (.take 68 (.take 69 (.all [(67,.all [(70,.take 71 (.take 72 (.all [(73,.take 74 (.take 75 (.take 77 (.all [(76,.all [(78,.take 79 (.take 80 (.all [(81,.take 82 (.take 83 (.take 85 (.all [(84,.all [(86,.take 87 (.take 88 (.all [(89,.take 90 (.take 91 (.take 92 (.take 94 (.all [(93,.all [(95,.take 96 (.take 97 (.all [(98,.take 99 (.take 100 (.done)))])))])])))))])))])]))))])))])]))))])))])]))))))])))])]))))))])))])])))))])))])])))))])))])]))))))])))))])))))])))))])))))])))))) ?_ (hok:=okK)
 repeat' first|refine Kf ?_|intro _|constructor
 refine Ku rfl (c7 _) ?_
 repeat' first|refine Kf ?_|intro _|constructor
 refine Ku rfl (c8 _) ?_
 repeat' first|refine Kf ?_|intro _|constructor
 refine Ku rfl (c9 _) ?_
 repeat' first|refine Kf ?_|intro _|constructor
 refine Ku rfl (c10 _ _) ?_
 repeat' first|refine Kf ?_|intro _|constructor
 refine Ku rfl (c11 _) ?_
 repeat' first|refine Kf ?_|intro _|constructor
 refine T1.callv rfl rfl rfl rfl rfl (Zba) ?_
 rintro _ _ ⟨k,rfl,rfl⟩
 repeat' first|refine Kf ?_|intro _|constructor
 refine Ku rfl (c12 _) ?_
 repeat' first|refine Kf ?_|intro _|constructor
 refine T1.callv (fst:=[]) rfl rfl rfl rfl rfl (Zaj (.cl k [.int .i64 2] 38) Zbl) ?_
 rw [decide_eq_true (by decide)]
 rintro _ _ ⟨rfl,rfl⟩
 repeat' first|refine Kf ?_|intro _|constructor
 refine T1.callv rfl rfl rfl rfl rfl (Zba) ?_
 rintro _ _ ⟨k,rfl,rfl⟩
 repeat' first|refine Kf ?_|intro _|constructor
 refine Ku rfl (c13 _) ?_
 repeat' first|refine Kf ?_|intro _|constructor
 refine T1.callv (fst:=[]) rfl rfl rfl rfl rfl (Zaj (.cl k [.int .i64 90] 38) Zbl) ?_
 rw [decide_eq_true (by decide)]
 rintro _ _ ⟨rfl,rfl⟩
 repeat' first|refine Kf ?_|intro _|constructor
 refine T1.callv rfl rfl rfl rfl rfl (Zba) ?_
 rintro _ _ ⟨k,rfl,rfl⟩
 repeat' first|refine Kf ?_|intro _|constructor
 refine Ku rfl (c14 _ _) ?_
 repeat' first|refine Kf ?_|intro _|constructor
 refine T1.callv (fst:=[]) rfl rfl rfl rfl rfl (Zaj (.cl k [.int .i64 390] 38) Zbl) ?_
 rw [decide_eq_true (by decide)]
 rintro _ _ ⟨rfl,rfl⟩
 repeat' first|refine Kf ?_|intro _|constructor
 refine T1.callv rfl rfl rfl rfl rfl (Zb5) ?_
 rintro _ _ ⟨k,rfl,rfl⟩
 repeat' first|refine Kf ?_|intro _|constructor
 refine Ku rfl (c15 _ _) ?_
 repeat' first|refine Kf ?_|intro _|constructor
 refine T1.callv (fst:=[]) rfl rfl rfl rfl rfl (Zaj (.cl k [.int .i64 5000,.int .i64 5000,.int .i64 5000,.int .i64 5000] 41) Zdi) ?_
 rw [decide_eq_true (by decide)]
 rintro _ _ ⟨rfl,rfl⟩
 repeat' first|refine Kf ?_|intro _|constructor
 refine T1.callv rfl rfl rfl rfl rfl (Zb5) ?_
 rintro _ _ ⟨k,rfl,rfl⟩
 repeat' first|refine Kf ?_|intro _|constructor
 refine Ku rfl (c16 _ _) ?_
 repeat' first|refine Kf ?_|intro _|constructor
 refine T1.callv (fst:=[]) rfl rfl rfl rfl rfl (Zaj (.cl k [.int .i64 2,.int .i64 1,.int .i64 6,.int .i64 1] 41) Zdi) ?_
 rw [decide_eq_true (by decide)]
 rintro _ _ ⟨rfl,rfl⟩
 repeat' first|refine Kf ?_|intro _|constructor
 refine T1.callv rfl rfl rfl rfl rfl (Zba) ?_
 rintro _ _ ⟨k,rfl,rfl⟩
 repeat' first|refine Kf ?_|intro _|constructor
 refine Ku rfl (c17 _) ?_
 repeat' first|refine Kf ?_|intro _|constructor
 refine T1.callv (fst:=[]) rfl rfl rfl rfl rfl (Zaj (.cl k [.int .i64 2] 38) Zbl) ?_
 rw [decide_eq_true (by decide)]
 rintro _ _ ⟨rfl,rfl⟩
 repeat' first|refine Kf ?_|intro _|constructor
 refine T1.callv rfl rfl rfl rfl rfl (Zba) ?_
 rintro _ _ ⟨k,rfl,rfl⟩
 repeat' first|refine Kf ?_|intro _|constructor
 refine Ku rfl (c18 _) ?_
 repeat' first|refine Kf ?_|intro _|constructor
 refine T1.callv (fst:=[]) rfl rfl rfl rfl rfl (Zaj (.cl k [.int .i64 390] 38) Zbl) ?_
 rw [decide_eq_true (by decide)]
 rintro _ _ ⟨rfl,rfl⟩
 repeat' first|refine Kf ?_|intro _|constructor
 refine T1.callv rfl rfl rfl rfl rfl (Zb5) ?_
 rintro _ _ ⟨k,rfl,rfl⟩
 repeat' first|refine Kf ?_|intro _|constructor
 refine Ku rfl (c19 _) ?_
 repeat' first|refine Kf ?_|intro _|constructor
 refine T1.callv (fst:=[]) rfl rfl rfl rfl rfl (Zaj (.cl k [.int .i64 0,.int .i64 0,.int .i64 0,.int .i64 10000] 41) Zdi) ?_
 rw [decide_eq_true (by decide)]
 rintro _ _ ⟨rfl,rfl⟩
 repeat' first|refine Kf ?_|intro _|constructor
 (refine Zac ?_)
 exact ⟨_,rfl,Ents.refl _⟩
end Go.Proofs.YtoednejlfbfciaaGreatDoor
