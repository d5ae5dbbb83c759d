/- Walks: law39: helpers, the chapter's examples. -/
import Derived.Test.YtoednejlfbfciaaGreatDoorKw2
set_option maxHeartbeats 1000000
namespace Go.Sx
open Go
theorem Ziv {As:List Ent} {α:Type} {c:Cod α}:RdIn As (.slice none 0 0) α c []:=⟨fun _ _ _=>.inl ⟨⟨none,rfl⟩,rfl⟩⟩
end Go.Sx
namespace Go.Proofs.YtoednejlfbfciaaGreatDoor
open Go Go.Sx
variable {w0:World} {As:List Ent}
theorem Zfo {a b c d:Int}:CallsS Tryz.prog w0 22 [.agg #[.int .i64 a,.int .i64 b,.int .i64 c,.int .i64 d]] As fun v Bs=>∃ k,v=.func (.func 43) #[] #[.pointer (some ⟨k,0,none⟩)]∧Bs=.cl k [.int .i64 a,.int .i64 b,.int .i64 c,.int .i64 d] 41::As:=by
 refine Zab Tryz.func22 rfl Tryz.ntmps22 rfl ?_
 repeat' first|refine Kz ?_|intro _
 (refine Zac ?_)
 exact ⟨_,⟨_,rfl,rfl⟩,Zaa⟩
theorem Zjt {e:Int}:CallsS Tryz.prog w0 25 [.int .i64 e] As fun v Bs=>∃ k,v=.func (.func 44) #[] #[.pointer (some ⟨k,0,none⟩)]∧Bs=.cl k [.int .i64 e] 38::As:=by
 refine Zab Tryz.func25 rfl Tryz.ntmps25 rfl ?_
 repeat' first|refine Kz ?_|intro _
 (refine Zac ?_)
 exact ⟨_,⟨_,rfl,rfl⟩,Zaa⟩
theorem Zie {a b c d p q r s e:Int} {k:Nat}:CallsS Tryz.prog w0 43 [.agg #[.int .i64 a,.int .i64 b,.int .i64 c,.int .i64 d],.int .i64 e,.pointer (some ⟨k,0,none⟩)] (.cl k [.int .i64 p,.int .i64 q,.int .i64 r,.int .i64 s] 41::As) fun u Bs=>u=.bool (decide ((a=p∧b=q∧c=r∧d=s)∧e=0))∧Bs=.cl k [.int .i64 p,.int .i64 q,.int .i64 r,.int .i64 s] 41::As:=by
 refine Zab Tryz.func43 rfl Tryz.ntmps43 rfl ?_
 repeat' first|refine Kz ?_|intro _
 refine TL.f rfl rfl (Zge rfl rfl) ?_
 by_cases h:a=p∧b=q∧c=r∧d=s
 ·rw [decide_eq_true h]
  repeat' first|refine Kz ?_|intro _
  (refine Zac ?_)
  exact ⟨_,⟨by simp [h],rfl⟩,Zaa⟩
 ·rw [decide_eq_false h]
  repeat' first|refine Kz ?_|intro _
  (refine Zac ?_)
  exact ⟨_,⟨by rw [decide_eq_false (fun g=>h g.1)],rfl⟩,Zaa⟩
theorem Zmy {a b c d e p:Int} {k:Nat}:CallsS Tryz.prog w0 44 [.agg #[.int .i64 a,.int .i64 b,.int .i64 c,.int .i64 d],.int .i64 e,.pointer (some ⟨k,0,none⟩)] (.cl k [.int .i64 p] 38::As) fun u Bs=>u=.bool (decide ((a=0∧b=0∧c=0∧d=0)∧e=p))∧Bs=.cl k [.int .i64 p] 38::As:=by
 refine Zab Tryz.func44 rfl Tryz.ntmps44 rfl ?_
 repeat' first|refine Kz ?_|intro _
 refine TL.f rfl rfl (Zge rfl rfl) ?_
 by_cases h:a=0∧b=0∧c=0∧d=0
 ·rw [decide_eq_true h]
  repeat' first|refine Kz ?_|intro _
  (refine Zac ?_)
  exact ⟨_,⟨by simp [h],rfl⟩,Zaa⟩
 ·rw [decide_eq_false h]
  repeat' first|refine Kz ?_|intro _
  (refine Zac ?_)
  exact ⟨_,⟨by rw [decide_eq_false (fun g=>h g.1)],rfl⟩,Zaa⟩
theorem Zl5:CQ Tryz.prog w0 23 [] As (.agg #[.int .i64 1,.slice none 0 0,.slice none 0 0]):=by
 refine Zab Tryz.func23 rfl Tryz.ntmps23 rfl ?_
 repeat' first|refine Kz ?_|intro _
 refine TL.f rfl rfl (ExF.build (l:=[.int .i64 1,.slice none 0 0,.slice none 0 0]) rfl (fun w=>by kernel_rfl)) ?_
 repeat' first|refine Kz ?_|intro _
 exact Kv
theorem Zmi:CallsS Tryz.prog w0 24 [] As fun v Bs=>∃ k,v=.agg #[.int .i64 2,.slice (some ⟨k,0,none⟩) 2 2,.slice none 0 0]∧Bs=.cl k [.int .i64 0,.int .i64 0] 3::As:=by
 refine Zab Tryz.func24 rfl Tryz.ntmps24 rfl ?_
 repeat' first|refine Kz ?_|intro _
 rename_i b0 b1
 refine TL.f rfl rfl (ExF.build (l:=[.int .i64 2,.slice (some ⟨b1,0,none⟩) 2 2,.slice none 0 0]) rfl (fun w=>by kernel_rfl)) ?_
 repeat' first|refine Kz ?_|intro _
 (refine Zac ?_)
 exact ⟨_,⟨_,rfl,rfl⟩,Zaa⟩
theorem Zg0 (ht:Tab w0) (he:ErrR w0) {c m y n:Int}:CallsS Tryz.prog w0 13 [.agg #[.int .i64 c,.int .i64 m,.int .i64 y],.agg #[.int .i64 1,.slice none 0 0,.slice none 0 0,.int .i64 n]] As fun u Bs=>u=.tuple #[(splitA (splitW c m y ⟨1,[],[]⟩ n)).val,.int .i64 (splitE (splitW c m y ⟨1,[],[]⟩ n))]∧Bs=As :=
 @Zb2 w0 As 1 n (.slice none 0 0) (.slice none 0 0) [] [] ht he Ziv Ziv (by decide) (by decide) c m y
theorem Zg1 (ht:Tab w0) (he:ErrR w0) {c m y n:Int} {k:Nat} [hr:RdIn As (.slice (some ⟨k,0,none⟩) 2 2) Int (cI .i64) [0,0]]:CallsS Tryz.prog w0 13 [.agg #[.int .i64 c,.int .i64 m,.int .i64 y],.agg #[.int .i64 2,.slice (some ⟨k,0,none⟩) 2 2,.slice none 0 0,.int .i64 n]] As fun u Bs=>u=.tuple #[(splitA (splitW c m y ⟨2,[0,0],[]⟩ n)).val,.int .i64 (splitE (splitW c m y ⟨2,[0,0],[]⟩ n))]∧Bs=As :=
 @Zb2 w0 As 2 n (.slice (some ⟨k,0,none⟩) 2 2) (.slice none 0 0) [0,0] [] ht he hr Ziv (by decide) (by decide) c m y
set_option maxRecDepth 100000 in
set_option maxHeartbeats 2000000 in
theorem Zje (ht:Tab w0) (he:ErrR w0):CQ Tryz.prog w0 9 [] As (.bool true):=by
 have s1:splitW 5000 6000 7000 ⟨1,[],[]⟩ 10000=.inr ⟨0,1000,2000,5000⟩:=by decide +kernel
 have s2:splitW 9000 9000 9000 ⟨2,[0,0],[]⟩ 20000=.inr ⟨6666,6666,6666,0⟩:=by decide +kernel
 have c1:=fun Bs=>Zk5 (w0:=w0) (As:=Bs) (c:=100) (m:=100) (y:=100) (k:=100) (n:=300)
 simp only [show cutW ⟨100,100,100,100⟩ 300=(⟨66,66,66,100⟩,0) by decide,Ink.val] at c1
 have c2:=fun Bs=>Zk5 (w0:=w0) (As:=Bs) (c:=100) (m:=100) (y:=100) (k:=100) (n:=400)
 simp only [show cutW ⟨100,100,100,100⟩ 400=(⟨100,100,100,100⟩,0) by decide,Ink.val] at c2
 have c3:=fun Bs=>Zk5 (w0:=w0) (As:=Bs) (c:=10) (m:=20) (y:=30) (k:=50) (n:=40)
 simp only [show cutW ⟨10,20,30,50⟩ 40=(⟨0,0,0,40⟩,0) by decide,Ink.val] at c3
 have c4:=fun Bs=>Zk5 (w0:=w0) (As:=Bs) (c:=0) (m:=0) (y:=0) (k:=9) (n:=5)
 simp only [show cutW ⟨0,0,0,9⟩ 5=(⟨0,0,0,5⟩,0) by decide,Ink.val] at c4
 have c5:=fun Bs=>Zg0 (w0:=w0) (As:=Bs) ht he (c:=5000) (m:=6000) (y:=7000) (n:=10000)
 simp only [s1,splitA,splitE,Ink.val] at c5
 have c6:=fun Bs k [RdIn Bs (.slice (some ⟨k,0,none⟩) 2 2) Int (cI .i64) [0,0]]=>Zg1 (w0:=w0) (As:=Bs) (k:=k) ht he (c:=9000) (m:=9000) (y:=9000) (n:=20000)
 simp only [s2,splitA,splitE,Ink.val] at c6
 have c7:=fun Bs=>Zic (w0:=w0) (As:=Bs) (c:=1) (m:=1) (y:=1) (k:=1) (n:=9999)
 simp only [show limitW ⟨1,1,1,1⟩ 9999=(⟨0,0,0,0⟩,390) by decide,Ink.val] at c7
 have c8:=fun Bs=>Zic (w0:=w0) (As:=Bs) (c:=(-1)) (m:=0) (y:=0) (k:=0) (n:=9999)
 simp only [show limitW ⟨(-1),0,0,0⟩ 9999=(⟨0,0,0,0⟩,2) by decide,Ink.val] at c8
 refine Zab Tryz.func9 rfl Tryz.ntmps9 rfl ?_
 repeat' first|refine Kz ?_|intro _
 rename_i b1
 refine Zaj [.cl b1 [.int .i64 100,.int .i64 100,.int .i64 100,.int .i64 100] 41] [] (.take 0 (.take 2 (.all [(1,.all [(3,.take 4 (.take 5 (.all [(6,.take 7 (.take 8 (.take 10 (.all [(9,.all [(11,.take 12 (.take 13 (.all [(14,.take 15 (.take 16 (.take 17 (.take 19 (.all [(18,.all [(20,.take 21 (.take 22 (.all [(23,.take 24 (.take 25 (.take 26 (.take 28 (.all [(27,.all [(29,.take 30 (.take 31 (.all [(32,.take 33 (.take 34 (.take 35 (.take 37 (.all [(36,.all [(38,.take 39 (.all [(40,.take 41 (.take 42 (.all [(43,.take 44 (.take 45 (.take 46 (.take 48 (.all [(47,.all [(49,.take 50 (.all [(51,.take 52 (.take 53 (.all [(54,.take 55 (.take 56 (.take 58 (.all [(57,.all [(59,.take 60 (.take 61 (.all [(62,.take 63 (.take 64 (.take 66 (.all [(65,.all [(67,.take 68 (.take 69 (.all [(70,.take 71 (.take 72 (.done)))])))])]))))])))])]))))])))]))])])))))])))]))])])))))])))])])))))])))])])))))])))])]))))])))])]))) ?_
 repeat' first|refine Kf ?_|intro _|constructor
 refine T1.callv rfl rfl rfl rfl rfl (Zfo) ?_
 rintro _ _ ⟨k,rfl,rfl⟩
 repeat' first|refine Kf ?_|intro _|constructor
 refine Ku rfl (c1 _) ?_
 repeat' first|refine Kf ?_|intro _|constructor
 refine T1.callv (fst:=[]) rfl rfl rfl rfl rfl (Zaz (.cl k [.int .i64 66,.int .i64 66,.int .i64 66,.int .i64 100] 41) Zie) ?_
 rw [decide_eq_true (by decide)]
 rintro _ _ ⟨rfl,rfl⟩
 repeat' first|refine Kf ?_|intro _|constructor
 refine T1.callv rfl rfl rfl rfl rfl (Zfo) ?_
 rintro _ _ ⟨k,rfl,rfl⟩
 repeat' first|refine Kf ?_|intro _|constructor
 refine Ku rfl (c2 _) ?_
 repeat' first|refine Kf ?_|intro _|constructor
 refine T1.callv (fst:=[]) rfl rfl rfl rfl rfl (Zaz (.cl k [.int .i64 100,.int .i64 100,.int .i64 100,.int .i64 100] 41) Zie) ?_
 rw [decide_eq_true (by decide)]
 rintro _ _ ⟨rfl,rfl⟩
 repeat' first|refine Kf ?_|intro _|constructor
 refine T1.callv rfl rfl rfl rfl rfl (Zfo) ?_
 rintro _ _ ⟨k,rfl,rfl⟩
 repeat' first|refine Kf ?_|intro _|constructor
 refine Ku rfl (c3 _) ?_
 repeat' first|refine Kf ?_|intro _|constructor
 refine T1.callv (fst:=[]) rfl rfl rfl rfl rfl (Zaz (.cl k [.int .i64 0,.int .i64 0,.int .i64 0,.int .i64 40] 41) Zie) ?_
 rw [decide_eq_true (by decide)]
 rintro _ _ ⟨rfl,rfl⟩
 repeat' first|refine Kf ?_|intro _|constructor
 refine T1.callv rfl rfl rfl rfl rfl (Zfo) ?_
 rintro _ _ ⟨k,rfl,rfl⟩
 repeat' first|refine Kf ?_|intro _|constructor
 refine Ku rfl (c4 _) ?_
 repeat' first|refine Kf ?_|intro _|constructor
 refine T1.callv (fst:=[]) rfl rfl rfl rfl rfl (Zaz (.cl k [.int .i64 0,.int .i64 0,.int .i64 0,.int .i64 5] 41) Zie) ?_
 rw [decide_eq_true (by decide)]
 rintro _ _ ⟨rfl,rfl⟩
 repeat' first|refine Kf ?_|intro _|constructor
 refine T1.callv rfl rfl rfl rfl rfl (Zfo) ?_
 rintro _ _ ⟨k,rfl,rfl⟩
 repeat' first|refine Kf ?_|intro _|constructor
 refine Ku rfl (Zl5) ?_
 repeat' first|refine Kf ?_|intro _|constructor
 refine Ku rfl (c5 _) ?_
 repeat' first|refine Kf ?_|intro _|constructor
 refine T1.callv (fst:=[]) rfl rfl rfl rfl rfl (Zaz (.cl k [.int .i64 0,.int .i64 1000,.int .i64 2000,.int .i64 5000] 41) Zie) ?_
 rw [decide_eq_true (by decide)]
 rintro _ _ ⟨rfl,rfl⟩
 repeat' first|refine Kf ?_|intro _|constructor
 refine T1.callv rfl rfl rfl rfl rfl (Zfo) ?_
 rintro _ _ ⟨k,rfl,rfl⟩
 repeat' first|refine Kf ?_|intro _|constructor
 refine T1.callv rfl rfl rfl rfl rfl (Zmi) ?_
 rintro _ _ ⟨k',rfl,rfl⟩
 repeat' first|refine Kf ?_|intro _|constructor
 refine Ku rfl (c6 _ _) ?_
 repeat' first|refine Kf ?_|intro _|constructor
 refine T1.callv (fst:=[]) rfl rfl rfl rfl rfl (Zaz (.cl k [.int .i64 6666,.int .i64 6666,.int .i64 6666,.int .i64 0] 41) Zie) ?_
 rw [decide_eq_true (by decide)]
 rintro _ _ ⟨rfl,rfl⟩
 repeat' first|refine Kf ?_|intro _|constructor
 refine T1.callv rfl rfl rfl rfl rfl (Zjt) ?_
 rintro _ _ ⟨k,rfl,rfl⟩
 repeat' first|refine Kf ?_|intro _|constructor
 refine Ku rfl (c7 _) ?_
 repeat' first|refine Kf ?_|intro _|constructor
 refine T1.callv (fst:=[]) rfl rfl rfl rfl rfl (Zaz (.cl k [.int .i64 390] 38) Zmy) ?_
 rw [decide_eq_true (by decide)]
 rintro _ _ ⟨rfl,rfl⟩
 repeat' first|refine Kf ?_|intro _|constructor
 refine T1.callv rfl rfl rfl rfl rfl (Zjt) ?_
 rintro _ _ ⟨k,rfl,rfl⟩
 repeat' first|refine Kf ?_|intro _|constructor
 refine Ku rfl (c8 _) ?_
 repeat' first|refine Kf ?_|intro _|constructor
 refine T1.callv (fst:=[]) rfl rfl rfl rfl rfl (Zaz (.cl k [.int .i64 2] 38) Zmy) ?_
 rw [decide_eq_true (by decide)]
 rintro _ _ ⟨rfl,rfl⟩
 repeat' first|refine Kf ?_|intro _|constructor
 exact Kv
end Go.Proofs.YtoednejlfbfciaaGreatDoor
