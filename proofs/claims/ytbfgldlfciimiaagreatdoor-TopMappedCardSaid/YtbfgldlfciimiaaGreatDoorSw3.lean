/- Walks: grids. -/
import Derived.Test.YtbfgldlfciimiaaGreatDoorSw1
set_option maxHeartbeats 1000000
namespace Go.Proofs.YtbfgldlfciimiaaGreatDoor
open Go Go.Sx
variable {w0:World} {As:List Ent}
theorem Zdg {n lo hi:Int}:CQ Tryz.prog w0 48 [.int .i64 n,.int .i64 lo,.int .i64 hi] As (.bool (decide (lo≤n∧n≤hi))):=by
 refine Zab Tryz.func48 rfl Tryz.ntmps48 rfl ?_
 repeat' first|refine Kz ?_|intro _
 (first|refine Zbg rfl rfl (fun hgs=>?_) (fun hgs=>?_)|refine Za7 rfl rfl (fun hgs=>?_) (fun hgs=>?_)|refine Zbf rfl rfl rfl (fun hgs=>?_) (fun hgs=>?_)|refine Za6 rfl rfl rfl (fun hgs=>?_) (fun hgs=>?_))
 ·repeat' first|refine Kz ?_|intro _
  (refine Zac ?_)
  exact ⟨_,⟨by rw [Bool.eq_iff_iff.2 (show decide (n≤hi)=true↔decide (lo≤n∧n≤hi)=true by simp only [decide_eq_true_eq];omega)],rfl⟩,Zaa⟩
 ·repeat' first|refine Kz ?_|intro _
  (refine Zac ?_)
  exact ⟨_,⟨by rw [decide_eq_false (show ¬ (lo≤n∧n≤hi) by omega)],rfl⟩,Zaa⟩
theorem Zu8 {v:Value} {S:List Int} [hr:RdIn As v Int (cI .i64) S] (hS:∀ x∈S,2≤x∧x≤9) (hl:S.length≤4):CQ Tryz.prog w0 49 [v] As (.int .i64 (prodI S)):=by
 refine Zab Tryz.func49 rfl Tryz.ntmps49 rfl ?_
 repeat' first|refine Kz ?_|intro _
 refine Tri.loop (ι:=Nat) (fun k=>k≤S.length) (fun k=>S.length - k) (fun k=>[(3,.int .i64 (prodI (S.take k))),(6,v),(7,.int .i64 S.length),(8,.int .i64 (k:Int))]) (fun _=>As) 0 (Nat.zero_le _) Zad Zaa ?_
 intro k hk
 obtain ⟨p1,p2⟩:=Zj1 hS (k:=k) (by omega)
 repeat' first|refine Kz ?_|intro _
 (refine Kx (fun hc=>?_) fun hc=>?_)
 ·obtain ⟨x,hx⟩:∃ x,S[k]?=some x:=⟨_,List.getElem?_eq_getElem (by omega)⟩
  obtain ⟨g1,g2⟩:=hS x (List.mem_of_getElem? hx)
  have e:prodI (S.take (k+1))=prodI (S.take k) * x:=by unfold prodI;rw [Za1 hx]
  obtain ⟨q1,q2⟩:=Zj1 hS (k:=k+1) (by omega)
  rw [e] at q1 q2
  repeat' first|refine Kz ?_|intro _
  refine Post.round (k+1) (by omega) (by omega) ?_ Zaa
  rw [e]
  (exact Zad)
 ·have hk':k=S.length:=by omega
  subst hk'
  rw [List.take_length]
  repeat' first|refine Kz ?_|intro _
  exact Kv
theorem Ycq {S:List Int} {out:Int} {D:List Int}:gridOk S out D=true↔(1≤(S.length:Int)∧(S.length:Int)≤4)∧(1≤out∧out≤4)∧(∀ x∈S,2≤x∧x≤9)∧(D.length≤4096∧(D.length:Int)=prodI S * out)∧∀ x∈D,0≤x∧x≤65535:=by
 unfold gridOk inR
 simp only [Bool.and_eq_true,decide_eq_true_eq,List.all_eq_true,and_assoc]
theorem Zx4 {sv dv:Value} {S D:List Int} {out:Int} [hs:RdIn As sv Int (cI .i64) S] [hd:RdIn As dv Int (cI .i64) D] (hl:S.length≤1000000000) (hm:D.length≤1000000000) :
  CQ Tryz.prog w0 17 [.agg #[sv,.int .i64 out,dv]] As (.int .i64 (if gridOk S out D then 0 else 100)):=by
 refine Zas sv fun hsv=>Zas dv fun hdv=>?_
 refine Zab Tryz.func17 rfl Tryz.ntmps17 rfl ?_
 repeat' first|refine Kz ?_|intro _
 refine Kt rfl Zdg ?_
 repeat' first|refine Kz ?_|intro _
 (first|refine Zbg rfl rfl (fun hgs=>?_) (fun hgs=>?_)|refine Za7 rfl rfl (fun hgs=>?_) (fun hgs=>?_)|refine Zbf rfl rfl rfl (fun hgs=>?_) (fun hgs=>?_)|refine Za6 rfl rfl rfl (fun hgs=>?_) (fun hgs=>?_))
 ·repeat' first|refine Kz ?_|intro _
  (refine Zac ?_)
  exact ⟨_,⟨by rw [if_neg fun h=>hgs (Ycq.1 h).1],rfl⟩,Zaa⟩
 ·repeat' first|refine Kz ?_|intro _
  refine Kt rfl Zdg ?_
  repeat' first|refine Kz ?_|intro _
  (refine Kx (fun hc=>?_) fun hc=>?_)
  ·repeat' first|refine Kz ?_|intro _
   (refine Zac ?_)
   exact ⟨_,⟨by rw [if_neg fun h=>hc (Ycq.1 h).2.1],rfl⟩,Zaa⟩
  ·rename_i b1
   repeat' first|refine Kz ?_|intro _
   refine Tri.loop (ι:=Nat) (fun k=>k≤S.length∧∀ j x,j < k→S[j]?=some x→2≤x∧x≤9) (fun k=>S.length - k) (fun k=>[(1,.pointer (some ⟨b1,0,none⟩)),(19,sv),(20,.int .i64 S.length),(21,.int .i64 (k:Int))])
    (fun _=>.cl b1 [sv,.int .i64 out,dv] 29::As) 0 ⟨Nat.zero_le _,fun j x hj=>by omega⟩ Zad Zaa ?_
   rintro k ⟨hk,hok⟩
   repeat' first|refine Kz ?_|intro _
   (refine Kx (fun hc=>?_) fun hc=>?_)
   ·obtain ⟨x,hx⟩:∃ x,S[k]?=some x:=⟨_,List.getElem?_eq_getElem (by omega)⟩
    repeat' first|refine Kz ?_|intro _
    refine Kt rfl Zdg ?_
    repeat' first|refine Kz ?_|intro _
    (refine Kx (fun hc=>?_) fun hc=>?_)
    ·repeat' first|refine Kz ?_|intro _
     (refine Zac ?_)
     exact ⟨_,⟨by rw [if_neg fun h=>hc ((Ycq.1 h).2.2.1 x (List.mem_of_getElem? hx))],rfl⟩,Zaa⟩
    ·have hx2:=hc
     repeat' first|refine Kz ?_|intro _
     refine Post.round (k+1) ⟨by omega,fun j y hj hy=>?_⟩ (by omega) Zad Zaa
     by_cases e:j=k
     ·subst e;rw [hx] at hy;cases hy;exact hx2
     ·exact hok j y (by omega) hy
   ·have hS : ∀ x∈S,2≤x∧x≤9:=fun x hx=>by
     obtain ⟨j,hj⟩:=List.mem_iff_getElem?.1 hx
     have:=(List.getElem?_eq_some_iff.1 hj).1
     exact hok j x (by omega) hj
    have hprod:=Zj1 hS (k:=S.length) (by omega)
    rw [List.take_length] at hprod
    have hmul:prodI S * out≤26244∧1≤prodI S * out:=⟨Int.mul_le_mul hprod.2 (show out≤4 by omega) (by omega) (by omega),Int.mul_le_mul hprod.1 (show 1≤out by omega) (by omega) (by omega)⟩
    repeat' first|refine Kz ?_|intro _
    by_cases hD:4096 < D.length
    ·refine Zam (.take 0 (.take 1 (.take 2 (.take 3 (.take 4 (.take 5 (.take 6 (.take 7 (.take 8 (.take 9 (.take 11 (.take 12 (.all [(10,.take 13 (.take 14 (.take 15 (.done))))]))))))))))))) ?_
     repeat' first|refine Kf ?_|intro _|constructor
     (refine Zac ?_)
     exact ⟨_,⟨by rw [if_neg fun h=>by have:=(Ycq.1 h).2.2.2.1.1;omega],rfl⟩,Zaa⟩
    ·refine Zam (.take 0 (.take 1 (.take 2 (.take 3 (.take 4 (.take 5 (.take 6 (.take 7 (.take 8 (.take 9 (.take 11 (.take 12 (.all [(10,.take 13 (.take 14 (.take 15 (.done))))]))))))))))))) ?_
     repeat' first|refine Kf ?_|intro _|constructor
     refine Kw rfl (Zu8 hS (by omega)) ?_
     repeat' first|refine Kf ?_|intro _|constructor
     (refine Kx (fun hc=>?_) fun hc=>?_)
     ·repeat' first|refine Kf ?_|intro _|constructor
      (refine Zac ?_)
      exact ⟨_,⟨by rw [if_neg fun h=>by have:=(Ycq.1 h).2.2.2.1.2;omega],rfl⟩,Zaa⟩
     ·have hDl:=hc
      repeat' first|refine Kf ?_|intro _|constructor
      refine Tri.loop (ι:=Nat) (fun k=>k≤D.length∧∀ j x,j < k→D[j]?=some x→0≤x∧x≤65535) (fun k=>D.length - k) (fun k=>[(46,dv),(47,.int .i64 D.length),(48,.int .i64 (k:Int))])
       (fun _=>As) 0 ⟨Nat.zero_le _,fun j x hj=>by omega⟩ Zad Zaa ?_
      rintro k ⟨hk,hok⟩
      repeat' first|refine Kz ?_|intro _
      (refine Kx (fun hc=>?_) fun hc=>?_)
      ·obtain ⟨x,hx⟩:∃ x,D[k]?=some x:=⟨_,List.getElem?_eq_getElem (by omega)⟩
       repeat' first|refine Kz ?_|intro _
       refine Kt rfl Zdg ?_
       repeat' first|refine Kz ?_|intro _
       (refine Kx (fun hc=>?_) fun hc=>?_)
       ·repeat' first|refine Kz ?_|intro _
        (refine Zac ?_)
        exact ⟨_,⟨by rw [if_neg fun h=>hc ((Ycq.1 h).2.2.2.2 x (List.mem_of_getElem? hx))],rfl⟩,Zaa⟩
       ·have hx2:=hc
        repeat' first|refine Kz ?_|intro _
        refine Post.round (k+1) ⟨by omega,fun j y hj hy=>?_⟩ (by omega) Zad Zaa
        by_cases e:j=k
        ·subst e;rw [hx] at hy;cases hy;exact hx2
        ·exact hok j y (by omega) hy
      ·repeat' first|refine Kz ?_|intro _
       (refine Zac ?_)
       refine ⟨_,⟨?_,rfl⟩,Zaa⟩
       rw [if_pos (Ycq.2 ⟨by omega,by omega,hS,⟨by omega,hDl⟩,fun x hx=>?_⟩)]
       obtain ⟨j,hj⟩:=List.mem_iff_getElem?.1 hx
       have:=(List.getElem?_eq_some_iff.1 hj).1
       exact hok j x (by omega) hj
end Go.Proofs.YtbfgldlfciimiaaGreatDoor
namespace Go.Proofs.YtbfgldlfciimiaaGreatDoor
open Go Go.Sx
variable {w0:World} {As:List Ent}
instance (priority:=high) elcI37:ElC Tryz.prog 3 Int (cI .i64) 0 8:=⟨by obtain ⟨i,h1,h2,h3,h4⟩:=(inferInstance:TI Tryz.prog 3 _ _ _).info;exact ⟨i,_,h1,h2,h3,h4,rfl⟩,by decide⟩
structure Node3 (S D:List Int) (a b c i j k:Nat):Prop where
 size:S=[(a:Int),(b:Int),(c:Int)]
 ok:gridOk S 3 D=true
 i:i < a
 j:j < b
 k:k < c
theorem Node3.lim {S D:List Int} {a b c i j k:Nat} (h:Node3 S D a b c i j k):a≤9∧b≤9∧c≤9∧D.length=3 * (a * b * c)∧D.length≤4096:=by
 obtain ⟨h1,h2,_,_,_⟩:=h
 subst h1
 obtain ⟨_,_,h3,⟨h4,h5⟩,_⟩:=Ycq.1 h2
 have ha:=h3 a (by simp)
 have hb:=h3 b (by simp)
 have hc:=h3 c (by simp)
 refine ⟨by omega,by omega,by omega,?_,h4⟩
 have e:prodI [(a:Int),(b:Int),(c:Int)]=((a * b * c:Nat):Int):=by simp [prodI]
 rw [e] at h5
 omega
theorem Z7x {sv dv v:Value} {S D:List Int} {a b c i j k:Nat} [hs:RdIn As sv Int (cI .i64) S] [hd:RdIn As dv Int (cI .i64) D] [hv:RdIn As v Int (cI .i64) [(i:Int),(j:Int),(k:Int)]] (hN:Node3 S D a b c i j k) :
  CQ Tryz.prog w0 87 [.agg #[sv,.int .i64 3,dv],v] As (.tuple #[.agg #[.int .i64 (i:Int),.int .i64 (j:Int),.int .i64 (k:Int),.int .i64 0],.bool true]):=by
 obtain ⟨l1,l2,l3,l4,l5⟩:=hN.lim
 obtain ⟨hS,_,hi,hj,hk⟩:=hN
 have g0:S[0]?=some (a:Int):=by rw [hS];rfl
 have g1:S[1]?=some (b:Int):=by rw [hS];rfl
 have g2:S[2]?=some (c:Int):=by rw [hS];rfl
 have hl3:S.length=3:=by rw [hS];rfl
 generalize hX:[(i:Int),(j:Int),(k:Int)]=X at hv
 have x0:X[0]?=some (i:Int):=by rw [← hX];rfl
 have x1:X[1]?=some (j:Int):=by rw [← hX];rfl
 have x2:X[2]?=some (k:Int):=by rw [← hX];rfl
 have xl:X.length=3:=by rw [← hX];rfl
 refine Zas sv fun hsv=>Zas dv fun hdv=>?_
 refine Zab Tryz.func87 rfl Tryz.ntmps87 rfl ?_
 repeat' first|refine Kz ?_|intro _
 refine Zao 4 ?_
 repeat' first|refine Kz ?_|intro _
 refine Kt rfl Zdg ?_
 repeat' first|refine Kz ?_|intro _
 refine Kt rfl Zdg ?_
 repeat' first|refine Kz ?_|intro _
 refine Kt rfl Zdg ?_
 repeat' first|refine Kz ?_|intro _
 exact Kv
theorem Z2h {sv dv:Value} {S D:List Int} {a b c i j k:Nat} [hs:RdIn As sv Int (cI .i64) S] [hd:RdIn As dv Int (cI .i64) D] (hN:Node3 S D a b c i j k) :
  CQ Tryz.prog w0 132 [.agg #[sv,.int .i64 3,dv],.agg #[.int .i64 (i:Int),.int .i64 (j:Int),.int .i64 (k:Int),.int .i64 0]] As (.int .i64 ((3 * ((i * b+j) * c+k):Nat):Int)):=by
 obtain ⟨l1,l2,l3,l4,l5⟩:=hN.lim
 obtain ⟨hS,_,hi,hj,hk⟩:=hN
 have g0:S[0]?=some (a:Int):=by rw [hS];rfl
 have g1:S[1]?=some (b:Int):=by rw [hS];rfl
 have g2:S[2]?=some (c:Int):=by rw [hS];rfl
 have hl3:S.length=3:=by rw [hS];rfl
 have e1:(0:Int) * (a:Int)+(i:Int)=(i:Int):=by omega
 have e2:(i:Int) * (b:Int)+(j:Int)=((i * b+j:Nat):Int):=by rw [Int.natCast_add,Int.natCast_mul]
 have e3:((i * b+j:Nat):Int) * (c:Int)+(k:Int)=(((i * b+j) * c+k:Nat):Int):=by rw [Int.natCast_add _ k,Int.natCast_mul _ c]
 have b2:i * b+j < 100:=by
  have:=Nat.mul_le_mul (show i≤8 by omega) l2
  omega
 have b3:(i * b+j) * c+k < 1000:=by
  have:=Nat.mul_le_mul (show i * b+j≤99 by omega) l3
  omega
 have m2:(i:Int) * (b:Int)=((i * b:Nat):Int):=(Int.natCast_mul i b).symm
 refine Zas sv fun hsv=>Zas dv fun hdv=>?_
 refine Zab Tryz.func132 rfl Tryz.ntmps132 rfl ?_
 repeat' first|refine Kz ?_|intro _
 refine Zao 4 ?_
 repeat' first|refine Kz ?_|intro _
 (refine Zac ?_)
 have w:∀ n:Nat,n≤100000→IntKind.i64.wrap (n:Int)=(n:Int):=fun n h=>Zbr ⟨by omega,by omega⟩
 refine ⟨_,⟨?_,rfl⟩,Zaa⟩
 congr 1
 rw [e1,m2,w _ (by omega),← Int.natCast_add,w _ (by omega),← Int.natCast_mul,w _ (by omega),← Int.natCast_add,w _ (by omega),show (((i * b+j) * c+k:Nat):Int) * 3=((3 * ((i * b+j) * c+k):Nat):Int) by omega,w _ (by omega)]
theorem Zzc {sv dv:Value} {S D:List Int} {a b c i j k:Nat} [hs:RdIn As sv Int (cI .i64) S] [hd:RdIn As dv Int (cI .i64) D] (hN:Node3 S D a b c i j k) :
  CallsS Tryz.prog w0 88 [.agg #[sv,.int .i64 3,dv],.agg #[.int .i64 (i:Int),.int .i64 (j:Int),.int .i64 (k:Int),.int .i64 0]] As fun u Bs=>Bs=.ow (cI .i64) 3 u ((D.drop (3 * ((i * b+j) * c+k))).take 3)::As:=by
 obtain ⟨l1,l2,l3,l4,l5⟩:=hN.lim
 have hlt:=Zhl hN.i hN.j hN.k
 refine Zas sv fun hsv=>Zas dv fun hdv=>?_
 refine Zab Tryz.func88 rfl Tryz.ntmps88 rfl ?_
 repeat' first|refine Kz ?_|intro _
 refine Kt rfl (Z2h hN) ?_
 generalize hp:(i * b+j) * c+k=p at hlt
 repeat' first|refine Kz ?_|intro _
 refine Zrq rfl rfl (Znr (cd:=cI .i64) (n:=3) rfl rfl (by decide) (by decide) (by decide) (by decide)) ?_
 rintro v6 _ rfl
 repeat' first|refine Kz ?_|intro _
 have hsub:∀ {Bs:List Ent} [RdIn Bs dv Int (cI .i64) D],RdIn Bs (subV 1 dv (3 * p) (3 * p+3)) Int (cI .i64) ((D.drop (3 * p)).take 3):=by
  intro Bs hB
  have:=RdIn.sub (h:=hB) (lo:=3 * p) (hi:=3 * p+3) (by omega) (by omega)
  rwa [show 3 * p+3 - 3 * p=3 by omega] at this
 have hlen3:((D.drop (3 * p)).take 3).length=3:=by rw [List.length_take,List.length_drop];omega
 have hrl:(List.replicate 3 (0:Int)).length=3:=rfl
 refine TL.f rfl rfl (Zds (c:=cI .i64) (xs:=D) (lo:=3 * p) (hi:=3 * p+3) rfl (Zev rfl) (Zfh rfl) (by omega) (by omega)) ?_
 refine Zrq rfl rfl (Zns (c:=cI .i64) (ys:=(D.drop (3 * p)).take 3) rfl rfl rfl (by rw [hlen3,hrl];omega)) ?_
 rintro _ _ ⟨rfl,rfl⟩
 rw [hlen3]
 rw [show (List.replicate 3 (0:Int)).drop 3=[] from rfl,List.append_nil]
 repeat' first|refine Kz ?_|intro _
 (refine Zac ?_)
 exact ⟨_,rfl,Zaa⟩
theorem Yes {sv dv v:Value} {S D:List Int} {a b c i j k:Nat} [hs:RdIn As sv Int (cI .i64) S] [hd:RdIn As dv Int (cI .i64) D] [hv:RdIn As v Int (cI .i64) [(i:Int),(j:Int),(k:Int)]] (hN:Node3 S D a b c i j k) :
  CallsS Tryz.prog w0 53 [.agg #[sv,.int .i64 3,dv],v] As fun u Bs=>∃ q,u=.tuple #[q,.int .i64 0]∧Bs=.ow (cI .i64) 3 q ((D.drop (3 * ((i * b+j) * c+k))).take 3)::As:=by
 obtain ⟨l1,l2,l3,l4,l5⟩:=hN.lim
 have hSl:S.length=3:=by rw [hN.size];rfl
 have hok:=hN.ok
 refine Zas sv fun hsv=>Zas dv fun hdv=>?_
 refine Zab Tryz.func53 rfl Tryz.ntmps53 rfl ?_
 repeat' first|refine Kz ?_|intro _
 refine Kt rfl (Zx4 (S:=S) (D:=D) (by omega) (by omega)) ?_
 rw [if_pos hok]
 repeat' first|refine Kz ?_|intro _
 refine Kt rfl (Z7x hN) ?_
 repeat' first|refine Kz ?_|intro _
 refine TL.call rfl rfl rfl (Zzc hN) ?_
 rintro _ _ rfl
 repeat' first|refine Kz ?_|intro _
 (refine Zac ?_)
 exact ⟨_,⟨_,rfl,rfl⟩,Zaa⟩
end Go.Proofs.YtbfgldlfciimiaaGreatDoor
