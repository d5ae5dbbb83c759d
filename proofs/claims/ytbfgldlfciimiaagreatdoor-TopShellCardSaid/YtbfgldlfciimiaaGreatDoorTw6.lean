/- Walks: locate: Locate on a drafted grid. -/
import Derived.Test.YtbfgldlfciimiaaGreatDoorTw5
import Derived.Test.YtbfgldlfciimiaaGreatDoorTp1
import Derived.Test.YtbfgldlfciimiaaGreatDoorSw6
import Derived.Test.YtbfgldlfciimiaaGreatDoorLs6
import Derived.Test.YtbfgldlfciimiaaGreatDoorIx7
import Derived.Test.YtbfgldlfciimiaaGreatDoorSxP
set_option maxHeartbeats 1000000
namespace Go.Sx
open Go
theorem Zu6 {D:List Int} {n:Nat} {x y z:Int} (h0:D[n]?=some x) (h1:D[n+1]?=some y) (h2:D[n+2]?=some z):(D.drop n).take 3=[x,y,z]∧n+3≤D.length:=by
 have hl:n+3≤D.length:=by have:=(List.getElem?_eq_some_iff.1 h2).1;omega
 refine ⟨?_,hl⟩
 rw [List.drop_eq_getElem?_toList_append,List.drop_eq_getElem?_toList_append (l:=D) (i:=n+1),List.drop_eq_getElem?_toList_append (l:=D) (i:=n+1+1),h0,h1,show D[n+1+1]?=some z from h2]
 rfl
theorem Z4h {q:D37} (hq:q.ok) {a b c:Nat} (hz:Sz a b c):NodesAt a b c (gridD q a b c) q.out:=by
 have:=hz.a5;have:=hz.b4;have:=hz.c4
 refine ⟨fun i j k hi hj hk=>?_,fun i j k hi hj hk=>Zgg hq (by omega) (by omega) (by omega)⟩
 obtain ⟨g0,g1,g2⟩:=Zlr (q:=q) hi hj hk
 exact Zu6 g0 g1 g2
theorem Zwe {q:D37} (hq:q.ok) {a b c:Nat} (hz:Sz a b c) {i j k m c':Nat} (hi:i+1 < a) (hj:j+1 < b) (hk:k+1 < c) (hm:m < 6) (hc:c' < 4):in65 (q.out (crn ⟨i,j,k⟩ m c')):=by
 have:=hz.a5;have:=hz.b4;have:=hz.c4
 have key:∀ x y z:Nat,x≤4→y≤4→z≤4→∀ p:V3,p=⟨x,y,z⟩→in65 (q.out p):=fun x y z hx hy hz p hp=>by rw [hp];exact Zgg hq hx hy hz
 have h6:m=0∨m=1∨m=2∨m=3∨m=4∨m=5:=by omega
 have h4:c'=0∨c'=1∨c'=2∨c'=3:=by omega
 rcases h4 with rfl|rfl|rfl|rfl
 ·exact key i j k (by omega) (by omega) (by omega) _ rfl
 ·rcases h6 with rfl|rfl|rfl|rfl|rfl|rfl
  ·exact key (i+1) j k (by omega) (by omega) (by omega) _ rfl
  ·exact key (i+1) j k (by omega) (by omega) (by omega) _ rfl
  ·exact key i (j+1) k (by omega) (by omega) (by omega) _ rfl
  ·exact key i (j+1) k (by omega) (by omega) (by omega) _ rfl
  ·exact key i j (k+1) (by omega) (by omega) (by omega) _ rfl
  ·exact key i j (k+1) (by omega) (by omega) (by omega) _ rfl
 ·rcases h6 with rfl|rfl|rfl|rfl|rfl|rfl
  ·exact key (i+1) (j+1) k (by omega) (by omega) (by omega) _ rfl
  ·exact key (i+1) j (k+1) (by omega) (by omega) (by omega) _ rfl
  ·exact key (i+1) (j+1) k (by omega) (by omega) (by omega) _ rfl
  ·exact key i (j+1) (k+1) (by omega) (by omega) (by omega) _ rfl
  ·exact key (i+1) j (k+1) (by omega) (by omega) (by omega) _ rfl
  ·exact key i (j+1) (k+1) (by omega) (by omega) (by omega) _ rfl
 ·rcases h6 with rfl|rfl|rfl|rfl|rfl|rfl<;>exact key (i+1) (j+1) (k+1) (by omega) (by omega) (by omega) _ rfl
theorem Z02 {i j k m:Nat} {n:V3} {W:Int} (hW:0 < W) (hh:Holds ⟨i,j,k⟩ n m) :
  let y0:=((comp n (ordL m 0) - comp ⟨i,j,k⟩ (ordL m 0)) - (comp n (ordL m 1) - comp ⟨i,j,k⟩ (ordL m 1))) * W
  let y1:=((comp n (ordL m 1) - comp ⟨i,j,k⟩ (ordL m 1)) - (comp n (ordL m 2) - comp ⟨i,j,k⟩ (ordL m 2))) * W
  let y2:=(comp n (ordL m 2) - comp ⟨i,j,k⟩ (ordL m 2)) * W
  (0≤y0∧y0≤W)∧(0≤y1∧y1≤W)∧(0≤y2∧y2≤W) ∧
  comp ⟨i,j,k⟩ (ordL m 2) * W+(0+y2)=comp n (ordL m 2) * W∧comp ⟨i,j,k⟩ (ordL m 1) * W+(0+y2+y1)=comp n (ordL m 1) * W∧comp ⟨i,j,k⟩ (ordL m 0) * W+(0+y2+y1+y0)=comp n (ordL m 0) * W:=by
 unfold Holds at hh
 generalize comp n (ordL m 0)=n0 at *
 generalize comp n (ordL m 1)=n1 at *
 generalize comp n (ordL m 2)=n2 at *
 generalize comp ⟨i,j,k⟩ (ordL m 0)=x0 at *
 generalize comp ⟨i,j,k⟩ (ordL m 1)=x1 at *
 generalize comp ⟨i,j,k⟩ (ordL m 2)=x2 at *
 obtain ⟨h1,h2,h3,h4⟩:=hh
 have key:∀ t:Int,0≤t→t≤1→0≤t * W∧t * W≤W:=fun t h0 h1=>by
  have:t=0∨t=1:=by omega
  rcases this with rfl|rfl<;>omega
 refine ⟨key _ (by omega) (by omega),key _ (by omega) (by omega),key _ (by omega) (by omega),?_,?_,?_⟩<;>grind
end Go.Sx
namespace Go.Proofs.YtbfgldlfciimiaaGreatDoor
open Go Go.Sx
variable {w0:World} {As:List Ent}
theorem Zom {sv dv:Value}:CallsS Tryz.prog w0 25 [.agg #[sv,.int .i64 3,dv]] As fun u Bs=>∃ b,u=.func (.func 63) #[] #[.pointer (some ⟨b,0,none⟩)]∧Bs=.cl b [sv,.int .i64 3,dv] 29::As:=by
 refine Zab Tryz.func25 rfl Tryz.ntmps25 rfl ?_
 repeat' first|refine Kz ?_|intro _
 (refine Zac ?_)
 exact ⟨_,⟨_,rfl,rfl⟩,Zaa⟩
set_option maxRecDepth 100000 in
set_option maxHeartbeats 8000000 in
theorem Z0t (ht:Tab w0) {sv dv tv:Value} {q:D37} (hq:q.ok) {a b c i j k:Nat} (hz:Sz a b c) (hi:i < a) (hj:j < b) (hk:k < c)
  [hs:RdIn As sv Int (cI .i64) [(a:Int),(b:Int),(c:Int)]] [hd:RdIn As dv Int (cI .i64) (gridD q a b c)] [htv:RdIn As tv Int (cI .i64) [(q.out ⟨i,j,k⟩).x,(q.out ⟨i,j,k⟩).y,(q.out ⟨i,j,k⟩).z]] [ho:RdIn As ordsV Unit cOrd [()]] :
  CallsS Tryz.prog w0 8 [.agg #[sv,.int .i64 3,dv],tv] As
   fun u Bs=>∃ lp lc n,u=.tuple #[.slice lp 3 lc,.int .i64 n,.int .i64 0]∧Bs=.ow cFq 47 (.slice lp 3 lc) [fq i ((a - 1:Nat):Int),fq j ((b - 1:Nat):Int),fq k ((c - 1:Nat):Int)]::As:=by
 refine Zar sv fun hsv=>Zar dv fun hdv=>Zae tv fun tp tc et=>?_
 subst et
 rw [show ([(q.out ⟨i,j,k⟩).x,(q.out ⟨i,j,k⟩).y,(q.out ⟨i,j,k⟩).z]:List Int).length=3 from rfl] at htv ⊢
 have hnd:=Z4h hq hz
 have ha2:=hz.a2;have ha5:=hz.a5;have hb2:=hz.b2;have hb4:=hz.b4;have hc2:=hz.c2;have hc4:=hz.c4
 have hgok:=Zpj hq hz
 have hg65:in65 (q.out ⟨i,j,k⟩):=Zgg hq (by omega) (by omega) (by omega)
 obtain ⟨x0,y0,z0,t0,hx0,hy0,hz0,ht0,hH0⟩:=Zxy hz hi hj hk
 refine Zab Tryz.func8 rfl Tryz.ntmps8 rfl ?_
 repeat' first|refine Kz ?_|intro _
 rename_i b2 b3 b4 b5 b6
 refine Ks rfl (Z0x (S:=[(a:Int),(b:Int),(c:Int)]) (D:=gridD q a b c) (g:=q.out ⟨i,j,k⟩) hgok rfl hg65) ?_
 repeat' first|refine Kz ?_|intro _
 refine TL.callv rfl rfl rfl rfl Zom ?_
 rintro _ _ ⟨bt,rfl,rfl⟩
 repeat' first|refine Kz ?_|intro _
 refine Zcw rfl (fun pd As'=>pd=some (.exit 0)∧∃ lp lc n,As'=.cl b2 [sv,.int .i64 3,dv] 29::.cl b3 [.slice tp 3 tc] 27::.cl b4 [.slice lp 3 lc] 40::.cl b5 [.int .i64 n] 3::.cl b6 [.int .i64 0] 34::.ow cFq 47 (.slice lp 3 lc) [fq i ((a - 1:Nat):Int),fq j ((b - 1:Nat):Int),fq k ((c - 1:Nat):Int)]::As) ?_ ?_ ?_
 ·intro L l rb hL1 hL2 hL3 hL4 hL5 hok
  refine CallsS.ents ?_ (CallsS.mono (Z3p (L:=L) (l:=l) (b0:=bt) (sv:=sv) (dv:=dv) (As:=As) (f:=q.out) (D:=gridD q a b c) (a:=a) (b:=b) (c:=c)
   (Y:=[.ob rb (.deferred (some [])),.cl b2 [sv,.int .i64 3,dv] 29,.cl b3 [.slice tp 3 tc] 27,.cl b4 [.slice none 0 0] 40,.cl b5 [.int .i64 0] 3,.cl b6 [.int .i64 4] 34])
   (I:=fun i' j' k' m'=>∀ x y z t:Nat,x+1 < a→y+1 < b→z+1 < c→t < 6→(x < i'∨(x=i'∧(y < j'∨(y=j'∧(z < k'∨(z=k'∧t < m'))))))→¬ Holds ⟨x,y,z⟩ ⟨i,j,k⟩ t)
   (R:=fun Z=>∃ lp lc n,Z=[.ob l (.loop { L with state:=.done,pending:=some (.exit 0) }),.ob rb (.deferred (some [])),.cl b2 [sv,.int .i64 3,dv] 29,.cl b3 [.slice tp 3 tc] 27,.cl b4 [.slice lp 3 lc] 40,.cl b5 [.int .i64 n] 3,.cl b6 [.int .i64 0] 34,.ow cFq 47 (.slice lp 3 lc) [fq i ((a - 1:Nat):Int),fq j ((b - 1:Nat):Int),fq k ((c - 1:Nat):Int)]])
   hnd ha5 hb4 hc4 ha2 hb2 hc2 (by rw [hL3];rfl) (fun x y z t _ _ _ _ h=>by omega)
   (fun i' j' k' h x y z t h1 h2 h3 h4 h5=>h x y z t h1 h2 h3 h4 (by omega)) (fun i' j' h x y z t h1 h2 h3 h4 h5=>h x y z t h1 h2 h3 h4 (by omega)) (fun i' h x y z t h1 h2 h3 h4 h5=>h x y z t h1 h2 h3 h4 (by omega)) ?_) ?_)
  ·simp only [List.cons_append,List.nil_append]
   (exact Zaa)
  ·intro x y z t n hx hy hz' ht6 hn hI b8 cs T F hF
   have hI':¬ Holds ⟨x,y,z⟩ ⟨i,j,k⟩ t→∀ x' y' z' t':Nat,x'+1 < a→y'+1 < b→z'+1 < c→t' < 6→(x' < x∨(x'=x∧(y' < y∨(y'=y∧(z' < z∨(z'=z∧t' < t+1))))))→¬ Holds ⟨x',y',z'⟩ ⟨i,j,k⟩ t':=fun h x' y' z' t' h1 h2 h3 h4 h5=>by
    by_cases e:x'=x∧y'=y∧z'=z∧t'=t
    ·obtain ⟨rfl,rfl,rfl,rfl⟩:=e;exact h
    ·exact hI x' y' z' t' h1 h2 h3 h4 (by omega)
   obtain ⟨W,hW0,hW1,hw1,hw2⟩:=Z6z hq ht6 ⟨x,y,z⟩ ⟨i,j,k⟩
   have c0:=Zwe hq hz hx hy hz' ht6 (c':=0) (by decide)
   have c1:=Zwe hq hz hx hy hz' ht6 (c':=1) (by decide)
   have c2:=Zwe hq hz hx hy hz' ht6 (c':=2) (by decide)
   have c3:=Zwe hq hz hx hy hz' ht6 (c':=3) (by decide)
   refine YieldS.of (ps:=[21,22]) hL3 hL4 hL5 rfl (by decide) hok ?_
   subst hF
   generalize q.out (crn ⟨x,y,z⟩ t 0)=v0 at *
   generalize q.out (crn ⟨x,y,z⟩ t 1)=v1 at *
   generalize q.out (crn ⟨x,y,z⟩ t 2)=v2 at *
   generalize q.out (crn ⟨x,y,z⟩ t 3)=v3 at *
   show Tri _ _ _ _ ((21,.int .i64 (n:Int))::(22,tetV ⟨x,y,z⟩ ⟨ordL t 0,ordL t 1,ordL t 2⟩ v0 v1 v2 v3)::_) (.ob l (.loop L)::.ob rb _::.cl b2 _ _::.cl b3 _ _::.cl b4 _ _::.cl b5 _ _::.cl b6 _ _::.cl b8 cs T::.cl bt _ _::As) _
   repeat' first|refine Kz ?_|intro _
   refine Post.beginRound hL1 ?_
   repeat' first|refine Kz ?_|intro _
   have hwk:=fun Bs (h:RdIn Bs (.slice tp 3 tc) Int (cI .i64) [(q.out ⟨i,j,k⟩).x,(q.out ⟨i,j,k⟩).y,(q.out ⟨i,j,k⟩).z])=>Zw2 (w0:=w0) (As:=Bs) (ix:=⟨x,y,z⟩) (od:=⟨ordL t 0,ordL t 1,ordL t 2⟩) (v0:=v0) (v1:=v1) (v2:=v2) (v3:=v3) (g:=q.out ⟨i,j,k⟩) (tv:=.slice tp 3 tc) c0 c1 c2 c3 hg65
   by_cases H:Holds ⟨x,y,z⟩ ⟨i,j,k⟩ t
   ·rw [hw1 H] at hwk
    clear hI' hI hw1 hw2
    obtain ⟨g0,g1,g2,r2,r1,r0⟩:=Z02 (n:=⟨i,j,k⟩) hW0 H
    generalize ((comp ⟨i,j,k⟩ (ordL t 0) - comp ⟨x,y,z⟩ (ordL t 0)) - (comp ⟨i,j,k⟩ (ordL t 1) - comp ⟨x,y,z⟩ (ordL t 1))) * W=u0 at *
    generalize ((comp ⟨i,j,k⟩ (ordL t 1) - comp ⟨x,y,z⟩ (ordL t 1)) - (comp ⟨i,j,k⟩ (ordL t 2) - comp ⟨x,y,z⟩ (ordL t 2))) * W=u1 at *
    generalize (comp ⟨i,j,k⟩ (ordL t 2) - comp ⟨x,y,z⟩ (ordL t 2)) * W=u2 at *
    refine Ks rfl (hwk _ inferInstance) ?_
    simp only [V3.val]
    repeat' first|refine Kz ?_|intro _
    refine TL.callv rfl rfl rfl rfl (Z0y ht (sv:=sv) (a:=a) (b:=b) (c:=c) (i:=x) (j:=y) (k:=z) (m:=t) (W:=W) (y0:=u0) (y1:=u1) (y2:=u2) (n:=⟨i,j,k⟩) (v0:=v0) (v1:=v1) (v2:=v2) (v3:=v3) ha2 ha5 hb2 hb4 hc2 hc4 (by omega) (by omega) (by omega) ht6 ⟨hW0,hW1⟩ ⟨g0.1,by omega⟩ ⟨g1.1,by omega⟩ ⟨g2.1,by omega⟩ r2 r1 r0) ?_
    rintro _ _ ⟨lv,rfl,rfl⟩
    refine Zji (c:=cFq) (xs:=[fq i ((a - 1:Nat):Int),fq j ((b - 1:Nat):Int),fq k ((c - 1:Nat):Int)]) lv ?_
    rintro lp lc rfl
    rw [show ([fq i ((a - 1:Nat):Int),fq j ((b - 1:Nat):Int),fq k ((c - 1:Nat):Int)]:List (List UInt8 × List UInt8)).length=3 from rfl]
    repeat' first|refine Kz ?_|intro _
    refine Zse ⟨_,.inr ⟨rfl,_,⟨lp,lc,(n:Int),rfl⟩,rfl⟩,?_⟩
    simp only [List.cons_append,List.nil_append]
    show Ents (_::.cl b6 [.int .i64 0] _::.cl b4 [.slice lp 3 lc] _::.ow cFq _ (.slice lp 3 lc) [fq i ((a - 1:Nat):Int),fq j ((b - 1:Nat):Int),fq k ((c - 1:Nat):Int)]::_) _
    (exact Zaa)
   ·have e:=hw2 H
    clear hw1 hw2
    generalize wtW v0 v1 v2 v3 (q.out ⟨i,j,k⟩)=wr at *
    obtain ⟨⟨p0,p1,p2⟩,pw,fl⟩:=wr
    simp only at e
    subst e
    refine Ks rfl (hwk _ inferInstance) ?_
    simp only [V3.val]
    repeat' first|refine Kz ?_|intro _
    refine Post.endRound ⟨_,.inl ⟨rfl,hI' H,rfl⟩,?_⟩
    simp only [List.cons_append,List.nil_append]
    rw [show ({ L with state:=.ready,pending:=none }:Loop)=L from by cases L;simp only at hL1 hL2;subst hL1 hL2;rfl]
    (exact Zaa)
  ·rintro v Bs (⟨hI,rfl⟩|⟨Z,⟨lp,lc,n,rfl⟩,rfl⟩)
   ·exact absurd hH0 (hI x0 y0 z0 t0 (by omega) (by omega) (by omega) ht0 (by omega))
   ·refine ⟨.done,some (.exit 0),_,⟨rfl,lp,lc,n,rfl⟩,by simp,?_⟩
    simp only [List.cons_append,List.nil_append]
    (exact Zaa)
 ·rintro As' ⟨h,_⟩
  cases h
 ·rintro _ As' ⟨h,lp,lc,n,rfl⟩
  cases h
  intro rb
  repeat' first|refine Kz ?_|intro _
  refine Zaf As [(0,.c b4),(1,.c b5)] (.take 0 (.take 1 (.all [(2,.all [(3,.all [(4,.done)])])]))) ?_
  repeat' first|refine Kf ?_|intro _|constructor
  all_goals refine Zbq ?_
  all_goals (refine Zac ?_)
  all_goals exact ⟨_,⟨_,_,_,rfl,rfl⟩,Zaa⟩
end Go.Proofs.YtbfgldlfciimiaaGreatDoor
namespace Go.Sx
open Go
theorem Zxp {a b c:Nat} (hz:Sz a b c):nodesR [(a:Int),(b:Int),(c:Int)]=(nodesF a b c,0):=by
 obtain ⟨l1,l2,_⟩:=hz.len
 obtain ⟨a2,a5,b2,b4,c2,c4⟩:=hz
 show (if (inR 2 9 (a:Int)&&inR 2 9 (b:Int)&&inR 2 9 (c:Int))=true then if 300 < (nodesF (a:Int).toNat (b:Int).toNat (c:Int).toNat).length then (([]:List V3),(3:Int)) else (nodesF (a:Int).toNat (b:Int).toNat (c:Int).toNat,0) else ([],2))=_
 rw [if_pos (by simp only [inR,Bool.and_eq_true,decide_eq_true_eq];omega)]
 simp only [Int.toNat_natCast]
 rw [if_neg (by omega)]
end Go.Sx
namespace Go.Proofs.YtbfgldlfciimiaaGreatDoor
open Go Go.Sx
variable {w0:World} {As:List Ent}
theorem Zo3 {n d:Int} (hn:-9223372036854775807≤n∧n≤9223372036854775807) (hd:-9223372036854775807≤d∧d≤9223372036854775807) (h0:d≠0) {q r:List UInt8} (hq:fq n d=(q,r)) :
  CQ Tryz.prog w0 10 [.int .i64 n,.int .i64 d] As (.agg #[.string ⟨q.toArray⟩,.string ⟨r.toArray⟩]):=by
 have hr:=fun Bs:List Ent=>Z4e (w0:=w0) (As:=Bs) (n:=n) (d:=d) hn hd h0
 obtain ⟨e1,e2⟩:=Prod.mk.inj hq
 rw [e1,e2] at hr
 refine Zab Tryz.func10 rfl Tryz.ntmps10 rfl ?_
 repeat' first|refine Kz ?_|intro _
 refine Ks rfl (hr _) ?_
 repeat' first|refine Kz ?_|intro _
 exact Kv
set_option maxRecDepth 100000 in
set_option maxHeartbeats 8000000 in
theorem Zsy (ht:Tab w0) (d:D37A) (hd:d.ok) {m:Nat} (hm:m < 256) [ho:RdIn As ordsV Unit cOrd [()]]:CallsS Tryz.prog w0 3 [.agg d.cells.toArray,.int .u8 (m:Int)] As fun u _=>u=.bool true:=by
 have hq:=d.dok hd
 have hz:=d.szOk
 have hgr:=fun As:List Ent=>Z09 (w0:=w0) (As:=As) d hd
 have hcells:d.cells=[.int .u8 (d.sz:Int),.int .u8 (d.tu:Int),.int .u16 (d.u0:Int),.int .u16 (d.u1:Int),.int .u16 (d.u2:Int),.int .u8 (d.v0:Int),.int .u8 (d.v1:Int),.int .u8 (d.v2:Int)]:=rfl
 rw [hcells] at hgr ⊢
 generalize d.d=q at hq hgr
 generalize d.a=a at hz hgr
 generalize d.b=b at hz hgr
 generalize d.c=c at hz hgr
 obtain ⟨F,hsh,hg,hF⟩:=Zt2 hq hz
 have hgok:=Zpj hq hz
 have hside:∀ i j k:Nat,i < a→j < b→k < c→onI a b c i j k=true→sideW ((nodesF a b c).map (phi q)) F (phi q ⟨i,j,k⟩)=(1,0):=fun i j k hi hj hk hon=>Z71 hq hz hi hj hk hF hon
 have hPl:((nodesF a b c).map (phi q)).length=(nodesF a b c).length:=List.length_map ..
 have hPk:∀ k x,(nodesF a b c)[k]?=some x→((nodesF a b c).map (phi q))[k]?=some (colV (q.out x)):=fun k x h=>by rw [List.getElem?_map,h];rfl
 obtain ⟨l1,l2,l3⟩:=hz.len
 have hDl:(gridD q a b c).length=3 * (a * b * c):=Zij
 have hsm:a * b * c≤80:=Nat.mul_le_mul (Nat.mul_le_mul hz.a5 hz.b4) hz.c4
 have hnodes:=Zxp hz
 generalize (nodesF a b c).map (phi q)=P at hsh hg hside hPl hPk
 refine Zab Tryz.func3 rfl Tryz.ntmps3 rfl ?_
 repeat' first|refine Kz ?_|intro _
 refine TL.callv rfl rfl rfl rfl (hgr _) ?_
 rintro _ _ ⟨sv,dv,rfl,rfl⟩
 refine Zji (c:=cI .i64) (xs:=gridD q a b c) dv ?_
 rintro dp dc rfl
 refine Zji (c:=cI .i64) (xs:=[(a:Int),(b:Int),(c:Int)]) sv ?_
 rintro sp sc rfl
 rw [show ([(a:Int),(b:Int),(c:Int)]:List Int).length=3 from rfl]
 refine TL.ents Ents.freeze ?_
 repeat' first|refine Kz ?_|intro _
 rename_i b2 b5
 refine TL.call rfl rfl rfl (Z3w ht (S:=[(a:Int),(b:Int),(c:Int)]) (D:=gridD q a b c) (by simp) (by omega)) ?_
 intro _ _ h
 obtain ⟨pv,fv,rfl,o1,o2,rfl⟩:=Zvn hsh h
 refine Zji (c:=cV3) (xs:=P) pv ?_
 rintro pp ppc rfl
 refine Zji (c:=cV3) (xs:=F) fv ?_
 rintro fp fc rfl
 repeat' first|refine Kz ?_|intro _
 rename_i b6
 refine TL.callv rfl rfl rfl rfl (Zo4 (xs:=[(a:Int),(b:Int),(c:Int)]) (by simp)) ?_
 rw [hnodes]
 rintro _ _ ⟨nv,rfl,rfl⟩
 show TL _ _ _ _ _ ((_,.tuple #[nv,.int .i64 0])::_) (.ow cV3 _ nv (nodesF a b c)::_) _
 refine Zji (c:=cV3) (xs:=nodesF a b c) nv ?_
 rintro np nc rfl
 refine TL.ents Ents.freeze ?_
 repeat' first|refine Kz ?_|intro _
 have hz0:=hz
 obtain ⟨a2,a5,bb2,bb4,c2,c4⟩:=hz
 have g0:([(a:Int),(b:Int),(c:Int)]:List Int)[0]?=some (a:Int):=rfl
 have g1:([(a:Int),(b:Int),(c:Int)]:List Int)[1]?=some (b:Int):=rfl
 have g2:([(a:Int),(b:Int),(c:Int)]:List Int)[2]?=some (c:Int):=rfl
 have gl:([(a:Int),(b:Int),(c:Int)]:List Int).length=3:=rfl
 generalize hS:[(a:Int),(b:Int),(c:Int)]=S at g0 g1 g2 gl hsh ⊢
 have mab:(a:Int) * (b:Int)=((a * b:Nat):Int):=by push_cast;rfl
 have mabc:((a * b:Nat):Int) * (c:Int)=((a * b * c:Nat):Int):=by push_cast;rfl
 have mbc:(b:Int) * (c:Int)=((b * c:Nat):Int):=by push_cast;rfl
 have nab:a * b≤20:=Nat.mul_le_mul a5 bb4
 have nbc:b * c≤16:=Nat.mul_le_mul bb4 c4
 have nbc0:4≤b * c:=Nat.mul_le_mul bb2 c2
 have npos:0 < a * b * c:=Nat.mul_pos (Nat.mul_pos (by omega) (by omega)) (by omega)
 refine Zai (.take 0 (.take 1 (.take 2 (.take 3 (.take 4 (.take 5 (.take 6 (.take 7 (.take 8 (.take 9 (.take 10 (.take 11 (.take 12 (.take 13 (.take 14 (.take 15 (.take 16 (.take 17 (.done))))))))))))))))))) ?_
 repeat' first|refine Kf ?_|intro _|constructor
 rw [mab,mabc,Zcb (show IR .i64 ((a * b * c:Nat):Int) from ⟨by omega,by omega⟩)]
 have hcin:=fun n=>Z1z (a:=a) (b:=b) (c:=c) (p:=n)
 have htk:=fun i j k hi hj hk=>Zu6 (Zlr (q:=q) (a:=a) (b:=b) (c:=c) (i:=i) (j:=j) (k:=k) hi hj hk).1 (Zlr hi hj hk).2.1 (Zlr hi hj hk).2.2
 generalize a * b * c=T at *
 repeat' first|refine Kf ?_|intro _|constructor
 obtain ⟨n,hn,hn1⟩:∃ n:Nat,(m:Int) % (T:Int)=(n:Int)∧n < T:=⟨m % T,by push_cast;rfl,Nat.mod_lt _ npos⟩
 obtain ⟨i,j,k,hcell,hi,hj,hk,hp⟩:=hcin n hn1
 have e2:(n:Int) % (c:Int)=(k:Int):=by rw [hp];have:=(Zr0 (i:=i) hj hk).2.2;omega
 have e1:(n:Int) / (c:Int) % (b:Int)=(j:Int):=by have:=(Zr0 (i:=i) hj hk).2.1;rw [← hp] at this;rw [← this];push_cast;rfl
 rw [← Int.tmod_eq_emod_of_nonneg (Int.ediv_nonneg (by omega) (by omega))] at e1
 have e0:(n:Int) / ((b:Int) * (c:Int))=(i:Int):=by
  have:=(Zr0 (i:=i) hj hk).1
  rw [← hp,Nat.div_div_eq_div_mul,Nat.mul_comm c b] at this
  rw [← this];push_cast;rfl
 rw [hn]
 refine Zai (.take 0 (.take 1 (.take 2 (.take 3 (.take 4 (.take 5 (.take 6 (.take 7 (.take 8 (.take 9 (.take 10 (.take 11 (.take 12 (.take 13 (.take 14 (.take 15 (.take 16 (.take 17 (.take 18 (.take 19 (.take 20 (.take 21 (.take 22 (.take 23 (.take 24 (.take 25 (.take 26 (.take 27 (.take 28 (.all [(29,.all [(30,.done)])])))))))))))))))))))))))))))))) ?_
 repeat' first|refine Kf ?_|intro _|constructor
 rename_i b11
 rw [e0,e1,e2]
 obtain ⟨htk1,htk2⟩:=htk i j k hi hj hk
 rw [← hp] at htk1 htk2
 clear hcin htk e0 e1 e2
 have hcol:=Ydk (Zgg hq (i:=i) (j:=j) (k:=k) (by omega) (by omega) (by omega))
 have hsubv:∀ As':List Ent,[RdIn As' (.slice dp (gridD q a b c).length dc) Int (cI .i64) (gridD q a b c)]→RdIn As' (subV 1 (.slice dp (gridD q a b c).length dc) (3 * n) (3 * n+3)) Int (cI .i64) [(q.out ⟨i,j,k⟩).x,(q.out ⟨i,j,k⟩).y,(q.out ⟨i,j,k⟩).z]:=fun As' _=>by
  have h:=RdIn.sub (As:=As') (v:=.slice dp (gridD q a b c).length dc) (c:=cI .i64) (xs:=gridD q a b c) (lo:=3 * n) (hi:=3 * n+3) (Nat.le_add_right _ _) htk2
  rwa [Nat.add_sub_cancel_left,htk1] at h
 have hn3:(3:Int) * (n:Int)=((3 * n:Nat):Int):=by push_cast;rfl
 refine TL.f rfl rfl (Zan (c:=cI .i64) (xs:=gridD q a b c) (lo:=3 * n) (hi:=3 * n+3) rfl (Za3 rfl) (Za6 rfl) (by omega) (by omega)) ?_
 generalize subV 1 (.slice dp (gridD q a b c).length dc) (3 * n) (3 * n+3)=tv at hsubv ⊢
 repeat' first|refine Kz ?_|intro _
 refine TL.callv rfl rfl rfl rfl (Z0t ht (q:=q) (a:=a) (b:=b) (c:=c) (i:=i) (j:=j) (k:=k) (sv:=.slice sp 3 sc) (dv:=.slice dp (gridD q a b c).length dc) (tv:=tv) (hs:=by rw [hS];infer_instance) hq hz0 hi hj hk) ?_
 rintro _ _ ⟨lp,lc,ln,rfl,rfl⟩
 refine TL.ents Ents.freeze ?_
 rcases hf0:fq (i:Int) ((a - 1:Nat):Int) with ⟨q00,q01⟩
 rcases hf1:fq (j:Int) ((b - 1:Nat):Int) with ⟨q10,q11⟩
 rcases hf2:fq (k:Int) ((c - 1:Nat):Int) with ⟨q20,q21⟩
 repeat' first|refine Kz ?_|intro _
 refine TL.callv rfl rfl rfl rfl (Zwg (xs:=[(q.out ⟨i,j,k⟩).x,(q.out ⟨i,j,k⟩).y,(q.out ⟨i,j,k⟩).z]) (by simp)) ?_
 rw [hcol]
 rintro _ _ ⟨rfl,rfl⟩
 have hpx:phi q ⟨i,j,k⟩=colV (q.out ⟨i,j,k⟩):=rfl
 simp only [V3.val]
 repeat' first|refine Kz ?_|intro _
 rename_i b16
 have x0:([(q00,q01),(q10,q11),(q20,q21)]:List (List UInt8 × List UInt8))[0]?=some (q00,q01):=rfl
 have x1:([(q00,q01),(q10,q11),(q20,q21)]:List (List UInt8 × List UInt8))[1]?=some (q10,q11):=rfl
 have x2:([(q00,q01),(q10,q11),(q20,q21)]:List (List UInt8 × List UInt8))[2]?=some (q20,q21):=rfl
 have xl:([(q00,q01),(q10,q11),(q20,q21)]:List (List UInt8 × List UInt8)).length=3:=rfl
 generalize [(q00,q01),(q10,q11),(q20,q21)]=X at *
 generalize hpc:colV (q.out ⟨i,j,k⟩)=pc at *
 refine Tri.loop (ι:=Nat) (fun t=>t=0∨t=1∨t=2∨t=3) (fun t=>3 - t)
  (fun t=>[(4,.bool false),(5,.pointer (some ⟨b5,0,none⟩)),(6,.pointer (some ⟨b6,0,none⟩)),(8,.slice np (nodesF a b c).length nc),(11,.pointer (some ⟨b11,0,none⟩)),(13,.slice lp 3 lc),(16,.pointer (some ⟨b16,0,none⟩)),(131,.int .i64 3),(132,.int .i64 (t:Int))])
  (fun _=>.cl b16 [.int .i64 pc.x,.int .i64 pc.y,.int .i64 pc.z] 39::.cl b11 [.int .i64 (i:Int),.int .i64 (j:Int),.int .i64 (k:Int)] 39::.ft (rd cFq (.slice lp 3 lc) X)::.ft (rd cV3 (.slice np (nodesF a b c).length nc) (nodesF a b c))::.cl b6 [.slice pp P.length ppc,.slice fp F.length fc] 33::.ow cV3 39 (.slice pp P.length ppc) P::.ow cV3 39 (.slice fp F.length fc) F::.cl b5 [.slice sp 3 sc,.int .i64 3,.slice dp (gridD q a b c).length dc] 29::.ow (cI .i64) 3 (.slice sp 3 sc) S::As) 0 (by omega) Zad Zaa ?_
 intro t hT
 rcases hT with rfl|rfl|rfl|rfl
 ·show Tri _ _ _ _ [(4,_),(5,_),(6,_),(8,_),(11,_),(13,_),(16,_),(131,_),(132,.int .i64 0)] _ _
  repeat' first|refine Kz ?_|intro _
  refine Zai (.take 0 (.take 1 (.take 2 (.take 3 (.take 4 (.take 5 (.take 6 (.take 7 (.take 8 (.take 9 (.take 10 (.take 11 (.take 12 (.all [(13,.take 14 (.done))])))))))))))))) ?_
  repeat' first|refine Kf ?_|intro _|constructor
  refine Ku rfl (Zo3 (by omega) (by omega) (by omega) hf0) ?_
  repeat' first|refine Kf ?_|intro _|constructor
  refine TT.take rfl rfl rfl (Zmi rfl rfl) ?_
  rw [show (!decide (q00=q00∧q01=q01))=false by simp]
  repeat' first|refine Kf ?_|intro _|constructor
  exact Post.round 1 (by omega) (by omega) Zad Zaa
 ·show Tri _ _ _ _ [(4,_),(5,_),(6,_),(8,_),(11,_),(13,_),(16,_),(131,_),(132,.int .i64 1)] _ _
  repeat' first|refine Kz ?_|intro _
  refine Zai (.take 0 (.take 1 (.take 2 (.take 3 (.take 4 (.take 5 (.take 6 (.take 7 (.take 8 (.take 9 (.take 10 (.take 11 (.take 12 (.all [(13,.take 14 (.done))])))))))))))))) ?_
  repeat' first|refine Kf ?_|intro _|constructor
  refine Ku rfl (Zo3 (by omega) (by omega) (by omega) hf1) ?_
  repeat' first|refine Kf ?_|intro _|constructor
  refine TT.take rfl rfl rfl (Zmi rfl rfl) ?_
  rw [show (!decide (q10=q10∧q11=q11))=false by simp]
  repeat' first|refine Kf ?_|intro _|constructor
  exact Post.round 2 (by omega) (by omega) Zad Zaa
 ·show Tri _ _ _ _ [(4,_),(5,_),(6,_),(8,_),(11,_),(13,_),(16,_),(131,_),(132,.int .i64 2)] _ _
  repeat' first|refine Kz ?_|intro _
  refine Zai (.take 0 (.take 1 (.take 2 (.take 3 (.take 4 (.take 5 (.take 6 (.take 7 (.take 8 (.take 9 (.take 10 (.take 11 (.take 12 (.all [(13,.take 14 (.done))])))))))))))))) ?_
  repeat' first|refine Kf ?_|intro _|constructor
  refine Ku rfl (Zo3 (by omega) (by omega) (by omega) hf2) ?_
  repeat' first|refine Kf ?_|intro _|constructor
  refine TT.take rfl rfl rfl (Zmi rfl rfl) ?_
  rw [show (!decide (q20=q20∧q21=q21))=false by simp]
  repeat' first|refine Kf ?_|intro _|constructor
  exact Post.round 3 (by omega) (by omega) Zad Zaa
 show Tri _ _ _ _ [(4,_),(5,_),(6,_),(8,_),(11,_),(13,_),(16,_),(131,_),(132,.int .i64 3)] _ _
 repeat' first|refine Kz ?_|intro _
 have hBn:∀ s,s < (nodesF a b c).length→∀ f,(nodesF a b c)[s]?=some f→decide ((⟨i,j,k⟩:V3)∈(nodesF a b c).take (s+1))=(decide ((⟨i,j,k⟩:V3)∈(nodesF a b c).take s)||decide (f=⟨i,j,k⟩)):=fun s hs f hf=>by
  rw [List.take_add_one,hf]
  by_cases h1:(⟨i,j,k⟩:V3)∈(nodesF a b c).take s<;>by_cases h2:f=⟨i,j,k⟩<;>simp [h1,h2,eq_comm]
 obtain ⟨B,hB⟩:∃ B:Nat→Bool,B=fun s=>decide ((⟨i,j,k⟩:V3)∈(nodesF a b c).take s):=⟨_,rfl⟩
 have B0:B 0=false:=by rw [hB];simp
 have Bl:B (nodesF a b c).length=decide ((i=0∨i+1=a)∨(j=0∨j+1=b)∨(k=0∨k+1=c)):=by
  rw [hB]
  simp only [List.take_length,decide_eq_decide]
  rw [← Z0i (a:=a) (b:=b) (c:=c)]
  constructor
  ·intro h
   obtain ⟨i',j',k',e,_,_,_,ho⟩:=Zgh h
   simp only [V3.mk.injEq] at e
   obtain ⟨e1,e2,e3⟩:=e
   rwa [show i=i' by omega,show j=j' by omega,show k=k' by omega]
  ·exact Ze4 hi hj hk
 have Bn:∀ s,s < (nodesF a b c).length→∀ f,(nodesF a b c)[s]?=some f→B (s+1)=(B s||decide (f=⟨i,j,k⟩)):=fun s hs f hf=>by
  rw [hB];exact hBn s hs f hf
 have hsd:∀ s,(nodesF a b c)[s]?=some (⟨i,j,k⟩:V3)→P[s]?=some pc∧sideW P F pc=(1,0):=fun s h=>by
  have h1:=hPk s _ h
  rw [hpc] at h1
  obtain ⟨i',j',k',e,g1,g2,g3,hon⟩:=Zgh (List.mem_of_getElem? h)
  have h2:=hside i' j' k' g1 g2 g3 hon
  rw [← e,hpx] at h2
  exact ⟨h1,h2⟩
 clear hBn hB hside hPk hsh hg hF
 generalize nodesF a b c=NL at *
 refine Tri.loop (ι:=Nat) (fun s=>s≤NL.length) (fun s=>NL.length - s)
  (fun s=>[(4,.bool false),(5,.pointer (some ⟨b5,0,none⟩)),(6,.pointer (some ⟨b6,0,none⟩)),(11,.pointer (some ⟨b11,0,none⟩)),(16,.pointer (some ⟨b16,0,none⟩)),(19,.bool (B s)),(151,.slice np NL.length nc),(152,.int .i64 (NL.length:Int)),(153,.int .i64 (s:Int))])
  (fun _=>.cl b16 [.int .i64 pc.x,.int .i64 pc.y,.int .i64 pc.z] 39::.cl b11 [.int .i64 (i:Int),.int .i64 (j:Int),.int .i64 (k:Int)] 39::.ft (rd cV3 (.slice np NL.length nc) NL)::.cl b6 [.slice pp P.length ppc,.slice fp F.length fc] 33::.ow cV3 39 (.slice pp P.length ppc) P::.ow cV3 39 (.slice fp F.length fc) F::.cl b5 [.slice sp 3 sc,.int .i64 3,.slice dp (gridD q a b c).length dc] 29::.ow (cI .i64) 3 (.slice sp 3 sc) S::As) 0 (by omega) (by rw [B0];(exact Zad)) Zaa ?_
 intro s hs
 repeat' first|refine Kz ?_|intro _
 (refine Kx (fun hc=>?_) fun hc=>?_)
 ·obtain ⟨f,hf⟩:∃ f,NL[s]?=some f:=⟨_,List.getElem?_eq_getElem (by omega)⟩
  have hBs:=Bn s (by omega) f hf
  repeat' first|refine Kz ?_|intro _
  by_cases hfx:f=⟨i,j,k⟩
  ·have hdc:decide ((⟨f.x,f.y,f.z⟩:V3)=⟨i,j,k⟩)=true:=decide_eq_true hfx
   obtain ⟨hP1,hs1⟩:=hsd s (hfx ▸ hf)
   have hB1:B (s+1)=true:=by rw [hBs,decide_eq_true hfx,Bool.or_true]
   rw [hdc]
   repeat' first|refine Kz ?_|intro _
   refine Ks rfl (Z7c ht (pv:=.slice pp P.length ppc) (fv:=.slice fp F.length fc) (pts:=P) (fcs:=F) (p:=pc)) ?_
   rw [hs1]
   show TL _ _ _ _ _ ((_,.tuple #[.int .i64 1,.int .i64 0])::_) _ _
   repeat' first|refine Kz ?_|intro _
   refine Zai (.take 0 (.take 1 (.take 2 (.take 3 (.take 4 (.take 5 (.take 6 (.take 7 (.take 8 (.take 9 (.take 10 (.take 11 (.take 12 (.take 13 (.take 14 (.done)))))))))))))))) ?_
   repeat' first|refine Kf ?_|intro _|constructor
   rw [show (!decide ((⟨pc.x,pc.y,pc.z⟩:V3)=⟨pc.x,pc.y,pc.z⟩))=false by simp]
   repeat' first|refine Kf ?_|intro _|constructor
   exact Post.round (s+1) (by omega) (by omega) (by rw [hB1];(exact Zad)) Zaa
  ·have hdc:decide ((⟨f.x,f.y,f.z⟩:V3)=⟨i,j,k⟩)=false:=decide_eq_false hfx
   have hB1:B (s+1)=B s:=by rw [hBs,decide_eq_false hfx,Bool.or_false]
   rw [hdc]
   repeat' first|refine Kz ?_|intro _
   exact Post.round (s+1) (by omega) (by omega) (by rw [hB1];(exact Zad)) Zaa
 ·have es : s=NL.length:=by omega
  subst es
  obtain ⟨E,hE⟩:∃ E:Nat→Bool,E=fun t=>decide ((1≤t∧(i=0∨i+1=a))∨(2≤t∧(j=0∨j+1=b))∨(3≤t∧(k=0∨k+1=c))):=⟨_,rfl⟩
  have E0:E 0=false:=by rw [hE];exact decide_eq_false (by omega)
  have E1:(¬ (i=0∨i+1=a)→E 1=E 0)∧((i=0∨i+1=a)→E 1=true)∧(E 0=true→E 1=true):=by
   rw [hE];exact ⟨fun h=>by simp only [decide_eq_decide];omega,fun h=>decide_eq_true (by omega),fun h=>decide_eq_true (by have:=of_decide_eq_true h;omega)⟩
  have E2:(¬ (j=0∨j+1=b)→E 2=E 1)∧((j=0∨j+1=b)→E 2=true)∧(E 1=true→E 2=true):=by
   rw [hE];exact ⟨fun h=>by simp only [decide_eq_decide];omega,fun h=>decide_eq_true (by omega),fun h=>decide_eq_true (by have:=of_decide_eq_true h;omega)⟩
  have E3:(¬ (k=0∨k+1=c)→E 3=E 2)∧((k=0∨k+1=c)→E 3=true)∧(E 2=true→E 3=true):=by
   rw [hE];exact ⟨fun h=>by simp only [decide_eq_decide];omega,fun h=>decide_eq_true (by omega),fun h=>decide_eq_true (by have:=of_decide_eq_true h;omega)⟩
  have EB:B NL.length=E 3:=by rw [Bl,hE];simp only [decide_eq_decide];omega
  rw [EB]
  clear hE EB Bl B0 Bn hs
  repeat' first|refine Kz ?_|intro _
  refine Tri.loop (ι:=Nat) (fun t=>t=0∨t=1∨t=2∨t=3) (fun t=>3 - t)
   (fun t=>[(5,.pointer (some ⟨b5,0,none⟩)),(11,.pointer (some ⟨b11,0,none⟩)),(19,.bool (E 3)),(24,.bool (E t)),(183,.int .i64 (t:Int))])
   (fun _=>.cl b16 [.int .i64 pc.x,.int .i64 pc.y,.int .i64 pc.z] 39::.cl b11 [.int .i64 (i:Int),.int .i64 (j:Int),.int .i64 (k:Int)] 39::.cl b5 [.slice sp 3 sc,.int .i64 3,.slice dp (gridD q a b c).length dc] 29::.ow (cI .i64) 3 (.slice sp 3 sc) S::As) 0 (by omega) (by rw [E0];(exact Zad)) Zaa ?_
  intro t hT
  rcases hT with rfl|rfl|rfl|rfl
  ·show Tri _ _ _ _ [(5,_),(11,_),(19,_),(24,.bool (E 0)),(183,.int .i64 0)] _ _
   obtain ⟨En,Ey,Et⟩:=E1
   cases hv:E 0 with
   | true =>
    have Ek:=Et hv
    repeat' first|refine Kz ?_|intro _
    refine Zai (.take 0 (.take 1 (.take 2 (.take 3 (.take 4 (.take 5 (.take 6 (.take 7 (.take 8 (.take 9 (.take 10 (.take 11 (.take 12 (.take 13 (.take 14 (.take 15 (.take 16 (.take 17 (.take 18 (.take 19 (.done))))))))))))))))))))) ?_
    repeat' first|refine Kf ?_|intro _|constructor
    exact Post.round 1 (by omega) (by omega) (by rw [Ek];(exact Zad)) Zaa
   | false =>
    by_cases h0:i=0
    ·have Ek:=Ey (.inl h0)
     subst h0
     repeat' first|refine Kz ?_|intro _
     refine Zai (.take 0 (.take 1 (.take 2 (.take 3 (.take 4 (.take 5 (.take 6 (.take 7 (.take 8 (.take 9 (.take 10 (.take 11 (.take 12 (.take 13 (.take 14 (.take 15 (.take 16 (.take 17 (.take 18 (.take 19 (.done))))))))))))))))))))) ?_
     repeat' first|refine Kf ?_|intro _|constructor
     exact Post.round 1 (by omega) (by omega) (by rw [Ek];(exact Zad)) Zaa
    ·by_cases h1:i+1=a
     ·have Ek:=(Ey (.inr h1)).trans (decide_eq_true (show (i:Int)=((a - 1:Nat):Int) by omega)).symm
      repeat' first|refine Kz ?_|intro _
      refine Zai (.take 0 (.take 1 (.take 2 (.take 3 (.take 4 (.take 5 (.take 6 (.take 7 (.take 8 (.take 9 (.take 10 (.take 11 (.take 12 (.take 13 (.take 14 (.take 15 (.take 16 (.take 17 (.take 18 (.take 19 (.done))))))))))))))))))))) ?_
      repeat' first|refine Kf ?_|intro _|constructor
      exact Post.round 1 (by omega) (by omega) (by rw [Ek];(exact Zad)) Zaa
     ·have Ek:=((En (by omega)).trans hv).trans (decide_eq_false (show ¬ (i:Int)=((a - 1:Nat):Int) by omega)).symm
      repeat' first|refine Kz ?_|intro _
      refine Zai (.take 0 (.take 1 (.take 2 (.take 3 (.take 4 (.take 5 (.take 6 (.take 7 (.take 8 (.take 9 (.take 10 (.take 11 (.take 12 (.take 13 (.take 14 (.take 15 (.take 16 (.take 17 (.take 18 (.take 19 (.done))))))))))))))))))))) ?_
      repeat' first|refine Kf ?_|intro _|constructor
      exact Post.round 1 (by omega) (by omega) (by rw [Ek];(exact Zad)) Zaa
  ·show Tri _ _ _ _ [(5,_),(11,_),(19,_),(24,.bool (E 1)),(183,.int .i64 1)] _ _
   obtain ⟨En,Ey,Et⟩:=E2
   cases hv:E 1 with
   | true =>
    have Ek:=Et hv
    repeat' first|refine Kz ?_|intro _
    refine Zai (.take 0 (.take 1 (.take 2 (.take 3 (.take 4 (.take 5 (.take 6 (.take 7 (.take 8 (.take 9 (.take 10 (.take 11 (.take 12 (.take 13 (.take 14 (.take 15 (.take 16 (.take 17 (.take 18 (.take 19 (.done))))))))))))))))))))) ?_
    repeat' first|refine Kf ?_|intro _|constructor
    exact Post.round 2 (by omega) (by omega) (by rw [Ek];(exact Zad)) Zaa
   | false =>
    by_cases h0:j=0
    ·have Ek:=Ey (.inl h0)
     subst h0
     repeat' first|refine Kz ?_|intro _
     refine Zai (.take 0 (.take 1 (.take 2 (.take 3 (.take 4 (.take 5 (.take 6 (.take 7 (.take 8 (.take 9 (.take 10 (.take 11 (.take 12 (.take 13 (.take 14 (.take 15 (.take 16 (.take 17 (.take 18 (.take 19 (.done))))))))))))))))))))) ?_
     repeat' first|refine Kf ?_|intro _|constructor
     exact Post.round 2 (by omega) (by omega) (by rw [Ek];(exact Zad)) Zaa
    ·by_cases h1:j+1=b
     ·have Ek:=(Ey (.inr h1)).trans (decide_eq_true (show (j:Int)=((b - 1:Nat):Int) by omega)).symm
      repeat' first|refine Kz ?_|intro _
      refine Zai (.take 0 (.take 1 (.take 2 (.take 3 (.take 4 (.take 5 (.take 6 (.take 7 (.take 8 (.take 9 (.take 10 (.take 11 (.take 12 (.take 13 (.take 14 (.take 15 (.take 16 (.take 17 (.take 18 (.take 19 (.done))))))))))))))))))))) ?_
      repeat' first|refine Kf ?_|intro _|constructor
      exact Post.round 2 (by omega) (by omega) (by rw [Ek];(exact Zad)) Zaa
     ·have Ek:=((En (by omega)).trans hv).trans (decide_eq_false (show ¬ (j:Int)=((b - 1:Nat):Int) by omega)).symm
      repeat' first|refine Kz ?_|intro _
      refine Zai (.take 0 (.take 1 (.take 2 (.take 3 (.take 4 (.take 5 (.take 6 (.take 7 (.take 8 (.take 9 (.take 10 (.take 11 (.take 12 (.take 13 (.take 14 (.take 15 (.take 16 (.take 17 (.take 18 (.take 19 (.done))))))))))))))))))))) ?_
      repeat' first|refine Kf ?_|intro _|constructor
      exact Post.round 2 (by omega) (by omega) (by rw [Ek];(exact Zad)) Zaa
  ·show Tri _ _ _ _ [(5,_),(11,_),(19,_),(24,.bool (E 2)),(183,.int .i64 2)] _ _
   obtain ⟨En,Ey,Et⟩:=E3
   cases hv:E 2 with
   | true =>
    have Ek:=Et hv
    repeat' first|refine Kz ?_|intro _
    refine Zai (.take 0 (.take 1 (.take 2 (.take 3 (.take 4 (.take 5 (.take 6 (.take 7 (.take 8 (.take 9 (.take 10 (.take 11 (.take 12 (.take 13 (.take 14 (.take 15 (.take 16 (.take 17 (.take 18 (.take 19 (.done))))))))))))))))))))) ?_
    repeat' first|refine Kf ?_|intro _|constructor
    exact Post.round 3 (by omega) (by omega) (by rw [Ek];(exact Zad)) Zaa
   | false =>
    by_cases h0:k=0
    ·have Ek:=Ey (.inl h0)
     subst h0
     repeat' first|refine Kz ?_|intro _
     refine Zai (.take 0 (.take 1 (.take 2 (.take 3 (.take 4 (.take 5 (.take 6 (.take 7 (.take 8 (.take 9 (.take 10 (.take 11 (.take 12 (.take 13 (.take 14 (.take 15 (.take 16 (.take 17 (.take 18 (.take 19 (.done))))))))))))))))))))) ?_
     repeat' first|refine Kf ?_|intro _|constructor
     exact Post.round 3 (by omega) (by omega) (by rw [Ek];(exact Zad)) Zaa
    ·by_cases h1:k+1=c
     ·have Ek:=(Ey (.inr h1)).trans (decide_eq_true (show (k:Int)=((c - 1:Nat):Int) by omega)).symm
      repeat' first|refine Kz ?_|intro _
      refine Zai (.take 0 (.take 1 (.take 2 (.take 3 (.take 4 (.take 5 (.take 6 (.take 7 (.take 8 (.take 9 (.take 10 (.take 11 (.take 12 (.take 13 (.take 14 (.take 15 (.take 16 (.take 17 (.take 18 (.take 19 (.done))))))))))))))))))))) ?_
      repeat' first|refine Kf ?_|intro _|constructor
      exact Post.round 3 (by omega) (by omega) (by rw [Ek];(exact Zad)) Zaa
     ·have Ek:=((En (by omega)).trans hv).trans (decide_eq_false (show ¬ (k:Int)=((c - 1:Nat):Int) by omega)).symm
      repeat' first|refine Kz ?_|intro _
      refine Zai (.take 0 (.take 1 (.take 2 (.take 3 (.take 4 (.take 5 (.take 6 (.take 7 (.take 8 (.take 9 (.take 10 (.take 11 (.take 12 (.take 13 (.take 14 (.take 15 (.take 16 (.take 17 (.take 18 (.take 19 (.done))))))))))))))))))))) ?_
      repeat' first|refine Kf ?_|intro _|constructor
      exact Post.round 3 (by omega) (by omega) (by rw [Ek];(exact Zad)) Zaa
  ·show Tri _ _ _ _ [(5,_),(11,_),(19,_),(24,.bool (E 3)),(183,.int .i64 3)] _ _
   generalize E 3=ee at *
   repeat' first|refine Kz ?_|intro _
   (refine Zac ?_)
   refine ⟨_,?_,Ents.refl _⟩
   simp
end Go.Proofs.YtbfgldlfciimiaaGreatDoor
