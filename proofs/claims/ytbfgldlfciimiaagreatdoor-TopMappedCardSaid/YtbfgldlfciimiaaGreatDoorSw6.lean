/- Walks: shells: the sides, in turn; the draft of a shell. -/
import Derived.Test.YtbfgldlfciimiaaGreatDoorSw5
set_option maxHeartbeats 1000000
namespace Go.Proofs.YtbfgldlfciimiaaGreatDoor
open Go Go.Sx
variable {w0:World} {As:List Ent}
theorem Zz7 {sv dv:Value} {S:List Int} [hs:RdIn As sv Int (cI .i64) S] (_hsv:sv.oneCell'=true) (_hdv:dv.oneCell'=true) (hl:S.length≤1000000000) (h:nodesR S=([],3)) :
  CallsP Tryz.prog w0 18 [.agg #[sv,.int .i64 3,dv]] As fun z Bs=>z=errV 3∧Bs=As:=by
 refine Zec Tryz.func18 rfl Tryz.ntmps18 rfl ?_
 repeat' first|refine Kz ?_|intro _
 refine TL.rb rfl rfl (ExR.makeMap V3.val cNv) ?_
 intro mb
 repeat' first|refine Kz ?_|intro _
 refine TL.call rfl rfl rfl (Zxn hl) ?_
 rw [h]
 rintro _ _ ⟨q,rfl,rfl⟩
 repeat' first|refine Kz ?_|intro _
 refine TL.callP rfl rfl rfl (Z67 (by decide)) ?_
 rintro _ _ ⟨rfl,rfl⟩
 repeat' first|refine Kz ?_|intro _
 exact Zay rfl ⟨_,⟨rfl,rfl⟩,Zaa⟩
theorem Z1s {l:Nat} {L:Loop} {ζ:Type} {Y:Nat→ζ→List Ent} {z0:ζ} (hL:L.params.size=1)
  (hy:∀ p,p < 6→∀ z,YieldS Tryz.prog w0 l L [.agg #[.int .i64 (p / 2:Nat),.int .i64 (p % 2:Nat)]] (.ob l (.loop L)::(Y p z++As)) fun v Bs=>v=.bool true∧∃ z',Bs=.ob l (.loop L)::(Y (p+1) z'++As)) :
  CallsS Tryz.prog w0 89 [.func (.yield l) #[] #[]] (.ob l (.loop L)::(Y 0 z0++As)) fun _ Bs=>∃ z,Bs=.ob l (.loop L)::(Y 6 z++As):=by
 refine Zab Tryz.func89 rfl Tryz.ntmps89 rfl ?_
 repeat' first|refine Kz ?_|intro _
 refine Tri.loop (ι:=Nat × ζ) (fun s=>s.1≤3) (fun s=>3 - s.1) (fun s=>[(0,.func (.yield l) #[] #[]),(4,.int .i64 (s.1:Int))]) (fun s=>.ob l (.loop L)::(Y (2 * s.1) s.2++As)) (0,z0) (by simp only;omega) Zad Zaa ?_
 rintro ⟨i,z⟩ hi
 simp only at hi
 show Tri _ _ _ _ [(0,_),(4,.int .i64 (i:Int))] (.ob l (.loop L)::(Y (2 * i) z++As)) _
 repeat' first|refine Kz ?_|intro _
 (refine Kx (fun hc=>?_) fun hc=>?_)
 ·repeat' first|refine Kz ?_|intro _
  refine Tri.loop (ι:=Nat × ζ) (fun s=>s.1≤2) (fun s=>2 - s.1) (fun s=>[(0,.func (.yield l) #[] #[]),(2,.int .i64 (i:Int)),(4,.int .i64 (i:Int)),(7,.int .i64 (s.1:Int))]) (fun s=>.ob l (.loop L)::(Y (2 * i+s.1) s.2++As)) (0,z) (by simp only;omega) Zad (by simp only [Nat.add_zero];(exact Zaa)) ?_
  rintro ⟨j,z⟩ hj
  simp only at hj
  show Tri _ _ _ _ [(0,_),(2,_),(4,_),(7,.int .i64 (j:Int))] (.ob l (.loop L)::(Y (2 * i+j) z++As)) _
  repeat' first|refine Kz ?_|intro _
  (refine Kx (fun hc=>?_) fun hc=>?_)
  ·have hyk:=hy (2 * i+j) (by omega) z
   rw [show (2 * i+j) / 2=i by omega,show (2 * i+j) % 2=j by omega] at hyk
   repeat' first|refine Kz ?_|intro _
   refine TL.yield rfl rfl rfl rfl hL.symm hyk ?_
   rintro _ _ ⟨rfl,z',rfl⟩
   repeat' first|refine Kz ?_|intro _
   exact Post.round (j+1,z') (by simp only;omega) (by simp only;omega) Zad (by simp only [← Nat.add_assoc];(exact Zaa))
  ·have hj2:j=2:=by omega
   subst hj2
   repeat' first|refine Kz ?_|intro _
   exact Post.round (i+1,z) (by simp only;omega) (by simp only;omega) Zad Zaa
 ·have hi3:i=3:=by omega
  subst hi3
  repeat' first|refine Kz ?_|intro _
  (refine Zac ?_)
  exact ⟨_,⟨z,rfl⟩,Zaa⟩
theorem Zsc {a b c:Nat} (ha:a≤9) (hb:b≤9) (hc:c≤9):∀ p,(sidesP a b c p).length≤128 * p
 | 0=>by simp [sidesP]
 | p + 1=>by
  have ih:=Zsc ha hb hc p
  have hz:∀ x,size3 a b c x - 1≤8:=fun x=>by
   unfold size3;split
   ·omega
   ·split<;>omega
  have:=Nat.mul_le_mul (hz (ax1 (p / 2))) (hz (ax2 (p / 2)))
  rw [Zl8,List.length_append,sideF,Zgr]
  omega
theorem Ybd {l:List (Edg × Bool)} (h1:mGet l (0,1)=some true) (h2:mGet l (1,0)=some true) (h3:mGet l (2,1)=some true) (h4:mGet l (0,0)=none) (h5:mGet l (1,1)=none) (h6:mGet l (2,0)=none) (ax en:Nat) (hax:ax < 3) (hen:en < 2) :
  mGet l ((ax:Int),(en:Int))=if fwdS ax en then some true else none:=by
 have hax':ax=0∨ax=1∨ax=2:=by omega
 have hen':en=0∨en=1:=by omega
 rcases hax' with rfl|rfl|rfl<;>rcases hen' with rfl|rfl<;>assumption
set_option maxRecDepth 100000 in
set_option maxHeartbeats 4000000 in
theorem Z73 {sv dv:Value} {S D:List Int} {a b c:Nat} [hs:RdIn As sv Int (cI .i64) S] [hd:RdIn As dv Int (cI .i64) D] (_hsv:sv.oneCell'=true) (_hdv:dv.oneCell'=true) (hS:S=[(a:Int),(b:Int),(c:Int)]) (hok:gridOk S 3 D=true) (h300:(nodesF a b c).length≤300) :
  CallsS Tryz.prog w0 18 [.agg #[sv,.int .i64 3,dv]] As fun u Bs=>∃ pv fv,u=.agg #[pv,fv]∧pv.oneCell'=true∧fv.oneCell'=true∧Bs=.ow cV3 39 pv (shellP D a b c)::.ow cV3 39 fv (shellF a b c)::As:=by
 obtain ⟨_,_,hrange,⟨hD1,hD2⟩,hDr⟩:=Ycq.1 hok
 have hA:=hrange a (by rw [hS];simp)
 have hB:=hrange b (by rw [hS];simp)
 have hC:=hrange c (by rw [hS];simp)
 have g0:S[0]?=some (a:Int):=by rw [hS];rfl
 have g1:S[1]?=some (b:Int):=by rw [hS];rfl
 have g2:S[2]?=some (c:Int):=by rw [hS];rfl
 have hSl:S.length=3:=by rw [hS];rfl
 have hnr:nodesR S=(nodesF a b c,0):=by rw [hS,Zj4 (by omega),if_neg (by omega)]
 have hnd:(nodesF a b c).Nodup:=Zcj a b c (a * b * c)
 refine Zab Tryz.func18 rfl Tryz.ntmps18 rfl ?_
 repeat' first|refine Kz ?_|intro _
 refine TL.rb rfl rfl (ExR.makeMap V3.val cNv) ?_
 intro mb
 repeat' first|refine Kz ?_|intro _
 refine TL.call rfl rfl rfl (Zxn (xs:=S) (by omega)) ?_
 rw [hnr]
 rintro _ _ ⟨q,rfl,rfl⟩
 repeat' first|refine Kz ?_|intro _
 refine TL.call rfl rfl rfl Z66 ?_
 rintro v0 _ ⟨hv0,rfl⟩
 rw [show v0=q from hv0]
 repeat' first|refine Kz ?_|intro _
 rename_i b1 b2 b3 b4
 have hnode:=fun x hx=>Zil (a:=a) (b:=b) (c:=c) (x:=x) hx
 have hshF:shellF a b c=sidesP a b c 6:=rfl
 have hcorn:=fun {As':List Ent} {ax en u v b8 b9 b10:Nat} (hs':RdIn As' sv Int (cI .i64) S) (hax:ax < 3) (hen:en < 2) (hu:u < size3 a b c (ax1 ax)) (hv:v < size3 a b c (ax2 ax))=>Z4c (w0:=w0) (As:=As') (sv:=sv) (dv:=dv) (S:=S) (b8:=b8) (b1:=b1) (b9:=b9) (b10:=b10) (b4:=b4) (mb:=mb) (hs:=hs') hS hax hen (by omega) (by omega) (by omega) (by omega) (by omega) (by omega) hu hv
 have hP:shellP D a b c=(nodesF a b c).map (pointV D b c):=rfl
 have hside:∀ s,sidesP a b c (s+1)=sidesP a b c s++sideF a b c (s / 2) (s % 2):=fun s=>Zl8
 have hsideF:∀ ax en,sideF a b c ax en=sideP (nodesF a b c) ax (en * (size3 a b c ax - 1)) (fwdS ax en) (size3 a b c (ax2 ax) - 1) ((size3 a b c (ax1 ax) - 1) * (size3 a b c (ax2 ax) - 1)):=fun _ _=>rfl
 generalize hL:nodesF a b c=L at hnr h300 hnd hnode hcorn hP hsideF ⊢
 refine Tri.midB (fun e' As'=>∃ p1 c1,e'=[(1,.pointer (some ⟨b1,0,none⟩)),(2,.pointer (some ⟨b2,0,none⟩)),(3,.pointer (some ⟨b3,0,none⟩)),(4,.pointer (some ⟨b4,0,none⟩))] ∧
   As'=.ow cV3 39 (.slice p1 L.length c1) (L.map (pointV D b c))::.cl b3 [.slice p1 L.length c1,.slice none 0 0] 33::.cl b1 [sv,.int .i64 3,dv] 29::.cl b2 [.slice none 0 0,.slice none 0 0] 33::.cl b4 [.map (some mb)] 105::.ob mb (mapO V3.val cNv (idxL L L.length))::As) ?_ ?_
 ·refine Tri.ents (Za3 (T:=39) cV3) ?_
  refine Tri.loop (ι:=Nat × Option Addr × Nat) (fun s=>s.1≤L.length) (fun s=>L.length - s.1)
   (fun s=>[(1,.pointer (some ⟨b1,0,none⟩)),(2,.pointer (some ⟨b2,0,none⟩)),(3,.pointer (some ⟨b3,0,none⟩)),(4,.pointer (some ⟨b4,0,none⟩)),(24,q),(25,.int .i64 L.length),(26,.int .i64 (s.1:Int))])
   (fun s=>.ow cV3 39 (.slice s.2.1 s.1 s.2.2) ((L.take s.1).map (pointV D b c))::.cl b3 [.slice s.2.1 s.1 s.2.2,.slice none 0 0] 33::.cl b1 [sv,.int .i64 3,dv] 29::.cl b2 [.slice none 0 0,.slice none 0 0] 33::.cl b4 [.map (some mb)] 105::.ob mb (mapO V3.val cNv (idxL L s.1))::.ow cV3 39 q L::As)
   (0,none,0) (Nat.zero_le _) Zad (by show Ents _ (.ow cV3 _ (.slice none 0 0) []::.cl b3 [.slice none 0 0,.slice none 0 0] _::.cl b1 _ _::.cl b2 _ _::.cl b4 _ _::.ob mb (mapO V3.val cNv [])::.ow cV3 _ q L::As);(exact Zaa)) ?_
  rintro ⟨n,p1,c1⟩ hn
  simp only at hn
  show Tri _ _ _ _ [(1,_),(2,_),(3,_),(4,_),(24,_),(25,_),(26,.int .i64 (n:Int))] (.ow cV3 _ (.slice p1 n c1) _::.cl b3 [.slice p1 n c1,_] _::.cl b1 _ _::.cl b2 _ _::.cl b4 _ _::.ob mb (mapO V3.val cNv (idxL L n))::.ow cV3 _ q L::As) _
  have hlen:((L.take n).map (pointV D b c)).length=n:=by simp;omega
  generalize hxs:(L.take n).map (pointV D b c)=xs at hlen ⊢
  repeat' first|refine Kz ?_|intro _
  (refine Kx (fun hc=>?_) fun hc=>?_)
  ·obtain ⟨x,hx⟩:∃ x,L[n]?=some x:=⟨_,List.getElem?_eq_getElem (by omega)⟩
   obtain ⟨hnone,hset⟩:=Z3j hnd hx
   obtain ⟨i,j,k,rfl,hi,hj,hk,_⟩:=hnode x (List.mem_of_getElem? hx)
   repeat' first|refine Kz ?_|intro _
   rename_i b6
   show Tri _ _ _ _ _ (.ob mb (mapO V3.val cNv (mSet (idxL L n) ⟨(i:Int),(j:Int),(k:Int)⟩ n))::.cl b6 [.int .i64 (i:Int),.int .i64 (j:Int),.int .i64 (k:Int)] _::_) _
   rw [hset]
   have hlt:=Zhl hi hj hk
   have hDl:D.length=3 * (a * b * c):=by
    have e:prodI S=((a * b * c:Nat):Int):=by rw [hS];simp [prodI]
    rw [e] at hD2
    omega
   have hN:Node3 S D a b c i j k:=⟨hS,hok,hi,hj,hk⟩
   generalize hpp:(i * b+j) * c+k=pp at hlt
   obtain ⟨y0,hy0⟩:∃ y,D[3 * pp]?=some y:=⟨_,List.getElem?_eq_getElem (by omega)⟩
   obtain ⟨y1,hy1⟩:∃ y,D[3 * pp+1]?=some y:=⟨_,List.getElem?_eq_getElem (by omega)⟩
   obtain ⟨y2,hy2⟩:∃ y,D[3 * pp+2]?=some y:=⟨_,List.getElem?_eq_getElem (by omega)⟩
   have r0:=hDr y0 (List.mem_of_getElem? hy0)
   have r1:=hDr y1 (List.mem_of_getElem? hy1)
   have r2:=hDr y2 (List.mem_of_getElem? hy2)
   have h3:(D.drop (3 * pp)).take 3=[y0,y1,y2]:=by
    rw [List.drop_eq_getElem_cons (by omega),List.drop_eq_getElem_cons (by omega),List.drop_eq_getElem_cons (by omega)]
    obtain ⟨_,q0⟩:=List.getElem?_eq_some_iff.1 hy0
    obtain ⟨_,q1⟩:=List.getElem?_eq_some_iff.1 hy1
    obtain ⟨_,q2⟩:=List.getElem?_eq_some_iff.1 hy2
    simp [q0,q1,q2]
   have hpt:pointV D b c ⟨(i:Int),(j:Int),(k:Int)⟩=colorV y0 y1 y2:=by
    unfold pointV placeN gAt
    simp only [Int.toNat_natCast]
    rw [hpp,hy0,hy1,hy2];rfl
   have hcol:colorR [y0,y1,y2]=(colorV y0 y1 y2,0):=Zph (by omega)
   have hxs1:(L.take (n+1)).map (pointV D b c)=xs++[colorV y0 y1 y2]:=by
    rw [Zqm hx,hxs,hpt]
   refine Z4v (.cl b6 [.int .i64 (i:Int),.int .i64 (j:Int),.int .i64 (k:Int)] 39) ?_
   refine Tri.ents (Zbz (cI .i64) [(i:Int),(j:Int),(k:Int)] rfl (n:=3) (cap:=3) rfl rfl) ?_
   refine Zag (.cl b1 [sv,.int .i64 3,dv] 29::.cl b3 [.slice p1 n c1,.slice none 0 0] 33::As) [] (.take 0 (.take 1 (.take 2 (.take 3 (.all [(4,.take 5 (.take 6 (.all [(7,.all [(8,.take 9 (.take 10 (.all [(11,.all [(12,.all [(13,.take 14 (.all [(15,.done)]))])])])))])])))]))))) ?_
   repeat' first|refine Kf ?_|intro _|constructor
   refine TT.take rfl rfl rfl (Zuc rfl Zmz (Nat.le_refl _) (by decide)) ?_
   repeat' first|refine Kf ?_|intro _|constructor
   refine T1.call rfl rfl rfl rfl (Yes hN) ?_
   rintro _ _ ⟨q2,rfl,rfl⟩
   rw [hpp,h3]
   repeat' first|refine Kf ?_|intro _|constructor
   refine T1.call rfl rfl rfl rfl Z69 ?_
   rintro _ _ ⟨e0,rfl⟩
   obtain rfl:=e0
   repeat' first|refine Kf ?_|intro _|constructor
   refine Kw rfl (Zyn (xs:=[y0,y1,y2]) (by simp)) ?_
   rw [hcol]
   repeat' first|refine Kf ?_|intro _|constructor
   refine T1.call rfl rfl rfl rfl Z65 ?_
   rintro _ _ ⟨e0,rfl⟩
   obtain rfl:=e0
   repeat' first|refine Kf ?_|intro _|constructor
   rename_i v7 v8
   refine Zjs (c:=cV3) (xs:=xs++[colorV y0 y1 y2]) v8 ?_
   rintro p8 c8 hv8
   have el:(xs++[colorV y0 y1 y2]).length=n+1:=by simp [hlen]
   rw [el] at hv8
   subst hv8
   refine Post.round (n+1,p8,c8) (by simp only;omega) (by simp only;omega) Zad ?_
   show Ents _ (.ow cV3 _ (.slice p8 (n+1) c8) ((L.take (n+1)).map (pointV D b c))::.cl b3 [.slice p8 (n+1) c8,.slice none 0 0] _::.cl b1 _ _::.cl b2 _ _::.cl b4 _ _::.ob mb (mapO V3.val cNv (idxL L (n+1)))::.ow cV3 _ q L::As)
   rw [hxs1]
   (exact Zaa)
  ·have hnL:n=L.length:=by omega
   subst hnL
   rw [List.take_length] at hxs
   repeat' first|refine Kz ?_|intro _
   exact Post.cut _ _ ⟨p1,c1,rfl,rfl⟩ Zad (by rw [hxs];(exact Zaa))
 ·rintro _ _ ⟨p1,c1,rfl,rfl⟩
  have hsl:(L.map (pointV D b c)).length=L.length:=List.length_map ..
  rw [← hP]
  rw [← hP] at hsl
  generalize shellP D a b c=P at hsl
  repeat' first|refine Kz ?_|intro _
  refine Tri.mid (fun e' As'=>∃ bm b7 l,(∀ ax en:Nat,ax < 3→en < 2→mGet l ((ax:Int),(en:Int))=if fwdS ax en then some true else none)∧e'=[(1,.pointer (some ⟨b1,0,none⟩)),(2,.pointer (some ⟨b2,0,none⟩)),(3,.pointer (some ⟨b3,0,none⟩)),(4,.pointer (some ⟨b4,0,none⟩)),(7,.pointer (some ⟨b7,0,none⟩))] ∧
   As'=.cl b7 [.map (some bm)] 113::.ob bm (mapO cE cBv l)::.ow cV3 39 (.slice p1 L.length c1) P::.cl b3 [.slice p1 L.length c1,.slice none 0 0] 33::.cl b1 [sv,.int .i64 3,dv] 29::.cl b2 [.slice none 0 0,.slice none 0 0] 33::.cl b4 [.map (some mb)] 105::.ob mb (mapO V3.val cNv (idxL L L.length))::As) ?_ ?_
  ·refine Zag [] [] (.take 1 (.take 3 (.take 5 (.all [(0,.all [(2,.all [(4,.all [(6,.take 7 (.all [(8,.all [(9,.done)])])),(8,.all [(6,.take 7 (.all [(9,.done)]))])]),(6,.all [(4,.take 7 (.all [(8,.all [(9,.done)])])),(8,.all [(4,.take 7 (.all [(9,.done)]))])]),(8,.all [(4,.all [(6,.take 7 (.all [(9,.done)]))]),(6,.all [(4,.take 7 (.all [(9,.done)]))])])]),(4,.all [(2,.all [(6,.take 7 (.all [(8,.all [(9,.done)])])),(8,.all [(6,.take 7 (.all [(9,.done)]))])]),(6,.all [(2,.take 7 (.all [(8,.all [(9,.done)])])),(8,.all [(2,.take 7 (.all [(9,.done)]))])]),(8,.all [(2,.all [(6,.take 7 (.all [(9,.done)]))]),(6,.all [(2,.take 7 (.all [(9,.done)]))])])]),(6,.all [(2,.all [(4,.take 7 (.all [(8,.all [(9,.done)])])),(8,.all [(4,.take 7 (.all [(9,.done)]))])]),(4,.all [(2,.take 7 (.all [(8,.all [(9,.done)])])),(8,.all [(2,.take 7 (.all [(9,.done)]))])]),(8,.all [(2,.all [(4,.take 7 (.all [(9,.done)]))]),(4,.all [(2,.take 7 (.all [(9,.done)]))])])]),(8,.all [(2,.all [(4,.all [(6,.take 7 (.all [(9,.done)]))]),(6,.all [(4,.take 7 (.all [(9,.done)]))])]),(4,.all [(2,.all [(6,.take 7 (.all [(9,.done)]))]),(6,.all [(2,.take 7 (.all [(9,.done)]))])]),(6,.all [(2,.all [(4,.take 7 (.all [(9,.done)]))]),(4,.all [(2,.take 7 (.all [(9,.done)]))])])])]),(8,.all [(0,.all [(2,.all [(4,.all [(6,.take 7 (.all [(9,.done)]))]),(6,.all [(4,.take 7 (.all [(9,.done)]))])]),(4,.all [(2,.all [(6,.take 7 (.all [(9,.done)]))]),(6,.all [(2,.take 7 (.all [(9,.done)]))])]),(6,.all [(2,.all [(4,.take 7 (.all [(9,.done)]))]),(4,.all [(2,.take 7 (.all [(9,.done)]))])])])])])))) ?_
   repeat' (first|(refine T1.rb rfl rfl rfl (ExR.makeMap cE cBv) ?_;intro bm)|(refine T1.u rfl rfl (ExU.insert (ExU.mapUpdate (ck:=cE) (cv:=cBv) rfl rfl rfl)) ?_)|((show TL _ _ _ _ (_::_) _ _ _;first|refine Ze1 ?_|refine Zey ?_|(refine Zcn ?_;intro _)|(refine Zdd ?_;first|rintro _ _ ⟨rfl,rfl⟩|rintro _ _ rfl)|refine Zbp ?_|refine Zbb ?_|refine Ze0 ?_|fail))|(refine Stp.h ?_)|(first|(show TT _ _ _ _ _ _ _ _ _;first|refine Zgh ?_|refine Zex ?_|refine Zc3 ?_|refine Zwc ?_|fail)|exact TTs.nil|refine TTs.cons ?_ ?_|(show T1 _ _ _ _ _ _ _ _ _ _;first|refine Zwd ?_|(refine Znj ?_;intro _)|(refine Zni ?_;first|rintro _ _ ⟨rfl,rfl⟩|rintro _ _ rfl)|refine Zwe ?_|refine Ziq ?_|refine Zgi ?_|fail)|(show TC _ _ _ _ _ _ _ _ _ _;first|refine Znh ?_|refine Zip ?_|fail))|((show Tri _ _ _ (.cond _ _ _) _ _ _;first|refine Zbn ?_|refine Zbo ?_|refine Zat ?_|refine Zau ?_|refine Zap ?_|refine Zaq ?_|fail)))
   all_goals
    rename_i b7
    refine Post.cut _ _ ⟨bm,b7,_,?_,rfl,rfl⟩ Zad (Ents.refl _)
    exact Ybd rfl rfl rfl rfl rfl rfl
  ·rintro _ _ ⟨bm,b7,l,hl,rfl,rfl⟩
   repeat' first|refine Kz ?_|intro _
   refine Kt rfl Z6d ?_
   repeat' first|refine Kz ?_|intro _
   refine Zdr rfl (fun pd As'=>pd=none∧∃ p2 c2,As'=.cl b7 [.map (some bm)] 113::.ob bm (mapO cE cBv l)::.ow cV3 39 (.slice p1 L.length c1) P::.ow cV3 39 (.slice p2 (sidesP a b c 6).length c2) (sidesP a b c 6)::.cl b3 [.slice p1 L.length c1,.slice p2 (sidesP a b c 6).length c2] 33::.cl b1 [sv,.int .i64 3,dv] 29::.cl b2 [.slice none 0 0,.slice none 0 0] 33::.cl b4 [.map (some mb)] 105::.ob mb (mapO V3.val cNv (idxL L L.length))::As) ?_ ?_ ?_
   ·intro L' l' rb hL1 hL2 hL3 hL4 hL5 hok'
    refine CallsS.ents ?_ (CallsS.mono (Z1s (L:=L') (l:=l') (As:=As) (ζ:=Option Addr × Nat) (z0:=(none,0))
     (Y:=fun s z=>[.ob rb (.deferred (some [])),.cl b7 [.map (some bm)] 113,.ob bm (mapO cE cBv l),.ow cV3 39 (.slice p1 L.length c1) P,.ow cV3 39 (.slice z.1 (sidesP a b c s).length z.2) (sidesP a b c s),.cl b3 [.slice p1 L.length c1,.slice z.1 (sidesP a b c s).length z.2] 33,.cl b1 [sv,.int .i64 3,dv] 29,.cl b2 [.slice none 0 0,.slice none 0 0] 33,.cl b4 [.map (some mb)] 105,.ob mb (mapO V3.val cNv (idxL L L.length))])
     (by rw [hL3];rfl) ?_) ?_)
    ·refine Ents.trans (Za3 (T:=39) cV3) ?_
     show Ents _ (.ob l' _::.ob rb _::.cl b7 _ _::.ob bm _::.ow cV3 _ _ P::.ow cV3 _ (.slice none 0 0) []::.cl b3 [_,.slice none 0 0] _::.cl b1 _ _::.cl b2 _ _::.cl b4 _ _::.ob mb _::As)
     (exact Zaa)
    ·rintro p hp ⟨z1,z2⟩
     have hnf:(sidesP a b c p).length≤2000:=Nat.le_trans (Zsc (by omega) (by omega) (by omega) p) (by omega)
     generalize hxs:sidesP a b c p=xs at hnf
     have hside1:=hside p
     rw [hxs] at hside1
     generalize hax:p / 2=ax at hside1
     generalize hen:p % 2=en at hside1
     refine YieldS.of (ps:=[56]) hL3 hL4 hL5 rfl (by decide) hok' ?_
     show Tri _ _ _ _ ((56,_)::_) (.ob l' (.loop L')::.ob rb _::.cl b7 _ _::.ob bm _::.ow cV3 _ _ P::.ow cV3 _ _ xs::.cl b3 _ _::.cl b1 _ _::.cl b2 _ _::.cl b4 _ _::.ob mb _::As) _
     repeat' first|refine Kz ?_|intro _
     refine Post.beginRound hL1 ?_
     have hax3:ax < 3:=by omega
     have hen2:en < 2:=by omega
     have hS3:∀ x,x < 3→S[x]?=some ((size3 a b c x:Nat):Int):=fun x hx=>by
      have:x=0∨x=1∨x=2:=by omega
      rcases this with rfl|rfl|rfl
      ·exact g0
      ·exact g1
      ·exact g2
     have hax1:ax1 ax < 3:=by unfold ax1;split<;>omega
     have hax2:ax2 ax < 3:=by unfold ax2;split<;>omega
     have hs1:=hS3 _ hax1
     have hs2:=hS3 _ hax2
     have hsz:∀ x,2≤size3 a b c x∧size3 a b c x≤9:=fun x=>by
      unfold size3;split
      ·omega
      ·split<;>omega
     have hz1:=hsz (ax1 ax)
     have hz2:=hsz (ax2 ax)
     have hSF:=hsideF ax en
     have hu1:∀ u:Nat,u≤size3 a b c (ax1 ax) - 1→u < size3 a b c (ax1 ax):=fun u h=>by omega
     have hv1:∀ u:Nat,u≤size3 a b c (ax2 ax) - 1→u < size3 a b c (ax2 ax):=fun u h=>by omega
     have hcn:=fun {As':List Ent} {u v b8 b9 b10:Nat} (hs':RdIn As' sv Int (cI .i64) S) (hu:u≤size3 a b c (ax1 ax) - 1) (hv:v≤size3 a b c (ax2 ax) - 1)=>hcorn (b8:=b8) (b9:=b9) (b10:=b10) hs' hax3 hen2 (hu1 u hu) (hv1 v hv)
     generalize hnu:size3 a b c (ax1 ax) - 1=nu at hSF hcn
     generalize hnv:size3 a b c (ax2 ax) - 1=nv at hSF hcn
     generalize hee:en * (size3 a b c ax - 1)=ee at hSF hcn
     have hnu9:nu≤8:=by omega
     have hnv9:nv≤8:=by omega
     have hnv1:1≤nv:=by omega
     have hs1':((size3 a b c (ax1 ax):Nat):Int) - 1=(nu:Int):=by omega
     have hs2':((size3 a b c (ax2 ax):Nat):Int) - 1=(nv:Int):=by omega
     repeat' first|refine Kz ?_|intro _
     refine Kt rfl (Z2s hax3) ?_
     repeat' first|refine Kz ?_|intro _
     rename_i b8 b9 b10
     rw [hnu]
     show Tri _ _ _ _ _ (.cl b10 [.int .i64 (ax2 ax:Int)] _::.cl b9 [.int .i64 (ax1 ax:Int)] _::.ob l' _::.cl b8 _ _::.ob rb _::.cl b7 _ _::.ob bm _::.ow cV3 _ _ P::.ow cV3 _ (.slice z1 xs.length z2) xs::.cl b3 [_,.slice z1 xs.length z2] _::.cl b1 _ _::.cl b2 _ _::.cl b4 _ _::.ob mb _::As) _
     refine Tri.loop (ι:=Nat × Option Addr × Nat) (fun s=>s.1≤nu) (fun s=>nu - s.1) (fun s=>[(1,.pointer (some ⟨b1,0,none⟩)),(3,.pointer (some ⟨b3,0,none⟩)),(4,.pointer (some ⟨b4,0,none⟩)),(7,.pointer (some ⟨b7,0,none⟩)),(8,.pointer (some ⟨b8,0,none⟩)),(9,.pointer (some ⟨b9,0,none⟩)),(10,.pointer (some ⟨b10,0,none⟩)),(11,.func (.func 56) #[] #[.pointer (some ⟨b8,0,none⟩),.pointer (some ⟨b1,0,none⟩),.pointer (some ⟨b9,0,none⟩),.pointer (some ⟨b10,0,none⟩),.pointer (some ⟨b4,0,none⟩)]),(69,.int .i64 (nu:Int)),(70,.int .i64 (s.1:Int))])
      (fun s=>cornerE b8 b1 b9 b10 b4 mb sv dv ax en L (.ow cV3 39 (.slice s.2.1 (xs++sideP L ax ee (fwdS ax en) nv (s.1 * nv)).length s.2.2) (xs++sideP L ax ee (fwdS ax en) nv (s.1 * nv))::.cl b3 [.slice p1 L.length c1,.slice s.2.1 (xs++sideP L ax ee (fwdS ax en) nv (s.1 * nv)).length s.2.2] 33::.ow cV3 39 (.slice p1 L.length c1) P::.cl b7 [.map (some bm)] 113::.ob bm (mapO cE cBv l)::.cl b2 [.slice none 0 0,.slice none 0 0] 33::.ob rb (.deferred (some []))::.ob l' (.loop { L' with state:=.busy })::As)) (0,z1,z2) (Nat.zero_le _) Zad (by simp only [Nat.zero_mul,sideP,List.range_zero,List.flatMap_nil,List.append_nil];(exact Zaa)) ?_
     rintro ⟨u,y1,y2⟩ hu
     simp only at hu
     have hl1:(xs++sideP L ax ee (fwdS ax en) nv (u * nv)).length≤2200:=by
      rw [List.length_append,Zgr]
      have:=Nat.mul_le_mul (show u≤8 by omega) hnv9
      omega
     show Tri _ _ _ _ [(1,_),(3,_),(4,_),(7,_),(8,_),(9,_),(10,_),(11,_),(69,_),(70,.int .i64 (u:Int))] (cornerE b8 b1 b9 b10 b4 mb sv dv ax en L (.ow cV3 _ (.slice y1 _ y2) _::.cl b3 [_,.slice y1 _ y2] _::.ow cV3 _ (.slice p1 L.length c1) P::.cl b7 _ _::.ob bm (mapO cE cBv l)::.cl b2 _ _::.ob rb _::.ob l' _::As)) _
     generalize hX:xs++sideP L ax ee (fwdS ax en) nv (u * nv)=X at hl1 ⊢
     repeat' first|refine Kz ?_|intro _
     (refine Kx (fun hc=>?_) fun hc=>?_)
     ·repeat' first|refine Kz ?_|intro _
      rw [hnv]
      refine Tri.loop (ι:=Nat × Option Addr × Nat) (fun s=>s.1≤nv) (fun s=>nv - s.1) (fun s=>[(1,.pointer (some ⟨b1,0,none⟩)),(3,.pointer (some ⟨b3,0,none⟩)),(4,.pointer (some ⟨b4,0,none⟩)),(7,.pointer (some ⟨b7,0,none⟩)),(8,.pointer (some ⟨b8,0,none⟩)),(9,.pointer (some ⟨b9,0,none⟩)),(10,.pointer (some ⟨b10,0,none⟩)),(11,.func (.func 56) #[] #[.pointer (some ⟨b8,0,none⟩),.pointer (some ⟨b1,0,none⟩),.pointer (some ⟨b9,0,none⟩),.pointer (some ⟨b10,0,none⟩),.pointer (some ⟨b4,0,none⟩)]),(69,.int .i64 (nu:Int)),(12,.int .i64 (u:Int)),(70,.int .i64 (u:Int)),(78,.int .i64 (nv:Int)),(79,.int .i64 (s.1:Int))])
       (fun s=>cornerE b8 b1 b9 b10 b4 mb sv dv ax en L (.ow cV3 39 (.slice s.2.1 (xs++sideP L ax ee (fwdS ax en) nv (u * nv+s.1)).length s.2.2) (xs++sideP L ax ee (fwdS ax en) nv (u * nv+s.1))::.cl b3 [.slice p1 L.length c1,.slice s.2.1 (xs++sideP L ax ee (fwdS ax en) nv (u * nv+s.1)).length s.2.2] 33::.ow cV3 39 (.slice p1 L.length c1) P::.cl b7 [.map (some bm)] 113::.ob bm (mapO cE cBv l)::.cl b2 [.slice none 0 0,.slice none 0 0] 33::.ob rb (.deferred (some []))::.ob l' (.loop { L' with state:=.busy })::As)) (0,y1,y2) (Nat.zero_le _) Zad (by simp only [Nat.add_zero];rw [hX];(exact Zaa)) ?_
      rintro ⟨v,x1,x2⟩ hv
      simp only at hv
      have hl2:(xs++sideP L ax ee (fwdS ax en) nv (u * nv+v)).length≤2200:=by
       rw [List.length_append,Zgr]
       have:=Nat.mul_le_mul (show u≤8 by omega) hnv9
       omega
      show Tri _ _ _ _ [(1,_),(3,_),(4,_),(7,_),(8,_),(9,_),(10,_),(11,_),(69,_),(12,_),(70,.int .i64 (u:Int)),(78,_),(79,.int .i64 (v:Int))] (cornerE b8 b1 b9 b10 b4 mb sv dv ax en L (.ow cV3 _ (.slice x1 _ x2) _::.cl b3 [_,.slice x1 _ x2] _::.ow cV3 _ (.slice p1 L.length c1) P::.cl b7 _ _::.ob bm (mapO cE cBv l)::.cl b2 _ _::.ob rb _::.ob l' _::As)) _
      clear hX hl1
      generalize hY:xs++sideP L ax ee (fwdS ax en) nv (u * nv+v)=Y at hl2 ⊢
      repeat' first|refine Kz ?_|intro _
      (refine Kx (fun hc=>?_) fun hc=>?_)
      ·have hstep:xs++sideP L ax ee (fwdS ax en) nv (u * nv+v+1)=Y++quadAt L ax ee (fwdS ax en) u v:=by
        rw [Zze (by omega),← List.append_assoc,hY]
       repeat' first|refine Kz ?_|intro _
       refine Ks rfl (hcn (u:=u) (v:=v) inferInstance (by omega) (by omega)) ?_
       repeat' first|refine Kz ?_|intro _
       refine Ks rfl (hcn (u:=u+1) (v:=v) inferInstance (by omega) (by omega)) ?_
       repeat' first|refine Kz ?_|intro _
       refine Ks rfl (hcn (u:=u+1) (v:=v+1) inferInstance (by omega) (by omega)) ?_
       repeat' first|refine Kz ?_|intro _
       refine Ks rfl (hcn (u:=u) (v:=v+1) inferInstance (by omega) (by omega)) ?_
       repeat' first|refine Kz ?_|intro _
       rw [hl ax en hax3 hen2]
       cases hfw:fwdS ax en with
       | true =>
        rw [hfw] at hstep
        simp only [if_true]
        show Tri _ _ _ _ ((104,.bool true)::_) _ _
        repeat' first|refine Kz ?_|intro _
        refine TL.ents (Zbz cV3 (quadAt L ax ee true u v) rfl (n:=2) (cap:=2) rfl rfl) ?_
        have hq2:(quadAt L ax ee true u v).length=2:=Zp9
        generalize quadAt L ax ee true u v=Q at hstep hq2 ⊢
        repeat' first|refine Kz ?_|intro _
        rename_i v9
        refine Zjs (c:=cV3) (xs:=Y++Q) v9 ?_
        rintro p9 c9 hv9
        subst hv9
        refine Post.round (v+1,p9,c9) (by simp only;omega) (by simp only;omega) Zad ?_
        simp only [← Nat.add_assoc]
        rw [hstep]
        (exact Zaa)
       | false =>
        rw [hfw] at hstep
        simp only [Bool.false_eq_true,if_false]
        show Tri _ _ _ _ ((104,.bool false)::_) _ _
        repeat' first|refine Kz ?_|intro _
        refine TL.ents (Zbz cV3 (quadAt L ax ee false u v) rfl (n:=2) (cap:=2) rfl rfl) ?_
        have hq2:(quadAt L ax ee false u v).length=2:=Zp9
        generalize quadAt L ax ee false u v=Q at hstep hq2 ⊢
        repeat' first|refine Kz ?_|intro _
        rename_i v9
        refine Zjs (c:=cV3) (xs:=Y++Q) v9 ?_
        rintro p9 c9 hv9
        subst hv9
        refine Post.round (v+1,p9,c9) (by simp only;omega) (by simp only;omega) Zad ?_
        simp only [← Nat.add_assoc]
        rw [hstep]
        (exact Zaa)
      ·have hvn:v=nv:=by omega
       repeat' first|refine Kz ?_|intro _
       refine Post.round (u+1,x1,x2) (by simp only;omega) (by simp only;omega) Zad ?_
       simp only
       rw [show (u+1) * nv=u * nv+v by rw [hvn,Nat.succ_mul],hY]
       (exact Zaa)
     ·have hun:u=nu:=by omega
      subst hun
      repeat' first|refine Kz ?_|intro _
      refine Post.endRound ⟨_,⟨rfl,(y1,y2),rfl⟩,?_⟩
      rw [← hSF] at hX
      rw [show ({ L' with state:=.ready,pending:=none }:Loop)=L' from by cases L';simp only at hL1 hL2;subst hL1 hL2;rfl]
      show Ents _ (.ob l' (.loop L')::.ob rb _::.cl b7 _ _::.ob bm _::.ow cV3 _ _ P::.ow cV3 _ (.slice y1 (sidesP a b c (p+1)).length y2) (sidesP a b c (p+1))::.cl b3 [_,.slice y1 (sidesP a b c (p+1)).length y2] _::.cl b1 _ _::.cl b2 _ _::.cl b4 _ _::.ob mb _::As)
      rw [hside1,hX]
      (exact Zaa)
    ·rintro _ _ ⟨⟨y1,y2⟩,rfl⟩
     refine ⟨.ready,none,_,⟨rfl,y1,y2,rfl⟩,by simp,?_⟩
     rw [show ({ L' with state:=.ready,pending:=none }:Loop)=L' from by cases L';simp only at hL1 hL2;subst hL1 hL2;rfl]
     simp only [List.cons_append,List.nil_append]
     (exact Zaa)
   ·rintro As' ⟨_,p2,c2,rfl⟩
    intro rb
    repeat' first|refine Kz ?_|intro _
    refine Zb0 ?_
    (refine Zac ?_)
    rw [hshF]
    exact ⟨_,⟨_,_,rfl,rfl,rfl,rfl⟩,Zaa⟩
   ·rintro c As' ⟨h,_⟩
    cases h
end Go.Proofs.YtbfgldlfciimiaaGreatDoor
