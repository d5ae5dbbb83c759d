/- Walks: curves: fractions of integers, clamping, the value of a table. -/
import Derived.Test.YtoednejlfbfciaaGreatDoorKc3
import Derived.Test.YtoednejlfbfciaaGreatDoorKp5
import Derived.Test.YtoednejlfbfciaaGreatDoorCc3
import Derived.Test.YtoednejlfbfciaaGreatDoorMz1
set_option maxHeartbeats 1000000
namespace Go.Sx
open Go
theorem Zre {x y:Int}:Lib.compareInt x y < 0↔x < y:=by unfold Lib.compareInt;split<;>(try split)<;>omega
theorem Zrf {x y:Int}:0 < Lib.compareInt x y↔y < x:=by unfold Lib.compareInt;split<;>(try split)<;>omega
end Go.Sx
namespace Go.Proofs.YtoednejlfbfciaaGreatDoor
open Go Go.Sx
variable {w0:World} {As:List Ent} {kv:Int} {tv sv:Value} {tab:List Int} {ss:List Seg}
theorem Zxn (ht:Tab w0) {n d:Int} (hn:-1000000000000≤n∧n≤1000000000000) (hd:1≤d∧d≤1000000000000):CQ Tryz.prog w0 50 [.int .i64 n,.int .i64 d] As (.tuple #[.agg #[.string ⟨(tN (mkRat n d.toNat)).toArray⟩,.string ⟨(tD (mkRat n d.toNat)).toArray⟩],.int .i64 0]):=by
 have k:=Q.Z2w (w0:=w0) (As:=As) ht (n:=n) (d:=d) (by omega) (by omega)
 have e:Q.ofO n d=(tN (mkRat n d.toNat),tD (mkRat n d.toNat),0):=by
  unfold Q.ofO
  rw [if_neg (by omega)]
  have q:=((Zdk (z:=n) (d:=d.toNat) (k:=13) (by decide) (by omega) (by omega) (by omega)).mono (show 13≤600 by decide)).ot
  rw [show mkRat n d.toNat=mkRat (if d < 0 then -n else n) d.natAbs by rw [if_neg (by omega),show d.natAbs=d.toNat by omega]] at q ⊢
  exact q
 rw [e] at k
 exact k
theorem Zs1 (ht:Tab w0) {n d:Int} (hn:-1000000000000≤n∧n≤1000000000000) (hd:1≤d∧d≤1000000000000):CQ Tryz.prog w0 119 [.int .i64 n,.int .i64 d] As (.agg #[.string ⟨(tN (mkRat n d.toNat)).toArray⟩,.string ⟨(tD (mkRat n d.toNat)).toArray⟩]):=by
 refine Zab Tryz.func119 rfl Tryz.ntmps119 rfl ?_
 repeat' first|refine Kz ?_|intro _
 refine Ks rfl (Zxn ht hn hd) ?_
 repeat' first|refine Kz ?_|intro _
 exact Kv
theorem Za9 (ht:Tab w0) {n:Int} (hn:-1000000000000≤n∧n≤1000000000000):CQ Tryz.prog w0 110 [.int .i64 n] As (.agg #[.string ⟨(tN ((n:Rat))).toArray⟩,.string ⟨(tD ((n:Rat))).toArray⟩]):=by
 refine Zab Tryz.func110 rfl Tryz.ntmps110 rfl ?_
 repeat' first|refine Kz ?_|intro _
 refine TL.callv rfl rfl rfl rfl (Zs1 ht (n:=n) (d:=1) hn (by decide)) ?_
 rw [show ((1:Int).toNat)=1 from rfl,Rat.mkRat_one]
 rintro _ _ ⟨rfl,rfl⟩
 repeat' first|refine Kz ?_|intro _
 exact Kv
theorem Zjw {r s:Rat} (hr:Fit 600 r) (hs:Fit 600 s):CQ Tryz.prog w0 124 [.agg #[.string ⟨(tN (r)).toArray⟩,.string ⟨(tD (r)).toArray⟩],.agg #[.string ⟨(tN (s)).toArray⟩,.string ⟨(tD (s)).toArray⟩]] As (.int .i64 (ordQ r s)):=by
 refine Zab Tryz.func124 rfl Tryz.ntmps124 rfl ?_
 repeat' first|refine Kz ?_|intro _
 refine Ks rfl (Q.Z2f hr hs) ?_
 repeat' first|refine Kz ?_|intro _
 exact Kv
theorem Zri {x l h:Rat} (hx:Fit 600 x) (hl:Fit 600 l) (hh:Fit 600 h):CQ Tryz.prog w0 123 [.agg #[.string ⟨(tN (x)).toArray⟩,.string ⟨(tD (x)).toArray⟩],.agg #[.string ⟨(tN (l)).toArray⟩,.string ⟨(tD (l)).toArray⟩],.agg #[.string ⟨(tN (h)).toArray⟩,.string ⟨(tD (h)).toArray⟩],.func (.func 124) #[] #[]] As (.agg #[.string ⟨(tN (if ordQ x l < 0 then l else if 0 < ordQ x h then h else x)).toArray⟩,.string ⟨(tD (if ordQ x l < 0 then l else if 0 < ordQ x h then h else x)).toArray⟩]):=by
 refine Zab Tryz.func123 rfl Tryz.ntmps123 rfl ?_
 repeat' first|refine Kz ?_|intro _
 refine TL.callv (fst:=[]) (cap:=[]) rfl rfl rfl rfl (Zjw hx hl) ?_
 rintro _ _ ⟨rfl,rfl⟩
 by_cases h1:ordQ x l < 0
 ·rw [if_pos h1]
  repeat' first|refine Kz ?_|intro _
  exact Kv
 ·rw [if_neg h1]
  repeat' first|refine Kz ?_|intro _
  refine TL.callv (fst:=[]) (cap:=[]) rfl rfl rfl rfl (Zjw hx hh) ?_
  rintro _ _ ⟨rfl,rfl⟩
  by_cases h2:0 < ordQ x h
  ·rw [if_pos h2]
   repeat' first|refine Kz ?_|intro _
   exact Kv
  ·rw [if_neg h2]
   repeat' first|refine Kz ?_|intro _
   exact Kv
theorem Zdd (ht:Tab w0) {x:Rat} (hx:Fit 600 x):CQ Tryz.prog w0 77 [.agg #[.string ⟨(tN (x)).toArray⟩,.string ⟨(tD (x)).toArray⟩]] As (.agg #[.string ⟨(tN (clampQ x)).toArray⟩,.string ⟨(tD (clampQ x)).toArray⟩]):=by
 have e:(if ordQ x ((0:Int):Rat) < 0 then ((0:Int):Rat) else if 0 < ordQ x ((1:Int):Rat) then ((1:Int):Rat) else x)=clampQ x:=by
  unfold clampQ
  have e0:(((0:Int):Rat))=0:=rfl
  have e1:(((1:Int):Rat))=1:=rfl
  rw [e0,e1]
  simp only [Zkr,Zks]
 refine Zab Tryz.func77 rfl Tryz.ntmps77 rfl ?_
 show Tri _ _ _ _ (env0 0 [.agg #[.string ⟨(tN (x)).toArray⟩,.string ⟨(tD (x)).toArray⟩]]) _ _
 repeat' first|refine Kz ?_|intro _
 rename_i b1 b2
 refine Zaj [.cl b1 [.string ⟨(tN (x)).toArray⟩,.string ⟨(tD (x)).toArray⟩] 72] [] (.take 0 (.all [(1,.all [(2,.all [(3,.all [(4,.done)])])])])) ?_
 repeat' first|refine Kf ?_|intro _|constructor
 refine Ku rfl (Za9 ht (n:=0) (by decide)) ?_
 repeat' first|refine Kf ?_|intro _|constructor
 refine Ku rfl (Za9 ht (n:=1) (by decide)) ?_
 repeat' first|refine Kf ?_|intro _|constructor
 refine T1.callv rfl rfl rfl rfl rfl (Zri hx ((Zap (z:=0) (k:=1) (by decide) (by decide)).mono (by decide)) ((Zap (z:=1) (k:=1) (by decide) (by decide)).mono (by decide))) ?_
 rw [e]
 rintro _ _ ⟨rfl,rfl⟩
 repeat' first|refine Kf ?_|intro _|constructor
 exact Kv
theorem Zt3 {x l h:Int} (hlh:l≤h):CQ Tryz.prog w0 113 [.int .i64 x,.int .i64 l,.int .i64 h,.func (.func 114) #[] #[]] As (.int .i64 (min (max x l) h)):=by
 have c1:=@Zre x l
 have c2:=@Zrf x h
 refine Zab Tryz.func113 rfl Tryz.ntmps113 rfl ?_
 repeat' first|refine Kz ?_|intro _
 refine TL.callv (fst:=[]) (cap:=[]) rfl rfl rfl rfl (Zd6 (x:=x) (y:=l)) ?_
 rintro _ _ ⟨rfl,rfl⟩
 generalize Lib.compareInt x l=o at *
 by_cases h1:x < l
 ·have:=c1.2 h1
  repeat' first|refine Kz ?_|intro _
  (refine Zac ?_)
  exact ⟨_,⟨by rw [show min (max x l) h=l by omega],rfl⟩,Zaa⟩
 ·have:=fun g=>h1 (c1.1 g)
  repeat' first|refine Kz ?_|intro _
  refine TL.callv (fst:=[]) (cap:=[]) rfl rfl rfl rfl (Zd6 (x:=x) (y:=h)) ?_
  rintro _ _ ⟨rfl,rfl⟩
  generalize Lib.compareInt x h=q at *
  by_cases h2:h < x
  ·have:=c2.2 h2
   repeat' first|refine Kz ?_|intro _
   (refine Zac ?_)
   exact ⟨_,⟨by rw [show min (max x l) h=h by omega],rfl⟩,Zaa⟩
  ·have:=fun g=>h2 (c2.1 g)
   repeat' first|refine Kz ?_|intro _
   (refine Zac ?_)
   exact ⟨_,⟨by rw [show min (max x l) h=x by omega],rfl⟩,Zaa⟩
theorem Znn {z:Int} (h:-9223372036854775808≤z∧z≤9223372036854775807):(textI z).length≤1000000000:=by
 rw [Zfy]
 have:=Zbz (r:=z.natAbs) (k:=19) (by omega) (by omega)
 split<;>omega
theorem Zwu (_ht:Tab w0) {z:Int} (h:-9223372036854775808≤z∧z≤9223372036854775807):CallsS Tryz.prog w0 112 [.string ⟨(textI z).toArray⟩] As fun u Bs=>u=.tuple #[.int .i64 z,.nilIface]∧Bs=As :=
 CallsS.mk fun w hst=>(Tryz.strconv_Atoi_ok ⟨(textI z).toArray⟩ (by have:=Znn h;show (textI z).toArray.size≤_;simp;omega) z (by rw [show (⟨(textI z).toArray⟩:ByteArray).data.toList=textI z from rfl];exact Zt7 h) w).mono fun en w' ⟨h1,h2⟩=>by
  refine ⟨_,As,h1,⟨rfl,rfl⟩,?_⟩
  rcases h2 with rfl|⟨t,rfl⟩
  ·exact hst
  ·exact hst.below (Lib.bytesWorld_below _ _ _)
set_option maxRecDepth 100000 in
set_option maxHeartbeats 2000000 in
theorem Zvk (ht:Tab w0) {x:Rat} {k:Nat} (hx:Fit k x) (hk:k≤100) (x0:0≤x) (x1:x≤1) [RdIn As tv Int (cI .i64) tab] (h2:2≤tab.length∧tab.length≤17) (hv:inW 65535 tab) :
  CQ Tryz.prog w0 75 [.agg #[.int .i64 kv,tv,sv],.agg #[.string ⟨(tN (x)).toArray⟩,.string ⟨(tD (x)).toArray⟩]] As (.tuple #[.agg #[.string ⟨(tN (tabQ tab x)).toArray⟩,.string ⟨(tD (tabQ tab x)).toArray⟩],.int .i64 0]):=by
 refine Zad tv fun p0 c0 e0=>?_
 subst e0
 have hsv:True:=trivial
 obtain ⟨f1,f2,f3,f4⟩:=Zkb hx h2 hv
 have f0:=Zka hx h2
 obtain ⟨i0,i1⟩:=Zgg (x:=x) h2.1
 obtain ⟨g0,g1⟩:=Zhy h2.1 x0 x1
 have gf:0≤(tabP tab x).floor:=Rat.le_floor_iff.2 g0
 have gh:(tabP tab x).floor≤16:=by
  have a:=Rat.floor_le (tabP tab x)
  have b:(((tabP tab x).floor:Int):Rat)≤(((tab.length:Int) - 1:Int):Rat):=Rat.le_trans a g1
  have:=Rat.intCast_le_intCast.1 b
  omega
 have hIdef:min (max (tabP tab x).floor 0) ((tab.length:Int) - 1 - 1)=tabI tab x:=by unfold tabI;rw [show (tab.length:Int) - 1 - 1=(tab.length:Int) - 2 by omega]
 obtain ⟨i,hi⟩:∃ i:Nat,tabI tab x=(i:Int):=⟨(tabI tab x).toNat,by omega⟩
 obtain ⟨u,hu⟩:∃ u,tab[i]?=some u:=⟨_,List.getElem?_eq_getElem (by omega)⟩
 obtain ⟨v,hw⟩:∃ v,tab[i+1]?=some v:=⟨_,List.getElem?_eq_getElem (by omega)⟩
 have hu1:=hv u (List.mem_of_getElem? hu)
 have hv1:=hv v (List.mem_of_getElem? hw)
 have hA:tabA tab x=u:=by unfold tabA;rw [hi,Int.toNat_natCast,hu];rfl
 have hB:tabB tab x=v:=by unfold tabB;rw [hi,Int.toNat_natCast,hw];rfl
 have eq:tabQ tab x=((u:Rat)+((v - u:Int):Rat) * (tabP tab x - ((i:Int):Rat))) * (((65535:Int):Rat))⁻¹:=by unfold tabQ;rw [hA,hB,hi];rfl
 rw [hA,hB,hi] at f2 f3
 rw [hi] at f1 hIdef
 rw [eq] at f4 ⊢
 have hP:tabP tab x=x * ((((tab.length:Int) - 1:Int)):Rat):=rfl
 generalize tabP tab x=P at *
 refine Zab Tryz.func75 rfl Tryz.ntmps75 rfl ?_
 show Tri _ _ _ _ (env0 0 [.agg #[.int .i64 kv,.slice p0 tab.length c0,sv],.agg #[.string ⟨(tN (x)).toArray⟩,.string ⟨(tD (x)).toArray⟩]]) _ _
 repeat' first|refine Kz ?_|intro _
 rename_i b2 b3 b4
 refine Tri.mid (fun e' As'=>∃ b7,e'=[(2,.pointer (some ⟨b2,0,none⟩)),(4,.pointer (some ⟨b4,0,none⟩)),(7,.pointer (some ⟨b7,0,none⟩)),(6,.int .i64 ((tab.length:Int) - 1)),(8,.int .i64 0)]∧As'=.cl b7 [.string ⟨(tN (P)).toArray⟩,.string ⟨(tD (P)).toArray⟩] 72::.cl b4 [.string ⟨#[]⟩,.string ⟨#[]⟩] 72::.cl b2 [.int .i64 kv,.slice p0 tab.length c0,sv] 113::As) ?_ ?_
 ·refine Zaj [.cl b3 [.string ⟨(tN (x)).toArray⟩,.string ⟨(tD (x)).toArray⟩] 72] [] (.take 0 (.take 1 (.all [(2,.all [(3,.take 4 (.take 5 (.take 6 (.all [(7,.all [(8,.take 9 (.done))])])))),(7,.all [(3,.take 4 (.take 5 (.take 6 (.all [(8,.take 9 (.done))]))))])]),(7,.all [(2,.all [(3,.take 4 (.take 5 (.take 6 (.all [(8,.take 9 (.done))]))))])])]))) ?_
  have hcast:((tab.length - 1:Nat):Int)=(tab.length:Int) - 1:=by omega
  repeat' first|refine Kf ?_|intro _|constructor
  all_goals rw [hcast]
  repeat' (first|(refine T1.callv rfl rfl rfl rfl rfl (Za9 ht (n:=(tab.length:Int) - 1) (by omega)) ?_;rintro _ _ ⟨rfl,rfl⟩;(repeat' first|refine Kf ?_|intro _|constructor))|(refine T1.callv rfl rfl rfl rfl rfl (Q.Z18 ht (r:=x) (s:=((((tab.length:Int) - 1:Int)):Rat)) (hx.mono (by omega)) ((Zap (k:=2) (by decide) (by omega)).mono (by decide)) (by rw [← hP];exact f0.mono (by omega))) ?_;rw [← hP];rintro _ _ ⟨rfl,rfl⟩;(repeat' first|refine Kf ?_|intro _|constructor)))
  all_goals exact Post.cut _ _ ⟨_,rfl,rfl⟩ Zae Zaa
 rintro _ _ ⟨b7,rfl,rfl⟩
 repeat' first|refine Kz ?_|intro _
 refine TL.callv rfl rfl rfl rfl (Q.Z0k ht (r:=P) (f0.mono (by omega))) ?_
 rw [← Rat.floor_def]
 rintro _ _ ⟨rfl,rfl⟩
 repeat' first|refine Kz ?_|intro _
 refine Ks rfl (Zwu ht (z:=P.floor) (by omega)) ?_
 repeat' first|refine Kz ?_|intro _
 refine TL.callv rfl rfl rfl rfl (Zt3 (x:=P.floor) (l:=0) (h:=(tab.length:Int) - 1 - 1) (by omega)) ?_
 rw [hIdef]
 rintro _ _ ⟨rfl,rfl⟩
 repeat' first|refine Kz ?_|intro _
 clear gf gh hIdef g0 g1 hP
 refine Tri.mid (fun e' As'=>∃ b12,e'=[(2,.pointer (some ⟨b2,0,none⟩)),(4,.pointer (some ⟨b4,0,none⟩)),(12,.pointer (some ⟨b12,0,none⟩)),(10,.int .i64 (i:Int)),(8,.int .i64 0)]∧As'=.cl b12 [.string ⟨(tN (P - ((i:Int):Rat))).toArray⟩,.string ⟨(tD (P - ((i:Int):Rat))).toArray⟩] 72::.cl b4 [.string ⟨#[]⟩,.string ⟨#[]⟩] 72::.cl b2 [.int .i64 kv,.slice p0 tab.length c0,sv] 113::As) ?_ ?_
 ·refine Zaj [.cl b7 [.string ⟨(tN (P)).toArray⟩,.string ⟨(tD (P)).toArray⟩] 72] [] (.take 0 (.take 1 (.all [(2,.all [(3,.take 4 (.take 5 (.take 6 (.all [(7,.all [(8,.take 9 (.done))])])))),(7,.all [(3,.take 4 (.take 5 (.take 6 (.all [(8,.take 9 (.done))]))))])]),(7,.all [(2,.all [(3,.take 4 (.take 5 (.take 6 (.all [(8,.take 9 (.done))]))))])])]))) ?_
  repeat' first|refine Kf ?_|intro _|constructor
  repeat' (first|(refine T1.callv rfl rfl rfl rfl rfl (Za9 ht (n:=(i:Int)) (by omega)) ?_;rintro _ _ ⟨rfl,rfl⟩;(repeat' first|refine Kf ?_|intro _|constructor))|(refine T1.callv rfl rfl rfl rfl rfl (Q.Z1z ht (r:=P) (s:=((i:Int):Rat)) (f0.mono (by omega)) ((Zap (k:=2) (by decide) (by omega)).mono (by decide)) (f1.mono (by omega))) ?_;rintro _ _ ⟨rfl,rfl⟩;(repeat' first|refine Kf ?_|intro _|constructor)))
  all_goals exact Post.cut _ _ ⟨_,rfl,rfl⟩ Zae Zaa
 rintro _ _ ⟨b12,rfl,rfl⟩
 repeat' first|refine Kz ?_|intro _
 generalize P - ((i:Int):Rat)=R at *
 refine Tri.mid (fun e' As'=>∃ b13,e'=[(2,.pointer (some ⟨b2,0,none⟩)),(4,.pointer (some ⟨b4,0,none⟩)),(13,.pointer (some ⟨b13,0,none⟩)),(10,.int .i64 (i:Int)),(8,.int .i64 0)]∧As'=.cl b13 [.string ⟨(tN (((v - u:Int):Rat) * R)).toArray⟩,.string ⟨(tD (((v - u:Int):Rat) * R)).toArray⟩] 72::.cl b4 [.string ⟨#[]⟩,.string ⟨#[]⟩] 72::.cl b2 [.int .i64 kv,.slice p0 tab.length c0,sv] 113::As) ?_ ?_
 ·refine Zaj (.cl b12 [.string ⟨(tN (R)).toArray⟩,.string ⟨(tD (R)).toArray⟩] 72::.cl b2 [.int .i64 kv,.slice p0 tab.length c0,sv] 113::As) [] (.take 0 (.take 1 (.take 2 (.take 3 (.take 4 (.take 5 (.take 6 (.take 7 (.take 8 (.take 9 (.take 10 (.take 11 (.take 12 (.take 13 (.take 15 (.all [(14,.all [(16,.take 17 (.take 18 (.take 19 (.all [(20,.all [(21,.take 22 (.done))])])))),(20,.all [(16,.take 17 (.take 18 (.take 19 (.all [(21,.take 22 (.done))]))))])]),(20,.all [(14,.all [(16,.take 17 (.take 18 (.take 19 (.all [(21,.take 22 (.done))]))))])])])))))))))))))))) ?_
  repeat' first|refine Kf ?_|intro _|constructor
  rw [show ((i:Int)+1)=((i+1:Nat):Int) by omega]
  repeat' first|refine Kf ?_|intro _|constructor
  repeat' (first|(refine T1.callv rfl rfl rfl rfl rfl (Za9 ht (n:=v - u) (by omega)) ?_;rintro _ _ ⟨rfl,rfl⟩;(repeat' first|refine Kf ?_|intro _|constructor))|(refine T1.callv rfl rfl rfl rfl rfl (Q.Z18 ht (r:=((v - u:Int):Rat)) (s:=R) ((Zap (k:=5) (by decide) (by omega)).mono (by decide)) (f1.mono (by omega)) (f2.mono (by omega))) ?_;rintro _ _ ⟨rfl,rfl⟩;(repeat' first|refine Kf ?_|intro _|constructor)))
  all_goals exact Post.cut _ _ ⟨_,rfl,rfl⟩ Zae Zaa
 rintro _ _ ⟨b13,rfl,rfl⟩
 repeat' first|refine Kz ?_|intro _
 refine Tri.mid (fun e' As'=>∃ b14,e'=[(4,.pointer (some ⟨b4,0,none⟩)),(14,.pointer (some ⟨b14,0,none⟩)),(8,.int .i64 0)]∧As'=.cl b14 [.string ⟨(tN ((u:Rat)+((v - u:Int):Rat) * R)).toArray⟩,.string ⟨(tD ((u:Rat)+((v - u:Int):Rat) * R)).toArray⟩] 72::.cl b4 [.string ⟨#[]⟩,.string ⟨#[]⟩] 72::As) ?_ ?_
 ·refine Zaj (.cl b13 [.string ⟨(tN (((v - u:Int):Rat) * R)).toArray⟩,.string ⟨(tD (((v - u:Int):Rat) * R)).toArray⟩] 72::.cl b2 [.int .i64 kv,.slice p0 tab.length c0,sv] 113::As) [] (.take 0 (.take 1 (.take 2 (.take 3 (.take 4 (.take 5 (.take 7 (.all [(6,.all [(8,.take 9 (.take 10 (.take 11 (.all [(12,.all [(13,.take 14 (.done))])])))),(12,.all [(8,.take 9 (.take 10 (.take 11 (.all [(13,.take 14 (.done))]))))])]),(12,.all [(6,.all [(8,.take 9 (.take 10 (.take 11 (.all [(13,.take 14 (.done))]))))])])])))))))) ?_
  repeat' first|refine Kf ?_|intro _|constructor
  repeat' (first|(refine T1.callv rfl rfl rfl rfl rfl (Za9 ht (n:=u) (by omega)) ?_;rintro _ _ ⟨rfl,rfl⟩;(repeat' first|refine Kf ?_|intro _|constructor))|(refine T1.callv rfl rfl rfl rfl rfl (Q.Z2h ht (r:=(u:Rat)) (s:=((v - u:Int):Rat) * R) ((Zap (k:=5) (by decide) (by omega)).mono (by decide)) (f2.mono (by omega)) (f3.mono (by omega))) ?_;rintro _ _ ⟨rfl,rfl⟩;(repeat' first|refine Kf ?_|intro _|constructor)))
  all_goals exact Post.cut _ _ ⟨_,rfl,rfl⟩ Zae Zaa
 rintro _ _ ⟨b14,rfl,rfl⟩
 repeat' first|refine Kz ?_|intro _
 refine Zaj [.cl b14 [.string ⟨(tN ((u:Rat)+((v - u:Int):Rat) * R)).toArray⟩,.string ⟨(tD ((u:Rat)+((v - u:Int):Rat) * R)).toArray⟩] 72] [] (.take 0 (.all [(1,.all [(2,.take 3 (.take 4 (.all [(5,.take 6 (.done))])))])])) ?_
 repeat' first|refine Kf ?_|intro _|constructor
 refine Ku rfl (Za9 ht (n:=65535) (by decide)) ?_
 repeat' first|refine Kf ?_|intro _|constructor
 refine Ku rfl (Q.Z2e ht (r:=(u:Rat)+((v - u:Int):Rat) * R) (s:=((65535:Int):Rat)) (f3.mono (by omega)) ((Zap (k:=5) (by decide) (by decide)).mono (by decide)) (by decide) (f4.mono (by omega))) ?_
 repeat' first|refine Kf ?_|intro _|constructor
 exact Kv
end Go.Proofs.YtoednejlfbfciaaGreatDoor
