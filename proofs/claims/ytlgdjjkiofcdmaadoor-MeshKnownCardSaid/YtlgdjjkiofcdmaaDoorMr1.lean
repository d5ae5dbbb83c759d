/- Walks: the reference of the chapter on meshes: its small functions. -/
import Derived.Test.YtlgdjjkiofcdmaaDoorMa4
import Derived.Test.YtlgdjjkiofcdmaaDoorPl
import Derived.Test.YtlgdjjkiofcdmaaDoorSxB
set_option maxHeartbeats 1000000
namespace Go.Proofs.YtlgdjjkiofcdmaaDoor
open Go Go.Sx
variable {w0:World} {As:List Ent} {pv fv:Value} {pts fcs:List V3}
end Go.Proofs.YtlgdjjkiofcdmaaDoor
namespace Go.Proofs.YtlgdjjkiofcdmaaDoor
open Go Go.Sx
variable {w0:World} {As:List Ent} {pv fv:Value} {pts fcs:List V3}
end Go.Proofs.YtlgdjjkiofcdmaaDoor
namespace Go.Proofs.YtlgdjjkiofcdmaaDoor
open Go Go.Sx
variable {w0:World} {As:List Ent} {pv fv:Value} {pts fcs:List V3}
end Go.Proofs.YtlgdjjkiofcdmaaDoor
namespace Go.Proofs.YtlgdjjkiofcdmaaDoor
open Go Go.Sx
variable {w0:World} {As:List Ent} {pv fv:Value} {pts fcs:List V3}
end Go.Proofs.YtlgdjjkiofcdmaaDoor
namespace Go.Proofs.YtlgdjjkiofcdmaaDoor
open Go Go.Sx
variable {w0:World} {As:List Ent} {pv fv:Value} {pts fcs:List V3}
end Go.Proofs.YtlgdjjkiofcdmaaDoor
namespace Go.Proofs.YtlgdjjkiofcdmaaDoor
open Go Go.Sx
variable {w0:World} {As:List Ent} {pv fv:Value} {pts fcs:List V3}
def grownV (b off n cap k:Nat) (o:Option (Option Addr × Nat)):Value:=match o with
 | none=>.slice (some ⟨b,off,none⟩) (n+k) cap
 | some (q,cp)=>.slice q (n+k) cp
def grownE (b off cap:Nat) (xs:List V3) (k:Nat) (zs:List V3) (o:Option (Option Addr × Nat)) (R:List Ent):List Ent:=match o with
 | none=>.ow cV3 27 (.slice (some ⟨b,off,none⟩) (xs.length+k) cap) (xs++zs)::R
 | some (q,cp)=>.ow cV3 27 (.slice q (xs.length+k) cp) (xs++zs)::.ow cV3 27 (.slice (some ⟨b,off,none⟩) xs.length cap) xs::R
theorem Zeg {b off cap k:Nat} {xs zs:List V3} (o:Option (Option Addr × Nat)) (R:List Ent):∃ q cp,grownV b off xs.length cap k o=.slice q (xs.length+k) cp∧Ents (grownE b off cap xs k zs o R) (.ow cV3 27 (.slice q (xs.length+k) cp) (xs++zs)::R):=by
 match o with
 | none=>exact ⟨_,_,rfl,Ents.refl _⟩
 | some (q,cp)=>exact ⟨q,cp,rfl,by show Ents (.ow _ _ _ _::.ow _ _ _ _::R) _;(exact Zaa)⟩
def BendR (As:List Ent) (what:Nat) (pts fcs:List V3) (v:Value) (Bs:List Ent):Prop:=∃ pv fv P F,v=.agg #[pv,fv]∧pv.oneCell'=true∧fv.oneCell'=true∧BendOk what pts fcs P F∧Bs=.ow cV3 27 pv P::.ow cV3 27 fv F::As
theorem Zas {Bs rest rest':List Ent} {pv fv:Value} {P F:List V3} {what:Nat} [h1:TakeW Bs pv cV3 27 P rest] [h2:TakeW rest fv cV3 27 F rest'] [h3:Cov rest' As] (hp:pv.oneCell'=true) (hf:fv.oneCell'=true) (hb:BendOk what pts fcs P F) :
  ∃ As',BendR As what pts fcs (.agg #[pv,fv]) As'∧Ents Bs As' :=
 ⟨_,⟨pv,fv,P,F,rfl,hp,hf,hb,rfl⟩,Ents.trans (Ents.perm (h1.perm.trans (h2.perm.cons _))) (Zbp (Cov.take (h:=Take.head) (k:=Cov.take (h:=Take.head) (k:=h3))))⟩
set_option maxRecDepth 100000 in
set_option maxHeartbeats 8000000 in
theorem Zj8 {wh ta to_ n:Int} (hw:0≤wh∧wh≤255) (hta:0≤ta∧ta≤255) (hto:0≤to_∧to_≤255) [RdIn As fv V3 cV3 fcs] [RdIn As pv V3 cV3 pts] :
  CallsS Tryd.prog w0 6 [.agg #[.int .u8 wh,.int .u8 ta,.int .u8 to_,.int .i64 n],.agg #[pv,fv]] As (BendR As wh.toNat pts fcs):=by
 refine Zb1 pv fun pp pc h1=>Zb1 fv fun fp fc h2=>?_
 subst h1 h2
 refine Zab Tryd.func6 rfl Tryd.ntmps6 rfl ?_
 repeat' first|refine Kz ?_|intro _
 rename_i b2 b3 b4
 have e1:(if (40:Int) < (pts.length:Int) then (40:Int) else (pts.length:Int))=((min pts.length 40:Nat):Int):=by omega
 have e2:(if (40:Int) < (fcs.length:Int) then (40:Int) else (fcs.length:Int))=((min fcs.length 40:Nat):Int):=by omega
 haveI i1:RdIn As (.slice pp (min pts.length 40) pc) V3 cV3 (pts.take (min pts.length 40)):=RdIn.take (m:=pts.length) (Nat.min_le_left _ _)
 haveI i2:RdIn As (.slice fp (min fcs.length 40) fc) V3 cV3 (fcs.take (min fcs.length 40)):=RdIn.take (m:=fcs.length) (Nat.min_le_left _ _)
 have lx:(pts.take (min pts.length 40)).length≤40:=by simp;omega
 have ly:(fcs.take (min fcs.length 40)).length≤40:=by simp;omega
 have hbo:BendOk wh.toNat (pts.take (min pts.length 40)) (fcs.take (min fcs.length 40))=BendOk wh.toNat (pts.take (min pts.length 40)) (fcs.take (min fcs.length 40)):=rfl
 have hbi:∀ P F,BendOk wh.toNat (pts.take (min pts.length 40)) (fcs.take (min fcs.length 40)) P F→BendOk wh.toNat pts fcs P F:=fun P F ⟨g1,g2,g3,g4⟩=>by
  have k1:pts.length≤40→pts.take (min pts.length 40)=pts:=fun h=>List.take_of_length_le (by omega)
  have k2:fcs.length≤40→fcs.take (min fcs.length 40)=fcs:=fun h=>List.take_of_length_le (by omega)
  exact ⟨g1,g2,fun h h3 h4 h5 h6=>by rw [k1 h5,k2 h6] at g3;exact g3 h h3 h4 h5 h6,fun h h3 h4 h5 h6=>by rw [k1 h5,k2 h6] at g4;exact g4 h h3 h4 h5 h6⟩
 clear hbo
 refine Tri.mid (fun e' As'=>∃ p1 c1 p2 c2 b5,e'=[(2,.pointer (some ⟨b2,0,none⟩)),(3,.pointer (some ⟨b3,0,none⟩)),(4,.pointer (some ⟨b4,0,none⟩)),(5,.pointer (some ⟨b5,0,none⟩))] ∧
  As'=.ow cV3 27 (.slice p1 (pts.take (min pts.length 40)).length c1) (pts.take (min pts.length 40))::.ow cV3 27 (.slice p2 (fcs.take (min fcs.length 40)).length c2) (fcs.take (min fcs.length 40))::.cl b5 [.slice p1 (pts.take (min pts.length 40)).length c1,.slice p2 (fcs.take (min fcs.length 40)).length c2] 25 ::
   .cl b2 [.int .u8 wh,.int .u8 ta,.int .u8 to_,.int .i64 n] 29::.cl b4 [.slice none 0 0,.slice none 0 0] 25::As) ?_ ?_
 ·refine Zbn (.cl b3 [.slice pp pts.length pc,.slice fp fcs.length fc] 25::As) [] (.take 1 (.take 2 (.take 3 (.take 4 (.take 5 (.take 6 (.take 7 (.take 10 (.take 11 (.take 12 (.take 13 (.take 14 (.take 15 (.take 16 (.all [(0,.all [(8,.all [(9,.all [(17,.take 18 (.all [(19,.all [(20,.done)])])),(19,.all [(17,.take 18 (.all [(20,.done)]))])]),(19,.all [(9,.all [(17,.take 18 (.all [(20,.done)]))])])]),(9,.all [(8,.all [(17,.take 18 (.all [(19,.all [(20,.done)])])),(19,.all [(17,.take 18 (.all [(20,.done)]))])]),(19,.all [(8,.all [(17,.take 18 (.all [(20,.done)]))])])]),(19,.all [(8,.all [(9,.all [(17,.take 18 (.all [(20,.done)]))])]),(9,.all [(8,.all [(17,.take 18 (.all [(20,.done)]))])])])]),(9,.all [(0,.all [(8,.all [(17,.take 18 (.all [(19,.all [(20,.done)])])),(19,.all [(17,.take 18 (.all [(20,.done)]))])]),(19,.all [(8,.all [(17,.take 18 (.all [(20,.done)]))])])]),(19,.all [(0,.all [(8,.all [(17,.take 18 (.all [(20,.done)]))])])])]),(19,.all [(0,.all [(8,.all [(9,.all [(17,.take 18 (.all [(20,.done)]))])]),(9,.all [(8,.all [(17,.take 18 (.all [(20,.done)]))])])]),(9,.all [(0,.all [(8,.all [(17,.take 18 (.all [(20,.done)]))])])])])]))))))))))))))) ?_
  repeat' first|refine Kf ?_|intro _|constructor
  rw [e1]
  refine TT.take rfl rfl rfl (Zhg rfl (Zcj rfl) (by omega)) ?_
  repeat' first|refine Kf ?_|intro _|constructor
  rw [e2]
  refine TT.take rfl rfl rfl (Zhg rfl (Zcj rfl) (by omega)) ?_
  repeat' first|refine Kf ?_|intro _|constructor
  all_goals
   refine Zop 27 rfl ?_
   rintro p1 c1 rfl
   refine Zop 36 rfl ?_
   rintro p2 c2 rfl
   repeat' first|refine Kf ?_|intro _|constructor
  all_goals
   first
        | (rename_i b5;exact Zbb _ _ ⟨p1,c1,p2,c2,b5,rfl,rfl⟩ Zae Zaa)
        | (rename_i b5 _;exact Zbb _ _ ⟨p1,c1,p2,c2,b5,rfl,rfl⟩ Zae Zaa)
        | (rename_i b5 _ _;exact Zbb _ _ ⟨p1,c1,p2,c2,b5,rfl,rfl⟩ Zae Zaa)
 ·rintro _ _ ⟨p1,c1,p2,c2,b5,rfl,rfl⟩
  clear i1 i2 e1 e2
  generalize pts.take (min pts.length 40)=xs at lx hbi ⊢
  generalize fcs.take (min fcs.length 40)=ys at ly hbi ⊢
  have fin:∀ {P F:List V3},BendOk wh.toNat xs ys P F→BendOk wh.toNat pts fcs P F:=fun h=>hbi _ _ h
  clear hbi
  repeat' first|refine Kz ?_|intro _
  refine Zcr (.take 0 (.take 1 (.take 2 (.take 3 (.take 4 (.take 5 (.take 6 (.take 7 (.done))))))))) ?_
  repeat' first|refine Kf ?_|intro _|constructor
  by_cases hx0:xs.length=0
  ·repeat' first|refine Kf ?_|intro _|constructor
   (refine Zad ?_)
   have hxn:xs=[]:=List.eq_nil_of_length_eq_zero hx0
   exact Zas rfl rfl (fin ⟨by omega,by omega,fun _ h=>absurd hxn h,fun _ h=>absurd hxn h⟩)
  by_cases hy0:ys.length=0
  ·repeat' first|refine Kf ?_|intro _|constructor
   (refine Zad ?_)
   have hyn:ys=[]:=List.eq_nil_of_length_eq_zero hy0
   exact Zas rfl rfl (fin ⟨by omega,by omega,fun _ _ h=>absurd hyn h,fun _ _ h=>absurd hyn h⟩)
  obtain ⟨i,hi,hil⟩:∃ i:Nat,ta % (xs.length:Int)=(i:Int)∧i < xs.length:=⟨(ta % (xs.length:Int)).toNat,by have:=Int.emod_nonneg ta (show (xs.length:Int)≠0 by omega);omega,by have:=Int.emod_lt_of_pos ta (show (0:Int) < (xs.length:Int) by omega);omega⟩
  obtain ⟨k,hk,hkl⟩:∃ i:Nat,ta % (ys.length:Int)=(i:Int)∧i < ys.length:=⟨(ta % (ys.length:Int)).toNat,by have:=Int.emod_nonneg ta (show (ys.length:Int)≠0 by omega);omega,by have:=Int.emod_lt_of_pos ta (show (0:Int) < (ys.length:Int) by omega);omega⟩
  obtain ⟨j,hj,hjl⟩:∃ i:Nat,to_ % (xs.length:Int)=(i:Int)∧i < xs.length:=⟨(to_ % (xs.length:Int)).toNat,by have:=Int.emod_nonneg to_ (show (xs.length:Int)≠0 by omega);omega,by have:=Int.emod_lt_of_pos to_ (show (0:Int) < (xs.length:Int) by omega);omega⟩
  obtain ⟨p,hp⟩:∃ p,xs[i]?=some p:=⟨_,List.getElem?_eq_getElem hil⟩
  obtain ⟨q,hq⟩:∃ p,xs[j]?=some p:=⟨_,List.getElem?_eq_getElem hjl⟩
  obtain ⟨f,hf⟩:∃ p,ys[k]?=some p:=⟨_,List.getElem?_eq_getElem hkl⟩
  repeat' first|refine Kf ?_|intro _|constructor
  refine Zcr (.take 0 (.take 1 (.take 2 (.take 3 (.take 4 (.take 5 (.take 6 (.take 7 (.take 8 (.take 9 (.take 10 (.take 11 (.done))))))))))))) ?_
  repeat' first|refine Kf ?_|intro _|constructor
  rw [hi,hk]
  refine Tri.open (.slice p1 xs.length c1) (List.ne_nil_of_length_pos (by omega)) ?_
  intro ab ao ac hac he
  injection he with g1 _ g2
  subst g1 g2
  refine Tri.open (.slice p2 ys.length c2) (List.ne_nil_of_length_pos (by omega)) ?_
  intro bb bo bc hbc he
  injection he with g1 _ g2
  subst g1 g2
  have hwn:wh.toNat % 12=(wh % 12).toNat:=by omega
  have hw12:0≤wh % 12∧wh % 12 < 12:=by omega
  obtain ⟨c,hc⟩:∃ c,c=wh % 12:=⟨_,rfl⟩
  rw [← hc] at hwn hw12
  rcases (by omega:c=0∨c=1∨c=2∨c=3∨c=4∨c=5∨c=6∨c=7∨c=8∨c=9∨c=10∨c=11) with hc'|hc'|hc'|hc'|hc'|hc'|hc'|hc'|hc'|hc'|hc'|hc'
  ·repeat' first|refine Kf ?_|intro _|constructor
   rcases (by omega:to_ % 3=0∨to_ % 3=1∨to_ % 3=2) with h3|h3|h3
   all_goals
        refine Zbn (.cl b5 [.slice (some ⟨ab,ao,none⟩) xs.length c1,.slice (some ⟨bb,bo,none⟩) ys.length c2] 25::.cl b2 [.int .u8 wh,.int .u8 ta,.int .u8 to_,.int .i64 n] 29::.cl b4 [.slice none 0 0,.slice none 0 0] 25::As) [] (.take 0 (.take 1 (.take 2 (.take 3 (.take 4 (.take 5 (.take 6 (.take 7 (.take 8 (.take 9 (.all [(10,.done)]))))))))))) ?_
        repeat' first|refine Kf ?_|intro _|constructor
        rw [h3]
        repeat' first|refine Kf ?_|intro _|constructor
        refine TT.take rfl rfl rfl (Za3 rfl rfl (by omega)) ?_
        repeat' first|refine Kf ?_|intro _|constructor
        (refine Zad ?_)
        exact Zas rfl rfl (fin (Zar (by (try simp only [List.length_set]);first|omega|(split<;>omega)) (by (try simp only [List.length_set,List.length_append,List.length_cons,List.length_nil,List.length_eraseIdx]);first|omega|(split<;>omega)) (by omega) (by omega)))
  ·repeat' first|refine Kf ?_|intro _|constructor
   refine Zbn (.cl b5 [.slice (some ⟨ab,ao,none⟩) xs.length c1,.slice (some ⟨bb,bo,none⟩) ys.length c2] 25::.cl b2 [.int .u8 wh,.int .u8 ta,.int .u8 to_,.int .i64 n] 29::.cl b4 [.slice none 0 0,.slice none 0 0] 25::As) [(11,.w (.slice (some ⟨ab,ao,none⟩) xs.length c1))] (.take 0 (.take 1 (.take 2 (.take 3 (.take 4 (.take 5 (.take 6 (.take 7 (.take 8 (.take 9 (.take 10 (.take 11 (.take 12 (.all [(13,.done)])))))))))))))) ?_
   repeat' first|refine Kf ?_|intro _|constructor
   rw [hj]
   repeat' first|refine Kf ?_|intro _|constructor
   refine TT.take rfl rfl rfl (Za3 rfl rfl (by omega)) ?_
   repeat' first|refine Kf ?_|intro _|constructor
   refine TT.take rfl rfl rfl (Za3 rfl rfl (by omega)) ?_
   repeat' first|refine Kf ?_|intro _|constructor
   (refine Zad ?_)
   exact Zas rfl rfl (fin (Zar (by (try simp only [List.length_set]);first|omega|(split<;>omega)) (by (try simp only [List.length_set,List.length_append,List.length_cons,List.length_nil,List.length_eraseIdx]);first|omega|(split<;>omega)) (by omega) (by omega)))
  ·repeat' first|refine Kf ?_|intro _|constructor
   rcases (by omega:to_ % 3=0∨to_ % 3=1∨to_ % 3=2) with h3|h3|h3
   all_goals
        refine Zbn (.cl b5 [.slice (some ⟨ab,ao,none⟩) xs.length c1,.slice (some ⟨bb,bo,none⟩) ys.length c2] 25::.cl b2 [.int .u8 wh,.int .u8 ta,.int .u8 to_,.int .i64 n] 29::.cl b4 [.slice none 0 0,.slice none 0 0] 25::As) [] (.take 0 (.take 1 (.take 2 (.take 3 (.take 4 (.take 5 (.take 6 (.take 7 (.take 8 (.take 9 (.all [(10,.done)]))))))))))) ?_
        repeat' first|refine Kf ?_|intro _|constructor
        rw [h3]
        repeat' first|refine Kf ?_|intro _|constructor
        refine TT.take rfl rfl rfl (Za3 rfl rfl (by omega)) ?_
        repeat' first|refine Kf ?_|intro _|constructor
        (refine Zad ?_)
        exact Zas rfl rfl (fin (Zar (by (try simp only [List.length_set,List.length_append,List.length_cons,List.length_nil,List.length_take,List.length_drop,List.length_eraseIdx]);first|omega|(split<;>omega)) (by (try simp only [List.length_set]);first|omega|(split<;>omega)) (by omega) (by omega)))
  ·repeat' first|refine Kf ?_|intro _|constructor
   rcases (by omega:to_ % 3=0∨to_ % 3=1∨to_ % 3=2) with h3|h3|h3
   all_goals
        refine Zbn (.cl b5 [.slice (some ⟨ab,ao,none⟩) xs.length c1,.slice (some ⟨bb,bo,none⟩) ys.length c2] 25::.cl b2 [.int .u8 wh,.int .u8 ta,.int .u8 to_,.int .i64 n] 29::.cl b4 [.slice none 0 0,.slice none 0 0] 25::As) [] (.take 0 (.take 1 (.take 2 (.take 3 (.take 4 (.take 5 (.take 6 (.take 7 (.take 8 (.take 9 (.take 10 (.take 11 (.take 12 (.all [(13,.done)])))))))))))))) ?_
        repeat' first|refine Kf ?_|intro _|constructor
        rw [h3]
        repeat' first|refine Kf ?_|intro _|constructor
        rw [hj]
        repeat' first|refine Kf ?_|intro _|constructor
        refine TT.take rfl rfl rfl (Za3 rfl rfl (by omega)) ?_
        repeat' first|refine Kf ?_|intro _|constructor
        (refine Zad ?_)
        exact Zas rfl rfl (fin (Zar (by (try simp only [List.length_set,List.length_append,List.length_cons,List.length_nil,List.length_take,List.length_drop,List.length_eraseIdx]);first|omega|(split<;>omega)) (by (try simp only [List.length_set]);first|omega|(split<;>omega)) (by omega) (by omega)))
  ·repeat' first|refine Kf ?_|intro _|constructor
   refine Zbn (.cl b5 [.slice (some ⟨ab,ao,none⟩) xs.length c1,.slice (some ⟨bb,bo,none⟩) ys.length c2] 25::.cl b2 [.int .u8 wh,.int .u8 ta,.int .u8 to_,.int .i64 n] 29::.cl b4 [.slice none 0 0,.slice none 0 0] 25::As) [(3,.w (.slice (some ⟨bb,bo,none⟩) ys.length c2)),(8,.w (.slice (some ⟨bb,bo,none⟩) ys.length c2))] (.take 0 (.take 1 (.take 2 (.take 3 (.take 4 (.take 5 (.take 6 (.take 7 (.take 8 (.all [(9,.take 10 (.all [(11,.done)]))])))))))))) ?_
   repeat' first|refine Kf ?_|intro _|constructor
   refine Zfa rfl rfl rfl Zaa (Zco rfl Zfx (Zcj rfl) (Nat.zero_le _) (by omega)) ?_
   repeat' first|refine Kf ?_|intro _|constructor
   rw [show (k:Int)+1=((k+1:Nat):Int) by omega]
   refine Zfa rfl rfl rfl Zaa (Zco rfl (Zc5 rfl) Zfy (by omega) (Nat.le_refl _)) ?_
   repeat' first|refine Kf ?_|intro _|constructor
   refine Zgp rfl rfl rfl (Zib (.slice (some ⟨bb,bo,none⟩) ys.length c2) rfl rfl rfl rfl hkl) ?_
   rintro v8 _ rfl
   repeat' first|refine Kf ?_|intro _|constructor
   refine Zor v8 ?_
   rintro p8 c8 rfl
   repeat' first|refine Kz ?_|intro _
   (refine Zad ?_)
   exact Zas rfl rfl (fin (Zar (by (try simp only [List.length_set,List.length_append,List.length_cons,List.length_nil,List.length_take,List.length_drop,List.length_eraseIdx]);first|omega|(split<;>omega)) (by (try simp only [List.length_eraseIdx]);first|omega|(split<;>omega)) (by omega) (by omega)))
  ·repeat' first|refine Kf ?_|intro _|constructor
   refine Zbn (.cl b5 [.slice (some ⟨ab,ao,none⟩) xs.length c1,.slice (some ⟨bb,bo,none⟩) ys.length c2] 25::.cl b2 [.int .u8 wh,.int .u8 ta,.int .u8 to_,.int .i64 n] 29::.cl b4 [.slice none 0 0,.slice none 0 0] 25::As) [(6,.w (.slice (some ⟨bb,bo,none⟩) ys.length c2))] (.take 0 (.take 1 (.take 2 (.take 3 (.take 4 (.take 5 (.take 6 (.all [(7,.all [(8,.take 9 (.all [(10,.done)]))])])))))))) ?_
   repeat' first|refine Kf ?_|intro _|constructor
   refine TT.take rfl rfl rfl (Za3 rfl rfl (by omega)) ?_
   (repeat' (first|((show TL _ _ _ _ (_::_) _ _ _;first|refine Zbj ?_|refine Zbh ?_|(refine Zaz ?_;intro _)|refine Zaq ?_|refine Zal ?_|refine Zbi ?_|fail))|(refine Stp.h ?_)|(first|(show TT _ _ _ _ _ _ _ _ _;first|refine Zcl ?_|refine Zbz ?_|refine Zbe ?_|refine Zkc ?_|fail)|exact TTs.nil|refine TTs.cons ?_ ?_|(show T1 _ _ _ _ _ _ _ _ _ _;first|refine Zkd ?_|(refine Zf6 ?_;intro _)|refine Zke ?_|refine Zd8 ?_|refine Zcm ?_|fail)|(show TC _ _ _ _ _ _ _ _ _ _;first|refine Zf5 ?_|refine Zd7 ?_|fail))|((show Tri _ _ _ (.cond _ _ _) _ _ _;first|refine Zao ?_|refine Zap ?_|refine Zaj ?_|refine Zak ?_|refine Zag ?_|refine Zah ?_|fail))))
   refine Zgp rfl rfl rfl (Zbf rfl rfl rfl (by omega) (by omega) (by omega)) ?_
   rintro v' _ (⟨rfl,rfl⟩|⟨b',cp',rfl,rfl⟩)
   ·refine Zmi (Keep.c (Zgk rfl (by simp)) Keep.nil) ?_
    repeat' first|refine Kf ?_|intro _|constructor
    (refine Zad ?_)
    exact Zas rfl rfl (fin (Zar (by (try simp only [List.length_set,List.length_append,List.length_cons,List.length_nil,List.length_take,List.length_drop,List.length_eraseIdx]);first|omega|(split<;>omega)) (by (try simp only [List.length_append,List.length_cons,List.length_nil]);first|omega|(split<;>omega)) (by omega) (by omega)))
   ·repeat' first|refine Kf ?_|intro _|constructor
    (refine Zad ?_)
    exact Zas rfl rfl (fin (Zar (by (try simp only [List.length_set,List.length_append,List.length_cons,List.length_nil,List.length_take,List.length_drop,List.length_eraseIdx]);first|omega|(split<;>omega)) (by (try simp only [List.length_append,List.length_cons,List.length_nil]);first|omega|(split<;>omega)) (by omega) (by omega)))
  ·have e6:(ys.set k ⟨f.y,f.y,f.z⟩)[k]?=some ⟨f.y,f.y,f.z⟩:=by rw [List.getElem?_set,if_pos rfl,if_pos hkl]
   repeat' first|refine Kf ?_|intro _|constructor
   refine Zbn (.cl b5 [.slice (some ⟨ab,ao,none⟩) xs.length c1,.slice (some ⟨bb,bo,none⟩) ys.length c2] 25::.cl b2 [.int .u8 wh,.int .u8 ta,.int .u8 to_,.int .i64 n] 29::.cl b4 [.slice none 0 0,.slice none 0 0] 25::As) [(11,.w (.slice (some ⟨bb,bo,none⟩) ys.length c2)),(17,.w (.slice (some ⟨bb,bo,none⟩) ys.length c2))] (.take 0 (.take 1 (.take 2 (.take 3 (.take 4 (.take 5 (.take 6 (.take 7 (.take 8 (.take 9 (.take 10 (.take 11 (.take 12 (.take 13 (.take 14 (.take 15 (.take 16 (.take 17 (.take 18 (.take 19 (.take 21 (.all [(20,.take 22 (.all [(23,.done)]))])))))))))))))))))))))) ?_
   iterate 4
        repeat' first|refine Kf ?_|intro _|constructor
        refine TT.take rfl rfl rfl (Za3 rfl rfl (by omega)) ?_
   repeat' first|refine Kf ?_|intro _|constructor
   (refine Zad ?_)
   exact Zas rfl rfl (fin (Zar (by (try simp only [List.length_set]);omega) (by (try simp only [List.length_set]);omega) (by omega) (by omega)))
  ·repeat' first|refine Kf ?_|intro _|constructor
   rename_i v8
   refine Zor v8 ?_
   rintro p8 c8 rfl
   repeat' first|refine Kz ?_|intro _
   (refine Zad ?_)
   exact Zas rfl rfl (fin (Zar (by (try simp only [List.length_append,List.length_cons,List.length_nil]);first|omega|(split<;>omega)) (by (try simp only [List.length_set,List.length_append,List.length_cons,List.length_nil,List.length_eraseIdx]);first|omega|(split<;>omega)) (by omega) (by omega)))
  ·skip
   repeat' first|refine Kf ?_|intro _|constructor
   refine Tri.loop (ι:=Nat × Option (Option Addr × Nat)) (fun s=>s.1≤ys.length) (fun s=>ys.length - s.1)
        (fun s=>[(2,.pointer (some ⟨b2,0,none⟩)),(4,.pointer (some ⟨b4,0,none⟩)),(5,.pointer (some ⟨b5,0,none⟩)),(6,.int .i64 xs.length),(178,.slice (some ⟨bb,bo,none⟩) ys.length c2),(179,.int .i64 ys.length),(180,.int .i64 s.1)])
        (fun s=>grownE bb bo c2 ys s.1 ((ys.take s.1).map (besideF (xs.length:Int))) s.2 (.cl b5 [.slice (some ⟨ab,ao,none⟩) xs.length c1,grownV bb bo ys.length c2 s.1 s.2] 25::.ow cV3 27 (.slice (some ⟨ab,ao,none⟩) xs.length c1) xs::.cl b2 [.int .u8 wh,.int .u8 ta,.int .u8 to_,.int .i64 n] 29::.cl b4 [.slice none 0 0,.slice none 0 0] 25::As)) (0,none) (by simp) Zae (by simp only [List.take_zero,List.map_nil];show Ents _ (.ow cV3 _ (.slice (some ⟨bb,bo,none⟩) ys.length c2) (ys++[])::.cl b5 [.slice (some ⟨ab,ao,none⟩) xs.length c1,.slice (some ⟨bb,bo,none⟩) ys.length c2] 25::_);rw [List.append_nil];(exact Zaa)) ?_
   rintro ⟨k,o⟩ hkn
   simp only at hkn
   have hz:((ys.take k).map (besideF (xs.length:Int))).length=k:=by simp only [List.length_map,List.length_take];omega
   obtain ⟨zs,hzs⟩:∃ zs,(ys.take k).map (besideF (xs.length:Int))=zs:=⟨_,rfl⟩
   rw [hzs] at hz
   show Tri _ _ _ _ [(2,_),(4,_),(5,_),(6,_),(178,_),(179,_),(180,.int .i64 (k:Int))] (grownE bb bo c2 ys k ((ys.take k).map (besideF (xs.length:Int))) o (.cl b5 [.slice (some ⟨ab,ao,none⟩) xs.length c1,grownV bb bo ys.length c2 k o] 25::.ow cV3 27 (.slice (some ⟨ab,ao,none⟩) xs.length c1) xs::.cl b2 [.int .u8 wh,.int .u8 ta,.int .u8 to_,.int .i64 n] 29::.cl b4 [.slice none 0 0,.slice none 0 0] 25::As)) _
   rw [hzs]
   (repeat' (first|((show TL _ _ _ _ (_::_) _ _ _;first|refine Zbj ?_|refine Zbh ?_|(refine Zaz ?_;intro _)|refine Zaq ?_|refine Zal ?_|refine Zbi ?_|fail))|(refine Stp.h ?_)|((show Tri _ _ _ (.cond _ _ _) _ _ _;first|refine Zao ?_|refine Zap ?_|refine Zaj ?_|refine Zak ?_|refine Zag ?_|refine Zah ?_|fail))))
   (refine Kx (fun hc=>?_) fun hc=>?_)
   ·obtain ⟨g,hg⟩:∃ g,ys[k]?=some g:=⟨_,List.getElem?_eq_getElem (by omega)⟩
    rcases o with _|⟨q,cp⟩
    ·show Tri _ _ _ _ _ (.ow cV3 27 (.slice (some ⟨bb,bo,none⟩) (ys.length+k) c2) (ys++zs)::.cl b5 [.slice (some ⟨ab,ao,none⟩) xs.length c1,.slice (some ⟨bb,bo,none⟩) (ys.length+k) c2] 25::.ow cV3 27 (.slice (some ⟨ab,ao,none⟩) xs.length c1) xs::.cl b2 [.int .u8 wh,.int .u8 ta,.int .u8 to_,.int .i64 n] 29::.cl b4 [.slice none 0 0,.slice none 0 0] 25::As) _
     haveI jj:∀ rest,RdIn (.ow cV3 27 (.slice (some ⟨bb,bo,none⟩) (ys.length+k) c2) (ys++zs)::rest) (.slice (some ⟨bb,bo,none⟩) ys.length c2) V3 cV3 ys:=fun rest=>Zdo rfl (by rw [hz]) (by omega) hbc
     (repeat' (first|((show TL _ _ _ _ (_::_) _ _ _;first|refine Zbj ?_|refine Zbh ?_|(refine Zaz ?_;intro _)|refine Zaq ?_|refine Zal ?_|refine Zbi ?_|fail))|(refine Stp.h ?_)|((show Tri _ _ _ (.cond _ _ _) _ _ _;first|refine Zao ?_|refine Zap ?_|refine Zaj ?_|refine Zak ?_|refine Zag ?_|refine Zah ?_|fail))))
     refine Zh4 rfl rfl (Zbf rfl rfl (by simp only [List.length_append,hz]) (by simp only [List.length_append,hz];omega) (by simp only [List.length_append,hz];omega) (by simp only [List.length_append];omega)) ?_
     rintro v' _ (⟨rfl,rfl⟩|⟨b',cp',rfl,rfl⟩)
     ·repeat' first|refine Kz ?_|intro _
      refine Post.round (k+1,none) (by simp only;omega) (by simp only;omega) Zae ?_
      show Ents _ (.ow cV3 _ (.slice (some ⟨bb,bo,none⟩) (ys.length+(k+1)) c2) (ys++(ys.take (k+1)).map (besideF (xs.length:Int)))::.cl b5 [.slice (some ⟨ab,ao,none⟩) xs.length c1,.slice (some ⟨bb,bo,none⟩) (ys.length+(k+1)) c2] 25::_)
      rw [Zam hg,hzs,← List.append_assoc]
      rw [show besideF (xs.length:Int) g=⟨IntKind.i64.wrap (g.x+xs.length),IntKind.i64.wrap (g.y+xs.length),IntKind.i64.wrap (g.z+xs.length)⟩ from rfl]
      (exact Zaa)
     ·repeat' first|refine Kz ?_|intro _
      refine Post.round (k+1,some (some ⟨b',0,none⟩,cp')) (by simp only;omega) (by simp only;omega) Zae ?_
      show Ents _ (.ow cV3 _ (.slice (some ⟨b',0,none⟩) (ys.length+(k+1)) cp') (ys++(ys.take (k+1)).map (besideF (xs.length:Int)))::.ow cV3 _ (.slice (some ⟨bb,bo,none⟩) ys.length c2) ys::.cl b5 [.slice (some ⟨ab,ao,none⟩) xs.length c1,.slice (some ⟨b',0,none⟩) (ys.length+(k+1)) cp'] 25::_)
      rw [Zam hg,hzs,← List.append_assoc]
      rw [show besideF (xs.length:Int) g=⟨IntKind.i64.wrap (g.x+xs.length),IntKind.i64.wrap (g.y+xs.length),IntKind.i64.wrap (g.z+xs.length)⟩ from rfl]
      refine Ents.trans (Zek (xs:=ys) (ys:=zs) (some ⟨bb,bo,none⟩) c2 ys.length (ys.length+k) rfl (by rw [List.length_append,hz])) ?_
      (exact Zaa)
    ·show Tri _ _ _ _ _ (.ow cV3 27 (.slice q (ys.length+k) cp) (ys++zs)::.ow cV3 27 (.slice (some ⟨bb,bo,none⟩) ys.length c2) ys::.cl b5 [.slice (some ⟨ab,ao,none⟩) xs.length c1,.slice q (ys.length+k) cp] 25::.ow cV3 27 (.slice (some ⟨ab,ao,none⟩) xs.length c1) xs::.cl b2 [.int .u8 wh,.int .u8 ta,.int .u8 to_,.int .i64 n] 29::.cl b4 [.slice none 0 0,.slice none 0 0] 25::As) _
     repeat' first|refine Kz ?_|intro _
     rename_i v8
     refine Zc9 v8 ?_
     intro p8 c8 hv8
     simp only [List.length_append,hz,List.length_cons,List.length_nil,Nat.zero_add] at hv8
     subst hv8
     refine Post.round (k+1,some (p8,c8)) (by simp only;omega) (by simp only;omega) Zae ?_
     show Ents _ (.ow cV3 _ (.slice p8 (ys.length+(k+1)) c8) (ys++(ys.take (k+1)).map (besideF (xs.length:Int)))::.ow cV3 _ (.slice (some ⟨bb,bo,none⟩) ys.length c2) ys::.cl b5 [.slice (some ⟨ab,ao,none⟩) xs.length c1,.slice p8 (ys.length+(k+1)) c8] 25::_)
     rw [Zam hg,hzs,← List.append_assoc]
     rw [show besideF (xs.length:Int) g=⟨IntKind.i64.wrap (g.x+xs.length),IntKind.i64.wrap (g.y+xs.length),IntKind.i64.wrap (g.z+xs.length)⟩ from rfl]
     (exact Zaa)
   obtain ⟨fq,fcp,hfv,hfe⟩:=Zeg (b:=bb) (off:=bo) (cap:=c2) (k:=k) (xs:=ys) (zs:=zs) o (.cl b5 [.slice (some ⟨ab,ao,none⟩) xs.length c1,grownV bb bo ys.length c2 k o] 25::.ow cV3 27 (.slice (some ⟨ab,ao,none⟩) xs.length c1) xs::.cl b2 [.int .u8 wh,.int .u8 ta,.int .u8 to_,.int .i64 n] 29::.cl b4 [.slice none 0 0,.slice none 0 0] 25::As)
   refine Tri.ents hfe ?_
   rw [hfv]
   clear hfe hfv
   have hkn':k=ys.length:=by omega
   rw [hkn',List.take_length] at hzs
   rw [hkn']
   subst hzs
   clear hkn hkn' hz hc
   repeat' first|refine Kz ?_|intro _
   refine Tri.loop (ι:=Nat × Option (Option Addr × Nat)) (fun s=>s.1≤xs.length) (fun s=>xs.length - s.1)
        (fun s=>[(2,.pointer (some ⟨b2,0,none⟩)),(4,.pointer (some ⟨b4,0,none⟩)),(5,.pointer (some ⟨b5,0,none⟩)),(6,.int .i64 xs.length),(204,.slice (some ⟨ab,ao,none⟩) xs.length c1),(205,.int .i64 xs.length),(206,.int .i64 s.1)])
        (fun s=>grownE ab ao c1 xs s.1 ((xs.take s.1).map (besideP)) s.2 (.cl b5 [grownV ab ao xs.length c1 s.1 s.2,.slice fq (ys.length+ys.length) fcp] 25::.ow cV3 27 (.slice fq (ys.length+ys.length) fcp) (ys++ys.map (besideF (xs.length:Int)))::.cl b2 [.int .u8 wh,.int .u8 ta,.int .u8 to_,.int .i64 n] 29::.cl b4 [.slice none 0 0,.slice none 0 0] 25::As)) (0,none) (by simp) Zae (by simp only [List.take_zero,List.map_nil];show Ents _ (.ow cV3 _ (.slice (some ⟨ab,ao,none⟩) xs.length c1) (xs++[])::.cl b5 [.slice (some ⟨ab,ao,none⟩) xs.length c1,.slice fq (ys.length+ys.length) fcp] 25::_);rw [List.append_nil];(exact Zaa)) ?_
   rintro ⟨k,o⟩ hkn
   simp only at hkn
   have hz:((xs.take k).map (besideP)).length=k:=by simp only [List.length_map,List.length_take];omega
   obtain ⟨zs,hzs⟩:∃ zs,(xs.take k).map (besideP)=zs:=⟨_,rfl⟩
   rw [hzs] at hz
   show Tri _ _ _ _ [(2,_),(4,_),(5,_),(6,_),(204,_),(205,_),(206,.int .i64 (k:Int))] (grownE ab ao c1 xs k ((xs.take k).map (besideP)) o (.cl b5 [grownV ab ao xs.length c1 k o,.slice fq (ys.length+ys.length) fcp] 25::.ow cV3 27 (.slice fq (ys.length+ys.length) fcp) (ys++ys.map (besideF (xs.length:Int)))::.cl b2 [.int .u8 wh,.int .u8 ta,.int .u8 to_,.int .i64 n] 29::.cl b4 [.slice none 0 0,.slice none 0 0] 25::As)) _
   rw [hzs]
   (repeat' (first|((show TL _ _ _ _ (_::_) _ _ _;first|refine Zbj ?_|refine Zbh ?_|(refine Zaz ?_;intro _)|refine Zaq ?_|refine Zal ?_|refine Zbi ?_|fail))|(refine Stp.h ?_)|((show Tri _ _ _ (.cond _ _ _) _ _ _;first|refine Zao ?_|refine Zap ?_|refine Zaj ?_|refine Zak ?_|refine Zag ?_|refine Zah ?_|fail))))
   (refine Kx (fun hc=>?_) fun hc=>?_)
   ·obtain ⟨g,hg⟩:∃ g,xs[k]?=some g:=⟨_,List.getElem?_eq_getElem (by omega)⟩
    rcases o with _|⟨q,cp⟩
    ·show Tri _ _ _ _ _ (.ow cV3 27 (.slice (some ⟨ab,ao,none⟩) (xs.length+k) c1) (xs++zs)::.cl b5 [.slice (some ⟨ab,ao,none⟩) (xs.length+k) c1,.slice fq (ys.length+ys.length) fcp] 25::.ow cV3 27 (.slice fq (ys.length+ys.length) fcp) (ys++ys.map (besideF (xs.length:Int)))::.cl b2 [.int .u8 wh,.int .u8 ta,.int .u8 to_,.int .i64 n] 29::.cl b4 [.slice none 0 0,.slice none 0 0] 25::As) _
     haveI jj:∀ rest,RdIn (.ow cV3 27 (.slice (some ⟨ab,ao,none⟩) (xs.length+k) c1) (xs++zs)::rest) (.slice (some ⟨ab,ao,none⟩) xs.length c1) V3 cV3 xs:=fun rest=>Zdo rfl (by rw [hz]) (by omega) hac
     (repeat' (first|((show TL _ _ _ _ (_::_) _ _ _;first|refine Zbj ?_|refine Zbh ?_|(refine Zaz ?_;intro _)|refine Zaq ?_|refine Zal ?_|refine Zbi ?_|fail))|(refine Stp.h ?_)|((show Tri _ _ _ (.cond _ _ _) _ _ _;first|refine Zao ?_|refine Zap ?_|refine Zaj ?_|refine Zak ?_|refine Zag ?_|refine Zah ?_|fail))))
     refine Zh4 rfl rfl (Zbf rfl rfl (by simp only [List.length_append,hz]) (by simp only [List.length_append,hz];omega) (by simp only [List.length_append,hz];omega) (by simp only [List.length_append];omega)) ?_
     rintro v' _ (⟨rfl,rfl⟩|⟨b',cp',rfl,rfl⟩)
     ·repeat' first|refine Kz ?_|intro _
      refine Post.round (k+1,none) (by simp only;omega) (by simp only;omega) Zae ?_
      show Ents _ (.ow cV3 _ (.slice (some ⟨ab,ao,none⟩) (xs.length+(k+1)) c1) (xs++(xs.take (k+1)).map (besideP))::.cl b5 [.slice (some ⟨ab,ao,none⟩) (xs.length+(k+1)) c1,.slice fq (ys.length+ys.length) fcp] 25::_)
      rw [Zam hg,hzs,← List.append_assoc]
      rw [show besideP g=⟨IntKind.i64.wrap (g.x+5000),g.y,g.z⟩ from rfl]
      (exact Zaa)
     ·repeat' first|refine Kz ?_|intro _
      refine Post.round (k+1,some (some ⟨b',0,none⟩,cp')) (by simp only;omega) (by simp only;omega) Zae ?_
      show Ents _ (.ow cV3 _ (.slice (some ⟨b',0,none⟩) (xs.length+(k+1)) cp') (xs++(xs.take (k+1)).map (besideP))::.ow cV3 _ (.slice (some ⟨ab,ao,none⟩) xs.length c1) xs::.cl b5 [.slice (some ⟨b',0,none⟩) (xs.length+(k+1)) cp',.slice fq (ys.length+ys.length) fcp] 25::_)
      rw [Zam hg,hzs,← List.append_assoc]
      rw [show besideP g=⟨IntKind.i64.wrap (g.x+5000),g.y,g.z⟩ from rfl]
      refine Ents.trans (Zek (xs:=xs) (ys:=zs) (some ⟨ab,ao,none⟩) c1 xs.length (xs.length+k) rfl (by rw [List.length_append,hz])) ?_
      (exact Zaa)
    ·show Tri _ _ _ _ _ (.ow cV3 27 (.slice q (xs.length+k) cp) (xs++zs)::.ow cV3 27 (.slice (some ⟨ab,ao,none⟩) xs.length c1) xs::.cl b5 [.slice q (xs.length+k) cp,.slice fq (ys.length+ys.length) fcp] 25::.ow cV3 27 (.slice fq (ys.length+ys.length) fcp) (ys++ys.map (besideF (xs.length:Int)))::.cl b2 [.int .u8 wh,.int .u8 ta,.int .u8 to_,.int .i64 n] 29::.cl b4 [.slice none 0 0,.slice none 0 0] 25::As) _
     repeat' first|refine Kz ?_|intro _
     rename_i v8
     refine Zc9 v8 ?_
     intro p8 c8 hv8
     simp only [List.length_append,hz,List.length_cons,List.length_nil,Nat.zero_add] at hv8
     subst hv8
     refine Post.round (k+1,some (p8,c8)) (by simp only;omega) (by simp only;omega) Zae ?_
     show Ents _ (.ow cV3 _ (.slice p8 (xs.length+(k+1)) c8) (xs++(xs.take (k+1)).map (besideP))::.ow cV3 _ (.slice (some ⟨ab,ao,none⟩) xs.length c1) xs::.cl b5 [.slice p8 (xs.length+(k+1)) c8,.slice fq (ys.length+ys.length) fcp] 25::_)
     rw [Zam hg,hzs,← List.append_assoc]
     rw [show besideP g=⟨IntKind.i64.wrap (g.x+5000),g.y,g.z⟩ from rfl]
     (exact Zaa)
   obtain ⟨aq,acp,hfv,hfe⟩:=Zeg (b:=ab) (off:=ao) (cap:=c1) (k:=k) (xs:=xs) (zs:=zs) o (.cl b5 [grownV ab ao xs.length c1 k o,.slice fq (ys.length+ys.length) fcp] 25::.ow cV3 27 (.slice fq (ys.length+ys.length) fcp) (ys++ys.map (besideF (xs.length:Int)))::.cl b2 [.int .u8 wh,.int .u8 ta,.int .u8 to_,.int .i64 n] 29::.cl b4 [.slice none 0 0,.slice none 0 0] 25::As)
   refine Tri.ents hfe ?_
   rw [hfv]
   clear hfe hfv
   have hkn':k=xs.length:=by omega
   rw [hkn',List.take_length] at hzs
   rw [hkn']
   subst hzs
   clear hkn hkn' hz hc
   repeat' first|refine Kz ?_|intro _
   (refine Zad ?_)
   exact Zas rfl rfl (fin ⟨by simp only [List.length_append,List.length_map];omega,by simp only [List.length_append,List.length_map];omega,fun _ _ _ _ _=>⟨rfl,rfl⟩,fun h=>by omega⟩)
  ·repeat' first|refine Kz ?_|intro _
   rw [Zl4]
   repeat' first|refine Kz ?_|intro _
   (refine Zad ?_)
   exact Zas rfl rfl (fin (Zar (by (try simp only [List.length_take,List.length_drop]);first|omega|(split<;>omega)) (by (try simp only [List.length_set,List.length_append,List.length_cons,List.length_nil,List.length_eraseIdx]);first|omega|(split<;>omega)) (by omega) (by omega)))
  ·skip
   have hn1:(xs.length:Int) - 1=((xs.length - 1:Nat):Int):=by omega
   obtain ⟨o0,ho0⟩:∃ p,xs[0]?=some p:=⟨_,List.getElem?_eq_getElem (by omega)⟩
   have hpt:ptAt xs 0=o0:=by simp [ptAt,ho0]
   repeat' first|refine Kz ?_|intro _
   refine Tri.loop (ι:=Nat × Option (Option Addr × Nat)) (fun s=>s.1≤ys.length) (fun s=>ys.length - s.1)
        (fun s=>[(2,.pointer (some ⟨b2,0,none⟩)),(4,.pointer (some ⟨b4,0,none⟩)),(5,.pointer (some ⟨b5,0,none⟩)),(6,.int .i64 xs.length),(234,.slice (some ⟨bb,bo,none⟩) ys.length c2),(235,.int .i64 ys.length),(236,.int .i64 s.1)])
        (fun s=>grownE bb bo c2 ys s.1 ((ys.take s.1).map (shareF (xs.length:Int))) s.2 (.cl b5 [.slice (some ⟨ab,ao,none⟩) xs.length c1,grownV bb bo ys.length c2 s.1 s.2] 25::.ow cV3 27 (.slice (some ⟨ab,ao,none⟩) xs.length c1) xs::.cl b2 [.int .u8 wh,.int .u8 ta,.int .u8 to_,.int .i64 n] 29::.cl b4 [.slice none 0 0,.slice none 0 0] 25::As)) (0,none) (by simp) Zae (by simp only [List.take_zero,List.map_nil];show Ents _ (.ow cV3 _ (.slice (some ⟨bb,bo,none⟩) ys.length c2) (ys++[])::.cl b5 [.slice (some ⟨ab,ao,none⟩) xs.length c1,.slice (some ⟨bb,bo,none⟩) ys.length c2] 25::_);rw [List.append_nil];(exact Zaa)) ?_
   rintro ⟨k,o⟩ hkn
   simp only at hkn
   have hz:((ys.take k).map (shareF (xs.length:Int))).length=k:=by simp only [List.length_map,List.length_take];omega
   obtain ⟨zs,hzs⟩:∃ zs,(ys.take k).map (shareF (xs.length:Int))=zs:=⟨_,rfl⟩
   rw [hzs] at hz
   show Tri _ _ _ _ [(2,_),(4,_),(5,_),(6,_),(234,_),(235,_),(236,.int .i64 (k:Int))] (grownE bb bo c2 ys k ((ys.take k).map (shareF (xs.length:Int))) o (.cl b5 [.slice (some ⟨ab,ao,none⟩) xs.length c1,grownV bb bo ys.length c2 k o] 25::.ow cV3 27 (.slice (some ⟨ab,ao,none⟩) xs.length c1) xs::.cl b2 [.int .u8 wh,.int .u8 ta,.int .u8 to_,.int .i64 n] 29::.cl b4 [.slice none 0 0,.slice none 0 0] 25::As)) _
   rw [hzs]
   (repeat' (first|((show TL _ _ _ _ (_::_) _ _ _;first|refine Zbj ?_|refine Zbh ?_|(refine Zaz ?_;intro _)|refine Zaq ?_|refine Zal ?_|refine Zbi ?_|fail))|(refine Stp.h ?_)|((show Tri _ _ _ (.cond _ _ _) _ _ _;first|refine Zao ?_|refine Zap ?_|refine Zaj ?_|refine Zak ?_|refine Zag ?_|refine Zah ?_|fail))))
   (refine Kx (fun hc=>?_) fun hc=>?_)
   ·obtain ⟨g,hg⟩:∃ g,ys[k]?=some g:=⟨_,List.getElem?_eq_getElem (by omega)⟩
    rcases o with _|⟨q,cp⟩
    ·show Tri _ _ _ _ _ (.ow cV3 27 (.slice (some ⟨bb,bo,none⟩) (ys.length+k) c2) (ys++zs)::.cl b5 [.slice (some ⟨ab,ao,none⟩) xs.length c1,.slice (some ⟨bb,bo,none⟩) (ys.length+k) c2] 25::.ow cV3 27 (.slice (some ⟨ab,ao,none⟩) xs.length c1) xs::.cl b2 [.int .u8 wh,.int .u8 ta,.int .u8 to_,.int .i64 n] 29::.cl b4 [.slice none 0 0,.slice none 0 0] 25::As) _
     haveI jj:∀ rest,RdIn (.ow cV3 27 (.slice (some ⟨bb,bo,none⟩) (ys.length+k) c2) (ys++zs)::rest) (.slice (some ⟨bb,bo,none⟩) ys.length c2) V3 cV3 ys:=fun rest=>Zdo rfl (by rw [hz]) (by omega) hbc
     by_cases gx:0 < g.x<;>by_cases gy:0 < g.y<;>by_cases gz:0 < g.z
     all_goals
      (repeat' (first|((show TL _ _ _ _ (_::_) _ _ _;first|refine Zbj ?_|refine Zbh ?_|(refine Zaz ?_;intro _)|refine Zaq ?_|refine Zal ?_|refine Zbi ?_|fail))|(refine Stp.h ?_)|((show Tri _ _ _ (.cond _ _ _) _ _ _;first|refine Zao ?_|refine Zap ?_|refine Zaj ?_|refine Zak ?_|refine Zag ?_|refine Zah ?_|fail))))
      refine Za6 4 ?_
      (repeat' (first|((show TL _ _ _ _ (_::_) _ _ _;first|refine Zbj ?_|refine Zbh ?_|(refine Zaz ?_;intro _)|refine Zaq ?_|refine Zal ?_|refine Zbi ?_|fail))|(refine Stp.h ?_)|((show Tri _ _ _ (.cond _ _ _) _ _ _;first|refine Zao ?_|refine Zap ?_|refine Zaj ?_|refine Zak ?_|refine Zag ?_|refine Zah ?_|fail))))
      refine Zh4 rfl rfl (Zbf rfl rfl (by simp only [List.length_append,hz]) (by simp only [List.length_append,hz];omega) (by simp only [List.length_append,hz];omega) (by simp only [List.length_append];omega)) ?_
      rintro v' _ (⟨rfl,rfl⟩|⟨b',cp',rfl,rfl⟩)
      ·repeat' first|refine Kz ?_|intro _
       refine Post.round (k+1,none) (by simp only;omega) (by simp only;omega) Zae ?_
       show Ents _ (.ow cV3 _ (.slice (some ⟨bb,bo,none⟩) (ys.length+(k+1)) c2) (ys++(ys.take (k+1)).map (shareF (xs.length:Int)))::.cl b5 [.slice (some ⟨ab,ao,none⟩) xs.length c1,.slice (some ⟨bb,bo,none⟩) (ys.length+(k+1)) c2] 25::_)
       rw [Zam hg,hzs,← List.append_assoc]
       simp only [shareF,shareI,gx,gy,gz,if_true,if_false,hn1]
       (exact Zaa)
      ·repeat' first|refine Kz ?_|intro _
       refine Post.round (k+1,some (some ⟨b',0,none⟩,cp')) (by simp only;omega) (by simp only;omega) Zae ?_
       show Ents _ (.ow cV3 _ (.slice (some ⟨b',0,none⟩) (ys.length+(k+1)) cp') (ys++(ys.take (k+1)).map (shareF (xs.length:Int)))::.ow cV3 _ (.slice (some ⟨bb,bo,none⟩) ys.length c2) ys::.cl b5 [.slice (some ⟨ab,ao,none⟩) xs.length c1,.slice (some ⟨b',0,none⟩) (ys.length+(k+1)) cp'] 25::_)
       rw [Zam hg,hzs,← List.append_assoc]
       simp only [shareF,shareI,gx,gy,gz,if_true,if_false,hn1]
       refine Ents.trans (Zek (xs:=ys) (ys:=zs) (some ⟨bb,bo,none⟩) c2 ys.length (ys.length+k) rfl (by rw [List.length_append,hz])) ?_
       (exact Zaa)
    ·show Tri _ _ _ _ _ (.ow cV3 27 (.slice q (ys.length+k) cp) (ys++zs)::.ow cV3 27 (.slice (some ⟨bb,bo,none⟩) ys.length c2) ys::.cl b5 [.slice (some ⟨ab,ao,none⟩) xs.length c1,.slice q (ys.length+k) cp] 25::.ow cV3 27 (.slice (some ⟨ab,ao,none⟩) xs.length c1) xs::.cl b2 [.int .u8 wh,.int .u8 ta,.int .u8 to_,.int .i64 n] 29::.cl b4 [.slice none 0 0,.slice none 0 0] 25::As) _
     by_cases gx:0 < g.x<;>by_cases gy:0 < g.y<;>by_cases gz:0 < g.z
     all_goals
      repeat' first|refine Kf ?_|intro _|constructor
      refine Za6 4 ?_
      repeat' first|refine Kz ?_|intro _
      rename_i v8
      refine Zc9 v8 ?_
      intro p8 c8 hv8
      simp only [List.length_append,hz,List.length_cons,List.length_nil,Nat.zero_add] at hv8
      subst hv8
      refine Post.round (k+1,some (p8,c8)) (by simp only;omega) (by simp only;omega) Zae ?_
      show Ents _ (.ow cV3 _ (.slice p8 (ys.length+(k+1)) c8) (ys++(ys.take (k+1)).map (shareF (xs.length:Int)))::.ow cV3 _ (.slice (some ⟨bb,bo,none⟩) ys.length c2) ys::.cl b5 [.slice (some ⟨ab,ao,none⟩) xs.length c1,.slice p8 (ys.length+(k+1)) c8] 25::_)
      rw [Zam hg,hzs,← List.append_assoc]
      simp only [shareF,shareI,gx,gy,gz,if_true,if_false,hn1]
      (exact Zaa)
   obtain ⟨fq,fcp,hfv,hfe⟩:=Zeg (b:=bb) (off:=bo) (cap:=c2) (k:=k) (xs:=ys) (zs:=zs) o (.cl b5 [.slice (some ⟨ab,ao,none⟩) xs.length c1,grownV bb bo ys.length c2 k o] 25::.ow cV3 27 (.slice (some ⟨ab,ao,none⟩) xs.length c1) xs::.cl b2 [.int .u8 wh,.int .u8 ta,.int .u8 to_,.int .i64 n] 29::.cl b4 [.slice none 0 0,.slice none 0 0] 25::As)
   refine Tri.ents hfe ?_
   rw [hfv]
   clear hfe hfv
   have hkn':k=ys.length:=by omega
   rw [hkn',List.take_length] at hzs
   rw [hkn']
   subst hzs
   clear hkn hkn' hz hc
   haveI j1:∀ rest,RdIn (.ow cV3 27 (.slice (some ⟨ab,ao,none⟩) xs.length c1) xs::rest) (subV 3 (.slice (some ⟨ab,ao,none⟩) xs.length c1) 1 xs.length) V3 cV3 (xs.drop 1):=fun rest=>Zf8 rfl rfl (by omega)
   have hd1:(xs.drop 1).length=xs.length - 1:=List.length_drop
   (repeat' (first|((show TL _ _ _ _ (_::_) _ _ _;first|refine Zbj ?_|refine Zbh ?_|(refine Zaz ?_;intro _)|refine Zaq ?_|refine Zal ?_|refine Zbi ?_|fail))|(refine Stp.h ?_)|((show Tri _ _ _ (.cond _ _ _) _ _ _;first|refine Zao ?_|refine Zap ?_|refine Zaj ?_|refine Zak ?_|refine Zag ?_|refine Zah ?_|fail))))
   refine TL.f rfl rfl (Zco (lo:=1) rfl (Zc5 rfl) Zfy (by omega) (Nat.le_refl _)) ?_
   (repeat' (first|((show TL _ _ _ _ (_::_) _ _ _;first|refine Zbj ?_|refine Zbh ?_|(refine Zaz ?_;intro _)|refine Zaq ?_|refine Zal ?_|refine Zbi ?_|fail))|(refine Stp.h ?_)|((show Tri _ _ _ (.cond _ _ _) _ _ _;first|refine Zao ?_|refine Zap ?_|refine Zaj ?_|refine Zak ?_|refine Zag ?_|refine Zah ?_|fail))))
   refine Tri.loop (ι:=Nat × Option (Option Addr × Nat)) (fun s=>s.1≤(xs.drop 1).length) (fun s=>(xs.drop 1).length - s.1)
        (fun s=>[(2,.pointer (some ⟨b2,0,none⟩)),(4,.pointer (some ⟨b4,0,none⟩)),(5,.pointer (some ⟨b5,0,none⟩)),(6,.int .i64 xs.length),(264,subV 3 (.slice (some ⟨ab,ao,none⟩) xs.length c1) 1 xs.length),(265,.int .i64 (xs.drop 1).length),(266,.int .i64 s.1)])
        (fun s=>grownE ab ao c1 xs s.1 (((xs.drop 1).take s.1).map (shareP o0)) s.2 (.cl b5 [grownV ab ao xs.length c1 s.1 s.2,.slice fq (ys.length+ys.length) fcp] 25::.ow cV3 27 (.slice fq (ys.length+ys.length) fcp) (ys++ys.map (shareF (xs.length:Int)))::.cl b2 [.int .u8 wh,.int .u8 ta,.int .u8 to_,.int .i64 n] 29::.cl b4 [.slice none 0 0,.slice none 0 0] 25::As)) (0,none) (by simp) Zae (by simp only [List.take_zero,List.map_nil];show Ents _ (.ow cV3 _ (.slice (some ⟨ab,ao,none⟩) xs.length c1) (xs++[])::.cl b5 [.slice (some ⟨ab,ao,none⟩) xs.length c1,.slice fq (ys.length+ys.length) fcp] 25::_);rw [List.append_nil];(exact Zaa)) ?_
   rintro ⟨k,o⟩ hkn
   simp only at hkn
   have hz:(((xs.drop 1).take k).map (shareP o0)).length=k:=by simp only [List.length_map,List.length_take];omega
   obtain ⟨zs,hzs⟩:∃ zs,((xs.drop 1).take k).map (shareP o0)=zs:=⟨_,rfl⟩
   rw [hzs] at hz
   show Tri _ _ _ _ [(2,_),(4,_),(5,_),(6,_),(264,_),(265,_),(266,.int .i64 (k:Int))] (grownE ab ao c1 xs k (((xs.drop 1).take k).map (shareP o0)) o (.cl b5 [grownV ab ao xs.length c1 k o,.slice fq (ys.length+ys.length) fcp] 25::.ow cV3 27 (.slice fq (ys.length+ys.length) fcp) (ys++ys.map (shareF (xs.length:Int)))::.cl b2 [.int .u8 wh,.int .u8 ta,.int .u8 to_,.int .i64 n] 29::.cl b4 [.slice none 0 0,.slice none 0 0] 25::As)) _
   rw [hzs]
   (repeat' (first|((show TL _ _ _ _ (_::_) _ _ _;first|refine Zbj ?_|refine Zbh ?_|(refine Zaz ?_;intro _)|refine Zaq ?_|refine Zal ?_|refine Zbi ?_|fail))|(refine Stp.h ?_)|((show Tri _ _ _ (.cond _ _ _) _ _ _;first|refine Zao ?_|refine Zap ?_|refine Zaj ?_|refine Zak ?_|refine Zag ?_|refine Zah ?_|fail))))
   (refine Kx (fun hc=>?_) fun hc=>?_)
   ·obtain ⟨g,hg⟩:∃ g,(xs.drop 1)[k]?=some g:=⟨_,List.getElem?_eq_getElem (by omega)⟩
    rcases o with _|⟨q,cp⟩
    ·show Tri _ _ _ _ _ (.ow cV3 27 (.slice (some ⟨ab,ao,none⟩) (xs.length+k) c1) (xs++zs)::.cl b5 [.slice (some ⟨ab,ao,none⟩) (xs.length+k) c1,.slice fq (ys.length+ys.length) fcp] 25::.ow cV3 27 (.slice fq (ys.length+ys.length) fcp) (ys++ys.map (shareF (xs.length:Int)))::.cl b2 [.int .u8 wh,.int .u8 ta,.int .u8 to_,.int .i64 n] 29::.cl b4 [.slice none 0 0,.slice none 0 0] 25::As) _
     haveI jj:∀ rest,RdIn (.ow cV3 27 (.slice (some ⟨ab,ao,none⟩) (xs.length+k) c1) (xs++zs)::rest) (.slice (some ⟨ab,ao,none⟩) xs.length c1) V3 cV3 xs:=fun rest=>Zdo rfl (by rw [hz]) (by omega) hac
     haveI jk:∀ rest,RdIn (.ow cV3 27 (.slice (some ⟨ab,ao,none⟩) (xs.length+k) c1) (xs++zs)::rest) (subV 3 (.slice (some ⟨ab,ao,none⟩) xs.length c1) 1 xs.length) V3 cV3 (xs.drop 1):=fun rest=>Zf8 rfl rfl (by omega)
     have hlz:(xs++zs).length=xs.length+k:=by rw [List.length_append,hz]
     have h0z:(xs++zs)[0]?=some o0:=by rw [List.getElem?_append_left (by omega)];exact ho0
     have hpre:∀ e rest,Ents (.ow cV3 27 (.slice (some ⟨ab,ao,none⟩) (xs.length+k+1) c1) (xs++zs++[e])::rest) [.ow cV3 27 (.slice (some ⟨ab,ao,none⟩) (xs.length+k) c1) (xs++zs)]:=fun e rest=>Zgk (by rw [hlz]) (by rw [List.length_append,hlz];rfl)
     (repeat' (first|((show TL _ _ _ _ (_::_) _ _ _;first|refine Zbj ?_|refine Zbh ?_|(refine Zaz ?_;intro _)|refine Zaq ?_|refine Zal ?_|refine Zbi ?_|fail))|(refine Stp.h ?_)|((show Tri _ _ _ (.cond _ _ _) _ _ _;first|refine Zao ?_|refine Zap ?_|refine Zaj ?_|refine Zak ?_|refine Zag ?_|refine Zah ?_|fail))))
     rename_i b18
     refine Zbn (.cl b5 [.slice (some ⟨ab,ao,none⟩) (xs.length+k) c1,.slice fq (ys.length+ys.length) fcp] 25::.cl b18 [.int .i64 g.x,.int .i64 g.y,.int .i64 g.z] 27::.ow cV3 27 (.slice fq (ys.length+ys.length) fcp) (ys++ys.map (shareF (xs.length:Int)))::.cl b2 [.int .u8 wh,.int .u8 ta,.int .u8 to_,.int .i64 n] 29::.cl b4 [.slice none 0 0,.slice none 0 0] 25::As) [(6,.w (.slice (some ⟨ab,ao,none⟩) (xs.length+k) c1)),(15,.w (.slice (some ⟨ab,ao,none⟩) (xs.length+k) c1)),(24,.w (.slice (some ⟨ab,ao,none⟩) (xs.length+k) c1))] (.take 0 (.take 1 (.take 2 (.take 3 (.take 4 (.take 5 (.take 6 (.take 7 (.take 8 (.take 9 (.take 10 (.take 11 (.take 12 (.take 13 (.take 14 (.take 15 (.take 16 (.take 17 (.take 18 (.take 19 (.take 20 (.take 21 (.take 22 (.take 23 (.take 24 (.take 25 (.take 26 (.take 27 (.take 28 (.take 29 (.all [(30,.all [(31,.take 32 (.all [(33,.done)]))])]))))))))))))))))))))))))))))))) ?_
     iterate 3
      (repeat' (first|((show TL _ _ _ _ (_::_) _ _ _;first|refine Zbj ?_|refine Zbh ?_|(refine Zaz ?_;intro _)|refine Zaq ?_|refine Zal ?_|refine Zbi ?_|fail))|(refine Stp.h ?_)|(first|(show TT _ _ _ _ _ _ _ _ _;first|refine Zcl ?_|refine Zbz ?_|refine Zbe ?_|refine Zkc ?_|fail)|exact TTs.nil|refine TTs.cons ?_ ?_|(show T1 _ _ _ _ _ _ _ _ _ _;first|refine Zkd ?_|(refine Zf6 ?_;intro _)|refine Zke ?_|refine Zd8 ?_|refine Zcm ?_|fail)|(show TC _ _ _ _ _ _ _ _ _ _;first|refine Zf5 ?_|refine Zd7 ?_|fail))|((show Tri _ _ _ (.cond _ _ _) _ _ _;first|refine Zao ?_|refine Zap ?_|refine Zaj ?_|refine Zak ?_|refine Zag ?_|refine Zah ?_|fail))))
      refine TT.take rfl rfl rfl (Za3 (i:=0) rfl rfl (by omega)) ?_
     (repeat' (first|((show TL _ _ _ _ (_::_) _ _ _;first|refine Zbj ?_|refine Zbh ?_|(refine Zaz ?_;intro _)|refine Zaq ?_|refine Zal ?_|refine Zbi ?_|fail))|(refine Stp.h ?_)|(first|(show TT _ _ _ _ _ _ _ _ _;first|refine Zcl ?_|refine Zbz ?_|refine Zbe ?_|refine Zkc ?_|fail)|exact TTs.nil|refine TTs.cons ?_ ?_|(show T1 _ _ _ _ _ _ _ _ _ _;first|refine Zkd ?_|(refine Zf6 ?_;intro _)|refine Zke ?_|refine Zd8 ?_|refine Zcm ?_|fail)|(show TC _ _ _ _ _ _ _ _ _ _;first|refine Zf5 ?_|refine Zd7 ?_|fail))|((show Tri _ _ _ (.cond _ _ _) _ _ _;first|refine Zao ?_|refine Zap ?_|refine Zaj ?_|refine Zak ?_|refine Zag ?_|refine Zah ?_|fail))))
     refine Zgp rfl rfl rfl (Zbf rfl rfl (by simp only [List.length_append,hz]) (by simp only [List.length_append,hz];omega) (by simp only [List.length_append,hz];omega) (by simp only [List.length_append];omega)) ?_
     rintro v' _ (⟨rfl,rfl⟩|⟨b',cp',rfl,rfl⟩)
     ·refine Zmi (Keep.c (hpre _ _) (Keep.c (hpre _ _) (Keep.c (hpre _ _) Keep.nil))) ?_
      repeat' first|refine Kf ?_|intro _|constructor
      refine Post.round (k+1,none) (by simp only;omega) (by simp only;omega) Zae ?_
      show Ents _ (.ow cV3 _ (.slice (some ⟨ab,ao,none⟩) (xs.length+(k+1)) c1) (xs++((xs.drop 1).take (k+1)).map (shareP o0))::.cl b5 [.slice (some ⟨ab,ao,none⟩) (xs.length+(k+1)) c1,.slice fq (ys.length+ys.length) fcp] 25::_)
      rw [Zam hg,hzs,← List.append_assoc]
      rw [show shareP o0 g=⟨IntKind.i64.wrap (IntKind.i64.wrap (2 * o0.x) - g.x),IntKind.i64.wrap (IntKind.i64.wrap (2 * o0.y) - g.y),IntKind.i64.wrap (IntKind.i64.wrap (2 * o0.z) - g.z)⟩ from rfl]
      (exact Zaa)
     ·repeat' first|refine Kf ?_|intro _|constructor
      refine Post.round (k+1,some (some ⟨b',0,none⟩,cp')) (by simp only;omega) (by simp only;omega) Zae ?_
      show Ents _ (.ow cV3 _ (.slice (some ⟨b',0,none⟩) (xs.length+(k+1)) cp') (xs++((xs.drop 1).take (k+1)).map (shareP o0))::.ow cV3 _ (.slice (some ⟨ab,ao,none⟩) xs.length c1) xs::.cl b5 [.slice (some ⟨b',0,none⟩) (xs.length+(k+1)) cp',.slice fq (ys.length+ys.length) fcp] 25::_)
      rw [Zam hg,hzs,← List.append_assoc]
      rw [show shareP o0 g=⟨IntKind.i64.wrap (IntKind.i64.wrap (2 * o0.x) - g.x),IntKind.i64.wrap (IntKind.i64.wrap (2 * o0.y) - g.y),IntKind.i64.wrap (IntKind.i64.wrap (2 * o0.z) - g.z)⟩ from rfl]
      refine Ents.trans (Zek (xs:=xs) (ys:=zs) (some ⟨ab,ao,none⟩) c1 xs.length (xs.length+k) rfl (by rw [List.length_append,hz])) ?_
      (exact Zaa)
    ·show Tri _ _ _ _ _ (.ow cV3 27 (.slice q (xs.length+k) cp) (xs++zs)::.ow cV3 27 (.slice (some ⟨ab,ao,none⟩) xs.length c1) xs::.cl b5 [.slice q (xs.length+k) cp,.slice fq (ys.length+ys.length) fcp] 25::.ow cV3 27 (.slice fq (ys.length+ys.length) fcp) (ys++ys.map (shareF (xs.length:Int)))::.cl b2 [.int .u8 wh,.int .u8 ta,.int .u8 to_,.int .i64 n] 29::.cl b4 [.slice none 0 0,.slice none 0 0] 25::As) _
     haveI jk:∀ rest,RdIn (.ow cV3 27 (.slice (some ⟨ab,ao,none⟩) xs.length c1) xs::rest) (subV 3 (.slice (some ⟨ab,ao,none⟩) xs.length c1) 1 xs.length) V3 cV3 (xs.drop 1):=fun rest=>Zf8 rfl rfl (by omega)
     have hlz0:(xs++zs).length=xs.length+k:=by rw [List.length_append,hz]
     refine Tri.open (.slice q (xs.length+k) cp) (xs:=xs++zs) (List.ne_nil_of_length_pos (by omega)) ?_
     intro qb qo qc hqc he
     injection he with g1 _ g2
     subst g1 g2
     have hlz:(xs++zs).length=xs.length+k:=by rw [List.length_append,hz]
     have h0z:(xs++zs)[0]?=some o0:=by rw [List.getElem?_append_left (by omega)];exact ho0
     have hpre:∀ e rest,Ents (.ow cV3 27 (.slice (some ⟨qb,qo,none⟩) (xs.length+k+1) cp) (xs++zs++[e])::rest) [.ow cV3 27 (.slice (some ⟨qb,qo,none⟩) (xs.length+k) cp) (xs++zs)]:=fun e rest=>Zgk (by rw [hlz]) (by rw [List.length_append,hlz];rfl)
     (repeat' (first|((show TL _ _ _ _ (_::_) _ _ _;first|refine Zbj ?_|refine Zbh ?_|(refine Zaz ?_;intro _)|refine Zaq ?_|refine Zal ?_|refine Zbi ?_|fail))|(refine Stp.h ?_)|((show Tri _ _ _ (.cond _ _ _) _ _ _;first|refine Zao ?_|refine Zap ?_|refine Zaj ?_|refine Zak ?_|refine Zag ?_|refine Zah ?_|fail))))
     rename_i b18
     refine Zbn (.cl b5 [.slice (some ⟨qb,qo,none⟩) (xs.length+k) cp,.slice fq (ys.length+ys.length) fcp] 25::.cl b18 [.int .i64 g.x,.int .i64 g.y,.int .i64 g.z] 27::.ow cV3 27 (.slice fq (ys.length+ys.length) fcp) (ys++ys.map (shareF (xs.length:Int)))::.cl b2 [.int .u8 wh,.int .u8 ta,.int .u8 to_,.int .i64 n] 29::.cl b4 [.slice none 0 0,.slice none 0 0] 25::As) [(6,.w (.slice (some ⟨qb,qo,none⟩) (xs.length+k) cp)),(15,.w (.slice (some ⟨qb,qo,none⟩) (xs.length+k) cp)),(24,.w (.slice (some ⟨qb,qo,none⟩) (xs.length+k) cp))] (.take 0 (.take 1 (.take 2 (.take 3 (.take 4 (.take 5 (.take 6 (.take 7 (.take 8 (.take 9 (.take 10 (.take 11 (.take 12 (.take 13 (.take 14 (.take 15 (.take 16 (.take 17 (.take 18 (.take 19 (.take 20 (.take 21 (.take 22 (.take 23 (.take 24 (.take 25 (.take 26 (.take 27 (.take 28 (.take 29 (.all [(30,.all [(31,.take 32 (.all [(33,.done)]))])]))))))))))))))))))))))))))))))) ?_
     iterate 3
      (repeat' (first|((show TL _ _ _ _ (_::_) _ _ _;first|refine Zbj ?_|refine Zbh ?_|(refine Zaz ?_;intro _)|refine Zaq ?_|refine Zal ?_|refine Zbi ?_|fail))|(refine Stp.h ?_)|(first|(show TT _ _ _ _ _ _ _ _ _;first|refine Zcl ?_|refine Zbz ?_|refine Zbe ?_|refine Zkc ?_|fail)|exact TTs.nil|refine TTs.cons ?_ ?_|(show T1 _ _ _ _ _ _ _ _ _ _;first|refine Zkd ?_|(refine Zf6 ?_;intro _)|refine Zke ?_|refine Zd8 ?_|refine Zcm ?_|fail)|(show TC _ _ _ _ _ _ _ _ _ _;first|refine Zf5 ?_|refine Zd7 ?_|fail))|((show Tri _ _ _ (.cond _ _ _) _ _ _;first|refine Zao ?_|refine Zap ?_|refine Zaj ?_|refine Zak ?_|refine Zag ?_|refine Zah ?_|fail))))
      refine TT.take rfl rfl rfl (Za3 (i:=0) rfl rfl (by omega)) ?_
     (repeat' (first|((show TL _ _ _ _ (_::_) _ _ _;first|refine Zbj ?_|refine Zbh ?_|(refine Zaz ?_;intro _)|refine Zaq ?_|refine Zal ?_|refine Zbi ?_|fail))|(refine Stp.h ?_)|(first|(show TT _ _ _ _ _ _ _ _ _;first|refine Zcl ?_|refine Zbz ?_|refine Zbe ?_|refine Zkc ?_|fail)|exact TTs.nil|refine TTs.cons ?_ ?_|(show T1 _ _ _ _ _ _ _ _ _ _;first|refine Zkd ?_|(refine Zf6 ?_;intro _)|refine Zke ?_|refine Zd8 ?_|refine Zcm ?_|fail)|(show TC _ _ _ _ _ _ _ _ _ _;first|refine Zf5 ?_|refine Zd7 ?_|fail))|((show Tri _ _ _ (.cond _ _ _) _ _ _;first|refine Zao ?_|refine Zap ?_|refine Zaj ?_|refine Zak ?_|refine Zag ?_|refine Zah ?_|fail))))
     refine Zgp rfl rfl rfl (Zbf rfl rfl (by simp only [List.length_append,hz]) (by simp only [List.length_append,hz];omega) (by simp only [List.length_append,hz];omega) (by simp only [List.length_append];omega)) ?_
     rintro v' _ (⟨rfl,rfl⟩|⟨b',cp',rfl,rfl⟩)
     ·refine Zmi (Keep.c (hpre _ _) (Keep.c (hpre _ _) (Keep.c (hpre _ _) Keep.nil))) ?_
      repeat' first|refine Kf ?_|intro _|constructor
      refine Post.round (k+1,some (some ⟨qb,qo,none⟩,cp)) (by simp only;omega) (by simp only;omega) Zae ?_
      show Ents _ (.ow cV3 _ (.slice (some ⟨qb,qo,none⟩) (xs.length+(k+1)) cp) (xs++((xs.drop 1).take (k+1)).map (shareP o0))::.ow cV3 _ (.slice (some ⟨ab,ao,none⟩) xs.length c1) xs::.cl b5 [.slice (some ⟨qb,qo,none⟩) (xs.length+(k+1)) cp,.slice fq (ys.length+ys.length) fcp] 25::_)
      rw [Zam hg,hzs,← List.append_assoc]
      rw [show shareP o0 g=⟨IntKind.i64.wrap (IntKind.i64.wrap (2 * o0.x) - g.x),IntKind.i64.wrap (IntKind.i64.wrap (2 * o0.y) - g.y),IntKind.i64.wrap (IntKind.i64.wrap (2 * o0.z) - g.z)⟩ from rfl]
      (exact Zaa)
     ·repeat' first|refine Kf ?_|intro _|constructor
      refine Post.round (k+1,some (some ⟨b',0,none⟩,cp')) (by simp only;omega) (by simp only;omega) Zae ?_
      show Ents _ (.ow cV3 _ (.slice (some ⟨b',0,none⟩) (xs.length+(k+1)) cp') (xs++((xs.drop 1).take (k+1)).map (shareP o0))::.ow cV3 _ (.slice (some ⟨ab,ao,none⟩) xs.length c1) xs::.cl b5 [.slice (some ⟨b',0,none⟩) (xs.length+(k+1)) cp',.slice fq (ys.length+ys.length) fcp] 25::_)
      rw [Zam hg,hzs,← List.append_assoc]
      rw [show shareP o0 g=⟨IntKind.i64.wrap (IntKind.i64.wrap (2 * o0.x) - g.x),IntKind.i64.wrap (IntKind.i64.wrap (2 * o0.y) - g.y),IntKind.i64.wrap (IntKind.i64.wrap (2 * o0.z) - g.z)⟩ from rfl]
      (exact Zaa)
   obtain ⟨aq,acp,hfv,hfe⟩:=Zeg (b:=ab) (off:=ao) (cap:=c1) (k:=k) (xs:=xs) (zs:=zs) o (.cl b5 [grownV ab ao xs.length c1 k o,.slice fq (ys.length+ys.length) fcp] 25::.ow cV3 27 (.slice fq (ys.length+ys.length) fcp) (ys++ys.map (shareF (xs.length:Int)))::.cl b2 [.int .u8 wh,.int .u8 ta,.int .u8 to_,.int .i64 n] 29::.cl b4 [.slice none 0 0,.slice none 0 0] 25::As)
   refine Tri.ents hfe ?_
   rw [hfv]
   clear hfe hfv
   have hkn':k=(xs.drop 1).length:=by omega
   rw [hkn',List.take_length] at hzs
   rw [hkn']
   subst hzs
   clear hkn hkn' hz hc
   repeat' first|refine Kz ?_|intro _
   (refine Zad ?_)
   exact Zas rfl rfl (fin ⟨by simp only [List.length_append,List.length_map];omega,by simp only [List.length_append,List.length_map];omega,fun h=>by omega,fun _ _ _ _ _=>⟨by rw [hpt],rfl⟩⟩)
  ·repeat' first|refine Kz ?_|intro _
   (refine Zad ?_)
   exact Zas rfl rfl (fin (Zar (by (try simp only [List.length_set,List.length_append,List.length_cons,List.length_nil,List.length_take,List.length_drop,List.length_eraseIdx]);first|omega|(split<;>omega)) (by (try simp only [List.length_set,List.length_append,List.length_cons,List.length_nil,List.length_eraseIdx]);first|omega|(split<;>omega)) (by omega) (by omega)))
end Go.Proofs.YtlgdjjkiofcdmaaDoor
namespace Go.Proofs.YtlgdjjkiofcdmaaDoor
open Go Go.Sx
variable {w0:World} {As:List Ent}
set_option maxRecDepth 4000 in
set_option maxHeartbeats 4000000 in
theorem Zpr (ht:Tab w0):CQ Tryd.prog w0 4 [] As (.bool true):=by
 have hlP:tetP.length=4:=rfl
 have hlF:tetF.length=4:=rfl
 have hF3:tetF[3]?=some ⟨1,2,3⟩:=rfl
 have hF2:tetF[2]?=some ⟨0,3,2⟩:=rfl
 have hP3:tetP[3]?=some ⟨0,0,1000⟩:=rfl
 refine Zab Tryd.func4 rfl Tryd.ntmps4 rfl ?_
 repeat' first|refine Kz ?_|intro _
 refine TL.call rfl rfl rfl Za0 ?_
 rintro _ _ ⟨bp,bf,rfl,rfl⟩
 repeat' first|refine Kz ?_|intro _
 refine TL.call rfl rfl rfl Za0 ?_
 rintro _ _ ⟨bp1,bf1,rfl,rfl⟩
 repeat' first|refine Kz ?_|intro _
 refine TL.call rfl rfl rfl Za0 ?_
 rintro _ _ ⟨bp2,bf2,rfl,rfl⟩
 repeat' first|refine Kz ?_|intro _
 refine TL.call rfl rfl rfl Za0 ?_
 rintro _ _ ⟨bp3,bf3,rfl,rfl⟩
 repeat' first|refine Kz ?_|intro _
 refine TL.call rfl rfl rfl Za0 ?_
 rintro _ _ ⟨bp4,bf4,rfl,rfl⟩
 repeat' first|refine Kz ?_|intro _
 have hok:okM tetP tetF:=by rw [okM,Zq6]
 refine Kt rfl (Zde ht) ?_
 rw [if_pos hok,Zrt,Zpv]
 repeat' first|refine Kz ?_|intro _
 refine Kt rfl Zlc ?_
 rw [Znc]
 repeat' first|refine Kz ?_|intro _
 refine Kt rfl Zrf ?_
 rw [Zrv]
 repeat' first|refine Kz ?_|intro _
 refine Kt rfl (Zcc ht) ?_
 rw [Zq6,show (decide (((((0:Nat),(0:Nat)).1:Nat):Int)=0∧((((0:Nat),(0:Nat)).2:Nat):Int)=0))=true by decide]
 repeat' first|refine Kz ?_|intro _
 refine TL.call rfl rfl rfl Zif ?_
 intro _ _ h
 obtain ⟨pv1,fv1,rfl,h1,h2,rfl⟩:=Zch Zjt h
 repeat' first|refine Kz ?_|intro _
 refine Kt rfl (Zde ht) ?_
 rw [if_pos Zru,Zpu,Zna]
 repeat' first|refine Kz ?_|intro _
 refine TL.call rfl rfl rfl (Zed (b:=⟨199000,0,0⟩)) ?_
 intro _ _ h
 obtain ⟨pv2,fv2,rfl,h3,h4,rfl⟩:=Zch Znb h
 have hlM:(tetP.map (·.add ⟨199000,0,0⟩)).length=4:=rfl
 have hM1:(tetP.map (·.add ⟨199000,0,0⟩))[1]?=some ⟨200000,0,0⟩:=rfl
 repeat' first|refine Kz ?_|intro _
 refine TL.call rfl rfl rfl (Zed (b:=⟨199001,0,0⟩)) ?_
 intro _ _ h
 obtain ⟨pv3,fv3,rfl,h5,h6,rfl⟩:=Zch Zl3 h
 repeat' first|refine Kz ?_|intro _
 refine Kt rfl (Zcc ht) ?_
 rw [show (tetF.drop 0).take (3 - 0)=tetF.take 3 from rfl,Zpw,show (decide (((((1:Nat),(1:Nat)).1:Nat):Int)=1∧((((1:Nat),(1:Nat)).2:Nat):Int)=1))=true by decide]
 repeat' first|refine Kz ?_|intro _
 refine Kt rfl (Zcc ht) ?_
 rw [Zl2,show (decide (((((5:Nat),(3:Nat)).1:Nat):Int)=5∧((((5:Nat),(3:Nat)).2:Nat):Int)=3))=true by decide]
 repeat' first|refine Kz ?_|intro _
 refine Kt rfl (Zcc ht) ?_
 rw [Zpx,show (decide (((((4:Nat),(2:Nat)).1:Nat):Int)=4∧((((4:Nat),(2:Nat)).2:Nat):Int)=2))=true by decide]
 repeat' first|refine Kz ?_|intro _
 refine Kt rfl (Zcc ht) ?_
 rw [Zm9,show (decide (((((3:Nat),(2:Nat)).1:Nat):Int)=3∧((((3:Nat),(2:Nat)).2:Nat):Int)=2))=true by decide]
 repeat' first|refine Kz ?_|intro _
 exact Kv
end Go.Proofs.YtlgdjjkiofcdmaaDoor
namespace Go.Proofs.YtlgdjjkiofcdmaaDoor
open Go Go.Sx
variable {w0:World} {As:List Ent} {pv fv:Value} {pts fcs:List V3}
structure DraftA where
 kd:Int
 sz:Int
 a0:Int
 a1:Int
 a2:Int
 ov:Value
 off:List Int
 tn:Bool
def DraftA.ok (d:DraftA):Prop:=(0≤d.kd∧d.kd≤255)∧(0≤d.sz∧d.sz≤255)∧(-32768≤d.a0∧d.a0≤32767)∧(-32768≤d.a1∧d.a1≤32767)∧(-32768≤d.a2∧d.a2≤32767)∧(∀ x∈d.off,-128≤x∧x≤127)∧d.off.length≤9223372036854775807
def DraftA.cells (d:DraftA):List Value:=[.int .u8 d.kd,.int .u8 d.sz,.int .i16 d.a0,.int .i16 d.a1,.int .i16 d.a2,d.ov,.bool d.tn]
def DraftA.mesh (d:DraftA):List V3 × List V3:=draftM (d.kd % 4).toNat (1000+100 * d.sz) ⟨d.a0,d.a1,d.a2⟩ d.off d.tn
structure BendA where
 wh:Int
 ta:Int
 to_:Int
 n:Int
def BendA.ok (b:BendA):Prop:=(0≤b.wh∧b.wh≤255)∧(0≤b.ta∧b.ta≤255)∧(0≤b.to_∧b.to_≤255)
end Go.Proofs.YtlgdjjkiofcdmaaDoor
