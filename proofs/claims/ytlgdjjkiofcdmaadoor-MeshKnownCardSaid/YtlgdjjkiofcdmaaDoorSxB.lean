/- The engine, part 11: append to a slice whose old value is read on (it is ranged over); append of a slice's end to its beginning. -/
import Derived.Test.YtlgdjjkiofcdmaaDoorSx9
import Derived.Laws.CopyRow
import Derived.Laws.IdiomCopy
import Derived.Laws.Entries
set_option maxHeartbeats 1000000
namespace Go.Sx
open Go
section
variable {P:Program} {N:Ctx} {w0 w:World} {e:Env} {As rest:List Ent} {Q:Exit→Act→World→Prop} {ty:TypeId} {x y:Operand} {u:Value} {α:Type} {c:Cod α} {xs ys:List α}
theorem Zml {t tx ty' el:TypeId} {z0:α} {by_ b off cap:Nat} [ht:UL P t (.slice el)] [hel:ElC P el α c z0 by_] {xv:Value} (hs:St w0 w (.ow c el (.slice (some ⟨b,off,none⟩) xs.length cap) xs::rest)) (hsrc:Src P c.n tx xv ys.length (c.flat ys) w)
  (hb:(xs.length+ys.length) * by_≤140737488355328) (h63:xs.length+ys.length≤9223372036854775807) (hpos:0 < xs.length) :
  ∃ v' w',(Builtin.append_ #[t,tx] ty' #[.slice (some ⟨b,off,none⟩) xs.length cap,xv]).run P w=.ok v' w' ∧
    ((v'=.slice (some ⟨b,off,none⟩) (xs.length+ys.length) cap∧St w0 w' (.ow c el v' (xs++ys)::rest)) ∨
     (∃ b' cap',v'=.slice (some ⟨b',0,none⟩) (xs.length+ys.length) cap'∧St w0 w' (.ow c el v' (xs++ys)::.ow c el (.slice (some ⟨b,off,none⟩) xs.length cap) xs::rest))):=by
 obtain ⟨i,z,hi,hz,hsz,hby,hzc⟩:=hel.h
 have hs0:=hs
 obtain ⟨H,bs,G⟩:=hs
 rcases G.sat with ⟨h1,h2,hr⟩|⟨b',bs',rfl,⟨off',cap',front,rest',h1,h3,h4,h5,hw⟩,hr⟩
 ·subst h2;simp at hpos
 ·obtain ⟨⟨rfl,rfl⟩,rfl⟩:(b=b'∧off=off')∧cap=cap':=by simpa using h1
  by_cases hroom:xs.length+ys.length≤cap
  ·have hmul:c.n * xs.length+c.n * ys.length≤c.n * cap:=by rw [← Nat.mul_add];exact Nat.mul_le_mul_left _ hroom
   have hfl:=Zac c xs
   have hfly:=Zac c ys
   have e0:xs.length * c.n=c.n * xs.length:=Nat.mul_comm _ _
   have e9:ys.length * c.n=c.n * ys.length:=Nat.mul_comm _ _
   simp only [List.length_append] at h5
   have hrun:=Zbd (P:=P) (w:=w) (t:=t) (tx:=tx) (ty:=ty') ht.h hi (b:=b) (off:=off) (sLen:=xs.length) (sCap:=cap) (x:=xv) (n:=ys.length) (news:=c.flat ys) (by rw [hsz];exact hsrc) hw hroom (by simp only [List.length_append,hsz];omega)
   refine ⟨_,_,hrun,.inl ⟨rfl,H,b::bs',G.setBlock hr fun w' hw'=>?_⟩⟩
   refine .inr ⟨b,[],rfl,⟨off,cap,front,rest'.drop (c.flat ys).length,by simp,h3,by simpa using hroom,?_,?_⟩,rfl⟩
   ·simp only [List.length_append,Zaf,List.length_drop];omega
   ·rw [hw',Zbu hw]
    congr 2
    have e2:off+xs.length * i.size=(front++c.flat xs).length+0:=by simp only [List.length_append,Zac,h3,hsz];rfl
    have e3:=Zdg (front++c.flat xs) rest' [] (c.flat ys) 0 (by omega)
    rw [List.append_nil,List.append_nil] at e3
    rw [e2,e3]
    simp [setAll,Zaf]
  ·have hold:(Builtin.firstCells i.size xs.length (.slice (some ⟨b,off,none⟩) xs.length cap)).run P w.drew=.ok (c.flat xs).toArray w.drew:=by
        refine run_firstCells_some w.drew i.size xs.length ⟨b,off,none⟩ xs.length cap (c.flat xs) (by rw [Zac,hsz]) fun j u hj=>?_
        rw [Zai]
        have hjl:j < (c.flat xs).length:=(List.getElem?_eq_some_iff.1 hj).1
        have hw':w.drew.heap[b]?=some (.cells (front++c.flat xs++rest').toArray el (0,0)):=hw
        simp only [World.cell?,hw']
        subst h3
        rw [List.getElem?_eq_getElem hjl,Option.some.injEq] at hj
        simp [List.getElem?_append,hjl,hj]
   have hsrc':Src P i.size tx xv ys.length (c.flat ys) w:=by rw [hsz];exact hsrc
   have hrun:=run_append_grow_src w t tx ty' el i z ht.h hi hz (some ⟨b,off,none⟩) xs.length cap (c.flat xs) hold xv ys.length (c.flat ys) hsrc' (by omega) (by omega) (growslice_fits (by omega) (by rw [hby];exact hb))
   have hcap:=grownCap_ge w (xs.length+ys.length) cap el
   generalize grownCap w (xs.length+ys.length) cap el=newCap at *
   obtain ⟨H0,bs0,g0⟩:=hs0.drew
   have g1:=g0.alloc (.cells ((c.flat xs++c.flat ys).toArray++Builtin.zeroCells z.cells (newCap - (xs.length+ys.length))) el)
   refine ⟨_,_,hrun,.inr ⟨_,_,rfl,H0,_,g1.size,g1.os,g1.tape,g1.output,g1.fz,g1.old,?_,g1.nd,g1.ap⟩⟩
   obtain ⟨bs',he,hw2,hr2⟩:=g1.sat
   refine .inr ⟨_,bs',he,⟨0,newCap,[],(Builtin.zeroCells z.cells (newCap - (xs.length+ys.length))).toList,by simp,rfl,by simpa using hcap,?_,?_⟩,hr2⟩
   ·have hzs:z.cells.size=c.n:=by rw [← c.len z0,← hzc];simp
    simp only [List.length_append,Zac,Array.length_toList,Zce,hzs]
    rw [Nat.mul_comm c.n,← Nat.add_mul]
    exact Nat.mul_le_mul_right _ (by omega)
   ·rw [hw2]
    congr 2
    apply Array.ext'
    simp [Zaf]
theorem RdIn.pre {T:TypeId} {p:Option Addr} {cap cap':Nat} (h0:0 < xs.length) (h:xs.length≤cap'):RdIn (.ow c T (.slice p (xs.length+ys.length) cap) (xs++ys)::rest) (.slice p xs.length cap') α c xs:=⟨fun w0 w ⟨H,bs,g⟩=>by
 rcases g.sat with ⟨h1,h2,_⟩|⟨b,bs',_,⟨off,cap,front,rest,h1,h2,h3,h4,hw⟩,_⟩
 ·have:xs=[]:=(List.append_eq_nil_iff.1 h2).1
  subst this
  simp at h0
 ·simp only [Value.slice.injEq] at h1
  obtain ⟨rfl,_,rfl⟩:=h1
  exact .inr ⟨b,off,cap',front,c.flat ys++rest,T,(0,0),rfl,h2,h,by show w.heap[b]?=_;rw [hw,Zaf];simp⟩⟩
theorem Zjg {t el:TypeId} {z0:α} {by_ b0 off cap b m:Nat} {l:List Value} {T:TypeId} {y1:α} {rest':List Ent} [UL P t (.slice el)] [ElC P el α c z0 by_] (hx:ev e x=some (.slice (some ⟨b0,off,none⟩) xs.length cap)) (hy:ev e y=some (.slice (some ⟨b,0,none⟩) 1 m)) [h:TakeC As b l T rest] [h':TakeW rest (.slice (some ⟨b0,off,none⟩) xs.length cap) c el xs rest']
  (hen:l=c.enc y1) (hb:(xs.length+1) * by_≤140737488355328) (h63:xs.length+1≤9223372036854775807) (hpos:0 < xs.length):ExR P N w0 (.call ⟨.builtin .append,#[x,y],#[t,t]⟩) ty e As (fun v' As' =>
   (v'=.slice (some ⟨b0,off,none⟩) (xs.length+1) cap∧As'=.ow c el v' (xs++[y1])::rest') ∨
   (∃ b' cap',v'=.slice (some ⟨b',0,none⟩) (xs.length+1) cap'∧As'=.ow c el v' (xs++[y1])::.ow c el (.slice (some ⟨b0,off,none⟩) xs.length cap) xs::rest')):=by
 unfold ExR
 intro a w ha hs d pos af g
 have hw:=Zb9 (b:=b) (l:=l) (T:=T) (rest:=rest) hs
 have hsrc:Src P c.n t (.slice (some ⟨b,0,none⟩) 1 m) [y1].length (c.flat [y1]) w:=by
  refine Src.ofSlice w (UL.h (P:=P)) _ _ _ _ (by rw [Zac];rfl) (fun j u hj=>?_) (c.flat_one _)
  rw [Zai]
  simp only [Cod.flat,List.flatMap_cons,List.flatMap_nil,List.append_nil] at hj
  simp [World.cell?,hw,hen,hj]
 obtain ⟨v',w',h1,h2⟩:=Zml (P:=P) (t:=t) (tx:=t) (ty':=ty) (Ents.perm h'.perm w0 w (Zbc w0 w (Ents.perm h.perm w0 w hs))) hsrc hb h63 hpos
 rcases h2 with ⟨hv,h2⟩|⟨b',cap',hv,h2⟩
 ·exact ⟨v',w',_,by simp [execOp,ha.eval hx,ha.eval hy,resolve,invoke,builtin,h1],.inl ⟨hv,rfl⟩,h2⟩
 ·exact ⟨v',w',_,by simp [execOp,ha.eval hx,ha.eval hy,resolve,invoke,builtin,h1],.inr ⟨b',cap',hv,rfl⟩,h2⟩
end
end Go.Sx
namespace Go.Sx
open Go
section
variable {P:Program} {N:Ctx} {w0 w:World} {e:Env} {As rest:List Ent} {Q:Exit→Act→World→Prop} {ty:TypeId} {x y:Operand} {u v:Value} {α:Type} {c:Cod α} {xs ys:List α}
theorem Zco {t el:TypeId} {zv:Value} {n b' lo hi:Nat} {l h:Option Operand} [UL P t (.slice el)] [TI P el zv n b'] (hx:ev e x=some v) [hr:RdIn As v α c xs] (hl:evLo e l lo) (hh:evHi e xs.length h hi) (h1:lo≤hi) (h2:hi≤xs.length) :
  ExF P N w0 (.slice t x l h none) ty e As (subV n v lo hi):=by
 unfold ExF
 intro a w ha hs d pos af g
 obtain ⟨p,cap,hv,hcap⟩:=(hr.get w0 w hs).len
 have:=Znj (P:=P) (w:=w) (t:=t) (el:=el) (zv:=zv) (n:=n) (b':=b') (p:=p) (hl.run ha) (hh.run ha) h1 h2 hcap
 simp [execOp,ha.eval hx,hv,Ze5,this]
theorem Zib {t el:TypeId} {z0:α} {by_ n k m:Nat} (v:Value) [UL P t (.slice el)] [hel:ElC P el α c z0 by_] (hx:ev e x=some (subV n v 0 k)) (hy:ev e y=some (subV n v (k+1) m)) [h:TakeW As v c el xs rest] (hcn:c.n=n) (hm:m=xs.length) (hk:k < xs.length) :
  ExR P N w0 (.call ⟨.builtin .append,#[x,y],#[t,t]⟩) ty e As (RW c el (xs.eraseIdx k) rest):=by
 subst hcn hm
 unfold ExR
 intro a w ha hs d pos af g
 obtain ⟨i,z,hi,hz,hsz,hby,hzc⟩:=hel.h
 have hs':=Ents.perm h.perm w0 w hs
 have hrd:=(inferInstance:RdIn (.ow c el v xs::rest) v α c xs).get w0 w hs'
 have hsrc:Src P c.n t (subV c.n v (k+1) xs.length) (xs.drop (k+1)).length (c.flat (xs.drop (k+1))) w:=by
  have h0:=Rdb.sub hrd (lo:=k+1) (hi:=xs.length) (by omega) (Nat.le_refl _)
  rw [List.take_of_length_le (by simp)] at h0
  exact Rdb.src (P:=P) (tx:=t) h0
 obtain ⟨H,bs,G⟩:=hs'
 rcases G.sat with ⟨_,h2,_⟩|⟨b,bs',rfl,⟨off,cap,front,rest',h1,h3,h4,h5,hw⟩,hr⟩
 ·subst h2;simp at hk
 ·have hx':subV c.n v 0 k=.slice (some ⟨b,off,none⟩) k cap:=by
   rw [h1]
   simp [subV,Addr.add]
  have hfx:c.flat xs=c.flat (xs.take k)++c.flat (xs.drop k):=by rw [← Zaf,List.take_append_drop]
  have lt:(c.flat (xs.take k)).length=k * c.n:=by rw [Zac,List.length_take,Nat.min_eq_left (by omega)]
  have ld:(c.flat (xs.drop k)).length=(xs.length - k) * c.n:=by rw [Zac,List.length_drop]
  have ln:(c.flat (xs.drop (k+1))).length=(xs.length - (k+1)) * c.n:=by rw [Zac,List.length_drop]
  have hle:(xs.length - (k+1)) * c.n≤(xs.length - k) * c.n:=Nat.mul_le_mul_right _ (by omega)
  have hrun:=Zbd (P:=P) (w:=w) (t:=t) (tx:=t) (ty:=ty) (UL.h (P:=P)) hi (b:=b) (off:=off) (sLen:=k) (sCap:=cap) (x:=subV c.n v (k+1) xs.length) (n:=(xs.drop (k+1)).length) (news:=c.flat (xs.drop (k+1))) (by rw [hsz];exact hsrc) hw (by rw [List.length_drop];omega)
   (by rw [hsz,hfx];simp only [List.length_append,lt,ld,ln,h3];omega)
  rw [← hx'] at hrun
  obtain ⟨v',hv'⟩:∃ v',v'=Value.slice (some ⟨b,off,none⟩) (k+(xs.drop (k+1)).length) cap:=⟨_,rfl⟩
  obtain ⟨w1,hw1⟩:∃ w1,w1=w.setRow b (setAll (front++c.flat xs++rest') (off+k * i.size) (c.flat (xs.drop (k+1)))).toArray:=⟨_,rfl⟩
  rw [← hv',← hw1] at hrun
  refine ⟨v',w1,_,by simp [execOp,ha.eval hx,ha.eval hy,resolve,invoke,builtin,hrun],rfl,?_⟩
  subst hv' hw1
  refine ⟨H,b::bs',G.setBlock hr fun w' hw'=>?_⟩
  have hel':xs.eraseIdx k=xs.take k++xs.drop (k+1):=List.eraseIdx_eq_take_drop_succ xs k
  have hll:(xs.eraseIdx k).length=k+(xs.drop (k+1)).length:=by rw [hel',List.length_append,List.length_take,Nat.min_eq_left (by omega)]
  refine .inr ⟨b,[],rfl,⟨off,cap,front,(c.flat (xs.drop k)++rest').drop (c.flat (xs.drop (k+1))).length,by rw [hll],h3,by rw [hll,List.length_drop];omega,?_,?_⟩,rfl⟩
  ·rw [hfx] at h5
   simp only [List.length_append,hel',Zaf,List.length_drop,lt,ld,ln] at h5 ⊢
   omega
  ·rw [hw',Zbu hw]
   congr 2
   have e2:off+k * i.size=(front++c.flat (xs.take k)).length+0:=by simp only [List.length_append,lt,h3,hsz];rfl
   have e3:=Zdg (front++c.flat (xs.take k)) (c.flat (xs.drop k)++rest') [] (c.flat (xs.drop (k+1))) 0 (by simp only [List.length_append,ld,ln];omega)
   rw [List.append_nil,List.append_nil] at e3
   rw [e2,hfx,show front++(c.flat (xs.take k)++c.flat (xs.drop k))++rest'=front++c.flat (xs.take k)++(c.flat (xs.drop k)++rest') by simp [List.append_assoc],e3]
   simp [setAll,hel',Zaf,List.append_assoc]
theorem RdIn.sub [h:RdIn As v α c xs] {lo hi:Nat} (h1:lo≤hi) (h2:hi≤xs.length):RdIn As (subV c.n v lo hi) α c ((xs.drop lo).take (hi - lo)):=⟨fun w0 w hs=>Rdb.sub (h.get w0 w hs) h1 h2⟩
theorem Zox [h:RdIn As v α c xs] {k n:Nat} (hn:c.n=n) (h2:k≤xs.length):RdIn As (subV n v 0 k) α c (xs.take k):=by
 subst hn
 simpa using RdIn.sub (As:=As) (v:=v) (c:=c) (xs:=xs) (lo:=0) (hi:=k) (Nat.zero_le _) h2
theorem Zf8 [h:RdIn As v α c xs] {k n m:Nat} (hn:c.n=n) (hm:m=xs.length) (h2:k≤xs.length):RdIn As (subV n v k m) α c (xs.drop k):=by
 subst hn hm
 have:=RdIn.sub (As:=As) (v:=v) (c:=c) (xs:=xs) (lo:=k) (hi:=xs.length) h2 (Nat.le_refl _)
 rwa [List.take_of_length_le (by simp)] at this
theorem Zl4 {n l cap hi:Nat} {a:Option Addr}:subV n (.slice a l cap) 0 hi=.slice a hi cap:=by
 cases a<;>simp [subV,Addr.add]
theorem RdIn.take {p:Option Addr} {m cap:Nat} [h:RdIn As (.slice p m cap) α c xs] {k:Nat} (h2:k≤xs.length):RdIn As (.slice p k cap) α c (xs.take k):=by
 have:=Zox (As:=As) (v:=.slice p m cap) (c:=c) (xs:=xs) (k:=k) rfl h2
 rwa [Zl4] at this
theorem Zhg {t el:TypeId} {zv:Value} {n b' hi m cap:Nat} {p:Option Addr} {h:Option Operand} [UL P t (.slice el)] [TI P el zv n b'] (hx:ev e x=some (.slice p m cap)) [hr:RdIn As (.slice p m cap) α c xs] (hh:evHi e xs.length h hi) (h2:hi≤xs.length) :
  ExF P N w0 (.slice t x none h none) ty e As (.slice p hi cap):=by
 have:=Zco (As:=As) (P:=P) (N:=N) (w0:=w0) (ty:=ty) (t:=t) (h:=h) (n:=n) hx Zfx hh (Nat.zero_le _) h2
 rwa [Zl4] at this
theorem Zdo {T:TypeId} {p:Option Addr} {cap cap' n m:Nat} (hn:n=xs.length) (hm:m=xs.length+ys.length) (h0:0 < xs.length) (h:xs.length≤cap'):RdIn (.ow c T (.slice p m cap) (xs++ys)::rest) (.slice p n cap') α c xs:=by
 subst hn hm
 exact RdIn.pre h0 h
theorem Zgk {T:TypeId} {p:Option Addr} {cap n m:Nat} (hn:n=xs.length) (hm:m=(xs++ys).length):Ents (.ow c T (.slice p m cap) (xs++ys)::rest) [.ow c T (.slice p n cap) xs]:=by
 subst hn hm
 have h1:=Zgj (As:=rest) (c:=c) (T:=T) (v:=.slice p (xs++ys).length cap) (xs:=xs++ys) (lo:=0) (hi:=xs.length) (Nat.zero_le _) (by simp)
 rw [Zl4,List.drop_zero,Nat.sub_zero,List.take_left] at h1
 exact Ents.trans h1 (Zbp inferInstance)
theorem Zek {T:TypeId} (p:Option Addr) (cap n m:Nat) [h:TakeW As (.slice p m cap) c T (xs++ys) rest] (hn:n=xs.length) (hm:m=(xs++ys).length):Ents As (.ow c T (.slice p n cap) xs::rest):=by
 subst hn hm
 have h1:=Zgj (As:=rest) (c:=c) (T:=T) (v:=.slice p (xs++ys).length cap) (xs:=xs++ys) (lo:=0) (hi:=xs.length) (Nat.zero_le _) (by simp)
 rw [Zl4,List.drop_zero,Nat.sub_zero,List.take_left] at h1
 exact Ents.trans (Ents.perm h.perm) h1
theorem Za3 {t el:TypeId} {z':Value} {n b' b off l cap:Nat} [UL P t (.slice el)] [TI P el z' n b'] (hx:ev e x=some (.slice (some ⟨b,off,none⟩) l cap)) {k:IntKind} {i:Nat} (hy:ev e y=some (.int k (i:Int))) (hi:i < l) :
  ExF P N w0 (.indexAddr t x y) ty e As (.pointer (some (elp n (.slice (some ⟨b,off,none⟩) l cap) i 0))):=by
 unfold ExF
 intro a w ha hs d pos af g
 simp [execOp,ha.eval hx,ha.eval hy,Instr.indexAt,asIntOf,Zan,hi,Zat,Zai,elp]
theorem Tri.open {c1:Code} (v:Value) [hr:RdIn As v α c xs] (hx:xs≠[]) (h:∀ b off cap,xs.length≤cap→v=.slice (some ⟨b,off,none⟩) xs.length cap→Tri P N w0 c1 e As Q):Tri P N w0 c1 e As Q:=by
 unfold Tri
 intro a w ha hs
 rcases hr.get w0 w hs with ⟨_,h1⟩|⟨b,off,cap,front,rest,T,fr,hv,_,hc,_⟩
 ·exact absurd h1 hx
 ·have h0:=h b off cap hc hv
  unfold Tri at h0
  exact h0 a w ha hs
theorem TL.open {ops:Array Oper} {l:List Oper} (v:Value) [hr:RdIn As v α c xs] (hx:xs≠[]) (h:∀ b off cap,xs.length≤cap→v=.slice (some ⟨b,off,none⟩) xs.length cap→TL P N w0 ops l e As Q):TL P N w0 ops l e As Q:=by
 unfold TL
 intro i hi a w ha hs
 rcases hr.get w0 w hs with ⟨_,h1⟩|⟨b,off,cap,front,rest,T,fr,hv,_,hc,_⟩
 ·exact absurd h1 hx
 ·have h0:=h b off cap hc hv
  unfold TL at h0
  exact h0 i hi a w ha hs
theorem Zop {ops:Array Oper} {Rs:RsP} {t:Tree} (k:Nat) (_he:e.get k=some v) [hr:RdIn As v α c xs] (h:∀ p cap,v=.slice p xs.length cap→TT P N w0 ops Rs t e As Q):TT P N w0 ops Rs t e As Q:=by
 unfold TT
 intro fuel listed hd hok hsel a w ha hs
 obtain ⟨p,cap,hv,_⟩:=(hr.get w0 w hs).len
 have h0:=h p cap hv
 unfold TT at h0
 exact h0 fuel listed hd hok hsel a w ha hs
theorem Zbf {t el:TypeId} {z0:α} {by_ b0 off cap b m n:Nat} {l:List Value} {T:TypeId} {y1:α} {rest':List Ent} [UL P t (.slice el)] [ElC P el α c z0 by_] (hx:ev e x=some (.slice (some ⟨b0,off,none⟩) n cap)) (hy:ev e y=some (.slice (some ⟨b,0,none⟩) 1 m)) [h:TakeC As b l T rest] [h':TakeW rest (.slice (some ⟨b0,off,none⟩) n cap) c el xs rest']
  [dd:DecL c l y1] (hn:n=xs.length) (hb:(xs.length+1) * by_≤140737488355328) (h63:xs.length+1≤9223372036854775807) (hpos:0 < xs.length):ExR P N w0 (.call ⟨.builtin .append,#[x,y],#[t,t]⟩) ty e As (fun v' As' =>
   (v'=.slice (some ⟨b0,off,none⟩) (n+1) cap∧As'=.ow c el v' (xs++[y1])::rest') ∨
   (∃ b' cap',v'=.slice (some ⟨b',0,none⟩) (n+1) cap'∧As'=.ow c el v' (xs++[y1])::.ow c el (.slice (some ⟨b0,off,none⟩) n cap) xs::rest')):=by
 subst hn
 exact Zjg hx hy dd.h.symm hb h63 hpos
end
end Go.Sx
namespace Go.Sx
open Go
section
variable {P:Program} {N:Ctx} {w0 w:World} {e:Env} {As rest:List Ent} {Q:Exit→Act→World→Prop} {ty:TypeId} {x y:Operand} {u v:Value} {α:Type} {c:Cod α} {xs ys:List α}
/-! an interface value against nil -/
class IfT (P:Program) (t:TypeId):Prop where
 h:∃ ms,P.underlying t=some (.interface ms)
theorem Ze1 {t:TypeId} [hi:IfT P t] (d:Nat):(Op.equalIn (d+1) t .nilIface .nilIface).run P w=.ok true w:=by
 obtain ⟨ms,h⟩:=hi.h
 simp [Op.equalIn,run_underlying h]
theorem Zds {t:TypeId} [hi:IfT P t]:(Op.equal t .nilIface .nilIface).run P w=.ok true w:=Ze1 9999
theorem Zdm (a:Act) (c:Value):a.eval (.const c)=c:=rfl
theorem Zsw {t t':TypeId} [IfT P t] (hx:ev e x=some .nilIface):ExF P N w0 (.binOp .eql t x (.const .nilIface) t') ty e As (.bool true):=by
 unfold ExF
 intro a w ha _ d pos af g
 simp [execOp,ha.eval hx,Zdm,eqGuard_nil_constR,binOp,Zds]
end
end Go.Sx
