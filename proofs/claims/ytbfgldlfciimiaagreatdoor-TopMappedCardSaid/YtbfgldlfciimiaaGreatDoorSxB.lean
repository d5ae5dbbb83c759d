/- The engine, part 11: append to a slice whose old value is read on (it is ranged over); append of a slice's end to its beginning. -/
import Derived.Test.YtbfgldlfciimiaaGreatDoorSx9
import Derived.Laws.CopyRow
import Derived.Laws.IdiomCopy
import Derived.Laws.Entries
set_option maxHeartbeats 1000000
namespace Go.Sx
open Go
section
variable {P:Program} {N:Ctx} {w0 w:World} {e:Env} {As rest:List Ent} {Q:Exit→Act→World→Prop} {ty:TypeId} {x y:Operand} {u:Value} {α:Type} {c:Cod α} {xs ys:List α}
theorem RdIn.pre {T:TypeId} {p:Option Addr} {cap cap':Nat} (h0:0 < xs.length) (h:xs.length≤cap'):RdIn (.ow c T (.slice p (xs.length+ys.length) cap) (xs++ys)::rest) (.slice p xs.length cap') α c xs:=⟨fun w0 w ⟨H,bs,g⟩=>by
 rcases g.sat with ⟨h1,h2,_⟩|⟨b,bs',_,⟨off,cap,front,rest,h1,h2,h3,h4,hw⟩,_⟩
 ·have:xs=[]:=(List.append_eq_nil_iff.1 h2).1
  subst this
  simp at h0
 ·simp only [Value.slice.injEq] at h1
  obtain ⟨rfl,_,rfl⟩:=h1
  exact .inr ⟨b,off,cap',front,c.flat ys++rest,T,(0,0),rfl,h2,h,by show w.heap[b]?=_;rw [hw,Zaj];simp⟩⟩
end
end Go.Sx
namespace Go.Sx
open Go
section
variable {P:Program} {N:Ctx} {w0 w:World} {e:Env} {As rest:List Ent} {Q:Exit→Act→World→Prop} {ty:TypeId} {x y:Operand} {u v:Value} {α:Type} {c:Cod α} {xs ys:List α}
theorem Zds {t el:TypeId} {zv:Value} {n b' lo hi:Nat} {l h:Option Operand} [UL P t (.slice el)] [TI P el zv n b'] (hx:ev e x=some v) [hr:RdIn As v α c xs] (hl:evLo e l lo) (hh:evHi e xs.length h hi) (h1:lo≤hi) (h2:hi≤xs.length) :
  ExF P N w0 (.slice t x l h none) ty e As (subV n v lo hi):=by
 unfold ExF
 intro a w ha hs d pos af g
 obtain ⟨p,cap,hv,hcap⟩:=(hr.get w0 w hs).len
 have:=Z10 (P:=P) (w:=w) (t:=t) (el:=el) (zv:=zv) (n:=n) (b':=b') (p:=p) (hl.run ha) (hh.run ha) h1 h2 hcap
 simp [execOp,ha.eval hx,hv,Zlc,this]
theorem RdIn.sub [h:RdIn As v α c xs] {lo hi:Nat} (h1:lo≤hi) (h2:hi≤xs.length):RdIn As (subV c.n v lo hi) α c ((xs.drop lo).take (hi - lo)):=⟨fun w0 w hs=>Rdb.sub (h.get w0 w hs) h1 h2⟩
theorem Z47 [h:RdIn As v α c xs] {k n:Nat} (hn:c.n=n) (h2:k≤xs.length):RdIn As (subV n v 0 k) α c (xs.take k):=by
 subst hn
 simpa using RdIn.sub (As:=As) (v:=v) (c:=c) (xs:=xs) (lo:=0) (hi:=k) (Nat.zero_le _) h2
theorem Z48 [h:RdIn As v α c xs] {k n m:Nat} (hn:c.n=n) (hm:m=xs.length) (h2:k≤xs.length):RdIn As (subV n v k m) α c (xs.drop k):=by
 subst hn hm
 have:=RdIn.sub (As:=As) (v:=v) (c:=c) (xs:=xs) (lo:=k) (hi:=xs.length) h2 (Nat.le_refl _)
 rwa [List.take_of_length_le (by simp)] at this
theorem Z1p {n l cap hi:Nat} {a:Option Addr}:subV n (.slice a l cap) 0 hi=.slice a hi cap:=by
 cases a<;>simp [subV,Addr.add]
theorem RdIn.take {p:Option Addr} {m cap:Nat} [h:RdIn As (.slice p m cap) α c xs] {k:Nat} (h2:k≤xs.length):RdIn As (.slice p k cap) α c (xs.take k):=by
 have:=Z47 (As:=As) (v:=.slice p m cap) (c:=c) (xs:=xs) (k:=k) rfl h2
 rwa [Z1p] at this
theorem Ycz {T:TypeId} {p:Option Addr} {cap cap' n m:Nat} (hn:n=xs.length) (hm:m=xs.length+ys.length) (h0:0 < xs.length) (h:xs.length≤cap'):RdIn (.ow c T (.slice p m cap) (xs++ys)::rest) (.slice p n cap') α c xs:=by
 subst hn hm
 exact RdIn.pre h0 h
theorem Tri.open {c1:Code} (v:Value) [hr:RdIn As v α c xs] (hx:xs≠[]) (h:∀ b off cap,xs.length≤cap→v=.slice (some ⟨b,off,none⟩) xs.length cap→Tri P N w0 c1 e As Q):Tri P N w0 c1 e As Q:=by
 unfold Tri
 intro a w ha hs
 rcases hr.get w0 w hs with ⟨_,h1⟩|⟨b,off,cap,front,rest,T,fr,hv,_,hc,_⟩
 ·exact absurd h1 hx
 ·have h0:=h b off cap hc hv
  unfold Tri at h0
  exact h0 a w ha hs
theorem TL.open {ops:Array Oper} {l:List Oper} (v:Value) [hr:RdIn As v α c xs] (hx:xs≠[]) (h:∀ b off cap,xs.length≤cap→v=.slice (some ⟨b,off,none⟩) xs.length cap→TL P N w0 ops l e As Q):TL P N w0 ops l e As Q:=by
 unfold TL
 intro i hi a w ha hs
 rcases hr.get w0 w hs with ⟨_,h1⟩|⟨b,off,cap,front,rest,T,fr,hv,_,hc,_⟩
 ·exact absurd h1 hx
 ·have h0:=h b off cap hc hv
  unfold TL at h0
  exact h0 i hi a w ha hs
end
end Go.Sx
namespace Go.Sx
open Go
section
variable {P:Program} {N:Ctx} {w0 w:World} {e:Env} {As rest:List Ent} {Q:Exit→Act→World→Prop} {ty:TypeId} {x y:Operand} {u v:Value} {α:Type} {c:Cod α} {xs ys:List α}
theorem Tri.midB {c1:Code} {id:Nat} (R:Env→List Ent→Prop) (h:Tri P N w0 c1 e As (Exit.inBlock id (Exit.then (fun a w=>∃ e' As',R e' As'∧OkA N a e'∧St w0 w As') Q))) (k:∀ e' As',R e' As'→Post N w0 Q .normal e' As') :
  Tri P N w0 c1 e As (Exit.inBlock id Q):=Tri.mk fun a w ha hs=>wpIn_mono (h.out a w ha hs) fun ex a' w' hq=>by
 cases ex with
 | normal=>obtain ⟨e',As',hr,h1,h2⟩:=hq;exact (k e' As' hr).out a' w' h1 h2
 | exit id' =>
  have hq':if id'=id then (∃ e' As',R e' As'∧OkA N a' e'∧St w0 w' As') else Q (.exit id') a' w':=hq
  show if id'=id then Q .normal a' w' else Q (.exit id') a' w'
  split at hq'
  ·rename_i he
   rw [if_pos he]
   obtain ⟨e',As',hr,h1,h2⟩:=hq'
   exact (k e' As' hr).out a' w' h1 h2
  ·rename_i he
   rw [if_neg he];exact hq'
 | goto l=>exact hq
 | ret=>exact hq
 | panic ch=>exact hq
 | outgrown=>exact hq
theorem Zns {t tx el T:TypeId} {zv:Value} {b':Nat} {xv:Value} [UL P t (.slice el)] [TI P el zv 1 b'] (hx:ev e x=some v) (hy:ev e y=some xv) [h:TakeW As v c T xs rest] [hr:RdIn As xv α c ys] (hcn:c.n=1) (hle:ys.length≤xs.length) :
  ExR P N w0 (.call ⟨.builtin .copy,#[x,y],#[t,tx]⟩) ty e As (fun u As'=>u=.int .i64 (ys.length:Nat)∧As'=.ow c T v (ys++xs.drop ys.length)::rest):=by
 unfold ExR
 intro a w ha hs d pos af g
 have hrd:=hr.get w0 w hs
 obtain ⟨i,hi,_,hsz,_⟩:=(inferInstance:TI P el zv 1 b').info
 have hsize:(P.info? el).map (·.size)=some 1:=by rw [hi,Option.map_some,hsz]
 have hs':=Ents.perm h.perm w0 w hs
 have stop:∀ p q dl dc sc,v=.slice p dl dc→xv=.slice q 0 sc→ys=[]→∃ v' w' As',(execOp a.eval ⟨d,.call ⟨.builtin .copy,#[x,y],#[t,tx]⟩,ty,pos,af,g⟩).run P w=.ok (.value v') w'∧(v'=.int .i64 (ys.length:Nat)∧As'=.ow c T v (ys++xs.drop ys.length)::rest)∧St w0 w' As':=by
  intro p q dl dc sc hv hxv hys
  subst hys
  have hrun:=run_copy_none (P:=P) w t tx ty el p q dl dc 0 sc (UL.h (P:=P)) hsize (by simp)
  refine ⟨_,w,_,?_,⟨rfl,rfl⟩,by simpa using hs'⟩
  rw [← hv,← hxv] at hrun
  simp [execOp,ha.eval hx,ha.eval hy,resolve,invoke,builtin,hrun,goInt]
 obtain ⟨H,bs,G⟩:=hs'
 rcases G.sat with ⟨⟨p,h1⟩,h2,_⟩|⟨b,bs',rfl,⟨off,cap,front,rest',h1,h3,h4,h5,hw⟩,hrest⟩
 ·subst h2
  have hys:ys=[]:=List.length_eq_zero_iff.1 (by simpa using hle)
  obtain ⟨q,sc,hq,_⟩:=hrd.len
  rw [hys] at hq
  exact stop p q 0 0 sc h1 hq hys
 ·rcases hrd with ⟨⟨q,hq⟩,hys⟩|⟨sb,so,sc,sf,sr,sT,fr,g1,g2,g3,g4⟩
  ·exact stop _ q _ _ 0 h1 hq hys
  ·have hfl:(c.flat ys).length=ys.length:=by rw [Zaf,hcn,Nat.mul_one]
   have hflx:(c.flat xs).length=xs.length:=by rw [Zaf,hcn,Nat.mul_one]
   have hrun:=run_copy_row (P:=P) w t tx ty el b off xs.length cap ⟨sb,so,none⟩ ys.length sc (front++c.flat xs++rest').toArray T (c.flat ys) (UL.h (P:=P)) hsize hw (by rw [hfl];exact (Nat.min_eq_left hle).symm)
    (fun j z hj=>by
     rw [Zal]
     have hjl:j < (c.flat ys).length:=(List.getElem?_eq_some_iff.1 hj).1
     simp only [World.cell?,g4]
     subst g2
     rw [List.getElem?_eq_getElem hjl,Option.some.injEq] at hj
     simp [List.getElem?_append,hjl,hj]) (by simp only [List.size_toArray,List.length_append,hflx,hfl];omega) (c.flat_one ys)
   rw [← h1,← g1,hfl] at hrun
   obtain ⟨w1,hw1⟩:∃ w1,w1=w.setRow b ((front++c.flat xs++rest').toArray.toList.take off++c.flat ys++(front++c.flat xs++rest').toArray.toList.drop (off+ys.length)).toArray:=⟨_,rfl⟩
   rw [← hw1] at hrun
   refine ⟨.int .i64 (ys.length:Nat),w1,_,by simp [execOp,ha.eval hx,ha.eval hy,resolve,invoke,builtin,hrun,goInt],⟨rfl,rfl⟩,?_⟩
   subst hw1
   refine ⟨H,b::bs',G.setBlock hrest fun w' hw'=>?_⟩
   refine .inr ⟨b,[],rfl,⟨off,cap,front,rest',?_,h3,?_,?_,?_⟩,rfl⟩
   ·rw [h1];congr 1;simp;omega
   ·simp;omega
   ·simp only [List.length_append,Zaj,Zaf,List.length_drop,hcn] at h5 ⊢;omega
   ·rw [hw',Zeh hw]
    congr 2
    have hd:c.flat xs=c.flat (xs.take ys.length)++c.flat (xs.drop ys.length):=by rw [← Zaj,List.take_append_drop]
    have hdt:(c.flat (xs.take ys.length)).length=ys.length:=by rw [Zaf,hcn,List.length_take,Nat.mul_one,Nat.min_eq_left hle]
    apply Array.ext'
    simp only []
    rw [show front++c.flat xs++rest'=front++(c.flat (xs.take ys.length)++(c.flat (xs.drop ys.length)++rest')) by rw [hd];simp [List.append_assoc]]
    subst h3
    have e1:=List.drop_left (l₁:=c.flat (xs.take ys.length)) (l₂:=c.flat (xs.drop ys.length)++rest')
    rw [hdt] at e1
    rw [List.take_left,List.drop_length_add_append,e1,Zaj]
    simp [List.append_assoc]
/-! an interface value against nil -/
class IfT (P:Program) (t:TypeId):Prop where
 h:∃ ms,P.underlying t=some (.interface ms)
theorem Zk3 {t:TypeId} [hi:IfT P t] (d:Nat):(Op.equalIn (d+1) t .nilIface .nilIface).run P w=.ok true w:=by
 obtain ⟨ms,h⟩:=hi.h
 simp [Op.equalIn,run_underlying h]
theorem Zh6 {t:TypeId} [hi:IfT P t]:(Op.equal t .nilIface .nilIface).run P w=.ok true w:=Zk3 9999
theorem Zk4 {t ti:TypeId} {z:Value} [hi:IfT P t] (d:Nat):(Op.equalIn (d+1) t (.iface ti z) .nilIface).run P w=.ok false w:=by
 obtain ⟨ms,h⟩:=hi.h
 simp [Op.equalIn,run_underlying h]
theorem Zh7 {t ti:TypeId} {z:Value} [hi:IfT P t]:(Op.equal t (.iface ti z) .nilIface).run P w=.ok false w:=Zk4 9999
theorem Zht (a:Act) (c:Value):a.eval (.const c)=c:=rfl
theorem Zfx {t t':TypeId} [IfT P t] (hx:ev e x=some .nilIface):ExF P N w0 (.binOp .neq t x (.const .nilIface) t') ty e As (.bool false):=by
 unfold ExF
 intro a w ha _ d pos af g
 simp [execOp,ha.eval hx,Zht,eqGuard_nil_constR,binOp,Zh6]
theorem Ze3 {t t' ti:TypeId} {z:Value} [IfT P t] (hx:ev e x=some (.iface ti z)):ExF P N w0 (.binOp .neq t x (.const .nilIface) t') ty e As (.bool true):=by
 unfold ExF
 intro a w ha _ d pos af g
 simp [execOp,ha.eval hx,Zht,eqGuard,binOp,Zh7]
theorem Zpr {t t':TypeId} [IfT P t] (hx:ev e x=some .nilIface):ExF P N w0 (.binOp .eql t x (.const .nilIface) t') ty e As (.bool true):=by
 unfold ExF
 intro a w ha _ d pos af g
 simp [execOp,ha.eval hx,Zht,eqGuard_nil_constR,binOp,Zh6]
theorem Zny {t t' ti:TypeId} {z:Value} [IfT P t] (hx:ev e x=some (.iface ti z)):ExF P N w0 (.binOp .eql t x (.const .nilIface) t') ty e As (.bool false):=by
 unfold ExF
 intro a w ha _ d pos af g
 simp [execOp,ha.eval hx,Zht,eqGuard,binOp,Zh7]
end
end Go.Sx
