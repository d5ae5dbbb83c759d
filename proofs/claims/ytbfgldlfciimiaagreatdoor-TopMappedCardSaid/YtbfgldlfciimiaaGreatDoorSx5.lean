/- The engine, part 3: slices: read-only ones (rd, a fact), owned ones (ow): length, index, load, store, append, make, cut, freeze. -/
import Derived.Test.YtbfgldlfciimiaaGreatDoorSx2
import Derived.Deep.AppendSrc
import Derived.Laws.MakeOwn
import Derived.OrdersHeld
import Derived.OrdersIn
set_option maxHeartbeats 1000000
namespace Go.Sx
open Go
section
variable {α:Type}
theorem Zha (c:Cod α):c.flat []=[]:=rfl
theorem Zeb (c:Cod α) (x:α) (xs:List α):c.flat (x::xs)=c.enc x++c.flat xs:=by simp [Cod.flat]
theorem Zaj (c:Cod α) (xs ys:List α):c.flat (xs++ys)=c.flat xs++c.flat ys:=by simp [Cod.flat]
theorem Zaf (c:Cod α):∀ xs:List α,(c.flat xs).length=xs.length * c.n
 | []=>by simp [Cod.flat]
 | x::xs=>by rw [Zeb,List.length_append,c.len,Zaf c xs,List.length_cons,Nat.succ_mul,Nat.add_comm]
theorem Cod.flat_one (c:Cod α) (xs:List α):∀ v∈c.flat xs,v.oneCell'=true:=fun v hv=>by
 obtain ⟨x,_,hx⟩:=List.mem_flatMap.1 hv
 exact c.one x v hx
theorem Cod.flat_split (c:Cod α) {xs:List α} {i:Nat} {x:α} (h:xs[i]?=some x):c.flat xs=c.flat (xs.take i)++(c.enc x++c.flat (xs.drop (i+1))):=by
 have hi:i < xs.length:=(List.getElem?_eq_some_iff.1 h).1
 have hx:xs[i]=x:=(List.getElem?_eq_some_iff.1 h).2
 conv=>lhs;rw [← List.take_append_drop i xs,List.drop_eq_getElem_cons hi,hx]
 rw [Zaj,Zeb]
theorem Cod.flat_take_length (c:Cod α) {xs:List α} {i:Nat} {x:α} (h:xs[i]?=some x):(c.flat (xs.take i)).length=i * c.n:=by
 have hi:i < xs.length:=(List.getElem?_eq_some_iff.1 h).1
 rw [Zaf,List.length_take,Nat.min_eq_left (Nat.le_of_lt hi)]

def SlAt (hp:Nat→Option Obj) (c:Cod α) (v:Value) (xs:List α) (b:Nat):Prop :=
 ∃ off cap front rest T fr,v=.slice (some ⟨b,off,none⟩) xs.length cap∧front.length=off∧xs.length≤cap∧hp b=some (.cells (front++c.flat xs++rest).toArray T fr)
def Rdb (hp:Nat→Option Obj) (c:Cod α) (v:Value) (xs:List α):Prop:=((∃ p,v=.slice p 0 0)∧xs=[])∨∃ b,SlAt hp c v xs b
def rd (c:Cod α) (v:Value) (xs:List α):PF:=⟨fun H=>Rdb H c v xs,fun H H' hle h=>by
 rcases h with h|⟨b,off,cap,front,rest,T,fr,h1,h2,h3,h4⟩
 ·exact .inl h
 ·exact .inr ⟨b,off,cap,front,rest,T,fr,h1,h2,h3,hle _ _ h4⟩⟩
theorem Rdb.len {hp:Nat→Option Obj} {c:Cod α} {v:Value} {xs:List α} (h:Rdb hp c v xs):∃ p cap,v=.slice p xs.length cap∧xs.length≤cap:=by
 rcases h with ⟨⟨p,rfl⟩,rfl⟩|⟨b,off,cap,front,rest,T,fr,h1,h2,h3,h4⟩
 ·exact ⟨p,0,rfl,Nat.le_refl _⟩
 ·exact ⟨_,cap,h1,h3⟩
def lenV:Value→Nat
 | .slice _ n _=>n
 | _=>0
theorem Rdb.lenV {hp:Nat→Option Obj} {c:Cod α} {v:Value} {xs:List α} (h:Rdb hp c v xs):lenV v=xs.length:=by
 obtain ⟨p,cap,rfl,_⟩:=h.len;rfl

class RdIn (As:List Ent) (v:Value) (α:outParam Type) (c:outParam (Cod α)) (xs:outParam (List α)):Prop where
 get:∀ w0 w,St w0 w As→Rdb (fun b=>w.heap[b]?) c v xs
theorem St.tail {w0 w:World} {x:Ent} {r:List Ent} (h:St w0 w (x::r)):St w0 w r:=Zb3 w0 w h
instance RdIn.fact {c:Cod α} {v:Value} {xs:List α} {r:List Ent}:RdIn (.ft (rd c v xs)::r) v α c xs:=⟨fun w0 w ⟨H,bs,h⟩=>by
 have hp:(rd c v xs).p H:=h.sat.1
 rcases hp with hp|⟨b,off,cap,front,rest,T,fr,h1,h2,h3,h4⟩
 ·exact .inl hp
 ·exact .inr ⟨b,off,cap,front,rest,T,fr,h1,h2,h3,h.fz _ _ h4⟩⟩
instance RdIn.own {c:Cod α} {T:TypeId} {v:Value} {xs:List α} {r:List Ent}:RdIn (.ow c T v xs::r) v α c xs:=⟨fun w0 w ⟨H,bs,h⟩=>by
 rcases h.sat with ⟨h1,h2,_⟩|⟨b,bs',_,⟨off,cap,front,rest,h1,h2,h3,h4,hw⟩,_⟩
 ·exact .inl ⟨h1,h2⟩
 ·exact .inr ⟨b,off,cap,front,rest,T,(0,0),h1,h2,h3,hw⟩⟩
instance (priority:=low) RdIn.tl {c:Cod α} {v:Value} {xs:List α} {y:Ent} {r:List Ent} [h:RdIn r v α c xs]:RdIn (y::r) v α c xs:=⟨fun w0 w hs=>h.get w0 w hs.tail⟩
instance (priority:=low) FRd.of {As:List Ent} {c:Cod α} {xs:List α}:RdIn (.ft (rd c (.slice none 0 0) xs)::As) (.slice none 0 0) α c xs:=inferInstance

def elp (n:Nat) (v:Value) (i k:Nat):Addr:=match v with
 | .slice (some a) _ _=>⟨a.block,a.off+i * n+k,none⟩
 | _=>⟨0,i * n+k,none⟩
theorem Z33 {n:Nat} {v:Value} {i k j:Nat}:(elp n v i k).add j=elp n v i (k+j):=by
 unfold elp
 split<;>rw [Zal,Nat.add_assoc]
theorem Zq3 {n:Nat} {b off l c i k:Nat}:elp n (.slice (some ⟨b,off,none⟩) l c) i k=⟨b,off+i * n+k,none⟩:=rfl

theorem Rdb.cells {hp:Nat→Option Obj} {c:Cod α} {v:Value} {xs:List α} (h:Rdb hp c v xs) {i:Nat} {y:α} (hi:xs[i]?=some y) :
  ∃ (b off:Nat) (l:List Value) (T:TypeId) (fr:Nat × Nat),(∀ k,elp c.n v i k=⟨b,off+k,none⟩)∧hp b=some (.cells l.toArray T fr)∧off+c.n≤l.length∧(l.drop off).take c.n=c.enc y:=by
 rcases h with ⟨⟨_,rfl⟩,rfl⟩|⟨b,off,cap,front,rest,T,fr,rfl,h2,h3,h4⟩
 ·cases hi
 ·refine ⟨b,off+i * c.n,front++c.flat xs++rest,T,fr,fun k=>rfl,h4,?_,?_⟩
  ·have:=c.flat_split hi
   have h5:=c.flat_take_length hi
   have h6:=congrArg List.length this
   simp only [List.length_append,c.len,h5] at h6
   simp only [List.length_append,h2]
   omega
  ·rw [c.flat_split hi]
   have h5:=c.flat_take_length hi
   have e1:front++(c.flat (xs.take i)++(c.enc y++c.flat (xs.drop (i+1))))++rest=(front++c.flat (xs.take i))++(c.enc y++(c.flat (xs.drop (i+1))++rest)):=by simp
   have e2:off+i * c.n=(front++c.flat (xs.take i)).length:=by simp [h5,h2]
   rw [e1,e2,List.drop_left]
   have e3:c.n=(c.enc y).length:=(c.len y).symm
   rw [e3,List.take_left]
end

section
variable {P:Program} {N:Ctx} {w0:World} {e:Env} {As As' rest:List Ent} {Q:Exit→Act→World→Prop} {ty:TypeId} {x y:Operand} {v u:Value} {α:Type} {c:Cod α} {xs:List α} {w:World}
theorem Z5s {t el:TypeId} [UL P t (.slice el)] (hx:ev e x=some v) [hr:RdIn As v α c xs]:ExF P N w0 (.call ⟨.builtin .len,#[x],#[t]⟩) ty e As (.int .i64 xs.length):=by
 unfold ExF
 intro a w ha hs d pos af g
 obtain ⟨p,cap,rfl,_⟩:=(hr.get w0 w hs).len
 simp [execOp,ha.eval hx,resolve,invoke,builtin,Builtin.len_,Zar,goInt]
theorem Z5t {t el:TypeId} {z':Value} {n b':Nat} [UL P t (.slice el)] [TI P el z' n b'] (hx:ev e x=some v) [hr:RdIn As v α c xs] (hcn:c.n=n) {k:IntKind} {i:Nat} (hy:ev e y=some (.int k (i:Int))) (hi:i < xs.length) :
  ExF P N w0 (.indexAddr t x y) ty e As (.pointer (some (elp n v i 0))):=by
 unfold ExF
 intro a w ha hs d pos af g
 subst hcn
 have h:=hr.get w0 w hs
 rcases h with ⟨⟨_,rfl⟩,rfl⟩|⟨b,off,cap,front,rest,T,fr,rfl,h2,h3,h4⟩
 ·cases hi
 ·simp [execOp,ha.eval hx,ha.eval hy,Instr.indexAt,asIntOf,Zar,hi,Za9,Zal,elp]
theorem Z0x {t el:TypeId} {z':Value} {n s b' m:Nat} [UL P t (.array m el)] [TI P el z' s b'] {k:IntKind} {i j q q':Nat} (hx:ev e x=some (.pointer (some (elp n v i q)))) (hy:ev e y=some (.int k (j:Int))) (hj:j < m) (hq:q+j * s=q') :
  ExF P N w0 (.indexAddr t x y) ty e As (.pointer (some (elp n v i q'))):=by
 unfold ExF
 intro a w ha hs d pos af g
 subst hq
 simp [execOp,ha.eval hx,ha.eval hy,Instr.indexAt,asIntOf,Zar,Instr.sureAddr,hj,Za9,Z33]
theorem ExF.fldElp {s:TypeId} {f k m n i q q':Nat} [h:FO P s f k m] (hx:ev e x=some (.pointer (some (elp n v i q)))) (hq:q+k=q'):ExF P N w0 (.fieldAddr s x f) ty e As (.pointer (some (elp n v i q'))):=by
 unfold ExF
 intro a w ha _ d pos af g
 obtain ⟨fields,fld,h1,h2,h3,⟨i',h4,h5⟩,h6⟩:=h.h
 subst hq
 simp [execOp,ha.eval hx,Instr.fieldAt,run_underlying h1,h2,Instr.sureAddr,fieldPlace,sizeOf,typeInfo,h4,h5,h6,Z33,h3]
theorem Zpp {t:TypeId} {ud:TypeDesc} {n i k:Nat} {y':α} [UL P t ud] (hag:aggB ud=false) (hx:ev e x=some (.pointer (some (elp n v i k)))) [hr:RdIn As v α c xs] (hcn:c.n=n) (hi:xs[i]?=some y') (hk:(c.enc y')[k]?=some u) :
  ExF P N w0 (.load t x) ty e As u:=by
 unfold ExF
 intro a w ha hs d pos af g
 subst hcn
 obtain ⟨b,off,l,T,fr,h1,h2,h3,h4⟩:=(hr.get w0 w hs).cells hi
 have hkl:k < c.n:=by have:=(List.getElem?_eq_some_iff.1 hk).1;rwa [c.len] at this
 have hv:l[off+k]?=some u:=by
  rw [← h4,List.getElem?_take,if_pos hkl,List.getElem?_drop] at hk;exact hk
 have hc:w.cell? ⟨b,off+k,none⟩=some u:=by simp [World.cell?,h2,hv]
 simp [execOp,ha.eval hx,Instr.loadAt,Instr.sureAddr,loadVar,Zd5,hag,h1,hc]
theorem Znw {t:TypeId} {ud:TypeDesc} {z':Value} {s b' n i k:Nat} {y':α} {vs:List Value} [UL P t ud] [TI P t z' s b'] (hag:aggB ud=true) (hx:ev e x=some (.pointer (some (elp n v i k)))) [hr:RdIn As v α c xs] (hcn:c.n=n) (hi:xs[i]?=some y')
  (hk:Nat.ble (k+s) n=true) (hv:((c.enc y').drop k).take s=vs):ExF P N w0 (.load t x) ty e As (.agg vs.toArray):=by
 unfold ExF
 intro a w ha hs d pos af g
 subst hcn;subst hv
 have hk':=Nat.le_of_ble_eq_true hk
 obtain ⟨b,off,l,T,fr,h1,h2,h3,h4⟩:=(hr.get w0 w hs).cells hi
 have:=Zig (P:=P) (w:=w) (b:=b) (off:=off+k) (n:=s) h2 (by omega)
 have e1:(l.drop (off+k)).take s=((c.enc y').drop k).take s:=by
  rw [← h4,List.drop_take,List.take_take,List.drop_drop,Nat.min_eq_left (by omega)]
 rw [e1] at this
 simp [execOp,ha.eval hx,Instr.loadAt,Instr.sureAddr,loadVar,Zd5,hag,Za9,h1,this]

class EncL (c:Cod α) (y:α) (vs:outParam (List Value)):Prop where
 h:c.enc y=vs
theorem Zws {t:TypeId} {ud:TypeDesc} {z':Value} {b' n i:Nat} {y':α} {vs:List Value} [UL P t ud] [TI P t z' n b'] (hag:aggB ud=true) (hx:ev e x=some (.pointer (some (elp n v i 0)))) [hr:RdIn As v α c xs] (hcn:c.n=n) (hi:xs[i]?=some y') [hv:EncL c y' vs] :
  ExF P N w0 (.load t x) ty e As (.agg vs.toArray) :=
 Znw hag hx hcn hi (by rw [Nat.zero_add];exact Nat.ble_eq_true_of_le (Nat.le_refl _)) (by rw [List.drop_zero,← hcn,← hv.h];exact List.take_of_length_le (by rw [c.len];exact Nat.le_refl _))

/-! cutting a slice that is only read -/
def subV (n:Nat) (v:Value) (lo hi:Nat):Value:=match v with
 | .slice a _ cap=>.slice (if cap=lo then a else a.map (·.add (lo * n))) (hi - lo) (cap - lo)
 | _=>v
theorem Rdb.sub {hp:Nat→Option Obj} (h:Rdb hp c v xs) {lo hi:Nat} (h1:lo≤hi) (h2:hi≤xs.length):Rdb hp c (subV c.n v lo hi) ((xs.drop lo).take (hi - lo)):=by
 rcases h with ⟨⟨p,rfl⟩,rfl⟩|⟨b,off,cap,front,rest,T,fr,rfl,g2,g3,g4⟩
 ·have:hi=0:=by simpa using h2
  subst this
  have:lo=0:=by omega
  subst this
  exact .inl ⟨⟨p,rfl⟩,by simp⟩
 ·have hlen:((xs.drop lo).take (hi - lo)).length=hi - lo:=by simp;omega
  by_cases hc:cap=lo
  ·subst hc
   have:hi=cap:=by omega
   subst this
   refine .inr ⟨b,off,hi - hi,front,c.flat xs++rest,T,fr,by simp [subV],g2,by simp,?_⟩
   simpa [Zha] using g4
  ·refine .inr ⟨b,off+lo * c.n,cap - lo,front++c.flat (xs.take lo),c.flat (xs.drop hi)++rest,T,fr,?_,?_,by rw [hlen];omega,?_⟩
   ·simp only [subV,if_neg hc,Option.map_some,Zal,hlen]
   ·simp only [List.length_append,Zaf,List.length_take,g2]
    rw [Nat.min_eq_left (by omega)]
   ·rw [g4]
    have e1:xs=xs.take lo++((xs.drop lo).take (hi - lo)++xs.drop hi):=by
     conv=>lhs;rw [← List.take_append_drop lo xs,← List.take_append_drop (hi - lo) (xs.drop lo),List.drop_drop]
     rw [show lo+(hi - lo)=hi from by omega]
    have e2:c.flat xs=c.flat (xs.take lo)++(c.flat ((xs.drop lo).take (hi - lo))++c.flat (xs.drop hi)):=by
     conv=>lhs;rw [e1]
     rw [Zaj,Zaj]
    rw [e2]
    simp only [List.append_assoc]

/-! owned slices -/
theorem Za3 {T:TypeId} (c:Cod α):Ents As (.ow c T (.slice none 0 0) []::As):=by
 rintro w0 w ⟨H,bs,h⟩
 exact ⟨H,bs,h.size,h.os,h.tape,h.output,h.fz,h.old,.inl ⟨⟨_,rfl⟩,rfl,h.sat⟩,h.nd,h.ap⟩
theorem Zbz {T:TypeId} {b:Nat} {l:List Value} (c:Cod α) (xs:List α) (h:l=c.flat xs) {n cap:Nat} (hn:n=xs.length) (hcap:cap=xs.length):Ents (.cl b l T::As) (.ow c T (.slice (some ⟨b,0,none⟩) n cap) xs::As):=by
 rintro w0 w ⟨H,bs,g⟩
 obtain ⟨bs',rfl,hw,hr⟩:=g.sat
 refine ⟨H,_,g.size,g.os,g.tape,g.output,g.fz,g.old,.inr ⟨b,bs',rfl,⟨0,cap,[],[],by rw [hn],rfl,by omega,by rw [List.append_nil,Zaf,hcap,Nat.mul_comm];exact Nat.le_refl _,?_⟩,hr⟩,g.nd,g.ap⟩
 simpa [h] using hw
theorem Ents.freeze {T:TypeId}:Ents (.ow c T v xs::As) (.ft (rd c v xs)::As):=by
 rintro w0 w ⟨H,bs,g⟩
 rcases g.sat with ⟨h1,h2,hr⟩|⟨b,bs',rfl,⟨off,cap,front,rest,h1,h2,h3,h4,hw⟩,hr⟩
 ·exact ⟨H,bs,g.size,g.os,g.tape,g.output,g.fz,g.old,⟨.inl ⟨h1,h2⟩,hr⟩,g.nd,g.ap⟩
 ·refine ⟨fun k=>if k=b then w.heap[b]? else H k,bs',g.size,g.os,g.tape,g.output,?_,?_,⟨?_,Sat.move ?_ hr (fun _ _=>rfl)⟩,(List.nodup_cons.1 g.nd).2,?_⟩
  ·intro k o hk
   by_cases hkb:k=b
   ·subst hkb;simpa using hk
   ·simp only [if_neg hkb] at hk;exact g.fz k o hk
  ·intro k hk
   have:k≠b:=fun he=>by
    subst he
    have h1:=g.ap k (List.mem_cons_self ..)
    rw [g.old k hk] at h1
    exact absurd hk (by rw [Array.getElem?_eq_none_iff] at h1;omega)
   simp only [if_neg this];exact g.old k hk
  ·exact .inr ⟨b,off,cap,front,rest,T,(0,0),h1,h2,h3,by simp [hw]⟩
  ·intro k o hk
   have:k≠b:=fun he=>by subst he;rw [g.ap _ (List.mem_cons_self ..)] at hk;cases hk
   simp only [if_neg this];exact hk
  ·intro k hk
   have:k≠b:=fun he=>by subst he;exact (List.nodup_cons.1 g.nd).1 hk
   simp only [if_neg this];exact g.ap k (List.mem_cons_of_mem _ hk)
theorem StW.setBlock {H:FH} {b:Nat} {bs':List Nat} {x x':Ent} {cs:Array Value} (g:StW w0 w H (x::rest) (b::bs')) (hr:Sat w H rest bs') (hx':∀ w',w'.heap[b]?=(w.setRow b cs).heap[b]?→Sat w' H [x'] [b]):StW w0 (w.setRow b cs) H (x'::rest) (b::bs'):=by
 have hb:∀ k,H k≠none→k≠b:=fun k hk he=>hk (by subst he;exact g.ap _ (List.mem_cons_self ..))
 refine ⟨by simpa [World.setRow] using g.size,g.os,g.tape,g.output,fun k o hk=>?_,g.old,?_,g.nd,g.ap⟩
 ·rw [Ze7 (hb k (by rw [hk];simp))];exact g.fz k o hk
 ·exact Sat.cons.2 ⟨[b],bs',rfl,hx' _ rfl,Sat.move (FH.le_refl H) hr fun k hk=>Ze7 fun he=>by subst he;exact (List.nodup_cons.1 g.nd).1 hk⟩
theorem Zhe (A B C vs:List Value) (k:Nat) (h:k+vs.length≤B.length):setAll (A++B++C) (A.length+k) vs=A++setAll B k vs++C:=by
 simp only [setAll]
 rw [List.append_assoc A B C,List.take_length_add_append,List.take_append_of_le_length (by omega),show A.length+k+vs.length=A.length+(k+vs.length) from by omega,List.drop_length_add_append,List.drop_append_of_le_length (by omega)]
 simp only [List.append_assoc]
theorem Z7u {i:Nat} {y0 y1:α} (h:xs[i]?=some y0):c.flat (xs.set i y1)=c.flat (xs.take i)++(c.enc y1++c.flat (xs.drop (i+1))):=by
 have hi:i < xs.length:=(List.getElem?_eq_some_iff.1 h).1
 have:=c.flat_split (xs:=xs.set i y1) (i:=i) (x:=y1) (by rw [List.getElem?_set,if_pos rfl,if_pos hi])
 rw [this,List.take_set_of_le (Nat.le_refl i),List.drop_set_of_lt (by omega)]
theorem Zir {t:TypeId} {z':Value} {s b' n i k:Nat} {y0 y1:α} {vs:List Value} {T:TypeId} [TI P t z' s b'] (hx:ev e x=some (.pointer (some (elp n v i k)))) (hy:ev e y=some u) (hu:u.cells.toList=vs) (hn:vs.length=s) (h1:oneB vs=true)
  [h:TakeW As v c T xs rest] (hcn:c.n=n) (hi:xs[i]?=some y0) (hk:Nat.ble (k+s) n=true) (he:c.enc y1=setAll (c.enc y0) k vs):ExU P N w0 (.store t x y) ty e As (.ow c T v (xs.set i y1)::rest):=by
 unfold ExU
 intro a w ha hs d pos af g
 subst hcn
 have hk':=Nat.le_of_ble_eq_true hk
 obtain ⟨H,bs,G⟩:=Ents.perm h.perm w0 w hs
 rcases G.sat with ⟨_,h2,_⟩|⟨b,bs',rfl,⟨off,cap,front,rest',rfl,h3,h4,h5,hw⟩,hr⟩
 ·subst h2;cases hi
 ·have hsz:u.cells.size=s:=by rw [← hn,← hu];simp
  have hlen:front.length+c.n * xs.length≤(front++c.flat xs++rest').length:=by
   simp only [List.length_append,Zaf];rw [Nat.mul_comm];omega
  have hil:i < xs.length:=(List.getElem?_eq_some_iff.1 hi).1
  have him:i * c.n+c.n≤c.n * xs.length:=by
   have:=Nat.mul_le_mul_left c.n (show i+1≤xs.length from hil)
   rw [Nat.mul_add,Nat.mul_one,Nat.mul_comm c.n i] at this;exact this
  have hst:=Ze8 (P:=P) (w:=w) (b:=b) (off:=off+i * c.n+k) (vs:=vs) hw (by omega) (oneB.all h1)
  refine ⟨_,?_,H,b::bs',G.setBlock (cs:=(setAll (front++c.flat xs++rest') (off+i * c.n+k) vs).toArray) hr fun w' hw'=>?_⟩
  ·simp [execOp,ha.eval hx,ha.eval hy,Instr.storeAt,Instr.sureAddr,storeVar,hsz,Za9,Zq3,hu,hst]
  ·refine .inr ⟨b,[],rfl,⟨off,cap,front,rest',by simp,h3,by simpa using h4,by simpa [Zaf] using h5,?_⟩,rfl⟩
   rw [hw',Zeh hw,Z7u hi,c.flat_split hi,he]
   congr 2
   have e1:front++(c.flat (xs.take i)++(c.enc y0++c.flat (xs.drop (i+1))))++rest'=(front++c.flat (xs.take i))++c.enc y0++(c.flat (xs.drop (i+1))++rest'):=by simp
   have e2:off+i * c.n+k=(front++c.flat (xs.take i)).length+k:=by simp [c.flat_take_length hi,h3]
   rw [e1,e2,Zhe _ _ _ _ _ (by rw [c.len];omega)]
   simp
theorem Zkj {t:TypeId} {z':Value} {b' n i k:Nat} {y0 y1:α} {T:TypeId} [TI P t z' 1 b'] (hx:ev e x=some (.pointer (some (elp n v i k)))) (hy:ev e y=some u) (hu:u.cells.toList=[u]) (h1:u.oneCell'=true)
  [TakeW As v c T xs rest] (hcn:c.n=n) (hi:xs[i]?=some y0) (hk:Nat.blt k n=true) (he:c.enc y1=setAll (c.enc y0) k [u]):ExU P N w0 (.store t x y) ty e As (.ow c T v (xs.set i y1)::rest) :=
 Zir hx hy hu rfl (by simp [oneB,h1]) hcn hi (Nat.ble_eq_true_of_le (Nat.le_of_ble_eq_true hk)) he

class Cell1 (c:Cod α) (u:Value) (y:outParam α):Prop where
 h:c.enc y=[u]
theorem Zwj {t:TypeId} {z':Value} {b' n i:Nat} {y1:α} {T:TypeId} [TI P t z' 1 b'] (hx:ev e x=some (.pointer (some (elp n v i 0)))) (hy:ev e y=some u) (hu:u.cells.toList=[u]) (h1:u.oneCell'=true)
  [TakeW As v c T xs rest] (hcn:c.n=n) [hc:Cell1 c u y1] (hi:i < xs.length):ExU P N w0 (.store t x y) ty e As (.ow c T v (xs.set i y1)::rest):=by
 have hi':xs[i]?=some xs[i]:=List.getElem?_eq_getElem hi
 have hn:c.n=1:=by rw [← c.len y1,hc.h];rfl
 have hl:=c.len xs[i]
 refine Zkj (y0:=xs[i]) hx hy hu h1 hcn hi' (by rw [← hcn,hn];rfl) ?_
 rw [hc.h]
 rw [hn] at hl
 match hq:c.enc xs[i],hl with
 | [a],_=>rfl

/-! append -/
class ElC (P:Program) (el:TypeId) (α:outParam Type) (c:outParam (Cod α)) (z0:outParam α) (by_:outParam Nat):Prop where
 h:∃ i z,P.info? el=some i∧i.zero=some z∧i.size=c.n∧i.bytes=by_∧z.cells.toList=c.enc z0
 pos:0 < c.n
theorem Zc1 {t tx ty el:TypeId} {i:TypeInfo} (ht:P.underlying t=some (.slice el)) (hi:P.info? el=some i) {b off sLen sCap:Nat} {x:Value} {n:Nat} {news l:List Value} {T:TypeId} (hs:Src P i.size tx x n news w) (hw:w.heap[b]?=some (.cells l.toArray T (0,0)))
  (hroom:sLen+n≤sCap) (hl:off+sLen * i.size+news.length≤l.length) :
  (Builtin.append_ #[t,tx] ty #[.slice (some ⟨b,off,none⟩) sLen sCap,x]).run P w=.ok (.slice (some ⟨b,off,none⟩) (sLen+n) sCap) (w.setRow b (setAll l (off+sLen * i.size) news).toArray):=by
 have hst:=Ze8 (P:=P) (off:=off+sLen * i.size) (vs:=news) hw hl hs.one
 rcases hs.kind with ⟨e',hk⟩|hk<;>simp [Builtin.append_,run_underlying ht,run_underlying hk,sizeOf,typeInfo,hi,hs.len,hroom,hs.cells,Zal,hst]
theorem Zis (z:Array Value) (n:Nat):(Builtin.zeroCells z n).size=n * z.size:=by simp [Builtin.zeroCells]
theorem St.append {t tx ty' el:TypeId} {z0:α} {by_:Nat} [ht:UL P t (.slice el)] [hel:ElC P el α c z0 by_] {xv:Value} {ys:List α} (hs:St w0 w (.ow c el v xs::rest)) (hsrc:Src P c.n tx xv ys.length (c.flat ys) w)
  (hb:(xs.length+ys.length) * by_≤140737488355328) (h63:xs.length+ys.length≤9223372036854775807) :
  ∃ v' w',(Builtin.append_ #[t,tx] ty' #[v,xv]).run P w=.ok v' w'∧St w0 w' (.ow c el v' (xs++ys)::rest):=by
 obtain ⟨i,z,hi,hz,hsz,hby,hzc⟩:=hel.h
 obtain ⟨H,bs,G⟩:=hs
 have grow0:∀ (base:Option Addr) (sCap:Nat) {bs0:List Nat},v=.slice base xs.length sCap→sCap < xs.length+ys.length→(Builtin.firstCells i.size xs.length (.slice base xs.length sCap)).run P w.drew=.ok (c.flat xs).toArray w.drew→Sat w H rest bs0→bs0.Nodup→(∀ b∈bs0,H b=none) →
   ∃ v' w',(Builtin.append_ #[t,tx] ty' #[v,xv]).run P w=.ok v' w'∧St w0 w' (.ow c el v' (xs++ys)::rest):=by
  intro base sCap bs0 hv hlt hold hrest hnd hap
  have hsrc':Src P i.size tx xv ys.length (c.flat ys) w:=by rw [hsz];exact hsrc
  have hrun:=run_append_grow_src w t tx ty' el i z ht.h hi hz base xs.length sCap (c.flat xs) hold xv ys.length (c.flat ys) hsrc' hlt (by omega) (growslice_fits hlt (by rw [hby];exact hb))
  rw [← hv] at hrun
  have hcap:=grownCap_ge w (xs.length+ys.length) sCap el
  generalize grownCap w (xs.length+ys.length) sCap el=newCap at *
  have g0:StW w0 w.drew H rest bs0:=⟨G.size,G.os,G.tape,G.output,G.fz,G.old,Sat.move (FH.le_refl H) hrest (fun _ _=>rfl),hnd,hap⟩
  have g1:=g0.alloc (.cells ((c.flat xs++c.flat ys).toArray++Builtin.zeroCells z.cells (newCap - (xs.length+ys.length))) el)
  refine ⟨_,_,hrun,H,_,g1.size,g1.os,g1.tape,g1.output,g1.fz,g1.old,?_,g1.nd,g1.ap⟩
  obtain ⟨bs',he,hw,hr⟩:=g1.sat
  refine .inr ⟨_,bs',he,⟨0,newCap,[],(Builtin.zeroCells z.cells (newCap - (xs.length+ys.length))).toList,by simp,rfl,by simpa using hcap,?_,?_⟩,hr⟩
  ·have hzs:z.cells.size=c.n:=by rw [← c.len z0,← hzc];simp
   simp only [List.length_append,Zaf,Array.length_toList,Zis,hzs]
   rw [Nat.mul_comm c.n,← Nat.add_mul]
   exact Nat.mul_le_mul_right _ (by omega)
  ·rw [hw]
   congr 2
   apply Array.ext'
   simp [Zaj]
 rcases G.sat with ⟨h1,h2,hr⟩|⟨b,bs',rfl,⟨off,cap,front,rest',h1,h3,h4,h5,hw⟩,hr⟩
 ·obtain ⟨p0,h1⟩:=h1
  subst h1;subst h2
  by_cases hy:ys=[]
  ·subst hy
   refine ⟨.slice p0 0 0,w,?_,H,bs,G.size,G.os,G.tape,G.output,G.fz,G.old,.inl ⟨⟨_,rfl⟩,rfl,hr⟩,G.nd,G.ap⟩
   have h0:(Builtin.firstCells c.n 0 xv).run P w=.ok #[] w:=hsrc.cells
   have h1:∀ w',(Builtin.lenOf xv).run P w'=.ok 0 w':=hsrc.len
   rcases hsrc.kind with ⟨e',hk⟩|hk<;>simp [Builtin.append_,run_underlying ht.h,run_underlying hk,sizeOf,typeInfo,hi,h1,hsz,h0]<;>cases p0<;>simp [storeCells]
  ·have hpos:0 < ys.length:=List.length_pos_iff.2 hy
   have hlt:0 < ([]:List α).length+ys.length:=by simpa using hpos
   have hfc:(Builtin.firstCells i.size 0 (.slice p0 0 0)).run P w.drew=.ok (c.flat ([]:List α)).toArray w.drew:=by
    cases p0 with
    | none=>exact run_firstCells_none w.drew i.size 0 0 0
    | some q=>exact run_firstCells_some w.drew i.size 0 q 0 0 [] (by simp) (fun j u hj=>by simp at hj)
   exact grow0 p0 0 rfl hlt hfc hr G.nd G.ap
 ·subst h1
  by_cases hroom:xs.length+ys.length≤cap
  ·have hmul:c.n * xs.length+c.n * ys.length≤c.n * cap:=by rw [← Nat.mul_add];exact Nat.mul_le_mul_left _ hroom
   have hfl:=Zaf c xs
   have hfly:=Zaf c ys
   have e0:xs.length * c.n=c.n * xs.length:=Nat.mul_comm _ _
   have e9:ys.length * c.n=c.n * ys.length:=Nat.mul_comm _ _
   simp only [List.length_append] at h5
   have hrun:=Zc1 (P:=P) (w:=w) (t:=t) (tx:=tx) (ty:=ty') ht.h hi (b:=b) (off:=off) (sLen:=xs.length) (sCap:=cap) (x:=xv) (n:=ys.length) (news:=c.flat ys) (by rw [hsz];exact hsrc) hw hroom (by simp only [List.length_append,hsz];omega)
   refine ⟨_,_,hrun,H,b::bs',G.setBlock hr fun w' hw'=>?_⟩
   refine .inr ⟨b,[],rfl,⟨off,cap,front,rest'.drop (c.flat ys).length,by simp,h3,by simpa using hroom,?_,?_⟩,rfl⟩
   ·simp only [List.length_append,Zaj,List.length_drop];omega
   ·rw [hw',Zeh hw]
    congr 2
    have e2:off+xs.length * i.size=(front++c.flat xs).length+0:=by simp only [List.length_append,Zaf,h3,hsz];rfl
    have e3:=Zhe (front++c.flat xs) rest' [] (c.flat ys) 0 (by omega)
    rw [List.append_nil,List.append_nil] at e3
    rw [e2,e3]
    simp [setAll,Zaj]
  ·refine grow0 (some ⟨b,off,none⟩) cap rfl (by omega) ?_ hr (List.nodup_cons.1 G.nd).2 fun k hk=>G.ap k (List.mem_cons_of_mem _ hk)
   refine run_firstCells_some w.drew i.size xs.length ⟨b,off,none⟩ xs.length cap (c.flat xs) (by rw [Zaf,hsz]) fun j u hj=>?_
   rw [Zal]
   have hjl:j < (c.flat xs).length:=(List.getElem?_eq_some_iff.1 hj).1
   have hw':w.drew.heap[b]?=some (.cells (front++c.flat xs++rest').toArray el (0,0)):=hw
   simp only [World.cell?,hw']
   subst h3
   rw [List.getElem?_eq_getElem hjl,Option.some.injEq] at hj
   simp [List.getElem?_append,hjl,hj]
theorem Rdb.src {tx el:TypeId} [UL P tx (.slice el)] {ys:List α} {xv:Value} (h:Rdb (fun b=>w.heap[b]?) c xv ys):Src P c.n tx xv ys.length (c.flat ys) w:=by
 rcases h with ⟨⟨p,rfl⟩,rfl⟩|⟨b,off,cap,front,rest,T,fr,rfl,h2,h3,h4⟩
 ·cases p with
  | none=>exact Src.ofNil w (UL.h (P:=P)) 0
  | some q=>exact Src.ofSlice w (UL.h (P:=P)) q 0 0 [] (by simp) (fun j u hj=>by simp at hj) (by simp)
 ·refine Src.ofSlice w (UL.h (P:=P)) _ _ _ _ (by rw [Zaf]) (fun j u hj=>?_) (c.flat_one ys)
  rw [Zal]
  have hjl:j < (c.flat ys).length:=(List.getElem?_eq_some_iff.1 hj).1
  simp only [World.cell?,h4]
  subst h2
  rw [List.getElem?_eq_getElem hjl,Option.some.injEq] at hj
  simp [List.getElem?_append,hjl,hj]
def RW (c:Cod α) (T:TypeId) (xs:List α) (rest:List Ent) (v:Value) (As':List Ent):Prop:=As'=.ow c T v xs::rest
theorem Znu {t tx el:TypeId} {z0:α} {by_:Nat} {xv:Value} {ys:List α} [UL P t (.slice el)] [UL P tx (.slice el)] [ElC P el α c z0 by_] (hx:ev e x=some v) (hy:ev e y=some xv) [h:TakeW As v c el xs rest] [hr:RdIn As xv α c ys]
  (hb:(xs.length+ys.length) * by_≤140737488355328) (h63:xs.length+ys.length≤9223372036854775807):ExR P N w0 (.call ⟨.builtin .append,#[x,y],#[t,tx]⟩) ty e As (RW c el (xs++ys) rest):=by
 unfold ExR
 intro a w ha hs d pos af g
 obtain ⟨v',w',h1,h2⟩:=St.append (P:=P) (t:=t) (tx:=tx) (ty':=ty) (Ents.perm h.perm w0 w hs) (Rdb.src (P:=P) (tx:=tx) (hr.get w0 w hs)) hb h63
 exact ⟨v',w',_,by simp [execOp,ha.eval hx,ha.eval hy,resolve,invoke,builtin,h1],rfl,h2⟩
theorem Znv {t el:TypeId} {z0:α} {by_ b m:Nat} {l:List Value} {T:TypeId} {y1:α} {rest':List Ent} [UL P t (.slice el)] [ElC P el α c z0 by_] (hx:ev e x=some v) (hy:ev e y=some (.slice (some ⟨b,0,none⟩) 1 m)) [h:TakeC As b l T rest] [h':TakeW rest v c el xs rest']
  (hen:l=c.enc y1) (hb:(xs.length+1) * by_≤140737488355328) (h63:xs.length+1≤9223372036854775807):ExR P N w0 (.call ⟨.builtin .append,#[x,y],#[t,t]⟩) ty e As (RW c el (xs++[y1]) rest'):=by
 unfold ExR
 intro a w ha hs d pos af g
 have hw:=Ze2 (b:=b) (l:=l) (T:=T) (rest:=rest) hs
 have hsrc:Src P c.n t (.slice (some ⟨b,0,none⟩) 1 m) [y1].length (c.flat [y1]) w:=by
  refine Src.ofSlice w (UL.h (P:=P)) _ _ _ _ (by rw [Zaf];rfl) (fun j u hj=>?_) (c.flat_one _)
  rw [Zal]
  simp only [Cod.flat,List.flatMap_cons,List.flatMap_nil,List.append_nil] at hj
  simp [World.cell?,hw,hen,hj]
 obtain ⟨v',w',h1,h2⟩:=St.append (P:=P) (t:=t) (tx:=t) (ty':=ty) (Ents.perm h'.perm w0 w (Zb3 w0 w (Ents.perm h.perm w0 w hs))) hsrc hb h63
 exact ⟨v',w',_,by simp [execOp,ha.eval hx,ha.eval hy,resolve,invoke,builtin,h1],rfl,h2⟩
/-! make -/
theorem Zn3 {_i:TypeInfo} {z:Value} {z0:α} (hzc:z.cells.toList=c.enc z0) (hp:0 < c.n) (n:Nat):(madeCells z.cells (n * c.n)).toList=c.flat (List.replicate n z0):=by
 have hzs:z.cells.size=c.n:=by rw [← c.len z0,← hzc];simp
 apply List.ext_getElem?
 intro j
 have hfl:(c.flat (List.replicate n z0)).length=n * c.n:=by rw [Zaf];simp
 by_cases hj:j < n * c.n
 ·have h1:(madeCells z.cells (n * c.n)).toList[j]?=some (z.cells[j % z.cells.size]!):=by simp [madeCells,hj]
  have hq:j / c.n < n:=Nat.div_lt_of_lt_mul (by rw [Nat.mul_comm];exact hj)
  have hr:j % c.n < c.n:=Nat.mod_lt _ hp
  have hsp:=c.flat_split (xs:=List.replicate n z0) (i:=j / c.n) (x:=z0) (by simp [hq])
  have htl:=c.flat_take_length (xs:=List.replicate n z0) (i:=j / c.n) (x:=z0) (by simp [hq])
  have hje:j=j / c.n * c.n+j % c.n:=by rw [Nat.mul_comm];exact (Nat.div_add_mod j c.n).symm
  rw [h1,hsp,List.getElem?_append_right (by rw [htl];omega),htl,List.getElem?_append_left (by rw [c.len];omega),show j - j / c.n * c.n=j % c.n from by omega,← hzc,hzs]
  have hlt:j % c.n < z.cells.size:=by rw [hzs];exact hr
  simp [hlt]
 ·rw [List.getElem?_eq_none (by simp [madeCells];omega),List.getElem?_eq_none (by rw [hfl];omega)]
theorem Zyx {t el:TypeId} {z0:α} {by_ n m:Nat} {k k':IntKind} [UL P t (.slice el)] [hel:ElC P el α c z0 by_] (hx:ev e x=some (.int k (n:Int))) (hy:ev e y=some (.int k' (m:Int))) (hle:n≤m) (hb:by_ * m≤281474976710656) (h63:m≤9223372036854775807) :
  ExR P N w0 (.makeSlice t x y) ty e As (RW c el (List.replicate n z0) As):=by
 unfold ExR
 intro a w ha hs d pos af g
 obtain ⟨i,z,hi,hz,hsz,hby,hzc⟩:=hel.h
 have hrun:=run_make (P:=P) w t el i z (UL.h (P:=P)) hi hz k k' (n:Int) (m:Int) (by omega) (by omega) (by rw [hby];have h2:((by_ * m:Nat):Int)≤281474976710656:=(by omega);rw [Int.natCast_mul] at h2;exact h2) (by omega)
 have hal:=Zgk hs (madeCells z.cells (m * c.n)).toList el
 simp only [Int.toNat_natCast,hsz] at hrun
 refine ⟨.slice (some ⟨w.heap.size,0,none⟩) n m,w.alloc (.cells (madeCells z.cells (m * c.n)) el),_,?_,rfl,?_⟩
 ·simp only [execOp,ha.eval hx,ha.eval hy,Sem.run_bind,hrun,Result.andThen_ok]
  rfl
 ·rw [Array.toArray_toList] at hal
  obtain ⟨H,bs,G⟩:=hal
  obtain ⟨bs',rfl,hw,hr⟩:=G.sat
  refine ⟨H,_,G.size,G.os,G.tape,G.output,G.fz,G.old,.inr ⟨_,bs',rfl,⟨0,m,[],c.flat (List.replicate (m - n) z0),by simp,rfl,by simpa using hle,?_,?_⟩,hr⟩,G.nd,G.ap⟩
  ·simp only [List.length_append,Zaf,List.length_replicate,← Nat.add_mul]
   rw [Nat.mul_comm]
   exact Nat.mul_le_mul_right _ (by omega)
  ·rw [hw,Zn3 (_i:=i) hzc hel.pos m]
   have:List.replicate m z0=List.replicate n z0++List.replicate (m - n) z0:=by rw [List.replicate_append_replicate];congr 1;omega
   rw [this,Zaj]
   simp
theorem ExR.buildSlice {t el:TypeId} {ln:Nat} {parts:Array (Nat × Operand)} {vs l:List Value} [UL P t (.slice el)] (hp:evs e (parts.toList.map (·.2))=some vs)
  (hb:∀ w,(Instr.buildSlice t ln ((parts.toList.map (·.1)).zip vs).toArray).run P w=.ok (.slice (some ⟨w.heap.size,0,none⟩) ln ln) (w.alloc (.cells l.toArray el))) :
  ExR P N w0 (.buildSlice t ln parts) ty e As (RB (fun b=>.slice (some ⟨b,0,none⟩) ln ln) (fun b=>.cl b l el::As)):=by
 unfold ExR
 intro a w ha hs d pos af g
 have h1:(parts.map fun (i,x)=>(i,a.eval x))=((parts.toList.map (·.1)).zip vs).toArray:=by
  apply Array.toList_inj.1
  have:=ha.evals hp
  rw [← this]
  simp only [Array.toList_map,List.map_map]
  induction parts.toList with
  | nil=>rfl
  | cons q r ih=>simp [ih]
 refine ⟨_,_,_,?_,⟨w.heap.size,rfl,rfl⟩,Zgk hs l el⟩
 simp only [execOp,h1,Sem.run_bind,hb,Result.andThen_ok]
 rfl
end
attribute [irreducible] elp subV
end Go.Sx
namespace Go.Sx
open Go
section
variable {P:Program} {ops:Array Oper} {Q:Exit→Act→World→Prop} {md:Region.Mode} {S:World→Prop}
def sinkAt (md:Region.Mode) (ops:Array Oper) (j:Nat):Bool :=
 match ops[j]? with
 | some o=>(List.range ops.size).all fun i=>i == j||o.after.any fun e=>Region.binds md e&&e.on == i
 | none=>false
theorem Zsb {i j:Nat} {oj:Oper} (h:sinkAt md ops j=true) (hj:ops[j]?=some oj) (hi:i < ops.size) (hne:j≠i):∃ e∈oj.after,Region.binds md e=true∧e.on=i:=by
 unfold sinkAt at h
 rw [hj] at h
 have:=List.all_eq_true.1 h i (List.mem_range.2 hi)
 rcases Bool.or_eq_true _ _ ▸ this with h1|h1
 ·exact absurd (by simpa using h1) (Ne.symm hne)
 ·obtain ⟨e,he,hb⟩:=Array.any_eq_true'.1 h1
  simp only [Bool.and_eq_true,beq_iff_eq] at hb
  exact ⟨e,he,hb⟩
def tame (ops:Array Oper):Bool:=ops.toList.all fun o=>match o.op with
 | .select ..=>false
 | .defer _=>false
 | _=>true
theorem Z1k {j:Nat} {o:Oper} (h:tame ops=true) (hj:ops[j]?=some o):(∀ cs b,o.op≠.select cs b)∧∀ c,o.op≠.defer c:=by
 have hm:o∈ops.toList:=by
  rw [Array.mem_toList_iff]
  exact Array.mem_of_getElem? hj
 have:=List.all_eq_true.1 h o hm
 refine ⟨fun cs b he=>?_,fun c he=>?_⟩<;>simp [he] at this
def waits (md:Region.Mode) (ops:Array Oper) (j k:Nat):Bool:=match ops[j]? with
 | some o=>o.after.any fun e=>Region.binds md e&&e.on == k
 | none=>false
def CondL (md:Region.Mode) (ops:Array Oper) (S:World→Prop) (Z:Nat→World→Prop) (j:Nat) (w w':World):Prop :=
 sinkAt md ops j=true∨w'=w∨(S w'∧∀ k,waits md ops j k=true∨Z k w')
def wpAnyL (ro:Option Nat) (P:Program) (md:Region.Mode) (ops:Array Oper) (Q:Exit→Act→World→Prop) (S:World→Prop) (Z:Nat→World→Prop):Nat→Array Bool→Act→World→Prop
 | 0,listed,a,w=>Region.ready md ops listed=[]∧Q .normal a w
 | fuel+1,listed,a,w=>(Region.ready md ops listed=[]→Q .normal a w) ∧
  ∀ i∈Region.ready md ops listed,wpOpIn (fen ro) 0 P ops Q i (fun a' w'=>CondL md ops S Z i w w'∧wpAnyL ro P md ops Q S Z fuel (listed.setIfInBounds i true) a' w') a w
variable {ro:Option Nat} {Z:Nat→World→Prop} {I:World→Prop}
theorem wpAnyL.any:∀ (fuel:Nat) (listed:Array Bool) (a:Act) (w:World),wpAnyL ro P md ops Q S Z fuel listed a w→wpAnyIn (fen ro) 0 P md ops Q fuel listed a w
 | 0,_,_,_,h=>h
 | fuel+1,_,_,_,h=>⟨h.1,fun i hi=>wpOpIn_mono (fun a' w' k=>wpAnyL.any fuel _ a' w' k.2) (h.2 i hi)⟩
theorem Znf {i:Nat} {o:Oper} {v:Value} {a:Act} {w:World} (hi:ops[i]?=some o) (hy:YieldsIf P ops S o v a) {K:Act→World→Prop} (hS:S w) (h:K (a.put o.dst v) w):wpOpIn (fen ro) 0 P ops Q i K a w:=by
 unfold wpOpIn
 simp only [hi]
 rcases hy with ⟨hw,hv⟩|⟨hw,rfl⟩
 ·rw [if_pos hw]
  refine ⟨fun _ _=>trivial,?_⟩
  show o.uponIn (fen ro) 0 P a K Q ((o.semAt ro a.eval).run P w)
  rw [Zbv (hv w hS) (by intro d;simp),hv w hS]
  exact h
 ·rw [if_neg (by rw [hw];decide)]
  exact ⟨fun _ _=>trivial,h⟩
theorem Yg1 {j:Nat} {oi oj:Oper} {v:Value} (hj:ops[j]?=some oj) (hap:oi.apart ops oj=true) (ht:tame ops=true) (hti:∀ cs b,oi.op≠.select cs b) (hQ:∀ c a w,Q (.panic c) (a.put oi.dst v) w→Q (.panic c) a w)
  {K:Act→World→Prop} {a:Act} {w:World} (hy:YieldsIf P ops S oi v a) (h:wpOpIn (fen ro) 0 P ops Q j K (a.put oi.dst v) w) :
  wpOpIn (fen ro) 0 P ops Q j (fun a' w'=>YieldsIf P ops S oi v a'∧K (a'.put oi.dst v) w') a w:=by
 obtain ⟨h1,h2,h3⟩:=Oper.apart_spec hap
 obtain ⟨hs,hd⟩:=Z1k ht hj
 have keep:∀ (a:Act),YieldsIf P ops S oi v a→∀ u,YieldsIf P ops S oi v (a.put oj.dst u):=fun a hy u =>
  hy.of_same (execOp_put oi hti a oj.dst u h3) (wanted_put oi a oj.dst u h3)
 unfold wpOpIn at *
 simp only [hj] at *
 rw [wanted_put oj a oi.dst v h1] at h
 split
 ·rename_i hw
  rw [if_pos hw] at h
  refine ⟨fun _ _=>trivial,?_⟩
  have hk:oj.uponIn (fen ro) 0 P (a.put oi.dst v) K Q ((execOp a.eval oj).run P w):=by
   have:=h.2
   show oj.uponIn (fen ro) 0 P (a.put oi.dst v) K Q ((execOp a.eval oj).run P w)
   rw [← execOp_put oj hs a oi.dst v h1,← Oper.semAt_eq ro _ oj hd]
   exact this
  show oj.uponIn (fen ro) 0 P a _ Q ((oj.semAt ro a.eval).run P w)
  rw [Oper.semAt_eq ro _ oj hd]
  generalize (execOp a.eval oj).run P w=r at *
  cases r with
  | ok n w' =>
   cases n<;>simp only [Oper.uponIn] at hk ⊢
   case value u=>exact ⟨keep a hy u,by rw [← Act.put_comm a v u h2];exact hk⟩
   case skip=>exact ⟨keep a hy _,by rw [← Act.put_comm a v undef h2];exact hk⟩
   case defer d =>
    refine ⟨keep { a with defers:=d::a.defers } (hy.of_same rfl rfl) undef,?_⟩
    rw [← Act.put_comm _ v undef h2,← Act.put_defers]
    exact hk
   case enter f args =>
    refine ⟨hk.1,hk.2.mono fun e w'' he=>?_⟩
    cases e with
    | returned u=>exact ⟨keep a hy u,by rw [← Act.put_comm a v u h2];exact he⟩
    | panicked c=>exact hQ _ _ _ he
    | outgrown=>exact he
   case row row args=>exact ⟨hk.1,RowsIn.mono hk.2 fun u w'' he=>⟨keep a hy u,by rw [← Act.put_comm a v u h2];exact he⟩⟩
   case round l f tmps x y =>
    refine ⟨hk.1,RoundIn.mono hk.2 fun e w'' he=>?_⟩
    cases e with
    | returned u=>exact ⟨keep a hy u,by rw [← Act.put_comm a v u h2];exact he⟩
    | panicked c=>exact hQ _ _ _ he
    | outgrown=>exact he
  | halt x w' =>
   cases x<;>simp only [Oper.uponIn] at hk ⊢
   case panic u=>exact hQ _ _ _ hk
 ·rename_i hw
  rw [if_neg hw] at h
  exact ⟨fun _ _=>trivial,keep a hy _,by rw [← Act.put_comm a v undef h2];exact h.2⟩
theorem wpAnyL.first {i:Nat} {oi:Oper} {v:Value} (hi:ops[i]?=some oi) (ht:tame ops=true) (hQ:∀ c a w,Q (.panic c) (a.put oi.dst v) w→Q (.panic c) a w) (hI:∀ w,S w→Z i w→I w) :
  ∀ (fuel:Nat) (listed:Array Bool) (a:Act) (w:World),Region.free md ops listed i=true→i∈Region.ready md ops listed→YieldsIf P ops I oi v a→I w →
    wpAnyL ro P md ops Q S Z fuel (listed.setIfInBounds i true) (a.put oi.dst v) w→wpAnyL ro P md ops Q S Z (fuel+1) listed a w:=by
 intro fuel
 have hil:i < ops.size:=(Array.getElem?_eq_some_iff.1 hi).1
 induction fuel with
 | zero =>
  intro listed a w _ hr hy hS K
  refine ⟨fun h=>(by rw [h] at hr;cases hr),fun j hj=>?_⟩
  rcases Nat.decEq j i with hne|rfl
  ·have hm:=ready_mono hj hne
   rw [K.1] at hm
   cases hm
  ·exact Znf hi hy hS ⟨.inr (.inl rfl),K⟩
 | succ fuel ih =>
  intro listed a w hfr hr hy hS K
  refine ⟨fun h=>(by rw [h] at hr;cases hr),fun j hj=>?_⟩
  rcases Nat.decEq j i with hne|rfl
  case isTrue=>exact Znf hi hy hS ⟨.inr (.inl rfl),K⟩
  obtain ⟨hun,oj,hoj,hpre⟩:=mem_ready.1 hj
  have hiun:=(mem_ready.1 hr).1
  have hno:∀ e∈oj.after,Region.binds md e=true→e.on≠i:=by
   intro e he hb heq
   have h1:=hpre e he hb
   rw [heq] at h1
   by_cases hs:i < listed.size
   ·simp [hs] at hiun h1;rw [hiun] at h1;cases h1
   ·rw [Array.getD_eq_getD_getElem?,Array.getElem?_eq_none (by omega)] at h1;cases h1
  have hap:=Region.free_spec hi hfr j oj hoj hne hun hno
  have step:=Yg1 (S:=I) hoj hap ht (Z1k ht hi).1 hQ hy (K.2 j (ready_mono hj hne))
  refine wpOpIn_mono (fun a' w' t=>?_) step
  obtain ⟨ty,ts,tk⟩:=t
  have hSw:I w':=by
   rcases ts with hs|rfl|⟨hs,hz⟩
   ·obtain ⟨e,he,hb,ho⟩:=Zsb hs hoj hil hne
    exact absurd ho (hno e he hb)
   ·exact hS
   ·rcases hz i with h1|h1
    ·unfold waits at h1
     rw [hoj] at h1
     obtain ⟨e,he,hb⟩:=Array.any_eq_true'.1 h1
     simp only [Bool.and_eq_true,beq_iff_eq] at hb
     exact absurd hb.2 (hno e he hb.1)
    ·exact hI _ hs h1
  refine ⟨ts,ih (listed.setIfInBounds j true) a' w' ?_ (ready_mono hr (Ne.symm hne)) ty hSw ?_⟩
  ·unfold Region.free at hfr ⊢
   rw [hi] at hfr ⊢
   rw [List.all_eq_true] at hfr ⊢
   intro k hk
   have h1:=hfr k hk
   simp only [Bool.or_eq_true] at h1 ⊢
   rcases h1 with (h1|h1)|h1
   ·exact .inl (.inl h1)
   ·refine .inl (.inr ?_)
    by_cases hjk:j=k
    ·subst hjk;rw [hun] at h1;cases h1
    ·rw [getD_set_ne true hjk];exact h1
   ·exact .inr h1
  ·rw [Array.setIfInBounds_comm _ _ hne]
   exact tk

/-! trees of orders -/
inductive Tree where
 | done
 | take (i:Nat) (t:Tree)
 | all (l:List (Nat × Tree))
mutual
def Tree.depth:Tree→Nat
 | .done=>0
 | .take _ t=>t.depth+1
 | .all l=>Tree.depths l+1
def Tree.depths:List (Nat × Tree)→Nat
 | []=>0
 | (_,t)::r=>max t.depth (Tree.depths r)
end
mutual
def Tree.ok (ops:Array Oper) (listed:Array Bool):Tree→Bool
 | .done=>(Region.ready .any ops listed).isEmpty
 | .take i t=>(Region.ready .any ops listed).contains i&&Region.free .any ops listed i&&t.ok ops (listed.setIfInBounds i true)
 | .all l=>(Region.ready .any ops listed == l.map (·.1))&&!l.isEmpty&&Tree.oks ops listed l
def Tree.oks (ops:Array Oper) (listed:Array Bool):List (Nat × Tree)→Bool
 | []=>true
 | (i,t)::r=>t.ok ops (listed.setIfInBounds i true)&&Tree.oks ops listed r
end
structure RsP where
 r0:List Ent
 own:List (Nat × List Ent)
def RsP.SW (w0:World) (R:RsP) (w:World):Prop:=St w0 w R.r0
def RsP.ZW (w0:World) (R:RsP) (k:Nat) (w:World):Prop:=∀ x,(k,x)∈R.own→St w0 w x
class MemT (l:List (Nat × List Ent)) (i:Nat) (x:outParam (List Ent)):Prop where
 mem:(i,x)∈l
instance MemT.head {i:Nat} {x:List Ent} {l:List (Nat × List Ent)}:MemT ((i,x)::l) i x:=⟨List.mem_cons_self ..⟩
instance (priority:=low) MemT.tl {i:Nat} {x:List Ent} {y:Nat × List Ent} {l:List (Nat × List Ent)} [h:MemT l i x]:MemT (y::l) i x:=⟨List.mem_cons_of_mem _ h.mem⟩
class PanicOk (Q:Exit→Act→World→Prop):Prop where
 h:∀ c a d v w,Q (.panic c) (Act.put a d v) w→Q (.panic c) a w
instance {K:Act→World→Prop} [h:PanicOk Q]:PanicOk (Exit.then K Q):=⟨h.h⟩
instance {id:Nat} [h:PanicOk Q]:PanicOk (Exit.inBlock id Q):=⟨h.h⟩
instance {w0:World} {fn:Func} {K:Value→List Ent→Prop}:PanicOk (FQ P w0 fn K):=⟨fun _ _ _ _ _ h=>h⟩
instance {l:Nat} {R:Ending→World→Prop}:PanicOk (roundPost P l R):=⟨fun _ _ _ _ _ h=>h⟩
variable {N:Ctx} {w0:World} {e:Env} {As As' R:List Ent} {Rs:RsP} {t:Tree}
def TT (P:Program) (N:Ctx) (w0:World) (ops:Array Oper) (Rs:RsP) (t:Tree) (e:Env) (As:List Ent) (Q:Exit→Act→World→Prop):Prop :=
 tame ops=true→∀ fuel listed,t.depth≤fuel→t.ok ops listed=true→∀ a w,OkA N a e→St w0 w As→Rs.SW w0 w→wpAnyL N.ro P .any ops Q (Rs.SW w0) (Rs.ZW w0) fuel listed a w
def T1 (P:Program) (N:Ctx) (w0:World) (ops:Array Oper) (Rs:RsP) (i:Nat) (t:Tree) (e:Env) (As:List Ent) (Q:Exit→Act→World→Prop):Prop :=
 tame ops=true→∀ fuel listed,t.depth≤fuel→t.ok ops listed=true→∀ a w,OkA N a e→St w0 w As→wpOpIn (fen N.ro) 0 P ops Q i (fun a' w'=>CondL .any ops (Rs.SW w0) (Rs.ZW w0) i w w'∧wpAnyL N.ro P .any ops Q (Rs.SW w0) (Rs.ZW w0) fuel listed a' w') a w
def TTs (P:Program) (N:Ctx) (w0:World) (ops:Array Oper) (Rs:RsP) (l:List (Nat × Tree)) (e:Env) (As:List Ent) (Q:Exit→Act→World→Prop):Prop :=
 ∀ p∈l,T1 P N w0 ops Rs p.1 p.2 e As Q
theorem TT.done (h:Post N w0 Q .normal e As):TT P N w0 ops Rs .done e As Q:=by
 intro _ fuel listed _ hok a w ha hs _
 have hr:Region.ready .any ops listed=[]:=by simpa [Tree.ok,List.isEmpty_iff] using hok
 have hq:=h.out a w ha hs
 cases fuel with
 | zero=>exact ⟨hr,hq⟩
 | succ n=>exact ⟨fun _=>hq,by rw [hr];intro i hi;cases hi⟩
theorem TT.take {i d:Nat} {op:Op} {ty:TypeId} {pos:String} {af:Array Edge} {g:Option (Nat × Bool)} {v:Value} (ho:ops[i]?=some ⟨some d,op,ty,pos,af,g⟩) (hg:gOk ops e g=some true) (hN:Nat.blt d N.N=true) (hx:ExF P N w0 op ty e Rs.r0 v) [hp:PanicOk Q] (h:TT P N w0 ops Rs t ((d,v)::e) As Q):TT P N w0 ops Rs (.take i t) e As Q:=by
 intro hsel fuel listed hd hok a w ha hs hrs
 simp only [Tree.depth] at hd
 simp only [Tree.ok,Bool.and_eq_true] at hok
 obtain ⟨⟨h1,h2⟩,h3⟩:=hok
 cases fuel with
 | zero=>omega
 | succ n =>
  refine wpAnyL.first (I:=Rs.SW w0) ho hsel (fun c a w=>hp.h c a _ v w) (fun w h _=>h) n listed a w h2 (by simpa using h1) ?_ hrs ?_
  ·refine .inl ⟨gOk.wanted (o:=⟨some d,op,ty,pos,af,g⟩) ha hg,fun w' hw'=>?_⟩
   unfold ExF at hx
   exact hx a w' ha hw' _ _ _ _
  ·exact h hsel n _ (by omega) h3 _ w (ha.put hN v) hs hrs
theorem Zyr {i d:Nat} {op:Op} {ty:TypeId} {pos:String} {af:Array Edge} {g:Option (Nat × Bool)} {v:Value} [hm:MemT Rs.own i R] (ho:ops[i]?=some ⟨some d,op,ty,pos,af,g⟩) (hg:gOk ops e g=some true) (hN:Nat.blt d N.N=true) (hA:Ents As R) (hx:ExF P N w0 op ty e R v) [hp:PanicOk Q] (h:TT P N w0 ops Rs t ((d,v)::e) As Q):TT P N w0 ops Rs (.take i t) e As Q:=by
 intro hsel fuel listed hd hok a w ha hs hrs
 simp only [Tree.depth] at hd
 simp only [Tree.ok,Bool.and_eq_true] at hok
 obtain ⟨⟨h1,h2⟩,h3⟩:=hok
 cases fuel with
 | zero=>omega
 | succ n =>
  refine wpAnyL.first (I:=fun w=>St w0 w R) ho hsel (fun c a w=>hp.h c a _ v w) (fun w _ hz=>hz R hm.mem) n listed a w h2 (by simpa using h1) ?_ (hA w0 w hs) ?_
  ·refine .inl ⟨gOk.wanted (o:=⟨some d,op,ty,pos,af,g⟩) ha hg,fun w' hw'=>?_⟩
   unfold ExF at hx
   exact hx a w' ha hw' _ _ _ _
  ·exact h hsel n _ (by omega) h3 _ w (ha.put hN v) hs hrs
theorem Zpm {i d:Nat} {op:Op} {ty:TypeId} {pos:String} {af:Array Edge} {g:Option (Nat × Bool)} (ho:ops[i]?=some ⟨some d,op,ty,pos,af,g⟩) (hg:gOk ops e g=some false) (hN:Nat.blt d N.N=true) [hp:PanicOk Q] (h:TT P N w0 ops Rs t ((d,undef)::e) As Q):TT P N w0 ops Rs (.take i t) e As Q:=by
 intro hsel fuel listed hd hok a w ha hs hrs
 simp only [Tree.depth] at hd
 simp only [Tree.ok,Bool.and_eq_true] at hok
 obtain ⟨⟨h1,h2⟩,h3⟩:=hok
 cases fuel with
 | zero=>omega
 | succ n =>
  refine wpAnyL.first (I:=Rs.SW w0) ho hsel (fun c a w=>hp.h c a _ undef w) (fun w h _=>h) n listed a w h2 (by simpa using h1) ?_ hrs ?_
  ·exact .inr ⟨gOk.wanted (o:=⟨some d,op,ty,pos,af,g⟩) ha hg,rfl⟩
  ·exact h hsel n _ (by omega) h3 _ w (ha.put hN undef) hs hrs
theorem TT.know {d:Nat} {b c:Bool} (he:e.get d=some (.bool b)) (hb:b=c) (h:TT P N w0 ops Rs t ((d,.bool c)::e) As Q):TT P N w0 ops Rs t e As Q :=
 fun h0 fuel listed hd hok a w ha hs hrs=>h h0 fuel listed hd hok a w (ha.know he hb) hs hrs
theorem T1.know {i d:Nat} {b c:Bool} (he:e.get d=some (.bool b)) (hb:b=c) (h:T1 P N w0 ops Rs i t ((d,.bool c)::e) As Q):T1 P N w0 ops Rs i t e As Q :=
 fun h0 fuel listed hd hok a w ha hs=>h h0 fuel listed hd hok a w (ha.know he hb) hs
section
variable {i d:Nat} {o:Oper} {p:Prop} [Decidable p]
theorem Zbf (_ho:ops[i]?=some o) (_hd:gslot ops o.guard=some d) (he:e.get d=some (.bool (decide p))) (h1:p→TT P N w0 ops Rs (.take i t) ((d,.bool true)::e) As Q) (h0:¬ p→TT P N w0 ops Rs (.take i t) ((d,.bool false)::e) As Q):TT P N w0 ops Rs (.take i t) e As Q:=by
 by_cases h:p
 ·exact TT.know he (decide_eq_true h) (h1 h)
 ·exact TT.know he (decide_eq_false h) (h0 h)
theorem Za6 (_ho:ops[i]?=some o) (_hd:gslot ops o.guard=some d) (he:e.get d=some (.bool !(decide p))) (h1:¬ p→TT P N w0 ops Rs (.take i t) ((d,.bool true)::e) As Q) (h0:p→TT P N w0 ops Rs (.take i t) ((d,.bool false)::e) As Q):TT P N w0 ops Rs (.take i t) e As Q:=by
 by_cases h:p
 ·exact TT.know he (by simp [h]) (h0 h)
 ·exact TT.know he (by simp [h]) (h1 h)
theorem Yeu (_ho:ops[i]?=some o) (_hd:gslot ops o.guard=some d) (he:e.get d=some (.bool (decide p))) (h:p) (k:TT P N w0 ops Rs (.take i t) ((d,.bool true)::e) As Q):TT P N w0 ops Rs (.take i t) e As Q:=TT.know he (decide_eq_true h) k
theorem Yew (_ho:ops[i]?=some o) (_hd:gslot ops o.guard=some d) (he:e.get d=some (.bool (decide p))) (h:¬ p) (k:TT P N w0 ops Rs (.take i t) ((d,.bool false)::e) As Q):TT P N w0 ops Rs (.take i t) e As Q:=TT.know he (decide_eq_false h) k
theorem Z9j (_ho:ops[i]?=some o) (_hd:gslot ops o.guard=some d) (he:e.get d=some (.bool !(decide p))) (h:¬ p) (k:TT P N w0 ops Rs (.take i t) ((d,.bool true)::e) As Q):TT P N w0 ops Rs (.take i t) e As Q:=TT.know he (by simp [h]) k
theorem Z9k (_ho:ops[i]?=some o) (_hd:gslot ops o.guard=some d) (he:e.get d=some (.bool !(decide p))) (h:p) (k:TT P N w0 ops Rs (.take i t) ((d,.bool false)::e) As Q):TT P N w0 ops Rs (.take i t) e As Q:=TT.know he (by simp [h]) k
end
theorem Zyi:∀ {l:List (Nat × Tree)} {p:Nat × Tree},p∈l→p.2.depth≤Tree.depths l
 | q::r,p,hp=>by
  rcases List.mem_cons.1 hp with rfl|hp
  ·exact Nat.le_max_left _ _
  ·exact Nat.le_trans (Zyi hp) (Nat.le_max_right _ _)
theorem Z89 {listed:Array Bool}:∀ {l:List (Nat × Tree)} {p:Nat × Tree},p∈l→Tree.oks ops listed l=true→p.2.ok ops (listed.setIfInBounds p.1 true)=true
 | (i,t)::r,p,hp,h=>by
  simp only [Tree.oks,Bool.and_eq_true] at h
  rcases List.mem_cons.1 hp with rfl|hp
  ·exact h.1
  ·exact Z89 hp h.2
theorem TT.all {l:List (Nat × Tree)} (h:TTs P N w0 ops Rs l e As Q):TT P N w0 ops Rs (.all l) e As Q:=by
 intro hsel fuel listed hd hok a w ha hs hrs
 simp only [Tree.depth] at hd
 simp only [Tree.ok,Bool.and_eq_true,beq_iff_eq] at hok
 obtain ⟨⟨h1,h2⟩,h3⟩:=hok
 cases fuel with
 | zero=>omega
 | succ n =>
  refine ⟨fun h0=>?_,fun i hi=>?_⟩
  ·rw [h1] at h0
   have:l=[]:=by simpa using h0
   subst this;cases h2
  ·rw [h1] at hi
   obtain ⟨p,hp,rfl⟩:=List.mem_map.1 hi
   exact h p hp hsel n _ (Nat.le_trans (Zyi hp) (by omega)) (Z89 hp h3) a w ha hs
theorem TTs.nil:TTs P N w0 ops Rs [] e As Q:=fun _ h=>by cases h
theorem TTs.cons {i:Nat} {l:List (Nat × Tree)} (h:T1 P N w0 ops Rs i t e As Q) (k:TTs P N w0 ops Rs l e As Q):TTs P N w0 ops Rs ((i,t)::l) e As Q:=fun p hp=>by
 rcases List.mem_cons.1 hp with rfl|hp
 ·exact h
 ·exact k p hp
def Keep (ops:Array Oper) (i:Nat) (As:List Ent) (l:List (Nat × List Ent)):Prop:=∀ k x,(k,x)∈l→waits .any ops i k=true∨Ents As x
theorem Keep.nil {i:Nat}:Keep ops i As []:=fun _ _ h=>by cases h
theorem Keep.w {i k:Nat} {x:List Ent} {l:List (Nat × List Ent)} (hw:waits .any ops i k=true) (h:Keep ops i As l):Keep ops i As ((k,x)::l):=fun k' x' hm=>by
 rcases List.mem_cons.1 hm with he|hm
 ·cases he;exact .inl hw
 ·exact h k' x' hm
theorem Keep.c {i k:Nat} {x:List Ent} {l:List (Nat × List Ent)} (hc:Ents As x) (h:Keep ops i As l):Keep ops i As ((k,x)::l):=fun k' x' hm=>by
 rcases List.mem_cons.1 hm with he|hm
 ·cases he;exact .inr hc
 ·exact h k' x' hm
def TC (P:Program) (N:Ctx) (w0:World) (ops:Array Oper) (Rs:RsP) (i:Nat) (t:Tree) (e:Env) (As:List Ent) (Q:Exit→Act→World→Prop):Prop :=
 (Ents As Rs.r0∧Keep ops i As Rs.own∧TT P N w0 ops Rs t e As Q)∨(sinkAt .any ops i=true∧t=.done∧Post N w0 Q .normal e As)
theorem Yb5 {i:Nat} [h:Cov As Rs.r0] (hk:Keep ops i As Rs.own) (k:TT P N w0 ops Rs t e As Q):TC P N w0 ops Rs i t e As Q:=.inl ⟨Zgl h,hk,k⟩
theorem Z43 {i:Nat} (h:sinkAt .any ops i=true) (k:Post N w0 Q .normal e As):TC P N w0 ops Rs i .done e As Q:=.inr ⟨h,rfl,k⟩
theorem TC.out {i:Nat} (h:TC P N w0 ops Rs i t e As Q) (hsel:tame ops=true) {fuel:Nat} {listed:Array Bool} (hd:t.depth≤fuel) (hok:t.ok ops listed=true) {a:Act} {w w1:World} (ha:OkA N a e) (hs:St w0 w As) :
  CondL .any ops (Rs.SW w0) (Rs.ZW w0) i w1 w∧wpAnyL N.ro P .any ops Q (Rs.SW w0) (Rs.ZW w0) fuel listed a w:=by
 rcases h with ⟨h1,h0,h2⟩|⟨h1,rfl,h2⟩
 ·refine ⟨.inr (.inr ⟨h1 w0 w hs,fun k=>?_⟩),h2 hsel fuel listed hd hok a w ha hs (h1 w0 w hs)⟩
  by_cases hw:waits .any ops i k=true
  ·exact .inl hw
  ·exact .inr fun x hx=>by
    rcases h0 k x hx with h3|h3
    ·exact absurd h3 hw
    ·exact h3 w0 w hs
 ·have hr:Region.ready .any ops listed=[]:=by simpa [Tree.ok,List.isEmpty_iff] using hok
  have hq:=h2.out a w ha hs
  refine ⟨.inl h1,?_⟩
  cases fuel with
  | zero=>exact ⟨hr,hq⟩
  | succ n=>exact ⟨fun _=>hq,by rw [hr];intro i hi;cases hi⟩
section
variable {i d:Nat} {op:Op} {ty:TypeId} {pos:String} {af:Array Edge} {g:Option (Nat × Bool)} {v:Value}
theorem Z0k {R:Value→List Ent→Prop} (ho:ops[i]?=some ⟨some d,op,ty,pos,af,g⟩) (hg:gOk ops e g=some true) (hN:Nat.blt d N.N=true) (hx:ExR P N w0 op ty e As R)
  (h:∀ v As',R v As'→TC P N w0 ops Rs i t ((d,v)::e) As' Q):T1 P N w0 ops Rs i t e As Q:=by
 intro hsel fuel listed hd hok a w ha hs
 unfold wpOpIn
 simp only [ho]
 rw [gOk.wanted (o:=⟨some d,op,ty,pos,af,g⟩) ha hg,if_pos rfl]
 unfold ExR at hx
 obtain ⟨v,w',As',hrun,hr,hs'⟩:=hx a w ha hs (some d) pos af g
 refine ⟨fun _ _=>trivial,?_⟩
 show Oper.uponIn (fen N.ro) 0 P _ a _ Q ((Oper.semAt N.ro a.eval _).run P w)
 rw [Zbv hrun (by intro d;simp),hrun,Oper.uponIn_value]
 exact (h v As' hr).out hsel hd hok (ha.put hN v) hs'
theorem T1.rb {f:Nat→Value} {A:Nat→List Ent} (ho:ops[i]?=some ⟨some d,op,ty,pos,af,g⟩) (hg:gOk ops e g=some true) (hN:Nat.blt d N.N=true) (hx:ExR P N w0 op ty e As (RB f A))
  (h:∀ b,TC P N w0 ops Rs i t ((d,f b)::e) (A b) Q):T1 P N w0 ops Rs i t e As Q:=Z0k ho hg hN hx (fun _ _ ⟨b,h1,h2⟩=>by subst h1;subst h2;exact h b)
theorem T1.f (ho:ops[i]?=some ⟨some d,op,ty,pos,af,g⟩) (hg:gOk ops e g=some true) (hN:Nat.blt d N.N=true) (hx:ExF P N w0 op ty e As v)
  (h:TC P N w0 ops Rs i t ((d,v)::e) As Q):T1 P N w0 ops Rs i t e As Q:=by
 refine Z0k (R:=fun u Bs=>u=v∧Bs=As) ho hg hN ?_ (fun u Bs ⟨h1,h2⟩=>by subst h1;subst h2;exact h)
 unfold ExR
 unfold ExF at hx
 exact fun a w ha hs d pos af g=>⟨v,w,As,hx a w ha hs d pos af g,⟨rfl,rfl⟩,hs⟩
theorem T1.u (ho:ops[i]?=some ⟨none,op,ty,pos,af,g⟩) (hg:gOk ops e g=some true) (hx:ExU P N w0 op ty e As As') (h:TC P N w0 ops Rs i t e As' Q):T1 P N w0 ops Rs i t e As Q:=by
 intro hsel fuel listed hd hok a w ha hs
 unfold wpOpIn
 simp only [ho]
 rw [gOk.wanted (o:=⟨none,op,ty,pos,af,g⟩) ha hg,if_pos rfl]
 unfold ExU at hx
 obtain ⟨w',hrun,hs'⟩:=hx a w ha hs none pos af g
 refine ⟨fun _ _=>trivial,?_⟩
 show Oper.uponIn (fen N.ro) 0 P _ a _ Q ((Oper.semAt N.ro a.eval _).run P w)
 rw [Zbv hrun (by intro d;simp),hrun]
 exact h.out hsel hd hok ha hs'
theorem T1.off (ho:ops[i]?=some ⟨some d,op,ty,pos,af,g⟩) (hg:gOk ops e g=some false) (hN:Nat.blt d N.N=true) (h:TC P N w0 ops Rs i t ((d,undef)::e) As Q):T1 P N w0 ops Rs i t e As Q:=by
 intro hsel fuel listed hd hok a w ha hs
 unfold wpOpIn
 simp only [ho]
 rw [gOk.wanted (o:=⟨some d,op,ty,pos,af,g⟩) ha hg,if_neg (by decide)]
 exact ⟨fun _ _=>trivial,h.out hsel hd hok (ha.put hN undef) hs⟩
theorem Z44 (ho:ops[i]?=some ⟨none,op,ty,pos,af,g⟩) (hg:gOk ops e g=some false) (h:TC P N w0 ops Rs i t e As Q):T1 P N w0 ops Rs i t e As Q:=by
 intro hsel fuel listed hd hok a w ha hs
 unfold wpOpIn
 simp only [ho]
 rw [gOk.wanted (o:=⟨none,op,ty,pos,af,g⟩) ha hg,if_neg (by decide)]
 exact ⟨fun _ _=>trivial,h.out hsel hd hok ha hs⟩
theorem T1.callK {f:FuncId} {args:List Value} {K:Value→List Ent→Prop} (ho:ops[i]?=some ⟨some d,op,ty,pos,af,g⟩) (hg:gOk ops e g=some true) (hN:Nat.blt d N.N=true)
  (hx:∀ a w,OkA N a e→(execOp a.eval ⟨some d,op,ty,pos,af,g⟩).run P w=.ok (.enter f args.toArray) w) (hc:CallsS P w0 f args As K)
  (h:∀ v As',K v As'→TC P N w0 ops Rs i t ((d,v)::e) As' Q):T1 P N w0 ops Rs i t e As Q:=by
 intro hsel fuel listed hd hok a w ha hs
 unfold wpOpIn
 simp only [ho]
 rw [gOk.wanted (o:=⟨some d,op,ty,pos,af,g⟩) ha hg,if_pos rfl]
 refine ⟨fun _ _=>trivial,?_⟩
 show Oper.uponIn (fen N.ro) 0 P _ a _ Q ((Oper.semAt N.ro a.eval _).run P w)
 rw [Zbv (hx a w ha) (by intro d;simp),hx a w ha]
 refine ⟨fun h=>(by cases h),Zew ((hc.out w hs).mono fun en w' ⟨v,As',h1,h2,h3⟩=>?_)⟩
 subst h1
 exact (h v As' h2).out hsel hd hok (ha.put hN v) h3
theorem T1.call {f:FuncId} {xs:Array Operand} {vs:List Value} {tys:Array TypeId} {K:Value→List Ent→Prop} [Body P f] (ho:ops[i]?=some ⟨some d,.call ⟨.value (.func f),xs,tys⟩,ty,pos,af,g⟩) (hg:gOk ops e g=some true) (hN:Nat.blt d N.N=true)
  (hxs:evs e xs.toList=some vs) (hc:CallsS P w0 f vs As K) (h:∀ v As',K v As'→TC P N w0 ops Rs i t ((d,v)::e) As' Q):T1 P N w0 ops Rs i t e As Q :=
 T1.callK ho hg hN (fun a w ha=>Zfu hxs a w ha) hc h
end
class Mix (P:Program):Prop where
 h:P.follows .mixedOrders=true
theorem Zt4 [hm:Mix P] {id:Nat} (Rs:RsP) (t:Tree) (hd:Nat.ble t.depth ops.size=true) (hok:(tame ops&&t.ok ops (Array.replicate ops.size false))=true) (hR:Ents As Rs.r0) (h:TT P N w0 ops Rs t e As Q):Tri P N w0 (.region id ops true) e As Q :=
 Tri.mk fun a w ha hs=>wpIn_region_any hm.h (wpAnyL.any _ _ _ _ (h (by simpa using (Bool.and_eq_true _ _ ▸ hok).1) _ _ (Nat.le_of_ble_eq_true hd) (Bool.and_eq_true _ _ ▸ hok).2 a w.drew ha hs.drew (hR w0 _ hs.drew)))
theorem Zjp [hm:Mix P] {id:Nat} {Rs:List Ent} (t:Tree) (hd:Nat.ble t.depth ops.size=true) (hok:(tame ops&&t.ok ops (Array.replicate ops.size false))=true) (hR:Ents As Rs) (h:TT P N w0 ops ⟨Rs,[]⟩ t e As Q):Tri P N w0 (.region id ops true) e As Q :=
 Zt4 ⟨Rs,[]⟩ t hd hok hR h
theorem Zdc [Mix P] {id:Nat} (t:Tree) (hd:Nat.ble t.depth ops.size=true) (hok:(tame ops&&t.ok ops (Array.replicate ops.size false))=true) (h:TT P N w0 ops ⟨As,[]⟩ t e As Q):Tri P N w0 (.region id ops true) e As Q :=
 Zjp t hd hok (Ents.refl As) h
end
attribute [irreducible] TT T1 TTs TC
end Go.Sx
namespace Go.Sx
open Go
section
variable {P:Program} {N:Ctx} {w0:World} {e:Env} {As As' rest:List Ent} {Q:Exit→Act→World→Prop} {c1 c2:Code} {x:Operand}
theorem Zt5 {p:Prop} [Decidable p] (hx:ev e x=some (.bool (decide p))) (h1:p→Tri P N w0 c1 e As Q) (h2:¬ p→Tri P N w0 c2 e As Q):Tri P N w0 (.cond x c1 c2) e As Q :=
 Tri.cond hx (fun h=>h1 (of_decide_eq_true h)) (fun h=>h2 (of_decide_eq_false h))
theorem Z4w {p:Prop} [Decidable p] (hx:ev e x=some (.bool !(decide p))) (h1:¬ p→Tri P N w0 c1 e As Q) (h2:p→Tri P N w0 c2 e As Q):Tri P N w0 (.cond x c1 c2) e As Q :=
 Tri.cond hx (fun h=>h1 (by simpa using h)) (fun h=>h2 (by simpa using h))
theorem Zjq {p:Prop} [Decidable p] (hx:ev e x=some (.bool (decide p))) (h:p) (h1:Tri P N w0 c1 e As Q):Tri P N w0 (.cond x c1 c2) e As Q:=Zgg hx (decide_eq_true h) h1
theorem Zjr {p:Prop} [Decidable p] (hx:ev e x=some (.bool (decide p))) (h:¬ p) (h1:Tri P N w0 c2 e As Q):Tri P N w0 (.cond x c1 c2) e As Q:=Zfj hx (decide_eq_false h) h1
theorem Zpk {p:Prop} [Decidable p] (hx:ev e x=some (.bool !(decide p))) (h:¬ p) (h1:Tri P N w0 c1 e As Q):Tri P N w0 (.cond x c1 c2) e As Q:=Zgg hx (by simp [h]) h1
theorem Zpl {p:Prop} [Decidable p] (hx:ev e x=some (.bool !(decide p))) (h:p) (h1:Tri P N w0 c2 e As Q):Tri P N w0 (.cond x c1 c2) e As Q:=Zfj hx (by simp [h]) h1
theorem Z9h (hx:ev e x=some (.bool true)) (h1:Tri P N w0 c1 e As Q):Tri P N w0 (.cond x c1 c2) e As Q:=Zgg hx rfl h1
theorem Z9i (hx:ev e x=some (.bool false)) (h1:Tri P N w0 c2 e As Q):Tri P N w0 (.cond x c1 c2) e As Q:=Zfj hx rfl h1

/-! building values, sorted by how full the literal is -/
def flatCells:List Value→List Value
 | []=>[]
 | v::r=>v.cells.toList++flatCells r
theorem Z04 {t n b:Nat} {l:List Value} {ty:TypeId} [TI P t (.agg l.toArray) n b] (hb:∀ w,(Instr.build t #[]).run P w=.ok (.agg l.toArray) w):ExF P N w0 (.build t #[]) ty e As (.agg l.toArray) :=
 ExF.build (vs:=[]) rfl hb
theorem Z05 {t n b:Nat} {z':Value} {ty:TypeId} {parts:Array (Nat × Operand)} {vs:List Value} [TI P t z' n b] (hp:evs e (parts.toList.map (·.2))=some vs) (_h1:oneB vs=true) (_h2:vs.length=n)
  (hb:∀ w,(Instr.build t ((parts.toList.map (·.1)).zip vs).toArray).run P w=.ok (.agg vs.toArray) w):ExF P N w0 (.build t parts) ty e As (.agg vs.toArray):=ExF.build hp hb
theorem Z07 {t n b:Nat} {z':Value} {ty:TypeId} {parts:Array (Nat × Operand)} {vs:List Value} [TI P t z' n b] (hp:evs e (parts.toList.map (·.2))=some vs) (_h2:(flatCells vs).length=n)
  (hb:∀ w,(Instr.build t ((parts.toList.map (·.1)).zip vs).toArray).run P w=.ok (.agg (flatCells vs).toArray) w):ExF P N w0 (.build t parts) ty e As (.agg (flatCells vs).toArray):=ExF.build hp hb
theorem Znt {t el ln n b:Nat} {z':Value} {ty:TypeId} {parts:Array (Nat × Operand)} {vs:List Value} [UL P t (.slice el)] [TI P el z' n b] (hp:evs e (parts.toList.map (·.2))=some vs) (_h2:(flatCells vs).length=ln * n)
  (hb:∀ w,(Instr.buildSlice t ln ((parts.toList.map (·.1)).zip vs).toArray).run P w=.ok (.slice (some ⟨w.heap.size,0,none⟩) ln ln) (w.alloc (.cells (flatCells vs).toArray el))) :
  ExR P N w0 (.buildSlice t ln parts) ty e As (RB (fun b=>.slice (some ⟨b,0,none⟩) ln ln) (fun b=>.cl b (flatCells vs) el::As)):=ExR.buildSlice hp hb

/-! the usual cases of memory, with the entries' lists written out -/
theorem Z8p {t:TypeId} {ty:TypeId} {l:List Value} (hx:ev e x=some (.agg l.toArray)):ExR P N w0 (.box t x) ty e As (RB (fun b=>.pointer (some ⟨b,0,none⟩)) (fun b=>.cl b l t::As)):=ExR.box hx rfl
theorem Z8q {t:TypeId} {ty:TypeId} {v:Value} (hx:ev e x=some v) (h1:v.cells=#[v]):ExR P N w0 (.box t x) ty e As (RB (fun b=>.pointer (some ⟨b,0,none⟩)) (fun b=>.cl b [v] t::As)):=ExR.box hx (by rw [h1])
theorem Z0p {t ty:TypeId} {l:List Value} {n b':Nat} [TI P t (.agg l.toArray) n b']:ExR P N w0 (.alloc t) ty e As (RB (fun b=>.pointer (some ⟨b,0,none⟩)) (fun b=>.cl b l t::As)):=ExR.alloc rfl
theorem Z0q {t ty:TypeId} {z:Value} {n b':Nat} [TI P t z n b'] (h1:z.cells=#[z]):ExR P N w0 (.alloc t) ty e As (RB (fun b=>.pointer (some ⟨b,0,none⟩)) (fun b=>.cl b [z] t::As)):=ExR.alloc (by rw [h1])
theorem Zuf {t ty:TypeId} {ud:TypeDesc} {z':Value} {n b' b:Nat} {l:List Value} {T:TypeId} [UL P t ud] [TI P t z' n b'] (hag:aggB ud=true) (hx:ev e x=some (.pointer (some ⟨b,0,none⟩))) [TakeC As b l T rest]
  (hl:l.length=n):ExF P N w0 (.load t x) ty e As (.agg l.toArray):=Zug (rest:=rest) hag hx (by rw [hl,Nat.zero_add];exact Nat.ble_eq_true_of_le (Nat.le_refl _)) (by rw [List.drop_zero,← hl,List.take_length])
theorem Zry {t ty:TypeId} {z':Value} {n b' b:Nat} {l vs:List Value} {T:TypeId} {y:Operand} [TI P t z' n b'] (hx:ev e x=some (.pointer (some ⟨b,0,none⟩))) (hy:ev e y=some (.agg vs.toArray)) (hn:vs.length=n) (h1:oneB vs=true) [TakeC As b l T rest]
  (hl:l.length=n):ExU P N w0 (.store t x y) ty e As (.cl b vs T::rest):=Zpo hx hy hn h1 (by rw [hl,Nat.zero_add];exact Nat.ble_eq_true_of_le (Nat.le_refl _)) (by unfold setAll;simp [hn,← hl])
theorem Z0n {t ty:TypeId} {z':Value} {b' b:Nat} {u v:Value} {T:TypeId} {y:Operand} [TI P t z' 1 b'] (hx:ev e x=some (.pointer (some ⟨b,0,none⟩))) (hy:ev e y=some v) (hv:v.cells=#[v]) (h1:v.oneCell'=true) [TakeC As b [u] T rest] :
  ExU P N w0 (.store t x y) ty e As (.cl b [v] T::rest):=ExU.store (rest:=rest) hx hy hv h1 rfl rfl

/-! results -/
def rvRun (tmps:Array Value):ResultVar→Sem Value
 | .tmp t=>pure (tmps.getD t undef)
 | .cell a t=>do loadVar t (← asAddr (tmps.getD a undef))
theorem Zcq (fn:Func) (tmps:Array Value):results fn tmps=(do let vs ← fn.results.mapM (rvRun tmps);pure (if h:vs.size=1 then vs[0] else .tuple vs)):=rfl
def RV (P:Program) (N:Ctx) (w0:World) (e:Env) (As:List Ent) (r:ResultVar) (v:Value):Prop :=
 ∀ a w,OkA N a e→St w0 w As→(rvRun a.tmps r).run P w=.ok v w
theorem RV.tmp {t:Nat} {v:Value} (h:e.get t=some v):RV P N w0 e As (.tmp t) v:=fun a w ha _=>by
 have:=ha.holds t v h
 simp [rvRun,Array.getD_eq_getD_getElem?,this]
theorem RV.cell {t T':Nat} {ud:TypeDesc} {b off:Nat} {l:List Value} {T:TypeId} {v:Value} [UL P T' ud] (hag:aggB ud=false) (h:e.get t=some (.pointer (some ⟨b,off,none⟩))) [TakeC As b l T rest] (hv:l[off]?=some v):RV P N w0 e As (.cell t T') v:=fun a w ha hs=>by
 have:=ha.holds t _ h
 have hw:=Ze2 (b:=b) (l:=l) (T:=T) (rest:=rest) hs
 have hc:w.cell? ⟨b,off,none⟩=some v:=by simp [World.cell?,hw,hv]
 simp [rvRun,Array.getD_eq_getD_getElem?,this,asAddr,loadVar,Zd5,hag,hc]
theorem Zyu {t T' n b':Nat} {ud:TypeDesc} {z':Value} {b off:Nat} {l vs:List Value} {T:TypeId} [UL P T' ud] [TI P T' z' n b'] (hag:aggB ud=true) (h:e.get t=some (.pointer (some ⟨b,off,none⟩))) [TakeC As b l T rest] (hl:Nat.ble (off+n) l.length=true) (hv:(l.drop off).take n=vs) :
  RV P N w0 e As (.cell t T') (.agg vs.toArray):=fun a w ha hs=>by
 have:=ha.holds t _ h
 have hw:=Ze2 (b:=b) (l:=l) (T:=T) (rest:=rest) hs
 subst hv
 simp [rvRun,Array.getD_eq_getD_getElem?,this,asAddr,loadVar,Zd5,hag,Za9,Zig hw (Nat.le_of_ble_eq_true hl)]
theorem Z8n {t T' n b':Nat} {ud:TypeDesc} {z':Value} {b:Nat} {l:List Value} {T:TypeId} [UL P T' ud] [TI P T' z' n b'] (hag:aggB ud=true) (h:e.get t=some (.pointer (some ⟨b,0,none⟩))) [TakeC As b l T rest] (hl:l.length=n) :
  RV P N w0 e As (.cell t T') (.agg l.toArray):=Zyu (rest:=rest) hag h (by rw [hl,Nat.zero_add];exact Nat.ble_eq_true_of_le (Nat.le_refl _)) (by rw [List.drop_zero,← hl,List.take_length])
theorem Znp {fn:Func} {K:Value→List Ent→Prop} (hds:N.ds=[]) (hf:fn.results=#[]) (hk:∃ As',K (.tuple #[]) As'∧Ents As As'):Post N w0 (FQ P w0 fn K) .ret e As :=
 Zlr hds (fun a w ha hs=>by simp [Zcq,hf]) hk
theorem Zno {fn:Func} {K:Value→List Ent→Prop} {r:ResultVar} {v:Value} (hds:N.ds=[]) (hf:fn.results=#[r]) (hr:RV P N w0 e As r v) (hk:∃ As',K v As'∧Ents As As'):Post N w0 (FQ P w0 fn K) .ret e As :=
 Zlr hds (fun a w ha hs=>by
  rw [Zcq,hf]
  simp [hr a w ha hs]) hk
theorem Znn {fn:Func} {K:Value→List Ent→Prop} {r r':ResultVar} {v v':Value} (hds:N.ds=[]) (hf:fn.results=#[r,r']) (hr:RV P N w0 e As r v) (hr':RV P N w0 e As r' v') (hk:∃ As',K (.tuple #[v,v']) As'∧Ents As As'):Post N w0 (FQ P w0 fn K) .ret e As :=
 Zlr hds (fun a w ha hs=>by
  rw [Zcq,hf]
  simp [hr a w ha hs,hr' a w ha hs]) hk
theorem Znm {fn:Func} {K:Value→List Ent→Prop} {r r' r'':ResultVar} {v v' v'':Value} (hds:N.ds=[]) (hf:fn.results=#[r,r',r'']) (hr:RV P N w0 e As r v) (hr':RV P N w0 e As r' v') (hr'':RV P N w0 e As r'' v'') (hk:∃ As',K (.tuple #[v,v',v'']) As'∧Ents As As'):Post N w0 (FQ P w0 fn K) .ret e As :=
 Zlr hds (fun a w ha hs=>by
  rw [Zcq,hf]
  simp [hr a w ha hs,hr' a w ha hs,hr'' a w ha hs]) hk
theorem Zkh {fn:Func} {K:Value→List Ent→Prop} {ex:Exit} (h:Ents As As') (k:Post N w0 (FQ P w0 fn K) ex e As'):Post N w0 (FQ P w0 fn K) ex e As:=Post.ents h k
end
end Go.Sx
