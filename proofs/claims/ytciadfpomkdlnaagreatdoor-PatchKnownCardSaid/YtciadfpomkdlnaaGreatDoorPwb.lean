/- Plain: patches with the same values of the channels, joined. -/
import Derived.Test.YtciadfpomkdlnaaGreatDoorPp1
import Derived.Test.YtciadfpomkdlnaaGreatDoorPw8
import Derived.WalkSpells
import Derived.Test.YtciadfpomkdlnaaGreatDoorPw1
set_option maxHeartbeats 1000000
namespace Go.Proofs.YtciadfpomkdlnaaGreatDoor.Q
open Go Go.Sx
structure GP where
 nm:List UInt8
 dev:List Int
 c:Nat
 x:Int
 y:Int
 z:Int
def meanQ (s:Int) (c:Nat):Int:=nearQ (mkRat s c) 1
def GP.out (g:GP):PP:=(g.nm,g.dev,meanQ g.x g.c,meanQ g.y g.c,meanQ g.z g.c)
def GP.add (g:GP) (p:PP):GP:=⟨g.nm,g.dev,g.c+1,g.x+p.2.2.1,g.y+p.2.2.2.1,g.z+p.2.2.2.2⟩
def GP.new (p:PP):GP:=⟨p.1,p.2.1,0,0,0,0⟩
def addG (p:PP):List GP→List GP
 | []=>[(GP.new p).add p]
 | g::r=>if g.dev=p.2.1 then g.add p::r else g::addG p r
def mergeG (l:List PP):List GP:=l.foldl (fun T p=>addG p T) []
def mergeP (l:List PP):List PP:=(mergeG l).map GP.out
def findG (d:List Int):List GP→Option Nat
 | []=>none
 | g::r=>if g.dev=d then some 0 else (findG d r).map (·+1)
theorem Zt3 {d:List Int} {T:List GP} (h:findG d T=none) {p:PP} (hp:p.2.1=d):addG p T=(T++[GP.new p]).set T.length ((GP.new p).add p):=by
 induction T with
 | nil=>rfl
 | cons g r ih =>
  unfold findG at h
  split at h
  ·cases h
  ·rename_i hne
   have hr:findG d r=none:=by cases hq:findG d r with
    | none=>rfl
    | some i=>rw [hq] at h;cases h
   unfold addG
   rw [if_neg (by rw [hp];exact hne),ih hr]
   rfl
theorem Zfv {d:List Int} {T:List GP} {i:Nat} (h:findG d T=some i) {p:PP} (hp:p.2.1=d):∃ g,T[i]?=some g∧g.dev=d∧addG p T=T.set i (g.add p):=by
 induction T generalizing i with
 | nil=>cases h
 | cons g r ih =>
  unfold findG at h
  split at h
  ·rename_i he
   cases h
   exact ⟨g,rfl,he,by unfold addG;rw [if_pos (by rw [hp];exact he)];rfl⟩
  ·rename_i hne
   cases hq:findG d r with
   | none=>rw [hq] at h;cases h
   | some j =>
    rw [hq] at h
    cases h
    obtain ⟨g',h1,h2,h3⟩:=ih hq
    exact ⟨g',by rw [List.getElem?_cons_succ];exact h1,h2,by unfold addG;rw [if_neg (by rw [hp];exact hne),h3];rfl⟩
theorem Zoo {d:List Int} {T:List GP} {g:GP}:findG d (T++[g])=match findG d T with|some i=>some i|none=>if g.dev=d then some T.length else none:=by
 induction T with
 | nil=>show (if g.dev=d then some 0 else (none:Option Nat).map _)=_;rfl
 | cons a r ih =>
  show (if a.dev=d then some 0 else (findG d (r++[g])).map (·+1))=_
  have e:findG d (a::r)=if a.dev=d then some 0 else (findG d r).map (·+1):=rfl
  rw [e]
  by_cases h:a.dev=d
  ·rw [if_pos h,if_pos h]
  ·rw [if_neg h,if_neg h,ih]
   cases findG d r with
   | some i=>rfl
   | none =>
    show Option.map _ (if g.dev=d then some r.length else none)=if g.dev=d then some (r.length+1) else none
    by_cases h2:g.dev=d
    ·rw [if_pos h2,if_pos h2];rfl
    ·rw [if_neg h2,if_neg h2];rfl
theorem Zwt {d:List Int} {T:List GP} {i:Nat} {g g':GP} (h:T[i]?=some g) (hd:g'.dev=g.dev):findG d (T.set i g')=findG d T:=by
 induction T generalizing i with
 | nil=>rfl
 | cons a r ih =>
  cases i with
  | zero =>
   cases h
   show (if g'.dev=d then some 0 else _)=if g.dev=d then some 0 else _
   rw [hd]
  | succ i =>
   show (if a.dev=d then some 0 else (findG d (r.set i g')).map _)=_
   rw [ih (by rwa [List.getElem?_cons_succ] at h)]
   rfl
def keyG (d:List Int):Int × Int × Int × Int:=(d.getD 0 0,d.getD 1 0,d.getD 2 0,d.getD 3 0)
theorem Zz1 {d e:List Int} (h:keyG d=keyG e) (hl:d.length=e.length) (h4:d.length≤4):d=e:=by
 simp only [keyG,Prod.mk.injEq] at h
 obtain ⟨h0,h1,h2,h3⟩:=h
 rcases d with _|⟨a,_|⟨b,_|⟨c,_|⟨d,_|⟨d5,d⟩⟩⟩⟩⟩<;>rcases e with _|⟨a',_|⟨b',_|⟨c',_|⟨e,_|⟨e5,e⟩⟩⟩⟩⟩<;>simp at hl h4 h0 h1 h2 h3 ⊢<;>first|omega|simp_all
end Go.Proofs.YtciadfpomkdlnaaGreatDoor.Q
namespace Go.Sx
open Go
section
variable {P:Program} {N:Ctx} {w0 w:World} {e:Env} {As rest:List Ent} {ty:TypeId} {x y:Operand} {α:Type} {c:Cod α} {ys:List α}
def cK4 (k:Int × Int × Int × Int):Value:=.agg #[.int .i64 k.1,.int .i64 k.2.1,.int .i64 k.2.2.1,.int .i64 k.2.2.2]
instance encK4 {a b c d:Int}:EncV cK4 (.agg #[.int .i64 a,.int .i64 b,.int .i64 c,.int .i64 d]) (a,b,c,d):=⟨rfl⟩
instance keyK4 {t el:TypeId} {z:Value} {b:Nat} [UL P t (.array 4 el)] [UL P el (.int .i64)] [TI P el z 1 b]:KeyT P t (Int × Int × Int × Int) cK4 where
 check em k w:=by
  have hp:∀ (i:Nat) (v:Value),(#[Value.int .i64 k.1,.int .i64 k.2.1,.int .i64 k.2.2.1,.int .i64 k.2.2.2]:Array Value)[i]?=some v→(part el #[Value.int .i64 k.1,.int .i64 k.2.1,.int .i64 k.2.2.1,.int .i64 k.2.2.2] i).run P w=.ok v w:=fun i v h=>Zdt (k:=.i64) _ i h
  have p0:=hp 0 _ rfl
  have p1:=hp 1 _ rfl
  have p2:=hp 2 _ rfl
  have p3:=hp 3 _ rfl
  have hc:∀ (n:Nat) (a:Int),(Instr.checkKey em (n+1) el (.int .i64 a)).run P w=.ok () w:=fun n a=>by simp [Instr.checkKey,Zam]
  have h2:(sizeOf el).run P w=.ok 1 w:=Za8
  show (Instr.checkKey em (9998+1+1) t (cK4 k)).run P w=.ok () w
  unfold Instr.checkKey
  simp only [cK4,Sem.run_bind,Zam,Result.andThen_ok]
  simp [Std.Legacy.Range.forIn_eq_forIn_range',List.range'_succ,p0,p1,p2,p3,hc,h2]
 same k:=by
  have h1:Instr.sameBits 10000 (cK4 k) (cK4 k)=((IntKind.i64 == IntKind.i64&&k.1 == k.1)&&((IntKind.i64 == IntKind.i64&&k.2.1 == k.2.1)&&((IntKind.i64 == IntKind.i64&&k.2.2.1 == k.2.2.1)&&((IntKind.i64 == IntKind.i64&&k.2.2.2 == k.2.2.2)&&true)))):=rfl
  rw [h1]
  simp
 find:=⟨_,UL.h (P:=P) (t:=t),.inr ⟨fun a b=>rfl,fun a b w=>by
  have h:=Zmk (P:=P) (t:=t) (el:=el) (z:=z) (b:=_) (w:=w) a.1 a.2.1 a.2.2.1 a.2.2.2 b.1 b.2.1 b.2.2.1 b.2.2.2
  obtain ⟨a1,a2,a3,a4⟩:=a
  obtain ⟨b1,b2,b3,b4⟩:=b
  refine h.trans ?_
  simp [Prod.mk.injEq]⟩⟩
theorem Zud {t tx el T:TypeId} {zv:Value} {b b' n:Nat} {l:List Value} {xv:Value} [UL P t (.slice el)] [TI P el zv 1 b'] (hx:ev e x=some (.slice (some ⟨b,0,none⟩) n n)) (hy:ev e y=some xv) [h:TakeC As b l T rest] [hr:RdIn As xv α c ys] (hcn:c.n=1) (hn:l.length=n) (hle:ys.length≤n) :
  ExR P N w0 (.call ⟨.builtin .copy,#[x,y],#[t,tx]⟩) ty e As (fun u As'=>u=.int .i64 (ys.length:Nat)∧As'=.cl b (c.flat ys++l.drop ys.length) T::rest):=by
 unfold ExR
 intro a w ha hs d pos af g
 have hrd:=hr.get w0 w hs
 obtain ⟨i,hi,_,hsz,_⟩:=(inferInstance:TI P el zv 1 b').info
 have hsize:(P.info? el).map (·.size)=some 1:=by rw [hi,Option.map_some,hsz]
 have hs':=Ents.perm h.perm w0 w hs
 rcases hrd with ⟨⟨q,hq⟩,hys⟩|⟨sb,so,sc,sf,sr,sT,fr,g1,g2,g3,g4⟩
 ·subst hys
  have hrun:=run_copy_none (P:=P) w t tx ty el (some ⟨b,0,none⟩) q n n 0 0 (UL.h (P:=P)) hsize (by simp)
  refine ⟨_,w,_,?_,⟨rfl,rfl⟩,hs'⟩
  rw [← hq] at hrun
  simp [execOp,ha.eval hx,ha.eval hy,resolve,invoke,builtin,hrun,goInt]
 ·obtain ⟨H,bs,G⟩:=hs'
  obtain ⟨bs',rfl,hw,hrest⟩:=G.sat
  have hfl:(c.flat ys).length=ys.length:=by rw [Zaf,hcn,Nat.mul_one]
  have hrun:=run_copy_row (P:=P) w t tx ty el b 0 n n ⟨sb,so,none⟩ ys.length sc l.toArray T (c.flat ys) (UL.h (P:=P)) hsize hw (by rw [hfl];exact (Nat.min_eq_left hle).symm)
   (fun j z hj=>by
    rw [Zah]
    have hjl:j < (c.flat ys).length:=(List.getElem?_eq_some_iff.1 hj).1
    simp only [World.cell?,g4]
    subst g2
    rw [List.getElem?_eq_getElem hjl,Option.some.injEq] at hj
    simp [List.getElem?_append,hjl,hj]) (by simp only [List.size_toArray,hfl];omega) (c.flat_one ys)
  rw [← g1,hfl] at hrun
  obtain ⟨w1,hw1⟩:∃ w1,w1=w.setRow b (l.toArray.toList.take 0++c.flat ys++l.toArray.toList.drop (0+ys.length)).toArray:=⟨_,rfl⟩
  rw [← hw1] at hrun
  refine ⟨.int .i64 (ys.length:Nat),w1,_,by simp [execOp,ha.eval hx,ha.eval hy,resolve,invoke,builtin,hrun,goInt],⟨rfl,rfl⟩,?_⟩
  subst hw1
  refine ⟨H,b::bs',G.setBlock hrest fun w' hw'=>?_⟩
  refine ⟨[],rfl,?_,rfl⟩
  rw [hw',Zcw hw]
  simp
theorem Zq8 {t el t':TypeId} {v:Value} [UL P t (.slice el)] [hr:RdIn As v α c ys] (hx:ev e x=some v) (hy:ev e y=some (.slice none 0 0)):ExR P N w0 (.binOp .eql t x y t') ty e As (fun u As'=>∃ b:Bool,u=.bool b∧(b=true→ys=[])∧As'=As):=by
 unfold ExR
 intro a w ha hs d pos af g
 rcases hr.get w0 w hs with ⟨⟨p,rfl⟩,rfl⟩|⟨b,off,cap,front,rest,T,fr,rfl,h2,h3,h4⟩
 ·exact ⟨.bool p.isNone,w,As,by simp [execOp,ha.eval hx,ha.eval hy,eqGuard,Lib.run_eql_slice_nil w t el p 0 0 0 0 UL.h],⟨_,rfl,fun _=>rfl,rfl⟩,hs⟩
 ·exact ⟨.bool false,w,As,by simp [execOp,ha.eval hx,ha.eval hy,eqGuard,Lib.run_eql_slice_nil w t el (some ⟨b,off,none⟩) ys.length cap 0 0 UL.h],⟨_,rfl,(fun h=>by cases h),rfl⟩,hs⟩
end
end Go.Sx
namespace Go.Proofs.YtciadfpomkdlnaaGreatDoor.Q
open Go Go.Sx
variable {w0:World} {As:List Ent}
theorem Zw8 {v:Value} {d:List Int} [hr:RdIn As v Int (cI .i64) d] (hl:d.length≤1000000):CallsS Tryz.prog w0 91 [v] As fun u Bs=>∃ p cap,u=.slice p d.length cap∧Bs=.ow (cI .i64) 3 u d::As:=by
 haveI:ElC Tryz.prog 3 Int (cI .i64) 0 8:=⟨by obtain ⟨i,h1,h2,h3,h4⟩:=(inferInstance:TI Tryz.prog 3 _ _ _).info;exact ⟨i,_,h1,h2,h3,h4,rfl⟩,by decide⟩
 refine Zf0 (α:=Int) (cd:=cI .i64) ?_ fun v Bs h=>by rw [h];infer_instance
 refine Zab Tryz.func91 rfl Tryz.ntmps91 rfl ?_
 repeat' first|refine Kz ?_|intro _
 refine Zqy rfl rfl (Zq8 rfl rfl) ?_
 rintro _ _ ⟨b,rfl,hb,rfl⟩
 repeat' first|refine Kz ?_|intro _
 cases b
 ·repeat' first|refine Kz ?_|intro _
  (refine Zac ?_)
  exact ⟨_,rfl,Zaa⟩
 ·cases hb rfl
  repeat' first|refine Kz ?_|intro _
  (refine Zac ?_)
  exact ⟨_,rfl,Zay (cI .i64)⟩
end Go.Proofs.YtciadfpomkdlnaaGreatDoor.Q
namespace Go.Proofs.YtciadfpomkdlnaaGreatDoor.Q
open Go Go.Sx
abbrev GV:=Nat × Nat × Int × Int × Int
def GP.val (i:Nat) (g:GP):GV:=(i,g.c,g.x,g.y,g.z)
def MapOk (n:Nat) (M:List ((Int × Int × Int × Int) × GV)) (T:List GP):Prop:=∀ d:List Int,d.length=n→mGet M (keyG d)=match findG d T with
 | some i=>(T[i]?).map (GP.val i)
 | none=>none
theorem MapOk.step {n:Nat} {M:List ((Int × Int × Int × Int) × GV)} {T T1:List GP} {p:PP} {i:Nat} {g:GP} (h:MapOk n M T) (hn:n≤4) (hp:p.2.1.length=n)
  (hk:(findG p.2.1 T=some i∧T1=T∧T[i]?=some g∧g.dev=p.2.1)∨(findG p.2.1 T=none∧T1=T++[GP.new p]∧i=T.length∧g=GP.new p)) :
  MapOk n (mSet M (keyG p.2.1) (GP.val i (g.add p))) (T1.set i (g.add p)):=fun d hd=>by
 rw [Zi7]
 have hT1:T1[i]?=some g∧g.dev=p.2.1:=by
  rcases hk with ⟨_,rfl,h2,h3⟩|⟨_,rfl,rfl,rfl⟩
  ·exact ⟨h2,h3⟩
  ·exact ⟨by rw [List.getElem?_append_right (Nat.le_refl _),Nat.sub_self];rfl,rfl⟩
 have hlt:i < T1.length:=(List.getElem?_eq_some_iff.1 hT1.1).1
 have hf1:findG d (T1.set i (g.add p))=findG d T1:=Zwt hT1.1 rfl
 rw [hf1]
 by_cases he:keyG p.2.1=keyG d
 ·obtain rfl:p.2.1=d:=Zz1 he (by omega) (by omega)
  rw [if_pos rfl]
  have hf:findG p.2.1 T1=some i:=by
   rcases hk with ⟨h1,rfl,_,_⟩|⟨h1,rfl,rfl,rfl⟩
   ·exact h1
   ·rw [Zoo,h1]
    exact if_pos rfl
  rw [hf]
  simp only
  rw [List.getElem?_set_self hlt]
  rfl
 ·rw [if_neg he]
  have hne:p.2.1≠d:=fun e=>he (by rw [e])
  rw [h d hd]
  have hf:findG d T1=findG d T:=by
   rcases hk with ⟨h1,rfl,_,_⟩|⟨h1,rfl,rfl,rfl⟩
   ·rfl
   ·rw [Zoo]
    cases findG d T with
    | some j=>rfl
    | none=>exact if_neg hne
  rw [hf]
  cases hq:findG d T with
  | none=>rfl
  | some j =>
   simp only
   obtain ⟨g',k1,k2,_⟩:=Zfv hq (p:=([],d,0,0,0)) rfl
   have hjT:j < T.length:=(List.getElem?_eq_some_iff.1 k1).1
   have hT1j:T1[j]?=T[j]?:=by
    rcases hk with ⟨_,rfl,_,_⟩|⟨_,rfl,_,_⟩
    ·rfl
    ·rw [List.getElem?_append_left hjT]
   have hji:i≠j:=fun e=>by
    subst e
    rw [hT1j,k1] at hT1
    have:=Option.some.inj hT1.1
    rw [this] at k2
    exact hne (hT1.2.symm.trans k2)
   rw [List.getElem?_set_ne hji,hT1j]
theorem MapOk.nil {n:Nat}:MapOk n [] []:=fun _d _=>rfl
def GpOk (n k:Nat) (g:GP):Prop:=g.dev.length=n∧g.c≤k∧-(12800 * (k:Int))≤g.x∧g.x≤12800 * (k:Int)∧-(12800 * (k:Int))≤g.y∧g.y≤12800 * (k:Int)∧-(12800 * (k:Int))≤g.z∧g.z≤12800 * (k:Int)
theorem GpOk.up {n k:Nat} {g:GP} (h:GpOk n k g):GpOk n (k+1) g:=by
 obtain ⟨h0,h1,h2,h3,h4,h5,h6,h7⟩:=h
 exact ⟨h0,by omega,by omega,by omega,by omega,by omega,by omega,by omega⟩
theorem Zst {n k:Nat} {p:PP} (h:p.2.1.length=n):GpOk n k (GP.new p):=⟨h,Nat.zero_le _,by show _≤(0:Int);omega,by show (0:Int)≤_;omega,by show _≤(0:Int);omega,by show (0:Int)≤_;omega,by show _≤(0:Int);omega,by show (0:Int)≤_;omega⟩
theorem GpOk.add {n k:Nat} {g:GP} {p:PP} (h:GpOk n k g) (hp:soundP p=true):GpOk n (k+1) (g.add p):=by
 obtain ⟨h0,h1,h2,h3,h4,h5,h6,h7⟩:=h
 have hs:=(Z33.1 hp).2.2.2
 obtain ⟨s1,s2,s3,s4,s5,s6⟩:=hs
 exact ⟨h0,by show g.c+1≤_;omega,by show _≤g.x+p.2.2.1;omega,by show g.x+p.2.2.1≤_;omega,by show _≤g.y+p.2.2.2.1;omega,by show g.y+p.2.2.2.1≤_;omega,by show _≤g.z+p.2.2.2.2;omega,by show g.z+p.2.2.2.2≤_;omega⟩
end Go.Proofs.YtciadfpomkdlnaaGreatDoor.Q
namespace Go.Sx
open Go
theorem Zri {As:List Ent} {L:List RawP} {i:Nat} {r r':RawP} (h:L[i]?=some r) (hp:r'.p=r.p) (hc:r'.c=r.c) (hd:r'.dev=r.dev):Ents (.ft (devPF L)::As) (.ft (devPF (L.set i r'))::As):=fun w0 w ⟨H,bs,g⟩=>by
 obtain ⟨h1,h2⟩:=g.sat
 refine ⟨H,bs,g.size,g.os,g.tape,g.output,g.fz,g.old,⟨fun x hx=>?_,h2⟩,g.nd,g.ap⟩
 rcases List.mem_or_eq_of_mem_set hx with hx|rfl
 ·exact h1 x hx
 ·have:=h1 r (List.mem_of_getElem? h)
  rw [hp,hc,hd];exact this
def cG (g:Nat × Nat × Int × Int × Int):Value:=.agg #[.int .i64 (g.1:Int),.int .i64 (g.2.1:Int),.int .i64 g.2.2.1,.int .i64 g.2.2.2.1,.int .i64 g.2.2.2.2]
instance encG {i n:Nat} {x y z:Int}:EncV cG (.agg #[.int .i64 (i:Int),.int .i64 (n:Int),.int .i64 x,.int .i64 y,.int .i64 z]) (i,n,x,y,z):=⟨rfl⟩
end Go.Sx
namespace Go.Proofs.YtciadfpomkdlnaaGreatDoor.Q
open Go Go.Sx
variable {w0:World} {As:List Ent}
def mergeO (l:List PP):List PP × Int:=if checkP l then (mergeP l,0) else ([],310)
instance {nm:List UInt8} {p:Option Addr} {c:Nat} {dev:List Int} {l a b:Int}:EncL cPt ⟨nm,p,c,dev,l,a,b⟩ [.string ⟨nm.toArray⟩,.slice p dev.length c,.int .i64 l,.int .i64 a,.int .i64 b]:=⟨rfl⟩
theorem Zv1 {d:List Int} (h:d.length≤4):(cI .i64).flat d++[Value.int .i64 0,.int .i64 0,.int .i64 0,.int .i64 0].drop d.length=[.int .i64 (keyG d).1,.int .i64 (keyG d).2.1,.int .i64 (keyG d).2.2.1,.int .i64 (keyG d).2.2.2]:=by
 rcases d with _|⟨a,_|⟨b,_|⟨c,_|⟨d,_|⟨d5,d⟩⟩⟩⟩⟩
 ·rfl
 ·rfl
 ·rfl
 ·rfl
 ·rfl
 ·simp at h
theorem Zv8:meanQ 0 0=0:=by decide +kernel
theorem Zv6 (r:Rat) (k:Nat):(nearQ r k).natAbs≤r.num.natAbs * (k * 2)+r.den:=by
 unfold nearQ
 refine Nat.le_trans (Int.natAbs_ediv_le_natAbs _ _) ?_
 refine Nat.le_trans (Int.natAbs_add_le _ _) ?_
 rw [Int.natAbs_mul,Int.natAbs_natCast,Int.natAbs_natCast]
 exact Nat.le_refl _
theorem Zqh {s:Int} {c:Nat} (h0:1≤c) (h1:c≤1000) (h2:-1000000≤s) (h3:s≤1000000):ofO s (c:Int)=(tN (mkRat s c),tD (mkRat s c),0)∧Fit 600 (mkRat s c)∧nearO (some (mkRat s c)) 1=(meanQ s c,0):=by
 have hf:Fit 600 (mkRat s c):=(Zjz (k:=11) (by decide) (by omega) (Nat.lt_of_le_of_lt (show s.natAbs≤1000000 by omega) (by decide)) (Nat.lt_of_le_of_lt h1 (by decide))).mono (by decide)
 refine ⟨?_,hf,?_⟩
 ·unfold ofO
  rw [if_neg (by omega),if_neg (by omega),Int.natAbs_natCast]
  exact hf.ot
 ·obtain ⟨e1,e2⟩:=Zdd (n:=s) (d:=c) (by omega)
  have k1:(mkRat s c).num.natAbs≤s.natAbs:=by rw [e1];exact Int.natAbs_ediv_le_natAbs _ _
  have k2:(mkRat s c).den≤c:=by rw [e2];exact Nat.div_le_self _ _
  have k3:=Zv6 (mkRat s c) 1
  unfold nearO
  simp only
  rw [if_pos ⟨by decide,by decide⟩,show (1:Int).toNat=1 from rfl,if_pos ⟨by omega,by omega⟩]
  rfl
structure MgS where
 k:Nat
 T:List GP
 M:List ((Int × Int × Int × Int) × GV)
 v:Value
 L:List RawP
def MgS.ok (n:Nat) (L:List RawP) (y:MgS):Prop:=y.k≤L.length∧y.T=mergeG ((L.map ppOf).take y.k)∧y.L.map ppOf=y.T.map GP.out∧MapOk n y.M y.T∧y.T.length≤y.k∧∀ g∈y.T,GpOk n y.k g
set_option maxRecDepth 100000 in
set_option maxHeartbeats 2000000 in
theorem Zr1 (ht:Tab w0) (he:ErrR w0) {v:Value} {L:List RawP} [hr:RdIn As v RawP cPt L] (hd:DevIn As L) (hs:Shr L) :
  CallsS Tryz.prog w0 24 [v] As fun u Bs=>∃ (v':Value) (L':List RawP),L'.map ppOf=(mergeO (L.map ppOf)).1∧u=.tuple #[v',.int .i64 (mergeO (L.map ppOf)).2]∧Bs=.ow cPt 65 v' L'::.ft (devPF L')::As:=by
 refine Zab Tryz.func24 rfl Tryz.ntmps24 rfl ?_
 repeat' first|refine Kz ?_|intro _
 refine TL.call rfl rfl rfl (Zc6 hd hs) ?_
 rintro _ As ⟨rfl,rfl⟩
 unfold mergeO
 by_cases hck:checkP (L.map ppOf)=true
 case neg =>
  rw [if_neg hck,if_neg hck]
  repeat' first|refine Kz ?_|intro _
  (refine Zac ?_)
  exact ⟨_,⟨.slice none 0 0,[],rfl,rfl,rfl⟩,Ents.trans Zb6 (Zay (T:=65) cPt)⟩
 rw [if_pos hck,if_pos hck]
 obtain ⟨n,hn4,hv40,hvd⟩:∃ n,n≤4∧L.length≤40∧∀ r∈L,soundP (ppOf r)=true∧r.dev.length=n:=by
  have h:=Zxb.1 hck
  obtain ⟨h1,h2,h3⟩:=h
  have h2':L.length≤40:=by rwa [List.length_map] at h2
  refine ⟨((L.map ppOf).headD ([],[],0,0,0)).2.1.length,?_,h2',fun r hr=>?_⟩
  ·cases L with
   | nil=>exact absurd rfl h1
   | cons r0 R =>
    have:=(Z33.1 (h3.sound (ppOf r0) (List.mem_map_of_mem (List.mem_cons_self ..))).1).2.1.2
    exact this
  ·exact h3.sound (ppOf r) (List.mem_map_of_mem hr)
 clear hck
 repeat' first|refine Kz ?_|intro _
 refine TL.rb rfl rfl (ExR.makeMap cK4 cG) ?_
 intro bm
 repeat' first|refine Kz ?_|intro _
 refine Tri.midB (fun e' As'=>∃ y:MgS,(y.ok n L∧y.k=L.length)∧e'=[(6,y.v)]∧As'=.ow cPt 65 y.v y.L::.ft (devPF y.L)::As) ?_ ?_
 ·refine Tri.loop (ι:=MgS) (MgS.ok n L) (fun y=>L.length - y.k) (fun y=>[(5,.map (some bm)),(6,y.v),(22,v),(23,.int .i64 (L.length:Int)),(24,.int .i64 (y.k:Int))]) (fun y=>.ow cPt 65 y.v y.L::.ft (devPF y.L)::.ob bm (mapO cK4 cG y.M)::As) ⟨0,[],[],.slice none 0 0,[]⟩ ⟨Nat.zero_le _,rfl,rfl,MapOk.nil,Nat.le_refl _,fun g hg=>by cases hg⟩
   (by show Go.Sx.Sub _ [(5,.map (some bm)),(6,.slice none 0 0),(22,v),(23,.int .i64 (L.length:Int)),(24,.int .i64 0)];(exact Zad)) (Ents.trans Zb6 (Ents.trans (Zay (T:=65) cPt) (by show Ents _ (.ow cPt 65 (.slice none 0 0) []::.ft (devPF [])::.ob bm (mapO cK4 cG [])::As);(exact Zaa)))) ?_
  rintro ⟨k,T,M,v6,L6⟩ ⟨hk,hT,hL6,hM,hTl,hg⟩
  simp only at hk hT hL6 hM hTl hg
  show Tri _ _ _ _ [(5,.map (some bm)),(6,v6),(22,v),(23,.int .i64 (L.length:Int)),(24,.int .i64 (k:Int))] (.ow cPt 65 v6 L6::.ft (devPF L6)::.ob bm (mapO cK4 cG M)::As) _
  by_cases hlt:(k:Int) < (L.length:Int)
  ·obtain ⟨r,hrk⟩:∃ r,L[k]?=some r:=⟨_,List.getElem?_eq_getElem (by omega)⟩
   have hmem:=List.mem_of_getElem? hrk
   have hnl:=hs.2 r hmem
   have hsd:=hvd r hmem
   haveI hrd:=hd r hmem
   obtain ⟨nm,p,c,dev,l,a,b⟩:=r
   simp only at hnl hsd
   obtain ⟨hsn,hdn⟩:=hsd
   have hst:(L.map ppOf).take (k+1)=(L.map ppOf).take k++[(nm,dev,l,a,b)]:=by rw [List.take_add_one,List.getElem?_map,hrk];rfl
   have hmg:mergeG ((L.map ppOf).take (k+1))=addG (nm,dev,l,a,b) T:=by rw [hT,hst];unfold mergeG;rw [List.foldl_append];rfl
   have hMd:=hM dev hdn
   repeat' first|refine Kz ?_|intro _
   rename_i b8 b9
   refine Zdz [.cl b8 [.string ⟨nm.toArray⟩,.slice p dev.length c,.int .i64 l,.int .i64 a,.int .i64 b] 65] [] (.take 0 (.take 1 (.take 2 (.all [(3,.done)])))) ?_
   refine TT.take rfl rfl rfl (Zpc (hi:=4) rfl Zh2 (by decide) (by decide)) ?_
   repeat' first|refine Kf ?_|intro _|constructor
   refine Zqz rfl rfl rfl (Zud (c:=cI .i64) (ys:=dev) rfl rfl rfl rfl (by omega)) ?_
   rintro _ _ ⟨rfl,rfl⟩
   rw [Zv1 (by omega)]
   obtain ⟨q1,q2,q3,q4,q5,hq,hqn,hqs⟩:∃ (q1 q2:Nat) (q3 q4 q5:Int),(Option.map cG (mGet M ((keyG dev).1,(keyG dev).2.1,(keyG dev).2.2.1,(keyG dev).2.2.2))).getD (.agg #[.int .i64 0,.int .i64 0,.int .i64 0,.int .i64 0,.int .i64 0])=.agg #[.int .i64 (q1:Int),.int .i64 (q2:Int),.int .i64 q3,.int .i64 q4,.int .i64 q5]∧(mGet M ((keyG dev).1,(keyG dev).2.1,(keyG dev).2.2.1,(keyG dev).2.2.2)=none→findG dev T=none∧q2=0∧q3=0∧q4=0∧q5=0)∧(mGet M ((keyG dev).1,(keyG dev).2.1,(keyG dev).2.2.1,(keyG dev).2.2.2)≠none→∃ g,findG dev T=some q1∧T[q1]?=some g∧g.dev=dev∧q2=g.c∧q3=g.x∧q4=g.y∧q5=g.z):=by
    have e:mGet M ((keyG dev).1,(keyG dev).2.1,(keyG dev).2.2.1,(keyG dev).2.2.2)=match findG dev T with|some i=>(T[i]?).map (GP.val i)|none=>none:=hMd
    rw [e]
    cases hf:findG dev T with
    | none=>exact ⟨0,0,0,0,0,rfl,fun _=>⟨rfl,rfl,rfl,rfl,rfl⟩,fun h=>absurd rfl h⟩
    | some i =>
     obtain ⟨g,hgi,hgd,_⟩:=Zfv hf (p:=(nm,dev,l,a,b)) rfl
     have hv:(T[i]?).map (GP.val i)=some (i,g.c,g.x,g.y,g.z):=by rw [hgi];rfl
     simp only
     rw [hv]
     exact ⟨i,g.c,g.x,g.y,g.z,rfl,(fun h=>by cases h),fun _=>⟨g,rfl,hgi,hgd,rfl,rfl,rfl,rfl⟩⟩
   repeat' first|refine Kf ?_|intro _|constructor
   simp only [hq]
   repeat' first|refine Kf ?_|intro _|constructor
   rename_i b10
   refine Tri.mid (fun e' As'=>∃ (i:Nat) (g:GP) (U1:List GP) (v6:Value) (L6:List RawP),(((findG dev T=some i∧U1=T∧T[i]?=some g∧g.dev=dev)∨(findG dev T=none∧U1=T++[GP.new (nm,dev,l,a,b)]∧i=T.length∧g=GP.new (nm,dev,l,a,b)))∧L6.map ppOf=U1.map GP.out)∧e'=[(5,.map (some bm)),(6,v6),(8,.pointer (some ⟨b8,0,none⟩)),(9,.pointer (some ⟨b9,0,none⟩)),(10,.pointer (some ⟨b10,0,none⟩)),(22,v),(23,.int .i64 (L.length:Int)),(24,.int .i64 (k:Int))]∧As'=.cl b10 [.int .i64 (i:Int),.int .i64 (g.c:Int),.int .i64 g.x,.int .i64 g.y,.int .i64 g.z] 158::.ow cPt 65 v6 L6::.ft (devPF L6)::.ob bm (mapO cK4 cG M)::.cl b9 [.int .i64 (keyG dev).1,.int .i64 (keyG dev).2.1,.int .i64 (keyG dev).2.2.1,.int .i64 (keyG dev).2.2.2] 156::.cl b8 [.string ⟨nm.toArray⟩,.slice p dev.length c,.int .i64 l,.int .i64 a,.int .i64 b] 65::As) ?_ ?_
   ·by_cases hno:mGet M ((keyG dev).1,(keyG dev).2.1,(keyG dev).2.2.1,(keyG dev).2.2.2)=none
    ·obtain ⟨hf,rfl,rfl,rfl,rfl⟩:=hqn hno
     have hlen:L6.length=T.length:=by have:=congrArg List.length hL6;simpa using this
     rw [show decide ((mGet M ((keyG dev).1,(keyG dev).2.1,(keyG dev).2.2.1,(keyG dev).2.2.2)).isSome=true)=false by rw [hno];rfl]
     repeat' first|refine Kz ?_|intro _
     refine Zdz [.cl b8 [.string ⟨nm.toArray⟩,.slice p dev.length c,.int .i64 l,.int .i64 a,.int .i64 b] 65] [] (.take 0 (.take 1 (.take 2 (.take 3 (.take 4 (.all [(5,.take 6 (.all [(7,.all [(8,.take 9 (.done))])]))])))))) ?_
     repeat' first|refine Kf ?_|intro _|constructor
     refine T1.call rfl rfl rfl rfl (Zw8 (d:=dev) (by omega)) ?_
     rintro _ _ ⟨p',c',rfl,rfl⟩
     repeat' first|refine Kf ?_|intro _|constructor
     refine TT.take rfl rfl rfl (ExF.build (l:=[.string ⟨nm.toArray⟩,.slice p' dev.length c',.int .i64 0,.int .i64 0,.int .i64 0]) rfl (fun w=>by kernel_rfl)) ?_
     repeat' first|refine Kf ?_|intro _|constructor
     rename_i v7
     have hL7:(L6++[(⟨nm,p',c',dev,0,0,0⟩:RawP)]).map ppOf=(T++[GP.new (nm,dev,l,a,b)]).map GP.out:=by
      rw [List.map_append,List.map_append,hL6]
      exact congrArg (fun z=>List.map GP.out T++[z]) (by show ((nm,dev,0,0,0):PP)=(nm,dev,meanQ 0 0,meanQ 0 0,meanQ 0 0);rw [Zv8])
     refine Post.cut _ _ ⟨L6.length,GP.new (nm,dev,l,a,b),_,v7,_,⟨.inr ⟨hf,rfl,hlen,rfl⟩,hL7⟩,rfl,rfl⟩ Zad ?_
     refine Ents.trans (show Ents _ (.ow (cI .i64) 3 (.slice p' dev.length c') dev::.ft (devPF L6)::.cl b10 [.int .i64 (L6.length:Int),.int .i64 ((0:Nat):Int),.int .i64 0,.int .i64 0,.int .i64 0] 158::.ow cPt 65 v7 (L6++[⟨nm,p',c',dev,0,0,0⟩])::.ob bm (mapO cK4 cG M)::.cl b9 [.int .i64 (keyG dev).1,.int .i64 (keyG dev).2.1,.int .i64 (keyG dev).2.2.1,.int .i64 (keyG dev).2.2.2] 156::.cl b8 [.string ⟨nm.toArray⟩,.slice p dev.length c,.int .i64 l,.int .i64 a,.int .i64 b] 65::As) from Zaa) ?_
     refine Ents.trans Ents.freeze ?_
     refine Ents.trans (Zey (r:=⟨nm,p',c',dev,0,0,0⟩)) ?_
     show Ents _ (.cl b10 [.int .i64 (L6.length:Int),.int .i64 ((0:Nat):Int),.int .i64 0,.int .i64 0,.int .i64 0] 158::.ow cPt 65 v7 (L6++[⟨nm,p',c',dev,0,0,0⟩])::.ft (devPF (L6++[⟨nm,p',c',dev,0,0,0⟩]))::.ob bm (mapO cK4 cG M)::.cl b9 [.int .i64 (keyG dev).1,.int .i64 (keyG dev).2.1,.int .i64 (keyG dev).2.2.1,.int .i64 (keyG dev).2.2.2] 156::.cl b8 [.string ⟨nm.toArray⟩,.slice p dev.length c,.int .i64 l,.int .i64 a,.int .i64 b] 65::As)
     (exact Zaa)
    ·obtain ⟨g,hf,hgi,hgd,rfl,rfl,rfl,rfl⟩:=hqs hno
     rw [show decide ((mGet M ((keyG dev).1,(keyG dev).2.1,(keyG dev).2.2.1,(keyG dev).2.2.2)).isSome=true)=true by cases hm:mGet M ((keyG dev).1,(keyG dev).2.1,(keyG dev).2.2.1,(keyG dev).2.2.2) with|none=>exact absurd hm hno|some _=>rfl]
     repeat' first|refine Kz ?_|intro _
     exact Post.cut _ _ ⟨q1,g,T,v6,L6,⟨.inl ⟨hf,rfl,hgi,hgd⟩,hL6⟩,rfl,rfl⟩ Zad Zaa
   rintro _ _ ⟨i,g,U1,v6,L6,⟨hk4,hL6⟩,rfl,rfl⟩
   have hgk:GpOk n k g:=by
    rcases hk4 with ⟨_,_,h,_⟩|⟨_,_,_,rfl⟩
    ·exact hg g (List.mem_of_getElem? h)
    ·exact Zst hdn
   have hU1:U1[i]?=some g∧addG (nm,dev,l,a,b) T=U1.set i (g.add (nm,dev,l,a,b)):=by
    rcases hk4 with ⟨h1,rfl,h2,h3⟩|⟨h1,rfl,rfl,rfl⟩
    ·obtain ⟨g',k1,_,k3⟩:=Zfv h1 (p:=(nm,dev,l,a,b)) rfl
     rw [h2] at k1
     cases k1
     exact ⟨h2,k3⟩
    ·exact ⟨by rw [List.getElem?_append_right (Nat.le_refl _),Nat.sub_self];rfl,Zt3 h1 rfl⟩
   have hga:=hgk.add (p:=(nm,dev,l,a,b)) hsn
   have hgc:g.c≤40:=by have:=hgk.2.1;omega
   have hgaK:=hga
   obtain ⟨ga0,ga1,ga2,ga3,ga4,ga5,ga6,ga7⟩:=hga
   obtain ⟨_,_,gb2,gb3,gb4,gb5,gb6,gb7⟩:=hgk
   replace ga2:-(12800 * ((k+1:Nat):Int))≤g.x+l:=ga2
   replace ga3:g.x+l≤12800 * ((k+1:Nat):Int):=ga3
   replace ga4:-(12800 * ((k+1:Nat):Int))≤g.y+a:=ga4
   replace ga5:g.y+a≤12800 * ((k+1:Nat):Int):=ga5
   replace ga6:-(12800 * ((k+1:Nat):Int))≤g.z+b:=ga6
   replace ga7:g.z+b≤12800 * ((k+1:Nat):Int):=ga7
   obtain ⟨mx1,mx2,mx3⟩:=Zqh (s:=g.x+l) (c:=g.c+1) (by omega) (by omega) (by omega) (by omega)
   obtain ⟨my1,my2,my3⟩:=Zqh (s:=g.y+a) (c:=g.c+1) (by omega) (by omega) (by omega) (by omega)
   obtain ⟨mz1,mz2,mz3⟩:=Zqh (s:=g.z+b) (c:=g.c+1) (by omega) (by omega) (by omega) (by omega)
   have hcc:((g.c:Int)+1)=((g.c+1:Nat):Int):=rfl
   obtain ⟨r6,hr6⟩:∃ r,L6[i]?=some r:=by
    have h1:=(List.getElem?_eq_some_iff.1 hU1.1).1
    have h2:L6.length=U1.length:=by have:=congrArg List.length hL6;simpa using this
    exact ⟨_,List.getElem?_eq_getElem (by omega)⟩
   obtain ⟨nm6,p6,c6,dev6,l6,a6,b6⟩:=r6
   have hi6:=(List.getElem?_eq_some_iff.1 hr6).1
   repeat' first|refine Kz ?_|intro _
   refine Tri.open v6 (xs:=L6) (fun e=>by rw [e] at hi6;exact Nat.not_lt_zero _ hi6) fun b0 off0 cap0 hcap0 hv6=>?_
   subst hv6
   refine Tri.midB (fun e' As'=>e'=[(5,.map (some bm)),(6,.slice (some ⟨b0,off0,none⟩) L6.length cap0),(9,.pointer (some ⟨b9,0,none⟩)),(10,.pointer (some ⟨b10,0,none⟩)),(22,v),(23,.int .i64 (L.length:Int)),(24,.int .i64 (k:Int))]∧As'=.cl b10 [.int .i64 (i:Int),.int .i64 ((g.c:Int)+1),.int .i64 (g.x+l),.int .i64 (g.y+a),.int .i64 (g.z+b)] 158::.ow cPt 65 (.slice (some ⟨b0,off0,none⟩) L6.length cap0) (L6.set i ⟨nm6,p6,c6,dev6,(meanQ (g.x+l) (g.c+1)),(meanQ (g.y+a) (g.c+1)),(meanQ (g.z+b) (g.c+1))⟩)::.ft (devPF L6)::.ob bm (mapO cK4 cG M)::.cl b9 [.int .i64 (keyG dev).1,.int .i64 (keyG dev).2.1,.int .i64 (keyG dev).2.2.1,.int .i64 (keyG dev).2.2.2] 156::As) ?_ ?_
   ·refine Zl6 4 ?_
    repeat' first|refine Kz ?_|intro _
    have hs0:L6[i]?=some ⟨nm6,p6,c6,dev6,l6,a6,b6⟩:=hr6
    have hn0:i < L6.length:=hi6
    refine Tri.mid (fun e' As'=>∃ b140,e'=[(57,.agg #[.int .i64 l,.int .i64 a,.int .i64 b]),(58,.int .i64 0),(12,.int .i64 0),(14,.pointer (some ⟨b140,0,none⟩)),(15,.int .i64 0),(5,.map (some bm)),(6,.slice (some ⟨b0,off0,none⟩) L6.length cap0),(9,.pointer (some ⟨b9,0,none⟩)),(10,.pointer (some ⟨b10,0,none⟩)),(22,v),(23,.int .i64 (L.length:Int)),(24,.int .i64 (k:Int))]∧As'=.cl b140 [.string ⟨(tN (mkRat (g.x+l) (g.c+1))).toArray⟩,.string ⟨(tD (mkRat (g.x+l) (g.c+1))).toArray⟩] 24::.cl b10 [.int .i64 (i:Int),.int .i64 ((g.c:Int)+1),.int .i64 (g.x+l),.int .i64 g.y,.int .i64 g.z] 158::.ow cPt 65 (.slice (some ⟨b0,off0,none⟩) L6.length cap0) L6::.ft (devPF L6)::.ob bm (mapO cK4 cG M)::.cl b9 [.int .i64 (keyG dev).1,.int .i64 (keyG dev).2.1,.int .i64 (keyG dev).2.2.1,.int .i64 (keyG dev).2.2.2] 156::As) ?_ ?_
    ·refine Zao (.take 0 (.take 1 (.take 2 (.take 3 (.take 4 (.take 5 (.all [(6,.take 7 (.take 8 (.take 9 (.all [(10,.all [(11,.take 12 (.done))])])))),(10,.all [(6,.take 7 (.take 8 (.take 9 (.all [(11,.take 12 (.done))]))))])]))))))) ?_
     repeat' first|refine Kf ?_|intro _|constructor
     ·refine T1.callv rfl rfl rfl rfl rfl (Zjx ht (n:=(g.x+l)) (d:=((g.c+1:Nat):Int)) (by omega) (by omega)) ?_
      rw [mx1]
      rintro _ _ ⟨rfl,rfl⟩
      repeat' first|refine Kf ?_|intro _|constructor
      rename_i b14
      exact Post.cut _ _ ⟨b14,rfl,rfl⟩ Zad Zaa
     ·refine T1.callv rfl rfl rfl rfl rfl (Zjx ht (n:=(g.x+l)) (d:=((g.c+1:Nat):Int)) (by omega) (by omega)) ?_
      rw [mx1]
      rintro _ _ ⟨rfl,rfl⟩
      repeat' first|refine Kf ?_|intro _|constructor
      rename_i b14
      exact Post.cut _ _ ⟨b14,rfl,rfl⟩ Zad Zaa
    rintro _ _ ⟨b140,rfl,rfl⟩
    repeat' first|refine Kz ?_|intro _
    refine Zdz [.cl b140 [.string ⟨(tN (mkRat (g.x+l) (g.c+1))).toArray⟩,.string ⟨(tD (mkRat (g.x+l) (g.c+1))).toArray⟩] 24,.cl b10 [.int .i64 (i:Int),.int .i64 ((g.c:Int)+1),.int .i64 (g.x+l),.int .i64 g.y,.int .i64 g.z] 158] [] (.take 0 (.take 1 (.take 2 (.take 3 (.take 4 (.take 9 (.take 10 (.all [(5,.take 6 (.take 7 (.take 8 (.take 11 (.all [(12,.take 13 (.done))])))))])))))))) ?_
    repeat' first|refine Kf ?_|intro _|constructor
    refine TT.take rfl rfl rfl (Zkz rfl rfl hi6) ?_
    repeat' first|refine Kf ?_|intro _|constructor
    refine T1.callv rfl rfl rfl rfl rfl (Zi6 ht he (r:=mkRat (g.x+l) (g.c+1)) (k:=1) mx2) ?_
    rw [mx3]
    rintro _ _ ⟨rfl,rfl⟩
    repeat' first|refine Kf ?_|intro _|constructor
    refine T1.u rfl rfl (Zdo (y1:=⟨nm6,p6,c6,dev6,(meanQ (g.x+l) (g.c+1)),a6,b6⟩) (u:=.int .i64 (meanQ (g.x+l) (g.c+1))) rfl rfl rfl rfl rfl hs0 rfl rfl) ?_
    repeat' first|refine Kf ?_|intro _|constructor
    try rw [List.set_set]
    have hs1:(L6.set i ⟨nm6,p6,c6,dev6,(meanQ (g.x+l) (g.c+1)),a6,b6⟩)[i]?=some ⟨nm6,p6,c6,dev6,(meanQ (g.x+l) (g.c+1)),a6,b6⟩:=List.getElem?_set_self hi6
    have hn1:i < (L6.set i ⟨nm6,p6,c6,dev6,(meanQ (g.x+l) (g.c+1)),a6,b6⟩).length:=by rw [List.length_set];exact hi6
    refine Tri.mid (fun e' As'=>∃ b141,e'=[(57,.agg #[.int .i64 l,.int .i64 a,.int .i64 b]),(58,.int .i64 (0+1)),(12,.int .i64 (0+1)),(14,.pointer (some ⟨b141,0,none⟩)),(15,.int .i64 0),(5,.map (some bm)),(6,.slice (some ⟨b0,off0,none⟩) L6.length cap0),(9,.pointer (some ⟨b9,0,none⟩)),(10,.pointer (some ⟨b10,0,none⟩)),(22,v),(23,.int .i64 (L.length:Int)),(24,.int .i64 (k:Int))]∧As'=.cl b141 [.string ⟨(tN (mkRat (g.y+a) (g.c+1))).toArray⟩,.string ⟨(tD (mkRat (g.y+a) (g.c+1))).toArray⟩] 24::.cl b10 [.int .i64 (i:Int),.int .i64 ((g.c:Int)+1),.int .i64 (g.x+l),.int .i64 (g.y+a),.int .i64 g.z] 158::.ow cPt 65 (.slice (some ⟨b0,off0,none⟩) L6.length cap0) (L6.set i ⟨nm6,p6,c6,dev6,(meanQ (g.x+l) (g.c+1)),a6,b6⟩)::.ft (devPF L6)::.ob bm (mapO cK4 cG M)::.cl b9 [.int .i64 (keyG dev).1,.int .i64 (keyG dev).2.1,.int .i64 (keyG dev).2.2.1,.int .i64 (keyG dev).2.2.2] 156::As) ?_ ?_
    ·refine Zao (.take 0 (.take 1 (.take 2 (.take 3 (.take 4 (.take 5 (.all [(6,.take 7 (.take 8 (.take 9 (.all [(10,.all [(11,.take 12 (.done))])])))),(10,.all [(6,.take 7 (.take 8 (.take 9 (.all [(11,.take 12 (.done))]))))])]))))))) ?_
     repeat' first|refine Kf ?_|intro _|constructor
     ·refine T1.callv rfl rfl rfl rfl rfl (Zjx ht (n:=(g.y+a)) (d:=((g.c+1:Nat):Int)) (by omega) (by omega)) ?_
      rw [my1]
      rintro _ _ ⟨rfl,rfl⟩
      repeat' first|refine Kf ?_|intro _|constructor
      rename_i b14
      exact Post.cut _ _ ⟨b14,rfl,rfl⟩ Zad Zaa
     ·refine T1.callv rfl rfl rfl rfl rfl (Zjx ht (n:=(g.y+a)) (d:=((g.c+1:Nat):Int)) (by omega) (by omega)) ?_
      rw [my1]
      rintro _ _ ⟨rfl,rfl⟩
      repeat' first|refine Kf ?_|intro _|constructor
      rename_i b14
      exact Post.cut _ _ ⟨b14,rfl,rfl⟩ Zad Zaa
    rintro _ _ ⟨b141,rfl,rfl⟩
    repeat' first|refine Kz ?_|intro _
    refine Zdz [.cl b141 [.string ⟨(tN (mkRat (g.y+a) (g.c+1))).toArray⟩,.string ⟨(tD (mkRat (g.y+a) (g.c+1))).toArray⟩] 24,.cl b10 [.int .i64 (i:Int),.int .i64 ((g.c:Int)+1),.int .i64 (g.x+l),.int .i64 (g.y+a),.int .i64 g.z] 158] [] (.take 0 (.take 1 (.take 2 (.take 3 (.take 4 (.take 9 (.take 10 (.all [(5,.take 6 (.take 7 (.take 8 (.take 11 (.all [(12,.take 13 (.done))])))))])))))))) ?_
    repeat' first|refine Kf ?_|intro _|constructor
    refine TT.take rfl rfl rfl (Zkz rfl rfl hi6) ?_
    repeat' first|refine Kf ?_|intro _|constructor
    refine T1.callv rfl rfl rfl rfl rfl (Zi6 ht he (r:=mkRat (g.y+a) (g.c+1)) (k:=1) my2) ?_
    rw [my3]
    rintro _ _ ⟨rfl,rfl⟩
    repeat' first|refine Kf ?_|intro _|constructor
    refine T1.u rfl rfl (Zdo (y1:=⟨nm6,p6,c6,dev6,(meanQ (g.x+l) (g.c+1)),(meanQ (g.y+a) (g.c+1)),b6⟩) (u:=.int .i64 (meanQ (g.y+a) (g.c+1))) rfl rfl rfl rfl rfl hs1 rfl rfl) ?_
    repeat' first|refine Kf ?_|intro _|constructor
    try rw [List.set_set]
    have hs2:(L6.set i ⟨nm6,p6,c6,dev6,(meanQ (g.x+l) (g.c+1)),(meanQ (g.y+a) (g.c+1)),b6⟩)[i]?=some ⟨nm6,p6,c6,dev6,(meanQ (g.x+l) (g.c+1)),(meanQ (g.y+a) (g.c+1)),b6⟩:=List.getElem?_set_self hi6
    have hn2:i < (L6.set i ⟨nm6,p6,c6,dev6,(meanQ (g.x+l) (g.c+1)),(meanQ (g.y+a) (g.c+1)),b6⟩).length:=by rw [List.length_set];exact hi6
    refine Tri.mid (fun e' As'=>∃ b142,e'=[(57,.agg #[.int .i64 l,.int .i64 a,.int .i64 b]),(58,.int .i64 (0+1+1)),(12,.int .i64 (0+1+1)),(14,.pointer (some ⟨b142,0,none⟩)),(15,.int .i64 0),(5,.map (some bm)),(6,.slice (some ⟨b0,off0,none⟩) L6.length cap0),(9,.pointer (some ⟨b9,0,none⟩)),(10,.pointer (some ⟨b10,0,none⟩)),(22,v),(23,.int .i64 (L.length:Int)),(24,.int .i64 (k:Int))]∧As'=.cl b142 [.string ⟨(tN (mkRat (g.z+b) (g.c+1))).toArray⟩,.string ⟨(tD (mkRat (g.z+b) (g.c+1))).toArray⟩] 24::.cl b10 [.int .i64 (i:Int),.int .i64 ((g.c:Int)+1),.int .i64 (g.x+l),.int .i64 (g.y+a),.int .i64 (g.z+b)] 158::.ow cPt 65 (.slice (some ⟨b0,off0,none⟩) L6.length cap0) (L6.set i ⟨nm6,p6,c6,dev6,(meanQ (g.x+l) (g.c+1)),(meanQ (g.y+a) (g.c+1)),b6⟩)::.ft (devPF L6)::.ob bm (mapO cK4 cG M)::.cl b9 [.int .i64 (keyG dev).1,.int .i64 (keyG dev).2.1,.int .i64 (keyG dev).2.2.1,.int .i64 (keyG dev).2.2.2] 156::As) ?_ ?_
    ·refine Zao (.take 0 (.take 1 (.take 2 (.take 3 (.take 4 (.take 5 (.all [(6,.take 7 (.take 8 (.take 9 (.all [(10,.all [(11,.take 12 (.done))])])))),(10,.all [(6,.take 7 (.take 8 (.take 9 (.all [(11,.take 12 (.done))]))))])]))))))) ?_
     repeat' first|refine Kf ?_|intro _|constructor
     ·refine T1.callv rfl rfl rfl rfl rfl (Zjx ht (n:=(g.z+b)) (d:=((g.c+1:Nat):Int)) (by omega) (by omega)) ?_
      rw [mz1]
      rintro _ _ ⟨rfl,rfl⟩
      repeat' first|refine Kf ?_|intro _|constructor
      rename_i b14
      exact Post.cut _ _ ⟨b14,rfl,rfl⟩ Zad Zaa
     ·refine T1.callv rfl rfl rfl rfl rfl (Zjx ht (n:=(g.z+b)) (d:=((g.c+1:Nat):Int)) (by omega) (by omega)) ?_
      rw [mz1]
      rintro _ _ ⟨rfl,rfl⟩
      repeat' first|refine Kf ?_|intro _|constructor
      rename_i b14
      exact Post.cut _ _ ⟨b14,rfl,rfl⟩ Zad Zaa
    rintro _ _ ⟨b142,rfl,rfl⟩
    repeat' first|refine Kz ?_|intro _
    refine Zdz [.cl b142 [.string ⟨(tN (mkRat (g.z+b) (g.c+1))).toArray⟩,.string ⟨(tD (mkRat (g.z+b) (g.c+1))).toArray⟩] 24,.cl b10 [.int .i64 (i:Int),.int .i64 ((g.c:Int)+1),.int .i64 (g.x+l),.int .i64 (g.y+a),.int .i64 (g.z+b)] 158] [] (.take 0 (.take 1 (.take 2 (.take 3 (.take 4 (.take 9 (.take 10 (.all [(5,.take 6 (.take 7 (.take 8 (.take 11 (.all [(12,.take 13 (.done))])))))])))))))) ?_
    repeat' first|refine Kf ?_|intro _|constructor
    refine TT.take rfl rfl rfl (Zkz rfl rfl hi6) ?_
    repeat' first|refine Kf ?_|intro _|constructor
    refine T1.callv rfl rfl rfl rfl rfl (Zi6 ht he (r:=mkRat (g.z+b) (g.c+1)) (k:=1) mz2) ?_
    rw [mz3]
    rintro _ _ ⟨rfl,rfl⟩
    repeat' first|refine Kf ?_|intro _|constructor
    refine T1.u rfl rfl (Zdo (y1:=⟨nm6,p6,c6,dev6,(meanQ (g.x+l) (g.c+1)),(meanQ (g.y+a) (g.c+1)),(meanQ (g.z+b) (g.c+1))⟩) (u:=.int .i64 (meanQ (g.z+b) (g.c+1))) rfl rfl rfl rfl rfl hs2 rfl rfl) ?_
    repeat' first|refine Kf ?_|intro _|constructor
    rw [List.set_set]
    exact Post.cut _ _ ⟨rfl,rfl⟩ Zad Zaa
   rintro _ _ ⟨rfl,rfl⟩
   repeat' first|refine Kz ?_|intro _
   rw [hcc]
   refine TL.u rfl (ExU.mapUpdate (k:=((keyG dev).1,(keyG dev).2.1,(keyG dev).2.2.1,(keyG dev).2.2.2)) (v:=(i,g.c+1,g.x+l,g.y+a,g.z+b)) rfl rfl rfl) ?_
   repeat' first|refine Kz ?_|intro _
   have hout:ppOf ⟨nm6,p6,c6,dev6,l6,a6,b6⟩=g.out:=by
    have h1:(L6.map ppOf)[i]?=some (ppOf ⟨nm6,p6,c6,dev6,l6,a6,b6⟩):=by rw [List.getElem?_map,hr6];rfl
    rw [hL6,List.getElem?_map,hU1.1] at h1
    exact (Option.some.inj h1).symm
   have hn6:nm6=g.nm∧dev6=g.dev:=⟨congrArg (·.1) hout,congrArg (·.2.1) hout⟩
   have hU1l:U1.length≤k+1:=by
    rcases hk4 with ⟨_,rfl,_,_⟩|⟨_,rfl,_,_⟩
    ·omega
    ·rw [List.length_append,List.length_singleton];omega
   have hok2:MgS.ok n L ⟨k+1,U1.set i (g.add (nm,dev,l,a,b)),mSet M (keyG dev) (GP.val i (g.add (nm,dev,l,a,b))),(.slice (some ⟨b0,off0,none⟩) L6.length cap0),L6.set i ⟨nm6,p6,c6,dev6,(meanQ (g.x+l) (g.c+1)),(meanQ (g.y+a) (g.c+1)),(meanQ (g.z+b) (g.c+1))⟩⟩:=by
    refine ⟨by show k+1≤L.length;omega,by show U1.set i _=_;rw [hmg];exact hU1.2.symm,?_,MapOk.step (p:=(nm,dev,l,a,b)) (i:=i) (g:=g) hM hn4 hdn hk4,by show (U1.set i _).length≤k+1;rw [List.length_set];exact hU1l,?_⟩
    ·show (L6.set i ⟨nm6,p6,c6,dev6,(meanQ (g.x+l) (g.c+1)),(meanQ (g.y+a) (g.c+1)),(meanQ (g.z+b) (g.c+1))⟩).map ppOf=(U1.set i _).map GP.out
     rw [List.map_set,List.map_set,hL6]
     rw [hn6.1,hn6.2]
     rfl
    ·intro g' hg'
     rcases List.mem_or_eq_of_mem_set hg' with hg'|rfl
     ·rcases hk4 with ⟨_,rfl,_,_⟩|⟨_,rfl,_,_⟩
      ·exact (hg g' hg').up
      ·rcases List.mem_append.1 hg' with hg'|hg'
       ·exact (hg g' hg').up
       ·rw [List.mem_singleton.1 hg'];exact Zst hdn
     ·exact hgaK
   refine Post.round ⟨k+1,U1.set i (g.add (nm,dev,l,a,b)),mSet M (keyG dev) (GP.val i (g.add (nm,dev,l,a,b))),(.slice (some ⟨b0,off0,none⟩) L6.length cap0),L6.set i ⟨nm6,p6,c6,dev6,(meanQ (g.x+l) (g.c+1)),(meanQ (g.y+a) (g.c+1)),(meanQ (g.z+b) (g.c+1))⟩⟩ hok2 (by show L.length - (k+1) < L.length - k;omega) (by show Go.Sx.Sub _ [(5,.map (some bm)),(6,(.slice (some ⟨b0,off0,none⟩) L6.length cap0)),(22,v),(23,.int .i64 (L.length:Int)),(24,.int .i64 ((k+1:Nat):Int))];(exact Zad)) ?_
   refine Ents.trans (show Ents _ (.ft (devPF L6)::.ow cPt 65 (.slice (some ⟨b0,off0,none⟩) L6.length cap0) (L6.set i ⟨nm6,p6,c6,dev6,(meanQ (g.x+l) (g.c+1)),(meanQ (g.y+a) (g.c+1)),(meanQ (g.z+b) (g.c+1))⟩)::.ob bm (mapO cK4 cG (mSet M ((keyG dev).1,(keyG dev).2.1,(keyG dev).2.2.1,(keyG dev).2.2.2) (i,g.c+1,g.x+l,g.y+a,g.z+b)))::As) from Zaa) ?_
   refine Ents.trans (Zri (r':=⟨nm6,p6,c6,dev6,(meanQ (g.x+l) (g.c+1)),(meanQ (g.y+a) (g.c+1)),(meanQ (g.z+b) (g.c+1))⟩) hr6 rfl rfl rfl) ?_
   show Ents _ (.ow cPt 65 (.slice (some ⟨b0,off0,none⟩) L6.length cap0) (L6.set i ⟨nm6,p6,c6,dev6,(meanQ (g.x+l) (g.c+1)),(meanQ (g.y+a) (g.c+1)),(meanQ (g.z+b) (g.c+1))⟩)::.ft (devPF (L6.set i ⟨nm6,p6,c6,dev6,(meanQ (g.x+l) (g.c+1)),(meanQ (g.y+a) (g.c+1)),(meanQ (g.z+b) (g.c+1))⟩))::.ob bm (mapO cK4 cG (mSet M ((keyG dev).1,(keyG dev).2.1,(keyG dev).2.2.1,(keyG dev).2.2.2) (i,g.c+1,g.x+l,g.y+a,g.z+b)))::As)
   (exact Zaa)
  ·have hkL:k=L.length:=by omega
   repeat' first|refine Kz ?_|intro _
   exact Post.cut _ _ ⟨⟨k,T,M,v6,L6⟩,⟨⟨hk,hT,hL6,hM,hTl,hg⟩,hkL⟩,rfl,rfl⟩ Zad Zaa
 rintro _ _ ⟨y,⟨hy,hyk⟩,rfl,rfl⟩
 repeat' first|refine Kz ?_|intro _
 (refine Zac ?_)
 obtain ⟨_,hT,hL6,_⟩:=hy
 refine ⟨_,⟨y.v,y.L,?_,rfl,rfl⟩,Zaa⟩
 rw [hL6,hT,hyk,List.take_of_length_le (by rw [List.length_map];exact Nat.le_refl _)]
 rfl
end Go.Proofs.YtciadfpomkdlnaaGreatDoor.Q
