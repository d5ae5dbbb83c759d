/- Walks: locate: the tetrahedra that are made. -/
import Derived.Test.YtbfgldlfciimiaaGreatDoorTw1
import Derived.Test.YtbfgldlfciimiaaGreatDoorSw3
import Derived.Test.YtbfgldlfciimiaaGreatDoorSxP
import Derived.Laws.CopyRow
import Derived.Laws.IdiomCopy
import Derived.WalkSpells
set_option maxHeartbeats 1000000
namespace Go.Sx
open Go Go.RowKit
section
variable {P:Program} {N:Ctx} {w0:World} {e:Env} {As rest:List Ent} {ty:TypeId} {x y:Operand} {α:Type} {c:Cod α} {ys:List α}
theorem Zau {t tx el T:TypeId} {zv:Value} {b b' n m off:Nat} {l l':List Value} {xv:Value} [UL P t (.slice el)] [TI P el zv 1 b'] (hx:ev e x=some (.slice (some ⟨b,off,none⟩) n m)) (hy:ev e y=some xv) [h:TakeC As b l T rest] [hr:RdIn As xv α c ys] (hcn:c.n=1) (h0:ys≠[]) (hle:ys.length≤n) (hl:off+ys.length≤l.length) (hl':l.take off++c.flat ys++l.drop (off+ys.length)=l') :
  ExR P N w0 (.call ⟨.builtin .copy,#[x,y],#[t,tx]⟩) ty e As (fun u As'=>u=.int .i64 (ys.length:Nat)∧As'=.cl b l' T::rest):=by
 subst hl'
 unfold ExR
 intro a w ha hs d pos af g
 have hrd:=hr.get w0 w hs
 obtain ⟨i,hi,_,hsz,_⟩:=(inferInstance:TI P el zv 1 b').info
 have hsize:(P.info? el).map (·.size)=some 1:=by rw [hi,Option.map_some,hsz]
 have hs':=Ents.perm h.perm w0 w hs
 rcases hrd with ⟨_,hys⟩|⟨sb,so,sc,sf,sr,sT,fr,g1,g2,g3,g4⟩
 ·exact absurd hys h0
 ·obtain ⟨H,bs,G⟩:=hs'
  obtain ⟨bs',rfl,hw,hrest⟩:=G.sat
  have hfl:(c.flat ys).length=ys.length:=by rw [Zag,hcn,Nat.mul_one]
  have hrun:=run_copy_row (P:=P) w t tx ty el b off n m ⟨sb,so,none⟩ ys.length sc l.toArray T (c.flat ys) (UL.h (P:=P)) hsize hw (by rw [hfl];exact (Nat.min_eq_left hle).symm)
   (fun j z hj=>by
    rw [Zal]
    have hjl:j < (c.flat ys).length:=(List.getElem?_eq_some_iff.1 hj).1
    simp only [World.cell?,g4]
    subst g2
    rw [List.getElem?_eq_getElem hjl,Option.some.injEq] at hj
    simp [List.getElem?_append,hjl,hj]) (by simp only [List.size_toArray,hfl];omega) (c.flat_one ys)
  rw [← g1,hfl] at hrun
  obtain ⟨w1,hw1⟩:∃ w1,w1=w.setRow b (l.toArray.toList.take off++c.flat ys++l.toArray.toList.drop (off+ys.length)).toArray:=⟨_,rfl⟩
  rw [← hw1] at hrun
  refine ⟨.int .i64 (ys.length:Nat),w1,_,by simp [execOp,ha.eval hx,ha.eval hy,resolve,invoke,builtin,hrun,goInt],⟨rfl,rfl⟩,?_⟩
  subst hw1
  refine ⟨H,b::bs',G.setBlock hrest fun w' hw'=>?_⟩
  refine ⟨[],rfl,?_,rfl⟩
  rw [hw',Zdi hw]
end
structure NodesAt (a b c:Nat) (D:List Int) (f:V3→V3):Prop where
 at_:∀ i j k:Nat,i < a→j < b→k < c→(D.drop (3 * ((i * b+j) * c+k))).take 3=[(f ⟨i,j,k⟩).x,(f ⟨i,j,k⟩).y,(f ⟨i,j,k⟩).z]∧3 * ((i * b+j) * c+k)+3≤D.length
 in_:∀ i j k:Nat,i < a→j < b→k < c→in65 (f ⟨i,j,k⟩)
end Go.Sx
namespace Go.Proofs.YtbfgldlfciimiaaGreatDoor
open Go Go.Sx
variable {w0:World} {As:List Ent}
theorem Z0x {sv dv tv:Value} {S D:List Int} {g:V3} [hs:RdIn As sv Int (cI .i64) S] [hd:RdIn As dv Int (cI .i64) D] [ht:RdIn As tv Int (cI .i64) [g.x,g.y,g.z]] (hok:gridOk S 3 D=true) (hS:S.length=3) (hg:in65 g) :
  CQ Tryz.prog w0 24 [.agg #[sv,.int .i64 3,dv],tv] As (.int .i64 0):=by
 refine Zae sv fun sp sc es=>Zae dv fun dp dc ed=>Zae tv fun tp tc et=>?_
 subst es ed et
 obtain ⟨⟨e1,e2⟩,⟨e3,e4⟩,e5,e6⟩:=hg
 have q0:([g.x,g.y,g.z]:List Int)[0]?=some g.x:=rfl
 have q1:([g.x,g.y,g.z]:List Int)[1]?=some g.y:=rfl
 have q2:([g.x,g.y,g.z]:List Int)[2]?=some g.z:=rfl
 have ql:([g.x,g.y,g.z]:List Int).length=3:=rfl
 generalize ([g.x,g.y,g.z]:List Int)=GL at *
 rw [ql] at ht
 rw [ql]
 have hDl:=(Z9h.1 hok).2.2.2.1.1
 refine Zab Tryz.func24 rfl Tryz.ntmps24 rfl ?_
 repeat' first|refine Kz ?_|intro _
 refine Ks rfl (Zpk (S:=S) (D:=D) (out:=3) (by omega) (by omega)) ?_
 rw [if_pos hok]
 repeat' first|refine Kz ?_|intro _
 refine Zah 4 ?_
 repeat' first|refine Kz ?_|intro _
 exact Kv
set_option maxRecDepth 100000 in
set_option maxHeartbeats 8000000 in
theorem Z3m {sv dv:Value} {a b c:Nat} {D:List Int} {f:V3→V3} [hs:RdIn As sv Int (cI .i64) [(a:Int),(b:Int),(c:Int)]] [hd:RdIn As dv Int (cI .i64) D] (hf:NodesAt a b c D f) (ha:a≤5) (hb:b≤4) (hc:c≤4) {i j k m:Nat} (hi:i+1 < a) (hj:j+1 < b) (hk:k+1 < c) (hm:m < 6) :
  CallsS Tryz.prog w0 64 [.agg #[sv,.int .i64 3,dv],.agg #[.int .i64 (i:Int),.int .i64 (j:Int),.int .i64 (k:Int)],.agg #[.int .i64 (ordL m 0:Nat),.int .i64 (ordL m 1:Nat),.int .i64 (ordL m 2:Nat)]] As
   fun u Bs=>u=tetV ⟨i,j,k⟩ ⟨ordL m 0,ordL m 1,ordL m 2⟩ (f (crn ⟨i,j,k⟩ m 0)) (f (crn ⟨i,j,k⟩ m 1)) (f (crn ⟨i,j,k⟩ m 2)) (f (crn ⟨i,j,k⟩ m 3))∧Bs=As:=by
 refine Zae sv fun sp sc es=>Zae dv fun dp dc ed=>?_
 subst es ed
 have s0:([(a:Int),(b:Int),(c:Int)]:List Int)[0]?=some (a:Int):=rfl
 have s1:([(a:Int),(b:Int),(c:Int)]:List Int)[1]?=some (b:Int):=rfl
 have s2:([(a:Int),(b:Int),(c:Int)]:List Int)[2]?=some (c:Int):=rfl
 have ql:([(a:Int),(b:Int),(c:Int)]:List Int).length=3:=rfl
 generalize ([(a:Int),(b:Int),(c:Int)]:List Int)=SL at *
 rw [ql] at hs
 rw [ql]
 have hX0:=Zaq (m:=5) (n:=4) (by decide) (by decide) (show -5≤(i:Int) by omega) (show (i:Int)≤5 by omega) (show -4≤(b:Int) by omega) (show (b:Int)≤4 by omega)
 have hX1:=Zaq (m:=5) (n:=4) (by decide) (by decide) (show -5≤((i:Int)+1) by omega) (show ((i:Int)+1)≤5 by omega) (show -4≤(b:Int) by omega) (show (b:Int)≤4 by omega)
 have hY00:=Zaq (m:=30) (n:=4) (by decide) (by decide) (show -30≤(i:Int) * (b:Int)+(j:Int) by omega) (show (i:Int) * (b:Int)+(j:Int)≤30 by omega) (show -4≤(c:Int) by omega) (show (c:Int)≤4 by omega)
 have hY01:=Zaq (m:=30) (n:=4) (by decide) (by decide) (show -30≤(i:Int) * (b:Int)+((j:Int)+1) by omega) (show (i:Int) * (b:Int)+((j:Int)+1)≤30 by omega) (show -4≤(c:Int) by omega) (show (c:Int)≤4 by omega)
 have hY10:=Zaq (m:=30) (n:=4) (by decide) (by decide) (show -30≤((i:Int)+1) * (b:Int)+(j:Int) by omega) (show ((i:Int)+1) * (b:Int)+(j:Int)≤30 by omega) (show -4≤(c:Int) by omega) (show (c:Int)≤4 by omega)
 have hY11:=Zaq (m:=30) (n:=4) (by decide) (by decide) (show -30≤((i:Int)+1) * (b:Int)+((j:Int)+1) by omega) (show ((i:Int)+1) * (b:Int)+((j:Int)+1)≤30 by omega) (show -4≤(c:Int) by omega) (show (c:Int)≤4 by omega)
 obtain ⟨n000,hn000,hl000,hv000⟩:∃ n:Nat,(((i:Int) * (b:Int)+(j:Int)) * (c:Int)+(k:Int)) * 3=(n:Int)∧n+3≤D.length∧(D.drop n).take 3=[(f ⟨(i:Int),(j:Int),(k:Int)⟩).x,(f ⟨(i:Int),(j:Int),(k:Int)⟩).y,(f ⟨(i:Int),(j:Int),(k:Int)⟩).z] :=
  ⟨3 * ((i * b+j) * c+k),by push_cast;omega,(hf.at_ i j k (by omega) (by omega) (by omega)).2,(hf.at_ i j k (by omega) (by omega) (by omega)).1⟩
 obtain ⟨n001,hn001,hl001,hv001⟩:∃ n:Nat,(((i:Int) * (b:Int)+(j:Int)) * (c:Int)+((k:Int)+1)) * 3=(n:Int)∧n+3≤D.length∧(D.drop n).take 3=[(f ⟨(i:Int),(j:Int),((k:Int)+1)⟩).x,(f ⟨(i:Int),(j:Int),((k:Int)+1)⟩).y,(f ⟨(i:Int),(j:Int),((k:Int)+1)⟩).z] :=
  ⟨3 * ((i * b+j) * c+(k+1)),by push_cast;omega,(hf.at_ i j (k+1) (by omega) (by omega) (by omega)).2,(hf.at_ i j (k+1) (by omega) (by omega) (by omega)).1⟩
 obtain ⟨n010,hn010,hl010,hv010⟩:∃ n:Nat,(((i:Int) * (b:Int)+((j:Int)+1)) * (c:Int)+(k:Int)) * 3=(n:Int)∧n+3≤D.length∧(D.drop n).take 3=[(f ⟨(i:Int),((j:Int)+1),(k:Int)⟩).x,(f ⟨(i:Int),((j:Int)+1),(k:Int)⟩).y,(f ⟨(i:Int),((j:Int)+1),(k:Int)⟩).z] :=
  ⟨3 * ((i * b+(j+1)) * c+k),by push_cast;omega,(hf.at_ i (j+1) k (by omega) (by omega) (by omega)).2,(hf.at_ i (j+1) k (by omega) (by omega) (by omega)).1⟩
 obtain ⟨n011,hn011,hl011,hv011⟩:∃ n:Nat,(((i:Int) * (b:Int)+((j:Int)+1)) * (c:Int)+((k:Int)+1)) * 3=(n:Int)∧n+3≤D.length∧(D.drop n).take 3=[(f ⟨(i:Int),((j:Int)+1),((k:Int)+1)⟩).x,(f ⟨(i:Int),((j:Int)+1),((k:Int)+1)⟩).y,(f ⟨(i:Int),((j:Int)+1),((k:Int)+1)⟩).z] :=
  ⟨3 * ((i * b+(j+1)) * c+(k+1)),by push_cast;omega,(hf.at_ i (j+1) (k+1) (by omega) (by omega) (by omega)).2,(hf.at_ i (j+1) (k+1) (by omega) (by omega) (by omega)).1⟩
 obtain ⟨n100,hn100,hl100,hv100⟩:∃ n:Nat,((((i:Int)+1) * (b:Int)+(j:Int)) * (c:Int)+(k:Int)) * 3=(n:Int)∧n+3≤D.length∧(D.drop n).take 3=[(f ⟨((i:Int)+1),(j:Int),(k:Int)⟩).x,(f ⟨((i:Int)+1),(j:Int),(k:Int)⟩).y,(f ⟨((i:Int)+1),(j:Int),(k:Int)⟩).z] :=
  ⟨3 * (((i+1) * b+j) * c+k),by push_cast;omega,(hf.at_ (i+1) j k (by omega) (by omega) (by omega)).2,(hf.at_ (i+1) j k (by omega) (by omega) (by omega)).1⟩
 obtain ⟨n101,hn101,hl101,hv101⟩:∃ n:Nat,((((i:Int)+1) * (b:Int)+(j:Int)) * (c:Int)+((k:Int)+1)) * 3=(n:Int)∧n+3≤D.length∧(D.drop n).take 3=[(f ⟨((i:Int)+1),(j:Int),((k:Int)+1)⟩).x,(f ⟨((i:Int)+1),(j:Int),((k:Int)+1)⟩).y,(f ⟨((i:Int)+1),(j:Int),((k:Int)+1)⟩).z] :=
  ⟨3 * (((i+1) * b+j) * c+(k+1)),by push_cast;omega,(hf.at_ (i+1) j (k+1) (by omega) (by omega) (by omega)).2,(hf.at_ (i+1) j (k+1) (by omega) (by omega) (by omega)).1⟩
 obtain ⟨n110,hn110,hl110,hv110⟩:∃ n:Nat,((((i:Int)+1) * (b:Int)+((j:Int)+1)) * (c:Int)+(k:Int)) * 3=(n:Int)∧n+3≤D.length∧(D.drop n).take 3=[(f ⟨((i:Int)+1),((j:Int)+1),(k:Int)⟩).x,(f ⟨((i:Int)+1),((j:Int)+1),(k:Int)⟩).y,(f ⟨((i:Int)+1),((j:Int)+1),(k:Int)⟩).z] :=
  ⟨3 * (((i+1) * b+(j+1)) * c+k),by push_cast;omega,(hf.at_ (i+1) (j+1) k (by omega) (by omega) (by omega)).2,(hf.at_ (i+1) (j+1) k (by omega) (by omega) (by omega)).1⟩
 obtain ⟨n111,hn111,hl111,hv111⟩:∃ n:Nat,((((i:Int)+1) * (b:Int)+((j:Int)+1)) * (c:Int)+((k:Int)+1)) * 3=(n:Int)∧n+3≤D.length∧(D.drop n).take 3=[(f ⟨((i:Int)+1),((j:Int)+1),((k:Int)+1)⟩).x,(f ⟨((i:Int)+1),((j:Int)+1),((k:Int)+1)⟩).y,(f ⟨((i:Int)+1),((j:Int)+1),((k:Int)+1)⟩).z] :=
  ⟨3 * (((i+1) * b+(j+1)) * c+(k+1)),by push_cast;omega,(hf.at_ (i+1) (j+1) (k+1) (by omega) (by omega) (by omega)).2,(hf.at_ (i+1) (j+1) (k+1) (by omega) (by omega) (by omega)).1⟩
 have sub000:∀ As':List Ent,[RdIn As' (.slice dp D.length dc) Int (cI .i64) D]→RdIn As' (subV 1 (.slice dp D.length dc) n000 (n000+3)) Int (cI .i64) [(f ⟨i,j,k⟩).x,(f ⟨i,j,k⟩).y,(f ⟨i,j,k⟩).z]:=fun As' _=>by
  have h:=RdIn.sub (As:=As') (v:=.slice dp D.length dc) (c:=cI .i64) (xs:=D) (lo:=n000) (hi:=n000+3) (Nat.le_add_right _ _) hl000
  rwa [Nat.add_sub_cancel_left,hv000] at h
 have sub001:∀ As':List Ent,[RdIn As' (.slice dp D.length dc) Int (cI .i64) D]→RdIn As' (subV 1 (.slice dp D.length dc) n001 (n001+3)) Int (cI .i64) [(f ⟨i,j,(k+1)⟩).x,(f ⟨i,j,(k+1)⟩).y,(f ⟨i,j,(k+1)⟩).z]:=fun As' _=>by
  have h:=RdIn.sub (As:=As') (v:=.slice dp D.length dc) (c:=cI .i64) (xs:=D) (lo:=n001) (hi:=n001+3) (Nat.le_add_right _ _) hl001
  rwa [Nat.add_sub_cancel_left,hv001] at h
 have sub010:∀ As':List Ent,[RdIn As' (.slice dp D.length dc) Int (cI .i64) D]→RdIn As' (subV 1 (.slice dp D.length dc) n010 (n010+3)) Int (cI .i64) [(f ⟨i,(j+1),k⟩).x,(f ⟨i,(j+1),k⟩).y,(f ⟨i,(j+1),k⟩).z]:=fun As' _=>by
  have h:=RdIn.sub (As:=As') (v:=.slice dp D.length dc) (c:=cI .i64) (xs:=D) (lo:=n010) (hi:=n010+3) (Nat.le_add_right _ _) hl010
  rwa [Nat.add_sub_cancel_left,hv010] at h
 have sub011:∀ As':List Ent,[RdIn As' (.slice dp D.length dc) Int (cI .i64) D]→RdIn As' (subV 1 (.slice dp D.length dc) n011 (n011+3)) Int (cI .i64) [(f ⟨i,(j+1),(k+1)⟩).x,(f ⟨i,(j+1),(k+1)⟩).y,(f ⟨i,(j+1),(k+1)⟩).z]:=fun As' _=>by
  have h:=RdIn.sub (As:=As') (v:=.slice dp D.length dc) (c:=cI .i64) (xs:=D) (lo:=n011) (hi:=n011+3) (Nat.le_add_right _ _) hl011
  rwa [Nat.add_sub_cancel_left,hv011] at h
 have sub100:∀ As':List Ent,[RdIn As' (.slice dp D.length dc) Int (cI .i64) D]→RdIn As' (subV 1 (.slice dp D.length dc) n100 (n100+3)) Int (cI .i64) [(f ⟨(i+1),j,k⟩).x,(f ⟨(i+1),j,k⟩).y,(f ⟨(i+1),j,k⟩).z]:=fun As' _=>by
  have h:=RdIn.sub (As:=As') (v:=.slice dp D.length dc) (c:=cI .i64) (xs:=D) (lo:=n100) (hi:=n100+3) (Nat.le_add_right _ _) hl100
  rwa [Nat.add_sub_cancel_left,hv100] at h
 have sub101:∀ As':List Ent,[RdIn As' (.slice dp D.length dc) Int (cI .i64) D]→RdIn As' (subV 1 (.slice dp D.length dc) n101 (n101+3)) Int (cI .i64) [(f ⟨(i+1),j,(k+1)⟩).x,(f ⟨(i+1),j,(k+1)⟩).y,(f ⟨(i+1),j,(k+1)⟩).z]:=fun As' _=>by
  have h:=RdIn.sub (As:=As') (v:=.slice dp D.length dc) (c:=cI .i64) (xs:=D) (lo:=n101) (hi:=n101+3) (Nat.le_add_right _ _) hl101
  rwa [Nat.add_sub_cancel_left,hv101] at h
 have sub110:∀ As':List Ent,[RdIn As' (.slice dp D.length dc) Int (cI .i64) D]→RdIn As' (subV 1 (.slice dp D.length dc) n110 (n110+3)) Int (cI .i64) [(f ⟨(i+1),(j+1),k⟩).x,(f ⟨(i+1),(j+1),k⟩).y,(f ⟨(i+1),(j+1),k⟩).z]:=fun As' _=>by
  have h:=RdIn.sub (As:=As') (v:=.slice dp D.length dc) (c:=cI .i64) (xs:=D) (lo:=n110) (hi:=n110+3) (Nat.le_add_right _ _) hl110
  rwa [Nat.add_sub_cancel_left,hv110] at h
 have sub111:∀ As':List Ent,[RdIn As' (.slice dp D.length dc) Int (cI .i64) D]→RdIn As' (subV 1 (.slice dp D.length dc) n111 (n111+3)) Int (cI .i64) [(f ⟨(i+1),(j+1),(k+1)⟩).x,(f ⟨(i+1),(j+1),(k+1)⟩).y,(f ⟨(i+1),(j+1),(k+1)⟩).z]:=fun As' _=>by
  have h:=RdIn.sub (As:=As') (v:=.slice dp D.length dc) (c:=cI .i64) (xs:=D) (lo:=n111) (hi:=n111+3) (Nat.le_add_right _ _) hl111
  rwa [Nat.add_sub_cancel_left,hv111] at h
 have hDl:D.length≤1000000000∨True:=.inr trivial
 clear hf hDl
 refine Zab Tryz.func64 rfl Tryz.ntmps64 rfl ?_
 have h6:m=0∨m=1∨m=2∨m=3∨m=4∨m=5:=by omega
 rcases h6 with rfl|rfl|rfl|rfl|rfl|rfl
 ·show Tri _ _ _ _ (env0 0 [.agg #[.slice sp 3 sc,.int .i64 3,.slice dp D.length dc],.agg #[.int .i64 (i:Int),.int .i64 (j:Int),.int .i64 (k:Int)],.agg #[.int .i64 0,.int .i64 1,.int .i64 2]]) _ _
  repeat' first|refine Kz ?_|intro _
  rename_i bg bi bo bu
  refine TL.f rfl rfl (ExF.build (vs:=[.agg #[.int .i64 (i:Int),.int .i64 (j:Int),.int .i64 (k:Int)],.agg #[.int .i64 0,.int .i64 1,.int .i64 2]]) (l:=[.int .i64 (i:Int),.int .i64 (j:Int),.int .i64 (k:Int),.int .i64 0,.int .i64 1,.int .i64 2,.int .i64 0,.int .i64 0,.int .i64 0,.int .i64 0,.int .i64 0,.int .i64 0,.int .i64 0,.int .i64 0,.int .i64 0,.int .i64 0,.int .i64 0,.int .i64 0]) rfl (fun w=>by kernel_rfl)) ?_
  repeat' first|refine Kz ?_|intro _
  rename_i bt bp
  refine Zah 5 ?_
  repeat' first|refine Kz ?_|intro _
  refine Zai (.take 0 (.take 1 (.take 2 (.take 3 (.take 4 (.take 5 (.take 6 (.take 7 (.take 8 (.take 9 (.take 10 (.take 11 (.take 12 (.take 13 (.take 14 (.take 15 (.take 16 (.take 17 (.take 18 (.take 19 (.take 20 (.take 21 (.done))))))))))))))))))))))) ?_
  repeat' first|refine Kf ?_|intro _|constructor
  rw [hn000]
  repeat' first|refine Kf ?_|intro _|constructor
  refine Zaf (.cl bg [.slice sp 3 sc,.int .i64 3,.slice dp D.length dc] 29::As) [] (.take 0 (.take 1 (.take 2 (.take 3 (.take 4 (.take 5 (.take 6 (.take 7 (.take 8 (.take 9 (.all [(10,.done)]))))))))))) ?_
  repeat' first|refine Kf ?_|intro _|constructor
  refine TT.take rfl rfl rfl (Zap (b:=bt) (off:=6) (hi:=3) rfl Zbc (by decide) (by decide)) ?_
  repeat' first|refine Kf ?_|intro _|constructor
  refine TT.take rfl rfl rfl (Zan (c:=cI .i64) (xs:=D) (lo:=n000) (hi:=n000+3) rfl (Za3 rfl) (Za6 rfl) (by omega) (by omega)) ?_
  repeat' first|refine Kf ?_|intro _|constructor
  refine Zc2 rfl rfl rfl (Zau (c:=cI .i64) (b:=bt) (off:=6) (ys:=[(f ⟨i,j,k⟩).x,(f ⟨i,j,k⟩).y,(f ⟨i,j,k⟩).z]) (hr:=sub000 _) (l':=[.int .i64 (i:Int),.int .i64 (j:Int),.int .i64 (k:Int),.int .i64 0,.int .i64 1,.int .i64 2,.int .i64 (f ⟨i,j,k⟩).x,.int .i64 (f ⟨i,j,k⟩).y,.int .i64 (f ⟨i,j,k⟩).z,.int .i64 0,.int .i64 0,.int .i64 0,.int .i64 0,.int .i64 0,.int .i64 0,.int .i64 0,.int .i64 0,.int .i64 0]) rfl rfl rfl (List.cons_ne_nil _ _) (Nat.le_refl _) (Nat.le_of_ble_eq_true rfl) rfl) ?_
  rintro _ _ ⟨rfl,rfl⟩
  repeat' first|refine Kf ?_|intro _|constructor
  refine Zai (.take 0 (.take 1 (.take 2 (.take 3 (.take 4 (.take 5 (.take 6 (.take 7 (.take 8 (.take 9 (.take 10 (.take 11 (.take 12 (.take 13 (.take 14 (.take 15 (.take 16 (.take 17 (.take 18 (.take 19 (.take 20 (.take 21 (.done))))))))))))))))))))))) ?_
  repeat' first|refine Kf ?_|intro _|constructor
  rw [hn100]
  repeat' first|refine Kf ?_|intro _|constructor
  refine Zaf (.cl bg [.slice sp 3 sc,.int .i64 3,.slice dp D.length dc] 29::As) [] (.take 0 (.take 1 (.take 2 (.take 3 (.take 4 (.take 5 (.take 6 (.take 7 (.take 8 (.take 9 (.all [(10,.done)]))))))))))) ?_
  repeat' first|refine Kf ?_|intro _|constructor
  refine TT.take rfl rfl rfl (Zap (b:=bt) (off:=9) (hi:=3) rfl Zbc (by decide) (by decide)) ?_
  repeat' first|refine Kf ?_|intro _|constructor
  refine TT.take rfl rfl rfl (Zan (c:=cI .i64) (xs:=D) (lo:=n100) (hi:=n100+3) rfl (Za3 rfl) (Za6 rfl) (by omega) (by omega)) ?_
  repeat' first|refine Kf ?_|intro _|constructor
  refine Zc2 rfl rfl rfl (Zau (c:=cI .i64) (b:=bt) (off:=9) (ys:=[(f ⟨(i+1),j,k⟩).x,(f ⟨(i+1),j,k⟩).y,(f ⟨(i+1),j,k⟩).z]) (hr:=sub100 _) (l':=[.int .i64 (i:Int),.int .i64 (j:Int),.int .i64 (k:Int),.int .i64 0,.int .i64 1,.int .i64 2,.int .i64 (f ⟨i,j,k⟩).x,.int .i64 (f ⟨i,j,k⟩).y,.int .i64 (f ⟨i,j,k⟩).z,.int .i64 (f ⟨(i+1),j,k⟩).x,.int .i64 (f ⟨(i+1),j,k⟩).y,.int .i64 (f ⟨(i+1),j,k⟩).z,.int .i64 0,.int .i64 0,.int .i64 0,.int .i64 0,.int .i64 0,.int .i64 0]) rfl rfl rfl (List.cons_ne_nil _ _) (Nat.le_refl _) (Nat.le_of_ble_eq_true rfl) rfl) ?_
  rintro _ _ ⟨rfl,rfl⟩
  repeat' first|refine Kf ?_|intro _|constructor
  refine Zai (.take 0 (.take 1 (.take 2 (.take 3 (.take 4 (.take 5 (.take 6 (.take 7 (.take 8 (.take 9 (.take 10 (.take 11 (.take 12 (.take 13 (.take 14 (.take 15 (.take 16 (.take 17 (.take 18 (.take 19 (.take 20 (.take 21 (.done))))))))))))))))))))))) ?_
  repeat' first|refine Kf ?_|intro _|constructor
  rw [hn110]
  repeat' first|refine Kf ?_|intro _|constructor
  refine Zaf (.cl bg [.slice sp 3 sc,.int .i64 3,.slice dp D.length dc] 29::As) [] (.take 0 (.take 1 (.take 2 (.take 3 (.take 4 (.take 5 (.take 6 (.take 7 (.take 8 (.take 9 (.all [(10,.done)]))))))))))) ?_
  repeat' first|refine Kf ?_|intro _|constructor
  refine TT.take rfl rfl rfl (Zap (b:=bt) (off:=12) (hi:=3) rfl Zbc (by decide) (by decide)) ?_
  repeat' first|refine Kf ?_|intro _|constructor
  refine TT.take rfl rfl rfl (Zan (c:=cI .i64) (xs:=D) (lo:=n110) (hi:=n110+3) rfl (Za3 rfl) (Za6 rfl) (by omega) (by omega)) ?_
  repeat' first|refine Kf ?_|intro _|constructor
  refine Zc2 rfl rfl rfl (Zau (c:=cI .i64) (b:=bt) (off:=12) (ys:=[(f ⟨(i+1),(j+1),k⟩).x,(f ⟨(i+1),(j+1),k⟩).y,(f ⟨(i+1),(j+1),k⟩).z]) (hr:=sub110 _) (l':=[.int .i64 (i:Int),.int .i64 (j:Int),.int .i64 (k:Int),.int .i64 0,.int .i64 1,.int .i64 2,.int .i64 (f ⟨i,j,k⟩).x,.int .i64 (f ⟨i,j,k⟩).y,.int .i64 (f ⟨i,j,k⟩).z,.int .i64 (f ⟨(i+1),j,k⟩).x,.int .i64 (f ⟨(i+1),j,k⟩).y,.int .i64 (f ⟨(i+1),j,k⟩).z,.int .i64 (f ⟨(i+1),(j+1),k⟩).x,.int .i64 (f ⟨(i+1),(j+1),k⟩).y,.int .i64 (f ⟨(i+1),(j+1),k⟩).z,.int .i64 0,.int .i64 0,.int .i64 0]) rfl rfl rfl (List.cons_ne_nil _ _) (Nat.le_refl _) (Nat.le_of_ble_eq_true rfl) rfl) ?_
  rintro _ _ ⟨rfl,rfl⟩
  repeat' first|refine Kf ?_|intro _|constructor
  refine Zai (.take 0 (.take 1 (.take 2 (.take 3 (.take 4 (.take 5 (.take 6 (.take 7 (.take 8 (.take 9 (.take 10 (.take 11 (.take 12 (.take 13 (.take 14 (.take 15 (.take 16 (.take 17 (.take 18 (.take 19 (.take 20 (.take 21 (.done))))))))))))))))))))))) ?_
  repeat' first|refine Kf ?_|intro _|constructor
  rw [hn111]
  repeat' first|refine Kf ?_|intro _|constructor
  refine Zaf (.cl bg [.slice sp 3 sc,.int .i64 3,.slice dp D.length dc] 29::As) [] (.take 0 (.take 1 (.take 2 (.take 3 (.take 4 (.take 5 (.take 6 (.take 7 (.take 8 (.take 9 (.all [(10,.done)]))))))))))) ?_
  repeat' first|refine Kf ?_|intro _|constructor
  refine TT.take rfl rfl rfl (Zap (b:=bt) (off:=15) (hi:=3) rfl Zbc (by decide) (by decide)) ?_
  repeat' first|refine Kf ?_|intro _|constructor
  refine TT.take rfl rfl rfl (Zan (c:=cI .i64) (xs:=D) (lo:=n111) (hi:=n111+3) rfl (Za3 rfl) (Za6 rfl) (by omega) (by omega)) ?_
  repeat' first|refine Kf ?_|intro _|constructor
  refine Zc2 rfl rfl rfl (Zau (c:=cI .i64) (b:=bt) (off:=15) (ys:=[(f ⟨(i+1),(j+1),(k+1)⟩).x,(f ⟨(i+1),(j+1),(k+1)⟩).y,(f ⟨(i+1),(j+1),(k+1)⟩).z]) (hr:=sub111 _) (l':=[.int .i64 (i:Int),.int .i64 (j:Int),.int .i64 (k:Int),.int .i64 0,.int .i64 1,.int .i64 2,.int .i64 (f ⟨i,j,k⟩).x,.int .i64 (f ⟨i,j,k⟩).y,.int .i64 (f ⟨i,j,k⟩).z,.int .i64 (f ⟨(i+1),j,k⟩).x,.int .i64 (f ⟨(i+1),j,k⟩).y,.int .i64 (f ⟨(i+1),j,k⟩).z,.int .i64 (f ⟨(i+1),(j+1),k⟩).x,.int .i64 (f ⟨(i+1),(j+1),k⟩).y,.int .i64 (f ⟨(i+1),(j+1),k⟩).z,.int .i64 (f ⟨(i+1),(j+1),(k+1)⟩).x,.int .i64 (f ⟨(i+1),(j+1),(k+1)⟩).y,.int .i64 (f ⟨(i+1),(j+1),(k+1)⟩).z]) rfl rfl rfl (List.cons_ne_nil _ _) (Nat.le_refl _) (Nat.le_of_ble_eq_true rfl) rfl) ?_
  rintro _ _ ⟨rfl,rfl⟩
  repeat' first|refine Kf ?_|intro _|constructor
  exact Kv
 ·show Tri _ _ _ _ (env0 0 [.agg #[.slice sp 3 sc,.int .i64 3,.slice dp D.length dc],.agg #[.int .i64 (i:Int),.int .i64 (j:Int),.int .i64 (k:Int)],.agg #[.int .i64 0,.int .i64 2,.int .i64 1]]) _ _
  repeat' first|refine Kz ?_|intro _
  rename_i bg bi bo bu
  refine TL.f rfl rfl (ExF.build (vs:=[.agg #[.int .i64 (i:Int),.int .i64 (j:Int),.int .i64 (k:Int)],.agg #[.int .i64 0,.int .i64 2,.int .i64 1]]) (l:=[.int .i64 (i:Int),.int .i64 (j:Int),.int .i64 (k:Int),.int .i64 0,.int .i64 2,.int .i64 1,.int .i64 0,.int .i64 0,.int .i64 0,.int .i64 0,.int .i64 0,.int .i64 0,.int .i64 0,.int .i64 0,.int .i64 0,.int .i64 0,.int .i64 0,.int .i64 0]) rfl (fun w=>by kernel_rfl)) ?_
  repeat' first|refine Kz ?_|intro _
  rename_i bt bp
  refine Zah 5 ?_
  repeat' first|refine Kz ?_|intro _
  refine Zai (.take 0 (.take 1 (.take 2 (.take 3 (.take 4 (.take 5 (.take 6 (.take 7 (.take 8 (.take 9 (.take 10 (.take 11 (.take 12 (.take 13 (.take 14 (.take 15 (.take 16 (.take 17 (.take 18 (.take 19 (.take 20 (.take 21 (.done))))))))))))))))))))))) ?_
  repeat' first|refine Kf ?_|intro _|constructor
  rw [hn000]
  repeat' first|refine Kf ?_|intro _|constructor
  refine Zaf (.cl bg [.slice sp 3 sc,.int .i64 3,.slice dp D.length dc] 29::As) [] (.take 0 (.take 1 (.take 2 (.take 3 (.take 4 (.take 5 (.take 6 (.take 7 (.take 8 (.take 9 (.all [(10,.done)]))))))))))) ?_
  repeat' first|refine Kf ?_|intro _|constructor
  refine TT.take rfl rfl rfl (Zap (b:=bt) (off:=6) (hi:=3) rfl Zbc (by decide) (by decide)) ?_
  repeat' first|refine Kf ?_|intro _|constructor
  refine TT.take rfl rfl rfl (Zan (c:=cI .i64) (xs:=D) (lo:=n000) (hi:=n000+3) rfl (Za3 rfl) (Za6 rfl) (by omega) (by omega)) ?_
  repeat' first|refine Kf ?_|intro _|constructor
  refine Zc2 rfl rfl rfl (Zau (c:=cI .i64) (b:=bt) (off:=6) (ys:=[(f ⟨i,j,k⟩).x,(f ⟨i,j,k⟩).y,(f ⟨i,j,k⟩).z]) (hr:=sub000 _) (l':=[.int .i64 (i:Int),.int .i64 (j:Int),.int .i64 (k:Int),.int .i64 0,.int .i64 2,.int .i64 1,.int .i64 (f ⟨i,j,k⟩).x,.int .i64 (f ⟨i,j,k⟩).y,.int .i64 (f ⟨i,j,k⟩).z,.int .i64 0,.int .i64 0,.int .i64 0,.int .i64 0,.int .i64 0,.int .i64 0,.int .i64 0,.int .i64 0,.int .i64 0]) rfl rfl rfl (List.cons_ne_nil _ _) (Nat.le_refl _) (Nat.le_of_ble_eq_true rfl) rfl) ?_
  rintro _ _ ⟨rfl,rfl⟩
  repeat' first|refine Kf ?_|intro _|constructor
  refine Zai (.take 0 (.take 1 (.take 2 (.take 3 (.take 4 (.take 5 (.take 6 (.take 7 (.take 8 (.take 9 (.take 10 (.take 11 (.take 12 (.take 13 (.take 14 (.take 15 (.take 16 (.take 17 (.take 18 (.take 19 (.take 20 (.take 21 (.done))))))))))))))))))))))) ?_
  repeat' first|refine Kf ?_|intro _|constructor
  rw [hn100]
  repeat' first|refine Kf ?_|intro _|constructor
  refine Zaf (.cl bg [.slice sp 3 sc,.int .i64 3,.slice dp D.length dc] 29::As) [] (.take 0 (.take 1 (.take 2 (.take 3 (.take 4 (.take 5 (.take 6 (.take 7 (.take 8 (.take 9 (.all [(10,.done)]))))))))))) ?_
  repeat' first|refine Kf ?_|intro _|constructor
  refine TT.take rfl rfl rfl (Zap (b:=bt) (off:=9) (hi:=3) rfl Zbc (by decide) (by decide)) ?_
  repeat' first|refine Kf ?_|intro _|constructor
  refine TT.take rfl rfl rfl (Zan (c:=cI .i64) (xs:=D) (lo:=n100) (hi:=n100+3) rfl (Za3 rfl) (Za6 rfl) (by omega) (by omega)) ?_
  repeat' first|refine Kf ?_|intro _|constructor
  refine Zc2 rfl rfl rfl (Zau (c:=cI .i64) (b:=bt) (off:=9) (ys:=[(f ⟨(i+1),j,k⟩).x,(f ⟨(i+1),j,k⟩).y,(f ⟨(i+1),j,k⟩).z]) (hr:=sub100 _) (l':=[.int .i64 (i:Int),.int .i64 (j:Int),.int .i64 (k:Int),.int .i64 0,.int .i64 2,.int .i64 1,.int .i64 (f ⟨i,j,k⟩).x,.int .i64 (f ⟨i,j,k⟩).y,.int .i64 (f ⟨i,j,k⟩).z,.int .i64 (f ⟨(i+1),j,k⟩).x,.int .i64 (f ⟨(i+1),j,k⟩).y,.int .i64 (f ⟨(i+1),j,k⟩).z,.int .i64 0,.int .i64 0,.int .i64 0,.int .i64 0,.int .i64 0,.int .i64 0]) rfl rfl rfl (List.cons_ne_nil _ _) (Nat.le_refl _) (Nat.le_of_ble_eq_true rfl) rfl) ?_
  rintro _ _ ⟨rfl,rfl⟩
  repeat' first|refine Kf ?_|intro _|constructor
  refine Zai (.take 0 (.take 1 (.take 2 (.take 3 (.take 4 (.take 5 (.take 6 (.take 7 (.take 8 (.take 9 (.take 10 (.take 11 (.take 12 (.take 13 (.take 14 (.take 15 (.take 16 (.take 17 (.take 18 (.take 19 (.take 20 (.take 21 (.done))))))))))))))))))))))) ?_
  repeat' first|refine Kf ?_|intro _|constructor
  rw [hn101]
  repeat' first|refine Kf ?_|intro _|constructor
  refine Zaf (.cl bg [.slice sp 3 sc,.int .i64 3,.slice dp D.length dc] 29::As) [] (.take 0 (.take 1 (.take 2 (.take 3 (.take 4 (.take 5 (.take 6 (.take 7 (.take 8 (.take 9 (.all [(10,.done)]))))))))))) ?_
  repeat' first|refine Kf ?_|intro _|constructor
  refine TT.take rfl rfl rfl (Zap (b:=bt) (off:=12) (hi:=3) rfl Zbc (by decide) (by decide)) ?_
  repeat' first|refine Kf ?_|intro _|constructor
  refine TT.take rfl rfl rfl (Zan (c:=cI .i64) (xs:=D) (lo:=n101) (hi:=n101+3) rfl (Za3 rfl) (Za6 rfl) (by omega) (by omega)) ?_
  repeat' first|refine Kf ?_|intro _|constructor
  refine Zc2 rfl rfl rfl (Zau (c:=cI .i64) (b:=bt) (off:=12) (ys:=[(f ⟨(i+1),j,(k+1)⟩).x,(f ⟨(i+1),j,(k+1)⟩).y,(f ⟨(i+1),j,(k+1)⟩).z]) (hr:=sub101 _) (l':=[.int .i64 (i:Int),.int .i64 (j:Int),.int .i64 (k:Int),.int .i64 0,.int .i64 2,.int .i64 1,.int .i64 (f ⟨i,j,k⟩).x,.int .i64 (f ⟨i,j,k⟩).y,.int .i64 (f ⟨i,j,k⟩).z,.int .i64 (f ⟨(i+1),j,k⟩).x,.int .i64 (f ⟨(i+1),j,k⟩).y,.int .i64 (f ⟨(i+1),j,k⟩).z,.int .i64 (f ⟨(i+1),j,(k+1)⟩).x,.int .i64 (f ⟨(i+1),j,(k+1)⟩).y,.int .i64 (f ⟨(i+1),j,(k+1)⟩).z,.int .i64 0,.int .i64 0,.int .i64 0]) rfl rfl rfl (List.cons_ne_nil _ _) (Nat.le_refl _) (Nat.le_of_ble_eq_true rfl) rfl) ?_
  rintro _ _ ⟨rfl,rfl⟩
  repeat' first|refine Kf ?_|intro _|constructor
  refine Zai (.take 0 (.take 1 (.take 2 (.take 3 (.take 4 (.take 5 (.take 6 (.take 7 (.take 8 (.take 9 (.take 10 (.take 11 (.take 12 (.take 13 (.take 14 (.take 15 (.take 16 (.take 17 (.take 18 (.take 19 (.take 20 (.take 21 (.done))))))))))))))))))))))) ?_
  repeat' first|refine Kf ?_|intro _|constructor
  rw [hn111]
  repeat' first|refine Kf ?_|intro _|constructor
  refine Zaf (.cl bg [.slice sp 3 sc,.int .i64 3,.slice dp D.length dc] 29::As) [] (.take 0 (.take 1 (.take 2 (.take 3 (.take 4 (.take 5 (.take 6 (.take 7 (.take 8 (.take 9 (.all [(10,.done)]))))))))))) ?_
  repeat' first|refine Kf ?_|intro _|constructor
  refine TT.take rfl rfl rfl (Zap (b:=bt) (off:=15) (hi:=3) rfl Zbc (by decide) (by decide)) ?_
  repeat' first|refine Kf ?_|intro _|constructor
  refine TT.take rfl rfl rfl (Zan (c:=cI .i64) (xs:=D) (lo:=n111) (hi:=n111+3) rfl (Za3 rfl) (Za6 rfl) (by omega) (by omega)) ?_
  repeat' first|refine Kf ?_|intro _|constructor
  refine Zc2 rfl rfl rfl (Zau (c:=cI .i64) (b:=bt) (off:=15) (ys:=[(f ⟨(i+1),(j+1),(k+1)⟩).x,(f ⟨(i+1),(j+1),(k+1)⟩).y,(f ⟨(i+1),(j+1),(k+1)⟩).z]) (hr:=sub111 _) (l':=[.int .i64 (i:Int),.int .i64 (j:Int),.int .i64 (k:Int),.int .i64 0,.int .i64 2,.int .i64 1,.int .i64 (f ⟨i,j,k⟩).x,.int .i64 (f ⟨i,j,k⟩).y,.int .i64 (f ⟨i,j,k⟩).z,.int .i64 (f ⟨(i+1),j,k⟩).x,.int .i64 (f ⟨(i+1),j,k⟩).y,.int .i64 (f ⟨(i+1),j,k⟩).z,.int .i64 (f ⟨(i+1),j,(k+1)⟩).x,.int .i64 (f ⟨(i+1),j,(k+1)⟩).y,.int .i64 (f ⟨(i+1),j,(k+1)⟩).z,.int .i64 (f ⟨(i+1),(j+1),(k+1)⟩).x,.int .i64 (f ⟨(i+1),(j+1),(k+1)⟩).y,.int .i64 (f ⟨(i+1),(j+1),(k+1)⟩).z]) rfl rfl rfl (List.cons_ne_nil _ _) (Nat.le_refl _) (Nat.le_of_ble_eq_true rfl) rfl) ?_
  rintro _ _ ⟨rfl,rfl⟩
  repeat' first|refine Kf ?_|intro _|constructor
  exact Kv
 ·show Tri _ _ _ _ (env0 0 [.agg #[.slice sp 3 sc,.int .i64 3,.slice dp D.length dc],.agg #[.int .i64 (i:Int),.int .i64 (j:Int),.int .i64 (k:Int)],.agg #[.int .i64 1,.int .i64 0,.int .i64 2]]) _ _
  repeat' first|refine Kz ?_|intro _
  rename_i bg bi bo bu
  refine TL.f rfl rfl (ExF.build (vs:=[.agg #[.int .i64 (i:Int),.int .i64 (j:Int),.int .i64 (k:Int)],.agg #[.int .i64 1,.int .i64 0,.int .i64 2]]) (l:=[.int .i64 (i:Int),.int .i64 (j:Int),.int .i64 (k:Int),.int .i64 1,.int .i64 0,.int .i64 2,.int .i64 0,.int .i64 0,.int .i64 0,.int .i64 0,.int .i64 0,.int .i64 0,.int .i64 0,.int .i64 0,.int .i64 0,.int .i64 0,.int .i64 0,.int .i64 0]) rfl (fun w=>by kernel_rfl)) ?_
  repeat' first|refine Kz ?_|intro _
  rename_i bt bp
  refine Zah 5 ?_
  repeat' first|refine Kz ?_|intro _
  refine Zai (.take 0 (.take 1 (.take 2 (.take 3 (.take 4 (.take 5 (.take 6 (.take 7 (.take 8 (.take 9 (.take 10 (.take 11 (.take 12 (.take 13 (.take 14 (.take 15 (.take 16 (.take 17 (.take 18 (.take 19 (.take 20 (.take 21 (.done))))))))))))))))))))))) ?_
  repeat' first|refine Kf ?_|intro _|constructor
  rw [hn000]
  repeat' first|refine Kf ?_|intro _|constructor
  refine Zaf (.cl bg [.slice sp 3 sc,.int .i64 3,.slice dp D.length dc] 29::As) [] (.take 0 (.take 1 (.take 2 (.take 3 (.take 4 (.take 5 (.take 6 (.take 7 (.take 8 (.take 9 (.all [(10,.done)]))))))))))) ?_
  repeat' first|refine Kf ?_|intro _|constructor
  refine TT.take rfl rfl rfl (Zap (b:=bt) (off:=6) (hi:=3) rfl Zbc (by decide) (by decide)) ?_
  repeat' first|refine Kf ?_|intro _|constructor
  refine TT.take rfl rfl rfl (Zan (c:=cI .i64) (xs:=D) (lo:=n000) (hi:=n000+3) rfl (Za3 rfl) (Za6 rfl) (by omega) (by omega)) ?_
  repeat' first|refine Kf ?_|intro _|constructor
  refine Zc2 rfl rfl rfl (Zau (c:=cI .i64) (b:=bt) (off:=6) (ys:=[(f ⟨i,j,k⟩).x,(f ⟨i,j,k⟩).y,(f ⟨i,j,k⟩).z]) (hr:=sub000 _) (l':=[.int .i64 (i:Int),.int .i64 (j:Int),.int .i64 (k:Int),.int .i64 1,.int .i64 0,.int .i64 2,.int .i64 (f ⟨i,j,k⟩).x,.int .i64 (f ⟨i,j,k⟩).y,.int .i64 (f ⟨i,j,k⟩).z,.int .i64 0,.int .i64 0,.int .i64 0,.int .i64 0,.int .i64 0,.int .i64 0,.int .i64 0,.int .i64 0,.int .i64 0]) rfl rfl rfl (List.cons_ne_nil _ _) (Nat.le_refl _) (Nat.le_of_ble_eq_true rfl) rfl) ?_
  rintro _ _ ⟨rfl,rfl⟩
  repeat' first|refine Kf ?_|intro _|constructor
  refine Zai (.take 0 (.take 1 (.take 2 (.take 3 (.take 4 (.take 5 (.take 6 (.take 7 (.take 8 (.take 9 (.take 10 (.take 11 (.take 12 (.take 13 (.take 14 (.take 15 (.take 16 (.take 17 (.take 18 (.take 19 (.take 20 (.take 21 (.done))))))))))))))))))))))) ?_
  repeat' first|refine Kf ?_|intro _|constructor
  rw [hn010]
  repeat' first|refine Kf ?_|intro _|constructor
  refine Zaf (.cl bg [.slice sp 3 sc,.int .i64 3,.slice dp D.length dc] 29::As) [] (.take 0 (.take 1 (.take 2 (.take 3 (.take 4 (.take 5 (.take 6 (.take 7 (.take 8 (.take 9 (.all [(10,.done)]))))))))))) ?_
  repeat' first|refine Kf ?_|intro _|constructor
  refine TT.take rfl rfl rfl (Zap (b:=bt) (off:=9) (hi:=3) rfl Zbc (by decide) (by decide)) ?_
  repeat' first|refine Kf ?_|intro _|constructor
  refine TT.take rfl rfl rfl (Zan (c:=cI .i64) (xs:=D) (lo:=n010) (hi:=n010+3) rfl (Za3 rfl) (Za6 rfl) (by omega) (by omega)) ?_
  repeat' first|refine Kf ?_|intro _|constructor
  refine Zc2 rfl rfl rfl (Zau (c:=cI .i64) (b:=bt) (off:=9) (ys:=[(f ⟨i,(j+1),k⟩).x,(f ⟨i,(j+1),k⟩).y,(f ⟨i,(j+1),k⟩).z]) (hr:=sub010 _) (l':=[.int .i64 (i:Int),.int .i64 (j:Int),.int .i64 (k:Int),.int .i64 1,.int .i64 0,.int .i64 2,.int .i64 (f ⟨i,j,k⟩).x,.int .i64 (f ⟨i,j,k⟩).y,.int .i64 (f ⟨i,j,k⟩).z,.int .i64 (f ⟨i,(j+1),k⟩).x,.int .i64 (f ⟨i,(j+1),k⟩).y,.int .i64 (f ⟨i,(j+1),k⟩).z,.int .i64 0,.int .i64 0,.int .i64 0,.int .i64 0,.int .i64 0,.int .i64 0]) rfl rfl rfl (List.cons_ne_nil _ _) (Nat.le_refl _) (Nat.le_of_ble_eq_true rfl) rfl) ?_
  rintro _ _ ⟨rfl,rfl⟩
  repeat' first|refine Kf ?_|intro _|constructor
  refine Zai (.take 0 (.take 1 (.take 2 (.take 3 (.take 4 (.take 5 (.take 6 (.take 7 (.take 8 (.take 9 (.take 10 (.take 11 (.take 12 (.take 13 (.take 14 (.take 15 (.take 16 (.take 17 (.take 18 (.take 19 (.take 20 (.take 21 (.done))))))))))))))))))))))) ?_
  repeat' first|refine Kf ?_|intro _|constructor
  rw [hn110]
  repeat' first|refine Kf ?_|intro _|constructor
  refine Zaf (.cl bg [.slice sp 3 sc,.int .i64 3,.slice dp D.length dc] 29::As) [] (.take 0 (.take 1 (.take 2 (.take 3 (.take 4 (.take 5 (.take 6 (.take 7 (.take 8 (.take 9 (.all [(10,.done)]))))))))))) ?_
  repeat' first|refine Kf ?_|intro _|constructor
  refine TT.take rfl rfl rfl (Zap (b:=bt) (off:=12) (hi:=3) rfl Zbc (by decide) (by decide)) ?_
  repeat' first|refine Kf ?_|intro _|constructor
  refine TT.take rfl rfl rfl (Zan (c:=cI .i64) (xs:=D) (lo:=n110) (hi:=n110+3) rfl (Za3 rfl) (Za6 rfl) (by omega) (by omega)) ?_
  repeat' first|refine Kf ?_|intro _|constructor
  refine Zc2 rfl rfl rfl (Zau (c:=cI .i64) (b:=bt) (off:=12) (ys:=[(f ⟨(i+1),(j+1),k⟩).x,(f ⟨(i+1),(j+1),k⟩).y,(f ⟨(i+1),(j+1),k⟩).z]) (hr:=sub110 _) (l':=[.int .i64 (i:Int),.int .i64 (j:Int),.int .i64 (k:Int),.int .i64 1,.int .i64 0,.int .i64 2,.int .i64 (f ⟨i,j,k⟩).x,.int .i64 (f ⟨i,j,k⟩).y,.int .i64 (f ⟨i,j,k⟩).z,.int .i64 (f ⟨i,(j+1),k⟩).x,.int .i64 (f ⟨i,(j+1),k⟩).y,.int .i64 (f ⟨i,(j+1),k⟩).z,.int .i64 (f ⟨(i+1),(j+1),k⟩).x,.int .i64 (f ⟨(i+1),(j+1),k⟩).y,.int .i64 (f ⟨(i+1),(j+1),k⟩).z,.int .i64 0,.int .i64 0,.int .i64 0]) rfl rfl rfl (List.cons_ne_nil _ _) (Nat.le_refl _) (Nat.le_of_ble_eq_true rfl) rfl) ?_
  rintro _ _ ⟨rfl,rfl⟩
  repeat' first|refine Kf ?_|intro _|constructor
  refine Zai (.take 0 (.take 1 (.take 2 (.take 3 (.take 4 (.take 5 (.take 6 (.take 7 (.take 8 (.take 9 (.take 10 (.take 11 (.take 12 (.take 13 (.take 14 (.take 15 (.take 16 (.take 17 (.take 18 (.take 19 (.take 20 (.take 21 (.done))))))))))))))))))))))) ?_
  repeat' first|refine Kf ?_|intro _|constructor
  rw [hn111]
  repeat' first|refine Kf ?_|intro _|constructor
  refine Zaf (.cl bg [.slice sp 3 sc,.int .i64 3,.slice dp D.length dc] 29::As) [] (.take 0 (.take 1 (.take 2 (.take 3 (.take 4 (.take 5 (.take 6 (.take 7 (.take 8 (.take 9 (.all [(10,.done)]))))))))))) ?_
  repeat' first|refine Kf ?_|intro _|constructor
  refine TT.take rfl rfl rfl (Zap (b:=bt) (off:=15) (hi:=3) rfl Zbc (by decide) (by decide)) ?_
  repeat' first|refine Kf ?_|intro _|constructor
  refine TT.take rfl rfl rfl (Zan (c:=cI .i64) (xs:=D) (lo:=n111) (hi:=n111+3) rfl (Za3 rfl) (Za6 rfl) (by omega) (by omega)) ?_
  repeat' first|refine Kf ?_|intro _|constructor
  refine Zc2 rfl rfl rfl (Zau (c:=cI .i64) (b:=bt) (off:=15) (ys:=[(f ⟨(i+1),(j+1),(k+1)⟩).x,(f ⟨(i+1),(j+1),(k+1)⟩).y,(f ⟨(i+1),(j+1),(k+1)⟩).z]) (hr:=sub111 _) (l':=[.int .i64 (i:Int),.int .i64 (j:Int),.int .i64 (k:Int),.int .i64 1,.int .i64 0,.int .i64 2,.int .i64 (f ⟨i,j,k⟩).x,.int .i64 (f ⟨i,j,k⟩).y,.int .i64 (f ⟨i,j,k⟩).z,.int .i64 (f ⟨i,(j+1),k⟩).x,.int .i64 (f ⟨i,(j+1),k⟩).y,.int .i64 (f ⟨i,(j+1),k⟩).z,.int .i64 (f ⟨(i+1),(j+1),k⟩).x,.int .i64 (f ⟨(i+1),(j+1),k⟩).y,.int .i64 (f ⟨(i+1),(j+1),k⟩).z,.int .i64 (f ⟨(i+1),(j+1),(k+1)⟩).x,.int .i64 (f ⟨(i+1),(j+1),(k+1)⟩).y,.int .i64 (f ⟨(i+1),(j+1),(k+1)⟩).z]) rfl rfl rfl (List.cons_ne_nil _ _) (Nat.le_refl _) (Nat.le_of_ble_eq_true rfl) rfl) ?_
  rintro _ _ ⟨rfl,rfl⟩
  repeat' first|refine Kf ?_|intro _|constructor
  exact Kv
 ·show Tri _ _ _ _ (env0 0 [.agg #[.slice sp 3 sc,.int .i64 3,.slice dp D.length dc],.agg #[.int .i64 (i:Int),.int .i64 (j:Int),.int .i64 (k:Int)],.agg #[.int .i64 1,.int .i64 2,.int .i64 0]]) _ _
  repeat' first|refine Kz ?_|intro _
  rename_i bg bi bo bu
  refine TL.f rfl rfl (ExF.build (vs:=[.agg #[.int .i64 (i:Int),.int .i64 (j:Int),.int .i64 (k:Int)],.agg #[.int .i64 1,.int .i64 2,.int .i64 0]]) (l:=[.int .i64 (i:Int),.int .i64 (j:Int),.int .i64 (k:Int),.int .i64 1,.int .i64 2,.int .i64 0,.int .i64 0,.int .i64 0,.int .i64 0,.int .i64 0,.int .i64 0,.int .i64 0,.int .i64 0,.int .i64 0,.int .i64 0,.int .i64 0,.int .i64 0,.int .i64 0]) rfl (fun w=>by kernel_rfl)) ?_
  repeat' first|refine Kz ?_|intro _
  rename_i bt bp
  refine Zah 5 ?_
  repeat' first|refine Kz ?_|intro _
  refine Zai (.take 0 (.take 1 (.take 2 (.take 3 (.take 4 (.take 5 (.take 6 (.take 7 (.take 8 (.take 9 (.take 10 (.take 11 (.take 12 (.take 13 (.take 14 (.take 15 (.take 16 (.take 17 (.take 18 (.take 19 (.take 20 (.take 21 (.done))))))))))))))))))))))) ?_
  repeat' first|refine Kf ?_|intro _|constructor
  rw [hn000]
  repeat' first|refine Kf ?_|intro _|constructor
  refine Zaf (.cl bg [.slice sp 3 sc,.int .i64 3,.slice dp D.length dc] 29::As) [] (.take 0 (.take 1 (.take 2 (.take 3 (.take 4 (.take 5 (.take 6 (.take 7 (.take 8 (.take 9 (.all [(10,.done)]))))))))))) ?_
  repeat' first|refine Kf ?_|intro _|constructor
  refine TT.take rfl rfl rfl (Zap (b:=bt) (off:=6) (hi:=3) rfl Zbc (by decide) (by decide)) ?_
  repeat' first|refine Kf ?_|intro _|constructor
  refine TT.take rfl rfl rfl (Zan (c:=cI .i64) (xs:=D) (lo:=n000) (hi:=n000+3) rfl (Za3 rfl) (Za6 rfl) (by omega) (by omega)) ?_
  repeat' first|refine Kf ?_|intro _|constructor
  refine Zc2 rfl rfl rfl (Zau (c:=cI .i64) (b:=bt) (off:=6) (ys:=[(f ⟨i,j,k⟩).x,(f ⟨i,j,k⟩).y,(f ⟨i,j,k⟩).z]) (hr:=sub000 _) (l':=[.int .i64 (i:Int),.int .i64 (j:Int),.int .i64 (k:Int),.int .i64 1,.int .i64 2,.int .i64 0,.int .i64 (f ⟨i,j,k⟩).x,.int .i64 (f ⟨i,j,k⟩).y,.int .i64 (f ⟨i,j,k⟩).z,.int .i64 0,.int .i64 0,.int .i64 0,.int .i64 0,.int .i64 0,.int .i64 0,.int .i64 0,.int .i64 0,.int .i64 0]) rfl rfl rfl (List.cons_ne_nil _ _) (Nat.le_refl _) (Nat.le_of_ble_eq_true rfl) rfl) ?_
  rintro _ _ ⟨rfl,rfl⟩
  repeat' first|refine Kf ?_|intro _|constructor
  refine Zai (.take 0 (.take 1 (.take 2 (.take 3 (.take 4 (.take 5 (.take 6 (.take 7 (.take 8 (.take 9 (.take 10 (.take 11 (.take 12 (.take 13 (.take 14 (.take 15 (.take 16 (.take 17 (.take 18 (.take 19 (.take 20 (.take 21 (.done))))))))))))))))))))))) ?_
  repeat' first|refine Kf ?_|intro _|constructor
  rw [hn010]
  repeat' first|refine Kf ?_|intro _|constructor
  refine Zaf (.cl bg [.slice sp 3 sc,.int .i64 3,.slice dp D.length dc] 29::As) [] (.take 0 (.take 1 (.take 2 (.take 3 (.take 4 (.take 5 (.take 6 (.take 7 (.take 8 (.take 9 (.all [(10,.done)]))))))))))) ?_
  repeat' first|refine Kf ?_|intro _|constructor
  refine TT.take rfl rfl rfl (Zap (b:=bt) (off:=9) (hi:=3) rfl Zbc (by decide) (by decide)) ?_
  repeat' first|refine Kf ?_|intro _|constructor
  refine TT.take rfl rfl rfl (Zan (c:=cI .i64) (xs:=D) (lo:=n010) (hi:=n010+3) rfl (Za3 rfl) (Za6 rfl) (by omega) (by omega)) ?_
  repeat' first|refine Kf ?_|intro _|constructor
  refine Zc2 rfl rfl rfl (Zau (c:=cI .i64) (b:=bt) (off:=9) (ys:=[(f ⟨i,(j+1),k⟩).x,(f ⟨i,(j+1),k⟩).y,(f ⟨i,(j+1),k⟩).z]) (hr:=sub010 _) (l':=[.int .i64 (i:Int),.int .i64 (j:Int),.int .i64 (k:Int),.int .i64 1,.int .i64 2,.int .i64 0,.int .i64 (f ⟨i,j,k⟩).x,.int .i64 (f ⟨i,j,k⟩).y,.int .i64 (f ⟨i,j,k⟩).z,.int .i64 (f ⟨i,(j+1),k⟩).x,.int .i64 (f ⟨i,(j+1),k⟩).y,.int .i64 (f ⟨i,(j+1),k⟩).z,.int .i64 0,.int .i64 0,.int .i64 0,.int .i64 0,.int .i64 0,.int .i64 0]) rfl rfl rfl (List.cons_ne_nil _ _) (Nat.le_refl _) (Nat.le_of_ble_eq_true rfl) rfl) ?_
  rintro _ _ ⟨rfl,rfl⟩
  repeat' first|refine Kf ?_|intro _|constructor
  refine Zai (.take 0 (.take 1 (.take 2 (.take 3 (.take 4 (.take 5 (.take 6 (.take 7 (.take 8 (.take 9 (.take 10 (.take 11 (.take 12 (.take 13 (.take 14 (.take 15 (.take 16 (.take 17 (.take 18 (.take 19 (.take 20 (.take 21 (.done))))))))))))))))))))))) ?_
  repeat' first|refine Kf ?_|intro _|constructor
  rw [hn011]
  repeat' first|refine Kf ?_|intro _|constructor
  refine Zaf (.cl bg [.slice sp 3 sc,.int .i64 3,.slice dp D.length dc] 29::As) [] (.take 0 (.take 1 (.take 2 (.take 3 (.take 4 (.take 5 (.take 6 (.take 7 (.take 8 (.take 9 (.all [(10,.done)]))))))))))) ?_
  repeat' first|refine Kf ?_|intro _|constructor
  refine TT.take rfl rfl rfl (Zap (b:=bt) (off:=12) (hi:=3) rfl Zbc (by decide) (by decide)) ?_
  repeat' first|refine Kf ?_|intro _|constructor
  refine TT.take rfl rfl rfl (Zan (c:=cI .i64) (xs:=D) (lo:=n011) (hi:=n011+3) rfl (Za3 rfl) (Za6 rfl) (by omega) (by omega)) ?_
  repeat' first|refine Kf ?_|intro _|constructor
  refine Zc2 rfl rfl rfl (Zau (c:=cI .i64) (b:=bt) (off:=12) (ys:=[(f ⟨i,(j+1),(k+1)⟩).x,(f ⟨i,(j+1),(k+1)⟩).y,(f ⟨i,(j+1),(k+1)⟩).z]) (hr:=sub011 _) (l':=[.int .i64 (i:Int),.int .i64 (j:Int),.int .i64 (k:Int),.int .i64 1,.int .i64 2,.int .i64 0,.int .i64 (f ⟨i,j,k⟩).x,.int .i64 (f ⟨i,j,k⟩).y,.int .i64 (f ⟨i,j,k⟩).z,.int .i64 (f ⟨i,(j+1),k⟩).x,.int .i64 (f ⟨i,(j+1),k⟩).y,.int .i64 (f ⟨i,(j+1),k⟩).z,.int .i64 (f ⟨i,(j+1),(k+1)⟩).x,.int .i64 (f ⟨i,(j+1),(k+1)⟩).y,.int .i64 (f ⟨i,(j+1),(k+1)⟩).z,.int .i64 0,.int .i64 0,.int .i64 0]) rfl rfl rfl (List.cons_ne_nil _ _) (Nat.le_refl _) (Nat.le_of_ble_eq_true rfl) rfl) ?_
  rintro _ _ ⟨rfl,rfl⟩
  repeat' first|refine Kf ?_|intro _|constructor
  refine Zai (.take 0 (.take 1 (.take 2 (.take 3 (.take 4 (.take 5 (.take 6 (.take 7 (.take 8 (.take 9 (.take 10 (.take 11 (.take 12 (.take 13 (.take 14 (.take 15 (.take 16 (.take 17 (.take 18 (.take 19 (.take 20 (.take 21 (.done))))))))))))))))))))))) ?_
  repeat' first|refine Kf ?_|intro _|constructor
  rw [hn111]
  repeat' first|refine Kf ?_|intro _|constructor
  refine Zaf (.cl bg [.slice sp 3 sc,.int .i64 3,.slice dp D.length dc] 29::As) [] (.take 0 (.take 1 (.take 2 (.take 3 (.take 4 (.take 5 (.take 6 (.take 7 (.take 8 (.take 9 (.all [(10,.done)]))))))))))) ?_
  repeat' first|refine Kf ?_|intro _|constructor
  refine TT.take rfl rfl rfl (Zap (b:=bt) (off:=15) (hi:=3) rfl Zbc (by decide) (by decide)) ?_
  repeat' first|refine Kf ?_|intro _|constructor
  refine TT.take rfl rfl rfl (Zan (c:=cI .i64) (xs:=D) (lo:=n111) (hi:=n111+3) rfl (Za3 rfl) (Za6 rfl) (by omega) (by omega)) ?_
  repeat' first|refine Kf ?_|intro _|constructor
  refine Zc2 rfl rfl rfl (Zau (c:=cI .i64) (b:=bt) (off:=15) (ys:=[(f ⟨(i+1),(j+1),(k+1)⟩).x,(f ⟨(i+1),(j+1),(k+1)⟩).y,(f ⟨(i+1),(j+1),(k+1)⟩).z]) (hr:=sub111 _) (l':=[.int .i64 (i:Int),.int .i64 (j:Int),.int .i64 (k:Int),.int .i64 1,.int .i64 2,.int .i64 0,.int .i64 (f ⟨i,j,k⟩).x,.int .i64 (f ⟨i,j,k⟩).y,.int .i64 (f ⟨i,j,k⟩).z,.int .i64 (f ⟨i,(j+1),k⟩).x,.int .i64 (f ⟨i,(j+1),k⟩).y,.int .i64 (f ⟨i,(j+1),k⟩).z,.int .i64 (f ⟨i,(j+1),(k+1)⟩).x,.int .i64 (f ⟨i,(j+1),(k+1)⟩).y,.int .i64 (f ⟨i,(j+1),(k+1)⟩).z,.int .i64 (f ⟨(i+1),(j+1),(k+1)⟩).x,.int .i64 (f ⟨(i+1),(j+1),(k+1)⟩).y,.int .i64 (f ⟨(i+1),(j+1),(k+1)⟩).z]) rfl rfl rfl (List.cons_ne_nil _ _) (Nat.le_refl _) (Nat.le_of_ble_eq_true rfl) rfl) ?_
  rintro _ _ ⟨rfl,rfl⟩
  repeat' first|refine Kf ?_|intro _|constructor
  exact Kv
 ·show Tri _ _ _ _ (env0 0 [.agg #[.slice sp 3 sc,.int .i64 3,.slice dp D.length dc],.agg #[.int .i64 (i:Int),.int .i64 (j:Int),.int .i64 (k:Int)],.agg #[.int .i64 2,.int .i64 0,.int .i64 1]]) _ _
  repeat' first|refine Kz ?_|intro _
  rename_i bg bi bo bu
  refine TL.f rfl rfl (ExF.build (vs:=[.agg #[.int .i64 (i:Int),.int .i64 (j:Int),.int .i64 (k:Int)],.agg #[.int .i64 2,.int .i64 0,.int .i64 1]]) (l:=[.int .i64 (i:Int),.int .i64 (j:Int),.int .i64 (k:Int),.int .i64 2,.int .i64 0,.int .i64 1,.int .i64 0,.int .i64 0,.int .i64 0,.int .i64 0,.int .i64 0,.int .i64 0,.int .i64 0,.int .i64 0,.int .i64 0,.int .i64 0,.int .i64 0,.int .i64 0]) rfl (fun w=>by kernel_rfl)) ?_
  repeat' first|refine Kz ?_|intro _
  rename_i bt bp
  refine Zah 5 ?_
  repeat' first|refine Kz ?_|intro _
  refine Zai (.take 0 (.take 1 (.take 2 (.take 3 (.take 4 (.take 5 (.take 6 (.take 7 (.take 8 (.take 9 (.take 10 (.take 11 (.take 12 (.take 13 (.take 14 (.take 15 (.take 16 (.take 17 (.take 18 (.take 19 (.take 20 (.take 21 (.done))))))))))))))))))))))) ?_
  repeat' first|refine Kf ?_|intro _|constructor
  rw [hn000]
  repeat' first|refine Kf ?_|intro _|constructor
  refine Zaf (.cl bg [.slice sp 3 sc,.int .i64 3,.slice dp D.length dc] 29::As) [] (.take 0 (.take 1 (.take 2 (.take 3 (.take 4 (.take 5 (.take 6 (.take 7 (.take 8 (.take 9 (.all [(10,.done)]))))))))))) ?_
  repeat' first|refine Kf ?_|intro _|constructor
  refine TT.take rfl rfl rfl (Zap (b:=bt) (off:=6) (hi:=3) rfl Zbc (by decide) (by decide)) ?_
  repeat' first|refine Kf ?_|intro _|constructor
  refine TT.take rfl rfl rfl (Zan (c:=cI .i64) (xs:=D) (lo:=n000) (hi:=n000+3) rfl (Za3 rfl) (Za6 rfl) (by omega) (by omega)) ?_
  repeat' first|refine Kf ?_|intro _|constructor
  refine Zc2 rfl rfl rfl (Zau (c:=cI .i64) (b:=bt) (off:=6) (ys:=[(f ⟨i,j,k⟩).x,(f ⟨i,j,k⟩).y,(f ⟨i,j,k⟩).z]) (hr:=sub000 _) (l':=[.int .i64 (i:Int),.int .i64 (j:Int),.int .i64 (k:Int),.int .i64 2,.int .i64 0,.int .i64 1,.int .i64 (f ⟨i,j,k⟩).x,.int .i64 (f ⟨i,j,k⟩).y,.int .i64 (f ⟨i,j,k⟩).z,.int .i64 0,.int .i64 0,.int .i64 0,.int .i64 0,.int .i64 0,.int .i64 0,.int .i64 0,.int .i64 0,.int .i64 0]) rfl rfl rfl (List.cons_ne_nil _ _) (Nat.le_refl _) (Nat.le_of_ble_eq_true rfl) rfl) ?_
  rintro _ _ ⟨rfl,rfl⟩
  repeat' first|refine Kf ?_|intro _|constructor
  refine Zai (.take 0 (.take 1 (.take 2 (.take 3 (.take 4 (.take 5 (.take 6 (.take 7 (.take 8 (.take 9 (.take 10 (.take 11 (.take 12 (.take 13 (.take 14 (.take 15 (.take 16 (.take 17 (.take 18 (.take 19 (.take 20 (.take 21 (.done))))))))))))))))))))))) ?_
  repeat' first|refine Kf ?_|intro _|constructor
  rw [hn001]
  repeat' first|refine Kf ?_|intro _|constructor
  refine Zaf (.cl bg [.slice sp 3 sc,.int .i64 3,.slice dp D.length dc] 29::As) [] (.take 0 (.take 1 (.take 2 (.take 3 (.take 4 (.take 5 (.take 6 (.take 7 (.take 8 (.take 9 (.all [(10,.done)]))))))))))) ?_
  repeat' first|refine Kf ?_|intro _|constructor
  refine TT.take rfl rfl rfl (Zap (b:=bt) (off:=9) (hi:=3) rfl Zbc (by decide) (by decide)) ?_
  repeat' first|refine Kf ?_|intro _|constructor
  refine TT.take rfl rfl rfl (Zan (c:=cI .i64) (xs:=D) (lo:=n001) (hi:=n001+3) rfl (Za3 rfl) (Za6 rfl) (by omega) (by omega)) ?_
  repeat' first|refine Kf ?_|intro _|constructor
  refine Zc2 rfl rfl rfl (Zau (c:=cI .i64) (b:=bt) (off:=9) (ys:=[(f ⟨i,j,(k+1)⟩).x,(f ⟨i,j,(k+1)⟩).y,(f ⟨i,j,(k+1)⟩).z]) (hr:=sub001 _) (l':=[.int .i64 (i:Int),.int .i64 (j:Int),.int .i64 (k:Int),.int .i64 2,.int .i64 0,.int .i64 1,.int .i64 (f ⟨i,j,k⟩).x,.int .i64 (f ⟨i,j,k⟩).y,.int .i64 (f ⟨i,j,k⟩).z,.int .i64 (f ⟨i,j,(k+1)⟩).x,.int .i64 (f ⟨i,j,(k+1)⟩).y,.int .i64 (f ⟨i,j,(k+1)⟩).z,.int .i64 0,.int .i64 0,.int .i64 0,.int .i64 0,.int .i64 0,.int .i64 0]) rfl rfl rfl (List.cons_ne_nil _ _) (Nat.le_refl _) (Nat.le_of_ble_eq_true rfl) rfl) ?_
  rintro _ _ ⟨rfl,rfl⟩
  repeat' first|refine Kf ?_|intro _|constructor
  refine Zai (.take 0 (.take 1 (.take 2 (.take 3 (.take 4 (.take 5 (.take 6 (.take 7 (.take 8 (.take 9 (.take 10 (.take 11 (.take 12 (.take 13 (.take 14 (.take 15 (.take 16 (.take 17 (.take 18 (.take 19 (.take 20 (.take 21 (.done))))))))))))))))))))))) ?_
  repeat' first|refine Kf ?_|intro _|constructor
  rw [hn101]
  repeat' first|refine Kf ?_|intro _|constructor
  refine Zaf (.cl bg [.slice sp 3 sc,.int .i64 3,.slice dp D.length dc] 29::As) [] (.take 0 (.take 1 (.take 2 (.take 3 (.take 4 (.take 5 (.take 6 (.take 7 (.take 8 (.take 9 (.all [(10,.done)]))))))))))) ?_
  repeat' first|refine Kf ?_|intro _|constructor
  refine TT.take rfl rfl rfl (Zap (b:=bt) (off:=12) (hi:=3) rfl Zbc (by decide) (by decide)) ?_
  repeat' first|refine Kf ?_|intro _|constructor
  refine TT.take rfl rfl rfl (Zan (c:=cI .i64) (xs:=D) (lo:=n101) (hi:=n101+3) rfl (Za3 rfl) (Za6 rfl) (by omega) (by omega)) ?_
  repeat' first|refine Kf ?_|intro _|constructor
  refine Zc2 rfl rfl rfl (Zau (c:=cI .i64) (b:=bt) (off:=12) (ys:=[(f ⟨(i+1),j,(k+1)⟩).x,(f ⟨(i+1),j,(k+1)⟩).y,(f ⟨(i+1),j,(k+1)⟩).z]) (hr:=sub101 _) (l':=[.int .i64 (i:Int),.int .i64 (j:Int),.int .i64 (k:Int),.int .i64 2,.int .i64 0,.int .i64 1,.int .i64 (f ⟨i,j,k⟩).x,.int .i64 (f ⟨i,j,k⟩).y,.int .i64 (f ⟨i,j,k⟩).z,.int .i64 (f ⟨i,j,(k+1)⟩).x,.int .i64 (f ⟨i,j,(k+1)⟩).y,.int .i64 (f ⟨i,j,(k+1)⟩).z,.int .i64 (f ⟨(i+1),j,(k+1)⟩).x,.int .i64 (f ⟨(i+1),j,(k+1)⟩).y,.int .i64 (f ⟨(i+1),j,(k+1)⟩).z,.int .i64 0,.int .i64 0,.int .i64 0]) rfl rfl rfl (List.cons_ne_nil _ _) (Nat.le_refl _) (Nat.le_of_ble_eq_true rfl) rfl) ?_
  rintro _ _ ⟨rfl,rfl⟩
  repeat' first|refine Kf ?_|intro _|constructor
  refine Zai (.take 0 (.take 1 (.take 2 (.take 3 (.take 4 (.take 5 (.take 6 (.take 7 (.take 8 (.take 9 (.take 10 (.take 11 (.take 12 (.take 13 (.take 14 (.take 15 (.take 16 (.take 17 (.take 18 (.take 19 (.take 20 (.take 21 (.done))))))))))))))))))))))) ?_
  repeat' first|refine Kf ?_|intro _|constructor
  rw [hn111]
  repeat' first|refine Kf ?_|intro _|constructor
  refine Zaf (.cl bg [.slice sp 3 sc,.int .i64 3,.slice dp D.length dc] 29::As) [] (.take 0 (.take 1 (.take 2 (.take 3 (.take 4 (.take 5 (.take 6 (.take 7 (.take 8 (.take 9 (.all [(10,.done)]))))))))))) ?_
  repeat' first|refine Kf ?_|intro _|constructor
  refine TT.take rfl rfl rfl (Zap (b:=bt) (off:=15) (hi:=3) rfl Zbc (by decide) (by decide)) ?_
  repeat' first|refine Kf ?_|intro _|constructor
  refine TT.take rfl rfl rfl (Zan (c:=cI .i64) (xs:=D) (lo:=n111) (hi:=n111+3) rfl (Za3 rfl) (Za6 rfl) (by omega) (by omega)) ?_
  repeat' first|refine Kf ?_|intro _|constructor
  refine Zc2 rfl rfl rfl (Zau (c:=cI .i64) (b:=bt) (off:=15) (ys:=[(f ⟨(i+1),(j+1),(k+1)⟩).x,(f ⟨(i+1),(j+1),(k+1)⟩).y,(f ⟨(i+1),(j+1),(k+1)⟩).z]) (hr:=sub111 _) (l':=[.int .i64 (i:Int),.int .i64 (j:Int),.int .i64 (k:Int),.int .i64 2,.int .i64 0,.int .i64 1,.int .i64 (f ⟨i,j,k⟩).x,.int .i64 (f ⟨i,j,k⟩).y,.int .i64 (f ⟨i,j,k⟩).z,.int .i64 (f ⟨i,j,(k+1)⟩).x,.int .i64 (f ⟨i,j,(k+1)⟩).y,.int .i64 (f ⟨i,j,(k+1)⟩).z,.int .i64 (f ⟨(i+1),j,(k+1)⟩).x,.int .i64 (f ⟨(i+1),j,(k+1)⟩).y,.int .i64 (f ⟨(i+1),j,(k+1)⟩).z,.int .i64 (f ⟨(i+1),(j+1),(k+1)⟩).x,.int .i64 (f ⟨(i+1),(j+1),(k+1)⟩).y,.int .i64 (f ⟨(i+1),(j+1),(k+1)⟩).z]) rfl rfl rfl (List.cons_ne_nil _ _) (Nat.le_refl _) (Nat.le_of_ble_eq_true rfl) rfl) ?_
  rintro _ _ ⟨rfl,rfl⟩
  repeat' first|refine Kf ?_|intro _|constructor
  exact Kv
 ·show Tri _ _ _ _ (env0 0 [.agg #[.slice sp 3 sc,.int .i64 3,.slice dp D.length dc],.agg #[.int .i64 (i:Int),.int .i64 (j:Int),.int .i64 (k:Int)],.agg #[.int .i64 2,.int .i64 1,.int .i64 0]]) _ _
  repeat' first|refine Kz ?_|intro _
  rename_i bg bi bo bu
  refine TL.f rfl rfl (ExF.build (vs:=[.agg #[.int .i64 (i:Int),.int .i64 (j:Int),.int .i64 (k:Int)],.agg #[.int .i64 2,.int .i64 1,.int .i64 0]]) (l:=[.int .i64 (i:Int),.int .i64 (j:Int),.int .i64 (k:Int),.int .i64 2,.int .i64 1,.int .i64 0,.int .i64 0,.int .i64 0,.int .i64 0,.int .i64 0,.int .i64 0,.int .i64 0,.int .i64 0,.int .i64 0,.int .i64 0,.int .i64 0,.int .i64 0,.int .i64 0]) rfl (fun w=>by kernel_rfl)) ?_
  repeat' first|refine Kz ?_|intro _
  rename_i bt bp
  refine Zah 5 ?_
  repeat' first|refine Kz ?_|intro _
  refine Zai (.take 0 (.take 1 (.take 2 (.take 3 (.take 4 (.take 5 (.take 6 (.take 7 (.take 8 (.take 9 (.take 10 (.take 11 (.take 12 (.take 13 (.take 14 (.take 15 (.take 16 (.take 17 (.take 18 (.take 19 (.take 20 (.take 21 (.done))))))))))))))))))))))) ?_
  repeat' first|refine Kf ?_|intro _|constructor
  rw [hn000]
  repeat' first|refine Kf ?_|intro _|constructor
  refine Zaf (.cl bg [.slice sp 3 sc,.int .i64 3,.slice dp D.length dc] 29::As) [] (.take 0 (.take 1 (.take 2 (.take 3 (.take 4 (.take 5 (.take 6 (.take 7 (.take 8 (.take 9 (.all [(10,.done)]))))))))))) ?_
  repeat' first|refine Kf ?_|intro _|constructor
  refine TT.take rfl rfl rfl (Zap (b:=bt) (off:=6) (hi:=3) rfl Zbc (by decide) (by decide)) ?_
  repeat' first|refine Kf ?_|intro _|constructor
  refine TT.take rfl rfl rfl (Zan (c:=cI .i64) (xs:=D) (lo:=n000) (hi:=n000+3) rfl (Za3 rfl) (Za6 rfl) (by omega) (by omega)) ?_
  repeat' first|refine Kf ?_|intro _|constructor
  refine Zc2 rfl rfl rfl (Zau (c:=cI .i64) (b:=bt) (off:=6) (ys:=[(f ⟨i,j,k⟩).x,(f ⟨i,j,k⟩).y,(f ⟨i,j,k⟩).z]) (hr:=sub000 _) (l':=[.int .i64 (i:Int),.int .i64 (j:Int),.int .i64 (k:Int),.int .i64 2,.int .i64 1,.int .i64 0,.int .i64 (f ⟨i,j,k⟩).x,.int .i64 (f ⟨i,j,k⟩).y,.int .i64 (f ⟨i,j,k⟩).z,.int .i64 0,.int .i64 0,.int .i64 0,.int .i64 0,.int .i64 0,.int .i64 0,.int .i64 0,.int .i64 0,.int .i64 0]) rfl rfl rfl (List.cons_ne_nil _ _) (Nat.le_refl _) (Nat.le_of_ble_eq_true rfl) rfl) ?_
  rintro _ _ ⟨rfl,rfl⟩
  repeat' first|refine Kf ?_|intro _|constructor
  refine Zai (.take 0 (.take 1 (.take 2 (.take 3 (.take 4 (.take 5 (.take 6 (.take 7 (.take 8 (.take 9 (.take 10 (.take 11 (.take 12 (.take 13 (.take 14 (.take 15 (.take 16 (.take 17 (.take 18 (.take 19 (.take 20 (.take 21 (.done))))))))))))))))))))))) ?_
  repeat' first|refine Kf ?_|intro _|constructor
  rw [hn001]
  repeat' first|refine Kf ?_|intro _|constructor
  refine Zaf (.cl bg [.slice sp 3 sc,.int .i64 3,.slice dp D.length dc] 29::As) [] (.take 0 (.take 1 (.take 2 (.take 3 (.take 4 (.take 5 (.take 6 (.take 7 (.take 8 (.take 9 (.all [(10,.done)]))))))))))) ?_
  repeat' first|refine Kf ?_|intro _|constructor
  refine TT.take rfl rfl rfl (Zap (b:=bt) (off:=9) (hi:=3) rfl Zbc (by decide) (by decide)) ?_
  repeat' first|refine Kf ?_|intro _|constructor
  refine TT.take rfl rfl rfl (Zan (c:=cI .i64) (xs:=D) (lo:=n001) (hi:=n001+3) rfl (Za3 rfl) (Za6 rfl) (by omega) (by omega)) ?_
  repeat' first|refine Kf ?_|intro _|constructor
  refine Zc2 rfl rfl rfl (Zau (c:=cI .i64) (b:=bt) (off:=9) (ys:=[(f ⟨i,j,(k+1)⟩).x,(f ⟨i,j,(k+1)⟩).y,(f ⟨i,j,(k+1)⟩).z]) (hr:=sub001 _) (l':=[.int .i64 (i:Int),.int .i64 (j:Int),.int .i64 (k:Int),.int .i64 2,.int .i64 1,.int .i64 0,.int .i64 (f ⟨i,j,k⟩).x,.int .i64 (f ⟨i,j,k⟩).y,.int .i64 (f ⟨i,j,k⟩).z,.int .i64 (f ⟨i,j,(k+1)⟩).x,.int .i64 (f ⟨i,j,(k+1)⟩).y,.int .i64 (f ⟨i,j,(k+1)⟩).z,.int .i64 0,.int .i64 0,.int .i64 0,.int .i64 0,.int .i64 0,.int .i64 0]) rfl rfl rfl (List.cons_ne_nil _ _) (Nat.le_refl _) (Nat.le_of_ble_eq_true rfl) rfl) ?_
  rintro _ _ ⟨rfl,rfl⟩
  repeat' first|refine Kf ?_|intro _|constructor
  refine Zai (.take 0 (.take 1 (.take 2 (.take 3 (.take 4 (.take 5 (.take 6 (.take 7 (.take 8 (.take 9 (.take 10 (.take 11 (.take 12 (.take 13 (.take 14 (.take 15 (.take 16 (.take 17 (.take 18 (.take 19 (.take 20 (.take 21 (.done))))))))))))))))))))))) ?_
  repeat' first|refine Kf ?_|intro _|constructor
  rw [hn011]
  repeat' first|refine Kf ?_|intro _|constructor
  refine Zaf (.cl bg [.slice sp 3 sc,.int .i64 3,.slice dp D.length dc] 29::As) [] (.take 0 (.take 1 (.take 2 (.take 3 (.take 4 (.take 5 (.take 6 (.take 7 (.take 8 (.take 9 (.all [(10,.done)]))))))))))) ?_
  repeat' first|refine Kf ?_|intro _|constructor
  refine TT.take rfl rfl rfl (Zap (b:=bt) (off:=12) (hi:=3) rfl Zbc (by decide) (by decide)) ?_
  repeat' first|refine Kf ?_|intro _|constructor
  refine TT.take rfl rfl rfl (Zan (c:=cI .i64) (xs:=D) (lo:=n011) (hi:=n011+3) rfl (Za3 rfl) (Za6 rfl) (by omega) (by omega)) ?_
  repeat' first|refine Kf ?_|intro _|constructor
  refine Zc2 rfl rfl rfl (Zau (c:=cI .i64) (b:=bt) (off:=12) (ys:=[(f ⟨i,(j+1),(k+1)⟩).x,(f ⟨i,(j+1),(k+1)⟩).y,(f ⟨i,(j+1),(k+1)⟩).z]) (hr:=sub011 _) (l':=[.int .i64 (i:Int),.int .i64 (j:Int),.int .i64 (k:Int),.int .i64 2,.int .i64 1,.int .i64 0,.int .i64 (f ⟨i,j,k⟩).x,.int .i64 (f ⟨i,j,k⟩).y,.int .i64 (f ⟨i,j,k⟩).z,.int .i64 (f ⟨i,j,(k+1)⟩).x,.int .i64 (f ⟨i,j,(k+1)⟩).y,.int .i64 (f ⟨i,j,(k+1)⟩).z,.int .i64 (f ⟨i,(j+1),(k+1)⟩).x,.int .i64 (f ⟨i,(j+1),(k+1)⟩).y,.int .i64 (f ⟨i,(j+1),(k+1)⟩).z,.int .i64 0,.int .i64 0,.int .i64 0]) rfl rfl rfl (List.cons_ne_nil _ _) (Nat.le_refl _) (Nat.le_of_ble_eq_true rfl) rfl) ?_
  rintro _ _ ⟨rfl,rfl⟩
  repeat' first|refine Kf ?_|intro _|constructor
  refine Zai (.take 0 (.take 1 (.take 2 (.take 3 (.take 4 (.take 5 (.take 6 (.take 7 (.take 8 (.take 9 (.take 10 (.take 11 (.take 12 (.take 13 (.take 14 (.take 15 (.take 16 (.take 17 (.take 18 (.take 19 (.take 20 (.take 21 (.done))))))))))))))))))))))) ?_
  repeat' first|refine Kf ?_|intro _|constructor
  rw [hn111]
  repeat' first|refine Kf ?_|intro _|constructor
  refine Zaf (.cl bg [.slice sp 3 sc,.int .i64 3,.slice dp D.length dc] 29::As) [] (.take 0 (.take 1 (.take 2 (.take 3 (.take 4 (.take 5 (.take 6 (.take 7 (.take 8 (.take 9 (.all [(10,.done)]))))))))))) ?_
  repeat' first|refine Kf ?_|intro _|constructor
  refine TT.take rfl rfl rfl (Zap (b:=bt) (off:=15) (hi:=3) rfl Zbc (by decide) (by decide)) ?_
  repeat' first|refine Kf ?_|intro _|constructor
  refine TT.take rfl rfl rfl (Zan (c:=cI .i64) (xs:=D) (lo:=n111) (hi:=n111+3) rfl (Za3 rfl) (Za6 rfl) (by omega) (by omega)) ?_
  repeat' first|refine Kf ?_|intro _|constructor
  refine Zc2 rfl rfl rfl (Zau (c:=cI .i64) (b:=bt) (off:=15) (ys:=[(f ⟨(i+1),(j+1),(k+1)⟩).x,(f ⟨(i+1),(j+1),(k+1)⟩).y,(f ⟨(i+1),(j+1),(k+1)⟩).z]) (hr:=sub111 _) (l':=[.int .i64 (i:Int),.int .i64 (j:Int),.int .i64 (k:Int),.int .i64 2,.int .i64 1,.int .i64 0,.int .i64 (f ⟨i,j,k⟩).x,.int .i64 (f ⟨i,j,k⟩).y,.int .i64 (f ⟨i,j,k⟩).z,.int .i64 (f ⟨i,j,(k+1)⟩).x,.int .i64 (f ⟨i,j,(k+1)⟩).y,.int .i64 (f ⟨i,j,(k+1)⟩).z,.int .i64 (f ⟨i,(j+1),(k+1)⟩).x,.int .i64 (f ⟨i,(j+1),(k+1)⟩).y,.int .i64 (f ⟨i,(j+1),(k+1)⟩).z,.int .i64 (f ⟨(i+1),(j+1),(k+1)⟩).x,.int .i64 (f ⟨(i+1),(j+1),(k+1)⟩).y,.int .i64 (f ⟨(i+1),(j+1),(k+1)⟩).z]) rfl rfl rfl (List.cons_ne_nil _ _) (Nat.le_refl _) (Nat.le_of_ble_eq_true rfl) rfl) ?_
  rintro _ _ ⟨rfl,rfl⟩
  repeat' first|refine Kf ?_|intro _|constructor
  exact Kv
end Go.Proofs.YtbfgldlfciimiaaGreatDoor
