/- Walks: locate: the tetrahedra, in turn. -/
import Derived.Test.YtbfgldlfciimiaaGreatDoorTw3
set_option maxHeartbeats 1000000
namespace Go.Sx
open Go
section
variable {P:Program} {N:Ctx} {w0:World} {e:Env} {As:List Ent} {ty:TypeId} {α:Type} {c:Cod α}
theorem Zsk {t:TypeId} {ud:TypeDesc} {z':Value} {b' g m:Nat} {y':α} {vs:List Value} [UL P t ud] [TI P t z' c.n b'] (hag:aggB ud=true) [hr:RdIn As (.slice (some ⟨g,0,none⟩) 1 m) α c [y']] (hv:c.enc y'=vs):ExF P N w0 (.load t (.global g)) ty e As (.agg vs.toArray):=by
 unfold ExF
 intro a w ha hs d pos af gg
 subst hv
 obtain ⟨b,off,l,T,fr,h1,h2,h3,h4⟩:=(hr.get w0 w hs).cells (i:=0) rfl
 have h1':=h1 0
 simp only [elp,Nat.zero_mul,Nat.add_zero,Addr.mk.injEq,and_true] at h1'
 obtain ⟨rfl,rfl⟩:=h1'
 have:=Zfj (P:=P) (w:=w) (b:=g) (off:=0) (n:=c.n) h2 (by omega)
 rw [h4] at this
 simp [execOp,Act.eval,Instr.loadAt,Instr.sureAddr,loadVar,Zdj,hag,Zbb,this]
end
def ordsL:List Value:=[.int .i64 0,.int .i64 1,.int .i64 2,.int .i64 0,.int .i64 2,.int .i64 1,.int .i64 1,.int .i64 0,.int .i64 2,.int .i64 1,.int .i64 2,.int .i64 0,.int .i64 2,.int .i64 0,.int .i64 1,.int .i64 2,.int .i64 1,.int .i64 0]
def cOrd:Cod Unit:=⟨18,fun _=>ordsL,fun _=>rfl,fun _ v hv=>by
 simp only [ordsL,List.mem_cons,List.not_mem_nil,or_false] at hv
 rcases hv with rfl|rfl|rfl|rfl|rfl|rfl|rfl|rfl|rfl|rfl|rfl|rfl|rfl|rfl|rfl|rfl|rfl|rfl<;>rfl⟩
theorem Z7r {m:Nat} (h:m < 6):(ordsL.drop (m * 3)).take 3=[.int .i64 (ordL m 0:Nat),.int .i64 (ordL m 1:Nat),.int .i64 (ordL m 2:Nat)]:=by
 have h6:m=0∨m=1∨m=2∨m=3∨m=4∨m=5:=by omega
 rcases h6 with rfl|rfl|rfl|rfl|rfl|rfl<;>rfl
end Go.Sx
namespace Go.Proofs.YtbfgldlfciimiaaGreatDoor
open Go Go.Sx
variable {w0:World} {As:List Ent}
def ordsV:Value:=.slice (some ⟨0,0,none⟩) 1 1
set_option maxRecDepth 100000 in
set_option maxHeartbeats 4000000 in
theorem Z3p {l b0:Nat} {L:Loop} {Y:List Ent} {I:Nat→Nat→Nat→Nat→Prop} {R:List Ent→Prop} {sv dv:Value} {a b c:Nat} {D:List Int} {f:V3→V3} [hs:RdIn As sv Int (cI .i64) [(a:Int),(b:Int),(c:Int)]] [hd:RdIn As dv Int (cI .i64) D] [ho:RdIn As ordsV Unit cOrd [()]] (hf:NodesAt a b c D f) (ha5:a≤5) (hb4:b≤4) (hc4:c≤4) (ha2:2≤a) (hb2:2≤b) (hc2:2≤c) (hL:L.params.size=2)
  (h0:I 0 0 0 0) (h1:∀ i j k,I i j k 6→I i j (k+1) 0) (h2:∀ i j,I i j (c - 1) 0→I i (j+1) 0 0) (h3:∀ i,I i (b - 1) 0 0→I (i+1) 0 0 0)
  (hy:∀ i j k m n:Nat,i+1 < a→j+1 < b→k+1 < c→m < 6→n≤1000000→I i j k m→∀ b8 cs T F,F=.cl b8 cs T::.cl b0 [sv,.int .i64 3,dv] 29::As→YieldS Tryz.prog w0 l L [.int .i64 (n:Int),tetV ⟨i,j,k⟩ ⟨ordL m 0,ordL m 1,ordL m 2⟩ (f (crn ⟨i,j,k⟩ m 0)) (f (crn ⟨i,j,k⟩ m 1)) (f (crn ⟨i,j,k⟩ m 2)) (f (crn ⟨i,j,k⟩ m 3))] (.ob l (.loop L)::(Y++F)) fun v Bs=>(v=.bool true∧I i j k (m+1)∧Bs=.ob l (.loop L)::(Y++F))∨(v=.bool false∧∃ Z,R Z∧Bs=Z++F)) :
  CallsS Tryz.prog w0 63 [.func (.yield l) #[] #[],.pointer (some ⟨b0,0,none⟩)] (.ob l (.loop L)::(Y++(.cl b0 [sv,.int .i64 3,dv] 29::As)))
   fun _ Bs=>(I (a - 1) 0 0 0∧Bs=.ob l (.loop L)::(Y++(.cl b0 [sv,.int .i64 3,dv] 29::As)))∨∃ Z,R Z∧Bs=Z++(.cl b0 [sv,.int .i64 3,dv] 29::As):=by
 refine CallsS.ents (Ents.perm (List.Perm.cons _ (List.perm_append_comm (l₁:=Y) (l₂:=.cl b0 [sv,.int .i64 3,dv] 29::As)))) ?_
 have back:∀ (v:Value) (Bs:List Ent),(I (a - 1) 0 0 0∧Bs=.ob l (.loop L)::(.cl b0 [sv,.int .i64 3,dv] 29::(As++Y)))→∃ Cs,((I (a - 1) 0 0 0∧Cs=.ob l (.loop L)::(Y++(.cl b0 [sv,.int .i64 3,dv] 29::As)))∨∃ Z,R Z∧Cs=Z++(.cl b0 [sv,.int .i64 3,dv] 29::As))∧Ents Bs Cs:=fun v Bs ⟨h,e⟩=>by
  subst e
  exact ⟨_,.inl ⟨h,rfl⟩,Ents.perm (List.Perm.cons _ (show ((Ent.cl b0 [sv,.int .i64 3,dv] 29::As)++Y).Perm _ from List.perm_append_comm))⟩
 have hyk:∀ i j k m n:Nat,i+1 < a→j+1 < b→k+1 < c→m < 6→n≤1000000→I i j k m→∀ b8 cs T,YieldS Tryz.prog w0 l L [.int .i64 (n:Int),tetV ⟨i,j,k⟩ ⟨ordL m 0,ordL m 1,ordL m 2⟩ (f (crn ⟨i,j,k⟩ m 0)) (f (crn ⟨i,j,k⟩ m 1)) (f (crn ⟨i,j,k⟩ m 2)) (f (crn ⟨i,j,k⟩ m 3))] (.cl b8 cs T::.ob l (.loop L)::.cl b0 [sv,.int .i64 3,dv] 29::(As++Y)) fun v Bs =>
   (v=.bool true∧I i j k (m+1)∧Bs=.cl b8 cs T::.ob l (.loop L)::.cl b0 [sv,.int .i64 3,dv] 29::(As++Y))∨(v=.bool false∧∃ Z,R Z∧Bs=.cl b8 cs T::(Z++(.cl b0 [sv,.int .i64 3,dv] 29::As))):=by
  intro i j k m n hi hj hk hm hn hI b8 cs T
  have pm:(Ent.cl b8 cs T::.ob l (.loop L)::.cl b0 [sv,.int .i64 3,dv] 29::(As++Y)).Perm (.ob l (.loop L)::(Y++(.cl b8 cs T::.cl b0 [sv,.int .i64 3,dv] 29::As))) :=
   (List.Perm.swap _ _ _).trans (List.Perm.cons _ (show ((Ent.cl b8 cs T::.cl b0 [sv,.int .i64 3,dv] 29::As)++Y).Perm _ from List.perm_append_comm))
  refine Zht (hy i j k m n hi hj hk hm hn hI b8 cs T _ rfl) (Ents.perm pm) ?_
  rintro v A (⟨rfl,g1,rfl⟩|⟨rfl,Z,g1,rfl⟩)
  ·exact ⟨_,.inl ⟨rfl,g1,rfl⟩,Ents.perm pm.symm⟩
  ·exact ⟨_,.inr ⟨rfl,Z,g1,rfl⟩,Ents.perm List.perm_middle⟩
 clear hy
 obtain ⟨SL,hSL⟩:∃ SL:List Int,SL=[(a:Int),(b:Int),(c:Int)]:=⟨_,rfl⟩
 have s0:SL[0]?=some (a:Int):=by rw [hSL];rfl
 have s1:SL[1]?=some (b:Int):=by rw [hSL];rfl
 have s2:SL[2]?=some (c:Int):=by rw [hSL];rfl
 have ql:SL.length=3:=by rw [hSL];rfl
 rw [← hSL] at hs
 refine Zab Tryz.func63 rfl Tryz.ntmps63 rfl ?_
 show Tri _ _ _ _ _ (.ob l (.loop L)::.cl b0 [sv,.int .i64 3,dv] 29::(As++Y)) _
 repeat' first|refine Kz ?_|intro _
 refine Tri.loop (ι:=Nat × Nat) (fun s=>s.1+1≤a∧I s.1 0 0 0∧s.2≤54 * s.1) (fun s=>a - s.1)
  (fun s=>[(0,.func (.yield l) #[] #[]),(1,.pointer (some ⟨b0,0,none⟩)),(3,.int .i64 (s.2:Nat)),(13,.int .i64 ((a - 1:Nat):Int)),(14,.int .i64 (s.1:Nat))]) (fun _=>.ob l (.loop L)::.cl b0 [sv,.int .i64 3,dv] 29::(As++Y)) (0,0) ⟨by omega,h0,by omega⟩ Zad Zaa ?_
 rintro ⟨i,n⟩ ⟨hi,hI,hn⟩
 simp only at hi hI hn
 repeat' first|refine Kz ?_|intro _
 (refine Kx (fun hc=>?_) fun hc=>?_)
 ·repeat' first|refine Kz ?_|intro _
  refine Tri.loop (ι:=Nat × Nat) (fun s=>s.1+1≤b∧I i s.1 0 0∧s.2≤54 * i+18 * s.1) (fun s=>b - s.1)
   (fun s=>[(0,.func (.yield l) #[] #[]),(1,.pointer (some ⟨b0,0,none⟩)),(3,.int .i64 (s.2:Nat)),(13,.int .i64 ((a - 1:Nat):Int)),(14,.int .i64 (i:Nat)),(4,.int .i64 (i:Nat)),(21,.int .i64 ((b - 1:Nat):Int)),(22,.int .i64 (s.1:Nat))]) (fun _=>.ob l (.loop L)::.cl b0 [sv,.int .i64 3,dv] 29::(As++Y)) (0,n) ⟨by omega,hI,by simp only;omega⟩ Zad Zaa ?_
  rintro ⟨j,n1⟩ ⟨hj,hI1,hn1⟩
  simp only at hj hI1 hn1
  repeat' first|refine Kz ?_|intro _
  (refine Kx (fun hc=>?_) fun hc=>?_)
  ·repeat' first|refine Kz ?_|intro _
   refine Tri.loop (ι:=Nat × Nat) (fun s=>s.1+1≤c∧I i j s.1 0∧s.2≤54 * i+18 * j+6 * s.1) (fun s=>c - s.1)
    (fun s=>[(0,.func (.yield l) #[] #[]),(1,.pointer (some ⟨b0,0,none⟩)),(3,.int .i64 (s.2:Nat)),(13,.int .i64 ((a - 1:Nat):Int)),(14,.int .i64 (i:Nat)),(4,.int .i64 (i:Nat)),(21,.int .i64 ((b - 1:Nat):Int)),(22,.int .i64 (j:Nat)),(5,.int .i64 (j:Nat)),(29,.int .i64 ((c - 1:Nat):Int)),(30,.int .i64 (s.1:Nat))]) (fun _=>.ob l (.loop L)::.cl b0 [sv,.int .i64 3,dv] 29::(As++Y)) (0,n1) ⟨by omega,hI1,by simp only;omega⟩ Zad Zaa ?_
   rintro ⟨k,n2⟩ ⟨hk,hI2,hn2⟩
   simp only at hk hI2 hn2
   repeat' first|refine Kz ?_|intro _
   (refine Kx (fun hc=>?_) fun hc=>?_)
   ·repeat' first|refine Kz ?_|intro _
    refine TL.f rfl rfl (Zsk (c:=cOrd) (y':=()) (m:=1) (vs:=ordsL) (hr:=(inferInstance:RdIn _ ordsV Unit cOrd [()])) rfl rfl) ?_
    repeat' first|refine Kz ?_|intro _
    refine Tri.loop (ι:=Nat × Nat) (fun s=>s.1≤6∧I i j k s.1∧s.2≤54 * i+18 * j+6 * k+s.1) (fun s=>6 - s.1)
     (fun s=>[(0,.func (.yield l) #[] #[]),(1,.pointer (some ⟨b0,0,none⟩)),(3,.int .i64 (s.2:Nat)),(13,.int .i64 ((a - 1:Nat):Int)),(14,.int .i64 (i:Nat)),(4,.int .i64 (i:Nat)),(21,.int .i64 ((b - 1:Nat):Int)),(22,.int .i64 (j:Nat)),(5,.int .i64 (j:Nat)),(29,.int .i64 ((c - 1:Nat):Int)),(30,.int .i64 (k:Nat)),(6,.int .i64 (k:Nat)),(33,.agg ordsL.toArray),(34,.int .i64 (s.1:Nat))]) (fun _=>.ob l (.loop L)::.cl b0 [sv,.int .i64 3,dv] 29::(As++Y)) (0,n2) ⟨by omega,hI2,by simp only;omega⟩ Zad Zaa ?_
    rintro ⟨m,n3⟩ ⟨hm,hI3,hn3⟩
    simp only at hm hI3 hn3
    repeat' first|refine Kz ?_|intro _
    (refine Kx (fun hc=>?_) fun hc=>?_)
    ·repeat' first|refine Kz ?_|intro _
     refine TL.f rfl rfl (Zhw rfl (l:=ordsL) (vs:=[.int .i64 (ordL m 0:Nat),.int .i64 (ordL m 1:Nat),.int .i64 (ordL m 2:Nat)]) rfl rfl (by rw [Nat.blt_eq];omega) (Z7r (by omega))) ?_
     repeat' first|refine Kz ?_|intro _
     rename_i b8
     refine Ks rfl (Z3m (sv:=sv) (dv:=dv) (hs:=by rw [← hSL];infer_instance) hf ha5 hb4 hc4 (i:=i) (j:=j) (k:=k) (m:=m) (by omega) (by omega) (by omega) (by omega)) ?_
     repeat' first|refine Kz ?_|intro _
     refine TL.yield rfl rfl rfl rfl hL.symm (hyk i j k m n3 (by omega) (by omega) (by omega) (by omega) (by omega) hI3 _ _ _) ?_
     rintro v Bs (⟨rfl,hI4,rfl⟩|⟨rfl,Z,hZ,rfl⟩)
     ·repeat' first|refine Kz ?_|intro _
      exact Post.round (m+1,n3+1) ⟨by simp only;omega,hI4,by simp only;omega⟩ (by simp only;omega) Zad Zaa
     ·repeat' first|refine Kz ?_|intro _
      (refine Zac ?_)
      exact ⟨_,.inr ⟨_,hZ,rfl⟩,Zbv⟩
    ·have e6:m=6:=by omega
     subst e6
     repeat' first|refine Kz ?_|intro _
     exact Post.round (k+1,n3) ⟨by simp only;omega,h1 _ _ _ hI3,by simp only;omega⟩ (by simp only;omega) Zad Zaa
   ·have ek:k=c - 1:=by omega
    subst ek
    repeat' first|refine Kz ?_|intro _
    exact Post.round (j+1,n2) ⟨by simp only;omega,h2 _ _ hI2,by simp only;omega⟩ (by simp only;omega) Zad Zaa
  ·have ej:j=b - 1:=by omega
   subst ej
   repeat' first|refine Kz ?_|intro _
   exact Post.round (i+1,n1) ⟨by simp only;omega,h3 _ hI1,by simp only;omega⟩ (by simp only;omega) Zad Zaa
 ·have ei:i=a - 1:=by omega
  subst ei
  repeat' first|refine Kz ?_|intro _
  (refine Zac ?_)
  exact back (.bool true) _ ⟨hI,rfl⟩
end Go.Proofs.YtbfgldlfciimiaaGreatDoor
