/- Plain: which tetrahedra of a drafted grid hold a node, and with what weights. -/
import Derived.Test.YtbfgldlfciimiaaGreatDoorSh1
import Derived.Test.YtbfgldlfciimiaaGreatDoorIh1
import Derived.Test.YtbfgldlfciimiaaGreatDoorIj1
set_option maxHeartbeats 1000000
namespace Go.Sx
open Go
def ordL (m c:Nat):Nat:=(([[0,1,2],[0,2,1],[1,0,2],[1,2,0],[2,0,1],[2,1,0]]:List (List Nat))[m]?.getD [])[c]?.getD 0
def Holds (x n:V3) (m:Nat):Prop:=comp n (ordL m 0) - comp x (ordL m 0)≤1∧comp n (ordL m 1) - comp x (ordL m 1)≤comp n (ordL m 0) - comp x (ordL m 0)∧comp n (ordL m 2) - comp x (ordL m 2)≤comp n (ordL m 1) - comp x (ordL m 1)∧0≤comp n (ordL m 2) - comp x (ordL m 2)
instance {x n:V3} {m:Nat}:Decidable (Holds x n m):=by unfold Holds;infer_instance
end Go.Sx
namespace Go.Sx
open Go Go.Proofs.YtbfgldlfciimiaaGreatDoor
theorem Yaz {q:D37} (h:q.ok) {a b c:Nat} (hz:Sz a b c) {i j k:Nat} (hi:i < a) (hj:j < b) (hk:k < c) {F:List V3}
  (hF:F=shellF a b c∨F=(shellF a b c).map swapF) (hon:onI a b c i j k=true):sideW ((nodesF a b c).map (phi q)) F (phi q ⟨i,j,k⟩)=(1,0):=by
 have hst:Steps q.t (phi q):=Zg9 h
 have hfa:∀ x∈nodesF a b c,isFar (phi q x)=false:=fun x hx=>by
  obtain ⟨i,j,k,rfl,hi,hj,hk,_⟩:=Zil hx
  have:=hz.a5;have:=hz.b4;have:=hz.c4
  exact Zgc (Zh8 h (by omega) (by omega) (by omega))
 have hg:=Zeg hz hst h.1 hfa
 have ht:=Zdz hz hst h.1 hfa
 have hgF:Good ((nodesF a b c).map (phi q)) F:=by rcases hF with rfl|rfl;exact hg;exact ht
 have hfl:(flawM ((nodesF a b c).map (phi q)) F).1=0:=Yft.2 hgF
 have hfar:isFar (phi q ⟨i,j,k⟩)=false:=by
  have:=hz.a5;have:=hz.b4;have:=hz.c4
  exact Zgc (Zh8 h (by omega) (by omega) (by omega))
 have onF:onM axP ((nodesF a b c).map (phi q)) F (phi q ⟨i,j,k⟩)=onM axP ((nodesF a b c).map (phi q)) (shellF a b c) (phi q ⟨i,j,k⟩):=by
  rcases hF with rfl|rfl
  ·rfl
  ·exact Zmh hg ht
 unfold sideW
 rw [if_neg (fun h=>h hfl),hfar,if_neg (by decide),onF]
 have hmem:=Zg1 hi hj hk hon
 have hu:=hz.used
 unfold usedJ at hu
 rw [List.all_eq_true] at hu
 have hu:=hu _ hmem
 rw [List.any_eq_true] at hu
 obtain ⟨y,hy,hu⟩:=hu
 simp only [Bool.or_eq_true,decide_eq_true_eq] at hu
 have hp:ptAt ((nodesF a b c).map (phi q)) (posN (nodesF a b c) ⟨i,j,k⟩:Nat)=phi q ⟨i,j,k⟩:=by
  have hp:=Zhj (Zcj a b c (a * b * c)) hmem
  rw [Zbk (by omega) (by have:=hp.2;exact_mod_cast this),Zxk hmem]
 have:onM axP ((nodesF a b c).map (phi q)) (shellF a b c) (phi q ⟨i,j,k⟩)=true:=by
  refine Ztw hg (f:=posF (nodesF a b c) y) (by rw [Zeq];exact List.mem_map_of_mem hy) ?_
  unfold posF
  rcases hu with e|e|e
  ·rw [e];exact .inl hp
  ·rw [e];exact .inr (.inl hp)
  ·rw [e];exact .inr (.inr hp)
 rw [this,if_pos rfl]
end Go.Sx
