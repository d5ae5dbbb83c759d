/- Walks: curves: segments, in turn; valid curves. -/
import Derived.Test.YtoednejlfbfciaaGreatDoorKw1
import Derived.Test.YtoednejlfbfciaaGreatDoorKp4
import Derived.Test.YtoednejlfbfciaaGreatDoorSxB
set_option maxHeartbeats 1000000
namespace Go.Sx
open Go
def cSeg:Cod Seg:=⟨6,fun s=>[.int .i64 s.till,.int .i64 s.mul,.int .i64 s.add,.int .i64 s.num,.int .i64 s.den,.int .i64 s.off],fun _=>rfl,fun s v hv=>by
 simp only [List.mem_cons,List.not_mem_nil,or_false] at hv
 rcases hv with rfl|rfl|rfl|rfl|rfl|rfl<;>rfl⟩
def fromI (ss:List Seg):Nat→Int
 | 0=>0
 | k+1=>(ss[k]?.map Seg.till).getD 0
theorem Zce {ss:List Seg} {k:Nat} {s:Seg} (h:ss[k]?=some s):fromI ss (k+1)=s.till:=by show (Option.map Seg.till ss[k]?).getD 0=s.till;rw [h];rfl
def pieceV (s:Seg) (f:Int) (b:Bool):Value:=.agg #[.int .i64 s.till,.int .i64 s.mul,.int .i64 s.add,.int .i64 s.num,.int .i64 s.den,.int .i64 s.off,.int .i64 f,.bool b]
end Go.Sx
namespace Go.Proofs.YtoednejlfbfciaaGreatDoor
open Go Go.Sx
variable {w0:World} {As:List Ent} {kv:Int} {tv sv:Value} {tab:List Int} {ss:List Seg}
instance elSeg:ElC Tryz.prog 59 Seg cSeg ⟨0,0,0,0,0,0⟩ 48:=⟨by obtain ⟨i,h1,h2,h3,h4⟩:=(inferInstance:TI Tryz.prog 59 _ _ _).info;exact ⟨i,_,h1,h2,h3,h4,rfl⟩,by decide⟩
theorem Zh1:CallsS Tryz.prog w0 48 [.agg #[.int .i64 kv,tv,sv]] As fun v Bs=>∃ b,v=.func (.func 68) #[] #[.pointer (some ⟨b,0,none⟩)]∧Bs=.cl b [.int .i64 kv,tv,sv] 25::As:=by
 refine Zab Tryz.func48 rfl Tryz.ntmps48 rfl ?_
 repeat' first|refine Kz ?_|intro _
 (refine Zac ?_)
 exact ⟨_,⟨_,rfl,rfl⟩,Zaa⟩
set_option maxRecDepth 100000 in
theorem Zgl {l b:Nat} {L:Loop} {Y:Nat→List Ent} {I:Nat→Prop} {R:Nat→List Ent→Prop} [RdIn As sv Seg cSeg ss] (hl:ss.length≤1000000000) (hL:L.params.size=1) (h0:I 0)
  (hy:∀ k s,k < ss.length→ss[k]?=some s→I k→∀ F,YieldS Tryz.prog w0 l L [pieceV s (fromI ss k) (decide (k=0))] (.ob l (.loop L)::(Y k++F)) fun v Bs=>(v=.bool true∧I (k+1)∧Bs=.ob l (.loop L)::(Y (k+1)++F))∨(v=.bool false∧∃ Z,R k Z∧Bs=Z++F)) :
  CallsS Tryz.prog w0 68 [.func (.yield l) #[] #[],.pointer (some ⟨b,0,none⟩)] (.ob l (.loop L)::(Y 0++(.cl b [.int .i64 kv,tv,sv] 25::As)))
   fun _ Bs=>(I ss.length∧Bs=.ob l (.loop L)::(Y ss.length++(.cl b [.int .i64 kv,tv,sv] 25::As)))∨∃ k Z,k < ss.length∧R k Z∧Bs=Z++(.cl b [.int .i64 kv,tv,sv] 25::As):=by
 refine CallsS.ents (Ents.perm (List.Perm.cons _ (List.perm_append_comm (l₁:=Y 0) (l₂:=.cl b [.int .i64 kv,tv,sv] 25::As)))) ?_
 refine Zab Tryz.func68 rfl Tryz.ntmps68 rfl ?_
 show Tri _ _ _ _ _ (.ob l (.loop L)::.cl b [.int .i64 kv,tv,sv] 25::(As++Y 0)) _
 repeat' first|refine Kz ?_|intro _
 refine Tri.loop (ι:=Nat) (fun k=>k≤ss.length∧I k) (fun k=>ss.length - k)
  (fun k=>[(0,.func (.yield l) #[] #[]),(1,.pointer (some ⟨b,0,none⟩)),(3,.int .i64 (fromI ss k)),(7,sv),(8,.int .i64 ss.length),(9,.int .i64 k)]) (fun k=>.ob l (.loop L)::.cl b [.int .i64 kv,tv,sv] 25::(As++Y k)) 0 ⟨by omega,h0⟩ Zae Zaa ?_
 intro k ⟨hk,hI⟩
 repeat' first|refine Kz ?_|intro _
 (refine Kx (fun hc=>?_) fun hc=>?_)
 ·obtain ⟨s,hs⟩:∃ s,ss[k]?=some s:=⟨_,List.getElem?_eq_getElem (by omega)⟩
  have hy1:=hy k s (by omega) hs hI
  have hst:=Zce hs
  have hyk:∀ b5 cs T,YieldS Tryz.prog w0 l L [.agg #[.int .i64 s.till,.int .i64 s.mul,.int .i64 s.add,.int .i64 s.num,.int .i64 s.den,.int .i64 s.off,.int .i64 (fromI ss k),.bool (decide ((k:Int)=0))]] (.cl b5 cs T::.ob l (.loop L)::.cl b [.int .i64 kv,tv,sv] 25::(As++Y k))
        fun v Bs=>(v=.bool true∧I (k+1)∧Bs=.cl b5 cs T::.ob l (.loop L)::.cl b [.int .i64 kv,tv,sv] 25::(As++Y (k+1)))∨(v=.bool false∧∃ Z,R k Z∧Bs=.cl b5 cs T::(Z++(.cl b [.int .i64 kv,tv,sv] 25::As))):=by
   intro b5 cs T
   have h1:=hy1 (.cl b5 cs T::.cl b [.int .i64 kv,tv,sv] 25::As)
   rw [show decide ((k:Int)=0)=decide (k=0) from decide_eq_decide.2 (by omega)]
   have pm:∀ X:List Ent,(Ent.cl b5 cs T::.ob l (.loop L)::.cl b [.int .i64 kv,tv,sv] 25::(As++X)).Perm (.ob l (.loop L)::(X++(.cl b5 cs T::.cl b [.int .i64 kv,tv,sv] 25::As))):=fun X =>
        (List.Perm.swap _ _ _).trans (List.Perm.cons _ (show ((Ent.cl b5 cs T::Ent.cl b [.int .i64 kv,tv,sv] 25::As)++X).Perm (X++(Ent.cl b5 cs T::Ent.cl b [.int .i64 kv,tv,sv] 25::As)) from List.perm_append_comm))
   refine Zol h1 (Ents.perm (pm _)) ?_
   rintro v A (⟨rfl,g1,rfl⟩|⟨rfl,Z,g1,rfl⟩)
   ·exact ⟨_,.inl ⟨rfl,g1,rfl⟩,Ents.perm (pm _).symm⟩
   ·refine ⟨_,.inr ⟨rfl,Z,g1,rfl⟩,?_⟩
    exact Ents.perm List.perm_middle
  repeat' first|refine Kz ?_|intro _
  refine TL.yield rfl rfl rfl rfl hL.symm (hyk _ _ _) ?_
  rintro v Bs (⟨rfl,hI1,rfl⟩|⟨rfl,Z,hZ,rfl⟩)
  ·repeat' first|refine Kz ?_|intro _
   exact Post.round (k+1) ⟨by omega,hI1⟩ (by omega) (by rw [hst];(exact Zae)) Zaa
  ·repeat' first|refine Kz ?_|intro _
   (refine Zac ?_)
   exact ⟨_,.inr ⟨_,_,by omega,hZ,rfl⟩,Zcv⟩
 ·repeat' first|refine Kz ?_|intro _
  (refine Zac ?_)
  have:k=ss.length:=by omega
  subst this
  refine ⟨_,.inl ⟨hI,rfl⟩,Ents.perm (List.Perm.cons _ (show ((Ent.cl b [.int .i64 kv,tv,sv] 25::As)++Y ss.length).Perm (Y ss.length++(Ent.cl b [.int .i64 kv,tv,sv] 25::As)) from List.perm_append_comm))⟩
end Go.Proofs.YtoednejlfbfciaaGreatDoor
