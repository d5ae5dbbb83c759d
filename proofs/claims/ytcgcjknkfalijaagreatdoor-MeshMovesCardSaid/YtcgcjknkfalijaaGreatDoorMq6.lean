/- Meshes, plain: what a moved mesh is, and its box. -/
import Derived.Test.YtcgcjknkfalijaaGreatDoorMq5
set_option maxHeartbeats 1000000
namespace Go.Sx
open Go
theorem Zj7 {a b v:Int}:(if b+v < a+v then b+v else a+v)=(if b < a then b else a)+v:=by
 by_cases h:b < a
 ·rw [if_pos h,if_pos (by omega)]
 ·rw [if_neg h,if_neg (by omega)]
theorem Zhp {a b v:Int}:(if a+v < b+v then b+v else a+v)=(if a < b then b else a)+v:=by
 by_cases h:a < b
 ·rw [if_pos h,if_pos (by omega)]
 ·rw [if_neg h,if_neg (by omega)]
theorem Zue {a b v:V3}:(a.add v).mn (b.add v)=(a.mn b).add v:=by
 show V3.mk _ _ _=V3.mk _ _ _
 exact congr (congr (congrArg V3.mk Zj7) Zj7) Zj7
theorem Zuc {a b v:V3}:(a.add v).mx (b.add v)=(a.mx b).add v:=by
 show V3.mk _ _ _=V3.mk _ _ _
 exact congr (congr (congrArg V3.mk Zhp) Zhp) Zhp
theorem Zhq {f:V3→V3→V3} {v:V3} (hf:∀ a b:V3,f (a.add v) (b.add v)=(f a b).add v):∀ (l:List V3) (p:V3),(l.map (·.add v)).foldl f (p.add v)=(l.foldl f p).add v
 | [],_=>rfl
 | a::l,p=>by
  simp only [List.map_cons,List.foldl_cons,hf]
  exact Zhq hf l _
theorem Zqz {pts fcs:List V3} {v:V3} (h1:okM pts fcs) (h2:okM (pts.map (·.add v)) fcs):(boxM (pts.map (·.add v)) fcs).1=(boxM pts fcs).1.add v∧(boxM (pts.map (·.add v)) fcs).2.1=(boxM pts fcs).2.1.add v:=by
 have h4:=(Zvk.1 h1).p4
 rw [boxM,if_pos h2,boxM,if_pos h1]
 rw [Zbk (by omega) (by omega)]
 exact ⟨Zhq (fun _ _=>Zue) _ _,Zhq (fun _ _=>Zuc) _ _⟩
theorem Zq3 {l:List V3} {v w:V3} (hx:w.x=-v.x) (hy:w.y=-v.y) (hz:w.z=-v.z):(l.map (·.add v)).map (·.add w)=l:=by
 rw [List.map_map]
 have:((·.add w) ∘ (·.add v):V3→V3)=id:=by
  funext p
  obtain ⟨x,y,z⟩:=p
  simp only [Function.comp_apply,V3.add,hx,hy,hz,id,V3.mk.injEq]
  omega
 rw [this,List.map_id]
theorem Znm {l:List V3}:(l.map swapF).map swapF=l:=by
 rw [List.map_map]
 have:(swapF ∘ swapF:V3→V3)=id:=by
  funext p
  rfl
 rw [this,List.map_id]
end Go.Sx
