/- Walks: shells: errors that are thrown; the corners of the sides. -/
import Derived.Test.YtbfgldlfciimiaaGreatDoorSw3
import Derived.Test.YtbfgldlfciimiaaGreatDoorSxP
set_option maxHeartbeats 1000000
namespace Go.Sx
open Go
section
variable {P:Program} {w:World}
instance {t el:TypeId} {z:Value} {b:Nat} [UL P t (.array 3 el)] [UL P el (.int .i64)] [TI P el z 1 b]:KeyT P t V3 V3.val where
 check em k w:=by
  have hp:∀ (i:Nat) (v:Value),(#[Value.int .i64 k.x,.int .i64 k.y,.int .i64 k.z]:Array Value)[i]?=some v→(part el #[Value.int .i64 k.x,.int .i64 k.y,.int .i64 k.z] i).run P w=.ok v w:=fun i v h=>Zi2 _ _ h
  have p0:=hp 0 _ rfl
  have p1:=hp 1 _ rfl
  have p2:=hp 2 _ rfl
  have hc:∀ (n:Nat) (a:Int),(Instr.checkKey em (n+1) el (.int .i64 a)).run P w=.ok () w:=fun n a=>by simp [Instr.checkKey,Zar]
  have h2:(sizeOf el).run P w=.ok 1 w:=Za9
  show (Instr.checkKey em (9998+1+1) t k.val).run P w=.ok () w
  unfold Instr.checkKey
  simp only [V3.val,Sem.run_bind,Zar,Result.andThen_ok]
  simp [Std.Legacy.Range.forIn_eq_forIn_range',List.range'_succ,p0,p1,p2,hc,h2]
 same k:=by
  have h1:Instr.sameBits 10000 k.val k.val=((IntKind.i64 == IntKind.i64&&k.x == k.x)&&((IntKind.i64 == IntKind.i64&&k.y == k.y)&&((IntKind.i64 == IntKind.i64&&k.z == k.z)&&true))):=by rfl
  rw [h1]
  simp
 find:=⟨_,UL.h (P:=P) (t:=t),.inr ⟨fun a b=>rfl,fun a b w=>Zsi 9998 a b⟩⟩
end
def cBv (b:Bool):Value:=.bool b
instance {b:Bool}:EncV cBv (.bool b) b:=⟨rfl⟩
instance {a b d:Int}:EncV V3.val (.agg #[.int .i64 a,.int .i64 b,.int .i64 d]) ⟨a,b,d⟩:=⟨rfl⟩
end Go.Sx
namespace Go.Proofs.YtbfgldlfciimiaaGreatDoor
open Go Go.Sx
variable {w0:World} {As:List Ent}
abbrev errV (n:Int):Value:=.iface 34 (.int .i64 n)
theorem Z66 {v:Value}:CQ Tryz.prog w0 50 [v,.int .i64 0] As v:=by
 refine Zab Tryz.func50 rfl Tryz.ntmps50 rfl ?_
 repeat' first|refine Kz ?_|intro _
 exact Kv
theorem Z67 {v:Value} {n:Int} (hn:n≠0):CallsP Tryz.prog w0 50 [v,.int .i64 n] As fun z Bs=>z=errV n∧Bs=As:=by
 refine Zec Tryz.func50 rfl Tryz.ntmps50 rfl ?_
 repeat' first|refine Kz ?_|intro _
 refine TL.f rfl rfl (Ze4 rfl rfl) ?_
 refine TL.panic rfl rfl ?_
 repeat' first|refine Kz ?_|intro _
 exact Zay rfl ⟨_,⟨rfl,rfl⟩,Zaa⟩
theorem Z69 {v:Value}:CQ Tryz.prog w0 52 [v,.int .i64 0] As v:=by
 refine Zab Tryz.func52 rfl Tryz.ntmps52 rfl ?_
 repeat' first|refine Kz ?_|intro _
 exact Kv
theorem Z64 {v:Value}:CQ Tryz.prog w0 20 [v,.int .i64 0] As v:=by
 refine Zab Tryz.func20 rfl Tryz.ntmps20 rfl ?_
 repeat' first|refine Kz ?_|intro _
 exact Kv
theorem Z65 {p:V3}:CQ Tryz.prog w0 51 [p.val,.int .i64 0] As p.val:=by
 refine Zab Tryz.func51 rfl Tryz.ntmps51 rfl ?_
 repeat' first|refine Kz ?_|intro _
 exact Kv
theorem Z68 {pv fv:Value} (hp:pv.oneCell'=true) (hf:fv.oneCell'=true):CQ Tryz.prog w0 22 [.agg #[pv,fv],.int .i64 0] As (.agg #[pv,fv]):=by
 refine Zab Tryz.func22 rfl Tryz.ntmps22 rfl ?_
 repeat' first|refine Kz ?_|intro _
 exact Kv
theorem Z2s {ax:Nat} (h:ax < 3):CQ Tryz.prog w0 55 [.int .i64 (ax:Int)] As (.tuple #[.int .i64 (ax1 ax:Int),.int .i64 (ax2 ax:Int)]):=by
 refine Zab Tryz.func55 rfl Tryz.ntmps55 rfl ?_
 have h':ax=0∨ax=1∨ax=2:=by omega
 rcases h' with rfl|rfl|rfl
 ·repeat' first|refine Kz ?_|intro _
  exact Kv
 ·repeat' first|refine Kz ?_|intro _
  exact Kv
 ·repeat' first|refine Kz ?_|intro _
  exact Kv
theorem Z6d:CQ Tryz.prog w0 54 [] As (.func (.func 89) #[] #[]):=by
 refine Zab Tryz.func54 rfl Tryz.ntmps54 rfl ?_
 repeat' first|refine Kz ?_|intro _
 exact Kv
abbrev cornerE (b8 b1 b9 b10 b4 mb:Nat) (sv dv:Value) (ax en:Nat) (L:List V3) (As:List Ent):List Ent :=
 .cl b8 [.int .i64 (ax:Int),.int .i64 (en:Int)] 112::.cl b1 [sv,.int .i64 3,dv] 29::.cl b9 [.int .i64 (ax1 ax:Int)] 3::.cl b10 [.int .i64 (ax2 ax:Int)] 3::.cl b4 [.map (some mb)] 105::.ob mb (mapO V3.val cNv (idxL L L.length))::As
theorem Z4c {sv dv:Value} {S:List Int} {a b c ax en u v b8 b1 b9 b10 b4 mb:Nat} [hs:RdIn As sv Int (cI .i64) S] (hS:S=[(a:Int),(b:Int),(c:Int)]) (hax:ax < 3) (hen:en < 2) (ha:2≤a) (hb:2≤b) (hc:2≤c) (ha9:a≤9) (hb9:b≤9) (hc9:c≤9)
  (hu:u < size3 a b c (ax1 ax)) (hv:v < size3 a b c (ax2 ax)) :
  CallsS Tryz.prog w0 56 [.int .i64 (u:Int),.int .i64 (v:Int),.pointer (some ⟨b8,0,none⟩),.pointer (some ⟨b1,0,none⟩),.pointer (some ⟨b9,0,none⟩),.pointer (some ⟨b10,0,none⟩),.pointer (some ⟨b4,0,none⟩)]
   (cornerE b8 b1 b9 b10 b4 mb sv dv ax en (nodesF a b c) As) fun z Bs=>z=.int .i64 (posN (nodesF a b c) (nodeAt ax (en * (size3 a b c ax - 1)) u v):Int)∧Bs=cornerE b8 b1 b9 b10 b4 mb sv dv ax en (nodesF a b c) As:=by
 have hm:mGet (idxL (nodesF a b c) (nodesF a b c).length) (nodeAt ax (en * (size3 a b c ax - 1)) u v)=some (posN (nodesF a b c) (nodeAt ax (en * (size3 a b c ax - 1)) u v)):=Z7j (Zcj a b c (a * b * c)) (Zkc hax hen ha hb hc hu hv)
 have g0:S[0]?=some (a:Int):=by rw [hS];rfl
 have g1:S[1]?=some (b:Int):=by rw [hS];rfl
 have g2:S[2]?=some (c:Int):=by rw [hS];rfl
 have hl3:S.length=3:=by rw [hS];rfl
 have hax':ax=0∨ax=1∨ax=2:=by omega
 have hen':en=0∨en=1:=by omega
 show CallsS _ _ _ _ (.cl b8 _ _::.cl b1 _ _::.cl b9 _ _::.cl b10 _ _::.cl b4 _ _::.ob mb _::As) fun z Bs=>z=_∧Bs=(.cl b8 _ _::.cl b1 _ _::.cl b9 _ _::.cl b10 _ _::.cl b4 _ _::.ob mb _::As)
 generalize hL:nodesF a b c=L at hm
 rcases hax' with rfl|rfl|rfl<;>rcases hen' with rfl|rfl
 ·have hnode:nodeAt 0 (0 * (size3 a b c 0 - 1)) u v=⟨((0:Nat):Int),u,v⟩:=by
   simp only [nodeAt,size3];simp
  have hu':u < 10:=by simp only [size3,ax1] at hu;simp at hu;omega
  have hv':v < 10:=by simp only [size3,ax2] at hv;simp at hv;omega
  have hmul:(0:Int) * ((a - 1:Nat):Int)=((0:Nat):Int):=by omega
  rw [hnode] at hm ⊢
  refine Zab Tryz.func56 rfl Tryz.ntmps56 rfl ?_
  show Tri _ _ _ _ _ (.cl b8 [.int .i64 0,.int .i64 0] _::.cl b1 _ _::.cl b9 [.int .i64 1] _::.cl b10 [.int .i64 2] _::.cl b4 _ _::.ob mb _::As) _
  repeat' first|refine Kz ?_|intro _
  rename_i b0
  refine Zag (.cl b8 [.int .i64 0,.int .i64 0] 112::.cl b1 [sv,.int .i64 3,dv] 29::As) [] (.take 0 (.take 1 (.take 2 (.take 3 (.take 4 (.take 5 (.take 6 (.take 7 (.take 8 (.take 9 (.take 10 (.take 11 (.take 12 (.all [(13,.done)])))))))))))))) ?_
  repeat' first|refine Kf ?_|intro _|constructor
  rw [hmul]
  refine Zag (.cl b9 [.int .i64 1] 3::.cl b10 [.int .i64 2] 3::As) [] (.take 0 (.take 1 (.take 2 (.take 3 (.take 4 (.all [(5,.take 6 (.all [(7,.done)]))])))))) ?_
  repeat' first|refine Kf ?_|intro _|constructor
  (refine Zac ?_)
  exact ⟨_,⟨rfl,rfl⟩,(show Ents _ (.cl b8 [.int .i64 0,.int .i64 0] _::.cl b1 _ _::.cl b9 [.int .i64 1] _::.cl b10 [.int .i64 2] _::.cl b4 _ _::.ob mb _::As) from Zaa)⟩
 ·have hnode:nodeAt 0 (1 * (size3 a b c 0 - 1)) u v=⟨((a - 1:Nat):Int),u,v⟩:=by
   simp only [nodeAt,size3];simp
  have hu':u < 10:=by simp only [size3,ax1] at hu;simp at hu;omega
  have hv':v < 10:=by simp only [size3,ax2] at hv;simp at hv;omega
  have hmul:(1:Int) * ((a - 1:Nat):Int)=((a - 1:Nat):Int):=by omega
  rw [hnode] at hm ⊢
  refine Zab Tryz.func56 rfl Tryz.ntmps56 rfl ?_
  show Tri _ _ _ _ _ (.cl b8 [.int .i64 0,.int .i64 1] _::.cl b1 _ _::.cl b9 [.int .i64 1] _::.cl b10 [.int .i64 2] _::.cl b4 _ _::.ob mb _::As) _
  repeat' first|refine Kz ?_|intro _
  rename_i b0
  refine Zag (.cl b8 [.int .i64 0,.int .i64 1] 112::.cl b1 [sv,.int .i64 3,dv] 29::As) [] (.take 0 (.take 1 (.take 2 (.take 3 (.take 4 (.take 5 (.take 6 (.take 7 (.take 8 (.take 9 (.take 10 (.take 11 (.take 12 (.all [(13,.done)])))))))))))))) ?_
  repeat' first|refine Kf ?_|intro _|constructor
  rw [hmul]
  refine Zag (.cl b9 [.int .i64 1] 3::.cl b10 [.int .i64 2] 3::As) [] (.take 0 (.take 1 (.take 2 (.take 3 (.take 4 (.all [(5,.take 6 (.all [(7,.done)]))])))))) ?_
  repeat' first|refine Kf ?_|intro _|constructor
  (refine Zac ?_)
  exact ⟨_,⟨rfl,rfl⟩,(show Ents _ (.cl b8 [.int .i64 0,.int .i64 1] _::.cl b1 _ _::.cl b9 [.int .i64 1] _::.cl b10 [.int .i64 2] _::.cl b4 _ _::.ob mb _::As) from Zaa)⟩
 ·have hnode:nodeAt 1 (0 * (size3 a b c 1 - 1)) u v=⟨u,((0:Nat):Int),v⟩:=by
   simp only [nodeAt,size3];simp
  have hu':u < 10:=by simp only [size3,ax1] at hu;simp at hu;omega
  have hv':v < 10:=by simp only [size3,ax2] at hv;simp at hv;omega
  have hmul:(0:Int) * ((b - 1:Nat):Int)=((0:Nat):Int):=by omega
  rw [hnode] at hm ⊢
  refine Zab Tryz.func56 rfl Tryz.ntmps56 rfl ?_
  show Tri _ _ _ _ _ (.cl b8 [.int .i64 1,.int .i64 0] _::.cl b1 _ _::.cl b9 [.int .i64 0] _::.cl b10 [.int .i64 2] _::.cl b4 _ _::.ob mb _::As) _
  repeat' first|refine Kz ?_|intro _
  rename_i b0
  refine Zag (.cl b8 [.int .i64 1,.int .i64 0] 112::.cl b1 [sv,.int .i64 3,dv] 29::As) [] (.take 0 (.take 1 (.take 2 (.take 3 (.take 4 (.take 5 (.take 6 (.take 7 (.take 8 (.take 9 (.take 10 (.take 11 (.take 12 (.all [(13,.done)])))))))))))))) ?_
  repeat' first|refine Kf ?_|intro _|constructor
  rw [hmul]
  refine Zag (.cl b9 [.int .i64 0] 3::.cl b10 [.int .i64 2] 3::As) [] (.take 0 (.take 1 (.take 2 (.take 3 (.take 4 (.all [(5,.take 6 (.all [(7,.done)]))])))))) ?_
  repeat' first|refine Kf ?_|intro _|constructor
  (refine Zac ?_)
  exact ⟨_,⟨rfl,rfl⟩,(show Ents _ (.cl b8 [.int .i64 1,.int .i64 0] _::.cl b1 _ _::.cl b9 [.int .i64 0] _::.cl b10 [.int .i64 2] _::.cl b4 _ _::.ob mb _::As) from Zaa)⟩
 ·have hnode:nodeAt 1 (1 * (size3 a b c 1 - 1)) u v=⟨u,((b - 1:Nat):Int),v⟩:=by
   simp only [nodeAt,size3];simp
  have hu':u < 10:=by simp only [size3,ax1] at hu;simp at hu;omega
  have hv':v < 10:=by simp only [size3,ax2] at hv;simp at hv;omega
  have hmul:(1:Int) * ((b - 1:Nat):Int)=((b - 1:Nat):Int):=by omega
  rw [hnode] at hm ⊢
  refine Zab Tryz.func56 rfl Tryz.ntmps56 rfl ?_
  show Tri _ _ _ _ _ (.cl b8 [.int .i64 1,.int .i64 1] _::.cl b1 _ _::.cl b9 [.int .i64 0] _::.cl b10 [.int .i64 2] _::.cl b4 _ _::.ob mb _::As) _
  repeat' first|refine Kz ?_|intro _
  rename_i b0
  refine Zag (.cl b8 [.int .i64 1,.int .i64 1] 112::.cl b1 [sv,.int .i64 3,dv] 29::As) [] (.take 0 (.take 1 (.take 2 (.take 3 (.take 4 (.take 5 (.take 6 (.take 7 (.take 8 (.take 9 (.take 10 (.take 11 (.take 12 (.all [(13,.done)])))))))))))))) ?_
  repeat' first|refine Kf ?_|intro _|constructor
  rw [hmul]
  refine Zag (.cl b9 [.int .i64 0] 3::.cl b10 [.int .i64 2] 3::As) [] (.take 0 (.take 1 (.take 2 (.take 3 (.take 4 (.all [(5,.take 6 (.all [(7,.done)]))])))))) ?_
  repeat' first|refine Kf ?_|intro _|constructor
  (refine Zac ?_)
  exact ⟨_,⟨rfl,rfl⟩,(show Ents _ (.cl b8 [.int .i64 1,.int .i64 1] _::.cl b1 _ _::.cl b9 [.int .i64 0] _::.cl b10 [.int .i64 2] _::.cl b4 _ _::.ob mb _::As) from Zaa)⟩
 ·have hnode:nodeAt 2 (0 * (size3 a b c 2 - 1)) u v=⟨u,v,((0:Nat):Int)⟩:=by
   simp only [nodeAt,size3];simp
  have hu':u < 10:=by simp only [size3,ax1] at hu;simp at hu;omega
  have hv':v < 10:=by simp only [size3,ax2] at hv;simp at hv;omega
  have hmul:(0:Int) * ((c - 1:Nat):Int)=((0:Nat):Int):=by omega
  rw [hnode] at hm ⊢
  refine Zab Tryz.func56 rfl Tryz.ntmps56 rfl ?_
  show Tri _ _ _ _ _ (.cl b8 [.int .i64 2,.int .i64 0] _::.cl b1 _ _::.cl b9 [.int .i64 0] _::.cl b10 [.int .i64 1] _::.cl b4 _ _::.ob mb _::As) _
  repeat' first|refine Kz ?_|intro _
  rename_i b0
  refine Zag (.cl b8 [.int .i64 2,.int .i64 0] 112::.cl b1 [sv,.int .i64 3,dv] 29::As) [] (.take 0 (.take 1 (.take 2 (.take 3 (.take 4 (.take 5 (.take 6 (.take 7 (.take 8 (.take 9 (.take 10 (.take 11 (.take 12 (.all [(13,.done)])))))))))))))) ?_
  repeat' first|refine Kf ?_|intro _|constructor
  rw [hmul]
  refine Zag (.cl b9 [.int .i64 0] 3::.cl b10 [.int .i64 1] 3::As) [] (.take 0 (.take 1 (.take 2 (.take 3 (.take 4 (.all [(5,.take 6 (.all [(7,.done)]))])))))) ?_
  repeat' first|refine Kf ?_|intro _|constructor
  (refine Zac ?_)
  exact ⟨_,⟨rfl,rfl⟩,(show Ents _ (.cl b8 [.int .i64 2,.int .i64 0] _::.cl b1 _ _::.cl b9 [.int .i64 0] _::.cl b10 [.int .i64 1] _::.cl b4 _ _::.ob mb _::As) from Zaa)⟩
 ·have hnode:nodeAt 2 (1 * (size3 a b c 2 - 1)) u v=⟨u,v,((c - 1:Nat):Int)⟩:=by
   simp only [nodeAt,size3];simp
  have hu':u < 10:=by simp only [size3,ax1] at hu;simp at hu;omega
  have hv':v < 10:=by simp only [size3,ax2] at hv;simp at hv;omega
  have hmul:(1:Int) * ((c - 1:Nat):Int)=((c - 1:Nat):Int):=by omega
  rw [hnode] at hm ⊢
  refine Zab Tryz.func56 rfl Tryz.ntmps56 rfl ?_
  show Tri _ _ _ _ _ (.cl b8 [.int .i64 2,.int .i64 1] _::.cl b1 _ _::.cl b9 [.int .i64 0] _::.cl b10 [.int .i64 1] _::.cl b4 _ _::.ob mb _::As) _
  repeat' first|refine Kz ?_|intro _
  rename_i b0
  refine Zag (.cl b8 [.int .i64 2,.int .i64 1] 112::.cl b1 [sv,.int .i64 3,dv] 29::As) [] (.take 0 (.take 1 (.take 2 (.take 3 (.take 4 (.take 5 (.take 6 (.take 7 (.take 8 (.take 9 (.take 10 (.take 11 (.take 12 (.all [(13,.done)])))))))))))))) ?_
  repeat' first|refine Kf ?_|intro _|constructor
  rw [hmul]
  refine Zag (.cl b9 [.int .i64 0] 3::.cl b10 [.int .i64 1] 3::As) [] (.take 0 (.take 1 (.take 2 (.take 3 (.take 4 (.all [(5,.take 6 (.all [(7,.done)]))])))))) ?_
  repeat' first|refine Kf ?_|intro _|constructor
  (refine Zac ?_)
  exact ⟨_,⟨rfl,rfl⟩,(show Ents _ (.cl b8 [.int .i64 2,.int .i64 1] _::.cl b1 _ _::.cl b9 [.int .i64 0] _::.cl b10 [.int .i64 1] _::.cl b4 _ _::.ob mb _::As) from Zaa)⟩
end Go.Proofs.YtbfgldlfciimiaaGreatDoor
