/- Walks: shells: errors that are thrown; the corners of the sides. -/
import Derived.Test.YtgapnfaakdjpaaaGreatDoorSw3
import Derived.Test.YtgapnfaakdjpaaaGreatDoorSxP
namespace Go.Sx
open Go
section
variable {P:Program} {w:World}
instance {t el:TypeId} {z:Value} {b:Nat} [UL P t (.array 3 el)] [UL P el (.int .i64)] [TI P el z 1 b]:KeyT P t V3 V3.val where
  check em k w:=by
    have hp:∀ (i:Nat) (v:Value),(#[Value.int .i64 k.x,.int .i64 k.y,.int .i64 k.z]:Array Value)[i]?=some v→(part el #[Value.int .i64 k.x,.int .i64 k.y,.int .i64 k.z] i).run P w=.ok v w:=fun i v h=>run_partI _ _ h
    have p0:=hp 0 _ rfl
    have p1:=hp 1 _ rfl
    have p2:=hp 2 _ rfl
    have hc:∀ (n:Nat) (a:Int),(Instr.checkKey em (n+1) el (.int .i64 a)).run P w=.ok () w:=fun n a=>by simp [Instr.checkKey,run_und]
    have h2:(sizeOf el).run P w=.ok 1 w:=run_size
    show (Instr.checkKey em (9998+1+1) t k.val).run P w=.ok () w
    unfold Instr.checkKey
    simp only [V3.val,Sem.run_bind,run_und,Result.andThen_ok]
    simp [Std.Legacy.Range.forIn_eq_forIn_range',List.range'_succ,p0,p1,p2,hc,h2]
  same k:=by
    have h1:Instr.sameBits 10000 k.val k.val=((IntKind.i64 == IntKind.i64&&k.x == k.x)&&((IntKind.i64 == IntKind.i64&&k.y == k.y)&&((IntKind.i64 == IntKind.i64&&k.z == k.z)&&true))):=by rfl
    rw [h1]
    simp
  find:=⟨_,UL.h (P:=P) (t:=t),.inr ⟨fun a b=>rfl,fun a b w=>run_eqV3' 9998 a b⟩⟩
end
def cBv (b:Bool):Value:=.bool b
instance {b:Bool}:EncV cBv (.bool b) b:=⟨rfl⟩
instance {a b d:Int}:EncV V3.val (.agg #[.int .i64 a,.int .i64 b,.int .i64 d]) ⟨a,b,d⟩:=⟨rfl⟩
end Go.Sx
namespace Go.Proofs.YtgapnfaakdjpaaaGreatDoor
open Go Go.Sx
variable {w0:World} {As:List Ent}
abbrev errV (n:Int):Value:=.iface 39 (.int .i64 n)
theorem mustN_ok {v:Value}:CallsS Tryz.prog w0 109 [v,.int .i64 0] As fun u Bs=>u=v∧Bs=As:=by
  refine CallsS.of_tri Tryz.func109 rfl Tryz.ntmps109 rfl ?_
  (repeat' first|(refine Ka ?_;first|refine Kb ?_|(refine Kc ?_;intro _))|refine Kd ?_|refine Kh ?_)
  (refine Post.ra ?_)
  exact ⟨_,⟨rfl,rfl⟩,by (exact Ents.au)⟩
theorem mustN_no {v:Value} {n:Int} (hn:n≠0):CallsP Tryz.prog w0 109 [v,.int .i64 n] As fun z Bs=>z=errV n∧Bs=As:=by
  refine CallsP.of_tri Tryz.func109 rfl Tryz.ntmps109 rfl ?_
  (repeat' first|(refine Ka ?_;first|refine Kb ?_|(refine Kc ?_;intro _))|refine Kd ?_|refine Kh ?_)
  refine TL.f rfl rfl (ExF.mkIface rfl rfl) ?_
  refine TL.panic rfl rfl ?_
  (repeat' first|(refine Ka ?_;first|refine Kb ?_|(refine Kc ?_;intro _))|refine Kd ?_|refine Kh ?_)
  exact Post.throws rfl ⟨_,⟨rfl,rfl⟩,by (exact Ents.au)⟩
theorem mustI_ok {v:Value}:CallsS Tryz.prog w0 111 [v,.int .i64 0] As fun u Bs=>u=v∧Bs=As:=by
  refine CallsS.of_tri Tryz.func111 rfl Tryz.ntmps111 rfl ?_
  (repeat' first|(refine Ka ?_;first|refine Kb ?_|(refine Kc ?_;intro _))|refine Kd ?_|refine Kh ?_)
  (refine Post.ra ?_)
  exact ⟨_,⟨rfl,rfl⟩,by (exact Ents.au)⟩
theorem mustW_ok {v:Value}:CallsS Tryz.prog w0 67 [v,.int .i64 0] As fun u Bs=>u=v∧Bs=As:=by
  refine CallsS.of_tri Tryz.func67 rfl Tryz.ntmps67 rfl ?_
  (repeat' first|(refine Ka ?_;first|refine Kb ?_|(refine Kc ?_;intro _))|refine Kd ?_|refine Kh ?_)
  (refine Post.ra ?_)
  exact ⟨_,⟨rfl,rfl⟩,by (exact Ents.au)⟩
theorem mustV_ok {p:V3}:CallsS Tryz.prog w0 110 [p.val,.int .i64 0] As fun u Bs=>u=p.val∧Bs=As:=by
  refine CallsS.of_tri Tryz.func110 rfl Tryz.ntmps110 rfl ?_
  (repeat' first|(refine Ka ?_;first|refine Kb ?_|(refine Kc ?_;intro _))|refine Kd ?_|refine Kh ?_)
  (refine Post.ra ?_)
  exact ⟨_,⟨rfl,rfl⟩,by (exact Ents.au)⟩
theorem mustM_ok {pv fv:Value} (hp:pv.oneCell'=true) (hf:fv.oneCell'=true):CallsS Tryz.prog w0 68 [.agg #[pv,fv],.int .i64 0] As fun u Bs=>u=.agg #[pv,fv]∧Bs=As:=by
  refine CallsS.of_tri Tryz.func68 rfl Tryz.ntmps68 rfl ?_
  (repeat' first|(refine Ka ?_;first|refine Kb ?_|(refine Kc ?_;intro _))|refine Kd ?_|refine Kh ?_)
  (refine Post.ra ?_)
  exact ⟨_,⟨rfl,rfl⟩,by (exact Ents.au)⟩
theorem others_ok {ax:Nat} (h:ax < 3):CallsS Tryz.prog w0 114 [.int .i64 (ax:Int)] As fun u Bs=>u=.tuple #[.int .i64 (ax1 ax:Int),.int .i64 (ax2 ax:Int)]∧Bs=As:=by
  refine CallsS.of_tri Tryz.func114 rfl Tryz.ntmps114 rfl ?_
  have h':ax=0∨ax=1∨ax=2:=by omega
  rcases h' with rfl|rfl|rfl
  · (repeat' first|(refine Ka ?_;first|refine Kb ?_|(refine Kc ?_;intro _))|refine Kd ?_|refine Kh ?_)
    (refine Post.ra ?_)
    exact ⟨_,⟨rfl,rfl⟩,by (exact Ents.au)⟩
  · (repeat' first|(refine Ka ?_;first|refine Kb ?_|(refine Kc ?_;intro _))|refine Kd ?_|refine Kh ?_)
    (refine Post.ra ?_)
    exact ⟨_,⟨rfl,rfl⟩,by (exact Ents.au)⟩
  · (repeat' first|(refine Ka ?_;first|refine Kb ?_|(refine Kc ?_;intro _))|refine Kd ?_|refine Kh ?_)
    (refine Post.ra ?_)
    exact ⟨_,⟨rfl,rfl⟩,by (exact Ents.au)⟩
theorem sides_ok:CallsS Tryz.prog w0 113 [] As fun u Bs=>u=.func (.func 150) #[] #[]∧Bs=As:=by
  refine CallsS.of_tri Tryz.func113 rfl Tryz.ntmps113 rfl ?_
  (repeat' first|(refine Ka ?_;first|refine Kb ?_|(refine Kc ?_;intro _))|refine Kd ?_|refine Kh ?_)
  (refine Post.ra ?_)
  exact ⟨_,⟨rfl,rfl⟩,by (exact Ents.au)⟩
abbrev cornerE (b8 b1 b9 b10 b4 mb:Nat) (sv dv:Value) (ax en:Nat) (L:List V3) (As:List Ent):List Ent :=
  .cl b8 [.int .i64 (ax:Int),.int .i64 (en:Int)] 177::.cl b1 [sv,.int .i64 3,dv] 76::.cl b9 [.int .i64 (ax1 ax:Int)] 3::.cl b10 [.int .i64 (ax2 ax:Int)] 3::.cl b4 [.map (some mb)] 170::.ob mb (mapO V3.val cNv (idxL L L.length))::As
theorem corner_ok {sv dv:Value} {S:List Int} {a b c ax en u v b8 b1 b9 b10 b4 mb:Nat} [hs:RdIn As sv Int (cI .i64) S] (hS:S=[(a:Int),(b:Int),(c:Int)]) (hax:ax < 3) (hen:en < 2) (ha:2≤a) (hb:2≤b) (hc:2≤c) (ha9:a≤9) (hb9:b≤9) (hc9:c≤9)
    (hu:u < size3 a b c (ax1 ax)) (hv:v < size3 a b c (ax2 ax)) :
    CallsS Tryz.prog w0 115 [.int .i64 (u:Int),.int .i64 (v:Int),.pointer (some ⟨b8,0,none⟩),.pointer (some ⟨b1,0,none⟩),.pointer (some ⟨b9,0,none⟩),.pointer (some ⟨b10,0,none⟩),.pointer (some ⟨b4,0,none⟩)]
      (cornerE b8 b1 b9 b10 b4 mb sv dv ax en (nodesF a b c) As) fun z Bs=>z=.int .i64 (posN (nodesF a b c) (nodeAt ax (en * (size3 a b c ax - 1)) u v):Int)∧Bs=cornerE b8 b1 b9 b10 b4 mb sv dv ax en (nodesF a b c) As:=by
  have hm:mGet (idxL (nodesF a b c) (nodesF a b c).length) (nodeAt ax (en * (size3 a b c ax - 1)) u v)=some (posN (nodesF a b c) (nodeAt ax (en * (size3 a b c ax - 1)) u v)):=idxL_all (nodes_nodup a b c (a * b * c)) (corner_mem hax hen ha hb hc hu hv)
  have g0:S[0]?=some (a:Int):=by rw [hS];rfl
  have g1:S[1]?=some (b:Int):=by rw [hS];rfl
  have g2:S[2]?=some (c:Int):=by rw [hS];rfl
  have hl3:S.length=3:=by rw [hS];rfl
  have hax':ax=0∨ax=1∨ax=2:=by omega
  have hen':en=0∨en=1:=by omega
  show CallsS _ _ _ _ (.cl b8 _ _::.cl b1 _ _::.cl b9 _ _::.cl b10 _ _::.cl b4 _ _::.ob mb _::As) fun z Bs=>z=_∧Bs=(.cl b8 _ _::.cl b1 _ _::.cl b9 _ _::.cl b10 _ _::.cl b4 _ _::.ob mb _::As)
  generalize hL:nodesF a b c=L at hm
  rcases hax' with rfl|rfl|rfl<;>rcases hen' with rfl|rfl
  · have hnode:nodeAt 0 (0 * (size3 a b c 0 - 1)) u v=⟨((0:Nat):Int),u,v⟩:=by
      simp only [nodeAt,size3];simp
    have hu':u < 10:=by simp only [size3,ax1] at hu;simp at hu;omega
    have hv':v < 10:=by simp only [size3,ax2] at hv;simp at hv;omega
    have hmul:(0:Int) * ((a - 1:Nat):Int)=((0:Nat):Int):=by omega
    rw [hnode] at hm ⊢
    refine CallsS.of_tri Tryz.func115 rfl Tryz.ntmps115 rfl ?_
    show Tri _ _ _ _ _ (.cl b8 [.int .i64 0,.int .i64 0] _::.cl b1 _ _::.cl b9 [.int .i64 1] _::.cl b10 [.int .i64 2] _::.cl b4 _ _::.ob mb _::As) _
    (repeat' first|(refine Ka ?_;first|refine Kb ?_|(refine Kc ?_;intro _))|refine Kd ?_|refine Kh ?_)
    rename_i b0
    refine Tri.dw (.cl b8 [.int .i64 0,.int .i64 0] 177::.cl b1 [sv,.int .i64 3,dv] 76::As) [] (.take 0 (.take 1 (.take 2 (.take 3 (.take 4 (.take 5 (.take 6 (.take 7 (.take 8 (.take 9 (.take 10 (.take 11 (.take 12 (.all [(13,.done)])))))))))))))) ?_
    (repeat' first|(refine Ka ?_;first|refine Kb ?_|(refine Kc ?_;intro _))|refine Kd ?_|(refine Ki ?_;refine Kj ?_)|exact Kk|refine Kl ?_ ?_|(refine Km ?_;first|refine Kn ?_|(refine Ko ?_;intro _))|(refine Kp ?_;first|refine Kq ?_|refine Kr ?_)|refine Kh ?_)
    rw [hmul]
    refine Tri.dw (.cl b9 [.int .i64 1] 3::.cl b10 [.int .i64 2] 3::As) [] (.take 0 (.take 1 (.take 2 (.take 3 (.take 4 (.all [(5,.take 6 (.all [(7,.done)]))])))))) ?_
    (repeat' first|(refine Ka ?_;first|refine Kb ?_|(refine Kc ?_;intro _))|refine Kd ?_|(refine Ki ?_;refine Kj ?_)|exact Kk|refine Kl ?_ ?_|(refine Km ?_;first|refine Kn ?_|(refine Ko ?_;intro _))|(refine Kp ?_;first|refine Kq ?_|refine Kr ?_)|refine Kh ?_)
    (refine Post.ra ?_)
    exact ⟨_,⟨rfl,rfl⟩,(show Ents _ (.cl b8 [.int .i64 0,.int .i64 0] _::.cl b1 _ _::.cl b9 [.int .i64 1] _::.cl b10 [.int .i64 2] _::.cl b4 _ _::.ob mb _::As) by (exact Ents.au))⟩
  · have hnode:nodeAt 0 (1 * (size3 a b c 0 - 1)) u v=⟨((a - 1:Nat):Int),u,v⟩:=by
      simp only [nodeAt,size3];simp
    have hu':u < 10:=by simp only [size3,ax1] at hu;simp at hu;omega
    have hv':v < 10:=by simp only [size3,ax2] at hv;simp at hv;omega
    have hmul:(1:Int) * ((a - 1:Nat):Int)=((a - 1:Nat):Int):=by omega
    rw [hnode] at hm ⊢
    refine CallsS.of_tri Tryz.func115 rfl Tryz.ntmps115 rfl ?_
    show Tri _ _ _ _ _ (.cl b8 [.int .i64 0,.int .i64 1] _::.cl b1 _ _::.cl b9 [.int .i64 1] _::.cl b10 [.int .i64 2] _::.cl b4 _ _::.ob mb _::As) _
    (repeat' first|(refine Ka ?_;first|refine Kb ?_|(refine Kc ?_;intro _))|refine Kd ?_|(refine Ki ?_;refine Kj ?_)|exact Kk|refine Kl ?_ ?_|(refine Km ?_;first|refine Kn ?_|(refine Ko ?_;intro _))|(refine Kp ?_;first|refine Kq ?_|refine Kr ?_)|refine Kh ?_)
    rename_i b0
    refine Tri.dw (.cl b8 [.int .i64 0,.int .i64 1] 177::.cl b1 [sv,.int .i64 3,dv] 76::As) [] (.take 0 (.take 1 (.take 2 (.take 3 (.take 4 (.take 5 (.take 6 (.take 7 (.take 8 (.take 9 (.take 10 (.take 11 (.take 12 (.all [(13,.done)])))))))))))))) ?_
    (repeat' first|(refine Ka ?_;first|refine Kb ?_|(refine Kc ?_;intro _))|refine Kd ?_|(refine Ki ?_;refine Kj ?_)|exact Kk|refine Kl ?_ ?_|(refine Km ?_;first|refine Kn ?_|(refine Ko ?_;intro _))|(refine Kp ?_;first|refine Kq ?_|refine Kr ?_)|refine Kh ?_)
    rw [hmul]
    refine Tri.dw (.cl b9 [.int .i64 1] 3::.cl b10 [.int .i64 2] 3::As) [] (.take 0 (.take 1 (.take 2 (.take 3 (.take 4 (.all [(5,.take 6 (.all [(7,.done)]))])))))) ?_
    (repeat' first|(refine Ka ?_;first|refine Kb ?_|(refine Kc ?_;intro _))|refine Kd ?_|(refine Ki ?_;refine Kj ?_)|exact Kk|refine Kl ?_ ?_|(refine Km ?_;first|refine Kn ?_|(refine Ko ?_;intro _))|(refine Kp ?_;first|refine Kq ?_|refine Kr ?_)|refine Kh ?_)
    (refine Post.ra ?_)
    exact ⟨_,⟨rfl,rfl⟩,(show Ents _ (.cl b8 [.int .i64 0,.int .i64 1] _::.cl b1 _ _::.cl b9 [.int .i64 1] _::.cl b10 [.int .i64 2] _::.cl b4 _ _::.ob mb _::As) by (exact Ents.au))⟩
  · have hnode:nodeAt 1 (0 * (size3 a b c 1 - 1)) u v=⟨u,((0:Nat):Int),v⟩:=by
      simp only [nodeAt,size3];simp
    have hu':u < 10:=by simp only [size3,ax1] at hu;simp at hu;omega
    have hv':v < 10:=by simp only [size3,ax2] at hv;simp at hv;omega
    have hmul:(0:Int) * ((b - 1:Nat):Int)=((0:Nat):Int):=by omega
    rw [hnode] at hm ⊢
    refine CallsS.of_tri Tryz.func115 rfl Tryz.ntmps115 rfl ?_
    show Tri _ _ _ _ _ (.cl b8 [.int .i64 1,.int .i64 0] _::.cl b1 _ _::.cl b9 [.int .i64 0] _::.cl b10 [.int .i64 2] _::.cl b4 _ _::.ob mb _::As) _
    (repeat' first|(refine Ka ?_;first|refine Kb ?_|(refine Kc ?_;intro _))|refine Kd ?_|(refine Ki ?_;refine Kj ?_)|exact Kk|refine Kl ?_ ?_|(refine Km ?_;first|refine Kn ?_|(refine Ko ?_;intro _))|(refine Kp ?_;first|refine Kq ?_|refine Kr ?_)|refine Kh ?_)
    rename_i b0
    refine Tri.dw (.cl b8 [.int .i64 1,.int .i64 0] 177::.cl b1 [sv,.int .i64 3,dv] 76::As) [] (.take 0 (.take 1 (.take 2 (.take 3 (.take 4 (.take 5 (.take 6 (.take 7 (.take 8 (.take 9 (.take 10 (.take 11 (.take 12 (.all [(13,.done)])))))))))))))) ?_
    (repeat' first|(refine Ka ?_;first|refine Kb ?_|(refine Kc ?_;intro _))|refine Kd ?_|(refine Ki ?_;refine Kj ?_)|exact Kk|refine Kl ?_ ?_|(refine Km ?_;first|refine Kn ?_|(refine Ko ?_;intro _))|(refine Kp ?_;first|refine Kq ?_|refine Kr ?_)|refine Kh ?_)
    rw [hmul]
    refine Tri.dw (.cl b9 [.int .i64 0] 3::.cl b10 [.int .i64 2] 3::As) [] (.take 0 (.take 1 (.take 2 (.take 3 (.take 4 (.all [(5,.take 6 (.all [(7,.done)]))])))))) ?_
    (repeat' first|(refine Ka ?_;first|refine Kb ?_|(refine Kc ?_;intro _))|refine Kd ?_|(refine Ki ?_;refine Kj ?_)|exact Kk|refine Kl ?_ ?_|(refine Km ?_;first|refine Kn ?_|(refine Ko ?_;intro _))|(refine Kp ?_;first|refine Kq ?_|refine Kr ?_)|refine Kh ?_)
    (refine Post.ra ?_)
    exact ⟨_,⟨rfl,rfl⟩,(show Ents _ (.cl b8 [.int .i64 1,.int .i64 0] _::.cl b1 _ _::.cl b9 [.int .i64 0] _::.cl b10 [.int .i64 2] _::.cl b4 _ _::.ob mb _::As) by (exact Ents.au))⟩
  · have hnode:nodeAt 1 (1 * (size3 a b c 1 - 1)) u v=⟨u,((b - 1:Nat):Int),v⟩:=by
      simp only [nodeAt,size3];simp
    have hu':u < 10:=by simp only [size3,ax1] at hu;simp at hu;omega
    have hv':v < 10:=by simp only [size3,ax2] at hv;simp at hv;omega
    have hmul:(1:Int) * ((b - 1:Nat):Int)=((b - 1:Nat):Int):=by omega
    rw [hnode] at hm ⊢
    refine CallsS.of_tri Tryz.func115 rfl Tryz.ntmps115 rfl ?_
    show Tri _ _ _ _ _ (.cl b8 [.int .i64 1,.int .i64 1] _::.cl b1 _ _::.cl b9 [.int .i64 0] _::.cl b10 [.int .i64 2] _::.cl b4 _ _::.ob mb _::As) _
    (repeat' first|(refine Ka ?_;first|refine Kb ?_|(refine Kc ?_;intro _))|refine Kd ?_|(refine Ki ?_;refine Kj ?_)|exact Kk|refine Kl ?_ ?_|(refine Km ?_;first|refine Kn ?_|(refine Ko ?_;intro _))|(refine Kp ?_;first|refine Kq ?_|refine Kr ?_)|refine Kh ?_)
    rename_i b0
    refine Tri.dw (.cl b8 [.int .i64 1,.int .i64 1] 177::.cl b1 [sv,.int .i64 3,dv] 76::As) [] (.take 0 (.take 1 (.take 2 (.take 3 (.take 4 (.take 5 (.take 6 (.take 7 (.take 8 (.take 9 (.take 10 (.take 11 (.take 12 (.all [(13,.done)])))))))))))))) ?_
    (repeat' first|(refine Ka ?_;first|refine Kb ?_|(refine Kc ?_;intro _))|refine Kd ?_|(refine Ki ?_;refine Kj ?_)|exact Kk|refine Kl ?_ ?_|(refine Km ?_;first|refine Kn ?_|(refine Ko ?_;intro _))|(refine Kp ?_;first|refine Kq ?_|refine Kr ?_)|refine Kh ?_)
    rw [hmul]
    refine Tri.dw (.cl b9 [.int .i64 0] 3::.cl b10 [.int .i64 2] 3::As) [] (.take 0 (.take 1 (.take 2 (.take 3 (.take 4 (.all [(5,.take 6 (.all [(7,.done)]))])))))) ?_
    (repeat' first|(refine Ka ?_;first|refine Kb ?_|(refine Kc ?_;intro _))|refine Kd ?_|(refine Ki ?_;refine Kj ?_)|exact Kk|refine Kl ?_ ?_|(refine Km ?_;first|refine Kn ?_|(refine Ko ?_;intro _))|(refine Kp ?_;first|refine Kq ?_|refine Kr ?_)|refine Kh ?_)
    (refine Post.ra ?_)
    exact ⟨_,⟨rfl,rfl⟩,(show Ents _ (.cl b8 [.int .i64 1,.int .i64 1] _::.cl b1 _ _::.cl b9 [.int .i64 0] _::.cl b10 [.int .i64 2] _::.cl b4 _ _::.ob mb _::As) by (exact Ents.au))⟩
  · have hnode:nodeAt 2 (0 * (size3 a b c 2 - 1)) u v=⟨u,v,((0:Nat):Int)⟩:=by
      simp only [nodeAt,size3];simp
    have hu':u < 10:=by simp only [size3,ax1] at hu;simp at hu;omega
    have hv':v < 10:=by simp only [size3,ax2] at hv;simp at hv;omega
    have hmul:(0:Int) * ((c - 1:Nat):Int)=((0:Nat):Int):=by omega
    rw [hnode] at hm ⊢
    refine CallsS.of_tri Tryz.func115 rfl Tryz.ntmps115 rfl ?_
    show Tri _ _ _ _ _ (.cl b8 [.int .i64 2,.int .i64 0] _::.cl b1 _ _::.cl b9 [.int .i64 0] _::.cl b10 [.int .i64 1] _::.cl b4 _ _::.ob mb _::As) _
    (repeat' first|(refine Ka ?_;first|refine Kb ?_|(refine Kc ?_;intro _))|refine Kd ?_|(refine Ki ?_;refine Kj ?_)|exact Kk|refine Kl ?_ ?_|(refine Km ?_;first|refine Kn ?_|(refine Ko ?_;intro _))|(refine Kp ?_;first|refine Kq ?_|refine Kr ?_)|refine Kh ?_)
    rename_i b0
    refine Tri.dw (.cl b8 [.int .i64 2,.int .i64 0] 177::.cl b1 [sv,.int .i64 3,dv] 76::As) [] (.take 0 (.take 1 (.take 2 (.take 3 (.take 4 (.take 5 (.take 6 (.take 7 (.take 8 (.take 9 (.take 10 (.take 11 (.take 12 (.all [(13,.done)])))))))))))))) ?_
    (repeat' first|(refine Ka ?_;first|refine Kb ?_|(refine Kc ?_;intro _))|refine Kd ?_|(refine Ki ?_;refine Kj ?_)|exact Kk|refine Kl ?_ ?_|(refine Km ?_;first|refine Kn ?_|(refine Ko ?_;intro _))|(refine Kp ?_;first|refine Kq ?_|refine Kr ?_)|refine Kh ?_)
    rw [hmul]
    refine Tri.dw (.cl b9 [.int .i64 0] 3::.cl b10 [.int .i64 1] 3::As) [] (.take 0 (.take 1 (.take 2 (.take 3 (.take 4 (.all [(5,.take 6 (.all [(7,.done)]))])))))) ?_
    (repeat' first|(refine Ka ?_;first|refine Kb ?_|(refine Kc ?_;intro _))|refine Kd ?_|(refine Ki ?_;refine Kj ?_)|exact Kk|refine Kl ?_ ?_|(refine Km ?_;first|refine Kn ?_|(refine Ko ?_;intro _))|(refine Kp ?_;first|refine Kq ?_|refine Kr ?_)|refine Kh ?_)
    (refine Post.ra ?_)
    exact ⟨_,⟨rfl,rfl⟩,(show Ents _ (.cl b8 [.int .i64 2,.int .i64 0] _::.cl b1 _ _::.cl b9 [.int .i64 0] _::.cl b10 [.int .i64 1] _::.cl b4 _ _::.ob mb _::As) by (exact Ents.au))⟩
  · have hnode:nodeAt 2 (1 * (size3 a b c 2 - 1)) u v=⟨u,v,((c - 1:Nat):Int)⟩:=by
      simp only [nodeAt,size3];simp
    have hu':u < 10:=by simp only [size3,ax1] at hu;simp at hu;omega
    have hv':v < 10:=by simp only [size3,ax2] at hv;simp at hv;omega
    have hmul:(1:Int) * ((c - 1:Nat):Int)=((c - 1:Nat):Int):=by omega
    rw [hnode] at hm ⊢
    refine CallsS.of_tri Tryz.func115 rfl Tryz.ntmps115 rfl ?_
    show Tri _ _ _ _ _ (.cl b8 [.int .i64 2,.int .i64 1] _::.cl b1 _ _::.cl b9 [.int .i64 0] _::.cl b10 [.int .i64 1] _::.cl b4 _ _::.ob mb _::As) _
    (repeat' first|(refine Ka ?_;first|refine Kb ?_|(refine Kc ?_;intro _))|refine Kd ?_|(refine Ki ?_;refine Kj ?_)|exact Kk|refine Kl ?_ ?_|(refine Km ?_;first|refine Kn ?_|(refine Ko ?_;intro _))|(refine Kp ?_;first|refine Kq ?_|refine Kr ?_)|refine Kh ?_)
    rename_i b0
    refine Tri.dw (.cl b8 [.int .i64 2,.int .i64 1] 177::.cl b1 [sv,.int .i64 3,dv] 76::As) [] (.take 0 (.take 1 (.take 2 (.take 3 (.take 4 (.take 5 (.take 6 (.take 7 (.take 8 (.take 9 (.take 10 (.take 11 (.take 12 (.all [(13,.done)])))))))))))))) ?_
    (repeat' first|(refine Ka ?_;first|refine Kb ?_|(refine Kc ?_;intro _))|refine Kd ?_|(refine Ki ?_;refine Kj ?_)|exact Kk|refine Kl ?_ ?_|(refine Km ?_;first|refine Kn ?_|(refine Ko ?_;intro _))|(refine Kp ?_;first|refine Kq ?_|refine Kr ?_)|refine Kh ?_)
    rw [hmul]
    refine Tri.dw (.cl b9 [.int .i64 0] 3::.cl b10 [.int .i64 1] 3::As) [] (.take 0 (.take 1 (.take 2 (.take 3 (.take 4 (.all [(5,.take 6 (.all [(7,.done)]))])))))) ?_
    (repeat' first|(refine Ka ?_;first|refine Kb ?_|(refine Kc ?_;intro _))|refine Kd ?_|(refine Ki ?_;refine Kj ?_)|exact Kk|refine Kl ?_ ?_|(refine Km ?_;first|refine Kn ?_|(refine Ko ?_;intro _))|(refine Kp ?_;first|refine Kq ?_|refine Kr ?_)|refine Kh ?_)
    (refine Post.ra ?_)
    exact ⟨_,⟨rfl,rfl⟩,(show Ents _ (.cl b8 [.int .i64 2,.int .i64 1] _::.cl b1 _ _::.cl b9 [.int .i64 0] _::.cl b10 [.int .i64 1] _::.cl b4 _ _::.ob mb _::As) by (exact Ents.au))⟩
end Go.Proofs.YtgapnfaakdjpaaaGreatDoor
