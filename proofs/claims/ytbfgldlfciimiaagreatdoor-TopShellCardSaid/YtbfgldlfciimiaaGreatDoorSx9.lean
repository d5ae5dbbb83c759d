/- The engine, part 9: the rules once more, each with the tactics for its side goals laid into its binders. -/
import Derived.Test.YtbfgldlfciimiaaGreatDoorSxA
set_option maxHeartbeats 1000000
namespace Go.Sx
open Go
/-- which entry an operation looks at: a block of cells, a slice, an object -/
inductive BK where
 | c (b:Nat)
 | w (v:Value)
 | o (b:Nat)
class OwnE (As:List Ent) (l:List (Nat × BK)) (o:outParam (List (Nat × List Ent))):Prop where
 h:True
instance OwnE.nil {As:List Ent}:OwnE As [] []:=⟨trivial⟩
instance OwnE.c {As:List Ent} {i b:Nat} {cs:List Value} {ct:TypeId} {rest:List Ent} {l:List (Nat × BK)} {o:List (Nat × List Ent)} [TakeC As b cs ct rest] [OwnE As l o]:OwnE As ((i,.c b)::l) ((i,[.cl b cs ct])::o):=⟨trivial⟩
instance OwnE.w {As:List Ent} {i:Nat} {v:Value} {α:Type} {cd:Cod α} {xs:List α} {ct:TypeId} {rest:List Ent} {l:List (Nat × BK)} {o:List (Nat × List Ent)} [TakeW As v cd ct xs rest] [OwnE As l o]:OwnE As ((i,.w v)::l) ((i,[.ow cd ct v xs])::o):=⟨trivial⟩
instance OwnE.o {As:List Ent} {i b:Nat} {ob:Obj} {rest:List Ent} {l:List (Nat × BK)} {o:List (Nat × List Ent)} [TakeO As b ob rest] [OwnE As l o]:OwnE As ((i,.o b)::l) ((i,[.ob b ob])::o):=⟨trivial⟩
section
variable {P:Program} {N:Ctx} {w0:World} {e e':Env} {As As' Bs R R0:List Ent} {T:List (Nat × List Ent)} {Q:Exit→Act→World→Prop} {op:Op} {ty:TypeId} {v u u' u'':Value} {ops:Array Oper} {r:List Oper} {o:Oper} {pos:String} {af:Array Edge} {g:Option (Nat × Bool)} {d i:Nat} {t:Tree} {x:Operand} {c1 c2:Code} {b:Bool} {p:Prop} [Decidable p] {RR:Value→List Ent→Prop} {ff:Nat→Value} {AA:Nat→List Ent} {AV:Value→List Ent} {l l':List Oper} {e0:Env} {t':Tree} {K:Value→List Ent→Prop} {fn:Func} {rv rv' rv'':ResultVar}
/-- building a value, its cells written out -/
theorem Zyz {t n b:Nat} {z':Value} {ty:TypeId} {parts:Array (Nat × Operand)} {vs l:List Value} [TI P t z' n b] (hp:evs e (parts.toList.map (·.2))=some vs) (_hl:flatCells vs=l) (_h2:l.length=n)
  (hb:∀ w,(Instr.build t ((parts.toList.map (·.1)).zip vs).toArray).run P w=.ok (.agg l.toArray) w):ExF P N w0 (.build t parts) ty e As (.agg l.toArray):=ExF.build hp hb
/-- the element that cells are the code of -/
class DecL {α:Type} (c:Cod α) (vs:List Value) (y:outParam α):Prop where
 h:c.enc y=vs
instance {k:IntKind} {n:Nat}:DecL (cN k) [.int k (n:Int)] n:=⟨rfl⟩
instance {k:IntKind} {n:Int}:DecL (cI k) [.int k n] n:=⟨rfl⟩
instance {b:Bool}:DecL cB [.bool b] b:=⟨rfl⟩
section
variable {α:Type} {c:Cod α} {xs:List α} {rest:List Ent} {y:Operand}
theorem Zux {t:TypeId} {ud:TypeDesc} {n i k:Nat} {y0:α} {l0:List Value} [UL P t ud] (hag:aggB ud=false) (hx:ev e x=some (.pointer (some (elp n v i k)))) [hr:RdIn As v α c xs] (hcn:c.n=n) (hi:xs[i]?=some y0) [e0:EncL c y0 l0] (hk:l0[k]?=some u) :
  ExF P N w0 (.load t x) ty e As u:=Zoc hag hx hcn hi (by rw [e0.h];exact hk)
theorem Zur {t:TypeId} {z':Value} {b' n i k:Nat} {y0 y1:α} {l0 l:List Value} {T:TypeId} [TI P t z' 1 b'] (hx:ev e x=some (.pointer (some (elp n v i k)))) (hy:ev e y=some u) (hu:u.cells.toList=[u]) (h1:u.oneCell'=true)
  [TakeW As v c T xs rest] (hcn:c.n=n) (hi:xs[i]?=some y0) (hk:Nat.blt k n=true) [e0:EncL c y0 l0] (hs:setAll l0 k [u]=l) [dd:DecL c l y1]:ExU P N w0 (.store t x y) ty e As (.ow c T v (xs.set i y1)::rest) :=
 Zjm hx hy hu h1 hcn hi hk (by rw [e0.h,dd.h,hs])
theorem Zuq {t:TypeId} {z':Value} {s b' n i k:Nat} {y0 y1:α} {vs l0 l:List Value} {T:TypeId} [TI P t z' s b'] (hx:ev e x=some (.pointer (some (elp n v i k)))) (hy:ev e y=some (.agg vs.toArray)) (hn:vs.length=s) (h1:oneB vs=true)
  [TakeW As v c T xs rest] (hcn:c.n=n) (hi:xs[i]?=some y0) (hk:Nat.ble (k+s) n=true) [e0:EncL c y0 l0] (hs:setAll l0 k vs=l) [dd:DecL c l y1]:ExU P N w0 (.store t x y) ty e As (.ow c T v (xs.set i y1)::rest) :=
 Zat hx hy (by simp [Value.cells]) hn h1 hcn hi hk (by rw [e0.h,dd.h,hs])
end
section
variable {α:Type} {c:Cod α} {xs:List α} {rest:List Ent} {y:Operand}
/-- a slice that is known to be one is one cell -/
theorem Zup {t:TypeId} {z':Value} {b' b off:Nat} {l l':List Value} {T:TypeId} [TI P t z' 1 b'] (hx:ev e x=some (.pointer (some ⟨b,off,none⟩))) (hy:ev e y=some v) [hr:RdIn As v α c xs] [TakeC As b l T rest]
  (hl:Nat.blt off l.length=true) (hl':l.set off v=l'):ExU P N w0 (.store t x y) ty e As (.cl b l' T::rest):=by
 unfold ExU
 intro a w ha hs
 obtain ⟨p,cap,hv,_⟩:=(hr.get w0 w hs).len
 have h0:=ExU.store (P:=P) (N:=N) (w0:=w0) (ty:=ty) (As:=As) (rest:=rest) (t:=t) hx hy (by rw [hv];rfl) (by rw [hv];rfl) hl hl'
 unfold ExU at h0
 exact h0 a w ha hs
/-- a slice written out -/
theorem Zji {l:List Oper} (v:Value) [hr:RdIn As v α c xs] (h:∀ p cap,v=.slice p xs.length cap→TL P N w0 ops l e As Q):TL P N w0 ops l e As Q:=by
 unfold TL
 intro i hi a w ha hs
 obtain ⟨p,cap,hv,_⟩:=(hr.get w0 w hs).len
 have h0:=h p cap hv
 unfold TL at h0
 exact h0 i hi a w ha hs
theorem Zp4 (v:Value) [hr:RdIn As v α c xs] (h:∀ p cap,v=.slice p xs.length cap→Tri P N w0 c1 e As Q):Tri P N w0 c1 e As Q:=by
 unfold Tri
 intro a w ha hs
 obtain ⟨p,cap,hv,_⟩:=(hr.get w0 w hs).len
 have h0:=h p cap hv
 unfold Tri at h0
 exact h0 a w ha hs
theorem Ziu {ex:Exit} (v:Value) [hr:RdIn As v α c xs] (h:∀ p cap,v=.slice p xs.length cap→Post N w0 Q ex e As):Post N w0 Q ex e As:=by
 unfold Post
 intro a w ha hs
 obtain ⟨p,cap,hv,_⟩:=(hr.get w0 w hs).len
 have h0:=h p cap hv
 unfold Post at h0
 exact h0 a w ha hs
end
section
variable {α:Type} {c:Cod α} {xs ys:List α} {rest:List Ent} {y:Operand}
theorem ExR.ents {Bs':List Ent} (h:Ents As Bs') (k:ExR P N w0 op ty e Bs' RR):ExR P N w0 op ty e As RR:=by
 unfold ExR at k ⊢
 intro a w ha hs
 exact k a w ha (h w0 w hs)
/-- append to an empty slice that was written down -/
theorem Zut {t tx el:TypeId} {z0:α} {by_ b:Nat} {xv:Value} [UL P t (.slice el)] [UL P tx (.slice el)] [ElC P el α c z0 by_] (hx:ev e x=some (.slice (some ⟨b,0,none⟩) 0 0)) (hy:ev e y=some xv) [h:TakeC As b [] el rest] [hr:RdIn rest xv α c ys]
  (hb:(0+ys.length) * by_≤140737488355328) (h63:0+ys.length≤9223372036854775807):ExR P N w0 (.call ⟨.builtin .append,#[x,y],#[t,tx]⟩) ty e As (RW c el ys rest) :=
 ExR.ents (Ents.trans (Ents.perm h.perm) (Zb0 (n:=0) (cap:=0) c [] rfl rfl rfl)) (Zmf (xs:=[]) hx hy hb h63)
/-- append(v, y1), the element written out in cells -/
theorem Zsh {t el:TypeId} {z0:α} {by_ b m:Nat} {l:List Value} {ct:TypeId} {y1:α} {rest':List Ent} [UL P t (.slice el)] [ElC P el α c z0 by_] (hx:ev e x=some v) (hy:ev e y=some (.slice (some ⟨b,0,none⟩) 1 m)) [h:TakeC As b l ct rest] [h':TakeW rest v c el xs rest'] [dd:DecL c l y1]
  (hb:(xs.length+1) * by_≤140737488355328) (h63:xs.length+1≤9223372036854775807):ExR P N w0 (.call ⟨.builtin .append,#[x,y],#[t,t]⟩) ty e As (RW c el (xs++[y1]) rest'):=Zmg hx hy dd.h.symm hb h63
end
/-- a slice written down, its cells written out -/
theorem Zsf {t el ln n b:Nat} {z':Value} {ty:TypeId} {parts:Array (Nat × Operand)} {vs l:List Value} [UL P t (.slice el)] [TI P el z' n b] (hp:evs e (parts.toList.map (·.2))=some vs) (hl:flatCells vs=l) (h2:l.length=ln * n)
  (hb:∀ w,(Instr.buildSlice t ln ((parts.toList.map (·.1)).zip vs).toArray).run P w=.ok (.slice (some ⟨w.heap.size,0,none⟩) ln ln) (w.alloc (.cells l.toArray el))):ExR P N w0 (.buildSlice t ln parts) ty e As (RB (fun b=>.slice (some ⟨b,0,none⟩) ln ln) (fun b=>.cl b l el::As)):=by
 subst hl
 exact Zme hp h2 hb
theorem Ziw (h:ExF P N w0 op ty e As v:=by (first|(show ExF _ _ _ (.move _) _ _ _ _;(exact ExF.move rfl))|(show ExF _ _ _ (.assign _) _ _ _ _;(exact ExF.assign rfl))|(show ExF _ _ _ (.load _ _) _ _ _ _;(first|exact ExF.load rfl rfl rfl|exact Zsl rfl rfl (by rfl)|exact Zsm rfl rfl (by rfl) (by (first|(simp only [List.drop_zero,List.drop_succ_cons,List.take_succ_cons,List.take_zero,Nat.zero_add,Nat.reduceAdd,Nat.reduceMul];exact rfl)|rfl))|(first|exact Zux rfl rfl (by rfl) (by assumption) (by (first|(simp only [List.getElem?_cons_zero,List.getElem?_cons_succ,Nat.zero_add,Nat.mul_one,Nat.add_zero,Nat.reduceAdd,Nat.reduceMul];exact rfl)|rfl))|exact Zoc rfl rfl (by rfl) (by assumption) (by rfl)|exact Zuw rfl rfl (by rfl) (by assumption)|exact Zmk rfl rfl (by rfl) (by assumption) (by rfl) (by (first|(simp only [List.drop_zero,List.drop_succ_cons,List.take_succ_cons,List.take_zero,Nat.zero_add,Nat.reduceAdd,Nat.reduceMul];exact rfl)|rfl)))))|(show ExF _ _ _ (.fieldAddr _ _ _) _ _ _ _;(first|exact ExF.fieldAddr rfl (by (rfl))|exact ExF.fldElp rfl rfl))|(show ExF _ _ _ (.indexAddr _ _ _) _ _ _ _;(first|exact Zsn rfl rfl (by (first|decide|omega)) (by (rfl))|(first|exact Z3a rfl (by rfl) rfl (by (first|omega|(show (0:Nat) < _;omega)|(show (1:Nat) < _;omega)|(show (2:Nat) < _;omega)|(show (3:Nat) < _;omega)|exact Nat.le_of_ble_eq_true rfl|fail))|exact Zyq rfl rfl (by (first|decide|omega)) rfl|exact Zyo rfl (by rfl) (by rfl) rfl (by (first|omega|(show (0:Nat) < _;omega)|(show (1:Nat) < _;omega)|(show (2:Nat) < _;omega)|(show (3:Nat) < _;omega)|exact Nat.le_of_ble_eq_true rfl|fail)) (by (first|omega|(simp only [List.length_nil,List.length_append,List.length_cons,List.length_replicate,List.length_set,List.length_map,List.length_take,List.length_drop];omega))))))|(show ExF _ _ _ (.binOp .add _ _ _ _) _ _ _ _;(first|exact Z58 rfl rfl (by (exact ⟨by omega,by omega⟩))|exact ExF.add rfl rfl|exact Z3f rfl rfl (by (first|omega|(simp only [List.length_nil,List.length_append,List.length_cons,List.length_replicate,List.length_set,List.length_map,List.length_take,List.length_drop];omega)))))|(show ExF _ _ _ (.binOp .sub _ _ _ _) _ _ _ _;(first|exact Z5z rfl rfl (by omega) (by (exact ⟨by omega,by omega⟩))|exact Zwu rfl rfl (by (exact ⟨by omega,by omega⟩))|exact ExF.sub rfl rfl))|(show ExF _ _ _ (.binOp .mul _ _ _ _) _ _ _ _;(first|exact Z54 rfl rfl (by (exact ⟨by omega,by omega⟩))|exact ExF.mul rfl rfl))|(show ExF _ _ _ (.binOp .lss _ _ _ _) _ _ _ _;(exact ExF.lss rfl rfl))|(show ExF _ _ _ (.binOp .leq _ _ _ _) _ _ _ _;(exact ExF.leq rfl rfl))|(show ExF _ _ _ (.binOp .gtr _ _ _ _) _ _ _ _;(exact ExF.gtr rfl rfl))|(show ExF _ _ _ (.binOp .geq _ _ _ _) _ _ _ _;(exact ExF.geq rfl rfl))|(show ExF _ _ _ (.binOp .eql _ _ _ _) _ _ _ _;(first|exact ExF.eql rfl rfl|exact Z3b rfl rfl|exact Zww rfl rfl|exact Z57 rfl rfl|exact Zyt rfl rfl|exact Zys rfl rfl|(first|exact Z3c rfl rfl|exact Zso _ _ rfl rfl)))|(show ExF _ _ _ (.binOp .neq _ _ _ _) _ _ _ _;(first|exact ExF.neq rfl rfl|exact Z25 rfl rfl|exact Zwv rfl rfl|exact Z52 rfl rfl|exact Z26 rfl rfl|(first|exact Z27 rfl rfl|exact Zsi _ _ rfl rfl)))|(show ExF _ _ _ (.build _ _) _ _ _ _;(first|exact Zyx (fun w=>by kernel_rfl)|exact Zyy rfl (by rfl) (by rfl) (fun w=>by kernel_rfl)|exact Zyz rfl (by (simp only [flatCells,Value.cells,List.cons_append,List.nil_append,List.append_nil];exact rfl)) (by rfl) (fun w=>by kernel_rfl)|exact Zy0 rfl (by rfl) (fun w=>by kernel_rfl)))|(show ExF _ _ _ (.extract _ _) _ _ _ _;(exact ExF.extract rfl rfl))|(show ExF _ _ _ (.call ⟨.builtin .len,_,_⟩) _ _ _ _;(first|exact Z28 rfl|exact Zuy rfl|exact Zod rfl|(first|exact Z29 rfl|exact Zyn rfl)))|(show ExF _ _ _ (.unOp .not _ _) _ _ _ _;(exact ExF.not rfl))|(show ExF _ _ _ (.pick _ _ _) _ _ _ _;(first|exact Z23 rfl rfl|exact Z24 rfl rfl|exact Z21 rfl (by (first|assumption|omega|decide)) rfl|exact Z22 rfl (by (first|assumption|omega|decide)) rfl|exact Zyl rfl (by (first|assumption|omega|decide)) rfl|exact Zym rfl (by (first|assumption|omega|decide)) rfl))|(show ExF _ _ _ (.index _ _ _) _ _ _ _;(first|exact Zyr rfl rfl rfl rfl rfl|exact Zhw rfl rfl rfl rfl (by (first|(simp only [List.drop_zero,List.drop_succ_cons,List.take_succ_cons,List.take_zero,Nat.zero_add,Nat.reduceAdd,Nat.reduceMul];exact rfl)|rfl))|exact Zuz rfl rfl (by assumption)))|(show ExF _ _ _ (.convert _ _ _) _ _ _ _;(first|exact Z3e rfl (by (exact ⟨by omega,by omega⟩))|exact Zwx rfl|exact Z3d rfl))|(show ExF _ _ _ (.unOp .neg _ _) _ _ _ _;(first|exact Z53 rfl (by (exact ⟨by omega,by omega⟩))|exact ExF.neg rfl))|(show ExF _ _ _ (.binOp .rem _ _ _ _) _ _ _ _;(first|exact Z50 rfl rfl (by omega) (by omega)|exact ExF.rem rfl rfl (by omega)))|(show ExF _ _ _ (.binOp .quo _ _ _ _) _ _ _ _;(exact Z51 rfl rfl (by omega) (by omega) (by (exact ⟨by omega,by omega⟩))))|(show ExF _ _ _ (.makeFunc _ _ _) _ _ _ _;(exact ExF.makeFunc rfl rfl))|(show ExF _ _ _ (.nilCheck _) _ _ _ _;(exact Zqg rfl))|(show ExF _ _ _ (.field _ _ _) _ _ _ _;(first|exact ExF.fld rfl rfl rfl rfl|(fail)))|(show ExF _ _ _ (.lookup _ _ _ false) _ _ _ _;(first|exact Zuu rfl rfl (by assumption)|exact ExF.lookup rfl rfl))|(show ExF _ _ _ (.lookup _ _ _ true) _ _ _ _;(exact Zuv rfl rfl))|(show ExF _ _ _ (.call ⟨.builtin .min,_,_⟩) _ _ _ _;(first|exact Z55 rfl rfl|(fail)))|(show ExF _ _ _ (.call ⟨.builtin .max,_,_⟩) _ _ _ _;(first|exact Z56 rfl rfl|(fail)))|(show ExF _ _ _ (.binOp _ _ _ _ _) _ _ _ _;((fail)))|(show ExF _ _ _ (.call ⟨.value (.func _),_,_⟩) _ _ _ _;(exact Zsp rfl))|(show ExF _ _ _ (.call ⟨.builtin _,_,_⟩) _ _ _ _;((fail))))):ExF P N w0 op ty e As v:=h
theorem Zwr (h:ExU P N w0 op ty e As As':=by (first|(show ExU _ _ _ (.store _ _ _) _ _ _ _;(first|exact Zyh rfl rfl rfl rfl|exact Zqe rfl rfl (by rfl) (by (first|rfl|(simp only [flatCells,oneB, *]<;>rfl)|(simp only [flatCells,oneB,Bool.and_true,Bool.true_and,Bool.and_eq_true];exact ⟨by assumption,by assumption,rfl⟩)|(simp [flatCells,oneB, *];done)|fail)) (by rfl)|exact ExU.store rfl rfl rfl rfl rfl (by (first|(simp only [List.set_cons_zero,List.set_cons_succ,Nat.zero_add,Nat.add_zero,Nat.reduceAdd,Nat.reduceMul];exact rfl)|rfl))|exact Zup rfl rfl rfl (by (first|(simp only [List.set_cons_zero,List.set_cons_succ,Nat.zero_add,Nat.add_zero,Nat.reduceAdd,Nat.reduceMul];exact rfl)|rfl))|exact Zoa rfl rfl (by rfl) (by rfl) (by rfl) (by (first|(simp only [List.set_cons_zero,List.set_cons_succ,Nat.zero_add,Nat.add_zero,Nat.reduceAdd,Nat.reduceMul];exact rfl)|rfl))|(first|exact Zun rfl rfl (by rfl) (by rfl) (by rfl) (by (first|omega|(show (0:Nat) < _;omega)|(show (1:Nat) < _;omega)|(show (2:Nat) < _;omega)|(show (3:Nat) < _;omega)|exact Nat.le_of_ble_eq_true rfl|fail))|exact Zur rfl rfl (by rfl) (by rfl) (by rfl) (by (first|assumption|exact rfl|fail)) (by rfl) (by (simp only [setAll,List.take_succ_cons,List.take_zero,List.drop_succ_cons,List.drop_zero,List.drop_nil,List.length_cons,List.length_nil,List.cons_append,List.nil_append,List.append_nil,Nat.mul_one,Nat.zero_add,Nat.add_zero,Nat.reduceAdd,Nat.reduceMul];exact rfl))|exact Zuq rfl rfl (by rfl) (by (first|rfl|(simp only [flatCells,oneB, *]<;>rfl)|(simp only [flatCells,oneB,Bool.and_true,Bool.true_and,Bool.and_eq_true];exact ⟨by assumption,by assumption,rfl⟩)|(simp [flatCells,oneB, *];done)|fail)) (by rfl) (by (first|assumption|exact rfl|fail)) (by rfl) (by (simp only [setAll,List.take_succ_cons,List.take_zero,List.drop_succ_cons,List.drop_zero,List.drop_nil,List.length_cons,List.length_nil,List.cons_append,List.nil_append,List.append_nil,Nat.mul_one,Nat.zero_add,Nat.add_zero,Nat.reduceAdd,Nat.reduceMul];exact rfl))|exact Zjm rfl rfl (by rfl) (by rfl) (by rfl) (by assumption) (by rfl) (by rfl)|exact Zat rfl rfl (by rfl) (by rfl) (by rfl) (by rfl) (by assumption) (by rfl) (by rfl)|exact Zuo rfl rfl (by rfl) (by (first|(simp only [List.set_cons_zero,List.set_cons_succ,Nat.zero_add,Nat.add_zero,Nat.reduceAdd,Nat.reduceMul];exact rfl)|rfl)))))|(show ExU _ _ _ (.mapUpdate _ _ _ _) _ _ _ _;(exact ExU.mapUpdate rfl rfl rfl))|(show ExU _ _ _ (.entryStore _ _ _ _) _ _ _ _;(exact ExU.entryStore rfl rfl rfl)))):ExU P N w0 op ty e As As':=h
theorem Zwt (h:ExR P N w0 op ty e As RR:=by (first|(show ExR _ _ _ (.alloc _) _ _ _ _;(first|exact Zyj|exact Zyk rfl))|(show ExR _ _ _ (.box _ _) _ _ _ _;(first|exact Z5v rfl|exact Z5w rfl rfl))|(show ExR _ _ _ (.buildSlice _ _ _) _ _ _ _;(first|exact Zsf rfl (by (simp only [flatCells,Value.cells,List.cons_append,List.nil_append,List.append_nil];exact rfl)) (by rfl) (fun w=>by kernel_rfl)|exact Zme rfl (by rfl) (fun w=>by kernel_rfl))))):ExR P N w0 op ty e As RR:=h
theorem Zn9 (h:ExR P N w0 op ty e As RR:=by (first|(show ExR _ _ _ (.makeSlice _ _ _) _ _ _ _;(first|exact Zws rfl rfl (by omega) (by omega) (by omega)|exact Zdb (n:=0) rfl rfl (by omega) (by omega) (by omega) (by omega)|exact Zdb rfl rfl (by omega) (by omega) (by omega) (by omega)))|(show ExR _ _ _ (.call ⟨.builtin .append,_,_⟩) _ _ _ _;(first|exact Zmg rfl rfl (by rfl) (by (first|omega|(simp only [List.length_nil,List.length_append,List.length_cons,List.length_replicate,List.length_set,List.length_map,List.length_take,List.length_drop];omega))) (by (first|omega|(simp only [List.length_nil,List.length_append,List.length_cons,List.length_replicate,List.length_set,List.length_map,List.length_take,List.length_drop];omega)))|exact Zsh rfl rfl (by (first|omega|(simp only [List.length_nil,List.length_append,List.length_cons,List.length_replicate,List.length_set,List.length_map,List.length_take,List.length_drop];omega))) (by (first|omega|(simp only [List.length_nil,List.length_append,List.length_cons,List.length_replicate,List.length_set,List.length_map,List.length_take,List.length_drop];omega)))|exact Zut rfl rfl (by (first|omega|(simp only [List.length_nil,List.length_append,List.length_cons,List.length_replicate,List.length_set,List.length_map,List.length_take,List.length_drop];omega))) (by (first|omega|(simp only [List.length_nil,List.length_append,List.length_cons,List.length_replicate,List.length_set,List.length_map,List.length_take,List.length_drop];omega)))|exact Zmf rfl rfl (by (first|omega|(simp only [List.length_nil,List.length_append,List.length_cons,List.length_replicate,List.length_set,List.length_map,List.length_take,List.length_drop];omega))) (by (first|omega|(simp only [List.length_nil,List.length_append,List.length_cons,List.length_replicate,List.length_set,List.length_map,List.length_take,List.length_drop];omega)))|exact Zus rfl rfl (by (first|omega|(simp only [List.length_nil,List.length_append,List.length_cons,List.length_replicate,List.length_set,List.length_map,List.length_take,List.length_drop];omega))) (by (first|omega|(simp only [List.length_nil,List.length_append,List.length_cons,List.length_replicate,List.length_set,List.length_map,List.length_take,List.length_drop];omega)))))|(show ExR _ _ _ (.slice _ _ none (some _) none) _ _ _ _;(first|exact Zgn rfl Zpn (Za6 rfl) (by (first|omega|(show (0:Nat)≤_;omega)|(show (1:Nat)≤_;omega)|(show (2:Nat)≤_;omega)|(show (3:Nat)≤_;omega)|(show _≤(3:Nat);omega)|fail)) (by (first|omega|(show (0:Nat)≤_;omega)|(show (1:Nat)≤_;omega)|(show (2:Nat)≤_;omega)|(show (3:Nat)≤_;omega)|(show _≤(3:Nat);omega)|fail))|exact Zjn rfl (by rfl) Zpn (Za6 rfl) (by (first|omega|(show (0:Nat)≤_;omega)|(show (1:Nat)≤_;omega)|(show (2:Nat)≤_;omega)|(show (3:Nat)≤_;omega)|(show _≤(3:Nat);omega)|fail)) (by (first|omega|(show (0:Nat)≤_;omega)|(show (1:Nat)≤_;omega)|(show (2:Nat)≤_;omega)|(show (3:Nat)≤_;omega)|(show _≤(3:Nat);omega)|fail))|exact Zjo rfl (by rfl) Zpn (Za6 rfl) (by (first|omega|(show (0:Nat)≤_;omega)|(show (1:Nat)≤_;omega)|(show (2:Nat)≤_;omega)|(show (3:Nat)≤_;omega)|(show _≤(3:Nat);omega)|fail)) (by (first|omega|(show (0:Nat)≤_;omega)|(show (1:Nat)≤_;omega)|(show (2:Nat)≤_;omega)|(show (3:Nat)≤_;omega)|(show _≤(3:Nat);omega)|fail))))|(show ExR _ _ _ (.slice _ _ (some _) none none) _ _ _ _;(first|exact Zgn rfl (Za3 rfl) Zbc (by (first|omega|(show (0:Nat)≤_;omega)|(show (1:Nat)≤_;omega)|(show (2:Nat)≤_;omega)|(show (3:Nat)≤_;omega)|(show _≤(3:Nat);omega)|fail)) (by (first|omega|(show (0:Nat)≤_;omega)|(show (1:Nat)≤_;omega)|(show (2:Nat)≤_;omega)|(show (3:Nat)≤_;omega)|(show _≤(3:Nat);omega)|fail))|exact Zjn rfl (by rfl) (Za3 rfl) Zbc (by (first|omega|(show (0:Nat)≤_;omega)|(show (1:Nat)≤_;omega)|(show (2:Nat)≤_;omega)|(show (3:Nat)≤_;omega)|(show _≤(3:Nat);omega)|fail)) (by (first|omega|(show (0:Nat)≤_;omega)|(show (1:Nat)≤_;omega)|(show (2:Nat)≤_;omega)|(show (3:Nat)≤_;omega)|(show _≤(3:Nat);omega)|fail))|exact Zjo rfl (by rfl) (Za3 rfl) Zbc (by (first|omega|(show (0:Nat)≤_;omega)|(show (1:Nat)≤_;omega)|(show (2:Nat)≤_;omega)|(show (3:Nat)≤_;omega)|(show _≤(3:Nat);omega)|fail)) (by (first|omega|(show (0:Nat)≤_;omega)|(show (1:Nat)≤_;omega)|(show (2:Nat)≤_;omega)|(show (3:Nat)≤_;omega)|(show _≤(3:Nat);omega)|fail))))|(show ExR _ _ _ (.slice _ _ (some _) (some _) none) _ _ _ _;(first|exact Zgn rfl (Za3 rfl) (Za6 rfl) (by (first|omega|(show (0:Nat)≤_;omega)|(show (1:Nat)≤_;omega)|(show (2:Nat)≤_;omega)|(show (3:Nat)≤_;omega)|(show _≤(3:Nat);omega)|fail)) (by (first|omega|(show (0:Nat)≤_;omega)|(show (1:Nat)≤_;omega)|(show (2:Nat)≤_;omega)|(show (3:Nat)≤_;omega)|(show _≤(3:Nat);omega)|fail))|exact Zjn rfl (by rfl) (Za3 rfl) (Za6 rfl) (by (first|omega|(show (0:Nat)≤_;omega)|(show (1:Nat)≤_;omega)|(show (2:Nat)≤_;omega)|(show (3:Nat)≤_;omega)|(show _≤(3:Nat);omega)|fail)) (by (first|omega|(show (0:Nat)≤_;omega)|(show (1:Nat)≤_;omega)|(show (2:Nat)≤_;omega)|(show (3:Nat)≤_;omega)|(show _≤(3:Nat);omega)|fail))|exact Zjo rfl (by rfl) (Za3 rfl) (Za6 rfl) (by (first|omega|(show (0:Nat)≤_;omega)|(show (1:Nat)≤_;omega)|(show (2:Nat)≤_;omega)|(show (3:Nat)≤_;omega)|(show _≤(3:Nat);omega)|fail)) (by (first|omega|(show (0:Nat)≤_;omega)|(show (1:Nat)≤_;omega)|(show (2:Nat)≤_;omega)|(show (3:Nat)≤_;omega)|(show _≤(3:Nat);omega)|fail))))|(show ExR _ _ _ (.mapEntry _ _ _) _ _ _ _;(exact ExR.mapEntry rfl rfl)))):ExR P N w0 op ty e As RR:=h
theorem Zd0 (h:RV P N w0 e As rv v:=by (first|exact RV.tmp rfl|exact RV.cell rfl rfl rfl|exact Z5t rfl rfl (by rfl)|exact Zwp rfl rfl (by rfl) (by (first|(simp only [List.drop_zero,List.drop_succ_cons,List.take_succ_cons,List.take_zero,Nat.zero_add,Nat.reduceAdd,Nat.reduceMul];exact rfl)|rfl)))):RV P N w0 e As rv v:=h
theorem Zad (h:Sub e e':=by (repeat (first|exact trivial|refine ⟨rfl,?_⟩))):Sub e e':=h
theorem Zaa (h:Ents As Bs:=by exact Zfy inferInstance):Ents As Bs:=h
theorem Zfu (h:TL P N w0 ops r ((d,v)::e) As Q) (hg:gOk ops e g=some true:=by exact rfl) (hN:Nat.blt d N.N=true:=by exact rfl) (hx:ExF P N w0 op ty e As v:=by exact Ziw):TL P N w0 ops (⟨some d,op,ty,pos,af,g⟩::r) e As Q:=TL.f hg hN hx h
theorem Zfs (h:TL P N w0 ops r e As' Q) (hg:gOk ops e g=some true:=by exact rfl) (hx:ExU P N w0 op ty e As As':=by exact Zwr):TL P N w0 ops (⟨none,op,ty,pos,af,g⟩::r) e As Q:=TL.u hg hx h
theorem Zc8 (h:∀ b,TL P N w0 ops r ((d,ff b)::e) (AA b) Q) (hg:gOk ops e g=some true:=by exact rfl) (hN:Nat.blt d N.N=true:=by exact rfl) (hx:ExR P N w0 op ty e As (RB ff AA):=by exact Zwt):TL P N w0 ops (⟨some d,op,ty,pos,af,g⟩::r) e As Q:=TL.rb hg hN hx h
theorem Zeh (h:∀ v As',RR v As'→TL P N w0 ops r ((d,v)::e) As' Q) (hg:gOk ops e g=some true:=by exact rfl) (hN:Nat.blt d N.N=true:=by exact rfl) (hx:ExR P N w0 op ty e As RR:=by exact Zn9):TL P N w0 ops (⟨some d,op,ty,pos,af,g⟩::r) e As Q:=Zhv hg hN hx h
theorem Zb8 (h:TL P N w0 ops r ((d,undef)::e) As Q) (hg:gOk ops e g=some false:=by exact rfl) (hN:Nat.blt d N.N=true:=by exact rfl):TL P N w0 ops (⟨some d,op,ty,pos,af,g⟩::r) e As Q:=Z2f hg hN h
theorem Zbm (h:TL P N w0 ops r e As Q) (hg:gOk ops e g=some false:=by exact rfl):TL P N w0 ops (⟨none,op,ty,pos,af,g⟩::r) e As Q:=Zwn hg h
theorem Ya5 (k:TL P N w0 ops (o::r) ((d,.bool true)::e) As Q) (hd:gslot ops o.guard=some d:=by exact rfl) (he:e.get d=some (.bool (decide p)):=by exact rfl) (h:p:=by (first|assumption|omega|decide)):TL P N w0 ops (o::r) e As Q:=Ya6 hd he h k
theorem Ya7 (k:TL P N w0 ops (o::r) ((d,.bool false)::e) As Q) (hd:gslot ops o.guard=some d:=by exact rfl) (he:e.get d=some (.bool (decide p)):=by exact rfl) (h:¬ p:=by (first|assumption|omega|decide)):TL P N w0 ops (o::r) e As Q:=Ya8 hd he h k
theorem Z8z (k:TL P N w0 ops (o::r) ((d,.bool true)::e) As Q) (hd:gslot ops o.guard=some d:=by exact rfl) (he:e.get d=some (.bool !(decide p)):=by exact rfl) (h:¬ p:=by (first|assumption|omega|decide)):TL P N w0 ops (o::r) e As Q:=Z6q hd he h k
theorem Z80 (k:TL P N w0 ops (o::r) ((d,.bool false)::e) As Q) (hd:gslot ops o.guard=some d:=by exact rfl) (he:e.get d=some (.bool !(decide p)):=by exact rfl) (h:p:=by (first|assumption|omega|decide)):TL P N w0 ops (o::r) e As Q:=Z6r hd he h k
theorem Zp7 [PanicOk Q] (h:TT P N w0 ops ⟨R0,T⟩ t ((d,v)::e) As Q) (ho:ops[i]?=some ⟨some d,op,ty,pos,af,g⟩:=by exact rfl) (hg:gOk ops e g=some true:=by exact rfl) (hN:Nat.blt d N.N=true:=by exact rfl) (hx:ExF P N w0 op ty e R0 v:=by exact Ziw):TT P N w0 ops ⟨R0,T⟩ (.take i t) e As Q:=TT.take ho hg hN hx h
theorem Zl5 [MemT T i R] [PanicOk Q] (h:TT P N w0 ops ⟨R0,T⟩ t ((d,v)::e) As Q) (ho:ops[i]?=some ⟨some d,op,ty,pos,af,g⟩:=by exact rfl) (hg:gOk ops e g=some true:=by exact rfl) (hN:Nat.blt d N.N=true:=by exact rfl) (hA:Ents As R:=by exact Zaa) (hx:ExF P N w0 op ty e R v:=by exact Ziw):TT P N w0 ops ⟨R0,T⟩ (.take i t) e As Q:=Zwm ho hg hN hA hx h
theorem Zum {l:List (Nat × List Ent)} (h:Keep ops i As l:=by repeat (first|exact Keep.nil|refine Keep.w (by decide +kernel) ?_|refine Keep.c Zaa ?_)):Keep ops i As l:=h
theorem Z2h [Cov As R0] (k:TT P N w0 ops ⟨R0,T⟩ t e As Q) (hk:Keep ops i As T:=by exact Zum):TC P N w0 ops ⟨R0,T⟩ i t e As Q:=Z81 hk k
theorem Zhu [PanicOk Q] (h:TT P N w0 ops ⟨R0,T⟩ t ((d,undef)::e) As Q) (ho:ops[i]?=some ⟨some d,op,ty,pos,af,g⟩:=by exact rfl) (hg:gOk ops e g=some false:=by exact rfl) (hN:Nat.blt d N.N=true:=by exact rfl):TT P N w0 ops ⟨R0,T⟩ (.take i t) e As Q:=Zn8 ho hg hN h
theorem Ya1 (k:TT P N w0 ops ⟨R0,T⟩ (.take i t) ((d,.bool true)::e) As Q) (ho:ops[i]?=some o:=by exact rfl) (hd:gslot ops o.guard=some d:=by exact rfl) (he:e.get d=some (.bool (decide p)):=by exact rfl) (h:p:=by (first|assumption|omega|decide)):TT P N w0 ops ⟨R0,T⟩ (.take i t) e As Q:=Ya2 ho hd he h k
theorem Ya3 (k:TT P N w0 ops ⟨R0,T⟩ (.take i t) ((d,.bool false)::e) As Q) (ho:ops[i]?=some o:=by exact rfl) (hd:gslot ops o.guard=some d:=by exact rfl) (he:e.get d=some (.bool (decide p)):=by exact rfl) (h:¬ p:=by (first|assumption|omega|decide)):TT P N w0 ops ⟨R0,T⟩ (.take i t) e As Q:=Ya4 ho hd he h k
theorem Z8v (k:TT P N w0 ops ⟨R0,T⟩ (.take i t) ((d,.bool true)::e) As Q) (ho:ops[i]?=some o:=by exact rfl) (hd:gslot ops o.guard=some d:=by exact rfl) (he:e.get d=some (.bool !(decide p)):=by exact rfl) (h:¬ p:=by (first|assumption|omega|decide)):TT P N w0 ops ⟨R0,T⟩ (.take i t) e As Q:=Z6o ho hd he h k
theorem Z8w (k:TT P N w0 ops ⟨R0,T⟩ (.take i t) ((d,.bool false)::e) As Q) (ho:ops[i]?=some o:=by exact rfl) (hd:gslot ops o.guard=some d:=by exact rfl) (he:e.get d=some (.bool !(decide p)):=by exact rfl) (h:p:=by (first|assumption|omega|decide)):TT P N w0 ops ⟨R0,T⟩ (.take i t) e As Q:=Z6p ho hd he h k
theorem Z82 (h:TC P N w0 ops ⟨R0,T⟩ i t e As' Q) (ho:ops[i]?=some ⟨none,op,ty,pos,af,g⟩:=by exact rfl) (hg:gOk ops e g=some true:=by exact rfl) (hx:ExU P N w0 op ty e As As':=by exact Zwr):T1 P N w0 ops ⟨R0,T⟩ i t e As Q:=T1.u ho hg hx h
theorem Z2k (h:∀ b,TC P N w0 ops ⟨R0,T⟩ i t ((d,ff b)::e) (AA b) Q) (ho:ops[i]?=some ⟨some d,op,ty,pos,af,g⟩:=by exact rfl) (hg:gOk ops e g=some true:=by exact rfl) (hN:Nat.blt d N.N=true:=by exact rfl) (hx:ExR P N w0 op ty e As (RB ff AA):=by exact Zwt):T1 P N w0 ops ⟨R0,T⟩ i t e As Q:=T1.rb ho hg hN hx h
theorem Z2j (h:∀ v As',RR v As'→TC P N w0 ops ⟨R0,T⟩ i t ((d,v)::e) As' Q) (ho:ops[i]?=some ⟨some d,op,ty,pos,af,g⟩:=by exact rfl) (hg:gOk ops e g=some true:=by exact rfl) (hN:Nat.blt d N.N=true:=by exact rfl) (hx:ExR P N w0 op ty e As RR:=by exact Zn9):T1 P N w0 ops ⟨R0,T⟩ i t e As Q:=Zc2 ho hg hN hx h
theorem Z83 (h:TC P N w0 ops ⟨R0,T⟩ i t ((d,v)::e) As Q) (ho:ops[i]?=some ⟨some d,op,ty,pos,af,g⟩:=by exact rfl) (hg:gOk ops e g=some true:=by exact rfl) (hN:Nat.blt d N.N=true:=by exact rfl) (hx:ExF P N w0 op ty e As v:=by exact Ziw):T1 P N w0 ops ⟨R0,T⟩ i t e As Q:=T1.f ho hg hN hx h
theorem Zuj (h:TC P N w0 ops ⟨R0,T⟩ i t ((d,undef)::e) As Q) (ho:ops[i]?=some ⟨some d,op,ty,pos,af,g⟩:=by exact rfl) (hg:gOk ops e g=some false:=by exact rfl) (hN:Nat.blt d N.N=true:=by exact rfl):T1 P N w0 ops ⟨R0,T⟩ i t e As Q:=T1.off ho hg hN h
theorem Zp8 (h:TC P N w0 ops ⟨R0,T⟩ i t e As Q) (ho:ops[i]?=some ⟨none,op,ty,pos,af,g⟩:=by exact rfl) (hg:gOk ops e g=some false:=by exact rfl):T1 P N w0 ops ⟨R0,T⟩ i t e As Q:=Z2l ho hg h
theorem Zui (k:Post N w0 Q .normal e As) (h:sinkAt .any ops i=true:=by kernel_rfl):TC P N w0 ops ⟨R0,T⟩ i .done e As Q:=Z2i h k
theorem Zb6 (k:Tri P N w0 c1 e As Q) (hx:ev e x=some (.bool true):=by exact rfl):Tri P N w0 (.cond x c1 c2) e As Q:=Z6m hx k
theorem Zb7 (k:Tri P N w0 c2 e As Q) (hx:ev e x=some (.bool false):=by exact rfl):Tri P N w0 (.cond x c1 c2) e As Q:=Z6n hx k
theorem Za7 (k:Tri P N w0 c1 e As Q) (hx:ev e x=some (.bool (decide p)):=by exact rfl) (h:p:=by (first|assumption|omega|decide)):Tri P N w0 (.cond x c1 c2) e As Q:=Zis hx h k
theorem Za8 (k:Tri P N w0 c2 e As Q) (hx:ev e x=some (.bool (decide p)):=by exact rfl) (h:¬ p:=by (first|assumption|omega|decide)):Tri P N w0 (.cond x c1 c2) e As Q:=Zit hx h k
theorem Zaw (k:Tri P N w0 c1 e As Q) (hx:ev e x=some (.bool !(decide p)):=by exact rfl) (h:¬ p:=by (first|assumption|omega|decide)):Tri P N w0 (.cond x c1 c2) e As Q:=Zn6 hx h k
theorem Zax (k:Tri P N w0 c2 e As Q) (hx:ev e x=some (.bool !(decide p)):=by exact rfl) (h:p:=by (first|assumption|omega|decide)):Tri P N w0 (.cond x c1 c2) e As Q:=Zn7 hx h k
theorem Zai [Mix P] {id:Nat} (t:Tree) (h:TT P N w0 ops ⟨As,[]⟩ t e As Q) (hd:Nat.ble t.depth ops.size=true:=by exact rfl) (hok:(tame ops&&t.ok ops (Array.replicate ops.size false))=true:=by kernel_rfl):Tri P N w0 (.region id ops true) e As Q:=Zc7 t hd hok h
theorem Zaf [Mix P] {id:Nat} (R0:List Ent) (l:List (Nat × BK)) (t:Tree) {T:List (Nat × List Ent)} [OwnE As l T] (h:TT P N w0 ops ⟨R0,T⟩ t e As Q) (hd:Nat.ble t.depth ops.size=true:=by exact rfl) (hok:(tame ops&&t.ok ops (Array.replicate ops.size false))=true:=by kernel_rfl) (hR:Ents As R0:=by exact Zaa):Tri P N w0 (.region id ops true) e As Q:=Zsa ⟨R0,T⟩ t hd hok hR h
/-- an entry comes to the front -/
theorem Zg6 {rest:List Ent} {l:List Oper} (y:Ent) [h:Take As y rest] (k:TL P N w0 ops l e (y::rest) Q):TL P N w0 ops l e As Q:=TL.ents (Ents.perm h.perm) k
theorem Z19 {rest:List Ent} (y:Ent) [h:Take As y rest] (k:Tri P N w0 c1 e (y::rest) Q):Tri P N w0 c1 e As Q:=Tri.ents (Ents.perm h.perm) k
theorem Zgp {rest:List Ent} {f:FuncId} {args:List Value} (y:Ent) [h:Take As y rest] (k:CallsS P w0 f args (y::rest) K):CallsS P w0 f args As K:=CallsS.ents (Ents.perm h.perm) k
/-- the fence of a context, whose fields may be known -/
class Fe (N:Ctx) (f:Fence):Prop where
 h:f=fen N.ro
instance {n:Nat} {r:Option Nat} {d:List Deferred}:Fe ⟨n,r,d⟩ (fen r):=⟨rfl⟩
class EqB (a b:Bool):Prop where
 h:a=b
instance {a:Bool}:EqB a a:=⟨rfl⟩
/-- a step without a choice: G' gives G -/
class Stp (G:Prop) (G':outParam Prop):Prop where
 h:G'→G
section
variable {c:Code} {x:Exit} {id n:Nat} {KK:Act→World→Prop}
instance:Stp (TL P N w0 ops [] e As Q) (Post N w0 Q .normal e As):=⟨TL.nil⟩
instance:Stp (Tri P N w0 (.seq c1 c2) e As Q) (Tri P N w0 c1 e As (Exit.then (c2.wpIn (fen N.ro) 0 P Q) Q)):=⟨Tri.seq⟩
instance:Stp (Tri P N w0 .skip e As Q) (Post N w0 Q .normal e As):=⟨Tri.skip⟩
instance:Stp (Tri P N w0 .ret e As Q) (Post N w0 Q .ret e As):=⟨Tri.ret⟩
instance:Stp (Tri P N w0 (.exit id) e As Q) (Post N w0 Q (.exit id) e As):=⟨Tri.exit⟩
instance:Stp (Tri P N w0 (.block id c) e As Q) (Tri P N w0 c e As (Exit.inBlock id Q)):=⟨Tri.block⟩
instance:Stp (Tri P N w0 (.region id ops false) e As Q) (TL P N w0 ops ops.toList e As Q):=⟨Tri.region⟩
instance:Stp (Tri P N w0 (.scope c) e As Q) (Tri P N w0 c e As (Exit.noGoto Q)):=⟨Tri.scope⟩
instance:Stp (Tri P N w0 (.label id) e As Q) (Post N w0 Q .normal e As):=⟨Tri.label⟩
instance:Stp (Rnds P N w0 c (n+1) e As Q) (Tri P N w0 c e As (Exit.then (Code.roundsIn (fen N.ro) 0 P c Q n) Q)):=⟨Rnds.next⟩
instance:Stp (Post N w0 (Exit.then (Code.roundsIn (fen N.ro) 0 P c Q n) Q) .normal e As) (Rnds P N w0 c n e As Q):=⟨Post.next⟩
instance:Stp (Post N w0 (Exit.then (c.wpIn (fen N.ro) 0 P Q) Q) .normal e As) (Tri P N w0 c e As Q):=⟨Zf3⟩
instance:Stp (Post N w0 (Exit.then KK Q) .ret e As) (Post N w0 Q .ret e As):=⟨Zp9⟩
instance:Stp (Post N w0 (Exit.then KK Q) (.exit id) e As) (Post N w0 Q (.exit id) e As):=⟨Zmu⟩
instance:Stp (Post N w0 (Exit.inBlock id Q) (.exit id) e As) (Post N w0 Q .normal e As):=⟨Zmc⟩
instance:Stp (Post N w0 (Exit.inBlock id Q) .normal e As) (Post N w0 Q .normal e As):=⟨Zjl⟩
instance:Stp (Post N w0 (Exit.inBlock id Q) .ret e As) (Post N w0 Q .ret e As):=⟨Zmw⟩
instance:Stp (Post N w0 (Exit.noGoto Q) .normal e As) (Post N w0 Q .normal e As):=⟨Zmv⟩
instance:Stp (Post N w0 (Exit.noGoto Q) .ret e As) (Post N w0 Q .ret e As):=⟨Zuk⟩
instance:Stp (Post N w0 (Exit.noGoto Q) (.exit id) e As) (Post N w0 Q (.exit id) e As):=⟨Zsd⟩
instance {f:Fence} [h:Fe N f]:Stp (Post N w0 (Exit.then (c.wpIn f 0 P Q) Q) .normal e As) (Tri P N w0 c e As Q):=⟨by rw [h.h];exact Zf3⟩
instance {f:Fence} [h:Fe N f]:Stp (Post N w0 (Exit.then (Code.roundsIn f 0 P c Q n) Q) .normal e As) (Rnds P N w0 c n e As Q):=⟨by rw [h.h];exact Post.next⟩
instance {id':Nat} [h:EqB (Nat.beq id' id) false]:Stp (Post N w0 (Exit.inBlock id Q) (.exit id') e As) (Post N w0 Q (.exit id') e As):=⟨Zj8 h.h⟩
instance {Rs:RsP}:Stp (TT P N w0 ops Rs .done e As Q) (Post N w0 Q .normal e As):=⟨TT.done⟩
instance {Rs:RsP} {l:List (Nat × Tree)}:Stp (TT P N w0 ops Rs (.all l) e As Q) (TTs P N w0 ops Rs l e As Q):=⟨TT.all⟩
end
/-- a guard that is known -/
theorem Zft (k:TL P N w0 ops (o::r) ((d,.bool b)::e) As Q) (h:TL P N w0 ops (o::r) ((d,.bool b)::e) As Q→TL P N w0 ops (o::r) e As Q:=by first|exact fun k=>Ya5 k|exact fun k=>Ya7 k|exact fun k=>Z8z k|exact fun k=>Z80 k|fail):TL P N w0 ops (o::r) e As Q:=h k
theorem Z8u (k:TT P N w0 ops ⟨R0,T⟩ (.take i t) ((d,.bool b)::e) As Q) (h:TT P N w0 ops ⟨R0,T⟩ (.take i t) ((d,.bool b)::e) As Q→TT P N w0 ops ⟨R0,T⟩ (.take i t) e As Q:=by first|exact fun k=>Ya1 k|exact fun k=>Ya3 k|exact fun k=>Z8v k|exact fun k=>Z8w k|fail):TT P N w0 ops ⟨R0,T⟩ (.take i t) e As Q:=h k
/-- a step of a list of operations -/
structure LTo (P:Program) (N:Ctx) (w0:World) (ops:Array Oper) (l:List Oper) (e:Env) (As:List Ent) (l':List Oper) (e':Env) (As':List Ent):Prop where
 h:∀ Q,TL P N w0 ops l' e' As' Q→TL P N w0 ops l e As Q
/-- a step of a list of operations that makes a new name -/
structure LNew {α:Type} (P:Program) (N:Ctx) (w0:World) (ops:Array Oper) (l:List Oper) (e:Env) (As:List Ent) (l':List Oper) (e':α→Env) (As':α→List Ent):Prop where
 h:∀ Q,(∀ b,TL P N w0 ops l' (e' b) (As' b) Q)→TL P N w0 ops l e As Q
/-- a step of a tree -/
structure TTo (P:Program) (N:Ctx) (w0:World) (ops:Array Oper) (R0:List Ent) (T:List (Nat × List Ent)) (i:Nat) (t:Tree) (e:Env) (As:List Ent) (Q:Exit→Act→World→Prop) (t':Tree) (e':Env):Prop where
 h:TT P N w0 ops ⟨R0,T⟩ t' e' As Q→TT P N w0 ops ⟨R0,T⟩ (.take i t) e As Q
/-- an operation of a tree -/
structure OTo (P:Program) (N:Ctx) (w0:World) (ops:Array Oper) (i:Nat) (e:Env) (As:List Ent) (e':Env) (As':List Ent):Prop where
 h:∀ R0 T t Q,TC P N w0 ops ⟨R0,T⟩ i t e' As' Q→T1 P N w0 ops ⟨R0,T⟩ i t e As Q
structure ONew {α:Type} (P:Program) (N:Ctx) (w0:World) (ops:Array Oper) (i:Nat) (e:Env) (As:List Ent) (e':α→Env) (As':α→List Ent):Prop where
 h:∀ R0 T t Q,(∀ b,TC P N w0 ops ⟨R0,T⟩ i t (e' b) (As' b) Q)→T1 P N w0 ops ⟨R0,T⟩ i t e As Q
/-- which branch -/
structure CTo (e:Env) (x:Operand) (c1 c2 c':Code):Prop where
 h:∀ (P:Program) (N:Ctx) (w0:World) (As:List Ent) (Q:Exit→Act→World→Prop),Tri P N w0 c' e As Q→Tri P N w0 (.cond x c1 c2) e As Q
theorem Zwq (hg:gOk ops e g=some true:=by exact rfl) (hN:Nat.blt d N.N=true:=by exact rfl) (hx:ExF P N w0 op ty e As v:=by exact Ziw):LTo P N w0 ops (⟨some d,op,ty,pos,af,g⟩::r) e As r ((d,v)::e) As:=⟨fun _ h=>TL.f hg hN hx h⟩
theorem LTo.us (hg:gOk ops e g=some true:=by exact rfl) (hx:ExU P N w0 op ty e As As':=by exact Zwr):LTo P N w0 ops (⟨none,op,ty,pos,af,g⟩::r) e As r e As':=⟨fun _ h=>TL.u hg hx h⟩
theorem LTo.ds (hg:gOk ops e g=some true:=by exact rfl) (hN:Nat.blt d N.N=true:=by exact rfl) (hx:ExR P N w0 op ty e As (fun u B=>u=v∧B=AV u):=by exact Zn9):LTo P N w0 ops (⟨some d,op,ty,pos,af,g⟩::r) e As r ((d,v)::e) (AV v):=⟨fun _ h=>Zhv hg hN hx (by rintro _ _ ⟨rfl,rfl⟩;exact h)⟩
theorem LTo.os (hg:gOk ops e g=some false:=by exact rfl) (hN:Nat.blt d N.N=true:=by exact rfl):LTo P N w0 ops (⟨some d,op,ty,pos,af,g⟩::r) e As r ((d,undef)::e) As:=⟨fun _ h=>Z2f hg hN h⟩
theorem Zqb (hg:gOk ops e g=some false:=by exact rfl):LTo P N w0 ops (⟨none,op,ty,pos,af,g⟩::r) e As r e As:=⟨fun _ h=>Zwn hg h⟩
theorem LNew.bs (hg:gOk ops e g=some true:=by exact rfl) (hN:Nat.blt d N.N=true:=by exact rfl) (hx:ExR P N w0 op ty e As (RB ff AA):=by exact Zwt):LNew P N w0 ops (⟨some d,op,ty,pos,af,g⟩::r) e As r (fun b=>(d,ff b)::e) (fun b=>AA b):=⟨fun _ h=>TL.rb hg hN hx h⟩
theorem LNew.vs (hg:gOk ops e g=some true:=by exact rfl) (hN:Nat.blt d N.N=true:=by exact rfl) (hx:ExR P N w0 op ty e As (fun u B=>B=AV u):=by exact Zn9):LNew P N w0 ops (⟨some d,op,ty,pos,af,g⟩::r) e As r (fun v=>(d,v)::e) (fun v=>AV v):=⟨fun _ h=>Zhv hg hN hx (by rintro v _ rfl;exact h v)⟩
theorem Z2c [PanicOk Q] (ho:ops[i]?=some ⟨some d,op,ty,pos,af,g⟩:=by exact rfl) (hg:gOk ops e g=some true:=by exact rfl) (hN:Nat.blt d N.N=true:=by exact rfl) (hx:ExF P N w0 op ty e R0 v:=by exact Ziw):TTo P N w0 ops R0 T i t e As Q t ((d,v)::e):=⟨fun h=>TT.take ho hg hN hx h⟩
theorem Z2b [MemT T i R] [PanicOk Q] (ho:ops[i]?=some ⟨some d,op,ty,pos,af,g⟩:=by exact rfl) (hg:gOk ops e g=some true:=by exact rfl) (hN:Nat.blt d N.N=true:=by exact rfl) (hA:Ents As R:=by exact Zaa) (hx:ExF P N w0 op ty e R v:=by exact Ziw):TTo P N w0 ops R0 T i t e As Q t ((d,v)::e):=⟨fun h=>Zwm ho hg hN hA hx h⟩
theorem TTo.os [PanicOk Q] (ho:ops[i]?=some ⟨some d,op,ty,pos,af,g⟩:=by exact rfl) (hg:gOk ops e g=some false:=by exact rfl) (hN:Nat.blt d N.N=true:=by exact rfl):TTo P N w0 ops R0 T i t e As Q t ((d,undef)::e):=⟨fun h=>Zn8 ho hg hN h⟩
theorem OTo.us (ho:ops[i]?=some ⟨none,op,ty,pos,af,g⟩:=by exact rfl) (hg:gOk ops e g=some true:=by exact rfl) (hx:ExU P N w0 op ty e As As':=by exact Zwr):OTo P N w0 ops i e As e As':=⟨fun _ _ _ _ h=>T1.u ho hg hx h⟩
theorem OTo.ds (ho:ops[i]?=some ⟨some d,op,ty,pos,af,g⟩:=by exact rfl) (hg:gOk ops e g=some true:=by exact rfl) (hN:Nat.blt d N.N=true:=by exact rfl) (hx:ExR P N w0 op ty e As (fun u B=>u=v∧B=AV u):=by exact Zn9):OTo P N w0 ops i e As ((d,v)::e) (AV v):=⟨fun _ _ _ _ h=>Zc2 ho hg hN hx (by rintro _ _ ⟨rfl,rfl⟩;exact h)⟩
theorem Z20 (ho:ops[i]?=some ⟨some d,op,ty,pos,af,g⟩:=by exact rfl) (hg:gOk ops e g=some true:=by exact rfl) (hN:Nat.blt d N.N=true:=by exact rfl) (hx:ExF P N w0 op ty e As v:=by exact Ziw):OTo P N w0 ops i e As ((d,v)::e) As:=⟨fun _ _ _ _ h=>T1.f ho hg hN hx h⟩
theorem OTo.os (ho:ops[i]?=some ⟨some d,op,ty,pos,af,g⟩:=by exact rfl) (hg:gOk ops e g=some false:=by exact rfl) (hN:Nat.blt d N.N=true:=by exact rfl):OTo P N w0 ops i e As ((d,undef)::e) As:=⟨fun _ _ _ _ h=>T1.off ho hg hN h⟩
theorem Zul (ho:ops[i]?=some ⟨none,op,ty,pos,af,g⟩:=by exact rfl) (hg:gOk ops e g=some false:=by exact rfl):OTo P N w0 ops i e As e As:=⟨fun _ _ _ _ h=>Z2l ho hg h⟩
theorem ONew.bs (ho:ops[i]?=some ⟨some d,op,ty,pos,af,g⟩:=by exact rfl) (hg:gOk ops e g=some true:=by exact rfl) (hN:Nat.blt d N.N=true:=by exact rfl) (hx:ExR P N w0 op ty e As (RB ff AA):=by exact Zwt):ONew P N w0 ops i e As (fun b=>(d,ff b)::e) (fun b=>AA b):=⟨fun _ _ _ _ h=>T1.rb ho hg hN hx h⟩
theorem ONew.vs (ho:ops[i]?=some ⟨some d,op,ty,pos,af,g⟩:=by exact rfl) (hg:gOk ops e g=some true:=by exact rfl) (hN:Nat.blt d N.N=true:=by exact rfl) (hx:ExR P N w0 op ty e As (fun u B=>B=AV u):=by exact Zn9):ONew P N w0 ops i e As (fun v=>(d,v)::e) (fun v=>AV v):=⟨fun _ _ _ _ h=>Zc2 ho hg hN hx (by rintro v _ rfl;exact h v)⟩
theorem Zqc (hd:gslot ops o.guard=some d:=by exact rfl) (he:e.get d=some (.bool (decide p)):=by exact rfl) (h:p:=by (first|assumption|omega|decide)):LTo P N w0 ops (o::r) e As (o::r) ((d,.bool true)::e) As:=⟨fun _ k=>Ya6 hd he h k⟩
theorem Zug (ho:ops[i]?=some o:=by exact rfl) (hd:gslot ops o.guard=some d:=by exact rfl) (he:e.get d=some (.bool (decide p)):=by exact rfl) (h:p:=by (first|assumption|omega|decide)):TTo P N w0 ops R0 T i t e As Q (.take i t) ((d,.bool true)::e):=⟨fun k=>Ya2 ho hd he h k⟩
theorem Zqd (hd:gslot ops o.guard=some d:=by exact rfl) (he:e.get d=some (.bool (decide p)):=by exact rfl) (h:¬ p:=by (first|assumption|omega|decide)):LTo P N w0 ops (o::r) e As (o::r) ((d,.bool false)::e) As:=⟨fun _ k=>Ya8 hd he h k⟩
theorem Zuh (ho:ops[i]?=some o:=by exact rfl) (hd:gslot ops o.guard=some d:=by exact rfl) (he:e.get d=some (.bool (decide p)):=by exact rfl) (h:¬ p:=by (first|assumption|omega|decide)):TTo P N w0 ops R0 T i t e As Q (.take i t) ((d,.bool false)::e):=⟨fun k=>Ya4 ho hd he h k⟩
theorem Zkq (hd:gslot ops o.guard=some d:=by exact rfl) (he:e.get d=some (.bool !(decide p)):=by exact rfl) (h:¬ p:=by (first|assumption|omega|decide)):LTo P N w0 ops (o::r) e As (o::r) ((d,.bool true)::e) As:=⟨fun _ k=>Z6q hd he h k⟩
theorem Zp5 (ho:ops[i]?=some o:=by exact rfl) (hd:gslot ops o.guard=some d:=by exact rfl) (he:e.get d=some (.bool !(decide p)):=by exact rfl) (h:¬ p:=by (first|assumption|omega|decide)):TTo P N w0 ops R0 T i t e As Q (.take i t) ((d,.bool true)::e):=⟨fun k=>Z6o ho hd he h k⟩
theorem Zkr (hd:gslot ops o.guard=some d:=by exact rfl) (he:e.get d=some (.bool !(decide p)):=by exact rfl) (h:p:=by (first|assumption|omega|decide)):LTo P N w0 ops (o::r) e As (o::r) ((d,.bool false)::e) As:=⟨fun _ k=>Z6r hd he h k⟩
theorem Zp6 (ho:ops[i]?=some o:=by exact rfl) (hd:gslot ops o.guard=some d:=by exact rfl) (he:e.get d=some (.bool !(decide p)):=by exact rfl) (h:p:=by (first|assumption|omega|decide)):TTo P N w0 ops R0 T i t e As Q (.take i t) ((d,.bool false)::e):=⟨fun k=>Z6p ho hd he h k⟩
theorem Zwz (hx:ev e x=some (.bool true):=by exact rfl):CTo e x c1 c2 c1:=⟨fun _ _ _ _ _ k=>Z6m hx k⟩
theorem Zw0 (hx:ev e x=some (.bool false):=by exact rfl):CTo e x c1 c2 c2:=⟨fun _ _ _ _ _ k=>Z6n hx k⟩
theorem Zg8 (hx:ev e x=some (.bool (decide p)):=by exact rfl) (h:p:=by (first|assumption|omega|decide)):CTo e x c1 c2 c1:=⟨fun _ _ _ _ _ k=>Zis hx h k⟩
theorem Zg9 (hx:ev e x=some (.bool (decide p)):=by exact rfl) (h:¬ p:=by (first|assumption|omega|decide)):CTo e x c1 c2 c2:=⟨fun _ _ _ _ _ k=>Zit hx h k⟩
theorem Zf1 (hx:ev e x=some (.bool !(decide p)):=by exact rfl) (h:¬ p:=by (first|assumption|omega|decide)):CTo e x c1 c2 c1:=⟨fun _ _ _ _ _ k=>Zn6 hx h k⟩
theorem Zf2 (hx:ev e x=some (.bool !(decide p)):=by exact rfl) (h:p:=by (first|assumption|omega|decide)):CTo e x c1 c2 c2:=⟨fun _ _ _ _ _ k=>Zn7 hx h k⟩
/-- the results that come back -/
structure RTo (P:Program) (N:Ctx) (w0:World) (fn:Func) (ex:Exit) (e:Env) (As:List Ent) (v:Value):Prop where
 h:∀ K:Value→List Ent→Prop,(∃ As',K v As'∧Ents As As')→Post N w0 (FQ P w0 fn K) ex e As
theorem Z2t (hds:N.ds=[]:=by exact rfl) (hf:fn.results=#[]:=by exact rfl):RTo P N w0 fn .ret e As (.tuple #[]):=⟨fun _ hk=>Zmb hds hf hk⟩
theorem Z2x (hds:N.ds=[]:=by exact rfl) (hf:fn.results=#[]:=by exact rfl):RTo P N w0 fn .normal e As (.tuple #[]):=⟨fun _ hk=>Zda (Zmb hds hf hk)⟩
theorem Z2s (hds:N.ds=[]:=by exact rfl) (hf:fn.results=#[rv]:=by exact rfl) (hr:RV P N w0 e As rv v:=by exact Zd0):RTo P N w0 fn .ret e As (v):=⟨fun _ hk=>Zma hds hf hr hk⟩
theorem Z2w (hds:N.ds=[]:=by exact rfl) (hf:fn.results=#[rv]:=by exact rfl) (hr:RV P N w0 e As rv v:=by exact Zd0):RTo P N w0 fn .normal e As (v):=⟨fun _ hk=>Zda (Zma hds hf hr hk)⟩
theorem Z2r (hds:N.ds=[]:=by exact rfl) (hf:fn.results=#[rv,rv']:=by exact rfl) (hr:RV P N w0 e As rv v:=by exact Zd0) (hr':RV P N w0 e As rv' u:=by exact Zd0):RTo P N w0 fn .ret e As (.tuple #[v,u]):=⟨fun _ hk=>Zl9 hds hf hr hr' hk⟩
theorem Z2v (hds:N.ds=[]:=by exact rfl) (hf:fn.results=#[rv,rv']:=by exact rfl) (hr:RV P N w0 e As rv v:=by exact Zd0) (hr':RV P N w0 e As rv' u:=by exact Zd0):RTo P N w0 fn .normal e As (.tuple #[v,u]):=⟨fun _ hk=>Zda (Zl9 hds hf hr hr' hk)⟩
theorem Z2q (hds:N.ds=[]:=by exact rfl) (hf:fn.results=#[rv,rv',rv'']:=by exact rfl) (hr:RV P N w0 e As rv v:=by exact Zd0) (hr':RV P N w0 e As rv' u:=by exact Zd0) (hr'':RV P N w0 e As rv'' u':=by exact Zd0):RTo P N w0 fn .ret e As (.tuple #[v,u,u']):=⟨fun _ hk=>Zl8 hds hf hr hr' hr'' hk⟩
theorem Z2u (hds:N.ds=[]:=by exact rfl) (hf:fn.results=#[rv,rv',rv'']:=by exact rfl) (hr:RV P N w0 e As rv v:=by exact Zd0) (hr':RV P N w0 e As rv' u:=by exact Zd0) (hr'':RV P N w0 e As rv'' u':=by exact Zd0):RTo P N w0 fn .normal e As (.tuple #[v,u,u']):=⟨fun _ hk=>Zda (Zl8 hds hf hr hr' hr'' hk)⟩
theorem Zac {ex:Exit} (hk:∃ As',K v As'∧Ents As As') (hs:RTo P N w0 fn ex e As v:=by first|exact Z2s|exact Z2r|exact Z2q|exact Z2t|exact Z2w|exact Z2v|exact Z2u|exact Z2x|fail):Post N w0 (FQ P w0 fn K) ex e As:=hs.h K hk
theorem Yek (k:TL P N w0 ops l' e' As' Q) (hs:LTo P N w0 ops (o::r) e As l' e' As':=by first|exact Zwq|exact LTo.us|exact LTo.ds|exact LTo.os|exact Zqb|exact Zqc|exact Zqd|exact Zkq|exact Zkr|fail):TL P N w0 ops (o::r) e As Q:=hs.h Q k
theorem Yem {α:Type} {l':List Oper} {e':α→Env} {As':α→List Ent} (k:∀ b,TL P N w0 ops l' (e' b) (As' b) Q) (hs:LNew P N w0 ops (o::r) e As l' e' As':=by first|exact LNew.bs|exact LNew.vs|fail):TL P N w0 ops (o::r) e As Q:=hs.h Q k
theorem Yej (k:TT P N w0 ops ⟨R0,T⟩ t' e' As Q) (hs:TTo P N w0 ops R0 T i t e As Q t' e':=by first|exact Z2c|exact Z2b|exact TTo.os|exact Zug|exact Zuh|exact Zp5|exact Zp6|fail):TT P N w0 ops ⟨R0,T⟩ (.take i t) e As Q:=hs.h k
theorem Yen (k:TC P N w0 ops ⟨R0,T⟩ i t e' As' Q) (hs:OTo P N w0 ops i e As e' As':=by first|exact OTo.us|exact OTo.ds|exact Z20|exact OTo.os|exact Zul|fail):T1 P N w0 ops ⟨R0,T⟩ i t e As Q:=hs.h R0 T t Q k
theorem Yeo {α:Type} {e':α→Env} {As':α→List Ent} (k:∀ b,TC P N w0 ops ⟨R0,T⟩ i t (e' b) (As' b) Q) (hs:ONew P N w0 ops i e As e' As':=by first|exact ONew.bs|exact ONew.vs|fail):T1 P N w0 ops ⟨R0,T⟩ i t e As Q:=hs.h R0 T t Q k
theorem Yeh {c':Code} (k:Tri P N w0 c' e As Q) (h:CTo e x c1 c2 c':=by first|exact Zwz|exact Zw0|exact Zg8|exact Zg9|exact Zf1|exact Zf2|fail):Tri P N w0 (.cond x c1 c2) e As Q:=h.h P N w0 As Q k
theorem Ka (k:TL P N w0 ops (o::r) e As Q):TL P N w0 ops (o::r) e As Q:=k
theorem Kb (k:TL P N w0 ops l' e' As' Q) (hs:LTo P N w0 ops (o::r) e As l' e' As':=by first|exact Zwq|exact LTo.us|exact LTo.ds|exact LTo.os|exact Zqb|exact Zqc|exact Zqd|exact Zkq|exact Zkr|fail):TL P N w0 ops (o::r) e As Q:=hs.h Q k
theorem Kc {α:Type} {l':List Oper} {e':α→Env} {As':α→List Ent} (k:∀ b,TL P N w0 ops l' (e' b) (As' b) Q) (hs:LNew P N w0 ops (o::r) e As l' e' As':=by first|exact LNew.bs|exact LNew.vs|fail):TL P N w0 ops (o::r) e As Q:=hs.h Q k
theorem Kd {G G':Prop} [h:Stp G G'] (k:G'):G:=h.h k
theorem Kh {c':Code} (k:Tri P N w0 c' e As Q) (h:CTo e x c1 c2 c':=by first|exact Zwz|exact Zw0|exact Zg8|exact Zg9|exact Zf1|exact Zf2|fail):Tri P N w0 (.cond x c1 c2) e As Q:=h.h P N w0 As Q k
theorem Ki {Rs:RsP} {t:Tree} (k:TT P N w0 ops Rs t e As Q):TT P N w0 ops Rs t e As Q:=k
theorem Kj (k:TT P N w0 ops ⟨R0,T⟩ t' e' As Q) (hs:TTo P N w0 ops R0 T i t e As Q t' e':=by first|exact Z2c|exact Z2b|exact TTo.os|exact Zug|exact Zuh|exact Zp5|exact Zp6|fail):TT P N w0 ops ⟨R0,T⟩ (.take i t) e As Q:=hs.h k
theorem Kk {Rs:RsP}:TTs P N w0 ops Rs [] e As Q:=TTs.nil
theorem Kl {Rs:RsP} {t:Tree} {i:Nat} {l:List (Nat × Tree)} (h:T1 P N w0 ops Rs i t e As Q) (k:TTs P N w0 ops Rs l e As Q):TTs P N w0 ops Rs ((i,t)::l) e As Q:=TTs.cons h k
theorem Km {Rs:RsP} {t:Tree} {i:Nat} (k:T1 P N w0 ops Rs i t e As Q):T1 P N w0 ops Rs i t e As Q:=k
theorem Kn (k:TC P N w0 ops ⟨R0,T⟩ i t e' As' Q) (hs:OTo P N w0 ops i e As e' As':=by first|exact OTo.us|exact OTo.ds|exact Z20|exact OTo.os|exact Zul|fail):T1 P N w0 ops ⟨R0,T⟩ i t e As Q:=hs.h R0 T t Q k
theorem Ko {α:Type} {e':α→Env} {As':α→List Ent} (k:∀ b,TC P N w0 ops ⟨R0,T⟩ i t (e' b) (As' b) Q) (hs:ONew P N w0 ops i e As e' As':=by first|exact ONew.bs|exact ONew.vs|fail):T1 P N w0 ops ⟨R0,T⟩ i t e As Q:=hs.h R0 T t Q k
theorem Kp {Rs:RsP} {t:Tree} {i:Nat} (k:TC P N w0 ops Rs i t e As Q):TC P N w0 ops Rs i t e As Q:=k
theorem Kq [Cov As R0] (k:TT P N w0 ops ⟨R0,T⟩ t e As Q) (hk:Keep ops i As T:=by exact Zum):TC P N w0 ops ⟨R0,T⟩ i t e As Q:=Z81 hk k
theorem Kr (k:Post N w0 Q .normal e As) (h:sinkAt .any ops i=true:=by kernel_rfl):TC P N w0 ops ⟨R0,T⟩ i .done e As Q:=Z2i h k
theorem Ks {f:FuncId} {xs:Array Operand} {vs fst cap:List Value} {tys:Array TypeId} {v:Value} {As':List Ent} [Body P f] (h4:(gOk ops e g,Nat.blt d N.N,ev e x,evs e xs.toList)=(some true,true,some (.func (.func f) fst.toArray cap.toArray),some vs))
 (hc:CallsS P w0 f (fst++(vs++cap)) As fun r Bs=>r=v∧Bs=As') (h:TL P N w0 ops r ((d,v)::e) As' Q):TL P N w0 ops (⟨some d,.call ⟨.value x,xs,tys⟩,ty,pos,af,g⟩::r) e As Q:=by
 simp only [Prod.mk.injEq] at h4;exact TL.callv h4.1 h4.2.1 h4.2.2.1 h4.2.2.2 hc (by rintro _ _ ⟨rfl,rfl⟩;exact h)
theorem Kt {f:FuncId} {xs:Array Operand} {vs:List Value} {tys:Array TypeId} {v:Value} {As':List Ent} [Body P f] (h4:(gOk ops e g,Nat.blt d N.N,evs e xs.toList)=(some true,true,some vs))
 (hc:CallsS P w0 f vs As fun r Bs=>r=v∧Bs=As') (h:TL P N w0 ops r ((d,v)::e) As' Q):TL P N w0 ops (⟨some d,.call ⟨.value (.func f),xs,tys⟩,ty,pos,af,g⟩::r) e As Q:=by
 simp only [Prod.mk.injEq] at h4;exact TL.call h4.1 h4.2.1 h4.2.2 hc (by rintro _ _ ⟨rfl,rfl⟩;exact h)
theorem Ku {i:Nat} {t:Tree} {Rs:RsP} {f:FuncId} {xs:Array Operand} {vs fst cap:List Value} {tys:Array TypeId} {v:Value} {As':List Ent} [Body P f] (h4:(ops[i]?,gOk ops e g,Nat.blt d N.N,ev e x,evs e xs.toList)=(some ⟨some d,.call ⟨.value x,xs,tys⟩,ty,pos,af,g⟩,some true,true,some (.func (.func f) fst.toArray cap.toArray),some vs))
 (hc:CallsS P w0 f (fst++(vs++cap)) As fun r Bs=>r=v∧Bs=As') (h:TC P N w0 ops Rs i t ((d,v)::e) As' Q):T1 P N w0 ops Rs i t e As Q:=by
 simp only [Prod.mk.injEq] at h4;exact T1.callv h4.1 h4.2.1 h4.2.2.1 h4.2.2.2.1 h4.2.2.2.2 hc (by rintro _ _ ⟨rfl,rfl⟩;exact h)
theorem Kw {i:Nat} {t:Tree} {Rs:RsP} {f:FuncId} {xs:Array Operand} {vs:List Value} {tys:Array TypeId} {v:Value} {As':List Ent} [Body P f] (h4:(ops[i]?,gOk ops e g,Nat.blt d N.N,evs e xs.toList)=(some ⟨some d,.call ⟨.value (.func f),xs,tys⟩,ty,pos,af,g⟩,some true,true,some vs))
 (hc:CallsS P w0 f vs As fun r Bs=>r=v∧Bs=As') (h:TC P N w0 ops Rs i t ((d,v)::e) As' Q):T1 P N w0 ops Rs i t e As Q:=by
 simp only [Prod.mk.injEq] at h4;exact T1.call h4.1 h4.2.1 h4.2.2.1 h4.2.2.2 hc (by rintro _ _ ⟨rfl,rfl⟩;exact h)
structure Sp (G G':Prop):Prop where
 h:G'→G
section
variable {Rs:RsP} {c':Code}
theorem Yba (h:LTo P N w0 ops (o::r) e As l' e' As'):Sp (TL P N w0 ops (o::r) e As Q) (TL P N w0 ops l' e' As' Q):=⟨h.h Q⟩
theorem Sp.xs {G G':Prop} [h:Stp G G']:Sp G G':=⟨h.h⟩
theorem Yds (h:TTo P N w0 ops R0 T i t e As Q t' e'):Sp (TT P N w0 ops ⟨R0,T⟩ (.take i t) e As Q) (TT P N w0 ops ⟨R0,T⟩ t' e' As Q):=⟨h.h⟩
theorem Ydt (h:OTo P N w0 ops i e As e' As'):Sp (T1 P N w0 ops ⟨R0,T⟩ i t e As Q) (TC P N w0 ops ⟨R0,T⟩ i t e' As' Q):=⟨h.h R0 T t Q⟩
theorem Ydw [Cov As R0] (h:Keep ops i As T):Sp (TC P N w0 ops ⟨R0,T⟩ i t e As Q) (TT P N w0 ops ⟨R0,T⟩ t e As Q):=⟨Z81 h⟩
theorem Ydx (h:sinkAt .any ops i=true):Sp (TC P N w0 ops ⟨R0,T⟩ i .done e As Q) (Post N w0 Q .normal e As):=⟨Z2i h⟩
theorem Ybb (h:CTo e x c1 c2 c'):Sp (Tri P N w0 (.cond x c1 c2) e As Q) (Tri P N w0 c' e As Q):=⟨h.h P N w0 As Q⟩
theorem Ya9 {α:Type} {l':List Oper} {e':α→Env} {As':α→List Ent} (h:LNew P N w0 ops (o::r) e As l' e' As'):Sp (TL P N w0 ops (o::r) e As Q) (∀ b,TL P N w0 ops l' (e' b) (As' b) Q):=⟨h.h Q⟩
theorem Ydu {α:Type} {e':α→Env} {As':α→List Ent} (h:ONew P N w0 ops i e As e' As'):Sp (T1 P N w0 ops ⟨R0,T⟩ i t e As Q) (∀ b,TC P N w0 ops ⟨R0,T⟩ i t (e' b) (As' b) Q):=⟨h.h R0 T t Q⟩
theorem Ydv:Sp (TTs P N w0 ops Rs [] e As Q) True:=⟨fun _=>TTs.nil⟩
theorem Ydr {l:List (Nat × Tree)}:Sp (TTs P N w0 ops Rs ((i,t)::l) e As Q) (T1 P N w0 ops Rs i t e As Q∧TTs P N w0 ops Rs l e As Q):=⟨fun h=>TTs.cons h.1 h.2⟩
end
theorem Kz {G G':Prop} (k:G') (h:Sp G G':=by first|(show Sp (TL _ _ _ _ (_::_) _ _ _) _;first|exact Yba (by first|exact Zwq|exact LTo.us|exact LTo.ds|exact LTo.os|exact Zqb|exact Zqc|exact Zqd|exact Zkq|exact Zkr|fail)|exact Ya9 (by first|exact LNew.bs|exact LNew.vs|fail))|exact Sp.xs|(show Sp (Tri _ _ _ (.cond _ _ _) _ _ _) _;exact Ybb (by first|exact Zwz|exact Zw0|exact Zg8|exact Zg9|exact Zf1|exact Zf2|fail))|fail):G:=h.h k
theorem Kf {G G':Prop} (k:G') (h:Sp G G':=by first|(show Sp (TL _ _ _ _ (_::_) _ _ _) _;first|exact Yba (by first|exact Zwq|exact LTo.us|exact LTo.ds|exact LTo.os|exact Zqb|exact Zqc|exact Zqd|exact Zkq|exact Zkr|fail)|exact Ya9 (by first|exact LNew.bs|exact LNew.vs|fail))|exact Sp.xs|(show Sp (TT _ _ _ _ _ _ _ _ _) _;exact Yds (by first|exact Z2c|exact Z2b|exact TTo.os|exact Zug|exact Zuh|exact Zp5|exact Zp6|fail))|(show Sp (T1 _ _ _ _ _ _ _ _ _ _) _;first|exact Ydt (by first|exact OTo.us|exact OTo.ds|exact Z20|exact OTo.os|exact Zul|fail)|exact Ydu (by first|exact ONew.bs|exact ONew.vs|fail))|(show Sp (TC _ _ _ _ _ _ _ _ _ _) _;first|exact Ydw Zum|exact Ydx (by kernel_rfl)|fail)|(show Sp (Tri _ _ _ (.cond _ _ _) _ _ _) _;exact Ybb (by first|exact Zwz|exact Zw0|exact Zg8|exact Zg9|exact Zf1|exact Zf2|fail))|exact Ydv|exact Ydr|fail):G:=h.h k
theorem Kv {ex:Exit} {v u:Value} {A0:List Ent} (he:Ents As A0:=by exact Zaa) (hs:RTo P N w0 fn ex e As u:=by first|exact Z2s|exact Z2r|exact Z2q|exact Z2t|exact Z2w|exact Z2v|exact Z2u|exact Z2x|fail) (hv:u=v:=by rfl):Post N w0 (FQ P w0 fn fun r Bs=>r=v∧Bs=A0) ex e As:=hs.h _ ⟨_,⟨hv,rfl⟩,he⟩
abbrev CQ (P:Program) (w0:World) (f:FuncId) (args:List Value) (As:List Ent) (v:Value):Prop:=CallsS P w0 f args As fun r Bs=>r=v∧Bs=As
structure BSp (b:Bool) (p q:Prop):Prop where
 h:∀ (P:Program) (N:Ctx) (w0:World) (As:List Ent) (Q:Exit→Act→World→Prop) (e:Env) (x:Operand) (c1 c2:Code),ev e x=some (.bool b)→(p→Tri P N w0 c1 e As Q)→(q→Tri P N w0 c2 e As Q)→Tri P N w0 (.cond x c1 c2) e As Q
theorem Ybk {r:Prop} [Decidable r]:BSp (decide r) r (¬ r):=⟨fun _ _ _ _ _ _ _ _ _ hx a b=>Zsb hx a b⟩
theorem Ybl {r:Prop} [Decidable r]:BSp (!(decide r)) (¬ r) r:=⟨fun _ _ _ _ _ _ _ _ _ hx a b=>Z2a hx a b⟩
theorem Kx {b:Bool} {p q:Prop} (k1:p→Tri P N w0 c1 e As Q) (k2:q→Tri P N w0 c2 e As Q) (hx:ev e x=some (.bool b):=by exact rfl) (h:BSp b p q:=by first|exact Ybk|exact Ybl):Tri P N w0 (.cond x c1 c2) e As Q:=h.h P N w0 As Q e x c1 c2 hx k1 k2
end
end Go.Sx
