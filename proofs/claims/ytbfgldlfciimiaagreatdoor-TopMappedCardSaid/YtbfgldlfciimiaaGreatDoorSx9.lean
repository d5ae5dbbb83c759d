/- The engine, part 9: the rules once more, each with the tactics for its side goals laid into its binders. -/
import Derived.Test.YtbfgldlfciimiaaGreatDoorSxA
set_option maxHeartbeats 1000000
namespace Go.Sx
open Go
/-- which entry an operation looks at: a block of cells, a slice, an object -/
inductive BK where
 | c (b:Nat)
 | w (v:Value)
 | o (b:Nat)
class OwnE (As:List Ent) (l:List (Nat × BK)) (o:outParam (List (Nat × List Ent))):Prop where
 h:True
instance OwnE.nil {As:List Ent}:OwnE As [] []:=⟨trivial⟩
instance OwnE.c {As:List Ent} {i b:Nat} {cs:List Value} {ct:TypeId} {rest:List Ent} {l:List (Nat × BK)} {o:List (Nat × List Ent)} [TakeC As b cs ct rest] [OwnE As l o]:OwnE As ((i,.c b)::l) ((i,[.cl b cs ct])::o):=⟨trivial⟩
instance OwnE.w {As:List Ent} {i:Nat} {v:Value} {α:Type} {cd:Cod α} {xs:List α} {ct:TypeId} {rest:List Ent} {l:List (Nat × BK)} {o:List (Nat × List Ent)} [TakeW As v cd ct xs rest] [OwnE As l o]:OwnE As ((i,.w v)::l) ((i,[.ow cd ct v xs])::o):=⟨trivial⟩
instance OwnE.o {As:List Ent} {i b:Nat} {ob:Obj} {rest:List Ent} {l:List (Nat × BK)} {o:List (Nat × List Ent)} [TakeO As b ob rest] [OwnE As l o]:OwnE As ((i,.o b)::l) ((i,[.ob b ob])::o):=⟨trivial⟩
section
variable {P:Program} {N:Ctx} {w0:World} {e e':Env} {As As' Bs R R0:List Ent} {T:List (Nat × List Ent)} {Q:Exit→Act→World→Prop} {op:Op} {ty:TypeId} {v u u' u'':Value} {ops:Array Oper} {r:List Oper} {o:Oper} {pos:String} {af:Array Edge} {g:Option (Nat × Bool)} {d i:Nat} {t:Tree} {x:Operand} {c1 c2:Code} {b:Bool} {p:Prop} [Decidable p] {RR:Value→List Ent→Prop} {ff:Nat→Value} {AA:Nat→List Ent} {AV:Value→List Ent} {l l':List Oper} {e0:Env} {t':Tree} {K:Value→List Ent→Prop} {fn:Func} {rv rv' rv'':ResultVar}
/-- building a value, its cells written out -/
theorem Z06 {t n b:Nat} {z':Value} {ty:TypeId} {parts:Array (Nat × Operand)} {vs l:List Value} [TI P t z' n b] (hp:evs e (parts.toList.map (·.2))=some vs) (_hl:flatCells vs=l) (_h2:l.length=n)
  (hb:∀ w,(Instr.build t ((parts.toList.map (·.1)).zip vs).toArray).run P w=.ok (.agg l.toArray) w):ExF P N w0 (.build t parts) ty e As (.agg l.toArray):=ExF.build hp hb
/-- the element that cells are the code of -/
class DecL {α:Type} (c:Cod α) (vs:List Value) (y:outParam α):Prop where
 h:c.enc y=vs
instance {k:IntKind} {n:Nat}:DecL (cN k) [.int k (n:Int)] n:=⟨rfl⟩
instance {k:IntKind} {n:Int}:DecL (cI k) [.int k n] n:=⟨rfl⟩
instance {b:Bool}:DecL cB [.bool b] b:=⟨rfl⟩
section
variable {α:Type} {c:Cod α} {xs:List α} {rest:List Ent} {y:Operand}
theorem Zwt {t:TypeId} {ud:TypeDesc} {n i k:Nat} {y0:α} {l0:List Value} [UL P t ud] (hag:aggB ud=false) (hx:ev e x=some (.pointer (some (elp n v i k)))) [hr:RdIn As v α c xs] (hcn:c.n=n) (hi:xs[i]?=some y0) [e0:EncL c y0 l0] (hk:l0[k]?=some u) :
  ExF P N w0 (.load t x) ty e As u:=Zpp hag hx hcn hi (by rw [e0.h];exact hk)
theorem Zwn {t:TypeId} {z':Value} {b' n i k:Nat} {y0 y1:α} {l0 l:List Value} {T:TypeId} [TI P t z' 1 b'] (hx:ev e x=some (.pointer (some (elp n v i k)))) (hy:ev e y=some u) (hu:u.cells.toList=[u]) (h1:u.oneCell'=true)
  [TakeW As v c T xs rest] (hcn:c.n=n) (hi:xs[i]?=some y0) (hk:Nat.blt k n=true) [e0:EncL c y0 l0] (hs:setAll l0 k [u]=l) [dd:DecL c l y1]:ExU P N w0 (.store t x y) ty e As (.ow c T v (xs.set i y1)::rest) :=
 Zkj hx hy hu h1 hcn hi hk (by rw [e0.h,dd.h,hs])
theorem Zwm {t:TypeId} {z':Value} {s b' n i k:Nat} {y0 y1:α} {vs l0 l:List Value} {T:TypeId} [TI P t z' s b'] (hx:ev e x=some (.pointer (some (elp n v i k)))) (hy:ev e y=some (.agg vs.toArray)) (hn:vs.length=s) (h1:oneB vs=true)
  [TakeW As v c T xs rest] (hcn:c.n=n) (hi:xs[i]?=some y0) (hk:Nat.ble (k+s) n=true) [e0:EncL c y0 l0] (hs:setAll l0 k vs=l) [dd:DecL c l y1]:ExU P N w0 (.store t x y) ty e As (.ow c T v (xs.set i y1)::rest) :=
 Zir hx hy (by simp [Value.cells]) hn h1 hcn hi hk (by rw [e0.h,dd.h,hs])
end
section
variable {α:Type} {c:Cod α} {xs:List α} {rest:List Ent} {y:Operand}
/-- a slice that is known to be one is one cell -/
theorem Zwl {t:TypeId} {z':Value} {b' b off:Nat} {l l':List Value} {T:TypeId} [TI P t z' 1 b'] (hx:ev e x=some (.pointer (some ⟨b,off,none⟩))) (hy:ev e y=some v) [hr:RdIn As v α c xs] [TakeC As b l T rest]
  (hl:Nat.blt off l.length=true) (hl':l.set off v=l'):ExU P N w0 (.store t x y) ty e As (.cl b l' T::rest):=by
 unfold ExU
 intro a w ha hs
 obtain ⟨p,cap,hv,_⟩:=(hr.get w0 w hs).len
 have h0:=ExU.store (P:=P) (N:=N) (w0:=w0) (ty:=ty) (As:=As) (rest:=rest) (t:=t) hx hy (by rw [hv];rfl) (by rw [hv];rfl) hl hl'
 unfold ExU at h0
 exact h0 a w ha hs
/-- a slice written out -/
theorem Zrr {l:List Oper} (v:Value) [hr:RdIn As v α c xs] (h:∀ p cap,v=.slice p xs.length cap→TL P N w0 ops l e As Q):TL P N w0 ops l e As Q:=by
 unfold TL
 intro i hi a w ha hs
 obtain ⟨p,cap,hv,_⟩:=(hr.get w0 w hs).len
 have h0:=h p cap hv
 unfold TL at h0
 exact h0 i hi a w ha hs
theorem Zdb (v:Value) [hr:RdIn As v α c xs] (h:∀ p cap,v=.slice p xs.length cap→Tri P N w0 c1 e As Q):Tri P N w0 c1 e As Q:=by
 unfold Tri
 intro a w ha hs
 obtain ⟨p,cap,hv,_⟩:=(hr.get w0 w hs).len
 have h0:=h p cap hv
 unfold Tri at h0
 exact h0 a w ha hs
theorem Zjs {ex:Exit} (v:Value) [hr:RdIn As v α c xs] (h:∀ p cap,v=.slice p xs.length cap→Post N w0 Q ex e As):Post N w0 Q ex e As:=by
 unfold Post
 intro a w ha hs
 obtain ⟨p,cap,hv,_⟩:=(hr.get w0 w hs).len
 have h0:=h p cap hv
 unfold Post at h0
 exact h0 a w ha hs
end
section
variable {α:Type} {c:Cod α} {xs ys:List α} {rest:List Ent} {y:Operand}
theorem ExR.ents {Bs':List Ent} (h:Ents As Bs') (k:ExR P N w0 op ty e Bs' RR):ExR P N w0 op ty e As RR:=by
 unfold ExR at k ⊢
 intro a w ha hs
 exact k a w ha (h w0 w hs)
/-- append to an empty slice that was written down -/
theorem Zwp {t tx el:TypeId} {z0:α} {by_ b:Nat} {xv:Value} [UL P t (.slice el)] [UL P tx (.slice el)] [ElC P el α c z0 by_] (hx:ev e x=some (.slice (some ⟨b,0,none⟩) 0 0)) (hy:ev e y=some xv) [h:TakeC As b [] el rest] [hr:RdIn rest xv α c ys]
  (hb:(0+ys.length) * by_≤140737488355328) (h63:0+ys.length≤9223372036854775807):ExR P N w0 (.call ⟨.builtin .append,#[x,y],#[t,tx]⟩) ty e As (RW c el ys rest) :=
 ExR.ents (Ents.trans (Ents.perm h.perm) (Zbz (n:=0) (cap:=0) c [] rfl rfl rfl)) (Znu (xs:=[]) hx hy hb h63)
/-- append(v, y1), the element written out in cells -/
theorem Zub {t el:TypeId} {z0:α} {by_ b m:Nat} {l:List Value} {ct:TypeId} {y1:α} {rest':List Ent} [UL P t (.slice el)] [ElC P el α c z0 by_] (hx:ev e x=some v) (hy:ev e y=some (.slice (some ⟨b,0,none⟩) 1 m)) [h:TakeC As b l ct rest] [h':TakeW rest v c el xs rest'] [dd:DecL c l y1]
  (hb:(xs.length+1) * by_≤140737488355328) (h63:xs.length+1≤9223372036854775807):ExR P N w0 (.call ⟨.builtin .append,#[x,y],#[t,t]⟩) ty e As (RW c el (xs++[y1]) rest'):=Znv hx hy dd.h.symm hb h63
end
/-- a slice written down, its cells written out -/
theorem Zt9 {t el ln n b:Nat} {z':Value} {ty:TypeId} {parts:Array (Nat × Operand)} {vs l:List Value} [UL P t (.slice el)] [TI P el z' n b] (hp:evs e (parts.toList.map (·.2))=some vs) (hl:flatCells vs=l) (h2:l.length=ln * n)
  (hb:∀ w,(Instr.buildSlice t ln ((parts.toList.map (·.1)).zip vs).toArray).run P w=.ok (.slice (some ⟨w.heap.size,0,none⟩) ln ln) (w.alloc (.cells l.toArray el))):ExR P N w0 (.buildSlice t ln parts) ty e As (RB (fun b=>.slice (some ⟨b,0,none⟩) ln ln) (fun b=>.cl b l el::As)):=by
 subst hl
 exact Znt hp h2 hb
theorem Zjt (h:ExF P N w0 op ty e As v:=by (first|(show ExF _ _ _ (.move _) _ _ _ _;(exact ExF.move rfl))|(show ExF _ _ _ (.assign _) _ _ _ _;(exact ExF.assign rfl))|(show ExF _ _ _ (.load _ _) _ _ _ _;(first|exact ExF.load rfl rfl rfl|exact Zuf rfl rfl (by rfl)|exact Zug rfl rfl (by rfl) (by (first|(simp only [List.drop_zero,List.drop_succ_cons,List.take_succ_cons,List.take_zero,Nat.zero_add,Nat.reduceAdd,Nat.reduceMul];exact rfl)|rfl))|(first|exact Zwt rfl rfl (by rfl) (by assumption) (by (first|(simp only [List.getElem?_cons_zero,List.getElem?_cons_succ,Nat.zero_add,Nat.mul_one,Nat.add_zero,Nat.reduceAdd,Nat.reduceMul];exact rfl)|rfl))|exact Zpp rfl rfl (by rfl) (by assumption) (by rfl)|exact Zws rfl rfl (by rfl) (by assumption)|exact Znw rfl rfl (by rfl) (by assumption) (by rfl) (by (first|(simp only [List.drop_zero,List.drop_succ_cons,List.take_succ_cons,List.take_zero,Nat.zero_add,Nat.reduceAdd,Nat.reduceMul];exact rfl)|rfl)))))|(show ExF _ _ _ (.fieldAddr _ _ _) _ _ _ _;(first|exact ExF.fieldAddr rfl (by (rfl))|exact ExF.fldElp rfl rfl))|(show ExF _ _ _ (.indexAddr _ _ _) _ _ _ _;(first|exact Zuh rfl rfl (by (first|decide|omega)) (by (rfl))|(first|exact Z5t rfl (by rfl) rfl (by (first|omega|(show (0:Nat) < _;omega)|(show (1:Nat) < _;omega)|(show (2:Nat) < _;omega)|(show (3:Nat) < _;omega)|exact Nat.le_of_ble_eq_true rfl|fail))|exact Z0x rfl rfl (by (first|decide|omega)) rfl|exact Z0v rfl (by rfl) (by rfl) rfl (by (first|omega|(show (0:Nat) < _;omega)|(show (1:Nat) < _;omega)|(show (2:Nat) < _;omega)|(show (3:Nat) < _;omega)|exact Nat.le_of_ble_eq_true rfl|fail)) (by (first|omega|(simp only [List.length_nil,List.length_append,List.length_cons,List.length_replicate,List.length_set,List.length_map,List.length_take,List.length_drop];omega))))))|(show ExF _ _ _ (.binOp .add _ _ _ _) _ _ _ _;(first|exact Z82 rfl rfl (by (exact ⟨by omega,by omega⟩))|exact ExF.add rfl rfl|exact Z5y rfl rfl (by (first|omega|(simp only [List.length_nil,List.length_append,List.length_cons,List.length_replicate,List.length_set,List.length_map,List.length_take,List.length_drop];omega)))))|(show ExF _ _ _ (.binOp .sub _ _ _ _) _ _ _ _;(first|exact Z8t rfl rfl (by omega) (by (exact ⟨by omega,by omega⟩))|exact Zyz rfl rfl (by (exact ⟨by omega,by omega⟩))|exact ExF.sub rfl rfl))|(show ExF _ _ _ (.binOp .mul _ _ _ _) _ _ _ _;(first|exact Z8y rfl rfl (by (exact ⟨by omega,by omega⟩))|exact ExF.mul rfl rfl))|(show ExF _ _ _ (.binOp .lss _ _ _ _) _ _ _ _;(exact ExF.lss rfl rfl))|(show ExF _ _ _ (.binOp .leq _ _ _ _) _ _ _ _;(exact ExF.leq rfl rfl))|(show ExF _ _ _ (.binOp .gtr _ _ _ _) _ _ _ _;(exact ExF.gtr rfl rfl))|(show ExF _ _ _ (.binOp .geq _ _ _ _) _ _ _ _;(exact ExF.geq rfl rfl))|(show ExF _ _ _ (.binOp .eql _ _ _ _) _ _ _ _;(first|exact ExF.eql rfl rfl|exact Z5u rfl rfl|exact Zy1 rfl rfl|exact Z81 rfl rfl|exact Z00 rfl rfl|exact Z0z rfl rfl|(first|exact Z5v rfl rfl|exact Zui _ _ rfl rfl)))|(show ExF _ _ _ (.binOp .neq _ _ _ _) _ _ _ _;(first|exact ExF.neq rfl rfl|exact Z5o rfl rfl|exact Zy0 rfl rfl|exact Z8w rfl rfl|exact Z5p rfl rfl|(first|exact Z5q rfl rfl|exact Zud _ _ rfl rfl)))|(show ExF _ _ _ (.build _ _) _ _ _ _;(first|exact Z04 (fun w=>by kernel_rfl)|exact Z05 rfl (by rfl) (by rfl) (fun w=>by kernel_rfl)|exact Z06 rfl (by (simp only [flatCells,Value.cells,List.cons_append,List.nil_append,List.append_nil];exact rfl)) (by rfl) (fun w=>by kernel_rfl)|exact Z07 rfl (by rfl) (fun w=>by kernel_rfl)))|(show ExF _ _ _ (.extract _ _) _ _ _ _;(exact ExF.extract rfl rfl))|(show ExF _ _ _ (.call ⟨.builtin .len,_,_⟩) _ _ _ _;(first|exact Z5r rfl|exact Zwu rfl|exact Zpq rfl|(first|exact Z5s rfl|exact Z0u rfl)))|(show ExF _ _ _ (.unOp .not _ _) _ _ _ _;(exact ExF.not rfl))|(show ExF _ _ _ (.pick _ _ _) _ _ _ _;(first|exact Z5m rfl rfl|exact Z5n rfl rfl|exact Z5k rfl (by (first|assumption|omega|decide)) rfl|exact Z5l rfl (by (first|assumption|omega|decide)) rfl|exact Z0r rfl (by (first|assumption|omega|decide)) rfl|exact Z0s rfl (by (first|assumption|omega|decide)) rfl))|(show ExF _ _ _ (.index _ _ _) _ _ _ _;(first|exact Z0y rfl rfl rfl rfl rfl|exact Znx rfl rfl rfl rfl (by (first|(simp only [List.drop_zero,List.drop_succ_cons,List.take_succ_cons,List.take_zero,Nat.zero_add,Nat.reduceAdd,Nat.reduceMul];exact rfl)|rfl))|exact Zwv rfl rfl (by assumption)))|(show ExF _ _ _ (.convert _ _ _) _ _ _ _;(first|exact Z5x rfl (by (exact ⟨by omega,by omega⟩))|exact Zy2 rfl|exact Z5w rfl))|(show ExF _ _ _ (.unOp .neg _ _) _ _ _ _;(first|exact Z8x rfl (by (exact ⟨by omega,by omega⟩))|exact ExF.neg rfl))|(show ExF _ _ _ (.binOp .rem _ _ _ _) _ _ _ _;(first|exact Z8u rfl rfl (by omega) (by omega)|exact ExF.rem rfl rfl (by omega)))|(show ExF _ _ _ (.binOp .quo _ _ _ _) _ _ _ _;(exact Z8v rfl rfl (by omega) (by omega) (by (exact ⟨by omega,by omega⟩))))|(show ExF _ _ _ (.makeFunc _ _ _) _ _ _ _;(exact ExF.makeFunc rfl rfl))|(show ExF _ _ _ (.nilCheck _) _ _ _ _;(exact Zr0 rfl))|(show ExF _ _ _ (.field _ _ _) _ _ _ _;(first|exact ExF.fld rfl rfl rfl rfl|(fail)))|(show ExF _ _ _ (.lookup _ _ _ false) _ _ _ _;(first|exact Zwq rfl rfl (by assumption)|exact ExF.lookup rfl rfl))|(show ExF _ _ _ (.lookup _ _ _ true) _ _ _ _;(exact Zwr rfl rfl))|(show ExF _ _ _ (.call ⟨.builtin .min,_,_⟩) _ _ _ _;(first|exact Z8z rfl rfl|(fail)))|(show ExF _ _ _ (.call ⟨.builtin .max,_,_⟩) _ _ _ _;(first|exact Z80 rfl rfl|(fail)))|(show ExF _ _ _ (.binOp _ _ _ _ _) _ _ _ _;((fail)))|(show ExF _ _ _ (.call ⟨.value (.func _),_,_⟩) _ _ _ _;(exact Zuj rfl))|(show ExF _ _ _ (.call ⟨.builtin _,_,_⟩) _ _ _ _;((fail))))):ExF P N w0 op ty e As v:=h
theorem Zyw (h:ExU P N w0 op ty e As As':=by (first|(show ExU _ _ _ (.store _ _ _) _ _ _ _;(first|exact Z0n rfl rfl rfl rfl|exact Zry rfl rfl (by rfl) (by (first|rfl|(simp only [flatCells,oneB, *]<;>rfl)|(simp only [flatCells,oneB,Bool.and_true,Bool.true_and,Bool.and_eq_true];exact ⟨by assumption,by assumption,rfl⟩)|(simp [flatCells,oneB, *];done)|fail)) (by rfl)|exact ExU.store rfl rfl rfl rfl rfl (by (first|(simp only [List.set_cons_zero,List.set_cons_succ,Nat.zero_add,Nat.add_zero,Nat.reduceAdd,Nat.reduceMul];exact rfl)|rfl))|exact Zwl rfl rfl rfl (by (first|(simp only [List.set_cons_zero,List.set_cons_succ,Nat.zero_add,Nat.add_zero,Nat.reduceAdd,Nat.reduceMul];exact rfl)|rfl))|exact Zpo rfl rfl (by rfl) (by rfl) (by rfl) (by (first|(simp only [List.set_cons_zero,List.set_cons_succ,Nat.zero_add,Nat.add_zero,Nat.reduceAdd,Nat.reduceMul];exact rfl)|rfl))|(first|exact Zwj rfl rfl (by rfl) (by rfl) (by rfl) (by (first|omega|(show (0:Nat) < _;omega)|(show (1:Nat) < _;omega)|(show (2:Nat) < _;omega)|(show (3:Nat) < _;omega)|exact Nat.le_of_ble_eq_true rfl|fail))|exact Zwn rfl rfl (by rfl) (by rfl) (by rfl) (by (first|assumption|exact rfl|fail)) (by rfl) (by (simp only [setAll,List.take_succ_cons,List.take_zero,List.drop_succ_cons,List.drop_zero,List.drop_nil,List.length_cons,List.length_nil,List.cons_append,List.nil_append,List.append_nil,Nat.mul_one,Nat.zero_add,Nat.add_zero,Nat.reduceAdd,Nat.reduceMul];exact rfl))|exact Zwm rfl rfl (by rfl) (by (first|rfl|(simp only [flatCells,oneB, *]<;>rfl)|(simp only [flatCells,oneB,Bool.and_true,Bool.true_and,Bool.and_eq_true];exact ⟨by assumption,by assumption,rfl⟩)|(simp [flatCells,oneB, *];done)|fail)) (by rfl) (by (first|assumption|exact rfl|fail)) (by rfl) (by (simp only [setAll,List.take_succ_cons,List.take_zero,List.drop_succ_cons,List.drop_zero,List.drop_nil,List.length_cons,List.length_nil,List.cons_append,List.nil_append,List.append_nil,Nat.mul_one,Nat.zero_add,Nat.add_zero,Nat.reduceAdd,Nat.reduceMul];exact rfl))|exact Zkj rfl rfl (by rfl) (by rfl) (by rfl) (by assumption) (by rfl) (by rfl)|exact Zir rfl rfl (by rfl) (by rfl) (by rfl) (by rfl) (by assumption) (by rfl) (by rfl)|exact Zwk rfl rfl (by rfl) (by (first|(simp only [List.set_cons_zero,List.set_cons_succ,Nat.zero_add,Nat.add_zero,Nat.reduceAdd,Nat.reduceMul];exact rfl)|rfl)))))|(show ExU _ _ _ (.mapUpdate _ _ _ _) _ _ _ _;(exact ExU.mapUpdate rfl rfl rfl))|(show ExU _ _ _ (.entryStore _ _ _ _) _ _ _ _;(exact ExU.entryStore rfl rfl rfl)))):ExU P N w0 op ty e As As':=h
theorem Zyy (h:ExR P N w0 op ty e As RR:=by (first|(show ExR _ _ _ (.alloc _) _ _ _ _;(first|exact Z0p|exact Z0q rfl))|(show ExR _ _ _ (.box _ _) _ _ _ _;(first|exact Z8p rfl|exact Z8q rfl rfl))|(show ExR _ _ _ (.buildSlice _ _ _) _ _ _ _;(first|exact Zt9 rfl (by (simp only [flatCells,Value.cells,List.cons_append,List.nil_append,List.append_nil];exact rfl)) (by rfl) (fun w=>by kernel_rfl)|exact Znt rfl (by rfl) (fun w=>by kernel_rfl))))):ExR P N w0 op ty e As RR:=h
theorem Zpn (h:ExR P N w0 op ty e As RR:=by (first|(show ExR _ _ _ (.makeSlice _ _ _) _ _ _ _;(first|exact Zyx rfl rfl (by omega) (by omega) (by omega)|exact Znr (n:=0) rfl rfl (by omega) (by omega) (by omega) (by omega)|exact Znr rfl rfl (by omega) (by omega) (by omega) (by omega)))|(show ExR _ _ _ (.call ⟨.builtin .append,_,_⟩) _ _ _ _;(first|exact Znv rfl rfl (by rfl) (by (first|omega|(simp only [List.length_nil,List.length_append,List.length_cons,List.length_replicate,List.length_set,List.length_map,List.length_take,List.length_drop];omega))) (by (first|omega|(simp only [List.length_nil,List.length_append,List.length_cons,List.length_replicate,List.length_set,List.length_map,List.length_take,List.length_drop];omega)))|exact Zub rfl rfl (by (first|omega|(simp only [List.length_nil,List.length_append,List.length_cons,List.length_replicate,List.length_set,List.length_map,List.length_take,List.length_drop];omega))) (by (first|omega|(simp only [List.length_nil,List.length_append,List.length_cons,List.length_replicate,List.length_set,List.length_map,List.length_take,List.length_drop];omega)))|exact Zwp rfl rfl (by (first|omega|(simp only [List.length_nil,List.length_append,List.length_cons,List.length_replicate,List.length_set,List.length_map,List.length_take,List.length_drop];omega))) (by (first|omega|(simp only [List.length_nil,List.length_append,List.length_cons,List.length_replicate,List.length_set,List.length_map,List.length_take,List.length_drop];omega)))|exact Znu rfl rfl (by (first|omega|(simp only [List.length_nil,List.length_append,List.length_cons,List.length_replicate,List.length_set,List.length_map,List.length_take,List.length_drop];omega))) (by (first|omega|(simp only [List.length_nil,List.length_append,List.length_cons,List.length_replicate,List.length_set,List.length_map,List.length_take,List.length_drop];omega)))|exact Zwo rfl rfl (by (first|omega|(simp only [List.length_nil,List.length_append,List.length_cons,List.length_replicate,List.length_set,List.length_map,List.length_take,List.length_drop];omega))) (by (first|omega|(simp only [List.length_nil,List.length_append,List.length_cons,List.length_replicate,List.length_set,List.length_map,List.length_take,List.length_drop];omega)))))|(show ExR _ _ _ (.slice _ _ none (some _) none) _ _ _ _;(first|exact Zg8 rfl Zq1 (Zfh rfl) (by (first|omega|(show (0:Nat)≤_;omega)|(show (1:Nat)≤_;omega)|(show (2:Nat)≤_;omega)|(show (3:Nat)≤_;omega)|(show _≤(3:Nat);omega)|fail)) (by (first|omega|(show (0:Nat)≤_;omega)|(show (1:Nat)≤_;omega)|(show (2:Nat)≤_;omega)|(show (3:Nat)≤_;omega)|(show _≤(3:Nat);omega)|fail))|exact Zkk rfl (by rfl) Zq1 (Zfh rfl) (by (first|omega|(show (0:Nat)≤_;omega)|(show (1:Nat)≤_;omega)|(show (2:Nat)≤_;omega)|(show (3:Nat)≤_;omega)|(show _≤(3:Nat);omega)|fail)) (by (first|omega|(show (0:Nat)≤_;omega)|(show (1:Nat)≤_;omega)|(show (2:Nat)≤_;omega)|(show (3:Nat)≤_;omega)|(show _≤(3:Nat);omega)|fail))|exact Zkl rfl (by rfl) Zq1 (Zfh rfl) (by (first|omega|(show (0:Nat)≤_;omega)|(show (1:Nat)≤_;omega)|(show (2:Nat)≤_;omega)|(show (3:Nat)≤_;omega)|(show _≤(3:Nat);omega)|fail)) (by (first|omega|(show (0:Nat)≤_;omega)|(show (1:Nat)≤_;omega)|(show (2:Nat)≤_;omega)|(show (3:Nat)≤_;omega)|(show _≤(3:Nat);omega)|fail))))|(show ExR _ _ _ (.slice _ _ (some _) none none) _ _ _ _;(first|exact Zg8 rfl (Zev rfl) Zmz (by (first|omega|(show (0:Nat)≤_;omega)|(show (1:Nat)≤_;omega)|(show (2:Nat)≤_;omega)|(show (3:Nat)≤_;omega)|(show _≤(3:Nat);omega)|fail)) (by (first|omega|(show (0:Nat)≤_;omega)|(show (1:Nat)≤_;omega)|(show (2:Nat)≤_;omega)|(show (3:Nat)≤_;omega)|(show _≤(3:Nat);omega)|fail))|exact Zkk rfl (by rfl) (Zev rfl) Zmz (by (first|omega|(show (0:Nat)≤_;omega)|(show (1:Nat)≤_;omega)|(show (2:Nat)≤_;omega)|(show (3:Nat)≤_;omega)|(show _≤(3:Nat);omega)|fail)) (by (first|omega|(show (0:Nat)≤_;omega)|(show (1:Nat)≤_;omega)|(show (2:Nat)≤_;omega)|(show (3:Nat)≤_;omega)|(show _≤(3:Nat);omega)|fail))|exact Zkl rfl (by rfl) (Zev rfl) Zmz (by (first|omega|(show (0:Nat)≤_;omega)|(show (1:Nat)≤_;omega)|(show (2:Nat)≤_;omega)|(show (3:Nat)≤_;omega)|(show _≤(3:Nat);omega)|fail)) (by (first|omega|(show (0:Nat)≤_;omega)|(show (1:Nat)≤_;omega)|(show (2:Nat)≤_;omega)|(show (3:Nat)≤_;omega)|(show _≤(3:Nat);omega)|fail))))|(show ExR _ _ _ (.slice _ _ (some _) (some _) none) _ _ _ _;(first|exact Zg8 rfl (Zev rfl) (Zfh rfl) (by (first|omega|(show (0:Nat)≤_;omega)|(show (1:Nat)≤_;omega)|(show (2:Nat)≤_;omega)|(show (3:Nat)≤_;omega)|(show _≤(3:Nat);omega)|fail)) (by (first|omega|(show (0:Nat)≤_;omega)|(show (1:Nat)≤_;omega)|(show (2:Nat)≤_;omega)|(show (3:Nat)≤_;omega)|(show _≤(3:Nat);omega)|fail))|exact Zkk rfl (by rfl) (Zev rfl) (Zfh rfl) (by (first|omega|(show (0:Nat)≤_;omega)|(show (1:Nat)≤_;omega)|(show (2:Nat)≤_;omega)|(show (3:Nat)≤_;omega)|(show _≤(3:Nat);omega)|fail)) (by (first|omega|(show (0:Nat)≤_;omega)|(show (1:Nat)≤_;omega)|(show (2:Nat)≤_;omega)|(show (3:Nat)≤_;omega)|(show _≤(3:Nat);omega)|fail))|exact Zkl rfl (by rfl) (Zev rfl) (Zfh rfl) (by (first|omega|(show (0:Nat)≤_;omega)|(show (1:Nat)≤_;omega)|(show (2:Nat)≤_;omega)|(show (3:Nat)≤_;omega)|(show _≤(3:Nat);omega)|fail)) (by (first|omega|(show (0:Nat)≤_;omega)|(show (1:Nat)≤_;omega)|(show (2:Nat)≤_;omega)|(show (3:Nat)≤_;omega)|(show _≤(3:Nat);omega)|fail))))|(show ExR _ _ _ (.mapEntry _ _ _) _ _ _ _;(exact ExR.mapEntry rfl rfl)))):ExR P N w0 op ty e As RR:=h
theorem Zd9 (h:RV P N w0 e As rv v:=by (first|exact RV.tmp rfl|exact RV.cell rfl rfl rfl|exact Z8n rfl rfl (by rfl)|exact Zyu rfl rfl (by rfl) (by (first|(simp only [List.drop_zero,List.drop_succ_cons,List.take_succ_cons,List.take_zero,Nat.zero_add,Nat.reduceAdd,Nat.reduceMul];exact rfl)|rfl)))):RV P N w0 e As rv v:=h
theorem Zad (h:Sub e e':=by (repeat (first|exact trivial|refine ⟨rfl,?_⟩))):Sub e e':=h
theorem Zaa (h:Ents As Bs:=by exact Zgl inferInstance):Ents As Bs:=h
theorem Ze1 (h:TL P N w0 ops r ((d,v)::e) As Q) (hg:gOk ops e g=some true:=by exact rfl) (hN:Nat.blt d N.N=true:=by exact rfl) (hx:ExF P N w0 op ty e As v:=by exact Zjt):TL P N w0 ops (⟨some d,op,ty,pos,af,g⟩::r) e As Q:=TL.f hg hN hx h
theorem Zey (h:TL P N w0 ops r e As' Q) (hg:gOk ops e g=some true:=by exact rfl) (hx:ExU P N w0 op ty e As As':=by exact Zyw):TL P N w0 ops (⟨none,op,ty,pos,af,g⟩::r) e As Q:=TL.u hg hx h
theorem Zcn (h:∀ b,TL P N w0 ops r ((d,ff b)::e) (AA b) Q) (hg:gOk ops e g=some true:=by exact rfl) (hN:Nat.blt d N.N=true:=by exact rfl) (hx:ExR P N w0 op ty e As (RB ff AA):=by exact Zyy):TL P N w0 ops (⟨some d,op,ty,pos,af,g⟩::r) e As Q:=TL.rb hg hN hx h
theorem Zdd (h:∀ v As',RR v As'→TL P N w0 ops r ((d,v)::e) As' Q) (hg:gOk ops e g=some true:=by exact rfl) (hN:Nat.blt d N.N=true:=by exact rfl) (hx:ExR P N w0 op ty e As RR:=by exact Zpn):TL P N w0 ops (⟨some d,op,ty,pos,af,g⟩::r) e As Q:=Zrq hg hN hx h
theorem Zbp (h:TL P N w0 ops r ((d,undef)::e) As Q) (hg:gOk ops e g=some false:=by exact rfl) (hN:Nat.blt d N.N=true:=by exact rfl):TL P N w0 ops (⟨some d,op,ty,pos,af,g⟩::r) e As Q:=Z41 hg hN h
theorem Zbb (h:TL P N w0 ops r e As Q) (hg:gOk ops e g=some false:=by exact rfl):TL P N w0 ops (⟨none,op,ty,pos,af,g⟩::r) e As Q:=Zys hg h
theorem Yex (k:TL P N w0 ops (o::r) ((d,.bool true)::e) As Q) (hd:gslot ops o.guard=some d:=by exact rfl) (he:e.get d=some (.bool (decide p)):=by exact rfl) (h:p:=by (first|assumption|omega|decide)):TL P N w0 ops (o::r) e As Q:=Yey hd he h k
theorem Yez (k:TL P N w0 ops (o::r) ((d,.bool false)::e) As Q) (hd:gslot ops o.guard=some d:=by exact rfl) (he:e.get d=some (.bool (decide p)):=by exact rfl) (h:¬ p:=by (first|assumption|omega|decide)):TL P N w0 ops (o::r) e As Q:=Ye0 hd he h k
theorem Yb3 (k:TL P N w0 ops (o::r) ((d,.bool true)::e) As Q) (hd:gslot ops o.guard=some d:=by exact rfl) (he:e.get d=some (.bool !(decide p)):=by exact rfl) (h:¬ p:=by (first|assumption|omega|decide)):TL P N w0 ops (o::r) e As Q:=Z9l hd he h k
theorem Yb4 (k:TL P N w0 ops (o::r) ((d,.bool false)::e) As Q) (hd:gslot ops o.guard=some d:=by exact rfl) (he:e.get d=some (.bool !(decide p)):=by exact rfl) (h:p:=by (first|assumption|omega|decide)):TL P N w0 ops (o::r) e As Q:=Z9m hd he h k
theorem Zgh [PanicOk Q] (h:TT P N w0 ops ⟨R0,T⟩ t ((d,v)::e) As Q) (ho:ops[i]?=some ⟨some d,op,ty,pos,af,g⟩:=by exact rfl) (hg:gOk ops e g=some true:=by exact rfl) (hN:Nat.blt d N.N=true:=by exact rfl) (hx:ExF P N w0 op ty e R0 v:=by exact Zjt):TT P N w0 ops ⟨R0,T⟩ (.take i t) e As Q:=TT.take ho hg hN hx h
theorem Zex [MemT T i R] [PanicOk Q] (h:TT P N w0 ops ⟨R0,T⟩ t ((d,v)::e) As Q) (ho:ops[i]?=some ⟨some d,op,ty,pos,af,g⟩:=by exact rfl) (hg:gOk ops e g=some true:=by exact rfl) (hN:Nat.blt d N.N=true:=by exact rfl) (hA:Ents As R:=by exact Zaa) (hx:ExF P N w0 op ty e R v:=by exact Zjt):TT P N w0 ops ⟨R0,T⟩ (.take i t) e As Q:=Zyr ho hg hN hA hx h
theorem Zwi {l:List (Nat × List Ent)} (h:Keep ops i As l:=by repeat (first|exact Keep.nil|refine Keep.w (by decide +kernel) ?_|refine Keep.c Zaa ?_)):Keep ops i As l:=h
theorem Znh [Cov As R0] (k:TT P N w0 ops ⟨R0,T⟩ t e As Q) (hk:Keep ops i As T:=by exact Zwi):TC P N w0 ops ⟨R0,T⟩ i t e As Q:=Yb5 hk k
theorem Zc3 [PanicOk Q] (h:TT P N w0 ops ⟨R0,T⟩ t ((d,undef)::e) As Q) (ho:ops[i]?=some ⟨some d,op,ty,pos,af,g⟩:=by exact rfl) (hg:gOk ops e g=some false:=by exact rfl) (hN:Nat.blt d N.N=true:=by exact rfl):TT P N w0 ops ⟨R0,T⟩ (.take i t) e As Q:=Zpm ho hg hN h
theorem Yet (k:TT P N w0 ops ⟨R0,T⟩ (.take i t) ((d,.bool true)::e) As Q) (ho:ops[i]?=some o:=by exact rfl) (hd:gslot ops o.guard=some d:=by exact rfl) (he:e.get d=some (.bool (decide p)):=by exact rfl) (h:p:=by (first|assumption|omega|decide)):TT P N w0 ops ⟨R0,T⟩ (.take i t) e As Q:=Yeu ho hd he h k
theorem Yev (k:TT P N w0 ops ⟨R0,T⟩ (.take i t) ((d,.bool false)::e) As Q) (ho:ops[i]?=some o:=by exact rfl) (hd:gslot ops o.guard=some d:=by exact rfl) (he:e.get d=some (.bool (decide p)):=by exact rfl) (h:¬ p:=by (first|assumption|omega|decide)):TT P N w0 ops ⟨R0,T⟩ (.take i t) e As Q:=Yew ho hd he h k
theorem Ybz (k:TT P N w0 ops ⟨R0,T⟩ (.take i t) ((d,.bool true)::e) As Q) (ho:ops[i]?=some o:=by exact rfl) (hd:gslot ops o.guard=some d:=by exact rfl) (he:e.get d=some (.bool !(decide p)):=by exact rfl) (h:¬ p:=by (first|assumption|omega|decide)):TT P N w0 ops ⟨R0,T⟩ (.take i t) e As Q:=Z9j ho hd he h k
theorem Yb0 (k:TT P N w0 ops ⟨R0,T⟩ (.take i t) ((d,.bool false)::e) As Q) (ho:ops[i]?=some o:=by exact rfl) (hd:gslot ops o.guard=some d:=by exact rfl) (he:e.get d=some (.bool !(decide p)):=by exact rfl) (h:p:=by (first|assumption|omega|decide)):TT P N w0 ops ⟨R0,T⟩ (.take i t) e As Q:=Z9k ho hd he h k
theorem Zwd (h:TC P N w0 ops ⟨R0,T⟩ i t e As' Q) (ho:ops[i]?=some ⟨none,op,ty,pos,af,g⟩:=by exact rfl) (hg:gOk ops e g=some true:=by exact rfl) (hx:ExU P N w0 op ty e As As':=by exact Zyw):T1 P N w0 ops ⟨R0,T⟩ i t e As Q:=T1.u ho hg hx h
theorem Znj (h:∀ b,TC P N w0 ops ⟨R0,T⟩ i t ((d,ff b)::e) (AA b) Q) (ho:ops[i]?=some ⟨some d,op,ty,pos,af,g⟩:=by exact rfl) (hg:gOk ops e g=some true:=by exact rfl) (hN:Nat.blt d N.N=true:=by exact rfl) (hx:ExR P N w0 op ty e As (RB ff AA):=by exact Zyy):T1 P N w0 ops ⟨R0,T⟩ i t e As Q:=T1.rb ho hg hN hx h
theorem Zni (h:∀ v As',RR v As'→TC P N w0 ops ⟨R0,T⟩ i t ((d,v)::e) As' Q) (ho:ops[i]?=some ⟨some d,op,ty,pos,af,g⟩:=by exact rfl) (hg:gOk ops e g=some true:=by exact rfl) (hN:Nat.blt d N.N=true:=by exact rfl) (hx:ExR P N w0 op ty e As RR:=by exact Zpn):T1 P N w0 ops ⟨R0,T⟩ i t e As Q:=Z0k ho hg hN hx h
theorem Zwe (h:TC P N w0 ops ⟨R0,T⟩ i t ((d,v)::e) As Q) (ho:ops[i]?=some ⟨some d,op,ty,pos,af,g⟩:=by exact rfl) (hg:gOk ops e g=some true:=by exact rfl) (hN:Nat.blt d N.N=true:=by exact rfl) (hx:ExF P N w0 op ty e As v:=by exact Zjt):T1 P N w0 ops ⟨R0,T⟩ i t e As Q:=T1.f ho hg hN hx h
theorem Ziq (h:TC P N w0 ops ⟨R0,T⟩ i t ((d,undef)::e) As Q) (ho:ops[i]?=some ⟨some d,op,ty,pos,af,g⟩:=by exact rfl) (hg:gOk ops e g=some false:=by exact rfl) (hN:Nat.blt d N.N=true:=by exact rfl):T1 P N w0 ops ⟨R0,T⟩ i t e As Q:=T1.off ho hg hN h
theorem Zgi (h:TC P N w0 ops ⟨R0,T⟩ i t e As Q) (ho:ops[i]?=some ⟨none,op,ty,pos,af,g⟩:=by exact rfl) (hg:gOk ops e g=some false:=by exact rfl):T1 P N w0 ops ⟨R0,T⟩ i t e As Q:=Z44 ho hg h
theorem Zip (k:Post N w0 Q .normal e As) (h:sinkAt .any ops i=true:=by kernel_rfl):TC P N w0 ops ⟨R0,T⟩ i .done e As Q:=Z43 h k
theorem Zbn (k:Tri P N w0 c1 e As Q) (hx:ev e x=some (.bool true):=by exact rfl):Tri P N w0 (.cond x c1 c2) e As Q:=Z9h hx k
theorem Zbo (k:Tri P N w0 c2 e As Q) (hx:ev e x=some (.bool false):=by exact rfl):Tri P N w0 (.cond x c1 c2) e As Q:=Z9i hx k
theorem Zat (k:Tri P N w0 c1 e As Q) (hx:ev e x=some (.bool (decide p)):=by exact rfl) (h:p:=by (first|assumption|omega|decide)):Tri P N w0 (.cond x c1 c2) e As Q:=Zjq hx h k
theorem Zau (k:Tri P N w0 c2 e As Q) (hx:ev e x=some (.bool (decide p)):=by exact rfl) (h:¬ p:=by (first|assumption|omega|decide)):Tri P N w0 (.cond x c1 c2) e As Q:=Zjr hx h k
theorem Zap (k:Tri P N w0 c1 e As Q) (hx:ev e x=some (.bool !(decide p)):=by exact rfl) (h:¬ p:=by (first|assumption|omega|decide)):Tri P N w0 (.cond x c1 c2) e As Q:=Zpk hx h k
theorem Zaq (k:Tri P N w0 c2 e As Q) (hx:ev e x=some (.bool !(decide p)):=by exact rfl) (h:p:=by (first|assumption|omega|decide)):Tri P N w0 (.cond x c1 c2) e As Q:=Zpl hx h k
theorem Zam [Mix P] {id:Nat} (t:Tree) (h:TT P N w0 ops ⟨As,[]⟩ t e As Q) (hd:Nat.ble t.depth ops.size=true:=by exact rfl) (hok:(tame ops&&t.ok ops (Array.replicate ops.size false))=true:=by kernel_rfl):Tri P N w0 (.region id ops true) e As Q:=Zdc t hd hok h
theorem Zag [Mix P] {id:Nat} (R0:List Ent) (l:List (Nat × BK)) (t:Tree) {T:List (Nat × List Ent)} [OwnE As l T] (h:TT P N w0 ops ⟨R0,T⟩ t e As Q) (hd:Nat.ble t.depth ops.size=true:=by exact rfl) (hok:(tame ops&&t.ok ops (Array.replicate ops.size false))=true:=by kernel_rfl) (hR:Ents As R0:=by exact Zaa):Tri P N w0 (.region id ops true) e As Q:=Zt4 ⟨R0,T⟩ t hd hok hR h
/-- an entry comes to the front -/
theorem Zhy {rest:List Ent} {l:List Oper} (y:Ent) [h:Take As y rest] (k:TL P N w0 ops l e (y::rest) Q):TL P N w0 ops l e As Q:=TL.ents (Ents.perm h.perm) k
theorem Z4v {rest:List Ent} (y:Ent) [h:Take As y rest] (k:Tri P N w0 c1 e (y::rest) Q):Tri P N w0 c1 e As Q:=Tri.ents (Ents.perm h.perm) k
theorem Zhb {rest:List Ent} {f:FuncId} {args:List Value} (y:Ent) [h:Take As y rest] (k:CallsS P w0 f args (y::rest) K):CallsS P w0 f args As K:=CallsS.ents (Ents.perm h.perm) k
/-- the fence of a context, whose fields may be known -/
class Fe (N:Ctx) (f:Fence):Prop where
 h:f=fen N.ro
instance {n:Nat} {r:Option Nat} {d:List Deferred}:Fe ⟨n,r,d⟩ (fen r):=⟨rfl⟩
class EqB (a b:Bool):Prop where
 h:a=b
instance {a:Bool}:EqB a a:=⟨rfl⟩
/-- a step without a choice: G' gives G -/
class Stp (G:Prop) (G':outParam Prop):Prop where
 h:G'→G
section
variable {c:Code} {x:Exit} {id n:Nat} {KK:Act→World→Prop}
instance:Stp (TL P N w0 ops [] e As Q) (Post N w0 Q .normal e As):=⟨TL.nil⟩
instance:Stp (Tri P N w0 (.seq c1 c2) e As Q) (Tri P N w0 c1 e As (Exit.then (c2.wpIn (fen N.ro) 0 P Q) Q)):=⟨Tri.seq⟩
instance:Stp (Tri P N w0 .skip e As Q) (Post N w0 Q .normal e As):=⟨Tri.skip⟩
instance:Stp (Tri P N w0 .ret e As Q) (Post N w0 Q .ret e As):=⟨Tri.ret⟩
instance:Stp (Tri P N w0 (.exit id) e As Q) (Post N w0 Q (.exit id) e As):=⟨Tri.exit⟩
instance:Stp (Tri P N w0 (.block id c) e As Q) (Tri P N w0 c e As (Exit.inBlock id Q)):=⟨Tri.block⟩
instance:Stp (Tri P N w0 (.region id ops false) e As Q) (TL P N w0 ops ops.toList e As Q):=⟨Tri.region⟩
instance:Stp (Tri P N w0 (.scope c) e As Q) (Tri P N w0 c e As (Exit.noGoto Q)):=⟨Tri.scope⟩
instance:Stp (Tri P N w0 (.label id) e As Q) (Post N w0 Q .normal e As):=⟨Tri.label⟩
instance:Stp (Rnds P N w0 c (n+1) e As Q) (Tri P N w0 c e As (Exit.then (Code.roundsIn (fen N.ro) 0 P c Q n) Q)):=⟨Rnds.next⟩
instance:Stp (Post N w0 (Exit.then (Code.roundsIn (fen N.ro) 0 P c Q n) Q) .normal e As) (Rnds P N w0 c n e As Q):=⟨Post.next⟩
instance:Stp (Post N w0 (Exit.then (c.wpIn (fen N.ro) 0 P Q) Q) .normal e As) (Tri P N w0 c e As Q):=⟨Zgo⟩
instance:Stp (Post N w0 (Exit.then KK Q) .ret e As) (Post N w0 Q .ret e As):=⟨Zrs⟩
instance:Stp (Post N w0 (Exit.then KK Q) (.exit id) e As) (Post N w0 Q (.exit id) e As):=⟨Zn6⟩
instance:Stp (Post N w0 (Exit.inBlock id Q) (.exit id) e As) (Post N w0 Q .normal e As):=⟨Znq⟩
instance:Stp (Post N w0 (Exit.inBlock id Q) .normal e As) (Post N w0 Q .normal e As):=⟨Zki⟩
instance:Stp (Post N w0 (Exit.inBlock id Q) .ret e As) (Post N w0 Q .ret e As):=⟨Zn8⟩
instance:Stp (Post N w0 (Exit.noGoto Q) .normal e As) (Post N w0 Q .normal e As):=⟨Zn7⟩
instance:Stp (Post N w0 (Exit.noGoto Q) .ret e As) (Post N w0 Q .ret e As):=⟨Zwf⟩
instance:Stp (Post N w0 (Exit.noGoto Q) (.exit id) e As) (Post N w0 Q (.exit id) e As):=⟨Zt7⟩
instance {f:Fence} [h:Fe N f]:Stp (Post N w0 (Exit.then (c.wpIn f 0 P Q) Q) .normal e As) (Tri P N w0 c e As Q):=⟨by rw [h.h];exact Zgo⟩
instance {f:Fence} [h:Fe N f]:Stp (Post N w0 (Exit.then (Code.roundsIn f 0 P c Q n) Q) .normal e As) (Rnds P N w0 c n e As Q):=⟨by rw [h.h];exact Post.next⟩
instance {id':Nat} [h:EqB (Nat.beq id' id) false]:Stp (Post N w0 (Exit.inBlock id Q) (.exit id') e As) (Post N w0 Q (.exit id') e As):=⟨Zk7 h.h⟩
instance {Rs:RsP}:Stp (TT P N w0 ops Rs .done e As Q) (Post N w0 Q .normal e As):=⟨TT.done⟩
instance {Rs:RsP} {l:List (Nat × Tree)}:Stp (TT P N w0 ops Rs (.all l) e As Q) (TTs P N w0 ops Rs l e As Q):=⟨TT.all⟩
end
/-- a guard that is known -/
theorem Ze0 (k:TL P N w0 ops (o::r) ((d,.bool b)::e) As Q) (h:TL P N w0 ops (o::r) ((d,.bool b)::e) As Q→TL P N w0 ops (o::r) e As Q:=by first|exact fun k=>Yex k|exact fun k=>Yez k|exact fun k=>Yb3 k|exact fun k=>Yb4 k|fail):TL P N w0 ops (o::r) e As Q:=h k
theorem Zwc (k:TT P N w0 ops ⟨R0,T⟩ (.take i t) ((d,.bool b)::e) As Q) (h:TT P N w0 ops ⟨R0,T⟩ (.take i t) ((d,.bool b)::e) As Q→TT P N w0 ops ⟨R0,T⟩ (.take i t) e As Q:=by first|exact fun k=>Yet k|exact fun k=>Yev k|exact fun k=>Ybz k|exact fun k=>Yb0 k|fail):TT P N w0 ops ⟨R0,T⟩ (.take i t) e As Q:=h k
/-- a step of a list of operations -/
structure LTo (P:Program) (N:Ctx) (w0:World) (ops:Array Oper) (l:List Oper) (e:Env) (As:List Ent) (l':List Oper) (e':Env) (As':List Ent):Prop where
 h:∀ Q,TL P N w0 ops l' e' As' Q→TL P N w0 ops l e As Q
/-- a step of a list of operations that makes a new name -/
structure LNew {α:Type} (P:Program) (N:Ctx) (w0:World) (ops:Array Oper) (l:List Oper) (e:Env) (As:List Ent) (l':List Oper) (e':α→Env) (As':α→List Ent):Prop where
 h:∀ Q,(∀ b,TL P N w0 ops l' (e' b) (As' b) Q)→TL P N w0 ops l e As Q
/-- a step of a tree -/
structure TTo (P:Program) (N:Ctx) (w0:World) (ops:Array Oper) (R0:List Ent) (T:List (Nat × List Ent)) (i:Nat) (t:Tree) (e:Env) (As:List Ent) (Q:Exit→Act→World→Prop) (t':Tree) (e':Env):Prop where
 h:TT P N w0 ops ⟨R0,T⟩ t' e' As Q→TT P N w0 ops ⟨R0,T⟩ (.take i t) e As Q
/-- an operation of a tree -/
structure OTo (P:Program) (N:Ctx) (w0:World) (ops:Array Oper) (i:Nat) (e:Env) (As:List Ent) (e':Env) (As':List Ent):Prop where
 h:∀ R0 T t Q,TC P N w0 ops ⟨R0,T⟩ i t e' As' Q→T1 P N w0 ops ⟨R0,T⟩ i t e As Q
structure ONew {α:Type} (P:Program) (N:Ctx) (w0:World) (ops:Array Oper) (i:Nat) (e:Env) (As:List Ent) (e':α→Env) (As':α→List Ent):Prop where
 h:∀ R0 T t Q,(∀ b,TC P N w0 ops ⟨R0,T⟩ i t (e' b) (As' b) Q)→T1 P N w0 ops ⟨R0,T⟩ i t e As Q
/-- which branch -/
structure CTo (e:Env) (x:Operand) (c1 c2 c':Code):Prop where
 h:∀ (P:Program) (N:Ctx) (w0:World) (As:List Ent) (Q:Exit→Act→World→Prop),Tri P N w0 c' e As Q→Tri P N w0 (.cond x c1 c2) e As Q
theorem Zyv (hg:gOk ops e g=some true:=by exact rfl) (hN:Nat.blt d N.N=true:=by exact rfl) (hx:ExF P N w0 op ty e As v:=by exact Zjt):LTo P N w0 ops (⟨some d,op,ty,pos,af,g⟩::r) e As r ((d,v)::e) As:=⟨fun _ h=>TL.f hg hN hx h⟩
theorem LTo.us (hg:gOk ops e g=some true:=by exact rfl) (hx:ExU P N w0 op ty e As As':=by exact Zyw):LTo P N w0 ops (⟨none,op,ty,pos,af,g⟩::r) e As r e As':=⟨fun _ h=>TL.u hg hx h⟩
theorem LTo.ds (hg:gOk ops e g=some true:=by exact rfl) (hN:Nat.blt d N.N=true:=by exact rfl) (hx:ExR P N w0 op ty e As (fun u B=>u=v∧B=AV u):=by exact Zpn):LTo P N w0 ops (⟨some d,op,ty,pos,af,g⟩::r) e As r ((d,v)::e) (AV v):=⟨fun _ h=>Zrq hg hN hx (by rintro _ _ ⟨rfl,rfl⟩;exact h)⟩
theorem LTo.os (hg:gOk ops e g=some false:=by exact rfl) (hN:Nat.blt d N.N=true:=by exact rfl):LTo P N w0 ops (⟨some d,op,ty,pos,af,g⟩::r) e As r ((d,undef)::e) As:=⟨fun _ h=>Z41 hg hN h⟩
theorem Zru (hg:gOk ops e g=some false:=by exact rfl):LTo P N w0 ops (⟨none,op,ty,pos,af,g⟩::r) e As r e As:=⟨fun _ h=>Zys hg h⟩
theorem Zrx (hg:gOk ops e g=some true:=by exact rfl) (hN:Nat.blt d N.N=true:=by exact rfl) (hx:ExR P N w0 op ty e As (RB ff AA):=by exact Zyy):LNew P N w0 ops (⟨some d,op,ty,pos,af,g⟩::r) e As r (fun b=>(d,ff b)::e) (fun b=>AA b):=⟨fun _ h=>TL.rb hg hN hx h⟩
theorem LNew.vs (hg:gOk ops e g=some true:=by exact rfl) (hN:Nat.blt d N.N=true:=by exact rfl) (hx:ExR P N w0 op ty e As (fun u B=>B=AV u):=by exact Zpn):LNew P N w0 ops (⟨some d,op,ty,pos,af,g⟩::r) e As r (fun v=>(d,v)::e) (fun v=>AV v):=⟨fun _ h=>Zrq hg hN hx (by rintro v _ rfl;exact h v)⟩
theorem Z4y [PanicOk Q] (ho:ops[i]?=some ⟨some d,op,ty,pos,af,g⟩:=by exact rfl) (hg:gOk ops e g=some true:=by exact rfl) (hN:Nat.blt d N.N=true:=by exact rfl) (hx:ExF P N w0 op ty e R0 v:=by exact Zjt):TTo P N w0 ops R0 T i t e As Q t ((d,v)::e):=⟨fun h=>TT.take ho hg hN hx h⟩
theorem Z4x [MemT T i R] [PanicOk Q] (ho:ops[i]?=some ⟨some d,op,ty,pos,af,g⟩:=by exact rfl) (hg:gOk ops e g=some true:=by exact rfl) (hN:Nat.blt d N.N=true:=by exact rfl) (hA:Ents As R:=by exact Zaa) (hx:ExF P N w0 op ty e R v:=by exact Zjt):TTo P N w0 ops R0 T i t e As Q t ((d,v)::e):=⟨fun h=>Zyr ho hg hN hA hx h⟩
theorem TTo.os [PanicOk Q] (ho:ops[i]?=some ⟨some d,op,ty,pos,af,g⟩:=by exact rfl) (hg:gOk ops e g=some false:=by exact rfl) (hN:Nat.blt d N.N=true:=by exact rfl):TTo P N w0 ops R0 T i t e As Q t ((d,undef)::e):=⟨fun h=>Zpm ho hg hN h⟩
theorem OTo.us (ho:ops[i]?=some ⟨none,op,ty,pos,af,g⟩:=by exact rfl) (hg:gOk ops e g=some true:=by exact rfl) (hx:ExU P N w0 op ty e As As':=by exact Zyw):OTo P N w0 ops i e As e As':=⟨fun _ _ _ _ h=>T1.u ho hg hx h⟩
theorem OTo.ds (ho:ops[i]?=some ⟨some d,op,ty,pos,af,g⟩:=by exact rfl) (hg:gOk ops e g=some true:=by exact rfl) (hN:Nat.blt d N.N=true:=by exact rfl) (hx:ExR P N w0 op ty e As (fun u B=>u=v∧B=AV u):=by exact Zpn):OTo P N w0 ops i e As ((d,v)::e) (AV v):=⟨fun _ _ _ _ h=>Z0k ho hg hN hx (by rintro _ _ ⟨rfl,rfl⟩;exact h)⟩
theorem Z5j (ho:ops[i]?=some ⟨some d,op,ty,pos,af,g⟩:=by exact rfl) (hg:gOk ops e g=some true:=by exact rfl) (hN:Nat.blt d N.N=true:=by exact rfl) (hx:ExF P N w0 op ty e As v:=by exact Zjt):OTo P N w0 ops i e As ((d,v)::e) As:=⟨fun _ _ _ _ h=>T1.f ho hg hN hx h⟩
theorem OTo.os (ho:ops[i]?=some ⟨some d,op,ty,pos,af,g⟩:=by exact rfl) (hg:gOk ops e g=some false:=by exact rfl) (hN:Nat.blt d N.N=true:=by exact rfl):OTo P N w0 ops i e As ((d,undef)::e) As:=⟨fun _ _ _ _ h=>T1.off ho hg hN h⟩
theorem Zwg (ho:ops[i]?=some ⟨none,op,ty,pos,af,g⟩:=by exact rfl) (hg:gOk ops e g=some false:=by exact rfl):OTo P N w0 ops i e As e As:=⟨fun _ _ _ _ h=>Z44 ho hg h⟩
theorem Zwh (ho:ops[i]?=some ⟨some d,op,ty,pos,af,g⟩:=by exact rfl) (hg:gOk ops e g=some true:=by exact rfl) (hN:Nat.blt d N.N=true:=by exact rfl) (hx:ExR P N w0 op ty e As (RB ff AA):=by exact Zyy):ONew P N w0 ops i e As (fun b=>(d,ff b)::e) (fun b=>AA b):=⟨fun _ _ _ _ h=>T1.rb ho hg hN hx h⟩
theorem ONew.vs (ho:ops[i]?=some ⟨some d,op,ty,pos,af,g⟩:=by exact rfl) (hg:gOk ops e g=some true:=by exact rfl) (hN:Nat.blt d N.N=true:=by exact rfl) (hx:ExR P N w0 op ty e As (fun u B=>B=AV u):=by exact Zpn):ONew P N w0 ops i e As (fun v=>(d,v)::e) (fun v=>AV v):=⟨fun _ _ _ _ h=>Z0k ho hg hN hx (by rintro v _ rfl;exact h v)⟩
theorem Zrv (hd:gslot ops o.guard=some d:=by exact rfl) (he:e.get d=some (.bool (decide p)):=by exact rfl) (h:p:=by (first|assumption|omega|decide)):LTo P N w0 ops (o::r) e As (o::r) ((d,.bool true)::e) As:=⟨fun _ k=>Yey hd he h k⟩
theorem Zwa (ho:ops[i]?=some o:=by exact rfl) (hd:gslot ops o.guard=some d:=by exact rfl) (he:e.get d=some (.bool (decide p)):=by exact rfl) (h:p:=by (first|assumption|omega|decide)):TTo P N w0 ops R0 T i t e As Q (.take i t) ((d,.bool true)::e):=⟨fun k=>Yeu ho hd he h k⟩
theorem Zrw (hd:gslot ops o.guard=some d:=by exact rfl) (he:e.get d=some (.bool (decide p)):=by exact rfl) (h:¬ p:=by (first|assumption|omega|decide)):LTo P N w0 ops (o::r) e As (o::r) ((d,.bool false)::e) As:=⟨fun _ k=>Ye0 hd he h k⟩
theorem Zwb (ho:ops[i]?=some o:=by exact rfl) (hd:gslot ops o.guard=some d:=by exact rfl) (he:e.get d=some (.bool (decide p)):=by exact rfl) (h:¬ p:=by (first|assumption|omega|decide)):TTo P N w0 ops R0 T i t e As Q (.take i t) ((d,.bool false)::e):=⟨fun k=>Yew ho hd he h k⟩
theorem Zls (hd:gslot ops o.guard=some d:=by exact rfl) (he:e.get d=some (.bool !(decide p)):=by exact rfl) (h:¬ p:=by (first|assumption|omega|decide)):LTo P N w0 ops (o::r) e As (o::r) ((d,.bool true)::e) As:=⟨fun _ k=>Z9l hd he h k⟩
theorem Zro (ho:ops[i]?=some o:=by exact rfl) (hd:gslot ops o.guard=some d:=by exact rfl) (he:e.get d=some (.bool !(decide p)):=by exact rfl) (h:¬ p:=by (first|assumption|omega|decide)):TTo P N w0 ops R0 T i t e As Q (.take i t) ((d,.bool true)::e):=⟨fun k=>Z9j ho hd he h k⟩
theorem Zlt (hd:gslot ops o.guard=some d:=by exact rfl) (he:e.get d=some (.bool !(decide p)):=by exact rfl) (h:p:=by (first|assumption|omega|decide)):LTo P N w0 ops (o::r) e As (o::r) ((d,.bool false)::e) As:=⟨fun _ k=>Z9m hd he h k⟩
theorem Zrp (ho:ops[i]?=some o:=by exact rfl) (hd:gslot ops o.guard=some d:=by exact rfl) (he:e.get d=some (.bool !(decide p)):=by exact rfl) (h:p:=by (first|assumption|omega|decide)):TTo P N w0 ops R0 T i t e As Q (.take i t) ((d,.bool false)::e):=⟨fun k=>Z9k ho hd he h k⟩
theorem Zy4 (hx:ev e x=some (.bool true):=by exact rfl):CTo e x c1 c2 c1:=⟨fun _ _ _ _ _ k=>Z9h hx k⟩
theorem Zy5 (hx:ev e x=some (.bool false):=by exact rfl):CTo e x c1 c2 c2:=⟨fun _ _ _ _ _ k=>Z9i hx k⟩
theorem Zh0 (hx:ev e x=some (.bool (decide p)):=by exact rfl) (h:p:=by (first|assumption|omega|decide)):CTo e x c1 c2 c1:=⟨fun _ _ _ _ _ k=>Zjq hx h k⟩
theorem Zh1 (hx:ev e x=some (.bool (decide p)):=by exact rfl) (h:¬ p:=by (first|assumption|omega|decide)):CTo e x c1 c2 c2:=⟨fun _ _ _ _ _ k=>Zjr hx h k⟩
theorem Zgm (hx:ev e x=some (.bool !(decide p)):=by exact rfl) (h:¬ p:=by (first|assumption|omega|decide)):CTo e x c1 c2 c1:=⟨fun _ _ _ _ _ k=>Zpk hx h k⟩
theorem Zgn (hx:ev e x=some (.bool !(decide p)):=by exact rfl) (h:p:=by (first|assumption|omega|decide)):CTo e x c1 c2 c2:=⟨fun _ _ _ _ _ k=>Zpl hx h k⟩
/-- the results that come back -/
structure RTo (P:Program) (N:Ctx) (w0:World) (fn:Func) (ex:Exit) (e:Env) (As:List Ent) (v:Value):Prop where
 h:∀ K:Value→List Ent→Prop,(∃ As',K v As'∧Ents As As')→Post N w0 (FQ P w0 fn K) ex e As
theorem Z5c (hds:N.ds=[]:=by exact rfl) (hf:fn.results=#[]:=by exact rfl):RTo P N w0 fn .ret e As (.tuple #[]):=⟨fun _ hk=>Znp hds hf hk⟩
theorem Z5g (hds:N.ds=[]:=by exact rfl) (hf:fn.results=#[]:=by exact rfl):RTo P N w0 fn .normal e As (.tuple #[]):=⟨fun _ hk=>Zdf (Znp hds hf hk)⟩
theorem Z5b (hds:N.ds=[]:=by exact rfl) (hf:fn.results=#[rv]:=by exact rfl) (hr:RV P N w0 e As rv v:=by exact Zd9):RTo P N w0 fn .ret e As (v):=⟨fun _ hk=>Zno hds hf hr hk⟩
theorem Z5f (hds:N.ds=[]:=by exact rfl) (hf:fn.results=#[rv]:=by exact rfl) (hr:RV P N w0 e As rv v:=by exact Zd9):RTo P N w0 fn .normal e As (v):=⟨fun _ hk=>Zdf (Zno hds hf hr hk)⟩
theorem Z5a (hds:N.ds=[]:=by exact rfl) (hf:fn.results=#[rv,rv']:=by exact rfl) (hr:RV P N w0 e As rv v:=by exact Zd9) (hr':RV P N w0 e As rv' u:=by exact Zd9):RTo P N w0 fn .ret e As (.tuple #[v,u]):=⟨fun _ hk=>Znn hds hf hr hr' hk⟩
theorem Z5e (hds:N.ds=[]:=by exact rfl) (hf:fn.results=#[rv,rv']:=by exact rfl) (hr:RV P N w0 e As rv v:=by exact Zd9) (hr':RV P N w0 e As rv' u:=by exact Zd9):RTo P N w0 fn .normal e As (.tuple #[v,u]):=⟨fun _ hk=>Zdf (Znn hds hf hr hr' hk)⟩
theorem Z49 (hds:N.ds=[]:=by exact rfl) (hf:fn.results=#[rv,rv',rv'']:=by exact rfl) (hr:RV P N w0 e As rv v:=by exact Zd9) (hr':RV P N w0 e As rv' u:=by exact Zd9) (hr'':RV P N w0 e As rv'' u':=by exact Zd9):RTo P N w0 fn .ret e As (.tuple #[v,u,u']):=⟨fun _ hk=>Znm hds hf hr hr' hr'' hk⟩
theorem Z5d (hds:N.ds=[]:=by exact rfl) (hf:fn.results=#[rv,rv',rv'']:=by exact rfl) (hr:RV P N w0 e As rv v:=by exact Zd9) (hr':RV P N w0 e As rv' u:=by exact Zd9) (hr'':RV P N w0 e As rv'' u':=by exact Zd9):RTo P N w0 fn .normal e As (.tuple #[v,u,u']):=⟨fun _ hk=>Zdf (Znm hds hf hr hr' hr'' hk)⟩
theorem Zac {ex:Exit} (hk:∃ As',K v As'∧Ents As As') (hs:RTo P N w0 fn ex e As v:=by first|exact Z5b|exact Z5a|exact Z49|exact Z5c|exact Z5f|exact Z5e|exact Z5d|exact Z5g|fail):Post N w0 (FQ P w0 fn K) ex e As:=hs.h K hk
theorem Yio (k:TL P N w0 ops l' e' As' Q) (hs:LTo P N w0 ops (o::r) e As l' e' As':=by first|exact Zyv|exact LTo.us|exact LTo.ds|exact LTo.os|exact Zru|exact Zrv|exact Zrw|exact Zls|exact Zlt|fail):TL P N w0 ops (o::r) e As Q:=hs.h Q k
theorem Yiq {α:Type} {l':List Oper} {e':α→Env} {As':α→List Ent} (k:∀ b,TL P N w0 ops l' (e' b) (As' b) Q) (hs:LNew P N w0 ops (o::r) e As l' e' As':=by first|exact Zrx|exact LNew.vs|fail):TL P N w0 ops (o::r) e As Q:=hs.h Q k
theorem Yin (k:TT P N w0 ops ⟨R0,T⟩ t' e' As Q) (hs:TTo P N w0 ops R0 T i t e As Q t' e':=by first|exact Z4y|exact Z4x|exact TTo.os|exact Zwa|exact Zwb|exact Zro|exact Zrp|fail):TT P N w0 ops ⟨R0,T⟩ (.take i t) e As Q:=hs.h k
theorem Yir (k:TC P N w0 ops ⟨R0,T⟩ i t e' As' Q) (hs:OTo P N w0 ops i e As e' As':=by first|exact OTo.us|exact OTo.ds|exact Z5j|exact OTo.os|exact Zwg|fail):T1 P N w0 ops ⟨R0,T⟩ i t e As Q:=hs.h R0 T t Q k
theorem Yis {α:Type} {e':α→Env} {As':α→List Ent} (k:∀ b,TC P N w0 ops ⟨R0,T⟩ i t (e' b) (As' b) Q) (hs:ONew P N w0 ops i e As e' As':=by first|exact Zwh|exact ONew.vs|fail):T1 P N w0 ops ⟨R0,T⟩ i t e As Q:=hs.h R0 T t Q k
theorem Yil {c':Code} (k:Tri P N w0 c' e As Q) (h:CTo e x c1 c2 c':=by first|exact Zy4|exact Zy5|exact Zh0|exact Zh1|exact Zgm|exact Zgn|fail):Tri P N w0 (.cond x c1 c2) e As Q:=h.h P N w0 As Q k
theorem Ka (k:TL P N w0 ops (o::r) e As Q):TL P N w0 ops (o::r) e As Q:=k
theorem Kb (k:TL P N w0 ops l' e' As' Q) (hs:LTo P N w0 ops (o::r) e As l' e' As':=by first|exact Zyv|exact LTo.us|exact LTo.ds|exact LTo.os|exact Zru|exact Zrv|exact Zrw|exact Zls|exact Zlt|fail):TL P N w0 ops (o::r) e As Q:=hs.h Q k
theorem Kc {α:Type} {l':List Oper} {e':α→Env} {As':α→List Ent} (k:∀ b,TL P N w0 ops l' (e' b) (As' b) Q) (hs:LNew P N w0 ops (o::r) e As l' e' As':=by first|exact Zrx|exact LNew.vs|fail):TL P N w0 ops (o::r) e As Q:=hs.h Q k
theorem Kd {G G':Prop} [h:Stp G G'] (k:G'):G:=h.h k
theorem Kh {c':Code} (k:Tri P N w0 c' e As Q) (h:CTo e x c1 c2 c':=by first|exact Zy4|exact Zy5|exact Zh0|exact Zh1|exact Zgm|exact Zgn|fail):Tri P N w0 (.cond x c1 c2) e As Q:=h.h P N w0 As Q k
theorem Ki {Rs:RsP} {t:Tree} (k:TT P N w0 ops Rs t e As Q):TT P N w0 ops Rs t e As Q:=k
theorem Kj (k:TT P N w0 ops ⟨R0,T⟩ t' e' As Q) (hs:TTo P N w0 ops R0 T i t e As Q t' e':=by first|exact Z4y|exact Z4x|exact TTo.os|exact Zwa|exact Zwb|exact Zro|exact Zrp|fail):TT P N w0 ops ⟨R0,T⟩ (.take i t) e As Q:=hs.h k
theorem Kk {Rs:RsP}:TTs P N w0 ops Rs [] e As Q:=TTs.nil
theorem Kl {Rs:RsP} {t:Tree} {i:Nat} {l:List (Nat × Tree)} (h:T1 P N w0 ops Rs i t e As Q) (k:TTs P N w0 ops Rs l e As Q):TTs P N w0 ops Rs ((i,t)::l) e As Q:=TTs.cons h k
theorem Km {Rs:RsP} {t:Tree} {i:Nat} (k:T1 P N w0 ops Rs i t e As Q):T1 P N w0 ops Rs i t e As Q:=k
theorem Kn (k:TC P N w0 ops ⟨R0,T⟩ i t e' As' Q) (hs:OTo P N w0 ops i e As e' As':=by first|exact OTo.us|exact OTo.ds|exact Z5j|exact OTo.os|exact Zwg|fail):T1 P N w0 ops ⟨R0,T⟩ i t e As Q:=hs.h R0 T t Q k
theorem Ko {α:Type} {e':α→Env} {As':α→List Ent} (k:∀ b,TC P N w0 ops ⟨R0,T⟩ i t (e' b) (As' b) Q) (hs:ONew P N w0 ops i e As e' As':=by first|exact Zwh|exact ONew.vs|fail):T1 P N w0 ops ⟨R0,T⟩ i t e As Q:=hs.h R0 T t Q k
theorem Kp {Rs:RsP} {t:Tree} {i:Nat} (k:TC P N w0 ops Rs i t e As Q):TC P N w0 ops Rs i t e As Q:=k
theorem Kq [Cov As R0] (k:TT P N w0 ops ⟨R0,T⟩ t e As Q) (hk:Keep ops i As T:=by exact Zwi):TC P N w0 ops ⟨R0,T⟩ i t e As Q:=Yb5 hk k
theorem Kr (k:Post N w0 Q .normal e As) (h:sinkAt .any ops i=true:=by kernel_rfl):TC P N w0 ops ⟨R0,T⟩ i .done e As Q:=Z43 h k
theorem Ks {f:FuncId} {xs:Array Operand} {vs fst cap:List Value} {tys:Array TypeId} {v:Value} {As':List Ent} [Body P f] (h4:(gOk ops e g,Nat.blt d N.N,ev e x,evs e xs.toList)=(some true,true,some (.func (.func f) fst.toArray cap.toArray),some vs))
 (hc:CallsS P w0 f (fst++(vs++cap)) As fun r Bs=>r=v∧Bs=As') (h:TL P N w0 ops r ((d,v)::e) As' Q):TL P N w0 ops (⟨some d,.call ⟨.value x,xs,tys⟩,ty,pos,af,g⟩::r) e As Q:=by
 simp only [Prod.mk.injEq] at h4;exact TL.callv h4.1 h4.2.1 h4.2.2.1 h4.2.2.2 hc (by rintro _ _ ⟨rfl,rfl⟩;exact h)
theorem Kt {f:FuncId} {xs:Array Operand} {vs:List Value} {tys:Array TypeId} {v:Value} {As':List Ent} [Body P f] (h4:(gOk ops e g,Nat.blt d N.N,evs e xs.toList)=(some true,true,some vs))
 (hc:CallsS P w0 f vs As fun r Bs=>r=v∧Bs=As') (h:TL P N w0 ops r ((d,v)::e) As' Q):TL P N w0 ops (⟨some d,.call ⟨.value (.func f),xs,tys⟩,ty,pos,af,g⟩::r) e As Q:=by
 simp only [Prod.mk.injEq] at h4;exact TL.call h4.1 h4.2.1 h4.2.2 hc (by rintro _ _ ⟨rfl,rfl⟩;exact h)
theorem Ku {i:Nat} {t:Tree} {Rs:RsP} {f:FuncId} {xs:Array Operand} {vs fst cap:List Value} {tys:Array TypeId} {v:Value} {As':List Ent} [Body P f] (h4:(ops[i]?,gOk ops e g,Nat.blt d N.N,ev e x,evs e xs.toList)=(some ⟨some d,.call ⟨.value x,xs,tys⟩,ty,pos,af,g⟩,some true,true,some (.func (.func f) fst.toArray cap.toArray),some vs))
 (hc:CallsS P w0 f (fst++(vs++cap)) As fun r Bs=>r=v∧Bs=As') (h:TC P N w0 ops Rs i t ((d,v)::e) As' Q):T1 P N w0 ops Rs i t e As Q:=by
 simp only [Prod.mk.injEq] at h4;exact T1.callv h4.1 h4.2.1 h4.2.2.1 h4.2.2.2.1 h4.2.2.2.2 hc (by rintro _ _ ⟨rfl,rfl⟩;exact h)
theorem Kw {i:Nat} {t:Tree} {Rs:RsP} {f:FuncId} {xs:Array Operand} {vs:List Value} {tys:Array TypeId} {v:Value} {As':List Ent} [Body P f] (h4:(ops[i]?,gOk ops e g,Nat.blt d N.N,evs e xs.toList)=(some ⟨some d,.call ⟨.value (.func f),xs,tys⟩,ty,pos,af,g⟩,some true,true,some vs))
 (hc:CallsS P w0 f vs As fun r Bs=>r=v∧Bs=As') (h:TC P N w0 ops Rs i t ((d,v)::e) As' Q):T1 P N w0 ops Rs i t e As Q:=by
 simp only [Prod.mk.injEq] at h4;exact T1.call h4.1 h4.2.1 h4.2.2.1 h4.2.2.2 hc (by rintro _ _ ⟨rfl,rfl⟩;exact h)
structure Sp (G G':Prop):Prop where
 h:G'→G
section
variable {Rs:RsP} {c':Code}
theorem Ye2 (h:LTo P N w0 ops (o::r) e As l' e' As'):Sp (TL P N w0 ops (o::r) e As Q) (TL P N w0 ops l' e' As' Q):=⟨h.h Q⟩
theorem Sp.xs {G G':Prop} [h:Stp G G']:Sp G G':=⟨h.h⟩
theorem Yhu (h:TTo P N w0 ops R0 T i t e As Q t' e'):Sp (TT P N w0 ops ⟨R0,T⟩ (.take i t) e As Q) (TT P N w0 ops ⟨R0,T⟩ t' e' As Q):=⟨h.h⟩
theorem Yhv (h:OTo P N w0 ops i e As e' As'):Sp (T1 P N w0 ops ⟨R0,T⟩ i t e As Q) (TC P N w0 ops ⟨R0,T⟩ i t e' As' Q):=⟨h.h R0 T t Q⟩
theorem Yhy [Cov As R0] (h:Keep ops i As T):Sp (TC P N w0 ops ⟨R0,T⟩ i t e As Q) (TT P N w0 ops ⟨R0,T⟩ t e As Q):=⟨Yb5 h⟩
theorem Yhz (h:sinkAt .any ops i=true):Sp (TC P N w0 ops ⟨R0,T⟩ i .done e As Q) (Post N w0 Q .normal e As):=⟨Z43 h⟩
theorem Ye3 (h:CTo e x c1 c2 c'):Sp (Tri P N w0 (.cond x c1 c2) e As Q) (Tri P N w0 c' e As Q):=⟨h.h P N w0 As Q⟩
theorem Ye1 {α:Type} {l':List Oper} {e':α→Env} {As':α→List Ent} (h:LNew P N w0 ops (o::r) e As l' e' As'):Sp (TL P N w0 ops (o::r) e As Q) (∀ b,TL P N w0 ops l' (e' b) (As' b) Q):=⟨h.h Q⟩
theorem Yhw {α:Type} {e':α→Env} {As':α→List Ent} (h:ONew P N w0 ops i e As e' As'):Sp (T1 P N w0 ops ⟨R0,T⟩ i t e As Q) (∀ b,TC P N w0 ops ⟨R0,T⟩ i t (e' b) (As' b) Q):=⟨h.h R0 T t Q⟩
theorem Yhx:Sp (TTs P N w0 ops Rs [] e As Q) True:=⟨fun _=>TTs.nil⟩
theorem Yht {l:List (Nat × Tree)}:Sp (TTs P N w0 ops Rs ((i,t)::l) e As Q) (T1 P N w0 ops Rs i t e As Q∧TTs P N w0 ops Rs l e As Q):=⟨fun h=>TTs.cons h.1 h.2⟩
end
theorem Kz {G G':Prop} (k:G') (h:Sp G G':=by first|(show Sp (TL _ _ _ _ (_::_) _ _ _) _;first|exact Ye2 (by first|exact Zyv|exact LTo.us|exact LTo.ds|exact LTo.os|exact Zru|exact Zrv|exact Zrw|exact Zls|exact Zlt|fail)|exact Ye1 (by first|exact Zrx|exact LNew.vs|fail))|exact Sp.xs|(show Sp (Tri _ _ _ (.cond _ _ _) _ _ _) _;exact Ye3 (by first|exact Zy4|exact Zy5|exact Zh0|exact Zh1|exact Zgm|exact Zgn|fail))|fail):G:=h.h k
theorem Kf {G G':Prop} (k:G') (h:Sp G G':=by first|(show Sp (TL _ _ _ _ (_::_) _ _ _) _;first|exact Ye2 (by first|exact Zyv|exact LTo.us|exact LTo.ds|exact LTo.os|exact Zru|exact Zrv|exact Zrw|exact Zls|exact Zlt|fail)|exact Ye1 (by first|exact Zrx|exact LNew.vs|fail))|exact Sp.xs|(show Sp (TT _ _ _ _ _ _ _ _ _) _;exact Yhu (by first|exact Z4y|exact Z4x|exact TTo.os|exact Zwa|exact Zwb|exact Zro|exact Zrp|fail))|(show Sp (T1 _ _ _ _ _ _ _ _ _ _) _;first|exact Yhv (by first|exact OTo.us|exact OTo.ds|exact Z5j|exact OTo.os|exact Zwg|fail)|exact Yhw (by first|exact Zwh|exact ONew.vs|fail))|(show Sp (TC _ _ _ _ _ _ _ _ _ _) _;first|exact Yhy Zwi|exact Yhz (by kernel_rfl)|fail)|(show Sp (Tri _ _ _ (.cond _ _ _) _ _ _) _;exact Ye3 (by first|exact Zy4|exact Zy5|exact Zh0|exact Zh1|exact Zgm|exact Zgn|fail))|exact Yhx|exact Yht|fail):G:=h.h k
theorem Kv {ex:Exit} {v u:Value} {A0:List Ent} (he:Ents As A0:=by exact Zaa) (hs:RTo P N w0 fn ex e As u:=by first|exact Z5b|exact Z5a|exact Z49|exact Z5c|exact Z5f|exact Z5e|exact Z5d|exact Z5g|fail) (hv:u=v:=by rfl):Post N w0 (FQ P w0 fn fun r Bs=>r=v∧Bs=A0) ex e As:=hs.h _ ⟨_,⟨hv,rfl⟩,he⟩
abbrev CQ (P:Program) (w0:World) (f:FuncId) (args:List Value) (As:List Ent) (v:Value):Prop:=CallsS P w0 f args As fun r Bs=>r=v∧Bs=As
structure BSp (b:Bool) (p q:Prop):Prop where
 h:∀ (P:Program) (N:Ctx) (w0:World) (As:List Ent) (Q:Exit→Act→World→Prop) (e:Env) (x:Operand) (c1 c2:Code),ev e x=some (.bool b)→(p→Tri P N w0 c1 e As Q)→(q→Tri P N w0 c2 e As Q)→Tri P N w0 (.cond x c1 c2) e As Q
theorem Yfc {r:Prop} [Decidable r]:BSp (decide r) r (¬ r):=⟨fun _ _ _ _ _ _ _ _ _ hx a b=>Zt5 hx a b⟩
theorem Yfd {r:Prop} [Decidable r]:BSp (!(decide r)) (¬ r) r:=⟨fun _ _ _ _ _ _ _ _ _ hx a b=>Z4w hx a b⟩
theorem Kx {b:Bool} {p q:Prop} (k1:p→Tri P N w0 c1 e As Q) (k2:q→Tri P N w0 c2 e As Q) (hx:ev e x=some (.bool b):=by exact rfl) (h:BSp b p q:=by first|exact Yfc|exact Yfd):Tri P N w0 (.cond x c1 c2) e As Q:=h.h P N w0 As Q e x c1 c2 hx k1 k2
end
end Go.Sx
