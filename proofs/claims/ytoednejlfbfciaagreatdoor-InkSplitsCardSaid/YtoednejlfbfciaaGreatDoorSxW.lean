/- The engine: slices of an array that lies in a block of ours: a[:], a[:k] read the block's integers; arrays of four integers compared. -/
import Derived.Test.YtoednejlfbfciaaGreatDoorSxP
set_option maxHeartbeats 1000000
namespace Go.Sx
open Go
class PreM (k m:Nat) (l:List Value) (xs:outParam (List Int)):Prop where
 h:(∃ rest,l=xs.map (fun x=>Value.int .i64 x)++rest)∧xs.length=k∧k≤m
instance PreM.z {m:Nat} {l:List Value}:PreM 0 m l []:=⟨⟨l,rfl⟩,rfl,Nat.zero_le _⟩
instance PreM.s {k m:Nat} {l:List Value} {x:Int} {xs:List Int} [h:PreM k m l xs]:PreM (k+1) (m+1) (.int .i64 x::l) (x::xs):=by
 obtain ⟨⟨rest,h1⟩,h2,h3⟩:=h.h
 exact ⟨⟨rest,by rw [h1];rfl⟩,by rw [List.length_cons,h2],by omega⟩
instance RdIn.arr {b:Nat} {l:List Value} {T:TypeId} {k m:Nat} {xs:List Int} {r:List Ent} [h:PreM k m l xs]:RdIn (.cl b l T::r) (.slice (some ⟨b,0,none⟩) k m) Int (cI .i64) xs:=⟨fun w0 w ⟨H,bs,g⟩=>by
 obtain ⟨⟨rest,hl⟩,hk,hm⟩:=h.h
 obtain ⟨bs',rfl,hw,hr⟩:=g.sat
 have hf:(cI .i64).flat xs=xs.map fun x=>Value.int .i64 x:=by
  clear hl hk h
  unfold Cod.flat
  induction xs with
  | nil=>rfl
  | cons x xs ih=>rw [List.flatMap_cons,ih];rfl
 refine .inr ⟨b,0,m,[],rest,T,(0,0),by rw [hk],rfl,by omega,?_⟩
 show w.heap[b]?=_
 rw [hw,hl,hf];rfl⟩
/-! arrays of four integers compared -/
class NGd (P:Program) (t:TypeId):Prop where
 h:P.eqGuardType P.depth t=false
section
variable {P:Program} {N:Ctx} {w0:World} {e:Env} {As:List Ent} {ty:TypeId} {x y:Operand} {w:World}
def ints4 (a b c d:Int):Array Value:=#[.int .i64 a,.int .i64 b,.int .i64 c,.int .i64 d]
theorem Zsm {t:TypeId} {k:IntKind} [UL P t (.int k)] (d:Nat) (a b:Int):(Op.equalIn (d+1) t (.int k a) (.int k b)).run P w=.ok (a == b) w:=by
 simp [Op.equalIn,Zan]
theorem Zdz {t:TypeId} {k:IntKind} [UL P t (.int k)] (cs:Array Value) (i:Nat) {v:Value} (h:cs[i]?=some v):(part t cs i).run P w=.ok v w:=by
 simp [part,Zdg,aggB,h]
theorem Zso {t el:TypeId} {z:Value} {b:Nat} [UL P t (.array 4 el)] [UL P el (.int .i64)] [TI P el z 1 b] (d:Nat) (a1 a2 a3 a4 b1 b2 b3 b4:Int):(Op.equalIn (d+1+1) t (.agg (ints4 a1 a2 a3 a4)) (.agg (ints4 b1 b2 b3 b4))).run P w=.ok (decide (a1=b1∧a2=b2∧a3=b3∧a4=b4)) w:=by
 have p0:=fun a b c d=>Zdz (P:=P) (t:=el) (k:=.i64) (w:=w) (ints4 a b c d) 0 (v:=.int .i64 a) rfl
 have p1:=fun a b c d=>Zdz (P:=P) (t:=el) (k:=.i64) (w:=w) (ints4 a b c d) 1 (v:=.int .i64 b) rfl
 have p2:=fun a b c d=>Zdz (P:=P) (t:=el) (k:=.i64) (w:=w) (ints4 a b c d) 2 (v:=.int .i64 c) rfl
 have p3:=fun a b c d=>Zdz (P:=P) (t:=el) (k:=.i64) (w:=w) (ints4 a b c d) 3 (v:=.int .i64 d) rfl
 unfold Op.equalIn
 simp only [Sem.run_bind,Zan,Result.andThen_ok]
 simp only [Za4,Result.andThen_ok]
 simp [Std.Legacy.Range.forIn_eq_forIn_range',List.range'_succ,p0,p1,p2,p3,Zsm]
 by_cases h0:a1=b1<;>by_cases h1:a2=b2<;>by_cases h2:a3=b3<;>by_cases h3:a4=b4<;>simp [h0,h1,h2,h3]
theorem Zpf {t el:TypeId} {z:Value} {b:Nat} [UL P t (.array 4 el)] [UL P el (.int .i64)] [TI P el z 1 b] (a1 a2 a3 a4 b1 b2 b3 b4:Int):(Op.equal t (.agg (ints4 a1 a2 a3 a4)) (.agg (ints4 b1 b2 b3 b4))).run P w=.ok (decide (a1=b1∧a2=b2∧a3=b3∧a4=b4)) w:=Zso 9998 a1 a2 a3 a4 b1 b2 b3 b4
theorem Zhz {t:TypeId} [h:NGd P t] (op:BinOp) (x y:Operand) (p q:Array Value):(eqGuard op t x y (.agg p) (.agg q)).run P w=.ok () w:=by
 unfold eqGuard
 cases op<;>simp [h.h]
theorem Zge {t el t':TypeId} {z:Value} {b:Nat} {a1 a2 a3 a4 b1 b2 b3 b4:Int} [UL P t (.array 4 el)] [UL P el (.int .i64)] [TI P el z 1 b] [NGd P t] (hx:ev e x=some (.agg #[.int .i64 a1,.int .i64 a2,.int .i64 a3,.int .i64 a4])) (hy:ev e y=some (.agg #[.int .i64 b1,.int .i64 b2,.int .i64 b3,.int .i64 b4])) :
  ExF P N w0 (.binOp .eql t x y t') ty e As (.bool (decide (a1=b1∧a2=b2∧a3=b3∧a4=b4))):=by
 unfold ExF
 intro ac w ha hs dd pos af g
 have h1:∀ u v:Array Value,binOp .eql t (.agg u) (.agg v)=(do pure (.bool (← Op.equal t (.agg u) (.agg v)))):=fun _ _=>rfl
 have h2:=Zpf (P:=P) (t:=t) (el:=el) (z:=z) (b:=b) (w:=w) a1 a2 a3 a4 b1 b2 b3 b4
 unfold ints4 at h2
 simp only [execOp,ha.eval hx,ha.eval hy,Sem.run_bind,Zhz,Result.andThen_ok,h1,h2]
 rfl
theorem Zc5 {t el t':TypeId} {z:Value} {b:Nat} {a1 a2 a3 a4 b1 b2 b3 b4:Int} [UL P t (.array 4 el)] [UL P el (.int .i64)] [TI P el z 1 b] [NGd P t] (hx:ev e x=some (.agg #[.int .i64 a1,.int .i64 a2,.int .i64 a3,.int .i64 a4])) (hy:ev e y=some (.agg #[.int .i64 b1,.int .i64 b2,.int .i64 b3,.int .i64 b4])) :
  ExF P N w0 (.binOp .neq t x y t') ty e As (.bool !(decide (a1=b1∧a2=b2∧a3=b3∧a4=b4))):=by
 unfold ExF
 intro ac w ha hs dd pos af g
 have h1:∀ u v:Array Value,binOp .neq t (.agg u) (.agg v)=(do pure (.bool (!(← Op.equal t (.agg u) (.agg v))))):=fun _ _=>rfl
 have h2:=Zpf (P:=P) (t:=t) (el:=el) (z:=z) (b:=b) (w:=w) a1 a2 a3 a4 b1 b2 b3 b4
 unfold ints4 at h2
 simp only [execOp,ha.eval hx,ha.eval hy,Sem.run_bind,Zhz,Result.andThen_ok,h1,h2]
 rfl
end
end Go.Sx
