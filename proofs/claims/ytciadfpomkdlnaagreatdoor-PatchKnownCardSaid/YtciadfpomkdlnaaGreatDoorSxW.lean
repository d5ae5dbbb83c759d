/- The engine: slices of an array that lies in a block of ours: a[:], a[:k] read the block's integers; arrays of four integers compared. -/
import Derived.Test.YtciadfpomkdlnaaGreatDoorSxP
set_option maxHeartbeats 1000000
namespace Go.Sx
open Go
class PreM (k m:Nat) (l:List Value) (xs:outParam (List Int)):Prop where
 h:(∃ rest,l=xs.map (fun x=>Value.int .i64 x)++rest)∧xs.length=k∧k≤m
instance PreM.z {m:Nat} {l:List Value}:PreM 0 m l []:=⟨⟨l,rfl⟩,rfl,Nat.zero_le _⟩
instance PreM.s {k m:Nat} {l:List Value} {x:Int} {xs:List Int} [h:PreM k m l xs]:PreM (k+1) (m+1) (.int .i64 x::l) (x::xs):=by
 obtain ⟨⟨rest,h1⟩,h2,h3⟩:=h.h
 exact ⟨⟨rest,by rw [h1];rfl⟩,by rw [List.length_cons,h2],by omega⟩
instance RdIn.arr {b:Nat} {l:List Value} {T:TypeId} {k m:Nat} {xs:List Int} {r:List Ent} [h:PreM k m l xs]:RdIn (.cl b l T::r) (.slice (some ⟨b,0,none⟩) k m) Int (cI .i64) xs:=⟨fun w0 w ⟨H,bs,g⟩=>by
 obtain ⟨⟨rest,hl⟩,hk,hm⟩:=h.h
 obtain ⟨bs',rfl,hw,hr⟩:=g.sat
 have hf:(cI .i64).flat xs=xs.map fun x=>Value.int .i64 x:=by
  clear hl hk h
  unfold Cod.flat
  induction xs with
  | nil=>rfl
  | cons x xs ih=>rw [List.flatMap_cons,ih];rfl
 refine .inr ⟨b,0,m,[],rest,T,(0,0),by rw [hk],rfl,by omega,?_⟩
 show w.heap[b]?=_
 rw [hw,hl,hf];rfl⟩
/-! arrays of four integers compared -/
class NGd (P:Program) (t:TypeId):Prop where
 h:P.eqGuardType P.depth t=false
section
variable {P:Program} {N:Ctx} {w0:World} {e:Env} {As:List Ent} {ty:TypeId} {x y:Operand} {w:World}
def ints4 (a b c d:Int):Array Value:=#[.int .i64 a,.int .i64 b,.int .i64 c,.int .i64 d]
theorem Zvd {t:TypeId} {k:IntKind} [UL P t (.int k)] (d:Nat) (a b:Int):(Op.equalIn (d+1) t (.int k a) (.int k b)).run P w=.ok (a == b) w:=by
 simp [Op.equalIn,Zam]
theorem Zdt {t:TypeId} {k:IntKind} [UL P t (.int k)] (cs:Array Value) (i:Nat) {v:Value} (h:cs[i]?=some v):(part t cs i).run P w=.ok v w:=by
 simp [part,Zdb,aggB,h]
theorem Zvf {t el:TypeId} {z:Value} {b:Nat} [UL P t (.array 4 el)] [UL P el (.int .i64)] [TI P el z 1 b] (d:Nat) (a1 a2 a3 a4 b1 b2 b3 b4:Int):(Op.equalIn (d+1+1) t (.agg (ints4 a1 a2 a3 a4)) (.agg (ints4 b1 b2 b3 b4))).run P w=.ok (decide (a1=b1∧a2=b2∧a3=b3∧a4=b4)) w:=by
 have p0:=fun a b c d=>Zdt (P:=P) (t:=el) (k:=.i64) (w:=w) (ints4 a b c d) 0 (v:=.int .i64 a) rfl
 have p1:=fun a b c d=>Zdt (P:=P) (t:=el) (k:=.i64) (w:=w) (ints4 a b c d) 1 (v:=.int .i64 b) rfl
 have p2:=fun a b c d=>Zdt (P:=P) (t:=el) (k:=.i64) (w:=w) (ints4 a b c d) 2 (v:=.int .i64 c) rfl
 have p3:=fun a b c d=>Zdt (P:=P) (t:=el) (k:=.i64) (w:=w) (ints4 a b c d) 3 (v:=.int .i64 d) rfl
 unfold Op.equalIn
 simp only [Sem.run_bind,Zam,Result.andThen_ok]
 simp only [Za8,Result.andThen_ok]
 simp [Std.Legacy.Range.forIn_eq_forIn_range',List.range'_succ,p0,p1,p2,p3,Zvd]
 by_cases h0:a1=b1<;>by_cases h1:a2=b2<;>by_cases h2:a3=b3<;>by_cases h3:a4=b4<;>simp [h0,h1,h2,h3]
theorem Zmk {t el:TypeId} {z:Value} {b:Nat} [UL P t (.array 4 el)] [UL P el (.int .i64)] [TI P el z 1 b] (a1 a2 a3 a4 b1 b2 b3 b4:Int):(Op.equal t (.agg (ints4 a1 a2 a3 a4)) (.agg (ints4 b1 b2 b3 b4))).run P w=.ok (decide (a1=b1∧a2=b2∧a3=b3∧a4=b4)) w:=Zvf 9998 a1 a2 a3 a4 b1 b2 b3 b4
end
end Go.Sx
