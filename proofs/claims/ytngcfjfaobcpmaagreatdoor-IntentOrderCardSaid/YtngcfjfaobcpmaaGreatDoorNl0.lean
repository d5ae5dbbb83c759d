/- Walks: drafted gamuts; the three meshes of the laws on intents. -/
import Derived.Test.YtngcfjfaobcpmaaGreatDoorMr1
import Derived.Test.YtngcfjfaobcpmaaGreatDoorJr3
set_option maxHeartbeats 1000000
namespace Go.Sx
open Go
theorem Zmw {P:Program} {N:Ctx} {w0:World} {e:Env} {As:List Ent} {ty t t':TypeId} {x y:Operand} {m n:Int} (hx:ev e x=some (.int .i64 (-m))) (hy:ev e y=some (.int .i64 n)) (h1:0≤m) (h0:0 < n) (h:m≤9223372036854775807):ExF P N w0 (.binOp .quo t x y t') ty e As (.int .i64 (-(m / n))):=by
 have:=ExF.quo (P:=P) (N:=N) (w0:=w0) (As:=As) (ty:=ty) (t:=t) (t':=t') hx hy (by omega)
 rw [Int.neg_tdiv,Int.tdiv_eq_ediv_of_nonneg h1,Zbx] at this
 ·exact this
 ·have a1:0≤m / n:=Int.ediv_nonneg h1 (by omega)
  have a2:m / n≤m:=Int.ediv_le_self _ h1
  exact ⟨by omega,by omega⟩
end Go.Sx
namespace Go.Proofs.YtngcfjfaobcpmaaGreatDoor
open Go Go.Sx
variable {w0:World} {As:List Ent} {pv fv:Value} {pts fcs:List V3}
def GoodV (As:List Ent) (v:Value) (Bs:List Ent):Prop:=∃ P F,Sx.Good P F∧MeshV As (P,F) v Bs
set_option maxRecDepth 100000 in
set_option maxHeartbeats 4000000 in
theorem Zmm (d:DraftA) (hd:d.ok) {l:Int} (hl:0≤l∧l≤65535) [RdIn As d.ov Int (cI .i8) d.off] :
  CallsS Tryz.prog w0 20 [.agg #[.int .u8 d.kd,.int .u8 d.sz,.int .i16 d.a0,.int .i16 d.a1,.int .i16 d.a2,d.ov,.bool d.tn,.int .u16 l]] As (GoodV As):=by
 obtain ⟨⟨k0,k1⟩,⟨s0,s1⟩,h3,h4,h5,h6,h7⟩:=hd
 have hm:=fun (Bs:List Ent) [RdIn Bs d.ov Int (cI .i8) d.off] (x y z:Int) (hx:-32768≤x∧x≤32767) (hy:-32768≤y∧y≤32767) (hz:-32768≤z∧z≤32767)=>Zt5 (w0:=w0) (As:=Bs) ⟨d.kd,d.sz,x,y,z,d.ov,d.off,d.tn⟩ ⟨⟨k0,k1⟩,⟨s0,s1⟩,hx,hy,hz,h6,h7⟩
 have hgd:=fun (x y z:Int) (hx:-32768≤x∧x≤32767) (hy:-32768≤y∧y≤32767) (hz:-32768≤z∧z≤32767)=>Yga.1 (DraftA.good ⟨d.kd,d.sz,x,y,z,d.ov,d.off,d.tn⟩ ⟨⟨k0,k1⟩,⟨s0,s1⟩,hx,hy,hz,h6,h7⟩)
 refine Zak d.ov (xs:=d.off) (c:=cI .i8) fun hov=>?_
 refine Zab Tryz.func20 rfl Tryz.ntmps20 rfl ?_
 generalize d.kd=kd at *
 generalize d.sz=sz at *
 have kc:kd % 4=0∨kd % 4=1∨kd % 4=2∨kd % 4=3:=by omega
 rcases kc with k4|k4|k4|k4
 ·repeat' first|refine Kz ?_|intro _
  refine TL.f rfl rfl (Zmw (m:=1000+100 * sz) rfl rfl (by omega) (by decide) (by omega)) ?_
  repeat' first|refine Kz ?_|intro _
  refine TL.f rfl rfl (Zmw (m:=1000+100 * sz) rfl rfl (by omega) (by decide) (by omega)) ?_
  repeat' first|refine Kz ?_|intro _
  refine TL.callv rfl rfl rfl rfl (hm _ (500+l % 500) (-((1000+100 * sz) / 2)) (-((1000+100 * sz) / 2)) (by omega) (by omega) (by omega)) ?_
  rintro _ _ ⟨pv,fv,rfl,o1,o2,rfl⟩
  repeat' first|refine Kz ?_|intro _
  (refine Zac ?_)
  exact ⟨_,⟨_,_,hgd (500+l % 500) (-((1000+100 * sz) / 2)) (-((1000+100 * sz) / 2)) (by omega) (by omega) (by omega),pv,fv,rfl,o1,o2,rfl⟩,Zaa⟩
 ·repeat' first|refine Kz ?_|intro _
  refine TL.callv rfl rfl rfl rfl (hm _ (1000+100 * sz+(500+l % 500)) (0) (0) (by omega) (by omega) (by omega)) ?_
  rintro _ _ ⟨pv,fv,rfl,o1,o2,rfl⟩
  repeat' first|refine Kz ?_|intro _
  (refine Zac ?_)
  exact ⟨_,⟨_,_,hgd (1000+100 * sz+(500+l % 500)) (0) (0) (by omega) (by omega) (by omega),pv,fv,rfl,o1,o2,rfl⟩,Zaa⟩
 ·repeat' first|refine Kz ?_|intro _
  refine TL.f rfl rfl (Zmw (m:=1000+100 * sz) rfl rfl (by omega) (by decide) (by omega)) ?_
  repeat' first|refine Kz ?_|intro _
  refine TL.f rfl rfl (Zmw (m:=1000+100 * sz) rfl rfl (by omega) (by decide) (by omega)) ?_
  repeat' first|refine Kz ?_|intro _
  refine TL.callv rfl rfl rfl rfl (hm _ (500+l % 500) (-((1000+100 * sz) / 2)) (-((1000+100 * sz) / 2)) (by omega) (by omega) (by omega)) ?_
  rintro _ _ ⟨pv,fv,rfl,o1,o2,rfl⟩
  repeat' first|refine Kz ?_|intro _
  (refine Zac ?_)
  exact ⟨_,⟨_,_,hgd (500+l % 500) (-((1000+100 * sz) / 2)) (-((1000+100 * sz) / 2)) (by omega) (by omega) (by omega),pv,fv,rfl,o1,o2,rfl⟩,Zaa⟩
 ·repeat' first|refine Kz ?_|intro _
  refine TL.callv rfl rfl rfl rfl (hm _ (500+l % 500) (-(1000+100 * sz)) (-(1000+100 * sz)) (by omega) (by omega) (by omega)) ?_
  rintro _ _ ⟨pv,fv,rfl,o1,o2,rfl⟩
  repeat' first|refine Kz ?_|intro _
  (refine Zac ?_)
  exact ⟨_,⟨_,_,hgd (500+l % 500) (-(1000+100 * sz)) (-(1000+100 * sz)) (by omega) (by omega) (by omega),pv,fv,rfl,o1,o2,rfl⟩,Zaa⟩
end Go.Proofs.YtngcfjfaobcpmaaGreatDoor
