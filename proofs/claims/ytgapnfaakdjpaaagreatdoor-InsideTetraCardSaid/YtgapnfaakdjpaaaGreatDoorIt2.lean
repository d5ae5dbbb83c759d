/- Walks: InsideTetra: determinants. -/
import Derived.Test.YtgapnfaakdjpaaaGreatDoorIt1
import Derived.Test.YtgapnfaakdjpaaaGreatDoorIj1
namespace Go.Proofs.YtgapnfaakdjpaaaGreatDoor
open Go Go.Sx
variable {w0:World} {As:List Ent}
theorem minus36_ok {x0 x1 x2 y0 y1 y2:Int} (h0:-300000≤x0∧x0≤300000) (h1:-300000≤x1∧x1≤300000) (h2:-300000≤x2∧x2≤300000) (k0:-300000≤y0∧y0≤300000) (k1:-300000≤y1∧y1≤300000) (k2:-300000≤y2∧y2≤300000) :
    CallsS Tryz.prog w0 22 [.agg #[.int .i64 x0,.int .i64 x1,.int .i64 x2],.agg #[.int .i64 y0,.int .i64 y1,.int .i64 y2]] As fun v Bs=>v=.agg #[.int .i64 (x0 - y0),.int .i64 (x1 - y1),.int .i64 (x2 - y2)]∧Bs=As:=by
  refine CallsS.of_tri Tryz.func22 rfl Tryz.ntmps22 rfl ?_
  (repeat' first|(refine Ka ?_;first|refine Kb ?_|(refine Kc ?_;intro _))|refine Kd ?_|refine Ke ?_|refine Kf ?_|refine Kg rfl ?_|refine Kh ?_)
  (refine Post.ra ?_)
  exact ⟨_,⟨rfl,rfl⟩,by (exact Ents.au)⟩
theorem det36_ok {x0 x1 x2 y0 y1 y2 z0 z1 z2:Int} (h0:-600000≤x0∧x0≤600000) (h1:-600000≤x1∧x1≤600000) (h2:-600000≤x2∧x2≤600000) (k0:-600000≤y0∧y0≤600000) (k1:-600000≤y1∧y1≤600000) (k2:-600000≤y2∧y2≤600000)
    (l0:-600000≤z0∧z0≤600000) (l1:-600000≤z1∧z1≤600000) (l2:-600000≤z2∧z2≤600000) :
    CallsS Tryz.prog w0 21 [.agg #[.int .i64 x0,.int .i64 x1,.int .i64 x2],.agg #[.int .i64 y0,.int .i64 y1,.int .i64 y2],.agg #[.int .i64 z0,.int .i64 z1,.int .i64 z2]] As fun v Bs=>v=.int .i64 (det3 ⟨x0,x1,x2⟩ ⟨y0,y1,y2⟩ ⟨z0,z1,z2⟩)∧Bs=As:=by
  have e1:=mul_in (m:=600000) (n:=600000) (by decide) (by decide) k1.1 k1.2 l2.1 l2.2
  have e2:=mul_in (m:=600000) (n:=600000) (by decide) (by decide) k2.1 k2.2 l1.1 l1.2
  have e3:=mul_in (m:=600000) (n:=600000) (by decide) (by decide) k2.1 k2.2 l0.1 l0.2
  have e4:=mul_in (m:=600000) (n:=600000) (by decide) (by decide) k0.1 k0.2 l2.1 l2.2
  have e5:=mul_in (m:=600000) (n:=600000) (by decide) (by decide) k0.1 k0.2 l1.1 l1.2
  have e6:=mul_in (m:=600000) (n:=600000) (by decide) (by decide) k1.1 k1.2 l0.1 l0.2
  have f1:=mul_in (m:=600000) (n:=720000000000) (by decide) (by decide) h0.1 h0.2 (show -720000000000≤y1 * z2 - y2 * z1 by omega) (by omega)
  have f2:=mul_in (m:=600000) (n:=720000000000) (by decide) (by decide) h1.1 h1.2 (show -720000000000≤y2 * z0 - y0 * z2 by omega) (by omega)
  have f3:=mul_in (m:=600000) (n:=720000000000) (by decide) (by decide) h2.1 h2.2 (show -720000000000≤y0 * z1 - y1 * z0 by omega) (by omega)
  refine CallsS.of_tri Tryz.func21 rfl Tryz.ntmps21 rfl ?_
  (repeat' first|(refine Ka ?_;first|refine Kb ?_|(refine Kc ?_;intro _))|refine Kd ?_|refine Ke ?_|refine Kf ?_|refine Kg rfl ?_|refine Kh ?_)
  (refine Post.ra ?_)
  exact ⟨_,⟨rfl,rfl⟩,by (exact Ents.au)⟩
theorem rem36_in (a:Int):-100000≤a.tmod 100001∧a.tmod 100001≤100000:=by
  rcases Int.le_total 0 a with h|h
  · rw [Int.tmod_eq_emod_of_nonneg h];omega
  · have:=Int.neg_tmod a 100001
    rw [Int.tmod_eq_emod_of_nonneg (show 0≤-a by omega)] at this
    omega
end Go.Proofs.YtgapnfaakdjpaaaGreatDoor
