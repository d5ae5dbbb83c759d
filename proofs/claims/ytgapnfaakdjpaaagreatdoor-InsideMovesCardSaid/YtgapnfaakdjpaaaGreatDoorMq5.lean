/- Meshes, plain: a draft that is not turned has a volume above nought. -/
import Derived.Test.YtgapnfaakdjpaaaGreatDoorMq4
namespace Go.Sx
open Go
def ctr:Nat→V3
  | 0=>⟨1,1,1⟩
  | 1=>⟨0,0,0⟩
  | 2=>⟨1,1,1⟩
  | _=>⟨4,2,2⟩
def ivC (c p:Int):Itv:=⟨125 * (2 * p - c) - 32,125 * (2 * p - c)+32⟩
def ivP (c p:V3):Itv3:=⟨ivC c.x p.x,ivC c.y p.y,ivC c.z p.z⟩
def ivAt (k:Nat) (i:Int):Itv3:=ivP (ctr k) (ptAt (shapeP k) i)
def loF (k:Nat) (f:V3):Int:=(Itv3.det (ivAt k f.x) (ivAt k f.y) (ivAt k f.z)).lo
def loS (k:Nat) (l:List V3):Int:=l.foldl (fun s f=>s+loF k f) 0
def sc (p:V3):V3:=⟨125 * p.x,125 * p.y,125 * p.z⟩
def mid (k:Nat) (u:Int) (t:V3):V3:=⟨-(t.x+u * (ctr k).x),-(t.y+u * (ctr k).y),-(t.z+u * (ctr k).z)⟩
end Go.Sx
