/- Plain: the meshes of MeshKnown: flaws, a great pyramid. -/
import Derived.Test.YtlgdjjkiofcdmaaDoorMq1
set_option maxHeartbeats 1000000
namespace Go.Sx
open Go
def pyrP:List V3:=(List.range 297).map (fun (i:Nat)=>⟨(i:Int),(i:Int) * (i:Int),0⟩)++[⟨5,100,900⟩,⟨5,100,-900⟩]
def pyrF:List V3:=(List.range 297).flatMap fun (i:Nat)=>[⟨(i:Int),((i:Int)+1) % 297,297⟩,⟨((i:Int)+1) % 297,(i:Int),298⟩]
def joinS (n:Nat):List V3→Nat→Nat
 | [],D=>D
 | f::l,D=>if D.testBit (codeE n (f.y,f.x))||D.testBit (codeE n (f.z,f.y))||D.testBit (codeE n (f.x,f.z)) then joinS n l (D ||| 2 ^ codeE n (f.x,f.y) ||| 2 ^ codeE n (f.y,f.z) ||| 2 ^ codeE n (f.z,f.x)) else joinS n l D
theorem Zk8 {n:Nat}:∀ (l:List V3) (D:Nat),l.foldl (joinB n) D=joinS n l D
 | [],_=>rfl
 | f::l,D=>by
  rw [List.foldl_cons,Zk8 l]
  unfold joinB
  rw [joinS]
  split<;>rfl
theorem Zp4:(codesF 299 pyrF).all (fun c=>(passes 299 pyrF 1 (firstB 299 pyrF)).testBit c)=true:=by
 rw [passes,passes,Zk8]
 decide +kernel
theorem Zp5:comb 299 pyrF=true:=by
 refine Zr6 (k:=1) ?_ (by decide +kernel)
 unfold fastOk
 rw [Zp4,show pyrF.all (fun f=>!isWrong 299 f)=true by decide +kernel,show decide (pyrF.foldl usedB 0+1=2 ^ 299)=true by decide +kernel]
 simp only [Bool.true_and,Bool.and_true]
 decide +kernel
theorem Zq7:okM pyrP pyrF:=Ztx.2 (Zj1 (by decide +kernel) (by decide +kernel) (by decide +kernel) (by decide +kernel) (by decide +kernel) (by rw [show pyrP.length=299 by decide +kernel];exact Zp5) (by decide +kernel))
def pyrA:Int:=(List.range 297).foldl (fun (s:Int) (i:Nat)=>s+((i:Int) * ((((i:Int)+1) % 297) * (((i:Int)+1) % 297)) - (i:Int) * (i:Int) * (((i:Int)+1) % 297))) 0
theorem Zrx:volM pyrP pyrF=1800 * pyrA:=by decide +kernel
theorem Zno:eulerM pyrP pyrF=(891,2,0):=by
 unfold eulerM
 rw [if_pos Zq7]
 decide +kernel
def pyrX (k:Nat):List V3:=(List.range k).map (fun (i:Nat)=>⟨(i:Int),(i:Int) * (i:Int),0⟩)
def pyrG (k:Nat):List V3:=(List.range k).flatMap fun (i:Nat)=>[⟨(i:Int),((i:Int)+1) % 297,297⟩,⟨((i:Int)+1) % 297,(i:Int),298⟩]
def pyrS (k:Nat):Int:=(List.range k).foldl (fun (s:Int) (i:Nat)=>s+((i:Int) * ((((i:Int)+1) % 297) * (((i:Int)+1) % 297)) - (i:Int) * (i:Int) * (((i:Int)+1) % 297))) 0
theorem Znq {k:Nat}:pyrX (k+1)=pyrX k++[⟨(k:Int),(k:Int) * (k:Int),0⟩]:=by unfold pyrX;rw [List.range_succ,List.map_append];rfl
theorem Zip {k:Nat}:pyrG (k+1)=pyrG k++[⟨(k:Int),((k:Int)+1) % 297,297⟩,⟨((k:Int)+1) % 297,(k:Int),298⟩]:=by unfold pyrG;rw [List.range_succ,List.flatMap_append];simp
theorem Zin {k:Nat}:pyrS (k+1)=pyrS k+((k:Int) * ((((k:Int)+1) % 297) * (((k:Int)+1) % 297)) - (k:Int) * (k:Int) * (((k:Int)+1) % 297)):=by unfold pyrS;rw [List.range_succ,List.foldl_append];rfl
theorem Zp6 {k:Nat}:(pyrX k).length=k:=by simp [pyrX]
theorem Zp8 {k:Nat}:(pyrG k).length=2 * k:=by
 induction k with
 | zero=>rfl
 | succ k ih=>rw [Zip,List.length_append,ih];simp;omega
theorem Znu {i:Nat} (h:i < 297):pyrP[i]?=some ⟨(i:Int),(i:Int) * (i:Int),0⟩:=by
 unfold pyrP
 rw [List.getElem?_append_left (by simpa using h),List.getElem?_map,List.getElem?_range h];rfl
theorem Zk3 {i:Nat} (h:i < 297):-30000000≤(i:Int) * ((((i:Int)+1) % 297) * (((i:Int)+1) % 297))∧(i:Int) * ((((i:Int)+1) % 297) * (((i:Int)+1) % 297))≤30000000∧-30000000≤(i:Int) * (i:Int) * (((i:Int)+1) % 297)∧(i:Int) * (i:Int) * (((i:Int)+1) % 297)≤30000000:=by
 generalize hm:((i:Int)+1) % 297=m
 have m0:0≤m∧m≤296:=by omega
 have i0:(0:Int)≤i∧(i:Int)≤296:=by omega
 have a1:=Int.mul_nonneg m0.1 m0.1
 have a2:=Int.mul_le_mul m0.2 m0.2 m0.1 (by decide)
 have b1:=Int.mul_nonneg i0.1 i0.1
 have b2:=Int.mul_le_mul i0.2 i0.2 i0.1 (by decide)
 have c1:=Int.mul_nonneg i0.1 a1
 have c2:=Int.mul_le_mul i0.2 a2 a1 (by decide)
 have d1:=Int.mul_nonneg b1 m0.1
 have d2:=Int.mul_le_mul b2 m0.2 m0.1 (by decide)
 omega
theorem Znt {k:Nat} (h:k≤297):-17820000000≤pyrS k∧pyrS k≤17820000000:=by
 have key:∀ n:Nat,n≤297→-(60000000 * (n:Int))≤pyrS n∧pyrS n≤60000000 * (n:Int):=by
  intro n
  induction n with
  | zero=>intro _;exact ⟨by decide,by decide⟩
  | succ n ih =>
   intro hn
   have h1:=ih (by omega)
   have h2:=Zk3 (i:=n) (by omega)
   rw [Zin]
   omega
 have:=key k h
 omega
theorem Znr:pyrX 297++[(⟨5,100,900⟩:V3),⟨5,100,-900⟩]=pyrP:=rfl
theorem Znw:pyrG 297=pyrF:=rfl
theorem Zio:pyrS 297=pyrA:=rfl
theorem Znp:pyrX 0=[]:=rfl
theorem Znv:pyrG 0=[]:=rfl
theorem Zns:pyrS 0=0:=rfl
theorem Zp7:pyrP.length=299:=by decide +kernel
theorem Zqc:boxM [] []=(V3.zero,V3.zero,350):=by decide +kernel
attribute [irreducible] pyrP pyrF pyrX pyrG pyrS pyrA
end Go.Sx
