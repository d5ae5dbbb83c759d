/- The tree of orders of a long region, checked piece by piece. -/
import Derived.Test.YtoednejlfbfciaaGreatDoorTy
set_option maxHeartbeats 1000000
namespace Go.Sx
open Go
def opsOf (id:Nat):Code→Option (Array Oper)
 | .region k ops _=>if k=id then some ops else none
 | .seq a b=>(opsOf id a).orElse fun _=>opsOf id b
 | _=>none
def okUp (ops:Array Oper):Nat→Tree→Array Bool→Bool
 | 0,_,_=>true
 | k+1,.take i t,l=>(Region.ready .any ops l).contains i&&Region.free .any ops l i&&okUp ops k t (l.setIfInBounds i true)
 | k+1,.all [(i,t)],l=>(Region.ready .any ops l == [i])&&okUp ops k t (l.setIfInBounds i true)
 | _+1,_,_=>false
def dropT:Nat→Tree→Tree
 | 0,t=>t
 | k+1,.take _ t=>dropT k t
 | k+1,.all [(_,t)]=>dropT k t
 | _+1,t=>t
def markT:Nat→Tree→Array Bool→Array Bool
 | 0,_,l=>l
 | k+1,.take i t,l=>markT k t (l.setIfInBounds i true)
 | k+1,.all [(i,t)],l=>markT k t (l.setIfInBounds i true)
 | _+1,_,l=>l
def bitsA (n m:Nat):Array Bool:=((List.range n).map m.testBit).toArray
theorem Zvr {ops:Array Oper}:∀ {k:Nat} {t:Tree} {l:Array Bool},okUp ops k t l=true→(dropT k t).ok ops (markT k t l)=true→t.ok ops l=true
 | 0,_,_,_,h=>h
 | k+1,.take i t,l,h,g=>by
  simp only [okUp,Bool.and_eq_true] at h
  simp only [Tree.ok,Bool.and_eq_true]
  exact ⟨h.1,Zvr h.2 g⟩
 | k+1,.all [(i,t)],l,h,g=>by
  simp only [okUp,Bool.and_eq_true] at h
  simp only [Tree.ok,Tree.oks,Bool.and_eq_true]
  exact ⟨⟨h.1,rfl⟩,Zvr h.2 g,trivial⟩
 | _+1,.done,_,h,_=>by simp [okUp] at h
 | _+1,.all [],_,h,_=>by simp [okUp] at h
 | _+1,.all (_::_::_),_,h,_=>by simp [okUp] at h
theorem Zcc {ops:Array Oper} {k n m m':Nat} {t:Tree} (h:(okUp ops k t (bitsA n m)&&(markT k t (bitsA n m) == bitsA n m'))=true) (g:(dropT k t).ok ops (bitsA n m')=true):t.ok ops (bitsA n m)=true:=by
 rw [Bool.and_eq_true] at h
 refine Zvr h.1 ?_
 rw [eq_of_beq h.2];exact g
end Go.Sx
namespace Go.Proofs.YtoednejlfbfciaaGreatDoor
open Go Go.Sx
noncomputable def opsK:Array Oper:=((Tryz.f8.body).bind (opsOf 13)).getD #[]
def treeK0:Tree:=(.take 0 (.take 1 (.take 2 (.take 3 (.take 4 (.all [(5,.take 6 (.take 7 (.take 8 (.take 9 (.all [(10,.take 11 (.take 12 (.take 13 (.take 14 (.all [(15,.take 16 (.take 17 (.take 18 (.take 19 (.all [(20,.take 21 (.take 22 (.take 23 (.take 24 (.all [(25,.take 26 (.take 27 (.take 28 (.take 30 (.take 31 (.all [(29,.all [(32,.take 33 (.take 34 (.all [(35,.take 36 (.take 37 (.take 39 (.take 40 (.all [(38,.all [(41,.take 42 (.take 43 (.all [(44,.take 45 (.take 46 (.take 48 (.take 49 (.all [(47,.all [(50,.take 51 (.take 52 (.all [(53,.take 54 (.take 55 (.take 56 (.take 58 (.take 59 (.all [(57,.all [(60,.take 61 (.take 62 (.all [(63,.take 64 (.take 65 (.take 66 (.take 68 (.take 69 (.all [(67,.all [(70,.take 71 (.take 72 (.all [(73,.take 74 (.take 75 (.take 77 (.all [(76,.all [(78,.take 79 (.take 80 (.all [(81,.take 82 (.take 83 (.take 85 (.all [(84,.all [(86,.take 87 (.take 88 (.all [(89,.take 90 (.take 91 (.take 92 (.take 94 (.all [(93,.all [(95,.take 96 (.take 97 (.all [(98,.take 99 (.take 100 (.done)))])))])])))))])))])]))))])))])]))))])))])]))))))])))])]))))))])))])])))))])))])])))))])))])]))))))])))))])))))])))))])))))]))))))
def treeK1:Tree:=dropT 9 treeK0
theorem okK0:(okUp opsK 9 treeK0 (bitsA 101 0)&&(markT 9 treeK0 (bitsA 101 0) == bitsA 101 511))=true:=by kernel_rfl
def treeK2:Tree:=dropT 9 treeK1
theorem okK1:(okUp opsK 9 treeK1 (bitsA 101 511)&&(markT 9 treeK1 (bitsA 101 511) == bitsA 101 262143))=true:=by kernel_rfl
def treeK3:Tree:=dropT 9 treeK2
theorem okK2:(okUp opsK 9 treeK2 (bitsA 101 262143)&&(markT 9 treeK2 (bitsA 101 262143) == bitsA 101 134217727))=true:=by kernel_rfl
def treeK4:Tree:=dropT 9 treeK3
theorem okK3:(okUp opsK 9 treeK3 (bitsA 101 134217727)&&(markT 9 treeK3 (bitsA 101 134217727) == bitsA 101 68719476735))=true:=by kernel_rfl
def treeK5:Tree:=dropT 9 treeK4
theorem okK4:(okUp opsK 9 treeK4 (bitsA 101 68719476735)&&(markT 9 treeK4 (bitsA 101 68719476735) == bitsA 101 35184372088831))=true:=by kernel_rfl
def treeK6:Tree:=dropT 9 treeK5
theorem okK5:(okUp opsK 9 treeK5 (bitsA 101 35184372088831)&&(markT 9 treeK5 (bitsA 101 35184372088831) == bitsA 101 18014398509481983))=true:=by kernel_rfl
def treeK7:Tree:=dropT 9 treeK6
theorem okK6:(okUp opsK 9 treeK6 (bitsA 101 18014398509481983)&&(markT 9 treeK6 (bitsA 101 18014398509481983) == bitsA 101 9223372036854775807))=true:=by kernel_rfl
def treeK8:Tree:=dropT 9 treeK7
theorem okK7:(okUp opsK 9 treeK7 (bitsA 101 9223372036854775807)&&(markT 9 treeK7 (bitsA 101 9223372036854775807) == bitsA 101 4722366482869645213695))=true:=by kernel_rfl
def treeK9:Tree:=dropT 9 treeK8
theorem okK8:(okUp opsK 9 treeK8 (bitsA 101 4722366482869645213695)&&(markT 9 treeK8 (bitsA 101 4722366482869645213695) == bitsA 101 2417851639229258349412351))=true:=by kernel_rfl
def treeK10:Tree:=dropT 9 treeK9
theorem okK9:(okUp opsK 9 treeK9 (bitsA 101 2417851639229258349412351)&&(markT 9 treeK9 (bitsA 101 2417851639229258349412351) == bitsA 101 1237940039285380274899124223))=true:=by kernel_rfl
def treeK11:Tree:=dropT 9 treeK10
theorem Zzh:(okUp opsK 9 treeK10 (bitsA 101 1237940039285380274899124223)&&(markT 9 treeK10 (bitsA 101 1237940039285380274899124223) == bitsA 101 633825300114114700748351602687))=true:=by kernel_rfl
def treeK12:Tree:=dropT 2 treeK11
theorem Zzg:(okUp opsK 2 treeK11 (bitsA 101 633825300114114700748351602687)&&(markT 2 treeK11 (bitsA 101 633825300114114700748351602687) == bitsA 101 2535301200456458802993406410751))=true:=by kernel_rfl
theorem okKz:treeK12.ok opsK (bitsA 101 2535301200456458802993406410751)=true:=by kernel_rfl
theorem Zy9:Array.replicate opsK.size false=bitsA 101 0:=by kernel_rfl
theorem Zy7:tame opsK=true:=by kernel_rfl
theorem okK:(tame opsK&&treeK0.ok opsK (Array.replicate opsK.size false))=true:=by
 rw [Bool.and_eq_true,Zy9]
 exact ⟨Zy7,Zcc okK0 (Zcc okK1 (Zcc okK2 (Zcc okK3 (Zcc okK4 (Zcc okK5 (Zcc okK6 (Zcc okK7 (Zcc okK8 (Zcc okK9 (Zcc Zzh (Zcc Zzg (okKz))))))))))))⟩
end Go.Proofs.YtoednejlfbfciaaGreatDoor
