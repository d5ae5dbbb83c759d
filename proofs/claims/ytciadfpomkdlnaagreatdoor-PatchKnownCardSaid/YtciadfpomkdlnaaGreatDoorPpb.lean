/- Plain: the examples' lists and texts of PatchKnown. -/
import Derived.Test.YtciadfpomkdlnaaGreatDoorPpa
set_option maxHeartbeats 1000000
namespace Go.Proofs.YtciadfpomkdlnaaGreatDoor.Q
open Go Go.Sx
def pzN:List UInt8:=[65,122,48,57,45,95,97,98,99,100,101,102]
def pz:PP:=(pzN,[0,10000,1,9999],10000,-12800,12700)
def nmK (k:Nat):List UInt8:=[110,UInt8.ofNat (97+k % 26),UInt8.ofNat (97+k / 26)]
def manyP (n:Nat):List PP:=(List.range n).map fun k=>(nmK k,[0,10000,1,9999],10000,-12800,12700)
theorem Zfb:checkP (manyP 40)=true:=by decide +kernel
theorem Z2j:checkP (manyP 41)=false:=by decide +kernel
theorem Z4n:checkP (manyP 2)=true:=by decide +kernel
theorem Zvq:checkP [pz]=true:=by decide +kernel
theorem Z2d:textT [pz]=[112,97,116,99,104,101,115,32,52,10,65,122,48,57,45,95,97,98,99,100,101,102,32,48,32,49,32,48,46,48,48,48,49,32,48,46,57,57,57,57,32,49,48,48,32,45,49,50,56,32,49,50,55,10,101,110,100,10]:=by decide +kernel
def preK:List UInt8:=headT 4++(manyP 40).flatMap rowT
theorem Zi9:textT (manyP 40)=preK++[101,110,100,10]:=by
 unfold textT preK
 rw [List.append_assoc]
 rfl
def noOcc (sub:List UInt8):Nat→List UInt8→Bool
 | 0,_=>true
 | _+1,[]=>false
 | n+1,c::l=>!(sub.isPrefixOf (c::l))&&noOcc sub n l
theorem Zlr {sub:List UInt8}:∀ {n:Nat} {s:List UInt8},noOcc sub n s=true→∀ j,j < n→Lib.occAt s sub j=false
 | 0,_,_,j,hj=>by omega
 | n+1,[],h,_,_=>by cases h
 | n+1,c::l,h,j,hj=>by
  rw [noOcc,Bool.and_eq_true,Bool.not_eq_true'] at h
  cases j with
  | zero=>exact h.1
  | succ j=>exact Zlr h.2 j (by omega)
theorem Zlz:Lib.index (textT (manyP 40)) [101,110,100,10]=(preK.length:Int):=by
 refine Lib.index_first ?_ ?_ (Zlr (n:=preK.length) ?_)
 ·rw [Zi9,List.length_append];omega
 ·unfold Lib.occAt
  rw [Zi9,List.drop_left]
  rfl
 ·decide +kernel
theorem Zoi {new:List UInt8} (hn:([101,110,100,10] == new)=false):Lib.replace (textT (manyP 40)) [101,110,100,10] new 1=preK++new:=by
 have h1:=Lib.count_hit (s:=textT (manyP 40)) (sub:=[101,110,100,10]) (by decide) Zlz
 have e:Lib.replaceNum (textT (manyP 40)) [101,110,100,10] 1=1:=by
  unfold Lib.replaceNum
  split
  ·omega
  ·rfl
 rw [Lib.replace,if_neg (by rw [hn];decide),e,Lib.replaceK_hit _ _ _ _ _ Zlz,Lib.replaceK,Zi9,List.take_left]
 rw [show preK.length+([101,110,100,10]:List UInt8).length=(preK++[101,110,100,10]).length by rw [List.length_append],List.drop_length,List.append_nil]
theorem Zvr:preK.length≤3000:=by
 have h:=Zbo Zfb
 rw [Zi9,List.length_append] at h
 omega
theorem Zoh:parseT (preK++(joinW (wordsT pz)++[10,101,110,100,10]))=([],42,5):=by
 have h3:=(Zxb.1 Zfb).2.2
 have hl:(joinW (wordsT pz)).length≤70:=by have:=Zgz (p:=pz) (by decide +kernel);unfold rowT at this;rw [List.length_append] at this;omega
 have hp:=Zvr
 have hpz:namedP pz.1=true:=by decide +kernel
 unfold parseT
 rw [if_neg (by rw [List.length_append,List.length_append];simp only [List.length_cons,List.length_nil];omega)]
 have hL:linesL (preK++(joinW (wordsT pz)++[10,101,110,100,10]))=[wPatches++32::Lib.decDigits 4]++((manyP 40).map (fun p=>joinW (wordsT p))++(joinW (wordsT pz)::[wEnd,[]])):=by
  unfold preK headT
  rw [show wPatches++32::(Lib.decDigits 4++[10])++(manyP 40).flatMap rowT++(joinW (wordsT pz)++[10,101,110,100,10])=(wPatches++32::Lib.decDigits 4)++10::((manyP 40).flatMap rowT++(joinW (wordsT pz)++10::[101,110,100,10])) by simp]
  rw [Zc0 Zj5,Zhy fun p hp=>(Z33.1 (h3.sound p hp).1).1,Zc0 (Zmm hpz)]
  rfl
 rw [hL,Ze5 (Zm3 (by decide) (by decide)),Ze5 (Zi0 (ps:=[]) (by decide) (by rw [List.nil_append];exact h3) (by rw [List.nil_append];exact (Zxb.1 Zfb).2.1)),runP,Zvh hpz]
 simp only
 have e:1+[wPatches++32::Lib.decDigits 4].length+((manyP 40).map fun p=>joinW (wordsT p)).length=42:=by
  rw [List.length_map];unfold manyP;rw [List.length_map,List.length_range];rfl
 rw [e,List.nil_append]
 have hs:∀ n,stepP n (4,manyP 40,false) (wordsT pz)=.inl n:=fun n=>by
  refine Zrk (by decide) (by decide +kernel) ?_
  unfold patchP
  rw [if_neg fun k=>by
   have:=k.2.1
   unfold manyP at this
   rw [List.length_map,List.length_range] at this
   exact absurd this (by decide)]
 rw [hs]
theorem Zm0:(linesL (textT [pz]))[1]?=some (joinW (wordsT pz)):=by
 rw [Zcu Zvq]
 rfl
theorem Zwc {k:Nat}:linesL (35::List.replicate k 120)=[35::List.replicate k 120]:=by
 refine Zlw fun c hc=>?_
 rcases List.mem_cons.1 hc with rfl|hc
 ·decide
 ·rw [List.eq_of_mem_replicate hc];decide
theorem Zz0 {k:Nat}:sayP (35::List.replicate k 120)=none:=by
 unfold sayP
 rw [Zjh (by simp) (fun c hc=>by
  rcases List.mem_cons.1 hc with rfl|hc
  ·decide
  ·rw [List.eq_of_mem_replicate hc];decide)]
 rfl
theorem Ztw:parseT ([35]++List.replicate 7999 120)=([],0,5):=by
 unfold parseT
 rw [if_neg (by rw [List.length_append,List.length_replicate];decide)]
 rw [show [35]++List.replicate 7999 (120:UInt8)=35::List.replicate 7999 120 from rfl,Zwc,runP,Zz0]
 rfl
theorem Zqj:parseT ([35]++List.replicate 7999 120++[120])=([],0,3):=by
 unfold parseT
 rw [if_pos (by rw [List.length_append,List.length_append,List.length_replicate];decide)]
end Go.Proofs.YtciadfpomkdlnaaGreatDoor.Q
