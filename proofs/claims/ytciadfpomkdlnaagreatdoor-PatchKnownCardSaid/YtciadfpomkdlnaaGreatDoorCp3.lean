/- Plain: the text of a number with places is read back. -/
import Derived.Test.YtciadfpomkdlnaaGreatDoorCc7
set_option maxHeartbeats 1000000
namespace Go.Sx
open Go
theorem Zmv {s:List UInt8} {j:Nat}:Lib.occAt s [46] j=decide (s[j]?=some 46):=by
 unfold Lib.occAt
 rw [Bool.eq_iff_iff,decide_eq_true_eq]
 cases h:s.drop j with
 | nil =>
  have hj:s.length≤j:=by
   have:=congrArg List.length h
   rw [List.length_drop] at this
   simp at this;omega
  rw [List.getElem?_eq_none hj]
  simp [List.isPrefixOf]
 | cons c r =>
  have hc:s[j]?=some c:=by
   have:=List.getElem?_drop (xs:=s) (i:=j) (j:=0)
   rw [h] at this
   simpa using this.symm
  rw [hc]
  simp only [List.isPrefixOf,Bool.and_true,beq_iff_eq,Option.some.injEq]
  exact eq_comm
theorem Zw6 {a b:List UInt8} (h:∀ c∈a,c≠46):Lib.cut (a++[46]++b) [46]=(a,b,true):=by
 have hi:Lib.index (a++[46]++b) [46]=(a.length:Int):=by
  refine Lib.index_first (by simp) ?_ ?_
  ·rw [Zmv,decide_eq_true_eq]
   simp
  ·intro j hj
   rw [Zmv,decide_eq_false_iff_not,List.append_assoc,List.getElem?_append_left hj]
   intro hc
   exact h 46 (List.mem_of_getElem? hc) rfl
 unfold Lib.cut
 rw [hi,if_pos (by omega),Int.toNat_natCast]
 simp
theorem Zsh {a:List UInt8} (h:∀ c∈a,c≠46):Lib.cut a [46]=(a,[],false):=by
 unfold Lib.cut
 rw [if_neg]
 rcases Lib.index_spec a [46] with ⟨h1,_⟩|⟨i,h1,h2,h3,_⟩
 ·omega
 ·rw [Zmv,decide_eq_true_eq] at h3
  exact absurd rfl (h 46 (List.mem_of_getElem? h3))
theorem Zw1 {c:UInt8} (h:isDig c=true):c≠46:=by
 rintro rfl;exact absurd h (by decide)
theorem Zw2 {l:List UInt8} (h0:l≠[]) (h:∀ c∈l,isDig c=true):digS l=true:=by
 rw [Zm8]
 refine ⟨h0,fun c hc=>?_⟩
 have:=h c hc
 simpa [isDig] using this
theorem Zg3 {d:List UInt8} {p:Nat} (hd:∀ c∈d,isDig c=true):∀ c∈padS d p,isDig c=true:=fun c hc=>by
 rw [padS,List.mem_append,List.mem_replicate] at hc
 rcases hc with ⟨_,rfl⟩|hc
 ·decide
 ·exact hd c hc
theorem Zrx {d:List UInt8} {p:Nat}:numOf (padS d p)=numOf d:=by
 rw [padS,Zbf]
 have:∀ k,numOf (List.replicate k (48:UInt8))=0:=fun k=>by
  induction k with
  | zero=>rfl
  | succ k ih=>rw [List.replicate_succ',Zbx,ih];rfl
 rw [this,Nat.zero_mul,Nat.zero_add]
theorem Ztn {z:Int} {p:Nat} (hp:p≤20) (hz:Lib.nDigits z.natAbs≤600+p) :
  parseP (decide (z < 0)) ((padS (Lib.decDigits z.natAbs) p).take ((padS (Lib.decDigits z.natAbs) p).length - p)) ((padS (Lib.decDigits z.natAbs) p).drop ((padS (Lib.decDigits z.natAbs) p).length - p)) (decide (0 < p))=.inl (mkRat z (10 ^ p)):=by
 have hdd:=Zep z.natAbs
 have hdl:(Lib.decDigits z.natAbs).length=Lib.nDigits z.natAbs:=Zaw _
 have hpos:=Zba z.natAbs
 have hu:=Zg3 (p:=p) hdd
 have hn:numOf (padS (Lib.decDigits z.natAbs) p)=z.natAbs:=by rw [Zrx,Ze9]
 have hul:(padS (Lib.decDigits z.natAbs) p).length=max (p+1) (Lib.nDigits z.natAbs):=by
  rw [padS,List.length_append,List.length_replicate,hdl];omega
 have hhead:p+1 < (padS (Lib.decDigits z.natAbs) p).length→(padS (Lib.decDigits z.natAbs) p)[0]?≠some 48:=by
  intro h
  rw [hul] at h
  have e:padS (Lib.decDigits z.natAbs) p=Lib.decDigits z.natAbs:=by
   rw [padS,hdl,show p+1 - Lib.nDigits z.natAbs=0 by omega];rfl
  rw [e]
  by_cases h0:z.natAbs=0
  ·rw [h0,Lib.nDigits_small (by decide)] at h;omega
  ·obtain ⟨c,r,hc,hne⟩:=Zhl h0
   rw [hc]
   simp only [List.getElem?_cons_zero,ne_eq,Option.some.injEq]
   rintro rfl;exact hne rfl
 generalize padS (Lib.decDigits z.natAbs) p=u at hu hn hul hhead ⊢
 have hsplit:u.take (u.length - p)++u.drop (u.length - p)=u:=List.take_append_drop _ _
 have hbl:(u.take (u.length - p)).length=u.length - p:=by rw [List.length_take];omega
 have hel:(u.drop (u.length - p)).length=p:=by rw [List.length_drop];omega
 have h1:digS (u.take (u.length - p))=true:=Zw2 (fun h=>by rw [h] at hbl;simp at hbl;omega) (fun c hc=>hu c (List.mem_of_mem_take hc))
 have h2:¬ (1 < (u.take (u.length - p)).length∧(u.take (u.length - p))[0]?=some 48):=by
  rintro ⟨a1,a2⟩
  rw [hbl] at a1
  refine hhead (by omega) ?_
  rw [List.getElem?_take_of_lt (by omega)] at a2
  exact a2
 unfold parseP
 rw [if_pos ⟨h1,h2⟩,if_neg,if_neg,if_neg,hsplit,hn,hel]
 ·congr 1
  by_cases hz0:z < 0
  ·rw [decide_eq_true hz0,if_pos rfl,show -((z.natAbs:Nat):Int)=z by omega]
  ·rw [decide_eq_false hz0,if_neg (by simp),show ((z.natAbs:Nat):Int)=z by omega]
 ·rw [hbl];omega
 ·rw [hsplit,hn]
  rintro ⟨a1,a2⟩
  have:=of_decide_eq_true a1
  omega
 ·rintro ⟨a1,a2⟩
  have a3:=of_decide_eq_true a1
  exact a2 ⟨Zw2 (fun h=>by rw [h] at hel;simp at hel;omega) (fun c hc=>hu c (List.mem_of_mem_drop hc)),by omega⟩
theorem Zvw {z:Int} {p:Nat} (hp:p≤20) (hz:Lib.nDigits z.natAbs≤600+p):parseQ (fixT z p)=.inl (mkRat z (10 ^ p)):=by
 have key:=Ztn hp hz
 have hdd:=Zep z.natAbs
 have hu:=Zg3 (p:=p) hdd
 have hdl:(Lib.decDigits z.natAbs).length=Lib.nDigits z.natAbs:=Zaw _
 have hpos:=Zba z.natAbs
 obtain ⟨w,hw⟩:∃ w,w=if 0 < p then dotS (padS (Lib.decDigits z.natAbs) p) p else Lib.decDigits z.natAbs:=⟨_,rfl⟩
 have hcut:Lib.cut w [46]=((padS (Lib.decDigits z.natAbs) p).take ((padS (Lib.decDigits z.natAbs) p).length - p),(padS (Lib.decDigits z.natAbs) p).drop ((padS (Lib.decDigits z.natAbs) p).length - p),decide (0 < p)):=by
  by_cases h0:0 < p
  ·rw [hw,if_pos h0,decide_eq_true h0,dotS]
   exact Zw6 fun c hc=>Zw1 (hu c (List.mem_of_mem_take hc))
  ·obtain rfl:p=0:=by omega
   have e:padS (Lib.decDigits z.natAbs) 0=Lib.decDigits z.natAbs:=by
    rw [padS,hdl,show 0+1 - Lib.nDigits z.natAbs=0 by omega];rfl
   rw [hw,if_neg h0,decide_eq_false h0,e,Nat.sub_zero,List.take_length,List.drop_length]
   exact Zsh fun c hc=>Zw1 (hdd c hc)
 have hfirst:∃ c r,w=c::r∧c≠45:=by
  have:∀ l:List UInt8,l≠[]→(∀ c∈l,isDig c=true)→∃ c r,l=c::r∧c≠45:=fun l h0 h=>by
   cases l with
   | nil=>exact absurd rfl h0
   | cons c r=>exact ⟨c,r,rfl,by rintro rfl;exact absurd (h 45 (List.mem_cons_self ..)) (by decide)⟩
  by_cases h0:0 < p
  ·have hul:p+1≤(padS (Lib.decDigits z.natAbs) p).length:=by rw [padS,List.length_append,List.length_replicate];omega
   obtain ⟨c,r,h1,h2⟩:=this ((padS (Lib.decDigits z.natAbs) p).take ((padS (Lib.decDigits z.natAbs) p).length - p)) (fun h=>by have:=congrArg List.length h;rw [List.length_take] at this;simp at this;omega) (fun c hc=>hu c (List.mem_of_mem_take hc))
   exact ⟨c,r++[46]++(padS (Lib.decDigits z.natAbs) p).drop ((padS (Lib.decDigits z.natAbs) p).length - p),by rw [hw,if_pos h0,dotS,h1];simp,h2⟩
  ·rw [hw,if_neg h0]
   exact this _ (fun h=>by rw [h] at hdl;simp at hdl;omega) hdd
 obtain ⟨c,r,hc,hne⟩:=hfirst
 unfold parseQ fixT
 rw [← hw]
 by_cases hz0:z < 0
 ·rw [if_pos hz0]
  rw [decide_eq_true hz0] at key
  have e1:Lib.hasPrefix ([45]++w) [45]=true:=by rw [List.singleton_append,Zav];rfl
  have e2:Lib.trimPrefix ([45]++w) [45]=w:=by unfold Lib.trimPrefix;rw [if_pos e1];rfl
  rw [e1,e2,hcut]
  exact key
 ·rw [if_neg hz0,List.nil_append]
  rw [decide_eq_false hz0] at key
  have e1:Lib.hasPrefix w [45]=false:=by rw [hc,Zav,decide_eq_false hne]
  have e2:Lib.trimPrefix w [45]=w:=by unfold Lib.trimPrefix;rw [if_neg (by rw [e1];simp)]
  rw [e1,e2,hcut]
  exact key
end Go.Sx
namespace Go.Proofs.YtciadfpomkdlnaaGreatDoor.Q
open Go Go.Sx
theorem Zqd (r:List UInt8):numOf (48::r)=numOf r:=by
 have h:numOf ([48]++r)=_:=Zbf
 rw [List.singleton_append] at h
 rw [h,show numOf [48]=0 from rfl,Nat.zero_mul,Nat.zero_add]
theorem Zjg:∀ {u:List UInt8},u≠[]→(∀ c∈u,isDig c=true)→u=List.replicate (u.length - (Lib.decDigits (numOf u)).length) 48++Lib.decDigits (numOf u)∧(Lib.decDigits (numOf u)).length≤u.length
 | [],h,_=>absurd rfl h
 | c :: r,_,hd=>by
  by_cases h48:c=48
  ·subst h48
   by_cases hr:r=[]
   ·subst hr
    rw [show numOf [48]=0 from rfl,Zbs (by decide)]
    exact ⟨rfl,by decide⟩
   ·obtain ⟨h1,h2⟩:=Zjg (u:=r) hr (fun c hc=>hd c (List.mem_cons_of_mem _ hc))
    rw [Zqd]
    generalize Lib.decDigits (numOf r)=d at h1 h2
    refine ⟨?_,by rw [List.length_cons];omega⟩
    rw [show (48::r).length - d.length=(r.length - d.length)+1 by rw [List.length_cons];omega,List.replicate_succ,List.cons_append,← h1]
  ·have h1:=Zhk _ rfl hd (by simp) (by simp only [List.getElem?_cons_zero,ne_eq,Option.some.injEq];exact h48)
   rw [← h1]
   refine ⟨?_,Nat.le_refl _⟩
   rw [Nat.sub_self];rfl
theorem Zob {u:List UInt8} {p:Nat} (hd:∀ c∈u,isDig c=true) (hl:p+1≤u.length) (hh:p+1 < u.length→u[0]?≠some 48):padS (Lib.decDigits (numOf u)) p=u:=by
 have h0:u≠[]:=fun h=>by rw [h] at hl;simp at hl
 obtain ⟨h1,h2⟩:=Zjg h0 hd
 unfold padS
 by_cases hp:p+1=u.length
 ·rw [hp];exact h1.symm
 ·have e:=Zhk _ rfl hd h0 (hh (by omega))
  rw [← e,show p+1 - u.length=0 by omega];rfl
theorem Zzt (z:Int) (p:Nat):nearQ (mkRat z (10 ^ p)) (10 ^ p)=z:=by
 have h0:(10 ^ p:Nat)≠0:=Nat.pos_iff_ne_zero.1 (Nat.pow_pos (by decide))
 have e:nearQ (mkRat z (10 ^ p)) (10 ^ p)=(mkRat z (10 ^ p) * ((10 ^ p:Nat):Rat)+mkRat 1 2).floor:=Zrr _
 have e1:mkRat z (10 ^ p) * ((10 ^ p:Nat):Rat)=(z:Rat):=by
  generalize (10 ^ p:Nat)=T at h0
  rw [Rat.mkRat_eq_div,Rat.div_mul_cancel (fun h=>h0 (Rat.natCast_inj.1 h))]
 rw [e,e1,Rat.add_comm,Rat.floor_add_intCast,show (mkRat 1 2).floor=0 by decide +kernel,Int.zero_add]
end Go.Proofs.YtciadfpomkdlnaaGreatDoor.Q
