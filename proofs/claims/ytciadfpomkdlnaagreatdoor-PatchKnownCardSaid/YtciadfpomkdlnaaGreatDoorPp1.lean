/- Plain: words and lines of a text; patches, their texts, and what a text is read as. -/
import Derived.Test.YtciadfpomkdlnaaGreatDoorCp3
import Derived.Lib.TrimByte
set_option maxHeartbeats 1000000
namespace Go.Proofs.YtciadfpomkdlnaaGreatDoor.Q
open Go Go.Sx
def isBl (c:UInt8):Bool:=c == 32||c == 9
def flushW:List UInt8 × List (List UInt8)→List (List UInt8)
 | ([],ws)=>ws
 | (c::w,ws)=>(c::w)::ws
def stepW (c:UInt8) (p:List UInt8 × List (List UInt8)):List UInt8 × List (List UInt8) :=
 if isBl c then ([],flushW p) else match p with
  | (w,ws)=>(c::w,ws)
def wordsL (s:List UInt8):List (List UInt8):=flushW (s.foldr stepW ([],[]))
def stepL (c:UInt8) (p:List (List UInt8)):List (List UInt8) :=
 if c=10 then []::p else match p with
  | []=>[[c]]
  | l::t=>(c::l)::t
def linesL (s:List UInt8):List (List UInt8):=s.foldr stepL [[]]
abbrev PP:=List UInt8 × List Int × Int × Int × Int
def nameC (c:UInt8):Bool:=(decide (65≤c.toNat)&&decide (c.toNat≤90))||(decide (97≤c.toNat)&&decide (c.toNat≤122))||(decide (48≤c.toNat)&&decide (c.toNat≤57))||c == 45||c == 95
def namedP (s:List UInt8):Bool:=decide (1≤s.length)&&(decide (s.length≤12)&&s.all nameC)
def soundP (p:PP):Bool:=namedP p.1&&(decide (1≤p.2.1.length)&&(decide (p.2.1.length≤4)&&(p.2.1.all (fun v=>decide (0≤v)&&decide (v≤10000)) &&
 decide (0≤p.2.2.1∧p.2.2.1≤10000∧-12800≤p.2.2.2.1∧p.2.2.2.1≤12700∧-12800≤p.2.2.2.2∧p.2.2.2.2≤12700))))
def checkGo (n:Nat):List (List UInt8)→List PP→Bool
 | _,[]=>true
 | seen,p::r=>soundP p&&(decide (p.2.1.length=n)&&(!(seen.contains p.1)&&checkGo n (p.1::seen) r))
def checkP:List PP→Bool
 | []=>false
 | p::r=>decide ((p::r).length≤40)&&checkGo p.2.1.length [] (p::r)
def valueP (w:List UInt8) (p:Nat) (lo hi:Int):Option Int:=match parseQ w with
 | .inl r=>if r=mkRat (nearQ r (10 ^ p)) (10 ^ p)∧lo≤nearQ r (10 ^ p)∧nearQ r (10 ^ p)≤hi then some (nearQ r (10 ^ p)) else none
 | .inr _=>none
def devsP:List (List UInt8)→Option (List Int)
 | []=>some []
 | w::r=>match valueP w 4 0 10000,devsP r with
  | some x,some xs=>some (x::xs)
  | _,_=>none
def patchP (ch:Nat) (ps:List PP) (ws:List (List UInt8)):Option PP :=
 if ws.length=ch+4∧ps.length < 40∧namedP (ws.headD [])=true∧ws.headD [] ∉ ps.map (·.1) then
  match devsP ((ws.drop 1).take ch),valueP (ws.getD (1+ch) []) 2 0 10000,valueP (ws.getD (1+ch+1) []) 2 (-12800) 12700,valueP (ws.getD (1+ch+2) []) 2 (-12800) 12700 with
  | some d,some l,some a,some b=>some (ws.headD [],d,l,a,b)
  | _,_,_,_=>none
 else none
def wPatches:List UInt8:=[112,97,116,99,104,101,115]
def wEnd:List UInt8:=[101,110,100]
def headP (ws:List (List UInt8)):Option Nat:=match ws with
 | [a,[c]]=>if a=wPatches∧49≤c.toNat∧c.toNat≤52 then some (c.toNat - 48) else none
 | _=>none
abbrev StP:=Nat × List PP × Bool
def stepP (n:Nat) (s:StP) (ws:List (List UInt8)):Nat ⊕ StP :=
 if s.2.2 then .inl n
 else if s.1=0 then match headP ws with
  | some k=>.inr (k,s.2.1,false)
  | none=>.inl n
 else if ws=[wEnd] then (if s.2.1=[] then .inl 0 else .inr (s.1,s.2.1,true))
 else match patchP s.1 s.2.1 ws with
  | some p=>.inr (s.1,s.2.1++[p],false)
  | none=>.inl n
def sayP (l:List UInt8):Option (List (List UInt8)):=match wordsL l with
 | []=>none
 | w::ws=>if w.head?=some 35 then none else some (w::ws)
def runP:Nat→StP→List (List UInt8)→Nat ⊕ StP
 | _,s,[]=>.inr s
 | n,s,l::r=>match sayP l with
  | none=>runP (n+1) s r
  | some ws=>match stepP n s ws with
   | .inl e=>.inl e
   | .inr s'=>runP (n+1) s' r
def parseT (s:List UInt8):List PP × Nat × Int :=
 if 8000 < s.length then ([],0,3) else match runP 1 (0,[],false) (linesL s) with
  | .inl e=>([],e,5)
  | .inr t=>if t.2.2 then (t.2.1,0,0) else ([],0,5)
def decU (d:List UInt8) (p:Nat):List UInt8 :=
 if Lib.trimRightB (d.drop (d.length - p)) 48=[] then d.take (d.length - p) else d.take (d.length - p)++[46]++Lib.trimRightB (d.drop (d.length - p)) 48
def decT (n:Int) (p:Nat):List UInt8:=(if n < 0 then [45] else [])++decU (padS (Lib.decDigits n.natAbs) p) p
def wordsT (p:PP):List (List UInt8):=p.1::(p.2.1.map (decT · 4)++[decT p.2.2.1 2,decT p.2.2.2.1 2,decT p.2.2.2.2 2])
def joinW:List (List UInt8)→List UInt8
 | []=>[]
 | w::r=>w++r.flatMap (32::·)
def rowT (p:PP):List UInt8:=joinW (wordsT p)++[10]
def headT (n:Nat):List UInt8:=wPatches++32::(Lib.decDigits n++[10])
def textT (l:List PP):List UInt8:=headT (l.headD ([],[],0,0,0)).2.1.length++(l.flatMap rowT++(wEnd++[10]))

/-! ### words -/
theorem Zf9 {c:UInt8} {s:List UInt8} (h:isBl c=true):wordsL (c::s)=wordsL s:=by
 unfold wordsL
 rw [List.foldr_cons,stepW,if_pos h]
 rfl
theorem Zl0 {w:List UInt8} (hw:∀ c∈w,isBl c=false) {q:List UInt8 × List (List UInt8)}:w.foldr stepW q=(w++q.1,q.2):=by
 induction w with
 | nil=>rfl
 | cons c w ih =>
  rw [List.foldr_cons,ih fun x hx=>hw x (List.mem_cons_of_mem _ hx),stepW,if_neg (by rw [hw c (List.mem_cons_self ..)];decide)]
  rfl
theorem Zsb {w:List UInt8} {ws:List (List UInt8)} (h:w≠[]):flushW (w,ws)=w::ws:=by
 cases w with
 | nil=>exact absurd rfl h
 | cons c w=>rfl
theorem Zns {w s:List UInt8} {c:UInt8} (h0:w≠[]) (hw:∀ c∈w,isBl c=false) (hc:isBl c=true):wordsL (w++c::s)=w::wordsL s:=by
 unfold wordsL
 rw [List.foldr_append,List.foldr_cons,stepW,if_pos hc,Zl0 hw,List.append_nil,Zsb h0]
theorem Zjh {w:List UInt8} (h0:w≠[]) (hw:∀ c∈w,isBl c=false):wordsL w=[w]:=by
 unfold wordsL
 rw [Zl0 hw,List.append_nil,Zsb h0]
theorem Zhq:∀ {ws:List (List UInt8)},(∀ w∈ws,w≠[]∧∀ c∈w,isBl c=false)→wordsL (joinW ws)=ws
 | [],_=>rfl
 | [w],h=>by
  rw [joinW,List.flatMap_nil,List.append_nil]
  exact Zjh (h w (List.mem_cons_self ..)).1 (h w (List.mem_cons_self ..)).2
 | w :: v::r,h=>by
  have e:joinW (w::v::r)=w++32::joinW (v::r):=by
   simp only [joinW,List.flatMap_cons,List.cons_append]
  rw [e,Zns (h w (List.mem_cons_self ..)).1 (h w (List.mem_cons_self ..)).2 (by decide),Zhq fun x hx=>h x (List.mem_cons_of_mem _ hx)]
/-! ### lines -/
theorem Zc0 {l s:List UInt8} (h:∀ c∈l,c≠10):linesL (l++10::s)=l::linesL s:=by
 unfold linesL
 rw [List.foldr_append,List.foldr_cons,stepL.eq_def,if_pos rfl]
 induction l with
 | nil=>rfl
 | cons c l ih =>
  rw [List.foldr_cons,ih fun x hx=>h x (List.mem_cons_of_mem _ hx),stepL.eq_def,if_neg (h c (List.mem_cons_self ..))]
theorem Zlw {l:List UInt8} (h:∀ c∈l,c≠10):linesL l=[l]:=by
 unfold linesL
 induction l with
 | nil=>rfl
 | cons c l ih =>
  rw [List.foldr_cons,ih fun x hx=>h x (List.mem_cons_of_mem _ hx),stepL.eq_def,if_neg (h c (List.mem_cons_self ..))]
theorem Zco {s:List UInt8}:linesL s≠[]:=by
 unfold linesL
 cases s with
 | nil=>simp
 | cons c s =>
  rw [List.foldr_cons,stepL.eq_def]
  split
  ·simp
  ·split<;>simp
/-! ### decimal texts -/
theorem Zgs {l:List UInt8} {c:UInt8}:l=Lib.trimRightB l c++List.replicate (l.length - (Lib.trimRightB l c).length) c∧(Lib.trimRightB l c).length≤l.length:=by
 have h1:l.reverse=l.reverse.takeWhile (· == c)++l.reverse.dropWhile (· == c):=List.takeWhile_append_dropWhile.symm
 have h2 : ∀ x∈l.reverse.takeWhile (· == c),x=c:=fun x hx=>by
  have h9:∀ (q:List UInt8),x∈q.takeWhile (· == c)→(x == c)=true:=by
   intro q
   induction q with
   | nil=>intro h;cases h
   | cons y q ih =>
    intro h
    rw [List.takeWhile_cons] at h
    split at h
    ·rename_i hy
     rcases List.mem_cons.1 h with rfl|h
     ·exact hy
     ·exact ih h
    ·cases h
  exact eq_of_beq (h9 _ hx)
 have h3:l.reverse.takeWhile (· == c)=List.replicate (l.reverse.takeWhile (· == c)).length c:=List.eq_replicate_of_mem h2
 have h4:l=Lib.trimRightB l c++List.replicate (l.reverse.takeWhile (· == c)).length c:=by
  conv=>lhs;rw [← List.reverse_reverse l,h1,List.reverse_append,h3,List.reverse_replicate]
  rfl
 have h5:=congrArg List.length h4
 rw [List.length_append,List.length_replicate] at h5
 refine ⟨?_,by omega⟩
 conv=>lhs;rw [h4]
 rw [show (l.reverse.takeWhile (· == c)).length=l.length - (Lib.trimRightB l c).length by omega]
theorem Zqc (k:Nat):numOf (List.replicate k (48:UInt8))=0:=by
 induction k with
 | zero=>rfl
 | succ k ih=>rw [List.replicate_succ',Zbx,ih];rfl
theorem Zqg (z:Int) (k j:Nat):mkRat (z * (10:Int) ^ j) (10 ^ (k+j))=mkRat z (10 ^ k):=by
 rw [Nat.pow_add,show ((10:Int) ^ j)=((10 ^ j:Nat):Int) by simp]
 exact Rat.mkRat_mul_right (Nat.pos_iff_ne_zero.1 (Nat.pow_pos (by decide)))
theorem Zw5 {n:Int} {p:Nat}:∃ (z:Int) (k:Nat),k≤p∧z.natAbs≤n.natAbs∧decT n p=fixT z k∧mkRat n (10 ^ p)=mkRat z (10 ^ k):=by
 have hdd:=Zep n.natAbs
 have hdl:(Lib.decDigits n.natAbs).length=Lib.nDigits n.natAbs:=Zaw _
 have hpos:=Zba n.natAbs
 have hu:=Zg3 (p:=p) hdd
 have hn:numOf (padS (Lib.decDigits n.natAbs) p)=n.natAbs:=by rw [Zrx,Ze9]
 have hul:(padS (Lib.decDigits n.natAbs) p).length=max (p+1) (Lib.nDigits n.natAbs):=by
  rw [padS,List.length_append,List.length_replicate,hdl];omega
 have hhead:p+1 < (padS (Lib.decDigits n.natAbs) p).length→(padS (Lib.decDigits n.natAbs) p)[0]?≠some 48:=by
  intro h
  rw [hul] at h
  have e:padS (Lib.decDigits n.natAbs) p=Lib.decDigits n.natAbs:=by
   rw [padS,hdl,show p+1 - Lib.nDigits n.natAbs=0 by omega];rfl
  rw [e]
  by_cases h0:n.natAbs=0
  ·rw [h0,Lib.nDigits_small (by decide)] at h;omega
  ·obtain ⟨c,r,hc,hne⟩:=Zhl h0
   rw [hc]
   simp only [List.getElem?_cons_zero,ne_eq,Option.some.injEq]
   rintro rfl;exact hne rfl
 unfold decT
 generalize padS (Lib.decDigits n.natAbs) p=u at hu hn hul hhead ⊢
 obtain ⟨ht,hle⟩:=Zgs (l:=u.drop (u.length - p)) (c:=48)
 unfold decU
 obtain ⟨r,hr⟩:∃ r,r=Lib.trimRightB (u.drop (u.length - p)) 48:=⟨_,rfl⟩
 obtain ⟨a,ha⟩:∃ a,a=u.take (u.length - p):=⟨_,rfl⟩
 rw [← hr] at ht hle ⊢
 rw [← ha]
 have hel:(u.drop (u.length - p)).length=p:=by rw [List.length_drop];omega
 have hal:a.length=u.length - p:=by rw [ha,List.length_take];omega
 rw [hel] at ht hle
 have hU:u=a++r++List.replicate (p - r.length) 48:=by
  rw [List.append_assoc,← ht,ha,List.take_append_drop]
 have hv:n.natAbs=numOf (a++r) * 10 ^ (p - r.length):=by
  rw [← hn,hU,Zbf,Zqc,List.length_replicate,Nat.add_zero]
 have hdw:∀ c∈a++r,isDig c=true:=fun c hc=>hu c (by rw [hU];exact List.mem_append_left _ hc)
 have hback:padS (Lib.decDigits (numOf (a++r))) r.length=a++r:=by
  refine Zob hdw (by rw [List.length_append];omega) ?_
  intro h
  rw [List.length_append] at h
  have h1:=hhead (by omega)
  rw [hU,List.getElem?_append_left (by rw [List.length_append];omega)] at h1
  exact h1
 have hT0:0 < 10 ^ (p - r.length):=Nat.pow_pos (by decide)
 have hle2:numOf (a++r)≤n.natAbs:=by rw [hv];exact Nat.le_mul_of_pos_right _ hT0
 have hsg:n < 0→0 < numOf (a++r):=by
  intro h
  rcases Nat.eq_zero_or_pos (numOf (a++r)) with h0|h0
  ·rw [h0,Nat.zero_mul] at hv;omega
  ·exact h0
 refine ⟨if n < 0 then -(numOf (a++r):Int) else (numOf (a++r):Int),r.length,hle,by split<;>omega,?_,?_⟩
 ·unfold fixT
  have e1:(if n < 0 then -(numOf (a++r):Int) else (numOf (a++r):Int)).natAbs=numOf (a++r):=by split<;>omega
  have e2:((if n < 0 then -(numOf (a++r):Int) else (numOf (a++r):Int)) < 0)=(n < 0):=by
   by_cases h:n < 0
   ·rw [if_pos h];have:=hsg h;exact propext ⟨fun _=>h,fun _=>by omega⟩
   ·rw [if_neg h];exact propext ⟨fun k=>by omega,fun k=>absurd k h⟩
  rw [e1]
  simp only [e2]
  congr 1
  by_cases h0:r=[]
  ·rw [if_pos h0,h0,if_neg (by simp)]
   rw [h0] at hback
   have e3:padS (Lib.decDigits (numOf (a++[]))) ([]:List UInt8).length=Lib.decDigits (numOf (a++[])):=by
    have:=Zba (numOf (a++[]))
    rw [padS,Zaw,show ([]:List UInt8).length+1 - Lib.nDigits (numOf (a++[]))=0 by simp only [List.length_nil];omega];rfl
   rw [← e3,hback,List.append_nil]
  ·rw [if_neg h0,if_pos (List.length_pos_iff.2 h0),hback,dotS]
   rw [show (a++r).length - r.length=a.length by rw [List.length_append];omega,List.take_left,List.drop_left]
 ·have h1:n=(if n < 0 then -(numOf (a++r):Int) else (numOf (a++r):Int)) * (10:Int) ^ (p - r.length):=by
   have:((10:Int) ^ (p - r.length))=((10 ^ (p - r.length):Nat):Int):=by simp
   rw [this]
   split
   ·rw [Int.neg_mul,← Int.natCast_mul,← hv];omega
   ·rw [← Int.natCast_mul,← hv];omega
  conv=>lhs;rw [h1]
  have h2:=Zqg (if n < 0 then -(numOf (a++r):Int) else (numOf (a++r):Int)) r.length (p - r.length)
  rw [show r.length+(p - r.length)=p by omega] at h2
  exact h2
theorem Zw4 {n:Int} {p:Nat} (hp:p≤20) (hn:n.natAbs < 10 ^ 20):parseQ (decT n p)=.inl (mkRat n (10 ^ p)):=by
 obtain ⟨z,k,h1,h2,h3,h4⟩:=Zw5 (n:=n) (p:=p)
 have:Lib.nDigits z.natAbs≤20:=Zbg (by decide) (by omega)
 rw [h3,h4,Zvw (by omega) (by omega)]
theorem Zhj {n lo hi:Int} {p:Nat} (hp:p≤20) (hn:n.natAbs < 10 ^ 20) (h1:lo≤n) (h2:n≤hi):valueP (decT n p) p lo hi=some n:=by
 unfold valueP
 rw [Zw4 hp hn]
 simp only [Zzt]
 rw [if_pos ⟨trivial,h1,h2⟩]
end Go.Proofs.YtciadfpomkdlnaaGreatDoor.Q
namespace Go.Proofs.YtciadfpomkdlnaaGreatDoor.Q
open Go Go.Sx
/-! ### the steps, without the numbers of lines -/
def foldO:StP→List (List (List UInt8))→Option StP
 | s,[]=>some s
 | s,ws::r=>match stepP 0 s ws with
  | .inl _=>none
  | .inr t=>foldO t r
theorem Z5p {n:Nat} {s t:StP} {ws:List (List UInt8)}:stepP n s ws=.inr t↔stepP 0 s ws=.inr t:=by
 unfold stepP
 split
 ·constructor<;>intro h<;>cases h
 ·split
  ·split
   ·exact Iff.rfl
   ·constructor<;>intro h<;>cases h
  ·split
   ·exact Iff.rfl
   ·split
    ·exact Iff.rfl
    ·constructor<;>intro h<;>cases h
theorem Zi1:∀ {ls:List (List UInt8)} {n:Nat} {s t:StP},runP n s ls=.inr t↔foldO s (ls.filterMap sayP)=some t
 | [],n,s,t=>by simp [runP,foldO]
 | l :: r,n,s,t=>by
  rw [runP,List.filterMap_cons]
  cases h:sayP l with
  | none=>exact Zi1
  | some ws =>
   simp only
   rw [foldO]
   cases h1:stepP n s ws with
   | inl e =>
    cases h2:stepP 0 s ws with
    | inl e'=>simp
    | inr u=>rw [Z5p.2 h2] at h1;cases h1
   | inr u=>rw [Z5p.1 h1];exact Zi1
theorem Ze5:∀ {a b:List (List UInt8)} {n:Nat} {s t:StP},runP n s a=.inr t→runP n s (a++b)=runP (n+a.length) t b
 | [],b,n,s,t,h=>by cases h;rfl
 | l :: r,b,n,s,t,h=>by
  rw [runP] at h
  rw [List.cons_append,runP,List.length_cons]
  cases hs:sayP l with
  | none =>
   rw [hs] at h
   simp only at h ⊢
   rw [Ze5 h];congr 1;omega
  | some ws =>
   rw [hs] at h
   simp only at h ⊢
   cases h1:stepP n s ws with
   | inl e=>rw [h1] at h;cases h
   | inr u =>
    rw [h1] at h
    simp only at h ⊢
    rw [Ze5 h];congr 1;omega
theorem Zy5 {n e:Nat} {s:StP} {ws:List (List UInt8)} (h:stepP n s ws=.inl e):e=0∨e=n:=by
 unfold stepP at h
 split at h
 ·cases h;exact .inr rfl
 ·split at h
  ·split at h<;>cases h
   exact .inr rfl
  ·split at h
   ·split at h<;>cases h
    exact .inl rfl
   ·split at h<;>cases h
    exact .inr rfl
theorem Zpw:∀ {ls:List (List UInt8)} {n e:Nat} {s:StP},runP n s ls=.inl e→e≤n+ls.length - 1
 | [],_,_,_,h=>by cases h
 | l :: r,n,e,s,h=>by
  rw [runP] at h
  rw [List.length_cons]
  cases hs:sayP l with
  | none =>
   rw [hs] at h
   have:=Zpw h
   omega
  | some ws =>
   rw [hs] at h
   simp only at h
   cases h1:stepP n s ws with
   | inl e' =>
    rw [h1] at h
    cases h
    rcases Zy5 h1 with rfl|rfl<;>omega
   | inr u =>
    rw [h1] at h
    have:=Zpw h
    omega

/-! ### valid lists -/
theorem Z33 {p:PP}:soundP p=true↔namedP p.1=true∧(1≤p.2.1.length∧p.2.1.length≤4)∧(∀ v∈p.2.1,0≤v∧v≤10000)∧(0≤p.2.2.1∧p.2.2.1≤10000∧-12800≤p.2.2.2.1∧p.2.2.2.1≤12700∧-12800≤p.2.2.2.2∧p.2.2.2.2≤12700):=by
 unfold soundP
 simp only [Bool.and_eq_true,decide_eq_true_eq,List.all_eq_true]
 constructor
 ·rintro ⟨h1,h2,h3,h4,h5⟩;exact ⟨h1,⟨h2,h3⟩,h4,h5⟩
 ·rintro ⟨h1,⟨h2,h3⟩,h4,h5⟩;exact ⟨h1,h2,h3,h4,h5⟩
structure Vld (n:Nat) (l:List PP):Prop where
 sound:∀ p∈l,soundP p=true∧p.2.1.length=n
 nodup:(l.map (·.1)).Nodup
theorem Zkc {n:Nat}:∀ {l:List PP} {seen:List (List UInt8)},checkGo n seen l=true↔Vld n l∧∀ p∈l,p.1 ∉ seen
 | [],seen=>by
  simp only [checkGo,true_iff]
  exact ⟨⟨fun p h=>(by cases h),List.nodup_nil⟩,fun p h=>(by cases h)⟩
 | p :: r,seen=>by
  rw [checkGo,Bool.and_eq_true,Bool.and_eq_true,Bool.and_eq_true,Zkc,decide_eq_true_eq]
  constructor
  ·rintro ⟨h1,h2,h3,⟨h4,h5⟩,h6⟩
   have h3':p.1 ∉ seen:=by simpa using h3
   refine ⟨⟨fun q hq=>?_,?_⟩,fun q hq=>?_⟩
   ·rcases List.mem_cons.1 hq with rfl|hq
    ·exact ⟨h1,h2⟩
    ·exact h4 q hq
   ·rw [List.map_cons,List.nodup_cons]
    refine ⟨fun hm=>?_,h5⟩
    obtain ⟨q,hq,e⟩:=List.mem_map.1 hm
    exact h6 q hq (by rw [e];exact List.mem_cons_self ..)
   ·rcases List.mem_cons.1 hq with rfl|hq
    ·exact h3'
    ·exact fun hm=>h6 q hq (List.mem_cons_of_mem _ hm)
  ·rintro ⟨⟨h1,h2⟩,h3⟩
   rw [List.map_cons,List.nodup_cons] at h2
   refine ⟨(h1 p (List.mem_cons_self ..)).1,(h1 p (List.mem_cons_self ..)).2,?_,⟨fun q hq=>h1 q (List.mem_cons_of_mem _ hq),h2.2⟩,fun q hq hm=>?_⟩
   ·have:=h3 p (List.mem_cons_self ..)
    simpa using this
   ·rcases List.mem_cons.1 hm with e|hm
    ·exact h2.1 (List.mem_map.2 ⟨q,hq,e⟩)
    ·exact h3 q (List.mem_cons_of_mem _ hq) hm
theorem Zxb {l:List PP}:checkP l=true↔l≠[]∧l.length≤40∧Vld (l.headD ([],[],0,0,0)).2.1.length l:=by
 cases l with
 | nil=>simp [checkP]
 | cons p r =>
  rw [checkP,Bool.and_eq_true,Zkc,decide_eq_true_eq]
  constructor
  ·rintro ⟨h1,h2,_⟩;exact ⟨by simp,h1,h2⟩
  ·rintro ⟨_,h1,h2⟩;exact ⟨h1,h2,fun q _ h=>(by cases h)⟩
theorem Vld.app {n:Nat} {l:List PP} {p:PP} (h:Vld n l) (h1:soundP p=true) (h2:p.2.1.length=n) (h3:p.1 ∉ l.map (·.1)):Vld n (l++[p]):=by
 refine ⟨fun q hq=>?_,?_⟩
 ·rcases List.mem_append.1 hq with hq|hq
  ·exact h.sound q hq
  ·rw [List.mem_singleton.1 hq];exact ⟨h1,h2⟩
 ·rw [List.map_append,List.nodup_append]
  refine ⟨h.nodup,by simp,fun a ha b hb e=>?_⟩
  simp only [List.map_cons,List.map_nil,List.mem_singleton] at hb
  subst hb e
  exact h3 ha
theorem Vld.pre {n:Nat} {l:List PP} (h:Vld n l) (k:Nat):Vld n (l.take k):=by
 refine ⟨fun q hq=>h.sound q (List.mem_of_mem_take hq),?_⟩
 rw [List.map_take]
 exact h.nodup.sublist (List.take_sublist ..)

/-! ### characters of the words -/
theorem Zg5 {c:UInt8} (h:nameC c=true):isBl c=false∧c≠10∧c≠35:=by
 refine ⟨?_,?_,?_⟩
 ·cases hb:isBl c with
  | false=>rfl
  | true =>
   simp only [isBl,Bool.or_eq_true,beq_iff_eq] at hb
   rcases hb with rfl|rfl<;>exact absurd h (by decide)
 ·rintro rfl;exact absurd h (by decide)
 ·rintro rfl;exact absurd h (by decide)
theorem Zjb {c:UInt8} (h:isDig c=true):isBl c=false∧c≠10:=by
 refine ⟨?_,?_⟩
 ·cases hb:isBl c with
  | false=>rfl
  | true =>
   simp only [isBl,Bool.or_eq_true,beq_iff_eq] at hb
   rcases hb with rfl|rfl<;>exact absurd h (by decide)
 ·rintro rfl;exact absurd h (by decide)
theorem Z4l {s:List UInt8}:namedP s=true↔(1≤s.length∧s.length≤12)∧∀ c∈s,nameC c=true:=by
 unfold namedP
 simp only [Bool.and_eq_true,decide_eq_true_eq,List.all_eq_true]
 exact ⟨fun ⟨a,b,c⟩=>⟨⟨a,b⟩,c⟩,fun ⟨⟨a,b⟩,c⟩=>⟨a,b,c⟩⟩
theorem Zov {n:Int} {p:Nat}:decT n p≠[]∧∀ c∈decT n p,isBl c=false∧c≠10:=by
 obtain ⟨z,k,_,_,h,_⟩:=Zw5 (n:=n) (p:=p)
 rw [h]
 have hd:=Zep z.natAbs
 have hu:=Zg3 (p:=k) hd
 have hpos:=Zba z.natAbs
 have hl:=Zaw z.natAbs
 unfold fixT
 refine ⟨?_,?_⟩
 ·intro h
  have h0:=(List.append_eq_nil_iff.1 h).2
  split at h0
  ·have h1:=congrArg List.length h0
   simp only [dotS,List.length_append,List.length_cons,List.length_nil] at h1;omega
  ·have h1:=congrArg List.length h0
   simp only [List.length_nil] at h1;omega
 ·intro c hc
  rcases List.mem_append.1 hc with hc|hc
  ·split at hc
   ·rw [List.mem_singleton.1 hc];decide
   ·cases hc
  ·split at hc
   ·rw [dotS] at hc
    rcases List.mem_append.1 hc with hc|hc
    ·rcases List.mem_append.1 hc with hc|hc
     ·exact Zjb (hu c (List.mem_of_mem_take hc))
     ·rw [List.mem_singleton.1 hc];decide
    ·exact Zjb (hu c (List.mem_of_mem_drop hc))
   ·exact Zjb (hd c hc)
theorem Zfk {p:PP} (h:namedP p.1=true):∀ w∈wordsT p,w≠[]∧∀ c∈w,isBl c=false∧c≠10:=by
 intro w hw
 unfold wordsT at hw
 rcases List.mem_cons.1 hw with rfl|hw
 ·obtain ⟨⟨h1,_⟩,h2⟩:=Z4l.1 h
  exact ⟨fun e=>by rw [e] at h1;simp at h1,fun c hc=>⟨(Zg5 (h2 c hc)).1,(Zg5 (h2 c hc)).2.1⟩⟩
 ·rcases List.mem_append.1 hw with hw|hw
  ·obtain ⟨v,_,rfl⟩:=List.mem_map.1 hw
   exact Zov
  ·simp only [List.mem_cons,List.not_mem_nil,or_false] at hw
   rcases hw with rfl|rfl|rfl<;>exact Zov
theorem Zr7 {c:UInt8}:∀ {ws:List (List UInt8)},c∈joinW ws→c=32∨∃ w∈ws,c∈w
 | [],h=>by cases h
 | w :: r,h=>by
  rw [joinW] at h
  rcases List.mem_append.1 h with h|h
  ·exact .inr ⟨w,List.mem_cons_self ..,h⟩
  ·obtain ⟨v,hv,hc⟩:=List.mem_flatMap.1 h
   rcases List.mem_cons.1 hc with rfl|hc
   ·exact .inl rfl
   ·exact .inr ⟨v,List.mem_cons_of_mem _ hv,hc⟩
theorem Zmm {p:PP} (h:namedP p.1=true):∀ c∈joinW (wordsT p),c≠10:=by
 intro c hc
 rcases Zr7 hc with rfl|⟨w,hw,hc⟩
 ·decide
 ·exact ((Zfk h w hw).2 c hc).2
theorem Zvh {p:PP} (h:namedP p.1=true):sayP (joinW (wordsT p))=some (wordsT p):=by
 unfold sayP
 rw [Zhq fun w hw=>⟨(Zfk h w hw).1,fun c hc=>((Zfk h w hw).2 c hc).1⟩]
 have e:wordsT p=p.1::(p.2.1.map (decT · 4)++[decT p.2.2.1 2,decT p.2.2.2.1 2,decT p.2.2.2.2 2]):=rfl
 rw [e]
 simp only
 rw [if_neg]
 intro hh
 obtain ⟨⟨h1,_⟩,h2⟩:=Z4l.1 h
 cases hp:p.1 with
 | nil=>rw [hp] at h1;simp at h1
 | cons c r =>
  rw [hp] at hh h2
  simp only [List.head?_cons,Option.some.injEq] at hh
  exact (Zg5 (h2 c (List.mem_cons_self ..))).2.2 hh
/-! ### reading rows -/
theorem Zos:∀ {d:List Int},(∀ v∈d,0≤v∧v≤10000)→devsP (d.map (decT · 4))=some d
 | [],_=>rfl
 | v::r,h=>by
  have h1:=h v (List.mem_cons_self ..)
  rw [List.map_cons,devsP,Zhj (by decide) (Nat.lt_of_lt_of_le (show v.natAbs < 10001 by omega) (by decide)) h1.1 h1.2,Zos fun x hx=>h x (List.mem_cons_of_mem _ hx)]
theorem Ztk {ch:Nat} {ps:List PP} {p:PP} (hs:soundP p=true) (hc:p.2.1.length=ch) (hl:ps.length < 40) (hn:p.1 ∉ ps.map (·.1)):patchP ch ps (wordsT p)=some p:=by
 obtain ⟨h1,h2,h3,h4⟩:=Z33.1 hs
 obtain ⟨nm,d,l,a,b⟩:=p
 simp only at hc h1 h2 h3 h4 hn
 have hw:wordsT (nm,d,l,a,b)=nm::(d.map (decT · 4)++[decT l 2,decT a 2,decT b 2]):=rfl
 unfold patchP
 have hdl:(d.map (decT · 4)).length=ch:=by rw [List.length_map,hc]
 have g0:((nm::(d.map (decT · 4)++[decT l 2,decT a 2,decT b 2])).drop 1).take ch=d.map (decT · 4):=by
  rw [List.drop_one,List.tail_cons,← hdl,List.take_left]
 have gi:∀ i w,[decT l 2,decT a 2,decT b 2][i]?=some w→(nm::(d.map (decT · 4)++[decT l 2,decT a 2,decT b 2])).getD (1+ch+i) []=w:=by
  intro i w hi
  rw [List.getD_eq_getElem?_getD,show 1+ch+i=(ch+i)+1 by omega,List.getElem?_cons_succ,List.getElem?_append_right (by omega),hdl,show ch+i - ch=i by omega,hi];rfl
 have b1:∀ {v:Int},-12800≤v∧v≤12700→v.natAbs < 10 ^ 20:=fun h=>Nat.lt_of_lt_of_le (show _ < 12801 by omega) (by decide)
 have b2:l.natAbs < 10 ^ 20:=Nat.lt_of_lt_of_le (show l.natAbs < 10001 by omega) (by decide)
 rw [hw,if_pos ⟨by simp only [List.length_cons,List.length_append,List.length_map,List.length_nil];omega,hl,h1,hn⟩,g0,gi 1 _ rfl,gi 2 _ rfl,show (1+ch)=1+ch+0 by omega,gi 0 _ rfl,Zos h3,
  Zhj (by decide) b2 h4.1 h4.2.1,Zhj (by decide) (b1 ⟨h4.2.2.1,h4.2.2.2.1⟩) h4.2.2.1 h4.2.2.2.1,Zhj (by decide) (b1 ⟨h4.2.2.2.2.1,h4.2.2.2.2.2⟩) h4.2.2.2.2.1 h4.2.2.2.2.2]
 rfl
theorem Zy4 {n ch:Nat} {ps:List PP} {p:PP} (h0:1≤ch) (hs:soundP p=true) (hc:p.2.1.length=ch) (hl:ps.length < 40) (hn:p.1 ∉ ps.map (·.1)):stepP n (ch,ps,false) (wordsT p)=.inr (ch,ps++[p],false):=by
 unfold stepP
 rw [if_neg (by intro h;cases h),if_neg (by simp only;omega),if_neg,Ztk hs hc hl hn]
 intro h
 have:=congrArg List.length h
 simp only [wordsT,List.length_cons,List.length_append,List.length_map,List.length_nil] at this
 omega
theorem Zhy:∀ {l:List PP} {s:List UInt8},(∀ p∈l,namedP p.1=true)→linesL (l.flatMap rowT++s)=l.map (fun p=>joinW (wordsT p))++linesL s
 | [],_,_=>rfl
 | p::r,s,h=>by
  rw [List.flatMap_cons,rowT,List.append_assoc,List.append_assoc,List.singleton_append,Zc0 (Zmm (h p (List.mem_cons_self ..))),Zhy fun q hq=>h q (List.mem_cons_of_mem _ hq),List.map_cons,List.cons_append]
theorem Zi0 {ch:Nat} (h0:1≤ch):∀ {l:List PP} {n:Nat} {ps:List PP},Vld ch (ps++l)→(ps++l).length≤40→runP n (ch,ps,false) (l.map (fun p=>joinW (wordsT p)))=.inr (ch,ps++l,false)
 | [],_,ps,_,_=>by rw [List.append_nil];rfl
 | p::r,n,ps,h,hl=>by
  have hp:=h.sound p (List.mem_append_right _ (List.mem_cons_self ..))
  have hnd:=h.nodup
  rw [List.map_append,List.map_cons,List.nodup_append] at hnd
  rw [List.length_append,List.length_cons] at hl
  rw [List.map_cons,runP,Zvh (Z33.1 hp.1).1]
  simp only
  rw [Zy4 h0 hp.1 hp.2 (by omega) (fun hm=>hnd.2.2 _ hm _ (List.mem_cons_self ..) rfl)]
  simp only
  have e:ps++[p]++r=ps++p::r:=by rw [List.append_assoc];rfl
  rw [Zi0 h0 (ps:=ps++[p]) (by rw [e];exact h) (by rw [e,List.length_append,List.length_cons];omega),e]
theorem Zj5 {n:Nat}:∀ c∈wPatches++32::Lib.decDigits n,c≠10:=by
 intro c hc
 rcases List.mem_append.1 hc with hc|hc
 ·exact (show ∀ c∈wPatches,c≠10 by decide) c hc
 ·rcases List.mem_cons.1 hc with rfl|hc
  ·decide
  ·exact (Zjb (Zep n c hc)).2
theorem Zm3 {n k:Nat} (h1:1≤n) (h2:n≤4):runP k (0,[],false) [wPatches++32::Lib.decDigits n]=.inr (n,[],false):=by
 have:n=1∨n=2∨n=3∨n=4:=by omega
 have key:∀ (l:List UInt8) (ws:List (List UInt8)) (m:Nat),sayP l=some ws→stepP 0 (0,[],false) ws=.inr (m,[],false)→runP k (0,[],false) [l]=.inr (m,[],false):=by
  intro l ws m h1 h2
  rw [runP,h1]
  simp only
  rw [Z5p.2 h2]
  rfl
 rcases this with rfl|rfl|rfl|rfl
 ·exact key _ [wPatches,[49]] 1 (by decide +kernel) (by rfl)
 ·exact key _ [wPatches,[50]] 2 (by decide +kernel) (by rfl)
 ·exact key _ [wPatches,[51]] 3 (by decide +kernel) (by rfl)
 ·exact key _ [wPatches,[52]] 4 (by decide +kernel) (by rfl)
theorem Zcu {l:List PP} (h:checkP l=true):linesL (textT l)=(wPatches++32::Lib.decDigits (l.headD ([],[],0,0,0)).2.1.length)::(l.map (fun p=>joinW (wordsT p))++[wEnd,[]]):=by
 obtain ⟨_,_,h3⟩:=Zxb.1 h
 unfold textT headT
 rw [show wPatches++32::(Lib.decDigits (l.headD ([],[],0,0,0)).2.1.length++[10])++(l.flatMap rowT++(wEnd++[10]))=(wPatches++32::Lib.decDigits (l.headD ([],[],0,0,0)).2.1.length)++10::(l.flatMap rowT++(wEnd++[10])) by simp,Zc0 Zj5,Zhy fun p hp=>(Z33.1 (h3.sound p hp).1).1]
 rfl
theorem Zrj {l:List PP} (h:checkP l=true):runP 1 (0,[],false) (linesL (textT l))=.inr ((l.headD ([],[],0,0,0)).2.1.length,l,true):=by
 obtain ⟨h1,h2,h3⟩:=Zxb.1 h
 have hch:1≤(l.headD ([],[],0,0,0)).2.1.length∧(l.headD ([],[],0,0,0)).2.1.length≤4:=by
  cases l with
  | nil=>exact absurd rfl h1
  | cons p r=>exact (Z33.1 (h3.sound p (List.mem_cons_self ..)).1).2.1
 rw [Zcu h]
 rw [show ∀ (a:List UInt8) (b:List (List UInt8)),a::b=[a]++b from fun _ _=>rfl,Ze5 (Zm3 hch.1 hch.2),Ze5 (Zi0 hch.1 (by rw [List.nil_append];exact h3) (by rw [List.nil_append];exact h2))]
 rw [runP,show sayP wEnd=some [wEnd] by decide +kernel]
 simp only
 rw [show ∀ n,stepP n ((l.headD ([],[],0,0,0)).2.1.length,[]++l,false) [wEnd]=.inr ((l.headD ([],[],0,0,0)).2.1.length,l,true) from fun n=>by
  unfold stepP
  rw [if_neg (by intro h;cases h),if_neg (by simp only;omega),if_pos rfl,if_neg (by simpa using h1)]
  rfl]
 rfl
/-! ### what is read is valid -/
theorem Zgp {w:List UInt8} {p:Nat} {lo hi n:Int} (h:valueP w p lo hi=some n):lo≤n∧n≤hi:=by
 unfold valueP at h
 split at h
 ·split at h
  ·rename_i h1;cases h;exact ⟨h1.2.1,h1.2.2⟩
  ·cases h
 ·cases h
theorem Zor:∀ {ws:List (List UInt8)} {d:List Int},devsP ws=some d→d.length=ws.length∧∀ v∈d,0≤v∧v≤10000
 | [],d,h=>by cases h;exact ⟨rfl,fun v hv=>(by cases hv)⟩
 | w :: r,d,h=>by
  rw [devsP] at h
  cases h1:valueP w 4 0 10000 with
  | none=>rw [h1] at h;cases h
  | some x =>
   cases h2:devsP r with
   | none=>rw [h1,h2] at h;cases h
   | some xs =>
    rw [h1,h2] at h
    cases h
    obtain ⟨h3,h4⟩:=Zor h2
    refine ⟨by rw [List.length_cons,List.length_cons,h3],fun v hv=>?_⟩
    rcases List.mem_cons.1 hv with rfl|hv
    ·exact Zgp h1
    ·exact h4 v hv
theorem Ztj {ch:Nat} {ps:List PP} {ws:List (List UInt8)} {p:PP} (hch:1≤ch∧ch≤4) (h:patchP ch ps ws=some p):soundP p=true∧p.2.1.length=ch∧ps.length < 40∧p.1 ∉ ps.map (·.1):=by
 unfold patchP at h
 split at h
 ·rename_i hc
  obtain ⟨c1,c2,c3,c4⟩:=hc
  cases h1:devsP ((ws.drop 1).take ch) with
  | none=>rw [h1] at h;cases h
  | some d =>
   cases h2:valueP (ws.getD (1+ch) []) 2 0 10000 with
   | none=>rw [h1,h2] at h;cases h
   | some l =>
    cases h3:valueP (ws.getD (1+ch+1) []) 2 (-12800) 12700 with
    | none=>rw [h1,h2,h3] at h;cases h
    | some a =>
     cases h4:valueP (ws.getD (1+ch+2) []) 2 (-12800) 12700 with
     | none=>rw [h1,h2,h3,h4] at h;cases h
     | some b =>
      rw [h1,h2,h3,h4] at h
      cases h
      obtain ⟨e1,e2⟩:=Zor h1
      rw [List.length_take,List.length_drop] at e1
      have r2:=Zgp h2
      have r3:=Zgp h3
      have r4:=Zgp h4
      refine ⟨Z33.2 ⟨c3,⟨by simp only;omega,by simp only;omega⟩,e2,by simp only;omega⟩,by simp only;omega,c2,c4⟩
 ·cases h
structure Std (s:StP):Prop where
 ch:s.1≤4
 none:s.1=0→s.2.1=[]
 vld:Vld s.1 s.2.1
 len:s.2.1.length≤40
 fin:s.2.2=true→s.2.1≠[]
theorem std0:Std (0,[],false):=⟨by decide,fun _=>rfl,⟨fun p h=>(by cases h),List.nodup_nil⟩,by decide,fun h=>(by cases h)⟩
theorem Zwm {ws:List (List UInt8)} {k:Nat} (h:headP ws=some k):1≤k∧k≤4:=by
 unfold headP at h
 split at h
 ·split at h
  ·rename_i h1;cases h;omega
  ·cases h
 ·cases h
theorem Std.step {n:Nat} {s t:StP} {ws:List (List UInt8)} (h:Std s) (h1:stepP n s ws=.inr t):Std t:=by
 obtain ⟨ch,ps,e⟩:=s
 unfold stepP at h1
 simp only at h1
 split at h1
 ·cases h1
 ·rename_i he
  split at h1
  ·rename_i h0
   split at h1
   ·rename_i k hk
    cases h1
    have:=Zwm hk
    have h2:=h.none h0
    simp only at h2
    subst h2
    exact ⟨this.2,fun _=>rfl,⟨fun p h=>(by cases h),List.nodup_nil⟩,by simp,fun h=>(by cases h)⟩
   ·cases h1
  ·rename_i h0
   split at h1
   ·split at h1
    ·cases h1
    ·rename_i hp
     cases h1
     exact ⟨h.ch,h.none,h.vld,h.len,fun _=>hp⟩
   ·split at h1
    ·rename_i p hp
     cases h1
     have hch:=h.ch
     simp only at hch
     obtain ⟨p1,p2,p3,p4⟩:=Ztj (by omega) hp
     exact ⟨h.ch,fun h'=>absurd h' h0,h.vld.app p1 p2 p4,by simp only [List.length_append,List.length_singleton];omega,fun h'=>(by cases h')⟩
    ·cases h1
theorem Std.run:∀ {ls:List (List UInt8)} {n:Nat} {s t:StP},Std s→runP n s ls=.inr t→Std t
 | [],_,s,t,h,h1=>by cases h1;exact h
 | l :: r,n,s,t,h,h1=>by
  rw [runP] at h1
  cases hs:sayP l with
  | none=>rw [hs] at h1;exact Std.run h h1
  | some ws =>
   rw [hs] at h1
   simp only at h1
   cases h2:stepP n s ws with
   | inl e=>rw [h2] at h1;cases h1
   | inr u=>rw [h2] at h1;exact Std.run (h.step h2) h1
theorem Std.check {s:StP} (h:Std s) (h1:s.2.2=true):checkP s.2.1=true:=by
 obtain ⟨ch,ps,e⟩:=s
 have h2:=h.fin h1
 simp only at h2
 refine Zxb.2 ⟨h2,h.len,?_⟩
 cases ps with
 | nil=>exact absurd rfl h2
 | cons p r =>
  have:=(h.vld.sound p (List.mem_cons_self ..)).2
  simp only [List.headD_cons] at this ⊢
  rw [this];exact h.vld
theorem Zgj {s:List UInt8} {l:List PP} {k:Nat} (h:parseT s=(l,k,0)):k=0∧checkP l=true:=by
 unfold parseT at h
 split at h
 ·cases h
 ·split at h
  ·cases h
  ·rename_i t ht
   split at h
   ·rename_i h1
    cases h
    exact ⟨rfl,(std0.run ht).check h1⟩
   ·cases h
theorem Zhw {s:List UInt8} {l:List PP} {k:Nat} {e:Int} (h:parseT s=(l,k,e)) (he:e≠0):l=[]∧k≤(linesL s).length:=by
 unfold parseT at h
 split at h
 ·cases h;exact ⟨rfl,Nat.zero_le _⟩
 ·split at h
  ·rename_i e' h1
   cases h
   have:=Zpw h1
   exact ⟨rfl,by omega⟩
  ·split at h
   ·cases h;exact absurd rfl he
   ·cases h;exact ⟨rfl,Nat.zero_le _⟩
theorem Zgc {l:List PP} (h:checkP l=true) (hl:(textT l).length≤8000):parseT (textT l)=(l,0,0):=by
 unfold parseT
 rw [if_neg (by omega),Zrj h]
 rfl
end Go.Proofs.YtciadfpomkdlnaaGreatDoor.Q
