/- Plain: the lines of a text, changed without changing what they say. -/
import Derived.Test.YtciadfpomkdlnaaGreatDoorPl1
import Derived.Test.YtciadfpomkdlnaaGreatDoorPw8
import Derived.Lib.Replace
import Derived.Lib.Join
set_option maxHeartbeats 1000000
namespace Go.Proofs.YtciadfpomkdlnaaGreatDoor.Q
open Go Go.Sx
def addNl:List (List UInt8)→List (List UInt8)
 | []=>[]
 | [x]=>[x]
 | x::y::r=>(x++[10])::addNl (y::r)
theorem Zca {x:List UInt8} {r:List (List UInt8)} (h:r≠[]):addNl (x::r)=(x++[10])::addNl r:=by
 cases r with
 | nil=>exact absurd rfl h
 | cons y r=>rfl
theorem Zds:∀ (l:List (List UInt8)),(addNl l).length=l.length
 | []=>rfl
 | [_]=>rfl
 | x::y::r=>by rw [Zca (by simp),List.length_cons,Zds (y::r)];rfl
theorem Zl1:∀ {l:List (List UInt8)} {k:Nat},k < l.length→(addNl l).take k=(l.take k).map (·++[10])
 | [],k,h=>by cases h
 | [x],k,h=>by
  have:k=0:=by simp only [List.length_cons,List.length_nil] at h;omega
  subst this;rfl
 | x :: y::r,k,h=>by
  cases k with
  | zero=>rfl
  | succ k =>
   rw [Zca (by simp),List.take_succ_cons,List.take_succ_cons,List.map_cons,Zl1 (by simp only [List.length_cons] at h ⊢;omega)]
theorem Zwc {v s:List UInt8}:linesL (v++10::s)=linesL v++linesL s:=by
 induction v with
 | nil=>show stepL 10 (linesL s)=[[]]++linesL s;rw [Zch];rfl
 | cons c v ih =>
  show stepL c (linesL (v++10::s))=stepL c (linesL v)++linesL s
  rw [ih]
  by_cases h:c=10
  ·subst h;rw [Zch,Zch];rfl
  ·cases hv:linesL v with
   | nil=>exact absurd hv Zci
   | cons x t=>rw [List.cons_append,Zb2 h,Zb2 h];rfl
theorem Zlt:∀ {ys:List (List UInt8)},ys≠[]→linesL (addNl ys).flatten=ys.flatMap linesL
 | [],h=>absurd rfl h
 | [x],_=>by simp [addNl]
 | x::y::r,_=>by
  have h1:=Zlt (ys:=y::r) (by simp)
  rw [Zca (by simp),List.flatten_cons,List.append_assoc,List.singleton_append,Zwc,h1]
  rfl
def saysP (v:List UInt8):List (List (List UInt8)):=(linesL v).filterMap sayP
theorem Zjq {ys:List (List UInt8)} (h:ys≠[]):saysP (addNl ys).flatten=ys.flatMap saysP:=by
 unfold saysP
 rw [Zlt h]
 clear h
 induction ys with
 | nil=>rfl
 | cons y r ih=>rw [List.flatMap_cons,List.flatMap_cons,List.filterMap_append,ih]
def wideL (v:List UInt8):List UInt8:=v.flatMap fun c=>if c=32 then [32,9] else [c]
theorem Zs7 {v:List UInt8}:wordsL (wideL v)=wordsL v:=by
 have key:∀ v:List UInt8,(wideL v).foldr stepW ([],[])=v.foldr stepW ([],[]):=by
  intro v
  induction v with
  | nil=>rfl
  | cons c v ih =>
   unfold wideL at ih ⊢
   rw [List.flatMap_cons,List.foldr_append,ih,List.foldr_cons]
   by_cases h:c=32
   ·subst h
    rw [if_pos rfl]
    rfl
   ·rw [if_neg h];rfl
 unfold wordsL
 rw [key]
theorem Zs8 {v:List UInt8}:linesL (wideL v)=(linesL v).map wideL:=by
 induction v with
 | nil=>rfl
 | cons c v ih =>
  have e:wideL (c::v)=(if c=32 then [32,9] else [c])++wideL v:=by unfold wideL;rw [List.flatMap_cons]
  have e2:linesL (c::v)=stepL c (linesL v):=rfl
  rw [e,e2]
  by_cases h:c=32
  ·subst h
   rw [if_pos rfl]
   have e3:linesL ([32,9]++wideL v)=stepL 32 (stepL 9 (linesL (wideL v))):=rfl
   rw [e3,ih]
   cases hv:linesL v with
   | nil=>exact absurd hv Zci
   | cons x t=>rfl
  ·rw [if_neg h]
   have e3:linesL ([c]++wideL v)=stepL c (linesL (wideL v)):=rfl
   rw [e3,ih]
   cases hv:linesL v with
   | nil=>exact absurd hv Zci
   | cons x t =>
    by_cases h10:c=10
    ·subst h10;rfl
    ·rw [Zb2 h10,List.map_cons,Zb2 h10,List.map_cons]
     unfold wideL
     rw [List.flatMap_cons,if_neg h]
     rfl
theorem Zuy {v:List UInt8}:wideL (v++[10])=wideL v++[10]:=by
 unfold wideL
 rw [List.flatMap_append]
 rfl
theorem Zyt {v:List UInt8}:(wideL v).length=v.length+v.count 32:=by
 induction v with
 | nil=>rfl
 | cons c v ih =>
  unfold wideL at ih ⊢
  rw [List.flatMap_cons,List.length_append,ih,List.length_cons]
  by_cases h:c=32
  ·subst h;rw [if_pos rfl,List.count_cons_self];simp only [List.length_cons,List.length_nil];omega
  ·rw [if_neg h,List.count_cons_of_ne h];simp only [List.length_cons,List.length_nil];omega
theorem Zs9 {v:List UInt8}:(wideL v).count 32=v.count 32:=by
 induction v with
 | nil=>rfl
 | cons c v ih =>
  unfold wideL at ih ⊢
  rw [List.flatMap_cons,List.count_append,ih]
  by_cases h:c=32
  ·subst h
   have e1:List.count (32:UInt8) [32,9]=1:=by decide
   have e2:List.count (32:UInt8) (32::v)=List.count 32 v+1:=List.count_cons_self
   rw [if_pos rfl,e1,e2];omega
  ·rw [if_neg h,List.count_cons_of_ne h,List.count_cons_of_ne h];simp
def chgL (k:Nat) (v:List UInt8):List UInt8:=if k=0 then [10]++v else if k=1 then [35,32,101,110,100,10]++v else if k=2 then [32,9]++v else wideL v
theorem Zy9 {k:Nat} {v:List UInt8}:saysP (chgL k v)=saysP v:=by
 unfold chgL saysP
 split
 ·have e:linesL ([10]++v)=[]::linesL v:=Zch
  rw [e,List.filterMap_cons]
  rfl
 ·split
  ·have e:linesL ([35,32,101,110,100,10]++v)=[35,32,101,110,100]::linesL v:=Zea (l:=[35,32,101,110,100]) (by decide)
   rw [e,List.filterMap_cons,show sayP [35,32,101,110,100]=none by decide +kernel]
  ·split
   ·have e:linesL ([32,9]++v)=stepL 32 (stepL 9 (linesL v)):=rfl
    rw [e]
    cases hv:linesL v with
    | nil=>exact absurd hv Zci
    | cons x t =>
     rw [Zb2 (by decide),Zb2 (by decide),List.filterMap_cons,List.filterMap_cons]
     have:sayP (32::9::x)=sayP x:=by unfold sayP;rw [Zgc (by decide),Zgc (by decide)]
     rw [this]
   ·rw [Zs8,List.filterMap_map]
    congr 1
    funext x
    show sayP (wideL x)=sayP x
    unfold sayP
    rw [Zs7]
theorem Z0c {k:Nat} {v:List UInt8}:chgL k (v++[10])=chgL k v++[10]:=by
 unfold chgL
 split
 ·rfl
 ·split
  ·rfl
  ·split
   ·rfl
   ·exact Zuy
theorem Zw8 {k:Nat} {v:List UInt8}:(chgL k v).length≤v.length+v.count 32+6∧(chgL k v).count 32≤v.count 32+1:=by
 unfold chgL
 split
 ·rw [List.length_append,List.count_append];exact ⟨by simp only [List.length_cons,List.length_nil];omega,by rw [show List.count (32:UInt8) [10]=0 from by decide];omega⟩
 ·split
  ·rw [List.length_append,List.count_append];exact ⟨by simp only [List.length_cons,List.length_nil];omega,by rw [show List.count (32:UInt8) [35,32,101,110,100,10]=1 from by decide];omega⟩
  ·split
   ·rw [List.length_append,List.count_append];exact ⟨by simp only [List.length_cons,List.length_nil];omega,by rw [show List.count (32:UInt8) [32,9]=1 from by decide];omega⟩
   ·rw [Zyt,Zs9];exact ⟨by omega,by omega⟩
theorem Zoy:∀ {ys:List (List UInt8)} {j k:Nat} {y:List UInt8},ys[j]?=some y→∃ x,(addNl ys)[j]?=some x∧(addNl ys).set j (chgL k x)=addNl (ys.set j (chgL k y))∧x.length≤y.length+1∧x.count 32=y.count 32
 | [],_,_,_,h=>by cases h
 | [a],j,k,y,h=>by
  cases j with
  | zero=>cases h;exact ⟨a,rfl,rfl,by omega,rfl⟩
  | succ j=>cases h
 | a :: b::r,j,k,y,h=>by
  cases j with
  | zero =>
   cases h
   refine ⟨a++[10],rfl,?_,by simp,by rw [List.count_append];rfl⟩
   show ((a++[10])::addNl (b::r)).set 0 _=(chgL k a++[10])::addNl (b::r)
   rw [List.set_cons_zero,Z0c]
  | succ j =>
   rw [List.getElem?_cons_succ] at h
   obtain ⟨x,h1,h2,h3,h4⟩:=Zoy (ys:=b::r) (k:=k) h
   refine ⟨x,by rw [Zca (by simp),List.getElem?_cons_succ,h1],?_,h3,h4⟩
   rw [Zca (by simp),List.set_cons_succ,h2,List.set_cons_succ,Zca]
   intro e
   have:=congrArg List.length e
   rw [List.length_set] at this
   simp at this
structure LkT (o:List (List UInt8)) (n:Nat) (ys:List (List UInt8)):Prop where
 ne:ys≠[]
 len:ys.length=o.length
 says:ys.flatMap saysP=o.flatMap saysP
 few:∀ y∈ys,y.count 32≤100+n
 short:(addNl ys).flatten.length≤3000+300 * n
theorem Zjb:∀ {l:List (List UInt8)} {j:Nat} {x z:List UInt8},l[j]?=some x→(l.set j z).flatten.length+x.length=l.flatten.length+z.length
 | [],_,_,_,h=>by cases h
 | a :: r,j,x,z,h=>by
  cases j with
  | zero=>cases h;rw [List.set_cons_zero,List.flatten_cons,List.flatten_cons,List.length_append,List.length_append];omega
  | succ j =>
   rw [List.getElem?_cons_succ] at h
   have:=Zjb (z:=z) h
   rw [List.set_cons_succ,List.flatten_cons,List.flatten_cons,List.length_append,List.length_append];omega
theorem Zj9 {α:Type} {f:List UInt8→List α}:∀ {l:List (List UInt8)} {j:Nat} {x z:List UInt8},l[j]?=some x→f z=f x→(l.set j z).flatMap f=l.flatMap f
 | [],_,_,_,h,_=>by cases h
 | a :: r,j,x,z,h,e=>by
  cases j with
  | zero=>cases h;rw [List.set_cons_zero,List.flatMap_cons,List.flatMap_cons,e]
  | succ j =>
   rw [List.getElem?_cons_succ] at h
   rw [List.set_cons_succ,List.flatMap_cons,List.flatMap_cons,Zj9 h e]
theorem LkT.step {o:List (List UInt8)} {n j k:Nat} {ys:List (List UInt8)} (h:LkT o n ys) (hn:n≤3) (hj:j < ys.length) :
  ∃ x ys',(addNl ys)[j]?=some x∧(addNl ys).set j (chgL k x)=addNl ys'∧LkT o (n+1) ys'∧x.length≤4000:=by
 obtain ⟨y,hy⟩:∃ y,ys[j]?=some y:=⟨_,List.getElem?_eq_getElem hj⟩
 obtain ⟨x,h1,h2,h3,h4⟩:=Zoy (k:=k) hy
 have hc:=Zw8 (k:=k) (v:=x)
 have hcy:=Zw8 (k:=k) (v:=y)
 have hf:=h.few y (List.mem_of_getElem? hy)
 have hfs:=Zjb (z:=chgL k x) h1
 have hsh:=h.short
 have hxl:x.length≤(addNl ys).flatten.length:=(List.sublist_flatten_of_mem (List.mem_of_getElem? h1)).length_le
 refine ⟨x,ys.set j (chgL k y),h1,h2,⟨?_,by rw [List.length_set];exact h.len,by rw [Zj9 hy Zy9];exact h.says,?_,?_⟩,by omega⟩
 ·intro e
  have:=congrArg List.length e
  rw [List.length_set] at this
  simp only [List.length_nil] at this
  omega
 ·intro z hz
  rcases List.mem_or_eq_of_mem_set hz with hz|rfl
  ·have:=h.few z hz;omega
  ·omega
 ·rw [← h2]
  omega
theorem LkT.text {o:List (List UInt8)} {n:Nat} {ys:List (List UInt8)} {l:List PP} (h:LkT o n ys) (ho:addNl o=addNl (linesL (textT l))) (hc:checkP l=true) (hn:n≤4) :
  parseT (addNl ys).flatten=(l,0,0)∧(addNl ys).flatten.length≤4200:=by
 have hsh:=h.short
 refine ⟨?_,by omega⟩
 have h1:=Zrl hc
 rw [Zi3] at h1
 have h2 : saysP (addNl ys).flatten=saysP (textT l):=by
  rw [Zjq h.ne,h.says]
  have ho1:o≠[]:=fun e=>h.ne (List.length_eq_zero_iff.1 (by rw [h.len,e];rfl))
  rw [← Zjq ho1,ho,Zjq Zci]
  have:∀ v:List UInt8,(linesL v).flatMap saysP=saysP v:=by
   intro v
   have h3 : ∀ x∈linesL v,linesL x=[x]:=by
    intro x hx
    refine Zty ?_
    revert x
    induction v with
    | nil=>intro x hx;rw [show linesL []=[[]] from rfl,List.mem_singleton] at hx;rw [hx];intro c hc;cases hc
    | cons c v ih =>
     intro x hx
     rw [show linesL (c::v)=stepL c (linesL v) from rfl] at hx
     by_cases h10:c=10
     ·subst h10
      rw [Zch] at hx
      rcases List.mem_cons.1 hx with rfl|hx
      ·intro c hc;cases hc
      ·exact ih x hx
     ·cases hv:linesL v with
      | nil=>exact absurd hv Zci
      | cons a t =>
       rw [hv,Zb2 h10] at hx
       rcases List.mem_cons.1 hx with rfl|hx
       ·intro d hd
        rcases List.mem_cons.1 hd with rfl|hd
        ·exact h10
        ·exact ih a (by rw [hv];exact List.mem_cons_self ..) d hd
       ·exact ih x (by rw [hv];exact List.mem_cons_of_mem _ hx)
   unfold saysP
   generalize linesL v=L at h3 ⊢
   induction L with
   | nil=>rfl
   | cons a r ih =>
    rw [List.flatMap_cons,ih fun x hx=>h3 x (List.mem_cons_of_mem _ hx),h3 a (List.mem_cons_self ..),List.filterMap_cons,List.filterMap_cons]
    cases sayP a<;>rfl
  rw [this]
 unfold parseT
 rw [if_neg (by omega)]
 have h4:runP 1 (0,[],false) (linesL (addNl ys).flatten)=.inr ((l.headD ([],[],0,0,0)).2.1.length,l,true):=by
  rw [Zi3]
  show foldO _ (saysP (addNl ys).flatten)=_
  rw [h2]
  exact h1
 rw [h4]
 rfl
theorem Zou (v:List UInt8):v.count 32≤v.length:=List.count_le_length
theorem Zzy {l:List PP} (h:checkP l=true):∀ x∈linesL (textT l),x.length≤100:=by
 intro x hx
 rw [Zde h] at hx
 obtain ⟨h1,h2,h3⟩:=Zw9.1 h
 rcases List.mem_cons.1 hx with rfl|hx
 ·have hd:(Lib.decDigits (l.headD ([],[],0,0,0)).2.1.length).length≤5:=by
   cases l with
   | nil=>exact absurd rfl h1
   | cons p r =>
    have:=(Z3v.1 (h3.sound p (List.mem_cons_self ..)).1).2.1.2
    rw [Zat]
    exact Zbc (by decide) (Nat.lt_of_le_of_lt (show p.2.1.length≤4 from this) (by decide))
  rw [List.length_append,List.length_cons]
  have e1:wPatches.length=7:=rfl
  omega
 ·rcases List.mem_append.1 hx with hx|hx
  ·obtain ⟨p,hp,rfl⟩:=List.mem_map.1 hx
   have:=Zg4 (h3.sound p hp).1
   unfold rowT at this
   rw [List.length_append] at this
   omega
  ·simp only [List.mem_cons,List.not_mem_nil,or_false] at hx
   rcases hx with rfl|rfl
   ·decide
   ·decide
theorem Zol {s:List UInt8}:(addNl (linesL s)).flatten=s:=by
 induction s with
 | nil=>rfl
 | cons c s ih =>
  show (addNl (stepL c (linesL s))).flatten=_
  by_cases h:c=10
  ·subst h
   rw [Zch,Zca Zci,List.flatten_cons,ih]
   rfl
  ·cases hv:linesL s with
   | nil=>exact absurd hv Zci
   | cons x t =>
    rw [hv] at ih
    rw [Zb2 h]
    cases t with
    | nil =>
     simp only [addNl,List.flatten_cons,List.flatten_nil,List.append_nil] at ih ⊢
     rw [ih]
    | cons y t =>
     rw [Zca (by simp),List.flatten_cons] at ih ⊢
     rw [List.cons_append,List.cons_append,ih]
theorem Zx6 {l:List PP} (h:checkP l=true):LkT (linesL (textT l)) 0 (linesL (textT l)) :=
 ⟨Zci,rfl,rfl,fun y hy=>Nat.le_trans (Zou y) (by have:=Zzy h y hy;omega),by rw [Zol];have:=Zcb h;omega⟩
/-! ### the library's functions -/
theorem Zii:∀ l:List UInt8,Lib.splitK [10] 1 (Lib.count l [10]) l=addNl (linesL l)
 | []=>by rw [Lib.count_one];rfl
 | c :: l => by
  have ih:=Zii l
  have hL:linesL (c::l)=stepL c (linesL l):=rfl
  by_cases h:c=10
  ·subst h
   rw [Lib.count_cons_eq,Nat.add_comm,Lib.splitK,Zhg,if_pos rfl,hL,Zch,Zca Zci,← ih]
   rfl
  ·rw [Lib.count_cons_ne c 10 l h]
   cases hk:Lib.count l [10] with
   | zero =>
    rw [hk] at ih
    have e:linesL l=[l]:=by
     rw [← Zgg l,hk];rfl
    rw [hL,e,Zb2 h]
    rfl
   | succ j =>
    rw [hk] at ih
    have hne:Lib.index l [10]≠-1:=fun e=>by rw [Lib.count_miss e] at hk;cases hk
    have hge:=Lib.index_ge l [10]
    obtain ⟨i,hi⟩:∃ i:Nat,Lib.index l [10]=i:=⟨(Lib.index l [10]).toNat,by omega⟩
    have hb:¬ ((Lib.index l [10] == -1)=true):=fun e=>hne (eq_of_beq e)
    rw [Lib.splitK,if_neg hb,hi] at ih
    have hix:Lib.index (c::l) [10]=((i+1:Nat):Int):=by rw [Zhg,if_neg h,if_neg hb,hi];omega
    have hb2:¬ ((Lib.index (c::l) [10] == -1)=true):=fun e=>by have:=eq_of_beq e;omega
    rw [Lib.splitK,if_neg hb2,hix,hL]
    cases hv:linesL l with
    | nil=>exact absurd hv Zci
    | cons x t =>
     rw [hv] at ih
     rw [Zb2 h]
     cases t with
     | nil =>
      exfalso
      have h2:=(List.cons.inj ih).2
      have h3:∀ (k:Nat) (q:List UInt8),Lib.splitK [10] 1 k q≠[]:=by
       intro k q e
       cases k with
       | zero=>simp [Lib.splitK] at e
       | succ k =>
        rw [Lib.splitK] at e
        split at e<;>simp at e
      exact h3 _ _ h2
     | cons y t =>
      rw [Zca (by simp)] at ih ⊢
      rw [List.cons.injEq] at ih
      rw [← ih.2,List.cons_append,← ih.1]
      rfl
theorem Zih {l:List UInt8}:Lib.splitB ⟨#[10]⟩ 1 (Lib.countB ⟨l.toArray⟩ ⟨#[10]⟩) ⟨l.toArray⟩=(addNl (linesL l)).map fun x=>(⟨x.toArray⟩:ByteArray):=by
 have h:=Lib.splitB_data ⟨#[10]⟩ 1 (Lib.countB ⟨l.toArray⟩ ⟨#[10]⟩) ⟨l.toArray⟩
 have h2:Lib.countB ⟨l.toArray⟩ ⟨#[10]⟩=Lib.count l [10]:=rfl
 rw [h2] at h ⊢
 have h3:Lib.splitK [10] 1 (Lib.count l [10]) l=addNl (linesL l):=Zii l
 have h4:(Lib.splitB ⟨#[10]⟩ 1 (Lib.count l [10]) ⟨l.toArray⟩).map (·.data.toList)=addNl (linesL l):=h.trans h3
 rw [← h4,List.map_map]
 have:((fun x:List UInt8=>(⟨x.toArray⟩:ByteArray)) ∘ fun x:ByteArray=>x.data.toList)=id:=by funext ⟨⟨x⟩⟩;rfl
 rw [this,List.map_id]
theorem Zh2:∀ (xs:List (List UInt8)),Lib.join xs []=xs.flatten
 | []=>rfl
 | [x]=>by rw [Lib.join_one];simp
 | x::y::r=>by
  have ih:=Zh2 (y::r)
  rw [List.flatten_cons,← ih,Lib.join_cons,Lib.join_cons]
  rfl
theorem Zhh (c d:UInt8) (l:List UInt8):Lib.index (c::l) [d]=if c=d then 0 else if Lib.index l [d] == -1 then -1 else Lib.index l [d]+1:=by
 rw [Lib.index]
 by_cases h:c=d
 ·subst h;simp [List.isPrefixOf]
 ·have:([d]:List UInt8).isPrefixOf (c::l)=false:=by simp [List.isPrefixOf,Ne.symm h]
  rw [this,if_neg h];simp
theorem Zn1 (l:List UInt8):Lib.replaceAll l [32] [32,9]=wideL l:=by
 have key:∀ l:List UInt8,Lib.replaceK [32] [32,9] (Lib.count l [32]) l=wideL l:=by
  intro l
  induction l with
  | nil=>rw [Lib.count_one];rfl
  | cons c l ih =>
   have e:wideL (c::l)=(if c=32 then [32,9] else [c])++wideL l:=by unfold wideL;rw [List.flatMap_cons]
   rw [e]
   by_cases h:c=32
   ·subst h
    rw [Lib.count_cons_eq,Nat.add_comm,Lib.replaceK,Zhh,if_pos rfl,if_pos rfl,← ih]
    rfl
   ·rw [Lib.count_cons_ne c 32 l h,if_neg h]
    cases hk:Lib.count l [32] with
    | zero =>
     rw [hk] at ih
     rw [← ih];rfl
    | succ j =>
     rw [hk] at ih
     have hne:Lib.index l [32]≠-1:=fun e=>by rw [Lib.count_miss e] at hk;cases hk
     have hge:=Lib.index_ge l [32]
     obtain ⟨i,hi⟩:∃ i:Nat,Lib.index l [32]=i:=⟨(Lib.index l [32]).toNat,by omega⟩
     have hb:¬ ((Lib.index l [32] == -1)=true):=fun e=>hne (eq_of_beq e)
     rw [Lib.replaceK,if_neg hb,hi] at ih
     have hix:Lib.index (c::l) [32]=((i+1:Nat):Int):=by rw [Zhh,if_neg h,if_neg hb,hi];omega
     have hb2:¬ ((Lib.index (c::l) [32] == -1)=true):=fun e=>by have:=eq_of_beq e;omega
     rw [Lib.replaceK,if_neg hb2,hix,← ih]
     rfl
 show (if ([32]:List UInt8) == [32,9] then l else Lib.replaceK [32] [32,9] (Lib.replaceNum l [32] (-1)) l)=_
 rw [if_neg (by decide),Lib.replaceNum,if_pos (.inl (by decide)),key]
theorem Zt1 {w r:List UInt8} (h:∀ c∈w,c≠32):Lib.index (w++32::r) [32]=(w.length:Int):=by
 induction w with
 | nil=>rw [List.nil_append,Zhh,if_pos rfl];rfl
 | cons c w ih =>
  rw [List.cons_append,Zhh,if_neg (h c (List.mem_cons_self ..)),ih fun x hx=>h x (List.mem_cons_of_mem _ hx),if_neg (by simp)]
  rw [List.length_cons];omega
theorem Zmm {w r new:List UInt8} (h:∀ c∈w,c≠32) (hn:([32] == new)=false):Lib.replace (w++32::r) [32] new 1=w++new++r:=by
 have hc:1≤Lib.count (w++32::r) [32]:=by
  rw [Lib.count_one]
  exact List.count_pos_iff.2 (by simp)
 have e:Lib.replaceNum (w++32::r) [32] 1=1:=by
  unfold Lib.replaceNum
  split
  ·omega
  ·rfl
 rw [Lib.replace,if_neg (by rw [hn];decide),e,Lib.replaceK_hit _ _ _ _ _ (Zt1 h),List.take_left,Lib.replaceK]
 congr 1
 rw [show w++32::r=(w++[32])++r by simp,show w.length+([32]:List UInt8).length=(w++[32]).length by simp,List.drop_left]
theorem Zyu {x:List UInt8}:Lib.trimSuffix (x++[10]) [10]=x:=by
 unfold Lib.trimSuffix Lib.hasSuffix
 rw [if_pos (by rw [List.isSuffixOf_iff_suffix];exact List.suffix_append _ _)]
 rw [List.length_append,Nat.add_sub_cancel,List.take_left]
end Go.Proofs.YtciadfpomkdlnaaGreatDoor.Q
