/- Plain: the lines of a text, changed without changing what they say. -/
import Derived.Test.YtciadfpomkdlnaaGreatDoorPl1
import Derived.Test.YtciadfpomkdlnaaGreatDoorPw8
import Derived.Lib.Replace
import Derived.Lib.Join
set_option maxHeartbeats 1000000
namespace Go.Proofs.YtciadfpomkdlnaaGreatDoor.Q
open Go Go.Sx
def addNl:List (List UInt8)→List (List UInt8)
 | []=>[]
 | [x]=>[x]
 | x::y::r=>(x++[10])::addNl (y::r)
theorem Zcg {x:List UInt8} {r:List (List UInt8)} (h:r≠[]):addNl (x::r)=(x++[10])::addNl r:=by
 cases r with
 | nil=>exact absurd rfl h
 | cons y r=>rfl
theorem Zwd {v s:List UInt8}:linesL (v++10::s)=linesL v++linesL s:=by
 induction v with
 | nil=>show stepL 10 (linesL s)=[[]]++linesL s;rw [Zcn];rfl
 | cons c v ih =>
  show stepL c (linesL (v++10::s))=stepL c (linesL v)++linesL s
  rw [ih]
  by_cases h:c=10
  ·subst h;rw [Zcn,Zcn];rfl
  ·cases hv:linesL v with
   | nil=>exact absurd hv Zco
   | cons x t=>rw [List.cons_append,Zb8 h,Zb8 h];rfl
theorem Zlx:∀ {ys:List (List UInt8)},ys≠[]→linesL (addNl ys).flatten=ys.flatMap linesL
 | [],h=>absurd rfl h
 | [x],_=>by simp [addNl]
 | x::y::r,_=>by
  have h1:=Zlx (ys:=y::r) (by simp)
  rw [Zcg (by simp),List.flatten_cons,List.append_assoc,List.singleton_append,Zwd,h1]
  rfl
def saysP (v:List UInt8):List (List (List UInt8)):=(linesL v).filterMap sayP
theorem Zjp {ys:List (List UInt8)} (h:ys≠[]):saysP (addNl ys).flatten=ys.flatMap saysP:=by
 unfold saysP
 rw [Zlx h]
 clear h
 induction ys with
 | nil=>rfl
 | cons y r ih=>rw [List.flatMap_cons,List.flatMap_cons,List.filterMap_append,ih]
def wideL (v:List UInt8):List UInt8:=v.flatMap fun c=>if c=32 then [32,9] else [c]
theorem Zs4 {v:List UInt8}:wordsL (wideL v)=wordsL v:=by
 have key:∀ v:List UInt8,(wideL v).foldr stepW ([],[])=v.foldr stepW ([],[]):=by
  intro v
  induction v with
  | nil=>rfl
  | cons c v ih =>
   unfold wideL at ih ⊢
   rw [List.flatMap_cons,List.foldr_append,ih,List.foldr_cons]
   by_cases h:c=32
   ·subst h
    rw [if_pos rfl]
    rfl
   ·rw [if_neg h];rfl
 unfold wordsL
 rw [key]
theorem Zs5 {v:List UInt8}:linesL (wideL v)=(linesL v).map wideL:=by
 induction v with
 | nil=>rfl
 | cons c v ih =>
  have e:wideL (c::v)=(if c=32 then [32,9] else [c])++wideL v:=by unfold wideL;rw [List.flatMap_cons]
  have e2:linesL (c::v)=stepL c (linesL v):=rfl
  rw [e,e2]
  by_cases h:c=32
  ·subst h
   rw [if_pos rfl]
   have e3:linesL ([32,9]++wideL v)=stepL 32 (stepL 9 (linesL (wideL v))):=rfl
   rw [e3,ih]
   cases hv:linesL v with
   | nil=>exact absurd hv Zco
   | cons x t=>rfl
  ·rw [if_neg h]
   have e3:linesL ([c]++wideL v)=stepL c (linesL (wideL v)):=rfl
   rw [e3,ih]
   cases hv:linesL v with
   | nil=>exact absurd hv Zco
   | cons x t =>
    by_cases h10:c=10
    ·subst h10;rfl
    ·rw [Zb8 h10,List.map_cons,Zb8 h10,List.map_cons]
     unfold wideL
     rw [List.flatMap_cons,if_neg h]
     rfl
theorem Zuy {v:List UInt8}:wideL (v++[10])=wideL v++[10]:=by
 unfold wideL
 rw [List.flatMap_append]
 rfl
theorem Zyt {v:List UInt8}:(wideL v).length=v.length+v.count 32:=by
 induction v with
 | nil=>rfl
 | cons c v ih =>
  unfold wideL at ih ⊢
  rw [List.flatMap_cons,List.length_append,ih,List.length_cons]
  by_cases h:c=32
  ·subst h;rw [if_pos rfl,List.count_cons_self];simp only [List.length_cons,List.length_nil];omega
  ·rw [if_neg h,List.count_cons_of_ne h];simp only [List.length_cons,List.length_nil];omega
theorem Zs6 {v:List UInt8}:(wideL v).count 32=v.count 32:=by
 induction v with
 | nil=>rfl
 | cons c v ih =>
  unfold wideL at ih ⊢
  rw [List.flatMap_cons,List.count_append,ih]
  by_cases h:c=32
  ·subst h
   have e1:List.count (32:UInt8) [32,9]=1:=by decide
   have e2:List.count (32:UInt8) (32::v)=List.count 32 v+1:=List.count_cons_self
   rw [if_pos rfl,e1,e2];omega
  ·rw [if_neg h,List.count_cons_of_ne h,List.count_cons_of_ne h];simp
def chgL (k:Nat) (v:List UInt8):List UInt8:=if k=0 then [10]++v else if k=1 then [35,32,101,110,100,10]++v else if k=2 then [32,9]++v else wideL v
theorem Zza {k:Nat} {v:List UInt8}:saysP (chgL k v)=saysP v:=by
 unfold chgL saysP
 split
 ·have e:linesL ([10]++v)=[]::linesL v:=Zcn
  rw [e,List.filterMap_cons]
  rfl
 ·split
  ·have e:linesL ([35,32,101,110,100,10]++v)=[35,32,101,110,100]::linesL v:=Zc0 (l:=[35,32,101,110,100]) (by decide)
   rw [e,List.filterMap_cons,show sayP [35,32,101,110,100]=none by decide +kernel]
  ·split
   ·have e:linesL ([32,9]++v)=stepL 32 (stepL 9 (linesL v)):=rfl
    rw [e]
    cases hv:linesL v with
    | nil=>exact absurd hv Zco
    | cons x t =>
     rw [Zb8 (by decide),Zb8 (by decide),List.filterMap_cons,List.filterMap_cons]
     have:sayP (32::9::x)=sayP x:=by unfold sayP;rw [Zf9 (by decide),Zf9 (by decide)]
     rw [this]
   ·rw [Zs5,List.filterMap_map]
    congr 1
    funext x
    show sayP (wideL x)=sayP x
    unfold sayP
    rw [Zs4]
theorem Z0d {k:Nat} {v:List UInt8}:chgL k (v++[10])=chgL k v++[10]:=by
 unfold chgL
 split
 ·rfl
 ·split
  ·rfl
  ·split
   ·rfl
   ·exact Zuy
theorem Zxa {k:Nat} {v:List UInt8}:(chgL k v).length≤v.length+v.count 32+6∧(chgL k v).count 32≤v.count 32+1:=by
 unfold chgL
 split
 ·rw [List.length_append,List.count_append];exact ⟨by simp only [List.length_cons,List.length_nil];omega,by rw [show List.count (32:UInt8) [10]=0 from by decide];omega⟩
 ·split
  ·rw [List.length_append,List.count_append];exact ⟨by simp only [List.length_cons,List.length_nil];omega,by rw [show List.count (32:UInt8) [35,32,101,110,100,10]=1 from by decide];omega⟩
  ·split
   ·rw [List.length_append,List.count_append];exact ⟨by simp only [List.length_cons,List.length_nil];omega,by rw [show List.count (32:UInt8) [32,9]=1 from by decide];omega⟩
   ·rw [Zyt,Zs6];exact ⟨by omega,by omega⟩
theorem Zo0:∀ {ys:List (List UInt8)} {j k:Nat} {y:List UInt8},ys[j]?=some y→∃ x,(addNl ys)[j]?=some x∧(addNl ys).set j (chgL k x)=addNl (ys.set j (chgL k y))∧x.length≤y.length+1∧x.count 32=y.count 32
 | [],_,_,_,h=>by cases h
 | [a],j,k,y,h=>by
  cases j with
  | zero=>cases h;exact ⟨a,rfl,rfl,by omega,rfl⟩
  | succ j=>cases h
 | a :: b::r,j,k,y,h=>by
  cases j with
  | zero =>
   cases h
   refine ⟨a++[10],rfl,?_,by simp,by rw [List.count_append];rfl⟩
   show ((a++[10])::addNl (b::r)).set 0 _=(chgL k a++[10])::addNl (b::r)
   rw [List.set_cons_zero,Z0d]
  | succ j =>
   rw [List.getElem?_cons_succ] at h
   obtain ⟨x,h1,h2,h3,h4⟩:=Zo0 (ys:=b::r) (k:=k) h
   refine ⟨x,by rw [Zcg (by simp),List.getElem?_cons_succ,h1],?_,h3,h4⟩
   rw [Zcg (by simp),List.set_cons_succ,h2,List.set_cons_succ,Zcg]
   intro e
   have:=congrArg List.length e
   rw [List.length_set] at this
   simp at this
structure LkT (o:List (List UInt8)) (n:Nat) (ys:List (List UInt8)):Prop where
 ne:ys≠[]
 len:ys.length=o.length
 says:ys.flatMap saysP=o.flatMap saysP
 few:∀ y∈ys,y.count 32≤100+n
 short:(addNl ys).flatten.length≤3000+300 * n
theorem Zja:∀ {l:List (List UInt8)} {j:Nat} {x z:List UInt8},l[j]?=some x→(l.set j z).flatten.length+x.length=l.flatten.length+z.length
 | [],_,_,_,h=>by cases h
 | a :: r,j,x,z,h=>by
  cases j with
  | zero=>cases h;rw [List.set_cons_zero,List.flatten_cons,List.flatten_cons,List.length_append,List.length_append];omega
  | succ j =>
   rw [List.getElem?_cons_succ] at h
   have:=Zja (z:=z) h
   rw [List.set_cons_succ,List.flatten_cons,List.flatten_cons,List.length_append,List.length_append];omega
theorem Zj7 {α:Type} {f:List UInt8→List α}:∀ {l:List (List UInt8)} {j:Nat} {x z:List UInt8},l[j]?=some x→f z=f x→(l.set j z).flatMap f=l.flatMap f
 | [],_,_,_,h,_=>by cases h
 | a :: r,j,x,z,h,e=>by
  cases j with
  | zero=>cases h;rw [List.set_cons_zero,List.flatMap_cons,List.flatMap_cons,e]
  | succ j =>
   rw [List.getElem?_cons_succ] at h
   rw [List.set_cons_succ,List.flatMap_cons,List.flatMap_cons,Zj7 h e]
theorem LkT.step {o:List (List UInt8)} {n j k:Nat} {ys:List (List UInt8)} (h:LkT o n ys) (hn:n≤3) (hj:j < ys.length) :
  ∃ x ys',(addNl ys)[j]?=some x∧(addNl ys).set j (chgL k x)=addNl ys'∧LkT o (n+1) ys'∧x.length≤4000:=by
 obtain ⟨y,hy⟩:∃ y,ys[j]?=some y:=⟨_,List.getElem?_eq_getElem hj⟩
 obtain ⟨x,h1,h2,h3,h4⟩:=Zo0 (k:=k) hy
 have hc:=Zxa (k:=k) (v:=x)
 have hcy:=Zxa (k:=k) (v:=y)
 have hf:=h.few y (List.mem_of_getElem? hy)
 have hfs:=Zja (z:=chgL k x) h1
 have hsh:=h.short
 have hxl:x.length≤(addNl ys).flatten.length:=(List.sublist_flatten_of_mem (List.mem_of_getElem? h1)).length_le
 refine ⟨x,ys.set j (chgL k y),h1,h2,⟨?_,by rw [List.length_set];exact h.len,by rw [Zj7 hy Zza];exact h.says,?_,?_⟩,by omega⟩
 ·intro e
  have:=congrArg List.length e
  rw [List.length_set] at this
  simp only [List.length_nil] at this
  omega
 ·intro z hz
  rcases List.mem_or_eq_of_mem_set hz with hz|rfl
  ·have:=h.few z hz;omega
  ·omega
 ·rw [← h2]
  omega
theorem LkT.text {o:List (List UInt8)} {n:Nat} {ys:List (List UInt8)} {l:List PP} (h:LkT o n ys) (ho:addNl o=addNl (linesL (textT l))) (hc:checkP l=true) (hn:n≤4) :
  parseT (addNl ys).flatten=(l,0,0)∧(addNl ys).flatten.length≤4200:=by
 have hsh:=h.short
 refine ⟨?_,by omega⟩
 have h1:=Zrj hc
 rw [Zi1] at h1
 have h2 : saysP (addNl ys).flatten=saysP (textT l):=by
  rw [Zjp h.ne,h.says]
  have ho1:o≠[]:=fun e=>h.ne (List.length_eq_zero_iff.1 (by rw [h.len,e];rfl))
  rw [← Zjp ho1,ho,Zjp Zco]
  have:∀ v:List UInt8,(linesL v).flatMap saysP=saysP v:=by
   intro v
   have h3 : ∀ x∈linesL v,linesL x=[x]:=by
    intro x hx
    refine Zlw ?_
    revert x
    induction v with
    | nil=>intro x hx;rw [show linesL []=[[]] from rfl,List.mem_singleton] at hx;rw [hx];intro c hc;cases hc
    | cons c v ih =>
     intro x hx
     rw [show linesL (c::v)=stepL c (linesL v) from rfl] at hx
     by_cases h10:c=10
     ·subst h10
      rw [Zcn] at hx
      rcases List.mem_cons.1 hx with rfl|hx
      ·intro c hc;cases hc
      ·exact ih x hx
     ·cases hv:linesL v with
      | nil=>exact absurd hv Zco
      | cons a t =>
       rw [hv,Zb8 h10] at hx
       rcases List.mem_cons.1 hx with rfl|hx
       ·intro d hd
        rcases List.mem_cons.1 hd with rfl|hd
        ·exact h10
        ·exact ih a (by rw [hv];exact List.mem_cons_self ..) d hd
       ·exact ih x (by rw [hv];exact List.mem_cons_of_mem _ hx)
   unfold saysP
   generalize linesL v=L at h3 ⊢
   induction L with
   | nil=>rfl
   | cons a r ih =>
    rw [List.flatMap_cons,ih fun x hx=>h3 x (List.mem_cons_of_mem _ hx),h3 a (List.mem_cons_self ..),List.filterMap_cons,List.filterMap_cons]
    cases sayP a<;>rfl
  rw [this]
 unfold parseT
 rw [if_neg (by omega)]
 have h4:runP 1 (0,[],false) (linesL (addNl ys).flatten)=.inr ((l.headD ([],[],0,0,0)).2.1.length,l,true):=by
  rw [Zi1]
  show foldO _ (saysP (addNl ys).flatten)=_
  rw [h2]
  exact h1
 rw [h4]
 rfl
theorem Zow (v:List UInt8):v.count 32≤v.length:=List.count_le_length
theorem Zr5 {l:List PP} (h:checkP l=true):∀ x∈linesL (textT l),x.length≤100:=by
 intro x hx
 rw [Zcu h] at hx
 obtain ⟨h1,h2,h3⟩:=Zxb.1 h
 rcases List.mem_cons.1 hx with rfl|hx
 ·have hd:(Lib.decDigits (l.headD ([],[],0,0,0)).2.1.length).length≤5:=by
   cases l with
   | nil=>exact absurd rfl h1
   | cons p r =>
    have:=(Z33.1 (h3.sound p (List.mem_cons_self ..)).1).2.1.2
    rw [Zaw]
    exact Zbg (by decide) (Nat.lt_of_le_of_lt (show p.2.1.length≤4 from this) (by decide))
  rw [List.length_append,List.length_cons]
  have e1:wPatches.length=7:=rfl
  omega
 ·rcases List.mem_append.1 hx with hx|hx
  ·obtain ⟨p,hp,rfl⟩:=List.mem_map.1 hx
   have:=Zgz (h3.sound p hp).1
   unfold rowT at this
   rw [List.length_append] at this
   omega
  ·simp only [List.mem_cons,List.not_mem_nil,or_false] at hx
   rcases hx with rfl|rfl
   ·decide
   ·decide
theorem Zon {s:List UInt8}:(addNl (linesL s)).flatten=s:=by
 induction s with
 | nil=>rfl
 | cons c s ih =>
  show (addNl (stepL c (linesL s))).flatten=_
  by_cases h:c=10
  ·subst h
   rw [Zcn,Zcg Zco,List.flatten_cons,ih]
   rfl
  ·cases hv:linesL s with
   | nil=>exact absurd hv Zco
   | cons x t =>
    rw [hv] at ih
    rw [Zb8 h]
    cases t with
    | nil =>
     simp only [addNl,List.flatten_cons,List.flatten_nil,List.append_nil] at ih ⊢
     rw [ih]
    | cons y t =>
     rw [Zcg (by simp),List.flatten_cons] at ih ⊢
     rw [List.cons_append,List.cons_append,ih]
theorem Z5e {l:List PP} (h:checkP l=true):LkT (linesL (textT l)) 0 (linesL (textT l)) :=
 ⟨Zco,rfl,rfl,fun y hy=>Nat.le_trans (Zow y) (by have:=Zr5 h y hy;omega),by rw [Zon];have:=Zbo h;omega⟩
/-! ### the library's functions -/
end Go.Proofs.YtciadfpomkdlnaaGreatDoor.Q
