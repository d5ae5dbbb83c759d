/- Shells, plain: colors, boundary nodes, faces of the sides. -/
import Derived.Test.YtbfgldlfciimiaaGreatDoorMq1
set_option maxHeartbeats 1000000
namespace Go.Sx
open Go
def nearI (n w:Int):Int:=(2 * n * w+65535) / 131070
def colorV (x y z:Int):V3:=⟨nearI x 100000,nearI y 256000 - 128000,nearI z 256000 - 128000⟩
def onI (a b c i j k:Nat):Bool:=decide (i=0)||decide (i+1=a)||decide (j=0)||decide (j+1=b)||decide (k=0)||decide (k+1=c)
def cellN (b c p:Nat):V3:=⟨((p / c / b:Nat):Int),((p / c % b:Nat):Int),((p % c:Nat):Int)⟩
def onB (a b c p:Nat):Bool:=onI a b c (p / c / b) (p / c % b) (p % c)
def nodesP (a b c n:Nat):List V3:=((List.range n).filter (onB a b c)).map (cellN b c)
def nodesF (a b c:Nat):List V3:=nodesP a b c (a * b * c)
theorem Ztt {b c i j k:Nat} (hj:j < b) (hk:k < c):((i * b+j) * c+k) / c / b=i∧((i * b+j) * c+k) / c % b=j∧((i * b+j) * c+k) % c=k:=by
 have h1:((i * b+j) * c+k) / c=i * b+j:=by rw [Nat.mul_comm,Nat.mul_add_div (by omega),Nat.div_eq_of_lt hk,Nat.add_zero]
 have h2:(i * b+j) / b=i:=by rw [Nat.mul_comm,Nat.mul_add_div (by omega),Nat.div_eq_of_lt hj,Nat.add_zero]
 refine ⟨by rw [h1,h2],?_,?_⟩
 ·rw [h1,Nat.mul_comm,Nat.mul_add_mod,Nat.mod_eq_of_lt hj]
 ·rw [Nat.mul_comm,Nat.mul_add_mod,Nat.mod_eq_of_lt hk]
theorem Zrh {b c i j k:Nat} (hj:j < b) (hk:k < c):cellN b c ((i * b+j) * c+k)=⟨i,j,k⟩:=by
 obtain ⟨h1,h2,h3⟩:=Ztt (i:=i) hj hk
 unfold cellN;rw [h1,h2,h3]
theorem Ydx {a b c i j k:Nat} (hj:j < b) (hk:k < c):onB a b c ((i * b+j) * c+k)=onI a b c i j k:=by
 obtain ⟨h1,h2,h3⟩:=Ztt (i:=i) hj hk
 unfold onB;rw [h1,h2,h3]
theorem Zvg {a b c n:Nat}:nodesP a b c (n+1)=nodesP a b c n++(if onB a b c n then [cellN b c n] else []):=by
 unfold nodesP
 rw [List.range_succ,List.filter_append,List.map_append]
 congr 1
 cases h:onB a b c n<;>simp [h]
theorem Zvf {a b c:Nat}:nodesP a b c 0=[]:=rfl
theorem Z2x {a b c i j k:Nat}:onI a b c i j k=true↔(i=0∨i+1=a)∨(j=0∨j+1=b)∨(k=0∨k+1=c):=by
 unfold onI
 simp only [Bool.or_eq_true,decide_eq_true_eq]
 omega
theorem Z20 {a b c n:Nat}:(nodesP a b c n).length≤n:=by
 unfold nodesP
 rw [List.length_map]
 exact Nat.le_trans (List.length_filter_le _ _) (by simp)
theorem Zhl {a b c i j k:Nat} (hi:i < a) (hj:j < b) (hk:k < c):(i * b+j) * c+k < a * b * c:=by
 have h1:i * b+j+1≤a * b:=by
  have:=Nat.mul_le_mul_right b (show i+1≤a from hi)
  rw [Nat.add_mul] at this
  omega
 have h2:=Nat.mul_le_mul_right c h1
 rw [Nat.add_mul] at h2
 omega
theorem Zg1 {a b c i j k:Nat} (hi:i < a) (hj:j < b) (hk:k < c) (h:onI a b c i j k=true):(⟨i,j,k⟩:V3)∈nodesF a b c:=by
 unfold nodesF nodesP
 refine List.mem_map.2 ⟨(i * b+j) * c+k,List.mem_filter.2 ⟨List.mem_range.2 (Zhl hi hj hk),?_⟩,Zrh hj hk⟩
 rw [Ydx hj hk];exact h
theorem Z8g {b c p q:Nat} (h:cellN b c p=cellN b c q):p=q:=by
 simp only [cellN,V3.mk.injEq] at h
 obtain ⟨h1,h2,h3⟩:=h
 have e1:p / c / b=q / c / b:=by omega
 have e2:p / c % b=q / c % b:=by omega
 have e3:p % c=q % c:=by omega
 have f1:=Nat.div_add_mod (p / c) b
 have f2:=Nat.div_add_mod (q / c) b
 rw [e1,e2] at f1
 have g1:=Nat.div_add_mod p c
 have g2:=Nat.div_add_mod q c
 rw [show p / c=q / c by omega,e3] at g1
 omega
theorem Zcj (a b c n:Nat):(nodesP a b c n).Nodup:=by
 unfold nodesP
 have h:((List.range n).filter (onB a b c)).Nodup:=List.Pairwise.filter _ List.nodup_range
 unfold List.Nodup at h ⊢
 rw [List.pairwise_map]
 exact h.imp fun h1 h2=>h1 (Z8g h2)
theorem Zil {a b c:Nat} {x:V3} (h:x∈nodesF a b c):∃ i j k:Nat,x=⟨i,j,k⟩∧i < a∧j < b∧k < c∧onI a b c i j k=true:=by
 unfold nodesF nodesP at h
 obtain ⟨p,hp,rfl⟩:=List.mem_map.1 h
 obtain ⟨h1,h2⟩:=List.mem_filter.1 hp
 have h3:=List.mem_range.1 h1
 have hb:0 < b:=Nat.pos_of_ne_zero fun hb=>by rw [hb] at h3;simp at h3
 have hc:0 < c:=Nat.pos_of_ne_zero fun hc=>by rw [hc] at h3;simp at h3
 refine ⟨p / c / b,p / c % b,p % c,rfl,?_,Nat.mod_lt _ hb,Nat.mod_lt _ hc,h2⟩
 rw [Nat.div_lt_iff_lt_mul hb,Nat.div_lt_iff_lt_mul hc];exact h3
theorem Zml:∀ a,a < 8→∀ b,b < 8→∀ c,c < 8→(nodesF (a+2) (b+2) (c+2)).length+a * b * c=(a+2) * (b+2) * (c+2):=by
 decide +kernel
def posN (L:List V3) (x:V3):Nat:=(L.findIdx? (· == x)).getD 0
theorem Z2f {L:List V3} (hn:L.Nodup) {n:Nat} {x:V3} (h:L[n]?=some x):posN L x=n:=by
 unfold posN
 rw [Zft h (by simp) ?_]
 ·rfl
 ·intro j y hj hy
  simp only [beq_eq_false_iff_ne,ne_eq]
  rintro rfl
  have h1:=(List.getElem?_eq_some_iff.1 h).1
  have:=(List.getElem?_inj h1 hn).1 (h.trans hy.symm)
  omega
theorem Zhj {L:List V3} (hn:L.Nodup) {x:V3} (h:x∈L):L[posN L x]?=some x∧posN L x < L.length:=by
 obtain ⟨n,hlt,hx⟩:=List.getElem_of_mem h
 have h1:L[n]?=some x:=by rw [List.getElem?_eq_getElem hlt,hx]
 rw [Z2f hn h1]
 exact ⟨h1,hlt⟩
def idxL (L:List V3) (n:Nat):List (V3 × Nat):=(List.range n).map fun i=>((L[i]?).getD V3.zero,i)
theorem Zxy {L:List V3} (hn:L.Nodup) {x:V3}:∀ {n:Nat},n≤L.length→mGet (idxL L n) x=if x∈L.take n then some (posN L x) else none:=by
 intro n hle
 have key:∀ (l:List Nat),(∀ i∈l,i < L.length)→mGet (l.map fun i=>((L[i]?).getD V3.zero,i)) x=if ∃ i∈l,L[i]?=some x then some (posN L x) else none:=by
  intro l
  induction l with
  | nil=>intro _;simp [mGet]
  | cons i l ih =>
   intro hl
   have hi:=hl i (List.mem_cons_self ..)
   have e:L[i]?=some L[i]:=List.getElem?_eq_getElem hi
   simp only [List.map_cons,mGet,e,Option.getD_some]
   by_cases hx:L[i]=x
   ·rw [if_pos hx,if_pos ⟨i,List.mem_cons_self ..,by rw [e,hx]⟩,Z2f hn (by rw [e,hx])]
   ·rw [if_neg hx,ih fun j hj=>hl j (List.mem_cons_of_mem _ hj)]
    congr 1
    simp only [List.mem_cons,exists_eq_or_imp,e,Option.some.injEq,hx,false_or]
 unfold idxL
 rw [key _ fun i hi=>Nat.lt_of_lt_of_le (List.mem_range.1 hi) hle]
 congr 1
 rw [eq_iff_iff,List.mem_take_iff_getElem]
 constructor
 ·rintro ⟨i,hi,h⟩
  have h1:=List.mem_range.1 hi
  obtain ⟨h2,h3⟩:=List.getElem?_eq_some_iff.1 h
  exact ⟨i,by omega,h3⟩
 ·rintro ⟨i,hi,h⟩
  exact ⟨i,List.mem_range.2 (by omega),by rw [List.getElem?_eq_getElem (by omega),h]⟩
theorem Z7j {L:List V3} (hn:L.Nodup) {x:V3} (h:x∈L):mGet (idxL L L.length) x=some (posN L x):=by
 rw [Zxy hn (Nat.le_refl _),List.take_length,if_pos h]
theorem Z3j {L:List V3} (hn:L.Nodup) {n:Nat} {x:V3} (h:L[n]?=some x):mGet (idxL L n) x=none∧mSet (idxL L n) x n=idxL L (n+1):=by
 have hlt:=(List.getElem?_eq_some_iff.1 h).1
 have h1:mGet (idxL L n) x=none:=by
  rw [Zxy hn (Nat.le_of_lt hlt),if_neg ?_]
  rw [List.mem_take_iff_getElem]
  rintro ⟨i,hi,hx⟩
  have:L[i]?=some x:=by rw [List.getElem?_eq_getElem (by omega),hx]
  have:=(List.getElem?_inj (by omega) hn).1 (this.trans h.symm)
  omega
 refine ⟨h1,?_⟩
 rw [Zfc h1]
 simp [idxL,List.range_succ,h]
def nodeAt (ax e u v:Nat):V3:=if ax=0 then ⟨e,u,v⟩ else if ax=1 then ⟨u,e,v⟩ else ⟨u,v,e⟩
def quadF (L:List V3) (fwd:Bool) (p q r s:V3):List V3:=if fwd then [⟨posN L p,posN L q,posN L r⟩,⟨posN L p,posN L r,posN L s⟩] else [⟨posN L p,posN L r,posN L q⟩,⟨posN L p,posN L s,posN L r⟩]
def quadAt (L:List V3) (ax e:Nat) (fwd:Bool) (u v:Nat):List V3:=quadF L fwd (nodeAt ax e u v) (nodeAt ax e (u+1) v) (nodeAt ax e (u+1) (v+1)) (nodeAt ax e u (v+1))
def sideP (L:List V3) (ax e:Nat) (fwd:Bool) (nv n:Nat):List V3:=(List.range n).flatMap fun t=>quadAt L ax e fwd (t / nv) (t % nv)
theorem Zze {L:List V3} {ax e nv u v:Nat} {fwd:Bool} (hv:v < nv):sideP L ax e fwd nv (u * nv+v+1)=sideP L ax e fwd nv (u * nv+v)++quadAt L ax e fwd u v:=by
 unfold sideP
 rw [List.range_succ,List.flatMap_append]
 congr 1
 have h1:(u * nv+v) / nv=u:=by rw [Nat.mul_comm,Nat.mul_add_div (by omega),Nat.div_eq_of_lt hv,Nat.add_zero]
 have h2:(u * nv+v) % nv=v:=by rw [Nat.mul_comm,Nat.mul_add_mod,Nat.mod_eq_of_lt hv]
 simp [h1,h2]
theorem Zp9 {L:List V3} {fwd:Bool} {p q r s:V3}:(quadF L fwd p q r s).length=2:=by unfold quadF;cases fwd<;>rfl
theorem Zgr {L:List V3} {ax e nv:Nat} {fwd:Bool}:∀ n:Nat,(sideP L ax e fwd nv n).length=2 * n
 | 0=>rfl
 | n + 1=>by
  have h:sideP L ax e fwd nv (n+1)=sideP L ax e fwd nv n++quadAt L ax e fwd (n / nv) (n % nv):=by
   unfold sideP;rw [List.range_succ,List.flatMap_append];simp
  rw [h,List.length_append,Zgr n,quadAt,Zp9];omega
def size3 (a b c ax:Nat):Nat:=if ax=0 then a else if ax=1 then b else c
def ax1 (ax:Nat):Nat:=if ax=0 then 1 else 0
def ax2 (ax:Nat):Nat:=if ax=2 then 1 else 2
def fwdS (ax en:Nat):Bool:=decide (0 < en) != decide (ax=1)
def sideF (a b c ax en:Nat):List V3:=sideP (nodesF a b c) ax (en * (size3 a b c ax - 1)) (fwdS ax en) (size3 a b c (ax2 ax) - 1) ((size3 a b c (ax1 ax) - 1) * (size3 a b c (ax2 ax) - 1))
def sidesP (a b c n:Nat):List V3:=(List.range n).flatMap fun s=>sideF a b c (s / 2) (s % 2)
def shellF (a b c:Nat):List V3:=sidesP a b c 6
theorem Zl8 {a b c n:Nat}:sidesP a b c (n+1)=sidesP a b c n++sideF a b c (n / 2) (n % 2):=by
 unfold sidesP;rw [List.range_succ,List.flatMap_append];simp
theorem Zkc {a b c ax en u v:Nat} (hax:ax < 3) (hen:en < 2) (ha:2≤a) (hb:2≤b) (hc:2≤c) (hu:u < size3 a b c (ax1 ax)) (hv:v < size3 a b c (ax2 ax)):nodeAt ax (en * (size3 a b c ax - 1)) u v∈nodesF a b c:=by
 have hen:en=0∨en=1:=by omega
 rcases ax with _|_|_|ax
 ·rcases hen with rfl|rfl<;>exact Zg1 (by simp [size3]<;>omega) hu hv (by simp [onI,size3]<;>omega)
 ·rcases hen with rfl|rfl<;>exact Zg1 hu (by simp [size3]<;>omega) hv (by simp [onI,size3]<;>omega)
 ·rcases hen with rfl|rfl<;>exact Zg1 hu hv (by simp [size3]<;>omega) (by simp [onI,size3]<;>omega)
 ·omega
/-! grids -/
def gAt (D:List Int) (p:Nat):Int:=(D[p]?).getD 0
def placeN (b c:Nat) (x:V3):Nat:=3 * ((x.x.toNat * b+x.y.toNat) * c+x.z.toNat)
def pointV (D:List Int) (b c:Nat) (x:V3):V3:=colorV (gAt D (placeN b c x)) (gAt D (placeN b c x+1)) (gAt D (placeN b c x+2))
def shellP (D:List Int) (a b c:Nat):List V3:=(nodesF a b c).map (pointV D b c)
def prodI (S:List Int):Int:=S.foldl (· * ·) 1
def inR (lo hi n:Int):Bool:=decide (lo≤n∧n≤hi)
def gridOk (S:List Int) (out:Int) (D:List Int):Bool:=inR 1 4 S.length&&inR 1 4 out&&S.all (inR 2 9)&&(decide (D.length≤4096)&&decide ((D.length:Int)=prodI S * out))&&D.all (inR 0 65535)
theorem Zss {S:List Int} (h:∀ x∈S,2≤x∧x≤9):∀ k:Nat,1≤prodI (S.take k)∧prodI (S.take k)≤9 ^ k
 | 0=>by simp [prodI]
 | k + 1=>by
  obtain ⟨h1,h2⟩:=Zss h k
  have hp:(0:Int) < 9 ^ k:=Int.pow_pos (by decide)
  rw [Int.pow_succ]
  cases hx:S[k]? with
  | none =>
   have:=List.getElem?_eq_none_iff.1 hx
   rw [List.take_of_length_le (by omega)] at h1 h2 ⊢
   omega
  | some x =>
   obtain ⟨g1,g2⟩:=h x (List.mem_of_getElem? hx)
   rw [prodI,Za1 hx]
   have e:(S.take k).foldl (· * ·) 1=prodI (S.take k):=rfl
   rw [e]
   have a1:=Int.mul_le_mul h2 g2 (by omega) (by omega)
   have a2:=Int.mul_le_mul h1 (show 1≤x by omega) (by omega) (by omega)
   omega
theorem Zj1 {S:List Int} (h:∀ x∈S,2≤x∧x≤9) {k:Nat} (hk:k≤4):1≤prodI (S.take k)∧prodI (S.take k)≤6561:=by
 obtain ⟨h1,h2⟩:=Zss h k
 have hk:k=0∨k=1∨k=2∨k=3∨k=4:=by omega
 refine ⟨h1,Int.le_trans h2 ?_⟩
 rcases hk with rfl|rfl|rfl|rfl|rfl<;>decide
def shellM (D:List Int) (a b c:Nat):Int × List V3 × List V3 :=
 if 300 < (nodesF a b c).length then (3,[],[])
 else if okM (shellP D a b c) (shellF a b c) then (0,shellP D a b c,if volM (shellP D a b c) (shellF a b c) < 0 then (shellF a b c).map swapF else shellF a b c)
 else (5,[],[])
def shellR (S:List Int) (out:Int) (D:List Int):Int × List V3 × List V3 :=
 if gridOk S out D then match S with
  | [a,b,c]=>if out=3 then shellM D a.toNat b.toNat c.toNat else (2,[],[])
  | _=>(2,[],[])
 else (100,[],[])
end Go.Sx
namespace Go.Sx
open Go
def comp (p:V3) (o:Nat):Int:=if o=0 then p.x else if o=1 then p.y else p.z
def stepV (x:V3) (ax:Nat):V3:=if ax=0 then ⟨x.x+1,x.y,x.z⟩ else if ax=1 then ⟨x.x,x.y+1,x.z⟩ else ⟨x.x,x.y,x.z+1⟩
def ordT (t o:Nat):Nat:=(([[0,1,2],[1,0,2],[0,2,1],[2,1,0],[1,2,0],[2,0,1]]:List (List Nat))[t]?.getD [])[o]?.getD 0
theorem Zpg {p q:V3} {o:Nat} (ho:o < 3):comp (p.cross q) ((o+2) % 3)=comp p o * comp q ((o+1) % 3) - comp p ((o+1) % 3) * comp q o:=by
 have h:o=0∨o=1∨o=2:=by omega
 rcases h with rfl|rfl|rfl
 ·simp only [V3.cross,comp,Nat.reduceMod,Nat.reduceAdd];simp
 ·simp only [V3.cross,comp,Nat.reduceMod,Nat.reduceAdd];simp
 ·simp only [V3.cross,comp,Nat.reduceMod,Nat.reduceAdd];simp
theorem Ze5 {p q:V3} {o:Nat}:comp (p.sub q) o=comp p o - comp q o:=by
 unfold comp V3.sub;split
 ·rfl
 ·split<;>rfl
theorem Z4f {o:Nat}:comp V3.zero o=0:=by
 unfold comp V3.zero;split
 ·rfl
 ·split<;>rfl
def Bent (f g:V3→Int) (p q r s:V3):Prop :=
 (g p=g q∧g s=g r∧g p≠g s∧f p≠f q∧f s≠f r)∨(g p=g s∧g q=g r∧g p≠g q∧f p≠f s∧f q≠f r)
theorem Z4n {p q r s:V3} {o:Nat} (ho:o < 3) (h:Bent (comp · o) (comp · ((o+1) % 3)) p q r s):(q.sub p).cross (r.sub p)≠V3.zero∧(r.sub p).cross (s.sub p)≠V3.zero:=by
 unfold Bent at h
 dsimp only at h
 have key:∀ a b c:V3,comp ((b.sub a).cross (c.sub a)) ((o+2) % 3)≠0→(b.sub a).cross (c.sub a)≠V3.zero:=fun a b c h1 h2=>h1 (by rw [h2,Z4f])
 refine ⟨key p q r ?_,key p r s ?_⟩
 ·rw [Zpg ho,Ze5,Ze5,Ze5,Ze5]
  rcases h with ⟨h1,h2,h3,h4,h5⟩|⟨h1,h2,h3,h4,h5⟩
  ·rw [← h1,Int.sub_self,Int.zero_mul,Int.sub_zero]
   exact Int.mul_ne_zero (by omega) (by omega)
  ·rw [← h2]
   have e:(comp q o - comp p o) * (comp q ((o+1) % 3) - comp p ((o+1) % 3)) - (comp q ((o+1) % 3) - comp p ((o+1) % 3)) * (comp r o - comp p o)=(comp q ((o+1) % 3) - comp p ((o+1) % 3)) * (comp q o - comp r o):=by grind
   rw [e]
   exact Int.mul_ne_zero (by omega) (by omega)
 ·rw [Zpg ho,Ze5,Ze5,Ze5,Ze5]
  rcases h with ⟨h1,h2,h3,h4,h5⟩|⟨h1,h2,h3,h4,h5⟩
  ·rw [← h2]
   have e:(comp r o - comp p o) * (comp s ((o+1) % 3) - comp p ((o+1) % 3)) - (comp s ((o+1) % 3) - comp p ((o+1) % 3)) * (comp s o - comp p o)=(comp s ((o+1) % 3) - comp p ((o+1) % 3)) * (comp r o - comp s o):=by grind
   rw [e]
   exact Int.mul_ne_zero (by omega) (by omega)
  ·rw [← h1,Int.sub_self,Int.mul_zero,Int.zero_sub]
   exact fun h=>Int.mul_ne_zero (show comp r ((o+1) % 3) - comp p ((o+1) % 3)≠0 by omega) (show comp s o - comp p o≠0 by omega) (by omega)
def Steps (t:Nat) (φ:V3→V3):Prop:=∀ o,o < 3→∀ x,comp (φ (stepV x (ordT t o))) o≠comp (φ x) o∧comp (φ (stepV x (ordT t ((o+2) % 3)))) o=comp (φ x) o
theorem Z21 {ax e u v:Nat} (hax:ax < 3):nodeAt ax e (u+1) v=stepV (nodeAt ax e u v) (ax1 ax)∧nodeAt ax e u (v+1)=stepV (nodeAt ax e u v) (ax2 ax)∧nodeAt ax e (u+1) (v+1)=stepV (nodeAt ax e (u+1) v) (ax2 ax)∧nodeAt ax e (u+1) (v+1)=stepV (nodeAt ax e u (v+1)) (ax1 ax):=by
 have h:ax=0∨ax=1∨ax=2:=by omega
 rcases h with rfl|rfl|rfl<;>simp [nodeAt,stepV,ax1,ax2]
theorem Z6w:∀ t,t < 6→∀ ax,ax < 3→∃ o,o < 3∧((ordT t o=ax1 ax∧ordT t ((o+1) % 3)=ax2 ax)∨(ordT t o=ax2 ax∧ordT t ((o+1) % 3)=ax1 ax)):=by
 decide +kernel
theorem Steps.bent {t:Nat} {φ:V3→V3} (h:Steps t φ) (ht:t < 6) {ax e u v:Nat} (hax:ax < 3) :
  ∃ o,o < 3∧Bent (comp · o) (comp · ((o+1) % 3)) (φ (nodeAt ax e u v)) (φ (nodeAt ax e (u+1) v)) (φ (nodeAt ax e (u+1) (v+1))) (φ (nodeAt ax e u (v+1))):=by
 obtain ⟨o,ho,hc⟩:=Z6w t ht ax hax
 obtain ⟨n1,n2,n3,n4⟩:=Z21 (e:=e) (u:=u) (v:=v) hax
 have h1:=h o ho
 have h2:=h ((o+1) % 3) (Nat.mod_lt _ (by omega))
 have e3:((o+1) % 3+2) % 3=o:=by omega
 rw [e3] at h2
 refine ⟨o,ho,?_⟩
 rcases hc with ⟨c1,c2⟩|⟨c1,c2⟩
 ·rw [c1] at h1 h2
  rw [c2] at h2
  refine .inl ⟨?_,?_,?_,?_,?_⟩
  ·rw [n1];exact ((h2 _).2).symm
  ·rw [n4];exact ((h2 _).2).symm
  ·rw [n2];exact fun h=>(h2 _).1 h.symm
  ·rw [n1];exact fun h=>(h1 _).1 h.symm
  ·rw [n4];exact fun h=>(h1 _).1 h.symm
 ·rw [c1] at h1 h2
  rw [c2] at h2
  refine .inr ⟨?_,?_,?_,?_,?_⟩
  ·rw [n2];exact ((h2 _).2).symm
  ·rw [n3];exact ((h2 _).2).symm
  ·rw [n1];exact fun h=>(h2 _).1 h.symm
  ·rw [n2];exact fun h=>(h1 _).1 h.symm
  ·rw [n3];exact fun h=>(h1 _).1 h.symm
theorem Zzg {t a b c:Nat} {φ:V3→V3} (h:Steps t φ) (ht:t < 6) (ha:2≤a) (hb:2≤b) (hc:2≤c):flatF ((nodesF a b c).map φ) (shellF a b c)=none:=by
 refine List.findIdx?_eq_none_iff.2 fun f hf=>?_
 unfold shellF sidesP at hf
 obtain ⟨s,hs,hf⟩:=List.mem_flatMap.1 hf
 have hs:=List.mem_range.1 hs
 unfold sideF sideP at hf
 obtain ⟨n,hn,hf⟩:=List.mem_flatMap.1 hf
 have hn:=List.mem_range.1 hn
 have hax:s / 2 < 3:=by omega
 have hen:s % 2 < 2:=Nat.mod_lt _ (by omega)
 have h2:∀ x,2≤size3 a b c x:=fun x=>by
  unfold size3
  split
  ·exact ha
  ·split
   ·exact hb
   ·exact hc
 have s1:=h2 (ax1 (s / 2))
 have s2:=h2 (ax2 (s / 2))
 generalize hnv:size3 a b c (ax2 (s / 2)) - 1=nv at hn hf
 generalize hnu:size3 a b c (ax1 (s / 2)) - 1=nu at hn
 have hv:n % nv < nv:=Nat.mod_lt _ (by omega)
 have hu:n / nv < nu:=by rw [Nat.div_lt_iff_lt_mul (by omega)];exact hn
 generalize hU:n / nv=u at hf hu
 generalize hV:n % nv=v at hf hv
 generalize hE:s % 2 * (size3 a b c (s / 2) - 1)=e at hf
 have mm:∀ u v,u < size3 a b c (ax1 (s / 2))→v < size3 a b c (ax2 (s / 2))→nodeAt (s / 2) e u v∈nodesF a b c:=fun u v h1 h2=>by rw [← hE];exact Zkc hax hen ha hb hc h1 h2
 have hnd:(nodesF a b c).Nodup:=Zcj a b c (a * b * c)
 have pt:∀ x,x∈nodesF a b c→ptAt ((nodesF a b c).map φ) (posN (nodesF a b c) x:Nat)=φ x:=fun x hx=>by
  obtain ⟨p1,p2⟩:=Zhj hnd hx
  rw [Zbk (by omega) (by omega)]
  congr 1
  unfold ptAt
  rw [Int.toNat_natCast,p1];rfl
 have p1:=pt _ (mm u v (by omega) (by omega))
 have p2:=pt _ (mm (u+1) v (by omega) (by omega))
 have p3:=pt _ (mm (u+1) (v+1) (by omega) (by omega))
 have p4:=pt _ (mm u (v+1) (by omega) (by omega))
 obtain ⟨o,ho,hb'⟩:=h.bent (e:=e) (u:=u) (v:=v) ht hax
 obtain ⟨k1,k2⟩:=Z4n ho hb'
 have tn:∀ x y z:V3,(y.sub x).cross (z.sub x)≠V3.zero→(z.sub x).cross (y.sub x)≠V3.zero:=fun x y z h1 h2=>by
  apply h1
  rw [Zmk] at h2
  generalize (y.sub x).cross (z.sub x)=n at h2
  obtain ⟨n1,n2,n3⟩:=n
  simp only [V3.zero,V3.mk.injEq] at h2 ⊢
  omega
 have k3:=tn _ _ _ k1
 have k4:=tn _ _ _ k2
 unfold quadAt quadF at hf
 refine decide_eq_false ?_
 unfold normal
 split at hf
 ·simp only [List.mem_cons,List.not_mem_nil,or_false] at hf
  rcases hf with rfl|rfl
  ·rw [p1,p2,p3];exact k1
  ·rw [p1,p3,p4];exact k2
 ·simp only [List.mem_cons,List.not_mem_nil,or_false] at hf
  rcases hf with rfl|rfl
  ·rw [p1,p2,p3];exact k3
  ·rw [p1,p3,p4];exact k4
def faceB (L:List V3) (a b c:Nat) (f:V3):Bool :=
 let p:=ptAt L f.x;let q:=ptAt L f.y;let r:=ptAt L f.z
 let near:=fun x y z:Int=>decide (max x (max y z) - min x (min y z)≤1)
 let same:=fun (x y z:Int) (n:Nat)=>decide (x=y)&&decide (y=z)&&(decide (x=0)||decide (x+1=n))
 near p.x q.x r.x&&near p.y q.y r.y&&near p.z q.z r.z&&(same p.x q.x r.x a||same p.y q.y r.y b||same p.z q.z r.z c)
def sizeB (a b c:Nat):Bool :=
 fastOk (nodesF a b c).length 6 (shellF a b c)&&fastOk (nodesF a b c).length 6 ((shellF a b c).map swapF)&&(shellF a b c).all (faceB (nodesF a b c) a b c)
set_option maxRecDepth 100000 in
theorem Z6c:∀ s,s < 36→sizeB (2+s % 4) (2+s / 4 % 3) (2+s / 12 % 3)=true:=by decide +kernel
structure Sz (a b c:Nat):Prop where
 a2:2≤a
 a5:a≤5
 b2:2≤b
 b4:b≤4
 c2:2≤c
 c4:c≤4
theorem Sz.b {a b c:Nat} (h:Sz a b c):sizeB a b c=true:=by
 obtain ⟨h1,h2,h3,h4,h5,h6⟩:=h
 have:=Z6c ((a - 2)+4 * ((b - 2)+3 * (c - 2))) (by omega)
 have e1:2+((a - 2)+4 * ((b - 2)+3 * (c - 2))) % 4=a:=by omega
 have e2:2+((a - 2)+4 * ((b - 2)+3 * (c - 2))) / 4 % 3=b:=by omega
 have e3:2+((a - 2)+4 * ((b - 2)+3 * (c - 2))) / 12 % 3=c:=by omega
 rwa [e1,e2,e3] at this
theorem Z1x {a b c ax en:Nat}:(sideF a b c ax en).length=2 * ((size3 a b c (ax1 ax) - 1) * (size3 a b c (ax2 ax) - 1)):=by
 unfold sideF;rw [Zgr]
theorem Zzh {a b c:Nat}:(shellF a b c).length=4 * ((a - 1) * (b - 1)+(a - 1) * (c - 1)+(b - 1) * (c - 1)):=by
 unfold shellF sidesP
 have h:List.range 6=[0,1,2,3,4,5]:=rfl
 rw [h]
 simp only [List.flatMap_cons,List.flatMap_nil,List.length_append,Z1x,List.length_nil,size3,ax1,ax2]
 simp
 omega
theorem Sz.count {a b c:Nat} (h:Sz a b c):(nodesF a b c).length+(a - 2) * (b - 2) * (c - 2)=a * b * c:=by
 obtain ⟨h1,h2,h3,h4,h5,h6⟩:=h
 have:=Zml (a - 2) (by omega) (b - 2) (by omega) (c - 2) (by omega)
 rwa [show a - 2+2=a by omega,show b - 2+2=b by omega,show c - 2+2=c by omega] at this
theorem Sz.len {a b c:Nat} (h:Sz a b c):8≤(nodesF a b c).length∧(nodesF a b c).length≤80∧(shellF a b c).length+4=2 * (nodesF a b c).length:=by
 have hc:=h.count
 rw [Zzh]
 obtain ⟨h1,h2,h3,h4,h5,h6⟩:=h
 have ha:a=2∨a=3∨a=4∨a=5:=by omega
 have hb:b=2∨b=3∨b=4:=by omega
 have hc':c=2∨c=3∨c=4:=by omega
 rcases ha with rfl|rfl|rfl|rfl<;>rcases hb with rfl|rfl|rfl<;>rcases hc' with rfl|rfl|rfl<;>omega
theorem Zeg {t a b c:Nat} {φ:V3→V3} (hz:Sz a b c) (h:Steps t φ) (ht:t < 6) (hf:∀ x∈nodesF a b c,isFar (φ x)=false):Good ((nodesF a b c).map φ) (shellF a b c):=by
 obtain ⟨l1,l2,l3⟩:=hz.len
 have hb:=hz.b
 simp only [sizeB,Bool.and_eq_true] at hb
 have hc:=Z3w hb.1.1 (by omega)
 refine Zqy (by rw [List.length_map];omega) (by rw [List.length_map];omega) (by omega) (by omega) ?_ (by rw [List.length_map];exact hc) (Zzg h ht hz.a2 hz.b2 hz.c2)
 refine List.findIdx?_eq_none_iff.2 fun p hp=>?_
 obtain ⟨x,hx,rfl⟩:=List.mem_map.1 hp
 exact hf x hx
theorem Zdz {t a b c:Nat} {φ:V3→V3} (hz:Sz a b c) (h:Steps t φ) (ht:t < 6) (hf:∀ x∈nodesF a b c,isFar (φ x)=false):Good ((nodesF a b c).map φ) ((shellF a b c).map swapF):=by
 have hg:=Zeg hz h ht hf
 have hb:=hz.b
 simp only [sizeB,Bool.and_eq_true] at hb
 obtain ⟨l1,l2,l3⟩:=hz.len
 have hc:=Z3w hb.1.2 (by rw [List.length_map];omega)
 exact Zqy hg.p4 hg.p300 (by simpa using hg.f4) (by simpa using hg.f600) hg.far (by rw [List.length_map];exact hc) (Zto hg.flat)
def colV (p:V3):V3:=colorV p.x p.y p.z
structure D37 where
 t:Nat
 s0:Nat
 s1:Nat
 s2:Nat
 h0:Nat
 h1:Nat
 h2:Nat
def D37.ok (d:D37):Prop:=d.t < 6∧(1000≤d.s0∧d.s0 < 10000)∧(1000≤d.s1∧d.s1 < 10000)∧(1000≤d.s2∧d.s2 < 10000)∧d.h0 < 256∧d.h1 < 256∧d.h2 < 256
def D37.out (d:D37) (x:V3):V3 :=
 ⟨8000+d.s0 * comp x (ordT d.t 0)+8 * d.h0 * comp x (ordT d.t 1),8000+d.s1 * comp x (ordT d.t 1)+8 * d.h1 * comp x (ordT d.t 2),8000+d.s2 * comp x (ordT d.t 2)+8 * d.h2 * comp x (ordT d.t 0)⟩
theorem Zb8 {x:V3} {i j:Nat} (hi:i < 3) (hj:j < 3):comp (stepV x i) j=comp x j+(if i=j then 1 else 0):=by
 have h1:i=0∨i=1∨i=2:=by omega
 have h2:j=0∨j=1∨j=2:=by omega
 rcases h1 with rfl|rfl|rfl<;>rcases h2 with rfl|rfl|rfl<;>simp [comp,stepV]
theorem Z2u:∀ t,t < 6→(ordT t 0 < 3∧ordT t 1 < 3∧ordT t 2 < 3)∧ordT t 0≠ordT t 1∧ordT t 0≠ordT t 2∧ordT t 1≠ordT t 2:=by decide +kernel
theorem Zqj {n d w:Int} (hd:1000≤d) (hw:100000≤w):nearI n w < nearI (n+d) w:=by
 have h1:=Int.mul_le_mul hd hw (by decide) (by omega)
 have e:2 * (n+d) * w=2 * n * w+2 * (d * w):=by grind
 unfold nearI
 rw [e]
 generalize 2 * n * w=k
 generalize d * w=m at h1 ⊢
 omega
theorem Zg9 {d:D37} (h:d.ok):Steps d.t fun x=>colV (d.out x):=by
 obtain ⟨ht,⟨a0,_⟩,⟨a1,_⟩,⟨a2,_⟩,_⟩:=h
 obtain ⟨⟨b0,b1,b2⟩,c1,c2,c3⟩:=Z2u d.t ht
 intro o ho x
 have h:o=0∨o=1∨o=2:=by omega
 rcases h with rfl|rfl|rfl
 ·have k0:=Zb8 (x:=x) b0 b0
  have k1:=Zb8 (x:=x) b0 b1
  have k2:=Zb8 (x:=x) b2 b0
  have k3:=Zb8 (x:=x) b2 b1
  rw [if_pos rfl] at k0
  rw [if_neg c1] at k1
  rw [if_neg (Ne.symm c2)] at k2
  rw [if_neg (Ne.symm c3)] at k3
  constructor
  ·show nearI _ 100000≠nearI _ 100000
   simp only [D37.out,k0,k1,Int.add_zero]
   have e:(8000:Int)+d.s0 * (comp x (ordT d.t 0)+1)+8 * d.h0 * comp x (ordT d.t 1)=8000+d.s0 * comp x (ordT d.t 0)+8 * d.h0 * comp x (ordT d.t 1)+d.s0:=by grind
   rw [e]
   exact fun h=>absurd (Zqj (n:=8000+d.s0 * comp x (ordT d.t 0)+8 * d.h0 * comp x (ordT d.t 1)) (d:=d.s0) (w:=100000) (by omega) (by decide)) (by omega)
  ·show nearI _ 100000=nearI _ 100000
   simp only [D37.out,Nat.reduceAdd,Nat.reduceMod,k2,k3,Int.add_zero]
 ·have k0:=Zb8 (x:=x) b1 b1
  have k1:=Zb8 (x:=x) b1 b2
  have k2:=Zb8 (x:=x) b0 b1
  have k3:=Zb8 (x:=x) b0 b2
  rw [if_pos rfl] at k0
  rw [if_neg c3] at k1
  rw [if_neg c1] at k2
  rw [if_neg c2] at k3
  constructor
  ·show nearI _ 256000 - 128000≠nearI _ 256000 - 128000
   simp only [D37.out,k0,k1,Int.add_zero]
   have e:(8000:Int)+d.s1 * (comp x (ordT d.t 1)+1)+8 * d.h1 * comp x (ordT d.t 2)=8000+d.s1 * comp x (ordT d.t 1)+8 * d.h1 * comp x (ordT d.t 2)+d.s1:=by grind
   rw [e]
   exact fun h=>absurd (Zqj (n:=8000+d.s1 * comp x (ordT d.t 1)+8 * d.h1 * comp x (ordT d.t 2)) (d:=d.s1) (w:=256000) (by omega) (by decide)) (by omega)
  ·show nearI _ 256000 - 128000=nearI _ 256000 - 128000
   simp only [D37.out,Nat.reduceAdd,Nat.reduceMod,k2,k3,Int.add_zero]
 ·have k0:=Zb8 (x:=x) b2 b2
  have k1:=Zb8 (x:=x) b2 b0
  have k2:=Zb8 (x:=x) b1 b2
  have k3:=Zb8 (x:=x) b1 b0
  rw [if_pos rfl] at k0
  rw [if_neg (Ne.symm c2)] at k1
  rw [if_neg c3] at k2
  rw [if_neg (Ne.symm c1)] at k3
  constructor
  ·show nearI _ 256000 - 128000≠nearI _ 256000 - 128000
   simp only [D37.out,k0,k1,Int.add_zero]
   have e:(8000:Int)+d.s2 * (comp x (ordT d.t 2)+1)+8 * d.h2 * comp x (ordT d.t 0)=8000+d.s2 * comp x (ordT d.t 2)+8 * d.h2 * comp x (ordT d.t 0)+d.s2:=by grind
   rw [e]
   exact fun h=>absurd (Zqj (n:=8000+d.s2 * comp x (ordT d.t 2)+8 * d.h2 * comp x (ordT d.t 0)) (d:=d.s2) (w:=256000) (by omega) (by decide)) (by omega)
  ·show nearI _ 256000 - 128000=nearI _ 256000 - 128000
   simp only [D37.out,Nat.reduceAdd,Nat.reduceMod,k2,k3,Int.add_zero]
end Go.Sx
