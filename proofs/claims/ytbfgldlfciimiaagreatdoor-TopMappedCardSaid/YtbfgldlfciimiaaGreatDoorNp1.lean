/- Plain: the chapter on intents: the neutral axis of a mesh, anchors, results. -/
import Derived.Test.YtbfgldlfciimiaaGreatDoorIm1
import Derived.Test.YtbfgldlfciimiaaGreatDoorIx9
namespace Go.Sx
open Go
theorem Zz2 (a:Rat):Go.Proofs.YtbfgldlfciimiaaGreatDoor.Q.nearQ (a - mkRat 1 2) 1=a.floor:=by
 have e:Go.Proofs.YtbfgldlfciimiaaGreatDoor.Q.nearQ (a - mkRat 1 2) 1=((a - mkRat 1 2) * ((1:Nat):Rat)+mkRat 1 2).floor:=Z6k _
 rw [e]
 congr 1
 have:((1:Nat):Rat)=1:=rfl
 rw [this]
 generalize mkRat 1 2=h
 grind
theorem Ybb (t:Rat):((100000:Rat) * (1 - t)).floor=100000+((-100000:Rat) * t).floor:=by
 have e:(100000:Rat) * (1 - t)=((100000:Int):Rat)+(-100000:Rat) * t:=by
  have:((100000:Int):Rat)=100000:=rfl
  rw [this];grind
 rw [e,Rat.add_comm,Rat.floor_add_intCast,Int.add_comm]
theorem Yd5 (t:Rat):-((100000:Rat) * t)=(-100000:Rat) * t:=by grind
def blackV:V3:=⟨0,0,0⟩
def whiteV:V3:=⟨100000,0,0⟩
def lowO (P F:List V3):Option Int:=if (sideW P F blackV).1=0 then (rayM metP P F blackV whiteV false).map fun x=>-((-100000:Rat) * x.1).floor else some 0
def highO (P F:List V3):Option Int:=if (sideW P F whiteV).1=0 then (rayM metP P F whiteV blackV false).map fun x=>100000+((-100000:Rat) * x.1).floor else some 100000
def extO (P F:List V3):Option (Int × Int):=(lowO P F).bind fun l=>(highO P F).bind fun h=>if h < l then none else some (l,h)
def anchorV (l h:Int) (p:V3):V3:=⟨min (max p.x (l+(h - l) / 4)) (h - (h - l) / 4),0,0⟩
def anchorO (P F:List V3) (p:V3):Option V3:=(extO P F).bind fun x=>if (sideW P F (anchorV x.1 x.2 p)).1=2 then some (anchorV x.1 x.2 p) else none
def anchorW (P F:List V3) (p:V3):V3 × Int:=if (flawM P F).1≠0 then (V3.zero,350) else if isFar p then (V3.zero,2) else match anchorO P F p with
 | none=>(V3.zero,4)
 | some c=>(c,0)
theorem Zln {t:Rat} (h0:0≤t) (h1:t≤1):-100000≤((-100000:Rat) * t).floor∧((-100000:Rat) * t).floor≤0:=by
 constructor
 ·rw [Rat.le_floor_iff]
  have:((-100000:Int):Rat)=-100000:=rfl
  rw [this];grind
 ·have h:((-100000:Rat) * t).floor < 1:=by
   rw [Rat.floor_lt_iff]
   have:((1:Int):Rat)=1:=rfl
   rw [this];grind
  omega
theorem Yea {P F:List V3} (hg:Good P F) {l:Int} (h:lowO P F=some l):0≤l∧l≤100000:=by
 unfold lowO at h
 split at h
 ·rw [Option.map_eq_some_iff] at h
  obtain ⟨⟨t,j⟩,h1,rfl⟩:=h
  obtain ⟨_,_,h2,h3,_⟩:=(Zi4 hg (a:=blackV) (b:=whiteV) (by decide)).1 t j h1
  have:=Zln h2 h3
  simp only
  omega
 ·cases h;omega
theorem Yba {P F:List V3} (hg:Good P F) {l:Int} (h:highO P F=some l):0≤l∧l≤100000:=by
 unfold highO at h
 split at h
 ·rw [Option.map_eq_some_iff] at h
  obtain ⟨⟨t,j⟩,h1,rfl⟩:=h
  obtain ⟨_,_,h2,h3,_⟩:=(Zi4 hg (a:=whiteV) (b:=blackV) (by decide)).1 t j h1
  have:=Zln h2 h3
  simp only
  omega
 ·cases h;omega
theorem Z9f {P F:List V3} (hg:Good P F) {l h:Int} (he:extO P F=some (l,h)):0≤l∧l≤h∧h≤100000:=by
 unfold extO at he
 rw [Option.bind_eq_some_iff] at he
 obtain ⟨l',h1,he⟩:=he
 rw [Option.bind_eq_some_iff] at he
 obtain ⟨h',h2,he⟩:=he
 split at he
 ·cases he
 ·cases he
  have:=Yea hg h1
  have:=Yba hg h2
  omega
theorem Zkd {P F:List V3} (hg:Good P F) {l h:Int} (he:extO P F=some (l,h)) (p:V3):isFar (anchorV l h p)=false:=by
 obtain ⟨h1,h2,h3⟩:=Z9f hg he
 rw [Zxs]
 unfold anchorV
 simp only
 omega
def atQ (c p:V3) (s:Rat):List Rat:=[(c.x:Rat)+s * ((p.x - c.x:Int):Rat),(c.y:Rat)+s * ((p.y - c.y:Int):Rat),(c.z:Rat)+s * ((p.z - c.z:Int):Rat)]
def exactQ (p:V3):List Rat:=[(p.x:Rat),(p.y:Rat),(p.z:Rat)]
def clipW (P F:List V3) (p:V3):Int ⊕ List Rat:=if (flawM P F).1≠0 then .inl 350 else if isFar p then .inl 2 else match anchorO P F p with
 | none=>.inl 4
 | some c=>if (sideW P F p).1≠0 then .inr (exactQ p) else match rayM metP P F p c false with
  | none=>.inl 4
  | some (t,_)=>.inr (atQ p c t)
def pressQ (knee most:Int) (t:Rat):Int ⊕ Rat :=
 if t=0 then .inl 7
 else if t⁻¹≤qI knee 1000 then .inr 1
 else if qI most 1000≤t⁻¹ then .inr t
 else .inr (t * (qI knee 1000+(1 - qI knee 1000) * ((t⁻¹ - qI knee 1000) * (qI most 1000 - qI knee 1000)⁻¹)))
def compressW (P F:List V3) (p:V3) (knee most:Int):Int ⊕ List Rat:=if (flawM P F).1≠0 then .inl 350 else if isFar p then .inl 2
 else if knee < 0∨1000≤knee∨most≤1000∨10000 < most then .inl 380 else match anchorO P F p with
 | none=>.inl 4
 | some c=>if p=c then .inr (exactQ p) else match rayM metP P F c p true with
  | none=>.inl 4
  | some (t,_)=>match pressQ knee most t with
   | .inl e=>.inl e
   | .inr s=>.inr (atQ c p s)
theorem Zlf {P F:List V3} {a b:V3} {t:Rat} {j:Nat} {y:Bool} (hg:Good P F) (ha:isFar a=false) (hb:isFar b=false) (hab:a≠b) (h:rayM metP P F a b y=some (t,j)):Fit 19 t:=by
 have hd:b.sub a≠V3.zero:=by
  intro h
  apply hab
  rw [Zcm]
  simp only [V3.sub,V3.zero,V3.mk.injEq] at h
  omega
 have hs:=Zdq (g:=fun f=>metP y (relV P a f.x) (relV P a f.y) (relV P a f.z) (b.sub a)) (F:=F) (k:=F.length) (Nat.le_refl _)
 obtain ⟨_,⟨f,hf,hm⟩,_⟩:=hs.2 t j h
 obtain ⟨n1,n2,n3⟩:=(hg.see ha).rel (List.mem_of_getElem? hf)
 exact Zll n1 n2 n3 (Zdy (Zcv hb) (Zcv ha)) hd hm
theorem Zbx {z:Int} (h:-400000≤z∧z≤400000):Fit 6 (z:Rat):=by
 refine Fit.of (by decide) ?_ ?_
 ·rw [Rat.num_intCast];omega
 ·rw [Rat.den_intCast];decide
theorem Zq0 {c p:Int} {s:Rat} {k:Nat} (hc:-200000≤c∧c≤200000) (hp:-200000≤p∧p≤200000) (hs:Fit k s):Fit (k+6) (s * ((p - c:Int):Rat))∧Fit (6+(k+6)+1) ((c:Rat)+s * ((p - c:Int):Rat)):=by
 have h1:=hs.mul (Zbx (z:=p - c) (by omega))
 exact ⟨h1,(Zbx (z:=c) (by omega)).add h1⟩
end Go.Sx
namespace Go.Sx
open Go
variable {P F:List V3} {a b c p v:V3}
theorem Zw6 (hg:Good P F) (ha:isFar a=false) (h:(sideW P F a).1=2):onM axP P F a=false∧windN P F a≠0:=by
 have f1:(flawM P F).1=0:=Yft.2 hg
 unfold sideW at h
 rw [f1,ha] at h
 cases ho:onM axP P F a with
 | true=>rw [ho] at h;simp at h
 | false =>
  rw [ho] at h
  simp only [ne_eq,not_true_eq_false,if_false,Bool.false_eq_true] at h
  refine ⟨rfl,fun hw=>?_⟩
  rw [hw] at h;simp at h
theorem Z53 (hg:Good P F) {i:Int} (hi:0 < i) (hv:v≠V3.zero) (h:∀ s,MeetF P F a v s→0≤s→s≤(i:Rat)→False) :
  windN P F (a.plus (V3.smul i v))=windN P F a:=by
 have e1:V3.smul 1 v=v:=by simp [V3.smul]
 have q1:qI i 1=(i:Rat):=by unfold qI;rw [if_neg (by decide)];exact Rat.mkRat_one i
 have h':∀ s,MeetF P F a (V3.smul 1 v) s→0≤s→s≤qI i 1→False:=fun s=>by rw [e1,q1];exact h s
 have hi0:0≤qI i 1:=(Zfo (by decide)).2 (Int.le_of_lt hi)
 have off1:onM axP P F (a.plus (V3.smul i v))=false:=by
  cases ho:onM axP P F (a.plus (V3.smul i v)) with
  | false=>rfl
  | true=>exact (h' _ ((Zou hg (n:=1) (by decide)).1 ho) hi0 Rat.le_refl).elim
 have off0:onM axP P F a=false:=by
  cases ho:onM axP P F a with
  | false=>rfl
  | true =>
   rw [← Zi6 a v] at ho
   exact (h' _ ((Zou hg (n:=1) (by decide)).1 ho) (by rw [Zer];exact Rat.le_refl) (by rw [Zer];exact hi0)).elim
 obtain ⟨t,_,_,_,hf⟩:=Zcc hg a
 obtain ⟨t',_,_,_,hf'⟩:=Zcc hg (a.plus (V3.smul i v))
 rw [Zcx hg off0 hf,Zcx hg off1 hf']
 refine (Zw8 hg (Zut (by omega) hv) (fun f hfF k m hk hkm hh=>?_) hf hf').symm
 have hm:0 < m:=hh.1
 refine h' (qI (k * i) (m * 1)) ⟨f,hfF,_,_,rfl,Zg3 (by decide) hh⟩ ((Zfo (Int.mul_pos hm (by decide))).2 (Int.mul_nonneg hk (Int.le_of_lt hi))) ?_
 rw [Yal (Int.mul_pos hm (by decide)) (by decide)]
 have:=Int.mul_le_mul_of_nonneg_right hkm (Int.le_of_lt hi)
 grind
theorem Z7y (hg:Good P F) {e:V3} (h:(200000 < e.x∨e.x < -200000)∨(200000 < e.y∨e.y < -200000)∨(200000 < e.z∨e.z < -200000)):windN P F e=0:=by
 have hfar:∀ q∈P,q.in 200000:=fun q hq=>Zcv (List.findIdx?_eq_none_iff.1 hg.far q hq)
 have key:∀ n:V3,(∀ q:V3,q.in 200000→0 < n.dot (q.sub e))→windN P F e=0:=fun n hn=>by
  refine Ztd hg (n:=n) fun f hf=>?_
  obtain ⟨h1,h2,h3⟩:=Zit hg hf
  have k:∀ i:Int,0≤i∧i < P.length→0 < n.dot (relV P e i):=fun i hi=>by
   have hlt:i.toNat < P.length:=by omega
   have e1:relV P e i=(P[i.toNat]).sub e:=by unfold relV ptAt;rw [List.getElem?_eq_getElem hlt];rfl
   rw [e1]
   exact hn _ (hfar _ (List.getElem_mem _))
  exact ⟨k _ h1,k _ h2,k _ h3⟩
 rcases h with (h|h)|(h|h)|(h|h)
 ·exact key ⟨-1,0,0⟩ fun q ⟨q1,q2,q3,q4,q5,q6⟩=>by simp only [V3.dot,V3.sub];omega
 ·exact key ⟨1,0,0⟩ fun q ⟨q1,q2,q3,q4,q5,q6⟩=>by simp only [V3.dot,V3.sub];omega
 ·exact key ⟨0,-1,0⟩ fun q ⟨q1,q2,q3,q4,q5,q6⟩=>by simp only [V3.dot,V3.sub];omega
 ·exact key ⟨0,1,0⟩ fun q ⟨q1,q2,q3,q4,q5,q6⟩=>by simp only [V3.dot,V3.sub];omega
 ·exact key ⟨0,0,-1⟩ fun q ⟨q1,q2,q3,q4,q5,q6⟩=>by simp only [V3.dot,V3.sub];omega
 ·exact key ⟨0,0,1⟩ fun q ⟨q1,q2,q3,q4,q5,q6⟩=>by simp only [V3.dot,V3.sub];omega
theorem Zw5 (h:a≠b):b.sub a≠V3.zero:=by
 intro h'
 apply h
 rw [Zcm]
 simp only [V3.sub,V3.zero,V3.mk.injEq] at h'
 omega
theorem Zp6 (hg:Good P F) {y:Bool} (hab:a≠b) (h:rayM metP P F a b y=none):∀ s,MeetF P F a (b.sub a) s→(path0 y).has s→False:=by
 intro s hs hp
 have hd:=Zw5 hab
 have hs':=Zdq (g:=fun f=>metP y (relV P a f.x) (relV P a f.y) (relV P a f.z) (b.sub a)) (F:=F) (k:=F.length) (Nat.le_refl _)
 obtain ⟨f,hf,hh⟩:=hs
 obtain ⟨u,hu,_⟩:=(Zlk y (hg.nzR a hf) hd).2 s hh hp
 obtain ⟨i,hi⟩:=List.getElem?_of_mem hf
 have:=hs'.1 h i (List.getElem?_eq_some_iff.1 hi).1 f hi
 rw [hu] at this
 cases this
theorem Zp5 (hg:Good P F) {y:Bool} (hab:a≠b) {t:Rat} {j:Nat} (h:rayM metP P F a b y=some (t,j)):MeetF P F a (b.sub a) t∧(path0 y).has t∧∀ s,MeetF P F a (b.sub a) s→(path0 y).has s→t≤s:=by
 have hd:=Zw5 hab
 have hs:=Zdq (g:=fun f=>metP y (relV P a f.x) (relV P a f.y) (relV P a f.z) (b.sub a)) (F:=F) (k:=F.length) (Nat.le_refl _)
 obtain ⟨_,⟨f,hf,hfm⟩,k3⟩:=hs.2 t j h
 have hfF:=List.mem_of_getElem? hf
 obtain ⟨q1,q2⟩:=(Zlk y (hg.nzR a hfF) hd).1 t hfm
 refine ⟨⟨f,hfF,q1⟩,q2,fun s hs' hp=>?_⟩
 obtain ⟨f',hf',hh⟩:=hs'
 obtain ⟨u,hu,hle⟩:=(Zlk y (hg.nzR a hf') hd).2 s hh hp
 obtain ⟨i,hi⟩:=List.getElem?_of_mem hf'
 exact Rat.le_trans (k3 i (List.getElem?_eq_some_iff.1 hi).1 f' hi u hu) hle
theorem Zxv (hg:Good P F) (hc:isFar c=false) (h2:(sideW P F c).1=2) (hp:c≠p):∃ t j,rayM metP P F c p true=some (t,j):=by
 cases hr:rayM metP P F c p true with
 | some x=>exact ⟨x.1,x.2,rfl⟩
 | none =>
  exfalso
  obtain ⟨_,hw⟩:=Zw6 hg hc h2
  have hn:=Zp6 hg hp hr
  have hv:=Zw5 hp
  have hci:=Zcv hc
  obtain ⟨c1,c2,c3,c4,c5,c6⟩:=hci
  apply hw
  rw [← Z53 (i:=1000000) hg (by decide) hv fun s hs h0 _=>hn s hs ⟨h0,.inl rfl⟩]
  refine Z7y hg ?_
  generalize p.sub c=v at hv
  obtain ⟨x,y,z⟩:=v
  simp only [V3.plus,V3.smul]
  simp only [V3.zero,ne_eq,V3.mk.injEq] at hv
  omega
theorem Zxw (hg:Good P F) (hc:isFar c=false) (h2:(sideW P F c).1=2) (hp:c≠p) {y:Bool} {t:Rat} {j:Nat} (h:rayM metP P F c p y=some (t,j)):0 < t:=by
 obtain ⟨⟨f,hf,hh⟩,hhas,_⟩:=Zp5 hg hp h
 have h0:(0:Rat)≤t:=hhas.1
 refine Rat.lt_of_le_of_ne h0 fun e=>?_
 rw [← e] at hh
 have:onM axP P F c=true:=(Zd6 hg).2 ⟨f,hf,Z7l.1 hh⟩
 rw [(Zw6 hg hc h2).1] at this
 cases this
theorem Z2q (hg:Good P F) (hp:isFar p=false) (hc:isFar c=false) (h0:(sideW P F p).1=0) (h2:(sideW P F c).1=2):p≠c∧∃ t j,rayM metP P F p c false=some (t,j):=by
 have hne:p≠c:=fun e=>by rw [e,h2] at h0;cases h0
 refine ⟨hne,?_⟩
 cases hr:rayM metP P F p c false with
 | some x=>exact ⟨x.1,x.2,rfl⟩
 | none =>
  exfalso
  have hn:=Zp6 hg hne hr
  have e:p.plus (V3.smul 1 (c.sub p))=c:=by
   rw [Zcm];simp only [V3.plus,V3.smul,V3.sub];omega
  have e1:V3.smul 1 (c.sub p)=c.sub p:=by simp [V3.smul]
  have:=Zpu hg (a:=p) (v:=c.sub p) (n:=1) (i:=1) (by decide) (by decide) (Zw5 hne) hp (by rw [e];exact hc) fun s hs k0 k1=>by
   rw [e1] at hs
   refine hn s hs ⟨k0,.inr ?_⟩
   have:qI 1 1=1:=by decide +kernel
   rw [this] at k1;exact k1
  rw [e] at this
  rw [this.1,h0] at h2
  cases h2
/-! compressed colors -/
theorem Z1h {n m:Int}:qI n 1000≤qI m 1000↔n≤m:=by
 rw [Yal (by decide) (by decide)];omega
theorem Z57:qI 1000 1000=1:=by decide +kernel
theorem Z1g:qI 0 1000=0:=by decide +kernel
theorem Z3g {k m:Int} (h0:0≤k) (h1:k < 1000) (h2:1000 < m):0≤qI k 1000∧qI k 1000≤1∧qI k 1000 < 1∧1 < qI m 1000:=by
 have a:=(Z1h (n:=0) (m:=k)).2 h0
 have b:=(Z1h (n:=k) (m:=1000)).2 (by omega)
 have c:¬ qI 1000 1000≤qI k 1000:=fun h=>by have:=Z1h.1 h;omega
 have d:¬ qI m 1000≤qI 1000 1000:=fun h=>by have:=Z1h.1 h;omega
 rw [Z1g] at a
 rw [Z57] at b c d
 exact ⟨a,b,Rat.not_le.1 c,Rat.not_le.1 d⟩
theorem Zxj {k m:Int} (h0:0≤k) (h1:k < 1000) (h2:1000 < m) {t:Rat} (ht:0 < t):∃ s,pressQ k m t=.inr s∧0≤s∧s≤1∧s≤t:=by
 obtain ⟨a,b,c,d⟩:=Z3g h0 h1 h2
 have hi:0 < t⁻¹:=Rat.inv_pos.2 ht
 have e:t * t⁻¹=1:=Rat.mul_inv_cancel t (by grind)
 unfold pressQ
 rw [if_neg (by grind)]
 generalize qI k 1000=K at *
 generalize qI m 1000=M at *
 generalize t⁻¹=D at *
 by_cases q1:D≤K
 ·rw [if_pos q1]
  refine ⟨1,rfl,by decide,by decide,?_⟩
  have:=Rat.mul_le_mul_of_nonneg_left (show D≤1 by grind) (Rat.le_of_lt ht)
  grind
 ·rw [if_neg q1]
  by_cases q2:M≤D
  ·rw [if_pos q2]
   refine ⟨t,rfl,Rat.le_of_lt ht,?_,Rat.le_refl⟩
   have:=Rat.mul_le_mul_of_nonneg_left (show 1≤D by grind) (Rat.le_of_lt ht)
   grind
  ·rw [if_neg q2]
   have hw:0 < (M - K)⁻¹:=Rat.inv_pos.2 (by grind)
   have ew:(M - K) * (M - K)⁻¹=1:=Rat.mul_inv_cancel _ (by grind)
   generalize (M - K)⁻¹=W at *
   obtain ⟨x,hx⟩:∃ x,x=(D - K) * W:=⟨_,rfl⟩
   have x0:0≤x:=by rw [hx];exact Rat.mul_nonneg (by grind) (Rat.le_of_lt hw)
   have x1:x≤1:=by
    have:=Rat.mul_le_mul_of_nonneg_left (show D - K≤M - K by grind) (Rat.le_of_lt hw)
    grind
   have eD:D=K+(M - K) * x:=by grind
   rw [← hx]
   have f0:0≤(1 - K) * x:=Rat.mul_nonneg (by grind) x0
   have f1:(1 - K) * x≤(1 - K) * 1:=Rat.mul_le_mul_of_nonneg_left x1 (by grind)
   have f2:x * (1 - K)≤x * (M - K):=Rat.mul_le_mul_of_nonneg_left (by grind) x0
   refine ⟨_,rfl,Rat.mul_nonneg (Rat.le_of_lt ht) (by grind),?_,?_⟩
   ·have:=Rat.mul_le_mul_of_nonneg_left (show K+(1 - K) * x≤D by grind) (Rat.le_of_lt ht)
    grind
   ·have:=Rat.mul_le_mul_of_nonneg_left (show K+(1 - K) * x≤1 by grind) (Rat.le_of_lt ht)
    grind
end Go.Sx
namespace Go.Sx
open Go
variable {P F:List V3} {a b c p v:V3}
end Go.Sx
namespace Go.Sx
open Go
variable {P F:List V3} {a b c p v:V3}
end Go.Sx
namespace Go.Sx
open Go
end Go.Sx
namespace Go.Sx
open Go
theorem Zhn {n:Int} (h0:0≤n) (h1:n≤10000):Fit 19 (qI n 1000):=Zmy (by omega) (by decide) (by decide)
theorem Zot {k m:Int} (h0:0≤k) (h1:k < 1000) (h2:1000 < m) (h3:m≤10000) {t:Rat} (ht:Fit 19 t) :
  Fit 19 (1 * t⁻¹)∧Fit 39 (1 * t⁻¹ - qI k 1000)∧Fit 39 (qI m 1000 - qI k 1000)∧Fit 78 ((1 * t⁻¹ - qI k 1000) * (qI m 1000 - qI k 1000)⁻¹)∧Fit 39 (1 - qI k 1000)∧Fit 117 ((1 - qI k 1000) * ((1 * t⁻¹ - qI k 1000) * (qI m 1000 - qI k 1000)⁻¹)) ∧
  Fit 137 (qI k 1000+(1 - qI k 1000) * ((1 * t⁻¹ - qI k 1000) * (qI m 1000 - qI k 1000)⁻¹))∧Fit 156 (t * (qI k 1000+(1 - qI k 1000) * ((1 * t⁻¹ - qI k 1000) * (qI m 1000 - qI k 1000)⁻¹))):=by
 have fk:=Zhn (n:=k) h0 (by omega)
 have fm:=Zhn (n:=m) (by omega) h3
 have fd:Fit 19 (1 * t⁻¹):=by rw [Rat.one_mul];exact ht.inv
 have f1:=fd.sub fk
 have f2:=fm.sub fk
 have f3:=f1.mul f2.inv
 have f4:=fit1.sub fk
 have f5:=f4.mul f3
 have f6:=fk.add f5
 have f7:=ht.mul f6
 exact ⟨fd,f1,f2,f3,f4,f5,f6,f7⟩
theorem Zst {k m:Int} (h0:0≤k) (h1:k < 1000) (h2:1000 < m) (h3:m≤10000) {t s:Rat} (ht:Fit 19 t) (h:pressQ k m t=.inr s):Fit 200 s:=by
 have hf:=(Zot h0 h1 h2 h3 ht).2.2.2.2.2.2.2
 rw [Rat.one_mul] at hf
 unfold pressQ at h
 split at h
 ·cases h
 ·split at h
  ·cases h;exact fit1.mono (by decide)
  ·split at h
   ·cases h;exact ht.mono (by decide)
   ·cases h;exact hf.mono (by decide)
theorem Ya6 {k m:Int} (h1:k < 1000) (h2:1000 < m):qI m 1000 - qI k 1000≠0:=by
 intro h
 have h3:qI m 1000=qI k 1000:=by grind
 have h4:qI m 1000≤qI k 1000:=by rw [h3];exact Rat.le_refl
 have:=Z1h.1 h4
 omega
end Go.Sx
namespace Go.Sx
open Go
variable {P F:List V3} {p c:V3}
theorem Zgf (hg:Good P F) (h:anchorO P F p=some c):isFar c=false∧(sideW P F c).1=2∧c.y=0∧c.z=0:=by
 unfold anchorO at h
 rw [Option.bind_eq_some_iff] at h
 obtain ⟨⟨l,k⟩,he,h⟩:=h
 simp only at h
 split at h
 ·rename_i h2
  have e:=Option.some.inj h
  rw [← e]
  exact ⟨Zkd hg he p,h2,rfl,rfl⟩
 ·cases h
theorem Z4i (hg:Good P F) (hp:isFar p=false) (h:anchorO P F p=none):clipW P F p=.inl 4:=by
 unfold clipW
 rw [if_neg (fun k=>k (Yft.2 hg)),hp,if_neg (by decide),h]
theorem Ybt (hg:Good P F) (hp:isFar p=false) (h:anchorO P F p=some c) (hs:(sideW P F p).1≠0):clipW P F p=.inr (exactQ p):=by
 unfold clipW
 rw [if_neg (fun k=>k (Yft.2 hg)),hp,if_neg (by decide),h]
 simp only
 rw [if_pos hs]
theorem Z8e (hg:Good P F) (hp:isFar p=false) (h:anchorO P F p=some c) (hs:(sideW P F p).1=0) :
  p≠c∧∃ t j,rayM metP P F p c false=some (t,j)∧Fit 19 t∧clipW P F p=.inr (atQ p c t):=by
 obtain ⟨hc,h2,_⟩:=Zgf hg h
 obtain ⟨hne,t,j,hr⟩:=Z2q hg hp hc hs h2
 refine ⟨hne,t,j,hr,Zlf hg hp hc hne hr,?_⟩
 unfold clipW
 rw [if_neg (fun k=>k (Yft.2 hg)),hp,if_neg (by decide),h]
 simp only
 rw [if_neg (fun k=>k hs),hr]
section
variable {k m:Int}
theorem Zrd (hg:Good P F) (hp:isFar p=false) (h0:0≤k) (h1:k < 1000) (h2:1000 < m) (h3:m≤10000) (h:anchorO P F p=none):compressW P F p k m=.inl 4:=by
 unfold compressW
 rw [if_neg (fun k=>k (Yft.2 hg)),hp,if_neg (by decide),if_neg (by omega),h]
theorem Ztx (hg:Good P F) (hp:isFar p=false) (h0:0≤k) (h1:k < 1000) (h2:1000 < m) (h3:m≤10000) (h:anchorO P F p=some c) (hne:p≠c) :
  ∃ t j s,rayM metP P F c p true=some (t,j)∧0 < t∧Fit 19 t∧pressQ k m t=.inr s∧0≤s∧s≤1∧s≤t∧Fit 200 s∧compressW P F p k m=.inr (atQ c p s):=by
 obtain ⟨hc,hs,_⟩:=Zgf hg h
 obtain ⟨t,j,hr⟩:=Zxv (p:=p) hg hc hs (fun e=>hne e.symm)
 have ht:=Zxw hg hc hs (fun e=>hne e.symm) hr
 have hf:=Zlf hg hc hp (fun e=>hne e.symm) hr
 obtain ⟨s,e,s0,s1,st⟩:=Zxj h0 h1 h2 ht
 refine ⟨t,j,s,hr,ht,hf,e,s0,s1,st,Zst h0 h1 h2 h3 hf e,?_⟩
 unfold compressW
 rw [if_neg (fun k=>k (Yft.2 hg)),hp,if_neg (by decide),if_neg (by omega),h]
 simp only
 rw [if_neg hne,hr]
 simp only
 rw [e]
end
end Go.Sx
