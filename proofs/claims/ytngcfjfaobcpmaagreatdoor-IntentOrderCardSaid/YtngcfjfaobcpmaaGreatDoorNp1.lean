/- Plain: the chapter on intents: the neutral axis of a mesh, anchors, results. -/
import Derived.Test.YtngcfjfaobcpmaaGreatDoorIm1
import Derived.Test.YtngcfjfaobcpmaaGreatDoorIx9
namespace Go.Sx
open Go
theorem Z0j (a:Rat):Go.Proofs.YtngcfjfaobcpmaaGreatDoor.Q.nearQ (a - mkRat 1 2) 1=a.floor:=by
 have e:Go.Proofs.YtngcfjfaobcpmaaGreatDoor.Q.nearQ (a - mkRat 1 2) 1=((a - mkRat 1 2) * ((1:Nat):Rat)+mkRat 1 2).floor:=Z65 _
 rw [e]
 congr 1
 have:((1:Nat):Rat)=1:=rfl
 rw [this]
 generalize mkRat 1 2=h
 grind
theorem Ybw (t:Rat):((100000:Rat) * (1 - t)).floor=100000+((-100000:Rat) * t).floor:=by
 have e:(100000:Rat) * (1 - t)=((100000:Int):Rat)+(-100000:Rat) * t:=by
  have:((100000:Int):Rat)=100000:=rfl
  rw [this];grind
 rw [e,Rat.add_comm,Rat.floor_add_intCast,Int.add_comm]
theorem Yef (t:Rat):-((100000:Rat) * t)=(-100000:Rat) * t:=by grind
def blackV:V3:=⟨0,0,0⟩
def whiteV:V3:=⟨100000,0,0⟩
def lowO (P F:List V3):Option Int:=if (sideW P F blackV).1=0 then (rayM metP P F blackV whiteV false).map fun x=>-((-100000:Rat) * x.1).floor else some 0
def highO (P F:List V3):Option Int:=if (sideW P F whiteV).1=0 then (rayM metP P F whiteV blackV false).map fun x=>100000+((-100000:Rat) * x.1).floor else some 100000
def extO (P F:List V3):Option (Int × Int):=(lowO P F).bind fun l=>(highO P F).bind fun h=>if h < l then none else some (l,h)
def axisW (P F:List V3):Int × Int × Int:=if (flawM P F).1≠0 then (0,0,350) else match extO P F with
 | none=>(0,0,4)
 | some (l,h)=>(l,h,0)
def anchorV (l h:Int) (p:V3):V3:=⟨min (max p.x (l+(h - l) / 4)) (h - (h - l) / 4),0,0⟩
def anchorO (P F:List V3) (p:V3):Option V3:=(extO P F).bind fun x=>if (sideW P F (anchorV x.1 x.2 p)).1=2 then some (anchorV x.1 x.2 p) else none
def anchorW (P F:List V3) (p:V3):V3 × Int:=if (flawM P F).1≠0 then (V3.zero,350) else if isFar p then (V3.zero,2) else match anchorO P F p with
 | none=>(V3.zero,4)
 | some c=>(c,0)
theorem Zgy {t:Rat} (h0:0≤t) (h1:t≤1):-100000≤((-100000:Rat) * t).floor∧((-100000:Rat) * t).floor≤0:=by
 constructor
 ·rw [Rat.le_floor_iff]
  have:((-100000:Int):Rat)=-100000:=rfl
  rw [this];grind
 ·have h:((-100000:Rat) * t).floor < 1:=by
   rw [Rat.floor_lt_iff]
   have:((1:Int):Rat)=1:=rfl
   rw [this];grind
  omega
theorem Yel {P F:List V3} (hg:Good P F) {l:Int} (h:lowO P F=some l):0≤l∧l≤100000:=by
 unfold lowO at h
 split at h
 ·rw [Option.map_eq_some_iff] at h
  obtain ⟨⟨t,j⟩,h1,rfl⟩:=h
  obtain ⟨_,_,h2,h3,_⟩:=(Zj1 hg (a:=blackV) (b:=whiteV) (by decide)).1 t j h1
  have:=Zgy h2 h3
  simp only
  omega
 ·cases h;omega
theorem Ybv {P F:List V3} (hg:Good P F) {l:Int} (h:highO P F=some l):0≤l∧l≤100000:=by
 unfold highO at h
 split at h
 ·rw [Option.map_eq_some_iff] at h
  obtain ⟨⟨t,j⟩,h1,rfl⟩:=h
  obtain ⟨_,_,h2,h3,_⟩:=(Zj1 hg (a:=whiteV) (b:=blackV) (by decide)).1 t j h1
  have:=Zgy h2 h3
  simp only
  omega
 ·cases h;omega
theorem Zyn {P F:List V3} (hg:Good P F) {l h:Int} (he:extO P F=some (l,h)):0≤l∧l≤h∧h≤100000:=by
 unfold extO at he
 rw [Option.bind_eq_some_iff] at he
 obtain ⟨l',h1,he⟩:=he
 rw [Option.bind_eq_some_iff] at he
 obtain ⟨h',h2,he⟩:=he
 split at he
 ·cases he
 ·cases he
  have:=Yel hg h1
  have:=Ybv hg h2
  omega
theorem Z0x {l h:Int} (hl:l≤h) (p:V3):max (l+(h - l) / 4) (min (h - (h - l) / 4) p.x)=min (max p.x (l+(h - l) / 4)) (h - (h - l) / 4):=by omega
theorem Zla {P F:List V3} (hg:Good P F) {l h:Int} (he:extO P F=some (l,h)) (p:V3):isFar (anchorV l h p)=false:=by
 obtain ⟨h1,h2,h3⟩:=Zyn hg he
 rw [Zkb]
 unfold anchorV
 simp only
 omega
def atQ (c p:V3) (s:Rat):List Rat:=[(c.x:Rat)+s * ((p.x - c.x:Int):Rat),(c.y:Rat)+s * ((p.y - c.y:Int):Rat),(c.z:Rat)+s * ((p.z - c.z:Int):Rat)]
def exactQ (p:V3):List Rat:=[(p.x:Rat),(p.y:Rat),(p.z:Rat)]
def clipW (P F:List V3) (p:V3):Int ⊕ List Rat:=if (flawM P F).1≠0 then .inl 350 else if isFar p then .inl 2 else match anchorO P F p with
 | none=>.inl 4
 | some c=>if (sideW P F p).1≠0 then .inr (exactQ p) else match rayM metP P F p c false with
    | none=>.inl 4
    | some (t,_)=>.inr (atQ p c t)
def pressQ (knee most:Int) (t:Rat):Int ⊕ Rat :=
 if t=0 then .inl 7
 else if t⁻¹≤qI knee 1000 then .inr 1
 else if qI most 1000≤t⁻¹ then .inr t
 else .inr (t * (qI knee 1000+(1 - qI knee 1000) * ((t⁻¹ - qI knee 1000) * (qI most 1000 - qI knee 1000)⁻¹)))
def compressW (P F:List V3) (p:V3) (knee most:Int):Int ⊕ List Rat:=if (flawM P F).1≠0 then .inl 350 else if isFar p then .inl 2
 else if knee < 0∨1000≤knee∨most≤1000∨10000 < most then .inl 380 else match anchorO P F p with
 | none=>.inl 4
 | some c=>if p=c then .inr (exactQ p) else match rayM metP P F c p true with
    | none=>.inl 4
    | some (t,_)=>match pressQ knee most t with
     | .inl e=>.inl e
     | .inr s=>.inr (atQ c p s)
theorem Zs5 (k m d:Rat):k+(1 - k) * (d - k) * (m - k)⁻¹=k+(1 - k) * ((d - k) * (m - k)⁻¹):=by rw [Rat.mul_assoc]
theorem Zmh {P F:List V3} {a b:V3} {t:Rat} {j:Nat} {y:Bool} (hg:Good P F) (ha:isFar a=false) (hb:isFar b=false) (hab:a≠b) (h:rayM metP P F a b y=some (t,j)):Fit 19 t:=by
 have hd:b.sub a≠V3.zero:=by
  intro h
  apply hab
  rw [Za2]
  simp only [V3.sub,V3.zero,V3.mk.injEq] at h
  omega
 have hs:=Zd7 (g:=fun f=>metP y (relV P a f.x) (relV P a f.y) (relV P a f.z) (b.sub a)) (F:=F) (k:=F.length) (Nat.le_refl _)
 obtain ⟨_,⟨f,hf,hm⟩,_⟩:=hs.2 t j h
 obtain ⟨n1,n2,n3⟩:=(hg.see ha).rel (List.mem_of_getElem? hf)
 exact Zj8 n1 n2 n3 (Zcl (Zb2 hb) (Zb2 ha)) hd hm
theorem Zba {z:Int} (h:-400000≤z∧z≤400000):Fit 6 (z:Rat):=by
 refine Fit.of (by decide) ?_ ?_
 ·rw [Rat.num_intCast];omega
 ·rw [Rat.den_intCast];decide
theorem Zwg {c p:Int} {s:Rat} {k:Nat} (hc:-200000≤c∧c≤200000) (hp:-200000≤p∧p≤200000) (hs:Fit k s):Fit (k+6) (s * ((p - c:Int):Rat))∧Fit (6+(k+6)+1) ((c:Rat)+s * ((p - c:Int):Rat)):=by
 have h1:=hs.mul (Zba (z:=p - c) (by omega))
 exact ⟨h1,(Zba (z:=c) (by omega)).add h1⟩
end Go.Sx
namespace Go.Sx
open Go
variable {P F:List V3} {a b c p v:V3}
theorem Zxn (hg:Good P F) (ha:isFar a=false) (h:(sideW P F a).1=2):onM axP P F a=false∧windN P F a≠0:=by
 have f1:(flawM P F).1=0:=Yga.2 hg
 unfold sideW at h
 rw [f1,ha] at h
 cases ho:onM axP P F a with
 | true=>rw [ho] at h;simp at h
 | false =>
  rw [ho] at h
  simp only [ne_eq,not_true_eq_false,if_false,Bool.false_eq_true] at h
  refine ⟨rfl,fun hw=>?_⟩
  rw [hw] at h;simp at h
theorem Z6h (hg:Good P F) {i:Int} (hi:0 < i) (hv:v≠V3.zero) (h:∀ s,MeetF P F a v s→0≤s→s≤(i:Rat)→False) :
  windN P F (a.plus (V3.smul i v))=windN P F a:=by
 have e1:V3.smul 1 v=v:=by simp [V3.smul]
 have q1:qI i 1=(i:Rat):=by unfold qI;rw [if_neg (by decide)];exact Rat.mkRat_one i
 have h':∀ s,MeetF P F a (V3.smul 1 v) s→0≤s→s≤qI i 1→False:=fun s=>by rw [e1,q1];exact h s
 have hi0:0≤qI i 1:=(Zf5 (by decide)).2 (Int.le_of_lt hi)
 have off1:onM axP P F (a.plus (V3.smul i v))=false:=by
  cases ho:onM axP P F (a.plus (V3.smul i v)) with
  | false=>rfl
  | true=>exact (h' _ ((Zpn hg (n:=1) (by decide)).1 ho) hi0 Rat.le_refl).elim
 have off0:onM axP P F a=false:=by
  cases ho:onM axP P F a with
  | false=>rfl
  | true =>
   rw [← Zf6 a v] at ho
   exact (h' _ ((Zpn hg (n:=1) (by decide)).1 ho) (by rw [Ze9];exact Rat.le_refl) (by rw [Ze9];exact hi0)).elim
 obtain ⟨t,_,_,_,hf⟩:=Zbz hg a
 obtain ⟨t',_,_,_,hf'⟩:=Zbz hg (a.plus (V3.smul i v))
 rw [Zde hg off0 hf,Zde hg off1 hf']
 refine (Zxp hg (Zm5 (by omega) hv) (fun f hfF k m hk hkm hh=>?_) hf hf').symm
 have hm:0 < m:=hh.1
 refine h' (qI (k * i) (m * 1)) ⟨f,hfF,_,_,rfl,Zhs (by decide) hh⟩ ((Zf5 (Int.mul_pos hm (by decide))).2 (Int.mul_nonneg hk (Int.le_of_lt hi))) ?_
 rw [Ya7 (Int.mul_pos hm (by decide)) (by decide)]
 have:=Int.mul_le_mul_of_nonneg_right hkm (Int.le_of_lt hi)
 grind
theorem Z8a (hg:Good P F) {e:V3} (h:(200000 < e.x∨e.x < -200000)∨(200000 < e.y∨e.y < -200000)∨(200000 < e.z∨e.z < -200000)):windN P F e=0:=by
 have hfar:∀ q∈P,q.in 200000:=fun q hq=>Zb2 (List.findIdx?_eq_none_iff.1 hg.far q hq)
 have key:∀ n:V3,(∀ q:V3,q.in 200000→0 < n.dot (q.sub e))→windN P F e=0:=fun n hn=>by
  refine Ztq hg (n:=n) fun f hf=>?_
  obtain ⟨h1,h2,h3⟩:=Zgm hg hf
  have k:∀ i:Int,0≤i∧i < P.length→0 < n.dot (relV P e i):=fun i hi=>by
   have hlt:i.toNat < P.length:=by omega
   have e1:relV P e i=(P[i.toNat]).sub e:=by unfold relV ptAt;rw [List.getElem?_eq_getElem hlt];rfl
   rw [e1]
   exact hn _ (hfar _ (List.getElem_mem _))
  exact ⟨k _ h1,k _ h2,k _ h3⟩
 rcases h with (h|h)|(h|h)|(h|h)
 ·exact key ⟨-1,0,0⟩ fun q ⟨q1,q2,q3,q4,q5,q6⟩=>by simp only [V3.dot,V3.sub];omega
 ·exact key ⟨1,0,0⟩ fun q ⟨q1,q2,q3,q4,q5,q6⟩=>by simp only [V3.dot,V3.sub];omega
 ·exact key ⟨0,-1,0⟩ fun q ⟨q1,q2,q3,q4,q5,q6⟩=>by simp only [V3.dot,V3.sub];omega
 ·exact key ⟨0,1,0⟩ fun q ⟨q1,q2,q3,q4,q5,q6⟩=>by simp only [V3.dot,V3.sub];omega
 ·exact key ⟨0,0,-1⟩ fun q ⟨q1,q2,q3,q4,q5,q6⟩=>by simp only [V3.dot,V3.sub];omega
 ·exact key ⟨0,0,1⟩ fun q ⟨q1,q2,q3,q4,q5,q6⟩=>by simp only [V3.dot,V3.sub];omega
theorem Zxl (h:a≠b):b.sub a≠V3.zero:=by
 intro h'
 apply h
 rw [Za2]
 simp only [V3.sub,V3.zero,V3.mk.injEq] at h'
 omega
theorem Zj0 (hg:Good P F) {y:Bool} (hab:a≠b) (h:rayM metP P F a b y=none):∀ s,MeetF P F a (b.sub a) s→(path0 y).has s→False:=by
 intro s hs hp
 have hd:=Zxl hab
 have hs':=Zd7 (g:=fun f=>metP y (relV P a f.x) (relV P a f.y) (relV P a f.z) (b.sub a)) (F:=F) (k:=F.length) (Nat.le_refl _)
 obtain ⟨f,hf,hh⟩:=hs
 obtain ⟨u,hu,_⟩:=(Zml y (hg.nzR a hf) hd).2 s hh hp
 obtain ⟨i,hi⟩:=List.getElem?_of_mem hf
 have:=hs'.1 h i (List.getElem?_eq_some_iff.1 hi).1 f hi
 rw [hu] at this
 cases this
theorem Zie (hg:Good P F) {y:Bool} (hab:a≠b) {t:Rat} {j:Nat} (h:rayM metP P F a b y=some (t,j)):MeetF P F a (b.sub a) t∧(path0 y).has t∧∀ s,MeetF P F a (b.sub a) s→(path0 y).has s→t≤s:=by
 have hd:=Zxl hab
 have hs:=Zd7 (g:=fun f=>metP y (relV P a f.x) (relV P a f.y) (relV P a f.z) (b.sub a)) (F:=F) (k:=F.length) (Nat.le_refl _)
 obtain ⟨_,⟨f,hf,hfm⟩,k3⟩:=hs.2 t j h
 have hfF:=List.mem_of_getElem? hf
 obtain ⟨q1,q2⟩:=(Zml y (hg.nzR a hfF) hd).1 t hfm
 refine ⟨⟨f,hfF,q1⟩,q2,fun s hs' hp=>?_⟩
 obtain ⟨f',hf',hh⟩:=hs'
 obtain ⟨u,hu,hle⟩:=(Zml y (hg.nzR a hf') hd).2 s hh hp
 obtain ⟨i,hi⟩:=List.getElem?_of_mem hf'
 exact Rat.le_trans (k3 i (List.getElem?_eq_some_iff.1 hi).1 f' hi u hu) hle
theorem Zya (hg:Good P F) (hc:isFar c=false) (h2:(sideW P F c).1=2) (hp:c≠p):∃ t j,rayM metP P F c p true=some (t,j):=by
 cases hr:rayM metP P F c p true with
 | some x=>exact ⟨x.1,x.2,rfl⟩
 | none =>
  exfalso
  obtain ⟨_,hw⟩:=Zxn hg hc h2
  have hn:=Zj0 hg hp hr
  have hv:=Zxl hp
  have hci:=Zb2 hc
  obtain ⟨c1,c2,c3,c4,c5,c6⟩:=hci
  apply hw
  rw [← Z6h (i:=1000000) hg (by decide) hv fun s hs h0 _=>hn s hs ⟨h0,.inl rfl⟩]
  refine Z8a hg ?_
  generalize p.sub c=v at hv
  obtain ⟨x,y,z⟩:=v
  simp only [V3.plus,V3.smul]
  simp only [V3.zero,ne_eq,V3.mk.injEq] at hv
  omega
theorem Zrg (hg:Good P F) (hc:isFar c=false) (h2:(sideW P F c).1=2) (hp:c≠p) {y:Bool} {t:Rat} {j:Nat} (h:rayM metP P F c p y=some (t,j)):0 < t:=by
 obtain ⟨⟨f,hf,hh⟩,hhas,_⟩:=Zie hg hp h
 have h0:(0:Rat)≤t:=hhas.1
 refine Rat.lt_of_le_of_ne h0 fun e=>?_
 rw [← e] at hh
 have:onM axP P F c=true:=(Zeq hg).2 ⟨f,hf,Z7z.1 hh⟩
 rw [(Zxn hg hc h2).1] at this
 cases this
theorem Z3b (hg:Good P F) (hp:isFar p=false) (hc:isFar c=false) (h0:(sideW P F p).1=0) (h2:(sideW P F c).1=2):p≠c∧∃ t j,rayM metP P F p c false=some (t,j):=by
 have hne:p≠c:=fun e=>by rw [e,h2] at h0;cases h0
 refine ⟨hne,?_⟩
 cases hr:rayM metP P F p c false with
 | some x=>exact ⟨x.1,x.2,rfl⟩
 | none =>
  exfalso
  have hn:=Zj0 hg hne hr
  have e:p.plus (V3.smul 1 (c.sub p))=c:=by
   rw [Za2];simp only [V3.plus,V3.smul,V3.sub];omega
  have e1:V3.smul 1 (c.sub p)=c.sub p:=by simp [V3.smul]
  have:=Zqk hg (a:=p) (v:=c.sub p) (n:=1) (i:=1) (by decide) (by decide) (Zxl hne) hp (by rw [e];exact hc) fun s hs k0 k1=>by
   rw [e1] at hs
   refine hn s hs ⟨k0,.inr ?_⟩
   have:qI 1 1=1:=by decide +kernel
   rw [this] at k1;exact k1
  rw [e] at this
  rw [this.1,h0] at h2
  cases h2
/-! compressed colors -/
theorem Z1u {n m:Int}:qI n 1000≤qI m 1000↔n≤m:=by
 rw [Ya7 (by decide) (by decide)];omega
theorem Z6m:qI 1000 1000=1:=by decide +kernel
theorem Z1t:qI 0 1000=0:=by decide +kernel
theorem Z3w {k m:Int} (h0:0≤k) (h1:k < 1000) (h2:1000 < m):0≤qI k 1000∧qI k 1000≤1∧qI k 1000 < 1∧1 < qI m 1000:=by
 have a:=(Z1u (n:=0) (m:=k)).2 h0
 have b:=(Z1u (n:=k) (m:=1000)).2 (by omega)
 have c:¬ qI 1000 1000≤qI k 1000:=fun h=>by have:=Z1u.1 h;omega
 have d:¬ qI m 1000≤qI 1000 1000:=fun h=>by have:=Z1u.1 h;omega
 rw [Z1t] at a
 rw [Z6m] at b c d
 exact ⟨a,b,Rat.not_le.1 c,Rat.not_le.1 d⟩
theorem Z7b {k m:Int} (h0:0≤k) (h1:k < 1000) (h2:1000 < m) {t:Rat} (ht:0 < t):∃ s,pressQ k m t=.inr s∧0≤s∧s≤1∧s≤t:=by
 obtain ⟨a,b,c,d⟩:=Z3w h0 h1 h2
 have hi:0 < t⁻¹:=Rat.inv_pos.2 ht
 have e:t * t⁻¹=1:=Rat.mul_inv_cancel t (by grind)
 unfold pressQ
 rw [if_neg (by grind)]
 generalize qI k 1000=K at *
 generalize qI m 1000=M at *
 generalize t⁻¹=D at *
 by_cases q1:D≤K
 ·rw [if_pos q1]
  refine ⟨1,rfl,by decide,by decide,?_⟩
  have:=Rat.mul_le_mul_of_nonneg_left (show D≤1 by grind) (Rat.le_of_lt ht)
  grind
 ·rw [if_neg q1]
  by_cases q2:M≤D
  ·rw [if_pos q2]
   refine ⟨t,rfl,Rat.le_of_lt ht,?_,Rat.le_refl⟩
   have:=Rat.mul_le_mul_of_nonneg_left (show 1≤D by grind) (Rat.le_of_lt ht)
   grind
  ·rw [if_neg q2]
   have hw:0 < (M - K)⁻¹:=Rat.inv_pos.2 (by grind)
   have ew:(M - K) * (M - K)⁻¹=1:=Rat.mul_inv_cancel _ (by grind)
   generalize (M - K)⁻¹=W at *
   obtain ⟨x,hx⟩:∃ x,x=(D - K) * W:=⟨_,rfl⟩
   have x0:0≤x:=by rw [hx];exact Rat.mul_nonneg (by grind) (Rat.le_of_lt hw)
   have x1:x≤1:=by
        have:=Rat.mul_le_mul_of_nonneg_left (show D - K≤M - K by grind) (Rat.le_of_lt hw)
        grind
   have eD:D=K+(M - K) * x:=by grind
   rw [← hx]
   have f0:0≤(1 - K) * x:=Rat.mul_nonneg (by grind) x0
   have f1:(1 - K) * x≤(1 - K) * 1:=Rat.mul_le_mul_of_nonneg_left x1 (by grind)
   have f2:x * (1 - K)≤x * (M - K):=Rat.mul_le_mul_of_nonneg_left (by grind) x0
   refine ⟨_,rfl,Rat.mul_nonneg (Rat.le_of_lt ht) (by grind),?_,?_⟩
   ·have:=Rat.mul_le_mul_of_nonneg_left (show K+(1 - K) * x≤D by grind) (Rat.le_of_lt ht)
    grind
   ·have:=Rat.mul_le_mul_of_nonneg_left (show K+(1 - K) * x≤1 by grind) (Rat.le_of_lt ht)
    grind
end Go.Sx
namespace Go.Sx
open Go
variable {P F:List V3} {a b c p v:V3}
def gQ (K M D:Rat):Rat:=if D≤K then D else if M≤D then 1 else K+(1 - K) * ((D - K) * (M - K)⁻¹)
theorem Ya8 {k m:Int} (_h0:0≤k) (_h1:k < 1000) (_h2:1000 < m) {t:Rat} (ht:0 < t):pressQ k m t=.inr (t * gQ (qI k 1000) (qI m 1000) t⁻¹):=by
 have e:t * t⁻¹=1:=Rat.mul_inv_cancel t (by grind)
 unfold pressQ gQ
 rw [if_neg (by grind)]
 by_cases q1:t⁻¹≤qI k 1000
 ·rw [if_pos q1,if_pos q1,e]
 ·rw [if_neg q1,if_neg q1]
  by_cases q2:qI m 1000≤t⁻¹
  ·rw [if_pos q2,if_pos q2,Rat.mul_one]
  ·rw [if_neg q2,if_neg q2]
theorem Zyf {K M D:Rat} (h0:0≤K) (h1:K < 1) (h2:1 < M) (hD:0≤D):0≤gQ K M D∧gQ K M D≤1∧gQ K M D≤D∧(D < M→gQ K M D < 1):=by
 unfold gQ
 by_cases q1:D≤K
 ·rw [if_pos q1];grind
 ·rw [if_neg q1]
  by_cases q2:M≤D
  ·rw [if_pos q2];grind
  ·rw [if_neg q2]
   have hw:0 < (M - K)⁻¹:=Rat.inv_pos.2 (by grind)
   have ew:(M - K) * (M - K)⁻¹=1:=Rat.mul_inv_cancel _ (by grind)
   generalize (M - K)⁻¹=W at *
   obtain ⟨x,hx⟩:∃ x,x=(D - K) * W:=⟨_,rfl⟩
   have x0:0≤x:=by rw [hx];exact Rat.mul_nonneg (by grind) (Rat.le_of_lt hw)
   have x1:0 < 1 - x:=by
        have h:=Rat.mul_pos (show 0 < M - D by grind) hw
        grind
   have eD:D=K+(M - K) * x:=by grind
   rw [← hx]
   have f0:0≤(1 - K) * x:=Rat.mul_nonneg (by grind) x0
   have f1:0 < (1 - K) * (1 - x):=Rat.mul_pos (by grind) x1
   have f2:0≤(M - 1) * x:=Rat.mul_nonneg (by grind) x0
   refine ⟨by grind,by grind,by grind,fun _=>by grind⟩
theorem Yew {K M D E:Rat} (h0:0≤K) (h1:K < 1) (h2:1 < M) (hD:0≤D) (hDE:D≤E):gQ K M D≤gQ K M E∧(D < E→D < M→gQ K M D < gQ K M E):=by
 obtain ⟨bD0,bD1,bD2,bD3⟩:=Zyf h0 h1 h2 hD
 obtain ⟨bE0,bE1,bE2,bE3⟩:=Zyf h0 h1 h2 (show 0≤E by grind)
 by_cases q2:M≤E
 ·have e:gQ K M E=1:=by unfold gQ;rw [if_neg (by grind),if_pos q2]
  rw [e]
  exact ⟨bD1,fun _ h=>bD3 h⟩
 by_cases q1:E≤K
 ·have e:gQ K M E=E:=by unfold gQ;rw [if_pos q1]
  have d:gQ K M D=D:=by unfold gQ;rw [if_pos (by grind)]
  rw [e,d]
  exact ⟨hDE,fun h _=>h⟩
 have hw:0 < (M - K)⁻¹:=Rat.inv_pos.2 (by grind)
 have e:gQ K M E=K+(1 - K) * ((E - K) * (M - K)⁻¹):=by unfold gQ;rw [if_neg q1,if_neg q2]
 by_cases q3:D≤K
 ·have d:gQ K M D=D:=by unfold gQ;rw [if_pos q3]
  rw [e,d]
  have h3:=Rat.mul_pos (show 0 < E - K by grind) hw
  have h4:=Rat.mul_pos (show 0 < 1 - K by grind) h3
  exact ⟨by grind,fun _ _=>by grind⟩
 ·have d:gQ K M D=K+(1 - K) * ((D - K) * (M - K)⁻¹):=by unfold gQ;rw [if_neg q3,if_neg (by grind)]
  rw [e,d]
  generalize (M - K)⁻¹=W at *
  have h3:0≤(E - D) * W:=Rat.mul_nonneg (by grind) (Rat.le_of_lt hw)
  have h4:0≤(1 - K) * ((E - D) * W):=Rat.mul_nonneg (by grind) h3
  refine ⟨by grind,fun h _=>?_⟩
  have h5:=Rat.mul_pos (show 0 < E - D by grind) hw
  have h6:=Rat.mul_pos (show 0 < 1 - K by grind) h5
  grind
theorem Zpq {n:Int} (hn:0 < n) {s:Rat}:MeetF P F a (V3.smul n v) s↔MeetF P F a v (s * (n:Rat)):=by
 have hn0:(n:Rat)≠0:=fun h=>by have:=Rat.intCast_inj.1 (show (n:Rat)=((0:Int):Rat) by rw [h];rfl);omega
 have e1:V3.smul 1 v=v:=by simp [V3.smul]
 constructor
 ·rintro ⟨f,hf,k,m,rfl,hh⟩
  have h:=Zhs (n:=1) (by decide) hh
  rw [e1] at h
  refine ⟨f,hf,k * n,m * 1,?_,h⟩
  rw [Zfa,Zfa,Rat.div_def,Rat.div_def,Int.mul_one,Rat.intCast_mul]
  grind
 ·rintro ⟨f,hf,k,m,hq,hh⟩
  rw [← e1] at hh
  have h:=Zhs hn hh
  refine ⟨f,hf,k * 1,m * n,?_,h⟩
  have hm:0 < m:=hh.1
  have hm0:(m:Rat)≠0:=fun h=>by have:=Rat.intCast_inj.1 (show (m:Rat)=((0:Int):Rat) by rw [h];rfl);omega
  rw [Zfa,Rat.div_def] at hq
  rw [Zfa,Rat.div_def,Int.mul_one,Rat.intCast_mul]
  have e:s=s * (n:Rat) * (n:Rat)⁻¹:=by rw [Rat.mul_assoc,Rat.mul_inv_cancel _ hn0,Rat.mul_one]
  rw [e,hq,Rat.mul_assoc,Rat.inv_mul_rev]
  congr 1
  exact Rat.mul_comm _ _
theorem Z2v (hg:Good P F) {n:Int} (hn:0 < n) (hv:v≠V3.zero) {t:Rat} {j:Nat} (h:rayM metP P F c (c.plus v) true=some (t,j)):∃ j',rayM metP P F c (c.plus (V3.smul n v)) true=some (t * (n:Rat)⁻¹,j'):=by
 have hn0:(n:Rat)≠0:=fun h=>by have:=Rat.intCast_inj.1 (show (n:Rat)=((0:Int):Rat) by rw [h];rfl);omega
 have hnp:(0:Rat) < (n:Rat):=by
  have:((0:Int):Rat) < (n:Rat):=Rat.intCast_lt_intCast.2 hn
  exact this
 have hi:0 < (n:Rat)⁻¹:=Rat.inv_pos.2 hnp
 have ei:(n:Rat) * (n:Rat)⁻¹=1:=Rat.mul_inv_cancel _ hn0
 have s1:(c.plus v).sub c=v:=by rw [Za2];simp only [V3.plus,V3.sub];omega
 have s2:(c.plus (V3.smul n v)).sub c=V3.smul n v:=by rw [Za2];simp only [V3.plus,V3.sub];omega
 have n1:c≠c.plus v:=fun e=>hv (by rw [← s1,← e];simp [V3.sub,V3.zero])
 have n2:c≠c.plus (V3.smul n v):=fun e=>Zm5 (show n≠0 by omega) hv (by rw [← s2,← e];simp [V3.sub,V3.zero])
 obtain ⟨a1,a2,a3⟩:=Zie hg n1 h
 rw [s1] at a1 a3
 have a0:(0:Rat)≤t:=a2.1
 have b1:MeetF P F c (V3.smul n v) (t * (n:Rat)⁻¹):=by
  rw [Zpq hn,Rat.mul_assoc,Rat.inv_mul_cancel _ hn0,Rat.mul_one];exact a1
 have b2:(path0 true).has (t * (n:Rat)⁻¹):=⟨Rat.mul_nonneg a0 (Rat.le_of_lt hi),.inl rfl⟩
 cases hr:rayM metP P F c (c.plus (V3.smul n v)) true with
 | none =>
  exfalso
  refine Zj0 hg n2 hr _ ?_ b2
  rw [s2];exact b1
 | some x =>
  obtain ⟨u,j'⟩:=x
  obtain ⟨c1,c2,c3⟩:=Zie hg n2 hr
  rw [s2] at c1 c3
  have d1:=c3 _ b1 b2
  have d2:=a3 _ ((Zpq hn).1 c1) ⟨Rat.mul_nonneg c2.1 (Rat.le_of_lt hnp),.inl rfl⟩
  have:u=t * (n:Rat)⁻¹:=by
   refine Rat.le_antisymm d1 ?_
   have h:=Rat.mul_le_mul_of_nonneg_left d2 (Rat.le_of_lt hi)
   have e2:(n:Rat)⁻¹ * (u * (n:Rat))=u:=by rw [Rat.mul_comm u,← Rat.mul_assoc,Rat.inv_mul_cancel _ hn0,Rat.one_mul]
   rw [e2,Rat.mul_comm] at h
   exact h
  exact ⟨j',by rw [this]⟩
end Go.Sx
namespace Go.Sx
open Go
variable {P F:List V3} {a b c p v:V3}
theorem Zqm (c p:Int) (t:Rat):(p:Rat)+t * ((c - p:Int):Rat)=(c:Rat)+(1 - t) * ((p - c:Int):Rat):=by
 rw [Rat.intCast_sub,Rat.intCast_sub];grind
theorem Zkr (c p:Int):(p:Rat)=(c:Rat)+1 * ((p - c:Int):Rat):=by
 rw [Rat.intCast_sub];grind
theorem Ycm (c p:V3) (t:Rat):atQ p c t=atQ c p (1 - t):=by
 unfold atQ
 rw [Zqm c.x p.x t,Zqm c.y p.y t,Zqm c.z p.z t]
theorem Ye7 (c p:V3):exactQ p=atQ c p 1:=by
 unfold exactQ atQ
 rw [← Zkr c.x p.x,← Zkr c.y p.y,← Zkr c.z p.z]
theorem Z44 {n:Int} (s:Rat):atQ c (c.plus (V3.smul n v)) s=atQ c (c.plus v) ((n:Rat) * s):=by
 have e:∀ x y:Int,(x:Rat)+s * ((x+n * y - x:Int):Rat)=(x:Rat)+((n:Rat) * s) * ((x+y - x:Int):Rat):=fun x y=>by
  rw [show x+n * y - x=n * y by omega,show x+y - x=y by omega,Rat.intCast_mul];grind
 unfold atQ V3.plus V3.smul
 simp only [e]
theorem Z2a {x y:Int} (s:Rat) (h:y≠x):((x:Rat)+s * ((y - x:Int):Rat) - (x:Rat)) * (((y - x:Int):Rat))⁻¹=s:=by
 have h0:((y - x:Int):Rat)≠0:=fun e=>by have:=Rat.intCast_inj.1 (show ((y - x:Int):Rat)=((0:Int):Rat) by rw [e];rfl);omega
 have e:(x:Rat)+s * ((y - x:Int):Rat) - (x:Rat)=s * ((y - x:Int):Rat):=by grind
 rw [e,Rat.mul_assoc,Rat.mul_inv_cancel _ h0,Rat.mul_one]
theorem Zzp {x:Int} (s:Rat):(x:Rat)+s * ((x - x:Int):Rat) - (x:Rat)=0:=by
 have:((x - x:Int):Rat)=0:=by rw [Int.sub_self];rfl
 rw [this];grind
theorem Z21 {k m n:Int} (h0:0≤k) (h1:k < 1000) (h2:1000 < m) (hn:0 < n) {t:Rat} (ht:0 < t) :
  ∃ s,pressQ k m (t * (n:Rat)⁻¹)=.inr s∧(n:Rat) * s=t * gQ (qI k 1000) (qI m 1000) ((n:Rat) * t⁻¹):=by
 have hn0:(n:Rat)≠0:=fun h=>by have:=Rat.intCast_inj.1 (show (n:Rat)=((0:Int):Rat) by rw [h];rfl);omega
 have hnp:(0:Rat) < (n:Rat):=by
  have:((0:Int):Rat) < (n:Rat):=Rat.intCast_lt_intCast.2 hn
  exact this
 have hi:0 < (n:Rat)⁻¹:=Rat.inv_pos.2 hnp
 refine ⟨_,Ya8 h0 h1 h2 (Rat.mul_pos ht hi),?_⟩
 have e:(t * (n:Rat)⁻¹)⁻¹=(n:Rat) * t⁻¹:=by rw [Rat.inv_mul_rev,Rat.inv_inv]
 rw [e]
 generalize gQ (qI k 1000) (qI m 1000) ((n:Rat) * t⁻¹)=g
 rw [Rat.mul_comm t,Rat.mul_assoc,← Rat.mul_assoc,Rat.mul_inv_cancel _ hn0,Rat.one_mul]
theorem Zj5 {k m n n':Int} (h0:0≤k) (h1:k < 1000) (h2:1000 < m) (hn:0 < n) (hnn:n < n') {t:Rat} (ht:0 < t) :
  t * gQ (qI k 1000) (qI m 1000) ((n:Rat) * t⁻¹)≤t * gQ (qI k 1000) (qI m 1000) ((n':Rat) * t⁻¹) ∧
  (t * gQ (qI k 1000) (qI m 1000) ((n:Rat) * t⁻¹)=t * gQ (qI k 1000) (qI m 1000) ((n':Rat) * t⁻¹)→t * gQ (qI k 1000) (qI m 1000) ((n:Rat) * t⁻¹)=t):=by
 obtain ⟨a,_,b,d⟩:=Z3w h0 h1 h2
 have hi:0 < t⁻¹:=Rat.inv_pos.2 ht
 have hnp:(0:Rat) < (n:Rat):=by
  have:((0:Int):Rat) < (n:Rat):=Rat.intCast_lt_intCast.2 hn
  exact this
 have hlt:(n:Rat) < (n':Rat):=Rat.intCast_lt_intCast.2 hnn
 have hD:0≤(n:Rat) * t⁻¹:=Rat.mul_nonneg (Rat.le_of_lt hnp) (Rat.le_of_lt hi)
 have hDE:(n:Rat) * t⁻¹ < (n':Rat) * t⁻¹:=by
  have:=Rat.mul_pos (show 0 < (n':Rat) - (n:Rat) by grind) hi
  grind
 generalize (n:Rat) * t⁻¹=D at *
 generalize (n':Rat) * t⁻¹=E at *
 obtain ⟨g1,g2⟩:=Yew a b d hD (Rat.le_of_lt hDE)
 refine ⟨Rat.mul_le_mul_of_nonneg_left g1 (Rat.le_of_lt ht),fun he=>?_⟩
 by_cases q:D < qI m 1000
 ·exfalso
  have:=Rat.mul_pos ht (show 0 < gQ (qI k 1000) (qI m 1000) E - gQ (qI k 1000) (qI m 1000) D by have:=g2 hDE q;grind)
  grind
 ·have e:gQ (qI k 1000) (qI m 1000) D=1:=by unfold gQ;rw [if_neg (by grind),if_pos (by grind)]
  rw [e,Rat.mul_one]
theorem Z0d {k m n:Int} (h0:0 < k) (_h1:k < 1000) (_h2:1000 < m) (hn:0 < n) {t:Rat} (ht:0 < t) (h:qI (1000 * n) k≤t):pressQ k m (t * (n:Rat)⁻¹)=.inr 1:=by
 have hn0:(n:Rat)≠0:=fun h=>by have:=Rat.intCast_inj.1 (show (n:Rat)=((0:Int):Rat) by rw [h];rfl);omega
 have hnp:(0:Rat) < (n:Rat):=by
  have:((0:Int):Rat) < (n:Rat):=Rat.intCast_lt_intCast.2 hn
  exact this
 have hkp:(0:Rat) < (k:Rat):=by
  have:((0:Int):Rat) < (k:Rat):=Rat.intCast_lt_intCast.2 h0
  exact this
 have hi:0 < (n:Rat)⁻¹:=Rat.inv_pos.2 hnp
 have hti:0 < t⁻¹:=Rat.inv_pos.2 ht
 have e:(t * (n:Rat)⁻¹)⁻¹=(n:Rat) * t⁻¹:=by rw [Rat.inv_mul_rev,Rat.inv_inv]
 unfold pressQ
 have hne:t * (n:Rat)⁻¹≠0:=by have:=Rat.mul_pos ht hi;grind
 rw [if_neg hne,e,if_pos]
 rw [Zfa,Rat.div_def] at h ⊢
 rw [Rat.intCast_mul] at h
 have hk1:(k:Rat) * (k:Rat)⁻¹=1:=Rat.mul_inv_cancel _ (by grind)
 have ht1:t * t⁻¹=1:=Rat.mul_inv_cancel _ (by grind)
 have hm1:((1000:Int):Rat) * ((1000:Int):Rat)⁻¹=1:=by decide +kernel
 have q1:=Rat.mul_le_mul_of_nonneg_left h (Rat.le_of_lt hkp)
 have e1:(k:Rat) * (((1000:Int):Rat) * (n:Rat) * (k:Rat)⁻¹)=((1000:Int):Rat) * (n:Rat):=by grind
 rw [e1] at q1
 have hp:(0:Rat) < ((1000:Int):Rat)⁻¹:=by decide +kernel
 have q2:=Rat.mul_le_mul_of_nonneg_left q1 (Rat.le_of_lt (Rat.mul_pos hp hti))
 generalize ((1000:Int):Rat)=A at *
 generalize A⁻¹=B at *
 generalize t⁻¹=T at *
 have f1:B * T * (A * (n:Rat))=(A * B) * ((n:Rat) * T):=by grind
 have f2:B * T * ((k:Rat) * t)=(t * T) * ((k:Rat) * B):=by grind
 rw [f1,f2,hm1,ht1,Rat.one_mul,Rat.one_mul] at q2
 exact q2
end Go.Sx
namespace Go.Sx
open Go
def octP:List V3:=[⟨80000,0,0⟩,⟨20000,0,0⟩,⟨50000,30000,0⟩,⟨50000,-30000,0⟩,⟨50000,0,30000⟩,⟨50000,0,-30000⟩]
def octF:List V3:=[⟨0,2,4⟩,⟨2,1,4⟩,⟨1,3,4⟩,⟨3,0,4⟩,⟨2,0,5⟩,⟨1,2,5⟩,⟨3,1,5⟩,⟨0,3,5⟩]
def asideP:List V3:=octP.map fun p=>⟨p.x,p.y+40000,p.z⟩
theorem Z7l:axisW octP octF=(20000,80000,0):=by decide +kernel
theorem Zvu:anchorW octP octF ⟨90000,5,5⟩=(⟨65000,0,0⟩,0):=by decide +kernel
theorem Zvt:anchorW octP octF ⟨51000,0,0⟩=(⟨51000,0,0⟩,0):=by decide +kernel
theorem Z3j:clipW octP octF ⟨50000,40000,0⟩=.inr [50000,30000,0]:=by decide +kernel
theorem Z3i:clipW octP octF ⟨50000,40000,40000⟩=.inr [50000,15000,15000]:=by decide +kernel
theorem Z3h:clipW octP octF ⟨50000,7,7⟩=.inr [50000,7,7]:=by decide +kernel
theorem Z3g:clipW octP octF ⟨100000,0,0⟩=.inr [80000,0,0]:=by decide +kernel
theorem Zz1:compressW octP octF ⟨50000,15000,0⟩ 500 2000=.inr [50000,15000,0]:=by decide +kernel
theorem Zz0:compressW octP octF ⟨50000,60000,0⟩ 500 2000=.inr [50000,30000,0]:=by decide +kernel
theorem Zzz:compressW octP octF ⟨50000,30000,0⟩ 500 2000=.inr [50000,20000,0]:=by decide +kernel
theorem Z3f:compressW octP octF ⟨50000,0,0⟩ 1000 2000=.inl 380:=by decide +kernel
theorem Z0w:clipW asideP octF ⟨50000,40000,0⟩=.inl 4:=by decide +kernel
end Go.Sx
namespace Go.Sx
open Go
theorem Zfq {n:Int} (h0:0≤n) (h1:n≤10000):Fit 19 (qI n 1000):=Zet (by omega) (by decide) (by decide)
theorem Zkz {k m:Int} (h0:0≤k) (h1:k < 1000) (h2:1000 < m) (h3:m≤10000) {t:Rat} (ht:Fit 19 t) :
  Fit 19 (1 * t⁻¹)∧Fit 39 (1 * t⁻¹ - qI k 1000)∧Fit 39 (qI m 1000 - qI k 1000)∧Fit 78 ((1 * t⁻¹ - qI k 1000) * (qI m 1000 - qI k 1000)⁻¹)∧Fit 39 (1 - qI k 1000)∧Fit 117 ((1 - qI k 1000) * ((1 * t⁻¹ - qI k 1000) * (qI m 1000 - qI k 1000)⁻¹)) ∧
  Fit 137 (qI k 1000+(1 - qI k 1000) * ((1 * t⁻¹ - qI k 1000) * (qI m 1000 - qI k 1000)⁻¹))∧Fit 156 (t * (qI k 1000+(1 - qI k 1000) * ((1 * t⁻¹ - qI k 1000) * (qI m 1000 - qI k 1000)⁻¹))):=by
 have fk:=Zfq (n:=k) h0 (by omega)
 have fm:=Zfq (n:=m) (by omega) h3
 have fd:Fit 19 (1 * t⁻¹):=by rw [Rat.one_mul];exact ht.inv
 have f1:=fd.sub fk
 have f2:=fm.sub fk
 have f3:=f1.mul f2.inv
 have f4:=fit1.sub fk
 have f5:=f4.mul f3
 have f6:=fk.add f5
 have f7:=ht.mul f6
 exact ⟨fd,f1,f2,f3,f4,f5,f6,f7⟩
theorem Z20 {k m:Int} (h0:0≤k) (h1:k < 1000) (h2:1000 < m) (h3:m≤10000) {t s:Rat} (ht:Fit 19 t) (h:pressQ k m t=.inr s):Fit 200 s:=by
 have hf:=(Zkz h0 h1 h2 h3 ht).2.2.2.2.2.2.2
 rw [Rat.one_mul] at hf
 unfold pressQ at h
 split at h
 ·cases h
 ·split at h
  ·cases h;exact fit1.mono (by decide)
  ·split at h
   ·cases h;exact ht.mono (by decide)
   ·cases h;exact hf.mono (by decide)
theorem Zow {k m:Int} (h0:0≤k) (h1:k < 1000) (h2:1000 < m) (h3:m≤10000) {t:Rat} (ht:Fit 19 t) :
  Fit 78 ((1 - qI k 1000) * (1 * t⁻¹ - qI k 1000))∧Fit 117 ((1 - qI k 1000) * (1 * t⁻¹ - qI k 1000) * (qI m 1000 - qI k 1000)⁻¹)∧Fit 137 (qI k 1000+(1 - qI k 1000) * (1 * t⁻¹ - qI k 1000) * (qI m 1000 - qI k 1000)⁻¹):=by
 have fk:=Zfq (n:=k) h0 (by omega)
 have fm:=Zfq (n:=m) (by omega) h3
 have fd:Fit 19 (1 * t⁻¹):=by rw [Rat.one_mul];exact ht.inv
 have f1:=(fit1.sub fk).mul (fd.sub fk)
 have f2:=f1.mul (fm.sub fk).inv
 exact ⟨f1,f2,fk.add f2⟩
theorem Z3v {k m:Int} (h1:k < 1000) (h2:1000 < m):qI m 1000 - qI k 1000≠0:=by
 intro h
 have h3:qI m 1000=qI k 1000:=by grind
 have h4:qI m 1000≤qI k 1000:=by rw [h3];exact Rat.le_refl
 have:=Z1u.1 h4
 omega
end Go.Sx
namespace Go.Sx
open Go
variable {P F:List V3} {p c:V3}
theorem Zcx (hg:Good P F) (h:anchorO P F p=some c):isFar c=false∧(sideW P F c).1=2∧c.y=0∧c.z=0:=by
 unfold anchorO at h
 rw [Option.bind_eq_some_iff] at h
 obtain ⟨⟨l,k⟩,he,h⟩:=h
 simp only at h
 split at h
 ·rename_i h2
  have e:=Option.some.inj h
  rw [← e]
  exact ⟨Zla hg he p,h2,rfl,rfl⟩
 ·cases h
theorem Zuc (hg:Good P F) (hp:isFar p=false) (h:anchorO P F p=none):clipW P F p=.inl 4:=by
 unfold clipW
 rw [if_neg (fun k=>k (Yga.2 hg)),hp,if_neg (by decide),h]
theorem Zws (hg:Good P F) (hp:isFar p=false) (h:anchorO P F p=some c) (hs:(sideW P F p).1≠0):clipW P F p=.inr (exactQ p):=by
 unfold clipW
 rw [if_neg (fun k=>k (Yga.2 hg)),hp,if_neg (by decide),h]
 simp only
 rw [if_pos hs]
theorem Zmq (hg:Good P F) (hp:isFar p=false) (h:anchorO P F p=some c) (hs:(sideW P F p).1=0) :
  p≠c∧∃ t j,rayM metP P F p c false=some (t,j)∧Fit 19 t∧clipW P F p=.inr (atQ p c t):=by
 obtain ⟨hc,h2,_⟩:=Zcx hg h
 obtain ⟨hne,t,j,hr⟩:=Z3b hg hp hc hs h2
 refine ⟨hne,t,j,hr,Zmh hg hp hc hne hr,?_⟩
 unfold clipW
 rw [if_neg (fun k=>k (Yga.2 hg)),hp,if_neg (by decide),h]
 simp only
 rw [if_neg (fun k=>k hs),hr]
section
variable {k m:Int}
theorem Zev (hg:Good P F) (hp:isFar p=false) (h0:0≤k) (h1:k < 1000) (h2:1000 < m) (h3:m≤10000) (h:anchorO P F p=none):compressW P F p k m=.inl 4:=by
 unfold compressW
 rw [if_neg (fun k=>k (Yga.2 hg)),hp,if_neg (by decide),if_neg (by omega),h]
theorem Zds (hg:Good P F) (hp:isFar p=false) (h0:0≤k) (h1:k < 1000) (h2:1000 < m) (h3:m≤10000) (h:anchorO P F p=some p):compressW P F p k m=.inr (exactQ p):=by
 unfold compressW
 rw [if_neg (fun k=>k (Yga.2 hg)),hp,if_neg (by decide),if_neg (by omega),h]
 exact if_pos rfl
theorem Zel (hg:Good P F) (hp:isFar p=false) (h0:0≤k) (h1:k < 1000) (h2:1000 < m) (h3:m≤10000) (h:anchorO P F p=some c) (hne:p≠c) :
  ∃ t j s,rayM metP P F c p true=some (t,j)∧0 < t∧Fit 19 t∧pressQ k m t=.inr s∧0≤s∧s≤1∧s≤t∧Fit 200 s∧compressW P F p k m=.inr (atQ c p s):=by
 obtain ⟨hc,hs,_⟩:=Zcx hg h
 obtain ⟨t,j,hr⟩:=Zya (p:=p) hg hc hs (fun e=>hne e.symm)
 have ht:=Zrg hg hc hs (fun e=>hne e.symm) hr
 have hf:=Zmh hg hc hp (fun e=>hne e.symm) hr
 obtain ⟨s,e,s0,s1,st⟩:=Z7b h0 h1 h2 ht
 refine ⟨t,j,s,hr,ht,hf,e,s0,s1,st,Z20 h0 h1 h2 h3 hf e,?_⟩
 unfold compressW
 rw [if_neg (fun k=>k (Yga.2 hg)),hp,if_neg (by decide),if_neg (by omega),h]
 simp only
 rw [if_neg hne,hr]
 simp only
 rw [e]
end
end Go.Sx
namespace Go.Sx
open Go
variable {P F:List V3} {a b c p v:V3}
def swV (v:V3):V3:=⟨v.x,v.z,v.y⟩
theorem Ydw (v:V3):swV (swV v)=v:=rfl
theorem Zlu (a b c:V3):det3 (swV a) (swV b) (swV c)=- det3 a b c:=by
 simp only [det3,V3.dot,V3.cross,swV];grind
theorem Zm4 (a b:V3):(swV a).sub (swV b)=swV (a.sub b):=rfl
theorem Z9u (x y z:Int) (a b c:V3):cmb3 x y z (swV a) (swV b) (swV c)=swV (cmb3 x y z a b c):=rfl
theorem Yam {v:V3}:swV v=V3.zero↔v=V3.zero:=by
 obtain ⟨x,y,z⟩:=v
 simp only [swV,V3.zero,V3.mk.injEq];omega
theorem Ydx {a b:V3}:swV a=swV b↔a=b:=⟨fun h=>by rw [← Ydw a,h,Ydw],fun h=>by rw [h]⟩
theorem Z8o (a b:V3):(swV a).cross (swV b)=V3.smul (-1) (swV (a.cross b)):=by
 simp only [V3.cross,swV,V3.smul,V3.mk.injEq]
 refine ⟨?_,?_,?_⟩<;>grind
theorem Zyl (p:V3):isFar (swV p)=isFar p:=by
 rw [Bool.eq_iff_iff,Zhr,Zhr]
 simp only [swV]
 omega
theorem Z2p {i:Int} (h:0≤i∧i < P.length):relV (P.map swV) (swV p) i=swV (relV P p i):=by
 unfold relV
 rw [Zbt h.1 h.2]
 exact Zm4 _ _
theorem Good.sw (hg:Good P F):Good (P.map swV) F where
 p4:=by rw [List.length_map];exact hg.p4
 p300:=by rw [List.length_map];exact hg.p300
 f4:=hg.f4
 f600:=hg.f600
 far:=List.findIdx?_eq_none_iff.2 fun q hq=>by
  obtain ⟨r,hr,rfl⟩:=List.mem_map.1 hq
  rw [Zyl]
  exact List.findIdx?_eq_none_iff.1 hg.far r hr
 wrong:=by rw [List.length_map];exact hg.wrong
 flat:=List.findIdx?_eq_none_iff.2 fun f hf=>by
  obtain ⟨h1,h2,h3⟩:=Zgm hg hf
  have h:=List.findIdx?_eq_none_iff.1 hg.flat f hf
  simp only [isFlat,decide_eq_false_iff_not] at h ⊢
  intro k
  apply h
  unfold normal at k ⊢
  rw [Zbt h1.1 h1.2,Zbt h2.1 h2.2,Zbt h3.1 h3.2,Zm4,Zm4,Z8o] at k
  generalize ((ptAt P f.y).sub (ptAt P f.x)).cross ((ptAt P f.z).sub (ptAt P f.x))=n at k ⊢
  obtain ⟨x,y,z⟩:=n
  simp only [swV,V3.smul,V3.zero,V3.mk.injEq] at k ⊢
  omega
 twice:=hg.twice
 opn:=hg.opn
 spare:=by rw [List.length_map];exact hg.spare
 apart:=hg.apart
theorem Zqx (hg:Good P F) {f:V3} (hf:f∈F):relV (P.map swV) (swV p) f.x=swV (relV P p f.x)∧relV (P.map swV) (swV p) f.y=swV (relV P p f.y)∧relV (P.map swV) (swV p) f.z=swV (relV P p f.z):=by
 obtain ⟨h1,h2,h3⟩:=Zgm hg hf
 exact ⟨Z2p h1,Z2p h2,Z2p h3⟩
theorem Yeb (hg:Good P F):onM axP (P.map swV) F (swV p)=onM axP P F p:=by
 rw [Bool.eq_iff_iff,Zeq hg.sw,Zeq hg]
 have key:∀ f∈F,(OnI (P.map swV) (swV p) f↔OnI P p f):=fun f hf=>by
  obtain ⟨e1,e2,e3⟩:=Zqx (p:=p) hg hf
  unfold OnI
  rw [e1,e2,e3]
  simp only [Z9u,Yam]
 constructor
 ·rintro ⟨f,hf,k⟩;exact ⟨f,hf,(key f hf).1 k⟩
 ·rintro ⟨f,hf,k⟩;exact ⟨f,hf,(key f hf).2 k⟩
theorem Yer (d a b c:V3):hit3 (swV d) (swV a) (swV b) (swV c)=- hit3 d a b c:=by
 unfold hit3
 rw [Zlu,Zlu,Zlu,Zlu]
 unfold hitS
 simp only [Int.sign_neg]
 by_cases h:det3 a b c≠0∧(det3 d b c).sign=(det3 a b c).sign∧(det3 d c a).sign=(det3 a b c).sign∧(det3 d a b).sign=(det3 a b c).sign
 ·rw [if_pos h,if_pos (by omega)]
 ·rw [if_neg h,if_neg (by omega)];rfl
theorem Zyh {g h:V3→Int}:∀ (F:List V3),(∀ f∈F,g f=- h f)→∀ s,F.foldl (fun s f=>s+g f) (-s)=- F.foldl (fun s f=>s+h f) s
 | [],_,s=>rfl
 | f::F,k,s=>by
  rw [List.foldl_cons,List.foldl_cons,k f List.mem_cons_self,← Int.neg_add,Zyh F fun x hx=>k x (List.mem_cons_of_mem _ hx)]
theorem Yae (hg:Good P F) (ho:onM axP P F p=false):windN (P.map swV) F (swV p)=- windN P F p:=by
 obtain ⟨t,_,_,_,hf⟩:=Zbz hg p
 have hf':Fine (P.map swV) F (swV p) (swV (dirT t)):=fun f hfF h0=>by
  obtain ⟨e1,e2,e3⟩:=Zqx (p:=p) hg hfF
  rw [e1,e2,e3,Zlu] at h0
  rw [e1,e2,e3,Zlu,Zlu,Zlu]
  obtain ⟨k1,k2,k3⟩:=hf f hfF (by omega)
  exact ⟨by omega,by omega,by omega⟩
 rw [Zde hg ho hf,Zde hg.sw (by rw [Yeb hg];exact ho) hf']
 unfold windM
 have:=Zyh (g:=hitF (P.map swV) (swV p) (swV (dirT t))) (h:=hitF P p (dirT t)) F (fun f hf=>by
  obtain ⟨e1,e2,e3⟩:=Zqx (p:=p) hg hf
  unfold hitF
  rw [e1,e2,e3]
  exact Yer _ _ _ _) 0
 simpa using this
theorem Zqt (hg:Good P F):sideW (P.map swV) F (swV p)=sideW P F p:=by
 have f1:(flawM P F).1=0:=Yga.2 hg
 have f2:(flawM (P.map swV) F).1=0:=Yga.2 hg.sw
 unfold sideW
 rw [f1,f2,Zyl,Yeb hg]
 cases hq:onM axP P F p with
 | true=>rfl
 | false =>
  rw [Yae hg hq]
  simp only [ne_eq,Int.neg_eq_zero]
theorem Zrb (hg:Good P F) {d:V3} {s:Rat}:MeetF (P.map swV) F (swV a) (swV d) s↔MeetF P F a d s:=by
 have key:∀ f∈F,(HitR (relV (P.map swV) (swV a) f.x) (relV (P.map swV) (swV a) f.y) (relV (P.map swV) (swV a) f.z) (swV d) s↔HitR (relV P a f.x) (relV P a f.y) (relV P a f.z) d s):=fun f hf=>by
  obtain ⟨e1,e2,e3⟩:=Zqx (p:=a) hg hf
  rw [e1,e2,e3]
  unfold HitR HitI
  have e:∀ k:Int,scal k (swV d)=swV (scal k d):=fun _=>rfl
  simp only [Z9u,e,Ydx]
 constructor
 ·rintro ⟨f,hf,k⟩;exact ⟨f,hf,(key f hf).1 k⟩
 ·rintro ⟨f,hf,k⟩;exact ⟨f,hf,(key f hf).2 k⟩
theorem Zxu (hg:Good P F) (hab:a≠b) {y:Bool}:(rayM metP (P.map swV) F (swV a) (swV b) y).map (·.1)=(rayM metP P F a b y).map (·.1):=by
 have hab':swV a≠swV b:=fun h=>hab (Ydx.1 h)
 cases h:rayM metP P F a b y with
 | none =>
  have hn:=Zj0 hg hab h
  cases h':rayM metP (P.map swV) F (swV a) (swV b) y with
  | none=>rfl
  | some x =>
   exfalso
   obtain ⟨t,j⟩:=x
   obtain ⟨k1,k2,_⟩:=Zie hg.sw hab' h'
   rw [Zm4,Zrb hg] at k1
   exact hn _ k1 k2
 | some x =>
  obtain ⟨t,j⟩:=x
  obtain ⟨k1,k2,k3⟩:=Zie hg hab h
  cases h':rayM metP (P.map swV) F (swV a) (swV b) y with
  | none =>
   exfalso
   refine Zj0 hg.sw hab' h' t ?_ k2
   rw [Zm4,Zrb hg];exact k1
  | some x' =>
   obtain ⟨t',j'⟩:=x'
   obtain ⟨m1,m2,m3⟩:=Zie hg.sw hab' h'
   have q1:=m3 t (by rw [Zm4,Zrb hg];exact k1) k2
   rw [Zm4,Zrb hg] at m1
   have q2:=k3 t' m1 m2
   rw [Option.map_some,Option.map_some,Rat.le_antisymm q1 q2]
theorem Ye2 (hg:Good P F):extO (P.map swV) F=extO P F:=by
 have s1:sideW (P.map swV) F blackV=sideW P F blackV:=Zqt (p:=blackV) hg
 have s2:sideW (P.map swV) F whiteV=sideW P F whiteV:=Zqt (p:=whiteV) hg
 have r1:(rayM metP (P.map swV) F blackV whiteV false).map (·.1)=(rayM metP P F blackV whiteV false).map (·.1):=Zxu (a:=blackV) (b:=whiteV) hg (by decide)
 have r2:(rayM metP (P.map swV) F whiteV blackV false).map (·.1)=(rayM metP P F whiteV blackV false).map (·.1):=Zxu (a:=whiteV) (b:=blackV) hg (by decide)
 have key:∀ {α:Type} (o o':Option (Rat × Nat)) (g:Rat→α),o.map (·.1)=o'.map (·.1)→o.map (fun x=>g x.1)=o'.map (fun x=>g x.1):=fun o o' g h=>by
  have:=congrArg (Option.map g) h
  simpa [Option.map_map,Function.comp_def] using this
 unfold extO lowO highO
 rw [s1,s2,key _ _ (fun t=>-((-100000:Rat) * t).floor) r1,key _ _ (fun t=>100000+((-100000:Rat) * t).floor) r2]
theorem Zuh (hg:Good P F):anchorO (P.map swV) F (swV p)=anchorO P F p:=by
 unfold anchorO
 rw [Ye2 hg]
 congr 1
 funext x
 have e:anchorV x.1 x.2 (swV p)=anchorV x.1 x.2 p:=rfl
 have e2:sideW (P.map swV) F (anchorV x.1 x.2 p)=sideW P F (anchorV x.1 x.2 p):=Zqt (p:=anchorV x.1 x.2 p) hg
 rw [e,e2]
def swQ:List Rat→List Rat
 | [a,b,c]=>[a,c,b]
 | l=>l
def swR (o:Int ⊕ List Rat):Int ⊕ List Rat:=match o with
 | .inl e=>.inl e
 | .inr l=>.inr (swQ l)
theorem Z4u (hg:Good P F):clipW (P.map swV) F (swV p)=swR (clipW P F p):=by
 have f1:(flawM P F).1=0:=Yga.2 hg
 have f2:(flawM (P.map swV) F).1=0:=Yga.2 hg.sw
 unfold clipW
 have g1:¬ (flawM P F).1≠0:=fun h=>h f1
 have g2:¬ (flawM (P.map swV) F).1≠0:=fun h=>h f2
 rw [if_neg g2,if_neg g1,Zyl,Zuh hg,Zqt hg]
 by_cases hp:isFar p=true
 ·rw [if_pos hp,if_pos hp];rfl
 rw [if_neg hp,if_neg hp]
 cases ha:anchorO P F p with
 | none=>rfl
 | some c =>
  have hc:swV c=c:=by
   unfold anchorO at ha
   rw [Option.bind_eq_some_iff] at ha
   obtain ⟨x,_,ha⟩:=ha
   split at ha
   ·rw [← Option.some.inj ha];rfl
   ·cases ha
  simp only
  by_cases hs:(sideW P F p).1≠0
  ·rw [if_pos hs,if_pos hs];rfl
  ·rw [if_neg hs,if_neg hs]
   have hpc:p≠c:=by
        intro e
        unfold anchorO at ha
        rw [Option.bind_eq_some_iff] at ha
        obtain ⟨x,_,ha⟩:=ha
        split at ha
        ·rename_i h2
         rw [Option.some.inj ha,← e] at h2
         omega
        ·cases ha
   have hr:=Zxu (a:=p) (b:=c) (y:=false) hg hpc
   rw [hc] at hr
   cases h1:rayM metP (P.map swV) F (swV p) c false with
   | none =>
        cases h2:rayM metP P F p c false with
        | none=>rfl
        | some x=>rw [h1,h2] at hr;cases hr
   | some x =>
        cases h2:rayM metP P F p c false with
        | none=>rw [h1,h2] at hr;cases hr
        | some x' =>
         rw [h1,h2,Option.map_some,Option.map_some] at hr
         simp only
         rw [Option.some.inj hr]
         have e:atQ (swV p) c=atQ (swV p) (swV c):=by rw [hc]
         rw [e];rfl
theorem Zn9 (hg:Good P F) {k m:Int}:compressW (P.map swV) F (swV p) k m=swR (compressW P F p k m):=by
 have f1:(flawM P F).1=0:=Yga.2 hg
 have f2:(flawM (P.map swV) F).1=0:=Yga.2 hg.sw
 unfold compressW
 have g1:¬ (flawM P F).1≠0:=fun h=>h f1
 have g2:¬ (flawM (P.map swV) F).1≠0:=fun h=>h f2
 rw [if_neg g2,if_neg g1,Zyl,Zuh hg]
 by_cases hp:isFar p=true
 ·rw [if_pos hp,if_pos hp];rfl
 rw [if_neg hp,if_neg hp]
 by_cases hk:k < 0∨1000≤k∨m≤1000∨10000 < m
 ·rw [if_pos hk,if_pos hk];rfl
 rw [if_neg hk,if_neg hk]
 cases ha:anchorO P F p with
 | none=>rfl
 | some c =>
  have hc:swV c=c:=by
   unfold anchorO at ha
   rw [Option.bind_eq_some_iff] at ha
   obtain ⟨x,_,ha⟩:=ha
   split at ha
   ·rw [← Option.some.inj ha];rfl
   ·cases ha
  simp only
  by_cases hpc:p=c
  ·rw [if_pos hpc,if_pos (by rw [hpc,hc]),hpc,hc]
   have:exactQ c=swQ (exactQ c):=by
        have e:exactQ c=exactQ (swV c):=by rw [hc]
        conv=>lhs;rw [e]
        rfl
   show Sum.inr (exactQ c)=Sum.inr (swQ (exactQ c))
   rw [← this]
  ·rw [if_neg hpc,if_neg (fun e=>hpc (Ydx.1 (by rw [hc];exact e)))]
   have hr:=Zxu (a:=c) (b:=p) (y:=true) hg (fun e=>hpc e.symm)
   rw [hc] at hr
   cases h1:rayM metP (P.map swV) F c (swV p) true with
   | none =>
        cases h2:rayM metP P F c p true with
        | none=>rfl
        | some x=>rw [h1,h2] at hr;cases hr
   | some x =>
        cases h2:rayM metP P F c p true with
        | none=>rw [h1,h2] at hr;cases hr
        | some x' =>
         rw [h1,h2,Option.map_some,Option.map_some] at hr
         simp only
         rw [Option.some.inj hr]
         cases pressQ k m x'.1 with
         | inl e=>rfl
         | inr s =>
          have e:atQ c (swV p)=atQ (swV c) (swV p):=by rw [hc]
          simp only
          rw [e];rfl
theorem Z4v {l:Int} {r:List Rat} (h:clipW P F ⟨l,0,0⟩=.inr r):∃ x,r=[x,0,0]:=by
 have z:∀ s:Rat,((0:Int):Rat)+s * ((0 - 0:Int):Rat)=0:=fun s=>by
  have e0:((0 - 0:Int):Rat)=0:=rfl
  have e1:((0:Int):Rat)=0:=rfl
  rw [e0,e1,Rat.mul_zero,Rat.add_zero]
 unfold clipW at h
 split at h
 ·cases h
 split at h
 ·cases h
 cases ha:anchorO P F ⟨l,0,0⟩ with
 | none=>rw [ha] at h;cases h
 | some c =>
  rw [ha] at h
  have hc:c.y=0∧c.z=0:=by
   unfold anchorO at ha
   rw [Option.bind_eq_some_iff] at ha
   obtain ⟨x,_,ha⟩:=ha
   split at ha
   ·rw [← Option.some.inj ha];exact ⟨rfl,rfl⟩
   ·cases ha
  simp only at h
  split at h
  ·cases h;exact ⟨_,rfl⟩
  ·cases hr:rayM metP P F ⟨l,0,0⟩ c false with
   | none=>rw [hr] at h;cases h
   | some x =>
        obtain ⟨t,j⟩:=x
        rw [hr] at h
        cases h
        refine ⟨(l:Rat)+t * ((c.x - l:Int):Rat),?_⟩
        unfold atQ
        rw [hc.1,hc.2]
        simp only [z]
theorem Zr2 {l k m:Int} {r:List Rat} (h:compressW P F ⟨l,0,0⟩ k m=.inr r):∃ x,r=[x,0,0]:=by
 have z:∀ s:Rat,((0:Int):Rat)+s * ((0 - 0:Int):Rat)=0:=fun s=>by
  have e0:((0 - 0:Int):Rat)=0:=rfl
  have e1:((0:Int):Rat)=0:=rfl
  rw [e0,e1,Rat.mul_zero,Rat.add_zero]
 unfold compressW at h
 split at h
 ·cases h
 split at h
 ·cases h
 split at h
 ·cases h
 cases ha:anchorO P F ⟨l,0,0⟩ with
 | none=>rw [ha] at h;cases h
 | some c =>
  rw [ha] at h
  have hc:c.y=0∧c.z=0:=by
   unfold anchorO at ha
   rw [Option.bind_eq_some_iff] at ha
   obtain ⟨x,_,ha⟩:=ha
   split at ha
   ·rw [← Option.some.inj ha];exact ⟨rfl,rfl⟩
   ·cases ha
  simp only at h
  split at h
  ·cases h;exact ⟨_,rfl⟩
  ·cases hr:rayM metP P F c ⟨l,0,0⟩ true with
   | none=>rw [hr] at h;cases h
   | some x =>
        obtain ⟨t,j⟩:=x
        rw [hr] at h
        simp only at h
        cases hq:pressQ k m t with
        | inl e=>rw [hq] at h;cases h
        | inr s =>
         rw [hq] at h
         cases h
         refine ⟨(c.x:Rat)+s * ((l - c.x:Int):Rat),?_⟩
         unfold atQ
         rw [hc.1,hc.2]
         simp only [z]
end Go.Sx
namespace Go.Sx
open Go
variable {P F:List V3} {p q c v:V3} {k m n:Int}
theorem Z8x (h:p.x=q.x):anchorO P F p=anchorO P F q:=by
 unfold anchorO anchorV
 rw [h]
theorem Ycl (c p:V3):exactQ c=atQ c p 0:=by
 have e:∀ x y:Int,(x:Rat)=(x:Rat)+0 * ((y - x:Int):Rat):=fun x y=>by grind
 unfold exactQ atQ
 rw [← e c.x p.x,← e c.y p.y,← e c.z p.z]
theorem Zs9 (hg:Good P F) (hc:isFar c=false) (h2c:(sideW P F c).1=2) (hv:v≠V3.zero) {t:Rat} {j:Nat} (hr:rayM metP P F c (c.plus v) true=some (t,j)) (hn:0≤n∧n≤255)
  (hp:isFar (c.plus (V3.smul n v))=false) (ha:anchorO P F (c.plus (V3.smul n v))=some c) (h0:0≤k) (h1:k < 1000) (h2:1000 < m) (h3:m≤10000) :
  ∃ u,Fit 300 u∧compressW P F (c.plus (V3.smul n v)) k m=.inr (atQ c (c.plus v) u)∧(n=0→u=0)∧(0 < n→u=t * gQ (qI k 1000) (qI m 1000) ((n:Rat) * t⁻¹)) ∧
    (0 < n→0 < k→qI (1000 * n) k≤t→compressW P F (c.plus (V3.smul n v)) k m=.inr (exactQ (c.plus (V3.smul n v)))):=by
 have s1:(c.plus v).sub c=v:=by rw [Za2];simp only [V3.plus,V3.sub];omega
 have n1:c≠c.plus v:=fun e=>hv (by rw [← s1,← e];simp [V3.sub,V3.zero])
 have ht:=Zrg hg hc h2c n1 hr
 by_cases hn0:n=0
 ·subst hn0
  have e:c.plus (V3.smul 0 v)=c:=Zf6 c v
  rw [e] at ha hp ⊢
  refine ⟨0,fit0.mono (by decide),?_,fun _=>rfl,fun h=>by omega,fun h=>by omega⟩
  rw [Zds hg hp h0 h1 h2 h3 ha,← Ycl]
 ·have hn':0 < n:=by omega
  have s2:(c.plus (V3.smul n v)).sub c=V3.smul n v:=by rw [Za2];simp only [V3.plus,V3.sub];omega
  have n2:c.plus (V3.smul n v)≠c:=fun e=>Zm5 (show n≠0 by omega) hv (by rw [← s2,e];simp [V3.sub,V3.zero])
  obtain ⟨t',j',s,hr',ht',hf',hs,s0,s1',st,hfs,hcw⟩:=Zel hg hp h0 h1 h2 h3 ha n2
  obtain ⟨j'',hr''⟩:=Z2v hg hn' hv hr
  rw [hr'] at hr''
  obtain ⟨rfl,rfl⟩:=Prod.mk.inj (Option.some.inj hr'')
  obtain ⟨s',hs',he⟩:=Z21 h0 h1 h2 hn' ht
  rw [hs] at hs'
  obtain rfl:=Sum.inr.inj hs'
  refine ⟨(n:Rat) * s,((Zba (z:=n) (by omega)).mul hfs).mono (by decide),?_,fun h=>by omega,fun _=>he,fun _ hk hle=>?_⟩
  ·rw [hcw,Z44]
  ·have h5:=Z0d hk h1 h2 hn' ht hle
   rw [hs] at h5
   obtain rfl:=Sum.inr.inj h5
   rw [hcw,← Ye7]
end Go.Sx
