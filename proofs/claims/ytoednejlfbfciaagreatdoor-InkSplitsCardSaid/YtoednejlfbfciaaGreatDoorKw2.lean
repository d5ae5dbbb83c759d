/- Walks: ink: rules, black out of grey, Split. -/
import Derived.Test.YtoednejlfbfciaaGreatDoorKc5
set_option maxHeartbeats 1000000
namespace Go.Sx
open Go
theorem Ztc {c m y:Int}:(if y < (if m < c then m else c) then y else (if m < c then m else c))=greyI c m y:=by unfold greyI;omega
theorem Zxc {P:Program} {N:Ctx} {w0:World} {e:Env} {As:List Ent} {ty:TypeId} {x y z:Operand} {k k' k'':IntKind} {m n p:Int} {tys:Array TypeId} (hx:ev e x=some (.int k m)) (hy:ev e y=some (.int k' n)) (hz:ev e z=some (.int k'' p)) :
  ExF P N w0 (.call ⟨.builtin .min,#[x,y,z],tys⟩) ty e As (.int k (if p < (if n < m then n else m) then p else (if n < m then n else m))):=by
 unfold ExF
 intro a w ha hs d pos af g
 simp [execOp,ha.eval hx,ha.eval hy,ha.eval hz,resolve,invoke,builtin,Builtin.min_,Builtin.min2]
def splitA:Int ⊕ Ink→Ink
 | .inl _=>Ink.zero
 | .inr a=>a
def splitE:Int ⊕ Ink→Int
 | .inl e=>e
 | .inr _=>0
theorem Z2a {c m y:Int}:inW 10000 [c,m,y]↔in3 c m y:=Ztm
theorem Zpw {c m y:Int} (h:in3 c m y):0≤greyI c m y∧greyI c m y≤10000:=by
 obtain ⟨⟨_,_⟩,⟨_,_⟩,⟨_,_⟩⟩:=h
 unfold greyI;omega
end Go.Sx
namespace Go.Proofs.YtoednejlfbfciaaGreatDoor
open Go Go.Sx
variable {w0:World} {As:List Ent} {kv n:Int} {tv sv:Value} {tab:List Int} {ss:List Seg}
instance ngd4:NGd Tryz.prog 41:=⟨by kernel_rfl⟩
set_option maxRecDepth 100000 in
theorem Zc0 [RdIn As tv Int (cI .i64) tab] [RdIn As sv Seg cSeg ss] (hl:tab.length≤1000000000) (hl':ss.length≤1000000000) :
  CQ Tryz.prog w0 11 [.agg #[.int .i64 kv,tv,sv,.int .i64 n]] As (.int .i64 (rulesE ⟨kv,tab,ss⟩ n)):=by
 refine Zad tv fun p0 c0 e0=>Zad sv fun p1 c1 e1=>?_
 subst e0 e1
 refine Zab Tryz.func11 rfl Tryz.ntmps11 rfl ?_
 repeat' first|refine Kz ?_|intro _
 refine Ks rfl (Zd5 (kv:=kv) (tv:=.slice p0 tab.length c0) (tab:=tab) (sv:=.slice p1 ss.length c1) (ss:=ss) hl hl') ?_
 by_cases hk:Crv.ok ⟨kv,tab,ss⟩
 case neg =>
  unfold crvE
  rw [if_neg hk]
  repeat' first|refine Kz ?_|intro _
  (refine Zac ?_)
  exact ⟨_,⟨by unfold rulesE;rw [if_pos hk],rfl⟩,Zaa⟩
 unfold crvE
 rw [if_pos hk]
 repeat' first|refine Kz ?_|intro _
 refine Ks rfl (Zk8 (kv:=kv) (tv:=.slice p0 tab.length c0) (tab:=tab) (sv:=.slice p1 ss.length c1) (ss:=ss) hl hl') ?_
 by_cases hx:Crv.ok ⟨kv,tab,ss⟩∧Crv.exact ⟨kv,tab,ss⟩
 ·rw [decide_eq_true hx]
  repeat' first|refine Kz ?_|intro _
  refine Ks rfl Zip ?_
  by_cases hn:n < 10000∨40000 < n
  ·rw [decide_eq_true hn]
   repeat' first|refine Kz ?_|intro _
   (refine Zac ?_)
   exact ⟨_,⟨by unfold rulesE;rw [if_neg (fun g=>g hk),if_pos (.inr hn)],rfl⟩,Zaa⟩
  ·rw [decide_eq_false hn]
   repeat' first|refine Kz ?_|intro _
   (refine Zac ?_)
   exact ⟨_,⟨by unfold rulesE;rw [if_neg (fun g=>g hk),if_neg (fun g=>g.elim (fun g=>g hx.2) hn)],rfl⟩,Zaa⟩
 ·rw [decide_eq_false hx]
  repeat' first|refine Kz ?_|intro _
  (refine Zac ?_)
  exact ⟨_,⟨by unfold rulesE;rw [if_neg (fun g=>g hk),if_pos (.inl fun g=>hx ⟨hk,g⟩)],rfl⟩,Zaa⟩
set_option maxRecDepth 100000 in
theorem Zt9 (ht:Tab w0) (he:ErrR w0) [RdIn As tv Int (cI .i64) tab] [RdIn As sv Seg cSeg ss] (hl:tab.length≤1000000000) (hl':ss.length≤1000000000) (hc:Crv.ok ⟨kv,tab,ss⟩) (hx:Crv.exact ⟨kv,tab,ss⟩) {g:Int} (h0:0≤g) (h1:g≤10000) :
  CQ Tryz.prog w0 35 [.agg #[.int .i64 kv,tv,sv,.int .i64 n],.int .i64 g] As (.tuple #[.int .i64 (blackI ⟨kv,tab,ss⟩ g),.int .i64 0]):=by
 refine Zad tv fun p0 c0 e0=>Zad sv fun p1 c1 e1=>?_
 subst e0 e1
 refine Zab Tryz.func35 rfl Tryz.ntmps35 rfl ?_
 repeat' first|refine Kz ?_|intro _
 refine Ks rfl (Zxn ht (n:=g) (d:=10000) (by omega) (by decide)) ?_
 rw [show ((10000:Int).toNat)=10000 from rfl]
 repeat' first|refine Kz ?_|intro _
 refine TL.callv rfl rfl rfl rfl (Zyw ht (kv:=kv) (tv:=.slice p0 tab.length c0) (tab:=tab) (sv:=.slice p1 ss.length c1) (ss:=ss) hl hl' hc hx h0 h1) ?_
 rintro _ _ ⟨y,hy,hf,rfl,rfl⟩
 repeat' first|refine Kz ?_|intro _
 refine Ks rfl (Q.Z1h ht he (r:=y) (k:=10000) (hf.mono (by decide))) ?_
 obtain ⟨y',hy',y0,y1⟩:=Zxt hc hx (mkRat g 10000)
 obtain rfl:y'=y:=by rw [hy] at hy';exact (Sum.inr.inj hy').symm
 have hb:=Zp4 (k:=10000) y0 y1
 have e:Q.nearO (some y') 10000=(Q.nearQ y' 10000,0):=by
  unfold Q.nearO
  simp only
  rw [if_pos (by decide),if_pos ⟨by have:=hb.1;show _≤Q.nearQ y' 10000;omega,by have:=hb.2;show Q.nearQ y' 10000≤_;omega⟩]
  rfl
 rw [e]
 repeat' first|refine Kz ?_|intro _
 (refine Zac ?_)
 exact ⟨_,⟨by unfold blackI;rw [hy];rfl,rfl⟩,Zaa⟩
theorem Zns {f:FuncId} {fst:List Value} {g k:Int} [Body Tryz.prog f] (hc:CallsS Tryz.prog w0 f (fst++([.int .i64 g]++[])) As fun u Bs=>u=.tuple #[.int .i64 k,.int .i64 0]∧Bs=As) :
  CQ Tryz.prog w0 34 [.func (.func f) fst.toArray #[],.int .i64 g] As (.tuple #[.int .i64 k,.int .i64 0]):=by
 refine Zab Tryz.func34 rfl Tryz.ntmps34 rfl ?_
 repeat' first|refine Kz ?_|intro _
 refine TL.callv (cap:=[]) rfl rfl rfl rfl hc ?_
 rintro _ _ ⟨rfl,rfl⟩
 repeat' first|refine Kz ?_|intro _
 exact Kv
set_option maxRecDepth 100000 in
set_option maxHeartbeats 1000000 in
theorem Zb2 (ht:Tab w0) (he:ErrR w0) [RdIn As tv Int (cI .i64) tab] [RdIn As sv Seg cSeg ss] (hl:tab.length≤1000000000) (hl':ss.length≤1000000000) {c m y:Int} :
  CallsS Tryz.prog w0 13 [.agg #[.int .i64 c,.int .i64 m,.int .i64 y],.agg #[.int .i64 kv,tv,sv,.int .i64 n]] As
   fun u Bs=>u=.tuple #[(splitA (splitW c m y ⟨kv,tab,ss⟩ n)).val,.int .i64 (splitE (splitW c m y ⟨kv,tab,ss⟩ n))]∧Bs=As:=by
 refine Zad tv fun p0 c0 e0=>Zad sv fun p1 c1 e1=>?_
 subst e0 e1
 refine Zab Tryz.func13 rfl Tryz.ntmps13 rfl ?_
 repeat' first|refine Kz ?_|intro _
 refine TL.f rfl rfl (Zay rfl Zb3 (Nat.le_refl _) (by decide)) ?_
 repeat' first|refine Kz ?_|intro _
 refine Ks rfl (Zcw (xs:=[c,m,y]) (by simp)) ?_
 by_cases h:inW 10000 [c,m,y]
 case neg =>
  rw [decide_eq_false h]
  repeat' first|refine Kz ?_|intro _
  (refine Zac ?_)
  exact ⟨_,⟨by unfold splitW;rw [if_pos (fun g=>h (Z2a.2 g))];rfl,rfl⟩,Zaa⟩
 rw [decide_eq_true h]
 have h3:=Z2a.1 h
 have hg:=Zpw h3
 repeat' first|refine Kz ?_|intro _
 refine Ks rfl (Zc0 (kv:=kv) (n:=n) (tv:=.slice p0 tab.length c0) (tab:=tab) (sv:=.slice p1 ss.length c1) (ss:=ss) hl hl') ?_
 by_cases hr:rulesE ⟨kv,tab,ss⟩ n=0
 case neg =>
  generalize hre:rulesE ⟨kv,tab,ss⟩ n=r at *
  repeat' first|refine Kz ?_|intro _
  (refine Zac ?_)
  exact ⟨_,⟨by unfold splitW;rw [if_neg (fun g=>g h3),if_pos (by rw [hre];exact hr),hre];rfl,rfl⟩,Zaa⟩
 rw [hr]
 obtain ⟨hc,hx,n0,n1⟩:=Zkk hr
 have hk:=Zio hc hx (greyI c m y)
 have hw:splitW c m y ⟨kv,tab,ss⟩ n=.inr (splitI c m y (blackI ⟨kv,tab,ss⟩ (greyI c m y)) n):=by unfold splitW;rw [if_neg (fun g=>g h3),if_neg (fun g=>g hr)]
 rw [hw]
 have ha:=fun Bs [RdIn Bs (.slice p0 tab.length c0) Int (cI .i64) tab] [RdIn Bs (.slice p1 ss.length c1) Seg cSeg ss]=>Zt9 (w0:=w0) (As:=Bs) ht he (kv:=kv) (n:=n) (tv:=.slice p0 tab.length c0) (tab:=tab) (sv:=.slice p1 ss.length c1) (ss:=ss) hl hl' hc hx hg.1 hg.2
 clear hw hr h hx hc
 generalize blackI ⟨kv,tab,ss⟩ (greyI c m y)=k at *
 obtain ⟨⟨_,_⟩,⟨_,_⟩,⟨_,_⟩⟩:=h3
 have hgc:greyI c m y≤c∧greyI c m y≤m∧greyI c m y≤y:=by unfold greyI;omega
 rw [show splitI c m y k n=cutI ⟨c - min k (greyI c m y),m - min k (greyI c m y),y - min k (greyI c m y),k⟩ n from rfl]
 repeat' first|refine Kz ?_|intro _
 refine TL.f rfl rfl (Zxc rfl rfl rfl) ?_
 rw [Ztc]
 generalize greyI c m y=g at *
 repeat' first|refine Kz ?_|intro _
 refine Ks rfl (Zns (fst:=[.agg #[.int .i64 kv,.slice p0 tab.length c0,.slice p1 ss.length c1,.int .i64 n]]) (ha _)) ?_
 repeat' first|refine Kz ?_|intro _
 refine TL.f rfl rfl (ExF.build (l:=[.int .i64 0,.int .i64 0,.int .i64 0,.int .i64 k]) rfl (fun w=>by kernel_rfl)) ?_
 repeat' first|refine Kz ?_|intro _
 refine Zbh 4 ?_
 repeat' first|refine Kz ?_|intro _
 rw [show (if g < k then g else k)=min k g by split<;>omega]
 repeat' first|refine Kz ?_|intro _
 refine TL.f rfl rfl (Zge rfl rfl) ?_
 by_cases hz:c - min k g=0∧m - min k g=0∧y - min k g=0∧k=0
 ·rw [decide_eq_true hz]
  repeat' first|refine Kz ?_|intro _
  (refine Zac ?_)
  refine ⟨_,⟨?_,rfl⟩,Zaa⟩
  show Value.tuple #[.agg #[.int .i64 (c - min k g),.int .i64 (m - min k g),.int .i64 (y - min k g),.int .i64 k],.int .i64 0]=.tuple #[(cutI ⟨c - min k g,m - min k g,y - min k g,k⟩ n).val,.int .i64 0]
  rw [hz.1,hz.2.1,hz.2.2.1,hz.2.2.2,Zwp (by omega)]
  rfl
 ·rw [decide_eq_false hz]
  repeat' first|refine Kz ?_|intro _
  refine Ks rfl (Zk6 (c:=c - min k g) (m:=m - min k g) (y:=y - min k g) (k:=k) (n:=n) (by omega) (by omega) (by omega) (by omega) (by omega)) ?_
  generalize cutI ⟨c - min k g,m - min k g,y - min k g,k⟩ n=q
  obtain ⟨q1,q2,q3,q4⟩:=q
  show TL _ _ _ _ _ ((_,.agg #[.int .i64 q1,.int .i64 q2,.int .i64 q3,.int .i64 q4])::_) _ _
  repeat' first|refine Kz ?_|intro _
  exact Kv
end Go.Proofs.YtoednejlfbfciaaGreatDoor
