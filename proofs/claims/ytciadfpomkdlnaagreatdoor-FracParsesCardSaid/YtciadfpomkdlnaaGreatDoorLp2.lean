/- Walks: the reference on fractions: digits, powers of ten. -/
import Derived.Test.YtciadfpomkdlnaaGreatDoorLp1
import Derived.Test.YtciadfpomkdlnaaGreatDoorCd1
import Derived.Test.YtciadfpomkdlnaaGreatDoorVb5
set_option maxHeartbeats 1000000
namespace Go.Sx
open Go
theorem Zgm {k:Nat} {z:Int} (h:Lib.nDigits z.natAbs≤k):(qud z.natAbs).length≤k :=
 Zaj (Nat.lt_of_lt_of_le (Zam h) (Nat.pow_le_pow_left (by decide) k))
end Go.Sx
namespace Go.Proofs.YtciadfpomkdlnaaGreatDoor.Q
open Go Go.Sx
variable {w0:World} {As:List Ent}
theorem Zz2 (n:Nat):(qud (10 ^ n)).length≤n+1:=Zaj (Nat.lt_of_lt_of_le (Nat.pow_lt_pow_right (by decide) (Nat.lt_succ_self n)) (Nat.pow_le_pow_left (by decide) _))
theorem Zy8 {n:Nat} (hn:n≤20):CallsS Tryz.prog w0 75 [.int .i64 (n:Int)] As (PlainR As ((10:Int) ^ n)):=by
 have l10:(qud (10:Int).natAbs).length≤5:=Zaj (by decide)
 refine Zab Tryz.func75 rfl Tryz.ntmps75 rfl ?_
 repeat' first|refine Kz ?_|intro _
 refine TL.call rfl rfl rfl (Zaw (n:=10) (by decide) (by decide)) ?_
 rintro _ _ ⟨p1,c1,rfl,rfl⟩
 repeat' first|refine Kz ?_|intro _
 refine TL.callv rfl rfl rfl rfl (Zey (v:=.slice p1 (qud (10:Int).natAbs).length c1) (x:=10) (n:=n) (by omega) (by have:=Nat.mul_le_mul l10 hn;omega) (by omega)) ?_
 rintro _ _ ⟨p2,c2,rfl,rfl⟩
 repeat' first|refine Kz ?_|intro _
 (refine Zac ?_)
 exact ⟨_,⟨p2,c2,rfl,rfl⟩,Zaa⟩
def numK (n0:Nat) (s:List UInt8) (k:Nat):Nat:=n0 * 10 ^ k+numOf (s.take k)
theorem Zsf {n0 k:Nat} {s:List UInt8} {c:UInt8} (h:s[k]?=some c):numK n0 s (k+1)=numK n0 s k * 10+dig c:=by
 have hk:=(List.getElem?_eq_some_iff.1 h).1
 have e:s.take (k+1)=s.take k++[c]:=by rw [List.take_add_one,h];rfl
 unfold numK
 rw [e,Zbe,Nat.pow_succ]
 grind
theorem Zux {n0 m k:Nat} {s:List UInt8} (hs:∀ c∈s,isDig c=true) (h0:n0 < 10 ^ m) (hk:k≤s.length):numK n0 s k < 10 ^ (m+k):=by
 have h1:numOf (s.take k) < 10 ^ k:=by
  have:=Zbn (l:=s.take k) (fun c hc=>hs c (List.mem_of_mem_take hc))
  rwa [List.length_take,Nat.min_eq_left hk] at this
 unfold numK
 have h2:(n0+1) * 10 ^ k≤10 ^ m * 10 ^ k:=Nat.mul_le_mul_right _ h0
 rw [Nat.pow_add]
 rw [Nat.add_mul,Nat.one_mul] at h2
 omega
set_option maxHeartbeats 4000000 in
theorem Zw2 {s:List UInt8} {v:Value} {n0 m:Nat} [hf:FtIn As v Nat (cN .i64) (qud (n0:Int).natAbs)] (hs:∀ c∈s,isDig c=true) (hl:s.length≤1000) (hm:m≤1000) (h0:n0 < 10 ^ m) :
  CallsS Tryz.prog w0 89 [.string ⟨s.toArray⟩,.agg #[.bool (decide ((n0:Int) < 0)),v]] As (PlainR As ((numK n0 s s.length:Nat):Int)):=by
 refine Zad v fun pv cv hv=>?_
 subst hv
 refine Zab Tryz.func89 rfl Tryz.ntmps89 rfl ?_
 have hlen:∀ k,k≤s.length→(qud ((numK n0 s k:Nat):Int).natAbs).length≤3000:=fun k hk=>by
  rw [Int.natAbs_natCast]
  exact Nat.le_trans (Zaj (k:=m+k) (Nat.lt_of_lt_of_le (Zux hs h0 hk) (Nat.pow_le_pow_left (by decide) _))) (by omega)
 have l10:(qud (10:Int).natAbs).length≤5:=Zaj (by decide)
 have hN0:numK n0 s 0=n0:=by simp [numK,Zl5]
 repeat' first|refine Kz ?_|intro _
 rename_i b3 b4
 refine Tri.ents (Za2 (v:=.slice pv (qud (n0:Int).natAbs).length cv) (cd:=cN .i64) (xs:=qud (n0:Int).natAbs)) ?_
 refine Tri.loop (ι:=Nat × Option Addr × Nat) (fun x=>x.1≤s.length) (fun x=>s.length - x.1)
  (fun x=>[(0,.string ⟨s.toArray⟩),(3,.pointer (some ⟨b3,0,none⟩)),(4,.pointer (some ⟨b4,0,none⟩)),(5,.int .i64 (x.1:Int))])
  (fun x=>.cl b3 [.bool (decide (((numK n0 s x.1:Nat):Int) < 0)),.slice x.2.1 (qud ((numK n0 s x.1:Nat):Int).natAbs).length x.2.2] 115::.ft (rd (cN .i64) (.slice x.2.1 (qud ((numK n0 s x.1:Nat):Int).natAbs).length x.2.2) (qud ((numK n0 s x.1:Nat):Int).natAbs))::.cl b4 [.bool false,.slice none 0 0] 115::As) (0,pv,cv) (Nat.zero_le _) Zae (by
   show Ents _ (.cl b3 [.bool (decide (((numK n0 s 0:Nat):Int) < 0)),.slice pv (qud ((numK n0 s 0:Nat):Int).natAbs).length cv] _::.ft (rd (cN .i64) (.slice pv (qud ((numK n0 s 0:Nat):Int).natAbs).length cv) (qud ((numK n0 s 0:Nat):Int).natAbs))::_)
   rw [hN0];(exact Zaa)) ?_
 rintro ⟨k,p,c⟩ hk
 simp only at hk
 have h1:=hlen k (by omega)
 show Tri _ _ _ _ [(0,_),(3,_),(4,_),(5,.int .i64 (k:Int))] (.cl b3 [.bool (decide (((numK n0 s k:Nat):Int) < 0)),.slice p (qud ((numK n0 s k:Nat):Int).natAbs).length c] _::.ft (rd (cN .i64) (.slice p (qud ((numK n0 s k:Nat):Int).natAbs).length c) (qud ((numK n0 s k:Nat):Int).natAbs))::_) _
 have hN:∀ ch,s[k]?=some ch→((numK n0 s k:Nat):Int) * 10+((ch.toNat:Int) - 48)=((numK n0 s (k+1):Nat):Int):=fun ch hch=>by
  have hd:=Zds.1 (hs ch (List.mem_of_getElem? hch))
  have:=Zsf (n0:=n0) hch
  unfold dig at this
  omega
 have h2:k < s.length→(qud ((numK n0 s (k+1):Nat):Int).natAbs).length≤3000:=fun h=>hlen (k+1) (by omega)
 generalize hz:((numK n0 s k:Nat):Int)=z at h1 hN ⊢
 repeat' first|refine Kz ?_|intro _
 (refine Kx (fun hc=>?_) fun hc=>?_)
 ·obtain ⟨ch,hch⟩:∃ ch,s[k]?=some ch:=⟨_,List.getElem?_eq_getElem (by omega)⟩
  have hd:=Zds.1 (hs ch (List.mem_of_getElem? hch))
  have hN:=hN ch hch
  have h2:=h2 (by omega)
  generalize hz':((numK n0 s (k+1):Nat):Int)=z' at h2 hN ⊢
  have k0:=Zbm z.natAbs (10:Int).natAbs
  rw [← Int.natAbs_mul] at k0
  have l48:(qud ((ch.toNat:Int) - 48).natAbs).length≤5:=Zaj (by omega)
  repeat' first|refine Kz ?_|intro _
  refine Zbg [] [(0,.c b3)] (.take 0 (.take 3 (.take 4 (.take 5 (.take 6 (.take 7 (.all [(1,.all [(2,.all [(8,.all [(9,.all [(10,.done)])])])])]))))))) ?_
  repeat' first|refine Kf ?_|intro _|constructor
  refine T1.callv rfl rfl rfl rfl rfl (Zaw (n:=10) (by decide) (by decide)) ?_
  rintro _ _ ⟨p1,c1,rfl,rfl⟩
  repeat' first|refine Kf ?_|intro _|constructor
  refine T1.callv rfl rfl rfl rfl rfl (Zcb (v:=.slice p (qud z.natAbs).length c) (o:=.slice p1 (qud (10:Int).natAbs).length c1) (x:=z) (y:=10) (by omega) (by omega)) ?_
  rintro _ _ ⟨p2,c2,rfl,rfl⟩
  repeat' first|refine Kf ?_|intro _|constructor
  refine T1.callv rfl rfl rfl rfl rfl (Zaw (n:=(ch.toNat:Int) - 48) (by omega) (by omega)) ?_
  rintro _ _ ⟨p3,c3,rfl,rfl⟩
  repeat' first|refine Kf ?_|intro _|constructor
  refine T1.callv rfl rfl rfl rfl rfl (Zez (v:=.slice p2 (qud (z * 10).natAbs).length c2) (o:=.slice p3 (qud ((ch.toNat:Int) - 48).natAbs).length c3) (x:=z * 10) (y:=(ch.toNat:Int) - 48) (by omega) (by omega)) ?_
  rw [hN]
  rintro _ _ ⟨p4,c4,rfl,rfl⟩
  repeat' first|refine Kf ?_|intro _|constructor
  refine Post.round (k+1,p4,c4) (by simp only;omega) (by simp only;omega) Zae ?_
  show Ents _ (.cl b3 [.bool (decide (((numK n0 s (k+1):Nat):Int) < 0)),.slice p4 (qud ((numK n0 s (k+1):Nat):Int).natAbs).length c4] _::.ft (rd (cN .i64) (.slice p4 (qud ((numK n0 s (k+1):Nat):Int).natAbs).length c4) (qud ((numK n0 s (k+1):Nat):Int).natAbs))::_)
  rw [hz']
  (exact Zaa)
 ·obtain rfl:k=s.length:=by omega
  rw [hz]
  repeat' first|refine Kz ?_|intro _
  (refine Zac ?_)
  exact ⟨_,⟨p,c,rfl,rfl⟩,Zaa⟩
end Go.Proofs.YtciadfpomkdlnaaGreatDoor.Q
