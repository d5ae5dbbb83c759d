/- Walks: WholeKnown: the examples, the limits, the order of errors. -/
import Derived.Test.YtaipdafohfmkcaaGreatDoorLw1
import Derived.Test.YtaipdafohfmkcaaGreatDoorSxP
set_option maxHeartbeats 1000000
namespace Go.Sx
open Go
theorem Zhd {k n:Nat} (h:Lib.nDigits n≤k):n < 10 ^ k:=Nat.lt_of_lt_of_le (Zdm n) (Nat.pow_le_pow_right (by omega) h)
theorem Zkc {z:Int} (h:10 ^ 600≤z.natAbs):outW z=([],6):=by
 unfold outW
 refine if_pos ?_
 rcases Nat.lt_or_ge 600 (Lib.nDigits z.natAbs) with h1|h1
 ·exact h1
 ·exact absurd (Zhd h1) (Nat.not_lt.2 h)
theorem Zhh {f:Int→Int→Int} {s t:List UInt8} {x y:Int} (h1:readW s=some x) (h2:readW t=some y) (h3:10 ^ 600≤(f x y).natAbs):binW f s t=([],6):=by
 unfold binW;rw [h1,h2];exact Zkc h3
theorem Zog {s:List UInt8} {x:Int} {n:Int} (h1:readW s=some x) (h0:¬ (n < 0∨40 < n)) (h3:10 ^ 600≤(x ^ n.toNat).natAbs):powW s n=([],6):=by
 unfold powW;rw [h1];simp only;rw [if_neg h0];exact Zkc h3
section
variable {P:Program} {N:Ctx} {w0 w:World} {e:Env} {As:List Ent} {ty t:TypeId} {x:Operand} {l r:List UInt8} {lo hi:Nat}
theorem Zef {a b:Option Operand} [UL P t .string] (hx:ev e x=some (.string ⟨l.toArray⟩)) (hl:evLo e a lo) (hh:evHi e l.length b hi) (h1:lo≤hi) (h2:hi≤l.length) (hr:(l.drop lo).take (hi - lo)=r) :
  ExF P N w0 (.slice t x a b none) ty e As (.string ⟨r.toArray⟩):=by
 unfold ExF
 intro ac w ha hs d pos af g
 have h3:(⟨l.toArray⟩:ByteArray).extract lo hi=⟨((l.drop lo).take (hi - lo)).toArray⟩:=Lib.extract_eq _ lo hi
 have hsz:(⟨l.toArray⟩:ByteArray).size=l.length:=size_toArray l
 have hrun:∀ (lo' hi':Option Value),((lo'=none∧lo=0)∨∃ k,lo'=some (.int k (lo:Int)))→((hi'=none∧hi=l.length)∨∃ k,hi'=some (.int k (hi:Int)))→(Instr.sliceAt t (.string ⟨l.toArray⟩) lo' hi' none).run P w=.ok (.string ⟨((l.drop lo).take (hi - lo)).toArray⟩) w:=by
  intro lo' hi' hl hh
  rcases hl with ⟨rfl,rfl⟩|⟨k,rfl⟩<;>rcases hh with ⟨rfl,rfl⟩|⟨k',rfl⟩<;>simp only [Instr.sliceAt,Instr.slice,Instr.sliceBounds,Instr.sliceBound,asIntOf,Sem.run_bind,Zam,Result.andThen_ok,hsz]<;>simp [h1,h2,h3]
 rw [← hr]
 simp [execOp,ha.eval hx,hrun _ _ (hl.run ha) (hh.run ha)]
end
end Go.Sx
namespace Go.Proofs.YtaipdafohfmkcaaGreatDoor
open Go Go.Sx
variable {w0:World} {As:List Ent}
theorem Za8 {c:UInt8} {n:Nat} (hc:n≤1000000000):CallsS Tryz.prog w0 5 [.string ⟨#[c]⟩,.int .i64 (n:Int)] As fun u Bs=>u=.string ⟨((List.replicate n c)).toArray⟩∧Bs=As :=
 CallsS.mk fun w hs=>(Tryz.strings_Repeat ⟨#[c]⟩ n w (by omega) (by show 1 * n≤_;omega)).mono fun en w' ⟨h1,h2⟩=>by
  refine ⟨_,As,h1,⟨?_,rfl⟩,hs.below h2⟩
  have:Lib.repeatL [c] n=(List.replicate n c):=by
   have:=Lib.repeatL_replicate c 1 n
   rwa [Nat.mul_one] at this
  rw [← this]
set_option maxRecDepth 100000 in
set_option maxHeartbeats 20000000 in
theorem Zg2 (ht:Tab w0) (he:ErrR w0):CallsS Tryz.prog w0 3 [] As fun u _=>u=.bool true:=by
 refine Zaa Tryz.func3 rfl Tryz.ntmps3 rfl ?_
 repeat' first|refine Kz ?_|intro _
 refine Ks rfl (Zgg ht he) ?_
 repeat' first|refine Kz ?_|intro _
 refine Ks rfl (Za8 (c:=57) (n:=600) (by decide)) ?_
 repeat' first|refine Kz ?_|intro _
 refine Ks rfl (Za8 (c:=48) (n:=599) (by decide)) ?_
 repeat' first|refine Kz ?_|intro _
 refine Ks rfl (Zas (s:=(List.replicate 600 57)) (by decide +kernel)) ?_
 rw [(by decide +kernel:checkW (List.replicate 600 57)=0)]
 repeat' first|refine Kz ?_|intro _
 refine Ks rfl (Zas (s:=([45]++(List.replicate 600 57))) (by decide +kernel)) ?_
 rw [(by decide +kernel:checkW ([45]++(List.replicate 600 57))=0)]
 repeat' first|refine Kz ?_|intro _
 refine Ks rfl (Zas (s:=((List.replicate 600 57)++[57])) (by decide +kernel)) ?_
 rw [(by decide +kernel:checkW ((List.replicate 600 57)++[57])=10)]
 repeat' first|refine Kz ?_|intro _
 refine Ks rfl (Zas (s:=[43,49]) (by decide)) ?_
 rw [(by decide +kernel:checkW [43,49]=10)]
 repeat' first|refine Kz ?_|intro _
 refine Ks rfl (Zas (s:=[45]) (by decide)) ?_
 rw [(by decide +kernel:checkW [45]=10)]
 repeat' first|refine Kz ?_|intro _
 refine Ks rfl (Zas (s:=[49,10]) (by decide)) ?_
 rw [(by decide +kernel:checkW [49,10]=10)]
 repeat' first|refine Kz ?_|intro _
 refine Ks rfl (Zas (s:=[45,45,49]) (by decide)) ?_
 rw [(by decide +kernel:checkW [45,45,49]=10)]
 repeat' first|refine Kz ?_|intro _
 refine Ks rfl (Zas (s:=[48]) (by decide)) ?_
 rw [(by decide +kernel:checkW [48]=0)]
 repeat' first|refine Kz ?_|intro _
 refine Ks rfl (Zas (s:=[48,48]) (by decide)) ?_
 rw [(by decide +kernel:checkW [48,48]=10)]
 repeat' first|refine Kz ?_|intro _
 refine Ks rfl (Zas (s:=[45,48,49]) (by decide)) ?_
 rw [(by decide +kernel:checkW [45,48,49]=10)]
 repeat' first|refine Kz ?_|intro _
 refine Ks rfl (Zas (s:=[255]) (by decide)) ?_
 rw [(by decide +kernel:checkW [255]=10)]
 repeat' first|refine Kz ?_|intro _
 refine TL.callv rfl rfl rfl rfl (Zay (n:=6)) ?_
 rintro _ _ ⟨b68,rfl,rfl⟩
 repeat' first|refine Kz ?_|intro _
 refine Ks rfl (Zjg ht (s:=(List.replicate 600 57)) (t:=[49]) (by decide +kernel) (by decide)) ?_
 rw [(Zhh (x:=999999999999999999999999999999999999999999999999999999999999999999999999999999999999999999999999999999999999999999999999999999999999999999999999999999999999999999999999999999999999999999999999999999999999999999999999999999999999999999999999999999999999999999999999999999999999999999999999999999999999999999999999999999999999999999999999999999999999999999999999999999999999999999999999999999999999999999999999999999999999999999999999999999999999999999999999999999999999999999999999999999999999999999999999999999999999999999999999999999999999999999999999999999999999999999999999999999999999999999999999) (y:=1) (by decide +kernel) (by decide +kernel) (by decide +kernel):binW (·+·) (List.replicate 600 57) [49]=([],6))]
 repeat' first|refine Kz ?_|intro _
 refine Ks rfl (Zak (n:=6) (b:=b68)) ?_
 repeat' first|refine Kz ?_|intro _
 refine TL.callv rfl rfl rfl rfl (Zay (n:=6)) ?_
 rintro _ _ ⟨b76,rfl,rfl⟩
 repeat' first|refine Kz ?_|intro _
 refine Ks rfl (Zl7 ht (s:=([45]++(List.replicate 600 57))) (t:=[49]) (by decide +kernel) (by decide)) ?_
 rw [(Zhh (x:=(-999999999999999999999999999999999999999999999999999999999999999999999999999999999999999999999999999999999999999999999999999999999999999999999999999999999999999999999999999999999999999999999999999999999999999999999999999999999999999999999999999999999999999999999999999999999999999999999999999999999999999999999999999999999999999999999999999999999999999999999999999999999999999999999999999999999999999999999999999999999999999999999999999999999999999999999999999999999999999999999999999999999999999999999999999999999999999999999999999999999999999999999999999999999999999999999999999999999999999999999999)) (y:=1) (by decide +kernel) (by decide +kernel) (by decide +kernel):binW (· - ·) ([45]++(List.replicate 600 57)) [49]=([],6))]
 repeat' first|refine Kz ?_|intro _
 refine Ks rfl (Zak (n:=6) (b:=b76)) ?_
 repeat' first|refine Kz ?_|intro _
 refine TL.callv rfl rfl rfl rfl (Zbo (s:=[48])) ?_
 rintro _ _ ⟨b85,rfl,rfl⟩
 repeat' first|refine Kz ?_|intro _
 refine Ks rfl (Zl7 ht (s:=(List.replicate 600 57)) (t:=(List.replicate 600 57)) (by decide +kernel) (by decide +kernel)) ?_
 rw [(Zbl (x:=999999999999999999999999999999999999999999999999999999999999999999999999999999999999999999999999999999999999999999999999999999999999999999999999999999999999999999999999999999999999999999999999999999999999999999999999999999999999999999999999999999999999999999999999999999999999999999999999999999999999999999999999999999999999999999999999999999999999999999999999999999999999999999999999999999999999999999999999999999999999999999999999999999999999999999999999999999999999999999999999999999999999999999999999999999999999999999999999999999999999999999999999999999999999999999999999999999999999999999999999) (y:=999999999999999999999999999999999999999999999999999999999999999999999999999999999999999999999999999999999999999999999999999999999999999999999999999999999999999999999999999999999999999999999999999999999999999999999999999999999999999999999999999999999999999999999999999999999999999999999999999999999999999999999999999999999999999999999999999999999999999999999999999999999999999999999999999999999999999999999999999999999999999999999999999999999999999999999999999999999999999999999999999999999999999999999999999999999999999999999999999999999999999999999999999999999999999999999999999999999999999999999999) (by decide +kernel) (by decide +kernel) (by decide +kernel):binW (· - ·) (List.replicate 600 57) (List.replicate 600 57)=([48],0))]
 repeat' first|refine Kz ?_|intro _
 refine Ks rfl (Zaj (s:=[48]) (b:=b85)) ?_
 repeat' first|refine Kz ?_|intro _
 refine TL.callv rfl rfl rfl rfl (Zay (n:=6)) ?_
 rintro _ _ ⟨b94,rfl,rfl⟩
 repeat' first|refine Kz ?_|intro _
 refine Ks rfl (Zkd ht (s:=([49]++(List.replicate 599 48))) (t:=[49,48]) (by decide +kernel) (by decide)) ?_
 rw [(Zhh (x:=100000000000000000000000000000000000000000000000000000000000000000000000000000000000000000000000000000000000000000000000000000000000000000000000000000000000000000000000000000000000000000000000000000000000000000000000000000000000000000000000000000000000000000000000000000000000000000000000000000000000000000000000000000000000000000000000000000000000000000000000000000000000000000000000000000000000000000000000000000000000000000000000000000000000000000000000000000000000000000000000000000000000000000000000000000000000000000000000000000000000000000000000000000000000000000000000000000000000000000000000) (y:=10) (by decide +kernel) (by decide +kernel) (by decide +kernel):binW (· * ·) ([49]++(List.replicate 599 48)) [49,48]=([],6))]
 repeat' first|refine Kz ?_|intro _
 refine Ks rfl (Zak (n:=6) (b:=b94)) ?_
 repeat' first|refine Kz ?_|intro _
 refine TL.callv rfl rfl rfl rfl (Zbo (s:=([49]++(List.replicate 599 48)))) ?_
 rintro _ _ ⟨b103,rfl,rfl⟩
 repeat' first|refine Kz ?_|intro _
 refine Ks rfl (Za8 (c:=48) (n:=299) (by decide)) ?_
 repeat' first|refine Kz ?_|intro _
 refine Ks rfl (Za8 (c:=48) (n:=300) (by decide)) ?_
 repeat' first|refine Kz ?_|intro _
 refine Ks rfl (Zkd ht (s:=([49]++(List.replicate 299 48))) (t:=([49]++(List.replicate 300 48))) (by decide +kernel) (by decide +kernel)) ?_
 rw [(Zbl (x:=100000000000000000000000000000000000000000000000000000000000000000000000000000000000000000000000000000000000000000000000000000000000000000000000000000000000000000000000000000000000000000000000000000000000000000000000000000000000000000000000000000000000000000000000000000000000000000000000000000000000) (y:=1000000000000000000000000000000000000000000000000000000000000000000000000000000000000000000000000000000000000000000000000000000000000000000000000000000000000000000000000000000000000000000000000000000000000000000000000000000000000000000000000000000000000000000000000000000000000000000000000000000000000) (by decide +kernel) (by decide +kernel) (by decide +kernel):binW (· * ·) ([49]++(List.replicate 299 48)) ([49]++(List.replicate 300 48))=(([49]++(List.replicate 599 48)),0))]
 repeat' first|refine Kz ?_|intro _
 refine Ks rfl (Zaj (s:=([49]++(List.replicate 599 48))) (b:=b103)) ?_
 repeat' first|refine Kz ?_|intro _
 refine TL.callv rfl rfl rfl rfl (Zay (n:=6)) ?_
 rintro _ _ ⟨b114,rfl,rfl⟩
 repeat' first|refine Kz ?_|intro _
 refine Ks rfl (Zd5 ht (s:=([49]++(List.replicate 599 48))) (n:=2) (by decide +kernel) (by decide) (by decide)) ?_
 rw [(Zog (x:=100000000000000000000000000000000000000000000000000000000000000000000000000000000000000000000000000000000000000000000000000000000000000000000000000000000000000000000000000000000000000000000000000000000000000000000000000000000000000000000000000000000000000000000000000000000000000000000000000000000000000000000000000000000000000000000000000000000000000000000000000000000000000000000000000000000000000000000000000000000000000000000000000000000000000000000000000000000000000000000000000000000000000000000000000000000000000000000000000000000000000000000000000000000000000000000000000000000000000000000000) (by decide +kernel) (by decide) (by decide +kernel):powW ([49]++(List.replicate 599 48)) 2=([],6))]
 repeat' first|refine Kz ?_|intro _
 refine Ks rfl (Zak (n:=6) (b:=b114)) ?_
 repeat' first|refine Kz ?_|intro _
 refine Ks rfl (Za8 (c:=48) (n:=597) (by decide)) ?_
 repeat' first|refine Kz ?_|intro _
 refine TL.callv rfl rfl rfl rfl (Zbo (s:=([49]++(List.replicate 597 48)))) ?_
 rintro _ _ ⟨b124,rfl,rfl⟩
 repeat' first|refine Kz ?_|intro _
 refine Ks rfl (Za8 (c:=48) (n:=199) (by decide)) ?_
 repeat' first|refine Kz ?_|intro _
 refine Ks rfl (Zd5 ht (s:=([49]++(List.replicate 199 48))) (n:=3) (by decide +kernel) (by decide) (by decide)) ?_
 rw [(Zd6 (x:=10000000000000000000000000000000000000000000000000000000000000000000000000000000000000000000000000000000000000000000000000000000000000000000000000000000000000000000000000000000000000000000000000000000) (by decide +kernel) (by decide) (by decide +kernel):powW ([49]++(List.replicate 199 48)) 3=(([49]++(List.replicate 597 48)),0))]
 repeat' first|refine Kz ?_|intro _
 refine Ks rfl (Zaj (s:=([49]++(List.replicate 597 48))) (b:=b124)) ?_
 repeat' first|refine Kz ?_|intro _
 refine TL.callv rfl rfl rfl rfl (Zay (n:=10)) ?_
 rintro _ _ ⟨b133,rfl,rfl⟩
 repeat' first|refine Kz ?_|intro _
 refine Ks rfl (Zjg ht (s:=[120]) (t:=(List.replicate 600 57)) (by decide) (by decide +kernel)) ?_
 rw [(by decide +kernel:binW (·+·) [120] (List.replicate 600 57)=([],10))]
 repeat' first|refine Kz ?_|intro _
 refine Ks rfl (Zak (n:=10) (b:=b133)) ?_
 repeat' first|refine Kz ?_|intro _
 refine TL.callv rfl rfl rfl rfl (Zay (n:=10)) ?_
 rintro _ _ ⟨b141,rfl,rfl⟩
 repeat' first|refine Kz ?_|intro _
 refine Ks rfl (Zkd ht (s:=[49]) (t:=[]) (by decide) (by decide)) ?_
 rw [(by decide +kernel:binW (· * ·) [49] []=([],10))]
 repeat' first|refine Kz ?_|intro _
 refine Ks rfl (Zak (n:=10) (b:=b141)) ?_
 repeat' first|refine Kz ?_|intro _
 refine Ks rfl (Zcc ht (s:=[120]) (t:=[48]) (by decide) (by decide)) ?_
 rw [(by decide +kernel:divW [120] [48]=([],[],10))]
 repeat' first|refine Kz ?_|intro _
 refine Ks rfl (Zcc ht (s:=[48]) (t:=[48,48]) (by decide) (by decide)) ?_
 rw [(by decide +kernel:divW [48] [48,48]=([],[],10))]
 repeat' first|refine Kz ?_|intro _
 refine Ks rfl (Zcc ht (s:=[53]) (t:=[48]) (by decide) (by decide)) ?_
 rw [(rfl:divW [53] [48]=([],[],7))]
 repeat' first|refine Kz ?_|intro _
 refine TL.callv rfl rfl rfl rfl (Zbp (s:=[48]) (t:=[48])) ?_
 rintro _ _ ⟨b176,c176,rfl,rfl⟩
 repeat' first|refine Kz ?_|intro _
 refine Ks rfl (Zcc ht (s:=[48]) (t:=[45,53]) (by decide) (by decide)) ?_
 rw [(Zbq (x:=0) (y:=(-5)) (by decide +kernel) (by decide +kernel) (by decide) (by decide +kernel) (by decide +kernel):divW [48] [45,53]=([48],[48],0))]
 repeat' first|refine Kz ?_|intro _
 refine Ks rfl (Zax (s:=[48]) (t:=[48]) (b:=b176) (c:=c176)) ?_
 repeat' first|refine Kz ?_|intro _
 refine TL.callv rfl rfl rfl rfl (Zbp (s:=[45,49]) (t:=[52])) ?_
 rintro _ _ ⟨b184,c184,rfl,rfl⟩
 repeat' first|refine Kz ?_|intro _
 refine Ks rfl (Zcc ht (s:=[45,49]) (t:=[53]) (by decide) (by decide)) ?_
 rw [(Zbq (x:=(-1)) (y:=5) (by decide +kernel) (by decide +kernel) (by decide) (by decide +kernel) (by decide +kernel):divW [45,49] [53]=([45,49],[52],0))]
 repeat' first|refine Kz ?_|intro _
 refine Ks rfl (Zax (s:=[45,49]) (t:=[52]) (b:=b184) (c:=c184)) ?_
 repeat' first|refine Kz ?_|intro _
 refine TL.callv rfl rfl rfl rfl (Zbp (s:=[49]) (t:=[52])) ?_
 rintro _ _ ⟨b192,c192,rfl,rfl⟩
 repeat' first|refine Kz ?_|intro _
 refine Ks rfl (Zcc ht (s:=[45,49]) (t:=[45,53]) (by decide) (by decide)) ?_
 rw [(Zbq (x:=(-1)) (y:=(-5)) (by decide +kernel) (by decide +kernel) (by decide) (by decide +kernel) (by decide +kernel):divW [45,49] [45,53]=([49],[52],0))]
 repeat' first|refine Kz ?_|intro _
 refine Ks rfl (Zax (s:=[49]) (t:=[52]) (b:=b192) (c:=c192)) ?_
 repeat' first|refine Kz ?_|intro _
 refine TL.callv rfl rfl rfl rfl (Zbp (s:=(List.replicate 600 57)) (t:=[48])) ?_
 rintro _ _ ⟨b201,c201,rfl,rfl⟩
 repeat' first|refine Kz ?_|intro _
 refine Ks rfl (Zcc ht (s:=([45]++(List.replicate 600 57))) (t:=[45,49]) (by decide +kernel) (by decide)) ?_
 rw [(Zbq (x:=(-999999999999999999999999999999999999999999999999999999999999999999999999999999999999999999999999999999999999999999999999999999999999999999999999999999999999999999999999999999999999999999999999999999999999999999999999999999999999999999999999999999999999999999999999999999999999999999999999999999999999999999999999999999999999999999999999999999999999999999999999999999999999999999999999999999999999999999999999999999999999999999999999999999999999999999999999999999999999999999999999999999999999999999999999999999999999999999999999999999999999999999999999999999999999999999999999999999999999999999999999)) (y:=(-1)) (by decide +kernel) (by decide +kernel) (by decide) (by decide +kernel) (by decide +kernel):divW ([45]++(List.replicate 600 57)) [45,49]=((List.replicate 600 57),[48],0))]
 repeat' first|refine Kz ?_|intro _
 refine Ks rfl (Zax (s:=(List.replicate 600 57)) (t:=[48]) (b:=b201) (c:=c201)) ?_
 repeat' first|refine Kz ?_|intro _
 refine Ks rfl (Za8 (c:=48) (n:=35) (by decide)) ?_
 repeat' first|refine Kz ?_|intro _
 refine Zbb (.take 0 (.take 1 (.all [(2,.all [(3,.take 4 (.take 5 (.take 6 (.all [(7,.take 8 (.take 9 (.take 10 (.take 11 (.take 13 (.take 14 (.take 15 (.take 16 (.take 17 (.take 18 (.take 19 (.take 20 (.all [(12,.all [(21,.take 22 (.take 23 (.take 24 (.all [(25,.take 26 (.take 27 (.done)))]))))])])))))))))))))]))))])]))) ?_
 repeat' first|refine Kf ?_|intro _|constructor
 refine T1.callv rfl rfl rfl rfl rfl (Zbp (s:=[57,57,57,57,57,57,57,57,57,57,57,57,57,57,57,57,57,57]) (t:=[48])) ?_
 rintro _ _ ⟨b213,c213,rfl,rfl⟩
 repeat' first|refine Kf ?_|intro _|constructor
 refine Ku rfl (Zcc ht (s:=[57,57,57,57,57,57,57,57,57,57,57,57,57,57,57,57,57,57,57,57,57,57,57,57,57,57,57,57,57,57,57,57,57,57,57,57]) (t:=[49,48,48,48,48,48,48,48,48,48,48,48,48,48,48,48,48,48,49]) (by decide) (by decide)) ?_
 rw [(Zbq (x:=999999999999999999999999999999999999) (y:=1000000000000000001) (by decide +kernel) (by decide +kernel) (by decide) (by decide +kernel) (by decide +kernel):divW [57,57,57,57,57,57,57,57,57,57,57,57,57,57,57,57,57,57,57,57,57,57,57,57,57,57,57,57,57,57,57,57,57,57,57,57] [49,48,48,48,48,48,48,48,48,48,48,48,48,48,48,48,48,48,49]=([57,57,57,57,57,57,57,57,57,57,57,57,57,57,57,57,57,57],[48],0))]
 repeat' first|refine Kf ?_|intro _|constructor
 refine Ku rfl (Zax (s:=[57,57,57,57,57,57,57,57,57,57,57,57,57,57,57,57,57,57]) (t:=[48]) (b:=b213) (c:=c213)) ?_
 repeat' first|refine Kf ?_|intro _|constructor
 refine TT.take rfl rfl rfl (Zef (lo:=0) (hi:=17) (r:=List.replicate 17 48) rfl Zfr (Zc1 rfl) (by decide) (by decide) (by decide)) ?_
 repeat' first|refine Kf ?_|intro _|constructor
 refine TT.take rfl rfl rfl (Zef (lo:=1) (hi:=35) (r:=List.replicate 34 48) rfl (Zc0 rfl) Zhe (by decide) (by decide) (by decide)) ?_
 repeat' first|refine Kf ?_|intro _|constructor
 refine T1.callv rfl rfl rfl rfl rfl (Zbp (s:=[57,57,57,57,57,57,57,57,57,57,57,57,57,57,57,57,57,56]) (t:=([53]++(List.replicate 35 48)))) ?_
 rintro _ _ ⟨b223,c223,rfl,rfl⟩
 repeat' first|refine Kf ?_|intro _|constructor
 refine Ku rfl (Zcc ht (s:=(([52,57,57,57,57,57,57,57,57,57,57,57,57,57,57,57,57,57,53]++(List.replicate 17 48))++[57,57,57,57,57,57,57,57,57,57,57,57,57,57,57,57,57,56])) (t:=(([53]++(List.replicate 34 48))++[49])) (by decide) (by decide)) ?_
 rw [(Zbq (x:=499999999999999999500000000000000000999999999999999998) (y:=500000000000000000000000000000000001) (by decide +kernel) (by decide +kernel) (by decide) (by decide +kernel) (by decide +kernel):divW (([52,57,57,57,57,57,57,57,57,57,57,57,57,57,57,57,57,57,53]++(List.replicate 17 48))++[57,57,57,57,57,57,57,57,57,57,57,57,57,57,57,57,57,56]) (([53]++(List.replicate 34 48))++[49])=([57,57,57,57,57,57,57,57,57,57,57,57,57,57,57,57,57,56],([53]++(List.replicate 35 48)),0))]
 repeat' first|refine Kf ?_|intro _|constructor
 refine Ku rfl (Zax (s:=[57,57,57,57,57,57,57,57,57,57,57,57,57,57,57,57,57,56]) (t:=([53]++(List.replicate 35 48))) (b:=b223) (c:=c223)) ?_
 repeat' first|refine Kf ?_|intro _|constructor
 refine TL.callv rfl rfl rfl rfl (Zbo (s:=(List.replicate 600 57))) ?_
 rintro _ _ ⟨b241,rfl,rfl⟩
 repeat' first|refine Kz ?_|intro _
 refine Ks rfl (Zeo ht (s:=[48]) (t:=([45]++(List.replicate 600 57))) (by decide) (by decide +kernel)) ?_
 rw [(Zbl (x:=0) (y:=(-999999999999999999999999999999999999999999999999999999999999999999999999999999999999999999999999999999999999999999999999999999999999999999999999999999999999999999999999999999999999999999999999999999999999999999999999999999999999999999999999999999999999999999999999999999999999999999999999999999999999999999999999999999999999999999999999999999999999999999999999999999999999999999999999999999999999999999999999999999999999999999999999999999999999999999999999999999999999999999999999999999999999999999999999999999999999999999999999999999999999999999999999999999999999999999999999999999999999999999999999)) (by decide +kernel) (by decide +kernel) (by decide +kernel):binW gcdI [48] ([45]++(List.replicate 600 57))=((List.replicate 600 57),0))]
 repeat' first|refine Kz ?_|intro _
 refine Ks rfl (Zaj (s:=(List.replicate 600 57)) (b:=b241)) ?_
 repeat' first|refine Kz ?_|intro _
 refine TL.callv rfl rfl rfl rfl (Zbo (s:=[49])) ?_
 rintro _ _ ⟨b250,rfl,rfl⟩
 repeat' first|refine Kz ?_|intro _
 refine Ks rfl (Zeo ht (s:=(List.replicate 600 57)) (t:=([49]++(List.replicate 599 48))) (by decide +kernel) (by decide +kernel)) ?_
 rw [(Zbl (x:=999999999999999999999999999999999999999999999999999999999999999999999999999999999999999999999999999999999999999999999999999999999999999999999999999999999999999999999999999999999999999999999999999999999999999999999999999999999999999999999999999999999999999999999999999999999999999999999999999999999999999999999999999999999999999999999999999999999999999999999999999999999999999999999999999999999999999999999999999999999999999999999999999999999999999999999999999999999999999999999999999999999999999999999999999999999999999999999999999999999999999999999999999999999999999999999999999999999999999999999999) (y:=100000000000000000000000000000000000000000000000000000000000000000000000000000000000000000000000000000000000000000000000000000000000000000000000000000000000000000000000000000000000000000000000000000000000000000000000000000000000000000000000000000000000000000000000000000000000000000000000000000000000000000000000000000000000000000000000000000000000000000000000000000000000000000000000000000000000000000000000000000000000000000000000000000000000000000000000000000000000000000000000000000000000000000000000000000000000000000000000000000000000000000000000000000000000000000000000000000000000000000000000) (by decide +kernel) (by decide +kernel) (by decide +kernel):binW gcdI (List.replicate 600 57) ([49]++(List.replicate 599 48))=([49],0))]
 repeat' first|refine Kz ?_|intro _
 refine Ks rfl (Zaj (s:=[49]) (b:=b250)) ?_
 repeat' first|refine Kz ?_|intro _
 refine TL.callv rfl rfl rfl rfl (Zbo (s:=[53])) ?_
 rintro _ _ ⟨b259,rfl,rfl⟩
 repeat' first|refine Kz ?_|intro _
 refine Ks rfl (Zeo ht (s:=[45,53]) (t:=[48]) (by decide) (by decide)) ?_
 rw [(Zbl (x:=(-5)) (y:=0) (by decide +kernel) (by decide +kernel) (by decide +kernel):binW gcdI [45,53] [48]=([53],0))]
 repeat' first|refine Kz ?_|intro _
 refine Ks rfl (Zaj (s:=[53]) (b:=b259)) ?_
 repeat' first|refine Kz ?_|intro _
 refine TL.callv rfl rfl rfl rfl (Zay (n:=10)) ?_
 rintro _ _ ⟨b266,rfl,rfl⟩
 repeat' first|refine Kz ?_|intro _
 refine Ks rfl (Zeo ht (s:=[49]) (t:=[97]) (by decide) (by decide)) ?_
 rw [(by decide +kernel:binW gcdI [49] [97]=([],10))]
 repeat' first|refine Kz ?_|intro _
 refine Ks rfl (Zak (n:=10) (b:=b266)) ?_
 repeat' first|refine Kz ?_|intro _
 refine TL.callv rfl rfl rfl rfl (Zay (n:=2)) ?_
 rintro _ _ ⟨b273,rfl,rfl⟩
 repeat' first|refine Kz ?_|intro _
 refine Ks rfl (Zd5 ht (s:=[50]) (n:=(-1)) (by decide) (by decide) (by decide)) ?_
 rw [(rfl:powW [50] (-1)=([],2))]
 repeat' first|refine Kz ?_|intro _
 refine Ks rfl (Zak (n:=2) (b:=b273)) ?_
 repeat' first|refine Kz ?_|intro _
 refine TL.callv rfl rfl rfl rfl (Zay (n:=10)) ?_
 rintro _ _ ⟨b280,rfl,rfl⟩
 repeat' first|refine Kz ?_|intro _
 refine Ks rfl (Zd5 ht (s:=[]) (n:=41) (by decide) (by decide) (by decide)) ?_
 rw [(rfl:powW [] 41=([],10))]
 repeat' first|refine Kz ?_|intro _
 refine Ks rfl (Zak (n:=10) (b:=b280)) ?_
 repeat' first|refine Kz ?_|intro _
 refine TL.callv rfl rfl rfl rfl (Zbo (s:=[49,48,57,57,53,49,49,54,50,55,55,55,54])) ?_
 rintro _ _ ⟨b287,rfl,rfl⟩
 repeat' first|refine Kz ?_|intro _
 refine Ks rfl (Zd5 ht (s:=[50]) (n:=40) (by decide) (by decide) (by decide)) ?_
 rw [(Zd6 (x:=2) (by decide +kernel) (by decide) (by decide +kernel):powW [50] 40=([49,48,57,57,53,49,49,54,50,55,55,55,54],0))]
 repeat' first|refine Kz ?_|intro _
 refine Ks rfl (Zaj (s:=[49,48,57,57,53,49,49,54,50,55,55,55,54]) (b:=b287)) ?_
 repeat' first|refine Kz ?_|intro _
 refine TL.callv rfl rfl rfl rfl (Zbo (s:=[48])) ?_
 rintro _ _ ⟨b294,rfl,rfl⟩
 repeat' first|refine Kz ?_|intro _
 refine Ks rfl (Zd5 ht (s:=[48]) (n:=1) (by decide) (by decide) (by decide)) ?_
 rw [(Zd6 (x:=0) (by decide +kernel) (by decide) (by decide +kernel):powW [48] 1=([48],0))]
 repeat' first|refine Kz ?_|intro _
 refine Ks rfl (Zaj (s:=[48]) (b:=b294)) ?_
 repeat' first|refine Kz ?_|intro _
 refine TL.callv rfl rfl rfl rfl (Zbo (s:=[48])) ?_
 rintro _ _ ⟨b301,rfl,rfl⟩
 repeat' first|refine Kz ?_|intro _
 refine Ks rfl (Za3 ht (s:=[48]) (n:=12) (by decide) (by decide) (by decide)) ?_
 rw [(Zbm (x:=0) (r:=0) (by decide +kernel) (by decide) (by decide +kernel) (by decide +kernel) (by decide +kernel):rootW [48] 12=([48],0))]
 repeat' first|refine Kz ?_|intro _
 refine Ks rfl (Zaj (s:=[48]) (b:=b301)) ?_
 repeat' first|refine Kz ?_|intro _
 refine TL.callv rfl rfl rfl rfl (Zbo (s:=[49])) ?_
 rintro _ _ ⟨b308,rfl,rfl⟩
 repeat' first|refine Kz ?_|intro _
 refine Ks rfl (Za3 ht (s:=[49]) (n:=12) (by decide) (by decide) (by decide)) ?_
 rw [(Zbm (x:=1) (r:=1) (by decide +kernel) (by decide) (by decide +kernel) (by decide +kernel) (by decide +kernel):rootW [49] 12=([49],0))]
 repeat' first|refine Kz ?_|intro _
 refine Ks rfl (Zaj (s:=[49]) (b:=b308)) ?_
 repeat' first|refine Kz ?_|intro _
 refine TL.callv rfl rfl rfl rfl (Zbo (s:=(List.replicate 600 57))) ?_
 rintro _ _ ⟨b316,rfl,rfl⟩
 repeat' first|refine Kz ?_|intro _
 refine Ks rfl (Za3 ht (s:=(List.replicate 600 57)) (n:=1) (by decide +kernel) (by decide) (by decide)) ?_
 rw [(Zbm (x:=999999999999999999999999999999999999999999999999999999999999999999999999999999999999999999999999999999999999999999999999999999999999999999999999999999999999999999999999999999999999999999999999999999999999999999999999999999999999999999999999999999999999999999999999999999999999999999999999999999999999999999999999999999999999999999999999999999999999999999999999999999999999999999999999999999999999999999999999999999999999999999999999999999999999999999999999999999999999999999999999999999999999999999999999999999999999999999999999999999999999999999999999999999999999999999999999999999999999999999999999) (r:=999999999999999999999999999999999999999999999999999999999999999999999999999999999999999999999999999999999999999999999999999999999999999999999999999999999999999999999999999999999999999999999999999999999999999999999999999999999999999999999999999999999999999999999999999999999999999999999999999999999999999999999999999999999999999999999999999999999999999999999999999999999999999999999999999999999999999999999999999999999999999999999999999999999999999999999999999999999999999999999999999999999999999999999999999999999999999999999999999999999999999999999999999999999999999999999999999999999999999999999999) (by decide +kernel) (by decide) (by decide +kernel) (by decide +kernel) (by decide +kernel):rootW (List.replicate 600 57) 1=((List.replicate 600 57),0))]
 repeat' first|refine Kz ?_|intro _
 refine Ks rfl (Zaj (s:=(List.replicate 600 57)) (b:=b316)) ?_
 repeat' first|refine Kz ?_|intro _
 refine TL.callv rfl rfl rfl rfl (Zay (n:=2)) ?_
 rintro _ _ ⟨b324,rfl,rfl⟩
 repeat' first|refine Kz ?_|intro _
 refine Ks rfl (Za3 ht (s:=[49]) (n:=0) (by decide) (by decide) (by decide)) ?_
 rw [(rfl:rootW [49] 0=([],2))]
 repeat' first|refine Kz ?_|intro _
 refine Ks rfl (Zak (n:=2) (b:=b324)) ?_
 repeat' first|refine Kz ?_|intro _
 refine TL.callv rfl rfl rfl rfl (Zay (n:=10)) ?_
 rintro _ _ ⟨b331,rfl,rfl⟩
 repeat' first|refine Kz ?_|intro _
 refine Ks rfl (Za3 ht (s:=[48,49]) (n:=0) (by decide) (by decide) (by decide)) ?_
 rw [(rfl:rootW [48,49] 0=([],10))]
 repeat' first|refine Kz ?_|intro _
 refine Ks rfl (Zak (n:=10) (b:=b331)) ?_
 repeat' first|refine Kz ?_|intro _
 refine Ks rfl (Za8 (c:=57) (n:=50) (by decide)) ?_
 repeat' first|refine Kz ?_|intro _
 refine TL.callv rfl rfl rfl rfl (Zbo (s:=(List.replicate 50 57))) ?_
 rintro _ _ ⟨b339,rfl,rfl⟩
 repeat' first|refine Kz ?_|intro _
 refine Ks rfl (Za3 ht (s:=(List.replicate 600 57)) (n:=12) (by decide +kernel) (by decide) (by decide)) ?_
 rw [(Zbm (x:=999999999999999999999999999999999999999999999999999999999999999999999999999999999999999999999999999999999999999999999999999999999999999999999999999999999999999999999999999999999999999999999999999999999999999999999999999999999999999999999999999999999999999999999999999999999999999999999999999999999999999999999999999999999999999999999999999999999999999999999999999999999999999999999999999999999999999999999999999999999999999999999999999999999999999999999999999999999999999999999999999999999999999999999999999999999999999999999999999999999999999999999999999999999999999999999999999999999999999999999999) (r:=99999999999999999999999999999999999999999999999999) (by decide +kernel) (by decide) (by decide +kernel) (by decide +kernel) (by decide +kernel):rootW (List.replicate 600 57) 12=((List.replicate 50 57),0))]
 repeat' first|refine Kz ?_|intro _
 refine Ks rfl (Zaj (s:=(List.replicate 50 57)) (b:=b339)) ?_
 repeat' first|refine Kz ?_|intro _
 refine TL.callv rfl rfl rfl rfl (Zbo (s:=[49])) ?_
 rintro _ _ ⟨b347,rfl,rfl⟩
 repeat' first|refine Kz ?_|intro _
 refine Ks rfl (Za3 ht (s:=[52,48,57,53]) (n:=12) (by decide) (by decide) (by decide)) ?_
 rw [(Zbm (x:=4095) (r:=1) (by decide +kernel) (by decide) (by decide +kernel) (by decide +kernel) (by decide +kernel):rootW [52,48,57,53] 12=([49],0))]
 repeat' first|refine Kz ?_|intro _
 refine Ks rfl (Zaj (s:=[49]) (b:=b347)) ?_
 repeat' first|refine Kz ?_|intro _
 refine TL.callv rfl rfl rfl rfl (Zbo (s:=[50])) ?_
 rintro _ _ ⟨b354,rfl,rfl⟩
 repeat' first|refine Kz ?_|intro _
 refine Ks rfl (Za3 ht (s:=[52,48,57,54]) (n:=12) (by decide) (by decide) (by decide)) ?_
 rw [(Zbm (x:=4096) (r:=2) (by decide +kernel) (by decide) (by decide +kernel) (by decide +kernel) (by decide +kernel):rootW [52,48,57,54] 12=([50],0))]
 repeat' first|refine Kz ?_|intro _
 refine Ks rfl (Zaj (s:=[50]) (b:=b354)) ?_
 repeat' first|refine Kz ?_|intro _
 refine TL.callv rfl rfl rfl rfl (Zbo (s:=[49])) ?_
 rintro _ _ ⟨b362,rfl,rfl⟩
 repeat' first|refine Kz ?_|intro _
 refine Ks rfl (Zrq ht (s:=[45,49]) (by decide)) ?_
 rw [(Zix (x:=(-1)) (by decide +kernel) (by decide +kernel):unW (fun x=>(x.natAbs:Int)) [45,49]=([49],0))]
 repeat' first|refine Kz ?_|intro _
 refine Ks rfl (Zaj (s:=[49]) (b:=b362)) ?_
 repeat' first|refine Kz ?_|intro _
 refine TL.callv rfl rfl rfl rfl (Zbo (s:=[48])) ?_
 rintro _ _ ⟨b369,rfl,rfl⟩
 repeat' first|refine Kz ?_|intro _
 refine Ks rfl (Zmo ht (s:=[48]) (by decide)) ?_
 rw [(Zix (x:=0) (by decide +kernel) (by decide +kernel):unW (- ·) [48]=([48],0))]
 repeat' first|refine Kz ?_|intro _
 refine Ks rfl (Zaj (s:=[48]) (b:=b369)) ?_
 repeat' first|refine Kz ?_|intro _
 refine TL.callv rfl rfl rfl rfl (Zbo (s:=[45,49])) ?_
 rintro _ _ ⟨b376,rfl,rfl⟩
 repeat' first|refine Kz ?_|intro _
 refine Ks rfl (Zmo ht (s:=[49]) (by decide)) ?_
 rw [(Zix (x:=1) (by decide +kernel) (by decide +kernel):unW (- ·) [49]=([45,49],0))]
 repeat' first|refine Kz ?_|intro _
 refine Ks rfl (Zaj (s:=[45,49]) (b:=b376)) ?_
 repeat' first|refine Kz ?_|intro _
 refine TL.callv rfl rfl rfl rfl (Zay (n:=10)) ?_
 rintro _ _ ⟨b383,rfl,rfl⟩
 repeat' first|refine Kz ?_|intro _
 refine Ks rfl (Zmo ht (s:=[45]) (by decide)) ?_
 rw [(by decide +kernel:unW (- ·) [45]=([],10))]
 repeat' first|refine Kz ?_|intro _
 refine Ks rfl (Zak (n:=10) (b:=b383)) ?_
 repeat' first|refine Kz ?_|intro _
 refine TL.callv rfl rfl rfl rfl (Zej (n:=9223372036854775807)) ?_
 rintro _ _ ⟨b390,rfl,rfl⟩
 repeat' first|refine Kz ?_|intro _
 refine Ks rfl (Zh6 he (s:=[57,50,50,51,51,55,50,48,51,54,56,53,52,55,55,53,56,48,55]) (by decide)) ?_
 rw [(by decide +kernel:intW [57,50,50,51,51,55,50,48,51,54,56,53,52,55,55,53,56,48,55]=(9223372036854775807,0))]
 repeat' first|refine Kz ?_|intro _
 refine Ks rfl (Zbu (n:=9223372036854775807) (b:=b390)) ?_
 repeat' first|refine Kz ?_|intro _
 refine TL.callv rfl rfl rfl rfl (Ze7 (n:=6)) ?_
 rintro _ _ ⟨b397,rfl,rfl⟩
 repeat' first|refine Kz ?_|intro _
 refine Ks rfl (Zh6 he (s:=[45,57,50,50,51,51,55,50,48,51,54,56,53,52,55,55,53,56,48,57]) (by decide)) ?_
 rw [(by decide +kernel:intW [45,57,50,50,51,51,55,50,48,51,54,56,53,52,55,55,53,56,48,57]=(0,6))]
 repeat' first|refine Kz ?_|intro _
 refine Ks rfl (Zcf (n:=6) (b:=b397)) ?_
 repeat' first|refine Kz ?_|intro _
 refine TL.callv rfl rfl rfl rfl (Ze7 (n:=10)) ?_
 rintro _ _ ⟨b404,rfl,rfl⟩
 repeat' first|refine Kz ?_|intro _
 refine Ks rfl (Zh6 he (s:=[]) (by decide)) ?_
 rw [(by decide +kernel:intW []=(0,10))]
 repeat' first|refine Kz ?_|intro _
 refine Ks rfl (Zcf (n:=10) (b:=b404)) ?_
 repeat' first|refine Kz ?_|intro _
 refine TL.callv rfl rfl rfl rfl (Zej (n:=1)) ?_
 rintro _ _ ⟨b411,rfl,rfl⟩
 repeat' first|refine Kz ?_|intro _
 refine Ks rfl (Zg5 (s:=(List.replicate 600 57)) (by decide +kernel)) ?_
 rw [(by decide +kernel:signW (List.replicate 600 57)=(1,0))]
 repeat' first|refine Kz ?_|intro _
 refine Ks rfl (Zbu (n:=1) (b:=b411)) ?_
 repeat' first|refine Kz ?_|intro _
 refine TL.callv rfl rfl rfl rfl (Zej (n:=(-1))) ?_
 rintro _ _ ⟨b419,rfl,rfl⟩
 repeat' first|refine Kz ?_|intro _
 refine Ks rfl (Zg5 (s:=([45]++(List.replicate 600 57))) (by decide +kernel)) ?_
 rw [(by decide +kernel:signW ([45]++(List.replicate 600 57))=((-1),0))]
 repeat' first|refine Kz ?_|intro _
 refine Ks rfl (Zbu (n:=(-1)) (b:=b419)) ?_
 repeat' first|refine Kz ?_|intro _
 refine TL.callv rfl rfl rfl rfl (Ze7 (n:=10)) ?_
 rintro _ _ ⟨b428,rfl,rfl⟩
 repeat' first|refine Kz ?_|intro _
 refine Ks rfl (Zpj (s:=[49]) (t:=[45,48]) (by decide) (by decide)) ?_
 rw [(by decide +kernel:cmpW [49] [45,48]=(0,10))]
 repeat' first|refine Kz ?_|intro _
 refine Ks rfl (Zcf (n:=10) (b:=b428)) ?_
 repeat' first|refine Kz ?_|intro _
 refine Ks rfl (Zgg ht he) ?_
 repeat' first|refine Kz ?_|intro _
 refine Zad ?_
 exact ⟨_,rfl,Ents.refl _⟩
end Go.Proofs.YtaipdafohfmkcaaGreatDoor
