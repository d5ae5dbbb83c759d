/- Walks: the examples of the chapter on whole numbers. -/
import Derived.Test.YtaipdafohfmkcaaGreatDoorVb1
set_option maxHeartbeats 1000000
namespace Go.Sx
open Go
theorem Zix {f:Int→Int} {s l:List UInt8} {x:Int} (h1:readW s=some x) (h3:readW l=some (f x)):unW f s=(l,0):=by
 unfold unW;rw [h1];exact Zg8 h3
end Go.Sx
namespace Go.Proofs.YtaipdafohfmkcaaGreatDoor
open Go Go.Sx
variable {w0:World} {As:List Ent}
theorem Zjg (ht:Tab w0) {s t:List UInt8} (hs:s.length≤1000000000) (hl:t.length≤1000000000) :
  CQ Tryz.prog w0 8 [.string ⟨s.toArray⟩,.string ⟨t.toArray⟩] As (.tuple #[.string ⟨(binW (·+·) s t).1.toArray⟩,.int .i64 (binW (·+·) s t).2]):=Zrp ht hs hl
set_option maxRecDepth 100000 in
theorem Zgg (ht:Tab w0) (he:ErrR w0):CQ Tryz.prog w0 4 [] As (.bool true):=by
 refine Zaa Tryz.func4 rfl Tryz.ntmps4 rfl ?_
 repeat' first|refine Kz ?_|intro _
 refine Ks rfl (Zas (s:=[48,49,55]) (by decide)) ?_
 rw [(by decide +kernel:checkW [48,49,55]=10)]
 repeat' first|refine Kz ?_|intro _
 refine Ks rfl (Zas (s:=[45,48]) (by decide)) ?_
 rw [(by decide +kernel:checkW [45,48]=10)]
 repeat' first|refine Kz ?_|intro _
 refine Ks rfl (Zas (s:=[]) (by decide)) ?_
 rw [(by decide +kernel:checkW []=10)]
 repeat' first|refine Kz ?_|intro _
 refine Ks rfl (Zas (s:=[45,49,55]) (by decide)) ?_
 rw [(by decide +kernel:checkW [45,49,55]=0)]
 repeat' first|refine Kz ?_|intro _
 refine Ks rfl (Zoi ht (n:=(-9223372036854775808)) (by decide) (by decide)) ?_
 rw [(Zc8 (by decide +kernel):textI (-9223372036854775808)=[45,57,50,50,51,51,55,50,48,51,54,56,53,52,55,55,53,56,48,56])]
 repeat' first|refine Kz ?_|intro _
 refine TL.callv rfl rfl rfl rfl (Zej (n:=(-9223372036854775808))) ?_
 rintro _ _ ⟨b25,rfl,rfl⟩
 repeat' first|refine Kz ?_|intro _
 refine Ks rfl (Zh6 he (s:=[45,57,50,50,51,51,55,50,48,51,54,56,53,52,55,55,53,56,48,56]) (by decide)) ?_
 rw [(by decide +kernel:intW [45,57,50,50,51,51,55,50,48,51,54,56,53,52,55,55,53,56,48,56]=((-9223372036854775808),0))]
 repeat' first|refine Kz ?_|intro _
 refine Ks rfl (Zbu (n:=(-9223372036854775808)) (b:=b25)) ?_
 repeat' first|refine Kz ?_|intro _
 refine TL.callv rfl rfl rfl rfl (Ze7 (n:=6)) ?_
 rintro _ _ ⟨b32,rfl,rfl⟩
 repeat' first|refine Kz ?_|intro _
 refine Ks rfl (Zh6 he (s:=[57,50,50,51,51,55,50,48,51,54,56,53,52,55,55,53,56,48,56]) (by decide)) ?_
 rw [(by decide +kernel:intW [57,50,50,51,51,55,50,48,51,54,56,53,52,55,55,53,56,48,56]=(0,6))]
 repeat' first|refine Kz ?_|intro _
 refine Ks rfl (Zcf (n:=6) (b:=b32)) ?_
 repeat' first|refine Kz ?_|intro _
 refine TL.callv rfl rfl rfl rfl (Zbo (s:=[45,50])) ?_
 rintro _ _ ⟨b40,rfl,rfl⟩
 repeat' first|refine Kz ?_|intro _
 refine Ks rfl (Zjg ht (s:=[45,53]) (t:=[51]) (by decide) (by decide)) ?_
 rw [(Zbl (x:=(-5)) (y:=3) (by decide +kernel) (by decide +kernel) (by decide +kernel):binW (·+·) [45,53] [51]=([45,50],0))]
 repeat' first|refine Kz ?_|intro _
 refine Ks rfl (Zaj (s:=[45,50]) (b:=b40)) ?_
 repeat' first|refine Kz ?_|intro _
 refine TL.callv rfl rfl rfl rfl (Zbo (s:=[45,50])) ?_
 rintro _ _ ⟨b47,rfl,rfl⟩
 repeat' first|refine Kz ?_|intro _
 refine Ks rfl (Zl7 ht (s:=[51]) (t:=[53]) (by decide) (by decide)) ?_
 rw [(Zbl (x:=3) (y:=5) (by decide +kernel) (by decide +kernel) (by decide +kernel):binW (· - ·) [51] [53]=([45,50],0))]
 repeat' first|refine Kz ?_|intro _
 refine Ks rfl (Zaj (s:=[45,50]) (b:=b47)) ?_
 repeat' first|refine Kz ?_|intro _
 refine TL.callv rfl rfl rfl rfl (Zbo (s:=[45,49,48,48,48,48,48,48,48,48,48,48,48,48,48,48,48,48,48,48,48,48,48,48,48,48,48,48,48,48,48,48,48,48,48,48,48,48])) ?_
 rintro _ _ ⟨b54,rfl,rfl⟩
 repeat' first|refine Kz ?_|intro _
 refine Ks rfl (Zkd ht (s:=[45,49,48,48,48,48,48,48,48,48,48,48,48,48,48,48,48,48,48,48]) (t:=[49,48,48,48,48,48,48,48,48,48,48,48,48,48,48,48,48,48,48]) (by decide) (by decide)) ?_
 rw [(Zbl (x:=(-1000000000000000000)) (y:=1000000000000000000) (by decide +kernel) (by decide +kernel) (by decide +kernel):binW (· * ·) [45,49,48,48,48,48,48,48,48,48,48,48,48,48,48,48,48,48,48,48] [49,48,48,48,48,48,48,48,48,48,48,48,48,48,48,48,48,48,48]=([45,49,48,48,48,48,48,48,48,48,48,48,48,48,48,48,48,48,48,48,48,48,48,48,48,48,48,48,48,48,48,48,48,48,48,48,48,48],0))]
 repeat' first|refine Kz ?_|intro _
 refine Ks rfl (Zaj (s:=[45,49,48,48,48,48,48,48,48,48,48,48,48,48,48,48,48,48,48,48,48,48,48,48,48,48,48,48,48,48,48,48,48,48,48,48,48,48]) (b:=b54)) ?_
 repeat' first|refine Kz ?_|intro _
 refine TL.callv rfl rfl rfl rfl (Zbp (s:=[45,52]) (t:=[49])) ?_
 rintro _ _ ⟨b64,c64,rfl,rfl⟩
 repeat' first|refine Kz ?_|intro _
 refine Ks rfl (Zcc ht (s:=[45,55]) (t:=[50]) (by decide) (by decide)) ?_
 rw [(Zbq (x:=(-7)) (y:=2) (by decide +kernel) (by decide +kernel) (by decide) (by decide +kernel) (by decide +kernel):divW [45,55] [50]=([45,52],[49],0))]
 repeat' first|refine Kz ?_|intro _
 refine Ks rfl (Zax (s:=[45,52]) (t:=[49]) (b:=b64) (c:=c64)) ?_
 repeat' first|refine Kz ?_|intro _
 refine TL.callv rfl rfl rfl rfl (Zbp (s:=[45,51]) (t:=[49])) ?_
 rintro _ _ ⟨b72,c72,rfl,rfl⟩
 repeat' first|refine Kz ?_|intro _
 refine Ks rfl (Zcc ht (s:=[55]) (t:=[45,50]) (by decide) (by decide)) ?_
 rw [(Zbq (x:=7) (y:=(-2)) (by decide +kernel) (by decide +kernel) (by decide) (by decide +kernel) (by decide +kernel):divW [55] [45,50]=([45,51],[49],0))]
 repeat' first|refine Kz ?_|intro _
 refine Ks rfl (Zax (s:=[45,51]) (t:=[49]) (b:=b72) (c:=c72)) ?_
 repeat' first|refine Kz ?_|intro _
 refine TL.callv rfl rfl rfl rfl (Zbp (s:=[52]) (t:=[49])) ?_
 rintro _ _ ⟨b80,c80,rfl,rfl⟩
 repeat' first|refine Kz ?_|intro _
 refine Ks rfl (Zcc ht (s:=[45,55]) (t:=[45,50]) (by decide) (by decide)) ?_
 rw [(Zbq (x:=(-7)) (y:=(-2)) (by decide +kernel) (by decide +kernel) (by decide) (by decide +kernel) (by decide +kernel):divW [45,55] [45,50]=([52],[49],0))]
 repeat' first|refine Kz ?_|intro _
 refine Ks rfl (Zax (s:=[52]) (t:=[49]) (b:=b80) (c:=c80)) ?_
 repeat' first|refine Kz ?_|intro _
 refine Ks rfl (Zcc ht (s:=[49]) (t:=[48]) (by decide) (by decide)) ?_
 rw [(rfl:divW [49] [48]=([],[],7))]
 repeat' first|refine Kz ?_|intro _
 refine TL.callv rfl rfl rfl rfl (Zbo (s:=[54])) ?_
 rintro _ _ ⟨b98,rfl,rfl⟩
 repeat' first|refine Kz ?_|intro _
 refine Ks rfl (Zeo ht (s:=[45,49,50]) (t:=[49,56]) (by decide) (by decide)) ?_
 rw [(Zbl (x:=(-12)) (y:=18) (by decide +kernel) (by decide +kernel) (by decide +kernel):binW gcdI [45,49,50] [49,56]=([54],0))]
 repeat' first|refine Kz ?_|intro _
 refine Ks rfl (Zaj (s:=[54]) (b:=b98)) ?_
 repeat' first|refine Kz ?_|intro _
 refine TL.callv rfl rfl rfl rfl (Zbo (s:=[48])) ?_
 rintro _ _ ⟨b105,rfl,rfl⟩
 repeat' first|refine Kz ?_|intro _
 refine Ks rfl (Zeo ht (s:=[48]) (t:=[48]) (by decide) (by decide)) ?_
 rw [(Zbl (x:=0) (y:=0) (by decide +kernel) (by decide +kernel) (by decide +kernel):binW gcdI [48] [48]=([48],0))]
 repeat' first|refine Kz ?_|intro _
 refine Ks rfl (Zaj (s:=[48]) (b:=b105)) ?_
 repeat' first|refine Kz ?_|intro _
 refine TL.callv rfl rfl rfl rfl (Zej (n:=(-1))) ?_
 rintro _ _ ⟨b112,rfl,rfl⟩
 repeat' first|refine Kz ?_|intro _
 refine Ks rfl (Zpj (s:=[45,49,48]) (t:=[57]) (by decide) (by decide)) ?_
 rw [(by decide +kernel:cmpW [45,49,48] [57]=((-1),0))]
 repeat' first|refine Kz ?_|intro _
 refine Ks rfl (Zbu (n:=(-1)) (b:=b112)) ?_
 repeat' first|refine Kz ?_|intro _
 refine TL.callv rfl rfl rfl rfl (Zej (n:=0)) ?_
 rintro _ _ ⟨b119,rfl,rfl⟩
 repeat' first|refine Kz ?_|intro _
 refine Ks rfl (Zg5 (s:=[48]) (by decide)) ?_
 rw [(by decide +kernel:signW [48]=(0,0))]
 repeat' first|refine Kz ?_|intro _
 refine Ks rfl (Zbu (n:=0) (b:=b119)) ?_
 repeat' first|refine Kz ?_|intro _
 refine TL.callv rfl rfl rfl rfl (Zbo (s:=[45,50,55])) ?_
 rintro _ _ ⟨b127,rfl,rfl⟩
 repeat' first|refine Kz ?_|intro _
 refine Ks rfl (Zd5 ht (s:=[45,51]) (n:=3) (by decide) (by decide) (by decide)) ?_
 rw [(Zd6 (x:=(-3)) (by decide +kernel) (by decide) (by decide +kernel):powW [45,51] 3=([45,50,55],0))]
 repeat' first|refine Kz ?_|intro _
 refine Ks rfl (Zaj (s:=[45,50,55]) (b:=b127)) ?_
 repeat' first|refine Kz ?_|intro _
 refine TL.callv rfl rfl rfl rfl (Zbo (s:=[49])) ?_
 rintro _ _ ⟨b134,rfl,rfl⟩
 repeat' first|refine Kz ?_|intro _
 refine Ks rfl (Zd5 ht (s:=[48]) (n:=0) (by decide) (by decide) (by decide)) ?_
 rw [(Zd6 (x:=0) (by decide +kernel) (by decide) (by decide +kernel):powW [48] 0=([49],0))]
 repeat' first|refine Kz ?_|intro _
 refine Ks rfl (Zaj (s:=[49]) (b:=b134)) ?_
 repeat' first|refine Kz ?_|intro _
 refine TL.callv rfl rfl rfl rfl (Zay (n:=2)) ?_
 rintro _ _ ⟨b141,rfl,rfl⟩
 repeat' first|refine Kz ?_|intro _
 refine Ks rfl (Zd5 ht (s:=[50]) (n:=41) (by decide) (by decide) (by decide)) ?_
 rw [(rfl:powW [50] 41=([],2))]
 repeat' first|refine Kz ?_|intro _
 refine Ks rfl (Zak (n:=2) (b:=b141)) ?_
 repeat' first|refine Kz ?_|intro _
 refine TL.callv rfl rfl rfl rfl (Zbo (s:=[50])) ?_
 rintro _ _ ⟨b148,rfl,rfl⟩
 repeat' first|refine Kz ?_|intro _
 refine Ks rfl (Za3 ht (s:=[56,48]) (n:=4) (by decide) (by decide) (by decide)) ?_
 rw [(Zbm (x:=80) (r:=2) (by decide +kernel) (by decide) (by decide) (by decide) (by decide +kernel):rootW [56,48] 4=([50],0))]
 repeat' first|refine Kz ?_|intro _
 refine Ks rfl (Zaj (s:=[50]) (b:=b148)) ?_
 repeat' first|refine Kz ?_|intro _
 refine TL.callv rfl rfl rfl rfl (Zbo (s:=[51])) ?_
 rintro _ _ ⟨b155,rfl,rfl⟩
 repeat' first|refine Kz ?_|intro _
 refine Ks rfl (Za3 ht (s:=[56,49]) (n:=4) (by decide) (by decide) (by decide)) ?_
 rw [(Zbm (x:=81) (r:=3) (by decide +kernel) (by decide) (by decide) (by decide) (by decide +kernel):rootW [56,49] 4=([51],0))]
 repeat' first|refine Kz ?_|intro _
 refine Ks rfl (Zaj (s:=[51]) (b:=b155)) ?_
 repeat' first|refine Kz ?_|intro _
 refine TL.callv rfl rfl rfl rfl (Zay (n:=2)) ?_
 rintro _ _ ⟨b162,rfl,rfl⟩
 repeat' first|refine Kz ?_|intro _
 refine Ks rfl (Za3 ht (s:=[45,49]) (n:=1) (by decide) (by decide) (by decide)) ?_
 rw [(rfl:rootW [45,49] 1=([],2))]
 repeat' first|refine Kz ?_|intro _
 refine Ks rfl (Zak (n:=2) (b:=b162)) ?_
 repeat' first|refine Kz ?_|intro _
 refine TL.callv rfl rfl rfl rfl (Zay (n:=2)) ?_
 rintro _ _ ⟨b169,rfl,rfl⟩
 repeat' first|refine Kz ?_|intro _
 refine Ks rfl (Za3 ht (s:=[53]) (n:=13) (by decide) (by decide) (by decide)) ?_
 rw [(rfl:rootW [53] 13=([],2))]
 repeat' first|refine Kz ?_|intro _
 refine Ks rfl (Zak (n:=2) (b:=b169)) ?_
 repeat' first|refine Kz ?_|intro _
 (refine Zad ?_)
 exact ⟨_,⟨by simp,rfl⟩,Zab⟩
end Go.Proofs.YtaipdafohfmkcaaGreatDoor
