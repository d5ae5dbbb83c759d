/- Walks: the examples of the chapter on fractions. -/
import Derived.Test.YtciadfpomkdlnaaGreatDoorLf1
set_option maxHeartbeats 1000000
namespace Go.Proofs.YtciadfpomkdlnaaGreatDoor.Q
open Go Go.Sx
variable {w0:World} {As:List Ent}
set_option maxRecDepth 100000 in
set_option maxHeartbeats 8000000 in
theorem Zji (ht:Tab w0) (he:ErrR w0) (hm:LenR w0):CQ Tryz.prog w0 10 [] As (.bool true):=by
 refine Zab Tryz.func10 rfl Tryz.ntmps10 rfl ?_
 repeat' first|refine Kz ?_|intro _
 refine TL.callv rfl rfl rfl rfl (Zgs (s:=[45,51]) (t:=[50])) ?_
 rintro _ _ ⟨b6,c6,rfl,rfl⟩
 repeat' first|refine Kz ?_|intro _
 refine Ks rfl (Zo3 ht (n:=6) (d:=(-4)) (by decide) (by decide)) ?_
 rw [(Zar (by decide) (by decide +kernel):ofO 6 (-4)=([45,51],[50],0))]
 repeat' first|refine Kz ?_|intro _
 refine Ks rfl (Zb0 (s:=[45,51]) (t:=[50]) (b:=b6) (c:=c6)) ?_
 repeat' first|refine Kz ?_|intro _
 refine TL.callv rfl rfl rfl rfl (Zgs (s:=[48]) (t:=[49])) ?_
 rintro _ _ ⟨b12,c12,rfl,rfl⟩
 repeat' first|refine Kz ?_|intro _
 refine Ks rfl (Zo3 ht (n:=0) (d:=5) (by decide) (by decide)) ?_
 rw [(Zar (by decide) (by decide +kernel):ofO 0 5=([48],[49],0))]
 repeat' first|refine Kz ?_|intro _
 refine Ks rfl (Zb0 (s:=[48]) (t:=[49]) (b:=b12) (c:=c12)) ?_
 repeat' first|refine Kz ?_|intro _
 refine TL.callv rfl rfl rfl rfl (Ze4 (n:=7)) ?_
 rintro _ _ ⟨b19,rfl,rfl⟩
 repeat' first|refine Kz ?_|intro _
 refine Ks rfl (Zo3 ht (n:=1) (d:=0) (by decide) (by decide)) ?_
 rw [(rfl:ofO 1 0=([],[],7))]
 repeat' first|refine Kz ?_|intro _
 refine Ks rfl (Zcj (n:=7) (b:=b19)) ?_
 repeat' first|refine Kz ?_|intro _
 refine Ks rfl (Zir (a:=[50]) (b:=[52]) (by decide) (by decide)) ?_
 rw [(by decide +kernel:(if (readF [50] [52]).isSome then 0 else 20:Int)=20)]
 repeat' first|refine Kz ?_|intro _
 refine TL.callv rfl rfl rfl rfl (Zgs (s:=[53]) (t:=[54])) ?_
 rintro _ _ ⟨b31,c31,rfl,rfl⟩
 repeat' first|refine Kz ?_|intro _
 refine Ks rfl (q_ok ht (n:=1) (d:=2) (by decide) (by decide)) ?_
 rw [(Zar (by decide) (by decide +kernel):ofO 1 2=([49],[50],0))]
 repeat' first|refine Kz ?_|intro _
 refine Ks rfl (q_ok ht (n:=1) (d:=3) (by decide) (by decide)) ?_
 rw [(Zar (by decide) (by decide +kernel):ofO 1 3=([49],[51],0))]
 repeat' first|refine Kz ?_|intro _
 refine Ks rfl (Zs6 ht (a:=[49]) (b:=[50]) (c:=[49]) (d:=[51]) (by decide) (by decide) (by decide) (by decide)) ?_
 rw [(Zkt (by decide +kernel) (by decide +kernel):outO (ap2 (·+·) (readF [49] [50]) (readF [49] [51]))=([53],[54],0))]
 repeat' first|refine Kz ?_|intro _
 refine Ks rfl (Zb0 (s:=[53]) (t:=[54]) (b:=b31) (c:=c31)) ?_
 repeat' first|refine Kz ?_|intro _
 refine TL.callv rfl rfl rfl rfl (Zgs (s:=[48]) (t:=[49])) ?_
 rintro _ _ ⟨b40,c40,rfl,rfl⟩
 repeat' first|refine Kz ?_|intro _
 refine Ks rfl (q_ok ht (n:=1) (d:=2) (by decide) (by decide)) ?_
 rw [(Zar (by decide) (by decide +kernel):ofO 1 2=([49],[50],0))]
 repeat' first|refine Kz ?_|intro _
 refine Ks rfl (q_ok ht (n:=1) (d:=2) (by decide) (by decide)) ?_
 rw [(Zar (by decide) (by decide +kernel):ofO 1 2=([49],[50],0))]
 repeat' first|refine Kz ?_|intro _
 refine Ks rfl (Zrs ht (a:=[49]) (b:=[50]) (c:=[49]) (d:=[50]) (by decide) (by decide) (by decide) (by decide)) ?_
 rw [(Zkt (by decide +kernel) (by decide +kernel):outO (ap2 (· - ·) (readF [49] [50]) (readF [49] [50]))=([48],[49],0))]
 repeat' first|refine Kz ?_|intro _
 refine Ks rfl (Zb0 (s:=[48]) (t:=[49]) (b:=b40) (c:=c40)) ?_
 repeat' first|refine Kz ?_|intro _
 refine TL.callv rfl rfl rfl rfl (Zgs (s:=[45,49]) (t:=[49])) ?_
 rintro _ _ ⟨b49,c49,rfl,rfl⟩
 repeat' first|refine Kz ?_|intro _
 refine Ks rfl (q_ok ht (n:=(-2)) (d:=3) (by decide) (by decide)) ?_
 rw [(Zar (by decide) (by decide +kernel):ofO (-2) 3=([45,50],[51],0))]
 repeat' first|refine Kz ?_|intro _
 refine Ks rfl (q_ok ht (n:=3) (d:=2) (by decide) (by decide)) ?_
 rw [(Zar (by decide) (by decide +kernel):ofO 3 2=([51],[50],0))]
 repeat' first|refine Kz ?_|intro _
 refine Ks rfl (Zsi ht (a:=[45,50]) (b:=[51]) (c:=[51]) (d:=[50]) (by decide) (by decide) (by decide) (by decide)) ?_
 rw [(Zkt (by decide +kernel) (by decide +kernel):outO (ap2 (· * ·) (readF [45,50] [51]) (readF [51] [50]))=([45,49],[49],0))]
 repeat' first|refine Kz ?_|intro _
 refine Ks rfl (Zb0 (s:=[45,49]) (t:=[49]) (b:=b49) (c:=c49)) ?_
 repeat' first|refine Kz ?_|intro _
 refine TL.callv rfl rfl rfl rfl (Zgs (s:=[45,51]) (t:=[50])) ?_
 rintro _ _ ⟨b58,c58,rfl,rfl⟩
 repeat' first|refine Kz ?_|intro _
 refine Ks rfl (q_ok ht (n:=1) (d:=1) (by decide) (by decide)) ?_
 rw [(Zar (by decide) (by decide +kernel):ofO 1 1=([49],[49],0))]
 repeat' first|refine Kz ?_|intro _
 refine Ks rfl (q_ok ht (n:=(-2)) (d:=3) (by decide) (by decide)) ?_
 rw [(Zar (by decide) (by decide +kernel):ofO (-2) 3=([45,50],[51],0))]
 repeat' first|refine Kz ?_|intro _
 refine Ks rfl (Zk4 ht (a:=[49]) (b:=[49]) (c:=[45,50]) (d:=[51]) (by decide) (by decide) (by decide) (by decide)) ?_
 rw [(Zvc (by decide +kernel) (by decide +kernel):divO (readF [49] [49]) (readF [45,50] [51])=([45,51],[50],0))]
 repeat' first|refine Kz ?_|intro _
 refine Ks rfl (Zb0 (s:=[45,51]) (t:=[50]) (b:=b58) (c:=c58)) ?_
 repeat' first|refine Kz ?_|intro _
 refine TL.callv rfl rfl rfl rfl (Ze4 (n:=7)) ?_
 rintro _ _ ⟨b68,rfl,rfl⟩
 repeat' first|refine Kz ?_|intro _
 refine Ks rfl (q_ok ht (n:=1) (d:=1) (by decide) (by decide)) ?_
 rw [(Zar (by decide) (by decide +kernel):ofO 1 1=([49],[49],0))]
 repeat' first|refine Kz ?_|intro _
 refine Ks rfl (q_ok ht (n:=0) (d:=1) (by decide) (by decide)) ?_
 rw [(Zar (by decide) (by decide +kernel):ofO 0 1=([48],[49],0))]
 repeat' first|refine Kz ?_|intro _
 refine Ks rfl (Zk4 ht (a:=[49]) (b:=[49]) (c:=[48]) (d:=[49]) (by decide) (by decide) (by decide) (by decide)) ?_
 rw [(by decide +kernel:divO (readF [49] [49]) (readF [48] [49])=([],[],7))]
 repeat' first|refine Kz ?_|intro _
 refine Ks rfl (Zcj (n:=7) (b:=b68)) ?_
 repeat' first|refine Kz ?_|intro _
 refine TL.callv rfl rfl rfl rfl (Zkk (n:=(-1))) ?_
 rintro _ _ ⟨b77,rfl,rfl⟩
 repeat' first|refine Kz ?_|intro _
 refine Ks rfl (q_ok ht (n:=1) (d:=3) (by decide) (by decide)) ?_
 rw [(Zar (by decide) (by decide +kernel):ofO 1 3=([49],[51],0))]
 repeat' first|refine Kz ?_|intro _
 refine Ks rfl (q_ok ht (n:=1) (d:=2) (by decide) (by decide)) ?_
 rw [(Zar (by decide) (by decide +kernel):ofO 1 2=([49],[50],0))]
 repeat' first|refine Kz ?_|intro _
 refine Ks rfl (Zs2 (a:=[49]) (b:=[51]) (c:=[49]) (d:=[50]) (by decide) (by decide) (by decide) (by decide)) ?_
 rw [(by decide +kernel:(ap2 ordQ (readF [49] [51]) (readF [49] [50])).getD 0=(-1)),(by decide +kernel:(if (ap2 ordQ (readF [49] [51]) (readF [49] [50])).isSome then (0:Int) else 20)=0)]
 repeat' first|refine Kz ?_|intro _
 refine Ks rfl (Zeu (n:=(-1)) (b:=b77)) ?_
 repeat' first|refine Kz ?_|intro _
 refine TL.callv rfl rfl rfl rfl (Zgs (s:=[49]) (t:=[49])) ?_
 rintro _ _ ⟨b86,c86,rfl,rfl⟩
 repeat' first|refine Kz ?_|intro _
 refine Ks rfl (q_ok ht (n:=3) (d:=2) (by decide) (by decide)) ?_
 rw [(Zar (by decide) (by decide +kernel):ofO 3 2=([51],[50],0))]
 repeat' first|refine Kz ?_|intro _
 refine Ks rfl (q_ok ht (n:=0) (d:=1) (by decide) (by decide)) ?_
 rw [(Zar (by decide) (by decide +kernel):ofO 0 1=([48],[49],0))]
 repeat' first|refine Kz ?_|intro _
 refine Ks rfl (q_ok ht (n:=1) (d:=1) (by decide) (by decide)) ?_
 rw [(Zar (by decide) (by decide +kernel):ofO 1 1=([49],[49],0))]
 repeat' first|refine Kz ?_|intro _
 refine Ks rfl (Ziq ht (a:=[51]) (b:=[50]) (c:=[48]) (d:=[49]) (g:=[49]) (h:=[49]) (by decide) (by decide) (by decide) (by decide) (by decide) (by decide)) ?_
 rw [(Zqs (by decide +kernel) (by decide +kernel):clampO (readF [51] [50]) (readF [48] [49]) (readF [49] [49])=([49],[49],0))]
 repeat' first|refine Kz ?_|intro _
 refine Ks rfl (Zb0 (s:=[49]) (t:=[49]) (b:=b86) (c:=c86)) ?_
 repeat' first|refine Kz ?_|intro _
 refine TL.callv rfl rfl rfl rfl (Ze4 (n:=2)) ?_
 rintro _ _ ⟨b96,rfl,rfl⟩
 repeat' first|refine Kz ?_|intro _
 refine Ks rfl (q_ok ht (n:=0) (d:=1) (by decide) (by decide)) ?_
 rw [(Zar (by decide) (by decide +kernel):ofO 0 1=([48],[49],0))]
 repeat' first|refine Kz ?_|intro _
 refine Ks rfl (q_ok ht (n:=1) (d:=1) (by decide) (by decide)) ?_
 rw [(Zar (by decide) (by decide +kernel):ofO 1 1=([49],[49],0))]
 repeat' first|refine Kz ?_|intro _
 refine Ks rfl (q_ok ht (n:=0) (d:=1) (by decide) (by decide)) ?_
 rw [(Zar (by decide) (by decide +kernel):ofO 0 1=([48],[49],0))]
 repeat' first|refine Kz ?_|intro _
 refine Ks rfl (Ziq ht (a:=[48]) (b:=[49]) (c:=[49]) (d:=[49]) (g:=[48]) (h:=[49]) (by decide) (by decide) (by decide) (by decide) (by decide) (by decide)) ?_
 rw [(by decide +kernel:clampO (readF [48] [49]) (readF [49] [49]) (readF [48] [49])=([],[],2))]
 repeat' first|refine Kz ?_|intro _
 refine Ks rfl (Zcj (n:=2) (b:=b96)) ?_
 repeat' first|refine Kz ?_|intro _
 refine Ks rfl (q_ok ht (n:=(-1)) (d:=2) (by decide) (by decide)) ?_
 rw [(Zar (by decide) (by decide +kernel):ofO (-1) 2=([45,49],[50],0))]
 repeat' first|refine Kz ?_|intro _
 refine Ks rfl (Zss ht (a:=[45,49]) (b:=[50]) (by decide) (by decide)) ?_
 rw [(Zqq (z:=(-1)) (by decide +kernel) (by decide +kernel):floorT (readF [45,49] [50])=[45,49]),(by decide +kernel:(if (readF [45,49] [50]).isSome then (0:Int) else 20)=0)]
 repeat' first|refine Kz ?_|intro _
 refine TL.callv rfl rfl rfl rfl (Zkk (n:=1)) ?_
 rintro _ _ ⟨b120,rfl,rfl⟩
 repeat' first|refine Kz ?_|intro _
 refine Ks rfl (q_ok ht (n:=1) (d:=2) (by decide) (by decide)) ?_
 rw [(Zar (by decide) (by decide +kernel):ofO 1 2=([49],[50],0))]
 repeat' first|refine Kz ?_|intro _
 refine Ks rfl (Zf5 ht he (a:=[49]) (b:=[50]) (k:=1) (by decide) (by decide)) ?_
 rw [(by decide +kernel:nearO (readF [49] [50]) 1=(1,0))]
 repeat' first|refine Kz ?_|intro _
 refine Ks rfl (Zeu (n:=1) (b:=b120)) ?_
 repeat' first|refine Kz ?_|intro _
 refine TL.callv rfl rfl rfl rfl (Zkk (n:=0)) ?_
 rintro _ _ ⟨b128,rfl,rfl⟩
 repeat' first|refine Kz ?_|intro _
 refine Ks rfl (q_ok ht (n:=(-1)) (d:=2) (by decide) (by decide)) ?_
 rw [(Zar (by decide) (by decide +kernel):ofO (-1) 2=([45,49],[50],0))]
 repeat' first|refine Kz ?_|intro _
 refine Ks rfl (Zf5 ht he (a:=[45,49]) (b:=[50]) (k:=1) (by decide) (by decide)) ?_
 rw [(by decide +kernel:nearO (readF [45,49] [50]) 1=(0,0))]
 repeat' first|refine Kz ?_|intro _
 refine Ks rfl (Zeu (n:=0) (b:=b128)) ?_
 repeat' first|refine Kz ?_|intro _
 refine TL.callv rfl rfl rfl rfl (Zkk (n:=667)) ?_
 rintro _ _ ⟨b136,rfl,rfl⟩
 repeat' first|refine Kz ?_|intro _
 refine Ks rfl (q_ok ht (n:=2) (d:=3) (by decide) (by decide)) ?_
 rw [(Zar (by decide) (by decide +kernel):ofO 2 3=([50],[51],0))]
 repeat' first|refine Kz ?_|intro _
 refine Ks rfl (Zf5 ht he (a:=[50]) (b:=[51]) (k:=1000) (by decide) (by decide)) ?_
 rw [(by decide +kernel:nearO (readF [50] [51]) 1000=(667,0))]
 repeat' first|refine Kz ?_|intro _
 refine Ks rfl (Zeu (n:=667) (b:=b136)) ?_
 repeat' first|refine Kz ?_|intro _
 refine TL.callv rfl rfl rfl rfl (Zuf (n:=2)) ?_
 rintro _ _ ⟨b144,rfl,rfl⟩
 repeat' first|refine Kz ?_|intro _
 refine Ks rfl (q_ok ht (n:=1) (d:=1) (by decide) (by decide)) ?_
 rw [(Zar (by decide) (by decide +kernel):ofO 1 1=([49],[49],0))]
 repeat' first|refine Kz ?_|intro _
 refine Ks rfl (Zf5 ht he (a:=[49]) (b:=[49]) (k:=0) (by decide) (by decide)) ?_
 rw [(by decide +kernel:nearO (readF [49] [49]) 0=(0,2))]
 repeat' first|refine Kz ?_|intro _
 refine Ks rfl (Zm5 (n:=2) (b:=b144)) ?_
 repeat' first|refine Kz ?_|intro _
 refine TL.callv rfl rfl rfl rfl (Zho (s:=[45,48,46,49,50])) ?_
 rintro _ _ ⟨b153,rfl,rfl⟩
 repeat' first|refine Kz ?_|intro _
 refine Ks rfl (q_ok ht (n:=(-1)) (d:=8) (by decide) (by decide)) ?_
 rw [(Zar (by decide) (by decide +kernel):ofO (-1) 8=([45,49],[56],0))]
 repeat' first|refine Kz ?_|intro _
 refine Ks rfl (Zhn ht (a:=[45,49]) (b:=[56]) (p:=2) (by decide) (by decide)) ?_
 rw [(Zfu (z:=(-12)) (dg:=[49,50]) (by decide +kernel) (by decide) (by decide +kernel) (by decide +kernel):textO (readF [45,49] [56]) 2=([45,48,46,49,50],0))]
 repeat' first|refine Kz ?_|intro _
 refine Ks rfl (Zd0 (s:=[45,48,46,49,50]) (b:=b153)) ?_
 repeat' first|refine Kz ?_|intro _
 refine TL.callv rfl rfl rfl rfl (Zho (s:=[48,46,51,51,51,51])) ?_
 rintro _ _ ⟨b161,rfl,rfl⟩
 repeat' first|refine Kz ?_|intro _
 refine Ks rfl (q_ok ht (n:=1) (d:=3) (by decide) (by decide)) ?_
 rw [(Zar (by decide) (by decide +kernel):ofO 1 3=([49],[51],0))]
 repeat' first|refine Kz ?_|intro _
 refine Ks rfl (Zhn ht (a:=[49]) (b:=[51]) (p:=4) (by decide) (by decide)) ?_
 rw [(Zfu (z:=3333) (dg:=[51,51,51,51]) (by decide +kernel) (by decide) (by decide +kernel) (by decide +kernel):textO (readF [49] [51]) 4=([48,46,51,51,51,51],0))]
 repeat' first|refine Kz ?_|intro _
 refine Ks rfl (Zd0 (s:=[48,46,51,51,51,51]) (b:=b161)) ?_
 repeat' first|refine Kz ?_|intro _
 refine TL.callv rfl rfl rfl rfl (Zho (s:=[51])) ?_
 rintro _ _ ⟨b169,rfl,rfl⟩
 repeat' first|refine Kz ?_|intro _
 refine Ks rfl (q_ok ht (n:=5) (d:=2) (by decide) (by decide)) ?_
 rw [(Zar (by decide) (by decide +kernel):ofO 5 2=([53],[50],0))]
 repeat' first|refine Kz ?_|intro _
 refine Ks rfl (Zhn ht (a:=[53]) (b:=[50]) (p:=0) (by decide) (by decide)) ?_
 rw [(Zfu (z:=3) (dg:=[51]) (by decide +kernel) (by decide) (by decide +kernel) (by decide +kernel):textO (readF [53] [50]) 0=([51],0))]
 repeat' first|refine Kz ?_|intro _
 refine Ks rfl (Zd0 (s:=[51]) (b:=b169)) ?_
 repeat' first|refine Kz ?_|intro _
 refine TL.callv rfl rfl rfl rfl (Zho (s:=[48,46,48,48])) ?_
 rintro _ _ ⟨b177,rfl,rfl⟩
 repeat' first|refine Kz ?_|intro _
 refine Ks rfl (q_ok ht (n:=(-1)) (d:=1000) (by decide) (by decide)) ?_
 rw [(Zar (by decide) (by decide +kernel):ofO (-1) 1000=([45,49],[49,48,48,48],0))]
 repeat' first|refine Kz ?_|intro _
 refine Ks rfl (Zhn ht (a:=[45,49]) (b:=[49,48,48,48]) (p:=2) (by decide) (by decide)) ?_
 rw [(Zfu (z:=0) (dg:=[48]) (by decide +kernel) (by decide) (by decide +kernel) (by decide +kernel):textO (readF [45,49] [49,48,48,48]) 2=([48,46,48,48],0))]
 repeat' first|refine Kz ?_|intro _
 refine Ks rfl (Zd0 (s:=[48,46,48,48]) (b:=b177)) ?_
 repeat' first|refine Kz ?_|intro _
 refine Tri.midB (fun e' As'=>e'=[(1,.bool true)]∧As'=As) ?_ ?_
 ·refine Zqu 4 ?_
  repeat' first|refine Kz ?_|intro _
  refine TL.callv rfl rfl rfl rfl (Ze4 (n:=5)) ?_
  rintro _ _ ⟨bL0,rfl,rfl⟩
  repeat' first|refine Kz ?_|intro _
  refine Ks rfl (Zdp ht hm (s:=[48,48,55]) (by decide)) ?_
  rw [(Zgp (by decide +kernel):parseO (parseQ [48,48,55])=([],[],5))]
  repeat' first|refine Kz ?_|intro _
  refine Ks rfl (Zcj (n:=5) (b:=bL0)) ?_
  repeat' first|refine Kz ?_|intro _
  refine TL.callv rfl rfl rfl rfl (Ze4 (n:=5)) ?_
  rintro _ _ ⟨bL1,rfl,rfl⟩
  repeat' first|refine Kz ?_|intro _
  refine Ks rfl (Zdp ht hm (s:=[49,46]) (by decide)) ?_
  rw [(Zgp (by decide +kernel):parseO (parseQ [49,46])=([],[],5))]
  repeat' first|refine Kz ?_|intro _
  refine Ks rfl (Zcj (n:=5) (b:=bL1)) ?_
  repeat' first|refine Kz ?_|intro _
  refine TL.callv rfl rfl rfl rfl (Ze4 (n:=5)) ?_
  rintro _ _ ⟨bL2,rfl,rfl⟩
  repeat' first|refine Kz ?_|intro _
  refine Ks rfl (Zdp ht hm (s:=[45,48,46,48]) (by decide)) ?_
  rw [(Zgp (by decide +kernel):parseO (parseQ [45,48,46,48])=([],[],5))]
  repeat' first|refine Kz ?_|intro _
  refine Ks rfl (Zcj (n:=5) (b:=bL2)) ?_
  repeat' first|refine Kz ?_|intro _
  exact Post.cut _ _ ⟨rfl,rfl⟩ Zae Zaa
 rintro _ _ ⟨rfl,rfl⟩
 repeat' first|refine Kz ?_|intro _
 refine TL.callv rfl rfl rfl rfl (Zgs (s:=[45,49]) (t:=[50])) ?_
 rintro _ _ ⟨b198,c198,rfl,rfl⟩
 repeat' first|refine Kz ?_|intro _
 refine Ks rfl (Zdp ht hm (s:=[45,48,46,53,48]) (by decide)) ?_
 rw [(Zjv (by decide +kernel) (by decide +kernel):parseO (parseQ [45,48,46,53,48])=([45,49],[50],0))]
 repeat' first|refine Kz ?_|intro _
 refine Ks rfl (Zb0 (s:=[45,49]) (t:=[50]) (b:=b198) (c:=c198)) ?_
 repeat' first|refine Kz ?_|intro _
 refine TL.callv rfl rfl rfl rfl (Zgs (s:=[49,50]) (t:=[49])) ?_
 rintro _ _ ⟨b205,c205,rfl,rfl⟩
 repeat' first|refine Kz ?_|intro _
 refine Ks rfl (Zdp ht hm (s:=[49,50]) (by decide)) ?_
 rw [(Zjv (by decide +kernel) (by decide +kernel):parseO (parseQ [49,50])=([49,50],[49],0))]
 repeat' first|refine Kz ?_|intro _
 refine Ks rfl (Zb0 (s:=[49,50]) (t:=[49]) (b:=b205) (c:=c205)) ?_
 repeat' first|refine Kz ?_|intro _
 refine TL.callv rfl rfl rfl rfl (Zgs (s:=[45,56]) (t:=[50,55])) ?_
 rintro _ _ ⟨b212,c212,rfl,rfl⟩
 repeat' first|refine Kz ?_|intro _
 refine Ks rfl (q_ok ht (n:=(-2)) (d:=3) (by decide) (by decide)) ?_
 rw [(Zar (by decide) (by decide +kernel):ofO (-2) 3=([45,50],[51],0))]
 repeat' first|refine Kz ?_|intro _
 refine Ks rfl (Zkq ht (a:=[45,50]) (b:=[51]) (n:=3) (by decide) (by decide) (by decide) (by decide)) ?_
 rw [(Zow (by decide +kernel) (Zhs (x:=(-2)) (by decide +kernel) (by decide) (by decide +kernel)) (Zhs (x:=3) (by decide +kernel) (by decide) (by decide +kernel)):powO [45,50] [51] 3=([45,56],[50,55],0))]
 repeat' first|refine Kz ?_|intro _
 refine Ks rfl (Zb0 (s:=[45,56]) (t:=[50,55]) (b:=b212) (c:=c212)) ?_
 repeat' first|refine Kz ?_|intro _
 refine TL.callv rfl rfl rfl rfl (Zgs (s:=[49]) (t:=[49])) ?_
 rintro _ _ ⟨b220,c220,rfl,rfl⟩
 repeat' first|refine Kz ?_|intro _
 refine Ks rfl (q_ok ht (n:=0) (d:=1) (by decide) (by decide)) ?_
 rw [(Zar (by decide) (by decide +kernel):ofO 0 1=([48],[49],0))]
 repeat' first|refine Kz ?_|intro _
 refine Ks rfl (Zkq ht (a:=[48]) (b:=[49]) (n:=0) (by decide) (by decide) (by decide) (by decide)) ?_
 rw [(Zow (by decide +kernel) (Zhs (x:=0) (by decide +kernel) (by decide) (by decide +kernel)) (Zhs (x:=1) (by decide +kernel) (by decide) (by decide +kernel)):powO [48] [49] 0=([49],[49],0))]
 repeat' first|refine Kz ?_|intro _
 refine Ks rfl (Zb0 (s:=[49]) (t:=[49]) (b:=b220) (c:=c220)) ?_
 repeat' first|refine Kz ?_|intro _
 refine TL.callv rfl rfl rfl rfl (Zgs (s:=[49]) (t:=[49])) ?_
 rintro _ _ ⟨b228,c228,rfl,rfl⟩
 repeat' first|refine Kz ?_|intro _
 refine Ks rfl (q_ok ht (n:=1) (d:=2) (by decide) (by decide)) ?_
 rw [(Zar (by decide) (by decide +kernel):ofO 1 2=([49],[50],0))]
 repeat' first|refine Kz ?_|intro _
 refine Ks rfl (q_ok ht (n:=1) (d:=3) (by decide) (by decide)) ?_
 rw [(Zar (by decide) (by decide +kernel):ofO 1 3=([49],[51],0))]
 repeat' first|refine Kz ?_|intro _
 refine Ks rfl (q_ok ht (n:=1) (d:=6) (by decide) (by decide)) ?_
 rw [(Zar (by decide) (by decide +kernel):ofO 1 6=([49],[54],0))]
 repeat' first|refine Kz ?_|intro _
 rename_i bl
 refine TL.ents (Zbt cF [([49],[50]),([49],[51]),([49],[54])] (n:=3) (cap:=3) (by rfl) (by rfl) (by rfl)) ?_
 repeat' first|refine Kz ?_|intro _
 refine Ks rfl (Zh3 ht (v:=.slice (some ⟨bl,0,none⟩) 3 3) (l:=[([49],[50]),([49],[51]),([49],[54])]) (by decide) (by decide)) ?_
 rw [(Zon (by decide) (by decide +kernel) (by decide +kernel):sumO [([49],[50]),([49],[51]),([49],[54])]=([49],[49],0))]
 repeat' first|refine Kz ?_|intro _
 refine TL.ents Zb1 ?_
 refine Ks rfl (Zb0 (s:=[49]) (t:=[49]) (b:=b228) (c:=c228)) ?_
 repeat' first|refine Kz ?_|intro _
 refine TL.callv rfl rfl rfl rfl (Zgs (s:=[48]) (t:=[49])) ?_
 rintro _ _ ⟨b239,c239,rfl,rfl⟩
 repeat' first|refine Kz ?_|intro _
 refine TL.ents (Za1 (T:=24) cF) ?_
 refine Ks rfl (Zh3 ht (v:=.slice none 0 0) (l:=[]) (by decide) (by decide)) ?_
 rw [(Zon (by decide) (by decide +kernel) (by decide +kernel):sumO []=([48],[49],0))]
 repeat' first|refine Kz ?_|intro _
 refine TL.ents Zb1 ?_
 refine Ks rfl (Zb0 (s:=[48]) (t:=[49]) (b:=b239) (c:=c239)) ?_
 repeat' first|refine Kz ?_|intro _
 (refine Zac ?_)
 exact ⟨_,⟨by simp,rfl⟩,Zaa⟩
end Go.Proofs.YtciadfpomkdlnaaGreatDoor.Q
