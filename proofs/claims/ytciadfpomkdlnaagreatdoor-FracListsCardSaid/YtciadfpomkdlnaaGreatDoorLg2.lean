/- Walks: the law of powers and sums of lists. -/
import Derived.Test.YtciadfpomkdlnaaGreatDoorLg0
import Derived.Test.YtciadfpomkdlnaaGreatDoorLf8
set_option maxHeartbeats 1000000
namespace Go.Sx
open Go
section
variable {P:Program} {N:Ctx} {w0:World} {e:Env} {As:List Ent} {Q:Exit→Act→World→Prop} {ops:Array Oper} {r:List Oper} {c:Code}
theorem Tri.oldFt (f:PF) (hf:f.p fun b=>w0.heap[b]?) (h:Tri P N w0 c e (.ft f::As) Q):Tri P N w0 c e As Q:=Tri.mk fun a w ha hs=>h.out a w ha (hs.oldFt hf)
theorem TL.oldFt (f:PF) (hf:f.p fun b=>w0.heap[b]?) (h:TL P N w0 ops r e (.ft f::As) Q):TL P N w0 ops r e As Q:=TL.mk fun i hi a w ha hs=>h.out i hi a w ha (hs.oldFt hf)
end
end Go.Sx
namespace Go.Proofs.YtciadfpomkdlnaaGreatDoor.Q
open Go Go.Sx
variable {w0:World} {As:List Ent}
set_option maxRecDepth 100000 in
set_option maxHeartbeats 8000000 in
theorem Zv5 (ht:Tab w0) (he:ErrR w0) (hm:LenR w0) (t:Two02) (hx:(R02d t.x).ok) (hy:(R02d t.y).ok) (ox:DOld w0 t.x) (oy:DOld w0 t.y) {v:Value} (l:List (R01 × R01)) [hr:RdIn As v (R01 × R01) cDD l] (hll:l.length≤9223372036854775807) (hl:∀ r∈l,(R02d r).ok∧DOld w0 r)
  {n:Int} (hn:-9223372036854775808≤n∧n≤9223372036854775807) {m:Nat} (hm16:m≤65535) :
  CallsS Tryz.prog w0 3 [.agg t.cells.toArray,v,.int .i64 n,.int .u16 (m:Int)] As fun u _=>u=.bool true:=by
 refine Zad v fun pv cv ev=>?_
 subst ev
 have hpairs:=fun Bs=>Zqf (w0:=w0) (As:=Bs) t hx hy ox oy
 obtain ⟨⟨a1,a2⟩,⟨d1,d2⟩,⟨⟨x1,p1,k1,l1,z1⟩,⟨x2,p2,k2,l2,z2⟩⟩,⟨⟨y1,p3,k3,l3,z3⟩,⟨y2,p4,k4,l4,z4⟩⟩⟩:=t
 obtain ⟨ox1,ox2⟩:=ox
 simp only at ox1 ox2
 clear oy hy
 replace hpairs:∀ Bs,CallsS Tryz.prog w0 12 [.agg #[.string ⟨a1.toArray⟩,.string ⟨a2.toArray⟩,.string ⟨d1.toArray⟩,.string ⟨d2.toArray⟩,.bool x1,.slice p1 l1.length k1,.int .u16 (z1:Int),.bool x2,.slice p2 l2.length k2,.int .u16 (z2:Int),.bool y1,.slice p3 l3.length k3,.int .u16 (z3:Int),.bool y2,.slice p4 l4.length k4,.int .u16 (z4:Int)]] Bs fun u Cs=>∃ (b:Nat) (L:List FF),L.length=4∧(∀ p∈L,Shrt p.1)∧u=.slice (some ⟨b,0,none⟩) 4 4∧Cs=.ow cFF 39 u L::Bs:=hpairs
 have ux:∀ {Bs:List Ent} [RdIn Bs (.slice p1 l1.length k1) Nat (cN .u16) l1] [RdIn Bs (.slice p2 l2.length k2) Nat (cN .u16) l2],CallsS Tryz.prog w0 17 [.agg #[.bool x1,.slice p1 l1.length k1,.int .u16 (z1:Int),.bool x2,.slice p2 l2.length k2,.int .u16 (z2:Int)]] Bs (FracE 5 Bs) :=
  fun {Bs} i1 i2=>@Zua w0 Bs ⟨⟨x1,.slice p1 l1.length k1,l1,z1⟩,⟨x2,.slice p2 l2.length k2,l2,z2⟩⟩ i1 i2 hx
 clear hx
 obtain ⟨K,hK⟩:∃ K,K=min l.length 40:=⟨_,rfl⟩
 have m1:(if (40:Int) < (l.length:Int) then 40 else (l.length:Int))=(K:Int):=by split<;>omega
 have hKl:K≤l.length:=by omega
 have hK40:K≤40:=by omega
 refine Zab Tryz.func3 rfl Tryz.ntmps3 rfl ?_
 show Tri _ _ _ _ (env0 0 [.agg #[.string ⟨a1.toArray⟩,.string ⟨a2.toArray⟩,.string ⟨d1.toArray⟩,.string ⟨d2.toArray⟩,.bool x1,.slice p1 l1.length k1,.int .u16 (z1:Int),.bool x2,.slice p2 l2.length k2,.int .u16 (z2:Int),.bool y1,.slice p3 l3.length k3,.int .u16 (z3:Int),.bool y2,.slice p4 l4.length k4,.int .u16 (z4:Int)],.slice pv l.length cv,.int .i64 n,.int .u16 (m:Int)]) _ _
 repeat' first|refine Kz ?_|intro _
 rename_i b4
 refine Kt rfl (Zji ht he hm) ?_
 repeat' first|refine Kz ?_|intro _
 rw [m1]
 refine TL.f rfl rfl (Zq1 (hi:=K) rfl (Zb7 rfl) hKl) ?_
 repeat' first|refine Kz ?_|intro _
 have hd1:∀ (b1:Bool) (q1:Option Addr) (c1:Nat) (g1:List Nat) (w1:Nat) (b2:Bool) (q2:Option Addr) (c2:Nat) (g2:List Nat) (w2:Nat),(R02d (⟨b1,q1,c1,g1,w1⟩,⟨b2,q2,c2,g2,w2⟩)).ok→∀ (Bs:List Ent) [i1:RdIn Bs (.slice q1 g1.length c1) Nat (cN .u16) g1] [i2:RdIn Bs (.slice q2 g2.length c2) Nat (cN .u16) g2],
   CallsS Tryz.prog w0 11 [.agg #[.bool b1,.slice q1 g1.length c1,.int .u16 (w1:Int),.bool b2,.slice q2 g2.length c2,.int .u16 (w2:Int)]] Bs (FracE 3 Bs):=by
  intro b1 q1 c1 g1 w1 b2 q2 c2 g2 w2 hk Bs i1 i2
  exact @Zru w0 Bs ⟨⟨b1,.slice q1 g1.length c1,g1,w1⟩,⟨b2,.slice q2 g2.length c2,g2,w2⟩⟩ i1 i2 hk
 refine Tri.midB (fun e' As'=>∃ (lv:Value) (xs:List (List UInt8 × List UInt8)),(xs.length≤40∧(∀ q∈xs,Sm 3 q∧Shrt q)∧(xs=[]→lv=.slice none 0 0))∧e'=[(2,.int .i64 n),(3,.int .u16 (m:Int)),(4,.pointer (some ⟨b4,0,none⟩)),(9,lv)]∧As'=.ow cF 24 lv xs::.cl b4 [.string ⟨a1.toArray⟩,.string ⟨a2.toArray⟩,.string ⟨d1.toArray⟩,.string ⟨d2.toArray⟩,.bool x1,.slice p1 l1.length k1,.int .u16 (z1:Int),.bool x2,.slice p2 l2.length k2,.int .u16 (z2:Int),.bool y1,.slice p3 l3.length k3,.int .u16 (z3:Int),.bool y2,.slice p4 l4.length k4,.int .u16 (z4:Int)] 32::As) ?_ ?_
 ·refine Tri.loop (ι:=Nat × Value × List (List UInt8 × List UInt8)) (fun x=>x.1≤K∧x.2.2.length=x.1∧(∀ q∈x.2.2,Sm 3 q∧Shrt q)∧(x.2.2=[]→x.2.1=.slice none 0 0)) (fun x=>K - x.1)
   (fun x=>[(2,.int .i64 n),(3,.int .u16 (m:Int)),(4,.pointer (some ⟨b4,0,none⟩)),(9,x.2.1),(36,.slice pv K cv),(37,.int .i64 (K:Int)),(38,.int .i64 (x.1:Int))])
   (fun x=>.ow cF 24 x.2.1 x.2.2::.cl b4 [.string ⟨a1.toArray⟩,.string ⟨a2.toArray⟩,.string ⟨d1.toArray⟩,.string ⟨d2.toArray⟩,.bool x1,.slice p1 l1.length k1,.int .u16 (z1:Int),.bool x2,.slice p2 l2.length k2,.int .u16 (z2:Int),.bool y1,.slice p3 l3.length k3,.int .u16 (z3:Int),.bool y2,.slice p4 l4.length k4,.int .u16 (z4:Int)] 32::As) (0,.slice none 0 0,[]) ⟨Nat.zero_le _,rfl,(by intro q hq;cases hq),fun _=>rfl⟩ Zae (Za1 _) ?_
  rintro ⟨k,lv,xs⟩ ⟨hk,hxl,hxs,hx0⟩
  simp only at hk hxl hxs hx0
  show Tri _ _ _ _ [(2,_),(3,_),(4,_),(9,lv),(36,_),(37,_),(38,.int .i64 (k:Int))] (.ow cF _ lv xs::.cl b4 [.string ⟨a1.toArray⟩,.string ⟨a2.toArray⟩,.string ⟨d1.toArray⟩,.string ⟨d2.toArray⟩,.bool x1,.slice p1 l1.length k1,.int .u16 (z1:Int),.bool x2,.slice p2 l2.length k2,.int .u16 (z2:Int),.bool y1,.slice p3 l3.length k3,.int .u16 (z3:Int),.bool y2,.slice p4 l4.length k4,.int .u16 (z4:Int)] 32::As) _
  haveI rdl:∀ Bs [RdIn Bs (.slice pv l.length cv) (R01 × R01) cDD l],RdIn Bs (.slice pv K cv) (R01 × R01) cDD (l.take K):=fun Bs i1=>RdIn.take (h:=i1) hKl
  have htl:(l.take K).length=K:=by rw [List.length_take];omega
  repeat' first|refine Kz ?_|intro _
  (refine Kx (fun hc=>?_) fun hc=>?_)
  ·obtain ⟨d,hd⟩:∃ d,(l.take K)[k]?=some d:=⟨_,List.getElem?_eq_getElem (by omega)⟩
   obtain ⟨hdk,ho1,ho2⟩:=hl d (List.mem_of_mem_take (List.mem_of_getElem? hd))
   obtain ⟨⟨b1,q1,c1,g1,w1⟩,⟨b2,q2,c2,g2,w2⟩⟩:=d
   simp only at ho1 ho2
   repeat' first|refine Kz ?_|intro _
   refine TL.oldFt (rd (cN .u16) (.slice q1 g1.length c1) g1) ho1 (TL.oldFt (rd (cN .u16) (.slice q2 g2.length c2) g2) ho2 ?_)
   refine TL.callv rfl rfl rfl rfl (hd1 b1 q1 c1 g1 w1 b2 q2 c2 g2 w2 hdk _) ?_
   rintro _ _ ⟨r,hrf,rfl,rfl⟩
   repeat' first|refine Kz ?_|intro _
   refine Post.round (k+1,_,xs++[(textI r.num,textI (r.den:Int))]) ⟨by simp only;omega,by simp only [List.length_append,List.length_singleton];omega,?_,by simp⟩ (by simp only;omega) Zae Zaa
   intro q hq
   rcases List.mem_append.1 hq with hq|hq
   ·exact hxs q hq
   ·rw [List.mem_singleton.1 hq]
    exact ⟨Zvy hrf (by decide),Zpc hrf (by decide)⟩
  ·repeat' first|refine Kz ?_|intro _
   exact Post.cut _ _ ⟨lv,xs,⟨by omega,hxs,hx0⟩,rfl,rfl⟩ Zae Zaa
 rintro _ _ ⟨lv,xs,⟨hx40,hxs,hx0⟩,rfl,rfl⟩
 clear hd1 hl
 repeat' first|refine Kz ?_|intro _
 refine TL.callv rfl rfl rfl rfl (hpairs _) ?_
 rintro _ _ ⟨bp,L,hL4,hLs,rfl,rfl⟩
 clear hpairs
 repeat' first|refine Kz ?_|intro _
 refine Tri.midB (fun e' As'=>e'=[(3,.int .u16 (m:Int)),(4,.pointer (some ⟨b4,0,none⟩))]∧As'=.cl b4 [.string ⟨a1.toArray⟩,.string ⟨a2.toArray⟩,.string ⟨d1.toArray⟩,.string ⟨d2.toArray⟩,.bool x1,.slice p1 l1.length k1,.int .u16 (z1:Int),.bool x2,.slice p2 l2.length k2,.int .u16 (z2:Int),.bool y1,.slice p3 l3.length k3,.int .u16 (z3:Int),.bool y2,.slice p4 l4.length k4,.int .u16 (z4:Int)] 32::As) ?_ ?_
 ·refine Tri.loop (ι:=Nat) (fun k=>k≤4) (fun k=>4 - k)
   (fun k=>[(2,.int .i64 n),(3,.int .u16 (m:Int)),(4,.pointer (some ⟨b4,0,none⟩)),(9,lv),(49,.slice (some ⟨bp,0,none⟩) 4 4),(50,.int .i64 4),(51,.int .i64 (k:Int))])
   (fun _=>.ow cFF 39 (.slice (some ⟨bp,0,none⟩) 4 4) L::.ow cF 24 lv xs::.cl b4 [.string ⟨a1.toArray⟩,.string ⟨a2.toArray⟩,.string ⟨d1.toArray⟩,.string ⟨d2.toArray⟩,.bool x1,.slice p1 l1.length k1,.int .u16 (z1:Int),.bool x2,.slice p2 l2.length k2,.int .u16 (z2:Int),.bool y1,.slice p3 l3.length k3,.int .u16 (z3:Int),.bool y2,.slice p4 l4.length k4,.int .u16 (z4:Int)] 32::As) 0 (by omega) Zae Zaa ?_
  intro k hk4
  repeat' first|refine Kz ?_|intro _
  (refine Kx (fun hc=>?_) fun hc=>?_)
  ·obtain ⟨⟨⟨a,b⟩,⟨c,d⟩⟩,hp⟩:∃ p,L[k]?=some p:=⟨_,List.getElem?_eq_getElem (by omega)⟩
   obtain ⟨ha,hb⟩:=hLs _ (List.mem_of_getElem? hp)
   simp only at ha hb
   repeat' first|refine Kz ?_|intro _
   rename_i b13
   obtain ⟨n6,hn6,hn6r⟩:∃ n6,IntKind.i64.wrap ((IntKind.u64.wrap n).tmod 6)=n6∧IR .i64 n6:=⟨_,rfl,IR.wrap⟩
   rw [hn6]
   replace hn6r:-9223372036854775808≤n6∧n6≤9223372036854775807:=hn6r
   clear hn6
   refine Tri.midB (fun e' As'=>e'=[(2,.int .i64 n),(3,.int .u16 (m:Int)),(4,.pointer (some ⟨b4,0,none⟩)),(9,lv),(13,.pointer (some ⟨b13,0,none⟩)),(49,.slice (some ⟨bp,0,none⟩) 4 4),(50,.int .i64 4),(51,.int .i64 (k:Int))]∧As'=.cl b13 [.string ⟨a.toArray⟩,.string ⟨b.toArray⟩,.string ⟨c.toArray⟩,.string ⟨d.toArray⟩] 39::.ow cFF 39 (.slice (some ⟨bp,0,none⟩) 4 4) L::.ow cF 24 lv xs::.cl b4 [.string ⟨a1.toArray⟩,.string ⟨a2.toArray⟩,.string ⟨d1.toArray⟩,.string ⟨d2.toArray⟩,.bool x1,.slice p1 l1.length k1,.int .u16 (z1:Int),.bool x2,.slice p2 l2.length k2,.int .u16 (z2:Int),.bool y1,.slice p3 l3.length k3,.int .u16 (z3:Int),.bool y2,.slice p4 l4.length k4,.int .u16 (z4:Int)] 32::As) ?_ ?_
   ·refine Tri.loop (ι:=Nat) (fun j=>j≤2) (fun j=>2 - j)
     (fun j=>[(2,.int .i64 n),(3,.int .u16 (m:Int)),(4,.pointer (some ⟨b4,0,none⟩)),(9,lv),(13,.pointer (some ⟨b13,0,none⟩)),(49,.slice (some ⟨bp,0,none⟩) 4 4),(50,.int .i64 4),(51,.int .i64 (k:Int)),(60,.agg #[.int .i64 n,.int .i64 n6]),(61,.int .i64 (j:Int))])
     (fun _=>.cl b13 [.string ⟨a.toArray⟩,.string ⟨b.toArray⟩,.string ⟨c.toArray⟩,.string ⟨d.toArray⟩] 39::.ow cFF 39 (.slice (some ⟨bp,0,none⟩) 4 4) L::.ow cF 24 lv xs::.cl b4 [.string ⟨a1.toArray⟩,.string ⟨a2.toArray⟩,.string ⟨d1.toArray⟩,.string ⟨d2.toArray⟩,.bool x1,.slice p1 l1.length k1,.int .u16 (z1:Int),.bool x2,.slice p2 l2.length k2,.int .u16 (z2:Int),.bool y1,.slice p3 l3.length k3,.int .u16 (z3:Int),.bool y2,.slice p4 l4.length k4,.int .u16 (z4:Int)] 32::As) 0 (by omega) Zae Zaa ?_
    intro j hj2
    repeat' first|refine Kz ?_|intro _
    (refine Kx (fun hc=>?_) fun hc=>?_)
    ·iterate 4 refine Stp.h ?_
     refine Tri.cut (fun e' As'=>∃ q:Int,(-9223372036854775808≤q∧q≤9223372036854775807)∧e'=[(2,.int .i64 n),(3,.int .u16 (m:Int)),(4,.pointer (some ⟨b4,0,none⟩)),(9,lv),(13,.pointer (some ⟨b13,0,none⟩)),(49,.slice (some ⟨bp,0,none⟩) 4 4),(50,.int .i64 4),(51,.int .i64 (k:Int)),(15,.int .i64 q),(60,.agg #[.int .i64 n,.int .i64 n6]),(61,.int .i64 (j:Int))]∧As'=.cl b13 [.string ⟨a.toArray⟩,.string ⟨b.toArray⟩,.string ⟨c.toArray⟩,.string ⟨d.toArray⟩] 39::.ow cFF 39 (.slice (some ⟨bp,0,none⟩) 4 4) L::.ow cF 24 lv xs::.cl b4 [.string ⟨a1.toArray⟩,.string ⟨a2.toArray⟩,.string ⟨d1.toArray⟩,.string ⟨d2.toArray⟩,.bool x1,.slice p1 l1.length k1,.int .u16 (z1:Int),.bool x2,.slice p2 l2.length k2,.int .u16 (z2:Int),.bool y1,.slice p3 l3.length k3,.int .u16 (z3:Int),.bool y2,.slice p4 l4.length k4,.int .u16 (z4:Int)] 32::As) ?_ ?_
     ·obtain rfl|rfl:j=0∨j=1:=by omega
      ·repeat' first|refine Kz ?_|intro _
       exact Post.cut _ _ ⟨n,hn,rfl,rfl⟩ Zae Zaa
      ·repeat' first|refine Kz ?_|intro _
       exact Post.cut _ _ ⟨n6,hn6r,rfl,rfl⟩ Zae Zaa
     rintro _ _ ⟨q0,hq0,rfl,rfl⟩
     refine Tri.cut (fun e' As'=>∃ q:Int,(-9223372036854775808≤q∧q≤9223372036854775807)∧e'=[(2,.int .i64 n),(3,.int .u16 (m:Int)),(4,.pointer (some ⟨b4,0,none⟩)),(9,lv),(13,.pointer (some ⟨b13,0,none⟩)),(49,.slice (some ⟨bp,0,none⟩) 4 4),(50,.int .i64 4),(51,.int .i64 (k:Int)),(15,.int .i64 q),(60,.agg #[.int .i64 n,.int .i64 n6]),(61,.int .i64 (j:Int))]∧As'=.cl b13 [.string ⟨a.toArray⟩,.string ⟨b.toArray⟩,.string ⟨c.toArray⟩,.string ⟨d.toArray⟩] 39::.ow cFF 39 (.slice (some ⟨bp,0,none⟩) 4 4) L::.ow cF 24 lv xs::.cl b4 [.string ⟨a1.toArray⟩,.string ⟨a2.toArray⟩,.string ⟨d1.toArray⟩,.string ⟨d2.toArray⟩,.bool x1,.slice p1 l1.length k1,.int .u16 (z1:Int),.bool x2,.slice p2 l2.length k2,.int .u16 (z2:Int),.bool y1,.slice p3 l3.length k3,.int .u16 (z3:Int),.bool y2,.slice p4 l4.length k4,.int .u16 (z4:Int)] 32::As) ?_ ?_
     ·repeat' first|refine Kz ?_|intro _
      (refine Kx (fun hc=>?_) fun hc=>?_)
      ·repeat' first|refine Kz ?_|intro _
       exact Post.cut _ _ ⟨if (5:Int) < q0 then 5 else q0,by split<;>omega,rfl,rfl⟩ Zae Zaa
      ·repeat' first|refine Kz ?_|intro _
       exact Post.cut _ _ ⟨q0,hq0,rfl,rfl⟩ Zae Zaa
     rintro _ _ ⟨q,hq,rfl,rfl⟩
     repeat' first|refine Kz ?_|intro _
     refine Ks rfl (Zkq ht (a:=a) (b:=b) (n:=q) (by omega) (by omega) (by omega) (by omega)) ?_
     have hp2:=fun Bs=>Zuq (w0:=w0) (As:=Bs) (a:=a) (b:=b) (n:=q) (by omega) (by omega)
     generalize powO a b q=O at hp2 ⊢
     obtain ⟨o1,o2,o3⟩:=O
     simp only at hp2 ⊢
     repeat' first|refine Kz ?_|intro _
     refine Ks rfl (hp2 _) ?_
     have e1:o1=o1∧o2=o2:=⟨rfl,rfl⟩
     have e2:o3=o3:=rfl
     repeat' first|refine Kz ?_|intro _
     refine TL.f rfl rfl (Zi4 rfl rfl) ?_
     repeat' first|refine Kz ?_|intro _
     exact Post.round (j+1) (by omega) (by omega) Zae Zaa
    ·repeat' first|refine Kz ?_|intro _
     exact Post.cut _ _ ⟨rfl,rfl⟩ Zae Zaa
   rintro _ _ ⟨rfl,rfl⟩
   have hall:∀ p∈xs++[(a,b)],p.1.length≤1000000000∧p.2.length≤1000000000:=by
    intro p hp
    rcases List.mem_append.1 hp with hp|hp
    ·have:=(hxs p hp).2;unfold Shrt at this;omega
    ·rw [List.mem_singleton.1 hp];exact ⟨by simp only;omega,by simp only;omega⟩
   have hlen:(xs++[(a,b)]).length≤1000000000:=by rw [List.length_append,List.length_singleton];omega
   have hsF:=fun {Bs} (va:Value) [i:RdIn Bs va (List UInt8 × List UInt8) cF (xs++[(a,b)])]=>Zh3 (w0:=w0) (As:=Bs) (v:=va) (l:=xs++[(a,b)]) ht hlen hall
   have hsR:=fun {Bs} (va:Value) [i:RdIn Bs va (List UInt8 × List UInt8) cF (xs++[(a,b)])]=>Zoo (w0:=w0) (As:=Bs) (v:=va) (l:=xs++[(a,b)]) hlen hall (fun _=>Zro (m:=3) (fun p hp=>(hxs p hp).1) (by omega))
   generalize sumO (xs++[(a,b)])=SO at hsF hsR
   obtain ⟨s1,s2,s3⟩:=SO
   simp only at hsF hsR
   refine Stp.h ?_
   refine Tri.cut (fun e' As'=>∃ b20:Nat,e'=[(2,.int .i64 n),(3,.int .u16 (m:Int)),(4,.pointer (some ⟨b4,0,none⟩)),(9,lv),(13,.pointer (some ⟨b13,0,none⟩)),(49,.slice (some ⟨bp,0,none⟩) 4 4),(50,.int .i64 4),(51,.int .i64 (k:Int)),(20,.pointer (some ⟨b20,0,none⟩)),(21,.int .i64 s3)]∧As'=.cl b20 [.string ⟨s1.toArray⟩,.string ⟨s2.toArray⟩] 24::.cl b13 [.string ⟨a.toArray⟩,.string ⟨b.toArray⟩,.string ⟨c.toArray⟩,.string ⟨d.toArray⟩] 39::.ow cFF 39 (.slice (some ⟨bp,0,none⟩) 4 4) L::.ow cF 24 lv xs::.cl b4 [.string ⟨a1.toArray⟩,.string ⟨a2.toArray⟩,.string ⟨d1.toArray⟩,.string ⟨d2.toArray⟩,.bool x1,.slice p1 l1.length k1,.int .u16 (z1:Int),.bool x2,.slice p2 l2.length k2,.int .u16 (z2:Int),.bool y1,.slice p3 l3.length k3,.int .u16 (z3:Int),.bool y2,.slice p4 l4.length k4,.int .u16 (z4:Int)] 32::As) ?_ ?_
   ·by_cases hx:xs=[]
    ·obtain rfl:=hx0 hx
     subst hx
     repeat' first|refine Kz ?_|intro _
     rename_i va
     refine Ks rfl (hsF va) ?_
     repeat' first|refine Kz ?_|intro _
     exact Post.cut _ _ ⟨_,rfl,rfl⟩ Zae (Ents.trans (Za1 cF (T:=24)) Zaa)
    ·have hpos:0 < xs.length:=List.length_pos_iff.2 hx
     refine Tri.open lv hx ?_
     rintro bl ol cl hcl rfl
     iterate 5 (first|(show TL _ _ _ _ (_::_) _ _ _;first|refine Zw9 ?_|(refine Zxb ?_;intro _))|refine Stp.h ?_)
     refine Zml rfl rfl (Zhg rfl rfl rfl (by omega) (by omega) hpos) ?_
     rintro va _ (⟨rfl,rfl⟩|⟨bn,cn,rfl,rfl⟩)
     ·refine Ks rfl (hsF _) ?_
      repeat' first|refine Kz ?_|intro _
      refine Post.cut _ _ ⟨_,rfl,rfl⟩ Zae ?_
      refine Ents.trans (Zmx (xs:=xs) (ys:=[(a,b)]) (some ⟨bl,ol,none⟩) cl xs.length (xs.length+1) rfl (by rw [List.length_append];rfl)) ?_
      (exact Zaa)
     ·refine Ks rfl (hsF _) ?_
      repeat' first|refine Kz ?_|intro _
      exact Post.cut _ _ ⟨_,rfl,rfl⟩ Zae Zaa
   rintro _ _ ⟨b20,rfl,rfl⟩
   refine Tri.cut (fun e' As'=>∃ b22:Nat,e'=[(2,.int .i64 n),(3,.int .u16 (m:Int)),(4,.pointer (some ⟨b4,0,none⟩)),(9,lv),(13,.pointer (some ⟨b13,0,none⟩)),(49,.slice (some ⟨bp,0,none⟩) 4 4),(50,.int .i64 4),(51,.int .i64 (k:Int)),(20,.pointer (some ⟨b20,0,none⟩)),(21,.int .i64 s3),(22,.pointer (some ⟨b22,0,none⟩)),(23,.int .i64 s3)]∧As'=.cl b22 [.string ⟨s1.toArray⟩,.string ⟨s2.toArray⟩] 24::.cl b20 [.string ⟨s1.toArray⟩,.string ⟨s2.toArray⟩] 24::.cl b13 [.string ⟨a.toArray⟩,.string ⟨b.toArray⟩,.string ⟨c.toArray⟩,.string ⟨d.toArray⟩] 39::.ow cFF 39 (.slice (some ⟨bp,0,none⟩) 4 4) L::.ow cF 24 lv xs::.cl b4 [.string ⟨a1.toArray⟩,.string ⟨a2.toArray⟩,.string ⟨d1.toArray⟩,.string ⟨d2.toArray⟩,.bool x1,.slice p1 l1.length k1,.int .u16 (z1:Int),.bool x2,.slice p2 l2.length k2,.int .u16 (z2:Int),.bool y1,.slice p3 l3.length k3,.int .u16 (z3:Int),.bool y2,.slice p4 l4.length k4,.int .u16 (z4:Int)] 32::As) ?_ ?_
   ·by_cases hx:xs=[]
    ·obtain rfl:=hx0 hx
     subst hx
     repeat' first|refine Kz ?_|intro _
     rename_i va
     refine Ks rfl (hsR va) ?_
     repeat' first|refine Kz ?_|intro _
     exact Post.cut _ _ ⟨_,rfl,rfl⟩ Zae (Ents.trans (Za1 cF (T:=24)) Zaa)
    ·have hpos:0 < xs.length:=List.length_pos_iff.2 hx
     refine Tri.open lv hx ?_
     rintro bl ol cl hcl rfl
     iterate 5 (first|(show TL _ _ _ _ (_::_) _ _ _;first|refine Zw9 ?_|(refine Zxb ?_;intro _))|refine Stp.h ?_)
     refine Zml rfl rfl (Zhg rfl rfl rfl (by omega) (by omega) hpos) ?_
     rintro va _ (⟨rfl,rfl⟩|⟨bn,cn,rfl,rfl⟩)
     ·refine Ks rfl (hsR _) ?_
      repeat' first|refine Kz ?_|intro _
      refine Post.cut _ _ ⟨_,rfl,rfl⟩ Zae ?_
      refine Ents.trans (Zmx (xs:=xs) (ys:=[(a,b)]) (some ⟨bl,ol,none⟩) cl xs.length (xs.length+1) rfl (by rw [List.length_append];rfl)) ?_
      (exact Zaa)
     ·refine Ks rfl (hsR _) ?_
      repeat' first|refine Kz ?_|intro _
      exact Post.cut _ _ ⟨_,rfl,rfl⟩ Zae Zaa
   rintro _ _ ⟨b22,rfl,rfl⟩
   have e1:s1=s1∧s2=s2:=⟨rfl,rfl⟩
   have e2:s3=s3:=rfl
   repeat' first|refine Kz ?_|intro _
   refine TL.f rfl rfl (Zi4 rfl rfl) ?_
   repeat' first|refine Kz ?_|intro _
   exact Post.round (k+1) (by omega) (by omega) Zae Zaa
  ·repeat' first|refine Kz ?_|intro _
   exact Post.cut _ _ ⟨rfl,rfl⟩ Zae Zaa
 rintro _ _ ⟨rfl,rfl⟩
 obtain ⟨M,hM,hM4⟩:∃ M:Nat,(m:Int) % 400=(M:Int)∧M≤399:=⟨m % 400,by omega,by omega⟩
 repeat' first|refine Kz ?_|intro _
 rw [hM]
 repeat' first|refine Kz ?_|intro _
 rename_i vt
 rw [show ((List.replicate M (([],[]):List UInt8 × List UInt8)).length:Int)=(M:Int) from by rw [List.length_replicate]]
 refine Tri.midB (fun e' As'=>∃ ys:List (List UInt8 × List UInt8),(ys.length=M∧∀ q∈ys,Sm 5 q∧Shrt q)∧e'=[(24,vt)]∧As'=.ow cF 24 vt ys::As) ?_ ?_
 ·refine Tri.oldFt (rd (cN .u16) (.slice p1 l1.length k1) l1) ox1 (Tri.oldFt (rd (cN .u16) (.slice p2 l2.length k2) l2) ox2 ?_)
  refine Tri.loop (ι:=Nat × List (List UInt8 × List UInt8)) (fun x=>x.1≤M∧x.2.length=x.1∧∀ q∈x.2,Sm 5 q∧Shrt q) (fun x=>M - x.1) (fun x=>[(4,.pointer (some ⟨b4,0,none⟩)),(24,vt),(131,.int .i64 (M:Int)),(132,.int .i64 (x.1:Int))])
   (fun x=>.ow cF 24 vt (x.2++List.replicate (M - x.1) (([],[]):List UInt8 × List UInt8))::.cl b4 [.string ⟨a1.toArray⟩,.string ⟨a2.toArray⟩,.string ⟨d1.toArray⟩,.string ⟨d2.toArray⟩,.bool x1,.slice p1 l1.length k1,.int .u16 (z1:Int),.bool x2,.slice p2 l2.length k2,.int .u16 (z2:Int),.bool y1,.slice p3 l3.length k3,.int .u16 (z3:Int),.bool y2,.slice p4 l4.length k4,.int .u16 (z4:Int)] 32::.ft (rd (cN .u16) (.slice p1 l1.length k1) l1)::.ft (rd (cN .u16) (.slice p2 l2.length k2) l2)::As) (0,[]) ⟨Nat.zero_le _,rfl,fun q hq=>(by cases hq)⟩ Zae
   (by show Ents _ (.ow cF 24 vt ([]++List.replicate (M - 0) (([],[]):List UInt8 × List UInt8))::.cl b4 [.string ⟨a1.toArray⟩,.string ⟨a2.toArray⟩,.string ⟨d1.toArray⟩,.string ⟨d2.toArray⟩,.bool x1,.slice p1 l1.length k1,.int .u16 (z1:Int),.bool x2,.slice p2 l2.length k2,.int .u16 (z2:Int),.bool y1,.slice p3 l3.length k3,.int .u16 (z3:Int),.bool y2,.slice p4 l4.length k4,.int .u16 (z4:Int)] 32::.ft (rd (cN .u16) (.slice p1 l1.length k1) l1)::.ft (rd (cN .u16) (.slice p2 l2.length k2) l2)::As);rw [List.nil_append,Nat.sub_zero];(exact Zaa)) ?_
  rintro ⟨i,ys⟩ ⟨hi,hyl,hys⟩
  simp only at hi hyl hys
  show Tri _ _ _ _ [(4,_),(24,vt),(131,.int .i64 (M:Int)),(132,.int .i64 (i:Int))] (.ow cF _ vt (ys++List.replicate (M - i) (([],[]):List UInt8 × List UInt8))::.cl b4 [.string ⟨a1.toArray⟩,.string ⟨a2.toArray⟩,.string ⟨d1.toArray⟩,.string ⟨d2.toArray⟩,.bool x1,.slice p1 l1.length k1,.int .u16 (z1:Int),.bool x2,.slice p2 l2.length k2,.int .u16 (z2:Int),.bool y1,.slice p3 l3.length k3,.int .u16 (z3:Int),.bool y2,.slice p4 l4.length k4,.int .u16 (z4:Int)] 32::.ft (rd (cN .u16) (.slice p1 l1.length k1) l1)::.ft (rd (cN .u16) (.slice p2 l2.length k2) l2)::As) _
  by_cases hlt:(i:Int) < M
  ·have hset:∀ r:List UInt8 × List UInt8,(ys++List.replicate (M - i) (([],[]):List UInt8 × List UInt8)).set i r=(ys++[r])++List.replicate (M - (i+1)) (([],[]):List UInt8 × List UInt8):=fun r=>by
    have h:=Zpd (A:=ys) (z:=(([],[]):List UInt8 × List UInt8)) (r:=r) (n:=M) (by omega)
    rwa [hyl] at h
   have hXl:(ys++List.replicate (M - i) (([],[]):List UInt8 × List UInt8)).length=M:=by rw [List.length_append,List.length_replicate,hyl];omega
   generalize ys++List.replicate (M - i) (([],[]):List UInt8 × List UInt8)=X at hset hXl ⊢
   obtain ⟨y0,hy0⟩:∃ y0,X[i]?=some y0:=⟨_,List.getElem?_eq_getElem (by omega)⟩
   repeat' first|refine Kz ?_|intro _
   refine TL.callv rfl rfl rfl rfl ux ?_
   rintro _ _ ⟨r,hrf,rfl,rfl⟩
   have hone:oneB [Value.string ⟨(textI r.num).toArray⟩,.string ⟨(textI (r.den:Int)).toArray⟩]=true:=by rfl
   have hnew:∀ q∈ys++[(textI r.num,textI (r.den:Int))],Sm 5 q∧Shrt q:=by
    intro q hq
    rcases List.mem_append.1 hq with hq|hq
    ·exact hys q hq
    ·rw [List.mem_singleton.1 hq]
     exact ⟨Zvy hrf (by decide),Zpc hrf (by decide)⟩
   generalize textI r.num=tn at hone hnew ⊢
   generalize textI (r.den:Int)=td at hone hnew ⊢
   repeat' first|refine Kz ?_|intro _
   refine TL.u rfl (Zfm rfl rfl (by rfl) hone (by rfl) hy0 (by rfl) (by simp only [setAll,List.take_zero,List.drop_succ_cons,List.drop_nil,List.length_cons,List.length_nil,List.nil_append,List.append_nil,Nat.zero_add,Nat.reduceAdd];exact rfl)) ?_
   repeat' first|refine Kz ?_|intro _
   rw [hset]
   exact Post.round (i+1,ys++[(tn,td)]) ⟨by simp only;omega,by simp only [List.length_append,List.length_singleton];omega,hnew⟩ (by simp only;omega) Zae Zaa
  ·have him:i=M:=by omega
   rw [him,Nat.sub_self,List.replicate_zero,List.append_nil]
   repeat' first|refine Kz ?_|intro _
   exact Post.cut _ _ ⟨ys,⟨by omega,hys⟩,rfl,rfl⟩ Zae Zaa
 rintro _ _ ⟨ys,⟨hyl,hys⟩,rfl,rfl⟩
 have hall:∀ p∈ys,p.1.length≤1000000000∧p.2.length≤1000000000:=by
  intro p hp
  have:=(hys p hp).2;unfold Shrt at this;omega
 repeat' first|refine Kz ?_|intro _
 refine Ks rfl (Zh3 (v:=vt) (l:=ys) ht (by omega) hall) ?_
 have hsR:=fun Bs [i:RdIn Bs vt (List UInt8 × List UInt8) cF ys]=>Zoo (w0:=w0) (As:=Bs) (v:=vt) (l:=ys) (by omega) hall (fun h=>Zp4 (m:=5) (fun p hp=>(hys p hp).1) (by omega))
 generalize sumO ys=SO at hsR ⊢
 obtain ⟨s1,s2,s3⟩:=SO
 simp only at hsR ⊢
 repeat' first|refine Kz ?_|intro _
 refine Ks rfl (hsR _) ?_
 have e1:s1=s1∧s2=s2:=⟨rfl,rfl⟩
 have e2:s3=s3:=rfl
 repeat' first|refine Kz ?_|intro _
 refine TL.f rfl rfl (Zi6 rfl rfl) ?_
 repeat' first|refine Kz ?_|intro _
 (refine Zac ?_)
 exact ⟨[],by rw [decide_eq_true e2],Zc7 inferInstance⟩
end Go.Proofs.YtciadfpomkdlnaaGreatDoor.Q
