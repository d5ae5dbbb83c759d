/- Pairs of fractions of any texts and of drafts; facts about memory that stood before the call. -/
import Derived.Test.YtciadfpomkdlnaaGreatDoorFp2
import Derived.Test.YtciadfpomkdlnaaGreatDoorFp4
set_option maxHeartbeats 1000000
namespace Go.Sx
open Go
section
variable {P:Program} {N:Ctx} {w0:World} {e:Env} {As:List Ent} {Q:Exit→Act→World→Prop} {ops:Array Oper} {r:List Oper}
theorem St.oldFt {w:World} {f:PF} (h:St w0 w As) (hf:f.p fun b=>w0.heap[b]?):St w0 w (.ft f::As):=by
 obtain ⟨G,bs,g⟩:=h
 refine ⟨G,bs,g.size,g.os,g.tape,g.output,g.fz,g.old,⟨f.mono _ _ (fun b o hb=>?_) hf,g.sat⟩,g.nd,g.ap⟩
 rw [g.old b (Array.getElem?_eq_some_iff.1 hb).1];exact hb
theorem CallsS.oldFt {f:FuncId} {args:List Value} {K:Value→List Ent→Prop} (f':PF) (hf:f'.p fun b=>w0.heap[b]?) (h:CallsS P w0 f args (.ft f'::As) K):CallsS P w0 f args As K :=
 CallsS.mk fun w hs=>h.out w (hs.oldFt hf)
end
structure R01 where
 b:Bool
 p:Option Addr
 c:Nat
 gs:List Nat
 z:Nat
def R01.d (r:R01):D01:=⟨r.b,.slice r.p r.gs.length r.c,r.gs,r.z⟩
def R02d (r:R01 × R01):D02:=⟨r.1.d,r.2.d⟩
def DOld (w:World) (r:R01 × R01):Prop:=Rdb (fun b=>w.heap[b]?) (cN .u16) (.slice r.1.p r.1.gs.length r.1.c) r.1.gs∧Rdb (fun b=>w.heap[b]?) (cN .u16) (.slice r.2.p r.2.gs.length r.2.c) r.2.gs
def cDD:Cod (R01 × R01):=⟨6,fun r=>[.bool r.1.b,.slice r.1.p r.1.gs.length r.1.c,.int .u16 (r.1.z:Int),.bool r.2.b,.slice r.2.p r.2.gs.length r.2.c,.int .u16 (r.2.z:Int)],fun _=>rfl,fun r v hv=>by
 simp only [List.mem_cons,List.not_mem_nil,or_false] at hv
 rcases hv with rfl|rfl|rfl|rfl|rfl|rfl<;>rfl⟩
structure Two02 where
 a:List UInt8 × List UInt8
 b:List UInt8 × List UInt8
 x:R01 × R01
 y:R01 × R01
def Two02.cells (t:Two02):List Value:=.string ⟨t.a.1.toArray⟩::.string ⟨t.a.2.toArray⟩::.string ⟨t.b.1.toArray⟩::.string ⟨t.b.2.toArray⟩::(cDD.enc t.x++cDD.enc t.y)
abbrev FF:=(List UInt8 × List UInt8) × (List UInt8 × List UInt8)
def cFF:Cod FF:=⟨4,fun p=>[.string ⟨p.1.1.toArray⟩,.string ⟨p.1.2.toArray⟩,.string ⟨p.2.1.toArray⟩,.string ⟨p.2.2.toArray⟩],fun _=>rfl,fun p v hv=>by
 simp only [List.mem_cons,List.not_mem_nil,or_false] at hv
 rcases hv with rfl|rfl|rfl|rfl<;>rfl⟩
instance {a b c d:List UInt8}:EncL cFF ((a,b),(c,d)) [.string ⟨a.toArray⟩,.string ⟨b.toArray⟩,.string ⟨c.toArray⟩,.string ⟨d.toArray⟩]:=⟨rfl⟩
instance {a b c d:List UInt8}:DecL cFF [.string ⟨a.toArray⟩,.string ⟨b.toArray⟩,.string ⟨c.toArray⟩,.string ⟨d.toArray⟩] ((a,b),(c,d)):=⟨rfl⟩
def Shrt (p:List UInt8 × List UInt8):Prop:=p.1.length≤620∧p.2.length≤620
theorem Zpc {r:Rat} {k:Nat} (h:Fit k r) (hk:k≤600):Shrt (textI r.num,textI (r.den:Int)) :=
 ⟨by have:=Zc8 (z:=r.num) (k:=k) h.1;simp only;omega,by have:=Zc8 (z:=(r.den:Int)) (k:=k) (by rw [Int.natAbs_natCast];exact h.2);simp only;omega⟩
def Sm (k:Nat) (p:List UInt8 × List UInt8):Prop:=∀ x,readF p.1 p.2=some x→Fit k x
end Go.Sx
namespace Go.Proofs.YtciadfpomkdlnaaGreatDoor.Q
open Go Go.Sx
theorem Zlx:∀ {l1 l2:List (List UInt8 × List UInt8)} {xs:List Rat},readL (l1++l2)=some xs→∃ a b,xs=a++b∧readL l1=some a∧readL l2=some b
 | [],l2,xs,h=>⟨[],xs,rfl,rfl,h⟩
 | q :: l1,l2,xs,h=>by
  rw [List.cons_append,readL] at h
  cases hq:readF q.1 q.2 with
  | none=>rw [hq] at h;cases h
  | some y =>
   cases hl:readL (l1++l2) with
   | none=>rw [hq,hl] at h;cases h
   | some ys =>
    rw [hq,hl] at h
    cases h
    obtain ⟨a,b,rfl,h1,h2⟩:=Zlx hl
    exact ⟨y::a,b,rfl,by rw [readL,hq,h1],h2⟩
theorem Zlr {m:Nat}:∀ {l:List (List UInt8 × List UInt8)} {xs:List Rat} {a:Nat} {s:Rat},(∀ p∈l,Sm m p)→readL l=some xs→Fit a s→Fit (a+(m+1) * l.length) (sumQ s xs)
 | [],xs,a,s,_,h,hs=>by
  cases h
  rw [List.length_nil,Nat.mul_zero];exact hs
 | q :: l,xs,a,s,hm,h,hs=>by
  rw [readL] at h
  cases hq:readF q.1 q.2 with
  | none=>rw [hq] at h;cases h
  | some y =>
   cases hl:readL l with
   | none=>rw [hq,hl] at h;cases h
   | some ys =>
    rw [hq,hl] at h
    cases h
    have h1:Fit (a+m+1) (s+y):=hs.add (hm q (List.mem_cons_self ..) y hq)
    have h2:=Zlr (fun p hp=>hm p (List.mem_cons_of_mem _ hp)) hl h1
    rw [List.length_cons,Nat.mul_succ]
    refine (show Fit _ (sumQ (s+y) ys) from h2).mono (by omega)
theorem Zk2:Fit 1 (0:Rat):=Fit.of (by decide) (by decide) (by decide)
theorem Zro {m:Nat} {l:List (List UInt8 × List UInt8)} {q:List UInt8 × List UInt8} (hl:∀ p∈l,Sm m p) (h:(m+1) * l.length≤1000):∀ k xs,readL ((l++[q]).take k)=some xs→Fit 2000 (sumQ 0 xs):=by
 intro k xs hx
 rcases Nat.lt_or_ge l.length k with hk|hk
 ·rw [List.take_of_length_le (by rw [List.length_append];exact hk)] at hx
  obtain ⟨a,b,rfl,h1,h2⟩:=Zlx hx
  have h3:=Zlr hl h1 Zk2
  have h4:=Zlr (l:=[q]) (m:=600) (fun p hp x hx=>by rw [List.mem_singleton.1 hp] at hx;exact (Zh7 hx).1) h2 h3
  rw [show sumQ (sumQ 0 a) b=sumQ 0 (a++b) from by unfold sumQ;rw [List.foldl_append]] at h4
  exact h4.mono (by rw [List.length_singleton];omega)
 ·rw [List.take_append_of_le_length hk] at hx
  have h3:=Zlr (fun p hp=>hl p (List.mem_of_mem_take hp)) hx Zk2
  refine h3.mono ?_
  have:(m+1) * (l.take k).length≤(m+1) * l.length:=Nat.mul_le_mul_left _ (by rw [List.length_take];omega)
  omega
theorem Zp4 {m:Nat} {l:List (List UInt8 × List UInt8)} (hl:∀ p∈l,Sm m p) (h:(m+1) * l.length≤1900):∀ k xs,readL (l.take k)=some xs→Fit 2000 (sumQ 0 xs):=by
 intro k xs hx
 have h3:=Zlr (fun p hp=>hl p (List.mem_of_mem_take hp)) hx Zk2
 refine h3.mono ?_
 have:(m+1) * (l.take k).length≤(m+1) * l.length:=Nat.mul_le_mul_left _ (by rw [List.length_take];omega)
 omega
theorem Zvy {m:Nat} {r:Rat} (h:Fit m r) (h6:m≤600):Sm m (tN r,tD r):=fun x hx=>by
 rw [(h.mono h6).rd] at hx
 cases hx;exact h
end Go.Proofs.YtciadfpomkdlnaaGreatDoor.Q
namespace Go.Proofs.YtciadfpomkdlnaaGreatDoor
open Go Go.Sx
variable {w0:World} {As:List Ent}
theorem Zpk {a b:List UInt8}:CQ Tryz.prog w0 63 [.agg #[.string ⟨a.toArray⟩,.string ⟨b.toArray⟩]] As (.agg #[.string ⟨(a.take (min a.length 620)).toArray⟩,.string ⟨(b.take (min b.length 620)).toArray⟩]):=by
 have m1:(if (620:Int) < (a.length:Int) then 620 else (a.length:Int))=((min a.length 620:Nat):Int):=by split<;>omega
 have m2:(if (620:Int) < (b.length:Int) then 620 else (b.length:Int))=((min b.length 620:Nat):Int):=by split<;>omega
 refine Zab Tryz.func63 rfl Tryz.ntmps63 rfl ?_
 repeat' first|refine Kz ?_|intro _
 rename_i b1 b2
 refine Zbg [.cl b1 [.string ⟨a.toArray⟩,.string ⟨b.toArray⟩] 24] [] (.take 0 (.take 1 (.take 2 (.take 3 (.take 4 (.take 5 (.take 6 (.take 7 (.take 8 (.take 9 (.take 10 (.take 11 (.take 12 (.take 13 (.take 14 (.all [(15,.done)])))))))))))))))) ?_
 repeat' first|refine Kf ?_|intro _|constructor
 rw [m1]
 refine TT.take rfl rfl rfl (Zdt (hi:=min a.length 620) rfl (Zb7 rfl) (by omega)) ?_
 repeat' first|refine Kf ?_|intro _|constructor
 rw [m2]
 refine TT.take rfl rfl rfl (Zdt (hi:=min b.length 620) rfl (Zb7 rfl) (by omega)) ?_
 repeat' first|refine Kf ?_|intro _|constructor
 exact Kv
set_option maxRecDepth 100000 in
set_option maxHeartbeats 8000000 in
theorem Zqf (t:Two02) (hx:(R02d t.x).ok) (hy:(R02d t.y).ok) (ox:DOld w0 t.x) (oy:DOld w0 t.y) :
  CallsS Tryz.prog w0 12 [.agg t.cells.toArray] As fun u Bs=>∃ (b:Nat) (L:List FF),L.length=4∧(∀ p∈L,Shrt p.1)∧u=.slice (some ⟨b,0,none⟩) 4 4∧Bs=.ow cFF 39 u L::As:=by
 obtain ⟨⟨a1,a2⟩,⟨c1,c2⟩,⟨⟨x1,p1,k1,l1,z1⟩,⟨x2,p2,k2,l2,z2⟩⟩,⟨⟨y1,p3,k3,l3,z3⟩,⟨y2,p4,k4,l4,z4⟩⟩⟩:=t
 obtain ⟨ox1,ox2⟩:=ox
 obtain ⟨oy1,oy2⟩:=oy
 simp only at ox1 ox2 oy1 oy2
 have key:CallsS Tryz.prog w0 12 [.agg #[.string ⟨a1.toArray⟩,.string ⟨a2.toArray⟩,.string ⟨c1.toArray⟩,.string ⟨c2.toArray⟩,.bool x1,.slice p1 l1.length k1,.int .u16 (z1:Int),.bool x2,.slice p2 l2.length k2,.int .u16 (z2:Int),.bool y1,.slice p3 l3.length k3,.int .u16 (z3:Int),.bool y2,.slice p4 l4.length k4,.int .u16 (z4:Int)]]
   (.ft (rd (cN .u16) (.slice p1 l1.length k1) l1)::.ft (rd (cN .u16) (.slice p2 l2.length k2) l2)::.ft (rd (cN .u16) (.slice p3 l3.length k3) l3)::.ft (rd (cN .u16) (.slice p4 l4.length k4) l4)::As) fun u Bs=>∃ (b:Nat) (L:List FF),L.length=4∧(∀ p∈L,Shrt p.1)∧u=.slice (some ⟨b,0,none⟩) 4 4∧Bs=.ow cFF 39 u L::As:=by
  have sx:∀ {Bs:List Ent} [RdIn Bs (.slice p1 l1.length k1) Nat (cN .u16) l1] [RdIn Bs (.slice p2 l2.length k2) Nat (cN .u16) l2],CallsS Tryz.prog w0 11 [.agg #[.bool x1,.slice p1 l1.length k1,.int .u16 (z1:Int),.bool x2,.slice p2 l2.length k2,.int .u16 (z2:Int)]] Bs (Q.FracE 3 Bs) :=
   fun {Bs} i1 i2=>@Q.Zru w0 Bs ⟨⟨x1,.slice p1 l1.length k1,l1,z1⟩,⟨x2,.slice p2 l2.length k2,l2,z2⟩⟩ i1 i2 hx
  have fx:∀ {Bs:List Ent} [RdIn Bs (.slice p1 l1.length k1) Nat (cN .u16) l1] [RdIn Bs (.slice p2 l2.length k2) Nat (cN .u16) l2],CallsS Tryz.prog w0 19 [.agg #[.bool x1,.slice p1 l1.length k1,.int .u16 (z1:Int),.bool x2,.slice p2 l2.length k2,.int .u16 (z2:Int)]] Bs (Q.FracE 40 Bs) :=
   fun {Bs} i1 i2=>@Q.Zsx w0 Bs ⟨⟨x1,.slice p1 l1.length k1,l1,z1⟩,⟨x2,.slice p2 l2.length k2,l2,z2⟩⟩ i1 i2 hx
  have fy:∀ {Bs:List Ent} [RdIn Bs (.slice p3 l3.length k3) Nat (cN .u16) l3] [RdIn Bs (.slice p4 l4.length k4) Nat (cN .u16) l4],CallsS Tryz.prog w0 19 [.agg #[.bool y1,.slice p3 l3.length k3,.int .u16 (z3:Int),.bool y2,.slice p4 l4.length k4,.int .u16 (z4:Int)]] Bs (Q.FracE 40 Bs) :=
   fun {Bs} i1 i2=>@Q.Zsx w0 Bs ⟨⟨y1,.slice p3 l3.length k3,l3,z3⟩,⟨y2,.slice p4 l4.length k4,l4,z4⟩⟩ i1 i2 hy
  have uy:∀ {Bs:List Ent} [RdIn Bs (.slice p3 l3.length k3) Nat (cN .u16) l3] [RdIn Bs (.slice p4 l4.length k4) Nat (cN .u16) l4],CallsS Tryz.prog w0 17 [.agg #[.bool y1,.slice p3 l3.length k3,.int .u16 (z3:Int),.bool y2,.slice p4 l4.length k4,.int .u16 (z4:Int)]] Bs (Q.FracE 5 Bs) :=
   fun {Bs} i1 i2=>@Q.Zua w0 Bs ⟨⟨y1,.slice p3 l3.length k3,l3,z3⟩,⟨y2,.slice p4 l4.length k4,l4,z4⟩⟩ i1 i2 hy
  have hS:Shrt (a1.take (min a1.length 620),a2.take (min a2.length 620)):=⟨by simp only [List.length_take];omega,by simp only [List.length_take];omega⟩
  refine Zab Tryz.func12 rfl Tryz.ntmps12 rfl ?_
  repeat' first|refine Kz ?_|intro _
  rename_i bt
  obtain ⟨T,hT⟩:∃ T:List Value,T=[.string ⟨a1.toArray⟩,.string ⟨a2.toArray⟩,.string ⟨c1.toArray⟩,.string ⟨c2.toArray⟩,.bool x1,.slice p1 l1.length k1,.int .u16 (z1:Int),.bool x2,.slice p2 l2.length k2,.int .u16 (z2:Int),.bool y1,.slice p3 l3.length k3,.int .u16 (z3:Int),.bool y2,.slice p4 l4.length k4,.int .u16 (z4:Int)]:=⟨_,rfl⟩
  refine Tri.mid (fun e' As'=>∃ b3 b4,e'=[(1,.pointer (some ⟨bt,0,none⟩)),(3,.pointer (some ⟨b3,0,none⟩)),(4,.pointer (some ⟨b4,0,none⟩))]∧As'=.cl b3 [.string ⟨(a1.take (min a1.length 620)).toArray⟩,.string ⟨(a2.take (min a2.length 620)).toArray⟩] 24::.cl b4 [.string ⟨(c1.take (min c1.length 620)).toArray⟩,.string ⟨(c2.take (min c2.length 620)).toArray⟩] 24::.cl bt [.string ⟨a1.toArray⟩,.string ⟨a2.toArray⟩,.string ⟨c1.toArray⟩,.string ⟨c2.toArray⟩,.bool x1,.slice p1 l1.length k1,.int .u16 (z1:Int),.bool x2,.slice p2 l2.length k2,.int .u16 (z2:Int),.bool y1,.slice p3 l3.length k3,.int .u16 (z3:Int),.bool y2,.slice p4 l4.length k4,.int .u16 (z4:Int)] 32 ::
    .ft (rd (cN .u16) (.slice p1 l1.length k1) l1)::.ft (rd (cN .u16) (.slice p2 l2.length k2) l2)::.ft (rd (cN .u16) (.slice p3 l3.length k3) l3)::.ft (rd (cN .u16) (.slice p4 l4.length k4) l4)::As) ?_ ?_
  ·refine Zbg [.cl bt [.string ⟨a1.toArray⟩,.string ⟨a2.toArray⟩,.string ⟨c1.toArray⟩,.string ⟨c2.toArray⟩,.bool x1,.slice p1 l1.length k1,.int .u16 (z1:Int),.bool x2,.slice p2 l2.length k2,.int .u16 (z2:Int),.bool y1,.slice p3 l3.length k3,.int .u16 (z3:Int),.bool y2,.slice p4 l4.length k4,.int .u16 (z4:Int)] 32] [] (.take 0 (.take 1 (.take 3 (.take 4 (.all [(2,.all [(5,.all [(6,.all [(7,.all [(8,.all [(9,.done)])])]),(7,.all [(6,.all [(8,.all [(9,.done)])])])]),(6,.all [(5,.all [(7,.all [(8,.all [(9,.done)])])]),(7,.all [(5,.all [(8,.all [(9,.done)])])])]),(7,.all [(5,.all [(6,.all [(8,.all [(9,.done)])])]),(6,.all [(5,.all [(8,.all [(9,.done)])])])])]),(6,.all [(2,.all [(5,.all [(7,.all [(8,.all [(9,.done)])])]),(7,.all [(5,.all [(8,.all [(9,.done)])])])]),(7,.all [(2,.all [(5,.all [(8,.all [(9,.done)])])])])]),(7,.all [(2,.all [(5,.all [(6,.all [(8,.all [(9,.done)])])]),(6,.all [(5,.all [(8,.all [(9,.done)])])])]),(6,.all [(2,.all [(5,.all [(8,.all [(9,.done)])])])])])]))))) ?_
   repeat' first|refine Kf ?_|intro _|constructor
   repeat' (first|(refine T1.callv rfl rfl rfl rfl rfl (Zpk (a:=a1) (b:=a2)) ?_;rintro _ _ ⟨rfl,rfl⟩;(repeat' first|refine Kf ?_|intro _|constructor))|(refine T1.callv rfl rfl rfl rfl rfl (Zpk (a:=c1) (b:=c2)) ?_;rintro _ _ ⟨rfl,rfl⟩;(repeat' first|refine Kf ?_|intro _|constructor)))
   all_goals exact Post.cut _ _ ⟨_,_,rfl,rfl⟩ Zae Zaa
  rintro _ _ ⟨b3,b4,rfl,rfl⟩
  repeat' first|refine Kz ?_|intro _
  refine Zau (.take 0 (.take 1 (.take 2 (.take 3 (.take 4 (.take 6 (.take 7 (.take 10 (.take 11 (.take 13 (.take 14 (.take 17 (.take 18 (.take 20 (.all [(5,.all [(8,.take 9 (.all [(12,.all [(15,.take 16 (.all [(19,.take 21 (.all [(22,.take 23 (.done))]))]))])]))])]))))))))))))))) ?_
  repeat' first|refine Kf ?_|intro _|constructor
  refine T1.callv rfl rfl rfl rfl rfl fx ?_
  rintro _ _ ⟨r1,h1,rfl,rfl⟩
  repeat' first|refine Kf ?_|intro _|constructor
  refine T1.callv rfl rfl rfl rfl rfl fy ?_
  rintro _ _ ⟨r2,h2,rfl,rfl⟩
  repeat' first|refine Kf ?_|intro _|constructor
  refine T1.callv rfl rfl rfl rfl rfl sx ?_
  rintro _ _ ⟨r3,h3,rfl,rfl⟩
  repeat' first|refine Kf ?_|intro _|constructor
  refine T1.callv rfl rfl rfl rfl rfl uy ?_
  rintro _ _ ⟨r4,h4,rfl,rfl⟩
  repeat' first|refine Kf ?_|intro _|constructor
  refine T1.callv rfl rfl rfl rfl rfl fx ?_
  rintro _ _ ⟨r5,h5,rfl,rfl⟩
  repeat' first|refine Kf ?_|intro _|constructor
  (refine Zac ?_)
  refine ⟨_,⟨_,[((a1.take (min a1.length 620),a2.take (min a2.length 620)),(c1.take (min c1.length 620),c2.take (min c2.length 620))),((textI r1.num,textI (r1.den:Int)),(textI r2.num,textI (r2.den:Int))),((textI r3.num,textI (r3.den:Int)),(textI r4.num,textI (r4.den:Int))),((textI r5.num,textI (r5.den:Int)),(c1.take (min c1.length 620),c2.take (min c2.length 620)))],rfl,?_,rfl,rfl⟩,?_⟩
  ·intro p hp
   have sh:∀ {r:Rat} {k:Nat},Fit k r→k≤40→Shrt (textI r.num,textI (r.den:Int)):=fun {r k} h hk=>⟨by have:=Zc8 (z:=r.num) (k:=k) h.1;simp only;omega,by have:=Zc8 (z:=(r.den:Int)) (k:=k) (by rw [Int.natAbs_natCast];exact h.2);simp only;omega⟩
   simp only [List.mem_cons,List.not_mem_nil,or_false] at hp
   rcases hp with rfl|rfl|rfl|rfl
   ·exact hS
   ·exact sh h1 (by decide)
   ·exact sh h3 (by decide)
   ·exact sh h5 (by decide)
  ·exact Ents.trans (Zbt (n:=4) (cap:=4) cFF [((a1.take (min a1.length 620),a2.take (min a2.length 620)),(c1.take (min c1.length 620),c2.take (min c2.length 620))),((textI r1.num,textI (r1.den:Int)),(textI r2.num,textI (r2.den:Int))),((textI r3.num,textI (r3.den:Int)),(textI r4.num,textI (r4.den:Int))),((textI r5.num,textI (r5.den:Int)),(c1.take (min c1.length 620),c2.take (min c2.length 620)))] rfl rfl rfl) Zaa
 exact CallsS.oldFt (rd (cN .u16) (.slice p4 l4.length k4) l4) oy2 (CallsS.oldFt (rd (cN .u16) (.slice p3 l3.length k3) l3) oy1 (CallsS.oldFt (rd (cN .u16) (.slice p2 l2.length k2) l2) ox2 (CallsS.oldFt (rd (cN .u16) (.slice p1 l1.length k1) l1) ox1 key)))
end Go.Proofs.YtciadfpomkdlnaaGreatDoor
