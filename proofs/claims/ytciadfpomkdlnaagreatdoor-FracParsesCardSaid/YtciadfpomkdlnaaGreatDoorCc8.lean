/- Walks: frac. -/
import Derived.Test.YtciadfpomkdlnaaGreatDoorCc7
set_option maxHeartbeats 1000000
namespace Go.Sx
open Go
structure RawQ where
 o1:Option Addr
 n1:Nat
 c1:Nat
 b:Bool
 o2:Option Addr
 n2:Nat
 c2:Nat
def cR:Cod RawQ:=⟨3,fun r=>[.slice r.o1 r.n1 r.c1,.bool r.b,.slice r.o2 r.n2 r.c2],fun _=>rfl,fun r v hv=>by
 simp only [List.mem_cons,List.not_mem_nil,or_false] at hv
 rcases hv with rfl|rfl|rfl<;>rfl⟩
instance (priority:=low) {r:RawQ}:EncL cR r [.slice r.o1 r.n1 r.c1,.bool r.b,.slice r.o2 r.n2 r.c2]:=⟨rfl⟩
instance {o1 o2:Option Addr} {n1 c1 n2 c2:Nat} {b:Bool}:EncL cR ⟨o1,n1,c1,b,o2,n2,c2⟩ [.slice o1 n1 c1,.bool b,.slice o2 n2 c2]:=⟨rfl⟩
instance {o1 o2:Option Addr} {n1 c1 n2 c2:Nat} {b:Bool}:DecL cR [.slice o1 n1 c1,.bool b,.slice o2 n2 c2] ⟨o1,n1,c1,b,o2,n2,c2⟩:=⟨rfl⟩
def cF:Cod (List UInt8 × List UInt8):=⟨2,fun p=>[.string ⟨p.1.toArray⟩,.string ⟨p.2.toArray⟩],fun _=>rfl,fun p v hv=>by
 simp only [List.mem_cons,List.not_mem_nil,or_false] at hv
 rcases hv with rfl|rfl<;>rfl⟩
instance {a b:List UInt8}:EncL cF (a,b) [.string ⟨a.toArray⟩,.string ⟨b.toArray⟩]:=⟨rfl⟩
instance {a b:List UInt8}:DecL cF [.string ⟨a.toArray⟩,.string ⟨b.toArray⟩] (a,b):=⟨rfl⟩
structure FitQ (As:List Ent) (r:RawQ) (x:Rat):Prop where
 n1:r.n1=(mag x.num.natAbs).length
 b:r.b=decide (x.num < 0)
 n2:r.n2=(mag x.den).length
 f1:FtIn As (.slice r.o1 r.n1 r.c1) Nat (cN .u32) (mag x.num.natAbs)
 f2:FtIn As (.slice r.o2 r.n2 r.c2) Nat (cN .u32) (mag x.den)
theorem FitQ.tl {As:List Ent} {r:RawQ} {x:Rat} (h:FitQ As r x) (e:Ent):FitQ (e::As) r x:=⟨h.n1,h.b,h.n2,⟨List.mem_cons_of_mem _ h.f1.mem⟩,⟨List.mem_cons_of_mem _ h.f2.mem⟩⟩
end Go.Sx
namespace Go.Proofs.YtciadfpomkdlnaaGreatDoor.Q
open Go Go.Sx
variable {w0:World} {As:List Ent}
instance:ElC Tryz.prog 130 RawQ cR ⟨none,0,0,false,none,0,0⟩ 56:=⟨by obtain ⟨i,h1,h2,h3,h4⟩:=(inferInstance:TI Tryz.prog 130 _ _ _).info;exact ⟨i,_,h1,h2,h3,h4,rfl⟩,by decide⟩
theorem Zqp {b3:Nat} {sv tv mv bv:Value} {s x:Rat} [h1:FtIn As sv Nat (cN .u32) (mag s.num.natAbs)] [h2:FtIn As tv Nat (cN .u32) (mag s.den)] [h3:FtIn As mv Nat (cN .u32) (mag x.num.natAbs)] [h4:FtIn As bv Nat (cN .u32) (mag x.den)] (hs:Ln 2000000 s) (hx:Ln 2000000 x) :
  CallsS Tryz.prog w0 149 [.agg #[mv,.bool (decide (x.num < 0)),bv],.pointer (some ⟨b3,0,none⟩)] (.cl b3 [sv,.bool (decide (s.num < 0)),tv] 130::As)
   fun _ Bs=>∃ p c q d,Bs=.cl b3 [.slice p (mag (s+x).num.natAbs).length c,.bool (decide ((s+x).num < 0)),.slice q (mag (s+x).den).length d] 130::.ft (rd (cN .u32) (.slice p (mag (s+x).num.natAbs).length c) (mag (s+x).num.natAbs))::.ft (rd (cN .u32) (.slice q (mag (s+x).den).length d) (mag (s+x).den))::As:=by
 refine Zad sv fun p1 c1 g1=>Zad tv fun p2 c2 g2=>Zad mv fun p3 c3 g3=>Zad bv fun p4 c4 g4=>?_
 subst g1 g2 g3 g4
 refine Zab Tryz.func149 rfl Tryz.ntmps149 rfl ?_
 repeat' first|refine Kz ?_|intro _
 refine TL.callv rfl rfl rfl rfl (Zs5 (mv:=.slice p1 (mag s.num.natAbs).length c1) (bv:=.slice p2 (mag s.den).length c2) (nv:=.slice p3 (mag x.num.natAbs).length c3) (cv:=.slice p4 (mag x.den).length c4) (x:=s) (y:=x) hs hx) ?_
 rintro _ _ ⟨p5,c5,p6,c6,rfl,rfl⟩
 repeat' first|refine Kz ?_|intro _
 (refine Zac ?_)
 exact ⟨_,⟨p5,c5,p6,c6,rfl⟩,Zaa⟩
def sumQ (s:Rat) (l:List Rat):Rat:=l.foldl (·+·) s
theorem Zrq {l:List Rat} {i:Nat} {x:Rat} (h:l[i]?=some x):sumQ 0 (l.take (i+1))=sumQ 0 (l.take i)+x:=by
 obtain ⟨hi,rfl⟩:=List.getElem?_eq_some_iff.1 h
 rw [List.take_succ_eq_append_getElem hi,sumQ,List.foldl_append];rfl
theorem Zm4:∀ (l:List Rat) {a:Nat} {s:Rat},(∀ x∈l,Ln 600 x)→Ln a s→Ln (a+601 * l.length) (sumQ s l)
 | [],_,_,_,hs=>hs
 | x::l,a,s,h,hs=>(Zm4 l (fun y hy=>h y (List.mem_cons_of_mem _ hy)) (hs.add (h x (List.mem_cons_self ..)))).mono (by rw [List.length_cons];omega)
theorem Zub {v:Value} {ts:List RawQ} {xs:List Rat} [hr:RdIn As v RawQ cR ts] (hl:ts.length=xs.length) (h300:xs.length≤300) (hf:∀ {i:Nat} {r:RawQ} {x:Rat},ts[i]?=some r→xs[i]?=some x→FitQ As r x) (hn:∀ x∈xs,Ln 600 x) :
  CallsS Tryz.prog w0 69 [v] As (RatR As (sumQ 0 xs)):=by
 refine Zab Tryz.func69 rfl Tryz.ntmps69 rfl ?_
 repeat' first|refine Kz ?_|intro _
 rename_i b2 bl
 have hm1:mag 1=[1]:=Zca (by omega) (by omega)
 refine TL.ents (Zbt (cN .u32) (mag 1) (n:=1) (cap:=1) (by rw [hm1];rfl) (by rw [hm1];rfl) (by rw [hm1];rfl)) ?_
 refine TL.ents Ents.freeze ?_
 refine TL.ents (Za1 (T:=226) (cN .u32)) ?_
 refine TL.ents Ents.freeze ?_
 refine TL.f rfl rfl (ExF.build (vs:=[.slice (some ⟨bl,0,none⟩) 1 1]) (l:=[.slice none 0 0,.bool false,.slice (some ⟨bl,0,none⟩) 1 1]) rfl (fun w=>by kernel_rfl)) ?_
 repeat' first|refine Kz ?_|intro _
 rename_i b3
 refine Tri.loop (ι:=Nat × Option Addr × Nat × Option Addr × Nat) (fun s=>s.1≤xs.length) (fun s=>xs.length - s.1)
  (fun s=>[(2,.pointer (some ⟨b2,0,none⟩)),(3,.pointer (some ⟨b3,0,none⟩)),(4,.func (.func 149) #[] #[.pointer (some ⟨b3,0,none⟩)]),(10,v),(11,.int .i64 (xs.length:Int)),(12,.int .i64 (s.1:Int))])
  (fun s=>.cl b3 [.slice s.2.1 (mag (sumQ 0 (xs.take s.1)).num.natAbs).length s.2.2.1,.bool (decide ((sumQ 0 (xs.take s.1)).num < 0)),.slice s.2.2.2.1 (mag (sumQ 0 (xs.take s.1)).den).length s.2.2.2.2] 130 ::
   .ft (rd (cN .u32) (.slice s.2.1 (mag (sumQ 0 (xs.take s.1)).num.natAbs).length s.2.2.1) (mag (sumQ 0 (xs.take s.1)).num.natAbs))::.ft (rd (cN .u32) (.slice s.2.2.2.1 (mag (sumQ 0 (xs.take s.1)).den).length s.2.2.2.2) (mag (sumQ 0 (xs.take s.1)).den))::.cl b2 [.slice none 0 0,.bool false,.slice none 0 0] 130::As)
  (0,none,0,some ⟨bl,0,none⟩,1) (Nat.zero_le _) (by rw [← hl];(exact Zae)) ?_ ?_
 ·show Ents _ (.cl b3 [.slice none (mag 0).length 0,.bool false,.slice (some ⟨bl,0,none⟩) (mag 1).length 1] 130::.ft (rd (cN .u32) (.slice none (mag 0).length 0) (mag 0))::.ft (rd (cN .u32) (.slice (some ⟨bl,0,none⟩) (mag 1).length 1) (mag 1))::.cl b2 [.slice none 0 0,.bool false,.slice none 0 0] 130::As)
  rw [Zan,hm1]
  show Ents _ (.cl b3 [.slice none 0 0,.bool false,.slice (some ⟨bl,0,none⟩) 1 1] 130::.ft (rd (cN .u32) (.slice none 0 0) [])::.ft (rd (cN .u32) (.slice (some ⟨bl,0,none⟩) 1 1) [1])::.cl b2 [.slice none 0 0,.bool false,.slice none 0 0] 130::As)
  (exact Zaa)
 rintro ⟨i,p,c,q,d⟩ hi
 simp only at hi
 obtain ⟨S,hS⟩:∃ S,S=sumQ 0 (xs.take i):=⟨_,rfl⟩
 have lS:Ln 1000000 S:=by
  have h1:=Zm4 (xs.take i) (a:=1) (s:=0) (fun x hx=>hn x (List.mem_of_mem_take hx)) ⟨by rw [show (0:Rat).num.natAbs=0 from rfl,Zan];exact Nat.zero_le _,by rw [show (0:Rat).den=1 from rfl,hm1];exact Nat.le_refl _⟩
  rw [← hS] at h1
  refine h1.mono ?_
  rw [List.length_take]
  omega
 simp only
 rw [← hS]
 by_cases hlt:(i:Int) < xs.length
 ·obtain ⟨x,hx⟩:∃ x,xs[i]?=some x:=⟨_,List.getElem?_eq_getElem (by omega)⟩
  obtain ⟨r,hr⟩:∃ r,ts[i]?=some r:=⟨_,List.getElem?_eq_getElem (by omega)⟩
  obtain ⟨h1,h2,h3,h4,h5⟩:=hf hr hx
  obtain ⟨o1,n1,c1,rb,o2,n2,c2⟩:=r
  simp only at h1 h2 h3 h4 h5
  subst h1 h2 h3
  have lx:=hn x (List.mem_of_getElem? hx)
  repeat' first|refine Kz ?_|intro _
  refine Zgj (.cl b3 [.slice p (mag S.num.natAbs).length c,.bool (decide (S.num < 0)),.slice q (mag S.den).length d] 130) ?_
  refine TL.callv rfl rfl rfl rfl (Zqp (sv:=.slice p (mag S.num.natAbs).length c) (tv:=.slice q (mag S.den).length d) (mv:=.slice o1 (mag x.num.natAbs).length c1) (bv:=.slice o2 (mag x.den).length c2) (s:=S) (x:=x) (lS.mono (by omega)) (lx.mono (by omega))) ?_
  rintro _ _ ⟨p',c',q',d',rfl⟩
  repeat' first|refine Kz ?_|intro _
  have e:sumQ 0 (xs.take (i+1))=S+x:=by rw [Zrq hx,← hS]
  refine Post.round (i+1,p',c',q',d') (by simp only;omega) (by simp only;omega) Zae ?_
  simp only
  rw [e]
  (exact Zaa)
 ·have e:xs.take i=xs:=List.take_of_length_le (by omega)
  rw [e] at hS
  subst hS
  repeat' first|refine Kz ?_|intro _
  (refine Zac ?_)
  exact ⟨_,⟨p,c,q,d,rfl,rfl⟩,Zaa⟩
def readL:List (List UInt8 × List UInt8)→Option (List Rat)
 | []=>some []
 | p::l=>match readF p.1 p.2,readL l with
  | some x,some xs=>some (x::xs)
  | _,_=>none
theorem Zjs {p:List UInt8 × List UInt8} (hp:readF p.1 p.2=none):∀ {l:List (List UInt8 × List UInt8)},p∈l→readL l=none
 | [],h=>by cases h
 | q :: l,h=>by
  rw [readL]
  rcases List.mem_cons.1 h with rfl|h
  ·rw [hp]
  ·rw [Zjs hp h]
   cases readF q.1 q.2<;>rfl
theorem Zjr {p:List UInt8 × List UInt8} {x:Rat} (hp:readF p.1 p.2=some x):∀ {l:List (List UInt8 × List UInt8)} {xs:List Rat},readL l=some xs→readL (l++[p])=some (xs++[x])
 | [],xs,h=>by
  cases h
  rw [List.nil_append,readL,hp,readL];rfl
 | q :: l,xs,h=>by
  rw [readL] at h
  cases hq:readF q.1 q.2 with
  | none=>rw [hq] at h;cases h
  | some y =>
   cases hl:readL l with
   | none=>rw [hq,hl] at h;cases h
   | some ys =>
    rw [hq,hl] at h
    cases h
    rw [List.cons_append,readL,hq,Zjr hp hl];rfl
theorem Zos:∀ {l:List (List UInt8 × List UInt8)} {xs:List Rat},readL l=some xs→∀ x∈xs,Ln 600 x
 | [],xs,h,x,hx=>by cases h;cases hx
 | q :: l,xs,h,x,hx=>by
  rw [readL] at h
  cases hq:readF q.1 q.2 with
  | none=>rw [hq] at h;cases h
  | some y =>
   cases hl:readL l with
   | none=>rw [hq,hl] at h;cases h
   | some ys =>
    rw [hq,hl] at h
    cases h
    rcases List.mem_cons.1 hx with rfl|hx
    ·exact Za5 hq
    ·exact Zos hl x hx
def fq:List (RawQ × Rat)→List Ent
 | []=>[]
 | (r,x)::R=>.ft (rd (cN .u32) (.slice r.o1 r.n1 r.c1) (mag x.num.natAbs))::.ft (rd (cN .u32) (.slice r.o2 r.n2 r.c2) (mag x.den))::fq R
theorem Zk1:∀ {R:List (RawQ × Rat)},Ents (fq R++As) As
 | []=>Ents.refl _
 | (_r,_)::R=>Ents.trans Zb1 (Ents.trans Zb1 (Zk1 (R:=R)))
def OkQ (p:RawQ × Rat):Prop:=p.1.n1=(mag p.2.num.natAbs).length∧p.1.b=decide (p.2.num < 0)∧p.1.n2=(mag p.2.den).length
theorem Zv6 {r:RawQ} {x:Rat} (h:OkQ (r,x)):∀ {R:List (RawQ × Rat)},(r,x)∈R→FitQ (fq R++As) r x
 | [],hm=>by cases hm
 | (r',x')::R,hm=>by
  rcases List.mem_cons.1 hm with e|hm
  ·cases e
   exact ⟨h.1,h.2.1,h.2.2,⟨List.mem_cons_self ..⟩,⟨List.mem_cons_of_mem _ (List.mem_cons_self ..)⟩⟩
  ·exact ((Zv6 h hm).tl _).tl _
theorem Zpd {α:Type} {A:List α} {z r:α} {n:Nat} (h:A.length < n):(A++List.replicate (n - A.length) z).set A.length r=(A++[r])++List.replicate (n - (A.length+1)) z:=by
 rw [List.set_append_right _ _ (Nat.le_refl _),Nat.sub_self,List.append_assoc]
 congr 1
 obtain ⟨k,hk⟩:∃ k,n - A.length=k+1:=⟨n - A.length - 1,by omega⟩
 rw [hk,List.replicate_succ,List.set_cons_zero,show n - (A.length+1)=k by omega];rfl
theorem Zoy {R:List (RawQ × Rat)} {i:Nat} {r:RawQ} {x:Rat} (h1:(R.reverse.map Prod.fst)[i]?=some r) (h2:(R.reverse.map Prod.snd)[i]?=some x):(r,x)∈R:=by
 rw [List.getElem?_map,Option.map_eq_some_iff] at h1 h2
 obtain ⟨a,h3,h4⟩:=h1
 obtain ⟨b,h5,h6⟩:=h2
 rw [h3] at h5
 cases h5
 have:=List.mem_of_getElem? h3
 rw [List.mem_reverse] at this
 rw [← h4,← h6];exact this
def sumO (l:List (List UInt8 × List UInt8)):List UInt8 × List UInt8 × Int :=
 if 300 < l.length then ([],[],3) else match readL l with
  | some xs=>outF (sumQ 0 xs)
  | none=>([],[],20)
theorem Zh3 (ht:Tab w0) {v:Value} {l:List (List UInt8 × List UInt8)} [hr:RdIn As v (List UInt8 × List UInt8) cF l] (hll:l.length≤1000000000) (hs:∀ p∈l,p.1.length≤1000000000∧p.2.length≤1000000000) :
  CQ Tryz.prog w0 15 [v] As (.tuple #[.agg #[.string ⟨(sumO l).1.toArray⟩,.string ⟨(sumO l).2.1.toArray⟩],.int .i64 (sumO l).2.2]):=by
 refine Zab Tryz.func15 rfl Tryz.ntmps15 rfl ?_
 repeat' first|refine Kz ?_|intro _
 by_cases h300:(300:Int) < l.length
 ·rw [sumO,if_pos (by omega)]
  repeat' first|refine Kz ?_|intro _
  exact Kv
 rw [sumO,if_neg (by omega)]
 repeat' first|refine Kz ?_|intro _
 rename_i b2 vt
 refine Tri.midB (fun e' As'=>∃ R:List (RawQ × Rat),R.length=l.length∧readL l=some (R.reverse.map Prod.snd)∧(∀ p∈R,OkQ p)∧e'=[(2,.pointer (some ⟨b2,0,none⟩)),(4,vt)] ∧
  As'=.ow cR 130 vt (R.reverse.map Prod.fst)::.cl b2 [.string ⟨#[]⟩,.string ⟨#[]⟩] 24::(fq R++As)) ?_ ?_
 ·refine Tri.loop (ι:=List (RawQ × Rat)) (fun R=>R.length≤l.length∧readL (l.take R.length)=some (R.reverse.map Prod.snd)∧∀ p∈R,OkQ p) (fun R=>l.length - R.length)
   (fun R=>[(2,.pointer (some ⟨b2,0,none⟩)),(4,vt),(16,v),(17,.int .i64 (l.length:Int)),(18,.int .i64 (R.length:Int))])
   (fun R=>.ow cR 130 vt (R.reverse.map Prod.fst++List.replicate (l.length - R.length) ⟨none,0,0,false,none,0,0⟩)::.cl b2 [.string ⟨#[]⟩,.string ⟨#[]⟩] 24::(fq R++As))
   [] ⟨Nat.zero_le _,rfl,by simp⟩ Zae (by show Ents _ (.ow cR 130 vt ([]++List.replicate (l.length - 0) _)::.cl b2 [.string ⟨#[]⟩,.string ⟨#[]⟩] 24::As);rw [List.nil_append,Nat.sub_zero];(exact Zaa)) ?_
  rintro R ⟨h1,h2,h3⟩
  have hRl:(R.reverse.map Prod.fst).length=R.length:=by rw [List.length_map,List.length_reverse]
  obtain ⟨i,hi⟩:∃ i,i=R.length:=⟨_,rfl⟩
  simp only
  rw [← hi] at h1 h2 hRl ⊢
  by_cases hlt:(i:Int) < l.length
  ·obtain ⟨⟨a,b⟩,hp⟩:∃ p,l[i]?=some p:=⟨_,List.getElem?_eq_getElem (by omega)⟩
   obtain ⟨la,lb⟩:=hs _ (List.mem_of_getElem? hp)
   simp only at la lb
   generalize hD:R.reverse.map Prod.fst=D at hRl ⊢
   haveI:RdIn (fq R++As) v (List UInt8 × List UInt8) cF l:=⟨fun w0 w h=>hr.get w0 w (Zk1 w0 w h)⟩
   generalize hB:fq R++As=B at this ⊢
   have hset:∀ r:RawQ,(D++List.replicate (l.length - i) (⟨none,0,0,false,none,0,0⟩:RawQ)).set i r=(D++[r])++List.replicate (l.length - (i+1)) ⟨none,0,0,false,none,0,0⟩:=fun r=>by
    have h:=Zpd (A:=D) (z:=(⟨none,0,0,false,none,0,0⟩:RawQ)) (r:=r) (n:=l.length) (by omega)
    rwa [hRl] at h
   have hXl:(D++List.replicate (l.length - i) (⟨none,0,0,false,none,0,0⟩:RawQ)).length=l.length:=by rw [List.length_append,List.length_replicate];omega
   generalize D++List.replicate (l.length - i) (⟨none,0,0,false,none,0,0⟩:RawQ)=X at hset hXl ⊢
   obtain ⟨y0,hy0⟩:∃ y0,X[i]?=some y0:=⟨_,List.getElem?_eq_getElem (by omega)⟩
   repeat' first|refine Kz ?_|intro _
   refine TL.call rfl rfl rfl (Za4 la lb) ?_
   intro _ _ h4
   cases hx:readF a b with
   | none =>
    rw [hx] at h4
    obtain ⟨rfl,rfl⟩:=h4
    rw [Zjs (p:=(a,b)) hx (List.mem_of_getElem? hp)]
    subst hB
    repeat' first|refine Kz ?_|intro _
    (refine Zac ?_)
    exact ⟨_,⟨rfl,rfl⟩,Ents.trans Zaa (Zk1 (R:=R))⟩
   | some x =>
    rw [hx] at h4
    obtain ⟨p1,c1,p2,c2,rfl,rfl⟩:=h4
    repeat' first|refine Kz ?_|intro _
    have hone:oneB [Value.slice p1 (mag x.num.natAbs).length c1,.bool (decide (x.num < 0)),.slice p2 (mag x.den).length c2]=true:=by rfl
    refine TL.u rfl (Zfm rfl rfl (by rfl) hone (by rfl) hy0 (by rfl) (by simp only [setAll,List.take_zero,List.drop_succ_cons,List.drop_nil,List.length_cons,List.length_nil,List.nil_append,List.append_nil,Nat.zero_add,Nat.reduceAdd];exact rfl)) ?_
    repeat' first|refine Kz ?_|intro _
    subst hB
    rw [hset]
    refine Post.round ((⟨p1,(mag x.num.natAbs).length,c1,decide (x.num < 0),p2,(mag x.den).length,c2⟩,x)::R) ⟨by rw [List.length_cons];omega,?_,?_⟩ (by rw [List.length_cons];omega) (by rw [List.length_cons,← hi];(exact Zae)) ?_
    ·rw [List.length_cons,← hi,List.reverse_cons,List.map_append,List.take_succ_eq_append_getElem (by omega)]
     have hp':l[i]'(by omega)=(a,b):=by
      have:=List.getElem?_eq_some_iff.1 hp
      exact this.2
     rw [hp']
     exact Zjr hx h2
    ·intro p hp
     rcases List.mem_cons.1 hp with rfl|hp
     ·exact ⟨rfl,rfl,rfl⟩
     ·exact h3 p hp
    ·rw [List.length_cons,← hi,List.reverse_cons,List.map_append,hD]
     show Ents _ (.ow cR 130 vt (D++[⟨p1,(mag x.num.natAbs).length,c1,decide (x.num < 0),p2,(mag x.den).length,c2⟩]++List.replicate (l.length - (i+1)) ⟨none,0,0,false,none,0,0⟩)::.cl b2 [.string ⟨#[]⟩,.string ⟨#[]⟩] 24 ::
      .ft (rd (cN .u32) (.slice p1 (mag x.num.natAbs).length c1) (mag x.num.natAbs))::.ft (rd (cN .u32) (.slice p2 (mag x.den).length c2) (mag x.den))::(fq R++As))
     (exact Zaa)
  ·have hil:i=l.length:=by omega
   rw [hil,Nat.sub_self,List.replicate_zero,List.append_nil]
   rw [hil,List.take_length] at h2
   repeat' first|refine Kz ?_|intro _
   exact Post.cut _ _ ⟨R,by omega,h2,h3,rfl,rfl⟩ Zae Zaa
 rintro _ _ ⟨R,h1,h2,h3,rfl,rfl⟩
 rw [h2]
 have hfit:∀ {i:Nat} {r:RawQ} {x:Rat},(R.reverse.map Prod.fst)[i]?=some r→(R.reverse.map Prod.snd)[i]?=some x→FitQ (.ow cR 130 vt (R.reverse.map Prod.fst)::.cl b2 [.string ⟨#[]⟩,.string ⟨#[]⟩] 24::(fq R++As)) r x :=
  fun g1 g2=>((Zv6 (h3 _ (Zoy g1 g2)) (Zoy g1 g2)).tl _).tl _
 have hln:=Zos h2
 have hl1:(R.reverse.map Prod.fst).length=(R.reverse.map Prod.snd).length:=by rw [List.length_map,List.length_map]
 have hl2:(R.reverse.map Prod.snd).length≤300:=by rw [List.length_map,List.length_reverse];omega
 generalize R.reverse.map Prod.fst=D at hfit hl1 ⊢
 generalize R.reverse.map Prod.snd=xs at hfit hl1 hl2 hln ⊢
 clear h2 h3
 repeat' first|refine Kz ?_|intro _
 refine TL.callv rfl rfl rfl rfl (Zub (v:=vt) (ts:=D) (xs:=xs) hl1 hl2 hfit hln) ?_
 rintro _ _ ⟨p5,c5,p6,c6,rfl,rfl⟩
 have hm1:mag 1=[1]:=Zca (by omega) (by omega)
 have hL:Ln 1000000 (sumQ 0 xs):=(Zm4 xs (a:=1) (s:=0) hln ⟨by rw [show (0:Rat).num.natAbs=0 from rfl,Zan];exact Nat.zero_le _,by rw [show (0:Rat).den=1 from rfl,hm1];exact Nat.le_refl _⟩).mono (by omega)
 dsimp only
 generalize sumQ 0 xs=S at hL ⊢
 repeat' first|refine Kz ?_|intro _
 refine Ks rfl (Zbi ht (mv:=.slice p5 (mag S.num.natAbs).length c5) (bv:=.slice p6 (mag S.den).length c6) (x:=S) hL) ?_
 repeat' first|refine Kz ?_|intro _
 (refine Zac ?_)
 exact ⟨_,⟨rfl,rfl⟩,Ents.trans Zaa (Zk1 (R:=R))⟩
end Go.Proofs.YtciadfpomkdlnaaGreatDoor.Q
