/- Walks: curves: the value of a formula; Eval. -/
import Derived.Test.YtoednejlfbfciaaGreatDoorKc4
set_option maxHeartbeats 1000000
namespace Go.Sx
open Go
theorem Zki {x:Rat}:∀ {ss:List Seg} {k:Nat} {s:Seg},(∀ j < k,∀ t,ss[j]?=some t→¬ x≤mkRat t.till 1000000)→ss[k]?=some s→x≤mkRat s.till 1000000→segAt ss x=some s
 | [],_,_,_,h,_=>by simp at h
 | t::r,0,s,_,h,hx=>by
  have e:t=s:=Option.some.inj h
  subst e
  unfold segAt
  rw [if_pos hx]
 | t::r,k+1,s,hn,h,hx=>by
  unfold segAt
  rw [if_neg (hn 0 (by omega) t rfl)]
  exact Zki (fun j hj u hu=>hn (j+1) (by omega) u hu) h hx
theorem Zpe {x:Rat} {ss:List Seg} (h:∀ j < ss.length,∀ t,ss[j]?=some t→¬ x≤mkRat t.till 1000000):segAt ss x=none:=by
 induction ss with
 | nil=>rfl
 | cons t r ih =>
  unfold segAt
  rw [if_neg (h 0 (by simp) t rfl)]
  exact ih fun j hj u hu=>h (j+1) (by simp;omega) u hu
def pieceC (ss:List Seg):Nat→List Value
 | 0=>[.int .i64 0,.int .i64 0,.int .i64 0,.int .i64 0,.int .i64 0,.int .i64 0,.int .i64 0,.bool false]
 | k+1=>match ss[k]? with
    | some s=>[.int .i64 s.till,.int .i64 s.mul,.int .i64 s.add,.int .i64 s.num,.int .i64 s.den,.int .i64 s.off,.int .i64 (fromI ss k),.bool (decide (k=0))]
    | none=>[]
theorem Zh2 {ss:List Seg} {k:Nat} {s:Seg} (h:ss[k]?=some s):pieceC ss (k+1)=[.int .i64 s.till,.int .i64 s.mul,.int .i64 s.add,.int .i64 s.num,.int .i64 s.den,.int .i64 s.off,.int .i64 (fromI ss k),.bool (decide (k=0))]:=by show (match ss[k]? with|some s=>_|none=>[])=_;rw [h]
theorem Zme {ss:List Seg}:∀ {k:Nat},k≤ss.length→∃ (v1 v2 v3 v4 v5 v6 f:Int) (b:Bool),pieceC ss k=[.int .i64 v1,.int .i64 v2,.int .i64 v3,.int .i64 v4,.int .i64 v5,.int .i64 v6,.int .i64 f,.bool b]
 | 0,_=>⟨0,0,0,0,0,0,0,false,rfl⟩
 | k+1,h=>by
  obtain ⟨s,hs⟩:∃ s,ss[k]?=some s:=⟨_,List.getElem?_eq_getElem (by omega)⟩
  exact ⟨_,_,_,_,_,_,_,_,Zh2 hs⟩
theorem Zvt {r:Rat}:signI r.num < 0↔r < 0:=by
 have h:r.num < 0↔r < 0:=by
  rw [← Int.not_le,← Rat.not_le]
  exact not_congr Rat.num_nonneg
 rw [← h]
 unfold signI
 split<;>(try split)<;>omega
theorem Zfz:∀ {r:List Seg} {l:Int},segsFrom l r→∀ s∈r,s.fine
 | [],_,_,_,h=>by simp at h
 | t::r,l,h,s,hs=>by
  rcases List.mem_cons.1 hs with e|e
  ·subst e;exact h.1
  ·exact Zfz h.2.2.2 s e
theorem Zsj (s:Seg) (x:Rat):segW s x=((s.mul:Rat) * x+(s.add:Rat)) * (((1000000:Int):Rat))⁻¹:=rfl
end Go.Sx
namespace Go.Proofs.YtoednejlfbfciaaGreatDoor
open Go Go.Sx
variable {w0:World} {As:List Ent} {kv:Int} {tv sv:Value} {tab:List Int} {ss:List Seg}
set_option maxRecDepth 100000 in
theorem Zyt (ht:Tab w0) {s:Seg} (hs:s.fine) {f:Int} {b:Bool} {x:Rat} (hx:Fit 10 x):CQ Tryz.prog w0 120 [pieceV s f b,.agg #[.string ⟨(tN (x)).toArray⟩,.string ⟨(tD (x)).toArray⟩]] As (.tuple #[.agg #[.string ⟨(tN (segW s x)).toArray⟩,.string ⟨(tD (segW s x)).toArray⟩],.int .i64 0]):=by
 obtain ⟨⟨a1,a2⟩,⟨c1,c2⟩,_⟩:=hs
 have g1:Fit 9 ((s.mul:Int):Rat):=Zap (by decide) (by omega)
 have g2:Fit 9 ((s.add:Int):Rat):=Zap (by decide) (by omega)
 have f1:Fit 20 ((s.mul:Rat) * x):=(g1.mul hx).mono (by decide)
 have f2:Fit 40 ((s.mul:Rat) * x+(s.add:Rat)):=(f1.add g2).mono (by decide)
 have g3:Fit 7 (((1000000:Int):Rat)):=Zap (by decide) (by decide)
 have f3:Fit 60 (((s.mul:Rat) * x+(s.add:Rat)) * (((1000000:Int):Rat))⁻¹):=(f2.mul g3.inv).mono (by decide)
 rw [Zsj]
 refine Zab Tryz.func120 rfl Tryz.ntmps120 rfl ?_
 show Tri _ _ _ _ (env0 0 [.agg #[.int .i64 s.till,.int .i64 s.mul,.int .i64 s.add,.int .i64 s.num,.int .i64 s.den,.int .i64 s.off,.int .i64 f,.bool b],.agg #[.string ⟨(tN (x)).toArray⟩,.string ⟨(tD (x)).toArray⟩]]) _ _
 repeat' first|refine Kz ?_|intro _
 rename_i b2 b3 b4
 refine Tri.mid (fun e' As'=>∃ b6,e'=[(2,.pointer (some ⟨b2,0,none⟩)),(4,.pointer (some ⟨b4,0,none⟩)),(6,.pointer (some ⟨b6,0,none⟩)),(7,.int .i64 0)]∧As'=.cl b6 [.string ⟨(tN ((s.mul:Rat) * x)).toArray⟩,.string ⟨(tD ((s.mul:Rat) * x)).toArray⟩] 72::.cl b4 [.string ⟨#[]⟩,.string ⟨#[]⟩] 72::.cl b2 [.int .i64 s.till,.int .i64 s.mul,.int .i64 s.add,.int .i64 s.num,.int .i64 s.den,.int .i64 s.off,.int .i64 f,.bool b] 87::As) ?_ ?_
 ·refine Zaj [.cl b2 [.int .i64 s.till,.int .i64 s.mul,.int .i64 s.add,.int .i64 s.num,.int .i64 s.den,.int .i64 s.off,.int .i64 f,.bool b] 87,.cl b3 [.string ⟨(tN (x)).toArray⟩,.string ⟨(tD (x)).toArray⟩] 72] [] (.take 0 (.take 1 (.take 2 (.take 4 (.all [(3,.all [(5,.take 6 (.take 7 (.take 8 (.all [(9,.all [(10,.take 11 (.done))])])))),(9,.all [(5,.take 6 (.take 7 (.take 8 (.all [(10,.take 11 (.done))]))))])]),(9,.all [(3,.all [(5,.take 6 (.take 7 (.take 8 (.all [(10,.take 11 (.done))]))))])])]))))) ?_
  repeat' first|refine Kf ?_|intro _|constructor
  repeat' (first|(refine T1.callv rfl rfl rfl rfl rfl (Za9 ht (n:=s.mul) (by omega)) ?_;rintro _ _ ⟨rfl,rfl⟩;(repeat' first|refine Kf ?_|intro _|constructor))|(refine T1.callv rfl rfl rfl rfl rfl (Q.Z18 ht (r:=(s.mul:Rat)) (s:=x) (g1.mono (by decide)) (hx.mono (by decide)) (f1.mono (by decide))) ?_;rintro _ _ ⟨rfl,rfl⟩;(repeat' first|refine Kf ?_|intro _|constructor)))
  all_goals exact Post.cut _ _ ⟨_,rfl,rfl⟩ Zae Zaa
 rintro _ _ ⟨b6,rfl,rfl⟩
 repeat' first|refine Kz ?_|intro _
 refine Tri.mid (fun e' As'=>∃ b8,e'=[(4,.pointer (some ⟨b4,0,none⟩)),(8,.pointer (some ⟨b8,0,none⟩)),(7,.int .i64 0)]∧As'=.cl b8 [.string ⟨(tN ((s.mul:Rat) * x+(s.add:Rat))).toArray⟩,.string ⟨(tD ((s.mul:Rat) * x+(s.add:Rat))).toArray⟩] 72::.cl b4 [.string ⟨#[]⟩,.string ⟨#[]⟩] 72::As) ?_ ?_
 ·refine Zaj [.cl b2 [.int .i64 s.till,.int .i64 s.mul,.int .i64 s.add,.int .i64 s.num,.int .i64 s.den,.int .i64 s.off,.int .i64 f,.bool b] 87,.cl b6 [.string ⟨(tN ((s.mul:Rat) * x)).toArray⟩,.string ⟨(tD ((s.mul:Rat) * x)).toArray⟩] 72] [] (.take 0 (.take 1 (.take 2 (.take 3 (.all [(4,.all [(5,.take 6 (.take 7 (.take 8 (.all [(9,.all [(10,.take 11 (.done))])])))),(9,.all [(5,.take 6 (.take 7 (.take 8 (.all [(10,.take 11 (.done))]))))])]),(9,.all [(4,.all [(5,.take 6 (.take 7 (.take 8 (.all [(10,.take 11 (.done))]))))])])]))))) ?_
  repeat' first|refine Kf ?_|intro _|constructor
  repeat' (first|(refine T1.callv rfl rfl rfl rfl rfl (Za9 ht (n:=s.add) (by omega)) ?_;rintro _ _ ⟨rfl,rfl⟩;(repeat' first|refine Kf ?_|intro _|constructor))|(refine T1.callv rfl rfl rfl rfl rfl (Q.Z2h ht (r:=(s.mul:Rat) * x) (s:=(s.add:Rat)) (f1.mono (by decide)) (g2.mono (by decide)) (f2.mono (by decide))) ?_;rintro _ _ ⟨rfl,rfl⟩;(repeat' first|refine Kf ?_|intro _|constructor)))
  all_goals exact Post.cut _ _ ⟨_,rfl,rfl⟩ Zae Zaa
 rintro _ _ ⟨b8,rfl,rfl⟩
 repeat' first|refine Kz ?_|intro _
 refine Zaj [.cl b8 [.string ⟨(tN ((s.mul:Rat) * x+(s.add:Rat))).toArray⟩,.string ⟨(tD ((s.mul:Rat) * x+(s.add:Rat))).toArray⟩] 72] [] (.take 0 (.all [(1,.all [(2,.take 3 (.take 4 (.all [(5,.take 6 (.done))])))])])) ?_
 repeat' first|refine Kf ?_|intro _|constructor
 refine T1.callv rfl rfl rfl rfl rfl (Za9 ht (n:=1000000) (by decide)) ?_;rintro _ _ ⟨rfl,rfl⟩;(repeat' first|refine Kf ?_|intro _|constructor)
 refine T1.callv rfl rfl rfl rfl rfl (Q.Z2e ht (r:=(s.mul:Rat) * x+(s.add:Rat)) (s:=((1000000:Int):Rat)) (f2.mono (by decide)) (g3.mono (by decide)) (by decide) (f3.mono (by decide))) ?_;rintro _ _ ⟨rfl,rfl⟩;(repeat' first|refine Kf ?_|intro _|constructor)
 exact Kv
theorem Zpl (ht:Tab w0) {n:Int} (hn:-1000000000000≤n∧n≤1000000000000):CQ Tryz.prog w0 119 [.int .i64 n,.int .i64 1000000] As (.agg #[.string ⟨(tN (mkRat n 1000000)).toArray⟩,.string ⟨(tD (mkRat n 1000000)).toArray⟩]):=Zs1 ht (n:=n) (d:=1000000) hn (by decide)
theorem Zn5 (ht:Tab w0) {y u:Rat} {b14 b10:Nat} (hy:Fit 600 y) (hu:Fit 600 u) (h:Fit 600 (y * u)):CallsS Tryz.prog w0 122 [.pointer (some ⟨b14,0,none⟩),.pointer (some ⟨b10,0,none⟩)] (.cl b14 [.string ⟨(tN (y)).toArray⟩,.string ⟨(tD (y)).toArray⟩] 72::.cl b10 [.string ⟨(tN (u)).toArray⟩,.string ⟨(tD (u)).toArray⟩] 72::As) fun r Bs=>r=.int .i64 0∧Bs=.cl b14 [.string ⟨(tN (y * u)).toArray⟩,.string ⟨(tD (y * u)).toArray⟩] 72::.cl b10 [.string ⟨(tN (u)).toArray⟩,.string ⟨(tD (u)).toArray⟩] 72::As:=by
 refine Zab Tryz.func122 rfl Tryz.ntmps122 rfl ?_
 repeat' first|refine Kz ?_|intro _
 refine Ks rfl (Q.Z18 ht hy hu h) ?_
 repeat' first|refine Kz ?_|intro _
 exact Kv
set_option maxRecDepth 100000 in
set_option maxHeartbeats 4000000 in
theorem Zrb (ht:Tab w0) [RdIn As sv Seg cSeg ss] (hl:ss.length≤1000000000) (hss:segsFrom 0 ss) (h0:ss≠[]) (hex:∀ s∈ss,s.den=1) {g:Int} (g0:0≤g) (g1:g≤10000) (_htv:tv.oneCell'=true) :
  CallsS Tryz.prog w0 76 [.agg #[.int .i64 kv,tv,sv],.agg #[.string ⟨(tN (mkRat g 10000)).toArray⟩,.string ⟨(tD (mkRat g 10000)).toArray⟩]] As fun u Bs=>∃ s,segAt ss (mkRat g 10000)=some s∧s∈ss∧u=.tuple #[.agg #[.string ⟨(tN (segQ s (mkRat g 10000))).toArray⟩,.string ⟨(tD (segQ s (mkRat g 10000))).toArray⟩],.int .i64 0]∧Bs=As:=by
 refine Zad sv fun p1 c1 e1=>?_
 subst e1
 obtain ⟨x0,x1⟩:=Zif g0 g1
 have hx:=Zky g0 g1
 have hfit:=fun (s:Seg) (hs:s.fine)=>(⟨Zkf hs g0 g1,Zpd hs g0 g1,fun n (hn:n≤36)=>Zkh hs g0 g1 hn,fun n (hn:n≤36)=>Zkg hs g0 g1 hn⟩:Fit 13 (segW s (mkRat g 10000))∧Fit 13 (segU s (mkRat g 10000))∧(∀ n:Nat,n≤36→Fit 469 (segU s (mkRat g 10000) ^ n))∧(∀ n:Nat,n≤36→Fit 479 (segU s (mkRat g 10000) ^ n+mkRat s.off 1000000)))
 generalize mkRat g 10000=x at *
 have hok:=(Zvx.1 hss).1
 obtain ⟨s0,hs0,_⟩:=Zhh x1 hss h0
 refine Zab Tryz.func76 rfl Tryz.ntmps76 rfl ?_
 show Tri _ _ _ _ (env0 0 [.agg #[.int .i64 kv,tv,.slice p1 ss.length c1],.agg #[.string ⟨(tN (x)).toArray⟩,.string ⟨(tD (x)).toArray⟩]]) _ _
 repeat' first|refine Kz ?_|intro _
 rename_i b2 b3 b4 b6
 refine TL.callv rfl rfl rfl rfl Zh1 ?_
 rintro _ _ ⟨bp,rfl,rfl⟩
 repeat' first|refine Kz ?_|intro _
 refine Zfp rfl (fun pd As'=>pd=some (.exit 0)∧∃ k s,ss[k]?=some s∧segAt ss x=some s∧As'=.cl b2 [.int .i64 kv,tv,.slice p1 ss.length c1] 113::.cl b3 [.string ⟨(tN (x)).toArray⟩,.string ⟨(tD (x)).toArray⟩] 72::.cl b4 [.string ⟨#[]⟩,.string ⟨#[]⟩] 72::.cl b6 [.int .i64 s.till,.int .i64 s.mul,.int .i64 s.add,.int .i64 s.num,.int .i64 s.den,.int .i64 s.off,.int .i64 (fromI ss k),.bool (decide (k=0))] 87::As) ?_ ?_ ?_
 ·intro L l rb hL1 hL2 hL3 hL4 hL5 hokA
  refine CallsS.ents ?_ (CallsS.mono (Zgl (L:=L) (l:=l) (b:=bp) (kv:=kv) (tv:=tv) (sv:=.slice p1 ss.length c1) (ss:=ss) (As:=As) (Y:=fun k=>[.ob rb (.deferred (some [])),.cl b2 [.int .i64 kv,tv,.slice p1 ss.length c1] 113,.cl b3 [.string ⟨(tN (x)).toArray⟩,.string ⟨(tD (x)).toArray⟩] 72,.cl b4 [.string ⟨#[]⟩,.string ⟨#[]⟩] 72,.cl b6 (pieceC ss k) 87])
   (I:=fun k=>∀ j < k,∀ t,ss[j]?=some t→¬ x≤mkRat t.till 1000000)
   (R:=fun k Z=>∃ s,ss[k]?=some s∧segAt ss x=some s∧Z=[.ob l (.loop { L with state:=.done,pending:=some (.exit 0) }),.ob rb (.deferred (some [])),.cl b2 [.int .i64 kv,tv,.slice p1 ss.length c1] 113,.cl b3 [.string ⟨(tN (x)).toArray⟩,.string ⟨(tD (x)).toArray⟩] 72,.cl b4 [.string ⟨#[]⟩,.string ⟨#[]⟩] 72,.cl b6 [.int .i64 s.till,.int .i64 s.mul,.int .i64 s.add,.int .i64 s.num,.int .i64 s.den,.int .i64 s.off,.int .i64 (fromI ss k),.bool (decide (k=0))] 87])
   hl (by rw [hL3];rfl) (fun j h=>by omega) ?_) ?_)
  ·simp only [List.cons_append,List.nil_append,pieceC]
   (exact Zaa)
  ·intro k s hk hs hI F
   have hpc:=Zh2 hs
   have hsk:=hok k hk s hs
   have hst:¬ x≤mkRat s.till 1000000→∀ j < k+1,∀ t,ss[j]?=some t→¬ x≤mkRat t.till 1000000:=fun h j hj t ht=>by
        rcases Nat.lt_or_ge j k with h1|h1
        ·exact hI j h1 t ht
        ·have e:j=k:=by omega
         subst e
         rw [hs] at ht
         rw [← Option.some.inj ht];exact h
   have hat:x≤mkRat s.till 1000000→segAt ss x=some s:=fun h=>Zki hI hs h
   have hfr:=Zkz (k:=k) (fun j hj=>hok j (by omega)) (by omega)
   have ht0:0≤s.till∧s.till≤1000000:=⟨by have:=hsk.2.1;omega,hsk.2.2⟩
   have ho:ordQ x (mkRat s.till 1000000)≤0↔x≤mkRat s.till 1000000:=by rw [← Int.not_lt,Zks,Rat.not_lt]
   have hq:Fit 600 (mkRat s.till 1000000):=(Zdk (k:=8) (by decide) (by decide) (by omega) (by decide)).mono (by decide)
   obtain ⟨v1,v2,v3,v4,v5,v6,f0,b0,hp8⟩:=Zme (ss:=ss) (k:=k) (by omega)
   rw [hp8]
   generalize fromI ss k=fr at *
   generalize decide (k=0)=bk at *
   refine YieldS.of (ps:=[20]) hL3 hL4 hL5 rfl (by decide) hokA ?_
   show Tri _ _ _ _ ((20,.agg #[.int .i64 s.till,.int .i64 s.mul,.int .i64 s.add,.int .i64 s.num,.int .i64 s.den,.int .i64 s.off,.int .i64 fr,.bool bk])::_) (.ob l (.loop L)::.ob rb _::.cl b2 _ _::.cl b3 _ _::.cl b4 _ _::.cl b6 _ _::F) _
   repeat' first|refine Kz ?_|intro _
   refine Post.beginRound hL1 ?_
   repeat' first|refine Kz ?_|intro _
   rename_i b7
   refine Zaj [.cl b3 [.string ⟨(tN (x)).toArray⟩,.string ⟨(tD (x)).toArray⟩] 72,.cl b7 [.int .i64 s.till,.int .i64 s.mul,.int .i64 s.add,.int .i64 s.num,.int .i64 s.den,.int .i64 s.off,.int .i64 fr,.bool bk] 87] [] (.take 0 (.take 1 (.take 2 (.take 3 (.all [(4,.all [(5,.take 6 (.take 7 (.take 8 (.take 9 (.take 10 (.done))))))])]))))) ?_
   repeat' first|refine Kf ?_|intro _|constructor
   repeat' (first|(refine T1.callv rfl rfl rfl rfl rfl (Zpl ht (n:=s.till) (by omega)) ?_;rintro _ _ ⟨rfl,rfl⟩;(repeat' first|refine Kf ?_|intro _|constructor))|(refine T1.callv rfl rfl rfl rfl rfl (Q.Z2f (r:=x) (s:=mkRat s.till 1000000) (hx.mono (by decide)) hq) ?_;rintro _ _ ⟨rfl,rfl⟩;(repeat' first|refine Kf ?_|intro _|constructor)))
   all_goals by_cases hle:x≤mkRat s.till 1000000
   all_goals have ho1:=ho
   all_goals first|(have h1:=ho1.2 hle;(repeat' first|refine Kf ?_|intro _|constructor);refine Zha ⟨_,.inr ⟨rfl,_,⟨s,hs,hat hle,rfl⟩,rfl⟩,?_⟩;simp only [List.cons_append,List.nil_append];(exact Zaa))|(have h1:=fun g=>hle (ho1.1 g);(repeat' first|refine Kf ?_|intro _|constructor);refine Post.endRound ⟨_,.inl ⟨rfl,hst hle,rfl⟩,?_⟩;simp only [List.cons_append,List.nil_append,hpc];rw [show ({ L with state:=.ready,pending:=none }:Loop)=L from by cases L;simp only at hL1 hL2;subst hL1 hL2;rfl];(exact Zaa))
  ·rintro v Bs (⟨hI,rfl⟩|⟨k,Z,hk,⟨s,hs,hv,rfl⟩,rfl⟩)
   ·rw [Zpe hI] at hs0;cases hs0
   ·refine ⟨.done,some (.exit 0),_,⟨rfl,k,s,hs,hv,rfl⟩,by simp,?_⟩
    simp only [List.cons_append,List.nil_append]
    (exact Zaa)
 ·rintro As' ⟨h,_⟩
  cases h
 ·rintro c As' ⟨h,k,s,hs,hat,rfl⟩
  cases h
  intro rb
  have hsk:=hok k (List.getElem?_eq_some_iff.1 hs).1 s hs
  have hd:=hex s (List.mem_of_getElem? hs)
  have hsm:=List.mem_of_getElem? hs
  obtain ⟨fW,fU,fP,fS⟩:=hfit s hsk.1
  generalize fromI ss k=fr at *
  generalize decide (k=0)=bk at *
  obtain ⟨⟨n0,n1⟩,_⟩:=hsk.1.2.2.2
  have hof:=hsk.1.2.2.1
  have hsg:=@Zvt (segW s x)
  have hoF:=Zs5 hsk.1
  have fS':=fS s.num.toNat (by omega)
  have f1U:Fit 469 (segU s x):=by have:=fP 1 (by decide);rwa [show segU s x ^ 1=segU s x by rw [show (1:Nat)=0+1 from rfl,Rat.pow_succ,Rat.pow_zero,Rat.one_mul]] at this
  have hy0:segU s x ^ (0+1)=segU s x:=by rw [Rat.pow_succ,Rat.pow_zero,Rat.one_mul]
  repeat' first|refine Kz ?_|intro _
  refine Ks rfl (Zyt ht hsk.1 (f:=fr) (b:=bk) (x:=x) (hx.mono (by decide))) ?_
  repeat' first|refine Kz ?_|intro _
  rename_i b10
  refine Ks rfl (Q.Z1a (r:=segW s x) (fW.mono (by decide))) ?_
  by_cases hneg:segW s x < 0
  rotate_left
  have hU:segU s x=segW s x:=if_neg hneg
  have h1:=fun g=>hneg (hsg.1 g)
  rw [← hU]
  rw [← hU] at h1
  repeat' first|refine Kz ?_|intro _
  rename_i b14
  rotate_left
  have hU:segU s x=((0:Int):Rat):=if_pos hneg
  have h1:=hsg.2 hneg
  repeat' first|refine Kz ?_|intro _
  refine TL.callv rfl rfl rfl rfl (Za9 ht (n:=0) (by decide)) ?_
  rw [← hU]
  rintro _ _ ⟨rfl,rfl⟩
  repeat' first|refine Kz ?_|intro _
  rename_i b14
  rotate_left
  all_goals
   refine Tri.loop (ι:=Nat) (fun k=>(k:Int)≤s.num - 1) (fun k=>(s.num - 1).toNat - k) (fun k=>[(4,.pointer (some ⟨b4,0,none⟩)),(6,.pointer (some ⟨b6,0,none⟩)),(10,.pointer (some ⟨b10,0,none⟩)),(14,.pointer (some ⟨b14,0,none⟩)),(15,.func (.func 122) #[] #[.pointer (some ⟨b14,0,none⟩),.pointer (some ⟨b10,0,none⟩)]),(61,.int .i64 (s.num - 1)),(62,.int .i64 k)]) (fun k=>.cl b14 [.string ⟨(tN (segU s x ^ (k+1))).toArray⟩,.string ⟨(tD (segU s x ^ (k+1))).toArray⟩] 72::.cl b10 [.string ⟨(tN (segU s x)).toArray⟩,.string ⟨(tD (segU s x)).toArray⟩] 72::.cl b4 [.string ⟨#[]⟩,.string ⟨#[]⟩] 72::.cl b6 [.int .i64 s.till,.int .i64 s.mul,.int .i64 s.add,.int .i64 s.num,.int .i64 s.den,.int .i64 s.off,.int .i64 fr,.bool bk] 87::.ob rb (.deferred (some []))::As) 0 (by show ((0:Nat):Int)≤s.num - 1;omega) Zae (by simp only [hy0];(exact Zaa)) ?_
   intro k hk
   repeat' first|refine Kz ?_|intro _
   (refine Kx (fun hc=>?_) fun hc=>?_)
   ·have hp:segU s x ^ (k+1) * segU s x=segU s x ^ (k+1+1):=(Rat.pow_succ ..).symm
    repeat' first|refine Kz ?_|intro _
    refine TL.callv (fst:=[]) rfl rfl rfl rfl (Zn5 ht (y:=segU s x ^ (k+1)) (u:=segU s x) ((fP (k+1) (by omega)).mono (by decide)) (f1U.mono (by decide)) (by rw [hp];exact (fP (k+1+1) (by omega)).mono (by decide))) ?_
    rw [hp]
    rintro _ _ ⟨rfl,rfl⟩
    repeat' first|refine Kz ?_|intro _
    exact Post.round (k+1) (by omega) (by omega) Zae Zaa
   ·have hk1:k+1=s.num.toNat:=by omega
    rw [hk1]
    have fY:=fP s.num.toNat (by omega)
    repeat' first|refine Kz ?_|intro _
    refine Zaj [.cl b6 [.int .i64 s.till,.int .i64 s.mul,.int .i64 s.add,.int .i64 s.num,.int .i64 s.den,.int .i64 s.off,.int .i64 fr,.bool bk] 87] [(0,.c b14)] (.take 0 (.take 1 (.take 2 (.take 3 (.all [(4,.all [(5,.take 6 (.take 7 (.take 8 (.all [(9,.take 10 (.done))]))))])]))))) ?_
    repeat' first|refine Kf ?_|intro _|constructor
    repeat' (first|(refine T1.callv rfl rfl rfl rfl rfl (Zpl ht (n:=s.off) (by omega)) ?_;rintro _ _ ⟨rfl,rfl⟩;(repeat' first|refine Kf ?_|intro _|constructor))|(refine T1.callv rfl rfl rfl rfl rfl (Q.Z2h ht (r:=segU s x ^ s.num.toNat) (s:=mkRat s.off 1000000) (fY.mono (by decide)) (hoF.mono (by decide)) (fS'.mono (by decide))) ?_;rintro _ _ ⟨rfl,rfl⟩;(repeat' first|refine Kf ?_|intro _|constructor)))
    all_goals refine TL.callv rfl rfl rfl rfl (Zdd ht (x:=segU s x ^ s.num.toNat+mkRat s.off 1000000) (fS'.mono (by decide))) ?_
    all_goals rintro _ _ ⟨rfl,rfl⟩
    all_goals (repeat' first|refine Kf ?_|intro _|constructor)
    all_goals refine Zc4 ?_
    all_goals (refine Zac ?_)
    all_goals exact ⟨_,⟨s,hat,hsm,rfl,rfl⟩,Zaa⟩
theorem Zm2 {x:Rat}:CQ Tryz.prog w0 74 [.agg #[.int .i64 kv,tv,sv],.agg #[.string ⟨(tN (x)).toArray⟩,.string ⟨(tD (x)).toArray⟩]] As (.tuple #[.agg #[.string ⟨(tN (x)).toArray⟩,.string ⟨(tD (x)).toArray⟩],.int .i64 0]):=by
 refine Zab Tryz.func74 rfl Tryz.ntmps74 rfl ?_
 repeat' first|refine Kz ?_|intro _
 exact Kv
set_option maxRecDepth 100000 in
set_option maxHeartbeats 2000000 in
theorem Zyw (ht:Tab w0) [RdIn As tv Int (cI .i64) tab] [RdIn As sv Seg cSeg ss] (hl:tab.length≤1000000000) (hl':ss.length≤1000000000) (hc:Crv.ok ⟨kv,tab,ss⟩) (hx:Crv.exact ⟨kv,tab,ss⟩) {g:Int} (g0:0≤g) (g1:g≤10000) :
  CallsS Tryz.prog w0 51 [.agg #[.int .i64 kv,tv,sv],.agg #[.string ⟨(tN (mkRat g 10000)).toArray⟩,.string ⟨(tD (mkRat g 10000)).toArray⟩]] As fun u Bs=>∃ y,crvQ ⟨kv,tab,ss⟩ (mkRat g 10000)=.inr y∧Fit 500 y∧u=.tuple #[.agg #[.string ⟨(tN (y)).toArray⟩,.string ⟨(tD (y)).toArray⟩],.int .i64 0]∧Bs=As:=by
 refine Zad tv fun p0 c0 e0=>Zad sv fun p1 c1 e1=>?_
 subst e0 e1
 have hcl:=Zgo g0 g1
 have hfx:=Zky g0 g1
 obtain ⟨x0,x1⟩:=Zif g0 g1
 have he0:crvE ⟨kv,tab,ss⟩=0:=by unfold crvE;rw [if_pos hc]
 refine Zab Tryz.func51 rfl Tryz.ntmps51 rfl ?_
 show Tri _ _ _ _ (env0 0 [.agg #[.int .i64 kv,.slice p0 tab.length c0,.slice p1 ss.length c1],.agg #[.string ⟨(tN (mkRat g 10000)).toArray⟩,.string ⟨(tD (mkRat g 10000)).toArray⟩]]) _ _
 repeat' first|refine Kz ?_|intro _
 refine TL.callv rfl rfl rfl rfl (Zd5 (kv:=kv) (tv:=.slice p0 tab.length c0) (tab:=tab) (sv:=.slice p1 ss.length c1) (ss:=ss) hl hl') ?_
 rw [he0]
 rintro _ _ ⟨rfl,rfl⟩
 repeat' first|refine Kz ?_|intro _
 refine Ks rfl (Q.Z0n (r:=mkRat g 10000) (hfx.mono (by decide))) ?_
 repeat' first|refine Kz ?_|intro _
 rename_i b2 b3 b4 b8
 refine Tri.mid (fun e' As'=>∃ y,crvQ ⟨kv,tab,ss⟩ (mkRat g 10000)=.inr y∧Fit 500 y∧e'=[(4,.pointer (some ⟨b4,0,none⟩)),(5,.int .i64 0)]∧As'=.cl b4 [.string ⟨(tN (y)).toArray⟩,.string ⟨(tD (y)).toArray⟩] 72::As) ?_ ?_
 ·unfold crvQ
  simp only [hcl]
  rcases hc with ⟨hk,_,_⟩|⟨hk,h2,hv,_⟩|⟨hk,_,h1,hs⟩
  ·have hk':kv=1:=hk
   subst hk'
   refine Zaj [.cl b8 [.func (.func 74) #[] #[],.func (.func 75) #[] #[],.func (.func 76) #[] #[]] 114,.cl b2 [.int .i64 1,.slice p0 tab.length c0,.slice p1 ss.length c1] 25,.cl b3 [.string ⟨(tN (mkRat g 10000)).toArray⟩,.string ⟨(tD (mkRat g 10000)).toArray⟩] 72] [] (.take 0 (.take 1 (.take 2 (.take 3 (.take 4 (.take 5 (.take 6 (.take 7 (.all [(8,.all [(9,.take 10 (.take 11 (.all [(12,.take 13 (.done))])))])]))))))))) ?_
   repeat' first|refine Kf ?_|intro _|constructor
   refine Ku rfl (Zdd ht (x:=mkRat g 10000) (hfx.mono (by decide))) ?_
   rw [hcl]
   repeat' first|refine Kf ?_|intro _|constructor
   refine Ku rfl (Zm2) ?_
   repeat' first|refine Kf ?_|intro _|constructor
   exact Post.cut _ _ ⟨_,rfl,hfx.mono (by decide),rfl,rfl⟩ Zae Zaa
  ·have hk':kv=2:=hk
   subst hk'
   refine Zaj [.cl b8 [.func (.func 74) #[] #[],.func (.func 75) #[] #[],.func (.func 76) #[] #[]] 114,.cl b2 [.int .i64 2,.slice p0 tab.length c0,.slice p1 ss.length c1] 25,.cl b3 [.string ⟨(tN (mkRat g 10000)).toArray⟩,.string ⟨(tD (mkRat g 10000)).toArray⟩] 72] [] (.take 0 (.take 1 (.take 2 (.take 3 (.take 4 (.take 5 (.take 6 (.take 7 (.all [(8,.all [(9,.take 10 (.take 11 (.all [(12,.take 13 (.done))])))])]))))))))) ?_
   repeat' first|refine Kf ?_|intro _|constructor
   refine Ku rfl (Zdd ht (x:=mkRat g 10000) (hfx.mono (by decide))) ?_
   rw [hcl]
   repeat' first|refine Kf ?_|intro _|constructor
   refine Ku rfl (Zvk ht (kv:=2) (tv:=.slice p0 tab.length c0) (sv:=.slice p1 ss.length c1) (tab:=tab) (k:=5) hfx (by decide) x0 x1 h2 hv) ?_
   repeat' first|refine Kf ?_|intro _|constructor
   exact Post.cut _ _ ⟨_,rfl,(Zkb hfx h2 hv).2.2.2.mono (by decide),rfl,rfl⟩ Zae Zaa
  ·have hk':kv=3:=hk
   subst hk'
   refine Zaj [.cl b8 [.func (.func 74) #[] #[],.func (.func 75) #[] #[],.func (.func 76) #[] #[]] 114,.cl b2 [.int .i64 3,.slice p0 tab.length c0,.slice p1 ss.length c1] 25,.cl b3 [.string ⟨(tN (mkRat g 10000)).toArray⟩,.string ⟨(tD (mkRat g 10000)).toArray⟩] 72] [] (.take 0 (.take 1 (.take 2 (.take 3 (.take 4 (.take 5 (.take 6 (.take 7 (.all [(8,.all [(9,.take 10 (.take 11 (.all [(12,.take 13 (.done))])))])]))))))))) ?_
   repeat' first|refine Kf ?_|intro _|constructor
   refine Ku rfl (Zdd ht (x:=mkRat g 10000) (hfx.mono (by decide))) ?_
   rw [hcl]
   repeat' first|refine Kf ?_|intro _|constructor
   refine T1.callv rfl rfl rfl rfl rfl (Zrb ht (kv:=3) (tv:=.slice p0 tab.length c0) (sv:=.slice p1 ss.length c1) (ss:=ss) hl' hs (by intro h;subst h;simp at h1) hx g0 g1 rfl) ?_
   rintro _ _ ⟨s,hs1,hs2,rfl,rfl⟩
   repeat' first|refine Kf ?_|intro _|constructor
   exact Post.cut _ _ ⟨segQ s (mkRat g 10000),by rw [if_neg (by decide),if_neg (by decide),hs1];exact if_pos (hx s hs2),(Zmx (Zkg (Zfz hs s hs2) g0 g1 (by have:=(Zfz hs s hs2).2.2.2.1;omega))).mono (by decide),rfl,rfl⟩ Zae Zaa
 ·rintro _ _ ⟨y,hy,hf,rfl,rfl⟩
  repeat' first|refine Kz ?_|intro _
  (refine Zac ?_)
  exact ⟨_,⟨y,hy,hf,rfl,rfl⟩,Zaa⟩
end Go.Proofs.YtoednejlfbfciaaGreatDoor
