/- Walks: intent: what press computes; what the deferred literals do. -/
import Derived.Test.YtbfgldlfciimiaaGreatDoorNw1
import Derived.Test.YtbfgldlfciimiaaGreatDoorNp1
set_option maxHeartbeats 1000000
namespace Go.Sx
open Go
def frN:Int ⊕ List Rat→Nat→List UInt8
 | .inl _,_=>[]
 | .inr l,i=>tN (l[i]?.getD 0)
def frD:Int ⊕ List Rat→Nat→List UInt8
 | .inl _,_=>[]
 | .inr l,i=>tD (l[i]?.getD 0)
def errO:Int ⊕ List Rat→Int
 | .inl e=>e
 | .inr _=>0
def triR (o:Int ⊕ List Rat):Value:=.tuple #[.agg #[.string ⟨(frN o 0).toArray⟩,.string ⟨(frD o 0).toArray⟩,.string ⟨(frN o 1).toArray⟩,.string ⟨(frD o 1).toArray⟩,.string ⟨(frN o 2).toArray⟩,.string ⟨(frD o 2).toArray⟩],.int .i64 (errO o)]
end Go.Sx
namespace Go.Proofs.YtbfgldlfciimiaaGreatDoor
open Go Go.Sx
variable {w0:World} {As:List Ent} {pv fv:Value} {pts fcs:List V3}
theorem Znc {e:Int}:CQ Tryz.prog w0 37 [errJ e] As (.int .i64 e):=by
 refine Zab Tryz.func37 rfl Tryz.ntmps37 rfl ?_
 repeat' first|refine Kz ?_|intro _
 refine TL.f rfl rfl (Zea rfl rfl) ?_
 repeat' first|refine Kz ?_|intro _
 exact Kv
theorem Z6n (ht:Tab w0) {k m:Int} (h0:0≤k) (h1:k < 1000) (h2:1000 < m) (h3:m≤10000) :
  CallsS Tryz.prog w0 46 [.int .i64 k,.int .i64 m] As fun r Bs=>∃ b1 b2 b3,r=.func (.func 80) #[] #[.pointer (some ⟨b1,0,none⟩),.pointer (some ⟨b2,0,none⟩),.pointer (some ⟨b3,0,none⟩)] ∧
   Bs=.cl b1 [.string ⟨(tN 1).toArray⟩,.string ⟨(tD 1).toArray⟩] 47::.cl b2 [.string ⟨(tN (qI k 1000)).toArray⟩,.string ⟨(tD (qI k 1000)).toArray⟩] 47::.cl b3 [.string ⟨(tN (qI m 1000)).toArray⟩,.string ⟨(tD (qI m 1000)).toArray⟩] 47::As:=by
 refine Zab Tryz.func46 rfl Tryz.ntmps46 rfl ?_
 repeat' first|refine Kz ?_|intro _
 refine TL.callv rfl rfl rfl rfl (Zco ht (n:=1) (by decide)) ?_
 rw [show ((1:Int):Rat)=1 from rfl]
 rintro _ _ ⟨rfl,rfl⟩
 repeat' first|refine Kz ?_|intro _
 refine Ks rfl (Zg0 ht (n:=k) (d:=1000) (by omega) (by decide) (by decide)) ?_
 repeat' first|refine Kz ?_|intro _
 refine Kt rfl Zba ?_
 repeat' first|refine Kz ?_|intro _
 refine Ks rfl (Zg0 ht (n:=m) (d:=1000) (by omega) (by decide) (by decide)) ?_
 repeat' first|refine Kz ?_|intro _
 refine Kt rfl Zba ?_
 repeat' first|refine Kz ?_|intro _
 (refine Zac ?_)
 exact ⟨_,⟨_,_,_,rfl,rfl⟩,Zaa⟩
set_option maxRecDepth 100000 in
set_option maxHeartbeats 4000000 in
theorem Z2e (ht:Tab w0) {b1 b2 b3:Nat} {k m:Int} {t:Rat} (h0:0≤k) (h1:k < 1000) (h2:1000 < m) (h3:m≤10000) (hf:Fit 19 t) (hp:0 < t) :
  CallsS Tryz.prog w0 80 [frV t,.pointer (some ⟨b1,0,none⟩),.pointer (some ⟨b2,0,none⟩),.pointer (some ⟨b3,0,none⟩)] (.cl b1 [.string ⟨(tN 1).toArray⟩,.string ⟨(tD 1).toArray⟩] 47::.cl b2 [.string ⟨(tN (qI k 1000)).toArray⟩,.string ⟨(tD (qI k 1000)).toArray⟩] 47::.cl b3 [.string ⟨(tN (qI m 1000)).toArray⟩,.string ⟨(tD (qI m 1000)).toArray⟩] 47::As)
   fun r Bs=>∃ s,pressQ k m t=.inr s∧r=frV s∧Bs=.cl b1 [.string ⟨(tN 1).toArray⟩,.string ⟨(tD 1).toArray⟩] 47::.cl b2 [.string ⟨(tN (qI k 1000)).toArray⟩,.string ⟨(tD (qI k 1000)).toArray⟩] 47::.cl b3 [.string ⟨(tN (qI m 1000)).toArray⟩,.string ⟨(tD (qI m 1000)).toArray⟩] 47::As:=by
 obtain ⟨f1,f2,f3,f4,f5,f6,f7,f8⟩:=Zot h0 h1 h2 h3 hf
 have fk:=Zhn (n:=k) h0 (by omega)
 have fm:=Zhn (n:=m) (by omega) h3
 have hne:=Ya6 h1 h2
 have ht0:t≠0:=by grind
 unfold pressQ
 rw [if_neg ht0]
 rw [Rat.one_mul] at f1 f2 f4 f6 f7 f8
 generalize qI k 1000=K at *
 generalize qI m 1000=M at *
 have hdv:=fun Bs:List Ent=>Q.Yhj (w0:=w0) (As:=Bs) ht (r:=1) (s:=t) (fit1.mono (by decide)) (hf.mono (by decide)) ht0 (by rw [Rat.one_mul];exact f1.mono (by decide))
 rw [Rat.one_mul] at hdv
 generalize t⁻¹=D at *
 have o1:=@Zqh D K
 have o2:=@Zvd D M
 refine Zab Tryz.func80 rfl Tryz.ntmps80 rfl ?_
 show Tri _ _ _ _ (env0 0 [.agg #[.string ⟨(tN t).toArray⟩,.string ⟨(tD t).toArray⟩],.pointer (some ⟨b1,0,none⟩),.pointer (some ⟨b2,0,none⟩),.pointer (some ⟨b3,0,none⟩)]) _ _
 repeat' first|refine Kz ?_|intro _
 rename_i c4 c5
 refine Ks rfl (hdv _) ?_
 repeat' first|refine Kz ?_|intro _
 refine Kt rfl Zba ?_
 repeat' first|refine Kz ?_|intro _
 rename_i c6
 refine Ks rfl (Q.Yhn (r:=D) (s:=K) (f1.mono (by decide)) (fk.mono (by decide))) ?_
 repeat' first|refine Kz ?_|intro _
 refine Kt rfl Ze9 ?_
 by_cases q1:D≤K
 ·have o3:ordQ D K≤0:=Int.not_lt.1 fun h=>Rat.not_lt.2 q1 (o1.1 h)
  rw [if_pos q1]
  generalize ordQ D K=O at *
  repeat' first|refine Kz ?_|intro _
  (refine Zac ?_)
  exact ⟨_,⟨1,rfl,rfl,rfl⟩,Zaa⟩
 ·have o3:¬ ordQ D K≤0:=by have:=o1.2 (Rat.not_le.1 q1);omega
  rw [if_neg q1]
  generalize ordQ D K=O at *
  repeat' first|refine Kz ?_|intro _
  refine Ks rfl (Q.Yhn (r:=D) (s:=M) (f1.mono (by decide)) (fm.mono (by decide))) ?_
  repeat' first|refine Kz ?_|intro _
  refine Kt rfl Ze9 ?_
  by_cases q2:M≤D
  ·have o4:0≤ordQ D M:=Int.not_lt.1 fun h=>Rat.not_lt.2 q2 (o2.1 h)
   rw [if_pos q2]
   generalize ordQ D M=O' at *
   repeat' first|refine Kz ?_|intro _
   (refine Zac ?_)
   exact ⟨_,⟨t,rfl,rfl,rfl⟩,Zaa⟩
  ·have o4:¬ 0≤ordQ D M:=by have:=o2.2 (Rat.not_le.1 q2);omega
   rw [if_neg q2]
   generalize ordQ D M=O' at *
   repeat' first|refine Kz ?_|intro _
   refine Tri.mid (fun e' As'=>∃ c7,e'=[(1,.pointer (some ⟨b1,0,none⟩)),(2,.pointer (some ⟨b2,0,none⟩)),(3,.pointer (some ⟨b3,0,none⟩)),(4,.pointer (some ⟨c4,0,none⟩)),(5,.pointer (some ⟨c5,0,none⟩)),(6,.pointer (some ⟨c6,0,none⟩)),(7,.pointer (some ⟨c7,0,none⟩))]∧As'=.cl c7 [.string ⟨(tN ((D - K) * (M - K)⁻¹)).toArray⟩,.string ⟨(tD ((D - K) * (M - K)⁻¹)).toArray⟩] 47::.cl c6 [.string ⟨(tN (D)).toArray⟩,.string ⟨(tD (D)).toArray⟩] 47::.cl c5 [.string ⟨#[]⟩,.string ⟨#[]⟩] 47::.cl c4 [.string ⟨(tN (t)).toArray⟩,.string ⟨(tD (t)).toArray⟩] 47::.cl b1 [.string ⟨(tN (1)).toArray⟩,.string ⟨(tD (1)).toArray⟩] 47::.cl b2 [.string ⟨(tN (K)).toArray⟩,.string ⟨(tD (K)).toArray⟩] 47::.cl b3 [.string ⟨(tN (M)).toArray⟩,.string ⟨(tD (M)).toArray⟩] 47::As) ?_ ?_
   ·refine Zag [.cl c6 [.string ⟨(tN (D)).toArray⟩,.string ⟨(tD (D)).toArray⟩] 47,.cl b2 [.string ⟨(tN (K)).toArray⟩,.string ⟨(tD (K)).toArray⟩] 47,.cl b3 [.string ⟨(tN (M)).toArray⟩,.string ⟨(tD (M)).toArray⟩] 47] [] (.take 0 (.take 1 (.take 6 (.take 7 (.all [(2,.take 3 (.take 4 (.all [(5,.all [(8,.take 9 (.take 10 (.all [(11,.all [(12,.take 13 (.take 14 (.all [(15,.all [(16,.all [(17,.done)])]),(16,.all [(15,.all [(17,.done)])])]))),(16,.all [(12,.take 13 (.take 14 (.all [(15,.all [(17,.done)])])))])]),(16,.all [(11,.all [(12,.take 13 (.take 14 (.all [(15,.all [(17,.done)])])))])])]))),(16,.all [(8,.take 9 (.take 10 (.all [(11,.all [(12,.take 13 (.take 14 (.all [(15,.all [(17,.done)])])))])])))])]),(16,.all [(5,.all [(8,.take 9 (.take 10 (.all [(11,.all [(12,.take 13 (.take 14 (.all [(15,.all [(17,.done)])])))])])))])])]))),(16,.all [(2,.take 3 (.take 4 (.all [(5,.all [(8,.take 9 (.take 10 (.all [(11,.all [(12,.take 13 (.take 14 (.all [(15,.all [(17,.done)])])))])])))])])))])]))))) ?_
    repeat' first|refine Kf ?_|intro _|constructor
    repeat' (first|(refine T1.callv rfl rfl rfl rfl rfl (Q.Ygu ht (r:=D) (s:=K) (f1.mono (by decide)) (fk.mono (by decide)) (f2.mono (by decide))) ?_;rintro _ _ ⟨rfl,rfl⟩;(repeat' first|refine Kf ?_|intro _|constructor))|(refine T1.callv rfl rfl rfl rfl rfl (Q.Ygu ht (r:=M) (s:=K) (fm.mono (by decide)) (fk.mono (by decide)) (f3.mono (by decide))) ?_;rintro _ _ ⟨rfl,rfl⟩;(repeat' first|refine Kf ?_|intro _|constructor))|(refine T1.callv rfl rfl rfl rfl rfl (Q.Yhj ht (r:=D - K) (s:=M - K) (f2.mono (by decide)) (f3.mono (by decide)) hne (f4.mono (by decide))) ?_;rintro _ _ ⟨rfl,rfl⟩;(repeat' first|refine Kf ?_|intro _|constructor))|(refine T1.call rfl rfl rfl rfl Zba ?_;rintro _ _ ⟨rfl,rfl⟩;(repeat' first|refine Kf ?_|intro _|constructor)))
    all_goals exact Post.cut _ _ ⟨_,rfl,rfl⟩ Zad Zaa
   rintro _ _ ⟨c7,rfl,rfl⟩
   repeat' first|refine Kz ?_|intro _
   refine Tri.mid (fun e' As'=>∃ c8,e'=[(1,.pointer (some ⟨b1,0,none⟩)),(2,.pointer (some ⟨b2,0,none⟩)),(3,.pointer (some ⟨b3,0,none⟩)),(4,.pointer (some ⟨c4,0,none⟩)),(5,.pointer (some ⟨c5,0,none⟩)),(8,.pointer (some ⟨c8,0,none⟩))]∧As'=.cl c8 [.string ⟨(tN ((1 - K) * ((D - K) * (M - K)⁻¹))).toArray⟩,.string ⟨(tD ((1 - K) * ((D - K) * (M - K)⁻¹))).toArray⟩] 47::.cl c5 [.string ⟨#[]⟩,.string ⟨#[]⟩] 47::.cl c4 [.string ⟨(tN (t)).toArray⟩,.string ⟨(tD (t)).toArray⟩] 47::.cl b1 [.string ⟨(tN (1)).toArray⟩,.string ⟨(tD (1)).toArray⟩] 47::.cl b2 [.string ⟨(tN (K)).toArray⟩,.string ⟨(tD (K)).toArray⟩] 47::.cl b3 [.string ⟨(tN (M)).toArray⟩,.string ⟨(tD (M)).toArray⟩] 47::As) ?_ ?_
   ·refine Zag [.cl c7 [.string ⟨(tN ((D - K) * (M - K)⁻¹)).toArray⟩,.string ⟨(tD ((D - K) * (M - K)⁻¹)).toArray⟩] 47,.cl b1 [.string ⟨(tN (1)).toArray⟩,.string ⟨(tD (1)).toArray⟩] 47,.cl b2 [.string ⟨(tN (K)).toArray⟩,.string ⟨(tD (K)).toArray⟩] 47] [] (.take 0 (.take 1 (.take 6 (.all [(2,.take 3 (.take 4 (.all [(5,.all [(7,.take 8 (.take 9 (.all [(10,.all [(11,.all [(12,.done)])]),(11,.all [(10,.all [(12,.done)])])]))),(11,.all [(7,.take 8 (.take 9 (.all [(10,.all [(12,.done)])])))])]),(11,.all [(5,.all [(7,.take 8 (.take 9 (.all [(10,.all [(12,.done)])])))])])]))),(11,.all [(2,.take 3 (.take 4 (.all [(5,.all [(7,.take 8 (.take 9 (.all [(10,.all [(12,.done)])])))])])))])])))) ?_
    repeat' first|refine Kf ?_|intro _|constructor
    repeat' (first|(refine T1.callv rfl rfl rfl rfl rfl (Q.Ygu ht (r:=1) (s:=K) (fit1.mono (by decide)) (fk.mono (by decide)) (f5.mono (by decide))) ?_;rintro _ _ ⟨rfl,rfl⟩;(repeat' first|refine Kf ?_|intro _|constructor))|(refine T1.callv rfl rfl rfl rfl rfl (Q.Yg7 ht (r:=1 - K) (s:=(D - K) * (M - K)⁻¹) (f5.mono (by decide)) (f4.mono (by decide)) (f6.mono (by decide))) ?_;rintro _ _ ⟨rfl,rfl⟩;(repeat' first|refine Kf ?_|intro _|constructor))|(refine T1.call rfl rfl rfl rfl Zba ?_;rintro _ _ ⟨rfl,rfl⟩;(repeat' first|refine Kf ?_|intro _|constructor)))
    all_goals exact Post.cut _ _ ⟨_,rfl,rfl⟩ Zad Zaa
   rintro _ _ ⟨c8,rfl,rfl⟩
   repeat' first|refine Kz ?_|intro _
   refine Zag [.cl c8 [.string ⟨(tN ((1 - K) * ((D - K) * (M - K)⁻¹))).toArray⟩,.string ⟨(tD ((1 - K) * ((D - K) * (M - K)⁻¹))).toArray⟩] 47,.cl c4 [.string ⟨(tN (t)).toArray⟩,.string ⟨(tD (t)).toArray⟩] 47,.cl b2 [.string ⟨(tN (K)).toArray⟩,.string ⟨(tD (K)).toArray⟩] 47] [] (.take 0 (.take 1 (.take 2 (.all [(3,.take 4 (.take 5 (.all [(6,.all [(7,.take 8 (.take 9 (.all [(10,.all [(11,.done)])])))])])))])))) ?_
   repeat' first|refine Kf ?_|intro _|constructor
   refine Ku rfl (Q.Yhr ht (r:=K) (s:=(1 - K) * ((D - K) * (M - K)⁻¹)) (fk.mono (by decide)) (f6.mono (by decide)) (f7.mono (by decide))) ?_
   repeat' first|refine Kf ?_|intro _|constructor
   refine Kw rfl Zba ?_
   repeat' first|refine Kf ?_|intro _|constructor
   refine Ku rfl (Q.Yg7 ht (r:=t) (s:=K+(1 - K) * ((D - K) * (M - K)⁻¹)) (hf.mono (by decide)) (f7.mono (by decide)) (f8.mono (by decide))) ?_
   repeat' first|refine Kf ?_|intro _|constructor
   refine Kw rfl Zba ?_
   repeat' first|refine Kf ?_|intro _|constructor
   (refine Zac ?_)
   exact ⟨_,⟨_,rfl,rfl,rfl⟩,Zaa⟩
end Go.Proofs.YtbfgldlfciimiaaGreatDoor
namespace Go.Sx
open Go
def OnlyN (N:Ctx) (w0:World) (R:Env→List Ent→Prop):Exit→Act→World→Prop
 | .normal,a,w=>∃ e' As',R e' As'∧OkA N a e'∧St w0 w As'
 | _,_,_=>False
instance {N:Ctx} {w0:World} {R:Env→List Ent→Prop}:PanicOk (OnlyN N w0 R):=⟨fun _ _ _ _ _ h=>h.elim⟩
theorem Tri.midN {P:Program} {N:Ctx} {w0:World} {c:Code} {e:Env} {As:List Ent} {Q:Exit→Act→World→Prop} (R:Env→List Ent→Prop) (h:Tri P N w0 c e As (OnlyN N w0 R)) (k:∀ e' As',R e' As'→Post N w0 Q .normal e' As'):Tri P N w0 c e As Q:=Tri.mk fun a w ha hs=>wpIn_mono (h.out a w ha hs) fun ex a' w' hq=>by
 cases ex with
 | normal=>obtain ⟨e',As',hr,h1,h2⟩:=hq;exact (k e' As' hr).out a' w' h1 h2
 | exit id=>exact hq.elim
 | goto l=>exact hq.elim
 | ret=>exact hq.elim
 | panic ch=>exact hq.elim
 | outgrown=>exact hq.elim
theorem Zt8 {N:Ctx} {w0:World} {e:Env} {As:List Ent} {R:Env→List Ent→Prop} (e':Env) (As':List Ent) (hr:R e' As') (he:Sub e e') (hA:Ents As As'):Post N w0 (OnlyN N w0 R) .normal e As:=Post.mk fun _ w ha hs=>⟨e',As',hr,ha.sub he,hA w0 w hs⟩
end Go.Sx
namespace Go.Proofs.YtbfgldlfciimiaaGreatDoor
open Go Go.Sx
variable {w0:World} {As:List Ent} {pv fv:Value} {pts fcs:List V3}
theorem Zrk {b1 b2:Nat}:DefS Tryz.prog w0 36 [.pointer (some ⟨b1,0,none⟩),.pointer (some ⟨b2,0,none⟩)] As .returning fun u' A=>u'=.returning∧A=As:=by
 refine Zfy Tryz.func36 rfl Tryz.ntmps36 rfl rfl rfl rfl rfl (fun _ _=>rfl) fun c0 cs=>?_
 refine TLS.f ?_
 refine TLS.nil ?_
 repeat' first|refine Kz ?_|intro _
 refine TL.f rfl rfl (Zfx rfl) ?_
 repeat' first|refine Kz ?_|intro _
 refine Zdu ?_
 exact Zcz ⟨_,⟨rfl,rfl⟩,Zaa⟩
theorem Ybx {b1 b2:Nat} {x1 x2 x3 z:Value} {e:Int}:DefS Tryz.prog w0 36 [.pointer (some ⟨b1,0,none⟩),.pointer (some ⟨b2,0,none⟩)] (.cl b1 [x1,x2,x3] 39::.cl b2 [z] 34::As) (.panicking (thrown (errJ e))) fun u' A=>u'=.panicking (caught (errJ e))∧A=.cl b1 [.int .i64 0,.int .i64 0,.int .i64 0] 39::.cl b2 [.int .i64 e] 34::As:=by
 refine Zhz Tryz.func36 rfl Tryz.ntmps36 rfl rfl rfl rfl rfl (fun _ _=>rfl) fun c0 cs=>?_
 refine TLS.f ?_
 refine TLS.nil ?_
 repeat' first|refine Kz ?_|intro _
 refine TL.f rfl rfl (Ze3 rfl) ?_
 repeat' first|refine Kz ?_|intro _
 refine Kt rfl Znc ?_
 repeat' first|refine Kz ?_|intro _
 refine Zdu ?_
 exact Zcz ⟨_,⟨rfl,rfl⟩,Zaa⟩
theorem Zlq {b1 b2:Nat}:DefS Tryz.prog w0 40 [.pointer (some ⟨b1,0,none⟩),.pointer (some ⟨b2,0,none⟩)] As .returning fun u' A=>u'=.returning∧A=As:=by
 refine Zfy Tryz.func40 rfl Tryz.ntmps40 rfl rfl rfl rfl rfl (fun _ _=>rfl) fun c0 cs=>?_
 refine TLS.f ?_
 refine TLS.nil ?_
 repeat' first|refine Kz ?_|intro _
 refine TL.f rfl rfl (Zfx rfl) ?_
 repeat' first|refine Kz ?_|intro _
 refine Zdu ?_
 exact Zcz ⟨_,⟨rfl,rfl⟩,Zaa⟩
theorem Ybu {b1 b2:Nat} {x1 x2 x3 x4 x5 x6 z:Value} {e:Int}:DefS Tryz.prog w0 40 [.pointer (some ⟨b1,0,none⟩),.pointer (some ⟨b2,0,none⟩)] (.cl b1 [x1,x2,x3,x4,x5,x6] 55::.cl b2 [z] 34::As) (.panicking (thrown (errJ e))) fun u' A=>u'=.panicking (caught (errJ e))∧A=.cl b1 [.string ⟨#[]⟩,.string ⟨#[]⟩,.string ⟨#[]⟩,.string ⟨#[]⟩,.string ⟨#[]⟩,.string ⟨#[]⟩] 55::.cl b2 [.int .i64 e] 34::As:=by
 refine Zhz Tryz.func40 rfl Tryz.ntmps40 rfl rfl rfl rfl rfl (fun _ _=>rfl) fun c0 cs=>?_
 refine TLS.f ?_
 refine TLS.nil ?_
 repeat' first|refine Kz ?_|intro _
 refine TL.f rfl rfl (Ze3 rfl) ?_
 repeat' first|refine Kz ?_|intro _
 refine Kt rfl Znc ?_
 repeat' first|refine Kz ?_|intro _
 refine Zdu ?_
 exact Zcz ⟨_,⟨rfl,rfl⟩,Zaa⟩
theorem Zfd {b1 b2:Nat}:DefS Tryz.prog w0 45 [.pointer (some ⟨b1,0,none⟩),.pointer (some ⟨b2,0,none⟩)] As .returning fun u' A=>u'=.returning∧A=As:=by
 refine Zfy Tryz.func45 rfl Tryz.ntmps45 rfl rfl rfl rfl rfl (fun _ _=>rfl) fun c0 cs=>?_
 refine TLS.f ?_
 refine TLS.nil ?_
 repeat' first|refine Kz ?_|intro _
 refine TL.f rfl rfl (Zfx rfl) ?_
 repeat' first|refine Kz ?_|intro _
 refine Zdu ?_
 exact Zcz ⟨_,⟨rfl,rfl⟩,Zaa⟩
theorem Ybq {b1 b2:Nat} {x1 x2 x3 x4 x5 x6 z:Value} {e:Int}:DefS Tryz.prog w0 45 [.pointer (some ⟨b1,0,none⟩),.pointer (some ⟨b2,0,none⟩)] (.cl b1 [x1,x2,x3,x4,x5,x6] 55::.cl b2 [z] 34::As) (.panicking (thrown (errJ e))) fun u' A=>u'=.panicking (caught (errJ e))∧A=.cl b1 [.string ⟨#[]⟩,.string ⟨#[]⟩,.string ⟨#[]⟩,.string ⟨#[]⟩,.string ⟨#[]⟩,.string ⟨#[]⟩] 55::.cl b2 [.int .i64 e] 34::As:=by
 refine Zhz Tryz.func45 rfl Tryz.ntmps45 rfl rfl rfl rfl rfl (fun _ _=>rfl) fun c0 cs=>?_
 refine TLS.f ?_
 refine TLS.nil ?_
 repeat' first|refine Kz ?_|intro _
 refine TL.f rfl rfl (Ze3 rfl) ?_
 repeat' first|refine Kz ?_|intro _
 refine Kt rfl Znc ?_
 repeat' first|refine Kz ?_|intro _
 refine Zdu ?_
 exact Zcz ⟨_,⟨rfl,rfl⟩,Zaa⟩
set_option maxRecDepth 100000 in
set_option maxHeartbeats 600000 in
theorem Zne (ht:Tab w0) (he:ErrR w0) {p:V3} [RdIn As fv V3 cV3 fcs] [RdIn As pv V3 cV3 pts]:CQ Tryz.prog w0 12 [.agg #[pv,fv],p.val] As (.tuple #[(anchorW pts fcs p).1.val,.int .i64 (anchorW pts fcs p).2]):=by
 refine Zce Tryz.func12 rfl Tryz.ntmps12 rfl ?_
 show Tri _ _ _ _ (env0 0 [.agg #[pv,fv],.agg #[.int .i64 p.x,.int .i64 p.y,.int .i64 p.z]]) _ _
 unfold anchorW
 repeat' first|refine Kz ?_|intro _
 rename_i b2 b3 b4 b5
 refine TL.defer (vs:=[]) (fst:=[]) rfl rfl rfl ?_
 repeat' first|refine Kz ?_|intro _
 refine Kt rfl (Zfe (pts:=pts) (fcs:=fcs)) ?_
 by_cases hfl:(flawM pts fcs).1=0
 ·rw [if_neg (fun h=>h hfl),show chkM pts fcs=0 from if_pos hfl]
  have hg:Sx.Good pts fcs:=Yft.1 hfl
  repeat' first|refine Kz ?_|intro _
  refine Ks rfl (Zvh (p:=p)) ?_
  cases hp:isFar p with
  | true =>
   rw [if_pos rfl]
   repeat' first|refine Kz ?_|intro _
   refine Zan rfl ((Zrk).mono ?_)
   rintro _ _ ⟨rfl,rfl⟩
   exact ⟨rfl,_,Res.r2,_,⟨rfl,rfl⟩,Zaa⟩
  | false =>
   rw [if_neg (by decide)]
   repeat' first|refine Kz ?_|intro _
   refine TL.callvE rfl rfl rfl rfl (Zke ht he hg (p:=p) hp) ?_ ?_
   ·rintro _ _ ⟨ho,rfl,rfl⟩
    rw [ho]
    repeat' first|refine Kz ?_|intro _
    refine Zcd rfl ((Zfz Zaa (Ybx (As:=As) (x1:=.int .i64 0) (x2:=.int .i64 0) (x3:=.int .i64 0) (z:=.int .i64 0) (e:=4))).mono ?_)
    rintro _ _ ⟨rfl,rfl⟩
    exact ⟨rfl,_,Res.r2,_,⟨rfl,rfl⟩,Zaa⟩
   ·rintro _ _ ⟨c,ho,rfl,rfl⟩
    rw [ho]
    show TL _ _ _ _ _ ((_,.agg #[.int .i64 c.x,.int .i64 c.y,.int .i64 c.z])::_) _ _
    repeat' first|refine Kz ?_|intro _
    refine Zan rfl ((Zrk).mono ?_)
    rintro _ _ ⟨rfl,rfl⟩
    exact ⟨rfl,_,Res.r2,_,⟨rfl,rfl⟩,Zaa⟩
 ·rw [if_pos hfl,show chkM pts fcs=350 from if_neg hfl]
  repeat' first|refine Kz ?_|intro _
  refine Zan rfl ((Zrk).mono ?_)
  rintro _ _ ⟨rfl,rfl⟩
  exact ⟨rfl,_,Res.r2,_,⟨rfl,rfl⟩,Zaa⟩
set_option maxRecDepth 100000 in
set_option maxHeartbeats 600000 in
theorem Z4h (ht:Tab w0) (he:ErrR w0) {p:V3} [RdIn As fv V3 cV3 fcs] [RdIn As pv V3 cV3 pts]:CQ Tryz.prog w0 13 [.agg #[pv,fv],p.val] As (triR (clipW pts fcs p)):=by
 refine Zce Tryz.func13 rfl Tryz.ntmps13 rfl ?_
 refine Zdb (c:=cV3) (xs:=pts) pv fun u1 z1 w1=>Zdb (c:=cV3) (xs:=fcs) fv fun u2 z2 w2=>?_
 subst w1 w2
 show Tri _ _ _ _ (env0 0 [.agg #[.slice u1 pts.length z1,.slice u2 fcs.length z2],.agg #[.int .i64 p.x,.int .i64 p.y,.int .i64 p.z]]) _ _
 unfold clipW
 repeat' first|refine Kz ?_|intro _
 rename_i b2 b3 b4 b5
 refine TL.defer (vs:=[]) (fst:=[]) rfl rfl rfl ?_
 repeat' first|refine Kz ?_|intro _
 refine Kt rfl (Zfe (pts:=pts) (fcs:=fcs)) ?_
 by_cases hfl:(flawM pts fcs).1=0
 ·rw [if_neg (fun h=>h hfl),show chkM pts fcs=0 from if_pos hfl]
  have hg:Sx.Good pts fcs:=Yft.1 hfl
  repeat' first|refine Kz ?_|intro _
  refine Ks rfl (Zvh (p:=p)) ?_
  cases hp:isFar p with
  | true =>
   rw [if_pos rfl]
   repeat' first|refine Kz ?_|intro _
   refine Zan rfl ((Zlq).mono ?_)
   rintro _ _ ⟨rfl,rfl⟩
   exact ⟨rfl,_,Res.r2,_,⟨rfl,rfl⟩,Zaa⟩
  | false =>
   rw [if_neg (by decide)]
   have hcl:=fun c=>Z8e (c:=c) hg hp
   repeat' first|refine Kz ?_|intro _
   refine TL.callvE rfl rfl rfl rfl (Zke ht he hg (p:=p) hp) ?_ ?_
   ·rintro _ _ ⟨ho,rfl,rfl⟩
    rw [ho]
    repeat' first|refine Kz ?_|intro _
    refine Zcd rfl ((Zfz Zaa (Ybu (As:=As) (x1:=.string ⟨#[]⟩) (x2:=.string ⟨#[]⟩) (x3:=.string ⟨#[]⟩) (x4:=.string ⟨#[]⟩) (x5:=.string ⟨#[]⟩) (x6:=.string ⟨#[]⟩) (z:=.int .i64 0) (e:=4))).mono ?_)
    rintro _ _ ⟨rfl,rfl⟩
    exact ⟨rfl,_,Res.r2,_,⟨rfl,rfl⟩,Zaa⟩
   ·rintro _ _ ⟨c,ho,rfl,rfl⟩
    rw [ho]
    obtain ⟨hc,hc2,_,_⟩:=Zgf hg ho
    have bp:=Zcv hp
    obtain ⟨p1,p2,p3,p4,p5,p6⟩:=bp
    show TL _ _ _ _ _ ((_,.agg #[.int .i64 c.x,.int .i64 c.y,.int .i64 c.z])::_) _ _
    simp only []
    repeat' first|refine Kz ?_|intro _
    refine Ks rfl (Zi0 ht hg (p:=p) hp) ?_
    repeat' first|refine Kz ?_|intro _
    refine Kt rfl Ze9 ?_
    by_cases hs:(sideW pts fcs p).1=0
    ·rw [if_neg (fun h=>h hs),hs]
     obtain ⟨hne,t,j,hr,hf,_⟩:=hcl c ho hs
     rw [hr]
     have hm:=fun (Bs:List Ent) [RdIn Bs (.slice u2 fcs.length z2) V3 cV3 fcs] [RdIn Bs (.slice u1 pts.length z1) V3 cV3 pts]=>Zd1 (As:=Bs) (w0:=w0) (pv:=.slice u1 pts.length z1) (fv:=.slice u2 fcs.length z2) ht hg hp hc hne (y:=false)
     rw [hr] at hm
     clear hcl
     repeat' first|refine Kz ?_|intro _
     rename_i b7
     refine Tri.midN (fun e' As'=>e'=[(4,.pointer (some ⟨b4,0,none⟩)),(5,.pointer (some ⟨b5,0,none⟩))]∧As'=.cl b4 [.string ⟨(tN ((p.x:Rat)+t * ((c.x - p.x:Int):Rat))).toArray⟩,.string ⟨(tD ((p.x:Rat)+t * ((c.x - p.x:Int):Rat))).toArray⟩,.string ⟨(tN ((p.y:Rat)+t * ((c.y - p.y:Int):Rat))).toArray⟩,.string ⟨(tD ((p.y:Rat)+t * ((c.y - p.y:Int):Rat))).toArray⟩,.string ⟨(tN ((p.z:Rat)+t * ((c.z - p.z:Int):Rat))).toArray⟩,.string ⟨(tD ((p.z:Rat)+t * ((c.z - p.z:Int):Rat))).toArray⟩] 55::.cl b5 [.int .i64 0] 34::As) ?_ ?_
     ·refine Zag [.cl b7 [.slice u1 pts.length z1,.slice u2 fcs.length z2,.int .i64 p.x,.int .i64 p.y,.int .i64 p.z,.int .i64 c.x,.int .i64 c.y,.int .i64 c.z] 97] [] (.take 0 (.take 1 (.all [(2,.all [(3,.all [(4,.all [(5,.done)])])])]))) ?_
      repeat' first|refine Kf ?_|intro _|constructor
      refine T1.callvE rfl rfl rfl rfl rfl (hm _) ?_ ?_
      ·rintro _ _ ⟨h,_⟩
       cases h
      ·rintro _ _ ⟨t',j',h,rfl,rfl⟩
       obtain ⟨rfl,rfl⟩:=Prod.mk.inj (Option.some.inj h)
       show TC _ _ _ _ _ _ _ ((_,.agg #[.string ⟨(tN t).toArray⟩,.string ⟨(tD t).toArray⟩])::_) _ _
       repeat' first|refine Kf ?_|intro _|constructor
       refine Ku rfl (Zs8 ht (pv:=.slice u1 pts.length z1) (fv:=.slice u2 fcs.length z2) (a:=p) (b:=c) (s:=t) hp hc (hf.mono (by decide))) ?_
       unfold atV frtV
       repeat' first|refine Kf ?_|intro _|constructor
       exact Zt8 _ _ ⟨rfl,rfl⟩ Zad Zaa
     rintro _ _ ⟨rfl,rfl⟩
     repeat' first|refine Kz ?_|intro _
     refine Zan rfl ((Zlq).mono ?_)
     rintro _ _ ⟨rfl,rfl⟩
     exact ⟨rfl,_,Res.r2,_,⟨rfl,rfl⟩,Zaa⟩
    ·rw [if_pos hs]
     generalize (sideW pts fcs p).1=s at *
     clear hcl
     repeat' first|refine Kz ?_|intro _
     refine Ks rfl (Zya ht (p:=p) (by omega) (by omega) (by omega)) ?_
     unfold frtV
     repeat' first|refine Kz ?_|intro _
     refine Zan rfl ((Zlq).mono ?_)
     rintro _ _ ⟨rfl,rfl⟩
     exact ⟨rfl,_,Res.r2,_,⟨rfl,rfl⟩,Zaa⟩
 ·rw [if_pos hfl,show chkM pts fcs=350 from if_neg hfl]
  repeat' first|refine Kz ?_|intro _
  refine Zan rfl ((Zlq).mono ?_)
  rintro _ _ ⟨rfl,rfl⟩
  exact ⟨rfl,_,Res.r2,_,⟨rfl,rfl⟩,Zaa⟩
set_option maxRecDepth 100000 in
set_option maxHeartbeats 600000 in
theorem Zm8 (ht:Tab w0) (he:ErrR w0) {p:V3} {k m:Int} [RdIn As fv V3 cV3 fcs] [RdIn As pv V3 cV3 pts]:CQ Tryz.prog w0 14 [.agg #[pv,fv],p.val,.int .i64 k,.int .i64 m] As (triR (compressW pts fcs p k m)):=by
 refine Zce Tryz.func14 rfl Tryz.ntmps14 rfl ?_
 refine Zdb (c:=cV3) (xs:=pts) pv fun u1 z1 w1=>Zdb (c:=cV3) (xs:=fcs) fv fun u2 z2 w2=>?_
 subst w1 w2
 show Tri _ _ _ _ (env0 0 [.agg #[.slice u1 pts.length z1,.slice u2 fcs.length z2],.agg #[.int .i64 p.x,.int .i64 p.y,.int .i64 p.z],.int .i64 k,.int .i64 m]) _ _
 unfold compressW
 repeat' first|refine Kz ?_|intro _
 rename_i b4 b5 b8 b9
 refine TL.defer (vs:=[]) (fst:=[]) rfl rfl rfl ?_
 repeat' first|refine Kz ?_|intro _
 refine Kt rfl (Zfe (pts:=pts) (fcs:=fcs)) ?_
 by_cases hfl:(flawM pts fcs).1=0
 ·rw [if_neg (fun h=>h hfl),show chkM pts fcs=0 from if_pos hfl]
  have hg:Sx.Good pts fcs:=Yft.1 hfl
  repeat' first|refine Kz ?_|intro _
  refine Ks rfl (Zvh (p:=p)) ?_
  cases hp:isFar p with
  | true =>
   rw [if_pos rfl]
   repeat' first|refine Kz ?_|intro _
   refine Zan rfl ((Zfd).mono ?_)
   rintro _ _ ⟨rfl,rfl⟩
   exact ⟨rfl,_,Res.r2,_,⟨rfl,rfl⟩,Zaa⟩
  | false =>
   rw [if_neg (by decide)]
   by_cases q0:k < 0
   ·rw [if_pos (by omega)]
    repeat' first|refine Kz ?_|intro _
    refine Zan rfl ((Zfd).mono ?_)
    rintro _ _ ⟨rfl,rfl⟩
    exact ⟨rfl,_,Res.r2,_,⟨rfl,rfl⟩,Zaa⟩
   by_cases q1:1000≤k
   ·rw [if_pos (by omega)]
    repeat' first|refine Kz ?_|intro _
    refine Zan rfl ((Zfd).mono ?_)
    rintro _ _ ⟨rfl,rfl⟩
    exact ⟨rfl,_,Res.r2,_,⟨rfl,rfl⟩,Zaa⟩
   by_cases q2:m≤1000
   ·rw [if_pos (by omega)]
    repeat' first|refine Kz ?_|intro _
    refine Zan rfl ((Zfd).mono ?_)
    rintro _ _ ⟨rfl,rfl⟩
    exact ⟨rfl,_,Res.r2,_,⟨rfl,rfl⟩,Zaa⟩
   by_cases q3:10000 < m
   ·rw [if_pos (by omega)]
    repeat' first|refine Kz ?_|intro _
    refine Zan rfl ((Zfd).mono ?_)
    rintro _ _ ⟨rfl,rfl⟩
    exact ⟨rfl,_,Res.r2,_,⟨rfl,rfl⟩,Zaa⟩
   rw [if_neg (by omega)]
   have hco:=fun c=>Ztx (c:=c) (k:=k) (m:=m) hg hp (by omega) (by omega) (by omega) (by omega)
   repeat' first|refine Kz ?_|intro _
   refine TL.callvE rfl rfl rfl rfl (Zke ht he hg (p:=p) hp) ?_ ?_
   ·rintro _ _ ⟨ho,rfl,rfl⟩
    rw [ho]
    repeat' first|refine Kz ?_|intro _
    refine Zcd rfl ((Zfz Zaa (Ybq (As:=As) (x1:=.string ⟨#[]⟩) (x2:=.string ⟨#[]⟩) (x3:=.string ⟨#[]⟩) (x4:=.string ⟨#[]⟩) (x5:=.string ⟨#[]⟩) (x6:=.string ⟨#[]⟩) (z:=.int .i64 0) (e:=4))).mono ?_)
    rintro _ _ ⟨rfl,rfl⟩
    exact ⟨rfl,_,Res.r2,_,⟨rfl,rfl⟩,Zaa⟩
   ·rintro _ _ ⟨c,ho,rfl,rfl⟩
    rw [ho]
    obtain ⟨hc,hc2,_,_⟩:=Zgf hg ho
    have bp:=Zcv hp
    obtain ⟨p1,p2,p3,p4,p5,p6⟩:=bp
    show TL _ _ _ _ _ ((_,.agg #[.int .i64 c.x,.int .i64 c.y,.int .i64 c.z])::_) _ _
    simp only []
    repeat' first|refine Kz ?_|intro _
    rw [show decide ((⟨p.x,p.y,p.z⟩:V3)=⟨c.x,c.y,c.z⟩)=decide (p=c) from rfl]
    by_cases hpc:p=c
    ·rw [if_pos hpc,decide_eq_true hpc]
     clear hco
     repeat' first|refine Kz ?_|intro _
     refine Ks rfl (Zya ht (p:=p) (by omega) (by omega) (by omega)) ?_
     unfold frtV
     repeat' first|refine Kz ?_|intro _
     refine Zan rfl ((Zfd).mono ?_)
     rintro _ _ ⟨rfl,rfl⟩
     exact ⟨rfl,_,Res.r2,_,⟨rfl,rfl⟩,Zaa⟩
    ·rw [if_neg hpc,decide_eq_false hpc]
     obtain ⟨t,j,s,hr,hp0,hf,hs,s0,s1,st,hfs,_⟩:=hco c ho hpc
     rw [hr]
     simp only []
     rw [hs]
     have hm:=fun (Bs:List Ent) [RdIn Bs (.slice u2 fcs.length z2) V3 cV3 fcs] [RdIn Bs (.slice u1 pts.length z1) V3 cV3 pts]=>Zd1 (As:=Bs) (w0:=w0) (pv:=.slice u1 pts.length z1) (fv:=.slice u2 fcs.length z2) ht hg hc hp (fun e=>hpc e.symm) (y:=true)
     rw [hr] at hm
     clear hco
     repeat' first|refine Kz ?_|intro _
     rename_i b11
     refine Tri.midN (fun e' As'=>e'=[(8,.pointer (some ⟨b8,0,none⟩)),(9,.pointer (some ⟨b9,0,none⟩))]∧As'=.cl b8 [.string ⟨(tN ((c.x:Rat)+s * ((p.x - c.x:Int):Rat))).toArray⟩,.string ⟨(tD ((c.x:Rat)+s * ((p.x - c.x:Int):Rat))).toArray⟩,.string ⟨(tN ((c.y:Rat)+s * ((p.y - c.y:Int):Rat))).toArray⟩,.string ⟨(tD ((c.y:Rat)+s * ((p.y - c.y:Int):Rat))).toArray⟩,.string ⟨(tN ((c.z:Rat)+s * ((p.z - c.z:Int):Rat))).toArray⟩,.string ⟨(tD ((c.z:Rat)+s * ((p.z - c.z:Int):Rat))).toArray⟩] 55::.cl b9 [.int .i64 0] 34::As) ?_ ?_
     ·refine Zag [.cl b11 [.slice u1 pts.length z1,.slice u2 fcs.length z2,.int .i64 c.x,.int .i64 c.y,.int .i64 c.z,.int .i64 p.x,.int .i64 p.y,.int .i64 p.z] 97] [] (.take 0 (.take 1 (.take 2 (.take 4 (.all [(3,.all [(5,.all [(6,.all [(7,.all [(8,.all [(9,.done)])])])])])]))))) ?_
      repeat' first|refine Kf ?_|intro _|constructor
      refine T1.callv rfl rfl rfl rfl rfl (Z6n ht (k:=k) (m:=m) (by omega) (by omega) (by omega) (by omega)) ?_
      rintro _ _ ⟨k7,k8,k9,rfl,rfl⟩
      repeat' first|refine Kf ?_|intro _|constructor
      refine T1.callvE rfl rfl rfl rfl rfl (hm _) ?_ ?_
      ·rintro _ _ ⟨h,_⟩
       cases h
      ·rintro _ _ ⟨t',j',h,rfl,rfl⟩
       obtain ⟨rfl,rfl⟩:=Prod.mk.inj (Option.some.inj h)
       show TC _ _ _ _ _ _ _ ((_,.agg #[.string ⟨(tN t).toArray⟩,.string ⟨(tD t).toArray⟩])::_) _ _
       repeat' first|refine Kf ?_|intro _|constructor
       refine T1.callv rfl rfl rfl rfl rfl (Z2e ht (b1:=k7) (b2:=k8) (b3:=k9) (k:=k) (m:=m) (t:=t) (by omega) (by omega) (by omega) (by omega) hf hp0) ?_
       rintro _ _ ⟨s',e,rfl,rfl⟩
       rw [hs] at e
       obtain rfl:=Sum.inr.inj e
       show TC _ _ _ _ _ _ _ ((_,.agg #[.string ⟨(tN s).toArray⟩,.string ⟨(tD s).toArray⟩])::_) _ _
       repeat' first|refine Kf ?_|intro _|constructor
       refine Ku rfl (Zs8 ht (pv:=.slice u1 pts.length z1) (fv:=.slice u2 fcs.length z2) (a:=c) (b:=p) (s:=s) hc hp hfs) ?_
       unfold atV frtV
       repeat' first|refine Kf ?_|intro _|constructor
       exact Zt8 _ _ ⟨rfl,rfl⟩ Zad Zaa
     rintro _ _ ⟨rfl,rfl⟩
     repeat' first|refine Kz ?_|intro _
     refine Zan rfl ((Zfd).mono ?_)
     rintro _ _ ⟨rfl,rfl⟩
     exact ⟨rfl,_,Res.r2,_,⟨rfl,rfl⟩,Zaa⟩
 ·rw [if_pos hfl,show chkM pts fcs=350 from if_neg hfl]
  repeat' first|refine Kz ?_|intro _
  refine Zan rfl ((Zfd).mono ?_)
  rintro _ _ ⟨rfl,rfl⟩
  exact ⟨rfl,_,Res.r2,_,⟨rfl,rfl⟩,Zaa⟩
end Go.Proofs.YtbfgldlfciimiaaGreatDoor
