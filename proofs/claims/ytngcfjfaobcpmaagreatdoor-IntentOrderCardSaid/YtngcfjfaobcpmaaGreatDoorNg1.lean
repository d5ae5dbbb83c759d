/- Walks: law38: shares of a way. -/
import Derived.Test.YtngcfjfaobcpmaaGreatDoorNr1
import Derived.Test.YtngcfjfaobcpmaaGreatDoorNp1
import Derived.Test.YtngcfjfaobcpmaaGreatDoorJq1
import Derived.Test.YtngcfjfaobcpmaaGreatDoorIm4
set_option maxHeartbeats 1000000
namespace Go.Sx
open Go
theorem Zi9 {x y:Int} (s:Rat) (h:y=x):(x:Rat)+s * ((y - x:Int):Rat) - (x:Rat)=0:=by subst h;exact Zzp s
theorem Zjr {x y:Int} (s:Rat):(x:Rat)+s * ((y - x:Int):Rat) - (x:Rat)=s * ((y - x:Int):Rat):=by grind
theorem Zql {x y:Int} (s:Rat) (h:y≠x):s * ((y - x:Int):Rat) * (((y - x:Int):Rat))⁻¹=s:=by
 have:=Z2a s h
 rwa [Zjr] at this
theorem Zwt {z:Int} (h:z≠0):(z:Rat)≠0:=fun e=>h (by have:=Rat.intCast_inj.1 (show (z:Rat)=((0:Int):Rat) by rw [e];rfl);exact this)
end Go.Sx
namespace Go.Proofs.YtngcfjfaobcpmaaGreatDoor
open Go Go.Sx
variable {w0:World} {As:List Ent}
set_option maxRecDepth 100000 in
set_option maxHeartbeats 8000000 in
theorem Zh8 {c p:V3} {s:Rat} (hc:isFar c=false) (hp:isFar p=false) (hs:Fit 300 s) (hne:p≠c):CQ Tryz.prog w0 25 [c.val,p.val,frtV ((c.x:Rat)+s * ((p.x - c.x:Int):Rat)) ((c.y:Rat)+s * ((p.y - c.y:Int):Rat)) ((c.z:Rat)+s * ((p.z - c.z:Int):Rat))] As (.tuple #[.agg #[.string ⟨(tN (s)).toArray⟩,.string ⟨(tD (s)).toArray⟩],.bool true]):=by
 have bc:=Zb2 hc
 have bp:=Zb2 hp
 obtain ⟨a1,a2,a3,a4,a5,a6⟩:=bc
 obtain ⟨g1,g2,g3,g4,g5,g6⟩:=bp
 have hn3:p.x≠c.x∨p.y≠c.y∨p.z≠c.z:=by
  rcases Decidable.em (p.x=c.x) with e1|e1
  ·rcases Decidable.em (p.y=c.y) with e2|e2
   ·rcases Decidable.em (p.z=c.z) with e3|e3
    ·exact absurd (Za2.2 ⟨e1,e2,e3⟩) hne
    ·exact .inr (.inr e3)
   ·exact .inr (.inl e2)
  ·exact .inl e1
 have k:=fun (c p:Int) (h1:-200000≤c∧c≤200000) (h2:-200000≤p∧p≤200000)=>Zwg (c:=c) (p:=p) (s:=s) (k:=300) h1 h2 hs
 have hz:qI 0 1=0:=by decide +kernel
 have ho0:ordQ 0 0=0:=by decide +kernel
 refine Zab Tryz.func25 rfl Tryz.ntmps25 rfl ?_
 show Tri _ _ _ _ (env0 0 [.agg #[.int .i64 c.x,.int .i64 c.y,.int .i64 c.z],.agg #[.int .i64 p.x,.int .i64 p.y,.int .i64 p.z],.agg #[.string ⟨(tN ((c.x:Rat)+s * ((p.x - c.x:Int):Rat))).toArray⟩,.string ⟨(tD ((c.x:Rat)+s * ((p.x - c.x:Int):Rat))).toArray⟩,.string ⟨(tN ((c.y:Rat)+s * ((p.y - c.y:Int):Rat))).toArray⟩,.string ⟨(tD ((c.y:Rat)+s * ((p.y - c.y:Int):Rat))).toArray⟩,.string ⟨(tN ((c.z:Rat)+s * ((p.z - c.z:Int):Rat))).toArray⟩,.string ⟨(tD ((c.z:Rat)+s * ((p.z - c.z:Int):Rat))).toArray⟩]]) _ _
 repeat' first|refine Kz ?_|intro _
 refine TL.callv rfl rfl rfl rfl (Za0 (n:=0) (d:=1) (by decide) (by decide) (by decide)) ?_
 rw [hz]
 rintro _ _ ⟨rfl,rfl⟩
 repeat' first|refine Kz ?_|intro _
 rename_i b3 b4 b5 b6 b8
 refine Tri.loop (ι:=Nat × Bool × Rat) (fun x=>(x.2.1=true→x.2.2=s)∧(x.2.1=false→x.2.2=0)∧((x.1=0∧x.2.1=false)∨(x.1=1∧(x.2.1=true↔p.x≠c.x))∨(x.1=2∧(x.2.1=true↔p.x≠c.x∨p.y≠c.y))∨(x.1=3∧x.2.1=true))) (fun x=>3 - x.1)
  (fun x=>[(3,.pointer (some ⟨b3,0,none⟩)),(4,.pointer (some ⟨b4,0,none⟩)),(5,.pointer (some ⟨b5,0,none⟩)),(6,.pointer (some ⟨b6,0,none⟩)),(8,.pointer (some ⟨b8,0,none⟩)),(10,.bool x.2.1),(26,.int .i64 (x.1:Int))])
  (fun x=>.cl b8 [.string ⟨(tN (x.2.2)).toArray⟩,.string ⟨(tD (x.2.2)).toArray⟩] 52::.cl b6 [.string ⟨#[]⟩,.string ⟨#[]⟩] 52::.cl b5 [.string ⟨(tN ((c.x:Rat)+s * ((p.x - c.x:Int):Rat))).toArray⟩,.string ⟨(tD ((c.x:Rat)+s * ((p.x - c.x:Int):Rat))).toArray⟩,.string ⟨(tN ((c.y:Rat)+s * ((p.y - c.y:Int):Rat))).toArray⟩,.string ⟨(tD ((c.y:Rat)+s * ((p.y - c.y:Int):Rat))).toArray⟩,.string ⟨(tN ((c.z:Rat)+s * ((p.z - c.z:Int):Rat))).toArray⟩,.string ⟨(tD ((c.z:Rat)+s * ((p.z - c.z:Int):Rat))).toArray⟩] 54::.cl b4 [.int .i64 p.x,.int .i64 p.y,.int .i64 p.z] 33::.cl b3 [.int .i64 c.x,.int .i64 c.y,.int .i64 c.z] 33::As) (0,false,0) ⟨fun h=>(by cases h),fun _=>rfl,.inl ⟨rfl,rfl⟩⟩ Zad (by show Ents _ (.cl b8 [.string ⟨(tN (0)).toArray⟩,.string ⟨(tD (0)).toArray⟩] 52::.cl b6 [.string ⟨#[]⟩,.string ⟨#[]⟩] 52::.cl b5 [.string ⟨(tN ((c.x:Rat)+s * ((p.x - c.x:Int):Rat))).toArray⟩,.string ⟨(tD ((c.x:Rat)+s * ((p.x - c.x:Int):Rat))).toArray⟩,.string ⟨(tN ((c.y:Rat)+s * ((p.y - c.y:Int):Rat))).toArray⟩,.string ⟨(tD ((c.y:Rat)+s * ((p.y - c.y:Int):Rat))).toArray⟩,.string ⟨(tN ((c.z:Rat)+s * ((p.z - c.z:Int):Rat))).toArray⟩,.string ⟨(tD ((c.z:Rat)+s * ((p.z - c.z:Int):Rat))).toArray⟩] 54::.cl b4 [.int .i64 p.x,.int .i64 p.y,.int .i64 p.z] 33::.cl b3 [.int .i64 c.x,.int .i64 c.y,.int .i64 c.z] 33::As);(exact Zaa)) ?_
 rintro ⟨i,f,q⟩ ⟨hf1,hf0,hI⟩
 simp only at hf1 hf0 hI
 have fq:Fit 600 q:=by
  cases f with
  | true=>rw [hf1 rfl];exact hs.mono (by decide)
  | false=>rw [hf0 rfl];exact fit0.mono (by decide)
 rcases hI with ⟨rfl,hI⟩|⟨rfl,hI⟩|⟨rfl,hI⟩|⟨rfl,hI⟩
 ·show Tri _ _ _ _ [(3,.pointer (some ⟨b3,0,none⟩)),(4,.pointer (some ⟨b4,0,none⟩)),(5,.pointer (some ⟨b5,0,none⟩)),(6,.pointer (some ⟨b6,0,none⟩)),(8,.pointer (some ⟨b8,0,none⟩)),(10,.bool f),(26,.int .i64 0)] (.cl b8 [.string ⟨(tN (q)).toArray⟩,.string ⟨(tD (q)).toArray⟩] 52::.cl b6 [.string ⟨#[]⟩,.string ⟨#[]⟩] 52::.cl b5 [.string ⟨(tN ((c.x:Rat)+s * ((p.x - c.x:Int):Rat))).toArray⟩,.string ⟨(tD ((c.x:Rat)+s * ((p.x - c.x:Int):Rat))).toArray⟩,.string ⟨(tN ((c.y:Rat)+s * ((p.y - c.y:Int):Rat))).toArray⟩,.string ⟨(tD ((c.y:Rat)+s * ((p.y - c.y:Int):Rat))).toArray⟩,.string ⟨(tN ((c.z:Rat)+s * ((p.z - c.z:Int):Rat))).toArray⟩,.string ⟨(tD ((c.z:Rat)+s * ((p.z - c.z:Int):Rat))).toArray⟩] 54::.cl b4 [.int .i64 p.x,.int .i64 p.y,.int .i64 p.z] 33::.cl b3 [.int .i64 c.x,.int .i64 c.y,.int .i64 c.z] 33::As) _
  have hk:=k c.x p.x (by omega) (by omega)
  have hw:=Zjr (x:=c.x) (y:=p.x) s
  repeat' first|refine Kz ?_|intro _
  refine TL.callv rfl rfl rfl rfl (Za0 (n:=c.x) (d:=1) (by omega) (by decide) (by decide)) ?_
  rw [Zhk]
  rintro _ _ ⟨rfl,rfl⟩
  repeat' first|refine Kz ?_|intro _
  rename_i b12
  refine Tri.mid (fun e' As'=>∃ b14,e'=[(3,.pointer (some ⟨b3,0,none⟩)),(4,.pointer (some ⟨b4,0,none⟩)),(5,.pointer (some ⟨b5,0,none⟩)),(6,.pointer (some ⟨b6,0,none⟩)),(8,.pointer (some ⟨b8,0,none⟩)),(10,.bool f),(11,.int .i64 0),(14,.pointer (some ⟨b14,0,none⟩)),(15,.int .i64 0),(26,.int .i64 0)]∧As'=.cl b14 [.string ⟨(tN (s * ((p.x - c.x:Int):Rat))).toArray⟩,.string ⟨(tD (s * ((p.x - c.x:Int):Rat))).toArray⟩] 52::.cl b8 [.string ⟨(tN (q)).toArray⟩,.string ⟨(tD (q)).toArray⟩] 52::.cl b6 [.string ⟨#[]⟩,.string ⟨#[]⟩] 52::.cl b5 [.string ⟨(tN ((c.x:Rat)+s * ((p.x - c.x:Int):Rat))).toArray⟩,.string ⟨(tD ((c.x:Rat)+s * ((p.x - c.x:Int):Rat))).toArray⟩,.string ⟨(tN ((c.y:Rat)+s * ((p.y - c.y:Int):Rat))).toArray⟩,.string ⟨(tD ((c.y:Rat)+s * ((p.y - c.y:Int):Rat))).toArray⟩,.string ⟨(tN ((c.z:Rat)+s * ((p.z - c.z:Int):Rat))).toArray⟩,.string ⟨(tD ((c.z:Rat)+s * ((p.z - c.z:Int):Rat))).toArray⟩] 54::.cl b4 [.int .i64 p.x,.int .i64 p.y,.int .i64 p.z] 33::.cl b3 [.int .i64 c.x,.int .i64 c.y,.int .i64 c.z] 33::As) ?_ ?_
  ·refine Zaf [.cl b5 [.string ⟨(tN ((c.x:Rat)+s * ((p.x - c.x:Int):Rat))).toArray⟩,.string ⟨(tD ((c.x:Rat)+s * ((p.x - c.x:Int):Rat))).toArray⟩,.string ⟨(tN ((c.y:Rat)+s * ((p.y - c.y:Int):Rat))).toArray⟩,.string ⟨(tD ((c.y:Rat)+s * ((p.y - c.y:Int):Rat))).toArray⟩,.string ⟨(tN ((c.z:Rat)+s * ((p.z - c.z:Int):Rat))).toArray⟩,.string ⟨(tD ((c.z:Rat)+s * ((p.z - c.z:Int):Rat))).toArray⟩] 54,.cl b12 [.string ⟨(tN ((c.x:Rat))).toArray⟩,.string ⟨(tD ((c.x:Rat))).toArray⟩] 52] [] (.take 0 (.take 1 (.take 2 (.take 3 (.all [(4,.take 5 (.take 6 (.take 7 (.all [(8,.all [(9,.take 10 (.done))])])))),(8,.all [(4,.take 5 (.take 6 (.take 7 (.all [(9,.take 10 (.done))]))))])]))))) ?_
   repeat' first|refine Kf ?_|intro _|constructor
   repeat' (refine T1.callv rfl rfl rfl rfl rfl (Zgp (hk.2.mono (by decide)) ((Zba (z:=c.x) (by omega)).mono (by decide)) (by rw [hw];exact hk.1.mono (by decide))) ?_;rw [hw];rintro _ _ ⟨rfl,rfl⟩;(repeat' first|refine Kf ?_|intro _|constructor))
   all_goals exact Post.cut _ _ ⟨_,rfl,rfl⟩ Zad Zaa
  rintro _ _ ⟨b14,rfl,rfl⟩
  repeat' first|refine Kz ?_|intro _
  refine Zam (.take 0 (.take 1 (.take 2 (.take 3 (.take 4 (.take 5 (.take 6 (.done)))))))) ?_
  repeat' first|refine Kf ?_|intro _|constructor
  by_cases hx:p.x=c.x
  ·have hm0:s * ((p.x - c.x:Int):Rat)=0:=by rw [← hw];exact Zi9 s hx
   rw [hm0]
   repeat' first|refine Kf ?_|intro _|constructor
   refine TL.callv rfl rfl rfl rfl (Zhe (r:=0) (fit0.mono (by decide))) ?_
   rw [ho0]
   rintro _ _ ⟨rfl,rfl⟩
   repeat' first|refine Kz ?_|intro _
   exact Post.round (1,f,q) ⟨hf1,hf0,.inr (.inl ⟨rfl,by rw [hI];simp [hx]⟩)⟩ (by simp only;omega) Zad Zaa
  ·have hn0:p.x - c.x≠0:=by omega
   have fN:=Zba (z:=p.x - c.x) (by omega)
   have hov:=Zql (x:=c.x) (y:=p.x) s hx
   repeat' first|refine Kf ?_|intro _|constructor
   refine Tri.mid (fun e' As'=>∃ b18,e'=[(3,.pointer (some ⟨b3,0,none⟩)),(4,.pointer (some ⟨b4,0,none⟩)),(5,.pointer (some ⟨b5,0,none⟩)),(6,.pointer (some ⟨b6,0,none⟩)),(8,.pointer (some ⟨b8,0,none⟩)),(10,.bool f),(11,.int .i64 0),(14,.pointer (some ⟨b14,0,none⟩)),(18,.pointer (some ⟨b18,0,none⟩)),(26,.int .i64 0)]∧As'=.cl b18 [.string ⟨(tN (((p.x - c.x:Int):Rat))).toArray⟩,.string ⟨(tD (((p.x - c.x:Int):Rat))).toArray⟩] 52::.cl b14 [.string ⟨(tN (s * ((p.x - c.x:Int):Rat))).toArray⟩,.string ⟨(tD (s * ((p.x - c.x:Int):Rat))).toArray⟩] 52::.cl b8 [.string ⟨(tN (q)).toArray⟩,.string ⟨(tD (q)).toArray⟩] 52::.cl b6 [.string ⟨#[]⟩,.string ⟨#[]⟩] 52::.cl b5 [.string ⟨(tN ((c.x:Rat)+s * ((p.x - c.x:Int):Rat))).toArray⟩,.string ⟨(tD ((c.x:Rat)+s * ((p.x - c.x:Int):Rat))).toArray⟩,.string ⟨(tN ((c.y:Rat)+s * ((p.y - c.y:Int):Rat))).toArray⟩,.string ⟨(tD ((c.y:Rat)+s * ((p.y - c.y:Int):Rat))).toArray⟩,.string ⟨(tN ((c.z:Rat)+s * ((p.z - c.z:Int):Rat))).toArray⟩,.string ⟨(tD ((c.z:Rat)+s * ((p.z - c.z:Int):Rat))).toArray⟩] 54::.cl b4 [.int .i64 p.x,.int .i64 p.y,.int .i64 p.z] 33::.cl b3 [.int .i64 c.x,.int .i64 c.y,.int .i64 c.z] 33::As) ?_ ?_
   ·refine Zaf [.cl b3 [.int .i64 c.x,.int .i64 c.y,.int .i64 c.z] 33,.cl b4 [.int .i64 p.x,.int .i64 p.y,.int .i64 p.z] 33] [] (.take 0 (.take 1 (.take 2 (.take 3 (.take 4 (.take 5 (.take 6 (.all [(7,.take 8 (.take 9 (.take 10 (.all [(11,.all [(12,.take 13 (.done))])])))),(11,.all [(7,.take 8 (.take 9 (.take 10 (.all [(12,.take 13 (.done))]))))])])))))))) ?_
    repeat' first|refine Kf ?_|intro _|constructor
    repeat' (refine T1.callv rfl rfl rfl rfl rfl (Za0 (n:=p.x - c.x) (d:=1) (by omega) (by decide) (by decide)) ?_;rw [Zhk];rintro _ _ ⟨rfl,rfl⟩;(repeat' first|refine Kf ?_|intro _|constructor))
    all_goals exact Post.cut _ _ ⟨_,rfl,rfl⟩ Zad Zaa
   rintro _ _ ⟨b18,rfl,rfl⟩
   repeat' first|refine Kz ?_|intro _
   refine TL.callv rfl rfl rfl rfl (Zkj (r:=s * ((p.x - c.x:Int):Rat)) (s:=((p.x - c.x:Int):Rat)) (hk.1.mono (by decide)) (fN.mono (by decide)) (Zwt hn0) (by rw [hov];exact hs.mono (by decide))) ?_
   rw [hov]
   rintro _ _ ⟨rfl,rfl⟩
   repeat' first|refine Kz ?_|intro _
   cases f with
   | false =>
        repeat' first|refine Kz ?_|intro _
        exact Post.round (1,true,s) ⟨fun _=>rfl,fun h=>(by cases h),.inr (.inl ⟨rfl,by simp [hx]⟩)⟩ (by simp only;omega) Zad Zaa
   | true =>
        obtain rfl:=hf1 rfl
        repeat' first|refine Kz ?_|intro _
        refine TL.f rfl rfl (Zen rfl rfl) ?_
        rw [show ∀ x z:List UInt8,(!decide (x=x∧z=z))=false by simp]
        repeat' first|refine Kz ?_|intro _
        exact Post.round (1,true,q) ⟨fun _=>rfl,fun h=>(by cases h),.inr (.inl ⟨rfl,by simp [hx]⟩)⟩ (by simp only;omega) Zad Zaa
 ·show Tri _ _ _ _ [(3,.pointer (some ⟨b3,0,none⟩)),(4,.pointer (some ⟨b4,0,none⟩)),(5,.pointer (some ⟨b5,0,none⟩)),(6,.pointer (some ⟨b6,0,none⟩)),(8,.pointer (some ⟨b8,0,none⟩)),(10,.bool f),(26,.int .i64 1)] (.cl b8 [.string ⟨(tN (q)).toArray⟩,.string ⟨(tD (q)).toArray⟩] 52::.cl b6 [.string ⟨#[]⟩,.string ⟨#[]⟩] 52::.cl b5 [.string ⟨(tN ((c.x:Rat)+s * ((p.x - c.x:Int):Rat))).toArray⟩,.string ⟨(tD ((c.x:Rat)+s * ((p.x - c.x:Int):Rat))).toArray⟩,.string ⟨(tN ((c.y:Rat)+s * ((p.y - c.y:Int):Rat))).toArray⟩,.string ⟨(tD ((c.y:Rat)+s * ((p.y - c.y:Int):Rat))).toArray⟩,.string ⟨(tN ((c.z:Rat)+s * ((p.z - c.z:Int):Rat))).toArray⟩,.string ⟨(tD ((c.z:Rat)+s * ((p.z - c.z:Int):Rat))).toArray⟩] 54::.cl b4 [.int .i64 p.x,.int .i64 p.y,.int .i64 p.z] 33::.cl b3 [.int .i64 c.x,.int .i64 c.y,.int .i64 c.z] 33::As) _
  have hk:=k c.y p.y (by omega) (by omega)
  have hw:=Zjr (x:=c.y) (y:=p.y) s
  repeat' first|refine Kz ?_|intro _
  refine TL.callv rfl rfl rfl rfl (Za0 (n:=c.y) (d:=1) (by omega) (by decide) (by decide)) ?_
  rw [Zhk]
  rintro _ _ ⟨rfl,rfl⟩
  repeat' first|refine Kz ?_|intro _
  rename_i b12
  refine Tri.mid (fun e' As'=>∃ b14,e'=[(3,.pointer (some ⟨b3,0,none⟩)),(4,.pointer (some ⟨b4,0,none⟩)),(5,.pointer (some ⟨b5,0,none⟩)),(6,.pointer (some ⟨b6,0,none⟩)),(8,.pointer (some ⟨b8,0,none⟩)),(10,.bool f),(11,.int .i64 1),(14,.pointer (some ⟨b14,0,none⟩)),(15,.int .i64 0),(26,.int .i64 1)]∧As'=.cl b14 [.string ⟨(tN (s * ((p.y - c.y:Int):Rat))).toArray⟩,.string ⟨(tD (s * ((p.y - c.y:Int):Rat))).toArray⟩] 52::.cl b8 [.string ⟨(tN (q)).toArray⟩,.string ⟨(tD (q)).toArray⟩] 52::.cl b6 [.string ⟨#[]⟩,.string ⟨#[]⟩] 52::.cl b5 [.string ⟨(tN ((c.x:Rat)+s * ((p.x - c.x:Int):Rat))).toArray⟩,.string ⟨(tD ((c.x:Rat)+s * ((p.x - c.x:Int):Rat))).toArray⟩,.string ⟨(tN ((c.y:Rat)+s * ((p.y - c.y:Int):Rat))).toArray⟩,.string ⟨(tD ((c.y:Rat)+s * ((p.y - c.y:Int):Rat))).toArray⟩,.string ⟨(tN ((c.z:Rat)+s * ((p.z - c.z:Int):Rat))).toArray⟩,.string ⟨(tD ((c.z:Rat)+s * ((p.z - c.z:Int):Rat))).toArray⟩] 54::.cl b4 [.int .i64 p.x,.int .i64 p.y,.int .i64 p.z] 33::.cl b3 [.int .i64 c.x,.int .i64 c.y,.int .i64 c.z] 33::As) ?_ ?_
  ·refine Zaf [.cl b5 [.string ⟨(tN ((c.x:Rat)+s * ((p.x - c.x:Int):Rat))).toArray⟩,.string ⟨(tD ((c.x:Rat)+s * ((p.x - c.x:Int):Rat))).toArray⟩,.string ⟨(tN ((c.y:Rat)+s * ((p.y - c.y:Int):Rat))).toArray⟩,.string ⟨(tD ((c.y:Rat)+s * ((p.y - c.y:Int):Rat))).toArray⟩,.string ⟨(tN ((c.z:Rat)+s * ((p.z - c.z:Int):Rat))).toArray⟩,.string ⟨(tD ((c.z:Rat)+s * ((p.z - c.z:Int):Rat))).toArray⟩] 54,.cl b12 [.string ⟨(tN ((c.y:Rat))).toArray⟩,.string ⟨(tD ((c.y:Rat))).toArray⟩] 52] [] (.take 0 (.take 1 (.take 2 (.take 3 (.all [(4,.take 5 (.take 6 (.take 7 (.all [(8,.all [(9,.take 10 (.done))])])))),(8,.all [(4,.take 5 (.take 6 (.take 7 (.all [(9,.take 10 (.done))]))))])]))))) ?_
   repeat' first|refine Kf ?_|intro _|constructor
   repeat' (refine T1.callv rfl rfl rfl rfl rfl (Zgp (hk.2.mono (by decide)) ((Zba (z:=c.y) (by omega)).mono (by decide)) (by rw [hw];exact hk.1.mono (by decide))) ?_;rw [hw];rintro _ _ ⟨rfl,rfl⟩;(repeat' first|refine Kf ?_|intro _|constructor))
   all_goals exact Post.cut _ _ ⟨_,rfl,rfl⟩ Zad Zaa
  rintro _ _ ⟨b14,rfl,rfl⟩
  repeat' first|refine Kz ?_|intro _
  refine Zam (.take 0 (.take 1 (.take 2 (.take 3 (.take 4 (.take 5 (.take 6 (.done)))))))) ?_
  repeat' first|refine Kf ?_|intro _|constructor
  by_cases hx:p.y=c.y
  ·have hm0:s * ((p.y - c.y:Int):Rat)=0:=by rw [← hw];exact Zi9 s hx
   rw [hm0]
   repeat' first|refine Kf ?_|intro _|constructor
   refine TL.callv rfl rfl rfl rfl (Zhe (r:=0) (fit0.mono (by decide))) ?_
   rw [ho0]
   rintro _ _ ⟨rfl,rfl⟩
   repeat' first|refine Kz ?_|intro _
   exact Post.round (2,f,q) ⟨hf1,hf0,.inr (.inr (.inl ⟨rfl,by rw [hI];simp [hx]⟩))⟩ (by simp only;omega) Zad Zaa
  ·have hn0:p.y - c.y≠0:=by omega
   have fN:=Zba (z:=p.y - c.y) (by omega)
   have hov:=Zql (x:=c.y) (y:=p.y) s hx
   repeat' first|refine Kf ?_|intro _|constructor
   refine Tri.mid (fun e' As'=>∃ b18,e'=[(3,.pointer (some ⟨b3,0,none⟩)),(4,.pointer (some ⟨b4,0,none⟩)),(5,.pointer (some ⟨b5,0,none⟩)),(6,.pointer (some ⟨b6,0,none⟩)),(8,.pointer (some ⟨b8,0,none⟩)),(10,.bool f),(11,.int .i64 1),(14,.pointer (some ⟨b14,0,none⟩)),(18,.pointer (some ⟨b18,0,none⟩)),(26,.int .i64 1)]∧As'=.cl b18 [.string ⟨(tN (((p.y - c.y:Int):Rat))).toArray⟩,.string ⟨(tD (((p.y - c.y:Int):Rat))).toArray⟩] 52::.cl b14 [.string ⟨(tN (s * ((p.y - c.y:Int):Rat))).toArray⟩,.string ⟨(tD (s * ((p.y - c.y:Int):Rat))).toArray⟩] 52::.cl b8 [.string ⟨(tN (q)).toArray⟩,.string ⟨(tD (q)).toArray⟩] 52::.cl b6 [.string ⟨#[]⟩,.string ⟨#[]⟩] 52::.cl b5 [.string ⟨(tN ((c.x:Rat)+s * ((p.x - c.x:Int):Rat))).toArray⟩,.string ⟨(tD ((c.x:Rat)+s * ((p.x - c.x:Int):Rat))).toArray⟩,.string ⟨(tN ((c.y:Rat)+s * ((p.y - c.y:Int):Rat))).toArray⟩,.string ⟨(tD ((c.y:Rat)+s * ((p.y - c.y:Int):Rat))).toArray⟩,.string ⟨(tN ((c.z:Rat)+s * ((p.z - c.z:Int):Rat))).toArray⟩,.string ⟨(tD ((c.z:Rat)+s * ((p.z - c.z:Int):Rat))).toArray⟩] 54::.cl b4 [.int .i64 p.x,.int .i64 p.y,.int .i64 p.z] 33::.cl b3 [.int .i64 c.x,.int .i64 c.y,.int .i64 c.z] 33::As) ?_ ?_
   ·refine Zaf [.cl b3 [.int .i64 c.x,.int .i64 c.y,.int .i64 c.z] 33,.cl b4 [.int .i64 p.x,.int .i64 p.y,.int .i64 p.z] 33] [] (.take 0 (.take 1 (.take 2 (.take 3 (.take 4 (.take 5 (.take 6 (.all [(7,.take 8 (.take 9 (.take 10 (.all [(11,.all [(12,.take 13 (.done))])])))),(11,.all [(7,.take 8 (.take 9 (.take 10 (.all [(12,.take 13 (.done))]))))])])))))))) ?_
    repeat' first|refine Kf ?_|intro _|constructor
    repeat' (refine T1.callv rfl rfl rfl rfl rfl (Za0 (n:=p.y - c.y) (d:=1) (by omega) (by decide) (by decide)) ?_;rw [Zhk];rintro _ _ ⟨rfl,rfl⟩;(repeat' first|refine Kf ?_|intro _|constructor))
    all_goals exact Post.cut _ _ ⟨_,rfl,rfl⟩ Zad Zaa
   rintro _ _ ⟨b18,rfl,rfl⟩
   repeat' first|refine Kz ?_|intro _
   refine TL.callv rfl rfl rfl rfl (Zkj (r:=s * ((p.y - c.y:Int):Rat)) (s:=((p.y - c.y:Int):Rat)) (hk.1.mono (by decide)) (fN.mono (by decide)) (Zwt hn0) (by rw [hov];exact hs.mono (by decide))) ?_
   rw [hov]
   rintro _ _ ⟨rfl,rfl⟩
   repeat' first|refine Kz ?_|intro _
   cases f with
   | false =>
        repeat' first|refine Kz ?_|intro _
        exact Post.round (2,true,s) ⟨fun _=>rfl,fun h=>(by cases h),.inr (.inr (.inl ⟨rfl,by simp [hx]⟩))⟩ (by simp only;omega) Zad Zaa
   | true =>
        obtain rfl:=hf1 rfl
        repeat' first|refine Kz ?_|intro _
        refine TL.f rfl rfl (Zen rfl rfl) ?_
        rw [show ∀ x z:List UInt8,(!decide (x=x∧z=z))=false by simp]
        repeat' first|refine Kz ?_|intro _
        exact Post.round (2,true,q) ⟨fun _=>rfl,fun h=>(by cases h),.inr (.inr (.inl ⟨rfl,by simp [hx]⟩))⟩ (by simp only;omega) Zad Zaa
 ·show Tri _ _ _ _ [(3,.pointer (some ⟨b3,0,none⟩)),(4,.pointer (some ⟨b4,0,none⟩)),(5,.pointer (some ⟨b5,0,none⟩)),(6,.pointer (some ⟨b6,0,none⟩)),(8,.pointer (some ⟨b8,0,none⟩)),(10,.bool f),(26,.int .i64 2)] (.cl b8 [.string ⟨(tN (q)).toArray⟩,.string ⟨(tD (q)).toArray⟩] 52::.cl b6 [.string ⟨#[]⟩,.string ⟨#[]⟩] 52::.cl b5 [.string ⟨(tN ((c.x:Rat)+s * ((p.x - c.x:Int):Rat))).toArray⟩,.string ⟨(tD ((c.x:Rat)+s * ((p.x - c.x:Int):Rat))).toArray⟩,.string ⟨(tN ((c.y:Rat)+s * ((p.y - c.y:Int):Rat))).toArray⟩,.string ⟨(tD ((c.y:Rat)+s * ((p.y - c.y:Int):Rat))).toArray⟩,.string ⟨(tN ((c.z:Rat)+s * ((p.z - c.z:Int):Rat))).toArray⟩,.string ⟨(tD ((c.z:Rat)+s * ((p.z - c.z:Int):Rat))).toArray⟩] 54::.cl b4 [.int .i64 p.x,.int .i64 p.y,.int .i64 p.z] 33::.cl b3 [.int .i64 c.x,.int .i64 c.y,.int .i64 c.z] 33::As) _
  have hk:=k c.z p.z (by omega) (by omega)
  have hw:=Zjr (x:=c.z) (y:=p.z) s
  repeat' first|refine Kz ?_|intro _
  refine TL.callv rfl rfl rfl rfl (Za0 (n:=c.z) (d:=1) (by omega) (by decide) (by decide)) ?_
  rw [Zhk]
  rintro _ _ ⟨rfl,rfl⟩
  repeat' first|refine Kz ?_|intro _
  rename_i b12
  refine Tri.mid (fun e' As'=>∃ b14,e'=[(3,.pointer (some ⟨b3,0,none⟩)),(4,.pointer (some ⟨b4,0,none⟩)),(5,.pointer (some ⟨b5,0,none⟩)),(6,.pointer (some ⟨b6,0,none⟩)),(8,.pointer (some ⟨b8,0,none⟩)),(10,.bool f),(11,.int .i64 2),(14,.pointer (some ⟨b14,0,none⟩)),(15,.int .i64 0),(26,.int .i64 2)]∧As'=.cl b14 [.string ⟨(tN (s * ((p.z - c.z:Int):Rat))).toArray⟩,.string ⟨(tD (s * ((p.z - c.z:Int):Rat))).toArray⟩] 52::.cl b8 [.string ⟨(tN (q)).toArray⟩,.string ⟨(tD (q)).toArray⟩] 52::.cl b6 [.string ⟨#[]⟩,.string ⟨#[]⟩] 52::.cl b5 [.string ⟨(tN ((c.x:Rat)+s * ((p.x - c.x:Int):Rat))).toArray⟩,.string ⟨(tD ((c.x:Rat)+s * ((p.x - c.x:Int):Rat))).toArray⟩,.string ⟨(tN ((c.y:Rat)+s * ((p.y - c.y:Int):Rat))).toArray⟩,.string ⟨(tD ((c.y:Rat)+s * ((p.y - c.y:Int):Rat))).toArray⟩,.string ⟨(tN ((c.z:Rat)+s * ((p.z - c.z:Int):Rat))).toArray⟩,.string ⟨(tD ((c.z:Rat)+s * ((p.z - c.z:Int):Rat))).toArray⟩] 54::.cl b4 [.int .i64 p.x,.int .i64 p.y,.int .i64 p.z] 33::.cl b3 [.int .i64 c.x,.int .i64 c.y,.int .i64 c.z] 33::As) ?_ ?_
  ·refine Zaf [.cl b5 [.string ⟨(tN ((c.x:Rat)+s * ((p.x - c.x:Int):Rat))).toArray⟩,.string ⟨(tD ((c.x:Rat)+s * ((p.x - c.x:Int):Rat))).toArray⟩,.string ⟨(tN ((c.y:Rat)+s * ((p.y - c.y:Int):Rat))).toArray⟩,.string ⟨(tD ((c.y:Rat)+s * ((p.y - c.y:Int):Rat))).toArray⟩,.string ⟨(tN ((c.z:Rat)+s * ((p.z - c.z:Int):Rat))).toArray⟩,.string ⟨(tD ((c.z:Rat)+s * ((p.z - c.z:Int):Rat))).toArray⟩] 54,.cl b12 [.string ⟨(tN ((c.z:Rat))).toArray⟩,.string ⟨(tD ((c.z:Rat))).toArray⟩] 52] [] (.take 0 (.take 1 (.take 2 (.take 3 (.all [(4,.take 5 (.take 6 (.take 7 (.all [(8,.all [(9,.take 10 (.done))])])))),(8,.all [(4,.take 5 (.take 6 (.take 7 (.all [(9,.take 10 (.done))]))))])]))))) ?_
   repeat' first|refine Kf ?_|intro _|constructor
   repeat' (refine T1.callv rfl rfl rfl rfl rfl (Zgp (hk.2.mono (by decide)) ((Zba (z:=c.z) (by omega)).mono (by decide)) (by rw [hw];exact hk.1.mono (by decide))) ?_;rw [hw];rintro _ _ ⟨rfl,rfl⟩;(repeat' first|refine Kf ?_|intro _|constructor))
   all_goals exact Post.cut _ _ ⟨_,rfl,rfl⟩ Zad Zaa
  rintro _ _ ⟨b14,rfl,rfl⟩
  repeat' first|refine Kz ?_|intro _
  refine Zam (.take 0 (.take 1 (.take 2 (.take 3 (.take 4 (.take 5 (.take 6 (.done)))))))) ?_
  repeat' first|refine Kf ?_|intro _|constructor
  by_cases hx:p.z=c.z
  ·have hm0:s * ((p.z - c.z:Int):Rat)=0:=by rw [← hw];exact Zi9 s hx
   rw [hm0]
   repeat' first|refine Kf ?_|intro _|constructor
   refine TL.callv rfl rfl rfl rfl (Zhe (r:=0) (fit0.mono (by decide))) ?_
   rw [ho0]
   rintro _ _ ⟨rfl,rfl⟩
   repeat' first|refine Kz ?_|intro _
   exact Post.round (3,f,q) ⟨hf1,hf0,.inr (.inr (.inr ⟨rfl,hI.2 (by rcases hn3 with h|h|h;exact .inl h;exact .inr h;exact absurd hx h)⟩))⟩ (by simp only;omega) Zad Zaa
  ·have hn0:p.z - c.z≠0:=by omega
   have fN:=Zba (z:=p.z - c.z) (by omega)
   have hov:=Zql (x:=c.z) (y:=p.z) s hx
   repeat' first|refine Kf ?_|intro _|constructor
   refine Tri.mid (fun e' As'=>∃ b18,e'=[(3,.pointer (some ⟨b3,0,none⟩)),(4,.pointer (some ⟨b4,0,none⟩)),(5,.pointer (some ⟨b5,0,none⟩)),(6,.pointer (some ⟨b6,0,none⟩)),(8,.pointer (some ⟨b8,0,none⟩)),(10,.bool f),(11,.int .i64 2),(14,.pointer (some ⟨b14,0,none⟩)),(18,.pointer (some ⟨b18,0,none⟩)),(26,.int .i64 2)]∧As'=.cl b18 [.string ⟨(tN (((p.z - c.z:Int):Rat))).toArray⟩,.string ⟨(tD (((p.z - c.z:Int):Rat))).toArray⟩] 52::.cl b14 [.string ⟨(tN (s * ((p.z - c.z:Int):Rat))).toArray⟩,.string ⟨(tD (s * ((p.z - c.z:Int):Rat))).toArray⟩] 52::.cl b8 [.string ⟨(tN (q)).toArray⟩,.string ⟨(tD (q)).toArray⟩] 52::.cl b6 [.string ⟨#[]⟩,.string ⟨#[]⟩] 52::.cl b5 [.string ⟨(tN ((c.x:Rat)+s * ((p.x - c.x:Int):Rat))).toArray⟩,.string ⟨(tD ((c.x:Rat)+s * ((p.x - c.x:Int):Rat))).toArray⟩,.string ⟨(tN ((c.y:Rat)+s * ((p.y - c.y:Int):Rat))).toArray⟩,.string ⟨(tD ((c.y:Rat)+s * ((p.y - c.y:Int):Rat))).toArray⟩,.string ⟨(tN ((c.z:Rat)+s * ((p.z - c.z:Int):Rat))).toArray⟩,.string ⟨(tD ((c.z:Rat)+s * ((p.z - c.z:Int):Rat))).toArray⟩] 54::.cl b4 [.int .i64 p.x,.int .i64 p.y,.int .i64 p.z] 33::.cl b3 [.int .i64 c.x,.int .i64 c.y,.int .i64 c.z] 33::As) ?_ ?_
   ·refine Zaf [.cl b3 [.int .i64 c.x,.int .i64 c.y,.int .i64 c.z] 33,.cl b4 [.int .i64 p.x,.int .i64 p.y,.int .i64 p.z] 33] [] (.take 0 (.take 1 (.take 2 (.take 3 (.take 4 (.take 5 (.take 6 (.all [(7,.take 8 (.take 9 (.take 10 (.all [(11,.all [(12,.take 13 (.done))])])))),(11,.all [(7,.take 8 (.take 9 (.take 10 (.all [(12,.take 13 (.done))]))))])])))))))) ?_
    repeat' first|refine Kf ?_|intro _|constructor
    repeat' (refine T1.callv rfl rfl rfl rfl rfl (Za0 (n:=p.z - c.z) (d:=1) (by omega) (by decide) (by decide)) ?_;rw [Zhk];rintro _ _ ⟨rfl,rfl⟩;(repeat' first|refine Kf ?_|intro _|constructor))
    all_goals exact Post.cut _ _ ⟨_,rfl,rfl⟩ Zad Zaa
   rintro _ _ ⟨b18,rfl,rfl⟩
   repeat' first|refine Kz ?_|intro _
   refine TL.callv rfl rfl rfl rfl (Zkj (r:=s * ((p.z - c.z:Int):Rat)) (s:=((p.z - c.z:Int):Rat)) (hk.1.mono (by decide)) (fN.mono (by decide)) (Zwt hn0) (by rw [hov];exact hs.mono (by decide))) ?_
   rw [hov]
   rintro _ _ ⟨rfl,rfl⟩
   repeat' first|refine Kz ?_|intro _
   cases f with
   | false =>
        repeat' first|refine Kz ?_|intro _
        exact Post.round (3,true,s) ⟨fun _=>rfl,fun h=>(by cases h),.inr (.inr (.inr ⟨rfl,rfl⟩))⟩ (by simp only;omega) Zad Zaa
   | true =>
        obtain rfl:=hf1 rfl
        repeat' first|refine Kz ?_|intro _
        refine TL.f rfl rfl (Zen rfl rfl) ?_
        rw [show ∀ x z:List UInt8,(!decide (x=x∧z=z))=false by simp]
        repeat' first|refine Kz ?_|intro _
        exact Post.round (3,true,q) ⟨fun _=>rfl,fun h=>(by cases h),.inr (.inr (.inr ⟨rfl,rfl⟩))⟩ (by simp only;omega) Zad Zaa
 ·obtain rfl:f=true:=hI
  obtain rfl:=hf1 rfl
  repeat' first|refine Kz ?_|intro _
  exact Kv
end Go.Proofs.YtngcfjfaobcpmaaGreatDoor
