/- Walks: PatchCanon: what is parsed is valid, and its text is parsed to the same. -/
import Derived.Test.YtciadfpomkdlnaaGreatDoorPl1
set_option maxHeartbeats 1000000
namespace Go.Proofs.YtciadfpomkdlnaaGreatDoor.Q
open Go Go.Sx
variable {w0:World} {As:List Ent}
theorem Znf (hm:LenR w0) {s:List UInt8} (hl:s.length≤1000000000):CallsS Tryz.prog w0 31 [.string ⟨s.toArray⟩,.string ⟨#[10]⟩] As fun u Bs=>u=.int .i64 (Lib.countB ⟨s.toArray⟩ ⟨#[10]⟩:Nat)∧Bs=As :=
 CallsS.mk fun w hs=>by
  obtain ⟨m,h0⟩:=hm.keep hs
  refine (Tryz.strings_Count_any ⟨s.toArray⟩ ⟨#[10]⟩ m w (by show s.toArray.size < _;simp;omega) h0 (by decide)).mono fun en w' ⟨h1,h2⟩=>?_
  subst h2
  exact ⟨_,As,h1,⟨rfl,rfl⟩,hs⟩
theorem Zi8 {L:List RawP} (h:checkP (L.map ppOf)=true):Shr L:=by
 obtain ⟨_,h1,h2⟩:=Zu9.1 h
 refine ⟨by rw [List.length_map] at h1;omega,fun r hr=>?_⟩
 have:=(Z1i.1 (h2.sound (ppOf r) (List.mem_map_of_mem hr)).1).1
 have h3:=(Z10.1 this).1.2
 exact Nat.le_trans h3 (by decide)
theorem Zu8 {L:List RawP} (h:checkP (L.map ppOf)=true):Fwd L:=by
 obtain ⟨_,h1,h2⟩:=Zu9.1 h
 refine ⟨by rw [List.length_map] at h1;omega,fun r hr=>?_⟩
 have:=(Z1i.1 (h2.sound (ppOf r) (List.mem_map_of_mem hr)).1).2.1.2
 exact Nat.le_trans this (by decide)
set_option maxRecDepth 100000 in
set_option maxHeartbeats 1000000 in
theorem Zxg (ht:Tab w0) (he:ErrR w0) (hm:LenR w0) {raw z:List UInt8} {ch k m:Nat} {lv:Value} {X:List W7} [hr:RdIn As lv W7 c7 X] (hok:∀ x∈X,x.ok) (hch:ch≤255) (hk:k≤65535) (hmm:m≤255) :
  CallsS Tryz.prog w0 6 [.string ⟨raw.toArray⟩,.agg #[.int .u8 (ch:Int),lv],.agg #[.int .u16 (k:Int),.int .u8 (m:Int),.string ⟨z.toArray⟩]] As fun u _=>u=.bool true:=by
 refine Zcc lv fun hlv=>?_
 refine Zab Tryz.func6 rfl Tryz.ntmps6 rfl ?_
 repeat' first|refine Kz ?_|intro _
 refine Kt rfl (Zrj ht he hm) ?_
 repeat' first|refine Kz ?_|intro _
 rename_i b4 b5
 refine TL.callv rfl rfl rfl rfl (Zoo ht hok hch) ?_
 rintro vp _ ⟨Lp,hLp,rfl⟩
 have hcd:checkP (Lp.map ppOf)=true:=by rw [hLp];exact Zo7
 refine Ks rfl (Zij ht (v:=vp) (fun r hr=>Zcx (L:=Lp) (by simp) r hr) (Zi8 hcd)) ?_
 have htd:textO31 (Lp.map ppOf)=(textT (Lp.map ppOf),0):=by unfold textO31;rw [hcd];rfl
 have htl:=Zfp hcd
 rw [htd]
 generalize textT (Lp.map ppOf)=td at *
 repeat' first|refine Kz ?_|intro _
 refine Zam (.take 0 (.take 1 (.take 2 (.take 3 (.take 4 (.take 5 (.take 6 (.take 9 (.all [(7,.take 8 (.done))]))))))))) ?_
 obtain ⟨n3,hn3,hn3l,hn3m⟩:∃ n3:Nat,(if (500:Int) < (raw.length:Int) then (500:Int) else (raw.length:Int))=(n3:Int)∧n3≤raw.length∧n3≤500:=by
  split
  ·exact ⟨500,rfl,by omega,Nat.le_refl _⟩
  ·exact ⟨raw.length,rfl,Nat.le_refl _,by omega⟩
 repeat' first|refine Kf ?_|intro _|constructor
 rw [hn3]
 refine TT.take rfl rfl rfl (Zc0 (lo:=0) (hi:=n3) rfl Zfw (Zdh rfl) (by omega) (by omega) rfl) ?_
 repeat' first|refine Kf ?_|intro _|constructor
 refine T1.call rfl rfl rfl rfl (Zx3 (s:=td) hk hmm (by omega)) ?_
 rintro _ _ ⟨t,ht2,rfl,rfl⟩
 repeat' first|refine Kf ?_|intro _|constructor
 obtain ⟨sA,hsA,hsAl⟩:∃ sA:List UInt8,List.take (n3 - 0) (List.drop 0 raw)=sA∧sA.length≤200100:=⟨_,rfl,by simp only [List.length_take,List.length_drop];omega⟩
 rw [hsA]
 obtain ⟨sB,hsB,hsBl⟩:∃ sB:List UInt8,t=sB∧sB.length≤200100:=⟨_,rfl,ht2⟩
 rw [hsB]

 refine Tri.midB (fun e' As'=>e'=[]∧As'=As) ?_ ?_
 ·refine Tri.loop (ι:=Nat) (fun i=>i≤2) (fun i=>2 - i) (fun i=>[(32,.agg #[.string ⟨sA.toArray⟩,.string ⟨sB.toArray⟩]),(33,.int .i64 (i:Int))]) (fun _=>As) 0 (Nat.zero_le _) (by show Go.Sx.Sub _ [(32,.agg #[.string ⟨sA.toArray⟩,.string ⟨sB.toArray⟩]),(33,.int .i64 0)];(exact Zad)) Zaa ?_
  intro i hi
  obtain rfl|rfl|rfl:i=0∨i=1∨i=2:=by omega
  ·repeat' first|refine Kz ?_|intro _
   refine TL.callv rfl rfl rfl rfl (Ze5 ht he hm (s:=sA) (by omega)) ?_
   rintro _ _ ⟨v',L',h1,rfl,rfl⟩
   cases hp:parseT sA with
   | mk pl r =>
    obtain ⟨kk,e⟩:=r
    rw [hp] at h1
    simp only at h1 ⊢
    by_cases h0:e=0
    ·subst h0
     obtain ⟨rfl,hck⟩:=Zfu hp
     rw [← h1] at hck
     have hst:=Zfp hck
     have htp:=Zik hck (by omega)
     have hto:textO31 (L'.map ppOf)=(textT (L'.map ppOf),0):=by unfold textO31;rw [hck];rfl
     repeat' first|refine Kz ?_|intro _
     refine Ks rfl (Zij ht (v:=v') (fun r hr=>Zcx (L:=L') (by simp) r hr) (Zi8 hck)) ?_
     rw [hto]
     repeat' first|refine Kz ?_|intro _
     refine Ks rfl (Zgp (v:=v') (fun r hr=>Zcx (L:=L') (by simp) r hr) (Zi8 hck)) ?_
     rw [if_pos hck]
     repeat' first|refine Kz ?_|intro _
     refine Ks rfl (Zh2 ht he hm (s:=textT (L'.map ppOf)) (v:=v') (L:=L') (fun r hr=>Zcx (L:=L') (by simp) r hr) (Zu8 hck) (by omega)) ?_
     rw [decide_eq_true (show (parseT (textT (L'.map ppOf))).1=L'.map ppOf∧(parseT (textT (L'.map ppOf))).2.1=0∧(parseT (textT (L'.map ppOf))).2.2=0 by rw [htp];exact ⟨rfl,rfl,rfl⟩)]
     repeat' first|refine Kz ?_|intro _
     exact Post.round 1 (by show 1≤2;omega) (by show 2 - 1 < 2 - 0;omega) (by show Go.Sx.Sub _ [(32,.agg #[.string ⟨sA.toArray⟩,.string ⟨sB.toArray⟩]),(33,.int .i64 (0+1))];(exact Zad)) (by show Ents _ As;(exact Zaa))
    ·obtain ⟨hl0,hkl⟩:=Zg1 hp h0
     have hL0:L'.length=0:=by have:=congrArg List.length h1;rw [List.length_map,hl0] at this;exact this
     rw [← Zdj] at hkl
     repeat' first|refine Kz ?_|intro _
     refine TL.f rfl rfl (Zgt (v:=v') rfl) ?_
     repeat' first|refine Kz ?_|intro _
     refine Ks rfl (Znf hm (s:=sA) (by omega)) ?_
     have hcl:=Zlp (s:=sA)
     rw [← Zdj] at hcl
     repeat' first|refine Kz ?_|intro _

     exact Post.round 1 (by show 1≤2;omega) (by show 2 - 1 < 2 - 0;omega) (by show Go.Sx.Sub _ [(32,.agg #[.string ⟨sA.toArray⟩,.string ⟨sB.toArray⟩]),(33,.int .i64 (0+1))];(exact Zad)) (by show Ents _ As;(exact Zaa))
  ·repeat' first|refine Kz ?_|intro _
   refine TL.callv rfl rfl rfl rfl (Ze5 ht he hm (s:=sB) (by omega)) ?_
   rintro _ _ ⟨v',L',h1,rfl,rfl⟩
   cases hp:parseT sB with
   | mk pl r =>
    obtain ⟨kk,e⟩:=r
    rw [hp] at h1
    simp only at h1 ⊢
    by_cases h0:e=0
    ·subst h0
     obtain ⟨rfl,hck⟩:=Zfu hp
     rw [← h1] at hck
     have hst:=Zfp hck
     have htp:=Zik hck (by omega)
     have hto:textO31 (L'.map ppOf)=(textT (L'.map ppOf),0):=by unfold textO31;rw [hck];rfl
     repeat' first|refine Kz ?_|intro _
     refine Ks rfl (Zij ht (v:=v') (fun r hr=>Zcx (L:=L') (by simp) r hr) (Zi8 hck)) ?_
     rw [hto]
     repeat' first|refine Kz ?_|intro _
     refine Ks rfl (Zgp (v:=v') (fun r hr=>Zcx (L:=L') (by simp) r hr) (Zi8 hck)) ?_
     rw [if_pos hck]
     repeat' first|refine Kz ?_|intro _
     refine Ks rfl (Zh2 ht he hm (s:=textT (L'.map ppOf)) (v:=v') (L:=L') (fun r hr=>Zcx (L:=L') (by simp) r hr) (Zu8 hck) (by omega)) ?_
     rw [decide_eq_true (show (parseT (textT (L'.map ppOf))).1=L'.map ppOf∧(parseT (textT (L'.map ppOf))).2.1=0∧(parseT (textT (L'.map ppOf))).2.2=0 by rw [htp];exact ⟨rfl,rfl,rfl⟩)]
     repeat' first|refine Kz ?_|intro _
     exact Post.round 2 (by show 2≤2;omega) (by show 2 - 2 < 2 - 1;omega) (by show Go.Sx.Sub _ [(32,.agg #[.string ⟨sA.toArray⟩,.string ⟨sB.toArray⟩]),(33,.int .i64 (1+1))];(exact Zad)) (by show Ents _ As;(exact Zaa))
    ·obtain ⟨hl0,hkl⟩:=Zg1 hp h0
     have hL0:L'.length=0:=by have:=congrArg List.length h1;rw [List.length_map,hl0] at this;exact this
     rw [← Zdj] at hkl
     repeat' first|refine Kz ?_|intro _
     refine TL.f rfl rfl (Zgt (v:=v') rfl) ?_
     repeat' first|refine Kz ?_|intro _
     refine Ks rfl (Znf hm (s:=sB) (by omega)) ?_
     have hcl:=Zlp (s:=sB)
     rw [← Zdj] at hcl
     repeat' first|refine Kz ?_|intro _
     exact Post.round 2 (by show 2≤2;omega) (by show 2 - 2 < 2 - 1;omega) (by show Go.Sx.Sub _ [(32,.agg #[.string ⟨sA.toArray⟩,.string ⟨sB.toArray⟩]),(33,.int .i64 (1+1))];(exact Zad)) (by show Ents _ As;(exact Zaa))
  ·repeat' first|refine Kz ?_|intro _
   exact Post.cut _ _ ⟨rfl,rfl⟩ Zad Zaa
 rintro _ _ ⟨rfl,rfl⟩
 repeat' first|refine Kz ?_|intro _
 (refine Zac ?_)
 exact ⟨_,rfl,Ents.refl _⟩
end Go.Proofs.YtciadfpomkdlnaaGreatDoor.Q
