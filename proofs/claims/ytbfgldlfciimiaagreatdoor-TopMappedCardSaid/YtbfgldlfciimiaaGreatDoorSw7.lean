/- Walks: shells: what is thrown is caught; the shell of a grid. -/
import Derived.Test.YtbfgldlfciimiaaGreatDoorSw6
import Derived.Test.YtbfgldlfciimiaaGreatDoorMa4
import Derived.Test.YtbfgldlfciimiaaGreatDoorPl
set_option maxHeartbeats 1000000
namespace Go.Sx
open Go
theorem Z1j (z:Int):∃ c r,textI z=c::r∧((c.toNat:Int)=45↔z < 0):=by
 rw [Zb4]
 by_cases h:z < 0
 ·rw [if_pos h]
  exact ⟨45,_,rfl,by simp [h]⟩
 ·rw [if_neg h]
  have h1:=Zdn z.natAbs
  rw [← Zbm] at h1
  have h2:=Zra z.natAbs
  cases hd:Lib.decDigits z.natAbs with
  | nil=>rw [hd] at h1;simp at h1
  | cons c r =>
   have:=Zjg.1 (h2 c (by rw [hd];simp))
   exact ⟨c,r,rfl,⟨fun e=>by omega,fun e=>absurd e h⟩⟩
end Go.Sx
namespace Go.Proofs.YtbfgldlfciimiaaGreatDoor
open Go Go.Sx
variable {w0:World} {As:List Ent}
instance ifT37:IfT Tryz.prog 20:=⟨_,Tryz.underlying20⟩
theorem Zcp {b2 b3:Nat}:DefS Tryz.prog w0 16 [.pointer (some ⟨b2,0,none⟩),.pointer (some ⟨b3,0,none⟩)] As .returning fun u' A=>u'=.returning∧A=As:=by
 refine Zfy Tryz.func16 rfl Tryz.ntmps16 rfl rfl rfl rfl rfl (fun _ _=>rfl) fun c0 cs=>?_
 refine TLS.f ?_
 refine TLS.nil ?_
 repeat' first|refine Kz ?_|intro _
 refine TL.f rfl rfl (Zfx rfl) ?_
 repeat' first|refine Kz ?_|intro _
 refine Zdu ?_
 exact Zcz ⟨_,⟨rfl,rfl⟩,Zaa⟩
theorem Zsd {b2 b3:Nat} {pv fv ev:Value} {n:Int}:DefS Tryz.prog w0 16 [.pointer (some ⟨b2,0,none⟩),.pointer (some ⟨b3,0,none⟩)] (.cl b2 [pv,fv] 33::.cl b3 [ev] 34::As) (.panicking (thrown (errV n)))
  fun u' A=>u'=.panicking (caught (errV n))∧A=.cl b2 [.slice none 0 0,.slice none 0 0] 33::.cl b3 [.int .i64 n] 34::As:=by
 refine Zhz Tryz.func16 rfl Tryz.ntmps16 rfl rfl rfl rfl rfl (fun _ _=>rfl) fun c0 cs=>?_
 refine TLS.f ?_
 refine TLS.nil ?_
 repeat' first|refine Kz ?_|intro _
 refine TL.f rfl rfl (Ze3 rfl) ?_
 repeat' first|refine Kz ?_|intro _
 refine TL.f rfl rfl (Zea rfl rfl) ?_
 repeat' first|refine Kz ?_|intro _
 refine Zdu ?_
 exact Zcz ⟨_,⟨rfl,rfl⟩,(show Ents (.cl b3 [.int .i64 n] _::.cl b2 _ _::As) _ from Zaa)⟩
theorem DefS.ents {f:FuncId} {args:List Value} {Bs:List Ent} {u:FrameMode} {K:FrameMode→List Ent→Prop} (h:Ents As Bs) (k:DefS Tryz.prog w0 f args Bs u K):DefS Tryz.prog w0 f args As u K:=fun w hs=>k w (h w0 w hs)
theorem Z1y {S D:List Int} {out:Int} (h:¬ gridOk S out D=true):shellR S out D=(100,[],[]):=if_neg h
theorem Zuv {S D:List Int} {out:Int} (h:gridOk S out D=true) (h3:¬ (S.length=3∧out=3)):shellR S out D=(2,[],[]):=by
 unfold shellR
 rw [if_pos h]
 split
 ·rename_i a b c
  rw [if_neg fun e=>h3 ⟨rfl,e⟩]
 ·rfl
theorem Zgs {S D:List Int} {a b c:Nat} (hS:S=[(a:Int),(b:Int),(c:Int)]) (h:gridOk S 3 D=true):shellR S 3 D=shellM D a b c:=by
 subst hS
 unfold shellR
 rw [if_pos h]
 simp
set_option maxRecDepth 100000 in
theorem Z6f (ht:Tab w0) {sv dv:Value} {S D:List Int} {out:Int} [hs:RdIn As sv Int (cI .i64) S] [hd:RdIn As dv Int (cI .i64) D] (hl:S.length≤1000000000) (hm:D.length≤1000000000) :
  CallsS Tryz.prog w0 6 [.agg #[sv,.int .i64 out,dv]] As (MeshR As (shellR S out D)):=by
 refine Zas sv fun hsv=>Zas dv fun hdv=>?_
 refine Zce Tryz.func6 rfl Tryz.ntmps6 rfl ?_
 repeat' first|refine Kz ?_|intro _
 rename_i b1 b2 b3
 refine TL.defer (vs:=[]) (fst:=[]) rfl rfl rfl ?_
 repeat' first|refine Kz ?_|intro _
 refine Kt rfl (Zx4 (S:=S) (D:=D) hl hm) ?_
 by_cases hg:gridOk S out D=true
 ·rw [if_pos hg]
  have hgi:=Ycq.1 hg
  repeat' first|refine Kz ?_|intro _
  by_cases h3:S.length=3∧out=3
  ·obtain ⟨h31,rfl⟩:=h3
   obtain ⟨x,y,z,hS⟩:=len3 h31
   have hx:=hgi.2.2.1 x (by rw [hS];simp)
   have hy:=hgi.2.2.1 y (by rw [hS];simp)
   have hz:=hgi.2.2.1 z (by rw [hS];simp)
   obtain ⟨a,rfl⟩:∃ a:Nat,x=(a:Int):=⟨x.toNat,by omega⟩
   obtain ⟨b,rfl⟩:∃ b:Nat,y=(b:Int):=⟨y.toNat,by omega⟩
   obtain ⟨c,rfl⟩:∃ c:Nat,z=(c:Int):=⟨z.toNat,by omega⟩
   rw [Zgs hS hg]
   repeat' first|refine Kz ?_|intro _
   by_cases h300:300 < (nodesF a b c).length
   ·have hnr:nodesR S=([],3):=by rw [hS,Zj4 (by omega),if_pos h300]
    refine TL.callP rfl rfl rfl (Zz7 (S:=S) hsv hdv (by omega) hnr) ?_
    rintro _ _ ⟨rfl,rfl⟩
    repeat' first|refine Kz ?_|intro _
    refine Zcd rfl ((DefS.ents Zaa (Zsd (pv:=.slice none 0 0) (fv:=.slice none 0 0) (ev:=.int .i64 0) (As:=As))).mono ?_)
    rintro _ _ ⟨rfl,rfl⟩
    refine ⟨rfl,_,Res.r2,?_⟩
    rw [shellM,if_pos h300]
    obtain ⟨As',h3,h4⟩:=Zek (As:=As) (r:=3)
    exact ⟨As',h3,Ents.trans Zaa h4⟩
   ·refine TL.call rfl rfl rfl (Z73 hsv hdv hS hg (by omega)) ?_
    rintro _ _ ⟨pv,fv,rfl,hpv,hfv,rfl⟩
    rw [shellM,if_neg h300]
    generalize shellP D a b c=P
    generalize shellF a b c=F
    repeat' first|refine Kz ?_|intro _
    refine Kt rfl (Zfe (pts:=P) (fcs:=F)) ?_
    repeat' first|refine Kz ?_|intro _
    (refine Kx (fun hc=>?_) fun hc=>?_)
    ·rw [if_neg (Z4k hc).1]
     repeat' first|refine Kz ?_|intro _
     refine Zan rfl ((Zcp).mono ?_)
     rintro _ _ ⟨rfl,rfl⟩
     refine ⟨rfl,_,Res.r2,?_⟩
     obtain ⟨As',h3,h4⟩:=Zek (As:=As) (r:=5)
     exact ⟨As',h3,Ents.trans Zaa h4⟩
    ·have hk:=Z4j hc
     rw [if_pos hk]
     repeat' first|refine Kz ?_|intro _
     refine TL.call rfl rfl rfl (Zy8 (pts:=P) (fcs:=F) ht) ?_
     rw [if_pos hk]
     rintro _ _ ⟨rfl,rfl⟩
     obtain ⟨ch,rs,htx,hch⟩:=Z1j (volM P F)
     rw [htx]
     generalize hT:ch::rs=T
     have hT0:T[0]?=some ch:=by rw [← hT];rfl
     have hTl:0 < T.length:=by rw [← hT];simp
     repeat' first|refine Kz ?_|intro _
     refine TL.call rfl rfl rfl Z64 ?_
     rintro _ _ ⟨e0,rfl⟩
     obtain rfl:=e0
     repeat' first|refine Kz ?_|intro _
     (refine Kx (fun hc=>?_) fun hc=>?_)
     ·rw [if_pos (hch.1 hc)]
      repeat' first|refine Kz ?_|intro _
      refine TL.call rfl rfl rfl (Z1f (pts:=P) (fcs:=F)) ?_
      rintro _ _ hR
      obtain ⟨qv,gv,rfl,hq,hf',rfl⟩:=Zxo (show turnedM P F=(0,P,F.map swapF) by rw [turnedM,if_pos hk]) hR
      repeat' first|refine Kz ?_|intro _
      refine TL.call rfl rfl rfl (Z68 hq hf') ?_
      rintro _ _ ⟨e0,rfl⟩
      obtain rfl:=e0
      repeat' first|refine Kz ?_|intro _
      refine Zan rfl ((Zcp).mono ?_)
      rintro _ _ ⟨rfl,rfl⟩
      refine ⟨rfl,_,Res.r2,?_⟩
      exact ⟨_,⟨_,_,rfl,hq,hf',rfl⟩,Zaa⟩
     ·rw [if_neg (fun h=>hc (hch.2 h))]
      repeat' first|refine Kz ?_|intro _
      refine Zan rfl ((Zcp).mono ?_)
      rintro _ _ ⟨rfl,rfl⟩
      refine ⟨rfl,_,Res.r2,?_⟩
      exact ⟨_,⟨_,_,rfl,hpv,hfv,rfl⟩,Zaa⟩
  ·rw [Zuv hg h3]
   (first|refine Zbg rfl rfl (fun hgs=>?_) (fun hgs=>?_)|refine Za7 rfl rfl (fun hgs=>?_) (fun hgs=>?_)|refine Zbf rfl rfl rfl (fun hgs=>?_) (fun hgs=>?_)|refine Za6 rfl rfl rfl (fun hgs=>?_) (fun hgs=>?_))
   ·repeat' first|refine Kz ?_|intro _
    refine Zan rfl ((Zcp).mono ?_)
    rintro _ _ ⟨rfl,rfl⟩
    refine ⟨rfl,_,Res.r2,?_⟩
    obtain ⟨As',h3,h4⟩:=Zek (As:=As) (r:=2)
    exact ⟨As',h3,Ents.trans Zaa h4⟩
   ·repeat' first|refine Kz ?_|intro _
    refine Zan rfl ((Zcp).mono ?_)
    rintro _ _ ⟨rfl,rfl⟩
    refine ⟨rfl,_,Res.r2,?_⟩
    obtain ⟨As',h3,h4⟩:=Zek (As:=As) (r:=2)
    exact ⟨As',h3,Ents.trans Zaa h4⟩
 ·rw [if_neg hg]
  repeat' first|refine Kz ?_|intro _
  refine Zan rfl ((Zcp).mono ?_)
  rintro _ _ ⟨rfl,rfl⟩
  refine ⟨rfl,_,Res.r2,?_⟩
  rw [Z1y hg]
  obtain ⟨As',h3,h4⟩:=Zek (As:=As) (r:=100)
  exact ⟨As',h3,Ents.trans Zaa h4⟩
end Go.Proofs.YtbfgldlfciimiaaGreatDoor
