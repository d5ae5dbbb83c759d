/- Walks: PatchBack: Parse inverts Text, also where blanks, tabs, empty lines and remarks are inserted. -/
import Derived.Test.YtciadfpomkdlnaaGreatDoorPl3
import Derived.Test.YtciadfpomkdlnaaGreatDoorPwd
set_option maxHeartbeats 1000000
namespace Go.Proofs.YtciadfpomkdlnaaGreatDoor.Q
open Go Go.Sx
variable {w0:World} {As:List Ent}
theorem Z2u {k:Nat} {x:List UInt8} (hk:k < 4) :
  ([.string ⟨([10]++x).toArray⟩,.string ⟨([35,32,101,110,100,10]++x).toArray⟩,.string ⟨([32,9]++x).toArray⟩,.string ⟨(wideL x).toArray⟩]:List Value)[k]?=some (.string ⟨(chgL k x).toArray⟩):=by
 obtain rfl|rfl|rfl|rfl:k=0∨k=1∨k=2∨k=3:=by omega
 all_goals rfl
set_option maxRecDepth 100000 in
set_option maxHeartbeats 1000000 in
theorem Z1b (ht:Tab w0) (he:ErrR w0) (hm:LenR w0) {ch:Nat} {lv bv:Value} {X:List W7} {B:List Int} [hr:RdIn As lv W7 c7 X] [hb:RdIn As bv Int (cI .u8) B] (hok:∀ x∈X,x.ok) (hch:ch≤255) (hB:∀ y∈B,0≤y∧y≤255) :
  CallsS Tryz.prog w0 8 [.agg #[.int .u8 (ch:Int),lv],bv] As fun u _=>u=.bool true:=by
 refine Zbh lv fun hlv=>?_
 refine Zae bv fun pb cb eb=>?_
 subst eb
 refine Zab Tryz.func8 rfl Tryz.ntmps8 rfl ?_
 repeat' first|refine Kz ?_|intro _
 refine Kt rfl (Zfj ht he hm) ?_
 repeat' first|refine Kz ?_|intro _
 rename_i b4
 refine TL.callv rfl rfl rfl rfl (Zel ht hok hch) ?_
 rintro vl _ ⟨L,hL,rfl⟩
 have hcl:checkP (L.map ppOf)=true:=by rw [hL];exact Zeo
 clear hL
 repeat' first|refine Kz ?_|intro _
 refine Ks rfl (Ze3 ht (v:=vl) (fun r hr=>Zay (L:=L) (by simp) r hr) (Zd2 hcl)) ?_
 have hto:textO31 (L.map ppOf)=(textT (L.map ppOf),0):=by unfold textO31;rw [hcl];rfl
 have htl:=Zcb hcl
 have htp:=Zgf hcl (by omega)
 rw [hto]
 have hng:¬ (3360:Int) < (((textT (L.map ppOf),(0:Int)).1.length:Nat):Int):=by simp only;omega
 have hL0:=Zx6 hcl
 have htx:=fun n ys h=>LkT.text (n:=n) (ys:=ys) h rfl hcl
 repeat' first|refine Kz ?_|intro _
 refine Ks rfl (Zfp ht he hm (s:=textT (L.map ppOf)) (v:=vl) (L:=L) (fun r hr=>Zay (L:=L) (by simp) r hr) (Zd3 hcl) (by omega)) ?_
 rw [decide_eq_true (show (parseT (textT (L.map ppOf))).1=L.map ppOf∧(parseT (textT (L.map ppOf))).2.1=0∧(parseT (textT (L.map ppOf))).2.2=0 by rw [htp];exact ⟨rfl,rfl,rfl⟩)]
 repeat' first|refine Kz ?_|intro _
 refine TL.callv rfl rfl rfl rfl (Zg1 hm (s:=textT (L.map ppOf)) (by omega)) ?_
 rintro _ _ ⟨pA,cA,rfl,rfl⟩
 have hoL:=(Zja (s:=textT (L.map ppOf))).1
 generalize linesL (textT (L.map ppOf))=o at *
 obtain ⟨n4,hn4,hn4l,hn4m⟩:∃ n4:Nat,(if (4:Int) < (B.length:Int) then (4:Int) else (B.length:Int))=(n4:Int)∧n4≤B.length∧n4≤4:=by
  split
  ·exact ⟨4,rfl,by omega,Nat.le_refl _⟩
  ·exact ⟨B.length,rfl,Nat.le_refl _,by omega⟩
 repeat' first|refine Kz ?_|intro _
 rw [hn4]
 refine TL.f rfl rfl (Zl8 (hi:=n4) rfl (Zcj rfl) (by omega)) ?_
 repeat' first|refine Kz ?_|intro _
 have hol:(addNl o).length=o.length:=Zds o
 rw [hol]
 have hcf:=Zd3 hcl
 refine Tri.midB (fun e' As'=>∃ ys,LkT o n4 ys∧e'=[(5,vl),(8,.slice pA o.length cA)]∧As'=.ow cW 9 (.slice pA o.length cA) (addNl ys)::.ow cPt 65 vl L::.ft (devPF L)::As) ?_ ?_
 ·refine Tri.loop (ι:=Nat × List (List UInt8)) (fun x=>x.1≤n4∧LkT o x.1 x.2) (fun x=>n4 - x.1) (fun x=>[(5,vl),(8,.slice pA o.length cA),(40,.slice pb n4 cb),(41,.int .i64 (n4:Int)),(42,.int .i64 (x.1:Int))]) (fun x=>.ow cW 9 (.slice pA o.length cA) (addNl x.2)::.ow cPt 65 vl L::.ft (devPF L)::As) (0,o) ⟨Nat.zero_le _,hL0⟩ (by show Go.Sx.Sub _ [(5,vl),(8,.slice pA o.length cA),(40,.slice pb n4 cb),(41,.int .i64 (n4:Int)),(42,.int .i64 0)];(exact Zad)) (by show Ents _ (.ow cW 9 (.slice pA o.length cA) (addNl o)::.ow cPt 65 vl L::.ft (devPF L)::As);(exact Zaa)) ?_
  rintro ⟨i,ys⟩ ⟨hi,hY⟩
  simp only at hi hY
  show Tri _ _ _ _ [(5,vl),(8,.slice pA o.length cA),(40,.slice pb n4 cb),(41,.int .i64 (n4:Int)),(42,.int .i64 (i:Int))] (.ow cW 9 (.slice pA o.length cA) (addNl ys)::.ow cPt 65 vl L::.ft (devPF L)::As) _
  repeat' first|refine Kz ?_|intro _
  (refine Kx (fun hc=>?_) fun hc=>?_)
  ·haveI rdl:∀ Bs [RdIn Bs (.slice pb B.length cb) Int (cI .u8) B],RdIn Bs (.slice pb n4 cb) Int (cI .u8) (B.take n4):=fun Bs i1=>RdIn.take (h:=i1) hn4l
   obtain ⟨bi,hbi⟩:∃ x,B[i]?=some x:=⟨_,List.getElem?_eq_getElem (by omega)⟩
   have hbi2:(B.take n4)[i]?=some bi:=by rw [List.getElem?_take,if_pos (by omega)];exact hbi
   have hbl:(B.take n4).length=n4:=by rw [List.length_take];omega
   obtain ⟨hb0,hb255⟩:=hB bi (List.mem_of_getElem? hbi)
   obtain ⟨bn,rfl⟩:=Int.eq_ofNat_of_zero_le hb0
   have hol2:=hY.len
   have hpos:0 < ys.length:=List.length_pos_iff.2 hY.ne
   obtain ⟨j,hj,hjl⟩:∃ j:Nat,(bn:Int) / 4 % (o.length:Int)=(j:Int)∧j < ys.length:=⟨bn / 4 % o.length,by push_cast;rfl,by rw [hol2];exact Nat.mod_lt _ (by omega)⟩
   obtain ⟨k4,hk4,hk4l⟩:∃ k:Nat,((bn:Int)+(i:Int)) % 4=(k:Int)∧k < 4:=⟨(bn+i) % 4,by omega,by omega⟩
   obtain ⟨x,ys2,hx,hset,hY2,hxl⟩:=hY.step (k:=k4) (by omega) hjl
   have hjl2:j < (addNl ys).length:=by rw [Zds];exact hjl
   repeat' first|refine Kz ?_|intro _
   rw [hj]
   refine Tri.open (.slice pA o.length cA) (xs:=addNl ys) (fun e=>by rw [e] at hjl2;exact Nat.not_lt_zero _ hjl2) fun b0 off0 cap0 hcap0 hv=>?_
   injection hv with hv1 hv2 hv3
   subst hv1 hv3
   have hjo:j < o.length:=by omega
   refine Zck [] [(5,.w (.slice (some ⟨b0,off0,none⟩) o.length cA)),(10,.w (.slice (some ⟨b0,off0,none⟩) o.length cA)),(15,.w (.slice (some ⟨b0,off0,none⟩) o.length cA)),(20,.w (.slice (some ⟨b0,off0,none⟩) o.length cA))] (.take 0 (.take 1 (.take 2 (.take 3 (.take 4 (.take 5 (.take 6 (.take 7 (.take 8 (.take 9 (.take 10 (.take 11 (.take 12 (.take 13 (.take 14 (.take 15 (.take 16 (.take 17 (.take 18 (.take 19 (.take 20 (.take 23 (.take 24 (.take 25 (.take 26 (.take 27 (.all [(21,.take 22 (.take 28 (.take 29 (.all [(30,.done)]))))]))))))))))))))))))))))))))) ?_
   repeat' first|refine Kf ?_|intro _|constructor
   refine TT.take rfl rfl rfl (Zc6 rfl rfl hjo) ?_
   repeat' first|refine Kf ?_|intro _|constructor
   refine TT.take rfl rfl rfl (Zc6 rfl rfl hjo) ?_
   repeat' first|refine Kf ?_|intro _|constructor
   refine TT.take rfl rfl rfl (Zc6 rfl rfl hjo) ?_
   repeat' first|refine Kf ?_|intro _|constructor
   refine TT.take rfl rfl rfl (Zc6 rfl rfl hjo) ?_
   repeat' first|refine Kf ?_|intro _|constructor
   refine Ku rfl (Zmn hm (s:=x) (by omega)) ?_
   repeat' first|refine Kf ?_|intro _|constructor
   rw [hk4]
   refine TT.take rfl rfl rfl (Zid rfl rfl rfl (by simpa using hk4l) (Z2u hk4l)) ?_
   refine TT.take rfl rfl rfl (Zc6 rfl rfl hjo) ?_
   repeat' first|refine Kf ?_|intro _|constructor
   rw [hset]
   exact Post.round (i+1,ys2) ⟨by show i+1≤n4;omega,hY2⟩ (by show n4 - (i+1) < n4 - i;omega) (by show Go.Sx.Sub _ [(5,vl),(8,.slice (some ⟨b0,off0,none⟩) o.length cA),(40,.slice pb n4 cb),(41,.int .i64 (n4:Int)),(42,.int .i64 ((i+1:Nat):Int))];(exact Zad)) (by show Ents _ (.ow cW 9 (.slice (some ⟨b0,off0,none⟩) o.length cA) (addNl ys2)::.ow cPt 65 vl L::.ft (devPF L)::As);(exact Zaa))
  ·have:i=n4:=by omega
   subst this
   repeat' first|refine Kz ?_|intro _
   exact Post.cut _ _ ⟨ys,hY,rfl,rfl⟩ Zad Zaa
 rintro _ _ ⟨ys,hY,rfl,rfl⟩
 obtain ⟨ht1,ht2⟩:=htx _ _ hY (by omega)
 have hne:addNl ys≠[]:=fun e=>hY.ne (List.length_eq_zero_iff.1 (by rw [← Zds,e];rfl))
 have hyl:=hY.len
 have hyl2:=Zds ys
 repeat' first|refine Kz ?_|intro _
 refine Ks rfl (Zr9 (v:=.slice pA o.length cA) (xs:=addNl ys) hne (by omega) (by omega)) ?_
 repeat' first|refine Kz ?_|intro _
 refine Ks rfl (Zfp ht he hm (s:=(addNl ys).flatten) (v:=vl) (L:=L) (fun r hr=>Zay (L:=L) (by simp) r hr) hcf (by omega)) ?_
 rw [decide_eq_true (show (parseT (addNl ys).flatten).1=L.map ppOf∧(parseT (addNl ys).flatten).2.1=0∧(parseT (addNl ys).flatten).2.2=0 by rw [ht1];exact ⟨rfl,rfl,rfl⟩)]
 repeat' first|refine Kz ?_|intro _
 (refine Zac ?_)
 exact ⟨_,rfl,Ents.refl _⟩
end Go.Proofs.YtciadfpomkdlnaaGreatDoor.Q
