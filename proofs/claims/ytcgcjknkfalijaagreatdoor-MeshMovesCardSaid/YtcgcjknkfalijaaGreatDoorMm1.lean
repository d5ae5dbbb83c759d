/- Walks: MeshMoves. -/
import Derived.Test.YtcgcjknkfalijaaGreatDoorMr1
import Derived.Test.YtcgcjknkfalijaaGreatDoorMq8
import Derived.Test.YtcgcjknkfalijaaGreatDoorMz1
import Derived.Test.YtcgcjknkfalijaaGreatDoorShelf
import Derived.Test.YtcgcjknkfalijaaGreatDoorSxB
import Derived.Below
set_option maxHeartbeats 1000000
namespace Go.Sx
open Go
theorem St.belowM {w0 w w':World} {As:List Ent} (h:St w0 w As) (hb:RowKit.Below w.heap.size w w'):St w0 w' As:=by
 obtain ⟨H,bs,g⟩:=h
 refine ⟨H,bs,Nat.le_trans g.size hb.size,hb.os.trans g.os,hb.tape.trans g.tape,hb.output.trans g.output,fun b o hbo=>?_,g.old,Sat.move (FH.le_refl H) g.sat fun b hm=>hb.block b (g.sat.lt b hm),g.nd,g.ap⟩
 have h1:=g.fz b o hbo
 rw [hb.block b (Array.getElem?_eq_some_iff.1 h1).1];exact h1
theorem Zl5 (z:Int):(textI z).length=Lib.nDigits z.natAbs+(if z < 0 then 1 else 0):=by
 have h:textI z=if z < 0 then 45::Lib.decDigits z.natAbs else Lib.decDigits z.natAbs:=by
  unfold textI Lib.itoa
  split
  ·rfl
  ·rw [show z.toNat=z.natAbs by omega]
 rw [h]
 split<;>simp [Zb9]
theorem Zju {z:Int} (h:-9223372036854775808≤z∧z≤9223372036854775807):(textI z).length≤1000000000:=by
 rw [Zl5]
 have:=Zda (r:=z.natAbs) (k:=19) (by omega) (by omega)
 split<;>omega
theorem Zow (p v:V3):(p.add v).sub p=v:=by
 obtain ⟨x,y,z⟩:=p
 obtain ⟨a,b,c⟩:=v
 simp only [V3.add,V3.sub,V3.mk.injEq]
 omega
theorem Zi9 {p v:V3} (hp:p.in 112396) (hv:v.in 65536):(p.add v).in 200000:=by
 obtain ⟨a1,a2,a3,a4,a5,a6⟩:=hp
 obtain ⟨b1,b2,b3,b4,b5,b6⟩:=hv
 exact ⟨by show _≤p.x+v.x;omega,by show p.x+v.x≤_;omega,by show _≤p.y+v.y;omega,by show p.y+v.y≤_;omega,by show _≤p.z+v.z;omega,by show p.z+v.z≤_;omega⟩
end Go.Sx
namespace Go.Proofs.YtcgcjknkfalijaaGreatDoor
open Go Go.Sx
variable {w0:World} {As:List Ent} {pv fv:Value} {pts fcs:List V3}
instance:IfT Tryz.prog 42:=⟨_,Tryz.underlying42⟩
theorem Zlj (_ht:Tab w0) {z:Int} (h:-9223372036854775808≤z∧z≤9223372036854775807):CallsS Tryz.prog w0 10 [.string ⟨(textI z).toArray⟩] As fun u Bs=>u=.tuple #[.int .i64 z,.nilIface]∧Bs=As :=
 CallsS.mk fun w hst=>(Tryz.strconv_Atoi_ok ⟨(textI z).toArray⟩ (by have:=Zju h;show (textI z).toArray.size≤_;simp;omega) z (by rw [show (⟨(textI z).toArray⟩:ByteArray).data.toList=textI z from rfl];exact Zov h) w).mono fun en w' ⟨h1,h2⟩=>by
  refine ⟨_,As,h1,⟨rfl,rfl⟩,?_⟩
  rcases h2 with rfl|⟨t,rfl⟩
  ·exact hst
  ·exact hst.belowM (Lib.bytesWorld_below _ _ _)
set_option maxRecDepth 100000 in
set_option maxHeartbeats 16000000 in
theorem Ziq (ht:Tab w0) (d:DraftA) (hd:d.ok) {s0 s1 s2:Int} (hs:(-32768≤s0∧s0≤32767)∧(-32768≤s1∧s1≤32767)∧(-32768≤s2∧s2≤32767)) [RdIn As d.ov Int (cI .i8) d.off] :
  CallsS Tryz.prog w0 3 [.agg #[.int .u8 d.kd,.int .u8 d.sz,.int .i16 d.a0,.int .i16 d.a1,.int .i16 d.a2,d.ov,.bool d.tn],.agg #[.int .i16 s0,.int .i16 s1,.int .i16 s2]] As fun u _=>u=.bool true:=by
 obtain ⟨v,hv⟩:∃ v:V3,v=⟨2 * s0,2 * s1,2 * s2⟩:=⟨_,rfl⟩
 have hM:Moves d.mesh.1 d.mesh.2 v d.tn:=by
  obtain ⟨h1,h2,h3,h4,h5,h6,_⟩:=hd
  have:=Zqk (k:=(d.kd % 4).toNat) (u:=500+50 * d.sz) (t:=⟨d.a0,d.a1,d.a2⟩) (v:=v) (off:=d.off) (by omega) (by omega) (by omega) ⟨by show _≤d.a0;omega,by show d.a0≤_;omega,by show _≤d.a1;omega,by show d.a1≤_;omega,by show _≤d.a2;omega,by show d.a2≤_;omega⟩ h6 (by subst hv;exact ⟨by show _≤2 * s0;omega,by show 2 * s0≤_;omega,by show _≤2 * s1;omega,by show 2 * s1≤_;omega,by show _≤2 * s2;omega,by show 2 * s2≤_;omega⟩) d.tn
  rw [show 2 * (500+50 * d.sz)=1000+100 * d.sz by omega] at this
  exact this
 have hvin:v.in 65536:=by subst hv;exact ⟨by show _≤2 * s0;omega,by show 2 * s0≤_;omega,by show _≤2 * s1;omega,by show 2 * s1≤_;omega,by show _≤2 * s2;omega,by show 2 * s2≤_;omega⟩
 have hdr:=fun Bs [RdIn Bs d.ov Int (cI .i8) d.off]=>Zon (w0:=w0) (As:=Bs) d hd
 refine Zar d.ov fun hov=>?_
 obtain ⟨⟨s01,s02⟩,⟨s11,s12⟩,s21,s22⟩:=hs
 obtain ⟨lo,hi,hlo,hhi,hb1,hb2⟩:=hM.boxes
 have q1:=Zow lo v
 have q2:=Zow hi v
 have i1:=Zi9 hlo hvin
 have i2:=Zi9 hhi hvin
 generalize lo.add v=lo' at *
 generalize hi.add v=hi' at *
 generalize hPF:d.mesh=PF at *
 obtain ⟨P,F⟩:=PF
 simp only at hM hb1 hb2
 have hlP:P.length≤1000000000:=Nat.le_trans (Zvk.1 hM.good).p300 (by decide)
 have hlF:F.length≤1000000000:=Nat.le_trans (Zvk.1 hM.good).f600 (by decide)
 refine Zab Tryz.func3 rfl Tryz.ntmps3 rfl ?_
 repeat' first|refine Kz ?_|intro _
 rename_i b2 b3
 refine Kt rfl (Zp4 ht) ?_
 repeat' first|refine Kz ?_|intro _
 refine TL.callv rfl rfl rfl rfl (hdr _) ?_
 rintro _ _ ⟨p0,f0,rfl,hp0,hf0,hB⟩
 simp only at hB
 subst hB
 repeat' first|refine Kz ?_|intro _
 rename_i b5 b6
 refine TL.callv rfl rfl rfl rfl (Ze5 (pv:=p0) (fv:=f0) (pts:=P) (fcs:=F) (b:=⟨2 * s0,2 * s1,2 * s2⟩)) ?_
 intro _ _ h1
 obtain ⟨p1,f1,rfl,hp1,hf1,rfl⟩:=Zck (show movedM P F ⟨2 * s0,2 * s1,2 * s2⟩=(0,P.map (·.add v),F) by rw [← hv];exact hM.move) h1
 repeat' first|refine Kz ?_|intro _
 rename_i b7
 refine TL.callv rfl rfl rfl rfl (Ze5 (pv:=p1) (fv:=f1) (pts:=List.map (fun x:V3=>x.add v) P) (fcs:=F) (b:=⟨-(2 * s0),-(2 * s1),-(2 * s2)⟩)) ?_
 intro _ _ h2
 obtain ⟨p2,f2,rfl,hp2,hf2,rfl⟩:=Zck (show movedM (P.map (·.add v)) F ⟨-(2 * s0),-(2 * s1),-(2 * s2)⟩=(0,P,F) by have:=hM.back;rw [hv] at this ⊢;exact this) h2
 repeat' first|refine Kz ?_|intro _
 rename_i b9
 refine TL.callv rfl rfl rfl rfl (Zff (pv:=p0) (fv:=f0) (pts:=P) (fcs:=F)) ?_
 intro _ _ h3
 obtain ⟨p3,f3,rfl,hp3,hf3,rfl⟩:=Zck hM.turn h3
 repeat' first|refine Kz ?_|intro _
 rename_i b11
 refine TL.callv rfl rfl rfl rfl (Zff (pv:=p3) (fv:=f3) (pts:=P) (fcs:=F.map swapF)) ?_
 intro _ _ h4
 obtain ⟨p4,f4,rfl,hp4,hf4,rfl⟩:=Zck hM.again h4
 repeat' first|refine Kz ?_|intro _
 rename_i b13
 refine TL.callv rfl rfl rfl rfl (Zbq ht (pv:=p0) (fv:=f0) (pts:=P) (fcs:=F)) ?_
 rw [if_pos hM.good]
 rintro _ _ ⟨rfl,rfl⟩
 repeat' first|refine Kz ?_|intro _
 refine TL.callv rfl rfl rfl rfl (Zbq ht (pv:=p1) (fv:=f1) (pts:=List.map (fun x:V3=>x.add v) P) (fcs:=F)) ?_
 rw [if_pos hM.goodV,hM.volV]
 rintro _ _ ⟨rfl,rfl⟩
 repeat' first|refine Kz ?_|intro _
 refine TL.callv rfl rfl rfl rfl (Zbq ht (pv:=p3) (fv:=f3) (pts:=P) (fcs:=F.map swapF)) ?_
 rw [if_pos hM.goodT,hM.volT]
 rintro _ _ ⟨rfl,rfl⟩
 have hsm:=hM.small
 have hsg:=hM.sign
 generalize volM P F=V at hsm hsg ⊢
 repeat' first|refine Kz ?_|intro _
 refine TL.callv rfl rfl rfl rfl (Zk2 (pv:=p2) (fv:=f2) (pv':=p0) (fv':=f0) (pts:=P) (fcs:=F) (pts':=P) (fcs':=F) hlP hlF) ?_
 rw [decide_eq_true rfl,decide_eq_true rfl]
 rintro _ _ ⟨rfl,rfl⟩
 repeat' first|refine Kz ?_|intro _
 refine TL.callv rfl rfl rfl rfl (Zk2 (pv:=p4) (fv:=f4) (pv':=p0) (fv':=f0) (pts:=P) (fcs:=F) (pts':=P) (fcs':=F) hlP hlF) ?_
 rw [decide_eq_true rfl,decide_eq_true rfl]
 rintro _ _ ⟨rfl,rfl⟩
 repeat' first|refine Kz ?_|intro _
 rw [show decide (textI V=textI V)=true from decide_eq_true rfl]
 repeat' first|refine Kz ?_|intro _
 refine Ks rfl (Zlj ht (z:=V) (by omega)) ?_
 repeat' first|refine Kz ?_|intro _
 refine Ks rfl (Zlj ht (z:=-V) (by omega)) ?_
 repeat' first|refine Kz ?_|intro _
 refine TL.callv rfl rfl rfl rfl (Zot (pv:=p0) (fv:=f0) (pts:=P) (fcs:=F)) ?_
 rw [hb1]
 dsimp only
 rintro _ _ ⟨rfl,rfl⟩
 repeat' first|refine Kz ?_|intro _
 rename_i b25 b26
 refine TL.callv rfl rfl rfl rfl (Zot (pv:=p1) (fv:=f1) (pts:=List.map (fun x:V3=>x.add v) P) (fcs:=F)) ?_
 rw [hb2]
 dsimp only
 rintro _ _ ⟨rfl,rfl⟩
 repeat' first|refine Kz ?_|intro _
 rename_i b28 b29
 have hvv:v.val=.agg #[.int .i64 (2 * s0),.int .i64 (2 * s1),.int .i64 (2 * s2)]:=by rw [hv];rfl
 refine Zeu [.cl b2 [.int .u8 d.kd,.int .u8 d.sz,.int .i16 d.a0,.int .i16 d.a1,.int .i16 d.a2,d.ov,.bool d.tn] 26,.cl b28 [.int .i64 lo'.x,.int .i64 lo'.y,.int .i64 lo'.z] 32,.cl b25 [.int .i64 lo.x,.int .i64 lo.y,.int .i64 lo.z] 32,.cl b29 [.int .i64 hi'.x,.int .i64 hi'.y,.int .i64 hi'.z] 32,.cl b26 [.int .i64 hi.x,.int .i64 hi.y,.int .i64 hi.z] 32,.cl b6 [.int .i64 (2 * s0),.int .i64 (2 * s1),.int .i64 (2 * s2)] 32] [] (.take 0 (.take 1 (.take 2 (.take 3 (.take 4 (.take 5 (.take 6 (.take 7 (.take 8 (.take 9 (.take 10 (.take 11 (.take 12 (.take 13 (.take 14 (.take 15 (.take 16 (.take 17 (.take 18 (.take 19 (.take 20 (.take 21 (.take 22 (.take 23 (.take 24 (.take 25 (.take 26 (.take 27 (.take 28 (.take 29 (.take 30 (.take 31 (.take 32 (.take 33 (.take 35 (.all [(34,.take 36 (.take 37 (.take 38 (.take 39 (.take 40 (.take 42 (.all [(41,.take 43 (.take 44 (.take 45 (.done))))])))))))])))))))))))))))))))))))))))))))))))) ?_
 repeat' first|refine Kf ?_|intro _|constructor
 refine TT.take rfl rfl rfl (Zhb rfl) ?_
 repeat' first|refine Kf ?_|intro _|constructor
 refine TT.take rfl rfl rfl (Zhb rfl) ?_
 repeat' first|refine Kf ?_|intro _|constructor
 rw [hsg.2,show decide (d.tn=d.tn)=true from decide_eq_true rfl]
 repeat' first|refine Kf ?_|intro _|constructor
 refine T1.callv rfl rfl rfl rfl rfl (Zip (p:=lo') (q:=lo) i1 hlo (by decide)) ?_
 rw [q1,hvv]
 rintro _ _ ⟨rfl,rfl⟩
 repeat' first|refine Kf ?_|intro _|constructor
 rw [show decide ((⟨2 * s0,2 * s1,2 * s2⟩:V3)=⟨2 * s0,2 * s1,2 * s2⟩)=true from decide_eq_true rfl]
 repeat' first|refine Kf ?_|intro _|constructor
 refine T1.callv rfl rfl rfl rfl rfl (Zip (p:=hi') (q:=hi) i2 hhi (by decide)) ?_
 rw [q2,hvv]
 rintro _ _ ⟨rfl,rfl⟩
 repeat' first|refine Kf ?_|intro _|constructor
 (refine Zac ?_)
 exact ⟨_,by simp,Ents.refl _⟩
end Go.Proofs.YtcgcjknkfalijaaGreatDoor
