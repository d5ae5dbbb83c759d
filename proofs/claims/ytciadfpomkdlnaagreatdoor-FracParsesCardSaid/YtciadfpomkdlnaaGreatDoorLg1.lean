/- Walks: the law of texts that are read. -/
import Derived.Test.YtciadfpomkdlnaaGreatDoorLf5
import Derived.Test.YtciadfpomkdlnaaGreatDoorFp4
import Derived.Laws.IdiomStrings
set_option maxHeartbeats 1000000
namespace Go.Sx
open Go
section
variable {P:Program} {N:Ctx} {w0:World} {e:Env} {As rest:List Ent} {ty:TypeId} {x:Operand}
theorem Zt8 {t t' el:TypeId} {b m c:Nat} {T:TypeId} [UL P t (.slice el)] [UL P el (.int .u8)] [UL P t' .string] (hx:ev e x=some (.slice (some ⟨b,0,none⟩) 1 m)) [h:TakeC As b [.int .u8 (c:Int)] T rest] (hc:c < 256) :
  ExF P N w0 (.convert t t' x) ty e As (.string ⟨[UInt8.ofNat c].toArray⟩):=by
 unfold ExF
 intro a w ha hs d pos af g
 obtain ⟨H,bs,G⟩:=Ents.perm h.perm w0 w hs
 obtain ⟨bs',rfl,hw,hr⟩:=G.sat
 have hrun:=run_convert_bytes_back (P:=P) w t t' el ⟨b,0,none⟩ m [UInt8.ofNat c] (UL.h (P:=P)) (UL.h (P:=P)) (UL.h (P:=P)) (fun j hj=>by
  have:j=0:=by simpa using hj
  subst this
  rw [Zai]
  simp [World.cell?,hw,Nat.mod_eq_of_lt hc])
 simp only [List.length_cons,List.length_nil,Nat.zero_add] at hrun
 simp [execOp,ha.eval hx,hrun]
end
end Go.Sx
namespace Go.Proofs.YtciadfpomkdlnaaGreatDoor.Q
open Go Go.Sx
variable {w0:World} {As:List Ent}
set_option maxRecDepth 100000 in
set_option maxHeartbeats 8000000 in
theorem Zu7 (ht:Tab w0) (he:ErrR w0) (hm:LenR w0) {s:List UInt8} (x:D02) {n m:Nat} (hn8:n≤255) (hm8:m≤255) (kx:x.ok)
  [r1:RdIn As x.n.gv Nat (cN .u16) x.n.gs] [r2:RdIn As x.d.gv Nat (cN .u16) x.d.gs] :
  CallsS Tryz.prog w0 4 [.string ⟨s.toArray⟩,.agg x.cells.toArray,.int .u8 (n:Int),.int .u8 (m:Int)] As fun u _=>u=.bool true:=by
 obtain ⟨⟨hx1,gx,lx,zx⟩,⟨hx1',gx',lx',zx'⟩⟩:=x
 replace r1:RdIn As gx Nat (cN .u16) lx:=r1
 replace r2:RdIn As gx' Nat (cN .u16) lx':=r2
 refine Zad gx fun p0 c0 e0=>?_
 refine Zad gx' fun p1 c1 e1=>?_
 subst e0 e1
 have sx:∀ {Bs:List Ent} [i1:RdIn Bs (.slice p0 lx.length c0) Nat (cN .u16) lx] [i2:RdIn Bs (.slice p1 lx'.length c1) Nat (cN .u16) lx'],CallsS Tryz.prog w0 19 [.agg #[.bool hx1,.slice p0 lx.length c0,.int .u16 (zx:Int),.bool hx1',.slice p1 lx'.length c1,.int .u16 (zx':Int)]] Bs (FracE 40 Bs) :=
  fun {Bs} i1 i2=>@Zsx w0 Bs ⟨⟨hx1,.slice p0 lx.length c0,lx,zx⟩,⟨hx1',.slice p1 lx'.length c1,lx',zx'⟩⟩ i1 i2 kx
 clear kx
 refine Zab Tryz.func4 rfl Tryz.ntmps4 rfl ?_
 show Tri _ _ _ _ (env0 0 [.string ⟨s.toArray⟩,.agg #[.bool hx1,.slice p0 lx.length c0,.int .u16 (zx:Int),.bool hx1',.slice p1 lx'.length c1,.int .u16 (zx':Int)],.int .u8 (n:Int),.int .u8 (m:Int)]) _ _
 repeat' first|refine Kz ?_|intro _
 refine Kt rfl (Zji ht he hm) ?_
 repeat' first|refine Kz ?_|intro _
 refine TL.callv rfl rfl rfl rfl sx ?_
 rintro _ _ ⟨r,hr,rfl,rfl⟩
 repeat' first|refine Kz ?_|intro _
 obtain ⟨k0,hk0⟩:∃ k0:Nat,(n:Int) % 21=(k0:Int):=⟨n % 21,by omega⟩
 rw [hk0]
 refine TL.callv rfl rfl rfl rfl (Zp3 (r:=r) (n:=k0) hr (by omega)) ?_
 rintro _ _ ⟨w,e,hw,rfl,rfl⟩
 repeat' first|refine Kz ?_|intro _
 obtain ⟨k,hk⟩:∃ k:Nat,(n:Int) % ((w.length:Int)+1)=(k:Int):=⟨n % (w.length+1),by rw [Int.natCast_emod];rfl⟩
 have hkw:k≤w.length:=by
  have:=Int.emod_lt_of_pos (n:Int) (show (0:Int) < (w.length:Int)+1 by omega)
  rw [hk] at this
  omega
 rw [hk]
 have m1:(if (640:Int) < (s.length:Int) then 640 else (s.length:Int))=((min s.length 640:Nat):Int):=by split<;>omega
 refine Zbg As [] (.take 0 (.take 1 (.take 2 (.take 3 (.take 4 (.take 5 (.take 6 (.take 7 (.take 8 (.take 9 (.take 13 (.take 14 (.take 15 (.take 17 (.take 18 (.take 19 (.take 20 (.take 21 (.take 22 (.take 23 (.take 25 (.all [(10,.all [(11,.take 12 (.take 16 (.take 24 (.done))))])]))))))))))))))))))))))  ?_
 repeat' first|refine Kf ?_|intro _|constructor
 rw [m1]
 refine TT.take rfl rfl rfl (Zdt (hi:=min s.length 640) rfl (Zb7 rfl) (by omega)) ?_
 repeat' first|refine Kf ?_|intro _|constructor
 refine TT.take rfl rfl rfl (Zdt (hi:=k) rfl (Zb7 rfl) hkw) ?_
 repeat' first|refine Kf ?_|intro _|constructor
 refine TT.take rfl rfl rfl (Zd6 (lo:=k) rfl (Zck rfl) hkw) ?_
 repeat' first|refine Kf ?_|intro _|constructor
 refine TT.take rfl rfl rfl (Zd6 (lo:=k) rfl (Zck rfl) hkw) ?_
 repeat' first|refine Kf ?_|intro _|constructor
 refine TT.take rfl rfl rfl (Zdt (hi:=k) rfl (Zb7 rfl) hkw) ?_
 repeat' first|refine Kf ?_|intro _|constructor
 refine T1.f rfl rfl rfl (Zt8 rfl (by omega)) ?_
 repeat' first|refine Kf ?_|intro _|constructor
 have q0:(s.take (min s.length 640)).length≤1000:=by rw [List.length_take];omega
 have q1:w.length≤1000:=by omega
 have q2:(w.take k++[UInt8.ofNat m]++w.drop k).length≤1000:=by simp only [List.length_append,List.length_take,List.length_drop,List.length_singleton];omega
 have q3:(w.drop k).length≤1000:=by rw [List.length_drop];omega
 have q4:([45]++w.take k).length≤1000:=by simp only [List.length_append,List.length_take,List.length_singleton];omega
 refine Tri.loop (ι:=Nat) (fun j=>j≤5) (fun j=>5 - j) (fun j=>[(59,.agg #[.string ⟨(s.take (min s.length 640)).toArray⟩,.string ⟨w.toArray⟩,.string ⟨(w.take k++[UInt8.ofNat m]++w.drop k).toArray⟩,.string ⟨(w.drop k).toArray⟩,.string ⟨([45]++w.take k).toArray⟩]),(60,.int .i64 (j:Int))])
  (fun _=>As) 0 (by omega) Zae Zaa ?_
 generalize s.take (min s.length 640)=T0 at q0 ⊢
 generalize w.take k++[UInt8.ofNat m]++w.drop k=T2 at q2 ⊢
 generalize w.drop k=T3 at q3 ⊢
 generalize [45]++w.take k=T4 at q4 ⊢
 intro j hj5
 repeat' first|refine Kz ?_|intro _
 (refine Kx (fun hc=>?_) fun hc=>?_)
 ·iterate 4 refine Stp.h ?_
  refine Tri.cut (fun e' As'=>∃ x:List UInt8,x.length≤1000∧e'=[(13,.string ⟨x.toArray⟩),(59,.agg #[.string ⟨T0.toArray⟩,.string ⟨w.toArray⟩,.string ⟨T2.toArray⟩,.string ⟨T3.toArray⟩,.string ⟨T4.toArray⟩]),(60,.int .i64 (j:Int))]∧As'=As) ?_ ?_
  ·obtain rfl|rfl|rfl|rfl|rfl:j=0∨j=1∨j=2∨j=3∨j=4:=by omega
   ·repeat' first|refine Kz ?_|intro _
    exact Post.cut _ _ ⟨T0,q0,rfl,rfl⟩ Zae Zaa
   ·repeat' first|refine Kz ?_|intro _
    exact Post.cut _ _ ⟨w,q1,rfl,rfl⟩ Zae Zaa
   ·repeat' first|refine Kz ?_|intro _
    exact Post.cut _ _ ⟨T2,q2,rfl,rfl⟩ Zae Zaa
   ·repeat' first|refine Kz ?_|intro _
    exact Post.cut _ _ ⟨T3,q3,rfl,rfl⟩ Zae Zaa
   ·repeat' first|refine Kz ?_|intro _
    exact Post.cut _ _ ⟨T4,q4,rfl,rfl⟩ Zae Zaa
  rintro _ _ ⟨x,hx,rfl,rfl⟩
  repeat' first|refine Kz ?_|intro _
  refine Ks rfl (Zdp ht hm (s:=x) (by omega)) ?_
  have hp2:=fun Bs=>Zqe (w0:=w0) (As:=Bs) (s:=x) hx
  generalize parseO (parseQ x)=O at hp2 ⊢
  obtain ⟨o1,o2,o3⟩:=O
  simp only at hp2 ⊢
  repeat' first|refine Kz ?_|intro _
  refine Ks rfl (hp2 _) ?_
  have e1:o1=o1∧o2=o2:=⟨rfl,rfl⟩
  have e2:o3=o3:=rfl
  repeat' first|refine Kz ?_|intro _
  refine TL.f rfl rfl (Zi4 rfl rfl) ?_
  repeat' first|refine Kz ?_|intro _
  exact Post.round (j+1) (by omega) (by omega) Zae Zaa
 ·repeat' first|refine Kz ?_|intro _
  (refine Zac ?_)
  exact ⟨_,rfl,Ents.refl _⟩
end Go.Proofs.YtciadfpomkdlnaaGreatDoor.Q
