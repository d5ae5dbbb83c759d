/- Walks: the reference's drafts of curves. -/
import Derived.Test.YtoednejlfbfciaaGreatDoorKr3
set_option maxHeartbeats 1000000
namespace Go.Sx
open Go
structure Prt where
 wide:Int
 mul:Int
 add:Int
 off:Int
 num:Int
 den:Int
def cPrt:Cod Prt:=⟨6,fun s=>[.int .u8 s.wide,.int .i16 s.mul,.int .i16 s.add,.int .i16 s.off,.int .u8 s.num,.int .u8 s.den],fun _=>rfl,fun s v hv=>by
 simp only [List.mem_cons,List.not_mem_nil,or_false] at hv
 rcases hv with rfl|rfl|rfl|rfl|rfl|rfl<;>rfl⟩
def Prt.ok (p:Prt):Prop:=(0≤p.wide∧p.wide≤255)∧(-32768≤p.mul∧p.mul≤32767)∧(-32768≤p.add∧p.add≤32767)∧(-32768≤p.off∧p.off≤32767)∧(0≤p.num∧p.num≤255)∧(0≤p.den∧p.den≤255)
instance {a b c d e f:Int}:DecL cSeg [.int .i64 a,.int .i64 b,.int .i64 c,.int .i64 d,.int .i64 e,.int .i64 f] ⟨a,b,c,d,e,f⟩:=⟨rfl⟩
instance {s:Seg}:EncL cSeg s [.int .i64 s.till,.int .i64 s.mul,.int .i64 s.add,.int .i64 s.num,.int .i64 s.den,.int .i64 s.off]:=⟨rfl⟩
theorem Zua {q:Int→Prop} {l:List Int} {x:Int} (h:∀ y∈l,q y) (hx:q x):∀ y∈l++[x],q y:=by
 intro y hy
 rcases List.mem_append.1 hy with h1|h1
 ·exact h y h1
 ·simp at h1;rw [h1];exact hx
theorem Zy0 {q:Int→Prop} {l:List Int} {x:Int} {k:Nat} (h:∀ y∈l,q y) (hx:q x):∀ y∈l.set k x,q y:=by
 intro y hy
 rcases List.mem_or_eq_of_mem_set hy with h1|h1
 ·exact h y h1
 ·rw [h1];exact hx
theorem max3 {x:Nat}:(if (3:Int) < (x:Int) then (3:Int) else (x:Int))=((min x 3:Nat):Int):=by split<;>omega
end Go.Sx
namespace Go.Proofs.YtoednejlfbfciaaGreatDoor
open Go Go.Sx
variable {w0:World} {As:List Ent} {kd:Int} {tv pv:Value} {us:List Int} {ps:List Prt} {ro ri:Bool}
instance elPrt:ElC Tryz.prog 80 Prt cPrt ⟨0,0,0,0,0,0⟩ 10:=⟨by obtain ⟨i,h1,h2,h3,h4⟩:=(inferInstance:TI Tryz.prog 80 _ _ _).info;exact ⟨i,_,h1,h2,h3,h4,rfl⟩,by decide⟩
theorem Z2d:ElC Tryz.prog 3 Int (cI .i64) 0 8:=⟨by obtain ⟨i,h1,h2,h3,h4⟩:=(inferInstance:TI Tryz.prog 3 _ _ _).info;exact ⟨i,_,h1,h2,h3,h4,rfl⟩,by decide⟩
set_option maxRecDepth 100000 in
set_option maxHeartbeats 2000000 in
theorem Zk3 [RdIn As tv Int (cI .u16) us] [RdIn As pv Prt cPrt ps] (hu:∀ u∈us,0≤u∧u≤65535) (_hl:us.length≤9223372036854775807) :
  CallsS Tryz.prog w0 27 [.agg #[.int .u8 kd,tv,pv,.bool ro,.bool ri]] As fun u Bs=>∃ p n c l,u=.agg #[.int .i64 2,.slice p n c,.slice none 0 0]∧l.length≤100∧Bs=.ow (cI .i64) 3 (.slice p n c) (l)::As:=by
 haveI hel:ElC Tryz.prog 3 Int (cI .i64) 0 8:=Z2d
 refine Zad tv fun p0 c0 e0=>Zad pv fun p1 c1 e1=>?_
 subst e0 e1
 refine Zab Tryz.func27 rfl Tryz.ntmps27 rfl ?_
 repeat' first|refine Kz ?_|intro _
 rename_i b1 b2
 refine TL.f rfl rfl (ExF.build (l:=[.int .i64 2,.slice none 0 0,.slice none 0 0]) rfl (fun w=>by kernel_rfl)) ?_
 repeat' first|refine Kz ?_|intro _
 rename_i b3
 refine Tri.ents (Za2 (T:=3) (cI .i64)) ?_
 refine Tri.midB (fun e' As'=>∃ sv l,l.length≤8∧(∀ v∈l,0≤v∧v≤1000000)∧e'=[(1,.pointer (some ⟨b1,0,none⟩)),(2,.pointer (some ⟨b2,0,none⟩)),(3,.pointer (some ⟨b3,0,none⟩))]∧As'=.ow (cI .i64) 3 (sv) (l)::.cl b3 [.int .i64 2,sv,.slice none 0 0] 25::.cl b1 [.int .u8 kd,.slice p0 us.length c0,.slice p1 ps.length c1,.bool ro,.bool ri] 31::.cl b2 [.int .i64 0,.slice none 0 0,.slice none 0 0] 25::As) ?_ ?_
 ·refine Tri.loop (ι:=Value × List Int) (fun s=>s.2.length≤8∧s.2.length≤us.length∧∀ v∈s.2,0≤v∧v≤1000000) (fun s=>8 - s.2.length) (fun s=>[(1,.pointer (some ⟨b1,0,none⟩)),(2,.pointer (some ⟨b2,0,none⟩)),(3,.pointer (some ⟨b3,0,none⟩)),(4,.int .i64 s.2.length)]) (fun s=>.ow (cI .i64) 3 (s.1) (s.2)::.cl b3 [.int .i64 2,s.1,.slice none 0 0] 25::.cl b1 [.int .u8 kd,.slice p0 us.length c0,.slice p1 ps.length c1,.bool ro,.bool ri] 31::.cl b2 [.int .i64 0,.slice none 0 0,.slice none 0 0] 25::As) (.slice none 0 0,[]) ⟨by decide,by simp,fun v h=>by simp at h⟩ Zae Zaa ?_
  rintro ⟨sv,l⟩ ⟨h8,hlu,hv⟩
  simp only at h8 hlu hv
  show Tri _ _ _ _ [(1,_),(2,_),(3,_),(4,.int .i64 l.length)] (.ow (cI .i64) 3 (sv) (l)::.cl b3 [_,sv,_] _::_) _
  by_cases h1:(l.length:Int) < us.length
  ·by_cases h2:(l.length:Int) < 8
   ·obtain ⟨p,hp⟩:∃ p,us[l.length]?=some p:=⟨_,List.getElem?_eq_getElem (by omega)⟩
    have hpb:=hu p (List.mem_of_getElem? hp)
    repeat' first|refine Kz ?_|intro _
    refine Zaj (.cl b1 [.int .u8 kd,.slice p0 us.length c0,.slice p1 ps.length c1,.bool ro,.bool ri] 31::As) [(1,.c b3)] (.take 0 (.take 1 (.take 2 (.take 3 (.take 4 (.take 5 (.take 6 (.take 7 (.all [(8,.all [(9,.take 10 (.all [(11,.done)]))])]))))))))) ?_
    repeat' first|refine Kf ?_|intro _|constructor
    rename_i sv2
    exact Post.round (sv2,l++[p]) ⟨by simp only [List.length_append,List.length_singleton];omega,by simp only [List.length_append,List.length_singleton];omega,Zua hv (by omega)⟩ (by simp only [List.length_append,List.length_singleton];omega) (by simp only [List.length_append,List.length_singleton];(exact Zae)) Zaa
   ·repeat' first|refine Kz ?_|intro _
    exact Post.cut _ _ ⟨sv,l,by omega,hv,rfl,rfl⟩ Zae Zaa
  ·repeat' first|refine Kz ?_|intro _
   exact Post.cut _ _ ⟨sv,l,by omega,hv,rfl,rfl⟩ Zae Zaa
 rintro _ _ ⟨sv,l,h8,hv,rfl,rfl⟩
 repeat' first|refine Kz ?_|intro _
 refine Tri.midB (fun e' As'=>∃ sv l,2≤l.length∧l.length≤8∧(∀ v∈l,0≤v∧v≤1000000)∧e'=[(1,.pointer (some ⟨b1,0,none⟩)),(2,.pointer (some ⟨b2,0,none⟩)),(3,.pointer (some ⟨b3,0,none⟩))]∧As'=.ow (cI .i64) 3 (sv) (l)::.cl b3 [.int .i64 2,sv,.slice none 0 0] 25::.cl b1 [.int .u8 kd,.slice p0 us.length c0,.slice p1 ps.length c1,.bool ro,.bool ri] 31::.cl b2 [.int .i64 0,.slice none 0 0,.slice none 0 0] 25::As) ?_ ?_
 ·refine Tri.loop (ι:=Value × List Int) (fun s=>s.2.length≤8∧∀ v∈s.2,0≤v∧v≤1000000) (fun s=>2 - s.2.length) (fun s=>[(1,.pointer (some ⟨b1,0,none⟩)),(2,.pointer (some ⟨b2,0,none⟩)),(3,.pointer (some ⟨b3,0,none⟩))]) (fun s=>.ow (cI .i64) 3 (s.1) (s.2)::.cl b3 [.int .i64 2,s.1,.slice none 0 0] 25::.cl b1 [.int .u8 kd,.slice p0 us.length c0,.slice p1 ps.length c1,.bool ro,.bool ri] 31::.cl b2 [.int .i64 0,.slice none 0 0,.slice none 0 0] 25::As) (sv,l) ⟨h8,hv⟩ Zae Zaa ?_
  rintro ⟨sv,l⟩ ⟨h8,hv⟩
  simp only at h8 hv
  show Tri _ _ _ _ _ (.ow (cI .i64) 3 (sv) (l)::.cl b3 [_,sv,_] _::_) _
  by_cases h1:(l.length:Int) < 2
  ·repeat' first|refine Kz ?_|intro _
   rename_i sv2
   exact Post.round (sv2,l++[65535 * (l.length:Int)]) ⟨by simp only [List.length_append,List.length_singleton];omega,Zua hv (by omega)⟩ (by simp only [List.length_append,List.length_singleton];omega) Zae Zaa
  ·repeat' first|refine Kz ?_|intro _
   exact Post.cut _ _ ⟨sv,l,by omega,by omega,hv,rfl,rfl⟩ Zae Zaa
 rintro _ _ ⟨sv,l,h2,h8,hv,rfl,rfl⟩
 refine Stp.h ?_
 refine Tri.open (c:=cI .i64) sv (xs:=l) (List.ne_nil_of_length_pos (by omega)) ?_
 rintro b off cap hcap rfl
 cases ri
 ·repeat' first|refine Kz ?_|intro _
  (refine Zac ?_)
  exact ⟨_,⟨_,_,_,l,rfl,by omega,rfl⟩,Zaa⟩
 ·obtain ⟨n,hn⟩:∃ n:Int,n=65535 / (l.length:Int):=⟨_,rfl⟩
  have hn1:1≤n:=by rw [hn];exact Int.le_ediv_of_mul_le (by omega) (by omega)
  have hn2:n≤65535:=by rw [hn];exact Int.ediv_le_self _ (by decide)
  repeat' first|refine Kz ?_|intro _
  rw [← hn]
  repeat' first|refine Kz ?_|intro _
  clear hn
  refine Tri.loop (ι:=List Int × Nat × Int) (fun s=>s.1.length=l.length∧s.2.1≤l.length∧(∀ v∈s.1,0≤v∧v≤1000000)∧0≤s.2.2∧s.2.2≤70000 * s.2.1) (fun s=>l.length - s.2.1) (fun s=>[(1,.pointer (some ⟨b1,0,none⟩)),(2,.pointer (some ⟨b2,0,none⟩)),(3,.pointer (some ⟨b3,0,none⟩)),(5,.int .i64 n),(6,.int .i64 s.2.2),(7,.int .i64 s.2.1)]) (fun s=>.ow (cI .i64) 3 (.slice (some ⟨b,off,none⟩) l.length cap) (s.1)::.cl b3 [.int .i64 2,.slice (some ⟨b,off,none⟩) l.length cap,.slice none 0 0] 25::.cl b1 [.int .u8 kd,.slice p0 us.length c0,.slice p1 ps.length c1,.bool ro,.bool true] 31::.cl b2 [.int .i64 0,.slice none 0 0,.slice none 0 0] 25::As) (l,0,0) ⟨rfl,Nat.zero_le _,hv,Int.le_refl _,by show (0:Int)≤70000 * ((0:Nat):Int);decide⟩ Zae Zaa ?_
  rintro ⟨m,k,a⟩ ⟨g1,g2,g3,g4,g5⟩
  simp only at g1 g2 g3 g4 g5
  show Tri _ _ _ _ [(1,_),(2,_),(3,_),(5,.int .i64 n),(6,.int .i64 a),(7,.int .i64 k)] (.ow (cI .i64) 3 (.slice (some ⟨b,off,none⟩) l.length cap) (m)::_) _
  repeat' first|refine Kz ?_|intro _
  (refine Kx (fun hc=>?_) fun hc=>?_)
  ·obtain ⟨v,hk⟩:∃ v,m[k]?=some v:=⟨_,List.getElem?_eq_getElem (by omega)⟩
   have hvb:=g3 v (List.mem_of_getElem? hk)
   have hr1:=Int.emod_nonneg v (show n≠0 by omega)
   have hr2:=Int.emod_lt_of_pos v (show 0 < n by omega)
   repeat' first|refine Kz ?_|intro _
   exact Post.round (m.set k (a+1+v % n - 1),k+1,a+1+v % n) ⟨by rw [List.length_set];exact g1,by show k+1≤l.length;omega,Zy0 g3 (by omega),by show 0≤a+1+v % n;omega,by show a+1+v % n≤70000 * ((k+1:Nat):Int);omega⟩ (by show l.length - (k+1) < l.length - k;omega) Zae Zaa
  ·repeat' first|refine Kz ?_|intro _
   (refine Zac ?_)
   exact ⟨_,⟨_,_,_,m,rfl,by omega,rfl⟩,Zaa⟩
theorem Zcm {a b:Int} (ha:1≤a∧a≤100) (hb:1≤b∧b≤100):CallsS Tryz.prog w0 45 [.int .i64 a,.int .i64 b] As fun u Bs=>(∃ c,u=.bool c)∧Bs=As :=
 CallsS.mono (Zim ha hb) fun _ _ ⟨h1,h2⟩=>⟨⟨_,h1⟩,h2⟩
set_option maxRecDepth 100000 in
set_option maxHeartbeats 8000000 in
theorem Zii [RdIn As tv Int (cI .u16) us] [RdIn As pv Prt cPrt ps] (hp:∀ p∈ps,p.ok) (hl:ps.length≤9223372036854775807) :
  CallsS Tryz.prog w0 26 [.agg #[.int .u8 kd,tv,pv,.bool ro,.bool ri]] As fun u Bs=>∃ p n c l,u=.agg #[.int .i64 3,.slice none 0 0,.slice p n c]∧l.length≤100∧Bs=.ow cSeg 59 (.slice p n c) (l)::As:=by
 refine Zad tv fun p0 c0 e0=>Zad pv fun p1 c1 e1=>?_
 subst e0 e1
 refine Zab Tryz.func26 rfl Tryz.ntmps26 rfl ?_
 repeat' first|refine Kz ?_|intro _
 rename_i b1 b2
 refine TL.f rfl rfl (ExF.build (l:=[.int .i64 3,.slice none 0 0,.slice none 0 0]) rfl (fun w=>by kernel_rfl)) ?_
 repeat' first|refine Kz ?_|intro _
 rename_i b3
 rw [max3]
 obtain ⟨N,hN⟩:∃ N:Nat,N=min ps.length 3:=⟨_,rfl⟩
 rw [← hN]
 have hN3:N≤3∧N≤ps.length:=by omega
 clear hN
 repeat' first|refine Kz ?_|intro _
 refine Tri.ents (Za2 (T:=59) cSeg) ?_
 refine Tri.midB (fun e' As'=>∃ sv l,l.length=N∧e'=[(1,.pointer (some ⟨b1,0,none⟩)),(2,.pointer (some ⟨b2,0,none⟩)),(3,.pointer (some ⟨b3,0,none⟩)),(4,.int .i64 N)]∧As'=.ow cSeg 59 (sv) (l)::.cl b3 [.int .i64 3,.slice none 0 0,sv] 25::.cl b1 [.int .u8 kd,.slice p0 us.length c0,.slice p1 ps.length c1,.bool ro,.bool ri] 31::.cl b2 [.int .i64 0,.slice none 0 0,.slice none 0 0] 25::As) ?_ ?_
 ·refine Tri.loop (ι:=Value × List Seg × Int) (fun s=>s.2.1.length≤N∧0≤s.2.2∧s.2.2≤300000 * s.2.1.length) (fun s=>N - s.2.1.length) (fun s=>[(1,.pointer (some ⟨b1,0,none⟩)),(2,.pointer (some ⟨b2,0,none⟩)),(3,.pointer (some ⟨b3,0,none⟩)),(4,.int .i64 N),(5,.int .i64 s.2.2),(6,.int .i64 s.2.1.length)]) (fun s=>.ow cSeg 59 (s.1) (s.2.1)::.cl b3 [.int .i64 3,.slice none 0 0,s.1] 25::.cl b1 [.int .u8 kd,.slice p0 us.length c0,.slice p1 ps.length c1,.bool ro,.bool ri] 31::.cl b2 [.int .i64 0,.slice none 0 0,.slice none 0 0] 25::As) (.slice none 0 0,[],0) ⟨Nat.zero_le _,Int.le_refl _,Int.le_refl _⟩ Zae Zaa ?_
  rintro ⟨sv,l,t⟩ ⟨h8,t0,t1⟩
  simp only at h8 t0 t1
  show Tri _ _ _ _ [(1,_),(2,_),(3,_),(4,_),(5,.int .i64 t),(6,.int .i64 l.length)] (.ow cSeg 59 (sv) (l)::.cl b3 [_,_,sv] _::_) _
  by_cases h1:(l.length:Int) < N
  ·obtain ⟨p,hpk⟩:∃ p,ps[l.length]?=some p:=⟨_,List.getElem?_eq_getElem (by omega)⟩
   obtain ⟨⟨w0',w1⟩,⟨m0,m1⟩,⟨a0,a1⟩,⟨o0,o1⟩,⟨n0,n1⟩,⟨d0,d1⟩⟩:=hp p (List.mem_of_getElem? hpk)
   cases ro<;>cases ri
   ·repeat' first|refine Kz ?_|intro _
    refine TL.callv rfl rfl rfl rfl (Zcm (by omega) (by omega)) ?_
    rintro _ _ ⟨⟨cb,rfl⟩,rfl⟩
    cases cb
    ·repeat' first|refine Kz ?_|intro _
     rename_i sv2
     exact Post.round (sv2,l++[⟨t+1000+1000 * p.wide,100 * p.mul,10 * p.add,1+p.num % 4,1,10 * p.off⟩],t+1000+1000 * p.wide) ⟨by simp only [List.length_append,List.length_singleton];omega,by show 0≤t+1000+1000 * p.wide;omega,by simp only [List.length_append,List.length_singleton];omega⟩ (by simp only [List.length_append,List.length_singleton];omega) (by simp only [List.length_append,List.length_singleton];(exact Zae)) Zaa
    ·repeat' first|refine Kz ?_|intro _
     rename_i sv2
     exact Post.round (sv2,l++[⟨t+1000+1000 * p.wide,100 * p.mul,10 * p.add,1,1,10 * p.off⟩],t+1000+1000 * p.wide) ⟨by simp only [List.length_append,List.length_singleton];omega,by show 0≤t+1000+1000 * p.wide;omega,by simp only [List.length_append,List.length_singleton];omega⟩ (by simp only [List.length_append,List.length_singleton];omega) (by simp only [List.length_append,List.length_singleton];(exact Zae)) Zaa
   ·repeat' first|refine Kz ?_|intro _
    refine TL.callv rfl rfl rfl rfl (Zcm (by omega) (by omega)) ?_
    rintro _ _ ⟨⟨cb,rfl⟩,rfl⟩
    cases cb
    ·repeat' first|refine Kz ?_|intro _
     rename_i sv2
     exact Post.round (sv2,l++[⟨t+1000+1000 * p.wide,(if 100 * p.mul < -(100 * p.mul) then -(100 * p.mul) else 100 * p.mul),(if 10 * p.add < -(10 * p.add) then -(10 * p.add) else 10 * p.add),1+p.num % 4,1,10 * p.off⟩],t+1000+1000 * p.wide) ⟨by simp only [List.length_append,List.length_singleton];omega,by show 0≤t+1000+1000 * p.wide;omega,by simp only [List.length_append,List.length_singleton];omega⟩ (by simp only [List.length_append,List.length_singleton];omega) (by simp only [List.length_append,List.length_singleton];(exact Zae)) Zaa
    ·repeat' first|refine Kz ?_|intro _
     rename_i sv2
     exact Post.round (sv2,l++[⟨t+1000+1000 * p.wide,(if 100 * p.mul < -(100 * p.mul) then -(100 * p.mul) else 100 * p.mul),(if 10 * p.add < -(10 * p.add) then -(10 * p.add) else 10 * p.add),1,1,10 * p.off⟩],t+1000+1000 * p.wide) ⟨by simp only [List.length_append,List.length_singleton];omega,by show 0≤t+1000+1000 * p.wide;omega,by simp only [List.length_append,List.length_singleton];omega⟩ (by simp only [List.length_append,List.length_singleton];omega) (by simp only [List.length_append,List.length_singleton];(exact Zae)) Zaa
   ·repeat' first|refine Kz ?_|intro _
    refine TL.callv rfl rfl rfl rfl (Zcm (by omega) (by omega)) ?_
    rintro _ _ ⟨⟨cb,rfl⟩,rfl⟩
    cases cb
    ·repeat' first|refine Kz ?_|intro _
     rename_i sv2
     exact Post.round (sv2,l++[⟨t+1000+1000 * p.wide,100 * p.mul,10 * p.add,1+p.num % 4,1+p.den % 4,10 * p.off⟩],t+1000+1000 * p.wide) ⟨by simp only [List.length_append,List.length_singleton];omega,by show 0≤t+1000+1000 * p.wide;omega,by simp only [List.length_append,List.length_singleton];omega⟩ (by simp only [List.length_append,List.length_singleton];omega) (by simp only [List.length_append,List.length_singleton];(exact Zae)) Zaa
    ·repeat' first|refine Kz ?_|intro _
     rename_i sv2
     exact Post.round (sv2,l++[⟨t+1000+1000 * p.wide,100 * p.mul,10 * p.add,1,1+p.den % 4,10 * p.off⟩],t+1000+1000 * p.wide) ⟨by simp only [List.length_append,List.length_singleton];omega,by show 0≤t+1000+1000 * p.wide;omega,by simp only [List.length_append,List.length_singleton];omega⟩ (by simp only [List.length_append,List.length_singleton];omega) (by simp only [List.length_append,List.length_singleton];(exact Zae)) Zaa
   ·repeat' first|refine Kz ?_|intro _
    refine TL.callv rfl rfl rfl rfl (Zcm (by omega) (by omega)) ?_
    rintro _ _ ⟨⟨cb,rfl⟩,rfl⟩
    cases cb
    ·repeat' first|refine Kz ?_|intro _
     rename_i sv2
     exact Post.round (sv2,l++[⟨t+1000+1000 * p.wide,(if 100 * p.mul < -(100 * p.mul) then -(100 * p.mul) else 100 * p.mul),(if 10 * p.add < -(10 * p.add) then -(10 * p.add) else 10 * p.add),1+p.num % 4,1+p.den % 4,10 * p.off⟩],t+1000+1000 * p.wide) ⟨by simp only [List.length_append,List.length_singleton];omega,by show 0≤t+1000+1000 * p.wide;omega,by simp only [List.length_append,List.length_singleton];omega⟩ (by simp only [List.length_append,List.length_singleton];omega) (by simp only [List.length_append,List.length_singleton];(exact Zae)) Zaa
    ·repeat' first|refine Kz ?_|intro _
     rename_i sv2
     exact Post.round (sv2,l++[⟨t+1000+1000 * p.wide,(if 100 * p.mul < -(100 * p.mul) then -(100 * p.mul) else 100 * p.mul),(if 10 * p.add < -(10 * p.add) then -(10 * p.add) else 10 * p.add),1,1+p.den % 4,10 * p.off⟩],t+1000+1000 * p.wide) ⟨by simp only [List.length_append,List.length_singleton];omega,by show 0≤t+1000+1000 * p.wide;omega,by simp only [List.length_append,List.length_singleton];omega⟩ (by simp only [List.length_append,List.length_singleton];omega) (by simp only [List.length_append,List.length_singleton];(exact Zae)) Zaa
  ·repeat' first|refine Kz ?_|intro _
   exact Post.cut _ _ ⟨sv,l,by omega,rfl,rfl⟩ Zae Zaa
 rintro _ _ ⟨sv,l,hlN,rfl,rfl⟩
 refine Stp.h ?_
 refine Tri.cut (fun e' As'=>∃ sv l,∃ n:Int,(l.length:Int)=n∧1≤n∧n≤3∧e'=[(1,.pointer (some ⟨b1,0,none⟩)),(2,.pointer (some ⟨b2,0,none⟩)),(3,.pointer (some ⟨b3,0,none⟩)),(4,.int .i64 n)]∧As'=.ow cSeg 59 (sv) (l)::.cl b3 [.int .i64 3,.slice none 0 0,sv] 25::.cl b1 [.int .u8 kd,.slice p0 us.length c0,.slice p1 ps.length c1,.bool ro,.bool ri] 31::.cl b2 [.int .i64 0,.slice none 0 0,.slice none 0 0] 25::As) ?_ ?_
 ·by_cases hN0:N=0
  ·repeat' first|refine Kz ?_|intro _
   refine TL.f rfl rfl (ExF.build (l:=[.int .i64 0,.int .i64 1000000,.int .i64 0,.int .i64 1,.int .i64 1,.int .i64 0]) rfl (fun w=>by kernel_rfl)) ?_
   repeat' first|refine Kz ?_|intro _
   rename_i bs
   exact Post.cut _ _ ⟨.slice (some ⟨bs,0,none⟩) 1 1,[⟨0,1000000,0,1,1,0⟩],1,rfl,by decide,by decide,rfl,rfl⟩ Zae (Ents.trans (show Ents _ (.cl bs [.int .i64 0,.int .i64 1000000,.int .i64 0,.int .i64 1,.int .i64 1,.int .i64 0] 59::.cl b3 [.int .i64 3,.slice none 0 0,.slice (some ⟨bs,0,none⟩) 1 1] 25::.cl b1 [.int .u8 kd,.slice p0 us.length c0,.slice p1 ps.length c1,.bool ro,.bool ri] 31::.cl b2 [.int .i64 0,.slice none 0 0,.slice none 0 0] 25::As) from Zaa) (Zb6 (n:=1) (cap:=1) cSeg [⟨0,1000000,0,1,1,0⟩] rfl rfl rfl))
  ·repeat' first|refine Kz ?_|intro _
   exact Post.cut _ _ ⟨sv,l,N,by omega,by omega,by omega,rfl,rfl⟩ Zae Zaa
 clear hlN hN3
 rintro _ _ ⟨sv,l,n,hn,n1,n3,rfl,rfl⟩
 refine Tri.open (c:=cSeg) sv (xs:=l) (List.ne_nil_of_length_pos (by omega)) ?_
 rintro b off cap hcap rfl
 cases ri
 ·obtain ⟨k,hk⟩:∃ k:Nat,n=(k:Int)+1:=⟨(n - 1).toNat,by omega⟩
  obtain ⟨s,hs⟩:∃ s,l[k]?=some s:=⟨_,List.getElem?_eq_getElem (by omega)⟩
  subst hk
  repeat' first|refine Kz ?_|intro _
  rw [show ((k:Int)+1 - 1)=(k:Int) by omega]
  repeat' first|refine Kz ?_|intro _
  (refine Zac ?_)
  exact ⟨_,⟨_,_,_,l.set k ⟨1000000,s.mul,s.add,s.num,s.den,s.off⟩,rfl,by rw [List.length_set];omega,rfl⟩,Zaa⟩
 ·obtain ⟨x,r,rfl⟩:∃ x r,l=x::r:=List.exists_cons_of_length_pos (by omega)
  repeat' first|refine Kz ?_|intro _
  rw [show List.take (1 - 0) (List.drop 0 (x::r))=[x] from rfl,Zl0]
  repeat' first|refine Kz ?_|intro _
  (refine Zac ?_)
  exact ⟨_,⟨_,_,_,[x].set (1 - Nat.succ 0) ⟨1000000,x.mul,x.add,x.num,x.den,x.off⟩,rfl,by rw [List.length_set];simp,rfl⟩,Zaa⟩
set_option maxRecDepth 100000 in
theorem Zga [RdIn As tv Int (cI .u16) us] [RdIn As pv Prt cPrt ps] (hk:0≤kd∧kd≤255) (hu:∀ u∈us,0≤u∧u≤65535) (hl:us.length≤9223372036854775807) (hp:∀ p∈ps,p.ok) (hl':ps.length≤9223372036854775807) :
  CallsS Tryz.prog w0 10 [.agg #[.int .u8 kd,tv,pv,.bool ro,.bool ri]] As fun u Bs=>∃ kv p n c q m d tab ss,u=.agg #[.int .i64 kv,.slice p n c,.slice q m d]∧tab.length≤100∧ss.length≤100∧Bs=.ow (cI .i64) 3 (.slice p n c) (tab)::.ow cSeg 59 (.slice q m d) (ss)::As:=by
 refine Zad tv fun p0 c0 e0=>Zad pv fun p1 c1 e1=>?_
 subst e0 e1
 refine Zab Tryz.func10 rfl Tryz.ntmps10 rfl ?_
 by_cases h0:kd % 4=0
 ·repeat' first|refine Kz ?_|intro _
  refine TL.f rfl rfl (ExF.build (l:=[.int .i64 1,.slice none 0 0,.slice none 0 0]) rfl (fun w=>by kernel_rfl)) ?_
  repeat' first|refine Kz ?_|intro _
  (refine Zac ?_)
  exact ⟨_,⟨1,none,0,0,none,0,0,[],[],rfl,by decide,by decide,rfl⟩,Ents.trans (show Ents _ As from Zaa) (Ents.trans (Za2 (T:=59) cSeg) (Za2 (T:=3) (cI .i64)))⟩
 by_cases h1:kd % 4=1
 ·repeat' first|refine Kz ?_|intro _
  refine TL.callv rfl rfl rfl rfl (Zii (tv:=.slice p0 us.length c0) (pv:=.slice p1 ps.length c1) (us:=us) (ps:=ps) hp hl') ?_
  rintro _ _ ⟨p,n,c,l,rfl,hll,rfl⟩
  repeat' first|refine Kz ?_|intro _
  (refine Zac ?_)
  exact ⟨_,⟨3,none,0,0,p,n,c,[],l,rfl,by decide,hll,rfl⟩,Ents.trans (show Ents _ (.ow cSeg 59 (.slice p n c) (l)::As) from Zaa) (Za2 (T:=3) (cI .i64))⟩
 ·repeat' first|refine Kz ?_|intro _
  refine TL.callv rfl rfl rfl rfl (Zk3 (tv:=.slice p0 us.length c0) (pv:=.slice p1 ps.length c1) (us:=us) (ps:=ps) hu hl) ?_
  rintro _ _ ⟨p,n,c,l,rfl,hll,rfl⟩
  repeat' first|refine Kz ?_|intro _
  (refine Zac ?_)
  exact ⟨_,⟨2,p,n,c,none,0,0,l,[],rfl,hll,by decide,rfl⟩,Ents.trans (show Ents _ (.ow (cI .i64) 3 (.slice p n c) (l)::As) from Zaa) (Ents.trans (Za2 (T:=59) cSeg) (Ents.perm (List.Perm.swap _ _ _)))⟩
end Go.Proofs.YtoednejlfbfciaaGreatDoor
