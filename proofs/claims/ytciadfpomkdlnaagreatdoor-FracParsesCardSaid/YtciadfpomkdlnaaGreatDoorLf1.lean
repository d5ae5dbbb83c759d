/- Walks: the law's helpers on fractions; closed answers, plain. -/
import Derived.Test.YtciadfpomkdlnaaGreatDoorCc8
import Derived.Test.YtciadfpomkdlnaaGreatDoorVb1
import Derived.Test.YtciadfpomkdlnaaGreatDoorSxP
set_option maxHeartbeats 1000000
namespace Go.Proofs.YtciadfpomkdlnaaGreatDoor.Q
open Go Go.Sx
theorem Zdq {n d:List UInt8} {r:Rat} (h:readF n d=some r):outF r=(n,d,0):=by
 obtain ⟨h1,h2⟩:=Zc1 h
 exact Go.Sx.Zz6 (Zib h1) (Zib h2) (Za9 h1) (Za9 h2)
theorem Zkt {o:Option Rat} {n d:List UInt8} (h:o=readF n d) (h2:(readF n d).isSome=true):outO o=(n,d,0):=by
 obtain ⟨r,hr⟩:=Option.isSome_iff_exists.1 h2
 rw [h,hr];exact Zdq hr
theorem Zar {x y:Int} {n d:List UInt8} (h0:y≠0) (h:readF n d=some (mkRat (if y < 0 then -x else x) y.natAbs)):ofO x y=(n,d,0):=by
 unfold ofO;rw [if_neg h0];exact Zdq h
theorem Zvc {a b:Option Rat} {n d:List UInt8} (h:(a.bind fun x=>b.bind fun y=>if y=0 then none else some (x * y⁻¹))=readF n d) (h2:(readF n d).isSome=true):divO a b=(n,d,0):=by
 obtain ⟨r,hr⟩:=Option.isSome_iff_exists.1 h2
 rw [hr] at h
 cases a with
 | none=>cases h
 | some x =>
  cases b with
  | none=>cases h
  | some y =>
   simp only [Option.bind_some] at h
   unfold divO
   simp only
   split at h
   ·cases h
   ·rename_i h0
    rw [if_neg h0,Option.some.inj h];exact Zdq hr
theorem Zqs {a b c:Option Rat} {n d:List UInt8} (h:(a.bind fun x=>b.bind fun y=>c.bind fun z=>if z < y then none else some (minQ (maxQ x y) z))=readF n d) (h2:(readF n d).isSome=true):clampO a b c=(n,d,0):=by
 obtain ⟨r,hr⟩:=Option.isSome_iff_exists.1 h2
 rw [hr] at h
 cases a with
 | none=>cases h
 | some x =>
  cases b with
  | none=>cases h
  | some y =>
   cases c with
   | none=>cases h
   | some z =>
    simp only [Option.bind_some] at h
    unfold clampO
    simp only
    split at h
    ·cases h
    ·rename_i h0
     rw [if_neg h0,Option.some.inj h];exact Zdq hr
theorem Zow {a b l m:List UInt8} {n:Int} (h0:(readF a b).isSome=true) (h1:powW a n=(l,0)) (h2:powW b n=(m,0)):powO a b n=(l,m,0):=by
 obtain ⟨r,hr⟩:=Option.isSome_iff_exists.1 h0
 unfold powO;rw [hr,h1,h2];rfl
theorem Zjv {s n d:List UInt8} (h:(match parseQ s with|.inl r=>some r|.inr _=>none)=readF n d) (h2:(readF n d).isSome=true):parseO (parseQ s)=(n,d,0):=by
 obtain ⟨r,hr⟩:=Option.isSome_iff_exists.1 h2
 rw [hr] at h
 cases hq:parseQ s with
 | inl x=>rw [hq] at h;rw [parseO,Option.some.inj h];exact Zdq hr
 | inr e=>rw [hq] at h;cases h
theorem Zgp {s:List UInt8} {e:Int} (h:(match parseQ s with|.inl _=>none|.inr e=>some e)=some e):parseO (parseQ s)=([],[],e):=by
 cases hq:parseQ s with
 | inl x=>rw [hq] at h;cases h
 | inr e=>rw [hq] at h;rw [parseO,Option.some.inj h]
theorem Zon {l:List (List UInt8 × List UInt8)} {n d:List UInt8} (h0:l.length≤300) (h:(readL l).map (sumQ 0)=readF n d) (h2:(readF n d).isSome=true):sumO l=(n,d,0):=by
 obtain ⟨r,hr⟩:=Option.isSome_iff_exists.1 h2
 rw [hr] at h
 unfold sumO
 rw [if_neg (by omega)]
 cases hl:readL l with
 | none=>rw [hl] at h;cases h
 | some xs=>rw [hl] at h;simp only [Option.map_some] at h;simp only;rw [Option.some.inj h];exact Zdq hr
theorem Zfu {o:Option Rat} {p z:Int} {dg t:List UInt8} (h1:(o.map fun r=>nearQ r (10 ^ p.toNat))=some z) (h0:0≤p∧p≤20) (h2:readW dg=some (z.natAbs:Int)) (h3:(if z < 0 then [45] else [])++(if 0 < p.toNat then dotS (padS dg p.toNat) p.toNat else dg)=t):textO o p=(t,0):=by
 cases o with
 | none=>cases h1
 | some r =>
  simp only [Option.map_some,Option.some.injEq] at h1
  rw [textO,if_pos h0,h1,fixT]
  have h4:=Za9 h2
  rw [Zbk,if_neg (by omega),Int.natAbs_natCast] at h4
  rw [h4,h3]
def floorT (o:Option Rat):List UInt8:=match o with
 | some x=>textI (x.num / (x.den:Int))
 | none=>[]
theorem Zqq {o:Option Rat} {l:List UInt8} {z:Int} (h:(o.map fun x=>x.num / (x.den:Int))=some z) (h2:readW l=some z):floorT o=l:=by
 cases o with
 | none=>cases h
 | some r =>
  simp only [Option.map_some,Option.some.injEq] at h
  rw [floorT,h];exact Za9 h2
variable {w0:World} {As:List Ent}
theorem Zss (ht:Tab w0) {a b:List UInt8} (ha:a.length≤1000000000) (hb:b.length≤1000000000) :
  CQ Tryz.prog w0 55 [.agg #[.string ⟨a.toArray⟩,.string ⟨b.toArray⟩]] As (.tuple #[.string ⟨(floorT (readF a b)).toArray⟩,.int .i64 (if (readF a b).isSome then 0 else 20)]):=by
 have h:=Zme (w0:=w0) (As:=As) ht ha hb
 unfold floorT
 exact h
instance:TwoS Tryz.prog 24:=⟨⟨_,_,_,_,(inferInstance:UL Tryz.prog 24 _).h,by decide,by decide,rfl,rfl,rfl,rfl,(inferInstance:UL Tryz.prog 22 .string).h,(inferInstance:UL Tryz.prog 22 .string).h⟩,by kernel_rfl,by kernel_rfl⟩
theorem q_ok (ht:Tab w0) {n d:Int} (hn:-9223372036854775808≤n∧n≤9223372036854775807) (hd:-9223372036854775808≤d∧d≤9223372036854775807) :
  CQ Tryz.prog w0 48 [.int .i64 n,.int .i64 d] As (.agg #[.string ⟨(ofO n d).1.toArray⟩,.string ⟨(ofO n d).2.1.toArray⟩]):=by
 refine Zab Tryz.func48 rfl Tryz.ntmps48 rfl ?_
 repeat' first|refine Kz ?_|intro _
 refine Kt rfl (Zo3 ht hn hd) ?_
 repeat' first|refine Kz ?_|intro _
 exact Kv
theorem Zgs {s t:List UInt8}:CallsS Tryz.prog w0 43 [.string ⟨s.toArray⟩,.string ⟨t.toArray⟩] As fun u Bs=>∃ b c,u=.func (.func 113) #[] #[.pointer (some ⟨b,0,none⟩),.pointer (some ⟨c,0,none⟩)]∧Bs=.cl c [.string ⟨t.toArray⟩] 22::.cl b [.string ⟨s.toArray⟩] 22::As:=by
 refine Zab Tryz.func43 rfl Tryz.ntmps43 rfl ?_
 repeat' first|refine Kz ?_|intro _
 (refine Zac ?_)
 exact ⟨_,⟨_,_,rfl,rfl⟩,Zaa⟩
theorem Zb0 {s t:List UInt8} {b c:Nat}:CallsS Tryz.prog w0 113 [.agg #[.string ⟨s.toArray⟩,.string ⟨t.toArray⟩],.int .i64 0,.pointer (some ⟨b,0,none⟩),.pointer (some ⟨c,0,none⟩)] (.cl c [.string ⟨t.toArray⟩] 22::.cl b [.string ⟨s.toArray⟩] 22::As) fun u Bs=>u=.bool true∧Bs=.cl c [.string ⟨t.toArray⟩] 22::.cl b [.string ⟨s.toArray⟩] 22::As:=by
 refine Zab Tryz.func113 rfl Tryz.ntmps113 rfl ?_
 repeat' first|refine Kz ?_|intro _
 refine TL.f rfl rfl (Zi6 rfl rfl) ?_
 have hs:s=s∧t=t:=⟨rfl,rfl⟩
 repeat' first|refine Kz ?_|intro _
 (refine Zac ?_)
 exact ⟨_,⟨by simp,rfl⟩,Zaa⟩
theorem Ze4 {n:Int}:CallsS Tryz.prog w0 45 [.int .i64 n] As fun u Bs=>∃ b,u=.func (.func 116) #[] #[.pointer (some ⟨b,0,none⟩)]∧Bs=.cl b [.int .i64 n] 42::As:=by
 refine Zab Tryz.func45 rfl Tryz.ntmps45 rfl ?_
 repeat' first|refine Kz ?_|intro _
 (refine Zac ?_)
 exact ⟨_,⟨_,rfl,rfl⟩,Zaa⟩
theorem Zcj {n:Int} {b:Nat}:CallsS Tryz.prog w0 116 [.agg #[.string ⟨([]:List UInt8).toArray⟩,.string ⟨([]:List UInt8).toArray⟩],.int .i64 n,.pointer (some ⟨b,0,none⟩)] (.cl b [.int .i64 n] 42::As) fun u Bs=>u=.bool true∧Bs=.cl b [.int .i64 n] 42::As:=by
 refine Zab Tryz.func116 rfl Tryz.ntmps116 rfl ?_
 repeat' first|refine Kz ?_|intro _
 refine TL.f rfl rfl (Zi6 rfl rfl) ?_
 have hs:([]:List UInt8)=[]∧([]:List UInt8)=[]:=⟨rfl,rfl⟩
 repeat' first|refine Kz ?_|intro _
 (refine Zac ?_)
 exact ⟨_,⟨by simp,rfl⟩,Zaa⟩
theorem Zkk {n:Int}:CallsS Tryz.prog w0 52 [.int .i64 n] As fun u Bs=>∃ b,u=.func (.func 124) #[] #[.pointer (some ⟨b,0,none⟩)]∧Bs=.cl b [.int .i64 n] 3::As:=by
 refine Zab Tryz.func52 rfl Tryz.ntmps52 rfl ?_
 repeat' first|refine Kz ?_|intro _
 (refine Zac ?_)
 exact ⟨_,⟨_,rfl,rfl⟩,Zaa⟩
theorem Zeu {n:Int} {b:Nat}:CallsS Tryz.prog w0 124 [.int .i64 n,.int .i64 0,.pointer (some ⟨b,0,none⟩)] (.cl b [.int .i64 n] 3::As) fun u Bs=>u=.bool true∧Bs=.cl b [.int .i64 n] 3::As:=by
 refine Zab Tryz.func124 rfl Tryz.ntmps124 rfl ?_
 repeat' first|refine Kz ?_|intro _
 (refine Zac ?_)
 exact ⟨_,⟨by simp,rfl⟩,Zaa⟩
theorem Zuf {n:Int}:CallsS Tryz.prog w0 57 [.int .i64 n] As fun u Bs=>∃ b,u=.func (.func 134) #[] #[.pointer (some ⟨b,0,none⟩)]∧Bs=.cl b [.int .i64 n] 42::As:=by
 refine Zab Tryz.func57 rfl Tryz.ntmps57 rfl ?_
 repeat' first|refine Kz ?_|intro _
 (refine Zac ?_)
 exact ⟨_,⟨_,rfl,rfl⟩,Zaa⟩
theorem Zm5 {n:Int} {b:Nat}:CallsS Tryz.prog w0 134 [.int .i64 0,.int .i64 n,.pointer (some ⟨b,0,none⟩)] (.cl b [.int .i64 n] 42::As) fun u Bs=>u=.bool true∧Bs=.cl b [.int .i64 n] 42::As:=by
 refine Zab Tryz.func134 rfl Tryz.ntmps134 rfl ?_
 repeat' first|refine Kz ?_|intro _
 (refine Zac ?_)
 exact ⟨_,⟨by simp,rfl⟩,Zaa⟩
theorem Zho {s:List UInt8}:CallsS Tryz.prog w0 58 [.string ⟨s.toArray⟩] As fun u Bs=>∃ b,u=.func (.func 135) #[] #[.pointer (some ⟨b,0,none⟩)]∧Bs=.cl b [.string ⟨s.toArray⟩] 9::As:=by
 refine Zab Tryz.func58 rfl Tryz.ntmps58 rfl ?_
 repeat' first|refine Kz ?_|intro _
 (refine Zac ?_)
 exact ⟨_,⟨_,rfl,rfl⟩,Zaa⟩
theorem Zd0 {s:List UInt8} {b:Nat}:CallsS Tryz.prog w0 135 [.string ⟨s.toArray⟩,.int .i64 0,.pointer (some ⟨b,0,none⟩)] (.cl b [.string ⟨s.toArray⟩] 9::As) fun u Bs=>u=.bool true∧Bs=.cl b [.string ⟨s.toArray⟩] 9::As:=by
 refine Zab Tryz.func135 rfl Tryz.ntmps135 rfl ?_
 have hs:(s=s):=rfl
 repeat' first|refine Kz ?_|intro _
 (refine Zac ?_)
 exact ⟨_,⟨by simp,rfl⟩,Zaa⟩
end Go.Proofs.YtciadfpomkdlnaaGreatDoor.Q
