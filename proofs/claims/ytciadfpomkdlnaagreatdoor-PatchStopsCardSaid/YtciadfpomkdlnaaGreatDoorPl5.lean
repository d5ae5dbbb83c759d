/- Walks: PatchStops: a line that is wrong is found with its number. -/
import Derived.Test.YtciadfpomkdlnaaGreatDoorPl3
import Derived.Test.YtciadfpomkdlnaaGreatDoorPwd
set_option maxHeartbeats 1000000
namespace Go.Proofs.YtciadfpomkdlnaaGreatDoor.Q
open Go Go.Sx
variable {w0:World} {As:List Ent}
theorem Z2w {i:Nat} {p:PP} {f:List UInt8} (hf:f=joinW (wordsT p)) (hi:i < 8) :
  ([.string ⟨#[112,97,116,99,104,101,115,32,49]⟩,.string ⟨#[120]⟩,.string ⟨(f++[32,48]).toArray⟩,.string ⟨(p.1++[33,32]++restW p).toArray⟩,.string ⟨#[101,110,100,32,120]⟩,.string ⟨(f++[120]).toArray⟩,.string ⟨(p.1++[32,45]++restW p).toArray⟩,.string ⟨#[80,32,48,32,48,32,48,32,48,32,48,32,48,32,48,32,48]⟩]:List Value)[i]?=some (.string ⟨(badL i p).toArray⟩):=by
 subst hf
 obtain rfl|rfl|rfl|rfl|rfl|rfl|rfl|rfl:i=0∨i=1∨i=2∨i=3∨i=4∨i=5∨i=6∨i=7:=by omega
 all_goals rfl
set_option maxRecDepth 100000 in
set_option maxHeartbeats 1000000 in
theorem Zzn (ht:Tab w0) (he:ErrR w0) (hm:LenR w0) {ch wh an:Nat} {be:List UInt8} {lv:Value} {X:List W7} [hr:RdIn As lv W7 c7 X] (hok:∀ x∈X,x.ok) (hch:ch≤255) (hwh:wh≤255) (han:an≤255) :
  CallsS Tryz.prog w0 9 [.agg #[.int .u8 (ch:Int),lv],.int .u8 (wh:Int),.int .u8 (an:Int),.string ⟨be.toArray⟩] As fun u _=>u=.bool true:=by
 refine Zbh lv fun hlv=>?_
 refine Zab Tryz.func9 rfl Tryz.ntmps9 rfl ?_
 repeat' first|refine Kz ?_|intro _
 refine Kt rfl (Zfj ht he hm) ?_
 repeat' first|refine Kz ?_|intro _
 rename_i b4
 refine TL.callv rfl rfl rfl rfl (Zel ht hok hch) ?_
 rintro vl _ ⟨L,hL,rfl⟩
 have hcl:checkP (L.map ppOf)=true:=by rw [hL];exact Zeo
 clear hL
 repeat' first|refine Kz ?_|intro _
 refine Ks rfl (Ze3 ht (v:=vl) (fun r hr=>Zay (L:=L) (by simp) r hr) (Zd2 hcl)) ?_
 have hto:textO31 (L.map ppOf)=(textT (L.map ppOf),0):=by unfold textO31;rw [hcl];rfl
 have htl:=Zcb hcl
 have hct:=Ztc hcl
 rw [hto]
 obtain ⟨p,hp⟩:∃ p,(L.map ppOf)[0]?=some p:=by
  obtain ⟨h1,_,_⟩:=Zw9.1 hcl
  cases hq:L.map ppOf with
  | nil=>exact absurd hq h1
  | cons p r=>exact ⟨p,rfl⟩
 have h2:=Zpp hcl hp
 have hsp:=((Zw9.1 hcl).2.2.sound p (List.mem_of_getElem? hp)).1
 have h40:=(Zw9.1 hcl).2.1
 have hfl:=Zg4 hsp
 have hfe:=Zm4 (p:=p)
 have hn32:∀ c∈p.1,c≠32:=fun c hc e=>by
  have:=(Zd5 (Z3v.1 hsp).1 p.1 (List.mem_cons_self ..)).2 c hc
  rw [e] at this
  exact absurd this.1 (by decide)
 have hrl:(p.1++32::restW p).length≤70:=by unfold rowT at hfl;rw [List.length_append,hfe] at hfl;omega
 have hrl3:p.1.length+((restW p).length+1)≤70:=by rw [List.length_append,List.length_cons] at hrl;exact hrl
 have hstop:=fun i k s=>Zy2 (i:=i) (k:=k) (s:=s) hcl hp
 repeat' first|refine Kz ?_|intro _
 refine TL.callv rfl rfl rfl rfl (Zg1 hm (s:=textT (L.map ppOf)) (by omega)) ?_
 rintro _ _ ⟨pA,cA,rfl,rfl⟩
 generalize addNl (linesL (textT (L.map ppOf)))=LS at *
 rw [List.length_map] at hct hstop h40
 obtain ⟨k,hk,hk1,hk2⟩:∃ k:Nat,(1:Int)+(an:Int) % ((LS.length:Int) - 2)=(k:Int)∧1≤k∧k≤L.length+1:=by
  have h1:0≤(an:Int) % ((LS.length:Int) - 2):=Int.emod_nonneg _ (by omega)
  have h3:(an:Int) % ((LS.length:Int) - 2) < (LS.length:Int) - 2:=Int.emod_lt_of_pos _ (by omega)
  exact ⟨(1+(an:Int) % ((LS.length:Int) - 2)).toNat,by omega,by omega,by omega⟩
 repeat' first|refine Kz ?_|intro _
 rw [hk]
 refine Ks rfl (Zmg (x:=p.1++32::restW p) (by omega)) ?_
 repeat' first|refine Kz ?_|intro _
 refine Ks rfl (Zjv hm (w:=p.1) (r:=restW p) (new:=[33,32]) (by omega) (by decide) (by decide) hn32) ?_
 repeat' first|refine Kz ?_|intro _
 refine Ks rfl (Zjv hm (w:=p.1) (r:=restW p) (new:=[32,45]) (by omega) (by decide) (by decide) hn32) ?_
 obtain ⟨i8,hi8,hi8l⟩:∃ i:Nat,(wh:Int) % 8=(i:Int)∧i < 8:=⟨wh % 8,by omega,by omega⟩
 repeat' first|refine Kz ?_|intro _
 rw [hi8]
 refine TL.f rfl rfl (Zid rfl rfl rfl (by simpa using hi8l) (Z2w (f:=p.1++32::restW p) Zm4.symm hi8l)) ?_
 have hbl:=Zxa (i:=i8) hsp
 obtain ⟨n2,hn2,hn2l,hn2m⟩:∃ n2:Nat,(if (200:Int) < (be.length:Int) then (200:Int) else (be.length:Int))=(n2:Int)∧n2≤be.length∧n2≤200:=by
  split
  ·exact ⟨200,rfl,by omega,Nat.le_refl _⟩
  ·exact ⟨be.length,rfl,Nat.le_refl _,by omega⟩
 obtain ⟨hs1,hs2⟩:=hstop i8 k (be.take n2) hk1 hk2 (by rw [List.length_take];omega)
 have hkl:k≤LS.length:=by omega
 repeat' first|refine Kz ?_|intro _
 refine Zam (.take 0 (.take 1 (.take 2 (.take 4 (.take 7 (.take 8 (.take 9 (.take 10 (.take 11 (.all [(3,.take 5 (.take 6 (.take 12 (.take 13 (.done)))))])))))))))) ?_
 repeat' first|refine Kf ?_|intro _|constructor
 refine TT.take rfl rfl rfl (Zl8 (hi:=k) rfl (Zcj rfl) hkl) ?_
 repeat' first|refine Kf ?_|intro _|constructor
 rw [hn2]
 refine TT.take rfl rfl rfl (Zcm (lo:=0) (hi:=n2) rfl Zfd (Zcj rfl) (by omega) (by omega) rfl) ?_
 repeat' first|refine Kf ?_|intro _|constructor
 haveI rdl:∀ Bs [RdIn Bs (.slice pA LS.length cA) (List UInt8) cW LS],RdIn Bs (.slice pA k cA) (List UInt8) cW (LS.take k):=fun Bs i1=>RdIn.take (h:=i1) hkl
 rw [show List.take (n2 - 0) (List.drop 0 be)=be.take n2 from rfl]
 have hnk:LS.take k≠[]:=fun e=>by
  have:=congrArg List.length e
  rw [List.length_take,List.length_nil] at this
  omega
 have hs2':=hs2
 simp only [List.length_append] at hs2'
 refine Ku rfl (Zr9 (v:=.slice pA k cA) (xs:=LS.take k) hnk (by rw [List.length_take];omega) (by omega)) ?_
 generalize be.take n2=tl at *
 generalize (LS.take k).flatten=hd at *
 generalize badL i8 p=bd at *
 repeat' first|refine Kf ?_|intro _|constructor
 refine Ks rfl (Zcs ht he hm (s:=hd++bd++[10]++tl) (n:=k+1) (e:=5) (by omega)) ?_
 rw [decide_eq_true (show (parseT (hd++bd++[10]++tl)).1.length=0∧(parseT (hd++bd++[10]++tl)).2.1=k+1∧(parseT (hd++bd++[10]++tl)).2.2=5 by rw [hs1];exact ⟨rfl,rfl,rfl⟩)]
 repeat' first|refine Kz ?_|intro _
 (refine Zac ?_)
 exact ⟨_,rfl,Ents.refl _⟩
end Go.Proofs.YtciadfpomkdlnaaGreatDoor.Q
