/- Plain: a wrong line behind right ones. -/
import Derived.Test.YtciadfpomkdlnaaGreatDoorPp9
set_option maxHeartbeats 1000000
namespace Go.Proofs.YtciadfpomkdlnaaGreatDoor.Q
open Go Go.Sx
theorem Zsh {z:Int} {k:Nat}:(∀ c∈fixT z k,c≠120)∧(¬ z < 0→∀ c∈fixT z k,c≠45):=by
 have hd:=Zep z.natAbs
 have hu:=Zg8 (p:=k) hd
 have hx:∀ c:UInt8,isDig c=true→c≠120∧c≠45:=fun c h=>⟨by rintro rfl;exact absurd h (by decide),by rintro rfl;exact absurd h (by decide)⟩
 have key:∀ c∈(if 0 < k then dotS (padS (Lib.decDigits z.natAbs) k) k else Lib.decDigits z.natAbs),c≠120∧c≠45:=by
  intro c hc
  split at hc
  ·rw [dotS] at hc
   rcases List.mem_append.1 hc with hc|hc
   ·rcases List.mem_append.1 hc with hc|hc
    ·exact hx c (hu c (List.mem_of_mem_take hc))
    ·rw [List.mem_singleton.1 hc];decide
   ·exact hx c (hu c (List.mem_of_mem_drop hc))
  ·exact hx c (hd c hc)
 unfold fixT
 refine ⟨fun c hc=>?_,fun h0 c hc=>?_⟩
 ·rcases List.mem_append.1 hc with hc|hc
  ·split at hc
   ·rw [List.mem_singleton.1 hc];decide
   ·cases hc
  ·exact (key c hc).1
 ·rw [if_neg h0,List.nil_append] at hc
  exact (key c hc).2
theorem Z1v {w:List UInt8} {p:Nat} {lo hi:Int}:valueP (w++[120]) p lo hi=none:=by
 unfold valueP
 cases h:parseQ (w++[120]) with
 | inr e=>rfl
 | inl r =>
  obtain ⟨_,z,_,h2,_⟩:=Zla h
  exact absurd rfl ((Zsh (z:=z)).1 120 (by rw [h2];simp))
theorem Zu0 {w:List UInt8} {p:Nat} {lo hi:Int} (h0:0≤lo):valueP (45::w) p lo hi=none:=by
 unfold valueP
 cases h:parseQ (45::w) with
 | inr e=>rfl
 | inl r =>
  obtain ⟨_,z,h1,h2,_⟩:=Zla h
  have hz:z < 0:=by
   by_cases hz:z < 0
   ·exact hz
   ·exact absurd rfl ((Zsh (z:=z)).2 hz 45 (by rw [h2];simp))
  simp only
  rw [if_neg]
  rintro ⟨e,h3,h4⟩
  generalize nearQ r (10 ^ p)=n at e h3 h4
  rw [h1] at e
  have e1:=(Rat.mkRat_eq_iff (Nat.pos_iff_ne_zero.1 (Nat.pow_pos (by decide))) (Nat.pos_iff_ne_zero.1 (Nat.pow_pos (by decide)))).1 e
  have p1:(0:Int) < ((10 ^ p:Nat):Int):=Int.ofNat_lt.2 (Nat.pow_pos (by decide))
  have p2:(0:Int)≤n * ((10 ^ (Lib.cut (45::w) [46]).2.1.length:Nat):Int):=Int.mul_nonneg (by omega) (Int.natCast_nonneg _)
  have p3:z * ((10 ^ p:Nat):Int) < 0:=Int.mul_neg_of_neg_of_pos hz p1
  omega
theorem Zza {w:List UInt8} {ws:List (List UInt8)} (h:∀ x∈w::ws,x≠[]∧∀ c∈x,isBl c=false) (h35:w.head?≠some 35):sayP (joinW (w::ws))=some (w::ws):=by
 unfold sayP
 rw [Zht h]
 simp only
 rw [if_neg h35]
theorem Zy5 {n ch:Nat} {ps:List PP} {ws:List (List UInt8)} (hch:ch≠0) (he:ws≠[wEnd]) (hp:patchP ch ps ws=none):stepP n (ch,ps,false) ws=.inl n:=by
 unfold stepP
 rw [if_neg (by intro h;cases h),if_neg hch,if_neg he,hp]
theorem Zn6 {ch:Nat} {ps:List PP} {ws:List (List UInt8)} (h:ws.length≠ch+4):patchP ch ps ws=none:=by
 unfold patchP
 rw [if_neg fun k=>h k.1]
theorem Zzm {ch:Nat} {ps:List PP} {w:List UInt8} {ws:List (List UInt8)} (h:namedP w=false):patchP ch ps (w::ws)=none:=by
 unfold patchP
 rw [if_neg fun k=>by have:=k.2.2.1;rw [List.headD_cons,h] at this;cases this]
theorem Zvs {ch:Nat} {ps:List PP} {w v:List UInt8} {ws:List (List UInt8)} (hch:ch≠0) (h:valueP v 4 0 10000=none):patchP ch ps (w::v::ws)=none:=by
 unfold patchP
 obtain ⟨k,rfl⟩:∃ k,ch=k+1:=⟨ch - 1,by omega⟩
 have e:devsP (((w::v::ws).drop 1).take (k+1))=none:=by
  rw [List.drop_one,List.tail_cons,List.take_succ_cons,devsP,h]
 rw [e]
 split<;>rfl
theorem Zto {ch:Nat} {ps:List PP} {ws:List (List UInt8)} (h:valueP (ws.getD (1+ch+2) []) 2 (-12800) 12700=none):patchP ch ps ws=none:=by
 unfold patchP
 rw [h]
 split
 ·split
  ·rename_i h4;cases h4
  ·rfl
 ·rfl
def restW (p:PP):List UInt8:=joinW (p.2.1.map (decT · 4)++[decT p.2.2.1 2,decT p.2.2.2.1 2,decT p.2.2.2.2 2])
theorem Zr7 {w v:List UInt8} {r:List (List UInt8)}:joinW (w::v::r)=w++32::joinW (v::r):=by
 simp only [joinW,List.flatMap_cons,List.cons_append]
theorem Zwh {w:List UInt8} {r:List (List UInt8)} (h:r≠[]):joinW (w::r)=w++32::joinW r:=by
 cases r with
 | nil=>exact absurd rfl h
 | cons v r=>exact Zr7
theorem Zj7 {w:List UInt8}:∀ {ws:List (List UInt8)},ws≠[]→joinW (ws++[w])=joinW ws++32::w
 | [],h=>absurd rfl h
 | a::r,_=>by
  show joinW (a::(r++[w]))=_
  rw [joinW,joinW,List.flatMap_append]
  simp
theorem Zwi {w x:List UInt8} {ws:List (List UInt8)}:joinW (ws++[w++x])=joinW (ws++[w])++x:=by
 cases ws with
 | nil=>simp [joinW]
 | cons a r=>rw [Zj7 (by simp),Zj7 (by simp)];simp
theorem Zm4 {p:PP}:joinW (wordsT p)=p.1++32::restW p:=by
 unfold wordsT restW
 rw [Zwh (by simp)]
def badL (i:Nat) (p:PP):List UInt8 :=
 if i=0 then [112,97,116,99,104,101,115,32,49] else if i=1 then [120] else if i=2 then joinW (wordsT p)++[32,48] else if i=3 then p.1++[33,32]++restW p
 else if i=4 then [101,110,100,32,120] else if i=5 then joinW (wordsT p)++[120] else if i=6 then p.1++[32,45]++restW p else [80,32,48,32,48,32,48,32,48,32,48,32,48,32,48,32,48]
theorem Z0e {i n ch:Nat} {ps:List PP} {p:PP} (hs:soundP p=true) (hc:p.2.1.length=ch):∃ ws,sayP (badL i p)=some ws∧stepP n (ch,ps,false) ws=.inl n∧∀ c∈badL i p,c≠10:=by
 obtain ⟨h1,h2,h3,h4⟩:=Z3v.1 hs
 have hw:=Zd5 h1
 obtain ⟨⟨hn1,hn2⟩,hn3⟩:=Z4d.1 h1
 have hch:ch≠0:=by omega
 have h35:p.1.head?≠some 35:=by
  intro hh
  cases hp:p.1 with
  | nil=>rw [hp] at hn1;simp at hn1
  | cons c r =>
   rw [hp] at hh hn3
   simp only [List.head?_cons,Option.some.injEq] at hh
   exact (Zha (hn3 c (List.mem_cons_self ..))).2.2 hh
 have wl:(wordsT p).length=ch+4:=by simp only [wordsT,List.length_cons,List.length_append,List.length_map,List.length_nil];omega
 have we:wordsT p=p.1::(p.2.1.map (decT · 4)++[decT p.2.2.1 2,decT p.2.2.2.1 2,decT p.2.2.2.2 2]):=rfl
 have gen:∀ (w:List UInt8) (ws:List (List UInt8)),badL i p=joinW (w::ws)→(∀ x∈w::ws,x≠[]∧∀ c∈x,isBl c=false∧c≠10)→w.head?≠some 35→w::ws≠[wEnd]→patchP ch ps (w::ws)=none →
   ∃ ws,sayP (badL i p)=some ws∧stepP n (ch,ps,false) ws=.inl n∧∀ c∈badL i p,c≠10:=by
  intro w ws e k1 k2 k3 k4
  rw [e]
  refine ⟨w::ws,Zza (fun x hx=>⟨(k1 x hx).1,fun c hc=>((k1 x hx).2 c hc).1⟩) k2,Zy5 hch k3 k4,fun c hc=>?_⟩
  rcases Zr8 hc with rfl|⟨x,hx,hc⟩
  ·decide
  ·exact ((k1 x hx).2 c hc).2
 have lit:∀ (w:List UInt8) (ws:List (List UInt8)),badL i p=joinW (w::ws)→((w::ws).all fun x=>!x.isEmpty&&x.all fun c=>!isBl c&&c != 10)=true→w.head?≠some 35→w::ws≠[wEnd]→(w::ws).length≠ch+4 →
   ∃ ws,sayP (badL i p)=some ws∧stepP n (ch,ps,false) ws=.inl n∧∀ c∈badL i p,c≠10:=by
  intro w ws e k1 k2 k3 k4
  refine gen w ws e (fun x hx=>?_) k2 k3 (Zn6 k4)
  have:=List.all_eq_true.1 k1 x hx
  rw [Bool.and_eq_true,List.all_eq_true] at this
  refine ⟨fun e=>?_,fun c hc=>?_⟩
  ·rw [e] at this;exact absurd this.1 (by decide)
  ·have:=this.2 c hc
   rw [Bool.and_eq_true,bne_iff_ne,Bool.not_eq_true'] at this
   exact this
 by_cases i0:i=0
 ·subst i0
  exact lit wPatches [[49]] rfl (by decide) (by decide) (by decide) (by simp only [List.length_cons,List.length_nil];omega)
 by_cases i1:i=1
 ·subst i1
  exact lit [120] [] rfl (by decide) (by decide) (by decide) (by simp only [List.length_cons,List.length_nil];omega)
 by_cases i2:i=2
 ·subst i2
  refine gen p.1 ((p.2.1.map (decT · 4)++[decT p.2.2.1 2,decT p.2.2.2.1 2,decT p.2.2.2.2 2])++[[48]]) ?_ ?_ h35 ?_ (Zn6 ?_)
  ·show joinW (wordsT p)++[32,48]=joinW (wordsT p++[[48]])
   rw [Zj7 (by rw [we];simp)]
  ·intro x hx
   rcases List.mem_append.1 (show x∈wordsT p++[[48]] from hx) with hx|hx
   ·exact hw x hx
   ·rw [List.mem_singleton.1 hx];decide
  ·intro e;have:=congrArg List.length e;simp at this
  ·show (wordsT p++[[48]]).length≠_
   rw [List.length_append,wl];simp
 by_cases i3:i=3
 ·subst i3
  refine gen (p.1++[33]) (p.2.1.map (decT · 4)++[decT p.2.2.1 2,decT p.2.2.2.1 2,decT p.2.2.2.2 2]) ?_ ?_ ?_ ?_ (Zzm ?_)
  ·show p.1++[33,32]++restW p=_
   rw [Zwh (by simp)]
   unfold restW
   simp
  ·intro x hx
   rcases List.mem_cons.1 hx with rfl|hx
   ·refine ⟨by simp,fun c hc=>?_⟩
    rcases List.mem_append.1 hc with hc|hc
    ·exact (hw p.1 (by rw [we];exact List.mem_cons_self ..)).2 c hc
    ·rw [List.mem_singleton.1 hc];decide
   ·exact hw x (by rw [we];exact List.mem_cons_of_mem _ hx)
  ·cases hp:p.1 with
   | nil=>rw [hp] at hn1;simp at hn1
   | cons c r=>rw [hp] at h35;exact h35
  ·intro e;have:=congrArg List.length e;simp at this
  ·cases hb:namedP (p.1++[33]) with
   | false=>rfl
   | true=>exact absurd ((Z4d.1 hb).2 33 (by simp)) (by decide)
 by_cases i4:i=4
 ·subst i4
  exact lit wEnd [[120]] rfl (by decide) (by decide) (by decide) (by simp only [List.length_cons,List.length_nil];omega)
 by_cases i5:i=5
 ·subst i5
  have hla:=hw (decT p.2.2.2.2 2) (by rw [we];simp)
  refine gen p.1 ((p.2.1.map (decT · 4)++[decT p.2.2.1 2,decT p.2.2.2.1 2])++[decT p.2.2.2.2 2++[120]]) ?_ ?_ h35 ?_ (Zto ?_)
  ·show joinW (wordsT p)++[120]=joinW ((p.1::(p.2.1.map (decT · 4)++[decT p.2.2.1 2,decT p.2.2.2.1 2]))++[decT p.2.2.2.2 2++[120]])
   rw [Zwi,we]
   simp
  ·intro x hx
   rcases List.mem_cons.1 hx with rfl|hx
   ·exact hw p.1 (by rw [we];exact List.mem_cons_self ..)
   rcases List.mem_append.1 hx with hx|hx
   ·refine hw x ?_
    rw [we]
    refine List.mem_cons_of_mem _ ?_
    rcases List.mem_append.1 hx with hx|hx
    ·exact List.mem_append_left _ hx
    ·refine List.mem_append_right _ ?_
     simp only [List.mem_cons,List.not_mem_nil,or_false] at hx ⊢
     rcases hx with rfl|rfl
     ·exact .inl rfl
     ·exact .inr (.inl rfl)
   ·rw [List.mem_singleton.1 hx]
    refine ⟨by simp,fun c hc=>?_⟩
    rcases List.mem_append.1 hc with hc|hc
    ·exact hla.2 c hc
    ·rw [List.mem_singleton.1 hc];decide
  ·intro e;have:=congrArg List.length e;simp at this
  ·rw [List.getD_eq_getElem?_getD,show 1+ch+2=(ch+2)+1 by omega,List.getElem?_cons_succ,List.getElem?_append_right (by simp;omega)]
   rw [show ch+2 - (p.2.1.map (decT · 4)++[decT p.2.2.1 2,decT p.2.2.2.1 2]).length=0 by simp;omega]
   exact Z1v
 by_cases i6:i=6
 ·subst i6
  obtain ⟨v,r,hv⟩:∃ v r,p.2.1=v::r:=by
   cases hd:p.2.1 with
   | nil=>rw [hd] at hc;simp at hc;omega
   | cons v r=>exact ⟨v,r,rfl⟩
  have hvm:=hw (decT v 4) (by rw [we,hv];simp)
  refine gen p.1 ((45::decT v 4)::(r.map (decT · 4)++[decT p.2.2.1 2,decT p.2.2.2.1 2,decT p.2.2.2.2 2])) ?_ ?_ h35 ?_ (Zvs hch (Zu0 (Int.le_refl _)))
  ·show p.1++[32,45]++restW p=_
   rw [Zr7]
   unfold restW
   rw [hv,List.map_cons,List.cons_append]
   simp [joinW]
  ·intro x hx
   rcases List.mem_cons.1 hx with rfl|hx
   ·exact hw p.1 (by rw [we];exact List.mem_cons_self ..)
   rcases List.mem_cons.1 hx with rfl|hx
   ·refine ⟨by simp,fun c hc=>?_⟩
    rcases List.mem_cons.1 hc with rfl|hc
    ·decide
    ·exact hvm.2 c hc
   ·exact hw x (by rw [we,hv,List.map_cons,List.cons_append];exact List.mem_cons_of_mem _ (List.mem_cons_of_mem _ hx))
  ·intro e;have:=congrArg List.length e;simp at this
 ·have e:badL i p=joinW ([80]::[[48],[48],[48],[48],[48],[48],[48],[48]]):=by
   unfold badL
   rw [if_neg i0,if_neg i1,if_neg i2,if_neg i3,if_neg i4,if_neg i5,if_neg i6]
   rfl
  exact lit [80] [[48],[48],[48],[48],[48],[48],[48],[48]] e (by decide) (by decide) (by decide) (by simp;omega)
theorem Zls {s:List UInt8}:∀ {L:List (List UInt8)},(∀ l∈L,∀ c∈l,c≠10)→linesL ((L.map (·++[10])).flatten++s)=L++linesL s
 | [],_=>rfl
 | l::r,h=>by
  rw [List.map_cons,List.flatten_cons,List.append_assoc,List.append_assoc,List.singleton_append,Zea (h l (List.mem_cons_self ..)),Zls fun x hx=>h x (List.mem_cons_of_mem _ hx)]
  rfl
theorem Zxa {i:Nat} {p:PP} (h:soundP p=true):(badL i p).length≤100:=by
 have h1:=Zg4 h
 unfold rowT at h1
 rw [List.length_append] at h1
 have h2:=congrArg List.length (Zm4 (p:=p))
 rw [List.length_append,List.length_cons] at h2
 unfold badL
 split
 ·decide
 split
 ·decide
 split
 ·rw [List.length_append];simp only [List.length_cons,List.length_nil];omega
 split
 ·rw [List.length_append,List.length_append];simp only [List.length_cons,List.length_nil];omega
 split
 ·decide
 split
 ·rw [List.length_append];simp only [List.length_cons,List.length_nil];omega
 split
 ·rw [List.length_append,List.length_append];simp only [List.length_cons,List.length_nil];omega
 ·decide
theorem Ztc {l:List PP} (h:checkP l=true):(addNl (linesL (textT l))).length=l.length+3:=by
 rw [Zds,Zde h,List.length_cons,List.length_append,List.length_map]
 rfl
theorem Zpp {l:List PP} {p:PP} (h:checkP l=true) (hp:l[0]?=some p):(addNl (linesL (textT l)))[1]?=some (p.1++32::restW p++[10]):=by
 cases l with
 | nil=>cases hp
 | cons a r =>
  cases hp
  rw [Zde h,List.map_cons,List.cons_append,Zca (by simp),List.getElem?_cons_succ,Zca (by simp),List.getElem?_cons_zero,Zm4]
theorem Zy2 {l:List PP} {p:PP} {i k:Nat} {s:List UInt8} (h:checkP l=true) (hp:l[0]?=some p) (hk:1≤k) (hk2:k≤l.length+1) (hs:s.length≤200) :
  parseT (((addNl (linesL (textT l))).take k).flatten++badL i p++[10]++s)=([],k+1,5)∧(((addNl (linesL (textT l))).take k).flatten++badL i p++[10]++s).length≤8000:=by
 obtain ⟨h1,h2,h3⟩:=Zw9.1 h
 have hpm:=List.mem_of_getElem? hp
 have hsp:=h3.sound p hpm
 have hch:1≤(l.headD ([],[],0,0,0)).2.1.length∧(l.headD ([],[],0,0,0)).2.1.length≤4:=by
  rw [← hsp.2];exact (Z3v.1 hsp.1).2.1
 have hlen:(((addNl (linesL (textT l))).take k).flatten++badL i p++[10]++s).length≤8000:=by
  have e:=congrArg List.length (Zol (s:=textT l))
  rw [← List.take_append_drop k (addNl (linesL (textT l))),List.flatten_append,List.length_append] at e
  have:=Zcb h
  have:=Zxa (i:=i) hsp.1
  simp only [List.length_append,List.length_cons,List.length_nil]
  omega
 refine ⟨?_,hlen⟩
 have hlt:k < (linesL (textT l)).length:=by
  rw [Zde h,List.length_cons,List.length_append,List.length_map]
  simp only [List.length_cons,List.length_nil];omega
 obtain ⟨ws,b1,b2,b3⟩:=Z0e (i:=i) (n:=k+1) (ps:=l.take (k - 1)) hsp.1 hsp.2
 have htk:(linesL (textT l)).take k=[wPatches++32::Lib.decDigits (l.headD ([],[],0,0,0)).2.1.length]++(l.take (k - 1)).map (fun p=>joinW (wordsT p)):=by
  obtain ⟨j,rfl⟩:∃ j,k=j+1:=⟨k - 1,by omega⟩
  rw [Zde h,List.take_succ_cons,List.take_append_of_le_length (by rw [List.length_map];omega),← List.map_take]
  rfl
 have hno:∀ x∈(linesL (textT l)).take k,∀ c∈x,c≠10:=by
  rw [htk]
  intro x hx
  rcases List.mem_append.1 hx with hx|hx
  ·rw [List.mem_singleton.1 hx];exact Zog
  ·obtain ⟨q,hq,rfl⟩:=List.mem_map.1 hx
   exact Zrr (Z3v.1 (h3.sound q (List.mem_of_mem_take hq)).1).1
 unfold parseT
 rw [if_neg (by omega)]
 have hr:runP 1 (0,[],false) (linesL (((addNl (linesL (textT l))).take k).flatten++badL i p++[10]++s))=.inl (k+1):=by
  rw [Zl1 hlt,List.append_assoc,List.append_assoc,Zls hno,List.singleton_append,Zea b3,htk,List.append_assoc,Zhx (Zsb hch.1 hch.2)]
  have hvl:=h3.pre (k - 1)
  rw [Zhx (Zmj hch.1 (ps:=[]) (by rw [List.nil_append];exact hvl) (by rw [List.nil_append,List.length_take];omega))]
  rw [runP,b1]
  simp only
  have e:1+[wPatches++32::Lib.decDigits (l.headD ([],[],0,0,0)).2.1.length].length+((l.take (k - 1)).map fun p=>joinW (wordsT p)).length=k+1:=by
   rw [List.length_map,List.length_take];simp only [List.length_cons,List.length_nil];omega
  rw [e,List.nil_append,b2]
 rw [hr]
end Go.Proofs.YtciadfpomkdlnaaGreatDoor.Q
