/- Walks: PatchKnown: the examples, the limits and the order of errors. -/
import Derived.Test.YtciadfpomkdlnaaGreatDoorPl3
import Derived.Test.YtciadfpomkdlnaaGreatDoorPwd
import Derived.Test.YtciadfpomkdlnaaGreatDoorPpb
import Derived.Test.YtciadfpomkdlnaaGreatDoorSxY
set_option maxHeartbeats 1000000
namespace Go.Sx
open Go
theorem Zkw {P:Program} {N:Ctx} {w0:World} {e:Env} {As:List Ent} {ty t t':TypeId} {x:Operand} {n:Nat} [UL P t (.int .i32)] [UL P t' .string] (hx:ev e x=some (.int .i32 (n:Int))) (hn:n < 128):ExF P N w0 (.convert t t' x) ty e As (.string ⟨([UInt8.ofNat n]:List UInt8).toArray⟩):=by
 have h1:Utf8.encode (n:Int)=⟨([UInt8.ofNat n]:List UInt8).toArray⟩:=by
  unfold Utf8.encode
  have hv:Utf8.valid (n:Int)=true:=by unfold Utf8.valid;simp;omega
  rw [hv]
  simp only [if_true,Int.toNat_natCast]
  rw [if_pos (by omega)]
 unfold ExF
 intro a w ha _ d pos af g
 simp [execOp,ha.eval hx,convert,Zam,Conv.intToString,h1]
end Go.Sx
namespace Go.Proofs.YtciadfpomkdlnaaGreatDoor.Q
open Go Go.Sx Go.RowKit
variable {w0:World} {As:List Ent}
def manyR (bA:Nat) (n:Nat):List RawP:=(List.range n).map fun k=>⟨nmK k,some ⟨bA,0,none⟩,4,[0,10000,1,9999],10000,-12800,12700⟩
def pzR (bA:Nat):RawP:=⟨pzN,some ⟨bA,0,none⟩,4,[0,10000,1,9999],10000,-12800,12700⟩
theorem Zg7 {bA n:Nat}:(manyR bA n).map ppOf=manyP n:=by
 unfold manyR manyP
 rw [List.map_map]
 rfl
theorem Zb3 {bA n:Nat}:(manyR bA n).length=n:=by unfold manyR;rw [List.length_map,List.length_range]
theorem Zef {bA n k:Nat} (h:k≤n):(manyR bA n).take k=manyR bA k:=by
 unfold manyR
 rw [← List.map_take,List.take_range,Nat.min_eq_left h]
theorem Ztu {bA n:Nat}:manyR bA (n+1)=manyR bA n++[⟨nmK n,some ⟨bA,0,none⟩,4,[0,10000,1,9999],10000,-12800,12700⟩]:=by
 unfold manyR
 rw [List.range_succ,List.map_append]
 rfl
theorem Zv9 {bA n:Nat} {Bs:List Ent} (h:RdIn Bs (.slice (some ⟨bA,0,none⟩) 4 4) Int (cI .i64) [0,10000,1,9999]):DevIn Bs (manyR bA n):=fun r hr=>by
 unfold manyR at hr
 obtain ⟨k,_,rfl⟩:=List.mem_map.1 hr
 exact h
theorem Zg6 {bA n:Nat} (h:n≤41):Shr (manyR bA n):=⟨by rw [Zb3];omega,fun r hr=>by
 unfold manyR at hr
 obtain ⟨k,_,rfl⟩:=List.mem_map.1 hr
 show (nmK k).length≤_
 exact Nat.le_trans (show 3≤1000 by decide) (by decide)⟩
theorem Zg8 {bA n:Nat} (h:n≤41):Fwd (manyR bA n):=⟨by rw [Zb3];omega,fun r hr=>by
 unfold manyR at hr
 obtain ⟨k,_,rfl⟩:=List.mem_map.1 hr
 show ([0,10000,1,9999]:List Int).length≤_
 decide⟩
def D14:Nat→List Nat
 | 1=>[0]
 | 3=>[1,2]
 | 5=>[4]
 | 7=>[5,6]
 | 9=>[8]
 | 11=>[9,10]
 | 13=>[12]
 | 14=>[13]
 | 16=>[15]
 | 18=>[16,17]
 | 20=>[19]
 | 22=>[20,21]
 | 24=>[23]
 | 26=>[24,25]
 | 29=>[27,28]
 | 32=>[30,31]
 | 35=>[33,34]
 | 38=>[36,37]
 | 41=>[39,40]
 | 44=>[42,43]
 | 45=>[3,7,11,14,18,22,26,29,32,35,38,41,44,2,6,10,17,21,25,28,31,34,37,40,43]
 | _=>[]
def X14:Nat→Option (List Int)
 | 2=>some [0]
 | 6=>some [0]
 | 10=>some [0]
 | 17=>some [0,0,0,0,0]
 | 21=>some [(-1)]
 | 25=>some [10001]
 | 28=>some [0]
 | 31=>some [0]
 | 34=>some [0]
 | 37=>some [0]
 | 40=>some [0]
 | 43=>some [0]
 | _=>none
def V14 (b1:Nat) (val:Nat→Value):Nat→Value
 | 0=>.pointer (some ⟨b1,2,none⟩)
 | 1=>.agg #[.int .i64 10000,.int .i64 (-12800),.int .i64 12700]
 | 3=>.agg #[.string ⟨([]:List UInt8).toArray⟩,val 2,.int .i64 10000,.int .i64 (-12800),.int .i64 12700]
 | 4=>.pointer (some ⟨b1,2,none⟩)
 | 5=>.agg #[.int .i64 10000,.int .i64 (-12800),.int .i64 12700]
 | 7=>.agg #[.string ⟨([65,122,48,57,45,95,97,98,99,100,101,102,103]:List UInt8).toArray⟩,val 6,.int .i64 10000,.int .i64 (-12800),.int .i64 12700]
 | 8=>.pointer (some ⟨b1,2,none⟩)
 | 9=>.agg #[.int .i64 10000,.int .i64 (-12800),.int .i64 12700]
 | 11=>.agg #[.string ⟨([97,32,98]:List UInt8).toArray⟩,val 10,.int .i64 10000,.int .i64 (-12800),.int .i64 12700]
 | 12=>.pointer (some ⟨b1,2,none⟩)
 | 13=>.agg #[.int .i64 10000,.int .i64 (-12800),.int .i64 12700]
 | 14=>.agg #[.string ⟨([97]:List UInt8).toArray⟩,.slice none 0 0,.int .i64 10000,.int .i64 (-12800),.int .i64 12700]
 | 15=>.pointer (some ⟨b1,2,none⟩)
 | 16=>.agg #[.int .i64 10000,.int .i64 (-12800),.int .i64 12700]
 | 18=>.agg #[.string ⟨([97]:List UInt8).toArray⟩,val 17,.int .i64 10000,.int .i64 (-12800),.int .i64 12700]
 | 19=>.pointer (some ⟨b1,2,none⟩)
 | 20=>.agg #[.int .i64 10000,.int .i64 (-12800),.int .i64 12700]
 | 22=>.agg #[.string ⟨([97]:List UInt8).toArray⟩,val 21,.int .i64 10000,.int .i64 (-12800),.int .i64 12700]
 | 23=>.pointer (some ⟨b1,2,none⟩)
 | 24=>.agg #[.int .i64 10000,.int .i64 (-12800),.int .i64 12700]
 | 26=>.agg #[.string ⟨([97]:List UInt8).toArray⟩,val 25,.int .i64 10000,.int .i64 (-12800),.int .i64 12700]
 | 27=>.agg #[.int .i64 (-1),.int .i64 0,.int .i64 0]
 | 29=>.agg #[.string ⟨([97]:List UInt8).toArray⟩,val 28,.int .i64 (-1),.int .i64 0,.int .i64 0]
 | 30=>.agg #[.int .i64 10001,.int .i64 0,.int .i64 0]
 | 32=>.agg #[.string ⟨([97]:List UInt8).toArray⟩,val 31,.int .i64 10001,.int .i64 0,.int .i64 0]
 | 33=>.agg #[.int .i64 0,.int .i64 (-12801),.int .i64 0]
 | 35=>.agg #[.string ⟨([97]:List UInt8).toArray⟩,val 34,.int .i64 0,.int .i64 (-12801),.int .i64 0]
 | 36=>.agg #[.int .i64 0,.int .i64 12701,.int .i64 0]
 | 38=>.agg #[.string ⟨([97]:List UInt8).toArray⟩,val 37,.int .i64 0,.int .i64 12701,.int .i64 0]
 | 39=>.agg #[.int .i64 0,.int .i64 0,.int .i64 (-12801)]
 | 41=>.agg #[.string ⟨([97]:List UInt8).toArray⟩,val 40,.int .i64 0,.int .i64 0,.int .i64 (-12801)]
 | 42=>.agg #[.int .i64 0,.int .i64 0,.int .i64 12701]
 | 44=>.agg #[.string ⟨([97]:List UInt8).toArray⟩,val 43,.int .i64 0,.int .i64 0,.int .i64 12701]
 | 45=>.agg #[.string ⟨([]:List UInt8).toArray⟩,val 2,.int .i64 10000,.int .i64 (-12800),.int .i64 12700,.string ⟨([65,122,48,57,45,95,97,98,99,100,101,102,103]:List UInt8).toArray⟩,val 6,.int .i64 10000,.int .i64 (-12800),.int .i64 12700,.string ⟨([97,32,98]:List UInt8).toArray⟩,val 10,.int .i64 10000,.int .i64 (-12800),.int .i64 12700,.string ⟨([97]:List UInt8).toArray⟩,.slice none 0 0,.int .i64 10000,.int .i64 (-12800),.int .i64 12700,.string ⟨([97]:List UInt8).toArray⟩,val 17,.int .i64 10000,.int .i64 (-12800),.int .i64 12700,.string ⟨([97]:List UInt8).toArray⟩,val 21,.int .i64 10000,.int .i64 (-12800),.int .i64 12700,.string ⟨([97]:List UInt8).toArray⟩,val 25,.int .i64 10000,.int .i64 (-12800),.int .i64 12700,.string ⟨([97]:List UInt8).toArray⟩,val 28,.int .i64 (-1),.int .i64 0,.int .i64 0,.string ⟨([97]:List UInt8).toArray⟩,val 31,.int .i64 10001,.int .i64 0,.int .i64 0,.string ⟨([97]:List UInt8).toArray⟩,val 34,.int .i64 0,.int .i64 (-12801),.int .i64 0,.string ⟨([97]:List UInt8).toArray⟩,val 37,.int .i64 0,.int .i64 12701,.int .i64 0,.string ⟨([97]:List UInt8).toArray⟩,val 40,.int .i64 0,.int .i64 0,.int .i64 (-12801),.string ⟨([97]:List UInt8).toArray⟩,val 43,.int .i64 0,.int .i64 0,.int .i64 12701]
 | 46=>.int .i64 0
 | _=>undef
def L13 (c:Nat→Nat):List RawP:=[⟨[],some ⟨c 2,0,none⟩,1,[0],10000,(-12800),12700⟩,⟨[65,122,48,57,45,95,97,98,99,100,101,102,103],some ⟨c 6,0,none⟩,1,[0],10000,(-12800),12700⟩,⟨[97,32,98],some ⟨c 10,0,none⟩,1,[0],10000,(-12800),12700⟩,⟨[97],none,0,[],10000,(-12800),12700⟩,⟨[97],some ⟨c 17,0,none⟩,5,[0,0,0,0,0],10000,(-12800),12700⟩,⟨[97],some ⟨c 21,0,none⟩,1,[(-1)],10000,(-12800),12700⟩,⟨[97],some ⟨c 25,0,none⟩,1,[10001],10000,(-12800),12700⟩,⟨[97],some ⟨c 28,0,none⟩,1,[0],(-1),0,0⟩,⟨[97],some ⟨c 31,0,none⟩,1,[0],10001,0,0⟩,⟨[97],some ⟨c 34,0,none⟩,1,[0],0,(-12801),0⟩,⟨[97],some ⟨c 37,0,none⟩,1,[0],0,12701,0⟩,⟨[97],some ⟨c 40,0,none⟩,1,[0],0,0,(-12801)⟩,⟨[97],some ⟨c 43,0,none⟩,1,[0],0,0,12701⟩]
theorem Z25 {b1:Nat}:∀ (val val':Nat→Value) (i:Nat),i < 47→X14 i=none→(∀ j∈D14 i,val j=val' j)→V14 b1 val i=V14 b1 val' i
 | _,_,0,_,_,_=>rfl
 | _,_,1,_,_,_=>rfl
 | _,_,2,_,h,_=>by cases h
 | val,val',3,_,_,h=>by
  simp only [V14]
  rw [h 2 (by decide)]
 | _,_,4,_,_,_=>rfl
 | _,_,5,_,_,_=>rfl
 | _,_,6,_,h,_=>by cases h
 | val,val',7,_,_,h=>by
  simp only [V14]
  rw [h 6 (by decide)]
 | _,_,8,_,_,_=>rfl
 | _,_,9,_,_,_=>rfl
 | _,_,10,_,h,_=>by cases h
 | val,val',11,_,_,h=>by
  simp only [V14]
  rw [h 10 (by decide)]
 | _,_,12,_,_,_=>rfl
 | _,_,13,_,_,_=>rfl
 | _,_,14,_,_,_=>rfl
 | _,_,15,_,_,_=>rfl
 | _,_,16,_,_,_=>rfl
 | _,_,17,_,h,_=>by cases h
 | val,val',18,_,_,h=>by
  simp only [V14]
  rw [h 17 (by decide)]
 | _,_,19,_,_,_=>rfl
 | _,_,20,_,_,_=>rfl
 | _,_,21,_,h,_=>by cases h
 | val,val',22,_,_,h=>by
  simp only [V14]
  rw [h 21 (by decide)]
 | _,_,23,_,_,_=>rfl
 | _,_,24,_,_,_=>rfl
 | _,_,25,_,h,_=>by cases h
 | val,val',26,_,_,h=>by
  simp only [V14]
  rw [h 25 (by decide)]
 | _,_,27,_,_,_=>rfl
 | _,_,28,_,h,_=>by cases h
 | val,val',29,_,_,h=>by
  simp only [V14]
  rw [h 28 (by decide)]
 | _,_,30,_,_,_=>rfl
 | _,_,31,_,h,_=>by cases h
 | val,val',32,_,_,h=>by
  simp only [V14]
  rw [h 31 (by decide)]
 | _,_,33,_,_,_=>rfl
 | _,_,34,_,h,_=>by cases h
 | val,val',35,_,_,h=>by
  simp only [V14]
  rw [h 34 (by decide)]
 | _,_,36,_,_,_=>rfl
 | _,_,37,_,h,_=>by cases h
 | val,val',38,_,_,h=>by
  simp only [V14]
  rw [h 37 (by decide)]
 | _,_,39,_,_,_=>rfl
 | _,_,40,_,h,_=>by cases h
 | val,val',41,_,_,h=>by
  simp only [V14]
  rw [h 40 (by decide)]
 | _,_,42,_,_,_=>rfl
 | _,_,43,_,h,_=>by cases h
 | val,val',44,_,_,h=>by
  simp only [V14]
  rw [h 43 (by decide)]
 | val,val',45,_,_,h=>by
  simp only [V14]
  rw [h 2 (by decide),h 6 (by decide),h 10 (by decide),h 17 (by decide),h 21 (by decide),h 25 (by decide),h 28 (by decide),h 31 (by decide),h 34 (by decide),h 37 (by decide),h 40 (by decide),h 43 (by decide)]
 | _,_,46,_,_,_=>rfl
 | _,_,_+47,h,_,_=>absurd h (by omega)
theorem Zpy (hm:LenR w0) {new:List UInt8} (hn:([101,110,100,10] == new)=false) (hnl:new.length≤1000) :
  CallsS Tryz.prog w0 35 [.string ⟨(textT (manyP 40)).toArray⟩,.string ⟨#[101,110,100,10]⟩,.string ⟨new.toArray⟩,.int .i64 1] As fun u Bs=>u=.string ⟨(preK++new).toArray⟩∧Bs=As :=
 CallsS.mk fun W hs=>by
  obtain ⟨m,h0⟩:=hm.keep hs
  have hl:=Zbo Zfb
  have hr:=Zoi hn
  obtain ⟨s,hsd⟩:∃ s,s=textT (manyP 40):=⟨_,rfl⟩
  rw [← hsd] at hl hr ⊢
  clear hsd
  have hsz:(⟨s.toArray⟩:ByteArray).size=s.length:=by simp [ByteArray.size]
  have hnz:(⟨new.toArray⟩:ByteArray).size=new.length:=by simp [ByteArray.size]
  have hle:=Lib.countB_le ⟨#[101,110,100,10]⟩ (by decide) s.length ⟨s.toArray⟩ (by rw [hsz];exact Nat.le_refl _)
  have hmul:Lib.countB ⟨s.toArray⟩ ⟨#[101,110,100,10]⟩ * new.length≤s.length * 1000:=Nat.mul_le_mul (by rw [hsz] at hle;exact hle) hnl
  refine (Tryz.strings_Replace ⟨s.toArray⟩ ⟨#[101,110,100,10]⟩ ⟨new.toArray⟩ 1 m W (by rw [hsz];omega) h0 (by decide) (by rw [hsz,hnz];omega)).mono fun en w' ⟨k1,k2⟩=>?_
  rw [show Lib.replace (⟨s.toArray⟩:ByteArray).data.toList (⟨#[101,110,100,10]⟩:ByteArray).data.toList (⟨new.toArray⟩:ByteArray).data.toList 1=preK++new from hr] at k1
  exact ⟨_,As,k1,⟨rfl,rfl⟩,hs.below k2⟩
theorem Ztd {c:Nat} (hc:c≤1000000000):CallsS Tryz.prog w0 37 [.string ⟨#[120]⟩,.int .i64 (c:Int)] As fun u Bs=>u=.string ⟨(List.replicate c (120:UInt8)).toArray⟩∧Bs=As :=
 CallsS.mk fun w hs=>(Tryz.strings_Repeat ⟨#[120]⟩ c w (by omega) (by show 1 * c≤_;omega)).mono fun en w' ⟨h1,h2⟩=>by
  refine ⟨_,As,h1,⟨?_,rfl⟩,hs.below h2⟩
  have:Lib.repeatL [120] c=List.replicate c (120:UInt8):=by
   have:=Lib.repeatL_replicate 120 1 c
   rwa [Nat.mul_one] at this
  rw [← this]
theorem Zal {P:Program} {N:Ctx} {ops:Array Oper} {Q:Exit→Act→World→Prop} {e:Env} {i d:Nat} {R R':Value→List Ent→Prop} (h:O1 P N w0 ops Q i d e As R) (k:∀ v Bs,R v Bs→∃ Bs',Ents Bs Bs'∧R' v Bs'):O1 P N w0 ops Q i d e As R' :=
 fun a w ha hs=>wpOpIn_mono (fun a' w' ⟨v,Bs,h1,h2,h3⟩=>by
  obtain ⟨Bs',k1,k2⟩:=k v Bs h1
  exact ⟨v,Bs',k2,h2,k1 _ _ h3⟩) (h a w ha hs)
theorem Z0n {P:Program} {N:Ctx} {ops:Array Oper} {Rs:RsP} {i:Nat} {t:Tree} {e:Env} {Bs:List Ent} {Q:Exit→Act→World→Prop} (h:Ents As Bs) (k:T1 P N w0 ops Rs i t e Bs Q):T1 P N w0 ops Rs i t e As Q:=by
 unfold T1 at *
 exact fun h0 fuel listed hd hok a w ha hs=>k h0 fuel listed hd hok a w ha (h w0 w hs)
theorem Z2q {L:List RawP} {i:Nat} {r:RawP} (h:L[i]?=some r):((cPt.flat L).drop (i * 5)).take 5=[.string ⟨r.nm.toArray⟩,.slice r.p r.dev.length r.c,.int .i64 r.l,.int .i64 r.a,.int .i64 r.b]:=by
 have h5:=cPt.flat_take_length h
 rw [cPt.flat_split h]
 rw [show i * 5=(cPt.flat (L.take i)).length by rw [h5];rfl,List.drop_left]
 rfl
set_option maxRecDepth 100000 in
set_option maxHeartbeats 4000000 in
theorem Zzp (ht:Tab w0) (he:ErrR w0) (hm:LenR w0):CallsS Tryz.prog w0 7 [] As fun u _=>u=.bool true:=by
 refine Zab Tryz.func7 rfl Tryz.ntmps7 rfl ?_
 repeat' first|refine Kz ?_|intro _
 refine TL.call rfl rfl rfl (Zhp ht he hm) ?_
 rintro _ As ⟨rfl,rfl⟩
 repeat' first|refine Kz ?_|intro _
 rename_i bA
 refine TL.ents (Zaj (cI .i64) [0,10000,1,9999] rfl rfl rfl) ?_
 refine TL.ents Ents.freeze ?_
 refine Ks rfl Za6 ?_
 repeat' first|refine Kz ?_|intro _
 rename_i b1 bM
 refine Tri.ents (Zaj (n:=0) (cap:=0) cPt [] rfl rfl rfl) ?_
 refine Tri.midB (fun e' As'=>∃ pm cm,e'=[(1,.pointer (some ⟨b1,0,none⟩)),(2,.slice pm 41 cm)]∧As'=.ow cPt 65 (.slice pm 41 cm) (manyR bA 41)::.cl b1 [.string ⟨pzN.toArray⟩,.slice (some ⟨bA,0,none⟩) 4 4,.int .i64 10000,.int .i64 (-12800),.int .i64 12700] 65::.ft (rd (cI .i64) (.slice (some ⟨bA,0,none⟩) 4 4) [0,10000,1,9999])::As) ?_ ?_
 ·refine Tri.loop (ι:=Nat × Value) (fun x=>x.1≤41) (fun x=>41 - x.1) (fun x=>[(1,.pointer (some ⟨b1,0,none⟩)),(2,x.2),(28,.int .i64 (x.1:Int))]) (fun x=>.ow cPt 65 x.2 (manyR bA x.1)::.cl b1 [.string ⟨pzN.toArray⟩,.slice (some ⟨bA,0,none⟩) 4 4,.int .i64 10000,.int .i64 (-12800),.int .i64 12700] 65::.ft (rd (cI .i64) (.slice (some ⟨bA,0,none⟩) 4 4) [0,10000,1,9999])::As) (0,.slice (some ⟨bM,0,none⟩) 0 0) (Nat.zero_le _) (by show Go.Sx.Sub _ [(1,.pointer (some ⟨b1,0,none⟩)),(2,.slice (some ⟨bM,0,none⟩) 0 0),(28,.int .i64 0)];(exact Zad)) (by show Ents (.ow cPt 65 (.slice (some ⟨bM,0,none⟩) 0 0) []::.cl b1 [.string ⟨pzN.toArray⟩,.slice (some ⟨bA,0,none⟩) 4 4,.int .i64 10000,.int .i64 (-12800),.int .i64 12700] 65::.ft (rd (cI .i64) (.slice (some ⟨bA,0,none⟩) 4 4) [0,10000,1,9999])::As) (.ow cPt 65 (.slice (some ⟨bM,0,none⟩) 0 0) []::.cl b1 [.string ⟨pzN.toArray⟩,.slice (some ⟨bA,0,none⟩) 4 4,.int .i64 10000,.int .i64 (-12800),.int .i64 12700] 65::.ft (rd (cI .i64) (.slice (some ⟨bA,0,none⟩) 4 4) [0,10000,1,9999])::As);exact Ents.refl _) ?_
  rintro ⟨i,vm⟩ hi
  simp only at hi
  show Tri _ _ _ _ [(1,.pointer (some ⟨b1,0,none⟩)),(2,vm),(28,.int .i64 (i:Int))] (.ow cPt 65 vm (manyR bA i)::.cl b1 [.string ⟨pzN.toArray⟩,.slice (some ⟨bA,0,none⟩) 4 4,.int .i64 10000,.int .i64 (-12800),.int .i64 12700] 65::.ft (rd (cI .i64) (.slice (some ⟨bA,0,none⟩) 4 4) [0,10000,1,9999])::As) _
  have hml:=Zb3 (bA:=bA) (n:=i)
  have hsn:=Ztu (bA:=bA) (n:=i)
  repeat' first|refine Kz ?_|intro _
  (refine Kx (fun hc=>?_) fun hc=>?_)
  ·obtain ⟨r1,hr1,hr1l⟩:∃ r:Nat,(97:Int)+(i:Int) % 26=(r:Int)∧r=97+i % 26:=⟨_,by push_cast;rfl,rfl⟩
   obtain ⟨r2,hr2,hr2l⟩:∃ r:Nat,(97:Int)+(i:Int) / 26=(r:Int)∧r=97+i / 26:=⟨_,by push_cast;rfl,rfl⟩
   have hnm:[110]++[UInt8.ofNat r1]++[UInt8.ofNat r2]=nmK i:=by rw [hr1l,hr2l];rfl
   repeat' first|refine Kz ?_|intro _
   rw [hr1]
   refine TL.f rfl rfl (Zkw rfl (by omega)) ?_
   repeat' first|refine Kz ?_|intro _
   rw [hr2]
   refine TL.f rfl rfl (Zkw rfl (by omega)) ?_
   refine TL.f rfl rfl (Zpk rfl rfl (Nat.le_of_ble_eq_true rfl)) ?_
   rw [hnm]
   generalize nmK i=nm at *
   haveI dl:DecL cPt [.string ⟨nm.toArray⟩,.slice (some ⟨bA,0,none⟩) 4 4,.int .i64 10000,.int .i64 (-12800),.int .i64 12700] ⟨nm,some ⟨bA,0,none⟩,4,[0,10000,1,9999],10000,-12800,12700⟩:=⟨rfl⟩
   repeat' first|refine Kz ?_|intro _
   rename_i v48
   rw [← hsn]
   exact Post.round (i+1,v48) (by show i+1≤41;omega) (by show 41 - (i+1) < 41 - i;omega) (by show Go.Sx.Sub _ [(1,.pointer (some ⟨b1,0,none⟩)),(2,v48),(28,.int .i64 ((i+1:Nat):Int))];(exact Zad)) (by show Ents _ (.ow cPt 65 v48 (manyR bA (i+1))::.cl b1 [.string ⟨pzN.toArray⟩,.slice (some ⟨bA,0,none⟩) 4 4,.int .i64 10000,.int .i64 (-12800),.int .i64 12700] 65::.ft (rd (cI .i64) (.slice (some ⟨bA,0,none⟩) 4 4) [0,10000,1,9999])::As);(exact Zaa))
  ·have:i=41:=by omega
   subst this
   refine Znc (c:=cPt) (xs:=manyR bA 41) vm ?_
   rintro pm cm rfl
   rw [Zb3]
   repeat' first|refine Kz ?_|intro _
   exact Post.cut _ _ ⟨pm,cm,rfl,rfl⟩ Zad Zaa
 rintro _ _ ⟨pm,cm,rfl,rfl⟩
 have iA:∀ Bs [RdIn Bs (.slice (some ⟨bA,0,none⟩) 4 4) Int (cI .i64) [0,10000,1,9999]],DevIn Bs [pzR bA]:=fun Bs h r hr=>by rw [List.mem_singleton.1 hr];exact h
 have hpzS:Shr [pzR bA]:=⟨Nat.le_of_ble_eq_true rfl,fun r hr=>by rw [List.mem_singleton.1 hr];exact Nat.le_of_ble_eq_true rfl⟩
 have hto:textO31 ([pzR bA].map ppOf)=(textT [pz],0):=(show textO31 [pz]=_ by unfold textO31;rw [Zvq];rfl)
 haveI rnil:∀ Bs,RdIn Bs (.slice none 0 0) RawP cPt []:=fun Bs=>⟨fun _ _ _=>.inl ⟨⟨none,rfl⟩,rfl⟩⟩
 haveI rk40:∀ Bs [RdIn Bs (.slice pm 41 cm) RawP cPt (manyR bA 41)],RdIn Bs (.slice pm 40 cm) RawP cPt (manyR bA 40):=fun Bs h=>by have:=RdIn.take (h:=h) (k:=40) (by rw [Zb3];decide);rwa [Zef (by decide)] at this
 haveI rk0:∀ Bs [RdIn Bs (.slice pm 41 cm) RawP cPt (manyR bA 41)],RdIn Bs (.slice pm 0 cm) RawP cPt (manyR bA 0):=fun Bs h=>by have:=RdIn.take (h:=h) (k:=0) (by rw [Zb3];decide);rwa [Zef (by decide)] at this
 haveI rk1:∀ Bs [RdIn Bs (.slice pm 41 cm) RawP cPt (manyR bA 41)],RdIn Bs (.slice pm 1 cm) RawP cPt (manyR bA 1):=fun Bs h=>by have:=RdIn.take (h:=h) (k:=1) (by rw [Zb3];decide);rwa [Zef (by decide)] at this
 haveI rk2:∀ Bs [RdIn Bs (.slice pm 41 cm) RawP cPt (manyR bA 41)],RdIn Bs (.slice pm 2 cm) RawP cPt (manyR bA 2):=fun Bs h=>by have:=RdIn.take (h:=h) (k:=2) (by rw [Zb3];decide);rwa [Zef (by decide)] at this
 have hm41:=Zb3 (bA:=bA) (n:=41)
 repeat' first|refine Kz ?_|intro _
 rename_i bT
 refine TL.ents (Zaj cPt [pzR bA] rfl rfl rfl) ?_
 refine Ks rfl (Zeb ht (v:=.slice (some ⟨bT,0,none⟩) 1 1) (L:=[pzR bA]) (iA _) hpzS) ?_
 rw [hto]
 have hptx:=Z2d
 have htl:=Zbo Zvq
 have hl2:=Zm0
 have c1:checkP ([pzR bA].map ppOf)=true:=Zvq
 have c40:checkP ((manyR bA 40).map ppOf)=true:=by rw [Zg7];exact Zfb
 have c41:checkP ((manyR bA 41).map ppOf)=false:=by rw [Zg7];exact Z2j
 have c0:checkP (([]:List RawP).map ppOf)=false:=rfl
 have q0:(([]:List RawP).map ppOf)=(manyR bA 0).map ppOf:=rfl
 have q12:¬ (manyR bA 1).map ppOf=(manyR bA 2).map ppOf:=fun h=>by have:=congrArg List.length h;rw [List.length_map,List.length_map,Zb3,Zb3] at this;cases this
 have iM:∀ Bs [RdIn Bs (.slice (some ⟨bA,0,none⟩) 4 4) Int (cI .i64) [0,10000,1,9999]] n,DevIn Bs (manyR bA n):=fun Bs h n=>Zv9 h
 have iN:∀ Bs,DevIn Bs []:=fun Bs r hr=>by cases hr
 have sN:Shr []:=⟨by decide,fun r hr=>by cases hr⟩
 have fN:Fwd []:=⟨by decide,fun r hr=>by cases hr⟩
 repeat' first|refine Kz ?_|intro _
 refine Tri.mid (fun e' As'=>e'=[(1,.pointer (some ⟨b1,0,none⟩)),(2,.slice pm 41 cm),(5,.string ⟨(textT [pz]).toArray⟩),(7,.bool true)]∧As'=.ow cPt 65 (.slice pm 41 cm) (manyR bA 41)::.cl b1 [.string ⟨pzN.toArray⟩,.slice (some ⟨bA,0,none⟩) 4 4,.int .i64 10000,.int .i64 (-12800),.int .i64 12700] 65::.ft (rd (cI .i64) (.slice (some ⟨bA,0,none⟩) 4 4) [0,10000,1,9999])::As) ?_ ?_
 ·refine Zao (.take 0 (.take 1 (.take 2 (.take 3 (.take 4 (.take 5 (.take 6 (.take 7 (.all [(8,.all [(9,.take 10 (.take 11 (.take 12 (.take 13 (.take 14 (.all [(15,.take 16 (.take 17 (.take 18 (.take 19 (.all [(20,.take 21 (.take 22 (.take 23 (.all [(24,.take 25 (.take 26 (.take 27 (.take 28 (.take 29 (.all [(30,.take 31 (.take 32 (.take 33 (.take 34 (.take 35 (.take 36 (.all [(37,.take 38 (.take 39 (.take 40 (.done))))])))))))]))))))]))))])))))]))))))])]))))))))) ?_
  repeat' first|refine Kf ?_|intro _|constructor
  rename_i bC
  refine Z0n (Zaj cPt [pzR bA] rfl rfl rfl) ?_
  refine Ku rfl (Zc6 (v:=.slice (some ⟨bC,0,none⟩) 1 1) (L:=[pzR bA]) (iA _) hpzS) ?_
  rw [if_pos c1]
  repeat' first|refine Kf ?_|intro _|constructor
  refine TT.take rfl rfl rfl (Zdp (hi:=40) rfl (Zb5 rfl) (by omega)) ?_
  repeat' first|refine Kf ?_|intro _|constructor
  refine Ku rfl (Zc6 (v:=.slice pm 40 cm) (L:=manyR bA 40) (iM _ 40) (Zg6 (by decide))) ?_
  rw [if_pos c40]
  repeat' first|refine Kf ?_|intro _|constructor
  refine Ku rfl (Zc6 (v:=.slice pm 41 cm) (L:=manyR bA 41) (iM _ 41) (Zg6 (by decide))) ?_
  rw [if_neg (by rw [c41];decide)]
  repeat' first|refine Kf ?_|intro _|constructor
  refine Ku rfl (Zc6 (v:=.slice none 0 0) (L:=[]) (iN _) sN) ?_
  rw [if_neg (by rw [c0];decide)]
  repeat' first|refine Kf ?_|intro _|constructor
  refine TT.take rfl rfl rfl (Zdp (hi:=0) rfl (Zb5 rfl) (by omega)) ?_
  repeat' first|refine Kf ?_|intro _|constructor
  refine Ku rfl (Zix (v:=.slice none 0 0) (u:=.slice pm 0 cm) (A:=[]) (B:=manyR bA 0) (iN _) (iM _ 0) fN (Zg8 (by decide))) ?_
  rw [decide_eq_true q0]
  repeat' first|refine Kf ?_|intro _|constructor
  refine TT.take rfl rfl rfl (Zdp (hi:=1) rfl (Zb5 rfl) (by omega)) ?_
  repeat' first|refine Kf ?_|intro _|constructor
  refine TT.take rfl rfl rfl (Zdp (hi:=2) rfl (Zb5 rfl) (by omega)) ?_
  repeat' first|refine Kf ?_|intro _|constructor
  refine Ku rfl (Zix (v:=.slice pm 1 cm) (u:=.slice pm 2 cm) (A:=manyR bA 1) (B:=manyR bA 2) (iM _ 1) (iM _ 2) (Zg8 (by decide)) (Zg8 (by decide))) ?_
  rw [decide_eq_false q12]
  repeat' first|refine Kf ?_|intro _|constructor
  exact Post.cut _ _ ⟨rfl,rfl⟩ Zad Zaa
 rintro _ _ ⟨rfl,rfl⟩
 repeat' first|refine Kz ?_|intro _
 refine Tri.mid (fun e' As'=>∃ c:Nat→Nat,e'=[(1,.pointer (some ⟨b1,0,none⟩)),(2,.slice pm 41 cm),(5,.string ⟨(textT [pz]).toArray⟩),(7,.bool true),(141,.agg (cPt.flat (L13 c)).toArray),(142,.int .i64 0)]∧As'=.ft (devPF (L13 c))::.ow cPt 65 (.slice pm 41 cm) (manyR bA 41)::.cl b1 [.string ⟨pzN.toArray⟩,.slice (some ⟨bA,0,none⟩) 4 4,.int .i64 10000,.int .i64 (-12800),.int .i64 12700] 65::.ft (rd (cI .i64) (.slice (some ⟨bA,0,none⟩) 4 4) [0,10000,1,9999])::As) ?_ ?_
 ·refine Zxi (d0:=96) (outs:=[45,46]) (e0:=[(1,.pointer (some ⟨b1,0,none⟩)),(2,.slice pm 41 cm),(5,.string ⟨(textT [pz]).toArray⟩),(7,.bool true)]) D14 X14 (V14 b1) (by kernel_rfl) rfl rfl Zad (by intro j hj;simp only [List.mem_cons,List.not_mem_nil,or_false] at hj;rcases hj with rfl|rfl<;>decide) Z25 ?_ ?_
  ·intro i hi val F hrel
   match i,hi with
   | 0,_=>exact Zal (O1.f (v:=.pointer (some ⟨b1,2,none⟩)) rfl (by (exact Zb0))) fun v Bs h=>⟨Bs,Ents.refl _,h⟩
   | 1,_ =>
    have h0:val 0=.pointer (some ⟨b1,2,none⟩):=hrel 0 (by decide)
    show O1 _ _ _ _ _ _ _ [(96,val 0),_,_,_,_] _ _
    rw [h0]
    exact Zal (O1.f (v:=.agg #[.int .i64 10000,.int .i64 (-12800),.int .i64 12700]) rfl (by (exact Zb0))) fun v Bs h=>⟨Bs,Ents.refl _,h⟩
   | 2,_ =>
    refine Zal (R:=RB (fun b=>.slice (some ⟨b,0,none⟩) 1 1) (fun b=>.cl b [.int .i64 0] 3::.ft F::(.ow cPt 65 (.slice pm 41 cm) (manyR bA 41)::.cl b1 [.string ⟨pzN.toArray⟩,.slice (some ⟨bA,0,none⟩) 4 4,.int .i64 10000,.int .i64 (-12800),.int .i64 12700] 65::.ft (rd (cI .i64) (.slice (some ⟨bA,0,none⟩) 4 4) [0,10000,1,9999])::As))) (Zh8 rfl (Za1 (n:=1) (vs:=[.int .i64 0]) (l:=[.int .i64 0]) rfl rfl rfl (fun w=>by kernel_rfl))) fun v Bs h=>?_
    obtain ⟨c,h1,h2⟩:=h
    exact ⟨_,by rw [h2];exact Ents.trans (Zaj (cI .i64) [0] rfl rfl rfl) Ents.freeze,c,h1,rfl⟩
   | 3,_ =>
    have h1:val 1=.agg #[.int .i64 10000,.int .i64 (-12800),.int .i64 12700]:=hrel 1 (by decide)
    obtain ⟨c,h2⟩:∃ c,val 2=.slice (some ⟨c,0,none⟩) 1 1:=hrel 2 (by decide)
    refine Zal (O1.call (vs':=[.string ⟨([]:List UInt8).toArray⟩,.agg #[.int .i64 10000,.int .i64 (-12800),.int .i64 12700],.slice (some ⟨c,0,none⟩) 1 1]) rfl rfl (by rw [← h1,← h2];try rfl) Za6) fun v Bs ⟨g1,g2⟩=>⟨Bs,Ents.refl _,?_,g2⟩
    rw [g1,← h2];rfl
   | 4,_=>exact Zal (O1.f (v:=.pointer (some ⟨b1,2,none⟩)) rfl (by (exact Zb0))) fun v Bs h=>⟨Bs,Ents.refl _,h⟩
   | 5,_ =>
    have h0:val 4=.pointer (some ⟨b1,2,none⟩):=hrel 4 (by decide)
    show O1 _ _ _ _ _ _ _ [(100,val 4),_,_,_,_] _ _
    rw [h0]
    exact Zal (O1.f (v:=.agg #[.int .i64 10000,.int .i64 (-12800),.int .i64 12700]) rfl (by (exact Zb0))) fun v Bs h=>⟨Bs,Ents.refl _,h⟩
   | 6,_ =>
    refine Zal (R:=RB (fun b=>.slice (some ⟨b,0,none⟩) 1 1) (fun b=>.cl b [.int .i64 0] 3::.ft F::(.ow cPt 65 (.slice pm 41 cm) (manyR bA 41)::.cl b1 [.string ⟨pzN.toArray⟩,.slice (some ⟨bA,0,none⟩) 4 4,.int .i64 10000,.int .i64 (-12800),.int .i64 12700] 65::.ft (rd (cI .i64) (.slice (some ⟨bA,0,none⟩) 4 4) [0,10000,1,9999])::As))) (Zh8 rfl (Za1 (n:=1) (vs:=[.int .i64 0]) (l:=[.int .i64 0]) rfl rfl rfl (fun w=>by kernel_rfl))) fun v Bs h=>?_
    obtain ⟨c,h1,h2⟩:=h
    exact ⟨_,by rw [h2];exact Ents.trans (Zaj (cI .i64) [0] rfl rfl rfl) Ents.freeze,c,h1,rfl⟩
   | 7,_ =>
    have h1:val 5=.agg #[.int .i64 10000,.int .i64 (-12800),.int .i64 12700]:=hrel 5 (by decide)
    obtain ⟨c,h2⟩:∃ c,val 6=.slice (some ⟨c,0,none⟩) 1 1:=hrel 6 (by decide)
    refine Zal (O1.call (vs':=[.string ⟨([65,122,48,57,45,95,97,98,99,100,101,102,103]:List UInt8).toArray⟩,.agg #[.int .i64 10000,.int .i64 (-12800),.int .i64 12700],.slice (some ⟨c,0,none⟩) 1 1]) rfl rfl (by rw [← h1,← h2];try rfl) Za6) fun v Bs ⟨g1,g2⟩=>⟨Bs,Ents.refl _,?_,g2⟩
    rw [g1,← h2];rfl
   | 8,_=>exact Zal (O1.f (v:=.pointer (some ⟨b1,2,none⟩)) rfl (by (exact Zb0))) fun v Bs h=>⟨Bs,Ents.refl _,h⟩
   | 9,_ =>
    have h0:val 8=.pointer (some ⟨b1,2,none⟩):=hrel 8 (by decide)
    show O1 _ _ _ _ _ _ _ [(104,val 8),_,_,_,_] _ _
    rw [h0]
    exact Zal (O1.f (v:=.agg #[.int .i64 10000,.int .i64 (-12800),.int .i64 12700]) rfl (by (exact Zb0))) fun v Bs h=>⟨Bs,Ents.refl _,h⟩
   | 10,_ =>
    refine Zal (R:=RB (fun b=>.slice (some ⟨b,0,none⟩) 1 1) (fun b=>.cl b [.int .i64 0] 3::.ft F::(.ow cPt 65 (.slice pm 41 cm) (manyR bA 41)::.cl b1 [.string ⟨pzN.toArray⟩,.slice (some ⟨bA,0,none⟩) 4 4,.int .i64 10000,.int .i64 (-12800),.int .i64 12700] 65::.ft (rd (cI .i64) (.slice (some ⟨bA,0,none⟩) 4 4) [0,10000,1,9999])::As))) (Zh8 rfl (Za1 (n:=1) (vs:=[.int .i64 0]) (l:=[.int .i64 0]) rfl rfl rfl (fun w=>by kernel_rfl))) fun v Bs h=>?_
    obtain ⟨c,h1,h2⟩:=h
    exact ⟨_,by rw [h2];exact Ents.trans (Zaj (cI .i64) [0] rfl rfl rfl) Ents.freeze,c,h1,rfl⟩
   | 11,_ =>
    have h1:val 9=.agg #[.int .i64 10000,.int .i64 (-12800),.int .i64 12700]:=hrel 9 (by decide)
    obtain ⟨c,h2⟩:∃ c,val 10=.slice (some ⟨c,0,none⟩) 1 1:=hrel 10 (by decide)
    refine Zal (O1.call (vs':=[.string ⟨([97,32,98]:List UInt8).toArray⟩,.agg #[.int .i64 10000,.int .i64 (-12800),.int .i64 12700],.slice (some ⟨c,0,none⟩) 1 1]) rfl rfl (by rw [← h1,← h2];try rfl) Za6) fun v Bs ⟨g1,g2⟩=>⟨Bs,Ents.refl _,?_,g2⟩
    rw [g1,← h2];rfl
   | 12,_=>exact Zal (O1.f (v:=.pointer (some ⟨b1,2,none⟩)) rfl (by (exact Zb0))) fun v Bs h=>⟨Bs,Ents.refl _,h⟩
   | 13,_ =>
    have h0:val 12=.pointer (some ⟨b1,2,none⟩):=hrel 12 (by decide)
    show O1 _ _ _ _ _ _ _ [(108,val 12),_,_,_,_] _ _
    rw [h0]
    exact Zal (O1.f (v:=.agg #[.int .i64 10000,.int .i64 (-12800),.int .i64 12700]) rfl (by (exact Zb0))) fun v Bs h=>⟨Bs,Ents.refl _,h⟩
   | 14,_ =>
    have h1:val 13=.agg #[.int .i64 10000,.int .i64 (-12800),.int .i64 12700]:=hrel 13 (by decide)
    refine Zal (O1.call (vs':=[.string ⟨([97]:List UInt8).toArray⟩,.agg #[.int .i64 10000,.int .i64 (-12800),.int .i64 12700],.slice none 0 0]) rfl rfl (by rw [← h1];try rfl) Za6) fun v Bs ⟨g1,g2⟩=>⟨Bs,Ents.refl _,?_,g2⟩
    rw [g1];rfl
   | 15,_=>exact Zal (O1.f (v:=.pointer (some ⟨b1,2,none⟩)) rfl (by (exact Zb0))) fun v Bs h=>⟨Bs,Ents.refl _,h⟩
   | 16,_ =>
    have h0:val 15=.pointer (some ⟨b1,2,none⟩):=hrel 15 (by decide)
    show O1 _ _ _ _ _ _ _ [(111,val 15),_,_,_,_] _ _
    rw [h0]
    exact Zal (O1.f (v:=.agg #[.int .i64 10000,.int .i64 (-12800),.int .i64 12700]) rfl (by (exact Zb0))) fun v Bs h=>⟨Bs,Ents.refl _,h⟩
   | 17,_ =>
    refine Zal (R:=RB (fun b=>.slice (some ⟨b,0,none⟩) 5 5) (fun b=>.cl b [.int .i64 0,.int .i64 0,.int .i64 0,.int .i64 0,.int .i64 0] 3::.ft F::(.ow cPt 65 (.slice pm 41 cm) (manyR bA 41)::.cl b1 [.string ⟨pzN.toArray⟩,.slice (some ⟨bA,0,none⟩) 4 4,.int .i64 10000,.int .i64 (-12800),.int .i64 12700] 65::.ft (rd (cI .i64) (.slice (some ⟨bA,0,none⟩) 4 4) [0,10000,1,9999])::As))) (Zh8 rfl (Za1 (n:=1) (vs:=[.int .i64 0,.int .i64 0,.int .i64 0,.int .i64 0,.int .i64 0]) (l:=[.int .i64 0,.int .i64 0,.int .i64 0,.int .i64 0,.int .i64 0]) rfl rfl rfl (fun w=>by kernel_rfl))) fun v Bs h=>?_
    obtain ⟨c,h1,h2⟩:=h
    exact ⟨_,by rw [h2];exact Ents.trans (Zaj (cI .i64) [0,0,0,0,0] rfl rfl rfl) Ents.freeze,c,h1,rfl⟩
   | 18,_ =>
    have h1:val 16=.agg #[.int .i64 10000,.int .i64 (-12800),.int .i64 12700]:=hrel 16 (by decide)
    obtain ⟨c,h2⟩:∃ c,val 17=.slice (some ⟨c,0,none⟩) 5 5:=hrel 17 (by decide)
    refine Zal (O1.call (vs':=[.string ⟨([97]:List UInt8).toArray⟩,.agg #[.int .i64 10000,.int .i64 (-12800),.int .i64 12700],.slice (some ⟨c,0,none⟩) 5 5]) rfl rfl (by rw [← h1,← h2];try rfl) Za6) fun v Bs ⟨g1,g2⟩=>⟨Bs,Ents.refl _,?_,g2⟩
    rw [g1,← h2];rfl
   | 19,_=>exact Zal (O1.f (v:=.pointer (some ⟨b1,2,none⟩)) rfl (by (exact Zb0))) fun v Bs h=>⟨Bs,Ents.refl _,h⟩
   | 20,_ =>
    have h0:val 19=.pointer (some ⟨b1,2,none⟩):=hrel 19 (by decide)
    show O1 _ _ _ _ _ _ _ [(115,val 19),_,_,_,_] _ _
    rw [h0]
    exact Zal (O1.f (v:=.agg #[.int .i64 10000,.int .i64 (-12800),.int .i64 12700]) rfl (by (exact Zb0))) fun v Bs h=>⟨Bs,Ents.refl _,h⟩
   | 21,_ =>
    refine Zal (R:=RB (fun b=>.slice (some ⟨b,0,none⟩) 1 1) (fun b=>.cl b [.int .i64 (-1)] 3::.ft F::(.ow cPt 65 (.slice pm 41 cm) (manyR bA 41)::.cl b1 [.string ⟨pzN.toArray⟩,.slice (some ⟨bA,0,none⟩) 4 4,.int .i64 10000,.int .i64 (-12800),.int .i64 12700] 65::.ft (rd (cI .i64) (.slice (some ⟨bA,0,none⟩) 4 4) [0,10000,1,9999])::As))) (Zh8 rfl (Za1 (n:=1) (vs:=[.int .i64 (-1)]) (l:=[.int .i64 (-1)]) rfl rfl rfl (fun w=>by kernel_rfl))) fun v Bs h=>?_
    obtain ⟨c,h1,h2⟩:=h
    exact ⟨_,by rw [h2];exact Ents.trans (Zaj (cI .i64) [(-1)] rfl rfl rfl) Ents.freeze,c,h1,rfl⟩
   | 22,_ =>
    have h1:val 20=.agg #[.int .i64 10000,.int .i64 (-12800),.int .i64 12700]:=hrel 20 (by decide)
    obtain ⟨c,h2⟩:∃ c,val 21=.slice (some ⟨c,0,none⟩) 1 1:=hrel 21 (by decide)
    refine Zal (O1.call (vs':=[.string ⟨([97]:List UInt8).toArray⟩,.agg #[.int .i64 10000,.int .i64 (-12800),.int .i64 12700],.slice (some ⟨c,0,none⟩) 1 1]) rfl rfl (by rw [← h1,← h2];try rfl) Za6) fun v Bs ⟨g1,g2⟩=>⟨Bs,Ents.refl _,?_,g2⟩
    rw [g1,← h2];rfl
   | 23,_=>exact Zal (O1.f (v:=.pointer (some ⟨b1,2,none⟩)) rfl (by (exact Zb0))) fun v Bs h=>⟨Bs,Ents.refl _,h⟩
   | 24,_ =>
    have h0:val 23=.pointer (some ⟨b1,2,none⟩):=hrel 23 (by decide)
    show O1 _ _ _ _ _ _ _ [(119,val 23),_,_,_,_] _ _
    rw [h0]
    exact Zal (O1.f (v:=.agg #[.int .i64 10000,.int .i64 (-12800),.int .i64 12700]) rfl (by (exact Zb0))) fun v Bs h=>⟨Bs,Ents.refl _,h⟩
   | 25,_ =>
    refine Zal (R:=RB (fun b=>.slice (some ⟨b,0,none⟩) 1 1) (fun b=>.cl b [.int .i64 10001] 3::.ft F::(.ow cPt 65 (.slice pm 41 cm) (manyR bA 41)::.cl b1 [.string ⟨pzN.toArray⟩,.slice (some ⟨bA,0,none⟩) 4 4,.int .i64 10000,.int .i64 (-12800),.int .i64 12700] 65::.ft (rd (cI .i64) (.slice (some ⟨bA,0,none⟩) 4 4) [0,10000,1,9999])::As))) (Zh8 rfl (Za1 (n:=1) (vs:=[.int .i64 10001]) (l:=[.int .i64 10001]) rfl rfl rfl (fun w=>by kernel_rfl))) fun v Bs h=>?_
    obtain ⟨c,h1,h2⟩:=h
    exact ⟨_,by rw [h2];exact Ents.trans (Zaj (cI .i64) [10001] rfl rfl rfl) Ents.freeze,c,h1,rfl⟩
   | 26,_ =>
    have h1:val 24=.agg #[.int .i64 10000,.int .i64 (-12800),.int .i64 12700]:=hrel 24 (by decide)
    obtain ⟨c,h2⟩:∃ c,val 25=.slice (some ⟨c,0,none⟩) 1 1:=hrel 25 (by decide)
    refine Zal (O1.call (vs':=[.string ⟨([97]:List UInt8).toArray⟩,.agg #[.int .i64 10000,.int .i64 (-12800),.int .i64 12700],.slice (some ⟨c,0,none⟩) 1 1]) rfl rfl (by rw [← h1,← h2];try rfl) Za6) fun v Bs ⟨g1,g2⟩=>⟨Bs,Ents.refl _,?_,g2⟩
    rw [g1,← h2];rfl
   | 27,_=>exact Zal (O1.f rfl (ExF.build (vs:=[.int .i64 (-1)]) (l:=[.int .i64 (-1),.int .i64 0,.int .i64 0]) rfl (fun w=>by kernel_rfl))) fun v Bs h=>⟨Bs,Ents.refl _,h⟩
   | 28,_ =>
    refine Zal (R:=RB (fun b=>.slice (some ⟨b,0,none⟩) 1 1) (fun b=>.cl b [.int .i64 0] 3::.ft F::(.ow cPt 65 (.slice pm 41 cm) (manyR bA 41)::.cl b1 [.string ⟨pzN.toArray⟩,.slice (some ⟨bA,0,none⟩) 4 4,.int .i64 10000,.int .i64 (-12800),.int .i64 12700] 65::.ft (rd (cI .i64) (.slice (some ⟨bA,0,none⟩) 4 4) [0,10000,1,9999])::As))) (Zh8 rfl (Za1 (n:=1) (vs:=[.int .i64 0]) (l:=[.int .i64 0]) rfl rfl rfl (fun w=>by kernel_rfl))) fun v Bs h=>?_
    obtain ⟨c,h1,h2⟩:=h
    exact ⟨_,by rw [h2];exact Ents.trans (Zaj (cI .i64) [0] rfl rfl rfl) Ents.freeze,c,h1,rfl⟩
   | 29,_ =>
    have h1:val 27=.agg #[.int .i64 (-1),.int .i64 0,.int .i64 0]:=hrel 27 (by decide)
    obtain ⟨c,h2⟩:∃ c,val 28=.slice (some ⟨c,0,none⟩) 1 1:=hrel 28 (by decide)
    refine Zal (O1.call (vs':=[.string ⟨([97]:List UInt8).toArray⟩,.agg #[.int .i64 (-1),.int .i64 0,.int .i64 0],.slice (some ⟨c,0,none⟩) 1 1]) rfl rfl (by rw [← h1,← h2];try rfl) Za6) fun v Bs ⟨g1,g2⟩=>⟨Bs,Ents.refl _,?_,g2⟩
    rw [g1,← h2];rfl
   | 30,_=>exact Zal (O1.f rfl (ExF.build (vs:=[.int .i64 10001]) (l:=[.int .i64 10001,.int .i64 0,.int .i64 0]) rfl (fun w=>by kernel_rfl))) fun v Bs h=>⟨Bs,Ents.refl _,h⟩
   | 31,_ =>
    refine Zal (R:=RB (fun b=>.slice (some ⟨b,0,none⟩) 1 1) (fun b=>.cl b [.int .i64 0] 3::.ft F::(.ow cPt 65 (.slice pm 41 cm) (manyR bA 41)::.cl b1 [.string ⟨pzN.toArray⟩,.slice (some ⟨bA,0,none⟩) 4 4,.int .i64 10000,.int .i64 (-12800),.int .i64 12700] 65::.ft (rd (cI .i64) (.slice (some ⟨bA,0,none⟩) 4 4) [0,10000,1,9999])::As))) (Zh8 rfl (Za1 (n:=1) (vs:=[.int .i64 0]) (l:=[.int .i64 0]) rfl rfl rfl (fun w=>by kernel_rfl))) fun v Bs h=>?_
    obtain ⟨c,h1,h2⟩:=h
    exact ⟨_,by rw [h2];exact Ents.trans (Zaj (cI .i64) [0] rfl rfl rfl) Ents.freeze,c,h1,rfl⟩
   | 32,_ =>
    have h1:val 30=.agg #[.int .i64 10001,.int .i64 0,.int .i64 0]:=hrel 30 (by decide)
    obtain ⟨c,h2⟩:∃ c,val 31=.slice (some ⟨c,0,none⟩) 1 1:=hrel 31 (by decide)
    refine Zal (O1.call (vs':=[.string ⟨([97]:List UInt8).toArray⟩,.agg #[.int .i64 10001,.int .i64 0,.int .i64 0],.slice (some ⟨c,0,none⟩) 1 1]) rfl rfl (by rw [← h1,← h2];try rfl) Za6) fun v Bs ⟨g1,g2⟩=>⟨Bs,Ents.refl _,?_,g2⟩
    rw [g1,← h2];rfl
   | 33,_=>exact Zal (O1.f rfl (ExF.build (vs:=[.int .i64 0,.int .i64 (-12801)]) (l:=[.int .i64 0,.int .i64 (-12801),.int .i64 0]) rfl (fun w=>by kernel_rfl))) fun v Bs h=>⟨Bs,Ents.refl _,h⟩
   | 34,_ =>
    refine Zal (R:=RB (fun b=>.slice (some ⟨b,0,none⟩) 1 1) (fun b=>.cl b [.int .i64 0] 3::.ft F::(.ow cPt 65 (.slice pm 41 cm) (manyR bA 41)::.cl b1 [.string ⟨pzN.toArray⟩,.slice (some ⟨bA,0,none⟩) 4 4,.int .i64 10000,.int .i64 (-12800),.int .i64 12700] 65::.ft (rd (cI .i64) (.slice (some ⟨bA,0,none⟩) 4 4) [0,10000,1,9999])::As))) (Zh8 rfl (Za1 (n:=1) (vs:=[.int .i64 0]) (l:=[.int .i64 0]) rfl rfl rfl (fun w=>by kernel_rfl))) fun v Bs h=>?_
    obtain ⟨c,h1,h2⟩:=h
    exact ⟨_,by rw [h2];exact Ents.trans (Zaj (cI .i64) [0] rfl rfl rfl) Ents.freeze,c,h1,rfl⟩
   | 35,_ =>
    have h1:val 33=.agg #[.int .i64 0,.int .i64 (-12801),.int .i64 0]:=hrel 33 (by decide)
    obtain ⟨c,h2⟩:∃ c,val 34=.slice (some ⟨c,0,none⟩) 1 1:=hrel 34 (by decide)
    refine Zal (O1.call (vs':=[.string ⟨([97]:List UInt8).toArray⟩,.agg #[.int .i64 0,.int .i64 (-12801),.int .i64 0],.slice (some ⟨c,0,none⟩) 1 1]) rfl rfl (by rw [← h1,← h2];try rfl) Za6) fun v Bs ⟨g1,g2⟩=>⟨Bs,Ents.refl _,?_,g2⟩
    rw [g1,← h2];rfl
   | 36,_=>exact Zal (O1.f rfl (ExF.build (vs:=[.int .i64 0,.int .i64 12701]) (l:=[.int .i64 0,.int .i64 12701,.int .i64 0]) rfl (fun w=>by kernel_rfl))) fun v Bs h=>⟨Bs,Ents.refl _,h⟩
   | 37,_ =>
    refine Zal (R:=RB (fun b=>.slice (some ⟨b,0,none⟩) 1 1) (fun b=>.cl b [.int .i64 0] 3::.ft F::(.ow cPt 65 (.slice pm 41 cm) (manyR bA 41)::.cl b1 [.string ⟨pzN.toArray⟩,.slice (some ⟨bA,0,none⟩) 4 4,.int .i64 10000,.int .i64 (-12800),.int .i64 12700] 65::.ft (rd (cI .i64) (.slice (some ⟨bA,0,none⟩) 4 4) [0,10000,1,9999])::As))) (Zh8 rfl (Za1 (n:=1) (vs:=[.int .i64 0]) (l:=[.int .i64 0]) rfl rfl rfl (fun w=>by kernel_rfl))) fun v Bs h=>?_
    obtain ⟨c,h1,h2⟩:=h
    exact ⟨_,by rw [h2];exact Ents.trans (Zaj (cI .i64) [0] rfl rfl rfl) Ents.freeze,c,h1,rfl⟩
   | 38,_ =>
    have h1:val 36=.agg #[.int .i64 0,.int .i64 12701,.int .i64 0]:=hrel 36 (by decide)
    obtain ⟨c,h2⟩:∃ c,val 37=.slice (some ⟨c,0,none⟩) 1 1:=hrel 37 (by decide)
    refine Zal (O1.call (vs':=[.string ⟨([97]:List UInt8).toArray⟩,.agg #[.int .i64 0,.int .i64 12701,.int .i64 0],.slice (some ⟨c,0,none⟩) 1 1]) rfl rfl (by rw [← h1,← h2];try rfl) Za6) fun v Bs ⟨g1,g2⟩=>⟨Bs,Ents.refl _,?_,g2⟩
    rw [g1,← h2];rfl
   | 39,_=>exact Zal (O1.f rfl (ExF.build (vs:=[.int .i64 0,.int .i64 0,.int .i64 (-12801)]) (l:=[.int .i64 0,.int .i64 0,.int .i64 (-12801)]) rfl (fun w=>by kernel_rfl))) fun v Bs h=>⟨Bs,Ents.refl _,h⟩
   | 40,_ =>
    refine Zal (R:=RB (fun b=>.slice (some ⟨b,0,none⟩) 1 1) (fun b=>.cl b [.int .i64 0] 3::.ft F::(.ow cPt 65 (.slice pm 41 cm) (manyR bA 41)::.cl b1 [.string ⟨pzN.toArray⟩,.slice (some ⟨bA,0,none⟩) 4 4,.int .i64 10000,.int .i64 (-12800),.int .i64 12700] 65::.ft (rd (cI .i64) (.slice (some ⟨bA,0,none⟩) 4 4) [0,10000,1,9999])::As))) (Zh8 rfl (Za1 (n:=1) (vs:=[.int .i64 0]) (l:=[.int .i64 0]) rfl rfl rfl (fun w=>by kernel_rfl))) fun v Bs h=>?_
    obtain ⟨c,h1,h2⟩:=h
    exact ⟨_,by rw [h2];exact Ents.trans (Zaj (cI .i64) [0] rfl rfl rfl) Ents.freeze,c,h1,rfl⟩
   | 41,_ =>
    have h1:val 39=.agg #[.int .i64 0,.int .i64 0,.int .i64 (-12801)]:=hrel 39 (by decide)
    obtain ⟨c,h2⟩:∃ c,val 40=.slice (some ⟨c,0,none⟩) 1 1:=hrel 40 (by decide)
    refine Zal (O1.call (vs':=[.string ⟨([97]:List UInt8).toArray⟩,.agg #[.int .i64 0,.int .i64 0,.int .i64 (-12801)],.slice (some ⟨c,0,none⟩) 1 1]) rfl rfl (by rw [← h1,← h2];try rfl) Za6) fun v Bs ⟨g1,g2⟩=>⟨Bs,Ents.refl _,?_,g2⟩
    rw [g1,← h2];rfl
   | 42,_=>exact Zal (O1.f rfl (ExF.build (vs:=[.int .i64 0,.int .i64 0,.int .i64 12701]) (l:=[.int .i64 0,.int .i64 0,.int .i64 12701]) rfl (fun w=>by kernel_rfl))) fun v Bs h=>⟨Bs,Ents.refl _,h⟩
   | 43,_ =>
    refine Zal (R:=RB (fun b=>.slice (some ⟨b,0,none⟩) 1 1) (fun b=>.cl b [.int .i64 0] 3::.ft F::(.ow cPt 65 (.slice pm 41 cm) (manyR bA 41)::.cl b1 [.string ⟨pzN.toArray⟩,.slice (some ⟨bA,0,none⟩) 4 4,.int .i64 10000,.int .i64 (-12800),.int .i64 12700] 65::.ft (rd (cI .i64) (.slice (some ⟨bA,0,none⟩) 4 4) [0,10000,1,9999])::As))) (Zh8 rfl (Za1 (n:=1) (vs:=[.int .i64 0]) (l:=[.int .i64 0]) rfl rfl rfl (fun w=>by kernel_rfl))) fun v Bs h=>?_
    obtain ⟨c,h1,h2⟩:=h
    exact ⟨_,by rw [h2];exact Ents.trans (Zaj (cI .i64) [0] rfl rfl rfl) Ents.freeze,c,h1,rfl⟩
   | 44,_ =>
    have h1:val 42=.agg #[.int .i64 0,.int .i64 0,.int .i64 12701]:=hrel 42 (by decide)
    obtain ⟨c,h2⟩:∃ c,val 43=.slice (some ⟨c,0,none⟩) 1 1:=hrel 43 (by decide)
    refine Zal (O1.call (vs':=[.string ⟨([97]:List UInt8).toArray⟩,.agg #[.int .i64 0,.int .i64 0,.int .i64 12701],.slice (some ⟨c,0,none⟩) 1 1]) rfl rfl (by rw [← h1,← h2];try rfl) Za6) fun v Bs ⟨g1,g2⟩=>⟨Bs,Ents.refl _,?_,g2⟩
    rw [g1,← h2];rfl
   | 45,_ =>
    have h3:val 3=.agg #[.string ⟨([]:List UInt8).toArray⟩,val 2,.int .i64 10000,.int .i64 (-12800),.int .i64 12700]:=hrel 3 (by decide)
    have h7:val 7=.agg #[.string ⟨([65,122,48,57,45,95,97,98,99,100,101,102,103]:List UInt8).toArray⟩,val 6,.int .i64 10000,.int .i64 (-12800),.int .i64 12700]:=hrel 7 (by decide)
    have h11:val 11=.agg #[.string ⟨([97,32,98]:List UInt8).toArray⟩,val 10,.int .i64 10000,.int .i64 (-12800),.int .i64 12700]:=hrel 11 (by decide)
    have h14:val 14=.agg #[.string ⟨([97]:List UInt8).toArray⟩,.slice none 0 0,.int .i64 10000,.int .i64 (-12800),.int .i64 12700]:=hrel 14 (by decide)
    have h18:val 18=.agg #[.string ⟨([97]:List UInt8).toArray⟩,val 17,.int .i64 10000,.int .i64 (-12800),.int .i64 12700]:=hrel 18 (by decide)
    have h22:val 22=.agg #[.string ⟨([97]:List UInt8).toArray⟩,val 21,.int .i64 10000,.int .i64 (-12800),.int .i64 12700]:=hrel 22 (by decide)
    have h26:val 26=.agg #[.string ⟨([97]:List UInt8).toArray⟩,val 25,.int .i64 10000,.int .i64 (-12800),.int .i64 12700]:=hrel 26 (by decide)
    have h29:val 29=.agg #[.string ⟨([97]:List UInt8).toArray⟩,val 28,.int .i64 (-1),.int .i64 0,.int .i64 0]:=hrel 29 (by decide)
    have h32:val 32=.agg #[.string ⟨([97]:List UInt8).toArray⟩,val 31,.int .i64 10001,.int .i64 0,.int .i64 0]:=hrel 32 (by decide)
    have h35:val 35=.agg #[.string ⟨([97]:List UInt8).toArray⟩,val 34,.int .i64 0,.int .i64 (-12801),.int .i64 0]:=hrel 35 (by decide)
    have h38:val 38=.agg #[.string ⟨([97]:List UInt8).toArray⟩,val 37,.int .i64 0,.int .i64 12701,.int .i64 0]:=hrel 38 (by decide)
    have h41:val 41=.agg #[.string ⟨([97]:List UInt8).toArray⟩,val 40,.int .i64 0,.int .i64 0,.int .i64 (-12801)]:=hrel 41 (by decide)
    have h44:val 44=.agg #[.string ⟨([97]:List UInt8).toArray⟩,val 43,.int .i64 0,.int .i64 0,.int .i64 12701]:=hrel 44 (by decide)
    refine Zal (O1.f (v:=.agg #[.string ⟨([]:List UInt8).toArray⟩,val 2,.int .i64 10000,.int .i64 (-12800),.int .i64 12700,.string ⟨([65,122,48,57,45,95,97,98,99,100,101,102,103]:List UInt8).toArray⟩,val 6,.int .i64 10000,.int .i64 (-12800),.int .i64 12700,.string ⟨([97,32,98]:List UInt8).toArray⟩,val 10,.int .i64 10000,.int .i64 (-12800),.int .i64 12700,.string ⟨([97]:List UInt8).toArray⟩,.slice none 0 0,.int .i64 10000,.int .i64 (-12800),.int .i64 12700,.string ⟨([97]:List UInt8).toArray⟩,val 17,.int .i64 10000,.int .i64 (-12800),.int .i64 12700,.string ⟨([97]:List UInt8).toArray⟩,val 21,.int .i64 10000,.int .i64 (-12800),.int .i64 12700,.string ⟨([97]:List UInt8).toArray⟩,val 25,.int .i64 10000,.int .i64 (-12800),.int .i64 12700,.string ⟨([97]:List UInt8).toArray⟩,val 28,.int .i64 (-1),.int .i64 0,.int .i64 0,.string ⟨([97]:List UInt8).toArray⟩,val 31,.int .i64 10001,.int .i64 0,.int .i64 0,.string ⟨([97]:List UInt8).toArray⟩,val 34,.int .i64 0,.int .i64 (-12801),.int .i64 0,.string ⟨([97]:List UInt8).toArray⟩,val 37,.int .i64 0,.int .i64 12701,.int .i64 0,.string ⟨([97]:List UInt8).toArray⟩,val 40,.int .i64 0,.int .i64 0,.int .i64 (-12801),.string ⟨([97]:List UInt8).toArray⟩,val 43,.int .i64 0,.int .i64 0,.int .i64 12701]) rfl (ExF.build (vs:=[.agg #[.string ⟨([]:List UInt8).toArray⟩,val 2,.int .i64 10000,.int .i64 (-12800),.int .i64 12700],.agg #[.string ⟨([65,122,48,57,45,95,97,98,99,100,101,102,103]:List UInt8).toArray⟩,val 6,.int .i64 10000,.int .i64 (-12800),.int .i64 12700],.agg #[.string ⟨([97,32,98]:List UInt8).toArray⟩,val 10,.int .i64 10000,.int .i64 (-12800),.int .i64 12700],.agg #[.string ⟨([97]:List UInt8).toArray⟩,.slice none 0 0,.int .i64 10000,.int .i64 (-12800),.int .i64 12700],.agg #[.string ⟨([97]:List UInt8).toArray⟩,val 17,.int .i64 10000,.int .i64 (-12800),.int .i64 12700],.agg #[.string ⟨([97]:List UInt8).toArray⟩,val 21,.int .i64 10000,.int .i64 (-12800),.int .i64 12700],.agg #[.string ⟨([97]:List UInt8).toArray⟩,val 25,.int .i64 10000,.int .i64 (-12800),.int .i64 12700],.agg #[.string ⟨([97]:List UInt8).toArray⟩,val 28,.int .i64 (-1),.int .i64 0,.int .i64 0],.agg #[.string ⟨([97]:List UInt8).toArray⟩,val 31,.int .i64 10001,.int .i64 0,.int .i64 0],.agg #[.string ⟨([97]:List UInt8).toArray⟩,val 34,.int .i64 0,.int .i64 (-12801),.int .i64 0],.agg #[.string ⟨([97]:List UInt8).toArray⟩,val 37,.int .i64 0,.int .i64 12701,.int .i64 0],.agg #[.string ⟨([97]:List UInt8).toArray⟩,val 40,.int .i64 0,.int .i64 0,.int .i64 (-12801)],.agg #[.string ⟨([97]:List UInt8).toArray⟩,val 43,.int .i64 0,.int .i64 0,.int .i64 12701]]) (l:=[.string ⟨([]:List UInt8).toArray⟩,val 2,.int .i64 10000,.int .i64 (-12800),.int .i64 12700,.string ⟨([65,122,48,57,45,95,97,98,99,100,101,102,103]:List UInt8).toArray⟩,val 6,.int .i64 10000,.int .i64 (-12800),.int .i64 12700,.string ⟨([97,32,98]:List UInt8).toArray⟩,val 10,.int .i64 10000,.int .i64 (-12800),.int .i64 12700,.string ⟨([97]:List UInt8).toArray⟩,.slice none 0 0,.int .i64 10000,.int .i64 (-12800),.int .i64 12700,.string ⟨([97]:List UInt8).toArray⟩,val 17,.int .i64 10000,.int .i64 (-12800),.int .i64 12700,.string ⟨([97]:List UInt8).toArray⟩,val 21,.int .i64 10000,.int .i64 (-12800),.int .i64 12700,.string ⟨([97]:List UInt8).toArray⟩,val 25,.int .i64 10000,.int .i64 (-12800),.int .i64 12700,.string ⟨([97]:List UInt8).toArray⟩,val 28,.int .i64 (-1),.int .i64 0,.int .i64 0,.string ⟨([97]:List UInt8).toArray⟩,val 31,.int .i64 10001,.int .i64 0,.int .i64 0,.string ⟨([97]:List UInt8).toArray⟩,val 34,.int .i64 0,.int .i64 (-12801),.int .i64 0,.string ⟨([97]:List UInt8).toArray⟩,val 37,.int .i64 0,.int .i64 12701,.int .i64 0,.string ⟨([97]:List UInt8).toArray⟩,val 40,.int .i64 0,.int .i64 0,.int .i64 (-12801),.string ⟨([97]:List UInt8).toArray⟩,val 43,.int .i64 0,.int .i64 0,.int .i64 12701]) (by rw [← h3,← h7,← h11,← h14,← h18,← h22,← h26,← h29,← h32,← h35,← h38,← h41,← h44];rfl) (fun w=>by kernel_rfl))) fun v Bs h=>⟨Bs,Ents.refl _,h⟩
   | 46,_=>exact Zal (O1.f (v:=.int .i64 0) rfl (by (exact Zb0))) fun v Bs h=>⟨Bs,Ents.refl _,h⟩
   | n+47,h=>exact absurd h (by show ¬ n+47 < 47;omega)
  ·intro val hrel
   obtain ⟨c,hc⟩:∃ c:Nat→Nat,∀ i xs,X14 i=some xs→i < 47→val i=.slice (some ⟨c i,0,none⟩) xs.length xs.length:=by
    refine ⟨fun i=>match val i with|.slice (some a) _ _=>a.block|_=>0,fun i xs hx hi=>?_⟩
    have h:=hrel i hi
    unfold RelJ at h
    rw [hx] at h
    obtain ⟨c,hc⟩:=h
    show val i=.slice (some ⟨(match val i with|.slice (some a) _ _=>a.block|_=>0),0,none⟩) _ _
    rw [hc]
   have h45:val 45=.agg (cPt.flat (L13 c)).toArray:=by
    refine (show val 45=V14 b1 val 45 from hrel 45 (by decide)).trans ?_
    simp only [V14]
    rw [hc 2 _ rfl (by decide),hc 6 _ rfl (by decide),hc 10 _ rfl (by decide),hc 17 _ rfl (by decide),hc 21 _ rfl (by decide),hc 25 _ rfl (by decide),hc 28 _ rfl (by decide),hc 31 _ rfl (by decide),hc 34 _ rfl (by decide),hc 37 _ rfl (by decide),hc 40 _ rfl (by decide),hc 43 _ rfl (by decide)]
    rfl
   have h46:val 46=.int .i64 0:=hrel 46 (by decide)
   refine Post.mk fun a w ha hs=>?_
   refine (show Post _ w0 _ .normal [(141,.agg (cPt.flat (L13 c)).toArray),(142,.int .i64 0),(1,.pointer (some ⟨b1,0,none⟩)),(2,.slice pm 41 cm),(5,.string ⟨(textT [pz]).toArray⟩),(7,.bool true)] (.ft (devPF (L13 c))::.ow cPt 65 (.slice pm 41 cm) (manyR bA 41)::.cl b1 [.string ⟨pzN.toArray⟩,.slice (some ⟨bA,0,none⟩) 4 4,.int .i64 10000,.int .i64 (-12800),.int .i64 12700] 65::.ft (rd (cI .i64) (.slice (some ⟨bA,0,none⟩) 4 4) [0,10000,1,9999])::As) from Post.cut _ _ ⟨c,rfl,rfl⟩ Zad Zaa).out a w (by rw [← h45,← h46];exact ha) (Zso (fun H h r hr=>?_) hs)
   simp only [L13,List.mem_cons,List.not_mem_nil,or_false] at hr
   rcases hr with rfl|rfl|rfl|rfl|rfl|rfl|rfl|rfl|rfl|rfl|rfl|rfl|rfl
   ·have h1:=h 2 _ rfl (by rfl)
    rw [hc 2 _ rfl (by decide)] at h1
    exact h1
   ·have h1:=h 6 _ rfl (by rfl)
    rw [hc 6 _ rfl (by decide)] at h1
    exact h1
   ·have h1:=h 10 _ rfl (by rfl)
    rw [hc 10 _ rfl (by decide)] at h1
    exact h1
   ·exact .inl ⟨⟨none,rfl⟩,rfl⟩
   ·have h1:=h 17 _ rfl (by rfl)
    rw [hc 17 _ rfl (by decide)] at h1
    exact h1
   ·have h1:=h 21 _ rfl (by rfl)
    rw [hc 21 _ rfl (by decide)] at h1
    exact h1
   ·have h1:=h 25 _ rfl (by rfl)
    rw [hc 25 _ rfl (by decide)] at h1
    exact h1
   ·have h1:=h 28 _ rfl (by rfl)
    rw [hc 28 _ rfl (by decide)] at h1
    exact h1
   ·have h1:=h 31 _ rfl (by rfl)
    rw [hc 31 _ rfl (by decide)] at h1
    exact h1
   ·have h1:=h 34 _ rfl (by rfl)
    rw [hc 34 _ rfl (by decide)] at h1
    exact h1
   ·have h1:=h 37 _ rfl (by rfl)
    rw [hc 37 _ rfl (by decide)] at h1
    exact h1
   ·have h1:=h 40 _ rfl (by rfl)
    rw [hc 40 _ rfl (by decide)] at h1
    exact h1
   ·have h1:=h 43 _ rfl (by rfl)
    rw [hc 43 _ rfl (by decide)] at h1
    exact h1
 rintro _ _ ⟨c,rfl,rfl⟩
 have hall:∀ r∈L13 c,checkP [ppOf r]=false∧r.nm.length≤100:=by
  intro r hr
  simp only [L13,List.mem_cons,List.not_mem_nil,or_false] at hr
  rcases hr with rfl|rfl|rfl|rfl|rfl|rfl|rfl|rfl|rfl|rfl|rfl|rfl|rfl
  ·exact ⟨(show checkP [(([]:List UInt8),([0]:List Int),(10000:Int),((-12800):Int),(12700:Int))]=false by decide +kernel),Nat.le_of_ble_eq_true rfl⟩
  ·exact ⟨(show checkP [(([65,122,48,57,45,95,97,98,99,100,101,102,103]:List UInt8),([0]:List Int),(10000:Int),((-12800):Int),(12700:Int))]=false by decide +kernel),Nat.le_of_ble_eq_true rfl⟩
  ·exact ⟨(show checkP [(([97,32,98]:List UInt8),([0]:List Int),(10000:Int),((-12800):Int),(12700:Int))]=false by decide +kernel),Nat.le_of_ble_eq_true rfl⟩
  ·exact ⟨(show checkP [(([97]:List UInt8),([]:List Int),(10000:Int),((-12800):Int),(12700:Int))]=false by decide +kernel),Nat.le_of_ble_eq_true rfl⟩
  ·exact ⟨(show checkP [(([97]:List UInt8),([0,0,0,0,0]:List Int),(10000:Int),((-12800):Int),(12700:Int))]=false by decide +kernel),Nat.le_of_ble_eq_true rfl⟩
  ·exact ⟨(show checkP [(([97]:List UInt8),([(-1)]:List Int),(10000:Int),((-12800):Int),(12700:Int))]=false by decide +kernel),Nat.le_of_ble_eq_true rfl⟩
  ·exact ⟨(show checkP [(([97]:List UInt8),([10001]:List Int),(10000:Int),((-12800):Int),(12700:Int))]=false by decide +kernel),Nat.le_of_ble_eq_true rfl⟩
  ·exact ⟨(show checkP [(([97]:List UInt8),([0]:List Int),((-1):Int),(0:Int),(0:Int))]=false by decide +kernel),Nat.le_of_ble_eq_true rfl⟩
  ·exact ⟨(show checkP [(([97]:List UInt8),([0]:List Int),(10001:Int),(0:Int),(0:Int))]=false by decide +kernel),Nat.le_of_ble_eq_true rfl⟩
  ·exact ⟨(show checkP [(([97]:List UInt8),([0]:List Int),(0:Int),((-12801):Int),(0:Int))]=false by decide +kernel),Nat.le_of_ble_eq_true rfl⟩
  ·exact ⟨(show checkP [(([97]:List UInt8),([0]:List Int),(0:Int),(12701:Int),(0:Int))]=false by decide +kernel),Nat.le_of_ble_eq_true rfl⟩
  ·exact ⟨(show checkP [(([97]:List UInt8),([0]:List Int),(0:Int),(0:Int),((-12801):Int))]=false by decide +kernel),Nat.le_of_ble_eq_true rfl⟩
  ·exact ⟨(show checkP [(([97]:List UInt8),([0]:List Int),(0:Int),(0:Int),(12701:Int))]=false by decide +kernel),Nat.le_of_ble_eq_true rfl⟩
 have hL13:(L13 c).length=13:=rfl
 generalize L13 c=LL at *
 repeat' first|refine Kz ?_|intro _
 refine Tri.midB (fun e' As'=>e'=[(1,.pointer (some ⟨b1,0,none⟩)),(2,.slice pm 41 cm),(5,.string ⟨(textT [pz]).toArray⟩),(7,.bool true)]∧As'=.ow cPt 65 (.slice pm 41 cm) (manyR bA 41)::.cl b1 [.string ⟨pzN.toArray⟩,.slice (some ⟨bA,0,none⟩) 4 4,.int .i64 10000,.int .i64 (-12800),.int .i64 12700] 65::.ft (rd (cI .i64) (.slice (some ⟨bA,0,none⟩) 4 4) [0,10000,1,9999])::As) ?_ ?_
 ·refine Tri.loop (ι:=Nat) (fun t=>t≤13) (fun t=>13 - t) (fun t=>[(1,.pointer (some ⟨b1,0,none⟩)),(2,.slice pm 41 cm),(5,.string ⟨(textT [pz]).toArray⟩),(7,.bool true),(141,.agg (cPt.flat LL).toArray),(142,.int .i64 (t:Int))]) (fun _=>.ft (devPF LL)::.ow cPt 65 (.slice pm 41 cm) (manyR bA 41)::.cl b1 [.string ⟨pzN.toArray⟩,.slice (some ⟨bA,0,none⟩) 4 4,.int .i64 10000,.int .i64 (-12800),.int .i64 12700] 65::.ft (rd (cI .i64) (.slice (some ⟨bA,0,none⟩) 4 4) [0,10000,1,9999])::As) 0 (Nat.zero_le _) Zad Zaa ?_
  intro t hT
  repeat' first|refine Kz ?_|intro _
  (refine Kx (fun hc=>?_) fun hc=>?_)
  ·obtain ⟨r,hrt⟩:∃ r,LL[t]?=some r:=⟨_,List.getElem?_eq_getElem (by omega)⟩
   obtain ⟨hbad,hnm⟩:=hall r (List.mem_of_getElem? hrt)
   have hfl:=Z2q hrt
   have hdv:=fun Bs (h:Ent.ft (devPF LL)∈Bs)=>Zc5 (As:=Bs) (L:=LL) h r (List.mem_of_getElem? hrt)
   obtain ⟨nm,q,k,dev,l,a,b⟩:=r
   simp only at hnm hdv
   have hbad2:checkP ([(⟨nm,q,k,dev,l,a,b⟩:RawP)].map ppOf)=false:=hbad
   have hx1:chanP ([(⟨nm,q,k,dev,l,a,b⟩:RawP)].map ppOf)=(0,310):=by unfold chanP;rw [hbad2];rfl
   have hx2:textO31 ([(⟨nm,q,k,dev,l,a,b⟩:RawP)].map ppOf)=([],310):=by unfold textO31;rw [hbad2];rfl
   have hx3:mergeO ([(⟨nm,q,k,dev,l,a,b⟩:RawP)].map ppOf)=([],310):=by unfold mergeO;rw [hbad2];rfl
   have hdI:∀ Bs,Ent.ft (devPF LL)∈Bs→DevIn Bs [(⟨nm,q,k,dev,l,a,b⟩:RawP)]:=fun Bs h r hr=>by rw [List.mem_singleton.1 hr];exact hdv Bs h
   have hSh:Shr [(⟨nm,q,k,dev,l,a,b⟩:RawP)]:=⟨Nat.le_of_ble_eq_true rfl,fun r hr=>by rw [List.mem_singleton.1 hr];exact Nat.le_trans hnm (by decide)⟩
   repeat' first|refine Kz ?_|intro _
   refine TL.f rfl rfl (Zk0 (n:=13) rfl rfl rfl (by rw [Nat.blt_eq];omega) hfl) ?_
   repeat' first|refine Kz ?_|intro _
   rename_i b9 bX
   refine TL.ents (Zaj cPt [⟨nm,q,k,dev,l,a,b⟩] rfl rfl rfl) ?_
   refine Ks rfl (Zkd (v:=.slice (some ⟨bX,0,none⟩) 1 1) (L:=[⟨nm,q,k,dev,l,a,b⟩]) (hdI _ (by simp)) hSh) ?_
   rw [hx1]
   repeat' first|refine Kz ?_|intro _
   rename_i bY
   refine TL.ents (Zaj cPt [⟨nm,q,k,dev,l,a,b⟩] rfl rfl rfl) ?_
   refine Ks rfl (Zeb ht (v:=.slice (some ⟨bY,0,none⟩) 1 1) (L:=[⟨nm,q,k,dev,l,a,b⟩]) (hdI _ (by simp)) hSh) ?_
   rw [hx2]
   repeat' first|refine Kz ?_|intro _
   rename_i bZ
   refine TL.ents (Zaj cPt [⟨nm,q,k,dev,l,a,b⟩] rfl rfl rfl) ?_
   refine TL.callv rfl rfl rfl rfl (Zr1 ht he (v:=.slice (some ⟨bZ,0,none⟩) 1 1) (L:=[⟨nm,q,k,dev,l,a,b⟩]) (hdI _ (by simp)) hSh) ?_
   rintro _ _ ⟨vm,M,hM,rfl,rfl⟩
   rw [hx3] at hM ⊢
   have hM0:M=[]:=List.map_eq_nil_iff.1 hM
   subst hM0
   repeat' first|refine Kz ?_|intro _
   rename_i bW
   refine TL.ents (Zaj cPt [⟨nm,q,k,dev,l,a,b⟩] rfl rfl rfl) ?_
   refine Ks rfl (Zc6 (v:=.slice (some ⟨bW,0,none⟩) 1 1) (L:=[⟨nm,q,k,dev,l,a,b⟩]) (hdI _ (by simp)) hSh) ?_
   rw [if_neg (by rw [hbad2];decide)]
   repeat' first|refine Kz ?_|intro _
   refine TL.f rfl rfl (Zfi (v:=vm) rfl) ?_
   repeat' first|refine Kz ?_|intro _
   exact Post.round (t+1) (by show t+1≤13;omega) (by omega) Zad Zaa
  ·repeat' first|refine Kz ?_|intro _
   exact Post.cut _ _ ⟨rfl,rfl⟩ Zad Zaa
 rintro _ _ ⟨rfl,rfl⟩
 have htF:textO31 ((manyR bA 40).map ppOf)=(textT (manyP 40),0):=by rw [Zg7];unfold textO31;rw [Zfb];rfl
 have htFl:=Zbo Zfb
 have htFp:=Zgc Zfb (by omega)
 have hl2m:=List.mem_of_getElem? Zm0
 have hl2l:=Zr5 Zvq _ hl2m
 have hl2n:=(Zi8 (s:=textT [pz])).1
 repeat' first|refine Kz ?_|intro _
 refine TL.f rfl rfl (Zdp (hi:=40) rfl (Zb5 rfl) (by omega)) ?_
 repeat' first|refine Kz ?_|intro _
 refine Ks rfl (Zeb ht (v:=.slice pm 40 cm) (L:=manyR bA 40) (iM _ 40) (Zg6 (by decide))) ?_
 rw [htF]
 repeat' first|refine Kz ?_|intro _
 have hl2lt:=(List.getElem?_eq_some_iff.1 Zm0).1
 have hlp:=Zoh
 have hpl:=Zvr
 have hgn:([101,110,100,10] == joinW (wordsT pz)++[10,101,110,100,10])=false:=by
  rw [Zm5];rfl
 refine TL.callv rfl rfl rfl rfl (Znx hm (s:=textT [pz]) (by omega)) ?_
 rintro _ _ rfl
 repeat' first|refine Kz ?_|intro _
 refine Ks rfl (Zpy hm hgn (by rw [List.length_append];simp only [List.length_cons,List.length_nil];omega)) ?_
 have hjl:(joinW (wordsT pz)++[10,101,110,100,10]).length≤200:=by rw [List.length_append];simp only [List.length_cons,List.length_nil];omega
 generalize joinW (wordsT pz)++[10,101,110,100,10]=jw at *
 repeat' first|refine Kz ?_|intro _
 refine Ks rfl (Ztd (c:=7999) (by decide)) ?_
 repeat' first|refine Kz ?_|intro _
 refine TL.f rfl rfl (Zdp (hi:=40) rfl (Zb5 rfl) (by omega)) ?_
 repeat' first|refine Kz ?_|intro _
 refine Ks rfl (Zfq ht he hm (s:=textT (manyP 40)) (v:=.slice pm 40 cm) (L:=manyR bA 40) (iM _ 40) (Zg8 (by decide)) (by omega)) ?_
 rw [decide_eq_true (show (parseT (textT (manyP 40))).1=(manyR bA 40).map ppOf∧(parseT (textT (manyP 40))).2.1=0∧(parseT (textT (manyP 40))).2.2=0 by rw [htFp,Zg7];exact ⟨rfl,rfl,rfl⟩)]
 repeat' first|refine Kz ?_|intro _
 refine Ks rfl (Zap ht he hm (s:=preK++jw) (n:=42) (e:=5) (by rw [List.length_append];omega)) ?_
 rw [decide_eq_true (by rw [hlp];exact ⟨rfl,rfl,rfl⟩)]
 repeat' first|refine Kz ?_|intro _
 refine Ks rfl (Zap ht he hm (s:=[35]++List.replicate 7999 120) (n:=0) (e:=5) (by rw [List.length_append,List.length_replicate];decide)) ?_
 rw [decide_eq_true (by rw [Ztw];exact ⟨rfl,rfl,rfl⟩)]
 repeat' first|refine Kz ?_|intro _
 refine Ks rfl (Zap ht he hm (s:=[35]++List.replicate 7999 120++[120]) (n:=0) (e:=3) (by rw [List.length_append,List.length_append,List.length_replicate];decide)) ?_
 rw [decide_eq_true (by rw [Zqj];exact ⟨rfl,rfl,rfl⟩)]
 repeat' first|refine Kz ?_|intro _
 refine Ks rfl (Zap ht he hm (s:=[]) (n:=0) (e:=5) (by decide)) ?_
 rw [decide_eq_true (by decide +kernel)]
 repeat' first|refine Kz ?_|intro _
 refine Ks rfl (Zap ht he hm (s:=[101,110,100,10]) (n:=1) (e:=5) (by decide)) ?_
 rw [decide_eq_true (by decide +kernel)]
 repeat' first|refine Kz ?_|intro _
 refine Ks rfl (Zap ht he hm (s:=[112,97,116,99,104,101,115,32,49,10,65,32,49,32,53,48,32,48,32,48,10,101,110,100,10,101,110,100,10]) (n:=4) (e:=5) (by decide)) ?_
 rw [decide_eq_true (by decide +kernel)]
 repeat' first|refine Kz ?_|intro _
 refine Ks rfl (Zap ht he hm (s:=[112,97,116,99,104,101,115,32,49,10,101,110,100,10,102,111,111,10]) (n:=0) (e:=5) (by decide)) ?_
 rw [decide_eq_true (by decide +kernel)]
 repeat' first|refine Kz ?_|intro _
 refine Ks rfl (Zap ht he hm (s:=[112,97,116,99,104,101,115,32,49,32,49,10]) (n:=1) (e:=5) (by decide)) ?_
 rw [decide_eq_true (by decide +kernel)]
 repeat' first|refine Kz ?_|intro _
 refine Ks rfl (Zap ht he hm (s:=[80,97,116,99,104,101,115,32,49,10]) (n:=1) (e:=5) (by decide)) ?_
 rw [decide_eq_true (by decide +kernel)]
 repeat' first|refine Kz ?_|intro _
 refine Ks rfl (Zap ht he hm (s:=[112,97,116,99,104,101,115,32,48,10]) (n:=1) (e:=5) (by decide)) ?_
 rw [decide_eq_true (by decide +kernel)]
 repeat' first|refine Kz ?_|intro _
 refine Ks rfl (Zap ht he hm (s:=[112,97,116,99,104,101,115,32,49,10,65,32,49,32,53,48,32,48,32,48,46,48,48,49,10,101,110,100,10]) (n:=2) (e:=5) (by decide)) ?_
 rw [decide_eq_true (by decide +kernel)]
 repeat' first|refine Kz ?_|intro _
 refine Ks rfl (Zap ht he hm (s:=[112,97,116,99,104,101,115,32,49,10,65,32,48,49,32,53,48,32,48,32,48,10,101,110,100,10]) (n:=2) (e:=5) (by decide)) ?_
 rw [decide_eq_true (by decide +kernel)]
 repeat' first|refine Kz ?_|intro _
 refine Ks rfl (Zap ht he hm (s:=[112,97,116,99,104,101,115,32,49,10,65,32,49,32,53,48,32,45,48,32,48,10,101,110,100,10]) (n:=2) (e:=5) (by decide)) ?_
 rw [decide_eq_true (by decide +kernel)]
 repeat' first|refine Kz ?_|intro _
 refine Ks rfl (Zap ht he hm (s:=[112,97,116,99,104,101,115,32,49,10,65,32,49,32,53,48,32,48,32,48,13,10,101,110,100,10]) (n:=2) (e:=5) (by decide)) ?_
 rw [decide_eq_true (by decide +kernel)]
 repeat' first|refine Kz ?_|intro _
 refine Ks rfl (Zap ht he hm (s:=[112,97,116,99,104,101,115,32,49,10,65,32,57,57,57,57,57,57,57,57,57,57,57,57,57,57,57,57,57,57,57,57,57,57,57,32,53,48,32,48,32,48,10,101,110,100,10]) (n:=2) (e:=5) (by decide)) ?_
 rw [decide_eq_true (by decide +kernel)]
 repeat' first|refine Kz ?_|intro _
 rw [Zs9,Nat.sub_zero,List.drop_zero,Zef (by decide)]
 refine Ks rfl (Zkd (v:=.slice pm 2 cm) (L:=manyR bA 2) (iM _ 2) (Zg6 (by decide))) ?_
 rw [show chanP ((manyR bA 2).map ppOf)=(4,0) by rw [Zg7];unfold chanP;rw [Z4n];rfl]
 repeat' first|refine Kz ?_|intro _
 refine Kt rfl (Zhp ht he hm) ?_
 repeat' first|refine Kz ?_|intro _
 refine TL.f rfl rfl (ExF.build (l:=[.int .i64 5000,.int .i64 0,.int .i64 0]) rfl (fun w=>by kernel_rfl)) ?_
 repeat' first|refine Kz ?_|intro _
 rename_i bB
 refine TL.ents (Zaj (cI .i64) [10000] rfl rfl rfl) ?_
 refine TL.ents Ents.freeze ?_
 refine Ks rfl Za6 ?_
 repeat' first|refine Kz ?_|intro _
 rename_i bC
 refine TL.ents (Zaj cPt [⟨[101,110,100,49],some ⟨bB,0,none⟩,1,[10000],5000,0,0⟩] rfl rfl rfl) ?_
 refine TL.callv rfl rfl rfl rfl (Zfq ht he hm (s:=[112,97,116,99,104,101,115,32,49,10,101,110,100,49,32,49,46,48,48,48,48,32,53,48,32,48,32,48,10,101,110,100,10,35,101,110,100,10]) (L:=[⟨[101,110,100,49],some ⟨bB,0,none⟩,1,[10000],5000,0,0⟩]) (fun r hr=>?_) ⟨Nat.le_of_ble_eq_true rfl,fun r hr=>?_⟩ (by decide)) ?_
 ·rw [List.mem_singleton.1 hr];infer_instance
 ·rw [List.mem_singleton.1 hr];exact Nat.le_of_ble_eq_true rfl
 rintro _ _ ⟨rfl,rfl⟩
 rw [decide_eq_true (show (parseT [112,97,116,99,104,101,115,32,49,10,101,110,100,49,32,49,46,48,48,48,48,32,53,48,32,48,32,48,10,101,110,100,10,35,101,110,100,10]).1=List.map ppOf [⟨[101,110,100,49],some ⟨bB,0,none⟩,1,[10000],5000,0,0⟩]∧_∧_ from (show (parseT [112,97,116,99,104,101,115,32,49,10,101,110,100,49,32,49,46,48,48,48,48,32,53,48,32,48,32,48,10,101,110,100,10,35,101,110,100,10]).1=[([101,110,100,49],[10000],5000,0,0)]∧(parseT [112,97,116,99,104,101,115,32,49,10,101,110,100,49,32,49,46,48,48,48,48,32,53,48,32,48,32,48,10,101,110,100,10,35,101,110,100,10]).2.1=0∧(parseT [112,97,116,99,104,101,115,32,49,10,101,110,100,49,32,49,46,48,48,48,48,32,53,48,32,48,32,48,10,101,110,100,10,35,101,110,100,10]).2.2=0 by decide +kernel))]
 repeat' first|refine Kz ?_|intro _
 (refine Zac ?_)
 exact ⟨_,rfl,Ents.refl _⟩
end Go.Proofs.YtciadfpomkdlnaaGreatDoor.Q
