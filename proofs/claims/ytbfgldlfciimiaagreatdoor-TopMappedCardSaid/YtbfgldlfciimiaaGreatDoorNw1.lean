/- Plain: fractions by their texts; sides and rays of valid meshes. -/
import Derived.Test.YtbfgldlfciimiaaGreatDoorIm1
import Derived.Test.YtbfgldlfciimiaaGreatDoorIx9
import Derived.Test.YtbfgldlfciimiaaGreatDoorCc3
import Derived.Test.YtbfgldlfciimiaaGreatDoorNp1
set_option maxHeartbeats 1000000
namespace Go.Sx
open Go
theorem Z1v {P F:List V3} {p:V3} (hg:Good P F) (hp:isFar p=false):(sideW P F p).2=0:=by
 have f1:(flawM P F).1=0:=Yft.2 hg
 unfold sideW
 rw [f1,hp]
 simp only [ne_eq,not_true_eq_false,if_false,Bool.false_eq_true]
 (repeat' split)<;>rfl
end Go.Sx
namespace Go.Proofs.YtbfgldlfciimiaaGreatDoor
open Go Go.Sx
theorem frzF {T U:TypeId} {R:List Ent} {a b:Value} {xs ys:List V3}:Ents (.ow cV3 T a xs::.ow cV3 U b ys::R) (.ft (rd cV3 a xs)::.ft (rd cV3 b ys)::R) :=
 Ents.trans Ents.freeze (Ents.trans (Ents.perm (List.Perm.swap _ _ _)) (Ents.trans Ents.freeze (Ents.perm (List.Perm.swap _ _ _))))
end Go.Proofs.YtbfgldlfciimiaaGreatDoor
namespace Go.Sx
open Go
def frV (r:Rat):Value:=.agg #[.string ⟨(tN r).toArray⟩,.string ⟨(tD r).toArray⟩]
def frtV (x y z:Rat):Value:=.agg #[.string ⟨(tN x).toArray⟩,.string ⟨(tD x).toArray⟩,.string ⟨(tN y).toArray⟩,.string ⟨(tD y).toArray⟩,.string ⟨(tN z).toArray⟩,.string ⟨(tD z).toArray⟩]
theorem Z85 (n:Int):qI n 1=(n:Rat):=by
 rw [Zes]
 have:((1:Int):Rat)=1:=rfl
 rw [this];grind
end Go.Sx
namespace Go.Proofs.YtbfgldlfciimiaaGreatDoor
open Go Go.Sx
variable {w0:World} {As:List Ent}
def errJ (e:Int):Value:=.iface 34 (.int .i64 e)
theorem Zba {n d:List UInt8}:CQ Tryz.prog w0 76 [.agg #[.string ⟨n.toArray⟩,.string ⟨d.toArray⟩],.int .i64 0] As (.agg #[.string ⟨n.toArray⟩,.string ⟨d.toArray⟩]):=by
 refine Zab Tryz.func76 rfl Tryz.ntmps76 rfl ?_
 repeat' first|refine Kz ?_|intro _
 exact Kv
theorem Z7a {n d:List UInt8} {e:Int} (h:e≠0):CallsP Tryz.prog w0 76 [.agg #[.string ⟨n.toArray⟩,.string ⟨d.toArray⟩],.int .i64 e] As fun r Bs=>r=errJ e∧Bs=As:=by
 refine Zec Tryz.func76 rfl Tryz.ntmps76 rfl ?_
 repeat' first|refine Kz ?_|intro _
 refine TL.f rfl rfl (Ze4 rfl rfl) ?_
 refine TL.panic rfl rfl ?_
 repeat' first|refine Kz ?_|intro _
 exact Zay rfl ⟨_,⟨rfl,rfl⟩,Zaa⟩
theorem Ze9 {v:Int}:CQ Tryz.prog w0 41 [.int .i64 v,.int .i64 0] As (.int .i64 v):=by
 refine Zab Tryz.func41 rfl Tryz.ntmps41 rfl ?_
 repeat' first|refine Kz ?_|intro _
 exact Kv
theorem Zco (ht:Tab w0) {n:Int} (hn:-9223372036854775807≤n∧n≤9223372036854775807):CQ Tryz.prog w0 75 [.int .i64 n] As (frV (n:Rat)):=by
 refine Zab Tryz.func75 rfl Tryz.ntmps75 rfl ?_
 repeat' first|refine Kz ?_|intro _
 refine TL.callv rfl rfl rfl rfl (Zg0 ht (n:=n) (d:=1) hn (by decide) (by decide)) ?_
 rw [Z85]
 rintro _ _ ⟨rfl,rfl⟩
 repeat' first|refine Kz ?_|intro _
 refine Kt rfl Zba ?_
 repeat' first|refine Kz ?_|intro _
 exact Kv
theorem Z61 {a:Rat} (hz:-9223372036854775808≤a.floor∧a.floor≤9223372036854775807):Q.nearO (some (a - mkRat 1 2)) 1=(a.floor,0):=by
 unfold Q.nearO
 simp only []
 rw [if_pos (by decide),show ((1:Int).toNat)=1 from rfl,Zz2,if_pos hz]
set_option maxRecDepth 100000 in
theorem Zmx (ht:Tab w0) (he:ErrR w0) {a:Rat} (hf:Fit 500 a) (hz:-9223372036854775808≤a.floor∧a.floor≤9223372036854775807) :
  CQ Tryz.prog w0 110 [frV a] As (.int .i64 a.floor):=by
 have f2:Fit 19 (mkRat 1 2):=Fit.mono (k:=1) (Fit.of (by decide) (by decide +kernel) (by decide +kernel)) (by decide)
 have f3:Fit 600 (a - mkRat 1 2):=(hf.sub f2).mono (by decide)
 refine Zab Tryz.func110 rfl Tryz.ntmps110 rfl ?_
 show Tri _ _ _ _ (env0 0 [.agg #[.string ⟨(tN a).toArray⟩,.string ⟨(tD a).toArray⟩]]) _ _
 repeat' first|refine Kz ?_|intro _
 rename_i b1
 refine Zag [.cl b1 [.string ⟨(tN a).toArray⟩,.string ⟨(tD a).toArray⟩] 47] [] (.take 0 (.all [(1,.take 2 (.take 3 (.all [(4,.all [(5,.take 6 (.take 7 (.all [(8,.all [(9,.take 10 (.take 11 (.all [(12,.take 13 (.done))])))])])))])])))])) ?_
 repeat' first|refine Kf ?_|intro _|constructor
 refine T1.callv rfl rfl rfl rfl rfl (Zg0 ht (n:=1) (d:=2) (by decide) (by decide) (by decide)) ?_
 rw [show qI 1 2=mkRat 1 2 by decide +kernel]
 rintro _ _ ⟨rfl,rfl⟩
 repeat' first|refine Kf ?_|intro _|constructor
 refine Kw rfl Zba ?_
 repeat' first|refine Kf ?_|intro _|constructor
 refine Ku rfl (Q.Ygu ht (hf.mono (by decide)) (f2.mono (by decide)) f3) ?_
 repeat' first|refine Kf ?_|intro _|constructor
 refine Kw rfl Zba ?_
 repeat' first|refine Kf ?_|intro _|constructor
 refine T1.callv rfl rfl rfl rfl rfl (Q.Yfz ht he (k:=1) f3) ?_
 rw [Z61 hz]
 rintro _ _ ⟨rfl,rfl⟩
 repeat' first|refine Kf ?_|intro _|constructor
 refine Kw rfl Ze9 ?_
 repeat' first|refine Kf ?_|intro _|constructor
 exact Kv
theorem Zvh {p:V3}:CQ Tryz.prog w0 38 [p.val] As (.bool (isFar p)):=by
 refine Zab Tryz.func38 rfl Tryz.ntmps38 rfl ?_
 show Tri _ _ _ _ (env0 0 [.agg #[.int .i64 p.x,.int .i64 p.y,.int .i64 p.z]]) _ _
 repeat' first|refine Kz ?_|intro _
 refine Zao 4 ?_
 (repeat' (first|((show TL _ _ _ _ (_::_) _ _ _;first|refine Ze1 ?_|refine Zey ?_|(refine Zcn ?_;intro _)|(refine Zdd ?_;first|rintro _ _ ⟨rfl,rfl⟩|rintro _ _ rfl)|refine Zbp ?_|refine Zbb ?_|refine Ze0 ?_|fail))|(refine Stp.h ?_)|(first|(show TT _ _ _ _ _ _ _ _ _;first|refine Zgh ?_|refine Zex ?_|refine Zc3 ?_|refine Zwc ?_|fail)|exact TTs.nil|refine TTs.cons ?_ ?_|(show T1 _ _ _ _ _ _ _ _ _ _;first|refine Zwd ?_|(refine Znj ?_;intro _)|(refine Zni ?_;first|rintro _ _ ⟨rfl,rfl⟩|rintro _ _ rfl)|refine Zwe ?_|refine Ziq ?_|refine Zgi ?_|fail)|(show TC _ _ _ _ _ _ _ _ _ _;first|refine Znh ?_|refine Zip ?_|fail))|((show Tri _ _ _ (.cond _ _ _) _ _ _;first|refine Zbn ?_|refine Zbo ?_|refine Zat ?_|refine Zau ?_|refine Zap ?_|refine Zaq ?_|fail))|(first|refine Zbg rfl rfl (fun hgs=>?_) (fun hgs=>?_)|refine Za7 rfl rfl (fun hgs=>?_) (fun hgs=>?_)|refine Zbf rfl rfl rfl (fun hgs=>?_) (fun hgs=>?_)|refine Za6 rfl rfl rfl (fun hgs=>?_) (fun hgs=>?_))|(refine Kx (fun hc=>?_) fun hc=>?_)))
 all_goals
  (refine Zac ?_)
  refine ⟨_,⟨?_,rfl⟩,Zaa⟩
  rw [Value.bool.injEq]
  simp [isFar]
  omega
set_option maxRecDepth 100000 in
theorem Zya (ht:Tab w0) {p:V3} (hx:-400000≤p.x∧p.x≤400000) (hy:-400000≤p.y∧p.y≤400000) (hz:-400000≤p.z∧p.z≤400000):CQ Tryz.prog w0 42 [p.val] As (frtV (p.x:Rat) (p.y:Rat) (p.z:Rat)):=by
 refine Zab Tryz.func42 rfl Tryz.ntmps42 rfl ?_
 show Tri _ _ _ _ (env0 0 [.agg #[.int .i64 p.x,.int .i64 p.y,.int .i64 p.z]]) _ _
 repeat' first|refine Kz ?_|intro _
 rename_i b1 b2
 refine Zag [.cl b1 [.int .i64 p.x,.int .i64 p.y,.int .i64 p.z] 39] [] (.take 0 (.take 1 (.take 3 (.take 4 (.take 6 (.take 7 (.all [(2,.all [(5,.all [(8,.take 9 (.all [(10,.done)]))])])]))))))) ?_
 repeat' first|refine Kf ?_|intro _|constructor
 refine Ku rfl (Zco ht (n:=p.x) (by omega)) ?_
 repeat' first|refine Kf ?_|intro _|constructor
 refine Ku rfl (Zco ht (n:=p.y) (by omega)) ?_
 repeat' first|refine Kf ?_|intro _|constructor
 refine Ku rfl (Zco ht (n:=p.z) (by omega)) ?_
 repeat' first|refine Kf ?_|intro _|constructor
 exact Kv
end Go.Proofs.YtbfgldlfciimiaaGreatDoor
namespace Go.Proofs.YtbfgldlfciimiaaGreatDoor
open Go Go.Sx
variable {w0:World} {As:List Ent} {pv fv:Value} {pts fcs:List V3}
def lineV (pv fv:Value) (a b:V3):Value:=.agg #[pv,fv,.int .i64 a.x,.int .i64 a.y,.int .i64 a.z,.int .i64 b.x,.int .i64 b.y,.int .i64 b.z]
def metE (As:List Ent) (o:Option (Rat × Nat)) (v:Value) (Bs:List Ent):Prop:=∃ t j,o=some (t,j)∧v=frV t∧Bs=As
def metT (As:List Ent) (o:Option (Rat × Nat)) (v:Value) (Bs:List Ent):Prop:=o=none∧v=errJ 4∧Bs=As
theorem Z19 (hg:Sx.Good pts fcs) {a b:V3} (ha:isFar a=false) (hb:isFar b=false) (hab:a≠b) (y:Bool) :
  rayW pts fcs a b y=match rayM metP pts fcs a b y with|none=>.inl 4|some r=>.inr r:=by
 unfold rayW
 rw [if_neg (fun h=>h (Yft.2 hg)),if_neg (by rintro (h|h|h);rw [ha] at h;cases h;rw [hb] at h;cases h;exact hab h)]
 cases rayM metP pts fcs a b y<;>rfl
set_option maxRecDepth 100000 in
theorem Zd1 (ht:Tab w0) {a b:V3} {y:Bool} [RdIn As fv V3 cV3 fcs] [RdIn As pv V3 cV3 pts] (hg:Sx.Good pts fcs) (ha:isFar a=false) (hb:isFar b=false) (hab:a≠b) :
  CallsE Tryz.prog w0 44 [lineV pv fv a b,.bool y] As (metE As (rayM metP pts fcs a b y)) (metT As (rayM metP pts fcs a b y)):=by
 refine Zct Tryz.func44 rfl Tryz.ntmps44 rfl ?_
 show Tri _ _ _ _ (env0 0 [.agg #[pv,fv,.int .i64 a.x,.int .i64 a.y,.int .i64 a.z,.int .i64 b.x,.int .i64 b.y,.int .i64 b.z],.bool y]) _ _
 have hr:=fun (Bs:List Ent) [RdIn Bs fv V3 cV3 fcs] [RdIn Bs pv V3 cV3 pts]=>Ydp (As:=Bs) (w0:=w0) (pv:=pv) (fv:=fv) (pts:=pts) (fcs:=fcs) ht (p:=a) (q:=b) (y:=y)
 rw [Z19 hg ha hb hab] at hr
 generalize rayM metP pts fcs a b y=o at *
 refine Zdb (c:=cV3) (xs:=pts) pv fun p1 c1 e1=>Zdb (c:=cV3) (xs:=fcs) fv fun p2 c2 e2=>?_
 subst e1 e2
 repeat' first|refine Kz ?_|intro _
 refine Ks rfl (hr _) ?_
 cases o with
 | none =>
  show TL _ _ _ _ _ ((_,.tuple #[.agg #[.string ⟨#[]⟩,.string ⟨#[]⟩],.int .i64 0,.int .i64 4])::_) _ _
  repeat' first|refine Kz ?_|intro _
  refine TL.callP rfl rfl rfl (Z7a (n:=[]) (d:=[]) (e:=4) (by decide)) ?_
  rintro _ _ ⟨rfl,rfl⟩
  repeat' first|refine Kz ?_|intro _
  exact Zay rfl ⟨_,⟨rfl,rfl,rfl⟩,Zaa⟩
 | some r =>
  obtain ⟨t,j⟩:=r
  show TL _ _ _ _ _ ((_,.tuple #[.agg #[.string ⟨(tN t).toArray⟩,.string ⟨(tD t).toArray⟩],.int .i64 (j:Int),.int .i64 0])::_) _ _
  repeat' first|refine Kz ?_|intro _
  refine Kt rfl Zba ?_
  repeat' first|refine Kz ?_|intro _
  refine Zcw ?_
  (refine Zac ?_)
  exact ⟨_,⟨t,j,rfl,rfl,rfl⟩,Zaa⟩
def atV (a b:V3) (s:Rat):Value:=frtV ((a.x:Rat)+s * ((b.x - a.x:Int):Rat)) ((a.y:Rat)+s * ((b.y - a.y:Int):Rat)) ((a.z:Rat)+s * ((b.z - a.z:Int):Rat))
set_option maxRecDepth 100000 in
set_option maxHeartbeats 4000000 in
theorem Zs8 (ht:Tab w0) {a b:V3} {s:Rat} (ha:isFar a=false) (hb:isFar b=false) (hs:Fit 200 s) :
  CQ Tryz.prog w0 43 [lineV pv fv a b,frV s] As (atV a b s):=by
 have ba:=Zcv ha
 have bb:=Zcv hb
 obtain ⟨a1,a2,a3,a4,a5,a6⟩:=ba
 obtain ⟨b1,b2,b3,b4,b5,b6⟩:=bb
 have k:=fun (c p:Int) (h1:-200000≤c∧c≤200000) (h2:-200000≤p∧p≤200000)=>Zq0 (c:=c) (p:=p) (s:=s) (k:=200) h1 h2 hs
 refine Zab Tryz.func43 rfl Tryz.ntmps43 rfl ?_
 show Tri _ _ _ _ (env0 0 [.agg #[pv,fv,.int .i64 a.x,.int .i64 a.y,.int .i64 a.z,.int .i64 b.x,.int .i64 b.y,.int .i64 b.z],.agg #[.string ⟨(tN (s)).toArray⟩,.string ⟨(tD (s)).toArray⟩]]) _ _
 repeat' first|refine Kz ?_|intro _
 rename_i b2 b3 b4 b5
 refine Zao 4 ?_
 repeat' first|refine Kz ?_|intro _
 refine Tri.mid (fun e' As'=>∃ b7,e'=[(2,.pointer (some ⟨b2,0,none⟩)),(3,.pointer (some ⟨b3,0,none⟩)),(4,.pointer (some ⟨b4,0,none⟩)),(5,.pointer (some ⟨b5,0,none⟩)),(6,.int .i64 0),(7,.pointer (some ⟨b7,0,none⟩)),(8,.int .i64 0)]∧As'=.cl b7 [.string ⟨(tN (s * ((b.x - a.x:Int):Rat))).toArray⟩,.string ⟨(tD (s * ((b.x - a.x:Int):Rat))).toArray⟩] 47::.cl b2 [pv,fv,.int .i64 a.x,.int .i64 a.y,.int .i64 a.z,.int .i64 b.x,.int .i64 b.y,.int .i64 b.z] 97::.cl b3 [.string ⟨(tN (s)).toArray⟩,.string ⟨(tD (s)).toArray⟩] 47::.cl b4 [.string ⟨#[]⟩,.string ⟨#[]⟩,.string ⟨#[]⟩,.string ⟨#[]⟩,.string ⟨#[]⟩,.string ⟨#[]⟩] 55::.cl b5 [.string ⟨#[]⟩,.string ⟨#[]⟩,.string ⟨#[]⟩,.string ⟨#[]⟩,.string ⟨#[]⟩,.string ⟨#[]⟩] 55::As) ?_ ?_
 ·refine Zag [.cl b2 [pv,fv,.int .i64 a.x,.int .i64 a.y,.int .i64 a.z,.int .i64 b.x,.int .i64 b.y,.int .i64 b.z] 97,.cl b3 [.string ⟨(tN (s)).toArray⟩,.string ⟨(tD (s)).toArray⟩] 47] [] (.take 0 (.take 1 (.take 2 (.take 3 (.take 4 (.take 5 (.take 6 (.take 7 (.take 8 (.take 9 (.all [(10,.all [(11,.take 12 (.take 13 (.all [(14,.all [(15,.all [(16,.done)])]),(15,.all [(14,.all [(16,.done)])])]))),(15,.all [(11,.take 12 (.take 13 (.all [(14,.all [(16,.done)])])))])]),(15,.all [(10,.all [(11,.take 12 (.take 13 (.all [(14,.all [(16,.done)])])))])])]))))))))))) ?_
  repeat' first|refine Kf ?_|intro _|constructor
  repeat' (first|(refine T1.callv rfl rfl rfl rfl rfl (Zco ht (n:=b.x - a.x) (by omega)) ?_;rintro _ _ ⟨rfl,rfl⟩;(repeat' first|refine Kf ?_|intro _|constructor))|(refine T1.callv rfl rfl rfl rfl rfl (Q.Yg7 ht (hs.mono (by decide)) ((Zbx (z:=b.x - a.x) (by omega)).mono (by decide)) ((k a.x b.x (by omega) (by omega)).1.mono (by decide))) ?_;rintro _ _ ⟨rfl,rfl⟩;(repeat' first|refine Kf ?_|intro _|constructor))|(refine T1.call rfl rfl rfl rfl Zba ?_;rintro _ _ ⟨rfl,rfl⟩;(repeat' first|refine Kf ?_|intro _|constructor)))
  all_goals exact Post.cut _ _ ⟨_,rfl,rfl⟩ Zad Zaa
 rintro _ _ ⟨b7,rfl,rfl⟩
 repeat' first|refine Kz ?_|intro _
 refine Zag [.cl b2 [pv,fv,.int .i64 a.x,.int .i64 a.y,.int .i64 a.z,.int .i64 b.x,.int .i64 b.y,.int .i64 b.z] 97,.cl b7 [.string ⟨(tN (s * ((b.x - a.x:Int):Rat))).toArray⟩,.string ⟨(tD (s * ((b.x - a.x:Int):Rat))).toArray⟩] 47] [] (.take 0 (.take 1 (.take 2 (.take 3 (.take 4 (.take 6 (.all [(5,.all [(7,.take 8 (.take 9 (.all [(10,.take 11 (.all [(12,.done)]))])))])]))))))) ?_
 repeat' first|refine Kf ?_|intro _|constructor
 refine Ku rfl (Zco ht (n:=a.x) (by omega)) ?_
 repeat' first|refine Kf ?_|intro _|constructor
 refine Ku rfl (Q.Yhr ht ((Zbx (z:=a.x) (by omega)).mono (by decide)) ((k a.x b.x (by omega) (by omega)).1.mono (by decide)) ((k a.x b.x (by omega) (by omega)).2.mono (by decide))) ?_
 repeat' first|refine Kf ?_|intro _|constructor
 refine Kw rfl Zba ?_
 repeat' first|refine Kf ?_|intro _|constructor
 show Tri _ _ _ _ _ (.cl b5 [.string ⟨(tN ((a.x:Rat)+s * ((b.x - a.x:Int):Rat))).toArray⟩,.string ⟨(tD ((a.x:Rat)+s * ((b.x - a.x:Int):Rat))).toArray⟩,.string ⟨#[]⟩,.string ⟨#[]⟩,.string ⟨#[]⟩,.string ⟨#[]⟩] _::_) _
 repeat' first|refine Kz ?_|intro _
 refine Tri.mid (fun e' As'=>∃ b7,e'=[(2,.pointer (some ⟨b2,0,none⟩)),(3,.pointer (some ⟨b3,0,none⟩)),(4,.pointer (some ⟨b4,0,none⟩)),(5,.pointer (some ⟨b5,0,none⟩)),(6,.int .i64 1),(7,.pointer (some ⟨b7,0,none⟩)),(8,.int .i64 1)]∧As'=.cl b7 [.string ⟨(tN (s * ((b.y - a.y:Int):Rat))).toArray⟩,.string ⟨(tD (s * ((b.y - a.y:Int):Rat))).toArray⟩] 47::.cl b2 [pv,fv,.int .i64 a.x,.int .i64 a.y,.int .i64 a.z,.int .i64 b.x,.int .i64 b.y,.int .i64 b.z] 97::.cl b3 [.string ⟨(tN (s)).toArray⟩,.string ⟨(tD (s)).toArray⟩] 47::.cl b4 [.string ⟨#[]⟩,.string ⟨#[]⟩,.string ⟨#[]⟩,.string ⟨#[]⟩,.string ⟨#[]⟩,.string ⟨#[]⟩] 55::.cl b5 [.string ⟨(tN ((a.x:Rat)+s * ((b.x - a.x:Int):Rat))).toArray⟩,.string ⟨(tD ((a.x:Rat)+s * ((b.x - a.x:Int):Rat))).toArray⟩,.string ⟨#[]⟩,.string ⟨#[]⟩,.string ⟨#[]⟩,.string ⟨#[]⟩] 55::As) ?_ ?_
 ·refine Zag [.cl b2 [pv,fv,.int .i64 a.x,.int .i64 a.y,.int .i64 a.z,.int .i64 b.x,.int .i64 b.y,.int .i64 b.z] 97,.cl b3 [.string ⟨(tN (s)).toArray⟩,.string ⟨(tD (s)).toArray⟩] 47] [] (.take 0 (.take 1 (.take 2 (.take 3 (.take 4 (.take 5 (.take 6 (.take 7 (.take 8 (.take 9 (.all [(10,.all [(11,.take 12 (.take 13 (.all [(14,.all [(15,.all [(16,.done)])]),(15,.all [(14,.all [(16,.done)])])]))),(15,.all [(11,.take 12 (.take 13 (.all [(14,.all [(16,.done)])])))])]),(15,.all [(10,.all [(11,.take 12 (.take 13 (.all [(14,.all [(16,.done)])])))])])]))))))))))) ?_
  repeat' first|refine Kf ?_|intro _|constructor
  repeat' (first|(refine T1.callv rfl rfl rfl rfl rfl (Zco ht (n:=b.y - a.y) (by omega)) ?_;rintro _ _ ⟨rfl,rfl⟩;(repeat' first|refine Kf ?_|intro _|constructor))|(refine T1.callv rfl rfl rfl rfl rfl (Q.Yg7 ht (hs.mono (by decide)) ((Zbx (z:=b.y - a.y) (by omega)).mono (by decide)) ((k a.y b.y (by omega) (by omega)).1.mono (by decide))) ?_;rintro _ _ ⟨rfl,rfl⟩;(repeat' first|refine Kf ?_|intro _|constructor))|(refine T1.call rfl rfl rfl rfl Zba ?_;rintro _ _ ⟨rfl,rfl⟩;(repeat' first|refine Kf ?_|intro _|constructor)))
  all_goals exact Post.cut _ _ ⟨_,rfl,rfl⟩ Zad Zaa
 rintro _ _ ⟨b7,rfl,rfl⟩
 repeat' first|refine Kz ?_|intro _
 refine Zag [.cl b2 [pv,fv,.int .i64 a.x,.int .i64 a.y,.int .i64 a.z,.int .i64 b.x,.int .i64 b.y,.int .i64 b.z] 97,.cl b7 [.string ⟨(tN (s * ((b.y - a.y:Int):Rat))).toArray⟩,.string ⟨(tD (s * ((b.y - a.y:Int):Rat))).toArray⟩] 47] [] (.take 0 (.take 1 (.take 2 (.take 3 (.take 4 (.take 6 (.all [(5,.all [(7,.take 8 (.take 9 (.all [(10,.take 11 (.all [(12,.done)]))])))])]))))))) ?_
 repeat' first|refine Kf ?_|intro _|constructor
 refine Ku rfl (Zco ht (n:=a.y) (by omega)) ?_
 repeat' first|refine Kf ?_|intro _|constructor
 refine Ku rfl (Q.Yhr ht ((Zbx (z:=a.y) (by omega)).mono (by decide)) ((k a.y b.y (by omega) (by omega)).1.mono (by decide)) ((k a.y b.y (by omega) (by omega)).2.mono (by decide))) ?_
 repeat' first|refine Kf ?_|intro _|constructor
 refine Kw rfl Zba ?_
 repeat' first|refine Kf ?_|intro _|constructor
 show Tri _ _ _ _ _ (.cl b5 [.string ⟨(tN ((a.x:Rat)+s * ((b.x - a.x:Int):Rat))).toArray⟩,.string ⟨(tD ((a.x:Rat)+s * ((b.x - a.x:Int):Rat))).toArray⟩,.string ⟨(tN ((a.y:Rat)+s * ((b.y - a.y:Int):Rat))).toArray⟩,.string ⟨(tD ((a.y:Rat)+s * ((b.y - a.y:Int):Rat))).toArray⟩,.string ⟨#[]⟩,.string ⟨#[]⟩] _::_) _
 repeat' first|refine Kz ?_|intro _
 refine Tri.mid (fun e' As'=>∃ b7,e'=[(2,.pointer (some ⟨b2,0,none⟩)),(3,.pointer (some ⟨b3,0,none⟩)),(4,.pointer (some ⟨b4,0,none⟩)),(5,.pointer (some ⟨b5,0,none⟩)),(6,.int .i64 2),(7,.pointer (some ⟨b7,0,none⟩)),(8,.int .i64 2)]∧As'=.cl b7 [.string ⟨(tN (s * ((b.z - a.z:Int):Rat))).toArray⟩,.string ⟨(tD (s * ((b.z - a.z:Int):Rat))).toArray⟩] 47::.cl b2 [pv,fv,.int .i64 a.x,.int .i64 a.y,.int .i64 a.z,.int .i64 b.x,.int .i64 b.y,.int .i64 b.z] 97::.cl b3 [.string ⟨(tN (s)).toArray⟩,.string ⟨(tD (s)).toArray⟩] 47::.cl b4 [.string ⟨#[]⟩,.string ⟨#[]⟩,.string ⟨#[]⟩,.string ⟨#[]⟩,.string ⟨#[]⟩,.string ⟨#[]⟩] 55::.cl b5 [.string ⟨(tN ((a.x:Rat)+s * ((b.x - a.x:Int):Rat))).toArray⟩,.string ⟨(tD ((a.x:Rat)+s * ((b.x - a.x:Int):Rat))).toArray⟩,.string ⟨(tN ((a.y:Rat)+s * ((b.y - a.y:Int):Rat))).toArray⟩,.string ⟨(tD ((a.y:Rat)+s * ((b.y - a.y:Int):Rat))).toArray⟩,.string ⟨#[]⟩,.string ⟨#[]⟩] 55::As) ?_ ?_
 ·refine Zag [.cl b2 [pv,fv,.int .i64 a.x,.int .i64 a.y,.int .i64 a.z,.int .i64 b.x,.int .i64 b.y,.int .i64 b.z] 97,.cl b3 [.string ⟨(tN (s)).toArray⟩,.string ⟨(tD (s)).toArray⟩] 47] [] (.take 0 (.take 1 (.take 2 (.take 3 (.take 4 (.take 5 (.take 6 (.take 7 (.take 8 (.take 9 (.all [(10,.all [(11,.take 12 (.take 13 (.all [(14,.all [(15,.all [(16,.done)])]),(15,.all [(14,.all [(16,.done)])])]))),(15,.all [(11,.take 12 (.take 13 (.all [(14,.all [(16,.done)])])))])]),(15,.all [(10,.all [(11,.take 12 (.take 13 (.all [(14,.all [(16,.done)])])))])])]))))))))))) ?_
  repeat' first|refine Kf ?_|intro _|constructor
  repeat' (first|(refine T1.callv rfl rfl rfl rfl rfl (Zco ht (n:=b.z - a.z) (by omega)) ?_;rintro _ _ ⟨rfl,rfl⟩;(repeat' first|refine Kf ?_|intro _|constructor))|(refine T1.callv rfl rfl rfl rfl rfl (Q.Yg7 ht (hs.mono (by decide)) ((Zbx (z:=b.z - a.z) (by omega)).mono (by decide)) ((k a.z b.z (by omega) (by omega)).1.mono (by decide))) ?_;rintro _ _ ⟨rfl,rfl⟩;(repeat' first|refine Kf ?_|intro _|constructor))|(refine T1.call rfl rfl rfl rfl Zba ?_;rintro _ _ ⟨rfl,rfl⟩;(repeat' first|refine Kf ?_|intro _|constructor)))
  all_goals exact Post.cut _ _ ⟨_,rfl,rfl⟩ Zad Zaa
 rintro _ _ ⟨b7,rfl,rfl⟩
 repeat' first|refine Kz ?_|intro _
 refine Zag [.cl b2 [pv,fv,.int .i64 a.x,.int .i64 a.y,.int .i64 a.z,.int .i64 b.x,.int .i64 b.y,.int .i64 b.z] 97,.cl b7 [.string ⟨(tN (s * ((b.z - a.z:Int):Rat))).toArray⟩,.string ⟨(tD (s * ((b.z - a.z:Int):Rat))).toArray⟩] 47] [] (.take 0 (.take 1 (.take 2 (.take 3 (.take 4 (.take 6 (.all [(5,.all [(7,.take 8 (.take 9 (.all [(10,.take 11 (.all [(12,.done)]))])))])]))))))) ?_
 repeat' first|refine Kf ?_|intro _|constructor
 refine Ku rfl (Zco ht (n:=a.z) (by omega)) ?_
 repeat' first|refine Kf ?_|intro _|constructor
 refine Ku rfl (Q.Yhr ht ((Zbx (z:=a.z) (by omega)).mono (by decide)) ((k a.z b.z (by omega) (by omega)).1.mono (by decide)) ((k a.z b.z (by omega) (by omega)).2.mono (by decide))) ?_
 repeat' first|refine Kf ?_|intro _|constructor
 refine Kw rfl Zba ?_
 repeat' first|refine Kf ?_|intro _|constructor
 exact Kv
end Go.Proofs.YtbfgldlfciimiaaGreatDoor
namespace Go.Sx
open Go
theorem Yee:Fit 19 (100000:Rat):=Fit.mono (k:=6) (Fit.of (by decide) (by decide) (by decide)) (by decide)
theorem Z3d:((100000:Int):Rat)=100000:=rfl
theorem Z3a {t:Rat} (h0:0≤t) (h1:t≤1):(-(100000 * t)).floor=((-100000:Rat) * t).floor∧-100000≤(-(100000 * t)).floor∧(-(100000 * t)).floor≤0:=by
 rw [Yd5]
 exact ⟨rfl,Zln h0 h1⟩
theorem Zo5 {t:Rat} (h0:0≤t) (h1:t≤1):((100000:Rat) * (1 - t)).floor=100000+((-100000:Rat) * t).floor∧0≤((100000:Rat) * (1 - t)).floor∧((100000:Rat) * (1 - t)).floor≤100000:=by
 rw [Ybb]
 have:=Zln h0 h1
 exact ⟨rfl,by omega,by omega⟩
theorem Z71 {P F:List V3} (h:lowO P F=none):extO P F=none:=by unfold extO;rw [h];rfl
theorem Ztp {P F:List V3} (h:highO P F=none):extO P F=none:=by unfold extO;rw [h];cases lowO P F<;>rfl
theorem Zlo {P F:List V3} {l k:Int} (h1:lowO P F=some l) (h2:highO P F=some k):extO P F=if k < l then none else some (l,k):=by unfold extO;rw [h1,h2];rfl
theorem Z3b {P F:List V3} (h:(sideW P F blackV).1=0):lowO P F=(rayM metP P F blackV whiteV false).map fun x=>-((-100000:Rat) * x.1).floor:=if_pos h
theorem Z7f {P F:List V3} (h:(sideW P F blackV).1≠0):lowO P F=some 0:=if_neg h
theorem Zlm {P F:List V3} (h:(sideW P F whiteV).1=0):highO P F=(rayM metP P F whiteV blackV false).map fun x=>100000+((-100000:Rat) * x.1).floor:=if_pos h
theorem Ztc {P F:List V3} (h:(sideW P F whiteV).1≠0):highO P F=some 100000:=if_neg h
theorem Zjw {P F:List V3} {a b:V3} (hg:Good P F) (ha:isFar a=false) (hb:isFar b=false) (hab:a≠b) {t:Rat} {j:Nat} (h:rayM metP P F a b false=some (t,j)):0≤t∧t≤1∧Fit 19 t:=by
 obtain ⟨_,_,h2,h3,_⟩:=(Zi4 hg (a:=a) (b:=b) hab).1 t j h
 exact ⟨h2,h3,Zlf hg ha hb hab h⟩
end Go.Sx
namespace Go.Proofs.YtbfgldlfciimiaaGreatDoor
open Go Go.Sx
variable {w0:World} {As:List Ent} {pv fv:Value} {pts fcs:List V3}
def extE (As:List Ent) (o:Option (Int × Int)) (v:Value) (Bs:List Ent):Prop:=∃ l h,o=some (l,h)∧v=.tuple #[.int .i64 l,.int .i64 h]∧Bs=As
def extT (As:List Ent) (o:Option (Int × Int)) (v:Value) (Bs:List Ent):Prop:=o=none∧v=errJ 4∧Bs=As
theorem Zi0 (ht:Tab w0) (hg:Sx.Good pts fcs) {p:V3} (hp:isFar p=false) [RdIn As fv V3 cV3 fcs] [RdIn As pv V3 cV3 pts] :
  CQ Tryz.prog w0 11 [.agg #[pv,fv],p.val] As (.tuple #[.int .i64 (sideW pts fcs p).1,.int .i64 0]):=by
 have h:=Z1u (w0:=w0) (As:=As) (pv:=pv) (fv:=fv) (pts:=pts) (fcs:=fcs) ht (p:=p)
 rw [Z1v hg hp] at h
 exact h
def ancE (As:List Ent) (o:Option V3) (v:Value) (Bs:List Ent):Prop:=∃ c,o=some c∧v=V3.val c∧Bs=As
def ancT (As:List Ent) (o:Option V3) (v:Value) (Bs:List Ent):Prop:=o=none∧v=errJ 4∧Bs=As
set_option maxRecDepth 100000 in
set_option maxHeartbeats 8000000 in
theorem Z32 (ht:Tab w0) (he:ErrR w0) (hg:Sx.Good pts fcs) [RdIn As fv V3 cV3 fcs] [RdIn As pv V3 cV3 pts] :
  CallsE Tryz.prog w0 74 [.agg #[pv,fv]] As (extE As (extO pts fcs)) (extT As (extO pts fcs)):=by
 refine Zct Tryz.func74 rfl Tryz.ntmps74 rfl ?_
 refine Zdb (c:=cV3) (xs:=pts) pv fun q1 c1 w1=>Zdb (c:=cV3) (xs:=fcs) fv fun q2 c2 w2=>?_
 subst w1 w2
 repeat' first|refine Kz ?_|intro _
 rename_i b1 b4 b5
 refine TL.callv rfl rfl rfl rfl (Zco ht (n:=100000) (by decide)) ?_
 rw [Z3d]
 rintro _ _ ⟨rfl,rfl⟩
 repeat' first|refine Kz ?_|intro _
 rename_i b6
 refine Ks rfl (Zi0 ht hg (p:=blackV) rfl) ?_
 repeat' first|refine Kz ?_|intro _
 refine Kt rfl Ze9 ?_
 repeat' first|refine Kz ?_|intro _
 by_cases hb:(sideW pts fcs blackV).1=0
 ·rw [hb]
  repeat' first|refine Kz ?_|intro _
  refine TL.callvE rfl rfl rfl rfl (Zd1 ht hg (pv:=.slice q1 pts.length c1) (fv:=.slice q2 fcs.length c2) (a:=blackV) (b:=whiteV) rfl rfl (by decide) (y:=false)) ?_ ?_
  ·rintro _ _ ⟨ho,rfl,rfl⟩
   have hn:=Z71 (by rw [Z3b hb,ho];rfl)
   repeat' first|refine Kz ?_|intro _
   exact Zay rfl ⟨_,⟨hn,rfl,rfl⟩,Zaa⟩
  ·rintro _ _ ⟨t,jt,ho,rfl,rfl⟩
   obtain ⟨t0,t1,ft⟩:=Zjw hg rfl rfl (by decide) ho
   show TL _ _ _ _ _ ((_,.agg #[.string ⟨(tN t).toArray⟩,.string ⟨(tD t).toArray⟩])::_) _ _
   repeat' first|refine Kz ?_|intro _
   obtain ⟨d1,d2,d3⟩:=Z3a t0 t1
   have hL:lowO pts fcs=some (-(-((100000:Rat) * t)).floor):=by rw [Z3b hb,ho,d1];rfl
   have k1:=Yee.mul ft
   clear ho
   refine Ks rfl (Q.Yg7 ht (r:=100000) (s:=t) (Yee.mono (by decide)) (ft.mono (by decide)) (k1.mono (by decide))) ?_
   repeat' first|refine Kz ?_|intro _
   refine Kt rfl Zba ?_
   repeat' first|refine Kz ?_|intro _
   refine Ks rfl (Q.Yg5 ht (r:=100000 * t) (k1.mono (by decide))) ?_
   repeat' first|refine Kz ?_|intro _
   refine Kt rfl Zba ?_
   repeat' first|refine Kz ?_|intro _
   refine Ks rfl (Zmx ht he (a:=-(100000 * t)) (k1.neg.mono (by decide)) (by omega)) ?_
   generalize (-((100000:Rat) * t)).floor=W at *
   clear d1 k1
   repeat' first|refine Kz ?_|intro _
   refine Ks rfl (Zi0 ht hg (p:=whiteV) rfl) ?_
   repeat' first|refine Kz ?_|intro _
   refine Kt rfl Ze9 ?_
   repeat' first|refine Kz ?_|intro _
   by_cases hw:(sideW pts fcs whiteV).1=0
   ·rw [hw]
    repeat' first|refine Kz ?_|intro _
    refine TL.callvE rfl rfl rfl rfl (Zd1 ht hg (pv:=.slice q1 pts.length c1) (fv:=.slice q2 fcs.length c2) (a:=whiteV) (b:=blackV) rfl rfl (by decide) (y:=false)) ?_ ?_
    ·rintro _ _ ⟨ho,rfl,rfl⟩
     have hn:=Ztp (by rw [Zlm hw,ho];rfl)
     repeat' first|refine Kz ?_|intro _
     exact Zay rfl ⟨_,⟨hn,rfl,rfl⟩,Zaa⟩
    ·rintro _ _ ⟨u,ju,ho,rfl,rfl⟩
     obtain ⟨u0,u1,fu⟩:=Zjw hg rfl rfl (by decide) ho
     show TL _ _ _ _ _ ((_,.agg #[.string ⟨(tN u).toArray⟩,.string ⟨(tD u).toArray⟩])::_) _ _
     repeat' first|refine Kz ?_|intro _
     obtain ⟨e1,e2,e3⟩:=Zo5 u0 u1
     have hH:highO pts fcs=some ((100000:Rat) * (1 - u)).floor:=by rw [Zlm hw,ho,e1];rfl
     have g1:=fit1.sub fu
     have g2:=Yee.mul g1
     clear ho
     rename_i b8
     refine Zag [.cl b6 [.string ⟨(tN 100000).toArray⟩,.string ⟨(tD 100000).toArray⟩] 47,.cl b8 [.string ⟨(tN u).toArray⟩,.string ⟨(tD u).toArray⟩] 47] [] (.take 0 (.take 2 (.all [(1,.all [(3,.take 4 (.take 5 (.all [(6,.all [(7,.take 8 (.take 9 (.all [(10,.all [(11,.take 12 (.done))])])))])])))])]))) ?_
     repeat' first|refine Kf ?_|intro _|constructor
     refine T1.callv rfl rfl rfl rfl rfl (Zco ht (n:=1) (by decide)) ?_
     rw [show ((1:Int):Rat)=1 from rfl]
     rintro _ _ ⟨rfl,rfl⟩
     repeat' first|refine Kf ?_|intro _|constructor
     refine Ku rfl (Q.Ygu ht (r:=1) (s:=u) (fit1.mono (by decide)) (fu.mono (by decide)) (g1.mono (by decide))) ?_
     repeat' first|refine Kf ?_|intro _|constructor
     refine Kw rfl Zba ?_
     repeat' first|refine Kf ?_|intro _|constructor
     refine Ku rfl (Q.Yg7 ht (r:=100000) (s:=1 - u) (Yee.mono (by decide)) (g1.mono (by decide)) (g2.mono (by decide))) ?_
     repeat' first|refine Kf ?_|intro _|constructor
     refine Kw rfl Zba ?_
     repeat' first|refine Kf ?_|intro _|constructor
     refine Ku rfl (Zmx ht he (a:=100000 * (1 - u)) (g2.mono (by decide)) (by omega)) ?_
     generalize ((100000:Rat) * (1 - u)).floor=H at *
     clear e1 g1 g2
     repeat' first|refine Kf ?_|intro _|constructor
     have h2:=Zlo hL hH
     rw [h2]
     clear h2 hL hH
     by_cases hlt:H < -W
     ·rw [if_pos hlt]
      repeat' first|refine Kf ?_|intro _|constructor
      refine TL.f rfl rfl (Ze4 rfl rfl) ?_
      refine TL.panic rfl rfl ?_
      repeat' first|refine Kz ?_|intro _
      exact Zay rfl ⟨_,⟨rfl,rfl,rfl⟩,Zaa⟩
     ·rw [if_neg hlt]
      repeat' first|refine Kf ?_|intro _|constructor
      refine Zcw ?_
      (refine Zac ?_)
      exact ⟨_,⟨_,_,rfl,rfl,rfl⟩,Zaa⟩
   ·have hH:=Ztc hw
    generalize (sideW pts fcs whiteV).1=sw at *
    repeat' first|refine Kz ?_|intro _
    have h2:=Zlo hL hH
    rw [if_neg (by omega)] at h2
    rw [h2]
    clear h2 hL hH
    repeat' first|refine Kz ?_|intro _
    refine Zcw ?_
    (refine Zac ?_)
    exact ⟨_,⟨_,_,rfl,rfl,rfl⟩,Zaa⟩
 ·have hL:=Z7f hb
  generalize (sideW pts fcs blackV).1=sb at *
  repeat' first|refine Kz ?_|intro _
  refine Ks rfl (Zi0 ht hg (p:=whiteV) rfl) ?_
  repeat' first|refine Kz ?_|intro _
  refine Kt rfl Ze9 ?_
  repeat' first|refine Kz ?_|intro _
  by_cases hw:(sideW pts fcs whiteV).1=0
  ·rw [hw]
   repeat' first|refine Kz ?_|intro _
   refine TL.callvE rfl rfl rfl rfl (Zd1 ht hg (pv:=.slice q1 pts.length c1) (fv:=.slice q2 fcs.length c2) (a:=whiteV) (b:=blackV) rfl rfl (by decide) (y:=false)) ?_ ?_
   ·rintro _ _ ⟨ho,rfl,rfl⟩
    have hn:=Ztp (by rw [Zlm hw,ho];rfl)
    repeat' first|refine Kz ?_|intro _
    exact Zay rfl ⟨_,⟨hn,rfl,rfl⟩,Zaa⟩
   ·rintro _ _ ⟨u,ju,ho,rfl,rfl⟩
    obtain ⟨u0,u1,fu⟩:=Zjw hg rfl rfl (by decide) ho
    show TL _ _ _ _ _ ((_,.agg #[.string ⟨(tN u).toArray⟩,.string ⟨(tD u).toArray⟩])::_) _ _
    repeat' first|refine Kz ?_|intro _
    obtain ⟨e1,e2,e3⟩:=Zo5 u0 u1
    have hH:highO pts fcs=some ((100000:Rat) * (1 - u)).floor:=by rw [Zlm hw,ho,e1];rfl
    have g1:=fit1.sub fu
    have g2:=Yee.mul g1
    clear ho
    rename_i b8
    refine Zag [.cl b6 [.string ⟨(tN 100000).toArray⟩,.string ⟨(tD 100000).toArray⟩] 47,.cl b8 [.string ⟨(tN u).toArray⟩,.string ⟨(tD u).toArray⟩] 47] [] (.take 0 (.take 2 (.all [(1,.all [(3,.take 4 (.take 5 (.all [(6,.all [(7,.take 8 (.take 9 (.all [(10,.all [(11,.take 12 (.done))])])))])])))])]))) ?_
    repeat' first|refine Kf ?_|intro _|constructor
    refine T1.callv rfl rfl rfl rfl rfl (Zco ht (n:=1) (by decide)) ?_
    rw [show ((1:Int):Rat)=1 from rfl]
    rintro _ _ ⟨rfl,rfl⟩
    repeat' first|refine Kf ?_|intro _|constructor
    refine Ku rfl (Q.Ygu ht (r:=1) (s:=u) (fit1.mono (by decide)) (fu.mono (by decide)) (g1.mono (by decide))) ?_
    repeat' first|refine Kf ?_|intro _|constructor
    refine Kw rfl Zba ?_
    repeat' first|refine Kf ?_|intro _|constructor
    refine Ku rfl (Q.Yg7 ht (r:=100000) (s:=1 - u) (Yee.mono (by decide)) (g1.mono (by decide)) (g2.mono (by decide))) ?_
    repeat' first|refine Kf ?_|intro _|constructor
    refine Kw rfl Zba ?_
    repeat' first|refine Kf ?_|intro _|constructor
    refine Ku rfl (Zmx ht he (a:=100000 * (1 - u)) (g2.mono (by decide)) (by omega)) ?_
    generalize ((100000:Rat) * (1 - u)).floor=H at *
    clear e1 g1 g2
    repeat' first|refine Kf ?_|intro _|constructor
    have h2:=Zlo hL hH
    rw [if_neg (by omega)] at h2
    rw [h2]
    clear h2 hL hH
    repeat' first|refine Kf ?_|intro _|constructor
    refine Zcw ?_
    (refine Zac ?_)
    exact ⟨_,⟨_,_,rfl,rfl,rfl⟩,Zaa⟩
  ·have hH:=Ztc hw
   generalize (sideW pts fcs whiteV).1=sw at *
   repeat' first|refine Kz ?_|intro _
   have h2:=Zlo hL hH
   rw [if_neg (by omega)] at h2
   rw [h2]
   clear h2 hL hH
   repeat' first|refine Kz ?_|intro _
   refine Zcw ?_
   (refine Zac ?_)
   exact ⟨_,⟨_,_,rfl,rfl,rfl⟩,Zaa⟩
set_option maxRecDepth 100000 in
set_option maxHeartbeats 4000000 in
theorem Zke (ht:Tab w0) (he:ErrR w0) (hg:Sx.Good pts fcs) {p:V3} (hp:isFar p=false) [RdIn As fv V3 cV3 fcs] [RdIn As pv V3 cV3 pts] :
  CallsE Tryz.prog w0 39 [.agg #[pv,fv],p.val] As (ancE As (anchorO pts fcs p)) (ancT As (anchorO pts fcs p)):=by
 have bp:=Zcv hp
 obtain ⟨p1,p2,p3,p4,p5,p6⟩:=bp
 refine Zct Tryz.func39 rfl Tryz.ntmps39 rfl ?_
 show Tri _ _ _ _ (env0 0 [.agg #[pv,fv],.agg #[.int .i64 p.x,.int .i64 p.y,.int .i64 p.z]]) _ _
 repeat' first|refine Kz ?_|intro _
 refine TL.callvE rfl rfl rfl rfl (Z32 ht he hg) ?_ ?_
 ·rintro _ _ ⟨ho,rfl,rfl⟩
  have hn:anchorO pts fcs p=none:=by unfold anchorO;rw [ho];rfl
  rw [hn]
  repeat' first|refine Kz ?_|intro _
  exact Zay rfl ⟨_,⟨rfl,rfl,rfl⟩,Zaa⟩
 ·rintro _ _ ⟨l,h,ho,rfl,rfl⟩
  have hin:=Z9f hg ho
  have hfr:=Zkd hg ho p
  have hA:anchorO pts fcs p=if (sideW pts fcs (anchorV l h p)).1=2 then some (anchorV l h p) else none:=by unfold anchorO;rw [ho];rfl
  rw [hA]
  clear hA ho
  have e:(if h - (h - l) / 4 < (if p.x < l+(h - l) / 4 then l+(h - l) / 4 else p.x) then h - (h - l) / 4 else (if p.x < l+(h - l) / 4 then l+(h - l) / 4 else p.x))=(anchorV l h p).x:=by
   unfold anchorV
   simp only
   split<;>split<;>omega
  repeat' first|refine Kz ?_|intro _
  rw [e]
  clear e
  refine Ks rfl (Zi0 ht hg (p:=anchorV l h p) hfr) ?_
  have hy:(anchorV l h p)=⟨(anchorV l h p).x,0,0⟩:=rfl
  generalize anchorV l h p=c at *
  repeat' first|refine Kz ?_|intro _
  refine Kt rfl Ze9 ?_
  generalize (sideW pts fcs c).1=s at *
  by_cases hs:s=2
  ·rw [if_pos hs]
   repeat' first|refine Kz ?_|intro _
   refine Zcw ?_
   (refine Zac ?_)
   exact ⟨_,⟨c,rfl,by rw [hy];rfl,rfl⟩,Zaa⟩
  ·rw [if_neg hs]
   repeat' first|refine Kz ?_|intro _
   refine TL.f rfl rfl (Ze4 rfl rfl) ?_
   refine TL.panic rfl rfl ?_
   repeat' first|refine Kz ?_|intro _
   exact Zay rfl ⟨_,⟨rfl,rfl,rfl⟩,Zaa⟩
end Go.Proofs.YtbfgldlfciimiaaGreatDoor
