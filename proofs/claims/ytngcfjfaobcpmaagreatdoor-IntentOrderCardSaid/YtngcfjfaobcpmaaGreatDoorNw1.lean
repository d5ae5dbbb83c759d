/- Walks: intent: must, whole numbers, floors, exact colors. -/
import Derived.Test.YtngcfjfaobcpmaaGreatDoorCc3
import Derived.Test.YtngcfjfaobcpmaaGreatDoorNp1
import Derived.Test.YtngcfjfaobcpmaaGreatDoorIx9
import Derived.Test.YtngcfjfaobcpmaaGreatDoorIm4
set_option maxHeartbeats 1000000
namespace Go.Sx
open Go
def frV (r:Rat):Value:=.agg #[.string ⟨(tN r).toArray⟩,.string ⟨(tD r).toArray⟩]
def frtV (x y z:Rat):Value:=.agg #[.string ⟨(tN x).toArray⟩,.string ⟨(tD x).toArray⟩,.string ⟨(tN y).toArray⟩,.string ⟨(tD y).toArray⟩,.string ⟨(tN z).toArray⟩,.string ⟨(tD z).toArray⟩]
theorem Zhk (n:Int):qI n 1=(n:Rat):=by
 rw [Zfa]
 have:((1:Int):Rat)=1:=rfl
 rw [this];grind
end Go.Sx
namespace Go.Proofs.YtngcfjfaobcpmaaGreatDoor
open Go Go.Sx
variable {w0:World} {As:List Ent}
def errV (e:Int):Value:=.iface 39 (.int .i64 e)
theorem Za9 {n d:List UInt8}:CQ Tryz.prog w0 81 [.agg #[.string ⟨n.toArray⟩,.string ⟨d.toArray⟩],.int .i64 0] As (.agg #[.string ⟨n.toArray⟩,.string ⟨d.toArray⟩]):=by
 refine Zab Tryz.func81 rfl Tryz.ntmps81 rfl ?_
 repeat' first|refine Kz ?_|intro _
 exact Kv
theorem Z7r {n d:List UInt8} {e:Int} (h:e≠0):CallsP Tryz.prog w0 81 [.agg #[.string ⟨n.toArray⟩,.string ⟨d.toArray⟩],.int .i64 e] As fun r Bs=>r=errV e∧Bs=As:=by
 refine Zkq Tryz.func81 rfl Tryz.ntmps81 rfl ?_
 repeat' first|refine Kz ?_|intro _
 refine TL.f rfl rfl (Zg6 rfl rfl) ?_
 refine TL.panic rfl rfl ?_
 repeat' first|refine Kz ?_|intro _
 exact Zaz rfl ⟨_,⟨rfl,rfl⟩,Zaa⟩
theorem Zfo {v:Int}:CQ Tryz.prog w0 48 [.int .i64 v,.int .i64 0] As (.int .i64 v):=by
 refine Zab Tryz.func48 rfl Tryz.ntmps48 rfl ?_
 repeat' first|refine Kz ?_|intro _
 exact Kv
theorem Zcy (ht:Tab w0) {n:Int} (hn:-9223372036854775807≤n∧n≤9223372036854775807):CQ Tryz.prog w0 79 [.int .i64 n] As (frV (n:Rat)):=by
 refine Zab Tryz.func79 rfl Tryz.ntmps79 rfl ?_
 repeat' first|refine Kz ?_|intro _
 refine TL.callv rfl rfl rfl rfl (Zho ht (n:=n) (d:=1) hn (by decide) (by decide)) ?_
 rw [Zhk]
 rintro _ _ ⟨rfl,rfl⟩
 repeat' first|refine Kz ?_|intro _
 refine Kt rfl Za9 ?_
 repeat' first|refine Kz ?_|intro _
 exact Kv
theorem Z7o {a:Rat} (hz:-9223372036854775808≤a.floor∧a.floor≤9223372036854775807):Q.nearO (some (a - mkRat 1 2)) 1=(a.floor,0):=by
 unfold Q.nearO
 simp only []
 rw [if_pos (by decide),show ((1:Int).toNat)=1 from rfl,Z0j,if_pos hz]
set_option maxRecDepth 100000 in
theorem Zn0 (ht:Tab w0) (he:ErrR w0) {a:Rat} (hf:Fit 500 a) (hz:-9223372036854775808≤a.floor∧a.floor≤9223372036854775807) :
  CQ Tryz.prog w0 80 [frV a] As (.int .i64 a.floor):=by
 have f2:Fit 19 (mkRat 1 2):=Fit.mono (k:=1) (Fit.of (by decide) (by decide +kernel) (by decide +kernel)) (by decide)
 have f3:Fit 600 (a - mkRat 1 2):=(hf.sub f2).mono (by decide)
 refine Zab Tryz.func80 rfl Tryz.ntmps80 rfl ?_
 show Tri _ _ _ _ (env0 0 [.agg #[.string ⟨(tN a).toArray⟩,.string ⟨(tD a).toArray⟩]]) _ _
 repeat' first|refine Kz ?_|intro _
 rename_i b1
 refine Zaf [.cl b1 [.string ⟨(tN a).toArray⟩,.string ⟨(tD a).toArray⟩] 52] [] (.take 0 (.all [(1,.take 2 (.take 3 (.all [(4,.all [(5,.take 6 (.take 7 (.all [(8,.all [(9,.take 10 (.take 11 (.all [(12,.take 13 (.done))])))])])))])])))])) ?_
 repeat' first|refine Kf ?_|intro _|constructor
 refine T1.callv rfl rfl rfl rfl rfl (Zho ht (n:=1) (d:=2) (by decide) (by decide) (by decide)) ?_
 rw [show qI 1 2=mkRat 1 2 by decide +kernel]
 rintro _ _ ⟨rfl,rfl⟩
 repeat' first|refine Kf ?_|intro _|constructor
 refine Kw rfl Za9 ?_
 repeat' first|refine Kf ?_|intro _|constructor
 refine Ku rfl (Q.Yhc ht (hf.mono (by decide)) (f2.mono (by decide)) f3) ?_
 repeat' first|refine Kf ?_|intro _|constructor
 refine Kw rfl Za9 ?_
 repeat' first|refine Kf ?_|intro _|constructor
 refine T1.callv rfl rfl rfl rfl rfl (Q.Ygf ht he (k:=1) f3) ?_
 rw [Z7o hz]
 rintro _ _ ⟨rfl,rfl⟩
 repeat' first|refine Kf ?_|intro _|constructor
 refine Kw rfl Zfo ?_
 repeat' first|refine Kf ?_|intro _|constructor
 exact Kv
theorem Zvx {p:V3}:CQ Tryz.prog w0 40 [p.val] As (.bool (isFar p)):=by
 refine Zab Tryz.func40 rfl Tryz.ntmps40 rfl ?_
 show Tri _ _ _ _ (env0 0 [.agg #[.int .i64 p.x,.int .i64 p.y,.int .i64 p.z]]) _ _
 repeat' first|refine Kz ?_|intro _
 refine Zah 4 ?_
 (repeat' (first|((show TL _ _ _ _ (_::_) _ _ _;first|refine Zgi ?_|refine Zgg ?_|(refine Zdl ?_;intro _)|(refine Zdx ?_;first|rintro _ _ ⟨rfl,rfl⟩|rintro _ _ rfl)|refine Zb8 ?_|refine Zbm ?_|refine Zgh ?_|fail))|(refine Stp.h ?_)|(first|(show TT _ _ _ _ _ _ _ _ _;first|refine Zit ?_|refine Zgf ?_|refine Zd9 ?_|refine Z0y ?_|fail)|exact TTs.nil|refine TTs.cons ?_ ?_|(show T1 _ _ _ _ _ _ _ _ _ _;first|refine Z0z ?_|(refine Zqc ?_;intro _)|(refine Zqb ?_;first|rintro _ _ ⟨rfl,rfl⟩|rintro _ _ rfl)|refine Z01 ?_|refine Zlg ?_|refine Ziu ?_|fail)|(show TC _ _ _ _ _ _ _ _ _ _;first|refine Zqa ?_|refine Zlf ?_|fail))|((show Tri _ _ _ (.cond _ _ _) _ _ _;first|refine Zb6 ?_|refine Zb7 ?_|refine Zau ?_|refine Zav ?_|refine Zar ?_|refine Zas ?_|fail))|(first|refine Zbi rfl rfl (fun hgs=>?_) (fun hgs=>?_)|refine Za7 rfl rfl (fun hgs=>?_) (fun hgs=>?_)|refine Zbh rfl rfl rfl (fun hgs=>?_) (fun hgs=>?_)|refine Za6 rfl rfl rfl (fun hgs=>?_) (fun hgs=>?_))|(refine Kx (fun hc=>?_) fun hc=>?_)))
 all_goals
  (refine Zac ?_)
  refine ⟨_,⟨?_,rfl⟩,Zaa⟩
  rw [Value.bool.injEq]
  simp [isFar]
  omega
set_option maxRecDepth 100000 in
theorem Zyp (ht:Tab w0) {p:V3} (hx:-400000≤p.x∧p.x≤400000) (hy:-400000≤p.y∧p.y≤400000) (hz:-400000≤p.z∧p.z≤400000):CQ Tryz.prog w0 49 [p.val] As (frtV (p.x:Rat) (p.y:Rat) (p.z:Rat)):=by
 refine Zab Tryz.func49 rfl Tryz.ntmps49 rfl ?_
 show Tri _ _ _ _ (env0 0 [.agg #[.int .i64 p.x,.int .i64 p.y,.int .i64 p.z]]) _ _
 repeat' first|refine Kz ?_|intro _
 rename_i b1 b2
 refine Zaf [.cl b1 [.int .i64 p.x,.int .i64 p.y,.int .i64 p.z] 33] [] (.take 0 (.take 1 (.take 3 (.take 4 (.take 6 (.take 7 (.all [(2,.all [(5,.all [(8,.take 9 (.all [(10,.done)]))])])]))))))) ?_
 repeat' first|refine Kf ?_|intro _|constructor
 refine Ku rfl (Zcy ht (n:=p.x) (by omega)) ?_
 repeat' first|refine Kf ?_|intro _|constructor
 refine Ku rfl (Zcy ht (n:=p.y) (by omega)) ?_
 repeat' first|refine Kf ?_|intro _|constructor
 refine Ku rfl (Zcy ht (n:=p.z) (by omega)) ?_
 repeat' first|refine Kf ?_|intro _|constructor
 exact Kv
end Go.Proofs.YtngcfjfaobcpmaaGreatDoor
namespace Go.Proofs.YtngcfjfaobcpmaaGreatDoor
open Go Go.Sx
variable {w0:World} {As:List Ent} {pv fv:Value} {pts fcs:List V3}
def lineV (pv fv:Value) (a b:V3):Value:=.agg #[pv,fv,.int .i64 a.x,.int .i64 a.y,.int .i64 a.z,.int .i64 b.x,.int .i64 b.y,.int .i64 b.z]
def metE (As:List Ent) (o:Option (Rat × Nat)) (v:Value) (Bs:List Ent):Prop:=∃ t j,o=some (t,j)∧v=frV t∧Bs=As
def metT (As:List Ent) (o:Option (Rat × Nat)) (v:Value) (Bs:List Ent):Prop:=o=none∧v=errV 4∧Bs=As
theorem Zc9 (hg:Sx.Good pts fcs) {a b:V3} (ha:isFar a=false) (hb:isFar b=false) (hab:a≠b) (y:Bool) :
  rayW pts fcs a b y=match rayM metP pts fcs a b y with|none=>.inl 4|some r=>.inr r:=by
 unfold rayW
 rw [if_neg (fun h=>h (Yga.2 hg)),if_neg (by rintro (h|h|h);rw [ha] at h;cases h;rw [hb] at h;cases h;exact hab h)]
 cases rayM metP pts fcs a b y<;>rfl
set_option maxRecDepth 100000 in
theorem Zej (ht:Tab w0) {a b:V3} {y:Bool} [RdIn As fv V3 cV3 fcs] [RdIn As pv V3 cV3 pts] (hg:Sx.Good pts fcs) (ha:isFar a=false) (hb:isFar b=false) (hab:a≠b) :
  CallsE Tryz.prog w0 51 [lineV pv fv a b,.bool y] As (metE As (rayM metP pts fcs a b y)) (metT As (rayM metP pts fcs a b y)):=by
 refine Zc6 Tryz.func51 rfl Tryz.ntmps51 rfl ?_
 show Tri _ _ _ _ (env0 0 [.agg #[pv,fv,.int .i64 a.x,.int .i64 a.y,.int .i64 a.z,.int .i64 b.x,.int .i64 b.y,.int .i64 b.z],.bool y]) _ _
 have hr:=fun (Bs:List Ent) [RdIn Bs fv V3 cV3 fcs] [RdIn Bs pv V3 cV3 pts]=>Zs1 (As:=Bs) (w0:=w0) (pv:=pv) (fv:=fv) (pts:=pts) (fcs:=fcs) ht (p:=a) (q:=b) (y:=y)
 rw [Zc9 hg ha hb hab] at hr
 generalize rayM metP pts fcs a b y=o at *
 refine Zdt (c:=cV3) (xs:=pts) pv fun p1 c1 e1=>Zdt (c:=cV3) (xs:=fcs) fv fun p2 c2 e2=>?_
 subst e1 e2
 repeat' first|refine Kz ?_|intro _
 refine Ks rfl (hr _) ?_
 cases o with
 | none =>
  show TL _ _ _ _ _ ((_,.tuple #[.agg #[.string ⟨#[]⟩,.string ⟨#[]⟩],.int .i64 0,.int .i64 4])::_) _ _
  repeat' first|refine Kz ?_|intro _
  refine TL.callP rfl rfl rfl (Z7r (n:=[]) (d:=[]) (e:=4) (by decide)) ?_
  rintro _ _ ⟨rfl,rfl⟩
  repeat' first|refine Kz ?_|intro _
  exact Zaz rfl ⟨_,⟨rfl,rfl,rfl⟩,Zaa⟩
 | some r =>
  obtain ⟨t,j⟩:=r
  show TL _ _ _ _ _ ((_,.tuple #[.agg #[.string ⟨(tN t).toArray⟩,.string ⟨(tD t).toArray⟩],.int .i64 (j:Int),.int .i64 0])::_) _ _
  repeat' first|refine Kz ?_|intro _
  refine Kt rfl Za9 ?_
  repeat' first|refine Kz ?_|intro _
  refine Zdd ?_
  (refine Zac ?_)
  exact ⟨_,⟨t,j,rfl,rfl,rfl⟩,Zaa⟩
def atV (a b:V3) (s:Rat):Value:=frtV ((a.x:Rat)+s * ((b.x - a.x:Int):Rat)) ((a.y:Rat)+s * ((b.y - a.y:Int):Rat)) ((a.z:Rat)+s * ((b.z - a.z:Int):Rat))
set_option maxRecDepth 100000 in
set_option maxHeartbeats 4000000 in
theorem Zti (ht:Tab w0) {a b:V3} {s:Rat} (ha:isFar a=false) (hb:isFar b=false) (hs:Fit 200 s) :
  CQ Tryz.prog w0 50 [lineV pv fv a b,frV s] As (atV a b s):=by
 have ba:=Zb2 ha
 have bb:=Zb2 hb
 obtain ⟨a1,a2,a3,a4,a5,a6⟩:=ba
 obtain ⟨b1,b2,b3,b4,b5,b6⟩:=bb
 have k:=fun (c p:Int) (h1:-200000≤c∧c≤200000) (h2:-200000≤p∧p≤200000)=>Zwg (c:=c) (p:=p) (s:=s) (k:=200) h1 h2 hs
 refine Zab Tryz.func50 rfl Tryz.ntmps50 rfl ?_
 show Tri _ _ _ _ (env0 0 [.agg #[pv,fv,.int .i64 a.x,.int .i64 a.y,.int .i64 a.z,.int .i64 b.x,.int .i64 b.y,.int .i64 b.z],.agg #[.string ⟨(tN (s)).toArray⟩,.string ⟨(tD (s)).toArray⟩]]) _ _
 repeat' first|refine Kz ?_|intro _
 rename_i b2 b3 b4 b5
 refine Zah 4 ?_
 repeat' first|refine Kz ?_|intro _
 refine Tri.mid (fun e' As'=>∃ b7,e'=[(2,.pointer (some ⟨b2,0,none⟩)),(3,.pointer (some ⟨b3,0,none⟩)),(4,.pointer (some ⟨b4,0,none⟩)),(5,.pointer (some ⟨b5,0,none⟩)),(6,.int .i64 0),(7,.pointer (some ⟨b7,0,none⟩)),(8,.int .i64 0)]∧As'=.cl b7 [.string ⟨(tN (s * ((b.x - a.x:Int):Rat))).toArray⟩,.string ⟨(tD (s * ((b.x - a.x:Int):Rat))).toArray⟩] 52::.cl b2 [pv,fv,.int .i64 a.x,.int .i64 a.y,.int .i64 a.z,.int .i64 b.x,.int .i64 b.y,.int .i64 b.z] 97::.cl b3 [.string ⟨(tN (s)).toArray⟩,.string ⟨(tD (s)).toArray⟩] 52::.cl b4 [.string ⟨#[]⟩,.string ⟨#[]⟩,.string ⟨#[]⟩,.string ⟨#[]⟩,.string ⟨#[]⟩,.string ⟨#[]⟩] 54::.cl b5 [.string ⟨#[]⟩,.string ⟨#[]⟩,.string ⟨#[]⟩,.string ⟨#[]⟩,.string ⟨#[]⟩,.string ⟨#[]⟩] 54::As) ?_ ?_
 ·refine Zaf [.cl b2 [pv,fv,.int .i64 a.x,.int .i64 a.y,.int .i64 a.z,.int .i64 b.x,.int .i64 b.y,.int .i64 b.z] 97,.cl b3 [.string ⟨(tN (s)).toArray⟩,.string ⟨(tD (s)).toArray⟩] 52] [] (.take 0 (.take 1 (.take 2 (.take 3 (.take 4 (.take 5 (.take 6 (.take 7 (.take 8 (.take 9 (.all [(10,.all [(11,.take 12 (.take 13 (.all [(14,.all [(15,.all [(16,.done)])]),(15,.all [(14,.all [(16,.done)])])]))),(15,.all [(11,.take 12 (.take 13 (.all [(14,.all [(16,.done)])])))])]),(15,.all [(10,.all [(11,.take 12 (.take 13 (.all [(14,.all [(16,.done)])])))])])]))))))))))) ?_
  repeat' first|refine Kf ?_|intro _|constructor
  repeat' (first|(refine T1.callv rfl rfl rfl rfl rfl (Zcy ht (n:=b.x - a.x) (by omega)) ?_;rintro _ _ ⟨rfl,rfl⟩;(repeat' first|refine Kf ?_|intro _|constructor))|(refine T1.callv rfl rfl rfl rfl rfl (Q.Yhn ht (hs.mono (by decide)) ((Zba (z:=b.x - a.x) (by omega)).mono (by decide)) ((k a.x b.x (by omega) (by omega)).1.mono (by decide))) ?_;rintro _ _ ⟨rfl,rfl⟩;(repeat' first|refine Kf ?_|intro _|constructor))|(refine T1.call rfl rfl rfl rfl Za9 ?_;rintro _ _ ⟨rfl,rfl⟩;(repeat' first|refine Kf ?_|intro _|constructor)))
  all_goals exact Post.cut _ _ ⟨_,rfl,rfl⟩ Zad Zaa
 rintro _ _ ⟨b7,rfl,rfl⟩
 repeat' first|refine Kz ?_|intro _
 refine Zaf [.cl b2 [pv,fv,.int .i64 a.x,.int .i64 a.y,.int .i64 a.z,.int .i64 b.x,.int .i64 b.y,.int .i64 b.z] 97,.cl b7 [.string ⟨(tN (s * ((b.x - a.x:Int):Rat))).toArray⟩,.string ⟨(tD (s * ((b.x - a.x:Int):Rat))).toArray⟩] 52] [] (.take 0 (.take 1 (.take 2 (.take 3 (.take 4 (.take 6 (.all [(5,.all [(7,.take 8 (.take 9 (.all [(10,.take 11 (.all [(12,.done)]))])))])]))))))) ?_
 repeat' first|refine Kf ?_|intro _|constructor
 refine Ku rfl (Zcy ht (n:=a.x) (by omega)) ?_
 repeat' first|refine Kf ?_|intro _|constructor
 refine Ku rfl (Q.Yh7 ht ((Zba (z:=a.x) (by omega)).mono (by decide)) ((k a.x b.x (by omega) (by omega)).1.mono (by decide)) ((k a.x b.x (by omega) (by omega)).2.mono (by decide))) ?_
 repeat' first|refine Kf ?_|intro _|constructor
 refine Kw rfl Za9 ?_
 repeat' first|refine Kf ?_|intro _|constructor
 show Tri _ _ _ _ _ (.cl b5 [.string ⟨(tN ((a.x:Rat)+s * ((b.x - a.x:Int):Rat))).toArray⟩,.string ⟨(tD ((a.x:Rat)+s * ((b.x - a.x:Int):Rat))).toArray⟩,.string ⟨#[]⟩,.string ⟨#[]⟩,.string ⟨#[]⟩,.string ⟨#[]⟩] _::_) _
 repeat' first|refine Kz ?_|intro _
 refine Tri.mid (fun e' As'=>∃ b7,e'=[(2,.pointer (some ⟨b2,0,none⟩)),(3,.pointer (some ⟨b3,0,none⟩)),(4,.pointer (some ⟨b4,0,none⟩)),(5,.pointer (some ⟨b5,0,none⟩)),(6,.int .i64 1),(7,.pointer (some ⟨b7,0,none⟩)),(8,.int .i64 1)]∧As'=.cl b7 [.string ⟨(tN (s * ((b.y - a.y:Int):Rat))).toArray⟩,.string ⟨(tD (s * ((b.y - a.y:Int):Rat))).toArray⟩] 52::.cl b2 [pv,fv,.int .i64 a.x,.int .i64 a.y,.int .i64 a.z,.int .i64 b.x,.int .i64 b.y,.int .i64 b.z] 97::.cl b3 [.string ⟨(tN (s)).toArray⟩,.string ⟨(tD (s)).toArray⟩] 52::.cl b4 [.string ⟨#[]⟩,.string ⟨#[]⟩,.string ⟨#[]⟩,.string ⟨#[]⟩,.string ⟨#[]⟩,.string ⟨#[]⟩] 54::.cl b5 [.string ⟨(tN ((a.x:Rat)+s * ((b.x - a.x:Int):Rat))).toArray⟩,.string ⟨(tD ((a.x:Rat)+s * ((b.x - a.x:Int):Rat))).toArray⟩,.string ⟨#[]⟩,.string ⟨#[]⟩,.string ⟨#[]⟩,.string ⟨#[]⟩] 54::As) ?_ ?_
 ·refine Zaf [.cl b2 [pv,fv,.int .i64 a.x,.int .i64 a.y,.int .i64 a.z,.int .i64 b.x,.int .i64 b.y,.int .i64 b.z] 97,.cl b3 [.string ⟨(tN (s)).toArray⟩,.string ⟨(tD (s)).toArray⟩] 52] [] (.take 0 (.take 1 (.take 2 (.take 3 (.take 4 (.take 5 (.take 6 (.take 7 (.take 8 (.take 9 (.all [(10,.all [(11,.take 12 (.take 13 (.all [(14,.all [(15,.all [(16,.done)])]),(15,.all [(14,.all [(16,.done)])])]))),(15,.all [(11,.take 12 (.take 13 (.all [(14,.all [(16,.done)])])))])]),(15,.all [(10,.all [(11,.take 12 (.take 13 (.all [(14,.all [(16,.done)])])))])])]))))))))))) ?_
  repeat' first|refine Kf ?_|intro _|constructor
  repeat' (first|(refine T1.callv rfl rfl rfl rfl rfl (Zcy ht (n:=b.y - a.y) (by omega)) ?_;rintro _ _ ⟨rfl,rfl⟩;(repeat' first|refine Kf ?_|intro _|constructor))|(refine T1.callv rfl rfl rfl rfl rfl (Q.Yhn ht (hs.mono (by decide)) ((Zba (z:=b.y - a.y) (by omega)).mono (by decide)) ((k a.y b.y (by omega) (by omega)).1.mono (by decide))) ?_;rintro _ _ ⟨rfl,rfl⟩;(repeat' first|refine Kf ?_|intro _|constructor))|(refine T1.call rfl rfl rfl rfl Za9 ?_;rintro _ _ ⟨rfl,rfl⟩;(repeat' first|refine Kf ?_|intro _|constructor)))
  all_goals exact Post.cut _ _ ⟨_,rfl,rfl⟩ Zad Zaa
 rintro _ _ ⟨b7,rfl,rfl⟩
 repeat' first|refine Kz ?_|intro _
 refine Zaf [.cl b2 [pv,fv,.int .i64 a.x,.int .i64 a.y,.int .i64 a.z,.int .i64 b.x,.int .i64 b.y,.int .i64 b.z] 97,.cl b7 [.string ⟨(tN (s * ((b.y - a.y:Int):Rat))).toArray⟩,.string ⟨(tD (s * ((b.y - a.y:Int):Rat))).toArray⟩] 52] [] (.take 0 (.take 1 (.take 2 (.take 3 (.take 4 (.take 6 (.all [(5,.all [(7,.take 8 (.take 9 (.all [(10,.take 11 (.all [(12,.done)]))])))])]))))))) ?_
 repeat' first|refine Kf ?_|intro _|constructor
 refine Ku rfl (Zcy ht (n:=a.y) (by omega)) ?_
 repeat' first|refine Kf ?_|intro _|constructor
 refine Ku rfl (Q.Yh7 ht ((Zba (z:=a.y) (by omega)).mono (by decide)) ((k a.y b.y (by omega) (by omega)).1.mono (by decide)) ((k a.y b.y (by omega) (by omega)).2.mono (by decide))) ?_
 repeat' first|refine Kf ?_|intro _|constructor
 refine Kw rfl Za9 ?_
 repeat' first|refine Kf ?_|intro _|constructor
 show Tri _ _ _ _ _ (.cl b5 [.string ⟨(tN ((a.x:Rat)+s * ((b.x - a.x:Int):Rat))).toArray⟩,.string ⟨(tD ((a.x:Rat)+s * ((b.x - a.x:Int):Rat))).toArray⟩,.string ⟨(tN ((a.y:Rat)+s * ((b.y - a.y:Int):Rat))).toArray⟩,.string ⟨(tD ((a.y:Rat)+s * ((b.y - a.y:Int):Rat))).toArray⟩,.string ⟨#[]⟩,.string ⟨#[]⟩] _::_) _
 repeat' first|refine Kz ?_|intro _
 refine Tri.mid (fun e' As'=>∃ b7,e'=[(2,.pointer (some ⟨b2,0,none⟩)),(3,.pointer (some ⟨b3,0,none⟩)),(4,.pointer (some ⟨b4,0,none⟩)),(5,.pointer (some ⟨b5,0,none⟩)),(6,.int .i64 2),(7,.pointer (some ⟨b7,0,none⟩)),(8,.int .i64 2)]∧As'=.cl b7 [.string ⟨(tN (s * ((b.z - a.z:Int):Rat))).toArray⟩,.string ⟨(tD (s * ((b.z - a.z:Int):Rat))).toArray⟩] 52::.cl b2 [pv,fv,.int .i64 a.x,.int .i64 a.y,.int .i64 a.z,.int .i64 b.x,.int .i64 b.y,.int .i64 b.z] 97::.cl b3 [.string ⟨(tN (s)).toArray⟩,.string ⟨(tD (s)).toArray⟩] 52::.cl b4 [.string ⟨#[]⟩,.string ⟨#[]⟩,.string ⟨#[]⟩,.string ⟨#[]⟩,.string ⟨#[]⟩,.string ⟨#[]⟩] 54::.cl b5 [.string ⟨(tN ((a.x:Rat)+s * ((b.x - a.x:Int):Rat))).toArray⟩,.string ⟨(tD ((a.x:Rat)+s * ((b.x - a.x:Int):Rat))).toArray⟩,.string ⟨(tN ((a.y:Rat)+s * ((b.y - a.y:Int):Rat))).toArray⟩,.string ⟨(tD ((a.y:Rat)+s * ((b.y - a.y:Int):Rat))).toArray⟩,.string ⟨#[]⟩,.string ⟨#[]⟩] 54::As) ?_ ?_
 ·refine Zaf [.cl b2 [pv,fv,.int .i64 a.x,.int .i64 a.y,.int .i64 a.z,.int .i64 b.x,.int .i64 b.y,.int .i64 b.z] 97,.cl b3 [.string ⟨(tN (s)).toArray⟩,.string ⟨(tD (s)).toArray⟩] 52] [] (.take 0 (.take 1 (.take 2 (.take 3 (.take 4 (.take 5 (.take 6 (.take 7 (.take 8 (.take 9 (.all [(10,.all [(11,.take 12 (.take 13 (.all [(14,.all [(15,.all [(16,.done)])]),(15,.all [(14,.all [(16,.done)])])]))),(15,.all [(11,.take 12 (.take 13 (.all [(14,.all [(16,.done)])])))])]),(15,.all [(10,.all [(11,.take 12 (.take 13 (.all [(14,.all [(16,.done)])])))])])]))))))))))) ?_
  repeat' first|refine Kf ?_|intro _|constructor
  repeat' (first|(refine T1.callv rfl rfl rfl rfl rfl (Zcy ht (n:=b.z - a.z) (by omega)) ?_;rintro _ _ ⟨rfl,rfl⟩;(repeat' first|refine Kf ?_|intro _|constructor))|(refine T1.callv rfl rfl rfl rfl rfl (Q.Yhn ht (hs.mono (by decide)) ((Zba (z:=b.z - a.z) (by omega)).mono (by decide)) ((k a.z b.z (by omega) (by omega)).1.mono (by decide))) ?_;rintro _ _ ⟨rfl,rfl⟩;(repeat' first|refine Kf ?_|intro _|constructor))|(refine T1.call rfl rfl rfl rfl Za9 ?_;rintro _ _ ⟨rfl,rfl⟩;(repeat' first|refine Kf ?_|intro _|constructor)))
  all_goals exact Post.cut _ _ ⟨_,rfl,rfl⟩ Zad Zaa
 rintro _ _ ⟨b7,rfl,rfl⟩
 repeat' first|refine Kz ?_|intro _
 refine Zaf [.cl b2 [pv,fv,.int .i64 a.x,.int .i64 a.y,.int .i64 a.z,.int .i64 b.x,.int .i64 b.y,.int .i64 b.z] 97,.cl b7 [.string ⟨(tN (s * ((b.z - a.z:Int):Rat))).toArray⟩,.string ⟨(tD (s * ((b.z - a.z:Int):Rat))).toArray⟩] 52] [] (.take 0 (.take 1 (.take 2 (.take 3 (.take 4 (.take 6 (.all [(5,.all [(7,.take 8 (.take 9 (.all [(10,.take 11 (.all [(12,.done)]))])))])]))))))) ?_
 repeat' first|refine Kf ?_|intro _|constructor
 refine Ku rfl (Zcy ht (n:=a.z) (by omega)) ?_
 repeat' first|refine Kf ?_|intro _|constructor
 refine Ku rfl (Q.Yh7 ht ((Zba (z:=a.z) (by omega)).mono (by decide)) ((k a.z b.z (by omega) (by omega)).1.mono (by decide)) ((k a.z b.z (by omega) (by omega)).2.mono (by decide))) ?_
 repeat' first|refine Kf ?_|intro _|constructor
 refine Kw rfl Za9 ?_
 repeat' first|refine Kf ?_|intro _|constructor
 exact Kv
end Go.Proofs.YtngcfjfaobcpmaaGreatDoor
namespace Go.Sx
open Go
theorem Yeo:Fit 19 (100000:Rat):=Fit.mono (k:=6) (Fit.of (by decide) (by decide) (by decide)) (by decide)
theorem Z3s:((100000:Int):Rat)=100000:=rfl
theorem Z3q {t:Rat} (h0:0≤t) (h1:t≤1):(-(100000 * t)).floor=((-100000:Rat) * t).floor∧-100000≤(-(100000 * t)).floor∧(-(100000 * t)).floor≤0:=by
 rw [Yef]
 exact ⟨rfl,Zgy h0 h1⟩
theorem Zpv {t:Rat} (h0:0≤t) (h1:t≤1):((100000:Rat) * (1 - t)).floor=100000+((-100000:Rat) * t).floor∧0≤((100000:Rat) * (1 - t)).floor∧((100000:Rat) * (1 - t)).floor≤100000:=by
 rw [Ybw]
 have:=Zgy h0 h1
 exact ⟨rfl,by omega,by omega⟩
theorem Zyo {P F:List V3} (h:lowO P F=none):extO P F=none:=by unfold extO;rw [h];rfl
theorem Zkh {P F:List V3} (h:highO P F=none):extO P F=none:=by unfold extO;rw [h];cases lowO P F<;>rfl
theorem Zfs {P F:List V3} {l k:Int} (h1:lowO P F=some l) (h2:highO P F=some k):extO P F=if k < l then none else some (l,k):=by unfold extO;rw [h1,h2];rfl
theorem Zre {P F:List V3} (h:(sideW P F blackV).1=0):lowO P F=(rayM metP P F blackV whiteV false).map fun x=>-((-100000:Rat) * x.1).floor:=if_pos h
theorem Zx7 {P F:List V3} (h:(sideW P F blackV).1≠0):lowO P F=some 0:=if_neg h
theorem Zfr {P F:List V3} (h:(sideW P F whiteV).1=0):highO P F=(rayM metP P F whiteV blackV false).map fun x=>100000+((-100000:Rat) * x.1).floor:=if_pos h
theorem Zke {P F:List V3} (h:(sideW P F whiteV).1≠0):highO P F=some 100000:=if_neg h
theorem Zdz {P F:List V3} {a b:V3} (hg:Good P F) (ha:isFar a=false) (hb:isFar b=false) (hab:a≠b) {t:Rat} {j:Nat} (h:rayM metP P F a b false=some (t,j)):0≤t∧t≤1∧Fit 19 t:=by
 obtain ⟨_,_,h2,h3,_⟩:=(Zj1 hg (a:=a) (b:=b) hab).1 t j h
 exact ⟨h2,h3,Zmh hg ha hb hab h⟩
end Go.Sx
namespace Go.Proofs.YtngcfjfaobcpmaaGreatDoor
open Go Go.Sx
variable {w0:World} {As:List Ent} {pv fv:Value} {pts fcs:List V3}
def extE (As:List Ent) (o:Option (Int × Int)) (v:Value) (Bs:List Ent):Prop:=∃ l h,o=some (l,h)∧v=.tuple #[.int .i64 l,.int .i64 h]∧Bs=As
def extT (As:List Ent) (o:Option (Int × Int)) (v:Value) (Bs:List Ent):Prop:=o=none∧v=errV 4∧Bs=As
theorem Zdo (ht:Tab w0) (hg:Sx.Good pts fcs) {p:V3} (hp:isFar p=false) [RdIn As fv V3 cV3 fcs] [RdIn As pv V3 cV3 pts] :
  CQ Tryz.prog w0 21 [.agg #[pv,fv],p.val] As (.tuple #[.int .i64 (sideW pts fcs p).1,.int .i64 0]):=by
 have h:=Yas (w0:=w0) (As:=As) (pv:=pv) (fv:=fv) (pts:=pts) (fcs:=fcs) ht (p:=p)
 rw [Z18 hg hp] at h
 exact h
def ancE (As:List Ent) (o:Option V3) (v:Value) (Bs:List Ent):Prop:=∃ c,o=some c∧v=V3.val c∧Bs=As
def ancT (As:List Ent) (o:Option V3) (v:Value) (Bs:List Ent):Prop:=o=none∧v=errV 4∧Bs=As
set_option maxRecDepth 100000 in
set_option maxHeartbeats 8000000 in
theorem Zt1 (ht:Tab w0) (he:ErrR w0) (hg:Sx.Good pts fcs) [RdIn As fv V3 cV3 fcs] [RdIn As pv V3 cV3 pts] :
  CallsE Tryz.prog w0 33 [.agg #[pv,fv]] As (extE As (extO pts fcs)) (extT As (extO pts fcs)):=by
 refine Zc6 Tryz.func33 rfl Tryz.ntmps33 rfl ?_
 refine Zdt (c:=cV3) (xs:=pts) pv fun q1 c1 w1=>Zdt (c:=cV3) (xs:=fcs) fv fun q2 c2 w2=>?_
 subst w1 w2
 repeat' first|refine Kz ?_|intro _
 rename_i b1 b4 b5
 refine TL.callv rfl rfl rfl rfl (Zcy ht (n:=100000) (by decide)) ?_
 rw [Z3s]
 rintro _ _ ⟨rfl,rfl⟩
 repeat' first|refine Kz ?_|intro _
 rename_i b6
 refine Ks rfl (Zdo ht hg (p:=blackV) rfl) ?_
 repeat' first|refine Kz ?_|intro _
 refine Kt rfl Zfo ?_
 repeat' first|refine Kz ?_|intro _
 by_cases hb:(sideW pts fcs blackV).1=0
 ·rw [hb]
  repeat' first|refine Kz ?_|intro _
  refine TL.callvE rfl rfl rfl rfl (Zej ht hg (pv:=.slice q1 pts.length c1) (fv:=.slice q2 fcs.length c2) (a:=blackV) (b:=whiteV) rfl rfl (by decide) (y:=false)) ?_ ?_
  ·rintro _ _ ⟨ho,rfl,rfl⟩
   have hn:=Zyo (by rw [Zre hb,ho];rfl)
   repeat' first|refine Kz ?_|intro _
   exact Zaz rfl ⟨_,⟨hn,rfl,rfl⟩,Zaa⟩
  ·rintro _ _ ⟨t,jt,ho,rfl,rfl⟩
   obtain ⟨t0,t1,ft⟩:=Zdz hg rfl rfl (by decide) ho
   show TL _ _ _ _ _ ((_,.agg #[.string ⟨(tN t).toArray⟩,.string ⟨(tD t).toArray⟩])::_) _ _
   repeat' first|refine Kz ?_|intro _
   obtain ⟨d1,d2,d3⟩:=Z3q t0 t1
   have hL:lowO pts fcs=some (-(-((100000:Rat) * t)).floor):=by rw [Zre hb,ho,d1];rfl
   have k1:=Yeo.mul ft
   clear ho
   refine Ks rfl (Q.Yhn ht (r:=100000) (s:=t) (Yeo.mono (by decide)) (ft.mono (by decide)) (k1.mono (by decide))) ?_
   repeat' first|refine Kz ?_|intro _
   refine Kt rfl Za9 ?_
   repeat' first|refine Kz ?_|intro _
   refine Ks rfl (Q.Yhm ht (r:=100000 * t) (k1.mono (by decide))) ?_
   repeat' first|refine Kz ?_|intro _
   refine Kt rfl Za9 ?_
   repeat' first|refine Kz ?_|intro _
   refine Ks rfl (Zn0 ht he (a:=-(100000 * t)) (k1.neg.mono (by decide)) (by omega)) ?_
   generalize (-((100000:Rat) * t)).floor=W at *
   clear d1 k1
   repeat' first|refine Kz ?_|intro _
   refine Ks rfl (Zdo ht hg (p:=whiteV) rfl) ?_
   repeat' first|refine Kz ?_|intro _
   refine Kt rfl Zfo ?_
   repeat' first|refine Kz ?_|intro _
   by_cases hw:(sideW pts fcs whiteV).1=0
   ·rw [hw]
    repeat' first|refine Kz ?_|intro _
    refine TL.callvE rfl rfl rfl rfl (Zej ht hg (pv:=.slice q1 pts.length c1) (fv:=.slice q2 fcs.length c2) (a:=whiteV) (b:=blackV) rfl rfl (by decide) (y:=false)) ?_ ?_
    ·rintro _ _ ⟨ho,rfl,rfl⟩
     have hn:=Zkh (by rw [Zfr hw,ho];rfl)
     repeat' first|refine Kz ?_|intro _
     exact Zaz rfl ⟨_,⟨hn,rfl,rfl⟩,Zaa⟩
    ·rintro _ _ ⟨u,ju,ho,rfl,rfl⟩
     obtain ⟨u0,u1,fu⟩:=Zdz hg rfl rfl (by decide) ho
     show TL _ _ _ _ _ ((_,.agg #[.string ⟨(tN u).toArray⟩,.string ⟨(tD u).toArray⟩])::_) _ _
     repeat' first|refine Kz ?_|intro _
     obtain ⟨e1,e2,e3⟩:=Zpv u0 u1
     have hH:highO pts fcs=some ((100000:Rat) * (1 - u)).floor:=by rw [Zfr hw,ho,e1];rfl
     have g1:=fit1.sub fu
     have g2:=Yeo.mul g1
     clear ho
     rename_i b8
     refine Zaf [.cl b6 [.string ⟨(tN 100000).toArray⟩,.string ⟨(tD 100000).toArray⟩] 52,.cl b8 [.string ⟨(tN u).toArray⟩,.string ⟨(tD u).toArray⟩] 52] [] (.take 0 (.take 2 (.all [(1,.all [(3,.take 4 (.take 5 (.all [(6,.all [(7,.take 8 (.take 9 (.all [(10,.all [(11,.take 12 (.done))])])))])])))])]))) ?_
     repeat' first|refine Kf ?_|intro _|constructor
     refine T1.callv rfl rfl rfl rfl rfl (Zcy ht (n:=1) (by decide)) ?_
     rw [show ((1:Int):Rat)=1 from rfl]
     rintro _ _ ⟨rfl,rfl⟩
     repeat' first|refine Kf ?_|intro _|constructor
     refine Ku rfl (Q.Yhc ht (r:=1) (s:=u) (fit1.mono (by decide)) (fu.mono (by decide)) (g1.mono (by decide))) ?_
     repeat' first|refine Kf ?_|intro _|constructor
     refine Kw rfl Za9 ?_
     repeat' first|refine Kf ?_|intro _|constructor
     refine Ku rfl (Q.Yhn ht (r:=100000) (s:=1 - u) (Yeo.mono (by decide)) (g1.mono (by decide)) (g2.mono (by decide))) ?_
     repeat' first|refine Kf ?_|intro _|constructor
     refine Kw rfl Za9 ?_
     repeat' first|refine Kf ?_|intro _|constructor
     refine Ku rfl (Zn0 ht he (a:=100000 * (1 - u)) (g2.mono (by decide)) (by omega)) ?_
     generalize ((100000:Rat) * (1 - u)).floor=H at *
     clear e1 g1 g2
     repeat' first|refine Kf ?_|intro _|constructor
     have h2:=Zfs hL hH
     rw [h2]
     clear h2 hL hH
     by_cases hlt:H < -W
     ·rw [if_pos hlt]
      repeat' first|refine Kf ?_|intro _|constructor
      refine TL.f rfl rfl (Zg6 rfl rfl) ?_
      refine TL.panic rfl rfl ?_
      repeat' first|refine Kz ?_|intro _
      exact Zaz rfl ⟨_,⟨rfl,rfl,rfl⟩,Zaa⟩
     ·rw [if_neg hlt]
      repeat' first|refine Kf ?_|intro _|constructor
      refine Zdd ?_
      (refine Zac ?_)
      exact ⟨_,⟨_,_,rfl,rfl,rfl⟩,Zaa⟩
   ·have hH:=Zke hw
    generalize (sideW pts fcs whiteV).1=sw at *
    repeat' first|refine Kz ?_|intro _
    have h2:=Zfs hL hH
    rw [if_neg (by omega)] at h2
    rw [h2]
    clear h2 hL hH
    repeat' first|refine Kz ?_|intro _
    refine Zdd ?_
    (refine Zac ?_)
    exact ⟨_,⟨_,_,rfl,rfl,rfl⟩,Zaa⟩
 ·have hL:=Zx7 hb
  generalize (sideW pts fcs blackV).1=sb at *
  repeat' first|refine Kz ?_|intro _
  refine Ks rfl (Zdo ht hg (p:=whiteV) rfl) ?_
  repeat' first|refine Kz ?_|intro _
  refine Kt rfl Zfo ?_
  repeat' first|refine Kz ?_|intro _
  by_cases hw:(sideW pts fcs whiteV).1=0
  ·rw [hw]
   repeat' first|refine Kz ?_|intro _
   refine TL.callvE rfl rfl rfl rfl (Zej ht hg (pv:=.slice q1 pts.length c1) (fv:=.slice q2 fcs.length c2) (a:=whiteV) (b:=blackV) rfl rfl (by decide) (y:=false)) ?_ ?_
   ·rintro _ _ ⟨ho,rfl,rfl⟩
    have hn:=Zkh (by rw [Zfr hw,ho];rfl)
    repeat' first|refine Kz ?_|intro _
    exact Zaz rfl ⟨_,⟨hn,rfl,rfl⟩,Zaa⟩
   ·rintro _ _ ⟨u,ju,ho,rfl,rfl⟩
    obtain ⟨u0,u1,fu⟩:=Zdz hg rfl rfl (by decide) ho
    show TL _ _ _ _ _ ((_,.agg #[.string ⟨(tN u).toArray⟩,.string ⟨(tD u).toArray⟩])::_) _ _
    repeat' first|refine Kz ?_|intro _
    obtain ⟨e1,e2,e3⟩:=Zpv u0 u1
    have hH:highO pts fcs=some ((100000:Rat) * (1 - u)).floor:=by rw [Zfr hw,ho,e1];rfl
    have g1:=fit1.sub fu
    have g2:=Yeo.mul g1
    clear ho
    rename_i b8
    refine Zaf [.cl b6 [.string ⟨(tN 100000).toArray⟩,.string ⟨(tD 100000).toArray⟩] 52,.cl b8 [.string ⟨(tN u).toArray⟩,.string ⟨(tD u).toArray⟩] 52] [] (.take 0 (.take 2 (.all [(1,.all [(3,.take 4 (.take 5 (.all [(6,.all [(7,.take 8 (.take 9 (.all [(10,.all [(11,.take 12 (.done))])])))])])))])]))) ?_
    repeat' first|refine Kf ?_|intro _|constructor
    refine T1.callv rfl rfl rfl rfl rfl (Zcy ht (n:=1) (by decide)) ?_
    rw [show ((1:Int):Rat)=1 from rfl]
    rintro _ _ ⟨rfl,rfl⟩
    repeat' first|refine Kf ?_|intro _|constructor
    refine Ku rfl (Q.Yhc ht (r:=1) (s:=u) (fit1.mono (by decide)) (fu.mono (by decide)) (g1.mono (by decide))) ?_
    repeat' first|refine Kf ?_|intro _|constructor
    refine Kw rfl Za9 ?_
    repeat' first|refine Kf ?_|intro _|constructor
    refine Ku rfl (Q.Yhn ht (r:=100000) (s:=1 - u) (Yeo.mono (by decide)) (g1.mono (by decide)) (g2.mono (by decide))) ?_
    repeat' first|refine Kf ?_|intro _|constructor
    refine Kw rfl Za9 ?_
    repeat' first|refine Kf ?_|intro _|constructor
    refine Ku rfl (Zn0 ht he (a:=100000 * (1 - u)) (g2.mono (by decide)) (by omega)) ?_
    generalize ((100000:Rat) * (1 - u)).floor=H at *
    clear e1 g1 g2
    repeat' first|refine Kf ?_|intro _|constructor
    have h2:=Zfs hL hH
    rw [if_neg (by omega)] at h2
    rw [h2]
    clear h2 hL hH
    repeat' first|refine Kf ?_|intro _|constructor
    refine Zdd ?_
    (refine Zac ?_)
    exact ⟨_,⟨_,_,rfl,rfl,rfl⟩,Zaa⟩
  ·have hH:=Zke hw
   generalize (sideW pts fcs whiteV).1=sw at *
   repeat' first|refine Kz ?_|intro _
   have h2:=Zfs hL hH
   rw [if_neg (by omega)] at h2
   rw [h2]
   clear h2 hL hH
   repeat' first|refine Kz ?_|intro _
   refine Zdd ?_
   (refine Zac ?_)
   exact ⟨_,⟨_,_,rfl,rfl,rfl⟩,Zaa⟩
set_option maxRecDepth 100000 in
set_option maxHeartbeats 4000000 in
theorem Zlb (ht:Tab w0) (he:ErrR w0) (hg:Sx.Good pts fcs) {p:V3} (hp:isFar p=false) [RdIn As fv V3 cV3 fcs] [RdIn As pv V3 cV3 pts] :
  CallsE Tryz.prog w0 41 [.agg #[pv,fv],p.val] As (ancE As (anchorO pts fcs p)) (ancT As (anchorO pts fcs p)):=by
 have bp:=Zb2 hp
 obtain ⟨p1,p2,p3,p4,p5,p6⟩:=bp
 refine Zc6 Tryz.func41 rfl Tryz.ntmps41 rfl ?_
 show Tri _ _ _ _ (env0 0 [.agg #[pv,fv],.agg #[.int .i64 p.x,.int .i64 p.y,.int .i64 p.z]]) _ _
 repeat' first|refine Kz ?_|intro _
 refine TL.callvE rfl rfl rfl rfl (Zt1 ht he hg) ?_ ?_
 ·rintro _ _ ⟨ho,rfl,rfl⟩
  have hn:anchorO pts fcs p=none:=by unfold anchorO;rw [ho];rfl
  rw [hn]
  repeat' first|refine Kz ?_|intro _
  exact Zaz rfl ⟨_,⟨rfl,rfl,rfl⟩,Zaa⟩
 ·rintro _ _ ⟨l,h,ho,rfl,rfl⟩
  have hin:=Zyn hg ho
  have hfr:=Zla hg ho p
  have hA:anchorO pts fcs p=if (sideW pts fcs (anchorV l h p)).1=2 then some (anchorV l h p) else none:=by unfold anchorO;rw [ho];rfl
  rw [hA]
  clear hA ho
  have e:(if h - (h - l) / 4 < (if p.x < l+(h - l) / 4 then l+(h - l) / 4 else p.x) then h - (h - l) / 4 else (if p.x < l+(h - l) / 4 then l+(h - l) / 4 else p.x))=(anchorV l h p).x:=by
   unfold anchorV
   simp only
   split<;>split<;>omega
  repeat' first|refine Kz ?_|intro _
  rw [e]
  clear e
  refine Ks rfl (Zdo ht hg (p:=anchorV l h p) hfr) ?_
  have hy:(anchorV l h p)=⟨(anchorV l h p).x,0,0⟩:=rfl
  generalize anchorV l h p=c at *
  repeat' first|refine Kz ?_|intro _
  refine Kt rfl Zfo ?_
  generalize (sideW pts fcs c).1=s at *
  by_cases hs:s=2
  ·rw [if_pos hs]
   repeat' first|refine Kz ?_|intro _
   refine Zdd ?_
   (refine Zac ?_)
   exact ⟨_,⟨c,rfl,by rw [hy];rfl,rfl⟩,Zaa⟩
  ·rw [if_neg hs]
   repeat' first|refine Kz ?_|intro _
   refine TL.f rfl rfl (Zg6 rfl rfl) ?_
   refine TL.panic rfl rfl ?_
   repeat' first|refine Kz ?_|intro _
   exact Zaz rfl ⟨_,⟨rfl,rfl,rfl⟩,Zaa⟩
end Go.Proofs.YtngcfjfaobcpmaaGreatDoor
