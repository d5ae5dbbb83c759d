/- Walks: intent: must, whole numbers, floors, exact colors. -/
import Derived.Test.YtkcnpgmgmgepoaaGreatDoorCc3
import Derived.Test.YtkcnpgmgmgepoaaGreatDoorNp1
import Derived.Test.YtkcnpgmgmgepoaaGreatDoorIxa
import Derived.Test.YtkcnpgmgmgepoaaGreatDoorIj1
namespace Go.Sx
open Go
def frV (r:Rat):Value:=.agg #[.string ⟨(tN r).toArray⟩,.string ⟨(tD r).toArray⟩]
def frtV (x y z:Rat):Value:=.agg #[.string ⟨(tN x).toArray⟩,.string ⟨(tD x).toArray⟩,.string ⟨(tN y).toArray⟩,.string ⟨(tD y).toArray⟩,.string ⟨(tN z).toArray⟩,.string ⟨(tD z).toArray⟩]
theorem qI_one (n:Int):qI n 1=(n:Rat):=by
 rw [qI_quot]
 have:((1:Int):Rat)=1:=rfl
 rw [this];grind
end Go.Sx
namespace Go.Proofs.YtkcnpgmgmgepoaaGreatDoor
open Go Go.Sx
variable {w0:World} {As:List Ent}
def errV (e:Int):Value:=.iface 33 (.int .i64 e)
theorem mustF_ok {n d:List UInt8}:CallsS Tryz.prog w0 169 [.agg #[.string ⟨n.toArray⟩,.string ⟨d.toArray⟩],.int .i64 0] As fun r Bs=>r=.agg #[.string ⟨n.toArray⟩,.string ⟨d.toArray⟩]∧Bs=As:=by
 refine CallsS.of_tri Tryz.func169 rfl Tryz.ntmps169 rfl ?_
 (repeat' first|(refine Ka ?_;first|refine Kb ?_|(refine Kc ?_;intro _))|refine Kd ?_|refine Kh ?_)
 (refine Post.ra ?_)
 exact ⟨_,⟨rfl,rfl⟩,by (exact Ents.au)⟩
theorem mustF_no {n d:List UInt8} {e:Int} (h:e≠0):CallsP Tryz.prog w0 169 [.agg #[.string ⟨n.toArray⟩,.string ⟨d.toArray⟩],.int .i64 e] As fun r Bs=>r=errV e∧Bs=As:=by
 refine CallsP.of_tri Tryz.func169 rfl Tryz.ntmps169 rfl ?_
 (repeat' first|(refine Ka ?_;first|refine Kb ?_|(refine Kc ?_;intro _))|refine Kd ?_|refine Kh ?_)
 refine TL.f rfl rfl (ExF.mkIface rfl rfl) ?_
 refine TL.panic rfl rfl ?_
 (repeat' first|(refine Ka ?_;first|refine Kb ?_|(refine Kc ?_;intro _))|refine Kd ?_|refine Kh ?_)
 exact Post.throws rfl ⟨_,⟨rfl,rfl⟩,by (exact Ents.au)⟩
theorem mustI_ok {v:Int}:CallsS Tryz.prog w0 85 [.int .i64 v,.int .i64 0] As fun r Bs=>r=.int .i64 v∧Bs=As:=by
 refine CallsS.of_tri Tryz.func85 rfl Tryz.ntmps85 rfl ?_
 (repeat' first|(refine Ka ?_;first|refine Kb ?_|(refine Kc ?_;intro _))|refine Kd ?_|refine Kh ?_)
 (refine Post.ra ?_)
 exact ⟨_,⟨rfl,rfl⟩,by (exact Ents.au)⟩
theorem whole_ok (ht:Tab w0) {n:Int} (hn:-9223372036854775807≤n∧n≤9223372036854775807):CallsS Tryz.prog w0 167 [.int .i64 n] As fun r Bs=>r=frV (n:Rat)∧Bs=As:=by
 refine CallsS.of_tri Tryz.func167 rfl Tryz.ntmps167 rfl ?_
 (repeat' first|(refine Ka ?_;first|refine Kb ?_|(refine Kc ?_;intro _))|refine Kd ?_|refine Kh ?_)
 refine TL.callv rfl rfl rfl rfl (ofR_okQ ht (n:=n) (d:=1) hn (by decide) (by decide)) ?_
 rw [qI_one]
 rintro _ _ ⟨rfl,rfl⟩
 (repeat' first|(refine Ka ?_;first|refine Kb ?_|(refine Kc ?_;intro _))|refine Kd ?_|refine Kh ?_)
 refine Kt rfl rfl rfl mustF_ok ?_
 (repeat' first|(refine Ka ?_;first|refine Kb ?_|(refine Kc ?_;intro _))|refine Kd ?_|refine Kh ?_)
 (refine Post.ra ?_)
 exact ⟨_,⟨rfl,rfl⟩,by (exact Ents.au)⟩
theorem near_one {a:Rat} (hz:-9223372036854775808≤a.floor∧a.floor≤9223372036854775807):Q.nearO (some (a - mkRat 1 2)) 1=(a.floor,0):=by
 unfold Q.nearO
 simp only []
 rw [if_pos (by decide),show ((1:Int).toNat)=1 from rfl,floor_near,if_pos hz]
set_option maxRecDepth 100000 in
theorem floorI_ok (ht:Tab w0) (he:ErrR w0) {a:Rat} (hf:Fit 500 a) (hz:-9223372036854775808≤a.floor∧a.floor≤9223372036854775807) :
  CallsS Tryz.prog w0 168 [frV a] As fun r Bs=>r=.int .i64 a.floor∧Bs=As:=by
 have f2:Fit 19 (mkRat 1 2):=Fit.mono (k:=1) (Fit.of (by decide) (by decide +kernel) (by decide +kernel)) (by decide)
 have f3:Fit 600 (a - mkRat 1 2):=(hf.sub f2).mono (by decide)
 refine CallsS.of_tri Tryz.func168 rfl Tryz.ntmps168 rfl ?_
 show Tri _ _ _ _ (env0 0 [.agg #[.string ⟨(tN a).toArray⟩,.string ⟨(tD a).toArray⟩]]) _ _
 (repeat' first|(refine Ka ?_;first|refine Kb ?_|(refine Kc ?_;intro _))|refine Kd ?_|refine Kh ?_)
 rename_i b1
 refine Tri.dw [.cl b1 [.string ⟨(tN a).toArray⟩,.string ⟨(tD a).toArray⟩] 67] [] (.take 0 (.all [(1,.take 2 (.take 3 (.all [(4,.all [(5,.take 6 (.take 7 (.all [(8,.all [(9,.take 10 (.take 11 (.all [(12,.take 13 (.done))])))])])))])])))])) ?_
 (repeat' first|(refine Ka ?_;first|refine Kb ?_|(refine Kc ?_;intro _))|refine Kd ?_|(refine Ki ?_;refine Kj ?_)|exact Kk|refine Kl ?_ ?_|(refine Km ?_;first|refine Kn ?_|(refine Ko ?_;intro _))|(refine Kp ?_;first|refine Kq ?_|refine Kr ?_)|refine Kh ?_)
 refine T1.callv rfl rfl rfl rfl rfl (ofR_okQ ht (n:=1) (d:=2) (by decide) (by decide) (by decide)) ?_
 rw [show qI 1 2=mkRat 1 2 by decide +kernel]
 rintro _ _ ⟨rfl,rfl⟩
 (repeat' first|(refine Ka ?_;first|refine Kb ?_|(refine Kc ?_;intro _))|refine Kd ?_|(refine Ki ?_;refine Kj ?_)|exact Kk|refine Kl ?_ ?_|(refine Km ?_;first|refine Kn ?_|(refine Ko ?_;intro _))|(refine Kp ?_;first|refine Kq ?_|refine Kr ?_)|refine Kh ?_)
 refine Kw rfl rfl rfl rfl mustF_ok ?_
 (repeat' first|(refine Ka ?_;first|refine Kb ?_|(refine Kc ?_;intro _))|refine Kd ?_|(refine Ki ?_;refine Kj ?_)|exact Kk|refine Kl ?_ ?_|(refine Km ?_;first|refine Kn ?_|(refine Ko ?_;intro _))|(refine Kp ?_;first|refine Kq ?_|refine Kr ?_)|refine Kh ?_)
 refine Ku rfl rfl rfl rfl rfl (Q.subT_ok ht (hf.mono (by decide)) (f2.mono (by decide)) f3) ?_
 (repeat' first|(refine Ka ?_;first|refine Kb ?_|(refine Kc ?_;intro _))|refine Kd ?_|(refine Ki ?_;refine Kj ?_)|exact Kk|refine Kl ?_ ?_|(refine Km ?_;first|refine Kn ?_|(refine Ko ?_;intro _))|(refine Kp ?_;first|refine Kq ?_|refine Kr ?_)|refine Kh ?_)
 refine Kw rfl rfl rfl rfl mustF_ok ?_
 (repeat' first|(refine Ka ?_;first|refine Kb ?_|(refine Kc ?_;intro _))|refine Kd ?_|(refine Ki ?_;refine Kj ?_)|exact Kk|refine Kl ?_ ?_|(refine Km ?_;first|refine Kn ?_|(refine Ko ?_;intro _))|(refine Kp ?_;first|refine Kq ?_|refine Kr ?_)|refine Kh ?_)
 refine T1.callv rfl rfl rfl rfl rfl (Q.nearV_ok ht he (k:=1) f3) ?_
 rw [near_one hz]
 rintro _ _ ⟨rfl,rfl⟩
 (repeat' first|(refine Ka ?_;first|refine Kb ?_|(refine Kc ?_;intro _))|refine Kd ?_|(refine Ki ?_;refine Kj ?_)|exact Kk|refine Kl ?_ ?_|(refine Km ?_;first|refine Kn ?_|(refine Ko ?_;intro _))|(refine Kp ?_;first|refine Kq ?_|refine Kr ?_)|refine Kh ?_)
 refine Kw rfl rfl rfl rfl mustI_ok ?_
 (repeat' first|(refine Ka ?_;first|refine Kb ?_|(refine Kc ?_;intro _))|refine Kd ?_|(refine Ki ?_;refine Kj ?_)|exact Kk|refine Kl ?_ ?_|(refine Km ?_;first|refine Kn ?_|(refine Ko ?_;intro _))|(refine Kp ?_;first|refine Kq ?_|refine Kr ?_)|refine Kh ?_)
 (refine Post.ra ?_)
 exact ⟨_,⟨rfl,rfl⟩,by (exact Ents.au)⟩
theorem nfar_ok {p:V3}:CallsS Tryz.prog w0 78 [p.val] As fun r Bs=>r=.bool (isFar p)∧Bs=As:=by
 refine CallsS.of_tri Tryz.func78 rfl Tryz.ntmps78 rfl ?_
 show Tri _ _ _ _ (env0 0 [.agg #[.int .i64 p.x,.int .i64 p.y,.int .i64 p.z]]) _ _
 (repeat' first|(refine Ka ?_;first|refine Kb ?_|(refine Kc ?_;intro _))|refine Kd ?_|refine Kh ?_)
 refine Tri.unroll 4 ?_
 (repeat' (first|((show TL _ _ _ _ (_::_) _ _ _;first|refine TL.fa ?_|refine TL.ua ?_|(refine TL.rba ?_;intro _)|(refine TL.rra ?_;first|rintro _ _ ⟨rfl,rfl⟩|rintro _ _ rfl)|refine TL.offa ?_|refine TL.off0a ?_|refine TL.gu ?_|fail))|(refine Stp.h ?_)|(first|(show TT _ _ _ _ _ _ _ _ _;first|refine TT.takea ?_|refine TT.takeMa ?_|refine TT.takeOffa ?_|refine TT.gu ?_|fail)|exact TTs.nil|refine TTs.cons ?_ ?_|(show T1 _ _ _ _ _ _ _ _ _ _;first|refine T1.ua ?_|(refine T1.rba ?_;intro _)|(refine T1.rra ?_;first|rintro _ _ ⟨rfl,rfl⟩|rintro _ _ rfl)|refine T1.fa ?_|refine T1.offa ?_|refine T1.off0a ?_|fail)|(show TC _ _ _ _ _ _ _ _ _ _;first|refine TC.goa ?_|refine TC.fina ?_|fail))|((show Tri _ _ _ (.cond _ _ _) _ _ _;first|refine Tri.cTa ?_|refine Tri.cFa ?_|refine Tri.condTa ?_|refine Tri.condFa ?_|refine Tri.condNTa ?_|refine Tri.condNFa ?_|fail))|(first|refine TL.gsplit rfl rfl (fun hgs=>?_) (fun hgs=>?_)|refine TL.gsplitN rfl rfl (fun hgs=>?_) (fun hgs=>?_)|refine TT.gsplit rfl rfl rfl (fun hgs=>?_) (fun hgs=>?_)|refine TT.gsplitN rfl rfl rfl (fun hgs=>?_) (fun hgs=>?_))|((show Tri _ _ _ (.cond _ _ _) _ _ _;first|refine Tri.condP rfl (fun hc=>?_) (fun hc=>?_)|refine Tri.condN rfl (fun hc=>?_) (fun hc=>?_)))))
 all_goals
  (refine Post.ra ?_)
  refine ⟨_,⟨?_,rfl⟩,by (exact Ents.au)⟩
  rw [Value.bool.injEq]
  simp [isFar]
  omega
set_option maxRecDepth 100000 in
theorem exact_ok (ht:Tab w0) {p:V3} (hx:-400000≤p.x∧p.x≤400000) (hy:-400000≤p.y∧p.y≤400000) (hz:-400000≤p.z∧p.z≤400000):CallsS Tryz.prog w0 86 [p.val] As fun r Bs=>r=frtV (p.x:Rat) (p.y:Rat) (p.z:Rat)∧Bs=As:=by
 refine CallsS.of_tri Tryz.func86 rfl Tryz.ntmps86 rfl ?_
 show Tri _ _ _ _ (env0 0 [.agg #[.int .i64 p.x,.int .i64 p.y,.int .i64 p.z]]) _ _
 (repeat' first|(refine Ka ?_;first|refine Kb ?_|(refine Kc ?_;intro _))|refine Kd ?_|refine Kh ?_)
 rename_i b1 b2
 refine Tri.dw [.cl b1 [.int .i64 p.x,.int .i64 p.y,.int .i64 p.z] 32] [] (.take 0 (.take 1 (.take 3 (.take 4 (.take 6 (.take 7 (.all [(2,.all [(5,.all [(8,.take 9 (.all [(10,.done)]))])])]))))))) ?_
 (repeat' first|(refine Ka ?_;first|refine Kb ?_|(refine Kc ?_;intro _))|refine Kd ?_|(refine Ki ?_;refine Kj ?_)|exact Kk|refine Kl ?_ ?_|(refine Km ?_;first|refine Kn ?_|(refine Ko ?_;intro _))|(refine Kp ?_;first|refine Kq ?_|refine Kr ?_)|refine Kh ?_)
 refine Ku rfl rfl rfl rfl rfl (whole_ok ht (n:=p.x) (by omega)) ?_
 (repeat' first|(refine Ka ?_;first|refine Kb ?_|(refine Kc ?_;intro _))|refine Kd ?_|(refine Ki ?_;refine Kj ?_)|exact Kk|refine Kl ?_ ?_|(refine Km ?_;first|refine Kn ?_|(refine Ko ?_;intro _))|(refine Kp ?_;first|refine Kq ?_|refine Kr ?_)|refine Kh ?_)
 refine Ku rfl rfl rfl rfl rfl (whole_ok ht (n:=p.y) (by omega)) ?_
 (repeat' first|(refine Ka ?_;first|refine Kb ?_|(refine Kc ?_;intro _))|refine Kd ?_|(refine Ki ?_;refine Kj ?_)|exact Kk|refine Kl ?_ ?_|(refine Km ?_;first|refine Kn ?_|(refine Ko ?_;intro _))|(refine Kp ?_;first|refine Kq ?_|refine Kr ?_)|refine Kh ?_)
 refine Ku rfl rfl rfl rfl rfl (whole_ok ht (n:=p.z) (by omega)) ?_
 (repeat' first|(refine Ka ?_;first|refine Kb ?_|(refine Kc ?_;intro _))|refine Kd ?_|(refine Ki ?_;refine Kj ?_)|exact Kk|refine Kl ?_ ?_|(refine Km ?_;first|refine Kn ?_|(refine Ko ?_;intro _))|(refine Kp ?_;first|refine Kq ?_|refine Kr ?_)|refine Kh ?_)
 (refine Post.ra ?_)
 exact ⟨_,⟨rfl,rfl⟩,by (exact Ents.au)⟩
end Go.Proofs.YtkcnpgmgmgepoaaGreatDoor
namespace Go.Proofs.YtkcnpgmgmgepoaaGreatDoor
open Go Go.Sx
variable {w0:World} {As:List Ent} {pv fv:Value} {pts fcs:List V3}
def lineV (pv fv:Value) (a b:V3):Value:=.agg #[pv,fv,.int .i64 a.x,.int .i64 a.y,.int .i64 a.z,.int .i64 b.x,.int .i64 b.y,.int .i64 b.z]
def metE (As:List Ent) (o:Option (Rat × Nat)) (v:Value) (Bs:List Ent):Prop:=∃ t j,o=some (t,j)∧v=frV t∧Bs=As
def metT (As:List Ent) (o:Option (Rat × Nat)) (v:Value) (Bs:List Ent):Prop:=o=none∧v=errV 4∧Bs=As
theorem rayW_good (hg:Sx.Good pts fcs) {a b:V3} (ha:isFar a=false) (hb:isFar b=false) (hab:a≠b) (y:Bool) :
  rayW pts fcs a b y=match rayM metP pts fcs a b y with|none=>.inl 4|some r=>.inr r:=by
 unfold rayW
 rw [if_neg (fun h=>h (okM_good.2 hg)),if_neg (by rintro (h|h|h);rw [ha] at h;cases h;rw [hb] at h;cases h;exact hab h)]
 cases rayM metP pts fcs a b y<;>rfl
set_option maxRecDepth 100000 in
theorem lineMeets_ok (ht:Tab w0) {a b:V3} {y:Bool} [RdIn As fv V3 cV3 fcs] [RdIn As pv V3 cV3 pts] (hg:Sx.Good pts fcs) (ha:isFar a=false) (hb:isFar b=false) (hab:a≠b) :
  CallsE Tryz.prog w0 88 [lineV pv fv a b,.bool y] As (metE As (rayM metP pts fcs a b y)) (metT As (rayM metP pts fcs a b y)):=by
 refine CallsE.of_tri Tryz.func88 rfl Tryz.ntmps88 rfl ?_
 show Tri _ _ _ _ (env0 0 [.agg #[pv,fv,.int .i64 a.x,.int .i64 a.y,.int .i64 a.z,.int .i64 b.x,.int .i64 b.y,.int .i64 b.z],.bool y]) _ _
 have hr:=fun (Bs:List Ent) [RdIn Bs fv V3 cV3 fcs] [RdIn Bs pv V3 cV3 pts]=>ray_ok (As:=Bs) (w0:=w0) (pv:=pv) (fv:=fv) (pts:=pts) (fcs:=fcs) ht (p:=a) (q:=b) (y:=y)
 rw [rayW_good hg ha hb hab] at hr
 generalize rayM metP pts fcs a b y=o at *
 refine Tri.rdSl (c:=cV3) (xs:=pts) pv fun p1 c1 e1=>Tri.rdSl (c:=cV3) (xs:=fcs) fv fun p2 c2 e2=>?_
 subst e1 e2
 (repeat' first|(refine Ka ?_;first|refine Kb ?_|(refine Kc ?_;intro _))|refine Kd ?_|refine Kh ?_)
 refine Ks rfl rfl rfl rfl (hr _) ?_
 cases o with
 | none =>
  show TL _ _ _ _ _ ((_,.tuple #[.agg #[.string ⟨#[]⟩,.string ⟨#[]⟩],.int .i64 0,.int .i64 4])::_) _ _
  (repeat' first|(refine Ka ?_;first|refine Kb ?_|(refine Kc ?_;intro _))|refine Kd ?_|refine Kh ?_)
  refine TL.callP rfl rfl rfl (mustF_no (n:=[]) (d:=[]) (e:=4) (by decide)) ?_
  rintro _ _ ⟨rfl,rfl⟩
  (repeat' first|(refine Ka ?_;first|refine Kb ?_|(refine Kc ?_;intro _))|refine Kd ?_|refine Kh ?_)
  exact Post.throws rfl ⟨_,⟨rfl,rfl,rfl⟩,by (exact Ents.au)⟩
 | some r =>
  obtain ⟨t,j⟩:=r
  show TL _ _ _ _ _ ((_,.tuple #[.agg #[.string ⟨(tN t).toArray⟩,.string ⟨(tD t).toArray⟩],.int .i64 (j:Int),.int .i64 0])::_) _ _
  (repeat' first|(refine Ka ?_;first|refine Kb ?_|(refine Kc ?_;intro _))|refine Kd ?_|refine Kh ?_)
  refine Kt rfl rfl rfl mustF_ok ?_
  (repeat' first|(refine Ka ?_;first|refine Kb ?_|(refine Kc ?_;intro _))|refine Kd ?_|refine Kh ?_)
  refine Post.eret ?_
  (refine Post.ra ?_)
  exact ⟨_,⟨t,j,rfl,rfl,rfl⟩,by (exact Ents.au)⟩
def atV (a b:V3) (s:Rat):Value:=frtV ((a.x:Rat)+s * ((b.x - a.x:Int):Rat)) ((a.y:Rat)+s * ((b.y - a.y:Int):Rat)) ((a.z:Rat)+s * ((b.z - a.z:Int):Rat))
set_option maxRecDepth 100000 in
set_option maxHeartbeats 4000000 in
theorem lineAt_ok (ht:Tab w0) {a b:V3} {s:Rat} (ha:isFar a=false) (hb:isFar b=false) (hs:Fit 200 s) :
  CallsS Tryz.prog w0 87 [lineV pv fv a b,frV s] As fun r Bs=>r=atV a b s∧Bs=As:=by
 have ba:=far_in ha
 have bb:=far_in hb
 obtain ⟨a1,a2,a3,a4,a5,a6⟩:=ba
 obtain ⟨b1,b2,b3,b4,b5,b6⟩:=bb
 have k:=fun (c p:Int) (h1:-200000≤c∧c≤200000) (h2:-200000≤p∧p≤200000)=>fit_way (c:=c) (p:=p) (s:=s) (k:=200) h1 h2 hs
 refine CallsS.of_tri Tryz.func87 rfl Tryz.ntmps87 rfl ?_
 show Tri _ _ _ _ (env0 0 [.agg #[pv,fv,.int .i64 a.x,.int .i64 a.y,.int .i64 a.z,.int .i64 b.x,.int .i64 b.y,.int .i64 b.z],.agg #[.string ⟨(tN (s)).toArray⟩,.string ⟨(tD (s)).toArray⟩]]) _ _
 (repeat' first|(refine Ka ?_;first|refine Kb ?_|(refine Kc ?_;intro _))|refine Kd ?_|refine Kh ?_)
 rename_i b2 b3 b4 b5
 refine Tri.unroll 4 ?_
 (repeat' first|(refine Ka ?_;first|refine Kb ?_|(refine Kc ?_;intro _))|refine Kd ?_|refine Kh ?_)
 refine Tri.mid (fun e' As'=>∃ b7,e'=[(2,.pointer (some ⟨b2,0,none⟩)),(3,.pointer (some ⟨b3,0,none⟩)),(4,.pointer (some ⟨b4,0,none⟩)),(5,.pointer (some ⟨b5,0,none⟩)),(6,.int .i64 0),(7,.pointer (some ⟨b7,0,none⟩)),(8,.int .i64 0)]∧As'=.cl b7 [.string ⟨(tN (s * ((b.x - a.x:Int):Rat))).toArray⟩,.string ⟨(tD (s * ((b.x - a.x:Int):Rat))).toArray⟩] 67::.cl b2 [pv,fv,.int .i64 a.x,.int .i64 a.y,.int .i64 a.z,.int .i64 b.x,.int .i64 b.y,.int .i64 b.z] 143::.cl b3 [.string ⟨(tN (s)).toArray⟩,.string ⟨(tD (s)).toArray⟩] 67::.cl b4 [.string ⟨#[]⟩,.string ⟨#[]⟩,.string ⟨#[]⟩,.string ⟨#[]⟩,.string ⟨#[]⟩,.string ⟨#[]⟩] 69::.cl b5 [.string ⟨#[]⟩,.string ⟨#[]⟩,.string ⟨#[]⟩,.string ⟨#[]⟩,.string ⟨#[]⟩,.string ⟨#[]⟩] 69::As) ?_ ?_
 ·refine Tri.dw [.cl b2 [pv,fv,.int .i64 a.x,.int .i64 a.y,.int .i64 a.z,.int .i64 b.x,.int .i64 b.y,.int .i64 b.z] 143,.cl b3 [.string ⟨(tN (s)).toArray⟩,.string ⟨(tD (s)).toArray⟩] 67] [] (.take 0 (.take 1 (.take 2 (.take 3 (.take 4 (.take 5 (.take 6 (.take 7 (.take 8 (.take 9 (.all [(10,.all [(11,.take 12 (.take 13 (.all [(14,.all [(15,.all [(16,.done)])]),(15,.all [(14,.all [(16,.done)])])]))),(15,.all [(11,.take 12 (.take 13 (.all [(14,.all [(16,.done)])])))])]),(15,.all [(10,.all [(11,.take 12 (.take 13 (.all [(14,.all [(16,.done)])])))])])]))))))))))) ?_
  (repeat' first|(refine Ka ?_;first|refine Kb ?_|(refine Kc ?_;intro _))|refine Kd ?_|(refine Ki ?_;refine Kj ?_)|exact Kk|refine Kl ?_ ?_|(refine Km ?_;first|refine Kn ?_|(refine Ko ?_;intro _))|(refine Kp ?_;first|refine Kq ?_|refine Kr ?_)|refine Kh ?_)
  repeat' (first|(refine T1.callv rfl rfl rfl rfl rfl (whole_ok ht (n:=b.x - a.x) (by omega)) ?_;rintro _ _ ⟨rfl,rfl⟩;(repeat' first|(refine Ka ?_;first|refine Kb ?_|(refine Kc ?_;intro _))|refine Kd ?_|(refine Ki ?_;refine Kj ?_)|exact Kk|refine Kl ?_ ?_|(refine Km ?_;first|refine Kn ?_|(refine Ko ?_;intro _))|(refine Kp ?_;first|refine Kq ?_|refine Kr ?_)|refine Kh ?_))|(refine T1.callv rfl rfl rfl rfl rfl (Q.mulT_ok ht (hs.mono (by decide)) ((fit_int9 (z:=b.x - a.x) (by omega)).mono (by decide)) ((k a.x b.x (by omega) (by omega)).1.mono (by decide))) ?_;rintro _ _ ⟨rfl,rfl⟩;(repeat' first|(refine Ka ?_;first|refine Kb ?_|(refine Kc ?_;intro _))|refine Kd ?_|(refine Ki ?_;refine Kj ?_)|exact Kk|refine Kl ?_ ?_|(refine Km ?_;first|refine Kn ?_|(refine Ko ?_;intro _))|(refine Kp ?_;first|refine Kq ?_|refine Kr ?_)|refine Kh ?_))|(refine T1.call rfl rfl rfl rfl mustF_ok ?_;rintro _ _ ⟨rfl,rfl⟩;(repeat' first|(refine Ka ?_;first|refine Kb ?_|(refine Kc ?_;intro _))|refine Kd ?_|(refine Ki ?_;refine Kj ?_)|exact Kk|refine Kl ?_ ?_|(refine Km ?_;first|refine Kn ?_|(refine Ko ?_;intro _))|(refine Kp ?_;first|refine Kq ?_|refine Kr ?_)|refine Kh ?_)))
  all_goals exact Post.cut _ _ ⟨_,rfl,rfl⟩ (by (exact Sub.au)) (by (exact Ents.au))
 rintro _ _ ⟨b7,rfl,rfl⟩
 (repeat' first|(refine Ka ?_;first|refine Kb ?_|(refine Kc ?_;intro _))|refine Kd ?_|refine Kh ?_)
 refine Tri.dw [.cl b2 [pv,fv,.int .i64 a.x,.int .i64 a.y,.int .i64 a.z,.int .i64 b.x,.int .i64 b.y,.int .i64 b.z] 143,.cl b7 [.string ⟨(tN (s * ((b.x - a.x:Int):Rat))).toArray⟩,.string ⟨(tD (s * ((b.x - a.x:Int):Rat))).toArray⟩] 67] [] (.take 0 (.take 1 (.take 2 (.take 3 (.take 4 (.take 6 (.all [(5,.all [(7,.take 8 (.take 9 (.all [(10,.take 11 (.all [(12,.done)]))])))])]))))))) ?_
 (repeat' first|(refine Ka ?_;first|refine Kb ?_|(refine Kc ?_;intro _))|refine Kd ?_|(refine Ki ?_;refine Kj ?_)|exact Kk|refine Kl ?_ ?_|(refine Km ?_;first|refine Kn ?_|(refine Ko ?_;intro _))|(refine Kp ?_;first|refine Kq ?_|refine Kr ?_)|refine Kh ?_)
 refine Ku rfl rfl rfl rfl rfl (whole_ok ht (n:=a.x) (by omega)) ?_
 (repeat' first|(refine Ka ?_;first|refine Kb ?_|(refine Kc ?_;intro _))|refine Kd ?_|(refine Ki ?_;refine Kj ?_)|exact Kk|refine Kl ?_ ?_|(refine Km ?_;first|refine Kn ?_|(refine Ko ?_;intro _))|(refine Kp ?_;first|refine Kq ?_|refine Kr ?_)|refine Kh ?_)
 refine Ku rfl rfl rfl rfl rfl (Q.addT_ok ht ((fit_int9 (z:=a.x) (by omega)).mono (by decide)) ((k a.x b.x (by omega) (by omega)).1.mono (by decide)) ((k a.x b.x (by omega) (by omega)).2.mono (by decide))) ?_
 (repeat' first|(refine Ka ?_;first|refine Kb ?_|(refine Kc ?_;intro _))|refine Kd ?_|(refine Ki ?_;refine Kj ?_)|exact Kk|refine Kl ?_ ?_|(refine Km ?_;first|refine Kn ?_|(refine Ko ?_;intro _))|(refine Kp ?_;first|refine Kq ?_|refine Kr ?_)|refine Kh ?_)
 refine Kw rfl rfl rfl rfl mustF_ok ?_
 (repeat' first|(refine Ka ?_;first|refine Kb ?_|(refine Kc ?_;intro _))|refine Kd ?_|(refine Ki ?_;refine Kj ?_)|exact Kk|refine Kl ?_ ?_|(refine Km ?_;first|refine Kn ?_|(refine Ko ?_;intro _))|(refine Kp ?_;first|refine Kq ?_|refine Kr ?_)|refine Kh ?_)
 show Tri _ _ _ _ _ (.cl b5 [.string ⟨(tN ((a.x:Rat)+s * ((b.x - a.x:Int):Rat))).toArray⟩,.string ⟨(tD ((a.x:Rat)+s * ((b.x - a.x:Int):Rat))).toArray⟩,.string ⟨#[]⟩,.string ⟨#[]⟩,.string ⟨#[]⟩,.string ⟨#[]⟩] _::_) _
 (repeat' first|(refine Ka ?_;first|refine Kb ?_|(refine Kc ?_;intro _))|refine Kd ?_|refine Kh ?_)
 refine Tri.mid (fun e' As'=>∃ b7,e'=[(2,.pointer (some ⟨b2,0,none⟩)),(3,.pointer (some ⟨b3,0,none⟩)),(4,.pointer (some ⟨b4,0,none⟩)),(5,.pointer (some ⟨b5,0,none⟩)),(6,.int .i64 1),(7,.pointer (some ⟨b7,0,none⟩)),(8,.int .i64 1)]∧As'=.cl b7 [.string ⟨(tN (s * ((b.y - a.y:Int):Rat))).toArray⟩,.string ⟨(tD (s * ((b.y - a.y:Int):Rat))).toArray⟩] 67::.cl b2 [pv,fv,.int .i64 a.x,.int .i64 a.y,.int .i64 a.z,.int .i64 b.x,.int .i64 b.y,.int .i64 b.z] 143::.cl b3 [.string ⟨(tN (s)).toArray⟩,.string ⟨(tD (s)).toArray⟩] 67::.cl b4 [.string ⟨#[]⟩,.string ⟨#[]⟩,.string ⟨#[]⟩,.string ⟨#[]⟩,.string ⟨#[]⟩,.string ⟨#[]⟩] 69::.cl b5 [.string ⟨(tN ((a.x:Rat)+s * ((b.x - a.x:Int):Rat))).toArray⟩,.string ⟨(tD ((a.x:Rat)+s * ((b.x - a.x:Int):Rat))).toArray⟩,.string ⟨#[]⟩,.string ⟨#[]⟩,.string ⟨#[]⟩,.string ⟨#[]⟩] 69::As) ?_ ?_
 ·refine Tri.dw [.cl b2 [pv,fv,.int .i64 a.x,.int .i64 a.y,.int .i64 a.z,.int .i64 b.x,.int .i64 b.y,.int .i64 b.z] 143,.cl b3 [.string ⟨(tN (s)).toArray⟩,.string ⟨(tD (s)).toArray⟩] 67] [] (.take 0 (.take 1 (.take 2 (.take 3 (.take 4 (.take 5 (.take 6 (.take 7 (.take 8 (.take 9 (.all [(10,.all [(11,.take 12 (.take 13 (.all [(14,.all [(15,.all [(16,.done)])]),(15,.all [(14,.all [(16,.done)])])]))),(15,.all [(11,.take 12 (.take 13 (.all [(14,.all [(16,.done)])])))])]),(15,.all [(10,.all [(11,.take 12 (.take 13 (.all [(14,.all [(16,.done)])])))])])]))))))))))) ?_
  (repeat' first|(refine Ka ?_;first|refine Kb ?_|(refine Kc ?_;intro _))|refine Kd ?_|(refine Ki ?_;refine Kj ?_)|exact Kk|refine Kl ?_ ?_|(refine Km ?_;first|refine Kn ?_|(refine Ko ?_;intro _))|(refine Kp ?_;first|refine Kq ?_|refine Kr ?_)|refine Kh ?_)
  repeat' (first|(refine T1.callv rfl rfl rfl rfl rfl (whole_ok ht (n:=b.y - a.y) (by omega)) ?_;rintro _ _ ⟨rfl,rfl⟩;(repeat' first|(refine Ka ?_;first|refine Kb ?_|(refine Kc ?_;intro _))|refine Kd ?_|(refine Ki ?_;refine Kj ?_)|exact Kk|refine Kl ?_ ?_|(refine Km ?_;first|refine Kn ?_|(refine Ko ?_;intro _))|(refine Kp ?_;first|refine Kq ?_|refine Kr ?_)|refine Kh ?_))|(refine T1.callv rfl rfl rfl rfl rfl (Q.mulT_ok ht (hs.mono (by decide)) ((fit_int9 (z:=b.y - a.y) (by omega)).mono (by decide)) ((k a.y b.y (by omega) (by omega)).1.mono (by decide))) ?_;rintro _ _ ⟨rfl,rfl⟩;(repeat' first|(refine Ka ?_;first|refine Kb ?_|(refine Kc ?_;intro _))|refine Kd ?_|(refine Ki ?_;refine Kj ?_)|exact Kk|refine Kl ?_ ?_|(refine Km ?_;first|refine Kn ?_|(refine Ko ?_;intro _))|(refine Kp ?_;first|refine Kq ?_|refine Kr ?_)|refine Kh ?_))|(refine T1.call rfl rfl rfl rfl mustF_ok ?_;rintro _ _ ⟨rfl,rfl⟩;(repeat' first|(refine Ka ?_;first|refine Kb ?_|(refine Kc ?_;intro _))|refine Kd ?_|(refine Ki ?_;refine Kj ?_)|exact Kk|refine Kl ?_ ?_|(refine Km ?_;first|refine Kn ?_|(refine Ko ?_;intro _))|(refine Kp ?_;first|refine Kq ?_|refine Kr ?_)|refine Kh ?_)))
  all_goals exact Post.cut _ _ ⟨_,rfl,rfl⟩ (by (exact Sub.au)) (by (exact Ents.au))
 rintro _ _ ⟨b7,rfl,rfl⟩
 (repeat' first|(refine Ka ?_;first|refine Kb ?_|(refine Kc ?_;intro _))|refine Kd ?_|refine Kh ?_)
 refine Tri.dw [.cl b2 [pv,fv,.int .i64 a.x,.int .i64 a.y,.int .i64 a.z,.int .i64 b.x,.int .i64 b.y,.int .i64 b.z] 143,.cl b7 [.string ⟨(tN (s * ((b.y - a.y:Int):Rat))).toArray⟩,.string ⟨(tD (s * ((b.y - a.y:Int):Rat))).toArray⟩] 67] [] (.take 0 (.take 1 (.take 2 (.take 3 (.take 4 (.take 6 (.all [(5,.all [(7,.take 8 (.take 9 (.all [(10,.take 11 (.all [(12,.done)]))])))])]))))))) ?_
 (repeat' first|(refine Ka ?_;first|refine Kb ?_|(refine Kc ?_;intro _))|refine Kd ?_|(refine Ki ?_;refine Kj ?_)|exact Kk|refine Kl ?_ ?_|(refine Km ?_;first|refine Kn ?_|(refine Ko ?_;intro _))|(refine Kp ?_;first|refine Kq ?_|refine Kr ?_)|refine Kh ?_)
 refine Ku rfl rfl rfl rfl rfl (whole_ok ht (n:=a.y) (by omega)) ?_
 (repeat' first|(refine Ka ?_;first|refine Kb ?_|(refine Kc ?_;intro _))|refine Kd ?_|(refine Ki ?_;refine Kj ?_)|exact Kk|refine Kl ?_ ?_|(refine Km ?_;first|refine Kn ?_|(refine Ko ?_;intro _))|(refine Kp ?_;first|refine Kq ?_|refine Kr ?_)|refine Kh ?_)
 refine Ku rfl rfl rfl rfl rfl (Q.addT_ok ht ((fit_int9 (z:=a.y) (by omega)).mono (by decide)) ((k a.y b.y (by omega) (by omega)).1.mono (by decide)) ((k a.y b.y (by omega) (by omega)).2.mono (by decide))) ?_
 (repeat' first|(refine Ka ?_;first|refine Kb ?_|(refine Kc ?_;intro _))|refine Kd ?_|(refine Ki ?_;refine Kj ?_)|exact Kk|refine Kl ?_ ?_|(refine Km ?_;first|refine Kn ?_|(refine Ko ?_;intro _))|(refine Kp ?_;first|refine Kq ?_|refine Kr ?_)|refine Kh ?_)
 refine Kw rfl rfl rfl rfl mustF_ok ?_
 (repeat' first|(refine Ka ?_;first|refine Kb ?_|(refine Kc ?_;intro _))|refine Kd ?_|(refine Ki ?_;refine Kj ?_)|exact Kk|refine Kl ?_ ?_|(refine Km ?_;first|refine Kn ?_|(refine Ko ?_;intro _))|(refine Kp ?_;first|refine Kq ?_|refine Kr ?_)|refine Kh ?_)
 show Tri _ _ _ _ _ (.cl b5 [.string ⟨(tN ((a.x:Rat)+s * ((b.x - a.x:Int):Rat))).toArray⟩,.string ⟨(tD ((a.x:Rat)+s * ((b.x - a.x:Int):Rat))).toArray⟩,.string ⟨(tN ((a.y:Rat)+s * ((b.y - a.y:Int):Rat))).toArray⟩,.string ⟨(tD ((a.y:Rat)+s * ((b.y - a.y:Int):Rat))).toArray⟩,.string ⟨#[]⟩,.string ⟨#[]⟩] _::_) _
 (repeat' first|(refine Ka ?_;first|refine Kb ?_|(refine Kc ?_;intro _))|refine Kd ?_|refine Kh ?_)
 refine Tri.mid (fun e' As'=>∃ b7,e'=[(2,.pointer (some ⟨b2,0,none⟩)),(3,.pointer (some ⟨b3,0,none⟩)),(4,.pointer (some ⟨b4,0,none⟩)),(5,.pointer (some ⟨b5,0,none⟩)),(6,.int .i64 2),(7,.pointer (some ⟨b7,0,none⟩)),(8,.int .i64 2)]∧As'=.cl b7 [.string ⟨(tN (s * ((b.z - a.z:Int):Rat))).toArray⟩,.string ⟨(tD (s * ((b.z - a.z:Int):Rat))).toArray⟩] 67::.cl b2 [pv,fv,.int .i64 a.x,.int .i64 a.y,.int .i64 a.z,.int .i64 b.x,.int .i64 b.y,.int .i64 b.z] 143::.cl b3 [.string ⟨(tN (s)).toArray⟩,.string ⟨(tD (s)).toArray⟩] 67::.cl b4 [.string ⟨#[]⟩,.string ⟨#[]⟩,.string ⟨#[]⟩,.string ⟨#[]⟩,.string ⟨#[]⟩,.string ⟨#[]⟩] 69::.cl b5 [.string ⟨(tN ((a.x:Rat)+s * ((b.x - a.x:Int):Rat))).toArray⟩,.string ⟨(tD ((a.x:Rat)+s * ((b.x - a.x:Int):Rat))).toArray⟩,.string ⟨(tN ((a.y:Rat)+s * ((b.y - a.y:Int):Rat))).toArray⟩,.string ⟨(tD ((a.y:Rat)+s * ((b.y - a.y:Int):Rat))).toArray⟩,.string ⟨#[]⟩,.string ⟨#[]⟩] 69::As) ?_ ?_
 ·refine Tri.dw [.cl b2 [pv,fv,.int .i64 a.x,.int .i64 a.y,.int .i64 a.z,.int .i64 b.x,.int .i64 b.y,.int .i64 b.z] 143,.cl b3 [.string ⟨(tN (s)).toArray⟩,.string ⟨(tD (s)).toArray⟩] 67] [] (.take 0 (.take 1 (.take 2 (.take 3 (.take 4 (.take 5 (.take 6 (.take 7 (.take 8 (.take 9 (.all [(10,.all [(11,.take 12 (.take 13 (.all [(14,.all [(15,.all [(16,.done)])]),(15,.all [(14,.all [(16,.done)])])]))),(15,.all [(11,.take 12 (.take 13 (.all [(14,.all [(16,.done)])])))])]),(15,.all [(10,.all [(11,.take 12 (.take 13 (.all [(14,.all [(16,.done)])])))])])]))))))))))) ?_
  (repeat' first|(refine Ka ?_;first|refine Kb ?_|(refine Kc ?_;intro _))|refine Kd ?_|(refine Ki ?_;refine Kj ?_)|exact Kk|refine Kl ?_ ?_|(refine Km ?_;first|refine Kn ?_|(refine Ko ?_;intro _))|(refine Kp ?_;first|refine Kq ?_|refine Kr ?_)|refine Kh ?_)
  repeat' (first|(refine T1.callv rfl rfl rfl rfl rfl (whole_ok ht (n:=b.z - a.z) (by omega)) ?_;rintro _ _ ⟨rfl,rfl⟩;(repeat' first|(refine Ka ?_;first|refine Kb ?_|(refine Kc ?_;intro _))|refine Kd ?_|(refine Ki ?_;refine Kj ?_)|exact Kk|refine Kl ?_ ?_|(refine Km ?_;first|refine Kn ?_|(refine Ko ?_;intro _))|(refine Kp ?_;first|refine Kq ?_|refine Kr ?_)|refine Kh ?_))|(refine T1.callv rfl rfl rfl rfl rfl (Q.mulT_ok ht (hs.mono (by decide)) ((fit_int9 (z:=b.z - a.z) (by omega)).mono (by decide)) ((k a.z b.z (by omega) (by omega)).1.mono (by decide))) ?_;rintro _ _ ⟨rfl,rfl⟩;(repeat' first|(refine Ka ?_;first|refine Kb ?_|(refine Kc ?_;intro _))|refine Kd ?_|(refine Ki ?_;refine Kj ?_)|exact Kk|refine Kl ?_ ?_|(refine Km ?_;first|refine Kn ?_|(refine Ko ?_;intro _))|(refine Kp ?_;first|refine Kq ?_|refine Kr ?_)|refine Kh ?_))|(refine T1.call rfl rfl rfl rfl mustF_ok ?_;rintro _ _ ⟨rfl,rfl⟩;(repeat' first|(refine Ka ?_;first|refine Kb ?_|(refine Kc ?_;intro _))|refine Kd ?_|(refine Ki ?_;refine Kj ?_)|exact Kk|refine Kl ?_ ?_|(refine Km ?_;first|refine Kn ?_|(refine Ko ?_;intro _))|(refine Kp ?_;first|refine Kq ?_|refine Kr ?_)|refine Kh ?_)))
  all_goals exact Post.cut _ _ ⟨_,rfl,rfl⟩ (by (exact Sub.au)) (by (exact Ents.au))
 rintro _ _ ⟨b7,rfl,rfl⟩
 (repeat' first|(refine Ka ?_;first|refine Kb ?_|(refine Kc ?_;intro _))|refine Kd ?_|refine Kh ?_)
 refine Tri.dw [.cl b2 [pv,fv,.int .i64 a.x,.int .i64 a.y,.int .i64 a.z,.int .i64 b.x,.int .i64 b.y,.int .i64 b.z] 143,.cl b7 [.string ⟨(tN (s * ((b.z - a.z:Int):Rat))).toArray⟩,.string ⟨(tD (s * ((b.z - a.z:Int):Rat))).toArray⟩] 67] [] (.take 0 (.take 1 (.take 2 (.take 3 (.take 4 (.take 6 (.all [(5,.all [(7,.take 8 (.take 9 (.all [(10,.take 11 (.all [(12,.done)]))])))])]))))))) ?_
 (repeat' first|(refine Ka ?_;first|refine Kb ?_|(refine Kc ?_;intro _))|refine Kd ?_|(refine Ki ?_;refine Kj ?_)|exact Kk|refine Kl ?_ ?_|(refine Km ?_;first|refine Kn ?_|(refine Ko ?_;intro _))|(refine Kp ?_;first|refine Kq ?_|refine Kr ?_)|refine Kh ?_)
 refine Ku rfl rfl rfl rfl rfl (whole_ok ht (n:=a.z) (by omega)) ?_
 (repeat' first|(refine Ka ?_;first|refine Kb ?_|(refine Kc ?_;intro _))|refine Kd ?_|(refine Ki ?_;refine Kj ?_)|exact Kk|refine Kl ?_ ?_|(refine Km ?_;first|refine Kn ?_|(refine Ko ?_;intro _))|(refine Kp ?_;first|refine Kq ?_|refine Kr ?_)|refine Kh ?_)
 refine Ku rfl rfl rfl rfl rfl (Q.addT_ok ht ((fit_int9 (z:=a.z) (by omega)).mono (by decide)) ((k a.z b.z (by omega) (by omega)).1.mono (by decide)) ((k a.z b.z (by omega) (by omega)).2.mono (by decide))) ?_
 (repeat' first|(refine Ka ?_;first|refine Kb ?_|(refine Kc ?_;intro _))|refine Kd ?_|(refine Ki ?_;refine Kj ?_)|exact Kk|refine Kl ?_ ?_|(refine Km ?_;first|refine Kn ?_|(refine Ko ?_;intro _))|(refine Kp ?_;first|refine Kq ?_|refine Kr ?_)|refine Kh ?_)
 refine Kw rfl rfl rfl rfl mustF_ok ?_
 (repeat' first|(refine Ka ?_;first|refine Kb ?_|(refine Kc ?_;intro _))|refine Kd ?_|(refine Ki ?_;refine Kj ?_)|exact Kk|refine Kl ?_ ?_|(refine Km ?_;first|refine Kn ?_|(refine Ko ?_;intro _))|(refine Kp ?_;first|refine Kq ?_|refine Kr ?_)|refine Kh ?_)
 (refine Post.ra ?_)
 exact ⟨_,⟨rfl,rfl⟩,by (exact Ents.au)⟩
end Go.Proofs.YtkcnpgmgmgepoaaGreatDoor
namespace Go.Sx
open Go
theorem light_fit:Fit 19 (100000:Rat):=Fit.mono (k:=6) (Fit.of (by decide) (by decide) (by decide)) (by decide)
theorem light_one:((100000:Int):Rat)=100000:=rfl
theorem low_floor {t:Rat} (h0:0≤t) (h1:t≤1):(-(100000 * t)).floor=((-100000:Rat) * t).floor∧-100000≤(-(100000 * t)).floor∧(-(100000 * t)).floor≤0:=by
 rw [neg_eq]
 exact ⟨rfl,floor_in h0 h1⟩
theorem high_floor {t:Rat} (h0:0≤t) (h1:t≤1):((100000:Rat) * (1 - t)).floor=100000+((-100000:Rat) * t).floor∧0≤((100000:Rat) * (1 - t)).floor∧((100000:Rat) * (1 - t)).floor≤100000:=by
 rw [high_eq]
 have:=floor_in h0 h1
 exact ⟨rfl,by omega,by omega⟩
theorem extO_low {P F:List V3} (h:lowO P F=none):extO P F=none:=by unfold extO;rw [h];rfl
theorem extO_high {P F:List V3} (h:highO P F=none):extO P F=none:=by unfold extO;rw [h];cases lowO P F<;>rfl
theorem extO_two {P F:List V3} {l k:Int} (h1:lowO P F=some l) (h2:highO P F=some k):extO P F=if k < l then none else some (l,k):=by unfold extO;rw [h1,h2];rfl
theorem lowO_in {P F:List V3} (h:(sideW P F blackV).1=0):lowO P F=(rayM metP P F blackV whiteV false).map fun x=>-((-100000:Rat) * x.1).floor:=if_pos h
theorem lowO_out {P F:List V3} (h:(sideW P F blackV).1≠0):lowO P F=some 0:=if_neg h
theorem highO_in {P F:List V3} (h:(sideW P F whiteV).1=0):highO P F=(rayM metP P F whiteV blackV false).map fun x=>100000+((-100000:Rat) * x.1).floor:=if_pos h
theorem highO_out {P F:List V3} (h:(sideW P F whiteV).1≠0):highO P F=some 100000:=if_neg h
theorem way_bounds {P F:List V3} {a b:V3} (hg:Good P F) (ha:isFar a=false) (hb:isFar b=false) (hab:a≠b) {t:Rat} {j:Nat} (h:rayM metP P F a b false=some (t,j)):0≤t∧t≤1∧Fit 19 t:=by
 obtain ⟨_,_,h2,h3,_⟩:=(ray_meet hg (a:=a) (b:=b) hab).1 t j h
 exact ⟨h2,h3,ray_fitB hg ha hb hab h⟩
end Go.Sx
namespace Go.Proofs.YtkcnpgmgmgepoaaGreatDoor
open Go Go.Sx
variable {w0:World} {As:List Ent} {pv fv:Value} {pts fcs:List V3}
def extE (As:List Ent) (o:Option (Int × Int)) (v:Value) (Bs:List Ent):Prop:=∃ l h,o=some (l,h)∧v=.tuple #[.int .i64 l,.int .i64 h]∧Bs=As
def extT (As:List Ent) (o:Option (Int × Int)) (v:Value) (Bs:List Ent):Prop:=o=none∧v=errV 4∧Bs=As
theorem sideV_ok (ht:Tab w0) (hg:Sx.Good pts fcs) {p:V3} (hp:isFar p=false) [RdIn As fv V3 cV3 fcs] [RdIn As pv V3 cV3 pts] :
  CallsS Tryz.prog w0 34 [.agg #[pv,fv],p.val] As fun r Bs=>r=.tuple #[.int .i64 (sideW pts fcs p).1,.int .i64 0]∧Bs=As:=by
 have h:=side_ok (w0:=w0) (As:=As) (pv:=pv) (fv:=fv) (pts:=pts) (fcs:=fcs) ht (p:=p)
 rw [sideW_two hg hp] at h
 exact h
def ancE (As:List Ent) (o:Option V3) (v:Value) (Bs:List Ent):Prop:=∃ c,o=some c∧v=V3.val c∧Bs=As
def ancT (As:List Ent) (o:Option V3) (v:Value) (Bs:List Ent):Prop:=o=none∧v=errV 4∧Bs=As
set_option maxRecDepth 100000 in
set_option maxHeartbeats 8000000 in
theorem extent_ok (ht:Tab w0) (he:ErrR w0) (hg:Sx.Good pts fcs) [RdIn As fv V3 cV3 fcs] [RdIn As pv V3 cV3 pts] :
  CallsE Tryz.prog w0 72 [.agg #[pv,fv]] As (extE As (extO pts fcs)) (extT As (extO pts fcs)):=by
 refine CallsE.of_tri Tryz.func72 rfl Tryz.ntmps72 rfl ?_
 refine Tri.rdSl (c:=cV3) (xs:=pts) pv fun q1 c1 w1=>Tri.rdSl (c:=cV3) (xs:=fcs) fv fun q2 c2 w2=>?_
 subst w1 w2
 (repeat' first|(refine Ka ?_;first|refine Kb ?_|(refine Kc ?_;intro _))|refine Kd ?_|refine Kh ?_)
 rename_i b1 b4 b5
 refine TL.callv rfl rfl rfl rfl (whole_ok ht (n:=100000) (by decide)) ?_
 rw [light_one]
 rintro _ _ ⟨rfl,rfl⟩
 (repeat' first|(refine Ka ?_;first|refine Kb ?_|(refine Kc ?_;intro _))|refine Kd ?_|refine Kh ?_)
 rename_i b6
 refine Ks rfl rfl rfl rfl (sideV_ok ht hg (p:=blackV) rfl) ?_
 (repeat' first|(refine Ka ?_;first|refine Kb ?_|(refine Kc ?_;intro _))|refine Kd ?_|refine Kh ?_)
 refine Kt rfl rfl rfl mustI_ok ?_
 (repeat' first|(refine Ka ?_;first|refine Kb ?_|(refine Kc ?_;intro _))|refine Kd ?_|refine Kh ?_)
 by_cases hb:(sideW pts fcs blackV).1=0
 ·rw [hb]
  (repeat' first|(refine Ka ?_;first|refine Kb ?_|(refine Kc ?_;intro _))|refine Kd ?_|refine Kh ?_)
  refine TL.callvE rfl rfl rfl rfl (lineMeets_ok ht hg (pv:=.slice q1 pts.length c1) (fv:=.slice q2 fcs.length c2) (a:=blackV) (b:=whiteV) rfl rfl (by decide) (y:=false)) ?_ ?_
  ·rintro _ _ ⟨ho,rfl,rfl⟩
   have hn:=extO_low (by rw [lowO_in hb,ho];rfl)
   (repeat' first|(refine Ka ?_;first|refine Kb ?_|(refine Kc ?_;intro _))|refine Kd ?_|refine Kh ?_)
   exact Post.throws rfl ⟨_,⟨hn,rfl,rfl⟩,by (exact Ents.au)⟩
  ·rintro _ _ ⟨t,jt,ho,rfl,rfl⟩
   obtain ⟨t0,t1,ft⟩:=way_bounds hg rfl rfl (by decide) ho
   show TL _ _ _ _ _ ((_,.agg #[.string ⟨(tN t).toArray⟩,.string ⟨(tD t).toArray⟩])::_) _ _
   (repeat' first|(refine Ka ?_;first|refine Kb ?_|(refine Kc ?_;intro _))|refine Kd ?_|refine Kh ?_)
   obtain ⟨d1,d2,d3⟩:=low_floor t0 t1
   have hL:lowO pts fcs=some (-(-((100000:Rat) * t)).floor):=by rw [lowO_in hb,ho,d1];rfl
   have k1:=light_fit.mul ft
   clear ho
   refine Ks rfl rfl rfl rfl (Q.mulT_ok ht (r:=100000) (s:=t) (light_fit.mono (by decide)) (ft.mono (by decide)) (k1.mono (by decide))) ?_
   (repeat' first|(refine Ka ?_;first|refine Kb ?_|(refine Kc ?_;intro _))|refine Kd ?_|refine Kh ?_)
   refine Kt rfl rfl rfl mustF_ok ?_
   (repeat' first|(refine Ka ?_;first|refine Kb ?_|(refine Kc ?_;intro _))|refine Kd ?_|refine Kh ?_)
   refine Ks rfl rfl rfl rfl (Q.negT_ok ht (r:=100000 * t) (k1.mono (by decide))) ?_
   (repeat' first|(refine Ka ?_;first|refine Kb ?_|(refine Kc ?_;intro _))|refine Kd ?_|refine Kh ?_)
   refine Kt rfl rfl rfl mustF_ok ?_
   (repeat' first|(refine Ka ?_;first|refine Kb ?_|(refine Kc ?_;intro _))|refine Kd ?_|refine Kh ?_)
   refine Ks rfl rfl rfl rfl (floorI_ok ht he (a:=-(100000 * t)) (k1.neg.mono (by decide)) (by omega)) ?_
   generalize (-((100000:Rat) * t)).floor=W at *
   clear d1 k1
   (repeat' first|(refine Ka ?_;first|refine Kb ?_|(refine Kc ?_;intro _))|refine Kd ?_|refine Kh ?_)
   refine Ks rfl rfl rfl rfl (sideV_ok ht hg (p:=whiteV) rfl) ?_
   (repeat' first|(refine Ka ?_;first|refine Kb ?_|(refine Kc ?_;intro _))|refine Kd ?_|refine Kh ?_)
   refine Kt rfl rfl rfl mustI_ok ?_
   (repeat' first|(refine Ka ?_;first|refine Kb ?_|(refine Kc ?_;intro _))|refine Kd ?_|refine Kh ?_)
   by_cases hw:(sideW pts fcs whiteV).1=0
   ·rw [hw]
    (repeat' first|(refine Ka ?_;first|refine Kb ?_|(refine Kc ?_;intro _))|refine Kd ?_|refine Kh ?_)
    refine TL.callvE rfl rfl rfl rfl (lineMeets_ok ht hg (pv:=.slice q1 pts.length c1) (fv:=.slice q2 fcs.length c2) (a:=whiteV) (b:=blackV) rfl rfl (by decide) (y:=false)) ?_ ?_
    ·rintro _ _ ⟨ho,rfl,rfl⟩
     have hn:=extO_high (by rw [highO_in hw,ho];rfl)
     (repeat' first|(refine Ka ?_;first|refine Kb ?_|(refine Kc ?_;intro _))|refine Kd ?_|refine Kh ?_)
     exact Post.throws rfl ⟨_,⟨hn,rfl,rfl⟩,by (exact Ents.au)⟩
    ·rintro _ _ ⟨u,ju,ho,rfl,rfl⟩
     obtain ⟨u0,u1,fu⟩:=way_bounds hg rfl rfl (by decide) ho
     show TL _ _ _ _ _ ((_,.agg #[.string ⟨(tN u).toArray⟩,.string ⟨(tD u).toArray⟩])::_) _ _
     (repeat' first|(refine Ka ?_;first|refine Kb ?_|(refine Kc ?_;intro _))|refine Kd ?_|refine Kh ?_)
     obtain ⟨e1,e2,e3⟩:=high_floor u0 u1
     have hH:highO pts fcs=some ((100000:Rat) * (1 - u)).floor:=by rw [highO_in hw,ho,e1];rfl
     have g1:=fit1.sub fu
     have g2:=light_fit.mul g1
     clear ho
     rename_i b8
     refine Tri.dw [.cl b6 [.string ⟨(tN 100000).toArray⟩,.string ⟨(tD 100000).toArray⟩] 67,.cl b8 [.string ⟨(tN u).toArray⟩,.string ⟨(tD u).toArray⟩] 67] [] (.take 0 (.take 2 (.all [(1,.all [(3,.take 4 (.take 5 (.all [(6,.all [(7,.take 8 (.take 9 (.all [(10,.all [(11,.take 12 (.done))])])))])])))])]))) ?_
     (repeat' first|(refine Ka ?_;first|refine Kb ?_|(refine Kc ?_;intro _))|refine Kd ?_|(refine Ki ?_;refine Kj ?_)|exact Kk|refine Kl ?_ ?_|(refine Km ?_;first|refine Kn ?_|(refine Ko ?_;intro _))|(refine Kp ?_;first|refine Kq ?_|refine Kr ?_)|refine Kh ?_)
     refine T1.callv rfl rfl rfl rfl rfl (whole_ok ht (n:=1) (by decide)) ?_
     rw [show ((1:Int):Rat)=1 from rfl]
     rintro _ _ ⟨rfl,rfl⟩
     (repeat' first|(refine Ka ?_;first|refine Kb ?_|(refine Kc ?_;intro _))|refine Kd ?_|(refine Ki ?_;refine Kj ?_)|exact Kk|refine Kl ?_ ?_|(refine Km ?_;first|refine Kn ?_|(refine Ko ?_;intro _))|(refine Kp ?_;first|refine Kq ?_|refine Kr ?_)|refine Kh ?_)
     refine Ku rfl rfl rfl rfl rfl (Q.subT_ok ht (r:=1) (s:=u) (fit1.mono (by decide)) (fu.mono (by decide)) (g1.mono (by decide))) ?_
     (repeat' first|(refine Ka ?_;first|refine Kb ?_|(refine Kc ?_;intro _))|refine Kd ?_|(refine Ki ?_;refine Kj ?_)|exact Kk|refine Kl ?_ ?_|(refine Km ?_;first|refine Kn ?_|(refine Ko ?_;intro _))|(refine Kp ?_;first|refine Kq ?_|refine Kr ?_)|refine Kh ?_)
     refine Kw rfl rfl rfl rfl mustF_ok ?_
     (repeat' first|(refine Ka ?_;first|refine Kb ?_|(refine Kc ?_;intro _))|refine Kd ?_|(refine Ki ?_;refine Kj ?_)|exact Kk|refine Kl ?_ ?_|(refine Km ?_;first|refine Kn ?_|(refine Ko ?_;intro _))|(refine Kp ?_;first|refine Kq ?_|refine Kr ?_)|refine Kh ?_)
     refine Ku rfl rfl rfl rfl rfl (Q.mulT_ok ht (r:=100000) (s:=1 - u) (light_fit.mono (by decide)) (g1.mono (by decide)) (g2.mono (by decide))) ?_
     (repeat' first|(refine Ka ?_;first|refine Kb ?_|(refine Kc ?_;intro _))|refine Kd ?_|(refine Ki ?_;refine Kj ?_)|exact Kk|refine Kl ?_ ?_|(refine Km ?_;first|refine Kn ?_|(refine Ko ?_;intro _))|(refine Kp ?_;first|refine Kq ?_|refine Kr ?_)|refine Kh ?_)
     refine Kw rfl rfl rfl rfl mustF_ok ?_
     (repeat' first|(refine Ka ?_;first|refine Kb ?_|(refine Kc ?_;intro _))|refine Kd ?_|(refine Ki ?_;refine Kj ?_)|exact Kk|refine Kl ?_ ?_|(refine Km ?_;first|refine Kn ?_|(refine Ko ?_;intro _))|(refine Kp ?_;first|refine Kq ?_|refine Kr ?_)|refine Kh ?_)
     refine Ku rfl rfl rfl rfl rfl (floorI_ok ht he (a:=100000 * (1 - u)) (g2.mono (by decide)) (by omega)) ?_
     generalize ((100000:Rat) * (1 - u)).floor=H at *
     clear e1 g1 g2
     (repeat' first|(refine Ka ?_;first|refine Kb ?_|(refine Kc ?_;intro _))|refine Kd ?_|(refine Ki ?_;refine Kj ?_)|exact Kk|refine Kl ?_ ?_|(refine Km ?_;first|refine Kn ?_|(refine Ko ?_;intro _))|(refine Kp ?_;first|refine Kq ?_|refine Kr ?_)|refine Kh ?_)
     have h2:=extO_two hL hH
     rw [h2]
     clear h2 hL hH
     by_cases hlt:H < -W
     ·rw [if_pos hlt]
      (repeat' first|(refine Ka ?_;first|refine Kb ?_|(refine Kc ?_;intro _))|refine Kd ?_|(refine Ki ?_;refine Kj ?_)|exact Kk|refine Kl ?_ ?_|(refine Km ?_;first|refine Kn ?_|(refine Ko ?_;intro _))|(refine Kp ?_;first|refine Kq ?_|refine Kr ?_)|refine Kh ?_)
      refine TL.f rfl rfl (ExF.mkIface rfl rfl) ?_
      refine TL.panic rfl rfl ?_
      (repeat' first|(refine Ka ?_;first|refine Kb ?_|(refine Kc ?_;intro _))|refine Kd ?_|refine Kh ?_)
      exact Post.throws rfl ⟨_,⟨rfl,rfl,rfl⟩,by (exact Ents.au)⟩
     ·rw [if_neg hlt]
      (repeat' first|(refine Ka ?_;first|refine Kb ?_|(refine Kc ?_;intro _))|refine Kd ?_|(refine Ki ?_;refine Kj ?_)|exact Kk|refine Kl ?_ ?_|(refine Km ?_;first|refine Kn ?_|(refine Ko ?_;intro _))|(refine Kp ?_;first|refine Kq ?_|refine Kr ?_)|refine Kh ?_)
      refine Post.eret ?_
      (refine Post.ra ?_)
      exact ⟨_,⟨_,_,rfl,rfl,rfl⟩,by (exact Ents.au)⟩
   ·have hH:=highO_out hw
    generalize (sideW pts fcs whiteV).1=sw at *
    (repeat' first|(refine Ka ?_;first|refine Kb ?_|(refine Kc ?_;intro _))|refine Kd ?_|refine Kh ?_)
    have h2:=extO_two hL hH
    rw [if_neg (by omega)] at h2
    rw [h2]
    clear h2 hL hH
    (repeat' first|(refine Ka ?_;first|refine Kb ?_|(refine Kc ?_;intro _))|refine Kd ?_|refine Kh ?_)
    refine Post.eret ?_
    (refine Post.ra ?_)
    exact ⟨_,⟨_,_,rfl,rfl,rfl⟩,by (exact Ents.au)⟩
 ·have hL:=lowO_out hb
  generalize (sideW pts fcs blackV).1=sb at *
  (repeat' first|(refine Ka ?_;first|refine Kb ?_|(refine Kc ?_;intro _))|refine Kd ?_|refine Kh ?_)
  refine Ks rfl rfl rfl rfl (sideV_ok ht hg (p:=whiteV) rfl) ?_
  (repeat' first|(refine Ka ?_;first|refine Kb ?_|(refine Kc ?_;intro _))|refine Kd ?_|refine Kh ?_)
  refine Kt rfl rfl rfl mustI_ok ?_
  (repeat' first|(refine Ka ?_;first|refine Kb ?_|(refine Kc ?_;intro _))|refine Kd ?_|refine Kh ?_)
  by_cases hw:(sideW pts fcs whiteV).1=0
  ·rw [hw]
   (repeat' first|(refine Ka ?_;first|refine Kb ?_|(refine Kc ?_;intro _))|refine Kd ?_|refine Kh ?_)
   refine TL.callvE rfl rfl rfl rfl (lineMeets_ok ht hg (pv:=.slice q1 pts.length c1) (fv:=.slice q2 fcs.length c2) (a:=whiteV) (b:=blackV) rfl rfl (by decide) (y:=false)) ?_ ?_
   ·rintro _ _ ⟨ho,rfl,rfl⟩
    have hn:=extO_high (by rw [highO_in hw,ho];rfl)
    (repeat' first|(refine Ka ?_;first|refine Kb ?_|(refine Kc ?_;intro _))|refine Kd ?_|refine Kh ?_)
    exact Post.throws rfl ⟨_,⟨hn,rfl,rfl⟩,by (exact Ents.au)⟩
   ·rintro _ _ ⟨u,ju,ho,rfl,rfl⟩
    obtain ⟨u0,u1,fu⟩:=way_bounds hg rfl rfl (by decide) ho
    show TL _ _ _ _ _ ((_,.agg #[.string ⟨(tN u).toArray⟩,.string ⟨(tD u).toArray⟩])::_) _ _
    (repeat' first|(refine Ka ?_;first|refine Kb ?_|(refine Kc ?_;intro _))|refine Kd ?_|refine Kh ?_)
    obtain ⟨e1,e2,e3⟩:=high_floor u0 u1
    have hH:highO pts fcs=some ((100000:Rat) * (1 - u)).floor:=by rw [highO_in hw,ho,e1];rfl
    have g1:=fit1.sub fu
    have g2:=light_fit.mul g1
    clear ho
    rename_i b8
    refine Tri.dw [.cl b6 [.string ⟨(tN 100000).toArray⟩,.string ⟨(tD 100000).toArray⟩] 67,.cl b8 [.string ⟨(tN u).toArray⟩,.string ⟨(tD u).toArray⟩] 67] [] (.take 0 (.take 2 (.all [(1,.all [(3,.take 4 (.take 5 (.all [(6,.all [(7,.take 8 (.take 9 (.all [(10,.all [(11,.take 12 (.done))])])))])])))])]))) ?_
    (repeat' first|(refine Ka ?_;first|refine Kb ?_|(refine Kc ?_;intro _))|refine Kd ?_|(refine Ki ?_;refine Kj ?_)|exact Kk|refine Kl ?_ ?_|(refine Km ?_;first|refine Kn ?_|(refine Ko ?_;intro _))|(refine Kp ?_;first|refine Kq ?_|refine Kr ?_)|refine Kh ?_)
    refine T1.callv rfl rfl rfl rfl rfl (whole_ok ht (n:=1) (by decide)) ?_
    rw [show ((1:Int):Rat)=1 from rfl]
    rintro _ _ ⟨rfl,rfl⟩
    (repeat' first|(refine Ka ?_;first|refine Kb ?_|(refine Kc ?_;intro _))|refine Kd ?_|(refine Ki ?_;refine Kj ?_)|exact Kk|refine Kl ?_ ?_|(refine Km ?_;first|refine Kn ?_|(refine Ko ?_;intro _))|(refine Kp ?_;first|refine Kq ?_|refine Kr ?_)|refine Kh ?_)
    refine Ku rfl rfl rfl rfl rfl (Q.subT_ok ht (r:=1) (s:=u) (fit1.mono (by decide)) (fu.mono (by decide)) (g1.mono (by decide))) ?_
    (repeat' first|(refine Ka ?_;first|refine Kb ?_|(refine Kc ?_;intro _))|refine Kd ?_|(refine Ki ?_;refine Kj ?_)|exact Kk|refine Kl ?_ ?_|(refine Km ?_;first|refine Kn ?_|(refine Ko ?_;intro _))|(refine Kp ?_;first|refine Kq ?_|refine Kr ?_)|refine Kh ?_)
    refine Kw rfl rfl rfl rfl mustF_ok ?_
    (repeat' first|(refine Ka ?_;first|refine Kb ?_|(refine Kc ?_;intro _))|refine Kd ?_|(refine Ki ?_;refine Kj ?_)|exact Kk|refine Kl ?_ ?_|(refine Km ?_;first|refine Kn ?_|(refine Ko ?_;intro _))|(refine Kp ?_;first|refine Kq ?_|refine Kr ?_)|refine Kh ?_)
    refine Ku rfl rfl rfl rfl rfl (Q.mulT_ok ht (r:=100000) (s:=1 - u) (light_fit.mono (by decide)) (g1.mono (by decide)) (g2.mono (by decide))) ?_
    (repeat' first|(refine Ka ?_;first|refine Kb ?_|(refine Kc ?_;intro _))|refine Kd ?_|(refine Ki ?_;refine Kj ?_)|exact Kk|refine Kl ?_ ?_|(refine Km ?_;first|refine Kn ?_|(refine Ko ?_;intro _))|(refine Kp ?_;first|refine Kq ?_|refine Kr ?_)|refine Kh ?_)
    refine Kw rfl rfl rfl rfl mustF_ok ?_
    (repeat' first|(refine Ka ?_;first|refine Kb ?_|(refine Kc ?_;intro _))|refine Kd ?_|(refine Ki ?_;refine Kj ?_)|exact Kk|refine Kl ?_ ?_|(refine Km ?_;first|refine Kn ?_|(refine Ko ?_;intro _))|(refine Kp ?_;first|refine Kq ?_|refine Kr ?_)|refine Kh ?_)
    refine Ku rfl rfl rfl rfl rfl (floorI_ok ht he (a:=100000 * (1 - u)) (g2.mono (by decide)) (by omega)) ?_
    generalize ((100000:Rat) * (1 - u)).floor=H at *
    clear e1 g1 g2
    (repeat' first|(refine Ka ?_;first|refine Kb ?_|(refine Kc ?_;intro _))|refine Kd ?_|(refine Ki ?_;refine Kj ?_)|exact Kk|refine Kl ?_ ?_|(refine Km ?_;first|refine Kn ?_|(refine Ko ?_;intro _))|(refine Kp ?_;first|refine Kq ?_|refine Kr ?_)|refine Kh ?_)
    have h2:=extO_two hL hH
    rw [if_neg (by omega)] at h2
    rw [h2]
    clear h2 hL hH
    (repeat' first|(refine Ka ?_;first|refine Kb ?_|(refine Kc ?_;intro _))|refine Kd ?_|(refine Ki ?_;refine Kj ?_)|exact Kk|refine Kl ?_ ?_|(refine Km ?_;first|refine Kn ?_|(refine Ko ?_;intro _))|(refine Kp ?_;first|refine Kq ?_|refine Kr ?_)|refine Kh ?_)
    refine Post.eret ?_
    (refine Post.ra ?_)
    exact ⟨_,⟨_,_,rfl,rfl,rfl⟩,by (exact Ents.au)⟩
  ·have hH:=highO_out hw
   generalize (sideW pts fcs whiteV).1=sw at *
   (repeat' first|(refine Ka ?_;first|refine Kb ?_|(refine Kc ?_;intro _))|refine Kd ?_|refine Kh ?_)
   have h2:=extO_two hL hH
   rw [if_neg (by omega)] at h2
   rw [h2]
   clear h2 hL hH
   (repeat' first|(refine Ka ?_;first|refine Kb ?_|(refine Kc ?_;intro _))|refine Kd ?_|refine Kh ?_)
   refine Post.eret ?_
   (refine Post.ra ?_)
   exact ⟨_,⟨_,_,rfl,rfl,rfl⟩,by (exact Ents.au)⟩
set_option maxRecDepth 100000 in
set_option maxHeartbeats 4000000 in
theorem anchorI_ok (ht:Tab w0) (he:ErrR w0) (hg:Sx.Good pts fcs) {p:V3} (hp:isFar p=false) [RdIn As fv V3 cV3 fcs] [RdIn As pv V3 cV3 pts] :
  CallsE Tryz.prog w0 79 [.agg #[pv,fv],p.val] As (ancE As (anchorO pts fcs p)) (ancT As (anchorO pts fcs p)):=by
 have bp:=far_in hp
 obtain ⟨p1,p2,p3,p4,p5,p6⟩:=bp
 refine CallsE.of_tri Tryz.func79 rfl Tryz.ntmps79 rfl ?_
 show Tri _ _ _ _ (env0 0 [.agg #[pv,fv],.agg #[.int .i64 p.x,.int .i64 p.y,.int .i64 p.z]]) _ _
 (repeat' first|(refine Ka ?_;first|refine Kb ?_|(refine Kc ?_;intro _))|refine Kd ?_|refine Kh ?_)
 refine TL.callvE rfl rfl rfl rfl (extent_ok ht he hg) ?_ ?_
 ·rintro _ _ ⟨ho,rfl,rfl⟩
  have hn:anchorO pts fcs p=none:=by unfold anchorO;rw [ho];rfl
  rw [hn]
  (repeat' first|(refine Ka ?_;first|refine Kb ?_|(refine Kc ?_;intro _))|refine Kd ?_|refine Kh ?_)
  exact Post.throws rfl ⟨_,⟨rfl,rfl,rfl⟩,by (exact Ents.au)⟩
 ·rintro _ _ ⟨l,h,ho,rfl,rfl⟩
  have hin:=ext_in hg ho
  have hfr:=anchor_far hg ho p
  have hA:anchorO pts fcs p=if (sideW pts fcs (anchorV l h p)).1=2 then some (anchorV l h p) else none:=by unfold anchorO;rw [ho];rfl
  rw [hA]
  clear hA ho
  have e:(if h - (h - l) / 4 < (if p.x < l+(h - l) / 4 then l+(h - l) / 4 else p.x) then h - (h - l) / 4 else (if p.x < l+(h - l) / 4 then l+(h - l) / 4 else p.x))=(anchorV l h p).x:=by
   unfold anchorV
   simp only
   split<;>split<;>omega
  (repeat' first|(refine Ka ?_;first|refine Kb ?_|(refine Kc ?_;intro _))|refine Kd ?_|refine Kh ?_)
  rw [e]
  clear e
  refine Ks rfl rfl rfl rfl (sideV_ok ht hg (p:=anchorV l h p) hfr) ?_
  have hy:(anchorV l h p)=⟨(anchorV l h p).x,0,0⟩:=rfl
  generalize anchorV l h p=c at *
  (repeat' first|(refine Ka ?_;first|refine Kb ?_|(refine Kc ?_;intro _))|refine Kd ?_|refine Kh ?_)
  refine Kt rfl rfl rfl mustI_ok ?_
  generalize (sideW pts fcs c).1=s at *
  by_cases hs:s=2
  ·rw [if_pos hs]
   (repeat' first|(refine Ka ?_;first|refine Kb ?_|(refine Kc ?_;intro _))|refine Kd ?_|refine Kh ?_)
   refine Post.eret ?_
   (refine Post.ra ?_)
   exact ⟨_,⟨c,rfl,by rw [hy];rfl,rfl⟩,by (exact Ents.au)⟩
  ·rw [if_neg hs]
   (repeat' first|(refine Ka ?_;first|refine Kb ?_|(refine Kc ?_;intro _))|refine Kd ?_|refine Kh ?_)
   refine TL.f rfl rfl (ExF.mkIface rfl rfl) ?_
   refine TL.panic rfl rfl ?_
   (repeat' first|(refine Ka ?_;first|refine Kb ?_|(refine Kc ?_;intro _))|refine Kd ?_|refine Kh ?_)
   exact Post.throws rfl ⟨_,⟨rfl,rfl,rfl⟩,by (exact Ents.au)⟩
end Go.Proofs.YtkcnpgmgmgepoaaGreatDoor
