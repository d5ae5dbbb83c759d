/- The engine: arrays of three structs of two strings are compared. -/
import Derived.Test.YtngcfjfaobcpmaaGreatDoorSxP
import Derived.Test.YtngcfjfaobcpmaaGreatDoorPl
import Derived.Test.YtngcfjfaobcpmaaGreatDoorNw4
import Derived.Test.YtngcfjfaobcpmaaGreatDoorIj1
import Derived.Test.YtngcfjfaobcpmaaGreatDoorMr1
set_option maxHeartbeats 1000000
namespace Go.Sx
open Go
section
variable {P:Program} {N:Ctx} {w0:World} {e:Env} {As:List Ent} {ty:TypeId} {x y:Operand} {w:World}
theorem Z2i {t:TypeId} [hT:TwoS P t] (d:Nat) (a b c f:List UInt8):(Op.equalIn (d+1+1) t (.agg #[.string ⟨a.toArray⟩,.string ⟨b.toArray⟩]) (.agg #[.string ⟨c.toArray⟩,.string ⟨f.toArray⟩])).run P w=.ok (decide (a=c∧b=f)) w:=by
 obtain ⟨f',g,ts,us,h1,h2,h3,h4,h5,h6,h7,h8,h9⟩:=hT.h
 haveI:UL P t (.struct #[f',g]):=⟨h1⟩
 haveI:UL P ts .string:=⟨h8⟩
 haveI:UL P us .string:=⟨h9⟩
 have h10:=hT.h2
 have p0:∀ (a b:List UInt8),(part ts #[.string ⟨a.toArray⟩,.string ⟨b.toArray⟩] 0).run P w=.ok (.string ⟨a.toArray⟩) w:=fun a b=>Zib _ _ rfl
 have p1:∀ (a b:List UInt8),(part us #[.string ⟨a.toArray⟩,.string ⟨b.toArray⟩] 1).run P w=.ok (.string ⟨b.toArray⟩) w:=fun a b=>Zib _ _ rfl
 unfold Op.equalIn
 simp only [Sem.run_bind,Zap,Result.andThen_ok]
 have hp:(program).run P w=.ok P w:=rfl
 simp only [hp,Result.andThen_ok,h10]
 by_cases e1:a=c<;>by_cases e2:b=f<;>simp [h2,h3,h4,h5,h6,h7,p0,p1,Zxr,e1,e2]
class Six (P:Program) (t:TypeId):Prop where
 h:∃ (el:TypeId) (f g:Field) (z:Value) (b:Nat),P.underlying t=some (.array 3 el)∧P.underlying el=some (.struct #[f,g])∧TwoS P el∧(P.info? el).map (fun i=>(i.zero,i.size,i.bytes))=some (some z,2,b)
 h1:P.eqGuardType P.depth t=false
theorem Zm9 {el:TypeId} {f g:Field} {z:Value} {b:Nat} [UL P el (.struct #[f,g])] [TI P el z 2 b] (cs:Array Value) (i:Nat) {u v:Value} (h:cs.extract i (i+2)=#[u,v]):(part el cs i).run P w=.ok (.agg #[u,v]) w:=by
 have hs:(sizeOf el).run P w=.ok 2 w:=Zbc
 simp [part,Zep,aggB,hs,h]
theorem Zsx {t:TypeId} [hT:Six P t] (a b c d f g a' b' c' d' f' g':List UInt8) :
  (Op.equal t (.agg #[.string ⟨a.toArray⟩,.string ⟨b.toArray⟩,.string ⟨c.toArray⟩,.string ⟨d.toArray⟩,.string ⟨f.toArray⟩,.string ⟨g.toArray⟩]) (.agg #[.string ⟨a'.toArray⟩,.string ⟨b'.toArray⟩,.string ⟨c'.toArray⟩,.string ⟨d'.toArray⟩,.string ⟨f'.toArray⟩,.string ⟨g'.toArray⟩])).run P w =
   .ok (decide ((a=a'∧b=b')∧(c=c'∧d=d')∧(f=f'∧g=g'))) w:=by
 obtain ⟨el,fi,gi,z,bb,h1,h2,h3,h4⟩:=hT.h
 haveI:UL P t (.array 3 el):=⟨h1⟩
 haveI:UL P el (.struct #[fi,gi]):=⟨h2⟩
 haveI:TwoS P el:=h3
 haveI:TI P el z 2 bb:=⟨h4⟩
 have p0:∀ a b c d f g:List UInt8,(part el #[.string ⟨a.toArray⟩,.string ⟨b.toArray⟩,.string ⟨c.toArray⟩,.string ⟨d.toArray⟩,.string ⟨f.toArray⟩,.string ⟨g.toArray⟩] 0).run P w=.ok (.agg #[.string ⟨a.toArray⟩,.string ⟨b.toArray⟩]) w:=fun _ _ _ _ _ _=>Zm9 _ 0 rfl
 have p1:∀ a b c d f g:List UInt8,(part el #[.string ⟨a.toArray⟩,.string ⟨b.toArray⟩,.string ⟨c.toArray⟩,.string ⟨d.toArray⟩,.string ⟨f.toArray⟩,.string ⟨g.toArray⟩] 2).run P w=.ok (.agg #[.string ⟨c.toArray⟩,.string ⟨d.toArray⟩]) w:=fun _ _ _ _ _ _=>Zm9 _ 2 rfl
 have p2:∀ a b c d f g:List UInt8,(part el #[.string ⟨a.toArray⟩,.string ⟨b.toArray⟩,.string ⟨c.toArray⟩,.string ⟨d.toArray⟩,.string ⟨f.toArray⟩,.string ⟨g.toArray⟩] 4).run P w=.ok (.agg #[.string ⟨f.toArray⟩,.string ⟨g.toArray⟩]) w:=fun _ _ _ _ _ _=>Zm9 _ 4 rfl
 unfold Op.equal Op.maxDepth
 show (Op.equalIn (9997+1+1+1) t _ _).run P w=_
 unfold Op.equalIn
 simp only [Sem.run_bind,Zap,Result.andThen_ok]
 simp only [Zbc,Result.andThen_ok]
 simp only [Std.Legacy.Range.forIn_eq_forIn_range']
 simp [List.range'_succ,p0,p1,p2,Z2i]
 by_cases e0:a=a'<;>by_cases e1:b=b'<;>simp [e0,e1]
 by_cases e2:c=c'<;>by_cases e3:d=d'<;>simp [e2,e3]
 by_cases e4:f=f'<;>by_cases e5:g=g'<;>simp [e4,e5]
theorem Zln {t:TypeId} [h:Six P t] (op:BinOp) (x y:Operand) (a b:Array Value):(eqGuard op t x y (.agg a) (.agg b)).run P w=.ok () w:=by
 unfold eqGuard
 cases op<;>simp [h.h1]
theorem Za1 {t t':TypeId} [Six P t] {a b c d f g a' b' c' d' f' g':List UInt8} (hx:ev e x=some (.agg #[.string ⟨a.toArray⟩,.string ⟨b.toArray⟩,.string ⟨c.toArray⟩,.string ⟨d.toArray⟩,.string ⟨f.toArray⟩,.string ⟨g.toArray⟩])) (hy:ev e y=some (.agg #[.string ⟨a'.toArray⟩,.string ⟨b'.toArray⟩,.string ⟨c'.toArray⟩,.string ⟨d'.toArray⟩,.string ⟨f'.toArray⟩,.string ⟨g'.toArray⟩])) :
  ExF P N w0 (.binOp .eql t x y t') ty e As (.bool (decide ((a=a'∧b=b')∧(c=c'∧d=d')∧(f=f'∧g=g')))):=by
 unfold ExF
 intro ac w ha hs dd pos af g
 have h1:∀ u v:Array Value,binOp .eql t (.agg u) (.agg v)=(do pure (.bool (← Op.equal t (.agg u) (.agg v)))):=fun _ _=>rfl
 simp only [execOp,ha.eval hx,ha.eval hy,Sem.run_bind,Zln,Result.andThen_ok,h1,Zsx]
 rfl
theorem Zea {t t':TypeId} [Six P t] {a b c d f g a' b' c' d' f' g':List UInt8} (hx:ev e x=some (.agg #[.string ⟨a.toArray⟩,.string ⟨b.toArray⟩,.string ⟨c.toArray⟩,.string ⟨d.toArray⟩,.string ⟨f.toArray⟩,.string ⟨g.toArray⟩])) (hy:ev e y=some (.agg #[.string ⟨a'.toArray⟩,.string ⟨b'.toArray⟩,.string ⟨c'.toArray⟩,.string ⟨d'.toArray⟩,.string ⟨f'.toArray⟩,.string ⟨g'.toArray⟩])) :
  ExF P N w0 (.binOp .neq t x y t') ty e As (.bool !(decide ((a=a'∧b=b')∧(c=c'∧d=d')∧(f=f'∧g=g')))):=by
 unfold ExF
 intro ac w ha hs dd pos af g
 have h1:∀ u v:Array Value,binOp .neq t (.agg u) (.agg v)=(do pure (.bool (!(← Op.equal t (.agg u) (.agg v))))):=fun _ _=>rfl
 simp only [execOp,ha.eval hx,ha.eval hy,Sem.run_bind,Zln,Result.andThen_ok,h1,Zsx]
 rfl
end
end Go.Sx
namespace Go.Proofs.YtngcfjfaobcpmaaGreatDoor
open Go Go.Sx
variable {w0:World} {As:List Ent} {pv fv:Value} {pts fcs:List V3}
instance:Six Tryz.prog 54:=⟨⟨52,_,_,_,_,(inferInstance:UL Tryz.prog 54 _).h,(inferInstance:UL Tryz.prog 52 _).h,inferInstance,(inferInstance:TI Tryz.prog 52 _ 2 _).h⟩,by kernel_rfl⟩
theorem Zpo:CallsS Tryz.prog w0 43 [] As fun v Bs=>∃ b1 b2,v=.agg #[.slice (some ⟨b1,0,none⟩) 6 6,.slice (some ⟨b2,0,none⟩) 8 8] ∧
  Bs=.ow cV3 33 (.slice (some ⟨b1,0,none⟩) 6 6) octP::.ow cV3 33 (.slice (some ⟨b2,0,none⟩) 8 8) octF::As:=by
 refine Zab Tryz.func43 rfl Tryz.ntmps43 rfl ?_
 repeat' first|refine Kz ?_|intro _
 rename_i b0 b1 b2
 (refine Zac ?_)
 refine ⟨_,⟨b1,b2,rfl,rfl⟩,?_⟩
 refine Ents.trans Zbr ?_
 refine Ents.trans (Zbd (n:=8) (cap:=8) cV3 octF rfl rfl rfl) ?_
 refine Ents.trans (Ents.perm (List.Perm.swap _ _ _)) ?_
 refine Ents.trans (Zbd (n:=6) (cap:=6) cV3 octP rfl rfl rfl) ?_
 (exact Zaa)
theorem Zbk {x y z:Int} (hx:-400000≤x∧x≤400000) (hy:-400000≤y∧y≤400000) (hz:-400000≤z∧z≤400000) :
  CQ Tryz.prog w0 22 [.int .i64 x,.int .i64 y,.int .i64 z] As (frtV (x:Rat) (y:Rat) (z:Rat)):=by
 rw [← Zhk x,← Zhk y,← Zhk z]
 refine Zab Tryz.func22 rfl Tryz.ntmps22 rfl ?_
 repeat' first|refine Kz ?_|intro _
 refine Zah 4 ?_
 repeat' first|refine Kz ?_|intro _
 refine Ks rfl (Za0 (n:=x) (d:=1) (by omega) (by decide) (by decide)) ?_
 repeat' first|refine Kz ?_|intro _
 refine Ks rfl (Za0 (n:=y) (d:=1) (by omega) (by decide) (by decide)) ?_
 repeat' first|refine Kz ?_|intro _
 refine Ks rfl (Za0 (n:=z) (d:=1) (by omega) (by decide) (by decide)) ?_
 repeat' first|refine Kz ?_|intro _
 exact Kv
theorem Zmp (ht:Tab w0) (he:ErrR w0) {p:V3} {x y z:Rat} (h:clipW octP octF p=.inr [x,y,z]) :
  CQ Tryz.prog w0 45 [p.val,frtV x y z] As (.bool true):=by
 refine Zab Tryz.func45 rfl Tryz.ntmps45 rfl ?_
 show Tri _ _ _ _ (env0 0 [.agg #[.int .i64 p.x,.int .i64 p.y,.int .i64 p.z],.agg #[.string ⟨(tN x).toArray⟩,.string ⟨(tD x).toArray⟩,.string ⟨(tN y).toArray⟩,.string ⟨(tD y).toArray⟩,.string ⟨(tN z).toArray⟩,.string ⟨(tD z).toArray⟩]]) _ _
 repeat' first|refine Kz ?_|intro _
 rename_i b2 b3
 refine Tri.mid (fun e' As'=>∃ b5,e'=[(3,.pointer (some ⟨b3,0,none⟩)),(5,.pointer (some ⟨b5,0,none⟩)),(6,.int .i64 0)]∧As'=.cl b5 [.string ⟨(tN x).toArray⟩,.string ⟨(tD x).toArray⟩,.string ⟨(tN y).toArray⟩,.string ⟨(tD y).toArray⟩,.string ⟨(tN z).toArray⟩,.string ⟨(tD z).toArray⟩] 54::.cl b3 [.string ⟨(tN x).toArray⟩,.string ⟨(tD x).toArray⟩,.string ⟨(tN y).toArray⟩,.string ⟨(tD y).toArray⟩,.string ⟨(tN z).toArray⟩,.string ⟨(tD z).toArray⟩] 54::As) ?_ ?_
 ·refine Zaf [.cl b2 [.int .i64 p.x,.int .i64 p.y,.int .i64 p.z] 33] [] (.take 1 (.all [(0,.all [(2,.take 3 (.take 4 (.take 5 (.all [(6,.all [(7,.take 8 (.done))])])))),(6,.all [(2,.take 3 (.take 4 (.take 5 (.all [(7,.take 8 (.done))]))))])]),(6,.all [(0,.all [(2,.take 3 (.take 4 (.take 5 (.all [(7,.take 8 (.done))]))))])])])) ?_
  repeat' first|refine Kf ?_|intro _|constructor
  repeat' (first|(refine T1.call rfl rfl rfl rfl Zpo ?_;rintro _ _ ⟨k1,k2,rfl,rfl⟩;(repeat' first|refine Kf ?_|intro _|constructor))|(refine T1.callv rfl rfl rfl rfl rfl (Zcw ht he (pv:=.slice (some ⟨k1,0,none⟩) 6 6) (fv:=.slice (some ⟨k2,0,none⟩) 8 8) (pts:=octP) (fcs:=octF) (p:=p)) ?_;rw [h];rintro _ _ ⟨rfl,rfl⟩;show TC _ _ _ _ _ _ _ ((_,.tuple #[.agg #[.string ⟨(tN x).toArray⟩,.string ⟨(tD x).toArray⟩,.string ⟨(tN y).toArray⟩,.string ⟨(tD y).toArray⟩,.string ⟨(tN z).toArray⟩,.string ⟨(tD z).toArray⟩],.int .i64 0])::_) _ _;(repeat' first|refine Kf ?_|intro _|constructor)))
  all_goals exact Post.cut _ _ ⟨_,rfl,rfl⟩ Zad Zaa
 rintro _ _ ⟨b5,rfl,rfl⟩
 repeat' first|refine Kz ?_|intro _
 refine TL.f rfl rfl (Za1 rfl rfl) ?_
 repeat' first|refine Kz ?_|intro _
 (refine Zac ?_)
 exact ⟨_,⟨by simp,rfl⟩,Zaa⟩
theorem Zky (ht:Tab w0) (he:ErrR w0) {p:V3} {x y z:Rat} (h:compressW octP octF p 500 2000=.inr [x,y,z]) :
  CQ Tryz.prog w0 46 [p.val,frtV x y z] As (.bool true):=by
 refine Zab Tryz.func46 rfl Tryz.ntmps46 rfl ?_
 show Tri _ _ _ _ (env0 0 [.agg #[.int .i64 p.x,.int .i64 p.y,.int .i64 p.z],.agg #[.string ⟨(tN x).toArray⟩,.string ⟨(tD x).toArray⟩,.string ⟨(tN y).toArray⟩,.string ⟨(tD y).toArray⟩,.string ⟨(tN z).toArray⟩,.string ⟨(tD z).toArray⟩]]) _ _
 repeat' first|refine Kz ?_|intro _
 rename_i b2 b3
 refine Tri.mid (fun e' As'=>∃ b5,e'=[(3,.pointer (some ⟨b3,0,none⟩)),(5,.pointer (some ⟨b5,0,none⟩)),(6,.int .i64 0)]∧As'=.cl b5 [.string ⟨(tN x).toArray⟩,.string ⟨(tD x).toArray⟩,.string ⟨(tN y).toArray⟩,.string ⟨(tD y).toArray⟩,.string ⟨(tN z).toArray⟩,.string ⟨(tD z).toArray⟩] 54::.cl b3 [.string ⟨(tN x).toArray⟩,.string ⟨(tD x).toArray⟩,.string ⟨(tN y).toArray⟩,.string ⟨(tD y).toArray⟩,.string ⟨(tN z).toArray⟩,.string ⟨(tD z).toArray⟩] 54::As) ?_ ?_
 ·refine Zaf [.cl b2 [.int .i64 p.x,.int .i64 p.y,.int .i64 p.z] 33] [] (.take 1 (.all [(0,.all [(2,.take 3 (.take 4 (.take 5 (.all [(6,.all [(7,.take 8 (.done))])])))),(6,.all [(2,.take 3 (.take 4 (.take 5 (.all [(7,.take 8 (.done))]))))])]),(6,.all [(0,.all [(2,.take 3 (.take 4 (.take 5 (.all [(7,.take 8 (.done))]))))])])])) ?_
  repeat' first|refine Kf ?_|intro _|constructor
  repeat' (first|(refine T1.call rfl rfl rfl rfl Zpo ?_;rintro _ _ ⟨k1,k2,rfl,rfl⟩;(repeat' first|refine Kf ?_|intro _|constructor))|(refine T1.callv rfl rfl rfl rfl rfl (Zan ht he (pv:=.slice (some ⟨k1,0,none⟩) 6 6) (fv:=.slice (some ⟨k2,0,none⟩) 8 8) (pts:=octP) (fcs:=octF) (p:=p) (k:=500) (m:=2000)) ?_;rw [h];rintro _ _ ⟨rfl,rfl⟩;show TC _ _ _ _ _ _ _ ((_,.tuple #[.agg #[.string ⟨(tN x).toArray⟩,.string ⟨(tD x).toArray⟩,.string ⟨(tN y).toArray⟩,.string ⟨(tD y).toArray⟩,.string ⟨(tN z).toArray⟩,.string ⟨(tD z).toArray⟩],.int .i64 0])::_) _ _;(repeat' first|refine Kf ?_|intro _|constructor)))
  all_goals exact Post.cut _ _ ⟨_,rfl,rfl⟩ Zad Zaa
 rintro _ _ ⟨b5,rfl,rfl⟩
 repeat' first|refine Kz ?_|intro _
 refine TL.f rfl rfl (Za1 rfl rfl) ?_
 repeat' first|refine Kz ?_|intro _
 (refine Zac ?_)
 exact ⟨_,⟨by simp,rfl⟩,Zaa⟩
theorem Zoc (ht:Tab w0) (he:ErrR w0) {p:V3} {l:Int} (h:anchorW octP octF p=(⟨l,0,0⟩,0)) :
  CQ Tryz.prog w0 44 [p.val,.int .i64 l] As (.bool true):=by
 refine Zab Tryz.func44 rfl Tryz.ntmps44 rfl ?_
 show Tri _ _ _ _ (env0 0 [.agg #[.int .i64 p.x,.int .i64 p.y,.int .i64 p.z],.int .i64 l]) _ _
 repeat' first|refine Kz ?_|intro _
 rename_i b2
 refine Tri.mid (fun e' As'=>∃ b5,e'=[(1,.int .i64 l),(5,.pointer (some ⟨b5,0,none⟩)),(6,.int .i64 0)]∧As'=.cl b5 [.int .i64 l,.int .i64 0,.int .i64 0] 33::As) ?_ ?_
 ·refine Zaf [.cl b2 [.int .i64 p.x,.int .i64 p.y,.int .i64 p.z] 33] [] (.take 1 (.all [(0,.all [(2,.take 3 (.take 4 (.take 5 (.all [(6,.all [(7,.take 8 (.done))])])))),(6,.all [(2,.take 3 (.take 4 (.take 5 (.all [(7,.take 8 (.done))]))))])]),(6,.all [(0,.all [(2,.take 3 (.take 4 (.take 5 (.all [(7,.take 8 (.done))]))))])])])) ?_
  repeat' first|refine Kf ?_|intro _|constructor
  repeat' (first|(refine T1.call rfl rfl rfl rfl Zpo ?_;rintro _ _ ⟨k1,k2,rfl,rfl⟩;(repeat' first|refine Kf ?_|intro _|constructor))|(refine T1.callv rfl rfl rfl rfl rfl (Zdi ht he (pv:=.slice (some ⟨k1,0,none⟩) 6 6) (fv:=.slice (some ⟨k2,0,none⟩) 8 8) (pts:=octP) (fcs:=octF) (p:=p)) ?_;rw [h];rintro _ _ ⟨rfl,rfl⟩;show TC _ _ _ _ _ _ _ ((_,.tuple #[.agg #[.int .i64 l,.int .i64 0,.int .i64 0],.int .i64 0])::_) _ _;(repeat' first|refine Kf ?_|intro _|constructor)))
  all_goals exact Post.cut _ _ ⟨_,rfl,rfl⟩ Zad Zaa
 rintro _ _ ⟨b5,rfl,rfl⟩
 repeat' first|refine Kz ?_|intro _
 (refine Zac ?_)
 exact ⟨_,⟨by simp,rfl⟩,Zaa⟩
end Go.Proofs.YtngcfjfaobcpmaaGreatDoor
namespace Go.Proofs.YtngcfjfaobcpmaaGreatDoor
open Go Go.Sx
variable {w0:World} {As:List Ent}
def asdP (k:Nat):List V3:=(octP.take k).map (fun p=>⟨p.x,p.y+40000,p.z⟩)++octP.drop k
set_option maxRecDepth 100000 in
set_option maxHeartbeats 2000000 in
theorem Zey (ht:Tab w0) (he:ErrR w0):CQ Tryz.prog w0 15 [] As (.bool true):=by
 refine Zab Tryz.func15 rfl Tryz.ntmps15 rfl ?_
 repeat' first|refine Kz ?_|intro _
 refine TL.call rfl rfl rfl Zpo ?_
 rintro _ _ ⟨b1,b2,rfl,rfl⟩
 repeat' first|refine Kz ?_|intro _
 refine TL.callv rfl rfl rfl rfl (Zwu ht he (pv:=.slice (some ⟨b1,0,none⟩) 6 6) (fv:=.slice (some ⟨b2,0,none⟩) 8 8) (pts:=octP) (fcs:=octF)) ?_
 rw [Z7l]
 rintro _ _ ⟨rfl,rfl⟩
 repeat' first|refine Kz ?_|intro _
 refine TL.call rfl rfl rfl Zpo ?_
 rintro _ _ ⟨b3,b4,rfl,rfl⟩
 repeat' first|refine Kz ?_|intro _
 refine TL.callv rfl rfl rfl rfl (Zan ht he (pv:=.slice (some ⟨b3,0,none⟩) 6 6) (fv:=.slice (some ⟨b4,0,none⟩) 8 8) (pts:=octP) (fcs:=octF) (p:=⟨50000,0,0⟩) (k:=1000) (m:=2000)) ?_
 rw [Z3f]
 rintro _ _ ⟨rfl,rfl⟩
 show TL _ _ _ _ _ ((_,.tuple #[.agg #[.string ⟨#[]⟩,.string ⟨#[]⟩,.string ⟨#[]⟩,.string ⟨#[]⟩,.string ⟨#[]⟩,.string ⟨#[]⟩],.int .i64 380])::_) _ _
 repeat' first|refine Kz ?_|intro _
 rename_i c4
 refine TL.call rfl rfl rfl Zpo ?_
 rintro _ _ ⟨b5,b6,rfl,rfl⟩
 repeat' first|refine Kz ?_|intro _
 rename_i c6
 refine Zah 7 ?_
 have q0:octP[0]?=some ⟨80000,0,0⟩:=rfl
 have q1:(asdP 1)[1]?=some ⟨20000,0,0⟩:=rfl
 have q2:(asdP 2)[2]?=some ⟨50000,30000,0⟩:=rfl
 have q3:(asdP 3)[3]?=some ⟨50000,-30000,0⟩:=rfl
 have q4:(asdP 4)[4]?=some ⟨50000,0,30000⟩:=rfl
 have q5:(asdP 5)[5]?=some ⟨50000,0,-30000⟩:=rfl
 repeat' first|refine Kz ?_|intro _
 refine Zaf [.cl c6 [.slice (some ⟨b5,0,none⟩) 6 6,.slice (some ⟨b6,0,none⟩) 8 8] 36] [(5,.w (.slice (some ⟨b5,0,none⟩) 6 6))] (.take 0 (.take 1 (.take 2 (.take 3 (.take 4 (.take 5 (.take 6 (.take 7 (.take 8 (.all [(9,.done)])))))))))) ?_
 repeat' first|refine Kf ?_|intro _|constructor
 refine TT.take rfl rfl rfl (Zcg (i:=0) rfl rfl (by decide)) ?_
 repeat' first|refine Kf ?_|intro _|constructor
 refine TT.take rfl rfl rfl (Zcg (i:=0) rfl rfl (by decide)) ?_
 repeat' first|refine Kf ?_|intro _|constructor
 show Tri _ _ _ _ _ (.ow cV3 _ _ (asdP 1)::_) _
 repeat' first|refine Kz ?_|intro _
 refine Zaf [.cl c6 [.slice (some ⟨b5,0,none⟩) 6 6,.slice (some ⟨b6,0,none⟩) 8 8] 36] [(5,.w (.slice (some ⟨b5,0,none⟩) 6 6))] (.take 0 (.take 1 (.take 2 (.take 3 (.take 4 (.take 5 (.take 6 (.take 7 (.take 8 (.all [(9,.done)])))))))))) ?_
 repeat' first|refine Kf ?_|intro _|constructor
 refine TT.take rfl rfl rfl (Zcg (i:=1) rfl rfl (by decide)) ?_
 repeat' first|refine Kf ?_|intro _|constructor
 refine TT.take rfl rfl rfl (Zcg (i:=1) rfl rfl (by decide)) ?_
 repeat' first|refine Kf ?_|intro _|constructor
 show Tri _ _ _ _ _ (.ow cV3 _ _ (asdP 2)::_) _
 repeat' first|refine Kz ?_|intro _
 refine Zaf [.cl c6 [.slice (some ⟨b5,0,none⟩) 6 6,.slice (some ⟨b6,0,none⟩) 8 8] 36] [(5,.w (.slice (some ⟨b5,0,none⟩) 6 6))] (.take 0 (.take 1 (.take 2 (.take 3 (.take 4 (.take 5 (.take 6 (.take 7 (.take 8 (.all [(9,.done)])))))))))) ?_
 repeat' first|refine Kf ?_|intro _|constructor
 refine TT.take rfl rfl rfl (Zcg (i:=2) rfl rfl (by decide)) ?_
 repeat' first|refine Kf ?_|intro _|constructor
 refine TT.take rfl rfl rfl (Zcg (i:=2) rfl rfl (by decide)) ?_
 repeat' first|refine Kf ?_|intro _|constructor
 show Tri _ _ _ _ _ (.ow cV3 _ _ (asdP 3)::_) _
 repeat' first|refine Kz ?_|intro _
 refine Zaf [.cl c6 [.slice (some ⟨b5,0,none⟩) 6 6,.slice (some ⟨b6,0,none⟩) 8 8] 36] [(5,.w (.slice (some ⟨b5,0,none⟩) 6 6))] (.take 0 (.take 1 (.take 2 (.take 3 (.take 4 (.take 5 (.take 6 (.take 7 (.take 8 (.all [(9,.done)])))))))))) ?_
 repeat' first|refine Kf ?_|intro _|constructor
 refine TT.take rfl rfl rfl (Zcg (i:=3) rfl rfl (by decide)) ?_
 repeat' first|refine Kf ?_|intro _|constructor
 refine TT.take rfl rfl rfl (Zcg (i:=3) rfl rfl (by decide)) ?_
 repeat' first|refine Kf ?_|intro _|constructor
 show Tri _ _ _ _ _ (.ow cV3 _ _ (asdP 4)::_) _
 repeat' first|refine Kz ?_|intro _
 refine Zaf [.cl c6 [.slice (some ⟨b5,0,none⟩) 6 6,.slice (some ⟨b6,0,none⟩) 8 8] 36] [(5,.w (.slice (some ⟨b5,0,none⟩) 6 6))] (.take 0 (.take 1 (.take 2 (.take 3 (.take 4 (.take 5 (.take 6 (.take 7 (.take 8 (.all [(9,.done)])))))))))) ?_
 repeat' first|refine Kf ?_|intro _|constructor
 refine TT.take rfl rfl rfl (Zcg (i:=4) rfl rfl (by decide)) ?_
 repeat' first|refine Kf ?_|intro _|constructor
 refine TT.take rfl rfl rfl (Zcg (i:=4) rfl rfl (by decide)) ?_
 repeat' first|refine Kf ?_|intro _|constructor
 show Tri _ _ _ _ _ (.ow cV3 _ _ (asdP 5)::_) _
 repeat' first|refine Kz ?_|intro _
 refine Zaf [.cl c6 [.slice (some ⟨b5,0,none⟩) 6 6,.slice (some ⟨b6,0,none⟩) 8 8] 36] [(5,.w (.slice (some ⟨b5,0,none⟩) 6 6))] (.take 0 (.take 1 (.take 2 (.take 3 (.take 4 (.take 5 (.take 6 (.take 7 (.take 8 (.all [(9,.done)])))))))))) ?_
 repeat' first|refine Kf ?_|intro _|constructor
 refine TT.take rfl rfl rfl (Zcg (i:=5) rfl rfl (by decide)) ?_
 repeat' first|refine Kf ?_|intro _|constructor
 refine TT.take rfl rfl rfl (Zcg (i:=5) rfl rfl (by decide)) ?_
 repeat' first|refine Kf ?_|intro _|constructor
 show TL _ _ _ _ _ _ (.ow cV3 _ _ asideP::_) _
 clear q0 q1 q2 q3 q4 q5
 refine TL.callv rfl rfl rfl rfl (Zcw ht he (pv:=.slice (some ⟨b5,0,none⟩) 6 6) (fv:=.slice (some ⟨b6,0,none⟩) 8 8) (pts:=asideP) (fcs:=octF) (p:=⟨50000,40000,0⟩)) ?_
 rw [Z0w]
 rintro _ _ ⟨rfl,rfl⟩
 show TL _ _ _ _ _ ((_,.tuple #[.agg #[.string ⟨#[]⟩,.string ⟨#[]⟩,.string ⟨#[]⟩,.string ⟨#[]⟩,.string ⟨#[]⟩,.string ⟨#[]⟩],.int .i64 4])::_) _ _
 repeat' first|refine Kz ?_|intro _
 refine Ks rfl (Zoc ht he (p:=⟨90000,5,5⟩) (l:=65000) Zvu) ?_
 repeat' first|refine Kz ?_|intro _
 refine Ks rfl (Zoc ht he (p:=⟨51000,0,0⟩) (l:=51000) Zvt) ?_
 repeat' first|refine Kz ?_|intro _
 refine Ks rfl (Zbk (x:=50000) (y:=30000) (z:=0) (by decide) (by decide) (by decide)) ?_
 repeat' first|refine Kz ?_|intro _
 refine Ks rfl (Zmp ht he (p:=⟨50000,40000,0⟩) (x:=((50000:Int):Rat)) (y:=((30000:Int):Rat)) (z:=((0:Int):Rat)) (show clipW octP octF ⟨50000,40000,0⟩=.inr [((50000:Int):Rat),((30000:Int):Rat),((0:Int):Rat)] from Z3j)) ?_
 repeat' first|refine Kz ?_|intro _
 refine Ks rfl (Zbk (x:=50000) (y:=15000) (z:=15000) (by decide) (by decide) (by decide)) ?_
 repeat' first|refine Kz ?_|intro _
 refine Ks rfl (Zmp ht he (p:=⟨50000,40000,40000⟩) (x:=((50000:Int):Rat)) (y:=((15000:Int):Rat)) (z:=((15000:Int):Rat)) (show clipW octP octF ⟨50000,40000,40000⟩=.inr [((50000:Int):Rat),((15000:Int):Rat),((15000:Int):Rat)] from Z3i)) ?_
 repeat' first|refine Kz ?_|intro _
 refine Ks rfl (Zbk (x:=50000) (y:=7) (z:=7) (by decide) (by decide) (by decide)) ?_
 repeat' first|refine Kz ?_|intro _
 refine Ks rfl (Zmp ht he (p:=⟨50000,7,7⟩) (x:=((50000:Int):Rat)) (y:=((7:Int):Rat)) (z:=((7:Int):Rat)) (show clipW octP octF ⟨50000,7,7⟩=.inr [((50000:Int):Rat),((7:Int):Rat),((7:Int):Rat)] from Z3h)) ?_
 repeat' first|refine Kz ?_|intro _
 refine Ks rfl (Zbk (x:=80000) (y:=0) (z:=0) (by decide) (by decide) (by decide)) ?_
 repeat' first|refine Kz ?_|intro _
 refine Ks rfl (Zmp ht he (p:=⟨100000,0,0⟩) (x:=((80000:Int):Rat)) (y:=((0:Int):Rat)) (z:=((0:Int):Rat)) (show clipW octP octF ⟨100000,0,0⟩=.inr [((80000:Int):Rat),((0:Int):Rat),((0:Int):Rat)] from Z3g)) ?_
 repeat' first|refine Kz ?_|intro _
 refine Ks rfl (Zbk (x:=50000) (y:=15000) (z:=0) (by decide) (by decide) (by decide)) ?_
 repeat' first|refine Kz ?_|intro _
 refine Ks rfl (Zky ht he (p:=⟨50000,15000,0⟩) (x:=((50000:Int):Rat)) (y:=((15000:Int):Rat)) (z:=((0:Int):Rat)) (show compressW octP octF ⟨50000,15000,0⟩ 500 2000=.inr [((50000:Int):Rat),((15000:Int):Rat),((0:Int):Rat)] from Zz1)) ?_
 repeat' first|refine Kz ?_|intro _
 refine Ks rfl (Zbk (x:=50000) (y:=30000) (z:=0) (by decide) (by decide) (by decide)) ?_
 repeat' first|refine Kz ?_|intro _
 refine Ks rfl (Zky ht he (p:=⟨50000,60000,0⟩) (x:=((50000:Int):Rat)) (y:=((30000:Int):Rat)) (z:=((0:Int):Rat)) (show compressW octP octF ⟨50000,60000,0⟩ 500 2000=.inr [((50000:Int):Rat),((30000:Int):Rat),((0:Int):Rat)] from Zz0)) ?_
 repeat' first|refine Kz ?_|intro _
 refine Ks rfl (Zbk (x:=50000) (y:=20000) (z:=0) (by decide) (by decide) (by decide)) ?_
 repeat' first|refine Kz ?_|intro _
 refine Ks rfl (Zky ht he (p:=⟨50000,30000,0⟩) (x:=((50000:Int):Rat)) (y:=((20000:Int):Rat)) (z:=((0:Int):Rat)) (show compressW octP octF ⟨50000,30000,0⟩ 500 2000=.inr [((50000:Int):Rat),((20000:Int):Rat),((0:Int):Rat)] from Zzz)) ?_
 repeat' first|refine Kz ?_|intro _
 exact Kv
instance (priority:=low) rdNil38 {As:List Ent}:RdIn As (.slice none 0 0) V3 cV3 []:=⟨fun _ _ _=>.inl ⟨⟨none,rfl⟩,rfl⟩⟩
end Go.Proofs.YtngcfjfaobcpmaaGreatDoor
