/- The engine: arrays of three structs of two strings are compared. -/
import Derived.Test.YtkcnpgmgmgepoaaGreatDoorSxS
import Derived.Test.YtkcnpgmgmgepoaaGreatDoorPl
import Derived.Test.YtkcnpgmgmgepoaaGreatDoorNw4
import Derived.Test.YtkcnpgmgmgepoaaGreatDoorIj1
import Derived.Test.YtkcnpgmgmgepoaaGreatDoorMr1
namespace Go.Sx
open Go
def six (l:List (List UInt8)):Array Value:=(l.map fun s=>Value.string ⟨s.toArray⟩).toArray
section
variable {P:Program} {N:Ctx} {w0:World} {e:Env} {As:List Ent} {ty:TypeId} {x y:Operand} {w:World}
theorem run_eqFr' {t:TypeId} [hT:TwoS P t] (d:Nat) (a b c f:List UInt8):(Op.equalIn (d+1+1) t (.agg #[.string ⟨a.toArray⟩,.string ⟨b.toArray⟩]) (.agg #[.string ⟨c.toArray⟩,.string ⟨f.toArray⟩])).run P w=.ok (decide (a=c∧b=f)) w:=by
 obtain ⟨f',g,ts,us,h1,h2,h3,h4,h5,h6,h7,h8,h9⟩:=hT.h
 haveI:UL P t (.struct #[f',g]):=⟨h1⟩
 haveI:UL P ts .string:=⟨h8⟩
 haveI:UL P us .string:=⟨h9⟩
 have h10:=hT.h2
 have p0:∀ (a b:List UInt8),(part ts #[.string ⟨a.toArray⟩,.string ⟨b.toArray⟩] 0).run P w=.ok (.string ⟨a.toArray⟩) w:=fun a b=>run_partS2 _ _ rfl
 have p1:∀ (a b:List UInt8),(part us #[.string ⟨a.toArray⟩,.string ⟨b.toArray⟩] 1).run P w=.ok (.string ⟨b.toArray⟩) w:=fun a b=>run_partS2 _ _ rfl
 unfold Op.equalIn
 simp only [Sem.run_bind,run_und,Result.andThen_ok]
 have hp:(program).run P w=.ok P w:=rfl
 simp only [hp,Result.andThen_ok,h10]
 by_cases e1:a=c<;>by_cases e2:b=f<;>simp [h2,h3,h4,h5,h6,h7,p0,p1,run_eqS2,e1,e2]
class Six (P:Program) (t:TypeId):Prop where
 h:∃ (el:TypeId) (f g:Field) (z:Value) (b:Nat),P.underlying t=some (.array 3 el)∧P.underlying el=some (.struct #[f,g])∧TwoS P el∧(P.info? el).map (fun i=>(i.zero,i.size,i.bytes))=some (some z,2,b)
 h1:P.eqGuardType P.depth t=false
theorem run_partF {el:TypeId} {f g:Field} {z:Value} {b:Nat} [UL P el (.struct #[f,g])] [TI P el z 2 b] (cs:Array Value) (i:Nat) {u v:Value} (h:cs.extract i (i+2)=#[u,v]):(part el cs i).run P w=.ok (.agg #[u,v]) w:=by
 have hs:(sizeOf el).run P w=.ok 2 w:=run_size
 simp [part,run_agg,aggB,hs,h]
theorem run_eqSix {t:TypeId} [hT:Six P t] (a b c d f g a' b' c' d' f' g':List UInt8) :
  (Op.equal t (.agg #[.string ⟨a.toArray⟩,.string ⟨b.toArray⟩,.string ⟨c.toArray⟩,.string ⟨d.toArray⟩,.string ⟨f.toArray⟩,.string ⟨g.toArray⟩]) (.agg #[.string ⟨a'.toArray⟩,.string ⟨b'.toArray⟩,.string ⟨c'.toArray⟩,.string ⟨d'.toArray⟩,.string ⟨f'.toArray⟩,.string ⟨g'.toArray⟩])).run P w =
   .ok (decide ((a=a'∧b=b')∧(c=c'∧d=d')∧(f=f'∧g=g'))) w:=by
 obtain ⟨el,fi,gi,z,bb,h1,h2,h3,h4⟩:=hT.h
 haveI:UL P t (.array 3 el):=⟨h1⟩
 haveI:UL P el (.struct #[fi,gi]):=⟨h2⟩
 haveI:TwoS P el:=h3
 haveI:TI P el z 2 bb:=⟨h4⟩
 have p0:∀ a b c d f g:List UInt8,(part el #[.string ⟨a.toArray⟩,.string ⟨b.toArray⟩,.string ⟨c.toArray⟩,.string ⟨d.toArray⟩,.string ⟨f.toArray⟩,.string ⟨g.toArray⟩] 0).run P w=.ok (.agg #[.string ⟨a.toArray⟩,.string ⟨b.toArray⟩]) w:=fun _ _ _ _ _ _=>run_partF _ 0 rfl
 have p1:∀ a b c d f g:List UInt8,(part el #[.string ⟨a.toArray⟩,.string ⟨b.toArray⟩,.string ⟨c.toArray⟩,.string ⟨d.toArray⟩,.string ⟨f.toArray⟩,.string ⟨g.toArray⟩] 2).run P w=.ok (.agg #[.string ⟨c.toArray⟩,.string ⟨d.toArray⟩]) w:=fun _ _ _ _ _ _=>run_partF _ 2 rfl
 have p2:∀ a b c d f g:List UInt8,(part el #[.string ⟨a.toArray⟩,.string ⟨b.toArray⟩,.string ⟨c.toArray⟩,.string ⟨d.toArray⟩,.string ⟨f.toArray⟩,.string ⟨g.toArray⟩] 4).run P w=.ok (.agg #[.string ⟨f.toArray⟩,.string ⟨g.toArray⟩]) w:=fun _ _ _ _ _ _=>run_partF _ 4 rfl
 unfold Op.equal Op.maxDepth
 show (Op.equalIn (9997+1+1+1) t _ _).run P w=_
 unfold Op.equalIn
 simp only [Sem.run_bind,run_und,Result.andThen_ok]
 simp only [run_size,Result.andThen_ok]
 simp only [Std.Legacy.Range.forIn_eq_forIn_range']
 simp [List.range'_succ,p0,p1,p2,run_eqFr']
 by_cases e0:a=a'<;>by_cases e1:b=b'<;>simp [e0,e1]
 by_cases e2:c=c'<;>by_cases e3:d=d'<;>simp [e2,e3]
 by_cases e4:f=f'<;>by_cases e5:g=g'<;>simp [e4,e5]
theorem run_guardSix {t:TypeId} [h:Six P t] (op:BinOp) (x y:Operand) (a b:Array Value):(eqGuard op t x y (.agg a) (.agg b)).run P w=.ok () w:=by
 unfold eqGuard
 cases op<;>simp [h.h1]
theorem ExF.eqlSix {t t':TypeId} [Six P t] {a b c d f g a' b' c' d' f' g':List UInt8} (hx:ev e x=some (.agg #[.string ⟨a.toArray⟩,.string ⟨b.toArray⟩,.string ⟨c.toArray⟩,.string ⟨d.toArray⟩,.string ⟨f.toArray⟩,.string ⟨g.toArray⟩])) (hy:ev e y=some (.agg #[.string ⟨a'.toArray⟩,.string ⟨b'.toArray⟩,.string ⟨c'.toArray⟩,.string ⟨d'.toArray⟩,.string ⟨f'.toArray⟩,.string ⟨g'.toArray⟩])) :
  ExF P N w0 (.binOp .eql t x y t') ty e As (.bool (decide ((a=a'∧b=b')∧(c=c'∧d=d')∧(f=f'∧g=g')))):=by
 unfold ExF
 intro ac w ha hs dd pos af g
 have h1:∀ u v:Array Value,binOp .eql t (.agg u) (.agg v)=(do pure (.bool (← Op.equal t (.agg u) (.agg v)))):=fun _ _=>rfl
 simp only [execOp,ha.eval hx,ha.eval hy,Sem.run_bind,run_guardSix,Result.andThen_ok,h1,run_eqSix]
 rfl
end
end Go.Sx
namespace Go.Proofs.YtkcnpgmgmgepoaaGreatDoor
open Go Go.Sx
variable {w0:World} {As:List Ent} {pv fv:Value} {pts fcs:List V3}
instance:Six Tryz.prog 69:=⟨⟨67,_,_,_,_,(inferInstance:UL Tryz.prog 69 _).h,(inferInstance:UL Tryz.prog 67 _).h,inferInstance,(inferInstance:TI Tryz.prog 67 _ 2 _).h⟩,by kernel_rfl⟩
theorem oct_ok:CallsS Tryz.prog w0 42 [] As fun v Bs=>∃ b1 b2,v=.agg #[.slice (some ⟨b1,0,none⟩) 6 6,.slice (some ⟨b2,0,none⟩) 8 8] ∧
  Bs=.ow cV3 32 (.slice (some ⟨b1,0,none⟩) 6 6) octP::.ow cV3 32 (.slice (some ⟨b2,0,none⟩) 8 8) octF::As:=by
 refine CallsS.of_tri Tryz.func42 rfl Tryz.ntmps42 rfl ?_
 (repeat' first|(refine Ka ?_;first|refine Kb ?_|(refine Kc ?_;intro _))|refine Kd ?_|refine Kh ?_)
 rename_i b0 b1 b2
 (refine Post.ra ?_)
 refine ⟨_,⟨b1,b2,rfl,rfl⟩,?_⟩
 refine Ents.trans Ents.drop1 ?_
 refine Ents.trans (Ents.clW (n:=8) (cap:=8) cV3 octF rfl rfl rfl) ?_
 refine Ents.trans (Ents.perm (List.Perm.swap _ _ _)) ?_
 refine Ents.trans (Ents.clW (n:=6) (cap:=6) cV3 octP rfl rfl rfl) ?_
 (exact Ents.au)
theorem whole38_ok {x y z:Int} (hx:-400000≤x∧x≤400000) (hy:-400000≤y∧y≤400000) (hz:-400000≤z∧z≤400000) :
  CallsS Tryz.prog w0 35 [.int .i64 x,.int .i64 y,.int .i64 z] As fun r Bs=>r=frtV (x:Rat) (y:Rat) (z:Rat)∧Bs=As:=by
 rw [← qI_one x,← qI_one y,← qI_one z]
 refine CallsS.of_tri Tryz.func35 rfl Tryz.ntmps35 rfl ?_
 (repeat' first|(refine Ka ?_;first|refine Kb ?_|(refine Kc ?_;intro _))|refine Kd ?_|refine Kh ?_)
 refine Tri.unroll 4 ?_
 (repeat' first|(refine Ka ?_;first|refine Kb ?_|(refine Kc ?_;intro _))|refine Kd ?_|refine Kh ?_)
 refine Ks rfl rfl rfl rfl (ofRef_ok (n:=x) (d:=1) (by omega) (by decide) (by decide)) ?_
 (repeat' first|(refine Ka ?_;first|refine Kb ?_|(refine Kc ?_;intro _))|refine Kd ?_|refine Kh ?_)
 refine Ks rfl rfl rfl rfl (ofRef_ok (n:=y) (d:=1) (by omega) (by decide) (by decide)) ?_
 (repeat' first|(refine Ka ?_;first|refine Kb ?_|(refine Kc ?_;intro _))|refine Kd ?_|refine Kh ?_)
 refine Ks rfl rfl rfl rfl (ofRef_ok (n:=z) (d:=1) (by omega) (by decide) (by decide)) ?_
 (repeat' first|(refine Ka ?_;first|refine Kb ?_|(refine Kc ?_;intro _))|refine Kd ?_|refine Kh ?_)
 (refine Post.ra ?_)
 exact ⟨_,⟨rfl,rfl⟩,by (exact Ents.au)⟩
theorem clips_ok (ht:Tab w0) (he:ErrR w0) {p:V3} {x y z:Rat} (h:clipW octP octF p=.inr [x,y,z]) :
  CallsS Tryz.prog w0 82 [p.val,frtV x y z] As fun r Bs=>r=.bool true∧Bs=As:=by
 refine CallsS.of_tri Tryz.func82 rfl Tryz.ntmps82 rfl ?_
 show Tri _ _ _ _ (env0 0 [.agg #[.int .i64 p.x,.int .i64 p.y,.int .i64 p.z],.agg #[.string ⟨(tN x).toArray⟩,.string ⟨(tD x).toArray⟩,.string ⟨(tN y).toArray⟩,.string ⟨(tD y).toArray⟩,.string ⟨(tN z).toArray⟩,.string ⟨(tD z).toArray⟩]]) _ _
 (repeat' first|(refine Ka ?_;first|refine Kb ?_|(refine Kc ?_;intro _))|refine Kd ?_|refine Kh ?_)
 rename_i b2 b3
 refine Tri.mid (fun e' As'=>∃ b5,e'=[(3,.pointer (some ⟨b3,0,none⟩)),(5,.pointer (some ⟨b5,0,none⟩)),(6,.int .i64 0)]∧As'=.cl b5 [.string ⟨(tN x).toArray⟩,.string ⟨(tD x).toArray⟩,.string ⟨(tN y).toArray⟩,.string ⟨(tD y).toArray⟩,.string ⟨(tN z).toArray⟩,.string ⟨(tD z).toArray⟩] 69::.cl b3 [.string ⟨(tN x).toArray⟩,.string ⟨(tD x).toArray⟩,.string ⟨(tN y).toArray⟩,.string ⟨(tD y).toArray⟩,.string ⟨(tN z).toArray⟩,.string ⟨(tD z).toArray⟩] 69::As) ?_ ?_
 ·refine Tri.dw [.cl b2 [.int .i64 p.x,.int .i64 p.y,.int .i64 p.z] 32] [] (.take 1 (.all [(0,.all [(2,.take 3 (.take 4 (.take 5 (.all [(6,.all [(7,.take 8 (.done))])])))),(6,.all [(2,.take 3 (.take 4 (.take 5 (.all [(7,.take 8 (.done))]))))])]),(6,.all [(0,.all [(2,.take 3 (.take 4 (.take 5 (.all [(7,.take 8 (.done))]))))])])])) ?_
  (repeat' first|(refine Ka ?_;first|refine Kb ?_|(refine Kc ?_;intro _))|refine Kd ?_|(refine Ki ?_;refine Kj ?_)|exact Kk|refine Kl ?_ ?_|(refine Km ?_;first|refine Kn ?_|(refine Ko ?_;intro _))|(refine Kp ?_;first|refine Kq ?_|refine Kr ?_)|refine Kh ?_)
  repeat' (first|(refine T1.call rfl rfl rfl rfl oct_ok ?_;rintro _ _ ⟨k1,k2,rfl,rfl⟩;(repeat' first|(refine Ka ?_;first|refine Kb ?_|(refine Kc ?_;intro _))|refine Kd ?_|(refine Ki ?_;refine Kj ?_)|exact Kk|refine Kl ?_ ?_|(refine Km ?_;first|refine Kn ?_|(refine Ko ?_;intro _))|(refine Kp ?_;first|refine Kq ?_|refine Kr ?_)|refine Kh ?_))|(refine T1.callv rfl rfl rfl rfl rfl (clip_ok ht he (pv:=.slice (some ⟨k1,0,none⟩) 6 6) (fv:=.slice (some ⟨k2,0,none⟩) 8 8) (pts:=octP) (fcs:=octF) (p:=p)) ?_;rw [h];rintro _ _ ⟨rfl,rfl⟩;show TC _ _ _ _ _ _ _ ((_,.tuple #[.agg #[.string ⟨(tN x).toArray⟩,.string ⟨(tD x).toArray⟩,.string ⟨(tN y).toArray⟩,.string ⟨(tD y).toArray⟩,.string ⟨(tN z).toArray⟩,.string ⟨(tD z).toArray⟩],.int .i64 0])::_) _ _;(repeat' first|(refine Ka ?_;first|refine Kb ?_|(refine Kc ?_;intro _))|refine Kd ?_|(refine Ki ?_;refine Kj ?_)|exact Kk|refine Kl ?_ ?_|(refine Km ?_;first|refine Kn ?_|(refine Ko ?_;intro _))|(refine Kp ?_;first|refine Kq ?_|refine Kr ?_)|refine Kh ?_)))
  all_goals exact Post.cut _ _ ⟨_,rfl,rfl⟩ (by (exact Sub.au)) (by (exact Ents.au))
 rintro _ _ ⟨b5,rfl,rfl⟩
 (repeat' first|(refine Ka ?_;first|refine Kb ?_|(refine Kc ?_;intro _))|refine Kd ?_|refine Kh ?_)
 refine TL.f rfl rfl (ExF.eqlSix rfl rfl) ?_
 (repeat' first|(refine Ka ?_;first|refine Kb ?_|(refine Kc ?_;intro _))|refine Kd ?_|refine Kh ?_)
 (refine Post.ra ?_)
 exact ⟨_,⟨by simp,rfl⟩,by (exact Ents.au)⟩
theorem presses_ok (ht:Tab w0) (he:ErrR w0) {p:V3} {x y z:Rat} (h:compressW octP octF p 500 2000=.inr [x,y,z]) :
  CallsS Tryz.prog w0 83 [p.val,frtV x y z] As fun r Bs=>r=.bool true∧Bs=As:=by
 refine CallsS.of_tri Tryz.func83 rfl Tryz.ntmps83 rfl ?_
 show Tri _ _ _ _ (env0 0 [.agg #[.int .i64 p.x,.int .i64 p.y,.int .i64 p.z],.agg #[.string ⟨(tN x).toArray⟩,.string ⟨(tD x).toArray⟩,.string ⟨(tN y).toArray⟩,.string ⟨(tD y).toArray⟩,.string ⟨(tN z).toArray⟩,.string ⟨(tD z).toArray⟩]]) _ _
 (repeat' first|(refine Ka ?_;first|refine Kb ?_|(refine Kc ?_;intro _))|refine Kd ?_|refine Kh ?_)
 rename_i b2 b3
 refine Tri.mid (fun e' As'=>∃ b5,e'=[(3,.pointer (some ⟨b3,0,none⟩)),(5,.pointer (some ⟨b5,0,none⟩)),(6,.int .i64 0)]∧As'=.cl b5 [.string ⟨(tN x).toArray⟩,.string ⟨(tD x).toArray⟩,.string ⟨(tN y).toArray⟩,.string ⟨(tD y).toArray⟩,.string ⟨(tN z).toArray⟩,.string ⟨(tD z).toArray⟩] 69::.cl b3 [.string ⟨(tN x).toArray⟩,.string ⟨(tD x).toArray⟩,.string ⟨(tN y).toArray⟩,.string ⟨(tD y).toArray⟩,.string ⟨(tN z).toArray⟩,.string ⟨(tD z).toArray⟩] 69::As) ?_ ?_
 ·refine Tri.dw [.cl b2 [.int .i64 p.x,.int .i64 p.y,.int .i64 p.z] 32] [] (.take 1 (.all [(0,.all [(2,.take 3 (.take 4 (.take 5 (.all [(6,.all [(7,.take 8 (.done))])])))),(6,.all [(2,.take 3 (.take 4 (.take 5 (.all [(7,.take 8 (.done))]))))])]),(6,.all [(0,.all [(2,.take 3 (.take 4 (.take 5 (.all [(7,.take 8 (.done))]))))])])])) ?_
  (repeat' first|(refine Ka ?_;first|refine Kb ?_|(refine Kc ?_;intro _))|refine Kd ?_|(refine Ki ?_;refine Kj ?_)|exact Kk|refine Kl ?_ ?_|(refine Km ?_;first|refine Kn ?_|(refine Ko ?_;intro _))|(refine Kp ?_;first|refine Kq ?_|refine Kr ?_)|refine Kh ?_)
  repeat' (first|(refine T1.call rfl rfl rfl rfl oct_ok ?_;rintro _ _ ⟨k1,k2,rfl,rfl⟩;(repeat' first|(refine Ka ?_;first|refine Kb ?_|(refine Kc ?_;intro _))|refine Kd ?_|(refine Ki ?_;refine Kj ?_)|exact Kk|refine Kl ?_ ?_|(refine Km ?_;first|refine Kn ?_|(refine Ko ?_;intro _))|(refine Kp ?_;first|refine Kq ?_|refine Kr ?_)|refine Kh ?_))|(refine T1.callv rfl rfl rfl rfl rfl (compress_ok ht he (pv:=.slice (some ⟨k1,0,none⟩) 6 6) (fv:=.slice (some ⟨k2,0,none⟩) 8 8) (pts:=octP) (fcs:=octF) (p:=p) (k:=500) (m:=2000)) ?_;rw [h];rintro _ _ ⟨rfl,rfl⟩;show TC _ _ _ _ _ _ _ ((_,.tuple #[.agg #[.string ⟨(tN x).toArray⟩,.string ⟨(tD x).toArray⟩,.string ⟨(tN y).toArray⟩,.string ⟨(tD y).toArray⟩,.string ⟨(tN z).toArray⟩,.string ⟨(tD z).toArray⟩],.int .i64 0])::_) _ _;(repeat' first|(refine Ka ?_;first|refine Kb ?_|(refine Kc ?_;intro _))|refine Kd ?_|(refine Ki ?_;refine Kj ?_)|exact Kk|refine Kl ?_ ?_|(refine Km ?_;first|refine Kn ?_|(refine Ko ?_;intro _))|(refine Kp ?_;first|refine Kq ?_|refine Kr ?_)|refine Kh ?_)))
  all_goals exact Post.cut _ _ ⟨_,rfl,rfl⟩ (by (exact Sub.au)) (by (exact Ents.au))
 rintro _ _ ⟨b5,rfl,rfl⟩
 (repeat' first|(refine Ka ?_;first|refine Kb ?_|(refine Kc ?_;intro _))|refine Kd ?_|refine Kh ?_)
 refine TL.f rfl rfl (ExF.eqlSix rfl rfl) ?_
 (repeat' first|(refine Ka ?_;first|refine Kb ?_|(refine Kc ?_;intro _))|refine Kd ?_|refine Kh ?_)
 (refine Post.ra ?_)
 exact ⟨_,⟨by simp,rfl⟩,by (exact Ents.au)⟩
theorem anchored_ok (ht:Tab w0) (he:ErrR w0) {p:V3} {l:Int} (h:anchorW octP octF p=(⟨l,0,0⟩,0)) :
  CallsS Tryz.prog w0 81 [p.val,.int .i64 l] As fun r Bs=>r=.bool true∧Bs=As:=by
 refine CallsS.of_tri Tryz.func81 rfl Tryz.ntmps81 rfl ?_
 show Tri _ _ _ _ (env0 0 [.agg #[.int .i64 p.x,.int .i64 p.y,.int .i64 p.z],.int .i64 l]) _ _
 (repeat' first|(refine Ka ?_;first|refine Kb ?_|(refine Kc ?_;intro _))|refine Kd ?_|refine Kh ?_)
 rename_i b2
 refine Tri.mid (fun e' As'=>∃ b5,e'=[(1,.int .i64 l),(5,.pointer (some ⟨b5,0,none⟩)),(6,.int .i64 0)]∧As'=.cl b5 [.int .i64 l,.int .i64 0,.int .i64 0] 32::As) ?_ ?_
 ·refine Tri.dw [.cl b2 [.int .i64 p.x,.int .i64 p.y,.int .i64 p.z] 32] [] (.take 1 (.all [(0,.all [(2,.take 3 (.take 4 (.take 5 (.all [(6,.all [(7,.take 8 (.done))])])))),(6,.all [(2,.take 3 (.take 4 (.take 5 (.all [(7,.take 8 (.done))]))))])]),(6,.all [(0,.all [(2,.take 3 (.take 4 (.take 5 (.all [(7,.take 8 (.done))]))))])])])) ?_
  (repeat' first|(refine Ka ?_;first|refine Kb ?_|(refine Kc ?_;intro _))|refine Kd ?_|(refine Ki ?_;refine Kj ?_)|exact Kk|refine Kl ?_ ?_|(refine Km ?_;first|refine Kn ?_|(refine Ko ?_;intro _))|(refine Kp ?_;first|refine Kq ?_|refine Kr ?_)|refine Kh ?_)
  repeat' (first|(refine T1.call rfl rfl rfl rfl oct_ok ?_;rintro _ _ ⟨k1,k2,rfl,rfl⟩;(repeat' first|(refine Ka ?_;first|refine Kb ?_|(refine Kc ?_;intro _))|refine Kd ?_|(refine Ki ?_;refine Kj ?_)|exact Kk|refine Kl ?_ ?_|(refine Km ?_;first|refine Kn ?_|(refine Ko ?_;intro _))|(refine Kp ?_;first|refine Kq ?_|refine Kr ?_)|refine Kh ?_))|(refine T1.callv rfl rfl rfl rfl rfl (anchor38_ok ht he (pv:=.slice (some ⟨k1,0,none⟩) 6 6) (fv:=.slice (some ⟨k2,0,none⟩) 8 8) (pts:=octP) (fcs:=octF) (p:=p)) ?_;rw [h];rintro _ _ ⟨rfl,rfl⟩;show TC _ _ _ _ _ _ _ ((_,.tuple #[.agg #[.int .i64 l,.int .i64 0,.int .i64 0],.int .i64 0])::_) _ _;(repeat' first|(refine Ka ?_;first|refine Kb ?_|(refine Kc ?_;intro _))|refine Kd ?_|(refine Ki ?_;refine Kj ?_)|exact Kk|refine Kl ?_ ?_|(refine Km ?_;first|refine Kn ?_|(refine Ko ?_;intro _))|(refine Kp ?_;first|refine Kq ?_|refine Kr ?_)|refine Kh ?_)))
  all_goals exact Post.cut _ _ ⟨_,rfl,rfl⟩ (by (exact Sub.au)) (by (exact Ents.au))
 rintro _ _ ⟨b5,rfl,rfl⟩
 (repeat' first|(refine Ka ?_;first|refine Kb ?_|(refine Kc ?_;intro _))|refine Kd ?_|refine Kh ?_)
 (refine Post.ra ?_)
 exact ⟨_,⟨by simp,rfl⟩,by (exact Ents.au)⟩
end Go.Proofs.YtkcnpgmgmgepoaaGreatDoor
namespace Go.Proofs.YtkcnpgmgmgepoaaGreatDoor
open Go Go.Sx
variable {w0:World} {As:List Ent}
def asdP (k:Nat):List V3:=(octP.take k).map (fun p=>⟨p.x,p.y+40000,p.z⟩)++octP.drop k
set_option maxRecDepth 100000 in
set_option maxHeartbeats 2000000 in
theorem works38_ok (ht:Tab w0) (he:ErrR w0):CallsS Tryz.prog w0 28 [] As fun u Bs=>u=.bool true∧Bs=As:=by
 refine CallsS.of_tri Tryz.func28 rfl Tryz.ntmps28 rfl ?_
 (repeat' first|(refine Ka ?_;first|refine Kb ?_|(refine Kc ?_;intro _))|refine Kd ?_|refine Kh ?_)
 refine TL.call rfl rfl rfl oct_ok ?_
 rintro _ _ ⟨b1,b2,rfl,rfl⟩
 (repeat' first|(refine Ka ?_;first|refine Kb ?_|(refine Kc ?_;intro _))|refine Kd ?_|refine Kh ?_)
 refine TL.callv rfl rfl rfl rfl (axis_ok ht he (pv:=.slice (some ⟨b1,0,none⟩) 6 6) (fv:=.slice (some ⟨b2,0,none⟩) 8 8) (pts:=octP) (fcs:=octF)) ?_
 rw [oct_axis]
 rintro _ _ ⟨rfl,rfl⟩
 (repeat' first|(refine Ka ?_;first|refine Kb ?_|(refine Kc ?_;intro _))|refine Kd ?_|refine Kh ?_)
 refine TL.call rfl rfl rfl oct_ok ?_
 rintro _ _ ⟨b3,b4,rfl,rfl⟩
 (repeat' first|(refine Ka ?_;first|refine Kb ?_|(refine Kc ?_;intro _))|refine Kd ?_|refine Kh ?_)
 refine TL.callv rfl rfl rfl rfl (compress_ok ht he (pv:=.slice (some ⟨b3,0,none⟩) 6 6) (fv:=.slice (some ⟨b4,0,none⟩) 8 8) (pts:=octP) (fcs:=octF) (p:=⟨50000,0,0⟩) (k:=1000) (m:=2000)) ?_
 rw [oct_range]
 rintro _ _ ⟨rfl,rfl⟩
 show TL _ _ _ _ _ ((_,.tuple #[.agg #[.string ⟨#[]⟩,.string ⟨#[]⟩,.string ⟨#[]⟩,.string ⟨#[]⟩,.string ⟨#[]⟩,.string ⟨#[]⟩],.int .i64 380])::_) _ _
 (repeat' first|(refine Ka ?_;first|refine Kb ?_|(refine Kc ?_;intro _))|refine Kd ?_|refine Kh ?_)
 rename_i c4
 refine TL.call rfl rfl rfl oct_ok ?_
 rintro _ _ ⟨b5,b6,rfl,rfl⟩
 (repeat' first|(refine Ka ?_;first|refine Kb ?_|(refine Kc ?_;intro _))|refine Kd ?_|refine Kh ?_)
 rename_i c6
 refine Tri.unroll 7 ?_
 have q0:octP[0]?=some ⟨80000,0,0⟩:=rfl
 have q1:(asdP 1)[1]?=some ⟨20000,0,0⟩:=rfl
 have q2:(asdP 2)[2]?=some ⟨50000,30000,0⟩:=rfl
 have q3:(asdP 3)[3]?=some ⟨50000,-30000,0⟩:=rfl
 have q4:(asdP 4)[4]?=some ⟨50000,0,30000⟩:=rfl
 have q5:(asdP 5)[5]?=some ⟨50000,0,-30000⟩:=rfl
 (repeat' first|(refine Ka ?_;first|refine Kb ?_|(refine Kc ?_;intro _))|refine Kd ?_|refine Kh ?_)
 refine Tri.dw [.cl c6 [.slice (some ⟨b5,0,none⟩) 6 6,.slice (some ⟨b6,0,none⟩) 8 8] 30] [(5,.w (.slice (some ⟨b5,0,none⟩) 6 6))] (.take 0 (.take 1 (.take 2 (.take 3 (.take 4 (.take 5 (.take 6 (.take 7 (.take 8 (.all [(9,.done)])))))))))) ?_
 (repeat' first|(refine Ka ?_;first|refine Kb ?_|(refine Kc ?_;intro _))|refine Kd ?_|(refine Ki ?_;refine Kj ?_)|exact Kk|refine Kl ?_ ?_|(refine Km ?_;first|refine Kn ?_|(refine Ko ?_;intro _))|(refine Kp ?_;first|refine Kq ?_|refine Kr ?_)|refine Kh ?_)
 refine TT.take rfl rfl rfl (ExF.idxSl (i:=0) rfl rfl (by decide)) ?_
 (repeat' first|(refine Ka ?_;first|refine Kb ?_|(refine Kc ?_;intro _))|refine Kd ?_|(refine Ki ?_;refine Kj ?_)|exact Kk|refine Kl ?_ ?_|(refine Km ?_;first|refine Kn ?_|(refine Ko ?_;intro _))|(refine Kp ?_;first|refine Kq ?_|refine Kr ?_)|refine Kh ?_)
 refine TT.take rfl rfl rfl (ExF.idxSl (i:=0) rfl rfl (by decide)) ?_
 (repeat' first|(refine Ka ?_;first|refine Kb ?_|(refine Kc ?_;intro _))|refine Kd ?_|(refine Ki ?_;refine Kj ?_)|exact Kk|refine Kl ?_ ?_|(refine Km ?_;first|refine Kn ?_|(refine Ko ?_;intro _))|(refine Kp ?_;first|refine Kq ?_|refine Kr ?_)|refine Kh ?_)
 show Tri _ _ _ _ _ (.ow cV3 _ _ (asdP 1)::_) _
 (repeat' first|(refine Ka ?_;first|refine Kb ?_|(refine Kc ?_;intro _))|refine Kd ?_|refine Kh ?_)
 refine Tri.dw [.cl c6 [.slice (some ⟨b5,0,none⟩) 6 6,.slice (some ⟨b6,0,none⟩) 8 8] 30] [(5,.w (.slice (some ⟨b5,0,none⟩) 6 6))] (.take 0 (.take 1 (.take 2 (.take 3 (.take 4 (.take 5 (.take 6 (.take 7 (.take 8 (.all [(9,.done)])))))))))) ?_
 (repeat' first|(refine Ka ?_;first|refine Kb ?_|(refine Kc ?_;intro _))|refine Kd ?_|(refine Ki ?_;refine Kj ?_)|exact Kk|refine Kl ?_ ?_|(refine Km ?_;first|refine Kn ?_|(refine Ko ?_;intro _))|(refine Kp ?_;first|refine Kq ?_|refine Kr ?_)|refine Kh ?_)
 refine TT.take rfl rfl rfl (ExF.idxSl (i:=1) rfl rfl (by decide)) ?_
 (repeat' first|(refine Ka ?_;first|refine Kb ?_|(refine Kc ?_;intro _))|refine Kd ?_|(refine Ki ?_;refine Kj ?_)|exact Kk|refine Kl ?_ ?_|(refine Km ?_;first|refine Kn ?_|(refine Ko ?_;intro _))|(refine Kp ?_;first|refine Kq ?_|refine Kr ?_)|refine Kh ?_)
 refine TT.take rfl rfl rfl (ExF.idxSl (i:=1) rfl rfl (by decide)) ?_
 (repeat' first|(refine Ka ?_;first|refine Kb ?_|(refine Kc ?_;intro _))|refine Kd ?_|(refine Ki ?_;refine Kj ?_)|exact Kk|refine Kl ?_ ?_|(refine Km ?_;first|refine Kn ?_|(refine Ko ?_;intro _))|(refine Kp ?_;first|refine Kq ?_|refine Kr ?_)|refine Kh ?_)
 show Tri _ _ _ _ _ (.ow cV3 _ _ (asdP 2)::_) _
 (repeat' first|(refine Ka ?_;first|refine Kb ?_|(refine Kc ?_;intro _))|refine Kd ?_|refine Kh ?_)
 refine Tri.dw [.cl c6 [.slice (some ⟨b5,0,none⟩) 6 6,.slice (some ⟨b6,0,none⟩) 8 8] 30] [(5,.w (.slice (some ⟨b5,0,none⟩) 6 6))] (.take 0 (.take 1 (.take 2 (.take 3 (.take 4 (.take 5 (.take 6 (.take 7 (.take 8 (.all [(9,.done)])))))))))) ?_
 (repeat' first|(refine Ka ?_;first|refine Kb ?_|(refine Kc ?_;intro _))|refine Kd ?_|(refine Ki ?_;refine Kj ?_)|exact Kk|refine Kl ?_ ?_|(refine Km ?_;first|refine Kn ?_|(refine Ko ?_;intro _))|(refine Kp ?_;first|refine Kq ?_|refine Kr ?_)|refine Kh ?_)
 refine TT.take rfl rfl rfl (ExF.idxSl (i:=2) rfl rfl (by decide)) ?_
 (repeat' first|(refine Ka ?_;first|refine Kb ?_|(refine Kc ?_;intro _))|refine Kd ?_|(refine Ki ?_;refine Kj ?_)|exact Kk|refine Kl ?_ ?_|(refine Km ?_;first|refine Kn ?_|(refine Ko ?_;intro _))|(refine Kp ?_;first|refine Kq ?_|refine Kr ?_)|refine Kh ?_)
 refine TT.take rfl rfl rfl (ExF.idxSl (i:=2) rfl rfl (by decide)) ?_
 (repeat' first|(refine Ka ?_;first|refine Kb ?_|(refine Kc ?_;intro _))|refine Kd ?_|(refine Ki ?_;refine Kj ?_)|exact Kk|refine Kl ?_ ?_|(refine Km ?_;first|refine Kn ?_|(refine Ko ?_;intro _))|(refine Kp ?_;first|refine Kq ?_|refine Kr ?_)|refine Kh ?_)
 show Tri _ _ _ _ _ (.ow cV3 _ _ (asdP 3)::_) _
 (repeat' first|(refine Ka ?_;first|refine Kb ?_|(refine Kc ?_;intro _))|refine Kd ?_|refine Kh ?_)
 refine Tri.dw [.cl c6 [.slice (some ⟨b5,0,none⟩) 6 6,.slice (some ⟨b6,0,none⟩) 8 8] 30] [(5,.w (.slice (some ⟨b5,0,none⟩) 6 6))] (.take 0 (.take 1 (.take 2 (.take 3 (.take 4 (.take 5 (.take 6 (.take 7 (.take 8 (.all [(9,.done)])))))))))) ?_
 (repeat' first|(refine Ka ?_;first|refine Kb ?_|(refine Kc ?_;intro _))|refine Kd ?_|(refine Ki ?_;refine Kj ?_)|exact Kk|refine Kl ?_ ?_|(refine Km ?_;first|refine Kn ?_|(refine Ko ?_;intro _))|(refine Kp ?_;first|refine Kq ?_|refine Kr ?_)|refine Kh ?_)
 refine TT.take rfl rfl rfl (ExF.idxSl (i:=3) rfl rfl (by decide)) ?_
 (repeat' first|(refine Ka ?_;first|refine Kb ?_|(refine Kc ?_;intro _))|refine Kd ?_|(refine Ki ?_;refine Kj ?_)|exact Kk|refine Kl ?_ ?_|(refine Km ?_;first|refine Kn ?_|(refine Ko ?_;intro _))|(refine Kp ?_;first|refine Kq ?_|refine Kr ?_)|refine Kh ?_)
 refine TT.take rfl rfl rfl (ExF.idxSl (i:=3) rfl rfl (by decide)) ?_
 (repeat' first|(refine Ka ?_;first|refine Kb ?_|(refine Kc ?_;intro _))|refine Kd ?_|(refine Ki ?_;refine Kj ?_)|exact Kk|refine Kl ?_ ?_|(refine Km ?_;first|refine Kn ?_|(refine Ko ?_;intro _))|(refine Kp ?_;first|refine Kq ?_|refine Kr ?_)|refine Kh ?_)
 show Tri _ _ _ _ _ (.ow cV3 _ _ (asdP 4)::_) _
 (repeat' first|(refine Ka ?_;first|refine Kb ?_|(refine Kc ?_;intro _))|refine Kd ?_|refine Kh ?_)
 refine Tri.dw [.cl c6 [.slice (some ⟨b5,0,none⟩) 6 6,.slice (some ⟨b6,0,none⟩) 8 8] 30] [(5,.w (.slice (some ⟨b5,0,none⟩) 6 6))] (.take 0 (.take 1 (.take 2 (.take 3 (.take 4 (.take 5 (.take 6 (.take 7 (.take 8 (.all [(9,.done)])))))))))) ?_
 (repeat' first|(refine Ka ?_;first|refine Kb ?_|(refine Kc ?_;intro _))|refine Kd ?_|(refine Ki ?_;refine Kj ?_)|exact Kk|refine Kl ?_ ?_|(refine Km ?_;first|refine Kn ?_|(refine Ko ?_;intro _))|(refine Kp ?_;first|refine Kq ?_|refine Kr ?_)|refine Kh ?_)
 refine TT.take rfl rfl rfl (ExF.idxSl (i:=4) rfl rfl (by decide)) ?_
 (repeat' first|(refine Ka ?_;first|refine Kb ?_|(refine Kc ?_;intro _))|refine Kd ?_|(refine Ki ?_;refine Kj ?_)|exact Kk|refine Kl ?_ ?_|(refine Km ?_;first|refine Kn ?_|(refine Ko ?_;intro _))|(refine Kp ?_;first|refine Kq ?_|refine Kr ?_)|refine Kh ?_)
 refine TT.take rfl rfl rfl (ExF.idxSl (i:=4) rfl rfl (by decide)) ?_
 (repeat' first|(refine Ka ?_;first|refine Kb ?_|(refine Kc ?_;intro _))|refine Kd ?_|(refine Ki ?_;refine Kj ?_)|exact Kk|refine Kl ?_ ?_|(refine Km ?_;first|refine Kn ?_|(refine Ko ?_;intro _))|(refine Kp ?_;first|refine Kq ?_|refine Kr ?_)|refine Kh ?_)
 show Tri _ _ _ _ _ (.ow cV3 _ _ (asdP 5)::_) _
 (repeat' first|(refine Ka ?_;first|refine Kb ?_|(refine Kc ?_;intro _))|refine Kd ?_|refine Kh ?_)
 refine Tri.dw [.cl c6 [.slice (some ⟨b5,0,none⟩) 6 6,.slice (some ⟨b6,0,none⟩) 8 8] 30] [(5,.w (.slice (some ⟨b5,0,none⟩) 6 6))] (.take 0 (.take 1 (.take 2 (.take 3 (.take 4 (.take 5 (.take 6 (.take 7 (.take 8 (.all [(9,.done)])))))))))) ?_
 (repeat' first|(refine Ka ?_;first|refine Kb ?_|(refine Kc ?_;intro _))|refine Kd ?_|(refine Ki ?_;refine Kj ?_)|exact Kk|refine Kl ?_ ?_|(refine Km ?_;first|refine Kn ?_|(refine Ko ?_;intro _))|(refine Kp ?_;first|refine Kq ?_|refine Kr ?_)|refine Kh ?_)
 refine TT.take rfl rfl rfl (ExF.idxSl (i:=5) rfl rfl (by decide)) ?_
 (repeat' first|(refine Ka ?_;first|refine Kb ?_|(refine Kc ?_;intro _))|refine Kd ?_|(refine Ki ?_;refine Kj ?_)|exact Kk|refine Kl ?_ ?_|(refine Km ?_;first|refine Kn ?_|(refine Ko ?_;intro _))|(refine Kp ?_;first|refine Kq ?_|refine Kr ?_)|refine Kh ?_)
 refine TT.take rfl rfl rfl (ExF.idxSl (i:=5) rfl rfl (by decide)) ?_
 (repeat' first|(refine Ka ?_;first|refine Kb ?_|(refine Kc ?_;intro _))|refine Kd ?_|(refine Ki ?_;refine Kj ?_)|exact Kk|refine Kl ?_ ?_|(refine Km ?_;first|refine Kn ?_|(refine Ko ?_;intro _))|(refine Kp ?_;first|refine Kq ?_|refine Kr ?_)|refine Kh ?_)
 show TL _ _ _ _ _ _ (.ow cV3 _ _ asideP::_) _
 clear q0 q1 q2 q3 q4 q5
 refine TL.callv rfl rfl rfl rfl (clip_ok ht he (pv:=.slice (some ⟨b5,0,none⟩) 6 6) (fv:=.slice (some ⟨b6,0,none⟩) 8 8) (pts:=asideP) (fcs:=octF) (p:=⟨50000,40000,0⟩)) ?_
 rw [aside_clip]
 rintro _ _ ⟨rfl,rfl⟩
 show TL _ _ _ _ _ ((_,.tuple #[.agg #[.string ⟨#[]⟩,.string ⟨#[]⟩,.string ⟨#[]⟩,.string ⟨#[]⟩,.string ⟨#[]⟩,.string ⟨#[]⟩],.int .i64 4])::_) _ _
 (repeat' first|(refine Ka ?_;first|refine Kb ?_|(refine Kc ?_;intro _))|refine Kd ?_|refine Kh ?_)
 refine Ks rfl rfl rfl rfl (anchored_ok ht he (p:=⟨90000,5,5⟩) (l:=65000) oct_anchor1) ?_
 (repeat' first|(refine Ka ?_;first|refine Kb ?_|(refine Kc ?_;intro _))|refine Kd ?_|refine Kh ?_)
 refine Ks rfl rfl rfl rfl (anchored_ok ht he (p:=⟨51000,0,0⟩) (l:=51000) oct_anchor2) ?_
 (repeat' first|(refine Ka ?_;first|refine Kb ?_|(refine Kc ?_;intro _))|refine Kd ?_|refine Kh ?_)
 refine Ks rfl rfl rfl rfl (whole38_ok (x:=50000) (y:=30000) (z:=0) (by decide) (by decide) (by decide)) ?_
 (repeat' first|(refine Ka ?_;first|refine Kb ?_|(refine Kc ?_;intro _))|refine Kd ?_|refine Kh ?_)
 refine Ks rfl rfl rfl rfl (clips_ok ht he (p:=⟨50000,40000,0⟩) (x:=((50000:Int):Rat)) (y:=((30000:Int):Rat)) (z:=((0:Int):Rat)) (show clipW octP octF ⟨50000,40000,0⟩=.inr [((50000:Int):Rat),((30000:Int):Rat),((0:Int):Rat)] from oct_clip1)) ?_
 (repeat' first|(refine Ka ?_;first|refine Kb ?_|(refine Kc ?_;intro _))|refine Kd ?_|refine Kh ?_)
 refine Ks rfl rfl rfl rfl (whole38_ok (x:=50000) (y:=15000) (z:=15000) (by decide) (by decide) (by decide)) ?_
 (repeat' first|(refine Ka ?_;first|refine Kb ?_|(refine Kc ?_;intro _))|refine Kd ?_|refine Kh ?_)
 refine Ks rfl rfl rfl rfl (clips_ok ht he (p:=⟨50000,40000,40000⟩) (x:=((50000:Int):Rat)) (y:=((15000:Int):Rat)) (z:=((15000:Int):Rat)) (show clipW octP octF ⟨50000,40000,40000⟩=.inr [((50000:Int):Rat),((15000:Int):Rat),((15000:Int):Rat)] from oct_clip2)) ?_
 (repeat' first|(refine Ka ?_;first|refine Kb ?_|(refine Kc ?_;intro _))|refine Kd ?_|refine Kh ?_)
 refine Ks rfl rfl rfl rfl (whole38_ok (x:=50000) (y:=7) (z:=7) (by decide) (by decide) (by decide)) ?_
 (repeat' first|(refine Ka ?_;first|refine Kb ?_|(refine Kc ?_;intro _))|refine Kd ?_|refine Kh ?_)
 refine Ks rfl rfl rfl rfl (clips_ok ht he (p:=⟨50000,7,7⟩) (x:=((50000:Int):Rat)) (y:=((7:Int):Rat)) (z:=((7:Int):Rat)) (show clipW octP octF ⟨50000,7,7⟩=.inr [((50000:Int):Rat),((7:Int):Rat),((7:Int):Rat)] from oct_clip3)) ?_
 (repeat' first|(refine Ka ?_;first|refine Kb ?_|(refine Kc ?_;intro _))|refine Kd ?_|refine Kh ?_)
 refine Ks rfl rfl rfl rfl (whole38_ok (x:=80000) (y:=0) (z:=0) (by decide) (by decide) (by decide)) ?_
 (repeat' first|(refine Ka ?_;first|refine Kb ?_|(refine Kc ?_;intro _))|refine Kd ?_|refine Kh ?_)
 refine Ks rfl rfl rfl rfl (clips_ok ht he (p:=⟨100000,0,0⟩) (x:=((80000:Int):Rat)) (y:=((0:Int):Rat)) (z:=((0:Int):Rat)) (show clipW octP octF ⟨100000,0,0⟩=.inr [((80000:Int):Rat),((0:Int):Rat),((0:Int):Rat)] from oct_clip4)) ?_
 (repeat' first|(refine Ka ?_;first|refine Kb ?_|(refine Kc ?_;intro _))|refine Kd ?_|refine Kh ?_)
 refine Ks rfl rfl rfl rfl (whole38_ok (x:=50000) (y:=15000) (z:=0) (by decide) (by decide) (by decide)) ?_
 (repeat' first|(refine Ka ?_;first|refine Kb ?_|(refine Kc ?_;intro _))|refine Kd ?_|refine Kh ?_)
 refine Ks rfl rfl rfl rfl (presses_ok ht he (p:=⟨50000,15000,0⟩) (x:=((50000:Int):Rat)) (y:=((15000:Int):Rat)) (z:=((0:Int):Rat)) (show compressW octP octF ⟨50000,15000,0⟩ 500 2000=.inr [((50000:Int):Rat),((15000:Int):Rat),((0:Int):Rat)] from oct_press1)) ?_
 (repeat' first|(refine Ka ?_;first|refine Kb ?_|(refine Kc ?_;intro _))|refine Kd ?_|refine Kh ?_)
 refine Ks rfl rfl rfl rfl (whole38_ok (x:=50000) (y:=30000) (z:=0) (by decide) (by decide) (by decide)) ?_
 (repeat' first|(refine Ka ?_;first|refine Kb ?_|(refine Kc ?_;intro _))|refine Kd ?_|refine Kh ?_)
 refine Ks rfl rfl rfl rfl (presses_ok ht he (p:=⟨50000,60000,0⟩) (x:=((50000:Int):Rat)) (y:=((30000:Int):Rat)) (z:=((0:Int):Rat)) (show compressW octP octF ⟨50000,60000,0⟩ 500 2000=.inr [((50000:Int):Rat),((30000:Int):Rat),((0:Int):Rat)] from oct_press2)) ?_
 (repeat' first|(refine Ka ?_;first|refine Kb ?_|(refine Kc ?_;intro _))|refine Kd ?_|refine Kh ?_)
 refine Ks rfl rfl rfl rfl (whole38_ok (x:=50000) (y:=20000) (z:=0) (by decide) (by decide) (by decide)) ?_
 (repeat' first|(refine Ka ?_;first|refine Kb ?_|(refine Kc ?_;intro _))|refine Kd ?_|refine Kh ?_)
 refine Ks rfl rfl rfl rfl (presses_ok ht he (p:=⟨50000,30000,0⟩) (x:=((50000:Int):Rat)) (y:=((20000:Int):Rat)) (z:=((0:Int):Rat)) (show compressW octP octF ⟨50000,30000,0⟩ 500 2000=.inr [((50000:Int):Rat),((20000:Int):Rat),((0:Int):Rat)] from oct_press3)) ?_
 (repeat' first|(refine Ka ?_;first|refine Kb ?_|(refine Kc ?_;intro _))|refine Kd ?_|refine Kh ?_)
 (refine Post.ra ?_)
 exact ⟨_,⟨rfl,rfl⟩,by (exact Ents.au)⟩
instance (priority:=low) rdNil38 {As:List Ent}:RdIn As (.slice none 0 0) V3 cV3 []:=⟨fun _ _ _=>.inl ⟨⟨none,rfl⟩,rfl⟩⟩
theorem kn38_1:clipW [] [] ⟨0,200001,0⟩=.inl 350:=if_pos bad_flaw
theorem kn38_2:clipW octP octF ⟨0,200001,0⟩=.inl 2:=by decide +kernel
theorem kn38_3:compressW [] [] ⟨0,200001,0⟩ (-1) 0=.inl 350:=if_pos bad_flaw
theorem kn38_4:compressW octP octF ⟨0,200001,0⟩ (-1) 0=.inl 2:=by decide +kernel
theorem kn38_5:axisW [] []=(0,0,350):=if_pos bad_flaw
theorem kn38_6:anchorW octP octF ⟨0,200001,0⟩=(V3.zero,2):=by decide +kernel
set_option maxRecDepth 100000 in
set_option maxHeartbeats 2000000 in
theorem intentKnown_ok (ht:Tab w0) (he:ErrR w0):CallsS Tryz.prog w0 10 [] As fun u _=>u=.bool true:=by
 have ho:=oct_origin
 refine CallsS.of_tri Tryz.func10 rfl Tryz.ntmps10 rfl ?_
 (repeat' first|(refine Ka ?_;first|refine Kb ?_|(refine Kc ?_;intro _))|refine Kd ?_|refine Kh ?_)
 refine Kt rfl rfl rfl (works38_ok ht he) ?_
 (repeat' first|(refine Ka ?_;first|refine Kb ?_|(refine Kc ?_;intro _))|refine Kd ?_|refine Kh ?_)
 refine TL.call rfl rfl rfl oct_ok ?_
 rintro _ _ ⟨b1,b2,rfl,rfl⟩
 (repeat' first|(refine Ka ?_;first|refine Kb ?_|(refine Kc ?_;intro _))|refine Kd ?_|refine Kh ?_)
 rename_i c1 c2 c3
 (repeat' first|(refine Ka ?_;first|refine Kb ?_|(refine Kc ?_;intro _))|refine Kd ?_|refine Kh ?_)
 refine TL.callv rfl rfl rfl rfl (clip_ok ht he (pv:=.slice none 0 0) (fv:=.slice none 0 0) (pts:=[]) (fcs:=[]) (p:=⟨0,200001,0⟩)) ?_
 rw [kn38_1]
 rintro _ _ ⟨rfl,rfl⟩
 show TL _ _ _ _ _ ((_,.tuple #[.agg #[.string ⟨#[]⟩,.string ⟨#[]⟩,.string ⟨#[]⟩,.string ⟨#[]⟩,.string ⟨#[]⟩,.string ⟨#[]⟩],.int .i64 350])::_) _ _
 (repeat' first|(refine Ka ?_;first|refine Kb ?_|(refine Kc ?_;intro _))|refine Kd ?_|refine Kh ?_)
 refine TL.callv rfl rfl rfl rfl (clip_ok ht he (pv:=.slice (some ⟨b1,0,none⟩) 6 6) (fv:=.slice (some ⟨b2,0,none⟩) 8 8) (pts:=octP) (fcs:=octF) (p:=⟨0,200001,0⟩)) ?_
 rw [kn38_2]
 rintro _ _ ⟨rfl,rfl⟩
 show TL _ _ _ _ _ ((_,.tuple #[.agg #[.string ⟨#[]⟩,.string ⟨#[]⟩,.string ⟨#[]⟩,.string ⟨#[]⟩,.string ⟨#[]⟩,.string ⟨#[]⟩],.int .i64 2])::_) _ _
 (repeat' first|(refine Ka ?_;first|refine Kb ?_|(refine Kc ?_;intro _))|refine Kd ?_|refine Kh ?_)
 refine TL.callv rfl rfl rfl rfl (compress_ok ht he (pv:=.slice none 0 0) (fv:=.slice none 0 0) (pts:=[]) (fcs:=[]) (p:=⟨0,200001,0⟩) (k:=-1) (m:=0)) ?_
 rw [kn38_3]
 rintro _ _ ⟨rfl,rfl⟩
 show TL _ _ _ _ _ ((_,.tuple #[.agg #[.string ⟨#[]⟩,.string ⟨#[]⟩,.string ⟨#[]⟩,.string ⟨#[]⟩,.string ⟨#[]⟩,.string ⟨#[]⟩],.int .i64 350])::_) _ _
 (repeat' first|(refine Ka ?_;first|refine Kb ?_|(refine Kc ?_;intro _))|refine Kd ?_|refine Kh ?_)
 refine TL.callv rfl rfl rfl rfl (compress_ok ht he (pv:=.slice (some ⟨b1,0,none⟩) 6 6) (fv:=.slice (some ⟨b2,0,none⟩) 8 8) (pts:=octP) (fcs:=octF) (p:=⟨0,200001,0⟩) (k:=-1) (m:=0)) ?_
 rw [kn38_4]
 rintro _ _ ⟨rfl,rfl⟩
 show TL _ _ _ _ _ ((_,.tuple #[.agg #[.string ⟨#[]⟩,.string ⟨#[]⟩,.string ⟨#[]⟩,.string ⟨#[]⟩,.string ⟨#[]⟩,.string ⟨#[]⟩],.int .i64 2])::_) _ _
 (repeat' first|(refine Ka ?_;first|refine Kb ?_|(refine Kc ?_;intro _))|refine Kd ?_|refine Kh ?_)
 refine TL.callv rfl rfl rfl rfl (compress_ok ht he (pv:=.slice (some ⟨b1,0,none⟩) 6 6) (fv:=.slice (some ⟨b2,0,none⟩) 8 8) (pts:=octP) (fcs:=octF) (p:=⟨0,0,0⟩) (k:=-1) (m:=2000)) ?_
 rw [oct_m1]
 rintro _ _ ⟨rfl,rfl⟩
 show TL _ _ _ _ _ ((_,.tuple #[.agg #[.string ⟨#[]⟩,.string ⟨#[]⟩,.string ⟨#[]⟩,.string ⟨#[]⟩,.string ⟨#[]⟩,.string ⟨#[]⟩],.int .i64 380])::_) _ _
 (repeat' first|(refine Ka ?_;first|refine Kb ?_|(refine Kc ?_;intro _))|refine Kd ?_|refine Kh ?_)
 refine TL.callv rfl rfl rfl rfl (compress_ok ht he (pv:=.slice (some ⟨b1,0,none⟩) 6 6) (fv:=.slice (some ⟨b2,0,none⟩) 8 8) (pts:=octP) (fcs:=octF) (p:=⟨0,0,0⟩) (k:=0) (m:=1000)) ?_
 rw [oct_m2]
 rintro _ _ ⟨rfl,rfl⟩
 show TL _ _ _ _ _ ((_,.tuple #[.agg #[.string ⟨#[]⟩,.string ⟨#[]⟩,.string ⟨#[]⟩,.string ⟨#[]⟩,.string ⟨#[]⟩,.string ⟨#[]⟩],.int .i64 380])::_) _ _
 (repeat' first|(refine Ka ?_;first|refine Kb ?_|(refine Kc ?_;intro _))|refine Kd ?_|refine Kh ?_)
 refine TL.callv rfl rfl rfl rfl (compress_ok ht he (pv:=.slice (some ⟨b1,0,none⟩) 6 6) (fv:=.slice (some ⟨b2,0,none⟩) 8 8) (pts:=octP) (fcs:=octF) (p:=⟨0,0,0⟩) (k:=999) (m:=10001)) ?_
 rw [oct_m3]
 rintro _ _ ⟨rfl,rfl⟩
 show TL _ _ _ _ _ ((_,.tuple #[.agg #[.string ⟨#[]⟩,.string ⟨#[]⟩,.string ⟨#[]⟩,.string ⟨#[]⟩,.string ⟨#[]⟩,.string ⟨#[]⟩],.int .i64 380])::_) _ _
 (repeat' first|(refine Ka ?_;first|refine Kb ?_|(refine Kc ?_;intro _))|refine Kd ?_|refine Kh ?_)
 refine TL.callv rfl rfl rfl rfl (axis_ok ht he (pv:=.slice none 0 0) (fv:=.slice none 0 0) (pts:=[]) (fcs:=[])) ?_
 rw [kn38_5]
 rintro _ _ ⟨rfl,rfl⟩
 (repeat' first|(refine Ka ?_;first|refine Kb ?_|(refine Kc ?_;intro _))|refine Kd ?_|refine Kh ?_)
 refine TL.callv rfl rfl rfl rfl (anchor38_ok ht he (pv:=.slice (some ⟨b1,0,none⟩) 6 6) (fv:=.slice (some ⟨b2,0,none⟩) 8 8) (pts:=octP) (fcs:=octF) (p:=⟨0,200001,0⟩)) ?_
 rw [kn38_6]
 rintro _ _ ⟨rfl,rfl⟩
 show TL _ _ _ _ _ ((_,.tuple #[.agg #[.int .i64 0,.int .i64 0,.int .i64 0],.int .i64 2])::_) _ _
 (repeat' first|(refine Ka ?_;first|refine Kb ?_|(refine Kc ?_;intro _))|refine Kd ?_|refine Kh ?_)
 refine TL.callv rfl rfl rfl rfl (compress_ok ht he (pv:=.slice (some ⟨b1,0,none⟩) 6 6) (fv:=.slice (some ⟨b2,0,none⟩) 8 8) (pts:=octP) (fcs:=octF) (p:=⟨0,0,0⟩) (k:=0) (m:=10000)) ?_
 cases hc:compressW octP octF ⟨0,0,0⟩ 0 10000 with
 | inl e=>rw [hc] at ho;cases ho
 | inr r =>
  clear ho hc
  rintro _ _ ⟨rfl,rfl⟩
  show TL _ _ _ _ _ ((_,.tuple #[.agg #[.string ⟨(frN (.inr r) 0).toArray⟩,.string ⟨(frD (.inr r) 0).toArray⟩,.string ⟨(frN (.inr r) 1).toArray⟩,.string ⟨(frD (.inr r) 1).toArray⟩,.string ⟨(frN (.inr r) 2).toArray⟩,.string ⟨(frD (.inr r) 2).toArray⟩],.int .i64 0])::_) _ _
  (repeat' first|(refine Ka ?_;first|refine Kb ?_|(refine Kc ?_;intro _))|refine Kd ?_|refine Kh ?_)
  refine TL.call rfl rfl rfl oct_ok ?_
  rintro _ _ ⟨b3,b4,rfl,rfl⟩
  (repeat' first|(refine Ka ?_;first|refine Kb ?_|(refine Kc ?_;intro _))|refine Kd ?_|refine Kh ?_)
  refine TL.call rfl rfl rfl oct_ok ?_
  rintro _ _ ⟨b5,b6,rfl,rfl⟩
  (repeat' first|(refine Ka ?_;first|refine Kb ?_|(refine Kc ?_;intro _))|refine Kd ?_|refine Kh ?_)
  rename_i c25 c26
  have h0:octP[0]?=some ⟨80000,0,0⟩:=rfl
  have h1:(octP.set 0 ⟨150000,0,0⟩)[1]?=some ⟨20000,0,0⟩:=rfl
  refine Tri.dw [.cl c25 [.slice (some ⟨b3,0,none⟩) 6 6,.slice (some ⟨b4,0,none⟩) 8 8] 30] [] (.take 0 (.take 1 (.take 2 (.take 3 (.take 4 (.take 5 (.take 6 (.all [(7,.take 8 (.all [(9,.done)]))])))))))) ?_
  (repeat' first|(refine Ka ?_;first|refine Kb ?_|(refine Kc ?_;intro _))|refine Kd ?_|(refine Ki ?_;refine Kj ?_)|exact Kk|refine Kl ?_ ?_|(refine Km ?_;first|refine Kn ?_|(refine Ko ?_;intro _))|(refine Kp ?_;first|refine Kq ?_|refine Kr ?_)|refine Kh ?_)
  refine TT.take rfl rfl rfl (ExF.idxSl (i:=0) rfl rfl (by decide)) ?_
  (repeat' first|(refine Ka ?_;first|refine Kb ?_|(refine Kc ?_;intro _))|refine Kd ?_|(refine Ki ?_;refine Kj ?_)|exact Kk|refine Kl ?_ ?_|(refine Km ?_;first|refine Kn ?_|(refine Ko ?_;intro _))|(refine Kp ?_;first|refine Kq ?_|refine Kr ?_)|refine Kh ?_)
  refine TT.take rfl rfl rfl (ExF.idxSl (i:=1) rfl rfl (by decide)) ?_
  (repeat' first|(refine Ka ?_;first|refine Kb ?_|(refine Kc ?_;intro _))|refine Kd ?_|(refine Ki ?_;refine Kj ?_)|exact Kk|refine Kl ?_ ?_|(refine Km ?_;first|refine Kn ?_|(refine Ko ?_;intro _))|(refine Kp ?_;first|refine Kq ?_|refine Kr ?_)|refine Kh ?_)
  show TL _ _ _ _ _ _ (.ow cV3 _ _ longP::_) _
  clear h0 h1
  refine TL.callv rfl rfl rfl rfl (axis_ok ht he (pv:=.slice (some ⟨b3,0,none⟩) 6 6) (fv:=.slice (some ⟨b4,0,none⟩) 8 8) (pts:=longP) (fcs:=octF)) ?_
  rw [long_axis]
  rintro _ _ ⟨rfl,rfl⟩
  (repeat' first|(refine Ka ?_;first|refine Kb ?_|(refine Kc ?_;intro _))|refine Kd ?_|refine Kh ?_)
  have h0:octP[0]?=some ⟨80000,0,0⟩:=rfl
  have h1:(octP.set 0 ⟨80000,1,0⟩)[1]?=some ⟨20000,0,0⟩:=rfl
  refine Tri.dw [.cl c26 [.slice (some ⟨b5,0,none⟩) 6 6,.slice (some ⟨b6,0,none⟩) 8 8] 30] [] (.take 0 (.take 1 (.take 2 (.take 3 (.take 4 (.take 5 (.take 6 (.all [(7,.take 8 (.all [(9,.done)]))])))))))) ?_
  (repeat' first|(refine Ka ?_;first|refine Kb ?_|(refine Kc ?_;intro _))|refine Kd ?_|(refine Ki ?_;refine Kj ?_)|exact Kk|refine Kl ?_ ?_|(refine Km ?_;first|refine Kn ?_|(refine Ko ?_;intro _))|(refine Kp ?_;first|refine Kq ?_|refine Kr ?_)|refine Kh ?_)
  refine TT.take rfl rfl rfl (ExF.idxSl (i:=0) rfl rfl (by decide)) ?_
  (repeat' first|(refine Ka ?_;first|refine Kb ?_|(refine Kc ?_;intro _))|refine Kd ?_|(refine Ki ?_;refine Kj ?_)|exact Kk|refine Kl ?_ ?_|(refine Km ?_;first|refine Kn ?_|(refine Ko ?_;intro _))|(refine Kp ?_;first|refine Kq ?_|refine Kr ?_)|refine Kh ?_)
  refine TT.take rfl rfl rfl (ExF.idxSl (i:=1) rfl rfl (by decide)) ?_
  (repeat' first|(refine Ka ?_;first|refine Kb ?_|(refine Kc ?_;intro _))|refine Kd ?_|(refine Ki ?_;refine Kj ?_)|exact Kk|refine Kl ?_ ?_|(refine Km ?_;first|refine Kn ?_|(refine Ko ?_;intro _))|(refine Kp ?_;first|refine Kq ?_|refine Kr ?_)|refine Kh ?_)
  show TL _ _ _ _ _ _ (.ow cV3 _ _ oddP::_) _
  clear h0 h1
  refine TL.callv rfl rfl rfl rfl (axis_ok ht he (pv:=.slice (some ⟨b5,0,none⟩) 6 6) (fv:=.slice (some ⟨b6,0,none⟩) 8 8) (pts:=oddP) (fcs:=octF)) ?_
  rw [odd_axis]
  rintro _ _ ⟨rfl,rfl⟩
  (repeat' first|(refine Ka ?_;first|refine Kb ?_|(refine Kc ?_;intro _))|refine Kd ?_|refine Kh ?_)
  refine TL.callv rfl rfl rfl rfl (compress_ok ht he (pv:=.slice (some ⟨b1,0,none⟩) 6 6) (fv:=.slice (some ⟨b2,0,none⟩) 8 8) (pts:=octP) (fcs:=octF) (p:=⟨50000,0,-45000⟩) (k:=0) (m:=3000)) ?_
  rw [show compressW octP octF ⟨50000,0,-45000⟩ 0 3000=.inr [((50000:Int):Rat),((0:Int):Rat),((-15000:Int):Rat)] from oct_half]
  rintro _ _ ⟨rfl,rfl⟩
  show TL _ _ _ _ _ ((_,.tuple #[.agg #[.string ⟨(tN ((50000:Int):Rat)).toArray⟩,.string ⟨(tD ((50000:Int):Rat)).toArray⟩,.string ⟨(tN ((0:Int):Rat)).toArray⟩,.string ⟨(tD ((0:Int):Rat)).toArray⟩,.string ⟨(tN ((-15000:Int):Rat)).toArray⟩,.string ⟨(tD ((-15000:Int):Rat)).toArray⟩],.int .i64 0])::_) _ _
  (repeat' first|(refine Ka ?_;first|refine Kb ?_|(refine Kc ?_;intro _))|refine Kd ?_|refine Kh ?_)
  rename_i c33
  (repeat' first|(refine Ka ?_;first|refine Kb ?_|(refine Kc ?_;intro _))|refine Kd ?_|refine Kh ?_)
  refine TL.callv rfl rfl rfl rfl (compress_ok ht he (pv:=.slice (some ⟨b1,0,none⟩) 6 6) (fv:=.slice (some ⟨b2,0,none⟩) 8 8) (pts:=octP) (fcs:=octF) (p:=⟨50000,0,10000⟩) (k:=0) (m:=2000)) ?_
  rw [show compressW octP octF ⟨50000,0,10000⟩ 0 2000=.inr [((50000:Int):Rat),((0:Int):Rat),((5000:Int):Rat)] from oct_thin]
  rintro _ _ ⟨rfl,rfl⟩
  show TL _ _ _ _ _ ((_,.tuple #[.agg #[.string ⟨(tN ((50000:Int):Rat)).toArray⟩,.string ⟨(tD ((50000:Int):Rat)).toArray⟩,.string ⟨(tN ((0:Int):Rat)).toArray⟩,.string ⟨(tD ((0:Int):Rat)).toArray⟩,.string ⟨(tN ((5000:Int):Rat)).toArray⟩,.string ⟨(tD ((5000:Int):Rat)).toArray⟩],.int .i64 0])::_) _ _
  (repeat' first|(refine Ka ?_;first|refine Kb ?_|(refine Kc ?_;intro _))|refine Kd ?_|refine Kh ?_)
  rename_i c35
  refine Tri.dw [.cl c33 [.string ⟨(tN ((50000:Int):Rat)).toArray⟩,.string ⟨(tD ((50000:Int):Rat)).toArray⟩,.string ⟨(tN ((0:Int):Rat)).toArray⟩,.string ⟨(tD ((0:Int):Rat)).toArray⟩,.string ⟨(tN ((-15000:Int):Rat)).toArray⟩,.string ⟨(tD ((-15000:Int):Rat)).toArray⟩] 69,.cl c35 [.string ⟨(tN ((50000:Int):Rat)).toArray⟩,.string ⟨(tD ((50000:Int):Rat)).toArray⟩,.string ⟨(tN ((0:Int):Rat)).toArray⟩,.string ⟨(tD ((0:Int):Rat)).toArray⟩,.string ⟨(tN ((5000:Int):Rat)).toArray⟩,.string ⟨(tD ((5000:Int):Rat)).toArray⟩] 69,.cl c1 [.slice (some ⟨b1,0,none⟩) 6 6,.slice (some ⟨b2,0,none⟩) 8 8] 30] [] (.take 0 (.take 1 (.take 2 (.take 3 (.all [(4,.take 5 (.take 6 (.take 7 (.take 8 (.take 9 (.take 10 (.take 11 (.take 12 (.all [(13,.take 14 (.take 15 (.take 16 (.take 17 (.all [(18,.all [(19,.take 20 (.take 21 (.done)))])])))))])))))))))]))))) ?_
  (repeat' first|(refine Ka ?_;first|refine Kb ?_|(refine Kc ?_;intro _))|refine Kd ?_|(refine Ki ?_;refine Kj ?_)|exact Kk|refine Kl ?_ ?_|(refine Km ?_;first|refine Kn ?_|(refine Ko ?_;intro _))|(refine Kp ?_;first|refine Kq ?_|refine Kr ?_)|refine Kh ?_)
  refine Ku rfl rfl rfl rfl rfl (whole38_ok (x:=50000) (y:=0) (z:=-15000) (by decide) (by decide) (by decide)) ?_
  unfold frtV
  (repeat' first|(refine Ka ?_;first|refine Kb ?_|(refine Kc ?_;intro _))|refine Kd ?_|(refine Ki ?_;refine Kj ?_)|exact Kk|refine Kl ?_ ?_|(refine Km ?_;first|refine Kn ?_|(refine Ko ?_;intro _))|(refine Kp ?_;first|refine Kq ?_|refine Kr ?_)|refine Kh ?_)
  refine TT.take rfl rfl rfl (ExF.eqlSix rfl rfl) ?_
  rw [show ∀ a b c d f g:List UInt8,decide ((a=a∧b=b)∧(c=c∧d=d)∧(f=f∧g=g))=true by simp]
  (repeat' first|(refine Ka ?_;first|refine Kb ?_|(refine Kc ?_;intro _))|refine Kd ?_|(refine Ki ?_;refine Kj ?_)|exact Kk|refine Kl ?_ ?_|(refine Km ?_;first|refine Kn ?_|(refine Ko ?_;intro _))|(refine Kp ?_;first|refine Kq ?_|refine Kr ?_)|refine Kh ?_)
  refine Ku rfl rfl rfl rfl rfl (whole38_ok (x:=50000) (y:=0) (z:=5000) (by decide) (by decide) (by decide)) ?_
  unfold frtV
  (repeat' first|(refine Ka ?_;first|refine Kb ?_|(refine Kc ?_;intro _))|refine Kd ?_|(refine Ki ?_;refine Kj ?_)|exact Kk|refine Kl ?_ ?_|(refine Km ?_;first|refine Kn ?_|(refine Ko ?_;intro _))|(refine Kp ?_;first|refine Kq ?_|refine Kr ?_)|refine Kh ?_)
  refine TT.take rfl rfl rfl (ExF.eqlSix rfl rfl) ?_
  rw [show ∀ a b c d f g:List UInt8,decide ((a=a∧b=b)∧(c=c∧d=d)∧(f=f∧g=g))=true by simp]
  (repeat' first|(refine Ka ?_;first|refine Kb ?_|(refine Kc ?_;intro _))|refine Kd ?_|(refine Ki ?_;refine Kj ?_)|exact Kk|refine Kl ?_ ?_|(refine Km ?_;first|refine Kn ?_|(refine Ko ?_;intro _))|(refine Kp ?_;first|refine Kq ?_|refine Kr ?_)|refine Kh ?_)
  refine T1.call rfl rfl rfl rfl oct_ok ?_
  rintro _ _ ⟨b7,b8,rfl,rfl⟩
  (repeat' first|(refine Ka ?_;first|refine Kb ?_|(refine Kc ?_;intro _))|refine Kd ?_|(refine Ki ?_;refine Kj ?_)|exact Kk|refine Kl ?_ ?_|(refine Km ?_;first|refine Kn ?_|(refine Ko ?_;intro _))|(refine Kp ?_;first|refine Kq ?_|refine Kr ?_)|refine Kh ?_)
  refine Ku rfl rfl rfl rfl rfl (sameR_ok (pv:=.slice (some ⟨b1,0,none⟩) 6 6) (fv:=.slice (some ⟨b2,0,none⟩) 8 8) (pts:=octP) (fcs:=octF) (pv':=.slice (some ⟨b7,0,none⟩) 6 6) (fv':=.slice (some ⟨b8,0,none⟩) 8 8) (pts':=octP) (fcs':=octF) (by decide) (by decide)) ?_
  rw [show (decide (octP=octP)&&decide (octF=octF))=true by simp]
  (repeat' first|(refine Ka ?_;first|refine Kb ?_|(refine Kc ?_;intro _))|refine Kd ?_|(refine Ki ?_;refine Kj ?_)|exact Kk|refine Kl ?_ ?_|(refine Km ?_;first|refine Kn ?_|(refine Ko ?_;intro _))|(refine Kp ?_;first|refine Kq ?_|refine Kr ?_)|refine Kh ?_)
  (refine Post.ra ?_)
  exact ⟨_,rfl,Ents.refl _⟩
end Go.Proofs.YtkcnpgmgmgepoaaGreatDoor
