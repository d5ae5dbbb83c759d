/- Walks: law38: the three meshes; the program's answers and the reference's by one name. -/
import Derived.Test.YtngcfjfaobcpmaaGreatDoorNl0
import Derived.Test.YtngcfjfaobcpmaaGreatDoorNr3
import Derived.Test.YtngcfjfaobcpmaaGreatDoorNk1
set_option maxHeartbeats 1000000
namespace Go.Sx
open Go
theorem Yex {T U:TypeId} {R:List Ent} {a b:Value} {xs ys:List V3}:Ents (.ow cV3 T a xs::.ow cV3 U b ys::R) (.ft (rd cV3 a xs)::.ft (rd cV3 b ys)::R) :=
 Ents.trans Ents.freeze (Ents.trans (Ents.perm (List.Perm.swap _ _ _)) (Ents.trans Ents.freeze (Ents.perm (List.Perm.swap _ _ _))))
theorem Z1m {As:List Ent} {v:Value} {α:Type} {c:Cod α} {xs:List α} [h:FtIn As v α c xs] {lo hi n:Nat} (hn:c.n=n) (h1:lo≤hi) (h2:hi≤xs.length):Ents As (.ft (rd c (subV n v lo hi) ((xs.drop lo).take (hi - lo)))::As):=by subst hn;exact fun w0 w hs=>Ziv hs h.mem fun H hH=>Rdb.sub hH h1 h2
theorem Zpe:∀ a b c d f g:List UInt8,(!decide ((a=a∧b=b)∧(c=c∧d=d)∧(f=f∧g=g)))=false:=by simp
end Go.Sx
namespace Go.Proofs.YtngcfjfaobcpmaaGreatDoor
open Go Go.Sx
variable {w0:World} {As:List Ent} {pv fv:Value} {pts fcs:List V3}
def Mesh3R (As:List Ent) (v:Value) (Bs:List Ent):Prop:=∃ (P F P' F' G:List V3) (pv fv pv' fv' gv:Value),Sx.Good P F∧Sx.Good P' F'∧v=.agg #[pv,fv,pv',fv',pv,gv] ∧
 Bs=.ft (rd cV3 gv G)::.ft (rd cV3 pv' P')::.ft (rd cV3 fv' F')::.ft (rd cV3 pv P)::.ft (rd cV3 fv F)::As
set_option maxRecDepth 100000 in
theorem Zjk (g:DraftA) (hg:g.ok) {l:Int} (hl:0≤l∧l≤65535) (d:DraftA) (hd:d.ok) [RdIn As g.ov Int (cI .i8) g.off] [RdIn As d.ov Int (cI .i8) d.off] :
  CallsS Tryz.prog w0 9 [.agg #[.int .u8 g.kd,.int .u8 g.sz,.int .i16 g.a0,.int .i16 g.a1,.int .i16 g.a2,g.ov,.bool g.tn,.int .u16 l],.agg #[.int .u8 d.kd,.int .u8 d.sz,.int .i16 d.a0,.int .i16 d.a1,.int .i16 d.a2,d.ov,.bool d.tn]] As (Mesh3R As):=by
 refine Zak g.ov (xs:=g.off) (c:=cI .i8) fun hov=>Zak d.ov (xs:=d.off) (c:=cI .i8) fun hov'=>?_
 refine Zab Tryz.func9 rfl Tryz.ntmps9 rfl ?_
 repeat' first|refine Kz ?_|intro _
 refine TL.callv rfl rfl rfl rfl (Zmm g hg hl) ?_
 rintro _ _ ⟨P,F,hgd,pv,fv,rfl,o1,o2,rfl⟩
 have hf4:=hgd.f4
 refine TL.ents Yex ?_
 refine Zbn (c:=cV3) (xs:=P) pv fun pa ca e1=>Zbn (c:=cV3) (xs:=F) fv fun pb cb e2=>?_
 subst e1 e2
 haveI hsub:∀ (Bs:List Ent) [RdIn Bs (.slice pb F.length cb) V3 cV3 F],RdIn Bs (subV 3 (.slice pb F.length cb) 1 F.length) V3 cV3 ((F.drop 1).take (F.length - 1)):=fun Bs _=>RdIn.sub (c:=cV3) (by omega) (Nat.le_refl _)
 refine Zbn (c:=cV3) (xs:=(F.drop 1).take (F.length - 1)) (subV 3 (.slice pb F.length cb) 1 F.length) fun p2 c2 e2=>?_
 repeat' first|refine Kz ?_|intro _
 rename_i b3 b4 b5
 refine Zaf [.cl b5 [.slice pa P.length ca,.slice pb F.length cb] 36,.ft (rd cV3 (.slice pb F.length cb) F)] [] (.take 0 (.take 1 (.take 2 (.take 3 (.take 4 (.take 5 (.all [(6,.all [(7,.done)])]))))))) ?_
 repeat' first|refine Kf ?_|intro _|constructor
 refine TT.take rfl rfl rfl (Zg5 (c:=cV3) (xs:=F) (lo:=1) rfl (Zgz rfl) Zn1 (by omega) (Nat.le_refl _)) ?_
 rw [e2]
 repeat' first|refine Kf ?_|intro _|constructor
 rename_i b6
 refine Zaf [.cl b5 [.slice pa P.length ca,.slice pb F.length cb] 36,.cl b3 [.int .u8 d.kd,.int .u8 d.sz,.int .i16 d.a0,.int .i16 d.a1,.int .i16 d.a2,d.ov,.bool d.tn] 26,.cl b6 [.slice pa P.length ca,.slice p2 ((F.drop 1).take (F.length - 1)).length c2] 36] [] (.take 0 (.take 1 (.take 3 (.all [(2,.take 4 (.all [(5,.done)]))])))) ?_
 repeat' first|refine Kf ?_|intro _|constructor
 refine T1.callv rfl rfl rfl rfl rfl (Zt5 d hd) ?_
 rintro _ _ ⟨pv',fv',rfl,o3,o4,rfl⟩
 repeat' first|refine Kf ?_|intro _|constructor
 (refine Zac ?_)
 exact ⟨_,⟨P,F,d.mesh.1,d.mesh.2,(F.drop 1).take (F.length - 1),_,_,_,_,_,hgd,Yga.1 (d.good hd),rfl,rfl⟩,by rw [← e2];exact Ents.trans Zbr <| Ents.trans Yex <| Ents.trans (Z1m (v:=.slice pb F.length cb) (c:=cV3) (xs:=F) (lo:=1) (hi:=F.length) (n:=3) rfl (by omega) (Nat.le_refl _)) Zaa⟩
theorem Zr8 (ht:Tab w0) (he:ErrR w0) [RdIn As fv V3 cV3 fcs] [RdIn As pv V3 cV3 pts]:CallsS Tryz.prog w0 10 [.agg #[pv,fv]] As fun r Bs=>∃ a b e,axisW pts fcs=(a,b,e)∧r=.tuple #[.int .i64 a,.int .i64 b,.int .i64 e]∧Bs=As :=
 (Zwu ht he).mono fun _ _ h=>⟨_,_,_,rfl,h⟩
theorem Znj {a b e:Int} (hW:axisW pts fcs=(a,b,e)) [RdIn As fv V3 cV3 fcs] [RdIn As pv V3 cV3 pts]:CallsS Tryz.prog w0 11 [.agg #[pv,fv]] As fun r Bs=>r=.tuple #[.int .i64 a,.int .i64 b,.int .i64 e]∧Bs=As :=
 Z67.mono fun _ _ h=>by rw [hW] at h;exact h
theorem Zlc (ht:Tab w0) (he:ErrR w0) {p:V3} [RdIn As fv V3 cV3 fcs] [RdIn As pv V3 cV3 pts]:CallsS Tryz.prog w0 13 [.agg #[pv,fv],p.val] As fun r Bs=>∃ x y z e,anchorW pts fcs p=(⟨x,y,z⟩,e)∧r=.tuple #[.agg #[.int .i64 x,.int .i64 y,.int .i64 z],.int .i64 e]∧Bs=As :=
 (Zdi ht he).mono fun _ _ h=>⟨_,_,_,_,rfl,h⟩
theorem Zje {p:V3} {x y z e:Int} (hW:anchorW pts fcs p=(⟨x,y,z⟩,e)) [RdIn As fv V3 cV3 fcs] [RdIn As pv V3 cV3 pts]:CallsS Tryz.prog w0 14 [.agg #[pv,fv],p.val] As fun r Bs=>r=.tuple #[.agg #[.int .i64 x,.int .i64 y,.int .i64 z],.int .i64 e]∧Bs=As :=
 Ze1.mono fun _ _ h=>by rw [hW] at h;exact h
theorem Zr5 (ht:Tab w0) (he:ErrR w0) {p:V3} [RdIn As fv V3 cV3 fcs] [RdIn As pv V3 cV3 pts]:CallsS Tryz.prog w0 16 [.agg #[pv,fv],p.val] As fun r Bs=>∃ o,clipW pts fcs p=o∧r=.tuple #[.agg #[.string ⟨(frN o 0).toArray⟩,.string ⟨(frD o 0).toArray⟩,.string ⟨(frN o 1).toArray⟩,.string ⟨(frD o 1).toArray⟩,.string ⟨(frN o 2).toArray⟩,.string ⟨(frD o 2).toArray⟩],.int .i64 (errO o)]∧Bs=As :=
 (Zcw ht he).mono fun _ _ h=>⟨_,rfl,h⟩
theorem Zni {p:V3} {o:Int ⊕ List Rat} (hW:clipW pts fcs p=o) [RdIn As fv V3 cV3 fcs] [RdIn As pv V3 cV3 pts]:CallsS Tryz.prog w0 17 [.agg #[pv,fv],p.val] As fun r Bs=>r=.tuple #[.agg #[.string ⟨(frN o 0).toArray⟩,.string ⟨(frD o 0).toArray⟩,.string ⟨(frN o 1).toArray⟩,.string ⟨(frD o 1).toArray⟩,.string ⟨(frN o 2).toArray⟩,.string ⟨(frD o 2).toArray⟩],.int .i64 (errO o)]∧Bs=As :=
 Yf6.mono fun _ _ h=>by rw [hW] at h;exact h
theorem Zhx (ht:Tab w0) (he:ErrR w0) {p:V3} {k m:Int} [RdIn As fv V3 cV3 fcs] [RdIn As pv V3 cV3 pts]:CallsS Tryz.prog w0 18 [.agg #[pv,fv],p.val,.int .i64 k,.int .i64 m] As fun r Bs=>∃ o,compressW pts fcs p k m=o∧r=.tuple #[.agg #[.string ⟨(frN o 0).toArray⟩,.string ⟨(frD o 0).toArray⟩,.string ⟨(frN o 1).toArray⟩,.string ⟨(frD o 1).toArray⟩,.string ⟨(frN o 2).toArray⟩,.string ⟨(frD o 2).toArray⟩],.int .i64 (errO o)]∧Bs=As :=
 (Zan ht he).mono fun _ _ h=>⟨_,rfl,h⟩
theorem Zgt {p:V3} {k m:Int} {o:Int ⊕ List Rat} (hW:compressW pts fcs p k m=o) [RdIn As fv V3 cV3 fcs] [RdIn As pv V3 cV3 pts]:CallsS Tryz.prog w0 19 [.agg #[pv,fv],p.val,.int .i64 k,.int .i64 m] As fun r Bs=>r=.tuple #[.agg #[.string ⟨(frN o 0).toArray⟩,.string ⟨(frD o 0).toArray⟩,.string ⟨(frN o 1).toArray⟩,.string ⟨(frD o 1).toArray⟩,.string ⟨(frN o 2).toArray⟩,.string ⟨(frD o 2).toArray⟩],.int .i64 (errO o)]∧Bs=As :=
 Z9i.mono fun _ _ h=>by rw [hW] at h;exact h
end Go.Proofs.YtngcfjfaobcpmaaGreatDoor
