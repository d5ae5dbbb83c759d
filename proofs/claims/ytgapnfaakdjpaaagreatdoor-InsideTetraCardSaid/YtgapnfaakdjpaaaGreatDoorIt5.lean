/- Walks: InsideTetra: the four determinants. Printed by gen_it5.py. -/
import Derived.Test.YtgapnfaakdjpaaaGreatDoorIt2
namespace Go.Sx
open Go
def Code.rt:Code→Code|.seq _ c=>c|c=>c
def Code.lt:Code→Code|.seq c _=>c|c=>c
def codOf (f:Func):Code:=f.body.getD .skip
section
variable {P:Program} {N:Ctx} {w0:World} {ops:Array Oper} {Rs:RsP} {t t':Tree} {e e':Env} {As Bs:List Ent} {Q:Exit→Act→World→Prop}
theorem TT.weak (hA:Ents As Bs) (he:Sub e e') (k:TT P N w0 ops Rs t e' Bs Q):TT P N w0 ops Rs t e As Q:=by
  unfold TT at *
  exact fun h0 fuel listed hd hok a w ha hs hrs=>k h0 fuel listed hd hok a w (ha.sub he) (hA w0 w hs) hrs
theorem Post.weak2 {x:Exit} (hA:Ents As Bs) (he:Sub e e') (k:Post N w0 Q x e' Bs):Post N w0 Q x e As:=Post.mk fun a w ha hs=>k.out a w (ha.sub he) (hA w0 w hs)
theorem TT.lem (t':Tree) (I:Env→List Ent→Prop) (h1:∀ e' As',I e' As'→TT P N w0 ops Rs t' e' As' Q) (h2:(∀ e' As',I e' As'→TT P N w0 ops Rs t' e' As' Q)→TT P N w0 ops Rs t e As Q):TT P N w0 ops Rs t e As Q:=h2 h1
end
end Go.Sx
namespace Go.Proofs.YtgapnfaakdjpaaaGreatDoor
open Go Go.Sx
variable {w0:World} {As:List Ent}
set_option maxRecDepth 100000 in
set_option maxHeartbeats 8000000 in
theorem reg34 {Q:Exit→Act→World→Prop} [PanicOk Q] {c1 c2 c3 c4 b17:Nat} {x0 x1 x2 x3 x4 x5 x6 x7 x8 x9 x10 x11 p0 p1 p2 V:Int} {v7:Value}
    (r:∀ x∈[x0,x1,x2,x3,x4,x5,x6,x7,x8,x9,x10,x11],-100000≤x∧x≤100000) (z:∀ x∈[p0,p1,p2],-100128≤x∧x≤100128)
    (hQ:∀ b23,Post ⟨226,none,[]⟩ w0 Q .normal [(7,v7),(16,.int .i64 V),(17,.pointer (some ⟨b17,0,none⟩)),(23,.pointer (some ⟨b23,0,none⟩))]
      (.cl b23 [.int .i64 (det3 ⟨x3 - p0,x4 - p1,x5 - p2⟩ ⟨x6 - p0,x7 - p1,x8 - p2⟩ ⟨x9 - p0,x10 - p1,x11 - p2⟩),.int .i64 (det3 ⟨p0 - x0,p1 - x1,p2 - x2⟩ ⟨x6 - x0,x7 - x1,x8 - x2⟩ ⟨x9 - x0,x10 - x1,x11 - x2⟩),.int .i64 (det3 ⟨x3 - x0,x4 - x1,x5 - x2⟩ ⟨p0 - x0,p1 - x1,p2 - x2⟩ ⟨x9 - x0,x10 - x1,x11 - x2⟩),.int .i64 (det3 ⟨x3 - x0,x4 - x1,x5 - x2⟩ ⟨x6 - x0,x7 - x1,x8 - x2⟩ ⟨p0 - x0,p1 - x1,p2 - x2⟩)] 60::.cl b17 [.int .i64 p0,.int .i64 p1,.int .i64 p2] 31::.cl c1 [.int .i64 x0,.int .i64 x1,.int .i64 x2] 31::.cl c2 [.int .i64 x3,.int .i64 x4,.int .i64 x5] 31::.cl c3 [.int .i64 x6,.int .i64 x7,.int .i64 x8] 31::.cl c4 [.int .i64 x9,.int .i64 x10,.int .i64 x11] 31::As)) :
    Tri Tryz.prog ⟨226,none,[]⟩ w0 (Code.lt (Code.rt (Code.rt (Code.rt (Code.rt (Code.rt (Code.rt (Code.rt (Code.rt (Code.rt (Code.rt (Code.rt (codOf Tryz.f5))))))))))))) [(12,.pointer (some ⟨c1,0,none⟩)),(13,.pointer (some ⟨c2,0,none⟩)),(14,.pointer (some ⟨c3,0,none⟩)),(15,.pointer (some ⟨c4,0,none⟩)),(17,.pointer (some ⟨b17,0,none⟩)),(7,v7),(16,.int .i64 V)]
      (.cl b17 [.int .i64 p0,.int .i64 p1,.int .i64 p2] 31::.cl c1 [.int .i64 x0,.int .i64 x1,.int .i64 x2] 31::.cl c2 [.int .i64 x3,.int .i64 x4,.int .i64 x5] 31::.cl c3 [.int .i64 x6,.int .i64 x7,.int .i64 x8] 31::.cl c4 [.int .i64 x9,.int .i64 x10,.int .i64 x11] 31::As) Q:=by
  have r0:=r x0 (by simp)
  have r1:=r x1 (by simp)
  have r2:=r x2 (by simp)
  have r3:=r x3 (by simp)
  have r4:=r x4 (by simp)
  have r5:=r x5 (by simp)
  have r6:=r x6 (by simp)
  have r7:=r x7 (by simp)
  have r8:=r x8 (by simp)
  have r9:=r x9 (by simp)
  have r10:=r x10 (by simp)
  have r11:=r x11 (by simp)
  have z0:=z p0 (by simp)
  have z1:=z p1 (by simp)
  have z2:=z p2 (by simp)
  clear r z
  have m1:=fun Bs:List Ent=>minus36_ok (w0:=w0) (As:=Bs) (x0:=x3) (x1:=x4) (x2:=x5) (y0:=p0) (y1:=p1) (y2:=p2) (by omega) (by omega) (by omega) (by omega) (by omega) (by omega)
  have m2:=fun Bs:List Ent=>minus36_ok (w0:=w0) (As:=Bs) (x0:=x6) (x1:=x7) (x2:=x8) (y0:=p0) (y1:=p1) (y2:=p2) (by omega) (by omega) (by omega) (by omega) (by omega) (by omega)
  have m3:=fun Bs:List Ent=>minus36_ok (w0:=w0) (As:=Bs) (x0:=x9) (x1:=x10) (x2:=x11) (y0:=p0) (y1:=p1) (y2:=p2) (by omega) (by omega) (by omega) (by omega) (by omega) (by omega)
  have m4:=fun Bs:List Ent=>minus36_ok (w0:=w0) (As:=Bs) (x0:=p0) (x1:=p1) (x2:=p2) (y0:=x0) (y1:=x1) (y2:=x2) (by omega) (by omega) (by omega) (by omega) (by omega) (by omega)
  have m5:=fun Bs:List Ent=>minus36_ok (w0:=w0) (As:=Bs) (x0:=x6) (x1:=x7) (x2:=x8) (y0:=x0) (y1:=x1) (y2:=x2) (by omega) (by omega) (by omega) (by omega) (by omega) (by omega)
  have m6:=fun Bs:List Ent=>minus36_ok (w0:=w0) (As:=Bs) (x0:=x9) (x1:=x10) (x2:=x11) (y0:=x0) (y1:=x1) (y2:=x2) (by omega) (by omega) (by omega) (by omega) (by omega) (by omega)
  have m7:=fun Bs:List Ent=>minus36_ok (w0:=w0) (As:=Bs) (x0:=x3) (x1:=x4) (x2:=x5) (y0:=x0) (y1:=x1) (y2:=x2) (by omega) (by omega) (by omega) (by omega) (by omega) (by omega)
  have k1:=fun Bs:List Ent=>det36_ok (w0:=w0) (As:=Bs) (x0:=x3 - p0) (x1:=x4 - p1) (x2:=x5 - p2) (y0:=x6 - p0) (y1:=x7 - p1) (y2:=x8 - p2) (z0:=x9 - p0) (z1:=x10 - p1) (z2:=x11 - p2) (by omega) (by omega) (by omega) (by omega) (by omega) (by omega) (by omega) (by omega) (by omega)
  have k2:=fun Bs:List Ent=>det36_ok (w0:=w0) (As:=Bs) (x0:=p0 - x0) (x1:=p1 - x1) (x2:=p2 - x2) (y0:=x6 - x0) (y1:=x7 - x1) (y2:=x8 - x2) (z0:=x9 - x0) (z1:=x10 - x1) (z2:=x11 - x2) (by omega) (by omega) (by omega) (by omega) (by omega) (by omega) (by omega) (by omega) (by omega)
  have k3:=fun Bs:List Ent=>det36_ok (w0:=w0) (As:=Bs) (x0:=x3 - x0) (x1:=x4 - x1) (x2:=x5 - x2) (y0:=p0 - x0) (y1:=p1 - x1) (y2:=p2 - x2) (z0:=x9 - x0) (z1:=x10 - x1) (z2:=x11 - x2) (by omega) (by omega) (by omega) (by omega) (by omega) (by omega) (by omega) (by omega) (by omega)
  have k4:=fun Bs:List Ent=>det36_ok (w0:=w0) (As:=Bs) (x0:=x3 - x0) (x1:=x4 - x1) (x2:=x5 - x2) (y0:=x6 - x0) (y1:=x7 - x1) (y2:=x8 - x2) (z0:=p0 - x0) (z1:=p1 - x1) (z2:=p2 - x2) (by omega) (by omega) (by omega) (by omega) (by omega) (by omega) (by omega) (by omega) (by omega)
  clear r0 r1 r2 r3 r4 r5 r6 r7 r8 r9 r10 r11 z0 z1 z2
  refine Tri.dw [.cl b17 [.int .i64 p0,.int .i64 p1,.int .i64 p2] 31,.cl c1 [.int .i64 x0,.int .i64 x1,.int .i64 x2] 31,.cl c2 [.int .i64 x3,.int .i64 x4,.int .i64 x5] 31,.cl c3 [.int .i64 x6,.int .i64 x7,.int .i64 x8] 31,.cl c4 [.int .i64 x9,.int .i64 x10,.int .i64 x11] 31] [] (.take 0 (.take 1 (.take 3 (.take 4 (.take 6 (.take 7 (.take 10 (.take 11 (.take 13 (.take 14 (.take 16 (.take 17 (.take 20 (.take 21 (.take 23 (.take 24 (.take 26 (.take 27 (.take 30 (.take 31 (.take 33 (.take 34 (.take 36 (.take 37 (.all [(2,.all [(5,.all [(8,.all [(9,.all [(12,.all [(15,.all [(18,.all [(19,.all [(22,.all [(25,.all [(28,.all [(29,.all [(32,.all [(35,.all [(38,.all [(39,.take 40 (.all [(41,.all [(42,.done)])])),(41,.all [(39,.take 40 (.all [(42,.done)]))])]),(41,.all [(38,.all [(39,.take 40 (.all [(42,.done)]))])])]),(41,.all [(35,.all [(38,.all [(39,.take 40 (.all [(42,.done)]))])])])]),(41,.all [(32,.all [(35,.all [(38,.all [(39,.take 40 (.all [(42,.done)]))])])])])]),(41,.all [(29,.all [(32,.all [(35,.all [(38,.all [(39,.take 40 (.all [(42,.done)]))])])])])])]),(41,.all [(28,.all [(29,.all [(32,.all [(35,.all [(38,.all [(39,.take 40 (.all [(42,.done)]))])])])])])])]),(41,.all [(25,.all [(28,.all [(29,.all [(32,.all [(35,.all [(38,.all [(39,.take 40 (.all [(42,.done)]))])])])])])])])]),(41,.all [(22,.all [(25,.all [(28,.all [(29,.all [(32,.all [(35,.all [(38,.all [(39,.take 40 (.all [(42,.done)]))])])])])])])])])]),(41,.all [(19,.all [(22,.all [(25,.all [(28,.all [(29,.all [(32,.all [(35,.all [(38,.all [(39,.take 40 (.all [(42,.done)]))])])])])])])])])])]),(41,.all [(18,.all [(19,.all [(22,.all [(25,.all [(28,.all [(29,.all [(32,.all [(35,.all [(38,.all [(39,.take 40 (.all [(42,.done)]))])])])])])])])])])])]),(41,.all [(15,.all [(18,.all [(19,.all [(22,.all [(25,.all [(28,.all [(29,.all [(32,.all [(35,.all [(38,.all [(39,.take 40 (.all [(42,.done)]))])])])])])])])])])])])]),(41,.all [(12,.all [(15,.all [(18,.all [(19,.all [(22,.all [(25,.all [(28,.all [(29,.all [(32,.all [(35,.all [(38,.all [(39,.take 40 (.all [(42,.done)]))])])])])])])])])])])])])]),(41,.all [(9,.all [(12,.all [(15,.all [(18,.all [(19,.all [(22,.all [(25,.all [(28,.all [(29,.all [(32,.all [(35,.all [(38,.all [(39,.take 40 (.all [(42,.done)]))])])])])])])])])])])])])])]),(41,.all [(8,.all [(9,.all [(12,.all [(15,.all [(18,.all [(19,.all [(22,.all [(25,.all [(28,.all [(29,.all [(32,.all [(35,.all [(38,.all [(39,.take 40 (.all [(42,.done)]))])])])])])])])])])])])])])])]),(41,.all [(5,.all [(8,.all [(9,.all [(12,.all [(15,.all [(18,.all [(19,.all [(22,.all [(25,.all [(28,.all [(29,.all [(32,.all [(35,.all [(38,.all [(39,.take 40 (.all [(42,.done)]))])])])])])])])])])])])])])])])]),(41,.all [(2,.all [(5,.all [(8,.all [(9,.all [(12,.all [(15,.all [(18,.all [(19,.all [(22,.all [(25,.all [(28,.all [(29,.all [(32,.all [(35,.all [(38,.all [(39,.take 40 (.all [(42,.done)]))])])])])])])])])])])])])])])])])]))))))))))))))))))))))))) ?_
  iterate 24 refine TT.sa ?_
  refine TT.lem (.take 40 (.all [(42,.done)])) (fun e' As'=>∃ b,e'=[(23,.pointer (some ⟨b,0,none⟩)),(137,.int .i64 (det3 ⟨x3 - p0,x4 - p1,x5 - p2⟩ ⟨x6 - p0,x7 - p1,x8 - p2⟩ ⟨x9 - p0,x10 - p1,x11 - p2⟩)),(147,.int .i64 (det3 ⟨p0 - x0,p1 - x1,p2 - x2⟩ ⟨x6 - x0,x7 - x1,x8 - x2⟩ ⟨x9 - x0,x10 - x1,x11 - x2⟩)),(157,.int .i64 (det3 ⟨x3 - x0,x4 - x1,x5 - x2⟩ ⟨p0 - x0,p1 - x1,p2 - x2⟩ ⟨x9 - x0,x10 - x1,x11 - x2⟩)),(167,.int .i64 (det3 ⟨x3 - x0,x4 - x1,x5 - x2⟩ ⟨x6 - x0,x7 - x1,x8 - x2⟩ ⟨p0 - x0,p1 - x1,p2 - x2⟩)),(7,v7),(16,.int .i64 V),(17,.pointer (some ⟨b17,0,none⟩))]∧As'=.cl b [.int .i64 0,.int .i64 0,.int .i64 0,.int .i64 0] 60::.cl b17 [.int .i64 p0,.int .i64 p1,.int .i64 p2] 31::.cl c1 [.int .i64 x0,.int .i64 x1,.int .i64 x2] 31::.cl c2 [.int .i64 x3,.int .i64 x4,.int .i64 x5] 31::.cl c3 [.int .i64 x6,.int .i64 x7,.int .i64 x8] 31::.cl c4 [.int .i64 x9,.int .i64 x10,.int .i64 x11] 31::As) ?_ fun L16=>?_
  · rintro _ _ ⟨b,rfl,rfl⟩
    (repeat' first|(refine Ka ?_;first|refine Kb ?_|(refine Kc ?_;intro _))|refine Kd ?_|refine Ke ?_|refine Kf ?_|refine Kg rfl ?_|(refine Ki ?_;refine Kj ?_)|exact Kk|refine Kl ?_ ?_|(refine Km ?_;first|refine Kn ?_|(refine Ko ?_;intro _))|(refine Kp ?_;first|refine Kq ?_|refine Kr ?_)|refine Kh ?_)
    exact Post.weak2 (by (exact Ents.au)) (by (exact Sub.au)) (hQ b)
  refine TT.lem (.all [(39,.take 40 (.all [(42,.done)]))]) (fun e' As'=>∃ b,e'=[(23,.pointer (some ⟨b,0,none⟩)),(137,.int .i64 (det3 ⟨x3 - p0,x4 - p1,x5 - p2⟩ ⟨x6 - p0,x7 - p1,x8 - p2⟩ ⟨x9 - p0,x10 - p1,x11 - p2⟩)),(147,.int .i64 (det3 ⟨p0 - x0,p1 - x1,p2 - x2⟩ ⟨x6 - x0,x7 - x1,x8 - x2⟩ ⟨x9 - x0,x10 - x1,x11 - x2⟩)),(157,.int .i64 (det3 ⟨x3 - x0,x4 - x1,x5 - x2⟩ ⟨p0 - x0,p1 - x1,p2 - x2⟩ ⟨x9 - x0,x10 - x1,x11 - x2⟩)),(160,.agg #[.int .i64 (x3 - x0),.int .i64 (x4 - x1),.int .i64 (x5 - x2)]),(163,.agg #[.int .i64 (x6 - x0),.int .i64 (x7 - x1),.int .i64 (x8 - x2)]),(166,.agg #[.int .i64 (p0 - x0),.int .i64 (p1 - x1),.int .i64 (p2 - x2)]),(7,v7),(16,.int .i64 V),(17,.pointer (some ⟨b17,0,none⟩))]∧As'=.cl b [.int .i64 0,.int .i64 0,.int .i64 0,.int .i64 0] 60::.cl b17 [.int .i64 p0,.int .i64 p1,.int .i64 p2] 31::.cl c1 [.int .i64 x0,.int .i64 x1,.int .i64 x2] 31::.cl c2 [.int .i64 x3,.int .i64 x4,.int .i64 x5] 31::.cl c3 [.int .i64 x6,.int .i64 x7,.int .i64 x8] 31::.cl c4 [.int .i64 x9,.int .i64 x10,.int .i64 x11] 31::As) ?_ fun L15=>?_
  · rintro _ _ ⟨b,rfl,rfl⟩
    refine TT.all (TTs.cons ?_ TTs.nil)
    refine T1.callv rfl rfl rfl rfl rfl (k4 _) ?_
    rintro _ _ ⟨rfl,rfl⟩
    refine TC.goa ?_
    exact TT.weak (by (exact Ents.au)) (by (exact Sub.au)) (L16 _ _ ⟨b,rfl,rfl⟩)
  refine TT.lem (.all [(38,.all [(39,.take 40 (.all [(42,.done)]))])]) (fun e' As'=>∃ b,e'=[(23,.pointer (some ⟨b,0,none⟩)),(137,.int .i64 (det3 ⟨x3 - p0,x4 - p1,x5 - p2⟩ ⟨x6 - p0,x7 - p1,x8 - p2⟩ ⟨x9 - p0,x10 - p1,x11 - p2⟩)),(147,.int .i64 (det3 ⟨p0 - x0,p1 - x1,p2 - x2⟩ ⟨x6 - x0,x7 - x1,x8 - x2⟩ ⟨x9 - x0,x10 - x1,x11 - x2⟩)),(157,.int .i64 (det3 ⟨x3 - x0,x4 - x1,x5 - x2⟩ ⟨p0 - x0,p1 - x1,p2 - x2⟩ ⟨x9 - x0,x10 - x1,x11 - x2⟩)),(160,.agg #[.int .i64 (x3 - x0),.int .i64 (x4 - x1),.int .i64 (x5 - x2)]),(163,.agg #[.int .i64 (x6 - x0),.int .i64 (x7 - x1),.int .i64 (x8 - x2)]),(164,.agg #[.int .i64 p0,.int .i64 p1,.int .i64 p2]),(165,.agg #[.int .i64 x0,.int .i64 x1,.int .i64 x2]),(7,v7),(16,.int .i64 V),(17,.pointer (some ⟨b17,0,none⟩))]∧As'=.cl b [.int .i64 0,.int .i64 0,.int .i64 0,.int .i64 0] 60::.cl b17 [.int .i64 p0,.int .i64 p1,.int .i64 p2] 31::.cl c1 [.int .i64 x0,.int .i64 x1,.int .i64 x2] 31::.cl c2 [.int .i64 x3,.int .i64 x4,.int .i64 x5] 31::.cl c3 [.int .i64 x6,.int .i64 x7,.int .i64 x8] 31::.cl c4 [.int .i64 x9,.int .i64 x10,.int .i64 x11] 31::As) ?_ fun L14=>?_
  · rintro _ _ ⟨b,rfl,rfl⟩
    refine TT.all (TTs.cons ?_ TTs.nil)
    refine T1.callv rfl rfl rfl rfl rfl (m4 _) ?_
    rintro _ _ ⟨rfl,rfl⟩
    refine TC.goa ?_
    exact TT.weak (by (exact Ents.au)) (by (exact Sub.au)) (L15 _ _ ⟨b,rfl,rfl⟩)
  refine TT.lem (.all [(35,.all [(38,.all [(39,.take 40 (.all [(42,.done)]))])])]) (fun e' As'=>∃ b,e'=[(23,.pointer (some ⟨b,0,none⟩)),(137,.int .i64 (det3 ⟨x3 - p0,x4 - p1,x5 - p2⟩ ⟨x6 - p0,x7 - p1,x8 - p2⟩ ⟨x9 - p0,x10 - p1,x11 - p2⟩)),(147,.int .i64 (det3 ⟨p0 - x0,p1 - x1,p2 - x2⟩ ⟨x6 - x0,x7 - x1,x8 - x2⟩ ⟨x9 - x0,x10 - x1,x11 - x2⟩)),(157,.int .i64 (det3 ⟨x3 - x0,x4 - x1,x5 - x2⟩ ⟨p0 - x0,p1 - x1,p2 - x2⟩ ⟨x9 - x0,x10 - x1,x11 - x2⟩)),(160,.agg #[.int .i64 (x3 - x0),.int .i64 (x4 - x1),.int .i64 (x5 - x2)]),(161,.agg #[.int .i64 x6,.int .i64 x7,.int .i64 x8]),(162,.agg #[.int .i64 x0,.int .i64 x1,.int .i64 x2]),(164,.agg #[.int .i64 p0,.int .i64 p1,.int .i64 p2]),(165,.agg #[.int .i64 x0,.int .i64 x1,.int .i64 x2]),(7,v7),(16,.int .i64 V),(17,.pointer (some ⟨b17,0,none⟩))]∧As'=.cl b [.int .i64 0,.int .i64 0,.int .i64 0,.int .i64 0] 60::.cl b17 [.int .i64 p0,.int .i64 p1,.int .i64 p2] 31::.cl c1 [.int .i64 x0,.int .i64 x1,.int .i64 x2] 31::.cl c2 [.int .i64 x3,.int .i64 x4,.int .i64 x5] 31::.cl c3 [.int .i64 x6,.int .i64 x7,.int .i64 x8] 31::.cl c4 [.int .i64 x9,.int .i64 x10,.int .i64 x11] 31::As) ?_ fun L13=>?_
  · rintro _ _ ⟨b,rfl,rfl⟩
    refine TT.all (TTs.cons ?_ TTs.nil)
    refine T1.callv rfl rfl rfl rfl rfl (m5 _) ?_
    rintro _ _ ⟨rfl,rfl⟩
    refine TC.goa ?_
    exact TT.weak (by (exact Ents.au)) (by (exact Sub.au)) (L14 _ _ ⟨b,rfl,rfl⟩)
  refine TT.lem (.all [(32,.all [(35,.all [(38,.all [(39,.take 40 (.all [(42,.done)]))])])])]) (fun e' As'=>∃ b,e'=[(23,.pointer (some ⟨b,0,none⟩)),(137,.int .i64 (det3 ⟨x3 - p0,x4 - p1,x5 - p2⟩ ⟨x6 - p0,x7 - p1,x8 - p2⟩ ⟨x9 - p0,x10 - p1,x11 - p2⟩)),(147,.int .i64 (det3 ⟨p0 - x0,p1 - x1,p2 - x2⟩ ⟨x6 - x0,x7 - x1,x8 - x2⟩ ⟨x9 - x0,x10 - x1,x11 - x2⟩)),(157,.int .i64 (det3 ⟨x3 - x0,x4 - x1,x5 - x2⟩ ⟨p0 - x0,p1 - x1,p2 - x2⟩ ⟨x9 - x0,x10 - x1,x11 - x2⟩)),(158,.agg #[.int .i64 x3,.int .i64 x4,.int .i64 x5]),(159,.agg #[.int .i64 x0,.int .i64 x1,.int .i64 x2]),(161,.agg #[.int .i64 x6,.int .i64 x7,.int .i64 x8]),(162,.agg #[.int .i64 x0,.int .i64 x1,.int .i64 x2]),(164,.agg #[.int .i64 p0,.int .i64 p1,.int .i64 p2]),(165,.agg #[.int .i64 x0,.int .i64 x1,.int .i64 x2]),(7,v7),(16,.int .i64 V),(17,.pointer (some ⟨b17,0,none⟩))]∧As'=.cl b [.int .i64 0,.int .i64 0,.int .i64 0,.int .i64 0] 60::.cl b17 [.int .i64 p0,.int .i64 p1,.int .i64 p2] 31::.cl c1 [.int .i64 x0,.int .i64 x1,.int .i64 x2] 31::.cl c2 [.int .i64 x3,.int .i64 x4,.int .i64 x5] 31::.cl c3 [.int .i64 x6,.int .i64 x7,.int .i64 x8] 31::.cl c4 [.int .i64 x9,.int .i64 x10,.int .i64 x11] 31::As) ?_ fun L12=>?_
  · rintro _ _ ⟨b,rfl,rfl⟩
    refine TT.all (TTs.cons ?_ TTs.nil)
    refine T1.callv rfl rfl rfl rfl rfl (m7 _) ?_
    rintro _ _ ⟨rfl,rfl⟩
    refine TC.goa ?_
    exact TT.weak (by (exact Ents.au)) (by (exact Sub.au)) (L13 _ _ ⟨b,rfl,rfl⟩)
  refine TT.lem (.all [(29,.all [(32,.all [(35,.all [(38,.all [(39,.take 40 (.all [(42,.done)]))])])])])]) (fun e' As'=>∃ b,e'=[(23,.pointer (some ⟨b,0,none⟩)),(137,.int .i64 (det3 ⟨x3 - p0,x4 - p1,x5 - p2⟩ ⟨x6 - p0,x7 - p1,x8 - p2⟩ ⟨x9 - p0,x10 - p1,x11 - p2⟩)),(147,.int .i64 (det3 ⟨p0 - x0,p1 - x1,p2 - x2⟩ ⟨x6 - x0,x7 - x1,x8 - x2⟩ ⟨x9 - x0,x10 - x1,x11 - x2⟩)),(150,.agg #[.int .i64 (x3 - x0),.int .i64 (x4 - x1),.int .i64 (x5 - x2)]),(153,.agg #[.int .i64 (p0 - x0),.int .i64 (p1 - x1),.int .i64 (p2 - x2)]),(156,.agg #[.int .i64 (x9 - x0),.int .i64 (x10 - x1),.int .i64 (x11 - x2)]),(158,.agg #[.int .i64 x3,.int .i64 x4,.int .i64 x5]),(159,.agg #[.int .i64 x0,.int .i64 x1,.int .i64 x2]),(161,.agg #[.int .i64 x6,.int .i64 x7,.int .i64 x8]),(162,.agg #[.int .i64 x0,.int .i64 x1,.int .i64 x2]),(164,.agg #[.int .i64 p0,.int .i64 p1,.int .i64 p2]),(165,.agg #[.int .i64 x0,.int .i64 x1,.int .i64 x2]),(7,v7),(16,.int .i64 V),(17,.pointer (some ⟨b17,0,none⟩))]∧As'=.cl b [.int .i64 0,.int .i64 0,.int .i64 0,.int .i64 0] 60::.cl b17 [.int .i64 p0,.int .i64 p1,.int .i64 p2] 31::.cl c1 [.int .i64 x0,.int .i64 x1,.int .i64 x2] 31::.cl c2 [.int .i64 x3,.int .i64 x4,.int .i64 x5] 31::.cl c3 [.int .i64 x6,.int .i64 x7,.int .i64 x8] 31::.cl c4 [.int .i64 x9,.int .i64 x10,.int .i64 x11] 31::As) ?_ fun L11=>?_
  · rintro _ _ ⟨b,rfl,rfl⟩
    refine TT.all (TTs.cons ?_ TTs.nil)
    refine T1.callv rfl rfl rfl rfl rfl (k3 _) ?_
    rintro _ _ ⟨rfl,rfl⟩
    refine TC.goa ?_
    exact TT.weak (by (exact Ents.au)) (by (exact Sub.au)) (L12 _ _ ⟨b,rfl,rfl⟩)
  refine TT.lem (.all [(28,.all [(29,.all [(32,.all [(35,.all [(38,.all [(39,.take 40 (.all [(42,.done)]))])])])])])]) (fun e' As'=>∃ b,e'=[(23,.pointer (some ⟨b,0,none⟩)),(137,.int .i64 (det3 ⟨x3 - p0,x4 - p1,x5 - p2⟩ ⟨x6 - p0,x7 - p1,x8 - p2⟩ ⟨x9 - p0,x10 - p1,x11 - p2⟩)),(147,.int .i64 (det3 ⟨p0 - x0,p1 - x1,p2 - x2⟩ ⟨x6 - x0,x7 - x1,x8 - x2⟩ ⟨x9 - x0,x10 - x1,x11 - x2⟩)),(150,.agg #[.int .i64 (x3 - x0),.int .i64 (x4 - x1),.int .i64 (x5 - x2)]),(153,.agg #[.int .i64 (p0 - x0),.int .i64 (p1 - x1),.int .i64 (p2 - x2)]),(154,.agg #[.int .i64 x9,.int .i64 x10,.int .i64 x11]),(155,.agg #[.int .i64 x0,.int .i64 x1,.int .i64 x2]),(158,.agg #[.int .i64 x3,.int .i64 x4,.int .i64 x5]),(159,.agg #[.int .i64 x0,.int .i64 x1,.int .i64 x2]),(161,.agg #[.int .i64 x6,.int .i64 x7,.int .i64 x8]),(162,.agg #[.int .i64 x0,.int .i64 x1,.int .i64 x2]),(164,.agg #[.int .i64 p0,.int .i64 p1,.int .i64 p2]),(165,.agg #[.int .i64 x0,.int .i64 x1,.int .i64 x2]),(7,v7),(16,.int .i64 V),(17,.pointer (some ⟨b17,0,none⟩))]∧As'=.cl b [.int .i64 0,.int .i64 0,.int .i64 0,.int .i64 0] 60::.cl b17 [.int .i64 p0,.int .i64 p1,.int .i64 p2] 31::.cl c1 [.int .i64 x0,.int .i64 x1,.int .i64 x2] 31::.cl c2 [.int .i64 x3,.int .i64 x4,.int .i64 x5] 31::.cl c3 [.int .i64 x6,.int .i64 x7,.int .i64 x8] 31::.cl c4 [.int .i64 x9,.int .i64 x10,.int .i64 x11] 31::As) ?_ fun L10=>?_
  · rintro _ _ ⟨b,rfl,rfl⟩
    refine TT.all (TTs.cons ?_ TTs.nil)
    refine T1.callv rfl rfl rfl rfl rfl (m6 _) ?_
    rintro _ _ ⟨rfl,rfl⟩
    refine TC.goa ?_
    exact TT.weak (by (exact Ents.au)) (by (exact Sub.au)) (L11 _ _ ⟨b,rfl,rfl⟩)
  refine TT.lem (.all [(25,.all [(28,.all [(29,.all [(32,.all [(35,.all [(38,.all [(39,.take 40 (.all [(42,.done)]))])])])])])])]) (fun e' As'=>∃ b,e'=[(23,.pointer (some ⟨b,0,none⟩)),(137,.int .i64 (det3 ⟨x3 - p0,x4 - p1,x5 - p2⟩ ⟨x6 - p0,x7 - p1,x8 - p2⟩ ⟨x9 - p0,x10 - p1,x11 - p2⟩)),(147,.int .i64 (det3 ⟨p0 - x0,p1 - x1,p2 - x2⟩ ⟨x6 - x0,x7 - x1,x8 - x2⟩ ⟨x9 - x0,x10 - x1,x11 - x2⟩)),(150,.agg #[.int .i64 (x3 - x0),.int .i64 (x4 - x1),.int .i64 (x5 - x2)]),(151,.agg #[.int .i64 p0,.int .i64 p1,.int .i64 p2]),(152,.agg #[.int .i64 x0,.int .i64 x1,.int .i64 x2]),(154,.agg #[.int .i64 x9,.int .i64 x10,.int .i64 x11]),(155,.agg #[.int .i64 x0,.int .i64 x1,.int .i64 x2]),(158,.agg #[.int .i64 x3,.int .i64 x4,.int .i64 x5]),(159,.agg #[.int .i64 x0,.int .i64 x1,.int .i64 x2]),(161,.agg #[.int .i64 x6,.int .i64 x7,.int .i64 x8]),(162,.agg #[.int .i64 x0,.int .i64 x1,.int .i64 x2]),(164,.agg #[.int .i64 p0,.int .i64 p1,.int .i64 p2]),(165,.agg #[.int .i64 x0,.int .i64 x1,.int .i64 x2]),(7,v7),(16,.int .i64 V),(17,.pointer (some ⟨b17,0,none⟩))]∧As'=.cl b [.int .i64 0,.int .i64 0,.int .i64 0,.int .i64 0] 60::.cl b17 [.int .i64 p0,.int .i64 p1,.int .i64 p2] 31::.cl c1 [.int .i64 x0,.int .i64 x1,.int .i64 x2] 31::.cl c2 [.int .i64 x3,.int .i64 x4,.int .i64 x5] 31::.cl c3 [.int .i64 x6,.int .i64 x7,.int .i64 x8] 31::.cl c4 [.int .i64 x9,.int .i64 x10,.int .i64 x11] 31::As) ?_ fun L9=>?_
  · rintro _ _ ⟨b,rfl,rfl⟩
    refine TT.all (TTs.cons ?_ TTs.nil)
    refine T1.callv rfl rfl rfl rfl rfl (m4 _) ?_
    rintro _ _ ⟨rfl,rfl⟩
    refine TC.goa ?_
    exact TT.weak (by (exact Ents.au)) (by (exact Sub.au)) (L10 _ _ ⟨b,rfl,rfl⟩)
  refine TT.lem (.all [(22,.all [(25,.all [(28,.all [(29,.all [(32,.all [(35,.all [(38,.all [(39,.take 40 (.all [(42,.done)]))])])])])])])])]) (fun e' As'=>∃ b,e'=[(23,.pointer (some ⟨b,0,none⟩)),(137,.int .i64 (det3 ⟨x3 - p0,x4 - p1,x5 - p2⟩ ⟨x6 - p0,x7 - p1,x8 - p2⟩ ⟨x9 - p0,x10 - p1,x11 - p2⟩)),(147,.int .i64 (det3 ⟨p0 - x0,p1 - x1,p2 - x2⟩ ⟨x6 - x0,x7 - x1,x8 - x2⟩ ⟨x9 - x0,x10 - x1,x11 - x2⟩)),(148,.agg #[.int .i64 x3,.int .i64 x4,.int .i64 x5]),(149,.agg #[.int .i64 x0,.int .i64 x1,.int .i64 x2]),(151,.agg #[.int .i64 p0,.int .i64 p1,.int .i64 p2]),(152,.agg #[.int .i64 x0,.int .i64 x1,.int .i64 x2]),(154,.agg #[.int .i64 x9,.int .i64 x10,.int .i64 x11]),(155,.agg #[.int .i64 x0,.int .i64 x1,.int .i64 x2]),(158,.agg #[.int .i64 x3,.int .i64 x4,.int .i64 x5]),(159,.agg #[.int .i64 x0,.int .i64 x1,.int .i64 x2]),(161,.agg #[.int .i64 x6,.int .i64 x7,.int .i64 x8]),(162,.agg #[.int .i64 x0,.int .i64 x1,.int .i64 x2]),(164,.agg #[.int .i64 p0,.int .i64 p1,.int .i64 p2]),(165,.agg #[.int .i64 x0,.int .i64 x1,.int .i64 x2]),(7,v7),(16,.int .i64 V),(17,.pointer (some ⟨b17,0,none⟩))]∧As'=.cl b [.int .i64 0,.int .i64 0,.int .i64 0,.int .i64 0] 60::.cl b17 [.int .i64 p0,.int .i64 p1,.int .i64 p2] 31::.cl c1 [.int .i64 x0,.int .i64 x1,.int .i64 x2] 31::.cl c2 [.int .i64 x3,.int .i64 x4,.int .i64 x5] 31::.cl c3 [.int .i64 x6,.int .i64 x7,.int .i64 x8] 31::.cl c4 [.int .i64 x9,.int .i64 x10,.int .i64 x11] 31::As) ?_ fun L8=>?_
  · rintro _ _ ⟨b,rfl,rfl⟩
    refine TT.all (TTs.cons ?_ TTs.nil)
    refine T1.callv rfl rfl rfl rfl rfl (m7 _) ?_
    rintro _ _ ⟨rfl,rfl⟩
    refine TC.goa ?_
    exact TT.weak (by (exact Ents.au)) (by (exact Sub.au)) (L9 _ _ ⟨b,rfl,rfl⟩)
  refine TT.lem (.all [(19,.all [(22,.all [(25,.all [(28,.all [(29,.all [(32,.all [(35,.all [(38,.all [(39,.take 40 (.all [(42,.done)]))])])])])])])])])]) (fun e' As'=>∃ b,e'=[(23,.pointer (some ⟨b,0,none⟩)),(137,.int .i64 (det3 ⟨x3 - p0,x4 - p1,x5 - p2⟩ ⟨x6 - p0,x7 - p1,x8 - p2⟩ ⟨x9 - p0,x10 - p1,x11 - p2⟩)),(140,.agg #[.int .i64 (p0 - x0),.int .i64 (p1 - x1),.int .i64 (p2 - x2)]),(143,.agg #[.int .i64 (x6 - x0),.int .i64 (x7 - x1),.int .i64 (x8 - x2)]),(146,.agg #[.int .i64 (x9 - x0),.int .i64 (x10 - x1),.int .i64 (x11 - x2)]),(148,.agg #[.int .i64 x3,.int .i64 x4,.int .i64 x5]),(149,.agg #[.int .i64 x0,.int .i64 x1,.int .i64 x2]),(151,.agg #[.int .i64 p0,.int .i64 p1,.int .i64 p2]),(152,.agg #[.int .i64 x0,.int .i64 x1,.int .i64 x2]),(154,.agg #[.int .i64 x9,.int .i64 x10,.int .i64 x11]),(155,.agg #[.int .i64 x0,.int .i64 x1,.int .i64 x2]),(158,.agg #[.int .i64 x3,.int .i64 x4,.int .i64 x5]),(159,.agg #[.int .i64 x0,.int .i64 x1,.int .i64 x2]),(161,.agg #[.int .i64 x6,.int .i64 x7,.int .i64 x8]),(162,.agg #[.int .i64 x0,.int .i64 x1,.int .i64 x2]),(164,.agg #[.int .i64 p0,.int .i64 p1,.int .i64 p2]),(165,.agg #[.int .i64 x0,.int .i64 x1,.int .i64 x2]),(7,v7),(16,.int .i64 V),(17,.pointer (some ⟨b17,0,none⟩))]∧As'=.cl b [.int .i64 0,.int .i64 0,.int .i64 0,.int .i64 0] 60::.cl b17 [.int .i64 p0,.int .i64 p1,.int .i64 p2] 31::.cl c1 [.int .i64 x0,.int .i64 x1,.int .i64 x2] 31::.cl c2 [.int .i64 x3,.int .i64 x4,.int .i64 x5] 31::.cl c3 [.int .i64 x6,.int .i64 x7,.int .i64 x8] 31::.cl c4 [.int .i64 x9,.int .i64 x10,.int .i64 x11] 31::As) ?_ fun L7=>?_
  · rintro _ _ ⟨b,rfl,rfl⟩
    refine TT.all (TTs.cons ?_ TTs.nil)
    refine T1.callv rfl rfl rfl rfl rfl (k2 _) ?_
    rintro _ _ ⟨rfl,rfl⟩
    refine TC.goa ?_
    exact TT.weak (by (exact Ents.au)) (by (exact Sub.au)) (L8 _ _ ⟨b,rfl,rfl⟩)
  refine TT.lem (.all [(18,.all [(19,.all [(22,.all [(25,.all [(28,.all [(29,.all [(32,.all [(35,.all [(38,.all [(39,.take 40 (.all [(42,.done)]))])])])])])])])])])]) (fun e' As'=>∃ b,e'=[(23,.pointer (some ⟨b,0,none⟩)),(137,.int .i64 (det3 ⟨x3 - p0,x4 - p1,x5 - p2⟩ ⟨x6 - p0,x7 - p1,x8 - p2⟩ ⟨x9 - p0,x10 - p1,x11 - p2⟩)),(140,.agg #[.int .i64 (p0 - x0),.int .i64 (p1 - x1),.int .i64 (p2 - x2)]),(143,.agg #[.int .i64 (x6 - x0),.int .i64 (x7 - x1),.int .i64 (x8 - x2)]),(144,.agg #[.int .i64 x9,.int .i64 x10,.int .i64 x11]),(145,.agg #[.int .i64 x0,.int .i64 x1,.int .i64 x2]),(148,.agg #[.int .i64 x3,.int .i64 x4,.int .i64 x5]),(149,.agg #[.int .i64 x0,.int .i64 x1,.int .i64 x2]),(151,.agg #[.int .i64 p0,.int .i64 p1,.int .i64 p2]),(152,.agg #[.int .i64 x0,.int .i64 x1,.int .i64 x2]),(154,.agg #[.int .i64 x9,.int .i64 x10,.int .i64 x11]),(155,.agg #[.int .i64 x0,.int .i64 x1,.int .i64 x2]),(158,.agg #[.int .i64 x3,.int .i64 x4,.int .i64 x5]),(159,.agg #[.int .i64 x0,.int .i64 x1,.int .i64 x2]),(161,.agg #[.int .i64 x6,.int .i64 x7,.int .i64 x8]),(162,.agg #[.int .i64 x0,.int .i64 x1,.int .i64 x2]),(164,.agg #[.int .i64 p0,.int .i64 p1,.int .i64 p2]),(165,.agg #[.int .i64 x0,.int .i64 x1,.int .i64 x2]),(7,v7),(16,.int .i64 V),(17,.pointer (some ⟨b17,0,none⟩))]∧As'=.cl b [.int .i64 0,.int .i64 0,.int .i64 0,.int .i64 0] 60::.cl b17 [.int .i64 p0,.int .i64 p1,.int .i64 p2] 31::.cl c1 [.int .i64 x0,.int .i64 x1,.int .i64 x2] 31::.cl c2 [.int .i64 x3,.int .i64 x4,.int .i64 x5] 31::.cl c3 [.int .i64 x6,.int .i64 x7,.int .i64 x8] 31::.cl c4 [.int .i64 x9,.int .i64 x10,.int .i64 x11] 31::As) ?_ fun L6=>?_
  · rintro _ _ ⟨b,rfl,rfl⟩
    refine TT.all (TTs.cons ?_ TTs.nil)
    refine T1.callv rfl rfl rfl rfl rfl (m6 _) ?_
    rintro _ _ ⟨rfl,rfl⟩
    refine TC.goa ?_
    exact TT.weak (by (exact Ents.au)) (by (exact Sub.au)) (L7 _ _ ⟨b,rfl,rfl⟩)
  refine TT.lem (.all [(15,.all [(18,.all [(19,.all [(22,.all [(25,.all [(28,.all [(29,.all [(32,.all [(35,.all [(38,.all [(39,.take 40 (.all [(42,.done)]))])])])])])])])])])])]) (fun e' As'=>∃ b,e'=[(23,.pointer (some ⟨b,0,none⟩)),(137,.int .i64 (det3 ⟨x3 - p0,x4 - p1,x5 - p2⟩ ⟨x6 - p0,x7 - p1,x8 - p2⟩ ⟨x9 - p0,x10 - p1,x11 - p2⟩)),(140,.agg #[.int .i64 (p0 - x0),.int .i64 (p1 - x1),.int .i64 (p2 - x2)]),(141,.agg #[.int .i64 x6,.int .i64 x7,.int .i64 x8]),(142,.agg #[.int .i64 x0,.int .i64 x1,.int .i64 x2]),(144,.agg #[.int .i64 x9,.int .i64 x10,.int .i64 x11]),(145,.agg #[.int .i64 x0,.int .i64 x1,.int .i64 x2]),(148,.agg #[.int .i64 x3,.int .i64 x4,.int .i64 x5]),(149,.agg #[.int .i64 x0,.int .i64 x1,.int .i64 x2]),(151,.agg #[.int .i64 p0,.int .i64 p1,.int .i64 p2]),(152,.agg #[.int .i64 x0,.int .i64 x1,.int .i64 x2]),(154,.agg #[.int .i64 x9,.int .i64 x10,.int .i64 x11]),(155,.agg #[.int .i64 x0,.int .i64 x1,.int .i64 x2]),(158,.agg #[.int .i64 x3,.int .i64 x4,.int .i64 x5]),(159,.agg #[.int .i64 x0,.int .i64 x1,.int .i64 x2]),(161,.agg #[.int .i64 x6,.int .i64 x7,.int .i64 x8]),(162,.agg #[.int .i64 x0,.int .i64 x1,.int .i64 x2]),(164,.agg #[.int .i64 p0,.int .i64 p1,.int .i64 p2]),(165,.agg #[.int .i64 x0,.int .i64 x1,.int .i64 x2]),(7,v7),(16,.int .i64 V),(17,.pointer (some ⟨b17,0,none⟩))]∧As'=.cl b [.int .i64 0,.int .i64 0,.int .i64 0,.int .i64 0] 60::.cl b17 [.int .i64 p0,.int .i64 p1,.int .i64 p2] 31::.cl c1 [.int .i64 x0,.int .i64 x1,.int .i64 x2] 31::.cl c2 [.int .i64 x3,.int .i64 x4,.int .i64 x5] 31::.cl c3 [.int .i64 x6,.int .i64 x7,.int .i64 x8] 31::.cl c4 [.int .i64 x9,.int .i64 x10,.int .i64 x11] 31::As) ?_ fun L5=>?_
  · rintro _ _ ⟨b,rfl,rfl⟩
    refine TT.all (TTs.cons ?_ TTs.nil)
    refine T1.callv rfl rfl rfl rfl rfl (m5 _) ?_
    rintro _ _ ⟨rfl,rfl⟩
    refine TC.goa ?_
    exact TT.weak (by (exact Ents.au)) (by (exact Sub.au)) (L6 _ _ ⟨b,rfl,rfl⟩)
  refine TT.lem (.all [(12,.all [(15,.all [(18,.all [(19,.all [(22,.all [(25,.all [(28,.all [(29,.all [(32,.all [(35,.all [(38,.all [(39,.take 40 (.all [(42,.done)]))])])])])])])])])])])])]) (fun e' As'=>∃ b,e'=[(23,.pointer (some ⟨b,0,none⟩)),(137,.int .i64 (det3 ⟨x3 - p0,x4 - p1,x5 - p2⟩ ⟨x6 - p0,x7 - p1,x8 - p2⟩ ⟨x9 - p0,x10 - p1,x11 - p2⟩)),(138,.agg #[.int .i64 p0,.int .i64 p1,.int .i64 p2]),(139,.agg #[.int .i64 x0,.int .i64 x1,.int .i64 x2]),(141,.agg #[.int .i64 x6,.int .i64 x7,.int .i64 x8]),(142,.agg #[.int .i64 x0,.int .i64 x1,.int .i64 x2]),(144,.agg #[.int .i64 x9,.int .i64 x10,.int .i64 x11]),(145,.agg #[.int .i64 x0,.int .i64 x1,.int .i64 x2]),(148,.agg #[.int .i64 x3,.int .i64 x4,.int .i64 x5]),(149,.agg #[.int .i64 x0,.int .i64 x1,.int .i64 x2]),(151,.agg #[.int .i64 p0,.int .i64 p1,.int .i64 p2]),(152,.agg #[.int .i64 x0,.int .i64 x1,.int .i64 x2]),(154,.agg #[.int .i64 x9,.int .i64 x10,.int .i64 x11]),(155,.agg #[.int .i64 x0,.int .i64 x1,.int .i64 x2]),(158,.agg #[.int .i64 x3,.int .i64 x4,.int .i64 x5]),(159,.agg #[.int .i64 x0,.int .i64 x1,.int .i64 x2]),(161,.agg #[.int .i64 x6,.int .i64 x7,.int .i64 x8]),(162,.agg #[.int .i64 x0,.int .i64 x1,.int .i64 x2]),(164,.agg #[.int .i64 p0,.int .i64 p1,.int .i64 p2]),(165,.agg #[.int .i64 x0,.int .i64 x1,.int .i64 x2]),(7,v7),(16,.int .i64 V),(17,.pointer (some ⟨b17,0,none⟩))]∧As'=.cl b [.int .i64 0,.int .i64 0,.int .i64 0,.int .i64 0] 60::.cl b17 [.int .i64 p0,.int .i64 p1,.int .i64 p2] 31::.cl c1 [.int .i64 x0,.int .i64 x1,.int .i64 x2] 31::.cl c2 [.int .i64 x3,.int .i64 x4,.int .i64 x5] 31::.cl c3 [.int .i64 x6,.int .i64 x7,.int .i64 x8] 31::.cl c4 [.int .i64 x9,.int .i64 x10,.int .i64 x11] 31::As) ?_ fun L4=>?_
  · rintro _ _ ⟨b,rfl,rfl⟩
    refine TT.all (TTs.cons ?_ TTs.nil)
    refine T1.callv rfl rfl rfl rfl rfl (m4 _) ?_
    rintro _ _ ⟨rfl,rfl⟩
    refine TC.goa ?_
    exact TT.weak (by (exact Ents.au)) (by (exact Sub.au)) (L5 _ _ ⟨b,rfl,rfl⟩)
  refine TT.lem (.all [(9,.all [(12,.all [(15,.all [(18,.all [(19,.all [(22,.all [(25,.all [(28,.all [(29,.all [(32,.all [(35,.all [(38,.all [(39,.take 40 (.all [(42,.done)]))])])])])])])])])])])])])]) (fun e' As'=>∃ b,e'=[(23,.pointer (some ⟨b,0,none⟩)),(130,.agg #[.int .i64 (x3 - p0),.int .i64 (x4 - p1),.int .i64 (x5 - p2)]),(133,.agg #[.int .i64 (x6 - p0),.int .i64 (x7 - p1),.int .i64 (x8 - p2)]),(136,.agg #[.int .i64 (x9 - p0),.int .i64 (x10 - p1),.int .i64 (x11 - p2)]),(138,.agg #[.int .i64 p0,.int .i64 p1,.int .i64 p2]),(139,.agg #[.int .i64 x0,.int .i64 x1,.int .i64 x2]),(141,.agg #[.int .i64 x6,.int .i64 x7,.int .i64 x8]),(142,.agg #[.int .i64 x0,.int .i64 x1,.int .i64 x2]),(144,.agg #[.int .i64 x9,.int .i64 x10,.int .i64 x11]),(145,.agg #[.int .i64 x0,.int .i64 x1,.int .i64 x2]),(148,.agg #[.int .i64 x3,.int .i64 x4,.int .i64 x5]),(149,.agg #[.int .i64 x0,.int .i64 x1,.int .i64 x2]),(151,.agg #[.int .i64 p0,.int .i64 p1,.int .i64 p2]),(152,.agg #[.int .i64 x0,.int .i64 x1,.int .i64 x2]),(154,.agg #[.int .i64 x9,.int .i64 x10,.int .i64 x11]),(155,.agg #[.int .i64 x0,.int .i64 x1,.int .i64 x2]),(158,.agg #[.int .i64 x3,.int .i64 x4,.int .i64 x5]),(159,.agg #[.int .i64 x0,.int .i64 x1,.int .i64 x2]),(161,.agg #[.int .i64 x6,.int .i64 x7,.int .i64 x8]),(162,.agg #[.int .i64 x0,.int .i64 x1,.int .i64 x2]),(164,.agg #[.int .i64 p0,.int .i64 p1,.int .i64 p2]),(165,.agg #[.int .i64 x0,.int .i64 x1,.int .i64 x2]),(7,v7),(16,.int .i64 V),(17,.pointer (some ⟨b17,0,none⟩))]∧As'=.cl b [.int .i64 0,.int .i64 0,.int .i64 0,.int .i64 0] 60::.cl b17 [.int .i64 p0,.int .i64 p1,.int .i64 p2] 31::.cl c1 [.int .i64 x0,.int .i64 x1,.int .i64 x2] 31::.cl c2 [.int .i64 x3,.int .i64 x4,.int .i64 x5] 31::.cl c3 [.int .i64 x6,.int .i64 x7,.int .i64 x8] 31::.cl c4 [.int .i64 x9,.int .i64 x10,.int .i64 x11] 31::As) ?_ fun L3=>?_
  · rintro _ _ ⟨b,rfl,rfl⟩
    refine TT.all (TTs.cons ?_ TTs.nil)
    refine T1.callv rfl rfl rfl rfl rfl (k1 _) ?_
    rintro _ _ ⟨rfl,rfl⟩
    refine TC.goa ?_
    exact TT.weak (by (exact Ents.au)) (by (exact Sub.au)) (L4 _ _ ⟨b,rfl,rfl⟩)
  refine TT.lem (.all [(8,.all [(9,.all [(12,.all [(15,.all [(18,.all [(19,.all [(22,.all [(25,.all [(28,.all [(29,.all [(32,.all [(35,.all [(38,.all [(39,.take 40 (.all [(42,.done)]))])])])])])])])])])])])])])]) (fun e' As'=>∃ b,e'=[(23,.pointer (some ⟨b,0,none⟩)),(130,.agg #[.int .i64 (x3 - p0),.int .i64 (x4 - p1),.int .i64 (x5 - p2)]),(133,.agg #[.int .i64 (x6 - p0),.int .i64 (x7 - p1),.int .i64 (x8 - p2)]),(134,.agg #[.int .i64 x9,.int .i64 x10,.int .i64 x11]),(135,.agg #[.int .i64 p0,.int .i64 p1,.int .i64 p2]),(138,.agg #[.int .i64 p0,.int .i64 p1,.int .i64 p2]),(139,.agg #[.int .i64 x0,.int .i64 x1,.int .i64 x2]),(141,.agg #[.int .i64 x6,.int .i64 x7,.int .i64 x8]),(142,.agg #[.int .i64 x0,.int .i64 x1,.int .i64 x2]),(144,.agg #[.int .i64 x9,.int .i64 x10,.int .i64 x11]),(145,.agg #[.int .i64 x0,.int .i64 x1,.int .i64 x2]),(148,.agg #[.int .i64 x3,.int .i64 x4,.int .i64 x5]),(149,.agg #[.int .i64 x0,.int .i64 x1,.int .i64 x2]),(151,.agg #[.int .i64 p0,.int .i64 p1,.int .i64 p2]),(152,.agg #[.int .i64 x0,.int .i64 x1,.int .i64 x2]),(154,.agg #[.int .i64 x9,.int .i64 x10,.int .i64 x11]),(155,.agg #[.int .i64 x0,.int .i64 x1,.int .i64 x2]),(158,.agg #[.int .i64 x3,.int .i64 x4,.int .i64 x5]),(159,.agg #[.int .i64 x0,.int .i64 x1,.int .i64 x2]),(161,.agg #[.int .i64 x6,.int .i64 x7,.int .i64 x8]),(162,.agg #[.int .i64 x0,.int .i64 x1,.int .i64 x2]),(164,.agg #[.int .i64 p0,.int .i64 p1,.int .i64 p2]),(165,.agg #[.int .i64 x0,.int .i64 x1,.int .i64 x2]),(7,v7),(16,.int .i64 V),(17,.pointer (some ⟨b17,0,none⟩))]∧As'=.cl b [.int .i64 0,.int .i64 0,.int .i64 0,.int .i64 0] 60::.cl b17 [.int .i64 p0,.int .i64 p1,.int .i64 p2] 31::.cl c1 [.int .i64 x0,.int .i64 x1,.int .i64 x2] 31::.cl c2 [.int .i64 x3,.int .i64 x4,.int .i64 x5] 31::.cl c3 [.int .i64 x6,.int .i64 x7,.int .i64 x8] 31::.cl c4 [.int .i64 x9,.int .i64 x10,.int .i64 x11] 31::As) ?_ fun L2=>?_
  · rintro _ _ ⟨b,rfl,rfl⟩
    refine TT.all (TTs.cons ?_ TTs.nil)
    refine T1.callv rfl rfl rfl rfl rfl (m3 _) ?_
    rintro _ _ ⟨rfl,rfl⟩
    refine TC.goa ?_
    exact TT.weak (by (exact Ents.au)) (by (exact Sub.au)) (L3 _ _ ⟨b,rfl,rfl⟩)
  refine TT.lem (.all [(5,.all [(8,.all [(9,.all [(12,.all [(15,.all [(18,.all [(19,.all [(22,.all [(25,.all [(28,.all [(29,.all [(32,.all [(35,.all [(38,.all [(39,.take 40 (.all [(42,.done)]))])])])])])])])])])])])])])])]) (fun e' As'=>∃ b,e'=[(23,.pointer (some ⟨b,0,none⟩)),(130,.agg #[.int .i64 (x3 - p0),.int .i64 (x4 - p1),.int .i64 (x5 - p2)]),(131,.agg #[.int .i64 x6,.int .i64 x7,.int .i64 x8]),(132,.agg #[.int .i64 p0,.int .i64 p1,.int .i64 p2]),(134,.agg #[.int .i64 x9,.int .i64 x10,.int .i64 x11]),(135,.agg #[.int .i64 p0,.int .i64 p1,.int .i64 p2]),(138,.agg #[.int .i64 p0,.int .i64 p1,.int .i64 p2]),(139,.agg #[.int .i64 x0,.int .i64 x1,.int .i64 x2]),(141,.agg #[.int .i64 x6,.int .i64 x7,.int .i64 x8]),(142,.agg #[.int .i64 x0,.int .i64 x1,.int .i64 x2]),(144,.agg #[.int .i64 x9,.int .i64 x10,.int .i64 x11]),(145,.agg #[.int .i64 x0,.int .i64 x1,.int .i64 x2]),(148,.agg #[.int .i64 x3,.int .i64 x4,.int .i64 x5]),(149,.agg #[.int .i64 x0,.int .i64 x1,.int .i64 x2]),(151,.agg #[.int .i64 p0,.int .i64 p1,.int .i64 p2]),(152,.agg #[.int .i64 x0,.int .i64 x1,.int .i64 x2]),(154,.agg #[.int .i64 x9,.int .i64 x10,.int .i64 x11]),(155,.agg #[.int .i64 x0,.int .i64 x1,.int .i64 x2]),(158,.agg #[.int .i64 x3,.int .i64 x4,.int .i64 x5]),(159,.agg #[.int .i64 x0,.int .i64 x1,.int .i64 x2]),(161,.agg #[.int .i64 x6,.int .i64 x7,.int .i64 x8]),(162,.agg #[.int .i64 x0,.int .i64 x1,.int .i64 x2]),(164,.agg #[.int .i64 p0,.int .i64 p1,.int .i64 p2]),(165,.agg #[.int .i64 x0,.int .i64 x1,.int .i64 x2]),(7,v7),(16,.int .i64 V),(17,.pointer (some ⟨b17,0,none⟩))]∧As'=.cl b [.int .i64 0,.int .i64 0,.int .i64 0,.int .i64 0] 60::.cl b17 [.int .i64 p0,.int .i64 p1,.int .i64 p2] 31::.cl c1 [.int .i64 x0,.int .i64 x1,.int .i64 x2] 31::.cl c2 [.int .i64 x3,.int .i64 x4,.int .i64 x5] 31::.cl c3 [.int .i64 x6,.int .i64 x7,.int .i64 x8] 31::.cl c4 [.int .i64 x9,.int .i64 x10,.int .i64 x11] 31::As) ?_ fun L1=>?_
  · rintro _ _ ⟨b,rfl,rfl⟩
    refine TT.all (TTs.cons ?_ TTs.nil)
    refine T1.callv rfl rfl rfl rfl rfl (m2 _) ?_
    rintro _ _ ⟨rfl,rfl⟩
    refine TC.goa ?_
    exact TT.weak (by (exact Ents.au)) (by (exact Sub.au)) (L2 _ _ ⟨b,rfl,rfl⟩)
  refine TT.lem (.all [(2,.all [(5,.all [(8,.all [(9,.all [(12,.all [(15,.all [(18,.all [(19,.all [(22,.all [(25,.all [(28,.all [(29,.all [(32,.all [(35,.all [(38,.all [(39,.take 40 (.all [(42,.done)]))])])])])])])])])])])])])])])])]) (fun e' As'=>∃ b,e'=[(23,.pointer (some ⟨b,0,none⟩)),(128,.agg #[.int .i64 x3,.int .i64 x4,.int .i64 x5]),(129,.agg #[.int .i64 p0,.int .i64 p1,.int .i64 p2]),(131,.agg #[.int .i64 x6,.int .i64 x7,.int .i64 x8]),(132,.agg #[.int .i64 p0,.int .i64 p1,.int .i64 p2]),(134,.agg #[.int .i64 x9,.int .i64 x10,.int .i64 x11]),(135,.agg #[.int .i64 p0,.int .i64 p1,.int .i64 p2]),(138,.agg #[.int .i64 p0,.int .i64 p1,.int .i64 p2]),(139,.agg #[.int .i64 x0,.int .i64 x1,.int .i64 x2]),(141,.agg #[.int .i64 x6,.int .i64 x7,.int .i64 x8]),(142,.agg #[.int .i64 x0,.int .i64 x1,.int .i64 x2]),(144,.agg #[.int .i64 x9,.int .i64 x10,.int .i64 x11]),(145,.agg #[.int .i64 x0,.int .i64 x1,.int .i64 x2]),(148,.agg #[.int .i64 x3,.int .i64 x4,.int .i64 x5]),(149,.agg #[.int .i64 x0,.int .i64 x1,.int .i64 x2]),(151,.agg #[.int .i64 p0,.int .i64 p1,.int .i64 p2]),(152,.agg #[.int .i64 x0,.int .i64 x1,.int .i64 x2]),(154,.agg #[.int .i64 x9,.int .i64 x10,.int .i64 x11]),(155,.agg #[.int .i64 x0,.int .i64 x1,.int .i64 x2]),(158,.agg #[.int .i64 x3,.int .i64 x4,.int .i64 x5]),(159,.agg #[.int .i64 x0,.int .i64 x1,.int .i64 x2]),(161,.agg #[.int .i64 x6,.int .i64 x7,.int .i64 x8]),(162,.agg #[.int .i64 x0,.int .i64 x1,.int .i64 x2]),(164,.agg #[.int .i64 p0,.int .i64 p1,.int .i64 p2]),(165,.agg #[.int .i64 x0,.int .i64 x1,.int .i64 x2]),(7,v7),(16,.int .i64 V),(17,.pointer (some ⟨b17,0,none⟩))]∧As'=.cl b [.int .i64 0,.int .i64 0,.int .i64 0,.int .i64 0] 60::.cl b17 [.int .i64 p0,.int .i64 p1,.int .i64 p2] 31::.cl c1 [.int .i64 x0,.int .i64 x1,.int .i64 x2] 31::.cl c2 [.int .i64 x3,.int .i64 x4,.int .i64 x5] 31::.cl c3 [.int .i64 x6,.int .i64 x7,.int .i64 x8] 31::.cl c4 [.int .i64 x9,.int .i64 x10,.int .i64 x11] 31::As) ?_ fun L0=>?_
  · rintro _ _ ⟨b,rfl,rfl⟩
    refine TT.all (TTs.cons ?_ TTs.nil)
    refine T1.callv rfl rfl rfl rfl rfl (m1 _) ?_
    rintro _ _ ⟨rfl,rfl⟩
    refine TC.goa ?_
    exact TT.weak (by (exact Ents.au)) (by (exact Sub.au)) (L1 _ _ ⟨b,rfl,rfl⟩)
  refine TT.all (TTs.cons ?_ (TTs.cons ?_ TTs.nil))
  rotate_left
  · refine T1.na ?_
    intro bn
    refine TC.goa ?_
    exact TT.weak (by (exact Ents.au)) (by (exact Sub.au)) (L0 _ _ ⟨bn,rfl,rfl⟩)
  refine T1.callv rfl rfl rfl rfl rfl (m1 _) ?_
  rintro _ _ ⟨rfl,rfl⟩
  refine TC.goa ?_
  refine TT.all (TTs.cons ?_ (TTs.cons ?_ TTs.nil))
  rotate_left
  · refine T1.na ?_
    intro bn
    refine TC.goa ?_
    exact TT.weak (by (exact Ents.au)) (by (exact Sub.au)) (L1 _ _ ⟨bn,rfl,rfl⟩)
  refine T1.callv rfl rfl rfl rfl rfl (m2 _) ?_
  rintro _ _ ⟨rfl,rfl⟩
  refine TC.goa ?_
  refine TT.all (TTs.cons ?_ (TTs.cons ?_ TTs.nil))
  rotate_left
  · refine T1.na ?_
    intro bn
    refine TC.goa ?_
    exact TT.weak (by (exact Ents.au)) (by (exact Sub.au)) (L2 _ _ ⟨bn,rfl,rfl⟩)
  refine T1.callv rfl rfl rfl rfl rfl (m3 _) ?_
  rintro _ _ ⟨rfl,rfl⟩
  refine TC.goa ?_
  refine TT.all (TTs.cons ?_ (TTs.cons ?_ TTs.nil))
  rotate_left
  · refine T1.na ?_
    intro bn
    refine TC.goa ?_
    exact TT.weak (by (exact Ents.au)) (by (exact Sub.au)) (L3 _ _ ⟨bn,rfl,rfl⟩)
  refine T1.callv rfl rfl rfl rfl rfl (k1 _) ?_
  rintro _ _ ⟨rfl,rfl⟩
  refine TC.goa ?_
  refine TT.all (TTs.cons ?_ (TTs.cons ?_ TTs.nil))
  rotate_left
  · refine T1.na ?_
    intro bn
    refine TC.goa ?_
    exact TT.weak (by (exact Ents.au)) (by (exact Sub.au)) (L4 _ _ ⟨bn,rfl,rfl⟩)
  refine T1.callv rfl rfl rfl rfl rfl (m4 _) ?_
  rintro _ _ ⟨rfl,rfl⟩
  refine TC.goa ?_
  refine TT.all (TTs.cons ?_ (TTs.cons ?_ TTs.nil))
  rotate_left
  · refine T1.na ?_
    intro bn
    refine TC.goa ?_
    exact TT.weak (by (exact Ents.au)) (by (exact Sub.au)) (L5 _ _ ⟨bn,rfl,rfl⟩)
  refine T1.callv rfl rfl rfl rfl rfl (m5 _) ?_
  rintro _ _ ⟨rfl,rfl⟩
  refine TC.goa ?_
  refine TT.all (TTs.cons ?_ (TTs.cons ?_ TTs.nil))
  rotate_left
  · refine T1.na ?_
    intro bn
    refine TC.goa ?_
    exact TT.weak (by (exact Ents.au)) (by (exact Sub.au)) (L6 _ _ ⟨bn,rfl,rfl⟩)
  refine T1.callv rfl rfl rfl rfl rfl (m6 _) ?_
  rintro _ _ ⟨rfl,rfl⟩
  refine TC.goa ?_
  refine TT.all (TTs.cons ?_ (TTs.cons ?_ TTs.nil))
  rotate_left
  · refine T1.na ?_
    intro bn
    refine TC.goa ?_
    exact TT.weak (by (exact Ents.au)) (by (exact Sub.au)) (L7 _ _ ⟨bn,rfl,rfl⟩)
  refine T1.callv rfl rfl rfl rfl rfl (k2 _) ?_
  rintro _ _ ⟨rfl,rfl⟩
  refine TC.goa ?_
  refine TT.all (TTs.cons ?_ (TTs.cons ?_ TTs.nil))
  rotate_left
  · refine T1.na ?_
    intro bn
    refine TC.goa ?_
    exact TT.weak (by (exact Ents.au)) (by (exact Sub.au)) (L8 _ _ ⟨bn,rfl,rfl⟩)
  refine T1.callv rfl rfl rfl rfl rfl (m7 _) ?_
  rintro _ _ ⟨rfl,rfl⟩
  refine TC.goa ?_
  refine TT.all (TTs.cons ?_ (TTs.cons ?_ TTs.nil))
  rotate_left
  · refine T1.na ?_
    intro bn
    refine TC.goa ?_
    exact TT.weak (by (exact Ents.au)) (by (exact Sub.au)) (L9 _ _ ⟨bn,rfl,rfl⟩)
  refine T1.callv rfl rfl rfl rfl rfl (m4 _) ?_
  rintro _ _ ⟨rfl,rfl⟩
  refine TC.goa ?_
  refine TT.all (TTs.cons ?_ (TTs.cons ?_ TTs.nil))
  rotate_left
  · refine T1.na ?_
    intro bn
    refine TC.goa ?_
    exact TT.weak (by (exact Ents.au)) (by (exact Sub.au)) (L10 _ _ ⟨bn,rfl,rfl⟩)
  refine T1.callv rfl rfl rfl rfl rfl (m6 _) ?_
  rintro _ _ ⟨rfl,rfl⟩
  refine TC.goa ?_
  refine TT.all (TTs.cons ?_ (TTs.cons ?_ TTs.nil))
  rotate_left
  · refine T1.na ?_
    intro bn
    refine TC.goa ?_
    exact TT.weak (by (exact Ents.au)) (by (exact Sub.au)) (L11 _ _ ⟨bn,rfl,rfl⟩)
  refine T1.callv rfl rfl rfl rfl rfl (k3 _) ?_
  rintro _ _ ⟨rfl,rfl⟩
  refine TC.goa ?_
  refine TT.all (TTs.cons ?_ (TTs.cons ?_ TTs.nil))
  rotate_left
  · refine T1.na ?_
    intro bn
    refine TC.goa ?_
    exact TT.weak (by (exact Ents.au)) (by (exact Sub.au)) (L12 _ _ ⟨bn,rfl,rfl⟩)
  refine T1.callv rfl rfl rfl rfl rfl (m7 _) ?_
  rintro _ _ ⟨rfl,rfl⟩
  refine TC.goa ?_
  refine TT.all (TTs.cons ?_ (TTs.cons ?_ TTs.nil))
  rotate_left
  · refine T1.na ?_
    intro bn
    refine TC.goa ?_
    exact TT.weak (by (exact Ents.au)) (by (exact Sub.au)) (L13 _ _ ⟨bn,rfl,rfl⟩)
  refine T1.callv rfl rfl rfl rfl rfl (m5 _) ?_
  rintro _ _ ⟨rfl,rfl⟩
  refine TC.goa ?_
  refine TT.all (TTs.cons ?_ (TTs.cons ?_ TTs.nil))
  rotate_left
  · refine T1.na ?_
    intro bn
    refine TC.goa ?_
    exact TT.weak (by (exact Ents.au)) (by (exact Sub.au)) (L14 _ _ ⟨bn,rfl,rfl⟩)
  refine T1.callv rfl rfl rfl rfl rfl (m4 _) ?_
  rintro _ _ ⟨rfl,rfl⟩
  refine TC.goa ?_
  refine TT.all (TTs.cons ?_ (TTs.cons ?_ TTs.nil))
  rotate_left
  · refine T1.na ?_
    intro bn
    refine TC.goa ?_
    exact TT.weak (by (exact Ents.au)) (by (exact Sub.au)) (L15 _ _ ⟨bn,rfl,rfl⟩)
  refine T1.callv rfl rfl rfl rfl rfl (k4 _) ?_
  rintro _ _ ⟨rfl,rfl⟩
  refine TC.goa ?_
  (repeat' first|(refine Ka ?_;first|refine Kb ?_|(refine Kc ?_;intro _))|refine Kd ?_|refine Ke ?_|refine Kf ?_|refine Kg rfl ?_|(refine Ki ?_;refine Kj ?_)|exact Kk|refine Kl ?_ ?_|(refine Km ?_;first|refine Kn ?_|(refine Ko ?_;intro _))|(refine Kp ?_;first|refine Kq ?_|refine Kr ?_)|refine Kh ?_)
  rename_i bz
  exact Post.weak2 (by (exact Ents.au)) (by (exact Sub.au)) (hQ bz)
end Go.Proofs.YtgapnfaakdjpaaaGreatDoor
