/- Walks: inside: the half-planes of a face. -/
import Derived.Test.YtkcnpgmgmgepoaaGreatDoorIx1
namespace Go.Sx
open Go
def IJ (κ i j:Nat):Prop:=(κ=2∧i=0∧j=1)∨(κ=1∧i=2∧j=0)∨(κ=0∧i=1∧j=2)
def uE (σ:Int) (i j:Nat) (a b:V3):Int:=σ * ((b.proj j - a.proj j) * a.proj i - (b.proj i - a.proj i) * a.proj j)
def vE (σ:Int) (i j:Nat) (a b d:V3):Int:=σ * ((b.proj i - a.proj i) * d.proj j - (b.proj j - a.proj j) * d.proj i)
theorem uE_eq {κ i j:Nat} (h:IJ κ i j) (n a b:V3):uE (n.proj κ).sign i j a b=hfU κ n a b:=by
 unfold uE hfU
 congr 1
 rcases h with ⟨rfl,rfl,rfl⟩|⟨rfl,rfl,rfl⟩|⟨rfl,rfl,rfl⟩<;>simp only [V3.proj,V3.cross]<;>grind
theorem vE_eq {κ i j:Nat} (h:IJ κ i j) (n a b d:V3):vE (n.proj κ).sign i j a b d=hfV κ n a b d:=by
 unfold vE hfV
 congr 1
 rcases h with ⟨rfl,rfl,rfl⟩|⟨rfl,rfl,rfl⟩|⟨rfl,rfl,rfl⟩<;>simp only [V3.proj,V3.cross,V3.sub]<;>grind
theorem sgn_in (n:Int):-1≤n.sign∧n.sign≤1:=by
 rcases Int.lt_trichotomy n 0 with h|h|h
 ·rw [Int.sign_eq_neg_one_of_neg h];decide
 ·subst h;decide
 ·rw [Int.sign_eq_one_of_pos h];decide
theorem proj_in {n:Int} {a:V3} (h:a.in n) (k:Nat):-n≤a.proj k∧a.proj k≤n:=by
 obtain ⟨h1,h2,h3,h4,h5,h6⟩:=h
 unfold V3.proj
 split
 ·omega
 ·split<;>omega
theorem sgn_mul {σ x B:Int} (h:-1≤σ∧σ≤1) (hx:-B≤x∧x≤B):-B≤σ * x∧σ * x≤B:=by
 rcases (show σ=-1∨σ=0∨σ=1 by omega) with h|h|h<;>subst h<;>omega
end Go.Sx
namespace Go.Proofs.YtkcnpgmgmgepoaaGreatDoor
open Go Go.Sx
variable {w0:World} {As:List Ent}
abbrev edgC (b11 b13 b14:Nat) (i j:Nat) (a b:V3):List Ent:=[.cl b14 [.int .i64 (b.proj j - a.proj j)] 3,.cl b11 [.int .i64 a.x,.int .i64 a.y,.int .i64 a.z] 169,.cl b13 [.int .i64 (b.proj i - a.proj i)] 3]
abbrev edgF (b3 b6 b7 b8 b11 b13 b14:Nat):Value:=.func (.func 366) #[] #[.pointer (some ⟨b8,0,none⟩),.pointer (some ⟨b14,0,none⟩),.pointer (some ⟨b11,0,none⟩),.pointer (some ⟨b6,0,none⟩),.pointer (some ⟨b13,0,none⟩),.pointer (some ⟨b7,0,none⟩),.pointer (some ⟨b3,0,none⟩)]
theorem half1_ok {b3 b6 b7 b8 b11 b13 b14:Nat} {i j κ:Nat} {σ:Int} {a b d:V3} (hij:IJ κ i j) (hσ:-1≤σ∧σ≤1) (ha:a.in 400000) (hb:b.in 400000) (hd:d.in 3243601) :
  CallsS Tryz.prog w0 366 [.pointer (some ⟨b8,0,none⟩),.pointer (some ⟨b14,0,none⟩),.pointer (some ⟨b11,0,none⟩),.pointer (some ⟨b6,0,none⟩),.pointer (some ⟨b13,0,none⟩),.pointer (some ⟨b7,0,none⟩),.pointer (some ⟨b3,0,none⟩)]
   (.cl b8 [.int .i64 σ] 3::.cl b6 [.int .i64 (i:Int)] 3::.cl b7 [.int .i64 (j:Int)] 3::.cl b3 [.int .i64 d.x,.int .i64 d.y,.int .i64 d.z] 169 ::
        .cl b14 [.int .i64 (b.proj j - a.proj j)] 3::.cl b11 [.int .i64 a.x,.int .i64 a.y,.int .i64 a.z] 169::.cl b13 [.int .i64 (b.proj i - a.proj i)] 3::As)
   fun r Bs=>r=.tuple #[.int .i64 (uE σ i j a b),.int .i64 (vE σ i j a b d)] ∧
        Bs=.cl b8 [.int .i64 σ] 3::.cl b6 [.int .i64 (i:Int)] 3::.cl b7 [.int .i64 (j:Int)] 3::.cl b3 [.int .i64 d.x,.int .i64 d.y,.int .i64 d.z] 169 ::
        .cl b14 [.int .i64 (b.proj j - a.proj j)] 3::.cl b11 [.int .i64 a.x,.int .i64 a.y,.int .i64 a.z] 169::.cl b13 [.int .i64 (b.proj i - a.proj i)] 3::As:=by
 have pai:=proj_in ha i;have paj:=proj_in ha j
 have pbi:=proj_in hb i;have pbj:=proj_in hb j
 have pdi:=proj_in hd i;have pdj:=proj_in hd j
 unfold uE vE
 have m1:=mul_in (m:=800000) (n:=400000) (by decide) (by decide) (show -800000≤b.proj j - a.proj j by omega) (by omega) pai.1 pai.2
 have m2:=mul_in (m:=800000) (n:=400000) (by decide) (by decide) (show -800000≤b.proj i - a.proj i by omega) (by omega) paj.1 paj.2
 have m3:=mul_in (m:=800000) (n:=3243601) (by decide) (by decide) (show -800000≤b.proj i - a.proj i by omega) (by omega) pdj.1 pdj.2
 have m4:=mul_in (m:=800000) (n:=3243601) (by decide) (by decide) (show -800000≤b.proj j - a.proj j by omega) (by omega) pdi.1 pdi.2
 have s1:=sgn_mul (B:=10000000000000) (x:=(b.proj j - a.proj j) * a.proj i - (b.proj i - a.proj i) * a.proj j) hσ (by omega)
 have s2:=sgn_mul (B:=10000000000000) (x:=(b.proj i - a.proj i) * d.proj j - (b.proj j - a.proj j) * d.proj i) hσ (by omega)
 clear pbi pbj ha hb hd hσ
 generalize b.proj j - a.proj j=q at *
 generalize b.proj i - a.proj i=p at *
 have e0:∀ v:V3,v.proj 0=v.x:=fun _=>rfl
 have e1:∀ v:V3,v.proj 1=v.y:=fun _=>rfl
 have e2:∀ v:V3,v.proj 2=v.z:=fun _=>rfl
 rcases hij with ⟨rfl,rfl,rfl⟩|⟨rfl,rfl,rfl⟩|⟨rfl,rfl,rfl⟩
 all_goals
  simp only [e0,e1,e2] at pai paj pdi pdj m1 m2 m3 m4 s1 s2 ⊢
  clear e0 e1 e2
  refine CallsS.of_tri Tryz.func366 rfl Tryz.ntmps366 rfl ?_
  (repeat' first|(refine Ka ?_;first|refine Kb ?_|(refine Kc ?_;intro _))|refine Kd ?_|refine Kh ?_)
  refine Tri.dr (.take 0 (.take 1 (.take 2 (.take 3 (.take 4 (.take 5 (.take 6 (.take 7 (.take 8 (.take 9 (.take 10 (.take 11 (.take 12 (.take 13 (.take 14 (.take 15 (.take 16 (.take 17 (.take 18 (.take 19 (.take 20 (.take 21 (.take 22 (.take 23 (.take 24 (.take 25 (.take 26 (.take 27 (.done))))))))))))))))))))))))))))) ?_
  (repeat' first|(refine Ka ?_;first|refine Kb ?_|(refine Kc ?_;intro _))|refine Kd ?_|(refine Ki ?_;refine Kj ?_)|exact Kk|refine Kl ?_ ?_|(refine Km ?_;first|refine Kn ?_|(refine Ko ?_;intro _))|(refine Kp ?_;first|refine Kq ?_|refine Kr ?_)|refine Kh ?_)
  (refine Post.ra ?_)
  exact ⟨_,⟨rfl,rfl⟩,by (exact Ents.au)⟩
set_option maxRecDepth 100000 in
set_option maxHeartbeats 8000000 in
theorem halves_ok {a b c d:V3} (ha:a.in 400000) (hb:b.in 400000) (hc:c.in 400000) (_hd:d.in 3243601) :
  CallsS Tryz.prog w0 341 [triV a b c,d.val] As fun r Bs=>∃ b3 b6 b7 b8 b11 b13 b14 c11 c13 c14 d11 d13 d14 i j,IJ (axP (nrm a b c)) i j ∧
   r=.agg #[edgF b3 b6 b7 b8 b11 b13 b14,edgF b3 b6 b7 b8 c11 c13 c14,edgF b3 b6 b7 b8 d11 d13 d14] ∧
   Bs=.cl b8 [.int .i64 ((nrm a b c).proj (axP (nrm a b c))).sign] 3::.cl b6 [.int .i64 (i:Int)] 3::.cl b7 [.int .i64 (j:Int)] 3::.cl b3 [.int .i64 d.x,.int .i64 d.y,.int .i64 d.z] 169 ::
        (edgC b11 b13 b14 i j a b++(edgC c11 c13 c14 i j b c++(edgC d11 d13 d14 i j c a++As))):=by
 have hnb:(nrm a b c).in 3200000000000:=V3.in_mono (cross_in (by decide) (by decide) (sub_in hb ha) (sub_in hc ha)) (by decide)
 refine CallsS.of_tri Tryz.func341 rfl Tryz.ntmps341 rfl ?_
 show Tri _ _ _ _ (env0 0 [.agg #[.int .i64 a.x,.int .i64 a.y,.int .i64 a.z,.int .i64 b.x,.int .i64 b.y,.int .i64 b.z,.int .i64 c.x,.int .i64 c.y,.int .i64 c.z],.agg #[.int .i64 d.x,.int .i64 d.y,.int .i64 d.z]]) _ _
 (repeat' first|(refine Ka ?_;first|refine Kb ?_|(refine Kc ?_;intro _))|refine Kd ?_|refine Kh ?_)
 rename_i b2 b3 b4
 refine Ks rfl rfl rfl rfl (inormal_ok (a:=a) (b:=b) (c:=c) ha hb hc (by decide) (by decide) (by decide)) ?_
 generalize nrm a b c=n at hnb ⊢
 show TL _ _ _ _ _ ((_,.agg #[.int .i64 n.x,.int .i64 n.y,.int .i64 n.z])::_) _ _
 (repeat' first|(refine Ka ?_;first|refine Kb ?_|(refine Kc ?_;intro _))|refine Kd ?_|refine Kh ?_)
 rename_i b5
 refine Tri.mid (fun e' As'=>∃ b6 b7 b8,e'=[(2,.pointer (some ⟨b2,0,none⟩)),(3,.pointer (some ⟨b3,0,none⟩)),(4,.pointer (some ⟨b4,0,none⟩)),(5,.pointer (some ⟨b5,0,none⟩)),(6,.pointer (some ⟨b6,0,none⟩)),(7,.pointer (some ⟨b7,0,none⟩)),(8,.pointer (some ⟨b8,0,none⟩))] ∧
  As'=.cl b8 [.int .i64 n.x] 3::.cl b6 [.int .i64 1] 3::.cl b7 [.int .i64 2] 3::.cl b3 [.int .i64 d.x,.int .i64 d.y,.int .i64 d.z] 169::.cl b5 [.int .i64 n.x,.int .i64 n.y,.int .i64 n.z] 169 ::
   .cl b4 [.nilFunc,.nilFunc,.nilFunc] 386::.cl b2 [.int .i64 a.x,.int .i64 a.y,.int .i64 a.z,.int .i64 b.x,.int .i64 b.y,.int .i64 b.z,.int .i64 c.x,.int .i64 c.y,.int .i64 c.z] 254::As) ?_ ?_
 ·refine Tri.dw [.cl b5 [.int .i64 n.x,.int .i64 n.y,.int .i64 n.z] 169] [] (.take 0 (.take 1 (.all [(2,.all [(3,.all [(4,.all [(5,.all [(6,.all [(7,.done)])])])]),(4,.all [(3,.all [(5,.all [(6,.all [(7,.done)])])])])]),(3,.all [(2,.all [(4,.all [(5,.all [(6,.all [(7,.done)])])])]),(4,.all [(2,.all [(5,.all [(6,.all [(7,.done)])])])])]),(4,.all [(2,.all [(3,.all [(5,.all [(6,.all [(7,.done)])])])]),(3,.all [(2,.all [(5,.all [(6,.all [(7,.done)])])])])])]))) ?_
  (repeat' first|(refine Ka ?_;first|refine Kb ?_|(refine Kc ?_;intro _))|refine Kd ?_|(refine Ki ?_;refine Kj ?_)|exact Kk|refine Kl ?_ ?_|(refine Km ?_;first|refine Kn ?_|(refine Ko ?_;intro _))|(refine Kp ?_;first|refine Kq ?_|refine Kr ?_)|refine Kh ?_)
  all_goals exact Post.cut _ _ ⟨_,_,_,rfl,rfl⟩ (by (exact Sub.au)) (by (exact Ents.au))
 rintro _ _ ⟨b6,b7,b8,rfl,rfl⟩
 obtain ⟨ha1,ha2,ha3,ha4,ha5,ha6⟩:=ha
 obtain ⟨hb1,hb2,hb3,hb4,hb5,hb6⟩:=hb
 obtain ⟨hc1,hc2,hc3,hc4,hc5,hc6⟩:=hc
 by_cases hz:n.z=0
 rotate_left
 · -- axis 2
  have hax:axP n=2:=by unfold axP;rw [if_pos hz]
  rw [hax]
  have hpk:n.proj 2=n.z:=rfl
  rw [hpk]
  (repeat' first|(refine Ka ?_;first|refine Kb ?_|(refine Kc ?_;intro _))|refine Kd ?_|refine Kh ?_)
  refine Tri.dw [.cl b5 [.int .i64 n.x,.int .i64 n.y,.int .i64 n.z] 169] [] (.take 0 (.take 1 (.all [(2,.all [(3,.all [(4,.done)])])]))) ?_
  (repeat' first|(refine Ka ?_;first|refine Kb ?_|(refine Kc ?_;intro _))|refine Kd ?_|(refine Ki ?_;refine Kj ?_)|exact Kk|refine Kl ?_ ?_|(refine Km ?_;first|refine Kn ?_|(refine Ko ?_;intro _))|(refine Kp ?_;first|refine Kq ?_|refine Kr ?_)|refine Kh ?_)
  refine Kt rfl rfl rfl isign_ok ?_
  (repeat' first|(refine Ka ?_;first|refine Kb ?_|(refine Kc ?_;intro _))|refine Kd ?_|refine Kh ?_)
  rename_i b9
  obtain ⟨σ,hσ⟩:∃ σ,σ=n.z.sign:=⟨_,rfl⟩
  rw [← hσ]
  clear hax hpk hσ hnb
  refine Tri.unroll 4 ?_
  (repeat' first|(refine Ka ?_;first|refine Kb ?_|(refine Kc ?_;intro _))|refine Kd ?_|refine Kh ?_)
  refine Tri.mid (fun e' As'=>∃ p11 p12,e'=[(2,.pointer (some ⟨b2,0,none⟩)),(3,.pointer (some ⟨b3,0,none⟩)),(4,.pointer (some ⟨b4,0,none⟩)),(6,.pointer (some ⟨b6,0,none⟩)),(7,.pointer (some ⟨b7,0,none⟩)),(8,.pointer (some ⟨b8,0,none⟩)),(9,.pointer (some ⟨b9,0,none⟩)),(10,.int .i64 0),(33,.int .i64 0),(11,.pointer (some ⟨p11,0,none⟩)),(12,.pointer (some ⟨p12,0,none⟩))] ∧
   As'=.cl b8 [.int .i64 σ] 3::.cl b6 [.int .i64 0] 3::.cl b7 [.int .i64 1] 3::.cl b3 [.int .i64 d.x,.int .i64 d.y,.int .i64 d.z] 169::.cl b4 [.nilFunc,.nilFunc,.nilFunc] 386::.cl b2 [.int .i64 a.x,.int .i64 a.y,.int .i64 a.z,.int .i64 b.x,.int .i64 b.y,.int .i64 b.z,.int .i64 c.x,.int .i64 c.y,.int .i64 c.z] 254::.cl b9 [.nilFunc,.nilFunc,.nilFunc] 386::.cl p11 [.int .i64 a.x,.int .i64 a.y,.int .i64 a.z] 169::.cl p12 [.int .i64 b.x,.int .i64 b.y,.int .i64 b.z] 169::As) ?_ ?_
  ·refine Tri.dw [.cl b2 [.int .i64 a.x,.int .i64 a.y,.int .i64 a.z,.int .i64 b.x,.int .i64 b.y,.int .i64 b.z,.int .i64 c.x,.int .i64 c.y,.int .i64 c.z] 254] [] (.take 0 (.take 1 (.take 2 (.take 3 (.take 4 (.take 5 (.take 6 (.take 7 (.all [(8,.all [(9,.all [(10,.all [(11,.done)])])]),(9,.all [(8,.all [(10,.all [(11,.done)])])])]))))))))) ?_
   (repeat' first|(refine Ka ?_;first|refine Kb ?_|(refine Kc ?_;intro _))|refine Kd ?_|(refine Ki ?_;refine Kj ?_)|exact Kk|refine Kl ?_ ?_|(refine Km ?_;first|refine Kn ?_|(refine Ko ?_;intro _))|(refine Kp ?_;first|refine Kq ?_|refine Kr ?_)|refine Kh ?_)
   all_goals
        simp only [show (1:Nat) % Int.natAbs 3 * 3=3 from rfl,List.drop_succ_cons,List.drop_zero,List.take_succ_cons,List.take_zero]
        exact Post.cut _ _ ⟨_,_,rfl,rfl⟩ (by (exact Sub.au)) (by (exact Ents.au))
  rintro _ _ ⟨p11,p12,rfl,rfl⟩
  (repeat' first|(refine Ka ?_;first|refine Kb ?_|(refine Kc ?_;intro _))|refine Kd ?_|refine Kh ?_)
  refine Tri.mid (fun e' As'=>∃ p13 p14,e'=[(2,.pointer (some ⟨b2,0,none⟩)),(3,.pointer (some ⟨b3,0,none⟩)),(4,.pointer (some ⟨b4,0,none⟩)),(6,.pointer (some ⟨b6,0,none⟩)),(7,.pointer (some ⟨b7,0,none⟩)),(8,.pointer (some ⟨b8,0,none⟩)),(9,.pointer (some ⟨b9,0,none⟩)),(10,.int .i64 0),(33,.int .i64 0),(11,.pointer (some ⟨p11,0,none⟩)),(13,.pointer (some ⟨p13,0,none⟩)),(14,.pointer (some ⟨p14,0,none⟩))] ∧
   As'=.cl b8 [.int .i64 σ] 3::.cl b6 [.int .i64 0] 3::.cl b7 [.int .i64 1] 3::.cl b3 [.int .i64 d.x,.int .i64 d.y,.int .i64 d.z] 169::.cl b4 [.nilFunc,.nilFunc,.nilFunc] 386::.cl b2 [.int .i64 a.x,.int .i64 a.y,.int .i64 a.z,.int .i64 b.x,.int .i64 b.y,.int .i64 b.z,.int .i64 c.x,.int .i64 c.y,.int .i64 c.z] 254::.cl b9 [.nilFunc,.nilFunc,.nilFunc] 386::.cl p14 [.int .i64 (b.y - a.y)] 3::.cl p11 [.int .i64 a.x,.int .i64 a.y,.int .i64 a.z] 169::.cl p13 [.int .i64 (b.x - a.x)] 3::As) ?_ ?_
  ·refine Tri.dw [.cl b6 [.int .i64 0] 3,.cl b7 [.int .i64 1] 3,.cl p11 [.int .i64 a.x,.int .i64 a.y,.int .i64 a.z] 169,.cl p12 [.int .i64 b.x,.int .i64 b.y,.int .i64 b.z] 169] [] (.take 0 (.take 1 (.take 2 (.take 3 (.take 4 (.take 5 (.take 6 (.take 7 (.take 8 (.take 9 (.take 10 (.take 11 (.take 12 (.take 13 (.all [(14,.all [(15,.all [(16,.all [(17,.done)])])]),(15,.all [(14,.all [(16,.all [(17,.done)])])])]))))))))))))))) ?_
   (repeat' first|(refine Ka ?_;first|refine Kb ?_|(refine Kc ?_;intro _))|refine Kd ?_|(refine Ki ?_;refine Kj ?_)|exact Kk|refine Kl ?_ ?_|(refine Km ?_;first|refine Kn ?_|(refine Ko ?_;intro _))|(refine Kp ?_;first|refine Kq ?_|refine Kr ?_)|refine Kh ?_)
   all_goals exact Post.cut _ _ ⟨_,_,rfl,rfl⟩ (by (exact Sub.au)) (by (exact Ents.au))
  rintro _ _ ⟨p13,p14,rfl,rfl⟩
  (repeat' first|(refine Ka ?_;first|refine Kb ?_|(refine Kc ?_;intro _))|refine Kd ?_|refine Kh ?_)
  refine Tri.mid (fun e' As'=>∃ q11 q12,e'=[(2,.pointer (some ⟨b2,0,none⟩)),(3,.pointer (some ⟨b3,0,none⟩)),(4,.pointer (some ⟨b4,0,none⟩)),(6,.pointer (some ⟨b6,0,none⟩)),(7,.pointer (some ⟨b7,0,none⟩)),(8,.pointer (some ⟨b8,0,none⟩)),(9,.pointer (some ⟨b9,0,none⟩)),(10,.int .i64 1),(33,.int .i64 1),(11,.pointer (some ⟨q11,0,none⟩)),(12,.pointer (some ⟨q12,0,none⟩))] ∧
   As'=.cl b8 [.int .i64 σ] 3::.cl b6 [.int .i64 0] 3::.cl b7 [.int .i64 1] 3::.cl b3 [.int .i64 d.x,.int .i64 d.y,.int .i64 d.z] 169::.cl b4 [.nilFunc,.nilFunc,.nilFunc] 386::.cl b2 [.int .i64 a.x,.int .i64 a.y,.int .i64 a.z,.int .i64 b.x,.int .i64 b.y,.int .i64 b.z,.int .i64 c.x,.int .i64 c.y,.int .i64 c.z] 254::.cl b9 [edgF b3 b6 b7 b8 p11 p13 p14,.nilFunc,.nilFunc] 386::.cl q11 [.int .i64 b.x,.int .i64 b.y,.int .i64 b.z] 169::.cl q12 [.int .i64 c.x,.int .i64 c.y,.int .i64 c.z] 169::.cl p14 [.int .i64 (b.y - a.y)] 3::.cl p11 [.int .i64 a.x,.int .i64 a.y,.int .i64 a.z] 169::.cl p13 [.int .i64 (b.x - a.x)] 3::As) ?_ ?_
  ·refine Tri.dw [.cl b2 [.int .i64 a.x,.int .i64 a.y,.int .i64 a.z,.int .i64 b.x,.int .i64 b.y,.int .i64 b.z,.int .i64 c.x,.int .i64 c.y,.int .i64 c.z] 254] [] (.take 0 (.take 1 (.take 2 (.take 3 (.take 4 (.take 5 (.take 6 (.take 7 (.all [(8,.all [(9,.all [(10,.all [(11,.done)])])]),(9,.all [(8,.all [(10,.all [(11,.done)])])])]))))))))) ?_
   (repeat' first|(refine Ka ?_;first|refine Kb ?_|(refine Kc ?_;intro _))|refine Kd ?_|(refine Ki ?_;refine Kj ?_)|exact Kk|refine Kl ?_ ?_|(refine Km ?_;first|refine Kn ?_|(refine Ko ?_;intro _))|(refine Kp ?_;first|refine Kq ?_|refine Kr ?_)|refine Kh ?_)
   all_goals
        simp only [show (2:Nat) % Int.natAbs 3 * 3=6 from rfl,List.drop_succ_cons,List.drop_zero,List.take_succ_cons,List.take_zero]
        exact Post.cut _ _ ⟨_,_,rfl,rfl⟩ (by (exact Sub.au)) (by (exact Ents.au))
  rintro _ _ ⟨q11,q12,rfl,rfl⟩
  (repeat' first|(refine Ka ?_;first|refine Kb ?_|(refine Kc ?_;intro _))|refine Kd ?_|refine Kh ?_)
  refine Tri.mid (fun e' As'=>∃ q13 q14,e'=[(2,.pointer (some ⟨b2,0,none⟩)),(3,.pointer (some ⟨b3,0,none⟩)),(4,.pointer (some ⟨b4,0,none⟩)),(6,.pointer (some ⟨b6,0,none⟩)),(7,.pointer (some ⟨b7,0,none⟩)),(8,.pointer (some ⟨b8,0,none⟩)),(9,.pointer (some ⟨b9,0,none⟩)),(10,.int .i64 1),(33,.int .i64 1),(11,.pointer (some ⟨q11,0,none⟩)),(13,.pointer (some ⟨q13,0,none⟩)),(14,.pointer (some ⟨q14,0,none⟩))] ∧
   As'=.cl b8 [.int .i64 σ] 3::.cl b6 [.int .i64 0] 3::.cl b7 [.int .i64 1] 3::.cl b3 [.int .i64 d.x,.int .i64 d.y,.int .i64 d.z] 169::.cl b4 [.nilFunc,.nilFunc,.nilFunc] 386::.cl b2 [.int .i64 a.x,.int .i64 a.y,.int .i64 a.z,.int .i64 b.x,.int .i64 b.y,.int .i64 b.z,.int .i64 c.x,.int .i64 c.y,.int .i64 c.z] 254::.cl b9 [edgF b3 b6 b7 b8 p11 p13 p14,.nilFunc,.nilFunc] 386::.cl q14 [.int .i64 (c.y - b.y)] 3::.cl q11 [.int .i64 b.x,.int .i64 b.y,.int .i64 b.z] 169::.cl q13 [.int .i64 (c.x - b.x)] 3::.cl p14 [.int .i64 (b.y - a.y)] 3::.cl p11 [.int .i64 a.x,.int .i64 a.y,.int .i64 a.z] 169::.cl p13 [.int .i64 (b.x - a.x)] 3::As) ?_ ?_
  ·refine Tri.dw [.cl b6 [.int .i64 0] 3,.cl b7 [.int .i64 1] 3,.cl q11 [.int .i64 b.x,.int .i64 b.y,.int .i64 b.z] 169,.cl q12 [.int .i64 c.x,.int .i64 c.y,.int .i64 c.z] 169] [] (.take 0 (.take 1 (.take 2 (.take 3 (.take 4 (.take 5 (.take 6 (.take 7 (.take 8 (.take 9 (.take 10 (.take 11 (.take 12 (.take 13 (.all [(14,.all [(15,.all [(16,.all [(17,.done)])])]),(15,.all [(14,.all [(16,.all [(17,.done)])])])]))))))))))))))) ?_
   (repeat' first|(refine Ka ?_;first|refine Kb ?_|(refine Kc ?_;intro _))|refine Kd ?_|(refine Ki ?_;refine Kj ?_)|exact Kk|refine Kl ?_ ?_|(refine Km ?_;first|refine Kn ?_|(refine Ko ?_;intro _))|(refine Kp ?_;first|refine Kq ?_|refine Kr ?_)|refine Kh ?_)
   all_goals exact Post.cut _ _ ⟨_,_,rfl,rfl⟩ (by (exact Sub.au)) (by (exact Ents.au))
  rintro _ _ ⟨q13,q14,rfl,rfl⟩
  (repeat' first|(refine Ka ?_;first|refine Kb ?_|(refine Kc ?_;intro _))|refine Kd ?_|refine Kh ?_)
  refine Tri.mid (fun e' As'=>∃ r11 r12,e'=[(2,.pointer (some ⟨b2,0,none⟩)),(3,.pointer (some ⟨b3,0,none⟩)),(4,.pointer (some ⟨b4,0,none⟩)),(6,.pointer (some ⟨b6,0,none⟩)),(7,.pointer (some ⟨b7,0,none⟩)),(8,.pointer (some ⟨b8,0,none⟩)),(9,.pointer (some ⟨b9,0,none⟩)),(10,.int .i64 2),(33,.int .i64 2),(11,.pointer (some ⟨r11,0,none⟩)),(12,.pointer (some ⟨r12,0,none⟩))] ∧
   As'=.cl b8 [.int .i64 σ] 3::.cl b6 [.int .i64 0] 3::.cl b7 [.int .i64 1] 3::.cl b3 [.int .i64 d.x,.int .i64 d.y,.int .i64 d.z] 169::.cl b4 [.nilFunc,.nilFunc,.nilFunc] 386::.cl b2 [.int .i64 a.x,.int .i64 a.y,.int .i64 a.z,.int .i64 b.x,.int .i64 b.y,.int .i64 b.z,.int .i64 c.x,.int .i64 c.y,.int .i64 c.z] 254::.cl b9 [edgF b3 b6 b7 b8 p11 p13 p14,edgF b3 b6 b7 b8 q11 q13 q14,.nilFunc] 386::.cl r11 [.int .i64 c.x,.int .i64 c.y,.int .i64 c.z] 169::.cl r12 [.int .i64 a.x,.int .i64 a.y,.int .i64 a.z] 169::.cl p14 [.int .i64 (b.y - a.y)] 3::.cl p11 [.int .i64 a.x,.int .i64 a.y,.int .i64 a.z] 169::.cl p13 [.int .i64 (b.x - a.x)] 3::.cl q14 [.int .i64 (c.y - b.y)] 3::.cl q11 [.int .i64 b.x,.int .i64 b.y,.int .i64 b.z] 169::.cl q13 [.int .i64 (c.x - b.x)] 3::As) ?_ ?_
  ·refine Tri.dw [.cl b2 [.int .i64 a.x,.int .i64 a.y,.int .i64 a.z,.int .i64 b.x,.int .i64 b.y,.int .i64 b.z,.int .i64 c.x,.int .i64 c.y,.int .i64 c.z] 254] [] (.take 0 (.take 1 (.take 2 (.take 3 (.take 4 (.take 5 (.take 6 (.take 7 (.all [(8,.all [(9,.all [(10,.all [(11,.done)])])]),(9,.all [(8,.all [(10,.all [(11,.done)])])])]))))))))) ?_
   (repeat' first|(refine Ka ?_;first|refine Kb ?_|(refine Kc ?_;intro _))|refine Kd ?_|(refine Ki ?_;refine Kj ?_)|exact Kk|refine Kl ?_ ?_|(refine Km ?_;first|refine Kn ?_|(refine Ko ?_;intro _))|(refine Kp ?_;first|refine Kq ?_|refine Kr ?_)|refine Kh ?_)
   all_goals
        simp only [show (3:Nat) % Int.natAbs 3 * 3=0 from rfl,List.drop_zero,List.take_succ_cons,List.take_zero]
        exact Post.cut _ _ ⟨_,_,rfl,rfl⟩ (by (exact Sub.au)) (by (exact Ents.au))
  rintro _ _ ⟨r11,r12,rfl,rfl⟩
  (repeat' first|(refine Ka ?_;first|refine Kb ?_|(refine Kc ?_;intro _))|refine Kd ?_|refine Kh ?_)
  refine Tri.mid (fun e' As'=>∃ r13 r14,e'=[(2,.pointer (some ⟨b2,0,none⟩)),(3,.pointer (some ⟨b3,0,none⟩)),(4,.pointer (some ⟨b4,0,none⟩)),(6,.pointer (some ⟨b6,0,none⟩)),(7,.pointer (some ⟨b7,0,none⟩)),(8,.pointer (some ⟨b8,0,none⟩)),(9,.pointer (some ⟨b9,0,none⟩)),(10,.int .i64 2),(33,.int .i64 2),(11,.pointer (some ⟨r11,0,none⟩)),(13,.pointer (some ⟨r13,0,none⟩)),(14,.pointer (some ⟨r14,0,none⟩))] ∧
   As'=.cl b8 [.int .i64 σ] 3::.cl b6 [.int .i64 0] 3::.cl b7 [.int .i64 1] 3::.cl b3 [.int .i64 d.x,.int .i64 d.y,.int .i64 d.z] 169::.cl b4 [.nilFunc,.nilFunc,.nilFunc] 386::.cl b2 [.int .i64 a.x,.int .i64 a.y,.int .i64 a.z,.int .i64 b.x,.int .i64 b.y,.int .i64 b.z,.int .i64 c.x,.int .i64 c.y,.int .i64 c.z] 254::.cl b9 [edgF b3 b6 b7 b8 p11 p13 p14,edgF b3 b6 b7 b8 q11 q13 q14,.nilFunc] 386::.cl r14 [.int .i64 (a.y - c.y)] 3::.cl r11 [.int .i64 c.x,.int .i64 c.y,.int .i64 c.z] 169::.cl r13 [.int .i64 (a.x - c.x)] 3::.cl p14 [.int .i64 (b.y - a.y)] 3::.cl p11 [.int .i64 a.x,.int .i64 a.y,.int .i64 a.z] 169::.cl p13 [.int .i64 (b.x - a.x)] 3::.cl q14 [.int .i64 (c.y - b.y)] 3::.cl q11 [.int .i64 b.x,.int .i64 b.y,.int .i64 b.z] 169::.cl q13 [.int .i64 (c.x - b.x)] 3::As) ?_ ?_
  ·refine Tri.dw [.cl b6 [.int .i64 0] 3,.cl b7 [.int .i64 1] 3,.cl r11 [.int .i64 c.x,.int .i64 c.y,.int .i64 c.z] 169,.cl r12 [.int .i64 a.x,.int .i64 a.y,.int .i64 a.z] 169] [] (.take 0 (.take 1 (.take 2 (.take 3 (.take 4 (.take 5 (.take 6 (.take 7 (.take 8 (.take 9 (.take 10 (.take 11 (.take 12 (.take 13 (.all [(14,.all [(15,.all [(16,.all [(17,.done)])])]),(15,.all [(14,.all [(16,.all [(17,.done)])])])]))))))))))))))) ?_
   (repeat' first|(refine Ka ?_;first|refine Kb ?_|(refine Kc ?_;intro _))|refine Kd ?_|(refine Ki ?_;refine Kj ?_)|exact Kk|refine Kl ?_ ?_|(refine Km ?_;first|refine Kn ?_|(refine Ko ?_;intro _))|(refine Kp ?_;first|refine Kq ?_|refine Kr ?_)|refine Kh ?_)
   all_goals exact Post.cut _ _ ⟨_,_,rfl,rfl⟩ (by (exact Sub.au)) (by (exact Ents.au))
  rintro _ _ ⟨r13,r14,rfl,rfl⟩
  (repeat' first|(refine Ka ?_;first|refine Kb ?_|(refine Kc ?_;intro _))|refine Kd ?_|refine Kh ?_)
  (refine Post.ra ?_)
  refine ⟨_,⟨b3,b6,b7,b8,p11,p13,p14,q11,q13,q14,r11,r13,r14,0,1,by simp [IJ],rfl,rfl⟩,?_⟩
  show Ents _ (.cl b8 [.int .i64 σ] 3::.cl b6 [.int .i64 0] 3::.cl b7 [.int .i64 1] 3::.cl b3 [.int .i64 d.x,.int .i64 d.y,.int .i64 d.z] 169::.cl p14 [.int .i64 (b.y - a.y)] 3::.cl p11 [.int .i64 a.x,.int .i64 a.y,.int .i64 a.z] 169::.cl p13 [.int .i64 (b.x - a.x)] 3::.cl q14 [.int .i64 (c.y - b.y)] 3::.cl q11 [.int .i64 b.x,.int .i64 b.y,.int .i64 b.z] 169::.cl q13 [.int .i64 (c.x - b.x)] 3::.cl r14 [.int .i64 (a.y - c.y)] 3::.cl r11 [.int .i64 c.x,.int .i64 c.y,.int .i64 c.z] 169::.cl r13 [.int .i64 (a.x - c.x)] 3 ::As)
  (exact Ents.au)
 by_cases hy:n.y=0
 rotate_left
 · -- axis 1
  have hax:axP n=1:=by unfold axP;rw [if_neg (fun h=>h hz),if_pos hy]
  rw [hax]
  have hpk:n.proj 1=n.y:=rfl
  rw [hpk]
  (repeat' first|(refine Ka ?_;first|refine Kb ?_|(refine Kc ?_;intro _))|refine Kd ?_|refine Kh ?_)
  refine Tri.dw [.cl b5 [.int .i64 n.x,.int .i64 n.y,.int .i64 n.z] 169] [] (.take 0 (.take 1 (.all [(2,.all [(3,.all [(4,.done)])])]))) ?_
  (repeat' first|(refine Ka ?_;first|refine Kb ?_|(refine Kc ?_;intro _))|refine Kd ?_|(refine Ki ?_;refine Kj ?_)|exact Kk|refine Kl ?_ ?_|(refine Km ?_;first|refine Kn ?_|(refine Ko ?_;intro _))|(refine Kp ?_;first|refine Kq ?_|refine Kr ?_)|refine Kh ?_)
  refine Kt rfl rfl rfl isign_ok ?_
  (repeat' first|(refine Ka ?_;first|refine Kb ?_|(refine Kc ?_;intro _))|refine Kd ?_|refine Kh ?_)
  rename_i b9
  obtain ⟨σ,hσ⟩:∃ σ,σ=n.y.sign:=⟨_,rfl⟩
  rw [← hσ]
  clear hax hpk hσ hnb
  refine Tri.unroll 4 ?_
  (repeat' first|(refine Ka ?_;first|refine Kb ?_|(refine Kc ?_;intro _))|refine Kd ?_|refine Kh ?_)
  refine Tri.mid (fun e' As'=>∃ p11 p12,e'=[(2,.pointer (some ⟨b2,0,none⟩)),(3,.pointer (some ⟨b3,0,none⟩)),(4,.pointer (some ⟨b4,0,none⟩)),(6,.pointer (some ⟨b6,0,none⟩)),(7,.pointer (some ⟨b7,0,none⟩)),(8,.pointer (some ⟨b8,0,none⟩)),(9,.pointer (some ⟨b9,0,none⟩)),(10,.int .i64 0),(33,.int .i64 0),(11,.pointer (some ⟨p11,0,none⟩)),(12,.pointer (some ⟨p12,0,none⟩))] ∧
   As'=.cl b8 [.int .i64 σ] 3::.cl b6 [.int .i64 2] 3::.cl b7 [.int .i64 0] 3::.cl b3 [.int .i64 d.x,.int .i64 d.y,.int .i64 d.z] 169::.cl b4 [.nilFunc,.nilFunc,.nilFunc] 386::.cl b2 [.int .i64 a.x,.int .i64 a.y,.int .i64 a.z,.int .i64 b.x,.int .i64 b.y,.int .i64 b.z,.int .i64 c.x,.int .i64 c.y,.int .i64 c.z] 254::.cl b9 [.nilFunc,.nilFunc,.nilFunc] 386::.cl p11 [.int .i64 a.x,.int .i64 a.y,.int .i64 a.z] 169::.cl p12 [.int .i64 b.x,.int .i64 b.y,.int .i64 b.z] 169::As) ?_ ?_
  ·refine Tri.dw [.cl b2 [.int .i64 a.x,.int .i64 a.y,.int .i64 a.z,.int .i64 b.x,.int .i64 b.y,.int .i64 b.z,.int .i64 c.x,.int .i64 c.y,.int .i64 c.z] 254] [] (.take 0 (.take 1 (.take 2 (.take 3 (.take 4 (.take 5 (.take 6 (.take 7 (.all [(8,.all [(9,.all [(10,.all [(11,.done)])])]),(9,.all [(8,.all [(10,.all [(11,.done)])])])]))))))))) ?_
   (repeat' first|(refine Ka ?_;first|refine Kb ?_|(refine Kc ?_;intro _))|refine Kd ?_|(refine Ki ?_;refine Kj ?_)|exact Kk|refine Kl ?_ ?_|(refine Km ?_;first|refine Kn ?_|(refine Ko ?_;intro _))|(refine Kp ?_;first|refine Kq ?_|refine Kr ?_)|refine Kh ?_)
   all_goals
        simp only [show (1:Nat) % Int.natAbs 3 * 3=3 from rfl,List.drop_succ_cons,List.drop_zero,List.take_succ_cons,List.take_zero]
        exact Post.cut _ _ ⟨_,_,rfl,rfl⟩ (by (exact Sub.au)) (by (exact Ents.au))
  rintro _ _ ⟨p11,p12,rfl,rfl⟩
  (repeat' first|(refine Ka ?_;first|refine Kb ?_|(refine Kc ?_;intro _))|refine Kd ?_|refine Kh ?_)
  refine Tri.mid (fun e' As'=>∃ p13 p14,e'=[(2,.pointer (some ⟨b2,0,none⟩)),(3,.pointer (some ⟨b3,0,none⟩)),(4,.pointer (some ⟨b4,0,none⟩)),(6,.pointer (some ⟨b6,0,none⟩)),(7,.pointer (some ⟨b7,0,none⟩)),(8,.pointer (some ⟨b8,0,none⟩)),(9,.pointer (some ⟨b9,0,none⟩)),(10,.int .i64 0),(33,.int .i64 0),(11,.pointer (some ⟨p11,0,none⟩)),(13,.pointer (some ⟨p13,0,none⟩)),(14,.pointer (some ⟨p14,0,none⟩))] ∧
   As'=.cl b8 [.int .i64 σ] 3::.cl b6 [.int .i64 2] 3::.cl b7 [.int .i64 0] 3::.cl b3 [.int .i64 d.x,.int .i64 d.y,.int .i64 d.z] 169::.cl b4 [.nilFunc,.nilFunc,.nilFunc] 386::.cl b2 [.int .i64 a.x,.int .i64 a.y,.int .i64 a.z,.int .i64 b.x,.int .i64 b.y,.int .i64 b.z,.int .i64 c.x,.int .i64 c.y,.int .i64 c.z] 254::.cl b9 [.nilFunc,.nilFunc,.nilFunc] 386::.cl p14 [.int .i64 (b.x - a.x)] 3::.cl p11 [.int .i64 a.x,.int .i64 a.y,.int .i64 a.z] 169::.cl p13 [.int .i64 (b.z - a.z)] 3::As) ?_ ?_
  ·refine Tri.dw [.cl b6 [.int .i64 2] 3,.cl b7 [.int .i64 0] 3,.cl p11 [.int .i64 a.x,.int .i64 a.y,.int .i64 a.z] 169,.cl p12 [.int .i64 b.x,.int .i64 b.y,.int .i64 b.z] 169] [] (.take 0 (.take 1 (.take 2 (.take 3 (.take 4 (.take 5 (.take 6 (.take 7 (.take 8 (.take 9 (.take 10 (.take 11 (.take 12 (.take 13 (.all [(14,.all [(15,.all [(16,.all [(17,.done)])])]),(15,.all [(14,.all [(16,.all [(17,.done)])])])]))))))))))))))) ?_
   (repeat' first|(refine Ka ?_;first|refine Kb ?_|(refine Kc ?_;intro _))|refine Kd ?_|(refine Ki ?_;refine Kj ?_)|exact Kk|refine Kl ?_ ?_|(refine Km ?_;first|refine Kn ?_|(refine Ko ?_;intro _))|(refine Kp ?_;first|refine Kq ?_|refine Kr ?_)|refine Kh ?_)
   all_goals exact Post.cut _ _ ⟨_,_,rfl,rfl⟩ (by (exact Sub.au)) (by (exact Ents.au))
  rintro _ _ ⟨p13,p14,rfl,rfl⟩
  (repeat' first|(refine Ka ?_;first|refine Kb ?_|(refine Kc ?_;intro _))|refine Kd ?_|refine Kh ?_)
  refine Tri.mid (fun e' As'=>∃ q11 q12,e'=[(2,.pointer (some ⟨b2,0,none⟩)),(3,.pointer (some ⟨b3,0,none⟩)),(4,.pointer (some ⟨b4,0,none⟩)),(6,.pointer (some ⟨b6,0,none⟩)),(7,.pointer (some ⟨b7,0,none⟩)),(8,.pointer (some ⟨b8,0,none⟩)),(9,.pointer (some ⟨b9,0,none⟩)),(10,.int .i64 1),(33,.int .i64 1),(11,.pointer (some ⟨q11,0,none⟩)),(12,.pointer (some ⟨q12,0,none⟩))] ∧
   As'=.cl b8 [.int .i64 σ] 3::.cl b6 [.int .i64 2] 3::.cl b7 [.int .i64 0] 3::.cl b3 [.int .i64 d.x,.int .i64 d.y,.int .i64 d.z] 169::.cl b4 [.nilFunc,.nilFunc,.nilFunc] 386::.cl b2 [.int .i64 a.x,.int .i64 a.y,.int .i64 a.z,.int .i64 b.x,.int .i64 b.y,.int .i64 b.z,.int .i64 c.x,.int .i64 c.y,.int .i64 c.z] 254::.cl b9 [edgF b3 b6 b7 b8 p11 p13 p14,.nilFunc,.nilFunc] 386::.cl q11 [.int .i64 b.x,.int .i64 b.y,.int .i64 b.z] 169::.cl q12 [.int .i64 c.x,.int .i64 c.y,.int .i64 c.z] 169::.cl p14 [.int .i64 (b.x - a.x)] 3::.cl p11 [.int .i64 a.x,.int .i64 a.y,.int .i64 a.z] 169::.cl p13 [.int .i64 (b.z - a.z)] 3::As) ?_ ?_
  ·refine Tri.dw [.cl b2 [.int .i64 a.x,.int .i64 a.y,.int .i64 a.z,.int .i64 b.x,.int .i64 b.y,.int .i64 b.z,.int .i64 c.x,.int .i64 c.y,.int .i64 c.z] 254] [] (.take 0 (.take 1 (.take 2 (.take 3 (.take 4 (.take 5 (.take 6 (.take 7 (.all [(8,.all [(9,.all [(10,.all [(11,.done)])])]),(9,.all [(8,.all [(10,.all [(11,.done)])])])]))))))))) ?_
   (repeat' first|(refine Ka ?_;first|refine Kb ?_|(refine Kc ?_;intro _))|refine Kd ?_|(refine Ki ?_;refine Kj ?_)|exact Kk|refine Kl ?_ ?_|(refine Km ?_;first|refine Kn ?_|(refine Ko ?_;intro _))|(refine Kp ?_;first|refine Kq ?_|refine Kr ?_)|refine Kh ?_)
   all_goals
        simp only [show (2:Nat) % Int.natAbs 3 * 3=6 from rfl,List.drop_succ_cons,List.drop_zero,List.take_succ_cons,List.take_zero]
        exact Post.cut _ _ ⟨_,_,rfl,rfl⟩ (by (exact Sub.au)) (by (exact Ents.au))
  rintro _ _ ⟨q11,q12,rfl,rfl⟩
  (repeat' first|(refine Ka ?_;first|refine Kb ?_|(refine Kc ?_;intro _))|refine Kd ?_|refine Kh ?_)
  refine Tri.mid (fun e' As'=>∃ q13 q14,e'=[(2,.pointer (some ⟨b2,0,none⟩)),(3,.pointer (some ⟨b3,0,none⟩)),(4,.pointer (some ⟨b4,0,none⟩)),(6,.pointer (some ⟨b6,0,none⟩)),(7,.pointer (some ⟨b7,0,none⟩)),(8,.pointer (some ⟨b8,0,none⟩)),(9,.pointer (some ⟨b9,0,none⟩)),(10,.int .i64 1),(33,.int .i64 1),(11,.pointer (some ⟨q11,0,none⟩)),(13,.pointer (some ⟨q13,0,none⟩)),(14,.pointer (some ⟨q14,0,none⟩))] ∧
   As'=.cl b8 [.int .i64 σ] 3::.cl b6 [.int .i64 2] 3::.cl b7 [.int .i64 0] 3::.cl b3 [.int .i64 d.x,.int .i64 d.y,.int .i64 d.z] 169::.cl b4 [.nilFunc,.nilFunc,.nilFunc] 386::.cl b2 [.int .i64 a.x,.int .i64 a.y,.int .i64 a.z,.int .i64 b.x,.int .i64 b.y,.int .i64 b.z,.int .i64 c.x,.int .i64 c.y,.int .i64 c.z] 254::.cl b9 [edgF b3 b6 b7 b8 p11 p13 p14,.nilFunc,.nilFunc] 386::.cl q14 [.int .i64 (c.x - b.x)] 3::.cl q11 [.int .i64 b.x,.int .i64 b.y,.int .i64 b.z] 169::.cl q13 [.int .i64 (c.z - b.z)] 3::.cl p14 [.int .i64 (b.x - a.x)] 3::.cl p11 [.int .i64 a.x,.int .i64 a.y,.int .i64 a.z] 169::.cl p13 [.int .i64 (b.z - a.z)] 3::As) ?_ ?_
  ·refine Tri.dw [.cl b6 [.int .i64 2] 3,.cl b7 [.int .i64 0] 3,.cl q11 [.int .i64 b.x,.int .i64 b.y,.int .i64 b.z] 169,.cl q12 [.int .i64 c.x,.int .i64 c.y,.int .i64 c.z] 169] [] (.take 0 (.take 1 (.take 2 (.take 3 (.take 4 (.take 5 (.take 6 (.take 7 (.take 8 (.take 9 (.take 10 (.take 11 (.take 12 (.take 13 (.all [(14,.all [(15,.all [(16,.all [(17,.done)])])]),(15,.all [(14,.all [(16,.all [(17,.done)])])])]))))))))))))))) ?_
   (repeat' first|(refine Ka ?_;first|refine Kb ?_|(refine Kc ?_;intro _))|refine Kd ?_|(refine Ki ?_;refine Kj ?_)|exact Kk|refine Kl ?_ ?_|(refine Km ?_;first|refine Kn ?_|(refine Ko ?_;intro _))|(refine Kp ?_;first|refine Kq ?_|refine Kr ?_)|refine Kh ?_)
   all_goals exact Post.cut _ _ ⟨_,_,rfl,rfl⟩ (by (exact Sub.au)) (by (exact Ents.au))
  rintro _ _ ⟨q13,q14,rfl,rfl⟩
  (repeat' first|(refine Ka ?_;first|refine Kb ?_|(refine Kc ?_;intro _))|refine Kd ?_|refine Kh ?_)
  refine Tri.mid (fun e' As'=>∃ r11 r12,e'=[(2,.pointer (some ⟨b2,0,none⟩)),(3,.pointer (some ⟨b3,0,none⟩)),(4,.pointer (some ⟨b4,0,none⟩)),(6,.pointer (some ⟨b6,0,none⟩)),(7,.pointer (some ⟨b7,0,none⟩)),(8,.pointer (some ⟨b8,0,none⟩)),(9,.pointer (some ⟨b9,0,none⟩)),(10,.int .i64 2),(33,.int .i64 2),(11,.pointer (some ⟨r11,0,none⟩)),(12,.pointer (some ⟨r12,0,none⟩))] ∧
   As'=.cl b8 [.int .i64 σ] 3::.cl b6 [.int .i64 2] 3::.cl b7 [.int .i64 0] 3::.cl b3 [.int .i64 d.x,.int .i64 d.y,.int .i64 d.z] 169::.cl b4 [.nilFunc,.nilFunc,.nilFunc] 386::.cl b2 [.int .i64 a.x,.int .i64 a.y,.int .i64 a.z,.int .i64 b.x,.int .i64 b.y,.int .i64 b.z,.int .i64 c.x,.int .i64 c.y,.int .i64 c.z] 254::.cl b9 [edgF b3 b6 b7 b8 p11 p13 p14,edgF b3 b6 b7 b8 q11 q13 q14,.nilFunc] 386::.cl r11 [.int .i64 c.x,.int .i64 c.y,.int .i64 c.z] 169::.cl r12 [.int .i64 a.x,.int .i64 a.y,.int .i64 a.z] 169::.cl p14 [.int .i64 (b.x - a.x)] 3::.cl p11 [.int .i64 a.x,.int .i64 a.y,.int .i64 a.z] 169::.cl p13 [.int .i64 (b.z - a.z)] 3::.cl q14 [.int .i64 (c.x - b.x)] 3::.cl q11 [.int .i64 b.x,.int .i64 b.y,.int .i64 b.z] 169::.cl q13 [.int .i64 (c.z - b.z)] 3::As) ?_ ?_
  ·refine Tri.dw [.cl b2 [.int .i64 a.x,.int .i64 a.y,.int .i64 a.z,.int .i64 b.x,.int .i64 b.y,.int .i64 b.z,.int .i64 c.x,.int .i64 c.y,.int .i64 c.z] 254] [] (.take 0 (.take 1 (.take 2 (.take 3 (.take 4 (.take 5 (.take 6 (.take 7 (.all [(8,.all [(9,.all [(10,.all [(11,.done)])])]),(9,.all [(8,.all [(10,.all [(11,.done)])])])]))))))))) ?_
   (repeat' first|(refine Ka ?_;first|refine Kb ?_|(refine Kc ?_;intro _))|refine Kd ?_|(refine Ki ?_;refine Kj ?_)|exact Kk|refine Kl ?_ ?_|(refine Km ?_;first|refine Kn ?_|(refine Ko ?_;intro _))|(refine Kp ?_;first|refine Kq ?_|refine Kr ?_)|refine Kh ?_)
   all_goals
        simp only [show (3:Nat) % Int.natAbs 3 * 3=0 from rfl,List.drop_zero,List.take_succ_cons,List.take_zero]
        exact Post.cut _ _ ⟨_,_,rfl,rfl⟩ (by (exact Sub.au)) (by (exact Ents.au))
  rintro _ _ ⟨r11,r12,rfl,rfl⟩
  (repeat' first|(refine Ka ?_;first|refine Kb ?_|(refine Kc ?_;intro _))|refine Kd ?_|refine Kh ?_)
  refine Tri.mid (fun e' As'=>∃ r13 r14,e'=[(2,.pointer (some ⟨b2,0,none⟩)),(3,.pointer (some ⟨b3,0,none⟩)),(4,.pointer (some ⟨b4,0,none⟩)),(6,.pointer (some ⟨b6,0,none⟩)),(7,.pointer (some ⟨b7,0,none⟩)),(8,.pointer (some ⟨b8,0,none⟩)),(9,.pointer (some ⟨b9,0,none⟩)),(10,.int .i64 2),(33,.int .i64 2),(11,.pointer (some ⟨r11,0,none⟩)),(13,.pointer (some ⟨r13,0,none⟩)),(14,.pointer (some ⟨r14,0,none⟩))] ∧
   As'=.cl b8 [.int .i64 σ] 3::.cl b6 [.int .i64 2] 3::.cl b7 [.int .i64 0] 3::.cl b3 [.int .i64 d.x,.int .i64 d.y,.int .i64 d.z] 169::.cl b4 [.nilFunc,.nilFunc,.nilFunc] 386::.cl b2 [.int .i64 a.x,.int .i64 a.y,.int .i64 a.z,.int .i64 b.x,.int .i64 b.y,.int .i64 b.z,.int .i64 c.x,.int .i64 c.y,.int .i64 c.z] 254::.cl b9 [edgF b3 b6 b7 b8 p11 p13 p14,edgF b3 b6 b7 b8 q11 q13 q14,.nilFunc] 386::.cl r14 [.int .i64 (a.x - c.x)] 3::.cl r11 [.int .i64 c.x,.int .i64 c.y,.int .i64 c.z] 169::.cl r13 [.int .i64 (a.z - c.z)] 3::.cl p14 [.int .i64 (b.x - a.x)] 3::.cl p11 [.int .i64 a.x,.int .i64 a.y,.int .i64 a.z] 169::.cl p13 [.int .i64 (b.z - a.z)] 3::.cl q14 [.int .i64 (c.x - b.x)] 3::.cl q11 [.int .i64 b.x,.int .i64 b.y,.int .i64 b.z] 169::.cl q13 [.int .i64 (c.z - b.z)] 3::As) ?_ ?_
  ·refine Tri.dw [.cl b6 [.int .i64 2] 3,.cl b7 [.int .i64 0] 3,.cl r11 [.int .i64 c.x,.int .i64 c.y,.int .i64 c.z] 169,.cl r12 [.int .i64 a.x,.int .i64 a.y,.int .i64 a.z] 169] [] (.take 0 (.take 1 (.take 2 (.take 3 (.take 4 (.take 5 (.take 6 (.take 7 (.take 8 (.take 9 (.take 10 (.take 11 (.take 12 (.take 13 (.all [(14,.all [(15,.all [(16,.all [(17,.done)])])]),(15,.all [(14,.all [(16,.all [(17,.done)])])])]))))))))))))))) ?_
   (repeat' first|(refine Ka ?_;first|refine Kb ?_|(refine Kc ?_;intro _))|refine Kd ?_|(refine Ki ?_;refine Kj ?_)|exact Kk|refine Kl ?_ ?_|(refine Km ?_;first|refine Kn ?_|(refine Ko ?_;intro _))|(refine Kp ?_;first|refine Kq ?_|refine Kr ?_)|refine Kh ?_)
   all_goals exact Post.cut _ _ ⟨_,_,rfl,rfl⟩ (by (exact Sub.au)) (by (exact Ents.au))
  rintro _ _ ⟨r13,r14,rfl,rfl⟩
  (repeat' first|(refine Ka ?_;first|refine Kb ?_|(refine Kc ?_;intro _))|refine Kd ?_|refine Kh ?_)
  (refine Post.ra ?_)
  refine ⟨_,⟨b3,b6,b7,b8,p11,p13,p14,q11,q13,q14,r11,r13,r14,2,0,by simp [IJ],rfl,rfl⟩,?_⟩
  show Ents _ (.cl b8 [.int .i64 σ] 3::.cl b6 [.int .i64 2] 3::.cl b7 [.int .i64 0] 3::.cl b3 [.int .i64 d.x,.int .i64 d.y,.int .i64 d.z] 169::.cl p14 [.int .i64 (b.x - a.x)] 3::.cl p11 [.int .i64 a.x,.int .i64 a.y,.int .i64 a.z] 169::.cl p13 [.int .i64 (b.z - a.z)] 3::.cl q14 [.int .i64 (c.x - b.x)] 3::.cl q11 [.int .i64 b.x,.int .i64 b.y,.int .i64 b.z] 169::.cl q13 [.int .i64 (c.z - b.z)] 3::.cl r14 [.int .i64 (a.x - c.x)] 3::.cl r11 [.int .i64 c.x,.int .i64 c.y,.int .i64 c.z] 169::.cl r13 [.int .i64 (a.z - c.z)] 3 ::As)
  (exact Ents.au)
 · -- axis 0
  have hax:axP n=0:=by unfold axP;rw [if_neg (fun h=>h hz),if_neg (fun h=>h hy)]
  rw [hax]
  have hpk:n.proj 0=n.x:=rfl
  rw [hpk]
  (repeat' first|(refine Ka ?_;first|refine Kb ?_|(refine Kc ?_;intro _))|refine Kd ?_|refine Kh ?_)
  refine Kt rfl rfl rfl isign_ok ?_
  (repeat' first|(refine Ka ?_;first|refine Kb ?_|(refine Kc ?_;intro _))|refine Kd ?_|refine Kh ?_)
  rename_i b9
  obtain ⟨σ,hσ⟩:∃ σ,σ=n.x.sign:=⟨_,rfl⟩
  rw [← hσ]
  clear hax hpk hσ hnb
  refine Tri.unroll 4 ?_
  (repeat' first|(refine Ka ?_;first|refine Kb ?_|(refine Kc ?_;intro _))|refine Kd ?_|refine Kh ?_)
  refine Tri.mid (fun e' As'=>∃ p11 p12,e'=[(2,.pointer (some ⟨b2,0,none⟩)),(3,.pointer (some ⟨b3,0,none⟩)),(4,.pointer (some ⟨b4,0,none⟩)),(6,.pointer (some ⟨b6,0,none⟩)),(7,.pointer (some ⟨b7,0,none⟩)),(8,.pointer (some ⟨b8,0,none⟩)),(9,.pointer (some ⟨b9,0,none⟩)),(10,.int .i64 0),(33,.int .i64 0),(11,.pointer (some ⟨p11,0,none⟩)),(12,.pointer (some ⟨p12,0,none⟩))] ∧
   As'=.cl b8 [.int .i64 σ] 3::.cl b6 [.int .i64 1] 3::.cl b7 [.int .i64 2] 3::.cl b3 [.int .i64 d.x,.int .i64 d.y,.int .i64 d.z] 169::.cl b4 [.nilFunc,.nilFunc,.nilFunc] 386::.cl b2 [.int .i64 a.x,.int .i64 a.y,.int .i64 a.z,.int .i64 b.x,.int .i64 b.y,.int .i64 b.z,.int .i64 c.x,.int .i64 c.y,.int .i64 c.z] 254::.cl b9 [.nilFunc,.nilFunc,.nilFunc] 386::.cl p11 [.int .i64 a.x,.int .i64 a.y,.int .i64 a.z] 169::.cl p12 [.int .i64 b.x,.int .i64 b.y,.int .i64 b.z] 169::As) ?_ ?_
  ·refine Tri.dw [.cl b2 [.int .i64 a.x,.int .i64 a.y,.int .i64 a.z,.int .i64 b.x,.int .i64 b.y,.int .i64 b.z,.int .i64 c.x,.int .i64 c.y,.int .i64 c.z] 254] [] (.take 0 (.take 1 (.take 2 (.take 3 (.take 4 (.take 5 (.take 6 (.take 7 (.all [(8,.all [(9,.all [(10,.all [(11,.done)])])]),(9,.all [(8,.all [(10,.all [(11,.done)])])])]))))))))) ?_
   (repeat' first|(refine Ka ?_;first|refine Kb ?_|(refine Kc ?_;intro _))|refine Kd ?_|(refine Ki ?_;refine Kj ?_)|exact Kk|refine Kl ?_ ?_|(refine Km ?_;first|refine Kn ?_|(refine Ko ?_;intro _))|(refine Kp ?_;first|refine Kq ?_|refine Kr ?_)|refine Kh ?_)
   all_goals
        simp only [show (1:Nat) % Int.natAbs 3 * 3=3 from rfl,List.drop_succ_cons,List.drop_zero,List.take_succ_cons,List.take_zero]
        exact Post.cut _ _ ⟨_,_,rfl,rfl⟩ (by (exact Sub.au)) (by (exact Ents.au))
  rintro _ _ ⟨p11,p12,rfl,rfl⟩
  (repeat' first|(refine Ka ?_;first|refine Kb ?_|(refine Kc ?_;intro _))|refine Kd ?_|refine Kh ?_)
  refine Tri.mid (fun e' As'=>∃ p13 p14,e'=[(2,.pointer (some ⟨b2,0,none⟩)),(3,.pointer (some ⟨b3,0,none⟩)),(4,.pointer (some ⟨b4,0,none⟩)),(6,.pointer (some ⟨b6,0,none⟩)),(7,.pointer (some ⟨b7,0,none⟩)),(8,.pointer (some ⟨b8,0,none⟩)),(9,.pointer (some ⟨b9,0,none⟩)),(10,.int .i64 0),(33,.int .i64 0),(11,.pointer (some ⟨p11,0,none⟩)),(13,.pointer (some ⟨p13,0,none⟩)),(14,.pointer (some ⟨p14,0,none⟩))] ∧
   As'=.cl b8 [.int .i64 σ] 3::.cl b6 [.int .i64 1] 3::.cl b7 [.int .i64 2] 3::.cl b3 [.int .i64 d.x,.int .i64 d.y,.int .i64 d.z] 169::.cl b4 [.nilFunc,.nilFunc,.nilFunc] 386::.cl b2 [.int .i64 a.x,.int .i64 a.y,.int .i64 a.z,.int .i64 b.x,.int .i64 b.y,.int .i64 b.z,.int .i64 c.x,.int .i64 c.y,.int .i64 c.z] 254::.cl b9 [.nilFunc,.nilFunc,.nilFunc] 386::.cl p14 [.int .i64 (b.z - a.z)] 3::.cl p11 [.int .i64 a.x,.int .i64 a.y,.int .i64 a.z] 169::.cl p13 [.int .i64 (b.y - a.y)] 3::As) ?_ ?_
  ·refine Tri.dw [.cl b6 [.int .i64 1] 3,.cl b7 [.int .i64 2] 3,.cl p11 [.int .i64 a.x,.int .i64 a.y,.int .i64 a.z] 169,.cl p12 [.int .i64 b.x,.int .i64 b.y,.int .i64 b.z] 169] [] (.take 0 (.take 1 (.take 2 (.take 3 (.take 4 (.take 5 (.take 6 (.take 7 (.take 8 (.take 9 (.take 10 (.take 11 (.take 12 (.take 13 (.all [(14,.all [(15,.all [(16,.all [(17,.done)])])]),(15,.all [(14,.all [(16,.all [(17,.done)])])])]))))))))))))))) ?_
   (repeat' first|(refine Ka ?_;first|refine Kb ?_|(refine Kc ?_;intro _))|refine Kd ?_|(refine Ki ?_;refine Kj ?_)|exact Kk|refine Kl ?_ ?_|(refine Km ?_;first|refine Kn ?_|(refine Ko ?_;intro _))|(refine Kp ?_;first|refine Kq ?_|refine Kr ?_)|refine Kh ?_)
   all_goals exact Post.cut _ _ ⟨_,_,rfl,rfl⟩ (by (exact Sub.au)) (by (exact Ents.au))
  rintro _ _ ⟨p13,p14,rfl,rfl⟩
  (repeat' first|(refine Ka ?_;first|refine Kb ?_|(refine Kc ?_;intro _))|refine Kd ?_|refine Kh ?_)
  refine Tri.mid (fun e' As'=>∃ q11 q12,e'=[(2,.pointer (some ⟨b2,0,none⟩)),(3,.pointer (some ⟨b3,0,none⟩)),(4,.pointer (some ⟨b4,0,none⟩)),(6,.pointer (some ⟨b6,0,none⟩)),(7,.pointer (some ⟨b7,0,none⟩)),(8,.pointer (some ⟨b8,0,none⟩)),(9,.pointer (some ⟨b9,0,none⟩)),(10,.int .i64 1),(33,.int .i64 1),(11,.pointer (some ⟨q11,0,none⟩)),(12,.pointer (some ⟨q12,0,none⟩))] ∧
   As'=.cl b8 [.int .i64 σ] 3::.cl b6 [.int .i64 1] 3::.cl b7 [.int .i64 2] 3::.cl b3 [.int .i64 d.x,.int .i64 d.y,.int .i64 d.z] 169::.cl b4 [.nilFunc,.nilFunc,.nilFunc] 386::.cl b2 [.int .i64 a.x,.int .i64 a.y,.int .i64 a.z,.int .i64 b.x,.int .i64 b.y,.int .i64 b.z,.int .i64 c.x,.int .i64 c.y,.int .i64 c.z] 254::.cl b9 [edgF b3 b6 b7 b8 p11 p13 p14,.nilFunc,.nilFunc] 386::.cl q11 [.int .i64 b.x,.int .i64 b.y,.int .i64 b.z] 169::.cl q12 [.int .i64 c.x,.int .i64 c.y,.int .i64 c.z] 169::.cl p14 [.int .i64 (b.z - a.z)] 3::.cl p11 [.int .i64 a.x,.int .i64 a.y,.int .i64 a.z] 169::.cl p13 [.int .i64 (b.y - a.y)] 3::As) ?_ ?_
  ·refine Tri.dw [.cl b2 [.int .i64 a.x,.int .i64 a.y,.int .i64 a.z,.int .i64 b.x,.int .i64 b.y,.int .i64 b.z,.int .i64 c.x,.int .i64 c.y,.int .i64 c.z] 254] [] (.take 0 (.take 1 (.take 2 (.take 3 (.take 4 (.take 5 (.take 6 (.take 7 (.all [(8,.all [(9,.all [(10,.all [(11,.done)])])]),(9,.all [(8,.all [(10,.all [(11,.done)])])])]))))))))) ?_
   (repeat' first|(refine Ka ?_;first|refine Kb ?_|(refine Kc ?_;intro _))|refine Kd ?_|(refine Ki ?_;refine Kj ?_)|exact Kk|refine Kl ?_ ?_|(refine Km ?_;first|refine Kn ?_|(refine Ko ?_;intro _))|(refine Kp ?_;first|refine Kq ?_|refine Kr ?_)|refine Kh ?_)
   all_goals
        simp only [show (2:Nat) % Int.natAbs 3 * 3=6 from rfl,List.drop_succ_cons,List.drop_zero,List.take_succ_cons,List.take_zero]
        exact Post.cut _ _ ⟨_,_,rfl,rfl⟩ (by (exact Sub.au)) (by (exact Ents.au))
  rintro _ _ ⟨q11,q12,rfl,rfl⟩
  (repeat' first|(refine Ka ?_;first|refine Kb ?_|(refine Kc ?_;intro _))|refine Kd ?_|refine Kh ?_)
  refine Tri.mid (fun e' As'=>∃ q13 q14,e'=[(2,.pointer (some ⟨b2,0,none⟩)),(3,.pointer (some ⟨b3,0,none⟩)),(4,.pointer (some ⟨b4,0,none⟩)),(6,.pointer (some ⟨b6,0,none⟩)),(7,.pointer (some ⟨b7,0,none⟩)),(8,.pointer (some ⟨b8,0,none⟩)),(9,.pointer (some ⟨b9,0,none⟩)),(10,.int .i64 1),(33,.int .i64 1),(11,.pointer (some ⟨q11,0,none⟩)),(13,.pointer (some ⟨q13,0,none⟩)),(14,.pointer (some ⟨q14,0,none⟩))] ∧
   As'=.cl b8 [.int .i64 σ] 3::.cl b6 [.int .i64 1] 3::.cl b7 [.int .i64 2] 3::.cl b3 [.int .i64 d.x,.int .i64 d.y,.int .i64 d.z] 169::.cl b4 [.nilFunc,.nilFunc,.nilFunc] 386::.cl b2 [.int .i64 a.x,.int .i64 a.y,.int .i64 a.z,.int .i64 b.x,.int .i64 b.y,.int .i64 b.z,.int .i64 c.x,.int .i64 c.y,.int .i64 c.z] 254::.cl b9 [edgF b3 b6 b7 b8 p11 p13 p14,.nilFunc,.nilFunc] 386::.cl q14 [.int .i64 (c.z - b.z)] 3::.cl q11 [.int .i64 b.x,.int .i64 b.y,.int .i64 b.z] 169::.cl q13 [.int .i64 (c.y - b.y)] 3::.cl p14 [.int .i64 (b.z - a.z)] 3::.cl p11 [.int .i64 a.x,.int .i64 a.y,.int .i64 a.z] 169::.cl p13 [.int .i64 (b.y - a.y)] 3::As) ?_ ?_
  ·refine Tri.dw [.cl b6 [.int .i64 1] 3,.cl b7 [.int .i64 2] 3,.cl q11 [.int .i64 b.x,.int .i64 b.y,.int .i64 b.z] 169,.cl q12 [.int .i64 c.x,.int .i64 c.y,.int .i64 c.z] 169] [] (.take 0 (.take 1 (.take 2 (.take 3 (.take 4 (.take 5 (.take 6 (.take 7 (.take 8 (.take 9 (.take 10 (.take 11 (.take 12 (.take 13 (.all [(14,.all [(15,.all [(16,.all [(17,.done)])])]),(15,.all [(14,.all [(16,.all [(17,.done)])])])]))))))))))))))) ?_
   (repeat' first|(refine Ka ?_;first|refine Kb ?_|(refine Kc ?_;intro _))|refine Kd ?_|(refine Ki ?_;refine Kj ?_)|exact Kk|refine Kl ?_ ?_|(refine Km ?_;first|refine Kn ?_|(refine Ko ?_;intro _))|(refine Kp ?_;first|refine Kq ?_|refine Kr ?_)|refine Kh ?_)
   all_goals exact Post.cut _ _ ⟨_,_,rfl,rfl⟩ (by (exact Sub.au)) (by (exact Ents.au))
  rintro _ _ ⟨q13,q14,rfl,rfl⟩
  (repeat' first|(refine Ka ?_;first|refine Kb ?_|(refine Kc ?_;intro _))|refine Kd ?_|refine Kh ?_)
  refine Tri.mid (fun e' As'=>∃ r11 r12,e'=[(2,.pointer (some ⟨b2,0,none⟩)),(3,.pointer (some ⟨b3,0,none⟩)),(4,.pointer (some ⟨b4,0,none⟩)),(6,.pointer (some ⟨b6,0,none⟩)),(7,.pointer (some ⟨b7,0,none⟩)),(8,.pointer (some ⟨b8,0,none⟩)),(9,.pointer (some ⟨b9,0,none⟩)),(10,.int .i64 2),(33,.int .i64 2),(11,.pointer (some ⟨r11,0,none⟩)),(12,.pointer (some ⟨r12,0,none⟩))] ∧
   As'=.cl b8 [.int .i64 σ] 3::.cl b6 [.int .i64 1] 3::.cl b7 [.int .i64 2] 3::.cl b3 [.int .i64 d.x,.int .i64 d.y,.int .i64 d.z] 169::.cl b4 [.nilFunc,.nilFunc,.nilFunc] 386::.cl b2 [.int .i64 a.x,.int .i64 a.y,.int .i64 a.z,.int .i64 b.x,.int .i64 b.y,.int .i64 b.z,.int .i64 c.x,.int .i64 c.y,.int .i64 c.z] 254::.cl b9 [edgF b3 b6 b7 b8 p11 p13 p14,edgF b3 b6 b7 b8 q11 q13 q14,.nilFunc] 386::.cl r11 [.int .i64 c.x,.int .i64 c.y,.int .i64 c.z] 169::.cl r12 [.int .i64 a.x,.int .i64 a.y,.int .i64 a.z] 169::.cl p14 [.int .i64 (b.z - a.z)] 3::.cl p11 [.int .i64 a.x,.int .i64 a.y,.int .i64 a.z] 169::.cl p13 [.int .i64 (b.y - a.y)] 3::.cl q14 [.int .i64 (c.z - b.z)] 3::.cl q11 [.int .i64 b.x,.int .i64 b.y,.int .i64 b.z] 169::.cl q13 [.int .i64 (c.y - b.y)] 3::As) ?_ ?_
  ·refine Tri.dw [.cl b2 [.int .i64 a.x,.int .i64 a.y,.int .i64 a.z,.int .i64 b.x,.int .i64 b.y,.int .i64 b.z,.int .i64 c.x,.int .i64 c.y,.int .i64 c.z] 254] [] (.take 0 (.take 1 (.take 2 (.take 3 (.take 4 (.take 5 (.take 6 (.take 7 (.all [(8,.all [(9,.all [(10,.all [(11,.done)])])]),(9,.all [(8,.all [(10,.all [(11,.done)])])])]))))))))) ?_
   (repeat' first|(refine Ka ?_;first|refine Kb ?_|(refine Kc ?_;intro _))|refine Kd ?_|(refine Ki ?_;refine Kj ?_)|exact Kk|refine Kl ?_ ?_|(refine Km ?_;first|refine Kn ?_|(refine Ko ?_;intro _))|(refine Kp ?_;first|refine Kq ?_|refine Kr ?_)|refine Kh ?_)
   all_goals
        simp only [show (3:Nat) % Int.natAbs 3 * 3=0 from rfl,List.drop_zero,List.take_succ_cons,List.take_zero]
        exact Post.cut _ _ ⟨_,_,rfl,rfl⟩ (by (exact Sub.au)) (by (exact Ents.au))
  rintro _ _ ⟨r11,r12,rfl,rfl⟩
  (repeat' first|(refine Ka ?_;first|refine Kb ?_|(refine Kc ?_;intro _))|refine Kd ?_|refine Kh ?_)
  refine Tri.mid (fun e' As'=>∃ r13 r14,e'=[(2,.pointer (some ⟨b2,0,none⟩)),(3,.pointer (some ⟨b3,0,none⟩)),(4,.pointer (some ⟨b4,0,none⟩)),(6,.pointer (some ⟨b6,0,none⟩)),(7,.pointer (some ⟨b7,0,none⟩)),(8,.pointer (some ⟨b8,0,none⟩)),(9,.pointer (some ⟨b9,0,none⟩)),(10,.int .i64 2),(33,.int .i64 2),(11,.pointer (some ⟨r11,0,none⟩)),(13,.pointer (some ⟨r13,0,none⟩)),(14,.pointer (some ⟨r14,0,none⟩))] ∧
   As'=.cl b8 [.int .i64 σ] 3::.cl b6 [.int .i64 1] 3::.cl b7 [.int .i64 2] 3::.cl b3 [.int .i64 d.x,.int .i64 d.y,.int .i64 d.z] 169::.cl b4 [.nilFunc,.nilFunc,.nilFunc] 386::.cl b2 [.int .i64 a.x,.int .i64 a.y,.int .i64 a.z,.int .i64 b.x,.int .i64 b.y,.int .i64 b.z,.int .i64 c.x,.int .i64 c.y,.int .i64 c.z] 254::.cl b9 [edgF b3 b6 b7 b8 p11 p13 p14,edgF b3 b6 b7 b8 q11 q13 q14,.nilFunc] 386::.cl r14 [.int .i64 (a.z - c.z)] 3::.cl r11 [.int .i64 c.x,.int .i64 c.y,.int .i64 c.z] 169::.cl r13 [.int .i64 (a.y - c.y)] 3::.cl p14 [.int .i64 (b.z - a.z)] 3::.cl p11 [.int .i64 a.x,.int .i64 a.y,.int .i64 a.z] 169::.cl p13 [.int .i64 (b.y - a.y)] 3::.cl q14 [.int .i64 (c.z - b.z)] 3::.cl q11 [.int .i64 b.x,.int .i64 b.y,.int .i64 b.z] 169::.cl q13 [.int .i64 (c.y - b.y)] 3::As) ?_ ?_
  ·refine Tri.dw [.cl b6 [.int .i64 1] 3,.cl b7 [.int .i64 2] 3,.cl r11 [.int .i64 c.x,.int .i64 c.y,.int .i64 c.z] 169,.cl r12 [.int .i64 a.x,.int .i64 a.y,.int .i64 a.z] 169] [] (.take 0 (.take 1 (.take 2 (.take 3 (.take 4 (.take 5 (.take 6 (.take 7 (.take 8 (.take 9 (.take 10 (.take 11 (.take 12 (.take 13 (.all [(14,.all [(15,.all [(16,.all [(17,.done)])])]),(15,.all [(14,.all [(16,.all [(17,.done)])])])]))))))))))))))) ?_
   (repeat' first|(refine Ka ?_;first|refine Kb ?_|(refine Kc ?_;intro _))|refine Kd ?_|(refine Ki ?_;refine Kj ?_)|exact Kk|refine Kl ?_ ?_|(refine Km ?_;first|refine Kn ?_|(refine Ko ?_;intro _))|(refine Kp ?_;first|refine Kq ?_|refine Kr ?_)|refine Kh ?_)
   all_goals exact Post.cut _ _ ⟨_,_,rfl,rfl⟩ (by (exact Sub.au)) (by (exact Ents.au))
  rintro _ _ ⟨r13,r14,rfl,rfl⟩
  (repeat' first|(refine Ka ?_;first|refine Kb ?_|(refine Kc ?_;intro _))|refine Kd ?_|refine Kh ?_)
  (refine Post.ra ?_)
  refine ⟨_,⟨b3,b6,b7,b8,p11,p13,p14,q11,q13,q14,r11,r13,r14,1,2,by simp [IJ],rfl,rfl⟩,?_⟩
  show Ents _ (.cl b8 [.int .i64 σ] 3::.cl b6 [.int .i64 1] 3::.cl b7 [.int .i64 2] 3::.cl b3 [.int .i64 d.x,.int .i64 d.y,.int .i64 d.z] 169::.cl p14 [.int .i64 (b.z - a.z)] 3::.cl p11 [.int .i64 a.x,.int .i64 a.y,.int .i64 a.z] 169::.cl p13 [.int .i64 (b.y - a.y)] 3::.cl q14 [.int .i64 (c.z - b.z)] 3::.cl q11 [.int .i64 b.x,.int .i64 b.y,.int .i64 b.z] 169::.cl q13 [.int .i64 (c.y - b.y)] 3::.cl r14 [.int .i64 (a.z - c.z)] 3::.cl r11 [.int .i64 c.x,.int .i64 c.y,.int .i64 c.z] 169::.cl r13 [.int .i64 (a.y - c.y)] 3 ::As)
  (exact Ents.au)
end Go.Proofs.YtkcnpgmgmgepoaaGreatDoor
