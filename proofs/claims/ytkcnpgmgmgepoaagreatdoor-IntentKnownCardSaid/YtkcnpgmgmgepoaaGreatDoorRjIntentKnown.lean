/- IntentKnown: the row's facts, one after the other. -/
import Derived.Test.YtkcnpgmgmgepoaaGreatDoorCards
import Derived.Test.YtkcnpgmgmgepoaaGreatDoorTie
import Derived.Test.YtkcnpgmgmgepoaaGreatDoorFr4
import Derived.Test.YtkcnpgmgmgepoaaGreatDoorNk1
import Derived.SevenTiedAt
import Derived.Carry
namespace Go.Proofs.YtkcnpgmgmgepoaaGreatDoor
open Go Go.Sx Go.ChangeShapes Go.WideShapes Go.ChangeAt Go.RowKit
theorem and_i {a b:Bool} (h:a=true) (k:b=true):(a&&b)=true:=by rw [h,k];rfl
theorem j1:(Rows.intentKnownRow.inPlace==Tryz.prog.inPlace 10)=true:=by kernel_rfl
theorem j2:(Rows.intentKnownRow.unfollowed==Tryz.prog.unfollowed 10)=true:=by kernel_rfl
theorem j3:(Rows.intentKnownRow.recurses==Tryz.prog.recurses 10)=true:=by kernel_rfl
theorem j4:(Rows.intentKnownRow.named==Tryz.prog.varsNamed 10)=true:=by kernel_rfl
theorem j5:laidOutB Tryz.prog=true:=by kernel_rfl
theorem j6:mapsRowed Tryz.prog=true:=by kernel_rfl
theorem j7:Tryz.prog.stopsHeard=true:=by kernel_rfl
theorem j8:Tryz.prog.mayEnter=true:=by kernel_rfl
theorem j9:(Rows.intentKnownRow.lifted==Tryz.prog.liftsFinal)=true:=by kernel_rfl
theorem ja:(Rows.intentKnownRow.plainKeys==Tryz.prog.plainKeys)=true:=by kernel_rfl
theorem jb:namedTie Tryz.prog Rows.intentKnownRow.named Rows.intentKnownSpec.vars=true:=by kernel_rfl
theorem m1:Rows.intentKnownRow.wfByText (OpenSpec.ofChange Rows.intentKnownSpec)=true:=by kernel_rfl
theorem m2:Tryz.prog.mainIs=some (true,"c16a81a91475e077ee1d400e6b946e39e46fe98b5526861d9d4a7de521fd2f5b".toList):=by kernel_rfl
theorem m3:true=Tryz.prog.looks []:=by kernel_rfl
theorem m4:false=Rows.intentKnownRow.goesBy Tryz.prog:=by kernel_rfl
theorem m5:((Tryz.f10.params).all fun u=>!Tryz.prog.wantsStandIn u)=true:=by kernel_rfl
theorem jn:Tryz.prog.funcNamed "verdigris/verdigrislaw38.IntentKnown"=some 10:=by kernel_rfl
theorem jf:joinedFacts Tryz.prog 10 Tryz.f10 Rows.intentKnownSpec Rows.intentKnownRow=true:=by
 unfold joinedFacts
 repeat' (with_reducible refine and_i ?_ ?_)
 all_goals first|with_reducible exact j1|with_reducible exact j2|with_reducible exact j3|with_reducible exact j4|with_reducible exact j5|with_reducible exact j6|with_reducible exact j7|with_reducible exact j8|with_reducible exact j9|with_reducible exact ja|with_reducible exact jb|kernel_rfl
end Go.Proofs.YtkcnpgmgmgepoaaGreatDoor
