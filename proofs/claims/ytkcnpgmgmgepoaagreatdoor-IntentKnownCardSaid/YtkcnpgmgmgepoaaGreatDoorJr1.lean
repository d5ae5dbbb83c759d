/- Walks: the reference of the chapter on insides: determinants, corners, limits, errors. -/
import Derived.Test.YtkcnpgmgmgepoaaGreatDoorIx7
import Derived.Test.YtkcnpgmgmgepoaaGreatDoorMr1
namespace Go.Proofs.YtkcnpgmgmgepoaaGreatDoor
open Go Go.Sx
variable {w0:World} {As:List Ent} {pv fv:Value} {pts fcs:List V3}
def chkW (P F:List V3) (p:V3):Int:=if (flawM P F).1≠0 then 350 else if isFar p then 2 else 0
end Go.Proofs.YtkcnpgmgmgepoaaGreatDoor
namespace Go.Sx
open Go
structure PlaceA where
 a0:Int
 a1:Int
 a2:Int
 w0:Int
 w1:Int
 w2:Int
 o0:Int
 o1:Int
 o2:Int
def PlaceA.ok (x:PlaceA):Prop:=((0≤x.a0∧x.a0≤255)∧(0≤x.a1∧x.a1≤255)∧(0≤x.a2∧x.a2≤255))∧((0≤x.w0∧x.w0≤255)∧(0≤x.w1∧x.w1≤255)∧(0≤x.w2∧x.w2≤255))∧((-32768≤x.o0∧x.o0≤32767)∧(-32768≤x.o1∧x.o1≤32767)∧(-32768≤x.o2∧x.o2≤32767))
def PlaceA.cells (x:PlaceA):List Value:=[.int .u8 x.a0,.int .u8 x.a1,.int .u8 x.a2,.int .u8 x.w0,.int .u8 x.w1,.int .u8 x.w2,.int .i16 x.o0,.int .i16 x.o1,.int .i16 x.o2]
def clampI (v:Int):Int:=if -200000 < (if v < 200000 then v else 200000) then (if v < 200000 then v else 200000) else -200000
end Go.Sx
namespace Go.Proofs.YtkcnpgmgmgepoaaGreatDoor
open Go Go.Sx
variable {w0:World} {As:List Ent} {pv fv:Value} {pts fcs:List V3}
end Go.Proofs.YtkcnpgmgmgepoaaGreatDoor
