/- Part of the proof of a statement about risks. -/
import Derived.Test.YthpinljhfnodeaaGreatDoorRjlToRnK
set_option linter.all false
namespace Go.Proofs.YthpinljhfnodeaaGreatDoor
open Go Go.Eng Go.RowKit Proofs.Tryz
def LH:eq 13 60 121=true:=by decide +kernel
def Ts:eq 16 60 1=true:=by decide +kernel
def Oy:eq 17 60 61=true:=by decide +kernel
def LI:eq 17 31 241=true:=by decide +kernel
def Oz:eq 19 60 61=true:=by decide +kernel
def LJ:eq 20 60 241=true:=by decide +kernel
end Go.Proofs.YthpinljhfnodeaaGreatDoor
