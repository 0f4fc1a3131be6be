/- Part of the proof of a statement about risks. -/
import Derived.Test.YthpinljhfnodeaaGreatDoorRnTAToRmK
set_option linter.all false
namespace Go.Proofs.YthpinljhfnodeaaGreatDoor
open Go Go.Eng Go.RowKit Proofs.Tryz
def Tz:jX 12 160 1=true:=by decide +kernel
def LN:jX 12 31 161=true:=by decide +kernel
def TA:jX 17 160 1=true:=by decide +kernel
def LO:jX 18 127 161=true:=by decide +kernel
end Go.Proofs.YthpinljhfnodeaaGreatDoor
