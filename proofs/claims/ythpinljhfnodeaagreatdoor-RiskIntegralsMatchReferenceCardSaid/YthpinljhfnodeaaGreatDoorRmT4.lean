/- Part of the proof of a statement about risks. -/
import Derived.Test.YthpinljhfnodeaaGreatDoorRnTAToRmK
set_option linter.all false
namespace Go.Proofs.YthpinljhfnodeaaGreatDoor
open Go Go.Eng Go.RowKit Proofs.Tryz
def LR:jX 11 15 161=true:=by decide +kernel
def TD:jX 14 160 1=true:=by decide +kernel
def LS:jX 14 63 161=true:=by decide +kernel
def LU:jX 15 79 161=true:=by decide +kernel
def TE:jX 19 160 1=true:=by decide +kernel
end Go.Proofs.YthpinljhfnodeaaGreatDoor
