/- Part of the proof of a statement about risks. -/
import Derived.Test.YthpinljhfnodeaaGreatDoorRnTAToRmK
set_option linter.all false
namespace Go.Proofs.YthpinljhfnodeaaGreatDoor
open Go Go.Eng Go.RowKit Proofs.Tryz
def TB:jX 13 160 1=true:=by decide +kernel
def LP:jX 13 47 161=true:=by decide +kernel
def LQ:jX 17 111 161=true:=by decide +kernel
def TC:jX 18 160 1=true:=by decide +kernel
end Go.Proofs.YthpinljhfnodeaaGreatDoor
