/- Part of the proof of a statement about risks. -/
import Derived.Test.YthpinljhfnodeaaGreatDoorRnTAToRmK
set_option linter.all false
namespace Go.Proofs.YthpinljhfnodeaaGreatDoor
open Go Go.Eng Go.RowKit Proofs.Tryz
def Tv:jX 11 160 1=true:=by decide +kernel
def Tw:jX 15 160 1=true:=by decide +kernel
def Tx:jX 16 160 1=true:=by decide +kernel
def LK:jX 16 95 161=true:=by decide +kernel
def LL:jX 19 143 161=true:=by decide +kernel
def Ty:jX 20 160 1=true:=by decide +kernel
def LM:jX 20 159 161=true:=by decide +kernel
end Go.Proofs.YthpinljhfnodeaaGreatDoor
