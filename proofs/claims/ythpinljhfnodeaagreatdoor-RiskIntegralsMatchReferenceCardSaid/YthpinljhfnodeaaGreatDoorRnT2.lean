/- Part of the proof of a statement about risks. -/
import Derived.Test.YthpinljhfnodeaaGreatDoorRjlToRnK
set_option linter.all false
namespace Go.Proofs.YthpinljhfnodeaaGreatDoor
open Go Go.Eng Go.RowKit Proofs.Tryz
def Oo:eq 11 60 61=true:=by decide +kernel
def Oq:eq 14 60 61=true:=by decide +kernel
def Lm:eq 17 60 181=true:=by decide +kernel
def Ln:eq 19 60 181=true:=by decide +kernel
def Lo:eq 20 60 121=true:=by decide +kernel
end Go.Proofs.YthpinljhfnodeaaGreatDoor
