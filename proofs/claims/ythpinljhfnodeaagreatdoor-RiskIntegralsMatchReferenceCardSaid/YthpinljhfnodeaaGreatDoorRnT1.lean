/- Part of the proof of a statement about risks. -/
import Derived.Test.YthpinljhfnodeaaGreatDoorRjlToRnK
set_option linter.all false
namespace Go.Proofs.YthpinljhfnodeaaGreatDoor
open Go Go.Eng Go.RowKit Proofs.Tryz
def Tj:eq 11 60 1=true:=by decide +kernel
def Tk:eq 14 60 1=true:=by decide +kernel
def Lk:eq 17 60 121=true:=by decide +kernel
def Ll:eq 19 60 121=true:=by decide +kernel
def On:eq 20 60 61=true:=by decide +kernel
end Go.Proofs.YthpinljhfnodeaaGreatDoor
