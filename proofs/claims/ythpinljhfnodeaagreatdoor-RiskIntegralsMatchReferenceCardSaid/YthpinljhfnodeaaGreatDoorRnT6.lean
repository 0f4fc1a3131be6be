/- Part of the proof of a statement about risks. -/
import Derived.Test.YthpinljhfnodeaaGreatDoorRjlToRnK
set_option linter.all false
namespace Go.Proofs.YthpinljhfnodeaaGreatDoor
open Go Go.Eng Go.RowKit Proofs.Tryz
def Lz:eq 12 11 181=true:=by decide +kernel
def Tp:eq 13 60 1=true:=by decide +kernel
def LA:eq 15 60 121=true:=by decide +kernel
def LB:eq 16 60 121=true:=by decide +kernel
def LC:eq 16 15 241=true:=by decide +kernel
def LD:eq 18 60 181=true:=by decide +kernel
def LE:eq 18 47 241=true:=by decide +kernel
end Go.Proofs.YthpinljhfnodeaaGreatDoor
