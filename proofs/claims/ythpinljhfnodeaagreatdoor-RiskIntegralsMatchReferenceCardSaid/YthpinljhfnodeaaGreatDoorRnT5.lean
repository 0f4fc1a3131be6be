/- Part of the proof of a statement about risks. -/
import Derived.Test.YthpinljhfnodeaaGreatDoorRjlToRnK
set_option linter.all false
namespace Go.Proofs.YthpinljhfnodeaaGreatDoor
open Go Go.Eng Go.RowKit Proofs.Tryz
def Lu:eq 11 55 121=true:=by decide +kernel
def Lv:eq 12 60 121=true:=by decide +kernel
def Ov:eq 15 60 61=true:=by decide +kernel
def Lw:eq 16 60 181=true:=by decide +kernel
def Lx:eq 18 60 121=true:=by decide +kernel
def Ly:eq 20 19 301=true:=by decide +kernel
end Go.Proofs.YthpinljhfnodeaaGreatDoor
