/- Part of the proof of a statement about risks. -/
import Derived.Test.YthpinljhfnodeaaGreatDoorRjlToRnK
set_option linter.all false
namespace Go.Proofs.YthpinljhfnodeaaGreatDoor
open Go Go.Eng Go.RowKit Proofs.Tryz
def Tl:eq 12 60 1=true:=by decide +kernel
def Lp:eq 14 60 121=true:=by decide +kernel
def Tm:eq 18 60 1=true:=by decide +kernel
def Lq:eq 19 60 241=true:=by decide +kernel
def Lr:eq 20 60 181=true:=by decide +kernel
end Go.Proofs.YthpinljhfnodeaaGreatDoor
