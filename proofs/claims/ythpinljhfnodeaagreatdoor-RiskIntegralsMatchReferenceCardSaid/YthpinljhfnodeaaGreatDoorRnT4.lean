/- Part of the proof of a statement about risks. -/
import Derived.Test.YthpinljhfnodeaaGreatDoorRjlToRnK
set_option linter.all false
namespace Go.Proofs.YthpinljhfnodeaaGreatDoor
open Go Go.Eng Go.RowKit Proofs.Tryz
def Ot:eq 12 60 61=true:=by decide +kernel
def Tn:eq 15 60 1=true:=by decide +kernel
def Ls:eq 15 59 181=true:=by decide +kernel
def Ou:eq 18 60 61=true:=by decide +kernel
def Lt:eq 19 3 301=true:=by decide +kernel
def To:eq 20 60 1=true:=by decide +kernel
end Go.Proofs.YthpinljhfnodeaaGreatDoor
