/- Part of the proof of a statement about risks. -/
import Derived.Test.YthpinljhfnodeaaGreatDoorRjlToRnK
set_option linter.all false
namespace Go.Proofs.YthpinljhfnodeaaGreatDoor
open Go Go.Eng Go.RowKit Proofs.Tryz
def Ow:eq 13 60 61=true:=by decide +kernel
def LF:eq 13 27 181=true:=by decide +kernel
def LG:eq 14 43 181=true:=by decide +kernel
def Ox:eq 16 60 61=true:=by decide +kernel
def Tq:eq 17 60 1=true:=by decide +kernel
def Tr:eq 19 60 1=true:=by decide +kernel
end Go.Proofs.YthpinljhfnodeaaGreatDoor
