/- Part of the proof that all functions of the layer agree with the reference implementation. -/
import Derived.Test.YtepcnphmfbbhiaaGreatDoorEng
import Derived.Test.YtepcnphmfbbhiaaGreatDoorProg
import Derived.KernelRfl
set_option linter.all false
set_option linter.all false
namespace Go.Proofs.YtepcnphmfbbhiaaGreatDoor
open Go Go.Eng Go.RowKit
theorem inf3 : Inf Tryz.prog 3 (.int .i64 (0)) 1 8 := by unfold Inf; kernel_rfl
theorem inf5 : Inf Tryz.prog 5 (.int .u8 (0)) 1 1 := by unfold Inf; kernel_rfl
theorem inf23 : Inf Tryz.prog 26 (.slice (none) (0) (0)) 1 24 := by unfold Inf; kernel_rfl
theorem inf32 : Inf Tryz.prog 28 (.int .i64 (0)) 1 8 := by unfold Inf; kernel_rfl
theorem inf36 : Inf Tryz.prog 41 (.agg #[S ([]), S ([])]) 2 32 := by unfold Inf; kernel_rfl
theorem inf57 : Inf Tryz.prog 65 (.slice (none) (0) (0)) 1 24 := by unfold Inf; kernel_rfl
theorem inf59 : Inf Tryz.prog 72 (.agg #[.slice (none) (0) (0), .slice (none) (0) (0), .slice (none) (0) (0), .bool (false)]) 4 80 := by unfold Inf; kernel_rfl
theorem inf62 : Inf Tryz.prog 68 (.agg #[]) 0 0 := by unfold Inf; kernel_rfl
theorem inf88 : Inf Tryz.prog 63 (.agg #[.int .i64 (0), .int .i64 (0)]) 2 16 := by unfold Inf; kernel_rfl
theorem inf123 : Inf Tryz.prog 115 (.slice (none) (0) (0)) 1 24 := by unfold Inf; kernel_rfl
theorem inf125 : Inf Tryz.prog 117 (.agg #[.bool (false), .slice (none) (0) (0)]) 2 32 := by unfold Inf; kernel_rfl
theorem inf150 : Inf Tryz.prog 156 (.nilFunc) 1 8 := by unfold Inf; kernel_rfl
theorem inf157 : Inf Tryz.prog 146 (.agg #[.pointer none, .slice (none) (0) (0)]) 2 32 := by unfold Inf; kernel_rfl
theorem inf235 : Inf Tryz.prog 91 (.agg #[.bool (false)]) 1 1 := by unfold Inf; kernel_rfl
theorem sz3 : (Tryz.prog.info? 3).map (·.size) = some 1 := by kernel_rfl
theorem sz4 : (Tryz.prog.info? 4).map (·.size) = some 1 := by kernel_rfl
theorem sz9 : (Tryz.prog.info? 9).map (·.size) = some 1 := by kernel_rfl
theorem sz22 : (Tryz.prog.info? 24).map (·.size) = some 1 := by kernel_rfl
theorem sz23 : (Tryz.prog.info? 26).map (·.size) = some 1 := by kernel_rfl
theorem sz24 : (Tryz.prog.info? 22).map (·.size) = some 1 := by kernel_rfl
theorem sz32 : (Tryz.prog.info? 28).map (·.size) = some 1 := by kernel_rfl
theorem sz36 : (Tryz.prog.info? 41).map (·.size) = some 2 := by kernel_rfl
theorem sz57 : (Tryz.prog.info? 65).map (·.size) = some 1 := by kernel_rfl
theorem sz59 : (Tryz.prog.info? 72).map (·.size) = some 4 := by kernel_rfl
theorem sz123 : (Tryz.prog.info? 115).map (·.size) = some 1 := by kernel_rfl
theorem sz125 : (Tryz.prog.info? 117).map (·.size) = some 2 := by kernel_rfl
theorem sz150 : (Tryz.prog.info? 156).map (·.size) = some 1 := by kernel_rfl
def U1 := Tryz.underlying1
def U3 := Tryz.underlying3
def U4 := Tryz.underlying4
def U5 := Tryz.underlying5
def U9 := Tryz.underlying9
def U22 := Tryz.underlying24
def U23 := Tryz.underlying26
def U24 := Tryz.underlying22
def U32 := Tryz.underlying28
def U36 := Tryz.underlying41
def U57 := Tryz.underlying65
def U59 := Tryz.underlying72
def U62 := Tryz.underlying68
def U88 := Tryz.underlying63
def U112 := Tryz.underlying111
def U123 := Tryz.underlying115
def U125 := Tryz.underlying117
def U144 := Tryz.underlying144
theorem en4 : Enters Tryz.prog 11 := enters_mk Tryz.func11 (by kernel_rfl) (by kernel_rfl)
theorem en6 : Enters Tryz.prog 17 := enters_mk Tryz.func17 (by kernel_rfl) (by kernel_rfl)
theorem en7 : Enters Tryz.prog 15 := enters_mk Tryz.func15 (by kernel_rfl) (by kernel_rfl)
theorem en8 : Enters Tryz.prog 12 := enters_mk Tryz.func12 (by kernel_rfl) (by kernel_rfl)
theorem en9 : Enters Tryz.prog 22 := enters_mk Tryz.func22 (by kernel_rfl) (by kernel_rfl)
theorem en10 : Enters Tryz.prog 18 := enters_mk Tryz.func18 (by kernel_rfl) (by kernel_rfl)
theorem en12 : Enters Tryz.prog 25 := enters_mk Tryz.func25 (by kernel_rfl) (by kernel_rfl)
theorem en14 : Enters Tryz.prog 31 := enters_mk Tryz.func31 (by kernel_rfl) (by kernel_rfl)
theorem en16 : Enters Tryz.prog 24 := enters_mk Tryz.func24 (by kernel_rfl) (by kernel_rfl)
theorem en18 : Enters Tryz.prog 34 := enters_mk Tryz.func34 (by kernel_rfl) (by kernel_rfl)
theorem en20 : Enters Tryz.prog 19 := enters_mk Tryz.func19 (by kernel_rfl) (by kernel_rfl)
theorem en21 : Enters Tryz.prog 21 := enters_mk Tryz.func21 (by kernel_rfl) (by kernel_rfl)
theorem en23 : Enters Tryz.prog 13 := enters_mk Tryz.func13 (by kernel_rfl) (by kernel_rfl)
theorem en24 : Enters Tryz.prog 16 := enters_mk Tryz.func16 (by kernel_rfl) (by kernel_rfl)
theorem en26 : Enters Tryz.prog 20 := enters_mk Tryz.func20 (by kernel_rfl) (by kernel_rfl)
theorem en27 : Enters Tryz.prog 14 := enters_mk Tryz.func14 (by kernel_rfl) (by kernel_rfl)
theorem en29 : Enters Tryz.prog 33 := enters_mk Tryz.func33 (by kernel_rfl) (by kernel_rfl)
theorem en30 : Enters Tryz.prog 23 := enters_mk Tryz.func23 (by kernel_rfl) (by kernel_rfl)
theorem en31 : Enters Tryz.prog 35 := enters_mk Tryz.func35 (by kernel_rfl) (by kernel_rfl)
theorem en32 : Enters Tryz.prog 36 := enters_mk Tryz.func36 (by kernel_rfl) (by kernel_rfl)
theorem en33 : Enters Tryz.prog 37 := enters_mk Tryz.func37 (by kernel_rfl) (by kernel_rfl)
theorem en34 : Enters Tryz.prog 29 := enters_mk Tryz.func29 (by kernel_rfl) (by kernel_rfl)
theorem en35 : Enters Tryz.prog 51 := enters_mk Tryz.func51 (by kernel_rfl) (by kernel_rfl)
theorem en36 : Enters Tryz.prog 52 := enters_mk Tryz.func52 (by kernel_rfl) (by kernel_rfl)
theorem en37 : Enters Tryz.prog 46 := enters_mk Tryz.func46 (by kernel_rfl) (by kernel_rfl)
theorem en39 : Enters Tryz.prog 56 := enters_mk Tryz.func56 (by kernel_rfl) (by kernel_rfl)
theorem en40 : Enters Tryz.prog 60 := enters_mk Tryz.func60 (by kernel_rfl) (by kernel_rfl)
theorem en41 : Enters Tryz.prog 61 := enters_mk Tryz.func61 (by kernel_rfl) (by kernel_rfl)
theorem en42 : Enters Tryz.prog 62 := enters_mk Tryz.func62 (by kernel_rfl) (by kernel_rfl)
theorem en43 : Enters Tryz.prog 55 := enters_mk Tryz.func55 (by kernel_rfl) (by kernel_rfl)
theorem en44 : Enters Tryz.prog 54 := enters_mk Tryz.func54 (by kernel_rfl) (by kernel_rfl)
theorem en46 : Enters Tryz.prog 69 := enters_mk Tryz.func69 (by kernel_rfl) (by kernel_rfl)
theorem en47 : Enters Tryz.prog 70 := enters_mk Tryz.func70 (by kernel_rfl) (by kernel_rfl)
theorem en48 : Enters Tryz.prog 71 := enters_mk Tryz.func71 (by kernel_rfl) (by kernel_rfl)
theorem en49 : Enters Tryz.prog 32 := enters_mk Tryz.func32 (by kernel_rfl) (by kernel_rfl)
theorem en50 : Enters Tryz.prog 49 := enters_mk Tryz.func49 (by kernel_rfl) (by kernel_rfl)
theorem en53 : Enters Tryz.prog 43 := enters_mk Tryz.func43 (by kernel_rfl) (by kernel_rfl)
theorem en54 : Enters Tryz.prog 57 := enters_mk Tryz.func57 (by kernel_rfl) (by kernel_rfl)
theorem en55 : Enters Tryz.prog 45 := enters_mk Tryz.func45 (by kernel_rfl) (by kernel_rfl)
theorem en56 : Enters Tryz.prog 58 := enters_mk Tryz.func58 (by kernel_rfl) (by kernel_rfl)
theorem en57 : Enters Tryz.prog 59 := enters_mk Tryz.func59 (by kernel_rfl) (by kernel_rfl)
theorem en58 : Enters Tryz.prog 75 := enters_mk Tryz.func75 (by kernel_rfl) (by kernel_rfl)
theorem en59 : Enters Tryz.prog 76 := enters_mk Tryz.func76 (by kernel_rfl) (by kernel_rfl)
theorem en60 : Enters Tryz.prog 42 := enters_mk Tryz.func42 (by kernel_rfl) (by kernel_rfl)
theorem en62 : Enters Tryz.prog 53 := enters_mk Tryz.func53 (by kernel_rfl) (by kernel_rfl)
theorem en63 : Enters Tryz.prog 38 := enters_mk Tryz.func38 (by kernel_rfl) (by kernel_rfl)
theorem en64 : Enters Tryz.prog 44 := enters_mk Tryz.func44 (by kernel_rfl) (by kernel_rfl)
theorem en65 : Enters Tryz.prog 47 := enters_mk Tryz.func47 (by kernel_rfl) (by kernel_rfl)
theorem en66 : Enters Tryz.prog 48 := enters_mk Tryz.func48 (by kernel_rfl) (by kernel_rfl)
theorem en67 : Enters Tryz.prog 50 := enters_mk Tryz.func50 (by kernel_rfl) (by kernel_rfl)
theorem en68 : Enters Tryz.prog 39 := enters_mk Tryz.func39 (by kernel_rfl) (by kernel_rfl)
theorem en69 : Enters Tryz.prog 40 := enters_mk Tryz.func40 (by kernel_rfl) (by kernel_rfl)
theorem en70 : Enters Tryz.prog 41 := enters_mk Tryz.func41 (by kernel_rfl) (by kernel_rfl)
theorem en72 : Enters Tryz.prog 77 := enters_mk Tryz.func77 (by kernel_rfl) (by kernel_rfl)
theorem en73 : Enters Tryz.prog 78 := enters_mk Tryz.func78 (by kernel_rfl) (by kernel_rfl)
theorem en74 : Enters Tryz.prog 79 := enters_mk Tryz.func79 (by kernel_rfl) (by kernel_rfl)
theorem en75 : Enters Tryz.prog 80 := enters_mk Tryz.func80 (by kernel_rfl) (by kernel_rfl)
theorem en76 : Enters Tryz.prog 82 := enters_mk Tryz.func82 (by kernel_rfl) (by kernel_rfl)
theorem en77 : Enters Tryz.prog 86 := enters_mk Tryz.func86 (by kernel_rfl) (by kernel_rfl)
theorem en78 : Enters Tryz.prog 87 := enters_mk Tryz.func87 (by kernel_rfl) (by kernel_rfl)
theorem en81 : Enters Tryz.prog 106 := enters_mk Tryz.func106 (by kernel_rfl) (by kernel_rfl)
theorem en82 : Enters Tryz.prog 72 := enters_mk Tryz.func72 (by kernel_rfl) (by kernel_rfl)
theorem en83 : Enters Tryz.prog 73 := enters_mk Tryz.func73 (by kernel_rfl) (by kernel_rfl)
theorem en84 : Enters Tryz.prog 74 := enters_mk Tryz.func74 (by kernel_rfl) (by kernel_rfl)
theorem en85 : Enters Tryz.prog 108 := enters_mk Tryz.func108 (by kernel_rfl) (by kernel_rfl)
theorem en86 : Enters Tryz.prog 105 := enters_mk Tryz.func105 (by kernel_rfl) (by kernel_rfl)
theorem en88 : Enters Tryz.prog 85 := enters_mk Tryz.func85 (by kernel_rfl) (by kernel_rfl)
theorem en89 : Enters Tryz.prog 103 := enters_mk Tryz.func103 (by kernel_rfl) (by kernel_rfl)
theorem en90 : Enters Tryz.prog 83 := enters_mk Tryz.func83 (by kernel_rfl) (by kernel_rfl)
theorem en91 : Enters Tryz.prog 84 := enters_mk Tryz.func84 (by kernel_rfl) (by kernel_rfl)
theorem en92 : Enters Tryz.prog 81 := enters_mk Tryz.func81 (by kernel_rfl) (by kernel_rfl)
theorem en93 : Enters Tryz.prog 88 := enters_mk Tryz.func88 (by kernel_rfl) (by kernel_rfl)
theorem en95 : Enters Tryz.prog 104 := enters_mk Tryz.func104 (by kernel_rfl) (by kernel_rfl)
theorem en96 : Enters Tryz.prog 107 := enters_mk Tryz.func107 (by kernel_rfl) (by kernel_rfl)
theorem en97 : Enters Tryz.prog 109 := enters_mk Tryz.func109 (by kernel_rfl) (by kernel_rfl)
theorem en98 : Enters Tryz.prog 110 := enters_mk Tryz.func110 (by kernel_rfl) (by kernel_rfl)
theorem en99 : Enters Tryz.prog 111 := enters_mk Tryz.func111 (by kernel_rfl) (by kernel_rfl)
theorem en100 : Enters Tryz.prog 112 := enters_mk Tryz.func112 (by kernel_rfl) (by kernel_rfl)
theorem en101 : Enters Tryz.prog 136 := enters_mk Tryz.func136 (by kernel_rfl) (by kernel_rfl)
theorem en102 : Enters Tryz.prog 97 := enters_mk Tryz.func97 (by kernel_rfl) (by kernel_rfl)
theorem en103 : Enters Tryz.prog 92 := enters_mk Tryz.func92 (by kernel_rfl) (by kernel_rfl)
theorem en104 : Enters Tryz.prog 94 := enters_mk Tryz.func94 (by kernel_rfl) (by kernel_rfl)
theorem en105 : Enters Tryz.prog 98 := enters_mk Tryz.func98 (by kernel_rfl) (by kernel_rfl)
theorem en106 : Enters Tryz.prog 99 := enters_mk Tryz.func99 (by kernel_rfl) (by kernel_rfl)
theorem en107 : Enters Tryz.prog 100 := enters_mk Tryz.func100 (by kernel_rfl) (by kernel_rfl)
theorem en108 : Enters Tryz.prog 101 := enters_mk Tryz.func101 (by kernel_rfl) (by kernel_rfl)
theorem en109 : Enters Tryz.prog 96 := enters_mk Tryz.func96 (by kernel_rfl) (by kernel_rfl)
theorem en110 : Enters Tryz.prog 102 := enters_mk Tryz.func102 (by kernel_rfl) (by kernel_rfl)
theorem en111 : Enters Tryz.prog 137 := enters_mk Tryz.func137 (by kernel_rfl) (by kernel_rfl)
theorem en112 : Enters Tryz.prog 138 := enters_mk Tryz.func138 (by kernel_rfl) (by kernel_rfl)
theorem en113 : Enters Tryz.prog 139 := enters_mk Tryz.func139 (by kernel_rfl) (by kernel_rfl)
theorem en114 : Enters Tryz.prog 135 := enters_mk Tryz.func135 (by kernel_rfl) (by kernel_rfl)
theorem en115 : Enters Tryz.prog 114 := enters_mk Tryz.func114 (by kernel_rfl) (by kernel_rfl)
theorem en116 : Enters Tryz.prog 113 := enters_mk Tryz.func113 (by kernel_rfl) (by kernel_rfl)
theorem en118 : Enters Tryz.prog 116 := enters_mk Tryz.func116 (by kernel_rfl) (by kernel_rfl)
theorem en119 : Enters Tryz.prog 140 := enters_mk Tryz.func140 (by kernel_rfl) (by kernel_rfl)
theorem en120 : Enters Tryz.prog 119 := enters_mk Tryz.func119 (by kernel_rfl) (by kernel_rfl)
theorem en121 : Enters Tryz.prog 120 := enters_mk Tryz.func120 (by kernel_rfl) (by kernel_rfl)
theorem en122 : Enters Tryz.prog 121 := enters_mk Tryz.func121 (by kernel_rfl) (by kernel_rfl)
theorem en123 : Enters Tryz.prog 126 := enters_mk Tryz.func126 (by kernel_rfl) (by kernel_rfl)
theorem en124 : Enters Tryz.prog 127 := enters_mk Tryz.func127 (by kernel_rfl) (by kernel_rfl)
theorem en125 : Enters Tryz.prog 128 := enters_mk Tryz.func128 (by kernel_rfl) (by kernel_rfl)
theorem en126 : Enters Tryz.prog 129 := enters_mk Tryz.func129 (by kernel_rfl) (by kernel_rfl)
theorem en127 : Enters Tryz.prog 130 := enters_mk Tryz.func130 (by kernel_rfl) (by kernel_rfl)
theorem en128 : Enters Tryz.prog 131 := enters_mk Tryz.func131 (by kernel_rfl) (by kernel_rfl)
theorem en129 : Enters Tryz.prog 132 := enters_mk Tryz.func132 (by kernel_rfl) (by kernel_rfl)
theorem en130 : Enters Tryz.prog 133 := enters_mk Tryz.func133 (by kernel_rfl) (by kernel_rfl)
theorem en131 : Enters Tryz.prog 122 := enters_mk Tryz.func122 (by kernel_rfl) (by kernel_rfl)
theorem en132 : Enters Tryz.prog 123 := enters_mk Tryz.func123 (by kernel_rfl) (by kernel_rfl)
theorem en133 : Enters Tryz.prog 124 := enters_mk Tryz.func124 (by kernel_rfl) (by kernel_rfl)
theorem en134 : Enters Tryz.prog 125 := enters_mk Tryz.func125 (by kernel_rfl) (by kernel_rfl)
theorem en135 : Enters Tryz.prog 134 := enters_mk Tryz.func134 (by kernel_rfl) (by kernel_rfl)
theorem en136 : Enters Tryz.prog 141 := enters_mk Tryz.func141 (by kernel_rfl) (by kernel_rfl)
theorem en137 : Enters Tryz.prog 142 := enters_mk Tryz.func142 (by kernel_rfl) (by kernel_rfl)
theorem en138 : Enters Tryz.prog 143 := enters_mk Tryz.func143 (by kernel_rfl) (by kernel_rfl)
theorem en139 : Enters Tryz.prog 144 := enters_mk Tryz.func144 (by kernel_rfl) (by kernel_rfl)
theorem en140 : Enters Tryz.prog 150 := enters_mk Tryz.func150 (by kernel_rfl) (by kernel_rfl)
theorem en146 : Enters Tryz.prog 151 := enters_mk Tryz.func151 (by kernel_rfl) (by kernel_rfl)
theorem en211 : Enters Tryz.prog 216 := enters_mk Tryz.func216 (by kernel_rfl) (by kernel_rfl)
theorem en212 : Enters Tryz.prog 217 := enters_mk Tryz.func217 (by kernel_rfl) (by kernel_rfl)
theorem en213 : Enters Tryz.prog 218 := enters_mk Tryz.func218 (by kernel_rfl) (by kernel_rfl)
theorem en214 : Enters Tryz.prog 219 := enters_mk Tryz.func219 (by kernel_rfl) (by kernel_rfl)
theorem en215 : Enters Tryz.prog 220 := enters_mk Tryz.func220 (by kernel_rfl) (by kernel_rfl)
theorem en216 : Enters Tryz.prog 221 := enters_mk Tryz.func221 (by kernel_rfl) (by kernel_rfl)
theorem en217 : Enters Tryz.prog 30 := enters_mk Tryz.func30 (by kernel_rfl) (by kernel_rfl)
theorem en218 : Enters Tryz.prog 222 := enters_mk Tryz.func222 (by kernel_rfl) (by kernel_rfl)
theorem en219 : Enters Tryz.prog 28 := enters_mk Tryz.func28 (by kernel_rfl) (by kernel_rfl)
theorem en220 : Enters Tryz.prog 63 := enters_mk Tryz.func63 (by kernel_rfl) (by kernel_rfl)
theorem en221 : Enters Tryz.prog 67 := enters_mk Tryz.func67 (by kernel_rfl) (by kernel_rfl)
theorem en222 : Enters Tryz.prog 68 := enters_mk Tryz.func68 (by kernel_rfl) (by kernel_rfl)
theorem en223 : Enters Tryz.prog 64 := enters_mk Tryz.func64 (by kernel_rfl) (by kernel_rfl)
theorem en224 : Enters Tryz.prog 65 := enters_mk Tryz.func65 (by kernel_rfl) (by kernel_rfl)
theorem en225 : Enters Tryz.prog 66 := enters_mk Tryz.func66 (by kernel_rfl) (by kernel_rfl)
theorem en226 : Enters Tryz.prog 89 := enters_mk Tryz.func89 (by kernel_rfl) (by kernel_rfl)
theorem en227 : Enters Tryz.prog 90 := enters_mk Tryz.func90 (by kernel_rfl) (by kernel_rfl)
theorem en228 : Enters Tryz.prog 95 := enters_mk Tryz.func95 (by kernel_rfl) (by kernel_rfl)
theorem en229 : Enters Tryz.prog 91 := enters_mk Tryz.func91 (by kernel_rfl) (by kernel_rfl)
theorem en230 : Enters Tryz.prog 93 := enters_mk Tryz.func93 (by kernel_rfl) (by kernel_rfl)
theorem en231 : Enters Tryz.prog 117 := enters_mk Tryz.func117 (by kernel_rfl) (by kernel_rfl)
theorem en232 : Enters Tryz.prog 118 := enters_mk Tryz.func118 (by kernel_rfl) (by kernel_rfl)
theorem en1026 : Enters Tryz.prog 26 := enters_mk Tryz.func26 (by kernel_rfl) (by kernel_rfl)
theorem en1027 : Enters Tryz.prog 27 := enters_mk Tryz.func27 (by kernel_rfl) (by kernel_rfl)
theorem hmix : Tryz.prog.follows .mixedOrders = true := by kernel_rfl
end Go.Proofs.YtepcnphmfbbhiaaGreatDoor
