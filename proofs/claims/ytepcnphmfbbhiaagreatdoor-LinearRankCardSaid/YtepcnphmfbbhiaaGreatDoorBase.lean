/- Part of the proof that all functions of the layer agree with the reference implementation. -/
import Derived.Test.YtepcnphmfbbhiaaGreatDoorEng
import Derived.Test.YtepcnphmfbbhiaaGreatDoorProg
import Derived.KernelRfl
set_option linter.all false
namespace Go.Proofs.YtepcnphmfbbhiaaGreatDoor
open Go Go.Eng Go.RowKit
theorem inf1 : Inf Tryz.prog 1 (.nilFunc) 1 8 := by unfold Inf; kernel_rfl
theorem inf2 : Inf Tryz.prog 2 (.int .i64 (0)) 1 8 := by unfold Inf; kernel_rfl
theorem inf3 : Inf Tryz.prog 3 (.int .i64 (0)) 1 8 := by unfold Inf; kernel_rfl
theorem inf4 : Inf Tryz.prog 4 (.bool (false)) 1 1 := by unfold Inf; kernel_rfl
theorem inf5 : Inf Tryz.prog 5 (.int .u8 (0)) 1 1 := by unfold Inf; kernel_rfl
theorem inf6 : Inf Tryz.prog 6 (.int .u8 (0)) 1 1 := by unfold Inf; kernel_rfl
theorem inf7 : Inf Tryz.prog 7 (.agg #[.int .i64 (0), .int .i64 (0), .bool (false), .int .u8 (0)]) 4 24 := by unfold Inf; kernel_rfl
theorem inf8 : Inf Tryz.prog 8 (.agg #[.int .i64 (0), .int .i64 (0), .bool (false), .int .u8 (0)]) 4 24 := by unfold Inf; kernel_rfl
theorem inf9 : Inf Tryz.prog 9 (S ([])) 1 16 := by unfold Inf; kernel_rfl
theorem inf10 : Inf Tryz.prog 10 (S ([])) 1 16 := by unfold Inf; kernel_rfl
theorem inf11 : Inf Tryz.prog 11 (S ([])) 1 16 := by unfold Inf; kernel_rfl
theorem inf12 : Inf Tryz.prog 12 (.int .u64 (0)) 1 8 := by unfold Inf; kernel_rfl
theorem inf13 : Inf Tryz.prog 13 (.agg #[S ([]), .int .u64 (0)]) 2 24 := by unfold Inf; kernel_rfl
theorem inf14 : Inf Tryz.prog 14 (.agg #[S ([]), .int .u64 (0)]) 2 24 := by unfold Inf; kernel_rfl
theorem inf15 : Inf Tryz.prog 15 (.pointer none) 1 8 := by unfold Inf; kernel_rfl
theorem inf16 : Inf Tryz.prog 16 (.pointer none) 1 8 := by unfold Inf; kernel_rfl
theorem inf17 : Inf Tryz.prog 17 (.pointer none) 1 8 := by unfold Inf; kernel_rfl
theorem inf18 : Inf Tryz.prog 18 (.agg #[.pointer none]) 1 8 := by unfold Inf; kernel_rfl
theorem inf19 : Inf Tryz.prog 19 (.agg #[.pointer none]) 1 8 := by unfold Inf; kernel_rfl
theorem inf20 : Inf Tryz.prog 20 (.nilIface) 1 16 := by unfold Inf; kernel_rfl
theorem inf21 : Inf Tryz.prog 21 (.int .i32 (0)) 1 4 := by unfold Inf; kernel_rfl
theorem inf22 : Inf Tryz.prog 24 (.slice (none) (0) (0)) 1 24 := by unfold Inf; kernel_rfl
theorem inf23 : Inf Tryz.prog 26 (.slice (none) (0) (0)) 1 24 := by unfold Inf; kernel_rfl
theorem inf24 : Inf Tryz.prog 22 (.slice (none) (0) (0)) 1 24 := by unfold Inf; kernel_rfl
theorem inf25 : Inf Tryz.prog 23 (.nilFunc) 1 8 := by unfold Inf; kernel_rfl
theorem inf26 : Inf Tryz.prog 42 (.nilFunc) 1 8 := by unfold Inf; kernel_rfl
theorem inf27 : Inf Tryz.prog 34 (.nilFunc) 1 8 := by unfold Inf; kernel_rfl
theorem inf28 : Inf Tryz.prog 31 (.nilFunc) 1 8 := by unfold Inf; kernel_rfl
theorem inf29 : Inf Tryz.prog 25 (.nilFunc) 1 8 := by unfold Inf; kernel_rfl
theorem inf30 : Inf Tryz.prog 44 (.nilFunc) 1 8 := by unfold Inf; kernel_rfl
theorem inf32 : Inf Tryz.prog 28 (.int .i64 (0)) 1 8 := by unfold Inf; kernel_rfl
theorem inf34 : Inf Tryz.prog 36 (.nilFunc) 1 8 := by unfold Inf; kernel_rfl
theorem inf35 : Inf Tryz.prog 40 (.agg #[S ([]), S ([])]) 2 32 := by unfold Inf; kernel_rfl
theorem inf36 : Inf Tryz.prog 41 (.agg #[S ([]), S ([])]) 2 32 := by unfold Inf; kernel_rfl
theorem inf38 : Inf Tryz.prog 49 (.nilFunc) 1 8 := by unfold Inf; kernel_rfl
theorem inf40 : Inf Tryz.prog 56 (.nilFunc) 1 8 := by unfold Inf; kernel_rfl
theorem inf42 : Inf Tryz.prog 46 (.nilFunc) 1 8 := by unfold Inf; kernel_rfl
theorem inf43 : Inf Tryz.prog 60 (.nilFunc) 1 8 := by unfold Inf; kernel_rfl
theorem inf44 : Inf Tryz.prog 37 (.nilFunc) 1 8 := by unfold Inf; kernel_rfl
theorem inf45 : Inf Tryz.prog 27 (.nilFunc) 1 8 := by unfold Inf; kernel_rfl
theorem inf47 : Inf Tryz.prog 33 (.nilFunc) 1 8 := by unfold Inf; kernel_rfl
theorem inf48 : Inf Tryz.prog 38 (.nilFunc) 1 8 := by unfold Inf; kernel_rfl
theorem inf49 : Inf Tryz.prog 30 (.nilFunc) 1 8 := by unfold Inf; kernel_rfl
theorem inf51 : Inf Tryz.prog 59 (.nilFunc) 1 8 := by unfold Inf; kernel_rfl
theorem inf52 : Inf Tryz.prog 45 (.nilFunc) 1 8 := by unfold Inf; kernel_rfl
theorem inf53 : Inf Tryz.prog 53 (.nilFunc) 1 8 := by unfold Inf; kernel_rfl
theorem inf54 : Inf Tryz.prog 61 (.nilFunc) 1 8 := by unfold Inf; kernel_rfl
theorem inf55 : Inf Tryz.prog 52 (.nilFunc) 1 8 := by unfold Inf; kernel_rfl
theorem inf56 : Inf Tryz.prog 80 (.nilFunc) 1 8 := by unfold Inf; kernel_rfl
theorem inf57 : Inf Tryz.prog 65 (.slice (none) (0) (0)) 1 24 := by unfold Inf; kernel_rfl
theorem inf58 : Inf Tryz.prog 71 (.agg #[.slice (none) (0) (0), .slice (none) (0) (0), .slice (none) (0) (0), .bool (false)]) 4 80 := by unfold Inf; kernel_rfl
theorem inf59 : Inf Tryz.prog 72 (.agg #[.slice (none) (0) (0), .slice (none) (0) (0), .slice (none) (0) (0), .bool (false)]) 4 80 := by unfold Inf; kernel_rfl
theorem inf60 : Inf Tryz.prog 76 (.nilFunc) 1 8 := by unfold Inf; kernel_rfl
theorem inf61 : Inf Tryz.prog 67 (.agg #[]) 0 0 := by unfold Inf; kernel_rfl
theorem inf62 : Inf Tryz.prog 68 (.agg #[]) 0 0 := by unfold Inf; kernel_rfl
theorem inf63 : Inf Tryz.prog 81 (.nilFunc) 1 8 := by unfold Inf; kernel_rfl
theorem inf68 : Inf Tryz.prog 87 (.nilFunc) 1 8 := by unfold Inf; kernel_rfl
theorem inf69 : Inf Tryz.prog 88 (.nilFunc) 1 8 := by unfold Inf; kernel_rfl
theorem inf70 : Inf Tryz.prog 51 (.nilFunc) 1 8 := by unfold Inf; kernel_rfl
theorem inf71 : Inf Tryz.prog 97 (.nilFunc) 1 8 := by unfold Inf; kernel_rfl
theorem inf72 : Inf Tryz.prog 57 (.nilFunc) 1 8 := by unfold Inf; kernel_rfl
theorem inf76 : Inf Tryz.prog 74 (.nilFunc) 1 8 := by unfold Inf; kernel_rfl
theorem inf77 : Inf Tryz.prog 75 (.nilFunc) 1 8 := by unfold Inf; kernel_rfl
theorem inf78 : Inf Tryz.prog 83 (.nilFunc) 1 8 := by unfold Inf; kernel_rfl
theorem inf79 : Inf Tryz.prog 84 (.nilIface) 1 16 := by unfold Inf; kernel_rfl
theorem inf80 : Inf Tryz.prog 85 (.nilIface) 1 16 := by unfold Inf; kernel_rfl
theorem inf81 : Inf Tryz.prog 77 (.nilFunc) 1 8 := by unfold Inf; kernel_rfl
theorem inf82 : Inf Tryz.prog 86 (.nilFunc) 1 8 := by unfold Inf; kernel_rfl
theorem inf83 : Inf Tryz.prog 102 (.nilFunc) 1 8 := by unfold Inf; kernel_rfl
theorem inf84 : Inf Tryz.prog 70 (.nilFunc) 1 8 := by unfold Inf; kernel_rfl
theorem inf86 : Inf Tryz.prog 82 (.nilFunc) 1 8 := by unfold Inf; kernel_rfl
theorem inf87 : Inf Tryz.prog 62 (.nilFunc) 1 8 := by unfold Inf; kernel_rfl
theorem inf88 : Inf Tryz.prog 63 (.agg #[.int .i64 (0), .int .i64 (0)]) 2 16 := by unfold Inf; kernel_rfl
theorem inf89 : Inf Tryz.prog 78 (.nilFunc) 1 8 := by unfold Inf; kernel_rfl
theorem inf90 : Inf Tryz.prog 79 (.nilFunc) 1 8 := by unfold Inf; kernel_rfl
theorem inf91 : Inf Tryz.prog 64 (.nilFunc) 1 8 := by unfold Inf; kernel_rfl
theorem inf92 : Inf Tryz.prog 66 (.nilFunc) 1 8 := by unfold Inf; kernel_rfl
theorem inf93 : Inf Tryz.prog 69 (.nilFunc) 1 8 := by unfold Inf; kernel_rfl
theorem inf94 : Inf Tryz.prog 94 (.nilFunc) 1 8 := by unfold Inf; kernel_rfl
theorem inf95 : Inf Tryz.prog 103 (.nilFunc) 1 8 := by unfold Inf; kernel_rfl
theorem inf96 : Inf Tryz.prog 98 (.nilFunc) 1 8 := by unfold Inf; kernel_rfl
theorem inf98 : Inf Tryz.prog 96 (.nilFunc) 1 8 := by unfold Inf; kernel_rfl
theorem inf99 : Inf Tryz.prog 105 (.nilFunc) 1 8 := by unfold Inf; kernel_rfl
theorem inf100 : Inf Tryz.prog 106 (.pointer none) 1 8 := by unfold Inf; kernel_rfl
theorem inf101 : Inf Tryz.prog 110 (.nilFunc) 1 8 := by unfold Inf; kernel_rfl
theorem inf102 : Inf Tryz.prog 107 (.nilFunc) 1 8 := by unfold Inf; kernel_rfl
theorem inf106 : Inf Tryz.prog 100 (.nilFunc) 1 8 := by unfold Inf; kernel_rfl
theorem inf107 : Inf Tryz.prog 101 (.nilFunc) 1 8 := by unfold Inf; kernel_rfl
theorem inf108 : Inf Tryz.prog 200 (.nilFunc) 1 8 := by unfold Inf; kernel_rfl
theorem inf109 : Inf Tryz.prog 109 (.nilFunc) 1 8 := by unfold Inf; kernel_rfl
theorem inf110 : Inf Tryz.prog 128 (.nilFunc) 1 8 := by unfold Inf; kernel_rfl
theorem inf111 : Inf Tryz.prog 108 (.nilFunc) 1 8 := by unfold Inf; kernel_rfl
theorem inf112 : Inf Tryz.prog 111 (.int .u64 (0)) 1 8 := by unfold Inf; kernel_rfl
theorem inf114 : Inf Tryz.prog 113 (.nilFunc) 1 8 := by unfold Inf; kernel_rfl
theorem inf115 : Inf Tryz.prog 122 (.nilFunc) 1 8 := by unfold Inf; kernel_rfl
theorem inf117 : Inf Tryz.prog 130 (.nilFunc) 1 8 := by unfold Inf; kernel_rfl
theorem inf119 : Inf Tryz.prog 132 (.nilFunc) 1 8 := by unfold Inf; kernel_rfl
theorem inf120 : Inf Tryz.prog 133 (.nilFunc) 1 8 := by unfold Inf; kernel_rfl
theorem inf121 : Inf Tryz.prog 134 (.nilFunc) 1 8 := by unfold Inf; kernel_rfl
theorem inf122 : Inf Tryz.prog 162 (.nilFunc) 1 8 := by unfold Inf; kernel_rfl
theorem inf123 : Inf Tryz.prog 115 (.slice (none) (0) (0)) 1 24 := by unfold Inf; kernel_rfl
theorem inf124 : Inf Tryz.prog 116 (.agg #[.bool (false), .slice (none) (0) (0)]) 2 32 := by unfold Inf; kernel_rfl
theorem inf125 : Inf Tryz.prog 117 (.agg #[.bool (false), .slice (none) (0) (0)]) 2 32 := by unfold Inf; kernel_rfl
theorem inf127 : Inf Tryz.prog 119 (.nilFunc) 1 8 := by unfold Inf; kernel_rfl
theorem inf129 : Inf Tryz.prog 124 (.nilFunc) 1 8 := by unfold Inf; kernel_rfl
theorem inf130 : Inf Tryz.prog 125 (.nilFunc) 1 8 := by unfold Inf; kernel_rfl
theorem inf131 : Inf Tryz.prog 126 (.nilFunc) 1 8 := by unfold Inf; kernel_rfl
theorem inf132 : Inf Tryz.prog 121 (.nilFunc) 1 8 := by unfold Inf; kernel_rfl
theorem inf133 : Inf Tryz.prog 127 (.nilFunc) 1 8 := by unfold Inf; kernel_rfl
theorem inf135 : Inf Tryz.prog 164 (.nilFunc) 1 8 := by unfold Inf; kernel_rfl
theorem inf136 : Inf Tryz.prog 161 (.nilFunc) 1 8 := by unfold Inf; kernel_rfl
theorem inf137 : Inf Tryz.prog 135 (.nilFunc) 1 8 := by unfold Inf; kernel_rfl
theorem inf138 : Inf Tryz.prog 136 (.int .u32 (0)) 1 4 := by unfold Inf; kernel_rfl
theorem inf140 : Inf Tryz.prog 138 (.nilFunc) 1 8 := by unfold Inf; kernel_rfl
theorem inf141 : Inf Tryz.prog 139 (.int .u64 (0)) 1 8 := by unfold Inf; kernel_rfl
theorem inf143 : Inf Tryz.prog 141 (.nilFunc) 1 8 := by unfold Inf; kernel_rfl
theorem inf144 : Inf Tryz.prog 144 (.slice (none) (0) (0)) 1 24 := by unfold Inf; kernel_rfl
theorem inf145 : Inf Tryz.prog 165 (.nilFunc) 1 8 := by unfold Inf; kernel_rfl
theorem inf146 : Inf Tryz.prog 142 (.nilFunc) 1 8 := by unfold Inf; kernel_rfl
theorem inf147 : Inf Tryz.prog 147 (.nilFunc) 1 8 := by unfold Inf; kernel_rfl
theorem inf148 : Inf Tryz.prog 148 (.nilFunc) 1 8 := by unfold Inf; kernel_rfl
theorem inf149 : Inf Tryz.prog 149 (.nilFunc) 1 8 := by unfold Inf; kernel_rfl
theorem inf150 : Inf Tryz.prog 156 (.nilFunc) 1 8 := by unfold Inf; kernel_rfl
theorem inf151 : Inf Tryz.prog 157 (.nilFunc) 1 8 := by unfold Inf; kernel_rfl
theorem inf152 : Inf Tryz.prog 158 (.nilFunc) 1 8 := by unfold Inf; kernel_rfl
theorem inf153 : Inf Tryz.prog 159 (.nilFunc) 1 8 := by unfold Inf; kernel_rfl
theorem inf154 : Inf Tryz.prog 160 (.nilFunc) 1 8 := by unfold Inf; kernel_rfl
theorem inf155 : Inf Tryz.prog 143 (.pointer none) 1 8 := by unfold Inf; kernel_rfl
theorem inf156 : Inf Tryz.prog 145 (.agg #[.pointer none, .slice (none) (0) (0)]) 2 32 := by unfold Inf; kernel_rfl
theorem inf157 : Inf Tryz.prog 146 (.agg #[.pointer none, .slice (none) (0) (0)]) 2 32 := by unfold Inf; kernel_rfl
theorem inf158 : Inf Tryz.prog 150 (.nilFunc) 1 8 := by unfold Inf; kernel_rfl
theorem inf159 : Inf Tryz.prog 151 (.nilIface) 1 16 := by unfold Inf; kernel_rfl
theorem inf160 : Inf Tryz.prog 152 (.nilIface) 1 16 := by unfold Inf; kernel_rfl
theorem inf162 : Inf Tryz.prog 154 (.nilFunc) 1 8 := by unfold Inf; kernel_rfl
theorem inf163 : Inf Tryz.prog 155 (.nilFunc) 1 8 := by unfold Inf; kernel_rfl
theorem inf164 : Inf Tryz.prog 93 (.nilFunc) 1 8 := by unfold Inf; kernel_rfl
theorem inf165 : Inf Tryz.prog 166 (.nilFunc) 1 8 := by unfold Inf; kernel_rfl
theorem inf166 : Inf Tryz.prog 167 (.nilFunc) 1 8 := by unfold Inf; kernel_rfl
theorem inf167 : Inf Tryz.prog 168 (.nilFunc) 1 8 := by unfold Inf; kernel_rfl
theorem inf168 : Inf Tryz.prog 169 (.pointer none) 1 8 := by unfold Inf; kernel_rfl
theorem inf169 : Inf Tryz.prog 170 (.nilFunc) 1 8 := by unfold Inf; kernel_rfl
theorem inf173 : Inf Tryz.prog 174 (.nilFunc) 1 8 := by unfold Inf; kernel_rfl
theorem inf174 : Inf Tryz.prog 175 (.nilFunc) 1 8 := by unfold Inf; kernel_rfl
theorem inf175 : Inf Tryz.prog 176 (.pointer none) 1 8 := by unfold Inf; kernel_rfl
theorem inf176 : Inf Tryz.prog 177 (.nilFunc) 1 8 := by unfold Inf; kernel_rfl
theorem inf177 : Inf Tryz.prog 178 (.nilFunc) 1 8 := by unfold Inf; kernel_rfl
theorem inf178 : Inf Tryz.prog 179 (.pointer none) 1 8 := by unfold Inf; kernel_rfl
theorem inf179 : Inf Tryz.prog 180 (.nilFunc) 1 8 := by unfold Inf; kernel_rfl
theorem inf180 : Inf Tryz.prog 181 (.nilFunc) 1 8 := by unfold Inf; kernel_rfl
theorem inf182 : Inf Tryz.prog 183 (.nilFunc) 1 8 := by unfold Inf; kernel_rfl
theorem inf183 : Inf Tryz.prog 184 (.nilFunc) 1 8 := by unfold Inf; kernel_rfl
theorem inf184 : Inf Tryz.prog 185 (.int .i64 (0)) 1 8 := by unfold Inf; kernel_rfl
theorem inf186 : Inf Tryz.prog 187 (.nilFunc) 1 8 := by unfold Inf; kernel_rfl
theorem inf187 : Inf Tryz.prog 188 (.pointer none) 1 8 := by unfold Inf; kernel_rfl
theorem inf188 : Inf Tryz.prog 189 (.nilFunc) 1 8 := by unfold Inf; kernel_rfl
theorem inf189 : Inf Tryz.prog 190 (.nilFunc) 1 8 := by unfold Inf; kernel_rfl
theorem inf191 : Inf Tryz.prog 192 (.nilFunc) 1 8 := by unfold Inf; kernel_rfl
theorem inf192 : Inf Tryz.prog 193 (.nilFunc) 1 8 := by unfold Inf; kernel_rfl
theorem inf194 : Inf Tryz.prog 195 (.nilFunc) 1 8 := by unfold Inf; kernel_rfl
theorem inf195 : Inf Tryz.prog 196 (.nilFunc) 1 8 := by unfold Inf; kernel_rfl
theorem inf196 : Inf Tryz.prog 197 (.nilFunc) 1 8 := by unfold Inf; kernel_rfl
theorem inf198 : Inf Tryz.prog 199 (.nilFunc) 1 8 := by unfold Inf; kernel_rfl
theorem inf199 : Inf Tryz.prog 201 (.agg #[S ([]), S ([]), .nilIface]) 3 48 := by unfold Inf; kernel_rfl
theorem inf200 : Inf Tryz.prog 202 (.agg #[S ([]), S ([]), .nilIface]) 3 48 := by unfold Inf; kernel_rfl
theorem inf201 : Inf Tryz.prog 203 (.nilFunc) 1 8 := by unfold Inf; kernel_rfl
theorem inf202 : Inf Tryz.prog 204 (.nilFunc) 1 8 := by unfold Inf; kernel_rfl
theorem inf205 : Inf Tryz.prog 207 (.nilFunc) 1 8 := by unfold Inf; kernel_rfl
theorem inf207 : Inf Tryz.prog 209 (.agg #[.int .u8 (0), .int .u8 (0)]) 2 2 := by unfold Inf; kernel_rfl
theorem inf208 : Inf Tryz.prog 210 (.agg #[.int .u8 (0), .int .u8 (0)]) 2 2 := by unfold Inf; kernel_rfl
theorem inf210 : Inf Tryz.prog 212 (.nilFunc) 1 8 := by unfold Inf; kernel_rfl
theorem inf211 : Inf Tryz.prog 213 (.nilFunc) 1 8 := by unfold Inf; kernel_rfl
theorem inf212 : Inf Tryz.prog 214 (.nilFunc) 1 8 := by unfold Inf; kernel_rfl
theorem inf213 : Inf Tryz.prog 215 (.pointer none) 1 8 := by unfold Inf; kernel_rfl
theorem inf214 : Inf Tryz.prog 216 (.agg #[S ([])]) 1 16 := by unfold Inf; kernel_rfl
theorem inf215 : Inf Tryz.prog 217 (.agg #[S ([])]) 1 16 := by unfold Inf; kernel_rfl
theorem inf216 : Inf Tryz.prog 218 (.nilFunc) 1 8 := by unfold Inf; kernel_rfl
theorem inf219 : Inf Tryz.prog 221 (.agg #[.pointer none, .pointer none, .pointer none, S ([])]) 4 40 := by unfold Inf; kernel_rfl
theorem inf220 : Inf Tryz.prog 222 (.agg #[.pointer none, .pointer none, .pointer none, S ([])]) 4 40 := by unfold Inf; kernel_rfl
theorem inf221 : Inf Tryz.prog 223 (.agg #[]) 0 0 := by unfold Inf; kernel_rfl
theorem inf222 : Inf Tryz.prog 224 (.agg #[]) 0 0 := by unfold Inf; kernel_rfl
theorem inf223 : Inf Tryz.prog 225 (.agg #[]) 0 0 := by unfold Inf; kernel_rfl
theorem inf224 : Inf Tryz.prog 226 (.int .u8 (0)) 1 1 := by unfold Inf; kernel_rfl
theorem inf225 : Inf Tryz.prog 227 (.int .u8 (0)) 1 1 := by unfold Inf; kernel_rfl
theorem inf226 : Inf Tryz.prog 228 (.nilFunc) 1 8 := by unfold Inf; kernel_rfl
theorem inf227 : Inf Tryz.prog 229 (.int .i32 (0)) 1 4 := by unfold Inf; kernel_rfl
theorem inf228 : Inf Tryz.prog 230 (.int .i32 (0)) 1 4 := by unfold Inf; kernel_rfl
theorem inf231 : Inf Tryz.prog 233 (.nilFunc) 1 8 := by unfold Inf; kernel_rfl
theorem inf232 : Inf Tryz.prog 95 (.nilFunc) 1 8 := by unfold Inf; kernel_rfl
theorem inf233 : Inf Tryz.prog 89 (.pointer none) 1 8 := by unfold Inf; kernel_rfl
theorem inf234 : Inf Tryz.prog 90 (.agg #[.bool (false)]) 1 1 := by unfold Inf; kernel_rfl
theorem inf235 : Inf Tryz.prog 91 (.agg #[.bool (false)]) 1 1 := by unfold Inf; kernel_rfl
theorem inf236 : Inf Tryz.prog 92 (.nilFunc) 1 8 := by unfold Inf; kernel_rfl
theorem inf237 : Inf Tryz.prog 114 (.nilFunc) 1 8 := by unfold Inf; kernel_rfl
theorem inf238 : Inf Tryz.prog 120 (.nilFunc) 1 8 := by unfold Inf; kernel_rfl
theorem inf1039 : Inf Tryz.prog 39 (.nilFunc) 1 8 := by unfold Inf; kernel_rfl
theorem inf1043 : Inf Tryz.prog 43 (.nilFunc) 1 8 := by unfold Inf; kernel_rfl
theorem inf1047 : Inf Tryz.prog 47 (.nilFunc) 1 8 := by unfold Inf; kernel_rfl
theorem inf1050 : Inf Tryz.prog 50 (.nilFunc) 1 8 := by unfold Inf; kernel_rfl
theorem inf1054 : Inf Tryz.prog 54 (.nilFunc) 1 8 := by unfold Inf; kernel_rfl
theorem inf1058 : Inf Tryz.prog 58 (.nilFunc) 1 8 := by unfold Inf; kernel_rfl
theorem sz0 : (Tryz.prog.info? 0).map (·.size) = some 1 := by kernel_rfl
theorem sz1 : (Tryz.prog.info? 1).map (·.size) = some 1 := by kernel_rfl
theorem sz2 : (Tryz.prog.info? 2).map (·.size) = some 1 := by kernel_rfl
theorem sz3 : (Tryz.prog.info? 3).map (·.size) = some 1 := by kernel_rfl
theorem sz4 : (Tryz.prog.info? 4).map (·.size) = some 1 := by kernel_rfl
theorem sz5 : (Tryz.prog.info? 5).map (·.size) = some 1 := by kernel_rfl
theorem sz6 : (Tryz.prog.info? 6).map (·.size) = some 1 := by kernel_rfl
theorem sz7 : (Tryz.prog.info? 7).map (·.size) = some 4 := by kernel_rfl
theorem sz8 : (Tryz.prog.info? 8).map (·.size) = some 4 := by kernel_rfl
theorem sz9 : (Tryz.prog.info? 9).map (·.size) = some 1 := by kernel_rfl
theorem sz10 : (Tryz.prog.info? 10).map (·.size) = some 1 := by kernel_rfl
theorem sz11 : (Tryz.prog.info? 11).map (·.size) = some 1 := by kernel_rfl
theorem sz12 : (Tryz.prog.info? 12).map (·.size) = some 1 := by kernel_rfl
theorem sz13 : (Tryz.prog.info? 13).map (·.size) = some 2 := by kernel_rfl
theorem sz14 : (Tryz.prog.info? 14).map (·.size) = some 2 := by kernel_rfl
theorem sz15 : (Tryz.prog.info? 15).map (·.size) = some 1 := by kernel_rfl
theorem sz16 : (Tryz.prog.info? 16).map (·.size) = some 1 := by kernel_rfl
theorem sz17 : (Tryz.prog.info? 17).map (·.size) = some 1 := by kernel_rfl
theorem sz18 : (Tryz.prog.info? 18).map (·.size) = some 1 := by kernel_rfl
theorem sz19 : (Tryz.prog.info? 19).map (·.size) = some 1 := by kernel_rfl
theorem sz20 : (Tryz.prog.info? 20).map (·.size) = some 1 := by kernel_rfl
theorem sz21 : (Tryz.prog.info? 21).map (·.size) = some 1 := by kernel_rfl
theorem sz22 : (Tryz.prog.info? 24).map (·.size) = some 1 := by kernel_rfl
theorem sz23 : (Tryz.prog.info? 26).map (·.size) = some 1 := by kernel_rfl
theorem sz24 : (Tryz.prog.info? 22).map (·.size) = some 1 := by kernel_rfl
theorem sz25 : (Tryz.prog.info? 23).map (·.size) = some 1 := by kernel_rfl
theorem sz26 : (Tryz.prog.info? 42).map (·.size) = some 1 := by kernel_rfl
theorem sz27 : (Tryz.prog.info? 34).map (·.size) = some 1 := by kernel_rfl
theorem sz28 : (Tryz.prog.info? 31).map (·.size) = some 1 := by kernel_rfl
theorem sz29 : (Tryz.prog.info? 25).map (·.size) = some 1 := by kernel_rfl
theorem sz30 : (Tryz.prog.info? 44).map (·.size) = some 1 := by kernel_rfl
theorem sz32 : (Tryz.prog.info? 28).map (·.size) = some 1 := by kernel_rfl
theorem sz33 : (Tryz.prog.info? 35).map (·.size) = some 1 := by kernel_rfl
theorem sz34 : (Tryz.prog.info? 36).map (·.size) = some 1 := by kernel_rfl
theorem sz35 : (Tryz.prog.info? 40).map (·.size) = some 2 := by kernel_rfl
theorem sz36 : (Tryz.prog.info? 41).map (·.size) = some 2 := by kernel_rfl
theorem sz37 : (Tryz.prog.info? 48).map (·.size) = some 1 := by kernel_rfl
theorem sz38 : (Tryz.prog.info? 49).map (·.size) = some 1 := by kernel_rfl
theorem sz39 : (Tryz.prog.info? 55).map (·.size) = some 1 := by kernel_rfl
theorem sz40 : (Tryz.prog.info? 56).map (·.size) = some 1 := by kernel_rfl
theorem sz41 : (Tryz.prog.info? 29).map (·.size) = some 1 := by kernel_rfl
theorem sz42 : (Tryz.prog.info? 46).map (·.size) = some 1 := by kernel_rfl
theorem sz43 : (Tryz.prog.info? 60).map (·.size) = some 1 := by kernel_rfl
theorem sz44 : (Tryz.prog.info? 37).map (·.size) = some 1 := by kernel_rfl
theorem sz45 : (Tryz.prog.info? 27).map (·.size) = some 1 := by kernel_rfl
theorem sz46 : (Tryz.prog.info? 32).map (·.size) = some 1 := by kernel_rfl
theorem sz47 : (Tryz.prog.info? 33).map (·.size) = some 1 := by kernel_rfl
theorem sz48 : (Tryz.prog.info? 38).map (·.size) = some 1 := by kernel_rfl
theorem sz49 : (Tryz.prog.info? 30).map (·.size) = some 1 := by kernel_rfl
theorem sz51 : (Tryz.prog.info? 59).map (·.size) = some 1 := by kernel_rfl
theorem sz52 : (Tryz.prog.info? 45).map (·.size) = some 1 := by kernel_rfl
theorem sz53 : (Tryz.prog.info? 53).map (·.size) = some 1 := by kernel_rfl
theorem sz54 : (Tryz.prog.info? 61).map (·.size) = some 1 := by kernel_rfl
theorem sz55 : (Tryz.prog.info? 52).map (·.size) = some 1 := by kernel_rfl
theorem sz56 : (Tryz.prog.info? 80).map (·.size) = some 1 := by kernel_rfl
theorem sz57 : (Tryz.prog.info? 65).map (·.size) = some 1 := by kernel_rfl
theorem sz58 : (Tryz.prog.info? 71).map (·.size) = some 4 := by kernel_rfl
theorem sz59 : (Tryz.prog.info? 72).map (·.size) = some 4 := by kernel_rfl
theorem sz60 : (Tryz.prog.info? 76).map (·.size) = some 1 := by kernel_rfl
theorem sz61 : (Tryz.prog.info? 67).map (·.size) = some 0 := by kernel_rfl
theorem sz62 : (Tryz.prog.info? 68).map (·.size) = some 0 := by kernel_rfl
theorem sz63 : (Tryz.prog.info? 81).map (·.size) = some 1 := by kernel_rfl
theorem sz68 : (Tryz.prog.info? 87).map (·.size) = some 1 := by kernel_rfl
theorem sz69 : (Tryz.prog.info? 88).map (·.size) = some 1 := by kernel_rfl
theorem sz70 : (Tryz.prog.info? 51).map (·.size) = some 1 := by kernel_rfl
theorem sz71 : (Tryz.prog.info? 97).map (·.size) = some 1 := by kernel_rfl
theorem sz72 : (Tryz.prog.info? 57).map (·.size) = some 1 := by kernel_rfl
theorem sz75 : (Tryz.prog.info? 73).map (·.size) = some 1 := by kernel_rfl
theorem sz76 : (Tryz.prog.info? 74).map (·.size) = some 1 := by kernel_rfl
theorem sz77 : (Tryz.prog.info? 75).map (·.size) = some 1 := by kernel_rfl
theorem sz78 : (Tryz.prog.info? 83).map (·.size) = some 1 := by kernel_rfl
theorem sz79 : (Tryz.prog.info? 84).map (·.size) = some 1 := by kernel_rfl
theorem sz80 : (Tryz.prog.info? 85).map (·.size) = some 1 := by kernel_rfl
theorem sz81 : (Tryz.prog.info? 77).map (·.size) = some 1 := by kernel_rfl
theorem sz82 : (Tryz.prog.info? 86).map (·.size) = some 1 := by kernel_rfl
theorem sz83 : (Tryz.prog.info? 102).map (·.size) = some 1 := by kernel_rfl
theorem sz84 : (Tryz.prog.info? 70).map (·.size) = some 1 := by kernel_rfl
theorem sz86 : (Tryz.prog.info? 82).map (·.size) = some 1 := by kernel_rfl
theorem sz87 : (Tryz.prog.info? 62).map (·.size) = some 1 := by kernel_rfl
theorem sz88 : (Tryz.prog.info? 63).map (·.size) = some 2 := by kernel_rfl
theorem sz89 : (Tryz.prog.info? 78).map (·.size) = some 1 := by kernel_rfl
theorem sz90 : (Tryz.prog.info? 79).map (·.size) = some 1 := by kernel_rfl
theorem sz91 : (Tryz.prog.info? 64).map (·.size) = some 1 := by kernel_rfl
theorem sz92 : (Tryz.prog.info? 66).map (·.size) = some 1 := by kernel_rfl
theorem sz93 : (Tryz.prog.info? 69).map (·.size) = some 1 := by kernel_rfl
theorem sz94 : (Tryz.prog.info? 94).map (·.size) = some 1 := by kernel_rfl
theorem sz95 : (Tryz.prog.info? 103).map (·.size) = some 1 := by kernel_rfl
theorem sz96 : (Tryz.prog.info? 98).map (·.size) = some 1 := by kernel_rfl
theorem sz97 : (Tryz.prog.info? 104).map (·.size) = some 1 := by kernel_rfl
theorem sz98 : (Tryz.prog.info? 96).map (·.size) = some 1 := by kernel_rfl
theorem sz99 : (Tryz.prog.info? 105).map (·.size) = some 1 := by kernel_rfl
theorem sz100 : (Tryz.prog.info? 106).map (·.size) = some 1 := by kernel_rfl
theorem sz101 : (Tryz.prog.info? 110).map (·.size) = some 1 := by kernel_rfl
theorem sz102 : (Tryz.prog.info? 107).map (·.size) = some 1 := by kernel_rfl
theorem sz105 : (Tryz.prog.info? 99).map (·.size) = some 1 := by kernel_rfl
theorem sz106 : (Tryz.prog.info? 100).map (·.size) = some 1 := by kernel_rfl
theorem sz107 : (Tryz.prog.info? 101).map (·.size) = some 1 := by kernel_rfl
theorem sz108 : (Tryz.prog.info? 200).map (·.size) = some 1 := by kernel_rfl
theorem sz109 : (Tryz.prog.info? 109).map (·.size) = some 1 := by kernel_rfl
theorem sz110 : (Tryz.prog.info? 128).map (·.size) = some 1 := by kernel_rfl
theorem sz111 : (Tryz.prog.info? 108).map (·.size) = some 1 := by kernel_rfl
theorem sz112 : (Tryz.prog.info? 111).map (·.size) = some 1 := by kernel_rfl
theorem sz113 : (Tryz.prog.info? 112).map (·.size) = some 1 := by kernel_rfl
theorem sz114 : (Tryz.prog.info? 113).map (·.size) = some 1 := by kernel_rfl
theorem sz115 : (Tryz.prog.info? 122).map (·.size) = some 1 := by kernel_rfl
theorem sz116 : (Tryz.prog.info? 129).map (·.size) = some 1 := by kernel_rfl
theorem sz117 : (Tryz.prog.info? 130).map (·.size) = some 1 := by kernel_rfl
theorem sz118 : (Tryz.prog.info? 131).map (·.size) = some 1 := by kernel_rfl
theorem sz119 : (Tryz.prog.info? 132).map (·.size) = some 1 := by kernel_rfl
theorem sz120 : (Tryz.prog.info? 133).map (·.size) = some 1 := by kernel_rfl
theorem sz121 : (Tryz.prog.info? 134).map (·.size) = some 1 := by kernel_rfl
theorem sz122 : (Tryz.prog.info? 162).map (·.size) = some 1 := by kernel_rfl
theorem sz123 : (Tryz.prog.info? 115).map (·.size) = some 1 := by kernel_rfl
theorem sz124 : (Tryz.prog.info? 116).map (·.size) = some 2 := by kernel_rfl
theorem sz125 : (Tryz.prog.info? 117).map (·.size) = some 2 := by kernel_rfl
theorem sz126 : (Tryz.prog.info? 118).map (·.size) = some 1 := by kernel_rfl
theorem sz127 : (Tryz.prog.info? 119).map (·.size) = some 1 := by kernel_rfl
theorem sz128 : (Tryz.prog.info? 123).map (·.size) = some 1 := by kernel_rfl
theorem sz129 : (Tryz.prog.info? 124).map (·.size) = some 1 := by kernel_rfl
theorem sz130 : (Tryz.prog.info? 125).map (·.size) = some 1 := by kernel_rfl
theorem sz131 : (Tryz.prog.info? 126).map (·.size) = some 1 := by kernel_rfl
theorem sz132 : (Tryz.prog.info? 121).map (·.size) = some 1 := by kernel_rfl
theorem sz133 : (Tryz.prog.info? 127).map (·.size) = some 1 := by kernel_rfl
theorem sz134 : (Tryz.prog.info? 163).map (·.size) = some 1 := by kernel_rfl
theorem sz135 : (Tryz.prog.info? 164).map (·.size) = some 1 := by kernel_rfl
theorem sz136 : (Tryz.prog.info? 161).map (·.size) = some 1 := by kernel_rfl
theorem sz137 : (Tryz.prog.info? 135).map (·.size) = some 1 := by kernel_rfl
theorem sz138 : (Tryz.prog.info? 136).map (·.size) = some 1 := by kernel_rfl
theorem sz139 : (Tryz.prog.info? 137).map (·.size) = some 1 := by kernel_rfl
theorem sz140 : (Tryz.prog.info? 138).map (·.size) = some 1 := by kernel_rfl
theorem sz141 : (Tryz.prog.info? 139).map (·.size) = some 1 := by kernel_rfl
theorem sz142 : (Tryz.prog.info? 140).map (·.size) = some 1 := by kernel_rfl
theorem sz143 : (Tryz.prog.info? 141).map (·.size) = some 1 := by kernel_rfl
theorem sz144 : (Tryz.prog.info? 144).map (·.size) = some 1 := by kernel_rfl
theorem sz145 : (Tryz.prog.info? 165).map (·.size) = some 1 := by kernel_rfl
theorem sz146 : (Tryz.prog.info? 142).map (·.size) = some 1 := by kernel_rfl
theorem sz147 : (Tryz.prog.info? 147).map (·.size) = some 1 := by kernel_rfl
theorem sz148 : (Tryz.prog.info? 148).map (·.size) = some 1 := by kernel_rfl
theorem sz149 : (Tryz.prog.info? 149).map (·.size) = some 1 := by kernel_rfl
theorem sz150 : (Tryz.prog.info? 156).map (·.size) = some 1 := by kernel_rfl
theorem sz151 : (Tryz.prog.info? 157).map (·.size) = some 1 := by kernel_rfl
theorem sz152 : (Tryz.prog.info? 158).map (·.size) = some 1 := by kernel_rfl
theorem sz153 : (Tryz.prog.info? 159).map (·.size) = some 1 := by kernel_rfl
theorem sz154 : (Tryz.prog.info? 160).map (·.size) = some 1 := by kernel_rfl
theorem sz155 : (Tryz.prog.info? 143).map (·.size) = some 1 := by kernel_rfl
theorem sz156 : (Tryz.prog.info? 145).map (·.size) = some 2 := by kernel_rfl
theorem sz157 : (Tryz.prog.info? 146).map (·.size) = some 2 := by kernel_rfl
theorem sz158 : (Tryz.prog.info? 150).map (·.size) = some 1 := by kernel_rfl
theorem sz159 : (Tryz.prog.info? 151).map (·.size) = some 1 := by kernel_rfl
theorem sz160 : (Tryz.prog.info? 152).map (·.size) = some 1 := by kernel_rfl
theorem sz161 : (Tryz.prog.info? 153).map (·.size) = some 1 := by kernel_rfl
theorem sz162 : (Tryz.prog.info? 154).map (·.size) = some 1 := by kernel_rfl
theorem sz163 : (Tryz.prog.info? 155).map (·.size) = some 1 := by kernel_rfl
theorem sz164 : (Tryz.prog.info? 93).map (·.size) = some 1 := by kernel_rfl
theorem sz165 : (Tryz.prog.info? 166).map (·.size) = some 1 := by kernel_rfl
theorem sz166 : (Tryz.prog.info? 167).map (·.size) = some 1 := by kernel_rfl
theorem sz167 : (Tryz.prog.info? 168).map (·.size) = some 1 := by kernel_rfl
theorem sz168 : (Tryz.prog.info? 169).map (·.size) = some 1 := by kernel_rfl
theorem sz169 : (Tryz.prog.info? 170).map (·.size) = some 1 := by kernel_rfl
theorem sz170 : (Tryz.prog.info? 171).map (·.size) = some 256 := by kernel_rfl
theorem sz171 : (Tryz.prog.info? 172).map (·.size) = some 256 := by kernel_rfl
theorem sz172 : (Tryz.prog.info? 173).map (·.size) = some 1 := by kernel_rfl
theorem sz173 : (Tryz.prog.info? 174).map (·.size) = some 1 := by kernel_rfl
theorem sz174 : (Tryz.prog.info? 175).map (·.size) = some 1 := by kernel_rfl
theorem sz175 : (Tryz.prog.info? 176).map (·.size) = some 1 := by kernel_rfl
theorem sz176 : (Tryz.prog.info? 177).map (·.size) = some 1 := by kernel_rfl
theorem sz177 : (Tryz.prog.info? 178).map (·.size) = some 1 := by kernel_rfl
theorem sz178 : (Tryz.prog.info? 179).map (·.size) = some 1 := by kernel_rfl
theorem sz179 : (Tryz.prog.info? 180).map (·.size) = some 1 := by kernel_rfl
theorem sz180 : (Tryz.prog.info? 181).map (·.size) = some 1 := by kernel_rfl
theorem sz181 : (Tryz.prog.info? 182).map (·.size) = some 1 := by kernel_rfl
theorem sz182 : (Tryz.prog.info? 183).map (·.size) = some 1 := by kernel_rfl
theorem sz183 : (Tryz.prog.info? 184).map (·.size) = some 1 := by kernel_rfl
theorem sz184 : (Tryz.prog.info? 185).map (·.size) = some 1 := by kernel_rfl
theorem sz185 : (Tryz.prog.info? 186).map (·.size) = some 1 := by kernel_rfl
theorem sz186 : (Tryz.prog.info? 187).map (·.size) = some 1 := by kernel_rfl
theorem sz187 : (Tryz.prog.info? 188).map (·.size) = some 1 := by kernel_rfl
theorem sz188 : (Tryz.prog.info? 189).map (·.size) = some 1 := by kernel_rfl
theorem sz189 : (Tryz.prog.info? 190).map (·.size) = some 1 := by kernel_rfl
theorem sz190 : (Tryz.prog.info? 191).map (·.size) = some 24 := by kernel_rfl
theorem sz191 : (Tryz.prog.info? 192).map (·.size) = some 1 := by kernel_rfl
theorem sz192 : (Tryz.prog.info? 193).map (·.size) = some 1 := by kernel_rfl
theorem sz193 : (Tryz.prog.info? 194).map (·.size) = some 1 := by kernel_rfl
theorem sz194 : (Tryz.prog.info? 195).map (·.size) = some 1 := by kernel_rfl
theorem sz195 : (Tryz.prog.info? 196).map (·.size) = some 1 := by kernel_rfl
theorem sz196 : (Tryz.prog.info? 197).map (·.size) = some 1 := by kernel_rfl
theorem sz197 : (Tryz.prog.info? 198).map (·.size) = some 1 := by kernel_rfl
theorem sz198 : (Tryz.prog.info? 199).map (·.size) = some 1 := by kernel_rfl
theorem sz199 : (Tryz.prog.info? 201).map (·.size) = some 3 := by kernel_rfl
theorem sz200 : (Tryz.prog.info? 202).map (·.size) = some 3 := by kernel_rfl
theorem sz201 : (Tryz.prog.info? 203).map (·.size) = some 1 := by kernel_rfl
theorem sz202 : (Tryz.prog.info? 204).map (·.size) = some 1 := by kernel_rfl
theorem sz203 : (Tryz.prog.info? 205).map (·.size) = some 20 := by kernel_rfl
theorem sz204 : (Tryz.prog.info? 206).map (·.size) = some 65 := by kernel_rfl
theorem sz205 : (Tryz.prog.info? 207).map (·.size) = some 1 := by kernel_rfl
theorem sz206 : (Tryz.prog.info? 208).map (·.size) = some 256 := by kernel_rfl
theorem sz207 : (Tryz.prog.info? 209).map (·.size) = some 2 := by kernel_rfl
theorem sz208 : (Tryz.prog.info? 210).map (·.size) = some 2 := by kernel_rfl
theorem sz209 : (Tryz.prog.info? 211).map (·.size) = some 32 := by kernel_rfl
theorem sz210 : (Tryz.prog.info? 212).map (·.size) = some 1 := by kernel_rfl
theorem sz211 : (Tryz.prog.info? 213).map (·.size) = some 1 := by kernel_rfl
theorem sz212 : (Tryz.prog.info? 214).map (·.size) = some 1 := by kernel_rfl
theorem sz213 : (Tryz.prog.info? 215).map (·.size) = some 1 := by kernel_rfl
theorem sz214 : (Tryz.prog.info? 216).map (·.size) = some 1 := by kernel_rfl
theorem sz215 : (Tryz.prog.info? 217).map (·.size) = some 1 := by kernel_rfl
theorem sz216 : (Tryz.prog.info? 218).map (·.size) = some 1 := by kernel_rfl
theorem sz217 : (Tryz.prog.info? 219).map (·.size) = some 32 := by kernel_rfl
theorem sz218 : (Tryz.prog.info? 220).map (·.size) = some 64 := by kernel_rfl
theorem sz219 : (Tryz.prog.info? 221).map (·.size) = some 4 := by kernel_rfl
theorem sz220 : (Tryz.prog.info? 222).map (·.size) = some 4 := by kernel_rfl
theorem sz221 : (Tryz.prog.info? 223).map (·.size) = some 0 := by kernel_rfl
theorem sz222 : (Tryz.prog.info? 224).map (·.size) = some 0 := by kernel_rfl
theorem sz223 : (Tryz.prog.info? 225).map (·.size) = some 0 := by kernel_rfl
theorem sz224 : (Tryz.prog.info? 226).map (·.size) = some 1 := by kernel_rfl
theorem sz225 : (Tryz.prog.info? 227).map (·.size) = some 1 := by kernel_rfl
theorem sz226 : (Tryz.prog.info? 228).map (·.size) = some 1 := by kernel_rfl
theorem sz227 : (Tryz.prog.info? 229).map (·.size) = some 1 := by kernel_rfl
theorem sz228 : (Tryz.prog.info? 230).map (·.size) = some 1 := by kernel_rfl
theorem sz229 : (Tryz.prog.info? 231).map (·.size) = some 11 := by kernel_rfl
theorem sz230 : (Tryz.prog.info? 232).map (·.size) = some 11 := by kernel_rfl
theorem sz231 : (Tryz.prog.info? 233).map (·.size) = some 1 := by kernel_rfl
theorem sz232 : (Tryz.prog.info? 95).map (·.size) = some 1 := by kernel_rfl
theorem sz233 : (Tryz.prog.info? 89).map (·.size) = some 1 := by kernel_rfl
theorem sz234 : (Tryz.prog.info? 90).map (·.size) = some 1 := by kernel_rfl
theorem sz235 : (Tryz.prog.info? 91).map (·.size) = some 1 := by kernel_rfl
theorem sz236 : (Tryz.prog.info? 92).map (·.size) = some 1 := by kernel_rfl
theorem sz237 : (Tryz.prog.info? 114).map (·.size) = some 1 := by kernel_rfl
theorem sz238 : (Tryz.prog.info? 120).map (·.size) = some 1 := by kernel_rfl
theorem sz1039 : (Tryz.prog.info? 39).map (·.size) = some 1 := by kernel_rfl
theorem sz1043 : (Tryz.prog.info? 43).map (·.size) = some 1 := by kernel_rfl
theorem sz1047 : (Tryz.prog.info? 47).map (·.size) = some 1 := by kernel_rfl
theorem sz1050 : (Tryz.prog.info? 50).map (·.size) = some 1 := by kernel_rfl
theorem sz1054 : (Tryz.prog.info? 54).map (·.size) = some 1 := by kernel_rfl
theorem sz1058 : (Tryz.prog.info? 58).map (·.size) = some 1 := by kernel_rfl
def U0 := Tryz.underlying0
def U1 := Tryz.underlying1
def U2 := Tryz.underlying2
def U3 := Tryz.underlying3
def U4 := Tryz.underlying4
def U5 := Tryz.underlying5
def U6 := Tryz.underlying6
def U7 := Tryz.underlying7
def U8 := Tryz.underlying8
def U9 := Tryz.underlying9
def U10 := Tryz.underlying10
def U11 := Tryz.underlying11
def U12 := Tryz.underlying12
def U13 := Tryz.underlying13
def U14 := Tryz.underlying14
def U15 := Tryz.underlying15
def U16 := Tryz.underlying16
def U17 := Tryz.underlying17
def U18 := Tryz.underlying18
def U19 := Tryz.underlying19
def U20 := Tryz.underlying20
def U21 := Tryz.underlying21
def U22 := Tryz.underlying24
def U23 := Tryz.underlying26
def U24 := Tryz.underlying22
def U25 := Tryz.underlying23
def U26 := Tryz.underlying42
def U27 := Tryz.underlying34
def U28 := Tryz.underlying31
def U29 := Tryz.underlying25
def U30 := Tryz.underlying44
def U32 := Tryz.underlying28
def U33 := Tryz.underlying35
def U34 := Tryz.underlying36
def U35 := Tryz.underlying40
def U36 := Tryz.underlying41
def U37 := Tryz.underlying48
def U38 := Tryz.underlying49
def U39 := Tryz.underlying55
def U40 := Tryz.underlying56
def U41 := Tryz.underlying29
def U42 := Tryz.underlying46
def U43 := Tryz.underlying60
def U44 := Tryz.underlying37
def U45 := Tryz.underlying27
def U46 := Tryz.underlying32
def U47 := Tryz.underlying33
def U48 := Tryz.underlying38
def U49 := Tryz.underlying30
def U51 := Tryz.underlying59
def U52 := Tryz.underlying45
def U53 := Tryz.underlying53
def U54 := Tryz.underlying61
def U55 := Tryz.underlying52
def U56 := Tryz.underlying80
def U57 := Tryz.underlying65
def U58 := Tryz.underlying71
def U59 := Tryz.underlying72
def U60 := Tryz.underlying76
def U61 := Tryz.underlying67
def U62 := Tryz.underlying68
def U63 := Tryz.underlying81
def U68 := Tryz.underlying87
def U69 := Tryz.underlying88
def U70 := Tryz.underlying51
def U71 := Tryz.underlying97
def U72 := Tryz.underlying57
def U75 := Tryz.underlying73
def U76 := Tryz.underlying74
def U77 := Tryz.underlying75
def U78 := Tryz.underlying83
def U79 := Tryz.underlying84
def U80 := Tryz.underlying85
def U81 := Tryz.underlying77
def U82 := Tryz.underlying86
def U83 := Tryz.underlying102
def U84 := Tryz.underlying70
def U86 := Tryz.underlying82
def U87 := Tryz.underlying62
def U88 := Tryz.underlying63
def U89 := Tryz.underlying78
def U90 := Tryz.underlying79
def U91 := Tryz.underlying64
def U92 := Tryz.underlying66
def U93 := Tryz.underlying69
def U94 := Tryz.underlying94
def U95 := Tryz.underlying103
def U96 := Tryz.underlying98
def U97 := Tryz.underlying104
def U98 := Tryz.underlying96
def U99 := Tryz.underlying105
def U100 := Tryz.underlying106
def U101 := Tryz.underlying110
def U102 := Tryz.underlying107
def U105 := Tryz.underlying99
def U106 := Tryz.underlying100
def U107 := Tryz.underlying101
def U108 := Tryz.underlying200
def U109 := Tryz.underlying109
def U110 := Tryz.underlying128
def U111 := Tryz.underlying108
def U112 := Tryz.underlying111
def U113 := Tryz.underlying112
def U114 := Tryz.underlying113
def U115 := Tryz.underlying122
def U116 := Tryz.underlying129
def U117 := Tryz.underlying130
def U118 := Tryz.underlying131
def U119 := Tryz.underlying132
def U120 := Tryz.underlying133
def U121 := Tryz.underlying134
def U122 := Tryz.underlying162
def U123 := Tryz.underlying115
def U124 := Tryz.underlying116
def U125 := Tryz.underlying117
def U126 := Tryz.underlying118
def U127 := Tryz.underlying119
def U128 := Tryz.underlying123
def U129 := Tryz.underlying124
def U130 := Tryz.underlying125
def U131 := Tryz.underlying126
def U132 := Tryz.underlying121
def U133 := Tryz.underlying127
def U134 := Tryz.underlying163
def U135 := Tryz.underlying164
def U136 := Tryz.underlying161
def U137 := Tryz.underlying135
def U138 := Tryz.underlying136
def U139 := Tryz.underlying137
def U140 := Tryz.underlying138
def U141 := Tryz.underlying139
def U142 := Tryz.underlying140
def U143 := Tryz.underlying141
def U144 := Tryz.underlying144
def U145 := Tryz.underlying165
def U146 := Tryz.underlying142
def U147 := Tryz.underlying147
def U148 := Tryz.underlying148
def U149 := Tryz.underlying149
def U150 := Tryz.underlying156
def U151 := Tryz.underlying157
def U152 := Tryz.underlying158
def U153 := Tryz.underlying159
def U154 := Tryz.underlying160
def U155 := Tryz.underlying143
def U156 := Tryz.underlying145
def U157 := Tryz.underlying146
def U158 := Tryz.underlying150
def U159 := Tryz.underlying151
def U160 := Tryz.underlying152
def U161 := Tryz.underlying153
def U162 := Tryz.underlying154
def U163 := Tryz.underlying155
def U164 := Tryz.underlying93
def U165 := Tryz.underlying166
def U166 := Tryz.underlying167
def U167 := Tryz.underlying168
def U168 := Tryz.underlying169
def U169 := Tryz.underlying170
def U170 := Tryz.underlying171
def U171 := Tryz.underlying172
def U172 := Tryz.underlying173
def U173 := Tryz.underlying174
def U174 := Tryz.underlying175
def U175 := Tryz.underlying176
def U176 := Tryz.underlying177
def U177 := Tryz.underlying178
def U178 := Tryz.underlying179
def U179 := Tryz.underlying180
def U180 := Tryz.underlying181
def U181 := Tryz.underlying182
def U182 := Tryz.underlying183
def U183 := Tryz.underlying184
def U184 := Tryz.underlying185
def U185 := Tryz.underlying186
def U186 := Tryz.underlying187
def U187 := Tryz.underlying188
def U188 := Tryz.underlying189
def U189 := Tryz.underlying190
def U190 := Tryz.underlying191
def U191 := Tryz.underlying192
def U192 := Tryz.underlying193
def U193 := Tryz.underlying194
def U194 := Tryz.underlying195
def U195 := Tryz.underlying196
def U196 := Tryz.underlying197
def U197 := Tryz.underlying198
def U198 := Tryz.underlying199
def U199 := Tryz.underlying201
def U200 := Tryz.underlying202
def U201 := Tryz.underlying203
def U202 := Tryz.underlying204
def U203 := Tryz.underlying205
def U204 := Tryz.underlying206
def U205 := Tryz.underlying207
def U206 := Tryz.underlying208
def U207 := Tryz.underlying209
def U208 := Tryz.underlying210
def U209 := Tryz.underlying211
def U210 := Tryz.underlying212
def U211 := Tryz.underlying213
def U212 := Tryz.underlying214
def U213 := Tryz.underlying215
def U214 := Tryz.underlying216
def U215 := Tryz.underlying217
def U216 := Tryz.underlying218
def U217 := Tryz.underlying219
def U218 := Tryz.underlying220
def U219 := Tryz.underlying221
def U220 := Tryz.underlying222
def U221 := Tryz.underlying223
def U222 := Tryz.underlying224
def U223 := Tryz.underlying225
def U224 := Tryz.underlying226
def U225 := Tryz.underlying227
def U226 := Tryz.underlying228
def U227 := Tryz.underlying229
def U228 := Tryz.underlying230
def U229 := Tryz.underlying231
def U230 := Tryz.underlying232
def U231 := Tryz.underlying233
def U232 := Tryz.underlying95
def U233 := Tryz.underlying89
def U234 := Tryz.underlying90
def U235 := Tryz.underlying91
def U236 := Tryz.underlying92
def U237 := Tryz.underlying114
def U238 := Tryz.underlying120
def U1039 := Tryz.underlying39
def U1043 := Tryz.underlying43
def U1047 := Tryz.underlying47
def U1050 := Tryz.underlying50
def U1054 := Tryz.underlying54
def U1058 := Tryz.underlying58
theorem en4 : Enters Tryz.prog 11 := enters_mk Tryz.func11 (by kernel_rfl) (by kernel_rfl)
theorem en6 : Enters Tryz.prog 17 := enters_mk Tryz.func17 (by kernel_rfl) (by kernel_rfl)
theorem en7 : Enters Tryz.prog 15 := enters_mk Tryz.func15 (by kernel_rfl) (by kernel_rfl)
theorem en8 : Enters Tryz.prog 12 := enters_mk Tryz.func12 (by kernel_rfl) (by kernel_rfl)
theorem en9 : Enters Tryz.prog 22 := enters_mk Tryz.func22 (by kernel_rfl) (by kernel_rfl)
theorem en10 : Enters Tryz.prog 18 := enters_mk Tryz.func18 (by kernel_rfl) (by kernel_rfl)
theorem en12 : Enters Tryz.prog 25 := enters_mk Tryz.func25 (by kernel_rfl) (by kernel_rfl)
theorem en14 : Enters Tryz.prog 31 := enters_mk Tryz.func31 (by kernel_rfl) (by kernel_rfl)
theorem en16 : Enters Tryz.prog 24 := enters_mk Tryz.func24 (by kernel_rfl) (by kernel_rfl)
theorem en18 : Enters Tryz.prog 34 := enters_mk Tryz.func34 (by kernel_rfl) (by kernel_rfl)
theorem en20 : Enters Tryz.prog 19 := enters_mk Tryz.func19 (by kernel_rfl) (by kernel_rfl)
theorem en21 : Enters Tryz.prog 21 := enters_mk Tryz.func21 (by kernel_rfl) (by kernel_rfl)
theorem en23 : Enters Tryz.prog 13 := enters_mk Tryz.func13 (by kernel_rfl) (by kernel_rfl)
theorem en24 : Enters Tryz.prog 16 := enters_mk Tryz.func16 (by kernel_rfl) (by kernel_rfl)
theorem en26 : Enters Tryz.prog 20 := enters_mk Tryz.func20 (by kernel_rfl) (by kernel_rfl)
theorem en27 : Enters Tryz.prog 14 := enters_mk Tryz.func14 (by kernel_rfl) (by kernel_rfl)
theorem en29 : Enters Tryz.prog 33 := enters_mk Tryz.func33 (by kernel_rfl) (by kernel_rfl)
theorem en30 : Enters Tryz.prog 23 := enters_mk Tryz.func23 (by kernel_rfl) (by kernel_rfl)
theorem en31 : Enters Tryz.prog 35 := enters_mk Tryz.func35 (by kernel_rfl) (by kernel_rfl)
theorem en32 : Enters Tryz.prog 36 := enters_mk Tryz.func36 (by kernel_rfl) (by kernel_rfl)
theorem en33 : Enters Tryz.prog 37 := enters_mk Tryz.func37 (by kernel_rfl) (by kernel_rfl)
theorem en34 : Enters Tryz.prog 29 := enters_mk Tryz.func29 (by kernel_rfl) (by kernel_rfl)
theorem en35 : Enters Tryz.prog 51 := enters_mk Tryz.func51 (by kernel_rfl) (by kernel_rfl)
theorem en36 : Enters Tryz.prog 52 := enters_mk Tryz.func52 (by kernel_rfl) (by kernel_rfl)
theorem en37 : Enters Tryz.prog 46 := enters_mk Tryz.func46 (by kernel_rfl) (by kernel_rfl)
theorem en39 : Enters Tryz.prog 56 := enters_mk Tryz.func56 (by kernel_rfl) (by kernel_rfl)
theorem en40 : Enters Tryz.prog 60 := enters_mk Tryz.func60 (by kernel_rfl) (by kernel_rfl)
theorem en41 : Enters Tryz.prog 61 := enters_mk Tryz.func61 (by kernel_rfl) (by kernel_rfl)
theorem en42 : Enters Tryz.prog 62 := enters_mk Tryz.func62 (by kernel_rfl) (by kernel_rfl)
theorem en43 : Enters Tryz.prog 55 := enters_mk Tryz.func55 (by kernel_rfl) (by kernel_rfl)
theorem en44 : Enters Tryz.prog 54 := enters_mk Tryz.func54 (by kernel_rfl) (by kernel_rfl)
theorem en46 : Enters Tryz.prog 69 := enters_mk Tryz.func69 (by kernel_rfl) (by kernel_rfl)
theorem en47 : Enters Tryz.prog 70 := enters_mk Tryz.func70 (by kernel_rfl) (by kernel_rfl)
theorem en48 : Enters Tryz.prog 71 := enters_mk Tryz.func71 (by kernel_rfl) (by kernel_rfl)
theorem en49 : Enters Tryz.prog 32 := enters_mk Tryz.func32 (by kernel_rfl) (by kernel_rfl)
theorem en50 : Enters Tryz.prog 49 := enters_mk Tryz.func49 (by kernel_rfl) (by kernel_rfl)
theorem en53 : Enters Tryz.prog 43 := enters_mk Tryz.func43 (by kernel_rfl) (by kernel_rfl)
theorem en54 : Enters Tryz.prog 57 := enters_mk Tryz.func57 (by kernel_rfl) (by kernel_rfl)
theorem en55 : Enters Tryz.prog 45 := enters_mk Tryz.func45 (by kernel_rfl) (by kernel_rfl)
theorem en56 : Enters Tryz.prog 58 := enters_mk Tryz.func58 (by kernel_rfl) (by kernel_rfl)
theorem en57 : Enters Tryz.prog 59 := enters_mk Tryz.func59 (by kernel_rfl) (by kernel_rfl)
theorem en58 : Enters Tryz.prog 75 := enters_mk Tryz.func75 (by kernel_rfl) (by kernel_rfl)
theorem en59 : Enters Tryz.prog 76 := enters_mk Tryz.func76 (by kernel_rfl) (by kernel_rfl)
theorem en60 : Enters Tryz.prog 42 := enters_mk Tryz.func42 (by kernel_rfl) (by kernel_rfl)
theorem en62 : Enters Tryz.prog 53 := enters_mk Tryz.func53 (by kernel_rfl) (by kernel_rfl)
theorem en63 : Enters Tryz.prog 38 := enters_mk Tryz.func38 (by kernel_rfl) (by kernel_rfl)
theorem en64 : Enters Tryz.prog 44 := enters_mk Tryz.func44 (by kernel_rfl) (by kernel_rfl)
theorem en65 : Enters Tryz.prog 47 := enters_mk Tryz.func47 (by kernel_rfl) (by kernel_rfl)
theorem en66 : Enters Tryz.prog 48 := enters_mk Tryz.func48 (by kernel_rfl) (by kernel_rfl)
theorem en67 : Enters Tryz.prog 50 := enters_mk Tryz.func50 (by kernel_rfl) (by kernel_rfl)
theorem en68 : Enters Tryz.prog 39 := enters_mk Tryz.func39 (by kernel_rfl) (by kernel_rfl)
theorem en69 : Enters Tryz.prog 40 := enters_mk Tryz.func40 (by kernel_rfl) (by kernel_rfl)
theorem en70 : Enters Tryz.prog 41 := enters_mk Tryz.func41 (by kernel_rfl) (by kernel_rfl)
theorem en72 : Enters Tryz.prog 77 := enters_mk Tryz.func77 (by kernel_rfl) (by kernel_rfl)
theorem en73 : Enters Tryz.prog 78 := enters_mk Tryz.func78 (by kernel_rfl) (by kernel_rfl)
theorem en74 : Enters Tryz.prog 79 := enters_mk Tryz.func79 (by kernel_rfl) (by kernel_rfl)
theorem en75 : Enters Tryz.prog 80 := enters_mk Tryz.func80 (by kernel_rfl) (by kernel_rfl)
theorem en76 : Enters Tryz.prog 82 := enters_mk Tryz.func82 (by kernel_rfl) (by kernel_rfl)
theorem en77 : Enters Tryz.prog 86 := enters_mk Tryz.func86 (by kernel_rfl) (by kernel_rfl)
theorem en78 : Enters Tryz.prog 87 := enters_mk Tryz.func87 (by kernel_rfl) (by kernel_rfl)
theorem en81 : Enters Tryz.prog 106 := enters_mk Tryz.func106 (by kernel_rfl) (by kernel_rfl)
theorem en82 : Enters Tryz.prog 72 := enters_mk Tryz.func72 (by kernel_rfl) (by kernel_rfl)
theorem en83 : Enters Tryz.prog 73 := enters_mk Tryz.func73 (by kernel_rfl) (by kernel_rfl)
theorem en84 : Enters Tryz.prog 74 := enters_mk Tryz.func74 (by kernel_rfl) (by kernel_rfl)
theorem en85 : Enters Tryz.prog 108 := enters_mk Tryz.func108 (by kernel_rfl) (by kernel_rfl)
theorem en86 : Enters Tryz.prog 105 := enters_mk Tryz.func105 (by kernel_rfl) (by kernel_rfl)
theorem en88 : Enters Tryz.prog 85 := enters_mk Tryz.func85 (by kernel_rfl) (by kernel_rfl)
theorem en89 : Enters Tryz.prog 103 := enters_mk Tryz.func103 (by kernel_rfl) (by kernel_rfl)
theorem en90 : Enters Tryz.prog 83 := enters_mk Tryz.func83 (by kernel_rfl) (by kernel_rfl)
theorem en91 : Enters Tryz.prog 84 := enters_mk Tryz.func84 (by kernel_rfl) (by kernel_rfl)
theorem en92 : Enters Tryz.prog 81 := enters_mk Tryz.func81 (by kernel_rfl) (by kernel_rfl)
theorem en93 : Enters Tryz.prog 88 := enters_mk Tryz.func88 (by kernel_rfl) (by kernel_rfl)
theorem en95 : Enters Tryz.prog 104 := enters_mk Tryz.func104 (by kernel_rfl) (by kernel_rfl)
theorem en96 : Enters Tryz.prog 107 := enters_mk Tryz.func107 (by kernel_rfl) (by kernel_rfl)
theorem en97 : Enters Tryz.prog 109 := enters_mk Tryz.func109 (by kernel_rfl) (by kernel_rfl)
theorem en98 : Enters Tryz.prog 110 := enters_mk Tryz.func110 (by kernel_rfl) (by kernel_rfl)
theorem en99 : Enters Tryz.prog 111 := enters_mk Tryz.func111 (by kernel_rfl) (by kernel_rfl)
theorem en100 : Enters Tryz.prog 112 := enters_mk Tryz.func112 (by kernel_rfl) (by kernel_rfl)
theorem en101 : Enters Tryz.prog 136 := enters_mk Tryz.func136 (by kernel_rfl) (by kernel_rfl)
theorem en102 : Enters Tryz.prog 97 := enters_mk Tryz.func97 (by kernel_rfl) (by kernel_rfl)
theorem en103 : Enters Tryz.prog 92 := enters_mk Tryz.func92 (by kernel_rfl) (by kernel_rfl)
theorem en104 : Enters Tryz.prog 94 := enters_mk Tryz.func94 (by kernel_rfl) (by kernel_rfl)
theorem en105 : Enters Tryz.prog 98 := enters_mk Tryz.func98 (by kernel_rfl) (by kernel_rfl)
theorem en106 : Enters Tryz.prog 99 := enters_mk Tryz.func99 (by kernel_rfl) (by kernel_rfl)
theorem en107 : Enters Tryz.prog 100 := enters_mk Tryz.func100 (by kernel_rfl) (by kernel_rfl)
theorem en108 : Enters Tryz.prog 101 := enters_mk Tryz.func101 (by kernel_rfl) (by kernel_rfl)
theorem en109 : Enters Tryz.prog 96 := enters_mk Tryz.func96 (by kernel_rfl) (by kernel_rfl)
theorem en110 : Enters Tryz.prog 102 := enters_mk Tryz.func102 (by kernel_rfl) (by kernel_rfl)
theorem en111 : Enters Tryz.prog 137 := enters_mk Tryz.func137 (by kernel_rfl) (by kernel_rfl)
theorem en112 : Enters Tryz.prog 138 := enters_mk Tryz.func138 (by kernel_rfl) (by kernel_rfl)
theorem en113 : Enters Tryz.prog 139 := enters_mk Tryz.func139 (by kernel_rfl) (by kernel_rfl)
theorem en114 : Enters Tryz.prog 135 := enters_mk Tryz.func135 (by kernel_rfl) (by kernel_rfl)
theorem en115 : Enters Tryz.prog 114 := enters_mk Tryz.func114 (by kernel_rfl) (by kernel_rfl)
theorem en116 : Enters Tryz.prog 113 := enters_mk Tryz.func113 (by kernel_rfl) (by kernel_rfl)
theorem en117 : Enters Tryz.prog 115 := enters_mk Tryz.func115 (by kernel_rfl) (by kernel_rfl)
theorem en118 : Enters Tryz.prog 116 := enters_mk Tryz.func116 (by kernel_rfl) (by kernel_rfl)
theorem en119 : Enters Tryz.prog 140 := enters_mk Tryz.func140 (by kernel_rfl) (by kernel_rfl)
theorem en120 : Enters Tryz.prog 119 := enters_mk Tryz.func119 (by kernel_rfl) (by kernel_rfl)
theorem en121 : Enters Tryz.prog 120 := enters_mk Tryz.func120 (by kernel_rfl) (by kernel_rfl)
theorem en122 : Enters Tryz.prog 121 := enters_mk Tryz.func121 (by kernel_rfl) (by kernel_rfl)
theorem en123 : Enters Tryz.prog 126 := enters_mk Tryz.func126 (by kernel_rfl) (by kernel_rfl)
theorem en124 : Enters Tryz.prog 127 := enters_mk Tryz.func127 (by kernel_rfl) (by kernel_rfl)
theorem en125 : Enters Tryz.prog 128 := enters_mk Tryz.func128 (by kernel_rfl) (by kernel_rfl)
theorem en126 : Enters Tryz.prog 129 := enters_mk Tryz.func129 (by kernel_rfl) (by kernel_rfl)
theorem en127 : Enters Tryz.prog 130 := enters_mk Tryz.func130 (by kernel_rfl) (by kernel_rfl)
theorem en128 : Enters Tryz.prog 131 := enters_mk Tryz.func131 (by kernel_rfl) (by kernel_rfl)
theorem en129 : Enters Tryz.prog 132 := enters_mk Tryz.func132 (by kernel_rfl) (by kernel_rfl)
theorem en130 : Enters Tryz.prog 133 := enters_mk Tryz.func133 (by kernel_rfl) (by kernel_rfl)
theorem en131 : Enters Tryz.prog 122 := enters_mk Tryz.func122 (by kernel_rfl) (by kernel_rfl)
theorem en132 : Enters Tryz.prog 123 := enters_mk Tryz.func123 (by kernel_rfl) (by kernel_rfl)
theorem en133 : Enters Tryz.prog 124 := enters_mk Tryz.func124 (by kernel_rfl) (by kernel_rfl)
theorem en134 : Enters Tryz.prog 125 := enters_mk Tryz.func125 (by kernel_rfl) (by kernel_rfl)
theorem en135 : Enters Tryz.prog 134 := enters_mk Tryz.func134 (by kernel_rfl) (by kernel_rfl)
theorem en136 : Enters Tryz.prog 141 := enters_mk Tryz.func141 (by kernel_rfl) (by kernel_rfl)
theorem en137 : Enters Tryz.prog 142 := enters_mk Tryz.func142 (by kernel_rfl) (by kernel_rfl)
theorem en138 : Enters Tryz.prog 143 := enters_mk Tryz.func143 (by kernel_rfl) (by kernel_rfl)
theorem en139 : Enters Tryz.prog 144 := enters_mk Tryz.func144 (by kernel_rfl) (by kernel_rfl)
theorem en140 : Enters Tryz.prog 150 := enters_mk Tryz.func150 (by kernel_rfl) (by kernel_rfl)
theorem en141 : Enters Tryz.prog 145 := enters_mk Tryz.func145 (by kernel_rfl) (by kernel_rfl)
theorem en142 : Enters Tryz.prog 146 := enters_mk Tryz.func146 (by kernel_rfl) (by kernel_rfl)
theorem en143 : Enters Tryz.prog 147 := enters_mk Tryz.func147 (by kernel_rfl) (by kernel_rfl)
theorem en144 : Enters Tryz.prog 148 := enters_mk Tryz.func148 (by kernel_rfl) (by kernel_rfl)
theorem en145 : Enters Tryz.prog 149 := enters_mk Tryz.func149 (by kernel_rfl) (by kernel_rfl)
theorem en146 : Enters Tryz.prog 151 := enters_mk Tryz.func151 (by kernel_rfl) (by kernel_rfl)
theorem en147 : Enters Tryz.prog 152 := enters_mk Tryz.func152 (by kernel_rfl) (by kernel_rfl)
theorem en148 : Enters Tryz.prog 153 := enters_mk Tryz.func153 (by kernel_rfl) (by kernel_rfl)
theorem en149 : Enters Tryz.prog 154 := enters_mk Tryz.func154 (by kernel_rfl) (by kernel_rfl)
theorem en150 : Enters Tryz.prog 155 := enters_mk Tryz.func155 (by kernel_rfl) (by kernel_rfl)
theorem en151 : Enters Tryz.prog 156 := enters_mk Tryz.func156 (by kernel_rfl) (by kernel_rfl)
theorem en152 : Enters Tryz.prog 157 := enters_mk Tryz.func157 (by kernel_rfl) (by kernel_rfl)
theorem en153 : Enters Tryz.prog 158 := enters_mk Tryz.func158 (by kernel_rfl) (by kernel_rfl)
theorem en154 : Enters Tryz.prog 159 := enters_mk Tryz.func159 (by kernel_rfl) (by kernel_rfl)
theorem en155 : Enters Tryz.prog 160 := enters_mk Tryz.func160 (by kernel_rfl) (by kernel_rfl)
theorem en156 : Enters Tryz.prog 161 := enters_mk Tryz.func161 (by kernel_rfl) (by kernel_rfl)
theorem en157 : Enters Tryz.prog 162 := enters_mk Tryz.func162 (by kernel_rfl) (by kernel_rfl)
theorem en158 : Enters Tryz.prog 163 := enters_mk Tryz.func163 (by kernel_rfl) (by kernel_rfl)
theorem en159 : Enters Tryz.prog 164 := enters_mk Tryz.func164 (by kernel_rfl) (by kernel_rfl)
theorem en161 : Enters Tryz.prog 166 := enters_mk Tryz.func166 (by kernel_rfl) (by kernel_rfl)
theorem en162 : Enters Tryz.prog 167 := enters_mk Tryz.func167 (by kernel_rfl) (by kernel_rfl)
theorem en163 : Enters Tryz.prog 168 := enters_mk Tryz.func168 (by kernel_rfl) (by kernel_rfl)
theorem en164 : Enters Tryz.prog 169 := enters_mk Tryz.func169 (by kernel_rfl) (by kernel_rfl)
theorem en165 : Enters Tryz.prog 170 := enters_mk Tryz.func170 (by kernel_rfl) (by kernel_rfl)
theorem en166 : Enters Tryz.prog 171 := enters_mk Tryz.func171 (by kernel_rfl) (by kernel_rfl)
theorem en167 : Enters Tryz.prog 172 := enters_mk Tryz.func172 (by kernel_rfl) (by kernel_rfl)
theorem en168 : Enters Tryz.prog 173 := enters_mk Tryz.func173 (by kernel_rfl) (by kernel_rfl)
theorem en169 : Enters Tryz.prog 174 := enters_mk Tryz.func174 (by kernel_rfl) (by kernel_rfl)
theorem en170 : Enters Tryz.prog 175 := enters_mk Tryz.func175 (by kernel_rfl) (by kernel_rfl)
theorem en171 : Enters Tryz.prog 176 := enters_mk Tryz.func176 (by kernel_rfl) (by kernel_rfl)
theorem en172 : Enters Tryz.prog 177 := enters_mk Tryz.func177 (by kernel_rfl) (by kernel_rfl)
theorem en173 : Enters Tryz.prog 178 := enters_mk Tryz.func178 (by kernel_rfl) (by kernel_rfl)
theorem en175 : Enters Tryz.prog 180 := enters_mk Tryz.func180 (by kernel_rfl) (by kernel_rfl)
theorem en176 : Enters Tryz.prog 181 := enters_mk Tryz.func181 (by kernel_rfl) (by kernel_rfl)
theorem en177 : Enters Tryz.prog 182 := enters_mk Tryz.func182 (by kernel_rfl) (by kernel_rfl)
theorem en178 : Enters Tryz.prog 183 := enters_mk Tryz.func183 (by kernel_rfl) (by kernel_rfl)
theorem en179 : Enters Tryz.prog 184 := enters_mk Tryz.func184 (by kernel_rfl) (by kernel_rfl)
theorem en180 : Enters Tryz.prog 185 := enters_mk Tryz.func185 (by kernel_rfl) (by kernel_rfl)
theorem en181 : Enters Tryz.prog 186 := enters_mk Tryz.func186 (by kernel_rfl) (by kernel_rfl)
theorem en182 : Enters Tryz.prog 187 := enters_mk Tryz.func187 (by kernel_rfl) (by kernel_rfl)
theorem en183 : Enters Tryz.prog 188 := enters_mk Tryz.func188 (by kernel_rfl) (by kernel_rfl)
theorem en184 : Enters Tryz.prog 189 := enters_mk Tryz.func189 (by kernel_rfl) (by kernel_rfl)
theorem en185 : Enters Tryz.prog 190 := enters_mk Tryz.func190 (by kernel_rfl) (by kernel_rfl)
theorem en186 : Enters Tryz.prog 191 := enters_mk Tryz.func191 (by kernel_rfl) (by kernel_rfl)
theorem en187 : Enters Tryz.prog 192 := enters_mk Tryz.func192 (by kernel_rfl) (by kernel_rfl)
theorem en188 : Enters Tryz.prog 193 := enters_mk Tryz.func193 (by kernel_rfl) (by kernel_rfl)
theorem en190 : Enters Tryz.prog 195 := enters_mk Tryz.func195 (by kernel_rfl) (by kernel_rfl)
theorem en191 : Enters Tryz.prog 196 := enters_mk Tryz.func196 (by kernel_rfl) (by kernel_rfl)
theorem en192 : Enters Tryz.prog 197 := enters_mk Tryz.func197 (by kernel_rfl) (by kernel_rfl)
theorem en193 : Enters Tryz.prog 198 := enters_mk Tryz.func198 (by kernel_rfl) (by kernel_rfl)
theorem en194 : Enters Tryz.prog 199 := enters_mk Tryz.func199 (by kernel_rfl) (by kernel_rfl)
theorem en211 : Enters Tryz.prog 216 := enters_mk Tryz.func216 (by kernel_rfl) (by kernel_rfl)
theorem en212 : Enters Tryz.prog 217 := enters_mk Tryz.func217 (by kernel_rfl) (by kernel_rfl)
theorem en213 : Enters Tryz.prog 218 := enters_mk Tryz.func218 (by kernel_rfl) (by kernel_rfl)
theorem en214 : Enters Tryz.prog 219 := enters_mk Tryz.func219 (by kernel_rfl) (by kernel_rfl)
theorem en215 : Enters Tryz.prog 220 := enters_mk Tryz.func220 (by kernel_rfl) (by kernel_rfl)
theorem en216 : Enters Tryz.prog 221 := enters_mk Tryz.func221 (by kernel_rfl) (by kernel_rfl)
theorem en217 : Enters Tryz.prog 30 := enters_mk Tryz.func30 (by kernel_rfl) (by kernel_rfl)
theorem en218 : Enters Tryz.prog 222 := enters_mk Tryz.func222 (by kernel_rfl) (by kernel_rfl)
theorem en219 : Enters Tryz.prog 28 := enters_mk Tryz.func28 (by kernel_rfl) (by kernel_rfl)
theorem en220 : Enters Tryz.prog 63 := enters_mk Tryz.func63 (by kernel_rfl) (by kernel_rfl)
theorem en221 : Enters Tryz.prog 67 := enters_mk Tryz.func67 (by kernel_rfl) (by kernel_rfl)
theorem en222 : Enters Tryz.prog 68 := enters_mk Tryz.func68 (by kernel_rfl) (by kernel_rfl)
theorem en223 : Enters Tryz.prog 64 := enters_mk Tryz.func64 (by kernel_rfl) (by kernel_rfl)
theorem en224 : Enters Tryz.prog 65 := enters_mk Tryz.func65 (by kernel_rfl) (by kernel_rfl)
theorem en225 : Enters Tryz.prog 66 := enters_mk Tryz.func66 (by kernel_rfl) (by kernel_rfl)
theorem en226 : Enters Tryz.prog 89 := enters_mk Tryz.func89 (by kernel_rfl) (by kernel_rfl)
theorem en227 : Enters Tryz.prog 90 := enters_mk Tryz.func90 (by kernel_rfl) (by kernel_rfl)
theorem en228 : Enters Tryz.prog 95 := enters_mk Tryz.func95 (by kernel_rfl) (by kernel_rfl)
theorem en229 : Enters Tryz.prog 91 := enters_mk Tryz.func91 (by kernel_rfl) (by kernel_rfl)
theorem en230 : Enters Tryz.prog 93 := enters_mk Tryz.func93 (by kernel_rfl) (by kernel_rfl)
theorem en231 : Enters Tryz.prog 117 := enters_mk Tryz.func117 (by kernel_rfl) (by kernel_rfl)
theorem en232 : Enters Tryz.prog 118 := enters_mk Tryz.func118 (by kernel_rfl) (by kernel_rfl)
theorem en1003 : Enters Tryz.prog 3 := enters_mk Tryz.func3 (by kernel_rfl) (by kernel_rfl)
theorem en1004 : Enters Tryz.prog 4 := enters_mk Tryz.func4 (by kernel_rfl) (by kernel_rfl)
theorem en1005 : Enters Tryz.prog 5 := enters_mk Tryz.func5 (by kernel_rfl) (by kernel_rfl)
theorem en1006 : Enters Tryz.prog 6 := enters_mk Tryz.func6 (by kernel_rfl) (by kernel_rfl)
theorem en1007 : Enters Tryz.prog 7 := enters_mk Tryz.func7 (by kernel_rfl) (by kernel_rfl)
theorem en1008 : Enters Tryz.prog 8 := enters_mk Tryz.func8 (by kernel_rfl) (by kernel_rfl)
theorem en1009 : Enters Tryz.prog 9 := enters_mk Tryz.func9 (by kernel_rfl) (by kernel_rfl)
theorem en1010 : Enters Tryz.prog 10 := enters_mk Tryz.func10 (by kernel_rfl) (by kernel_rfl)
theorem en1026 : Enters Tryz.prog 26 := enters_mk Tryz.func26 (by kernel_rfl) (by kernel_rfl)
theorem en1027 : Enters Tryz.prog 27 := enters_mk Tryz.func27 (by kernel_rfl) (by kernel_rfl)
theorem hmix : Tryz.prog.follows .mixedOrders = true := by kernel_rfl
end Go.Proofs.YtepcnphmfbbhiaaGreatDoor
