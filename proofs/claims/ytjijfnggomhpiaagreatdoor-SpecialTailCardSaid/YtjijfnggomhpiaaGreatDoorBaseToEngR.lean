/- Part of the proof of a statement about the special functions. -/
import Derived.Test.YtjijfnggomhpiaaGreatDoorLib9ToEng
import Derived.Test.YtjijfnggomhpiaaGreatDoorProg
import Derived.KernelRfl
set_option linter.all false
namespace Go.Proofs.YtjijfnggomhpiaaGreatDoor
open Go Go.Eng Go.RowKit
theorem inf1 : Inf Tryz.prog 1 (.nilFunc) 1 8 := by unfold Inf; kernel_rfl
theorem inf2 : Inf Tryz.prog 2 (.int .i64 (0)) 1 8 := by unfold Inf; kernel_rfl
theorem inf3 : Inf Tryz.prog 3 (.int .i64 (0)) 1 8 := by unfold Inf; kernel_rfl
theorem inf4 : Inf Tryz.prog 4 (.bool (false)) 1 1 := by unfold Inf; kernel_rfl
theorem inf5 : Inf Tryz.prog 5 (.int .u8 (0)) 1 1 := by unfold Inf; kernel_rfl
theorem inf6 : Inf Tryz.prog 6 (.int .u8 (0)) 1 1 := by unfold Inf; kernel_rfl
theorem inf7 : Inf Tryz.prog 7 (.agg #[.int .i64 (0), .int .i64 (0), .bool (false), .int .u8 (0)]) 4 24 := by unfold Inf; kernel_rfl
theorem inf8 : Inf Tryz.prog 8 (.agg #[.int .i64 (0), .int .i64 (0), .bool (false), .int .u8 (0)]) 4 24 := by unfold Inf; kernel_rfl
theorem inf9 : Inf Tryz.prog 9 (S ([])) 1 16 := by unfold Inf; kernel_rfl
theorem inf10 : Inf Tryz.prog 10 (S ([])) 1 16 := by unfold Inf; kernel_rfl
theorem inf11 : Inf Tryz.prog 11 (S ([])) 1 16 := by unfold Inf; kernel_rfl
theorem inf12 : Inf Tryz.prog 12 (.int .u64 (0)) 1 8 := by unfold Inf; kernel_rfl
theorem inf13 : Inf Tryz.prog 13 (.agg #[S ([]), .int .u64 (0)]) 2 24 := by unfold Inf; kernel_rfl
theorem inf14 : Inf Tryz.prog 14 (.agg #[S ([]), .int .u64 (0)]) 2 24 := by unfold Inf; kernel_rfl
theorem inf15 : Inf Tryz.prog 15 (.pointer none) 1 8 := by unfold Inf; kernel_rfl
theorem inf16 : Inf Tryz.prog 16 (.pointer none) 1 8 := by unfold Inf; kernel_rfl
theorem inf17 : Inf Tryz.prog 17 (.pointer none) 1 8 := by unfold Inf; kernel_rfl
theorem inf18 : Inf Tryz.prog 18 (.agg #[.pointer none]) 1 8 := by unfold Inf; kernel_rfl
theorem inf19 : Inf Tryz.prog 19 (.agg #[.pointer none]) 1 8 := by unfold Inf; kernel_rfl
theorem inf20 : Inf Tryz.prog 20 (.nilIface) 1 16 := by unfold Inf; kernel_rfl
theorem inf21 : Inf Tryz.prog 21 (.int .i32 (0)) 1 4 := by unfold Inf; kernel_rfl
theorem inf23 : Inf Tryz.prog 111 (.slice (none) (0) (0)) 1 24 := by unfold Inf; kernel_rfl
theorem inf24 : Inf Tryz.prog 94 (.slice (none) (0) (0)) 1 24 := by unfold Inf; kernel_rfl
theorem inf25 : Inf Tryz.prog 23 (.nilFunc) 1 8 := by unfold Inf; kernel_rfl
theorem inf32 : Inf Tryz.prog 30 (.int .i64 (0)) 1 8 := by unfold Inf; kernel_rfl
theorem inf35 : Inf Tryz.prog 24 (.agg #[S ([]), S ([])]) 2 32 := by unfold Inf; kernel_rfl
theorem inf36 : Inf Tryz.prog 25 (.agg #[S ([]), S ([])]) 2 32 := by unfold Inf; kernel_rfl
theorem inf51 : Inf Tryz.prog 34 (.nilFunc) 1 8 := by unfold Inf; kernel_rfl
theorem inf53 : Inf Tryz.prog 27 (.nilFunc) 1 8 := by unfold Inf; kernel_rfl
theorem inf54 : Inf Tryz.prog 54 (.nilFunc) 1 8 := by unfold Inf; kernel_rfl
theorem inf55 : Inf Tryz.prog 39 (.nilFunc) 1 8 := by unfold Inf; kernel_rfl
theorem inf63 : Inf Tryz.prog 152 (.nilFunc) 1 8 := by unfold Inf; kernel_rfl
theorem inf70 : Inf Tryz.prog 110 (.nilFunc) 1 8 := by unfold Inf; kernel_rfl
theorem inf72 : Inf Tryz.prog 33 (.nilFunc) 1 8 := by unfold Inf; kernel_rfl
theorem inf88 : Inf Tryz.prog 22 (.agg #[.int .i64 (0), .int .i64 (0)]) 2 16 := by unfold Inf; kernel_rfl
theorem inf94 : Inf Tryz.prog 64 (.nilFunc) 1 8 := by unfold Inf; kernel_rfl
theorem inf95 : Inf Tryz.prog 106 (.nilFunc) 1 8 := by unfold Inf; kernel_rfl
theorem inf96 : Inf Tryz.prog 50 (.nilFunc) 1 8 := by unfold Inf; kernel_rfl
theorem inf98 : Inf Tryz.prog 88 (.nilFunc) 1 8 := by unfold Inf; kernel_rfl
theorem inf102 : Inf Tryz.prog 85 (.nilFunc) 1 8 := by unfold Inf; kernel_rfl
theorem inf106 : Inf Tryz.prog 52 (.nilFunc) 1 8 := by unfold Inf; kernel_rfl
theorem inf107 : Inf Tryz.prog 53 (.nilFunc) 1 8 := by unfold Inf; kernel_rfl
theorem inf108 : Inf Tryz.prog 208 (.nilFunc) 1 8 := by unfold Inf; kernel_rfl
theorem inf112 : Inf Tryz.prog 148 (.int .u64 (0)) 1 8 := by unfold Inf; kernel_rfl
theorem inf114 : Inf Tryz.prog 150 (.nilFunc) 1 8 := by unfold Inf; kernel_rfl
theorem inf115 : Inf Tryz.prog 92 (.nilFunc) 1 8 := by unfold Inf; kernel_rfl
theorem inf123 : Inf Tryz.prog 95 (.slice (none) (0) (0)) 1 24 := by unfold Inf; kernel_rfl
theorem inf124 : Inf Tryz.prog 96 (.agg #[.bool (false), .slice (none) (0) (0)]) 2 32 := by unfold Inf; kernel_rfl
theorem inf125 : Inf Tryz.prog 97 (.agg #[.bool (false), .slice (none) (0) (0)]) 2 32 := by unfold Inf; kernel_rfl
theorem inf127 : Inf Tryz.prog 99 (.nilFunc) 1 8 := by unfold Inf; kernel_rfl
theorem inf129 : Inf Tryz.prog 101 (.nilFunc) 1 8 := by unfold Inf; kernel_rfl
theorem inf130 : Inf Tryz.prog 102 (.nilFunc) 1 8 := by unfold Inf; kernel_rfl
theorem inf131 : Inf Tryz.prog 103 (.nilFunc) 1 8 := by unfold Inf; kernel_rfl
theorem inf132 : Inf Tryz.prog 104 (.nilFunc) 1 8 := by unfold Inf; kernel_rfl
theorem inf133 : Inf Tryz.prog 105 (.nilFunc) 1 8 := by unfold Inf; kernel_rfl
theorem inf138 : Inf Tryz.prog 161 (.int .u32 (0)) 1 4 := by unfold Inf; kernel_rfl
theorem inf140 : Inf Tryz.prog 163 (.nilFunc) 1 8 := by unfold Inf; kernel_rfl
theorem inf141 : Inf Tryz.prog 164 (.int .u64 (0)) 1 8 := by unfold Inf; kernel_rfl
theorem inf143 : Inf Tryz.prog 166 (.nilFunc) 1 8 := by unfold Inf; kernel_rfl
theorem inf144 : Inf Tryz.prog 139 (.slice (none) (0) (0)) 1 24 := by unfold Inf; kernel_rfl
theorem inf146 : Inf Tryz.prog 130 (.nilFunc) 1 8 := by unfold Inf; kernel_rfl
theorem inf147 : Inf Tryz.prog 131 (.nilFunc) 1 8 := by unfold Inf; kernel_rfl
theorem inf148 : Inf Tryz.prog 132 (.nilFunc) 1 8 := by unfold Inf; kernel_rfl
theorem inf149 : Inf Tryz.prog 133 (.nilFunc) 1 8 := by unfold Inf; kernel_rfl
theorem inf150 : Inf Tryz.prog 134 (.nilFunc) 1 8 := by unfold Inf; kernel_rfl
theorem inf151 : Inf Tryz.prog 135 (.nilFunc) 1 8 := by unfold Inf; kernel_rfl
theorem inf152 : Inf Tryz.prog 136 (.nilFunc) 1 8 := by unfold Inf; kernel_rfl
theorem inf153 : Inf Tryz.prog 137 (.nilFunc) 1 8 := by unfold Inf; kernel_rfl
theorem inf154 : Inf Tryz.prog 57 (.nilFunc) 1 8 := by unfold Inf; kernel_rfl
theorem inf155 : Inf Tryz.prog 138 (.pointer none) 1 8 := by unfold Inf; kernel_rfl
theorem inf156 : Inf Tryz.prog 140 (.agg #[.pointer none, .slice (none) (0) (0)]) 2 32 := by unfold Inf; kernel_rfl
theorem inf157 : Inf Tryz.prog 141 (.agg #[.pointer none, .slice (none) (0) (0)]) 2 32 := by unfold Inf; kernel_rfl
theorem inf158 : Inf Tryz.prog 120 (.nilFunc) 1 8 := by unfold Inf; kernel_rfl
theorem inf159 : Inf Tryz.prog 122 (.nilIface) 1 16 := by unfold Inf; kernel_rfl
theorem inf160 : Inf Tryz.prog 123 (.nilIface) 1 16 := by unfold Inf; kernel_rfl
theorem inf162 : Inf Tryz.prog 143 (.nilFunc) 1 8 := by unfold Inf; kernel_rfl
theorem inf163 : Inf Tryz.prog 144 (.nilFunc) 1 8 := by unfold Inf; kernel_rfl
theorem inf164 : Inf Tryz.prog 63 (.nilFunc) 1 8 := by unfold Inf; kernel_rfl
theorem inf165 : Inf Tryz.prog 159 (.nilFunc) 1 8 := by unfold Inf; kernel_rfl
theorem inf166 : Inf Tryz.prog 82 (.nilFunc) 1 8 := by unfold Inf; kernel_rfl
theorem inf167 : Inf Tryz.prog 151 (.nilFunc) 1 8 := by unfold Inf; kernel_rfl
theorem inf168 : Inf Tryz.prog 160 (.pointer none) 1 8 := by unfold Inf; kernel_rfl
theorem inf169 : Inf Tryz.prog 178 (.nilFunc) 1 8 := by unfold Inf; kernel_rfl
theorem inf173 : Inf Tryz.prog 182 (.nilFunc) 1 8 := by unfold Inf; kernel_rfl
theorem inf174 : Inf Tryz.prog 183 (.nilFunc) 1 8 := by unfold Inf; kernel_rfl
theorem inf175 : Inf Tryz.prog 184 (.pointer none) 1 8 := by unfold Inf; kernel_rfl
theorem inf176 : Inf Tryz.prog 185 (.nilFunc) 1 8 := by unfold Inf; kernel_rfl
theorem inf177 : Inf Tryz.prog 186 (.nilFunc) 1 8 := by unfold Inf; kernel_rfl
theorem inf178 : Inf Tryz.prog 187 (.pointer none) 1 8 := by unfold Inf; kernel_rfl
theorem inf179 : Inf Tryz.prog 188 (.nilFunc) 1 8 := by unfold Inf; kernel_rfl
theorem inf180 : Inf Tryz.prog 190 (.nilFunc) 1 8 := by unfold Inf; kernel_rfl
theorem inf182 : Inf Tryz.prog 192 (.nilFunc) 1 8 := by unfold Inf; kernel_rfl
theorem inf183 : Inf Tryz.prog 193 (.nilFunc) 1 8 := by unfold Inf; kernel_rfl
theorem inf184 : Inf Tryz.prog 194 (.int .i64 (0)) 1 8 := by unfold Inf; kernel_rfl
theorem inf186 : Inf Tryz.prog 196 (.nilFunc) 1 8 := by unfold Inf; kernel_rfl
theorem inf187 : Inf Tryz.prog 197 (.pointer none) 1 8 := by unfold Inf; kernel_rfl
theorem inf188 : Inf Tryz.prog 198 (.nilFunc) 1 8 := by unfold Inf; kernel_rfl
theorem inf189 : Inf Tryz.prog 199 (.nilFunc) 1 8 := by unfold Inf; kernel_rfl
theorem inf191 : Inf Tryz.prog 201 (.nilFunc) 1 8 := by unfold Inf; kernel_rfl
theorem inf192 : Inf Tryz.prog 202 (.nilFunc) 1 8 := by unfold Inf; kernel_rfl
theorem inf194 : Inf Tryz.prog 204 (.nilFunc) 1 8 := by unfold Inf; kernel_rfl
theorem inf195 : Inf Tryz.prog 189 (.nilFunc) 1 8 := by unfold Inf; kernel_rfl
theorem inf196 : Inf Tryz.prog 205 (.nilFunc) 1 8 := by unfold Inf; kernel_rfl
theorem inf198 : Inf Tryz.prog 207 (.nilFunc) 1 8 := by unfold Inf; kernel_rfl
theorem inf199 : Inf Tryz.prog 209 (.agg #[S ([]), S ([]), .nilIface]) 3 48 := by unfold Inf; kernel_rfl
theorem inf200 : Inf Tryz.prog 210 (.agg #[S ([]), S ([]), .nilIface]) 3 48 := by unfold Inf; kernel_rfl
theorem inf201 : Inf Tryz.prog 211 (.nilFunc) 1 8 := by unfold Inf; kernel_rfl
theorem inf202 : Inf Tryz.prog 212 (.nilFunc) 1 8 := by unfold Inf; kernel_rfl
theorem inf205 : Inf Tryz.prog 215 (.nilFunc) 1 8 := by unfold Inf; kernel_rfl
theorem inf207 : Inf Tryz.prog 217 (.agg #[.int .u8 (0), .int .u8 (0)]) 2 2 := by unfold Inf; kernel_rfl
theorem inf208 : Inf Tryz.prog 218 (.agg #[.int .u8 (0), .int .u8 (0)]) 2 2 := by unfold Inf; kernel_rfl
theorem inf210 : Inf Tryz.prog 220 (.nilFunc) 1 8 := by unfold Inf; kernel_rfl
theorem inf211 : Inf Tryz.prog 221 (.nilFunc) 1 8 := by unfold Inf; kernel_rfl
theorem inf212 : Inf Tryz.prog 222 (.nilFunc) 1 8 := by unfold Inf; kernel_rfl
theorem inf213 : Inf Tryz.prog 223 (.pointer none) 1 8 := by unfold Inf; kernel_rfl
theorem inf214 : Inf Tryz.prog 224 (.agg #[S ([])]) 1 16 := by unfold Inf; kernel_rfl
theorem inf215 : Inf Tryz.prog 225 (.agg #[S ([])]) 1 16 := by unfold Inf; kernel_rfl
theorem inf216 : Inf Tryz.prog 226 (.nilFunc) 1 8 := by unfold Inf; kernel_rfl
theorem inf219 : Inf Tryz.prog 229 (.agg #[.pointer none, .pointer none, .pointer none, S ([])]) 4 40 := by unfold Inf; kernel_rfl
theorem inf220 : Inf Tryz.prog 230 (.agg #[.pointer none, .pointer none, .pointer none, S ([])]) 4 40 := by unfold Inf; kernel_rfl
theorem inf221 : Inf Tryz.prog 231 (.agg #[]) 0 0 := by unfold Inf; kernel_rfl
theorem inf222 : Inf Tryz.prog 232 (.agg #[]) 0 0 := by unfold Inf; kernel_rfl
theorem inf223 : Inf Tryz.prog 233 (.agg #[]) 0 0 := by unfold Inf; kernel_rfl
theorem inf224 : Inf Tryz.prog 234 (.int .u8 (0)) 1 1 := by unfold Inf; kernel_rfl
theorem inf225 : Inf Tryz.prog 235 (.int .u8 (0)) 1 1 := by unfold Inf; kernel_rfl
theorem inf226 : Inf Tryz.prog 236 (.nilFunc) 1 8 := by unfold Inf; kernel_rfl
theorem inf227 : Inf Tryz.prog 237 (.int .i32 (0)) 1 4 := by unfold Inf; kernel_rfl
theorem inf228 : Inf Tryz.prog 238 (.int .i32 (0)) 1 4 := by unfold Inf; kernel_rfl
theorem inf231 : Inf Tryz.prog 107 (.nilFunc) 1 8 := by unfold Inf; kernel_rfl
theorem inf232 : Inf Tryz.prog 87 (.nilFunc) 1 8 := by unfold Inf; kernel_rfl
theorem inf233 : Inf Tryz.prog 59 (.pointer none) 1 8 := by unfold Inf; kernel_rfl
theorem inf234 : Inf Tryz.prog 60 (.agg #[.bool (false)]) 1 1 := by unfold Inf; kernel_rfl
theorem inf235 : Inf Tryz.prog 61 (.agg #[.bool (false)]) 1 1 := by unfold Inf; kernel_rfl
theorem inf236 : Inf Tryz.prog 62 (.nilFunc) 1 8 := by unfold Inf; kernel_rfl
theorem inf237 : Inf Tryz.prog 112 (.nilFunc) 1 8 := by unfold Inf; kernel_rfl
theorem inf238 : Inf Tryz.prog 129 (.nilFunc) 1 8 := by unfold Inf; kernel_rfl
theorem inf1031 : Inf Tryz.prog 28 (.agg #[S ([]), S ([]), S ([]), S ([])]) 4 64 := by unfold Inf; kernel_rfl
theorem inf1032 : Inf Tryz.prog 29 (.agg #[S ([]), S ([]), S ([]), S ([])]) 4 64 := by unfold Inf; kernel_rfl
theorem inf1034 : Inf Tryz.prog 41 (.nilFunc) 1 8 := by unfold Inf; kernel_rfl
theorem inf1039 : Inf Tryz.prog 42 (.nilFunc) 1 8 := by unfold Inf; kernel_rfl
theorem inf1040 : Inf Tryz.prog 43 (.nilFunc) 1 8 := by unfold Inf; kernel_rfl
theorem inf1042 : Inf Tryz.prog 36 (.nilFunc) 1 8 := by unfold Inf; kernel_rfl
theorem inf1045 : Inf Tryz.prog 49 (.nilFunc) 1 8 := by unfold Inf; kernel_rfl
theorem inf1049 : Inf Tryz.prog 65 (.nilFunc) 1 8 := by unfold Inf; kernel_rfl
theorem inf1050 : Inf Tryz.prog 66 (.nilFunc) 1 8 := by unfold Inf; kernel_rfl
theorem inf1051 : Inf Tryz.prog 67 (.agg #[S ([]), S ([]), S ([]), S ([]), S ([]), S ([]), S ([]), S ([]), .nilFunc]) 9 136 := by unfold Inf; kernel_rfl
theorem inf1052 : Inf Tryz.prog 68 (.agg #[S ([]), S ([]), S ([]), S ([]), S ([]), S ([]), S ([]), S ([]), .nilFunc]) 9 136 := by unfold Inf; kernel_rfl
theorem inf1053 : Inf Tryz.prog 69 (.agg #[.int .i64 (0), S ([])]) 2 24 := by unfold Inf; kernel_rfl
theorem inf1054 : Inf Tryz.prog 70 (.agg #[.int .i64 (0), S ([])]) 2 24 := by unfold Inf; kernel_rfl
theorem inf1055 : Inf Tryz.prog 71 (.agg #[S ([]), S ([])]) 2 32 := by unfold Inf; kernel_rfl
theorem inf1056 : Inf Tryz.prog 72 (.agg #[S ([]), S ([])]) 2 32 := by unfold Inf; kernel_rfl
theorem inf1058 : Inf Tryz.prog 75 (.nilFunc) 1 8 := by unfold Inf; kernel_rfl
theorem inf1059 : Inf Tryz.prog 76 (.nilFunc) 1 8 := by unfold Inf; kernel_rfl
theorem inf1060 : Inf Tryz.prog 77 (.nilFunc) 1 8 := by unfold Inf; kernel_rfl
theorem inf1061 : Inf Tryz.prog 78 (.nilFunc) 1 8 := by unfold Inf; kernel_rfl
theorem inf1062 : Inf Tryz.prog 79 (.nilFunc) 1 8 := by unfold Inf; kernel_rfl
theorem inf1063 : Inf Tryz.prog 80 (.nilFunc) 1 8 := by unfold Inf; kernel_rfl
theorem inf1069 : Inf Tryz.prog 81 (.nilFunc) 1 8 := by unfold Inf; kernel_rfl
theorem inf1073 : Inf Tryz.prog 55 (.nilFunc) 1 8 := by unfold Inf; kernel_rfl
theorem inf1074 : Inf Tryz.prog 56 (.nilFunc) 1 8 := by unfold Inf; kernel_rfl
theorem inf1077 : Inf Tryz.prog 83 (.nilFunc) 1 8 := by unfold Inf; kernel_rfl
theorem inf1078 : Inf Tryz.prog 84 (.nilFunc) 1 8 := by unfold Inf; kernel_rfl
theorem inf1080 : Inf Tryz.prog 86 (.nilFunc) 1 8 := by unfold Inf; kernel_rfl
theorem inf1081 : Inf Tryz.prog 58 (.nilFunc) 1 8 := by unfold Inf; kernel_rfl
theorem inf1082 : Inf Tryz.prog 47 (.nilFunc) 1 8 := by unfold Inf; kernel_rfl
theorem inf1099 : Inf Tryz.prog 113 (.nilFunc) 1 8 := by unfold Inf; kernel_rfl
theorem inf1100 : Inf Tryz.prog 114 (.nilFunc) 1 8 := by unfold Inf; kernel_rfl
theorem inf1101 : Inf Tryz.prog 115 (.nilFunc) 1 8 := by unfold Inf; kernel_rfl
theorem inf1102 : Inf Tryz.prog 116 (.nilFunc) 1 8 := by unfold Inf; kernel_rfl
theorem inf1103 : Inf Tryz.prog 117 (.nilFunc) 1 8 := by unfold Inf; kernel_rfl
theorem inf1104 : Inf Tryz.prog 118 (.nilFunc) 1 8 := by unfold Inf; kernel_rfl
theorem inf1113 : Inf Tryz.prog 108 (.nilFunc) 1 8 := by unfold Inf; kernel_rfl
theorem inf1114 : Inf Tryz.prog 109 (.nilFunc) 1 8 := by unfold Inf; kernel_rfl
theorem inf1116 : Inf Tryz.prog 121 (.slice (none) (0) (0)) 1 24 := by unfold Inf; kernel_rfl
theorem inf1120 : Inf Tryz.prog 125 (.nilFunc) 1 8 := by unfold Inf; kernel_rfl
theorem inf1121 : Inf Tryz.prog 126 (.nilFunc) 1 8 := by unfold Inf; kernel_rfl
theorem inf1122 : Inf Tryz.prog 127 (.nilFunc) 1 8 := by unfold Inf; kernel_rfl
theorem inf1123 : Inf Tryz.prog 119 (.nilFunc) 1 8 := by unfold Inf; kernel_rfl
theorem inf1136 : Inf Tryz.prog 146 (.nilFunc) 1 8 := by unfold Inf; kernel_rfl
theorem inf1146 : Inf Tryz.prog 145 (.nilFunc) 1 8 := by unfold Inf; kernel_rfl
theorem inf1147 : Inf Tryz.prog 153 (.nilIface) 1 16 := by unfold Inf; kernel_rfl
theorem inf1148 : Inf Tryz.prog 154 (.nilIface) 1 16 := by unfold Inf; kernel_rfl
theorem inf1149 : Inf Tryz.prog 155 (.nilFunc) 1 8 := by unfold Inf; kernel_rfl
theorem inf1150 : Inf Tryz.prog 156 (.nilFunc) 1 8 := by unfold Inf; kernel_rfl
theorem inf1151 : Inf Tryz.prog 157 (.nilFunc) 1 8 := by unfold Inf; kernel_rfl
theorem inf1152 : Inf Tryz.prog 147 (.nilFunc) 1 8 := by unfold Inf; kernel_rfl
theorem inf1160 : Inf Tryz.prog 167 (.agg #[.pointer none]) 1 8 := by unfold Inf; kernel_rfl
theorem inf1161 : Inf Tryz.prog 168 (.agg #[.pointer none]) 1 8 := by unfold Inf; kernel_rfl
theorem inf1162 : Inf Tryz.prog 169 (.pointer none) 1 8 := by unfold Inf; kernel_rfl
theorem inf1163 : Inf Tryz.prog 170 (.nilIface) 1 16 := by unfold Inf; kernel_rfl
theorem inf1165 : Inf Tryz.prog 172 (.nilFunc) 1 8 := by unfold Inf; kernel_rfl
theorem inf1166 : Inf Tryz.prog 173 (.nilIface) 1 16 := by unfold Inf; kernel_rfl
theorem inf1167 : Inf Tryz.prog 174 (.nilFunc) 1 8 := by unfold Inf; kernel_rfl
theorem inf1168 : Inf Tryz.prog 175 (.nilIface) 1 16 := by unfold Inf; kernel_rfl
theorem inf1169 : Inf Tryz.prog 176 (.slice (none) (0) (0)) 1 24 := by unfold Inf; kernel_rfl
theorem inf1170 : Inf Tryz.prog 177 (.nilFunc) 1 8 := by unfold Inf; kernel_rfl
theorem inf1234 : Inf Tryz.prog 89 (.nilFunc) 1 8 := by unfold Inf; kernel_rfl
theorem inf1235 : Inf Tryz.prog 241 (.nilFunc) 1 8 := by unfold Inf; kernel_rfl
theorem inf1236 : Inf Tryz.prog 242 (.nilFunc) 1 8 := by unfold Inf; kernel_rfl
theorem inf1237 : Inf Tryz.prog 243 (.nilFunc) 1 8 := by unfold Inf; kernel_rfl
theorem inf1238 : Inf Tryz.prog 244 (.nilFunc) 1 8 := by unfold Inf; kernel_rfl
theorem inf1239 : Inf Tryz.prog 245 (.nilFunc) 1 8 := by unfold Inf; kernel_rfl
theorem inf1240 : Inf Tryz.prog 246 (.nilFunc) 1 8 := by unfold Inf; kernel_rfl
theorem inf1241 : Inf Tryz.prog 247 (.agg #[S ([]), .int .u8 (0)]) 2 24 := by unfold Inf; kernel_rfl
theorem inf1242 : Inf Tryz.prog 248 (.agg #[S ([]), .int .u8 (0)]) 2 24 := by unfold Inf; kernel_rfl
theorem inf1243 : Inf Tryz.prog 249 (.pointer none) 1 8 := by unfold Inf; kernel_rfl
theorem inf1244 : Inf Tryz.prog 250 (.nilFunc) 1 8 := by unfold Inf; kernel_rfl
theorem inf1245 : Inf Tryz.prog 251 (.int .u16 (0)) 1 2 := by unfold Inf; kernel_rfl
theorem inf1246 : Inf Tryz.prog 252 (.agg #[.int .i32 (0), .int .u16 (0), .int .u16 (0), .int .u32 (0), .int .u32 (0)]) 5 16 := by unfold Inf; kernel_rfl
theorem inf1247 : Inf Tryz.prog 253 (.agg #[.int .i32 (0), .int .u16 (0), .int .u16 (0), .int .u32 (0), .int .u32 (0)]) 5 16 := by unfold Inf; kernel_rfl
theorem inf1248 : Inf Tryz.prog 254 (.slice (none) (0) (0)) 1 24 := by unfold Inf; kernel_rfl
theorem inf1249 : Inf Tryz.prog 255 (.int .i32 (0)) 1 4 := by unfold Inf; kernel_rfl
theorem inf1250 : Inf Tryz.prog 256 (.agg #[.int .i32 (0), .int .i32 (0), .int .i32 (0), .int .i32 (0)]) 4 16 := by unfold Inf; kernel_rfl
theorem inf1251 : Inf Tryz.prog 257 (.agg #[.int .i32 (0), .int .i32 (0), .int .i32 (0), .int .i32 (0)]) 4 16 := by unfold Inf; kernel_rfl
theorem inf2080 : Inf Tryz.prog 128 (.nilFunc) 1 8 := by unfold Inf; kernel_rfl
theorem inf2125 : Inf Tryz.prog 158 (.nilFunc) 1 8 := by unfold Inf; kernel_rfl
theorem inf5026 : Inf Tryz.prog 26 (.nilFunc) 1 8 := by unfold Inf; kernel_rfl
theorem inf5032 : Inf Tryz.prog 32 (.nilFunc) 1 8 := by unfold Inf; kernel_rfl
theorem inf5035 : Inf Tryz.prog 35 (.nilFunc) 1 8 := by unfold Inf; kernel_rfl
theorem inf5037 : Inf Tryz.prog 37 (.nilFunc) 1 8 := by unfold Inf; kernel_rfl
theorem inf5040 : Inf Tryz.prog 40 (.nilFunc) 1 8 := by unfold Inf; kernel_rfl
theorem inf5044 : Inf Tryz.prog 44 (.nilFunc) 1 8 := by unfold Inf; kernel_rfl
theorem inf5046 : Inf Tryz.prog 46 (.nilFunc) 1 8 := by unfold Inf; kernel_rfl
theorem inf5048 : Inf Tryz.prog 48 (.nilFunc) 1 8 := by unfold Inf; kernel_rfl
theorem inf5073 : Inf Tryz.prog 73 (.nilFunc) 1 8 := by unfold Inf; kernel_rfl
theorem inf5091 : Inf Tryz.prog 91 (.nilFunc) 1 8 := by unfold Inf; kernel_rfl
theorem sz0 : (Tryz.prog.info? 0).map (·.size) = some 1 := by kernel_rfl
theorem sz1 : (Tryz.prog.info? 1).map (·.size) = some 1 := by kernel_rfl
theorem sz2 : (Tryz.prog.info? 2).map (·.size) = some 1 := by kernel_rfl
theorem sz3 : (Tryz.prog.info? 3).map (·.size) = some 1 := by kernel_rfl
theorem sz4 : (Tryz.prog.info? 4).map (·.size) = some 1 := by kernel_rfl
theorem sz5 : (Tryz.prog.info? 5).map (·.size) = some 1 := by kernel_rfl
theorem sz6 : (Tryz.prog.info? 6).map (·.size) = some 1 := by kernel_rfl
theorem sz7 : (Tryz.prog.info? 7).map (·.size) = some 4 := by kernel_rfl
theorem sz8 : (Tryz.prog.info? 8).map (·.size) = some 4 := by kernel_rfl
theorem sz9 : (Tryz.prog.info? 9).map (·.size) = some 1 := by kernel_rfl
theorem sz10 : (Tryz.prog.info? 10).map (·.size) = some 1 := by kernel_rfl
theorem sz11 : (Tryz.prog.info? 11).map (·.size) = some 1 := by kernel_rfl
theorem sz12 : (Tryz.prog.info? 12).map (·.size) = some 1 := by kernel_rfl
theorem sz13 : (Tryz.prog.info? 13).map (·.size) = some 2 := by kernel_rfl
theorem sz14 : (Tryz.prog.info? 14).map (·.size) = some 2 := by kernel_rfl
theorem sz15 : (Tryz.prog.info? 15).map (·.size) = some 1 := by kernel_rfl
theorem sz16 : (Tryz.prog.info? 16).map (·.size) = some 1 := by kernel_rfl
theorem sz17 : (Tryz.prog.info? 17).map (·.size) = some 1 := by kernel_rfl
theorem sz18 : (Tryz.prog.info? 18).map (·.size) = some 1 := by kernel_rfl
theorem sz19 : (Tryz.prog.info? 19).map (·.size) = some 1 := by kernel_rfl
theorem sz20 : (Tryz.prog.info? 20).map (·.size) = some 1 := by kernel_rfl
theorem sz21 : (Tryz.prog.info? 21).map (·.size) = some 1 := by kernel_rfl
theorem sz23 : (Tryz.prog.info? 111).map (·.size) = some 1 := by kernel_rfl
theorem sz24 : (Tryz.prog.info? 94).map (·.size) = some 1 := by kernel_rfl
theorem sz25 : (Tryz.prog.info? 23).map (·.size) = some 1 := by kernel_rfl
theorem sz32 : (Tryz.prog.info? 30).map (·.size) = some 1 := by kernel_rfl
theorem sz35 : (Tryz.prog.info? 24).map (·.size) = some 2 := by kernel_rfl
theorem sz36 : (Tryz.prog.info? 25).map (·.size) = some 2 := by kernel_rfl
theorem sz37 : (Tryz.prog.info? 38).map (·.size) = some 1 := by kernel_rfl
theorem sz39 : (Tryz.prog.info? 90).map (·.size) = some 1 := by kernel_rfl
theorem sz51 : (Tryz.prog.info? 34).map (·.size) = some 1 := by kernel_rfl
theorem sz53 : (Tryz.prog.info? 27).map (·.size) = some 1 := by kernel_rfl
theorem sz54 : (Tryz.prog.info? 54).map (·.size) = some 1 := by kernel_rfl
theorem sz55 : (Tryz.prog.info? 39).map (·.size) = some 1 := by kernel_rfl
theorem sz63 : (Tryz.prog.info? 152).map (·.size) = some 1 := by kernel_rfl
theorem sz70 : (Tryz.prog.info? 110).map (·.size) = some 1 := by kernel_rfl
theorem sz72 : (Tryz.prog.info? 33).map (·.size) = some 1 := by kernel_rfl
theorem sz88 : (Tryz.prog.info? 22).map (·.size) = some 2 := by kernel_rfl
theorem sz94 : (Tryz.prog.info? 64).map (·.size) = some 1 := by kernel_rfl
theorem sz95 : (Tryz.prog.info? 106).map (·.size) = some 1 := by kernel_rfl
theorem sz96 : (Tryz.prog.info? 50).map (·.size) = some 1 := by kernel_rfl
theorem sz97 : (Tryz.prog.info? 93).map (·.size) = some 1 := by kernel_rfl
theorem sz98 : (Tryz.prog.info? 88).map (·.size) = some 1 := by kernel_rfl
theorem sz102 : (Tryz.prog.info? 85).map (·.size) = some 1 := by kernel_rfl
theorem sz105 : (Tryz.prog.info? 51).map (·.size) = some 1 := by kernel_rfl
theorem sz106 : (Tryz.prog.info? 52).map (·.size) = some 1 := by kernel_rfl
theorem sz107 : (Tryz.prog.info? 53).map (·.size) = some 1 := by kernel_rfl
theorem sz108 : (Tryz.prog.info? 208).map (·.size) = some 1 := by kernel_rfl
theorem sz112 : (Tryz.prog.info? 148).map (·.size) = some 1 := by kernel_rfl
theorem sz113 : (Tryz.prog.info? 149).map (·.size) = some 1 := by kernel_rfl
theorem sz114 : (Tryz.prog.info? 150).map (·.size) = some 1 := by kernel_rfl
theorem sz115 : (Tryz.prog.info? 92).map (·.size) = some 1 := by kernel_rfl
theorem sz116 : (Tryz.prog.info? 74).map (·.size) = some 1 := by kernel_rfl
theorem sz123 : (Tryz.prog.info? 95).map (·.size) = some 1 := by kernel_rfl
theorem sz124 : (Tryz.prog.info? 96).map (·.size) = some 2 := by kernel_rfl
theorem sz125 : (Tryz.prog.info? 97).map (·.size) = some 2 := by kernel_rfl
theorem sz126 : (Tryz.prog.info? 98).map (·.size) = some 1 := by kernel_rfl
theorem sz127 : (Tryz.prog.info? 99).map (·.size) = some 1 := by kernel_rfl
theorem sz128 : (Tryz.prog.info? 100).map (·.size) = some 1 := by kernel_rfl
theorem sz129 : (Tryz.prog.info? 101).map (·.size) = some 1 := by kernel_rfl
theorem sz130 : (Tryz.prog.info? 102).map (·.size) = some 1 := by kernel_rfl
theorem sz131 : (Tryz.prog.info? 103).map (·.size) = some 1 := by kernel_rfl
theorem sz132 : (Tryz.prog.info? 104).map (·.size) = some 1 := by kernel_rfl
theorem sz133 : (Tryz.prog.info? 105).map (·.size) = some 1 := by kernel_rfl
theorem sz138 : (Tryz.prog.info? 161).map (·.size) = some 1 := by kernel_rfl
theorem sz139 : (Tryz.prog.info? 162).map (·.size) = some 1 := by kernel_rfl
theorem sz140 : (Tryz.prog.info? 163).map (·.size) = some 1 := by kernel_rfl
theorem sz141 : (Tryz.prog.info? 164).map (·.size) = some 1 := by kernel_rfl
theorem sz142 : (Tryz.prog.info? 165).map (·.size) = some 1 := by kernel_rfl
theorem sz143 : (Tryz.prog.info? 166).map (·.size) = some 1 := by kernel_rfl
theorem sz144 : (Tryz.prog.info? 139).map (·.size) = some 1 := by kernel_rfl
theorem sz146 : (Tryz.prog.info? 130).map (·.size) = some 1 := by kernel_rfl
theorem sz147 : (Tryz.prog.info? 131).map (·.size) = some 1 := by kernel_rfl
theorem sz148 : (Tryz.prog.info? 132).map (·.size) = some 1 := by kernel_rfl
theorem sz149 : (Tryz.prog.info? 133).map (·.size) = some 1 := by kernel_rfl
theorem sz150 : (Tryz.prog.info? 134).map (·.size) = some 1 := by kernel_rfl
theorem sz151 : (Tryz.prog.info? 135).map (·.size) = some 1 := by kernel_rfl
theorem sz152 : (Tryz.prog.info? 136).map (·.size) = some 1 := by kernel_rfl
theorem sz153 : (Tryz.prog.info? 137).map (·.size) = some 1 := by kernel_rfl
theorem sz154 : (Tryz.prog.info? 57).map (·.size) = some 1 := by kernel_rfl
theorem sz155 : (Tryz.prog.info? 138).map (·.size) = some 1 := by kernel_rfl
theorem sz156 : (Tryz.prog.info? 140).map (·.size) = some 2 := by kernel_rfl
theorem sz157 : (Tryz.prog.info? 141).map (·.size) = some 2 := by kernel_rfl
theorem sz158 : (Tryz.prog.info? 120).map (·.size) = some 1 := by kernel_rfl
theorem sz159 : (Tryz.prog.info? 122).map (·.size) = some 1 := by kernel_rfl
theorem sz160 : (Tryz.prog.info? 123).map (·.size) = some 1 := by kernel_rfl
theorem sz161 : (Tryz.prog.info? 142).map (·.size) = some 1 := by kernel_rfl
theorem sz162 : (Tryz.prog.info? 143).map (·.size) = some 1 := by kernel_rfl
theorem sz163 : (Tryz.prog.info? 144).map (·.size) = some 1 := by kernel_rfl
theorem sz164 : (Tryz.prog.info? 63).map (·.size) = some 1 := by kernel_rfl
theorem sz165 : (Tryz.prog.info? 159).map (·.size) = some 1 := by kernel_rfl
theorem sz166 : (Tryz.prog.info? 82).map (·.size) = some 1 := by kernel_rfl
theorem sz167 : (Tryz.prog.info? 151).map (·.size) = some 1 := by kernel_rfl
theorem sz168 : (Tryz.prog.info? 160).map (·.size) = some 1 := by kernel_rfl
theorem sz169 : (Tryz.prog.info? 178).map (·.size) = some 1 := by kernel_rfl
theorem sz170 : (Tryz.prog.info? 179).map (·.size) = some 256 := by kernel_rfl
theorem sz171 : (Tryz.prog.info? 180).map (·.size) = some 256 := by kernel_rfl
theorem sz172 : (Tryz.prog.info? 181).map (·.size) = some 1 := by kernel_rfl
theorem sz173 : (Tryz.prog.info? 182).map (·.size) = some 1 := by kernel_rfl
theorem sz174 : (Tryz.prog.info? 183).map (·.size) = some 1 := by kernel_rfl
theorem sz175 : (Tryz.prog.info? 184).map (·.size) = some 1 := by kernel_rfl
theorem sz176 : (Tryz.prog.info? 185).map (·.size) = some 1 := by kernel_rfl
theorem sz177 : (Tryz.prog.info? 186).map (·.size) = some 1 := by kernel_rfl
theorem sz178 : (Tryz.prog.info? 187).map (·.size) = some 1 := by kernel_rfl
theorem sz179 : (Tryz.prog.info? 188).map (·.size) = some 1 := by kernel_rfl
theorem sz180 : (Tryz.prog.info? 190).map (·.size) = some 1 := by kernel_rfl
theorem sz181 : (Tryz.prog.info? 191).map (·.size) = some 1 := by kernel_rfl
theorem sz182 : (Tryz.prog.info? 192).map (·.size) = some 1 := by kernel_rfl
theorem sz183 : (Tryz.prog.info? 193).map (·.size) = some 1 := by kernel_rfl
theorem sz184 : (Tryz.prog.info? 194).map (·.size) = some 1 := by kernel_rfl
theorem sz185 : (Tryz.prog.info? 195).map (·.size) = some 1 := by kernel_rfl
theorem sz186 : (Tryz.prog.info? 196).map (·.size) = some 1 := by kernel_rfl
theorem sz187 : (Tryz.prog.info? 197).map (·.size) = some 1 := by kernel_rfl
theorem sz188 : (Tryz.prog.info? 198).map (·.size) = some 1 := by kernel_rfl
theorem sz189 : (Tryz.prog.info? 199).map (·.size) = some 1 := by kernel_rfl
theorem sz190 : (Tryz.prog.info? 200).map (·.size) = some 24 := by kernel_rfl
theorem sz191 : (Tryz.prog.info? 201).map (·.size) = some 1 := by kernel_rfl
theorem sz192 : (Tryz.prog.info? 202).map (·.size) = some 1 := by kernel_rfl
theorem sz193 : (Tryz.prog.info? 203).map (·.size) = some 1 := by kernel_rfl
theorem sz194 : (Tryz.prog.info? 204).map (·.size) = some 1 := by kernel_rfl
theorem sz195 : (Tryz.prog.info? 189).map (·.size) = some 1 := by kernel_rfl
theorem sz196 : (Tryz.prog.info? 205).map (·.size) = some 1 := by kernel_rfl
theorem sz197 : (Tryz.prog.info? 206).map (·.size) = some 1 := by kernel_rfl
theorem sz198 : (Tryz.prog.info? 207).map (·.size) = some 1 := by kernel_rfl
theorem sz199 : (Tryz.prog.info? 209).map (·.size) = some 3 := by kernel_rfl
theorem sz200 : (Tryz.prog.info? 210).map (·.size) = some 3 := by kernel_rfl
theorem sz201 : (Tryz.prog.info? 211).map (·.size) = some 1 := by kernel_rfl
theorem sz202 : (Tryz.prog.info? 212).map (·.size) = some 1 := by kernel_rfl
theorem sz203 : (Tryz.prog.info? 213).map (·.size) = some 20 := by kernel_rfl
theorem sz204 : (Tryz.prog.info? 214).map (·.size) = some 65 := by kernel_rfl
theorem sz205 : (Tryz.prog.info? 215).map (·.size) = some 1 := by kernel_rfl
theorem sz206 : (Tryz.prog.info? 216).map (·.size) = some 256 := by kernel_rfl
theorem sz207 : (Tryz.prog.info? 217).map (·.size) = some 2 := by kernel_rfl
theorem sz208 : (Tryz.prog.info? 218).map (·.size) = some 2 := by kernel_rfl
theorem sz209 : (Tryz.prog.info? 219).map (·.size) = some 32 := by kernel_rfl
theorem sz210 : (Tryz.prog.info? 220).map (·.size) = some 1 := by kernel_rfl
theorem sz211 : (Tryz.prog.info? 221).map (·.size) = some 1 := by kernel_rfl
theorem sz212 : (Tryz.prog.info? 222).map (·.size) = some 1 := by kernel_rfl
theorem sz213 : (Tryz.prog.info? 223).map (·.size) = some 1 := by kernel_rfl
theorem sz214 : (Tryz.prog.info? 224).map (·.size) = some 1 := by kernel_rfl
theorem sz215 : (Tryz.prog.info? 225).map (·.size) = some 1 := by kernel_rfl
theorem sz216 : (Tryz.prog.info? 226).map (·.size) = some 1 := by kernel_rfl
theorem sz217 : (Tryz.prog.info? 227).map (·.size) = some 32 := by kernel_rfl
theorem sz218 : (Tryz.prog.info? 228).map (·.size) = some 64 := by kernel_rfl
theorem sz219 : (Tryz.prog.info? 229).map (·.size) = some 4 := by kernel_rfl
theorem sz220 : (Tryz.prog.info? 230).map (·.size) = some 4 := by kernel_rfl
theorem sz221 : (Tryz.prog.info? 231).map (·.size) = some 0 := by kernel_rfl
theorem sz222 : (Tryz.prog.info? 232).map (·.size) = some 0 := by kernel_rfl
theorem sz223 : (Tryz.prog.info? 233).map (·.size) = some 0 := by kernel_rfl
theorem sz224 : (Tryz.prog.info? 234).map (·.size) = some 1 := by kernel_rfl
theorem sz225 : (Tryz.prog.info? 235).map (·.size) = some 1 := by kernel_rfl
theorem sz226 : (Tryz.prog.info? 236).map (·.size) = some 1 := by kernel_rfl
theorem sz227 : (Tryz.prog.info? 237).map (·.size) = some 1 := by kernel_rfl
theorem sz228 : (Tryz.prog.info? 238).map (·.size) = some 1 := by kernel_rfl
theorem sz229 : (Tryz.prog.info? 239).map (·.size) = some 11 := by kernel_rfl
theorem sz230 : (Tryz.prog.info? 240).map (·.size) = some 11 := by kernel_rfl
theorem sz231 : (Tryz.prog.info? 107).map (·.size) = some 1 := by kernel_rfl
theorem sz232 : (Tryz.prog.info? 87).map (·.size) = some 1 := by kernel_rfl
theorem sz233 : (Tryz.prog.info? 59).map (·.size) = some 1 := by kernel_rfl
theorem sz234 : (Tryz.prog.info? 60).map (·.size) = some 1 := by kernel_rfl
theorem sz235 : (Tryz.prog.info? 61).map (·.size) = some 1 := by kernel_rfl
theorem sz236 : (Tryz.prog.info? 62).map (·.size) = some 1 := by kernel_rfl
theorem sz237 : (Tryz.prog.info? 112).map (·.size) = some 1 := by kernel_rfl
theorem sz238 : (Tryz.prog.info? 129).map (·.size) = some 1 := by kernel_rfl
theorem sz1031 : (Tryz.prog.info? 28).map (·.size) = some 4 := by kernel_rfl
theorem sz1032 : (Tryz.prog.info? 29).map (·.size) = some 4 := by kernel_rfl
theorem sz1033 : (Tryz.prog.info? 31).map (·.size) = some 1 := by kernel_rfl
theorem sz1034 : (Tryz.prog.info? 41).map (·.size) = some 1 := by kernel_rfl
theorem sz1039 : (Tryz.prog.info? 42).map (·.size) = some 1 := by kernel_rfl
theorem sz1040 : (Tryz.prog.info? 43).map (·.size) = some 1 := by kernel_rfl
theorem sz1042 : (Tryz.prog.info? 36).map (·.size) = some 1 := by kernel_rfl
theorem sz1045 : (Tryz.prog.info? 49).map (·.size) = some 1 := by kernel_rfl
theorem sz1049 : (Tryz.prog.info? 65).map (·.size) = some 1 := by kernel_rfl
theorem sz1050 : (Tryz.prog.info? 66).map (·.size) = some 1 := by kernel_rfl
theorem sz1051 : (Tryz.prog.info? 67).map (·.size) = some 9 := by kernel_rfl
theorem sz1052 : (Tryz.prog.info? 68).map (·.size) = some 9 := by kernel_rfl
theorem sz1053 : (Tryz.prog.info? 69).map (·.size) = some 2 := by kernel_rfl
theorem sz1054 : (Tryz.prog.info? 70).map (·.size) = some 2 := by kernel_rfl
theorem sz1055 : (Tryz.prog.info? 71).map (·.size) = some 2 := by kernel_rfl
theorem sz1056 : (Tryz.prog.info? 72).map (·.size) = some 2 := by kernel_rfl
theorem sz1058 : (Tryz.prog.info? 75).map (·.size) = some 1 := by kernel_rfl
theorem sz1059 : (Tryz.prog.info? 76).map (·.size) = some 1 := by kernel_rfl
theorem sz1060 : (Tryz.prog.info? 77).map (·.size) = some 1 := by kernel_rfl
theorem sz1061 : (Tryz.prog.info? 78).map (·.size) = some 1 := by kernel_rfl
theorem sz1062 : (Tryz.prog.info? 79).map (·.size) = some 1 := by kernel_rfl
theorem sz1063 : (Tryz.prog.info? 80).map (·.size) = some 1 := by kernel_rfl
theorem sz1069 : (Tryz.prog.info? 81).map (·.size) = some 1 := by kernel_rfl
theorem sz1073 : (Tryz.prog.info? 55).map (·.size) = some 1 := by kernel_rfl
theorem sz1074 : (Tryz.prog.info? 56).map (·.size) = some 1 := by kernel_rfl
theorem sz1077 : (Tryz.prog.info? 83).map (·.size) = some 1 := by kernel_rfl
theorem sz1078 : (Tryz.prog.info? 84).map (·.size) = some 1 := by kernel_rfl
theorem sz1080 : (Tryz.prog.info? 86).map (·.size) = some 1 := by kernel_rfl
theorem sz1081 : (Tryz.prog.info? 58).map (·.size) = some 1 := by kernel_rfl
theorem sz1082 : (Tryz.prog.info? 47).map (·.size) = some 1 := by kernel_rfl
theorem sz1099 : (Tryz.prog.info? 113).map (·.size) = some 1 := by kernel_rfl
theorem sz1100 : (Tryz.prog.info? 114).map (·.size) = some 1 := by kernel_rfl
theorem sz1101 : (Tryz.prog.info? 115).map (·.size) = some 1 := by kernel_rfl
theorem sz1102 : (Tryz.prog.info? 116).map (·.size) = some 1 := by kernel_rfl
theorem sz1103 : (Tryz.prog.info? 117).map (·.size) = some 1 := by kernel_rfl
theorem sz1104 : (Tryz.prog.info? 118).map (·.size) = some 1 := by kernel_rfl
theorem sz1113 : (Tryz.prog.info? 108).map (·.size) = some 1 := by kernel_rfl
theorem sz1114 : (Tryz.prog.info? 109).map (·.size) = some 1 := by kernel_rfl
theorem sz1116 : (Tryz.prog.info? 121).map (·.size) = some 1 := by kernel_rfl
theorem sz1119 : (Tryz.prog.info? 124).map (·.size) = some 1 := by kernel_rfl
theorem sz1120 : (Tryz.prog.info? 125).map (·.size) = some 1 := by kernel_rfl
theorem sz1121 : (Tryz.prog.info? 126).map (·.size) = some 1 := by kernel_rfl
theorem sz1122 : (Tryz.prog.info? 127).map (·.size) = some 1 := by kernel_rfl
theorem sz1123 : (Tryz.prog.info? 119).map (·.size) = some 1 := by kernel_rfl
theorem sz1136 : (Tryz.prog.info? 146).map (·.size) = some 1 := by kernel_rfl
theorem sz1146 : (Tryz.prog.info? 145).map (·.size) = some 1 := by kernel_rfl
theorem sz1147 : (Tryz.prog.info? 153).map (·.size) = some 1 := by kernel_rfl
theorem sz1148 : (Tryz.prog.info? 154).map (·.size) = some 1 := by kernel_rfl
theorem sz1149 : (Tryz.prog.info? 155).map (·.size) = some 1 := by kernel_rfl
theorem sz1150 : (Tryz.prog.info? 156).map (·.size) = some 1 := by kernel_rfl
theorem sz1151 : (Tryz.prog.info? 157).map (·.size) = some 1 := by kernel_rfl
theorem sz1152 : (Tryz.prog.info? 147).map (·.size) = some 1 := by kernel_rfl
theorem sz1160 : (Tryz.prog.info? 167).map (·.size) = some 1 := by kernel_rfl
theorem sz1161 : (Tryz.prog.info? 168).map (·.size) = some 1 := by kernel_rfl
theorem sz1162 : (Tryz.prog.info? 169).map (·.size) = some 1 := by kernel_rfl
theorem sz1163 : (Tryz.prog.info? 170).map (·.size) = some 1 := by kernel_rfl
theorem sz1164 : (Tryz.prog.info? 171).map (·.size) = some 1 := by kernel_rfl
theorem sz1165 : (Tryz.prog.info? 172).map (·.size) = some 1 := by kernel_rfl
theorem sz1166 : (Tryz.prog.info? 173).map (·.size) = some 1 := by kernel_rfl
theorem sz1167 : (Tryz.prog.info? 174).map (·.size) = some 1 := by kernel_rfl
theorem sz1168 : (Tryz.prog.info? 175).map (·.size) = some 1 := by kernel_rfl
theorem sz1169 : (Tryz.prog.info? 176).map (·.size) = some 1 := by kernel_rfl
theorem sz1170 : (Tryz.prog.info? 177).map (·.size) = some 1 := by kernel_rfl
theorem sz1234 : (Tryz.prog.info? 89).map (·.size) = some 1 := by kernel_rfl
theorem sz1235 : (Tryz.prog.info? 241).map (·.size) = some 1 := by kernel_rfl
theorem sz1236 : (Tryz.prog.info? 242).map (·.size) = some 1 := by kernel_rfl
theorem sz1237 : (Tryz.prog.info? 243).map (·.size) = some 1 := by kernel_rfl
theorem sz1238 : (Tryz.prog.info? 244).map (·.size) = some 1 := by kernel_rfl
theorem sz1239 : (Tryz.prog.info? 245).map (·.size) = some 1 := by kernel_rfl
theorem sz1240 : (Tryz.prog.info? 246).map (·.size) = some 1 := by kernel_rfl
theorem sz1241 : (Tryz.prog.info? 247).map (·.size) = some 2 := by kernel_rfl
theorem sz1242 : (Tryz.prog.info? 248).map (·.size) = some 2 := by kernel_rfl
theorem sz1243 : (Tryz.prog.info? 249).map (·.size) = some 1 := by kernel_rfl
theorem sz1244 : (Tryz.prog.info? 250).map (·.size) = some 1 := by kernel_rfl
theorem sz1245 : (Tryz.prog.info? 251).map (·.size) = some 1 := by kernel_rfl
theorem sz1246 : (Tryz.prog.info? 252).map (·.size) = some 5 := by kernel_rfl
theorem sz1247 : (Tryz.prog.info? 253).map (·.size) = some 5 := by kernel_rfl
theorem sz1248 : (Tryz.prog.info? 254).map (·.size) = some 1 := by kernel_rfl
theorem sz1249 : (Tryz.prog.info? 255).map (·.size) = some 1 := by kernel_rfl
theorem sz1250 : (Tryz.prog.info? 256).map (·.size) = some 4 := by kernel_rfl
theorem sz1251 : (Tryz.prog.info? 257).map (·.size) = some 4 := by kernel_rfl
theorem sz2080 : (Tryz.prog.info? 128).map (·.size) = some 1 := by kernel_rfl
theorem sz2125 : (Tryz.prog.info? 158).map (·.size) = some 1 := by kernel_rfl
theorem sz5026 : (Tryz.prog.info? 26).map (·.size) = some 1 := by kernel_rfl
theorem sz5032 : (Tryz.prog.info? 32).map (·.size) = some 1 := by kernel_rfl
theorem sz5035 : (Tryz.prog.info? 35).map (·.size) = some 1 := by kernel_rfl
theorem sz5037 : (Tryz.prog.info? 37).map (·.size) = some 1 := by kernel_rfl
theorem sz5040 : (Tryz.prog.info? 40).map (·.size) = some 1 := by kernel_rfl
theorem sz5044 : (Tryz.prog.info? 44).map (·.size) = some 1 := by kernel_rfl
theorem sz5045 : (Tryz.prog.info? 45).map (·.size) = some 1 := by kernel_rfl
theorem sz5046 : (Tryz.prog.info? 46).map (·.size) = some 1 := by kernel_rfl
theorem sz5048 : (Tryz.prog.info? 48).map (·.size) = some 1 := by kernel_rfl
theorem sz5073 : (Tryz.prog.info? 73).map (·.size) = some 1 := by kernel_rfl
theorem sz5091 : (Tryz.prog.info? 91).map (·.size) = some 1 := by kernel_rfl
def U0 := Tryz.underlying0
def U1 := Tryz.underlying1
def U2 := Tryz.underlying2
def U3 := Tryz.underlying3
def U4 := Tryz.underlying4
def U5 := Tryz.underlying5
def U6 := Tryz.underlying6
def U7 := Tryz.underlying7
def U8 := Tryz.underlying8
def U9 := Tryz.underlying9
def U10 := Tryz.underlying10
def U11 := Tryz.underlying11
def U12 := Tryz.underlying12
def U13 := Tryz.underlying13
def U14 := Tryz.underlying14
def U15 := Tryz.underlying15
def U16 := Tryz.underlying16
def U17 := Tryz.underlying17
def U18 := Tryz.underlying18
def U19 := Tryz.underlying19
def U20 := Tryz.underlying20
def U21 := Tryz.underlying21
def U23 := Tryz.underlying111
def U24 := Tryz.underlying94
def U25 := Tryz.underlying23
def U32 := Tryz.underlying30
def U35 := Tryz.underlying24
def U36 := Tryz.underlying25
def U37 := Tryz.underlying38
def U39 := Tryz.underlying90
def U51 := Tryz.underlying34
def U53 := Tryz.underlying27
def U54 := Tryz.underlying54
def U55 := Tryz.underlying39
def U63 := Tryz.underlying152
def U70 := Tryz.underlying110
def U72 := Tryz.underlying33
def U88 := Tryz.underlying22
def U94 := Tryz.underlying64
def U95 := Tryz.underlying106
def U96 := Tryz.underlying50
def U97 := Tryz.underlying93
def U98 := Tryz.underlying88
def U102 := Tryz.underlying85
def U105 := Tryz.underlying51
def U106 := Tryz.underlying52
def U107 := Tryz.underlying53
def U108 := Tryz.underlying208
def U112 := Tryz.underlying148
def U113 := Tryz.underlying149
def U114 := Tryz.underlying150
def U115 := Tryz.underlying92
def U116 := Tryz.underlying74
def U123 := Tryz.underlying95
def U124 := Tryz.underlying96
def U125 := Tryz.underlying97
def U126 := Tryz.underlying98
def U127 := Tryz.underlying99
def U128 := Tryz.underlying100
def U129 := Tryz.underlying101
def U130 := Tryz.underlying102
def U131 := Tryz.underlying103
def U132 := Tryz.underlying104
def U133 := Tryz.underlying105
def U138 := Tryz.underlying161
def U139 := Tryz.underlying162
def U140 := Tryz.underlying163
def U141 := Tryz.underlying164
def U142 := Tryz.underlying165
def U143 := Tryz.underlying166
def U144 := Tryz.underlying139
def U146 := Tryz.underlying130
def U147 := Tryz.underlying131
def U148 := Tryz.underlying132
def U149 := Tryz.underlying133
def U150 := Tryz.underlying134
def U151 := Tryz.underlying135
def U152 := Tryz.underlying136
def U153 := Tryz.underlying137
def U154 := Tryz.underlying57
def U155 := Tryz.underlying138
def U156 := Tryz.underlying140
def U157 := Tryz.underlying141
def U158 := Tryz.underlying120
def U159 := Tryz.underlying122
def U160 := Tryz.underlying123
def U161 := Tryz.underlying142
def U162 := Tryz.underlying143
def U163 := Tryz.underlying144
def U164 := Tryz.underlying63
def U165 := Tryz.underlying159
def U166 := Tryz.underlying82
def U167 := Tryz.underlying151
def U168 := Tryz.underlying160
def U169 := Tryz.underlying178
def U170 := Tryz.underlying179
def U171 := Tryz.underlying180
def U172 := Tryz.underlying181
def U173 := Tryz.underlying182
def U174 := Tryz.underlying183
def U175 := Tryz.underlying184
def U176 := Tryz.underlying185
def U177 := Tryz.underlying186
def U178 := Tryz.underlying187
def U179 := Tryz.underlying188
def U180 := Tryz.underlying190
def U181 := Tryz.underlying191
def U182 := Tryz.underlying192
def U183 := Tryz.underlying193
def U184 := Tryz.underlying194
def U185 := Tryz.underlying195
def U186 := Tryz.underlying196
def U187 := Tryz.underlying197
def U188 := Tryz.underlying198
def U189 := Tryz.underlying199
def U190 := Tryz.underlying200
def U191 := Tryz.underlying201
def U192 := Tryz.underlying202
def U193 := Tryz.underlying203
def U194 := Tryz.underlying204
def U195 := Tryz.underlying189
def U196 := Tryz.underlying205
def U197 := Tryz.underlying206
def U198 := Tryz.underlying207
def U199 := Tryz.underlying209
def U200 := Tryz.underlying210
def U201 := Tryz.underlying211
def U202 := Tryz.underlying212
def U203 := Tryz.underlying213
def U204 := Tryz.underlying214
def U205 := Tryz.underlying215
def U206 := Tryz.underlying216
def U207 := Tryz.underlying217
def U208 := Tryz.underlying218
def U209 := Tryz.underlying219
def U210 := Tryz.underlying220
def U211 := Tryz.underlying221
def U212 := Tryz.underlying222
def U213 := Tryz.underlying223
def U214 := Tryz.underlying224
def U215 := Tryz.underlying225
def U216 := Tryz.underlying226
def U217 := Tryz.underlying227
def U218 := Tryz.underlying228
def U219 := Tryz.underlying229
def U220 := Tryz.underlying230
def U221 := Tryz.underlying231
def U222 := Tryz.underlying232
def U223 := Tryz.underlying233
def U224 := Tryz.underlying234
def U225 := Tryz.underlying235
def U226 := Tryz.underlying236
def U227 := Tryz.underlying237
def U228 := Tryz.underlying238
def U229 := Tryz.underlying239
def U230 := Tryz.underlying240
def U231 := Tryz.underlying107
def U232 := Tryz.underlying87
def U233 := Tryz.underlying59
def U234 := Tryz.underlying60
def U235 := Tryz.underlying61
def U236 := Tryz.underlying62
def U237 := Tryz.underlying112
def U238 := Tryz.underlying129
def U1031 := Tryz.underlying28
def U1032 := Tryz.underlying29
def U1033 := Tryz.underlying31
def U1034 := Tryz.underlying41
def U1039 := Tryz.underlying42
def U1040 := Tryz.underlying43
def U1042 := Tryz.underlying36
def U1045 := Tryz.underlying49
def U1049 := Tryz.underlying65
def U1050 := Tryz.underlying66
def U1051 := Tryz.underlying67
def U1052 := Tryz.underlying68
def U1053 := Tryz.underlying69
def U1054 := Tryz.underlying70
def U1055 := Tryz.underlying71
def U1056 := Tryz.underlying72
def U1058 := Tryz.underlying75
def U1059 := Tryz.underlying76
def U1060 := Tryz.underlying77
def U1061 := Tryz.underlying78
def U1062 := Tryz.underlying79
def U1063 := Tryz.underlying80
def U1069 := Tryz.underlying81
def U1073 := Tryz.underlying55
def U1074 := Tryz.underlying56
def U1077 := Tryz.underlying83
def U1078 := Tryz.underlying84
def U1080 := Tryz.underlying86
def U1081 := Tryz.underlying58
def U1082 := Tryz.underlying47
def U1099 := Tryz.underlying113
def U1100 := Tryz.underlying114
def U1101 := Tryz.underlying115
def U1102 := Tryz.underlying116
def U1103 := Tryz.underlying117
def U1104 := Tryz.underlying118
def U1113 := Tryz.underlying108
def U1114 := Tryz.underlying109
def U1116 := Tryz.underlying121
def U1119 := Tryz.underlying124
def U1120 := Tryz.underlying125
def U1121 := Tryz.underlying126
def U1122 := Tryz.underlying127
def U1123 := Tryz.underlying119
def U1136 := Tryz.underlying146
def U1146 := Tryz.underlying145
def U1147 := Tryz.underlying153
def U1148 := Tryz.underlying154
def U1149 := Tryz.underlying155
def U1150 := Tryz.underlying156
def U1151 := Tryz.underlying157
def U1152 := Tryz.underlying147
def U1160 := Tryz.underlying167
def U1161 := Tryz.underlying168
def U1162 := Tryz.underlying169
def U1163 := Tryz.underlying170
def U1164 := Tryz.underlying171
def U1165 := Tryz.underlying172
def U1166 := Tryz.underlying173
def U1167 := Tryz.underlying174
def U1168 := Tryz.underlying175
def U1169 := Tryz.underlying176
def U1170 := Tryz.underlying177
def U1234 := Tryz.underlying89
def U1235 := Tryz.underlying241
def U1236 := Tryz.underlying242
def U1237 := Tryz.underlying243
def U1238 := Tryz.underlying244
def U1239 := Tryz.underlying245
def U1240 := Tryz.underlying246
def U1241 := Tryz.underlying247
def U1242 := Tryz.underlying248
def U1243 := Tryz.underlying249
def U1244 := Tryz.underlying250
def U1245 := Tryz.underlying251
def U1246 := Tryz.underlying252
def U1247 := Tryz.underlying253
def U1248 := Tryz.underlying254
def U1249 := Tryz.underlying255
def U1250 := Tryz.underlying256
def U1251 := Tryz.underlying257
def U2080 := Tryz.underlying128
def U2125 := Tryz.underlying158
def U5026 := Tryz.underlying26
def U5032 := Tryz.underlying32
def U5035 := Tryz.underlying35
def U5037 := Tryz.underlying37
def U5040 := Tryz.underlying40
def U5044 := Tryz.underlying44
def U5045 := Tryz.underlying45
def U5046 := Tryz.underlying46
def U5048 := Tryz.underlying48
def U5073 := Tryz.underlying73
def U5091 := Tryz.underlying91
theorem en49 : Enters Tryz.prog 10 := enters_mk Tryz.func10 (by kernel_rfl) (by kernel_rfl)
theorem en82 : Enters Tryz.prog 30 := enters_mk Tryz.func30 (by kernel_rfl) (by kernel_rfl)
theorem en83 : Enters Tryz.prog 31 := enters_mk Tryz.func31 (by kernel_rfl) (by kernel_rfl)
theorem en84 : Enters Tryz.prog 32 := enters_mk Tryz.func32 (by kernel_rfl) (by kernel_rfl)
theorem en93 : Enters Tryz.prog 141 := enters_mk Tryz.func141 (by kernel_rfl) (by kernel_rfl)
theorem en102 : Enters Tryz.prog 73 := enters_mk Tryz.func73 (by kernel_rfl) (by kernel_rfl)
theorem en103 : Enters Tryz.prog 74 := enters_mk Tryz.func74 (by kernel_rfl) (by kernel_rfl)
theorem en104 : Enters Tryz.prog 75 := enters_mk Tryz.func75 (by kernel_rfl) (by kernel_rfl)
theorem en105 : Enters Tryz.prog 76 := enters_mk Tryz.func76 (by kernel_rfl) (by kernel_rfl)
theorem en106 : Enters Tryz.prog 77 := enters_mk Tryz.func77 (by kernel_rfl) (by kernel_rfl)
theorem en107 : Enters Tryz.prog 78 := enters_mk Tryz.func78 (by kernel_rfl) (by kernel_rfl)
theorem en108 : Enters Tryz.prog 79 := enters_mk Tryz.func79 (by kernel_rfl) (by kernel_rfl)
theorem en109 : Enters Tryz.prog 80 := enters_mk Tryz.func80 (by kernel_rfl) (by kernel_rfl)
theorem en110 : Enters Tryz.prog 81 := enters_mk Tryz.func81 (by kernel_rfl) (by kernel_rfl)
theorem en117 : Enters Tryz.prog 159 := enters_mk Tryz.func159 (by kernel_rfl) (by kernel_rfl)
theorem en118 : Enters Tryz.prog 160 := enters_mk Tryz.func160 (by kernel_rfl) (by kernel_rfl)
theorem en120 : Enters Tryz.prog 118 := enters_mk Tryz.func118 (by kernel_rfl) (by kernel_rfl)
theorem en121 : Enters Tryz.prog 119 := enters_mk Tryz.func119 (by kernel_rfl) (by kernel_rfl)
theorem en122 : Enters Tryz.prog 120 := enters_mk Tryz.func120 (by kernel_rfl) (by kernel_rfl)
theorem en123 : Enters Tryz.prog 121 := enters_mk Tryz.func121 (by kernel_rfl) (by kernel_rfl)
theorem en124 : Enters Tryz.prog 122 := enters_mk Tryz.func122 (by kernel_rfl) (by kernel_rfl)
theorem en125 : Enters Tryz.prog 123 := enters_mk Tryz.func123 (by kernel_rfl) (by kernel_rfl)
theorem en126 : Enters Tryz.prog 124 := enters_mk Tryz.func124 (by kernel_rfl) (by kernel_rfl)
theorem en127 : Enters Tryz.prog 125 := enters_mk Tryz.func125 (by kernel_rfl) (by kernel_rfl)
theorem en128 : Enters Tryz.prog 126 := enters_mk Tryz.func126 (by kernel_rfl) (by kernel_rfl)
theorem en129 : Enters Tryz.prog 127 := enters_mk Tryz.func127 (by kernel_rfl) (by kernel_rfl)
theorem en130 : Enters Tryz.prog 128 := enters_mk Tryz.func128 (by kernel_rfl) (by kernel_rfl)
theorem en131 : Enters Tryz.prog 129 := enters_mk Tryz.func129 (by kernel_rfl) (by kernel_rfl)
theorem en132 : Enters Tryz.prog 104 := enters_mk Tryz.func104 (by kernel_rfl) (by kernel_rfl)
theorem en133 : Enters Tryz.prog 130 := enters_mk Tryz.func130 (by kernel_rfl) (by kernel_rfl)
theorem en134 : Enters Tryz.prog 131 := enters_mk Tryz.func131 (by kernel_rfl) (by kernel_rfl)
theorem en135 : Enters Tryz.prog 132 := enters_mk Tryz.func132 (by kernel_rfl) (by kernel_rfl)
theorem en136 : Enters Tryz.prog 145 := enters_mk Tryz.func145 (by kernel_rfl) (by kernel_rfl)
theorem en137 : Enters Tryz.prog 152 := enters_mk Tryz.func152 (by kernel_rfl) (by kernel_rfl)
theorem en138 : Enters Tryz.prog 153 := enters_mk Tryz.func153 (by kernel_rfl) (by kernel_rfl)
theorem en139 : Enters Tryz.prog 154 := enters_mk Tryz.func154 (by kernel_rfl) (by kernel_rfl)
theorem en140 : Enters Tryz.prog 155 := enters_mk Tryz.func155 (by kernel_rfl) (by kernel_rfl)
theorem en141 : Enters Tryz.prog 156 := enters_mk Tryz.func156 (by kernel_rfl) (by kernel_rfl)
theorem en142 : Enters Tryz.prog 55 := enters_mk Tryz.func55 (by kernel_rfl) (by kernel_rfl)
theorem en143 : Enters Tryz.prog 142 := enters_mk Tryz.func142 (by kernel_rfl) (by kernel_rfl)
theorem en144 : Enters Tryz.prog 143 := enters_mk Tryz.func143 (by kernel_rfl) (by kernel_rfl)
theorem en145 : Enters Tryz.prog 157 := enters_mk Tryz.func157 (by kernel_rfl) (by kernel_rfl)
theorem en146 : Enters Tryz.prog 158 := enters_mk Tryz.func158 (by kernel_rfl) (by kernel_rfl)
theorem en147 : Enters Tryz.prog 162 := enters_mk Tryz.func162 (by kernel_rfl) (by kernel_rfl)
theorem en148 : Enters Tryz.prog 163 := enters_mk Tryz.func163 (by kernel_rfl) (by kernel_rfl)
theorem en149 : Enters Tryz.prog 164 := enters_mk Tryz.func164 (by kernel_rfl) (by kernel_rfl)
theorem en150 : Enters Tryz.prog 165 := enters_mk Tryz.func165 (by kernel_rfl) (by kernel_rfl)
theorem en151 : Enters Tryz.prog 166 := enters_mk Tryz.func166 (by kernel_rfl) (by kernel_rfl)
theorem en152 : Enters Tryz.prog 167 := enters_mk Tryz.func167 (by kernel_rfl) (by kernel_rfl)
theorem en153 : Enters Tryz.prog 168 := enters_mk Tryz.func168 (by kernel_rfl) (by kernel_rfl)
theorem en154 : Enters Tryz.prog 169 := enters_mk Tryz.func169 (by kernel_rfl) (by kernel_rfl)
theorem en155 : Enters Tryz.prog 170 := enters_mk Tryz.func170 (by kernel_rfl) (by kernel_rfl)
theorem en156 : Enters Tryz.prog 171 := enters_mk Tryz.func171 (by kernel_rfl) (by kernel_rfl)
theorem en157 : Enters Tryz.prog 172 := enters_mk Tryz.func172 (by kernel_rfl) (by kernel_rfl)
theorem en158 : Enters Tryz.prog 108 := enters_mk Tryz.func108 (by kernel_rfl) (by kernel_rfl)
theorem en159 : Enters Tryz.prog 161 := enters_mk Tryz.func161 (by kernel_rfl) (by kernel_rfl)
theorem en161 : Enters Tryz.prog 175 := enters_mk Tryz.func175 (by kernel_rfl) (by kernel_rfl)
theorem en162 : Enters Tryz.prog 176 := enters_mk Tryz.func176 (by kernel_rfl) (by kernel_rfl)
theorem en163 : Enters Tryz.prog 177 := enters_mk Tryz.func177 (by kernel_rfl) (by kernel_rfl)
theorem en164 : Enters Tryz.prog 178 := enters_mk Tryz.func178 (by kernel_rfl) (by kernel_rfl)
theorem en165 : Enters Tryz.prog 179 := enters_mk Tryz.func179 (by kernel_rfl) (by kernel_rfl)
theorem en166 : Enters Tryz.prog 180 := enters_mk Tryz.func180 (by kernel_rfl) (by kernel_rfl)
theorem en167 : Enters Tryz.prog 181 := enters_mk Tryz.func181 (by kernel_rfl) (by kernel_rfl)
theorem en168 : Enters Tryz.prog 182 := enters_mk Tryz.func182 (by kernel_rfl) (by kernel_rfl)
theorem en169 : Enters Tryz.prog 183 := enters_mk Tryz.func183 (by kernel_rfl) (by kernel_rfl)
theorem en170 : Enters Tryz.prog 184 := enters_mk Tryz.func184 (by kernel_rfl) (by kernel_rfl)
theorem en171 : Enters Tryz.prog 185 := enters_mk Tryz.func185 (by kernel_rfl) (by kernel_rfl)
theorem en172 : Enters Tryz.prog 186 := enters_mk Tryz.func186 (by kernel_rfl) (by kernel_rfl)
theorem en173 : Enters Tryz.prog 187 := enters_mk Tryz.func187 (by kernel_rfl) (by kernel_rfl)
theorem en175 : Enters Tryz.prog 188 := enters_mk Tryz.func188 (by kernel_rfl) (by kernel_rfl)
theorem en176 : Enters Tryz.prog 189 := enters_mk Tryz.func189 (by kernel_rfl) (by kernel_rfl)
theorem en177 : Enters Tryz.prog 190 := enters_mk Tryz.func190 (by kernel_rfl) (by kernel_rfl)
theorem en178 : Enters Tryz.prog 191 := enters_mk Tryz.func191 (by kernel_rfl) (by kernel_rfl)
theorem en179 : Enters Tryz.prog 192 := enters_mk Tryz.func192 (by kernel_rfl) (by kernel_rfl)
theorem en180 : Enters Tryz.prog 193 := enters_mk Tryz.func193 (by kernel_rfl) (by kernel_rfl)
theorem en181 : Enters Tryz.prog 194 := enters_mk Tryz.func194 (by kernel_rfl) (by kernel_rfl)
theorem en182 : Enters Tryz.prog 195 := enters_mk Tryz.func195 (by kernel_rfl) (by kernel_rfl)
theorem en183 : Enters Tryz.prog 196 := enters_mk Tryz.func196 (by kernel_rfl) (by kernel_rfl)
theorem en184 : Enters Tryz.prog 197 := enters_mk Tryz.func197 (by kernel_rfl) (by kernel_rfl)
theorem en185 : Enters Tryz.prog 198 := enters_mk Tryz.func198 (by kernel_rfl) (by kernel_rfl)
theorem en186 : Enters Tryz.prog 199 := enters_mk Tryz.func199 (by kernel_rfl) (by kernel_rfl)
theorem en187 : Enters Tryz.prog 200 := enters_mk Tryz.func200 (by kernel_rfl) (by kernel_rfl)
theorem en188 : Enters Tryz.prog 201 := enters_mk Tryz.func201 (by kernel_rfl) (by kernel_rfl)
theorem en190 : Enters Tryz.prog 203 := enters_mk Tryz.func203 (by kernel_rfl) (by kernel_rfl)
theorem en191 : Enters Tryz.prog 204 := enters_mk Tryz.func204 (by kernel_rfl) (by kernel_rfl)
theorem en192 : Enters Tryz.prog 205 := enters_mk Tryz.func205 (by kernel_rfl) (by kernel_rfl)
theorem en193 : Enters Tryz.prog 206 := enters_mk Tryz.func206 (by kernel_rfl) (by kernel_rfl)
theorem en194 : Enters Tryz.prog 207 := enters_mk Tryz.func207 (by kernel_rfl) (by kernel_rfl)
theorem en217 : Enters Tryz.prog 23 := enters_mk Tryz.func23 (by kernel_rfl) (by kernel_rfl)
theorem en218 : Enters Tryz.prog 14 := enters_mk Tryz.func14 (by kernel_rfl) (by kernel_rfl)
theorem en219 : Enters Tryz.prog 17 := enters_mk Tryz.func17 (by kernel_rfl) (by kernel_rfl)
theorem en220 : Enters Tryz.prog 56 := enters_mk Tryz.func56 (by kernel_rfl) (by kernel_rfl)
theorem en221 : Enters Tryz.prog 62 := enters_mk Tryz.func62 (by kernel_rfl) (by kernel_rfl)
theorem en222 : Enters Tryz.prog 63 := enters_mk Tryz.func63 (by kernel_rfl) (by kernel_rfl)
theorem en223 : Enters Tryz.prog 38 := enters_mk Tryz.func38 (by kernel_rfl) (by kernel_rfl)
theorem en224 : Enters Tryz.prog 39 := enters_mk Tryz.func39 (by kernel_rfl) (by kernel_rfl)
theorem en225 : Enters Tryz.prog 40 := enters_mk Tryz.func40 (by kernel_rfl) (by kernel_rfl)
theorem en226 : Enters Tryz.prog 91 := enters_mk Tryz.func91 (by kernel_rfl) (by kernel_rfl)
theorem en227 : Enters Tryz.prog 89 := enters_mk Tryz.func89 (by kernel_rfl) (by kernel_rfl)
theorem en228 : Enters Tryz.prog 116 := enters_mk Tryz.func116 (by kernel_rfl) (by kernel_rfl)
theorem en229 : Enters Tryz.prog 90 := enters_mk Tryz.func90 (by kernel_rfl) (by kernel_rfl)
theorem en230 : Enters Tryz.prog 92 := enters_mk Tryz.func92 (by kernel_rfl) (by kernel_rfl)
theorem en231 : Enters Tryz.prog 136 := enters_mk Tryz.func136 (by kernel_rfl) (by kernel_rfl)
theorem en232 : Enters Tryz.prog 137 := enters_mk Tryz.func137 (by kernel_rfl) (by kernel_rfl)
theorem en1010 : Enters Tryz.prog 16 := enters_mk Tryz.func16 (by kernel_rfl) (by kernel_rfl)
theorem en1013 : Enters Tryz.prog 27 := enters_mk Tryz.func27 (by kernel_rfl) (by kernel_rfl)
theorem en1015 : Enters Tryz.prog 28 := enters_mk Tryz.func28 (by kernel_rfl) (by kernel_rfl)
theorem en1017 : Enters Tryz.prog 18 := enters_mk Tryz.func18 (by kernel_rfl) (by kernel_rfl)
theorem en1018 : Enters Tryz.prog 20 := enters_mk Tryz.func20 (by kernel_rfl) (by kernel_rfl)
theorem en1019 : Enters Tryz.prog 21 := enters_mk Tryz.func21 (by kernel_rfl) (by kernel_rfl)
theorem en1021 : Enters Tryz.prog 15 := enters_mk Tryz.func15 (by kernel_rfl) (by kernel_rfl)
theorem en1025 : Enters Tryz.prog 33 := enters_mk Tryz.func33 (by kernel_rfl) (by kernel_rfl)
theorem en1026 : Enters Tryz.prog 41 := enters_mk Tryz.func41 (by kernel_rfl) (by kernel_rfl)
theorem en1027 : Enters Tryz.prog 45 := enters_mk Tryz.func45 (by kernel_rfl) (by kernel_rfl)
theorem en1028 : Enters Tryz.prog 46 := enters_mk Tryz.func46 (by kernel_rfl) (by kernel_rfl)
theorem en1029 : Enters Tryz.prog 47 := enters_mk Tryz.func47 (by kernel_rfl) (by kernel_rfl)
theorem en1030 : Enters Tryz.prog 48 := enters_mk Tryz.func48 (by kernel_rfl) (by kernel_rfl)
theorem en1031 : Enters Tryz.prog 49 := enters_mk Tryz.func49 (by kernel_rfl) (by kernel_rfl)
theorem en1032 : Enters Tryz.prog 50 := enters_mk Tryz.func50 (by kernel_rfl) (by kernel_rfl)
theorem en1033 : Enters Tryz.prog 44 := enters_mk Tryz.func44 (by kernel_rfl) (by kernel_rfl)
theorem en1035 : Enters Tryz.prog 51 := enters_mk Tryz.func51 (by kernel_rfl) (by kernel_rfl)
theorem en1036 : Enters Tryz.prog 66 := enters_mk Tryz.func66 (by kernel_rfl) (by kernel_rfl)
theorem en1038 : Enters Tryz.prog 68 := enters_mk Tryz.func68 (by kernel_rfl) (by kernel_rfl)
theorem en1042 : Enters Tryz.prog 53 := enters_mk Tryz.func53 (by kernel_rfl) (by kernel_rfl)
theorem en1043 : Enters Tryz.prog 69 := enters_mk Tryz.func69 (by kernel_rfl) (by kernel_rfl)
theorem en1044 : Enters Tryz.prog 70 := enters_mk Tryz.func70 (by kernel_rfl) (by kernel_rfl)
theorem en1045 : Enters Tryz.prog 71 := enters_mk Tryz.func71 (by kernel_rfl) (by kernel_rfl)
theorem en1046 : Enters Tryz.prog 54 := enters_mk Tryz.func54 (by kernel_rfl) (by kernel_rfl)
theorem en1047 : Enters Tryz.prog 72 := enters_mk Tryz.func72 (by kernel_rfl) (by kernel_rfl)
theorem en1048 : Enters Tryz.prog 34 := enters_mk Tryz.func34 (by kernel_rfl) (by kernel_rfl)
theorem en1049 : Enters Tryz.prog 35 := enters_mk Tryz.func35 (by kernel_rfl) (by kernel_rfl)
theorem en1051 : Enters Tryz.prog 52 := enters_mk Tryz.func52 (by kernel_rfl) (by kernel_rfl)
theorem en1053 : Enters Tryz.prog 57 := enters_mk Tryz.func57 (by kernel_rfl) (by kernel_rfl)
theorem en1054 : Enters Tryz.prog 60 := enters_mk Tryz.func60 (by kernel_rfl) (by kernel_rfl)
theorem en1055 : Enters Tryz.prog 59 := enters_mk Tryz.func59 (by kernel_rfl) (by kernel_rfl)
theorem en1056 : Enters Tryz.prog 37 := enters_mk Tryz.func37 (by kernel_rfl) (by kernel_rfl)
theorem en1057 : Enters Tryz.prog 26 := enters_mk Tryz.func26 (by kernel_rfl) (by kernel_rfl)
theorem en1058 : Enters Tryz.prog 42 := enters_mk Tryz.func42 (by kernel_rfl) (by kernel_rfl)
theorem en1067 : Enters Tryz.prog 82 := enters_mk Tryz.func82 (by kernel_rfl) (by kernel_rfl)
theorem en1068 : Enters Tryz.prog 101 := enters_mk Tryz.func101 (by kernel_rfl) (by kernel_rfl)
theorem en1069 : Enters Tryz.prog 102 := enters_mk Tryz.func102 (by kernel_rfl) (by kernel_rfl)
theorem en1070 : Enters Tryz.prog 93 := enters_mk Tryz.func93 (by kernel_rfl) (by kernel_rfl)
theorem en1071 : Enters Tryz.prog 94 := enters_mk Tryz.func94 (by kernel_rfl) (by kernel_rfl)
theorem en1072 : Enters Tryz.prog 95 := enters_mk Tryz.func95 (by kernel_rfl) (by kernel_rfl)
theorem en1073 : Enters Tryz.prog 103 := enters_mk Tryz.func103 (by kernel_rfl) (by kernel_rfl)
theorem en1074 : Enters Tryz.prog 97 := enters_mk Tryz.func97 (by kernel_rfl) (by kernel_rfl)
theorem en1078 : Enters Tryz.prog 106 := enters_mk Tryz.func106 (by kernel_rfl) (by kernel_rfl)
theorem en1086 : Enters Tryz.prog 107 := enters_mk Tryz.func107 (by kernel_rfl) (by kernel_rfl)
theorem en1088 : Enters Tryz.prog 83 := enters_mk Tryz.func83 (by kernel_rfl) (by kernel_rfl)
theorem en1089 : Enters Tryz.prog 84 := enters_mk Tryz.func84 (by kernel_rfl) (by kernel_rfl)
theorem en1090 : Enters Tryz.prog 85 := enters_mk Tryz.func85 (by kernel_rfl) (by kernel_rfl)
theorem en1091 : Enters Tryz.prog 86 := enters_mk Tryz.func86 (by kernel_rfl) (by kernel_rfl)
theorem en1092 : Enters Tryz.prog 87 := enters_mk Tryz.func87 (by kernel_rfl) (by kernel_rfl)
theorem en1093 : Enters Tryz.prog 88 := enters_mk Tryz.func88 (by kernel_rfl) (by kernel_rfl)
theorem en1094 : Enters Tryz.prog 100 := enters_mk Tryz.func100 (by kernel_rfl) (by kernel_rfl)
theorem en1095 : Enters Tryz.prog 105 := enters_mk Tryz.func105 (by kernel_rfl) (by kernel_rfl)
theorem en1097 : Enters Tryz.prog 109 := enters_mk Tryz.func109 (by kernel_rfl) (by kernel_rfl)
theorem en1098 : Enters Tryz.prog 110 := enters_mk Tryz.func110 (by kernel_rfl) (by kernel_rfl)
theorem en1099 : Enters Tryz.prog 111 := enters_mk Tryz.func111 (by kernel_rfl) (by kernel_rfl)
theorem en1100 : Enters Tryz.prog 112 := enters_mk Tryz.func112 (by kernel_rfl) (by kernel_rfl)
theorem en1101 : Enters Tryz.prog 113 := enters_mk Tryz.func113 (by kernel_rfl) (by kernel_rfl)
theorem en1103 : Enters Tryz.prog 98 := enters_mk Tryz.func98 (by kernel_rfl) (by kernel_rfl)
theorem en1104 : Enters Tryz.prog 99 := enters_mk Tryz.func99 (by kernel_rfl) (by kernel_rfl)
theorem en1112 : Enters Tryz.prog 138 := enters_mk Tryz.func138 (by kernel_rfl) (by kernel_rfl)
theorem en1113 : Enters Tryz.prog 139 := enters_mk Tryz.func139 (by kernel_rfl) (by kernel_rfl)
theorem en1129 : Enters Tryz.prog 133 := enters_mk Tryz.func133 (by kernel_rfl) (by kernel_rfl)
theorem en1130 : Enters Tryz.prog 134 := enters_mk Tryz.func134 (by kernel_rfl) (by kernel_rfl)
theorem en1131 : Enters Tryz.prog 135 := enters_mk Tryz.func135 (by kernel_rfl) (by kernel_rfl)
theorem en1132 : Enters Tryz.prog 144 := enters_mk Tryz.func144 (by kernel_rfl) (by kernel_rfl)
theorem en1134 : Enters Tryz.prog 147 := enters_mk Tryz.func147 (by kernel_rfl) (by kernel_rfl)
theorem en1135 : Enters Tryz.prog 148 := enters_mk Tryz.func148 (by kernel_rfl) (by kernel_rfl)
theorem en1136 : Enters Tryz.prog 140 := enters_mk Tryz.func140 (by kernel_rfl) (by kernel_rfl)
theorem en1210 : Enters Tryz.prog 65 := enters_mk Tryz.func65 (by kernel_rfl) (by kernel_rfl)
theorem en1226 : Enters Tryz.prog 239 := enters_mk Tryz.func239 (by kernel_rfl) (by kernel_rfl)
theorem en2022 : Enters Tryz.prog 61 := enters_mk Tryz.func61 (by kernel_rfl) (by kernel_rfl)
theorem en2044 : Enters Tryz.prog 19 := enters_mk Tryz.func19 (by kernel_rfl) (by kernel_rfl)
theorem en2048 : Enters Tryz.prog 114 := enters_mk Tryz.func114 (by kernel_rfl) (by kernel_rfl)
theorem en2049 : Enters Tryz.prog 115 := enters_mk Tryz.func115 (by kernel_rfl) (by kernel_rfl)
theorem en2080 : Enters Tryz.prog 58 := enters_mk Tryz.func58 (by kernel_rfl) (by kernel_rfl)
theorem en2087 : Enters Tryz.prog 149 := enters_mk Tryz.func149 (by kernel_rfl) (by kernel_rfl)
theorem en2088 : Enters Tryz.prog 150 := enters_mk Tryz.func150 (by kernel_rfl) (by kernel_rfl)
theorem en3082 : Enters Tryz.prog 24 := enters_mk Tryz.func24 (by kernel_rfl) (by kernel_rfl)
theorem en3132 : Enters Tryz.prog 64 := enters_mk Tryz.func64 (by kernel_rfl) (by kernel_rfl)
theorem en5003 : Enters Tryz.prog 3 := enters_mk Tryz.func3 (by kernel_rfl) (by kernel_rfl)
theorem en5004 : Enters Tryz.prog 4 := enters_mk Tryz.func4 (by kernel_rfl) (by kernel_rfl)
theorem en5005 : Enters Tryz.prog 5 := enters_mk Tryz.func5 (by kernel_rfl) (by kernel_rfl)
theorem en5006 : Enters Tryz.prog 6 := enters_mk Tryz.func6 (by kernel_rfl) (by kernel_rfl)
theorem en5007 : Enters Tryz.prog 7 := enters_mk Tryz.func7 (by kernel_rfl) (by kernel_rfl)
theorem en5008 : Enters Tryz.prog 8 := enters_mk Tryz.func8 (by kernel_rfl) (by kernel_rfl)
theorem en5009 : Enters Tryz.prog 9 := enters_mk Tryz.func9 (by kernel_rfl) (by kernel_rfl)
theorem en5011 : Enters Tryz.prog 11 := enters_mk Tryz.func11 (by kernel_rfl) (by kernel_rfl)
theorem en5012 : Enters Tryz.prog 12 := enters_mk Tryz.func12 (by kernel_rfl) (by kernel_rfl)
theorem en5013 : Enters Tryz.prog 13 := enters_mk Tryz.func13 (by kernel_rfl) (by kernel_rfl)
theorem en5022 : Enters Tryz.prog 22 := enters_mk Tryz.func22 (by kernel_rfl) (by kernel_rfl)
theorem en5025 : Enters Tryz.prog 25 := enters_mk Tryz.func25 (by kernel_rfl) (by kernel_rfl)
theorem en5029 : Enters Tryz.prog 29 := enters_mk Tryz.func29 (by kernel_rfl) (by kernel_rfl)
theorem en5036 : Enters Tryz.prog 36 := enters_mk Tryz.func36 (by kernel_rfl) (by kernel_rfl)
theorem en5043 : Enters Tryz.prog 43 := enters_mk Tryz.func43 (by kernel_rfl) (by kernel_rfl)
theorem en5067 : Enters Tryz.prog 67 := enters_mk Tryz.func67 (by kernel_rfl) (by kernel_rfl)
theorem en5096 : Enters Tryz.prog 96 := enters_mk Tryz.func96 (by kernel_rfl) (by kernel_rfl)
theorem en5117 : Enters Tryz.prog 117 := enters_mk Tryz.func117 (by kernel_rfl) (by kernel_rfl)
theorem en5151 : Enters Tryz.prog 151 := enters_mk Tryz.func151 (by kernel_rfl) (by kernel_rfl)
theorem hmix : Tryz.prog.follows .mixedOrders = true := by kernel_rfl
end Go.Proofs.YtjijfnggomhpiaaGreatDoor
def ofB (B : Nat) : List Nat → Nat
  | [] => 0
  | d :: l => d + B * ofB B l
def toBf (B : Nat) : Nat → Nat → List Nat
  | 0, _ => []
  | f + 1, n => if n = 0 then [] else n % B :: toBf B f (n / B)
def toB (B n : Nat) : List Nat := toBf B n n
theorem toBf_ext (B : Nat) (hB : 2 ≤ B) : ∀ (f n : Nat), n ≤ f → ∀ g, n ≤ g → toBf B f n = toBf B g n := by
  intro f
  induction f with
  | zero =>
    intro n hn g _
    obtain rfl : n = 0 := by omega
    cases g <;> simp [toBf]
  | succ f ih =>
    intro n hn g hg
    cases g with
    | zero => obtain rfl : n = 0 := by omega
              simp [toBf]
    | succ g =>
      simp only [toBf]
      by_cases h0 : n = 0
      · simp [h0]
      · rw [if_neg h0, if_neg h0]
        have hd : n / B < n := Nat.div_lt_self (by omega) (by omega)
        rw [ih (n / B) (by omega) g (by omega)]
theorem toB_zero (B : Nat) : toB B 0 = [] := rfl
theorem toB_pos (B n : Nat) (hB : 2 ≤ B) (hn : 0 < n) : toB B n = n % B :: toB B (n / B) := by
  unfold toB
  cases n with
  | zero => omega
  | succ m =>
    have hd : (m + 1) / B < m + 1 := Nat.div_lt_self (by omega) (by omega)
    simp only [toBf]
    rw [if_neg (by omega), toBf_ext B hB m ((m + 1) / B) (by omega) ((m + 1) / B) (Nat.le_refl _)]
theorem ofB_toB (B : Nat) (hB : 2 ≤ B) (n : Nat) : ofB B (toB B n) = n := by
  induction n using Nat.strongRecOn with
  | _ n ih =>
    by_cases h0 : n = 0
    · subst h0; rfl
    · rw [toB_pos B n hB (by omega)]
      simp only [ofB]
      rw [ih (n / B) (Nat.div_lt_self (by omega) (by omega))]
      exact Nat.mod_add_div n B
theorem toB_lt (B : Nat) (hB : 2 ≤ B) (n : Nat) : ∀ d ∈ toB B n, d < B := by
  induction n using Nat.strongRecOn with
  | _ n ih =>
    by_cases h0 : n = 0
    · subst h0; simp [toB_zero]
    · rw [toB_pos B n hB (by omega)]
      intro d hd
      rcases List.mem_cons.1 hd with rfl | h
      · exact Nat.mod_lt _ (by omega)
      · exact ih (n / B) (Nat.div_lt_self (by omega) (by omega)) d h
def Canon (B : Nat) (l : List Nat) : Prop := (∀ d ∈ l, d < B) ∧ l.getLast? ≠ some 0
theorem Canon.tail {B d : Nat} {l : List Nat} (h : Canon B (d :: l)) : Canon B l := by
  refine ⟨fun x hx => h.1 x (List.mem_cons_of_mem _ hx), ?_⟩
  have := h.2
  cases l with
  | nil => simp
  | cons e l => simpa [List.getLast?_cons_cons] using this
theorem Canon.pos {B : Nat} (hB : 2 ≤ B) : ∀ {l : List Nat}, Canon B l → l ≠ [] → 0 < ofB B l
  | [], _, h => absurd rfl h
  | [d], h, _ => by
    have := h.2
    simp [ofB] at this ⊢
    omega
  | d :: e :: l, h, _ => by
    have := Canon.pos hB h.tail (by simp)
    simp only [ofB] at this ⊢
    have : 0 < B * (e + B * ofB B l) := Nat.mul_pos (by omega) this
    omega
theorem canon_eq {B : Nat} (hB : 2 ≤ B) : ∀ {l : List Nat}, Canon B l → l = toB B (ofB B l)
  | [], _ => rfl
  | d :: l, h => by
    have hp := Canon.pos hB h (by simp)
    have hd : d < B := h.1 d (by simp)
    rw [toB_pos B _ hB hp]
    simp only [ofB]
    rw [Nat.add_mul_mod_self_left, Nat.mod_eq_of_lt hd, Nat.add_mul_div_left _ _ (by omega), Nat.div_eq_of_lt hd, Nat.zero_add, ← canon_eq hB h.tail]
theorem getLast_toB (B : Nat) (hB : 2 ≤ B) (n : Nat) : (toB B n).getLast? ≠ some 0 := by
  induction n using Nat.strongRecOn with
  | _ n ih =>
    by_cases h0 : n = 0
    · subst h0; simp [toB_zero]
    · rw [toB_pos B n hB (by omega)]
      have hih := ih (n / B) (Nat.div_lt_self (by omega) (by omega))
      by_cases hq : n / B = 0
      · rw [hq, toB_zero]
        have : n < B := by
          rcases Nat.lt_or_ge n B with h | h
          · exact h
          · have := Nat.div_pos h (by omega); omega
        simp [Nat.mod_eq_of_lt this]; omega
      · rw [toB_pos B (n / B) hB (Nat.pos_of_ne_zero hq)] at hih ⊢
        simpa [List.getLast?_cons_cons] using hih
theorem canon_toB (B : Nat) (hB : 2 ≤ B) (n : Nat) : Canon B (toB B n) := ⟨toB_lt B hB n, getLast_toB B hB n⟩
def trimL : List Nat → List Nat
  | [] => []
  | d :: l => if trimL l = [] ∧ d = 0 then [] else d :: trimL l
theorem ofB_trim (B : Nat) : ∀ l, ofB B (trimL l) = ofB B l
  | [] => rfl
  | d :: l => by
    unfold trimL
    have ih := ofB_trim B l
    split
    · rename_i h; rw [h.1] at ih; simp only [ofB] at *; rw [← ih, h.2]; simp
    · simp only [ofB, ih]
theorem mem_trimL {d : Nat} : ∀ {l : List Nat}, d ∈ trimL l → d ∈ l
  | [], h => h
  | e :: l, h => by
    unfold trimL at h
    split at h
    · simp at h
    · rcases List.mem_cons.1 h with rfl | h
      · simp
      · exact List.mem_cons_of_mem _ (mem_trimL h)
theorem trimL_last : ∀ l, (trimL l).getLast? ≠ some 0
  | [] => by simp [trimL]
  | d :: l => by
    have ih := trimL_last l
    unfold trimL
    split
    · simp
    · rename_i h
      cases ht : trimL l with
      | nil => simp [ht] at h ⊢; exact h
      | cons e m => rw [ht] at ih; simpa [List.getLast?_cons_cons] using ih
theorem trimL_eq (B : Nat) (hB : 2 ≤ B) (l : List Nat) (h : ∀ d ∈ l, d < B) : trimL l = toB B (ofB B l) := by
  rw [← ofB_trim B l]
  exact canon_eq hB ⟨fun d hd => h d (mem_trimL hd), trimL_last l⟩
theorem ofB_append (B : Nat) : ∀ a b, ofB B (a ++ b) = ofB B a + B ^ a.length * ofB B b
  | [], b => by simp [ofB]
  | d :: a, b => by
    simp only [List.cons_append, ofB, ofB_append B a b, List.length_cons, Nat.pow_succ]
    rw [Nat.mul_add]
    have : B * (B ^ a.length * ofB B b) = B ^ a.length * B * ofB B b := by
      rw [← Nat.mul_assoc, Nat.mul_comm B]
    omega
theorem ofB_lt (B : Nat) : ∀ l : List Nat, (∀ d ∈ l, d < B) → ofB B l < B ^ l.length
  | [], _ => by simp [ofB]
  | d :: l, h => by
    have ih := ofB_lt B l (fun x hx => h x (List.mem_cons_of_mem _ hx))
    have hd := h d (by simp)
    simp only [ofB, List.length_cons, Nat.pow_succ]
    have : B * (ofB B l + 1) ≤ B * B ^ l.length := Nat.mul_le_mul_left _ ih
    rw [Nat.mul_add] at this
    rw [Nat.mul_comm (B ^ l.length)]
    omega
theorem length_toB_le (B : Nat) (hB : 2 ≤ B) (n k : Nat) (h : n < B ^ k) : (toB B n).length ≤ k := by
  induction k generalizing n with
  | zero => simp at h; subst h; simp [toB_zero]
  | succ k ih =>
    by_cases h0 : n = 0
    · subst h0; simp [toB_zero]
    · rw [toB_pos B n hB (by omega)]
      have : n / B < B ^ k := by
        rw [Nat.div_lt_iff_lt_mul (by omega)]
        rwa [Nat.pow_succ] at h
      have := ih _ this
      simp; omega
theorem pow_le_of_length (B : Nat) (hB : 2 ≤ B) (n : Nat) (h0 : 0 < n) : B ^ ((toB B n).length - 1) ≤ n := by
  induction n using Nat.strongRecOn with
  | _ n ih =>
    rw [toB_pos B n hB h0]
    by_cases hq : n / B = 0
    · rw [hq, toB_zero]; simp; omega
    · have := ih (n / B) (Nat.div_lt_self h0 (by omega)) (Nat.pos_of_ne_zero hq)
      simp only [List.length_cons, Nat.add_sub_cancel]
      have hl : (toB B (n / B)).length = ((toB B (n / B)).length - 1) + 1 := by
        have : toB B (n / B) ≠ [] := by rw [toB_pos B _ hB (Nat.pos_of_ne_zero hq)]; simp
        have := List.length_pos_iff.2 this
        omega
      rw [hl, Nat.pow_succ]
      have h2 := Nat.mul_le_mul_right B this
      have h3 := Nat.div_mul_le_self n B
      omega
theorem length_toB_le_iff (B : Nat) (hB : 2 ≤ B) (n k : Nat) : (toB B n).length ≤ k ↔ n < B ^ k := by
  constructor
  · intro h
    have h1 := ofB_lt B (toB B n) (toB_lt B hB n)
    rw [ofB_toB B hB] at h1
    exact Nat.lt_of_lt_of_le h1 (Nat.pow_le_pow_right (by omega) h)
  · exact length_toB_le B hB n k
def foldSt (d : Nat → Int) (c0 : Int) : Nat → Int × List Int
  | 0 => (c0, [])
  | k + 1 => if d k + (foldSt d c0 k).1 < 0 then (-1, (foldSt d c0 k).2 ++ [d k + (foldSt d c0 k).1 + 10000])
    else if 10000 ≤ d k + (foldSt d c0 k).1 then ((d k + (foldSt d c0 k).1) / 10000, (foldSt d c0 k).2 ++ [(d k + (foldSt d c0 k).1) % 10000])
    else (0, (foldSt d c0 k).2 ++ [d k + (foldSt d c0 k).1])
theorem foldSt_neg {d : Nat → Int} {c0 : Int} {k : Nat} (h : d k + (foldSt d c0 k).1 < 0) : foldSt d c0 (k + 1) = (-1, (foldSt d c0 k).2 ++ [d k + (foldSt d c0 k).1 + 10000]) := by
  rw [foldSt, if_pos h]
theorem foldSt_big {d : Nat → Int} {c0 : Int} {k : Nat} (h : ¬ d k + (foldSt d c0 k).1 < 0) (h2 : 10000 ≤ d k + (foldSt d c0 k).1) : foldSt d c0 (k + 1) = ((d k + (foldSt d c0 k).1) / 10000, (foldSt d c0 k).2 ++ [(d k + (foldSt d c0 k).1) % 10000]) := by
  rw [foldSt, if_neg h, if_pos h2]
theorem foldSt_mid {d : Nat → Int} {c0 : Int} {k : Nat} (h : ¬ d k + (foldSt d c0 k).1 < 0) (h2 : ¬ 10000 ≤ d k + (foldSt d c0 k).1) : foldSt d c0 (k + 1) = (0, (foldSt d c0 k).2 ++ [d k + (foldSt d c0 k).1]) := by
  rw [foldSt, if_neg h, if_neg h2]
theorem foldSt_len (d : Nat → Int) (c0 : Int) : ∀ k, (foldSt d c0 k).2.length = k
  | 0 => rfl
  | k + 1 => by
    have := foldSt_len d c0 k
    rw [foldSt]; split <;> (try split) <;> simp [this]
def valI : List Int → Int
  | [] => 0
  | x :: l => x + 10000 * valI l
theorem valI_append : ∀ a b, valI (a ++ b) = valI a + 10000 ^ a.length * valI b
  | [], b => by simp [valI]
  | x :: a, b => by
    simp only [List.cons_append, valI, valI_append a b, List.length_cons, Int.pow_succ]
    grind
def dsum (d : Nat → Int) : Nat → Int
  | 0 => 0
  | k + 1 => dsum d k + d k * 10000 ^ k
theorem foldSt_val (d : Nat → Int) (c0 : Int) : ∀ k, valI (foldSt d c0 k).2 + (foldSt d c0 k).1 * 10000 ^ k = c0 + dsum d k
  | 0 => by simp [foldSt, valI, dsum]
  | k + 1 => by
    have ih := foldSt_val d c0 k
    have hl := foldSt_len d c0 k
    rw [foldSt]
    split
    · simp only [valI_append, hl, valI, dsum, Int.pow_succ]; grind
    · split
      · simp only [valI_append, hl, valI, dsum, Int.pow_succ]
        have h3 := Int.mul_ediv_add_emod (d k + (foldSt d c0 k).1) 10000
        grind
      · simp only [valI_append, hl, valI, dsum, Int.pow_succ]; grind
theorem foldSt_digits (d : Nat → Int) (c0 : Int) (h : ∀ k, -10000 ≤ d k + (foldSt d c0 k).1) : ∀ k, ∀ x ∈ (foldSt d c0 k).2, 0 ≤ x ∧ x < 10000
  | 0 => by simp [foldSt]
  | k + 1 => by
    have ih := foldSt_digits d c0 h k
    have hk := h k
    intro x hx
    rw [foldSt] at hx
    split at hx
    · rcases List.mem_append.1 hx with hx | hx
      · exact ih x hx
      · simp at hx; omega
    · split at hx
      · rcases List.mem_append.1 hx with hx | hx
        · exact ih x hx
        · simp at hx; omega
      · rcases List.mem_append.1 hx with hx | hx
        · exact ih x hx
        · simp at hx; omega
def toNats (l : List Int) : List Nat := l.map Int.toNat
theorem ofB_toNats : ∀ l : List Int, (∀ x ∈ l, 0 ≤ x) → ((ofB 10000 (toNats l) : Nat) : Int) = valI l
  | [], _ => rfl
  | x :: l, h => by
    have ih := ofB_toNats l (fun y hy => h y (by simp [hy]))
    have hx := h x (by simp)
    simp only [toNats, List.map_cons, ofB, valI] at *
    omega
theorem toNats_cast (l : List Int) (h : ∀ x ∈ l, 0 ≤ x) : (toNats l).map (fun n : Nat => (n : Int)) = l := by
  simp only [toNats, List.map_map]
  conv => rhs; rw [← List.map_id l]
  apply List.map_congr_left
  intro x hx
  have := h x hx
  simp; omega
theorem toNats_lt (l : List Int) (h : ∀ x ∈ l, 0 ≤ x ∧ x < 10000) : ∀ x ∈ toNats l, x < 10000 := by
  intro x hx
  obtain ⟨y, hy, rfl⟩ := List.mem_map.1 hx
  have := h y hy
  omega
theorem dsum_getD (xs : List Nat) : ∀ k, dsum (fun i => ((xs.getD i 0 : Nat) : Int)) k = ((ofB 10000 (xs.take k) : Nat) : Int)
  | 0 => by simp [dsum, ofB]
  | k + 1 => by
    rw [dsum, dsum_getD xs k]
    by_cases hk : k < xs.length
    · have : xs.take (k + 1) = xs.take k ++ [xs.getD k 0] := by
        rw [List.take_succ_eq_append_getElem hk]; simp [hk]
      rw [this, ofB_append]
      have hl : (xs.take k).length = k := by simp; omega
      rw [hl]
      simp only [ofB, Nat.mul_zero, Nat.add_zero]
      rw [Int.natCast_add, Int.natCast_mul, Int.natCast_pow]
      rw [Int.mul_comm]; rfl
    · rw [List.take_of_length_le (by omega), List.take_of_length_le (by omega)]
      have : xs.getD k 0 = 0 := by simp [List.getD, List.getElem?_eq_none (Nat.le_of_not_lt hk)]
      rw [this]; simp
theorem dsum_congr {d d' : Nat → Int} {k : Nat} (h : ∀ i, d i = d' i) : dsum d k = dsum d' k := by
  have : d = d' := funext h
  rw [this]
theorem dsum_add (d e : Nat → Int) : ∀ k, dsum (fun i => d i + e i) k = dsum d k + dsum e k
  | 0 => by simp [dsum]
  | k + 1 => by simp only [dsum, dsum_add d e k]; grind
theorem dsum_sub (d e : Nat → Int) : ∀ k, dsum (fun i => d i - e i) k = dsum d k - dsum e k
  | 0 => by simp [dsum]
  | k + 1 => by simp only [dsum, dsum_sub d e k]; grind
theorem dsum_mul (d : Nat → Int) (c : Int) : ∀ k, dsum (fun i => d i * c) k = dsum d k * c
  | 0 => by simp [dsum]
  | k + 1 => by simp only [dsum, dsum_mul d c k]; grind
theorem ofB_take_ge (xs : List Nat) {k : Nat} (h : xs.length ≤ k) : ofB 10000 (xs.take k) = ofB 10000 xs := by rw [List.take_of_length_le h]
theorem getD_lt {xs : List Nat} (h : ∀ x ∈ xs, x < 10000) (i : Nat) : xs.getD i 0 < 10000 := by
  by_cases hi : i < xs.length
  · simp [hi]; exact h _ (List.getElem_mem hi)
  · simp [List.getD, List.getElem?_eq_none (Nat.le_of_not_lt hi)]
def dplus (xs ys : List Nat) (i : Nat) : Int := ((xs.getD i 0 : Nat) : Int) + ((ys.getD i 0 : Nat) : Int)
theorem plus_carry {xs ys : List Nat} (hx : ∀ x ∈ xs, x < 10000) (hy : ∀ x ∈ ys, x < 10000) : ∀ k, 0 ≤ (foldSt (dplus xs ys) 0 k).1 ∧ (foldSt (dplus xs ys) 0 k).1 ≤ 1
  | 0 => by simp [foldSt]
  | k + 1 => by
    have ih := plus_carry hx hy k
    have h1 := getD_lt hx k
    have h2 := getD_lt hy k
    rw [foldSt]
    have hd : dplus xs ys k = ((xs.getD k 0 : Nat) : Int) + ((ys.getD k 0 : Nat) : Int) := rfl
    split
    · omega
    · split <;> simp only <;> omega
theorem plus_res {xs ys : List Nat} (hx : ∀ x ∈ xs, x < 10000) (hy : ∀ x ∈ ys, x < 10000) {n k : Nat} (hn : xs.length ≤ n ∧ ys.length ≤ n) (hk : n ≤ k) (hc : (foldSt (dplus xs ys) 0 k).1 = 0) :
    (∀ x ∈ (foldSt (dplus xs ys) 0 k).2, 0 ≤ x ∧ x < 10000) ∧ ofB 10000 (toNats (foldSt (dplus xs ys) 0 k).2) = ofB 10000 xs + ofB 10000 ys := by
  have hd : ∀ x ∈ (foldSt (dplus xs ys) 0 k).2, 0 ≤ x ∧ x < 10000 := foldSt_digits _ _ (fun j => by
    have := plus_carry hx hy j
    simp only [dplus]; omega) k
  refine ⟨hd, ?_⟩
  have h1 := foldSt_val (dplus xs ys) 0 k
  have h2 := ofB_toNats _ (fun x hx => (hd x hx).1)
  have h3 : dsum (dplus xs ys) k = ((ofB 10000 xs : Nat) : Int) + ((ofB 10000 ys : Nat) : Int) := by
    have := dsum_add (fun i => ((xs.getD i 0 : Nat) : Int)) (fun i => ((ys.getD i 0 : Nat) : Int)) k
    rw [dsum_getD, dsum_getD, ofB_take_ge xs (by omega), ofB_take_ge ys (by omega)] at this
    exact this
  rw [hc] at h1
  omega
def dminus (xs ys : List Nat) (i : Nat) : Int := ((xs.getD i 0 : Nat) : Int) - ((ys.getD i 0 : Nat) : Int)
theorem minus_carry {xs ys : List Nat} (hx : ∀ x ∈ xs, x < 10000) (hy : ∀ x ∈ ys, x < 10000) : ∀ k, -1 ≤ (foldSt (dminus xs ys) 0 k).1 ∧ (foldSt (dminus xs ys) 0 k).1 ≤ 0
  | 0 => by simp [foldSt]
  | k + 1 => by
    have ih := minus_carry hx hy k
    have h1 := getD_lt hx k
    have h2 := getD_lt hy k
    rw [foldSt]
    have hd : dminus xs ys k = ((xs.getD k 0 : Nat) : Int) - ((ys.getD k 0 : Nat) : Int) := rfl
    split
    · simp
    · split <;> simp only <;> omega
theorem valI_nonneg {l : List Int} (h : ∀ x ∈ l, 0 ≤ x ∧ x < 10000) : 0 ≤ valI l ∧ valI l < 10000 ^ l.length := by
  induction l with
  | nil => simp [valI]
  | cons x l ih =>
    have := ih (fun y hy => h y (by simp [hy]))
    have hx := h x (by simp)
    simp only [valI, List.length_cons, Int.pow_succ]
    constructor
    · omega
    · omega
theorem minus_res {xs ys : List Nat} (hx : ∀ x ∈ xs, x < 10000) (hy : ∀ x ∈ ys, x < 10000) {n : Nat} (hn : xs.length ≤ n ∧ ys.length ≤ n) (hle : ofB 10000 ys ≤ ofB 10000 xs) :
    (foldSt (dminus xs ys) 0 n).1 = 0 ∧ (∀ k, ∀ x ∈ (foldSt (dminus xs ys) 0 k).2, 0 ≤ x ∧ x < 10000) ∧ ∀ k, n ≤ k → (foldSt (dminus xs ys) 0 k).1 = 0 → ofB 10000 (toNats (foldSt (dminus xs ys) 0 k).2) = ofB 10000 xs - ofB 10000 ys := by
  have hd : ∀ k, ∀ x ∈ (foldSt (dminus xs ys) 0 k).2, 0 ≤ x ∧ x < 10000 := foldSt_digits _ _ (fun j => by
    have := minus_carry hx hy j
    have h1 := getD_lt hx j
    have h2 := getD_lt hy j
    simp only [dminus]; omega)
  have h3 : ∀ k, n ≤ k → dsum (dminus xs ys) k = ((ofB 10000 xs : Nat) : Int) - ((ofB 10000 ys : Nat) : Int) := fun k hk => by
    have := dsum_sub (fun i => ((xs.getD i 0 : Nat) : Int)) (fun i => ((ys.getD i 0 : Nat) : Int)) k
    rw [dsum_getD, dsum_getD, ofB_take_ge xs (by omega), ofB_take_ge ys (by omega)] at this
    exact this
  refine ⟨?_, hd, fun k hk hc => ?_⟩
  · have h1 := foldSt_val (dminus xs ys) 0 n
    have h4 := valI_nonneg (hd n)
    have h5 := minus_carry hx hy n
    rw [foldSt_len] at h4
    rw [h3 n (Nat.le_refl _)] at h1
    have hcases : (foldSt (dminus xs ys) 0 n).1 = -1 ∨ (foldSt (dminus xs ys) 0 n).1 = 0 := by omega
    rcases hcases with hc | hc
    · rw [hc] at h1; omega
    · exact hc
  · have h1 := foldSt_val (dminus xs ys) 0 k
    have h2 := ofB_toNats _ (fun x hx => (hd k x hx).1)
    rw [hc, h3 k hk] at h1
    omega
def dby (xs : List Nat) (m : Nat) (i : Nat) : Int := ((xs.getD i 0 : Nat) : Int) * (m : Int)
theorem dby_le {xs : List Nat} (hx : ∀ x ∈ xs, x < 10000) {m : Nat} (hm : m < 10000) (i : Nat) : 0 ≤ dby xs m i ∧ dby xs m i ≤ 99980001 := by
  have h1 := getD_lt hx i
  have h2 : xs.getD i 0 * m ≤ 9999 * 9999 := Nat.mul_le_mul (by omega) (by omega)
  unfold dby
  rw [← Int.natCast_mul]
  omega
theorem by_carry {xs : List Nat} (hx : ∀ x ∈ xs, x < 10000) {m : Nat} (hm : m < 10000) : ∀ k, 0 ≤ (foldSt (dby xs m) 0 k).1 ∧ (foldSt (dby xs m) 0 k).1 < 10000
  | 0 => by simp [foldSt]
  | k + 1 => by
    have ih := by_carry hx hm k
    have h1 := dby_le hx hm k
    rw [foldSt]
    split
    · omega
    · split <;> simp only <;> omega
theorem by_res {xs : List Nat} (hx : ∀ x ∈ xs, x < 10000) {m : Nat} (hm : m < 10000) {n k : Nat} (hn : xs.length ≤ n) (hk : n ≤ k) (hc : (foldSt (dby xs m) 0 k).1 = 0) :
    (∀ x ∈ (foldSt (dby xs m) 0 k).2, 0 ≤ x ∧ x < 10000) ∧ ofB 10000 (toNats (foldSt (dby xs m) 0 k).2) = ofB 10000 xs * m := by
  have hd : ∀ x ∈ (foldSt (dby xs m) 0 k).2, 0 ≤ x ∧ x < 10000 := foldSt_digits _ _ (fun j => by
    have := by_carry hx hm j
    have := dby_le hx hm j
    omega) k
  refine ⟨hd, ?_⟩
  have h1 := foldSt_val (dby xs m) 0 k
  have h2 := ofB_toNats _ (fun x hx => (hd x hx).1)
  have h3 : dsum (dby xs m) k = ((ofB 10000 xs : Nat) : Int) * (m : Int) := by
    have := dsum_mul (fun i => ((xs.getD i 0 : Nat) : Int)) (m : Int) k
    rw [dsum_getD, ofB_take_ge xs (by omega)] at this
    exact this
  rw [hc, h3] at h1
  rw [← Int.natCast_mul] at h1
  omega
namespace Go.Eng
open Go Go.RowKit
section range
variable {P : Program} {w w' : World}
structure Keeps (bs : List Nat) (W W' : World) : Prop where
  size : W.heap.size ≤ W'.heap.size
  block : ∀ k, k < W.heap.size → k ∉ bs → W'.heap[k]? = W.heap[k]?
theorem Keeps.refl (bs : List Nat) (W : World) : Keeps bs W W := ⟨Nat.le_refl _, fun _ _ _ => rfl⟩
theorem Keeps.ext {bs : List Nat} {W A B : World} (h : Keeps bs W A) (k : Ext A B) : Keeps bs W B :=
  ⟨Nat.le_trans h.size k.size, fun i hi hb => (k.block i (Nat.lt_of_lt_of_le hi h.size)).trans (h.block i hi hb)⟩
theorem Keeps.put {bs : List Nat} {W A B : World} {b : Nat} (h : Keeps bs W A) (k : Put A B b) (hb : b ∈ bs ∨ W.heap.size ≤ b) : Keeps bs W B :=
  ⟨by rw [k.size]; exact h.size, fun i hi hn => (k.block i (fun e => by subst e; rcases hb with hb | hb; exact hn hb; omega)).trans (h.block i hi hn)⟩
theorem Keeps.gr {bs : List Nat} {W A B : World} {row : Option Nat} (h : Keeps bs W A) (k : A.grownBy B row) (hb : ∀ b, row = some b → b ∈ bs ∨ W.heap.size ≤ b) : Keeps bs W B :=
  ⟨Nat.le_trans h.size k.size, fun i hi hn => (k.block i (Nat.lt_of_lt_of_le hi h.size) (fun e => by rcases hb i e.symm with hb | hb; exact hn hb; omega)).trans (h.block i hi hn)⟩
theorem Keeps.others {bs : List Nat} {W W' : World} (h : Keeps bs W W') (hc : ∀ b ∈ bs, ∃ o : Obj, W.heap[b]? = some o ∧ o.isCells = true) : KeepsOthers W W' :=
  ⟨h.size, fun k o hk ho => (h.block k (Array.getElem?_eq_some_iff.1 hk).1 (fun hm => by
    obtain ⟨o', ho', hc'⟩ := hc k hm
    rw [hk] at ho'; cases ho'; rw [ho] at hc'; cases hc')).trans hk⟩
theorem Keeps.blk {bs : List Nat} {W W' : World} {b : Nat} {t : TypeId} {cs : Array Value} (h : Keeps bs W W') (hn : b ∉ bs) (hb : Blk W b t cs) : Blk W' b t cs := (h.block b hb.lt hn).trans hb
theorem Keeps.rw {bs : List Nat} {W W' : World} {lo : Nat} {A : Option Addr} {cs : List Value} (h : Keeps bs W W') (hn : ∀ ad, A = some ad → ad.block ∉ bs) (hb : Rw W lo A cs) : Rw W' lo A cs := by
  refine ⟨fun j u hu => ?_, hb.lo, fun ad e => Nat.lt_of_lt_of_le (hb.hi ad e) h.size⟩
  obtain ⟨b, o, e, hc⟩ := hb.cells j u hu
  refine ⟨b, o, e, ?_⟩
  rw [← hc]
  exact World.cell?_of_block (h.block b (hb.hi _ e) (hn _ e))
theorem Blk.isCells {b : Nat} {t : TypeId} {cs : Array Value} (h : Blk w b t cs) : ∃ o : Obj, w.heap[b]? = some o ∧ o.isCells = true := ⟨_, h, rfl⟩
def Celled (B : Nat) (I : World → Prop) : Prop :=
  ∀ W W' row, I W → W.grownBy W' row → (∀ r, row = some r → B ≤ r ∧ ∃ o : Obj, W.heap[r]? = some o ∧ o.isCells = false) → I W'
theorem Blk.cel {W W' : World} {row : Option Nat} {B b : Nat} {t : TypeId} {cs : Array Value} (hg : W.grownBy W' row) (hr : ∀ r, row = some r → B ≤ r ∧ ∃ o : Obj, W.heap[r]? = some o ∧ o.isCells = false) (h : Blk W b t cs) : Blk W' b t cs :=
  (grownBy_keeps_cells hg (fun r e => (hr r e).2) h rfl).trans h
theorem Rw.cel {W W' : World} {row : Option Nat} {B lo : Nat} {A : Option Addr} {cs : List Value} (hg : W.grownBy W' row) (hr : ∀ r, row = some r → B ≤ r ∧ ∃ o : Obj, W.heap[r]? = some o ∧ o.isCells = false) (h : Rw W lo A cs) : Rw W' lo A cs := by
  refine ⟨fun j u hu => ?_, h.lo, fun ad e => Nat.lt_of_lt_of_le (h.hi ad e) hg.size⟩
  obtain ⟨b, o, e, hc⟩ := h.cells j u hu
  exact ⟨b, o, e, cell_kept hc hg (fun r e => (hr r e).2)⟩
theorem low_cel {W W' w0 : World} {row : Option Nat} {B n0 : Nat} (hn : n0 ≤ B) (hg : W.grownBy W' row) (hr : ∀ r, row = some r → B ≤ r ∧ ∃ o : Obj, W.heap[r]? = some o ∧ o.isCells = false) (hs : n0 ≤ W.heap.size) (h : Below n0 w0 W) : Below n0 w0 W' :=
  h.grown hg hs (fun k e => Nat.le_trans hn (hr k e).1)
def Dfr (w : World) (D : Nat) : Prop := w.heap[D]? = some (.deferred (some []))
theorem Dfr.ext {D : Nat} (k : Ext w w') (h : Dfr w D) : Dfr w' D := k.heap h
theorem Dfr.put {D b : Nat} (k : Put w w' b) (hne : D ≠ b) (h : Dfr w D) : Dfr w' D := (k.block D hne).trans h
theorem Dfr.gr {D : Nat} {row : Option Nat} (k : w.grownBy w' row) (hne : some D ≠ row) (h : Dfr w D) : Dfr w' D := (k.block D (Array.getElem?_eq_some_iff.1 h).1 hne).trans h
theorem Dfr.ne {D b : Nat} {t : TypeId} {cs : Array Value} (h : Dfr w D) (hb : Blk w b t cs) : D ≠ b := fun e => by
  subst e; unfold Dfr at h; unfold Blk at hb; rw [h] at hb; cases hb
def IterK (P : Program) (gf : Nat) (lb : List Value) (m : Nat) (enc : Nat → List Value) (order : List Nat) (Kq : World → Prop) (w : World) : Prop :=
  SeqStopsK Fence.wide 8 P gf lb.toArray (fun i : {i : Nat // i < m} => (enc i.1).toArray) (fun A B => Kq A → Kq B) (fun xs => xs.map (·.1) = order) (fun xs => xs.map (·.1) <+: order) m w
def updL (e : Nat → Value) : List Nat → List Value → Nat → Value
  | p :: ps, v :: vs => updL (upd e p v) ps vs
  | _, _ => e
theorem own_cel {W W' : World} {row : Option Nat} {B lo k : Nat} {et : TypeId} {sz : Nat} {v : Value} {cs : List Value} (hg : W.grownBy W' row) (hr : ∀ r, row = some r → B ≤ r ∧ ∃ o : Obj, W.heap[r]? = some o ∧ o.isCells = false) (h : W.ownsRow lo et sz v k cs) : W'.ownsRow lo et sz v k cs := by
  obtain ⟨hl, hv | ⟨g, cap, cur, rfl, hg', hh, r⟩⟩ := h
  · exact ⟨hl, .inl hv⟩
  · exact ⟨hl, .inr ⟨g, cap, cur, rfl, hg', (grownBy_keeps_cells hg (fun r e => (hr r e).2) hh rfl).trans hh, r⟩⟩
theorem own_dfr {lo k D : Nat} {et : TypeId} {sz : Nat} {v : Value} {cs : List Value} (hK : Dfr w D) (h : w.ownsRow lo et sz v k cs) : (w.putObj D (.deferred none)).ownsRow lo et sz v k cs := by
  refine own_cel (B := 0) (grownBy_putObj' w D _) (fun r e => ?_) h
  cases e
  exact ⟨Nat.zero_le _, _, hK, rfl⟩
theorem act_set (N : Nat) (e : Nat → Value) (d : Nat) (v : Value) : (act N e []).tmps.setIfInBounds d v = (act N (upd e d v) []).tmps := by
  have := act_put N e [] d v
  exact congrArg Act.tmps this
theorem act_fold (N : Nat) : ∀ (ps : List Nat) (vs : List Value) (e : Nat → Value), (ps.zip vs).foldl (fun t (x : Nat × Value) => t.setIfInBounds x.1 x.2) (act N e []).tmps = (act N (updL e ps vs) []).tmps
  | [], vs, e => by simp [updL]
  | p :: ps, [], e => by simp [updL]
  | p :: ps, v :: vs, e => by
    simp only [List.zip_cons_cons, List.foldl_cons, updL]
    rw [act_set, act_fold N ps vs]
def roundPost (Kq : World → Prop) (I : List Nat → World → Prop) (Ix : Code → List Nat → World → Prop) (xs : List Nat) (W : World) : Exit → Act → World → Prop
  | .normal, _, W' => KeepsOthers W W' ∧ (Kq W → Kq W') ∧ I xs W'
  | .ret, _, W' => KeepsOthers W W' ∧ Ix .ret xs W'
  | .exit id, _, W' => KeepsOthers W W' ∧ Ix (.exit id) xs W'
  | _, _, _ => False
theorem c_range {N : Nat} {e : Nat → Value} {ds : List Deferred} {Q : Exit → Act → World → Prop} {m : Nat} {enc : Nat → List Value} {order : List Nat} {Kq : World → Prop} {gf : Nat} {lb : List Value} {g : Operand} {ps : List Nat} {assign body : Code}
    (hg : ev N e g = .func (.func gf) #[] lb.toArray) (eg : Enters P gf) (hit : IterK P gf lb m enc order Kq w)
    (hKq : Celled w.heap.size Kq) (hps : ∀ i, (enc i).length = ps.length)
    (qs : List Nat) (qv : Nat → List Value)
    (hassign : ∀ l x W K, K (act N (updL (updL e ps (enc x)) qs (qv x)) []) W → assign.wpIn (Fw (some l)) 7 P (Exit.then K (fun _ _ _ => False)) (act N (updL e ps (enc x)) []) W)
    (I : List Nat → World → Prop) (Ix : Code → List Nat → World → Prop) (hI : ∀ xs, Celled w.heap.size (I xs)) (hIx : ∀ c xs, Celled w.heap.size (Ix c xs)) (h0 : I [] w)
    (hbody : ∀ l pre x W, I pre W → (∀ i ∈ pre, i < m) → x < m → pre.length < m → body.wpIn (Fw (some l)) 7 P (roundPost Kq I Ix (pre ++ [x]) W) (act N (updL (updL e ps (enc x)) qs (qv x)) []) W)
    (hdone : ∀ D W, w.heap.size ≤ D → I order W → Dfr W D → Q .normal (act N e (⟨.collected D, #[]⟩ :: ds)) W)
    (hstop : ∀ D c pre W, w.heap.size ≤ D → pre <+: order → Ix c pre W → Dfr W D → c.wpIn (Fw none) 9 P Q (act N e (⟨.collected D, #[]⟩ :: ds)) W) :
    (Code.rangeFunc g ps.toArray assign body).wpIn (Fw none) 9 P Q (act N e ds) w := by
  have hsub : ∀ pre : List {i : Nat // i < m}, ∀ i ∈ pre.map (·.1), i < m := fun pre i hi => by
    obtain ⟨x, _, rfl⟩ := List.mem_map.1 hi
    exact x.2
  refine wpIn_rangeFunc_ownF (F := Fence.wide) (n := 9) (α := {i : Nat // i < m}) rfl (by omega) (gf := gf) (lb := lb.toArray) (by rw [act_eval]; exact hg) trivial eg (w0 := w) hit (fun h k q => k (h q))
    (fun W l o o' hl ho hc _ q => hKq W _ (some l) q (grownBy_putObj' W l o') (fun r er => by cases er; exact ⟨hl, o, ho, hc⟩)) (Below.refl _ _) (fun x => by simpa using hps x.1)
    (fun pre W => I (pre.map (·.1)) W) (fun c pre W => Ix c (pre.map (·.1)) W) (fun pre W W' row h => hI (pre.map (·.1)) W W' row h) (fun c pre W W' row h => hIx c (pre.map (·.1)) W W' row h) h0
    (fun x => act N (updL (updL e ps (enc x.1)) qs (qv x.1)) []) (fun l x W K hK => ?_) (fun l pre x W hi hlen => ?_) (fun D xs W hD hS hi hK => ?_) (fun D c pre W hD hsp hi hK => ?_)
  · have h := hassign l x.1 W K hK
    have h2 : ({ tmps := (ps.toArray.zip (enc x.1).toArray).foldl (fun t (p, v) => t.setIfInBounds p v) (act N e ds).tmps, defers := [] } : Act) = act N (updL e ps (enc x.1)) [] := by
      have h3 := act_fold N ps (enc x.1) e
      have : (act N (updL e ps (enc x.1)) []) = ⟨(act N (updL e ps (enc x.1)) []).tmps, []⟩ := rfl
      rw [this, ← h3]
      simp only [List.zip_toArray, List.foldl_toArray]
      rfl
    rw [h2]
    exact h
  · refine wpIn_mono (hbody l (pre.map (·.1)) x.1 W hi (hsub pre) x.2 (by simpa using hlen)) ?_
    rintro ex a W3 hp
    have hmap : (pre ++ [x]).map (·.1) = pre.map (·.1) ++ [x.1] := by simp
    cases ex with
    | normal => exact ⟨hp.1, hp.2.1, by simp only []; rw [hmap]; exact hp.2.2⟩
    | ret => exact ⟨hp.1, by simp only []; rw [hmap]; exact hp.2⟩
    | exit id => exact ⟨hp.1, by simp only []; rw [hmap]; exact hp.2⟩
    | goto t => exact hp.elim
    | panic c => exact hp.elim
    | outgrown => exact hp.elim
  · exact hdone D W hD (by have h : xs.map (·.1) = order := hS; rw [← h]; exact hi) hK
  · exact hstop D c _ W hD hsp hi hK
variable {f : FuncId} {fn : Func} {c : Code} {R : Value → World → Prop}
theorem act_start (args : List Value) (fn : Func) : ({ tmps := args.toArray ++ Array.replicate (fn.ntmps - args.toArray.size) undef, defers := [] } : Act) = act (args.length + (fn.ntmps - args.length)) (ent args) [] := by
  simp only [act, Act.mk.injEq, and_true]
  apply Array.ext
  · simp
  · intro i h1 h2
    simp only [Array.getElem_ofFn, ent]
    by_cases hi : i < args.length
    · simp [hi]
    · have h3 : args.toArray.size ≤ i := by simpa using hi
      rw [Array.getElem_append_right h3]
      simp [List.getElem?_eq_none (Nat.le_of_not_lt hi)]
theorem f_inM {args : List Value} (hf : P.funcs[f]? = some fn) (hb : fn.body = some c)
    (h : c.wpIn (Fw none) 9 P (bodyPostM Fence.wide 9 P fn (Ret w R)) (act (args.length + (fn.ntmps - args.length)) (ent args) []) w) : Calls P f args.toArray w (Ret w R) := by
  refine calls_Fw (n := 9) (callsIn_of_wp_marks hf hb trivial ?_)
  rw [act_start]
  exact h
theorem put_dfr {D : Nat} (w : World) : Put w (w.putObj D (.deferred none)) D :=
  ⟨rfl, rfl, rfl, by simp, fun k hk => World.putObj_heap_other hk⟩
theorem f_outM {N D : Nat} {e : Nat → Value} {w' : World} {v : Value} (hK : Dfr w' D) (hr : (results fn (act N e [⟨.collected D, #[]⟩]).tmps).run P (w'.putObj D (.deferred none)) = .ok v (w'.putObj D (.deferred none)))
    (hx : Ext w (w'.putObj D (.deferred none))) (hR : R v (w'.putObj D (.deferred none))) : bodyPostM Fence.wide 9 P fn (Ret w R) .ret (act N e [⟨.collected D, #[]⟩]) w' :=
  ⟨by simp, .inl ⟨D, _, rfl, run_takeDeferred hK, v, hr, hx, hR⟩⟩
theorem f_retM1 {N t D : Nat} {e : Nat → Value} {w' : World} {v : Value} (hK : Dfr w' D) (hres : fn.results = #[.tmp t]) (hx : Ext w w') (hD : w.heap.size ≤ D) (hR : R v (w'.putObj D (.deferred none))) (hv : ev N e (.tmp t) = v) : bodyPostM Fence.wide 9 P fn (Ret w R) .ret (act N e [⟨.collected D, #[]⟩]) w' :=
  f_outM hK (res1 hres (res_tmp hv _)) ((put_dfr w').low hx hD) hR
theorem f_outM0 {N : Nat} {e : Nat → Value} {w' : World} {v : Value} (hr : (results fn (act N e []).tmps).run P w' = .ok v w') (hx : Ext w w') (hR : R v w') : bodyPostM Fence.wide 9 P fn (Ret w R) .ret (act N e []) w' :=
  ⟨v, hr, hx, hR⟩
theorem Blk.dfr {D b : Nat} {t : TypeId} {cs : Array Value} (hK : Dfr w D) (h : Blk w b t cs) : Blk (w.putObj D (.deferred none)) b t cs := (put_dfr w).blk (fun e => hK.ne h e.symm) h
theorem Rw.dfr {D lo : Nat} {A : Option Addr} {cs : List Value} (hK : Dfr w D) (h : Rw w lo A cs) : Rw (w.putObj D (.deferred none)) lo A cs := by
  refine ⟨fun j u hu => ?_, h.lo, fun ad e => by rw [(put_dfr w).size]; exact h.hi ad e⟩
  obtain ⟨b, o, e, hc⟩ := h.cells j u hu
  refine ⟨b, o, e, ?_⟩
  rw [← hc]
  refine (put_dfr w).cell ?_
  intro hb
  simp only at hb
  subst hb
  obtain ⟨o', ho', hc'⟩ := cells_of_cell hc
  rw [show w.heap[b]? = some (.deferred (some [])) from hK] at ho'
  cases ho'; cases hc'
theorem k_yield {N : Nat} {e : Nat → Value} {ds : List Deferred} {K : Act → World → Prop} {Q : Exit → Act → World → Prop} {l d ty : Nat} {pos : String} {af : Array Edge} {x : Operand} {xs : Array Operand} {ats : Array TypeId} {vs : List Value} {R : Ending → World → Prop}
    (hx : ev N e x = .func (.yield l) #[] #[]) (hv : xs.toList.map (ev N e) = vs) (hy : YieldAt Fence.wide 7 P l vs.toArray w R)
    (hk : ∀ c w', R c w' → match c with | .returned v => K (act N (upd e d v) ds) w' | _ => False) : Oper.wpIn (Fw none) 8 P ⟨some d, .call { callee := .value x, args := xs, argTypes := ats }, ty, pos, af, none⟩ (act N e ds) w K Q := by
  subst hv
  obtain ⟨fn, tmps, assign, body, hr, hR⟩ := hy
  have hvs : (xs.toList.map (ev N e)).toArray = xs.map (ev N e) := by rw [← Array.toList_map, Array.toArray_toList]
  rw [hvs] at hr
  refine ⟨fun f _ => Fw_fn none f, ?_⟩
  rw [semAt_Fw rfl, act_eval]
  have : (execOp (ev N e) ⟨some d, .call { callee := .value x, args := xs, argTypes := ats }, ty, pos, af, none⟩).run P w = .ok (.round l fn tmps assign body) w := by
    simp [execOp, resolve, Deferred.ofValue, hx, invoke, hr]
  rw [this]
  refine ⟨(fun h => by rw [Fw_depth] at h; cases h), hR.mono ?_⟩
  intro c w' h
  have := hk c w' h
  cases c with
  | returned v => simp only at this ⊢; rw [act_put]; exact this
  | panicked c => exact this.elim
  | outgrown => exact this.elim
theorem iter_args {F : Fence} {n g : Nat} {R : Ending → World → Prop} {W : World} {a : Value} {lb : List Value} (h : CallsIn F n P g (a :: lb).toArray W R) : CallsIn F n P g (#[a] ++ lb.toArray) W R := by
  have : (#[a] ++ lb.toArray) = (a :: lb).toArray := by simp
  rw [this]; exact h
theorem f_inI {args : List Value} {R : Ending → World → Prop} (hf : P.funcs[f]? = some fn) (hb : fn.body = some c)
    (h : c.wpIn (Fw none) 8 P (bodyPost P fn R) (act (args.length + (fn.ntmps - args.length)) (ent args) []) w) : CallsIn Fence.wide 8 P f args.toArray w R := by
  refine callsIn_of_wp hf hb trivial ?_
  rw [act_start]
  exact h
theorem f_ret0I {N : Nat} {e : Nat → Value} {w' : World} {R : Ending → World → Prop} (hres : fn.results = #[]) (hR : ∀ v, R (.returned v) w') : bodyPost P fn R .ret (act N e []) w' :=
  ⟨rfl, _, res0 hres, hR _⟩
theorem f_end0I {N : Nat} {e : Nat → Value} {w' : World} {R : Ending → World → Prop} (hres : fn.results = #[]) (hR : ∀ v, R (.returned v) w') : bodyPost P fn R .normal (act N e []) w' :=
  ⟨rfl, _, res0 hres, hR _⟩
theorem yield_cases {J J' Kp : Prop} {c : Ending} (h : (c = .returned (.bool true) ∧ J ∧ Kp) ∨ (c = .returned (.bool false) ∧ J')) : ∃ q, c = .returned (.bool q) ∧ (q = true → J ∧ Kp) ∧ (q = false → J') := by
  rcases h with ⟨h1, h2, h3⟩ | ⟨h1, h2⟩
  · exact ⟨true, h1, fun _ => ⟨h2, h3⟩, fun h => by cases h⟩
  · exact ⟨false, h1, fun h => by (cases h), fun _ => h2⟩
end range
end Go.Eng
