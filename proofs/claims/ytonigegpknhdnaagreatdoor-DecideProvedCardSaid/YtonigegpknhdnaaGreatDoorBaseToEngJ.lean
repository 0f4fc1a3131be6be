/- Part of the proof of a statement about decisions. -/
import Derived.Test.YtonigegpknhdnaaGreatDoorLib9ToEng
import Derived.Test.YtonigegpknhdnaaGreatDoorProg
import Derived.KernelRfl
import Derived.Scope
import Derived.Laws.BytesString
set_option linter.all false
namespace Go.Proofs.YtonigegpknhdnaaGreatDoor
open Go Go.Eng Go.RowKit
theorem krBase {p : Prop} (h : p:=by kernel_rfl) : p:=h
theorem inf3:Inf Tryz.prog 3 (.int .i64 0) 1 8:=by unfold Inf; kernel_rfl
theorem inf4:Inf Tryz.prog 4 (.bool false) 1 1:=by unfold Inf; kernel_rfl
theorem inf5:Inf Tryz.prog 5 (.int .u8 0) 1 1:=by unfold Inf; kernel_rfl
theorem inf25:Inf Tryz.prog 23 (.nilFunc) 1 8:=by unfold Inf; kernel_rfl
theorem inf32:Inf Tryz.prog 35 (.int .i64 0) 1 8:=by unfold Inf; kernel_rfl
theorem inf36:Inf Tryz.prog 25 (.agg #[S ([]),S ([])]) 2 32:=by unfold Inf; kernel_rfl
theorem inf123:Inf Tryz.prog 90 (.slice none 0 0) 1 24:=by unfold Inf; kernel_rfl
theorem inf125:Inf Tryz.prog 92 (.agg #[.bool false,.slice none 0 0]) 2 32:=by unfold Inf; kernel_rfl
theorem inf150:Inf Tryz.prog 159 (.nilFunc) 1 8:=by unfold Inf; kernel_rfl
theorem inf157:Inf Tryz.prog 151 (.agg #[.pointer none,.slice none 0 0]) 2 32:=by unfold Inf; kernel_rfl
theorem inf235:Inf Tryz.prog 72 (.agg #[.bool false]) 1 1:=by unfold Inf; kernel_rfl
theorem inf1032:Inf Tryz.prog 44 (.agg #[S ([]),S ([]),S ([]),S ([])]) 4 64:=by unfold Inf; kernel_rfl
theorem inf1040:Inf Tryz.prog 139 (.nilFunc) 1 8:=by unfold Inf; kernel_rfl
theorem inf1052:Inf Tryz.prog 110 (.agg #[S ([]),S ([]),S ([]),S ([]),S ([]),S ([]),S ([]),S ([]),.nilFunc]) 9 136:=by unfold Inf; kernel_rfl
theorem inf1054:Inf Tryz.prog 105 (.agg #[.int .i64 0,S ([])]) 2 24:=by unfold Inf; kernel_rfl
theorem inf1056:Inf Tryz.prog 164 (.agg #[S ([]),S ([])]) 2 32:=by unfold Inf; kernel_rfl
theorem inf1077:Inf Tryz.prog 113 (.nilFunc) 1 8:=by unfold Inf; kernel_rfl
theorem inf1136:Inf Tryz.prog 231 (.nilFunc) 1 8:=by unfold Inf; kernel_rfl
theorem inf2027:Inf Tryz.prog 27 (.agg #[.int .i64 0,S ([]),S ([]),S ([]),S ([]),S ([]),S ([]),S ([]),S ([])]) 9 136:=by unfold Inf; kernel_rfl
theorem inf2059:Inf Tryz.prog 59 (.agg #[.bool false,S ([]),S ([]),S ([]),S ([]),S ([]),S ([])]) 7 104:=by unfold Inf; kernel_rfl
theorem inf2115:Inf Tryz.prog 115 (.nilFunc) 1 8:=by unfold Inf; kernel_rfl
theorem inf2116:Inf Tryz.prog 116 (.agg #[.nilFunc,.nilFunc]) 2 16:=by unfold Inf; kernel_rfl
theorem inf2117:Inf Tryz.prog 117 (.agg #[.nilFunc,.nilFunc,.nilFunc,.nilFunc,.nilFunc,.nilFunc,.nilFunc,.nilFunc]) 8 64:=by unfold Inf; kernel_rfl
theorem inf2141:Inf Tryz.prog 141 (.agg #[.int .i64 0,.nilFunc]) 2 16:=by unfold Inf; kernel_rfl
theorem sz3:(Tryz.prog.info? 3).map (·.size)=some 1:=by kernel_rfl
theorem sz4:(Tryz.prog.info? 4).map (·.size)=some 1:=by kernel_rfl
theorem sz9:(Tryz.prog.info? 9).map (·.size)=some 1:=by kernel_rfl
theorem sz32:(Tryz.prog.info? 35).map (·.size)=some 1:=by kernel_rfl
theorem sz36:(Tryz.prog.info? 25).map (·.size)=some 2:=by kernel_rfl
theorem sz123:(Tryz.prog.info? 90).map (·.size)=some 1:=by kernel_rfl
theorem sz125:(Tryz.prog.info? 92).map (·.size)=some 2:=by kernel_rfl
theorem sz150:(Tryz.prog.info? 159).map (·.size)=some 1:=by kernel_rfl
theorem sz1032:(Tryz.prog.info? 44).map (·.size)=some 4:=by kernel_rfl
theorem sz1040:(Tryz.prog.info? 139).map (·.size)=some 1:=by kernel_rfl
theorem sz1050:(Tryz.prog.info? 107).map (·.size)=some 1:=by kernel_rfl
theorem sz1052:(Tryz.prog.info? 110).map (·.size)=some 9:=by kernel_rfl
theorem sz1054:(Tryz.prog.info? 105).map (·.size)=some 2:=by kernel_rfl
theorem sz1056:(Tryz.prog.info? 164).map (·.size)=some 2:=by kernel_rfl
theorem sz1077:(Tryz.prog.info? 113).map (·.size)=some 1:=by kernel_rfl
theorem sz1136:(Tryz.prog.info? 231).map (·.size)=some 1:=by kernel_rfl
theorem sz2022:(Tryz.prog.info? 22).map (·.size)=some 7:=by kernel_rfl
theorem sz2027:(Tryz.prog.info? 27).map (·.size)=some 9:=by kernel_rfl
theorem sz2029:(Tryz.prog.info? 29).map (·.size)=some 13:=by kernel_rfl
theorem sz2059:(Tryz.prog.info? 59).map (·.size)=some 7:=by kernel_rfl
theorem sz2115:(Tryz.prog.info? 115).map (·.size)=some 1:=by kernel_rfl
theorem sz2116:(Tryz.prog.info? 116).map (·.size)=some 2:=by kernel_rfl
theorem sz2117:(Tryz.prog.info? 117).map (·.size)=some 8:=by kernel_rfl
theorem sz2141:(Tryz.prog.info? 141).map (·.size)=some 2:=by kernel_rfl
theorem sz2181:(Tryz.prog.info? 181).map (·.size)=some 1:=by kernel_rfl
def U3:=Tryz.underlying3
def U4:=Tryz.underlying4
def U5:=Tryz.underlying5
def U9:=Tryz.underlying9
def U23:=Tryz.underlying42
def U24:=Tryz.underlying89
def U32:=Tryz.underlying35
def U36:=Tryz.underlying25
def U112:=Tryz.underlying184
def U123:=Tryz.underlying90
def U125:=Tryz.underlying92
def U144:=Tryz.underlying149
def U235:=Tryz.underlying72
def U1032:=Tryz.underlying44
def U1052:=Tryz.underlying110
def U1054:=Tryz.underlying105
def U1056:=Tryz.underlying164
def U1116:=Tryz.underlying119
def U2022:=Tryz.underlying22
def U2027:=Tryz.underlying27
def U2029:=Tryz.underlying29
def U2059:=Tryz.underlying59
def U2116:=Tryz.underlying116
def U2117:=Tryz.underlying117
def U2141:=Tryz.underlying141
theorem en32:Enters Tryz.prog 26:=enters_mk Tryz.func26 krBase krBase
theorem en33:Enters Tryz.prog 28:=enters_mk Tryz.func28 krBase krBase
theorem en49:Enters Tryz.prog 15:=enters_mk Tryz.func15 krBase krBase
theorem en71:Enters Tryz.prog 27:=enters_mk Tryz.func27 krBase krBase
theorem en72:Enters Tryz.prog 53:=enters_mk Tryz.func53 krBase krBase
theorem en73:Enters Tryz.prog 54:=enters_mk Tryz.func54 krBase krBase
theorem en74:Enters Tryz.prog 57:=enters_mk Tryz.func57 krBase krBase
theorem en75:Enters Tryz.prog 58:=enters_mk Tryz.func58 krBase krBase
theorem en80:Enters Tryz.prog 55:=enters_mk Tryz.func55 krBase krBase
theorem en81:Enters Tryz.prog 91:=enters_mk Tryz.func91 krBase krBase
theorem en82:Enters Tryz.prog 35:=enters_mk Tryz.func35 krBase krBase
theorem en83:Enters Tryz.prog 36:=enters_mk Tryz.func36 krBase krBase
theorem en84:Enters Tryz.prog 37:=enters_mk Tryz.func37 krBase krBase
theorem en85:Enters Tryz.prog 93:=enters_mk Tryz.func93 krBase krBase
theorem en86:Enters Tryz.prog 90:=enters_mk Tryz.func90 krBase krBase
theorem en90:Enters Tryz.prog 146:=enters_mk Tryz.func146 krBase krBase
theorem en94:Enters Tryz.prog 56:=enters_mk Tryz.func56 krBase krBase
theorem en95:Enters Tryz.prog 89:=enters_mk Tryz.func89 krBase krBase
theorem en96:Enters Tryz.prog 92:=enters_mk Tryz.func92 krBase krBase
theorem en97:Enters Tryz.prog 94:=enters_mk Tryz.func94 krBase krBase
theorem en98:Enters Tryz.prog 95:=enters_mk Tryz.func95 krBase krBase
theorem en99:Enters Tryz.prog 97:=enters_mk Tryz.func97 krBase krBase
theorem en100:Enters Tryz.prog 98:=enters_mk Tryz.func98 krBase krBase
theorem en101:Enters Tryz.prog 96:=enters_mk Tryz.func96 krBase krBase
theorem en102:Enters Tryz.prog 64:=enters_mk Tryz.func64 krBase krBase
theorem en103:Enters Tryz.prog 65:=enters_mk Tryz.func65 krBase krBase
theorem en104:Enters Tryz.prog 61:=enters_mk Tryz.func61 krBase krBase
theorem en105:Enters Tryz.prog 66:=enters_mk Tryz.func66 krBase krBase
theorem en106:Enters Tryz.prog 67:=enters_mk Tryz.func67 krBase krBase
theorem en107:Enters Tryz.prog 68:=enters_mk Tryz.func68 krBase krBase
theorem en108:Enters Tryz.prog 69:=enters_mk Tryz.func69 krBase krBase
theorem en109:Enters Tryz.prog 63:=enters_mk Tryz.func63 krBase krBase
theorem en110:Enters Tryz.prog 70:=enters_mk Tryz.func70 krBase krBase
theorem en111:Enters Tryz.prog 142:=enters_mk Tryz.func142 krBase krBase
theorem en112:Enters Tryz.prog 143:=enters_mk Tryz.func143 krBase krBase
theorem en113:Enters Tryz.prog 144:=enters_mk Tryz.func144 krBase krBase
theorem en114:Enters Tryz.prog 141:=enters_mk Tryz.func141 krBase krBase
theorem en116:Enters Tryz.prog 185:=enters_mk Tryz.func185 krBase krBase
theorem en119:Enters Tryz.prog 145:=enters_mk Tryz.func145 krBase krBase
theorem en120:Enters Tryz.prog 108:=enters_mk Tryz.func108 krBase krBase
theorem en121:Enters Tryz.prog 109:=enters_mk Tryz.func109 krBase krBase
theorem en122:Enters Tryz.prog 110:=enters_mk Tryz.func110 krBase krBase
theorem en123:Enters Tryz.prog 115:=enters_mk Tryz.func115 krBase krBase
theorem en124:Enters Tryz.prog 116:=enters_mk Tryz.func116 krBase krBase
theorem en125:Enters Tryz.prog 117:=enters_mk Tryz.func117 krBase krBase
theorem en126:Enters Tryz.prog 118:=enters_mk Tryz.func118 krBase krBase
theorem en127:Enters Tryz.prog 119:=enters_mk Tryz.func119 krBase krBase
theorem en128:Enters Tryz.prog 120:=enters_mk Tryz.func120 krBase krBase
theorem en129:Enters Tryz.prog 121:=enters_mk Tryz.func121 krBase krBase
theorem en130:Enters Tryz.prog 122:=enters_mk Tryz.func122 krBase krBase
theorem en131:Enters Tryz.prog 111:=enters_mk Tryz.func111 krBase krBase
theorem en132:Enters Tryz.prog 112:=enters_mk Tryz.func112 krBase krBase
theorem en133:Enters Tryz.prog 113:=enters_mk Tryz.func113 krBase krBase
theorem en134:Enters Tryz.prog 114:=enters_mk Tryz.func114 krBase krBase
theorem en135:Enters Tryz.prog 123:=enters_mk Tryz.func123 krBase krBase
theorem en136:Enters Tryz.prog 156:=enters_mk Tryz.func156 krBase krBase
theorem en137:Enters Tryz.prog 157:=enters_mk Tryz.func157 krBase krBase
theorem en138:Enters Tryz.prog 158:=enters_mk Tryz.func158 krBase krBase
theorem en139:Enters Tryz.prog 159:=enters_mk Tryz.func159 krBase krBase
theorem en140:Enters Tryz.prog 165:=enters_mk Tryz.func165 krBase krBase
theorem en142:Enters Tryz.prog 79:=enters_mk Tryz.func79 krBase krBase
theorem en146:Enters Tryz.prog 166:=enters_mk Tryz.func166 krBase krBase
theorem en158:Enters Tryz.prog 135:=enters_mk Tryz.func135 krBase krBase
theorem en217:Enters Tryz.prog 13:=enters_mk Tryz.func13 krBase krBase
theorem en218:Enters Tryz.prog 42:=enters_mk Tryz.func42 krBase krBase
theorem en220:Enters Tryz.prog 16:=enters_mk Tryz.func16 krBase krBase
theorem en221:Enters Tryz.prog 33:=enters_mk Tryz.func33 krBase krBase
theorem en222:Enters Tryz.prog 34:=enters_mk Tryz.func34 krBase krBase
theorem en223:Enters Tryz.prog 39:=enters_mk Tryz.func39 krBase krBase
theorem en224:Enters Tryz.prog 40:=enters_mk Tryz.func40 krBase krBase
theorem en225:Enters Tryz.prog 41:=enters_mk Tryz.func41 krBase krBase
theorem en226:Enters Tryz.prog 38:=enters_mk Tryz.func38 krBase krBase
theorem en227:Enters Tryz.prog 60:=enters_mk Tryz.func60 krBase krBase
theorem en228:Enters Tryz.prog 62:=enters_mk Tryz.func62 krBase krBase
theorem en229:Enters Tryz.prog 71:=enters_mk Tryz.func71 krBase krBase
theorem en230:Enters Tryz.prog 72:=enters_mk Tryz.func72 krBase krBase
theorem en231:Enters Tryz.prog 124:=enters_mk Tryz.func124 krBase krBase
theorem en232:Enters Tryz.prog 125:=enters_mk Tryz.func125 krBase krBase
theorem en1017:Enters Tryz.prog 43:=enters_mk Tryz.func43 krBase krBase
theorem en1019:Enters Tryz.prog 133:=enters_mk Tryz.func133 krBase krBase
theorem en1025:Enters Tryz.prog 155:=enters_mk Tryz.func155 krBase krBase
theorem en1026:Enters Tryz.prog 73:=enters_mk Tryz.func73 krBase krBase
theorem en1028:Enters Tryz.prog 127:=enters_mk Tryz.func127 krBase krBase
theorem en1029:Enters Tryz.prog 177:=enters_mk Tryz.func177 krBase krBase
theorem en1030:Enters Tryz.prog 203:=enters_mk Tryz.func203 krBase krBase
theorem en1031:Enters Tryz.prog 178:=enters_mk Tryz.func178 krBase krBase
theorem en1032:Enters Tryz.prog 126:=enters_mk Tryz.func126 krBase krBase
theorem en1033:Enters Tryz.prog 77:=enters_mk Tryz.func77 krBase krBase
theorem en1035:Enters Tryz.prog 74:=enters_mk Tryz.func74 krBase krBase
theorem en1038:Enters Tryz.prog 171:=enters_mk Tryz.func171 krBase krBase
theorem en1042:Enters Tryz.prog 76:=enters_mk Tryz.func76 krBase krBase
theorem en1043:Enters Tryz.prog 167:=enters_mk Tryz.func167 krBase krBase
theorem en1044:Enters Tryz.prog 168:=enters_mk Tryz.func168 krBase krBase
theorem en1045:Enters Tryz.prog 181:=enters_mk Tryz.func181 krBase krBase
theorem en1046:Enters Tryz.prog 78:=enters_mk Tryz.func78 krBase krBase
theorem en1048:Enters Tryz.prog 132:=enters_mk Tryz.func132 krBase krBase
theorem en1049:Enters Tryz.prog 134:=enters_mk Tryz.func134 krBase krBase
theorem en1051:Enters Tryz.prog 75:=enters_mk Tryz.func75 krBase krBase
theorem en1053:Enters Tryz.prog 47:=enters_mk Tryz.func47 krBase krBase
theorem en1055:Enters Tryz.prog 81:=enters_mk Tryz.func81 krBase krBase
theorem en1056:Enters Tryz.prog 46:=enters_mk Tryz.func46 krBase krBase
theorem en1057:Enters Tryz.prog 21:=enters_mk Tryz.func21 krBase krBase
theorem en1067:Enters Tryz.prog 187:=enters_mk Tryz.func187 krBase krBase
theorem en1068:Enters Tryz.prog 170:=enters_mk Tryz.func170 krBase krBase
theorem en1069:Enters Tryz.prog 169:=enters_mk Tryz.func169 krBase krBase
theorem en1070:Enters Tryz.prog 176:=enters_mk Tryz.func176 krBase krBase
theorem en1071:Enters Tryz.prog 173:=enters_mk Tryz.func173 krBase krBase
theorem en1072:Enters Tryz.prog 174:=enters_mk Tryz.func174 krBase krBase
theorem en1073:Enters Tryz.prog 206:=enters_mk Tryz.func206 krBase krBase
theorem en1074:Enters Tryz.prog 172:=enters_mk Tryz.func172 krBase krBase
theorem en1078:Enters Tryz.prog 130:=enters_mk Tryz.func130 krBase krBase
theorem en1086:Enters Tryz.prog 131:=enters_mk Tryz.func131 krBase krBase
theorem en1088:Enters Tryz.prog 182:=enters_mk Tryz.func182 krBase krBase
theorem en1089:Enters Tryz.prog 136:=enters_mk Tryz.func136 krBase krBase
theorem en1090:Enters Tryz.prog 153:=enters_mk Tryz.func153 krBase krBase
theorem en1091:Enters Tryz.prog 154:=enters_mk Tryz.func154 krBase krBase
theorem en1092:Enters Tryz.prog 183:=enters_mk Tryz.func183 krBase krBase
theorem en1093:Enters Tryz.prog 184:=enters_mk Tryz.func184 krBase krBase
theorem en1094:Enters Tryz.prog 128:=enters_mk Tryz.func128 krBase krBase
theorem en1095:Enters Tryz.prog 129:=enters_mk Tryz.func129 krBase krBase
theorem en1097:Enters Tryz.prog 83:=enters_mk Tryz.func83 krBase krBase
theorem en1099:Enters Tryz.prog 50:=enters_mk Tryz.func50 krBase krBase
theorem en1100:Enters Tryz.prog 85:=enters_mk Tryz.func85 krBase krBase
theorem en1101:Enters Tryz.prog 86:=enters_mk Tryz.func86 krBase krBase
theorem en1103:Enters Tryz.prog 179:=enters_mk Tryz.func179 krBase krBase
theorem en1104:Enters Tryz.prog 180:=enters_mk Tryz.func180 krBase krBase
theorem en1112:Enters Tryz.prog 204:=enters_mk Tryz.func204 krBase krBase
theorem en1113:Enters Tryz.prog 205:=enters_mk Tryz.func205 krBase krBase
theorem en1129:Enters Tryz.prog 186:=enters_mk Tryz.func186 krBase krBase
theorem en1130:Enters Tryz.prog 208:=enters_mk Tryz.func208 krBase krBase
theorem en1131:Enters Tryz.prog 209:=enters_mk Tryz.func209 krBase krBase
theorem en1132:Enters Tryz.prog 175:=enters_mk Tryz.func175 krBase krBase
theorem en1135:Enters Tryz.prog 140:=enters_mk Tryz.func140 krBase krBase
theorem en1136:Enters Tryz.prog 207:=enters_mk Tryz.func207 krBase krBase
theorem en2008:Enters Tryz.prog 8:=enters_mk Tryz.func8 krBase krBase
theorem en2009:Enters Tryz.prog 9:=enters_mk Tryz.func9 krBase krBase
theorem en2010:Enters Tryz.prog 10:=enters_mk Tryz.func10 krBase krBase
theorem en2012:Enters Tryz.prog 12:=enters_mk Tryz.func12 krBase krBase
theorem en2014:Enters Tryz.prog 14:=enters_mk Tryz.func14 krBase krBase
theorem en2018:Enters Tryz.prog 18:=enters_mk Tryz.func18 krBase krBase
theorem en2019:Enters Tryz.prog 19:=enters_mk Tryz.func19 krBase krBase
theorem en2020:Enters Tryz.prog 20:=enters_mk Tryz.func20 krBase krBase
theorem en2022:Enters Tryz.prog 22:=enters_mk Tryz.func22 krBase krBase
theorem en2023:Enters Tryz.prog 23:=enters_mk Tryz.func23 krBase krBase
theorem en2024:Enters Tryz.prog 24:=enters_mk Tryz.func24 krBase krBase
theorem en2025:Enters Tryz.prog 25:=enters_mk Tryz.func25 krBase krBase
theorem en2029:Enters Tryz.prog 29:=enters_mk Tryz.func29 krBase krBase
theorem en2030:Enters Tryz.prog 30:=enters_mk Tryz.func30 krBase krBase
theorem en2031:Enters Tryz.prog 31:=enters_mk Tryz.func31 krBase krBase
theorem en2032:Enters Tryz.prog 32:=enters_mk Tryz.func32 krBase krBase
theorem en2044:Enters Tryz.prog 44:=enters_mk Tryz.func44 krBase krBase
theorem en2045:Enters Tryz.prog 45:=enters_mk Tryz.func45 krBase krBase
theorem en2048:Enters Tryz.prog 48:=enters_mk Tryz.func48 krBase krBase
theorem en2049:Enters Tryz.prog 49:=enters_mk Tryz.func49 krBase krBase
theorem en2051:Enters Tryz.prog 51:=enters_mk Tryz.func51 krBase krBase
theorem en2052:Enters Tryz.prog 52:=enters_mk Tryz.func52 krBase krBase
theorem en2059:Enters Tryz.prog 59:=enters_mk Tryz.func59 krBase krBase
theorem en2080:Enters Tryz.prog 80:=enters_mk Tryz.func80 krBase krBase
theorem en2082:Enters Tryz.prog 82:=enters_mk Tryz.func82 krBase krBase
theorem en2087:Enters Tryz.prog 87:=enters_mk Tryz.func87 krBase krBase
theorem en2088:Enters Tryz.prog 88:=enters_mk Tryz.func88 krBase krBase
theorem en2099:Enters Tryz.prog 99:=enters_mk Tryz.func99 krBase krBase
theorem en2100:Enters Tryz.prog 100:=enters_mk Tryz.func100 krBase krBase
theorem en2101:Enters Tryz.prog 101:=enters_mk Tryz.func101 krBase krBase
theorem en2102:Enters Tryz.prog 102:=enters_mk Tryz.func102 krBase krBase
theorem en2103:Enters Tryz.prog 103:=enters_mk Tryz.func103 krBase krBase
theorem en2104:Enters Tryz.prog 104:=enters_mk Tryz.func104 krBase krBase
theorem en2105:Enters Tryz.prog 105:=enters_mk Tryz.func105 krBase krBase
theorem en2106:Enters Tryz.prog 106:=enters_mk Tryz.func106 krBase krBase
theorem en2107:Enters Tryz.prog 107:=enters_mk Tryz.func107 krBase krBase
theorem en2137:Enters Tryz.prog 137:=enters_mk Tryz.func137 krBase krBase
theorem en2147:Enters Tryz.prog 147:=enters_mk Tryz.func147 krBase krBase
theorem en2148:Enters Tryz.prog 148:=enters_mk Tryz.func148 krBase krBase
theorem en2149:Enters Tryz.prog 149:=enters_mk Tryz.func149 krBase krBase
theorem en2150:Enters Tryz.prog 150:=enters_mk Tryz.func150 krBase krBase
theorem en2151:Enters Tryz.prog 151:=enters_mk Tryz.func151 krBase krBase
theorem en2152:Enters Tryz.prog 152:=enters_mk Tryz.func152 krBase krBase
theorem hmix:Tryz.prog.follows .mixedOrders=true:=by kernel_rfl
end Go.Proofs.YtonigegpknhdnaaGreatDoor
def ofB (B:Nat) : List Nat→Nat
  | []=>0
  | d :: l=>d+B*ofB B l
def toBf (B:Nat) : Nat→Nat→List Nat
  | 0,_=>[]
  | f+1,n=>if n=0 then [] else n % B :: toBf B f (n / B)
def toB (B n:Nat) : List Nat:=toBf B n n
theorem toBf_ext (B:Nat)(hB:2≤B) : ∀ (f n:Nat),n≤f→∀ g,n≤g→toBf B f n=toBf B g n:=by
  intro f
  induction f with
  | zero =>
    intro n hn g _
    obtain rfl:n=0:=by omega
    cases g <;> simp [toBf]
  | succ f ih =>
    intro n hn g _
    cases g with
    | zero => obtain rfl : n = 0 := by omega
              simp [toBf]
    | succ g =>
      simp only [toBf]
      by_cases h0:n=0
      · simp [h0]
      · rw [if_neg h0, if_neg h0]
        have hd:n / B<n:=Nat.div_lt_self (by omega) (by omega)
        rw [ih (n / B) (by omega) g (by omega)]
theorem toB_zero (B:Nat) : toB B 0=[]:=rfl
theorem toB_pos (B n:Nat)(hB:2≤B)(hn:0<n) : toB B n=n % B :: toB B (n / B):=by
  unfold toB
  cases n with
  | zero=>omega
  | succ m =>
    have hd:(m+1) / B<m+1:=Nat.div_lt_self (by omega) (by omega)
    simp only [toBf]
    rw [if_neg (by omega),toBf_ext B hB m ((m+1) / B) (by omega) ((m+1) / B) (Nat.le_refl _)]
theorem ofB_toB (B:Nat)(hB:2≤B)(n:Nat) : ofB B (toB B n)=n:=by
  induction n using Nat.strongRecOn with
  | _ n ih =>
    by_cases h0:n=0
    · subst h0; rfl
    · rw [toB_pos B n hB (by omega)]
      simp only [ofB]
      rw [ih (n / B) (Nat.div_lt_self (by omega) (by omega))]
      exact Nat.mod_add_div n B
theorem toB_lt (B:Nat)(hB:2≤B)(n:Nat) : ∀ d ∈ toB B n,d<B:=by
  induction n using Nat.strongRecOn with
  | _ n ih =>
    by_cases h0:n=0
    · subst h0; simp [toB_zero]
    · rw [toB_pos B n hB (by omega)]
      intro d hd
      rcases List.mem_cons.1 hd with rfl | h
      · exact Nat.mod_lt _ (by omega)
      · exact ih (n / B) (Nat.div_lt_self (by omega) (by omega)) d h
def Canon (B:Nat)(l:List Nat) : Prop:=(∀ d ∈ l,d<B)∧l.getLast?≠some 0
theorem Canon.tail {B d:Nat}{l:List Nat}(h:Canon B (d :: l)) : Canon B l:=by
  refine ⟨fun x hx=>h.1 x (List.mem_cons_of_mem _ hx),?_⟩
  have:=h.2
  cases l with
  | nil=>simp
  | cons e l=>simpa [List.getLast?_cons_cons] using this
theorem Canon.pos {B:Nat}(hB:2≤B) : ∀ {l:List Nat},Canon B l→l≠[]→0<ofB B l
  | [],_,h=>absurd rfl h
  | [d], h, _ => by
    have:=h.2
    simp [ofB] at this ⊢
    omega
  | d :: e :: l, h, _ => by
    have:=Canon.pos hB h.tail (by simp)
    simp only [ofB] at this ⊢
    have:0<B*(e+B*ofB B l):=Nat.mul_pos (by omega) this
    omega
theorem canon_eq {B:Nat}(hB:2≤B) : ∀ {l:List Nat},Canon B l→l=toB B (ofB B l)
  | [],_=>rfl
  | d :: l, h => by
    have hp:=Canon.pos hB h (by simp)
    have hd:d<B:=h.1 d (by simp)
    rw [toB_pos B _ hB hp]
    simp only [ofB]
    rw [Nat.add_mul_mod_self_left,Nat.mod_eq_of_lt hd,Nat.add_mul_div_left _ _ (by omega),Nat.div_eq_of_lt hd,Nat.zero_add,← canon_eq hB h.tail]
theorem getLast_toB (B:Nat)(hB:2≤B)(n:Nat) : (toB B n).getLast?≠some 0:=by
  induction n using Nat.strongRecOn with
  | _ n ih =>
    by_cases h0:n=0
    · subst h0; simp [toB_zero]
    · rw [toB_pos B n hB (by omega)]
      have hih:=ih (n / B) (Nat.div_lt_self (by omega) (by omega))
      by_cases hq:n / B=0
      · rw [hq, toB_zero]
        have:n<B:=by
          rcases Nat.lt_or_ge n B with h | h
          · exact h
          · have:=Nat.div_pos h (by omega); omega
        simp [Nat.mod_eq_of_lt this]; omega
      · rw [toB_pos B (n / B) hB (Nat.pos_of_ne_zero hq)] at hih ⊢
        simpa [List.getLast?_cons_cons] using hih
def trimL:List Nat→List Nat
  | []=>[]
  | d :: l=>if trimL l=[]∧d=0 then [] else d :: trimL l
theorem ofB_trim (B:Nat) : ∀ l,ofB B (trimL l)=ofB B l
  | []=>rfl
  | d :: l => by
    unfold trimL
    have ih:=ofB_trim B l
    split
    · rename_i h; rw [h.1] at ih; simp only [ofB] at *; rw [← ih,h.2]; simp
    · simp only [ofB,ih]
theorem mem_trimL {d:Nat} : ∀ {l:List Nat},d ∈ trimL l→d ∈ l
  | [],h=>h
  | e :: l, h => by
    unfold trimL at h
    split at h
    · simp at h
    · rcases List.mem_cons.1 h with rfl | h
      · simp
      · exact List.mem_cons_of_mem _ (mem_trimL h)
theorem trimL_last : ∀ l,(trimL l).getLast?≠some 0
  | []=>by simp [trimL]
  | d :: l => by
    have ih:=trimL_last l
    unfold trimL
    split
    · simp
    · rename_i h
      cases ht:trimL l with
      | nil=>simp [ht] at h ⊢; exact h
      | cons e m=>rw [ht] at ih; simpa [List.getLast?_cons_cons] using ih
theorem trimL_eq (B:Nat)(hB:2≤B)(l:List Nat) (h : ∀ d ∈ l,d<B) : trimL l=toB B (ofB B l):=by
  rw [← ofB_trim B l]
  exact canon_eq hB ⟨fun d hd=>h d (mem_trimL hd),trimL_last l⟩
theorem ofB_append (B:Nat) : ∀ a b,ofB B (a ++ b)=ofB B a+B ^ a.length*ofB B b
  | [],b=>by simp [ofB]
  | d :: a, b => by
    simp only [List.cons_append,ofB,ofB_append B a b,List.length_cons,Nat.pow_succ]
    rw [Nat.mul_add]
    have:B*(B ^ a.length*ofB B b)=B ^ a.length*B*ofB B b:=by
      rw [← Nat.mul_assoc,Nat.mul_comm B]
    omega
theorem ofB_lt (B:Nat) : ∀ l:List Nat,(∀ d ∈ l,d<B)→ofB B l<B ^ l.length
  | [],_=>by simp [ofB]
  | d :: l, h => by
    have ih:=ofB_lt B l (fun x hx=>h x (List.mem_cons_of_mem _ hx))
    have hd:=h d (by simp)
    simp only [ofB,List.length_cons,Nat.pow_succ]
    have:B*(ofB B l+1)≤B*B ^ l.length:=Nat.mul_le_mul_left _ ih
    rw [Nat.mul_add] at this
    rw [Nat.mul_comm (B ^ l.length)]
    omega
theorem length_toB_le (B:Nat)(hB:2≤B)(n k:Nat)(h:n<B ^ k) : (toB B n).length≤k:=by
  induction k generalizing n with
  | zero=>simp at h; subst h; simp [toB_zero]
  | succ k ih =>
    by_cases h0:n=0
    · subst h0; simp [toB_zero]
    · rw [toB_pos B n hB (by omega)]
      have:n / B<B ^ k:=by
        rw [Nat.div_lt_iff_lt_mul (by omega)]
        rwa [Nat.pow_succ] at h
      have:=ih _ this
      simp; omega
theorem length_toB_le_iff (B:Nat)(hB:2≤B)(n k:Nat) : (toB B n).length≤k ↔ n<B ^ k:=by
  constructor
  · intro h
    have h1:=ofB_lt B (toB B n) (toB_lt B hB n)
    rw [ofB_toB B hB] at h1
    exact Nat.lt_of_lt_of_le h1 (Nat.pow_le_pow_right (by omega) h)
  · exact length_toB_le B hB n k
def foldSt (d:Nat→Int)(c0:Int) : Nat→Int × List Int
  | 0=>(c0,[])
  | k + 1 => if d k + (foldSt d c0 k).1 < 0 then (-1, (foldSt d c0 k).2 ++ [d k + (foldSt d c0 k).1 + 10000])
    else if 10000≤d k+(foldSt d c0 k).1 then ((d k+(foldSt d c0 k).1) / 10000,(foldSt d c0 k).2 ++ [(d k+(foldSt d c0 k).1) % 10000])
    else (0,(foldSt d c0 k).2 ++ [d k+(foldSt d c0 k).1])
theorem foldSt_neg {d:Nat→Int}{c0:Int}{k:Nat}(h:d k+(foldSt d c0 k).1<0) : foldSt d c0 (k+1)=(-1,(foldSt d c0 k).2 ++ [d k+(foldSt d c0 k).1+10000]):=by
  rw [foldSt,if_pos h]
theorem foldSt_big {d:Nat→Int}{c0:Int}{k:Nat}(h:¬ d k+(foldSt d c0 k).1<0)(h2:10000≤d k+(foldSt d c0 k).1) : foldSt d c0 (k+1)=((d k+(foldSt d c0 k).1) / 10000,(foldSt d c0 k).2 ++ [(d k+(foldSt d c0 k).1) % 10000]):=by
  rw [foldSt,if_neg h,if_pos h2]
theorem foldSt_mid {d:Nat→Int}{c0:Int}{k:Nat}(h:¬ d k+(foldSt d c0 k).1<0)(h2:¬ 10000≤d k+(foldSt d c0 k).1) : foldSt d c0 (k+1)=(0,(foldSt d c0 k).2 ++ [d k+(foldSt d c0 k).1]):=by
  rw [foldSt,if_neg h,if_neg h2]
theorem foldSt_len (d:Nat→Int)(c0:Int) : ∀ k,(foldSt d c0 k).2.length=k
  | 0=>rfl
  | k + 1 => by
    have:=foldSt_len d c0 k
    rw [foldSt]; split <;> (try split) <;> simp [this]
def valI:List Int→Int
  | []=>0
  | x :: l=>x+10000*valI l
theorem valI_append : ∀ a b,valI (a ++ b)=valI a+10000 ^ a.length*valI b
  | [],b=>by simp [valI]
  | x :: a, b => by
    simp only [List.cons_append,valI,valI_append a b,List.length_cons,Int.pow_succ]
    grind
def dsum (d:Nat→Int) : Nat→Int
  | 0=>0
  | k+1=>dsum d k+d k*10000 ^ k
theorem foldSt_val (d:Nat→Int)(c0:Int) : ∀ k,valI (foldSt d c0 k).2+(foldSt d c0 k).1*10000 ^ k=c0+dsum d k
  | 0=>by simp [foldSt,valI,dsum]
  | k + 1 => by
    have ih:=foldSt_val d c0 k
    have hl:=foldSt_len d c0 k
    rw [foldSt]
    split
    · simp only [valI_append,hl,valI,dsum,Int.pow_succ]; grind
    · split
      · simp only [valI_append, hl, valI, dsum, Int.pow_succ]
        have h3:=Int.mul_ediv_add_emod (d k+(foldSt d c0 k).1) 10000
        grind
      · simp only [valI_append,hl,valI,dsum,Int.pow_succ]; grind
theorem foldSt_digits (d:Nat→Int)(c0:Int) (h : ∀ k,-10000≤d k+(foldSt d c0 k).1) : ∀ k,∀ x ∈ (foldSt d c0 k).2,0≤x∧x<10000
  | 0=>by simp [foldSt]
  | k + 1 => by
    have ih:=foldSt_digits d c0 h k
    have hk:=h k
    intro x hx
    rw [foldSt] at hx
    split at hx
    · rcases List.mem_append.1 hx with hx | hx
      · exact ih x hx
      · simp at hx; omega
    · split at hx
      · rcases List.mem_append.1 hx with hx | hx
        · exact ih x hx
        · simp at hx; omega
      · rcases List.mem_append.1 hx with hx | hx
        · exact ih x hx
        · simp at hx; omega
def toNats (l:List Int) : List Nat:=l.map Int.toNat
theorem ofB_toNats : ∀ l:List Int,(∀ x ∈ l,0≤x)→((ofB 10000 (toNats l) : Nat) : Int)=valI l
  | [],_=>rfl
  | x :: l, h => by
    have ih:=ofB_toNats l (fun y hy=>h y (by simp [hy]))
    have hx:=h x (by simp)
    simp only [toNats,List.map_cons,ofB,valI] at *
    omega
theorem toNats_cast (l : List Int) (h : ∀ x ∈ l, 0 ≤ x) : (toNats l).map (fun n : Nat => (n : Int)) = l := by
  simp only [toNats,List.map_map]
  conv=>rhs; rw [← List.map_id l]
  apply List.map_congr_left
  intro x hx
  have:=h x hx
  simp; omega
theorem toNats_lt (l:List Int) (h : ∀ x ∈ l,0≤x∧x<10000) : ∀ x ∈ toNats l,x<10000:=by
  intro x hx
  obtain ⟨y,hy,rfl⟩:=List.mem_map.1 hx
  have:=h y hy
  omega
theorem dsum_getD (xs : List Nat) : ∀ k, dsum (fun i => ((xs.getD i 0 : Nat) : Int)) k = ((ofB 10000 (xs.take k) : Nat) : Int)
  | 0=>by simp [dsum,ofB]
  | k + 1 => by
    rw [dsum,dsum_getD xs k]
    by_cases hk:k<xs.length
    · have : xs.take (k + 1) = xs.take k ++ [xs.getD k 0] := by
        rw [List.take_succ_eq_append_getElem hk]; simp [hk]
      rw [this,ofB_append]
      have hl:(xs.take k).length=k:=by simp; omega
      rw [hl]
      simp only [ofB,Nat.mul_zero,Nat.add_zero]
      rw [Int.natCast_add,Int.natCast_mul,Int.natCast_pow]
      rw [Int.mul_comm]; rfl
    · rw [List.take_of_length_le (by omega), List.take_of_length_le (by omega)]
      have:xs.getD k 0=0:=by simp [List.getD,List.getElem?_eq_none (Nat.le_of_not_lt hk)]
      rw [this]; simp
theorem dsum_add (d e : Nat → Int) : ∀ k, dsum (fun i => d i + e i) k = dsum d k + dsum e k
  | 0=>by simp [dsum]
  | k+1=>by simp only [dsum,dsum_add d e k]; grind
theorem dsum_sub (d e : Nat → Int) : ∀ k, dsum (fun i => d i - e i) k = dsum d k - dsum e k
  | 0=>by simp [dsum]
  | k+1=>by simp only [dsum,dsum_sub d e k]; grind
theorem dsum_mul (d : Nat → Int) (c : Int) : ∀ k, dsum (fun i => d i * c) k = dsum d k * c
  | 0=>by simp [dsum]
  | k+1=>by simp only [dsum,dsum_mul d c k]; grind
theorem ofB_take_ge (xs:List Nat){k:Nat}(h:xs.length≤k) : ofB 10000 (xs.take k)=ofB 10000 xs:=by rw [List.take_of_length_le h]
theorem getD_lt {xs:List Nat}(h : ∀ x ∈ xs,x<10000)(i:Nat) : xs.getD i 0<10000:=by
  by_cases hi:i<xs.length
  · simp [hi]; exact h _ (List.getElem_mem hi)
  · simp [List.getD,List.getElem?_eq_none (Nat.le_of_not_lt hi)]
def dplus (xs ys:List Nat)(i:Nat) : Int:=((xs.getD i 0:Nat) : Int)+((ys.getD i 0:Nat) : Int)
theorem plus_carry {xs ys:List Nat}(hx : ∀ x ∈ xs,x<10000) (hy : ∀ x ∈ ys,x<10000) : ∀ k,0≤(foldSt (dplus xs ys) 0 k).1∧(foldSt (dplus xs ys) 0 k).1≤1
  | 0=>by simp [foldSt]
  | k + 1 => by
    have ih:=plus_carry hx hy k
    have h1:=getD_lt hx k
    have h2:=getD_lt hy k
    rw [foldSt]
    have hd:dplus xs ys k=((xs.getD k 0:Nat) : Int)+((ys.getD k 0:Nat) : Int):=rfl
    split
    · omega
    · split <;> simp only <;> omega
theorem plus_res {xs ys:List Nat}(hx : ∀ x ∈ xs,x<10000) (hy : ∀ x ∈ ys,x<10000){n k:Nat}(hn:xs.length≤n∧ys.length≤n)(hk:n≤k)(hc:(foldSt (dplus xs ys) 0 k).1=0) :
    (∀ x ∈ (foldSt (dplus xs ys) 0 k).2,0≤x∧x<10000)∧ofB 10000 (toNats (foldSt (dplus xs ys) 0 k).2)=ofB 10000 xs+ofB 10000 ys:=by
  have hd : ∀ x ∈ (foldSt (dplus xs ys) 0 k).2, 0 ≤ x ∧ x < 10000 := foldSt_digits _ _ (fun j => by
    have:=plus_carry hx hy j
    simp only [dplus]; omega) k
  refine ⟨hd,?_⟩
  have h1:=foldSt_val (dplus xs ys) 0 k
  have h2:=ofB_toNats _ (fun x hx=>(hd x hx).1)
  have h3:dsum (dplus xs ys) k=((ofB 10000 xs:Nat) : Int)+((ofB 10000 ys:Nat) : Int):=by
    have:=dsum_add (fun i=>((xs.getD i 0:Nat) : Int)) (fun i=>((ys.getD i 0:Nat) : Int)) k
    rw [dsum_getD,dsum_getD,ofB_take_ge xs (by omega),ofB_take_ge ys (by omega)] at this
    exact this
  rw [hc] at h1
  omega
def dminus (xs ys:List Nat)(i:Nat) : Int:=((xs.getD i 0:Nat) : Int) - ((ys.getD i 0:Nat) : Int)
theorem minus_carry {xs ys:List Nat}(hx : ∀ x ∈ xs,x<10000) (hy : ∀ x ∈ ys,x<10000) : ∀ k,-1≤(foldSt (dminus xs ys) 0 k).1∧(foldSt (dminus xs ys) 0 k).1≤0
  | 0=>by simp [foldSt]
  | k + 1 => by
    have ih:=minus_carry hx hy k
    have h1:=getD_lt hx k
    have h2:=getD_lt hy k
    rw [foldSt]
    have hd:dminus xs ys k=((xs.getD k 0:Nat) : Int) - ((ys.getD k 0:Nat) : Int):=rfl
    split
    · simp
    · split <;> simp only <;> omega
theorem valI_nonneg {l:List Int}(h : ∀ x ∈ l,0≤x∧x<10000) : 0≤valI l∧valI l<10000 ^ l.length:=by
  induction l with
  | nil=>simp [valI]
  | cons x l ih =>
    have:=ih (fun y hy=>h y (by simp [hy]))
    have hx:=h x (by simp)
    simp only [valI,List.length_cons,Int.pow_succ]
    constructor
    · omega
    · omega
theorem minus_res {xs ys:List Nat}(hx : ∀ x ∈ xs,x<10000) (hy : ∀ x ∈ ys,x<10000){n:Nat}(hn:xs.length≤n∧ys.length≤n)(hle:ofB 10000 ys≤ofB 10000 xs) :
    (foldSt (dminus xs ys) 0 n).1=0∧(∀ k,∀ x ∈ (foldSt (dminus xs ys) 0 k).2,0≤x∧x<10000)∧∀ k,n≤k→(foldSt (dminus xs ys) 0 k).1=0→ofB 10000 (toNats (foldSt (dminus xs ys) 0 k).2)=ofB 10000 xs - ofB 10000 ys:=by
  have hd : ∀ k, ∀ x ∈ (foldSt (dminus xs ys) 0 k).2, 0 ≤ x ∧ x < 10000 := foldSt_digits _ _ (fun j => by
    have:=minus_carry hx hy j
    have h1:=getD_lt hx j
    have h2:=getD_lt hy j
    simp only [dminus]; omega)
  have h3 : ∀ k, n ≤ k → dsum (dminus xs ys) k = ((ofB 10000 xs : Nat) : Int) - ((ofB 10000 ys : Nat) : Int) := fun k hk => by
    have:=dsum_sub (fun i=>((xs.getD i 0:Nat) : Int)) (fun i=>((ys.getD i 0:Nat) : Int)) k
    rw [dsum_getD,dsum_getD,ofB_take_ge xs (by omega),ofB_take_ge ys (by omega)] at this
    exact this
  refine ⟨?_,hd,fun k hk hc=>?_⟩
  · have h1 := foldSt_val (dminus xs ys) 0 n
    have h4:=valI_nonneg (hd n)
    have h5:=minus_carry hx hy n
    rw [foldSt_len] at h4
    rw [h3 n (Nat.le_refl _)] at h1
    have hcases:(foldSt (dminus xs ys) 0 n).1 = -1 ∨ (foldSt (dminus xs ys) 0 n).1=0:=by omega
    rcases hcases with hc | hc
    · rw [hc] at h1; omega
    · exact hc
  · have h1 := foldSt_val (dminus xs ys) 0 k
    have h2:=ofB_toNats _ (fun x hx=>(hd k x hx).1)
    rw [hc,h3 k hk] at h1
    omega
def dby (xs:List Nat)(m:Nat)(i:Nat) : Int:=((xs.getD i 0:Nat) : Int)*(m:Int)
theorem dby_le {xs:List Nat}(hx : ∀ x ∈ xs,x<10000){m:Nat}(hm:m<10000)(i:Nat) : 0≤dby xs m i∧dby xs m i≤99980001:=by
  have h1:=getD_lt hx i
  have h2:xs.getD i 0*m≤9999*9999:=Nat.mul_le_mul (by omega) (by omega)
  unfold dby
  rw [← Int.natCast_mul]
  omega
theorem by_carry {xs:List Nat}(hx : ∀ x ∈ xs,x<10000){m:Nat}(hm:m<10000) : ∀ k,0≤(foldSt (dby xs m) 0 k).1∧(foldSt (dby xs m) 0 k).1<10000
  | 0=>by simp [foldSt]
  | k + 1 => by
    have ih:=by_carry hx hm k
    have h1:=dby_le hx hm k
    rw [foldSt]
    split
    · omega
    · split <;> simp only <;> omega
theorem by_res {xs:List Nat}(hx : ∀ x ∈ xs,x<10000){m:Nat}(hm:m<10000){n k:Nat}(hn:xs.length≤n)(hk:n≤k)(hc:(foldSt (dby xs m) 0 k).1=0) :
    (∀ x ∈ (foldSt (dby xs m) 0 k).2,0≤x∧x<10000)∧ofB 10000 (toNats (foldSt (dby xs m) 0 k).2)=ofB 10000 xs*m:=by
  have hd : ∀ x ∈ (foldSt (dby xs m) 0 k).2, 0 ≤ x ∧ x < 10000 := foldSt_digits _ _ (fun j => by
    have:=by_carry hx hm j
    have:=dby_le hx hm j
    omega) k
  refine ⟨hd,?_⟩
  have h1:=foldSt_val (dby xs m) 0 k
  have h2:=ofB_toNats _ (fun x hx=>(hd x hx).1)
  have h3:dsum (dby xs m) k=((ofB 10000 xs:Nat) : Int)*(m:Int):=by
    have:=dsum_mul (fun i=>((xs.getD i 0:Nat) : Int)) (m:Int) k
    rw [dsum_getD,ofB_take_ge xs (by omega)] at this
    exact this
  rw [hc,h3] at h1
  rw [← Int.natCast_mul] at h1
  omega
namespace Go.Eng
open Go Go.RowKit
section range
variable {P : Program} {w w' : World}
structure Keeps (bs:List Nat) (W W' : World) : Prop where
  size:W.heap.size≤W'.heap.size
  block : ∀ k,k<W.heap.size→k ∉ bs→W'.heap[k]?=W.heap[k]?
theorem Keeps.refl (bs:List Nat) (W:World) : Keeps bs W W:=⟨Nat.le_refl _,fun _ _ _=>rfl⟩
theorem Keeps.ext {bs:List Nat}{W A B:World}(h:Keeps bs W A)(k:Ext A B) : Keeps bs W B:=
  ⟨Nat.le_trans h.size k.size,fun i hi hb=>(k.block i (Nat.lt_of_lt_of_le hi h.size)).trans (h.block i hi hb)⟩
theorem Keeps.put {bs:List Nat}{W A B:World}{b:Nat}(h:Keeps bs W A)(k:Put A B b)(hb:b ∈ bs ∨ W.heap.size≤b) : Keeps bs W B:=
  ⟨by rw [k.size]; exact h.size,fun i hi hn=>(k.block i (fun e=>by subst e; rcases hb with hb | hb; exact hn hb; omega)).trans (h.block i hi hn)⟩
theorem Keeps.gr {bs:List Nat}{W A B:World}{row:Option Nat}(h:Keeps bs W A)(k:A.grownBy B row) (hb : ∀ b,row=some b→b ∈ bs ∨ W.heap.size≤b) : Keeps bs W B:=
  ⟨Nat.le_trans h.size k.size,fun i hi hn=>(k.block i (Nat.lt_of_lt_of_le hi h.size) (fun e=>by rcases hb i e.symm with hb | hb; exact hn hb; omega)).trans (h.block i hi hn)⟩
theorem Keeps.others {bs:List Nat}{W W' : World}(h:Keeps bs W W') (hc : ∀ b ∈ bs,∃ o:Obj,W.heap[b]?=some o∧o.isCells=true) : KeepsOthers W W':=
  ⟨h.size, fun k o hk ho => (h.block k (Array.getElem?_eq_some_iff.1 hk).1 (fun hm => by
    obtain ⟨o',ho',hc'⟩:=hc k hm
    rw [hk] at ho'; cases ho'; rw [ho] at hc'; cases hc')).trans hk⟩
theorem Keeps.blk {bs:List Nat}{W W' : World}{b:Nat}{t:TypeId}{cs:Array Value}(h:Keeps bs W W')(hn:b ∉ bs)(hb:Blk W b t cs) : Blk W' b t cs:=(h.block b hb.lt hn).trans hb
theorem Keeps.rw {bs:List Nat}{W W' : World}{lo:Nat}{A:Option Addr}{cs:List Value}(h:Keeps bs W W') (hn : ∀ ad,A=some ad→ad.block ∉ bs)(hb:Rw W lo A cs) : Rw W' lo A cs:=by
  refine ⟨fun j u hu=>?_,hb.lo,fun ad e=>Nat.lt_of_lt_of_le (hb.hi ad e) h.size⟩
  obtain ⟨b,o,e,hc⟩:=hb.cells j u hu
  refine ⟨b,o,e,?_⟩
  rw [← hc]
  exact World.cell?_of_block (h.block b (hb.hi _ e) (hn _ e))
theorem Blk.isCells {b:Nat}{t:TypeId}{cs:Array Value}(h:Blk w b t cs) : ∃ o:Obj,w.heap[b]?=some o∧o.isCells=true:=⟨_,h,rfl⟩
def Celled (B:Nat) (I:World→Prop) : Prop:=
  ∀ W W' row,I W→W.grownBy W' row→(∀ r,row=some r→B≤r∧∃ o:Obj,W.heap[r]?=some o∧o.isCells=false)→I W'
theorem Blk.cel {W W' : World}{row:Option Nat}{B b:Nat}{t:TypeId}{cs:Array Value}(hg:W.grownBy W' row) (hr : ∀ r,row=some r→B≤r∧∃ o:Obj,W.heap[r]?=some o∧o.isCells=false)(h:Blk W b t cs) : Blk W' b t cs:=
  (grownBy_keeps_cells hg (fun r e=>(hr r e).2) h rfl).trans h
theorem Rw.cel {W W' : World}{row:Option Nat}{B lo:Nat}{A:Option Addr}{cs:List Value}(hg:W.grownBy W' row) (hr : ∀ r,row=some r→B≤r∧∃ o:Obj,W.heap[r]?=some o∧o.isCells=false)(h:Rw W lo A cs) : Rw W' lo A cs:=by
  refine ⟨fun j u hu=>?_,h.lo,fun ad e=>Nat.lt_of_lt_of_le (h.hi ad e) hg.size⟩
  obtain ⟨b,o,e,hc⟩:=h.cells j u hu
  exact ⟨b,o,e,cell_kept hc hg (fun r e=>(hr r e).2)⟩
theorem low_cel {W W' w0:World}{row:Option Nat}{B n0:Nat}(hn:n0≤B)(hg:W.grownBy W' row) (hr : ∀ r,row=some r→B≤r∧∃ o:Obj,W.heap[r]?=some o∧o.isCells=false)(hs:n0≤W.heap.size)(h:Below n0 w0 W) : Below n0 w0 W':=
  h.grown hg hs (fun k e=>Nat.le_trans hn (hr k e).1)
def Dfr (w:World) (D:Nat) : Prop:=w.heap[D]?=some (.deferred (some []))
theorem Dfr.ext {D:Nat}(k:Ext w w')(h:Dfr w D) : Dfr w' D:=k.heap h
theorem Dfr.put {D b:Nat}(k:Put w w' b)(hne:D≠b)(h:Dfr w D) : Dfr w' D:=(k.block D hne).trans h
theorem Dfr.ne {D b : Nat} {t : TypeId} {cs : Array Value} (h : Dfr w D) (hb : Blk w b t cs) : D ≠ b := fun e => by
  subst e; unfold Dfr at h; unfold Blk at hb; rw [h] at hb; cases hb
def IterK (P:Program)(gf:Nat)(lb:List Value)(m:Nat)(enc:Nat→List Value)(order:List Nat) (Kq:World→Prop)(w:World) : Prop:=
  SeqStopsK Fence.wide 8 P gf lb.toArray (fun i : {i:Nat // i<m}=>(enc i.1).toArray) (fun A B=>Kq A→Kq B) (fun xs=>xs.map (·.1)=order) (fun xs=>xs.map (·.1) <+: order) m w
def updL (e:Nat→Value) : List Nat→List Value→Nat→Value
  | p :: ps,v :: vs=>updL (upd e p v) ps vs
  | _,_=>e
theorem act_set (N:Nat)(e:Nat→Value)(d:Nat)(v:Value) : (act N e []).tmps.setIfInBounds d v=(act N (upd e d v) []).tmps:=by
  have:=act_put N e [] d v
  exact congrArg Act.tmps this
theorem act_fold (N : Nat) : ∀ (ps : List Nat) (vs : List Value) (e : Nat → Value), (ps.zip vs).foldl (fun t (x : Nat × Value) => t.setIfInBounds x.1 x.2) (act N e []).tmps = (act N (updL e ps vs) []).tmps
  | [],vs,e=>by simp [updL]
  | p :: ps,[],e=>by simp [updL]
  | p :: ps, v :: vs, e => by
    simp only [List.zip_cons_cons,List.foldl_cons,updL]
    rw [act_set,act_fold N ps vs]
def roundPost (Kq:World→Prop) (I:List Nat→World→Prop) (Ix:Code→List Nat→World→Prop)(xs:List Nat) (W:World) : Exit→Act→World→Prop
  | .normal,_,W'=>KeepsOthers W W'∧(Kq W→Kq W')∧I xs W'
  | .ret,_,W'=>KeepsOthers W W'∧Ix .ret xs W'
  | .exit id,_,W'=>KeepsOthers W W'∧Ix (.exit id) xs W'
  | _,_,_=>False
theorem c_range {N:Nat} {e:Nat→Value} {ds:List Deferred} {Q:Exit→Act→World→Prop} {m:Nat} {enc:Nat→List Value} {order:List Nat} {Kq:World→Prop} {gf:Nat} {lb:List Value} {g:Operand} {ps:List Nat} {assign body:Code}
    (hg:ev N e g=.func (.func gf) #[] lb.toArray) (eg:Enters P gf) (hit:IterK P gf lb m enc order Kq w)
    (hKq:Celled w.heap.size Kq) (hps : ∀ i,(enc i).length=ps.length)
    (qs:List Nat) (qv:Nat→List Value)
    (hassign : ∀ l x W K,K (act N (updL (updL e ps (enc x)) qs (qv x)) []) W→assign.wpIn (Fw (some l)) 7 P (Exit.then K (fun _ _ _=>False)) (act N (updL e ps (enc x)) []) W)
    (I:List Nat→World→Prop) (Ix:Code→List Nat→World→Prop) (hI : ∀ xs,Celled w.heap.size (I xs)) (hIx : ∀ c xs,Celled w.heap.size (Ix c xs)) (h0:I [] w)
    (hbody : ∀ l pre x W,I pre W→(∀ i ∈ pre,i<m)→x<m→pre.length<m→body.wpIn (Fw (some l)) 7 P (roundPost Kq I Ix (pre ++ [x]) W) (act N (updL (updL e ps (enc x)) qs (qv x)) []) W)
    (hdone : ∀ D W,w.heap.size≤D→I order W→Dfr W D→Q .normal (act N e (⟨.collected D,#[]⟩ :: ds)) W)
    (hstop : ∀ D c pre W,w.heap.size≤D→pre <+: order→Ix c pre W→Dfr W D→c.wpIn (Fw none) 9 P Q (act N e (⟨.collected D,#[]⟩ :: ds)) W) :
    (Code.rangeFunc g ps.toArray assign body).wpIn (Fw none) 9 P Q (act N e ds) w:=by
  have hsub : ∀ pre : List {i : Nat // i < m}, ∀ i ∈ pre.map (·.1), i < m := fun pre i hi => by
    obtain ⟨x,_,rfl⟩:=List.mem_map.1 hi
    exact x.2
  refine wpIn_rangeFunc_ownF (F := Fence.wide) (n := 9) (α := {i : Nat // i < m}) rfl (by omega) (gf := gf) (lb := lb.toArray) (by rw [act_eval]; exact hg) trivial eg (w0 := w) hit (fun h k q => k (h q))
    (fun W l o o' hl ho hc _ q=>hKq W _ (some l) q (grownBy_putObj' W l o') (fun r er=>by cases er; exact ⟨hl,o,ho,hc⟩)) (Below.refl _ _) (fun x=>by simpa using hps x.1)
    (fun pre W=>I (pre.map (·.1)) W) (fun c pre W=>Ix c (pre.map (·.1)) W) (fun pre W W' row h=>hI (pre.map (·.1)) W W' row h) (fun c pre W W' row h=>hIx c (pre.map (·.1)) W W' row h) h0
    (fun x=>act N (updL (updL e ps (enc x.1)) qs (qv x.1)) []) (fun l x W K hK=>?_) (fun l pre x W hi hlen=>?_) (fun D xs W hD hS hi hK=>?_) (fun D c pre W hD hsp hi hK=>?_)
  · have h := hassign l x.1 W K hK
    have h2 : ({ tmps := (ps.toArray.zip (enc x.1).toArray).foldl (fun t (p, v) => t.setIfInBounds p v) (act N e ds).tmps, defers := [] } : Act) = act N (updL e ps (enc x.1)) [] := by
      have h3:=act_fold N ps (enc x.1) e
      have:(act N (updL e ps (enc x.1)) [])=⟨(act N (updL e ps (enc x.1)) []).tmps,[]⟩:=rfl
      rw [this,← h3]
      simp only [List.zip_toArray,List.foldl_toArray]
      rfl
    rw [h2]
    exact h
  · refine wpIn_mono (hbody l (pre.map (·.1)) x.1 W hi (hsub pre) x.2 (by simpa using hlen)) ?_
    rintro ex a W3 hp
    have hmap:(pre ++ [x]).map (·.1)=pre.map (·.1) ++ [x.1]:=by simp
    cases ex with
    | normal=>exact ⟨hp.1,hp.2.1,by simp only []; rw [hmap]; exact hp.2.2⟩
    | ret=>exact ⟨hp.1,by simp only []; rw [hmap]; exact hp.2⟩
    | exit id=>exact ⟨hp.1,by simp only []; rw [hmap]; exact hp.2⟩
    | goto t=>exact hp.elim
    | panic c=>exact hp.elim
    | outgrown=>exact hp.elim
  · exact hdone D W hD (by have h:xs.map (·.1)=order:=hS; rw [← h]; exact hi) hK
  · exact hstop D c _ W hD hsp hi hK
variable {f : FuncId} {fn : Func} {c : Code} {R : Value → World → Prop}
theorem act_start (args:List Value)(fn:Func) : ({ tmps:=args.toArray ++ Array.replicate (fn.ntmps - args.toArray.size) undef,defers:=[] } : Act)=act (args.length+(fn.ntmps - args.length)) (ent args) []:=by
  simp only [act,Act.mk.injEq,and_true]
  apply Array.ext
  · simp
  · intro i _ _
    simp only [Array.getElem_ofFn,ent]
    by_cases hi:i<args.length
    · simp [hi]
    · have h3 : args.toArray.size ≤ i := by simpa using hi
      rw [Array.getElem_append_right h3]
      simp [List.getElem?_eq_none (Nat.le_of_not_lt hi)]
theorem f_inM {args:List Value} (hf:P.funcs[f]?=some fn) (hb:fn.body=some c)
    (h:c.wpIn (Fw none) 9 P (bodyPostM Fence.wide 9 P fn (Ret w R)) (act (args.length+(fn.ntmps - args.length)) (ent args) []) w) : Calls P f args.toArray w (Ret w R):=by
  refine calls_Fw (n:=9) (callsIn_of_wp_marks hf hb trivial ?_)
  rw [act_start]
  exact h
theorem put_dfr {D:Nat}(w:World) : Put w (w.putObj D (.deferred none)) D:=
  ⟨rfl,rfl,rfl,by simp,fun k hk=>World.putObj_heap_other hk⟩
theorem f_outM {N D:Nat} {e:Nat→Value} {w' : World} {v:Value} (hK:Dfr w' D) (hr:(results fn (act N e [⟨.collected D,#[]⟩]).tmps).run P (w'.putObj D (.deferred none))=.ok v (w'.putObj D (.deferred none)))
    (hx:Ext w (w'.putObj D (.deferred none))) (hR:R v (w'.putObj D (.deferred none))) : bodyPostM Fence.wide 9 P fn (Ret w R) .ret (act N e [⟨.collected D,#[]⟩]) w':=
  ⟨by simp,.inl ⟨D,_,rfl,run_takeDeferred hK,v,hr,hx,hR⟩⟩
theorem f_retM1 {N t D:Nat}{e:Nat→Value}{w' : World}{v:Value}(hK:Dfr w' D)(hres:fn.results=#[.tmp t])(hx:Ext w w')(hD:w.heap.size≤D)(hR:R v (w'.putObj D (.deferred none)))(hv:ev N e (.tmp t)=v) : bodyPostM Fence.wide 9 P fn (Ret w R) .ret (act N e [⟨.collected D,#[]⟩]) w':=
  f_outM hK (res1 hres (res_tmp hv _)) ((put_dfr w').low hx hD) hR
theorem f_outM0 {N:Nat}{e:Nat→Value}{w' : World}{v:Value}(hr:(results fn (act N e []).tmps).run P w'=.ok v w')(hx:Ext w w')(hR:R v w') : bodyPostM Fence.wide 9 P fn (Ret w R) .ret (act N e []) w':=
  ⟨v,hr,hx,hR⟩
theorem Blk.dfr {D b:Nat}{t:TypeId}{cs:Array Value}(hK:Dfr w D)(h:Blk w b t cs) : Blk (w.putObj D (.deferred none)) b t cs:=(put_dfr w).blk (fun e=>hK.ne h e.symm) h
theorem Rw.dfr {D lo:Nat}{A:Option Addr}{cs:List Value}(hK:Dfr w D)(h:Rw w lo A cs) : Rw (w.putObj D (.deferred none)) lo A cs:=by
  refine ⟨fun j u hu=>?_,h.lo,fun ad e=>by rw [(put_dfr w).size]; exact h.hi ad e⟩
  obtain ⟨b,o,e,hc⟩:=h.cells j u hu
  refine ⟨b,o,e,?_⟩
  rw [← hc]
  refine (put_dfr w).cell ?_
  intro hb
  simp only at hb
  subst hb
  obtain ⟨_,ho',hc'⟩:=cells_of_cell hc
  rw [show w.heap[b]?=some (.deferred (some [])) from hK] at ho'
  cases ho'; cases hc'
theorem k_yield {N:Nat} {e:Nat→Value} {ds:List Deferred} {K:Act→World→Prop} {Q:Exit→Act→World→Prop} {l d ty:Nat} {pos:String} {af:Array Edge} {x:Operand} {xs:Array Operand} {ats:Array TypeId} {vs:List Value} {R:Ending→World→Prop}
    (hx:ev N e x=.func (.yield l) #[] #[]) (hv:xs.toList.map (ev N e)=vs) (hy:YieldAt Fence.wide 7 P l vs.toArray w R)
    (hk : ∀ c w',R c w'→match c with | .returned v=>K (act N (upd e d v) ds) w' | _=>False) : Oper.wpIn (Fw none) 8 P ⟨some d,.call { callee:=.value x,args:=xs,argTypes:=ats },ty,pos,af,none⟩ (act N e ds) w K Q:=by
  subst hv
  obtain ⟨fn,tmps,assign,body,hr,hR⟩:=hy
  have hvs:(xs.toList.map (ev N e)).toArray=xs.map (ev N e):=by rw [← Array.toList_map,Array.toArray_toList]
  rw [hvs] at hr
  refine ⟨fun f _=>Fw_fn none f,?_⟩
  rw [semAt_Fw rfl,act_eval]
  have:(execOp (ev N e) ⟨some d,.call { callee:=.value x,args:=xs,argTypes:=ats },ty,pos,af,none⟩).run P w=.ok (.round l fn tmps assign body) w:=by
    simp [execOp,resolve,Deferred.ofValue,hx,invoke,hr]
  rw [this]
  refine ⟨(fun h=>by rw [Fw_depth] at h; cases h),hR.mono ?_⟩
  intro c w' h
  have:=hk c w' h
  cases c with
  | returned v=>simp only at this ⊢; rw [act_put]; exact this
  | panicked c=>exact this.elim
  | outgrown=>exact this.elim
theorem iter_args {F:Fence}{n g:Nat}{R:Ending→World→Prop}{W:World}{a:Value}{lb:List Value}(h:CallsIn F n P g (a :: lb).toArray W R) : CallsIn F n P g (#[a] ++ lb.toArray) W R:=by
  have:(#[a] ++ lb.toArray)=(a :: lb).toArray:=by simp
  rw [this]; exact h
theorem f_inI {args:List Value} {R:Ending→World→Prop} (hf:P.funcs[f]?=some fn) (hb:fn.body=some c)
    (h:c.wpIn (Fw none) 8 P (bodyPost P fn R) (act (args.length+(fn.ntmps - args.length)) (ent args) []) w) : CallsIn Fence.wide 8 P f args.toArray w R:=by
  refine callsIn_of_wp hf hb trivial ?_
  rw [act_start]
  exact h
theorem f_ret0I {N:Nat}{e:Nat→Value}{w' : World}{R:Ending→World→Prop}(hres:fn.results=#[]) (hR : ∀ v,R (.returned v) w') : bodyPost P fn R .ret (act N e []) w':=
  ⟨rfl,_,res0 hres,hR _⟩
theorem f_end0I {N:Nat}{e:Nat→Value}{w' : World}{R:Ending→World→Prop}(hres:fn.results=#[]) (hR : ∀ v,R (.returned v) w') : bodyPost P fn R .normal (act N e []) w':=
  ⟨rfl,_,res0 hres,hR _⟩
theorem yield_cases {J J' Kp:Prop}{c:Ending}(h:(c=.returned (.bool true)∧J∧Kp) ∨ (c=.returned (.bool false)∧J')) : ∃ q,c=.returned (.bool q)∧(q=true→J∧Kp)∧(q=false→J'):=by
  rcases h with ⟨h1,h2,h3⟩ | ⟨h1,h2⟩
  · exact ⟨true,h1,fun _=>⟨h2,h3⟩,fun h=>by cases h⟩
  · exact ⟨false,h1,fun h=>by (cases h),fun _=>h2⟩
end range
section
variable {P : Program} {r : Option Nat} {n N : Nat} {e : Nat → Value} {ds : List Deferred} {w : World} {Q : Exit → Act → World → Prop} {K : Act → World → Prop}
variable {d ty : Nat} {pos : String} {af : Array Edge} {g : Option (Nat × Bool)} {v u : Value} {x y : Operand} {t t' : TypeId}
theorem k_convert {src dst:TypeId}{k k' : IntKind}{a c:Int}{D:TypeDesc}(hs:P.underlying src=some D)(hd:P.underlying dst=some (.int k'))(hx:ev N e x=.int k a)(hc:k'.wrap a=c)(hk:K (act N (upd e d (.int k' c)) ds) w) :
    Oper.wpIn (Fw r) n P ⟨some d,.convert src dst x,ty,pos,af,g⟩ (act N e ds) w K Q:=by
  refine k_val (v:=.int k' c) (w':=w) rfl ?_ (by rw [act_put]; exact hk)
  subst hc
  simp [execOp,hx,convert,run_underlying hs,run_underlying hd,Conv.intToInt]
theorem k_shr {k k' : IntKind}{a b c:Int}(hx:ev N e x=.int k a)(hy:ev N e y=.int k' b)(hb:0≤b∧b≤8)(hc:a / 2 ^ b.toNat=c)(hk:K (act N (upd e d (.int k c)) ds) w) :
    Oper.wpIn (Fw r) n P ⟨some d,.binOp .shr t x y t',ty,pos,af,g⟩ (act N e ds) w K Q:=by
  refine k_bin hx hy (guard_int ..) ?_ hk
  have h1:¬ b<0:=by omega
  have h2:min b.toNat k.bits=b.toNat:=by
    have:8≤k.bits:=by cases k <;> decide
    omega
  subst hc
  simp only [binOp,Op.shift,h1,if_false,h2]
  simp [Int.fdiv_eq_ediv_of_nonneg _ (show (0:Int)≤2 ^ b.toNat from Int.le_of_lt (Int.pow_pos (by omega)))]
theorem k_callB {R:Value→World→Prop} {f:FuncId} {la:List Value} {xs:Array Operand} {ats:Array TypeId} {vs:List Value} (hf:Enters P f) (hx:ev N e x=.func (.func f) la.toArray #[]) (hv:xs.toList.map (ev N e)=vs) (hc:Calls P f (la ++ vs).toArray w (Ret w R))
    (hk : ∀ v w',Ext w w'→R v w'→K (act N (upd e d v) ds) w') : Oper.wpIn (Fw r) n P ⟨some d,.call { callee:=.value x,args:=xs,argTypes:=ats },ty,pos,af,g⟩ (act N e ds) w K Q:=by
  subst hv
  have h2:la.toArray ++ xs.map (ev N e)=(la ++ xs.toList.map (ev N e)).toArray:=by simp
  refine k_enter (f:=f) (args:=la.toArray ++ xs.map (ev N e)) (R:=R) rfl ?_ (by rw [h2]; exact hc) (fun v w' h1 h2=>by rw [act_put]; exact hk v w' h1 h2)
  simp [execOp,resolve,Deferred.ofValue,hx,invoke,hf _ _]
theorem own_blk {base sz m b:Nat}{el:TypeId}{xs:List Value}(h:w.ownsRow base el sz (.slice (some ⟨b,0,none⟩) m m) m xs) : Blk w b el xs.toArray:=by
  obtain ⟨hl,⟨hv,_⟩ | ⟨g,cap,cur,hv,hg,hh,hc,hm,hs,ht⟩⟩:=h
  · cases hv
  · simp only [Value.slice.injEq] at hv
    obtain ⟨hv,-,rfl⟩:=hv
    cases hv
    rw [List.take_of_length_le (by simp [hs])] at ht
    subst ht
    simpa [Blk] using hh
theorem Rw.of_blk {lo b:Nat}{el:TypeId}{xs:List Value}(h:Blk w b el xs.toArray)(hb:lo≤b) : Rw w lo (some ⟨b,0,none⟩) xs:=by
  refine ⟨fun j u hu=>⟨b,0,rfl,?_⟩,fun ad e=>by cases e; exact hb,fun ad e=>by cases e; exact h.lt⟩
  rw [Nat.zero_add]
  exact h.cell (by simpa using hu)
def Each (p:Nat→Prop) : List Nat→Prop
  | []=>True
  | i :: is=>p i∧Each p is
theorem each_mem {p:Nat→Prop} : ∀ {l:List Nat},Each p l→∀ i ∈ l,p i
  | _ :: _, h, i, hi => by
    rcases List.mem_cons.1 hi with rfl | hi
    · exact h.1
    · exact each_mem h.2 i hi
theorem a_start {id:Nat}{l:List Oper}(hm:P.follows .mixedOrders=true)(h:wpAnyIn (Fw r) n P .any l.toArray Q l.length (Array.replicate l.length false) (act N e ds) w.drew) : (Code.region id l.toArray true).wpIn (Fw r) n P Q (act N e ds) w:=
  wpIn_region_any hm h
theorem a_step {l:List Oper} {fuel:Nat} {listed:Array Bool} {i:Nat} {is:List Nat} {a:Act} (hr:Region.ready .any l.toArray listed=i :: is)
    (h:Each (fun i=>wpOpIn (Fw r) n P l.toArray Q i (wpAnyIn (Fw r) n P .any l.toArray Q fuel (listed.setIfInBounds i true)) a w) (i :: is)) : wpAnyIn (Fw r) n P .any l.toArray Q (fuel+1) listed a w:=
  ⟨fun h0=>(by rw [hr] at h0; cases h0),fun j hj=>each_mem h j (by rw [hr] at hj; exact hj)⟩
theorem a_op {l:List Oper}{i:Nat}{a:Act}{dst:Option Nat}{op:Op}(ho:l[i]?=some ⟨dst,op,ty,pos,af,none⟩)(h:Oper.wpIn (Fw r) n P ⟨dst,op,ty,pos,af,none⟩ a w K Q) : wpOpIn (Fw r) n P l.toArray Q i K a w:=by
  unfold wpOpIn
  rw [List.getElem?_toArray,ho]
  simp only [Region.wanted,if_true]
  exact h
theorem a_end {l:List Oper}{listed:Array Bool}{a:Act}(hr:Region.ready .any l.toArray listed=[])(h:Q .normal a w) : wpAnyIn (Fw r) n P .any l.toArray Q 0 listed a w:=⟨hr,h⟩
theorem wrap_i64 {a:Int}(h : -9223372036854775808≤a∧a≤9223372036854775807) : IntKind.i64.wrap a=a:=wrap_in h
theorem wrap_u64 {a:Int}(h:0≤a∧a≤18446744073709551615) : IntKind.u64.wrap a=a:=by
  have h1:a % 18446744073709551616=a:=Int.emod_eq_of_lt h.1 (by omega)
  simp [IntKind.wrap,IntKind.bits,IntKind.signed,h1]
theorem Cf.ext {w w' : World}{a:Addr}{v:Value}(k:Ext w w')(h:w.cell? a=some v) : w'.cell? a=some v:=k.cell h
theorem k_subK {k:IntKind}{a b c:Int}(hx:ev N e x=.int k a)(hy:ev N e y=.int k b)(hc:k.wrap (a - b)=c)(hk:K (act N (upd e d (.int k c)) ds) w) :
    Oper.wpIn (Fw r) n P ⟨some d,.binOp .sub t x y t',ty,pos,af,g⟩ (act N e ds) w K Q:=
  k_bin hx hy (guard_int ..) (by subst hc; simp [binOp,Op.intArith]) hk
theorem wrap_u8 {a:Int}(h:0≤a∧a≤255) : IntKind.u8.wrap a=a:=by
  have h1:a % 256=a:=Int.emod_eq_of_lt h.1 (by omega)
  simp [IntKind.wrap,IntKind.bits,IntKind.signed,h1]
theorem l_und {l:List Oper} {op:Op} {rest:List Oper} {j s dd:Nat} {q:Bool} (hj:dstOf l j=some s) (hv:ev N e (.tmp s)=undef) (hs:Nat.blt s N=true)
    (h:wpListIn (Fw r) n P l.toArray Q rest (act N (upd e dd undef) ds) w) : wpListIn (Fw r) n P l.toArray Q (⟨some dd,op,ty,pos,af,some (j,q)⟩ :: rest) (act N e ds) w:=by
  have hj' : (l.toArray[j]?).bind (·.dst)=some s:=by rw [List.getElem?_toArray]; exact hj
  have hy:yielded l.toArray (act N e ds).tmps j=none:=by
    have h2:(act N e ds).eval (.tmp s)=undef:=by rw [act_eval]; exact hv
    simp only [Act.eval] at h2
    have hs' : s<(act N e ds).tmps.size:=by rw [Nat.blt_eq] at hs; simpa [act] using hs
    simp only [Array.getD,hs',dif_pos] at h2
    have h3:(act N e ds).tmps[s]?=some undef:=by rw [Array.getElem?_eq_getElem hs']; exact congrArg some h2
    unfold yielded; rw [hj',Option.bind_some,h3]; rfl
  unfold wpListIn
  rw [if_neg (by simp [Region.wanted,hy])]
  exact ⟨fun f _=>Fw_fn r f,by rw [act_put]; exact h⟩
theorem byteAt_ {l:List UInt8}{i:Nat}(h:i<l.length) : l[i]?=some (l.getD i 0):=by rw [List.getElem?_eq_getElem h]; simp [List.getD,h]
theorem k_nilCheck {b o:Nat}(hx:ev N e x=.pointer (some ⟨b,o,none⟩))(hk:K (act N (upd e d (.pointer (some ⟨b,o,none⟩))) ds) w) :
    Oper.wpIn (Fw r) n P ⟨some d,.nilCheck x,ty,pos,af,g⟩ (act N e ds) w K Q:=by
  refine k_val (v:=.pointer (some ⟨b,o,none⟩)) (w':=w) rfl ?_ (by rw [act_put]; exact hk)
  simp [execOp,hx]
theorem k_lenLm {l:List UInt8}{m:Nat}(hu:P.underlying t=some .string)(hx:ev N e x=S l)(hm:l.length=m)(hk:K (act N (upd e d (.int .i64 ((m:Nat) : Int))) ds) w) :
    Oper.wpIn (Fw r) n P ⟨some d,.call { callee:=.builtin .len,args:=#[x],argTypes:=#[t] },ty,pos,af,g⟩ (act N e ds) w K Q:=
  k_lenL (l:=l) hu hx (by rw [hm]; exact hk)
theorem own_nil {W:World}{base:Nat}{et:TypeId}{sz:Nat} : W.ownsRow base et sz (.slice none 0 0) 0 []:=⟨by simp,.inl ⟨rfl,rfl⟩⟩
theorem own_ne_new {W:World}{base sz k:Nat}{et:TypeId}{v:Value}{cs:List Value}(h:W.ownsRow base et sz v k cs) : v.ownBlock≠some W.heap.size:=by
  obtain ⟨hl,⟨rfl,_⟩ | ⟨g,cap,cur,rfl,hg,hh,_⟩⟩:=h
  · simp [Value.ownBlock]
  · have : g < W.heap.size := (Array.getElem?_eq_some_iff.1 hh).1
    simp [Value.ownBlock]; omega
theorem own_ne_app {W:World}{v v' : Value}{b:Nat}(ha:v'.ownBlock=v.ownBlock ∨ v'.ownBlock=some W.heap.size)(hn:v.ownBlock≠some b)(hb:b<W.heap.size) : v'.ownBlock≠some b:=by
  rcases ha with h | h
  · rw [h]; exact hn
  · rw [h]; simp; omega
theorem own_ge {W:World}{base sz k:Nat}{et:TypeId}{v:Value}{cs:List Value}(h:W.ownsRow base et sz v k cs) : ∀ g,v.ownBlock=some g→base≤g:=by
  obtain ⟨hl,⟨rfl,_⟩ | ⟨g,cap,cur,rfl,hg,hh,_⟩⟩:=h
  · simp [Value.ownBlock]
  · intro _ e; simp [Value.ownBlock] at e; omega
theorem low_app {W0 W W' : World}{B base sz k:Nat}{et:TypeId}{v:Value}{cs:List Value}(h:W.ownsRow base et sz v k cs)(hB:B≤base)(hBw:B≤W.heap.size)(hE:Below B W0 W)(hg:W.grownBy W' v.ownBlock) : Below B W0 W':=
  low_gr hE hg hBw (fun g e=>Nat.le_trans hB (own_ge h g e))
theorem own_cast {W:World}{base sz k k' : Nat}{et:TypeId}{v:Value}{cs cs' : List Value}(h:W.ownsRow base et sz v k cs)(hk:k=k')(hc:cs=cs') : W.ownsRow base et sz v k' cs':=by subst hk hc; exact h
theorem own_one {W:World}{base sz k:Nat}{et:TypeId}{v:Value}{cs:List Value}(h:W.ownsRow base et sz v k cs) : v.oneCell'=true:=by
  obtain ⟨hl,⟨rfl,_⟩ | ⟨g,cap,cur,rfl,_⟩⟩:=h <;> rfl
def RetA (R:Value→World→Prop) : Ending→World→Prop
  | .returned v,w'=>R v w'
  | _,_=>False
theorem k_callA {R:Value→World→Prop} {f:FuncId} {xs:Array Operand} {ats:Array TypeId} {vs:List Value} (hf:Enters P f) (hv:xs.toList.map (ev N e)=vs) (hc:Calls P f vs.toArray w (RetA R))
    (hk : ∀ v w',R v w'→K (act N (upd e d v) ds) w') : Oper.wpIn (Fw r) n P ⟨some d,.call { callee:=.value (.func f),args:=xs,argTypes:=ats },ty,pos,af,g⟩ (act N e ds) w K Q:=by
  subst hv
  refine ⟨fun f _=>Fw_fn r f,?_⟩
  have hs:(execOp (ev N e) ⟨some d,.call { callee:=.value (.func f),args:=xs,argTypes:=ats },ty,pos,af,g⟩).run P w=.ok (.enter f (xs.map (ev N e))) w:=by
    simp [execOp,resolve,Deferred.ofValue,ev,invoke,hf _ _]
  rw [semAt_Fw rfl,act_eval,hs]
  refine ⟨(fun h=>by rw [Fw_depth] at h; cases h),Fw_calls ((show Calls P f (xs.map (ev N e)) w (RetA R) from by have h:=hc; rwa [show (xs.toList.map (ev N e)).toArray=xs.map (ev N e) by rw [← Array.toList_map,Array.toArray_toList]] at h).mono ?_)⟩
  intro e' w' h
  cases e' with
  | returned v =>
    show K ((act N e ds).put (some d) v) w'
    rw [act_put]; exact hk v w' h
  | panicked c=>exact h.elim
  | outgrown=>exact h.elim
theorem reta_of {f:FuncId}{args:Array Value}{R:Ending→World→Prop}{Q:Value→World→Prop}(h:Calls P f args w R) (hq : ∀ e w',R e w'→∃ v,e=.returned v∧Q v w') : Calls P f args w (RetA Q):=
  h.mono (by
    intro e w' hR
    obtain ⟨v,rfl,h2⟩:=hq e w' hR
    exact h2)
theorem gb_ext {A B C:World}{row:Option Nat}(h:A.grownBy B row)(k:Ext B C) : A.grownBy C row:=
  ⟨k.os.trans h.os,k.tape.trans h.tape,k.output.trans h.output,Nat.le_trans h.size k.size,fun i hi hr=>(k.block i (Nat.lt_of_lt_of_le hi h.size)).trans (h.block i hi hr)⟩
theorem gb_put {A B C:World}{b:Nat}(h:A.grownBy B (some b))(k:Put B C b) : A.grownBy C (some b):=
  ⟨k.os.trans h.os,k.tape.trans h.tape,k.output.trans h.output,by rw [k.size]; exact h.size,fun i hi hr=>(k.block i (fun e=>hr (by rw [e]))).trans (h.block i hi hr)⟩
theorem gb_putn {A B C:World}{b:Nat}{row:Option Nat}(h:A.grownBy B row)(k:Put B C b)(hb:A.heap.size≤b) : A.grownBy C row:=
  ⟨k.os.trans h.os,k.tape.trans h.tape,k.output.trans h.output,by rw [k.size]; exact h.size,fun i hi hr=>(k.block i (by omega)).trans (h.block i hi hr)⟩
theorem gb_trans {A B C:World}{row:Option Nat}(h:A.grownBy B row)(k:B.grownBy C row) : A.grownBy C row:=
  ⟨k.os.trans h.os,k.tape.trans h.tape,k.output.trans h.output,Nat.le_trans h.size k.size,fun i hi hr=>(k.block i (Nat.lt_of_lt_of_le hi h.size) hr).trans (h.block i hi hr)⟩
theorem f_inA {f:FuncId} {fn:Func} {c:Code} {args:List Value} {R:Value→World→Prop} (hf:P.funcs[f]?=some fn) (hb:fn.body=some c)
    (h:c.wpIn (Fw none) 0 P (bodyPost P fn (RetA R)) (act (args.length+(fn.ntmps - args.length)) (ent args) []) w) : Calls P f args.toArray w (RetA R):=by
  refine calls_Fw (n:=0) (callsIn_of_wp hf hb trivial ?_)
  rw [act_start]
  exact h
theorem f_outA {fn:Func}{R:Value→World→Prop}{N:Nat}{e:Nat→Value}{w' : World}{v:Value}(hr:(results fn (act N e []).tmps).run P w'=.ok v w')(hR:R v w') : bodyPost P fn (RetA R) .ret (act N e []) w':=
  ⟨rfl,v,hr,hR⟩
theorem f_endA {fn:Func}{R:Value→World→Prop}{N:Nat}{e:Nat→Value}{w' : World}{v:Value}(hr:(results fn (act N e []).tmps).run P w'=.ok v w')(hR:R v w') : bodyPost P fn (RetA R) .normal (act N e []) w':=
  ⟨rfl,v,hr,hR⟩
end
section draws
variable {P : Program} {r : Option Nat} {n N : Nat} {e0 : Nat → Value} {ds : List Deferred} {w0 : World} {Q : Exit → Act → World → Prop} {ops : Array Oper} {M : Nat}
theorem c_drawJ {id:Nat} {l:List Oper} (hm:P.follows .mixedOrders=true) (M:Nat) (R:World→World→Prop) (hR0 : ∀ w,R w w.drew) (hRt : ∀ a b c,R a b→R b c→R a c) (Φ:Nat→Value→World→Prop)
    (hΦ : ∀ i v w w',R w w'→Φ i v w→Φ i v w')
    (J:(Nat→Bool)→World→Prop) (hJ0:J (fun _=>false) w0.drew)
    (hwf : ∀ (i:Nat) (o:Oper),l.toArray[i]?=some o→∀ e ∈ o.after,Region.binds .any e=true→e.on<i)
    (hshape:Region.sinkB .any l.toArray M=true∧Region.chainB .any l.toArray M=true∧M<l.toArray.size ∨ M=l.toArray.size)
    (hdst : ∀ i j d,i<M→j<M→(l.toArray[i]?).bind (·.dst)=some d→(l.toArray[j]?).bind (·.dst)=some d→i=j)
    (hstep : ∀ (i : Nat) (o : Oper), i < M → l.toArray[i]? = some o → ∀ (e : Nat → Value) (w : World) (ls : Nat → Bool), J ls w → (∀ j oj, l.toArray[j]? = some oj → ls j = true → ∀ ed ∈ oj.after, Region.binds .any ed = true → ls ed.on = true) → ls i = false → (∀ ed ∈ o.after, Region.binds .any ed = true → ls ed.on = true) → R w0 w → (∀ t, (∀ j, j < M → (l.toArray[j]?).bind (·.dst) ≠ some t) → e t = e0 t) →
      (∀ j,(∃ ed ∈ o.after,Region.binds .any ed=true∧ed.on=j)→∀ d,(l.toArray[j]?).bind (·.dst)=some d→Φ j (e d) w) →
      wpListIn (Fw r) n P l.toArray (fun x a' w'=>x=.normal∧∃ v,a'=(act N e ds).put o.dst v∧R w w'∧Φ i v w'∧J (fun j=>if j=i then true else ls j) w') [o] (act N e ds) w)
    (hfin : ∀ (e : Nat → Value) (w : World), (∃ ls : Nat → Bool, (∀ j, j < M → ls j = true) ∧ J ls w) → R w0 w → (∀ t, (∀ j, j < M → (l.toArray[j]?).bind (·.dst) ≠ some t) → e t = e0 t) →
      (∀ j d,j<M→(l.toArray[j]?).bind (·.dst)=some d→Φ j (e d) w)→wpListIn (Fw r) n P l.toArray Q (l.drop M) (act N e ds) w) :
    (Code.region id l.toArray true).wpIn (Fw r) n P Q (act N e0 ds) w0:=by
  have hMle:M≤l.toArray.size:=by rcases hshape with ⟨_,_,h⟩ | h <;> omega
  have hchain:Region.chainB .any l.toArray M=true:=by
    rcases hshape with ⟨_,h,_⟩ | h
    · exact h
    · refine List.all_eq_true.2 fun t ht => ?_
      have:=List.mem_range.1 ht
      simp only [Bool.or_eq_true,decide_eq_true_eq]
      left; omega
  refine wpIn_region_any hm ?_
  have main : ∀ (fuel : Nat) (listed : Array Bool) (e : Nat → Value) (w : World), left l.toArray listed ≤ fuel → HeadInv .any l.toArray M listed → J (fun j => listed.getD j false) w → R w0 w →
      (∀ t,(∀ j,j<M→(l.toArray[j]?).bind (·.dst)≠some t)→e t=e0 t) →
      (∀ j d,j<M→listed.getD j false=true→(l.toArray[j]?).bind (·.dst)=some d→Φ j (e d) w) →
      wpAnyIn (Fw r) n P .any l.toArray Q fuel listed (act N e ds) w:=by
    intro fuel
    induction fuel with
    | zero =>
      intro listed e w hf inv hJ hR hs hφ
      have hall : ∀ i,i<l.toArray.size→listed.getD i false=true:=by
        intro i hi
        cases hb:listed.getD i false with
        | true=>rfl
        | false =>
          have:=left_set hi inv.size hb
          omega
      refine tail_run hchain hwf 0 l.toArray.size listed _ w 0 rfl hMle inv.size hall (fun i h1 h2=>by omega) (Nat.le_refl _) ?_
      by_cases hM:M=l.toArray.size
      · have h := hfin e w ⟨_, fun j hj => hall j (by omega), hJ⟩ hR hs (fun j d hj hd => hφ j d hj (hall j (by omega)) hd)
        rw [hM] at h
        simpa using h
      · have h1 := inv.tail M (Nat.le_refl _) (by omega)
        have h2:=hall M (by omega)
        rw [getD_both h1] at h2
        cases h2
    | succ fuel ih =>
      intro listed e w hf inv hJ hR hs hφ
      by_cases hdone : ∀ i,i<M→listed.getD i false=true
      · refine tail_run hchain hwf (l.toArray.size - M) M listed _ w (fuel + 1) (by omega) (Nat.le_refl _) inv.size hdone (fun i h1 h2 => inv.tail i h1 h2) ?_ ?_
        · have h1 : l.toArray.size - M ≤ left l.toArray listed := left_tail hMle (fun i h1 h2 => getD_both (inv.tail i h1 h2))
          omega
        · simpa using hfin e w ⟨_,fun j hj=>hdone j hj,hJ⟩ hR hs (fun j d hj hd=>hφ j d hj (hdone j hj) hd)
      · have hex : ∃ i, i < M ∧ listed.getD i false = false := by
          refine Classical.byContradiction fun hn=>hdone fun i hi=>?_
          cases hb:listed.getD i false with
          | true=>rfl
          | false=>exact absurd ⟨i,hi,hb⟩ hn
        obtain ⟨i0,hi0,hb0⟩:=hex
        have hin : ∀ i ∈ Region.ready .any l.toArray listed,i<M:=by
          intro i hi
          rcases Nat.lt_or_ge i M with h | h
          · exact h
          · rcases hshape with ⟨h1, h2, h3⟩ | h3
            · exact absurd hi (tail_waits h1 h2 h3 inv _ i0 rfl hi0 (getD_in (by rw [inv.size]; omega) hb0) i h)
            · obtain ⟨_, o, ho, _⟩ := mem_ready.1 hi
              have:=(Array.getElem?_eq_some_iff.1 ho).1
              omega
        refine ⟨fun h0=>?_,fun i hi=>?_⟩
        ·
          exfalso
          have least : ∀ k i,i≤k→i<l.toArray.size→listed.getD i false=false→∃ j,j ∈ Region.ready .any l.toArray listed:=by
            intro k
            induction k with
            | zero =>
              intro i hi hl hb
              obtain rfl:i=0:=by omega
              refine ⟨0,mem_ready.2 ⟨getD_in (by rw [inv.size]; exact hl) hb,l.toArray[0],Array.getElem?_eq_getElem hl,fun ed he hbb=>?_⟩⟩
              have:=hwf 0 _ (Array.getElem?_eq_getElem hl) ed he hbb
              omega
            | succ k ihk =>
              intro i hi hl hb
              by_cases hp : ∀ ed ∈ (l.toArray[i]).after,Region.binds .any ed=true→listed.getD ed.on false=true
              · exact ⟨i,mem_ready.2 ⟨getD_in (by rw [inv.size]; exact hl) hb,l.toArray[i],Array.getElem?_eq_getElem hl,hp⟩⟩
              · have : ∃ ed ∈ (l.toArray[i]).after, Region.binds .any ed = true ∧ listed.getD ed.on false = false := by
                  refine Classical.byContradiction fun hn=>hp fun ed he hbb=>?_
                  cases hb:listed.getD ed.on false with
                  | true=>rfl
                  | false=>exact absurd ⟨ed,he,hbb,hb⟩ hn
                obtain ⟨ed,he,hbb,hun⟩:=this
                have hlt:=hwf i _ (Array.getElem?_eq_getElem hl) ed he hbb
                exact ihk ed.on (by omega) (by omega) hun
          obtain ⟨j,hj⟩:=least i0 i0 (Nat.le_refl _) (by omega) hb0
          rw [h0] at hj
          cases hj
        · have hiM := hin i hi
          obtain ⟨hun,o,ho,hpred⟩:=mem_ready.1 hi
          have hst:=hstep i o hiM ho e w (fun j=>listed.getD j false) hJ (fun j oj hj hl=>inv.closed j oj hj hl) (getD_both hun) hpred hR hs (fun j ⟨ed,he,hb,hon⟩ d hd=>hφ j d (by have:=hwf i o ho ed he hb; omega) (by rw [← hon]; exact hpred ed he hb) hd)
          have hnext : ∀ a' w', (∃ v, a' = (act N e ds).put o.dst v ∧ R w w' ∧ Φ i v w' ∧ J (fun j => if j = i then true else listed.getD j false) w') → wpAnyIn (Fw r) n P .any l.toArray Q fuel (listed.setIfInBounds i true) a' w' := by
            rintro a' w' ⟨v,rfl,hR',hv,hJ'⟩
            have hil:i<l.toArray.size:=by omega
            have hJ2 : J (fun j => (listed.setIfInBounds i true).getD j false) w' := by
              have e : (fun j => (listed.setIfInBounds i true).getD j false) = (fun j => if j = i then true else listed.getD j false) := by
                funext j
                by_cases hj:j=i
                · subst hj; rw [if_pos rfl]; have:=inv.size; simp [Array.getD,this]; omega
                · rw [if_neg hj,getD_set_ne false (fun h=>hj h.symm)]
              rw [e]; exact hJ'
            have hlf:left l.toArray (listed.setIfInBounds i true)≤fuel:=by
              have:=left_set hil inv.size (getD_both hun)
              omega
            cases hd:o.dst with
            | none =>
              refine ih _ e w' hlf (inv.set hi hiM) hJ2 (hRt _ _ _ hR hR') hs (fun j d hj hl hjd=>?_)
              by_cases hij:i=j
              · subst hij; rw [ho] at hjd; simp [hd] at hjd
              · rw [getD_set_ne false hij] at hl; exact hΦ _ _ _ _ hR' (hφ j d hj hl hjd)
            | some d0 =>
              rw [act_put]
              refine ih _ _ w' hlf (inv.set hi hiM) hJ2 (hRt _ _ _ hR hR') (fun t ht=>?_) (fun j d hj hl hjd=>?_)
              · have : t ≠ d0 := fun h => ht i hiM (by rw [ho]; simp [hd, h])
                rw [upd_ne _ _ this]; exact hs t ht
              · by_cases hij : i = j
                · subst hij
                  rw [ho] at hjd
                  simp only [Option.bind_some,hd,Option.some.injEq] at hjd
                  subst hjd
                  rw [upd_eq]; exact hv
                · rw [getD_set_ne false hij] at hl
                  have hne:d≠d0:=fun h=>hij (hdst i j d hiM hj (by rw [ho]; simp [hd,h]) hjd)
                  rw [upd_ne _ _ hne]
                  exact hΦ _ _ _ _ hR' (hφ j d hj hl hjd)
          unfold wpOpIn
          rw [ho]
          dsimp only
          unfold wpListIn at hst
          split
          · rename_i hw
            rw [if_pos hw] at hst
            exact oper_mono2 (fun a' w' hh=>hnext a' w' hh.2) (fun c a w h=>by cases h.1) (fun a w h=>by cases h.1) hst
          · rename_i hw
            rw [if_neg hw] at hst
            exact ⟨hst.1,hnext _ _ hst.2.2⟩
  refine main _ _ e0 w0.drew ?_ ⟨by simp,fun j oj hj hl=>?_,fun t h1 h2=>?_⟩ ((congrArg (fun f=>J f w0.drew) (funext fun j=>getD_replicate_false _ j)).mpr hJ0) (hR0 w0) (fun _ _=>rfl) (fun j d hj hl=>?_)
  · unfold left
    exact Nat.le_trans (List.length_filter_le _ _) (by simp)
  · rw [getD_replicate_false] at hl; cases hl
  · have h3 : t < l.length := by simpa using h2
    simp [h3]
  · rw [getD_replicate_false] at hl; cases hl
def posOf (C:List Nat)(i:Nat) : Option Nat:=C.findIdx? (Nat.beq i)
def chainC (l : List Oper) (C : List Nat) : Bool := (List.range C.length).all fun p => match C[p]? with
  | none=>false
  | some c=>Nat.beq p 0 || (match C[p - 1]?,l[c]? with | some c',some o=>predB o c' | _,_=>false)
def nodupB (C:List Nat) : Bool:=(List.range C.length).all fun p=>(List.range C.length).all fun q=>Nat.beq p q || (match C[p]?,C[q]? with | some a,some b=>!Nat.beq a b | _,_=>true)
def cnt (C:List Nat)(ls:Nat→Bool) : Nat:=(C.filter ls).length
def HeadC (r:Option Nat)(n:Nat) (P:Program) (N:Nat)(ds:List Deferred)(l:List Oper) (M:Nat) (R:World→World→Prop) (Φ:List (Value→World→Prop)) (C:List Nat) (I:Nat→World→Prop)(e0:Nat→Value)(w0:World) : Nat→List Oper→List (Value→World→Prop)→Prop
  | _,[],_=>True
  | _,_ :: _,[]=>False
  | i, o :: os, φ :: φs => (∀ (e : Nat → Value) (w : World) (k : Nat), I k w → (∀ p, posOf C i = some p → k = p) → R w0 w → (∀ t, isDst l M t = false → e t = e0 t) → (∀ j d, predB o j = true → dstOf l j = some d → phi Φ j (e d) w) →
      wpListIn (Fw r) n P l.toArray (fun x a' w'=>x=.normal∧∃ v,a'=(act N e ds).put o.dst v∧R w w'∧φ v w'∧I (match posOf C i with | some p=>p+1 | none=>k) w') [o] (act N e ds) w)∧HeadC r n P N ds l M R Φ C I e0 w0 (i+1) os φs
theorem headC_get {l:List Oper}{R:World→World→Prop}{Φ:List (Value→World→Prop)}{C:List Nat}{I:Nat→World→Prop} : ∀ (os:List Oper) (φs:List (Value→World→Prop)) (i0:Nat),HeadC r n P N ds l M R Φ C I e0 w0 i0 os φs→∀ i o,os[i]?=some o →
    (∀ (e:Nat→Value) (w:World) (k:Nat),I k w→(∀ p,posOf C (i0+i)=some p→k=p)→R w0 w→(∀ t,isDst l M t=false→e t=e0 t)→(∀ j d,predB o j=true→dstOf l j=some d→phi Φ j (e d) w) →
      wpListIn (Fw r) n P l.toArray (fun x a' w'=>x=.normal∧∃ v,a'=(act N e ds).put o.dst v∧R w w'∧phi φs i v w'∧I (match posOf C (i0+i) with | some p=>p+1 | none=>k) w') [o] (act N e ds) w)
  | [],_,_,_,i,o,h=>by simp at h
  | o' :: os,[],_,h,i,o,ho=>h.elim
  | o' :: os,φ :: φs,i0,h,0,o,ho=>by simp at ho; subst ho; exact h.1
  | o' :: os, φ :: φs, i0, h, i + 1, o, ho => by
    have:=headC_get os φs (i0+1) h.2 i o (by simpa using ho)
    rw [show i0+1+i=i0+(i+1) by omega] at this
    simpa only [phi,List.getElem?_cons_succ] using this
theorem posOf_some {C:List Nat}{i p:Nat}(h:posOf C i=some p) : C[p]?=some i:=by
  unfold posOf at h
  obtain ⟨h1,h2,_⟩:=List.findIdx?_eq_some_iff_getElem.1 h
  rw [List.getElem?_eq_getElem h1,Nat.eq_of_beq_eq_true h2]
theorem posOf_none {C:List Nat}{i:Nat}(h:posOf C i=none) : i ∉ C:=by
  unfold posOf at h
  rw [List.findIdx?_eq_none_iff] at h
  intro hm
  have:=h i hm
  simp at this
theorem cnt_not {C : List Nat} {ls : Nat → Bool} {i : Nat} (h : i ∉ C) : cnt C (fun j => if j = i then true else ls j) = cnt C ls := by
  unfold cnt
  congr 1
  apply List.filter_congr
  intro x hx
  rw [if_neg (fun e=>h (by rw [← e]; exact hx))]
theorem cnt_all {C:List Nat}{ls:Nat→Bool}(h : ∀ c ∈ C,ls c=true) : cnt C ls=C.length:=by
  unfold cnt; rw [List.filter_eq_self.2 h]
theorem cnt_split {C:List Nat}{ls:Nat→Bool}{p:Nat}(hp:p≤C.length) (h1 : ∀ q c,q<p→C[q]?=some c→ls c=true) (h2 : ∀ q c,p≤q→C[q]?=some c→ls c=false) : cnt C ls=p:=by
  have e:C.filter ls=(C.take p).filter ls ++ (C.drop p).filter ls:=by rw [← List.filter_append,List.take_append_drop]
  unfold cnt
  rw [e,List.length_append]
  have e1 : (C.take p).filter ls = C.take p := List.filter_eq_self.2 (fun c hc => by
    obtain ⟨q,hq⟩:=List.mem_iff_getElem?.1 hc
    rw [List.getElem?_take] at hq
    split at hq
    · next hlt=>exact h1 q c hlt hq
    · cases hq)
  have e2 : (C.drop p).filter ls = [] := List.filter_eq_nil_iff.2 (fun c hc => by
    obtain ⟨q,hq⟩:=List.mem_iff_getElem?.1 hc
    rw [List.getElem?_drop] at hq
    rw [h2 (p+q) c (by omega) hq]; simp)
  rw [e1,e2]; simp; omega
theorem cnt_ge {l:List Oper} {C:List Nat} {ls:Nat→Bool} {p i:Nat}
    (hlink : ∀ p c c',C[p]?=some c'→C[p+1]?=some c→∃ o,l[c]?=some o∧∃ ed ∈ o.after,Region.binds .any ed=true∧ed.on=c')
    (hcl : ∀ j oj,l.toArray[j]?=some oj→ls j=true→∀ ed ∈ oj.after,Region.binds .any ed=true→ls ed.on=true) (hget : ∀ j:Nat,l.toArray[j]?=l[j]?)
    (hni:ls i=false) (hpi:C[p]?=some i) : ∀ q c,p≤q→C[q]?=some c→ls c=false:=by
  have hdn : ∀ d q c,C[q]?=some c→p+d=q→ls c=false:=by
    intro d
    induction d with
    | zero =>
      intro q c hq hqd
      have:c=i:=by rw [show q=p by omega,hpi] at hq; exact (Option.some.inj hq).symm
      rw [this]; exact hni
    | succ d ih =>
      intro q c hq hqd
      have hl1:p+d<C.length:=by have:=(List.getElem?_eq_some_iff.1 hq).1; omega
      obtain ⟨o2,ho2,ed,he,hb,hon⟩:=hlink (p+d) c (C[p+d]) (List.getElem?_eq_getElem hl1) (by rw [show p+d+1=q by omega]; exact hq)
      have h8:=ih (p+d) _ (List.getElem?_eq_getElem hl1) rfl
      cases hc:ls c with
      | false=>rfl
      | true =>
        have:=hcl c o2 (by rw [hget]; exact ho2) hc ed he hb
        rw [hon,h8] at this
        cases this
  exact fun q c hq hc=>hdn (q - p) q c hc (by omega)
theorem cnt_lt {l:List Oper} {C:List Nat} {ls:Nat→Bool} {p i:Nat} {o:Oper}
    (hlink : ∀ p c c',C[p]?=some c'→C[p+1]?=some c→∃ o,l[c]?=some o∧∃ ed ∈ o.after,Region.binds .any ed=true∧ed.on=c')
    (hcl : ∀ j oj,l.toArray[j]?=some oj→ls j=true→∀ ed ∈ oj.after,Region.binds .any ed=true→ls ed.on=true) (hget : ∀ j:Nat,l.toArray[j]?=l[j]?)
    (hpi:C[p]?=some i) (ho:l[i]?=some o) (hpr : ∀ ed ∈ o.after,Region.binds .any ed=true→ls ed.on=true) : ∀ q c,q<p→C[q]?=some c→ls c=true:=by
  have hup : ∀ d q c,C[q]?=some c→q+d=p→0<d→ls c=true:=by
    intro d
    induction d with
    | zero=>intro q c _ _ h0; omega
    | succ d ih =>
      intro q c hq hqd _
      have hl1:q+1<C.length:=by have:=(List.getElem?_eq_some_iff.1 hpi).1; omega
      obtain ⟨o2,ho2,ed,he,hb,hon⟩:=hlink q (C[q+1]) c hq (List.getElem?_eq_getElem hl1)
      by_cases hd:d=0
      · subst hd
        have:C[q+1]=i:=by
          have h9:C[q+1]?=some i:=by rw [show q+1=p by omega]; exact hpi
          rw [List.getElem?_eq_getElem hl1] at h9
          exact Option.some.inj h9
        rw [this,ho] at ho2
        cases ho2
        have:=hpr ed he hb
        rwa [hon] at this
      · have h8 := ih (q + 1) (C[q + 1]) (List.getElem?_eq_getElem hl1) (by omega) (by omega)
        have:=hcl _ o2 (by rw [hget]; exact ho2) h8 ed he hb
        rwa [hon] at this
  exact fun q c hq hc=>hup (p - q) q c hc (by omega) (by omega)
theorem list_mono1 {l : List Oper} {K1 K2 : Act → World → Prop} {o : Oper} {a : Act} {w : World} (h : wpListIn (Fw r) n P l.toArray (fun x a w => x = .normal ∧ K1 a w) [o] a w) (hk : ∀ a w, K1 a w → K2 a w) : wpListIn (Fw r) n P l.toArray (fun x a w => x = .normal ∧ K2 a w) [o] a w := by
  unfold wpListIn at h ⊢
  split
  · rename_i hw
    rw [if_pos hw] at h
    exact oper_mono2 (fun a' w' hh=>⟨hh.1,hk _ _ hh.2⟩) (fun c a w h=>by cases h.1) (fun a w h=>by cases h.1) h
  · rename_i hw
    rw [if_neg hw] at h
    exact ⟨h.1,h.2.1,hk _ _ h.2.2⟩
theorem c_anyC {id:Nat} {l:List Oper} (hm:P.follows .mixedOrders=true) (M:Nat) (R:World→World→Prop) (hR0 : ∀ w,R w w.drew) (hRt : ∀ a b c,R a b→R b c→R a c) (Φ:List (Value→World→Prop))
    (hΦ:Stable R Φ) (hwf:wfB l=true) (hshape:shapeB l M=true) (hdst:dstB l M=true) (C:List Nat) (hC:chainC l C=true) (hN:nodupB C=true) (hCM:(C.all fun c=>Nat.blt c M)=true) (I:Nat→World→Prop) (hI0:I 0 w0.drew)
    (hstep:HeadC r n P N ds l M R Φ C I e0 w0 0 (l.take M) Φ)
    (hfin : ∀ (e:Nat→Value) (w:World),I C.length w→R w0 w→(∀ t,isDst l M t=false→e t=e0 t)→(∀ j d,Nat.blt j M=true→dstOf l j=some d→phi Φ j (e d) w)→wpListIn (Fw r) n P l.toArray Q (l.drop M) (act N e ds) w) :
    (Code.region id l.toArray true).wpIn (Fw r) n P Q (act N e0 ds) w0:=by
  have hget : ∀ j:Nat,l.toArray[j]?=l[j]?:=fun j=>by rw [List.getElem?_toArray]
  have hnd : ∀ t, isDst l M t = false → ∀ j, j < M → (l.toArray[j]?).bind (·.dst) ≠ some t := by
    intro t ht j hj h
    rw [hget] at h
    cases ho:l[j]? with
    | none=>rw [ho] at h; cases h
    | some o =>
      rw [ho] at h
      simp only [Option.bind_some] at h
      have h1:=List.any_eq_false.1 ht o (List.mem_iff_getElem?.2 ⟨j,by rw [List.getElem?_take,if_pos hj]; exact ho⟩)
      rw [h] at h1
      simp at h1
  have hlink : ∀ p c c',C[p]?=some c'→C[p+1]?=some c→∃ o,l[c]?=some o∧∃ ed ∈ o.after,Region.binds .any ed=true∧ed.on=c':=by
    intro p c c' h1 h2
    have h3:=List.all_eq_true.1 hC (p+1) (List.mem_range.2 (List.getElem?_eq_some_iff.1 h2).1)
    rw [h2] at h3
    simp only [Nat.add_sub_cancel,h1] at h3
    cases ho:l[c]? with
    | none=>rw [ho] at h3; simp at h3
    | some o =>
      rw [ho] at h3
      simp at h3
      obtain ⟨ed,he,hb⟩:=List.any_eq_true.1 h3
      simp only [Bool.and_eq_true] at hb
      exact ⟨o,rfl,ed,by simpa using he,hb.1,Nat.eq_of_beq_eq_true hb.2⟩
  have hdup : ∀ p q c:Nat,C[p]?=some c→C[q]?=some c→p=q:=by
    intro p q c h1 h2
    have h3:=List.all_eq_true.1 (List.all_eq_true.1 hN p (List.mem_range.2 (List.getElem?_eq_some_iff.1 h1).1)) q (List.mem_range.2 (List.getElem?_eq_some_iff.1 h2).1)
    rw [h1,h2] at h3
    simp at h3
    exact h3
  refine c_drawJ hm M R hR0 hRt (phi Φ) (stable_get hΦ) (fun ls w=>I (cnt C ls) w) ?_ ?_ ?_ ?_ ?_ ?_
  · have : cnt C (fun _ => false) = 0 := by unfold cnt; rw [List.filter_eq_nil_iff.2 (by simp)]; rfl
    rw [this]; exact hI0
  · intro i o ho ed he hb
    rw [hget] at ho
    have h1:=List.all_eq_true.1 hwf i (List.mem_range.2 (List.getElem?_eq_some_iff.1 ho).1)
    rw [ho] at h1
    have h2:=List.all_eq_true.1 h1 ed (by simpa using he)
    simp only [hb,Bool.not_true,Bool.false_or] at h2
    rwa [Nat.blt_eq] at h2
  · simp only [shapeB, Bool.or_eq_true, Bool.and_eq_true] at hshape
    rcases hshape with ⟨⟨h1,h2⟩,h3⟩ | h
    · rw [Nat.blt_eq] at h3; exact .inl ⟨h1,h2,by simpa using h3⟩
    · exact .inr (by simpa using Nat.eq_of_beq_eq_true h)
  · intro i j d hi hj hdi hdj
    have h1:=List.all_eq_true.1 (List.all_eq_true.1 hdst i (List.mem_range.2 hi)) j (List.mem_range.2 hj)
    rw [hget] at hdi hdj
    simp only [dstOf,hdi,hdj,Bool.or_eq_true] at h1
    rcases h1 with h1 | h1
    · exact Nat.eq_of_beq_eq_true h1
    · simp at h1
  · intro i o hi ho e w ls hJ hcl hni hpr hR hs hφ
    have ho':=ho
    rw [hget] at ho
    have hk : ∀ p,posOf C i=some p→cnt C ls=p:=by
      intro p hp
      have hpi:=posOf_some hp
      refine cnt_split (Nat.le_of_lt (List.getElem?_eq_some_iff.1 hpi).1) (cnt_lt hlink hcl hget hpi ho hpr) (cnt_ge hlink hcl hget hni hpi)
    have h1:=headC_get (l.take M) Φ 0 hstep i o (by rw [List.getElem?_take,if_pos hi]; exact ho) e w (cnt C ls) hJ (fun p hp=>hk p (by rw [Nat.zero_add] at hp; exact hp)) hR (fun t ht=>hs t (hnd t ht)) (fun j d hp hd=>?_)
    · refine list_mono1 h1 ?_
      rintro _ w' ⟨v,ha,hR',hv,hI'⟩
      refine ⟨v,ha,hR',hv,?_⟩
      rw [Nat.zero_add] at hI'
      cases hp:posOf C i with
      | none=>rw [hp] at hI'; show I (cnt C _) w'; rw [cnt_not (posOf_none hp)]; exact hI'
      | some p =>
        rw [hp] at hI'
        have hkp:=hk p hp
        have hpi:=posOf_some hp
        show I (cnt C _) w'
        have : cnt C (fun j => if j = i then true else ls j) = p + 1 := by
          refine cnt_split (by have:=(List.getElem?_eq_some_iff.1 hpi).1; omega) (fun q c hq hc=>?_) (fun q c hq hc=>?_)
          · by_cases hci : c = i
            · rw [if_pos hci]
            · rw [if_neg hci]
              have hqp:q<p:=by
                rcases Nat.lt_or_ge q p with h | h
                · exact h
                · have : q = p := by omega
                  subst this; rw [hpi] at hc; exact absurd (Option.some.inj hc).symm hci
              exact cnt_lt hlink hcl hget hpi ho hpr q c hqp hc
          · have hci : c ≠ i := fun e => by subst e; have := hdup _ _ _ hc hpi; omega
            rw [if_neg hci]
            exact cnt_ge hlink hcl hget hni hpi q c (by omega) hc
        rw [this]; exact hI'
    · obtain ⟨ed, he, hb⟩ := List.any_eq_true.1 hp
      simp only [Bool.and_eq_true] at hb
      exact hφ j ⟨ed,by simpa using he,hb.1,Nat.eq_of_beq_eq_true hb.2⟩ d (by rw [hget]; exact hd)
  · rintro e w ⟨ls, hall, hJ⟩ hR hs hφ
    have hc:cnt C ls=C.length:=cnt_all (fun c hc=>hall c (by have:=List.all_eq_true.1 hCM c hc; rwa [Nat.blt_eq] at this))
    rw [hc] at hJ
    exact hfin e w hJ hR (fun t ht=>hs t (hnd t ht)) (fun j d hj hd=>hφ j d (by rwa [Nat.blt_eq] at hj) (by rw [hget]; exact hd))
end draws
section scope
variable {P : Program} {F : Fence} {n : Nat} {b : Frame} {a : Act} {k : List Item} {cs : List Frame} {w : World} {Q : Exit → Act → World → Prop}
theorem stepR_scope {c:Code} : step P (lone (b.atR a (.code (.scope c) :: k)) cs w)=.next (lone (b.atR a (.code c :: .inScope c :: k)) cs w):=
  step_lone_go (by simp [stepG,stepG.exec,Frame.atR])
theorem stepR_inScope {c:Code} : step P (lone (b.atR a (.inScope c :: k)) cs w)=.next (lone (b.atR a k) cs w):=
  step_lone_go (by simp [stepG,stepG.exec,Frame.atR])
theorem wpIn_scope {c:Code}(h:c.wpIn F n P (Exit.noGoto Q) a w) : (Code.scope c).wpIn F n P Q a w:=by
  intro b k cs hro hb hr
  have h0:(lone (b.atR a (.code (.scope c) :: k)) cs w).fenced P F:=fenced_calm hb hr rfl
  obtain ⟨e,a₁,w₁,hq,harr⟩:=h b (.inScope c :: k) cs hro hb hr
  cases e with
  | normal=>exact ⟨.normal,a₁,w₁,hq,.head h0 stepR_scope (StepsIn.trans harr (.one (fenced_calm hb hr rfl) stepR_inScope))⟩
  | exit id =>
    exact ⟨.exit id, a₁, w₁, hq, fun k' hk => .head h0 stepR_scope (harr.1 k' (by simp [exitTo, hk])),
      fun hr' hk=>let ⟨k₁,h1,h2⟩:=harr.2 hr' (by simp [exitTo,hk]); ⟨k₁,h1,.head h0 stepR_scope h2⟩⟩
  | goto l=>exact hq.elim
  | ret=>exact ⟨_,a₁,w₁,hq,.of_steps (.one h0 stepR_scope) harr⟩
  | panic ch=>exact ⟨_,a₁,w₁,hq,.of_steps (.one h0 stepR_scope) harr⟩
  | outgrown=>exact ⟨_,a₁,w₁,hq,.of_steps (.one h0 stepR_scope) harr⟩
theorem r_scope (h:Q .ret a w) : Exit.noGoto Q .ret a w:=h
theorem n_scope (h:Q .normal a w) : Exit.noGoto Q .normal a w:=h
end scope
section conv
variable {P : Program} {r : Option Nat} {n N : Nat} {e : Nat → Value} {ds : List Deferred} {w : World} {Q : Exit → Act → World → Prop} {K : Act → World → Prop}
variable {d ty : Nat} {pos : String} {af : Array Edge} {g : Option (Nat × Bool)} {v u : Value} {x y : Operand} {t t' : TypeId}
theorem push_all : ∀ (l : List UInt8) (s : ByteArray), (l.map (fun b => ((b.toNat : Nat) : Int))).foldl (fun r n => r.push (UInt8.ofNat n.toNat)) s = ⟨(s.data.toList ++ l).toArray⟩
  | [],s=>by simp
  | b :: l, s => by
    simp only [List.map_cons,List.foldl_cons]
    rw [push_all l]
    congr 1
    simp [ByteArray.push]
theorem k_b2s {src dst el m c lo:Nat} {A:Option Addr} {l:List UInt8} (hs:P.underlying src=some (.slice el)) (he:P.underlying el=some (.int .u8)) (hd:P.underlying dst=some .string)
    (hx:ev N e x=.slice A m c) (hr:Rw w lo A (l.map fun b=>Value.int .u8 b.toNat)) (hm:l.length=m) (hk:K (act N (upd e d (S l)) ds) w) :
    Oper.wpIn (Fw r) n P ⟨some d,.convert src dst x,ty,pos,af,g⟩ (act N e ds) w K Q:=by
  refine k_val (v:=S l) (w':=w) rfl ?_ (by rw [act_put]; exact hk)
  have key:(convert src dst (.slice A m c)).run P w=.ok (S l) w:=by
    rw [run_convert_bytes_string w src dst el A m c hs he hd]
    cases A with
    | none =>
      have:l=[]:=by
        cases l with
        | nil=>rfl
        | cons b t =>
          obtain ⟨_,_,h,_⟩:=hr.cells 0 _ rfl
          cases h
      subst this
      simp [Conv.bytesToString,S]; rfl
    | some a =>
      have hl : (loadCells a m).run P w = .ok ((l.map (fun b => ((b.toNat : Nat) : Int))).map (Value.int .u8)).toArray w := by
        by_cases h0:l=[]
        · subst h0; simp at hm; subst hm; simp [loadCells,loadCellsFrom]
        · have hlt : 0 < l.length := List.length_pos_iff.2 h0
          obtain ⟨b,o,hA,_⟩:=hr.cells 0 _ (by rw [List.getElem?_map,List.getElem?_eq_getElem hlt]; rfl)
          cases hA
          have h9 := run_loadCells_list (P := P) (w := w) ⟨b, o, none⟩ (l.map fun b => Value.int .u8 b.toNat) (fun j v hv => by
            obtain ⟨_,_,hA',hc⟩:=hr.cells j v hv
            cases hA'
            rw [Addr.add_mid]; exact hc)
          rw [List.length_map,hm] at h9
          rw [h9,List.map_map]; rfl
      rw [run_bytesToString w a m c _ hl,push_all]
      rfl
  simp [execOp,hx,key]
theorem k_quoT {a b c:Int}(hx:ev N e x=.int .i64 a)(hy:ev N e y=.int .i64 b)(h1:b≠0)(hc:a.tdiv b=c)(hr:In64 c)(hk:K (act N (upd e d (.int .i64 c)) ds) w) :
    Oper.wpIn (Fw r) n P ⟨some d,.binOp .quo t x y t',ty,pos,af,g⟩ (act N e ds) w K Q:=
  k_bin hx hy (guard_int ..) (by subst hc; simp [binOp,Op.intDiv,h1,wrap_in hr]) hk
theorem k_remT {a b c:Int}(hx:ev N e x=.int .i64 a)(hy:ev N e y=.int .i64 b)(h1:b≠0)(hc:a.tmod b=c)(hk:K (act N (upd e d (.int .i64 c)) ds) w) :
    Oper.wpIn (Fw r) n P ⟨some d,.binOp .rem t x y t',ty,pos,af,g⟩ (act N e ds) w K Q:=
  k_bin hx hy (guard_int ..) (by subst hc; simp [binOp,Op.intDiv,h1]) hk
theorem res4 {fn:Func}{tmps:Array Value}{r1 r2 r3 r4:ResultVar}{v1 v2 v3 v4:Value}(h:fn.results=#[r1,r2,r3,r4])(h1:(resRun tmps r1).run P w=.ok v1 w)(h2:(resRun tmps r2).run P w=.ok v2 w)(h3:(resRun tmps r3).run P w=.ok v3 w)(h4:(resRun tmps r4).run P w=.ok v4 w) :
    (results fn tmps).run P w=.ok (.tuple #[v1,v2,v3,v4]) w:=by
  rw [results_eq,h]; simp [h1,h2,h3,h4]
theorem f_ret4 {fn:Func}{R:Value→World→Prop}{N t u s q:Nat}{e:Nat→Value}{w w' : World}{v1 v2 v3 v4:Value}(hres:fn.results=#[.tmp t,.tmp u,.tmp s,.tmp q])(hx:Ext w w')(hR:R (.tuple #[v1,v2,v3,v4]) w')(h1:ev N e (.tmp t)=v1)(h2:ev N e (.tmp u)=v2)(h3:ev N e (.tmp s)=v3)(h4:ev N e (.tmp q)=v4) : bodyPost P fn (Ret w R) .ret (act N e []) w':=
  f_out (res4 hres (res_tmp h1 w') (res_tmp h2 w') (res_tmp h3 w') (res_tmp h4 w')) hx hR
theorem k_arrAddr {el m : Nat} {b o i s oo : Nat} {k : IntKind} (hu : P.underlying t = some (.array m el)) (hs : (P.info? el).map (·.size) = some s)
    (hx:ev N e x=.pointer (some ⟨b,o,none⟩)) (hy:ev N e y=.int k (i:Int)) (hlt:i<m) (hoo:o+i*s=oo)
    (hk:K (act N (upd e d (.pointer (some ⟨b,oo,none⟩))) ds) w) : Oper.wpIn (Fw r) n P ⟨some d,.indexAddr t x y,ty,pos,af,g⟩ (act N e ds) w K Q:=by
  refine k_val (v:=.pointer (some ⟨b,oo,none⟩)) (w':=w) rfl ?_ (by rw [act_put]; exact hk)
  subst hoo
  cases hi:P.info? el with
  | none=>simp [hi] at hs
  | some inf =>
    have hs' : inf.size=s:=by simpa [hi] using hs
    subst hs'
    simp [execOp,hx,hy,Instr.indexAt,run_underlying hu,asIntOf,hlt,sizeOf,typeInfo,hi,Addr.add_mid,Instr.sureAddr]
end conv
def setB (ls:Nat→Bool)(i:Nat) : Nat→Bool:=fun j=>match Nat.beq j i with | true=>true | false=>ls j
def updO (e:Nat→Value) : Option Nat→Value→Nat→Value
  | some d,v=>upd e d v
  | none,_=>e
section draws
variable {P : Program} {r : Option Nat} {n N : Nat} {e0 : Nat → Value} {ds : List Deferred} {w0 : World} {Q : Exit → Act → World → Prop} {ops : Array Oper} {M : Nat}
theorem c_state {id : Nat} {l : List Oper} (hm : P.follows .mixedOrders = true) (M : Nat) (J : (Nat → Bool) → (Nat → Value) → World → Prop) (hJ0 : J (fun _ => false) e0 w0.drew)
    (hwf : ∀ (i:Nat) (o:Oper),l.toArray[i]?=some o→∀ e ∈ o.after,Region.binds .any e=true→e.on<i)
    (hshape:Region.sinkB .any l.toArray M=true∧Region.chainB .any l.toArray M=true∧M<l.toArray.size ∨ M=l.toArray.size)
    (hstep : ∀ (i:Nat) (o:Oper),i<M→l.toArray[i]?=some o→∀ (e:Nat→Value) (w:World) (ls:Nat→Bool),J ls e w→(∀ j oj,l.toArray[j]?=some oj→ls j=true→∀ ed ∈ oj.after,Region.binds .any ed=true→ls ed.on=true)→ls i=false→(∀ ed ∈ o.after,Region.binds .any ed=true→ls ed.on=true) →
      wpListIn (Fw r) n P l.toArray (fun x a' w'=>x=.normal∧∃ v,a'=(act N e ds).put o.dst v∧J (setB ls i) (updO e o.dst v) w') [o] (act N e ds) w)
    (hfin : ∀ (e:Nat→Value) (w:World) (ls:Nat→Bool),(∀ j,j<M→ls j=true)→J ls e w→wpListIn (Fw r) n P l.toArray Q (l.drop M) (act N e ds) w) :
    (Code.region id l.toArray true).wpIn (Fw r) n P Q (act N e0 ds) w0:=by
  have hMle:M≤l.toArray.size:=by rcases hshape with ⟨_,_,h⟩ | h <;> omega
  have hchain:Region.chainB .any l.toArray M=true:=by
    rcases hshape with ⟨_,h,_⟩ | h
    · exact h
    · refine List.all_eq_true.2 fun t ht => ?_
      have:=List.mem_range.1 ht
      simp only [Bool.or_eq_true,decide_eq_true_eq]
      left; omega
  refine wpIn_region_any hm ?_
  have main : ∀ (fuel : Nat) (listed : Array Bool) (e : Nat → Value) (w : World), left l.toArray listed ≤ fuel → HeadInv .any l.toArray M listed → J (fun j => listed.getD j false) e w →
      wpAnyIn (Fw r) n P .any l.toArray Q fuel listed (act N e ds) w:=by
    intro fuel
    induction fuel with
    | zero =>
      intro listed e w hf inv hJ
      have hall : ∀ i,i<l.toArray.size→listed.getD i false=true:=by
        intro i hi
        cases hb:listed.getD i false with
        | true=>rfl
        | false =>
          have:=left_set hi inv.size hb
          omega
      refine tail_run hchain hwf 0 l.toArray.size listed _ w 0 rfl hMle inv.size hall (fun i h1 h2=>by omega) (Nat.le_refl _) ?_
      by_cases hM:M=l.toArray.size
      · have h := hfin e w _ (fun j hj => hall j (by omega)) hJ
        rw [hM] at h
        simpa using h
      · have h1 := inv.tail M (Nat.le_refl _) (by omega)
        have h2:=hall M (by omega)
        rw [getD_both h1] at h2
        cases h2
    | succ fuel ih =>
      intro listed e w hf inv hJ
      by_cases hdone : ∀ i,i<M→listed.getD i false=true
      · refine tail_run hchain hwf (l.toArray.size - M) M listed _ w (fuel + 1) (by omega) (Nat.le_refl _) inv.size hdone (fun i h1 h2 => inv.tail i h1 h2) ?_ ?_
        · have h1 : l.toArray.size - M ≤ left l.toArray listed := left_tail hMle (fun i h1 h2 => getD_both (inv.tail i h1 h2))
          omega
        · simpa using hfin e w _ (fun j hj=>hdone j hj) hJ
      · have hex : ∃ i, i < M ∧ listed.getD i false = false := by
          refine Classical.byContradiction fun hn=>hdone fun i hi=>?_
          cases hb:listed.getD i false with
          | true=>rfl
          | false=>exact absurd ⟨i,hi,hb⟩ hn
        obtain ⟨i0,hi0,hb0⟩:=hex
        have hin : ∀ i ∈ Region.ready .any l.toArray listed,i<M:=by
          intro i hi
          rcases Nat.lt_or_ge i M with h | h
          · exact h
          · rcases hshape with ⟨h1, h2, h3⟩ | h3
            · exact absurd hi (tail_waits h1 h2 h3 inv _ i0 rfl hi0 (getD_in (by rw [inv.size]; omega) hb0) i h)
            · obtain ⟨_, o, ho, _⟩ := mem_ready.1 hi
              have:=(Array.getElem?_eq_some_iff.1 ho).1
              omega
        refine ⟨fun h0=>?_,fun i hi=>?_⟩
        ·
          exfalso
          have least : ∀ k i,i≤k→i<l.toArray.size→listed.getD i false=false→∃ j,j ∈ Region.ready .any l.toArray listed:=by
            intro k
            induction k with
            | zero =>
              intro i hi hl hb
              obtain rfl:i=0:=by omega
              refine ⟨0,mem_ready.2 ⟨getD_in (by rw [inv.size]; exact hl) hb,l.toArray[0],Array.getElem?_eq_getElem hl,fun ed he hbb=>?_⟩⟩
              have:=hwf 0 _ (Array.getElem?_eq_getElem hl) ed he hbb
              omega
            | succ k ihk =>
              intro i hi hl hb
              by_cases hp : ∀ ed ∈ (l.toArray[i]).after,Region.binds .any ed=true→listed.getD ed.on false=true
              · exact ⟨i,mem_ready.2 ⟨getD_in (by rw [inv.size]; exact hl) hb,l.toArray[i],Array.getElem?_eq_getElem hl,hp⟩⟩
              · have : ∃ ed ∈ (l.toArray[i]).after, Region.binds .any ed = true ∧ listed.getD ed.on false = false := by
                  refine Classical.byContradiction fun hn=>hp fun ed he hbb=>?_
                  cases hb:listed.getD ed.on false with
                  | true=>rfl
                  | false=>exact absurd ⟨ed,he,hbb,hb⟩ hn
                obtain ⟨ed,he,hbb,hun⟩:=this
                have hlt:=hwf i _ (Array.getElem?_eq_getElem hl) ed he hbb
                exact ihk ed.on (by omega) (by omega) hun
          obtain ⟨j,hj⟩:=least i0 i0 (Nat.le_refl _) (by omega) hb0
          rw [h0] at hj
          cases hj
        · have hiM := hin i hi
          obtain ⟨hun,o,ho,hpred⟩:=mem_ready.1 hi
          have hst:=hstep i o hiM ho e w (fun j=>listed.getD j false) hJ (fun j oj hj hl=>inv.closed j oj hj hl) (getD_both hun) hpred
          have hnext : ∀ a' w', (∃ v, a' = (act N e ds).put o.dst v ∧ J (setB (fun j => listed.getD j false) i) (updO e o.dst v) w') → wpAnyIn (Fw r) n P .any l.toArray Q fuel (listed.setIfInBounds i true) a' w' := by
            rintro a' w' ⟨v,rfl,hJ'⟩
            have hil:i<l.toArray.size:=by omega
            have hJ2 : J (fun j => (listed.setIfInBounds i true).getD j false) (updO e o.dst v) w' := by
              have e' : (fun j => (listed.setIfInBounds i true).getD j false) = setB (fun j => listed.getD j false) i := by
                funext j
                by_cases hj:j=i
                · subst hj; unfold setB; simp; have:=inv.size; simp [this]; omega
                · have hb : Nat.beq j i = false := by
                    cases hb:Nat.beq j i with
                    | false=>rfl
                    | true=>exact absurd (Nat.eq_of_beq_eq_true hb) hj
                  unfold setB; rw [hb]; simp only; rw [getD_set_ne false (fun h=>hj h.symm)]
              rw [e']; exact hJ'
            have hlf:left l.toArray (listed.setIfInBounds i true)≤fuel:=by
              have:=left_set hil inv.size (getD_both hun)
              omega
            cases hd:o.dst with
            | none =>
              rw [hd] at hJ2
              exact ih _ e w' hlf (inv.set hi hiM) hJ2
            | some d0 =>
              rw [hd] at hJ2
              rw [act_put]
              exact ih _ _ w' hlf (inv.set hi hiM) hJ2
          unfold wpOpIn
          rw [ho]
          dsimp only
          unfold wpListIn at hst
          split
          · rename_i hw
            rw [if_pos hw] at hst
            exact oper_mono2 (fun a' w' hh=>hnext a' w' hh.2) (fun c a w h=>by cases h.1) (fun a w h=>by cases h.1) hst
          · rename_i hw
            rw [if_neg hw] at hst
            exact ⟨hst.1,hnext _ _ hst.2.2⟩
  refine main _ _ e0 w0.drew ?_ ⟨by simp,fun j oj hj hl=>?_,fun t h1 h2=>?_⟩ ((congrArg (fun f=>J f e0 w0.drew) (funext fun j=>getD_replicate_false _ j)).mpr hJ0)
  · unfold left
    exact Nat.le_trans (List.length_filter_le _ _) (by simp)
  · rw [getD_replicate_false] at hl; cases hl
  · have h3 : t < l.length := by simpa using h2
    simp [h3]
def predAt (l:List Oper)(j k:Nat) : Bool:=match l[j]? with | some o=>predB o k | none=>false
def StepsS (r:Option Nat)(n:Nat) (P:Program) (N:Nat)(ds:List Deferred)(l:List Oper) (J:(Nat→Bool)→(Nat→Value)→World→Prop) : Nat→List Oper→Prop
  | _,[]=>True
  | i, o :: os => (∀ (e : Nat → Value) (w : World) (ls : Nat → Bool), J ls e w → (∀ j k, predAt l j k = true → ls j = true → ls k = true) → ls i = false → (∀ k, predAt l i k = true → ls k = true) →
      wpListIn (Fw r) n P l.toArray (fun x a' w'=>x=.normal∧∃ v,a'=(act N e ds).put o.dst v∧J (setB ls i) (updO e o.dst v) w') [o] (act N e ds) w)∧StepsS r n P N ds l J (i+1) os
theorem stepsS_get {l:List Oper}{J:(Nat→Bool)→(Nat→Value)→World→Prop} : ∀ (os:List Oper) (i0:Nat),StepsS r n P N ds l J i0 os→∀ i o,os[i]?=some o →
    (∀ (e:Nat→Value) (w:World) (ls:Nat→Bool),J ls e w→(∀ j k,predAt l j k=true→ls j=true→ls k=true)→ls (i0+i)=false→(∀ k,predAt l (i0+i) k=true→ls k=true) →
      wpListIn (Fw r) n P l.toArray (fun x a' w'=>x=.normal∧∃ v,a'=(act N e ds).put o.dst v∧J (setB ls (i0+i)) (updO e o.dst v) w') [o] (act N e ds) w)
  | [],_,_,i,o,h=>by simp at h
  | o' :: os,i0,h,0,o,ho=>by simp at ho; subst ho; exact h.1
  | o' :: os, i0, h, i + 1, o, ho => by
    have:=stepsS_get os (i0+1) h.2 i o (by simpa using ho)
    rwa [show i0+1+i=i0+(i+1) by omega] at this
theorem pred_iff {l:List Oper}{j k:Nat}{o:Oper}(ho:l[j]?=some o) : predAt l j k=true ↔ ∃ ed ∈ o.after,Region.binds .any ed=true∧ed.on=k:=by
  unfold predAt predB
  rw [ho]
  simp only [List.any_eq_true,Bool.and_eq_true]
  constructor
  · rintro ⟨ed,h1,h2,h3⟩; exact ⟨ed,by simpa using h1,h2,Nat.eq_of_beq_eq_true h3⟩
  · rintro ⟨ed,h1,h2,h3⟩; exact ⟨ed,by simpa using h1,h2,by subst h3; simp⟩
theorem c_st {id : Nat} {l : List Oper} (hm : P.follows .mixedOrders = true) (M : Nat) (J : (Nat → Bool) → (Nat → Value) → World → Prop) (hJ0 : J (fun _ => false) e0 w0.drew)
    (hwf:wfB l=true) (hshape:shapeB l M=true) (hstep:StepsS r n P N ds l J 0 (l.take M))
    (hfin : ∀ (e:Nat→Value) (w:World) (ls:Nat→Bool),(∀ j,Nat.blt j M=true→ls j=true)→J ls e w→wpListIn (Fw r) n P l.toArray Q (l.drop M) (act N e ds) w) :
    (Code.region id l.toArray true).wpIn (Fw r) n P Q (act N e0 ds) w0:=by
  have hget : ∀ j:Nat,l.toArray[j]?=l[j]?:=fun j=>by rw [List.getElem?_toArray]
  refine c_state hm M J hJ0 ?_ ?_ ?_ (fun e w ls h1 h2=>hfin e w ls (fun j hj=>h1 j (by rwa [Nat.blt_eq] at hj)) h2)
  · intro i o ho ed he hb
    rw [hget] at ho
    have h1:=List.all_eq_true.1 hwf i (List.mem_range.2 (List.getElem?_eq_some_iff.1 ho).1)
    rw [ho] at h1
    have h2:=List.all_eq_true.1 h1 ed (by simpa using he)
    simp only [hb,Bool.not_true,Bool.false_or] at h2
    rwa [Nat.blt_eq] at h2
  · simp only [shapeB, Bool.or_eq_true, Bool.and_eq_true] at hshape
    rcases hshape with ⟨⟨h1,h2⟩,h3⟩ | h
    · rw [Nat.blt_eq] at h3; exact .inl ⟨h1,h2,by simpa using h3⟩
    · exact .inr (by simpa using Nat.eq_of_beq_eq_true h)
  · intro i o hi ho e w ls hJ hcl hni hpr
    rw [hget] at ho
    have h1:=stepsS_get (l.take M) 0 hstep i o (by rw [List.getElem?_take,if_pos hi]; exact ho)
    simp only [Nat.zero_add] at h1
    refine h1 e w ls hJ (fun j k hp hl=>?_) hni (fun k hp=>?_)
    · cases hj : l[j]? with
      | none=>unfold predAt at hp; rw [hj] at hp; cases hp
      | some oj =>
        obtain ⟨ed,he,hb,rfl⟩:=(pred_iff hj).1 hp
        exact hcl j oj (by rw [hget]; exact hj) hl ed he hb
    · obtain ⟨ed, he, hb, rfl⟩ := (pred_iff ho).1 hp
      exact hpr ed he hb
theorem c_st2 {id : Nat} {l : List Oper} (hm : P.follows .mixedOrders = true) (M : Nat) (J : (Nat → Value) → (Nat → Bool) → (Nat → Value) → World → Prop) (hJ0 : J e0 (fun _ => false) e0 w0.drew)
    (hwf:wfB l=true) (hshape:shapeB l M=true) (hstep:StepsS r n P N ds l (J e0) 0 (l.take M))
    (hfin : ∀ (e:Nat→Value) (w:World) (ls:Nat→Bool),(∀ j,Nat.blt j M=true→ls j=true)→J e0 ls e w→wpListIn (Fw r) n P l.toArray Q (l.drop M) (act N e ds) w) :
    (Code.region id l.toArray true).wpIn (Fw r) n P Q (act N e0 ds) w0:=c_st hm M (J e0) hJ0 hwf hshape hstep hfin
theorem unl {l:List Oper}{ls:Nat→Bool}{i j:Nat}(hcl : ∀ j k,predAt l j k=true→ls j=true→ls k=true)(hp:predAt l j i=true)(h:ls i=false) : ls j=false:=by
  cases hj:ls j with
  | false=>rfl
  | true=>have:=hcl j i hp hj; rw [h] at this; cases this
theorem ff {b:Bool}{p:Prop}(h:b=false)(hb:b=true) : p:=by rw [h] at hb; cases hb
theorem tf {b:Bool}{p:Prop}(h:b=true)(hb:b=false) : p:=by rw [h] at hb; cases hb
end draws
end Go.Eng
