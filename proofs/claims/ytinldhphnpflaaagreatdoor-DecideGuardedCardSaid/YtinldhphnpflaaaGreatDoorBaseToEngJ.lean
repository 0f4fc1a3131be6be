/- Part of the proof of a statement about decisions. -/
import Derived.Test.YtinldhphnpflaaaGreatDoorLib9ToEng
import Derived.Test.YtinldhphnpflaaaGreatDoorProg
import Derived.KernelRfl
import Derived.Scope
import Derived.Laws.BytesString
set_option linter.all false
namespace Go.Proofs.YtinldhphnpflaaaGreatDoor
open Go Go.Eng Go.RowKit
theorem inf3:Inf Tryz.prog 3 (.int .i64 0) 1 8:=by unfold Inf;kernel_rfl
theorem inf4:Inf Tryz.prog 4 (.bool false) 1 1:=by unfold Inf;kernel_rfl
theorem inf5:Inf Tryz.prog 5 (.int .u8 0) 1 1:=by unfold Inf;kernel_rfl
theorem inf25:Inf Tryz.prog 23 (.nilFunc) 1 8:=by unfold Inf;kernel_rfl
theorem inf32:Inf Tryz.prog 33 (.int .i64 0) 1 8:=by unfold Inf;kernel_rfl
theorem inf36:Inf Tryz.prog 25 (.agg #[S ([]),S ([])]) 2 32:=by unfold Inf;kernel_rfl
theorem inf123:Inf Tryz.prog 90 (.slice none 0 0) 1 24:=by unfold Inf;kernel_rfl
theorem inf125:Inf Tryz.prog 92 (.agg #[.bool false,.slice none 0 0]) 2 32:=by unfold Inf;kernel_rfl
theorem inf150:Inf Tryz.prog 140 (.nilFunc) 1 8:=by unfold Inf;kernel_rfl
theorem inf157:Inf Tryz.prog 123 (.agg #[.pointer none,.slice none 0 0]) 2 32:=by unfold Inf;kernel_rfl
theorem inf235:Inf Tryz.prog 53 (.agg #[.bool false]) 1 1:=by unfold Inf;kernel_rfl
theorem inf1032:Inf Tryz.prog 37 (.agg #[S ([]),S ([]),S ([]),S ([])]) 4 64:=by unfold Inf;kernel_rfl
theorem inf1040:Inf Tryz.prog 67 (.nilFunc) 1 8:=by unfold Inf;kernel_rfl
theorem inf1052:Inf Tryz.prog 62 (.agg #[S ([]),S ([]),S ([]),S ([]),S ([]),S ([]),S ([]),S ([]),.nilFunc]) 9 136:=by unfold Inf;kernel_rfl
theorem inf1054:Inf Tryz.prog 65 (.agg #[.int .i64 0,S ([])]) 2 24:=by unfold Inf;kernel_rfl
theorem inf1056:Inf Tryz.prog 101 (.agg #[S ([]),S ([])]) 2 32:=by unfold Inf;kernel_rfl
theorem inf1077:Inf Tryz.prog 183 (.nilFunc) 1 8:=by unfold Inf;kernel_rfl
theorem inf1136:Inf Tryz.prog 201 (.nilFunc) 1 8:=by unfold Inf;kernel_rfl
theorem inf2027:Inf Tryz.prog 27 (.agg #[.int .i64 0,S ([]),S ([]),S ([]),S ([]),S ([]),S ([]),S ([]),S ([])]) 9 136:=by unfold Inf;kernel_rfl
theorem inf2059:Inf Tryz.prog 78 (.agg #[.bool false,S ([]),S ([]),S ([]),S ([]),S ([]),S ([])]) 7 104:=by unfold Inf;kernel_rfl
theorem inf2115:Inf Tryz.prog 107 (.nilFunc) 1 8:=by unfold Inf;kernel_rfl
theorem inf2116:Inf Tryz.prog 108 (.agg #[.nilFunc,.nilFunc]) 2 16:=by unfold Inf;kernel_rfl
theorem inf2117:Inf Tryz.prog 109 (.agg #[.nilFunc,.nilFunc,.nilFunc,.nilFunc,.nilFunc,.nilFunc,.nilFunc,.nilFunc]) 8 64:=by unfold Inf;kernel_rfl
theorem inf2141:Inf Tryz.prog 151 (.agg #[.int .i64 0,.nilFunc]) 2 16:=by unfold Inf;kernel_rfl
theorem sz3:(Tryz.prog.info? 3).map (·.size)=some 1:=by kernel_rfl
theorem sz4:(Tryz.prog.info? 4).map (·.size)=some 1:=by kernel_rfl
theorem sz9:(Tryz.prog.info? 9).map (·.size)=some 1:=by kernel_rfl
theorem sz32:(Tryz.prog.info? 33).map (·.size)=some 1:=by kernel_rfl
theorem sz36:(Tryz.prog.info? 25).map (·.size)=some 2:=by kernel_rfl
theorem sz123:(Tryz.prog.info? 90).map (·.size)=some 1:=by kernel_rfl
theorem sz125:(Tryz.prog.info? 92).map (·.size)=some 2:=by kernel_rfl
theorem sz150:(Tryz.prog.info? 140).map (·.size)=some 1:=by kernel_rfl
theorem sz1032:(Tryz.prog.info? 37).map (·.size)=some 4:=by kernel_rfl
theorem sz1040:(Tryz.prog.info? 67).map (·.size)=some 1:=by kernel_rfl
theorem sz1050:(Tryz.prog.info? 60).map (·.size)=some 1:=by kernel_rfl
theorem sz1052:(Tryz.prog.info? 62).map (·.size)=some 9:=by kernel_rfl
theorem sz1054:(Tryz.prog.info? 65).map (·.size)=some 2:=by kernel_rfl
theorem sz1056:(Tryz.prog.info? 101).map (·.size)=some 2:=by kernel_rfl
theorem sz1077:(Tryz.prog.info? 183).map (·.size)=some 1:=by kernel_rfl
theorem sz1136:(Tryz.prog.info? 201).map (·.size)=some 1:=by kernel_rfl
theorem sz2022:(Tryz.prog.info? 22).map (·.size)=some 7:=by kernel_rfl
theorem sz2027:(Tryz.prog.info? 27).map (·.size)=some 9:=by kernel_rfl
theorem sz2029:(Tryz.prog.info? 29).map (·.size)=some 13:=by kernel_rfl
theorem sz2059:(Tryz.prog.info? 78).map (·.size)=some 7:=by kernel_rfl
theorem sz2115:(Tryz.prog.info? 107).map (·.size)=some 1:=by kernel_rfl
theorem sz2116:(Tryz.prog.info? 108).map (·.size)=some 2:=by kernel_rfl
theorem sz2117:(Tryz.prog.info? 109).map (·.size)=some 8:=by kernel_rfl
theorem sz2141:(Tryz.prog.info? 151).map (·.size)=some 2:=by kernel_rfl
theorem sz2181:(Tryz.prog.info? 180).map (·.size)=some 1:=by kernel_rfl
def U3:=Tryz.underlying3
def U4:=Tryz.underlying4
def U5:=Tryz.underlying5
def U9:=Tryz.underlying9
def U23:=Tryz.underlying87
def U24:=Tryz.underlying89
def U32:=Tryz.underlying33
def U36:=Tryz.underlying25
def U112:=Tryz.underlying132
def U123:=Tryz.underlying90
def U125:=Tryz.underlying92
def U144:=Tryz.underlying121
def U235:=Tryz.underlying53
def U1032:=Tryz.underlying37
def U1052:=Tryz.underlying62
def U1054:=Tryz.underlying65
def U1056:=Tryz.underlying101
def U1116:=Tryz.underlying205
def U2022:=Tryz.underlying22
def U2027:=Tryz.underlying27
def U2029:=Tryz.underlying29
def U2059:=Tryz.underlying78
def U2116:=Tryz.underlying108
def U2117:=Tryz.underlying109
def U2141:=Tryz.underlying151
theorem enM {f : FuncId}{fn : Func}(hf : Tryz.prog.funcs[f]? = some fn)(hn : (fn.name == "runtime.NumGoroutine") = false := by kernel_rfl)(hb : fn.body.isNone = false := by kernel_rfl) : Enters Tryz.prog f := enters_mk hf hn hb
def en32:=enM Tryz.func21
def en33:=enM Tryz.func23
def en49:=enM Tryz.func12
def en71:=enM Tryz.func22
def en72:=enM Tryz.func51
def en73:=enM Tryz.func52
def en74:=enM Tryz.func55
def en75:=enM Tryz.func56
def en80:=enM Tryz.func53
def en81:=enM Tryz.func78
def en82:=enM Tryz.func41
def en83:=enM Tryz.func42
def en84:=enM Tryz.func34
def en85:=enM Tryz.func80
def en86:=enM Tryz.func77
def en90:=enM Tryz.func151
def en94:=enM Tryz.func54
def en95:=enM Tryz.func76
def en96:=enM Tryz.func79
def en97:=enM Tryz.func81
def en98:=enM Tryz.func82
def en99:=enM Tryz.func84
def en100:=enM Tryz.func85
def en101:=enM Tryz.func83
def en102:=enM Tryz.func67
def en103:=enM Tryz.func59
def en104:=enM Tryz.func61
def en105:=enM Tryz.func70
def en106:=enM Tryz.func71
def en107:=enM Tryz.func72
def en108:=enM Tryz.func73
def en109:=enM Tryz.func63
def en110:=enM Tryz.func66
def en111:=enM Tryz.func125
def en112:=enM Tryz.func126
def en113:=enM Tryz.func127
def en114:=enM Tryz.func124
def en116:=enM Tryz.func185
def en119:=enM Tryz.func128
def en120:=enM Tryz.func88
def en121:=enM Tryz.func89
def en122:=enM Tryz.func90
def en123:=enM Tryz.func105
def en124:=enM Tryz.func106
def en125:=enM Tryz.func107
def en126:=enM Tryz.func108
def en127:=enM Tryz.func109
def en128:=enM Tryz.func110
def en129:=enM Tryz.func111
def en130:=enM Tryz.func112
def en131:=enM Tryz.func91
def en132:=enM Tryz.func65
def en133:=enM Tryz.func92
def en134:=enM Tryz.func93
def en135:=enM Tryz.func99
def en136:=enM Tryz.func94
def en137:=enM Tryz.func129
def en138:=enM Tryz.func130
def en139:=enM Tryz.func131
def en140:=enM Tryz.func150
def en142:=enM Tryz.func96
def en146:=enM Tryz.func139
def en158:=enM Tryz.func137
def en217:=enM Tryz.func11
def en218:=enM Tryz.func164
def en219:=enM Tryz.func8
def en220:=enM Tryz.func9
def en221:=enM Tryz.func27
def en222:=enM Tryz.func40
def en223:=enM Tryz.func24
def en224:=enM Tryz.func25
def en225:=enM Tryz.func26
def en226:=enM Tryz.func28
def en227:=enM Tryz.func57
def en228:=enM Tryz.func62
def en229:=enM Tryz.func58
def en230:=enM Tryz.func60
def en231:=enM Tryz.func86
def en232:=enM Tryz.func87
def en1015:=enM Tryz.func10
def en1017:=enM Tryz.func155
def en1019:=enM Tryz.func32
def en1025:=enM Tryz.func166
def en1026:=enM Tryz.func29
def en1028:=enM Tryz.func100
def en1029:=enM Tryz.func146
def en1030:=enM Tryz.func179
def en1031:=enM Tryz.func147
def en1032:=enM Tryz.func69
def en1033:=enM Tryz.func186
def en1035:=enM Tryz.func31
def en1038:=enM Tryz.func35
def en1042:=enM Tryz.func30
def en1043:=enM Tryz.func33
def en1044:=enM Tryz.func36
def en1045:=enM Tryz.func37
def en1046:=enM Tryz.func38
def en1047:=enM Tryz.func39
def en1048:=enM Tryz.func208
def en1049:=enM Tryz.func209
def en1051:=enM Tryz.func68
def en1053:=enM Tryz.func161
def en1055:=enM Tryz.func163
def en1056:=enM Tryz.func44
def en1057:=enM Tryz.func15
def en1067:=enM Tryz.func182
def en1068:=enM Tryz.func140
def en1069:=enM Tryz.func104
def en1070:=enM Tryz.func145
def en1071:=enM Tryz.func142
def en1072:=enM Tryz.func143
def en1073:=enM Tryz.func183
def en1074:=enM Tryz.func141
def en1078:=enM Tryz.func103
def en1086:=enM Tryz.func64
def en1088:=enM Tryz.func224
def en1089:=enM Tryz.func194
def en1090:=enM Tryz.func159
def en1091:=enM Tryz.func160
def en1092:=enM Tryz.func225
def en1093:=enM Tryz.func226
def en1094:=enM Tryz.func101
def en1095:=enM Tryz.func102
def en1097:=enM Tryz.func189
def en1099:=enM Tryz.func191
def en1100:=enM Tryz.func192
def en1101:=enM Tryz.func193
def en1103:=enM Tryz.func148
def en1104:=enM Tryz.func149
def en1112:=enM Tryz.func180
def en1113:=enM Tryz.func181
def en1129:=enM Tryz.func188
def en1130:=enM Tryz.func235
def en1131:=enM Tryz.func236
def en1132:=enM Tryz.func144
def en1135:=enM Tryz.func212
def en1136:=enM Tryz.func184
def en2008:=enM Tryz.func4
def en2009:=enM Tryz.func5
def en2010:=enM Tryz.func6
def en2011:=enM Tryz.func14
def en2012:=enM Tryz.func19
def en2018:=enM Tryz.func17
def en2020:=enM Tryz.func13
def en2024:=enM Tryz.func18
def en2029:=enM Tryz.func45
def en2030:=enM Tryz.func46
def en2031:=enM Tryz.func47
def en2032:=enM Tryz.func50
def en2044:=enM Tryz.func120
def en2045:=enM Tryz.func43
def en2059:=enM Tryz.func75
def en2080:=enM Tryz.func162
def en2087:=enM Tryz.func165
def en2088:=enM Tryz.func187
def en2099:=enM Tryz.func114
def en2100:=enM Tryz.func115
def en2101:=enM Tryz.func116
def en2102:=enM Tryz.func117
def en2103:=enM Tryz.func118
def en2104:=enM Tryz.func119
def en2105:=enM Tryz.func121
def en2106:=enM Tryz.func122
def en2107:=enM Tryz.func123
def en2137:=enM Tryz.func113
def en2147:=enM Tryz.func152
def en2148:=enM Tryz.func153
def en2149:=enM Tryz.func154
def en2150:=enM Tryz.func156
def en2151:=enM Tryz.func157
def en2152:=enM Tryz.func158
def en6007:=enM Tryz.func7
def en6016:=enM Tryz.func16
def en6020:=enM Tryz.func20
def en6048:=enM Tryz.func48
def en6049:=enM Tryz.func49
def en6074:=enM Tryz.func74
theorem hmix:Tryz.prog.follows .mixedOrders=true:=by kernel_rfl
end Go.Proofs.YtinldhphnpflaaaGreatDoor
def ofB (B:Nat):List Nat->Nat
  |[]=>0
  |d::l=>d+B*ofB B l
def toBf (B:Nat):Nat->Nat->List Nat
  |0,_=>[]
  |f+1,n=>if n=0 then[]else n%B::toBf B f (n/B)
def toB (B n:Nat):List Nat:=toBf B n n
theorem toBf_ext (B:Nat)(hB:2<=B):∀(f n:Nat),n<=f->∀g,n<=g->toBf B f n=toBf B g n:=by
  intro f
  induction f with
  | zero=>
    intro n hn g _
    obtain rfl:n=0:=by omega
    cases g <;>simp[toBf]
  | succ f ih =>
    intro n hn g _
    cases g with
    | zero => obtain rfl:n=0:=by omega
              simp[toBf]
    | succ g=>
      simp only[toBf]
      by_cases h0:n=0
      · simp[h0]
      · rw[if_neg h0,if_neg h0]
        have hd:n/B<n:=Nat.div_lt_self (by omega) (by omega)
        rw[ih (n/B) (by omega) g (by omega)]
theorem toB_zero (B:Nat):toB B 0=[]:=rfl
theorem toB_pos (B n:Nat)(hB:2<=B)(hn:0<n):toB B n=n%B::toB B (n/B):=by
  unfold toB
  cases n with
  |zero=>omega
  | succ m=>
    have hd:(m+1)/B<m+1:=Nat.div_lt_self (by omega) (by omega)
    simp only[toBf]
    rw[if_neg (by omega),toBf_ext B hB m ((m+1)/B) (by omega) ((m+1)/B) (Nat.le_refl _)]
theorem ofB_toB (B:Nat)(hB:2<=B)(n:Nat):ofB B (toB B n)=n:=by
  induction n using Nat.strongRecOn with
  | _ n ih=>
    by_cases h0:n=0
    · subst h0;rfl
    · rw[toB_pos B n hB (by omega)]
      simp only[ofB]
      rw[ih (n/B) (Nat.div_lt_self (by omega) (by omega))]
      exact Nat.mod_add_div n B
theorem toB_lt (B:Nat)(hB:2<=B)(n:Nat):∀d∈toB B n,d<B:=by
  induction n using Nat.strongRecOn with
  | _ n ih=>
    by_cases h0:n=0
    · subst h0;simp[toB_zero]
    · rw[toB_pos B n hB (by omega)]
      intro d hd
      rcases List.mem_cons.1 hd with rfl|h
      · exact Nat.mod_lt _ (by omega)
      · exact ih (n/B) (Nat.div_lt_self (by omega) (by omega)) d h
def Canon (B:Nat)(l:List Nat):Prop:=(∀d∈l,d<B)∧l.getLast?≠some 0
theorem Canon.tail {B d:Nat}{l:List Nat}(h:Canon B (d::l)):Canon B l:=by
  refine⟨λx hx=>h.1 x (List.mem_cons_of_mem _ hx),?_⟩
  have:=h.2
  cases l with
  |nil=>simp
  |cons e l=>simpa[List.getLast?_cons_cons]using this
theorem Canon.pos {B:Nat}(hB:2<=B):∀{l:List Nat},Canon B l->l≠[]->0<ofB B l
  |[],_,h=>absurd rfl h
  | [d],h,_=>by
    have:=h.2
    simp[ofB]at this ⊢
    omega
  | d::e::l,h,_=>by
    have:=Canon.pos hB h.tail (by simp)
    simp only[ofB]at this ⊢
    have:0<B*(e+B*ofB B l):=Nat.mul_pos (by omega) this
    omega
theorem canon_eq {B:Nat}(hB:2<=B):∀{l:List Nat},Canon B l->l=toB B (ofB B l)
  |[],_=>rfl
  | d::l,h=>by
    have hp:=Canon.pos hB h (by simp)
    have hd:d<B:=h.1 d (by simp)
    rw[toB_pos B _ hB hp]
    simp only[ofB]
    rw[Nat.add_mul_mod_self_left,Nat.mod_eq_of_lt hd,Nat.add_mul_div_left _ _ (by omega),Nat.div_eq_of_lt hd,Nat.zero_add,<-canon_eq hB h.tail]
theorem getLast_toB (B:Nat)(hB:2<=B)(n:Nat):(toB B n).getLast?≠some 0:=by
  induction n using Nat.strongRecOn with
  | _ n ih=>
    by_cases h0:n=0
    · subst h0;simp[toB_zero]
    · rw [toB_pos B n hB (by omega)]
      have hih:=ih (n/B) (Nat.div_lt_self (by omega) (by omega))
      by_cases hq:n/B=0
      · rw[hq,toB_zero]
        have:n<B:=by
          rcases Nat.lt_or_ge n B with h|h
          · exact h
          · have:=Nat.div_pos h (by omega);omega
        simp[Nat.mod_eq_of_lt this];omega
      · rw[toB_pos B (n/B) hB (Nat.pos_of_ne_zero hq)]at hih ⊢
        simpa[List.getLast?_cons_cons]using hih
def trimL:List Nat->List Nat
  |[]=>[]
  |d::l=>if trimL l=[]∧d=0 then[]else d::trimL l
theorem ofB_trim (B:Nat):∀l,ofB B (trimL l)=ofB B l
  |[]=>rfl
  | d::l=>by
    unfold trimL
    have ih:=ofB_trim B l
    split
    · rename_i h;rw[h.1]at ih;simp only[ofB]at *;rw[<-ih,h.2];simp
    · simp only[ofB,ih]
theorem mem_trimL {d:Nat}:∀{l:List Nat},d∈trimL l->d∈l
  |[],h=>h
  | e ::l,h=>by
    unfold trimL at h
    split at h
    · simp at h
    · rcases List.mem_cons.1 h with rfl|h
      · simp
      · exact List.mem_cons_of_mem _ (mem_trimL h)
theorem trimL_last:∀l,(trimL l).getLast?≠some 0
  |[]=>by simp[trimL]
  | d ::l=>by
    have ih:=trimL_last l
    unfold trimL
    split
    · simp
    · rename_i h
      cases ht:trimL l with
      |nil=>simp[ht]at h ⊢;exact h
      |cons e m=>rw[ht]at ih;simpa[List.getLast?_cons_cons]using ih
theorem trimL_eq (B:Nat)(hB:2<=B)(l:List Nat)(h:∀d∈l,d<B):trimL l=toB B (ofB B l):=by
  rw[<-ofB_trim B l]
  exact canon_eq hB ⟨λd hd=>h d (mem_trimL hd),trimL_last l⟩
theorem ofB_append (B:Nat):∀a b,ofB B (a++b)=ofB B a+B^a.length*ofB B b
  |[],b=>by simp[ofB]
  | d ::a,b=>by
    simp only[List.cons_append,ofB,ofB_append B a b,List.length_cons,Nat.pow_succ]
    rw[Nat.mul_add]
    have:B*(B^a.length*ofB B b)=B^a.length*B*ofB B b:=by
      rw[<-Nat.mul_assoc,Nat.mul_comm B]
    omega
theorem ofB_lt (B:Nat):∀l:List Nat,(∀d∈l,d<B)->ofB B l<B^l.length
  |[],_=>by simp[ofB]
  | d::l,h=>by
    have ih:=ofB_lt B l (λx hx=>h x (List.mem_cons_of_mem _ hx))
    have hd:=h d (by simp)
    simp only[ofB,List.length_cons,Nat.pow_succ]
    have:B*(ofB B l+1)<=B*B^l.length:=Nat.mul_le_mul_left _ ih
    rw[Nat.mul_add]at this
    rw[Nat.mul_comm (B^l.length)]
    omega
theorem length_toB_le (B:Nat)(hB:2<=B)(n k:Nat)(h:n<B^k):(toB B n).length<=k:=by
  induction k generalizing n with
  |zero=>simp at h;subst h;simp[toB_zero]
  | succ k ih=>
    by_cases h0:n=0
    · subst h0;simp[toB_zero]
    · rw[toB_pos B n hB (by omega)]
      have:n/B<B^k:=by
        rw[Nat.div_lt_iff_lt_mul (by omega)]
        rwa [Nat.pow_succ]at h
      have:=ih _ this
      simp;omega
theorem length_toB_le_iff (B:Nat)(hB:2<=B)(n k:Nat):(toB B n).length<=k↔n<B^k:=by
  constructor
  · intro h
    have h1:=ofB_lt B (toB B n) (toB_lt B hB n)
    rw[ofB_toB B hB]at h1
    exact Nat.lt_of_lt_of_le h1 (Nat.pow_le_pow_right (by omega) h)
  · exact length_toB_le B hB n k
def foldSt (d:Nat->Int)(c0:Int):Nat->Int×List Int
  |0=>(c0,[])
  | k+1=>if d k+(foldSt d c0 k).1<0 then(-1,(foldSt d c0 k).2++[d k+(foldSt d c0 k).1+10000])
    else if 10000<=d k+(foldSt d c0 k).1 then((d k+(foldSt d c0 k).1)/10000,(foldSt d c0 k).2++[(d k+(foldSt d c0 k).1)%10000])
    else(0,(foldSt d c0 k).2++[d k+(foldSt d c0 k).1])
theorem foldSt_neg {d:Nat->Int}{c0:Int}{k:Nat}(h:d k+(foldSt d c0 k).1<0):foldSt d c0 (k+1)=(-1,(foldSt d c0 k).2++[d k+(foldSt d c0 k).1+10000]):=by
  rw[foldSt,if_pos h]
theorem foldSt_big {d:Nat->Int}{c0:Int}{k:Nat}(h:¬d k+(foldSt d c0 k).1<0)(h2:10000<=d k+(foldSt d c0 k).1):foldSt d c0 (k+1)=((d k+(foldSt d c0 k).1)/10000,(foldSt d c0 k).2++[(d k+(foldSt d c0 k).1)%10000]):=by
  rw[foldSt,if_neg h,if_pos h2]
theorem foldSt_mid {d:Nat->Int}{c0:Int}{k:Nat}(h:¬d k+(foldSt d c0 k).1<0)(h2:¬10000<=d k+(foldSt d c0 k).1):foldSt d c0 (k+1)=(0,(foldSt d c0 k).2++[d k+(foldSt d c0 k).1]):=by
  rw[foldSt,if_neg h,if_neg h2]
theorem foldSt_len (d:Nat->Int)(c0:Int):∀k,(foldSt d c0 k).2.length=k
  |0=>rfl
  | k+1=>by
    have:=foldSt_len d c0 k
    rw[foldSt];split <;>(try split) <;>simp[this]
def valI:List Int->Int
  |[]=>0
  |x::l=>x+10000*valI l
theorem valI_append:∀a b,valI (a++b)=valI a+10000^a.length*valI b
  |[],b=>by simp[valI]
  | x::a,b=>by
    simp only[List.cons_append,valI,valI_append a b,List.length_cons,Int.pow_succ]
    grind
def dsum (d:Nat->Int):Nat->Int
  |0=>0
  |k+1=>dsum d k+d k*10000^k
theorem foldSt_val (d:Nat->Int)(c0:Int):∀k,valI (foldSt d c0 k).2+(foldSt d c0 k).1*10000^k=c0+dsum d k
  |0=>by simp[foldSt,valI,dsum]
  | k + 1=>by
    have ih:=foldSt_val d c0 k
    have hl:=foldSt_len d c0 k
    rw[foldSt]
    split
    · simp only[valI_append,hl,valI,dsum,Int.pow_succ];grind
    · split
      · simp only[valI_append,hl,valI,dsum,Int.pow_succ]
        have h3:=Int.mul_ediv_add_emod (d k+(foldSt d c0 k).1) 10000
        grind
      · simp only[valI_append,hl,valI,dsum,Int.pow_succ];grind
theorem foldSt_digits (d:Nat->Int)(c0:Int)(h:∀k,-10000<=d k+(foldSt d c0 k).1):∀k,∀x∈(foldSt d c0 k).2,0<=x∧x<10000
  |0=>by simp[foldSt]
  | k + 1=>by
    have ih:=foldSt_digits d c0 h k
    have hk:=h k
    intro x hx
    rw[foldSt]at hx
    split at hx
    · rcases List.mem_append.1 hx with hx|hx
      · exact ih x hx
      · simp at hx;omega
    · split at hx
      · rcases List.mem_append.1 hx with hx|hx
        · exact ih x hx
        · simp at hx;omega
      · rcases List.mem_append.1 hx with hx|hx
        · exact ih x hx
        · simp at hx;omega
def toNats (l:List Int):List Nat:=l.map Int.toNat
theorem ofB_toNats:∀l:List Int,(∀x∈l,0<=x)->((ofB 10000 (toNats l):Nat):Int)=valI l
  |[],_=>rfl
  | x::l,h=>by
    have ih:=ofB_toNats l (λy hy=>h y (by simp[hy]))
    have hx:=h x (by simp)
    simp only[toNats,List.map_cons,ofB,valI]at *
    omega
theorem toNats_cast (l:List Int)(h:∀x∈l,0<=x):(toNats l).map (λn:Nat=>(n:Int))=l:=by
  simp only[toNats,List.map_map]
  conv=>rhs;rw[<-List.map_id l]
  apply List.map_congr_left
  intro x hx
  have:=h x hx
  simp;omega
theorem toNats_lt (l:List Int)(h:∀x∈l,0<=x∧x<10000):∀x∈toNats l,x<10000:=by
  intro x hx
  obtain⟨y,hy,rfl⟩:=List.mem_map.1 hx
  have:=h y hy
  omega
theorem dsum_getD (xs:List Nat):∀k,dsum (λi=>((xs.getD i 0:Nat):Int)) k=((ofB 10000 (xs.take k):Nat):Int)
  |0=>by simp[dsum,ofB]
  | k + 1=>by
    rw[dsum,dsum_getD xs k]
    by_cases hk:k<xs.length
    · have:xs.take (k+1)=xs.take k++[xs.getD k 0]:=by
        rw[List.take_succ_eq_append_getElem hk];simp[hk]
      rw[this,ofB_append]
      have hl:(xs.take k).length=k:=by simp;omega
      rw[hl]
      simp only[ofB,Nat.mul_zero,Nat.add_zero]
      rw[Int.natCast_add,Int.natCast_mul,Int.natCast_pow]
      rw[Int.mul_comm];rfl
    · rw[List.take_of_length_le (by omega),List.take_of_length_le (by omega)]
      have:xs.getD k 0=0:=by simp[List.getD,List.getElem?_eq_none (Nat.le_of_not_lt hk)]
      rw[this];simp
theorem dsum_add (d e:Nat->Int):∀k,dsum (λi=>d i+e i) k=dsum d k+dsum e k
  |0=>by simp[dsum]
  |k+1=>by simp only[dsum,dsum_add d e k];grind
theorem dsum_sub (d e:Nat->Int):∀k,dsum (λi=>d i-e i) k=dsum d k-dsum e k
  |0=>by simp[dsum]
  |k+1=>by simp only[dsum,dsum_sub d e k];grind
theorem dsum_mul (d:Nat->Int)(c:Int):∀k,dsum (λi=>d i*c) k=dsum d k*c
  |0=>by simp[dsum]
  |k+1=>by simp only[dsum,dsum_mul d c k];grind
theorem ofB_take_ge (xs:List Nat){k:Nat}(h:xs.length<=k):ofB 10000 (xs.take k)=ofB 10000 xs:=by rw[List.take_of_length_le h]
theorem getD_lt {xs:List Nat}(h:∀x∈xs,x<10000)(i:Nat):xs.getD i 0<10000:=by
  by_cases hi:i<xs.length
  · simp[hi];exact h _ (List.getElem_mem hi)
  · simp[List.getD,List.getElem?_eq_none (Nat.le_of_not_lt hi)]
def dplus (xs ys:List Nat)(i:Nat):Int:=((xs.getD i 0:Nat):Int)+((ys.getD i 0:Nat):Int)
theorem plus_carry {xs ys:List Nat}(hx:∀x∈xs,x<10000)(hy:∀x∈ys,x<10000):∀k,0<=(foldSt (dplus xs ys) 0 k).1∧(foldSt (dplus xs ys) 0 k).1<=1
  |0=>by simp[foldSt]
  | k+1=>by
    have ih:=plus_carry hx hy k
    have h1:=getD_lt hx k
    have h2:=getD_lt hy k
    rw[foldSt]
    have hd:dplus xs ys k=((xs.getD k 0:Nat):Int)+((ys.getD k 0:Nat):Int):=rfl
    split
    · omega
    · split <;>simp only <;>omega
theorem plus_res {xs ys:List Nat}(hx:∀x∈xs,x<10000)(hy:∀x∈ys,x<10000){n k:Nat}(hn:xs.length<=n∧ys.length<=n)(hk:n<=k)(hc:(foldSt (dplus xs ys) 0 k).1=0):
    (∀x∈(foldSt (dplus xs ys) 0 k).2,0<=x∧x<10000)∧ofB 10000 (toNats (foldSt (dplus xs ys) 0 k).2)=ofB 10000 xs+ofB 10000 ys:=by
  have hd:∀x∈(foldSt (dplus xs ys) 0 k).2,0<=x∧x<10000:=foldSt_digits _ _ (λj=>by
    have:=plus_carry hx hy j
    simp only[dplus];omega) k
  refine⟨hd,?_⟩
  have h1:=foldSt_val (dplus xs ys) 0 k
  have h2:=ofB_toNats _ (λx hx=>(hd x hx).1)
  have h3:dsum (dplus xs ys) k=((ofB 10000 xs:Nat):Int)+((ofB 10000 ys:Nat):Int):=by
    have:=dsum_add (λi=>((xs.getD i 0:Nat):Int)) (λi=>((ys.getD i 0:Nat):Int)) k
    rw[dsum_getD,dsum_getD,ofB_take_ge xs (by omega),ofB_take_ge ys (by omega)]at this
    exact this
  rw[hc]at h1
  omega
def dminus (xs ys:List Nat)(i:Nat):Int:=((xs.getD i 0:Nat):Int)-((ys.getD i 0:Nat):Int)
theorem minus_carry {xs ys:List Nat}(hx:∀x∈xs,x<10000)(hy:∀x∈ys,x<10000):∀k,-1<=(foldSt (dminus xs ys) 0 k).1∧(foldSt (dminus xs ys) 0 k).1<=0
  |0=>by simp[foldSt]
  | k+1=>by
    have ih:=minus_carry hx hy k
    have h1:=getD_lt hx k
    have h2:=getD_lt hy k
    rw[foldSt]
    have hd:dminus xs ys k=((xs.getD k 0:Nat):Int)-((ys.getD k 0:Nat):Int):=rfl
    split
    · simp
    · split <;>simp only <;>omega
theorem valI_nonneg {l:List Int}(h:∀x∈l,0<=x∧x<10000):0<=valI l∧valI l<10000^l.length:=by
  induction l with
  |nil=>simp[valI]
  | cons x l ih=>
    have:=ih (λy hy=>h y (by simp[hy]))
    have hx:=h x (by simp)
    simp only[valI,List.length_cons,Int.pow_succ]
    constructor
    · omega
    · omega
theorem minus_res {xs ys:List Nat}(hx:∀x∈xs,x<10000)(hy:∀x∈ys,x<10000){n:Nat}(hn:xs.length<=n∧ys.length<=n)(hle:ofB 10000 ys<=ofB 10000 xs):
    (foldSt (dminus xs ys) 0 n).1=0∧(∀k,∀x∈(foldSt (dminus xs ys) 0 k).2,0<=x∧x<10000)∧∀k,n<=k->(foldSt (dminus xs ys) 0 k).1=0->ofB 10000 (toNats (foldSt (dminus xs ys) 0 k).2)=ofB 10000 xs-ofB 10000 ys:=by
  have hd:∀k,∀x∈(foldSt (dminus xs ys) 0 k).2,0<=x∧x<10000:=foldSt_digits _ _ (λj=>by
    have:=minus_carry hx hy j
    have h1:=getD_lt hx j
    have h2:=getD_lt hy j
    simp only[dminus];omega)
  have h3:∀k,n<=k->dsum (dminus xs ys) k=((ofB 10000 xs:Nat):Int)-((ofB 10000 ys:Nat):Int):=λk hk=>by
    have:=dsum_sub (λi=>((xs.getD i 0:Nat):Int)) (λi=>((ys.getD i 0:Nat):Int)) k
    rw[dsum_getD,dsum_getD,ofB_take_ge xs (by omega),ofB_take_ge ys (by omega)]at this
    exact this
  refine⟨?_,hd,λk hk hc=>?_⟩
  · have h1:=foldSt_val (dminus xs ys) 0 n
    have h4:=valI_nonneg (hd n)
    have h5:=minus_carry hx hy n
    rw[foldSt_len]at h4
    rw[h3 n (Nat.le_refl _)]at h1
    have hcases:(foldSt (dminus xs ys) 0 n).1=-1∨(foldSt (dminus xs ys) 0 n).1=0:=by omega
    rcases hcases with hc|hc
    · rw[hc]at h1;omega
    · exact hc
  · have h1:=foldSt_val (dminus xs ys) 0 k
    have h2:=ofB_toNats _ (λx hx=>(hd k x hx).1)
    rw[hc,h3 k hk]at h1
    omega
def dby (xs:List Nat)(m:Nat)(i:Nat):Int:=((xs.getD i 0:Nat):Int)*(m:Int)
theorem dby_le {xs:List Nat}(hx:∀x∈xs,x<10000){m:Nat}(hm:m<10000)(i:Nat):0<=dby xs m i∧dby xs m i<=99980001:=by
  have h1:=getD_lt hx i
  have h2:xs.getD i 0*m<=9999*9999:=Nat.mul_le_mul (by omega) (by omega)
  unfold dby
  rw[<-Int.natCast_mul]
  omega
theorem by_carry {xs:List Nat}(hx:∀x∈xs,x<10000){m:Nat}(hm:m<10000):∀k,0<=(foldSt (dby xs m) 0 k).1∧(foldSt (dby xs m) 0 k).1<10000
  |0=>by simp[foldSt]
  | k+1=>by
    have ih:=by_carry hx hm k
    have h1:=dby_le hx hm k
    rw[foldSt]
    split
    · omega
    · split <;>simp only <;>omega
theorem by_res {xs:List Nat}(hx:∀x∈xs,x<10000){m:Nat}(hm:m<10000){n k:Nat}(hn:xs.length<=n)(hk:n<=k)(hc:(foldSt (dby xs m) 0 k).1=0):
    (∀x∈(foldSt (dby xs m) 0 k).2,0<=x∧x<10000)∧ofB 10000 (toNats (foldSt (dby xs m) 0 k).2)=ofB 10000 xs*m:=by
  have hd:∀x∈(foldSt (dby xs m) 0 k).2,0<=x∧x<10000:=foldSt_digits _ _ (λj=>by
    have:=by_carry hx hm j
    have:=dby_le hx hm j
    omega) k
  refine⟨hd,?_⟩
  have h1:=foldSt_val (dby xs m) 0 k
  have h2:=ofB_toNats _ (λx hx=>(hd x hx).1)
  have h3:dsum (dby xs m) k=((ofB 10000 xs:Nat):Int)*(m:Int):=by
    have:=dsum_mul (λi=>((xs.getD i 0:Nat):Int)) (m:Int) k
    rw[dsum_getD,ofB_take_ge xs (by omega)]at this
    exact this
  rw[hc,h3]at h1
  rw[<-Int.natCast_mul]at h1
  omega
namespace Go.Eng
open Go Go.RowKit
section range
variable {P:Program}{w w':World}
structure Keeps (bs:List Nat)(W W':World):Prop where
  size:W.heap.size<=W'.heap.size
  block:∀k,k<W.heap.size->k∉bs->W'.heap[k]?=W.heap[k]?
theorem Keeps.refl (bs:List Nat)(W:World):Keeps bs W W:=⟨Nat.le_refl _,λ_ _ _=>rfl⟩
theorem Keeps.ext {bs:List Nat}{W A B:World}(h:Keeps bs W A)(k:Ext A B):Keeps bs W B:=
  ⟨Nat.le_trans h.size k.size,λi hi hb=>(k.block i (Nat.lt_of_lt_of_le hi h.size)).trans (h.block i hi hb)⟩
theorem Keeps.put {bs:List Nat}{W A B:World}{b:Nat}(h:Keeps bs W A)(k:Put A B b)(hb:b∈bs∨W.heap.size<=b):Keeps bs W B:=
  ⟨by rw[k.size];exact h.size,λi hi hn=>(k.block i (λe=>by subst e;rcases hb with hb|hb;exact hn hb;omega)).trans (h.block i hi hn)⟩
theorem Keeps.gr {bs:List Nat}{W A B:World}{row:Option Nat}(h:Keeps bs W A)(k:A.grownBy B row)(hb:∀b,row=some b->b∈bs∨W.heap.size<=b):Keeps bs W B:=
  ⟨Nat.le_trans h.size k.size,λi hi hn=>(k.block i (Nat.lt_of_lt_of_le hi h.size) (λe=>by rcases hb i e.symm with hb|hb;exact hn hb;omega)).trans (h.block i hi hn)⟩
theorem Keeps.others {bs:List Nat}{W W':World}(h:Keeps bs W W')(hc:∀b∈bs,∃o:Obj,W.heap[b]?=some o∧o.isCells=true):KeepsOthers W W':=
  ⟨h.size,λk o hk ho=>(h.block k (Array.getElem?_eq_some_iff.1 hk).1 (λhm=>by
    obtain⟨o',ho',hc'⟩:=hc k hm
    rw[hk]at ho';cases ho';rw[ho]at hc';cases hc')).trans hk⟩
theorem Keeps.blk {bs:List Nat}{W W':World}{b:Nat}{t:TypeId}{cs:Array Value}(h:Keeps bs W W')(hn:b∉bs)(hb:Blk W b t cs):Blk W' b t cs:=(h.block b hb.lt hn).trans hb
theorem Keeps.rw {bs:List Nat}{W W':World}{lo:Nat}{A:Option Addr}{cs:List Value}(h:Keeps bs W W')(hn:∀ad,A=some ad->ad.block∉bs)(hb:Rw W lo A cs):Rw W' lo A cs:=by
  refine⟨λj u hu=>?_,hb.lo,λad e=>Nat.lt_of_lt_of_le (hb.hi ad e) h.size⟩
  obtain⟨b,o,e,hc⟩:=hb.cells j u hu
  refine⟨b,o,e,?_⟩
  rw[<-hc]
  exact World.cell?_of_block (h.block b (hb.hi _ e) (hn _ e))
theorem Blk.isCells {b:Nat}{t:TypeId}{cs:Array Value}(h:Blk w b t cs):∃o:Obj,w.heap[b]?=some o∧o.isCells=true:=⟨_,h,rfl⟩
def Celled (B:Nat)(I:World->Prop):Prop:=
  ∀W W' row,I W->W.grownBy W' row->(∀r,row=some r->B<=r∧∃o:Obj,W.heap[r]?=some o∧o.isCells=false)->I W'
theorem Blk.cel {W W':World}{row:Option Nat}{B b:Nat}{t:TypeId}{cs:Array Value}(hg:W.grownBy W' row)(hr:∀r,row=some r->B<=r∧∃o:Obj,W.heap[r]?=some o∧o.isCells=false)(h:Blk W b t cs):Blk W' b t cs:=
  (grownBy_keeps_cells hg (λr e=>(hr r e).2) h rfl).trans h
theorem Rw.cel {W W':World}{row:Option Nat}{B lo:Nat}{A:Option Addr}{cs:List Value}(hg:W.grownBy W' row)(hr:∀r,row=some r->B<=r∧∃o:Obj,W.heap[r]?=some o∧o.isCells=false)(h:Rw W lo A cs):Rw W' lo A cs:=by
  refine⟨λj u hu=>?_,h.lo,λad e=>Nat.lt_of_lt_of_le (h.hi ad e) hg.size⟩
  obtain⟨b,o,e,hc⟩:=h.cells j u hu
  exact⟨b,o,e,cell_kept hc hg (λr e=>(hr r e).2)⟩
theorem low_cel {W W' w0:World}{row:Option Nat}{B n0:Nat}(hn:n0<=B)(hg:W.grownBy W' row)(hr:∀r,row=some r->B<=r∧∃o:Obj,W.heap[r]?=some o∧o.isCells=false)(hs:n0<=W.heap.size)(h:Below n0 w0 W):Below n0 w0 W':=
  h.grown hg hs (λk e=>Nat.le_trans hn (hr k e).1)
def Dfr (w:World)(D:Nat):Prop:=w.heap[D]?=some (.deferred (some []))
theorem Dfr.ext {D:Nat}(k:Ext w w')(h:Dfr w D):Dfr w' D:=k.heap h
theorem Dfr.put {D b:Nat}(k:Put w w' b)(hne:D≠b)(h:Dfr w D):Dfr w' D:=(k.block D hne).trans h
theorem Dfr.ne {D b:Nat}{t:TypeId}{cs:Array Value}(h:Dfr w D)(hb:Blk w b t cs):D≠b:=λe=>by
  subst e;unfold Dfr at h;unfold Blk at hb;rw[h]at hb;cases hb
def IterK (P:Program)(gf:Nat)(lb:List Value)(m:Nat)(enc:Nat->List Value)(order:List Nat)(Kq:World->Prop)(w:World):Prop:=
  SeqStopsK Fence.wide 8 P gf lb.toArray (λi:{i:Nat // i<m}=>(enc i.1).toArray) (λA B=>Kq A->Kq B) (λxs=>xs.map (·.1)=order) (λxs=>xs.map (·.1) <+: order) m w
def updL (e:Nat->Value):List Nat->List Value->Nat->Value
  |p::ps,v::vs=>updL (upd e p v) ps vs
  |_,_=>e
theorem act_set (N:Nat)(e:Nat->Value)(d:Nat)(v:Value):(act N e []).tmps.setIfInBounds d v=(act N (upd e d v) []).tmps:=by
  have:=act_put N e [] d v
  exact congrArg Act.tmps this
theorem act_fold (N:Nat):∀(ps:List Nat) (vs:List Value) (e:Nat->Value),(ps.zip vs).foldl (λt (x:Nat×Value)=>t.setIfInBounds x.1 x.2) (act N e []).tmps=(act N (updL e ps vs) []).tmps
  |[],vs,e=>by simp[updL]
  |p::ps,[],e=>by simp[updL]
  | p::ps,v::vs,e=>by
    simp only[List.zip_cons_cons,List.foldl_cons,updL]
    rw[act_set,act_fold N ps vs]
def roundPost (Kq:World->Prop)(I:List Nat->World->Prop)(Ix:Code->List Nat->World->Prop)(xs:List Nat)(W:World):Exit->Act->World->Prop
  | .normal,_,W'=>KeepsOthers W W'∧(Kq W->Kq W')∧I xs W'
  | .ret,_,W'=>KeepsOthers W W'∧Ix .ret xs W'
  | .exit id,_,W'=>KeepsOthers W W'∧Ix (.exit id) xs W'
  |_,_,_=>False
theorem c_range {N:Nat}{e:Nat->Value}{ds:List Deferred}{Q:Exit->Act->World->Prop}{m:Nat}{enc:Nat->List Value}{order:List Nat}{Kq:World->Prop}{gf:Nat}{lb:List Value}{g:Operand}{ps:List Nat}{assign body:Code}(hg:ev N e g=.func (.func gf) #[] lb.toArray)(eg:Enters P gf)(hit:IterK P gf lb m enc order Kq w)(hKq:Celled w.heap.size Kq)(hps:∀i,(enc i).length=ps.length)(qs:List Nat)(qv:Nat->List Value)(hassign:∀l x W K,K (act N (updL (updL e ps (enc x)) qs (qv x)) []) W->assign.wpIn (Fw (some l)) 7 P (Exit.then K (λ_ _ _=>False)) (act N (updL e ps (enc x)) []) W)(I:List Nat->World->Prop)(Ix:Code->List Nat->World->Prop)(hI:∀xs,Celled w.heap.size (I xs))(hIx:∀c xs,Celled w.heap.size (Ix c xs))(h0:I [] w)(hbody:∀l pre x W,I pre W->(∀i∈pre,i<m)->x<m->pre.length<m->body.wpIn (Fw (some l)) 7 P (roundPost Kq I Ix (pre++[x]) W) (act N (updL (updL e ps (enc x)) qs (qv x)) []) W)(hdone:∀D W,w.heap.size<=D->I order W->Dfr W D->Q .normal (act N e (⟨.collected D,#[]⟩::ds)) W)(hstop:∀D c pre W,w.heap.size<=D->pre <+: order->Ix c pre W->Dfr W D->c.wpIn (Fw none) 9 P Q (act N e (⟨.collected D,#[]⟩::ds)) W):
    (Code.rangeFunc g ps.toArray assign body).wpIn (Fw none) 9 P Q (act N e ds) w:=by
  have hsub:∀pre:List {i:Nat // i<m},∀i∈pre.map (·.1),i<m:=λpre i hi=>by
    obtain⟨x,_,rfl⟩:=List.mem_map.1 hi
    exact x.2
  refine wpIn_rangeFunc_ownF (F:=Fence.wide) (n:=9) (α:={i:Nat // i<m}) rfl (by omega) (gf:=gf) (lb:=lb.toArray) (by rw[act_eval];exact hg) trivial eg (w0:=w) hit (λh k q=>k (h q))
    (λW l o o' hl ho hc _ q=>hKq W _ (some l) q (grownBy_putObj' W l o') (λr er=>by cases er;exact⟨hl,o,ho,hc⟩)) (Below.refl _ _) (λx=>by simpa using hps x.1)
    (λpre W=>I (pre.map (·.1)) W) (λc pre W=>Ix c (pre.map (·.1)) W) (λpre W W' row h=>hI (pre.map (·.1)) W W' row h) (λc pre W W' row h=>hIx c (pre.map (·.1)) W W' row h) h0
    (λx=>act N (updL (updL e ps (enc x.1)) qs (qv x.1)) []) (λl x W K hK=>?_) (λl pre x W hi hlen=>?_) (λD xs W hD hS hi hK=>?_) (λD c pre W hD hsp hi hK=>?_)
  · have h:=hassign l x.1 W K hK
    have h2:({tmps:=(ps.toArray.zip (enc x.1).toArray).foldl (λt (p,v)=>t.setIfInBounds p v) (act N e ds).tmps,defers:=[]}:Act)=act N (updL e ps (enc x.1)) []:=by
      have h3:=act_fold N ps (enc x.1) e
      have:(act N (updL e ps (enc x.1)) [])=⟨(act N (updL e ps (enc x.1)) []).tmps,[]⟩:=rfl
      rw[this,<-h3]
      simp only[List.zip_toArray,List.foldl_toArray]
      rfl
    rw[h2]
    exact h
  · refine wpIn_mono (hbody l (pre.map (·.1)) x.1 W hi (hsub pre) x.2 (by simpa using hlen)) ?_
    rintro ex a W3 hp
    have hmap:(pre++[x]).map (·.1)=pre.map (·.1)++[x.1]:=by simp
    cases ex with
    |normal=>exact⟨hp.1,hp.2.1,by simp only[];rw[hmap];exact hp.2.2⟩
    |ret=>exact⟨hp.1,by simp only[];rw[hmap];exact hp.2⟩
    |exit id=>exact⟨hp.1,by simp only[];rw[hmap];exact hp.2⟩
    |goto t=>exact hp.elim
    |panic c=>exact hp.elim
    |outgrown=>exact hp.elim
  · exact hdone D W hD (by have h:xs.map (·.1)=order:=hS;rw[<-h];exact hi) hK
  · exact hstop D c _ W hD hsp hi hK
variable {f:FuncId}{fn:Func}{c:Code}{R:Value->World->Prop}
theorem act_start (args:List Value)(fn:Func):({tmps:=args.toArray++Array.replicate (fn.ntmps-args.toArray.size) undef,defers:=[]}:Act)=act (args.length+(fn.ntmps-args.length)) (ent args) []:=by
  simp only[act,Act.mk.injEq,and_true]
  apply Array.ext
  · simp
  · intro i _ _
    simp only[Array.getElem_ofFn,ent]
    by_cases hi:i<args.length
    · simp[hi]
    · have h3:args.toArray.size<=i:=by simpa using hi
      rw[Array.getElem_append_right h3]
      simp[List.getElem?_eq_none (Nat.le_of_not_lt hi)]
theorem f_inM {args:List Value}(hf:P.funcs[f]?=some fn)(hb:fn.body=some c)(h:c.wpIn (Fw none) 9 P (bodyPostM Fence.wide 9 P fn (Ret w R)) (act (args.length+(fn.ntmps-args.length)) (ent args) []) w):Calls P f args.toArray w (Ret w R):=by
  refine calls_Fw (n:=9) (callsIn_of_wp_marks hf hb trivial ?_)
  rw[act_start]
  exact h
theorem put_dfr {D:Nat}(w:World):Put w (w.putObj D (.deferred none)) D:=
  ⟨rfl,rfl,rfl,by simp,λk hk=>World.putObj_heap_other hk⟩
theorem f_outM {N D:Nat}{e:Nat->Value}{w':World}{v:Value}(hK:Dfr w' D)(hr:(results fn (act N e [⟨.collected D,#[]⟩]).tmps).run P (w'.putObj D (.deferred none))=.ok v (w'.putObj D (.deferred none)))(hx:Ext w (w'.putObj D (.deferred none)))(hR:R v (w'.putObj D (.deferred none))):bodyPostM Fence.wide 9 P fn (Ret w R) .ret (act N e [⟨.collected D,#[]⟩]) w':=
  ⟨by simp,.inl ⟨D,_,rfl,run_takeDeferred hK,v,hr,hx,hR⟩⟩
theorem f_retM1 {N t D:Nat}{e:Nat->Value}{w':World}{v:Value}(hK:Dfr w' D)(hres:fn.results=#[.tmp t])(hx:Ext w w')(hD:w.heap.size<=D)(hR:R v (w'.putObj D (.deferred none)))(hv:ev N e (.tmp t)=v):bodyPostM Fence.wide 9 P fn (Ret w R) .ret (act N e [⟨.collected D,#[]⟩]) w':=
  f_outM hK (res1 hres (res_tmp hv _)) ((put_dfr w').low hx hD) hR
theorem f_outM0 {N:Nat}{e:Nat->Value}{w':World}{v:Value}(hr:(results fn (act N e []).tmps).run P w'=.ok v w')(hx:Ext w w')(hR:R v w'):bodyPostM Fence.wide 9 P fn (Ret w R) .ret (act N e []) w':=
  ⟨v,hr,hx,hR⟩
theorem Blk.dfr {D b:Nat}{t:TypeId}{cs:Array Value}(hK:Dfr w D)(h:Blk w b t cs):Blk (w.putObj D (.deferred none)) b t cs:=(put_dfr w).blk (λe=>hK.ne h e.symm) h
theorem Rw.dfr {D lo:Nat}{A:Option Addr}{cs:List Value}(hK:Dfr w D)(h:Rw w lo A cs):Rw (w.putObj D (.deferred none)) lo A cs:=by
  refine⟨λj u hu=>?_,h.lo,λad e=>by rw[(put_dfr w).size];exact h.hi ad e⟩
  obtain⟨b,o,e,hc⟩:=h.cells j u hu
  refine⟨b,o,e,?_⟩
  rw[<-hc]
  refine(put_dfr w).cell ?_
  intro hb
  simp only at hb
  subst hb
  obtain⟨_,ho',hc'⟩:=cells_of_cell hc
  rw[show w.heap[b]?=some (.deferred (some []))from hK]at ho'
  cases ho';cases hc'
theorem k_yield {N:Nat}{e:Nat->Value}{ds:List Deferred}{K:Act->World->Prop}{Q:Exit->Act->World->Prop}{l d ty:Nat}{pos:String}{af:Array Edge}{x:Operand}{xs:Array Operand}{ats:Array TypeId}{vs:List Value}{R:Ending->World->Prop}(hx:ev N e x=.func (.yield l) #[] #[])(hv:xs.toList.map (ev N e)=vs)(hy:YieldAt Fence.wide 7 P l vs.toArray w R)(hk:∀c w',R c w'->match c with| .returned v=>K (act N (upd e d v) ds) w'|_=>False):Oper.wpIn (Fw none) 8 P ⟨some d,.call {callee:=.value x,args:=xs,argTypes:=ats},ty,pos,af,none⟩ (act N e ds) w K Q:=by
  subst hv
  obtain⟨fn,tmps,assign,body,hr,hR⟩:=hy
  have hvs:(xs.toList.map (ev N e)).toArray=xs.map (ev N e):=by rw[<-Array.toList_map,Array.toArray_toList]
  rw[hvs]at hr
  refine⟨λf _=>Fw_fn none f,?_⟩
  rw[semAt_Fw rfl,act_eval]
  have:(execOp (ev N e) ⟨some d,.call {callee:=.value x,args:=xs,argTypes:=ats},ty,pos,af,none⟩).run P w=.ok (.round l fn tmps assign body) w:=by
    simp[execOp,resolve,Deferred.ofValue,hx,invoke,hr]
  rw[this]
  refine⟨(λh=>by rw[Fw_depth]at h;cases h),hR.mono ?_⟩
  intro c w' h
  have:=hk c w' h
  cases c with
  |returned v=>simp only at this ⊢;rw[act_put];exact this
  |panicked c=>exact this.elim
  |outgrown=>exact this.elim
theorem iter_args {F:Fence}{n g:Nat}{R:Ending->World->Prop}{W:World}{a:Value}{lb:List Value}(h:CallsIn F n P g (a::lb).toArray W R):CallsIn F n P g (#[a]++lb.toArray) W R:=by
  have:(#[a]++lb.toArray)=(a::lb).toArray:=by simp
  rw[this];exact h
theorem f_inI {args:List Value}{R:Ending->World->Prop}(hf:P.funcs[f]?=some fn)(hb:fn.body=some c)(h:c.wpIn (Fw none) 8 P (bodyPost P fn R) (act (args.length+(fn.ntmps-args.length)) (ent args) []) w):CallsIn Fence.wide 8 P f args.toArray w R:=by
  refine callsIn_of_wp hf hb trivial ?_
  rw[act_start]
  exact h
theorem f_ret0I {N:Nat}{e:Nat->Value}{w':World}{R:Ending->World->Prop}(hres:fn.results=#[])(hR:∀v,R (.returned v) w'):bodyPost P fn R .ret (act N e []) w':=
  ⟨rfl,_,res0 hres,hR _⟩
theorem f_end0I {N:Nat}{e:Nat->Value}{w':World}{R:Ending->World->Prop}(hres:fn.results=#[])(hR:∀v,R (.returned v) w'):bodyPost P fn R .normal (act N e []) w':=
  ⟨rfl,_,res0 hres,hR _⟩
theorem yield_cases {J J' Kp:Prop}{c:Ending}(h:(c=.returned (.bool true)∧J∧Kp)∨(c=.returned (.bool false)∧J')):∃q,c=.returned (.bool q)∧(q=true->J∧Kp)∧(q=false->J'):=by
  rcases h with⟨h1,h2,h3⟩|⟨h1,h2⟩
  · exact⟨true,h1,λ_=>⟨h2,h3⟩,λh=>by cases h⟩
  · exact⟨false,h1,λh=>by(cases h),λ_=>h2⟩
end range
section
variable {P:Program}{r:Option Nat}{n N:Nat}{e:Nat->Value}{ds:List Deferred}{w:World}{Q:Exit->Act->World->Prop}{K:Act->World->Prop}
variable {d ty:Nat}{pos:String}{af:Array Edge}{g:Option (Nat×Bool)}{v u:Value}{x y:Operand}{t t':TypeId}
theorem k_convert {src dst:TypeId}{k k':IntKind}{a c:Int}{D:TypeDesc}(hs:P.underlying src=some D)(hd:P.underlying dst=some (.int k'))(hx:ev N e x=.int k a)(hc:k'.wrap a=c)(hk:K (act N (upd e d (.int k' c)) ds) w):
    Oper.wpIn (Fw r) n P ⟨some d,.convert src dst x,ty,pos,af,g⟩ (act N e ds) w K Q:=by
  refine k_val (v:=.int k' c) (w':=w) rfl ?_ (by rw[act_put];exact hk)
  subst hc
  simp[execOp,hx,convert,run_underlying hs,run_underlying hd,Conv.intToInt]
theorem k_shr {k k':IntKind}{a b c:Int}(hx:ev N e x=.int k a)(hy:ev N e y=.int k' b)(hb:0<=b∧b<=8)(hc:a/2^b.toNat=c)(hk:K (act N (upd e d (.int k c)) ds) w):
    Oper.wpIn (Fw r) n P ⟨some d,.binOp .shr t x y t',ty,pos,af,g⟩ (act N e ds) w K Q:=by
  refine k_bin hx hy (guard_int ..) ?_ hk
  have h1:¬b<0:=by omega
  have h2:min b.toNat k.bits=b.toNat:=by
    have:8<=k.bits:=by cases k <;>decide
    omega
  subst hc
  simp only[binOp,Op.shift,h1,if_false,h2]
  simp[Int.fdiv_eq_ediv_of_nonneg _ (show(0:Int)<=2^b.toNat from Int.le_of_lt (Int.pow_pos (by omega)))]
theorem k_callB {R:Value->World->Prop}{f:FuncId}{la:List Value}{xs:Array Operand}{ats:Array TypeId}{vs:List Value}(hf:Enters P f)(hx:ev N e x=.func (.func f) la.toArray #[])(hv:xs.toList.map (ev N e)=vs)(hc:Calls P f (la++vs).toArray w (Ret w R))(hk:∀v w',Ext w w'->R v w'->K (act N (upd e d v) ds) w'):Oper.wpIn (Fw r) n P ⟨some d,.call {callee:=.value x,args:=xs,argTypes:=ats},ty,pos,af,g⟩ (act N e ds) w K Q:=by
  subst hv
  have h2:la.toArray++xs.map (ev N e)=(la++xs.toList.map (ev N e)).toArray:=by simp
  refine k_enter (f:=f) (args:=la.toArray++xs.map (ev N e)) (R:=R) rfl ?_ (by rw[h2];exact hc) (λv w' h1 h2=>by rw[act_put];exact hk v w' h1 h2)
  simp[execOp,resolve,Deferred.ofValue,hx,invoke,hf _ _]
theorem own_blk {base sz m b:Nat}{el:TypeId}{xs:List Value}(h:w.ownsRow base el sz (.slice (some ⟨b,0,none⟩) m m) m xs):Blk w b el xs.toArray:=by
  obtain⟨hl,⟨hv,_⟩|⟨g,cap,cur,hv,hg,hh,hc,hm,hs,ht⟩⟩:=h
  · cases hv
  · simp only[Value.slice.injEq]at hv
    obtain⟨hv,-,rfl⟩:=hv
    cases hv
    rw[List.take_of_length_le (by simp[hs])]at ht
    subst ht
    simpa[Blk]using hh
theorem Rw.of_blk {lo b:Nat}{el:TypeId}{xs:List Value}(h:Blk w b el xs.toArray)(hb:lo<=b):Rw w lo (some ⟨b,0,none⟩) xs:=by
  refine⟨λj u hu=>⟨b,0,rfl,?_⟩,λad e=>by cases e;exact hb,λad e=>by cases e;exact h.lt⟩
  rw[Nat.zero_add]
  exact h.cell (by simpa using hu)
def Each (p:Nat->Prop):List Nat->Prop
  |[]=>True
  |i::is=>p i∧Each p is
theorem each_mem {p:Nat->Prop}:∀{l:List Nat},Each p l->∀i∈l,p i
  | _::_,h,i,hi=>by
    rcases List.mem_cons.1 hi with rfl|hi
    · exact h.1
    · exact each_mem h.2 i hi
theorem a_start {id:Nat}{l:List Oper}(hm:P.follows .mixedOrders=true)(h:wpAnyIn (Fw r) n P .any l.toArray Q l.length (Array.replicate l.length false) (act N e ds) w.drew):(Code.region id l.toArray true).wpIn (Fw r) n P Q (act N e ds) w:=
  wpIn_region_any hm h
theorem a_step {l:List Oper}{fuel:Nat}{listed:Array Bool}{i:Nat}{is:List Nat}{a:Act}(hr:Region.ready .any l.toArray listed=i::is)(h:Each (λi=>wpOpIn (Fw r) n P l.toArray Q i (wpAnyIn (Fw r) n P .any l.toArray Q fuel (listed.setIfInBounds i true)) a w) (i::is)):wpAnyIn (Fw r) n P .any l.toArray Q (fuel+1) listed a w:=
  ⟨λh0=>(by rw[hr]at h0;cases h0),λj hj=>each_mem h j (by rw[hr]at hj;exact hj)⟩
theorem a_op {l:List Oper}{i:Nat}{a:Act}{dst:Option Nat}{op:Op}(ho:l[i]?=some ⟨dst,op,ty,pos,af,none⟩)(h:Oper.wpIn (Fw r) n P ⟨dst,op,ty,pos,af,none⟩ a w K Q):wpOpIn (Fw r) n P l.toArray Q i K a w:=by
  unfold wpOpIn
  rw[List.getElem?_toArray,ho]
  simp only[Region.wanted,if_true]
  exact h
theorem a_end {l:List Oper}{listed:Array Bool}{a:Act}(hr:Region.ready .any l.toArray listed=[])(h:Q .normal a w):wpAnyIn (Fw r) n P .any l.toArray Q 0 listed a w:=⟨hr,h⟩
theorem wrap_i64 {a:Int}(h:-9223372036854775808<=a∧a<=9223372036854775807):IntKind.i64.wrap a=a:=wrap_in h
theorem wrap_u64 {a:Int}(h:0<=a∧a<=18446744073709551615):IntKind.u64.wrap a=a:=by
  have h1:a%18446744073709551616=a:=Int.emod_eq_of_lt h.1 (by omega)
  simp[IntKind.wrap,IntKind.bits,IntKind.signed,h1]
theorem Cf.ext {w w':World}{a:Addr}{v:Value}(k:Ext w w')(h:w.cell? a=some v):w'.cell? a=some v:=k.cell h
theorem k_subK {k:IntKind}{a b c:Int}(hx:ev N e x=.int k a)(hy:ev N e y=.int k b)(hc:k.wrap (a-b)=c)(hk:K (act N (upd e d (.int k c)) ds) w):
    Oper.wpIn (Fw r) n P ⟨some d,.binOp .sub t x y t',ty,pos,af,g⟩ (act N e ds) w K Q:=
  k_bin hx hy (guard_int ..) (by subst hc;simp[binOp,Op.intArith]) hk
theorem wrap_u8 {a:Int}(h:0<=a∧a<=255):IntKind.u8.wrap a=a:=by
  have h1:a%256=a:=Int.emod_eq_of_lt h.1 (by omega)
  simp[IntKind.wrap,IntKind.bits,IntKind.signed,h1]
theorem l_und {l:List Oper}{op:Op}{rest:List Oper}{j s dd:Nat}{q:Bool}(hj:dstOf l j=some s)(hv:ev N e (.tmp s)=undef)(hs:Nat.blt s N=true)(h:wpListIn (Fw r) n P l.toArray Q rest (act N (upd e dd undef) ds) w):wpListIn (Fw r) n P l.toArray Q (⟨some dd,op,ty,pos,af,some (j,q)⟩::rest) (act N e ds) w:=by
  have hj':(l.toArray[j]?).bind (·.dst)=some s:=by rw[List.getElem?_toArray];exact hj
  have hy:yielded l.toArray (act N e ds).tmps j=none:=by
    have h2:(act N e ds).eval (.tmp s)=undef:=by rw[act_eval];exact hv
    simp only[Act.eval]at h2
    have hs':s<(act N e ds).tmps.size:=by rw[Nat.blt_eq]at hs;simpa[act]using hs
    simp only[Array.getD,hs',dif_pos]at h2
    have h3:(act N e ds).tmps[s]?=some undef:=by rw[Array.getElem?_eq_getElem hs'];exact congrArg some h2
    unfold yielded;rw[hj',Option.bind_some,h3];rfl
  unfold wpListIn
  rw[if_neg (by simp[Region.wanted,hy])]
  exact⟨λf _=>Fw_fn r f,by rw[act_put];exact h⟩
theorem byteAt_ {l:List UInt8}{i:Nat}(h:i<l.length):l[i]?=some (l.getD i 0):=by rw[List.getElem?_eq_getElem h];simp[List.getD,h]
theorem k_nilCheck {b o:Nat}(hx:ev N e x=.pointer (some ⟨b,o,none⟩))(hk:K (act N (upd e d (.pointer (some ⟨b,o,none⟩))) ds) w):
    Oper.wpIn (Fw r) n P ⟨some d,.nilCheck x,ty,pos,af,g⟩ (act N e ds) w K Q:=by
  refine k_val (v:=.pointer (some ⟨b,o,none⟩)) (w':=w) rfl ?_ (by rw[act_put];exact hk)
  simp[execOp,hx]
theorem k_lenLm {l:List UInt8}{m:Nat}(hu:P.underlying t=some .string)(hx:ev N e x=S l)(hm:l.length=m)(hk:K (act N (upd e d (.int .i64 ((m:Nat):Int))) ds) w):
    Oper.wpIn (Fw r) n P ⟨some d,.call {callee:=.builtin .len,args:=#[x],argTypes:=#[t]},ty,pos,af,g⟩ (act N e ds) w K Q:=
  k_lenL (l:=l) hu hx (by rw[hm];exact hk)
theorem own_nil {W:World}{base:Nat}{et:TypeId}{sz:Nat}:W.ownsRow base et sz (.slice none 0 0) 0 []:=⟨by simp,.inl ⟨rfl,rfl⟩⟩
theorem own_ne_new {W:World}{base sz k:Nat}{et:TypeId}{v:Value}{cs:List Value}(h:W.ownsRow base et sz v k cs):v.ownBlock≠some W.heap.size:=by
  obtain⟨hl,⟨rfl,_⟩|⟨g,cap,cur,rfl,hg,hh,_⟩⟩:=h
  · simp[Value.ownBlock]
  · have:g<W.heap.size:=(Array.getElem?_eq_some_iff.1 hh).1
    simp[Value.ownBlock];omega
theorem own_ne_app {W:World}{v v':Value}{b:Nat}(ha:v'.ownBlock=v.ownBlock∨v'.ownBlock=some W.heap.size)(hn:v.ownBlock≠some b)(hb:b<W.heap.size):v'.ownBlock≠some b:=by
  rcases ha with h|h
  · rw[h];exact hn
  · rw[h];simp;omega
theorem own_ge {W:World}{base sz k:Nat}{et:TypeId}{v:Value}{cs:List Value}(h:W.ownsRow base et sz v k cs):∀g,v.ownBlock=some g->base<=g:=by
  obtain⟨hl,⟨rfl,_⟩|⟨g,cap,cur,rfl,hg,hh,_⟩⟩:=h
  · simp[Value.ownBlock]
  · intro _ e;simp[Value.ownBlock]at e;omega
theorem low_app {W0 W W':World}{B base sz k:Nat}{et:TypeId}{v:Value}{cs:List Value}(h:W.ownsRow base et sz v k cs)(hB:B<=base)(hBw:B<=W.heap.size)(hE:Below B W0 W)(hg:W.grownBy W' v.ownBlock):Below B W0 W':=
  low_gr hE hg hBw (λg e=>Nat.le_trans hB (own_ge h g e))
theorem own_cast {W:World}{base sz k k':Nat}{et:TypeId}{v:Value}{cs cs':List Value}(h:W.ownsRow base et sz v k cs)(hk:k=k')(hc:cs=cs'):W.ownsRow base et sz v k' cs':=by subst hk hc;exact h
theorem own_one {W:World}{base sz k:Nat}{et:TypeId}{v:Value}{cs:List Value}(h:W.ownsRow base et sz v k cs):v.oneCell'=true:=by
  obtain⟨hl,⟨rfl,_⟩|⟨g,cap,cur,rfl,_⟩⟩:=h <;>rfl
def RetA (R:Value->World->Prop):Ending->World->Prop
  | .returned v,w'=>R v w'
  |_,_=>False
theorem k_callA {R:Value->World->Prop}{f:FuncId}{xs:Array Operand}{ats:Array TypeId}{vs:List Value}(hf:Enters P f)(hv:xs.toList.map (ev N e)=vs)(hc:Calls P f vs.toArray w (RetA R))(hk:∀v w',R v w'->K (act N (upd e d v) ds) w'):Oper.wpIn (Fw r) n P ⟨some d,.call {callee:=.value (.func f),args:=xs,argTypes:=ats},ty,pos,af,g⟩ (act N e ds) w K Q:=by
  subst hv
  refine⟨λf _=>Fw_fn r f,?_⟩
  have hs:(execOp (ev N e) ⟨some d,.call {callee:=.value (.func f),args:=xs,argTypes:=ats},ty,pos,af,g⟩).run P w=.ok (.enter f (xs.map (ev N e))) w:=by
    simp[execOp,resolve,Deferred.ofValue,ev,invoke,hf _ _]
  rw[semAt_Fw rfl,act_eval,hs]
  refine⟨(λh=>by rw[Fw_depth]at h;cases h),Fw_calls ((show Calls P f (xs.map (ev N e)) w (RetA R)from by have h:=hc;rwa [show(xs.toList.map (ev N e)).toArray=xs.map (ev N e)by rw[<-Array.toList_map,Array.toArray_toList]]at h).mono ?_)⟩
  intro e' w' h
  cases e' with
  | returned v=>
    show K ((act N e ds).put (some d) v) w'
    rw[act_put];exact hk v w' h
  |panicked c=>exact h.elim
  |outgrown=>exact h.elim
theorem reta_of {f:FuncId}{args:Array Value}{R:Ending->World->Prop}{Q:Value->World->Prop}(h:Calls P f args w R)(hq:∀e w',R e w'->∃v,e=.returned v∧Q v w'):Calls P f args w (RetA Q):=
  h.mono (by
    intro e w' hR
    obtain⟨v,rfl,h2⟩:=hq e w' hR
    exact h2)
theorem gb_ext {A B C:World}{row:Option Nat}(h:A.grownBy B row)(k:Ext B C):A.grownBy C row:=
  ⟨k.os.trans h.os,k.tape.trans h.tape,k.output.trans h.output,Nat.le_trans h.size k.size,λi hi hr=>(k.block i (Nat.lt_of_lt_of_le hi h.size)).trans (h.block i hi hr)⟩
theorem gb_put {A B C:World}{b:Nat}(h:A.grownBy B (some b))(k:Put B C b):A.grownBy C (some b):=
  ⟨k.os.trans h.os,k.tape.trans h.tape,k.output.trans h.output,by rw[k.size];exact h.size,λi hi hr=>(k.block i (λe=>hr (by rw[e]))).trans (h.block i hi hr)⟩
theorem gb_putn {A B C:World}{b:Nat}{row:Option Nat}(h:A.grownBy B row)(k:Put B C b)(hb:A.heap.size<=b):A.grownBy C row:=
  ⟨k.os.trans h.os,k.tape.trans h.tape,k.output.trans h.output,by rw[k.size];exact h.size,λi hi hr=>(k.block i (by omega)).trans (h.block i hi hr)⟩
theorem gb_trans {A B C:World}{row:Option Nat}(h:A.grownBy B row)(k:B.grownBy C row):A.grownBy C row:=
  ⟨k.os.trans h.os,k.tape.trans h.tape,k.output.trans h.output,Nat.le_trans h.size k.size,λi hi hr=>(k.block i (Nat.lt_of_lt_of_le hi h.size) hr).trans (h.block i hi hr)⟩
theorem f_inA {f:FuncId}{fn:Func}{c:Code}{args:List Value}{R:Value->World->Prop}(hf:P.funcs[f]?=some fn)(hb:fn.body=some c)(h:c.wpIn (Fw none) 0 P (bodyPost P fn (RetA R)) (act (args.length+(fn.ntmps-args.length)) (ent args) []) w):Calls P f args.toArray w (RetA R):=by
  refine calls_Fw (n:=0) (callsIn_of_wp hf hb trivial ?_)
  rw[act_start]
  exact h
theorem f_outA {fn:Func}{R:Value->World->Prop}{N:Nat}{e:Nat->Value}{w':World}{v:Value}(hr:(results fn (act N e []).tmps).run P w'=.ok v w')(hR:R v w'):bodyPost P fn (RetA R) .ret (act N e []) w':=
  ⟨rfl,v,hr,hR⟩
theorem f_endA {fn:Func}{R:Value->World->Prop}{N:Nat}{e:Nat->Value}{w':World}{v:Value}(hr:(results fn (act N e []).tmps).run P w'=.ok v w')(hR:R v w'):bodyPost P fn (RetA R) .normal (act N e []) w':=
  ⟨rfl,v,hr,hR⟩
end
section draws
variable {P:Program}{r:Option Nat}{n N:Nat}{e0:Nat->Value}{ds:List Deferred}{w0:World}{Q:Exit->Act->World->Prop}{ops:Array Oper}{M:Nat}
theorem c_drawJ {id:Nat}{l:List Oper}(hm:P.follows .mixedOrders=true)(M:Nat)(R:World->World->Prop)(hR0:∀w,R w w.drew)(hRt:∀a b c,R a b->R b c->R a c)(Φ:Nat->Value->World->Prop)(hΦ:∀i v w w',R w w'->Φ i v w->Φ i v w')(J:(Nat->Bool)->World->Prop)(hJ0:J (λ_=>false) w0.drew)(hwf:∀(i:Nat) (o:Oper),l.toArray[i]?=some o->∀e∈o.after,Region.binds .any e=true->e.on<i)(hshape:Region.sinkB .any l.toArray M=true∧Region.chainB .any l.toArray M=true∧M<l.toArray.size∨M=l.toArray.size)(hdst:∀i j d,i<M->j<M->(l.toArray[i]?).bind (·.dst)=some d->(l.toArray[j]?).bind (·.dst)=some d->i=j)(hstep:∀(i:Nat) (o:Oper),i<M->l.toArray[i]? =some o->∀(e:Nat->Value) (w:World) (ls:Nat->Bool),J ls w->(∀j oj,l.toArray[j]? =some oj->ls j=true->∀ed∈oj.after,Region.binds .any ed=true->ls ed.on=true)->ls i=false->(∀ed∈o.after,Region.binds .any ed=true->ls ed.on=true)->R w0 w->(∀t,(∀j,j<M->(l.toArray[j]?).bind (·.dst)≠some t)->e t=e0 t)->
      (∀j,(∃ed∈o.after,Region.binds .any ed=true∧ed.on=j)->∀d,(l.toArray[j]?).bind (·.dst)=some d->Φ j (e d) w)->
      wpListIn (Fw r) n P l.toArray (λx a' w'=>x=.normal∧∃v,a'=(act N e ds).put o.dst v∧R w w'∧Φ i v w'∧J (λj=>if j=i then true else ls j) w') [o] (act N e ds) w)(hfin:∀(e:Nat->Value) (w:World),(∃ls:Nat->Bool,(∀j,j<M->ls j=true)∧J ls w)->R w0 w->(∀t,(∀j,j<M->(l.toArray[j]?).bind (·.dst)≠some t)->e t=e0 t)->
      (∀j d,j<M->(l.toArray[j]?).bind (·.dst)=some d->Φ j (e d) w)->wpListIn (Fw r) n P l.toArray Q (l.drop M) (act N e ds) w):
    (Code.region id l.toArray true).wpIn (Fw r) n P Q (act N e0 ds) w0:=by
  have hMle:M<=l.toArray.size:=by rcases hshape with⟨_,_,h⟩|h <;>omega
  have hchain:Region.chainB .any l.toArray M=true:=by
    rcases hshape with⟨_,h,_⟩|h
    · exact h
    · refine List.all_eq_true.2 λt ht=>?_
      have:=List.mem_range.1 ht
      simp only[Bool.or_eq_true,decide_eq_true_eq]
      left;omega
  refine wpIn_region_any hm ?_
  have main : ∀ (fuel:Nat) (listed:Array Bool) (e:Nat->Value) (w:World),left l.toArray listed<=fuel->HeadInv .any l.toArray M listed->J (λj=>listed.getD j false) w->R w0 w->
      (∀t,(∀j,j<M->(l.toArray[j]?).bind (·.dst)≠some t)->e t=e0 t)->
      (∀j d,j<M->listed.getD j false=true->(l.toArray[j]?).bind (·.dst)=some d->Φ j (e d) w)->
      wpAnyIn (Fw r) n P .any l.toArray Q fuel listed (act N e ds) w:=by
    intro fuel
    induction fuel with
    | zero=>
      intro listed e w hf inv hJ hR hs hφ
      have hall:∀i,i<l.toArray.size->listed.getD i false=true:=by
        intro i hi
        cases hb:listed.getD i false with
        |true=>rfl
        | false=>
          have:=left_set hi inv.size hb
          omega
      refine tail_run hchain hwf 0 l.toArray.size listed _ w 0 rfl hMle inv.size hall (λi h1 h2=>by omega) (Nat.le_refl _) ?_
      by_cases hM:M=l.toArray.size
      · have h:=hfin e w ⟨_,λj hj=>hall j (by omega),hJ⟩ hR hs (λj d hj hd=>hφ j d hj (hall j (by omega)) hd)
        rw[hM]at h
        simpa using h
      · have h1:=inv.tail M (Nat.le_refl _) (by omega)
        have h2:=hall M (by omega)
        rw[getD_both h1]at h2
        cases h2
    | succ fuel ih=>
      intro listed e w hf inv hJ hR hs hφ
      by_cases hdone:∀i,i<M->listed.getD i false=true
      · refine tail_run hchain hwf (l.toArray.size-M) M listed _ w (fuel+1) (by omega) (Nat.le_refl _) inv.size hdone (λi h1 h2=>inv.tail i h1 h2) ?_ ?_
        · have h1:l.toArray.size-M<=left l.toArray listed:=left_tail hMle (λi h1 h2=>getD_both (inv.tail i h1 h2))
          omega
        · simpa using hfin e w ⟨_,λj hj=>hdone j hj,hJ⟩ hR hs (λj d hj hd=>hφ j d hj (hdone j hj) hd)
      · have hex:∃i,i<M∧listed.getD i false=false:=by
          refine Classical.byContradiction λhn=>hdone λi hi=>?_
          cases hb:listed.getD i false with
          |true=>rfl
          |false=>exact absurd ⟨i,hi,hb⟩ hn
        obtain⟨i0,hi0,hb0⟩:=hex
        have hin:∀i∈Region.ready .any l.toArray listed,i<M:=by
          intro i hi
          rcases Nat.lt_or_ge i M with h|h
          · exact h
          · rcases hshape with⟨h1,h2,h3⟩|h3
            · exact absurd hi (tail_waits h1 h2 h3 inv _ i0 rfl hi0 (getD_in (by rw[inv.size];omega) hb0) i h)
            · obtain⟨_,o,ho,_⟩:=mem_ready.1 hi
              have:=(Array.getElem?_eq_some_iff.1 ho).1
              omega
        refine⟨λh0=>?_,λi hi=>?_⟩
        ·
          exfalso
          have least:∀k i,i<=k->i<l.toArray.size->listed.getD i false=false->∃j,j∈Region.ready .any l.toArray listed:=by
            intro k
            induction k with
            | zero=>
              intro i hi hl hb
              obtain rfl:i=0:=by omega
              refine⟨0,mem_ready.2 ⟨getD_in (by rw[inv.size];exact hl) hb,l.toArray[0],Array.getElem?_eq_getElem hl,λed he hbb=>?_⟩⟩
              have:=hwf 0 _ (Array.getElem?_eq_getElem hl) ed he hbb
              omega
            | succ k ihk=>
              intro i hi hl hb
              by_cases hp:∀ed∈(l.toArray[i]).after,Region.binds .any ed=true->listed.getD ed.on false=true
              · exact⟨i,mem_ready.2 ⟨getD_in (by rw[inv.size];exact hl) hb,l.toArray[i],Array.getElem?_eq_getElem hl,hp⟩⟩
              · have:∃ed∈(l.toArray[i]).after,Region.binds .any ed=true∧listed.getD ed.on false=false:=by
                  refine Classical.byContradiction λhn=>hp λed he hbb=>?_
                  cases hb:listed.getD ed.on false with
                  |true=>rfl
                  |false=>exact absurd ⟨ed,he,hbb,hb⟩ hn
                obtain⟨ed,he,hbb,hun⟩:=this
                have hlt:=hwf i _ (Array.getElem?_eq_getElem hl) ed he hbb
                exact ihk ed.on (by omega) (by omega) hun
          obtain⟨j,hj⟩:=least i0 i0 (Nat.le_refl _) (by omega) hb0
          rw[h0]at hj
          cases hj
        · have hiM:=hin i hi
          obtain⟨hun,o,ho,hpred⟩:=mem_ready.1 hi
          have hst:=hstep i o hiM ho e w (λj=>listed.getD j false) hJ (λj oj hj hl=>inv.closed j oj hj hl) (getD_both hun) hpred hR hs (λj ⟨ed,he,hb,hon⟩ d hd=>hφ j d (by have:=hwf i o ho ed he hb;omega) (by rw[<-hon];exact hpred ed he hb) hd)
          have hnext:∀a' w',(∃v,a'=(act N e ds).put o.dst v∧R w w'∧Φ i v w'∧J (λj=>if j=i then true else listed.getD j false) w')->wpAnyIn (Fw r) n P .any l.toArray Q fuel (listed.setIfInBounds i true) a' w':=by
            rintro a' w' ⟨v,rfl,hR',hv,hJ'⟩
            have hil:i<l.toArray.size:=by omega
            have hJ2:J (λj=>(listed.setIfInBounds i true).getD j false) w':=by
              have e:(λj=>(listed.setIfInBounds i true).getD j false)=(λj=>if j=i then true else listed.getD j false):=by
                funext j
                by_cases hj:j=i
                · subst hj;rw[if_pos rfl];have:=inv.size;simp[Array.getD,this];omega
                · rw[if_neg hj,getD_set_ne false (λh=>hj h.symm)]
              rw[e];exact hJ'
            have hlf:left l.toArray (listed.setIfInBounds i true)<=fuel:=by
              have:=left_set hil inv.size (getD_both hun)
              omega
            cases hd:o.dst with
            | none=>
              refine ih _ e w' hlf (inv.set hi hiM) hJ2 (hRt _ _ _ hR hR') hs (λj d hj hl hjd=>?_)
              by_cases hij:i=j
              · subst hij;rw[ho]at hjd;simp[hd]at hjd
              · rw[getD_set_ne false hij]at hl;exact hΦ _ _ _ _ hR' (hφ j d hj hl hjd)
            | some d0=>
              rw[act_put]
              refine ih _ _ w' hlf (inv.set hi hiM) hJ2 (hRt _ _ _ hR hR') (λt ht=>?_) (λj d hj hl hjd=>?_)
              · have:t≠d0:=λh=>ht i hiM (by rw[ho];simp[hd,h])
                rw[upd_ne _ _ this];exact hs t ht
              · by_cases hij:i=j
                · subst hij
                  rw[ho]at hjd
                  simp only[Option.bind_some,hd,Option.some.injEq]at hjd
                  subst hjd
                  rw[upd_eq];exact hv
                · rw[getD_set_ne false hij]at hl
                  have hne:d≠d0:=λh=>hij (hdst i j d hiM hj (by rw[ho];simp[hd,h]) hjd)
                  rw[upd_ne _ _ hne]
                  exact hΦ _ _ _ _ hR' (hφ j d hj hl hjd)
          unfold wpOpIn
          rw[ho]
          dsimp only
          unfold wpListIn at hst
          split
          · rename_i hw
            rw[if_pos hw]at hst
            exact oper_mono2 (λa' w' hh=>hnext a' w' hh.2) (λc a w h=>by cases h.1) (λa w h=>by cases h.1) hst
          · rename_i hw
            rw[if_neg hw]at hst
            exact⟨hst.1,hnext _ _ hst.2.2⟩
  refine main _ _ e0 w0.drew ?_ ⟨by simp,λj oj hj hl=>?_,λt h1 h2=>?_⟩ ((congrArg (λf=>J f w0.drew) (funext λj=>getD_replicate_false _ j)).mpr hJ0) (hR0 w0) (λ_ _=>rfl) (λj d hj hl=>?_)
  · unfold left
    exact Nat.le_trans (List.length_filter_le _ _) (by simp)
  · rw[getD_replicate_false]at hl;cases hl
  · have h3:t<l.length:=by simpa using h2
    simp[h3]
  · rw[getD_replicate_false]at hl;cases hl
def posOf (C:List Nat)(i:Nat):Option Nat:=C.findIdx? (Nat.beq i)
def chainC (l:List Oper)(C:List Nat):Bool:=(List.range C.length).all λp=>match C[p]? with
  |none=>false
  |some c=>Nat.beq p 0||(match C[p-1]?,l[c]? with|some c',some o=>predB o c'|_,_=>false)
def nodupB (C:List Nat):Bool:=(List.range C.length).all λp=>(List.range C.length).all λq=>Nat.beq p q||(match C[p]?,C[q]? with|some a,some b=>!Nat.beq a b|_,_=>true)
def cnt (C:List Nat)(ls:Nat->Bool):Nat:=(C.filter ls).length
def HeadC (r:Option Nat)(n:Nat)(P:Program)(N:Nat)(ds:List Deferred)(l:List Oper)(M:Nat)(R:World->World->Prop)(Φ:List (Value->World->Prop))(C:List Nat)(I:Nat->World->Prop)(e0:Nat->Value)(w0:World):Nat->List Oper->List (Value->World->Prop)->Prop
  |_,[],_=>True
  |_,_::_,[]=>False
  |i,o::os,φ::φs=>(∀(e:Nat->Value) (w:World) (k:Nat),I k w->(∀p,posOf C i=some p->k=p)->R w0 w->(∀t,isDst l M t=false->e t=e0 t)->(∀j d,predB o j=true->dstOf l j=some d->phi Φ j (e d) w)->
      wpListIn (Fw r) n P l.toArray (λx a' w'=>x=.normal∧∃v,a'=(act N e ds).put o.dst v∧R w w'∧φ v w'∧I (match posOf C i with|some p=>p+1|none=>k) w') [o] (act N e ds) w)∧HeadC r n P N ds l M R Φ C I e0 w0 (i+1) os φs
theorem headC_get {l:List Oper}{R:World->World->Prop}{Φ:List (Value->World->Prop)}{C:List Nat}{I:Nat->World->Prop}:∀(os:List Oper) (φs:List (Value->World->Prop)) (i0:Nat),HeadC r n P N ds l M R Φ C I e0 w0 i0 os φs->∀i o,os[i]?=some o->
    (∀(e:Nat->Value) (w:World) (k:Nat),I k w->(∀p,posOf C (i0+i)=some p->k=p)->R w0 w->(∀t,isDst l M t=false->e t=e0 t)->(∀j d,predB o j=true->dstOf l j=some d->phi Φ j (e d) w)->
      wpListIn (Fw r) n P l.toArray (λx a' w'=>x=.normal∧∃v,a'=(act N e ds).put o.dst v∧R w w'∧phi φs i v w'∧I (match posOf C (i0+i)with|some p=>p+1|none=>k) w') [o] (act N e ds) w)
  |[],_,_,_,i,o,h=>by simp at h
  |o'::os,[],_,h,i,o,ho=>h.elim
  |o'::os,φ::φs,i0,h,0,o,ho=>by simp at ho;subst ho;exact h.1
  | o'::os,φ::φs,i0,h,i+1,o,ho=>by
    have:=headC_get os φs (i0+1) h.2 i o (by simpa using ho)
    rw[show i0+1+i=i0+(i+1)by omega]at this
    simpa only[phi,List.getElem?_cons_succ]using this
theorem posOf_some {C:List Nat}{i p:Nat}(h:posOf C i=some p):C[p]?=some i:=by
  unfold posOf at h
  obtain⟨h1,h2,_⟩:=List.findIdx?_eq_some_iff_getElem.1 h
  rw[List.getElem?_eq_getElem h1,Nat.eq_of_beq_eq_true h2]
theorem posOf_none {C:List Nat}{i:Nat}(h:posOf C i=none):i∉C:=by
  unfold posOf at h
  rw[List.findIdx?_eq_none_iff]at h
  intro hm
  have:=h i hm
  simp at this
theorem cnt_not {C:List Nat}{ls:Nat->Bool}{i:Nat}(h:i∉C):cnt C (λj=>if j=i then true else ls j)=cnt C ls:=by
  unfold cnt
  congr 1
  apply List.filter_congr
  intro x hx
  rw[if_neg (λe=>h (by rw[<-e];exact hx))]
theorem cnt_all {C:List Nat}{ls:Nat->Bool}(h:∀c∈C,ls c=true):cnt C ls=C.length:=by
  unfold cnt;rw[List.filter_eq_self.2 h]
theorem cnt_split {C:List Nat}{ls:Nat->Bool}{p:Nat}(hp:p<=C.length)(h1:∀q c,q<p->C[q]?=some c->ls c=true)(h2:∀q c,p<=q->C[q]?=some c->ls c=false):cnt C ls=p:=by
  have e:C.filter ls=(C.take p).filter ls++(C.drop p).filter ls:=by rw[<-List.filter_append,List.take_append_drop]
  unfold cnt
  rw[e,List.length_append]
  have e1:(C.take p).filter ls=C.take p:=List.filter_eq_self.2 (λc hc=>by
    obtain⟨q,hq⟩:=List.mem_iff_getElem?.1 hc
    rw[List.getElem?_take]at hq
    split at hq
    · next hlt=>exact h1 q c hlt hq
    · cases hq)
  have e2:(C.drop p).filter ls=[]:=List.filter_eq_nil_iff.2 (λc hc=>by
    obtain⟨q,hq⟩:=List.mem_iff_getElem?.1 hc
    rw[List.getElem?_drop]at hq
    rw[h2 (p+q) c (by omega) hq];simp)
  rw[e1,e2];simp;omega
theorem cnt_ge {l:List Oper}{C:List Nat}{ls:Nat->Bool}{p i:Nat}(hlink:∀p c c',C[p]?=some c'->C[p+1]?=some c->∃o,l[c]?=some o∧∃ed∈o.after,Region.binds .any ed=true∧ed.on=c')(hcl:∀j oj,l.toArray[j]?=some oj->ls j=true->∀ed∈oj.after,Region.binds .any ed=true->ls ed.on=true)(hget:∀j:Nat,l.toArray[j]?=l[j]?)(hni:ls i=false)(hpi:C[p]?=some i):∀q c,p<=q->C[q]?=some c->ls c=false:=by
  have hdn:∀d q c,C[q]?=some c->p+d=q->ls c=false:=by
    intro d
    induction d with
    | zero=>
      intro q c hq hqd
      have:c=i:=by rw[show q=p by omega,hpi]at hq;exact(Option.some.inj hq).symm
      rw[this];exact hni
    | succ d ih=>
      intro q c hq hqd
      have hl1:p+d<C.length:=by have:=(List.getElem?_eq_some_iff.1 hq).1;omega
      obtain⟨o2,ho2,ed,he,hb,hon⟩:=hlink (p+d) c (C[p+d]) (List.getElem?_eq_getElem hl1) (by rw[show p+d+1=q by omega];exact hq)
      have h8:=ih (p+d) _ (List.getElem?_eq_getElem hl1) rfl
      cases hc:ls c with
      |false=>rfl
      | true=>
        have:=hcl c o2 (by rw[hget];exact ho2) hc ed he hb
        rw[hon,h8]at this
        cases this
  exact λq c hq hc=>hdn (q-p) q c hc (by omega)
theorem cnt_lt {l:List Oper}{C:List Nat}{ls:Nat->Bool}{p i:Nat}{o:Oper}(hlink:∀p c c',C[p]?=some c'->C[p+1]?=some c->∃o,l[c]?=some o∧∃ed∈o.after,Region.binds .any ed=true∧ed.on=c')(hcl:∀j oj,l.toArray[j]?=some oj->ls j=true->∀ed∈oj.after,Region.binds .any ed=true->ls ed.on=true)(hget:∀j:Nat,l.toArray[j]?=l[j]?)(hpi:C[p]?=some i)(ho:l[i]?=some o)(hpr:∀ed∈o.after,Region.binds .any ed=true->ls ed.on=true):∀q c,q<p->C[q]?=some c->ls c=true:=by
  have hup:∀d q c,C[q]?=some c->q+d=p->0<d->ls c=true:=by
    intro d
    induction d with
    |zero=>intro q c _ _ h0;omega
    | succ d ih=>
      intro q c hq hqd _
      have hl1:q+1<C.length:=by have:=(List.getElem?_eq_some_iff.1 hpi).1;omega
      obtain⟨o2,ho2,ed,he,hb,hon⟩:=hlink q (C[q+1]) c hq (List.getElem?_eq_getElem hl1)
      by_cases hd:d=0
      · subst hd
        have:C[q+1]=i:=by
          have h9:C[q+1]?=some i:=by rw[show q+1=p by omega];exact hpi
          rw[List.getElem?_eq_getElem hl1]at h9
          exact Option.some.inj h9
        rw[this,ho]at ho2
        cases ho2
        have:=hpr ed he hb
        rwa [hon]at this
      · have h8:=ih (q+1) (C[q+1]) (List.getElem?_eq_getElem hl1) (by omega) (by omega)
        have:=hcl _ o2 (by rw[hget];exact ho2) h8 ed he hb
        rwa [hon]at this
  exact λq c hq hc=>hup (p-q) q c hc (by omega) (by omega)
theorem list_mono1 {l:List Oper}{K1 K2:Act->World->Prop}{o:Oper}{a:Act}{w:World}(h:wpListIn (Fw r) n P l.toArray (λx a w=>x=.normal∧K1 a w) [o] a w)(hk:∀a w,K1 a w->K2 a w):wpListIn (Fw r) n P l.toArray (λx a w=>x=.normal∧K2 a w) [o] a w:=by
  unfold wpListIn at h ⊢
  split
  · rename_i hw
    rw[if_pos hw]at h
    exact oper_mono2 (λa' w' hh=>⟨hh.1,hk _ _ hh.2⟩) (λc a w h=>by cases h.1) (λa w h=>by cases h.1) h
  · rename_i hw
    rw[if_neg hw]at h
    exact⟨h.1,h.2.1,hk _ _ h.2.2⟩
theorem c_anyC {id:Nat}{l:List Oper}(hm:P.follows .mixedOrders=true)(M:Nat)(R:World->World->Prop)(hR0:∀w,R w w.drew)(hRt:∀a b c,R a b->R b c->R a c)(Φ:List (Value->World->Prop))(hΦ:Stable R Φ)(hwf:wfB l=true)(hshape:shapeB l M=true)(hdst:dstB l M=true)(C:List Nat)(hC:chainC l C=true)(hN:nodupB C=true)(hCM:(C.all λc=>Nat.blt c M)=true)(I:Nat->World->Prop)(hI0:I 0 w0.drew)(hstep:HeadC r n P N ds l M R Φ C I e0 w0 0 (l.take M) Φ)(hfin:∀(e:Nat->Value) (w:World),I C.length w->R w0 w->(∀t,isDst l M t=false->e t=e0 t)->(∀j d,Nat.blt j M=true->dstOf l j=some d->phi Φ j (e d) w)->wpListIn (Fw r) n P l.toArray Q (l.drop M) (act N e ds) w):
    (Code.region id l.toArray true).wpIn (Fw r) n P Q (act N e0 ds) w0:=by
  have hget:∀j:Nat,l.toArray[j]?=l[j]?:=λj=>by rw[List.getElem?_toArray]
  have hnd:∀t,isDst l M t=false->∀j,j<M->(l.toArray[j]?).bind (·.dst)≠some t:=by
    intro t ht j hj h
    rw[hget]at h
    cases ho:l[j]? with
    |none=>rw[ho]at h;cases h
    | some o=>
      rw[ho]at h
      simp only[Option.bind_some]at h
      have h1:=List.any_eq_false.1 ht o (List.mem_iff_getElem?.2 ⟨j,by rw[List.getElem?_take,if_pos hj];exact ho⟩)
      rw[h]at h1
      simp at h1
  have hlink:∀p c c',C[p]?=some c'->C[p+1]?=some c->∃o,l[c]?=some o∧∃ed∈o.after,Region.binds .any ed=true∧ed.on=c':=by
    intro p c c' h1 h2
    have h3:=List.all_eq_true.1 hC (p+1) (List.mem_range.2 (List.getElem?_eq_some_iff.1 h2).1)
    rw[h2]at h3
    simp only[Nat.add_sub_cancel,h1]at h3
    cases ho:l[c]? with
    |none=>rw[ho]at h3;simp at h3
    | some o=>
      rw[ho]at h3
      simp at h3
      obtain⟨ed,he,hb⟩:=List.any_eq_true.1 h3
      simp only[Bool.and_eq_true]at hb
      exact⟨o,rfl,ed,by simpa using he,hb.1,Nat.eq_of_beq_eq_true hb.2⟩
  have hdup:∀p q c:Nat,C[p]?=some c->C[q]?=some c->p=q:=by
    intro p q c h1 h2
    have h3:=List.all_eq_true.1 (List.all_eq_true.1 hN p (List.mem_range.2 (List.getElem?_eq_some_iff.1 h1).1)) q (List.mem_range.2 (List.getElem?_eq_some_iff.1 h2).1)
    rw[h1,h2]at h3
    simp at h3
    exact h3
  refine c_drawJ hm M R hR0 hRt (phi Φ) (stable_get hΦ) (λls w=>I (cnt C ls) w) ?_ ?_ ?_ ?_ ?_ ?_
  · have:cnt C (λ_=>false)=0:=by unfold cnt;rw[List.filter_eq_nil_iff.2 (by simp)];rfl
    rw[this];exact hI0
  · intro i o ho ed he hb
    rw[hget]at ho
    have h1:=List.all_eq_true.1 hwf i (List.mem_range.2 (List.getElem?_eq_some_iff.1 ho).1)
    rw[ho]at h1
    have h2:=List.all_eq_true.1 h1 ed (by simpa using he)
    simp only[hb,Bool.not_true,Bool.false_or]at h2
    rwa [Nat.blt_eq]at h2
  · simp only[shapeB,Bool.or_eq_true,Bool.and_eq_true]at hshape
    rcases hshape with⟨⟨h1,h2⟩,h3⟩|h
    · rw[Nat.blt_eq]at h3;exact .inl ⟨h1,h2,by simpa using h3⟩
    · exact .inr (by simpa using Nat.eq_of_beq_eq_true h)
  · intro i j d hi hj hdi hdj
    have h1:=List.all_eq_true.1 (List.all_eq_true.1 hdst i (List.mem_range.2 hi)) j (List.mem_range.2 hj)
    rw[hget]at hdi hdj
    simp only[dstOf,hdi,hdj,Bool.or_eq_true]at h1
    rcases h1 with h1|h1
    · exact Nat.eq_of_beq_eq_true h1
    · simp at h1
  · intro i o hi ho e w ls hJ hcl hni hpr hR hs hφ
    have ho':=ho
    rw[hget]at ho
    have hk:∀p,posOf C i=some p->cnt C ls=p:=by
      intro p hp
      have hpi:=posOf_some hp
      refine cnt_split (Nat.le_of_lt (List.getElem?_eq_some_iff.1 hpi).1) (cnt_lt hlink hcl hget hpi ho hpr) (cnt_ge hlink hcl hget hni hpi)
    have h1:=headC_get (l.take M) Φ 0 hstep i o (by rw[List.getElem?_take,if_pos hi];exact ho) e w (cnt C ls) hJ (λp hp=>hk p (by rw[Nat.zero_add]at hp;exact hp)) hR (λt ht=>hs t (hnd t ht)) (λj d hp hd=>?_)
    · refine list_mono1 h1 ?_
      rintro _ w' ⟨v,ha,hR',hv,hI'⟩
      refine⟨v,ha,hR',hv,?_⟩
      rw[Nat.zero_add]at hI'
      cases hp:posOf C i with
      |none=>rw[hp]at hI';show I (cnt C _) w';rw[cnt_not (posOf_none hp)];exact hI'
      | some p=>
        rw[hp]at hI'
        have hkp:=hk p hp
        have hpi:=posOf_some hp
        show I (cnt C _) w'
        have:cnt C (λj=>if j=i then true else ls j)=p+1:=by
          refine cnt_split (by have:=(List.getElem?_eq_some_iff.1 hpi).1;omega) (λq c hq hc=>?_) (λq c hq hc=>?_)
          · by_cases hci:c=i
            · rw[if_pos hci]
            · rw [if_neg hci]
              have hqp:q<p:=by
                rcases Nat.lt_or_ge q p with h|h
                · exact h
                · have:q=p:=by omega
                  subst this;rw[hpi]at hc;exact absurd (Option.some.inj hc).symm hci
              exact cnt_lt hlink hcl hget hpi ho hpr q c hqp hc
          · have hci:c≠i:=λe=>by subst e;have:=hdup _ _ _ hc hpi;omega
            rw[if_neg hci]
            exact cnt_ge hlink hcl hget hni hpi q c (by omega) hc
        rw[this];exact hI'
    · obtain⟨ed,he,hb⟩:=List.any_eq_true.1 hp
      simp only[Bool.and_eq_true]at hb
      exact hφ j ⟨ed,by simpa using he,hb.1,Nat.eq_of_beq_eq_true hb.2⟩ d (by rw[hget];exact hd)
  · rintro e w ⟨ls,hall,hJ⟩ hR hs hφ
    have hc:cnt C ls=C.length:=cnt_all (λc hc=>hall c (by have:=List.all_eq_true.1 hCM c hc;rwa [Nat.blt_eq]at this))
    rw[hc]at hJ
    exact hfin e w hJ hR (λt ht=>hs t (hnd t ht)) (λj d hj hd=>hφ j d (by rwa [Nat.blt_eq]at hj) (by rw[hget];exact hd))
end draws
section scope
variable {P:Program}{F:Fence}{n:Nat}{b:Frame}{a:Act}{k:List Item}{cs:List Frame}{w:World}{Q:Exit->Act->World->Prop}
theorem stepR_scope {c:Code}:step P (lone (b.atR a (.code (.scope c)::k)) cs w)=.next (lone (b.atR a (.code c:: .inScope c::k)) cs w):=
  step_lone_go (by simp[stepG,stepG.exec,Frame.atR])
theorem stepR_inScope {c:Code}:step P (lone (b.atR a (.inScope c::k)) cs w)=.next (lone (b.atR a k) cs w):=
  step_lone_go (by simp[stepG,stepG.exec,Frame.atR])
theorem wpIn_scope {c:Code}(h:c.wpIn F n P (Exit.noGoto Q) a w):(Code.scope c).wpIn F n P Q a w:=by
  intro b k cs hro hb hr
  have h0:(lone (b.atR a (.code (.scope c)::k)) cs w).fenced P F:=fenced_calm hb hr rfl
  obtain⟨e,a₁,w₁,hq,harr⟩:=h b (.inScope c::k) cs hro hb hr
  cases e with
  |normal=>exact⟨.normal,a₁,w₁,hq,.head h0 stepR_scope (StepsIn.trans harr (.one (fenced_calm hb hr rfl) stepR_inScope))⟩
  | exit id=>
    exact⟨.exit id,a₁,w₁,hq,λk' hk=>.head h0 stepR_scope (harr.1 k' (by simp[exitTo,hk])),
      λhr' hk=>let ⟨k₁,h1,h2⟩:=harr.2 hr' (by simp[exitTo,hk]);⟨k₁,h1,.head h0 stepR_scope h2⟩⟩
  |goto l=>exact hq.elim
  |ret=>exact⟨_,a₁,w₁,hq,.of_steps (.one h0 stepR_scope) harr⟩
  |panic ch=>exact⟨_,a₁,w₁,hq,.of_steps (.one h0 stepR_scope) harr⟩
  |outgrown=>exact⟨_,a₁,w₁,hq,.of_steps (.one h0 stepR_scope) harr⟩
theorem r_scope (h:Q .ret a w):Exit.noGoto Q .ret a w:=h
theorem n_scope (h:Q .normal a w):Exit.noGoto Q .normal a w:=h
end scope
section conv
variable {P:Program}{r:Option Nat}{n N:Nat}{e:Nat->Value}{ds:List Deferred}{w:World}{Q:Exit->Act->World->Prop}{K:Act->World->Prop}
variable {d ty:Nat}{pos:String}{af:Array Edge}{g:Option (Nat×Bool)}{v u:Value}{x y:Operand}{t t':TypeId}
theorem push_all:∀(l:List UInt8) (s:ByteArray),(l.map (λb=>((b.toNat:Nat):Int))).foldl (λr n=>r.push (UInt8.ofNat n.toNat)) s=⟨(s.data.toList++l).toArray⟩
  |[],s=>by simp
  | b::l,s=>by
    simp only[List.map_cons,List.foldl_cons]
    rw[push_all l]
    congr 1
    simp[ByteArray.push]
theorem k_b2s {src dst el m c lo:Nat}{A:Option Addr}{l:List UInt8}(hs:P.underlying src=some (.slice el))(he:P.underlying el=some (.int .u8))(hd:P.underlying dst=some .string)(hx:ev N e x=.slice A m c)(hr:Rw w lo A (l.map λb=>Value.int .u8 b.toNat))(hm:l.length=m)(hk:K (act N (upd e d (S l)) ds) w):
    Oper.wpIn (Fw r) n P ⟨some d,.convert src dst x,ty,pos,af,g⟩ (act N e ds) w K Q:=by
  refine k_val (v:=S l) (w':=w) rfl ?_ (by rw[act_put];exact hk)
  have key:(convert src dst (.slice A m c)).run P w=.ok (S l) w:=by
    rw[run_convert_bytes_string w src dst el A m c hs he hd]
    cases A with
    | none=>
      have:l=[]:=by
        cases l with
        |nil=>rfl
        | cons b t=>
          obtain⟨_,_,h,_⟩:=hr.cells 0 _ rfl
          cases h
      subst this
      simp[Conv.bytesToString,S];rfl
    | some a=>
      have hl:(loadCells a m).run P w=.ok ((l.map (λb=>((b.toNat:Nat):Int))).map (Value.int .u8)).toArray w:=by
        by_cases h0:l=[]
        · subst h0;simp at hm;subst hm;simp[loadCells,loadCellsFrom]
        · have hlt:0<l.length:=List.length_pos_iff.2 h0
          obtain⟨b,o,hA,_⟩:=hr.cells 0 _ (by rw[List.getElem?_map,List.getElem?_eq_getElem hlt];rfl)
          cases hA
          have h9:=run_loadCells_list (P:=P) (w:=w) ⟨b,o,none⟩ (l.map λb=>Value.int .u8 b.toNat) (λj v hv=>by
            obtain⟨_,_,hA',hc⟩:=hr.cells j v hv
            cases hA'
            rw[Addr.add_mid];exact hc)
          rw[List.length_map,hm]at h9
          rw[h9,List.map_map];rfl
      rw[run_bytesToString w a m c _ hl,push_all]
      rfl
  simp[execOp,hx,key]
theorem k_quoT {a b c:Int}(hx:ev N e x=.int .i64 a)(hy:ev N e y=.int .i64 b)(h1:b≠0)(hc:a.tdiv b=c)(hr:In64 c)(hk:K (act N (upd e d (.int .i64 c)) ds) w):
    Oper.wpIn (Fw r) n P ⟨some d,.binOp .quo t x y t',ty,pos,af,g⟩ (act N e ds) w K Q:=
  k_bin hx hy (guard_int ..) (by subst hc;simp[binOp,Op.intDiv,h1,wrap_in hr]) hk
theorem k_remT {a b c:Int}(hx:ev N e x=.int .i64 a)(hy:ev N e y=.int .i64 b)(h1:b≠0)(hc:a.tmod b=c)(hk:K (act N (upd e d (.int .i64 c)) ds) w):
    Oper.wpIn (Fw r) n P ⟨some d,.binOp .rem t x y t',ty,pos,af,g⟩ (act N e ds) w K Q:=
  k_bin hx hy (guard_int ..) (by subst hc;simp[binOp,Op.intDiv,h1]) hk
theorem res4 {fn:Func}{tmps:Array Value}{r1 r2 r3 r4:ResultVar}{v1 v2 v3 v4:Value}(h:fn.results=#[r1,r2,r3,r4])(h1:(resRun tmps r1).run P w=.ok v1 w)(h2:(resRun tmps r2).run P w=.ok v2 w)(h3:(resRun tmps r3).run P w=.ok v3 w)(h4:(resRun tmps r4).run P w=.ok v4 w):
    (results fn tmps).run P w=.ok (.tuple #[v1,v2,v3,v4]) w:=by
  rw[results_eq,h];simp[h1,h2,h3,h4]
theorem f_ret4 {fn:Func}{R:Value->World->Prop}{N t u s q:Nat}{e:Nat->Value}{w w':World}{v1 v2 v3 v4:Value}(hres:fn.results=#[.tmp t,.tmp u,.tmp s,.tmp q])(hx:Ext w w')(hR:R (.tuple #[v1,v2,v3,v4]) w')(h1:ev N e (.tmp t)=v1)(h2:ev N e (.tmp u)=v2)(h3:ev N e (.tmp s)=v3)(h4:ev N e (.tmp q)=v4):bodyPost P fn (Ret w R) .ret (act N e []) w':=
  f_out (res4 hres (res_tmp h1 w') (res_tmp h2 w') (res_tmp h3 w') (res_tmp h4 w')) hx hR
theorem k_arrAddr {el m:Nat}{b o i s oo:Nat}{k:IntKind}(hu:P.underlying t=some (.array m el))(hs:(P.info? el).map (·.size)=some s)(hx:ev N e x=.pointer (some ⟨b,o,none⟩))(hy:ev N e y=.int k (i:Int))(hlt:i<m)(hoo:o+i*s=oo)(hk:K (act N (upd e d (.pointer (some ⟨b,oo,none⟩))) ds) w):Oper.wpIn (Fw r) n P ⟨some d,.indexAddr t x y,ty,pos,af,g⟩ (act N e ds) w K Q:=by
  refine k_val (v:=.pointer (some ⟨b,oo,none⟩)) (w':=w) rfl ?_ (by rw[act_put];exact hk)
  subst hoo
  cases hi:P.info? el with
  |none=>simp[hi]at hs
  | some inf=>
    have hs':inf.size=s:=by simpa[hi]using hs
    subst hs'
    simp[execOp,hx,hy,Instr.indexAt,run_underlying hu,asIntOf,hlt,sizeOf,typeInfo,hi,Addr.add_mid,Instr.sureAddr]
end conv
def setB (ls:Nat->Bool)(i:Nat):Nat->Bool:=λj=>match Nat.beq j i with|true=>true|false=>ls j
def updO (e:Nat->Value):Option Nat->Value->Nat->Value
  |some d,v=>upd e d v
  |none,_=>e
section draws
variable {P:Program}{r:Option Nat}{n N:Nat}{e0:Nat->Value}{ds:List Deferred}{w0:World}{Q:Exit->Act->World->Prop}{ops:Array Oper}{M:Nat}
theorem c_state {id :Nat}{l:List Oper}(hm:P.follows .mixedOrders=true)(M:Nat)(J:(Nat->Bool)->(Nat->Value)->World->Prop)(hJ0:J (λ_=>false) e0 w0.drew)(hwf:∀(i:Nat) (o:Oper),l.toArray[i]?=some o->∀e∈o.after,Region.binds .any e=true->e.on<i)(hshape:Region.sinkB .any l.toArray M=true∧Region.chainB .any l.toArray M=true∧M<l.toArray.size∨M=l.toArray.size)(hstep:∀(i:Nat) (o:Oper),i<M->l.toArray[i]?=some o->∀(e:Nat->Value) (w:World) (ls:Nat->Bool),J ls e w->(∀j oj,l.toArray[j]?=some oj->ls j=true->∀ed∈oj.after,Region.binds .any ed=true->ls ed.on=true)->ls i=false->(∀ed∈o.after,Region.binds .any ed=true->ls ed.on=true)->
      wpListIn (Fw r) n P l.toArray (λx a' w'=>x=.normal∧∃v,a'=(act N e ds).put o.dst v∧J (setB ls i) (updO e o.dst v) w') [o] (act N e ds) w)(hfin:∀(e:Nat->Value) (w:World) (ls:Nat->Bool),(∀j,j<M->ls j=true)->J ls e w->wpListIn (Fw r) n P l.toArray Q (l.drop M) (act N e ds) w):
    (Code.region id l.toArray true).wpIn (Fw r) n P Q (act N e0 ds) w0:=by
  have hMle:M<=l.toArray.size:=by rcases hshape with⟨_,_,h⟩|h <;>omega
  have hchain:Region.chainB .any l.toArray M=true:=by
    rcases hshape with⟨_,h,_⟩|h
    · exact h
    · refine List.all_eq_true.2 λt ht=>?_
      have:=List.mem_range.1 ht
      simp only[Bool.or_eq_true,decide_eq_true_eq]
      left;omega
  refine wpIn_region_any hm ?_
  have main : ∀ (fuel:Nat) (listed:Array Bool) (e:Nat->Value) (w:World),left l.toArray listed<=fuel->HeadInv .any l.toArray M listed->J (λj=>listed.getD j false) e w->
      wpAnyIn (Fw r) n P .any l.toArray Q fuel listed (act N e ds) w:=by
    intro fuel
    induction fuel with
    | zero=>
      intro listed e w hf inv hJ
      have hall:∀i,i<l.toArray.size->listed.getD i false=true:=by
        intro i hi
        cases hb:listed.getD i false with
        |true=>rfl
        | false=>
          have:=left_set hi inv.size hb
          omega
      refine tail_run hchain hwf 0 l.toArray.size listed _ w 0 rfl hMle inv.size hall (λi h1 h2=>by omega) (Nat.le_refl _) ?_
      by_cases hM:M=l.toArray.size
      · have h:=hfin e w _ (λj hj=>hall j (by omega)) hJ
        rw[hM]at h
        simpa using h
      · have h1:=inv.tail M (Nat.le_refl _) (by omega)
        have h2:=hall M (by omega)
        rw[getD_both h1]at h2
        cases h2
    | succ fuel ih=>
      intro listed e w hf inv hJ
      by_cases hdone:∀i,i<M->listed.getD i false=true
      · refine tail_run hchain hwf (l.toArray.size-M) M listed _ w (fuel+1) (by omega) (Nat.le_refl _) inv.size hdone (λi h1 h2=>inv.tail i h1 h2) ?_ ?_
        · have h1:l.toArray.size-M<=left l.toArray listed:=left_tail hMle (λi h1 h2=>getD_both (inv.tail i h1 h2))
          omega
        · simpa using hfin e w _ (λj hj=>hdone j hj) hJ
      · have hex:∃i,i<M∧listed.getD i false=false:=by
          refine Classical.byContradiction λhn=>hdone λi hi=>?_
          cases hb:listed.getD i false with
          |true=>rfl
          |false=>exact absurd ⟨i,hi,hb⟩ hn
        obtain⟨i0,hi0,hb0⟩:=hex
        have hin:∀i∈Region.ready .any l.toArray listed,i<M:=by
          intro i hi
          rcases Nat.lt_or_ge i M with h|h
          · exact h
          · rcases hshape with⟨h1,h2,h3⟩|h3
            · exact absurd hi (tail_waits h1 h2 h3 inv _ i0 rfl hi0 (getD_in (by rw[inv.size];omega) hb0) i h)
            · obtain⟨_,o,ho,_⟩:=mem_ready.1 hi
              have:=(Array.getElem?_eq_some_iff.1 ho).1
              omega
        refine⟨λh0=>?_,λi hi=>?_⟩
        ·
          exfalso
          have least:∀k i,i<=k->i<l.toArray.size->listed.getD i false=false->∃j,j∈Region.ready .any l.toArray listed:=by
            intro k
            induction k with
            | zero=>
              intro i hi hl hb
              obtain rfl:i=0:=by omega
              refine⟨0,mem_ready.2 ⟨getD_in (by rw[inv.size];exact hl) hb,l.toArray[0],Array.getElem?_eq_getElem hl,λed he hbb=>?_⟩⟩
              have:=hwf 0 _ (Array.getElem?_eq_getElem hl) ed he hbb
              omega
            | succ k ihk=>
              intro i hi hl hb
              by_cases hp:∀ed∈(l.toArray[i]).after,Region.binds .any ed=true->listed.getD ed.on false=true
              · exact⟨i,mem_ready.2 ⟨getD_in (by rw[inv.size];exact hl) hb,l.toArray[i],Array.getElem?_eq_getElem hl,hp⟩⟩
              · have:∃ed∈(l.toArray[i]).after,Region.binds .any ed=true∧listed.getD ed.on false=false:=by
                  refine Classical.byContradiction λhn=>hp λed he hbb=>?_
                  cases hb:listed.getD ed.on false with
                  |true=>rfl
                  |false=>exact absurd ⟨ed,he,hbb,hb⟩ hn
                obtain⟨ed,he,hbb,hun⟩:=this
                have hlt:=hwf i _ (Array.getElem?_eq_getElem hl) ed he hbb
                exact ihk ed.on (by omega) (by omega) hun
          obtain⟨j,hj⟩:=least i0 i0 (Nat.le_refl _) (by omega) hb0
          rw[h0]at hj
          cases hj
        · have hiM:=hin i hi
          obtain⟨hun,o,ho,hpred⟩:=mem_ready.1 hi
          have hst:=hstep i o hiM ho e w (λj=>listed.getD j false) hJ (λj oj hj hl=>inv.closed j oj hj hl) (getD_both hun) hpred
          have hnext:∀a' w',(∃v,a'=(act N e ds).put o.dst v∧J (setB (λj=>listed.getD j false) i) (updO e o.dst v) w')->wpAnyIn (Fw r) n P .any l.toArray Q fuel (listed.setIfInBounds i true) a' w':=by
            rintro a' w' ⟨v,rfl,hJ'⟩
            have hil:i<l.toArray.size:=by omega
            have hJ2:J (λj=>(listed.setIfInBounds i true).getD j false) (updO e o.dst v) w':=by
              have e':(λj=>(listed.setIfInBounds i true).getD j false)=setB (λj=>listed.getD j false) i:=by
                funext j
                by_cases hj:j=i
                · subst hj;unfold setB;simp;have:=inv.size;simp[this];omega
                · have hb:Nat.beq j i=false:=by
                    cases hb:Nat.beq j i with
                    |false=>rfl
                    |true=>exact absurd (Nat.eq_of_beq_eq_true hb) hj
                  unfold setB;rw[hb];simp only;rw[getD_set_ne false (λh=>hj h.symm)]
              rw[e'];exact hJ'
            have hlf:left l.toArray (listed.setIfInBounds i true)<=fuel:=by
              have:=left_set hil inv.size (getD_both hun)
              omega
            cases hd:o.dst with
            | none=>
              rw[hd]at hJ2
              exact ih _ e w' hlf (inv.set hi hiM) hJ2
            | some d0=>
              rw[hd]at hJ2
              rw[act_put]
              exact ih _ _ w' hlf (inv.set hi hiM) hJ2
          unfold wpOpIn
          rw[ho]
          dsimp only
          unfold wpListIn at hst
          split
          · rename_i hw
            rw[if_pos hw]at hst
            exact oper_mono2 (λa' w' hh=>hnext a' w' hh.2) (λc a w h=>by cases h.1) (λa w h=>by cases h.1) hst
          · rename_i hw
            rw[if_neg hw]at hst
            exact⟨hst.1,hnext _ _ hst.2.2⟩
  refine main _ _ e0 w0.drew ?_ ⟨by simp,λj oj hj hl=>?_,λt h1 h2=>?_⟩ ((congrArg (λf=>J f e0 w0.drew) (funext λj=>getD_replicate_false _ j)).mpr hJ0)
  · unfold left
    exact Nat.le_trans (List.length_filter_le _ _) (by simp)
  · rw[getD_replicate_false]at hl;cases hl
  · have h3:t<l.length:=by simpa using h2
    simp[h3]
def predAt (l:List Oper)(j k:Nat):Bool:=match l[j]? with|some o=>predB o k|none=>false
def StepsS (r:Option Nat)(n:Nat)(P:Program)(N:Nat)(ds:List Deferred)(l:List Oper)(J:(Nat->Bool)->(Nat->Value)->World->Prop):Nat->List Oper->Prop
  |_,[]=>True
  |i,o::os=>(∀(e:Nat->Value) (w:World) (ls:Nat->Bool),J ls e w->(∀j k,predAt l j k=true->ls j=true->ls k=true)->ls i=false->(∀k,predAt l i k=true->ls k=true)->
      wpListIn (Fw r) n P l.toArray (λx a' w'=>x=.normal∧∃v,a'=(act N e ds).put o.dst v∧J (setB ls i) (updO e o.dst v) w') [o] (act N e ds) w)∧StepsS r n P N ds l J (i+1) os
theorem stepsS_get {l:List Oper}{J:(Nat->Bool)->(Nat->Value)->World->Prop}:∀(os:List Oper) (i0:Nat),StepsS r n P N ds l J i0 os->∀i o,os[i]?=some o->
    (∀(e:Nat->Value) (w:World) (ls:Nat->Bool),J ls e w->(∀j k,predAt l j k=true->ls j=true->ls k=true)->ls (i0+i)=false->(∀k,predAt l (i0+i) k=true->ls k=true)->
      wpListIn (Fw r) n P l.toArray (λx a' w'=>x=.normal∧∃v,a'=(act N e ds).put o.dst v∧J (setB ls (i0+i)) (updO e o.dst v) w') [o] (act N e ds) w)
  |[],_,_,i,o,h=>by simp at h
  |o'::os,i0,h,0,o,ho=>by simp at ho;subst ho;exact h.1
  | o'::os,i0,h,i+1,o,ho=>by
    have:=stepsS_get os (i0+1) h.2 i o (by simpa using ho)
    rwa [show i0+1+i=i0+(i+1)by omega]at this
theorem pred_iff {l:List Oper}{j k:Nat}{o:Oper}(ho:l[j]?=some o):predAt l j k=true↔∃ed∈o.after,Region.binds .any ed=true∧ed.on=k:=by
  unfold predAt predB
  rw[ho]
  simp only[List.any_eq_true,Bool.and_eq_true]
  constructor
  · rintro⟨ed,h1,h2,h3⟩;exact⟨ed,by simpa using h1,h2,Nat.eq_of_beq_eq_true h3⟩
  · rintro⟨ed,h1,h2,h3⟩;exact⟨ed,by simpa using h1,h2,by subst h3;simp⟩
theorem c_st {id:Nat}{l:List Oper}(hm:P.follows .mixedOrders=true)(M:Nat)(J:(Nat->Bool)->(Nat->Value)->World->Prop)(hJ0:J (λ_=>false) e0 w0.drew)(hwf:wfB l=true)(hshape:shapeB l M=true)(hstep:StepsS r n P N ds l J 0 (l.take M))(hfin:∀(e:Nat->Value) (w:World) (ls:Nat->Bool),(∀j,Nat.blt j M=true->ls j=true)->J ls e w->wpListIn (Fw r) n P l.toArray Q (l.drop M) (act N e ds) w):
    (Code.region id l.toArray true).wpIn (Fw r) n P Q (act N e0 ds) w0:=by
  have hget:∀j:Nat,l.toArray[j]?=l[j]?:=λj=>by rw[List.getElem?_toArray]
  refine c_state hm M J hJ0 ?_ ?_ ?_ (λe w ls h1 h2=>hfin e w ls (λj hj=>h1 j (by rwa [Nat.blt_eq]at hj)) h2)
  · intro i o ho ed he hb
    rw[hget]at ho
    have h1:=List.all_eq_true.1 hwf i (List.mem_range.2 (List.getElem?_eq_some_iff.1 ho).1)
    rw[ho]at h1
    have h2:=List.all_eq_true.1 h1 ed (by simpa using he)
    simp only[hb,Bool.not_true,Bool.false_or]at h2
    rwa [Nat.blt_eq]at h2
  · simp only[shapeB,Bool.or_eq_true,Bool.and_eq_true]at hshape
    rcases hshape with⟨⟨h1,h2⟩,h3⟩|h
    · rw[Nat.blt_eq]at h3;exact .inl ⟨h1,h2,by simpa using h3⟩
    · exact .inr (by simpa using Nat.eq_of_beq_eq_true h)
  · intro i o hi ho e w ls hJ hcl hni hpr
    rw[hget]at ho
    have h1:=stepsS_get (l.take M) 0 hstep i o (by rw[List.getElem?_take,if_pos hi];exact ho)
    simp only[Nat.zero_add]at h1
    refine h1 e w ls hJ (λj k hp hl=>?_) hni (λk hp=>?_)
    · cases hj:l[j]? with
      |none=>unfold predAt at hp;rw[hj]at hp;cases hp
      | some oj=>
        obtain⟨ed,he,hb,rfl⟩:=(pred_iff hj).1 hp
        exact hcl j oj (by rw[hget];exact hj) hl ed he hb
    · obtain⟨ed,he,hb,rfl⟩:=(pred_iff ho).1 hp
      exact hpr ed he hb
theorem c_st2 {id:Nat}{l:List Oper}(hm:P.follows .mixedOrders=true)(M:Nat)(J:(Nat->Value)->(Nat->Bool)->(Nat->Value)->World->Prop)(hJ0:J e0 (λ_=>false) e0 w0.drew)(hwf:wfB l=true)(hshape:shapeB l M=true)(hstep:StepsS r n P N ds l (J e0) 0 (l.take M))(hfin:∀(e:Nat->Value) (w:World) (ls:Nat->Bool),(∀j,Nat.blt j M=true->ls j=true)->J e0 ls e w->wpListIn (Fw r) n P l.toArray Q (l.drop M) (act N e ds) w):
    (Code.region id l.toArray true).wpIn (Fw r) n P Q (act N e0 ds) w0:=c_st hm M (J e0) hJ0 hwf hshape hstep hfin
theorem unl {l:List Oper}{ls:Nat->Bool}{i j:Nat}(hcl:∀j k,predAt l j k=true->ls j=true->ls k=true)(hp:predAt l j i=true)(h:ls i=false):ls j=false:=by
  cases hj:ls j with
  |false=>rfl
  |true=>have:=hcl j i hp hj;rw[h]at this;cases this
theorem ff {b:Bool}{p:Prop}(h:b=false)(hb:b=true):p:=by rw[h]at hb;cases hb
theorem tf {b:Bool}{p:Prop}(h:b=true)(hb:b=false):p:=by rw[h]at hb;cases hb
end draws
end Go.Eng
