/- Part of the proof of a statement about an adjustment. -/
import Derived.Test.YtlmihmlnpjkblaaGreatDoorLib9ToEngL
import Derived.KernelRfl
import Derived.Scope
import Derived.Laws.BytesString
set_option linter.all false
namespace Go.Proofs.YtlmihmlnpjkblaaGreatDoor
open Go Go.Eng Go.RowKit Tryz
def k7:gp prog 3 (.int .i64 0) 1 8:=by unfold gp;kernel_rfl
def YF:gp prog 4 (.bool false) 1 1:=by unfold gp;kernel_rfl
def YG:gp prog 5 (.int .u8 0) 1 1:=by unfold gp;kernel_rfl
def jB:gp prog 28 (.slice none 0 0) 1 24:=by unfold gp;kernel_rfl
def Qx:gp prog 22 (.slice none 0 0) 1 24:=by unfold gp;kernel_rfl
def lO:gp prog 36 (.int .i64 0) 1 8:=by unfold gp;kernel_rfl
def aS:gp prog 33 (.agg #[S [],S []]) 2 32:=by unfold gp;kernel_rfl
def s9:gp prog 103 (.agg #[.slice none 0 0,.slice none 0 0,.slice none 0 0,.bool false]) 4 80:=by unfold gp;kernel_rfl
def VD:gp prog 106 (.agg #[]) 0 0:=by unfold gp;kernel_rfl
def BB:gp prog 159 (.slice none 0 0) 1 24:=by unfold gp;kernel_rfl
def bG:gp prog 161 (.agg #[.bool false,.slice none 0 0]) 2 32:=by unfold gp;kernel_rfl
def R0:gp prog 200 (.nilFunc) 1 8:=by unfold gp;kernel_rfl
def R1:gp prog 208 (.agg #[.pointer none,.slice none 0 0]) 2 32:=by unfold gp;kernel_rfl
def BC:gp prog 75 (.agg #[.bool false]) 1 1:=by unfold gp;kernel_rfl
def dQ:gp prog 144 (.agg #[S [],S [],S [],S []]) 4 64:=by unfold gp;kernel_rfl
def DG:gp prog 187 (.agg #[S [],S [],S [],S [],S [],S [],S [],S [],.nilFunc]) 9 136:=by unfold gp;kernel_rfl
def oP:gp prog 189 (.agg #[.int .i64 0,S []]) 2 24:=by unfold gp;kernel_rfl
def bM:gp prog 191 (.agg #[S [],S []]) 2 32:=by unfold gp;kernel_rfl
def M4:gp prog 262 (.nilFunc) 1 8:=by unfold gp;kernel_rfl
def ee:gp prog 30 (.agg #[.slice none 0 0,.slice none 0 0,.slice none 0 0]) 3 72:=by unfold gp;kernel_rfl
def dN:gp prog 40 (.agg #[.slice none 0 0,.slice none 0 0,S [],S [],.int .i64 0]) 5 88:=by unfold gp;kernel_rfl
def oQ:gp prog 82 (.agg #[.slice none 0 0,.slice none 0 0,.slice none 0 0]) 3 72:=by unfold gp;kernel_rfl
def sd:gp prog 86 (.agg #[S [],S [],.int .i64 0]) 3 40:=by unfold gp;kernel_rfl
def M5:gp prog 150 (.nilFunc) 1 8:=by unfold gp;kernel_rfl
def iT:(prog.info? 3).map (·.size)=some 1:=by kernel_rfl
def Yv:(prog.info? 4).map (·.size)=some 1:=by kernel_rfl
def Vo:(prog.info? 9).map (·.size)=some 1:=by kernel_rfl
def y0:(prog.info? 27).map (·.size)=some 1:=by kernel_rfl
def lU:(prog.info? 28).map (·.size)=some 1:=by kernel_rfl
def BD:(prog.info? 22).map (·.size)=some 1:=by kernel_rfl
def R2:(prog.info? 36).map (·.size)=some 1:=by kernel_rfl
def bX:(prog.info? 33).map (·.size)=some 2:=by kernel_rfl
def R3:(prog.info? 101).map (·.size)=some 1:=by kernel_rfl
def Ga:(prog.info? 103).map (·.size)=some 4:=by kernel_rfl
def mg:(prog.info? 159).map (·.size)=some 1:=by kernel_rfl
def mh:(prog.info? 161).map (·.size)=some 2:=by kernel_rfl
def VE:(prog.info? 200).map (·.size)=some 1:=by kernel_rfl
def dY:(prog.info? 144).map (·.size)=some 4:=by kernel_rfl
def H1:(prog.info? 185).map (·.size)=some 1:=by kernel_rfl
def xk:(prog.info? 187).map (·.size)=some 9:=by kernel_rfl
def H5:(prog.info? 189).map (·.size)=some 2:=by kernel_rfl
def fw:(prog.info? 191).map (·.size)=some 2:=by kernel_rfl
def R4:(prog.info? 262).map (·.size)=some 1:=by kernel_rfl
def H6:(prog.info? 24).map (·.size)=some 3:=by kernel_rfl
def bj:(prog.info? 30).map (·.size)=some 3:=by kernel_rfl
def dG:(prog.info? 40).map (·.size)=some 5:=by kernel_rfl
def nK:(prog.info? 82).map (·.size)=some 3:=by kernel_rfl
def xl:(prog.info? 86).map (·.size)=some 3:=by kernel_rfl
def R5:(prog.info? 109).map (·.size)=some 1:=by kernel_rfl
def R6:(prog.info? 150).map (·.size)=some 1:=by kernel_rfl
def U1:=underlying1
def U3:=underlying3
def U4:=underlying4
def U5:=underlying5
def U9:=underlying9
def R7:=underlying27
def tc:=underlying28
def ks:=underlying22
def y5:=underlying36
def iK:=underlying33
def M6:=underlying101
def VF:=underlying103
def lV:=underlying106
def Z2:=underlying25
def H7:=underlying213
def gQ:=underlying159
def kA:=underlying161
def VG:=underlying206
def YH:=underlying96
def VH:=underlying75
def fA:=underlying144
def DI:=underlying187
def DJ:=underlying189
def jm:=underlying191
def VI:=underlying278
def v8:=underlying24
def da:=underlying30
def nu:=underlying40
def nw:=underlying82
def DK:=underlying86
def aZ {f : FuncId}{fn : Func}(hf : prog.funcs[f]? = some fn)(hn : (fn.name == "runtime.NumGoroutine") = false := by kernel_rfl)(hb : fn.body.isNone = false := by kernel_rfl) : Enters prog f := F9 hf hn hb
def YI:=aZ func23
def VJ:=aZ func133
def YJ:=aZ func78
def M7:=aZ func27
def ry:=aZ func54
def M8:=aZ func29
def YK:=aZ func16
def H8:=aZ func28
def YL:=aZ func75
def H9:=aZ func34
def YM:=aZ func55
def YN:=aZ func56
def Gb:=aZ func57
def R8:=aZ func65
def YO:=aZ func174
def YP:=aZ func175
def VK:=aZ func176
def VN:=aZ func81
def YQ:=aZ func128
def YR:=aZ func130
def VO:=aZ func131
def YS:=aZ func132
def nL:=aZ func26
def BE:=aZ func134
def VP:=aZ func66
def VQ:=aZ func67
def VR:=aZ func68
def VS:=aZ func69
def R9:=aZ func70
def YT:=aZ func110
def YU:=aZ func111
def YV:=aZ func112
def YW:=aZ func74
def YX:=aZ func127
def VT:=aZ func71
def VU:=aZ func72
def VV:=aZ func73
def YY:=aZ func82
def VX:=aZ func83
def VY:=aZ func113
def VZ:=aZ func114
def V0:=aZ func115
def V1:=aZ func137
def td:=aZ func62
def y6:=aZ func63
def xm:=aZ func64
def M9:=aZ func139
def YZ:=aZ func136
def Y0:=aZ func126
def Y1:=aZ func153
def V2:=aZ func77
def Y2:=aZ func154
def Y3:=aZ func173
def ni:=aZ func135
def V3:=aZ func138
def Ia:=aZ func140
def y7:=aZ func177
def BF:=aZ func181
def V4:=aZ func179
def te:=aZ func118
def Ib:=aZ func87
def kB:=aZ func119
def DL:=aZ func120
def y8:=aZ func121
def V5:=aZ func122
def DN:=aZ func123
def mi:=aZ func124
def y9:=aZ func125
def Qy:=aZ func180
def Qz:=aZ func182
def DO:=aZ func183
def za:=aZ func178
def V6:=aZ func172
def V7:=aZ func129
def V8:=aZ func216
def Ic:=aZ func217
def wc:=aZ func156
def QA:=aZ func157
def DR:=aZ func158
def q6:=aZ func159
def DT:=aZ func160
def V9:=aZ func161
def Wb:=aZ func162
def Ie:=aZ func163
def Wc:=aZ func164
def zc:=aZ func165
def Wd:=aZ func166
def If:=aZ func167
def Ig:=aZ func168
def QB:=aZ func169
def We:=aZ func170
def QC:=aZ func171
def Ih:=aZ func204
def Wg:=aZ func205
def Wh:=aZ func206
def DU:=aZ func207
def Wi:=aZ func208
def wd:=aZ func214
def QD:=aZ func306
def QE:=aZ func307
def we:=aZ func308
def QF:=aZ func309
def Ii:=aZ func310
def q7:=aZ func311
def QG:=aZ func312
def QH:=aZ func15
def QI:=aZ func13
def DV:=aZ func117
def QJ:=aZ func155
def Ij:=aZ func186
def DW:=aZ func35
def q8:=aZ func36
def tg:=aZ func37
def DX:=aZ func86
def q9:=aZ func84
def QK:=aZ func142
def QM:=aZ func85
def DY:=aZ func88
def Wj:=aZ func141
def Wk:=aZ func143
def Sa:=aZ func105
def Sb:=aZ func147
def nM:=aZ func149
def Ik:=aZ func198
def nN:=aZ func191
def Il:=aZ func194
def Im:=aZ func188
def Sd:=aZ func152
def qj:=aZ func202
def Io:=aZ func227
def Ip:=aZ func199
def ir:=aZ func219
def xo:=aZ func218
def mj:=aZ func222
def nO:=aZ func184
def BG:=aZ func200
def BH:=aZ func203
def Se:=aZ func229
def Iq:=aZ func252
def Sf:=aZ func150
def tj:=aZ func185
def xp:=aZ func220
def nP:=aZ func187
def BI:=aZ func189
def BJ:=aZ func190
def Si:=aZ func225
def nQ:=aZ func193
def Sj:=aZ func223
def BK:=aZ func228
def Sk:=aZ func230
def BL:=aZ func231
def BM:=aZ func100
def BN:=aZ func101
def Sl:=aZ func232
def Sm:=aZ func233
def Ir:=aZ func197
def Sp:=aZ func248
def Sq:=aZ func90
def BO:=aZ func249
def Is:=aZ func250
def Sr:=aZ func251
def It:=aZ func195
def Ss:=aZ func196
def Su:=aZ func221
def Sv:=aZ func224
def Iu:=aZ func148
def Sw:=aZ func253
def Sx:=aZ func254
def Sy:=aZ func269
def Iv:=aZ func226
def Iw:=aZ func9
def Iy:=aZ func10
def eF:=aZ func11
def Iz:=aZ func12
def tl:=aZ func14
def xq:=aZ func19
def Sz:=aZ func21
def BP:=aZ func22
def BQ:=aZ func24
def IA:=aZ func25
def xr:=aZ func30
def SB:=aZ func31
def lc:=aZ func32
def SC:=aZ func33
def BR:=aZ func38
def BU:=aZ func39
def fE:=aZ func40
def IB:=aZ func41
def SD:=aZ func42
def SE:=aZ func43
def IC:=aZ func44
def SF:=aZ func45
def SG:=aZ func46
def SH:=aZ func47
def SI:=aZ func48
def ID:=aZ func49
def SJ:=aZ func50
def SK:=aZ func51
def SL:=aZ func52
def SN:=aZ func53
def SP:=aZ func58
def SQ:=aZ func59
def IE:=aZ func60
def xu:=aZ func61
def SR:=aZ func76
def qk:=aZ func79
def xw:=aZ func80
def IF:=aZ func89
def xx:=aZ func91
def BV:=aZ func92
def lf:=aZ func93
def SS:=aZ func94
def xy:=aZ func95
def SU:=aZ func96
def SV:=aZ func97
def BW:=aZ func98
def qm:=aZ func99
def BX:=aZ func102
def BY:=aZ func103
def SX:=aZ func104
def SY:=aZ func106
def IG:=aZ func107
def IH:=aZ func108
def SZ:=aZ func109
def S1:=aZ func116
def BZ:=aZ func146
def S2:=aZ func151
def II:=aZ func192
def tm:prog.follows .mixedOrders=true:=by kernel_rfl
end Go.Proofs.YtlmihmlnpjkblaaGreatDoor
def bO (B:Nat):List Nat->Nat
 |[]=>0
 |d::l=>d+B*bO B l
def ze (B:Nat):Nat->Nat->List Nat
 |0,_=>[]
 |f+1,n=>if n=0 then[]else n%B::ze B f (n/B)
def ao (B n:Nat):List Nat:=ze B n n
def IJ (B:Nat)(hB:2<=B):∀(f n:Nat),n<=f->∀g,n<=g->ze B f n=ze B g n:=by
 intro f
 induction f with
 | zero=>
   intro n E g _
   obtain rfl:n=0:=J
   cases g <;>simp[ze]
 | succ f ih =>
   intro n E g _
   cases g with
   | zero => obtain rfl:n=0:=J
             simp[ze]
   | succ g=>
     simp only[ze]
     by_cases h0:n=0
     · simp[h0]
     · rw[if_neg h0,if_neg h0]
       have hd:n/B<n:=Nat.div_lt_self J J
       rw[ih (n/B) J g J]
def gq (B:Nat):ao B 0=[]:=rfl
def fO (B n:Nat)(hB:2<=B)(hn:0<n):ao B n=n%B::ao B (n/B):=by
 unfold ao
 cases n with
 |zero=>omega
 | succ m=>
   have hd:(m+1)/B<m+1:=Nat.div_lt_self J J
   simp only[ze]
   rw[if_neg J,IJ B hB m ((m+1)/B) J ((m+1)/B) (Nat.le_refl _)]
def cD (B:Nat)(hB:2<=B)(n:Nat):bO B (ao B n)=n:=by
 induction n using Nat.strongRecOn with
 | _ n ih=>
   by_cases h0:n=0
   · subst h0;rfl
   · rw[fO B n hB J]
     simp only[bO]
     rw[ih (n/B) (Nat.div_lt_self J J)]
     exact Nat.mod_add_div n B
def eH (B:Nat)(hB:2<=B)(n:Nat):∀d∈ao B n,d<B:=by
 induction n using Nat.strongRecOn with
 | _ n ih=>
   by_cases h0:n=0
   · subst h0;simp[gq]
   · rw[fO B n hB J]
     intro d hd
     rcases List.mem_cons.1 hd with rfl|h
     · exact Nat.mod_lt _ J
     · exact ih (n/B) (Nat.div_lt_self J J) d h
def Canon (B:Nat)(l:List Nat):Prop:=(∀d∈l,d<B)/\l.getLast?≠some 0
def Canon.tail {B d:Nat}{l:List Nat}(h:Canon B (d::l)):Canon B l:=by
 refine⟨λx hx=>h.1 x (List.mem_cons_of_mem _ hx),?_⟩
 have:=h.2
 cases l with
 |nil=>simp
 |cons e l=>simpa[List.getLast?_cons_cons]using this
def Canon.pos {B:Nat}(hB:2<=B):∀{l:List Nat},Canon B l->l≠[]->0<bO B l
 |[],_,h=>absurd Z h
 | [d],h,_=>by
   have:=h.2
   simp[bO]at this ⊢
   omega
 | d::e::l,h,_=>by
   have:=Canon.pos hB h.tail Wf
   simp only[bO]at this ⊢
   have:0<B*(e+B*bO B l):=Nat.mul_pos J this
   omega
def ml {B:Nat}(hB:2<=B):∀{l:List Nat},Canon B l->l=ao B (bO B l)
 |[],_=>rfl
 | d::l,h=>by
   have hp:=Canon.pos hB h Wf
   have hd:d<B:=h.1 d Wf
   rw[fO B _ hB hp]
   simp only[bO]
   rw[Nat.add_mul_mod_self_left,Nat.mod_eq_of_lt hd,Nat.add_mul_div_left _ _ J,Nat.div_eq_of_lt hd,Nat.zero_add,<-ml hB h.tail]
def jX (B:Nat)(hB:2<=B)(n:Nat):(ao B n).getLast?≠some 0:=by
 induction n using Nat.strongRecOn with
 | _ n ih=>
   by_cases h0:n=0
   · subst h0;simp[gq]
   · rw [fO B n hB J]
     have E:=ih (n/B) (Nat.div_lt_self J J)
     by_cases hq:n/B=0
     · rw[hq,gq]
       have:n<B:=by
        rcases Nat.lt_or_ge n B with h|h
        · exact h
        · have:=Nat.div_pos h J;omega
       simp[Nat.mod_eq_of_lt this];omega
     · rw[fO B (n/B) hB (Nat.pos_of_ne_zero hq)]at E ⊢
       simpa[List.getLast?_cons_cons]using E
def dz:List Nat->List Nat
 |[]=>[]
 |d::l=>if dz l=[]/\d=0 then[]else d::dz l
def zf (B:Nat):∀l,bO B (dz l)=bO B l
 |[]=>rfl
 | d::l=>by
   unfold dz
   have ih:=zf B l
   split
   · rename_i h;rw[h.1]at ih;simp only[bO]at *;rw[<-ih,h.2];simp
   · simp only[bO,ih]
def wg {d:Nat}:∀{l:List Nat},d∈dz l->d∈l
 |[],h=>h
 | e ::l,h=>by
   unfold dz at h
   split at h
   · simp at h
   · rcases List.mem_cons.1 h with rfl|h
     · simp
     · exact List.mem_cons_of_mem _ (wg h)
def tn:∀l,(dz l).getLast?≠some 0
 |[]=>by simp[dz]
 | d ::l=>by
   have ih:=tn l
   unfold dz
   split
   · simp
   · rename_i h
     cases ht:dz l with
     |nil=>simp[ht]at h ⊢;exact h
     |cons e m=>rw[ht]at ih;simpa[List.getLast?_cons_cons]using ih
def mm (B:Nat)(hB:2<=B)(l:List Nat)(h:∀d∈l,d<B):dz l=ao B (bO B l):=by
 rw[<-zf B l]
 exact ml hB ⟨λd hd=>h d (wg hd),tn l⟩
def b7 (B:Nat):∀a b,bO B (a++b)=bO B a+B^a.length*bO B b
 |[],b=>by simp[bO]
 | d ::a,b=>by
   simp only[List.cons_append,bO,b7 B a b,List.length_cons,Nat.pow_succ]
   rw[Nat.mul_add]
   have:B*(B^a.length*bO B b)=B^a.length*B*bO B b:=by
    rw[<-Nat.mul_assoc,Nat.mul_comm B]
   omega
def lg (B:Nat):∀l:List Nat,(∀d∈l,d<B)->bO B l<B^l.length
 |[],_=>by simp[bO]
 | d::l,h=>by
   have ih:=lg B l (λx hx=>h x (List.mem_cons_of_mem _ hx))
   have hd:=h d Wf
   simp only[bO,List.length_cons,Nat.pow_succ]
   have:B*(bO B l+1)<=B*B^l.length:=Nat.mul_le_mul_left _ ih
   rw[Nat.mul_add]at this
   rw[Nat.mul_comm (B^l.length)]
   omega
def vF (B:Nat)(hB:2<=B)(n k:Nat)(h:n<B^k):(ao B n).length<=k:=by
 induction k generalizing n with
 |zero=>simp at h;subst h;simp[gq]
 | succ k ih=>
   by_cases h0:n=0
   · subst h0;simp[gq]
   · rw[fO B n hB J]
     have:n/B<B^k:=by
      rw[Nat.div_lt_iff_lt_mul J]
      rwa [Nat.pow_succ]at h
     have:=ih _ this
     simp;omega
def a7 (B:Nat)(hB:2<=B)(n k:Nat):(ao B n).length<=k↔n<B^k:=by
 constructor
 · intro h
   have h1:=lg B (ao B n) (eH B hB n)
   rw[cD B hB]at h1
   exact qb1 h1 (Nat.pow_le_pow_right J h)
 · exact vF B hB n k
def aF (d:Nat->Int)(c0:Int):Nat->Int×List Int
 |0=>(c0,[])
 | k+1=>if d k+(aF d c0 k).1<0 then(-1,(aF d c0 k).2++[d k+(aF d c0 k).1+10000])
   else if 10000<=d k+(aF d c0 k).1 then((d k+(aF d c0 k).1)/10000,(aF d c0 k).2++[(d k+(aF d c0 k).1)%10000])
   else(0,(aF d c0 k).2++[d k+(aF d c0 k).1])
def B3 {d:Nat->Int}{c0:Int}{k:Nat}(h:d k+(aF d c0 k).1<0):aF d c0 (k+1)=(-1,(aF d c0 k).2++[d k+(aF d c0 k).1+10000]):=by
 rw[aF,if_pos h]
def B4 {d:Nat->Int}{c0:Int}{k:Nat}(h:¬d k+(aF d c0 k).1<0)(h2:10000<=d k+(aF d c0 k).1):aF d c0 (k+1)=((d k+(aF d c0 k).1)/10000,(aF d c0 k).2++[(d k+(aF d c0 k).1)%10000]):=by
 rw[aF,if_neg h,if_pos h2]
def tp {d:Nat->Int}{c0:Int}{k:Nat}(h:¬d k+(aF d c0 k).1<0)(h2:¬10000<=d k+(aF d c0 k).1):aF d c0 (k+1)=(0,(aF d c0 k).2++[d k+(aF d c0 k).1]):=by
 rw[aF,if_neg h,if_neg h2]
def eI (d:Nat->Int)(c0:Int):∀k,(aF d c0 k).2.length=k
 |0=>rfl
 | k+1=>by
   have:=eI d c0 k
   rw[aF];split <;>(try split) <;>simp[this]
def mo:List Int->Int
 |[]=>0
 |x::l=>x+10000*mo l
def jY:∀a b,mo (a++b)=mo a+10000^a.length*mo b
 |[],b=>by simp[mo]
 | x::a,b=>by
   simp only[List.cons_append,mo,jY a b,List.length_cons,Int.pow_succ]
   grind
def iU (d:Nat->Int):Nat->Int
 |0=>0
 |k+1=>iU d k+d k*10000^k
def jC (d:Nat->Int)(c0:Int):∀k,mo (aF d c0 k).2+(aF d c0 k).1*10000^k=c0+iU d k
 |0=>by simp[aF,mo,iU]
 | k + 1=>by
   have ih:=jC d c0 k
   have hl:=eI d c0 k
   rw[aF]
   split
   · simp only[jY,hl,mo,iU,Int.pow_succ];grind
   · split
     · simp only[jY,hl,mo,iU,Int.pow_succ]
       have h3:=Int.mul_ediv_add_emod (d k+(aF d c0 k).1) 10000
       grind
     · simp only[jY,hl,mo,iU,Int.pow_succ];grind
def iL (d:Nat->Int)(c0:Int)(h:∀k,-10000<=d k+(aF d c0 k).1):∀k,∀x∈(aF d c0 k).2,0<=x/\x<10000
 |0=>by simp[aF]
 | k + 1=>by
   have ih:=iL d c0 h k
   have hk:=h k
   intro x hx
   rw[aF]at hx
   split at hx
   · rcases List.mem_append.1 hx with hx|hx
     · exact ih x hx
     · simp at hx;omega
   · split at hx
     · rcases List.mem_append.1 hx with hx|hx
       · exact ih x hx
       · simp at hx;omega
     · rcases List.mem_append.1 hx with hx|hx
       · exact ih x hx
       · simp at hx;omega
def eJ (l:List Int):List Nat:=l.map Int.toNat
def lh:∀l:List Int,(∀x∈l,0<=x)->((bO 10000 (eJ l):Nat):Int)=mo l
 |[],_=>rfl
 | x::l,h=>by
   have ih:=lh l (λy hy=>h y (by simp[hy]))
   have hx:=h x Wf
   simp only[eJ,List.map_cons,bO,mo]at *
   omega
def zg (l:List Int)(h:∀x∈l,0<=x):(eJ l).map (λn:Nat=>(n:Int))=l:=by
 simp only[eJ,List.map_map]
 conv=>rhs;rw[<-List.map_id l]
 apply List.map_congr_left
 intro x hx
 have:=h x hx
 simp;omega
def Gc (l:List Int)(h:∀x∈l,0<=x/\x<10000):∀x∈eJ l,x<10000:=by
 intro x hx
 obtain⟨y,hy,rfl⟩:=List.mem_map.1 hx
 have:=h y hy
 omega
def jt (xs:List Nat):∀k,iU (λi=>((xs.getD i 0:Nat):Int)) k=((bO 10000 (xs.take k):Nat):Int)
 |0=>by simp[iU,bO]
 | k + 1=>by
   rw[iU,jt xs k]
   by_cases hk:k<xs.length
   · have:xs.take (k+1)=xs.take k++[xs.getD k 0]:=by
      rw[List.take_succ_eq_append_getElem hk];simp[hk]
     rw[this,b7]
     have hl:(xs.take k).length=k:=by simp;omega
     rw[hl]
     simp only[bO,Nat.mul_zero,Nat.add_zero]
     rw[Int.natCast_add,Int.natCast_mul,Int.natCast_pow]
     rw[Int.mul_comm];rfl
   · rw[List.take_of_length_le J,List.take_of_length_le J]
     have:xs.getD k 0=0:=by simp[List.getD,List.getElem?_eq_none (Nat.le_of_not_lt hk)]
     rw[this];simp
def zh (d e:Nat->Int):∀k,iU (λi=>d i+e i) k=iU d k+iU e k
 |0=>by simp[iU]
 |k+1=>by simp only[iU,zh d e k];grind
def zi (d e:Nat->Int):∀k,iU (λi=>d i-e i) k=iU d k-iU e k
 |0=>by simp[iU]
 |k+1=>by simp only[iU,zi d e k];grind
def zj (d:Nat->Int)(c:Int):∀k,iU (λi=>d i*c) k=iU d k*c
 |0=>by simp[iU]
 |k+1=>by simp only[iU,zj d c k];grind
def iV (xs:List Nat){k:Nat}(h:xs.length<=k):bO 10000 (xs.take k)=bO 10000 xs:=by rw[List.take_of_length_le h]
def getD_lt {xs:List Nat}(h:∀x∈xs,x<10000)(i:Nat):xs.getD i 0<10000:=by
 by_cases hi:i<xs.length
 · simp[hi];exact h _ (List.getElem_mem hi)
 · simp[List.getD,List.getElem?_eq_none (Nat.le_of_not_lt hi)]
def gt (xs ys:List Nat)(i:Nat):Int:=((xs.getD i 0:Nat):Int)+((ys.getD i 0:Nat):Int)
def nR {xs ys:List Nat}(hx:∀x∈xs,x<10000)(hy:∀x∈ys,x<10000):∀k,0<=(aF (gt xs ys) 0 k).1/\(aF (gt xs ys) 0 k).1<=1
 |0=>by simp[aF]
 | k+1=>by
   have ih:=nR hx hy k
   have h1:=getD_lt hx k
   have h2:=getD_lt hy k
   rw[aF]
   have hd:gt xs ys k=((xs.getD k 0:Nat):Int)+((ys.getD k 0:Nat):Int):=rfl
   split
   · omega
   · split <;>simp only <;>omega
def IK {xs ys:List Nat}(hx:∀x∈xs,x<10000)(hy:∀x∈ys,x<10000){n k:Nat}(hn:xs.length<=n/\ys.length<=n)(hk:n<=k)(hc:(aF (gt xs ys) 0 k).1=0):
 (∀x∈(aF (gt xs ys) 0 k).2,0<=x/\x<10000)/\bO 10000 (eJ (aF (gt xs ys) 0 k).2)=bO 10000 xs+bO 10000 ys:=by
 have hd:∀x∈(aF (gt xs ys) 0 k).2,0<=x/\x<10000:=iL _ _ (λj=>by
  have:=nR hx hy j
  simp only[gt];omega) k
 refine⟨hd,?_⟩
 have h1:=jC (gt xs ys) 0 k
 have h2:=lh _ (λx hx=>(hd x hx).1)
 have h3:iU (gt xs ys) k=((bO 10000 xs:Nat):Int)+((bO 10000 ys:Nat):Int):=by
  have:=zh (λi=>((xs.getD i 0:Nat):Int)) (λi=>((ys.getD i 0:Nat):Int)) k
  rw[jt,jt,iV xs J,iV ys J]at this
  exact this
 rw[hc]at h1
 omega
def dx (xs ys:List Nat)(i:Nat):Int:=((xs.getD i 0:Nat):Int)-((ys.getD i 0:Nat):Int)
def jZ {xs ys:List Nat}(hx:∀x∈xs,x<10000)(hy:∀x∈ys,x<10000):∀k,-1<=(aF (dx xs ys) 0 k).1/\(aF (dx xs ys) 0 k).1<=0
 |0=>by simp[aF]
 | k+1=>by
   have ih:=jZ hx hy k
   have h1:=getD_lt hx k
   have h2:=getD_lt hy k
   rw[aF]
   have hd:dx xs ys k=((xs.getD k 0:Nat):Int)-((ys.getD k 0:Nat):Int):=rfl
   split
   · simp
   · split <;>simp only <;>omega
def zk {l:List Int}(h:∀x∈l,0<=x/\x<10000):0<=mo l/\mo l<10000^l.length:=by
 induction l with
 |nil=>simp[mo]
 | cons x l ih=>
   have:=ih (λy hy=>h y (by simp[hy]))
   have hx:=h x Wf
   simp only[mo,List.length_cons,Int.pow_succ]
   constructor
   · omega
   · omega
def Gd {xs ys:List Nat}(hx:∀x∈xs,x<10000)(hy:∀x∈ys,x<10000){n:Nat}(hn:xs.length<=n/\ys.length<=n)(hle:bO 10000 ys<=bO 10000 xs):
 (aF (dx xs ys) 0 n).1=0/\(∀k,∀x∈(aF (dx xs ys) 0 k).2,0<=x/\x<10000)/\∀k,n<=k->(aF (dx xs ys) 0 k).1=0->bO 10000 (eJ (aF (dx xs ys) 0 k).2)=bO 10000 xs-bO 10000 ys:=by
 have hd:∀k,∀x∈(aF (dx xs ys) 0 k).2,0<=x/\x<10000:=iL _ _ (λj=>by
  have:=jZ hx hy j
  have h1:=getD_lt hx j
  have h2:=getD_lt hy j
  simp only[dx];omega)
 have h3:∀k,n<=k->iU (dx xs ys) k=((bO 10000 xs:Nat):Int)-((bO 10000 ys:Nat):Int):=λk hk=>by
  have:=zi (λi=>((xs.getD i 0:Nat):Int)) (λi=>((ys.getD i 0:Nat):Int)) k
  rw[jt,jt,iV xs J,iV ys J]at this
  exact this
 refine⟨?_,hd,λk hk hc=>?_⟩
 · have h1:=jC (dx xs ys) 0 n
   have h4:=zk (hd n)
   have E:=jZ hx hy n
   rw[eI]at h4
   rw[h3 n (Nat.le_refl _)]at h1
   have hcases:(aF (dx xs ys) 0 n).1=-1\/(aF (dx xs ys) 0 n).1=0:=J
   rcases hcases with hc|hc
   · rw[hc]at h1;omega
   · exact hc
 · have h1:=jC (dx xs ys) 0 k
   have h2:=lh _ (λx hx=>(hd k x hx).1)
   rw[hc,h3 k hk]at h1
   omega
def rF (xs:List Nat)(m:Nat)(i:Nat):Int:=((xs.getD i 0:Nat):Int)*(m:Int)
def xz {xs:List Nat}(hx:∀x∈xs,x<10000){m:Nat}(hm:m<10000)(i:Nat):0<=rF xs m i/\rF xs m i<=99980001:=by
 have h1:=getD_lt hx i
 have h2:xs.getD i 0*m<=9999*9999:=qb9 J J
 unfold rF
 rw[<-Int.natCast_mul]
 omega
def tq {xs:List Nat}(hx:∀x∈xs,x<10000){m:Nat}(hm:m<10000):∀k,0<=(aF (rF xs m) 0 k).1/\(aF (rF xs m) 0 k).1<10000
 |0=>by simp[aF]
 | k+1=>by
   have ih:=tq hx hm k
   have h1:=xz hx hm k
   rw[aF]
   split
   · omega
   · split <;>simp only <;>omega
def S3 {xs:List Nat}(hx:∀x∈xs,x<10000){m:Nat}(hm:m<10000){n k:Nat}(hn:xs.length<=n)(hk:n<=k)(hc:(aF (rF xs m) 0 k).1=0):
 (∀x∈(aF (rF xs m) 0 k).2,0<=x/\x<10000)/\bO 10000 (eJ (aF (rF xs m) 0 k).2)=bO 10000 xs*m:=by
 have hd:∀x∈(aF (rF xs m) 0 k).2,0<=x/\x<10000:=iL _ _ (λj=>by
  have:=tq hx hm j
  have:=xz hx hm j
  omega) k
 refine⟨hd,?_⟩
 have h1:=jC (rF xs m) 0 k
 have h2:=lh _ (λx hx=>(hd x hx).1)
 have h3:iU (rF xs m) k=((bO 10000 xs:Nat):Int)*(m:Int):=by
  have:=zj (λi=>((xs.getD i 0:Nat):Int)) (m:Int) k
  rw[jt,iV xs J]at this
  exact this
 rw[hc,h3]at h1
 rw[<-Int.natCast_mul]at h1
 omega
namespace Go.Eng
open Go Go.RowKit
variable {K K1 K2:Act->World->Prop}{xs:Array Operand}{ats:Array TypeId}{fn:Func}{f:FuncId}{a c:Int}{ds:List Deferred}{bs order ps C:List Nat}{l rest:List Oper}{cs lb args vs la cs':List Value}{b lo D k sz N gf n base fuel i j s dd o k' p:Nat}{ls:Nat->Bool}{e:Nat->Value}{t et src dst el:TypeId}{v v' u:Value}{W A B W' w0 w' w W0:World}
section range
variable {P:Program}
structure ez (bs:List Nat)(W W':World):Prop where
 size:W.heap.size<=W'.heap.size
 block:∀k,k<W.heap.size->k∉bs->W'.heap[k]?=W.heap[k]?
def ez.refl (bs:List Nat)(W:World):ez bs W W:=⟨qa0 _,λ_ _ _=>rfl⟩
def ez.ext (h:ez bs W A)(k:aO A B):ez bs W B:=
 ⟨qa8 h.size k.size,λi hi hb=>(k.block i (qb1 hi h.size)).trans (h.block i hi hb)⟩
def ad5:=@ez.ext
def ez.put (h:ez bs W A)(k:eE A B b)(hb:b∈bs\/W.heap.size<=b):ez bs W B:=
 ⟨by rw[k.size];exact h.size,λi hi E=>(k.block i (λe=>by subst e;rcases hb with hb|hb;exact E hb;omega)).trans (h.block i hi E)⟩
def ad7:=@ez.put
def ez.gr {row:Option Nat}(h:ez bs W A)(k:A.grownBy B row)(hb:∀b,row=some b->b∈bs\/W.heap.size<=b):ez bs W B:=
 ⟨qa8 h.size k.size,λi hi E=>(k.block i (qb1 hi h.size) (λe=>by rcases hb i e.symm with hb|hb;exact E hb;omega)).trans (h.block i hi E)⟩
def ez.others (h:ez bs W W')(hc:∀b∈bs,∃o:Obj,W.heap[b]?=some o/\o.isCells=true):KeepsOthers W W':=
 ⟨h.size,λk o hk ho=>(h.block k (Array.getElem?_eq_some_iff.1 hk).1 (λhm=>by
  obtain⟨o',E,G⟩:=hc k hm
  rw[hk]at E;cases E;rw[ho]at G;cases G)).trans hk⟩
def ez.blk {cs:Array Value}(h:ez bs W W')(hn:b∉bs)(hb:ap W b t cs):ap W' b t cs:=(h.block b hb.lt hn).trans hb
def ez.rw {A:Option Addr}(h:ez bs W W')(hn:∀ad,A=some ad->ad.block∉bs)(hb:Rw W lo A cs):Rw W' lo A cs:=by
 refine⟨λj u hu=>?_,hb.lo,λad e=>qb1 (hb.hi ad e) h.size⟩
 obtain⟨b,o,e,hc⟩:=hb.cells j u hu
 refine⟨b,o,e,?_⟩
 rw[<-hc]
 exact World.cell?_of_block (h.block b (hb.hi _ e) (hn _ e))
def ap.isCells {cs:Array Value}(h:ap w b t cs):∃o:Obj,w.heap[b]?=some o/\o.isCells=true:=⟨_,h,rfl⟩
def ae1:=@ap.isCells
def B5 (B:Nat)(k4:World->Prop):Prop:=
 ∀W W' row,k4 W->W.grownBy W' row->(∀r,row=some r->B<=r/\∃o:Obj,W.heap[r]?=some o/\o.isCells=false)->k4 W'
def ap.cel {row:Option Nat}{B:Nat}{cs:Array Value}(hg:W.grownBy W' row)(hr:∀r,row=some r->B<=r/\∃o:Obj,W.heap[r]?=some o/\o.isCells=false)(h:ap W b t cs):ap W' b t cs:=
 (grownBy_keeps_cells hg (λr e=>(hr r e).2) h Z).trans h
def ad4:=@ap.cel
def Rw.cel {row:Option Nat}{B:Nat}{A:Option Addr}(hg:W.grownBy W' row)(hr:∀r,row=some r->B<=r/\∃o:Obj,W.heap[r]?=some o/\o.isCells=false)(h:Rw W lo A cs):Rw W' lo A cs:=by
 refine⟨λj u hu=>?_,h.lo,λE e=>qb1 (h.hi E e) hg.size⟩
 obtain⟨b,o,e,hc⟩:=h.cells j u hu
 exact⟨b,o,e,cell_kept hc hg (λr e=>(hr r e).2)⟩
def oS {row:Option Nat}{B n0:Nat}(hn:n0<=B)(hg:W.grownBy W' row)(hr:∀r,row=some r->B<=r/\∃o:Obj,W.heap[r]?=some o/\o.isCells=false)(hs:n0<=W.heap.size)(h:Below n0 w0 W):Below n0 w0 W':=
 h.grown hg hs (λk e=>qa8 hn (hr k e).1)
def li (w:World)(D:Nat):Prop:=w.heap[D]?=some (.deferred (some []))
def li.ext (k:aO w w')(h:li w D):li w' D:=k.heap h
def li.put (k:eE w w' b)(hne:D≠b)(h:li w D):li w' D:=(k.block D hne).trans h
def ac7:=@li.put
def li.ne {cs:Array Value}(h:li w D)(hb:ap w b t cs):D≠b:=λe=>by
 subst e;unfold li at h;unfold ap at hb;rw[h]at hb;cases hb
def QN (P:Program)(gf:Nat)(lb:List Value)(m:Nat)(enc:Nat->List Value)(order:List Nat)(Kq:World->Prop)(w:World):Prop:=
 SeqStopsK Fence.wide 8 P gf lb.toArray (λi:{i:Nat // i<m}=>(enc i.1).toArray) (λA B=>Kq A->Kq B) (λxs=>xs.map (·.1)=order) (λxs=>xs.map (·.1) <+: order) m w
def ki (e:Nat->Value):List Nat->List Value->Nat->Value
 |p::ps,v::vs=>ki (upd e p v) ps vs
 |_,_=>e
def Na {row:Option Nat}{B:Nat}(hg:W.grownBy W' row)(hr:∀r,row=some r->B<=r/\∃o:Obj,W.heap[r]?=some o/\o.isCells=false)(h:W.ownsRow lo et sz v k cs):W'.ownsRow lo et sz v k cs:=by
 obtain⟨hl,hv|⟨g,cap,G,rfl,H,E,r⟩⟩:=h
 · exact⟨hl,.inl hv⟩
 · exact⟨hl,.inr ⟨g,cap,G,rfl,H,(grownBy_keeps_cells hg (λr e=>(hr r e).2) E Z).trans E,r⟩⟩
def DZ (hK:li w D)(h:w.ownsRow lo et sz v k cs):(w.putObj D (.deferred none)).ownsRow lo et sz v k cs:=by
 refine Na (B:=0) (grownBy_putObj' w D _) (λr e=>?_) h
 cases e
 exact⟨qa7 _,_,hK,rfl⟩
def Nb (N:Nat)(e:Nat->Value)(d:Nat)(v:Value):(act N e []).tmps.setIfInBounds d v=(act N (upd e d v) []).tmps:=by
 have:=aw N e [] d v
 exact qb2 Act.tmps this
def oT (N:Nat):∀(ps:List Nat) (vs:List Value) (e:Nat->Value),(ps.zip vs).foldl (λt (x:Nat×Value)=>t.setIfInBounds x.1 x.2) (act N e []).tmps=(act N (ki e ps vs) []).tmps
 |[],vs,e=>by simp[ki]
 |p::ps,[],e=>by simp[ki]
 | p::ps,v::vs,e=>by
   simp only[List.zip_cons_cons,List.foldl_cons,ki]
   rw[Nb,oT N ps vs]
def roundPost (Kq:World->Prop)(k4:List Nat->World->Prop)(Ix:Code->List Nat->World->Prop)(xs:List Nat)(W:World):Exit->Act->World->Prop
 | .normal,_,W'=>KeepsOthers W W'/\(Kq W->Kq W')/\k4 xs W'
 | .ret,_,W'=>KeepsOthers W W'/\Ix .ret xs W'
 | .exit id,_,W'=>KeepsOthers W W'/\Ix (.exit id) xs W'
 |_,_,_=>False
def se {Q:Exit->Act->World->Prop}{m:Nat}{enc:Nat->List Value}{Kq:World->Prop}{g:Operand}{assign body:Code}(hg:ev N e g=.func (.func gf) #[] lb.toArray)(eg:Enters P gf)(hit:QN P gf lb m enc order Kq w)(hKq:B5 w.heap.size Kq)(hps:∀i,(enc i).length=ps.length)(qs:List Nat)(qv:Nat->List Value)(hassign:∀l x W K,K (act N (ki (ki e ps (enc x)) qs (qv x)) []) W->assign.wpIn (Fw (some l)) 7 P (Exit.then K (λ_ _ _=>False)) (act N (ki e ps (enc x)) []) W)(k4:List Nat->World->Prop)(Ix:Code->List Nat->World->Prop)(hI:∀xs,B5 w.heap.size (k4 xs))(hIx:∀c xs,B5 w.heap.size (Ix c xs))(h0:k4 [] w)(hbody:∀l pre x W,k4 pre W->(∀i∈pre,i<m)->x<m->pre.length<m->body.wpIn (Fw (some l)) 7 P (roundPost Kq k4 Ix (pre++[x]) W) (act N (ki (ki e ps (enc x)) qs (qv x)) []) W)(hdone:∀D W,w.heap.size<=D->k4 order W->li W D->Q .normal (act N e (⟨.collected D,#[]⟩::ds)) W)(hstop:∀D c pre W,w.heap.size<=D->pre <+: order->Ix c pre W->li W D->c.wpIn (Fw none) 9 P Q (act N e (⟨.collected D,#[]⟩::ds)) W):
 (Code.rangeFunc g ps.toArray assign body).wpIn (Fw none) 9 P Q (act N e ds) w:=by
 have A1:∀pre:List {i:Nat // i<m},∀i∈pre.map (·.1),i<m:=λpre i hi=>by
  obtain⟨x,_,rfl⟩:=List.mem_map.1 hi
  exact x.2
 refine wpIn_rangeFunc_ownF (F:=Fence.wide) (n:=9) (α:={i:Nat // i<m}) Z J (gf:=gf) (lb:=lb.toArray) (by rw[cM];exact hg) trivial eg (w0:=w) hit (λh k q=>k (h q))
  (λW l o o' hl ho hc _ q=>hKq W _ (some l) q (grownBy_putObj' W l o') (λr A0=>by cases A0;exact⟨hl,o,ho,hc⟩)) (Below.refl _ _) (λx=>by simpa using hps x.1)
  (λpre W=>k4 (pre.map (·.1)) W) (λc pre W=>Ix c (pre.map (·.1)) W) (λpre W W' row h=>hI (pre.map (·.1)) W W' row h) (λc pre W W' row h=>hIx c (pre.map (·.1)) W W' row h) h0
  (λx=>act N (ki (ki e ps (enc x.1)) qs (qv x.1)) []) (λl x W K hK=>?_) (λl pre x W hi O=>?_) (λD xs W hD hS hi hK=>?_) (λD c pre W hD H hi hK=>?_)
 · have h:=hassign l x.1 W K hK
   have h2:({tmps:=(ps.toArray.zip (enc x.1).toArray).foldl (λt (p,v)=>t.setIfInBounds p v) (act N e ds).tmps,defers:=[]}:Act)=act N (ki e ps (enc x.1)) []:=by
    have h3:=oT N ps (enc x.1) e
    have:(act N (ki e ps (enc x.1)) [])=⟨(act N (ki e ps (enc x.1)) []).tmps,[]⟩:=rfl
    rw[this,<-h3]
    simp only[List.zip_toArray,List.foldl_toArray]
    rfl
   rw[h2]
   exact h
 · refine wpIn_mono (hbody l (pre.map (·.1)) x.1 W hi (A1 pre) x.2 (by simpa using O)) ?_
   rintro ex a W3 E
   have G:(pre++[x]).map (·.1)=pre.map (·.1)++[x.1]:=by simp
   cases ex with
   |normal=>exact⟨E.1,E.2.1,by simp only[];rw[G];exact E.2.2⟩
   |ret=>exact⟨E.1,by simp only[];rw[G];exact E.2⟩
   |exit id=>exact⟨E.1,by simp only[];rw[G];exact E.2⟩
   |goto t=>exact E.elim
   |panic c=>exact E.elim
   |outgrown=>exact E.elim
 · exact hdone D W hD (by have h:xs.map (·.1)=order:=hS;rw[<-h];exact hi) hK
 · exact hstop D c _ W hD H hi hK
variable {c:Code}{R:Value->World->Prop}
def ju (args:List Value)(fn:Func):({tmps:=args.toArray++Array.replicate (fn.ntmps-args.toArray.size) undef,defers:=[]}:Act)=act (args.length+(fn.ntmps-args.length)) (HY args) []:=by
 simp only[act,Act.mk.injEq,and_true]
 apply Array.ext
 · simp
 · intro i _ _
   simp only[Array.getElem_ofFn,HY]
   by_cases hi:i<args.length
   · simp[hi]
   · have h3:args.toArray.size<=i:=by simpa using hi
     rw[Array.getElem_append_right h3]
     simp[List.getElem?_eq_none (Nat.le_of_not_lt hi)]
def ra (hf:P.funcs[f]?=some fn)(hb:fn.body=some c)(h:c.wpIn (Fw none) 9 P (bodyPostM Fence.wide 9 P fn (aG w R)) (act (args.length+(fn.ntmps-args.length)) (HY args) []) w):Calls P f args.toArray w (aG w R):=by
 refine oH (n:=9) (callsIn_of_wp_marks hf hb trivial ?_)
 rw[ju]
 exact h
def dA (w:World):eE w (w.putObj D (.deferred none)) D:=
 ⟨rfl,rfl,rfl,by simp,λk hk=>World.putObj_heap_other hk⟩
def jD (hK:li w' D)(hr:(results fn (act N e [⟨.collected D,#[]⟩]).tmps).run P (w'.putObj D (.deferred none))=.ok v (w'.putObj D (.deferred none)))(hx:aO w (w'.putObj D (.deferred none)))(hR:R v (w'.putObj D (.deferred none))):bodyPostM Fence.wide 9 P fn (aG w R) .ret (act N e [⟨.collected D,#[]⟩]) w':=
 ⟨by simp,.inl ⟨D,_,rfl,run_takeDeferred hK,v,hr,hx,hR⟩⟩
def Nc {t:Nat}(hK:li w' D)(hres:fn.results=#[.tmp t])(hx:aO w w')(hD:w.heap.size<=D)(hR:R v (w'.putObj D (.deferred none)))(hv:ev N e (.tmp t)=v):bodyPostM Fence.wide 9 P fn (aG w R) .ret (act N e [⟨.collected D,#[]⟩]) w':=
 jD hK (bY hres (aL hv _)) ((dA w').low hx hD) hR
def xA (hr:(results fn (act N e []).tmps).run P w'=.ok v w')(hx:aO w w')(hR:R v w'):bodyPostM Fence.wide 9 P fn (aG w R) .ret (act N e []) w':=
 ⟨v,hr,hx,hR⟩
def ap.dfr {cs:Array Value}(hK:li w D)(h:ap w b t cs):ap (w.putObj D (.deferred none)) b t cs:=(dA w).blk (λe=>hK.ne h e.symm) h
def Rw.dfr {A:Option Addr}(hK:li w D)(h:Rw w lo A cs):Rw (w.putObj D (.deferred none)) lo A cs:=by
 refine⟨λj u hu=>?_,h.lo,λG e=>by rw[(dA w).size];exact h.hi G e⟩
 obtain⟨b,o,e,hc⟩:=h.cells j u hu
 refine⟨b,o,e,?_⟩
 rw[<-hc]
 refine(dA w).cell ?_
 intro hb
 simp only at hb
 subst hb
 obtain⟨_,E,H⟩:=cells_of_cell hc
 rw[show w.heap[b]?=some (.deferred (some []))from hK]at E
 cases E;cases H
def xB {Q:Exit->Act->World->Prop}{l d ty:Nat}{pos:String}{af:Array Edge}{x:Operand}{R:Ending->World->Prop}(hx:ev N e x=.func (.yield l) #[] #[])(hv:xs.toList.map (ev N e)=vs)(hy:YieldAt Fence.wide 7 P l vs.toArray w R)(hk:∀c w',R c w'->match c with| .returned v=>K (act N (upd e d v) ds) w'|_=>False):Oper.wpIn (Fw none) 8 P ⟨some d,.call {callee:=.value x,args:=xs,argTypes:=ats},ty,pos,af,none⟩ (act N e ds) w K Q:=by
 subst hv
 obtain⟨fn,tmps,assign,body,hr,hR⟩:=hy
 have E:(xs.toList.map (ev N e)).toArray=xs.map (ev N e):=by rw[<-Array.toList_map,Array.toArray_toList]
 rw[E]at hr
 refine⟨λf _=>kw none f,?_⟩
 rw[iQ Z,cM]
 have:(execOp (ev N e) ⟨some d,.call {callee:=.value x,args:=xs,argTypes:=ats},ty,pos,af,none⟩).run P w=.ok (.round l fn tmps assign body) w:=by
  simp[execOp,resolve,Deferred.ofValue,hx,invoke,hr]
 rw[this]
 refine⟨(λh=>by rw[l5]at h;cases h),hR.mono ?_⟩
 intro c w' h
 have:=hk c w' h
 cases c with
 |returned v=>simp only at this ⊢;rw[aw];exact this
 |panicked c=>exact this.elim
 |outgrown=>exact this.elim
def qn {F:Fence}{g:Nat}{R:Ending->World->Prop}{a:Value}(h:CallsIn F n P g (a::lb).toArray W R):CallsIn F n P g (#[a]++lb.toArray) W R:=by
 have:(#[a]++lb.toArray)=(a::lb).toArray:=by simp
 rw[this];exact h
def D3 {R:Ending->World->Prop}(hf:P.funcs[f]?=some fn)(hb:fn.body=some c)(h:c.wpIn (Fw none) 8 P (bodyPost P fn R) (act (args.length+(fn.ntmps-args.length)) (HY args) []) w):CallsIn Fence.wide 8 P f args.toArray w R:=by
 refine callsIn_of_wp hf hb trivial ?_
 rw[ju]
 exact h
def Nf {R:Ending->World->Prop}(hres:fn.results=#[])(hR:∀v,R (.returned v) w'):bodyPost P fn R .ret (act N e []) w':=
 ⟨rfl,_,nh hres,hR _⟩
def sh {R:Ending->World->Prop}(hres:fn.results=#[])(hR:∀v,R (.returned v) w'):bodyPost P fn R .normal (act N e []) w':=
 ⟨rfl,_,nh hres,hR _⟩
def rb {k6 J' Kp:Prop}{c:Ending}(h:(c=.returned (.bool true)/\k6/\Kp)\/(c=.returned (.bool false)/\J')):∃q,c=.returned (.bool q)/\(q=true->k6/\Kp)/\(q=false->J'):=by
 rcases h with⟨h1,h2,h3⟩|⟨h1,h2⟩
 · exact⟨true,h1,λ_=>⟨h2,h3⟩,λh=>by cases h⟩
 · exact⟨false,h1,λh=>by(cases h),λ_=>h2⟩
end range
section
variable {P:Program}{r:Option Nat}{Q:Exit->Act->World->Prop}
variable {d ty:Nat}{pos:String}{af:Array Edge}{g:Option (Nat×Bool)}{x y:Operand}{t':TypeId}
def fU {k k':IntKind}{D:TypeDesc}(hs:P.underlying src=some D)(hd:P.underlying dst=some (.int k'))(hx:ev N e x=.int k a)(hc:k'.wrap a=c)(hk:K (act N (upd e d (.int k' c)) ds) w):
 Oper.wpIn (Fw r) n P ⟨some d,.convert src dst x,ty,pos,af,g⟩ (act N e ds) w K Q:=by
 refine cG (v:=.int k' c) (w':=w) Z ?_ MT
 subst hc
 simp[execOp,hx,convert,run_underlying hs,run_underlying hd,Conv.intToInt]
def Wl {k k':IntKind}{b:Int}(hx:ev N e x=.int k a)(hy:ev N e y=.int k' b)(hb:0<=b/\b<=8)(hc:a/2^b.toNat=c)(hk:K (act N (upd e d (.int k c)) ds) w):
 Oper.wpIn (Fw r) n P ⟨some d,.binOp .shr t x y t',ty,pos,af,g⟩ (act N e ds) w K Q:=by
 refine dE hx hy (bV ..) ?_ hk
 have h1:¬b<0:=J
 have h2:min b.toNat k.bits=b.toNat:=by
  have:8<=k.bits:=by cases k <;>decide
  omega
 subst hc
 simp only[binOp,Op.shift,h1,if_false,h2]
 simp[Int.fdiv_eq_ediv_of_nonneg _ (show(0:Int)<=2^b.toNat from Int.le_of_lt (Int.pow_pos J))]
def D5 {R:Value->World->Prop}(hf:Enters P f)(hx:ev N e x=.func (.func f) la.toArray #[])(hv:xs.toList.map (ev N e)=vs)(hc:Calls P f (la++vs).toArray w (aG w R))(hk:∀v w',aO w w'->R v w'->K (act N (upd e d v) ds) w'):Oper.wpIn (Fw r) n P ⟨some d,.call {callee:=.value x,args:=xs,argTypes:=ats},ty,pos,af,g⟩ (act N e ds) w K Q:=by
 subst hv
 have h2:la.toArray++xs.map (ev N e)=(la++xs.toList.map (ev N e)).toArray:=by simp
 refine r9 (f:=f) (args:=la.toArray++xs.map (ev N e)) (R:=R) Z ?_ (by rw[h2];exact hc) (λv w' h1 h2=>by rw[aw];exact hk v w' h1 h2)
 simp[execOp,resolve,Deferred.ofValue,hx,invoke,hf _ _]
def D6 {m:Nat}{xs:List Value}(h:w.ownsRow base el sz (.slice (some ⟨b,0,none⟩) m m) m xs):ap w b el xs.toArray:=by
 obtain⟨hl,⟨hv,_⟩|⟨g,cap,G,hv,H,E,hc,hm,hs,ht⟩⟩:=h
 · cases hv
 · simp only[Value.slice.injEq]at hv
   obtain⟨hv,-,rfl⟩:=hv
   cases hv
   rw[List.take_of_length_le (by simp[hs])]at ht
   subst ht
   simpa[ap]using E
def Rw.of_blk {xs:List Value}(h:ap w b el xs.toArray)(hb:lo<=b):Rw w lo (some ⟨b,0,none⟩) xs:=by
 refine⟨λj u hu=>⟨b,0,rfl,?_⟩,λE e=>by cases e;exact hb,λE e=>by cases e;exact h.lt⟩
 rw[Nat.zero_add]
 exact h.cell (by simpa using hu)
def ae0:=@Rw.of_blk
def S4 (p:Nat->Prop):List Nat->Prop
 |[]=>True
 |i::is=>p i/\S4 p is
def zm {p:Nat->Prop}:∀{l:List Nat},S4 p l->∀i∈l,p i
 | _::_,h,i,hi=>by
   rcases List.mem_cons.1 hi with rfl|hi
   · exact h.1
   · exact zm h.2 i hi
def Ng {id:Nat}(hm:P.follows .mixedOrders=true)(h:wpAnyIn (Fw r) n P .any l.toArray Q l.length (Array.replicate l.length false) (act N e ds) w.drew):(Code.region id l.toArray true).wpIn (Fw r) n P Q (act N e ds) w:=
 wpIn_region_any hm h
def gR {listed:Array Bool}{is:List Nat}{a:Act}(hr:Region.ready .any l.toArray listed=i::is)(h:S4 (λi=>wpOpIn (Fw r) n P l.toArray Q i (wpAnyIn (Fw r) n P .any l.toArray Q fuel (listed.setIfInBounds i true)) a w) (i::is)):wpAnyIn (Fw r) n P .any l.toArray Q (fuel+1) listed a w:=
 ⟨λG=>(by rw[hr]at G;cases G),λj E=>zm h j (by rw[hr]at E;exact E)⟩
def mp {a:Act}{dst:Option Nat}{op:Op}(ho:l[i]?=some ⟨dst,op,ty,pos,af,none⟩)(h:Oper.wpIn (Fw r) n P ⟨dst,op,ty,pos,af,none⟩ a w K Q):wpOpIn (Fw r) n P l.toArray Q i K a w:=by
 unfold wpOpIn
 rw[List.getElem?_toArray,ho]
 simp only[Region.wanted,if_true]
 exact h
def D7 {listed:Array Bool}{a:Act}(hr:Region.ready .any l.toArray listed=[])(h:Q .normal a w):wpAnyIn (Fw r) n P .any l.toArray Q 0 listed a w:=⟨hr,h⟩
def wrap_i64 (h:-9223372036854775808<=a/\a<=9223372036854775807):IntKind.i64.wrap a=a:=kZ h
def wrap_u64 (h:0<=a/\a<=18446744073709551615):IntKind.u64.wrap a=a:=by
 have h1:a%18446744073709551616=a:=Int.emod_eq_of_lt h.1 J
 simp[IntKind.wrap,IntKind.bits,IntKind.signed,h1]
def Cf.ext {a:Addr}(k:aO w w')(h:w.cell? a=some v):w'.cell? a=some v:=k.cell h
def IL {k:IntKind}{b:Int}(hx:ev N e x=.int k a)(hy:ev N e y=.int k b)(hc:k.wrap (a-b)=c)(hk:K (act N (upd e d (.int k c)) ds) w):
 Oper.wpIn (Fw r) n P ⟨some d,.binOp .sub t x y t',ty,pos,af,g⟩ (act N e ds) w K Q:=
 dE hx hy (bV ..) (by subst hc;simp[binOp,Op.intArith]) hk
def wrap_u8 (h:0<=a/\a<=255):IntKind.u8.wrap a=a:=by
 have h1:a%256=a:=Int.emod_eq_of_lt h.1 J
 simp[IntKind.wrap,IntKind.bits,IntKind.signed,h1]
def Wm {op:Op}{q:Bool}(hj:cX l j=some s)(hv:ev N e (.tmp s)=undef)(hs:Nat.blt s N=true)(h:wpListIn (Fw r) n P l.toArray Q rest (act N (upd e dd undef) ds) w):wpListIn (Fw r) n P l.toArray Q (⟨some dd,op,ty,pos,af,some (j,q)⟩::rest) (act N e ds) w:=by
 have hj':(l.toArray[j]?).bind (·.dst)=some s:=by rw[List.getElem?_toArray];exact hj
 have hy:yielded l.toArray (act N e ds).tmps j=none:=by
  have h2:(act N e ds).eval (.tmp s)=undef:=by rw[cM];exact hv
  simp only[Act.eval]at h2
  have hs':s<(act N e ds).tmps.size:=by rw[Nat.blt_eq]at hs;simpa[act]using hs
  simp only[Array.getD,hs',dif_pos]at h2
  have h3:(act N e ds).tmps[s]?=some undef:=by rw[Array.getElem?_eq_getElem hs'];exact qb2 some h2
  unfold yielded;rw[hj',Option.bind_some,h3];rfl
 unfold wpListIn
 rw[if_neg (by simp[Region.wanted,hy])]
 exact⟨λf _=>kw r f,by rw[aw];exact h⟩
def dp {l:List UInt8}(h:i<l.length):l[i]?=some (l.getD i 0):=by rw[List.getElem?_eq_getElem h];simp[List.getD,h]
def tt (hx:ev N e x=.pointer (some ⟨b,o,none⟩))(hk:K (act N (upd e d (.pointer (some ⟨b,o,none⟩))) ds) w):
 Oper.wpIn (Fw r) n P ⟨some d,.nilCheck x,ty,pos,af,g⟩ (act N e ds) w K Q:=by
 refine cG (v:=.pointer (some ⟨b,o,none⟩)) (w':=w) Z ?_ MT
 simp[execOp,hx]
def j2 {l:List UInt8}{m:Nat}(hu:P.underlying t=some .string)(hx:ev N e x=S l)(hm:l.length=m)(hk:K (act N (upd e d (.int .i64 ((m:Nat):Int))) ds) w):
 Oper.wpIn (Fw r) n P ⟨some d,.call {callee:=.builtin .len,args:=#[x],argTypes:=#[t]},ty,pos,af,g⟩ (act N e ds) w K Q:=
 dv (l:=l) hu hx (by rw[hm];exact hk)
def bK :W.ownsRow base et sz (.slice none 0 0) 0 []:=⟨by simp,.inl ⟨rfl,rfl⟩⟩
def bc (h:W.ownsRow base et sz v k cs):v.ownBlock≠some W.heap.size:=by
 obtain⟨hl,⟨rfl,_⟩|⟨g,cap,G,rfl,H,E,_⟩⟩:=h
 · simp[Value.ownBlock]
 · have:g<W.heap.size:=(Array.getElem?_eq_some_iff.1 E).1
   simp[Value.ownBlock];omega
def aQ (ha:v'.ownBlock=v.ownBlock\/v'.ownBlock=some W.heap.size)(hn:v.ownBlock≠some b)(hb:b<W.heap.size):v'.ownBlock≠some b:=by
 rcases ha with h|h
 · rw[h];exact hn
 · rw[h];simp;omega
def az (v u:Value):Prop:=∀g,v.ownBlock=some g->u.ownBlock≠some g
def az.symm (h:az v u):az u v:=λg E e=>h g e E
def aa6:=@az.symm
def az.nil {c:Nat}:az (.slice none n c) u:=λg E=>by simp[Value.ownBlock]at E
def ac6:=@az.nil
def az.app (ha:v'.ownBlock=v.ownBlock\/v'.ownBlock=some W.heap.size)(hn:az v u)(hu:W.ownsRow base et sz u k cs):az v' u:=by
 intro g E
 rcases ha with h|h
 · exact hn g (by rw[<-h];exact E)
 · rw[h]at E;cases E;exact bc hu
def aa9:=@az.app
def az.gr (hn:az v u)(hg:W.grownBy W' v.ownBlock)(h:W.ownsRow base et sz u k cs):W'.ownsRow base et sz u k cs:=
 nI hg (λg h1 h2=>hn g h2.symm h1) h
def ab3:=@az.gr
def aU (h:W.ownsRow base et sz v k cs):∀g,v.ownBlock=some g->base<=g:=by
 obtain⟨hl,⟨rfl,_⟩|⟨g,cap,E,rfl,H,G,_⟩⟩:=h
 · simp[Value.ownBlock]
 · intro _ e;simp[Value.ownBlock]at e;omega
def bm {B:Nat}(h:W.ownsRow base et sz v k cs)(hB:B<=base)(hBw:B<=W.heap.size)(hE:Below B W0 W)(hg:W.grownBy W' v.ownBlock):Below B W0 W':=
 cL hE hg hBw (λg e=>qa8 hB (aU h g e))
def aM (h:W.ownsRow base et sz v k cs)(hk:k=k')(hc:cs=cs'):W.ownsRow base et sz v k' cs':=by subst hk hc;exact h
def bQ (h:W.ownsRow base et sz v k cs):v.oneCell'=true:=by
 obtain⟨hl,⟨rfl,_⟩|⟨g,cap,E,rfl,_⟩⟩:=h <;>rfl
def kj (R:Value->World->Prop):Ending->World->Prop
 | .returned v,w'=>R v w'
 |_,_=>False
def bH {R:Value->World->Prop}(hf:Enters P f)(hv:xs.toList.map (ev N e)=vs)(hc:Calls P f vs.toArray w (kj R))(hk:∀v w',R v w'->K (act N (upd e d v) ds) w'):Oper.wpIn (Fw r) n P ⟨some d,.call {callee:=.value (.func f),args:=xs,argTypes:=ats},ty,pos,af,g⟩ (act N e ds) w K Q:=by
 subst hv
 refine⟨λf _=>kw r f,?_⟩
 have hs:(execOp (ev N e) ⟨some d,.call {callee:=.value (.func f),args:=xs,argTypes:=ats},ty,pos,af,g⟩).run P w=.ok (.enter f (xs.map (ev N e))) w:=by
  simp[execOp,resolve,Deferred.ofValue,ev,invoke,hf _ _]
 rw[iQ Z,cM,hs]
 refine⟨(λh=>by rw[l5]at h;cases h),oG ((show Calls P f (xs.map (ev N e)) w (kj R)from by have h:=hc;rwa [show(xs.toList.map (ev N e)).toArray=xs.map (ev N e)by rw[<-Array.toList_map,Array.toArray_toList]]at h).mono ?_)⟩
 intro e' w' h
 cases e' with
 | returned v=>
   show K ((act N e ds).put (some d) v) w'
   rw[aw];exact hk v w' h
 |panicked c=>exact h.elim
 |outgrown=>exact h.elim
def D8 {args:Array Value}{R:Ending->World->Prop}{Q:Value->World->Prop}(h:Calls P f args w R)(hq:∀e w',R e w'->∃v,e=.returned v/\Q v w'):Calls P f args w (kj Q):=
 h.mono (by
  intro e w' hR
  obtain⟨v,rfl,h2⟩:=hq e w' hR
  exact h2)
def lj {C:World}{row:Option Nat}(h:A.grownBy B row)(k:aO B C):A.grownBy C row:=
 ⟨k.os.trans h.os,k.tape.trans h.tape,k.output.trans h.output,qa8 h.size k.size,λi hi hr=>(k.block i (qb1 hi h.size)).trans (h.block i hi hr)⟩
def B6 {C:World}(h:A.grownBy B (some b))(k:eE B C b):A.grownBy C (some b):=
 ⟨k.os.trans h.os,k.tape.trans h.tape,k.output.trans h.output,by rw[k.size];exact h.size,λi hi hr=>(k.block i (λe=>hr (by rw[e]))).trans (h.block i hi hr)⟩
def jn {C:World}{row:Option Nat}(h:A.grownBy B row)(k:eE B C b)(hb:A.heap.size<=b):A.grownBy C row:=
 ⟨k.os.trans h.os,k.tape.trans h.tape,k.output.trans h.output,by rw[k.size];exact h.size,λi hi hr=>(k.block i J).trans (h.block i hi hr)⟩
def gu {C:World}{row:Option Nat}(h:A.grownBy B row)(k:B.grownBy C row):A.grownBy C row:=
 ⟨k.os.trans h.os,k.tape.trans h.tape,k.output.trans h.output,qa8 h.size k.size,λi hi hr=>(k.block i (qb1 hi h.size) hr).trans (h.block i hi hr)⟩
def zn {c:Code}{R:Value->World->Prop}(hf:P.funcs[f]?=some fn)(hb:fn.body=some c)(h:c.wpIn (Fw none) 0 P (bodyPost P fn (kj R)) (act (args.length+(fn.ntmps-args.length)) (HY args) []) w):Calls P f args.toArray w (kj R):=by
 refine oH (n:=0) (callsIn_of_wp hf hb trivial ?_)
 rw[ju]
 exact h
def gT {R:Value->World->Prop}(hr:(results fn (act N e []).tmps).run P w'=.ok v w')(hR:R v w'):bodyPost P fn (kj R) .ret (act N e []) w':=
 ⟨rfl,v,hr,hR⟩
def S5 {R:Value->World->Prop}(hr:(results fn (act N e []).tmps).run P w'=.ok v w')(hR:R v w'):bodyPost P fn (kj R) .normal (act N e []) w':=
 ⟨rfl,v,hr,hR⟩
end
section draws
variable {P:Program}{r:Option Nat}{e0:Nat->Value}{Q:Exit->Act->World->Prop}{ops:Array Oper}{M:Nat}
def Nh {id:Nat}(hm:P.follows .mixedOrders=true)(M:Nat)(R:World->World->Prop)(hR0:∀w,R w w.drew)(hRt:∀a b c,R a b->R b c->R a c)(Φ:Nat->Value->World->Prop)(hΦ:∀i v w w',R w w'->Φ i v w->Φ i v w')(k6:(Nat->Bool)->World->Prop)(hJ0:k6 (λ_=>false) w0.drew)(hwf:∀(i:Nat) (o:Oper),l.toArray[i]?=some o->∀e∈o.after,Region.binds .any e=true->e.on<i)(hshape:Region.sinkB .any l.toArray M=true/\Region.chainB .any l.toArray M=true/\M<l.toArray.size\/M=l.toArray.size)(hdst:∀i j d,i<M->j<M->(l.toArray[i]?).bind (·.dst)=some d->(l.toArray[j]?).bind (·.dst)=some d->i=j)(hstep:∀(i:Nat) (o:Oper),i<M->l.toArray[i]? =some o->∀(e:Nat->Value) (w:World) (ls:Nat->Bool),k6 ls w->(∀j oj,l.toArray[j]? =some oj->ls j=true->∀ed∈oj.after,Region.binds .any ed=true->ls ed.on=true)->ls i=false->(∀ed∈o.after,Region.binds .any ed=true->ls ed.on=true)->R w0 w->(∀t,(∀j,j<M->(l.toArray[j]?).bind (·.dst)≠some t)->e t=e0 t)->
 (∀j,(∃ed∈o.after,Region.binds .any ed=true/\ed.on=j)->∀d,(l.toArray[j]?).bind (·.dst)=some d->Φ j (e d) w)->
 wpListIn (Fw r) n P l.toArray (λx a' w'=>x=.normal/\∃v,a'=(act N e ds).put o.dst v/\R w w'/\Φ i v w'/\k6 (λj=>if j=i then true else ls j) w') [o] (act N e ds) w)(hfin:∀(e:Nat->Value) (w:World),(∃ls:Nat->Bool,(∀j,j<M->ls j=true)/\k6 ls w)->R w0 w->(∀t,(∀j,j<M->(l.toArray[j]?).bind (·.dst)≠some t)->e t=e0 t)->
 (∀j d,j<M->(l.toArray[j]?).bind (·.dst)=some d->Φ j (e d) w)->wpListIn (Fw r) n P l.toArray Q (l.drop M) (act N e ds) w):
 (Code.region id l.toArray true).wpIn (Fw r) n P Q (act N e0 ds) w0:=by
 have hMle:M<=l.toArray.size:=by rcases hshape with⟨_,_,h⟩|h <;>omega
 have hchain:Region.chainB .any l.toArray M=true:=by
  rcases hshape with⟨_,h,_⟩|h
  · exact h
  · refine List.all_eq_true.2 λt ht=>?_
    have:=List.mem_range.1 ht
    simp only[Bool.or_eq_true,decide_eq_true_eq]
    left;omega
 refine wpIn_region_any hm ?_
 have main : ∀ (fuel:Nat) (listed:Array Bool) (e:Nat->Value) (w:World),left l.toArray listed<=fuel->HeadInv .any l.toArray M listed->k6 (λj=>listed.getD j false) w->R w0 w->
  (∀t,(∀j,j<M->(l.toArray[j]?).bind (·.dst)≠some t)->e t=e0 t)->
  (∀j d,j<M->listed.getD j false=true->(l.toArray[j]?).bind (·.dst)=some d->Φ j (e d) w)->
  wpAnyIn (Fw r) n P .any l.toArray Q fuel listed (act N e ds) w:=by
  intro fuel
  induction fuel with
  | zero=>
    intro listed e w hf inv hJ hR hs hφ
    have A2:∀i,i<l.toArray.size->listed.getD i false=true:=by
     intro i hi
     cases hb:listed.getD i false with
     |true=>rfl
     | false=>
       have:=kz hi inv.size hb
       omega
    refine ky hchain hwf 0 l.toArray.size listed _ w 0 Z hMle inv.size A2 (λi h1 h2=>by omega) (qa0 _) ?_
    by_cases hM:M=l.toArray.size
    · have h:=hfin e w ⟨_,λj E=>A2 j J,hJ⟩ hR hs (λj d E hd=>hφ j d E (A2 j J) hd)
      rw[hM]at h
      simpa using h
    · have h1:=inv.tail M (qa0 _) J
      have h2:=A2 M J
      rw[getD_both h1]at h2
      cases h2
  | succ fuel ih=>
    intro listed e w hf inv hJ hR hs hφ
    by_cases hdone:∀i,i<M->listed.getD i false=true
    · refine ky hchain hwf (l.toArray.size-M) M listed _ w (fuel+1) J (qa0 _) inv.size hdone (λi h1 h2=>inv.tail i h1 h2) ?_ ?_
      · have h1:l.toArray.size-M<=left l.toArray listed:=qh hMle (λi h1 h2=>getD_both (inv.tail i h1 h2))
        omega
      · simpa using hfin e w ⟨_,λj E=>hdone j E,hJ⟩ hR hs (λj d E hd=>hφ j d E (hdone j E) hd)
    · have hex:∃i,i<M/\listed.getD i false=false:=by
       refine qb6 λAb=>hdone λi hi=>?_
       cases hb:listed.getD i false with
       |true=>rfl
       |false=>exact absurd ⟨i,hi,hb⟩ Ab
      obtain⟨Af,Ap,Ao⟩:=hex
      have Ar:∀i∈Region.ready .any l.toArray listed,i<M:=by
       intro i hi
       rcases Nat.lt_or_ge i M with h|h
       · exact h
       · rcases hshape with⟨h1,h2,h3⟩|h3
         · exact absurd hi (tail_waits h1 h2 h3 inv _ Af Z Ap (getD_in (by rw[inv.size];omega) Ao) i h)
         · obtain⟨_,o,ho,_⟩:=mem_ready.1 hi
           have:=(Array.getElem?_eq_some_iff.1 ho).1
           omega
      refine⟨λAq=>?_,λi hi=>?_⟩
      ·
       exfalso
       have least:∀k i,i<=k->i<l.toArray.size->listed.getD i false=false->∃j,j∈Region.ready .any l.toArray listed:=by
        intro k
        induction k with
        | zero=>
          intro i hi hl hb
          obtain rfl:i=0:=J
          refine⟨0,mem_ready.2 ⟨getD_in ka1 hb,l.toArray[0],Array.getElem?_eq_getElem hl,λed H A0=>?_⟩⟩
          have:=hwf 0 _ (Array.getElem?_eq_getElem hl) ed H A0
          omega
        | succ k ihk=>
          intro i hi hl hb
          by_cases hp:∀ed∈(l.toArray[i]).after,Region.binds .any ed=true->listed.getD ed.on false=true
          · exact⟨i,mem_ready.2 ⟨getD_in ka1 hb,l.toArray[i],Array.getElem?_eq_getElem hl,hp⟩⟩
          · have:∃ed∈(l.toArray[i]).after,Region.binds .any ed=true/\listed.getD ed.on false=false:=by
             refine qb6 λAb=>hp λed H A0=>?_
             cases hb:listed.getD ed.on false with
             |true=>rfl
             |false=>exact absurd ⟨ed,H,A0,hb⟩ Ab
            obtain⟨ed,H,A0,A1⟩:=this
            have hlt:=hwf i _ (Array.getElem?_eq_getElem hl) ed H A0
            exact ihk ed.on J J A1
       obtain⟨j,E⟩:=least Af Af (qa0 _) J Ao
       rw[Aq]at E
       cases E
      · have hiM:=Ar i hi
        obtain⟨A1,o,ho,hpred⟩:=mem_ready.1 hi
        have O:=hstep i o hiM ho e w (λj=>listed.getD j false) hJ (λj oj E hl=>inv.closed j oj E hl) (getD_both A1) hpred hR hs (λj ⟨ed,H,hb,Av⟩ d hd=>hφ j d (by have:=hwf i o ho ed H hb;omega) (by rw[<-Av];exact hpred ed H hb) hd)
        have hnext:∀a' w',(∃v,a'=(act N e ds).put o.dst v/\R w w'/\Φ i v w'/\k6 (λj=>if j=i then true else listed.getD j false) w')->wpAnyIn (Fw r) n P .any l.toArray Q fuel (listed.setIfInBounds i true) a' w':=by
         rintro a' w' ⟨v,rfl,hR',hv,hJ'⟩
         have As:i<l.toArray.size:=J
         have hJ2:k6 (λj=>(listed.setIfInBounds i true).getD j false) w':=by
          have e:(λj=>(listed.setIfInBounds i true).getD j false)=(λj=>if j=i then true else listed.getD j false):=by
           funext j
           by_cases E:j=i
           · subst E;rw[if_pos Z];have:=inv.size;simp[Array.getD,this];omega
           · rw[if_neg E,getD_set_ne false (λh=>E h.symm)]
          rw[e];exact hJ'
         have Am:left l.toArray (listed.setIfInBounds i true)<=fuel:=by
          have:=kz As inv.size (getD_both A1)
          omega
         cases hd:o.dst with
         | none=>
           refine ih _ e w' Am (inv.set hi hiM) hJ2 (hRt _ _ _ hR hR') hs (λj d E hl G=>?_)
           by_cases hij:i=j
           · subst hij;rw[ho]at G;simp[hd]at G
           · rw[getD_set_ne false hij]at hl;exact hΦ _ _ _ _ hR' (hφ j d E hl G)
         | some d0=>
           rw[aw]
           refine ih _ _ w' Am (inv.set hi hiM) hJ2 (hRt _ _ _ hR hR') (λt ht=>?_) (λj d E hl G=>?_)
           · have:t≠d0:=λh=>ht i hiM (by rw[ho];simp[hd,h])
             rw[upd_ne _ _ this];exact hs t ht
           · by_cases hij:i=j
             · subst hij
               rw[ho]at G
               simp only[Option.bind_some,hd,Option.some.injEq]at G
               subst G
               rw[kh];exact hv
             · rw[getD_set_ne false hij]at hl
               have Ax:d≠d0:=λh=>hij (hdst i j d hiM E (by rw[ho];simp[hd,h]) G)
               rw[upd_ne _ _ Ax]
               exact hΦ _ _ _ _ hR' (hφ j d E hl G)
        unfold wpOpIn
        rw[ho]
        dsimp only
        unfold wpListIn at O
        split
        · rename_i hw
          rw[if_pos hw]at O
          exact ip (λa' w' Aw=>hnext a' w' Aw.2) (λc a w h=>by cases h.1) (λa w h=>by cases h.1) O
        · rename_i hw
          rw[if_neg hw]at O
          exact⟨O.1,hnext _ _ O.2.2⟩
 refine main _ _ e0 w0.drew ?_ ⟨by simp,λj oj E hl=>?_,λt h1 h2=>?_⟩ ((congrArg (λf=>k6 f w0.drew) (funext λj=>getD_replicate_false _ j)).mpr hJ0) (hR0 w0) (λ_ _=>rfl) (λj d E hl=>?_)
 · unfold left
   exact qa8 (List.length_filter_le _ _) Wf
 · rw[getD_replicate_false]at hl;cases hl
 · have h3:t<l.length:=by simpa using h2
   simp[h3]
 · rw[getD_replicate_false]at hl;cases hl
def nz (C:List Nat)(i:Nat):Option Nat:=C.findIdx? (Nat.beq i)
def S6 (l:List Oper)(C:List Nat):Bool:=(List.range C.length).all λp=>match C[p]? with
 |none=>false
 |some c=>Nat.beq p 0||(match C[p-1]?,l[c]? with|some c',some o=>b6 o c'|_,_=>false)
def nodupB (C:List Nat):Bool:=(List.range C.length).all λp=>(List.range C.length).all λq=>Nat.beq p q||(match C[p]?,C[q]? with|some a,some b=>!Nat.beq a b|_,_=>true)
def cnt (C:List Nat)(ls:Nat->Bool):Nat:=(C.filter ls).length
def IM (r:Option Nat)(n:Nat)(P:Program)(N:Nat)(ds:List Deferred)(l:List Oper)(M:Nat)(R:World->World->Prop)(Φ:List (Value->World->Prop))(C:List Nat)(k4:Nat->World->Prop)(e0:Nat->Value)(w0:World):Nat->List Oper->List (Value->World->Prop)->Prop
 |_,[],_=>True
 |_,_::_,[]=>False
 |i,o::os,φ::φs=>(∀(e:Nat->Value) (w:World) (k:Nat),k4 k w->(∀p,nz C i=some p->k=p)->R w0 w->(∀t,jl l M t=false->e t=e0 t)->(∀j d,b6 o j=true->cX l j=some d->phi Φ j (e d) w)->
  wpListIn (Fw r) n P l.toArray (λx a' w'=>x=.normal/\∃v,a'=(act N e ds).put o.dst v/\R w w'/\φ v w'/\k4 (match nz C i with|some p=>p+1|none=>k) w') [o] (act N e ds) w)/\IM r n P N ds l M R Φ C k4 e0 w0 (i+1) os φs
def wh {l:List Oper}{R:World->World->Prop}{Φ:List (Value->World->Prop)}{C:List Nat}{k4:Nat->World->Prop}:∀(os:List Oper) (φs:List (Value->World->Prop)) (i0:Nat),IM r n P N ds l M R Φ C k4 e0 w0 i0 os φs->∀i o,os[i]?=some o->
 (∀(e:Nat->Value) (w:World) (k:Nat),k4 k w->(∀p,nz C (i0+i)=some p->k=p)->R w0 w->(∀t,jl l M t=false->e t=e0 t)->(∀j d,b6 o j=true->cX l j=some d->phi Φ j (e d) w)->
  wpListIn (Fw r) n P l.toArray (λx a' w'=>x=.normal/\∃v,a'=(act N e ds).put o.dst v/\R w w'/\phi φs i v w'/\k4 (match nz C (i0+i)with|some p=>p+1|none=>k) w') [o] (act N e ds) w)
 |[],_,_,_,i,o,h=>by simp at h
 |o'::os,[],_,h,i,o,ho=>h.elim
 |o'::os,φ::φs,i0,h,0,o,ho=>by simp at ho;subst ho;exact h.1
 | o'::os,φ::φs,i0,h,i+1,o,ho=>by
   have:=wh os φs (i0+1) h.2 i o Fk
   rw[show i0+1+i=i0+(i+1)by omega]at this
   simpa only[phi,List.getElem?_cons_succ]using this
def tu (h:nz C i=some p):C[p]?=some i:=by
 unfold nz at h
 obtain⟨h1,h2,_⟩:=List.findIdx?_eq_some_iff_getElem.1 h
 rw[List.getElem?_eq_getElem h1,Nat.eq_of_beq_eq_true h2]
def B7 (h:nz C i=none):i∉C:=by
 unfold nz at h
 rw[List.findIdx?_eq_none_iff]at h
 intro hm
 have:=h i hm
 simp at this
def Ni (h:i∉C):cnt C (λj=>if j=i then true else ls j)=cnt C ls:=by
 unfold cnt
 congr 1
 apply List.filter_congr
 intro x hx
 rw[if_neg (λe=>h (by rw[<-e];exact hx))]
def Nj (h:∀c∈C,ls c=true):cnt C ls=C.length:=by
 unfold cnt;rw[List.filter_eq_self.2 h]
def wi (hp:p<=C.length)(h1:∀q c,q<p->C[q]?=some c->ls c=true)(h2:∀q c,p<=q->C[q]?=some c->ls c=false):cnt C ls=p:=by
 have e:C.filter ls=(C.take p).filter ls++(C.drop p).filter ls:=by rw[<-List.filter_append,List.take_append_drop]
 unfold cnt
 rw[e,List.length_append]
 have E:(C.take p).filter ls=C.take p:=List.filter_eq_self.2 (λc hc=>by
  obtain⟨q,hq⟩:=List.mem_iff_getElem?.1 hc
  rw[List.getElem?_take]at hq
  split at hq
  · next hlt=>exact h1 q c hlt hq
  · cases hq)
 have e2:(C.drop p).filter ls=[]:=List.filter_eq_nil_iff.2 (λc hc=>by
  obtain⟨q,hq⟩:=List.mem_iff_getElem?.1 hc
  rw[List.getElem?_drop]at hq
  rw[h2 (p+q) c J hq];simp)
 rw[E,e2];simp;omega
def IN (hlink:∀p c c',C[p]?=some c'->C[p+1]?=some c->∃o,l[c]?=some o/\∃ed∈o.after,Region.binds .any ed=true/\ed.on=c')(hcl:∀j oj,l.toArray[j]?=some oj->ls j=true->∀ed∈oj.after,Region.binds .any ed=true->ls ed.on=true)(hget:∀j:Nat,l.toArray[j]?=l[j]?)(hni:ls i=false)(hpi:C[p]?=some i):∀q c,p<=q->C[q]?=some c->ls c=false:=by
 have A1:∀d q c,C[q]?=some c->p+d=q->ls c=false:=by
  intro d
  induction d with
  | zero=>
    intro q c hq A2
    have:c=i:=by rw[show q=p by omega,hpi]at hq;exact(qb5 hq).symm
    rw[this];exact hni
  | succ d ih=>
    intro q c hq A2
    have E:p+d<C.length:=by have:=(List.getElem?_eq_some_iff.1 hq).1;omega
    obtain⟨G,A0,ed,Ab,hb,H⟩:=hlink (p+d) c (C[p+d]) (qa5 E) (by rw[show p+d+1=q by omega];exact hq)
    have O:=ih (p+d) _ (qa5 E) Z
    cases hc:ls c with
    |false=>rfl
    | true=>
      have:=hcl c G (by rw[hget];exact A0) hc ed Ab hb
      rw[H,O]at this
      cases this
 exact λq c hq hc=>A1 (q-p) q c hc J
def cnt_lt {o:Oper}(hlink:∀p c c',C[p]?=some c'->C[p+1]?=some c->∃o,l[c]?=some o/\∃ed∈o.after,Region.binds .any ed=true/\ed.on=c')(hcl:∀j oj,l.toArray[j]?=some oj->ls j=true->∀ed∈oj.after,Region.binds .any ed=true->ls ed.on=true)(hget:∀j:Nat,l.toArray[j]?=l[j]?)(hpi:C[p]?=some i)(ho:l[i]?=some o)(hpr:∀ed∈o.after,Region.binds .any ed=true->ls ed.on=true):∀q c,q<p->C[q]?=some c->ls c=true:=by
 have A1:∀d q c,C[q]?=some c->q+d=p->0<d->ls c=true:=by
  intro d
  induction d with
  |zero=>intro q c _ _ Af;omega
  | succ d ih=>
    intro q c hq Am _
    have G:q+1<C.length:=by have:=(List.getElem?_eq_some_iff.1 hpi).1;omega
    obtain⟨A2,E,ed,A0,hb,O⟩:=hlink q (C[q+1]) c hq (qa5 G)
    by_cases hd:d=0
    · subst hd
      have:C[q+1]=i:=by
       have H:C[q+1]?=some i:=by rw[show q+1=p by omega];exact hpi
       rw[List.getElem?_eq_getElem G]at H
       exact qb5 H
      rw[this,ho]at E
      cases E
      have:=hpr ed A0 hb
      rwa [O]at this
    · have Ab:=ih (q+1) (C[q+1]) (qa5 G) J J
      have:=hcl _ A2 (by rw[hget];exact E) Ab ed A0 hb
      rwa [O]at this
 exact λq c hq hc=>A1 (p-q) q c hc J J
def tv {o:Oper}{a:Act}(h:wpListIn (Fw r) n P l.toArray (λx a w=>x=.normal/\K1 a w) [o] a w)(hk:∀a w,K1 a w->K2 a w):wpListIn (Fw r) n P l.toArray (λx a w=>x=.normal/\K2 a w) [o] a w:=by
 unfold wpListIn at h ⊢
 split
 · rename_i hw
   rw[if_pos hw]at h
   exact ip (λa' w' E=>⟨E.1,hk _ _ E.2⟩) (λc a w h=>by cases h.1) (λa w h=>by cases h.1) h
 · rename_i hw
   rw[if_neg hw]at h
   exact⟨h.1,h.2.1,hk _ _ h.2.2⟩
def S7 {id:Nat}(hm:P.follows .mixedOrders=true)(M:Nat)(R:World->World->Prop)(hR0:∀w,R w w.drew)(hRt:∀a b c,R a b->R b c->R a c)(Φ:List (Value->World->Prop))(hΦ:xj R Φ)(hwf:MV l=true)(hshape:iq l M=true)(hdst:H0 l M=true)(C:List Nat)(hC:S6 l C=true)(hN:nodupB C=true)(hCM:(C.all λc=>Nat.blt c M)=true)(k4:Nat->World->Prop)(hI0:k4 0 w0.drew)(hstep:IM r n P N ds l M R Φ C k4 e0 w0 0 (l.take M) Φ)(hfin:∀(e:Nat->Value) (w:World),k4 C.length w->R w0 w->(∀t,jl l M t=false->e t=e0 t)->(∀j d,Nat.blt j M=true->cX l j=some d->phi Φ j (e d) w)->wpListIn (Fw r) n P l.toArray Q (l.drop M) (act N e ds) w):
 (Code.region id l.toArray true).wpIn (Fw r) n P Q (act N e0 ds) w0:=by
 have G:∀j:Nat,l.toArray[j]?=l[j]?:=λj=>by rw[List.getElem?_toArray]
 have Ap:∀t,jl l M t=false->∀j,j<M->(l.toArray[j]?).bind (·.dst)≠some t:=by
  intro t ht j A1 h
  rw[G]at h
  cases ho:l[j]? with
  |none=>rw[ho]at h;cases h
  | some o=>
    rw[ho]at h
    simp only[Option.bind_some]at h
    have h1:=List.any_eq_false.1 ht o (List.mem_iff_getElem?.2 ⟨j,by rw[List.getElem?_take,if_pos A1];exact ho⟩)
    rw[h]at h1
    simp at h1
 have hlink:∀p c Af,C[p]?=some Af->C[p+1]?=some c->∃o,l[c]?=some o/\∃O∈o.after,Region.binds .any O=true/\O.on=Af:=by
  intro p c Af h1 h2
  have h3:=List.all_eq_true.1 hC (p+1) (List.mem_range.2 (List.getElem?_eq_some_iff.1 h2).1)
  rw[h2]at h3
  simp only[Nat.add_sub_cancel,h1]at h3
  cases ho:l[c]? with
  |none=>rw[ho]at h3;simp at h3
  | some o=>
    rw[ho]at h3
    simp at h3
    obtain⟨O,A0,hb⟩:=List.any_eq_true.1 h3
    simp only[Bool.and_eq_true]at hb
    exact⟨o,rfl,O,by simpa using A0,hb.1,Nat.eq_of_beq_eq_true hb.2⟩
 have Ax:∀p q c:Nat,C[p]?=some c->C[q]?=some c->p=q:=by
  intro p q c h1 h2
  have h3:=List.all_eq_true.1 (List.all_eq_true.1 hN p (List.mem_range.2 (List.getElem?_eq_some_iff.1 h1).1)) q (List.mem_range.2 (List.getElem?_eq_some_iff.1 h2).1)
  rw[h1,h2]at h3
  simp at h3
  exact h3
 refine Nh hm M R hR0 hRt (phi Φ) (nJ hΦ) (λls w=>k4 (cnt C ls) w) ?_ ?_ ?_ ?_ ?_ ?_
 · have:cnt C (λ_=>false)=0:=by unfold cnt;rw[List.filter_eq_nil_iff.2 Wf];rfl
   rw[this];exact hI0
 · intro i o ho O A0 hb
   rw[G]at ho
   have h1:=List.all_eq_true.1 hwf i (List.mem_range.2 (List.getElem?_eq_some_iff.1 ho).1)
   rw[ho]at h1
   have h2:=List.all_eq_true.1 h1 O (by simpa using A0)
   simp only[hb,Bool.not_true,Bool.false_or]at h2
   rwa [Nat.blt_eq]at h2
 · simp only[iq,Bool.or_eq_true,Bool.and_eq_true]at hshape
   rcases hshape with⟨⟨h1,h2⟩,h3⟩|h
   · rw[Nat.blt_eq]at h3;exact .inl ⟨h1,h2,by simpa using h3⟩
   · exact .inr Fr
 · intro i j d hi A1 Ao Ar
   have h1:=List.all_eq_true.1 (List.all_eq_true.1 hdst i (List.mem_range.2 hi)) j (List.mem_range.2 A1)
   rw[G]at Ao Ar
   simp only[cX,Ao,Ar,Bool.or_eq_true]at h1
   rcases h1 with h1|h1
   · exact qb4 h1
   · simp at h1
 · intro i o hi ho e w ls hJ Ab Aq Am hR hs hφ
   have ho':=ho
   rw[G]at ho
   have hk:∀p,nz C i=some p->cnt C ls=p:=by
    intro p E
    have H:=tu E
    refine wi (Nat.le_of_lt (List.getElem?_eq_some_iff.1 H).1) (cnt_lt hlink Ab G H ho Am) (IN hlink Ab G Aq H)
   have h1:=wh (l.take M) Φ 0 hstep i o (by rw[List.getElem?_take,if_pos hi];exact ho) e w (cnt C ls) hJ (λp E=>hk p (by rw[Nat.zero_add]at E;exact E)) hR (λt ht=>hs t (Ap t ht)) (λj d E hd=>?_)
   · refine tv h1 ?_
     rintro _ w' ⟨v,Aw,hR',hv,hI'⟩
     refine⟨v,Aw,hR',hv,?_⟩
     rw[Nat.zero_add]at hI'
     cases E:nz C i with
     |none=>rw[E]at hI';show k4 (cnt C _) w';rw[Ni (B7 E)];exact hI'
     | some p=>
       rw[E]at hI'
       have Ay:=hk p E
       have H:=tu E
       show k4 (cnt C _) w'
       have:cnt C (λj=>if j=i then true else ls j)=p+1:=by
        refine wi (by have:=(List.getElem?_eq_some_iff.1 H).1;omega) (λq c hq hc=>?_) (λq c hq hc=>?_)
        · by_cases A2:c=i
          · rw[if_pos A2]
          · rw [if_neg A2]
            have As:q<p:=by
             rcases Nat.lt_or_ge q p with h|h
             · exact h
             · have:q=p:=J
               subst this;rw[H]at hc;exact absurd (qb5 hc).symm A2
            exact cnt_lt hlink Ab G H ho Am q c As hc
        · have A2:c≠i:=λe=>by subst e;have:=Ax _ _ _ hc H;omega
          rw[if_neg A2]
          exact IN hlink Ab G Aq H q c J hc
       rw[this];exact hI'
   · obtain⟨O,A0,hb⟩:=List.any_eq_true.1 E
     simp only[Bool.and_eq_true]at hb
     exact hφ j ⟨O,by simpa using A0,hb.1,Nat.eq_of_beq_eq_true hb.2⟩ d (by rw[G];exact hd)
 · rintro e w ⟨ls,Av,hJ⟩ hR hs hφ
   have hc:cnt C ls=C.length:=Nj (λc hc=>Av c (by have:=List.all_eq_true.1 hCM c hc;rwa [Nat.blt_eq]at this))
   rw[hc]at hJ
   exact hfin e w hJ hR (λt ht=>hs t (Ap t ht)) (λj d A1 hd=>hφ j d (by rwa [Nat.blt_eq]at A1) (by rw[G];exact hd))
end draws
section scope
variable {P:Program}{F:Fence}{b:Frame}{a:Act}{k:List Item}{cs:List Frame}{Q:Exit->Act->World->Prop}
def cQ {c:Code}:step P (lone (b.atR a (.code (.scope c)::k)) cs w)=.next (lone (b.atR a (.code c:: .inScope c::k)) cs w):=
 step_lone_go (by simp[stepG,stepG.exec,Frame.atR])
def kn {c:Code}:step P (lone (b.atR a (.inScope c::k)) cs w)=.next (lone (b.atR a k) cs w):=
 step_lone_go (by simp[stepG,stepG.exec,Frame.atR])
def B8 {c:Code}(h:c.wpIn F n P (Exit.noGoto Q) a w):(Code.scope c).wpIn F n P Q a w:=by
 intro b k cs H hb hr
 have E:(lone (b.atR a (.code (.scope c)::k)) cs w).fenced P F:=fenced_calm hb hr Z
 obtain⟨e,a₁,w₁,hq,G⟩:=h b (.inScope c::k) cs H hb hr
 cases e with
 |normal=>exact⟨.normal,a₁,w₁,hq,.head E cQ (StepsIn.trans G (.one (fenced_calm hb hr Z) kn))⟩
 | exit id=>
   exact⟨.exit id,a₁,w₁,hq,λk' hk=>.head E cQ (G.1 k' kb7),
    λO hk=>let ⟨k₁,h1,h2⟩:=G.2 O kb7;⟨k₁,h1,.head E cQ h2⟩⟩
 |goto l=>exact hq.elim
 |ret=>exact⟨_,a₁,w₁,hq,.of_steps (.one E cQ) G⟩
 |panic ch=>exact⟨_,a₁,w₁,hq,.of_steps (.one E cQ) G⟩
 |outgrown=>exact⟨_,a₁,w₁,hq,.of_steps (.one E cQ) G⟩
def Nk (h:Q .ret a w):Exit.noGoto Q .ret a w:=h
def Nl (h:Q .normal a w):Exit.noGoto Q .normal a w:=h
end scope
section conv
variable {P:Program}{r:Option Nat}{Q:Exit->Act->World->Prop}
variable {d ty:Nat}{pos:String}{af:Array Edge}{g:Option (Nat×Bool)}{x y:Operand}{t':TypeId}
def zp:∀(l:List UInt8) (s:ByteArray),(l.map (λb=>((b.toNat:Nat):Int))).foldl (λr n=>r.push (UInt8.ofNat n.toNat)) s=⟨(s.data.toList++l).toArray⟩
 |[],s=>by simp
 | b::l,s=>by
   simp only[List.map_cons,List.foldl_cons]
   rw[zp l]
   congr 1
   simp[ByteArray.push]
def QO {src dst el m c:Nat}{A:Option Addr}{l:List UInt8}(hs:P.underlying src=some (.slice el))(he:P.underlying el=some (.int .u8))(hd:P.underlying dst=some .string)(hx:ev N e x=.slice A m c)(hr:Rw w lo A (l.map λb=>Value.int .u8 b.toNat))(hm:l.length=m)(hk:K (act N (upd e d (S l)) ds) w):
 Oper.wpIn (Fw r) n P ⟨some d,.convert src dst x,ty,pos,af,g⟩ (act N e ds) w K Q:=by
 refine cG (v:=S l) (w':=w) Z ?_ MT
 have key:(convert src dst (.slice A m c)).run P w=.ok (S l) w:=by
  rw[run_convert_bytes_string w src dst el A m c hs he hd]
  cases A with
  | none=>
    have:l=[]:=by
     cases l with
     |nil=>rfl
     | cons b t=>
       obtain⟨_,_,h,_⟩:=hr.cells 0 _ Z
       cases h
    subst this
    simp[Conv.bytesToString,S];rfl
  | some a=>
    have hl:(loadCells a m).run P w=.ok ((l.map (λb=>((b.toNat:Nat):Int))).map (Value.int .u8)).toArray w:=by
     by_cases h0:l=[]
     · subst h0;simp at hm;subst hm;simp[loadCells,loadCellsFrom]
     · have hlt:0<l.length:=List.length_pos_iff.2 h0
       obtain⟨b,o,hA,_⟩:=hr.cells 0 _ (by rw[List.getElem?_map,List.getElem?_eq_getElem hlt];rfl)
       cases hA
       have E:=run_loadCells_list (P:=P) (w:=w) ⟨b,o,none⟩ (l.map λb=>Value.int .u8 b.toNat) (λj v hv=>by
        obtain⟨_,_,hA',hc⟩:=hr.cells j v hv
        cases hA'
        rw[Addr.add_mid];exact hc)
       rw[List.length_map,hm]at E
       rw[E,List.map_map];rfl
    rw[run_bytesToString w a m c _ hl,zp]
    rfl
 simp[execOp,hx,key]
def B9 {b:Int}(hx:ev N e x=.int .i64 a)(hy:ev N e y=.int .i64 b)(h1:b≠0)(hc:a.tdiv b=c)(hr:In64 c)(hk:K (act N (upd e d (.int .i64 c)) ds) w):
 Oper.wpIn (Fw r) n P ⟨some d,.binOp .quo t x y t',ty,pos,af,g⟩ (act N e ds) w K Q:=
 dE hx hy (bV ..) (by subst hc;simp[binOp,Op.intDiv,h1,kZ hr]) hk
def Ca {b:Int}(hx:ev N e x=.int .i64 a)(hy:ev N e y=.int .i64 b)(h1:b≠0)(hc:a.tmod b=c)(hk:K (act N (upd e d (.int .i64 c)) ds) w):
 Oper.wpIn (Fw r) n P ⟨some d,.binOp .rem t x y t',ty,pos,af,g⟩ (act N e ds) w K Q:=
 dE hx hy (bV ..) (by subst hc;simp[binOp,Op.intDiv,h1]) hk
def wj {el m:Nat}{oo:Nat}{k:IntKind}(hu:P.underlying t=some (.array m el))(hs:(P.info? el).map (·.size)=some s)(hx:ev N e x=.pointer (some ⟨b,o,none⟩))(hy:ev N e y=.int k (i:Int))(hlt:i<m)(hoo:o+i*s=oo)(hk:K (act N (upd e d (.pointer (some ⟨b,oo,none⟩))) ds) w):Oper.wpIn (Fw r) n P ⟨some d,.indexAddr t x y,ty,pos,af,g⟩ (act N e ds) w K Q:=by
 refine cG (v:=.pointer (some ⟨b,oo,none⟩)) (w':=w) Z ?_ MT
 subst hoo
 cases hi:P.info? el with
 |none=>simp[hi]at hs
 | some inf=>
   have hs':inf.size=s:=by simpa[hi]using hs
   subst hs'
   simp[execOp,hx,hy,Instr.indexAt,run_underlying hu,asIntOf,hlt,sizeOf,typeInfo,hi,Addr.add_mid,Instr.sureAddr]
end conv
end Go.Eng
