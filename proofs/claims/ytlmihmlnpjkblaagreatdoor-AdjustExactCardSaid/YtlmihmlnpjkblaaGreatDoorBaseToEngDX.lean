/- Part of the proof of a statement about an adjustment. -/
import Derived.Test.YtlmihmlnpjkblaaGreatDoorLib9ToEngX
import Derived.KernelRfl
import Derived.Scope
import Derived.Laws.BytesString
set_option linter.all false
namespace Go.Proofs.YtlmihmlnpjkblaaGreatDoor
open Go Go.Eng Go.RowKit Tryz
def kB:gk prog 3 (.int .i64 0) 1 8:=by unfold gk;kernel_rfl
def YI:gk prog 4 (.bool false) 1 1:=by unfold gk;kernel_rfl
def YJ:gk prog 5 (.int .u8 0) 1 1:=by unfold gk;kernel_rfl
def jE:gk prog 28 (.slice none 0 0) 1 24:=by unfold gk;kernel_rfl
def QA:gk prog 22 (.slice none 0 0) 1 24:=by unfold gk;kernel_rfl
def kC:gk prog 36 (.int .i64 0) 1 8:=by unfold gk;kernel_rfl
def aY:gk prog 33 (.agg #[S [],S []]) 2 32:=by unfold gk;kernel_rfl
def tq:gk prog 103 (.agg #[.slice none 0 0,.slice none 0 0,.slice none 0 0,.bool false]) 4 80:=by unfold gk;kernel_rfl
def VA:gk prog 106 (.agg #[]) 0 0:=by unfold gk;kernel_rfl
def BI:gk prog 159 (.slice none 0 0) 1 24:=by unfold gk;kernel_rfl
def bG:gk prog 161 (.agg #[.bool false,.slice none 0 0]) 2 32:=by unfold gk;kernel_rfl
def R2:gk prog 200 (.nilFunc) 1 8:=by unfold gk;kernel_rfl
def R3:gk prog 208 (.agg #[.pointer none,.slice none 0 0]) 2 32:=by unfold gk;kernel_rfl
def BJ:gk prog 75 (.agg #[.bool false]) 1 1:=by unfold gk;kernel_rfl
def dk:gk prog 144 (.agg #[S [],S [],S [],S []]) 4 64:=by unfold gk;kernel_rfl
def DV:gk prog 187 (.agg #[S [],S [],S [],S [],S [],S [],S [],S [],.nilFunc]) 9 136:=by unfold gk;kernel_rfl
def oT:gk prog 189 (.agg #[.int .i64 0,S []]) 2 24:=by unfold gk;kernel_rfl
def bN:gk prog 191 (.agg #[S [],S []]) 2 32:=by unfold gk;kernel_rfl
def Nh:gk prog 262 (.nilFunc) 1 8:=by unfold gk;kernel_rfl
def eh:gk prog 30 (.agg #[.slice none 0 0,.slice none 0 0,.slice none 0 0]) 3 72:=by unfold gk;kernel_rfl
def dD:gk prog 40 (.agg #[.slice none 0 0,.slice none 0 0,S [],S [],.int .i64 0]) 5 88:=by unfold gk;kernel_rfl
def oU:gk prog 82 (.agg #[.slice none 0 0,.slice none 0 0,.slice none 0 0]) 3 72:=by unfold gk;kernel_rfl
def mM:gk prog 86 (.agg #[S [],S [],.int .i64 0]) 3 40:=by unfold gk;kernel_rfl
def Ni:gk prog 150 (.nilFunc) 1 8:=by unfold gk;kernel_rfl
def ie:(prog.info? 3).map (·.size)=some 1:=by kernel_rfl
def Yy:(prog.info? 4).map (·.size)=some 1:=by kernel_rfl
def Vl:(prog.info? 9).map (·.size)=some 1:=by kernel_rfl
def y8:(prog.info? 27).map (·.size)=some 1:=by kernel_rfl
def lS:(prog.info? 28).map (·.size)=some 1:=by kernel_rfl
def BK:(prog.info? 22).map (·.size)=some 1:=by kernel_rfl
def Nj:(prog.info? 36).map (·.size)=some 1:=by kernel_rfl
def bV:(prog.info? 33).map (·.size)=some 2:=by kernel_rfl
def R4:(prog.info? 101).map (·.size)=some 1:=by kernel_rfl
def Gf:(prog.info? 103).map (·.size)=some 4:=by kernel_rfl
def mh:(prog.info? 159).map (·.size)=some 1:=by kernel_rfl
def mi:(prog.info? 161).map (·.size)=some 2:=by kernel_rfl
def VB:(prog.info? 200).map (·.size)=some 1:=by kernel_rfl
def dE:(prog.info? 144).map (·.size)=some 4:=by kernel_rfl
def H8:(prog.info? 185).map (·.size)=some 1:=by kernel_rfl
def tt:(prog.info? 187).map (·.size)=some 9:=by kernel_rfl
def H9:(prog.info? 189).map (·.size)=some 2:=by kernel_rfl
def fw:(prog.info? 191).map (·.size)=some 2:=by kernel_rfl
def R5:(prog.info? 262).map (·.size)=some 1:=by kernel_rfl
def Ia:(prog.info? 24).map (·.size)=some 3:=by kernel_rfl
def bf:(prog.info? 30).map (·.size)=some 3:=by kernel_rfl
def dJ:(prog.info? 40).map (·.size)=some 5:=by kernel_rfl
def nN:(prog.info? 82).map (·.size)=some 3:=by kernel_rfl
def nO:(prog.info? 86).map (·.size)=some 3:=by kernel_rfl
def R6:(prog.info? 109).map (·.size)=some 1:=by kernel_rfl
def R7:(prog.info? 150).map (·.size)=some 1:=by kernel_rfl
def U1:=underlying1
def U3:=underlying3
def U4:=underlying4
def U5:=underlying5
def U9:=underlying9
def R8:=underlying27
def sE:=underlying28
def kt:=underlying22
def yZ:=underlying36
def iO:=underlying33
def Nk:=underlying101
def VC:=underlying103
def lT:=underlying106
def Yz:=underlying25
def Ib:=underlying213
def gV:=underlying159
def kD:=underlying161
def VD:=underlying206
def YK:=underlying96
def VE:=underlying75
def en:=underlying144
def y9:=underlying187
def DW:=underlying189
def jn:=underlying191
def VF:=underlying278
def wg:=underlying24
def c8:=underlying30
def nu:=underlying40
def nw:=underlying82
def tu:=underlying86
def a7 {f : FuncId}{fn : Func}(hf : prog.funcs[f]? = some fn)(hn : (fn.name == "runtime.NumGoroutine") = false := by kernel_rfl)(hb : fn.body.isNone = false := by kernel_rfl) : Enters prog f := Ge hf hn hb
def VG:=a7 func23
def VH:=a7 func133
def YL:=a7 func78
def VI:=a7 func27
def r7:=a7 func54
def VJ:=a7 func29
def VK:=a7 func16
def R9:=a7 func28
def YM:=a7 func75
def Ic:=a7 func34
def YN:=a7 func55
def YO:=a7 func56
def Gg:=a7 func57
def Sa:=a7 func65
def YP:=a7 func174
def YQ:=a7 func175
def VN:=a7 func176
def VO:=a7 func81
def YR:=a7 func128
def YS:=a7 func130
def VP:=a7 func131
def YT:=a7 func132
def oW:=a7 func26
def BL:=a7 func134
def VQ:=a7 func66
def VR:=a7 func67
def VS:=a7 func68
def VT:=a7 func69
def Sb:=a7 func70
def YU:=a7 func110
def YV:=a7 func111
def YW:=a7 func112
def YX:=a7 func74
def YY:=a7 func127
def VU:=a7 func71
def VV:=a7 func72
def VX:=a7 func73
def YZ:=a7 func82
def VY:=a7 func83
def VZ:=a7 func113
def V0:=a7 func114
def V1:=a7 func115
def V2:=a7 func137
def r9:=a7 func62
def za:=a7 func63
def xr:=a7 func64
def Nl:=a7 func139
def Y0:=a7 func136
def Y1:=a7 func126
def Y2:=a7 func153
def V3:=a7 func77
def Y3:=a7 func154
def Y4:=a7 func173
def nd:=a7 func135
def V4:=a7 func138
def Ie:=a7 func140
def zc:=a7 func177
def BM:=a7 func181
def V5:=a7 func179
def tv:=a7 func118
def If:=a7 func87
def kE:=a7 func119
def DX:=a7 func120
def ze:=a7 func121
def V6:=a7 func122
def DY:=a7 func123
def mj:=a7 func124
def zf:=a7 func125
def QB:=a7 func180
def QC:=a7 func182
def DZ:=a7 func183
def zg:=a7 func178
def V7:=a7 func172
def V8:=a7 func129
def V9:=a7 func216
def Ig:=a7 func217
def wh:=a7 func156
def QD:=a7 func157
def D3:=a7 func158
def rq:=a7 func159
def D5:=a7 func160
def Wb:=a7 func161
def Wc:=a7 func162
def Ih:=a7 func163
def Wd:=a7 func164
def zh:=a7 func165
def We:=a7 func166
def Ii:=a7 func167
def Ij:=a7 func168
def QE:=a7 func169
def Wg:=a7 func170
def QF:=a7 func171
def Ik:=a7 func204
def Wh:=a7 func205
def Wi:=a7 func206
def D6:=a7 func207
def Wj:=a7 func208
def wi:=a7 func214
def QG:=a7 func306
def QH:=a7 func307
def wj:=a7 func308
def QI:=a7 func309
def Il:=a7 func310
def rr:=a7 func311
def QJ:=a7 func312
def QK:=a7 func15
def QM:=a7 func13
def D7:=a7 func117
def QN:=a7 func155
def Im:=a7 func186
def D8:=a7 func35
def rt:=a7 func36
def tw:=a7 func37
def D9:=a7 func86
def ru:=a7 func84
def QO:=a7 func142
def QP:=a7 func85
def Ea:=a7 func88
def Wk:=a7 func141
def Wl:=a7 func143
def Sd:=a7 func201
def Se:=a7 func105
def Sf:=a7 func147
def nP:=a7 func149
def Io:=a7 func198
def nQ:=a7 func191
def Ip:=a7 func194
def Iq:=a7 func188
def Si:=a7 func152
def qy:=a7 func202
def Ir:=a7 func227
def BN:=a7 func199
def iu:=a7 func219
def xu:=a7 func218
def ml:=a7 func222
def nR:=a7 func184
def xw:=a7 func200
def BO:=a7 func203
def Sj:=a7 func229
def Is:=a7 func252
def Sk:=a7 func150
def tz:=a7 func185
def xx:=a7 func220
def nT:=a7 func187
def BP:=a7 func189
def BQ:=a7 func190
def Sl:=a7 func225
def nU:=a7 func193
def Sm:=a7 func223
def BR:=a7 func228
def Sp:=a7 func230
def BU:=a7 func231
def BV:=a7 func100
def BW:=a7 func101
def Sq:=a7 func232
def Sr:=a7 func233
def It:=a7 func197
def Ss:=a7 func248
def Iu:=a7 func90
def BX:=a7 func249
def Iv:=a7 func250
def Su:=a7 func251
def Iw:=a7 func195
def Sv:=a7 func196
def Sw:=a7 func221
def Sx:=a7 func224
def Iy:=a7 func148
def Sy:=a7 func253
def Sz:=a7 func254
def SB:=a7 func269
def Iz:=a7 func226
def IA:=a7 func9
def IB:=a7 func10
def dR:=a7 func11
def nV:=a7 func12
def qA:=a7 func14
def qB:=a7 func19
def IC:=a7 func20
def SC:=a7 func21
def BY:=a7 func22
def SD:=a7 func24
def BZ:=a7 func30
def SE:=a7 func31
def lf:=a7 func32
def SF:=a7 func33
def B3:=a7 func38
def B4:=a7 func39
def fe:=a7 func40
def ID:=a7 func41
def IE:=a7 func42
def IF:=a7 func43
def B5:=a7 func44
def SG:=a7 func45
def IG:=a7 func46
def SH:=a7 func47
def SI:=a7 func48
def IH:=a7 func49
def SJ:=a7 func50
def SK:=a7 func51
def SL:=a7 func52
def SN:=a7 func53
def SP:=a7 func58
def SQ:=a7 func59
def II:=a7 func60
def xy:=a7 func61
def SR:=a7 func76
def qC:=a7 func79
def xz:=a7 func80
def IJ:=a7 func89
def xA:=a7 func91
def B6:=a7 func92
def lg:=a7 func93
def SS:=a7 func94
def xB:=a7 func95
def SU:=a7 func96
def IK:=a7 func97
def B7:=a7 func98
def qD:=a7 func99
def B8:=a7 func102
def B9:=a7 func103
def SV:=a7 func104
def SX:=a7 func106
def IL:=a7 func107
def IM:=a7 func108
def SY:=a7 func109
def SZ:=a7 func116
def Ca:=a7 func146
def S1:=a7 func151
def IN:=a7 func192
def sd:prog.follows .mixedOrders=true:=by kernel_rfl
end Go.Proofs.YtlmihmlnpjkblaaGreatDoor
def bP (B:Nat):List Nat->Nat
 |[]=>0
 |d::l=>d+B*bP B l
def zi (B:Nat):Nat->Nat->List Nat
 |0,_=>[]
 |f+1,n=>if n=0 then[]else n%B::zi B f (n/B)
def ap (B n:Nat):List Nat:=zi B n n
def IP (B:Nat)(hB:2<=B):∀(f n:Nat),n<=f->∀g,n<=g->zi B f n=zi B g n:=by
 intro f
 induction f with
 | zero=>
   intro n E g _
   obtain rfl:n=0:=J
   cases g <;>simp[zi]
 | succ f ih =>
   intro n E g _
   cases g with
   | zero => obtain rfl:n=0:=J
             simp[zi]
   | succ g=>
     simp only[zi]
     by_cases h0:n=0
     · simp[h0]
     · rw[if_neg h0,if_neg h0]
       have hd:n/B<n:=Nat.div_lt_self J J
       rw[ih (n/B) J g J]
def gm (B:Nat):ap B 0=[]:=rfl
def fO (B n:Nat)(hB:2<=B)(hn:0<n):ap B n=n%B::ap B (n/B):=by
 unfold ap
 cases n with
 |zero=>omega
 | succ m=>
   have hd:(m+1)/B<m+1:=Nat.div_lt_self J J
   simp only[zi]
   rw[if_neg J,IP B hB m ((m+1)/B) J ((m+1)/B) (Nat.le_refl _)]
def cG (B:Nat)(hB:2<=B)(n:Nat):bP B (ap B n)=n:=by
 induction n using Nat.strongRecOn with
 | _ n ih=>
   by_cases h0:n=0
   · subst h0;rfl
   · rw[fO B n hB J]
     simp only[bP]
     rw[ih (n/B) (Nat.div_lt_self J J)]
     exact Nat.mod_add_div n B
def eI (B:Nat)(hB:2<=B)(n:Nat):∀d∈ap B n,d<B:=by
 induction n using Nat.strongRecOn with
 | _ n ih=>
   by_cases h0:n=0
   · subst h0;simp[gm]
   · rw[fO B n hB J]
     intro d hd
     rcases List.mem_cons.1 hd with rfl|h
     · exact Nat.mod_lt _ J
     · exact ih (n/B) (Nat.div_lt_self J J) d h
def Canon (B:Nat)(l:List Nat):Prop:=(∀d∈l,d<B)/\l.getLast?≠some 0
def Canon.tail {B d:Nat}{l:List Nat}(h:Canon B (d::l)):Canon B l:=by
 refine⟨λx hx=>h.1 x (List.mem_cons_of_mem _ hx),?_⟩
 have:=h.2
 cases l with
 |nil=>simp
 |cons e l=>simpa[List.getLast?_cons_cons]using this
def Canon.pos {B:Nat}(hB:2<=B):∀{l:List Nat},Canon B l->l≠[]->0<bP B l
 |[],_,h=>absurd Z h
 | [d],h,_=>by
   have:=h.2
   simp[bP]at this ⊢
   omega
 | d::e::l,h,_=>by
   have:=Canon.pos hB h.tail JT
   simp only[bP]at this ⊢
   have:0<B*(e+B*bP B l):=Nat.mul_pos J this
   omega
def mm {B:Nat}(hB:2<=B):∀{l:List Nat},Canon B l->l=ap B (bP B l)
 |[],_=>rfl
 | d::l,h=>by
   have hp:=Canon.pos hB h JT
   have hd:d<B:=h.1 d JT
   rw[fO B _ hB hp]
   simp only[bP]
   rw[Nat.add_mul_mod_self_left,Nat.mod_eq_of_lt hd,Nat.add_mul_div_left _ _ J,Nat.div_eq_of_lt hd,Nat.zero_add,<-mm hB h.tail]
def jY (B:Nat)(hB:2<=B)(n:Nat):(ap B n).getLast?≠some 0:=by
 induction n using Nat.strongRecOn with
 | _ n ih=>
   by_cases h0:n=0
   · subst h0;simp[gm]
   · rw [fO B n hB J]
     have E:=ih (n/B) (Nat.div_lt_self J J)
     by_cases hq:n/B=0
     · rw[hq,gm]
       have:n<B:=by
        rcases Nat.lt_or_ge n B with h|h
        · exact h
        · have:=Nat.div_pos h J;omega
       simp[Nat.mod_eq_of_lt this];omega
     · rw[fO B (n/B) hB (Nat.pos_of_ne_zero hq)]at E ⊢
       simpa[List.getLast?_cons_cons]using E
def dA:List Nat->List Nat
 |[]=>[]
 |d::l=>if dA l=[]/\d=0 then[]else d::dA l
def zj (B:Nat):∀l,bP B (dA l)=bP B l
 |[]=>rfl
 | d::l=>by
   unfold dA
   have ih:=zj B l
   split
   · rename_i h;rw[h.1]at ih;simp only[bP]at *;rw[<-ih,h.2];simp
   · simp only[bP,ih]
def wk {d:Nat}:∀{l:List Nat},d∈dA l->d∈l
 |[],h=>h
 | e ::l,h=>by
   unfold dA at h
   split at h
   · simp at h
   · rcases List.mem_cons.1 h with rfl|h
     · simp
     · exact List.mem_cons_of_mem _ (wk h)
def tA:∀l,(dA l).getLast?≠some 0
 |[]=>by simp[dA]
 | d ::l=>by
   have ih:=tA l
   unfold dA
   split
   · simp
   · rename_i h
     cases ht:dA l with
     |nil=>simp[ht]at h ⊢;exact h
     |cons e m=>rw[ht]at ih;simpa[List.getLast?_cons_cons]using ih
def mo (B:Nat)(hB:2<=B)(l:List Nat)(h:∀d∈l,d<B):dA l=ap B (bP B l):=by
 rw[<-zj B l]
 exact mm hB ⟨λd hd=>h d (wk hd),tA l⟩
def b9 (B:Nat):∀a b,bP B (a++b)=bP B a+B^a.length*bP B b
 |[],b=>by simp[bP]
 | d ::a,b=>by
   simp only[List.cons_append,bP,b9 B a b,List.length_cons,Nat.pow_succ]
   rw[Nat.mul_add]
   have:B*(B^a.length*bP B b)=B^a.length*B*bP B b:=by
    rw[<-Nat.mul_assoc,Nat.mul_comm B]
   omega
def lh (B:Nat):∀l:List Nat,(∀d∈l,d<B)->bP B l<B^l.length
 |[],_=>by simp[bP]
 | d::l,h=>by
   have ih:=lh B l (λx hx=>h x (List.mem_cons_of_mem _ hx))
   have hd:=h d JT
   simp only[bP,List.length_cons,Nat.pow_succ]
   have:B*(bP B l+1)<=B*B^l.length:=Nat.mul_le_mul_left _ ih
   rw[Nat.mul_add]at this
   rw[Nat.mul_comm (B^l.length)]
   omega
def vO (B:Nat)(hB:2<=B)(n k:Nat)(h:n<B^k):(ap B n).length<=k:=by
 induction k generalizing n with
 |zero=>simp at h;subst h;simp[gm]
 | succ k ih=>
   by_cases h0:n=0
   · subst h0;simp[gm]
   · rw[fO B n hB J]
     have:n/B<B^k:=by
      rw[Nat.div_lt_iff_lt_mul J]
      rwa [Nat.pow_succ]at h
     have:=ih _ this
     simp;omega
def ba (B:Nat)(hB:2<=B)(n k:Nat):(ap B n).length<=k↔n<B^k:=by
 constructor
 · intro h
   have h1:=lh B (ap B n) (eI B hB n)
   rw[cG B hB]at h1
   exact qb1 h1 (Nat.pow_le_pow_right J h)
 · exact vO B hB n k
def aJ (d:Nat->Int)(c0:Int):Nat->Int×List Int
 |0=>(c0,[])
 | k+1=>if d k+(aJ d c0 k).1<0 then(-1,(aJ d c0 k).2++[d k+(aJ d c0 k).1+10000])
   else if 10000<=d k+(aJ d c0 k).1 then((d k+(aJ d c0 k).1)/10000,(aJ d c0 k).2++[(d k+(aJ d c0 k).1)%10000])
   else(0,(aJ d c0 k).2++[d k+(aJ d c0 k).1])
def Cb {d:Nat->Int}{c0:Int}{k:Nat}(h:d k+(aJ d c0 k).1<0):aJ d c0 (k+1)=(-1,(aJ d c0 k).2++[d k+(aJ d c0 k).1+10000]):=by
 rw[aJ,if_pos h]
def Cc {d:Nat->Int}{c0:Int}{k:Nat}(h:¬d k+(aJ d c0 k).1<0)(h2:10000<=d k+(aJ d c0 k).1):aJ d c0 (k+1)=((d k+(aJ d c0 k).1)/10000,(aJ d c0 k).2++[(d k+(aJ d c0 k).1)%10000]):=by
 rw[aJ,if_neg h,if_pos h2]
def tB {d:Nat->Int}{c0:Int}{k:Nat}(h:¬d k+(aJ d c0 k).1<0)(h2:¬10000<=d k+(aJ d c0 k).1):aJ d c0 (k+1)=(0,(aJ d c0 k).2++[d k+(aJ d c0 k).1]):=by
 rw[aJ,if_neg h,if_neg h2]
def eJ (d:Nat->Int)(c0:Int):∀k,(aJ d c0 k).2.length=k
 |0=>rfl
 | k+1=>by
   have:=eJ d c0 k
   rw[aJ];split <;>(try split) <;>simp[this]
def mp:List Int->Int
 |[]=>0
 |x::l=>x+10000*mp l
def jZ:∀a b,mp (a++b)=mp a+10000^a.length*mp b
 |[],b=>by simp[mp]
 | x::a,b=>by
   simp only[List.cons_append,mp,jZ a b,List.length_cons,Int.pow_succ]
   grind
def iV (d:Nat->Int):Nat->Int
 |0=>0
 |k+1=>iV d k+d k*10000^k
def jF (d:Nat->Int)(c0:Int):∀k,mp (aJ d c0 k).2+(aJ d c0 k).1*10000^k=c0+iV d k
 |0=>by simp[aJ,mp,iV]
 | k + 1=>by
   have ih:=jF d c0 k
   have hl:=eJ d c0 k
   rw[aJ]
   split
   · simp only[jZ,hl,mp,iV,Int.pow_succ];grind
   · split
     · simp only[jZ,hl,mp,iV,Int.pow_succ]
       have h3:=Int.mul_ediv_add_emod (d k+(aJ d c0 k).1) 10000
       grind
     · simp only[jZ,hl,mp,iV,Int.pow_succ];grind
def iP (d:Nat->Int)(c0:Int)(h:∀k,-10000<=d k+(aJ d c0 k).1):∀k,∀x∈(aJ d c0 k).2,0<=x/\x<10000
 |0=>by simp[aJ]
 | k + 1=>by
   have ih:=iP d c0 h k
   have hk:=h k
   intro x hx
   rw[aJ]at hx
   split at hx
   · rcases List.mem_append.1 hx with hx|hx
     · exact ih x hx
     · simp at hx;omega
   · split at hx
     · rcases List.mem_append.1 hx with hx|hx
       · exact ih x hx
       · simp at hx;omega
     · rcases List.mem_append.1 hx with hx|hx
       · exact ih x hx
       · simp at hx;omega
def eK (l:List Int):List Nat:=l.map Int.toNat
def li:∀l:List Int,(∀x∈l,0<=x)->((bP 10000 (eK l):Nat):Int)=mp l
 |[],_=>rfl
 | x::l,h=>by
   have ih:=li l (λy hy=>h y (by simp[hy]))
   have hx:=h x JT
   simp only[eK,List.map_cons,bP,mp]at *
   omega
def zk (l:List Int)(h:∀x∈l,0<=x):(eK l).map (λn:Nat=>(n:Int))=l:=by
 simp only[eK,List.map_map]
 conv=>rhs;rw[<-List.map_id l]
 apply List.map_congr_left
 intro x hx
 have:=h x hx
 simp;omega
def Gh (l:List Int)(h:∀x∈l,0<=x/\x<10000):∀x∈eK l,x<10000:=by
 intro x hx
 obtain⟨y,hy,rfl⟩:=List.mem_map.1 hx
 have:=h y hy
 omega
def jw (xs:List Nat):∀k,iV (λi=>((xs.getD i 0:Nat):Int)) k=((bP 10000 (xs.take k):Nat):Int)
 |0=>by simp[iV,bP]
 | k + 1=>by
   rw[iV,jw xs k]
   by_cases hk:k<xs.length
   · have:xs.take (k+1)=xs.take k++[xs.getD k 0]:=by
      rw[List.take_succ_eq_append_getElem hk];simp[hk]
     rw[this,b9]
     have hl:(xs.take k).length=k:=by simp;omega
     rw[hl]
     simp only[bP,Nat.mul_zero,Nat.add_zero]
     rw[Int.natCast_add,Int.natCast_mul,Int.natCast_pow]
     rw[Int.mul_comm];rfl
   · rw[List.take_of_length_le J,List.take_of_length_le J]
     have:xs.getD k 0=0:=by simp[List.getD,List.getElem?_eq_none (Nat.le_of_not_lt hk)]
     rw[this];simp
def zm (d e:Nat->Int):∀k,iV (λi=>d i+e i) k=iV d k+iV e k
 |0=>by simp[iV]
 |k+1=>by simp only[iV,zm d e k];grind
def zn (d e:Nat->Int):∀k,iV (λi=>d i-e i) k=iV d k-iV e k
 |0=>by simp[iV]
 |k+1=>by simp only[iV,zn d e k];grind
def zp (d:Nat->Int)(c:Int):∀k,iV (λi=>d i*c) k=iV d k*c
 |0=>by simp[iV]
 |k+1=>by simp only[iV,zp d c k];grind
def iW (xs:List Nat){k:Nat}(h:xs.length<=k):bP 10000 (xs.take k)=bP 10000 xs:=by rw[List.take_of_length_le h]
def getD_lt {xs:List Nat}(h:∀x∈xs,x<10000)(i:Nat):xs.getD i 0<10000:=by
 by_cases hi:i<xs.length
 · simp[hi];exact h _ (List.getElem_mem hi)
 · simp[List.getD,List.getElem?_eq_none (Nat.le_of_not_lt hi)]
def gp (xs ys:List Nat)(i:Nat):Int:=((xs.getD i 0:Nat):Int)+((ys.getD i 0:Nat):Int)
def nW {xs ys:List Nat}(hx:∀x∈xs,x<10000)(hy:∀x∈ys,x<10000):∀k,0<=(aJ (gp xs ys) 0 k).1/\(aJ (gp xs ys) 0 k).1<=1
 |0=>by simp[aJ]
 | k+1=>by
   have ih:=nW hx hy k
   have h1:=getD_lt hx k
   have h2:=getD_lt hy k
   rw[aJ]
   have hd:gp xs ys k=((xs.getD k 0:Nat):Int)+((ys.getD k 0:Nat):Int):=rfl
   split
   · omega
   · split <;>simp only <;>omega
def IQ {xs ys:List Nat}(hx:∀x∈xs,x<10000)(hy:∀x∈ys,x<10000){n k:Nat}(hn:xs.length<=n/\ys.length<=n)(hk:n<=k)(hc:(aJ (gp xs ys) 0 k).1=0):
 (∀x∈(aJ (gp xs ys) 0 k).2,0<=x/\x<10000)/\bP 10000 (eK (aJ (gp xs ys) 0 k).2)=bP 10000 xs+bP 10000 ys:=by
 have hd:∀x∈(aJ (gp xs ys) 0 k).2,0<=x/\x<10000:=iP _ _ (λj=>by
  have:=nW hx hy j
  simp only[gp];omega) k
 refine⟨hd,?_⟩
 have h1:=jF (gp xs ys) 0 k
 have h2:=li _ (λx hx=>(hd x hx).1)
 have h3:iV (gp xs ys) k=((bP 10000 xs:Nat):Int)+((bP 10000 ys:Nat):Int):=by
  have:=zm (λi=>((xs.getD i 0:Nat):Int)) (λi=>((ys.getD i 0:Nat):Int)) k
  rw[jw,jw,iW xs J,iW ys J]at this
  exact this
 rw[hc]at h1
 omega
def dw (xs ys:List Nat)(i:Nat):Int:=((xs.getD i 0:Nat):Int)-((ys.getD i 0:Nat):Int)
def j2 {xs ys:List Nat}(hx:∀x∈xs,x<10000)(hy:∀x∈ys,x<10000):∀k,-1<=(aJ (dw xs ys) 0 k).1/\(aJ (dw xs ys) 0 k).1<=0
 |0=>by simp[aJ]
 | k+1=>by
   have ih:=j2 hx hy k
   have h1:=getD_lt hx k
   have h2:=getD_lt hy k
   rw[aJ]
   have hd:dw xs ys k=((xs.getD k 0:Nat):Int)-((ys.getD k 0:Nat):Int):=rfl
   split
   · simp
   · split <;>simp only <;>omega
def zq {l:List Int}(h:∀x∈l,0<=x/\x<10000):0<=mp l/\mp l<10000^l.length:=by
 induction l with
 |nil=>simp[mp]
 | cons x l ih=>
   have:=ih (λy hy=>h y (by simp[hy]))
   have hx:=h x JT
   simp only[mp,List.length_cons,Int.pow_succ]
   constructor
   · omega
   · omega
def Gj {xs ys:List Nat}(hx:∀x∈xs,x<10000)(hy:∀x∈ys,x<10000){n:Nat}(hn:xs.length<=n/\ys.length<=n)(hle:bP 10000 ys<=bP 10000 xs):
 (aJ (dw xs ys) 0 n).1=0/\(∀k,∀x∈(aJ (dw xs ys) 0 k).2,0<=x/\x<10000)/\∀k,n<=k->(aJ (dw xs ys) 0 k).1=0->bP 10000 (eK (aJ (dw xs ys) 0 k).2)=bP 10000 xs-bP 10000 ys:=by
 have hd:∀k,∀x∈(aJ (dw xs ys) 0 k).2,0<=x/\x<10000:=iP _ _ (λj=>by
  have:=j2 hx hy j
  have h1:=getD_lt hx j
  have h2:=getD_lt hy j
  simp only[dw];omega)
 have h3:∀k,n<=k->iV (dw xs ys) k=((bP 10000 xs:Nat):Int)-((bP 10000 ys:Nat):Int):=λk hk=>by
  have:=zn (λi=>((xs.getD i 0:Nat):Int)) (λi=>((ys.getD i 0:Nat):Int)) k
  rw[jw,jw,iW xs J,iW ys J]at this
  exact this
 refine⟨?_,hd,λk hk hc=>?_⟩
 · have h1:=jF (dw xs ys) 0 n
   have h4:=zq (hd n)
   have E:=j2 hx hy n
   rw[eJ]at h4
   rw[h3 n (Nat.le_refl _)]at h1
   have hcases:(aJ (dw xs ys) 0 n).1=-1\/(aJ (dw xs ys) 0 n).1=0:=J
   rcases hcases with hc|hc
   · rw[hc]at h1;omega
   · exact hc
 · have h1:=jF (dw xs ys) 0 k
   have h2:=li _ (λx hx=>(hd k x hx).1)
   rw[hc,h3 k hk]at h1
   omega
def se (xs:List Nat)(m:Nat)(i:Nat):Int:=((xs.getD i 0:Nat):Int)*(m:Int)
def xC {xs:List Nat}(hx:∀x∈xs,x<10000){m:Nat}(hm:m<10000)(i:Nat):0<=se xs m i/\se xs m i<=99980001:=by
 have h1:=getD_lt hx i
 have h2:xs.getD i 0*m<=9999*9999:=qb9 J J
 unfold se
 rw[<-Int.natCast_mul]
 omega
def tC {xs:List Nat}(hx:∀x∈xs,x<10000){m:Nat}(hm:m<10000):∀k,0<=(aJ (se xs m) 0 k).1/\(aJ (se xs m) 0 k).1<10000
 |0=>by simp[aJ]
 | k+1=>by
   have ih:=tC hx hm k
   have h1:=xC hx hm k
   rw[aJ]
   split
   · omega
   · split <;>simp only <;>omega
def S2 {xs:List Nat}(hx:∀x∈xs,x<10000){m:Nat}(hm:m<10000){n k:Nat}(hn:xs.length<=n)(hk:n<=k)(hc:(aJ (se xs m) 0 k).1=0):
 (∀x∈(aJ (se xs m) 0 k).2,0<=x/\x<10000)/\bP 10000 (eK (aJ (se xs m) 0 k).2)=bP 10000 xs*m:=by
 have hd:∀x∈(aJ (se xs m) 0 k).2,0<=x/\x<10000:=iP _ _ (λj=>by
  have:=tC hx hm j
  have:=xC hx hm j
  omega) k
 refine⟨hd,?_⟩
 have h1:=jF (se xs m) 0 k
 have h2:=li _ (λx hx=>(hd x hx).1)
 have h3:iV (se xs m) k=((bP 10000 xs:Nat):Int)*(m:Int):=by
  have:=zp (λi=>((xs.getD i 0:Nat):Int)) (m:Int) k
  rw[jw,iW xs J]at this
  exact this
 rw[hc,h3]at h1
 rw[<-Int.natCast_mul]at h1
 omega
namespace Go.Eng
open Go Go.RowKit
variable {K K1 K2:Act->World->Prop}{xs:Array Operand}{ats:Array TypeId}{fn:Func}{f:FuncId}{a c:Int}{ds:List Deferred}{bs order ps C:List Nat}{l rest:List Oper}{cs lb args vs la cs':List Value}{b lo D k sz N gf n base fuel i j s dd o k' p:Nat}{ls:Nat->Bool}{e:Nat->Value}{t et src dst el:TypeId}{v v' u:Value}{W A B W' w0 w' w W0:World}
section range
variable {P:Program}
structure eF (bs:List Nat)(W W':World):Prop where
 size:W.heap.size<=W'.heap.size
 block:∀k,k<W.heap.size->k∉bs->W'.heap[k]?=W.heap[k]?
def eF.refl (bs:List Nat)(W:World):eF bs W W:=⟨qa0 _,λ_ _ _=>rfl⟩
def eF.ext (h:eF bs W A)(k:aP A B):eF bs W B:=
 ⟨qa8 h.size k.size,λi hi hb=>(k.block i (qb1 hi h.size)).trans (h.block i hi hb)⟩
def ad7:=@eF.ext
def eF.put (h:eF bs W A)(k:ez A B b)(hb:b∈bs\/W.heap.size<=b):eF bs W B:=
 ⟨by rw[k.size];exact h.size,λi hi E=>(k.block i (λe=>by subst e;rcases hb with hb|hb;exact E hb;omega)).trans (h.block i hi E)⟩
def ad9:=@eF.put
def eF.gr {row:Option Nat}(h:eF bs W A)(k:A.grownBy B row)(hb:∀b,row=some b->b∈bs\/W.heap.size<=b):eF bs W B:=
 ⟨qa8 h.size k.size,λi hi E=>(k.block i (qb1 hi h.size) (λe=>by rcases hb i e.symm with hb|hb;exact E hb;omega)).trans (h.block i hi E)⟩
def eF.others (h:eF bs W W')(hc:∀b∈bs,∃o:Obj,W.heap[b]?=some o/\o.isCells=true):KeepsOthers W W':=
 ⟨h.size,λk o hk ho=>(h.block k (Array.getElem?_eq_some_iff.1 hk).1 (λhm=>by
  obtain⟨o',G,E⟩:=hc k hm
  rw[hk]at G;cases G;rw[ho]at E;cases E)).trans hk⟩
def eF.blk {cs:Array Value}(h:eF bs W W')(hn:b∉bs)(hb:ao W b t cs):ao W' b t cs:=(h.block b hb.lt hn).trans hb
def eF.rw {A:Option Addr}(h:eF bs W W')(hn:∀ad,A=some ad->ad.block∉bs)(hb:Rw W lo A cs):Rw W' lo A cs:=by
 refine⟨λj u hu=>?_,hb.lo,λad e=>qb1 (hb.hi ad e) h.size⟩
 obtain⟨b,o,e,hc⟩:=hb.cells j u hu
 refine⟨b,o,e,?_⟩
 rw[<-hc]
 exact World.cell?_of_block (h.block b (hb.hi _ e) (hn _ e))
def ao.isCells {cs:Array Value}(h:ao w b t cs):∃o:Obj,w.heap[b]?=some o/\o.isCells=true:=⟨_,h,rfl⟩
def ae2:=@ao.isCells
def Cd (B:Nat)(k4:World->Prop):Prop:=
 ∀W W' row,k4 W->W.grownBy W' row->(∀r,row=some r->B<=r/\∃o:Obj,W.heap[r]?=some o/\o.isCells=false)->k4 W'
def ao.cel {row:Option Nat}{B:Nat}{cs:Array Value}(hg:W.grownBy W' row)(hr:∀r,row=some r->B<=r/\∃o:Obj,W.heap[r]?=some o/\o.isCells=false)(h:ao W b t cs):ao W' b t cs:=
 (grownBy_keeps_cells hg (λr e=>(hr r e).2) h Z).trans h
def ad6:=@ao.cel
def Rw.cel {row:Option Nat}{B:Nat}{A:Option Addr}(hg:W.grownBy W' row)(hr:∀r,row=some r->B<=r/\∃o:Obj,W.heap[r]?=some o/\o.isCells=false)(h:Rw W lo A cs):Rw W' lo A cs:=by
 refine⟨λj u hu=>?_,h.lo,λE e=>qb1 (h.hi E e) hg.size⟩
 obtain⟨b,o,e,hc⟩:=h.cells j u hu
 exact⟨b,o,e,cell_kept hc hg (λr e=>(hr r e).2)⟩
def oX {row:Option Nat}{B n0:Nat}(hn:n0<=B)(hg:W.grownBy W' row)(hr:∀r,row=some r->B<=r/\∃o:Obj,W.heap[r]?=some o/\o.isCells=false)(hs:n0<=W.heap.size)(h:Below n0 w0 W):Below n0 w0 W':=
 h.grown hg hs (λk e=>qa8 hn (hr k e).1)
def lj (w:World)(D:Nat):Prop:=w.heap[D]?=some (.deferred (some []))
def lj.ext (k:aP w w')(h:lj w D):lj w' D:=k.heap h
def lj.put (k:ez w w' b)(hne:D≠b)(h:lj w D):lj w' D:=(k.block D hne).trans h
def ac8:=@lj.put
def lj.ne {cs:Array Value}(h:lj w D)(hb:ao w b t cs):D≠b:=λe=>by
 subst e;unfold lj at h;unfold ao at hb;rw[h]at hb;cases hb
def QQ (P:Program)(gf:Nat)(lb:List Value)(m:Nat)(enc:Nat->List Value)(order:List Nat)(Kq:World->Prop)(w:World):Prop:=
 SeqStopsK Fence.wide 8 P gf lb.toArray (λi:{i:Nat // i<m}=>(enc i.1).toArray) (λA B=>Kq A->Kq B) (λxs=>xs.map (·.1)=order) (λxs=>xs.map (·.1) <+: order) m w
def kj (e:Nat->Value):List Nat->List Value->Nat->Value
 |p::ps,v::vs=>kj (upd e p v) ps vs
 |_,_=>e
def Nm {row:Option Nat}{B:Nat}(hg:W.grownBy W' row)(hr:∀r,row=some r->B<=r/\∃o:Obj,W.heap[r]?=some o/\o.isCells=false)(h:W.ownsRow lo et sz v k cs):W'.ownsRow lo et sz v k cs:=by
 obtain⟨hl,hv|⟨g,cap,G,rfl,H,E,r⟩⟩:=h
 · exact⟨hl,.inl hv⟩
 · exact⟨hl,.inr ⟨g,cap,G,rfl,H,(grownBy_keeps_cells hg (λr e=>(hr r e).2) E Z).trans E,r⟩⟩
def Eb (hK:lj w D)(h:w.ownsRow lo et sz v k cs):(w.putObj D (.deferred none)).ownsRow lo et sz v k cs:=by
 refine Nm (B:=0) (grownBy_putObj' w D _) (λr e=>?_) h
 cases e
 exact⟨qa7 _,_,hK,rfl⟩
def Nn (N:Nat)(e:Nat->Value)(d:Nat)(v:Value):(act N e []).tmps.setIfInBounds d v=(act N (upd e d v) []).tmps:=by
 have:=ax N e [] d v
 exact qb2 Act.tmps this
def oZ (N:Nat):∀(ps:List Nat) (vs:List Value) (e:Nat->Value),(ps.zip vs).foldl (λt (x:Nat×Value)=>t.setIfInBounds x.1 x.2) (act N e []).tmps=(act N (kj e ps vs) []).tmps
 |[],vs,e=>by simp[kj]
 |p::ps,[],e=>by simp[kj]
 | p::ps,v::vs,e=>by
   simp only[List.zip_cons_cons,List.foldl_cons,kj]
   rw[Nn,oZ N ps vs]
def roundPost (Kq:World->Prop)(k4:List Nat->World->Prop)(Ix:Code->List Nat->World->Prop)(xs:List Nat)(W:World):Exit->Act->World->Prop
 | .normal,_,W'=>KeepsOthers W W'/\(Kq W->Kq W')/\k4 xs W'
 | .ret,_,W'=>KeepsOthers W W'/\Ix .ret xs W'
 | .exit id,_,W'=>KeepsOthers W W'/\Ix (.exit id) xs W'
 |_,_,_=>False
def sF {Q:Exit->Act->World->Prop}{m:Nat}{enc:Nat->List Value}{Kq:World->Prop}{g:Operand}{assign body:Code}(hg:ev N e g=.func (.func gf) #[] lb.toArray)(eg:Enters P gf)(hit:QQ P gf lb m enc order Kq w)(hKq:Cd w.heap.size Kq)(hps:∀i,(enc i).length=ps.length)(qs:List Nat)(qv:Nat->List Value)(hassign:∀l x W K,K (act N (kj (kj e ps (enc x)) qs (qv x)) []) W->assign.wpIn (Fw (some l)) 7 P (Exit.then K (λ_ _ _=>False)) (act N (kj e ps (enc x)) []) W)(k4:List Nat->World->Prop)(Ix:Code->List Nat->World->Prop)(hI:∀xs,Cd w.heap.size (k4 xs))(hIx:∀c xs,Cd w.heap.size (Ix c xs))(h0:k4 [] w)(hbody:∀l pre x W,k4 pre W->(∀i∈pre,i<m)->x<m->pre.length<m->body.wpIn (Fw (some l)) 7 P (roundPost Kq k4 Ix (pre++[x]) W) (act N (kj (kj e ps (enc x)) qs (qv x)) []) W)(hdone:∀D W,w.heap.size<=D->k4 order W->lj W D->Q .normal (act N e (⟨.collected D,#[]⟩::ds)) W)(hstop:∀D c pre W,w.heap.size<=D->pre <+: order->Ix c pre W->lj W D->c.wpIn (Fw none) 9 P Q (act N e (⟨.collected D,#[]⟩::ds)) W):
 (Code.rangeFunc g ps.toArray assign body).wpIn (Fw none) 9 P Q (act N e ds) w:=by
 have H:∀pre:List {i:Nat // i<m},∀i∈pre.map (·.1),i<m:=λpre i hi=>by
  obtain⟨x,_,rfl⟩:=List.mem_map.1 hi
  exact x.2
 refine wpIn_rangeFunc_ownF (F:=Fence.wide) (n:=9) (α:={i:Nat // i<m}) Z J (gf:=gf) (lb:=lb.toArray) (by rw[cR];exact hg) trivial eg (w0:=w) hit (λh k q=>k (h q))
  (λW l o o' hl ho hc _ q=>hKq W _ (some l) q (grownBy_putObj' W l o') (λr A0=>by cases A0;exact⟨hl,o,ho,hc⟩)) (Below.refl _ _) (λx=>by simpa using hps x.1)
  (λpre W=>k4 (pre.map (·.1)) W) (λc pre W=>Ix c (pre.map (·.1)) W) (λpre W W' row h=>hI (pre.map (·.1)) W W' row h) (λc pre W W' row h=>hIx c (pre.map (·.1)) W W' row h) h0
  (λx=>act N (kj (kj e ps (enc x.1)) qs (qv x.1)) []) (λl x W K hK=>?_) (λl pre x W hi O=>?_) (λD xs W hD hS hi hK=>?_) (λD c pre W hD A1 hi hK=>?_)
 · have h:=hassign l x.1 W K hK
   have h2:({tmps:=(ps.toArray.zip (enc x.1).toArray).foldl (λt (p,v)=>t.setIfInBounds p v) (act N e ds).tmps,defers:=[]}:Act)=act N (kj e ps (enc x.1)) []:=by
    have h3:=oZ N ps (enc x.1) e
    have:(act N (kj e ps (enc x.1)) [])=⟨(act N (kj e ps (enc x.1)) []).tmps,[]⟩:=rfl
    rw[this,<-h3]
    simp only[List.zip_toArray,List.foldl_toArray]
    rfl
   rw[h2]
   exact h
 · refine wpIn_mono (hbody l (pre.map (·.1)) x.1 W hi (H pre) x.2 (by simpa using O)) ?_
   rintro ex a W3 E
   have G:(pre++[x]).map (·.1)=pre.map (·.1)++[x.1]:=by simp
   cases ex with
   |normal=>exact⟨E.1,E.2.1,by simp only[];rw[G];exact E.2.2⟩
   |ret=>exact⟨E.1,by simp only[];rw[G];exact E.2⟩
   |exit id=>exact⟨E.1,by simp only[];rw[G];exact E.2⟩
   |goto t=>exact E.elim
   |panic c=>exact E.elim
   |outgrown=>exact E.elim
 · exact hdone D W hD (by have h:xs.map (·.1)=order:=hS;rw[<-h];exact hi) hK
 · exact hstop D c _ W hD A1 hi hK
variable {c:Code}{R:Value->World->Prop}
def jy (args:List Value)(fn:Func):({tmps:=args.toArray++Array.replicate (fn.ntmps-args.toArray.size) undef,defers:=[]}:Act)=act (args.length+(fn.ntmps-args.length)) (H5 args) []:=by
 simp only[act,Act.mk.injEq,and_true]
 apply Array.ext
 · simp
 · intro i _ _
   simp only[Array.getElem_ofFn,H5]
   by_cases hi:i<args.length
   · simp[hi]
   · have h3:args.toArray.size<=i:=by simpa using hi
     rw[Array.getElem_append_right h3]
     simp[List.getElem?_eq_none (Nat.le_of_not_lt hi)]
def rx (hf:P.funcs[f]?=some fn)(hb:fn.body=some c)(h:c.wpIn (Fw none) 9 P (bodyPostM Fence.wide 9 P fn (aI w R)) (act (args.length+(fn.ntmps-args.length)) (H5 args) []) w):Calls P f args.toArray w (aI w R):=by
 refine oL (n:=9) (callsIn_of_wp_marks hf hb trivial ?_)
 rw[jy]
 exact h
def dG (w:World):ez w (w.putObj D (.deferred none)) D:=
 ⟨rfl,rfl,rfl,by simp,λk hk=>World.putObj_heap_other hk⟩
def jG (hK:lj w' D)(hr:(results fn (act N e [⟨.collected D,#[]⟩]).tmps).run P (w'.putObj D (.deferred none))=.ok v (w'.putObj D (.deferred none)))(hx:aP w (w'.putObj D (.deferred none)))(hR:R v (w'.putObj D (.deferred none))):bodyPostM Fence.wide 9 P fn (aI w R) .ret (act N e [⟨.collected D,#[]⟩]) w':=
 ⟨by simp,.inl ⟨D,_,rfl,run_takeDeferred hK,v,hr,hx,hR⟩⟩
def Np {t:Nat}(hK:lj w' D)(hres:fn.results=#[.tmp t])(hx:aP w w')(hD:w.heap.size<=D)(hR:R v (w'.putObj D (.deferred none)))(hv:ev N e (.tmp t)=v):bodyPostM Fence.wide 9 P fn (aI w R) .ret (act N e [⟨.collected D,#[]⟩]) w':=
 jG hK (bY hres (aM hv _)) ((dG w').low hx hD) hR
def xD (hr:(results fn (act N e []).tmps).run P w'=.ok v w')(hx:aP w w')(hR:R v w'):bodyPostM Fence.wide 9 P fn (aI w R) .ret (act N e []) w':=
 ⟨v,hr,hx,hR⟩
def ao.dfr {cs:Array Value}(hK:lj w D)(h:ao w b t cs):ao (w.putObj D (.deferred none)) b t cs:=(dG w).blk (λe=>hK.ne h e.symm) h
def Rw.dfr {A:Option Addr}(hK:lj w D)(h:Rw w lo A cs):Rw (w.putObj D (.deferred none)) lo A cs:=by
 refine⟨λj u hu=>?_,h.lo,λH e=>by rw[(dG w).size];exact h.hi H e⟩
 obtain⟨b,o,e,hc⟩:=h.cells j u hu
 refine⟨b,o,e,?_⟩
 rw[<-hc]
 refine(dG w).cell ?_
 intro hb
 simp only at hb
 subst hb
 obtain⟨_,E,G⟩:=cells_of_cell hc
 rw[show w.heap[b]?=some (.deferred (some []))from hK]at E
 cases E;cases G
def xE {Q:Exit->Act->World->Prop}{l d ty:Nat}{pos:String}{af:Array Edge}{x:Operand}{R:Ending->World->Prop}(hx:ev N e x=.func (.yield l) #[] #[])(hv:xs.toList.map (ev N e)=vs)(hy:YieldAt Fence.wide 7 P l vs.toArray w R)(hk:∀c w',R c w'->match c with| .returned v=>K (act N (upd e d v) ds) w'|_=>False):Oper.wpIn (Fw none) 8 P ⟨some d,.call {callee:=.value x,args:=xs,argTypes:=ats},ty,pos,af,none⟩ (act N e ds) w K Q:=by
 subst hv
 obtain⟨fn,tmps,assign,body,hr,hR⟩:=hy
 have E:(xs.toList.map (ev N e)).toArray=xs.map (ev N e):=by rw[<-Array.toList_map,Array.toArray_toList]
 rw[E]at hr
 refine⟨λf _=>ky none f,?_⟩
 rw[iT Z,cR]
 have:(execOp (ev N e) ⟨some d,.call {callee:=.value x,args:=xs,argTypes:=ats},ty,pos,af,none⟩).run P w=.ok (.round l fn tmps assign body) w:=by
  simp[execOp,resolve,Deferred.ofValue,hx,invoke,hr]
 rw[this]
 refine⟨(λh=>by rw[l9]at h;cases h),hR.mono ?_⟩
 intro c w' h
 have:=hk c w' h
 cases c with
 |returned v=>simp only at this ⊢;rw[ax];exact this
 |panicked c=>exact this.elim
 |outgrown=>exact this.elim
def qE {F:Fence}{g:Nat}{R:Ending->World->Prop}{a:Value}(h:CallsIn F n P g (a::lb).toArray W R):CallsIn F n P g (#[a]++lb.toArray) W R:=by
 have:(#[a]++lb.toArray)=(a::lb).toArray:=by simp
 rw[this];exact h
def Ec {R:Ending->World->Prop}(hf:P.funcs[f]?=some fn)(hb:fn.body=some c)(h:c.wpIn (Fw none) 8 P (bodyPost P fn R) (act (args.length+(fn.ntmps-args.length)) (H5 args) []) w):CallsIn Fence.wide 8 P f args.toArray w R:=by
 refine callsIn_of_wp hf hb trivial ?_
 rw[jy]
 exact h
def Nq {R:Ending->World->Prop}(hres:fn.results=#[])(hR:∀v,R (.returned v) w'):bodyPost P fn R .ret (act N e []) w':=
 ⟨rfl,_,mg hres,hR _⟩
def sG {R:Ending->World->Prop}(hres:fn.results=#[])(hR:∀v,R (.returned v) w'):bodyPost P fn R .normal (act N e []) w':=
 ⟨rfl,_,mg hres,hR _⟩
def ry {k6 J' Kp:Prop}{c:Ending}(h:(c=.returned (.bool true)/\k6/\Kp)\/(c=.returned (.bool false)/\J')):∃q,c=.returned (.bool q)/\(q=true->k6/\Kp)/\(q=false->J'):=by
 rcases h with⟨h1,h2,h3⟩|⟨h1,h2⟩
 · exact⟨true,h1,λ_=>⟨h2,h3⟩,λh=>by cases h⟩
 · exact⟨false,h1,λh=>by(cases h),λ_=>h2⟩
end range
section
variable {P:Program}{r:Option Nat}{Q:Exit->Act->World->Prop}
variable {d ty:Nat}{pos:String}{af:Array Edge}{g:Option (Nat×Bool)}{x y:Operand}{t':TypeId}
def fU {k k':IntKind}{D:TypeDesc}(hs:P.underlying src=some D)(hd:P.underlying dst=some (.int k'))(hx:ev N e x=.int k a)(hc:k'.wrap a=c)(hk:K (act N (upd e d (.int k' c)) ds) w):
 Oper.wpIn (Fw r) n P ⟨some d,.convert src dst x,ty,pos,af,g⟩ (act N e ds) w K Q:=by
 refine cJ (v:=.int k' c) (w':=w) Z ?_ KK
 subst hc
 simp[execOp,hx,convert,run_underlying hs,run_underlying hd,Conv.intToInt]
def Wm {k k':IntKind}{b:Int}(hx:ev N e x=.int k a)(hy:ev N e y=.int k' b)(hb:0<=b/\b<=8)(hc:a/2^b.toNat=c)(hk:K (act N (upd e d (.int k c)) ds) w):
 Oper.wpIn (Fw r) n P ⟨some d,.binOp .shr t x y t',ty,pos,af,g⟩ (act N e ds) w K Q:=by
 refine dI hx hy (b6 ..) ?_ hk
 have h1:¬b<0:=J
 have h2:min b.toNat k.bits=b.toNat:=by
  have:8<=k.bits:=by cases k <;>decide
  omega
 subst hc
 simp only[binOp,Op.shift,h1,if_false,h2]
 simp[Int.fdiv_eq_ediv_of_nonneg _ (show(0:Int)<=2^b.toNat from Int.le_of_lt (Int.pow_pos J))]
def Ed {R:Value->World->Prop}(hf:Enters P f)(hx:ev N e x=.func (.func f) la.toArray #[])(hv:xs.toList.map (ev N e)=vs)(hc:Calls P f (la++vs).toArray w (aI w R))(hk:∀v w',aP w w'->R v w'->K (act N (upd e d v) ds) w'):Oper.wpIn (Fw r) n P ⟨some d,.call {callee:=.value x,args:=xs,argTypes:=ats},ty,pos,af,g⟩ (act N e ds) w K Q:=by
 subst hv
 have h2:la.toArray++xs.map (ev N e)=(la++xs.toList.map (ev N e)).toArray:=by simp
 refine sD (f:=f) (args:=la.toArray++xs.map (ev N e)) (R:=R) Z ?_ (by rw[h2];exact hc) (λv w' h1 h2=>by rw[ax];exact hk v w' h1 h2)
 simp[execOp,resolve,Deferred.ofValue,hx,invoke,hf _ _]
def Ee {m:Nat}{xs:List Value}(h:w.ownsRow base el sz (.slice (some ⟨b,0,none⟩) m m) m xs):ao w b el xs.toArray:=by
 obtain⟨hl,⟨hv,_⟩|⟨g,cap,H,hv,G,E,hc,hm,hs,ht⟩⟩:=h
 · cases hv
 · simp only[Value.slice.injEq]at hv
   obtain⟨hv,-,rfl⟩:=hv
   cases hv
   rw[List.take_of_length_le (by simp[hs])]at ht
   subst ht
   simpa[ao]using E
def Rw.of_blk {xs:List Value}(h:ao w b el xs.toArray)(hb:lo<=b):Rw w lo (some ⟨b,0,none⟩) xs:=by
 refine⟨λj u hu=>⟨b,0,rfl,?_⟩,λE e=>by cases e;exact hb,λE e=>by cases e;exact h.lt⟩
 rw[Nat.zero_add]
 exact h.cell (by simpa using hu)
def ae1:=@Rw.of_blk
def S3 (p:Nat->Prop):List Nat->Prop
 |[]=>True
 |i::is=>p i/\S3 p is
def zr {p:Nat->Prop}:∀{l:List Nat},S3 p l->∀i∈l,p i
 | _::_,h,i,hi=>by
   rcases List.mem_cons.1 hi with rfl|hi
   · exact h.1
   · exact zr h.2 i hi
def Nr {id:Nat}(hm:P.follows .mixedOrders=true)(h:wpAnyIn (Fw r) n P .any l.toArray Q l.length (Array.replicate l.length false) (act N e ds) w.drew):(Code.region id l.toArray true).wpIn (Fw r) n P Q (act N e ds) w:=
 wpIn_region_any hm h
def gX {listed:Array Bool}{is:List Nat}{a:Act}(hr:Region.ready .any l.toArray listed=i::is)(h:S3 (λi=>wpOpIn (Fw r) n P l.toArray Q i (wpAnyIn (Fw r) n P .any l.toArray Q fuel (listed.setIfInBounds i true)) a w) (i::is)):wpAnyIn (Fw r) n P .any l.toArray Q (fuel+1) listed a w:=
 ⟨λG=>(by rw[hr]at G;cases G),λj E=>zr h j (by rw[hr]at E;exact E)⟩
def mu {a:Act}{dst:Option Nat}{op:Op}(ho:l[i]?=some ⟨dst,op,ty,pos,af,none⟩)(h:Oper.wpIn (Fw r) n P ⟨dst,op,ty,pos,af,none⟩ a w K Q):wpOpIn (Fw r) n P l.toArray Q i K a w:=by
 unfold wpOpIn
 rw[List.getElem?_toArray,ho]
 simp only[Region.wanted,if_true]
 exact h
def Ef {listed:Array Bool}{a:Act}(hr:Region.ready .any l.toArray listed=[])(h:Q .normal a w):wpAnyIn (Fw r) n P .any l.toArray Q 0 listed a w:=⟨hr,h⟩
def wrap_i64 (h:-9223372036854775808<=a/\a<=9223372036854775807):IntKind.i64.wrap a=a:=k5 h
def wrap_u64 (h:0<=a/\a<=18446744073709551615):IntKind.u64.wrap a=a:=by
 have h1:a%18446744073709551616=a:=Int.emod_eq_of_lt h.1 J
 simp[IntKind.wrap,IntKind.bits,IntKind.signed,h1]
def Cf.ext {a:Addr}(k:aP w w')(h:w.cell? a=some v):w'.cell? a=some v:=k.cell h
def IR {k:IntKind}{b:Int}(hx:ev N e x=.int k a)(hy:ev N e y=.int k b)(hc:k.wrap (a-b)=c)(hk:K (act N (upd e d (.int k c)) ds) w):
 Oper.wpIn (Fw r) n P ⟨some d,.binOp .sub t x y t',ty,pos,af,g⟩ (act N e ds) w K Q:=
 dI hx hy (b6 ..) (by subst hc;simp[binOp,Op.intArith]) hk
def wrap_u8 (h:0<=a/\a<=255):IntKind.u8.wrap a=a:=by
 have h1:a%256=a:=Int.emod_eq_of_lt h.1 J
 simp[IntKind.wrap,IntKind.bits,IntKind.signed,h1]
def Wn {op:Op}{q:Bool}(hj:cZ l j=some s)(hv:ev N e (.tmp s)=undef)(hs:Nat.blt s N=true)(h:wpListIn (Fw r) n P l.toArray Q rest (act N (upd e dd undef) ds) w):wpListIn (Fw r) n P l.toArray Q (⟨some dd,op,ty,pos,af,some (j,q)⟩::rest) (act N e ds) w:=by
 have hj':(l.toArray[j]?).bind (·.dst)=some s:=by rw[List.getElem?_toArray];exact hj
 have hy:yielded l.toArray (act N e ds).tmps j=none:=by
  have h2:(act N e ds).eval (.tmp s)=undef:=by rw[cR];exact hv
  simp only[Act.eval]at h2
  have hs':s<(act N e ds).tmps.size:=by rw[Nat.blt_eq]at hs;simpa[act]using hs
  simp only[Array.getD,hs',dif_pos]at h2
  have h3:(act N e ds).tmps[s]?=some undef:=by rw[Array.getElem?_eq_getElem hs'];exact qb2 some h2
  unfold yielded;rw[hj',Option.bind_some,h3];rfl
 unfold wpListIn
 rw[if_neg (by simp[Region.wanted,hy])]
 exact⟨λf _=>ky r f,by rw[ax];exact h⟩
def dr {l:List UInt8}(h:i<l.length):l[i]?=some (l.getD i 0):=by rw[List.getElem?_eq_getElem h];simp[List.getD,h]
def tE (hx:ev N e x=.pointer (some ⟨b,o,none⟩))(hk:K (act N (upd e d (.pointer (some ⟨b,o,none⟩))) ds) w):
 Oper.wpIn (Fw r) n P ⟨some d,.nilCheck x,ty,pos,af,g⟩ (act N e ds) w K Q:=by
 refine cJ (v:=.pointer (some ⟨b,o,none⟩)) (w':=w) Z ?_ KK
 simp[execOp,hx]
def j3 {l:List UInt8}{m:Nat}(hu:P.underlying t=some .string)(hx:ev N e x=S l)(hm:l.length=m)(hk:K (act N (upd e d (.int .i64 ((m:Nat):Int))) ds) w):
 Oper.wpIn (Fw r) n P ⟨some d,.call {callee:=.builtin .len,args:=#[x],argTypes:=#[t]},ty,pos,af,g⟩ (act N e ds) w K Q:=
 du (l:=l) hu hx (by rw[hm];exact hk)
def bM :W.ownsRow base et sz (.slice none 0 0) 0 []:=⟨by simp,.inl ⟨rfl,rfl⟩⟩
def bg (h:W.ownsRow base et sz v k cs):v.ownBlock≠some W.heap.size:=by
 obtain⟨hl,⟨rfl,_⟩|⟨g,cap,H,rfl,G,E,_⟩⟩:=h
 · simp[Value.ownBlock]
 · have:g<W.heap.size:=(Array.getElem?_eq_some_iff.1 E).1
   simp[Value.ownBlock];omega
def aU (ha:v'.ownBlock=v.ownBlock\/v'.ownBlock=some W.heap.size)(hn:v.ownBlock≠some b)(hb:b<W.heap.size):v'.ownBlock≠some b:=by
 rcases ha with h|h
 · rw[h];exact hn
 · rw[h];simp;omega
def aA (v u:Value):Prop:=∀g,v.ownBlock=some g->u.ownBlock≠some g
def aA.symm (h:aA v u):aA u v:=λg E e=>h g e E
def aa4:=@aA.symm
def aA.nil {c:Nat}:aA (.slice none n c) u:=λg E=>by simp[Value.ownBlock]at E
def ac6:=@aA.nil
def aA.app (ha:v'.ownBlock=v.ownBlock\/v'.ownBlock=some W.heap.size)(hn:aA v u)(hu:W.ownsRow base et sz u k cs):aA v' u:=by
 intro g E
 rcases ha with h|h
 · exact hn g (by rw[<-h];exact E)
 · rw[h]at E;cases E;exact bg hu
def aa8:=@aA.app
def aA.gr (hn:aA v u)(hg:W.grownBy W' v.ownBlock)(h:W.ownsRow base et sz u k cs):W'.ownsRow base et sz u k cs:=
 nK hg (λg h1 h2=>hn g h2.symm h1) h
def ab4:=@aA.gr
def aV (h:W.ownsRow base et sz v k cs):∀g,v.ownBlock=some g->base<=g:=by
 obtain⟨hl,⟨rfl,_⟩|⟨g,cap,H,rfl,G,E,_⟩⟩:=h
 · simp[Value.ownBlock]
 · intro _ e;simp[Value.ownBlock]at e;omega
def bo {B:Nat}(h:W.ownsRow base et sz v k cs)(hB:B<=base)(hBw:B<=W.heap.size)(hE:Below B W0 W)(hg:W.grownBy W' v.ownBlock):Below B W0 W':=
 cO hE hg hBw (λg e=>qa8 hB (aV h g e))
def aQ (h:W.ownsRow base et sz v k cs)(hk:k=k')(hc:cs=cs'):W.ownsRow base et sz v k' cs':=by subst hk hc;exact h
def bS (h:W.ownsRow base et sz v k cs):v.oneCell'=true:=by
 obtain⟨hl,⟨rfl,_⟩|⟨g,cap,E,rfl,_⟩⟩:=h <;>rfl
def kn (R:Value->World->Prop):Ending->World->Prop
 | .returned v,w'=>R v w'
 |_,_=>False
def bK {R:Value->World->Prop}(hf:Enters P f)(hv:xs.toList.map (ev N e)=vs)(hc:Calls P f vs.toArray w (kn R))(hk:∀v w',R v w'->K (act N (upd e d v) ds) w'):Oper.wpIn (Fw r) n P ⟨some d,.call {callee:=.value (.func f),args:=xs,argTypes:=ats},ty,pos,af,g⟩ (act N e ds) w K Q:=by
 subst hv
 refine⟨λf _=>ky r f,?_⟩
 have hs:(execOp (ev N e) ⟨some d,.call {callee:=.value (.func f),args:=xs,argTypes:=ats},ty,pos,af,g⟩).run P w=.ok (.enter f (xs.map (ev N e))) w:=by
  simp[execOp,resolve,Deferred.ofValue,ev,invoke,hf _ _]
 rw[iT Z,cR,hs]
 refine⟨(λh=>by rw[l9]at h;cases h),oK ((show Calls P f (xs.map (ev N e)) w (kn R)from by have h:=hc;rwa [show(xs.toList.map (ev N e)).toArray=xs.map (ev N e)by rw[<-Array.toList_map,Array.toArray_toList]]at h).mono ?_)⟩
 intro e' w' h
 cases e' with
 | returned v=>
   show K ((act N e ds).put (some d) v) w'
   rw[ax];exact hk v w' h
 |panicked c=>exact h.elim
 |outgrown=>exact h.elim
def Eg {args:Array Value}{R:Ending->World->Prop}{Q:Value->World->Prop}(h:Calls P f args w R)(hq:∀e w',R e w'->∃v,e=.returned v/\Q v w'):Calls P f args w (kn Q):=
 h.mono (by
  intro e w' hR
  obtain⟨v,rfl,h2⟩:=hq e w' hR
  exact h2)
def lk {C:World}{row:Option Nat}(h:A.grownBy B row)(k:aP B C):A.grownBy C row:=
 ⟨k.os.trans h.os,k.tape.trans h.tape,k.output.trans h.output,qa8 h.size k.size,λi hi hr=>(k.block i (qb1 hi h.size)).trans (h.block i hi hr)⟩
def Ce {C:World}(h:A.grownBy B (some b))(k:ez B C b):A.grownBy C (some b):=
 ⟨k.os.trans h.os,k.tape.trans h.tape,k.output.trans h.output,by rw[k.size];exact h.size,λi hi hr=>(k.block i (λe=>hr (by rw[e]))).trans (h.block i hi hr)⟩
def jp {C:World}{row:Option Nat}(h:A.grownBy B row)(k:ez B C b)(hb:A.heap.size<=b):A.grownBy C row:=
 ⟨k.os.trans h.os,k.tape.trans h.tape,k.output.trans h.output,by rw[k.size];exact h.size,λi hi hr=>(k.block i J).trans (h.block i hi hr)⟩
def gq {C:World}{row:Option Nat}(h:A.grownBy B row)(k:B.grownBy C row):A.grownBy C row:=
 ⟨k.os.trans h.os,k.tape.trans h.tape,k.output.trans h.output,qa8 h.size k.size,λi hi hr=>(k.block i (qb1 hi h.size) hr).trans (h.block i hi hr)⟩
def zt {c:Code}{R:Value->World->Prop}(hf:P.funcs[f]?=some fn)(hb:fn.body=some c)(h:c.wpIn (Fw none) 0 P (bodyPost P fn (kn R)) (act (args.length+(fn.ntmps-args.length)) (H5 args) []) w):Calls P f args.toArray w (kn R):=by
 refine oL (n:=0) (callsIn_of_wp hf hb trivial ?_)
 rw[jy]
 exact h
def gY {R:Value->World->Prop}(hr:(results fn (act N e []).tmps).run P w'=.ok v w')(hR:R v w'):bodyPost P fn (kn R) .ret (act N e []) w':=
 ⟨rfl,v,hr,hR⟩
def S4 {R:Value->World->Prop}(hr:(results fn (act N e []).tmps).run P w'=.ok v w')(hR:R v w'):bodyPost P fn (kn R) .normal (act N e []) w':=
 ⟨rfl,v,hr,hR⟩
end
section draws
variable {P:Program}{r:Option Nat}{e0:Nat->Value}{Q:Exit->Act->World->Prop}{ops:Array Oper}{M:Nat}
def Ns {id:Nat}(hm:P.follows .mixedOrders=true)(M:Nat)(R:World->World->Prop)(hR0:∀w,R w w.drew)(hRt:∀a b c,R a b->R b c->R a c)(Φ:Nat->Value->World->Prop)(hΦ:∀i v w w',R w w'->Φ i v w->Φ i v w')(k6:(Nat->Bool)->World->Prop)(hJ0:k6 (λ_=>false) w0.drew)(hwf:∀(i:Nat) (o:Oper),l.toArray[i]?=some o->∀e∈o.after,Region.binds .any e=true->e.on<i)(hshape:Region.sinkB .any l.toArray M=true/\Region.chainB .any l.toArray M=true/\M<l.toArray.size\/M=l.toArray.size)(hdst:∀i j d,i<M->j<M->(l.toArray[i]?).bind (·.dst)=some d->(l.toArray[j]?).bind (·.dst)=some d->i=j)(hstep:∀(i:Nat) (o:Oper),i<M->l.toArray[i]? =some o->∀(e:Nat->Value) (w:World) (ls:Nat->Bool),k6 ls w->(∀j oj,l.toArray[j]? =some oj->ls j=true->∀ed∈oj.after,Region.binds .any ed=true->ls ed.on=true)->ls i=false->(∀ed∈o.after,Region.binds .any ed=true->ls ed.on=true)->R w0 w->(∀t,(∀j,j<M->(l.toArray[j]?).bind (·.dst)≠some t)->e t=e0 t)->
 (∀j,(∃ed∈o.after,Region.binds .any ed=true/\ed.on=j)->∀d,(l.toArray[j]?).bind (·.dst)=some d->Φ j (e d) w)->
 wpListIn (Fw r) n P l.toArray (λx a' w'=>x=.normal/\∃v,a'=(act N e ds).put o.dst v/\R w w'/\Φ i v w'/\k6 (λj=>if j=i then true else ls j) w') [o] (act N e ds) w)(hfin:∀(e:Nat->Value) (w:World),(∃ls:Nat->Bool,(∀j,j<M->ls j=true)/\k6 ls w)->R w0 w->(∀t,(∀j,j<M->(l.toArray[j]?).bind (·.dst)≠some t)->e t=e0 t)->
 (∀j d,j<M->(l.toArray[j]?).bind (·.dst)=some d->Φ j (e d) w)->wpListIn (Fw r) n P l.toArray Q (l.drop M) (act N e ds) w):
 (Code.region id l.toArray true).wpIn (Fw r) n P Q (act N e0 ds) w0:=by
 have hMle:M<=l.toArray.size:=by rcases hshape with⟨_,_,h⟩|h <;>omega
 have hchain:Region.chainB .any l.toArray M=true:=by
  rcases hshape with⟨_,h,_⟩|h
  · exact h
  · refine List.all_eq_true.2 λt ht=>?_
    have:=List.mem_range.1 ht
    simp only[Bool.or_eq_true,decide_eq_true_eq]
    left;omega
 refine wpIn_region_any hm ?_
 have main : ∀ (fuel:Nat) (listed:Array Bool) (e:Nat->Value) (w:World),left l.toArray listed<=fuel->HeadInv .any l.toArray M listed->k6 (λj=>listed.getD j false) w->R w0 w->
  (∀t,(∀j,j<M->(l.toArray[j]?).bind (·.dst)≠some t)->e t=e0 t)->
  (∀j d,j<M->listed.getD j false=true->(l.toArray[j]?).bind (·.dst)=some d->Φ j (e d) w)->
  wpAnyIn (Fw r) n P .any l.toArray Q fuel listed (act N e ds) w:=by
  intro fuel
  induction fuel with
  | zero=>
    intro listed e w hf inv hJ hR hs hφ
    have A1:∀i,i<l.toArray.size->listed.getD i false=true:=by
     intro i hi
     cases hb:listed.getD i false with
     |true=>rfl
     | false=>
       have:=kA hi inv.size hb
       omega
    refine kz hchain hwf 0 l.toArray.size listed _ w 0 Z hMle inv.size A1 (λi h1 h2=>by omega) (qa0 _) ?_
    by_cases hM:M=l.toArray.size
    · have h:=hfin e w ⟨_,λj E=>A1 j J,hJ⟩ hR hs (λj d E hd=>hφ j d E (A1 j J) hd)
      rw[hM]at h
      simpa using h
    · have h1:=inv.tail M (qa0 _) J
      have h2:=A1 M J
      rw[getD_both h1]at h2
      cases h2
  | succ fuel ih=>
    intro listed e w hf inv hJ hR hs hφ
    by_cases hdone:∀i,i<M->listed.getD i false=true
    · refine kz hchain hwf (l.toArray.size-M) M listed _ w (fuel+1) J (qa0 _) inv.size hdone (λi h1 h2=>inv.tail i h1 h2) ?_ ?_
      · have h1:l.toArray.size-M<=left l.toArray listed:=qx hMle (λi h1 h2=>getD_both (inv.tail i h1 h2))
        omega
      · simpa using hfin e w ⟨_,λj E=>hdone j E,hJ⟩ hR hs (λj d E hd=>hφ j d E (hdone j E) hd)
    · have hex:∃i,i<M/\listed.getD i false=false:=by
       refine qb6 λAf=>hdone λi hi=>?_
       cases hb:listed.getD i false with
       |true=>rfl
       |false=>exact absurd ⟨i,hi,hb⟩ Af
      obtain⟨Ab,Av,Am⟩:=hex
      have As:∀i∈Region.ready .any l.toArray listed,i<M:=by
       intro i hi
       rcases Nat.lt_or_ge i M with h|h
       · exact h
       · rcases hshape with⟨h1,h2,h3⟩|h3
         · exact absurd hi (tail_waits h1 h2 h3 inv _ Ab Z Av (getD_in (by rw[inv.size];omega) Am) i h)
         · obtain⟨_,o,ho,_⟩:=mem_ready.1 hi
           have:=(Array.getElem?_eq_some_iff.1 ho).1
           omega
      refine⟨λAq=>?_,λi hi=>?_⟩
      ·
       exfalso
       have least:∀k i,i<=k->i<l.toArray.size->listed.getD i false=false->∃j,j∈Region.ready .any l.toArray listed:=by
        intro k
        induction k with
        | zero=>
          intro i hi hl hb
          obtain rfl:i=0:=J
          refine⟨0,mem_ready.2 ⟨getD_in ka0 hb,l.toArray[0],Array.getElem?_eq_getElem hl,λed H A0=>?_⟩⟩
          have:=hwf 0 _ (Array.getElem?_eq_getElem hl) ed H A0
          omega
        | succ k ihk=>
          intro i hi hl hb
          by_cases hp:∀ed∈(l.toArray[i]).after,Region.binds .any ed=true->listed.getD ed.on false=true
          · exact⟨i,mem_ready.2 ⟨getD_in ka0 hb,l.toArray[i],Array.getElem?_eq_getElem hl,hp⟩⟩
          · have:∃ed∈(l.toArray[i]).after,Region.binds .any ed=true/\listed.getD ed.on false=false:=by
             refine qb6 λAf=>hp λed H A0=>?_
             cases hb:listed.getD ed.on false with
             |true=>rfl
             |false=>exact absurd ⟨ed,H,A0,hb⟩ Af
            obtain⟨ed,H,A0,A2⟩:=this
            have hlt:=hwf i _ (Array.getElem?_eq_getElem hl) ed H A0
            exact ihk ed.on J J A2
       obtain⟨j,E⟩:=least Ab Ab (qa0 _) J Am
       rw[Aq]at E
       cases E
      · have hiM:=As i hi
        obtain⟨A2,o,ho,hpred⟩:=mem_ready.1 hi
        have O:=hstep i o hiM ho e w (λj=>listed.getD j false) hJ (λj oj E hl=>inv.closed j oj E hl) (getD_both A2) hpred hR hs (λj ⟨ed,H,hb,Ar⟩ d hd=>hφ j d (by have:=hwf i o ho ed H hb;omega) (by rw[<-Ar];exact hpred ed H hb) hd)
        have hnext:∀a' w',(∃v,a'=(act N e ds).put o.dst v/\R w w'/\Φ i v w'/\k6 (λj=>if j=i then true else listed.getD j false) w')->wpAnyIn (Fw r) n P .any l.toArray Q fuel (listed.setIfInBounds i true) a' w':=by
         rintro a' w' ⟨v,rfl,hR',hv,hJ'⟩
         have Ap:i<l.toArray.size:=J
         have hJ2:k6 (λj=>(listed.setIfInBounds i true).getD j false) w':=by
          have e:(λj=>(listed.setIfInBounds i true).getD j false)=(λj=>if j=i then true else listed.getD j false):=by
           funext j
           by_cases E:j=i
           · subst E;rw[if_pos Z];have:=inv.size;simp[Array.getD,this];omega
           · rw[if_neg E,getD_set_ne false (λh=>E h.symm)]
          rw[e];exact hJ'
         have Ao:left l.toArray (listed.setIfInBounds i true)<=fuel:=by
          have:=kA Ap inv.size (getD_both A2)
          omega
         cases hd:o.dst with
         | none=>
           refine ih _ e w' Ao (inv.set hi hiM) hJ2 (hRt _ _ _ hR hR') hs (λj d E hl G=>?_)
           by_cases hij:i=j
           · subst hij;rw[ho]at G;simp[hd]at G
           · rw[getD_set_ne false hij]at hl;exact hΦ _ _ _ _ hR' (hφ j d E hl G)
         | some d0=>
           rw[ax]
           refine ih _ _ w' Ao (inv.set hi hiM) hJ2 (hRt _ _ _ hR hR') (λt ht=>?_) (λj d E hl G=>?_)
           · have:t≠d0:=λh=>ht i hiM (by rw[ho];simp[hd,h])
             rw[upd_ne _ _ this];exact hs t ht
           · by_cases hij:i=j
             · subst hij
               rw[ho]at G
               simp only[Option.bind_some,hd,Option.some.injEq]at G
               subst G
               rw[ki];exact hv
             · rw[getD_set_ne false hij]at hl
               have Aw:d≠d0:=λh=>hij (hdst i j d hiM E (by rw[ho];simp[hd,h]) G)
               rw[upd_ne _ _ Aw]
               exact hΦ _ _ _ _ hR' (hφ j d E hl G)
        unfold wpOpIn
        rw[ho]
        dsimp only
        unfold wpListIn at O
        split
        · rename_i hw
          rw[if_pos hw]at O
          exact iq (λa' w' Ax=>hnext a' w' Ax.2) (λc a w h=>by cases h.1) (λa w h=>by cases h.1) O
        · rename_i hw
          rw[if_neg hw]at O
          exact⟨O.1,hnext _ _ O.2.2⟩
 refine main _ _ e0 w0.drew ?_ ⟨by simp,λj oj E hl=>?_,λt h1 h2=>?_⟩ ((congrArg (λf=>k6 f w0.drew) (funext λj=>getD_replicate_false _ j)).mpr hJ0) (hR0 w0) (λ_ _=>rfl) (λj d E hl=>?_)
 · unfold left
   exact qa8 (List.length_filter_le _ _) JT
 · rw[getD_replicate_false]at hl;cases hl
 · have h3:t<l.length:=by simpa using h2
   simp[h3]
 · rw[getD_replicate_false]at hl;cases hl
def nz (C:List Nat)(i:Nat):Option Nat:=C.findIdx? (Nat.beq i)
def S5 (l:List Oper)(C:List Nat):Bool:=(List.range C.length).all λp=>match C[p]? with
 |none=>false
 |some c=>Nat.beq p 0||(match C[p-1]?,l[c]? with|some c',some o=>b8 o c'|_,_=>false)
def nodupB (C:List Nat):Bool:=(List.range C.length).all λp=>(List.range C.length).all λq=>Nat.beq p q||(match C[p]?,C[q]? with|some a,some b=>!Nat.beq a b|_,_=>true)
def cnt (C:List Nat)(ls:Nat->Bool):Nat:=(C.filter ls).length
def IS (r:Option Nat)(n:Nat)(P:Program)(N:Nat)(ds:List Deferred)(l:List Oper)(M:Nat)(R:World->World->Prop)(Φ:List (Value->World->Prop))(C:List Nat)(k4:Nat->World->Prop)(e0:Nat->Value)(w0:World):Nat->List Oper->List (Value->World->Prop)->Prop
 |_,[],_=>True
 |_,_::_,[]=>False
 |i,o::os,φ::φs=>(∀(e:Nat->Value) (w:World) (k:Nat),k4 k w->(∀p,nz C i=some p->k=p)->R w0 w->(∀t,jm l M t=false->e t=e0 t)->(∀j d,b8 o j=true->cZ l j=some d->phi Φ j (e d) w)->
  wpListIn (Fw r) n P l.toArray (λx a' w'=>x=.normal/\∃v,a'=(act N e ds).put o.dst v/\R w w'/\φ v w'/\k4 (match nz C i with|some p=>p+1|none=>k) w') [o] (act N e ds) w)/\IS r n P N ds l M R Φ C k4 e0 w0 (i+1) os φs
theorem wl {l:List Oper}{R:World->World->Prop}{Φ:List (Value->World->Prop)}{C:List Nat}{k4:Nat->World->Prop}:∀(os:List Oper) (φs:List (Value->World->Prop)) (i0:Nat),IS r n P N ds l M R Φ C k4 e0 w0 i0 os φs->∀i o,os[i]?=some o->
 (∀(e:Nat->Value) (w:World) (k:Nat),k4 k w->(∀p,nz C (i0+i)=some p->k=p)->R w0 w->(∀t,jm l M t=false->e t=e0 t)->(∀j d,b8 o j=true->cZ l j=some d->phi Φ j (e d) w)->
  wpListIn (Fw r) n P l.toArray (λx a' w'=>x=.normal/\∃v,a'=(act N e ds).put o.dst v/\R w w'/\phi φs i v w'/\k4 (match nz C (i0+i)with|some p=>p+1|none=>k) w') [o] (act N e ds) w)
 |[],_,_,_,i,o,h=>by simp at h
 |o'::os,[],_,h,i,o,ho=>h.elim
 |o'::os,φ::φs,i0,h,0,o,ho=>by simp at ho;subst ho;exact h.1
 | o'::os,φ::φs,i0,h,i+1,o,ho=>by
   have:=wl os φs (i0+1) h.2 i o (by simpa using ho)
   rw[show i0+1+i=i0+(i+1)by omega]at this
   simpa only[phi,List.getElem?_cons_succ]using this
def tF (h:nz C i=some p):C[p]?=some i:=by
 unfold nz at h
 obtain⟨h1,h2,_⟩:=List.findIdx?_eq_some_iff_getElem.1 h
 rw[List.getElem?_eq_getElem h1,Nat.eq_of_beq_eq_true h2]
def Cg (h:nz C i=none):i∉C:=by
 unfold nz at h
 rw[List.findIdx?_eq_none_iff]at h
 intro hm
 have:=h i hm
 simp at this
def Nt (h:i∉C):cnt C (λj=>if j=i then true else ls j)=cnt C ls:=by
 unfold cnt
 congr 1
 apply List.filter_congr
 intro x hx
 rw[if_neg (λe=>h (by rw[<-e];exact hx))]
def Nu (h:∀c∈C,ls c=true):cnt C ls=C.length:=by
 unfold cnt;rw[List.filter_eq_self.2 h]
def wm (hp:p<=C.length)(h1:∀q c,q<p->C[q]?=some c->ls c=true)(h2:∀q c,p<=q->C[q]?=some c->ls c=false):cnt C ls=p:=by
 have e:C.filter ls=(C.take p).filter ls++(C.drop p).filter ls:=by rw[<-List.filter_append,List.take_append_drop]
 unfold cnt
 rw[e,List.length_append]
 have E:(C.take p).filter ls=C.take p:=List.filter_eq_self.2 (λc hc=>by
  obtain⟨q,hq⟩:=List.mem_iff_getElem?.1 hc
  rw[List.getElem?_take]at hq
  split at hq
  · next hlt=>exact h1 q c hlt hq
  · cases hq)
 have e2:(C.drop p).filter ls=[]:=List.filter_eq_nil_iff.2 (λc hc=>by
  obtain⟨q,hq⟩:=List.mem_iff_getElem?.1 hc
  rw[List.getElem?_drop]at hq
  rw[h2 (p+q) c J hq];simp)
 rw[E,e2];simp;omega
def IT (hlink:∀p c c',C[p]?=some c'->C[p+1]?=some c->∃o,l[c]?=some o/\∃ed∈o.after,Region.binds .any ed=true/\ed.on=c')(hcl:∀j oj,l.toArray[j]?=some oj->ls j=true->∀ed∈oj.after,Region.binds .any ed=true->ls ed.on=true)(hget:∀j:Nat,l.toArray[j]?=l[j]?)(hni:ls i=false)(hpi:C[p]?=some i):∀q c,p<=q->C[q]?=some c->ls c=false:=by
 have A0:∀d q c,C[q]?=some c->p+d=q->ls c=false:=by
  intro d
  induction d with
  | zero=>
    intro q c hq O
    have:c=i:=by rw[show q=p by omega,hpi]at hq;exact(qb5 hq).symm
    rw[this];exact hni
  | succ d ih=>
    intro q c hq O
    have E:p+d<C.length:=by have:=(List.getElem?_eq_some_iff.1 hq).1;omega
    obtain⟨Ab,H,ed,A1,hb,G⟩:=hlink (p+d) c (C[p+d]) (qa5 E) (by rw[show p+d+1=q by omega];exact hq)
    have A2:=ih (p+d) _ (qa5 E) Z
    cases hc:ls c with
    |false=>rfl
    | true=>
      have:=hcl c Ab (by rw[hget];exact H) hc ed A1 hb
      rw[G,A2]at this
      cases this
 exact λq c hq hc=>A0 (q-p) q c hc J
def cnt_lt {o:Oper}(hlink:∀p c c',C[p]?=some c'->C[p+1]?=some c->∃o,l[c]?=some o/\∃ed∈o.after,Region.binds .any ed=true/\ed.on=c')(hcl:∀j oj,l.toArray[j]?=some oj->ls j=true->∀ed∈oj.after,Region.binds .any ed=true->ls ed.on=true)(hget:∀j:Nat,l.toArray[j]?=l[j]?)(hpi:C[p]?=some i)(ho:l[i]?=some o)(hpr:∀ed∈o.after,Region.binds .any ed=true->ls ed.on=true):∀q c,q<p->C[q]?=some c->ls c=true:=by
 have A1:∀d q c,C[q]?=some c->q+d=p->0<d->ls c=true:=by
  intro d
  induction d with
  |zero=>intro q c _ _ Am;omega
  | succ d ih=>
    intro q c hq Af _
    have G:q+1<C.length:=by have:=(List.getElem?_eq_some_iff.1 hpi).1;omega
    obtain⟨Ab,E,ed,A0,hb,H⟩:=hlink q (C[q+1]) c hq (qa5 G)
    by_cases hd:d=0
    · subst hd
      have:C[q+1]=i:=by
       have O:C[q+1]?=some i:=by rw[show q+1=p by omega];exact hpi
       rw[List.getElem?_eq_getElem G]at O
       exact qb5 O
      rw[this,ho]at E
      cases E
      have:=hpr ed A0 hb
      rwa [H]at this
    · have A2:=ih (q+1) (C[q+1]) (qa5 G) J J
      have:=hcl _ Ab (by rw[hget];exact E) A2 ed A0 hb
      rwa [H]at this
 exact λq c hq hc=>A1 (p-q) q c hc J J
def tG {o:Oper}{a:Act}(h:wpListIn (Fw r) n P l.toArray (λx a w=>x=.normal/\K1 a w) [o] a w)(hk:∀a w,K1 a w->K2 a w):wpListIn (Fw r) n P l.toArray (λx a w=>x=.normal/\K2 a w) [o] a w:=by
 unfold wpListIn at h ⊢
 split
 · rename_i hw
   rw[if_pos hw]at h
   exact iq (λa' w' E=>⟨E.1,hk _ _ E.2⟩) (λc a w h=>by cases h.1) (λa w h=>by cases h.1) h
 · rename_i hw
   rw[if_neg hw]at h
   exact⟨h.1,h.2.1,hk _ _ h.2.2⟩
def S6 {id:Nat}(hm:P.follows .mixedOrders=true)(M:Nat)(R:World->World->Prop)(hR0:∀w,R w w.drew)(hRt:∀a b c,R a b->R b c->R a c)(Φ:List (Value->World->Prop))(hΦ:xq R Φ)(hwf:M7 l=true)(hshape:ir l M=true)(hdst:H7 l M=true)(C:List Nat)(hC:S5 l C=true)(hN:nodupB C=true)(hCM:(C.all λc=>Nat.blt c M)=true)(k4:Nat->World->Prop)(hI0:k4 0 w0.drew)(hstep:IS r n P N ds l M R Φ C k4 e0 w0 0 (l.take M) Φ)(hfin:∀(e:Nat->Value) (w:World),k4 C.length w->R w0 w->(∀t,jm l M t=false->e t=e0 t)->(∀j d,Nat.blt j M=true->cZ l j=some d->phi Φ j (e d) w)->wpListIn (Fw r) n P l.toArray Q (l.drop M) (act N e ds) w):
 (Code.region id l.toArray true).wpIn (Fw r) n P Q (act N e0 ds) w0:=by
 have G:∀j:Nat,l.toArray[j]?=l[j]?:=λj=>by rw[List.getElem?_toArray]
 have Aq:∀t,jm l M t=false->∀j,j<M->(l.toArray[j]?).bind (·.dst)≠some t:=by
  intro t ht j A1 h
  rw[G]at h
  cases ho:l[j]? with
  |none=>rw[ho]at h;cases h
  | some o=>
    rw[ho]at h
    simp only[Option.bind_some]at h
    have h1:=List.any_eq_false.1 ht o (List.mem_iff_getElem?.2 ⟨j,by rw[List.getElem?_take,if_pos A1];exact ho⟩)
    rw[h]at h1
    simp at h1
 have hlink:∀p c Af,C[p]?=some Af->C[p+1]?=some c->∃o,l[c]?=some o/\∃O∈o.after,Region.binds .any O=true/\O.on=Af:=by
  intro p c Af h1 h2
  have h3:=List.all_eq_true.1 hC (p+1) (List.mem_range.2 (List.getElem?_eq_some_iff.1 h2).1)
  rw[h2]at h3
  simp only[Nat.add_sub_cancel,h1]at h3
  cases ho:l[c]? with
  |none=>rw[ho]at h3;simp at h3
  | some o=>
    rw[ho]at h3
    simp at h3
    obtain⟨O,A2,hb⟩:=List.any_eq_true.1 h3
    simp only[Bool.and_eq_true]at hb
    exact⟨o,rfl,O,by simpa using A2,hb.1,Nat.eq_of_beq_eq_true hb.2⟩
 have Aw:∀p q c:Nat,C[p]?=some c->C[q]?=some c->p=q:=by
  intro p q c h1 h2
  have h3:=List.all_eq_true.1 (List.all_eq_true.1 hN p (List.mem_range.2 (List.getElem?_eq_some_iff.1 h1).1)) q (List.mem_range.2 (List.getElem?_eq_some_iff.1 h2).1)
  rw[h1,h2]at h3
  simp at h3
  exact h3
 refine Ns hm M R hR0 hRt (phi Φ) (nM hΦ) (λls w=>k4 (cnt C ls) w) ?_ ?_ ?_ ?_ ?_ ?_
 · have:cnt C (λ_=>false)=0:=by unfold cnt;rw[List.filter_eq_nil_iff.2 JT];rfl
   rw[this];exact hI0
 · intro i o ho O A2 hb
   rw[G]at ho
   have h1:=List.all_eq_true.1 hwf i (List.mem_range.2 (List.getElem?_eq_some_iff.1 ho).1)
   rw[ho]at h1
   have h2:=List.all_eq_true.1 h1 O (by simpa using A2)
   simp only[hb,Bool.not_true,Bool.false_or]at h2
   rwa [Nat.blt_eq]at h2
 · simp only[ir,Bool.or_eq_true,Bool.and_eq_true]at hshape
   rcases hshape with⟨⟨h1,h2⟩,h3⟩|h
   · rw[Nat.blt_eq]at h3;exact .inl ⟨h1,h2,by simpa using h3⟩
   · exact .inr Fm
 · intro i j d hi A1 Am Ar
   have h1:=List.all_eq_true.1 (List.all_eq_true.1 hdst i (List.mem_range.2 hi)) j (List.mem_range.2 A1)
   rw[G]at Am Ar
   simp only[cZ,Am,Ar,Bool.or_eq_true]at h1
   rcases h1 with h1|h1
   · exact qb4 h1
   · simp at h1
 · intro i o hi ho e w ls hJ Ab Ao Ap hR hs hφ
   have ho':=ho
   rw[G]at ho
   have hk:∀p,nz C i=some p->cnt C ls=p:=by
    intro p E
    have H:=tF E
    refine wm (Nat.le_of_lt (List.getElem?_eq_some_iff.1 H).1) (cnt_lt hlink Ab G H ho Ap) (IT hlink Ab G Ao H)
   have h1:=wl (l.take M) Φ 0 hstep i o (by rw[List.getElem?_take,if_pos hi];exact ho) e w (cnt C ls) hJ (λp E=>hk p (by rw[Nat.zero_add]at E;exact E)) hR (λt ht=>hs t (Aq t ht)) (λj d E hd=>?_)
   · refine tG h1 ?_
     rintro _ w' ⟨v,Av,hR',hv,hI'⟩
     refine⟨v,Av,hR',hv,?_⟩
     rw[Nat.zero_add]at hI'
     cases E:nz C i with
     |none=>rw[E]at hI';show k4 (cnt C _) w';rw[Nt (Cg E)];exact hI'
     | some p=>
       rw[E]at hI'
       have Ay:=hk p E
       have H:=tF E
       show k4 (cnt C _) w'
       have:cnt C (λj=>if j=i then true else ls j)=p+1:=by
        refine wm (by have:=(List.getElem?_eq_some_iff.1 H).1;omega) (λq c hq hc=>?_) (λq c hq hc=>?_)
        · by_cases A0:c=i
          · rw[if_pos A0]
          · rw [if_neg A0]
            have Ax:q<p:=by
             rcases Nat.lt_or_ge q p with h|h
             · exact h
             · have:q=p:=J
               subst this;rw[H]at hc;exact absurd (qb5 hc).symm A0
            exact cnt_lt hlink Ab G H ho Ap q c Ax hc
        · have A0:c≠i:=λe=>by subst e;have:=Aw _ _ _ hc H;omega
          rw[if_neg A0]
          exact IT hlink Ab G Ao H q c J hc
       rw[this];exact hI'
   · obtain⟨O,A2,hb⟩:=List.any_eq_true.1 E
     simp only[Bool.and_eq_true]at hb
     exact hφ j ⟨O,by simpa using A2,hb.1,Nat.eq_of_beq_eq_true hb.2⟩ d (by rw[G];exact hd)
 · rintro e w ⟨ls,As,hJ⟩ hR hs hφ
   have hc:cnt C ls=C.length:=Nu (λc hc=>As c (by have:=List.all_eq_true.1 hCM c hc;rwa [Nat.blt_eq]at this))
   rw[hc]at hJ
   exact hfin e w hJ hR (λt ht=>hs t (Aq t ht)) (λj d A1 hd=>hφ j d (by rwa [Nat.blt_eq]at A1) (by rw[G];exact hd))
end draws
section scope
variable {P:Program}{F:Fence}{b:Frame}{a:Act}{k:List Item}{cs:List Frame}{Q:Exit->Act->World->Prop}
def cS {c:Code}:step P (lone (b.atR a (.code (.scope c)::k)) cs w)=.next (lone (b.atR a (.code c:: .inScope c::k)) cs w):=
 step_lone_go (by simp[stepG,stepG.exec,Frame.atR])
def ko {c:Code}:step P (lone (b.atR a (.inScope c::k)) cs w)=.next (lone (b.atR a k) cs w):=
 step_lone_go (by simp[stepG,stepG.exec,Frame.atR])
def Ch {c:Code}(h:c.wpIn F n P (Exit.noGoto Q) a w):(Code.scope c).wpIn F n P Q a w:=by
 intro b k cs H hb hr
 have E:(lone (b.atR a (.code (.scope c)::k)) cs w).fenced P F:=fenced_calm hb hr Z
 obtain⟨e,a₁,w₁,hq,G⟩:=h b (.inScope c::k) cs H hb hr
 cases e with
 |normal=>exact⟨.normal,a₁,w₁,hq,.head E cS (StepsIn.trans G (.one (fenced_calm hb hr Z) ko))⟩
 | exit id=>
   exact⟨.exit id,a₁,w₁,hq,λk' hk=>.head E cS (G.1 k' kb6),
    λO hk=>let ⟨k₁,h1,h2⟩:=G.2 O kb6;⟨k₁,h1,.head E cS h2⟩⟩
 |goto l=>exact hq.elim
 |ret=>exact⟨_,a₁,w₁,hq,.of_steps (.one E cS) G⟩
 |panic ch=>exact⟨_,a₁,w₁,hq,.of_steps (.one E cS) G⟩
 |outgrown=>exact⟨_,a₁,w₁,hq,.of_steps (.one E cS) G⟩
def Nv (h:Q .ret a w):Exit.noGoto Q .ret a w:=h
def Nw (h:Q .normal a w):Exit.noGoto Q .normal a w:=h
end scope
section conv
variable {P:Program}{r:Option Nat}{Q:Exit->Act->World->Prop}
variable {d ty:Nat}{pos:String}{af:Array Edge}{g:Option (Nat×Bool)}{x y:Operand}{t':TypeId}
def zu:∀(l:List UInt8) (s:ByteArray),(l.map (λb=>((b.toNat:Nat):Int))).foldl (λr n=>r.push (UInt8.ofNat n.toNat)) s=⟨(s.data.toList++l).toArray⟩
 |[],s=>by simp
 | b::l,s=>by
   simp only[List.map_cons,List.foldl_cons]
   rw[zu l]
   congr 1
   simp[ByteArray.push]
def QR {src dst el m c:Nat}{A:Option Addr}{l:List UInt8}(hs:P.underlying src=some (.slice el))(he:P.underlying el=some (.int .u8))(hd:P.underlying dst=some .string)(hx:ev N e x=.slice A m c)(hr:Rw w lo A (l.map λb=>Value.int .u8 b.toNat))(hm:l.length=m)(hk:K (act N (upd e d (S l)) ds) w):
 Oper.wpIn (Fw r) n P ⟨some d,.convert src dst x,ty,pos,af,g⟩ (act N e ds) w K Q:=by
 refine cJ (v:=S l) (w':=w) Z ?_ KK
 have key:(convert src dst (.slice A m c)).run P w=.ok (S l) w:=by
  rw[run_convert_bytes_string w src dst el A m c hs he hd]
  cases A with
  | none=>
    have:l=[]:=by
     cases l with
     |nil=>rfl
     | cons b t=>
       obtain⟨_,_,h,_⟩:=hr.cells 0 _ Z
       cases h
    subst this
    simp[Conv.bytesToString,S];rfl
  | some a=>
    have hl:(loadCells a m).run P w=.ok ((l.map (λb=>((b.toNat:Nat):Int))).map (Value.int .u8)).toArray w:=by
     by_cases h0:l=[]
     · subst h0;simp at hm;subst hm;simp[loadCells,loadCellsFrom]
     · have hlt:0<l.length:=List.length_pos_iff.2 h0
       obtain⟨b,o,hA,_⟩:=hr.cells 0 _ (by rw[List.getElem?_map,List.getElem?_eq_getElem hlt];rfl)
       cases hA
       have E:=run_loadCells_list (P:=P) (w:=w) ⟨b,o,none⟩ (l.map λb=>Value.int .u8 b.toNat) (λj v hv=>by
        obtain⟨_,_,hA',hc⟩:=hr.cells j v hv
        cases hA'
        rw[Addr.add_mid];exact hc)
       rw[List.length_map,hm]at E
       rw[E,List.map_map];rfl
    rw[run_bytesToString w a m c _ hl,zu]
    rfl
 simp[execOp,hx,key]
def Ci {b:Int}(hx:ev N e x=.int .i64 a)(hy:ev N e y=.int .i64 b)(h1:b≠0)(hc:a.tdiv b=c)(hr:In64 c)(hk:K (act N (upd e d (.int .i64 c)) ds) w):
 Oper.wpIn (Fw r) n P ⟨some d,.binOp .quo t x y t',ty,pos,af,g⟩ (act N e ds) w K Q:=
 dI hx hy (b6 ..) (by subst hc;simp[binOp,Op.intDiv,h1,k5 hr]) hk
def Cj {b:Int}(hx:ev N e x=.int .i64 a)(hy:ev N e y=.int .i64 b)(h1:b≠0)(hc:a.tmod b=c)(hk:K (act N (upd e d (.int .i64 c)) ds) w):
 Oper.wpIn (Fw r) n P ⟨some d,.binOp .rem t x y t',ty,pos,af,g⟩ (act N e ds) w K Q:=
 dI hx hy (b6 ..) (by subst hc;simp[binOp,Op.intDiv,h1]) hk
def mN {el m:Nat}{oo:Nat}{k:IntKind}(hu:P.underlying t=some (.array m el))(hs:(P.info? el).map (·.size)=some s)(hx:ev N e x=.pointer (some ⟨b,o,none⟩))(hy:ev N e y=.int k (i:Int))(hlt:i<m)(hoo:o+i*s=oo)(hk:K (act N (upd e d (.pointer (some ⟨b,oo,none⟩))) ds) w):Oper.wpIn (Fw r) n P ⟨some d,.indexAddr t x y,ty,pos,af,g⟩ (act N e ds) w K Q:=by
 refine cJ (v:=.pointer (some ⟨b,oo,none⟩)) (w':=w) Z ?_ KK
 subst hoo
 cases hi:P.info? el with
 |none=>simp[hi]at hs
 | some inf=>
   have hs':inf.size=s:=by simpa[hi]using hs
   subst hs'
   simp[execOp,hx,hy,Instr.indexAt,run_underlying hu,asIntOf,hlt,sizeOf,typeInfo,hi,Addr.add_mid,Instr.sureAddr]
end conv
end Go.Eng
