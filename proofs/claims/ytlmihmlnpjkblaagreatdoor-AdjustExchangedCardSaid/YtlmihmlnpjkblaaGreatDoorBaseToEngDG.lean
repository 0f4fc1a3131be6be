/- Part of the proof of a statement about an adjustment. -/
import Derived.Test.YtlmihmlnpjkblaaGreatDoorLib9ToEngG
import Derived.KernelRfl
import Derived.Scope
import Derived.Laws.BytesString
set_option linter.all false
namespace Go.Proofs.YtlmihmlnpjkblaaGreatDoor
open Go Go.Eng Go.RowKit Tryz
def lf:gw prog 3 (.int .i64 0) 1 8:=by unfold gw;kernel_rfl
def YD:gw prog 4 (.bool false) 1 1:=by unfold gw;kernel_rfl
def YE:gw prog 5 (.int .u8 0) 1 1:=by unfold gw;kernel_rfl
def jK:gw prog 28 (.slice none 0 0) 1 24:=by unfold gw;kernel_rfl
def Qs:gw prog 22 (.slice none 0 0) 1 24:=by unfold gw;kernel_rfl
def mi:gw prog 36 (.int .i64 0) 1 8:=by unfold gw;kernel_rfl
def aZ:gw prog 33 (.agg #[S [],S []]) 2 32:=by unfold gw;kernel_rfl
def td:gw prog 103 (.agg #[.slice none 0 0,.slice none 0 0,.slice none 0 0,.bool false]) 4 80:=by unfold gw;kernel_rfl
def Vw:gw prog 106 (.agg #[]) 0 0:=by unfold gw;kernel_rfl
def BQ:gw prog 159 (.slice none 0 0) 1 24:=by unfold gw;kernel_rfl
def bH:gw prog 161 (.agg #[.bool false,.slice none 0 0]) 2 32:=by unfold gw;kernel_rfl
def RR:gw prog 200 (.nilFunc) 1 8:=by unfold gw;kernel_rfl
def RS:gw prog 208 (.agg #[.pointer none,.slice none 0 0]) 2 32:=by unfold gw;kernel_rfl
def BR:gw prog 75 (.agg #[.bool false]) 1 1:=by unfold gw;kernel_rfl
def k9:gw prog 144 (.agg #[S [],S [],S [],S []]) 4 64:=by unfold gw;kernel_rfl
def DW:gw prog 187 (.agg #[S [],S [],S [],S [],S [],S [],S [],S [],.nilFunc]) 9 136:=by unfold gw;kernel_rfl
def oP:gw prog 189 (.agg #[.int .i64 0,S []]) 2 24:=by unfold gw;kernel_rfl
def bQ:gw prog 191 (.agg #[S [],S []]) 2 32:=by unfold gw;kernel_rfl
def Nc:gw prog 262 (.nilFunc) 1 8:=by unfold gw;kernel_rfl
def dX:gw prog 30 (.agg #[.slice none 0 0,.slice none 0 0,.slice none 0 0]) 3 72:=by unfold gw;kernel_rfl
def dw:gw prog 40 (.agg #[.slice none 0 0,.slice none 0 0,S [],S [],.int .i64 0]) 5 88:=by unfold gw;kernel_rfl
def oQ:gw prog 82 (.agg #[.slice none 0 0,.slice none 0 0,.slice none 0 0]) 3 72:=by unfold gw;kernel_rfl
def sn:gw prog 86 (.agg #[S [],S [],.int .i64 0]) 3 40:=by unfold gw;kernel_rfl
def Nf:gw prog 150 (.nilFunc) 1 8:=by unfold gw;kernel_rfl
def ji:(prog.info? 3).map (·.size)=some 1:=by kernel_rfl
def Yt:(prog.info? 4).map (·.size)=some 1:=by kernel_rfl
def Vg:(prog.info? 9).map (·.size)=some 1:=by kernel_rfl
def zi:(prog.info? 27).map (·.size)=some 1:=by kernel_rfl
def iS:(prog.info? 28).map (·.size)=some 1:=by kernel_rfl
def BU:(prog.info? 22).map (·.size)=some 1:=by kernel_rfl
def RU:(prog.info? 36).map (·.size)=some 1:=by kernel_rfl
def bX:(prog.info? 33).map (·.size)=some 2:=by kernel_rfl
def RV:(prog.info? 101).map (·.size)=some 1:=by kernel_rfl
def Gm:(prog.info? 103).map (·.size)=some 4:=by kernel_rfl
def mj:(prog.info? 159).map (·.size)=some 1:=by kernel_rfl
def ml:(prog.info? 161).map (·.size)=some 2:=by kernel_rfl
def Vx:(prog.info? 200).map (·.size)=some 1:=by kernel_rfl
def eh:(prog.info? 144).map (·.size)=some 4:=by kernel_rfl
def Ia:(prog.info? 185).map (·.size)=some 1:=by kernel_rfl
def xk:(prog.info? 187).map (·.size)=some 9:=by kernel_rfl
def Ib:(prog.info? 189).map (·.size)=some 2:=by kernel_rfl
def fI:(prog.info? 191).map (·.size)=some 2:=by kernel_rfl
def RX:(prog.info? 262).map (·.size)=some 1:=by kernel_rfl
def xl:(prog.info? 24).map (·.size)=some 3:=by kernel_rfl
def bm:(prog.info? 30).map (·.size)=some 3:=by kernel_rfl
def df:(prog.info? 40).map (·.size)=some 5:=by kernel_rfl
def nM:(prog.info? 82).map (·.size)=some 3:=by kernel_rfl
def xm:(prog.info? 86).map (·.size)=some 3:=by kernel_rfl
def RY:(prog.info? 109).map (·.size)=some 1:=by kernel_rfl
def RZ:(prog.info? 150).map (·.size)=some 1:=by kernel_rfl
def U1:=underlying1
def U3:=underlying3
def U4:=underlying4
def U5:=underlying5
def U9:=underlying9
def Ic:=underlying27
def te:=underlying28
def kB:=underlying22
def BV:=underlying36
def iT:=underlying33
def Ng:=underlying101
def Yu:=underlying103
def mm:=underlying106
def Ie:=underlying213
def gX:=underlying159
def kH:=underlying161
def Vy:=underlying206
def YF:=underlying96
def Vz:=underlying75
def fJ:=underlying144
def DX:=underlying187
def DY:=underlying189
def jr:=underlying191
def VA:=underlying278
def rj:=underlying24
def dj:=underlying30
def j5:=underlying40
def nz:=underlying82
def DZ:=underlying86
def bg {f : FuncId}{fn : Func}(hf : prog.funcs[f]? = some fn)(hn : (fn.name == "runtime.NumGoroutine") = false := by kernel_rfl)(hb : fn.body.isNone = false := by kernel_rfl) : Enters prog f := Gl hf hn hb
def VB:=bg func133
def YG:=bg func78
def VC:=bg func27
def tg:=bg func54
def YH:=bg func17
def VD:=bg func29
def Nh:=bg func16
def YI:=bg func28
def YJ:=bg func75
def If:=bg func34
def Ni:=bg func57
def R0:=bg func65
def YK:=bg func174
def YL:=bg func175
def VE:=bg func176
def VF:=bg func81
def YM:=bg func128
def YN:=bg func130
def VG:=bg func131
def YO:=bg func132
def oS:=bg func26
def BW:=bg func134
def VH:=bg func66
def VI:=bg func67
def VJ:=bg func68
def VK:=bg func69
def R1:=bg func70
def YP:=bg func110
def YQ:=bg func111
def YR:=bg func112
def YS:=bg func74
def YT:=bg func127
def VN:=bg func71
def VO:=bg func72
def VP:=bg func73
def YU:=bg func82
def VQ:=bg func83
def VR:=bg func113
def VS:=bg func114
def VT:=bg func115
def VU:=bg func137
def tj:=bg func62
def zj:=bg func63
def xo:=bg func64
def Nj:=bg func139
def YV:=bg func136
def YW:=bg func126
def YX:=bg func153
def VV:=bg func77
def YY:=bg func154
def YZ:=bg func173
def ni:=bg func135
def VX:=bg func138
def Ig:=bg func140
def zk:=bg func177
def BX:=bg func181
def VY:=bg func179
def tl:=bg func118
def Ih:=bg func87
def kI:=bg func119
def D3:=bg func120
def zm:=bg func121
def VZ:=bg func122
def D5:=bg func123
def mo:=bg func124
def zn:=bg func125
def Qt:=bg func180
def Qu:=bg func182
def D6:=bg func183
def zp:=bg func178
def V1:=bg func172
def V2:=bg func129
def V3:=bg func216
def Ii:=bg func217
def we:=bg func156
def Qw:=bg func157
def D7:=bg func158
def rk:=bg func159
def D8:=bg func160
def V4:=bg func161
def V5:=bg func162
def Ij:=bg func163
def V6:=bg func164
def zq:=bg func165
def V7:=bg func166
def Ik:=bg func167
def Il:=bg func168
def Qx:=bg func169
def V8:=bg func170
def Qy:=bg func171
def Im:=bg func204
def V9:=bg func205
def Wb:=bg func206
def D9:=bg func207
def Wc:=bg func208
def wg:=bg func214
def Qz:=bg func306
def QA:=bg func307
def wh:=bg func308
def QB:=bg func309
def Io:=bg func310
def rm:=bg func311
def QC:=bg func312
def QD:=bg func15
def QE:=bg func13
def Ea:=bg func117
def QF:=bg func155
def Ip:=bg func186
def Eb:=bg func35
def rq:=bg func36
def tm:=bg func37
def Ec:=bg func86
def rr:=bg func84
def QG:=bg func142
def QH:=bg func85
def Ed:=bg func88
def Wd:=bg func141
def We:=bg func143
def R2:=bg func105
def R3:=bg func147
def nN:=bg func149
def Iq:=bg func198
def nO:=bg func191
def Ir:=bg func194
def Is:=bg func188
def R4:=bg func152
def qy:=bg func202
def It:=bg func227
def Iu:=bg func199
def iw:=bg func219
def xp:=bg func218
def mp:=bg func222
def nP:=bg func184
def BY:=bg func200
def BZ:=bg func203
def R5:=bg func229
def Iv:=bg func252
def R6:=bg func150
def tn:=bg func185
def xq:=bg func220
def nQ:=bg func187
def B3:=bg func189
def B4:=bg func190
def R7:=bg func225
def nR:=bg func193
def R8:=bg func223
def B5:=bg func228
def R9:=bg func230
def B6:=bg func231
def B7:=bg func100
def B8:=bg func101
def Sa:=bg func232
def Sb:=bg func233
def Iw:=bg func197
def Sd:=bg func248
def Se:=bg func90
def B9:=bg func249
def Iy:=bg func250
def Sf:=bg func251
def Iz:=bg func195
def Si:=bg func196
def Sj:=bg func221
def Sk:=bg func224
def IA:=bg func148
def Sl:=bg func253
def Sm:=bg func254
def Sp:=bg func269
def IB:=bg func226
def IC:=bg func9
def xr:=bg func10
def gp:=bg func11
def xu:=bg func12
def nT:=bg func14
def ID:=bg func18
def xw:=bg func19
def Sq:=bg func21
def Ca:=bg func22
def Sr:=bg func24
def Ss:=bg func30
def Su:=bg func31
def lg:=bg func32
def Sv:=bg func33
def Cb:=bg func38
def Cc:=bg func39
def fK:=bg func40
def IE:=bg func41
def Sw:=bg func42
def Sx:=bg func43
def IF:=bg func44
def Sy:=bg func45
def Sz:=bg func46
def SB:=bg func47
def SC:=bg func48
def IG:=bg func49
def SD:=bg func50
def SE:=bg func51
def SF:=bg func52
def SG:=bg func53
def SH:=bg func58
def SI:=bg func59
def IH:=bg func60
def xx:=bg func61
def SJ:=bg func76
def qA:=bg func79
def xy:=bg func80
def II:=bg func89
def xz:=bg func91
def Cd:=bg func92
def lh:=bg func93
def SK:=bg func94
def xA:=bg func95
def SL:=bg func96
def SN:=bg func97
def Ce:=bg func98
def qB:=bg func99
def Cg:=bg func102
def Ch:=bg func103
def SP:=bg func104
def SQ:=bg func106
def IJ:=bg func107
def IK:=bg func108
def SR:=bg func109
def SS:=bg func116
def Ci:=bg func146
def SU:=bg func151
def IL:=bg func192
def li:prog.follows .mixedOrders=true:=by kernel_rfl
end Go.Proofs.YtlmihmlnpjkblaaGreatDoor
def bS (B:Nat):List Nat->Nat
 |[]=>0
 |d::l=>d+B*bS B l
def zr (B:Nat):Nat->Nat->List Nat
 |0,_=>[]
 |f+1,n=>if n=0 then[]else n%B::zr B f (n/B)
def au (B n:Nat):List Nat:=zr B n n
def IM (B:Nat)(hB:2<=B):∀(f n:Nat),n<=f->∀g,n<=g->zr B f n=zr B g n:=by
 intro f
 induction f with
 | zero=>
   intro n E g _
   obtain rfl:n=0:=J
   cases g <;>simp[zr]
 | succ f ih =>
   intro n E g _
   cases g with
   | zero => obtain rfl:n=0:=J
             simp[zr]
   | succ g=>
     simp only[zr]
     by_cases h0:n=0
     · simp[h0]
     · rw[if_neg h0,if_neg h0]
       have hd:n/B<n:=Nat.div_lt_self J J
       rw[ih (n/B) J g J]
def gy (B:Nat):au B 0=[]:=rfl
def qr (B n:Nat)(hB:2<=B)(hn:0<n):au B n=n%B::au B (n/B):=by
 unfold au
 cases n with
 |zero=>omega
 | succ m=>
   have hd:(m+1)/B<m+1:=Nat.div_lt_self J J
   simp only[zr]
   rw[if_neg J,IM B hB m ((m+1)/B) J ((m+1)/B) (Nat.le_refl _)]
def cJ (B:Nat)(hB:2<=B)(n:Nat):bS B (au B n)=n:=by
 induction n using Nat.strongRecOn with
 | _ n ih=>
   by_cases h0:n=0
   · subst h0;rfl
   · rw[qr B n hB J]
     simp only[bS]
     rw[ih (n/B) (Nat.div_lt_self J J)]
     exact Nat.mod_add_div n B
def eM (B:Nat)(hB:2<=B)(n:Nat):∀d∈au B n,d<B:=by
 induction n using Nat.strongRecOn with
 | _ n ih=>
   by_cases h0:n=0
   · subst h0;simp[gy]
   · rw[qr B n hB J]
     intro d hd
     rcases List.mem_cons.1 hd with rfl|h
     · exact Nat.mod_lt _ J
     · exact ih (n/B) (Nat.div_lt_self J J) d h
def Canon (B:Nat)(l:List Nat):Prop:=(∀d∈l,d<B)/\l.getLast?≠some 0
def Canon.tail {B d:Nat}{l:List Nat}(h:Canon B (d::l)):Canon B l:=by
 refine⟨λx hx=>h.1 x (List.mem_cons_of_mem _ hx),?_⟩
 have:=h.2
 cases l with
 |nil=>simp
 |cons e l=>simpa[List.getLast?_cons_cons]using this
def Canon.pos {B:Nat}(hB:2<=B):∀{l:List Nat},Canon B l->l≠[]->0<bS B l
 |[],_,h=>absurd Z h
 | [d],h,_=>by
   have:=h.2
   simp[bS]at this ⊢
   omega
 | d::e::l,h,_=>by
   have:=Canon.pos hB h.tail zd
   simp only[bS]at this ⊢
   have:0<B*(e+B*bS B l):=Nat.mul_pos J this
   omega
def mu {B:Nat}(hB:2<=B):∀{l:List Nat},Canon B l->l=au B (bS B l)
 |[],_=>rfl
 | d::l,h=>by
   have hp:=Canon.pos hB h zd
   have hd:d<B:=h.1 d zd
   rw[qr B _ hB hp]
   simp only[bS]
   rw[Nat.add_mul_mod_self_left,Nat.mod_eq_of_lt hd,Nat.add_mul_div_left _ _ J,Nat.div_eq_of_lt hd,Nat.zero_add,<-mu hB h.tail]
def j6 (B:Nat)(hB:2<=B)(n:Nat):(au B n).getLast?≠some 0:=by
 induction n using Nat.strongRecOn with
 | _ n ih=>
   by_cases h0:n=0
   · subst h0;simp[gy]
   · rw [qr B n hB J]
     have E:=ih (n/B) (Nat.div_lt_self J J)
     by_cases hq:n/B=0
     · rw[hq,gy]
       have:n<B:=by
        rcases Nat.lt_or_ge n B with h|h
        · exact h
        · have:=Nat.div_pos h J;omega
       simp[Nat.mod_eq_of_lt this];omega
     · rw[qr B (n/B) hB (Nat.pos_of_ne_zero hq)]at E ⊢
       simpa[List.getLast?_cons_cons]using E
def dH:List Nat->List Nat
 |[]=>[]
 |d::l=>if dH l=[]/\d=0 then[]else d::dH l
def zt (B:Nat):∀l,bS B (dH l)=bS B l
 |[]=>rfl
 | d::l=>by
   unfold dH
   have ih:=zt B l
   split
   · rename_i h;rw[h.1]at ih;simp only[bS]at *;rw[<-ih,h.2];simp
   · simp only[bS,ih]
def wi {d:Nat}:∀{l:List Nat},d∈dH l->d∈l
 |[],h=>h
 | e ::l,h=>by
   unfold dH at h
   split at h
   · simp at h
   · rcases List.mem_cons.1 h with rfl|h
     · simp
     · exact List.mem_cons_of_mem _ (wi h)
def tp:∀l,(dH l).getLast?≠some 0
 |[]=>by simp[dH]
 | d ::l=>by
   have ih:=tp l
   unfold dH
   split
   · simp
   · rename_i h
     cases ht:dH l with
     |nil=>simp[ht]at h ⊢;exact h
     |cons e m=>rw[ht]at ih;simpa[List.getLast?_cons_cons]using ih
def mw (B:Nat)(hB:2<=B)(l:List Nat)(h:∀d∈l,d<B):dH l=au B (bS B l):=by
 rw[<-zt B l]
 exact mu hB ⟨λd hd=>h d (wi hd),tp l⟩
def cj (B:Nat):∀a b,bS B (a++b)=bS B a+B^a.length*bS B b
 |[],b=>by simp[bS]
 | d ::a,b=>by
   simp only[List.cons_append,bS,cj B a b,List.length_cons,Nat.pow_succ]
   rw[Nat.mul_add]
   have:B*(B^a.length*bS B b)=B^a.length*B*bS B b:=by
    rw[<-Nat.mul_assoc,Nat.mul_comm B]
   omega
def lj (B:Nat):∀l:List Nat,(∀d∈l,d<B)->bS B l<B^l.length
 |[],_=>by simp[bS]
 | d::l,h=>by
   have ih:=lj B l (λx hx=>h x (List.mem_cons_of_mem _ hx))
   have hd:=h d zd
   simp only[bS,List.length_cons,Nat.pow_succ]
   have:B*(bS B l+1)<=B*B^l.length:=Nat.mul_le_mul_left _ ih
   rw[Nat.mul_add]at this
   rw[Nat.mul_comm (B^l.length)]
   omega
def vJ (B:Nat)(hB:2<=B)(n k:Nat)(h:n<B^k):(au B n).length<=k:=by
 induction k generalizing n with
 |zero=>simp at h;subst h;simp[gy]
 | succ k ih=>
   by_cases h0:n=0
   · subst h0;simp[gy]
   · rw[qr B n hB J]
     have:n/B<B^k:=by
      rw[Nat.div_lt_iff_lt_mul J]
      rwa [Nat.pow_succ]at h
     have:=ih _ this
     simp;omega
def bi (B:Nat)(hB:2<=B)(n k:Nat):(au B n).length<=k↔n<B^k:=by
 constructor
 · intro h
   have h1:=lj B (au B n) (eM B hB n)
   rw[cJ B hB]at h1
   exact qb1 h1 (Nat.pow_le_pow_right J h)
 · exact vJ B hB n k
def aF (d:Nat->Int)(c0:Int):Nat->Int×List Int
 |0=>(c0,[])
 | k+1=>if d k+(aF d c0 k).1<0 then(-1,(aF d c0 k).2++[d k+(aF d c0 k).1+10000])
   else if 10000<=d k+(aF d c0 k).1 then((d k+(aF d c0 k).1)/10000,(aF d c0 k).2++[(d k+(aF d c0 k).1)%10000])
   else(0,(aF d c0 k).2++[d k+(aF d c0 k).1])
def Cj {d:Nat->Int}{c0:Int}{k:Nat}(h:d k+(aF d c0 k).1<0):aF d c0 (k+1)=(-1,(aF d c0 k).2++[d k+(aF d c0 k).1+10000]):=by
 rw[aF,if_pos h]
def Ck {d:Nat->Int}{c0:Int}{k:Nat}(h:¬d k+(aF d c0 k).1<0)(h2:10000<=d k+(aF d c0 k).1):aF d c0 (k+1)=((d k+(aF d c0 k).1)/10000,(aF d c0 k).2++[(d k+(aF d c0 k).1)%10000]):=by
 rw[aF,if_neg h,if_pos h2]
def tq {d:Nat->Int}{c0:Int}{k:Nat}(h:¬d k+(aF d c0 k).1<0)(h2:¬10000<=d k+(aF d c0 k).1):aF d c0 (k+1)=(0,(aF d c0 k).2++[d k+(aF d c0 k).1]):=by
 rw[aF,if_neg h,if_neg h2]
def eN (d:Nat->Int)(c0:Int):∀k,(aF d c0 k).2.length=k
 |0=>rfl
 | k+1=>by
   have:=eN d c0 k
   rw[aF];split <;>(try split) <;>simp[this]
def mx:List Int->Int
 |[]=>0
 |x::l=>x+10000*mx l
def j7:∀a b,mx (a++b)=mx a+10000^a.length*mx b
 |[],b=>by simp[mx]
 | x::a,b=>by
   simp only[List.cons_append,mx,j7 a b,List.length_cons,Int.pow_succ]
   grind
def iU (d:Nat->Int):Nat->Int
 |0=>0
 |k+1=>iU d k+d k*10000^k
def jL (d:Nat->Int)(c0:Int):∀k,mx (aF d c0 k).2+(aF d c0 k).1*10000^k=c0+iU d k
 |0=>by simp[aF,mx,iU]
 | k + 1=>by
   have ih:=jL d c0 k
   have hl:=eN d c0 k
   rw[aF]
   split
   · simp only[j7,hl,mx,iU,Int.pow_succ];grind
   · split
     · simp only[j7,hl,mx,iU,Int.pow_succ]
       have h3:=Int.mul_ediv_add_emod (d k+(aF d c0 k).1) 10000
       grind
     · simp only[j7,hl,mx,iU,Int.pow_succ];grind
def iM (d:Nat->Int)(c0:Int)(h:∀k,-10000<=d k+(aF d c0 k).1):∀k,∀x∈(aF d c0 k).2,0<=x/\x<10000
 |0=>by simp[aF]
 | k + 1=>by
   have ih:=iM d c0 h k
   have hk:=h k
   intro x hx
   rw[aF]at hx
   split at hx
   · rcases List.mem_append.1 hx with hx|hx
     · exact ih x hx
     · simp at hx;omega
   · split at hx
     · rcases List.mem_append.1 hx with hx|hx
       · exact ih x hx
       · simp at hx;omega
     · rcases List.mem_append.1 hx with hx|hx
       · exact ih x hx
       · simp at hx;omega
def eO (l:List Int):List Nat:=l.map Int.toNat
def lk:∀l:List Int,(∀x∈l,0<=x)->((bS 10000 (eO l):Nat):Int)=mx l
 |[],_=>rfl
 | x::l,h=>by
   have ih:=lk l (λy hy=>h y (by simp[hy]))
   have hx:=h x zd
   simp only[eO,List.map_cons,bS,mx]at *
   omega
def zu (l:List Int)(h:∀x∈l,0<=x):(eO l).map (λn:Nat=>(n:Int))=l:=by
 simp only[eO,List.map_map]
 conv=>rhs;rw[<-List.map_id l]
 apply List.map_congr_left
 intro x hx
 have:=h x hx
 simp;omega
def Gn (l:List Int)(h:∀x∈l,0<=x/\x<10000):∀x∈eO l,x<10000:=by
 intro x hx
 obtain⟨y,hy,rfl⟩:=List.mem_map.1 hx
 have:=h y hy
 omega
def jD (xs:List Nat):∀k,iU (λi=>((xs.getD i 0:Nat):Int)) k=((bS 10000 (xs.take k):Nat):Int)
 |0=>by simp[iU,bS]
 | k + 1=>by
   rw[iU,jD xs k]
   by_cases hk:k<xs.length
   · have:xs.take (k+1)=xs.take k++[xs.getD k 0]:=by
      rw[List.take_succ_eq_append_getElem hk];simp[hk]
     rw[this,cj]
     have hl:(xs.take k).length=k:=by simp;omega
     rw[hl]
     simp only[bS,Nat.mul_zero,Nat.add_zero]
     rw[Int.natCast_add,Int.natCast_mul,Int.natCast_pow]
     rw[Int.mul_comm];rfl
   · rw[List.take_of_length_le J,List.take_of_length_le J]
     have:xs.getD k 0=0:=by simp[List.getD,List.getElem?_eq_none (Nat.le_of_not_lt hk)]
     rw[this];simp
def zv (d e:Nat->Int):∀k,iU (λi=>d i+e i) k=iU d k+iU e k
 |0=>by simp[iU]
 |k+1=>by simp only[iU,zv d e k];grind
def zw (d e:Nat->Int):∀k,iU (λi=>d i-e i) k=iU d k-iU e k
 |0=>by simp[iU]
 |k+1=>by simp only[iU,zw d e k];grind
def zx (d:Nat->Int)(c:Int):∀k,iU (λi=>d i*c) k=iU d k*c
 |0=>by simp[iU]
 |k+1=>by simp only[iU,zx d c k];grind
def iV (xs:List Nat){k:Nat}(h:xs.length<=k):bS 10000 (xs.take k)=bS 10000 xs:=by rw[List.take_of_length_le h]
def getD_lt {xs:List Nat}(h:∀x∈xs,x<10000)(i:Nat):xs.getD i 0<10000:=by
 by_cases hi:i<xs.length
 · simp[hi];exact h _ (List.getElem_mem hi)
 · simp[List.getD,List.getElem?_eq_none (Nat.le_of_not_lt hi)]
def gz (xs ys:List Nat)(i:Nat):Int:=((xs.getD i 0:Nat):Int)+((ys.getD i 0:Nat):Int)
def nU {xs ys:List Nat}(hx:∀x∈xs,x<10000)(hy:∀x∈ys,x<10000):∀k,0<=(aF (gz xs ys) 0 k).1/\(aF (gz xs ys) 0 k).1<=1
 |0=>by simp[aF]
 | k+1=>by
   have ih:=nU hx hy k
   have h1:=getD_lt hx k
   have h2:=getD_lt hy k
   rw[aF]
   have hd:gz xs ys k=((xs.getD k 0:Nat):Int)+((ys.getD k 0:Nat):Int):=rfl
   split
   · omega
   · split <;>simp only <;>omega
def IN {xs ys:List Nat}(hx:∀x∈xs,x<10000)(hy:∀x∈ys,x<10000){n k:Nat}(hn:xs.length<=n/\ys.length<=n)(hk:n<=k)(hc:(aF (gz xs ys) 0 k).1=0):
 (∀x∈(aF (gz xs ys) 0 k).2,0<=x/\x<10000)/\bS 10000 (eO (aF (gz xs ys) 0 k).2)=bS 10000 xs+bS 10000 ys:=by
 have hd:∀x∈(aF (gz xs ys) 0 k).2,0<=x/\x<10000:=iM _ _ (λj=>by
  have:=nU hx hy j
  simp only[gz];omega) k
 refine⟨hd,?_⟩
 have h1:=jL (gz xs ys) 0 k
 have h2:=lk _ (λx hx=>(hd x hx).1)
 have h3:iU (gz xs ys) k=((bS 10000 xs:Nat):Int)+((bS 10000 ys:Nat):Int):=by
  have:=zv (λi=>((xs.getD i 0:Nat):Int)) (λi=>((ys.getD i 0:Nat):Int)) k
  rw[jD,jD,iV xs J,iV ys J]at this
  exact this
 rw[hc]at h1
 omega
def dD (xs ys:List Nat)(i:Nat):Int:=((xs.getD i 0:Nat):Int)-((ys.getD i 0:Nat):Int)
def j8 {xs ys:List Nat}(hx:∀x∈xs,x<10000)(hy:∀x∈ys,x<10000):∀k,-1<=(aF (dD xs ys) 0 k).1/\(aF (dD xs ys) 0 k).1<=0
 |0=>by simp[aF]
 | k+1=>by
   have ih:=j8 hx hy k
   have h1:=getD_lt hx k
   have h2:=getD_lt hy k
   rw[aF]
   have hd:dD xs ys k=((xs.getD k 0:Nat):Int)-((ys.getD k 0:Nat):Int):=rfl
   split
   · simp
   · split <;>simp only <;>omega
def zy {l:List Int}(h:∀x∈l,0<=x/\x<10000):0<=mx l/\mx l<10000^l.length:=by
 induction l with
 |nil=>simp[mx]
 | cons x l ih=>
   have:=ih (λy hy=>h y (by simp[hy]))
   have hx:=h x zd
   simp only[mx,List.length_cons,Int.pow_succ]
   constructor
   · omega
   · omega
def Gp {xs ys:List Nat}(hx:∀x∈xs,x<10000)(hy:∀x∈ys,x<10000){n:Nat}(hn:xs.length<=n/\ys.length<=n)(hle:bS 10000 ys<=bS 10000 xs):
 (aF (dD xs ys) 0 n).1=0/\(∀k,∀x∈(aF (dD xs ys) 0 k).2,0<=x/\x<10000)/\∀k,n<=k->(aF (dD xs ys) 0 k).1=0->bS 10000 (eO (aF (dD xs ys) 0 k).2)=bS 10000 xs-bS 10000 ys:=by
 have hd:∀k,∀x∈(aF (dD xs ys) 0 k).2,0<=x/\x<10000:=iM _ _ (λj=>by
  have:=j8 hx hy j
  have h1:=getD_lt hx j
  have h2:=getD_lt hy j
  simp only[dD];omega)
 have h3:∀k,n<=k->iU (dD xs ys) k=((bS 10000 xs:Nat):Int)-((bS 10000 ys:Nat):Int):=λk hk=>by
  have:=zw (λi=>((xs.getD i 0:Nat):Int)) (λi=>((ys.getD i 0:Nat):Int)) k
  rw[jD,jD,iV xs J,iV ys J]at this
  exact this
 refine⟨?_,hd,λk hk hc=>?_⟩
 · have h1:=jL (dD xs ys) 0 n
   have h4:=zy (hd n)
   have E:=j8 hx hy n
   rw[eN]at h4
   rw[h3 n (Nat.le_refl _)]at h1
   have hcases:(aF (dD xs ys) 0 n).1=-1\/(aF (dD xs ys) 0 n).1=0:=J
   rcases hcases with hc|hc
   · rw[hc]at h1;omega
   · exact hc
 · have h1:=jL (dD xs ys) 0 k
   have h2:=lk _ (λx hx=>(hd k x hx).1)
   rw[hc,h3 k hk]at h1
   omega
def rT (xs:List Nat)(m:Nat)(i:Nat):Int:=((xs.getD i 0:Nat):Int)*(m:Int)
def xB {xs:List Nat}(hx:∀x∈xs,x<10000){m:Nat}(hm:m<10000)(i:Nat):0<=rT xs m i/\rT xs m i<=99980001:=by
 have h1:=getD_lt hx i
 have h2:xs.getD i 0*m<=9999*9999:=qb9 J J
 unfold rT
 rw[<-Int.natCast_mul]
 omega
def tt {xs:List Nat}(hx:∀x∈xs,x<10000){m:Nat}(hm:m<10000):∀k,0<=(aF (rT xs m) 0 k).1/\(aF (rT xs m) 0 k).1<10000
 |0=>by simp[aF]
 | k+1=>by
   have ih:=tt hx hm k
   have h1:=xB hx hm k
   rw[aF]
   split
   · omega
   · split <;>simp only <;>omega
def SV {xs:List Nat}(hx:∀x∈xs,x<10000){m:Nat}(hm:m<10000){n k:Nat}(hn:xs.length<=n)(hk:n<=k)(hc:(aF (rT xs m) 0 k).1=0):
 (∀x∈(aF (rT xs m) 0 k).2,0<=x/\x<10000)/\bS 10000 (eO (aF (rT xs m) 0 k).2)=bS 10000 xs*m:=by
 have hd:∀x∈(aF (rT xs m) 0 k).2,0<=x/\x<10000:=iM _ _ (λj=>by
  have:=tt hx hm j
  have:=xB hx hm j
  omega) k
 refine⟨hd,?_⟩
 have h1:=jL (rT xs m) 0 k
 have h2:=lk _ (λx hx=>(hd x hx).1)
 have h3:iU (rT xs m) k=((bS 10000 xs:Nat):Int)*(m:Int):=by
  have:=zx (λi=>((xs.getD i 0:Nat):Int)) (m:Int) k
  rw[jD,iV xs J]at this
  exact this
 rw[hc,h3]at h1
 rw[<-Int.natCast_mul]at h1
 omega
namespace Go.Eng
open Go Go.RowKit
variable {K K1 K2:Act->World->Prop}{xs:Array Operand}{ats:Array TypeId}{fn:Func}{f:FuncId}{a c:Int}{ds:List Deferred}{bs order ps C:List Nat}{l rest:List Oper}{cs lb args vs la cs':List Value}{b lo D k sz N gf n base fuel i j s dd k' p:Nat}{ls:Nat->Bool}{e:Nat->Value}{t et src dst el:TypeId}{v v' u:Value}{W A B W' w0 w' w W0:World}
section range
variable {P:Program}
structure eK (bs:List Nat)(W W':World):Prop where
 size:W.heap.size<=W'.heap.size
 block:∀k,k<W.heap.size->k∉bs->W'.heap[k]?=W.heap[k]?
def eK.refl (bs:List Nat)(W:World):eK bs W W:=⟨qa0 _,λ_ _ _=>rfl⟩
def eK.ext (h:eK bs W A)(k:aN A B):eK bs W B:=
 ⟨qa8 h.size k.size,λi hi hb=>(k.block i (qb1 hi h.size)).trans (h.block i hi hb)⟩
def ad8:=@eK.ext
def eK.put (h:eK bs W A)(k:dP A B b)(hb:b∈bs\/W.heap.size<=b):eK bs W B:=
 ⟨by rw[k.size];exact h.size,λi hi E=>(k.block i (λe=>by subst e;rcases hb with hb|hb;exact E hb;omega)).trans (h.block i hi E)⟩
def ae0:=@eK.put
def eK.gr {row:Option Nat}(h:eK bs W A)(k:A.grownBy B row)(hb:∀b,row=some b->b∈bs\/W.heap.size<=b):eK bs W B:=
 ⟨qa8 h.size k.size,λi hi E=>(k.block i (qb1 hi h.size) (λe=>by rcases hb i e.symm with hb|hb;exact E hb;omega)).trans (h.block i hi E)⟩
def eK.others (h:eK bs W W')(hc:∀b∈bs,∃o:Obj,W.heap[b]?=some o/\o.isCells=true):KeepsOthers W W':=
 ⟨h.size,λk o hk ho=>(h.block k (Array.getElem?_eq_some_iff.1 hk).1 (λhm=>by
  obtain⟨o',E,G⟩:=hc k hm
  rw[hk]at E;cases E;rw[ho]at G;cases G)).trans hk⟩
def eK.blk {cs:Array Value}(h:eK bs W W')(hn:b∉bs)(hb:ar W b t cs):ar W' b t cs:=(h.block b hb.lt hn).trans hb
def eK.rw {A:Option Addr}(h:eK bs W W')(hn:∀ad,A=some ad->ad.block∉bs)(hb:Rw W lo A cs):Rw W' lo A cs:=by
 refine⟨λj u hu=>?_,hb.lo,λad e=>qb1 (hb.hi ad e) h.size⟩
 obtain⟨b,o,e,hc⟩:=hb.cells j u hu
 refine⟨b,o,e,?_⟩
 rw[<-hc]
 exact World.cell?_of_block (h.block b (hb.hi _ e) (hn _ e))
def ar.isCells {cs:Array Value}(h:ar w b t cs):∃o:Obj,w.heap[b]?=some o/\o.isCells=true:=⟨_,h,rfl⟩
def ae3:=@ar.isCells
def Cl (B:Nat)(k4:World->Prop):Prop:=
 ∀W W' row,k4 W->W.grownBy W' row->(∀r,row=some r->B<=r/\∃o:Obj,W.heap[r]?=some o/\o.isCells=false)->k4 W'
def ar.cel {row:Option Nat}{B:Nat}{cs:Array Value}(hg:W.grownBy W' row)(hr:∀r,row=some r->B<=r/\∃o:Obj,W.heap[r]?=some o/\o.isCells=false)(h:ar W b t cs):ar W' b t cs:=
 (grownBy_keeps_cells hg (λr e=>(hr r e).2) h Z).trans h
def ad6:=@ar.cel
def Rw.cel {row:Option Nat}{B:Nat}{A:Option Addr}(hg:W.grownBy W' row)(hr:∀r,row=some r->B<=r/\∃o:Obj,W.heap[r]?=some o/\o.isCells=false)(h:Rw W lo A cs):Rw W' lo A cs:=by
 refine⟨λj u hu=>?_,h.lo,λE e=>qb1 (h.hi E e) hg.size⟩
 obtain⟨b,o,e,hc⟩:=h.cells j u hu
 exact⟨b,o,e,cell_kept hc hg (λr e=>(hr r e).2)⟩
def oT {row:Option Nat}{B n0:Nat}(hn:n0<=B)(hg:W.grownBy W' row)(hr:∀r,row=some r->B<=r/\∃o:Obj,W.heap[r]?=some o/\o.isCells=false)(hs:n0<=W.heap.size)(h:Below n0 w0 W):Below n0 w0 W':=
 h.grown hg hs (λk e=>qa8 hn (hr k e).1)
def ll (w:World)(D:Nat):Prop:=w.heap[D]?=some (.deferred (some []))
def ll.ext (k:aN w w')(h:ll w D):ll w' D:=k.heap h
def ll.put (k:dP w w' b)(hne:D≠b)(h:ll w D):ll w' D:=(k.block D hne).trans h
def ad3:=@ll.put
def ll.ne {cs:Array Value}(h:ll w D)(hb:ar w b t cs):D≠b:=λe=>by
 subst e;unfold ll at h;unfold ar at hb;rw[h]at hb;cases hb
def QI (P:Program)(gf:Nat)(lb:List Value)(m:Nat)(enc:Nat->List Value)(order:List Nat)(Kq:World->Prop)(w:World):Prop:=
 SeqStopsK Fence.wide 8 P gf lb.toArray (λi:{i:Nat // i<m}=>(enc i.1).toArray) (λA B=>Kq A->Kq B) (λxs=>xs.map (·.1)=order) (λxs=>xs.map (·.1) <+: order) m w
def ku (e:Nat->Value):List Nat->List Value->Nat->Value
 |p::ps,v::vs=>ku (upd e p v) ps vs
 |_,_=>e
def Nk {row:Option Nat}{B:Nat}(hg:W.grownBy W' row)(hr:∀r,row=some r->B<=r/\∃o:Obj,W.heap[r]?=some o/\o.isCells=false)(h:W.ownsRow lo et sz v k cs):W'.ownsRow lo et sz v k cs:=by
 obtain⟨hl,hv|⟨g,cap,G,rfl,H,E,r⟩⟩:=h
 · exact⟨hl,.inl hv⟩
 · exact⟨hl,.inr ⟨g,cap,G,rfl,H,(grownBy_keeps_cells hg (λr e=>(hr r e).2) E Z).trans E,r⟩⟩
def Ee (hK:ll w D)(h:w.ownsRow lo et sz v k cs):(w.putObj D (.deferred none)).ownsRow lo et sz v k cs:=by
 refine Nk (B:=0) (grownBy_putObj' w D _) (λr e=>?_) h
 cases e
 exact⟨qa7 _,_,hK,rfl⟩
def Nl (N:Nat)(e:Nat->Value)(d:Nat)(v:Value):(act N e []).tmps.setIfInBounds d v=(act N (upd e d v) []).tmps:=by
 have:=ax N e [] d v
 exact qb2 Act.tmps this
def oU (N:Nat):∀(ps:List Nat) (vs:List Value) (e:Nat->Value),(ps.zip vs).foldl (λt (x:Nat×Value)=>t.setIfInBounds x.1 x.2) (act N e []).tmps=(act N (ku e ps vs) []).tmps
 |[],vs,e=>by simp[ku]
 |p::ps,[],e=>by simp[ku]
 | p::ps,v::vs,e=>by
   simp only[List.zip_cons_cons,List.foldl_cons,ku]
   rw[Nl,oU N ps vs]
def roundPost (Kq:World->Prop)(k4:List Nat->World->Prop)(Ix:Code->List Nat->World->Prop)(xs:List Nat)(W:World):Exit->Act->World->Prop
 | .normal,_,W'=>KeepsOthers W W'/\(Kq W->Kq W')/\k4 xs W'
 | .ret,_,W'=>KeepsOthers W W'/\Ix .ret xs W'
 | .exit id,_,W'=>KeepsOthers W W'/\Ix (.exit id) xs W'
 |_,_,_=>False
def so {Q:Exit->Act->World->Prop}{m:Nat}{enc:Nat->List Value}{Kq:World->Prop}{g:Operand}{assign body:Code}(hg:ev N e g=.func (.func gf) #[] lb.toArray)(eg:Enters P gf)(hit:QI P gf lb m enc order Kq w)(hKq:Cl w.heap.size Kq)(hps:∀i,(enc i).length=ps.length)(qs:List Nat)(qv:Nat->List Value)(hassign:∀l x W K,K (act N (ku (ku e ps (enc x)) qs (qv x)) []) W->assign.wpIn (Fw (some l)) 7 P (Exit.then K (λ_ _ _=>False)) (act N (ku e ps (enc x)) []) W)(k4:List Nat->World->Prop)(Ix:Code->List Nat->World->Prop)(hI:∀xs,Cl w.heap.size (k4 xs))(hIx:∀c xs,Cl w.heap.size (Ix c xs))(h0:k4 [] w)(hbody:∀l pre x W,k4 pre W->(∀i∈pre,i<m)->x<m->pre.length<m->body.wpIn (Fw (some l)) 7 P (roundPost Kq k4 Ix (pre++[x]) W) (act N (ku (ku e ps (enc x)) qs (qv x)) []) W)(hdone:∀D W,w.heap.size<=D->k4 order W->ll W D->Q .normal (act N e (⟨.collected D,#[]⟩::ds)) W)(hstop:∀D c pre W,w.heap.size<=D->pre <+: order->Ix c pre W->ll W D->c.wpIn (Fw none) 9 P Q (act N e (⟨.collected D,#[]⟩::ds)) W):
 (Code.rangeFunc g ps.toArray assign body).wpIn (Fw none) 9 P Q (act N e ds) w:=by
 have A1:∀pre:List {i:Nat // i<m},∀i∈pre.map (·.1),i<m:=λpre i hi=>by
  obtain⟨x,_,rfl⟩:=List.mem_map.1 hi
  exact x.2
 refine wpIn_rangeFunc_ownF (F:=Fence.wide) (n:=9) (α:={i:Nat // i<m}) Z J (gf:=gf) (lb:=lb.toArray) (by rw[cS];exact hg) trivial eg (w0:=w) hit (λh k q=>k (h q))
  (λW l o o' hl ho hc _ q=>hKq W _ (some l) q (grownBy_putObj' W l o') (λr H=>by cases H;exact⟨hl,o,ho,hc⟩)) (Below.refl _ _) (λx=>by simpa using hps x.1)
  (λpre W=>k4 (pre.map (·.1)) W) (λc pre W=>Ix c (pre.map (·.1)) W) (λpre W W' row h=>hI (pre.map (·.1)) W W' row h) (λc pre W W' row h=>hIx c (pre.map (·.1)) W W' row h) h0
  (λx=>act N (ku (ku e ps (enc x.1)) qs (qv x.1)) []) (λl x W K hK=>?_) (λl pre x W hi A0=>?_) (λD xs W hD hS hi hK=>?_) (λD c pre W hD O hi hK=>?_)
 · have h:=hassign l x.1 W K hK
   have h2:({tmps:=(ps.toArray.zip (enc x.1).toArray).foldl (λt (p,v)=>t.setIfInBounds p v) (act N e ds).tmps,defers:=[]}:Act)=act N (ku e ps (enc x.1)) []:=by
    have h3:=oU N ps (enc x.1) e
    have:(act N (ku e ps (enc x.1)) [])=⟨(act N (ku e ps (enc x.1)) []).tmps,[]⟩:=rfl
    rw[this,<-h3]
    simp only[List.zip_toArray,List.foldl_toArray]
    rfl
   rw[h2]
   exact h
 · refine wpIn_mono (hbody l (pre.map (·.1)) x.1 W hi (A1 pre) x.2 (by simpa using A0)) ?_
   rintro ex a W3 E
   have G:(pre++[x]).map (·.1)=pre.map (·.1)++[x.1]:=by simp
   cases ex with
   |normal=>exact⟨E.1,E.2.1,by simp only[];rw[G];exact E.2.2⟩
   |ret=>exact⟨E.1,by simp only[];rw[G];exact E.2⟩
   |exit id=>exact⟨E.1,by simp only[];rw[G];exact E.2⟩
   |goto t=>exact E.elim
   |panic c=>exact E.elim
   |outgrown=>exact E.elim
 · exact hdone D W hD (by have h:xs.map (·.1)=order:=hS;rw[<-h];exact hi) hK
 · exact hstop D c _ W hD O hi hK
variable {c:Code}{R:Value->World->Prop}
def jE (args:List Value)(fn:Func):({tmps:=args.toArray++Array.replicate (fn.ntmps-args.toArray.size) undef,defers:=[]}:Act)=act (args.length+(fn.ntmps-args.length)) (H7 args) []:=by
 simp only[act,Act.mk.injEq,and_true]
 apply Array.ext
 · simp
 · intro i _ _
   simp only[Array.getElem_ofFn,H7]
   by_cases hi:i<args.length
   · simp[hi]
   · have h3:args.toArray.size<=i:=by simpa using hi
     rw[Array.getElem_append_right h3]
     simp[List.getElem?_eq_none (Nat.le_of_not_lt hi)]
def rt (hf:P.funcs[f]?=some fn)(hb:fn.body=some c)(h:c.wpIn (Fw none) 9 P (bodyPostM Fence.wide 9 P fn (aH w R)) (act (args.length+(fn.ntmps-args.length)) (H7 args) []) w):Calls P f args.toArray w (aH w R):=by
 refine oI (n:=9) (callsIn_of_wp_marks hf hb trivial ?_)
 rw[jE]
 exact h
def dK (w:World):dP w (w.putObj D (.deferred none)) D:=
 ⟨rfl,rfl,rfl,by simp,λk hk=>World.putObj_heap_other hk⟩
def jM (hK:ll w' D)(hr:(results fn (act N e [⟨.collected D,#[]⟩]).tmps).run P (w'.putObj D (.deferred none))=.ok v (w'.putObj D (.deferred none)))(hx:aN w (w'.putObj D (.deferred none)))(hR:R v (w'.putObj D (.deferred none))):bodyPostM Fence.wide 9 P fn (aH w R) .ret (act N e [⟨.collected D,#[]⟩]) w':=
 ⟨by simp,.inl ⟨D,_,rfl,run_takeDeferred hK,v,hr,hx,hR⟩⟩
def Nm {t:Nat}(hK:ll w' D)(hres:fn.results=#[.tmp t])(hx:aN w w')(hD:w.heap.size<=D)(hR:R v (w'.putObj D (.deferred none)))(hv:ev N e (.tmp t)=v):bodyPostM Fence.wide 9 P fn (aH w R) .ret (act N e [⟨.collected D,#[]⟩]) w':=
 jM hK (cC hres (aL hv _)) ((dK w').low hx hD) hR
def xC (hr:(results fn (act N e []).tmps).run P w'=.ok v w')(hx:aN w w')(hR:R v w'):bodyPostM Fence.wide 9 P fn (aH w R) .ret (act N e []) w':=
 ⟨v,hr,hx,hR⟩
def ar.dfr {cs:Array Value}(hK:ll w D)(h:ar w b t cs):ar (w.putObj D (.deferred none)) b t cs:=(dK w).blk (λe=>hK.ne h e.symm) h
def Rw.dfr {A:Option Addr}(hK:ll w D)(h:Rw w lo A cs):Rw (w.putObj D (.deferred none)) lo A cs:=by
 refine⟨λj u hu=>?_,h.lo,λG e=>by rw[(dK w).size];exact h.hi G e⟩
 obtain⟨b,o,e,hc⟩:=h.cells j u hu
 refine⟨b,o,e,?_⟩
 rw[<-hc]
 refine(dK w).cell ?_
 intro hb
 simp only at hb
 subst hb
 obtain⟨_,E,H⟩:=cells_of_cell hc
 rw[show w.heap[b]?=some (.deferred (some []))from hK]at E
 cases E;cases H
def xD {Q:Exit->Act->World->Prop}{l d ty:Nat}{pos:String}{af:Array Edge}{x:Operand}{R:Ending->World->Prop}(hx:ev N e x=.func (.yield l) #[] #[])(hv:xs.toList.map (ev N e)=vs)(hy:YieldAt Fence.wide 7 P l vs.toArray w R)(hk:∀c w',R c w'->match c with| .returned v=>K (act N (upd e d v) ds) w'|_=>False):Oper.wpIn (Fw none) 8 P ⟨some d,.call {callee:=.value x,args:=xs,argTypes:=ats},ty,pos,af,none⟩ (act N e ds) w K Q:=by
 subst hv
 obtain⟨fn,tmps,assign,body,hr,hR⟩:=hy
 have E:(xs.toList.map (ev N e)).toArray=xs.map (ev N e):=by rw[<-Array.toList_map,Array.toArray_toList]
 rw[E]at hr
 refine⟨λf _=>kE none f,?_⟩
 rw[iP Z,cS]
 have:(execOp (ev N e) ⟨some d,.call {callee:=.value x,args:=xs,argTypes:=ats},ty,pos,af,none⟩).run P w=.ok (.round l fn tmps assign body) w:=by
  simp[execOp,resolve,Deferred.ofValue,hx,invoke,hr]
 rw[this]
 refine⟨(λh=>by rw[l9]at h;cases h),hR.mono ?_⟩
 intro c w' h
 have:=hk c w' h
 cases c with
 |returned v=>simp only at this ⊢;rw[ax];exact this
 |panicked c=>exact this.elim
 |outgrown=>exact this.elim
def qC {F:Fence}{g:Nat}{R:Ending->World->Prop}{a:Value}(h:CallsIn F n P g (a::lb).toArray W R):CallsIn F n P g (#[a]++lb.toArray) W R:=by
 have:(#[a]++lb.toArray)=(a::lb).toArray:=by simp
 rw[this];exact h
def Ef {R:Ending->World->Prop}(hf:P.funcs[f]?=some fn)(hb:fn.body=some c)(h:c.wpIn (Fw none) 8 P (bodyPost P fn R) (act (args.length+(fn.ntmps-args.length)) (H7 args) []) w):CallsIn Fence.wide 8 P f args.toArray w R:=by
 refine callsIn_of_wp hf hb trivial ?_
 rw[jE]
 exact h
def Nn {R:Ending->World->Prop}(hres:fn.results=#[])(hR:∀v,R (.returned v) w'):bodyPost P fn R .ret (act N e []) w':=
 ⟨rfl,_,nh hres,hR _⟩
def sq {R:Ending->World->Prop}(hres:fn.results=#[])(hR:∀v,R (.returned v) w'):bodyPost P fn R .normal (act N e []) w':=
 ⟨rfl,_,nh hres,hR _⟩
def ru {k6 J' Kp:Prop}{c:Ending}(h:(c=.returned (.bool true)/\k6/\Kp)\/(c=.returned (.bool false)/\J')):∃q,c=.returned (.bool q)/\(q=true->k6/\Kp)/\(q=false->J'):=by
 rcases h with⟨h1,h2,h3⟩|⟨h1,h2⟩
 · exact⟨true,h1,λ_=>⟨h2,h3⟩,λh=>by cases h⟩
 · exact⟨false,h1,λh=>by(cases h),λ_=>h2⟩
end range
section
variable {P:Program}{r:Option Nat}{Q:Exit->Act->World->Prop}
variable {d ty:Nat}{pos:String}{af:Array Edge}{g:Option (Nat×Bool)}{x y:Operand}{t':TypeId}
def qt {k k':IntKind}{D:TypeDesc}(hs:P.underlying src=some D)(hd:P.underlying dst=some (.int k'))(hx:ev N e x=.int k a)(hc:k'.wrap a=c)(hk:K (act N (upd e d (.int k' c)) ds) w):
 Oper.wpIn (Fw r) n P ⟨some d,.convert src dst x,ty,pos,af,g⟩ (act N e ds) w K Q:=by
 refine cW (v:=.int k' c) (w':=w) Z ?_ Hx
 subst hc
 simp[execOp,hx,convert,run_underlying hs,run_underlying hd,Conv.intToInt]
def Wg {k k':IntKind}{b:Int}(hx:ev N e x=.int k a)(hy:ev N e y=.int k' b)(hb:0<=b/\b<=8)(hc:a/2^b.toNat=c)(hk:K (act N (upd e d (.int k c)) ds) w):
 Oper.wpIn (Fw r) n P ⟨some d,.binOp .shr t x y t',ty,pos,af,g⟩ (act N e ds) w K Q:=by
 refine dQ hx hy (ca ..) ?_ hk
 have h1:¬b<0:=J
 have h2:min b.toNat k.bits=b.toNat:=by
  have:8<=k.bits:=by cases k <;>decide
  omega
 subst hc
 simp only[binOp,Op.shift,h1,if_false,h2]
 simp[Int.fdiv_eq_ediv_of_nonneg _ (show(0:Int)<=2^b.toNat from Int.le_of_lt (Int.pow_pos J))]
def Eg {R:Value->World->Prop}(hf:Enters P f)(hx:ev N e x=.func (.func f) la.toArray #[])(hv:xs.toList.map (ev N e)=vs)(hc:Calls P f (la++vs).toArray w (aH w R))(hk:∀v w',aN w w'->R v w'->K (act N (upd e d v) ds) w'):Oper.wpIn (Fw r) n P ⟨some d,.call {callee:=.value x,args:=xs,argTypes:=ats},ty,pos,af,g⟩ (act N e ds) w K Q:=by
 subst hv
 have h2:la.toArray++xs.map (ev N e)=(la++xs.toList.map (ev N e)).toArray:=by simp
 refine sl (f:=f) (args:=la.toArray++xs.map (ev N e)) (R:=R) Z ?_ (by rw[h2];exact hc) (λv w' h1 h2=>by rw[ax];exact hk v w' h1 h2)
 simp[execOp,resolve,Deferred.ofValue,hx,invoke,hf _ _]
def Eh {m:Nat}{xs:List Value}(h:w.ownsRow base el sz (.slice (some ⟨b,0,none⟩) m m) m xs):ar w b el xs.toArray:=by
 obtain⟨hl,⟨hv,_⟩|⟨g,cap,H,hv,G,E,hc,hm,hs,ht⟩⟩:=h
 · cases hv
 · simp only[Value.slice.injEq]at hv
   obtain⟨hv,-,rfl⟩:=hv
   cases hv
   rw[List.take_of_length_le (by simp[hs])]at ht
   subst ht
   simpa[ar]using E
def Rw.of_blk {xs:List Value}(h:ar w b el xs.toArray)(hb:lo<=b):Rw w lo (some ⟨b,0,none⟩) xs:=by
 refine⟨λj u hu=>⟨b,0,rfl,?_⟩,λE e=>by cases e;exact hb,λE e=>by cases e;exact h.lt⟩
 rw[Nat.zero_add]
 exact h.cell (by simpa using hu)
def ae2:=@Rw.of_blk
def SX (p:Nat->Prop):List Nat->Prop
 |[]=>True
 |i::is=>p i/\SX p is
def zA {p:Nat->Prop}:∀{l:List Nat},SX p l->∀i∈l,p i
 | _::_,h,i,hi=>by
   rcases List.mem_cons.1 hi with rfl|hi
   · exact h.1
   · exact zA h.2 i hi
def Np {id:Nat}(hm:P.follows .mixedOrders=true)(h:wpAnyIn (Fw r) n P .any l.toArray Q l.length (Array.replicate l.length false) (act N e ds) w.drew):(Code.region id l.toArray true).wpIn (Fw r) n P Q (act N e ds) w:=
 wpIn_region_any hm h
def gY {listed:Array Bool}{is:List Nat}{a:Act}(hr:Region.ready .any l.toArray listed=i::is)(h:SX (λi=>wpOpIn (Fw r) n P l.toArray Q i (wpAnyIn (Fw r) n P .any l.toArray Q fuel (listed.setIfInBounds i true)) a w) (i::is)):wpAnyIn (Fw r) n P .any l.toArray Q (fuel+1) listed a w:=
 ⟨λG=>(by rw[hr]at G;cases G),λj E=>zA h j (by rw[hr]at E;exact E)⟩
def my {a:Act}{dst:Option Nat}{op:Op}(ho:l[i]?=some ⟨dst,op,ty,pos,af,none⟩)(h:Oper.wpIn (Fw r) n P ⟨dst,op,ty,pos,af,none⟩ a w K Q):wpOpIn (Fw r) n P l.toArray Q i K a w:=by
 unfold wpOpIn
 rw[List.getElem?_toArray,ho]
 simp only[Region.wanted,if_true]
 exact h
def Ei {listed:Array Bool}{a:Act}(hr:Region.ready .any l.toArray listed=[])(h:Q .normal a w):wpAnyIn (Fw r) n P .any l.toArray Q 0 listed a w:=⟨hr,h⟩
def wrap_i64 (h:-9223372036854775808<=a/\a<=9223372036854775807):IntKind.i64.wrap a=a:=k7 h
def wrap_u64 (h:0<=a/\a<=18446744073709551615):IntKind.u64.wrap a=a:=by
 have h1:a%18446744073709551616=a:=Int.emod_eq_of_lt h.1 J
 simp[IntKind.wrap,IntKind.bits,IntKind.signed,h1]
def Cf.ext {a:Addr}(k:aN w w')(h:w.cell? a=some v):w'.cell? a=some v:=k.cell h
def IP {k:IntKind}{b:Int}(hx:ev N e x=.int k a)(hy:ev N e y=.int k b)(hc:k.wrap (a-b)=c)(hk:K (act N (upd e d (.int k c)) ds) w):
 Oper.wpIn (Fw r) n P ⟨some d,.binOp .sub t x y t',ty,pos,af,g⟩ (act N e ds) w K Q:=
 dQ hx hy (ca ..) (by subst hc;simp[binOp,Op.intArith]) hk
def wrap_u8 (h:0<=a/\a<=255):IntKind.u8.wrap a=a:=by
 have h1:a%256=a:=Int.emod_eq_of_lt h.1 J
 simp[IntKind.wrap,IntKind.bits,IntKind.signed,h1]
def Wh {op:Op}{q:Bool}(hj:da l j=some s)(hv:ev N e (.tmp s)=undef)(hs:Nat.blt s N=true)(h:wpListIn (Fw r) n P l.toArray Q rest (act N (upd e dd undef) ds) w):wpListIn (Fw r) n P l.toArray Q (⟨some dd,op,ty,pos,af,some (j,q)⟩::rest) (act N e ds) w:=by
 have hj':(l.toArray[j]?).bind (·.dst)=some s:=by rw[List.getElem?_toArray];exact hj
 have hy:yielded l.toArray (act N e ds).tmps j=none:=by
  have h2:(act N e ds).eval (.tmp s)=undef:=by rw[cS];exact hv
  simp only[Act.eval]at h2
  have hs':s<(act N e ds).tmps.size:=by rw[Nat.blt_eq]at hs;simpa[act]using hs
  simp only[Array.getD,hs',dif_pos]at h2
  have h3:(act N e ds).tmps[s]?=some undef:=by rw[Array.getElem?_eq_getElem hs'];exact qb2 some h2
  unfold yielded;rw[hj',Option.bind_some,h3];rfl
 unfold wpListIn
 rw[if_neg (by simp[Region.wanted,hy])]
 exact⟨λf _=>kE r f,by rw[ax];exact h⟩
def dx {l:List UInt8}(h:i<l.length):l[i]?=some (l.getD i 0):=by rw[List.getElem?_eq_getElem h];simp[List.getD,h]
def tu {o:Nat}(hx:ev N e x=.pointer (some ⟨b,o,none⟩))(hk:K (act N (upd e d (.pointer (some ⟨b,o,none⟩))) ds) w):
 Oper.wpIn (Fw r) n P ⟨some d,.nilCheck x,ty,pos,af,g⟩ (act N e ds) w K Q:=by
 refine cW (v:=.pointer (some ⟨b,o,none⟩)) (w':=w) Z ?_ Hx
 simp[execOp,hx]
def j9 {l:List UInt8}{m:Nat}(hu:P.underlying t=some .string)(hx:ev N e x=S l)(hm:l.length=m)(hk:K (act N (upd e d (.int .i64 ((m:Nat):Int))) ds) w):
 Oper.wpIn (Fw r) n P ⟨some d,.call {callee:=.builtin .len,args:=#[x],argTypes:=#[t]},ty,pos,af,g⟩ (act N e ds) w K Q:=
 dz (l:=l) hu hx (by rw[hm];exact hk)
def bO :W.ownsRow base et sz (.slice none 0 0) 0 []:=⟨by simp,.inl ⟨rfl,rfl⟩⟩
def br (h:W.ownsRow base et sz v k cs):v.ownBlock≠some W.heap.size:=by
 obtain⟨hl,⟨rfl,_⟩|⟨g,cap,H,rfl,G,E,_⟩⟩:=h
 · simp[Value.ownBlock]
 · have:g<W.heap.size:=(Array.getElem?_eq_some_iff.1 E).1
   simp[Value.ownBlock];omega
def aS (ha:v'.ownBlock=v.ownBlock\/v'.ownBlock=some W.heap.size)(hn:v.ownBlock≠some b)(hb:b<W.heap.size):v'.ownBlock≠some b:=by
 rcases ha with h|h
 · rw[h];exact hn
 · rw[h];simp;omega
def ay (v u:Value):Prop:=∀g,v.ownBlock=some g->u.ownBlock≠some g
def ay.symm (h:ay v u):ay u v:=λg E e=>h g e E
def aa4:=@ay.symm
def ay.nil {c:Nat}:ay (.slice none n c) u:=λg E=>by simp[Value.ownBlock]at E
def ad2:=@ay.nil
def ay.app (ha:v'.ownBlock=v.ownBlock\/v'.ownBlock=some W.heap.size)(hn:ay v u)(hu:W.ownsRow base et sz u k cs):ay v' u:=by
 intro g E
 rcases ha with h|h
 · exact hn g (by rw[<-h];exact E)
 · rw[h]at E;cases E;exact br hu
def ab1:=@ay.app
def ay.gr (hn:ay v u)(hg:W.grownBy W' v.ownBlock)(h:W.ownsRow base et sz u k cs):W'.ownsRow base et sz u k cs:=
 nK hg (λg h1 h2=>hn g h2.symm h1) h
def ab5:=@ay.gr
def aR (h:W.ownsRow base et sz v k cs):∀g,v.ownBlock=some g->base<=g:=by
 obtain⟨hl,⟨rfl,_⟩|⟨g,cap,G,rfl,E,H,_⟩⟩:=h
 · simp[Value.ownBlock]
 · intro _ e;simp[Value.ownBlock]at e;omega
def bB {B:Nat}(h:W.ownsRow base et sz v k cs)(hB:B<=base)(hBw:B<=W.heap.size)(hE:Below B W0 W)(hg:W.grownBy W' v.ownBlock):Below B W0 W':=
 cR hE hg hBw (λg e=>qa8 hB (aR h g e))
def aP (h:W.ownsRow base et sz v k cs)(hk:k=k')(hc:cs=cs'):W.ownsRow base et sz v k' cs':=by subst hk hc;exact h
def bV (h:W.ownsRow base et sz v k cs):v.oneCell'=true:=by
 obtain⟨hl,⟨rfl,_⟩|⟨g,cap,E,rfl,_⟩⟩:=h <;>rfl
def kv (R:Value->World->Prop):Ending->World->Prop
 | .returned v,w'=>R v w'
 |_,_=>False
def bK {R:Value->World->Prop}(hf:Enters P f)(hv:xs.toList.map (ev N e)=vs)(hc:Calls P f vs.toArray w (kv R))(hk:∀v w',R v w'->K (act N (upd e d v) ds) w'):Oper.wpIn (Fw r) n P ⟨some d,.call {callee:=.value (.func f),args:=xs,argTypes:=ats},ty,pos,af,g⟩ (act N e ds) w K Q:=by
 subst hv
 refine⟨λf _=>kE r f,?_⟩
 have hs:(execOp (ev N e) ⟨some d,.call {callee:=.value (.func f),args:=xs,argTypes:=ats},ty,pos,af,g⟩).run P w=.ok (.enter f (xs.map (ev N e))) w:=by
  simp[execOp,resolve,Deferred.ofValue,ev,invoke,hf _ _]
 rw[iP Z,cS,hs]
 refine⟨(λh=>by rw[l9]at h;cases h),oH ((show Calls P f (xs.map (ev N e)) w (kv R)from by have h:=hc;rwa [show(xs.toList.map (ev N e)).toArray=xs.map (ev N e)by rw[<-Array.toList_map,Array.toArray_toList]]at h).mono ?_)⟩
 intro e' w' h
 cases e' with
 | returned v=>
   show K ((act N e ds).put (some d) v) w'
   rw[ax];exact hk v w' h
 |panicked c=>exact h.elim
 |outgrown=>exact h.elim
def Ej {args:Array Value}{R:Ending->World->Prop}{Q:Value->World->Prop}(h:Calls P f args w R)(hq:∀e w',R e w'->∃v,e=.returned v/\Q v w'):Calls P f args w (kv Q):=
 h.mono (by
  intro e w' hR
  obtain⟨v,rfl,h2⟩:=hq e w' hR
  exact h2)
def ln {C:World}{row:Option Nat}(h:A.grownBy B row)(k:aN B C):A.grownBy C row:=
 ⟨k.os.trans h.os,k.tape.trans h.tape,k.output.trans h.output,qa8 h.size k.size,λi hi hr=>(k.block i (qb1 hi h.size)).trans (h.block i hi hr)⟩
def Cm {C:World}(h:A.grownBy B (some b))(k:dP B C b):A.grownBy C (some b):=
 ⟨k.os.trans h.os,k.tape.trans h.tape,k.output.trans h.output,by rw[k.size];exact h.size,λi hi hr=>(k.block i (λe=>hr (by rw[e]))).trans (h.block i hi hr)⟩
def jt {C:World}{row:Option Nat}(h:A.grownBy B row)(k:dP B C b)(hb:A.heap.size<=b):A.grownBy C row:=
 ⟨k.os.trans h.os,k.tape.trans h.tape,k.output.trans h.output,by rw[k.size];exact h.size,λi hi hr=>(k.block i J).trans (h.block i hi hr)⟩
def gC {C:World}{row:Option Nat}(h:A.grownBy B row)(k:B.grownBy C row):A.grownBy C row:=
 ⟨k.os.trans h.os,k.tape.trans h.tape,k.output.trans h.output,qa8 h.size k.size,λi hi hr=>(k.block i (qb1 hi h.size) hr).trans (h.block i hi hr)⟩
def zB {c:Code}{R:Value->World->Prop}(hf:P.funcs[f]?=some fn)(hb:fn.body=some c)(h:c.wpIn (Fw none) 0 P (bodyPost P fn (kv R)) (act (args.length+(fn.ntmps-args.length)) (H7 args) []) w):Calls P f args.toArray w (kv R):=by
 refine oI (n:=0) (callsIn_of_wp hf hb trivial ?_)
 rw[jE]
 exact h
def gZ {R:Value->World->Prop}(hr:(results fn (act N e []).tmps).run P w'=.ok v w')(hR:R v w'):bodyPost P fn (kv R) .ret (act N e []) w':=
 ⟨rfl,v,hr,hR⟩
def SY {R:Value->World->Prop}(hr:(results fn (act N e []).tmps).run P w'=.ok v w')(hR:R v w'):bodyPost P fn (kv R) .normal (act N e []) w':=
 ⟨rfl,v,hr,hR⟩
end
section draws
variable {P:Program}{r:Option Nat}{e0:Nat->Value}{Q:Exit->Act->World->Prop}{ops:Array Oper}{M:Nat}
def Nq {id:Nat}(hm:P.follows .mixedOrders=true)(M:Nat)(R:World->World->Prop)(hR0:∀w,R w w.drew)(hRt:∀a b c,R a b->R b c->R a c)(Φ:Nat->Value->World->Prop)(hΦ:∀i v w w',R w w'->Φ i v w->Φ i v w')(k6:(Nat->Bool)->World->Prop)(hJ0:k6 (λ_=>false) w0.drew)(hwf:∀(i:Nat) (o:Oper),l.toArray[i]?=some o->∀e∈o.after,Region.binds .any e=true->e.on<i)(hshape:Region.sinkB .any l.toArray M=true/\Region.chainB .any l.toArray M=true/\M<l.toArray.size\/M=l.toArray.size)(hdst:∀i j d,i<M->j<M->(l.toArray[i]?).bind (·.dst)=some d->(l.toArray[j]?).bind (·.dst)=some d->i=j)(hstep:∀(i:Nat) (o:Oper),i<M->l.toArray[i]? =some o->∀(e:Nat->Value) (w:World) (ls:Nat->Bool),k6 ls w->(∀j oj,l.toArray[j]? =some oj->ls j=true->∀ed∈oj.after,Region.binds .any ed=true->ls ed.on=true)->ls i=false->(∀ed∈o.after,Region.binds .any ed=true->ls ed.on=true)->R w0 w->(∀t,(∀j,j<M->(l.toArray[j]?).bind (·.dst)≠some t)->e t=e0 t)->
 (∀j,(∃ed∈o.after,Region.binds .any ed=true/\ed.on=j)->∀d,(l.toArray[j]?).bind (·.dst)=some d->Φ j (e d) w)->
 wpListIn (Fw r) n P l.toArray (λx a' w'=>x=.normal/\∃v,a'=(act N e ds).put o.dst v/\R w w'/\Φ i v w'/\k6 (λj=>if j=i then true else ls j) w') [o] (act N e ds) w)(hfin:∀(e:Nat->Value) (w:World),(∃ls:Nat->Bool,(∀j,j<M->ls j=true)/\k6 ls w)->R w0 w->(∀t,(∀j,j<M->(l.toArray[j]?).bind (·.dst)≠some t)->e t=e0 t)->
 (∀j d,j<M->(l.toArray[j]?).bind (·.dst)=some d->Φ j (e d) w)->wpListIn (Fw r) n P l.toArray Q (l.drop M) (act N e ds) w):
 (Code.region id l.toArray true).wpIn (Fw r) n P Q (act N e0 ds) w0:=by
 have hMle:M<=l.toArray.size:=by rcases hshape with⟨_,_,h⟩|h <;>omega
 have hchain:Region.chainB .any l.toArray M=true:=by
  rcases hshape with⟨_,h,_⟩|h
  · exact h
  · refine List.all_eq_true.2 λt ht=>?_
    have:=List.mem_range.1 ht
    simp only[Bool.or_eq_true,decide_eq_true_eq]
    left;omega
 refine wpIn_region_any hm ?_
 have main : ∀ (fuel:Nat) (listed:Array Bool) (e:Nat->Value) (w:World),left l.toArray listed<=fuel->HeadInv .any l.toArray M listed->k6 (λj=>listed.getD j false) w->R w0 w->
  (∀t,(∀j,j<M->(l.toArray[j]?).bind (·.dst)≠some t)->e t=e0 t)->
  (∀j d,j<M->listed.getD j false=true->(l.toArray[j]?).bind (·.dst)=some d->Φ j (e d) w)->
  wpAnyIn (Fw r) n P .any l.toArray Q fuel listed (act N e ds) w:=by
  intro fuel
  induction fuel with
  | zero=>
    intro listed e w hf inv hJ hR hs hφ
    have A1:∀i,i<l.toArray.size->listed.getD i false=true:=by
     intro i hi
     cases hb:listed.getD i false with
     |true=>rfl
     | false=>
       have:=kG hi inv.size hb
       omega
    refine kF hchain hwf 0 l.toArray.size listed _ w 0 Z hMle inv.size A1 (λi h1 h2=>by omega) (qa0 _) ?_
    by_cases hM:M=l.toArray.size
    · have h:=hfin e w ⟨_,λj E=>A1 j J,hJ⟩ hR hs (λj d E hd=>hφ j d E (A1 j J) hd)
      rw[hM]at h
      simpa using h
    · have h1:=inv.tail M (qa0 _) J
      have h2:=A1 M J
      rw[getD_both h1]at h2
      cases h2
  | succ fuel ih=>
    intro listed e w hf inv hJ hR hs hφ
    by_cases hdone:∀i,i<M->listed.getD i false=true
    · refine kF hchain hwf (l.toArray.size-M) M listed _ w (fuel+1) J (qa0 _) inv.size hdone (λi h1 h2=>inv.tail i h1 h2) ?_ ?_
      · have h1:l.toArray.size-M<=left l.toArray listed:=qx hMle (λi h1 h2=>getD_both (inv.tail i h1 h2))
        omega
      · simpa using hfin e w ⟨_,λj E=>hdone j E,hJ⟩ hR hs (λj d E hd=>hφ j d E (hdone j E) hd)
    · have hex:∃i,i<M/\listed.getD i false=false:=by
       refine qb6 λAb=>hdone λi hi=>?_
       cases hb:listed.getD i false with
       |true=>rfl
       |false=>exact absurd ⟨i,hi,hb⟩ Ab
      obtain⟨Af,Ap,Am⟩:=hex
      have Ar:∀i∈Region.ready .any l.toArray listed,i<M:=by
       intro i hi
       rcases Nat.lt_or_ge i M with h|h
       · exact h
       · rcases hshape with⟨h1,h2,h3⟩|h3
         · exact absurd hi (tail_waits h1 h2 h3 inv _ Af Z Ap (getD_in (by rw[inv.size];omega) Am) i h)
         · obtain⟨_,o,ho,_⟩:=mem_ready.1 hi
           have:=(Array.getElem?_eq_some_iff.1 ho).1
           omega
      refine⟨λAs=>?_,λi hi=>?_⟩
      ·
       exfalso
       have least:∀k i,i<=k->i<l.toArray.size->listed.getD i false=false->∃j,j∈Region.ready .any l.toArray listed:=by
        intro k
        induction k with
        | zero=>
          intro i hi hl hb
          obtain rfl:i=0:=J
          refine⟨0,mem_ready.2 ⟨getD_in ka0 hb,l.toArray[0],Array.getElem?_eq_getElem hl,λed H A0=>?_⟩⟩
          have:=hwf 0 _ (Array.getElem?_eq_getElem hl) ed H A0
          omega
        | succ k ihk=>
          intro i hi hl hb
          by_cases hp:∀ed∈(l.toArray[i]).after,Region.binds .any ed=true->listed.getD ed.on false=true
          · exact⟨i,mem_ready.2 ⟨getD_in ka0 hb,l.toArray[i],Array.getElem?_eq_getElem hl,hp⟩⟩
          · have:∃ed∈(l.toArray[i]).after,Region.binds .any ed=true/\listed.getD ed.on false=false:=by
             refine qb6 λAb=>hp λed H A0=>?_
             cases hb:listed.getD ed.on false with
             |true=>rfl
             |false=>exact absurd ⟨ed,H,A0,hb⟩ Ab
            obtain⟨ed,H,A0,A2⟩:=this
            have hlt:=hwf i _ (Array.getElem?_eq_getElem hl) ed H A0
            exact ihk ed.on J J A2
       obtain⟨j,E⟩:=least Af Af (qa0 _) J Am
       rw[As]at E
       cases E
      · have hiM:=Ar i hi
        obtain⟨A2,o,ho,hpred⟩:=mem_ready.1 hi
        have O:=hstep i o hiM ho e w (λj=>listed.getD j false) hJ (λj oj E hl=>inv.closed j oj E hl) (getD_both A2) hpred hR hs (λj ⟨ed,H,hb,Av⟩ d hd=>hφ j d (by have:=hwf i o ho ed H hb;omega) (by rw[<-Av];exact hpred ed H hb) hd)
        have hnext:∀a' w',(∃v,a'=(act N e ds).put o.dst v/\R w w'/\Φ i v w'/\k6 (λj=>if j=i then true else listed.getD j false) w')->wpAnyIn (Fw r) n P .any l.toArray Q fuel (listed.setIfInBounds i true) a' w':=by
         rintro a' w' ⟨v,rfl,hR',hv,hJ'⟩
         have Ax:i<l.toArray.size:=J
         have hJ2:k6 (λj=>(listed.setIfInBounds i true).getD j false) w':=by
          have e:(λj=>(listed.setIfInBounds i true).getD j false)=(λj=>if j=i then true else listed.getD j false):=by
           funext j
           by_cases E:j=i
           · subst E;rw[if_pos Z];have:=inv.size;simp[Array.getD,this];omega
           · rw[if_neg E,getD_set_ne false (λh=>E h.symm)]
          rw[e];exact hJ'
         have Ao:left l.toArray (listed.setIfInBounds i true)<=fuel:=by
          have:=kG Ax inv.size (getD_both A2)
          omega
         cases hd:o.dst with
         | none=>
           refine ih _ e w' Ao (inv.set hi hiM) hJ2 (hRt _ _ _ hR hR') hs (λj d E hl G=>?_)
           by_cases hij:i=j
           · subst hij;rw[ho]at G;simp[hd]at G
           · rw[getD_set_ne false hij]at hl;exact hΦ _ _ _ _ hR' (hφ j d E hl G)
         | some d0=>
           rw[ax]
           refine ih _ _ w' Ao (inv.set hi hiM) hJ2 (hRt _ _ _ hR hR') (λt ht=>?_) (λj d E hl G=>?_)
           · have:t≠d0:=λh=>ht i hiM (by rw[ho];simp[hd,h])
             rw[upd_ne _ _ this];exact hs t ht
           · by_cases hij:i=j
             · subst hij
               rw[ho]at G
               simp only[Option.bind_some,hd,Option.some.injEq]at G
               subst G
               rw[kt];exact hv
             · rw[getD_set_ne false hij]at hl
               have Aw:d≠d0:=λh=>hij (hdst i j d hiM E (by rw[ho];simp[hd,h]) G)
               rw[upd_ne _ _ Aw]
               exact hΦ _ _ _ _ hR' (hφ j d E hl G)
        unfold wpOpIn
        rw[ho]
        dsimp only
        unfold wpListIn at O
        split
        · rename_i hw
          rw[if_pos hw]at O
          exact iu (λa' w' Aq=>hnext a' w' Aq.2) (λc a w h=>by cases h.1) (λa w h=>by cases h.1) O
        · rename_i hw
          rw[if_neg hw]at O
          exact⟨O.1,hnext _ _ O.2.2⟩
 refine main _ _ e0 w0.drew ?_ ⟨by simp,λj oj E hl=>?_,λt h1 h2=>?_⟩ ((congrArg (λf=>k6 f w0.drew) (funext λj=>getD_replicate_false _ j)).mpr hJ0) (hR0 w0) (λ_ _=>rfl) (λj d E hl=>?_)
 · unfold left
   exact qa8 (List.length_filter_le _ _) zd
 · rw[getD_replicate_false]at hl;cases hl
 · have h3:t<l.length:=by simpa using h2
   simp[h3]
 · rw[getD_replicate_false]at hl;cases hl
def nA (C:List Nat)(i:Nat):Option Nat:=C.findIdx? (Nat.beq i)
def SZ (l:List Oper)(C:List Nat):Bool:=(List.range C.length).all λp=>match C[p]? with
 |none=>false
 |some c=>Nat.beq p 0||(match C[p-1]?,l[c]? with|some c',some o=>ci o c'|_,_=>false)
def nodupB (C:List Nat):Bool:=(List.range C.length).all λp=>(List.range C.length).all λq=>Nat.beq p q||(match C[p]?,C[q]? with|some a,some b=>!Nat.beq a b|_,_=>true)
def cnt (C:List Nat)(ls:Nat->Bool):Nat:=(C.filter ls).length
def IQ (r:Option Nat)(n:Nat)(P:Program)(N:Nat)(ds:List Deferred)(l:List Oper)(M:Nat)(R:World->World->Prop)(Φ:List (Value->World->Prop))(C:List Nat)(k4:Nat->World->Prop)(e0:Nat->Value)(w0:World):Nat->List Oper->List (Value->World->Prop)->Prop
 |_,[],_=>True
 |_,_::_,[]=>False
 |i,o::os,φ::φs=>(∀(e:Nat->Value) (w:World) (k:Nat),k4 k w->(∀p,nA C i=some p->k=p)->R w0 w->(∀t,lT l M t=false->e t=e0 t)->(∀j d,ci o j=true->da l j=some d->phi Φ j (e d) w)->
  wpListIn (Fw r) n P l.toArray (λx a' w'=>x=.normal/\∃v,a'=(act N e ds).put o.dst v/\R w w'/\φ v w'/\k4 (match nA C i with|some p=>p+1|none=>k) w') [o] (act N e ds) w)/\IQ r n P N ds l M R Φ C k4 e0 w0 (i+1) os φs
theorem wj {l:List Oper}{R:World->World->Prop}{Φ:List (Value->World->Prop)}{C:List Nat}{k4:Nat->World->Prop}:∀(os:List Oper) (φs:List (Value->World->Prop)) (i0:Nat),IQ r n P N ds l M R Φ C k4 e0 w0 i0 os φs->∀i o,os[i]?=some o->
 (∀(e:Nat->Value) (w:World) (k:Nat),k4 k w->(∀p,nA C (i0+i)=some p->k=p)->R w0 w->(∀t,lT l M t=false->e t=e0 t)->(∀j d,ci o j=true->da l j=some d->phi Φ j (e d) w)->
  wpListIn (Fw r) n P l.toArray (λx a' w'=>x=.normal/\∃v,a'=(act N e ds).put o.dst v/\R w w'/\phi φs i v w'/\k4 (match nA C (i0+i)with|some p=>p+1|none=>k) w') [o] (act N e ds) w)
 |[],_,_,_,i,o,h=>by simp at h
 |o'::os,[],_,h,i,o,ho=>h.elim
 |o'::os,φ::φs,i0,h,0,o,ho=>by simp at ho;subst ho;exact h.1
 | o'::os,φ::φs,i0,h,i+1,o,ho=>by
   have:=wj os φs (i0+1) h.2 i o (by simpa using ho)
   rw[show i0+1+i=i0+(i+1)by omega]at this
   simpa only[phi,List.getElem?_cons_succ]using this
def tv (h:nA C i=some p):C[p]?=some i:=by
 unfold nA at h
 obtain⟨h1,h2,_⟩:=List.findIdx?_eq_some_iff_getElem.1 h
 rw[List.getElem?_eq_getElem h1,Nat.eq_of_beq_eq_true h2]
def Cn (h:nA C i=none):i∉C:=by
 unfold nA at h
 rw[List.findIdx?_eq_none_iff]at h
 intro hm
 have:=h i hm
 simp at this
def Nr (h:i∉C):cnt C (λj=>if j=i then true else ls j)=cnt C ls:=by
 unfold cnt
 congr 1
 apply List.filter_congr
 intro x hx
 rw[if_neg (λe=>h (by rw[<-e];exact hx))]
def Ns (h:∀c∈C,ls c=true):cnt C ls=C.length:=by
 unfold cnt;rw[List.filter_eq_self.2 h]
def wk (hp:p<=C.length)(h1:∀q c,q<p->C[q]?=some c->ls c=true)(h2:∀q c,p<=q->C[q]?=some c->ls c=false):cnt C ls=p:=by
 have e:C.filter ls=(C.take p).filter ls++(C.drop p).filter ls:=by rw[<-List.filter_append,List.take_append_drop]
 unfold cnt
 rw[e,List.length_append]
 have e1:(C.take p).filter ls=C.take p:=List.filter_eq_self.2 (λc hc=>by
  obtain⟨q,hq⟩:=List.mem_iff_getElem?.1 hc
  rw[List.getElem?_take]at hq
  split at hq
  · next hlt=>exact h1 q c hlt hq
  · cases hq)
 have e2:(C.drop p).filter ls=[]:=List.filter_eq_nil_iff.2 (λc hc=>by
  obtain⟨q,hq⟩:=List.mem_iff_getElem?.1 hc
  rw[List.getElem?_drop]at hq
  rw[h2 (p+q) c J hq];simp)
 rw[e1,e2];simp;omega
def IR (hlink:∀p c c',C[p]?=some c'->C[p+1]?=some c->∃o,l[c]?=some o/\∃ed∈o.after,Region.binds .any ed=true/\ed.on=c')(hcl:∀j oj,l.toArray[j]?=some oj->ls j=true->∀ed∈oj.after,Region.binds .any ed=true->ls ed.on=true)(hget:∀j:Nat,l.toArray[j]?=l[j]?)(hni:ls i=false)(hpi:C[p]?=some i):∀q c,p<=q->C[q]?=some c->ls c=false:=by
 have A1:∀d q c,C[q]?=some c->p+d=q->ls c=false:=by
  intro d
  induction d with
  | zero=>
    intro q c hq G
    have:c=i:=by rw[show q=p by omega,hpi]at hq;exact(qb5 hq).symm
    rw[this];exact hni
  | succ d ih=>
    intro q c hq G
    have E:p+d<C.length:=by have:=(List.getElem?_eq_some_iff.1 hq).1;omega
    obtain⟨A2,H,ed,A0,hb,O⟩:=hlink (p+d) c (C[p+d]) (qa5 E) (by rw[show p+d+1=q by omega];exact hq)
    have Ab:=ih (p+d) _ (qa5 E) Z
    cases hc:ls c with
    |false=>rfl
    | true=>
      have:=hcl c A2 (by rw[hget];exact H) hc ed A0 hb
      rw[O,Ab]at this
      cases this
 exact λq c hq hc=>A1 (q-p) q c hc J
def cnt_lt {o:Oper}(hlink:∀p c c',C[p]?=some c'->C[p+1]?=some c->∃o,l[c]?=some o/\∃ed∈o.after,Region.binds .any ed=true/\ed.on=c')(hcl:∀j oj,l.toArray[j]?=some oj->ls j=true->∀ed∈oj.after,Region.binds .any ed=true->ls ed.on=true)(hget:∀j:Nat,l.toArray[j]?=l[j]?)(hpi:C[p]?=some i)(ho:l[i]?=some o)(hpr:∀ed∈o.after,Region.binds .any ed=true->ls ed.on=true):∀q c,q<p->C[q]?=some c->ls c=true:=by
 have A1:∀d q c,C[q]?=some c->q+d=p->0<d->ls c=true:=by
  intro d
  induction d with
  |zero=>intro q c _ _ Am;omega
  | succ d ih=>
    intro q c hq Af _
    have G:q+1<C.length:=by have:=(List.getElem?_eq_some_iff.1 hpi).1;omega
    obtain⟨A2,E,ed,O,hb,H⟩:=hlink q (C[q+1]) c hq (qa5 G)
    by_cases hd:d=0
    · subst hd
      have:C[q+1]=i:=by
       have A0:C[q+1]?=some i:=by rw[show q+1=p by omega];exact hpi
       rw[List.getElem?_eq_getElem G]at A0
       exact qb5 A0
      rw[this,ho]at E
      cases E
      have:=hpr ed O hb
      rwa [H]at this
    · have Ab:=ih (q+1) (C[q+1]) (qa5 G) J J
      have:=hcl _ A2 (by rw[hget];exact E) Ab ed O hb
      rwa [H]at this
 exact λq c hq hc=>A1 (p-q) q c hc J J
def tw {o:Oper}{a:Act}(h:wpListIn (Fw r) n P l.toArray (λx a w=>x=.normal/\K1 a w) [o] a w)(hk:∀a w,K1 a w->K2 a w):wpListIn (Fw r) n P l.toArray (λx a w=>x=.normal/\K2 a w) [o] a w:=by
 unfold wpListIn at h ⊢
 split
 · rename_i hw
   rw[if_pos hw]at h
   exact iu (λa' w' E=>⟨E.1,hk _ _ E.2⟩) (λc a w h=>by cases h.1) (λa w h=>by cases h.1) h
 · rename_i hw
   rw[if_neg hw]at h
   exact⟨h.1,h.2.1,hk _ _ h.2.2⟩
def S1 {id:Nat}(hm:P.follows .mixedOrders=true)(M:Nat)(R:World->World->Prop)(hR0:∀w,R w w.drew)(hRt:∀a b c,R a b->R b c->R a c)(Φ:List (Value->World->Prop))(hΦ:xj R Φ)(hwf:M3 l=true)(hshape:iv l M=true)(hdst:H9 l M=true)(C:List Nat)(hC:SZ l C=true)(hN:nodupB C=true)(hCM:(C.all λc=>Nat.blt c M)=true)(k4:Nat->World->Prop)(hI0:k4 0 w0.drew)(hstep:IQ r n P N ds l M R Φ C k4 e0 w0 0 (l.take M) Φ)(hfin:∀(e:Nat->Value) (w:World),k4 C.length w->R w0 w->(∀t,lT l M t=false->e t=e0 t)->(∀j d,Nat.blt j M=true->da l j=some d->phi Φ j (e d) w)->wpListIn (Fw r) n P l.toArray Q (l.drop M) (act N e ds) w):
 (Code.region id l.toArray true).wpIn (Fw r) n P Q (act N e0 ds) w0:=by
 have G:∀j:Nat,l.toArray[j]?=l[j]?:=λj=>by rw[List.getElem?_toArray]
 have Am:∀t,lT l M t=false->∀j,j<M->(l.toArray[j]?).bind (·.dst)≠some t:=by
  intro t ht j A0 h
  rw[G]at h
  cases ho:l[j]? with
  |none=>rw[ho]at h;cases h
  | some o=>
    rw[ho]at h
    simp only[Option.bind_some]at h
    have h1:=List.any_eq_false.1 ht o (List.mem_iff_getElem?.2 ⟨j,by rw[List.getElem?_take,if_pos A0];exact ho⟩)
    rw[h]at h1
    simp at h1
 have hlink:∀p c Af,C[p]?=some Af->C[p+1]?=some c->∃o,l[c]?=some o/\∃O∈o.after,Region.binds .any O=true/\O.on=Af:=by
  intro p c Af h1 h2
  have h3:=List.all_eq_true.1 hC (p+1) (List.mem_range.2 (List.getElem?_eq_some_iff.1 h2).1)
  rw[h2]at h3
  simp only[Nat.add_sub_cancel,h1]at h3
  cases ho:l[c]? with
  |none=>rw[ho]at h3;simp at h3
  | some o=>
    rw[ho]at h3
    simp at h3
    obtain⟨O,A1,hb⟩:=List.any_eq_true.1 h3
    simp only[Bool.and_eq_true]at hb
    exact⟨o,rfl,O,by simpa using A1,hb.1,Nat.eq_of_beq_eq_true hb.2⟩
 have Aw:∀p q c:Nat,C[p]?=some c->C[q]?=some c->p=q:=by
  intro p q c h1 h2
  have h3:=List.all_eq_true.1 (List.all_eq_true.1 hN p (List.mem_range.2 (List.getElem?_eq_some_iff.1 h1).1)) q (List.mem_range.2 (List.getElem?_eq_some_iff.1 h2).1)
  rw[h1,h2]at h3
  simp at h3
  exact h3
 refine Nq hm M R hR0 hRt (phi Φ) (nL hΦ) (λls w=>k4 (cnt C ls) w) ?_ ?_ ?_ ?_ ?_ ?_
 · have:cnt C (λ_=>false)=0:=by unfold cnt;rw[List.filter_eq_nil_iff.2 zd];rfl
   rw[this];exact hI0
 · intro i o ho O A1 hb
   rw[G]at ho
   have h1:=List.all_eq_true.1 hwf i (List.mem_range.2 (List.getElem?_eq_some_iff.1 ho).1)
   rw[ho]at h1
   have h2:=List.all_eq_true.1 h1 O (by simpa using A1)
   simp only[hb,Bool.not_true,Bool.false_or]at h2
   rwa [Nat.blt_eq]at h2
 · simp only[iv,Bool.or_eq_true,Bool.and_eq_true]at hshape
   rcases hshape with⟨⟨h1,h2⟩,h3⟩|h
   · rw[Nat.blt_eq]at h3;exact .inl ⟨h1,h2,by simpa using h3⟩
   · exact .inr Fm
 · intro i j d hi A0 Ap Ao
   have h1:=List.all_eq_true.1 (List.all_eq_true.1 hdst i (List.mem_range.2 hi)) j (List.mem_range.2 A0)
   rw[G]at Ap Ao
   simp only[da,Ap,Ao,Bool.or_eq_true]at h1
   rcases h1 with h1|h1
   · exact qb4 h1
   · simp at h1
 · intro i o hi ho e w ls hJ Ab Ar Aq hR hs hφ
   have ho':=ho
   rw[G]at ho
   have hk:∀p,nA C i=some p->cnt C ls=p:=by
    intro p E
    have H:=tv E
    refine wk (Nat.le_of_lt (List.getElem?_eq_some_iff.1 H).1) (cnt_lt hlink Ab G H ho Aq) (IR hlink Ab G Ar H)
   have h1:=wj (l.take M) Φ 0 hstep i o (by rw[List.getElem?_take,if_pos hi];exact ho) e w (cnt C ls) hJ (λp E=>hk p (by rw[Nat.zero_add]at E;exact E)) hR (λt ht=>hs t (Am t ht)) (λj d E hd=>?_)
   · refine tw h1 ?_
     rintro _ w' ⟨v,As,hR',hv,hI'⟩
     refine⟨v,As,hR',hv,?_⟩
     rw[Nat.zero_add]at hI'
     cases E:nA C i with
     |none=>rw[E]at hI';show k4 (cnt C _) w';rw[Nr (Cn E)];exact hI'
     | some p=>
       rw[E]at hI'
       have Ay:=hk p E
       have H:=tv E
       show k4 (cnt C _) w'
       have:cnt C (λj=>if j=i then true else ls j)=p+1:=by
        refine wk (by have:=(List.getElem?_eq_some_iff.1 H).1;omega) (λq c hq hc=>?_) (λq c hq hc=>?_)
        · by_cases A2:c=i
          · rw[if_pos A2]
          · rw [if_neg A2]
            have Ax:q<p:=by
             rcases Nat.lt_or_ge q p with h|h
             · exact h
             · have:q=p:=J
               subst this;rw[H]at hc;exact absurd (qb5 hc).symm A2
            exact cnt_lt hlink Ab G H ho Aq q c Ax hc
        · have A2:c≠i:=λe=>by subst e;have:=Aw _ _ _ hc H;omega
          rw[if_neg A2]
          exact IR hlink Ab G Ar H q c J hc
       rw[this];exact hI'
   · obtain⟨O,A1,hb⟩:=List.any_eq_true.1 E
     simp only[Bool.and_eq_true]at hb
     exact hφ j ⟨O,by simpa using A1,hb.1,Nat.eq_of_beq_eq_true hb.2⟩ d (by rw[G];exact hd)
 · rintro e w ⟨ls,Av,hJ⟩ hR hs hφ
   have hc:cnt C ls=C.length:=Ns (λc hc=>Av c (by have:=List.all_eq_true.1 hCM c hc;rwa [Nat.blt_eq]at this))
   rw[hc]at hJ
   exact hfin e w hJ hR (λt ht=>hs t (Am t ht)) (λj d A0 hd=>hφ j d (by rwa [Nat.blt_eq]at A0) (by rw[G];exact hd))
end draws
section scope
variable {P:Program}{F:Fence}{b:Frame}{a:Act}{k:List Item}{cs:List Frame}{Q:Exit->Act->World->Prop}
def cY {c:Code}:step P (lone (b.atR a (.code (.scope c)::k)) cs w)=.next (lone (b.atR a (.code c:: .inScope c::k)) cs w):=
 step_lone_go (by simp[stepG,stepG.exec,Frame.atR])
def kw {c:Code}:step P (lone (b.atR a (.inScope c::k)) cs w)=.next (lone (b.atR a k) cs w):=
 step_lone_go (by simp[stepG,stepG.exec,Frame.atR])
def Co {c:Code}(h:c.wpIn F n P (Exit.noGoto Q) a w):(Code.scope c).wpIn F n P Q a w:=by
 intro b k cs H hb hr
 have E:(lone (b.atR a (.code (.scope c)::k)) cs w).fenced P F:=fenced_calm hb hr Z
 obtain⟨e,a₁,w₁,hq,G⟩:=h b (.inScope c::k) cs H hb hr
 cases e with
 |normal=>exact⟨.normal,a₁,w₁,hq,.head E cY (StepsIn.trans G (.one (fenced_calm hb hr Z) kw))⟩
 | exit id=>
   exact⟨.exit id,a₁,w₁,hq,λk' hk=>.head E cY (G.1 k' kb7),
    λO hk=>let ⟨k₁,h1,h2⟩:=G.2 O kb7;⟨k₁,h1,.head E cY h2⟩⟩
 |goto l=>exact hq.elim
 |ret=>exact⟨_,a₁,w₁,hq,.of_steps (.one E cY) G⟩
 |panic ch=>exact⟨_,a₁,w₁,hq,.of_steps (.one E cY) G⟩
 |outgrown=>exact⟨_,a₁,w₁,hq,.of_steps (.one E cY) G⟩
def Nt (h:Q .ret a w):Exit.noGoto Q .ret a w:=h
def Nu (h:Q .normal a w):Exit.noGoto Q .normal a w:=h
end scope
section conv
variable {P:Program}{r:Option Nat}{Q:Exit->Act->World->Prop}
variable {d ty:Nat}{pos:String}{af:Array Edge}{g:Option (Nat×Bool)}{x y:Operand}{t':TypeId}
def zD:∀(l:List UInt8) (s:ByteArray),(l.map (λb=>((b.toNat:Nat):Int))).foldl (λr n=>r.push (UInt8.ofNat n.toNat)) s=⟨(s.data.toList++l).toArray⟩
 |[],s=>by simp
 | b::l,s=>by
   simp only[List.map_cons,List.foldl_cons]
   rw[zD l]
   congr 1
   simp[ByteArray.push]
def QJ {src dst el m c:Nat}{A:Option Addr}{l:List UInt8}(hs:P.underlying src=some (.slice el))(he:P.underlying el=some (.int .u8))(hd:P.underlying dst=some .string)(hx:ev N e x=.slice A m c)(hr:Rw w lo A (l.map λb=>Value.int .u8 b.toNat))(hm:l.length=m)(hk:K (act N (upd e d (S l)) ds) w):
 Oper.wpIn (Fw r) n P ⟨some d,.convert src dst x,ty,pos,af,g⟩ (act N e ds) w K Q:=by
 refine cW (v:=S l) (w':=w) Z ?_ Hx
 have key:(convert src dst (.slice A m c)).run P w=.ok (S l) w:=by
  rw[run_convert_bytes_string w src dst el A m c hs he hd]
  cases A with
  | none=>
    have:l=[]:=by
     cases l with
     |nil=>rfl
     | cons b t=>
       obtain⟨_,_,h,_⟩:=hr.cells 0 _ Z
       cases h
    subst this
    simp[Conv.bytesToString,S];rfl
  | some a=>
    have hl:(loadCells a m).run P w=.ok ((l.map (λb=>((b.toNat:Nat):Int))).map (Value.int .u8)).toArray w:=by
     by_cases h0:l=[]
     · subst h0;simp at hm;subst hm;simp[loadCells,loadCellsFrom]
     · have hlt:0<l.length:=List.length_pos_iff.2 h0
       obtain⟨b,o,hA,_⟩:=hr.cells 0 _ (by rw[List.getElem?_map,List.getElem?_eq_getElem hlt];rfl)
       cases hA
       have E:=run_loadCells_list (P:=P) (w:=w) ⟨b,o,none⟩ (l.map λb=>Value.int .u8 b.toNat) (λj v hv=>by
        obtain⟨_,_,hA',hc⟩:=hr.cells j v hv
        cases hA'
        rw[Addr.add_mid];exact hc)
       rw[List.length_map,hm]at E
       rw[E,List.map_map];rfl
    rw[run_bytesToString w a m c _ hl,zD]
    rfl
 simp[execOp,hx,key]
def Cp {b:Int}(hx:ev N e x=.int .i64 a)(hy:ev N e y=.int .i64 b)(h1:b≠0)(hc:a.tdiv b=c)(hr:In64 c)(hk:K (act N (upd e d (.int .i64 c)) ds) w):
 Oper.wpIn (Fw r) n P ⟨some d,.binOp .quo t x y t',ty,pos,af,g⟩ (act N e ds) w K Q:=
 dQ hx hy (ca ..) (by subst hc;simp[binOp,Op.intDiv,h1,k7 hr]) hk
def Cq {b:Int}(hx:ev N e x=.int .i64 a)(hy:ev N e y=.int .i64 b)(h1:b≠0)(hc:a.tmod b=c)(hk:K (act N (upd e d (.int .i64 c)) ds) w):
 Oper.wpIn (Fw r) n P ⟨some d,.binOp .rem t x y t',ty,pos,af,g⟩ (act N e ds) w K Q:=
 dQ hx hy (ca ..) (by subst hc;simp[binOp,Op.intDiv,h1]) hk
end conv
end Go.Eng
