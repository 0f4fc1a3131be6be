/- Part of the proof of a statement about an adjustment. -/
import Derived.Test.YtlmihmlnpjkblaaGreatDoorLib9ToEngS
import Derived.KernelRfl
import Derived.Scope
import Derived.Laws.BytesString
set_option linter.all false
namespace Go.Proofs.YtlmihmlnpjkblaaGreatDoor
open Go Go.Eng Go.RowKit Tryz
def kI:gu prog 3 (.int .i64 0) 1 8:=by unfold gu;kernel_rfl
def YQ:gu prog 4 (.bool false) 1 1:=by unfold gu;kernel_rfl
def YR:gu prog 5 (.int .u8 0) 1 1:=by unfold gu;kernel_rfl
def jq:gu prog 28 (.slice none 0 0) 1 24:=by unfold gu;kernel_rfl
def QO:gu prog 22 (.slice none 0 0) 1 24:=by unfold gu;kernel_rfl
def l5:gu prog 36 (.int .i64 0) 1 8:=by unfold gu;kernel_rfl
def aU:gu prog 33 (.agg #[S [],S []]) 2 32:=by unfold gu;kernel_rfl
def o4:gu prog 103 (.agg #[.slice none 0 0,.slice none 0 0,.slice none 0 0,.bool false]) 4 80:=by unfold gu;kernel_rfl
def VK:gu prog 106 (.agg #[]) 0 0:=by unfold gu;kernel_rfl
def B7:gu prog 159 (.slice none 0 0) 1 24:=by unfold gu;kernel_rfl
def bI:gu prog 161 (.agg #[.bool false,.slice none 0 0]) 2 32:=by unfold gu;kernel_rfl
def Se:gu prog 200 (.nilFunc) 1 8:=by unfold gu;kernel_rfl
def Sf:gu prog 208 (.agg #[.pointer none,.slice none 0 0]) 2 32:=by unfold gu;kernel_rfl
def B8:gu prog 75 (.agg #[.bool false]) 1 1:=by unfold gu;kernel_rfl
def Vc:gu prog 144 (.agg #[S [],S [],S [],S []]) 4 64:=by unfold gu;kernel_rfl
def Ec:gu prog 187 (.agg #[S [],S [],S [],S [],S [],S [],S [],S [],.nilFunc]) 9 136:=by unfold gu;kernel_rfl
def o5:gu prog 189 (.agg #[.int .i64 0,S []]) 2 24:=by unfold gu;kernel_rfl
def bS:gu prog 191 (.agg #[S [],S []]) 2 32:=by unfold gu;kernel_rfl
def Ns:gu prog 262 (.nilFunc) 1 8:=by unfold gu;kernel_rfl
def dW:gu prog 30 (.agg #[.slice none 0 0,.slice none 0 0,.slice none 0 0]) 3 72:=by unfold gu;kernel_rfl
def cM:gu prog 40 (.agg #[.slice none 0 0,.slice none 0 0,S [],S [],.int .i64 0]) 5 88:=by unfold gu;kernel_rfl
def na:gu prog 82 (.agg #[.slice none 0 0,.slice none 0 0,.slice none 0 0]) 3 72:=by unfold gu;kernel_rfl
def sB:gu prog 86 (.agg #[S [],S [],.int .i64 0]) 3 40:=by unfold gu;kernel_rfl
def Nt:gu prog 150 (.nilFunc) 1 8:=by unfold gu;kernel_rfl
def iy:(prog.info? 3).map (·.size)=some 1:=by kernel_rfl
def YF:(prog.info? 4).map (·.size)=some 1:=by kernel_rfl
def Vv:(prog.info? 9).map (·.size)=some 1:=by kernel_rfl
def zt:(prog.info? 27).map (·.size)=some 1:=by kernel_rfl
def mf:(prog.info? 28).map (·.size)=some 1:=by kernel_rfl
def B9:(prog.info? 22).map (·.size)=some 1:=by kernel_rfl
def Si:(prog.info? 36).map (·.size)=some 1:=by kernel_rfl
def b8:(prog.info? 33).map (·.size)=some 2:=by kernel_rfl
def Sj:(prog.info? 101).map (·.size)=some 1:=by kernel_rfl
def Gu:(prog.info? 103).map (·.size)=some 4:=by kernel_rfl
def mB:(prog.info? 159).map (·.size)=some 1:=by kernel_rfl
def mC:(prog.info? 161).map (·.size)=some 2:=by kernel_rfl
def VN:(prog.info? 200).map (·.size)=some 1:=by kernel_rfl
def ef:(prog.info? 144).map (·.size)=some 4:=by kernel_rfl
def Il:(prog.info? 185).map (·.size)=some 1:=by kernel_rfl
def xC:(prog.info? 187).map (·.size)=some 9:=by kernel_rfl
def Im:(prog.info? 189).map (·.size)=some 2:=by kernel_rfl
def fK:(prog.info? 191).map (·.size)=some 2:=by kernel_rfl
def Sk:(prog.info? 262).map (·.size)=some 1:=by kernel_rfl
def xD:(prog.info? 24).map (·.size)=some 3:=by kernel_rfl
def ba:(prog.info? 30).map (·.size)=some 3:=by kernel_rfl
def cH:(prog.info? 40).map (·.size)=some 5:=by kernel_rfl
def ks:(prog.info? 82).map (·.size)=some 3:=by kernel_rfl
def xE:(prog.info? 86).map (·.size)=some 3:=by kernel_rfl
def Sl:(prog.info? 109).map (·.size)=some 1:=by kernel_rfl
def Sm:(prog.info? 150).map (·.size)=some 1:=by kernel_rfl
def U1:=underlying1
def U3:=underlying3
def U4:=underlying4
def U5:=underlying5
def U9:=underlying9
def QP:=underlying27
def vY:=underlying28
def kB:=underlying22
def BY:=underlying36
def iW:=underlying33
def Nu:=underlying101
def YG:=underlying103
def mD:=underlying106
def YH:=underlying25
def Io:=underlying213
def g5:=underlying159
def kJ:=underlying161
def VO:=underlying206
def YS:=underlying96
def VP:=underlying75
def fL:=underlying144
def Ed:=underlying187
def Ee:=underlying189
def jr:=underlying191
def VQ:=underlying278
def rx:=underlying24
def de:=underlying30
def jK:=underlying40
def j5:=underlying82
def Ef:=underlying86
def bc {f : FuncId}{fn : Func}(hf : prog.funcs[f]? = some fn)(hn : (fn.name == "runtime.NumGoroutine") = false := by kernel_rfl)(hb : fn.body.isNone = false := by kernel_rfl) : Enters prog f := Gs hf hn hb
def VR:=bc func133
def YT:=bc func78
def Sp:=bc func27
def tw:=bc func54
def YU:=bc func17
def VS:=bc func29
def Nv:=bc func16
def YV:=bc func28
def YW:=bc func75
def Ip:=bc func34
def Nw:=bc func57
def Nx:=bc func65
def YX:=bc func174
def YY:=bc func175
def VT:=bc func176
def VU:=bc func81
def YZ:=bc func128
def Y0:=bc func130
def VV:=bc func131
def Y1:=bc func132
def o6:=bc func26
def Ca:=bc func134
def Ny:=bc func66
def Nz:=bc func67
def VX:=bc func68
def VY:=bc func69
def NA:=bc func70
def Y2:=bc func110
def Y3:=bc func111
def Y4:=bc func112
def Y5:=bc func74
def Y6:=bc func127
def VZ:=bc func71
def V0:=bc func72
def V1:=bc func73
def Y7:=bc func82
def V3:=bc func83
def V4:=bc func113
def V5:=bc func114
def V6:=bc func115
def V7:=bc func137
def tz:=bc func62
def zu:=bc func63
def xF:=bc func64
def NB:=bc func139
def Y8:=bc func136
def Y9:=bc func126
def Za:=bc func153
def V8:=bc func77
def Zb:=bc func154
def Zc:=bc func173
def nH:=bc func135
def V9:=bc func138
def Iq:=bc func140
def zv:=bc func177
def Cb:=bc func181
def Wb:=bc func179
def tA:=bc func118
def Ir:=bc func87
def kK:=bc func119
def Eg:=bc func120
def zw:=bc func121
def Wc:=bc func122
def Eh:=bc func123
def mE:=bc func124
def zx:=bc func125
def QQ:=bc func180
def QR:=bc func182
def Ei:=bc func183
def zy:=bc func178
def Wd:=bc func172
def We:=bc func129
def Wg:=bc func216
def Is:=bc func217
def wt:=bc func156
def QS:=bc func157
def Ej:=bc func158
def ry:=bc func159
def Ek:=bc func160
def Wh:=bc func161
def Wi:=bc func162
def It:=bc func163
def Wj:=bc func164
def zA:=bc func165
def Wk:=bc func166
def Iu:=bc func167
def Iv:=bc func168
def QT:=bc func169
def Wl:=bc func170
def QU:=bc func171
def Iw:=bc func204
def Wm:=bc func205
def Wn:=bc func206
def Em:=bc func207
def Wp:=bc func208
def wu:=bc func214
def QW:=bc func306
def QX:=bc func307
def wv:=bc func308
def QY:=bc func309
def Iy:=bc func310
def rz:=bc func311
def QZ:=bc func312
def Iz:=bc func15
def zB:=bc func13
def En:=bc func117
def Q1:=bc func155
def IA:=bc func186
def Eo:=bc func35
def rF:=bc func36
def tB:=bc func37
def Ep:=bc func86
def rH:=bc func84
def Q2:=bc func142
def Q3:=bc func85
def Es:=bc func88
def Wq:=bc func141
def Ws:=bc func143
def Sq:=bc func105
def Sr:=bc func147
def nY:=bc func149
def IB:=bc func198
def nZ:=bc func191
def IC:=bc func194
def ID:=bc func188
def Ss:=bc func152
def qC:=bc func202
def IE:=bc func227
def IF:=bc func199
def iz:=bc func219
def xG:=bc func218
def mF:=bc func222
def oc:=bc func184
def Cc:=bc func200
def Cd:=bc func203
def Su:=bc func229
def IG:=bc func252
def Sv:=bc func150
def tC:=bc func185
def xH:=bc func220
def oe:=bc func187
def Ce:=bc func189
def Cg:=bc func190
def Sw:=bc func225
def og:=bc func193
def Sx:=bc func223
def Ch:=bc func228
def Sy:=bc func230
def Ci:=bc func231
def Cj:=bc func100
def Ck:=bc func101
def Sz:=bc func232
def SB:=bc func233
def IH:=bc func197
def SC:=bc func248
def SD:=bc func90
def Cl:=bc func249
def II:=bc func250
def SE:=bc func251
def IJ:=bc func195
def SF:=bc func196
def SG:=bc func221
def SH:=bc func224
def IK:=bc func148
def SI:=bc func253
def SJ:=bc func254
def SK:=bc func269
def IL:=bc func226
def IM:=bc func9
def xI:=bc func10
def fo:=bc func11
def xJ:=bc func12
def oh:=bc func14
def xK:=bc func19
def SL:=bc func21
def Cm:=bc func22
def SN:=bc func24
def SP:=bc func30
def SQ:=bc func31
def kt:=bc func32
def SR:=bc func33
def xL:=bc func38
def xM:=bc func39
def fp:=bc func40
def Cn:=bc func41
def SS:=bc func42
def SU:=bc func43
def IN:=bc func44
def SV:=bc func45
def SX:=bc func46
def SY:=bc func47
def SZ:=bc func48
def IP:=bc func49
def S1:=bc func50
def S2:=bc func51
def S3:=bc func52
def S4:=bc func53
def S5:=bc func58
def S6:=bc func59
def Co:=bc func60
def qD:=bc func61
def S7:=bc func76
def qE:=bc func79
def xN:=bc func80
def Cp:=bc func89
def qF:=bc func91
def tE:=bc func92
def gI:=bc func93
def IQ:=bc func94
def tF:=bc func95
def IR:=bc func96
def S8:=bc func97
def Cq:=bc func98
def qG:=bc func99
def Cs:=bc func102
def Ct:=bc func103
def Ta:=bc func104
def Tc:=bc func106
def IS:=bc func107
def IT:=bc func108
def Td:=bc func109
def Te:=bc func116
def xO:=bc func146
def Tf:=bc func151
def IU:=bc func192
def o7:prog.follows .mixedOrders=true:=by kernel_rfl
end Go.Proofs.YtlmihmlnpjkblaaGreatDoor
def bU (B:Nat):List Nat->Nat
 |[]=>0
 |d::l=>d+B*bU B l
def zD (B:Nat):Nat->Nat->List Nat
 |0,_=>[]
 |f+1,n=>if n=0 then[]else n%B::zD B f (n/B)
def au (B n:Nat):List Nat:=zD B n n
def IW (B:Nat)(hB:2<=B):∀(f n:Nat),n<=f->∀g,n<=g->zD B f n=zD B g n:=by
 intro f
 induction f with
 | zero=>
   intro n E g _
   obtain rfl:n=0:=J
   cases g <;>simp[zD]
 | succ f ih =>
   intro n E g _
   cases g with
   | zero => obtain rfl:n=0:=J
             simp[zD]
   | succ g=>
     simp only[zD]
     by_cases h0:n=0
     · simp[h0]
     · rw[if_neg h0,if_neg h0]
       have hd:n/B<n:=Nat.div_lt_self J J
       rw[ih (n/B) J g J]
def gw (B:Nat):au B 0=[]:=rfl
def ge (B n:Nat)(hB:2<=B)(hn:0<n):au B n=n%B::au B (n/B):=by
 unfold au
 cases n with
 |zero=>omega
 | succ m=>
   have hd:(m+1)/B<m+1:=Nat.div_lt_self J J
   simp only[zD]
   rw[if_neg J,IW B hB m ((m+1)/B) J ((m+1)/B) (Nat.le_refl _)]
def cK (B:Nat)(hB:2<=B)(n:Nat):bU B (au B n)=n:=by
 induction n using Nat.strongRecOn with
 | _ n ih=>
   by_cases h0:n=0
   · subst h0;rfl
   · rw[ge B n hB J]
     simp only[bU]
     rw[ih (n/B) (Nat.div_lt_self J J)]
     exact Nat.mod_add_div n B
def eO (B:Nat)(hB:2<=B)(n:Nat):∀d∈au B n,d<B:=by
 induction n using Nat.strongRecOn with
 | _ n ih=>
   by_cases h0:n=0
   · subst h0;simp[gw]
   · rw[ge B n hB J]
     intro d hd
     rcases List.mem_cons.1 hd with rfl|h
     · exact Nat.mod_lt _ J
     · exact ih (n/B) (Nat.div_lt_self J J) d h
def Canon (B:Nat)(l:List Nat):Prop:=(∀d∈l,d<B)/\l.getLast?≠some 0
def Canon.tail {B d:Nat}{l:List Nat}(h:Canon B (d::l)):Canon B l:=by
 refine⟨λx hx=>h.1 x (List.mem_cons_of_mem _ hx),?_⟩
 have:=h.2
 cases l with
 |nil=>simp
 |cons e l=>simpa[List.getLast?_cons_cons]using this
def Canon.pos {B:Nat}(hB:2<=B):∀{l:List Nat},Canon B l->l≠[]->0<bU B l
 |[],_,h=>absurd Z h
 | [d],h,_=>by
   have:=h.2
   simp[bU]at this ⊢
   omega
 | d::e::l,h,_=>by
   have:=Canon.pos hB h.tail Rg
   simp only[bU]at this ⊢
   have:0<B*(e+B*bU B l):=Nat.mul_pos J this
   omega
def mG {B:Nat}(hB:2<=B):∀{l:List Nat},Canon B l->l=au B (bU B l)
 |[],_=>rfl
 | d::l,h=>by
   have hp:=Canon.pos hB h Rg
   have hd:d<B:=h.1 d Rg
   rw[ge B _ hB hp]
   simp only[bU]
   rw[Nat.add_mul_mod_self_left,Nat.mod_eq_of_lt hd,Nat.add_mul_div_left _ _ J,Nat.div_eq_of_lt hd,Nat.zero_add,<-mG hB h.tail]
def j6 (B:Nat)(hB:2<=B)(n:Nat):(au B n).getLast?≠some 0:=by
 induction n using Nat.strongRecOn with
 | _ n ih=>
   by_cases h0:n=0
   · subst h0;simp[gw]
   · rw [ge B n hB J]
     have E:=ih (n/B) (Nat.div_lt_self J J)
     by_cases hq:n/B=0
     · rw[hq,gw]
       have:n<B:=by
        rcases Nat.lt_or_ge n B with h|h
        · exact h
        · have:=Nat.div_pos h J;omega
       simp[Nat.mod_eq_of_lt this];omega
     · rw[ge B (n/B) hB (Nat.pos_of_ne_zero hq)]at E ⊢
       simpa[List.getLast?_cons_cons]using E
def dK:List Nat->List Nat
 |[]=>[]
 |d::l=>if dK l=[]/\d=0 then[]else d::dK l
def zF (B:Nat):∀l,bU B (dK l)=bU B l
 |[]=>rfl
 | d::l=>by
   unfold dK
   have ih:=zF B l
   split
   · rename_i h;rw[h.1]at ih;simp only[bU]at *;rw[<-ih,h.2];simp
   · simp only[bU,ih]
def ww {d:Nat}:∀{l:List Nat},d∈dK l->d∈l
 |[],h=>h
 | e ::l,h=>by
   unfold dK at h
   split at h
   · simp at h
   · rcases List.mem_cons.1 h with rfl|h
     · simp
     · exact List.mem_cons_of_mem _ (ww h)
def tG:∀l,(dK l).getLast?≠some 0
 |[]=>by simp[dK]
 | d ::l=>by
   have ih:=tG l
   unfold dK
   split
   · simp
   · rename_i h
     cases ht:dK l with
     |nil=>simp[ht]at h ⊢;exact h
     |cons e m=>rw[ht]at ih;simpa[List.getLast?_cons_cons]using ih
def mH (B:Nat)(hB:2<=B)(l:List Nat)(h:∀d∈l,d<B):dK l=au B (bU B l):=by
 rw[<-zF B l]
 exact mG hB ⟨λd hd=>h d (ww hd),tG l⟩
def cu (B:Nat):∀a b,bU B (a++b)=bU B a+B^a.length*bU B b
 |[],b=>by simp[bU]
 | d ::a,b=>by
   simp only[List.cons_append,bU,cu B a b,List.length_cons,Nat.pow_succ]
   rw[Nat.mul_add]
   have:B*(B^a.length*bU B b)=B^a.length*B*bU B b:=by
    rw[<-Nat.mul_assoc,Nat.mul_comm B]
   omega
def ln (B:Nat):∀l:List Nat,(∀d∈l,d<B)->bU B l<B^l.length
 |[],_=>by simp[bU]
 | d::l,h=>by
   have ih:=ln B l (λx hx=>h x (List.mem_cons_of_mem _ hx))
   have hd:=h d Rg
   simp only[bU,List.length_cons,Nat.pow_succ]
   have:B*(bU B l+1)<=B*B^l.length:=Nat.mul_le_mul_left _ ih
   rw[Nat.mul_add]at this
   rw[Nat.mul_comm (B^l.length)]
   omega
def we (B:Nat)(hB:2<=B)(n k:Nat)(h:n<B^k):(au B n).length<=k:=by
 induction k generalizing n with
 |zero=>simp at h;subst h;simp[gw]
 | succ k ih=>
   by_cases h0:n=0
   · subst h0;simp[gw]
   · rw[ge B n hB J]
     have:n/B<B^k:=by
      rw[Nat.div_lt_iff_lt_mul J]
      rwa [Nat.pow_succ]at h
     have:=ih _ this
     simp;omega
def bf (B:Nat)(hB:2<=B)(n k:Nat):(au B n).length<=k↔n<B^k:=by
 constructor
 · intro h
   have h1:=ln B (au B n) (eO B hB n)
   rw[cK B hB]at h1
   exact qb1 h1 (Nat.pow_le_pow_right J h)
 · exact we B hB n k
def aI (d:Nat->Int)(c0:Int):Nat->Int×List Int
 |0=>(c0,[])
 | k+1=>if d k+(aI d c0 k).1<0 then(-1,(aI d c0 k).2++[d k+(aI d c0 k).1+10000])
   else if 10000<=d k+(aI d c0 k).1 then((d k+(aI d c0 k).1)/10000,(aI d c0 k).2++[(d k+(aI d c0 k).1)%10000])
   else(0,(aI d c0 k).2++[d k+(aI d c0 k).1])
def Cu {d:Nat->Int}{c0:Int}{k:Nat}(h:d k+(aI d c0 k).1<0):aI d c0 (k+1)=(-1,(aI d c0 k).2++[d k+(aI d c0 k).1+10000]):=by
 rw[aI,if_pos h]
def Cv {d:Nat->Int}{c0:Int}{k:Nat}(h:¬d k+(aI d c0 k).1<0)(h2:10000<=d k+(aI d c0 k).1):aI d c0 (k+1)=((d k+(aI d c0 k).1)/10000,(aI d c0 k).2++[(d k+(aI d c0 k).1)%10000]):=by
 rw[aI,if_neg h,if_pos h2]
def tH {d:Nat->Int}{c0:Int}{k:Nat}(h:¬d k+(aI d c0 k).1<0)(h2:¬10000<=d k+(aI d c0 k).1):aI d c0 (k+1)=(0,(aI d c0 k).2++[d k+(aI d c0 k).1]):=by
 rw[aI,if_neg h,if_neg h2]
def eR (d:Nat->Int)(c0:Int):∀k,(aI d c0 k).2.length=k
 |0=>rfl
 | k+1=>by
   have:=eR d c0 k
   rw[aI];split <;>(try split) <;>simp[this]
def mI:List Int->Int
 |[]=>0
 |x::l=>x+10000*mI l
def j7:∀a b,mI (a++b)=mI a+10000^a.length*mI b
 |[],b=>by simp[mI]
 | x::a,b=>by
   simp only[List.cons_append,mI,j7 a b,List.length_cons,Int.pow_succ]
   grind
def iX (d:Nat->Int):Nat->Int
 |0=>0
 |k+1=>iX d k+d k*10000^k
def jL (d:Nat->Int)(c0:Int):∀k,mI (aI d c0 k).2+(aI d c0 k).1*10000^k=c0+iX d k
 |0=>by simp[aI,mI,iX]
 | k + 1=>by
   have ih:=jL d c0 k
   have hl:=eR d c0 k
   rw[aI]
   split
   · simp only[j7,hl,mI,iX,Int.pow_succ];grind
   · split
     · simp only[j7,hl,mI,iX,Int.pow_succ]
       have h3:=Int.mul_ediv_add_emod (d k+(aI d c0 k).1) 10000
       grind
     · simp only[j7,hl,mI,iX,Int.pow_succ];grind
def iP (d:Nat->Int)(c0:Int)(h:∀k,-10000<=d k+(aI d c0 k).1):∀k,∀x∈(aI d c0 k).2,0<=x/\x<10000
 |0=>by simp[aI]
 | k + 1=>by
   have ih:=iP d c0 h k
   have hk:=h k
   intro x hx
   rw[aI]at hx
   split at hx
   · rcases List.mem_append.1 hx with hx|hx
     · exact ih x hx
     · simp at hx;omega
   · split at hx
     · rcases List.mem_append.1 hx with hx|hx
       · exact ih x hx
       · simp at hx;omega
     · rcases List.mem_append.1 hx with hx|hx
       · exact ih x hx
       · simp at hx;omega
def eT (l:List Int):List Nat:=l.map Int.toNat
def lu:∀l:List Int,(∀x∈l,0<=x)->((bU 10000 (eT l):Nat):Int)=mI l
 |[],_=>rfl
 | x::l,h=>by
   have ih:=lu l (λy hy=>h y (by simp[hy]))
   have hx:=h x Rg
   simp only[eT,List.map_cons,bU,mI]at *
   omega
def zG (l:List Int)(h:∀x∈l,0<=x):(eT l).map (λn:Nat=>(n:Int))=l:=by
 simp only[eT,List.map_map]
 conv=>rhs;rw[<-List.map_id l]
 apply List.map_congr_left
 intro x hx
 have:=h x hx
 simp;omega
def Gv (l:List Int)(h:∀x∈l,0<=x/\x<10000):∀x∈eT l,x<10000:=by
 intro x hx
 obtain⟨y,hy,rfl⟩:=List.mem_map.1 hx
 have:=h y hy
 omega
def jD (xs:List Nat):∀k,iX (λi=>((xs.getD i 0:Nat):Int)) k=((bU 10000 (xs.take k):Nat):Int)
 |0=>by simp[iX,bU]
 | k + 1=>by
   rw[iX,jD xs k]
   by_cases hk:k<xs.length
   · have:xs.take (k+1)=xs.take k++[xs.getD k 0]:=by
      rw[List.take_succ_eq_append_getElem hk];simp[hk]
     rw[this,cu]
     have hl:(xs.take k).length=k:=by simp;omega
     rw[hl]
     simp only[bU,Nat.mul_zero,Nat.add_zero]
     rw[Int.natCast_add,Int.natCast_mul,Int.natCast_pow]
     rw[Int.mul_comm];rfl
   · rw[List.take_of_length_le J,List.take_of_length_le J]
     have:xs.getD k 0=0:=by simp[List.getD,List.getElem?_eq_none (Nat.le_of_not_lt hk)]
     rw[this];simp
def zH (d e:Nat->Int):∀k,iX (λi=>d i+e i) k=iX d k+iX e k
 |0=>by simp[iX]
 |k+1=>by simp only[iX,zH d e k];grind
def zI (d e:Nat->Int):∀k,iX (λi=>d i-e i) k=iX d k-iX e k
 |0=>by simp[iX]
 |k+1=>by simp only[iX,zI d e k];grind
def zJ (d:Nat->Int)(c:Int):∀k,iX (λi=>d i*c) k=iX d k*c
 |0=>by simp[iX]
 |k+1=>by simp only[iX,zJ d c k];grind
def iY (xs:List Nat){k:Nat}(h:xs.length<=k):bU 10000 (xs.take k)=bU 10000 xs:=by rw[List.take_of_length_le h]
def getD_lt {xs:List Nat}(h:∀x∈xs,x<10000)(i:Nat):xs.getD i 0<10000:=by
 by_cases hi:i<xs.length
 · simp[hi];exact h _ (List.getElem_mem hi)
 · simp[List.getD,List.getElem?_eq_none (Nat.le_of_not_lt hi)]
def gy (xs ys:List Nat)(i:Nat):Int:=((xs.getD i 0:Nat):Int)+((ys.getD i 0:Nat):Int)
def oi {xs ys:List Nat}(hx:∀x∈xs,x<10000)(hy:∀x∈ys,x<10000):∀k,0<=(aI (gy xs ys) 0 k).1/\(aI (gy xs ys) 0 k).1<=1
 |0=>by simp[aI]
 | k+1=>by
   have ih:=oi hx hy k
   have h1:=getD_lt hx k
   have h2:=getD_lt hy k
   rw[aI]
   have hd:gy xs ys k=((xs.getD k 0:Nat):Int)+((ys.getD k 0:Nat):Int):=rfl
   split
   · omega
   · split <;>simp only <;>omega
def IX {xs ys:List Nat}(hx:∀x∈xs,x<10000)(hy:∀x∈ys,x<10000){n k:Nat}(hn:xs.length<=n/\ys.length<=n)(hk:n<=k)(hc:(aI (gy xs ys) 0 k).1=0):
 (∀x∈(aI (gy xs ys) 0 k).2,0<=x/\x<10000)/\bU 10000 (eT (aI (gy xs ys) 0 k).2)=bU 10000 xs+bU 10000 ys:=by
 have hd:∀x∈(aI (gy xs ys) 0 k).2,0<=x/\x<10000:=iP _ _ (λj=>by
  have:=oi hx hy j
  simp only[gy];omega) k
 refine⟨hd,?_⟩
 have h1:=jL (gy xs ys) 0 k
 have h2:=lu _ (λx hx=>(hd x hx).1)
 have h3:iX (gy xs ys) k=((bU 10000 xs:Nat):Int)+((bU 10000 ys:Nat):Int):=by
  have:=zH (λi=>((xs.getD i 0:Nat):Int)) (λi=>((ys.getD i 0:Nat):Int)) k
  rw[jD,jD,iY xs J,iY ys J]at this
  exact this
 rw[hc]at h1
 omega
def dH (xs ys:List Nat)(i:Nat):Int:=((xs.getD i 0:Nat):Int)-((ys.getD i 0:Nat):Int)
def j8 {xs ys:List Nat}(hx:∀x∈xs,x<10000)(hy:∀x∈ys,x<10000):∀k,-1<=(aI (dH xs ys) 0 k).1/\(aI (dH xs ys) 0 k).1<=0
 |0=>by simp[aI]
 | k+1=>by
   have ih:=j8 hx hy k
   have h1:=getD_lt hx k
   have h2:=getD_lt hy k
   rw[aI]
   have hd:dH xs ys k=((xs.getD k 0:Nat):Int)-((ys.getD k 0:Nat):Int):=rfl
   split
   · simp
   · split <;>simp only <;>omega
def zK {l:List Int}(h:∀x∈l,0<=x/\x<10000):0<=mI l/\mI l<10000^l.length:=by
 induction l with
 |nil=>simp[mI]
 | cons x l ih=>
   have:=ih (λy hy=>h y (by simp[hy]))
   have hx:=h x Rg
   simp only[mI,List.length_cons,Int.pow_succ]
   constructor
   · omega
   · omega
def Gw {xs ys:List Nat}(hx:∀x∈xs,x<10000)(hy:∀x∈ys,x<10000){n:Nat}(hn:xs.length<=n/\ys.length<=n)(hle:bU 10000 ys<=bU 10000 xs):
 (aI (dH xs ys) 0 n).1=0/\(∀k,∀x∈(aI (dH xs ys) 0 k).2,0<=x/\x<10000)/\∀k,n<=k->(aI (dH xs ys) 0 k).1=0->bU 10000 (eT (aI (dH xs ys) 0 k).2)=bU 10000 xs-bU 10000 ys:=by
 have hd:∀k,∀x∈(aI (dH xs ys) 0 k).2,0<=x/\x<10000:=iP _ _ (λj=>by
  have:=j8 hx hy j
  have h1:=getD_lt hx j
  have h2:=getD_lt hy j
  simp only[dH];omega)
 have h3:∀k,n<=k->iX (dH xs ys) k=((bU 10000 xs:Nat):Int)-((bU 10000 ys:Nat):Int):=λk hk=>by
  have:=zI (λi=>((xs.getD i 0:Nat):Int)) (λi=>((ys.getD i 0:Nat):Int)) k
  rw[jD,jD,iY xs J,iY ys J]at this
  exact this
 refine⟨?_,hd,λk hk hc=>?_⟩
 · have h1:=jL (dH xs ys) 0 n
   have h4:=zK (hd n)
   have E:=j8 hx hy n
   rw[eR]at h4
   rw[h3 n (Nat.le_refl _)]at h1
   have hcases:(aI (dH xs ys) 0 n).1=-1\/(aI (dH xs ys) 0 n).1=0:=J
   rcases hcases with hc|hc
   · rw[hc]at h1;omega
   · exact hc
 · have h1:=jL (dH xs ys) 0 k
   have h2:=lu _ (λx hx=>(hd k x hx).1)
   rw[hc,h3 k hk]at h1
   omega
def se (xs:List Nat)(m:Nat)(i:Nat):Int:=((xs.getD i 0:Nat):Int)*(m:Int)
def xP {xs:List Nat}(hx:∀x∈xs,x<10000){m:Nat}(hm:m<10000)(i:Nat):0<=se xs m i/\se xs m i<=99980001:=by
 have h1:=getD_lt hx i
 have h2:xs.getD i 0*m<=9999*9999:=qb9 J J
 unfold se
 rw[<-Int.natCast_mul]
 omega
def tI {xs:List Nat}(hx:∀x∈xs,x<10000){m:Nat}(hm:m<10000):∀k,0<=(aI (se xs m) 0 k).1/\(aI (se xs m) 0 k).1<10000
 |0=>by simp[aI]
 | k+1=>by
   have ih:=tI hx hm k
   have h1:=xP hx hm k
   rw[aI]
   split
   · omega
   · split <;>simp only <;>omega
def Tg {xs:List Nat}(hx:∀x∈xs,x<10000){m:Nat}(hm:m<10000){n k:Nat}(hn:xs.length<=n)(hk:n<=k)(hc:(aI (se xs m) 0 k).1=0):
 (∀x∈(aI (se xs m) 0 k).2,0<=x/\x<10000)/\bU 10000 (eT (aI (se xs m) 0 k).2)=bU 10000 xs*m:=by
 have hd:∀x∈(aI (se xs m) 0 k).2,0<=x/\x<10000:=iP _ _ (λj=>by
  have:=tI hx hm j
  have:=xP hx hm j
  omega) k
 refine⟨hd,?_⟩
 have h1:=jL (se xs m) 0 k
 have h2:=lu _ (λx hx=>(hd x hx).1)
 have h3:iX (se xs m) k=((bU 10000 xs:Nat):Int)*(m:Int):=by
  have:=zJ (λi=>((xs.getD i 0:Nat):Int)) (m:Int) k
  rw[jD,iY xs J]at this
  exact this
 rw[hc,h3]at h1
 rw[<-Int.natCast_mul]at h1
 omega
namespace Go.Eng
open Go Go.RowKit
variable {K K1 K2:Act->World->Prop}{xs:Array Operand}{ats:Array TypeId}{fn:Func}{f:FuncId}{a c:Int}{ds:List Deferred}{bs order ps C:List Nat}{l rest:List Oper}{cs lb args vs la cs':List Value}{b lo D k sz N gf n base fuel i j s dd o k' p:Nat}{ls:Nat->Bool}{e:Nat->Value}{t et src dst el:TypeId}{v v' u:Value}{W A B W' w0 w' w W0:World}
section range
variable {P:Program}
structure eL (bs:List Nat)(W W':World):Prop where
 size:W.heap.size<=W'.heap.size
 block:∀k,k<W.heap.size->k∉bs->W'.heap[k]?=W.heap[k]?
def eL.refl (bs:List Nat)(W:World):eL bs W W:=⟨qa0 _,λ_ _ _=>rfl⟩
def eL.ext (h:eL bs W A)(k:aO A B):eL bs W B:=
 ⟨qa8 h.size k.size,λi hi hb=>(k.block i (qb1 hi h.size)).trans (h.block i hi hb)⟩
def ad9:=@eL.ext
def eL.put (h:eL bs W A)(k:ee A B b)(hb:b∈bs\/W.heap.size<=b):eL bs W B:=
 ⟨by rw[k.size];exact h.size,λi hi E=>(k.block i (λe=>by subst e;rcases hb with hb|hb;exact E hb;omega)).trans (h.block i hi E)⟩
def ae1:=@eL.put
def eL.gr {row:Option Nat}(h:eL bs W A)(k:A.grownBy B row)(hb:∀b,row=some b->b∈bs\/W.heap.size<=b):eL bs W B:=
 ⟨qa8 h.size k.size,λi hi E=>(k.block i (qb1 hi h.size) (λe=>by rcases hb i e.symm with hb|hb;exact E hb;omega)).trans (h.block i hi E)⟩
def eL.others (h:eL bs W W')(hc:∀b∈bs,∃o:Obj,W.heap[b]?=some o/\o.isCells=true):KeepsOthers W W':=
 ⟨h.size,λk o hk ho=>(h.block k (Array.getElem?_eq_some_iff.1 hk).1 (λhm=>by
  obtain⟨o',G,E⟩:=hc k hm
  rw[hk]at G;cases G;rw[ho]at E;cases E)).trans hk⟩
def eL.blk {cs:Array Value}(h:eL bs W W')(hn:b∉bs)(hb:ar W b t cs):ar W' b t cs:=(h.block b hb.lt hn).trans hb
def eL.rw {A:Option Addr}(h:eL bs W W')(hn:∀ad,A=some ad->ad.block∉bs)(hb:Rw W lo A cs):Rw W' lo A cs:=by
 refine⟨λj u hu=>?_,hb.lo,λad e=>qb1 (hb.hi ad e) h.size⟩
 obtain⟨b,o,e,hc⟩:=hb.cells j u hu
 refine⟨b,o,e,?_⟩
 rw[<-hc]
 exact World.cell?_of_block (h.block b (hb.hi _ e) (hn _ e))
def ar.isCells {cs:Array Value}(h:ar w b t cs):∃o:Obj,w.heap[b]?=some o/\o.isCells=true:=⟨_,h,rfl⟩
def ae4:=@ar.isCells
def Cw (B:Nat)(zl:World->Prop):Prop:=
 ∀W W' row,zl W->W.grownBy W' row->(∀r,row=some r->B<=r/\∃o:Obj,W.heap[r]?=some o/\o.isCells=false)->zl W'
def ar.cel {row:Option Nat}{B:Nat}{cs:Array Value}(hg:W.grownBy W' row)(hr:∀r,row=some r->B<=r/\∃o:Obj,W.heap[r]?=some o/\o.isCells=false)(h:ar W b t cs):ar W' b t cs:=
 (grownBy_keeps_cells hg (λr e=>(hr r e).2) h Z).trans h
def ad6:=@ar.cel
def Rw.cel {row:Option Nat}{B:Nat}{A:Option Addr}(hg:W.grownBy W' row)(hr:∀r,row=some r->B<=r/\∃o:Obj,W.heap[r]?=some o/\o.isCells=false)(h:Rw W lo A cs):Rw W' lo A cs:=by
 refine⟨λj u hu=>?_,h.lo,λE e=>qb1 (h.hi E e) hg.size⟩
 obtain⟨b,o,e,hc⟩:=h.cells j u hu
 exact⟨b,o,e,cell_kept hc hg (λr e=>(hr r e).2)⟩
def o8 {row:Option Nat}{B n0:Nat}(hn:n0<=B)(hg:W.grownBy W' row)(hr:∀r,row=some r->B<=r/\∃o:Obj,W.heap[r]?=some o/\o.isCells=false)(hs:n0<=W.heap.size)(h:Below n0 w0 W):Below n0 w0 W':=
 h.grown hg hs (λk e=>qa8 hn (hr k e).1)
def lv (w:World)(D:Nat):Prop:=w.heap[D]?=some (.deferred (some []))
def lv.ext (k:aO w w')(h:lv w D):lv w' D:=k.heap h
def lv.put (k:ee w w' b)(hne:D≠b)(h:lv w D):lv w' D:=(k.block D hne).trans h
def ad3:=@lv.put
def lv.ne {cs:Array Value}(h:lv w D)(hb:ar w b t cs):D≠b:=λe=>by
 subst e;unfold lv at h;unfold ar at hb;rw[h]at hb;cases hb
def Q4 (P:Program)(gf:Nat)(lb:List Value)(m:Nat)(enc:Nat->List Value)(order:List Nat)(Kq:World->Prop)(w:World):Prop:=
 SeqStopsK Fence.wide 8 P gf lb.toArray (λi:{i:Nat // i<m}=>(enc i.1).toArray) (λA B=>Kq A->Kq B) (λxs=>xs.map (·.1)=order) (λxs=>xs.map (·.1) <+: order) m w
def ku (e:Nat->Value):List Nat->List Value->Nat->Value
 |p::ps,v::vs=>ku (upd e p v) ps vs
 |_,_=>e
def NC {row:Option Nat}{B:Nat}(hg:W.grownBy W' row)(hr:∀r,row=some r->B<=r/\∃o:Obj,W.heap[r]?=some o/\o.isCells=false)(h:W.ownsRow lo et sz v k cs):W'.ownsRow lo et sz v k cs:=by
 obtain⟨hl,hv|⟨g,cap,G,rfl,H,E,r⟩⟩:=h
 · exact⟨hl,.inl hv⟩
 · exact⟨hl,.inr ⟨g,cap,G,rfl,H,(grownBy_keeps_cells hg (λr e=>(hr r e).2) E Z).trans E,r⟩⟩
def Et (hK:lv w D)(h:w.ownsRow lo et sz v k cs):(w.putObj D (.deferred none)).ownsRow lo et sz v k cs:=by
 refine NC (B:=0) (grownBy_putObj' w D _) (λr e=>?_) h
 cases e
 exact⟨qa7 _,_,hK,rfl⟩
def ND (N:Nat)(e:Nat->Value)(d:Nat)(v:Value):(act N e []).tmps.setIfInBounds d v=(act N (upd e d v) []).tmps:=by
 have:=ax N e [] d v
 exact qb2 Act.tmps this
def o9 (N:Nat):∀(ps:List Nat) (vs:List Value) (e:Nat->Value),(ps.zip vs).foldl (λt (x:Nat×Value)=>t.setIfInBounds x.1 x.2) (act N e []).tmps=(act N (ku e ps vs) []).tmps
 |[],vs,e=>by simp[ku]
 |p::ps,[],e=>by simp[ku]
 | p::ps,v::vs,e=>by
   simp only[List.zip_cons_cons,List.foldl_cons,ku]
   rw[ND,o9 N ps vs]
def roundPost (Kq:World->Prop)(zl:List Nat->World->Prop)(Ix:Code->List Nat->World->Prop)(xs:List Nat)(W:World):Exit->Act->World->Prop
 | .normal,_,W'=>KeepsOthers W W'/\(Kq W->Kq W')/\zl xs W'
 | .ret,_,W'=>KeepsOthers W W'/\Ix .ret xs W'
 | .exit id,_,W'=>KeepsOthers W W'/\Ix (.exit id) xs W'
 |_,_,_=>False
def sD {Q:Exit->Act->World->Prop}{m:Nat}{enc:Nat->List Value}{Kq:World->Prop}{g:Operand}{assign body:Code}(hg:ev N e g=.func (.func gf) #[] lb.toArray)(eg:Enters P gf)(hit:Q4 P gf lb m enc order Kq w)(hKq:Cw w.heap.size Kq)(hps:∀i,(enc i).length=ps.length)(qs:List Nat)(qv:Nat->List Value)(hassign:∀l x W K,K (act N (ku (ku e ps (enc x)) qs (qv x)) []) W->assign.wpIn (Fw (some l)) 7 P (Exit.then K (λ_ _ _=>False)) (act N (ku e ps (enc x)) []) W)(zl:List Nat->World->Prop)(Ix:Code->List Nat->World->Prop)(hI:∀xs,Cw w.heap.size (zl xs))(hIx:∀c xs,Cw w.heap.size (Ix c xs))(h0:zl [] w)(hbody:∀l pre x W,zl pre W->(∀i∈pre,i<m)->x<m->pre.length<m->body.wpIn (Fw (some l)) 7 P (roundPost Kq zl Ix (pre++[x]) W) (act N (ku (ku e ps (enc x)) qs (qv x)) []) W)(hdone:∀D W,w.heap.size<=D->zl order W->lv W D->Q .normal (act N e (⟨.collected D,#[]⟩::ds)) W)(hstop:∀D c pre W,w.heap.size<=D->pre <+: order->Ix c pre W->lv W D->c.wpIn (Fw none) 9 P Q (act N e (⟨.collected D,#[]⟩::ds)) W):
 (Code.rangeFunc g ps.toArray assign body).wpIn (Fw none) 9 P Q (act N e ds) w:=by
 have A0:∀pre:List {i:Nat // i<m},∀i∈pre.map (·.1),i<m:=λpre i hi=>by
  obtain⟨x,_,rfl⟩:=List.mem_map.1 hi
  exact x.2
 refine wpIn_rangeFunc_ownF (F:=Fence.wide) (n:=9) (α:={i:Nat // i<m}) Z J (gf:=gf) (lb:=lb.toArray) (by rw[cW];exact hg) trivial eg (w0:=w) hit (λh k q=>k (h q))
  (λW l o o' hl ho hc _ q=>hKq W _ (some l) q (grownBy_putObj' W l o') (λr A1=>by cases A1;exact⟨hl,o,ho,hc⟩)) (Below.refl _ _) (λx=>by simpa using hps x.1)
  (λpre W=>zl (pre.map (·.1)) W) (λc pre W=>Ix c (pre.map (·.1)) W) (λpre W W' row h=>hI (pre.map (·.1)) W W' row h) (λc pre W W' row h=>hIx c (pre.map (·.1)) W W' row h) h0
  (λx=>act N (ku (ku e ps (enc x.1)) qs (qv x.1)) []) (λl x W K hK=>?_) (λl pre x W hi O=>?_) (λD xs W hD hS hi hK=>?_) (λD c pre W hD H hi hK=>?_)
 · have h:=hassign l x.1 W K hK
   have h2:({tmps:=(ps.toArray.zip (enc x.1).toArray).foldl (λt (p,v)=>t.setIfInBounds p v) (act N e ds).tmps,defers:=[]}:Act)=act N (ku e ps (enc x.1)) []:=by
    have h3:=o9 N ps (enc x.1) e
    have:(act N (ku e ps (enc x.1)) [])=⟨(act N (ku e ps (enc x.1)) []).tmps,[]⟩:=rfl
    rw[this,<-h3]
    simp only[List.zip_toArray,List.foldl_toArray]
    rfl
   rw[h2]
   exact h
 · refine wpIn_mono (hbody l (pre.map (·.1)) x.1 W hi (A0 pre) x.2 (by simpa using O)) ?_
   rintro ex a W3 E
   have G:(pre++[x]).map (·.1)=pre.map (·.1)++[x.1]:=by simp
   cases ex with
   |normal=>exact⟨E.1,E.2.1,by simp only[];rw[G];exact E.2.2⟩
   |ret=>exact⟨E.1,by simp only[];rw[G];exact E.2⟩
   |exit id=>exact⟨E.1,by simp only[];rw[G];exact E.2⟩
   |goto t=>exact E.elim
   |panic c=>exact E.elim
   |outgrown=>exact E.elim
 · exact hdone D W hD (by have h:xs.map (·.1)=order:=hS;rw[<-h];exact hi) hK
 · exact hstop D c _ W hD H hi hK
variable {c:Code}{R:Value->World->Prop}
def jE (args:List Value)(fn:Func):({tmps:=args.toArray++Array.replicate (fn.ntmps-args.toArray.size) undef,defers:=[]}:Act)=act (args.length+(fn.ntmps-args.length)) (Ii args) []:=by
 simp only[act,Act.mk.injEq,and_true]
 apply Array.ext
 · simp
 · intro i _ _
   simp only[Array.getElem_ofFn,Ii]
   by_cases hi:i<args.length
   · simp[hi]
   · have h3:args.toArray.size<=i:=by simpa using hi
     rw[Array.getElem_append_right h3]
     simp[List.getElem?_eq_none (Nat.le_of_not_lt hi)]
def rI (hf:P.funcs[f]?=some fn)(hb:fn.body=some c)(h:c.wpIn (Fw none) 9 P (bodyPostM Fence.wide 9 P fn (aH w R)) (act (args.length+(fn.ntmps-args.length)) (Ii args) []) w):Calls P f args.toArray w (aH w R):=by
 refine oT (n:=9) (callsIn_of_wp_marks hf hb trivial ?_)
 rw[jE]
 exact h
def dO (w:World):ee w (w.putObj D (.deferred none)) D:=
 ⟨rfl,rfl,rfl,by simp,λk hk=>World.putObj_heap_other hk⟩
def jM (hK:lv w' D)(hr:(results fn (act N e [⟨.collected D,#[]⟩]).tmps).run P (w'.putObj D (.deferred none))=.ok v (w'.putObj D (.deferred none)))(hx:aO w (w'.putObj D (.deferred none)))(hR:R v (w'.putObj D (.deferred none))):bodyPostM Fence.wide 9 P fn (aH w R) .ret (act N e [⟨.collected D,#[]⟩]) w':=
 ⟨by simp,.inl ⟨D,_,rfl,run_takeDeferred hK,v,hr,hx,hR⟩⟩
def NE {t:Nat}(hK:lv w' D)(hres:fn.results=#[.tmp t])(hx:aO w w')(hD:w.heap.size<=D)(hR:R v (w'.putObj D (.deferred none)))(hv:ev N e (.tmp t)=v):bodyPostM Fence.wide 9 P fn (aH w R) .ret (act N e [⟨.collected D,#[]⟩]) w':=
 jM hK (ci hres (aM hv _)) ((dO w').low hx hD) hR
def xQ (hr:(results fn (act N e []).tmps).run P w'=.ok v w')(hx:aO w w')(hR:R v w'):bodyPostM Fence.wide 9 P fn (aH w R) .ret (act N e []) w':=
 ⟨v,hr,hx,hR⟩
def ar.dfr {cs:Array Value}(hK:lv w D)(h:ar w b t cs):ar (w.putObj D (.deferred none)) b t cs:=(dO w).blk (λe=>hK.ne h e.symm) h
def Rw.dfr {A:Option Addr}(hK:lv w D)(h:Rw w lo A cs):Rw (w.putObj D (.deferred none)) lo A cs:=by
 refine⟨λj u hu=>?_,h.lo,λH e=>by rw[(dO w).size];exact h.hi H e⟩
 obtain⟨b,o,e,hc⟩:=h.cells j u hu
 refine⟨b,o,e,?_⟩
 rw[<-hc]
 refine(dO w).cell ?_
 intro hb
 simp only at hb
 subst hb
 obtain⟨_,E,G⟩:=cells_of_cell hc
 rw[show w.heap[b]?=some (.deferred (some []))from hK]at E
 cases E;cases G
def xR {Q:Exit->Act->World->Prop}{l d ty:Nat}{pos:String}{af:Array Edge}{x:Operand}{R:Ending->World->Prop}(hx:ev N e x=.func (.yield l) #[] #[])(hv:xs.toList.map (ev N e)=vs)(hy:YieldAt Fence.wide 7 P l vs.toArray w R)(hk:∀c w',R c w'->match c with| .returned v=>K (act N (upd e d v) ds) w'|_=>False):Oper.wpIn (Fw none) 8 P ⟨some d,.call {callee:=.value x,args:=xs,argTypes:=ats},ty,pos,af,none⟩ (act N e ds) w K Q:=by
 subst hv
 obtain⟨fn,tmps,assign,body,hr,hR⟩:=hy
 have E:(xs.toList.map (ev N e)).toArray=xs.map (ev N e):=by rw[<-Array.toList_map,Array.toArray_toList]
 rw[E]at hr
 refine⟨λf _=>kF none f,?_⟩
 rw[iT Z,cW]
 have:(execOp (ev N e) ⟨some d,.call {callee:=.value x,args:=xs,argTypes:=ats},ty,pos,af,none⟩).run P w=.ok (.round l fn tmps assign body) w:=by
  simp[execOp,resolve,Deferred.ofValue,hx,invoke,hr]
 rw[this]
 refine⟨(λh=>by rw[mp]at h;cases h),hR.mono ?_⟩
 intro c w' h
 have:=hk c w' h
 cases c with
 |returned v=>simp only at this ⊢;rw[ax];exact this
 |panicked c=>exact this.elim
 |outgrown=>exact this.elim
def qH {F:Fence}{g:Nat}{R:Ending->World->Prop}{a:Value}(h:CallsIn F n P g (a::lb).toArray W R):CallsIn F n P g (#[a]++lb.toArray) W R:=by
 have:(#[a]++lb.toArray)=(a::lb).toArray:=by simp
 rw[this];exact h
def Eu {R:Ending->World->Prop}(hf:P.funcs[f]?=some fn)(hb:fn.body=some c)(h:c.wpIn (Fw none) 8 P (bodyPost P fn R) (act (args.length+(fn.ntmps-args.length)) (Ii args) []) w):CallsIn Fence.wide 8 P f args.toArray w R:=by
 refine callsIn_of_wp hf hb trivial ?_
 rw[jE]
 exact h
def NF {R:Ending->World->Prop}(hres:fn.results=#[])(hR:∀v,R (.returned v) w'):bodyPost P fn R .ret (act N e []) w':=
 ⟨rfl,_,nG hres,hR _⟩
def sE {R:Ending->World->Prop}(hres:fn.results=#[])(hR:∀v,R (.returned v) w'):bodyPost P fn R .normal (act N e []) w':=
 ⟨rfl,_,nG hres,hR _⟩
def rJ {JT J' Kp:Prop}{c:Ending}(h:(c=.returned (.bool true)/\JT/\Kp)\/(c=.returned (.bool false)/\J')):∃q,c=.returned (.bool q)/\(q=true->JT/\Kp)/\(q=false->J'):=by
 rcases h with⟨h1,h2,h3⟩|⟨h1,h2⟩
 · exact⟨true,h1,λ_=>⟨h2,h3⟩,λh=>by cases h⟩
 · exact⟨false,h1,λh=>by(cases h),λ_=>h2⟩
end range
section
variable {P:Program}{r:Option Nat}{Q:Exit->Act->World->Prop}
variable {d ty:Nat}{pos:String}{af:Array Edge}{g:Option (Nat×Bool)}{x y:Operand}{t':TypeId}
def gg {k k':IntKind}{D:TypeDesc}(hs:P.underlying src=some D)(hd:P.underlying dst=some (.int k'))(hx:ev N e x=.int k a)(hc:k'.wrap a=c)(hk:K (act N (upd e d (.int k' c)) ds) w):
 Oper.wpIn (Fw r) n P ⟨some d,.convert src dst x,ty,pos,af,g⟩ (act N e ds) w K Q:=by
 refine cQ (v:=.int k' c) (w':=w) Z ?_ RW
 subst hc
 simp[execOp,hx,convert,run_underlying hs,run_underlying hd,Conv.intToInt]
def Wu {k k':IntKind}{b:Int}(hx:ev N e x=.int k a)(hy:ev N e y=.int k' b)(hb:0<=b/\b<=8)(hc:a/2^b.toNat=c)(hk:K (act N (upd e d (.int k c)) ds) w):
 Oper.wpIn (Fw r) n P ⟨some d,.binOp .shr t x y t',ty,pos,af,g⟩ (act N e ds) w K Q:=by
 refine dR hx hy (cg ..) ?_ hk
 have h1:¬b<0:=J
 have h2:min b.toNat k.bits=b.toNat:=by
  have:8<=k.bits:=by cases k <;>decide
  omega
 subst hc
 simp only[binOp,Op.shift,h1,if_false,h2]
 simp[Int.fdiv_eq_ediv_of_nonneg _ (show(0:Int)<=2^b.toNat from Int.le_of_lt (Int.pow_pos J))]
def Ev {R:Value->World->Prop}(hf:Enters P f)(hx:ev N e x=.func (.func f) la.toArray #[])(hv:xs.toList.map (ev N e)=vs)(hc:Calls P f (la++vs).toArray w (aH w R))(hk:∀v w',aO w w'->R v w'->K (act N (upd e d v) ds) w'):Oper.wpIn (Fw r) n P ⟨some d,.call {callee:=.value x,args:=xs,argTypes:=ats},ty,pos,af,g⟩ (act N e ds) w K Q:=by
 subst hv
 have h2:la.toArray++xs.map (ev N e)=(la++xs.toList.map (ev N e)).toArray:=by simp
 refine sy (f:=f) (args:=la.toArray++xs.map (ev N e)) (R:=R) Z ?_ (by rw[h2];exact hc) (λv w' h1 h2=>by rw[ax];exact hk v w' h1 h2)
 simp[execOp,resolve,Deferred.ofValue,hx,invoke,hf _ _]
def Ew {m:Nat}{xs:List Value}(h:w.ownsRow base el sz (.slice (some ⟨b,0,none⟩) m m) m xs):ar w b el xs.toArray:=by
 obtain⟨hl,⟨hv,_⟩|⟨g,cap,G,hv,H,E,hc,hm,hs,ht⟩⟩:=h
 · cases hv
 · simp only[Value.slice.injEq]at hv
   obtain⟨hv,-,rfl⟩:=hv
   cases hv
   rw[List.take_of_length_le (by simp[hs])]at ht
   subst ht
   simpa[ar]using E
def Rw.of_blk {xs:List Value}(h:ar w b el xs.toArray)(hb:lo<=b):Rw w lo (some ⟨b,0,none⟩) xs:=by
 refine⟨λj u hu=>⟨b,0,rfl,?_⟩,λE e=>by cases e;exact hb,λE e=>by cases e;exact h.lt⟩
 rw[Nat.zero_add]
 exact h.cell (by simpa using hu)
def ae3:=@Rw.of_blk
def Ti (p:Nat->Prop):List Nat->Prop
 |[]=>True
 |i::is=>p i/\Ti p is
def zL {p:Nat->Prop}:∀{l:List Nat},Ti p l->∀i∈l,p i
 | _::_,h,i,hi=>by
   rcases List.mem_cons.1 hi with rfl|hi
   · exact h.1
   · exact zL h.2 i hi
def NG {id:Nat}(hm:P.follows .mixedOrders=true)(h:wpAnyIn (Fw r) n P .any l.toArray Q l.length (Array.replicate l.length false) (act N e ds) w.drew):(Code.region id l.toArray true).wpIn (Fw r) n P Q (act N e ds) w:=
 wpIn_region_any hm h
def g6 {listed:Array Bool}{is:List Nat}{a:Act}(hr:Region.ready .any l.toArray listed=i::is)(h:Ti (λi=>wpOpIn (Fw r) n P l.toArray Q i (wpAnyIn (Fw r) n P .any l.toArray Q fuel (listed.setIfInBounds i true)) a w) (i::is)):wpAnyIn (Fw r) n P .any l.toArray Q (fuel+1) listed a w:=
 ⟨λG=>(by rw[hr]at G;cases G),λj E=>zL h j (by rw[hr]at E;exact E)⟩
def mJ {a:Act}{dst:Option Nat}{op:Op}(ho:l[i]?=some ⟨dst,op,ty,pos,af,none⟩)(h:Oper.wpIn (Fw r) n P ⟨dst,op,ty,pos,af,none⟩ a w K Q):wpOpIn (Fw r) n P l.toArray Q i K a w:=by
 unfold wpOpIn
 rw[List.getElem?_toArray,ho]
 simp only[Region.wanted,if_true]
 exact h
def Ex {listed:Array Bool}{a:Act}(hr:Region.ready .any l.toArray listed=[])(h:Q .normal a w):wpAnyIn (Fw r) n P .any l.toArray Q 0 listed a w:=⟨hr,h⟩
def wrap_i64 (h:-9223372036854775808<=a/\a<=9223372036854775807):IntKind.i64.wrap a=a:=lk h
def wrap_u64 (h:0<=a/\a<=18446744073709551615):IntKind.u64.wrap a=a:=by
 have h1:a%18446744073709551616=a:=Int.emod_eq_of_lt h.1 J
 simp[IntKind.wrap,IntKind.bits,IntKind.signed,h1]
def Cf.ext {a:Addr}(k:aO w w')(h:w.cell? a=some v):w'.cell? a=some v:=k.cell h
def IY {k:IntKind}{b:Int}(hx:ev N e x=.int k a)(hy:ev N e y=.int k b)(hc:k.wrap (a-b)=c)(hk:K (act N (upd e d (.int k c)) ds) w):
 Oper.wpIn (Fw r) n P ⟨some d,.binOp .sub t x y t',ty,pos,af,g⟩ (act N e ds) w K Q:=
 dR hx hy (cg ..) (by subst hc;simp[binOp,Op.intArith]) hk
def wrap_u8 (h:0<=a/\a<=255):IntKind.u8.wrap a=a:=by
 have h1:a%256=a:=Int.emod_eq_of_lt h.1 J
 simp[IntKind.wrap,IntKind.bits,IntKind.signed,h1]
def Wv {op:Op}{q:Bool}(hj:db l j=some s)(hv:ev N e (.tmp s)=undef)(hs:Nat.blt s N=true)(h:wpListIn (Fw r) n P l.toArray Q rest (act N (upd e dd undef) ds) w):wpListIn (Fw r) n P l.toArray Q (⟨some dd,op,ty,pos,af,some (j,q)⟩::rest) (act N e ds) w:=by
 have hj':(l.toArray[j]?).bind (·.dst)=some s:=by rw[List.getElem?_toArray];exact hj
 have hy:yielded l.toArray (act N e ds).tmps j=none:=by
  have h2:(act N e ds).eval (.tmp s)=undef:=by rw[cW];exact hv
  simp only[Act.eval]at h2
  have hs':s<(act N e ds).tmps.size:=by rw[Nat.blt_eq]at hs;simpa[act]using hs
  simp only[Array.getD,hs',dif_pos]at h2
  have h3:(act N e ds).tmps[s]?=some undef:=by rw[Array.getElem?_eq_getElem hs'];exact qb2 some h2
  unfold yielded;rw[hj',Option.bind_some,h3];rfl
 unfold wpListIn
 rw[if_neg (by simp[Region.wanted,hy])]
 exact⟨λf _=>kF r f,by rw[ax];exact h⟩
def dz {l:List UInt8}(h:i<l.length):l[i]?=some (l.getD i 0):=by rw[List.getElem?_eq_getElem h];simp[List.getD,h]
def tJ (hx:ev N e x=.pointer (some ⟨b,o,none⟩))(hk:K (act N (upd e d (.pointer (some ⟨b,o,none⟩))) ds) w):
 Oper.wpIn (Fw r) n P ⟨some d,.nilCheck x,ty,pos,af,g⟩ (act N e ds) w K Q:=by
 refine cQ (v:=.pointer (some ⟨b,o,none⟩)) (w':=w) Z ?_ RW
 simp[execOp,hx]
def j9 {l:List UInt8}{m:Nat}(hu:P.underlying t=some .string)(hx:ev N e x=S l)(hm:l.length=m)(hk:K (act N (upd e d (.int .i64 ((m:Nat):Int))) ds) w):
 Oper.wpIn (Fw r) n P ⟨some d,.call {callee:=.builtin .len,args:=#[x],argTypes:=#[t]},ty,pos,af,g⟩ (act N e ds) w K Q:=
 dE (l:=l) hu hx (by rw[hm];exact hk)
def bK :W.ownsRow base et sz (.slice none 0 0) 0 []:=⟨by simp,.inl ⟨rfl,rfl⟩⟩
def bn (h:W.ownsRow base et sz v k cs):v.ownBlock≠some W.heap.size:=by
 obtain⟨hl,⟨rfl,_⟩|⟨g,cap,G,rfl,H,E,_⟩⟩:=h
 · simp[Value.ownBlock]
 · have:g<W.heap.size:=(Array.getElem?_eq_some_iff.1 E).1
   simp[Value.ownBlock];omega
def aR (ha:v'.ownBlock=v.ownBlock\/v'.ownBlock=some W.heap.size)(hn:v.ownBlock≠some b)(hb:b<W.heap.size):v'.ownBlock≠some b:=by
 rcases ha with h|h
 · rw[h];exact hn
 · rw[h];simp;omega
def ay (v u:Value):Prop:=∀g,v.ownBlock=some g->u.ownBlock≠some g
def ay.symm (h:ay v u):ay u v:=λg E e=>h g e E
def aa5:=@ay.symm
def ay.nil {c:Nat}:ay (.slice none n c) u:=λg E=>by simp[Value.ownBlock]at E
def ad2:=@ay.nil
def ay.app (ha:v'.ownBlock=v.ownBlock\/v'.ownBlock=some W.heap.size)(hn:ay v u)(hu:W.ownsRow base et sz u k cs):ay v' u:=by
 intro g E
 rcases ha with h|h
 · exact hn g (by rw[<-h];exact E)
 · rw[h]at E;cases E;exact bn hu
def ab0:=@ay.app
def ay.gr (hn:ay v u)(hg:W.grownBy W' v.ownBlock)(h:W.ownsRow base et sz u k cs):W'.ownsRow base et sz u k cs:=
 nW hg (λg h1 h2=>hn g h2.symm h1) h
def ab3:=@ay.gr
def aS (h:W.ownsRow base et sz v k cs):∀g,v.ownBlock=some g->base<=g:=by
 obtain⟨hl,⟨rfl,_⟩|⟨g,cap,E,rfl,G,H,_⟩⟩:=h
 · simp[Value.ownBlock]
 · intro _ e;simp[Value.ownBlock]at e;omega
def bu {B:Nat}(h:W.ownsRow base et sz v k cs)(hB:B<=base)(hBw:B<=W.heap.size)(hE:Below B W0 W)(hg:W.grownBy W' v.ownBlock):Below B W0 W':=
 cS hE hg hBw (λg e=>qa8 hB (aS h g e))
def aP (h:W.ownsRow base et sz v k cs)(hk:k=k')(hc:cs=cs'):W.ownsRow base et sz v k' cs':=by subst hk hc;exact h
def bP (h:W.ownsRow base et sz v k cs):v.oneCell'=true:=by
 obtain⟨hl,⟨rfl,_⟩|⟨g,cap,E,rfl,_⟩⟩:=h <;>rfl
def kv (R:Value->World->Prop):Ending->World->Prop
 | .returned v,w'=>R v w'
 |_,_=>False
def bL {R:Value->World->Prop}(hf:Enters P f)(hv:xs.toList.map (ev N e)=vs)(hc:Calls P f vs.toArray w (kv R))(hk:∀v w',R v w'->K (act N (upd e d v) ds) w'):Oper.wpIn (Fw r) n P ⟨some d,.call {callee:=.value (.func f),args:=xs,argTypes:=ats},ty,pos,af,g⟩ (act N e ds) w K Q:=by
 subst hv
 refine⟨λf _=>kF r f,?_⟩
 have hs:(execOp (ev N e) ⟨some d,.call {callee:=.value (.func f),args:=xs,argTypes:=ats},ty,pos,af,g⟩).run P w=.ok (.enter f (xs.map (ev N e))) w:=by
  simp[execOp,resolve,Deferred.ofValue,ev,invoke,hf _ _]
 rw[iT Z,cW,hs]
 refine⟨(λh=>by rw[mp]at h;cases h),oS ((show Calls P f (xs.map (ev N e)) w (kv R)from by have h:=hc;rwa [show(xs.toList.map (ev N e)).toArray=xs.map (ev N e)by rw[<-Array.toList_map,Array.toArray_toList]]at h).mono ?_)⟩
 intro e' w' h
 cases e' with
 | returned v=>
   show K ((act N e ds).put (some d) v) w'
   rw[ax];exact hk v w' h
 |panicked c=>exact h.elim
 |outgrown=>exact h.elim
def Ey {args:Array Value}{R:Ending->World->Prop}{Q:Value->World->Prop}(h:Calls P f args w R)(hq:∀e w',R e w'->∃v,e=.returned v/\Q v w'):Calls P f args w (kv Q):=
 h.mono (by
  intro e w' hR
  obtain⟨v,rfl,h2⟩:=hq e w' hR
  exact h2)
def lw {C:World}{row:Option Nat}(h:A.grownBy B row)(k:aO B C):A.grownBy C row:=
 ⟨k.os.trans h.os,k.tape.trans h.tape,k.output.trans h.output,qa8 h.size k.size,λi hi hr=>(k.block i (qb1 hi h.size)).trans (h.block i hi hr)⟩
def Cx {C:World}(h:A.grownBy B (some b))(k:ee B C b):A.grownBy C (some b):=
 ⟨k.os.trans h.os,k.tape.trans h.tape,k.output.trans h.output,by rw[k.size];exact h.size,λi hi hr=>(k.block i (λe=>hr (by rw[e]))).trans (h.block i hi hr)⟩
def ju {C:World}{row:Option Nat}(h:A.grownBy B row)(k:ee B C b)(hb:A.heap.size<=b):A.grownBy C row:=
 ⟨k.os.trans h.os,k.tape.trans h.tape,k.output.trans h.output,by rw[k.size];exact h.size,λi hi hr=>(k.block i J).trans (h.block i hi hr)⟩
def gz {C:World}{row:Option Nat}(h:A.grownBy B row)(k:B.grownBy C row):A.grownBy C row:=
 ⟨k.os.trans h.os,k.tape.trans h.tape,k.output.trans h.output,qa8 h.size k.size,λi hi hr=>(k.block i (qb1 hi h.size) hr).trans (h.block i hi hr)⟩
def zM {c:Code}{R:Value->World->Prop}(hf:P.funcs[f]?=some fn)(hb:fn.body=some c)(h:c.wpIn (Fw none) 0 P (bodyPost P fn (kv R)) (act (args.length+(fn.ntmps-args.length)) (Ii args) []) w):Calls P f args.toArray w (kv R):=by
 refine oT (n:=0) (callsIn_of_wp hf hb trivial ?_)
 rw[jE]
 exact h
def g7 {R:Value->World->Prop}(hr:(results fn (act N e []).tmps).run P w'=.ok v w')(hR:R v w'):bodyPost P fn (kv R) .ret (act N e []) w':=
 ⟨rfl,v,hr,hR⟩
def Tj {R:Value->World->Prop}(hr:(results fn (act N e []).tmps).run P w'=.ok v w')(hR:R v w'):bodyPost P fn (kv R) .normal (act N e []) w':=
 ⟨rfl,v,hr,hR⟩
end
section draws
variable {P:Program}{r:Option Nat}{e0:Nat->Value}{Q:Exit->Act->World->Prop}{ops:Array Oper}{M:Nat}
def NH {id:Nat}(hm:P.follows .mixedOrders=true)(M:Nat)(R:World->World->Prop)(hR0:∀w,R w w.drew)(hRt:∀a b c,R a b->R b c->R a c)(Φ:Nat->Value->World->Prop)(hΦ:∀i v w w',R w w'->Φ i v w->Φ i v w')(JT:(Nat->Bool)->World->Prop)(hJ0:JT (λ_=>false) w0.drew)(hwf:∀(i:Nat) (o:Oper),l.toArray[i]?=some o->∀e∈o.after,Region.binds .any e=true->e.on<i)(hshape:Region.sinkB .any l.toArray M=true/\Region.chainB .any l.toArray M=true/\M<l.toArray.size\/M=l.toArray.size)(hdst:∀i j d,i<M->j<M->(l.toArray[i]?).bind (·.dst)=some d->(l.toArray[j]?).bind (·.dst)=some d->i=j)(hstep:∀(i:Nat) (o:Oper),i<M->l.toArray[i]? =some o->∀(e:Nat->Value) (w:World) (ls:Nat->Bool),JT ls w->(∀j oj,l.toArray[j]? =some oj->ls j=true->∀ed∈oj.after,Region.binds .any ed=true->ls ed.on=true)->ls i=false->(∀ed∈o.after,Region.binds .any ed=true->ls ed.on=true)->R w0 w->(∀t,(∀j,j<M->(l.toArray[j]?).bind (·.dst)≠some t)->e t=e0 t)->
 (∀j,(∃ed∈o.after,Region.binds .any ed=true/\ed.on=j)->∀d,(l.toArray[j]?).bind (·.dst)=some d->Φ j (e d) w)->
 wpListIn (Fw r) n P l.toArray (λx a' w'=>x=.normal/\∃v,a'=(act N e ds).put o.dst v/\R w w'/\Φ i v w'/\JT (λj=>if j=i then true else ls j) w') [o] (act N e ds) w)(hfin:∀(e:Nat->Value) (w:World),(∃ls:Nat->Bool,(∀j,j<M->ls j=true)/\JT ls w)->R w0 w->(∀t,(∀j,j<M->(l.toArray[j]?).bind (·.dst)≠some t)->e t=e0 t)->
 (∀j d,j<M->(l.toArray[j]?).bind (·.dst)=some d->Φ j (e d) w)->wpListIn (Fw r) n P l.toArray Q (l.drop M) (act N e ds) w):
 (Code.region id l.toArray true).wpIn (Fw r) n P Q (act N e0 ds) w0:=by
 have hMle:M<=l.toArray.size:=by rcases hshape with⟨_,_,h⟩|h <;>omega
 have hchain:Region.chainB .any l.toArray M=true:=by
  rcases hshape with⟨_,h,_⟩|h
  · exact h
  · refine List.all_eq_true.2 λt ht=>?_
    have:=List.mem_range.1 ht
    simp only[Bool.or_eq_true,decide_eq_true_eq]
    left;omega
 refine wpIn_region_any hm ?_
 have main : ∀ (fuel:Nat) (listed:Array Bool) (e:Nat->Value) (w:World),left l.toArray listed<=fuel->HeadInv .any l.toArray M listed->JT (λj=>listed.getD j false) w->R w0 w->
  (∀t,(∀j,j<M->(l.toArray[j]?).bind (·.dst)≠some t)->e t=e0 t)->
  (∀j d,j<M->listed.getD j false=true->(l.toArray[j]?).bind (·.dst)=some d->Φ j (e d) w)->
  wpAnyIn (Fw r) n P .any l.toArray Q fuel listed (act N e ds) w:=by
  intro fuel
  induction fuel with
  | zero=>
    intro listed e w hf inv hJ hR hs hφ
    have A1:∀i,i<l.toArray.size->listed.getD i false=true:=by
     intro i hi
     cases hb:listed.getD i false with
     |true=>rfl
     | false=>
       have:=kH hi inv.size hb
       omega
    refine kG hchain hwf 0 l.toArray.size listed _ w 0 Z hMle inv.size A1 (λi h1 h2=>by omega) (qa0 _) ?_
    by_cases hM:M=l.toArray.size
    · have h:=hfin e w ⟨_,λj E=>A1 j J,hJ⟩ hR hs (λj d E hd=>hφ j d E (A1 j J) hd)
      rw[hM]at h
      simpa using h
    · have h1:=inv.tail M (qa0 _) J
      have h2:=A1 M J
      rw[getD_both h1]at h2
      cases h2
  | succ fuel ih=>
    intro listed e w hf inv hJ hR hs hφ
    by_cases hdone:∀i,i<M->listed.getD i false=true
    · refine kG hchain hwf (l.toArray.size-M) M listed _ w (fuel+1) J (qa0 _) inv.size hdone (λi h1 h2=>inv.tail i h1 h2) ?_ ?_
      · have h1:l.toArray.size-M<=left l.toArray listed:=qB hMle (λi h1 h2=>getD_both (inv.tail i h1 h2))
        omega
      · simpa using hfin e w ⟨_,λj E=>hdone j E,hJ⟩ hR hs (λj d E hd=>hφ j d E (hdone j E) hd)
    · have hex:∃i,i<M/\listed.getD i false=false:=by
       refine qb6 λAb=>hdone λi hi=>?_
       cases hb:listed.getD i false with
       |true=>rfl
       |false=>exact absurd ⟨i,hi,hb⟩ Ab
      obtain⟨Af,As,Am⟩:=hex
      have Aq:∀i∈Region.ready .any l.toArray listed,i<M:=by
       intro i hi
       rcases Nat.lt_or_ge i M with h|h
       · exact h
       · rcases hshape with⟨h1,h2,h3⟩|h3
         · exact absurd hi (tail_waits h1 h2 h3 inv _ Af Z As (getD_in (by rw[inv.size];omega) Am) i h)
         · obtain⟨_,o,ho,_⟩:=mem_ready.1 hi
           have:=(Array.getElem?_eq_some_iff.1 ho).1
           omega
      refine⟨λAr=>?_,λi hi=>?_⟩
      ·
       exfalso
       have least:∀k i,i<=k->i<l.toArray.size->listed.getD i false=false->∃j,j∈Region.ready .any l.toArray listed:=by
        intro k
        induction k with
        | zero=>
          intro i hi hl hb
          obtain rfl:i=0:=J
          refine⟨0,mem_ready.2 ⟨getD_in kb0 hb,l.toArray[0],Array.getElem?_eq_getElem hl,λed H A0=>?_⟩⟩
          have:=hwf 0 _ (Array.getElem?_eq_getElem hl) ed H A0
          omega
        | succ k ihk=>
          intro i hi hl hb
          by_cases hp:∀ed∈(l.toArray[i]).after,Region.binds .any ed=true->listed.getD ed.on false=true
          · exact⟨i,mem_ready.2 ⟨getD_in kb0 hb,l.toArray[i],Array.getElem?_eq_getElem hl,hp⟩⟩
          · have:∃ed∈(l.toArray[i]).after,Region.binds .any ed=true/\listed.getD ed.on false=false:=by
             refine qb6 λAb=>hp λed H A0=>?_
             cases hb:listed.getD ed.on false with
             |true=>rfl
             |false=>exact absurd ⟨ed,H,A0,hb⟩ Ab
            obtain⟨ed,H,A0,A2⟩:=this
            have hlt:=hwf i _ (Array.getElem?_eq_getElem hl) ed H A0
            exact ihk ed.on J J A2
       obtain⟨j,E⟩:=least Af Af (qa0 _) J Am
       rw[Ar]at E
       cases E
      · have hiM:=Aq i hi
        obtain⟨A2,o,ho,hpred⟩:=mem_ready.1 hi
        have O:=hstep i o hiM ho e w (λj=>listed.getD j false) hJ (λj oj E hl=>inv.closed j oj E hl) (getD_both A2) hpred hR hs (λj ⟨ed,H,hb,Av⟩ d hd=>hφ j d (by have:=hwf i o ho ed H hb;omega) (by rw[<-Av];exact hpred ed H hb) hd)
        have hnext:∀a' w',(∃v,a'=(act N e ds).put o.dst v/\R w w'/\Φ i v w'/\JT (λj=>if j=i then true else listed.getD j false) w')->wpAnyIn (Fw r) n P .any l.toArray Q fuel (listed.setIfInBounds i true) a' w':=by
         rintro a' w' ⟨v,rfl,hR',hv,hJ'⟩
         have Ax:i<l.toArray.size:=J
         have hJ2:JT (λj=>(listed.setIfInBounds i true).getD j false) w':=by
          have e:(λj=>(listed.setIfInBounds i true).getD j false)=(λj=>if j=i then true else listed.getD j false):=by
           funext j
           by_cases E:j=i
           · subst E;rw[if_pos Z];have:=inv.size;simp[Array.getD,this];omega
           · rw[if_neg E,getD_set_ne false (λh=>E h.symm)]
          rw[e];exact hJ'
         have Ao:left l.toArray (listed.setIfInBounds i true)<=fuel:=by
          have:=kH Ax inv.size (getD_both A2)
          omega
         cases hd:o.dst with
         | none=>
           refine ih _ e w' Ao (inv.set hi hiM) hJ2 (hRt _ _ _ hR hR') hs (λj d E hl G=>?_)
           by_cases hij:i=j
           · subst hij;rw[ho]at G;simp[hd]at G
           · rw[getD_set_ne false hij]at hl;exact hΦ _ _ _ _ hR' (hφ j d E hl G)
         | some d0=>
           rw[ax]
           refine ih _ _ w' Ao (inv.set hi hiM) hJ2 (hRt _ _ _ hR hR') (λt ht=>?_) (λj d E hl G=>?_)
           · have:t≠d0:=λh=>ht i hiM (by rw[ho];simp[hd,h])
             rw[upd_ne _ _ this];exact hs t ht
           · by_cases hij:i=j
             · subst hij
               rw[ho]at G
               simp only[Option.bind_some,hd,Option.some.injEq]at G
               subst G
               rw[kr];exact hv
             · rw[getD_set_ne false hij]at hl
               have Ap:d≠d0:=λh=>hij (hdst i j d hiM E (by rw[ho];simp[hd,h]) G)
               rw[upd_ne _ _ Ap]
               exact hΦ _ _ _ _ hR' (hφ j d E hl G)
        unfold wpOpIn
        rw[ho]
        dsimp only
        unfold wpListIn at O
        split
        · rename_i hw
          rw[if_pos hw]at O
          exact iw (λa' w' Aw=>hnext a' w' Aw.2) (λc a w h=>by cases h.1) (λa w h=>by cases h.1) O
        · rename_i hw
          rw[if_neg hw]at O
          exact⟨O.1,hnext _ _ O.2.2⟩
 refine main _ _ e0 w0.drew ?_ ⟨by simp,λj oj E hl=>?_,λt h1 h2=>?_⟩ ((congrArg (λf=>JT f w0.drew) (funext λj=>getD_replicate_false _ j)).mpr hJ0) (hR0 w0) (λ_ _=>rfl) (λj d E hl=>?_)
 · unfold left
   exact qa8 (List.length_filter_le _ _) Rg
 · rw[getD_replicate_false]at hl;cases hl
 · have h3:t<l.length:=by simpa using h2
   simp[h3]
 · rw[getD_replicate_false]at hl;cases hl
def nN (C:List Nat)(i:Nat):Option Nat:=C.findIdx? (Nat.beq i)
def Tk (l:List Oper)(C:List Nat):Bool:=(List.range C.length).all λp=>match C[p]? with
 |none=>false
 |some c=>Nat.beq p 0||(match C[p-1]?,l[c]? with|some c',some o=>ck o c'|_,_=>false)
def nodupB (C:List Nat):Bool:=(List.range C.length).all λp=>(List.range C.length).all λq=>Nat.beq p q||(match C[p]?,C[q]? with|some a,some b=>!Nat.beq a b|_,_=>true)
def cnt (C:List Nat)(ls:Nat->Bool):Nat:=(C.filter ls).length
def IZ (r:Option Nat)(n:Nat)(P:Program)(N:Nat)(ds:List Deferred)(l:List Oper)(M:Nat)(R:World->World->Prop)(Φ:List (Value->World->Prop))(C:List Nat)(zl:Nat->World->Prop)(e0:Nat->Value)(w0:World):Nat->List Oper->List (Value->World->Prop)->Prop
 |_,[],_=>True
 |_,_::_,[]=>False
 |i,o::os,φ::φs=>(∀(e:Nat->Value) (w:World) (k:Nat),zl k w->(∀p,nN C i=some p->k=p)->R w0 w->(∀t,lZ l M t=false->e t=e0 t)->(∀j d,ck o j=true->db l j=some d->phi Φ j (e d) w)->
  wpListIn (Fw r) n P l.toArray (λx a' w'=>x=.normal/\∃v,a'=(act N e ds).put o.dst v/\R w w'/\φ v w'/\zl (match nN C i with|some p=>p+1|none=>k) w') [o] (act N e ds) w)/\IZ r n P N ds l M R Φ C zl e0 w0 (i+1) os φs
def wx {l:List Oper}{R:World->World->Prop}{Φ:List (Value->World->Prop)}{C:List Nat}{zl:Nat->World->Prop}:∀(os:List Oper) (φs:List (Value->World->Prop)) (i0:Nat),IZ r n P N ds l M R Φ C zl e0 w0 i0 os φs->∀i o,os[i]?=some o->
 (∀(e:Nat->Value) (w:World) (k:Nat),zl k w->(∀p,nN C (i0+i)=some p->k=p)->R w0 w->(∀t,lZ l M t=false->e t=e0 t)->(∀j d,ck o j=true->db l j=some d->phi Φ j (e d) w)->
  wpListIn (Fw r) n P l.toArray (λx a' w'=>x=.normal/\∃v,a'=(act N e ds).put o.dst v/\R w w'/\phi φs i v w'/\zl (match nN C (i0+i)with|some p=>p+1|none=>k) w') [o] (act N e ds) w)
 |[],_,_,_,i,o,h=>by simp at h
 |o'::os,[],_,h,i,o,ho=>h.elim
 |o'::os,φ::φs,i0,h,0,o,ho=>by simp at ho;subst ho;exact h.1
 | o'::os,φ::φs,i0,h,i+1,o,ho=>by
   have:=wx os φs (i0+1) h.2 i o ka6
   rw[show i0+1+i=i0+(i+1)by omega]at this
   simpa only[phi,List.getElem?_cons_succ]using this
def tK (h:nN C i=some p):C[p]?=some i:=by
 unfold nN at h
 obtain⟨h1,h2,_⟩:=List.findIdx?_eq_some_iff_getElem.1 h
 rw[List.getElem?_eq_getElem h1,Nat.eq_of_beq_eq_true h2]
def Cy (h:nN C i=none):i∉C:=by
 unfold nN at h
 rw[List.findIdx?_eq_none_iff]at h
 intro hm
 have:=h i hm
 simp at this
def NI (h:i∉C):cnt C (λj=>if j=i then true else ls j)=cnt C ls:=by
 unfold cnt
 congr 1
 apply List.filter_congr
 intro x hx
 rw[if_neg (λe=>h (by rw[<-e];exact hx))]
def NJ (h:∀c∈C,ls c=true):cnt C ls=C.length:=by
 unfold cnt;rw[List.filter_eq_self.2 h]
def wy (hp:p<=C.length)(h1:∀q c,q<p->C[q]?=some c->ls c=true)(h2:∀q c,p<=q->C[q]?=some c->ls c=false):cnt C ls=p:=by
 have e:C.filter ls=(C.take p).filter ls++(C.drop p).filter ls:=by rw[<-List.filter_append,List.take_append_drop]
 unfold cnt
 rw[e,List.length_append]
 have e1:(C.take p).filter ls=C.take p:=List.filter_eq_self.2 (λc hc=>by
  obtain⟨q,hq⟩:=List.mem_iff_getElem?.1 hc
  rw[List.getElem?_take]at hq
  split at hq
  · next hlt=>exact h1 q c hlt hq
  · cases hq)
 have e2:(C.drop p).filter ls=[]:=List.filter_eq_nil_iff.2 (λc hc=>by
  obtain⟨q,hq⟩:=List.mem_iff_getElem?.1 hc
  rw[List.getElem?_drop]at hq
  rw[h2 (p+q) c J hq];simp)
 rw[e1,e2];simp;omega
def I0 (hlink:∀p c c',C[p]?=some c'->C[p+1]?=some c->∃o,l[c]?=some o/\∃ed∈o.after,Region.binds .any ed=true/\ed.on=c')(hcl:∀j oj,l.toArray[j]?=some oj->ls j=true->∀ed∈oj.after,Region.binds .any ed=true->ls ed.on=true)(hget:∀j:Nat,l.toArray[j]?=l[j]?)(hni:ls i=false)(hpi:C[p]?=some i):∀q c,p<=q->C[q]?=some c->ls c=false:=by
 have Ab:∀d q c,C[q]?=some c->p+d=q->ls c=false:=by
  intro d
  induction d with
  | zero=>
    intro q c hq A2
    have:c=i:=by rw[show q=p by omega,hpi]at hq;exact(qb5 hq).symm
    rw[this];exact hni
  | succ d ih=>
    intro q c hq A2
    have E:p+d<C.length:=by have:=(List.getElem?_eq_some_iff.1 hq).1;omega
    obtain⟨A0,H,ed,A1,hb,G⟩:=hlink (p+d) c (C[p+d]) (qa5 E) (by rw[show p+d+1=q by omega];exact hq)
    have O:=ih (p+d) _ (qa5 E) Z
    cases hc:ls c with
    |false=>rfl
    | true=>
      have:=hcl c A0 (by rw[hget];exact H) hc ed A1 hb
      rw[G,O]at this
      cases this
 exact λq c hq hc=>Ab (q-p) q c hc J
def cnt_lt {o:Oper}(hlink:∀p c c',C[p]?=some c'->C[p+1]?=some c->∃o,l[c]?=some o/\∃ed∈o.after,Region.binds .any ed=true/\ed.on=c')(hcl:∀j oj,l.toArray[j]?=some oj->ls j=true->∀ed∈oj.after,Region.binds .any ed=true->ls ed.on=true)(hget:∀j:Nat,l.toArray[j]?=l[j]?)(hpi:C[p]?=some i)(ho:l[i]?=some o)(hpr:∀ed∈o.after,Region.binds .any ed=true->ls ed.on=true):∀q c,q<p->C[q]?=some c->ls c=true:=by
 have Ab:∀d q c,C[q]?=some c->q+d=p->0<d->ls c=true:=by
  intro d
  induction d with
  |zero=>intro q c _ _ Af;omega
  | succ d ih=>
    intro q c hq Am _
    have E:q+1<C.length:=by have:=(List.getElem?_eq_some_iff.1 hpi).1;omega
    obtain⟨A2,G,ed,O,hb,H⟩:=hlink q (C[q+1]) c hq (qa5 E)
    by_cases hd:d=0
    · subst hd
      have:C[q+1]=i:=by
       have A0:C[q+1]?=some i:=by rw[show q+1=p by omega];exact hpi
       rw[List.getElem?_eq_getElem E]at A0
       exact qb5 A0
      rw[this,ho]at G
      cases G
      have:=hpr ed O hb
      rwa [H]at this
    · have A1:=ih (q+1) (C[q+1]) (qa5 E) J J
      have:=hcl _ A2 (by rw[hget];exact G) A1 ed O hb
      rwa [H]at this
 exact λq c hq hc=>Ab (p-q) q c hc J J
def tL {o:Oper}{a:Act}(h:wpListIn (Fw r) n P l.toArray (λx a w=>x=.normal/\K1 a w) [o] a w)(hk:∀a w,K1 a w->K2 a w):wpListIn (Fw r) n P l.toArray (λx a w=>x=.normal/\K2 a w) [o] a w:=by
 unfold wpListIn at h ⊢
 split
 · rename_i hw
   rw[if_pos hw]at h
   exact iw (λa' w' E=>⟨E.1,hk _ _ E.2⟩) (λc a w h=>by cases h.1) (λa w h=>by cases h.1) h
 · rename_i hw
   rw[if_neg hw]at h
   exact⟨h.1,h.2.1,hk _ _ h.2.2⟩
def Tl {id:Nat}(hm:P.follows .mixedOrders=true)(M:Nat)(R:World->World->Prop)(hR0:∀w,R w w.drew)(hRt:∀a b c,R a b->R b c->R a c)(Φ:List (Value->World->Prop))(hΦ:xB R Φ)(hwf:Ni l=true)(hshape:ix l M=true)(hdst:Ik l M=true)(C:List Nat)(hC:Tk l C=true)(hN:nodupB C=true)(hCM:(C.all λc=>Nat.blt c M)=true)(zl:Nat->World->Prop)(hI0:zl 0 w0.drew)(hstep:IZ r n P N ds l M R Φ C zl e0 w0 0 (l.take M) Φ)(hfin:∀(e:Nat->Value) (w:World),zl C.length w->R w0 w->(∀t,lZ l M t=false->e t=e0 t)->(∀j d,Nat.blt j M=true->db l j=some d->phi Φ j (e d) w)->wpListIn (Fw r) n P l.toArray Q (l.drop M) (act N e ds) w):
 (Code.region id l.toArray true).wpIn (Fw r) n P Q (act N e0 ds) w0:=by
 have G:∀j:Nat,l.toArray[j]?=l[j]?:=λj=>by rw[List.getElem?_toArray]
 have Am:∀t,lZ l M t=false->∀j,j<M->(l.toArray[j]?).bind (·.dst)≠some t:=by
  intro t ht j A2 h
  rw[G]at h
  cases ho:l[j]? with
  |none=>rw[ho]at h;cases h
  | some o=>
    rw[ho]at h
    simp only[Option.bind_some]at h
    have h1:=List.any_eq_false.1 ht o (List.mem_iff_getElem?.2 ⟨j,by rw[List.getElem?_take,if_pos A2];exact ho⟩)
    rw[h]at h1
    simp at h1
 have hlink:∀p c Af,C[p]?=some Af->C[p+1]?=some c->∃o,l[c]?=some o/\∃O∈o.after,Region.binds .any O=true/\O.on=Af:=by
  intro p c Af h1 h2
  have h3:=List.all_eq_true.1 hC (p+1) (List.mem_range.2 (List.getElem?_eq_some_iff.1 h2).1)
  rw[h2]at h3
  simp only[Nat.add_sub_cancel,h1]at h3
  cases ho:l[c]? with
  |none=>rw[ho]at h3;simp at h3
  | some o=>
    rw[ho]at h3
    simp at h3
    obtain⟨O,A1,hb⟩:=List.any_eq_true.1 h3
    simp only[Bool.and_eq_true]at hb
    exact⟨o,rfl,O,by simpa using A1,hb.1,Nat.eq_of_beq_eq_true hb.2⟩
 have As:∀p q c:Nat,C[p]?=some c->C[q]?=some c->p=q:=by
  intro p q c h1 h2
  have h3:=List.all_eq_true.1 (List.all_eq_true.1 hN p (List.mem_range.2 (List.getElem?_eq_some_iff.1 h1).1)) q (List.mem_range.2 (List.getElem?_eq_some_iff.1 h2).1)
  rw[h1,h2]at h3
  simp at h3
  exact h3
 refine NH hm M R hR0 hRt (phi Φ) (nX hΦ) (λls w=>zl (cnt C ls) w) ?_ ?_ ?_ ?_ ?_ ?_
 · have:cnt C (λ_=>false)=0:=by unfold cnt;rw[List.filter_eq_nil_iff.2 Rg];rfl
   rw[this];exact hI0
 · intro i o ho O A1 hb
   rw[G]at ho
   have h1:=List.all_eq_true.1 hwf i (List.mem_range.2 (List.getElem?_eq_some_iff.1 ho).1)
   rw[ho]at h1
   have h2:=List.all_eq_true.1 h1 O (by simpa using A1)
   simp only[hb,Bool.not_true,Bool.false_or]at h2
   rwa [Nat.blt_eq]at h2
 · simp only[ix,Bool.or_eq_true,Bool.and_eq_true]at hshape
   rcases hshape with⟨⟨h1,h2⟩,h3⟩|h
   · rw[Nat.blt_eq]at h3;exact .inl ⟨h1,h2,by simpa using h3⟩
   · exact .inr ka8
 · intro i j d hi A2 Ap Ao
   have h1:=List.all_eq_true.1 (List.all_eq_true.1 hdst i (List.mem_range.2 hi)) j (List.mem_range.2 A2)
   rw[G]at Ap Ao
   simp only[db,Ap,Ao,Bool.or_eq_true]at h1
   rcases h1 with h1|h1
   · exact qb4 h1
   · simp at h1
 · intro i o hi ho e w ls hJ Ab Aq Ar hR hs hφ
   have ho':=ho
   rw[G]at ho
   have hk:∀p,nN C i=some p->cnt C ls=p:=by
    intro p E
    have H:=tK E
    refine wy (Nat.le_of_lt (List.getElem?_eq_some_iff.1 H).1) (cnt_lt hlink Ab G H ho Ar) (I0 hlink Ab G Aq H)
   have h1:=wx (l.take M) Φ 0 hstep i o (by rw[List.getElem?_take,if_pos hi];exact ho) e w (cnt C ls) hJ (λp E=>hk p (by rw[Nat.zero_add]at E;exact E)) hR (λt ht=>hs t (Am t ht)) (λj d E hd=>?_)
   · refine tL h1 ?_
     rintro _ w' ⟨v,Ax,hR',hv,hI'⟩
     refine⟨v,Ax,hR',hv,?_⟩
     rw[Nat.zero_add]at hI'
     cases E:nN C i with
     |none=>rw[E]at hI';show zl (cnt C _) w';rw[NI (Cy E)];exact hI'
     | some p=>
       rw[E]at hI'
       have Ay:=hk p E
       have H:=tK E
       show zl (cnt C _) w'
       have:cnt C (λj=>if j=i then true else ls j)=p+1:=by
        refine wy (by have:=(List.getElem?_eq_some_iff.1 H).1;omega) (λq c hq hc=>?_) (λq c hq hc=>?_)
        · by_cases A0:c=i
          · rw[if_pos A0]
          · rw [if_neg A0]
            have Av:q<p:=by
             rcases Nat.lt_or_ge q p with h|h
             · exact h
             · have:q=p:=J
               subst this;rw[H]at hc;exact absurd (qb5 hc).symm A0
            exact cnt_lt hlink Ab G H ho Ar q c Av hc
        · have A0:c≠i:=λe=>by subst e;have:=As _ _ _ hc H;omega
          rw[if_neg A0]
          exact I0 hlink Ab G Aq H q c J hc
       rw[this];exact hI'
   · obtain⟨O,A1,hb⟩:=List.any_eq_true.1 E
     simp only[Bool.and_eq_true]at hb
     exact hφ j ⟨O,by simpa using A1,hb.1,Nat.eq_of_beq_eq_true hb.2⟩ d (by rw[G];exact hd)
 · rintro e w ⟨ls,Aw,hJ⟩ hR hs hφ
   have hc:cnt C ls=C.length:=NJ (λc hc=>Aw c (by have:=List.all_eq_true.1 hCM c hc;rwa [Nat.blt_eq]at this))
   rw[hc]at hJ
   exact hfin e w hJ hR (λt ht=>hs t (Am t ht)) (λj d A2 hd=>hφ j d (by rwa [Nat.blt_eq]at A2) (by rw[G];exact hd))
end draws
section scope
variable {P:Program}{F:Fence}{b:Frame}{a:Act}{k:List Item}{cs:List Frame}{Q:Exit->Act->World->Prop}
def cY {c:Code}:step P (lone (b.atR a (.code (.scope c)::k)) cs w)=.next (lone (b.atR a (.code c:: .inScope c::k)) cs w):=
 step_lone_go (by simp[stepG,stepG.exec,Frame.atR])
def kw {c:Code}:step P (lone (b.atR a (.inScope c::k)) cs w)=.next (lone (b.atR a k) cs w):=
 step_lone_go (by simp[stepG,stepG.exec,Frame.atR])
def Cz {c:Code}(h:c.wpIn F n P (Exit.noGoto Q) a w):(Code.scope c).wpIn F n P Q a w:=by
 intro b k cs O hb hr
 have E:(lone (b.atR a (.code (.scope c)::k)) cs w).fenced P F:=fenced_calm hb hr Z
 obtain⟨e,a₁,w₁,hq,G⟩:=h b (.inScope c::k) cs O hb hr
 cases e with
 |normal=>exact⟨.normal,a₁,w₁,hq,.head E cY (StepsIn.trans G (.one (fenced_calm hb hr Z) kw))⟩
 | exit id=>
   exact⟨.exit id,a₁,w₁,hq,λk' hk=>.head E cY (G.1 k' kc5),
    λH hk=>let ⟨k₁,h1,h2⟩:=G.2 H kc5;⟨k₁,h1,.head E cY h2⟩⟩
 |goto l=>exact hq.elim
 |ret=>exact⟨_,a₁,w₁,hq,.of_steps (.one E cY) G⟩
 |panic ch=>exact⟨_,a₁,w₁,hq,.of_steps (.one E cY) G⟩
 |outgrown=>exact⟨_,a₁,w₁,hq,.of_steps (.one E cY) G⟩
def NK (h:Q .ret a w):Exit.noGoto Q .ret a w:=h
def NL (h:Q .normal a w):Exit.noGoto Q .normal a w:=h
end scope
section conv
variable {P:Program}{r:Option Nat}{Q:Exit->Act->World->Prop}
variable {d ty:Nat}{pos:String}{af:Array Edge}{g:Option (Nat×Bool)}{x y:Operand}{t':TypeId}
def zN:∀(l:List UInt8) (s:ByteArray),(l.map (λb=>((b.toNat:Nat):Int))).foldl (λr n=>r.push (UInt8.ofNat n.toNat)) s=⟨(s.data.toList++l).toArray⟩
 |[],s=>by simp
 | b::l,s=>by
   simp only[List.map_cons,List.foldl_cons]
   rw[zN l]
   congr 1
   simp[ByteArray.push]
def Q5 {src dst el m c:Nat}{A:Option Addr}{l:List UInt8}(hs:P.underlying src=some (.slice el))(he:P.underlying el=some (.int .u8))(hd:P.underlying dst=some .string)(hx:ev N e x=.slice A m c)(hr:Rw w lo A (l.map λb=>Value.int .u8 b.toNat))(hm:l.length=m)(hk:K (act N (upd e d (S l)) ds) w):
 Oper.wpIn (Fw r) n P ⟨some d,.convert src dst x,ty,pos,af,g⟩ (act N e ds) w K Q:=by
 refine cQ (v:=S l) (w':=w) Z ?_ RW
 have key:(convert src dst (.slice A m c)).run P w=.ok (S l) w:=by
  rw[run_convert_bytes_string w src dst el A m c hs he hd]
  cases A with
  | none=>
    have:l=[]:=by
     cases l with
     |nil=>rfl
     | cons b t=>
       obtain⟨_,_,h,_⟩:=hr.cells 0 _ Z
       cases h
    subst this
    simp[Conv.bytesToString,S];rfl
  | some a=>
    have hl:(loadCells a m).run P w=.ok ((l.map (λb=>((b.toNat:Nat):Int))).map (Value.int .u8)).toArray w:=by
     by_cases h0:l=[]
     · subst h0;simp at hm;subst hm;simp[loadCells,loadCellsFrom]
     · have hlt:0<l.length:=List.length_pos_iff.2 h0
       obtain⟨b,o,hA,_⟩:=hr.cells 0 _ (by rw[List.getElem?_map,List.getElem?_eq_getElem hlt];rfl)
       cases hA
       have E:=run_loadCells_list (P:=P) (w:=w) ⟨b,o,none⟩ (l.map λb=>Value.int .u8 b.toNat) (λj v hv=>by
        obtain⟨_,_,hA',hc⟩:=hr.cells j v hv
        cases hA'
        rw[Addr.add_mid];exact hc)
       rw[List.length_map,hm]at E
       rw[E,List.map_map];rfl
    rw[run_bytesToString w a m c _ hl,zN]
    rfl
 simp[execOp,hx,key]
def CC {b:Int}(hx:ev N e x=.int .i64 a)(hy:ev N e y=.int .i64 b)(h1:b≠0)(hc:a.tdiv b=c)(hr:In64 c)(hk:K (act N (upd e d (.int .i64 c)) ds) w):
 Oper.wpIn (Fw r) n P ⟨some d,.binOp .quo t x y t',ty,pos,af,g⟩ (act N e ds) w K Q:=
 dR hx hy (cg ..) (by subst hc;simp[binOp,Op.intDiv,h1,lk hr]) hk
def CE {b:Int}(hx:ev N e x=.int .i64 a)(hy:ev N e y=.int .i64 b)(h1:b≠0)(hc:a.tmod b=c)(hk:K (act N (upd e d (.int .i64 c)) ds) w):
 Oper.wpIn (Fw r) n P ⟨some d,.binOp .rem t x y t',ty,pos,af,g⟩ (act N e ds) w K Q:=
 dR hx hy (cg ..) (by subst hc;simp[binOp,Op.intDiv,h1]) hk
def nc {el m:Nat}{oo:Nat}{k:IntKind}(hu:P.underlying t=some (.array m el))(hs:(P.info? el).map (·.size)=some s)(hx:ev N e x=.pointer (some ⟨b,o,none⟩))(hy:ev N e y=.int k (i:Int))(hlt:i<m)(hoo:o+i*s=oo)(hk:K (act N (upd e d (.pointer (some ⟨b,oo,none⟩))) ds) w):Oper.wpIn (Fw r) n P ⟨some d,.indexAddr t x y,ty,pos,af,g⟩ (act N e ds) w K Q:=by
 refine cQ (v:=.pointer (some ⟨b,oo,none⟩)) (w':=w) Z ?_ RW
 subst hoo
 cases hi:P.info? el with
 |none=>simp[hi]at hs
 | some inf=>
   have hs':inf.size=s:=by simpa[hi]using hs
   subst hs'
   simp[execOp,hx,hy,Instr.indexAt,run_underlying hu,asIntOf,hlt,sizeOf,typeInfo,hi,Addr.add_mid,Instr.sureAddr]
end conv
end Go.Eng
