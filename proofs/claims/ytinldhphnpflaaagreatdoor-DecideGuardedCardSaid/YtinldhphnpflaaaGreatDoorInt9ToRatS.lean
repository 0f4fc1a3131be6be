/- Part of the proof of a statement about decisions. -/
import Derived.Test.YtinldhphnpflaaaGreatDoorInt1ToLib10
import Derived.Test.YtinldhphnpflaaaGreatDoorEngPToEngH
import Derived.Lib.Atoi
import Derived.Lib.OthersKept
set_option linter.all false
namespace Go.Proofs.YtinldhphnpflaaaGreatDoor
open Go Go.Eng Go.RowKit
attribute [local irreducible] wpListIn Code.wpIn Oper.wpIn Exit.then Exit.inBlock Exit.noGoto
set_option maxHeartbeats 40000000
theorem asuInt9 {p:Prop}(h:p:=by assumption):p:=h
theorem body_ok (l:List UInt8)(w:World):CL 94 #[S l,S [45]] w (Ret w λv _=>v=S (body l)):=by
  have h:=trimPrefix_ok l [45] w
  rw[trimPrefix_body]at h
  exact h
theorem mem_digits {b:UInt8}:DIGITS.contains b=isDig b:=by
  have h:∀b:Fin 256,DIGITS.contains (UInt8.ofNat b.val)=isDig (UInt8.ofNat b.val):=by decide +kernel
  have:=h ⟨b.toNat,b.toNat_lt⟩
  simpa using this
theorem trimS_nil (d:List UInt8):Lib.trimS d DIGITS=[]↔d.all isDig=true:=by
  have hd:∀l:List UInt8,l.dropWhile (λb=>DIGITS.contains b)=[]↔l.all isDig=true:=by
    intro l
    induction l with
    |nil=>simp
    | cons a t ih=>
      simp only[List.dropWhile_cons,List.all_cons,mem_digits]at ih ⊢
      cases isDig a <;>simp_all
  unfold Lib.trimS Lib.trimLeftS
  rw[hd]
  unfold Lib.trimRightS
  constructor
  · intro h
    by_cases hn:(d.reverse.dropWhile (λb=>DIGITS.contains b))=[]
    · rw[hd]at hn;simpa using hn
    · exfalso
      have h2:(d.reverse.dropWhile (λb=>DIGITS.contains b)).head hn∉DIGITS:=by
        have:=List.head_dropWhile_not (p:=λb=>DIGITS.contains b) (l:=d.reverse) hn
        simpa using this
      have h3:isDig ((d.reverse.dropWhile (λb=>DIGITS.contains b)).head hn)=true:=by
        refine List.all_eq_true.1 h _ ?_
        rw[List.mem_reverse]
        exact List.head_mem hn
      rw[<-mem_digits]at h3
      exact h2 (by simpa using h3)
  · intro h
    have:(d.reverse.dropWhile (λb=>DIGITS.contains b))=[]:=by rw[hd];simpa using h
    rw[this];rfl
theorem vno1 {l:List UInt8}(h:body l=[]):Value.bool false=.bool (isInt l):=by simp[isInt,isNum,h]
theorem vno2 {l:List UInt8}(h:(200:Int)<(((body l).length:Nat):Int)):Value.bool false=.bool (isInt l):=by
  have:¬(body l).length<=200:=by omega
  simp[isInt,isNum,this]
theorem vno3 {l:List UInt8}(h:¬Lib.trimS (body l) DIGITS=[]):Value.bool false=.bool (isInt l):=by
  rw[trimS_nil]at h
  simp[isInt,isNum,h]
theorem vyes {l:List UInt8}(h:l=[48]):Value.bool true=.bool (isInt l):=by subst h;rw[isInt_zero]
theorem len_pos {l:List UInt8}(h:¬l=[]):0<l.length:=List.length_pos_iff.2 h
theorem vhead {l:List UInt8}{c:UInt8}(hc:(body l)[0]?=some c)(h1:¬body l=[])(h2:¬(200:Int)<(((body l).length:Nat):Int))(h3:Lib.trimS (body l) DIGITS=[])(h4:¬l=[48]):
    Value.bool (!decide (((c.toNat:Nat):Int)=48))=.bool (isInt l):=by
  rw[trimS_nil]at h3
  have h5:(body l).length<=200:=by omega
  have h6:(body l).isEmpty=false:=by cases hb:body l <;>simp_all
  have hc48:(((c.toNat:Nat):Int)=48)↔c=48:=by
    constructor
    · intro h;exact UInt8.toNat_inj.1 (by have:(48:UInt8).toNat=48:=rfl;omega)
    · intro h;subst h;rfl
  have hh:(body l).head?=some c:=by rw[List.head?_eq_getElem?];exact hc
  congr 1
  simp only[isInt,isNum,h3,h5,h6,hh,decide_true,Bool.not_false,Bool.true_and,Option.some.injEq,hc48,ne_eq]
  by_cases hb:body l=[48]
  · have hn:neg l=true:=by
      cases hn:neg l with
      |true=>rfl
      |false=>exact absurd ((body_neg hn).symm.trans hb) h4
    have:c=48:=by rw[hb]at hc;simpa using hc.symm
    simp[hb,hn,this]
  · simp[hb]
set_option maxRecDepth 100000 in
theorem isValid_ok (l:List UInt8)(w:World):
    CL 88 #[S l] w (Ret w λv w'=>v=.bool (isInt l)):=by
 refine f_in Tryz.func88 rfl ?_;refine go ?_;refine cl en136 (body_ok l _) ?_;rintro _ _ k2 rfl;have E4:=k2.2;refine go ?_;by_cases h5:(body l)=([]);refine go ?_;refine eqs (b:=[]) ?_;refine go ?_;exact f_ret1 (t:=2) (v:=.bool false) rfl E4 (by first|exact vno1 asuInt9|exact vno2 asuInt9|exact vno3 asuInt9|exact vyes asuInt9|exact vhead asuInt9 asuInt9 asuInt9 asuInt9 asuInt9) rfl;by_cases h6:200<(((body l).length:Nat):Int);refine go ?_;refine eqs (b:=[]) ?_;refine go ?_;refine l_op (k_lenL (l:=body l) U9 rfl ?_);refine go ?_;exact f_ret1 (t:=2) (v:=.bool false) rfl E4 (by first|exact vno1 asuInt9|exact vno2 asuInt9|exact vno3 asuInt9|exact vyes asuInt9|exact vhead asuInt9 asuInt9 asuInt9 asuInt9 asuInt9) rfl;refine go ?_;refine eqs (b:=[]) ?_;refine go ?_;refine l_op (k_lenL (l:=body l) U9 rfl ?_);refine go ?_;refine clb en137 (hc:=trim_ok (body l) _ om) (hk:=?_);rintro _ _ k8 rfl;have E4:=xt E4 k8.2;refine go ?_;refine nes (b:=[]) ?_;refine go ?_;by_cases h10:(Lib.trimS (body l) DIGITS)=([]);refine go ?_;by_cases h11:l=([48]);refine go ?_;refine eqs (b:=[48]) ?_;refine go ?_
 exact f_ret1 (t:=2) (v:=.bool true) rfl E4 (by first|exact vno1 asuInt9|exact vno2 asuInt9|exact vno3 asuInt9|exact vyes asuInt9|exact vhead asuInt9 asuInt9 asuInt9 asuInt9 asuInt9) rfl;refine go ?_;refine eqs (b:=[48]) ?_;refine go ?_;have hc12:=byteAt_ (l:=body l) (i:=0) (len_pos asuInt9);refine l_op (k_byte (l:=body l) (i:=0) (c:=((body l).getD 0 0)) U9 rfl rfl hc12 ?_);refine go ?_;exact f_ret1 (t:=2) (v:=.bool (!decide (((((body l).getD 0 0).toNat:Nat):Int)=48))) rfl E4 (by first|exact vno1 asuInt9|exact vno2 asuInt9|exact vno3 asuInt9|exact vyes asuInt9|exact vhead asuInt9 asuInt9 asuInt9 asuInt9 asuInt9) rfl;refine go ?_;exact f_ret1 (t:=2) (v:=.bool false) rfl E4 (by first|exact vno1 asuInt9|exact vno2 asuInt9|exact vno3 asuInt9|exact vyes asuInt9|exact vhead asuInt9 asuInt9 asuInt9 asuInt9 asuInt9) rfl
theorem digs_append (a b:List UInt8):digs (a++b)=digs b++digs a:=by simp[digs]
theorem ofB_groups (gs:List Nat)(a b:List Nat)(v:Nat)(k:Nat)(hk:gs.length=k)(ha:a.length=4*k)(h:ofB 10000 gs=ofB 10 a)(hv:v=ofB 10 b):ofB 10000 (gs++[v])=ofB 10 (a++b):=by
  rw[ofB_append,ofB_append,h,ha,hk,hv]
  have:(10:Nat)^(4*k)=10000^k:=by rw[Nat.pow_mul]
  rw[this]
  simp[ofB]
theorem decFrom_digs:∀(l:List UInt8) (acc:Nat),l.all isDig=true->Lib.decFrom acc l=some (acc*10^l.length+ofB 10 (digs l))
  |[],acc,_=>by simp[Lib.decFrom,digs,ofB]
  | c::t,acc,h=>by
    simp only[List.all_cons,Bool.and_eq_true]at h
    have h1:=h.1
    simp only[isDig,Bool.and_eq_true,decide_eq_true_eq]at h1
    rw[Lib.decFrom,Lib.digitVal,if_pos h1]
    simp only[]
    rw[decFrom_digs t _ h.2]
    have e:digs (c::t)=digs t++[c.toNat-48]:=by simp[digs]
    rw[e,ofB_append,digs_length]
    simp only[ofB,List.length_cons,Nat.pow_succ,Option.some.injEq]
    generalize 10^t.length=p
    generalize c.toNat-48=x
    rw[Nat.add_mul,Nat.mul_comm p 10,<-Nat.mul_assoc,Nat.mul_comm x p]
    simp
    omega
theorem atoi_digs {l:List UInt8}(h:l.all isDig=true)(h0:l≠[]):Lib.atoi l=some ((ofB 10 (digs l):Nat):Int):=by
  cases l with
  |nil=>exact absurd rfl h0
  | cons c t=>
    have hc:isDig c=true:=by simp at h;exact h.1
    simp only[isDig,Bool.and_eq_true,decide_eq_true_eq]at hc
    have h1:(c==45)=false:=by
      rw[beq_eq_false_iff_ne];intro e;subst e;exact absurd hc.1 dc
    have h2:(c==43)=false:=by
      rw[beq_eq_false_iff_ne];intro e;subst e;exact absurd hc.1 dc
    rw[Lib.atoi,h1,h2]
    simp only[Bool.false_eq_true,if_false]
    rw[Lib.decNat]
    simp only[List.isEmpty_cons,Bool.false_eq_true,if_false]
    rw[decFrom_digs _ 0 h]
    simp
theorem ofB_lt_len (l:List UInt8)(h:l.all isDig=true)(hl:l.length<=4):ofB 10 (digs l)<10000:=by
  have h1:=ofB_lt 10 (digs l) (digs_lt h)
  rw[digs_length]at h1
  exact Nat.lt_of_lt_of_le h1 (Nat.le_trans (Nat.pow_le_pow_right om hl) om)
theorem all_part {d:List UInt8}(h:d.all isDig=true)(i j:Nat):((d.take j).drop i).all isDig=true:=by
  rw[List.all_eq_true]at *
  exact λx hx=>h x (List.mem_of_mem_take (List.mem_of_mem_drop hx))
structure Grp (d:List UInt8)(m:Nat)(gs:List Nat):Prop where
  le:m<=d.length
  full:0<m->d.length-m=4*gs.length
  val:ofB 10000 gs=ofB 10 (digs (d.drop m))
  lt:∀g∈gs,g<10000
  cnt:gs.length<=d.length
theorem Grp.start (d:List UInt8):Grp d d.length []:=⟨Nat.le_refl _,λ_=>by simp,by simp[digs,ofB],by simp,by simp⟩
theorem Grp.step {d:List UInt8}{m:Nat}{gs:List Nat}(hd:d.all isDig=true)(h:Grp d m gs)(hm:0<m):Grp d (m-4) (gs++[ofB 10 (digs ((d.take m).drop (m-4)))]):=by
  have hle:=h.le
  have hf:=h.full hm
  refine⟨by omega,λ_=>by simp;omega,?_,?_,by simp;omega⟩
  · have e:d.drop (m-4)=(d.take m).drop (m-4)++d.drop m:=by
      rw[<-List.drop_append_of_le_length (by simp;omega),List.take_append_drop]
    rw[e,digs_append]
    exact ofB_groups _ _ _ _ _ rfl (by rw[digs_length,List.length_drop];exact hf) h.val rfl
  · intro g hg
    rcases List.mem_append.1 hg with hg|hg
    · exact h.lt g hg
    · rw[List.mem_singleton.1 hg]
      exact ofB_lt_len _ (all_part hd _ _) (by simp;omega)
theorem Grp.len {d:List UInt8}{m:Nat}{gs:List Nat}(h:Grp d m gs)(hm:0<m):gs.length<=d.length:=by have:=h.full hm;have:=h.le;omega
def Sg (w:World)(lo:Nat)(ng:Bool)(a:Nat)(v:Value):Prop:=∃A n c,v=.agg #[.bool ng,.slice A n c]∧Num w lo A n c a
theorem max_sub (m:Nat):(if(0:Int)<(m:Int)-4 then(m:Int)-4 else 0)=((m-4:Nat):Int):=by split <;>omega
theorem decide_neg (l:List UInt8):decide (((body l).length:Int)<((l.length:Nat):Int))=neg l:=by
  cases h:neg l with
  |true=>rw[neg_cons h];simp[body];omega
  |false=>rw[body_neg h];simp
theorem ne_nil {l:List UInt8}(h:0<l.length):l≠[]:=List.length_pos_iff.1 h
theorem Grp.all {d:List UInt8}{m:Nat}{gs:List Nat}(h:Grp d m gs)(hm:¬0<m):ofB 10000 gs=valN d:=by
  have:=h.val
  rw[show m=0 by omega,List.drop_zero]at this
  exact this
set_option maxRecDepth 100000 in
theorem parse_ok (l:List UInt8)(w:World)(h:isInt l=true):
    CL 89 #[S l] w (Ret w λv w'=>Sg w' w.heap.size (neg l) (valN (body l)) v):=by
 have hnum:=isInt_num h;have hd:=isNum_digs hnum;have hlen:=isNum_len hnum;refine f_in Tryz.func89 rfl ?_;refine go ?_;refine al inf125 (λ_ k14 hb15=>?_);have E16:=k14.2;refine go ?_;refine cl en136 (body_ok l _) ?_;rintro _ w17 k18 rfl;have⟨hb15,E16⟩:=be1 k18.2 hb15 E16;refine go ?_;refine l_op (k_lenL (l:=body l) U9 rfl ?_);refine go ?_;refine l_op (k_lenL (l:=l) U9 rfl ?_);refine go ?_;rw[decide_neg];refine l_op (k_build (vs:=[(0,.bool (neg l))]) (cells:=#[.bool (neg l),.slice none 0 0]) (pl:=[(0,1),(1,1)]) U125 inf125 (by kernel_rfl) rfl (by kernel_rfl) ?_);refine al inf125 (λ_ k21 hb22=>?_);have⟨hb15,E16⟩:=be1 k21.2 hb15 E16;refine SA hb22 (λw23 k24 hb25=>?_);have⟨hb15,E16,_⟩:=pl1 k24 hb15 E16;refine go ?_;have own0:World.ownsRow w23 w.heap.size 3 1 (.slice none 0 0) 0 (ints []):=own_nil;refine c_lp [(3,3),(5,7),(16,38)] (λkk e W=>∃m:Nat,∃gs:List Nat,∃vv:Value,(m=kk)∧(e 3=S ((body l).take m))∧(Grp (body l) m gs)∧((vv).ownBlock≠some (w.heap.size))∧((vv).ownBlock≠some (w17.heap.size))∧(Ext w W)∧(Blk W (w.heap.size) 92 #[.bool false,.slice none 0 0])∧(Blk W (w17.heap.size) 92 #[.bool (neg l),vv])∧(W.ownsRow w.heap.size 3 1 vv gs.length (ints gs))) (((body l).length)) ⟨(body l).length,[],.slice none 0 0,rfl,(congrArg S (by rw[List.take_length])),(Grp.start _),(by simp[Value.ownBlock]),(by simp[Value.ownBlock]),E16,hb15,hb25,own0⟩ ?_
 rintro _ _ _ ⟨m,gs,vv,rfl,p31,q1,n26,n27,E32,hb15,hb25,ho⟩;have zw29:=bz E32;have hml:=q1.le;by_cases hm:0<m;have hgl:=q1.len hm;have hml:=q1.le;refine go ?_;refine l_op (k_lenLm (l:=(body l).take m) (m:=m) U9 rfl (by simp;omega) ?_);refine go ?_;refine l_op (k_lenLm (l:=(body l).take m) (m:=m) U9 rfl (by simp;omega) ?_);refine sui ?_;refine l_op (k_max (a:=0) (b:=(m:Int)-4) (m:=((m-4:Nat):Int)) rfl rfl (max_sub m) ?_);refine go ?_;refine l_op (k_sliceS (l:=(body l).take m) (i:=(m-4)) (j:=((body l).take m).length) U9 rfl (.inr ⟨_,congrArg some rfl⟩) (.inl ⟨rfl,rfl⟩) (by simp;omega) (by simp) ?_);rw[show(((body l).take m).take (((body l).take m).length)).drop ((m-4))=((body l).take m).drop ((m-4))by rw[List.take_length]];refine clb en138 (hc:=atoi_ok _ _ _ (by simp;omega) (atoi_digs (all_part hd _ _) (ne_nil (by simp;omega)))) (hk:=?_);rintro _ _ k34 rfl;have⟨hb15,hb25⟩:=bf2 k34.2 hb15 hb25;have ho:=own_ext k34.2 ho;have E32:=xt E32 k34.2;refine go ?_;refine BS (λ_ k37 _ ho39=>?_);have n40:=own_ne_new ho;have⟨hb15,hb25⟩:=bf2 k37 hb15 hb25;have ho:=own_ext k37 ho;have E32:=xt E32 k37;have zw36:=bz k37;refine AP ho (Rw.of_own ho39) (λv42 _ ho43 hg44 ha45=>?_);have n46:=own_ne_app ha45 n26 (bt hb15);have n47:=own_ne_app ha45 n27 (bt hb25);have hb15:=Blk.gr hg44 (λe=>n26 e.symm) hb15;have hb25:=Blk.gr hg44 (λe=>n27 e.symm) hb25
 have E32:=low_app ho om om E32 hg44;have zw41:=hg44.size;refine go ?_;refine l_op (k_store (b:=w17.heap.size) (o:=1) (v:=v42) sz123 rfl rfl (own_one ho43) hb25 (Nat.le_of_ble_eq_true rfl) (λ_ k49 hb50=>?_));have hb15:=pb k49 hb15;have ho43:=own_put k49 n47 ho43;have E32:=plw k49 E32;have zw48:=psz k49;refine go ?_;refine l_op (k_sliceS (l:=(body l).take m) (i:=0) (j:=(m-4)) U9 rfl (.inl ⟨rfl,rfl⟩) (.inr ⟨_,congrArg some rfl⟩) om (by simp;omega) ?_);rw[show(((body l).take m).take ((m-4))).drop 0=((body l).take m).take ((m-4))from rfl];refine go ?_;exact lend ⟨m-4,gs++[ofB 10 (digs (((body l).take m).drop (m-4)))],v42,rfl,(congrArg S (by rw[List.take_take];congr 1;omega)),(Grp.step hd q1 hm),n46,n47,E32,hb15,hb50,(own_cast ho43 (by simp) (by rw[ints_append];rfl))⟩;obtain⟨Av,cv,rfl,hkc,-⟩:=own_form ho;have hcn:=q1.cnt;refine go ?_;refine l_op (k_lenLm (l:=(body l).take m) (m:=m) U9 rfl (by simp;omega) ?_);refine go ?_;refine clb en123 (hc:=trimmed_ok (Rw.of_own ho) rfl hkc om) (hk:=?_);rintro _ _ k52 ⟨m1,rfl,ht1,ht2⟩;have⟨hb15,hb25⟩:=bf2 k52.2 hb15 hb25;have ho:=own_ext k52.2 ho;have E32:=xt E32 k52.2;refine go ?_;refine SO hb25 (λ_ k55 hb56=>?_);have hb15:=pb k55 hb15;have ho:=own_put k55 n27 ho;have E32:=plw k55 E32;have zw54:=psz k55;refine go ?_;refine SA hb15 (λ_ k58 hb59=>?_);have hb56:=pb k58 hb56
 have ho:=own_put k58 n26 ho;have E32:=plw k58 E32;have zw57:=psz k58;refine go ?_;refine f_out (v:=.agg #[.bool (neg l),.slice Av m1 cv]) (res1  rfl ?_) E32 ⟨Av,m1,cv,rfl,num_q (Rw.of_own ho) q1.lt (q1.all hm) ht1 om om⟩;refine res_cellA (t:=2) (cs:=[.bool (neg l),.slice Av m1 cv]) (b:=w.heap.size) (o:=0) U125 rfl sz125 ?_ ?_;exact rfl;exact Blk.cells hb59 (i:=0) rfl
set_option maxRecDepth 100000
theorem asuInt11 {p:Prop}(h:p:=by assumption):p:=h
def sgn (ng:Bool)(a:Nat):Int:=if ng then -(a:Int)else(a:Int)
theorem cmpI_ge {a b:Nat}(h:(0:Int)<=cmpI (a:Int) (b:Int)):b<=a:=by
  rcases Nat.lt_or_ge a b with h1|h1
  · rw[cmpI_lt om]at h;omega
  · exact h1
theorem cmpI_lt' {a b:Nat}(h:¬(0:Int)<=cmpI (a:Int) (b:Int)):a<=b:=by
  rcases Nat.lt_or_ge a b with h1|h1
  · omega
  · rcases Nat.eq_or_lt_of_le h1 with h2|h2
    · omega
    · rw[cmpI_gt om]at h;omega
theorem sgn_add_same {nx ny:Bool}{a b:Nat}(h:(nx==ny)=true):sgn nx (a+b)=sgn nx a+sgn ny b:=by
  have:nx=ny:=by simpa using h
  subst this
  unfold sgn;split <;>omega
theorem sgn_add_ge {nx ny:Bool}{a b:Nat}(h:(nx==ny)=false)(hle:b<=a):sgn nx (a-b)=sgn nx a+sgn ny b:=by
  cases nx <;>cases ny <;>simp_all [sgn] <;>omega
theorem sgn_add_lt {nx ny:Bool}{a b:Nat}(h:(nx==ny)=false)(hle:a<=b):sgn ny (b-a)=sgn nx a+sgn ny b:=by
  cases nx <;>cases ny <;>simp_all [sgn] <;>omega
theorem splus_ok {A1:Option Addr}{n1 c1 a lo1:Nat}{w:World}(h1:Num w lo1 A1 n1 c1 a)(s1:n1<=9000){A2:Option Addr}{n2 c2 b lo2:Nat}(h2:Num w lo2 A2 n2 c2 b)(s2:n2<=9000){nx ny:Bool}:
    CL 62 #[.agg #[.bool nx,.slice A1 n1 c1],.agg #[.bool ny,.slice A2 n2 c2]] w (Ret w λv w'=>∃ng r A n c,v=.agg #[.bool ng,.slice A n c]∧Num w' w.heap.size A n c r∧sgn ng r=sgn nx a+sgn ny b):=by
 have uh1:=h1.hi;have uh2:=h2.hi;refine f_in Tryz.func62 rfl ?_;refine go ?_;refine bx (λ_ k61 hb62=>?_);have h1:=Num.ext k61.2 h1;have h2:=Num.ext k61.2 h2;have E63:=k61.2;refine bx (λw64 k65 hb66=>?_);have h1:=Num.ext k65.2 h1;have h2:=Num.ext k65.2 h2;have⟨hb62,E63⟩:=be1 k65.2 hb62 E63;refine al inf125 (λw67 k68 hb69=>?_);have h1:=Num.ext k68.2 h1;have h2:=Num.ext k68.2 h2;have⟨hb62,hb66,E63⟩:=be2 k68.2 hb62 hb66 E63;refine go ?_;refine l_op (k_eqlB (a:=nx) (b:=ny) (q:=((nx==ny))) U4 rfl rfl rfl ?_);refine go ?_;rcases Bool.eq_false_or_eq_true (nx==ny)with h70|h70;refine go ?_;obtain⟨L,hL⟩:∃L,L=w67.heap.size:=⟨_,rfl⟩;refine c_an 7 ?_;refine sf ?_;refine sf_ah (λv w=>NumPost L (a+b) v w) (hs:=λ_ _ _ k h=>h.ext k) (λ_ _ hR97 _=>?_) ?_;have h1:=Num.ext hR97 h1;have h2:=Num.ext hR97 h2;refine clb en106 (hc:=plus_ok h1 om h2 om) (hk:=?_);rintro _ _ fy ⟨Ar,nr,cr,rfl,hr⟩;have aou:=fy.2;have hr:=hr.mono (lo':=L) (by have:=bz hR97;omega);refine go ?_;exact fs ⟨aou,⟨Ar,nr,cr,rfl,hr⟩⟩;refine sf ?_;intro _ _ kx aov;have⟨hb62,hb66,hb69,E63⟩:=be3 kx.2 hb62 hb66 hb69 E63;obtain⟨Ar,nr,cr,aow,hr⟩:=(aov 6 17 rfl rfl);refine l_op (k_build (vs:=[(0,.bool nx),(1,.slice Ar nr cr)]) (cells:=#[.bool nx,.slice Ar nr cr]) (pl:=[(0,1),(1,1)]) U125 inf125 (by kernel_rfl) (cons_eqp rfl (cons_eqp aow rfl)) (by kernel_rfl) ?_)
 refine SA hb69 (λ_ cf aox=>?_);have⟨hb62,hb66⟩:=pf2 cf hb62 hb66;have hr:=Num.put cf om hr;have E63:=plw cf E63;have apa:=psz cf;refine go ?_;refine f_out (v:=.agg #[.bool nx,.slice Ar nr cr]) (res1  rfl ?_) E63 ⟨_,_,_,_,_,rfl,hr.mono om,by first|exact sgn_add_same asuInt11|exact sgn_add_ge asuInt11 hle|exact sgn_add_lt asuInt11 hle⟩;refine res_cellA (t:=4) (cs:=[.bool nx,.slice Ar nr cr]) (b:=w64.heap.size) (o:=0) U125 rfl sz125 ?_ ?_;exact rfl;exact Blk.cells aox (i:=0) rfl;refine go ?_;refine clb en110 (hc:=compare_ok h1 om h2) (hk:=?_);rintro _ aos ly rfl;have h1:=Num.ext ly.2 h1;have h2:=Num.ext ly.2 h2;have⟨hb62,hb66,hb69,E63⟩:=be3 ly.2 hb62 hb66 hb69 E63;refine go ?_;by_cases aot:0<=(cmpI (a:Int) (b:Int));refine go ?_;obtain⟨L,hL⟩:∃L,L=aos.heap.size:=⟨_,rfl⟩;have hle:=cmpI_ge asuInt11;have hln:n2<=n1:=by rw[<-h1.len,<-h2.len];exact len_mono om hle
 refine c_an 7 ?_;refine sf ?_;refine sf_ah (λv w=>NumPost L (a-b) v w) (hs:=λ_ _ _ k h=>h.ext k) (λ_ _ mq _=>?_) ?_;have h1:=Num.ext mq h1;have h2:=Num.ext mq h2;refine clb en108 (hc:=minus_ok h1 om h2 om hle hln) (hk:=?_);rintro _ _ ns ⟨Ar,nr,cr,rfl,hr⟩;have aoy:=ns.2;have hr:=hr.mono (lo':=L) (by have:=bz mq;omega);refine go ?_;exact fs ⟨aoy,⟨Ar,nr,cr,rfl,hr⟩⟩;refine sf ?_;intro _ _ nv aoz;have⟨hb62,hb66,hb69,E63⟩:=be3 nv.2 hb62 hb66 hb69 E63;obtain⟨Ar,nr,cr,ao0,hr⟩:=(aoz 6 32 rfl rfl);refine l_op (k_build (vs:=[(0,.bool nx),(1,.slice Ar nr cr)]) (cells:=#[.bool nx,.slice Ar nr cr]) (pl:=[(0,1),(1,1)]) U125 inf125 (by kernel_rfl) (cons_eqp rfl (cons_eqp ao0 rfl)) (by kernel_rfl) ?_);refine SA hb69 (λ_ cw ao1=>?_);have⟨hb62,hb66⟩:=pf2 cw hb62 hb66;have hr:=Num.put cw om hr;have E63:=plw cw E63;have ap3:=psz cw;refine go ?_;refine f_out (v:=.agg #[.bool nx,.slice Ar nr cr]) (res1  rfl ?_) E63 ⟨_,_,_,_,_,rfl,hr.mono om,by first|exact sgn_add_same asuInt11|exact sgn_add_ge asuInt11 hle|exact sgn_add_lt asuInt11 hle⟩;refine res_cellA (t:=4) (cs:=[.bool nx,.slice Ar nr cr]) (b:=w64.heap.size) (o:=0) U125 rfl sz125 ?_ ?_;exact rfl;exact Blk.cells ao1 (i:=0) rfl;refine go ?_;obtain⟨L,hL⟩:∃L,L=aos.heap.size:=⟨_,rfl⟩;have hle:=cmpI_lt' asuInt11;have hln:n1<=n2:=by rw[<-h1.len,<-h2.len];exact len_mono om hle
 refine c_an 7 ?_;refine sf ?_;refine sf_ah (λv w=>NumPost L (b-a) v w) (hs:=λ_ _ _ k h=>h.ext k) (λ_ _ od _=>?_) ?_;have h1:=Num.ext od h1;have h2:=Num.ext od h2;refine clb en108 (hc:=minus_ok h2 om h1 om hle hln) (hk:=?_);rintro _ _ oq ⟨Ar,nr,cr,rfl,hr⟩;have ao2:=oq.2;have hr:=hr.mono (lo':=L) (by have:=bz od;omega);refine go ?_;exact fs ⟨ao2,⟨Ar,nr,cr,rfl,hr⟩⟩;refine sf ?_;intro _ _ p6 ao3;have⟨hb62,hb66,hb69,E63⟩:=be3 p6.2 hb62 hb66 hb69 E63;obtain⟨Ar,nr,cr,ao4,hr⟩:=(ao3 6 40 rfl rfl);refine l_op (k_build (vs:=[(0,.bool ny),(1,.slice Ar nr cr)]) (cells:=#[.bool ny,.slice Ar nr cr]) (pl:=[(0,1),(1,1)]) U125 inf125 (by kernel_rfl) (cons_eqp rfl (cons_eqp ao4 rfl)) (by kernel_rfl) ?_);refine SA hb69 (λ_ fx ao5=>?_);have⟨hb62,hb66⟩:=pf2 fx hb62 hb66;have hr:=Num.put fx om hr;have E63:=plw fx E63;have aqu:=psz fx;refine go ?_;refine f_out (v:=.agg #[.bool ny,.slice Ar nr cr]) (res1  rfl ?_) E63 ⟨_,_,_,_,_,rfl,hr.mono om,by first|exact sgn_add_same asuInt11|exact sgn_add_ge asuInt11 hle|exact sgn_add_lt asuInt11 hle⟩;refine res_cellA (t:=4) (cs:=[.bool ny,.slice Ar nr cr]) (b:=w64.heap.size) (o:=0) U125 rfl sz125 ?_ ?_;exact rfl;exact Blk.cells ao5 (i:=0) rfl
theorem both_ok (a b:List UInt8)(w:World)(ha:isInt a=true)(hb:isInt b=true):
    CL 61 #[S a,S b] w (Ret w λv w'=>∃A1 n1 c1 A2 n2 c2,v=.tuple #[.agg #[.bool (neg a),.slice A1 n1 c1],.agg #[.bool (neg b),.slice A2 n2 c2],.bool true]∧Num w' w.heap.size A1 n1 c1 (valN (body a))∧Num w' w.heap.size A2 n2 c2 (valN (body b))):=by
 refine f_in Tryz.func61 rfl ?_;refine go ?_;refine al inf125 (λoq r8 cw=>?_);have cf:=r8.2;refine al inf125 (λ_ p6 fx=>?_);have⟨cw,cf⟩:=be1 p6.2 cw cf;refine go ?_;refine cl en120 (isValid_ok a _) ?_;rintro _ _ mq rfl;have⟨cw,fx,cf⟩:=be2 mq.2 cw fx cf;refine go ?_;refine cl en120 (isValid_ok b _) ?_;rintro _ _ ns rfl;have⟨cw,fx,cf⟩:=be2 ns.2 cw fx cf;refine go ?_;refine cl en121 (parse_ok _ _ ha) ?_;rintro _ _ nv ⟨A1,n1,c1,rfl,h1⟩;have⟨cw,fx,cf⟩:=be2 nv.2 cw fx cf;refine go ?_;refine cl en121 (parse_ok _ _ hb) ?_;rintro _ _ ly ⟨A2,n2,c2,rfl,h2⟩;have⟨cw,fx⟩:=bf2 ly.2 cw fx;have h1:=Num.ext ly.2 h1;have cf:=xt cf ly.2;refine SA cw (λ_ fy od=>?_);have fx:=pb fy fx;have h1:=Num.put fy om h1;have h2:=Num.put fy om h2;have cf:=plw fy cf;have aos:=psz fy;refine SA fx (λ_ kx sc=>?_);have od:=pb kx od;have h1:=Num.put kx om h1;have h2:=Num.put kx om h2;have cf:=plw kx cf;have aou:=psz kx;refine go ?_;refine f_out (v:=.tuple #[.agg #[.bool (neg a),.slice A1 n1 c1],.agg #[.bool (neg b),.slice A2 n2 c2],.bool true]) (res3 (r1:=.cell 4 92) (r2:=.cell 5 92) (r3:=.tmp 6) rfl ?_ ?_ ?_) cf ⟨_,_,_,_,_,_,rfl,h1.mono om,h2.mono om⟩;refine res_cellA (t:=4) (cs:=[.bool (neg a),.slice A1 n1 c1]) (b:=w.heap.size) (o:=0) U125 rfl sz125 ?_ ?_;exact rfl;exact Blk.cells od (i:=0) rfl
 refine res_cellA (t:=5) (cs:=[.bool (neg b),.slice A2 n2 c2]) (b:=oq.heap.size) (o:=0) U125 rfl sz125 ?_ ?_;exact rfl;exact Blk.cells sc (i:=0) rfl;exact res_tmp (t:=6) (by exact rfl) _
theorem both_no (a b:List UInt8)(w:World)(hno:(isInt a&&isInt b)=false):
    CL 61 #[S a,S b] w (Ret w λv w'=>v=.tuple #[.agg #[.bool false,.slice none 0 0],.agg #[.bool false,.slice none 0 0],.bool false]):=by
 refine f_in Tryz.func61 rfl ?_;refine go ?_;refine al inf125 (λkx w9 fx=>?_);have cf:=w9.2;refine al inf125 (λ_ wz cw=>?_);have⟨fx,cf⟩:=be1 wz.2 fx cf;refine go ?_;rcases Bool.eq_false_or_eq_true (isInt a)with fy|fy;refine go ?_;refine cl en120 (isValid_ok a _) ?_;rintro _ _ ly rfl;have⟨fx,cw,cf⟩:=be2 ly.2 fx cw cf;refine go ?_;refine cl en120 (isValid_ok b _) ?_;rintro _ _ mq rfl;have⟨fx,cw,cf⟩:=be2 mq.2 fx cw cf;refine go ?_;rcases Bool.eq_false_or_eq_true (isInt b)with w7|w7;exact absurd hno (by simp[*]);refine go ?_;refine SA fx (λ_ ns nv=>?_);have⟨cw,cf,_⟩:=pl1 ns cw cf;refine SA cw (λ_ od aol=>?_);have⟨nv,cf,_⟩:=pl1 od nv cf;refine go ?_;refine f_out (v:=.tuple #[.agg #[.bool false,.slice none 0 0],.agg #[.bool false,.slice none 0 0],.bool false]) (res3 (r1:=.cell 4 92) (r2:=.cell 5 92) (r3:=.tmp 6) rfl ?_ ?_ ?_) cf rfl;refine res_cellA (t:=4) (cs:=[.bool false,.slice none 0 0]) (b:=w.heap.size) (o:=0) U125 rfl sz125 ?_ ?_;exact rfl;exact Blk.cells nv (i:=0) rfl;refine res_cellA (t:=5) (cs:=[.bool false,.slice none 0 0]) (b:=kx.heap.size) (o:=0) U125 rfl sz125 ?_ ?_;exact rfl;exact Blk.cells aol (i:=0) rfl
 exact res_tmp (t:=6) (by exact rfl) _;refine go ?_;refine cl en120 (isValid_ok a _) ?_;rintro _ _ oq rfl;have⟨fx,cw,cf⟩:=be2 oq.2 fx cw cf;refine go ?_;refine SA fx (λ_ p6 r8=>?_);have⟨cw,cf,_⟩:=pl1 p6 cw cf;refine SA cw (λ_ sc aom=>?_);have⟨r8,cf,_⟩:=pl1 sc r8 cf;refine go ?_;refine f_out (v:=.tuple #[.agg #[.bool false,.slice none 0 0],.agg #[.bool false,.slice none 0 0],.bool false]) (res3 (r1:=.cell 4 92) (r2:=.cell 5 92) (r3:=.tmp 6) rfl ?_ ?_ ?_) cf rfl;refine res_cellA (t:=4) (cs:=[.bool false,.slice none 0 0]) (b:=w.heap.size) (o:=0) U125 rfl sz125 ?_ ?_;exact rfl;exact Blk.cells r8 (i:=0) rfl;refine res_cellA (t:=5) (cs:=[.bool false,.slice none 0 0]) (b:=kx.heap.size) (o:=0) U125 rfl sz125 ?_ ?_;exact rfl;exact Blk.cells aom (i:=0) rfl;exact res_tmp (t:=6) (by exact rfl) _
theorem iValid_ok (l:List UInt8)(w:World):
    CL 67 #[S l] w (Ret w λv w'=>v=.bool (isInt l)):=by
 refine f_in Tryz.func67 rfl ?_;refine go ?_;refine cl en120 (isValid_ok l _) ?_;rintro _ _ cf rfl;have cw:=cf.2;refine go ?_;exact f_ret1 (t:=2) (v:=.bool (isInt l)) rfl cw rfl rfl
theorem asuInt12 {p:Prop}(h:p:=by assumption):p:=h
def Bld (w:World)(b:Nat)(l:List UInt8):Prop:=Lib.IsBuilderF 123 5 b b (Lib.byteCells l) w
theorem atF_of {b:Nat}{p:Value}{bs:List Value}{w w':World}(hk:∀(k:Nat) (c:Array Value) (t:TypeId) (fz:Nat×Nat),w.heap[k]?=some (Obj.cells c t fz)->w'.heap[k]?=w.heap[k]?)(h:Lib.BuilderAtF 123 5 b b p bs w):Lib.BuilderAtF 123 5 b b p bs w':=by
  obtain⟨hB,v,hb,⟨hl,hv|⟨g,cap,cur,fz,rfl,hg,hh,r⟩⟩,hne⟩:=h
  · exact⟨hB,v,(hk _ _ _ _ hb).trans hb,⟨hl,.inl hv⟩,hne⟩
  · exact⟨hB,_,(hk _ _ _ _ hb).trans hb,⟨hl,.inr ⟨g,cap,cur,fz,rfl,hg,(hk _ _ _ _ hh).trans hh,r⟩⟩,hne⟩
theorem Bld.of {w w':World}{b:Nat}{l:List UInt8}(hk:∀(k:Nat) (c:Array Value) (t:TypeId) (fz:Nat×Nat),w.heap[k]?=some (Obj.cells c t fz)->w'.heap[k]?=w.heap[k]?)(h:Bld w b l):Bld w' b l:=
  h.elim (λx=>.inl (atF_of hk x)) (λx=>.inr (atF_of hk x))
theorem Bld.ext {w w':World}{b:Nat}{l:List UInt8}(k:Ext w w')(h:Bld w b l):Bld w' b l:=Bld.of (h:=h) (λi _ _ _ hi=>k.block i (Array.getElem?_eq_some_iff.1 hi).1)
theorem Bld.cel {W W':World}{row:Option Nat}{B b:Nat}{l:List UInt8}(hg:W.grownBy W' row)(hr:∀r,row=some r->B<=r∧∃o:Obj,W.heap[r]?=some o∧o.isCells=false)(h:Bld W b l):Bld W' b l:=
  Bld.of (h:=h) (λi _ _ _ hi=>grownBy_keeps_cells hg (λr e=>(hr r e).2) hi rfl)
theorem Bld.start {w:World}{b:Nat}(h:Blk w b 123 #[.pointer none,.slice none 0 0]):Bld w b []:=
  .inl ⟨Nat.le_refl _,_,h,World.ownsRowF_of own_nil,by simp[Value.ownBlock]⟩
theorem Bld.cells {w:World}{b:Nat}{l:List UInt8}(h:Bld w b l):∃(c:Array Value) (t:TypeId) (fz:Nat×Nat),w.heap[b]?=some (Obj.cells c t fz):=by
  rcases h with h|h <;>(obtain⟨_,v,hb,_⟩:=h;exact⟨_,_,_,hb⟩)
theorem Bld.lt {w:World}{b:Nat}{l:List UInt8}(h:Bld w b l):b<w.heap.size:=by
  obtain⟨_,_,_,hb⟩:=h.cells
  exact(Array.getElem?_eq_some_iff.1 hb).1
structure KB (b:Nat)(W W':World):Prop where
  oth:Lib.OthersKept 5 (some b) W W'
  low:Below b W W'
theorem KB.refl (b:Nat)(W:World):KB b W W:=⟨Lib.OthersKept.refl _ _ _,Below.refl _ _⟩
theorem KB.ext {b:Nat}{W A B:World}(hb:b<=A.heap.size)(h:KB b W A)(k:Ext A B):KB b W B:=
  ⟨h.oth.trans (λi o hi _ _=>(k.block i (Array.getElem?_eq_some_iff.1 hi).1).trans hi),Below.trans h.low (Below.mono k hb)⟩
theorem KB.wr {b:Nat}{W A B:World}(h:KB b W A)(k:KB b A B):KB b W B:=⟨h.oth.trans k.oth,Below.trans h.low k.low⟩
theorem KB.others {b:Nat}{l:List UInt8}{W W':World}(h:KB b W W')(hb:Bld W b l):KeepsOthers W W':=by
  refine⟨h.low.size,λk o hk ho=>h.oth k o hk ?_ ?_⟩
  · intro e
    cases e
    obtain⟨c,t,fz,hc⟩:=hb.cells
    rw[hc]at hk;cases hk;cases ho
  · intro c fz e;subst e;cases ho
theorem KB.blk {b c:Nat}{t:TypeId}{cs:Array Value}{W W':World}(h:KB b W W')(hn:c≠b)(ht:t≠5)(hb:Blk W c t cs):Blk W' c t cs:=
  h.oth c _ hb (λe=>hn (by cases e;rfl)) (λ_ _ e=>ht (by cases e;rfl))
theorem KB.rw {b lo:Nat}{A:Option Addr}{cs:List Value}{W W':World}(h:KB b W W')(hA:∀ad,A=some ad->ad.block<b)(hr:Rw W lo A cs):Rw W' lo A cs:=by
  refine⟨λj u hu=>?_,hr.lo,λad e=>Nat.lt_of_lt_of_le (hr.hi ad e) h.low.size⟩
  obtain⟨c,o,e,hc⟩:=hr.cells j u hu
  exact⟨c,o,e,(World.cell?_of_block (h.low.block c (hA _ e))).trans hc⟩
theorem KB.dfr {b D:Nat}{l:List UInt8}{W W':World}(h:KB b W W')(hb:Bld W b l)(hD:Dfr W D):Dfr W' D:=
  h.oth D _ hD (λe=>by
    cases e
    obtain⟨c,t,fz,hc⟩:=hb.cells
    unfold Dfr at hD;rw[hc]at hD;cases hD) (λ_ _ e=>by cases e)
theorem write_ok {b:Nat}{l s:List UInt8}{w:World}(h:Bld w b l)(hl:l.length+s.length<=1000000):
    CL 92 #[pT b,S s] w (RetA λv w'=>v=.tuple #[.int .i64 ((s.length:Nat):Int),.nilIface]∧Bld w' b (l++s)∧KB b w w'):=
  reta_of (Any.Builder_WriteString_k {Tryz.lays105 with} Tryz.Builder_Extra_105 b b (Lib.byteCells l) ⟨s.toArray⟩ w h (by rw[Lib.byteCells_length,size_S];omega) (Nat.le_of_lt h.lt)) (by
    rintro e w' ⟨rfl,h1,h2,h3⟩
    refine⟨_,rfl,by rw[size_S],?_,h3,h2⟩
    have:Lib.byteCells (l++s)=Lib.byteCells l++Lib.strCells ⟨s.toArray⟩:=by simp[Lib.byteCells,Lib.strCells]
    unfold Bld
    rw[this]
    exact .inr h1)
theorem string_ok {b:Nat}{l:List UInt8}{w:World}(h:Bld w b l):
    CL 93 #[pT b] w (RetA λv w'=>v=S l∧Bld w' b l∧KB b w w'):=
  reta_of (Tryz.Builder_String_any_k b b l w h (Nat.le_of_lt h.lt)) (by
    rintro e w' ⟨rfl,h1,h2,h3⟩
    exact⟨_,rfl,rfl,h1,h3,h2⟩)
def P4 (g:Nat):List Nat:=toB 10 g++List.replicate (4-(toB 10 g).length) 0
def D4:List Nat->List Nat
  |[]=>[]
  |[g]=>toB 10 g
  |g::rest=>P4 g++D4 rest
theorem D4_cc (g g2:Nat)(r:List Nat):D4 (g::g2::r)=P4 g++D4 (g2::r):=rfl
theorem D4_cne (g:Nat){r:List Nat}(h:r≠[]):D4 (g::r)=P4 g++D4 r:=by
  cases r with
  |nil=>exact absurd rfl h
  |cons a b=>rfl
theorem len4 {g:Nat}(h:g<10000):(toB 10 g).length<=4:=(length_toB_le_iff 10 om g 4).2 h
theorem P4_len {g:Nat}(h:g<10000):(P4 g).length=4:=by have:=len4 h;simp[P4];omega
theorem ofB_zeros:∀k,ofB 10 (List.replicate k 0)=0
  |0=>rfl
  |k+1=>by simp[List.replicate_succ,ofB,ofB_zeros k]
theorem P4_val (g:Nat):ofB 10 (P4 g)=g:=by rw[P4,ofB_append,ofB_zeros,ofB_toB 10 om];simp
theorem P4_lt (g:Nat):∀d∈P4 g,d<10:=by
  intro d hd
  rcases List.mem_append.1 hd with h|h
  · exact toB_lt 10 om g d h
  · rw[(List.mem_replicate.1 h).2];omega
theorem D4_lt:∀X:List Nat,∀d∈D4 X,d<10
  |[],d,h=>by simp[D4]at h
  |[g],d,h=>toB_lt 10 om g d h
  | g::g2::r,d,h=>by
    rw[D4_cc]at h
    rcases List.mem_append.1 h with h|h
    · exact P4_lt g d h
    · exact D4_lt (g2::r) d h
theorem D4_val:∀X:List Nat,(∀g∈X,g<10000)->ofB 10 (D4 X)=ofB 10000 X
  |[],_=>rfl
  |[g],_=>by simp[D4,ofB,ofB_toB 10 (show 2<=10 by omega)]
  | g::g2::r,h=>by
    rw[D4_cc,ofB_append,P4_val,P4_len (h g (by simp)),D4_val (g2::r) (λx hx=>h x (by simp at hx ⊢;right;exact hx))]
    simp[ofB]
theorem D4_last:∀X:List Nat,X≠[]->X.getLast?≠some 0->(∀g∈X,g<10000)->(D4 X)≠[]∧(D4 X).getLast?≠some 0
  |[],h,_,_=>absurd rfl h
  | [g],_,h,_=>by
    have hg:g≠0:=by intro e;subst e;simp at h
    exact⟨toB_ten_ne hg,getLast_toB 10 om g⟩
  | g::g2::r,_,h,hl=>by
    have ih:=D4_last (g2::r) (by simp) (by simpa using h) (λx hx=>hl x (by simp at hx ⊢;right;exact hx))
    rw[D4_cc]
    refine⟨by simp[ih.1],?_⟩
    rw[List.getLast?_append]
    cases hq:(D4 (g2::r)).getLast? with
    |none=>exact absurd (List.getLast?_eq_none_iff.1 hq) ih.1
    |some y=>simpa[hq]using ih.2
theorem D4_all (a:Nat):D4 (toB 10000 a)=toB 10 a:=by
  by_cases h0:toB 10000 a=[]
  · have:a=0:=toB_nil (B:=10000) om (by rw[h0];rfl)
    subst this;rfl
  · have hlt:=toB_lt 10000 om a
    have h1:=D4_last (toB 10000 a) h0 (getLast_toB 10000 om a) hlt
    have h2:Canon 10 (D4 (toB 10000 a)):=⟨D4_lt _,h1.2⟩
    rw[canon_eq om h2,D4_val _ hlt,ofB_toB 10000 om]
theorem showD_append (a b:List Nat):showD (a++b)=showD b++showD a:=by simp[showD]
theorem decDigits_showN (u:Nat):Lib.decDigits u=showN u:=by
  induction u using Nat.strongRecOn with
  | _ u ih=>
    by_cases h:u<10
    · rw[Lib.decDigits_one h]
      unfold showN
      split
      · next h0=>subst h0;rfl
      · next h0=>
        rw[toB_pos 10 u om om,show u/10=0 by omega,toB_zero,Nat.mod_eq_of_lt h];rfl
    · rw[Lib.decDigits,dif_neg h,ih (u/10) om]
      unfold showN
      rw[if_neg om,if_neg om]
      conv=>rhs;rw[toB_pos 10 u om om]
      simp[showD]
theorem itoa_nat (g:Nat):Lib.itoa (g:Int)=showN g:=by
  rw[Lib.itoa,if_neg om,Int.toNat_natCast,decDigits_showN]
theorem showN_len {g:Nat}(h:g<10000):0<(showN g).length∧(showN g).length<=4:=by
  unfold showN;split
  · simp
  · next h0=>
    rw[showD_length]
    exact⟨List.length_pos_iff.2 (toB_ten_ne h0),len4 h⟩
theorem repeat_zero (k:Nat):Lib.repeatL [48] k=showD (List.replicate k 0):=by
  induction k with
  |zero=>rfl
  |succ k ih=>rw[Lib.repeatL,ih,List.replicate_succ'];simp[showD]
theorem pad4 {g:Nat}(h:g<10000):Lib.repeatL [48] (4-(showN g).length)++showN g=showD (P4 g):=by
  by_cases h0:g=0
  · subst h0;rfl
  · have e:showN g=showD (toB 10 g):=by unfold showN;rw[if_neg h0]
    rw[e,showD_length,P4,showD_append,repeat_zero]
theorem drop_at {X:List Nat}{x:Nat}(h:x<X.length):X.drop x=X.getD x 0::X.drop (x+1):=by
  rw[List.drop_eq_getElem_cons h];simp[h]
theorem text_step {X:List Nat}{x n k:Nat}(hn:X.length=n)(hx:x<n)(hk:x+1=k)(hlt:∀g∈X,g<10000)(h0:X.getLast?≠some 0):
    showD (D4 (X.drop k))++(if x+1<n then Lib.repeatL [48] (4-(showN (X.getD x 0)).length)++showN (X.getD x 0)else showN (X.getD x 0))=showD (D4 (X.drop x)):=by
  subst hk
  have hgl:X.getD x 0<10000:=getD_lt hlt x
  have hdx:X.drop x=X.getD x 0::X.drop (x+1):=drop_at om
  rw[hdx]
  by_cases hc:x+1<n
  · rw[if_pos hc,pad4 hgl]
    have:X.drop (x+1)=X.getD (x+1) 0::X.drop (x+1+1):=drop_at om
    rw[D4_cne _ (by rw[this];simp),showD_append]
  · rw[if_neg hc]
    have hnil:X.drop (x+1)=[]:=List.drop_eq_nil_of_le om
    rw[hnil]
    have hg:X.getD x 0≠0:=by
      intro e
      apply h0
      rw[List.getLast?_eq_getElem?,show X.length-1=x by omega]
      have h9:X[x]?=some X[x]:=List.getElem?_eq_getElem om
      rw[List.getD,h9]at e
      rw[h9];exact congrArg some e
    simp only[D4]
    unfold showN
    rw[if_neg hg]
    simp[showD]
def rS (o:Option (List UInt8)):List UInt8:=o.getD []
def rE (o:Option (List UInt8)):Int:=if o.isSome then 0 else 30
def resI (o:Option (List UInt8)):Value:=.tuple #[S (rS o),.int .i64 (rE o)]
theorem natAbs_sgn (ng:Bool)(a:Nat):(sgn ng a).natAbs=a:=by unfold sgn;split <;>simp
theorem sgn_neg (ng:Bool){a:Nat}(h:0<a):(sgn ng a<0)↔ng=true:=by
  unfold sgn;cases ng <;>simp;omega
theorem showI_sgn (ng:Bool){a:Nat}(h:0<a):showI (sgn ng a)=if ng then 45::showN a else showN a:=by
  unfold showI
  rw[natAbs_sgn]
  by_cases hn:ng=true
  · rw[if_pos ((sgn_neg ng h).2 hn),if_pos hn]
  · rw[if_neg (λhc=>hn ((sgn_neg ng h).1 hc)),if_neg hn]
theorem fits_sgn (ng:Bool){a:Nat}(h:0<a):fits (sgn ng a)=decide ((showN a).length<=200):=by
  unfold fits
  rw[natAbs_sgn]
  unfold showN
  rw[if_neg om,showD_length,decide_eq_decide]
  exact(length_toB_le_iff 10 om a 200).symm
theorem out_zero (ng:Bool):Value.tuple #[S [48],.int .i64 0]=resI (outI (sgn ng 0)):=by cases ng <;>rfl
theorem out_big (ng:Bool){a:Nat}(h:0<a)(hl:(200:Int)<(((showN a).length:Nat):Int)):Value.tuple #[S [],.int .i64 30]=resI (outI (sgn ng a)):=by
  unfold outI
  rw[fits_sgn ng h,decide_eq_false om];rfl
theorem out_neg {ng:Bool}{a:Nat}(h:0<a)(hl:¬(200:Int)<(((showN a).length:Nat):Int))(hn:ng=true):Value.tuple #[S ([45]++showN a),.int .i64 0]=resI (outI (sgn ng a)):=by
  unfold outI
  rw[fits_sgn ng h,decide_eq_true om,if_pos rfl,showI_sgn ng h,if_pos hn];rfl
theorem out_pos {ng:Bool}{a:Nat}(h:0<a)(hl:¬(200:Int)<(((showN a).length:Nat):Int))(hn:ng=false):Value.tuple #[S (showN a),.int .i64 0]=resI (outI (sgn ng a)):=by
  unfold outI
  rw[fits_sgn ng h,decide_eq_true om,if_pos rfl,showI_sgn ng h,if_neg (by simp[hn])];rfl
def grp (X:List Nat)(n i:Nat):List UInt8:=if i+1<n then Lib.repeatL [48] (4-(showN (X.getD i 0)).length)++showN (X.getD i 0)else showN (X.getD i 0)
def tx (X:List Nat)(n:Nat)(pre:List Nat):List UInt8:=pre.flatMap (grp X n)
theorem tx_snoc (X:List Nat)(n:Nat)(pre:List Nat)(x:Nat):tx X n (pre++[x])=tx X n pre++grp X n x:=by simp[tx]
theorem grp_pos {X:List Nat}{n i:Nat}(h:i+1<n):grp X n i=Lib.repeatL [48] (4-(showN (X.getD i 0)).length)++showN (X.getD i 0):=if_pos h
theorem grp_neg {X:List Nat}{n i:Nat}(h:¬i+1<n):grp X n i=showN (X.getD i 0):=if_neg h
theorem grp_len {X:List Nat}(hX:∀g∈X,g<10000)(n i:Nat):(grp X n i).length<=4:=by
  have h1:=getD_lt hX i
  have h2:=showN_len h1
  unfold grp;split
  · rw[pad4 h1,showD_length,P4_len h1];omega
  · exact h2.2
theorem tx_len {X:List Nat}(hX:∀g∈X,g<10000)(n:Nat):∀pre:List Nat,(tx X n pre).length<=4*pre.length
  |[]=>by simp[tx]
  | i::l=>by
    have ih:=tx_len hX n l
    have:=grp_len hX n i
    simp only[tx,List.flatMap_cons,List.length_append,List.length_cons]at ih ⊢
    omega
theorem tx_gen {X:List Nat}{n:Nat}(hn:X.length=n)(hlt:∀g∈X,g<10000)(h0:X.getLast?≠some 0):∀j,j<=n->showD (D4 (X.drop j))++tx X n (List.range j).reverse=showD (D4 X)
  |0,_=>by simp[tx]
  | j+1,h=>by
    have e:(List.range (j+1)).reverse=j::(List.range j).reverse:=by simp[List.range_succ]
    rw[e]
    show _++(grp X n j++tx X n _)=_
    rw[<-List.append_assoc]
    have:=text_step (X:=X) (x:=j) (n:=n) (k:=j+1) hn om rfl hlt h0
    unfold grp
    rw[this]
    exact tx_gen hn hlt h0 j om
theorem tx_all {a n:Nat}(hn:(toB 10000 a).length=n)(h0:0<a):tx (toB 10000 a) n (List.range n).reverse=showN a:=by
  have h:=tx_gen hn (toB_lt 10000 om a) (getLast_toB 10000 om a) n (Nat.le_refl _)
  rw[List.drop_eq_nil_of_le om,D4_all]at h
  have h2:showD (D4 [])=[]:=rfl
  rw[h2,List.nil_append]at h
  rw[h];unfold showN;rw[if_neg om]
set_option maxRecDepth 100000 in
theorem stext_ok {A1:Option Addr}{n1 c1 a lo1:Nat}{w:World}(h1:Num w lo1 A1 n1 c1 a)(s1:n1<=9000)(ht:Tb w){ng:Bool}:
    CL 63 #[.agg #[.bool ng,.slice A1 n1 c1]] w (Ret w λv w'=>v=resI (outI (sgn ng a))):=by
 have uh1:=h1.hi;refine f_inM Tryz.func63 rfl ?_;refine go ?_;refine bx (λfx aol cf=>?_);have cw:=aol.2;refine go ?_;by_cases p6:(n1:Int)=0;have hz0:a=0:=toB_nil (B:=10000) om (h1.len.trans om);refine go ?_;refine f_outM0 (v:=.tuple #[S ([48]),.int .i64 0]) (res2 (r1:=.tmp 2) (r2:=.tmp 3) rfl ?_ ?_) cw (by first|exact out_big _ ha0 asuInt12|exact out_neg ha0 asuInt12 asuInt12|exact out_pos ha0 asuInt12 asuInt12|(rw[hz0];exact out_zero _));exact res_tmp (t:=2) (by exact rfl) _;exact res_tmp (t:=3) (by exact rfl) _;have ha0:0<a:=toB_ne (B:=10000) om (by rw[h1.len];omega);refine go ?_;refine al inf157 (λr8 sc nv=>?_);have⟨cf,cw⟩:=be1 sc.2 cf cw;refine go ?_;refine cl en122 (backward_ok (A:=A1) (n:=n1) (c:=c1)) ?_;rintro _ wz od ⟨rfl,aom⟩;have⟨cf,nv,cw⟩:=be2 od.2 cf nv cw;refine go ?_;have hbl:=Bld.start nv;have hblt:=hbl.lt
 refine c_range (m:=n1) (enc:=λx=>[.int .i64 x,.int .i64 ((((toB 10000 a).getD x 0:Nat):Int))]) (order:=(List.range n1).reverse) (Kq:=λW=>Blk W (r8.heap.size) 90 #[.slice A1 n1 c1]∧Rw W lo1 A1 (ints (toB 10000 a))) (gf:=131) (lb:=[pT r8.heap.size]) (ps:=[16,17]) rfl en139 (backward_iter aom (h1.row.ext cw) h1.len om) (λW W' row hq hg hr=>⟨Blk.cel hg hr hq.1,Rw.cel hg hr hq.2⟩) (λ_=>rfl) [5,6] (λx=>[.int .i64 x,.int .i64 ((((toB 10000 a).getD x 0:Nat):Int))]) ?asn (λpre W=>(wz.heap.size<=W.heap.size)∧(Ext w W)∧(Blk W (w.heap.size) 92 #[.bool (ng),.slice (A1) (n1) (c1)])∧(Bld W (fx.heap.size) (tx (toB 10000 a) n1 (pre)))) (λ_ _ _=>False) ?hI ?hIx ?h0 ?body ?done ?stop;case asn=>
  intro l x W K hK;refine go ?_;exact hK
 case hI=>
  rintro pre W W' row ⟨zwl,E,cf,hbl⟩ hg hr;exact⟨Nat.le_trans zwl hg.size,low_cel (B:=wz.heap.size) om hg hr (bz E) E,Blk.cel hg hr cf,Bld.cel hg hr hbl⟩
 case hIx=>
  exact λ_ _ _ _ _ h=>h.elim
 case h0=>
  exact⟨Nat.le_refl _,cw,cf,hbl⟩
 case body=>
  rintro l pre x W ⟨zwl,E,cf,hbl⟩ hpre hx hlen;have Kp:=KB.refl (fx.heap.size) W;have zW:=bz E;have hgd:=getD_lt h1.lt x;have hsl:=showN_len hgd;have hbl0:=hbl;have hbW:=hbl.lt;have hDl:=tx_len h1.lt n1 pre;refine go ?_;refine clb en131 (hc:=itoa_ok _ _ om om (ht.ext E)) (hk:=?_);rintro _ _ fy rfl;have cf:=be fy.2 cf;have hbl:=Bld.ext fy.2 hbl;have E:=xt E fy.2;have Kp:=KB.ext om Kp fy.2;rw[itoa_nat];refine go ?_;refine sui ?_;refine go ?_;by_cases w7:(x:Int)<((n1:Int)-1);refine go ?_;refine l_op (k_lenL (l:=showN ((toB 10000 a).getD x 0)) U9 rfl ?_);refine l_op (k_sub (a:=4) (b:=(((showN ((toB 10000 a).getD x 0)).length:Nat):Int)) (c:=((4-(showN ((toB 10000 a).getD x 0)).length:Nat):Int)) rfl rfl (by unfold In64;omega) om ?_);refine clb en132 (hc:=repeat_ok [48] (4-(showN ((toB 10000 a).getD x 0)).length) _ om (by simp)) (hk:=?_);rintro _ _ kx rfl;have cf:=be kx.2 cf;have hbl:=Bld.ext kx.2 hbl;have E:=xt E kx.2;have Kp:=KB.ext om Kp kx.2;refine go ?_;refine l_op (k_addS (a:=Lib.repeatL [48] (4-(showN ((toB 10000 a).getD x 0)).length)) (b:=showN ((toB 10000 a).getD x 0)) rfl rfl (by rw[<-List.length_append,pad4 hgd,showD_length,P4_len hgd];omega) ?_);refine go ?_;have hwl:((Lib.repeatL [48] (4-(showN ((toB 10000 a).getD x 0)).length))++(showN ((toB 10000 a).getD x 0))).length<=8:=by rw[pad4 hgd,showD_length,P4_len hgd];omega
  refine l_op (k_callA (vs:=[pT fx.heap.size,S ((Lib.repeatL [48] (4-(showN ((toB 10000 a).getD x 0)).length))++(showN ((toB 10000 a).getD x 0)))]) en133 rfl (write_ok hbl om) ?_);rintro _ _ ⟨rfl,hbl2,ly⟩;have cf:=KB.blk ly om dc cf;have E:=Below.trans E (Below.mono ly.low om);have aou:=ly.low.size;have Kp:=KB.wr Kp ly;have hbl:=hbl2;refine go ?_;exact⟨Kp.others hbl0,λhq=>⟨Kp.blk om dc hq.1,Kp.rw (λad e=>by have:=uh1 ad e;omega) hq.2⟩,⟨om,E,cf,(by rw[tx_snoc,grp_pos om];exact hbl)⟩⟩;refine go ?_;have hwl:(showN ((toB 10000 a).getD x 0)).length<=8:=by omega
  refine l_op (k_callA (vs:=[pT fx.heap.size,S (showN ((toB 10000 a).getD x 0))]) en133 rfl (write_ok hbl om) ?_);rintro _ _ ⟨rfl,hbl2,mq⟩;have cf:=KB.blk mq om dc cf;have E:=Below.trans E (Below.mono mq.low om);have aox:=mq.low.size;have Kp:=KB.wr Kp mq;have hbl:=hbl2;refine go ?_;exact⟨Kp.others hbl0,λhq=>⟨Kp.blk om dc hq.1,Kp.rw (λad e=>by have:=uh1 ad e;omega) hq.2⟩,⟨om,E,cf,(by rw[tx_snoc,grp_neg om];exact hbl)⟩⟩
 case stop=>
  exact λ_ _ _ _ _ _ h _=>h.elim
 case done=>
  rintro D W hD ⟨zwl,E,cf,hbl⟩ hK;have zW:=bz E;refine go ?_;rw[tx_all h1.len ha0]at hbl;refine l_op (k_callA (vs:=[pT fx.heap.size]) en134 rfl (string_ok hbl) ?_);rintro _ _ ⟨rfl,hbl2,ns⟩;have cf:=KB.blk ns om dc cf;have hK:=KB.dfr ns hbl hK;have E:=Below.trans E (Below.mono ns.low om);have ao0:=ns.low.size;have hbl:=hbl2;refine go ?_;refine l_op (k_lenL (l:=showN a) U9 rfl ?_);refine go ?_;by_cases w9:200<(((showN a).length:Nat):Int);refine go ?_;refine f_outM (v:=.tuple #[S ([]),.int .i64 30]) hK (res2 (r1:=.tmp 2) (r2:=.tmp 3) rfl ?_ ?_) ((put_dfr _).low E om) (by first|exact out_big _ ha0 asuInt12|exact out_neg ha0 asuInt12 asuInt12|exact out_pos ha0 asuInt12 asuInt12|(rw[hz0];exact out_zero _));exact res_tmp (t:=2) (by exact rfl) _;exact res_tmp (t:=3) (by exact rfl) _;refine go ?_;rcases Bool.eq_false_or_eq_true ng with oq|oq;refine go ?_;refine l_op (k_addS (a:=[45]) (b:=showN a) rfl rfl (by simp;omega) ?_);refine go ?_;refine f_outM (v:=.tuple #[S (([45])++(showN a)),.int .i64 0]) hK (res2 (r1:=.tmp 2) (r2:=.tmp 3) rfl ?_ ?_) ((put_dfr _).low E om) (by first|exact out_big _ ha0 asuInt12|exact out_neg ha0 asuInt12 asuInt12|exact out_pos ha0 asuInt12 asuInt12|(rw[hz0];exact out_zero _));exact res_tmp (t:=2) (by exact rfl) _;exact res_tmp (t:=3) (by exact rfl) _
  refine go ?_;refine f_outM (v:=.tuple #[S (showN a),.int .i64 0]) hK (res2 (r1:=.tmp 2) (r2:=.tmp 3) rfl ?_ ?_) ((put_dfr _).low E om) (by first|exact out_big _ ha0 asuInt12|exact out_neg ha0 asuInt12 asuInt12|exact out_pos ha0 asuInt12 asuInt12|(rw[hz0];exact out_zero _));exact res_tmp (t:=2) (by exact rfl) _;exact res_tmp (t:=3) (by exact rfl) _
theorem asuInt13 {p:Prop}(h:p:=by assumption):p:=h
theorem num_len {w:World}{lo n c a k:Nat}{A:Option Addr}(h:Num w lo A n c a)(hl:a<10000^k):n<=k:=by rw[<-h.len];exact(length_toB_le_iff 10000 om a k).2 hl
theorem val_lt {l:List UInt8}(h:isInt l=true):valN (body l)<10000^50:=Nat.lt_of_lt_of_le (valN_lt (isInt_num h)) dc
theorem sgn_val (l:List UInt8):sgn (neg l) (valN (body l))=valZ l:=rfl
theorem sgn_not (ng:Bool)(a:Nat):sgn (!ng) a=-sgn ng a:=by cases ng <;>simp[sgn]
theorem and_no {a b:Bool}(h:¬(a&&b)=true):(a&&b)=false:=by simpa using h
theorem and_l {a b:Bool}(h:(a&&b)=true):a=true:=by simp at h;exact h.1
theorem and_r {a b:Bool}(h:(a&&b)=true):b=true:=by simp at h;exact h.2
theorem addI_ok {a b:List UInt8}(h:(isInt a&&isInt b)=true):addI a b=outI (valZ a+valZ b):=by unfold addI;rw[if_pos h]
theorem addI_no {a b:List UInt8}(h:(isInt a&&isInt b)=false):addI a b=none:=by unfold addI;rw[h];rfl
theorem subI_ok {a b:List UInt8}(h:(isInt a&&isInt b)=true):subI a b=outI (valZ a-valZ b):=by unfold subI;rw[if_pos h]
theorem subI_no {a b:List UInt8}(h:(isInt a&&isInt b)=false):subI a b=none:=by unfold subI;rw[h];rfl
theorem mulI_ok {a b:List UInt8}(h:(isInt a&&isInt b)=true):mulI a b=outI (valZ a*valZ b):=by unfold mulI;rw[if_pos h]
theorem mulI_no {a b:List UInt8}(h:(isInt a&&isInt b)=false):mulI a b=none:=by unfold mulI;rw[h];rfl
theorem gcdI_no {a b:List UInt8}(h:(isInt a&&isInt b)=false):gcdI a b=none:=by unfold gcdI;rw[h];rfl
theorem cmpS_no {a b:List UInt8}(h:(isInt a&&isInt b)=false):cmpS a b=0:=by unfold cmpS;rw[h];rfl
theorem gcdI_ok {a b:List UInt8}(h:(isInt a&&isInt b)=true):gcdI a b=outI (sgn false (Nat.gcd (valN (body a)) (valN (body b)))):=by
  unfold gcdI;rw[if_pos h]
  have:Int.gcd (valZ a) (valZ b)=Nat.gcd (valN (body a)) (valN (body b)):=by rw[Int.gcd,valZ_natAbs,valZ_natAbs]
  rw[this];rfl
theorem sgn_mul (x y:Bool)(a b:Nat):sgn (!(x==y)) (a*b)=sgn x a*sgn y b:=by cases x <;>cases y <;>simp[sgn,Int.neg_mul,Int.mul_neg]
theorem sum_lt {a b:List UInt8}(ha:isInt a=true)(hb:isInt b=true){ng:Bool}{r:Nat}{s:Int}(h:sgn ng r=valZ a+s)(hs:s=valZ b∨s=-valZ b):r<10000^51:=by
  have h1:=val_lt ha
  have h2:=val_lt hb
  have e:(sgn ng r).natAbs=r:=natAbs_sgn ng r
  have ea:=valZ_natAbs a
  have eb:=valZ_natAbs b
  have:(10000:Nat)^51=10000^50*10000:=by rw[<-Nat.pow_succ]
  generalize (10000:Nat)^50=M at *
  omega
theorem cmp_nn {a b:List UInt8}(h:(isInt a&&isInt b)=true)(ha:neg a=true)(hb:neg b=true):cmpI ((valN (body b):Nat):Int) ((valN (body a):Nat):Int)=cmpS a b:=by
  unfold cmpS;rw[if_pos h]
  refine cmpI_congr ?_ ?_ <;>(unfold valZ;rw[if_pos ha,if_pos hb];omega)
theorem cmp_np {a b:List UInt8}(h:(isInt a&&isInt b)=true)(ha:neg a=true)(hb:neg b=false):(-1:Int)=cmpS a b:=by
  unfold cmpS;rw[if_pos h,cmpI_lt]
  have:=valN_pos (isInt_num (and_l h)) (isInt_neg0 (and_l h) ha)
  unfold valZ;rw[if_pos ha,if_neg (by simp[hb])];omega
theorem cmp_pn {a b:List UInt8}(h:(isInt a&&isInt b)=true)(ha:neg a=false)(hb:neg b=true):(1:Int)=cmpS a b:=by
  unfold cmpS;rw[if_pos h,cmpI_gt]
  have:=valN_pos (isInt_num (and_r h)) (isInt_neg0 (and_r h) hb)
  have e1:valZ a=(valN (body a):Int):=by unfold valZ;rw[if_neg (by simp[ha])]
  have e2:valZ b=-(valN (body b):Int):=by unfold valZ;rw[if_pos hb]
  rw[e1,e2];omega
theorem cmp_pp {a b:List UInt8}(h:(isInt a&&isInt b)=true)(ha:neg a=false)(hb:neg b=false):cmpI ((valN (body a):Nat):Int) ((valN (body b):Nat):Int)=cmpS a b:=by
  unfold cmpS;rw[if_pos h]
  unfold valZ;rw[if_neg (by simp[ha]),if_neg (by simp[hb])]
def resD (o:Option (List UInt8×List UInt8)):Value:=.tuple #[S (rS (o.map (·.1))),S (rS (o.map (·.2))),.int .i64 (if o.isSome then 0 else 30)]
theorem divI_no {a b:List UInt8}(h:(isInt a&&isInt b)=false):divI a b=none:=by unfold divI;rw[h];rfl
theorem divI_z {a b:List UInt8}(h:valN (body b)=0):divI a b=none:=by
  unfold divI
  by_cases hb:isInt b=true
  · have:b=[48]:=(valZ_eq_zero hb).1 (by have:=valZ_natAbs b;omega)
    simp[this]
  · simp[hb]
theorem divI_ok {a b:List UInt8}(h:(isInt a&&isInt b)=true)(h0:0<valN (body b)):divI a b=(outI (valZ a/valZ b)).map λq=>(q,showI (valZ a%valZ b)):=by
  have hb:b≠[48]:=by intro e;subst e;exact absurd valN_zero (by have:body [48]=[48]:=rfl;rw[this]at h0;omega)
  unfold divI
  rw[h,decide_eq_true hb];rfl
theorem ediv_sgn (ny:Bool)(x:Int)(b:Nat):x/sgn ny b=(if ny then -(x/(b:Int))else x/(b:Int))∧x%sgn ny b=x%(b:Int):=by
  cases ny
  · simp[sgn]
  · simp[sgn,Int.ediv_neg,Int.emod_neg]
theorem div_plain {nx ny:Bool}{a b:Nat}(hb:0<b)(hc:nx=false∨a%b=0):sgn (!(nx==ny)) (a/b)=sgn nx a/sgn ny b∧((a%b:Nat):Int)=sgn nx a%sgn ny b:=by
  obtain⟨e1,e2⟩:=ediv_sgn ny (sgn nx a) b
  rw[e1,e2]
  cases nx with
  | false=>
    simp only[sgn,Bool.false_eq_true,if_false]
    cases ny <;>simp
  | true=>
    have hz:a%b=0:=by rcases hc with h|h;cases h;exact h
    have hd:(b:Int)∣(a:Int):=Int.natCast_dvd_natCast.2 (Nat.dvd_of_mod_eq_zero hz)
    simp only[sgn,if_true]
    rw[Int.neg_ediv_of_dvd hd,Int.emod_eq_zero_of_dvd (Int.dvd_neg.2 hd),hz]
    cases ny <;>simp
theorem div_round {ny:Bool}{a b:Nat}(hb:0<b)(hr:0<a%b):sgn (!(true==ny)) (a/b+1)=sgn true a/sgn ny b∧((b-a%b:Nat):Int)=sgn true a%sgn ny b:=by
  obtain⟨e1,e2⟩:=ediv_sgn ny (sgn true a) b
  rw[e1,e2]
  have hlt:=Nat.mod_lt a hb
  have hdm:=Nat.div_add_mod a b
  have key:(-(a:Int))/(b:Int)=-((a/b:Nat):Int)-1∧(-(a:Int))%(b:Int)=((b-a%b:Nat):Int):=by
    refine(Int.ediv_emod_unique om).2 ⟨?_,by omega,by omega⟩
    have h3:(a:Int)=(b:Int)*((a/b:Nat):Int)+((a%b:Nat):Int):=by rw[<-Int.natCast_mul,<-Int.natCast_add,hdm]
    rw[Int.mul_sub,Int.mul_neg]
    omega
  simp only[sgn,if_true]
  rw[key.1,key.2]
  cases ny <;>simp <;>omega
theorem rS_rem {r:Nat}{x:Int}(hr:r<10^200)(h:(r:Int)=x):rS (outI (sgn false r))=showI x:=by
  have hf:fits x=true:=by unfold fits;rw[decide_eq_true_eq];omega
  have e:sgn false r=x:=h
  rw[e];unfold outI;rw[if_pos hf];rfl
theorem mod_lt_pow {b:List UInt8}{r:Nat}(hb:isInt b=true)(h:r<=valN (body b)):r<10^200:=Nat.lt_of_le_of_lt h (valN_lt (isInt_num hb))
theorem rE_zero {o:Option (List UInt8)}(h:rE o=0):∃s,o=some s:=by cases o with|none=>simp[rE]at h|some s=>exact⟨s,rfl⟩
theorem rE_ne {o:Option (List UInt8)}(h:¬rE o=0):o=none:=by cases o with|none=>rfl|some s=>simp[rE]at h
theorem div_out {a b:List UInt8}{q r:Nat}{ng:Bool}(h:(isInt a&&isInt b)=true)(h0:0<valN (body b))(hq:sgn ng q=valZ a/valZ b)(hr:(r:Int)=valZ a%valZ b)(hl:r<=valN (body b))(hE:rE (outI (sgn ng q))=0):
    Value.tuple #[S (rS (outI (sgn ng q))),S (rS (outI (sgn false r))),.int .i64 0]=resD (divI a b):=by
  rw[divI_ok h h0,rS_rem (mod_lt_pow (and_r h) hl) hr,<-hq]
  obtain⟨s,hs⟩:=rE_zero hE
  rw[hs];rfl
theorem div_bad {a b:List UInt8}{q:Nat}{ng:Bool}(h:(isInt a&&isInt b)=true)(h0:0<valN (body b))(hq:sgn ng q=valZ a/valZ b)(hE:¬rE (outI (sgn ng q))=0):
    Value.tuple #[S [],S [],.int .i64 (rE (outI (sgn ng q)))]=resD (divI a b):=by
  rw[divI_ok h h0,<-hq,rE_ne hE];rfl
theorem prod_lt {a b:List UInt8}(ha:isInt a=true)(hb:isInt b=true):valN (body a)*valN (body b)<10000^100:=by
  have h1:=val_lt ha
  have h2:=val_lt hb
  have:(10000:Nat)^100=10000^50*10000^50:=by rw[<-Nat.pow_add]
  rw[this]
  exact Nat.mul_lt_mul'' h1 h2
def SgPost (lo:Nat)(ng:Bool)(a:Nat)(v:Value)(w:World):Prop:=∃A n c,v=.agg #[.bool ng,.slice A n c]∧Num w lo A n c a
theorem SgPost.ext {lo a:Nat}{ng:Bool}{v:Value}{w w':World}(k:Ext w w')(h:SgPost lo ng a v w):SgPost lo ng a v w':=by
  obtain⟨A,n,c,hv,hn⟩:=h
  exact⟨A,n,c,hv,hn.ext k⟩
theorem iAdd_ok (a b:List UInt8)(w:World)(ht:Tb w):
    CL 40 #[S a,S b] w (Ret w λv w'=>v=resI (addI a b)):=by
 by_cases hno:(isInt a&&isInt b)=true;have ha:=and_l hno;have hb:=and_r hno;refine f_in Tryz.func40 rfl ?_;refine go ?_;refine cl en104 (both_ok _ _ _ ha hb) ?_;rintro _ _ aoo ⟨A1,n1,c1,A2,n2,c2,rfl,h1,h2⟩;have cf:=aoo.2;have l1:=num_len h1 (val_lt ha);have l2:=num_len h2 (val_lt hb);have uh1:=h1.hi;have uh2:=h2.hi;refine go ?_;refine al inf125 (λ_ od oq=>?_);have h1:=Num.ext od.2 h1;have h2:=Num.ext od.2 h2;have cf:=xt cf od.2;refine al inf125 (λ_ nv p6=>?_);have h1:=Num.ext nv.2 h1;have h2:=Num.ext nv.2 h2;have⟨oq,cf⟩:=be1 nv.2 oq cf;refine SA oq (λ_ kx fx=>?_);have h1:=Num.putU kx (λad e=>by have:=uh1 ad e;omega) h1;have h2:=Num.putU kx (λad e=>by have:=uh2 ad e;omega) h2;have⟨p6,cf,_⟩:=pl1 kx p6 cf;refine SA p6 (λ_ ly _=>?_);have h1:=Num.putU ly (λad e=>by have:=uh1 ad e;omega) h1;have h2:=Num.putU ly (λad e=>by have:=uh2 ad e;omega) h2;have⟨fx,cf,_⟩:=pl1 ly fx cf;refine go ?_;refine clb en228 (hc:=splus_ok h1 om h2 om) (hk:=?_);rintro _ _ ns ⟨ng,r,A,n,c,rfl,hr,hs⟩;have cf:=xt cf ns.2;rw[sgn_val,sgn_val]at hs;have lr:=num_len hr (sum_lt ha hb hs (by exact Or.inl rfl));refine clb en109 (hc:=stext_ok hr om (ht.ext cf)) (hk:=?_);rintro _ _ fy rfl;have cf:=xt cf fy.2;refine go ?_
 exact f_ret2 (t:=4) (u:=5) (v1:=S (rS (outI (sgn ng r)))) (v2:=.int .i64 (rE (outI (sgn ng r)))) rfl cf (by rw[addI_ok hno];exact congrArg (λx=>resI (outI x)) hs) rfl rfl;have hno:=and_no hno;refine f_in Tryz.func40 rfl ?_;refine go ?_;refine cl en104 (both_no _ _ _ hno) ?_;rintro _ _ aoq rfl;have cw:=aoq.2;refine go ?_;refine al inf125 (λ_ aos r8=>?_);have cw:=xt cw aos.2;refine al inf125 (λ_ aom sc=>?_);have⟨r8,cw⟩:=be1 aom.2 r8 cw;refine SA r8 (λ_ wz aon=>?_);have⟨sc,cw,_⟩:=pl1 wz sc cw;refine SA sc (λ_ w7 _=>?_);have⟨aon,cw,_⟩:=pl1 w7 aon cw;refine go ?_;exact f_ret2 (t:=4) (u:=5) (v1:=S ([])) (v2:=.int .i64 30) rfl cw (by rw[addI_no hno];rfl) rfl rfl
theorem iSub_ok (a b:List UInt8)(w:World)(ht:Tb w):
    CL 28 #[S a,S b] w (Ret w λv w'=>v=resI (subI a b)):=by
 by_cases hno:(isInt a&&isInt b)=true;have ha:=and_l hno;have hb:=and_r hno;refine f_in Tryz.func28 rfl ?_;refine go ?_;refine cl en104 (both_ok _ _ _ ha hb) ?_;rintro _ _ aoq ⟨A1,n1,c1,A2,n2,c2,rfl,h1,h2⟩;have cf:=aoq.2;have l1:=num_len h1 (val_lt ha);have l2:=num_len h2 (val_lt hb);have uh1:=h1.hi;have uh2:=h2.hi;refine go ?_;refine al inf125 (λ_ p6 r8=>?_);have h1:=Num.ext p6.2 h1;have h2:=Num.ext p6.2 h2;have cf:=xt cf p6.2;refine al inf125 (λ_ oq sc=>?_);have h1:=Num.ext oq.2 h1;have h2:=Num.ext oq.2 h2;have⟨r8,cf⟩:=be1 oq.2 r8 cf;refine SA r8 (λ_ ly cw=>?_);have h1:=Num.putU ly (λad e=>by have:=uh1 ad e;omega) h1;have h2:=Num.putU ly (λad e=>by have:=uh2 ad e;omega) h2;have⟨sc,cf,_⟩:=pl1 ly sc cf;refine SA sc (λ_ mq aon=>?_);have h1:=Num.putU mq (λad e=>by have:=uh1 ad e;omega) h1;have h2:=Num.putU mq (λad e=>by have:=uh2 ad e;omega) h2;have⟨cw,cf,_⟩:=pl1 mq cw cf;refine go ?_;refine SO aon (λ_ ns _=>?_);have h1:=Num.putU ns (λad e=>by have:=uh1 ad e;omega) h1;have h2:=Num.putU ns (λad e=>by have:=uh2 ad e;omega) h2;have⟨cw,cf,_⟩:=pl1 ns cw cf;refine go ?_;refine clb en228 (hc:=splus_ok h1 om h2 om) (hk:=?_);rintro _ _ od ⟨ng,r,A,n,c,rfl,hr,hs⟩;have cf:=xt cf od.2;rw[sgn_val,sgn_not,sgn_val]at hs;have lr:=num_len hr (sum_lt ha hb hs (by exact Or.inr rfl))
 refine clb en109 (hc:=stext_ok hr om (ht.ext cf)) (hk:=?_);rintro _ _ kx rfl;have cf:=xt cf kx.2;refine go ?_;exact f_ret2 (t:=4) (u:=5) (v1:=S (rS (outI (sgn ng r)))) (v2:=.int .i64 (rE (outI (sgn ng r)))) rfl cf (by rw[subI_ok hno];rw[show valZ a-valZ b=valZ a+-valZ b from rfl];exact congrArg (λx=>resI (outI x)) hs) rfl rfl;have hno:=and_no hno;refine f_in Tryz.func28 rfl ?_;refine go ?_;refine cl en104 (both_no _ _ _ hno) ?_;rintro _ _ aos rfl;have fx:=aos.2;refine go ?_;refine al inf125 (λ_ aou wz=>?_);have fx:=xt fx aou.2;refine al inf125 (λ_ aoo w7=>?_);have⟨wz,fx⟩:=be1 aoo.2 wz fx;refine SA wz (λ_ w9 aop=>?_);have⟨w7,fx,_⟩:=pl1 w9 w7 fx;refine SA w7 (λ_ aol _=>?_);have⟨aop,fx,_⟩:=pl1 aol aop fx;refine go ?_;exact f_ret2 (t:=4) (u:=5) (v1:=S ([])) (v2:=.int .i64 30) rfl fx (by rw[subI_no hno];rfl) rfl rfl
theorem iMul_ok (a b:List UInt8)(w:World)(ht:Tb w):
    CL 58 #[S a,S b] w (Ret w λv w'=>v=resI (mulI a b)):=by
 by_cases hno:(isInt a&&isInt b)=true;have ha:=and_l hno;have hb:=and_r hno;refine f_in Tryz.func58 rfl ?_;refine go ?_;refine cl en104 (both_ok _ _ _ ha hb) ?_;rintro _ _ ao3 ⟨A1,n1,c1,A2,n2,c2,rfl,h1,h2⟩;have fx:=ao3.2;have l1:=num_len h1 (val_lt ha);have l2:=num_len h2 (val_lt hb);have uh1:=h1.hi;have uh2:=h2.hi;refine go ?_;refine al inf125 (λ_ aou aov=>?_);have h1:=Num.ext aou.2 h1;have h2:=Num.ext aou.2 h2;have fx:=xt fx aou.2;refine al inf125 (λ_ sc aow=>?_);have h1:=Num.ext sc.2 h1;have h2:=Num.ext sc.2 h2;have⟨aov,fx⟩:=be1 sc.2 aov fx;refine SA aov (λ_ ns cf=>?_);have h1:=Num.putU ns (λad e=>by have:=uh1 ad e;omega) h1;have h2:=Num.putU ns (λad e=>by have:=uh2 ad e;omega) h2;have⟨aow,fx,_⟩:=pl1 ns aow fx;refine SA aow (λao4 nv _=>?_);have h1:=Num.putU nv (λad e=>by have:=uh1 ad e;omega) h1;have h2:=Num.putU nv (λad e=>by have:=uh2 ad e;omega) h2;have⟨cf,fx,_⟩:=pl1 nv cf fx;refine go ?_;obtain⟨L,_⟩:∃L,L=ao4.heap.size:=⟨_,rfl⟩;have lr0:=prod_lt ha hb;refine c_an 14 ?_;refine sf ?_;refine sf_ap (λ_ _ _ _=>by refine l_op (k_neqB (a:=neg a) (b:=neg b) (q:=(!((neg a)==(neg b)))) U4 rfl rfl rfl ?_);refine go ?_;exact finp) ?_;refine sf ?_;refine sf_ah (λv w=>NumPost L (valN (body a)*valN (body b)) v w) (hs:=λ_ _ _ k h=>h.ext k) (λ_ _ od _=>?_) ?_;have h1:=Num.ext od h1;have h2:=Num.ext od h2
 refine clb en231 (hc:=times_ok h1 om h2 om) (hk:=?_);rintro _ _ oq ⟨Ar,nr,cr,rfl,hr⟩;have ao5:=oq.2;have hr:=hr.mono (lo':=L) (by have:=bz od;omega);refine go ?_;exact fs ⟨ao5,⟨Ar,nr,cr,rfl,hr⟩⟩;refine sf_ah (λv w=>SgPost L (!(neg a==neg b)) (valN (body a)*valN (body b)) v w) (hs:=λ_ _ _ k h=>h.ext k) (λ_ _ _ ao6=>?_) ?_;obtain⟨Ar,nr,cr,ao7,hr⟩:=(ao6 9 27 rfl rfl);refine l_op (k_build (vs:=[(0,.bool ((!((neg a)==(neg b))))),(1,.slice Ar nr cr)]) (cells:=#[.bool ((!((neg a)==(neg b)))),.slice Ar nr cr]) (pl:=[(0,1),(1,1)]) U125 inf125 (by kernel_rfl) (cons_eqp rfl (cons_eqp ao7 rfl)) (by kernel_rfl) ?_);refine go ?_;exact fs ⟨Ext.refl _,⟨Ar,nr,cr,rfl,hr⟩⟩;refine sf_ae (V:=.tuple #[S (rS (outI (sgn (!(neg a==neg b)) (valN (body a)*valN (body b))))),.int .i64 (rE (outI (sgn (!(neg a==neg b)) (valN (body a)*valN (body b)))))]) (λ_ _ p6 ao8=>?_) ?_;obtain⟨_,_,_,ao9,hq⟩:=(ao8 10 28 rfl rfl);have lq:=num_len hq (prod_lt ha hb);refine clb en109 (hc:=stext_ok hq om (ht.ext (xt fx p6))) (hk:=?_) (hv:=cons_eq ao9 rfl);rintro _ _ kx rfl;have apa:=kx.2;refine go ?_;exact fs ⟨apa,rfl⟩;refine sf ?_;intro _ _ r8 _;have fx:=xt fx r8.2;refine go ?_
 exact f_ret2 (t:=4) (u:=5) (v1:=S (rS (outI (sgn (!(neg a==neg b)) (valN (body a)*valN (body b)))))) (v2:=.int .i64 (rE (outI (sgn (!(neg a==neg b)) (valN (body a)*valN (body b)))))) rfl fx (by rw[mulI_ok hno,<-sgn_val,<-sgn_val,<-sgn_mul];rfl) rfl rfl;have hno:=and_no hno;refine f_in Tryz.func58 rfl ?_;refine go ?_;refine cl en104 (both_no _ _ _ hno) ?_;rintro _ _ apc rfl;have fy:=apc.2;refine go ?_;refine al inf125 (λ_ ape aox=>?_);have fy:=xt fy ape.2;refine al inf125 (λ_ ao1 aoy=>?_);have⟨aox,fy⟩:=be1 ao1.2 aox fy;refine SA aox (λ_ aoz ao2=>?_);have⟨aoy,fy,_⟩:=pl1 aoz aoy fy;refine SA aoy (λ_ ao0 _=>?_);have⟨ao2,fy,_⟩:=pl1 ao0 ao2 fy;refine go ?_;exact f_ret2 (t:=4) (u:=5) (v1:=S ([])) (v2:=.int .i64 30) rfl fy (by rw[mulI_no hno];rfl) rfl rfl
theorem iCmp_ok (a b:List UInt8)(w:World):
    CL 34 #[S a,S b] w (Ret w λv w'=>v=.int .i64 (cmpS a b)):=by
 by_cases hno:(isInt a&&isInt b)=true;have ha:=and_l hno;have hb:=and_r hno;refine f_in Tryz.func34 rfl ?_;refine go ?_;refine cl en104 (both_ok _ _ _ ha hb) ?_;rintro _ _ aor ⟨A1,n1,c1,A2,n2,c2,rfl,h1,h2⟩;have cf:=aor.2;have l1:=num_len h1 (val_lt ha);have l2:=num_len h2 (val_lt hb);have uh1:=h1.hi;have uh2:=h2.hi;refine go ?_;refine al inf125 (λ_ r8 sc=>?_);have h1:=Num.ext r8.2 h1;have h2:=Num.ext r8.2 h2;have cf:=xt cf r8.2;refine al inf125 (λ_ p6 wz=>?_);have h1:=Num.ext p6.2 h1;have h2:=Num.ext p6.2 h2;have⟨sc,cf⟩:=be1 p6.2 sc cf;refine SA sc (λ_ ns fx=>?_);have h1:=Num.putU ns (λad e=>by have:=uh1 ad e;omega) h1;have h2:=Num.putU ns (λad e=>by have:=uh2 ad e;omega) h2;have⟨wz,cf,_⟩:=pl1 ns wz cf;refine SA wz (λ_ nv _=>?_);have h1:=Num.putU nv (λad e=>by have:=uh1 ad e;omega) h1;have h2:=Num.putU nv (λad e=>by have:=uh2 ad e;omega) h2;have⟨fx,cf,_⟩:=pl1 nv fx cf;refine go ?_;rcases Bool.eq_false_or_eq_true (neg a)with kx|kx;refine go ?_;rcases Bool.eq_false_or_eq_true (neg b)with w7|w7;refine go ?_;refine clb en110 (hc:=compare_ok h2 om h1) (hk:=?_);rintro _ _ od rfl;have cf:=xt cf od.2;refine go ?_;exact f_ret1 (t:=4) (v:=.int .i64 (cmpI ((valN (body b):Nat):Int) ((valN (body a):Nat):Int))) rfl cf (congrArg (Value.int .i64) (by first|exact cmp_nn hno asuInt13 asuInt13|exact cmp_np hno asuInt13 asuInt13|exact cmp_pn hno asuInt13 asuInt13|exact cmp_pp hno asuInt13 asuInt13)) rfl
 refine go ?_;exact f_ret1 (t:=4) (v:=.int .i64 ((-1))) rfl cf (congrArg (Value.int .i64) (by first|exact cmp_nn hno asuInt13 asuInt13|exact cmp_np hno asuInt13 asuInt13|exact cmp_pn hno asuInt13 asuInt13|exact cmp_pp hno asuInt13 asuInt13)) rfl;refine go ?_;rcases Bool.eq_false_or_eq_true (neg b)with w9|w9;refine go ?_;exact f_ret1 (t:=4) (v:=.int .i64 1) rfl cf (congrArg (Value.int .i64) (by first|exact cmp_nn hno asuInt13 asuInt13|exact cmp_np hno asuInt13 asuInt13|exact cmp_pn hno asuInt13 asuInt13|exact cmp_pp hno asuInt13 asuInt13)) rfl;refine go ?_;refine clb en110 (hc:=compare_ok h1 om h2) (hk:=?_);rintro _ _ oq rfl;have cf:=xt cf oq.2;refine go ?_;exact f_ret1 (t:=4) (v:=.int .i64 (cmpI ((valN (body a):Nat):Int) ((valN (body b):Nat):Int))) rfl cf (congrArg (Value.int .i64) (by first|exact cmp_nn hno asuInt13 asuInt13|exact cmp_np hno asuInt13 asuInt13|exact cmp_pn hno asuInt13 asuInt13|exact cmp_pp hno asuInt13 asuInt13)) rfl;have hno:=and_no hno;refine f_in Tryz.func34 rfl ?_;refine go ?_;refine cl en104 (both_no _ _ _ hno) ?_;rintro _ _ aot rfl;have ly:=aot.2;refine go ?_;refine al inf125 (λ_ aov aol=>?_);have ly:=xt ly aov.2;refine al inf125 (λ_ aop aom=>?_);have aol:=be aop.2 aol;have ly:=xt ly aop.2
 refine SA aol (λ_ aon aoq=>?_);have⟨aom,ly,_⟩:=pl1 aon aom ly;refine SA aom (λ_ aoo _=>?_);have⟨aoq,ly,_⟩:=pl1 aoo aoq ly;refine go ?_;exact f_ret1 (t:=4) (v:=.int .i64 0) rfl ly (by rw[cmpS_no hno]) rfl
theorem krInt14 {p:Prop}(h:p:=by kernel_rfl):p:=h
theorem asuInt14 {p:Prop}(h:p:=by assumption):p:=h
theorem num_one {w:World}{lo:Nat}{A:Option Addr}(h:Rw w lo A [Value.int .i64 1]):Num w lo A 1 1 1:=by
  have e:toB 10000 1=[1]:=by decide
  exact⟨by rw[e];exact h,by rw[e];rfl,Nat.le_refl _⟩
theorem dvp {a b:List UInt8}(h0:0<valN (body b))(hc:neg a=false∨valN (body a)%valN (body b)=0):sgn (!(neg a==neg b)) (valN (body a)/valN (body b))=valZ a/valZ b∧((valN (body a)%valN (body b):Nat):Int)=valZ a%valZ b:=
  div_plain h0 hc
theorem dvr {a b:List UInt8}(h0:0<valN (body b))(ha:neg a=true)(hr:0<valN (body a)%valN (body b)):sgn (!(neg a==neg b)) (valN (body a)/valN (body b)+1)=valZ a/valZ b∧((valN (body b)-valN (body a)%valN (body b):Nat):Int)=valZ a%valZ b:=by
  have:=div_round (ny:=neg b) h0 hr
  rw[<-ha]at this
  exact this
theorem div_lt50 {a b:Nat}(h:a<10000^50):a/b<10000^50:=Nat.lt_of_le_of_lt (Nat.div_le_self a b) h
theorem succ_lt51 {a:Nat}(h:a<10000^50):a+1<10000^51:=by
  have:(10000:Nat)^51=10000^50*10000:=by rw[<-Nat.pow_succ]
  generalize (10000:Nat)^50=M at *
  omega
theorem gcd_step {x y G:Nat}(h:Nat.gcd x y=G):Nat.gcd y (x%y)=G:=by rw[Nat.gcd_comm,<-Nat.gcd_rec,Nat.gcd_comm];exact h
theorem one_ok {w:World}:
    CL 72 #[] w (Ret w λv w'=>∃A n c,v=.slice A n c∧Num w' w.heap.size A n c 1):=by
 refine f_in Tryz.func72 rfl ?_;refine go ?_;refine BS (λ_ cf _ cw=>?_);have fx:=cf;have ly:=bz cf;refine go ?_;exact f_ret1 (t:=0) (v:=.slice (some ⟨w.heap.size,0,none⟩) 1 1) rfl fx ⟨_,_,_,rfl,num_one (Rw.of_own cw)⟩ rfl
theorem iDiv_ok (a b:List UInt8)(w:World)(ht:Tb w):
    CL 42 #[S a,S b] w (Ret w λv w'=>v=resD (divI a b)):=by
 by_cases hno:(isInt a&&isInt b)=true;have ha:=and_l hno;have hb:=and_r hno;refine f_in Tryz.func42 rfl ?_;refine go ?_;refine cl en104 (both_ok _ _ _ ha hb) ?_;rintro _ _ apb ⟨A1,n1,c1,A2,n2,c2,rfl,h1,h2⟩;have fx:=apb.2;have l1:=num_len h1 (val_lt ha);have l2:=num_len h2 (val_lt hb);have uh1:=h1.hi;have uh2:=h2.hi;refine go ?_;refine al inf125 (λ_ aow aox=>?_);have h1:=Num.ext aow.2 h1;have h2:=Num.ext aow.2 h2;have fx:=xt fx aow.2;refine al inf125 (λ_ aov aoy=>?_);have h1:=Num.ext aov.2 h1;have h2:=Num.ext aov.2 h2;have⟨aox,fx⟩:=be1 aov.2 aox fx;refine SA aox (λ_ aos cf=>?_);have h1:=Num.putU aos (λad e=>by have:=uh1 ad e;omega) h1;have h2:=Num.putU aos (λad e=>by have:=uh2 ad e;omega) h2;have⟨aoy,fx,_⟩:=pl1 aos aoy fx;refine SA aoy (λ_ aot cw=>?_);have h1:=Num.putU aot (λad e=>by have:=uh1 ad e;omega) h1;have h2:=Num.putU aot (λad e=>by have:=uh2 ad e;omega) h2;have⟨cf,fx,_⟩:=pl1 aot cf fx;refine go ?_;by_cases ao3:(n2:Int)=0;have h0:valN (body b)=0:=toB_nil (B:=10000) om (h2.len.trans om);refine go ?_;exact f_ret3 (t:=4) (u:=5) (s:=6) (v1:=S ([])) (v2:=S ([])) (v3:=.int .i64 30) rfl fx (by first|exact div_out hno h0 hdv.1 hdv.2 hrl asuInt14|exact div_bad hno h0 hdv.1 asuInt14|(rw[divI_z h0];rfl)) rfl rfl rfl;have h0:0<valN (body b):=toB_ne (B:=10000) om (by rw[h2.len];omega);refine go ?_
 refine clb en105 (hc:=over_ok h1 om h2 om h0) (hk:=?_);rintro _ apc aou ⟨Aq,nq,cq,Ar,nr,cr,rfl,hq,hr⟩;have h2:=Num.ext aou.2 h2;have⟨cf,cw,fx⟩:=be2 aou.2 cf cw fx;have lq:=num_len hq (div_lt50 (val_lt ha));have lr:=num_len hr (Nat.lt_trans (Nat.mod_lt _ h0) (val_lt hb));refine go ?_;rcases Bool.eq_false_or_eq_true (neg a)with ly|ly;refine go ?_;by_cases ao4:0<(nr:Int);have hr0:0<valN (body a)%valN (body b):=toB_ne (B:=10000) om (by rw[hr.len];omega);have hdv:=dvr h0 ly hr0;have hrl:valN (body b)-valN (body a)%valN (body b)<=valN (body b):=Nat.sub_le _ _;refine go ?_;obtain⟨L,_⟩:∃L,L=apc.heap.size:=⟨_,rfl⟩;have hmle:valN (body a)%valN (body b)<=valN (body b):=Nat.le_of_lt (Nat.mod_lt _ h0);have hln:nr<=n2:=by rw[<-hr.len,<-h2.len];exact len_mono om hmle
 have l1':=lq;refine c_an 7 ?_;refine sf ?_;refine sf_ah (λv w=>NumPost L 1 v w) (hs:=λ_ _ _ k h=>h.ext k) (λ_ _ oq _=>?_) ?_;refine cl en107 one_ok ?_;rintro _ _ p6 ⟨A1c,n1c,c1c,rfl,h1c⟩;have apd:=p6.2;have h1c:=h1c.mono (lo':=L) (by have:=bz oq;omega);refine go ?_;exact fs ⟨apd,⟨A1c,n1c,c1c,rfl,h1c⟩⟩;refine sf_ah (λv w=>NumPost L (valN (body a)/valN (body b)+1) v w) (hs:=λ_ _ _ k h=>h.ext k) (λ_ _ r8 ape=>?_) ?_;obtain⟨A1c,n1c,c1c,apf,h1c⟩:=(ape 1 47 rfl rfl);have l1c:=num_len (k:=1) h1c dc;have hq:=Num.ext r8 hq;refine clb en106 (hc:=plus_ok hq om h1c om) (hk:=?_) (hv:=cons_eq rfl (cons_eq apf rfl));rintro _ _ od ⟨Ap,np,cp,rfl,hp⟩;have apg:=od.2;have hp:=hp.mono (lo':=L) (by have:=bz r8;omega);refine go ?_;exact fs ⟨apg,⟨Ap,np,cp,rfl,hp⟩⟩;refine sf ?_;refine sf_ah (λv w=>NumPost L (valN (body b)-valN (body a)%valN (body b)) v w) (hs:=λ_ _ _ k h=>h.ext k) (λ_ _ sc _=>?_) ?_;have h2:=Num.ext sc h2;have hr:=Num.ext sc hr;refine clb en108 (hc:=minus_ok h2 om hr om hmle hln) (hk:=?_);rintro _ _ wz ⟨Am,nm,cm,rfl,hm⟩;have aph:=wz.2;have hm:=hm.mono (lo':=L) (by have:=bz sc;omega);refine go ?_;exact fs ⟨aph,⟨Am,nm,cm,rfl,hm⟩⟩;refine sf ?_;intro _ _ w7 ao5;have⟨cf,cw,fx⟩:=be2 w7.2 cf cw fx;obtain⟨Ap,np,cp,_,hp⟩:=(ao5 2 48 rfl rfl);obtain⟨Am,nm,cm,_,hm⟩:=(ao5 6 52 rfl rfl);refine go ?_
 have lp:=num_len hp (succ_lt51 (div_lt50 (val_lt ha)));have lm:=num_len hm (Nat.lt_of_le_of_lt (Nat.sub_le _ _) (val_lt hb));refine go ?_;refine l_op (k_neqB (a:=neg a) (b:=neg b) (q:=(!((neg a)==(neg b)))) U4 rfl rfl rfl ?_);refine go ?_;refine clb en109 (hc:=stext_ok hp om (ht.ext fx)) (hk:=?_);rintro _ _ mq rfl;have hm:=Num.ext mq.2 hm;have fx:=xt fx mq.2;refine go ?_;by_cases ao6:(rE (outI (sgn (!((neg a)==(neg b))) (valN (body a)/valN (body b)+1))))=0;refine go ?_;refine l_op (k_build (vs:=[(1,.slice Am nm cm)]) (cells:=#[.bool false,.slice Am nm cm]) (pl:=[(0,1),(1,1)]) U125 inf125 krInt14 rfl krInt14 ?_);refine clb en109 (hc:=stext_ok hm om (ht.ext fx)) (hk:=?_);rintro _ _ ns rfl;have fx:=xt fx ns.2;refine go ?_;exact f_ret3 (t:=4) (u:=5) (s:=6) (v1:=S (rS (outI (sgn (!((neg a)==(neg b))) (valN (body a)/valN (body b)+1))))) (v2:=S (rS (outI (sgn false (valN (body b)-valN (body a)%valN (body b)))))) (v3:=.int .i64 0) rfl fx (by first|exact div_out hno h0 hdv.1 hdv.2 hrl asuInt14|exact div_bad hno h0 hdv.1 asuInt14|(rw[divI_z h0];rfl)) rfl rfl rfl;refine go ?_
 exact f_ret3 (t:=4) (u:=5) (s:=6) (v1:=S ([])) (v2:=S ([])) (v3:=.int .i64 (rE (outI (sgn (!((neg a)==(neg b))) (valN (body a)/valN (body b)+1))))) rfl fx (by first|exact div_out hno h0 hdv.1 hdv.2 hrl asuInt14|exact div_bad hno h0 hdv.1 asuInt14|(rw[divI_z h0];rfl)) rfl rfl rfl;have hr0:valN (body a)%valN (body b)=0:=toB_nil (B:=10000) om (hr.len.trans om);have hdv:=dvp (a:=a) h0 (Or.inr hr0);have hrl:valN (body a)%valN (body b)<=valN (body b):=Nat.le_of_lt (Nat.mod_lt _ h0);refine go ?_;refine l_op (k_neqB (a:=neg a) (b:=neg b) (q:=(!((neg a)==(neg b)))) U4 rfl rfl rfl ?_);refine go ?_;refine clb en109 (hc:=stext_ok hq om (ht.ext fx)) (hk:=?_);rintro _ _ w9 rfl;have hr:=Num.ext w9.2 hr;have fx:=xt fx w9.2;refine go ?_;by_cases ao7:(rE (outI (sgn (!((neg a)==(neg b))) (valN (body a)/valN (body b)))))=0;refine go ?_;refine l_op (k_build (vs:=[(1,.slice Ar nr cr)]) (cells:=#[.bool false,.slice Ar nr cr]) (pl:=[(0,1),(1,1)]) U125 inf125 krInt14 rfl krInt14 ?_);refine clb en109 (hc:=stext_ok hr om (ht.ext fx)) (hk:=?_);rintro _ _ aol rfl;have fx:=xt fx aol.2;refine go ?_
 exact f_ret3 (t:=4) (u:=5) (s:=6) (v1:=S (rS (outI (sgn (!((neg a)==(neg b))) (valN (body a)/valN (body b)))))) (v2:=S (rS (outI (sgn false (valN (body a)%valN (body b)))))) (v3:=.int .i64 0) rfl fx (by first|exact div_out hno h0 hdv.1 hdv.2 hrl asuInt14|exact div_bad hno h0 hdv.1 asuInt14|(rw[divI_z h0];rfl)) rfl rfl rfl;refine go ?_;exact f_ret3 (t:=4) (u:=5) (s:=6) (v1:=S ([])) (v2:=S ([])) (v3:=.int .i64 (rE (outI (sgn (!((neg a)==(neg b))) (valN (body a)/valN (body b)))))) rfl fx (by first|exact div_out hno h0 hdv.1 hdv.2 hrl asuInt14|exact div_bad hno h0 hdv.1 asuInt14|(rw[divI_z h0];rfl)) rfl rfl rfl;have hdv:=dvp h0 (Or.inl ly);have hrl:valN (body a)%valN (body b)<=valN (body b):=Nat.le_of_lt (Nat.mod_lt _ h0);refine go ?_;refine l_op (k_neqB (a:=neg a) (b:=neg b) (q:=(!((neg a)==(neg b)))) U4 rfl rfl rfl ?_);refine go ?_;refine clb en109 (hc:=stext_ok hq om (ht.ext fx)) (hk:=?_);rintro _ _ aom rfl;have hr:=Num.ext aom.2 hr;have fx:=xt fx aom.2;refine go ?_;by_cases ao8:(rE (outI (sgn (!((neg a)==(neg b))) (valN (body a)/valN (body b)))))=0;refine go ?_;refine l_op (k_build (vs:=[(1,.slice Ar nr cr)]) (cells:=#[.bool false,.slice Ar nr cr]) (pl:=[(0,1),(1,1)]) U125 inf125 krInt14 rfl krInt14 ?_);refine clb en109 (hc:=stext_ok hr om (ht.ext fx)) (hk:=?_);rintro _ _ aon rfl;have fx:=xt fx aon.2
 refine go ?_;exact f_ret3 (t:=4) (u:=5) (s:=6) (v1:=S (rS (outI (sgn (!((neg a)==(neg b))) (valN (body a)/valN (body b)))))) (v2:=S (rS (outI (sgn false (valN (body a)%valN (body b)))))) (v3:=.int .i64 0) rfl fx (by first|exact div_out hno h0 hdv.1 hdv.2 hrl asuInt14|exact div_bad hno h0 hdv.1 asuInt14|(rw[divI_z h0];rfl)) rfl rfl rfl;refine go ?_;exact f_ret3 (t:=4) (u:=5) (s:=6) (v1:=S ([])) (v2:=S ([])) (v3:=.int .i64 (rE (outI (sgn (!((neg a)==(neg b))) (valN (body a)/valN (body b)))))) rfl fx (by first|exact div_out hno h0 hdv.1 hdv.2 hrl asuInt14|exact div_bad hno h0 hdv.1 asuInt14|(rw[divI_z h0];rfl)) rfl rfl rfl;have hno:=and_no hno;refine f_in Tryz.func42 rfl ?_;refine go ?_;refine cl en104 (both_no _ _ _ hno) ?_;rintro _ _ apl rfl;have nv:=apl.2;refine go ?_;refine al inf125 (λ_ apn aoz=>?_);have nv:=xt nv apn.2;refine al inf125 (λ_ ao9 ao0=>?_);have⟨aoz,nv⟩:=be1 ao9.2 aoz nv;refine SA aoz (λ_ ao1 apa=>?_);have⟨ao0,nv,_⟩:=pl1 ao1 ao0 nv;refine SA ao0 (λ_ ao2 _=>?_);have⟨apa,nv,_⟩:=pl1 ao2 apa nv;refine go ?_;exact f_ret3 (t:=4) (u:=5) (s:=6) (v1:=S ([])) (v2:=S ([])) (v3:=.int .i64 30) rfl nv (by rw[divI_no hno];rfl) rfl rfl rfl
theorem iGcd_ok (a b:List UInt8)(w:World)(ht:Tb w):
    CL 59 #[S a,S b] w (Ret w λv w'=>v=resI (gcdI a b)):=by
 by_cases hno:(isInt a&&isInt b)=true;have ha:=and_l hno;have hb:=and_r hno;refine f_in Tryz.func59 rfl ?_;refine go ?_;refine cl en104 (both_ok _ _ _ ha hb) ?_;rintro _ oq aox ⟨A1,n1,c1,A2,n2,c2,rfl,h1,h2⟩;have fx:=aox.2;have l1:=num_len h1 (val_lt ha);have l2:=num_len h2 (val_lt hb);have uh1:=h1.hi;have uh2:=h2.hi;refine go ?_;refine al inf125 (λp6 aon aoo=>?_);have h1:=Num.ext aon.2 h1;have h2:=Num.ext aon.2 h2;have fx:=xt fx aon.2;refine al inf125 (λ_ r8 aop=>?_);have h1:=Num.ext r8.2 h1;have h2:=Num.ext r8.2 h2;have⟨aoo,fx⟩:=be1 r8.2 aoo fx;refine SA aoo (λ_ ly cf=>?_);have h1:=Num.putU ly (λad e=>by have:=uh1 ad e;omega) h1;have h2:=Num.putU ly (λad e=>by have:=uh2 ad e;omega) h2;have⟨aop,fx,_⟩:=pl1 ly aop fx;refine SA aop (λ_ mq cw=>?_);have h1:=Num.putU mq (λad e=>by have:=uh1 ad e;omega) h1;have h2:=Num.putU mq (λad e=>by have:=uh2 ad e;omega) h2;have⟨cf,fx,_⟩:=pl1 mq cf fx;refine go ?_;refine c_an 5 ?_;refine sf ?_;intro _ _ ns _;have h1:=Num.ext ns.2 h1;have h2:=Num.ext ns.2 h2;have⟨cf,cw,fx⟩:=be2 ns.2 cf cw fx;refine go ?_
 refine c_lp [(9,12),(26,36)] (λkk e W=>∃Ax:Option Addr,∃nx:Nat,∃cx:Nat,∃x:Nat,∃Ay:Option Addr,∃ny:Nat,∃cy:Nat,∃y:Nat,(y=kk)∧(e 9=.slice Ax nx cx)∧(e 10=.slice Ay ny cy)∧(nx<=50)∧(ny<=50)∧(Nat.gcd x y=Nat.gcd (valN (body a)) (valN (body b)))∧(Ext w W)∧(Blk W (oq.heap.size) 92 #[.bool (neg a),.slice A1 n1 c1])∧(Blk W (p6.heap.size) 92 #[.bool (neg b),.slice A2 n2 c2])∧(Num W w.heap.size Ax nx cx x)∧(Num W w.heap.size Ay ny cy y)) ((valN (body b))) ⟨A1,n1,c1,valN (body a),A2,n2,c2,valN (body b),rfl,rfl,rfl,l1,l2,rfl,fx,cf,cw,h1,h2⟩ ?_;rintro _ _ _ ⟨Ax,nx,cx,x,Ay,ny,cy,y,rfl,aou,aom,q1,q2,q3,kx,cf,cw,hx,hy⟩;have apu:=bz kx;by_cases hm:0<ny;have hy0:0<y:=toB_ne (B:=10000) om (by rw[hy.len];omega);refine go ?_;refine clb en105 (hc:=over_ok hx om hy om hy0) (hk:=?_);rintro _ _ nv ⟨Aq,nq,cq,Ar,nr,cr,rfl,hq,hr⟩;have⟨cf,cw⟩:=bf2 nv.2 cf cw;have hy:=Num.ext nv.2 hy;have kx:=xt kx nv.2;refine go ?_;exact lend (hk:=by exact Nat.mod_lt _ hy0) ⟨Ay,ny,cy,y,Ar,nr,cr,x%y,rfl,rfl,rfl,om,(by rw[<-hr.len];exact Nat.le_trans (len_mono om (Nat.le_of_lt (Nat.mod_lt _ hy0))) (by rw[hy.len];exact q2)),(gcd_step q3),kx,cf,cw,hy,(hr.mono om)⟩;have hy0:y=0:=toB_nil (B:=10000) om (hy.len.trans om);rw[hy0,Nat.gcd_zero_right]at q3;refine go ?_
 refine l_op (k_build (vs:=[(1,.slice Ax nx cx)]) (cells:=#[.bool false,.slice Ax nx cx]) (pl:=[(0,1),(1,1)]) U125 inf125 krInt14 rfl krInt14 ?_);refine clb en109 (hc:=stext_ok hx om (ht.ext kx)) (hk:=?_);rintro _ _ od rfl;have kx:=xt kx od.2;refine go ?_;exact f_ret2 (t:=4) (u:=5) (v1:=S (rS (outI (sgn false x)))) (v2:=.int .i64 (rE (outI (sgn false x)))) rfl kx (by rw[gcdI_ok hno,<-q3];rfl) rfl rfl;have hno:=and_no hno;refine f_in Tryz.func59 rfl ?_;refine go ?_;refine cl en104 (both_no _ _ _ hno) ?_;rintro _ _ aoz rfl;have fy:=aoz.2;refine go ?_;refine al inf125 (λ_ ao1 aoq=>?_);have fy:=xt fy ao1.2;refine al inf125 (λ_ aov aor=>?_);have⟨aoq,fy⟩:=be1 aov.2 aoq fy;refine SA aoq (λ_ aos aow=>?_);have⟨aor,fy,_⟩:=pl1 aos aor fy;refine SA aor (λ_ aot _=>?_);have⟨aow,fy,_⟩:=pl1 aot aow fy;refine go ?_;exact f_ret2 (t:=4) (u:=5) (v1:=S ([])) (v2:=.int .i64 30) rfl fy (by rw[gcdI_no hno];rfl) rfl rfl
end Go.Proofs.YtinldhphnpflaaaGreatDoor
namespace Go.Proofs.YtinldhphnpflaaaGreatDoor
open Go Go.Eng Go.RowKit
def nS (n:Nat):List UInt8:=showI (n:Int)
def Fi (n:Nat):Prop:=n<10^200
def Fz (z:Int):Prop:=z.natAbs<10^200
theorem Fz.fits {z:Int}(h:Fz z):fits z=true:=decide_eq_true h
theorem Fi.z {n:Nat}(h:Fi n):Fz (n:Int):=by simpa[Fz,Fi]using h
theorem Fz.int {z:Int}(h:Fz z):isInt (showI z)=true:=isInt_showI h.fits
theorem addI_Z {a b:Int}(ha:Fz a)(hb:Fz b)(h:Fz (a+b)):addI (showI a) (showI b)=some (showI (a+b)):=by
  rw[addI_ok (by rw[ha.int,hb.int];rfl),valZ_showI,valZ_showI];unfold outI;rw[if_pos h.fits]
theorem subI_Z {a b:Int}(ha:Fz a)(hb:Fz b)(h:Fz (a-b)):subI (showI a) (showI b)=some (showI (a-b)):=by
  rw[subI_ok (by rw[ha.int,hb.int];rfl),valZ_showI,valZ_showI];unfold outI;rw[if_pos h.fits]
theorem mulI_Z {a b:Int}(ha:Fz a)(hb:Fz b)(h:Fz (a*b)):mulI (showI a) (showI b)=some (showI (a*b)):=by
  rw[mulI_ok (by rw[ha.int,hb.int];rfl),valZ_showI,valZ_showI];unfold outI;rw[if_pos h.fits]
theorem divI_Z {a b:Int}(ha:Fz a)(hb:Fz b)(h0:b≠0)(h:Fz (a/b)):divI (showI a) (showI b)=some (showI (a/b),showI (a%b)):=by
  rw[divI_ok (by rw[ha.int,hb.int];rfl) (by rw[body_showI,valN_showN];omega),valZ_showI,valZ_showI];unfold outI;rw[if_pos h.fits];rfl
theorem cmpS_Z {a b:Int}(ha:Fz a)(hb:Fz b):cmpS (showI a) (showI b)=cmpI a b:=by
  unfold cmpS;rw[if_pos (by rw[ha.int,hb.int];rfl),valZ_showI,valZ_showI]
theorem lit0:([48]:List UInt8)=nS 0:=by decide +kernel
theorem lit1:([49]:List UInt8)=nS 1:=by decide +kernel
theorem lit2:([50]:List UInt8)=nS 2:=by decide +kernel
theorem lit4:([52]:List UInt8)=nS 4:=by decide +kernel
theorem showI_zero {z:Int}:(showI z=[48])↔z=0:=⟨λh=>showI_inj (h.trans lit0),λh=>by subst h;exact lit0.symm⟩
theorem fz_div {a b:Int}(h:Fz a)(hb:0<b):Fz (a/b):=by
  unfold Fz at *
  refine Nat.lt_of_le_of_lt ?_ h
  obtain⟨k,rfl⟩:∃k:Nat,b=k:=⟨b.toNat,by omega⟩
  rcases Int.eq_nat_or_neg a with⟨n,rfl|rfl⟩
  · have:((n:Int)/(k:Int))=((n/k:Nat):Int):=rfl
    rw[this,Int.natAbs_natCast,Int.natAbs_natCast];exact Nat.div_le_self _ _
  · have h1:-(n:Int)<=-(n:Int)/(k:Int):=by
      rw[Int.le_ediv_iff_mul_le hb]
      have:(n:Int)<=(n:Int)*(k:Int):=by have:=Int.mul_le_mul_of_nonneg_left (show(1:Int)<=k by omega) (show(0:Int)<=n by omega);simpa using this
      rw[Int.neg_mul];omega
    have h2:-(n:Int)/(k:Int)<=0:=by
      refine Int.ediv_le_of_le_mul hb ?_
      simp
    omega
abbrev N2:=Nat×Nat
def upn (a b:Nat):Nat:=if a%b=0 then a/b else a/b+1
def ofP (S n d:Nat):N2:=(n*S/d,upn (n*S) d)
def tmP (S:Nat)(a b:N2):N2:=(a.1*b.1/S,upn (a.2*b.2) S)
def ovP (S:Nat)(a b:N2):N2:=(a.1*S/b.2,upn (a.2*S) b.1)
def byP (a:N2)(n d:Nat):N2:=(a.1*n/d,upn (a.2*n) d)
def plP (a b:N2):N2:=(a.1+b.1,a.2+b.2)
def miP (a b:N2):Int×Int:=((a.1:Int)-b.2,(a.2:Int)-b.1)
def zP (a:N2):Int×Int:=((a.1:Int),(a.2:Int))
theorem upn_le {a b:Nat}(hb:0<b):upn a b<=a:=by
  unfold upn
  split
  · exact Nat.div_le_self _ _
  · rename_i h
    have h1:=Nat.div_add_mod a b
    have h2:a/b<=b*(a/b):=Nat.le_mul_of_pos_left _ hb
    omega
def Bk (k:Nat)(p:N2):Prop:=p.1<10^k∧p.2<10^k
def bdB (p:N2):Bool:=decide (p.1<10^95)&&decide (p.2<10^95)
theorem bdB_ok {p:N2}(h:bdB p=true):Bk 95 p:=by simpa[bdB,Bk]using h
structure Sc (S:Nat):Prop where
  pos:0<S
  lt:S<10^95
theorem mul_lt_pow {a b k m:Nat}(ha:a<10^k)(hb:b<10^m):a*b<10^(k+m):=by
  rw[Nat.pow_add];exact Nat.mul_lt_mul'' ha hb
theorem lt_pow_mono {a k m:Nat}(h:a<10^k)(hl:k<=m):a<10^m:=Nat.lt_of_lt_of_le h (Nat.pow_le_pow_right om hl)
theorem Bk.mono {k m:Nat}{p:N2}(h:Bk k p)(hl:k<=m):Bk m p:=⟨lt_pow_mono h.1 hl,lt_pow_mono h.2 hl⟩
theorem Bk.fi {k:Nat}{p:N2}(h:Bk k p)(hl:k<=200):Fi p.1∧Fi p.2:=⟨lt_pow_mono h.1 hl,lt_pow_mono h.2 hl⟩
theorem fi_pow {a k:Nat}(h:a<10^k)(hl:k<=200):Fi a:=lt_pow_mono h hl
theorem fi_mul {a b k m:Nat}(ha:a<10^k)(hb:b<10^m)(hl:k+m<=200):Fi (a*b):=fi_pow (mul_lt_pow ha hb) hl
theorem tmP_bd {S:Nat}{a b:N2}(hS:0<S)(ha:Bk 95 a)(hb:Bk 95 b):Bk 190 (tmP S a b):=
  ⟨Nat.lt_of_le_of_lt (Nat.div_le_self _ _) (mul_lt_pow ha.1 hb.1),Nat.lt_of_le_of_lt (upn_le hS) (mul_lt_pow ha.2 hb.2)⟩
theorem ovP_bd {S:Nat}{a b:N2}(hS:Sc S)(h0:0<b.1)(ha:Bk 95 a):Bk 190 (ovP S a b):=
  ⟨Nat.lt_of_le_of_lt (Nat.div_le_self _ _) (mul_lt_pow ha.1 hS.lt),Nat.lt_of_le_of_lt (upn_le h0) (mul_lt_pow ha.2 hS.lt)⟩
def tmsP (nx:Nat->N2->N2)(t0:N2):Nat->N2
  |0=>t0
  |k+1=>nx (k+1) (tmsP nx t0 k)
def totP (T:Nat->N2):Nat->N2
  |0=>(0,0)
  |k+1=>plP (totP T k) (T k)
def sumF (nx:Nat->N2->N2):Nat->Nat->N2->N2->Nat->Option N2
  |0,_,_,_,_=>none
  | f +1,n,t,a,l=>if bdB t=true then
      (if 2<=n∧t.2<=2∧t.2*2<=l+2 then some (a.1+t.1,a.2+t.2+(t.2+4))else sumF nx f (n+1) (nx n t) (plP a t) t.2)
    else none
def sumP (nx:Nat->N2->N2)(t0:N2):Option N2:=sumF nx 1000 1 t0 (0,0) 0
structure SumR (T:Nat->N2)(m:Nat):Prop where
  lt:m<1000
  bd:∀k≤m,Bk 95 (T k)
  go:∀k<m,k=0∨¬((T k).2<=2∧(T k).2*2<=(T (k-1)).2+2)
  pos:0<m
  stop:(T m).2<=2∧(T m).2*2<=(T (m-1)).2+2
def resP (T:Nat->N2)(m:Nat):N2:=((totP T (m+1)).1,(totP T (m+1)).2+((T m).2+4))
theorem sumF_inv {nx:Nat->N2->N2}{t0 r:N2}:∀(f k l:Nat),k+f<=1000->(k=0∨l=(tmsP nx t0 (k-1)).2)->(∀j<k,Bk 95 (tmsP nx t0 j))->(∀j<k,j=0∨¬((tmsP nx t0 j).2<=2∧(tmsP nx t0 j).2*2<=(tmsP nx t0 (j-1)).2+2))->
    sumF nx f (k+1) (tmsP nx t0 k) (totP (tmsP nx t0) k) l=some r->∃m,SumR (tmsP nx t0) m∧resP (tmsP nx t0) m=r
  |0,_,_,_,_,_,_,h=>by simp[sumF]at h
  | f + 1,k,l,hk,hl,hb,hg,h=>by
    unfold sumF at h
    by_cases h1:bdB (tmsP nx t0 k)=true
    · rw [if_pos h1]at h
      have hb':∀j≤k,Bk 95 (tmsP nx t0 j):=λj hj=>by
        by_cases e:j=k
        · subst e;exact bdB_ok h1
        · exact hb j om
      split at h
      · rename_i hs
        cases h
        have hl':l=(tmsP nx t0 (k-1)).2:=by rcases hl with e|e;omega;exact e
        exact⟨k,⟨by omega,hb',hg,by omega,hs.2.1,by rw[<-hl'];exact hs.2.2⟩,rfl⟩
      · rename_i hs
        refine sumF_inv f (k+1) _ om (Or.inr rfl) (λj hj=>hb' j om) (λj hj=>?_) h
        by_cases e:j=k
        · subst e
          by_cases e0:j=0
          · exact Or.inl e0
          · refine Or.inr λhc=>hs ⟨by omega,hc.1,?_⟩
            rcases hl with e|e;omega;rw[e];exact hc.2
        · exact hg j om
    · rw[if_neg h1]at h;cases h
theorem sumP_inv {nx:Nat->N2->N2}{t0 r:N2}(h:sumP nx t0=some r):∃m,SumR (tmsP nx t0) m∧resP (tmsP nx t0) m=r:=
  sumF_inv 1000 0 0 om (Or.inl rfl) (λj hj=>by omega) (λj hj=>by omega) h
theorem totP_bd {T:Nat->N2}{m:Nat}(hT:∀k≤m,Bk 95 (T k)):∀k≤m+1,(totP T k).1<=k*10^95∧(totP T k).2<=k*10^95
  |0,_=>by simp[totP]
  | k+1,hk=>by
    obtain⟨h1,h2⟩:=totP_bd hT k om
    obtain⟨h3,h4⟩:=hT k om
    simp only[totP,plP,Nat.add_mul,Nat.one_mul]
    exact⟨by omega,by omega⟩
theorem SumR.tot {T:Nat->N2}{m:Nat}(h:SumR T m){k:Nat}(hk:k<=m+1):Bk 99 (totP T k):=by
  obtain⟨_,_⟩:=totP_bd h.bd k hk
  have h3:k*10^95<=1000*10^95:=Nat.mul_le_mul_right _ (by have:=h.lt;omega)
  have h4:1000*10^95<10^99:=by decide
  exact⟨by omega,by omega⟩
def halfF (S:Nat):Nat->N2->Nat->Option (N2×Nat)
  |0,_,_=>none
  |f+1,x,h=>if S<x.2*2 then halfF S f (byP x 1 2) (h+1)else some (x,h)
def sqF (S:Nat):Nat->N2->Option N2
  |0,a=>if bdB a=true then some a else none
  |h+1,a=>if bdB a=true then sqF S h (tmP S a a)else none
def expN (S:Nat)(x:N2)(n:Nat)(t:N2):N2:=byP (tmP S t x) 1 n
def expP (S:Nat)(x:N2):Option N2:=if bdB x=true then(halfF S 200 x 0).bind λp=>(sumP (expN S p.1) (1*S,1*S)).bind (sqF S p.2)else none
theorem half_bd {k:Nat}{x:N2}(h:Bk k x):Bk k (byP x 1 2):=
  ⟨Nat.lt_of_le_of_lt (by simpa[byP]using Nat.div_le_self _ _) h.1,Nat.lt_of_le_of_lt (by simpa[byP]using upn_le (a:=x.2) (b:=2) om) h.2⟩
theorem half_t {S f h:Nat}{x:N2}{p:N2×Nat}(hh:halfF S f x h=some p)(hl:S<x.2*2):∃g,f=g+1∧halfF S g (byP x 1 2) (h+1)=some p:=by
  cases f with
  |zero=>simp[halfF]at hh
  |succ g=>unfold halfF at hh;rw[if_pos hl]at hh;exact⟨g,rfl,hh⟩
theorem half_f {S f h:Nat}{x:N2}{p:N2×Nat}(hh:halfF S f x h=some p)(hl:¬S<x.2*2):p=(x,h):=by
  cases f with
  |zero=>simp[halfF]at hh
  |succ g=>unfold halfF at hh;rw[if_neg hl]at hh;cases hh;rfl
theorem sq_t {S h i:Nat}{a r:N2}(hh:sqF S (h-i) a=some r)(hl:i<h):Bk 95 a∧sqF S (h-(i+1)) (tmP S a a)=some r:=by
  obtain⟨k,hk⟩:∃k,h-i=k+1:=⟨h-i-1,by omega⟩
  rw[hk]at hh
  unfold sqF at hh
  rw[show h-(i+1)=k by omega]
  split at hh
  · rename_i h1;exact⟨bdB_ok h1,hh⟩
  · cases hh
theorem sq_f {S h i:Nat}{a r:N2}(hh:sqF S (h-i) a=some r)(hl:¬i<h):a=r∧Bk 95 r:=by
  rw[show h-i=0 by omega]at hh
  unfold sqF at hh
  split at hh
  · rename_i h1;cases hh;exact⟨rfl,bdB_ok h1⟩
  · cases hh
theorem exp_inv {S:Nat}{x r:N2}(h:expP S x=some r):Bk 95 x∧∃p s,halfF S 200 x 0=some p∧sumP (expN S p.1) (1*S,1*S)=some s∧sqF S p.2 s=some r:=by
  unfold expP at h
  split at h
  · rename_i h1
    refine⟨bdB_ok h1,?_⟩
    cases hp:halfF S 200 x 0 with
    |none=>rw[hp]at h;cases h
    | some p=>
      rw[hp,Option.bind_some]at h
      cases hs:sumP (expN S p.1) (1*S,1*S)with
      |none=>rw[hs]at h;cases h
      |some s=>rw[hs,Option.bind_some]at h;exact⟨p,s,rfl,hs,h⟩
  · cases h
theorem sq_bd {S:Nat}:∀{h:Nat} {a r:N2},sqF S h a=some r->Bk 95 r
  |0,a,r,h=>by unfold sqF at h;split at h;rename_i h1;cases h;exact bdB_ok h1;cases h
  |k+1,a,r,h=>by unfold sqF at h;split at h;exact sq_bd h;cases h
theorem exp_bd {S:Nat}{x r:N2}(h:expP S x=some r):Bk 95 r:=by
  obtain⟨_,p,s,_,_,h3⟩:=exp_inv h
  exact sq_bd h3
def hnN (S:Nat)(q:N2)(n:Nat)(u:N2):N2:=byP (tmP S u q) 1 (2*n+1)
end Go.Proofs.YtinldhphnpflaaaGreatDoor
namespace Go.Eng
abbrev R:=List UInt8×List UInt8
def okR (a:R):Bool:=isInt a.1&&isInt a.2&& !decide (cmpS a.2 [48]<=0)&&decide (gcdI a.1 a.2=some [49])
def redN (n d:Int):Int:=(if d<0 then -n else n)/((Int.gcd n d:Nat):Int)
def redD (n d:Int):Int:=(if d<0 then -d else d)/((Int.gcd n d:Nat):Int)
def makeR (n d:Int):Option R:=if d=0 then none else some (showI (redN n d),showI (redD n d))
def bothF (n d:Int):Option R:=if fits n&&fits d then makeR n d else none
def mulR (a b:R):Option R:=if okR a&&okR b then bothF (valZ a.1*valZ b.1) (valZ a.2*valZ b.2)else none
def divR (a b:R):Option R:=if okR a&&okR b then bothF (valZ a.1*valZ b.2) (valZ a.2*valZ b.1)else none
def addR (a b:R):Option R:=if okR a&&okR b then(if fits (valZ a.1*valZ b.2)&&fits (valZ b.1*valZ a.2)then bothF (valZ a.1*valZ b.2+valZ b.1*valZ a.2) (valZ a.2*valZ b.2)else none)else none
def subR (a b:R):Option R:=if okR a&&okR b then(if fits (valZ a.1*valZ b.2)&&fits (valZ b.1*valZ a.2)then bothF (valZ a.1*valZ b.2-valZ b.1*valZ a.2) (valZ a.2*valZ b.2)else none)else none
def rN (o:Option R):List UInt8:=(o.map (·.1)).getD []
def rD (o:Option R):List UInt8:=(o.map (·.2)).getD []
def rER (o:Option R):Int:=if o.isSome then 0 else 40
end Go.Eng
