/- Part of the proof. -/
import Derived.Test.YtonigegpknhdnaaGreatDoorRef2ToRef3
set_option linter.all false
namespace Go.Proofs.YtonigegpknhdnaaGreatDoor
set_option maxRecDepth 100000
open Go Go.Eng Go.RowKit
attribute [local irreducible] wpListIn Code.wpIn Oper.wpIn Exit.then Exit.inBlock Exit.noGoto
set_option maxHeartbeats 40000000
theorem asuRef4 {p : Prop} (h : p:=by assumption) : p:=h
theorem dg_len {w:World}{lo n c a k:Nat}{A:Option Addr}(h:Dg w lo A n c a)(hl:a<10 ^ k) : n≤k:=by rw [← h.len]; exact (length_toB_le_iff 10 om a k).2 hl
theorem val10 {l:List UInt8}(h:isInt l=true) : valN (body l)<10 ^ 200:=valN_lt (isInt_num h)
theorem no_l {a b:List UInt8}(h:isInt a=false) : (isInt a && isInt b)=false:=by rw [h]; rfl
theorem no_r {a b:List UInt8}(h:isInt b=false) : (isInt a && isInt b)=false:=by rw [h]; simp
theorem yes_2 {a b:List UInt8}(ha:isInt a=true)(hb:isInt b=true) : (isInt a && isInt b)=true:=by rw [ha,hb]; rfl
theorem fitR_fits {ng:Bool}{a:Nat} : fits (sgn ng a)=fitR a:=by
  unfold fitR
  by_cases h:a=0
  · subst h; cases ng <;> decide +kernel
  · rw [fits_sgn ng om, decide_eq_false h, Bool.false_or]
    unfold showN; rw [if_neg h,showD_length]
theorem txtR_show {ng:Bool}{a:Nat} : showI (sgn ng a)=txtR ng a:=by
  unfold txtR
  by_cases h:a=0
  · subst h; cases ng <;> rfl
  · rw [showI_sgn ng om,if_neg h]
theorem chk_f {ng:Bool}{a:Nat}(h:fitR a=false) : Value.tuple #[S [],.int .i64 30]=resI (outI (sgn ng a)):=by
  unfold outI; rw [fitR_fits,h]; rfl
theorem chk_t {ng:Bool}{a:Nat}(h:fitR a=true) : Value.tuple #[S (txtR ng a),.int .i64 0]=resI (outI (sgn ng a)):=by
  unfold outI; rw [fitR_fits,h,txtR_show]; rfl
theorem dg_one {w:World}{lo:Nat}{A:Option Addr}(h:Rw w lo A [Value.int .i64 1]) : Dg w lo A 1 1 1:=by
  have e:toB 10 1=[1]:=by decide
  exact ⟨by rw [e]; exact h,by rw [e]; rfl,Nat.le_refl _⟩
theorem txt_rem {r:Nat}(h:r<10 ^ 200) : txtR false r=rS (outI (sgn false r)):=by
  have hf:fits (sgn false r)=true:=by unfold fits; rw [natAbs_sgn]; exact decide_eq_true h
  rw [outI_rS hf,txtR_show]
theorem lt201 {a b:Nat}(ha:a<10 ^ 200)(hb:b<10 ^ 200) : a+b<10 ^ 201:=by
  have:(10:Nat) ^ 201=10 ^ 200*10:=by rw [← Nat.pow_succ]
  generalize (10:Nat) ^ 200=M at *
  omega
theorem lt_pow {a b x y z:Nat}(ha:a<10 ^ x)(hb:b<10 ^ y)(h:z=x+y) : a*b<10 ^ z:=by
  subst h; rw [Nat.pow_add]; exact Nat.mul_lt_mul'' ha hb
theorem lt400 {a b:Nat}(ha:a<10 ^ 200)(hb:b<10 ^ 200) : a*b<10 ^ 400:=lt_pow (x:=200) (y:=200) (z:=400) ha hb rfl
theorem cmp_eq_n {a b:List UInt8}(h:(isInt a && isInt b)=true)(he:(neg a == neg b)=true)(ha:neg a=true) : cmpI ((valN (body b) : Nat) : Int) ((valN (body a) : Nat) : Int)=cmpS a b:=
  cmp_nn h ha (by have : neg a = neg b := by simpa using he
                  rw [← this]; exact ha)
theorem cmp_eq_p {a b:List UInt8}(h:(isInt a && isInt b)=true)(he:(neg a == neg b)=true)(ha:neg a=false) : cmpI ((valN (body a) : Nat) : Int) ((valN (body b) : Nat) : Int)=cmpS a b:=
  cmp_pp h ha (by have : neg a = neg b := by simpa using he
                  rw [← this]; exact ha)
theorem cmp_ne_n {a b:List UInt8}(h:(isInt a && isInt b)=true)(he:(neg a == neg b)=false)(ha:neg a=true) : (-1:Int)=cmpS a b:=
  cmp_np h ha (by rw [ha] at he; simpa using he)
theorem cmp_ne_p {a b:List UInt8}(h:(isInt a && isInt b)=true)(he:(neg a == neg b)=false)(ha:neg a=false) : (1:Int)=cmpS a b:=
  cmp_pn h ha (by rw [ha] at he; simpa using he)
theorem tmod_sgn (ng:Bool)(x:Nat) : Int.tmod (sgn ng x) 10=sgn ng (x % 10):=by
  cases ng
  · show Int.tmod (x : Int) 10 = ((x % 10 : Nat) : Int)
    rw [Int.tmod_eq_emod_of_nonneg om]; omega
  · show Int.tmod (-(x : Int)) 10 = -((x % 10 : Nat) : Int)
    rw [Int.neg_tmod,Int.tmod_eq_emod_of_nonneg om]; omega
theorem tdiv_sgn (ng:Bool)(x:Nat) : Int.tdiv (sgn ng x) 10=sgn ng (x / 10):=by
  cases ng
  · show Int.tdiv (x : Int) 10 = ((x / 10 : Nat) : Int)
    rw [Int.tdiv_eq_ediv_of_nonneg om]; omega
  · show Int.tdiv (-(x : Int)) 10 = -((x / 10 : Nat) : Int)
    rw [Int.neg_tdiv,Int.tdiv_eq_ediv_of_nonneg om]; omega
theorem divI_0 {a b:List UInt8}(h:b=[48]) : divI a b=none:=divI_z (by subst h; exact valN_zero)
theorem val_pos {b:List UInt8}(h:isInt b=true)(h0:¬ b=[48]) : 0<valN (body b):=by
  rcases Nat.eq_zero_or_pos (valN (body b)) with h1 | h1
  · exact absurd ((valZ_eq_zero h).1 (by have:=valZ_natAbs b; omega)) h0
  · exact h1
theorem r3chk_ok {A1:Option Addr}{n1 c1 a lo1:Nat}{w:World}(h1:Dg w lo1 A1 n1 c1 a)(s1:n1≤100000)(ng:Bool) :
    Calls Tryz.prog 97 #[.bool ng,.slice A1 n1 c1] w (Ret w fun v w'=>v=resI (outI (sgn ng a))):=by
 have uh1:=h1.row.hi;refine f_in Tryz.func97 rfl ?_;refine go ?_;refine clb en97 (hc:=r3text_ok h1 om ng) (hk:=?_);rintro _ _ co rfl;have fe:=co.2;refine go ?_;rcases Bool.eq_false_or_eq_true (fitR a) with ac | ac;refine go ?_;exact f_ret2 (t:=4) (u:=5) (v1:=S (txtR ng a)) (v2:=.int .i64 0) rfl fe (by first | exact chk_f asuRef4 | exact chk_t asuRef4) rfl rfl;refine go ?_;exact f_ret2 (t:=4) (u:=5) (v1:=S ([])) (v2:=.int .i64 30) rfl fe (by first | exact chk_f asuRef4 | exact chk_t asuRef4) rfl rfl
theorem r3sum_ok {A1:Option Addr}{n1 c1 a lo1:Nat}{w:World}(h1:Dg w lo1 A1 n1 c1 a)(s1:n1≤50000){A2:Option Addr}{n2 c2 b lo2:Nat}(h2:Dg w lo2 A2 n2 c2 b)(s2:n2≤50000)(nx ny:Bool) :
    Calls Tryz.prog 96 #[.bool nx,.slice A1 n1 c1,.bool ny,.slice A2 n2 c2] w (Ret w fun v w'=>v=resI (outI (sgn nx a+sgn ny b))):=by
 have uh1:=h1.row.hi;have uh2:=h2.row.hi;have e1:=h1.len;have e2:=h2.len;refine f_in Tryz.func96 rfl ?_;refine go ?_;refine l_op (k_eqlB (a:=nx) (b:=ny) (q:=((nx == ny))) U4 rfl rfl rfl ?_);refine go ?_;rcases Bool.eq_false_or_eq_true (nx == ny) with fw | fw;refine go ?_;refine clb en112 (hc:=r3plus_ok h1 om h2 om) (hk:=?_);rintro _ _ f6 ⟨f7,fh,gc,rfl,co⟩;have gd:=f6.2;have co:=co.mono (lo':=w.heap.size) om;have gv:=co.row.hi;have hl9:fh≤50001:=by rw [← co.len]; exact len_add om _ _ 50000 om om
 refine go ?_;refine clb en99 (hc:=r3chk_ok co om nx) (hk:=?_);rintro _ _ fj rfl;have gd:=xt gd fj.2;refine go ?_;exact f_ret2 (t:=8) (u:=9) (v1:=S (rS (outI (sgn nx (a+b))))) (v2:=.int .i64 (rE (outI (sgn nx (a+b))))) rfl gd (congrArg (fun x=>resI (outI x)) (by first | exact sgn_add_same asuRef4 | exact sgn_add_ge asuRef4 hle | exact sgn_add_lt asuRef4 hle)) rfl rfl;refine go ?_;refine clb en114 (hc:=r3order_ok h1 om h2 om) (hk:=?_);rintro _ _ gh rfl;have h1:=Dg.ext gh.2 h1;have h2:=Dg.ext gh.2 h2;have ac:=gh.2;refine go ?_;by_cases fk:0≤(cmpI (a:Int) (b:Int));have hle:=cmpI_ge fk;refine go ?_;refine clb en113 (hc:=r3minus_ok h1 om h2 om hle) (hk:=?_);rintro _ _ gi ⟨gj,fm,gk,rfl,fe⟩;have ac:=xt ac gi.2;have fe:=fe.mono (lo':=w.heap.size) om;have g9:=fe.row.hi;have hl9:fm≤50001:=by rw [← fe.len]; exact Nat.le_trans (len_mono om (Nat.sub_le _ _)) om
 refine go ?_;refine clb en99 (hc:=r3chk_ok fe om nx) (hk:=?_);rintro _ _ fo rfl;have ac:=xt ac fo.2;refine go ?_;exact f_ret2 (t:=8) (u:=9) (v1:=S (rS (outI (sgn nx (a - b))))) (v2:=.int .i64 (rE (outI (sgn nx (a - b))))) rfl ac (congrArg (fun x=>resI (outI x)) (by first | exact sgn_add_same asuRef4 | exact sgn_add_ge asuRef4 hle | exact sgn_add_lt asuRef4 hle)) rfl rfl;have hle:=cmpI_lt' fk;refine go ?_;refine clb en113 (hc:=r3minus_ok h2 om h1 om hle) (hk:=?_);rintro _ _ gl ⟨gm,fp,gp,rfl,fg⟩;have ac:=xt ac gl.2;have fg:=fg.mono (lo':=w.heap.size) om;have ii:=fg.row.hi;have hl9:fp≤50001:=by rw [← fg.len]; exact Nat.le_trans (len_mono om (Nat.sub_le _ _)) om
 refine go ?_;refine clb en99 (hc:=r3chk_ok fg om ny) (hk:=?_);rintro _ _ fq rfl;have ac:=xt ac fq.2;refine go ?_;exact f_ret2 (t:=8) (u:=9) (v1:=S (rS (outI (sgn ny (b - a))))) (v2:=.int .i64 (rE (outI (sgn ny (b - a))))) rfl ac (congrArg (fun x=>resI (outI x)) (by first | exact sgn_add_same asuRef4 | exact sgn_add_ge asuRef4 hle | exact sgn_add_lt asuRef4 hle)) rfl rfl
theorem r3Add_ok (a b:List UInt8)(w:World)(sa:a.length≤1000000)(sb:b.length≤1000000) :
    Calls Tryz.prog 56 #[S a,S b] w (Ret w fun v w'=>v=resI (addI a b)):=by
 refine f_in Tryz.func56 rfl ?_;refine go ?_;rcases Bool.eq_false_or_eq_true (isInt a) with ac | ac;refine go ?_;refine clb en95 (hc:=r3Valid_ok a _ om) (hk:=?_);rintro _ _ f7 rfl;have co:=f7.2;refine go ?_;refine clb en95 (hc:=r3Valid_ok b _ om) (hk:=?_);rintro _ _ gc rfl;have co:=xt co gc.2;refine go ?_;rcases Bool.eq_false_or_eq_true (isInt b) with fg | fg;refine go ?_;refine cl en98 (r3digits_ok _ _ ac) ?_;rintro _ _ gd ⟨fj,fk,fm,rfl,fe⟩;have co:=xt co gd.2;have fe:=fe.mono (lo':=w.heap.size) om;have gu:=dg_len fe (val10 ac);have gv:=fe.row.hi;refine go ?_;refine cl en98 (r3digits_ok _ _ fg) ?_;rintro _ _ f6 ⟨fo,fp,fq,rfl,fh⟩;have fe:=Dg.ext f6.2 fe;have co:=xt co f6.2;have fh:=fh.mono (lo':=w.heap.size) om;have gz:=dg_len fh (val10 fg);have g6:=fh.row.hi;refine go ?_;refine clb en101 (hc:=r3sum_ok fe om fh om (neg a) (neg b)) (hk:=?_);rintro _ _ fw rfl;have co:=xt co fw.2;refine go ?_;exact f_ret2 (t:=4) (u:=5) (v1:=S (rS (outI (sgn (neg a) (valN (body a))+sgn (neg b) (valN (body b)))))) (v2:=.int .i64 (rE (outI (sgn (neg a) (valN (body a))+sgn (neg b) (valN (body b)))))) rfl co (by rw [addI_ok (yes_2 ac fg)]; rfl) rfl rfl;refine go ?_;exact f_ret2 (t:=4) (u:=5) (v1:=S ([])) (v2:=.int .i64 30) rfl co (by rw [addI_no (no_r fg)]; rfl) rfl rfl;refine go ?_;refine clb en95 (hc:=r3Valid_ok a _ om) (hk:=?_);rintro _ _ gh rfl
 have gi:=gh.2;refine go ?_;exact f_ret2 (t:=4) (u:=5) (v1:=S ([])) (v2:=.int .i64 30) rfl gi (by rw [addI_no (no_l ac)]; rfl) rfl rfl
theorem r3Sub_ok (a b:List UInt8)(w:World)(sa:a.length≤1000000)(sb:b.length≤1000000) :
    Calls Tryz.prog 91 #[S a,S b] w (Ret w fun v w'=>v=resI (subI a b)):=by
 refine f_in Tryz.func91 rfl ?_;refine go ?_;rcases Bool.eq_false_or_eq_true (isInt a) with ac | ac;refine go ?_;refine clb en95 (hc:=r3Valid_ok a _ om) (hk:=?_);rintro _ _ f7 rfl;have co:=f7.2;refine go ?_;refine clb en95 (hc:=r3Valid_ok b _ om) (hk:=?_);rintro _ _ gc rfl;have co:=xt co gc.2;refine go ?_;rcases Bool.eq_false_or_eq_true (isInt b) with fg | fg;refine go ?_;refine cl en98 (r3digits_ok _ _ ac) ?_;rintro _ _ gd ⟨fj,fk,fm,rfl,fe⟩;have co:=xt co gd.2;have fe:=fe.mono (lo':=w.heap.size) om;have gu:=dg_len fe (val10 ac);have gv:=fe.row.hi;refine go ?_;refine cl en98 (r3digits_ok _ _ fg) ?_;rintro _ _ f6 ⟨fo,fp,fq,rfl,fh⟩;have fe:=Dg.ext f6.2 fe;have co:=xt co f6.2;have fh:=fh.mono (lo':=w.heap.size) om;have gz:=dg_len fh (val10 fg);have g6:=fh.row.hi;refine go ?_;refine clb en101 (hc:=r3sum_ok fe om fh om (neg a) (!(neg b))) (hk:=?_);rintro _ _ fw rfl;have co:=xt co fw.2;refine go ?_;exact f_ret2 (t:=4) (u:=5) (v1:=S (rS (outI (sgn (neg a) (valN (body a))+sgn (!(neg b)) (valN (body b)))))) (v2:=.int .i64 (rE (outI (sgn (neg a) (valN (body a))+sgn (!(neg b)) (valN (body b)))))) rfl co (by rw [subI_ok (yes_2 ac fg),sgn_not]; rfl) rfl rfl;refine go ?_;exact f_ret2 (t:=4) (u:=5) (v1:=S ([])) (v2:=.int .i64 30) rfl co (by rw [subI_no (no_r fg)]; rfl) rfl rfl;refine go ?_;refine clb en95 (hc:=r3Valid_ok a _ om) (hk:=?_)
 rintro _ _ gh rfl;have gi:=gh.2;refine go ?_;exact f_ret2 (t:=4) (u:=5) (v1:=S ([])) (v2:=.int .i64 30) rfl gi (by rw [subI_no (no_l ac)]; rfl) rfl rfl
theorem r3Mul_ok (a b:List UInt8)(w:World)(sa:a.length≤1000000)(sb:b.length≤1000000) :
    Calls Tryz.prog 58 #[S a,S b] w (Ret w fun v w'=>v=resI (mulI a b)):=by
 refine f_in Tryz.func58 rfl ?_;refine go ?_;rcases Bool.eq_false_or_eq_true (isInt a) with ac | ac;refine go ?_;refine clb en95 (hc:=r3Valid_ok a _ om) (hk:=?_);rintro _ _ gd rfl;have co:=gd.2;refine go ?_;refine clb en95 (hc:=r3Valid_ok b _ om) (hk:=?_);rintro _ _ gh rfl;have co:=xt co gh.2;refine go ?_;rcases Bool.eq_false_or_eq_true (isInt b) with fh | fh;refine go ?_;refine cl en98 (r3digits_ok _ _ ac) ?_;rintro _ _ gi ⟨fk,fm,fo,rfl,fe⟩;have co:=xt co gi.2;have fe:=fe.mono (lo':=w.heap.size) om;have g6:=dg_len fe (val10 ac);have g7:=fe.row.hi;refine go ?_;refine cl en98 (r3digits_ok _ _ fh) ?_;rintro _ _ gc ⟨fp,fq,fw,rfl,fg⟩;have fe:=Dg.ext gc.2 fe;have co:=xt co gc.2;have fg:=fg.mono (lo':=w.heap.size) om;have ia:=dg_len fg (val10 fh);have ic:=fg.row.hi;refine go ?_;refine l_op (k_neqB (a:=neg a) (b:=neg b) (q:=(!((neg a) == (neg b)))) U4 rfl rfl rfl ?_);refine go ?_;refine clb en100 (hc:=r3times_ok fe om fg om) (hk:=?_);rintro _ _ f7 ⟨gj,gk,gl,rfl,fj⟩;have co:=xt co f7.2;have fj:=fj.mono (lo':=w.heap.size) om;have ii:=fj.row.hi;have lm9:=dg_len fj (lt400 (val10 ac) (val10 fh));refine clb en99 (hc:=r3chk_ok fj om (!((neg a) == (neg b)))) (hk:=?_);rintro _ _ f6 rfl;have co:=xt co f6.2;refine go ?_;exact f_ret2 (t:=4) (u:=5) (v1:=S (rS (outI (sgn (!((neg a) == (neg b))) ((valN (body a))*(valN (body b))))))) (v2:=.int .i64 (rE (outI (sgn (!((neg a) == (neg b))) ((valN (body a))*(valN (body b))))))) rfl co (by rw [mulI_ok (yes_2 ac fh),← sgn_val,← sgn_val,← sgn_mul]; rfl) rfl rfl
 refine go ?_;exact f_ret2 (t:=4) (u:=5) (v1:=S ([])) (v2:=.int .i64 30) rfl co (by rw [mulI_no (no_r fh)]; rfl) rfl rfl;refine go ?_;refine clb en95 (hc:=r3Valid_ok a _ om) (hk:=?_);rintro _ _ gm rfl;have gp:=gm.2;refine go ?_;exact f_ret2 (t:=4) (u:=5) (v1:=S ([])) (v2:=.int .i64 30) rfl gp (by rw [mulI_no (no_l ac)]; rfl) rfl rfl
theorem r3Cmp_ok (a b:List UInt8)(w:World)(sa:a.length≤1000000)(sb:b.length≤1000000) :
    Calls Tryz.prog 90 #[S a,S b] w (Ret w fun v w'=>v=.int .i64 (cmpS a b)):=by
 refine f_in Tryz.func90 rfl ?_;refine go ?_;rcases Bool.eq_false_or_eq_true (isInt a) with ac | ac;refine go ?_;refine clb en95 (hc:=r3Valid_ok a _ om) (hk:=?_);rintro _ _ gi rfl;have co:=gi.2;refine go ?_;refine clb en95 (hc:=r3Valid_ok b _ om) (hk:=?_);rintro _ _ gj rfl;have co:=xt co gj.2;refine go ?_;rcases Bool.eq_false_or_eq_true (isInt b) with fg | fg;refine go ?_;refine cl en98 (r3digits_ok _ _ ac) ?_;rintro _ _ gk ⟨fj,fk,fm,rfl,fe⟩;have co:=xt co gk.2;have fe:=fe.mono (lo':=w.heap.size) om;have gz:=dg_len fe (val10 ac);have g6:=fe.row.hi;refine go ?_;refine cl en98 (r3digits_ok _ _ fg) ?_;rintro _ _ gh ⟨fo,fp,fq,rfl,fh⟩;have fe:=Dg.ext gh.2 fe;have co:=xt co gh.2;have fh:=fh.mono (lo':=w.heap.size) om;have g9:=dg_len fh (val10 fg);have ia:=fh.row.hi;refine go ?_;refine l_op (k_neqB (a:=neg a) (b:=neg b) (q:=(!((neg a) == (neg b)))) U4 rfl rfl rfl ?_);refine go ?_;rcases Bool.eq_false_or_eq_true ((neg a) == (neg b)) with fw | fw;refine go ?_;rcases Bool.eq_false_or_eq_true (neg a) with f6 | f6;refine go ?_;refine clb en114 (hc:=r3order_ok fh om fe om) (hk:=?_);rintro _ _ gc rfl;have co:=xt co gc.2;refine go ?_;exact f_ret1 (t:=4) (v:=.int .i64 (cmpI ((valN (body b) : Nat) : Int) ((valN (body a) : Nat) : Int))) rfl co (congrArg (Value.int .i64) (cmp_eq_n (yes_2 ac fg) fw f6)) rfl;refine go ?_;refine clb en114 (hc:=r3order_ok fe om fh om) (hk:=?_)
 rintro _ _ gd rfl;have co:=xt co gd.2;refine go ?_;exact f_ret1 (t:=4) (v:=.int .i64 (cmpI ((valN (body a) : Nat) : Int) ((valN (body b) : Nat) : Int))) rfl co (congrArg (Value.int .i64) (cmp_eq_p (yes_2 ac fg) fw f6)) rfl;refine go ?_;rcases Bool.eq_false_or_eq_true (neg a) with f7 | f7;refine go ?_;exact f_ret1 (t:=4) (v:=.int .i64 ((-1))) rfl co (congrArg (Value.int .i64) (cmp_ne_n (yes_2 ac fg) fw f7)) rfl;refine go ?_;exact f_ret1 (t:=4) (v:=.int .i64 1) rfl co (congrArg (Value.int .i64) (cmp_ne_p (yes_2 ac fg) fw f7)) rfl;refine go ?_;exact f_ret1 (t:=4) (v:=.int .i64 0) rfl co (by rw [cmpS_no (no_r fg)]) rfl;refine go ?_;refine clb en95 (hc:=r3Valid_ok a _ om) (hk:=?_);rintro _ _ gl rfl;have gm:=gl.2;refine go ?_;exact f_ret1 (t:=4) (v:=.int .i64 0) rfl gm (by rw [cmpS_no (no_l ac)]) rfl
theorem r3Div_ok (a b:List UInt8)(w:World)(sa:a.length≤1000000)(sb:b.length≤1000000) :
    Calls Tryz.prog 93 #[S a,S b] w (Ret w fun v w'=>v=resD (divI a b)):=by
 refine f_in Tryz.func93 rfl ?_;refine go ?_;rcases Bool.eq_false_or_eq_true (isInt a) with co | co;rcases Bool.eq_false_or_eq_true (isInt b) with fe | fe;refine go ?_;refine clb en95 (hc:=r3Valid_ok a _ om) (hk:=?_);rintro _ _ g6 rfl;have ac:=g6.2;refine go ?_;refine clb en95 (hc:=r3Valid_ok b _ om) (hk:=?_);rintro _ _ g7 rfl;have ac:=xt ac g7.2;refine go ?_;refine eqs (b:=[48]) ?_;refine go ?_;by_cases gm:b=([48]);refine go ?_;exact f_ret3 (t:=4) (u:=5) (s:=6) (v1:=S ([])) (v2:=S ([])) (v3:=.int .i64 30) rfl ac (by rw [divI_0 asuRef4]; rfl) rfl rfl rfl;have h0:0<valN (body b):=val_pos fe gm;refine go ?_;refine cl en98 (r3digits_ok _ _ co) ?_;rintro _ _ g8 ⟨f7,gc,gd,rfl,fg⟩;have ac:=xt ac g8.2;have fg:=fg.mono (lo':=w.heap.size) om;have iq:=dg_len fg (val10 co);have ir:=fg.row.hi;refine go ?_;refine cl en98 (r3digits_ok _ _ fe) ?_;rintro _ _ gu ⟨fk,fm,fo,rfl,fh⟩;have fg:=Dg.ext gu.2 fg;have ac:=xt ac gu.2;have fh:=fh.mono (lo':=w.heap.size) om;have iw:=dg_len fh (val10 fe);have ix:=fh.row.hi;refine go ?_;refine clb en111 (hc:=r3div_ok fg om fh om h0) (hk:=?_);rintro _ _ gp ⟨Aq,nq,cq,Ar,nr,cr,rfl,hq,hr⟩;have fh:=Dg.ext gp.2 fh;have ac:=xt ac gp.2;have hq:=hq.mono (lo':=w.heap.size) om;have hr:=hr.mono (lo':=w.heap.size) om;have lq:=dg_len hq (Nat.lt_of_le_of_lt (Nat.div_le_self _ _) (val10 co))
 have lr:=dg_len hr (Nat.lt_trans (Nat.mod_lt _ h0) (val10 fe));have hmle:valN (body a) % valN (body b)≤valN (body b):=Nat.le_of_lt (Nat.mod_lt _ h0);have uhq:=hq.row.hi;have uhr:=hr.row.hi;refine go ?_;rcases Bool.eq_false_or_eq_true (neg a) with fj | fj;refine go ?_;by_cases gv:0<(nr:Int);have hr0:0<valN (body a) % valN (body b):=toB_ne (B:=10) om (by rw [hr.len]; omega);have hdv:=dvr h0 fj hr0;have hrl:valN (body b) - valN (body a) % valN (body b)≤valN (body b):=Nat.sub_le _ _;refine go ?_;refine BS (fun _ fw _ ia=>?_);have fh:=Dg.ext fw fh;have hq:=Dg.ext fw hq;have hr:=Dg.ext fw hr;have ac:=xt ac fw;have jb:=bz fw;have hone:=dg_one (Rw.of_own ia);refine clb en112 (hc:=r3plus_ok hq om hone om) (hk:=?_);rintro _ _ gh ⟨Ap,np,cp,rfl,hp⟩;have fh:=Dg.ext gh.2 fh;have hr:=Dg.ext gh.2 hr;have ac:=xt ac gh.2;have hp:=hp.mono (lo':=w.heap.size) om;have lp:=dg_len hp (lt201 (Nat.lt_of_le_of_lt (Nat.div_le_self _ _) (val10 co)) (show 1<10 ^ 200 by decide +kernel));have uhp:=hp.row.hi;refine go ?_;refine clb en113 (hc:=r3minus_ok fh om hr om hmle) (hk:=?_);rintro _ _ f6 ⟨Am,nm,cm,rfl,hm⟩;have hp:=Dg.ext f6.2 hp;have ac:=xt ac f6.2;have hm:=hm.mono (lo':=w.heap.size) om;have lm:=dg_len hm (Nat.lt_of_le_of_lt (Nat.sub_le _ _) (val10 fe));have uhm:=hm.row.hi;refine go ?_;refine l_op (k_neqB (a:=neg a) (b:=neg b) (q:=(!((neg a) == (neg b)))) U4 rfl rfl rfl ?_)
 refine go ?_;refine clb en99 (hc:=r3chk_ok hp om (!((neg a) == (neg b)))) (hk:=?_);rintro _ _ fp rfl;have hm:=Dg.ext fp.2 hm;have ac:=xt ac fp.2;refine go ?_;refine clb en97 (hc:=r3text_ok hm om false) (hk:=?_);rintro _ _ fq rfl;have ac:=xt ac fq.2;rw [txt_rem (mod_lt_pow fe hrl)];refine go ?_;by_cases gw:(rE (outI (sgn (!((neg a) == (neg b))) (valN (body a) / valN (body b)+1))))=0;refine go ?_;exact f_ret3 (t:=4) (u:=5) (s:=6) (v1:=S (rS (outI (sgn (!((neg a) == (neg b))) (valN (body a) / valN (body b)+1))))) (v2:=S (rS (outI (sgn false (valN (body b) - valN (body a) % valN (body b)))))) (v3:=.int .i64 0) rfl ac (by first | exact div_out (yes_2 co fe) h0 hdv.1 hdv.2 hrl asuRef4 | exact div_bad (yes_2 co fe) h0 hdv.1 asuRef4) rfl rfl rfl;refine go ?_;exact f_ret3 (t:=4) (u:=5) (s:=6) (v1:=S ([])) (v2:=S ([])) (v3:=.int .i64 (rE (outI (sgn (!((neg a) == (neg b))) (valN (body a) / valN (body b)+1))))) rfl ac (by first | exact div_out (yes_2 co fe) h0 hdv.1 hdv.2 hrl asuRef4 | exact div_bad (yes_2 co fe) h0 hdv.1 asuRef4) rfl rfl rfl;have hr0:valN (body a) % valN (body b)=0:=toB_nil (B:=10) om (hr.len.trans om);have hdv:=dvp (a:=a) h0 (Or.inr hr0);have hrl:valN (body a) % valN (body b)≤valN (body b):=hmle;refine go ?_;refine l_op (k_neqB (a:=neg a) (b:=neg b) (q:=(!((neg a) == (neg b)))) U4 rfl rfl rfl ?_);refine go ?_
 refine clb en99 (hc:=r3chk_ok hq om (!((neg a) == (neg b)))) (hk:=?_);rintro _ _ gi rfl;have hr:=Dg.ext gi.2 hr;have ac:=xt ac gi.2;refine go ?_;refine clb en97 (hc:=r3text_ok hr om false) (hk:=?_);rintro _ _ gj rfl;have ac:=xt ac gj.2;rw [txt_rem (mod_lt_pow fe hrl)];refine go ?_;by_cases gy:(rE (outI (sgn (!((neg a) == (neg b))) (valN (body a) / valN (body b)))))=0;refine go ?_;exact f_ret3 (t:=4) (u:=5) (s:=6) (v1:=S (rS (outI (sgn (!((neg a) == (neg b))) (valN (body a) / valN (body b)))))) (v2:=S (rS (outI (sgn false (valN (body a) % valN (body b)))))) (v3:=.int .i64 0) rfl ac (by first | exact div_out (yes_2 co fe) h0 hdv.1 hdv.2 hrl asuRef4 | exact div_bad (yes_2 co fe) h0 hdv.1 asuRef4) rfl rfl rfl;refine go ?_;exact f_ret3 (t:=4) (u:=5) (s:=6) (v1:=S ([])) (v2:=S ([])) (v3:=.int .i64 (rE (outI (sgn (!((neg a) == (neg b))) (valN (body a) / valN (body b)))))) rfl ac (by first | exact div_out (yes_2 co fe) h0 hdv.1 hdv.2 hrl asuRef4 | exact div_bad (yes_2 co fe) h0 hdv.1 asuRef4) rfl rfl rfl;have hdv:=dvp h0 (Or.inl fj);have hrl:valN (body a) % valN (body b)≤valN (body b):=hmle;refine go ?_;refine l_op (k_neqB (a:=neg a) (b:=neg b) (q:=(!((neg a) == (neg b)))) U4 rfl rfl rfl ?_);refine go ?_;refine clb en99 (hc:=r3chk_ok hq om (!((neg a) == (neg b)))) (hk:=?_);rintro _ _ gk rfl;have hr:=Dg.ext gk.2 hr;have ac:=xt ac gk.2;refine go ?_
 refine clb en97 (hc:=r3text_ok hr om false) (hk:=?_);rintro _ _ gl rfl;have ac:=xt ac gl.2;rw [txt_rem (mod_lt_pow fe hrl)];refine go ?_;by_cases gz:(rE (outI (sgn (!((neg a) == (neg b))) (valN (body a) / valN (body b)))))=0;refine go ?_;exact f_ret3 (t:=4) (u:=5) (s:=6) (v1:=S (rS (outI (sgn (!((neg a) == (neg b))) (valN (body a) / valN (body b)))))) (v2:=S (rS (outI (sgn false (valN (body a) % valN (body b)))))) (v3:=.int .i64 0) rfl ac (by first | exact div_out (yes_2 co fe) h0 hdv.1 hdv.2 hrl asuRef4 | exact div_bad (yes_2 co fe) h0 hdv.1 asuRef4) rfl rfl rfl;refine go ?_;exact f_ret3 (t:=4) (u:=5) (s:=6) (v1:=S ([])) (v2:=S ([])) (v3:=.int .i64 (rE (outI (sgn (!((neg a) == (neg b))) (valN (body a) / valN (body b)))))) rfl ac (by first | exact div_out (yes_2 co fe) h0 hdv.1 hdv.2 hrl asuRef4 | exact div_bad (yes_2 co fe) h0 hdv.1 asuRef4) rfl rfl rfl;refine go ?_;refine clb en95 (hc:=r3Valid_ok a _ om) (hk:=?_);rintro _ _ ic rfl;have gq:=ic.2;refine go ?_;refine clb en95 (hc:=r3Valid_ok b _ om) (hk:=?_);rintro _ _ ie rfl;have gq:=xt gq ie.2;refine go ?_;exact f_ret3 (t:=4) (u:=5) (s:=6) (v1:=S ([])) (v2:=S ([])) (v3:=.int .i64 30) rfl gq (by rw [divI_no (no_r fe)]; rfl) rfl rfl rfl;refine go ?_;refine clb en95 (hc:=r3Valid_ok a _ om) (hk:=?_);rintro _ _ ig rfl;have ii:=ig.2;refine go ?_
 exact f_ret3 (t:=4) (u:=5) (s:=6) (v1:=S ([])) (v2:=S ([])) (v3:=.int .i64 30) rfl ii (by rw [divI_no (no_l co)]; rfl) rfl rfl rfl
theorem r3Gcd_ok (a b:List UInt8)(w:World)(sa:a.length≤1000000)(sb:b.length≤1000000) :
    Calls Tryz.prog 92 #[S a,S b] w (Ret w fun v w'=>v=resI (gcdI a b)):=by
 refine f_in Tryz.func92 rfl ?_;refine go ?_;rcases Bool.eq_false_or_eq_true (isInt a) with ac | ac;refine go ?_;refine clb en95 (hc:=r3Valid_ok a _ om) (hk:=?_);rintro _ _ gi rfl;have co:=gi.2;refine go ?_;refine clb en95 (hc:=r3Valid_ok b _ om) (hk:=?_);rintro _ _ gj rfl;have co:=xt co gj.2;refine go ?_;rcases Bool.eq_false_or_eq_true (isInt b) with fe | fe;refine go ?_;refine cl en98 (r3digits_ok _ _ ac) ?_;rintro _ _ gk ⟨fk,fm,fo,rfl,fg⟩;have co:=xt co gk.2;have fg:=fg.mono (lo':=w.heap.size) om;have gz:=dg_len fg (val10 ac);have g6:=fg.row.hi;refine go ?_;refine cl en98 (r3digits_ok _ _ fe) ?_;rintro _ _ gd ⟨fp,fq,fw,rfl,fj⟩;have fg:=Dg.ext gd.2 fg;have co:=xt co gd.2;have fj:=fj.mono (lo':=w.heap.size) om;have g9:=dg_len fj (val10 fe);have ia:=fj.row.hi;refine go ?_;refine c_lp [(7,7),(9,11),(30,40)] (fun kk e W=>∃ Ax:Option Addr,∃ nx:Nat,∃ cx:Nat,∃ x:Nat,∃ Ay:Option Addr,∃ ny:Nat,∃ cy:Nat,∃ y:Nat,(y=kk)∧(e 7=.slice Ax nx cx)∧(e 9=.slice Ay ny cy)∧(nx≤200)∧(ny≤200)∧(Nat.gcd x y=Nat.gcd (valN (body a)) (valN (body b)))∧(Ext w W)∧(Dg W w.heap.size Ax nx cx x)∧(Dg W w.heap.size Ay ny cy y)) ((valN (body b))) ⟨fk,fm,fo,valN (body a),fp,fq,fw,valN (body b),rfl,rfl,rfl,(dg_len fg (val10 ac)),(dg_len fj (val10 fe)),rfl,co,fg,fj⟩ ?_;rintro _ _ _ ⟨Ax,nx,cx,x,Ay,ny,cy,y,rfl,gh,f6,q1,q2,q3,fh,hx,hy⟩
 have ii:=bz fh;by_cases hm:0<ny;have hy0:0<y:=toB_ne (B:=10) om (by rw [hy.len]; omega);have uhx:=hx.row.hi;have uhy:=hy.row.hi;refine go ?_;refine clb en111 (hc:=r3div_ok hx om hy om hy0) (hk:=?_);rintro _ _ f7 ⟨Aq,nq,cq,Ar,nr,cr,rfl,hq,hr⟩;have hy:=Dg.ext f7.2 hy;have fh:=xt fh f7.2;have hr:=hr.mono (lo':=w.heap.size) om;have uhr:=hr.row.hi;refine go ?_;exact lend (hk:=by exact Nat.mod_lt _ hy0) ⟨Ay,ny,cy,y,Ar,nr,cr,x % y,rfl,rfl,rfl,om,(by rw [← hr.len]; exact Nat.le_trans (len_mono om (Nat.le_of_lt (Nat.mod_lt _ hy0))) (by rw [hy.len]; exact q2)),(gcd_step q3),fh,hy,hr⟩;have hy0:y=0:=toB_nil (B:=10) om (hy.len.trans om);rw [hy0,Nat.gcd_zero_right] at q3;have uhx:=hx.row.hi;refine go ?_;refine clb en99 (hc:=r3chk_ok hx om false) (hk:=?_);rintro _ _ gc rfl;have fh:=xt fh gc.2;refine go ?_;exact f_ret2 (t:=4) (u:=5) (v1:=S (rS (outI (sgn false x)))) (v2:=.int .i64 (rE (outI (sgn false x)))) rfl fh (by rw [gcdI_ok (yes_2 ac fe),← q3]; rfl) rfl rfl;refine go ?_;exact f_ret2 (t:=4) (u:=5) (v1:=S ([])) (v2:=.int .i64 30) rfl co (by rw [gcdI_no (no_r fe)]; rfl) rfl rfl;refine go ?_;refine clb en95 (hc:=r3Valid_ok a _ om) (hk:=?_);rintro _ _ gl rfl;have gm:=gl.2;refine go ?_;exact f_ret2 (t:=4) (u:=5) (v1:=S ([])) (v2:=.int .i64 30) rfl gm (by rw [gcdI_no (no_l ac)]; rfl) rfl rfl
theorem asuRef5 {p : Prop} (h : p:=by assumption) : p:=h
theorem len_showI {n:Int}(h:fits n=true) : (showI n).length≤201:=(isInt_len (isInt_showI h)).2
theorem len_outI (n:Int) : (rS (outI n)).length≤1000000:=by
  unfold outI
  cases h:fits n with
  | true=>have:=len_showI h; simp [rS]; omega
  | false=>simp [rS]
theorem len_addI (a b:List UInt8) : (rS (addI a b)).length≤1000000:=by unfold addI; split; exact len_outI _; simp [rS]
theorem len_mulI (a b:List UInt8) : (rS (mulI a b)).length≤1000000:=by unfold mulI; split; exact len_outI _; simp [rS]
def Gi (a b:List UInt8) : Int:=((Int.gcd (valZ a) (valZ b) : Nat) : Int)
def mk4 (n d:List UInt8) : Option R:=if isInt n && isInt d then makeR (valZ n) (valZ d) else none
section
variable {x y : List UInt8}
theorem gi_pos (h:valZ y≠0) : 0<Gi x y:=by
  have:0<Int.gcd (valZ x) (valZ y):=Int.gcd_pos_of_ne_zero_right _ h
  unfold Gi; omega
theorem gi_fits (hy:isInt y=true)(h:valZ y≠0) : fits (Gi x y)=true:=fits_le (fits_val hy) (by
  have hd:Gi x y ∣ valZ y:=Int.gcd_dvd_right ..
  exact Nat.le_of_dvd om (Int.natAbs_dvd_natAbs.2 hd))
theorem gcd_some (hx:isInt x=true)(hy:isInt y=true)(h:valZ y≠0) : gcdI x y=some (showI (Gi x y)):=by
  unfold gcdI; rw [if_pos (by rw [hx,hy]; rfl)]; unfold outI
  show (if fits (Gi x y)=true then some (showI (Gi x y)) else none)=_
  rw [if_pos (gi_fits hy h)]
theorem div_some {z:List UInt8}(hz:isInt z=true)(hy:isInt y=true)(h:valZ y≠0)(hd:Gi x y ∣ valZ z) : divI z (showI (Gi x y))=some (showI (valZ z / Gi x y),showI (valZ z % Gi x y)):=by
  have hp:=gi_pos (x:=x) h
  rw [divI_ok (by rw [hz,isInt_showI (gi_fits hy h)]; rfl) (by rw [body_showI,valN_showN]; omega),valZ_showI]
  obtain ⟨g,hg⟩ : ∃ g:Nat,Gi x y=(g:Int):=⟨_,rfl⟩
  rw [hg] at hd hp ⊢
  unfold outI
  rw [if_pos (fits_le (fits_val hz) (ediv_abs_le _ _ om hd))]
  rfl
theorem gi_l:Gi x y ∣ valZ x:=Int.gcd_dvd_left ..
theorem gi_r:Gi x y ∣ valZ y:=Int.gcd_dvd_right ..
theorem resD_some (q r:List UInt8) : resD (some (q,r))=.tuple #[S q,S r,.int .i64 0]:=rfl
theorem resI_some (q:List UInt8) : resI (some q)=.tuple #[S q,.int .i64 0]:=rfl
theorem mk_no1 (h:isInt x=false) : none=mk4 x y:=by unfold mk4; rw [h]; rfl
theorem mk_no2 (h:isInt y=false) : none=mk4 x y:=by unfold mk4; rw [h]; simp
theorem mk_no3 (h:y=[48]) : none=mk4 x y:=by
  unfold mk4 makeR; subst h; rw [valZ_zero]; simp
theorem ne_zero (hy:isInt y=true)(h:¬ y=[48]) : valZ y≠0:=fun e=>h ((valZ_eq_zero hy).1 e)
theorem mk_pos (hx:isInt x=true)(hy:isInt y=true)(h0:¬ y=[48])(hs:¬ cmpS y [48]<0) : some (showI (valZ x / Gi x y),showI (valZ y / Gi x y))=mk4 x y:=by
  rw [cmpS_zero hy,cmpI_neg] at hs
  unfold mk4 makeR redN redD
  rw [hx,hy,Bool.and_self,if_pos rfl,if_neg (ne_zero hy h0),if_neg hs,if_neg hs]; rfl
theorem mk_neg (hx:isInt x=true)(hy:isInt y=true)(h0:¬ y=[48])(hs:cmpS y [48]<0) :
    some (showI (valZ (showI (-valZ x)) / Gi (showI (-valZ x)) (showI (-valZ y))),showI (valZ (showI (-valZ y)) / Gi (showI (-valZ x)) (showI (-valZ y))))=mk4 x y:=by
  rw [cmpS_zero hy,cmpI_neg] at hs
  unfold mk4 makeR redN redD Gi
  rw [hx,hy,Bool.and_self,if_pos rfl,if_neg (ne_zero hy h0),if_pos hs,if_pos hs,valZ_showI,valZ_showI,Int.gcd_neg,Int.neg_gcd]
theorem ne_neg (hy:isInt y=true)(h0:¬ y=[48]) : valZ (showI (-valZ y))≠0:=by rw [valZ_showI]; have:=ne_zero hy h0; omega
end
theorem resR_none:Value.tuple #[.agg #[S [],S []],.int .i64 40]=resR none:=rfl
theorem resR_some (a b:List UInt8) : Value.tuple #[.agg #[S a,S b],.int .i64 0]=resR (some (a,b)):=rfl
theorem rE_some {n:Int}{o:Option (List UInt8)}(ho:o=outI n)(h:rE o=0) : fits n=true∧rS o=showI n:=by
  subst ho
  unfold outI at *
  cases hf:fits n with
  | true=>exact ⟨rfl,rfl⟩
  | false=>rw [hf] at h; simp [rE] at h
theorem rE_none {n:Int}{o:Option (List UInt8)}(ho:o=outI n)(h:¬ rE o=0) : fits n=false:=by
  subst ho
  unfold outI at *
  cases hf:fits n with
  | true=>rw [hf] at h; simp [rE] at h
  | false=>rfl
section
variable {on od : Option (List UInt8)} {n d : Int}
theorem bo_ok (h1:on=outI n)(h2:od=outI d)(e1:rE on=0)(e2:rE od=0) : mk4 (rS on) (rS od)=bothF n d:=by
  obtain ⟨f1,s1⟩:=rE_some h1 e1
  obtain ⟨f2,s2⟩:=rE_some h2 e2
  unfold bothF mk4
  rw [s1,s2,isInt_showI f1,isInt_showI f2,f1,f2,valZ_showI,valZ_showI]
  first | done | rfl
theorem bo_1 (h1:on=outI n)(e1:¬ rE on=0) : none=bothF n d:=by unfold bothF; rw [rE_none h1 e1]; rfl
theorem bo_2 (h2:od=outI d)(e2:¬ rE od=0) : none=bothF n d:=by unfold bothF; rw [rE_none h2 e2]; simp
end
section
variable {x1 x2 y1 y2 : List UInt8}
theorem m_11 (ha:okR (x1,x2)=true)(hb:okR (y1,y2)=true) : mulI x1 y1=outI (valZ x1*valZ y1):=mulI_ok (by rw [okR_1 ha,okR_1 hb]; rfl)
theorem m_22 (ha:okR (x1,x2)=true)(hb:okR (y1,y2)=true) : mulI x2 y2=outI (valZ x2*valZ y2):=mulI_ok (by rw [okR_2 ha,okR_2 hb]; rfl)
theorem m_12 (ha:okR (x1,x2)=true)(hb:okR (y1,y2)=true) : mulI x1 y2=outI (valZ x1*valZ y2):=mulI_ok (by rw [okR_1 ha,okR_2 hb]; rfl)
theorem mulR_2 (ha:okR (x1,x2)=true)(hb:okR (y1,y2)=true) : mulR (x1,x2) (y1,y2)=bothF (valZ x1*valZ y1) (valZ x2*valZ y2):=by unfold mulR; rw [ha,hb]; rfl
theorem mulR_n1 (ha:okR (x1,x2)=false) : none=mulR (x1,x2) (y1,y2):=by unfold mulR; rw [ha]; rfl
theorem mulR_n2 (hb:okR (y1,y2)=false) : none=mulR (x1,x2) (y1,y2):=by unfold mulR; rw [hb]; simp
end
def crS (k:Bool)(o:Option (List UInt8)) : List UInt8:=if k then rS o else []
def crB (k:Bool)(o p q:Option (List UInt8)) : Bool:=k && decide (rE o=0) && decide (rE p=0) && decide (rE q=0)
theorem len_crS (k:Bool)(a b:List UInt8) : (crS k (mulI a b)).length≤1000000:=by unfold crS; split; exact len_mulI _ _; simp
section
variable {okk : Bool} {op oq od : Option (List UInt8)} {p q s d : Int} {os : List UInt8 → List UInt8 → Option (List UInt8)} {W : Option R}
theorem cr_ok (h:crB okk op oq od=true) : okk=true∧rE op=0∧rE oq=0∧rE od=0:=by
  unfold crB at h; simp at h; exact ⟨h.1.1.1,h.1.1.2,h.1.2,h.2⟩
structure Four (okk:Bool) (op oq od:Option (List UInt8)) (os:List UInt8→List UInt8→Option (List UInt8)) (p q s d:Int) (W:Option R) : Prop where
  hp:okk=true→op=outI p
  hq:okk=true→oq=outI q
  hd:okk=true→od=outI d
  hs:fits p=true→fits q=true→os (showI p) (showI q)=outI s
  hW:W=if okk then (if fits p && fits q then bothF s d else none) else none
theorem f_no (F:Four okk op oq od os p q s d W)(h:crB okk op oq od=false) : none=W:=by
  rw [F.hW]
  cases okk with
  | false=>rfl
  | true =>
    have hp:=F.hp rfl
    have hq:=F.hq rfl
    have hd:=F.hd rfl
    rw [if_pos rfl]
    by_cases e1:rE op=0
    · by_cases e2 : rE oq = 0
      · by_cases e3 : rE od = 0
        · simp [crB,e1,e2,e3] at h
        · have := bo_2 (n := s) hd e3
          rw [← this]; split <;> rfl
      · rw [rE_none hq e2]; simp
    · rw [rE_none hp e1]; rfl
theorem f_e (F:Four okk op oq od os p q s d W)(h:crB okk op oq od=true)(he:¬ rE (os (crS okk op) (crS okk oq))=0) : none=W:=by
  obtain ⟨rfl,e1,e2,_⟩:=cr_ok h
  obtain ⟨f1,s1⟩:=rE_some (F.hp rfl) e1
  obtain ⟨f2,s2⟩:=rE_some (F.hq rfl) e2
  rw [F.hW,f1,f2]
  have h1:crS true op=showI p:=s1
  have h2:crS true oq=showI q:=s2
  rw [h1,h2] at he
  have:=bo_1 (d:=d) (F.hs f1 f2) he
  rw [← this]; rfl
theorem f_ok (F:Four okk op oq od os p q s d W)(h:crB okk op oq od=true)(he:rE (os (crS okk op) (crS okk oq))=0) : mk4 (rS (os (crS okk op) (crS okk oq))) (crS okk od)=W:=by
  obtain ⟨rfl,e1,e2,e3⟩:=cr_ok h
  obtain ⟨f1,s1⟩:=rE_some (F.hp rfl) e1
  obtain ⟨f2,s2⟩:=rE_some (F.hq rfl) e2
  rw [F.hW,f1,f2]
  have h1:crS true op=showI p:=s1
  have h2:crS true oq=showI q:=s2
  have h3:crS true od=rS od:=rfl
  rw [h1,h2] at he ⊢
  rw [h3,bo_ok (F.hs f1 f2) (F.hd rfl) he e3]; rfl
end
theorem four_add (x1 x2 y1 y2:List UInt8) : Four (okR (x1,x2) && okR (y1,y2)) (mulI x1 y2) (mulI y1 x2) (mulI x2 y2) addI (valZ x1*valZ y2) (valZ y1*valZ x2) (valZ x1*valZ y2+valZ y1*valZ x2) (valZ x2*valZ y2) (addR (x1,x2) (y1,y2)):=
  ⟨fun h=>m_12 (and_l h) (and_r h),fun h=>m_12 (and_r h) (and_l h),fun h=>m_22 (and_l h) (and_r h),fun h1 h2=>by rw [addI_ok (by rw [isInt_showI h1,isInt_showI h2]; rfl),valZ_showI,valZ_showI],rfl⟩
theorem sz_int {l:List UInt8}(h:isInt l=true) : l.length≤1000000:=by have:=isInt_len h; omega
theorem r4Valid_ok (x y:List UInt8)(w:World)(s1:x.length≤1000000)(s2:y.length≤1000000) :
    Calls Tryz.prog 57 #[.agg #[S x,S y]] w (Ret w fun v w'=>v=.bool (okR (x,y))):=by
 refine f_in Tryz.func57 rfl ?_;refine go ?_;refine bx (fun _ fq ac=>?_);have co:=fq.2;refine go ?_;refine clb en95 (hc:=r3Valid_ok x _ asuRef5) (hk:=?_);rintro _ _ fj rfl;have ⟨ac,co⟩:=be1 fj.2 ac co;refine go ?_;refine clb en95 (hc:=r3Valid_ok y _ asuRef5) (hk:=?_);rintro _ _ fk rfl;have ⟨ac,co⟩:=be1 fk.2 ac co;refine go ?_;rcases Bool.eq_false_or_eq_true (isInt x) with fg | fg;rcases Bool.eq_false_or_eq_true (isInt y) with fe | fe;refine go ?_;refine clb en86 (hc:=r3Cmp_ok y ([48]) _ asuRef5 dc) (hk:=?_);rintro _ _ fm rfl;have ⟨ac,co⟩:=be1 fm.2 ac co;refine go ?_;by_cases fo:(cmpS y ([48]))≤0;refine go ?_;exact f_ret1 (t:=2) (v:=.bool false) rfl co (by first | exact okR_c1 asuRef5 | exact okR_c2 asuRef5 | exact okR_c3 asuRef5 | exact okR_c4 asuRef5 asuRef5 asuRef5 asuRef5 | exact okR_c5 asuRef5 asuRef5 asuRef5 asuRef5) rfl;refine go ?_;refine clb en96 (hc:=r3Gcd_ok x y _ asuRef5 asuRef5) (hk:=?_);rintro _ _ fp rfl;have co:=xt co fp.2;refine go ?_;by_cases fh:(rE (gcdI x y))=0;refine go ?_;refine eqs (b:=[49]) ?_;refine go ?_;exact f_ret1 (t:=2) (v:=.bool (decide ((rS (gcdI x y))=([49])))) rfl co (by first | exact okR_c1 asuRef5 | exact okR_c2 asuRef5 | exact okR_c3 asuRef5 | exact okR_c4 asuRef5 asuRef5 asuRef5 asuRef5 | exact okR_c5 asuRef5 asuRef5 asuRef5 asuRef5) rfl
 refine go ?_;exact f_ret1 (t:=2) (v:=.bool false) rfl co (by first | exact okR_c1 asuRef5 | exact okR_c2 asuRef5 | exact okR_c3 asuRef5 | exact okR_c4 asuRef5 asuRef5 asuRef5 asuRef5 | exact okR_c5 asuRef5 asuRef5 asuRef5 asuRef5) rfl;refine go ?_;exact f_ret1 (t:=2) (v:=.bool false) rfl co (by first | exact okR_c1 asuRef5 | exact okR_c2 asuRef5 | exact okR_c3 asuRef5 | exact okR_c4 asuRef5 asuRef5 asuRef5 asuRef5 | exact okR_c5 asuRef5 asuRef5 asuRef5 asuRef5) rfl;refine go ?_;exact f_ret1 (t:=2) (v:=.bool false) rfl co (by first | exact okR_c1 asuRef5 | exact okR_c2 asuRef5 | exact okR_c3 asuRef5 | exact okR_c4 asuRef5 asuRef5 asuRef5 asuRef5 | exact okR_c5 asuRef5 asuRef5 asuRef5 asuRef5) rfl
theorem r4Make_ok (x y:List UInt8)(w:World)(s1:x.length≤1000000)(s2:y.length≤1000000) :
    Calls Tryz.prog 53 #[S x,S y] w (Ret w fun v w'=>v=resR (mk4 x y)):=by
 refine f_in Tryz.func53 rfl ?_;refine go ?_;refine al inf36 (fun _ gp co=>?_);have ac:=gp.2;refine go ?_;refine clb en95 (hc:=r3Valid_ok x _ asuRef5) (hk:=?_);rintro _ _ fk rfl;have ⟨co,ac⟩:=be1 fk.2 co ac;refine go ?_;refine clb en95 (hc:=r3Valid_ok y _ asuRef5) (hk:=?_);rintro _ _ fm rfl;have ⟨co,ac⟩:=be1 fm.2 co ac;refine go ?_;rcases Bool.eq_false_or_eq_true (isInt x) with fe | fe;rcases Bool.eq_false_or_eq_true (isInt y) with fg | fg;refine go ?_;refine eqs (b:=[48]) ?_;refine go ?_;by_cases fj:y=([48]);refine go ?_;refine SA co (fun _ fo gq=>?_);have ac:=plw fo ac;have ic:=psz fo;refine go ?_;refine f_out (v:=.tuple #[.agg #[S ([]),S ([])],.int .i64 40]) (res2 (r1:=.cell 4 25) (r2:=.tmp 5) rfl ?_ ?_) ac (by rw [resR_none]; exact congrArg resR (by first | exact mk_no1 asuRef5 | exact mk_no2 asuRef5 | exact mk_no3 asuRef5));refine res_cellA (t:=4) (cs:=[S ([]),S ([])]) (b:=w.heap.size) (o:=0) U36 rfl sz36 ?_ ?_;exact rfl;exact Blk.cells gq (i:=0) rfl;exact res_tmp (t:=5) (by exact rfl) _;have hx:=fe;have hy:=fg;have hy48:=fj;have hy0:=ne_zero hy hy48;refine go ?_;refine clb en86 (hc:=r3Cmp_ok y ([48]) _ asuRef5 dc) (hk:=?_);rintro _ _ fp rfl;have ⟨co,ac⟩:=be1 fp.2 co ac;refine go ?_;by_cases fh:(cmpS y ([48]))<0;have hs:=fh;have hX:=isInt_neg hx
 have hY:=isInt_neg hy;have hY0:=ne_neg hy hy48;refine go ?_;refine clb en81 (hc:=r3Sub_ok [48] x _ dc asuRef5) (hk:=?_);rintro _ _ fq hcv;have ⟨co,ac⟩:=be1 fq.2 co ac;rw [subI_zero hx,resI_some] at hcv;subst hcv;refine go ?_;refine clb en81 (hc:=r3Sub_ok [48] y _ dc asuRef5) (hk:=?_);rintro _ _ fw hcv;have ⟨co,ac⟩:=be1 fw.2 co ac;rw [subI_zero hy,resI_some] at hcv;subst hcv;refine go ?_;refine cl en96 (r3Gcd_ok (showI (-valZ x)) (showI (-valZ y)) _ (sz_int hX) (sz_int hY)) ?_;rintro _ _ f6 hcv;have ⟨co,ac⟩:=be1 f6.2 co ac;rw [gcd_some hX hY hY0,resI_some] at hcv;subst hcv;refine go ?_;refine cl en85 (r3Div_ok (showI (-valZ x)) (showI (Gi (showI (-valZ x)) (showI (-valZ y)))) _ (sz_int hX) (sz_int (isInt_showI (gi_fits hY hY0)))) ?_;rintro _ _ f7 hcv;have ⟨co,ac⟩:=be1 f7.2 co ac;rw [div_some hX hY hY0 gi_l,resD_some] at hcv;subst hcv;refine go ?_;refine cl en85 (r3Div_ok (showI (-valZ y)) (showI (Gi (showI (-valZ x)) (showI (-valZ y)))) _ (sz_int hY) (sz_int (isInt_showI (gi_fits hY hY0)))) ?_;rintro _ _ gc hcv;have ⟨co,ac⟩:=be1 gc.2 co ac;rw [div_some hY hY hY0 gi_r,resD_some] at hcv;subst hcv;refine go ?_;refine SA co (fun _ gd gu=>?_);have ac:=plw gd ac;have iw:=psz gd;refine go ?_
 refine f_out (v:=.tuple #[.agg #[S (showI (valZ (showI (-valZ x)) / Gi (showI (-valZ x)) (showI (-valZ y)))),S (showI (valZ (showI (-valZ y)) / Gi (showI (-valZ x)) (showI (-valZ y))))],.int .i64 0]) (res2 (r1:=.cell 4 25) (r2:=.tmp 5) rfl ?_ ?_) ac (by rw [resR_some,mk_neg hx hy hy48 hs]);refine res_cellA (t:=4) (cs:=[S (showI (valZ (showI (-valZ x)) / Gi (showI (-valZ x)) (showI (-valZ y)))),S (showI (valZ (showI (-valZ y)) / Gi (showI (-valZ x)) (showI (-valZ y))))]) (b:=w.heap.size) (o:=0) U36 rfl sz36 ?_ ?_;exact rfl;exact Blk.cells gu (i:=0) rfl;exact res_tmp (t:=5) (by exact rfl) _;have hs:=fh;have hX:=hx;have hY:=hy;have hY0:=hy0;refine go ?_;refine cl en96 (r3Gcd_ok x y _ (sz_int hX) (sz_int hY)) ?_;rintro _ _ gh hcv;have ⟨co,ac⟩:=be1 gh.2 co ac;rw [gcd_some hX hY hY0,resI_some] at hcv;subst hcv;refine go ?_;refine cl en85 (r3Div_ok x (showI (Gi x y)) _ (sz_int hX) (sz_int (isInt_showI (gi_fits hY hY0)))) ?_;rintro _ _ gi hcv;have ⟨co,ac⟩:=be1 gi.2 co ac;rw [div_some hX hY hY0 gi_l,resD_some] at hcv;subst hcv;refine go ?_;refine cl en85 (r3Div_ok y (showI (Gi x y)) _ (sz_int hY) (sz_int (isInt_showI (gi_fits hY hY0)))) ?_;rintro _ _ gj hcv;have ⟨co,ac⟩:=be1 gj.2 co ac;rw [div_some hY hY hY0 gi_r,resD_some] at hcv;subst hcv;refine go ?_;refine SA co (fun _ gk gv=>?_);have ac:=plw gk ac;have je:=psz gk;refine go ?_
 refine f_out (v:=.tuple #[.agg #[S (showI (valZ x / Gi x y)),S (showI (valZ y / Gi x y))],.int .i64 0]) (res2 (r1:=.cell 4 25) (r2:=.tmp 5) rfl ?_ ?_) ac (by rw [resR_some,mk_pos hx hy hy48 hs]);refine res_cellA (t:=4) (cs:=[S (showI (valZ x / Gi x y)),S (showI (valZ y / Gi x y))]) (b:=w.heap.size) (o:=0) U36 rfl sz36 ?_ ?_;exact rfl;exact Blk.cells gv (i:=0) rfl;exact res_tmp (t:=5) (by exact rfl) _;refine go ?_;refine SA co (fun _ gl gw=>?_);have ac:=plw gl ac;have jg:=psz gl;refine go ?_;refine f_out (v:=.tuple #[.agg #[S ([]),S ([])],.int .i64 40]) (res2 (r1:=.cell 4 25) (r2:=.tmp 5) rfl ?_ ?_) ac (by rw [resR_none]; exact congrArg resR (by first | exact mk_no1 asuRef5 | exact mk_no2 asuRef5 | exact mk_no3 asuRef5));refine res_cellA (t:=4) (cs:=[S ([]),S ([])]) (b:=w.heap.size) (o:=0) U36 rfl sz36 ?_ ?_;exact rfl;exact Blk.cells gw (i:=0) rfl;exact res_tmp (t:=5) (by exact rfl) _;refine go ?_;refine SA co (fun _ gm gy=>?_);have ac:=plw gm ac;have ji:=psz gm;refine go ?_;refine f_out (v:=.tuple #[.agg #[S ([]),S ([])],.int .i64 40]) (res2 (r1:=.cell 4 25) (r2:=.tmp 5) rfl ?_ ?_) ac (by rw [resR_none]; exact congrArg resR (by first | exact mk_no1 asuRef5 | exact mk_no2 asuRef5 | exact mk_no3 asuRef5));refine res_cellA (t:=4) (cs:=[S ([]),S ([])]) (b:=w.heap.size) (o:=0) U36 rfl sz36 ?_ ?_;exact rfl;exact Blk.cells gy (i:=0) rfl
 exact res_tmp (t:=5) (by exact rfl) _
theorem r4Mul_ok (x1 x2 y1 y2:List UInt8)(w:World)(s1:x1.length≤1000000)(s2:x2.length≤1000000)(s3:y1.length≤1000000)(s4:y2.length≤1000000) :
    Calls Tryz.prog 28 #[.agg #[S x1,S x2],.agg #[S y1,S y2]] w (Ret w fun v w'=>v=resR (mulR (x1,x2) (y1,y2))):=by
 refine f_in Tryz.func28 rfl ?_;refine go ?_;refine bx (fun _ gp co=>?_);have ac:=gp.2;refine bx (fun fk gm fe=>?_);have ⟨co,ac⟩:=be1 gm.2 co ac;refine al inf36 (fun _ gl fg=>?_);have ⟨co,fe,ac⟩:=be2 gl.2 co fe ac;refine go ?_;refine clb en74 (hc:=r4Valid_ok x1 x2 _ asuRef5 asuRef5) (hk:=?_);rintro _ _ fp rfl;have ⟨co,fe,fg,ac⟩:=be3 fp.2 co fe fg ac;refine go ?_;refine clb en74 (hc:=r4Valid_ok y1 y2 _ asuRef5 asuRef5) (hk:=?_);rintro _ _ fq rfl;have ⟨co,fe,fg,ac⟩:=be3 fq.2 co fe fg ac;refine go ?_;rcases Bool.eq_false_or_eq_true (okR (x1,x2)) with fh | fh;refine go ?_;rcases Bool.eq_false_or_eq_true (okR (y1,y2)) with fj | fj;refine go ?_;refine clb en75 (hc:=r3Mul_ok x1 y1 _ asuRef5 asuRef5) (hk:=?_);rintro _ _ fw rfl;have ⟨co,fe,fg,ac⟩:=be3 fw.2 co fe fg ac;refine go ?_;refine clb en75 (hc:=r3Mul_ok x2 y2 _ asuRef5 asuRef5) (hk:=?_);rintro _ _ f6 rfl;have ⟨co,fe,fg,ac⟩:=be3 f6.2 co fe fg ac;refine go ?_;by_cases fm:(rE (mulI x1 y1))=0;refine go ?_;by_cases f7:(rE (mulI x2 y2))=0;refine go ?_;refine cl en72 (r4Make_ok (rS (mulI x1 y1)) (rS (mulI x2 y2)) _ (len_mulI _ _) (len_mulI _ _)) ?_
 rintro _ _ gc rfl;have ⟨co,fe,fg,ac⟩:=be3 gc.2 co fe fg ac;refine go ?_;refine SA fg (fun _ gd gq=>?_);have ⟨co,fe,ac,_⟩:=pl2 gd co fe ac;refine go ?_;refine f_out (v:=.tuple #[.agg #[S (rN (mk4 (rS (mulI x1 y1)) (rS (mulI x2 y2)))),S (rD (mk4 (rS (mulI x1 y1)) (rS (mulI x2 y2))))],.int .i64 (rER (mk4 (rS (mulI x1 y1)) (rS (mulI x2 y2))))]) (res2 (r1:=.cell 4 25) (r2:=.tmp 5) rfl ?_ ?_) ac (by rw [mulR_2 fh fj]; exact congrArg resR (bo_ok (m_11 fh fj) (m_22 fh fj) fm f7));refine res_cellA (t:=4) (cs:=[S (rN (mk4 (rS (mulI x1 y1)) (rS (mulI x2 y2)))),S (rD (mk4 (rS (mulI x1 y1)) (rS (mulI x2 y2))))]) (b:=fk.heap.size) (o:=0) U36 rfl sz36 ?_ ?_;exact rfl;exact Blk.cells gq (i:=0) rfl;exact res_tmp (t:=5) (by exact rfl) _;refine go ?_;refine SA fg (fun _ gh gu=>?_);have ⟨co,fe,ac,_⟩:=pl2 gh co fe ac;refine go ?_;refine f_out (v:=.tuple #[.agg #[S ([]),S ([])],.int .i64 40]) (res2 (r1:=.cell 4 25) (r2:=.tmp 5) rfl ?_ ?_) ac (by rw [resR_none,mulR_2 fh fj]; exact congrArg resR (bo_2 (m_22 fh fj) f7));refine res_cellA (t:=4) (cs:=[S ([]),S ([])]) (b:=fk.heap.size) (o:=0) U36 rfl sz36 ?_ ?_;exact rfl;exact Blk.cells gu (i:=0) rfl;exact res_tmp (t:=5) (by exact rfl) _;refine go ?_;refine SA fg (fun _ gi gv=>?_);have ⟨co,fe,ac,_⟩:=pl2 gi co fe ac;refine go ?_
 refine f_out (v:=.tuple #[.agg #[S ([]),S ([])],.int .i64 40]) (res2 (r1:=.cell 4 25) (r2:=.tmp 5) rfl ?_ ?_) ac (by rw [resR_none,mulR_2 fh fj]; exact congrArg resR (bo_1 (m_11 fh fj) fm));refine res_cellA (t:=4) (cs:=[S ([]),S ([])]) (b:=fk.heap.size) (o:=0) U36 rfl sz36 ?_ ?_;exact rfl;exact Blk.cells gv (i:=0) rfl;exact res_tmp (t:=5) (by exact rfl) _;refine go ?_;refine SA fg (fun _ gj gw=>?_);have ⟨co,fe,ac,_⟩:=pl2 gj co fe ac;refine go ?_;refine f_out (v:=.tuple #[.agg #[S ([]),S ([])],.int .i64 40]) (res2 (r1:=.cell 4 25) (r2:=.tmp 5) rfl ?_ ?_) ac (by rw [resR_none,mulR_n2 fj]);refine res_cellA (t:=4) (cs:=[S ([]),S ([])]) (b:=fk.heap.size) (o:=0) U36 rfl sz36 ?_ ?_;exact rfl;exact Blk.cells gw (i:=0) rfl;exact res_tmp (t:=5) (by exact rfl) _;refine go ?_;refine SA fg (fun _ gk gy=>?_);have ⟨co,fe,ac,_⟩:=pl2 gk co fe ac;refine go ?_;refine f_out (v:=.tuple #[.agg #[S ([]),S ([])],.int .i64 40]) (res2 (r1:=.cell 4 25) (r2:=.tmp 5) rfl ?_ ?_) ac (by rw [resR_none,mulR_n1 fh]);refine res_cellA (t:=4) (cs:=[S ([]),S ([])]) (b:=fk.heap.size) (o:=0) U36 rfl sz36 ?_ ?_;exact rfl;exact Blk.cells gy (i:=0) rfl;exact res_tmp (t:=5) (by exact rfl) _
theorem r4cross_ok (x1 x2 y1 y2:List UInt8)(w:World)(s1:x1.length≤1000000)(s2:x2.length≤1000000)(s3:y1.length≤1000000)(s4:y2.length≤1000000) :
    Calls Tryz.prog 55 #[.agg #[S x1,S x2],.agg #[S y1,S y2]] w (Ret w fun v w'=>v=.tuple #[S (crS (okR (x1,x2) && okR (y1,y2)) (mulI x1 y2)),S (crS (okR (x1,x2) && okR (y1,y2)) (mulI y1 x2)),S (crS (okR (x1,x2) && okR (y1,y2)) (mulI x2 y2)),.bool (crB (okR (x1,x2) && okR (y1,y2)) (mulI x1 y2) (mulI y1 x2) (mulI x2 y2))]):=by
 refine f_in Tryz.func55 rfl ?_;refine go ?_;refine bx (fun _ gc co=>?_);have ac:=gc.2;refine bx (fun _ f7 fe=>?_);have ⟨co,ac⟩:=be1 f7.2 co ac;refine go ?_;refine clb en74 (hc:=r4Valid_ok x1 x2 _ asuRef5 asuRef5) (hk:=?_);rintro _ _ fm rfl;have ⟨co,fe,ac⟩:=be2 fm.2 co fe ac;refine go ?_;refine clb en74 (hc:=r4Valid_ok y1 y2 _ asuRef5 asuRef5) (hk:=?_);rintro _ _ fo rfl;have ⟨co,fe,ac⟩:=be2 fo.2 co fe ac;refine go ?_;rcases Bool.eq_false_or_eq_true (okR (x1,x2)) with fj | fj;refine go ?_;rcases Bool.eq_false_or_eq_true (okR (y1,y2)) with fp | fp;refine go ?_;refine clb en75 (hc:=r3Mul_ok x1 y2 _ asuRef5 asuRef5) (hk:=?_);rintro _ _ fq rfl;have ⟨co,fe,ac⟩:=be2 fq.2 co fe ac;refine go ?_;refine clb en75 (hc:=r3Mul_ok y1 x2 _ asuRef5 asuRef5) (hk:=?_);rintro _ _ fw rfl;have ⟨co,fe,ac⟩:=be2 fw.2 co fe ac;refine go ?_;refine clb en75 (hc:=r3Mul_ok x2 y2 _ asuRef5 asuRef5) (hk:=?_);rintro _ _ f6 rfl;have ac:=xt ac f6.2;refine go ?_;by_cases fg:(rE (mulI x1 y2))=0;by_cases fk:(rE (mulI y1 x2))=0;refine go ?_;exact f_ret4 (t:=4) (u:=5) (s:=6) (q:=7) (v1:=S (rS (mulI x1 y2))) (v2:=S (rS (mulI y1 x2))) (v3:=S (rS (mulI x2 y2))) (v4:=.bool (decide ((rE (mulI x2 y2))=0))) rfl ac (by simp [crS,crB, *]) rfl rfl rfl rfl
 refine go ?_;exact f_ret4 (t:=4) (u:=5) (s:=6) (q:=7) (v1:=S (rS (mulI x1 y2))) (v2:=S (rS (mulI y1 x2))) (v3:=S (rS (mulI x2 y2))) (v4:=.bool false) rfl ac (by simp [crS,crB, *]) rfl rfl rfl rfl;refine go ?_;exact f_ret4 (t:=4) (u:=5) (s:=6) (q:=7) (v1:=S (rS (mulI x1 y2))) (v2:=S (rS (mulI y1 x2))) (v3:=S (rS (mulI x2 y2))) (v4:=.bool false) rfl ac (by simp [crS,crB, *]) rfl rfl rfl rfl;refine go ?_;exact f_ret4 (t:=4) (u:=5) (s:=6) (q:=7) (v1:=S ([])) (v2:=S ([])) (v3:=S ([])) (v4:=.bool false) rfl ac (by simp [crS,crB, *]) rfl rfl rfl rfl;refine go ?_;exact f_ret4 (t:=4) (u:=5) (s:=6) (q:=7) (v1:=S ([])) (v2:=S ([])) (v3:=S ([])) (v4:=.bool false) rfl ac (by simp [crS,crB, *]) rfl rfl rfl rfl
theorem r4Add_ok (x1 x2 y1 y2:List UInt8)(w:World)(s1:x1.length≤1000000)(s2:x2.length≤1000000)(s3:y1.length≤1000000)(s4:y2.length≤1000000) :
    Calls Tryz.prog 27 #[.agg #[S x1,S x2],.agg #[S y1,S y2]] w (Ret w fun v w'=>v=resR (addR (x1,x2) (y1,y2))):=by
 refine f_in Tryz.func27 rfl ?_;refine go ?_;refine bx (fun _ gh co=>?_);have ac:=gh.2;refine bx (fun fh gc fe=>?_);have ⟨co,ac⟩:=be1 gc.2 co ac;refine al inf36 (fun _ f7 fg=>?_);have ⟨co,fe,ac⟩:=be2 f7.2 co fe ac;refine go ?_;refine clb en80 (hc:=r4cross_ok x1 x2 y1 y2 _ asuRef5 asuRef5 asuRef5 asuRef5) (hk:=?_);rintro _ _ fk rfl;have ⟨co,fe,fg,ac⟩:=be3 fk.2 co fe fg ac;refine go ?_;rcases Bool.eq_false_or_eq_true (crB (okR (x1,x2) && okR (y1,y2)) (mulI x1 y2) (mulI y1 x2) (mulI x2 y2)) with fj | fj;refine go ?_;refine cl en94 (r3Add_ok (crS (okR (x1,x2) && okR (y1,y2)) (mulI x1 y2)) (crS (okR (x1,x2) && okR (y1,y2)) (mulI y1 x2)) _ (len_crS _ _ _) (len_crS _ _ _)) ?_;rintro _ _ fm rfl;have ⟨co,fe,fg,ac⟩:=be3 fm.2 co fe fg ac;refine go ?_;by_cases fo:(rE (addI (crS (okR (x1,x2) && okR (y1,y2)) (mulI x1 y2)) (crS (okR (x1,x2) && okR (y1,y2)) (mulI y1 x2))))=0;refine go ?_;refine cl en72 (r4Make_ok (rS (addI (crS (okR (x1,x2) && okR (y1,y2)) (mulI x1 y2)) (crS (okR (x1,x2) && okR (y1,y2)) (mulI y1 x2)))) (crS (okR (x1,x2) && okR (y1,y2)) (mulI x2 y2)) _ (len_addI _ _) (len_crS _ _ _)) ?_;rintro _ _ fp rfl;have ⟨co,fe,fg⟩:=bf3 fp.2 co fe fg;have ac:=xt ac fp.2
 refine go ?_;refine SA fg (fun _ fq gi=>?_);have ⟨co,fe,ac,_⟩:=pl2 fq co fe ac;refine go ?_;refine f_out (v:=.tuple #[.agg #[S (rN (mk4 (rS (addI (crS (okR (x1,x2) && okR (y1,y2)) (mulI x1 y2)) (crS (okR (x1,x2) && okR (y1,y2)) (mulI y1 x2)))) (crS (okR (x1,x2) && okR (y1,y2)) (mulI x2 y2)))),S (rD (mk4 (rS (addI (crS (okR (x1,x2) && okR (y1,y2)) (mulI x1 y2)) (crS (okR (x1,x2) && okR (y1,y2)) (mulI y1 x2)))) (crS (okR (x1,x2) && okR (y1,y2)) (mulI x2 y2))))],.int .i64 (rER (mk4 (rS (addI (crS (okR (x1,x2) && okR (y1,y2)) (mulI x1 y2)) (crS (okR (x1,x2) && okR (y1,y2)) (mulI y1 x2)))) (crS (okR (x1,x2) && okR (y1,y2)) (mulI x2 y2))))]) (res2 (r1:=.cell 4 25) (r2:=.tmp 5) rfl ?_ ?_) ac (congrArg resR (f_ok (four_add x1 x2 y1 y2) fj fo));refine res_cellA (t:=4) (cs:=[S (rN (mk4 (rS (addI (crS (okR (x1,x2) && okR (y1,y2)) (mulI x1 y2)) (crS (okR (x1,x2) && okR (y1,y2)) (mulI y1 x2)))) (crS (okR (x1,x2) && okR (y1,y2)) (mulI x2 y2)))),S (rD (mk4 (rS (addI (crS (okR (x1,x2) && okR (y1,y2)) (mulI x1 y2)) (crS (okR (x1,x2) && okR (y1,y2)) (mulI y1 x2)))) (crS (okR (x1,x2) && okR (y1,y2)) (mulI x2 y2))))]) (b:=fh.heap.size) (o:=0) U36 rfl sz36 ?_ ?_;exact rfl;exact Blk.cells gi (i:=0) rfl;exact res_tmp (t:=5) (by exact rfl) _;refine go ?_;refine SA fg (fun _ fw gj=>?_);have ⟨co,fe,ac,_⟩:=pl2 fw co fe ac;refine go ?_
 refine f_out (v:=.tuple #[.agg #[S ([]),S ([])],.int .i64 40]) (res2 (r1:=.cell 4 25) (r2:=.tmp 5) rfl ?_ ?_) ac (by rw [resR_none]; exact congrArg resR (f_e (four_add x1 x2 y1 y2) fj fo));refine res_cellA (t:=4) (cs:=[S ([]),S ([])]) (b:=fh.heap.size) (o:=0) U36 rfl sz36 ?_ ?_;exact rfl;exact Blk.cells gj (i:=0) rfl;exact res_tmp (t:=5) (by exact rfl) _;refine go ?_;refine SA fg (fun _ f6 gk=>?_);have ⟨co,fe,ac,_⟩:=pl2 f6 co fe ac;refine go ?_;refine f_out (v:=.tuple #[.agg #[S ([]),S ([])],.int .i64 40]) (res2 (r1:=.cell 4 25) (r2:=.tmp 5) rfl ?_ ?_) ac (by rw [resR_none]; exact congrArg resR (f_no (four_add x1 x2 y1 y2) fj));refine res_cellA (t:=4) (cs:=[S ([]),S ([])]) (b:=fh.heap.size) (o:=0) U36 rfl sz36 ?_ ?_;exact rfl;exact Blk.cells gk (i:=0) rfl;exact res_tmp (t:=5) (by exact rfl) _
theorem sgn_ex (n:Int) : ∃ ng x,n=sgn ng x∧(ng=true→0<x)∧x=n.natAbs:=by
  by_cases h:n<0
  · exact ⟨true,n.natAbs,by simp [sgn]; omega,fun _=>by omega,rfl⟩
  · exact ⟨false,n.natAbs,by simp [sgn]; omega,by simp,rfl⟩
theorem fi_fin {ng:Bool}{x:Nat}(h:ng=true→0<x) : txtR (decide (sgn ng x<0)) x=showI (sgn ng x):=by
  rw [← txtR_show]
  congr 1
  cases ng with
  | false =>
    have:decide (sgn false x<0)=false:=decide_eq_false (by show ¬ (x:Int)<0; omega)
    rw [this]
  | true =>
    have:=h rfl
    have:decide (sgn true x<0)=true:=decide_eq_true (by show -(x:Int)<0; omega)
    rw [this]
theorem sgn_zero {ng:Bool}{x:Nat} : sgn ng x=0 ↔ x=0:=by cases ng <;> simp [sgn] <;> omega
theorem sgn_bd {ng:Bool}{x:Nat} : -(x:Int)≤sgn ng x∧sgn ng x≤(x:Int):=by cases ng <;> simp [sgn] <;> omega
theorem sgn_d1 {ng:Bool}{d:Nat}(h:ng=true∧0<d) : sgn ng d<0∧-sgn ng d=(d:Int):=by rw [h.1]; simp [sgn]; omega
theorem sgn_d2 {ng:Bool}{d:Nat}(h:¬ (ng=true∧0<d)) : sgn ng d=(d:Int):=by cases ng <;> simp_all [sgn]
theorem toB_step {x:Nat}(h:¬ x=0) : toB 10 x=x % 10 :: toB 10 (x / 10):=toB_pos 10 x om om
def pickI (c n:Int) : Int:=(if c<0 then -(c+1) else c) % n
theorem pick_bd (c n:Int)(h:0<n) : 0≤pickI c n∧pickI c n<n:=⟨Int.emod_nonneg _ om,Int.emod_lt_of_pos _ h⟩
theorem pick_neg {c n:Int}(h:c<0) : -(c+1) % n=pickI c n:=by unfold pickI; rw [if_pos h]
theorem pick_pos {c n:Int}(h:¬ c<0) : c % n=pickI c n:=by unfold pickI; rw [if_neg h]
theorem len_small {n:Int}(h : -100000000≤n∧n≤100000000) : (showI n).length≤1000000:=by
  have:fits n=true:=by
    unfold fits; rw [decide_eq_true_eq]
    have h7:(10:Nat) ^ 9≤10 ^ 200:=Nat.pow_le_pow_right om om
    omega
  have:=len_showI this; omega
theorem fromInt_ok0 {ng:Bool}{x0:Nat}{w:World}(hng:ng=true→0<x0)(hx0:x0≤100000000) :
    Calls Tryz.prog 54 #[.int .i64 (sgn ng x0)] w (Ret w fun v w'=>v=S (showI (sgn ng x0))):=by
 have hl7:(toB 10 x0).length≤9:=(length_toB_le_iff 10 om x0 9).2 om;refine f_in Tryz.func54 rfl ?_;refine go ?_;have own0:World.ownsRow w w.heap.size 3 1 (.slice none 0 0) 0 (ints []):=own_nil;have fw:=Ext.refl w;refine c_lp [(3,5),(9,22)] (fun kk e W=>∃ x:Nat,∃ ds:List Nat,∃ vv:Value,(x=kk)∧(e 4=.int .i64 (sgn ng x))∧(e 3=vv)∧(toB 10 x0=ds ++ toB 10 x)∧(x≤100000000)∧(Ext w W)∧(W.ownsRow w.heap.size 3 1 vv ds.length (ints ds))) ((x0)) ⟨x0,[],.slice none 0 0,rfl,rfl,rfl,rfl,hx0,fw,own0⟩ ?_;rintro _ _ _ ⟨x,ds,vv,rfl,fe,fg,q1,q2,ac,ho⟩;have gk:=bz ac;by_cases hx:x=0;rw [hx,toB_zero,List.append_nil] at q1;obtain ⟨_,_,rfl,hdg⟩:=dg_own ho q1.symm;have uhdg:=hdg.row.hi;have hln:ds.length≤9:=by rw [← q1]; exact hl7
 have zq1q:=show sgn ng x=0 from sgn_zero.2 hx;refine go ?_;refine clb en97 (hc:=r3text_ok hdg om (decide ((sgn ng x0)<0))) (hk:=?_);rintro _ _ fk rfl;have ac:=xt ac fk.2;refine go ?_;exact f_ret1 (t:=2) (v:=S (txtR (decide ((sgn ng x0)<0)) x0)) rfl ac (by rw [fi_fin hng]) rfl;by_cases hd:ng=true∧0<x % 10;rw [toB_step hx] at q1;have hlq:=congrArg List.length q1;rw [List.length_append,List.length_cons] at hlq;have zq2q:=show ¬ sgn ng x=0 from fun h=>hx (sgn_zero.1 h);refine go ?_;refine l_op (k_remT (a:=sgn ng x) (b:=10) (c:=sgn ng (x % 10)) rfl rfl dc (by rw [tmod_sgn]) ?_);have zq3q:=(sgn_d1 hd).1;refine go ?_;refine l_op (k_neg (a:=sgn ng (x % 10)) rfl (by have:=@sgn_bd ng (x % 10); unfold In64; omega) ?_);rw [(sgn_d1 hd).2];refine go ?_;refine l_op (k_move (v:=vv) fg ?_);refine go ?_;refine BS (fun _ fh _ f6=>?_);have gu:=own_ne_new ho;have ho:=own_ext fh ho;have ac:=xt ac fh;have gv:=bz fh;refine AP ho (Rw.of_own f6) (fun fm _ f7 fo _=>?_);have ac:=low_app ho om om ac fo;have gz:=fo.size;refine l_op (k_assign (v:=fm) rfl ?_);refine go ?_;refine l_op (k_quoT (a:=sgn ng x) (b:=10) (c:=sgn ng (x / 10)) rfl rfl dc (tdiv_sgn _ _) (by have:=@sgn_bd ng (x / 10); unfold In64; omega) ?_);refine go ?_;exact lend ⟨x / 10,ds ++ [x % 10],fm,rfl,rfl,rfl,(by rw [List.append_assoc]; exact q1),om,ac,(own_cast f7 (by simp) (by rw [ints_snoc]))⟩
 rw [toB_step hx] at q1;have hlq:=congrArg List.length q1;rw [List.length_append,List.length_cons] at hlq;have zq4q:=show ¬ sgn ng x=0 from fun h=>hx (sgn_zero.1 h);refine go ?_;refine l_op (k_remT (a:=sgn ng x) (b:=10) (c:=((x % 10:Nat) : Int)) rfl rfl dc (by rw [tmod_sgn]; exact sgn_d2 hd) ?_);refine go ?_;refine l_op (k_move (v:=vv) fg ?_);refine go ?_;refine BS (fun _ fj _ gc=>?_);have g8:=own_ne_new ho;have ho:=own_ext fj ho;have ac:=xt ac fj;have g9:=bz fj;refine AP ho (Rw.of_own gc) (fun fp _ gd fq _=>?_);have ac:=low_app ho om om ac fq;have ie:=fq.size;refine l_op (k_assign (v:=fp) rfl ?_);refine go ?_;refine l_op (k_quoT (a:=sgn ng x) (b:=10) (c:=sgn ng (x / 10)) rfl rfl dc (tdiv_sgn _ _) (by have:=@sgn_bd ng (x / 10); unfold In64; omega) ?_);refine go ?_;exact lend ⟨x / 10,ds ++ [x % 10],fp,rfl,rfl,rfl,(by rw [List.append_assoc]; exact q1),om,ac,(own_cast gd (by simp) (by rw [ints_snoc]))⟩
theorem fromInt_ok (n : Int) (w : World) (h : -100000000 ≤ n ∧ n ≤ 100000000) : Calls Tryz.prog 54 #[.int .i64 n] w (Ret w fun v _ => v = S (showI n)) := by
  obtain ⟨ng,x,rfl,h1,h2⟩:=sgn_ex n
  exact fromInt_ok0 h1 (by have:=natAbs_sgn ng x; omega)
theorem pick16_ok (c m:Int)(w:World)(hc:In64 c)(hm:0<m) :
    Calls Tryz.prog 25 #[.int .i64 c,.int .i64 m] w (Ret w fun v w'=>v=.int .i64 (pickI c m)):=by
 unfold In64 at hc;refine f_in Tryz.func25 rfl ?_;refine go ?_;by_cases ac:c<0;refine go ?_;refine adi ?_;refine l_op (k_neg (a:=c+1) rfl (by unfold In64; omega) ?_);refine go ?_;refine l_op (k_rem (a:=-(c+1)) (b:=m) (c:=pickI c m) rfl rfl om om (pick_neg ac) ?_);refine go ?_;exact f_ret1 (t:=4) (v:=.int .i64 (pickI c m)) rfl (Ext.refl _) rfl rfl;refine go ?_;refine l_op (k_rem (a:=c) (b:=m) (c:=pickI c m) rfl rfl om om (pick_pos ac) ?_);refine go ?_;exact f_ret1 (t:=4) (v:=.int .i64 (pickI c m)) rfl (Ext.refl _) rfl rfl
theorem pickL16_ok (c m:Int)(w:World)(hc:In64 c)(hm:0<m) :
    Calls Tryz.prog 10 #[.int .i64 c,.int .i64 m] w (Ret w fun v w'=>v=.int .i64 (pickI c m)):=by
 unfold In64 at hc;refine f_in Tryz.func10 rfl ?_;refine go ?_;by_cases ac:c<0;refine go ?_;refine adi ?_;refine l_op (k_neg (a:=c+1) rfl (by unfold In64; omega) ?_);refine go ?_;refine l_op (k_rem (a:=-(c+1)) (b:=m) (c:=pickI c m) rfl rfl om om (pick_neg ac) ?_);refine go ?_;exact f_ret1 (t:=4) (v:=.int .i64 (pickI c m)) rfl (Ext.refl _) rfl rfl;refine go ?_;refine l_op (k_rem (a:=c) (b:=m) (c:=pickI c m) rfl rfl om om (pick_pos ac) ?_);refine go ?_;exact f_ret1 (t:=4) (v:=.int .i64 (pickI c m)) rfl (Ext.refl _) rfl rfl
theorem of_ok (n m:Int)(w:World) (hn : -100000000≤n∧n≤100000000) (hm : -100000000≤m∧m≤100000000) :
    Calls Tryz.prog 26 #[.int .i64 n,.int .i64 m] w (Ret w fun v w'=>v=resR (mk4 (showI n) (showI m))):=by
 refine f_in Tryz.func26 rfl ?_;refine go ?_;refine al inf36 (fun _ fm fe=>?_);have ac:=fm.2;refine go ?_;refine clb en73 (hc:=fromInt_ok n _ om) (hk:=?_);rintro _ _ fg rfl;have ⟨fe,ac⟩:=be1 fg.2 fe ac;refine go ?_;refine clb en73 (hc:=fromInt_ok m _ om) (hk:=?_);rintro _ _ fh rfl;have ⟨fe,ac⟩:=be1 fh.2 fe ac;refine clb en72 (hc:=r4Make_ok (showI n) (showI m) _ (len_small om) (len_small om)) (hk:=?_);rintro _ _ fj rfl;have ⟨fe,ac⟩:=be1 fj.2 fe ac;refine go ?_;refine SA fe (fun _ fk fo=>?_);have ac:=plw fk ac;have gi:=psz fk;refine go ?_;refine f_out (v:=.tuple #[.agg #[S (rN (mk4 (showI n) (showI m))),S (rD (mk4 (showI n) (showI m)))],.int .i64 (rER (mk4 (showI n) (showI m)))]) (res2 (r1:=.cell 4 25) (r2:=.tmp 5) rfl ?_ ?_) ac rfl;refine res_cellA (t:=4) (cs:=[S (rN (mk4 (showI n) (showI m))),S (rD (mk4 (showI n) (showI m)))]) (b:=w.heap.size) (o:=0) U36 rfl sz36 ?_ ?_;exact rfl;exact Blk.cells fo (i:=0) rfl;exact res_tmp (t:=5) (by exact rfl) _
theorem fits_small {n:Int}(h : -100000000≤n∧n≤100000000) : fits n=true:=(Q9.fz (a:=n) (b:=1) ⟨Nat.lt_of_le_of_lt (show n.natAbs≤100000000 by omega) dc,by decide,by decide⟩).1.fits
theorem mk4_q {n m:Int}(hn : -100000000≤n∧n≤100000000)(hm:0<m∧m≤100000000) : mk4 (showI n) (showI m)=some (qR n m):=by
  unfold mk4
  rw [isInt_showI (fits_small hn),isInt_showI (fits_small (n:=m) om),valZ_showI,valZ_showI]
  rw [show (true && true)=true from rfl,if_pos rfl]
  unfold makeR qR
  rw [if_neg (show ¬ m=0 by omega)]
theorem of_q {n m : Int} {w : World} (hn : -100000000 ≤ n ∧ n ≤ 100000000) (hm : 0 < m ∧ m ≤ 100000000) : Calls Tryz.prog 26 #[.int .i64 n, .int .i64 m] w (Ret w fun v _ => v = .tuple #[.agg #[S (qR n m).1, S (qR n m).2], .int .i64 0]) := by
  have h:=of_ok n m w hn om
  rw [mk4_q hn hm] at h
  exact h
theorem l16of_ok {n m:Int}{w:World}(hn : -100000000≤n∧n≤100000000)(hm:0<m∧m≤100000000) :
    Calls Tryz.prog 14 #[.int .i64 n,.int .i64 m] w (Ret w fun v w'=>v=.agg #[S (qR n m).1,S (qR n m).2]):=by
 refine f_in Tryz.func14 rfl ?_;refine go ?_;refine al inf36 (fun _ fo co=>?_);have ac:=fo.2;refine go ?_;refine cl en32 (of_q hn hm) ?_;rintro _ _ fk rfl;have ⟨co,ac⟩:=be1 fk.2 co ac;refine go ?_;refine al inf36 (fun _ fm fp=>?_);have ⟨co,ac⟩:=be1 fm.2 co ac;refine SA fp (fun _ fe fg=>?_);have ⟨co,ac,_⟩:=pl1 fe co ac;refine go ?_;refine SA co (fun _ fh fq=>?_);have ⟨fg,ac,_⟩:=pl1 fh fg ac;refine go ?_;refine f_out (v:=.agg #[S (qR n m).1,S (qR n m).2]) (res1  rfl ?_) ac rfl;refine res_cellA (t:=4) (cs:=[S (qR n m).1,S (qR n m).2]) (b:=w.heap.size) (o:=0) U36 rfl sz36 ?_ ?_;exact rfl;exact Blk.cells fq (i:=0) rfl
theorem l16rule_ok {kd ga gb ra rb:Int}{w:World} :
    Calls Tryz.prog 23 #[.int .i64 kd,.agg #[S (qR ga gb).1,S (qR ga gb).2],.agg #[S (qR ra rb).1,S (qR ra rb).2]] w (Ret w fun v w'=>v=.agg #[.int .i64 kd,S ((qR (-2) 1).1),S ((qR (-2) 1).2),S (qR 2 1).1,S (qR 2 1).2,S (qR ga gb).1,S (qR ga gb).2,S (qR ra rb).1,S (qR ra rb).2]):=by
 refine f_in Tryz.func23 rfl ?_;refine go ?_;refine bx (fun _ gv co=>?_);have ac:=gv.2;refine bx (fun fo f6 fj=>?_);have ⟨co,ac⟩:=be1 f6.2 co ac;refine al inf2027 (fun f7 fp gw=>?_);have ⟨co,fj,ac⟩:=be2 fp.2 co fj ac;refine go ?_;refine c_dv hmix 5 [7,8,9,10,11] [some (7,.int .i64 kd),some (8,.agg #[S ((qR (-2) 1).1),S ((qR (-2) 1).2)]),some (9,.agg #[S (qR 2 1).1,S (qR 2 1).2]),some (10,.agg #[S (qR ga gb).1,S (qR ga gb).2]),some (11,.agg #[S (qR ra rb).1,S (qR ra rb).2])] (XE f7) (Ext.drew f7) (by kernel_rfl) (by kernel_rfl) (by kernel_rfl) ?_ ?_;refine ⟨fun il _ _ gy _ gz _ _ _=>?_,?_⟩;obtain ⟨il,rfl⟩:=ovE gy;refine go ?_;exact dvE rfl gz (Ext.refl _);refine ⟨fun iv _ _ iy _ gc _ _ _=>?_,?_⟩;obtain ⟨iv,rfl⟩:=ovE iy;refine clb en2014 (hc:=l16of_ok om om) (hk:=?_);rintro _ _ gh rfl;refine go ?_;exact dvE rfl gc gh.2;refine ⟨fun jf _ _ ji _ gi _ _ _=>?_,?_⟩;obtain ⟨jf,rfl⟩:=ovE ji;refine clb en2014 (hc:=l16of_ok om om) (hk:=?_);rintro _ _ gk rfl;refine go ?_;exact dvE rfl gi gk.2;refine ⟨fun jp _ _ g6 _ gl _ _ _=>?_,?_⟩;obtain ⟨jp,rfl⟩:=ovE g6;have g7:=(be gl co);refine go ?_;exact dvE rfl gl (Ext.refl _);refine ⟨fun jw _ _ g8 _ gm _ _ _=>?_,?_⟩;obtain ⟨jw,rfl⟩:=ovE g8;have g9:=(be gm fj);refine go ?_;exact dvE rfl gm (Ext.refl _);exact trivial;intro fe _ _ _ ia fg fh;obtain ⟨fe,rfl⟩:=ovE ia;have fq:=(be fh co);have kb:=bt fq;have fw:=(be fh fj)
 have ke:=bt fw;have gp:=(be fh gw);have kf:=bt gp;have fk:=xt ac fh;have kg:=bz fk;have kh:=bz fh;have ic:fe 7=.int .i64 (kd):=(fg 0 _ _ rfl rfl);have ie:fe 8=.agg #[S ((qR (-2) 1).1),S ((qR (-2) 1).2)]:=(fg 1 _ _ rfl rfl);have ig:fe 9=.agg #[S (qR 2 1).1,S (qR 2 1).2]:=(fg 2 _ _ rfl rfl);have ii:fe 10=.agg #[S (qR ga gb).1,S (qR ga gb).2]:=(fg 3 _ _ rfl rfl);have ij:fe 11=.agg #[S (qR ra rb).1,S (qR ra rb).2]:=(fg 4 _ _ rfl rfl);refine l_op (k_build (vs:=[(0,.int .i64 kd),(1,.agg #[S ((qR (-2) 1).1),S ((qR (-2) 1).2)]),(2,.agg #[S (qR 2 1).1,S (qR 2 1).2]),(3,.agg #[S (qR ga gb).1,S (qR ga gb).2]),(4,.agg #[S (qR ra rb).1,S (qR ra rb).2])]) (cells:=#[.int .i64 kd,S ((qR (-2) 1).1),S ((qR (-2) 1).2),S (qR 2 1).1,S (qR 2 1).2,S (qR ga gb).1,S (qR ga gb).2,S (qR ra rb).1,S (qR ra rb).2]) (pl:=[(0,1),(1,2),(3,2),(5,2),(7,2)]) U2027 inf2027 (by kernel_rfl) (cons_eqp ic (cons_eqp ie (cons_eqp ig (cons_eqp ii (cons_eqp ij rfl))))) (by kernel_rfl) ?_);refine l_op (k_storeA (b:=fo.heap.size) (o:=0) (vs:=[.int .i64 kd,S ((qR (-2) 1).1),S ((qR (-2) 1).2),S (qR 2 1).1,S (qR 2 1).2,S (qR ga gb).1,S (qR ga gb).2,S (qR ra rb).1,S (qR ra rb).2]) sz2027 rfl rfl (by simp [Value.oneCell',S]) gp (Nat.le_of_ble_eq_true rfl) (fun _ fm ik=>?_));have ⟨fq,fw,fk,_⟩:=pl2 fm fq fw fk;refine go ?_
 refine f_out (v:=.agg #[.int .i64 kd,S ((qR (-2) 1).1),S ((qR (-2) 1).2),S (qR 2 1).1,S (qR 2 1).2,S (qR ga gb).1,S (qR ga gb).2,S (qR ra rb).1,S (qR ra rb).2]) (res1  rfl ?_) fk rfl;refine res_cellA (t:=6) (cs:=[.int .i64 kd,S ((qR (-2) 1).1),S ((qR (-2) 1).2),S (qR 2 1).1,S (qR 2 1).2,S (qR ga gb).1,S (qR ga gb).2,S (qR ra rb).1,S (qR ra rb).2]) (b:=fo.heap.size) (o:=0) U2027 rfl sz2027 ?_ ?_;exact rfl;exact Blk.cells ik (i:=0) rfl
theorem krDl3 {p : Prop} (h : p:=by kernel_rfl) : p:=h
theorem erDl3 {w:World}:Ext w w:=Ext.refl _
theorem q_len {a b:Int}(h:Q9 a b) : (qR a b).1.length≤1000000∧(qR a b).2.length≤1000000:=by
  have h1:=len_showI (h.red.fz.1.fits)
  have h2:=len_showI (h.red.fz.2.fits)
  unfold qR
  exact ⟨by dsimp only; omega,by dsimp only; omega⟩
theorem add_q4 {a b c d e f : Int} {w : World} (h1 : Q9 a b) (h2 : Q9 c d) (he : qR (a * d + c * b) (b * d) = qR e f) : Calls Tryz.prog 27 #[.agg #[S (qR a b).1, S (qR a b).2], .agg #[S (qR c d).1, S (qR c d).2]] w (Ret w fun v _ => v = .tuple #[.agg #[S (qR e f).1, S (qR e f).2], .int .i64 0]) := by
  have h:=r4Add_ok (qR a b).1 (qR a b).2 (qR c d).1 (qR c d).2 w (q_len h1).1 (q_len h1).2 (q_len h2).1 (q_len h2).2
  rw [show addR ((qR a b).1,(qR a b).2) ((qR c d).1,(qR c d).2)=some (qR (a*d+c*b) (b*d)) from addR_q h1 h2,he] at h
  exact h
theorem mul_q4 {a b c d e f : Int} {w : World} (h1 : Q9 a b) (h2 : Q9 c d) (he : mulR (qR a b) (qR c d) = some (qR e f)) : Calls Tryz.prog 28 #[.agg #[S (qR a b).1, S (qR a b).2], .agg #[S (qR c d).1, S (qR c d).2]] w (Ret w fun v _ => v = .tuple #[.agg #[S (qR e f).1, S (qR e f).2], .int .i64 0]) := by
  have h:=r4Mul_ok (qR a b).1 (qR a b).2 (qR c d).1 (qR c d).2 w (q_len h1).1 (q_len h1).2 (q_len h2).1 (q_len h2).2
  rw [show mulR ((qR a b).1,(qR a b).2) ((qR c d).1,(qR c d).2)=some (qR e f) from he] at h
  exact h
theorem cEqZ {f:FuncId}{a:Array Value}{w:World}{x y:Int}(h:Calls Tryz.prog f a w (Ret w fun v _=>v=.int .i64 x))(e:x=y) : Calls Tryz.prog f a w (Ret w fun v _=>v=.int .i64 y):=e ▸ h
theorem of_qE {n m a b:Int}{w:World}(hn : -100000000≤n∧n≤100000000)(hm:0<m∧m≤100000000)(e:qR n m=qR a b) : Calls Tryz.prog 26 #[.int .i64 n,.int .i64 m] w (Ret w fun v _=>v=.tuple #[.agg #[S (qR a b).1,S (qR a b).2],.int .i64 0]):=e ▸ of_q hn hm
theorem inf2029:Inf Tryz.prog 29 (.agg #[.int .i64 0,S [],S [],S [],S [],S [],S [],S [],S [],S [],S [],S [],S []]) 13 200:=by unfold Inf; kernel_rfl
set_option maxRecDepth 100000 in
theorem make16_ok {x0 x1 x2 x3 x4 x5 x6 p0 p1 p2 p3 p4 p5 p6 p7 q2 q4 ha hb ma mb va vb gn gd:Int}{w:World}(hx0:In64 x0)(hx1:In64 x1)(hx2:In64 x2)(hx3:In64 x3)(hx4:In64 x4)(hx5:In64 x5)(hx6:In64 x6)(ep0:pickI x0 3=p0)(ep1:pickI x1 41=p1)(ep2:pickI x2 40=p2)(ep3:pickI x3 (1+q2)=p3)(ep4:pickI x4 101=p4)(ep5:pickI q4 3=p5)(ep6:pickI x5 30=p6)(ep7:pickI x6 61=p7)(eq2:(1+p2).tdiv 2=q2)(eq4:x4.tdiv 101=q4)(hq4:In64 q4)(b0:0≤p0∧p0<3)(b1:0≤p1∧p1<41)(b2:0≤p2∧p2<40)(b3:0≤p3∧p3<30)(b4:0≤p4∧p4<101)(b5:0≤p5∧p5<3)(b6:0≤p6∧p6<30)(b7:0≤p7∧p7<61)(c2:0≤q2∧q2≤20)(ql:Q9 (p1 - 20) 10)(qw:Q9 (1+p2) 10)(qd:Q9 (p7 - 10) 40)(qm:Q9 ma mb)(hH:qR ((p1 - 20)*10+(1+p2)*10) (10*10)=qR ha hb)(hM:mulR (qR (1+p2) 10) (qR (p7 - 10) 40)=some (qR ma mb))(hR:qR ((p1 - 20)*mb+ma*10) (10*mb)=qR va vb)(hS:p0=0→qR 0 1=qR gn gd)(hG:p0≠0→qR p3 10=qR gn gd) :
    Calls Tryz.prog 9 #[.agg #[.int .i64 x0,.int .i64 x1,.int .i64 x2,.int .i64 x3,.int .i64 x4,.int .i64 x5,.int .i64 x6]] w (Ret w fun v w'=>v=.agg #[.int .i64 (1+p0),S ((qR (p1 - 20) 10).1),S ((qR (p1 - 20) 10).2),S (qR ha hb).1,S (qR ha hb).2,S (qR gn gd).1,S (qR gn gd).2,S ((qR p4 (100+400*p5)).1),S ((qR p4 (100+400*p5)).2),S (qR va vb).1,S (qR va vb).2,S ((qR (1+p6) 20).1),S ((qR (1+p6) 20).2)]):=by
 refine f_in Tryz.func9 rfl ?_;refine go ?_;refine bx (fun ik lg fe=>?_);have fg:=lg.2;refine al inf2029 (fun co jl fh=>?_);have ⟨fe,fg⟩:=be1 jl.2 fe fg;refine go ?_;refine l_op (k_build (vs:=[]) (cells:=#[.int .i64 0,S ([]),S ([]),S ([]),S ([]),S ([]),S ([]),S ([]),S ([]),S ([]),S ([]),S ([]),S ([])]) (pl:=[(0,9),(9,2),(11,2)]) U2029 inf2029 krDl3 rfl krDl3 ?_);refine al inf2029 (fun _ ja li=>?_);have ⟨fe,fh,fg⟩:=be2 ja.2 fe fh fg;refine l_op (k_storeA (b:=co.heap.size) (o:=0) (vs:=[.int .i64 0,S ([]),S ([]),S ([]),S ([]),S ([]),S ([]),S ([]),S ([]),S ([]),S ([]),S ([]),S ([])]) sz2029 rfl rfl (by simp [Value.oneCell',S]) li (Nat.le_of_ble_eq_true rfl) (fun _ il jb=>?_));have ⟨fe,fh,fg,_⟩:=pl2 il fe fh fg;refine go ?_;refine l_op (k_arrAddr (m:=7) (b:=w.heap.size) (o:=0) (i:=0) (oo:=0) U2022 sz3 rfl rfl dc rfl ?_);refine go ?_;refine clb en2025 (hc:=cEqZ (pick16_ok x0 3 _ hx0 om) ep0) (hk:=?_);rintro _ _ im rfl;have ⟨fe,fh,jb,fg⟩:=be3 im.2 fe fh jb fg;refine adi ?_;refine l_op (k_fieldAddr (b:=co.heap.size) (o:=0) (off:=0) (oo:=0) U2029 rfl rfl sz2027 rfl rfl ?_);refine l_op (k_fieldAddr (b:=co.heap.size) (o:=0) (off:=0) (oo:=0) U2027 rfl rfl sz3 rfl rfl ?_);refine SO jb (fun _ io gw=>?_);have ⟨fe,fh,fg,_⟩:=pl2 io fe fh fg;refine go ?_
 refine l_op (k_arrAddr (m:=7) (b:=w.heap.size) (o:=0) (i:=1) (oo:=1) U2022 sz3 rfl rfl dc rfl ?_);refine go ?_;refine clb en2025 (hc:=cEqZ (pick16_ok x1 41 _ hx1 om) ep1) (hk:=?_);rintro _ _ ip rfl;have ⟨fe,fh,gw,fg⟩:=be3 ip.2 fe fh gw fg;refine sui ?_;refine clb en32 (hc:=of_q om om) (hk:=?_);rintro _ _ iq rfl;have ⟨fe,fh,gw,fg⟩:=be3 iq.2 fe fh gw fg;refine go ?_;refine l_op (k_fieldAddr (b:=co.heap.size) (o:=0) (off:=0) (oo:=0) U2029 rfl rfl sz2027 rfl rfl ?_);refine l_op (k_fieldAddr (b:=co.heap.size) (o:=0) (off:=1) (oo:=1) U2027 rfl rfl sz36 rfl rfl ?_);refine SA gw (fun _ ir f6=>?_);have ⟨fe,fh,fg,_⟩:=pl2 ir fe fh fg;refine go ?_;refine l_op (k_arrAddr (m:=7) (b:=w.heap.size) (o:=0) (i:=2) (oo:=2) U2022 sz3 rfl rfl dc rfl ?_);refine go ?_;refine clb en2025 (hc:=cEqZ (pick16_ok x2 40 _ hx2 om) ep2) (hk:=?_);rintro _ _ iu rfl;have ⟨fe,fh,f6,fg⟩:=be3 iu.2 fe fh f6 fg;refine adi ?_;refine clb en32 (hc:=of_q om om) (hk:=?_);rintro _ gy iv rfl;have ⟨fe,fh,f6,fg⟩:=be3 iv.2 fe fh f6 fg;refine go ?_;refine al inf36 (fun _ iw lj=>?_);have ⟨fe,fh,f6,fg⟩:=be3 iw.2 fe fh f6 fg;refine SA lj (fun _ gz fq=>?_);have ⟨fe,fh,f6,fg,_⟩:=pl3 gz fe fh f6 fg;refine go ?_;refine l_op (k_fieldAddr (b:=co.heap.size) (o:=0) (off:=0) (oo:=0) U2029 rfl rfl sz2027 rfl rfl ?_);refine l_op (k_fieldAddr (b:=co.heap.size) (o:=0) (off:=1) (oo:=1) U2027 rfl rfl sz36 rfl rfl ?_);refine go ?_
 refine cl en71 (add_q4 ql qw hH) ?_;rintro _ _ g6 rfl;have ⟨fe,fh,f6,fq,fg⟩:=be4 g6.2 fe fh f6 fq fg;refine go ?_;refine l_op (k_fieldAddr (b:=co.heap.size) (o:=0) (off:=0) (oo:=0) U2029 rfl rfl sz2027 rfl rfl ?_);refine l_op (k_fieldAddr (b:=co.heap.size) (o:=0) (off:=3) (oo:=3) U2027 rfl rfl sz36 rfl rfl ?_);refine SA f6 (fun _ g7 jc=>?_);have ⟨fe,fh,fq,fg,_⟩:=pl3 g7 fe fh fq fg;refine go ?_;refine clb en32 (hc:=of_q om om) (hk:=?_);rintro _ _ g8 rfl;have ⟨fe,fh,jc,fq,fg⟩:=be4 g8.2 fe fh jc fq fg;refine go ?_;refine l_op (k_fieldAddr (b:=co.heap.size) (o:=0) (off:=0) (oo:=0) U2029 rfl rfl sz2027 rfl rfl ?_);refine l_op (k_fieldAddr (b:=co.heap.size) (o:=0) (off:=5) (oo:=5) U2027 rfl rfl sz36 rfl rfl ?_);refine SA jc (fun jm g9 jd=>?_);have ⟨fe,fh,fq,fg,_⟩:=pl3 g9 fe fh fq fg;refine go ?_;refine l_op (k_fieldAddr (b:=co.heap.size) (o:=0) (off:=0) (oo:=0) U2029 rfl rfl sz2027 rfl rfl ?_);refine l_op (k_fieldAddr (b:=co.heap.size) (o:=0) (off:=0) (oo:=0) U2027 rfl rfl sz3 rfl rfl ?_);refine go ?_
 refine c_jn [(55,69)] (fun e W=>(Ext w W)∧(jm.heap.size≤W.heap.size)∧(Blk W (w.heap.size) 22 #[.int .i64 x0,.int .i64 x1,.int .i64 x2,.int .i64 x3,.int .i64 x4,.int .i64 x5,.int .i64 x6])∧(Blk W (ik.heap.size) 29 #[.int .i64 0,S ([]),S ([]),S ([]),S ([]),S ([]),S ([]),S ([]),S ([]),S ([]),S ([]),S ([]),S ([])])∧(Blk W (gy.heap.size) 25 #[S ((qR (1+p2) 10).1),S ((qR (1+p2) 10).2)])∧(Blk W (co.heap.size) 29 #[.int .i64 (1+p0),S ((qR (p1 - 20) 10).1),S ((qR (p1 - 20) 10).2),S (qR ha hb).1,S (qR ha hb).2,S (qR gn gd).1,S (qR gn gd).2,S ([]),S ([]),S ([]),S ([]),S ([]),S ([])])) ?_ ?_;by_cases jn:(1+p0)=1;refine go ?_;exact jend ⟨fg,om,fe,fh,fq,(by rw [← hS om]; exact jd)⟩;refine go ?_
 refine c_dv hmix 16 [55,56,57,58,59,60,61,62,63,64,65,66,67,68,69] [some (56,.pointer (some ⟨w.heap.size,3,none⟩)),some (57,.int .i64 x3),some (58,.pointer (some ⟨w.heap.size,2,none⟩)),some (59,.int .i64 x2),some (60,.int .i64 p2),some (61,.int .i64 (1+p2)),some (62,.int .i64 q2),some (63,.int .i64 (1+q2)),some (64,.int .i64 p3),some (65,.tuple #[.agg #[S (qR gn gd).1,S (qR gn gd).2],.int .i64 0]),some (55,.tuple #[.agg #[S (qR gn gd).1,S (qR gn gd).2],.int .i64 0]),some (66,.agg #[S (qR gn gd).1,S (qR gn gd).2]),some (67,.int .i64 0),some (68,.pointer (some ⟨co.heap.size,0,none⟩)),some (69,.pointer (some ⟨co.heap.size,5,none⟩)),none] (XW jm (co.heap.size) 15 29 #[.int .i64 (1+p0),S ((qR (p1 - 20) 10).1),S ((qR (p1 - 20) 10).2),S (qR ha hb).1,S (qR ha hb).2,S (qR 0 1).1,S (qR 0 1).2,S ([]),S ([]),S ([]),S ([]),S ([]),S ([])] #[.int .i64 (1+p0),S ((qR (p1 - 20) 10).1),S ((qR (p1 - 20) 10).2),S (qR ha hb).1,S (qR ha hb).2,S (qR gn gd).1,S (qR gn gd).2,S ([]),S ([]),S ([]),S ([]),S ([]),S ([])]) (XW.start jd) krDl3 krDl3 krDl3 ?_ ?_;refine ⟨fun tw _ _ lk _ ll _ _ _=>?_,?_⟩;obtain ⟨tw,rfl⟩:=ovE lk;refine l_op (k_arrAddr (m:=7) (b:=w.heap.size) (o:=0) (i:=3) (oo:=3) U2022 sz3 rfl rfl dc rfl ?_);refine go ?_;exact dvW rfl ll erDl3;refine ⟨fun ln _ _ ug lu jo _ _ _=>?_,?_⟩
 obtain ⟨ln,rfl⟩:=ovE ug;have lv:ln 56=.pointer (some ⟨w.heap.size,3,none⟩):=lu 0 _ _ rfl rfl;have lw:=(Blk.gr jo.1 (by simp; omega) fe);refine go ?_;exact dvW rfl jo erDl3;refine ⟨fun uk _ _ lx _ lz _ _ _=>?_,?_⟩;obtain ⟨uk,rfl⟩:=ovE lx;refine l_op (k_arrAddr (m:=7) (b:=w.heap.size) (o:=0) (i:=2) (oo:=2) U2022 sz3 rfl rfl dc rfl ?_);refine go ?_;exact dvW rfl lz erDl3;refine ⟨fun l0 _ _ uw l9 jp _ _ _=>?_,?_⟩;obtain ⟨l0,rfl⟩:=ovE uw;have mc:l0 58=.pointer (some ⟨w.heap.size,2,none⟩):=l9 2 _ _ rfl rfl;have me:=(Blk.gr jp.1 (by simp; omega) fe);refine go ?_;exact dvW rfl jp erDl3;refine ⟨fun mf _ _ u5 mg jq _ _ _=>?_,?_⟩;obtain ⟨mf,rfl⟩:=ovE u5;have mh:mf 59=.int .i64 (x2):=mg 3 _ _ rfl rfl;refine clb en2025 (hc:=cEqZ (pick16_ok x2 40 _ hx2 om) ep2) (hk:=?_) (hv:=cons_eq mh (cons_eq rfl rfl));rintro _ _ js rfl;refine go ?_;exact dvW rfl jq js.2;refine ⟨fun mi _ _ vi mj ml _ _ _=>?_,?_⟩;obtain ⟨mi,rfl⟩:=ovE vi;have mm:mi 60=.int .i64 (p2):=mj 4 _ _ rfl rfl;refine adi ?_;refine go ?_;exact dvW rfl ml erDl3;refine ⟨fun mo _ _ vo mu mv _ _ _=>?_,?_⟩;obtain ⟨mo,rfl⟩:=ovE vo;have mw:mo 61=.int .i64 (1+p2):=mu 5 _ _ rfl rfl;refine l_op (k_quoT (a:=1+p2) (b:=2) (c:=q2) mw rfl dc eq2 (by unfold In64; omega) ?_);refine go ?_;exact dvW rfl mv erDl3;refine ⟨fun mx _ _ vx my mz _ _ _=>?_,?_⟩;obtain ⟨mx,rfl⟩:=ovE vx
 have m5:mx 62=.int .i64 (q2):=my 6 _ _ rfl rfl;refine adi ?_;refine go ?_;exact dvW rfl mz erDl3;refine ⟨fun jt _ _ we ju jv _ _ _=>?_,?_⟩;obtain ⟨jt,rfl⟩:=ovE we;have m6:jt 57=.int .i64 (x3):=ju 1 _ _ rfl rfl;have m7:jt 63=.int .i64 (1+q2):=ju 7 _ _ rfl rfl;refine clb en2025 (hc:=cEqZ (pick16_ok x3 (1+q2) _ hx3 om) ep3) (hk:=?_) (hv:=cons_eq m6 (cons_eq m7 rfl));rintro _ _ jx rfl;refine go ?_;exact dvW rfl jv jx.2;refine ⟨fun m8 _ _ wn m9 jy _ _ _=>?_,?_⟩;obtain ⟨m8,rfl⟩:=ovE wn;have nc:m8 64=.int .i64 (p3):=m9 8 _ _ rfl rfl;refine clb en32 (hc:=of_qE om om (hG om)) (hk:=?_) (hv:=cons_eq nc (cons_eq rfl rfl));rintro _ _ j5 rfl;refine go ?_;exact dvW rfl jy j5.2;refine ⟨fun nd _ _ wx nf nh _ _ _=>?_,?_⟩;obtain ⟨nd,rfl⟩:=ovE wx;have ni:nd 65=.tuple #[.agg #[S (qR gn gd).1,S (qR gn gd).2],.int .i64 0]:=nf 9 _ _ rfl rfl;refine go ?_;exact dvW rfl nh erDl3;refine ⟨fun nj _ _ xg nk nl _ _ _=>?_,?_⟩;obtain ⟨nj,rfl⟩:=ovE xg;have nn:nj 55=.tuple #[.agg #[S (qR gn gd).1,S (qR gn gd).2],.int .i64 0]:=nk 10 _ _ rfl rfl;refine go ?_;exact dvW rfl nl erDl3;refine ⟨fun nu _ _ xm nw nz _ _ _=>?_,?_⟩;obtain ⟨nu,rfl⟩:=ovE xm;have n4:nu 55=.tuple #[.agg #[S (qR gn gd).1,S (qR gn gd).2],.int .i64 0]:=nw 10 _ _ rfl rfl;refine go ?_;exact dvW rfl nz erDl3;refine ⟨fun xq _ _ n6 _ n7 _ _ _=>?_,?_⟩;obtain ⟨xq,rfl⟩:=ovE n6
 refine l_op (k_fieldAddr (b:=co.heap.size) (o:=0) (off:=0) (oo:=0) U2029 rfl rfl sz2027 rfl rfl ?_);refine go ?_;exact dvW rfl n7 erDl3;refine ⟨fun n8 _ _ x8 n9 oa _ _ _=>?_,?_⟩;obtain ⟨n8,rfl⟩:=ovE x8;have oc:n8 68=.pointer (some ⟨co.heap.size,0,none⟩):=n9 13 _ _ rfl rfl;refine l_op (k_fieldAddr (b:=co.heap.size) (o:=0) (off:=5) (oo:=5) U2027 rfl rfl sz36 rfl oc ?_);refine go ?_;exact dvW rfl oa erDl3;refine ⟨fun j6 _ _ yg j7 je _ oe _=>?_,?_⟩;obtain ⟨j6,rfl⟩:=ovE yg;have og:j6 66=.agg #[S (qR gn gd).1,S (qR gn gd).2]:=j7 11 _ _ rfl rfl;have oh:j6 69=.pointer (some ⟨co.heap.size,5,none⟩):=j7 14 _ _ rfl rfl;have jf:=low_gr fg je.1 (bz fg) (fun g hgg=>by cases hgg; omega);have yj:=bz jf;have oi:=XW.opn je oe;refine SA oi (fun _ jg ol=>?_);have ym:=psz jg;refine go ?_;exact dvWs (.inr rfl) je jg ol;exact trivial;intro yn _ _ ot yq _ gl;obtain ⟨yn,rfl⟩:=ovE yq;have j8:=(Blk.gr gl.1 (by simp; omega) fe);have yt:=bt j8;have j9:=(Blk.gr gl.1 (by simp; omega) fh);have yu:=bt j9;have ka:=(Blk.gr gl.1 (by simp; omega) fq);have yv:=bt ka;have kb:=low_gr fg gl.1 (bz fg) (fun g hgg=>by cases hgg; omega);have yw:=bz kb;have yx:=gl.1.size;have ke:=XW.fin gl (ot 15 rfl);have yy:=bt ke;refine go ?_;exact jend ⟨kb,om,j8,j9,ka,ke⟩;rintro _ ou ⟨f7,y5,fe,fh,fq,ow⟩;have y6:=bz f7;refine go ?_
 refine c_dv hmix 16 [70,71,72,73,74,75,76,77,78,79,80,81,82,83,84] [some (71,.pointer (some ⟨w.heap.size,4,none⟩)),some (72,.int .i64 x4),some (73,.int .i64 p4),some (74,.pointer (some ⟨w.heap.size,4,none⟩)),some (75,.int .i64 x4),some (76,.int .i64 q4),some (77,.int .i64 p5),some (78,.int .i64 (400*p5)),some (79,.int .i64 (100+(400*p5))),some (80,.tuple #[.agg #[S ((qR p4 (100+(400*p5))).1),S ((qR p4 (100+(400*p5))).2)],.int .i64 0]),some (70,.tuple #[.agg #[S ((qR p4 (100+(400*p5))).1),S ((qR p4 (100+(400*p5))).2)],.int .i64 0]),some (81,.agg #[S ((qR p4 (100+(400*p5))).1),S ((qR p4 (100+(400*p5))).2)]),some (82,.int .i64 0),some (83,.pointer (some ⟨co.heap.size,0,none⟩)),some (84,.pointer (some ⟨co.heap.size,7,none⟩)),none] (XW ou (co.heap.size) 15 29 #[.int .i64 (1+p0),S ((qR (p1 - 20) 10).1),S ((qR (p1 - 20) 10).2),S (qR ha hb).1,S (qR ha hb).2,S (qR gn gd).1,S (qR gn gd).2,S ([]),S ([]),S ([]),S ([]),S ([]),S ([])] #[.int .i64 (1+p0),S ((qR (p1 - 20) 10).1),S ((qR (p1 - 20) 10).2),S (qR ha hb).1,S (qR ha hb).2,S (qR gn gd).1,S (qR gn gd).2,S ((qR p4 (100+(400*p5))).1),S ((qR p4 (100+(400*p5))).2),S ([]),S ([]),S ([]),S ([])]) (XW.start ow) krDl3 krDl3 krDl3 ?_ ?_;refine ⟨fun y7 _ _ ox _ oy _ _ _=>?_,?_⟩;obtain ⟨y7,rfl⟩:=ovE ox
 refine l_op (k_arrAddr (m:=7) (b:=w.heap.size) (o:=0) (i:=4) (oo:=4) U2022 sz3 rfl rfl dc rfl ?_);refine go ?_;exact dvW rfl oy erDl3;refine ⟨fun oz _ _ zh o0 kf _ _ _=>?_,?_⟩;obtain ⟨oz,rfl⟩:=ovE zh;have o5:oz 71=.pointer (some ⟨w.heap.size,4,none⟩):=o0 0 _ _ rfl rfl;have o6:=(Blk.gr kf.1 (by simp; omega) fe);refine go ?_;exact dvW rfl kf erDl3;refine ⟨fun o7 _ _ zp o8 kg _ _ _=>?_,?_⟩;obtain ⟨o7,rfl⟩:=ovE zp;have o9:o7 72=.int .i64 (x4):=o8 1 _ _ rfl rfl;refine clb en2025 (hc:=cEqZ (pick16_ok x4 101 _ hx4 om) ep4) (hk:=?_) (hv:=cons_eq o9 (cons_eq rfl rfl));rintro _ _ ki rfl;refine go ?_;exact dvW rfl kg ki.2;refine ⟨fun zw _ _ pc _ pf _ _ _=>?_,?_⟩;obtain ⟨zw,rfl⟩:=ovE pc;refine l_op (k_arrAddr (m:=7) (b:=w.heap.size) (o:=0) (i:=4) (oo:=4) U2022 sz3 rfl rfl dc rfl ?_);refine go ?_;exact dvW rfl pf erDl3;refine ⟨fun pg _ _ aac pj kj _ _ _=>?_,?_⟩;obtain ⟨pg,rfl⟩:=ovE aac;have pm:pg 74=.pointer (some ⟨w.heap.size,4,none⟩):=pj 3 _ _ rfl rfl;have pn:=(Blk.gr kj.1 (by simp; omega) fe);refine go ?_;exact dvW rfl kj erDl3;refine ⟨fun po _ _ aai pp pq _ _ _=>?_,?_⟩;obtain ⟨po,rfl⟩:=ovE aai;have pr:po 75=.int .i64 (x4):=pp 4 _ _ rfl rfl;refine l_op (k_quoT (a:=x4) (b:=101) (c:=q4) pr rfl dc eq4 hq4 ?_);refine go ?_;exact dvW rfl pq erDl3;refine ⟨fun pt _ _ aao pu km _ _ _=>?_,?_⟩
 obtain ⟨pt,rfl⟩:=ovE aao;have pw:pt 76=.int .i64 (q4):=pu 5 _ _ rfl rfl;refine clb en2025 (hc:=cEqZ (pick16_ok q4 3 _ hq4 om) ep5) (hk:=?_) (hv:=cons_eq pw (cons_eq rfl rfl));rintro _ _ ko rfl;refine go ?_;exact dvW rfl km ko.2;refine ⟨fun px _ _ aaw py p9 _ _ _=>?_,?_⟩;obtain ⟨px,rfl⟩:=ovE aaw;have qa:px 77=.int .i64 (p5):=py 6 _ _ rfl rfl;refine l_op (k_mul (a:=400) (b:=p5) (c:=400*p5) rfl qa (by unfold In64; omega) rfl ?_);refine go ?_;exact dvW rfl p9 erDl3;refine ⟨fun qb _ _ aa2 qc qe _ _ _=>?_,?_⟩;obtain ⟨qb,rfl⟩:=ovE aa2;have qg:qb 78=.int .i64 (400*p5):=qc 7 _ _ rfl rfl;refine adi ?_;refine go ?_;exact dvW rfl qe erDl3;refine ⟨fun kp _ _ aa8 kq kr _ _ _=>?_,?_⟩;obtain ⟨kp,rfl⟩:=ovE aa8;have qh:kp 73=.int .i64 (p4):=kq 2 _ _ rfl rfl;have qj:kp 79=.int .i64 (100+(400*p5)):=kq 8 _ _ rfl rfl;refine clb en32 (hc:=of_q om om) (hk:=?_) (hv:=cons_eq qh (cons_eq qj rfl));rintro _ _ kt rfl;refine go ?_;exact dvW rfl kr kt.2;refine ⟨fun qk _ _ abg qn qo _ _ _=>?_,?_⟩;obtain ⟨qk,rfl⟩:=ovE abg;have qq:qk 80=.tuple #[.agg #[S ((qR p4 (100+(400*p5))).1),S ((qR p4 (100+(400*p5))).2)],.int .i64 0]:=qn 9 _ _ rfl rfl;refine go ?_;exact dvW rfl qo erDl3;refine ⟨fun qr _ _ abm qy q5 _ _ _=>?_,?_⟩;obtain ⟨qr,rfl⟩:=ovE abm
 have q6:qr 70=.tuple #[.agg #[S ((qR p4 (100+(400*p5))).1),S ((qR p4 (100+(400*p5))).2)],.int .i64 0]:=qy 10 _ _ rfl rfl;refine go ?_;exact dvW rfl q5 erDl3;refine ⟨fun q7 _ _ abs q8 rd _ _ _=>?_,?_⟩;obtain ⟨q7,rfl⟩:=ovE abs;have re:q7 70=.tuple #[.agg #[S ((qR p4 (100+(400*p5))).1),S ((qR p4 (100+(400*p5))).2)],.int .i64 0]:=q8 10 _ _ rfl rfl;refine go ?_;exact dvW rfl rd erDl3;refine ⟨fun abw _ _ rh _ ri _ _ _=>?_,?_⟩;obtain ⟨abw,rfl⟩:=ovE rh;refine l_op (k_fieldAddr (b:=co.heap.size) (o:=0) (off:=0) (oo:=0) U2029 rfl rfl sz2027 rfl rfl ?_);refine go ?_;exact dvW rfl ri erDl3;refine ⟨fun rk _ _ ab5 rm rp _ _ _=>?_,?_⟩;obtain ⟨rk,rfl⟩:=ovE ab5;have rq:rk 83=.pointer (some ⟨co.heap.size,0,none⟩):=rm 13 _ _ rfl rfl;refine l_op (k_fieldAddr (b:=co.heap.size) (o:=0) (off:=7) (oo:=7) U2027 rfl rfl sz36 rfl rq ?_);refine go ?_;exact dvW rfl rp erDl3;refine ⟨fun ku _ _ acb kv jh _ rr _=>?_,?_⟩;obtain ⟨ku,rfl⟩:=ovE acb;have rt:ku 81=.agg #[S ((qR p4 (100+(400*p5))).1),S ((qR p4 (100+(400*p5))).2)]:=kv 11 _ _ rfl rfl;have ru:ku 84=.pointer (some ⟨co.heap.size,7,none⟩):=kv 14 _ _ rfl rfl;have ji:=low_gr f7 jh.1 (bz f7) (fun g hgg=>by cases hgg; omega);have acf:=bz ji;have ry:=XW.opn jh rr;refine SA ry (fun _ jj rz=>?_);have ach:=psz jj;refine go ?_;exact dvWs (.inr rfl) jh jj rz;exact trivial
 intro ix _ _ r6 iy _ gm;obtain ⟨ix,rfl⟩:=ovE iy;have fj:=(Blk.gr gm.1 (by simp; omega) fe);have acl:=bt fj;have fo:=(Blk.gr gm.1 (by simp; omega) fh);have acm:=bt fo;have fk:=(Blk.gr gm.1 (by simp; omega) fq);have acn:=bt fk;have fm:=low_gr f7 gm.1 (bz f7) (fun g hgg=>by cases hgg; omega);have aco:=bz fm;have acp:=gm.1.size;have gp:=XW.fin gm (r6 15 rfl);have acq:=bt gp;refine go ?_;refine l_op (k_arrAddr (m:=7) (b:=w.heap.size) (o:=0) (i:=5) (oo:=5) U2022 sz3 rfl rfl dc rfl ?_);refine go ?_;refine clb en2025 (hc:=cEqZ (pick16_ok x5 30 _ hx5 om) ep6) (hk:=?_);rintro _ _ ia rfl;have ⟨fj,fo,fk,gp,fm⟩:=be4 ia.2 fj fo fk gp fm;refine adi ?_;refine clb en32 (hc:=of_q om om) (hk:=?_);rintro _ _ ic rfl;have ⟨fj,fo,fk,gp,fm⟩:=be4 ic.2 fj fo fk gp fm;refine go ?_;refine l_op (k_fieldAddr (b:=co.heap.size) (o:=0) (off:=11) (oo:=11) U2029 rfl rfl sz36 rfl rfl ?_);refine SA gp (fun _ ie fp=>?_);have ⟨fj,fo,fk,fm,_⟩:=pl3 ie fj fo fk fm;refine go ?_;refine l_op (k_arrAddr (m:=7) (b:=w.heap.size) (o:=0) (i:=6) (oo:=6) U2022 sz3 rfl rfl dc rfl ?_);refine go ?_;refine clb en2025 (hc:=cEqZ (pick16_ok x6 61 _ hx6 om) ep7) (hk:=?_);rintro _ _ ig rfl;have ⟨fj,fo,fk,fp,fm⟩:=be4 ig.2 fj fo fk fp fm;refine sui ?_;refine clb en32 (hc:=of_q om om) (hk:=?_);rintro _ _ ii rfl;have ⟨fj,fo,fk,fp,fm⟩:=be4 ii.2 fj fo fk fp fm;refine go ?_;refine al inf36 (fun _ ij r7=>?_)
 have ⟨fj,fo,fk,fp,fm⟩:=be4 ij.2 fj fo fk fp fm;refine SA r7 (fun _ gq fw=>?_);have ⟨fj,fo,fk,fp,fm,_⟩:=pl4 gq fj fo fk fp fm;refine go ?_;refine cl en33 (mul_q4 qw qd hM) ?_;rintro _ _ gu rfl;have ⟨fj,fo,fk,fp,fw,fm⟩:=be5 gu.2 fj fo fk fp fw fm;refine go ?_;refine al inf36 (fun _ gv r9=>?_);have ⟨fj,fo,fk,fp,fw,fm⟩:=be5 gv.2 fj fo fk fp fw fm;refine SA r9 (fun _ gc gh=>?_);have ⟨fj,fo,fk,fp,fw,fm,_⟩:=pl5 gc fj fo fk fp fw fm;refine go ?_;refine l_op (k_fieldAddr (b:=co.heap.size) (o:=0) (off:=0) (oo:=0) U2029 rfl rfl sz2027 rfl rfl ?_);refine l_op (k_fieldAddr (b:=co.heap.size) (o:=0) (off:=1) (oo:=1) U2027 rfl rfl sz36 rfl rfl ?_);refine go ?_;refine cl en71 (add_q4 ql qm hR) ?_;rintro _ _ gi rfl;have ⟨fj,fo,fk,fp,fw⟩:=bf5 gi.2 fj fo fk fp fw;have ⟨gh,fm⟩:=be1 gi.2 gh fm;refine go ?_;refine l_op (k_fieldAddr (b:=co.heap.size) (o:=0) (off:=9) (oo:=9) U2029 rfl rfl sz36 rfl rfl ?_);refine SA fp (fun _ gj jk=>?_);have ⟨fj,fo,fk,fw,gh,fm,_⟩:=pl5 gj fj fo fk fw gh fm;refine go ?_;refine l_op (k_loadA (cs:=[.int .i64 (1+p0),S ((qR (p1 - 20) 10).1),S ((qR (p1 - 20) 10).2),S (qR ha hb).1,S (qR ha hb).2,S (qR gn gd).1,S (qR gn gd).2,S ((qR p4 (100+(400*p5))).1),S ((qR p4 (100+(400*p5))).2),S (qR va vb).1,S (qR va vb).2,S ((qR (1+p6) 20).1),S ((qR (1+p6) 20).2)]) (b:=co.heap.size) (o:=0) U2029 rfl sz2029 rfl (Blk.cells jk (i:=0) rfl) ?_)
 refine l_op (k_storeA (b:=ik.heap.size) (o:=0) (vs:=[.int .i64 (1+p0),S ((qR (p1 - 20) 10).1),S ((qR (p1 - 20) 10).2),S (qR ha hb).1,S (qR ha hb).2,S (qR gn gd).1,S (qR gn gd).2,S ((qR p4 (100+(400*p5))).1),S ((qR p4 (100+(400*p5))).2),S (qR va vb).1,S (qR va vb).2,S ((qR (1+p6) 20).1),S ((qR (1+p6) 20).2)]) sz2029 rfl rfl (by simp [Value.oneCell',S]) fo (Nat.le_of_ble_eq_true rfl) (fun _ gk sc=>?_));have ⟨fj,fk,jk,fw,gh,fm,_⟩:=pl5 gk fj fk jk fw gh fm;refine go ?_;refine f_out (v:=.agg #[.int .i64 (1+p0),S ((qR (p1 - 20) 10).1),S ((qR (p1 - 20) 10).2),S (qR ha hb).1,S (qR ha hb).2,S (qR gn gd).1,S (qR gn gd).2,S ((qR p4 (100+(400*p5))).1),S ((qR p4 (100+(400*p5))).2),S (qR va vb).1,S (qR va vb).2,S ((qR (1+p6) 20).1),S ((qR (1+p6) 20).2)]) (res1  rfl ?_) fm rfl;refine res_cellA (t:=2) (cs:=[.int .i64 (1+p0),S ((qR (p1 - 20) 10).1),S ((qR (p1 - 20) 10).2),S (qR ha hb).1,S (qR ha hb).2,S (qR gn gd).1,S (qR gn gd).2,S ((qR p4 (100+(400*p5))).1),S ((qR p4 (100+(400*p5))).2),S (qR va vb).1,S (qR va vb).2,S ((qR (1+p6) 20).1),S ((qR (1+p6) 20).2)]) (b:=ik.heap.size) (o:=0) U2029 rfl sz2029 ?_ ?_;exact rfl;exact Blk.cells sc (i:=0) krDl3
end Go.Proofs.YtonigegpknhdnaaGreatDoor
namespace Go.Proofs.YtonigegpknhdnaaGreatDoor
open Go Go.Eng Go.RowKit
def MpI (w:World)(b:Nat)(l:List (Int × Value)) : Prop:=∃ es clock,w.heap[b]?=some (.map es clock)∧es.toList.map (fun e=>(e.key,e.val))=l.map (fun p=>(Value.int .i64 p.1,p.2))
def getI (k:Int) : List (Int × Value)→Option Value
  | []=>none
  | p :: l=>if k=p.1 then some p.2 else getI k l
theorem MpI.lt {w:World}{b:Nat}{l:List (Int × Value)}(h:MpI w b l) : b<w.heap.size:=by
  obtain ⟨_,c,h1,_⟩:=h
  exact (Array.getElem?_eq_some_iff.1 h1).1
theorem findNowI {k : Int} : ∀ {es : List MapEntry} {l : List (Int × Value)} {i : Nat}, es.map (fun e => (e.key, e.val)) = l.map (fun p => (Value.int .i64 p.1, p.2)) → ∃ o : Option (Nat × Value), Instr.findNow (.int .i64) (.int .i64 k) es i = some o ∧ o.map (·.2) = getI k l
  | [],[],i,_=>⟨none,rfl,rfl⟩
  | [],_ :: _,_,h=>by cases h
  | _ :: _,[],_,h=>by cases h
  | e :: es, p :: l, i, h => by
    simp only [List.map_cons,List.cons.injEq,Prod.mk.injEq] at h
    obtain ⟨⟨h1,h2⟩,h3⟩:=h
    unfold Instr.findNow getI
    rw [h1]
    by_cases hk:k=p.1
    · subst hk
      have hs:Instr.sameNow (.int .i64) (.int .i64 p.1) (.int .i64 p.1)=some true:=by simp [Instr.sameNow]
      exact ⟨some (i,e.val),by rw [hs],by simp [h2]⟩
    · obtain ⟨o, h4, h5⟩ := findNowI (k := k) (i := i + 1) h3
      have hs:Instr.sameNow (.int .i64) (.int .i64 k) (.int .i64 p.1)=some false:=by simp [Instr.sameNow,hk]
      exact ⟨o,by rw [hs]; exact h4,by rw [h5,if_neg hk]⟩
theorem findI (w : World) {k : Int} {es : List MapEntry} {l : List (Int × Value)} (h : es.map (fun e => (e.key, e.val)) = l.map (fun p => (Value.int .i64 p.1, p.2))) : ∃ o : Option (Nat × Value), (Instr.findKey 3 (.int .i64 k) es).run Tryz.prog w = .ok o w ∧ o.map (·.2) = getI k l := by
  obtain ⟨o,h1,h2⟩:=findNowI (k:=k) (i:=0) h
  exact ⟨o,by simp [Instr.findKey,run_underlying Tryz.underlying3,h1],h2⟩
theorem ck3 (w:World)(em:Bool)(k:Int) : (Instr.checkKey em 10000 3 (.int .i64 k)).run Tryz.prog w=.ok () w:=by
  show (Instr.checkKey em (9999+1) 3 _).run _ _=_
  unfold Instr.checkKey
  simp [run_underlying Tryz.underlying3]
section
variable {r : Option Nat} {n N : Nat} {e : Nat → Value} {ds : List Deferred} {w : World} {Q : Exit → Act → World → Prop} {K : Act → World → Prop}
variable {d ty : Nat} {pos : String} {af : Array Edge} {g : Option (Nat × Bool)} {v u : Value} {x y z : Operand} {t t' : TypeId} {l : List (Int × Value)} {b : Nat} {k : Int}
theorem k_makeMapI (hk : ∀ w',Ext w w'→w'.heap.size=w.heap.size+1→MpI w' w.heap.size []→K (act N (upd e d (.map (some w.heap.size))) ds) w') :
    Oper.wpIn (Fw r) n Tryz.prog ⟨some d,.makeMap t none,ty,pos,af,g⟩ (act N e ds) w K Q:=by
  refine k_val (v:=.map (some w.heap.size)) (w':=w.alloc (.map #[] 0)) rfl ?_ (by rw [act_put]; exact hk _ (Ext.alloc _ _) (by simp) ⟨#[],0,heap_alloc_new w _,rfl⟩)
  simp [execOp,run_makeMap]
theorem k_insertI (hx:ev N e x=.map (some b))(hy:ev N e y=.int .i64 k)(hz:ev N e z=v)(hM:MpI w b l)(hn:getI k l=none) (hk : ∀ w',Put w w' b→MpI w' b (l ++ [(k,v)])→K (act N e ds) w') :
    Oper.wpIn (Fw r) n Tryz.prog ⟨none,.insert 62 x y z,ty,pos,af,g⟩ (act N e ds) w K Q:=by
  have hlt:=hM.lt
  obtain ⟨es,c,h1,h2⟩:=hM
  obtain ⟨o,h3,h4⟩:=findI w (k:=k) h2
  have hc:=ck3 w false k
  rw [hn] at h4
  cases o with
  | some p=>cases h4
  | none =>
    refine k_skip (w':={ w with heap:=w.heap.setIfInBounds b (.map (es.push { key:=.int .i64 k,val:=v,born:=c }) (c+1)) }) rfl ?_ (hk _ put_set ⟨es.push { key:=.int .i64 k,val:=v,born:=c },c+1,by simp [hlt],by simp [h2]⟩)
    simp [execOp,Instr.mapUpdate,hx,hy,hz,run_underlying Tryz.underlying62,MapKept.run_getObj_map h1,hc,h3,MapKept.run_setObj_map _ h1]
theorem k_lookupI {q:Bool}(hx:ev N e x=.map (some b))(hy:ev N e y=.int .i64 k)(hM:MpI w b l)(hg:getI k l=(if q then some v else none))(hz:q=false→v=.nilFunc)(hk:K (act N (upd e d (.tuple #[v,.bool q])) ds) w) :
    Oper.wpIn (Fw r) n Tryz.prog ⟨some d,.lookup 62 x y true,ty,pos,af,g⟩ (act N e ds) w K Q:=by
  obtain ⟨es,c,h1,h2⟩:=hM
  obtain ⟨o,h3,h4⟩:=findI w (k:=k) h2
  rw [hg] at h4
  have hc:=ck3 w es.isEmpty k
  cases q with
  | false =>
    rw [hz rfl] at hk
    cases o with
    | some p=>cases h4
    | none =>
      have hz:(zeroValue 23).run Tryz.prog w=.ok .nilFunc w:=by
        obtain ⟨i,i1,i2,_,_⟩:=(inf25:Inf Tryz.prog 23 _ _ _).parts
        simp [zeroValue,typeInfo,i1,i2]
      refine k_val (v:=.tuple #[.nilFunc,.bool false]) (w':=w) rfl ?_ (by rw [act_put]; exact hk)
      simp [execOp,Instr.lookup,hx,hy,run_underlying Tryz.underlying62,MapKept.run_getObj_map h1,hc,h3,hz]
  | true =>
    cases o with
    | none=>cases h4
    | some p =>
      have h5:p.2=v:=Option.some.inj h4
      refine k_val (v:=.tuple #[v,.bool true]) (w':=w) rfl ?_ (by rw [act_put]; exact hk)
      simp [execOp,Instr.lookup,hx,hy,run_underlying Tryz.underlying62,MapKept.run_getObj_map h1,hc,h3,h5]
theorem k_callB {R:Value→World→Prop} {f:FuncId} {lb:List Value} {ats:Array TypeId} (hf:Enters Tryz.prog f) (hx:ev N e x=.func (.func f) lb.toArray #[]) (hc:Calls Tryz.prog f lb.toArray w (Ret w R))
    (hk : ∀ v w',Ext w w'→R v w'→K (act N (upd e d v) ds) w') : Oper.wpIn (Fw r) n Tryz.prog ⟨some d,.call { callee:=.value x,args:=#[],argTypes:=ats },ty,pos,af,g⟩ (act N e ds) w K Q:=by
  refine k_enter (f:=f) (args:=lb.toArray) (R:=R) rfl ?_ hc (fun v w' h1 h2=>by rw [act_put]; exact hk v w' h1 h2)
  simp [execOp,resolve,Deferred.ofValue,hx,invoke,hf _ _]
end
end Go.Proofs.YtonigegpknhdnaaGreatDoor
