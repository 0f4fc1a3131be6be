/- Part of the proof of a statement about risks. -/
import Derived.Test.YtmehbpjpbbhohaaGreatDoorRef2ToRef3
import Derived.Test.YtmehbpjpbbhohaaGreatDoorEngPToEngH
import Derived.Test.YtmehbpjpbbhohaaGreatDoorBaseToEngJ
import Derived.Test.YtmehbpjpbbhohaaGreatDoorRjaToRef1
import Derived.Test.YtmehbpjpbbhohaaGreatDoorRj5ToRj9
set_option linter.all false
namespace Go.Proofs.YtmehbpjpbbhohaaGreatDoor
set_option maxRecDepth 100000
open Go Go.Eng Go.RowKit
attribute [local irreducible] wpListIn Code.wpIn Oper.wpIn Exit.then Exit.inBlock Exit.noGoto
set_option maxHeartbeats 40000000
theorem asuRef4 {p:Prop}(h:p:=by assumption):p:=h
theorem dg_len {w:World}{lo n c a k:Nat}{A:Option Addr}(h:Dg w lo A n c a)(hl:a<10^k):n<=k:=by rw[<-h.len];exact(length_toB_le_iff 10 om a k).2 hl
theorem val10 {l:List UInt8}(h:isInt l=true):valN (body l)<10^200:=valN_lt (isInt_num h)
theorem no_l {a b:List UInt8}(h:isInt a=false):(isInt a&&isInt b)=false:=by rw[h];rfl
theorem no_r {a b:List UInt8}(h:isInt b=false):(isInt a&&isInt b)=false:=by rw[h];simp
theorem yes_2 {a b:List UInt8}(ha:isInt a=true)(hb:isInt b=true):(isInt a&&isInt b)=true:=by rw[ha,hb];rfl
theorem fitR_fits {ng:Bool}{a:Nat}:fits (sgn ng a)=fitR a:=by
  unfold fitR
  by_cases h:a=0
  · subst h;cases ng <;>decide +kernel
  · rw[fits_sgn ng om,decide_eq_false h,Bool.false_or]
    unfold showN;rw[if_neg h,showD_length]
theorem txtR_show {ng:Bool}{a:Nat}:showI (sgn ng a)=txtR ng a:=by
  unfold txtR
  by_cases h:a=0
  · subst h;cases ng <;>rfl
  · rw[showI_sgn ng om,if_neg h]
theorem chk_f {ng:Bool}{a:Nat}(h:fitR a=false):Value.tuple #[S [],.int .i64 30]=resI (outI (sgn ng a)):=by
  unfold outI;rw[fitR_fits,h];rfl
theorem chk_t {ng:Bool}{a:Nat}(h:fitR a=true):Value.tuple #[S (txtR ng a),.int .i64 0]=resI (outI (sgn ng a)):=by
  unfold outI;rw[fitR_fits,h,txtR_show];rfl
theorem dg_one {w:World}{lo:Nat}{A:Option Addr}(h:Rw w lo A [Value.int .i64 1]):Dg w lo A 1 1 1:=by
  have e:toB 10 1=[1]:=by decide
  exact⟨by rw[e];exact h,by rw[e];rfl,Nat.le_refl _⟩
theorem txt_rem {r:Nat}(h:r<10^200):txtR false r=rS (outI (sgn false r)):=by
  have hf:fits (sgn false r)=true:=by unfold fits;rw[natAbs_sgn];exact decide_eq_true h
  rw[outI_rS hf,txtR_show]
theorem lt201 {a b:Nat}(ha:a<10^200)(hb:b<10^200):a+b<10^201:=by
  have:(10:Nat)^201=10^200*10:=by rw[<-Nat.pow_succ]
  generalize (10:Nat)^200=M at *
  omega
theorem lt_pow {a b x y z:Nat}(ha:a<10^x)(hb:b<10^y)(h:z=x+y):a*b<10^z:=by
  subst h;rw[Nat.pow_add];exact Nat.mul_lt_mul'' ha hb
theorem lt400 {a b:Nat}(ha:a<10^200)(hb:b<10^200):a*b<10^400:=lt_pow (x:=200) (y:=200) (z:=400) ha hb rfl
theorem cmp_eq_n {a b:List UInt8}(h:(isInt a&&isInt b)=true)(he:(neg a==neg b)=true)(ha:neg a=true):cmpI ((valN (body b):Nat):Int) ((valN (body a):Nat):Int)=cmpS a b:=
  cmp_nn h ha (by have:neg a=neg b:=by simpa using he
                  rw[<-this];exact ha)
theorem cmp_eq_p {a b:List UInt8}(h:(isInt a&&isInt b)=true)(he:(neg a==neg b)=true)(ha:neg a=false):cmpI ((valN (body a):Nat):Int) ((valN (body b):Nat):Int)=cmpS a b:=
  cmp_pp h ha (by have:neg a=neg b:=by simpa using he
                  rw[<-this];exact ha)
theorem cmp_ne_n {a b:List UInt8}(h:(isInt a&&isInt b)=true)(he:(neg a==neg b)=false)(ha:neg a=true):(-1:Int)=cmpS a b:=
  cmp_np h ha (by rw[ha]at he;simpa using he)
theorem cmp_ne_p {a b:List UInt8}(h:(isInt a&&isInt b)=true)(he:(neg a==neg b)=false)(ha:neg a=false):(1:Int)=cmpS a b:=
  cmp_pn h ha (by rw[ha]at he;simpa using he)
theorem tmod_sgn (ng:Bool)(x:Nat):Int.tmod (sgn ng x) 10=sgn ng (x%10):=by
  cases ng
  · show Int.tmod (x:Int) 10=((x%10:Nat):Int)
    rw[Int.tmod_eq_emod_of_nonneg om];omega
  · show Int.tmod (-(x:Int)) 10=-((x%10:Nat):Int)
    rw[Int.neg_tmod,Int.tmod_eq_emod_of_nonneg om];omega
theorem tdiv_sgn (ng:Bool)(x:Nat):Int.tdiv (sgn ng x) 10=sgn ng (x/10):=by
  cases ng
  · show Int.tdiv (x:Int) 10=((x/10:Nat):Int)
    rw[Int.tdiv_eq_ediv_of_nonneg om];omega
  · show Int.tdiv (-(x:Int)) 10=-((x/10:Nat):Int)
    rw[Int.neg_tdiv,Int.tdiv_eq_ediv_of_nonneg om];omega
theorem divI_0 {a b:List UInt8}(h:b=[48]):divI a b=none:=divI_z (by subst h;exact valN_zero)
theorem val_pos {b:List UInt8}(h:isInt b=true)(h0:¬b=[48]):0<valN (body b):=by
  rcases Nat.eq_zero_or_pos (valN (body b))with h1|h1
  · exact absurd ((valZ_eq_zero h).1 (by have:=valZ_natAbs b;omega)) h0
  · exact h1
theorem r3chk_ok {A1:Option Addr}{n1 c1 a lo1:Nat}{w:World}(h1:Dg w lo1 A1 n1 c1 a)(s1:n1<=100000)(ng:Bool):
    CL 161 #[.bool ng,.slice A1 n1 c1] w (Ret w λv w'=>v=resI (outI (sgn ng a))):=by
 have uh1:=h1.row.hi;refine f_in Tryz.func161 rfl ?_;refine go ?_;refine clb en97 (hc:=r3text_ok h1 om ng) (hk:=?_);rintro _ _ sc rfl;have aol:=sc.2;refine go ?_;rcases Bool.eq_false_or_eq_true (fitR a)with r8|r8;refine go ?_;exact f_ret2 (t:=4) (u:=5) (v1:=S (txtR ng a)) (v2:=.int .i64 0) rfl aol (by first|exact chk_f asuRef4|exact chk_t asuRef4) rfl rfl;refine go ?_;exact f_ret2 (t:=4) (u:=5) (v1:=S ([])) (v2:=.int .i64 30) rfl aol (by first|exact chk_f asuRef4|exact chk_t asuRef4) rfl rfl
theorem r3sum_ok {A1:Option Addr}{n1 c1 a lo1:Nat}{w:World}(h1:Dg w lo1 A1 n1 c1 a)(s1:n1<=50000){A2:Option Addr}{n2 c2 b lo2:Nat}(h2:Dg w lo2 A2 n2 c2 b)(s2:n2<=50000)(nx ny:Bool):
    CL 159 #[.bool nx,.slice A1 n1 c1,.bool ny,.slice A2 n2 c2] w (Ret w λv w'=>v=resI (outI (sgn nx a+sgn ny b))):=by
 have uh1:=h1.row.hi;have uh2:=h2.row.hi;have e1:=h1.len;have e2:=h2.len;refine f_in Tryz.func159 rfl ?_;refine go ?_;refine l_op (k_eqlB (a:=nx) (b:=ny) (q:=((nx==ny))) U4 rfl rfl rfl ?_);refine go ?_;rcases Bool.eq_false_or_eq_true (nx==ny)with aou|aou;refine go ?_;refine clb en112 (hc:=r3plus_ok h1 om h2 om) (hk:=?_);rintro _ _ aov ⟨aow,aon,aox,rfl,sc⟩;have aoy:=aov.2;have sc:=sc.mono (lo':=w.heap.size) om;have ao8:=sc.row.hi;have hl9:aon<=50001:=by rw[<-sc.len];exact len_add om _ _ 50000 om om
 refine go ?_;refine clb en99 (hc:=r3chk_ok sc om nx) (hk:=?_);rintro _ _ aoo rfl;have aoy:=xt aoy aoo.2;refine go ?_;exact f_ret2 (t:=8) (u:=9) (v1:=S (rS (outI (sgn nx (a+b))))) (v2:=.int .i64 (rE (outI (sgn nx (a+b))))) rfl aoy (congrArg (λx=>resI (outI x)) (by first|exact sgn_add_same asuRef4|exact sgn_add_ge asuRef4 hle|exact sgn_add_lt asuRef4 hle)) rfl rfl;refine go ?_;refine clb en114 (hc:=r3order_ok h1 om h2 om) (hk:=?_);rintro _ _ aoz rfl;have h1:=Dg.ext aoz.2 h1;have h2:=Dg.ext aoz.2 h2;have r8:=aoz.2;refine go ?_;by_cases aop:0<=(cmpI (a:Int) (b:Int));have hle:=cmpI_ge aop;refine go ?_;refine clb en113 (hc:=r3minus_ok h1 om h2 om hle) (hk:=?_);rintro _ _ ao0 ⟨ao1,aoq,ao2,rfl,aol⟩;have r8:=xt r8 ao0.2;have aol:=aol.mono (lo':=w.heap.size) om;have apf:=aol.row.hi;have hl9:aoq<=50001:=by rw[<-aol.len];exact Nat.le_trans (len_mono om (Nat.sub_le _ _)) om
 refine go ?_;refine clb en99 (hc:=r3chk_ok aol om nx) (hk:=?_);rintro _ _ aor rfl;have r8:=xt r8 aor.2;refine go ?_;exact f_ret2 (t:=8) (u:=9) (v1:=S (rS (outI (sgn nx (a-b))))) (v2:=.int .i64 (rE (outI (sgn nx (a-b))))) rfl r8 (congrArg (λx=>resI (outI x)) (by first|exact sgn_add_same asuRef4|exact sgn_add_ge asuRef4 hle|exact sgn_add_lt asuRef4 hle)) rfl rfl;have hle:=cmpI_lt' aop;refine go ?_;refine clb en113 (hc:=r3minus_ok h2 om h1 om hle) (hk:=?_);rintro _ _ ao3 ⟨ao4,aos,ao5,rfl,aom⟩;have r8:=xt r8 ao3.2;have aom:=aom.mono (lo':=w.heap.size) om;have apk:=aom.row.hi;have hl9:aos<=50001:=by rw[<-aom.len];exact Nat.le_trans (len_mono om (Nat.sub_le _ _)) om
 refine go ?_;refine clb en99 (hc:=r3chk_ok aom om ny) (hk:=?_);rintro _ _ aot rfl;have r8:=xt r8 aot.2;refine go ?_;exact f_ret2 (t:=8) (u:=9) (v1:=S (rS (outI (sgn ny (b-a))))) (v2:=.int .i64 (rE (outI (sgn ny (b-a))))) rfl r8 (congrArg (λx=>resI (outI x)) (by first|exact sgn_add_same asuRef4|exact sgn_add_ge asuRef4 hle|exact sgn_add_lt asuRef4 hle)) rfl rfl
theorem r3Add_ok (a b:List UInt8)(w:World)(sa:a.length<=1000000)(sb:b.length<=1000000):
    CL 118 #[S a,S b] w (Ret w λv w'=>v=resI (addI a b)):=by
 refine f_in Tryz.func118 rfl ?_;refine go ?_;rcases Bool.eq_false_or_eq_true (isInt a)with r8|r8;refine go ?_;refine clb en95 (hc:=r3Valid_ok a _ om) (hk:=?_);rintro _ _ aow rfl;have sc:=aow.2;refine go ?_;refine clb en95 (hc:=r3Valid_ok b _ om) (hk:=?_);rintro _ _ aox rfl;have sc:=xt sc aox.2;refine go ?_;rcases Bool.eq_false_or_eq_true (isInt b)with aom|aom;refine go ?_;refine cl en98 (r3digits_ok _ _ r8) ?_;rintro _ _ aoy ⟨aoo,aop,aoq,rfl,aol⟩;have sc:=xt sc aoy.2;have aol:=aol.mono (lo':=w.heap.size) om;have ao7:=dg_len aol (val10 r8);have ao8:=aol.row.hi;refine go ?_;refine cl en98 (r3digits_ok _ _ aom) ?_;rintro _ _ aov ⟨aor,aos,aot,rfl,aon⟩;have aol:=Dg.ext aov.2 aol;have sc:=xt sc aov.2;have aon:=aon.mono (lo':=w.heap.size) om;have apb:=dg_len aon (val10 aom);have apc:=aon.row.hi;refine go ?_;refine clb en101 (hc:=r3sum_ok aol om aon om (neg a) (neg b)) (hk:=?_);rintro _ _ aou rfl;have sc:=xt sc aou.2;refine go ?_;exact f_ret2 (t:=4) (u:=5) (v1:=S (rS (outI (sgn (neg a) (valN (body a))+sgn (neg b) (valN (body b)))))) (v2:=.int .i64 (rE (outI (sgn (neg a) (valN (body a))+sgn (neg b) (valN (body b)))))) rfl sc (by rw[addI_ok (yes_2 r8 aom)];rfl) rfl rfl;refine go ?_;exact f_ret2 (t:=4) (u:=5) (v1:=S ([])) (v2:=.int .i64 30) rfl sc (by rw[addI_no (no_r aom)];rfl) rfl rfl;refine go ?_;refine clb en95 (hc:=r3Valid_ok a _ om) (hk:=?_)
 rintro _ _ aoz rfl;have ao0:=aoz.2;refine go ?_;exact f_ret2 (t:=4) (u:=5) (v1:=S ([])) (v2:=.int .i64 30) rfl ao0 (by rw[addI_no (no_l r8)];rfl) rfl rfl
theorem r3Sub_ok (a b:List UInt8)(w:World)(sa:a.length<=1000000)(sb:b.length<=1000000):
    CL 113 #[S a,S b] w (Ret w λv w'=>v=resI (subI a b)):=by
 refine f_in Tryz.func113 rfl ?_;refine go ?_;rcases Bool.eq_false_or_eq_true (isInt a)with r8|r8;refine go ?_;refine clb en95 (hc:=r3Valid_ok a _ om) (hk:=?_);rintro _ _ aow rfl;have sc:=aow.2;refine go ?_;refine clb en95 (hc:=r3Valid_ok b _ om) (hk:=?_);rintro _ _ aox rfl;have sc:=xt sc aox.2;refine go ?_;rcases Bool.eq_false_or_eq_true (isInt b)with aom|aom;refine go ?_;refine cl en98 (r3digits_ok _ _ r8) ?_;rintro _ _ aoy ⟨aoo,aop,aoq,rfl,aol⟩;have sc:=xt sc aoy.2;have aol:=aol.mono (lo':=w.heap.size) om;have ao7:=dg_len aol (val10 r8);have ao8:=aol.row.hi;refine go ?_;refine cl en98 (r3digits_ok _ _ aom) ?_;rintro _ _ aov ⟨aor,aos,aot,rfl,aon⟩;have aol:=Dg.ext aov.2 aol;have sc:=xt sc aov.2;have aon:=aon.mono (lo':=w.heap.size) om;have apb:=dg_len aon (val10 aom);have apc:=aon.row.hi;refine go ?_;refine clb en101 (hc:=r3sum_ok aol om aon om (neg a) (!(neg b))) (hk:=?_);rintro _ _ aou rfl;have sc:=xt sc aou.2;refine go ?_;exact f_ret2 (t:=4) (u:=5) (v1:=S (rS (outI (sgn (neg a) (valN (body a))+sgn (!(neg b)) (valN (body b)))))) (v2:=.int .i64 (rE (outI (sgn (neg a) (valN (body a))+sgn (!(neg b)) (valN (body b)))))) rfl sc (by rw[subI_ok (yes_2 r8 aom),sgn_not];rfl) rfl rfl;refine go ?_;exact f_ret2 (t:=4) (u:=5) (v1:=S ([])) (v2:=.int .i64 30) rfl sc (by rw[subI_no (no_r aom)];rfl) rfl rfl;refine go ?_
 refine clb en95 (hc:=r3Valid_ok a _ om) (hk:=?_);rintro _ _ aoz rfl;have ao0:=aoz.2;refine go ?_;exact f_ret2 (t:=4) (u:=5) (v1:=S ([])) (v2:=.int .i64 30) rfl ao0 (by rw[subI_no (no_l r8)];rfl) rfl rfl
theorem r3Mul_ok (a b:List UInt8)(w:World)(sa:a.length<=1000000)(sb:b.length<=1000000):
    CL 164 #[S a,S b] w (Ret w λv w'=>v=resI (mulI a b)):=by
 refine f_in Tryz.func164 rfl ?_;refine go ?_;rcases Bool.eq_false_or_eq_true (isInt a)with r8|r8;refine go ?_;refine clb en95 (hc:=r3Valid_ok a _ om) (hk:=?_);rintro _ _ aoy rfl;have sc:=aoy.2;refine go ?_;refine clb en95 (hc:=r3Valid_ok b _ om) (hk:=?_);rintro _ _ aoz rfl;have sc:=xt sc aoz.2;refine go ?_;rcases Bool.eq_false_or_eq_true (isInt b)with aon|aon;refine go ?_;refine cl en98 (r3digits_ok _ _ r8) ?_;rintro _ _ ao0 ⟨aop,aoq,aor,rfl,aol⟩;have sc:=xt sc ao0.2;have aol:=aol.mono (lo':=w.heap.size) om;have apc:=dg_len aol (val10 r8);have apd:=aol.row.hi;refine go ?_;refine cl en98 (r3digits_ok _ _ aon) ?_;rintro _ _ aox ⟨aos,aot,aou,rfl,aom⟩;have aol:=Dg.ext aox.2 aol;have sc:=xt sc aox.2;have aom:=aom.mono (lo':=w.heap.size) om;have apg:=dg_len aom (val10 aon);have aph:=aom.row.hi;refine go ?_;refine l_op (k_neqB (a:=neg a) (b:=neg b) (q:=(!((neg a)==(neg b)))) U4 rfl rfl rfl ?_);refine go ?_;refine clb en100 (hc:=r3times_ok aol om aom om) (hk:=?_);rintro _ _ aow ⟨ao1,ao2,ao3,rfl,aoo⟩;have sc:=xt sc aow.2;have aoo:=aoo.mono (lo':=w.heap.size) om;have apk:=aoo.row.hi;have lm9:=dg_len aoo (lt400 (val10 r8) (val10 aon));refine clb en99 (hc:=r3chk_ok aoo om (!((neg a)==(neg b)))) (hk:=?_);rintro _ _ aov rfl;have sc:=xt sc aov.2;refine go ?_;exact f_ret2 (t:=4) (u:=5) (v1:=S (rS (outI (sgn (!((neg a)==(neg b))) ((valN (body a))*(valN (body b))))))) (v2:=.int .i64 (rE (outI (sgn (!((neg a)==(neg b))) ((valN (body a))*(valN (body b))))))) rfl sc (by rw[mulI_ok (yes_2 r8 aon),<-sgn_val,<-sgn_val,<-sgn_mul];rfl) rfl rfl
 refine go ?_;exact f_ret2 (t:=4) (u:=5) (v1:=S ([])) (v2:=.int .i64 30) rfl sc (by rw[mulI_no (no_r aon)];rfl) rfl rfl;refine go ?_;refine clb en95 (hc:=r3Valid_ok a _ om) (hk:=?_);rintro _ _ ao4 rfl;have ao5:=ao4.2;refine go ?_;exact f_ret2 (t:=4) (u:=5) (v1:=S ([])) (v2:=.int .i64 30) rfl ao5 (by rw[mulI_no (no_l r8)];rfl) rfl rfl
theorem r3Cmp_ok (a b:List UInt8)(w:World)(sa:a.length<=1000000)(sb:b.length<=1000000):
    CL 112 #[S a,S b] w (Ret w λv w'=>v=.int .i64 (cmpS a b)):=by
 refine f_in Tryz.func112 rfl ?_;refine go ?_;rcases Bool.eq_false_or_eq_true (isInt a)with r8|r8;refine go ?_;refine clb en95 (hc:=r3Valid_ok a _ om) (hk:=?_);rintro _ _ ao0 rfl;have sc:=ao0.2;refine go ?_;refine clb en95 (hc:=r3Valid_ok b _ om) (hk:=?_);rintro _ _ ao1 rfl;have sc:=xt sc ao1.2;refine go ?_;rcases Bool.eq_false_or_eq_true (isInt b)with aom|aom;refine go ?_;refine cl en98 (r3digits_ok _ _ r8) ?_;rintro _ _ ao2 ⟨aoo,aop,aoq,rfl,aol⟩;have sc:=xt sc ao2.2;have aol:=aol.mono (lo':=w.heap.size) om;have apb:=dg_len aol (val10 r8);have apc:=aol.row.hi;refine go ?_;refine cl en98 (r3digits_ok _ _ aom) ?_;rintro _ _ aoz ⟨aor,aos,aot,rfl,aon⟩;have aol:=Dg.ext aoz.2 aol;have sc:=xt sc aoz.2;have aon:=aon.mono (lo':=w.heap.size) om;have apf:=dg_len aon (val10 aom);have apg:=aon.row.hi;refine go ?_;refine l_op (k_neqB (a:=neg a) (b:=neg b) (q:=(!((neg a)==(neg b)))) U4 rfl rfl rfl ?_);refine go ?_;rcases Bool.eq_false_or_eq_true ((neg a)==(neg b))with aou|aou;refine go ?_;rcases Bool.eq_false_or_eq_true (neg a)with aov|aov;refine go ?_;refine clb en114 (hc:=r3order_ok aon om aol om) (hk:=?_);rintro _ _ aox rfl;have sc:=xt sc aox.2;refine go ?_;exact f_ret1 (t:=4) (v:=.int .i64 (cmpI ((valN (body b):Nat):Int) ((valN (body a):Nat):Int))) rfl sc (congrArg (Value.int .i64) (cmp_eq_n (yes_2 r8 aom) aou aov)) rfl
 refine go ?_;refine clb en114 (hc:=r3order_ok aol om aon om) (hk:=?_);rintro _ _ aoy rfl;have sc:=xt sc aoy.2;refine go ?_;exact f_ret1 (t:=4) (v:=.int .i64 (cmpI ((valN (body a):Nat):Int) ((valN (body b):Nat):Int))) rfl sc (congrArg (Value.int .i64) (cmp_eq_p (yes_2 r8 aom) aou aov)) rfl;refine go ?_;rcases Bool.eq_false_or_eq_true (neg a)with aow|aow;refine go ?_;exact f_ret1 (t:=4) (v:=.int .i64 ((-1))) rfl sc (congrArg (Value.int .i64) (cmp_ne_n (yes_2 r8 aom) aou aow)) rfl;refine go ?_;exact f_ret1 (t:=4) (v:=.int .i64 1) rfl sc (congrArg (Value.int .i64) (cmp_ne_p (yes_2 r8 aom) aou aow)) rfl;refine go ?_;exact f_ret1 (t:=4) (v:=.int .i64 0) rfl sc (by rw[cmpS_no (no_r aom)]) rfl;refine go ?_;refine clb en95 (hc:=r3Valid_ok a _ om) (hk:=?_);rintro _ _ ao3 rfl;have ao4:=ao3.2;refine go ?_;exact f_ret1 (t:=4) (v:=.int .i64 0) rfl ao4 (by rw[cmpS_no (no_l r8)]) rfl
theorem r3Div_ok (a b:List UInt8)(w:World)(sa:a.length<=1000000)(sb:b.length<=1000000):
    CL 115 #[S a,S b] w (Ret w λv w'=>v=resD (divI a b)):=by
 refine f_in Tryz.func115 rfl ?_;refine go ?_;rcases Bool.eq_false_or_eq_true (isInt a)with sc|sc;rcases Bool.eq_false_or_eq_true (isInt b)with aol|aol;refine go ?_;refine clb en95 (hc:=r3Valid_ok a _ om) (hk:=?_);rintro _ _ apc rfl;have r8:=apc.2;refine go ?_;refine clb en95 (hc:=r3Valid_ok b _ om) (hk:=?_);rintro _ _ apd rfl;have r8:=xt r8 apd.2;refine go ?_;refine eqs (b:=[48]) ?_;refine go ?_;by_cases ao4:b=([48]);refine go ?_;exact f_ret3 (t:=4) (u:=5) (s:=6) (v1:=S ([])) (v2:=S ([])) (v3:=.int .i64 30) rfl r8 (by rw[divI_0 asuRef4];rfl) rfl rfl rfl;have h0:0<valN (body b):=val_pos aol ao4;refine go ?_;refine cl en98 (r3digits_ok _ _ sc) ?_;rintro _ _ ape ⟨aow,aox,aoy,rfl,aom⟩;have r8:=xt r8 ape.2;have aom:=aom.mono (lo':=w.heap.size) om;have aps:=dg_len aom (val10 sc);have apt:=aom.row.hi;refine go ?_;refine cl en98 (r3digits_ok _ _ aol) ?_;rintro _ _ ao7 ⟨aop,aoq,aor,rfl,aon⟩;have aom:=Dg.ext ao7.2 aom;have r8:=xt r8 ao7.2;have aon:=aon.mono (lo':=w.heap.size) om;have apw:=dg_len aon (val10 aol);have apx:=aon.row.hi;refine go ?_;refine clb en111 (hc:=r3div_ok aom om aon om h0) (hk:=?_);rintro _ _ ao5 ⟨Aq,nq,cq,Ar,nr,cr,rfl,hq,hr⟩;have aon:=Dg.ext ao5.2 aon;have r8:=xt r8 ao5.2;have hq:=hq.mono (lo':=w.heap.size) om;have hr:=hr.mono (lo':=w.heap.size) om;have lq:=dg_len hq (Nat.lt_of_le_of_lt (Nat.div_le_self _ _) (val10 sc))
 have lr:=dg_len hr (Nat.lt_trans (Nat.mod_lt _ h0) (val10 aol));have hmle:valN (body a)%valN (body b)<=valN (body b):=Nat.le_of_lt (Nat.mod_lt _ h0);have uhq:=hq.row.hi;have uhr:=hr.row.hi;refine go ?_;rcases Bool.eq_false_or_eq_true (neg a)with aoo|aoo;refine go ?_;by_cases ao8:0<(nr:Int);have hr0:0<valN (body a)%valN (body b):=toB_ne (B:=10) om (by rw[hr.len];omega);have hdv:=dvr h0 aoo hr0;have hrl:valN (body b)-valN (body a)%valN (body b)<=valN (body b):=Nat.sub_le _ _;refine go ?_;refine BS (λ_ aou _ apg=>?_);have aon:=Dg.ext aou aon;have hq:=Dg.ext aou hq;have hr:=Dg.ext aou hr;have r8:=xt r8 aou;have ap1:=bz aou;have hone:=dg_one (Rw.of_own apg);refine clb en112 (hc:=r3plus_ok hq om hone om) (hk:=?_);rintro _ _ aoz ⟨Ap,np,cp,rfl,hp⟩;have aon:=Dg.ext aoz.2 aon;have hr:=Dg.ext aoz.2 hr;have r8:=xt r8 aoz.2;have hp:=hp.mono (lo':=w.heap.size) om;have lp:=dg_len hp (lt201 (Nat.lt_of_le_of_lt (Nat.div_le_self _ _) (val10 sc)) (show 1<10^200 by decide +kernel));have uhp:=hp.row.hi;refine go ?_;refine clb en113 (hc:=r3minus_ok aon om hr om hmle) (hk:=?_);rintro _ _ aov ⟨Am,nm,cm,rfl,hm⟩;have hp:=Dg.ext aov.2 hp;have r8:=xt r8 aov.2;have hm:=hm.mono (lo':=w.heap.size) om;have lm:=dg_len hm (Nat.lt_of_le_of_lt (Nat.sub_le _ _) (val10 aol));have uhm:=hm.row.hi;refine go ?_
 refine l_op (k_neqB (a:=neg a) (b:=neg b) (q:=(!((neg a)==(neg b)))) U4 rfl rfl rfl ?_);refine go ?_;refine clb en99 (hc:=r3chk_ok hp om (!((neg a)==(neg b)))) (hk:=?_);rintro _ _ aos rfl;have hm:=Dg.ext aos.2 hm;have r8:=xt r8 aos.2;refine go ?_;refine clb en97 (hc:=r3text_ok hm om false) (hk:=?_);rintro _ _ aot rfl;have r8:=xt r8 aot.2;rw[txt_rem (mod_lt_pow aol hrl)];refine go ?_;by_cases ao9:(rE (outI (sgn (!((neg a)==(neg b))) (valN (body a)/valN (body b)+1))))=0;refine go ?_;exact f_ret3 (t:=4) (u:=5) (s:=6) (v1:=S (rS (outI (sgn (!((neg a)==(neg b))) (valN (body a)/valN (body b)+1))))) (v2:=S (rS (outI (sgn false (valN (body b)-valN (body a)%valN (body b)))))) (v3:=.int .i64 0) rfl r8 (by first|exact div_out (yes_2 sc aol) h0 hdv.1 hdv.2 hrl asuRef4|exact div_bad (yes_2 sc aol) h0 hdv.1 asuRef4) rfl rfl rfl;refine go ?_;exact f_ret3 (t:=4) (u:=5) (s:=6) (v1:=S ([])) (v2:=S ([])) (v3:=.int .i64 (rE (outI (sgn (!((neg a)==(neg b))) (valN (body a)/valN (body b)+1))))) rfl r8 (by first|exact div_out (yes_2 sc aol) h0 hdv.1 hdv.2 hrl asuRef4|exact div_bad (yes_2 sc aol) h0 hdv.1 asuRef4) rfl rfl rfl;have hr0:valN (body a)%valN (body b)=0:=toB_nil (B:=10) om (hr.len.trans om);have hdv:=dvp (a:=a) h0 (Or.inr hr0);have hrl:valN (body a)%valN (body b)<=valN (body b):=hmle;refine go ?_
 refine l_op (k_neqB (a:=neg a) (b:=neg b) (q:=(!((neg a)==(neg b)))) U4 rfl rfl rfl ?_);refine go ?_;refine clb en99 (hc:=r3chk_ok hq om (!((neg a)==(neg b)))) (hk:=?_);rintro _ _ ao0 rfl;have hr:=Dg.ext ao0.2 hr;have r8:=xt r8 ao0.2;refine go ?_;refine clb en97 (hc:=r3text_ok hr om false) (hk:=?_);rintro _ _ ao1 rfl;have r8:=xt r8 ao1.2;rw[txt_rem (mod_lt_pow aol hrl)];refine go ?_;by_cases apa:(rE (outI (sgn (!((neg a)==(neg b))) (valN (body a)/valN (body b)))))=0;refine go ?_;exact f_ret3 (t:=4) (u:=5) (s:=6) (v1:=S (rS (outI (sgn (!((neg a)==(neg b))) (valN (body a)/valN (body b)))))) (v2:=S (rS (outI (sgn false (valN (body a)%valN (body b)))))) (v3:=.int .i64 0) rfl r8 (by first|exact div_out (yes_2 sc aol) h0 hdv.1 hdv.2 hrl asuRef4|exact div_bad (yes_2 sc aol) h0 hdv.1 asuRef4) rfl rfl rfl;refine go ?_;exact f_ret3 (t:=4) (u:=5) (s:=6) (v1:=S ([])) (v2:=S ([])) (v3:=.int .i64 (rE (outI (sgn (!((neg a)==(neg b))) (valN (body a)/valN (body b)))))) rfl r8 (by first|exact div_out (yes_2 sc aol) h0 hdv.1 hdv.2 hrl asuRef4|exact div_bad (yes_2 sc aol) h0 hdv.1 asuRef4) rfl rfl rfl;have hdv:=dvp h0 (Or.inl aoo);have hrl:valN (body a)%valN (body b)<=valN (body b):=hmle;refine go ?_;refine l_op (k_neqB (a:=neg a) (b:=neg b) (q:=(!((neg a)==(neg b)))) U4 rfl rfl rfl ?_);refine go ?_
 refine clb en99 (hc:=r3chk_ok hq om (!((neg a)==(neg b)))) (hk:=?_);rintro _ _ ao2 rfl;have hr:=Dg.ext ao2.2 hr;have r8:=xt r8 ao2.2;refine go ?_;refine clb en97 (hc:=r3text_ok hr om false) (hk:=?_);rintro _ _ ao3 rfl;have r8:=xt r8 ao3.2;rw[txt_rem (mod_lt_pow aol hrl)];refine go ?_;by_cases apb:(rE (outI (sgn (!((neg a)==(neg b))) (valN (body a)/valN (body b)))))=0;refine go ?_;exact f_ret3 (t:=4) (u:=5) (s:=6) (v1:=S (rS (outI (sgn (!((neg a)==(neg b))) (valN (body a)/valN (body b)))))) (v2:=S (rS (outI (sgn false (valN (body a)%valN (body b)))))) (v3:=.int .i64 0) rfl r8 (by first|exact div_out (yes_2 sc aol) h0 hdv.1 hdv.2 hrl asuRef4|exact div_bad (yes_2 sc aol) h0 hdv.1 asuRef4) rfl rfl rfl;refine go ?_;exact f_ret3 (t:=4) (u:=5) (s:=6) (v1:=S ([])) (v2:=S ([])) (v3:=.int .i64 (rE (outI (sgn (!((neg a)==(neg b))) (valN (body a)/valN (body b)))))) rfl r8 (by first|exact div_out (yes_2 sc aol) h0 hdv.1 hdv.2 hrl asuRef4|exact div_bad (yes_2 sc aol) h0 hdv.1 asuRef4) rfl rfl rfl;refine go ?_;refine clb en95 (hc:=r3Valid_ok a _ om) (hk:=?_);rintro _ _ aph rfl;have ao6:=aph.2;refine go ?_;refine clb en95 (hc:=r3Valid_ok b _ om) (hk:=?_);rintro _ _ api rfl;have ao6:=xt ao6 api.2;refine go ?_;exact f_ret3 (t:=4) (u:=5) (s:=6) (v1:=S ([])) (v2:=S ([])) (v3:=.int .i64 30) rfl ao6 (by rw[divI_no (no_r aol)];rfl) rfl rfl rfl;refine go ?_
 refine clb en95 (hc:=r3Valid_ok a _ om) (hk:=?_);rintro _ _ apj rfl;have apk:=apj.2;refine go ?_;exact f_ret3 (t:=4) (u:=5) (s:=6) (v1:=S ([])) (v2:=S ([])) (v3:=.int .i64 30) rfl apk (by rw[divI_no (no_l sc)];rfl) rfl rfl rfl
theorem r3Gcd_ok (a b:List UInt8)(w:World)(sa:a.length<=1000000)(sb:b.length<=1000000):
    CL 114 #[S a,S b] w (Ret w λv w'=>v=resI (gcdI a b)):=by
 refine f_in Tryz.func114 rfl ?_;refine go ?_;rcases Bool.eq_false_or_eq_true (isInt a)with r8|r8;refine go ?_;refine clb en95 (hc:=r3Valid_ok a _ om) (hk:=?_);rintro _ _ ao0 rfl;have sc:=ao0.2;refine go ?_;refine clb en95 (hc:=r3Valid_ok b _ om) (hk:=?_);rintro _ _ ao1 rfl;have sc:=xt sc ao1.2;refine go ?_;rcases Bool.eq_false_or_eq_true (isInt b)with aol|aol;refine go ?_;refine cl en98 (r3digits_ok _ _ r8) ?_;rintro _ _ ao2 ⟨aop,aoq,aor,rfl,aom⟩;have sc:=xt sc ao2.2;have aom:=aom.mono (lo':=w.heap.size) om;have apb:=dg_len aom (val10 r8);have apc:=aom.row.hi;refine go ?_;refine cl en98 (r3digits_ok _ _ aol) ?_;rintro _ _ aoy ⟨aos,aot,aou,rfl,aoo⟩;have aom:=Dg.ext aoy.2 aom;have sc:=xt sc aoy.2;have aoo:=aoo.mono (lo':=w.heap.size) om;have apf:=dg_len aoo (val10 aol);have apg:=aoo.row.hi;refine go ?_;refine c_lp [(7,7),(9,11),(30,40)] (λkk e W=>∃Ax:Option Addr,∃nx:Nat,∃cx:Nat,∃x:Nat,∃Ay:Option Addr,∃ny:Nat,∃cy:Nat,∃y:Nat,(y=kk)∧(e 7=.slice Ax nx cx)∧(e 9=.slice Ay ny cy)∧(nx<=200)∧(ny<=200)∧(Nat.gcd x y=Nat.gcd (valN (body a)) (valN (body b)))∧(Ext w W)∧(Dg W w.heap.size Ax nx cx x)∧(Dg W w.heap.size Ay ny cy y)) ((valN (body b))) ⟨aop,aoq,aor,valN (body a),aos,aot,aou,valN (body b),rfl,rfl,rfl,(dg_len aom (val10 r8)),(dg_len aoo (val10 aol)),rfl,sc,aom,aoo⟩ ?_;rintro _ _ _ ⟨Ax,nx,cx,x,Ay,ny,cy,y,rfl,aoz,aov,q1,q2,q3,aon,hx,hy⟩
 have apk:=bz aon;by_cases hm:0<ny;have hy0:0<y:=toB_ne (B:=10) om (by rw[hy.len];omega);have uhx:=hx.row.hi;have uhy:=hy.row.hi;refine go ?_;refine clb en111 (hc:=r3div_ok hx om hy om hy0) (hk:=?_);rintro _ _ aow ⟨Aq,nq,cq,Ar,nr,cr,rfl,hq,hr⟩;have hy:=Dg.ext aow.2 hy;have aon:=xt aon aow.2;have hr:=hr.mono (lo':=w.heap.size) om;have uhr:=hr.row.hi;refine go ?_;exact lend (hk:=by exact Nat.mod_lt _ hy0) ⟨Ay,ny,cy,y,Ar,nr,cr,x%y,rfl,rfl,rfl,om,(by rw[<-hr.len];exact Nat.le_trans (len_mono om (Nat.le_of_lt (Nat.mod_lt _ hy0))) (by rw[hy.len];exact q2)),(gcd_step q3),aon,hy,hr⟩;have hy0:y=0:=toB_nil (B:=10) om (hy.len.trans om);rw[hy0,Nat.gcd_zero_right]at q3;have uhx:=hx.row.hi;refine go ?_;refine clb en99 (hc:=r3chk_ok hx om false) (hk:=?_);rintro _ _ aox rfl;have aon:=xt aon aox.2;refine go ?_;exact f_ret2 (t:=4) (u:=5) (v1:=S (rS (outI (sgn false x)))) (v2:=.int .i64 (rE (outI (sgn false x)))) rfl aon (by rw[gcdI_ok (yes_2 r8 aol),<-q3];rfl) rfl rfl;refine go ?_;exact f_ret2 (t:=4) (u:=5) (v1:=S ([])) (v2:=.int .i64 30) rfl sc (by rw[gcdI_no (no_r aol)];rfl) rfl rfl;refine go ?_;refine clb en95 (hc:=r3Valid_ok a _ om) (hk:=?_);rintro _ _ ao3 rfl;have ao4:=ao3.2;refine go ?_;exact f_ret2 (t:=4) (u:=5) (v1:=S ([])) (v2:=.int .i64 30) rfl ao4 (by rw[gcdI_no (no_l r8)];rfl) rfl rfl
theorem asuRef5 {p:Prop}(h:p:=by assumption):p:=h
theorem len_showI {n:Int}(h:fits n=true):(showI n).length<=201:=(isInt_len (isInt_showI h)).2
theorem len_outI (n:Int):(rS (outI n)).length<=1000000:=by
  unfold outI
  cases h:fits n with
  |true=>have:=len_showI h;simp[rS];omega
  |false=>simp[rS]
theorem len_addI (a b:List UInt8):(rS (addI a b)).length<=1000000:=by unfold addI;split;exact len_outI _;simp[rS]
theorem len_subI (a b:List UInt8):(rS (subI a b)).length<=1000000:=by unfold subI;split;exact len_outI _;simp[rS]
theorem len_mulI (a b:List UInt8):(rS (mulI a b)).length<=1000000:=by unfold mulI;split;exact len_outI _;simp[rS]
def Gi (a b:List UInt8):Int:=((Int.gcd (valZ a) (valZ b):Nat):Int)
def mk4 (n d:List UInt8):Option R:=if isInt n&&isInt d then makeR (valZ n) (valZ d)else none
section
variable {x y:List UInt8}
theorem gi_pos (h:valZ y≠0):0<Gi x y:=by
  have:0<Int.gcd (valZ x) (valZ y):=Int.gcd_pos_of_ne_zero_right _ h
  unfold Gi;omega
theorem gi_fits (hy:isInt y=true)(h:valZ y≠0):fits (Gi x y)=true:=fits_le (fits_val hy) (by
  have hd:Gi x y∣valZ y:=Int.gcd_dvd_right ..
  exact Nat.le_of_dvd om (Int.natAbs_dvd_natAbs.2 hd))
theorem gcd_some (hx:isInt x=true)(hy:isInt y=true)(h:valZ y≠0):gcdI x y=some (showI (Gi x y)):=by
  unfold gcdI;rw[if_pos (by rw[hx,hy];rfl)];unfold outI
  show(if fits (Gi x y)=true then some (showI (Gi x y))else none)=_
  rw[if_pos (gi_fits hy h)]
theorem div_some {z:List UInt8}(hz:isInt z=true)(hy:isInt y=true)(h:valZ y≠0)(hd:Gi x y∣valZ z):divI z (showI (Gi x y))=some (showI (valZ z/Gi x y),showI (valZ z%Gi x y)):=by
  have hp:=gi_pos (x:=x) h
  rw[divI_ok (by rw[hz,isInt_showI (gi_fits hy h)];rfl) (by rw[body_showI,valN_showN];omega),valZ_showI]
  obtain⟨g,hg⟩:∃g:Nat,Gi x y=(g:Int):=⟨_,rfl⟩
  rw[hg]at hd hp ⊢
  unfold outI
  rw[if_pos (fits_le (fits_val hz) (ediv_abs_le _ _ om hd))]
  rfl
theorem gi_l:Gi x y∣valZ x:=Int.gcd_dvd_left ..
theorem gi_r:Gi x y∣valZ y:=Int.gcd_dvd_right ..
theorem resD_some (q r:List UInt8):resD (some (q,r))=.tuple #[S q,S r,.int .i64 0]:=rfl
theorem resI_some (q:List UInt8):resI (some q)=.tuple #[S q,.int .i64 0]:=rfl
theorem mk_no1 (h:isInt x=false):none=mk4 x y:=by unfold mk4;rw[h];rfl
theorem mk_no2 (h:isInt y=false):none=mk4 x y:=by unfold mk4;rw[h];simp
theorem mk_no3 (h:y=[48]):none=mk4 x y:=by
  unfold mk4 makeR;subst h;rw[valZ_zero];simp
theorem ne_zero (hy:isInt y=true)(h:¬y=[48]):valZ y≠0:=λe=>h ((valZ_eq_zero hy).1 e)
theorem mk_pos (hx:isInt x=true)(hy:isInt y=true)(h0:¬y=[48])(hs:¬cmpS y [48]<0):some (showI (valZ x/Gi x y),showI (valZ y/Gi x y))=mk4 x y:=by
  rw[cmpS_zero hy,cmpI_neg]at hs
  unfold mk4 makeR redN redD
  rw[hx,hy,Bool.and_self,if_pos rfl,if_neg (ne_zero hy h0),if_neg hs,if_neg hs];rfl
theorem mk_neg (hx:isInt x=true)(hy:isInt y=true)(h0:¬y=[48])(hs:cmpS y [48]<0):
    some (showI (valZ (showI (-valZ x))/Gi (showI (-valZ x)) (showI (-valZ y))),showI (valZ (showI (-valZ y))/Gi (showI (-valZ x)) (showI (-valZ y))))=mk4 x y:=by
  rw[cmpS_zero hy,cmpI_neg]at hs
  unfold mk4 makeR redN redD Gi
  rw[hx,hy,Bool.and_self,if_pos rfl,if_neg (ne_zero hy h0),if_pos hs,if_pos hs,valZ_showI,valZ_showI,Int.gcd_neg,Int.neg_gcd]
theorem ne_neg (hy:isInt y=true)(h0:¬y=[48]):valZ (showI (-valZ y))≠0:=by rw[valZ_showI];have:=ne_zero hy h0;omega
end
theorem resR_none:Value.tuple #[.agg #[S [],S []],.int .i64 40]=resR none:=rfl
theorem resR_some (a b:List UInt8):Value.tuple #[.agg #[S a,S b],.int .i64 0]=resR (some (a,b)):=rfl
theorem rE_some {n:Int}{o:Option (List UInt8)}(ho:o=outI n)(h:rE o=0):fits n=true∧rS o=showI n:=by
  subst ho
  unfold outI at *
  cases hf:fits n with
  |true=>exact⟨rfl,rfl⟩
  |false=>rw[hf]at h;simp[rE]at h
theorem rE_none {n:Int}{o:Option (List UInt8)}(ho:o=outI n)(h:¬rE o=0):fits n=false:=by
  subst ho
  unfold outI at *
  cases hf:fits n with
  |true=>rw[hf]at h;simp[rE]at h
  |false=>rfl
section
variable {on od:Option (List UInt8)}{n d:Int}
theorem bo_ok (h1:on=outI n)(h2:od=outI d)(e1:rE on=0)(e2:rE od=0):mk4 (rS on) (rS od)=bothF n d:=by
  obtain⟨f1,s1⟩:=rE_some h1 e1
  obtain⟨f2,s2⟩:=rE_some h2 e2
  unfold bothF mk4
  rw[s1,s2,isInt_showI f1,isInt_showI f2,f1,f2,valZ_showI,valZ_showI]
  first|done|rfl
theorem bo_1 (h1:on=outI n)(e1:¬rE on=0):none=bothF n d:=by unfold bothF;rw[rE_none h1 e1];rfl
theorem bo_2 (h2:od=outI d)(e2:¬rE od=0):none=bothF n d:=by unfold bothF;rw[rE_none h2 e2];simp
end
section
variable {x1 x2 y1 y2:List UInt8}
theorem m_22 (ha:okR (x1,x2)=true)(hb:okR (y1,y2)=true):mulI x2 y2=outI (valZ x2*valZ y2):=mulI_ok (by rw[okR_2 ha,okR_2 hb];rfl)
theorem m_12 (ha:okR (x1,x2)=true)(hb:okR (y1,y2)=true):mulI x1 y2=outI (valZ x1*valZ y2):=mulI_ok (by rw[okR_1 ha,okR_2 hb];rfl)
end
def crS (k:Bool)(o:Option (List UInt8)):List UInt8:=if k then rS o else[]
def crB (k:Bool)(o p q:Option (List UInt8)):Bool:=k&&decide (rE o=0)&&decide (rE p=0)&&decide (rE q=0)
theorem len_crS (k:Bool)(a b:List UInt8):(crS k (mulI a b)).length<=1000000:=by unfold crS;split;exact len_mulI _ _;simp
section
variable {okk:Bool}{op oq od:Option (List UInt8)}{p q s d:Int}{os:List UInt8->List UInt8->Option (List UInt8)}{W:Option R}
theorem cr_ok (h:crB okk op oq od=true):okk=true∧rE op=0∧rE oq=0∧rE od=0:=by
  unfold crB at h;simp at h;exact⟨h.1.1.1,h.1.1.2,h.1.2,h.2⟩
structure Four (okk:Bool)(op oq od:Option (List UInt8))(os:List UInt8->List UInt8->Option (List UInt8))(p q s d:Int)(W:Option R):Prop where
  hp:okk=true->op=outI p
  hq:okk=true->oq=outI q
  hd:okk=true->od=outI d
  hs:fits p=true->fits q=true->os (showI p) (showI q)=outI s
  hW:W=if okk then(if fits p&&fits q then bothF s d else none)else none
theorem f_no (F:Four okk op oq od os p q s d W)(h:crB okk op oq od=false):none=W:=by
  rw[F.hW]
  cases okk with
  |false=>rfl
  | true=>
    have hp:=F.hp rfl
    have hq:=F.hq rfl
    have hd:=F.hd rfl
    rw[if_pos rfl]
    by_cases e1:rE op=0
    · by_cases e2:rE oq=0
      · by_cases e3:rE od=0
        · simp[crB,e1,e2,e3]at h
        · have:=bo_2 (n:=s) hd e3
          rw[<-this];split <;>rfl
      · rw[rE_none hq e2];simp
    · rw[rE_none hp e1];rfl
theorem f_e (F:Four okk op oq od os p q s d W)(h:crB okk op oq od=true)(he:¬rE (os (crS okk op) (crS okk oq))=0):none=W:=by
  obtain⟨rfl,e1,e2,_⟩:=cr_ok h
  obtain⟨f1,s1⟩:=rE_some (F.hp rfl) e1
  obtain⟨f2,s2⟩:=rE_some (F.hq rfl) e2
  rw[F.hW,f1,f2]
  have h1:crS true op=showI p:=s1
  have h2:crS true oq=showI q:=s2
  rw[h1,h2]at he
  have:=bo_1 (d:=d) (F.hs f1 f2) he
  rw[<-this];rfl
theorem f_ok (F:Four okk op oq od os p q s d W)(h:crB okk op oq od=true)(he:rE (os (crS okk op) (crS okk oq))=0):mk4 (rS (os (crS okk op) (crS okk oq))) (crS okk od)=W:=by
  obtain⟨rfl,e1,e2,e3⟩:=cr_ok h
  obtain⟨f1,s1⟩:=rE_some (F.hp rfl) e1
  obtain⟨f2,s2⟩:=rE_some (F.hq rfl) e2
  rw[F.hW,f1,f2]
  have h1:crS true op=showI p:=s1
  have h2:crS true oq=showI q:=s2
  have h3:crS true od=rS od:=rfl
  rw[h1,h2]at he ⊢
  rw[h3,bo_ok (F.hs f1 f2) (F.hd rfl) he e3];rfl
end
theorem four_add (x1 x2 y1 y2:List UInt8):Four (okR (x1,x2)&&okR (y1,y2)) (mulI x1 y2) (mulI y1 x2) (mulI x2 y2) addI (valZ x1*valZ y2) (valZ y1*valZ x2) (valZ x1*valZ y2+valZ y1*valZ x2) (valZ x2*valZ y2) (addR (x1,x2) (y1,y2)):=
  ⟨λh=>m_12 (and_l h) (and_r h),λh=>m_12 (and_r h) (and_l h),λh=>m_22 (and_l h) (and_r h),λh1 h2=>by rw[addI_ok (by rw[isInt_showI h1,isInt_showI h2];rfl),valZ_showI,valZ_showI],rfl⟩
theorem four_sub (x1 x2 y1 y2:List UInt8):Four (okR (x1,x2)&&okR (y1,y2)) (mulI x1 y2) (mulI y1 x2) (mulI x2 y2) subI (valZ x1*valZ y2) (valZ y1*valZ x2) (valZ x1*valZ y2-valZ y1*valZ x2) (valZ x2*valZ y2) (subR (x1,x2) (y1,y2)):=
  ⟨λh=>m_12 (and_l h) (and_r h),λh=>m_12 (and_r h) (and_l h),λh=>m_22 (and_l h) (and_r h),λh1 h2=>by rw[subI_ok (by rw[isInt_showI h1,isInt_showI h2];rfl),valZ_showI,valZ_showI],rfl⟩
theorem sz_int {l:List UInt8}(h:isInt l=true):l.length<=1000000:=by have:=isInt_len h;omega
theorem r4Valid_ok (x y:List UInt8)(w:World)(s1:x.length<=1000000)(s2:y.length<=1000000):
    CL 119 #[.agg #[S x,S y]] w (Ret w λv w'=>v=.bool (okR (x,y))):=by
 refine f_in Tryz.func119 rfl ?_;refine go ?_;refine bx (λ_ aot r8=>?_);have sc:=aot.2;refine go ?_;refine clb en95 (hc:=r3Valid_ok x _ asuRef5) (hk:=?_);rintro _ _ aoo rfl;have⟨r8,sc⟩:=be1 aoo.2 r8 sc;refine go ?_;refine clb en95 (hc:=r3Valid_ok y _ asuRef5) (hk:=?_);rintro _ _ aop rfl;have⟨r8,sc⟩:=be1 aop.2 r8 sc;refine go ?_;rcases Bool.eq_false_or_eq_true (isInt x)with aom|aom;rcases Bool.eq_false_or_eq_true (isInt y)with aol|aol;refine go ?_;refine clb en86 (hc:=r3Cmp_ok y ([48]) _ asuRef5 dc) (hk:=?_);rintro _ _ aoq rfl;have⟨r8,sc⟩:=be1 aoq.2 r8 sc;refine go ?_;by_cases aor:(cmpS y ([48]))<=0;refine go ?_;exact f_ret1 (t:=2) (v:=.bool false) rfl sc (by first|exact okR_c1 asuRef5|exact okR_c2 asuRef5|exact okR_c3 asuRef5|exact okR_c4 asuRef5 asuRef5 asuRef5 asuRef5|exact okR_c5 asuRef5 asuRef5 asuRef5 asuRef5) rfl;refine go ?_;refine clb en96 (hc:=r3Gcd_ok x y _ asuRef5 asuRef5) (hk:=?_);rintro _ _ aos rfl;have sc:=xt sc aos.2;refine go ?_;by_cases aon:(rE (gcdI x y))=0;refine go ?_;refine eqs (b:=[49]) ?_;refine go ?_;exact f_ret1 (t:=2) (v:=.bool (decide ((rS (gcdI x y))=([49])))) rfl sc (by first|exact okR_c1 asuRef5|exact okR_c2 asuRef5|exact okR_c3 asuRef5|exact okR_c4 asuRef5 asuRef5 asuRef5 asuRef5|exact okR_c5 asuRef5 asuRef5 asuRef5 asuRef5) rfl
 refine go ?_;exact f_ret1 (t:=2) (v:=.bool false) rfl sc (by first|exact okR_c1 asuRef5|exact okR_c2 asuRef5|exact okR_c3 asuRef5|exact okR_c4 asuRef5 asuRef5 asuRef5 asuRef5|exact okR_c5 asuRef5 asuRef5 asuRef5 asuRef5) rfl;refine go ?_;exact f_ret1 (t:=2) (v:=.bool false) rfl sc (by first|exact okR_c1 asuRef5|exact okR_c2 asuRef5|exact okR_c3 asuRef5|exact okR_c4 asuRef5 asuRef5 asuRef5 asuRef5|exact okR_c5 asuRef5 asuRef5 asuRef5 asuRef5) rfl;refine go ?_;exact f_ret1 (t:=2) (v:=.bool false) rfl sc (by first|exact okR_c1 asuRef5|exact okR_c2 asuRef5|exact okR_c3 asuRef5|exact okR_c4 asuRef5 asuRef5 asuRef5 asuRef5|exact okR_c5 asuRef5 asuRef5 asuRef5 asuRef5) rfl
theorem r4Make_ok (x y:List UInt8)(w:World)(s1:x.length<=1000000)(s2:y.length<=1000000):
    CL 67 #[S x,S y] w (Ret w λv w'=>v=resR (mk4 x y)):=by
 refine f_in Tryz.func67 rfl ?_;refine go ?_;refine al inf36 (λ_ ao5 sc=>?_);have r8:=ao5.2;refine go ?_;refine clb en95 (hc:=r3Valid_ok x _ asuRef5) (hk:=?_);rintro _ _ aop rfl;have⟨sc,r8⟩:=be1 aop.2 sc r8;refine go ?_;refine clb en95 (hc:=r3Valid_ok y _ asuRef5) (hk:=?_);rintro _ _ aoq rfl;have⟨sc,r8⟩:=be1 aoq.2 sc r8;refine go ?_;rcases Bool.eq_false_or_eq_true (isInt x)with aol|aol;rcases Bool.eq_false_or_eq_true (isInt y)with aom|aom;refine go ?_;refine eqs (b:=[48]) ?_;refine go ?_;by_cases aoo:y=([48]);refine go ?_;refine SA sc (λ_ aor ao6=>?_);have r8:=plw aor r8;have aph:=psz aor;refine go ?_;refine f_out (v:=.tuple #[.agg #[S ([]),S ([])],.int .i64 40]) (res2 (r1:=.cell 4 25) (r2:=.tmp 5) rfl ?_ ?_) r8 (by rw[resR_none];exact congrArg resR (by first|exact mk_no1 asuRef5|exact mk_no2 asuRef5|exact mk_no3 asuRef5));refine res_cellA (t:=4) (cs:=[S ([]),S ([])]) (b:=w.heap.size) (o:=0) U36 rfl sz36 ?_ ?_;exact rfl;exact Blk.cells ao6 (i:=0) rfl;exact res_tmp (t:=5) (by exact rfl) _;have hx:=aol;have hy:=aom;have hy48:=aoo;have hy0:=ne_zero hy hy48;refine go ?_;refine clb en86 (hc:=r3Cmp_ok y ([48]) _ asuRef5 dc) (hk:=?_);rintro _ _ aos rfl;have⟨sc,r8⟩:=be1 aos.2 sc r8;refine go ?_;by_cases aon:(cmpS y ([48]))<0
 have hs:=aon;have hX:=isInt_neg hx;have hY:=isInt_neg hy;have hY0:=ne_neg hy hy48;refine go ?_;refine clb en81 (hc:=r3Sub_ok [48] x _ dc asuRef5) (hk:=?_);rintro _ _ aot hcv;have⟨sc,r8⟩:=be1 aot.2 sc r8;rw[subI_zero hx,resI_some]at hcv;subst hcv;refine go ?_;refine clb en81 (hc:=r3Sub_ok [48] y _ dc asuRef5) (hk:=?_);rintro _ _ aou hcv;have⟨sc,r8⟩:=be1 aou.2 sc r8;rw[subI_zero hy,resI_some]at hcv;subst hcv;refine go ?_;refine cl en96 (r3Gcd_ok (showI (-valZ x)) (showI (-valZ y)) _ (sz_int hX) (sz_int hY)) ?_;rintro _ _ aov hcv;have⟨sc,r8⟩:=be1 aov.2 sc r8;rw[gcd_some hX hY hY0,resI_some]at hcv;subst hcv;refine go ?_;refine cl en85 (r3Div_ok (showI (-valZ x)) (showI (Gi (showI (-valZ x)) (showI (-valZ y)))) _ (sz_int hX) (sz_int (isInt_showI (gi_fits hY hY0)))) ?_;rintro _ _ aow hcv;have⟨sc,r8⟩:=be1 aow.2 sc r8;rw[div_some hX hY hY0 gi_l,resD_some]at hcv;subst hcv;refine go ?_;refine cl en85 (r3Div_ok (showI (-valZ y)) (showI (Gi (showI (-valZ x)) (showI (-valZ y)))) _ (sz_int hY) (sz_int (isInt_showI (gi_fits hY hY0)))) ?_;rintro _ _ aox hcv;have⟨sc,r8⟩:=be1 aox.2 sc r8;rw[div_some hY hY hY0 gi_r,resD_some]at hcv;subst hcv;refine go ?_;refine SA sc (λ_ aoy ao7=>?_);have r8:=plw aoy r8;have apw:=psz aoy;refine go ?_
 refine f_out (v:=.tuple #[.agg #[S (showI (valZ (showI (-valZ x))/Gi (showI (-valZ x)) (showI (-valZ y)))),S (showI (valZ (showI (-valZ y))/Gi (showI (-valZ x)) (showI (-valZ y))))],.int .i64 0]) (res2 (r1:=.cell 4 25) (r2:=.tmp 5) rfl ?_ ?_) r8 (by rw[resR_some,mk_neg hx hy hy48 hs]);refine res_cellA (t:=4) (cs:=[S (showI (valZ (showI (-valZ x))/Gi (showI (-valZ x)) (showI (-valZ y)))),S (showI (valZ (showI (-valZ y))/Gi (showI (-valZ x)) (showI (-valZ y))))]) (b:=w.heap.size) (o:=0) U36 rfl sz36 ?_ ?_;exact rfl;exact Blk.cells ao7 (i:=0) rfl;exact res_tmp (t:=5) (by exact rfl) _;have hs:=aon;have hX:=hx;have hY:=hy;have hY0:=hy0;refine go ?_;refine cl en96 (r3Gcd_ok x y _ (sz_int hX) (sz_int hY)) ?_;rintro _ _ aoz hcv;have⟨sc,r8⟩:=be1 aoz.2 sc r8;rw[gcd_some hX hY hY0,resI_some]at hcv;subst hcv;refine go ?_;refine cl en85 (r3Div_ok x (showI (Gi x y)) _ (sz_int hX) (sz_int (isInt_showI (gi_fits hY hY0)))) ?_;rintro _ _ ao0 hcv;have⟨sc,r8⟩:=be1 ao0.2 sc r8;rw[div_some hX hY hY0 gi_l,resD_some]at hcv;subst hcv;refine go ?_;refine cl en85 (r3Div_ok y (showI (Gi x y)) _ (sz_int hY) (sz_int (isInt_showI (gi_fits hY hY0)))) ?_;rintro _ _ ao1 hcv;have⟨sc,r8⟩:=be1 ao1.2 sc r8;rw[div_some hY hY hY0 gi_r,resD_some]at hcv;subst hcv;refine go ?_;refine SA sc (λ_ ao2 ao8=>?_);have r8:=plw ao2 r8;have ap4:=psz ao2;refine go ?_
 refine f_out (v:=.tuple #[.agg #[S (showI (valZ x/Gi x y)),S (showI (valZ y/Gi x y))],.int .i64 0]) (res2 (r1:=.cell 4 25) (r2:=.tmp 5) rfl ?_ ?_) r8 (by rw[resR_some,mk_pos hx hy hy48 hs]);refine res_cellA (t:=4) (cs:=[S (showI (valZ x/Gi x y)),S (showI (valZ y/Gi x y))]) (b:=w.heap.size) (o:=0) U36 rfl sz36 ?_ ?_;exact rfl;exact Blk.cells ao8 (i:=0) rfl;exact res_tmp (t:=5) (by exact rfl) _;refine go ?_;refine SA sc (λ_ ao3 ao9=>?_);have r8:=plw ao3 r8;have ap6:=psz ao3;refine go ?_;refine f_out (v:=.tuple #[.agg #[S ([]),S ([])],.int .i64 40]) (res2 (r1:=.cell 4 25) (r2:=.tmp 5) rfl ?_ ?_) r8 (by rw[resR_none];exact congrArg resR (by first|exact mk_no1 asuRef5|exact mk_no2 asuRef5|exact mk_no3 asuRef5));refine res_cellA (t:=4) (cs:=[S ([]),S ([])]) (b:=w.heap.size) (o:=0) U36 rfl sz36 ?_ ?_;exact rfl;exact Blk.cells ao9 (i:=0) rfl;exact res_tmp (t:=5) (by exact rfl) _;refine go ?_;refine SA sc (λ_ ao4 apa=>?_);have r8:=plw ao4 r8;have ap8:=psz ao4;refine go ?_;refine f_out (v:=.tuple #[.agg #[S ([]),S ([])],.int .i64 40]) (res2 (r1:=.cell 4 25) (r2:=.tmp 5) rfl ?_ ?_) r8 (by rw[resR_none];exact congrArg resR (by first|exact mk_no1 asuRef5|exact mk_no2 asuRef5|exact mk_no3 asuRef5));refine res_cellA (t:=4) (cs:=[S ([]),S ([])]) (b:=w.heap.size) (o:=0) U36 rfl sz36 ?_ ?_;exact rfl;exact Blk.cells apa (i:=0) rfl
 exact res_tmp (t:=5) (by exact rfl) _
theorem r4cross_ok (x1 x2 y1 y2:List UInt8)(w:World)(s1:x1.length<=1000000)(s2:x2.length<=1000000)(s3:y1.length<=1000000)(s4:y2.length<=1000000):
    CL 117 #[.agg #[S x1,S x2],.agg #[S y1,S y2]] w (Ret w λv w'=>v=.tuple #[S (crS (okR (x1,x2)&&okR (y1,y2)) (mulI x1 y2)),S (crS (okR (x1,x2)&&okR (y1,y2)) (mulI y1 x2)),S (crS (okR (x1,x2)&&okR (y1,y2)) (mulI x2 y2)),.bool (crB (okR (x1,x2)&&okR (y1,y2)) (mulI x1 y2) (mulI y1 x2) (mulI x2 y2))]):=by
 refine f_in Tryz.func117 rfl ?_;refine go ?_;refine bx (λ_ aox sc=>?_);have r8:=aox.2;refine bx (λ_ aow aol=>?_);have⟨sc,r8⟩:=be1 aow.2 sc r8;refine go ?_;refine clb en74 (hc:=r4Valid_ok x1 x2 _ asuRef5 asuRef5) (hk:=?_);rintro _ _ aoq rfl;have⟨sc,aol,r8⟩:=be2 aoq.2 sc aol r8;refine go ?_;refine clb en74 (hc:=r4Valid_ok y1 y2 _ asuRef5 asuRef5) (hk:=?_);rintro _ _ aor rfl;have⟨sc,aol,r8⟩:=be2 aor.2 sc aol r8;refine go ?_;rcases Bool.eq_false_or_eq_true (okR (x1,x2))with aoo|aoo;refine go ?_;rcases Bool.eq_false_or_eq_true (okR (y1,y2))with aos|aos;refine go ?_;refine clb en75 (hc:=r3Mul_ok x1 y2 _ asuRef5 asuRef5) (hk:=?_);rintro _ _ aot rfl;have⟨sc,aol,r8⟩:=be2 aot.2 sc aol r8;refine go ?_;refine clb en75 (hc:=r3Mul_ok y1 x2 _ asuRef5 asuRef5) (hk:=?_);rintro _ _ aou rfl;have⟨sc,aol,r8⟩:=be2 aou.2 sc aol r8;refine go ?_;refine clb en75 (hc:=r3Mul_ok x2 y2 _ asuRef5 asuRef5) (hk:=?_);rintro _ _ aov rfl;have r8:=xt r8 aov.2;refine go ?_;by_cases aom:(rE (mulI x1 y2))=0;by_cases aop:(rE (mulI y1 x2))=0;refine go ?_;exact f_ret4 (t:=4) (u:=5) (s:=6) (q:=7) (v1:=S (rS (mulI x1 y2))) (v2:=S (rS (mulI y1 x2))) (v3:=S (rS (mulI x2 y2))) (v4:=.bool (decide ((rE (mulI x2 y2))=0))) rfl r8 (by simp[crS,crB, *]) rfl rfl rfl rfl
 refine go ?_;exact f_ret4 (t:=4) (u:=5) (s:=6) (q:=7) (v1:=S (rS (mulI x1 y2))) (v2:=S (rS (mulI y1 x2))) (v3:=S (rS (mulI x2 y2))) (v4:=.bool false) rfl r8 (by simp[crS,crB, *]) rfl rfl rfl rfl;refine go ?_;exact f_ret4 (t:=4) (u:=5) (s:=6) (q:=7) (v1:=S (rS (mulI x1 y2))) (v2:=S (rS (mulI y1 x2))) (v3:=S (rS (mulI x2 y2))) (v4:=.bool false) rfl r8 (by simp[crS,crB, *]) rfl rfl rfl rfl;refine go ?_;exact f_ret4 (t:=4) (u:=5) (s:=6) (q:=7) (v1:=S ([])) (v2:=S ([])) (v3:=S ([])) (v4:=.bool false) rfl r8 (by simp[crS,crB, *]) rfl rfl rfl rfl;refine go ?_;exact f_ret4 (t:=4) (u:=5) (s:=6) (q:=7) (v1:=S ([])) (v2:=S ([])) (v3:=S ([])) (v4:=.bool false) rfl r8 (by simp[crS,crB, *]) rfl rfl rfl rfl
theorem r4Add_ok (x1 x2 y1 y2:List UInt8)(w:World)(s1:x1.length<=1000000)(s2:x2.length<=1000000)(s3:y1.length<=1000000)(s4:y2.length<=1000000):
    CL 69 #[.agg #[S x1,S x2],.agg #[S y1,S y2]] w (Ret w λv w'=>v=resR (addR (x1,x2) (y1,y2))):=by
 refine f_in Tryz.func69 rfl ?_;refine go ?_;refine bx (λ_ aoz sc=>?_);have r8:=aoz.2;refine bx (λaon aox aol=>?_);have⟨sc,r8⟩:=be1 aox.2 sc r8;refine al inf36 (λ_ aow aom=>?_);have⟨sc,aol,r8⟩:=be2 aow.2 sc aol r8;refine go ?_;refine clb en80 (hc:=r4cross_ok x1 x2 y1 y2 _ asuRef5 asuRef5 asuRef5 asuRef5) (hk:=?_);rintro _ _ aop rfl;have⟨sc,aol,aom,r8⟩:=be3 aop.2 sc aol aom r8;refine go ?_;rcases Bool.eq_false_or_eq_true (crB (okR (x1,x2)&&okR (y1,y2)) (mulI x1 y2) (mulI y1 x2) (mulI x2 y2))with aoo|aoo;refine go ?_;refine cl en94 (r3Add_ok (crS (okR (x1,x2)&&okR (y1,y2)) (mulI x1 y2)) (crS (okR (x1,x2)&&okR (y1,y2)) (mulI y1 x2)) _ (len_crS _ _ _) (len_crS _ _ _)) ?_;rintro _ _ aoq rfl;have⟨sc,aol,aom,r8⟩:=be3 aoq.2 sc aol aom r8;refine go ?_;by_cases aor:(rE (addI (crS (okR (x1,x2)&&okR (y1,y2)) (mulI x1 y2)) (crS (okR (x1,x2)&&okR (y1,y2)) (mulI y1 x2))))=0;refine go ?_;refine cl en72 (r4Make_ok (rS (addI (crS (okR (x1,x2)&&okR (y1,y2)) (mulI x1 y2)) (crS (okR (x1,x2)&&okR (y1,y2)) (mulI y1 x2)))) (crS (okR (x1,x2)&&okR (y1,y2)) (mulI x2 y2)) _ (len_addI _ _) (len_crS _ _ _)) ?_;rintro _ _ aos rfl;have sc:=be aos.2 sc;have aol:=be aos.2 aol
 have⟨aom,r8⟩:=be1 aos.2 aom r8;refine go ?_;refine SA aom (λ_ aot ao0=>?_);have⟨sc,aol,r8,_⟩:=pl2 aot sc aol r8;refine go ?_;refine f_out (v:=.tuple #[.agg #[S (rN (mk4 (rS (addI (crS (okR (x1,x2)&&okR (y1,y2)) (mulI x1 y2)) (crS (okR (x1,x2)&&okR (y1,y2)) (mulI y1 x2)))) (crS (okR (x1,x2)&&okR (y1,y2)) (mulI x2 y2)))),S (rD (mk4 (rS (addI (crS (okR (x1,x2)&&okR (y1,y2)) (mulI x1 y2)) (crS (okR (x1,x2)&&okR (y1,y2)) (mulI y1 x2)))) (crS (okR (x1,x2)&&okR (y1,y2)) (mulI x2 y2))))],.int .i64 (rER (mk4 (rS (addI (crS (okR (x1,x2)&&okR (y1,y2)) (mulI x1 y2)) (crS (okR (x1,x2)&&okR (y1,y2)) (mulI y1 x2)))) (crS (okR (x1,x2)&&okR (y1,y2)) (mulI x2 y2))))]) (res2 (r1:=.cell 4 25) (r2:=.tmp 5) rfl ?_ ?_) r8 (congrArg resR (f_ok (four_add x1 x2 y1 y2) aoo aor));refine res_cellA (t:=4) (cs:=[S (rN (mk4 (rS (addI (crS (okR (x1,x2)&&okR (y1,y2)) (mulI x1 y2)) (crS (okR (x1,x2)&&okR (y1,y2)) (mulI y1 x2)))) (crS (okR (x1,x2)&&okR (y1,y2)) (mulI x2 y2)))),S (rD (mk4 (rS (addI (crS (okR (x1,x2)&&okR (y1,y2)) (mulI x1 y2)) (crS (okR (x1,x2)&&okR (y1,y2)) (mulI y1 x2)))) (crS (okR (x1,x2)&&okR (y1,y2)) (mulI x2 y2))))]) (b:=aon.heap.size) (o:=0) U36 rfl sz36 ?_ ?_;exact rfl;exact Blk.cells ao0 (i:=0) rfl;exact res_tmp (t:=5) (by exact rfl) _;refine go ?_;refine SA aom (λ_ aou ao1=>?_);have⟨sc,aol,r8,_⟩:=pl2 aou sc aol r8;refine go ?_
 refine f_out (v:=.tuple #[.agg #[S ([]),S ([])],.int .i64 40]) (res2 (r1:=.cell 4 25) (r2:=.tmp 5) rfl ?_ ?_) r8 (by rw[resR_none];exact congrArg resR (f_e (four_add x1 x2 y1 y2) aoo aor));refine res_cellA (t:=4) (cs:=[S ([]),S ([])]) (b:=aon.heap.size) (o:=0) U36 rfl sz36 ?_ ?_;exact rfl;exact Blk.cells ao1 (i:=0) rfl;exact res_tmp (t:=5) (by exact rfl) _;refine go ?_;refine SA aom (λ_ aov ao2=>?_);have⟨sc,aol,r8,_⟩:=pl2 aov sc aol r8;refine go ?_;refine f_out (v:=.tuple #[.agg #[S ([]),S ([])],.int .i64 40]) (res2 (r1:=.cell 4 25) (r2:=.tmp 5) rfl ?_ ?_) r8 (by rw[resR_none];exact congrArg resR (f_no (four_add x1 x2 y1 y2) aoo));refine res_cellA (t:=4) (cs:=[S ([]),S ([])]) (b:=aon.heap.size) (o:=0) U36 rfl sz36 ?_ ?_;exact rfl;exact Blk.cells ao2 (i:=0) rfl;exact res_tmp (t:=5) (by exact rfl) _
theorem r4Sub_ok (x1 x2 y1 y2:List UInt8)(w:World)(s1:x1.length<=1000000)(s2:x2.length<=1000000)(s3:y1.length<=1000000)(s4:y2.length<=1000000):
    CL 70 #[.agg #[S x1,S x2],.agg #[S y1,S y2]] w (Ret w λv w'=>v=resR (subR (x1,x2) (y1,y2))):=by
 refine f_in Tryz.func70 rfl ?_;refine go ?_;refine bx (λ_ aoz sc=>?_);have r8:=aoz.2;refine bx (λaon aox aol=>?_);have⟨sc,r8⟩:=be1 aox.2 sc r8;refine al inf36 (λ_ aow aom=>?_);have⟨sc,aol,r8⟩:=be2 aow.2 sc aol r8;refine go ?_;refine clb en80 (hc:=r4cross_ok x1 x2 y1 y2 _ asuRef5 asuRef5 asuRef5 asuRef5) (hk:=?_);rintro _ _ aop rfl;have⟨sc,aol,aom,r8⟩:=be3 aop.2 sc aol aom r8;refine go ?_;rcases Bool.eq_false_or_eq_true (crB (okR (x1,x2)&&okR (y1,y2)) (mulI x1 y2) (mulI y1 x2) (mulI x2 y2))with aoo|aoo;refine go ?_;refine cl en81 (r3Sub_ok (crS (okR (x1,x2)&&okR (y1,y2)) (mulI x1 y2)) (crS (okR (x1,x2)&&okR (y1,y2)) (mulI y1 x2)) _ (len_crS _ _ _) (len_crS _ _ _)) ?_;rintro _ _ aoq rfl;have⟨sc,aol,aom,r8⟩:=be3 aoq.2 sc aol aom r8;refine go ?_;by_cases aor:(rE (subI (crS (okR (x1,x2)&&okR (y1,y2)) (mulI x1 y2)) (crS (okR (x1,x2)&&okR (y1,y2)) (mulI y1 x2))))=0;refine go ?_;refine cl en72 (r4Make_ok (rS (subI (crS (okR (x1,x2)&&okR (y1,y2)) (mulI x1 y2)) (crS (okR (x1,x2)&&okR (y1,y2)) (mulI y1 x2)))) (crS (okR (x1,x2)&&okR (y1,y2)) (mulI x2 y2)) _ (len_subI _ _) (len_crS _ _ _)) ?_;rintro _ _ aos rfl;have sc:=be aos.2 sc;have aol:=be aos.2 aol
 have⟨aom,r8⟩:=be1 aos.2 aom r8;refine go ?_;refine SA aom (λ_ aot ao0=>?_);have⟨sc,aol,r8,_⟩:=pl2 aot sc aol r8;refine go ?_;refine f_out (v:=.tuple #[.agg #[S (rN (mk4 (rS (subI (crS (okR (x1,x2)&&okR (y1,y2)) (mulI x1 y2)) (crS (okR (x1,x2)&&okR (y1,y2)) (mulI y1 x2)))) (crS (okR (x1,x2)&&okR (y1,y2)) (mulI x2 y2)))),S (rD (mk4 (rS (subI (crS (okR (x1,x2)&&okR (y1,y2)) (mulI x1 y2)) (crS (okR (x1,x2)&&okR (y1,y2)) (mulI y1 x2)))) (crS (okR (x1,x2)&&okR (y1,y2)) (mulI x2 y2))))],.int .i64 (rER (mk4 (rS (subI (crS (okR (x1,x2)&&okR (y1,y2)) (mulI x1 y2)) (crS (okR (x1,x2)&&okR (y1,y2)) (mulI y1 x2)))) (crS (okR (x1,x2)&&okR (y1,y2)) (mulI x2 y2))))]) (res2 (r1:=.cell 4 25) (r2:=.tmp 5) rfl ?_ ?_) r8 (congrArg resR (f_ok (four_sub x1 x2 y1 y2) aoo aor));refine res_cellA (t:=4) (cs:=[S (rN (mk4 (rS (subI (crS (okR (x1,x2)&&okR (y1,y2)) (mulI x1 y2)) (crS (okR (x1,x2)&&okR (y1,y2)) (mulI y1 x2)))) (crS (okR (x1,x2)&&okR (y1,y2)) (mulI x2 y2)))),S (rD (mk4 (rS (subI (crS (okR (x1,x2)&&okR (y1,y2)) (mulI x1 y2)) (crS (okR (x1,x2)&&okR (y1,y2)) (mulI y1 x2)))) (crS (okR (x1,x2)&&okR (y1,y2)) (mulI x2 y2))))]) (b:=aon.heap.size) (o:=0) U36 rfl sz36 ?_ ?_;exact rfl;exact Blk.cells ao0 (i:=0) rfl;exact res_tmp (t:=5) (by exact rfl) _;refine go ?_;refine SA aom (λ_ aou ao1=>?_);have⟨sc,aol,r8,_⟩:=pl2 aou sc aol r8;refine go ?_
 refine f_out (v:=.tuple #[.agg #[S ([]),S ([])],.int .i64 40]) (res2 (r1:=.cell 4 25) (r2:=.tmp 5) rfl ?_ ?_) r8 (by rw[resR_none];exact congrArg resR (f_e (four_sub x1 x2 y1 y2) aoo aor));refine res_cellA (t:=4) (cs:=[S ([]),S ([])]) (b:=aon.heap.size) (o:=0) U36 rfl sz36 ?_ ?_;exact rfl;exact Blk.cells ao1 (i:=0) rfl;exact res_tmp (t:=5) (by exact rfl) _;refine go ?_;refine SA aom (λ_ aov ao2=>?_);have⟨sc,aol,r8,_⟩:=pl2 aov sc aol r8;refine go ?_;refine f_out (v:=.tuple #[.agg #[S ([]),S ([])],.int .i64 40]) (res2 (r1:=.cell 4 25) (r2:=.tmp 5) rfl ?_ ?_) r8 (by rw[resR_none];exact congrArg resR (f_no (four_sub x1 x2 y1 y2) aoo));refine res_cellA (t:=4) (cs:=[S ([]),S ([])]) (b:=aon.heap.size) (o:=0) U36 rfl sz36 ?_ ?_;exact rfl;exact Blk.cells ao2 (i:=0) rfl;exact res_tmp (t:=5) (by exact rfl) _
theorem sgn_ex (n:Int):∃ng x,n=sgn ng x∧(ng=true->0<x)∧x=n.natAbs:=by
  by_cases h:n<0
  · exact⟨true,n.natAbs,by simp[sgn];omega,λ_=>by omega,rfl⟩
  · exact⟨false,n.natAbs,by simp[sgn];omega,by simp,rfl⟩
theorem fi_fin {ng:Bool}{x:Nat}(h:ng=true->0<x):txtR (decide (sgn ng x<0)) x=showI (sgn ng x):=by
  rw[<-txtR_show]
  congr 1
  cases ng with
  | false=>
    have:decide (sgn false x<0)=false:=decide_eq_false (by show¬(x:Int)<0;omega)
    rw[this]
  | true=>
    have:=h rfl
    have:decide (sgn true x<0)=true:=decide_eq_true (by show -(x:Int)<0;omega)
    rw[this]
theorem sgn_zero {ng:Bool}{x:Nat}:sgn ng x=0↔x=0:=by cases ng <;>simp[sgn] <;>omega
theorem sgn_bd {ng:Bool}{x:Nat}:-(x:Int)<=sgn ng x∧sgn ng x<=(x:Int):=by cases ng <;>simp[sgn] <;>omega
theorem sgn_d1 {ng:Bool}{d:Nat}(h:ng=true∧0<d):sgn ng d<0∧-sgn ng d=(d:Int):=by rw[h.1];simp[sgn];omega
theorem sgn_d2 {ng:Bool}{d:Nat}(h:¬(ng=true∧0<d)):sgn ng d=(d:Int):=by cases ng <;>simp_all [sgn]
theorem toB_step {x:Nat}(h:¬x=0):toB 10 x=x%10::toB 10 (x/10):=toB_pos 10 x om om
def pickI (c n:Int):Int:=(if c<0 then -(c+1)else c)%n
theorem pick_bd (c n:Int)(h:0<n):0<=pickI c n∧pickI c n<n:=⟨Int.emod_nonneg _ om,Int.emod_lt_of_pos _ h⟩
theorem pick_neg {c n:Int}(h:c<0):-(c+1)%n=pickI c n:=by unfold pickI;rw[if_pos h]
theorem pick_pos {c n:Int}(h:¬c<0):c%n=pickI c n:=by unfold pickI;rw[if_neg h]
def zeroOr (s:List UInt8):List UInt8:=if s=[48]then s else[49]
theorem len_small {n:Int}(h:-100000000<=n∧n<=100000000):(showI n).length<=1000000:=by
  have:fits n=true:=by
    unfold fits;rw[decide_eq_true_eq]
    have h7:(10:Nat)^9<=10^200:=Nat.pow_le_pow_right om om
    omega
  have:=len_showI this;omega
theorem zo_len (s:List UInt8)(h:s.length<=1000000):(zeroOr s).length<=1000000:=by
  unfold zeroOr;split
  · exact h
  · simp
theorem fromInt_ok0 {ng:Bool}{x0:Nat}{w:World}(hng:ng=true->0<x0)(hx0:x0<=100000000):
    CL 68 #[.int .i64 (sgn ng x0)] w (Ret w λv w'=>v=S (showI (sgn ng x0))):=by
 have hl7:(toB 10 x0).length<=9:=(length_toB_le_iff 10 om x0 9).2 om;refine f_in Tryz.func68 rfl ?_;refine go ?_;have own0:World.ownsRow w w.heap.size 3 1 (.slice none 0 0) 0 (ints []):=own_nil;have aot:=Ext.refl w;refine c_lp [(3,5),(9,22)] (λkk e W=>∃x:Nat,∃ds:List Nat,∃vv:Value,(x=kk)∧(e 4=.int .i64 (sgn ng x))∧(e 3=vv)∧(toB 10 x0=ds++toB 10 x)∧(x<=100000000)∧(Ext w W)∧(W.ownsRow w.heap.size 3 1 vv ds.length (ints ds))) ((x0)) ⟨x0,[],.slice none 0 0,rfl,rfl,rfl,rfl,hx0,aot,own0⟩ ?_;rintro _ _ _ ⟨x,ds,vv,rfl,sc,aol,q1,q2,r8,ho⟩;have ao1:=bz r8;by_cases hx:x=0;rw[hx,toB_zero,List.append_nil]at q1;obtain⟨_,_,rfl,hdg⟩:=dg_own ho q1.symm;have uhdg:=hdg.row.hi;have hln:ds.length<=9:=by rw[<-q1];exact hl7
 have zq1q:=show sgn ng x=0 from sgn_zero.2 hx;refine go ?_;refine clb en97 (hc:=r3text_ok hdg om (decide ((sgn ng x0)<0))) (hk:=?_);rintro _ _ aoo rfl;have r8:=xt r8 aoo.2;refine go ?_;exact f_ret1 (t:=2) (v:=S (txtR (decide ((sgn ng x0)<0)) x0)) rfl r8 (by rw[fi_fin hng]) rfl;by_cases hd:ng=true∧0<x%10;rw[toB_step hx]at q1;have hlq:=congrArg List.length q1;rw[List.length_append,List.length_cons]at hlq;have zq2q:=show¬sgn ng x=0 from λh=>hx (sgn_zero.1 h);refine go ?_;refine l_op (k_remT (a:=sgn ng x) (b:=10) (c:=sgn ng (x%10)) rfl rfl dc (by rw[tmod_sgn]) ?_);have zq3q:=(sgn_d1 hd).1;refine go ?_;refine l_op (k_neg (a:=sgn ng (x%10)) rfl (by have:=@sgn_bd ng (x%10);unfold In64;omega) ?_);rw[(sgn_d1 hd).2];refine go ?_;refine l_op (k_move (v:=vv) aol ?_);refine go ?_;refine BS (λ_ aom _ aou=>?_);have ao6:=own_ne_new ho;have ho:=own_ext aom ho;have r8:=xt r8 aom;have ao7:=bz aom;refine AP ho (Rw.of_own aou) (λaop _ aov aoq _=>?_);have r8:=low_app ho om om r8 aoq;have apa:=aoq.size;refine l_op (k_assign (v:=aop) rfl ?_);refine go ?_;refine l_op (k_quoT (a:=sgn ng x) (b:=10) (c:=sgn ng (x/10)) rfl rfl dc (tdiv_sgn _ _) (by have:=@sgn_bd ng (x/10);unfold In64;omega) ?_);refine go ?_;exact lend ⟨x/10,ds++[x%10],aop,rfl,rfl,rfl,(by rw[List.append_assoc];exact q1),om,r8,(own_cast aov (by simp) (by rw[ints_snoc]))⟩
 rw[toB_step hx]at q1;have hlq:=congrArg List.length q1;rw[List.length_append,List.length_cons]at hlq;have zq4q:=show¬sgn ng x=0 from λh=>hx (sgn_zero.1 h);refine go ?_;refine l_op (k_remT (a:=sgn ng x) (b:=10) (c:=((x%10:Nat):Int)) rfl rfl dc (by rw[tmod_sgn];exact sgn_d2 hd) ?_);refine go ?_;refine l_op (k_move (v:=vv) aol ?_);refine go ?_;refine BS (λ_ aon _ aow=>?_);have apd:=own_ne_new ho;have ho:=own_ext aon ho;have r8:=xt r8 aon;have ape:=bz aon;refine AP ho (Rw.of_own aow) (λaor _ aox aos _=>?_);have r8:=low_app ho om om r8 aos;have aph:=aos.size;refine l_op (k_assign (v:=aor) rfl ?_);refine go ?_;refine l_op (k_quoT (a:=sgn ng x) (b:=10) (c:=sgn ng (x/10)) rfl rfl dc (tdiv_sgn _ _) (by have:=@sgn_bd ng (x/10);unfold In64;omega) ?_);refine go ?_;exact lend ⟨x/10,ds++[x%10],aor,rfl,rfl,rfl,(by rw[List.append_assoc];exact q1),om,r8,(own_cast aox (by simp) (by rw[ints_snoc]))⟩
theorem fromInt_ok (n:Int)(w:World)(h:-100000000<=n∧n<=100000000):CL 68 #[.int .i64 n] w (Ret w λv _=>v=S (showI n)):=by
  obtain⟨ng,x,rfl,h1,h2⟩:=sgn_ex n
  exact fromInt_ok0 h1 (by have:=natAbs_sgn ng x;omega)
theorem zeroOr_ok (x:List UInt8)(w:World):
    CL 120 #[S x] w (Ret w λv w'=>v=S (zeroOr x)):=by
 refine f_in Tryz.func120 rfl ?_;refine go ?_;refine eqs (b:=[48]) ?_;refine go ?_;by_cases r8:x=([48]);refine go ?_;exact f_ret1 (t:=2) (v:=S x) rfl (Ext.refl _) (by simp[zeroOr, *]) rfl;refine go ?_;exact f_ret1 (t:=2) (v:=S ([49])) rfl (Ext.refl _) (by simp[zeroOr, *]) rfl
theorem pick15_ok (c m:Int)(w:World)(hc:In64 c)(hm:0<m):
    CL 30 #[.int .i64 c,.int .i64 m] w (Ret w λv w'=>v=.int .i64 (pickI c m)):=by
 unfold In64 at hc;refine f_in Tryz.func30 rfl ?_;refine go ?_;by_cases r8:c<0;refine go ?_;refine adi ?_;refine l_op (k_neg (a:=c+1) rfl (by unfold In64;omega) ?_);refine go ?_;refine l_op (k_rem (a:=-(c+1)) (b:=m) (c:=pickI c m) rfl rfl om om (pick_neg r8) ?_);refine go ?_;exact f_ret1 (t:=4) (v:=.int .i64 (pickI c m)) rfl (Ext.refl _) rfl rfl;refine go ?_;refine l_op (k_rem (a:=c) (b:=m) (c:=pickI c m) rfl rfl om om (pick_pos r8) ?_);refine go ?_;exact f_ret1 (t:=4) (v:=.int .i64 (pickI c m)) rfl (Ext.refl _) rfl rfl
theorem pickL15_ok (c m:Int)(w:World)(hc:In64 c)(hm:0<m):
    CL 10 #[.int .i64 c,.int .i64 m] w (Ret w λv w'=>v=.int .i64 (pickI c m)):=by
 unfold In64 at hc;refine f_in Tryz.func10 rfl ?_;refine go ?_;by_cases r8:c<0;refine go ?_;refine adi ?_;refine l_op (k_neg (a:=c+1) rfl (by unfold In64;omega) ?_);refine go ?_;refine l_op (k_rem (a:=-(c+1)) (b:=m) (c:=pickI c m) rfl rfl om om (pick_neg r8) ?_);refine go ?_;exact f_ret1 (t:=4) (v:=.int .i64 (pickI c m)) rfl (Ext.refl _) rfl rfl;refine go ?_;refine l_op (k_rem (a:=c) (b:=m) (c:=pickI c m) rfl rfl om om (pick_pos r8) ?_);refine go ?_;exact f_ret1 (t:=4) (v:=.int .i64 (pickI c m)) rfl (Ext.refl _) rfl rfl
theorem of_ok (n m:Int)(w:World)(hn:-100000000<=n∧n<=100000000)(hm:-100000000<=m∧m<=100000000):
    CL 29 #[.int .i64 n,.int .i64 m] w (Ret w λv w'=>v=resR (mk4 (showI n) (showI m))):=by
 refine f_in Tryz.func29 rfl ?_;refine go ?_;refine al inf36 (λ_ aop sc=>?_);have r8:=aop.2;refine go ?_;refine clb en73 (hc:=fromInt_ok n _ om) (hk:=?_);rintro _ _ aol rfl;have⟨sc,r8⟩:=be1 aol.2 sc r8;refine go ?_;refine clb en73 (hc:=fromInt_ok m _ om) (hk:=?_);rintro _ _ aom rfl;have⟨sc,r8⟩:=be1 aom.2 sc r8;refine clb en72 (hc:=r4Make_ok (showI n) (showI m) _ (len_small om) (len_small om)) (hk:=?_);rintro _ _ aon rfl;have⟨sc,r8⟩:=be1 aon.2 sc r8;refine go ?_;refine SA sc (λ_ aoo aoq=>?_);have r8:=plw aoo r8;have aoz:=psz aoo;refine go ?_;refine f_out (v:=.tuple #[.agg #[S (rN (mk4 (showI n) (showI m))),S (rD (mk4 (showI n) (showI m)))],.int .i64 (rER (mk4 (showI n) (showI m)))]) (res2 (r1:=.cell 4 25) (r2:=.tmp 5) rfl ?_ ?_) r8 rfl;refine res_cellA (t:=4) (cs:=[S (rN (mk4 (showI n) (showI m))),S (rD (mk4 (showI n) (showI m)))]) (b:=w.heap.size) (o:=0) U36 rfl sz36 ?_ ?_;exact rfl;exact Blk.cells aoq (i:=0) rfl;exact res_tmp (t:=5) (by exact rfl) _
theorem fits_small {n:Int}(h:-100000000<=n∧n<=100000000):fits n=true:=(Q9.fz (a:=n) (b:=1) ⟨Nat.lt_of_le_of_lt (show n.natAbs<=100000000 by omega) dc,by decide,by decide⟩).1.fits
theorem mk4_q {n m:Int}(hn:-100000000<=n∧n<=100000000)(hm:0<m∧m<=100000000):mk4 (showI n) (showI m)=some (qR n m):=by
  unfold mk4
  rw[isInt_showI (fits_small hn),isInt_showI (fits_small (n:=m) om),valZ_showI,valZ_showI]
  rw[show(true&&true)=true from rfl,if_pos rfl]
  unfold makeR qR
  rw[if_neg (show¬m=0 by omega)]
theorem of_q {n m:Int}{w:World}(hn:-100000000<=n∧n<=100000000)(hm:0<m∧m<=100000000):CL 29 #[.int .i64 n,.int .i64 m] w (Ret w λv _=>v=.tuple #[QV n m,.int .i64 0]):=by
  have h:=of_ok n m w hn om
  rw[mk4_q hn hm]at h
  exact h
theorem q_len {a b:Int}(h:Q9 a b):(qR a b).1.length<=1000000∧(qR a b).2.length<=1000000:=by
  have h1:=len_showI (h.red.fz.1.fits)
  have h2:=len_showI (h.red.fz.2.fits)
  unfold qR
  exact⟨by dsimp only;omega,by dsimp only;omega⟩
theorem add_q4 {a b c d e f:Int}{w:World}(h1:Q9 a b)(h2:Q9 c d)(he:qR (a*d+c*b) (b*d)=qR e f):CL 69 #[QV a b,QV c d] w (Ret w λv _=>v=.tuple #[QV e f,.int .i64 0]):=by
  have h:=r4Add_ok (qR a b).1 (qR a b).2 (qR c d).1 (qR c d).2 w (q_len h1).1 (q_len h1).2 (q_len h2).1 (q_len h2).2
  rw[show addR ((qR a b).1,(qR a b).2) ((qR c d).1,(qR c d).2)=some (qR (a*d+c*b) (b*d))from addR_q h1 h2,he]at h
  exact h
theorem cEqZ {f:FuncId}{a:Array Value}{w:World}{x y:Int}(h:CL f a w (Ret w λv _=>v=.int .i64 x))(e:x=y):CL f a w (Ret w λv _=>v=.int .i64 y):=e▸h
end Go.Proofs.YtmehbpjpbbhohaaGreatDoor
namespace Go.Proofs.YtmehbpjpbbhohaaGreatDoor
open Go Go.Eng Go.RowKit
structure Fr (A B G:Int):Prop where
  a0:0<A
  a1:A<=100
  b1:-300000<=B
  b2:B<=300000
  g0:0<G
  g1:G<=10000
def Pb (X:Int):Prop:=-50000<=X∧X<=50000
abbrev TSv (A B G M s e L H O U:Int):Value:=.agg (t7 (A*M+B) G (A*s) G (A*e) G (A*L+B) G (A*H+B) G (A*O+B) G (A*U+B) G)
structure Tst (M s e L H O U:Int):Prop where
  m:-15000<=M∧M<=15000
  s:0<s∧s<=5000
  e:0<e∧e<=5000
  l:-50000<=L∧L<H∧H<=50000
  o:-50000<=O∧O<U∧U<=50000
theorem mul_bd {a b p q:Int}(h1:-p<=a∧a<=p)(h2:-q<=b∧b<=q):-(p*q)<=a*b∧a*b<=p*q:=by
  have h:=Nat.mul_le_mul (show a.natAbs<=p.natAbs by omega) (show b.natAbs<=q.natAbs by omega)
  rw[<-Int.natAbs_mul,<-Int.natAbs_mul]at h
  have h0:0<=p*q:=Int.mul_nonneg om om
  omega
section
variable {A B G M s e L H O U X Y D:Int}
theorem Fr.pos (f:Fr A B G)(hX:Pb X):-10000000<=A*X+B∧A*X+B<=10000000:=by
  have h:=mul_bd (p:=100) (q:=50000) (show -100<=A∧A<=100 by have:=f.a0;have:=f.a1;omega) hX
  have:=f.b1
  have:=f.b2
  omega
theorem Fr.dis (f:Fr A B G)(hD:0<D∧D<=5000):0<A*D∧A*D<=50000000:=by
  have h:=mul_bd (p:=100) (q:=5000) (show -100<=A∧A<=100 by have:=f.a0;have:=f.a1;omega) (show -5000<=D∧D<=5000 by omega)
  have:=Int.mul_pos f.a0 hD.1
  omega
theorem Fr.szX (f:Fr A B G)(hX:Pb X):Sz (A*X+B) G:=by
  have:=f.pos hX
  exact⟨by omega,f.g0,by have:=f.g1;omega⟩
theorem Fr.szD (f:Fr A B G)(hD:0<D∧D<=5000):Sz (A*D) G:=by
  have:=f.dis hD
  exact⟨by omega,f.g0,by have:=f.g1;omega⟩
theorem Sz.shR {a b:Int}(h:Sz a b):ShR (qR a b):=ShR.mk h.1 h.2.1 h.2.2
theorem Tst.pb (t:Tst M s e L H O U):Pb M∧Pb L∧Pb H∧Pb O∧Pb U:=by
  have:=t.m
  have:=t.l
  have:=t.o
  unfold Pb
  omega
theorem Fr.lt (f:Fr A B G):(A*X+B)*G<(A*Y+B)*G↔X<Y:=by
  rw[Int.mul_lt_mul_right f.g0,Int.add_lt_add_iff_right,Int.mul_lt_mul_left f.a0]
theorem Fr.le (f:Fr A B G):(A*X+B)*G<=(A*Y+B)*G↔X<=Y:=by
  rw[Int.mul_le_mul_right f.g0,Int.add_le_add_iff_right,Int.mul_le_mul_left f.a0]
theorem valid_c (f:Fr A B G)(t:Tst M s e L H O U){w:World}(ht:Tb w):CL 16 #[TSv A B G M s e L H O U] w (Ret w λv _=>v=.bool true):=by
  obtain⟨b1,b2,b3,b4,b5⟩:=t.pb
  have d1:=f.dis t.s
  have d2:=f.dis t.e
  refine valid15_ok ?_ (f.szD t.s).q9 (f.szD t.e).q9 (f.szX b2).q9 (f.szX b3).q9 (f.szX b4).q9 (f.szX b5).q9 ?_ ?_ ?_ ?_ ht
  · intro q hq
    simp only[List.mem_cons,List.not_mem_nil,or_false]at hq
    rcases hq with rfl|rfl|rfl|rfl|rfl|rfl|rfl
    · exact(f.szX b1).shR
    · exact(f.szD t.s).shR
    · exact(f.szD t.e).shR
    · exact(f.szX b2).shR
    · exact(f.szX b3).shR
    · exact(f.szX b4).shR
    · exact(f.szX b5).shR
  · exact decide_eq_true (cmpI_neg.2 om)
  · exact decide_eq_true (cmpI_neg.2 om)
  · exact decide_eq_true (cmpI_neg.2 (f.lt.2 t.l.2.1))
  · exact decide_eq_true (cmpI_neg.2 (f.lt.2 t.o.2.1))
end
theorem Sh.bd {pl:Nat}{n d f c:Int}(h:Sh pl n d f c):0<=f∧f<=c∧c<=tenI pl:=by
  obtain⟨_,_,_,_,a,b,c⟩:=h
  exact⟨b,a,c⟩
theorem t12 {pl:Nat}(h:pl<=5):tenI pl<=10^5∧0<tenI pl:=⟨by
  rcases(by omega:pl=0∨pl=1∨pl=2∨pl=3∨pl=4∨pl=5)with rfl|rfl|rfl|rfl|rfl|rfl <;>decide,ten_pos pl⟩
theorem q9_T {x:Int}{pl:Nat}(p5:pl<=5)(h:0<=x∧x<=tenI pl):Q9 x (tenI pl):=by
  have:=t12 p5
  exact q9_12 om this.2 om
section
variable {A B G M s e L H O U X Y D f1 c1 f2 c2:Int}{n0 b bm bp bn bf pl:Nat}{w:World}
theorem mass_c (f:Fr A B G)(hX:Pb X)(hY:Pb Y)(hM:Pb M)(hD:0<D∧D<=5000)(p5:pl<=5)(x1:Sh pl (Y-M) D f1 c1)(x2:Sh pl (X-M) D f2 c2)(hT:TabW w n0 b bm bp bn bf pl)(hn0:n0<=w.heap.size):
    CL 38 #[TabV pl bn bf,IV (A*X+B) G (A*Y+B) G,QV (A*M+B) G,QV (A*D) G] w (RetA λv w'=>w.grownBy w' (some b)∧TabW w' n0 b bm bp bn bf pl∧v=IV (max 0 (f1-c2)) (tenI pl) (max 0 (c1-f2)) (tenI pl)):=by
  have T:=t12 p5
  have k1:=x1.bd
  have k2:=x2.bd
  have z1:=f.szX hX
  have z2:=f.szX hY
  have z3:=f.szX hM
  have hg:=f.g0
  have hd:=f.dis hD
  have sz:∀Z,Pb Z->Sz (Z-M) D:=λZ hZ=>by
    unfold Pb at hZ hM
    exact⟨by omega,hD.1,by omega⟩
  have hp:0<G*G*(A*D):=Int.mul_pos (Int.mul_pos hg hg) hd.1
  exact mass_ok om T.2 z1.q9 z2.q9 z3.q9 (f.szD hD).q9 hd.1 (q9_sub z2.1 z2.2.1 z2.2.2 z3.1 z3.2.1 z3.2.2) (q9_sub z1.1 z1.2.1 z1.2.2 z3.1 z3.2.1 z3.2.2)
    (qR_congr hp hD.1 (by grind)) (qR_congr hp hD.1 (by grind)) (sz _ hY) (sz _ hX) x1 x2 (q9_T p5 ⟨k1.1,by omega⟩) (q9_T p5 ⟨by omega,k1.2.2⟩) (q9_T p5 ⟨k2.1,by omega⟩) (q9_T p5 ⟨by omega,k2.2.2⟩)
    (q9_TT om om T.2 om) (q9_TT om om T.2 om) hT hn0
end
structure Tpo (pl:Nat)(sd:Sd)(P:Int->Prop)(A B G M s e L H O U:Int):Prop where
  f:Fr A B G
  t:Tst M s e L H O U
  pb:∀X,P X->Pb X
  sh:∀X,P X->Sh pl (X-M) s (sd.f X) (sd.c X)
  su:∀X,P X∨X=sd.ct->Sh pl (U-X) e (sd.fu X) (sd.cu X)
  sl:∀X,P X∨X=sd.ct->Sh pl (O-X) e (sd.fl X) (sd.cl X)
  ct:2*sd.ct=O+U
  ok:sd.Ok (tenI pl)
  p1:1<=pl
  p5:pl<=5
section
variable {A B G M s e L H O U X Y:Int}{pl:Nat}{sd:Sd}{P:Int->Prop}
theorem Tpo.mass (h:Tpo pl sd P A B G M s e L H O U)(hX:P X)(hY:P Y){w:World}{n0 b bm bp bn bf:Nat}(hT:TabW w n0 b bm bp bn bf pl)(hn0:n0<=w.heap.size):
    CL 38 #[TabV pl bn bf,IV (A*X+B) G (A*Y+B) G,QV (A*M+B) G,QV (A*s) G] w (RetA λv w'=>w.grownBy w' (some b)∧TabW w' n0 b bm bp bn bf pl∧v=IV (mLo sd.f sd.c X Y) (tenI pl) (mHi sd.f sd.c X Y) (tenI pl)):=
  mass_c h.f (h.pb _ hX) (h.pb _ hY) h.t.pb.1 h.t.s h.p5 (h.sh _ hY) (h.sh _ hX) hT hn0
theorem Tpo.bc (h:Tpo pl sd P A B G M s e L H O U)(hX:P X∨X=sd.ct):Pb X:=by
  rcases hX with h1|rfl
  · exact h.pb _ h1
  · have:=h.t.o
    have:=h.ct
    unfold Pb
    omega
theorem Tpo.chance (h:Tpo pl sd P A B G M s e L H O U)(hX:P X∨X=sd.ct){w:World}{n0 b bm bp bn bf:Nat}(hT:TabW w n0 b bm bp bn bf pl)(hn0:n0<=w.heap.size):
    CL 53 #[TabV pl bn bf,TSv A B G M s e L H O U,QV (A*X+B) G] w (RetA λv w'=>w.grownBy w' (some b)∧TabW w' n0 b bm bp bn bf pl∧v=IV (sd.chL X) (tenI pl) (sd.chH X) (tenI pl)):=
  chance_ok (λW hW hn=>mass_c h.f h.t.pb.2.2.2.1 h.t.pb.2.2.2.2 (h.bc hX) h.t.e h.p5 (h.su _ hX) (h.sl _ hX) hW hn) hT hn0
theorem contains_c (f:Fr A B G)(hX:Pb X)(hY:Pb Y)(hXY:X<=Y){Z:Int}(hZ:Pb Z){w:World}(ht:Tb w):CL 64 #[IV (A*X+B) G (A*Y+B) G,QV (A*Z+B) G] w (Ret w λv _=>v=.bool (decide (X<=Z∧Z<=Y))):=by
  have h:=encContainsG_ok (f.szX hX).q9 (f.szX hY).q9 (f.szX hZ).q9 (cmpI_nonpos.2 (f.le.2 hXY)) ht
  simp only[cmpI_nonpos,f.le]at h
  rwa [Bool.decide_and]
theorem Tpo.bounds (h:Tpo pl sd P A B G M s e L H O U)(hX:P X)(hY:P Y)(hXY:X<=Y){w:World}{n0 b bm bp bn bf:Nat}(hT:TabW w n0 b bm bp bn bf pl)(hn0:n0<=w.heap.size):
    CL 83 #[TabV pl bn bf,TSv A B G M s e L H O U,IV (A*X+B) G (A*Y+B) G] w (RetA λv w'=>w.grownBy w' (some b)∧TabW w' n0 b bm bp bn bf pl∧v=IV (sd.bL X Y) (tenI pl) (sd.bH X Y) (tenI pl)):=by
  have T:=t12 h.p5
  have z1:=h.f.szX h.t.pb.2.2.2.1
  have z2:=h.f.szX h.t.pb.2.2.2.2
  have hg:=h.f.g0
  have g1:=h.f.g1
  have c1:=h.ok.ch (X:=X)
  have c2:=h.ok.ch (X:=Y)
  have c3:=h.ok.ch (X:=sd.ct)
  have pc:=h.ct
  have o1:=h.f.pos h.t.pb.2.2.2.1
  have o2:=h.f.pos h.t.pb.2.2.2.2
  have hXb:=h.pb _ hX
  have hYb:=h.pb _ hY
  have hcb:=h.bc (.inr rfl)
  refine bounds_ok (ins:=decide (X<=sd.ct∧sd.ct<=Y)) (bh:=sd.bH X Y) (ta:=A*(O+U)+2*B) (tb_:=G) T.2 (λW hW hn=>h.chance (.inl hX) hW hn) (λW hW hn=>h.chance (.inl hY) hW hn) (λ_=>trivial) (λW hW hn=>h.chance (.inr rfl) hW hn)
    (λW hW=>contains_c h.f hXb hYb hXY hcb hW) z1.q9 z2.q9 (congrArg (λr:R=>Value.tuple #[.agg #[S r.1,S r.2],.int .i64 0]) (qR_congr (Int.mul_pos hg hg) hg (by grind))) (q9_12 (by rw[Int.mul_add];omega) hg om)
    (congrArg (λr:R=>Value.tuple #[.agg #[S r.1,S r.2],.int .i64 0]) (qR_congr om hg (by
      rw[<-pc];grind)))
    (q9_T h.p5 om) (q9_T h.p5 om) (q9_T h.p5 om) (q9_T h.p5 om) (q9_T h.p5 om) (q9_T h.p5 om) ?_ ?_ hT hn0
  · intro hh
    exact if_pos (of_decide_eq_true hh)
  · intro hh
    exact if_neg (of_decide_eq_false hh)
end
set_option maxRecDepth 100000
theorem sumI_bd {g:Nat->Int}{c:Int}:∀{n:Nat},(∀i,i<n->0<=g i∧g i<=c)->0<=sumI g n∧sumI g n<=n*c
  |0,_=>by show(0:Int)<=0∧(0:Int)<=0*c;omega
  | n+1,h=>by
    have h1:=sumI_bd (n:=n) λi hi=>h i om
    have h2:=h n om
    show 0<=sumI g n+g n∧sumI g n+g n<=((n+1:Nat):Int)*c
    rw[show((n+1:Nat):Int)*c=n*c+c by rw[Int.natCast_add,Int.add_mul];omega]
    omega
section
variable {A B G M s e L H O U X Y z:Int}{n:Nat}
theorem Fr.mn (f:Fr A B G):minQ (A*X+B) G (A*Y+B) G=qR (A*min X Y+B) G:=by
  rw[mn_TT f.g0]
  congr 1
  have:=f.a0
  rcases Int.le_total X Y with h|h
  · have:=Int.mul_le_mul_of_nonneg_left h (Int.le_of_lt f.a0)
    rw[show min X Y=X by omega];omega
  · have:=Int.mul_le_mul_of_nonneg_left h (Int.le_of_lt f.a0)
    rw[show min X Y=Y by omega];omega
theorem Fr.mx (f:Fr A B G):maxQ (A*X+B) G (A*Y+B) G=qR (A*max X Y+B) G:=by
  rw[mx_TT f.g0]
  congr 1
  have:=f.a0
  rcases Int.le_total X Y with h|h
  · have:=Int.mul_le_mul_of_nonneg_left h (Int.le_of_lt f.a0)
    rw[show max X Y=Y by omega];omega
  · have:=Int.mul_le_mul_of_nonneg_left h (Int.le_of_lt f.a0)
    rw[show max X Y=X by omega];omega
theorem end_c (f:Fr A B G)(t:Tst M s e L H O U){k:Nat}(n1:1<=n)(n64:n<=64)(hk:k<=n)(hz:z*(n:Int)=M*(n:Int)+s*(12*(k:Int)-6*(n:Int))){W:World}{b1 bT:Nat}(hb1:Blk W b1 3 #[.int .i64 ((n:Nat):Int)])(hbT:Blk W bT 27 (t7 (A*M+B) G (A*s) G (A*e) G (A*L+B) G (A*H+B) G (A*O+B) G (A*U+B) G))(ht:Tb W):
    CL 130 #[.int .i64 ((k:Nat):Int),pT b1,pT bT] W (Ret W λv _=>v=QV (A*z+B) G):=by
  have hg:=f.g0
  have g1:=f.g1
  have hds:=f.dis t.s
  have hG:0<G*(n:Int):=Int.mul_pos hg om
  have hGb:=mul_bd (a:=G) (b:=(n:Int)) (p:=10000) (q:=64) om om
  have hpb:=mul_bd (a:=A*s) (b:=12*(k:Int)-6*(n:Int)) (p:=50000000) (q:=2000) om om
  refine end_ok (tw:=12*(k:Int)) (pa:=12*(k:Int)-6*(n:Int)) hb1 hbT rfl (by unfold In64;omega) (by unfold In64;omega) om (q9_12 om om om) ?_ (q9_12 om om om) (f.szD t.s).q9 (f.szX t.pb.1).q9 (q9_12 om hG om) ?_ ht
  · exact congrArg (λr:R=>Value.tuple #[.agg #[S r.1,S r.2],.int .i64 0]) (qR_congr om om (by grind))
  · refine congrArg (λr:R=>Value.tuple #[.agg #[S r.1,S r.2],.int .i64 0]) (qR_congr (Int.mul_pos hg hG) hg ?_)
    have e1:A*s*(12*(k:Int)-6*(n:Int))=A*(z*(n:Int))-A*(M*(n:Int)):=by rw[hz];grind
    rw[e1];grind
end
section
variable {sd:Sd}{P:Int->Prop}{A B G M s e L H O U ra rb rc rd:Int}{E:Nat->Int}{n m pl gp gc:Nat}{x y ck cu:Nat->Nat->Int}{pA:Nat->Array Value}{w:World}
theorem cE {P:Program}{f:FuncId}{a:Array Value}{v v':Value}(h:Calls P f a w (Ret w λu _=>u=v))(e:v=v'):Calls P f a w (Ret w λu _=>u=v'):=e▸h
theorem Tpo.total (h:Tpo pl sd P A B G M s e L H O U)(n1:1<=n)(n64:n<=64)(x1:Sh pl (-6) 1 ra rb)(x2:Sh pl 6 1 rc rd)(hE:∀k,k<=n->E k*(n:Int)=M*(n:Int)+s*(12*(k:Int)-6*(n:Int)))(hm:m<=2)(egp:Enters Tryz.prog gp)(egc:Enters Tryz.prog gc)(hPt:∀k,k<n->∀W,Tb W->CL gp #[TSv A B G M s e L H O U,IV (A*E k+B) G (A*E (k+1)+B) G] W (Ret W λv W'=>∃c,v=.slice (some ⟨c,0,none⟩) m m∧Blk W' c 33 (pA k)∧W.heap.size<=c))(hPc:∀k j,k<n->j<m->∀{c:Nat} {W:World},Blk W c 33 (pA k)->∀i u,([S (qR (A*x k j+B) G).1,S (qR (A*x k j+B) G).2,S (qR (A*y k j+B) G).1,S (qR (A*y k j+B) G).2]:List Value)[i]?=some u->W.cell? ⟨c,0+j*4+i,none⟩=some u)(hx:∀k j,P (x k j))(hy:∀k j,P (y k j))(hCh:∀k j W,Tb W->CL gc #[IV (sd.bL (x k j) (y k j)) (tenI pl) (sd.bH (x k j) (y k j)) (tenI pl)] W (Ret W λv _=>v=IV (ck k j) (tenI pl) (cu k j) (tenI pl)))(hc:∀k j,0<=ck k j∧ck k j<=cu k j∧cu k j<=tenI pl)(ht:Tb w):
    CL 39 #[TSv A B G M s e L H O U,.int .i64 ((n:Nat):Int),.int .i64 ((pl:Nat):Int),.func (.func gp) #[] #[],.func (.func gc) #[] #[]] w (Ret w λv _=>v=.tuple #[IV
      (flI (sumI (λi=>sumI (λj=>if x i j<y i j then mLo sd.f sd.c (x i j) (y i j)*ck i j else 0) m) n) (tenI pl*tenI pl) (tenI pl)) (tenI pl)
      (clI (((rb+tenI pl-rc)*tenI pl)+sumI (λi=>sumI (λj=>if x i j<y i j then mHi sd.f sd.c (x i j) (y i j)*cu i j else 0) m) n) (tenI pl*tenI pl) (tenI pl)) (tenI pl),.int .i64 0]):=by
  have T:=t12 h.p5
  have hf:=h.f
  have ts:=h.t.s
  have hok:=h.ok
  generalize htl:(λi j=>if x i j<y i j then mLo sd.f sd.c (x i j) (y i j)*ck i j else 0)=tl
  generalize hth:(λi j=>if x i j<y i j then mHi sd.f sd.c (x i j) (y i j)*cu i j else 0)=th
  rw[show(λi=>sumI (λj=>if x i j<y i j then mLo sd.f sd.c (x i j) (y i j)*ck i j else 0) m)=λi=>sumI (tl i) m by rw[<-htl],show(λi=>sumI (λj=>if x i j<y i j then mHi sd.f sd.c (x i j) (y i j)*cu i j else 0) m)=λi=>sumI (th i) m by rw[<-hth]]
  have b1:=x1.bd
  have b2:=x2.bd
  have tlt:∀i j,0<=tl i j∧tl i j<=th i j∧th i j<=10^10:=by
    intro i j
    rw[<-htl,<-hth]
    have m1:=hok.mm (X:=x i j) (Y:=y i j)
    have c1:=hc i j
    show 0<=(if x i j<y i j then mLo sd.f sd.c (x i j) (y i j)*ck i j else 0)∧(if x i j<y i j then mLo sd.f sd.c (x i j) (y i j)*ck i j else 0)<=(if x i j<y i j then mHi sd.f sd.c (x i j) (y i j)*cu i j else 0)∧(if x i j<y i j then mHi sd.f sd.c (x i j) (y i j)*cu i j else 0)<=10^10
    split
    · refine⟨Int.mul_nonneg m1.1 c1.1,Int.mul_le_mul m1.2.1 c1.2.1 c1.1 om,?_⟩
      have:=Int.mul_le_mul (show mHi sd.f sd.c (x i j) (y i j)<=10^5 by omega) (show cu i j<=10^5 by omega) om dc
      omega
    · omega
  have TT:0<tenI pl*tenI pl:=Int.mul_pos T.2 T.2
  have TTb:=mul_bd (a:=tenI pl) (b:=tenI pl) (p:=10^5) (q:=10^5) om om
  have r0:0<=((rb+tenI pl-rc)*tenI pl)∧((rb+tenI pl-rc)*tenI pl)<=3*10^10:=by
    have:=Int.mul_nonneg (show 0<=rb+tenI pl-rc by omega) (Int.le_of_lt T.2)
    have:=mul_bd (a:=rb+tenI pl-rc) (b:=tenI pl) (p:=3*10^5) (q:=10^5) om om
    omega
  generalize hr0:((rb+tenI pl-rc)*tenI pl)=r at r0
  let SL:Nat->Nat->Int:=λk j=>sumI (λi=>sumI (tl i) m) k+sumI (tl k) j
  let SH:Nat->Nat->Int:=λk j=>r+(sumI (λi=>sumI (th i) m) k+sumI (th k) j)
  have hS:∀k j,k<=n->j<=m->0<=SL k j∧SL k j<=SH k j∧SH k j<=10^13:=by
    intro k j hk hj
    have a1:=sumI_bd (g:=tl k) (n:=j) (c:=10^10) λi _=>⟨(tlt k i).1,by have:=tlt k i;omega⟩
    have a2:=sumI_bd (g:=th k) (n:=j) (c:=10^10) λi _=>⟨by have:=tlt k i;omega,(tlt k i).2.2⟩
    have a3:sumI (tl k) j<=sumI (th k) j:=sumI_le λi _=>(tlt k i).2.1
    have c0:∀i,0<=sumI (tl i) m∧sumI (tl i) m<=sumI (th i) m∧sumI (th i) m<=2*10^10:=λi=>by
      have d1:=sumI_bd (g:=tl i) (n:=m) (c:=10^10) λj _=>⟨(tlt i j).1,by have:=tlt i j;omega⟩
      have d2:=sumI_bd (g:=th i) (n:=m) (c:=10^10) λj _=>⟨by have:=tlt i j;omega,(tlt i j).2.2⟩
      have d3:sumI (tl i) m<=sumI (th i) m:=sumI_le λj _=>(tlt i j).2.1
      have:(m:Int)*10^10<=2*10^10:=Int.mul_le_mul_of_nonneg_right om dc
      omega
    have e1:=sumI_bd (g:=λi=>sumI (tl i) m) (n:=k) (c:=2*10^10) λi _=>⟨(c0 i).1,by have:=c0 i;omega⟩
    have e2:=sumI_bd (g:=λi=>sumI (th i) m) (n:=k) (c:=2*10^10) λi _=>⟨by have:=c0 i;omega,(c0 i).2.2⟩
    have e3:sumI (λi=>sumI (tl i) m) k<=sumI (λi=>sumI (th i) m) k:=sumI_le λi _=>(c0 i).2.1
    have f1:(k:Int)*(2*10^10)<=64*(2*10^10):=Int.mul_le_mul_of_nonneg_right om dc
    have f2:(j:Int)*10^10<=2*10^10:=Int.mul_le_mul_of_nonneg_right om dc
    show 0<=sumI (λi=>sumI (tl i) m) k+sumI (tl k) j∧sumI (λi=>sumI (tl i) m) k+sumI (tl k) j<=r+(sumI (λi=>sumI (th i) m) k+sumI (th k) j)∧r+(sumI (λi=>sumI (th i) m) k+sumI (th k) j)<=10^13
    omega
  have qT:∀z:Int,0<=z->z<=10^13->Q9 z (tenI pl*tenI pl):=λz h1 h2=>⟨Nat.lt_of_le_of_lt (show z.natAbs<=10^13 by omega) dc,TT,by omega⟩
  have ivS:∀a c:Int,0<=a->a<=c->c<=10^13->IvR (qR a (tenI pl*tenI pl),qR c (tenI pl*tenI pl)):=λa c h1 h2 h3=>⟨_,_,_,_,rfl,rfl,qT a h1 om,qT c om h3,Int.mul_le_mul_of_nonneg_right h2 (Int.le_of_lt TT)⟩
  have hsl:∀k,SL (k+1) 0=SL k m:=λk=>by
    show sumI (λi=>sumI (tl i) m) k+sumI (tl k) m+0=sumI (λi=>sumI (tl i) m) k+sumI (tl k) m
    omega
  have hsh:∀k,SH (k+1) 0=SH k m:=λk=>by
    show r+(sumI (λi=>sumI (th i) m) k+sumI (th k) m+0)=r+(sumI (λi=>sumI (th i) m) k+sumI (th k) m)
    omega
  have eLn:SL n 0=sumI (λi=>sumI (tl i) m) n:=by
    show sumI (λi=>sumI (tl i) m) n+0=_
    omega
  have eHn:SH n 0=r+sumI (λi=>sumI (th i) m) n:=by
    show r+(sumI (λi=>sumI (th i) m) n+0)=_
    omega
  have hSn:=hS n 0 (Nat.le_refl _) (Nat.zero_le _)
  rw[<-eLn,<-eHn]
  have tle:∀k j,x k j<y k j->tl k j=mLo sd.f sd.c (x k j) (y k j)*ck k j∧th k j=mHi sd.f sd.c (x k j) (y k j)*cu k j:=λk j hlt=>by
    rw[<-htl,<-hth]
    exact⟨if_pos hlt,if_pos hlt⟩
  have tln:∀k j,¬x k j<y k j->tl k j=0∧th k j=0:=λk j hlt=>by
    rw[<-htl,<-hth]
    exact⟨if_neg hlt,if_neg hlt⟩
  refine total_ok (SL:=SL) (SH:=SH) (za:=λk=>A*E k+B) (zb:=G) (xl:=λk j=>A*x k j+B) (xh:=λk j=>A*y k j+B) (mk:=λk j=>mLo sd.f sd.c (x k j) (y k j)) (mu:=λk j=>mHi sd.f sd.c (x k j) (y k j)) (bk:=λk j=>sd.bL (x k j) (y k j)) (bu:=λk j=>sd.bH (x k j) (y k j)) (ck:=ck) (cu:=cu) (ne:=λk j=>decide (x k j<y k j)) (pA:=pA)
    h.p1 (by have:=h.p5;omega) n1 n64 hm (λW hW=>valid_c hf h.t hW) ⟨by decide,by decide,by decide⟩ ⟨by decide,by decide,by decide⟩ x1 x2 (q9_T h.p5 om) (q9_T h.p5 om) (q9_12 om om om) ?_ ?_
    (λk hk W b1 bT h1 h2 h3=>end_c hf h.t n1 n64 hk (hE k hk) h1 h2 h3) egp egc hPt hPc ?_ ?_ ?_ hCh ?_ ?_ ?_ (λk=>⟨hsl k,hsh k⟩) (λW hW=>round_ok (x:=(qR (SL n 0) (tenI pl*tenI pl),qR (SH n 0) (tenI pl*tenI pl))) rfl rfl (qT _ hSn.1 om) (qT _ om hSn.2.2) (Int.mul_le_mul_of_nonneg_right hSn.2.1 (Int.le_of_lt TT)) (by have:=h.p5;omega) hW) ht
  · refine congrArg (λr:R=>Value.tuple #[.agg #[S r.1,S r.2],.int .i64 0]) (qR_congr (Int.mul_pos T.2 om) TT ?_)
    show _=(r+(0+0))*_
    rw[<-hr0]
    grind
  · refine qR_congr dc TT ?_
    show 0*(tenI pl*tenI pl)=(0+0)*1
    omega
  · intro k j W hW
    have h1:=isLess_ok (hf.szX (h.pb _ (hx k j))).q9 (hf.szX (h.pb _ (hy k j))).q9 hW
    simp only[cmpI_neg,hf.lt]at h1
    exact h1
  · intro k j hk hj hne W n0 b bm bp bn bf hT hn
    exact h.mass (hx k j) (hy k j) hT hn
  · intro k j hk hj hne W n0 b bm bp bn bf hT hn
    exact h.bounds (hx k j) (hy k j) (Int.le_of_lt (of_decide_eq_true hne)) hT hn
  · intro k j hk hj hne W hW
    have m1:=hok.mm (X:=x k j) (Y:=y k j)
    have c1:=hc k j
    have l2:mLo sd.f sd.c (x k j) (y k j)*ck k j<=mHi sd.f sd.c (x k j) (y k j)*ck k j:=Int.mul_le_mul_of_nonneg_right m1.2.1 c1.1
    have l1:mLo sd.f sd.c (x k j) (y k j)*ck k j<=mLo sd.f sd.c (x k j) (y k j)*cu k j:=Int.mul_le_mul_of_nonneg_left c1.2.1 m1.1
    have l3:mLo sd.f sd.c (x k j) (y k j)*cu k j<=mHi sd.f sd.c (x k j) (y k j)*cu k j:=Int.mul_le_mul_of_nonneg_right m1.2.1 om
    have l4:mHi sd.f sd.c (x k j) (y k j)*ck k j<=mHi sd.f sd.c (x k j) (y k j)*cu k j:=Int.mul_le_mul_of_nonneg_left c1.2.1 om
    have u4:mHi sd.f sd.c (x k j) (y k j)*cu k j<=10^5*10^5:=Int.mul_le_mul om om om dc
    have z0:=Int.mul_nonneg m1.1 c1.1
    exact encMul_ok (q9_T h.p5 om) (q9_T h.p5 om) (q9_T h.p5 om) (q9_T h.p5 om) (qT _ om om) (qT _ om om) (qT _ om om) (qT _ om om) l1 l2 l3 l4 (IvR.cell m1.2.1 m1.1 om (by have:=h.p5;omega)) (IvR.cell c1.2.1 c1.1 c1.2.2 (by have:=h.p5;omega)) hW
  · intro k j hk hj hne W hW
    obtain⟨t1,t2⟩:=tle k j (of_decide_eq_true hne)
    have a1:=hS k j om om
    have a2:=tlt k j
    have h1:=encAdd_ok (x:=(qR (SL k j) (tenI pl*tenI pl),qR (SH k j) (tenI pl*tenI pl))) (y:=(qR (tl k j) (tenI pl*tenI pl),qR (th k j) (tenI pl*tenI pl))) (ivS _ _ a1.1 a1.2.1 a1.2.2) (ivS _ _ a2.1 a2.2.1 om) rfl rfl (qT _ a1.1 om) (qT _ om a1.2.2) rfl rfl (qT _ a2.1 om) (qT _ om om) hW
    rw [qR_congr (c:=SL k (j+1)) (d:=tenI pl*tenI pl) (Int.mul_pos TT TT) TT (by
        show _=(sumI (λi=>sumI (tl i) m) k+(sumI (tl k) j+tl k j))*_
        rw[show sumI (λi=>sumI (tl i) m) k+(sumI (tl k) j+tl k j)=SL k j+tl k j by show _=sumI (λi=>sumI (tl i) m) k+sumI (tl k) j+tl k j;omega];grind),
      qR_congr (c:=SH k (j+1)) (d:=tenI pl*tenI pl) (Int.mul_pos TT TT) TT (by
        show _=(r+(sumI (λi=>sumI (th i) m) k+(sumI (th k) j+th k j)))*_
        rw[show r+(sumI (λi=>sumI (th i) m) k+(sumI (th k) j+th k j))=SH k j+th k j by show _=r+(sumI (λi=>sumI (th i) m) k+sumI (th k) j)+th k j;omega];grind),t1,t2]at h1
    exact h1
  · intro k j hne
    obtain⟨t1,t2⟩:=tln k j (of_decide_eq_false hne)
    constructor
    · show sumI (λi=>sumI (tl i) m) k+(sumI (tl k) j+tl k j)=sumI (λi=>sumI (tl i) m) k+sumI (tl k) j
      omega
    · show r+(sumI (λi=>sumI (th i) m) k+(sumI (th k) j+th k j))=r+(sumI (λi=>sumI (th i) m) k+sumI (th k) j)
      omega
theorem tupS {a b a' b' r T:Int}(h:a=a')(h':b=b'):(Value.tuple #[IV (flI a (T*T) T) T (clI (r+b) (T*T) T) T,.int .i64 0]:Value)=.tuple #[IV (flI a' (T*T) T) T (clI (r+b') (T*T) T) T,.int .i64 0]:=by rw[h,h']
def oX (E:Nat->Int)(H:Int)(k:Nat):Nat->Int
  |0=>E k
  |1=>max (E k) H
  |_=>E 0
def oY (E:Nat->Int)(L:Int)(k:Nat):Nat->Int
  |0=>min (E (k+1)) L
  |1=>E (k+1)
  |_=>E 0
theorem p_max {P:Int->Prop}{a b:Int}(ha:P a)(hb:P b):P (max a b):=by
  rcases Int.le_total a b with h|h
  · rw[show max a b=b by omega];exact hb
  · rw[show max a b=a by omega];exact ha
theorem p_min {P:Int->Prop}{a b:Int}(ha:P a)(hb:P b):P (min a b):=by
  rcases Int.le_total a b with h|h
  · rw[show min a b=a by omega];exact ha
  · rw[show min a b=b by omega];exact hb
theorem Tpo.consumer (h:Tpo pl sd P A B G M s e L H O U)(n1:1<=n)(n64:n<=64)(x1:Sh pl (-6) 1 ra rb)(x2:Sh pl 6 1 rc rd)(hE:∀k,k<=n->E k*(n:Int)=M*(n:Int)+s*(12*(k:Int)-6*(n:Int)))(hP:∀k,P (E k))(pL:P L)(pH:P H)(ht:Tb w):
    CL 14 #[TSv A B G M s e L H O U,.int .i64 ((n:Nat):Int),.int .i64 ((pl:Nat):Int)] w (Ret w λv _=>v=.tuple #[IV
      (flI (sd.conL E L H n) (tenI pl*tenI pl) (tenI pl)) (tenI pl)
      (clI (((rb+tenI pl-rc)*tenI pl)+sd.conH E L H n) (tenI pl*tenI pl) (tenI pl)) (tenI pl),.int .i64 0]):=by
  have hf:=h.f
  have q:=λX hX=>(hf.szX (h.pb X hX)).q9
  refine consumer15_ok (λW hW=>?_) ht
  refine cE (h.total (m:=2) (x:=oX E H) (y:=oY E L) (ck:=λk j=>sd.bL (oX E H k j) (oY E L k j)) (cu:=λk j=>sd.bH (oX E H k j) (oY E L k j))
    (pA:=λk=>#[S (qR (A*E k+B) G).1,S (qR (A*E k+B) G).2,S (qR (A*min (E (k+1)) L+B) G).1,S (qR (A*min (E (k+1)) L+B) G).2,S (qR (A*max (E k) H+B) G).1,S (qR (A*max (E k) H+B) G).2,S (qR (A*E (k+1)+B) G).1,S (qR (A*E (k+1)+B) G).2])
    n1 n64 x1 x2 hE (Nat.le_refl _) en3040 en3041 (λk _ W hW=>outer_ok (q _ (hP k)) (q _ (hP (k+1))) (q _ pL) (q _ pH) hf.mn hf.mx hW) ?_ ?_ ?_ (λk j W hW=>ident_ok) (λk j=>h.ok.b) hW) ?_
  · intro k j _ hj c W hb
    rcases(by omega:j=0∨j=1)with rfl|rfl
    · exact Blk.cells hb (i:=0) rfl
    · exact Blk.cells hb (i:=4) rfl
  · intro k j
    rcases j with _|_|j
    · exact hP k
    · exact p_max (hP k) pH
    · exact hP 0
  · intro k j
    rcases j with _|_|j
    · exact p_min (hP (k+1)) pL
    · exact hP (k+1)
    · exact hP 0
  · exact tupS (sumI_congr λi _=>by
      show 0+sd.tcL (E i) (min (E (i+1)) L)+sd.tcL (max (E i) H) (E (i+1))=_
      omega) (sumI_congr λi _=>by
      show 0+sd.tcH (E i) (min (E (i+1)) L)+sd.tcH (max (E i) H) (E (i+1))=_
      omega)
theorem Tpo.producer (h:Tpo pl sd P A B G M s e L H O U)(n1:1<=n)(n64:n<=64)(x1:Sh pl (-6) 1 ra rb)(x2:Sh pl 6 1 rc rd)(hE:∀k,k<=n->E k*(n:Int)=M*(n:Int)+s*(12*(k:Int)-6*(n:Int)))(hP:∀k,P (E k))(pL:P L)(pH:P H)(ht:Tb w):
    CL 15 #[TSv A B G M s e L H O U,.int .i64 ((n:Nat):Int),.int .i64 ((pl:Nat):Int)] w (Ret w λv _=>v=.tuple #[IV
      (flI (sd.proL (tenI pl) E L H n) (tenI pl*tenI pl) (tenI pl)) (tenI pl)
      (clI (((rb+tenI pl-rc)*tenI pl)+sd.proH (tenI pl) E L H n) (tenI pl*tenI pl) (tenI pl)) (tenI pl),.int .i64 0]):=by
  have hf:=h.f
  have T:=t12 h.p5
  have q:=λX hX=>(hf.szX (h.pb X hX)).q9
  refine producer15_ok (λW hW=>?_) ht
  refine cE (h.total (m:=1) (x:=λk _=>max (E k) L) (y:=λk _=>min (E (k+1)) H) (ck:=λk j=>max 0 (tenI pl-sd.bH (max (E k) L) (min (E (k+1)) H))) (cu:=λk j=>tenI pl-sd.bL (max (E k) L) (min (E (k+1)) H))
    (pA:=λk=>#[S (qR (A*max (E k) L+B) G).1,S (qR (A*max (E k) L+B) G).2,S (qR (A*min (E (k+1)) H+B) G).1,S (qR (A*min (E (k+1)) H+B) G).2])
    n1 n64 x1 x2 hE om en3042 en3043 (λk _ W hW=>inner_ok (q _ (hP k)) (q _ (hP (k+1))) (q _ pL) (q _ pH) hf.mx hf.mn hW) ?_ (λk _=>p_max (hP k) pL) (λk _=>p_min (hP (k+1)) pH) ?_ ?_ hW) ?_
  · intro k j _ hj c W hb
    obtain rfl:j=0:=by omega
    exact Blk.cells hb (i:=0) rfl
  · intro k j W hW
    have b:=h.ok.b (X:=max (E k) L) (Y:=min (E (k+1)) H)
    exact compl_ok T.2 (q9_T h.p5 om) (q9_T h.p5 om) (q9_12 om om om) hW
  · intro k j
    have b:=h.ok.b (X:=max (E k) L) (Y:=min (E (k+1)) H)
    omega
  · exact tupS (sumI_congr λi _=>by
      show 0+sd.tpL (tenI pl) (max (E i) L) (min (E (i+1)) H)=_
      omega) (sumI_congr λi _=>by
      show 0+sd.tpH (tenI pl) (max (E i) L) (min (E (i+1)) H)=_
      omega)
end
end Go.Proofs.YtmehbpjpbbhohaaGreatDoor
namespace Go.Proofs.YtmehbpjpbbhohaaGreatDoor
set_option maxRecDepth 100000
open Go Go.Eng Go.RowKit
attribute [local irreducible] wpListIn Code.wpIn Oper.wpIn Exit.then Exit.inBlock Exit.noGoto
set_option maxHeartbeats 40000000
theorem sub_qf {a b c d e f:Int}{w:World}(h1:Q9 a b)(h2:Q9 c d)(he:qR (a*d-c*b) (b*d)=qR e f):CL 70 #[QV a b,QV c d] w (Ret w λv _=>v=.tuple #[QV e f,.int .i64 0]):=by
  have h:=r4Sub_ok (qR a b).1 (qR a b).2 (qR c d).1 (qR c d).2 w (q_len h1).1 (q_len h1).2 (q_len h2).1 (q_len h2).2
  rw[show subR ((qR a b).1,(qR a b).2) ((qR c d).1,(qR c d).2)=some (qR (a*d-c*b) (b*d))from subR_q h1 h2,he]at h
  exact h
theorem lfof_ok {n m:Int}{w:World}(hn:In64 n)(hm:In64 m)(h0:m≠0)(ht:Tb w):
    CL 11 #[.int .i64 n,.int .i64 m] w (Ret w λv w'=>v=QV n m):=by
 refine f_in Tryz.func11 rfl ?_;refine go ?_;refine al inf36 (λ_ aor sc=>?_);have r8:=aor.2;refine go ?_;refine cl en1025 (rOfZ_ok hn hm h0 (ht.ext r8)) ?_;rintro _ _ aop rfl;have⟨sc,r8⟩:=be1 aop.2 sc r8;refine go ?_;refine al inf36 (λ_ aoq aos=>?_);have⟨sc,r8⟩:=be1 aoq.2 sc r8;refine SA aos (λ_ aol aom=>?_);have⟨sc,r8,_⟩:=pl1 aol sc r8;refine go ?_;refine SA sc (λ_ aon aot=>?_);have⟨aom,r8,_⟩:=pl1 aon aom r8;refine go ?_;refine f_out (v:=QV n m) (res1  rfl ?_) r8 rfl;refine res_cellA (t:=4) (cs:=[S (qR n m).1,S (qR n m).2]) (b:=w.heap.size) (o:=0) U36 rfl sz36 ?_ ?_;exact rfl;exact Blk.cells aot (i:=0) rfl
theorem rfadd_ok {ra rb ka kb za zb:Int}{w:World}(ha:Q9 ra rb)(hb:Q9 ka kb)(he:qR (ra*kb+ka*rb) (rb*kb)=qR za zb):
    CL 31 #[QV ra rb,QV ka kb] w (Ret w λv w'=>v=QV za zb):=by
 refine f_in Tryz.func31 rfl ?_;refine go ?_;refine bx (λ_ aox r8=>?_);have sc:=aox.2;refine bx (λaot aou aol=>?_);have⟨r8,sc⟩:=be1 aou.2 r8 sc;refine al inf36 (λ_ aor aom=>?_);have⟨r8,aol,sc⟩:=be2 aor.2 r8 aol sc;refine go ?_;refine cl en71 (add_q4 ha hb he) ?_;rintro _ _ aop rfl;have⟨r8,aol,aom,sc⟩:=be3 aop.2 r8 aol aom sc;refine go ?_;refine al inf36 (λ_ aoq aoy=>?_);have⟨r8,aol,aom,sc⟩:=be3 aoq.2 r8 aol aom sc;refine SA aoy (λ_ aon aos=>?_);have⟨r8,aol,aom,sc,_⟩:=pl3 aon r8 aol aom sc;refine go ?_;refine SA aom (λ_ aoo aoz=>?_);have⟨r8,aol,aos,sc,_⟩:=pl3 aoo r8 aol aos sc;refine go ?_;refine f_out (v:=QV za zb) (res1  rfl ?_) sc rfl;refine res_cellA (t:=4) (cs:=[S (qR za zb).1,S (qR za zb).2]) (b:=aot.heap.size) (o:=0) U36 rfl sz36 ?_ ?_;exact rfl;exact Blk.cells aoz (i:=0) rfl
theorem rfsub_ok {ra rb ka kb za zb:Int}{w:World}(ha:Q9 ra rb)(hb:Q9 ka kb)(he:qR (ra*kb-ka*rb) (rb*kb)=qR za zb):
    CL 32 #[QV ra rb,QV ka kb] w (Ret w λv w'=>v=QV za zb):=by
 refine f_in Tryz.func32 rfl ?_;refine go ?_;refine bx (λ_ aox r8=>?_);have sc:=aox.2;refine bx (λaot aou aol=>?_);have⟨r8,sc⟩:=be1 aou.2 r8 sc;refine al inf36 (λ_ aor aom=>?_);have⟨r8,aol,sc⟩:=be2 aor.2 r8 aol sc;refine go ?_;refine cl en45 (sub_qf ha hb he) ?_;rintro _ _ aop rfl;have⟨r8,aol,aom,sc⟩:=be3 aop.2 r8 aol aom sc;refine go ?_;refine al inf36 (λ_ aoq aoy=>?_);have⟨r8,aol,aom,sc⟩:=be3 aoq.2 r8 aol aom sc;refine SA aoy (λ_ aon aos=>?_);have⟨r8,aol,aom,sc,_⟩:=pl3 aon r8 aol aom sc;refine go ?_;refine SA aom (λ_ aoo aoz=>?_);have⟨r8,aol,aos,sc,_⟩:=pl3 aoo r8 aol aos sc;refine go ?_;refine f_out (v:=QV za zb) (res1  rfl ?_) sc rfl;refine res_cellA (t:=4) (cs:=[S (qR za zb).1,S (qR za zb).2]) (b:=aot.heap.size) (o:=0) U36 rfl sz36 ?_ ?_;exact rfl;exact Blk.cells aoz (i:=0) rfl
set_option maxRecDepth 100000 in
theorem lfcontains_ok {xa xb ya yb n m:Int}{b:Bool}{w:World}(hn:In64 n)(hm:In64 m)(h0:m≠0)(hC:∀W,Tb W->CL 64 #[IV xa xb ya yb,QV n m] W (Ret W λv _=>v=.bool b))(ht:Tb w):
    CL 24 #[IV xa xb ya yb,.int .i64 n,.int .i64 m] w (Ret w λv w'=>v=.bool b):=by
 refine f_in Tryz.func24 rfl ?_;refine go ?_;refine bx (λaon aoy aoo=>?_);have aop:=aoy.2;refine go ?_;refine c_dv hmix 4 [7,8,9,10] [some (7,IV xa xb ya yb),some (8,.int .i64 n),some (9,.int .i64 m),some (10,QV n m)] (XE aon) (Ext.drew aon) (by kernel_rfl) (by kernel_rfl) (by kernel_rfl) ?_ ?_;refine⟨λao9 _ _ aoz _ aoq _ _ _=>?_,?_⟩;obtain⟨ao9,rfl⟩:=ovE aoz;have ao0:=(be aoq aoo);refine l_op (k_loadA (cs:=[S (qR xa xb).1,S (qR xa xb).2,S (qR ya yb).1,S (qR ya yb).2]) (b:=w.heap.size) (o:=0) U1032 rfl sz1032 rfl (Blk.cells ao0 (i:=0) rfl) ?_);refine go ?_;exact dvE rfl aoq (Ext.refl _);refine⟨λapg _ _ ao1 _ ao2 _ _ _=>?_,?_⟩;obtain⟨apg,rfl⟩:=ovE ao1;refine go ?_;exact dvE rfl ao2 (Ext.refl _);refine⟨λapn _ _ ao3 _ ao4 _ _ _=>?_,?_⟩;obtain⟨apn,rfl⟩:=ovE ao3;refine go ?_;exact dvE rfl ao4 (Ext.refl _);refine⟨λaor _ _ apx aos aot _ _ _=>?_,?_⟩;obtain⟨aor,rfl⟩:=ovE apx;have ao5:=zpv (aos 1 _ _ rfl rfl);have ao6:=zpv (aos 2 _ _ rfl rfl);have sc:=xt aop aot;refine cl en3011 (lfof_ok hn hm h0 (ht.ext sc)) ?_ (cons_eq ao5 (cons_eq ao6 rfl));rintro _ _ aou rfl;refine go ?_;exact dvE rfl aot aou.2;exact trivial;intro aov _ _ _ ap6 aow aol;obtain⟨aov,rfl⟩:=ovE ap6;have aom:=(be aol aoo);have ap7:=bt aom;have r8:=xt aop aol;have ap8:=bz r8;have ap9:=bz aol;have ao7:=zpv (aow 0 _ _ rfl rfl);have ao8:=zpv (aow 3 _ _ rfl rfl)
 refine cl en1057 ((hC _ (ht.ext r8))) ?_ (cons_eq ao7 (cons_eq ao8 rfl));rintro _ _ aox rfl;have r8:=xt r8 aox.2;refine go ?_;exact f_ret1 (t:=6) (v:=.bool b) rfl r8 rfl rfl
end Go.Proofs.YtmehbpjpbbhohaaGreatDoor
