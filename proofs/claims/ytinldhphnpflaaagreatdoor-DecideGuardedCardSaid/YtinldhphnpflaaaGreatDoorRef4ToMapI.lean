/- Part of the proof of a statement about decisions. -/
import Derived.Test.YtinldhphnpflaaaGreatDoorRef2ToRef3
import Derived.Test.YtinldhphnpflaaaGreatDoorEngPToEngH
import Derived.Test.YtinldhphnpflaaaGreatDoorBaseToEngJ
import Derived.Test.YtinldhphnpflaaaGreatDoorDtKToRef1
import Derived.Test.YtinldhphnpflaaaGreatDoorIsQToRi5
set_option linter.all false
namespace Go.Proofs.YtinldhphnpflaaaGreatDoor
set_option maxRecDepth 100000
open Go Go.Eng Go.RowKit
attribute [local irreducible] wpListIn Code.wpIn Oper.wpIn Exit.then Exit.inBlock Exit.noGoto
set_option maxHeartbeats 40000000
theorem asuRef4 {p:Prop}(h:p:=by assumption):p:=h
theorem dg_len {w:World}{lo n c a k:Nat}{A:Option Addr}(h:Dg w lo A n c a)(hl:a<10^k):n<=k:=by rw[<-h.len];exact(length_toB_le_iff 10 om a k).2 hl
theorem val10 {l:List UInt8}(h:isInt l=true):valN (body l)<10^200:=valN_lt (isInt_num h)
theorem no_l {a b:List UInt8}(h:isInt a=false):(isInt a&&isInt b)=false:=by rw[h];rfl
theorem no_r {a b:List UInt8}(h:isInt b=false):(isInt a&&isInt b)=false:=by rw[h];simp
theorem yes_2 {a b:List UInt8}(ha:isInt a=true)(hb:isInt b=true):(isInt a&&isInt b)=true:=by rw[ha,hb];rfl
theorem fitR_fits {ng:Bool}{a:Nat}:fits (sgn ng a)=fitR a:=by
  unfold fitR
  by_cases h:a=0
  · subst h;cases ng <;>decide +kernel
  · rw[fits_sgn ng om,decide_eq_false h,Bool.false_or]
    unfold showN;rw[if_neg h,showD_length]
theorem txtR_show {ng:Bool}{a:Nat}:showI (sgn ng a)=txtR ng a:=by
  unfold txtR
  by_cases h:a=0
  · subst h;cases ng <;>rfl
  · rw[showI_sgn ng om,if_neg h]
theorem chk_f {ng:Bool}{a:Nat}(h:fitR a=false):Value.tuple #[S [],.int .i64 30]=resI (outI (sgn ng a)):=by
  unfold outI;rw[fitR_fits,h];rfl
theorem chk_t {ng:Bool}{a:Nat}(h:fitR a=true):Value.tuple #[S (txtR ng a),.int .i64 0]=resI (outI (sgn ng a)):=by
  unfold outI;rw[fitR_fits,h,txtR_show];rfl
theorem dg_one {w:World}{lo:Nat}{A:Option Addr}(h:Rw w lo A [Value.int .i64 1]):Dg w lo A 1 1 1:=by
  have e:toB 10 1=[1]:=by decide
  exact⟨by rw[e];exact h,by rw[e];rfl,Nat.le_refl _⟩
theorem txt_rem {r:Nat}(h:r<10^200):txtR false r=rS (outI (sgn false r)):=by
  have hf:fits (sgn false r)=true:=by unfold fits;rw[natAbs_sgn];exact decide_eq_true h
  rw[outI_rS hf,txtR_show]
theorem lt201 {a b:Nat}(ha:a<10^200)(hb:b<10^200):a+b<10^201:=by
  have:(10:Nat)^201=10^200*10:=by rw[<-Nat.pow_succ]
  generalize (10:Nat)^200=M at *
  omega
theorem lt_pow {a b x y z:Nat}(ha:a<10^x)(hb:b<10^y)(h:z=x+y):a*b<10^z:=by
  subst h;rw[Nat.pow_add];exact Nat.mul_lt_mul'' ha hb
theorem lt400 {a b:Nat}(ha:a<10^200)(hb:b<10^200):a*b<10^400:=lt_pow (x:=200) (y:=200) (z:=400) ha hb rfl
theorem cmp_eq_n {a b:List UInt8}(h:(isInt a&&isInt b)=true)(he:(neg a==neg b)=true)(ha:neg a=true):cmpI ((valN (body b):Nat):Int) ((valN (body a):Nat):Int)=cmpS a b:=
  cmp_nn h ha (by have:neg a=neg b:=by simpa using he
                  rw[<-this];exact ha)
theorem cmp_eq_p {a b:List UInt8}(h:(isInt a&&isInt b)=true)(he:(neg a==neg b)=true)(ha:neg a=false):cmpI ((valN (body a):Nat):Int) ((valN (body b):Nat):Int)=cmpS a b:=
  cmp_pp h ha (by have:neg a=neg b:=by simpa using he
                  rw[<-this];exact ha)
theorem cmp_ne_n {a b:List UInt8}(h:(isInt a&&isInt b)=true)(he:(neg a==neg b)=false)(ha:neg a=true):(-1:Int)=cmpS a b:=
  cmp_np h ha (by rw[ha]at he;simpa using he)
theorem cmp_ne_p {a b:List UInt8}(h:(isInt a&&isInt b)=true)(he:(neg a==neg b)=false)(ha:neg a=false):(1:Int)=cmpS a b:=
  cmp_pn h ha (by rw[ha]at he;simpa using he)
theorem tmod_sgn (ng:Bool)(x:Nat):Int.tmod (sgn ng x) 10=sgn ng (x%10):=by
  cases ng
  · show Int.tmod (x:Int) 10=((x%10:Nat):Int)
    rw[Int.tmod_eq_emod_of_nonneg om];omega
  · show Int.tmod (-(x:Int)) 10=-((x%10:Nat):Int)
    rw[Int.neg_tmod,Int.tmod_eq_emod_of_nonneg om];omega
theorem tdiv_sgn (ng:Bool)(x:Nat):Int.tdiv (sgn ng x) 10=sgn ng (x/10):=by
  cases ng
  · show Int.tdiv (x:Int) 10=((x/10:Nat):Int)
    rw[Int.tdiv_eq_ediv_of_nonneg om];omega
  · show Int.tdiv (-(x:Int)) 10=-((x/10:Nat):Int)
    rw[Int.neg_tdiv,Int.tdiv_eq_ediv_of_nonneg om];omega
theorem divI_0 {a b:List UInt8}(h:b=[48]):divI a b=none:=divI_z (by subst h;exact valN_zero)
theorem val_pos {b:List UInt8}(h:isInt b=true)(h0:¬b=[48]):0<valN (body b):=by
  rcases Nat.eq_zero_or_pos (valN (body b))with h1|h1
  · exact absurd ((valZ_eq_zero h).1 (by have:=valZ_natAbs b;omega)) h0
  · exact h1
theorem r3chk_ok {A1:Option Addr}{n1 c1 a lo1:Nat}{w:World}(h1:Dg w lo1 A1 n1 c1 a)(s1:n1<=100000)(ng:Bool):
    CL 84 #[.bool ng,.slice A1 n1 c1] w (Ret w λv w'=>v=resI (outI (sgn ng a))):=by
 have uh1:=h1.row.hi;refine f_in Tryz.func84 rfl ?_;refine go ?_;refine clb en97 (hc:=r3text_ok h1 om ng) (hk:=?_);rintro _ _ sc rfl;have aol:=sc.2;refine go ?_;rcases Bool.eq_false_or_eq_true (fitR a)with r8|r8;refine go ?_;exact f_ret2 (t:=4) (u:=5) (v1:=S (txtR ng a)) (v2:=.int .i64 0) rfl aol (by first|exact chk_f asuRef4|exact chk_t asuRef4) rfl rfl;refine go ?_;exact f_ret2 (t:=4) (u:=5) (v1:=S ([])) (v2:=.int .i64 30) rfl aol (by first|exact chk_f asuRef4|exact chk_t asuRef4) rfl rfl
theorem r3sum_ok {A1:Option Addr}{n1 c1 a lo1:Nat}{w:World}(h1:Dg w lo1 A1 n1 c1 a)(s1:n1<=50000){A2:Option Addr}{n2 c2 b lo2:Nat}(h2:Dg w lo2 A2 n2 c2 b)(s2:n2<=50000)(nx ny:Bool):
    CL 83 #[.bool nx,.slice A1 n1 c1,.bool ny,.slice A2 n2 c2] w (Ret w λv w'=>v=resI (outI (sgn nx a+sgn ny b))):=by
 have uh1:=h1.row.hi;have uh2:=h2.row.hi;have e1:=h1.len;have e2:=h2.len;refine f_in Tryz.func83 rfl ?_;refine go ?_;refine l_op (k_eqlB (a:=nx) (b:=ny) (q:=((nx==ny))) U4 rfl rfl rfl ?_);refine go ?_;rcases Bool.eq_false_or_eq_true (nx==ny)with aou|aou;refine go ?_;refine clb en112 (hc:=r3plus_ok h1 om h2 om) (hk:=?_);rintro _ _ aov ⟨aow,aon,aox,rfl,sc⟩;have aoy:=aov.2;have sc:=sc.mono (lo':=w.heap.size) om;have ao8:=sc.row.hi;have hl9:aon<=50001:=by rw[<-sc.len];exact len_add om _ _ 50000 om om
 refine go ?_;refine clb en99 (hc:=r3chk_ok sc om nx) (hk:=?_);rintro _ _ aoo rfl;have aoy:=xt aoy aoo.2;refine go ?_;exact f_ret2 (t:=8) (u:=9) (v1:=S (rS (outI (sgn nx (a+b))))) (v2:=.int .i64 (rE (outI (sgn nx (a+b))))) rfl aoy (congrArg (λx=>resI (outI x)) (by first|exact sgn_add_same asuRef4|exact sgn_add_ge asuRef4 hle|exact sgn_add_lt asuRef4 hle)) rfl rfl;refine go ?_;refine clb en114 (hc:=r3order_ok h1 om h2 om) (hk:=?_);rintro _ _ aoz rfl;have h1:=Dg.ext aoz.2 h1;have h2:=Dg.ext aoz.2 h2;have r8:=aoz.2;refine go ?_;by_cases aop:0<=(cmpI (a:Int) (b:Int));have hle:=cmpI_ge aop;refine go ?_;refine clb en113 (hc:=r3minus_ok h1 om h2 om hle) (hk:=?_);rintro _ _ ao0 ⟨ao1,aoq,ao2,rfl,aol⟩;have r8:=xt r8 ao0.2;have aol:=aol.mono (lo':=w.heap.size) om;have apf:=aol.row.hi;have hl9:aoq<=50001:=by rw[<-aol.len];exact Nat.le_trans (len_mono om (Nat.sub_le _ _)) om
 refine go ?_;refine clb en99 (hc:=r3chk_ok aol om nx) (hk:=?_);rintro _ _ aor rfl;have r8:=xt r8 aor.2;refine go ?_;exact f_ret2 (t:=8) (u:=9) (v1:=S (rS (outI (sgn nx (a-b))))) (v2:=.int .i64 (rE (outI (sgn nx (a-b))))) rfl r8 (congrArg (λx=>resI (outI x)) (by first|exact sgn_add_same asuRef4|exact sgn_add_ge asuRef4 hle|exact sgn_add_lt asuRef4 hle)) rfl rfl;have hle:=cmpI_lt' aop;refine go ?_;refine clb en113 (hc:=r3minus_ok h2 om h1 om hle) (hk:=?_);rintro _ _ ao3 ⟨ao4,aos,ao5,rfl,aom⟩;have r8:=xt r8 ao3.2;have aom:=aom.mono (lo':=w.heap.size) om;have apk:=aom.row.hi;have hl9:aos<=50001:=by rw[<-aom.len];exact Nat.le_trans (len_mono om (Nat.sub_le _ _)) om
 refine go ?_;refine clb en99 (hc:=r3chk_ok aom om ny) (hk:=?_);rintro _ _ aot rfl;have r8:=xt r8 aot.2;refine go ?_;exact f_ret2 (t:=8) (u:=9) (v1:=S (rS (outI (sgn ny (b-a))))) (v2:=.int .i64 (rE (outI (sgn ny (b-a))))) rfl r8 (congrArg (λx=>resI (outI x)) (by first|exact sgn_add_same asuRef4|exact sgn_add_ge asuRef4 hle|exact sgn_add_lt asuRef4 hle)) rfl rfl
theorem r3Add_ok (a b:List UInt8)(w:World)(sa:a.length<=1000000)(sb:b.length<=1000000):
    CL 54 #[S a,S b] w (Ret w λv w'=>v=resI (addI a b)):=by
 refine f_in Tryz.func54 rfl ?_;refine go ?_;rcases Bool.eq_false_or_eq_true (isInt a)with r8|r8;refine go ?_;refine clb en95 (hc:=r3Valid_ok a _ om) (hk:=?_);rintro _ _ aow rfl;have sc:=aow.2;refine go ?_;refine clb en95 (hc:=r3Valid_ok b _ om) (hk:=?_);rintro _ _ aox rfl;have sc:=xt sc aox.2;refine go ?_;rcases Bool.eq_false_or_eq_true (isInt b)with aom|aom;refine go ?_;refine cl en98 (r3digits_ok _ _ r8) ?_;rintro _ _ aoy ⟨aoo,aop,aoq,rfl,aol⟩;have sc:=xt sc aoy.2;have aol:=aol.mono (lo':=w.heap.size) om;have ao7:=dg_len aol (val10 r8);have ao8:=aol.row.hi;refine go ?_;refine cl en98 (r3digits_ok _ _ aom) ?_;rintro _ _ aov ⟨aor,aos,aot,rfl,aon⟩;have aol:=Dg.ext aov.2 aol;have sc:=xt sc aov.2;have aon:=aon.mono (lo':=w.heap.size) om;have apb:=dg_len aon (val10 aom);have apc:=aon.row.hi;refine go ?_;refine clb en101 (hc:=r3sum_ok aol om aon om (neg a) (neg b)) (hk:=?_);rintro _ _ aou rfl;have sc:=xt sc aou.2;refine go ?_;exact f_ret2 (t:=4) (u:=5) (v1:=S (rS (outI (sgn (neg a) (valN (body a))+sgn (neg b) (valN (body b)))))) (v2:=.int .i64 (rE (outI (sgn (neg a) (valN (body a))+sgn (neg b) (valN (body b)))))) rfl sc (by rw[addI_ok (yes_2 r8 aom)];rfl) rfl rfl;refine go ?_;exact f_ret2 (t:=4) (u:=5) (v1:=S ([])) (v2:=.int .i64 30) rfl sc (by rw[addI_no (no_r aom)];rfl) rfl rfl;refine go ?_;refine clb en95 (hc:=r3Valid_ok a _ om) (hk:=?_)
 rintro _ _ aoz rfl;have ao0:=aoz.2;refine go ?_;exact f_ret2 (t:=4) (u:=5) (v1:=S ([])) (v2:=.int .i64 30) rfl ao0 (by rw[addI_no (no_l r8)];rfl) rfl rfl
theorem r3Sub_ok (a b:List UInt8)(w:World)(sa:a.length<=1000000)(sb:b.length<=1000000):
    CL 78 #[S a,S b] w (Ret w λv w'=>v=resI (subI a b)):=by
 refine f_in Tryz.func78 rfl ?_;refine go ?_;rcases Bool.eq_false_or_eq_true (isInt a)with r8|r8;refine go ?_;refine clb en95 (hc:=r3Valid_ok a _ om) (hk:=?_);rintro _ _ aow rfl;have sc:=aow.2;refine go ?_;refine clb en95 (hc:=r3Valid_ok b _ om) (hk:=?_);rintro _ _ aox rfl;have sc:=xt sc aox.2;refine go ?_;rcases Bool.eq_false_or_eq_true (isInt b)with aom|aom;refine go ?_;refine cl en98 (r3digits_ok _ _ r8) ?_;rintro _ _ aoy ⟨aoo,aop,aoq,rfl,aol⟩;have sc:=xt sc aoy.2;have aol:=aol.mono (lo':=w.heap.size) om;have ao7:=dg_len aol (val10 r8);have ao8:=aol.row.hi;refine go ?_;refine cl en98 (r3digits_ok _ _ aom) ?_;rintro _ _ aov ⟨aor,aos,aot,rfl,aon⟩;have aol:=Dg.ext aov.2 aol;have sc:=xt sc aov.2;have aon:=aon.mono (lo':=w.heap.size) om;have apb:=dg_len aon (val10 aom);have apc:=aon.row.hi;refine go ?_;refine clb en101 (hc:=r3sum_ok aol om aon om (neg a) (!(neg b))) (hk:=?_);rintro _ _ aou rfl;have sc:=xt sc aou.2;refine go ?_;exact f_ret2 (t:=4) (u:=5) (v1:=S (rS (outI (sgn (neg a) (valN (body a))+sgn (!(neg b)) (valN (body b)))))) (v2:=.int .i64 (rE (outI (sgn (neg a) (valN (body a))+sgn (!(neg b)) (valN (body b)))))) rfl sc (by rw[subI_ok (yes_2 r8 aom),sgn_not];rfl) rfl rfl;refine go ?_;exact f_ret2 (t:=4) (u:=5) (v1:=S ([])) (v2:=.int .i64 30) rfl sc (by rw[subI_no (no_r aom)];rfl) rfl rfl;refine go ?_
 refine clb en95 (hc:=r3Valid_ok a _ om) (hk:=?_);rintro _ _ aoz rfl;have ao0:=aoz.2;refine go ?_;exact f_ret2 (t:=4) (u:=5) (v1:=S ([])) (v2:=.int .i64 30) rfl ao0 (by rw[subI_no (no_l r8)];rfl) rfl rfl
theorem r3Mul_ok (a b:List UInt8)(w:World)(sa:a.length<=1000000)(sb:b.length<=1000000):
    CL 56 #[S a,S b] w (Ret w λv w'=>v=resI (mulI a b)):=by
 refine f_in Tryz.func56 rfl ?_;refine go ?_;rcases Bool.eq_false_or_eq_true (isInt a)with r8|r8;refine go ?_;refine clb en95 (hc:=r3Valid_ok a _ om) (hk:=?_);rintro _ _ aoy rfl;have sc:=aoy.2;refine go ?_;refine clb en95 (hc:=r3Valid_ok b _ om) (hk:=?_);rintro _ _ aoz rfl;have sc:=xt sc aoz.2;refine go ?_;rcases Bool.eq_false_or_eq_true (isInt b)with aon|aon;refine go ?_;refine cl en98 (r3digits_ok _ _ r8) ?_;rintro _ _ ao0 ⟨aop,aoq,aor,rfl,aol⟩;have sc:=xt sc ao0.2;have aol:=aol.mono (lo':=w.heap.size) om;have apc:=dg_len aol (val10 r8);have apd:=aol.row.hi;refine go ?_;refine cl en98 (r3digits_ok _ _ aon) ?_;rintro _ _ aox ⟨aos,aot,aou,rfl,aom⟩;have aol:=Dg.ext aox.2 aol;have sc:=xt sc aox.2;have aom:=aom.mono (lo':=w.heap.size) om;have apg:=dg_len aom (val10 aon);have aph:=aom.row.hi;refine go ?_;refine l_op (k_neqB (a:=neg a) (b:=neg b) (q:=(!((neg a)==(neg b)))) U4 rfl rfl rfl ?_);refine go ?_;refine clb en100 (hc:=r3times_ok aol om aom om) (hk:=?_);rintro _ _ aow ⟨ao1,ao2,ao3,rfl,aoo⟩;have sc:=xt sc aow.2;have aoo:=aoo.mono (lo':=w.heap.size) om;have apk:=aoo.row.hi;have lm9:=dg_len aoo (lt400 (val10 r8) (val10 aon));refine clb en99 (hc:=r3chk_ok aoo om (!((neg a)==(neg b)))) (hk:=?_);rintro _ _ aov rfl;have sc:=xt sc aov.2;refine go ?_;exact f_ret2 (t:=4) (u:=5) (v1:=S (rS (outI (sgn (!((neg a)==(neg b))) ((valN (body a))*(valN (body b))))))) (v2:=.int .i64 (rE (outI (sgn (!((neg a)==(neg b))) ((valN (body a))*(valN (body b))))))) rfl sc (by rw[mulI_ok (yes_2 r8 aon),<-sgn_val,<-sgn_val,<-sgn_mul];rfl) rfl rfl
 refine go ?_;exact f_ret2 (t:=4) (u:=5) (v1:=S ([])) (v2:=.int .i64 30) rfl sc (by rw[mulI_no (no_r aon)];rfl) rfl rfl;refine go ?_;refine clb en95 (hc:=r3Valid_ok a _ om) (hk:=?_);rintro _ _ ao4 rfl;have ao5:=ao4.2;refine go ?_;exact f_ret2 (t:=4) (u:=5) (v1:=S ([])) (v2:=.int .i64 30) rfl ao5 (by rw[mulI_no (no_l r8)];rfl) rfl rfl
theorem r3Cmp_ok (a b:List UInt8)(w:World)(sa:a.length<=1000000)(sb:b.length<=1000000):
    CL 77 #[S a,S b] w (Ret w λv w'=>v=.int .i64 (cmpS a b)):=by
 refine f_in Tryz.func77 rfl ?_;refine go ?_;rcases Bool.eq_false_or_eq_true (isInt a)with r8|r8;refine go ?_;refine clb en95 (hc:=r3Valid_ok a _ om) (hk:=?_);rintro _ _ ao0 rfl;have sc:=ao0.2;refine go ?_;refine clb en95 (hc:=r3Valid_ok b _ om) (hk:=?_);rintro _ _ ao1 rfl;have sc:=xt sc ao1.2;refine go ?_;rcases Bool.eq_false_or_eq_true (isInt b)with aom|aom;refine go ?_;refine cl en98 (r3digits_ok _ _ r8) ?_;rintro _ _ ao2 ⟨aoo,aop,aoq,rfl,aol⟩;have sc:=xt sc ao2.2;have aol:=aol.mono (lo':=w.heap.size) om;have apb:=dg_len aol (val10 r8);have apc:=aol.row.hi;refine go ?_;refine cl en98 (r3digits_ok _ _ aom) ?_;rintro _ _ aoz ⟨aor,aos,aot,rfl,aon⟩;have aol:=Dg.ext aoz.2 aol;have sc:=xt sc aoz.2;have aon:=aon.mono (lo':=w.heap.size) om;have apf:=dg_len aon (val10 aom);have apg:=aon.row.hi;refine go ?_;refine l_op (k_neqB (a:=neg a) (b:=neg b) (q:=(!((neg a)==(neg b)))) U4 rfl rfl rfl ?_);refine go ?_;rcases Bool.eq_false_or_eq_true ((neg a)==(neg b))with aou|aou;refine go ?_;rcases Bool.eq_false_or_eq_true (neg a)with aov|aov;refine go ?_;refine clb en114 (hc:=r3order_ok aon om aol om) (hk:=?_);rintro _ _ aox rfl;have sc:=xt sc aox.2;refine go ?_;exact f_ret1 (t:=4) (v:=.int .i64 (cmpI ((valN (body b):Nat):Int) ((valN (body a):Nat):Int))) rfl sc (congrArg (Value.int .i64) (cmp_eq_n (yes_2 r8 aom) aou aov)) rfl
 refine go ?_;refine clb en114 (hc:=r3order_ok aol om aon om) (hk:=?_);rintro _ _ aoy rfl;have sc:=xt sc aoy.2;refine go ?_;exact f_ret1 (t:=4) (v:=.int .i64 (cmpI ((valN (body a):Nat):Int) ((valN (body b):Nat):Int))) rfl sc (congrArg (Value.int .i64) (cmp_eq_p (yes_2 r8 aom) aou aov)) rfl;refine go ?_;rcases Bool.eq_false_or_eq_true (neg a)with aow|aow;refine go ?_;exact f_ret1 (t:=4) (v:=.int .i64 ((-1))) rfl sc (congrArg (Value.int .i64) (cmp_ne_n (yes_2 r8 aom) aou aow)) rfl;refine go ?_;exact f_ret1 (t:=4) (v:=.int .i64 1) rfl sc (congrArg (Value.int .i64) (cmp_ne_p (yes_2 r8 aom) aou aow)) rfl;refine go ?_;exact f_ret1 (t:=4) (v:=.int .i64 0) rfl sc (by rw[cmpS_no (no_r aom)]) rfl;refine go ?_;refine clb en95 (hc:=r3Valid_ok a _ om) (hk:=?_);rintro _ _ ao3 rfl;have ao4:=ao3.2;refine go ?_;exact f_ret1 (t:=4) (v:=.int .i64 0) rfl ao4 (by rw[cmpS_no (no_l r8)]) rfl
theorem r3Div_ok (a b:List UInt8)(w:World)(sa:a.length<=1000000)(sb:b.length<=1000000):
    CL 80 #[S a,S b] w (Ret w λv w'=>v=resD (divI a b)):=by
 refine f_in Tryz.func80 rfl ?_;refine go ?_;rcases Bool.eq_false_or_eq_true (isInt a)with sc|sc;rcases Bool.eq_false_or_eq_true (isInt b)with aol|aol;refine go ?_;refine clb en95 (hc:=r3Valid_ok a _ om) (hk:=?_);rintro _ _ apc rfl;have r8:=apc.2;refine go ?_;refine clb en95 (hc:=r3Valid_ok b _ om) (hk:=?_);rintro _ _ apd rfl;have r8:=xt r8 apd.2;refine go ?_;refine eqs (b:=[48]) ?_;refine go ?_;by_cases ao4:b=([48]);refine go ?_;exact f_ret3 (t:=4) (u:=5) (s:=6) (v1:=S ([])) (v2:=S ([])) (v3:=.int .i64 30) rfl r8 (by rw[divI_0 asuRef4];rfl) rfl rfl rfl;have h0:0<valN (body b):=val_pos aol ao4;refine go ?_;refine cl en98 (r3digits_ok _ _ sc) ?_;rintro _ _ ape ⟨aow,aox,aoy,rfl,aom⟩;have r8:=xt r8 ape.2;have aom:=aom.mono (lo':=w.heap.size) om;have aps:=dg_len aom (val10 sc);have apt:=aom.row.hi;refine go ?_;refine cl en98 (r3digits_ok _ _ aol) ?_;rintro _ _ ao7 ⟨aop,aoq,aor,rfl,aon⟩;have aom:=Dg.ext ao7.2 aom;have r8:=xt r8 ao7.2;have aon:=aon.mono (lo':=w.heap.size) om;have apw:=dg_len aon (val10 aol);have apx:=aon.row.hi;refine go ?_;refine clb en111 (hc:=r3div_ok aom om aon om h0) (hk:=?_);rintro _ _ ao5 ⟨Aq,nq,cq,Ar,nr,cr,rfl,hq,hr⟩;have aon:=Dg.ext ao5.2 aon;have r8:=xt r8 ao5.2;have hq:=hq.mono (lo':=w.heap.size) om;have hr:=hr.mono (lo':=w.heap.size) om;have lq:=dg_len hq (Nat.lt_of_le_of_lt (Nat.div_le_self _ _) (val10 sc))
 have lr:=dg_len hr (Nat.lt_trans (Nat.mod_lt _ h0) (val10 aol));have hmle:valN (body a)%valN (body b)<=valN (body b):=Nat.le_of_lt (Nat.mod_lt _ h0);have uhq:=hq.row.hi;have uhr:=hr.row.hi;refine go ?_;rcases Bool.eq_false_or_eq_true (neg a)with aoo|aoo;refine go ?_;by_cases ao8:0<(nr:Int);have hr0:0<valN (body a)%valN (body b):=toB_ne (B:=10) om (by rw[hr.len];omega);have hdv:=dvr h0 aoo hr0;have hrl:valN (body b)-valN (body a)%valN (body b)<=valN (body b):=Nat.sub_le _ _;refine go ?_;refine BS (λ_ aou _ apg=>?_);have aon:=Dg.ext aou aon;have hq:=Dg.ext aou hq;have hr:=Dg.ext aou hr;have r8:=xt r8 aou;have ap1:=bz aou;have hone:=dg_one (Rw.of_own apg);refine clb en112 (hc:=r3plus_ok hq om hone om) (hk:=?_);rintro _ _ aoz ⟨Ap,np,cp,rfl,hp⟩;have aon:=Dg.ext aoz.2 aon;have hr:=Dg.ext aoz.2 hr;have r8:=xt r8 aoz.2;have hp:=hp.mono (lo':=w.heap.size) om;have lp:=dg_len hp (lt201 (Nat.lt_of_le_of_lt (Nat.div_le_self _ _) (val10 sc)) (show 1<10^200 by decide +kernel));have uhp:=hp.row.hi;refine go ?_;refine clb en113 (hc:=r3minus_ok aon om hr om hmle) (hk:=?_);rintro _ _ aov ⟨Am,nm,cm,rfl,hm⟩;have hp:=Dg.ext aov.2 hp;have r8:=xt r8 aov.2;have hm:=hm.mono (lo':=w.heap.size) om;have lm:=dg_len hm (Nat.lt_of_le_of_lt (Nat.sub_le _ _) (val10 aol));have uhm:=hm.row.hi;refine go ?_
 refine l_op (k_neqB (a:=neg a) (b:=neg b) (q:=(!((neg a)==(neg b)))) U4 rfl rfl rfl ?_);refine go ?_;refine clb en99 (hc:=r3chk_ok hp om (!((neg a)==(neg b)))) (hk:=?_);rintro _ _ aos rfl;have hm:=Dg.ext aos.2 hm;have r8:=xt r8 aos.2;refine go ?_;refine clb en97 (hc:=r3text_ok hm om false) (hk:=?_);rintro _ _ aot rfl;have r8:=xt r8 aot.2;rw[txt_rem (mod_lt_pow aol hrl)];refine go ?_;by_cases ao9:(rE (outI (sgn (!((neg a)==(neg b))) (valN (body a)/valN (body b)+1))))=0;refine go ?_;exact f_ret3 (t:=4) (u:=5) (s:=6) (v1:=S (rS (outI (sgn (!((neg a)==(neg b))) (valN (body a)/valN (body b)+1))))) (v2:=S (rS (outI (sgn false (valN (body b)-valN (body a)%valN (body b)))))) (v3:=.int .i64 0) rfl r8 (by first|exact div_out (yes_2 sc aol) h0 hdv.1 hdv.2 hrl asuRef4|exact div_bad (yes_2 sc aol) h0 hdv.1 asuRef4) rfl rfl rfl;refine go ?_;exact f_ret3 (t:=4) (u:=5) (s:=6) (v1:=S ([])) (v2:=S ([])) (v3:=.int .i64 (rE (outI (sgn (!((neg a)==(neg b))) (valN (body a)/valN (body b)+1))))) rfl r8 (by first|exact div_out (yes_2 sc aol) h0 hdv.1 hdv.2 hrl asuRef4|exact div_bad (yes_2 sc aol) h0 hdv.1 asuRef4) rfl rfl rfl;have hr0:valN (body a)%valN (body b)=0:=toB_nil (B:=10) om (hr.len.trans om);have hdv:=dvp (a:=a) h0 (Or.inr hr0);have hrl:valN (body a)%valN (body b)<=valN (body b):=hmle;refine go ?_
 refine l_op (k_neqB (a:=neg a) (b:=neg b) (q:=(!((neg a)==(neg b)))) U4 rfl rfl rfl ?_);refine go ?_;refine clb en99 (hc:=r3chk_ok hq om (!((neg a)==(neg b)))) (hk:=?_);rintro _ _ ao0 rfl;have hr:=Dg.ext ao0.2 hr;have r8:=xt r8 ao0.2;refine go ?_;refine clb en97 (hc:=r3text_ok hr om false) (hk:=?_);rintro _ _ ao1 rfl;have r8:=xt r8 ao1.2;rw[txt_rem (mod_lt_pow aol hrl)];refine go ?_;by_cases apa:(rE (outI (sgn (!((neg a)==(neg b))) (valN (body a)/valN (body b)))))=0;refine go ?_;exact f_ret3 (t:=4) (u:=5) (s:=6) (v1:=S (rS (outI (sgn (!((neg a)==(neg b))) (valN (body a)/valN (body b)))))) (v2:=S (rS (outI (sgn false (valN (body a)%valN (body b)))))) (v3:=.int .i64 0) rfl r8 (by first|exact div_out (yes_2 sc aol) h0 hdv.1 hdv.2 hrl asuRef4|exact div_bad (yes_2 sc aol) h0 hdv.1 asuRef4) rfl rfl rfl;refine go ?_;exact f_ret3 (t:=4) (u:=5) (s:=6) (v1:=S ([])) (v2:=S ([])) (v3:=.int .i64 (rE (outI (sgn (!((neg a)==(neg b))) (valN (body a)/valN (body b)))))) rfl r8 (by first|exact div_out (yes_2 sc aol) h0 hdv.1 hdv.2 hrl asuRef4|exact div_bad (yes_2 sc aol) h0 hdv.1 asuRef4) rfl rfl rfl;have hdv:=dvp h0 (Or.inl aoo);have hrl:valN (body a)%valN (body b)<=valN (body b):=hmle;refine go ?_;refine l_op (k_neqB (a:=neg a) (b:=neg b) (q:=(!((neg a)==(neg b)))) U4 rfl rfl rfl ?_);refine go ?_
 refine clb en99 (hc:=r3chk_ok hq om (!((neg a)==(neg b)))) (hk:=?_);rintro _ _ ao2 rfl;have hr:=Dg.ext ao2.2 hr;have r8:=xt r8 ao2.2;refine go ?_;refine clb en97 (hc:=r3text_ok hr om false) (hk:=?_);rintro _ _ ao3 rfl;have r8:=xt r8 ao3.2;rw[txt_rem (mod_lt_pow aol hrl)];refine go ?_;by_cases apb:(rE (outI (sgn (!((neg a)==(neg b))) (valN (body a)/valN (body b)))))=0;refine go ?_;exact f_ret3 (t:=4) (u:=5) (s:=6) (v1:=S (rS (outI (sgn (!((neg a)==(neg b))) (valN (body a)/valN (body b)))))) (v2:=S (rS (outI (sgn false (valN (body a)%valN (body b)))))) (v3:=.int .i64 0) rfl r8 (by first|exact div_out (yes_2 sc aol) h0 hdv.1 hdv.2 hrl asuRef4|exact div_bad (yes_2 sc aol) h0 hdv.1 asuRef4) rfl rfl rfl;refine go ?_;exact f_ret3 (t:=4) (u:=5) (s:=6) (v1:=S ([])) (v2:=S ([])) (v3:=.int .i64 (rE (outI (sgn (!((neg a)==(neg b))) (valN (body a)/valN (body b)))))) rfl r8 (by first|exact div_out (yes_2 sc aol) h0 hdv.1 hdv.2 hrl asuRef4|exact div_bad (yes_2 sc aol) h0 hdv.1 asuRef4) rfl rfl rfl;refine go ?_;refine clb en95 (hc:=r3Valid_ok a _ om) (hk:=?_);rintro _ _ aph rfl;have ao6:=aph.2;refine go ?_;refine clb en95 (hc:=r3Valid_ok b _ om) (hk:=?_);rintro _ _ api rfl;have ao6:=xt ao6 api.2;refine go ?_;exact f_ret3 (t:=4) (u:=5) (s:=6) (v1:=S ([])) (v2:=S ([])) (v3:=.int .i64 30) rfl ao6 (by rw[divI_no (no_r aol)];rfl) rfl rfl rfl;refine go ?_
 refine clb en95 (hc:=r3Valid_ok a _ om) (hk:=?_);rintro _ _ apj rfl;have apk:=apj.2;refine go ?_;exact f_ret3 (t:=4) (u:=5) (s:=6) (v1:=S ([])) (v2:=S ([])) (v3:=.int .i64 30) rfl apk (by rw[divI_no (no_l sc)];rfl) rfl rfl rfl
theorem r3Gcd_ok (a b:List UInt8)(w:World)(sa:a.length<=1000000)(sb:b.length<=1000000):
    CL 79 #[S a,S b] w (Ret w λv w'=>v=resI (gcdI a b)):=by
 refine f_in Tryz.func79 rfl ?_;refine go ?_;rcases Bool.eq_false_or_eq_true (isInt a)with r8|r8;refine go ?_;refine clb en95 (hc:=r3Valid_ok a _ om) (hk:=?_);rintro _ _ ao0 rfl;have sc:=ao0.2;refine go ?_;refine clb en95 (hc:=r3Valid_ok b _ om) (hk:=?_);rintro _ _ ao1 rfl;have sc:=xt sc ao1.2;refine go ?_;rcases Bool.eq_false_or_eq_true (isInt b)with aol|aol;refine go ?_;refine cl en98 (r3digits_ok _ _ r8) ?_;rintro _ _ ao2 ⟨aop,aoq,aor,rfl,aom⟩;have sc:=xt sc ao2.2;have aom:=aom.mono (lo':=w.heap.size) om;have apb:=dg_len aom (val10 r8);have apc:=aom.row.hi;refine go ?_;refine cl en98 (r3digits_ok _ _ aol) ?_;rintro _ _ aoy ⟨aos,aot,aou,rfl,aoo⟩;have aom:=Dg.ext aoy.2 aom;have sc:=xt sc aoy.2;have aoo:=aoo.mono (lo':=w.heap.size) om;have apf:=dg_len aoo (val10 aol);have apg:=aoo.row.hi;refine go ?_;refine c_lp [(7,7),(9,11),(30,40)] (λkk e W=>∃Ax:Option Addr,∃nx:Nat,∃cx:Nat,∃x:Nat,∃Ay:Option Addr,∃ny:Nat,∃cy:Nat,∃y:Nat,(y=kk)∧(e 7=.slice Ax nx cx)∧(e 9=.slice Ay ny cy)∧(nx<=200)∧(ny<=200)∧(Nat.gcd x y=Nat.gcd (valN (body a)) (valN (body b)))∧(Ext w W)∧(Dg W w.heap.size Ax nx cx x)∧(Dg W w.heap.size Ay ny cy y)) ((valN (body b))) ⟨aop,aoq,aor,valN (body a),aos,aot,aou,valN (body b),rfl,rfl,rfl,(dg_len aom (val10 r8)),(dg_len aoo (val10 aol)),rfl,sc,aom,aoo⟩ ?_;rintro _ _ _ ⟨Ax,nx,cx,x,Ay,ny,cy,y,rfl,aoz,aov,q1,q2,q3,aon,hx,hy⟩
 have apk:=bz aon;by_cases hm:0<ny;have hy0:0<y:=toB_ne (B:=10) om (by rw[hy.len];omega);have uhx:=hx.row.hi;have uhy:=hy.row.hi;refine go ?_;refine clb en111 (hc:=r3div_ok hx om hy om hy0) (hk:=?_);rintro _ _ aow ⟨Aq,nq,cq,Ar,nr,cr,rfl,hq,hr⟩;have hy:=Dg.ext aow.2 hy;have aon:=xt aon aow.2;have hr:=hr.mono (lo':=w.heap.size) om;have uhr:=hr.row.hi;refine go ?_;exact lend (hk:=by exact Nat.mod_lt _ hy0) ⟨Ay,ny,cy,y,Ar,nr,cr,x%y,rfl,rfl,rfl,om,(by rw[<-hr.len];exact Nat.le_trans (len_mono om (Nat.le_of_lt (Nat.mod_lt _ hy0))) (by rw[hy.len];exact q2)),(gcd_step q3),aon,hy,hr⟩;have hy0:y=0:=toB_nil (B:=10) om (hy.len.trans om);rw[hy0,Nat.gcd_zero_right]at q3;have uhx:=hx.row.hi;refine go ?_;refine clb en99 (hc:=r3chk_ok hx om false) (hk:=?_);rintro _ _ aox rfl;have aon:=xt aon aox.2;refine go ?_;exact f_ret2 (t:=4) (u:=5) (v1:=S (rS (outI (sgn false x)))) (v2:=.int .i64 (rE (outI (sgn false x)))) rfl aon (by rw[gcdI_ok (yes_2 r8 aol),<-q3];rfl) rfl rfl;refine go ?_;exact f_ret2 (t:=4) (u:=5) (v1:=S ([])) (v2:=.int .i64 30) rfl sc (by rw[gcdI_no (no_r aol)];rfl) rfl rfl;refine go ?_;refine clb en95 (hc:=r3Valid_ok a _ om) (hk:=?_);rintro _ _ ao3 rfl;have ao4:=ao3.2;refine go ?_;exact f_ret2 (t:=4) (u:=5) (v1:=S ([])) (v2:=.int .i64 30) rfl ao4 (by rw[gcdI_no (no_l r8)];rfl) rfl rfl
theorem asuRef5 {p:Prop}(h:p:=by assumption):p:=h
theorem len_showI {n:Int}(h:fits n=true):(showI n).length<=201:=(isInt_len (isInt_showI h)).2
theorem len_outI (n:Int):(rS (outI n)).length<=1000000:=by
  unfold outI
  cases h:fits n with
  |true=>have:=len_showI h;simp[rS];omega
  |false=>simp[rS]
theorem len_addI (a b:List UInt8):(rS (addI a b)).length<=1000000:=by unfold addI;split;exact len_outI _;simp[rS]
theorem len_mulI (a b:List UInt8):(rS (mulI a b)).length<=1000000:=by unfold mulI;split;exact len_outI _;simp[rS]
def Gi (a b:List UInt8):Int:=((Int.gcd (valZ a) (valZ b):Nat):Int)
def mk4 (n d:List UInt8):Option R:=if isInt n&&isInt d then makeR (valZ n) (valZ d)else none
section
variable {x y:List UInt8}
theorem gi_pos (h:valZ y≠0):0<Gi x y:=by
  have:0<Int.gcd (valZ x) (valZ y):=Int.gcd_pos_of_ne_zero_right _ h
  unfold Gi;omega
theorem gi_fits (hy:isInt y=true)(h:valZ y≠0):fits (Gi x y)=true:=fits_le (fits_val hy) (by
  have hd:Gi x y∣valZ y:=Int.gcd_dvd_right ..
  exact Nat.le_of_dvd om (Int.natAbs_dvd_natAbs.2 hd))
theorem gcd_some (hx:isInt x=true)(hy:isInt y=true)(h:valZ y≠0):gcdI x y=some (showI (Gi x y)):=by
  unfold gcdI;rw[if_pos (by rw[hx,hy];rfl)];unfold outI
  show(if fits (Gi x y)=true then some (showI (Gi x y))else none)=_
  rw[if_pos (gi_fits hy h)]
theorem div_some {z:List UInt8}(hz:isInt z=true)(hy:isInt y=true)(h:valZ y≠0)(hd:Gi x y∣valZ z):divI z (showI (Gi x y))=some (showI (valZ z/Gi x y),showI (valZ z%Gi x y)):=by
  have hp:=gi_pos (x:=x) h
  rw[divI_ok (by rw[hz,isInt_showI (gi_fits hy h)];rfl) (by rw[body_showI,valN_showN];omega),valZ_showI]
  obtain⟨g,hg⟩:∃g:Nat,Gi x y=(g:Int):=⟨_,rfl⟩
  rw[hg]at hd hp ⊢
  unfold outI
  rw[if_pos (fits_le (fits_val hz) (ediv_abs_le _ _ om hd))]
  rfl
theorem gi_l:Gi x y∣valZ x:=Int.gcd_dvd_left ..
theorem gi_r:Gi x y∣valZ y:=Int.gcd_dvd_right ..
theorem resD_some (q r:List UInt8):resD (some (q,r))=.tuple #[S q,S r,.int .i64 0]:=rfl
theorem resI_some (q:List UInt8):resI (some q)=.tuple #[S q,.int .i64 0]:=rfl
theorem mk_no1 (h:isInt x=false):none=mk4 x y:=by unfold mk4;rw[h];rfl
theorem mk_no2 (h:isInt y=false):none=mk4 x y:=by unfold mk4;rw[h];simp
theorem mk_no3 (h:y=[48]):none=mk4 x y:=by
  unfold mk4 makeR;subst h;rw[valZ_zero];simp
theorem ne_zero (hy:isInt y=true)(h:¬y=[48]):valZ y≠0:=λe=>h ((valZ_eq_zero hy).1 e)
theorem mk_pos (hx:isInt x=true)(hy:isInt y=true)(h0:¬y=[48])(hs:¬cmpS y [48]<0):some (showI (valZ x/Gi x y),showI (valZ y/Gi x y))=mk4 x y:=by
  rw[cmpS_zero hy,cmpI_neg]at hs
  unfold mk4 makeR redN redD
  rw[hx,hy,Bool.and_self,if_pos rfl,if_neg (ne_zero hy h0),if_neg hs,if_neg hs];rfl
theorem mk_neg (hx:isInt x=true)(hy:isInt y=true)(h0:¬y=[48])(hs:cmpS y [48]<0):
    some (showI (valZ (showI (-valZ x))/Gi (showI (-valZ x)) (showI (-valZ y))),showI (valZ (showI (-valZ y))/Gi (showI (-valZ x)) (showI (-valZ y))))=mk4 x y:=by
  rw[cmpS_zero hy,cmpI_neg]at hs
  unfold mk4 makeR redN redD Gi
  rw[hx,hy,Bool.and_self,if_pos rfl,if_neg (ne_zero hy h0),if_pos hs,if_pos hs,valZ_showI,valZ_showI,Int.gcd_neg,Int.neg_gcd]
theorem ne_neg (hy:isInt y=true)(h0:¬y=[48]):valZ (showI (-valZ y))≠0:=by rw[valZ_showI];have:=ne_zero hy h0;omega
end
theorem resR_none:Value.tuple #[.agg #[S [],S []],.int .i64 40]=resR none:=rfl
theorem resR_some (a b:List UInt8):Value.tuple #[.agg #[S a,S b],.int .i64 0]=resR (some (a,b)):=rfl
theorem rE_some {n:Int}{o:Option (List UInt8)}(ho:o=outI n)(h:rE o=0):fits n=true∧rS o=showI n:=by
  subst ho
  unfold outI at *
  cases hf:fits n with
  |true=>exact⟨rfl,rfl⟩
  |false=>rw[hf]at h;simp[rE]at h
theorem rE_none {n:Int}{o:Option (List UInt8)}(ho:o=outI n)(h:¬rE o=0):fits n=false:=by
  subst ho
  unfold outI at *
  cases hf:fits n with
  |true=>rw[hf]at h;simp[rE]at h
  |false=>rfl
section
variable {on od:Option (List UInt8)}{n d:Int}
theorem bo_ok (h1:on=outI n)(h2:od=outI d)(e1:rE on=0)(e2:rE od=0):mk4 (rS on) (rS od)=bothF n d:=by
  obtain⟨f1,s1⟩:=rE_some h1 e1
  obtain⟨f2,s2⟩:=rE_some h2 e2
  unfold bothF mk4
  rw[s1,s2,isInt_showI f1,isInt_showI f2,f1,f2,valZ_showI,valZ_showI]
  first|done|rfl
theorem bo_1 (h1:on=outI n)(e1:¬rE on=0):none=bothF n d:=by unfold bothF;rw[rE_none h1 e1];rfl
theorem bo_2 (h2:od=outI d)(e2:¬rE od=0):none=bothF n d:=by unfold bothF;rw[rE_none h2 e2];simp
end
section
variable {x1 x2 y1 y2:List UInt8}
theorem m_11 (ha:okR (x1,x2)=true)(hb:okR (y1,y2)=true):mulI x1 y1=outI (valZ x1*valZ y1):=mulI_ok (by rw[okR_1 ha,okR_1 hb];rfl)
theorem m_22 (ha:okR (x1,x2)=true)(hb:okR (y1,y2)=true):mulI x2 y2=outI (valZ x2*valZ y2):=mulI_ok (by rw[okR_2 ha,okR_2 hb];rfl)
theorem m_12 (ha:okR (x1,x2)=true)(hb:okR (y1,y2)=true):mulI x1 y2=outI (valZ x1*valZ y2):=mulI_ok (by rw[okR_1 ha,okR_2 hb];rfl)
theorem mulR_2 (ha:okR (x1,x2)=true)(hb:okR (y1,y2)=true):mulR (x1,x2) (y1,y2)=bothF (valZ x1*valZ y1) (valZ x2*valZ y2):=by unfold mulR;rw[ha,hb];rfl
theorem mulR_n1 (ha:okR (x1,x2)=false):none=mulR (x1,x2) (y1,y2):=by unfold mulR;rw[ha];rfl
theorem mulR_n2 (hb:okR (y1,y2)=false):none=mulR (x1,x2) (y1,y2):=by unfold mulR;rw[hb];simp
end
def crS (k:Bool)(o:Option (List UInt8)):List UInt8:=if k then rS o else[]
def crB (k:Bool)(o p q:Option (List UInt8)):Bool:=k&&decide (rE o=0)&&decide (rE p=0)&&decide (rE q=0)
theorem len_crS (k:Bool)(a b:List UInt8):(crS k (mulI a b)).length<=1000000:=by unfold crS;split;exact len_mulI _ _;simp
section
variable {okk:Bool}{op oq od:Option (List UInt8)}{p q s d:Int}{os:List UInt8->List UInt8->Option (List UInt8)}{W:Option R}
theorem cr_ok (h:crB okk op oq od=true):okk=true∧rE op=0∧rE oq=0∧rE od=0:=by
  unfold crB at h;simp at h;exact⟨h.1.1.1,h.1.1.2,h.1.2,h.2⟩
structure Four (okk:Bool)(op oq od:Option (List UInt8))(os:List UInt8->List UInt8->Option (List UInt8))(p q s d:Int)(W:Option R):Prop where
  hp:okk=true->op=outI p
  hq:okk=true->oq=outI q
  hd:okk=true->od=outI d
  hs:fits p=true->fits q=true->os (showI p) (showI q)=outI s
  hW:W=if okk then(if fits p&&fits q then bothF s d else none)else none
theorem f_no (F:Four okk op oq od os p q s d W)(h:crB okk op oq od=false):none=W:=by
  rw[F.hW]
  cases okk with
  |false=>rfl
  | true=>
    have hp:=F.hp rfl
    have hq:=F.hq rfl
    have hd:=F.hd rfl
    rw[if_pos rfl]
    by_cases e1:rE op=0
    · by_cases e2:rE oq=0
      · by_cases e3:rE od=0
        · simp[crB,e1,e2,e3]at h
        · have:=bo_2 (n:=s) hd e3
          rw[<-this];split <;>rfl
      · rw[rE_none hq e2];simp
    · rw[rE_none hp e1];rfl
theorem f_e (F:Four okk op oq od os p q s d W)(h:crB okk op oq od=true)(he:¬rE (os (crS okk op) (crS okk oq))=0):none=W:=by
  obtain⟨rfl,e1,e2,_⟩:=cr_ok h
  obtain⟨f1,s1⟩:=rE_some (F.hp rfl) e1
  obtain⟨f2,s2⟩:=rE_some (F.hq rfl) e2
  rw[F.hW,f1,f2]
  have h1:crS true op=showI p:=s1
  have h2:crS true oq=showI q:=s2
  rw[h1,h2]at he
  have:=bo_1 (d:=d) (F.hs f1 f2) he
  rw[<-this];rfl
theorem f_ok (F:Four okk op oq od os p q s d W)(h:crB okk op oq od=true)(he:rE (os (crS okk op) (crS okk oq))=0):mk4 (rS (os (crS okk op) (crS okk oq))) (crS okk od)=W:=by
  obtain⟨rfl,e1,e2,e3⟩:=cr_ok h
  obtain⟨f1,s1⟩:=rE_some (F.hp rfl) e1
  obtain⟨f2,s2⟩:=rE_some (F.hq rfl) e2
  rw[F.hW,f1,f2]
  have h1:crS true op=showI p:=s1
  have h2:crS true oq=showI q:=s2
  have h3:crS true od=rS od:=rfl
  rw[h1,h2]at he ⊢
  rw[h3,bo_ok (F.hs f1 f2) (F.hd rfl) he e3];rfl
end
theorem four_add (x1 x2 y1 y2:List UInt8):Four (okR (x1,x2)&&okR (y1,y2)) (mulI x1 y2) (mulI y1 x2) (mulI x2 y2) addI (valZ x1*valZ y2) (valZ y1*valZ x2) (valZ x1*valZ y2+valZ y1*valZ x2) (valZ x2*valZ y2) (addR (x1,x2) (y1,y2)):=
  ⟨λh=>m_12 (and_l h) (and_r h),λh=>m_12 (and_r h) (and_l h),λh=>m_22 (and_l h) (and_r h),λh1 h2=>by rw[addI_ok (by rw[isInt_showI h1,isInt_showI h2];rfl),valZ_showI,valZ_showI],rfl⟩
theorem sz_int {l:List UInt8}(h:isInt l=true):l.length<=1000000:=by have:=isInt_len h;omega
theorem r4Valid_ok (x y:List UInt8)(w:World)(s1:x.length<=1000000)(s2:y.length<=1000000):
    CL 55 #[.agg #[S x,S y]] w (Ret w λv w'=>v=.bool (okR (x,y))):=by
 refine f_in Tryz.func55 rfl ?_;refine go ?_;refine bx (λ_ aot r8=>?_);have sc:=aot.2;refine go ?_;refine clb en95 (hc:=r3Valid_ok x _ asuRef5) (hk:=?_);rintro _ _ aoo rfl;have⟨r8,sc⟩:=be1 aoo.2 r8 sc;refine go ?_;refine clb en95 (hc:=r3Valid_ok y _ asuRef5) (hk:=?_);rintro _ _ aop rfl;have⟨r8,sc⟩:=be1 aop.2 r8 sc;refine go ?_;rcases Bool.eq_false_or_eq_true (isInt x)with aom|aom;rcases Bool.eq_false_or_eq_true (isInt y)with aol|aol;refine go ?_;refine clb en86 (hc:=r3Cmp_ok y ([48]) _ asuRef5 dc) (hk:=?_);rintro _ _ aoq rfl;have⟨r8,sc⟩:=be1 aoq.2 r8 sc;refine go ?_;by_cases aor:(cmpS y ([48]))<=0;refine go ?_;exact f_ret1 (t:=2) (v:=.bool false) rfl sc (by first|exact okR_c1 asuRef5|exact okR_c2 asuRef5|exact okR_c3 asuRef5|exact okR_c4 asuRef5 asuRef5 asuRef5 asuRef5|exact okR_c5 asuRef5 asuRef5 asuRef5 asuRef5) rfl;refine go ?_;refine clb en96 (hc:=r3Gcd_ok x y _ asuRef5 asuRef5) (hk:=?_);rintro _ _ aos rfl;have sc:=xt sc aos.2;refine go ?_;by_cases aon:(rE (gcdI x y))=0;refine go ?_;refine eqs (b:=[49]) ?_;refine go ?_;exact f_ret1 (t:=2) (v:=.bool (decide ((rS (gcdI x y))=([49])))) rfl sc (by first|exact okR_c1 asuRef5|exact okR_c2 asuRef5|exact okR_c3 asuRef5|exact okR_c4 asuRef5 asuRef5 asuRef5 asuRef5|exact okR_c5 asuRef5 asuRef5 asuRef5 asuRef5) rfl
 refine go ?_;exact f_ret1 (t:=2) (v:=.bool false) rfl sc (by first|exact okR_c1 asuRef5|exact okR_c2 asuRef5|exact okR_c3 asuRef5|exact okR_c4 asuRef5 asuRef5 asuRef5 asuRef5|exact okR_c5 asuRef5 asuRef5 asuRef5 asuRef5) rfl;refine go ?_;exact f_ret1 (t:=2) (v:=.bool false) rfl sc (by first|exact okR_c1 asuRef5|exact okR_c2 asuRef5|exact okR_c3 asuRef5|exact okR_c4 asuRef5 asuRef5 asuRef5 asuRef5|exact okR_c5 asuRef5 asuRef5 asuRef5 asuRef5) rfl;refine go ?_;exact f_ret1 (t:=2) (v:=.bool false) rfl sc (by first|exact okR_c1 asuRef5|exact okR_c2 asuRef5|exact okR_c3 asuRef5|exact okR_c4 asuRef5 asuRef5 asuRef5 asuRef5|exact okR_c5 asuRef5 asuRef5 asuRef5 asuRef5) rfl
theorem r4Make_ok (x y:List UInt8)(w:World)(s1:x.length<=1000000)(s2:y.length<=1000000):
    CL 51 #[S x,S y] w (Ret w λv w'=>v=resR (mk4 x y)):=by
 refine f_in Tryz.func51 rfl ?_;refine go ?_;refine al inf36 (λ_ ao5 sc=>?_);have r8:=ao5.2;refine go ?_;refine clb en95 (hc:=r3Valid_ok x _ asuRef5) (hk:=?_);rintro _ _ aop rfl;have⟨sc,r8⟩:=be1 aop.2 sc r8;refine go ?_;refine clb en95 (hc:=r3Valid_ok y _ asuRef5) (hk:=?_);rintro _ _ aoq rfl;have⟨sc,r8⟩:=be1 aoq.2 sc r8;refine go ?_;rcases Bool.eq_false_or_eq_true (isInt x)with aol|aol;rcases Bool.eq_false_or_eq_true (isInt y)with aom|aom;refine go ?_;refine eqs (b:=[48]) ?_;refine go ?_;by_cases aoo:y=([48]);refine go ?_;refine SA sc (λ_ aor ao6=>?_);have r8:=plw aor r8;have aph:=psz aor;refine go ?_;refine f_out (v:=.tuple #[.agg #[S ([]),S ([])],.int .i64 40]) (res2 (r1:=.cell 4 25) (r2:=.tmp 5) rfl ?_ ?_) r8 (by rw[resR_none];exact congrArg resR (by first|exact mk_no1 asuRef5|exact mk_no2 asuRef5|exact mk_no3 asuRef5));refine res_cellA (t:=4) (cs:=[S ([]),S ([])]) (b:=w.heap.size) (o:=0) U36 rfl sz36 ?_ ?_;exact rfl;exact Blk.cells ao6 (i:=0) rfl;exact res_tmp (t:=5) (by exact rfl) _;have hx:=aol;have hy:=aom;have hy48:=aoo;have hy0:=ne_zero hy hy48;refine go ?_;refine clb en86 (hc:=r3Cmp_ok y ([48]) _ asuRef5 dc) (hk:=?_);rintro _ _ aos rfl;have⟨sc,r8⟩:=be1 aos.2 sc r8;refine go ?_;by_cases aon:(cmpS y ([48]))<0
 have hs:=aon;have hX:=isInt_neg hx;have hY:=isInt_neg hy;have hY0:=ne_neg hy hy48;refine go ?_;refine clb en81 (hc:=r3Sub_ok [48] x _ dc asuRef5) (hk:=?_);rintro _ _ aot hcv;have⟨sc,r8⟩:=be1 aot.2 sc r8;rw[subI_zero hx,resI_some]at hcv;subst hcv;refine go ?_;refine clb en81 (hc:=r3Sub_ok [48] y _ dc asuRef5) (hk:=?_);rintro _ _ aou hcv;have⟨sc,r8⟩:=be1 aou.2 sc r8;rw[subI_zero hy,resI_some]at hcv;subst hcv;refine go ?_;refine cl en96 (r3Gcd_ok (showI (-valZ x)) (showI (-valZ y)) _ (sz_int hX) (sz_int hY)) ?_;rintro _ _ aov hcv;have⟨sc,r8⟩:=be1 aov.2 sc r8;rw[gcd_some hX hY hY0,resI_some]at hcv;subst hcv;refine go ?_;refine cl en85 (r3Div_ok (showI (-valZ x)) (showI (Gi (showI (-valZ x)) (showI (-valZ y)))) _ (sz_int hX) (sz_int (isInt_showI (gi_fits hY hY0)))) ?_;rintro _ _ aow hcv;have⟨sc,r8⟩:=be1 aow.2 sc r8;rw[div_some hX hY hY0 gi_l,resD_some]at hcv;subst hcv;refine go ?_;refine cl en85 (r3Div_ok (showI (-valZ y)) (showI (Gi (showI (-valZ x)) (showI (-valZ y)))) _ (sz_int hY) (sz_int (isInt_showI (gi_fits hY hY0)))) ?_;rintro _ _ aox hcv;have⟨sc,r8⟩:=be1 aox.2 sc r8;rw[div_some hY hY hY0 gi_r,resD_some]at hcv;subst hcv;refine go ?_;refine SA sc (λ_ aoy ao7=>?_);have r8:=plw aoy r8;have apw:=psz aoy;refine go ?_
 refine f_out (v:=.tuple #[.agg #[S (showI (valZ (showI (-valZ x))/Gi (showI (-valZ x)) (showI (-valZ y)))),S (showI (valZ (showI (-valZ y))/Gi (showI (-valZ x)) (showI (-valZ y))))],.int .i64 0]) (res2 (r1:=.cell 4 25) (r2:=.tmp 5) rfl ?_ ?_) r8 (by rw[resR_some,mk_neg hx hy hy48 hs]);refine res_cellA (t:=4) (cs:=[S (showI (valZ (showI (-valZ x))/Gi (showI (-valZ x)) (showI (-valZ y)))),S (showI (valZ (showI (-valZ y))/Gi (showI (-valZ x)) (showI (-valZ y))))]) (b:=w.heap.size) (o:=0) U36 rfl sz36 ?_ ?_;exact rfl;exact Blk.cells ao7 (i:=0) rfl;exact res_tmp (t:=5) (by exact rfl) _;have hs:=aon;have hX:=hx;have hY:=hy;have hY0:=hy0;refine go ?_;refine cl en96 (r3Gcd_ok x y _ (sz_int hX) (sz_int hY)) ?_;rintro _ _ aoz hcv;have⟨sc,r8⟩:=be1 aoz.2 sc r8;rw[gcd_some hX hY hY0,resI_some]at hcv;subst hcv;refine go ?_;refine cl en85 (r3Div_ok x (showI (Gi x y)) _ (sz_int hX) (sz_int (isInt_showI (gi_fits hY hY0)))) ?_;rintro _ _ ao0 hcv;have⟨sc,r8⟩:=be1 ao0.2 sc r8;rw[div_some hX hY hY0 gi_l,resD_some]at hcv;subst hcv;refine go ?_;refine cl en85 (r3Div_ok y (showI (Gi x y)) _ (sz_int hY) (sz_int (isInt_showI (gi_fits hY hY0)))) ?_;rintro _ _ ao1 hcv;have⟨sc,r8⟩:=be1 ao1.2 sc r8;rw[div_some hY hY hY0 gi_r,resD_some]at hcv;subst hcv;refine go ?_;refine SA sc (λ_ ao2 ao8=>?_);have r8:=plw ao2 r8;have ap4:=psz ao2;refine go ?_
 refine f_out (v:=.tuple #[.agg #[S (showI (valZ x/Gi x y)),S (showI (valZ y/Gi x y))],.int .i64 0]) (res2 (r1:=.cell 4 25) (r2:=.tmp 5) rfl ?_ ?_) r8 (by rw[resR_some,mk_pos hx hy hy48 hs]);refine res_cellA (t:=4) (cs:=[S (showI (valZ x/Gi x y)),S (showI (valZ y/Gi x y))]) (b:=w.heap.size) (o:=0) U36 rfl sz36 ?_ ?_;exact rfl;exact Blk.cells ao8 (i:=0) rfl;exact res_tmp (t:=5) (by exact rfl) _;refine go ?_;refine SA sc (λ_ ao3 ao9=>?_);have r8:=plw ao3 r8;have ap6:=psz ao3;refine go ?_;refine f_out (v:=.tuple #[.agg #[S ([]),S ([])],.int .i64 40]) (res2 (r1:=.cell 4 25) (r2:=.tmp 5) rfl ?_ ?_) r8 (by rw[resR_none];exact congrArg resR (by first|exact mk_no1 asuRef5|exact mk_no2 asuRef5|exact mk_no3 asuRef5));refine res_cellA (t:=4) (cs:=[S ([]),S ([])]) (b:=w.heap.size) (o:=0) U36 rfl sz36 ?_ ?_;exact rfl;exact Blk.cells ao9 (i:=0) rfl;exact res_tmp (t:=5) (by exact rfl) _;refine go ?_;refine SA sc (λ_ ao4 apa=>?_);have r8:=plw ao4 r8;have ap8:=psz ao4;refine go ?_;refine f_out (v:=.tuple #[.agg #[S ([]),S ([])],.int .i64 40]) (res2 (r1:=.cell 4 25) (r2:=.tmp 5) rfl ?_ ?_) r8 (by rw[resR_none];exact congrArg resR (by first|exact mk_no1 asuRef5|exact mk_no2 asuRef5|exact mk_no3 asuRef5));refine res_cellA (t:=4) (cs:=[S ([]),S ([])]) (b:=w.heap.size) (o:=0) U36 rfl sz36 ?_ ?_;exact rfl;exact Blk.cells apa (i:=0) rfl
 exact res_tmp (t:=5) (by exact rfl) _
theorem r4Mul_ok (x1 x2 y1 y2:List UInt8)(w:World)(s1:x1.length<=1000000)(s2:x2.length<=1000000)(s3:y1.length<=1000000)(s4:y2.length<=1000000):
    CL 23 #[.agg #[S x1,S x2],.agg #[S y1,S y2]] w (Ret w λv w'=>v=resR (mulR (x1,x2) (y1,y2))):=by
 refine f_in Tryz.func23 rfl ?_;refine go ?_;refine bx (λ_ ao5 sc=>?_);have r8:=ao5.2;refine bx (λaop ao4 aol=>?_);have⟨sc,r8⟩:=be1 ao4.2 sc r8;refine al inf36 (λ_ ao3 aom=>?_);have⟨sc,aol,r8⟩:=be2 ao3.2 sc aol r8;refine go ?_;refine clb en74 (hc:=r4Valid_ok x1 x2 _ asuRef5 asuRef5) (hk:=?_);rintro _ _ aos rfl;have⟨sc,aol,aom,r8⟩:=be3 aos.2 sc aol aom r8;refine go ?_;refine clb en74 (hc:=r4Valid_ok y1 y2 _ asuRef5 asuRef5) (hk:=?_);rintro _ _ aot rfl;have⟨sc,aol,aom,r8⟩:=be3 aot.2 sc aol aom r8;refine go ?_;rcases Bool.eq_false_or_eq_true (okR (x1,x2))with aon|aon;refine go ?_;rcases Bool.eq_false_or_eq_true (okR (y1,y2))with aoo|aoo;refine go ?_;refine clb en75 (hc:=r3Mul_ok x1 y1 _ asuRef5 asuRef5) (hk:=?_);rintro _ _ aou rfl;have⟨sc,aol,aom,r8⟩:=be3 aou.2 sc aol aom r8;refine go ?_;refine clb en75 (hc:=r3Mul_ok x2 y2 _ asuRef5 asuRef5) (hk:=?_);rintro _ _ aov rfl;have⟨sc,aol,aom,r8⟩:=be3 aov.2 sc aol aom r8;refine go ?_;by_cases aoq:(rE (mulI x1 y1))=0;refine go ?_;by_cases aow:(rE (mulI x2 y2))=0
 refine go ?_;refine cl en72 (r4Make_ok (rS (mulI x1 y1)) (rS (mulI x2 y2)) _ (len_mulI _ _) (len_mulI _ _)) ?_;rintro _ _ aox rfl;have⟨sc,aol,aom,r8⟩:=be3 aox.2 sc aol aom r8;refine go ?_;refine SA aom (λ_ aoy ao6=>?_);have⟨sc,aol,r8,_⟩:=pl2 aoy sc aol r8;refine go ?_;refine f_out (v:=.tuple #[.agg #[S (rN (mk4 (rS (mulI x1 y1)) (rS (mulI x2 y2)))),S (rD (mk4 (rS (mulI x1 y1)) (rS (mulI x2 y2))))],.int .i64 (rER (mk4 (rS (mulI x1 y1)) (rS (mulI x2 y2))))]) (res2 (r1:=.cell 4 25) (r2:=.tmp 5) rfl ?_ ?_) r8 (by rw[mulR_2 aon aoo];exact congrArg resR (bo_ok (m_11 aon aoo) (m_22 aon aoo) aoq aow));refine res_cellA (t:=4) (cs:=[S (rN (mk4 (rS (mulI x1 y1)) (rS (mulI x2 y2)))),S (rD (mk4 (rS (mulI x1 y1)) (rS (mulI x2 y2))))]) (b:=aop.heap.size) (o:=0) U36 rfl sz36 ?_ ?_;exact rfl;exact Blk.cells ao6 (i:=0) rfl;exact res_tmp (t:=5) (by exact rfl) _;refine go ?_;refine SA aom (λ_ aoz ao7=>?_);have⟨sc,aol,r8,_⟩:=pl2 aoz sc aol r8;refine go ?_;refine f_out (v:=.tuple #[.agg #[S ([]),S ([])],.int .i64 40]) (res2 (r1:=.cell 4 25) (r2:=.tmp 5) rfl ?_ ?_) r8 (by rw[resR_none,mulR_2 aon aoo];exact congrArg resR (bo_2 (m_22 aon aoo) aow));refine res_cellA (t:=4) (cs:=[S ([]),S ([])]) (b:=aop.heap.size) (o:=0) U36 rfl sz36 ?_ ?_;exact rfl;exact Blk.cells ao7 (i:=0) rfl;exact res_tmp (t:=5) (by exact rfl) _;refine go ?_;refine SA aom (λ_ ao0 ao8=>?_);have⟨sc,aol,r8,_⟩:=pl2 ao0 sc aol r8;refine go ?_
 refine f_out (v:=.tuple #[.agg #[S ([]),S ([])],.int .i64 40]) (res2 (r1:=.cell 4 25) (r2:=.tmp 5) rfl ?_ ?_) r8 (by rw[resR_none,mulR_2 aon aoo];exact congrArg resR (bo_1 (m_11 aon aoo) aoq));refine res_cellA (t:=4) (cs:=[S ([]),S ([])]) (b:=aop.heap.size) (o:=0) U36 rfl sz36 ?_ ?_;exact rfl;exact Blk.cells ao8 (i:=0) rfl;exact res_tmp (t:=5) (by exact rfl) _;refine go ?_;refine SA aom (λ_ ao1 ao9=>?_);have⟨sc,aol,r8,_⟩:=pl2 ao1 sc aol r8;refine go ?_;refine f_out (v:=.tuple #[.agg #[S ([]),S ([])],.int .i64 40]) (res2 (r1:=.cell 4 25) (r2:=.tmp 5) rfl ?_ ?_) r8 (by rw[resR_none,mulR_n2 aoo]);refine res_cellA (t:=4) (cs:=[S ([]),S ([])]) (b:=aop.heap.size) (o:=0) U36 rfl sz36 ?_ ?_;exact rfl;exact Blk.cells ao9 (i:=0) rfl;exact res_tmp (t:=5) (by exact rfl) _;refine go ?_;refine SA aom (λ_ ao2 apa=>?_);have⟨sc,aol,r8,_⟩:=pl2 ao2 sc aol r8;refine go ?_;refine f_out (v:=.tuple #[.agg #[S ([]),S ([])],.int .i64 40]) (res2 (r1:=.cell 4 25) (r2:=.tmp 5) rfl ?_ ?_) r8 (by rw[resR_none,mulR_n1 aon]);refine res_cellA (t:=4) (cs:=[S ([]),S ([])]) (b:=aop.heap.size) (o:=0) U36 rfl sz36 ?_ ?_;exact rfl;exact Blk.cells apa (i:=0) rfl;exact res_tmp (t:=5) (by exact rfl) _
theorem r4cross_ok (x1 x2 y1 y2:List UInt8)(w:World)(s1:x1.length<=1000000)(s2:x2.length<=1000000)(s3:y1.length<=1000000)(s4:y2.length<=1000000):
    CL 53 #[.agg #[S x1,S x2],.agg #[S y1,S y2]] w (Ret w λv w'=>v=.tuple #[S (crS (okR (x1,x2)&&okR (y1,y2)) (mulI x1 y2)),S (crS (okR (x1,x2)&&okR (y1,y2)) (mulI y1 x2)),S (crS (okR (x1,x2)&&okR (y1,y2)) (mulI x2 y2)),.bool (crB (okR (x1,x2)&&okR (y1,y2)) (mulI x1 y2) (mulI y1 x2) (mulI x2 y2))]):=by
 refine f_in Tryz.func53 rfl ?_;refine go ?_;refine bx (λ_ aox sc=>?_);have r8:=aox.2;refine bx (λ_ aow aol=>?_);have⟨sc,r8⟩:=be1 aow.2 sc r8;refine go ?_;refine clb en74 (hc:=r4Valid_ok x1 x2 _ asuRef5 asuRef5) (hk:=?_);rintro _ _ aoq rfl;have⟨sc,aol,r8⟩:=be2 aoq.2 sc aol r8;refine go ?_;refine clb en74 (hc:=r4Valid_ok y1 y2 _ asuRef5 asuRef5) (hk:=?_);rintro _ _ aor rfl;have⟨sc,aol,r8⟩:=be2 aor.2 sc aol r8;refine go ?_;rcases Bool.eq_false_or_eq_true (okR (x1,x2))with aoo|aoo;refine go ?_;rcases Bool.eq_false_or_eq_true (okR (y1,y2))with aos|aos;refine go ?_;refine clb en75 (hc:=r3Mul_ok x1 y2 _ asuRef5 asuRef5) (hk:=?_);rintro _ _ aot rfl;have⟨sc,aol,r8⟩:=be2 aot.2 sc aol r8;refine go ?_;refine clb en75 (hc:=r3Mul_ok y1 x2 _ asuRef5 asuRef5) (hk:=?_);rintro _ _ aou rfl;have⟨sc,aol,r8⟩:=be2 aou.2 sc aol r8;refine go ?_;refine clb en75 (hc:=r3Mul_ok x2 y2 _ asuRef5 asuRef5) (hk:=?_);rintro _ _ aov rfl;have r8:=xt r8 aov.2;refine go ?_;by_cases aom:(rE (mulI x1 y2))=0;by_cases aop:(rE (mulI y1 x2))=0;refine go ?_;exact f_ret4 (t:=4) (u:=5) (s:=6) (q:=7) (v1:=S (rS (mulI x1 y2))) (v2:=S (rS (mulI y1 x2))) (v3:=S (rS (mulI x2 y2))) (v4:=.bool (decide ((rE (mulI x2 y2))=0))) rfl r8 (by simp[crS,crB, *]) rfl rfl rfl rfl
 refine go ?_;exact f_ret4 (t:=4) (u:=5) (s:=6) (q:=7) (v1:=S (rS (mulI x1 y2))) (v2:=S (rS (mulI y1 x2))) (v3:=S (rS (mulI x2 y2))) (v4:=.bool false) rfl r8 (by simp[crS,crB, *]) rfl rfl rfl rfl;refine go ?_;exact f_ret4 (t:=4) (u:=5) (s:=6) (q:=7) (v1:=S (rS (mulI x1 y2))) (v2:=S (rS (mulI y1 x2))) (v3:=S (rS (mulI x2 y2))) (v4:=.bool false) rfl r8 (by simp[crS,crB, *]) rfl rfl rfl rfl;refine go ?_;exact f_ret4 (t:=4) (u:=5) (s:=6) (q:=7) (v1:=S ([])) (v2:=S ([])) (v3:=S ([])) (v4:=.bool false) rfl r8 (by simp[crS,crB, *]) rfl rfl rfl rfl;refine go ?_;exact f_ret4 (t:=4) (u:=5) (s:=6) (q:=7) (v1:=S ([])) (v2:=S ([])) (v3:=S ([])) (v4:=.bool false) rfl r8 (by simp[crS,crB, *]) rfl rfl rfl rfl
theorem r4Add_ok (x1 x2 y1 y2:List UInt8)(w:World)(s1:x1.length<=1000000)(s2:x2.length<=1000000)(s3:y1.length<=1000000)(s4:y2.length<=1000000):
    CL 22 #[.agg #[S x1,S x2],.agg #[S y1,S y2]] w (Ret w λv w'=>v=resR (addR (x1,x2) (y1,y2))):=by
 refine f_in Tryz.func22 rfl ?_;refine go ?_;refine bx (λ_ aoz sc=>?_);have r8:=aoz.2;refine bx (λaon aox aol=>?_);have⟨sc,r8⟩:=be1 aox.2 sc r8;refine al inf36 (λ_ aow aom=>?_);have⟨sc,aol,r8⟩:=be2 aow.2 sc aol r8;refine go ?_;refine clb en80 (hc:=r4cross_ok x1 x2 y1 y2 _ asuRef5 asuRef5 asuRef5 asuRef5) (hk:=?_);rintro _ _ aop rfl;have⟨sc,aol,aom,r8⟩:=be3 aop.2 sc aol aom r8;refine go ?_;rcases Bool.eq_false_or_eq_true (crB (okR (x1,x2)&&okR (y1,y2)) (mulI x1 y2) (mulI y1 x2) (mulI x2 y2))with aoo|aoo;refine go ?_;refine cl en94 (r3Add_ok (crS (okR (x1,x2)&&okR (y1,y2)) (mulI x1 y2)) (crS (okR (x1,x2)&&okR (y1,y2)) (mulI y1 x2)) _ (len_crS _ _ _) (len_crS _ _ _)) ?_;rintro _ _ aoq rfl;have⟨sc,aol,aom,r8⟩:=be3 aoq.2 sc aol aom r8;refine go ?_;by_cases aor:(rE (addI (crS (okR (x1,x2)&&okR (y1,y2)) (mulI x1 y2)) (crS (okR (x1,x2)&&okR (y1,y2)) (mulI y1 x2))))=0;refine go ?_;refine cl en72 (r4Make_ok (rS (addI (crS (okR (x1,x2)&&okR (y1,y2)) (mulI x1 y2)) (crS (okR (x1,x2)&&okR (y1,y2)) (mulI y1 x2)))) (crS (okR (x1,x2)&&okR (y1,y2)) (mulI x2 y2)) _ (len_addI _ _) (len_crS _ _ _)) ?_;rintro _ _ aos rfl;have sc:=be aos.2 sc;have aol:=be aos.2 aol
 have⟨aom,r8⟩:=be1 aos.2 aom r8;refine go ?_;refine SA aom (λ_ aot ao0=>?_);have⟨sc,aol,r8,_⟩:=pl2 aot sc aol r8;refine go ?_;refine f_out (v:=.tuple #[.agg #[S (rN (mk4 (rS (addI (crS (okR (x1,x2)&&okR (y1,y2)) (mulI x1 y2)) (crS (okR (x1,x2)&&okR (y1,y2)) (mulI y1 x2)))) (crS (okR (x1,x2)&&okR (y1,y2)) (mulI x2 y2)))),S (rD (mk4 (rS (addI (crS (okR (x1,x2)&&okR (y1,y2)) (mulI x1 y2)) (crS (okR (x1,x2)&&okR (y1,y2)) (mulI y1 x2)))) (crS (okR (x1,x2)&&okR (y1,y2)) (mulI x2 y2))))],.int .i64 (rER (mk4 (rS (addI (crS (okR (x1,x2)&&okR (y1,y2)) (mulI x1 y2)) (crS (okR (x1,x2)&&okR (y1,y2)) (mulI y1 x2)))) (crS (okR (x1,x2)&&okR (y1,y2)) (mulI x2 y2))))]) (res2 (r1:=.cell 4 25) (r2:=.tmp 5) rfl ?_ ?_) r8 (congrArg resR (f_ok (four_add x1 x2 y1 y2) aoo aor));refine res_cellA (t:=4) (cs:=[S (rN (mk4 (rS (addI (crS (okR (x1,x2)&&okR (y1,y2)) (mulI x1 y2)) (crS (okR (x1,x2)&&okR (y1,y2)) (mulI y1 x2)))) (crS (okR (x1,x2)&&okR (y1,y2)) (mulI x2 y2)))),S (rD (mk4 (rS (addI (crS (okR (x1,x2)&&okR (y1,y2)) (mulI x1 y2)) (crS (okR (x1,x2)&&okR (y1,y2)) (mulI y1 x2)))) (crS (okR (x1,x2)&&okR (y1,y2)) (mulI x2 y2))))]) (b:=aon.heap.size) (o:=0) U36 rfl sz36 ?_ ?_;exact rfl;exact Blk.cells ao0 (i:=0) rfl;exact res_tmp (t:=5) (by exact rfl) _;refine go ?_;refine SA aom (λ_ aou ao1=>?_);have⟨sc,aol,r8,_⟩:=pl2 aou sc aol r8;refine go ?_
 refine f_out (v:=.tuple #[.agg #[S ([]),S ([])],.int .i64 40]) (res2 (r1:=.cell 4 25) (r2:=.tmp 5) rfl ?_ ?_) r8 (by rw[resR_none];exact congrArg resR (f_e (four_add x1 x2 y1 y2) aoo aor));refine res_cellA (t:=4) (cs:=[S ([]),S ([])]) (b:=aon.heap.size) (o:=0) U36 rfl sz36 ?_ ?_;exact rfl;exact Blk.cells ao1 (i:=0) rfl;exact res_tmp (t:=5) (by exact rfl) _;refine go ?_;refine SA aom (λ_ aov ao2=>?_);have⟨sc,aol,r8,_⟩:=pl2 aov sc aol r8;refine go ?_;refine f_out (v:=.tuple #[.agg #[S ([]),S ([])],.int .i64 40]) (res2 (r1:=.cell 4 25) (r2:=.tmp 5) rfl ?_ ?_) r8 (by rw[resR_none];exact congrArg resR (f_no (four_add x1 x2 y1 y2) aoo));refine res_cellA (t:=4) (cs:=[S ([]),S ([])]) (b:=aon.heap.size) (o:=0) U36 rfl sz36 ?_ ?_;exact rfl;exact Blk.cells ao2 (i:=0) rfl;exact res_tmp (t:=5) (by exact rfl) _
theorem sgn_ex (n:Int):∃ng x,n=sgn ng x∧(ng=true->0<x)∧x=n.natAbs:=by
  by_cases h:n<0
  · exact⟨true,n.natAbs,by simp[sgn];omega,λ_=>by omega,rfl⟩
  · exact⟨false,n.natAbs,by simp[sgn];omega,by simp,rfl⟩
theorem fi_fin {ng:Bool}{x:Nat}(h:ng=true->0<x):txtR (decide (sgn ng x<0)) x=showI (sgn ng x):=by
  rw[<-txtR_show]
  congr 1
  cases ng with
  | false=>
    have:decide (sgn false x<0)=false:=decide_eq_false (by show¬(x:Int)<0;omega)
    rw[this]
  | true=>
    have:=h rfl
    have:decide (sgn true x<0)=true:=decide_eq_true (by show -(x:Int)<0;omega)
    rw[this]
theorem sgn_zero {ng:Bool}{x:Nat}:sgn ng x=0↔x=0:=by cases ng <;>simp[sgn] <;>omega
theorem sgn_bd {ng:Bool}{x:Nat}:-(x:Int)<=sgn ng x∧sgn ng x<=(x:Int):=by cases ng <;>simp[sgn] <;>omega
theorem sgn_d1 {ng:Bool}{d:Nat}(h:ng=true∧0<d):sgn ng d<0∧-sgn ng d=(d:Int):=by rw[h.1];simp[sgn];omega
theorem sgn_d2 {ng:Bool}{d:Nat}(h:¬(ng=true∧0<d)):sgn ng d=(d:Int):=by cases ng <;>simp_all [sgn]
theorem toB_step {x:Nat}(h:¬x=0):toB 10 x=x%10::toB 10 (x/10):=toB_pos 10 x om om
def pickI (c n:Int):Int:=(if c<0 then -(c+1)else c)%n
theorem pick_bd (c n:Int)(h:0<n):0<=pickI c n∧pickI c n<n:=⟨Int.emod_nonneg _ om,Int.emod_lt_of_pos _ h⟩
theorem pick_neg {c n:Int}(h:c<0):-(c+1)%n=pickI c n:=by unfold pickI;rw[if_pos h]
theorem pick_pos {c n:Int}(h:¬c<0):c%n=pickI c n:=by unfold pickI;rw[if_neg h]
theorem len_small {n:Int}(h:-100000000<=n∧n<=100000000):(showI n).length<=1000000:=by
  have:fits n=true:=by
    unfold fits;rw[decide_eq_true_eq]
    have h7:(10:Nat)^9<=10^200:=Nat.pow_le_pow_right om om
    omega
  have:=len_showI this;omega
theorem fromInt_ok0 {ng:Bool}{x0:Nat}{w:World}(hng:ng=true->0<x0)(hx0:x0<=100000000):
    CL 52 #[.int .i64 (sgn ng x0)] w (Ret w λv w'=>v=S (showI (sgn ng x0))):=by
 have hl7:(toB 10 x0).length<=9:=(length_toB_le_iff 10 om x0 9).2 om;refine f_in Tryz.func52 rfl ?_;refine go ?_;have own0:World.ownsRow w w.heap.size 3 1 (.slice none 0 0) 0 (ints []):=own_nil;have aot:=Ext.refl w;refine c_lp [(3,5),(9,22)] (λkk e W=>∃x:Nat,∃ds:List Nat,∃vv:Value,(x=kk)∧(e 4=.int .i64 (sgn ng x))∧(e 3=vv)∧(toB 10 x0=ds++toB 10 x)∧(x<=100000000)∧(Ext w W)∧(W.ownsRow w.heap.size 3 1 vv ds.length (ints ds))) ((x0)) ⟨x0,[],.slice none 0 0,rfl,rfl,rfl,rfl,hx0,aot,own0⟩ ?_;rintro _ _ _ ⟨x,ds,vv,rfl,sc,aol,q1,q2,r8,ho⟩;have ao1:=bz r8;by_cases hx:x=0;rw[hx,toB_zero,List.append_nil]at q1;obtain⟨_,_,rfl,hdg⟩:=dg_own ho q1.symm;have uhdg:=hdg.row.hi;have hln:ds.length<=9:=by rw[<-q1];exact hl7
 have zq1q:=show sgn ng x=0 from sgn_zero.2 hx;refine go ?_;refine clb en97 (hc:=r3text_ok hdg om (decide ((sgn ng x0)<0))) (hk:=?_);rintro _ _ aoo rfl;have r8:=xt r8 aoo.2;refine go ?_;exact f_ret1 (t:=2) (v:=S (txtR (decide ((sgn ng x0)<0)) x0)) rfl r8 (by rw[fi_fin hng]) rfl;by_cases hd:ng=true∧0<x%10;rw[toB_step hx]at q1;have hlq:=congrArg List.length q1;rw[List.length_append,List.length_cons]at hlq;have zq2q:=show¬sgn ng x=0 from λh=>hx (sgn_zero.1 h);refine go ?_;refine l_op (k_remT (a:=sgn ng x) (b:=10) (c:=sgn ng (x%10)) rfl rfl dc (by rw[tmod_sgn]) ?_);have zq3q:=(sgn_d1 hd).1;refine go ?_;refine l_op (k_neg (a:=sgn ng (x%10)) rfl (by have:=@sgn_bd ng (x%10);unfold In64;omega) ?_);rw[(sgn_d1 hd).2];refine go ?_;refine l_op (k_move (v:=vv) aol ?_);refine go ?_;refine BS (λ_ aom _ aou=>?_);have ao6:=own_ne_new ho;have ho:=own_ext aom ho;have r8:=xt r8 aom;have ao7:=bz aom;refine AP ho (Rw.of_own aou) (λaop _ aov aoq _=>?_);have r8:=low_app ho om om r8 aoq;have apa:=aoq.size;refine l_op (k_assign (v:=aop) rfl ?_);refine go ?_;refine l_op (k_quoT (a:=sgn ng x) (b:=10) (c:=sgn ng (x/10)) rfl rfl dc (tdiv_sgn _ _) (by have:=@sgn_bd ng (x/10);unfold In64;omega) ?_);refine go ?_;exact lend ⟨x/10,ds++[x%10],aop,rfl,rfl,rfl,(by rw[List.append_assoc];exact q1),om,r8,(own_cast aov (by simp) (by rw[ints_snoc]))⟩
 rw[toB_step hx]at q1;have hlq:=congrArg List.length q1;rw[List.length_append,List.length_cons]at hlq;have zq4q:=show¬sgn ng x=0 from λh=>hx (sgn_zero.1 h);refine go ?_;refine l_op (k_remT (a:=sgn ng x) (b:=10) (c:=((x%10:Nat):Int)) rfl rfl dc (by rw[tmod_sgn];exact sgn_d2 hd) ?_);refine go ?_;refine l_op (k_move (v:=vv) aol ?_);refine go ?_;refine BS (λ_ aon _ aow=>?_);have apd:=own_ne_new ho;have ho:=own_ext aon ho;have r8:=xt r8 aon;have ape:=bz aon;refine AP ho (Rw.of_own aow) (λaor _ aox aos _=>?_);have r8:=low_app ho om om r8 aos;have aph:=aos.size;refine l_op (k_assign (v:=aor) rfl ?_);refine go ?_;refine l_op (k_quoT (a:=sgn ng x) (b:=10) (c:=sgn ng (x/10)) rfl rfl dc (tdiv_sgn _ _) (by have:=@sgn_bd ng (x/10);unfold In64;omega) ?_);refine go ?_;exact lend ⟨x/10,ds++[x%10],aor,rfl,rfl,rfl,(by rw[List.append_assoc];exact q1),om,r8,(own_cast aox (by simp) (by rw[ints_snoc]))⟩
theorem fromInt_ok (n:Int)(w:World)(h:-100000000<=n∧n<=100000000):CL 52 #[.int .i64 n] w (Ret w λv _=>v=S (showI n)):=by
  obtain⟨ng,x,rfl,h1,h2⟩:=sgn_ex n
  exact fromInt_ok0 h1 (by have:=natAbs_sgn ng x;omega)
theorem pick16_ok (c m:Int)(w:World)(hc:In64 c)(hm:0<m):
    CL 20 #[.int .i64 c,.int .i64 m] w (Ret w λv w'=>v=.int .i64 (pickI c m)):=by
 unfold In64 at hc;refine f_in Tryz.func20 rfl ?_;refine go ?_;by_cases r8:c<0;refine go ?_;refine adi ?_;refine l_op (k_neg (a:=c+1) rfl (by unfold In64;omega) ?_);refine go ?_;refine l_op (k_rem (a:=-(c+1)) (b:=m) (c:=pickI c m) rfl rfl om om (pick_neg r8) ?_);refine go ?_;exact f_ret1 (t:=4) (v:=.int .i64 (pickI c m)) rfl (Ext.refl _) rfl rfl;refine go ?_;refine l_op (k_rem (a:=c) (b:=m) (c:=pickI c m) rfl rfl om om (pick_pos r8) ?_);refine go ?_;exact f_ret1 (t:=4) (v:=.int .i64 (pickI c m)) rfl (Ext.refl _) rfl rfl
theorem pickL16_ok (c m:Int)(w:World)(hc:In64 c)(hm:0<m):
    CL 6 #[.int .i64 c,.int .i64 m] w (Ret w λv w'=>v=.int .i64 (pickI c m)):=by
 unfold In64 at hc;refine f_in Tryz.func6 rfl ?_;refine go ?_;by_cases r8:c<0;refine go ?_;refine adi ?_;refine l_op (k_neg (a:=c+1) rfl (by unfold In64;omega) ?_);refine go ?_;refine l_op (k_rem (a:=-(c+1)) (b:=m) (c:=pickI c m) rfl rfl om om (pick_neg r8) ?_);refine go ?_;exact f_ret1 (t:=4) (v:=.int .i64 (pickI c m)) rfl (Ext.refl _) rfl rfl;refine go ?_;refine l_op (k_rem (a:=c) (b:=m) (c:=pickI c m) rfl rfl om om (pick_pos r8) ?_);refine go ?_;exact f_ret1 (t:=4) (v:=.int .i64 (pickI c m)) rfl (Ext.refl _) rfl rfl
theorem of_ok (n m:Int)(w:World)(hn:-100000000<=n∧n<=100000000)(hm:-100000000<=m∧m<=100000000):
    CL 21 #[.int .i64 n,.int .i64 m] w (Ret w λv w'=>v=resR (mk4 (showI n) (showI m))):=by
 refine f_in Tryz.func21 rfl ?_;refine go ?_;refine al inf36 (λ_ aop sc=>?_);have r8:=aop.2;refine go ?_;refine clb en73 (hc:=fromInt_ok n _ om) (hk:=?_);rintro _ _ aol rfl;have⟨sc,r8⟩:=be1 aol.2 sc r8;refine go ?_;refine clb en73 (hc:=fromInt_ok m _ om) (hk:=?_);rintro _ _ aom rfl;have⟨sc,r8⟩:=be1 aom.2 sc r8;refine clb en72 (hc:=r4Make_ok (showI n) (showI m) _ (len_small om) (len_small om)) (hk:=?_);rintro _ _ aon rfl;have⟨sc,r8⟩:=be1 aon.2 sc r8;refine go ?_;refine SA sc (λ_ aoo aoq=>?_);have r8:=plw aoo r8;have aoz:=psz aoo;refine go ?_;refine f_out (v:=.tuple #[.agg #[S (rN (mk4 (showI n) (showI m))),S (rD (mk4 (showI n) (showI m)))],.int .i64 (rER (mk4 (showI n) (showI m)))]) (res2 (r1:=.cell 4 25) (r2:=.tmp 5) rfl ?_ ?_) r8 rfl;refine res_cellA (t:=4) (cs:=[S (rN (mk4 (showI n) (showI m))),S (rD (mk4 (showI n) (showI m)))]) (b:=w.heap.size) (o:=0) U36 rfl sz36 ?_ ?_;exact rfl;exact Blk.cells aoq (i:=0) rfl;exact res_tmp (t:=5) (by exact rfl) _
theorem fits_small {n:Int}(h:-100000000<=n∧n<=100000000):fits n=true:=(Q9.fz (a:=n) (b:=1) ⟨Nat.lt_of_le_of_lt (show n.natAbs<=100000000 by omega) dc,by decide,by decide⟩).1.fits
theorem mk4_q {n m:Int}(hn:-100000000<=n∧n<=100000000)(hm:0<m∧m<=100000000):mk4 (showI n) (showI m)=some (qR n m):=by
  unfold mk4
  rw[isInt_showI (fits_small hn),isInt_showI (fits_small (n:=m) om),valZ_showI,valZ_showI]
  rw[show(true&&true)=true from rfl,if_pos rfl]
  unfold makeR qR
  rw[if_neg (show¬m=0 by omega)]
theorem of_q {n m:Int}{w:World}(hn:-100000000<=n∧n<=100000000)(hm:0<m∧m<=100000000):CL 21 #[.int .i64 n,.int .i64 m] w (Ret w λv _=>v=.tuple #[QV n m,.int .i64 0]):=by
  have h:=of_ok n m w hn om
  rw[mk4_q hn hm]at h
  exact h
theorem l16of_ok {n m:Int}{w:World}(hn:-100000000<=n∧n<=100000000)(hm:0<m∧m<=100000000):
    CL 7 #[.int .i64 n,.int .i64 m] w (Ret w λv w'=>v=QV n m):=by
 refine f_in Tryz.func7 rfl ?_;refine go ?_;refine al inf36 (λ_ aor sc=>?_);have r8:=aor.2;refine go ?_;refine cl en32 (of_q hn hm) ?_;rintro _ _ aop rfl;have⟨sc,r8⟩:=be1 aop.2 sc r8;refine go ?_;refine al inf36 (λ_ aoq aos=>?_);have⟨sc,r8⟩:=be1 aoq.2 sc r8;refine SA aos (λ_ aol aom=>?_);have⟨sc,r8,_⟩:=pl1 aol sc r8;refine go ?_;refine SA sc (λ_ aon aot=>?_);have⟨aom,r8,_⟩:=pl1 aon aom r8;refine go ?_;refine f_out (v:=QV n m) (res1  rfl ?_) r8 rfl;refine res_cellA (t:=4) (cs:=[S (qR n m).1,S (qR n m).2]) (b:=w.heap.size) (o:=0) U36 rfl sz36 ?_ ?_;exact rfl;exact Blk.cells aot (i:=0) rfl
theorem l16rule_ok {kd ga gb ra rb:Int}{w:World}:
    CL 16 #[.int .i64 kd,QV ga gb,QV ra rb] w (Ret w λv w'=>v=.agg #[.int .i64 kd,S ((qR (-2) 1).1),S ((qR (-2) 1).2),S (qR 2 1).1,S (qR 2 1).2,S (qR ga gb).1,S (qR ga gb).2,S (qR ra rb).1,S (qR ra rb).2]):=by
 refine f_in Tryz.func16 rfl ?_;refine go ?_;refine bx (λ_ ao8 sc=>?_);have r8:=ao8.2;refine bx (λaor aov aoo=>?_);have⟨sc,r8⟩:=be1 aov.2 sc r8;refine al inf2027 (λaow aos ao9=>?_);have⟨sc,aoo,r8⟩:=be2 aos.2 sc aoo r8;refine go ?_;refine c_dv hmix 5 [7,8,9,10,11] [some (7,.int .i64 kd),some (8,QV (-2) 1),some (9,QV 2 1),some (10,QV ga gb),some (11,QV ra rb)] (XE aow) (Ext.drew aow) (by kernel_rfl) (by kernel_rfl) (by kernel_rfl) ?_ ?_;refine⟨λapn _ _ apa _ apb _ _ _=>?_,?_⟩;obtain⟨apn,rfl⟩:=ovE apa;refine go ?_;exact dvE rfl apb (Ext.refl _);refine⟨λapv _ _ apy _ aox _ _ _=>?_,?_⟩;obtain⟨apv,rfl⟩:=ovE apy;refine clb en6007 (hc:=l16of_ok om om) (hk:=?_);rintro _ _ aoz rfl;refine go ?_;exact dvE rfl aox aoz.2;refine⟨λap5 _ _ ap8 _ ao0 _ _ _=>?_,?_⟩;obtain⟨ap5,rfl⟩:=ovE ap8;refine clb en6007 (hc:=l16of_ok om om) (hk:=?_);rintro _ _ ao2 rfl;refine go ?_;exact dvE rfl ao0 ao2.2;refine⟨λaqf _ _ apc _ ao3 _ _ _=>?_,?_⟩;obtain⟨aqf,rfl⟩:=ovE apc;have apd:=(be ao3 sc);refine go ?_;exact dvE rfl ao3 (Ext.refl _);refine⟨λaqm _ _ ape _ ao4 _ _ _=>?_,?_⟩;obtain⟨aqm,rfl⟩:=ovE ape;have apf:=(be ao4 aoo);refine go ?_;exact dvE rfl ao4 (Ext.refl _);exact trivial;intro aol _ _ _ apg aom aon;obtain⟨aol,rfl⟩:=ovE apg;have aot:=(be aon sc);have aqw:=bt aot;have aou:=(be aon aoo);have aqx:=bt aou
 have ao5:=(be aon ao9);have aqy:=bt ao5;have aop:=xt r8 aon;have aqz:=bz aop;have aq0:=bz aon;have aph:=zpv (aom 0 _ _ rfl rfl);have api:=zpv (aom 1 _ _ rfl rfl);have apj:=zpv (aom 2 _ _ rfl rfl);have apk:=zpv (aom 3 _ _ rfl rfl);have apl:=zpv (aom 4 _ _ rfl rfl);refine l_op (k_build (vs:=[(0,.int .i64 kd),(1,QV (-2) 1),(2,QV 2 1),(3,QV ga gb),(4,QV ra rb)]) (cells:=#[.int .i64 kd,S ((qR (-2) 1).1),S ((qR (-2) 1).2),S (qR 2 1).1,S (qR 2 1).2,S (qR ga gb).1,S (qR ga gb).2,S (qR ra rb).1,S (qR ra rb).2]) (pl:=[(0,1),(1,2),(3,2),(5,2),(7,2)]) U2027 inf2027 (by kernel_rfl) (cons_eqp aph (cons_eqp api (cons_eqp apj (cons_eqp apk (cons_eqp apl rfl))))) (by kernel_rfl) ?_);refine l_op (k_storeA (b:=aor.heap.size) (o:=0) (vs:=[.int .i64 kd,S ((qR (-2) 1).1),S ((qR (-2) 1).2),S (qR 2 1).1,S (qR 2 1).2,S (qR ga gb).1,S (qR ga gb).2,S (qR ra rb).1,S (qR ra rb).2]) sz2027 rfl rfl (by simp[Value.oneCell',S]) ao5 (Nat.le_of_ble_eq_true rfl) (λ_ aoq apm=>?_));have⟨aot,aou,aop,_⟩:=pl2 aoq aot aou aop;refine go ?_;refine f_out (v:=.agg #[.int .i64 kd,S ((qR (-2) 1).1),S ((qR (-2) 1).2),S (qR 2 1).1,S (qR 2 1).2,S (qR ga gb).1,S (qR ga gb).2,S (qR ra rb).1,S (qR ra rb).2]) (res1  rfl ?_) aop rfl
 refine res_cellA (t:=6) (cs:=[.int .i64 kd,S ((qR (-2) 1).1),S ((qR (-2) 1).2),S (qR 2 1).1,S (qR 2 1).2,S (qR ga gb).1,S (qR ga gb).2,S (qR ra rb).1,S (qR ra rb).2]) (b:=aor.heap.size) (o:=0) U2027 rfl sz2027 ?_ ?_;exact rfl;exact Blk.cells apm (i:=0) rfl
set_option maxRecDepth 100000 in
theorem l16verdict_ok {kd la lb ha hb ga gb ra rb va vb sa sb ka kb ua ub vd:Int}{pl:Nat}{w:World}(hD:∀W,Tb W->CL 17 #[.agg #[.int .i64 (kd),S ((qR la lb).1),S ((qR la lb).2),S ((qR ha hb).1),S ((qR ha hb).2),S ((qR ga gb).1),S ((qR ga gb).2),S ((qR ra rb).1),S ((qR ra rb).2)],QV va vb,QV sa sb,.int .i64 pl] W (Ret W λv _=>v=.tuple #[.int .i64 vd,IV ka kb ua ub,.int .i64 0]))(ht:Tb w):
    CL 14 #[.agg #[.int .i64 kd,S (qR la lb).1,S (qR la lb).2,S (qR ha hb).1,S (qR ha hb).2,S (qR ga gb).1,S (qR ga gb).2,S (qR ra rb).1,S (qR ra rb).2,S (qR va vb).1,S (qR va vb).2,S (qR sa sb).1,S (qR sa sb).2],.int .i64 pl] w (Ret w λv w'=>v=.int .i64 vd):=by
 refine f_in Tryz.func14 rfl ?_;refine go ?_;refine bx (λ_ aoo r8=>?_);have sc:=aoo.2;refine go ?_;refine l_op (k_fieldAddr (b:=w.heap.size) (o:=0) (off:=0) (oo:=0) U2029 rfl rfl sz2027 rfl rfl ?_);refine l_op (k_loadA (cs:=[.int .i64 kd,S (qR la lb).1,S (qR la lb).2,S (qR ha hb).1,S (qR ha hb).2,S (qR ga gb).1,S (qR ga gb).2,S (qR ra rb).1,S (qR ra rb).2]) (b:=w.heap.size) (o:=0) U2027 rfl sz2027 rfl (Blk.cells r8 (i:=0) rfl) ?_);refine l_op (k_fieldAddr (b:=w.heap.size) (o:=0) (off:=9) (oo:=9) U2029 rfl rfl sz36 rfl rfl ?_);refine go ?_;refine l_op (k_fieldAddr (b:=w.heap.size) (o:=0) (off:=11) (oo:=11) U2029 rfl rfl sz36 rfl rfl ?_);refine go ?_;refine cl en2018 ((hD _ (ht.ext sc))) ?_;rintro _ _ aom rfl;have⟨r8,sc⟩:=be1 aom.2 r8 sc;refine go ?_;refine al inf1032 (λ_ aon aoq=>?_);have⟨r8,sc⟩:=be1 aon.2 r8 sc;refine go ?_;refine SA aoq (λ_ aol _=>?_);have⟨r8,sc,_⟩:=pl1 aol r8 sc;refine go ?_;exact f_ret1 (t:=4) (v:=.int .i64 vd) rfl sc rfl rfl
theorem krDl3 {p:Prop}(h:p:=by kernel_rfl):p:=h
theorem erDl3 {w:World}:Ext w w:=Ext.refl _
theorem q_len {a b:Int}(h:Q9 a b):(qR a b).1.length<=1000000∧(qR a b).2.length<=1000000:=by
  have h1:=len_showI (h.red.fz.1.fits)
  have h2:=len_showI (h.red.fz.2.fits)
  unfold qR
  exact⟨by dsimp only;omega,by dsimp only;omega⟩
theorem add_q4 {a b c d e f:Int}{w:World}(h1:Q9 a b)(h2:Q9 c d)(he:qR (a*d+c*b) (b*d)=qR e f):CL 22 #[.agg #[S (qR a b).1,S (qR a b).2],.agg #[S (qR c d).1,S (qR c d).2]] w (Ret w λv _=>v=.tuple #[.agg #[S (qR e f).1,S (qR e f).2],.int .i64 0]):=by
  have h:=r4Add_ok (qR a b).1 (qR a b).2 (qR c d).1 (qR c d).2 w (q_len h1).1 (q_len h1).2 (q_len h2).1 (q_len h2).2
  rw[show addR ((qR a b).1,(qR a b).2) ((qR c d).1,(qR c d).2)=some (qR (a*d+c*b) (b*d))from addR_q h1 h2,he]at h
  exact h
theorem mul_q4 {a b c d e f:Int}{w:World}(h1:Q9 a b)(h2:Q9 c d)(he:mulR (qR a b) (qR c d)=some (qR e f)):CL 23 #[.agg #[S (qR a b).1,S (qR a b).2],.agg #[S (qR c d).1,S (qR c d).2]] w (Ret w λv _=>v=.tuple #[.agg #[S (qR e f).1,S (qR e f).2],.int .i64 0]):=by
  have h:=r4Mul_ok (qR a b).1 (qR a b).2 (qR c d).1 (qR c d).2 w (q_len h1).1 (q_len h1).2 (q_len h2).1 (q_len h2).2
  rw[show mulR ((qR a b).1,(qR a b).2) ((qR c d).1,(qR c d).2)=some (qR e f)from he]at h
  exact h
theorem cEqZ {f:FuncId}{a:Array Value}{w:World}{x y:Int}(h:CL f a w (Ret w λv _=>v=.int .i64 x))(e:x=y):CL f a w (Ret w λv _=>v=.int .i64 y):=e▸h
theorem of_qE {n m a b:Int}{w:World}(hn:-100000000<=n∧n<=100000000)(hm:0<m∧m<=100000000)(e:qR n m=qR a b):CL 21 #[.int .i64 n,.int .i64 m] w (Ret w λv _=>v=.tuple #[.agg #[S (qR a b).1,S (qR a b).2],.int .i64 0]):=e▸of_q hn hm
theorem inf2029:Inf Tryz.prog 29 (.agg #[.int .i64 0,S [],S [],S [],S [],S [],S [],S [],S [],S [],S [],S [],S []]) 13 200:=by unfold Inf;kernel_rfl
set_option maxRecDepth 100000 in
theorem make16_ok {x0 x1 x2 x3 x4 x5 x6 p0 p1 p2 p3 p4 p5 p6 p7 q2 q4 ha hb ma mb va vb gn gd:Int}{w:World}(hx0:In64 x0)(hx1:In64 x1)(hx2:In64 x2)(hx3:In64 x3)(hx4:In64 x4)(hx5:In64 x5)(hx6:In64 x6)(ep0:pickI x0 3=p0)(ep1:pickI x1 41=p1)(ep2:pickI x2 40=p2)(ep3:pickI x3 (1+q2)=p3)(ep4:pickI x4 101=p4)(ep5:pickI q4 3=p5)(ep6:pickI x5 30=p6)(ep7:pickI x6 61=p7)(eq2:(1+p2).tdiv 2=q2)(eq4:x4.tdiv 101=q4)(hq4:In64 q4)(b0:0<=p0∧p0<3)(b1:0<=p1∧p1<41)(b2:0<=p2∧p2<40)(b3:0<=p3∧p3<30)(b4:0<=p4∧p4<101)(b5:0<=p5∧p5<3)(b6:0<=p6∧p6<30)(b7:0<=p7∧p7<61)(c2:0<=q2∧q2<=20)(ql:Q9 (p1-20) 10)(qw:Q9 (1+p2) 10)(qd:Q9 (p7-10) 40)(qm:Q9 ma mb)(hH:qR ((p1-20)*10+(1+p2)*10) (10*10)=qR ha hb)(hM:mulR (qR (1+p2) 10) (qR (p7-10) 40)=some (qR ma mb))(hR:qR ((p1-20)*mb+ma*10) (10*mb)=qR va vb)(hS:p0=0->qR 0 1=qR gn gd)(hG:p0≠0->qR p3 10=qR gn gd):
    CL 5 #[.agg #[.int .i64 x0,.int .i64 x1,.int .i64 x2,.int .i64 x3,.int .i64 x4,.int .i64 x5,.int .i64 x6]] w (Ret w λv w'=>v=.agg #[.int .i64 (1+p0),S ((qR (p1-20) 10).1),S ((qR (p1-20) 10).2),S (qR ha hb).1,S (qR ha hb).2,S (qR gn gd).1,S (qR gn gd).2,S ((qR p4 (100+400*p5)).1),S ((qR p4 (100+400*p5)).2),S (qR va vb).1,S (qR va vb).2,S ((qR (1+p6) 20).1),S ((qR (1+p6) 20).2)]):=by
 refine f_in Tryz.func5 rfl ?_;refine go ?_;refine bx (λapl ari sc=>?_);have aol:=ari.2;refine al inf2029 (λr8 aqa aom=>?_);have⟨sc,aol⟩:=be1 aqa.2 sc aol;refine go ?_;refine l_op (k_build (vs:=[]) (cells:=#[.int .i64 0,S ([]),S ([]),S ([]),S ([]),S ([]),S ([]),S ([]),S ([]),S ([]),S ([]),S ([]),S ([])]) (pl:=[(0,9),(9,2),(11,2)]) U2029 inf2029 krDl3 rfl krDl3 ?_);refine al inf2029 (λ_ apz arj=>?_);have⟨sc,aom,aol⟩:=be2 apz.2 sc aom aol;refine l_op (k_storeA (b:=r8.heap.size) (o:=0) (vs:=[.int .i64 0,S ([]),S ([]),S ([]),S ([]),S ([]),S ([]),S ([]),S ([]),S ([]),S ([]),S ([]),S ([])]) sz2029 rfl rfl (by simp[Value.oneCell',S]) arj (Nat.le_of_ble_eq_true rfl) (λ_ apm ao7=>?_));have ao7:=Blk.cst ao7 (cs:=#[.int .i64 0,S ([]),S ([]),S ([]),S ([]),S ([]),S ([]),S ([]),S ([]),S ([]),S ([]),S ([]),S ([])]) krDl3;have⟨sc,aom,aol,_⟩:=pl2 apm sc aom aol;refine go ?_;refine l_op (k_arrAddr (m:=7) (b:=w.heap.size) (o:=0) (i:=0) (oo:=0) U2022 sz3 rfl rfl dc rfl ?_);refine go ?_;refine clb en6020 (hc:=cEqZ (pick16_ok x0 3 _ hx0 om) ep0) (hk:=?_);rintro _ _ apn rfl;have⟨sc,aom,ao7,aol⟩:=be3 apn.2 sc aom ao7 aol;refine adi ?_;refine l_op (k_fieldAddr (b:=r8.heap.size) (o:=0) (off:=0) (oo:=0) U2029 rfl rfl sz2027 rfl rfl ?_)
 refine l_op (k_fieldAddr (b:=r8.heap.size) (o:=0) (off:=0) (oo:=0) U2027 rfl rfl sz3 rfl rfl ?_);refine SO ao7 (λ_ apo ao8=>?_);have⟨sc,aom,aol,_⟩:=pl2 apo sc aom aol;refine go ?_;refine l_op (k_arrAddr (m:=7) (b:=w.heap.size) (o:=0) (i:=1) (oo:=1) U2022 sz3 rfl rfl dc rfl ?_);refine go ?_;refine clb en6020 (hc:=cEqZ (pick16_ok x1 41 _ hx1 om) ep1) (hk:=?_);rintro _ _ apq rfl;have⟨sc,aom,ao8,aol⟩:=be3 apq.2 sc aom ao8 aol;refine sui ?_;refine clb en32 (hc:=of_q om om) (hk:=?_);rintro _ _ apr rfl;have⟨sc,aom,ao8,aol⟩:=be3 apr.2 sc aom ao8 aol;refine go ?_;refine l_op (k_fieldAddr (b:=r8.heap.size) (o:=0) (off:=0) (oo:=0) U2029 rfl rfl sz2027 rfl rfl ?_);refine l_op (k_fieldAddr (b:=r8.heap.size) (o:=0) (off:=1) (oo:=1) U2027 rfl rfl sz36 rfl rfl ?_);refine SA ao8 (λ_ aps aou=>?_);have⟨sc,aom,aol,_⟩:=pl2 aps sc aom aol;refine go ?_;refine l_op (k_arrAddr (m:=7) (b:=w.heap.size) (o:=0) (i:=2) (oo:=2) U2022 sz3 rfl rfl dc rfl ?_);refine go ?_;refine clb en6020 (hc:=cEqZ (pick16_ok x2 40 _ hx2 om) ep2) (hk:=?_);rintro _ _ apt rfl;have⟨sc,aom,aou,aol⟩:=be3 apt.2 sc aom aou aol;refine adi ?_;refine clb en32 (hc:=of_q om om) (hk:=?_);rintro _ ao9 apu rfl;have⟨sc,aom,aou,aol⟩:=be3 apu.2 sc aom aou aol;refine go ?_;refine al inf36 (λ_ apv ark=>?_);have⟨sc,aom,aou,aol⟩:=be3 apv.2 sc aom aou aol;refine SA ark (λ_ apa aos=>?_);have⟨sc,aom,aou,aol,_⟩:=pl3 apa sc aom aou aol
 refine go ?_;refine l_op (k_fieldAddr (b:=r8.heap.size) (o:=0) (off:=0) (oo:=0) U2029 rfl rfl sz2027 rfl rfl ?_);refine l_op (k_fieldAddr (b:=r8.heap.size) (o:=0) (off:=1) (oo:=1) U2027 rfl rfl sz36 rfl rfl ?_);refine go ?_;refine cl en71 (add_q4 ql qw hH) ?_;rintro _ _ apb rfl;have⟨sc,aom,aou,aos,aol⟩:=be4 apb.2 sc aom aou aos aol;refine go ?_;refine l_op (k_fieldAddr (b:=r8.heap.size) (o:=0) (off:=0) (oo:=0) U2029 rfl rfl sz2027 rfl rfl ?_);refine l_op (k_fieldAddr (b:=r8.heap.size) (o:=0) (off:=3) (oo:=3) U2027 rfl rfl sz36 rfl rfl ?_);refine SA aou (λ_ apc ap0=>?_);have⟨sc,aom,aos,aol,_⟩:=pl3 apc sc aom aos aol;refine go ?_;refine clb en32 (hc:=of_q om om) (hk:=?_);rintro _ _ apd rfl;have⟨sc,aom,ap0,aos,aol⟩:=be4 apd.2 sc aom ap0 aos aol;refine go ?_;refine l_op (k_fieldAddr (b:=r8.heap.size) (o:=0) (off:=0) (oo:=0) U2029 rfl rfl sz2027 rfl rfl ?_);refine l_op (k_fieldAddr (b:=r8.heap.size) (o:=0) (off:=5) (oo:=5) U2027 rfl rfl sz36 rfl rfl ?_);refine SA ap0 (λaqb ape ap1=>?_);have⟨sc,aom,aos,aol,_⟩:=pl3 ape sc aom aos aol;refine go ?_;refine l_op (k_fieldAddr (b:=r8.heap.size) (o:=0) (off:=0) (oo:=0) U2029 rfl rfl sz2027 rfl rfl ?_);refine l_op (k_fieldAddr (b:=r8.heap.size) (o:=0) (off:=0) (oo:=0) U2027 rfl rfl sz3 rfl rfl ?_);refine l_op (k_load (v:=.int .i64 (1+p0)) (b:=r8.heap.size) (o:=0) U3 rfl rfl (Blk.cell ap1 rfl) ?_)
 refine l_op (k_neq (k:=.i64) (a:=1+p0) (b:=1) (q:=!decide ((1+p0)=1)) rfl rfl rfl ?_);refine l_nil ?_;refine n_then ?_;refine c_jn [(55,69)] (λe W=>(Ext w W)∧(aqb.heap.size<=W.heap.size)∧(Blk W (w.heap.size) 22 #[.int .i64 x0,.int .i64 x1,.int .i64 x2,.int .i64 x3,.int .i64 x4,.int .i64 x5,.int .i64 x6])∧(Blk W (apl.heap.size) 29 #[.int .i64 0,S ([]),S ([]),S ([]),S ([]),S ([]),S ([]),S ([]),S ([]),S ([]),S ([]),S ([]),S ([])])∧(Blk W (ao9.heap.size) 25 #[S ((qR (1+p2) 10).1),S ((qR (1+p2) 10).2)])∧(Blk W (r8.heap.size) 29 #[.int .i64 (1+p0),S ((qR (p1-20) 10).1),S ((qR (p1-20) 10).2),S (qR ha hb).1,S (qR ha hb).2,S (qR gn gd).1,S (qR gn gd).2,S ([]),S ([]),S ([]),S ([]),S ([]),S ([])])) ?_ ?_;by_cases aqc:(1+p0)=1;refine go ?_;exact jend ⟨aol,om,sc,aom,aos,(by rw[<-hS om];exact ap1)⟩;refine go ?_
 refine c_dv hmix 16 [55,56,57,58,59,60,61,62,63,64,65,66,67,68,69] [some (56,.pointer (some ⟨w.heap.size,3,none⟩)),some (57,.int .i64 x3),some (58,.pointer (some ⟨w.heap.size,2,none⟩)),some (59,.int .i64 x2),some (60,.int .i64 p2),some (61,.int .i64 (1+p2)),some (62,.int .i64 q2),some (63,.int .i64 (1+q2)),some (64,.int .i64 p3),some (65,.tuple #[.agg #[S (qR gn gd).1,S (qR gn gd).2],.int .i64 0]),some (55,.tuple #[.agg #[S (qR gn gd).1,S (qR gn gd).2],.int .i64 0]),some (66,.agg #[S (qR gn gd).1,S (qR gn gd).2]),some (67,.int .i64 0),some (68,pT r8.heap.size),some (69,.pointer (some ⟨r8.heap.size,5,none⟩)),none] (XW aqb (r8.heap.size) 15 29 #[.int .i64 (1+p0),S ((qR (p1-20) 10).1),S ((qR (p1-20) 10).2),S (qR ha hb).1,S (qR ha hb).2,S (qR 0 1).1,S (qR 0 1).2,S ([]),S ([]),S ([]),S ([]),S ([]),S ([])] #[.int .i64 (1+p0),S ((qR (p1-20) 10).1),S ((qR (p1-20) 10).2),S (qR ha hb).1,S (qR ha hb).2,S (qR gn gd).1,S (qR gn gd).2,S ([]),S ([]),S ([]),S ([]),S ([]),S ([])]) (XW.start ap1) krDl3 krDl3 krDl3 ?_ ?_;refine⟨λavn _ _ arl _ arm _ _ _=>?_,?_⟩;obtain⟨avn,rfl⟩:=ovE arl;refine l_op (k_arrAddr (m:=7) (b:=w.heap.size) (o:=0) (i:=3) (oo:=3) U2022 sz3 rfl rfl dc rfl ?_);refine go ?_;exact dvW rfl arm erDl3;refine⟨λarn _ _ avw aro aqd _ _ _=>?_,?_⟩
 obtain⟨arn,rfl⟩:=ovE avw;have arp:=zpv (aro 0 _ _ rfl rfl);have arq:=(Blk.gr aqd.1 (by simp;omega) sc);refine go ?_;exact dvW rfl aqd erDl3;refine⟨λav0 _ _ arr _ ars _ _ _=>?_,?_⟩;obtain⟨av0,rfl⟩:=ovE arr;refine l_op (k_arrAddr (m:=7) (b:=w.heap.size) (o:=0) (i:=2) (oo:=2) U2022 sz3 rfl rfl dc rfl ?_);refine go ?_;exact dvW rfl ars erDl3;refine⟨λart _ _ av9 aru aqe _ _ _=>?_,?_⟩;obtain⟨art,rfl⟩:=ovE av9;have arv:=zpv (aru 2 _ _ rfl rfl);have arw:=(Blk.gr aqe.1 (by simp;omega) sc);refine go ?_;exact dvW rfl aqe erDl3;refine⟨λarx _ _ awf ary aqf _ _ _=>?_,?_⟩;obtain⟨arx,rfl⟩:=ovE awf;have arz:=zpv (ary 3 _ _ rfl rfl);refine clb en6020 (hc:=cEqZ (pick16_ok x2 40 _ hx2 om) ep2) (hk:=?_) (hv:=cons_eq arz (cons_eq rfl rfl));rintro _ _ aqh rfl;refine go ?_;exact dvW rfl aqf aqh.2;refine⟨λar0 _ _ awn ar1 ar2 _ _ _=>?_,?_⟩;obtain⟨ar0,rfl⟩:=ovE awn;have ar3:=zpv (ar1 4 _ _ rfl rfl);refine adi ?_;refine go ?_;exact dvW rfl ar2 erDl3;refine⟨λar4 _ _ awt ar5 ar6 _ _ _=>?_,?_⟩;obtain⟨ar4,rfl⟩:=ovE awt;have ar7:=zpv (ar5 5 _ _ rfl rfl);refine l_op (k_quoT (a:=1+p2) (b:=2) (c:=q2) ar7 rfl dc eq2 (by unfold In64;omega) ?_);refine go ?_;exact dvW rfl ar6 erDl3;refine⟨λar8 _ _ awz ar9 asa _ _ _=>?_,?_⟩;obtain⟨ar8,rfl⟩:=ovE awz;have asb:=zpv (ar9 6 _ _ rfl rfl);refine adi ?_
 refine go ?_;exact dvW rfl asa erDl3;refine⟨λaqi _ _ aw5 aqj aqk _ _ _=>?_,?_⟩;obtain⟨aqi,rfl⟩:=ovE aw5;have asc:=zpv (aqj 1 _ _ rfl rfl);have asd:=zpv (aqj 7 _ _ rfl rfl);refine clb en6020 (hc:=cEqZ (pick16_ok x3 (1+q2) _ hx3 om) ep3) (hk:=?_) (hv:=cons_eq asc (cons_eq asd rfl));rintro _ _ aqm rfl;refine go ?_;exact dvW rfl aqk aqm.2;refine⟨λase _ _ axd asf aqn _ _ _=>?_,?_⟩;obtain⟨ase,rfl⟩:=ovE axd;have asg:=zpv (asf 8 _ _ rfl rfl);refine clb en32 (hc:=of_qE om om (hG om)) (hk:=?_) (hv:=cons_eq asg (cons_eq rfl rfl));rintro _ _ aqp rfl;refine go ?_;exact dvW rfl aqn aqp.2;refine⟨λash _ _ axl asi asj _ _ _=>?_,?_⟩;obtain⟨ash,rfl⟩:=ovE axl;have ask:=zpv (asi 9 _ _ rfl rfl);refine go ?_;exact dvW rfl asj erDl3;refine⟨λasl _ _ axr asm aso _ _ _=>?_,?_⟩;obtain⟨asl,rfl⟩:=ovE axr;have asp:=zpv (asm 10 _ _ rfl rfl);refine go ?_;exact dvW rfl aso erDl3;refine⟨λasq _ _ axx asr ass _ _ _=>?_,?_⟩;obtain⟨asq,rfl⟩:=ovE axx;have ast:=zpv (asr 10 _ _ rfl rfl);refine go ?_;exact dvW rfl ass erDl3;refine⟨λax1 _ _ asu _ asv _ _ _=>?_,?_⟩;obtain⟨ax1,rfl⟩:=ovE asu;refine l_op (k_fieldAddr (b:=r8.heap.size) (o:=0) (off:=0) (oo:=0) U2029 rfl rfl sz2027 rfl rfl ?_);refine go ?_;exact dvW rfl asv erDl3;refine⟨λasw _ _ aya asx asy _ _ _=>?_,?_⟩;obtain⟨asw,rfl⟩:=ovE aya
 have asz:=zpv (asx 13 _ _ rfl rfl);refine l_op (k_fieldAddr (b:=r8.heap.size) (o:=0) (off:=5) (oo:=5) U2027 rfl rfl sz36 rfl asz ?_);refine go ?_;exact dvW rfl asy erDl3;refine⟨λaqq _ _ ayg aqr ap2 _ as0 _=>?_,?_⟩;obtain⟨aqq,rfl⟩:=ovE ayg;have as1:=zpv (aqr 11 _ _ rfl rfl);have as2:=zpv (aqr 14 _ _ rfl rfl);have ap3:=low_gr aol ap2.1 (bz aol) (λg hgg=>by cases hgg;omega);have ayj:=bz ap3;have as3:=XW.opn ap2 as0;refine SA as3 (λ_ ap4 as4=>?_);have ayl:=psz ap4;refine go ?_;exact dvWs (.inr rfl) ap2 ap4 as4;exact trivial;intro aym _ _ as5 ayp _ ao1;obtain⟨aym,rfl⟩:=ovE ayp;have aqs:=(Blk.gr ao1.1 (by simp;omega) sc);have ayr:=bt aqs;have aqt:=(Blk.gr ao1.1 (by simp;omega) aom);have ays:=bt aqt;have aqu:=(Blk.gr ao1.1 (by simp;omega) aos);have ayt:=bt aqu;have aqv:=low_gr aol ao1.1 (bz aol) (λg hgg=>by cases hgg;omega);have ayu:=bz aqv;have ayv:=ao1.1.size;have aqw:=XW.fin ao1 (as5 15 rfl);have ayw:=bt aqw;refine go ?_;exact jend ⟨aqv,om,aqs,aqt,aqu,aqw⟩;rintro _ as6 ⟨aov,ayy,sc,aom,aos,as7⟩;have ayz:=bz aov;refine go ?_
 refine c_dv hmix 16 [70,71,72,73,74,75,76,77,78,79,80,81,82,83,84] [some (71,.pointer (some ⟨w.heap.size,4,none⟩)),some (72,.int .i64 x4),some (73,.int .i64 p4),some (74,.pointer (some ⟨w.heap.size,4,none⟩)),some (75,.int .i64 x4),some (76,.int .i64 q4),some (77,.int .i64 p5),some (78,.int .i64 (400*p5)),some (79,.int .i64 (100+(400*p5))),some (80,.tuple #[.agg #[S ((qR p4 (100+(400*p5))).1),S ((qR p4 (100+(400*p5))).2)],.int .i64 0]),some (70,.tuple #[.agg #[S ((qR p4 (100+(400*p5))).1),S ((qR p4 (100+(400*p5))).2)],.int .i64 0]),some (81,.agg #[S ((qR p4 (100+(400*p5))).1),S ((qR p4 (100+(400*p5))).2)]),some (82,.int .i64 0),some (83,pT r8.heap.size),some (84,.pointer (some ⟨r8.heap.size,7,none⟩)),none] (XW as6 (r8.heap.size) 15 29 #[.int .i64 (1+p0),S ((qR (p1-20) 10).1),S ((qR (p1-20) 10).2),S (qR ha hb).1,S (qR ha hb).2,S (qR gn gd).1,S (qR gn gd).2,S ([]),S ([]),S ([]),S ([]),S ([]),S ([])] #[.int .i64 (1+p0),S ((qR (p1-20) 10).1),S ((qR (p1-20) 10).2),S (qR ha hb).1,S (qR ha hb).2,S (qR gn gd).1,S (qR gn gd).2,S ((qR p4 (100+(400*p5))).1),S ((qR p4 (100+(400*p5))).2),S ([]),S ([]),S ([]),S ([])]) (XW.start as7) krDl3 krDl3 krDl3 ?_ ?_;refine⟨λay0 _ _ as8 _ as9 _ _ _=>?_,?_⟩;obtain⟨ay0,rfl⟩:=ovE as8
 refine l_op (k_arrAddr (m:=7) (b:=w.heap.size) (o:=0) (i:=4) (oo:=4) U2022 sz3 rfl rfl dc rfl ?_);refine go ?_;exact dvW rfl as9 erDl3;refine⟨λata _ _ ay9 atb aqx _ _ _=>?_,?_⟩;obtain⟨ata,rfl⟩:=ovE ay9;have atc:=zpv (atb 0 _ _ rfl rfl);have atd:=(Blk.gr aqx.1 (by simp;omega) sc);refine go ?_;exact dvW rfl aqx erDl3;refine⟨λate _ _ azf atf aqy _ _ _=>?_,?_⟩;obtain⟨ate,rfl⟩:=ovE azf;have atg:=zpv (atf 1 _ _ rfl rfl);refine clb en6020 (hc:=cEqZ (pick16_ok x4 101 _ hx4 om) ep4) (hk:=?_) (hv:=cons_eq atg (cons_eq rfl rfl));rintro _ _ aq0 rfl;refine go ?_;exact dvW rfl aqy aq0.2;refine⟨λazl _ _ ath _ ati _ _ _=>?_,?_⟩;obtain⟨azl,rfl⟩:=ovE ath;refine l_op (k_arrAddr (m:=7) (b:=w.heap.size) (o:=0) (i:=4) (oo:=4) U2022 sz3 rfl rfl dc rfl ?_);refine go ?_;exact dvW rfl ati erDl3;refine⟨λatj _ _ azu atk aq1 _ _ _=>?_,?_⟩;obtain⟨atj,rfl⟩:=ovE azu;have atl:=zpv (atk 3 _ _ rfl rfl);have atm:=(Blk.gr aq1.1 (by simp;omega) sc);refine go ?_;exact dvW rfl aq1 erDl3;refine⟨λatn _ _ az0 ato atp _ _ _=>?_,?_⟩;obtain⟨atn,rfl⟩:=ovE az0;have atq:=zpv (ato 4 _ _ rfl rfl);refine l_op (k_quoT (a:=x4) (b:=101) (c:=q4) atq rfl dc eq4 hq4 ?_);refine go ?_;exact dvW rfl atp erDl3;refine⟨λatr _ _ az6 att aq2 _ _ _=>?_,?_⟩;obtain⟨atr,rfl⟩:=ovE az6;have atu:=zpv (att 5 _ _ rfl rfl)
 refine clb en6020 (hc:=cEqZ (pick16_ok q4 3 _ hq4 om) ep5) (hk:=?_) (hv:=cons_eq atu (cons_eq rfl rfl));rintro _ _ aq4 rfl;refine go ?_;exact dvW rfl aq2 aq4.2;refine⟨λatv _ _ a0e atw atx _ _ _=>?_,?_⟩;obtain⟨atv,rfl⟩:=ovE a0e;have aty:=zpv (atw 6 _ _ rfl rfl);refine l_op (k_mul (a:=400) (b:=p5) (c:=400*p5) rfl aty (by unfold In64;omega) rfl ?_);refine go ?_;exact dvW rfl atx erDl3;refine⟨λatz _ _ a0k at0 at1 _ _ _=>?_,?_⟩;obtain⟨atz,rfl⟩:=ovE a0k;have at2:=zpv (at0 7 _ _ rfl rfl);refine adi ?_;refine go ?_;exact dvW rfl at1 erDl3;refine⟨λaq5 _ _ a0q aq6 aq7 _ _ _=>?_,?_⟩;obtain⟨aq5,rfl⟩:=ovE a0q;have at3:=zpv (aq6 2 _ _ rfl rfl);have at4:=zpv (aq6 8 _ _ rfl rfl);refine clb en32 (hc:=of_q om om) (hk:=?_) (hv:=cons_eq at3 (cons_eq at4 rfl));rintro _ _ aq9 rfl;refine go ?_;exact dvW rfl aq7 aq9.2;refine⟨λat6 _ _ a0y at7 at8 _ _ _=>?_,?_⟩;obtain⟨at6,rfl⟩:=ovE a0y;have at9:=zpv (at7 9 _ _ rfl rfl);refine go ?_;exact dvW rfl at8 erDl3;refine⟨λaua _ _ a04 aub auc _ _ _=>?_,?_⟩;obtain⟨aua,rfl⟩:=ovE a04;have aud:=zpv (aub 10 _ _ rfl rfl);refine go ?_;exact dvW rfl auc erDl3;refine⟨λaue _ _ a1a auf aug _ _ _=>?_,?_⟩;obtain⟨aue,rfl⟩:=ovE a1a;have auh:=zpv (auf 10 _ _ rfl rfl);refine go ?_;exact dvW rfl aug erDl3;refine⟨λa1e _ _ aui _ auj _ _ _=>?_,?_⟩
 obtain⟨a1e,rfl⟩:=ovE aui;refine l_op (k_fieldAddr (b:=r8.heap.size) (o:=0) (off:=0) (oo:=0) U2029 rfl rfl sz2027 rfl rfl ?_);refine go ?_;exact dvW rfl auj erDl3;refine⟨λauk _ _ a1n aul aum _ _ _=>?_,?_⟩;obtain⟨auk,rfl⟩:=ovE a1n;have aun:=zpv (aul 13 _ _ rfl rfl);refine l_op (k_fieldAddr (b:=r8.heap.size) (o:=0) (off:=7) (oo:=7) U2027 rfl rfl sz36 rfl aun ?_);refine go ?_;exact dvW rfl aum erDl3;refine⟨λara _ _ a1t arb ap5 _ auo _=>?_,?_⟩;obtain⟨ara,rfl⟩:=ovE a1t;have aup:=zpv (arb 11 _ _ rfl rfl);have auq:=zpv (arb 14 _ _ rfl rfl);have ap6:=low_gr aov ap5.1 (bz aov) (λg hgg=>by cases hgg;omega);have a1w:=bz ap6;have aur:=XW.opn ap5 auo;refine SA aur (λ_ ap7 aus=>?_);have a1y:=psz ap7;refine go ?_;exact dvWs (.inr rfl) ap5 ap7 aus;exact trivial;intro apw _ _ aut apx _ ao2;obtain⟨apw,rfl⟩:=ovE apx;have aon:=(Blk.gr ao2.1 (by simp;omega) sc);have a13:=bt aon;have aoq:=(Blk.gr ao2.1 (by simp;omega) aom);have a14:=bt aoq;have aoo:=(Blk.gr ao2.1 (by simp;omega) aos);have a15:=bt aoo;have aop:=low_gr aov ao2.1 (bz aov) (λg hgg=>by cases hgg;omega);have a16:=bz aop;have a17:=ao2.1.size;have ao3:=XW.fin ao2 (aut 15 rfl);have a18:=bt ao3;refine go ?_;refine l_op (k_arrAddr (m:=7) (b:=w.heap.size) (o:=0) (i:=5) (oo:=5) U2022 sz3 rfl rfl dc rfl ?_);refine go ?_;refine clb en6020 (hc:=cEqZ (pick16_ok x5 30 _ hx5 om) ep6) (hk:=?_)
 rintro _ _ apf rfl;have⟨aon,aoq,aoo,ao3,aop⟩:=be4 apf.2 aon aoq aoo ao3 aop;refine adi ?_;refine clb en32 (hc:=of_q om om) (hk:=?_);rintro _ _ apg rfl;have⟨aon,aoq,aoo,ao3,aop⟩:=be4 apg.2 aon aoq aoo ao3 aop;refine go ?_;refine l_op (k_fieldAddr (b:=r8.heap.size) (o:=0) (off:=11) (oo:=11) U2029 rfl rfl sz36 rfl rfl ?_);refine SA ao3 (λ_ aph aor=>?_);have⟨aon,aoq,aoo,aop,_⟩:=pl3 aph aon aoq aoo aop;refine go ?_;refine l_op (k_arrAddr (m:=7) (b:=w.heap.size) (o:=0) (i:=6) (oo:=6) U2022 sz3 rfl rfl dc rfl ?_);refine go ?_;refine clb en6020 (hc:=cEqZ (pick16_ok x6 61 _ hx6 om) ep7) (hk:=?_);rintro _ _ api rfl;have⟨aon,aoq,aoo,aor,aop⟩:=be4 api.2 aon aoq aoo aor aop;refine sui ?_;refine clb en32 (hc:=of_q om om) (hk:=?_);rintro _ _ apj rfl;have⟨aon,aoq,aoo,aor,aop⟩:=be4 apj.2 aon aoq aoo aor aop;refine go ?_;refine al inf36 (λ_ apk auu=>?_);have⟨aon,aoq,aoo,aor,aop⟩:=be4 apk.2 aon aoq aoo aor aop;refine SA auu (λ_ ao4 aot=>?_);have⟨aon,aoq,aoo,aor,aop,_⟩:=pl4 ao4 aon aoq aoo aor aop;refine go ?_;refine cl en33 (mul_q4 qw qd hM) ?_;rintro _ _ ao5 rfl;have⟨aon,aoq,aoo,aor,aot,aop⟩:=be5 ao5.2 aon aoq aoo aor aot aop;refine go ?_;refine al inf36 (λ_ ao6 auw=>?_);have⟨aon,aoq,aoo,aor,aot,aop⟩:=be5 ao6.2 aon aoq aoo aor aot aop;refine SA auw (λ_ aow aox=>?_);have⟨aon,aoq,aoo,aor,aot,aop,_⟩:=pl5 aow aon aoq aoo aor aot aop;refine go ?_
 refine l_op (k_fieldAddr (b:=r8.heap.size) (o:=0) (off:=0) (oo:=0) U2029 rfl rfl sz2027 rfl rfl ?_);refine l_op (k_fieldAddr (b:=r8.heap.size) (o:=0) (off:=1) (oo:=1) U2027 rfl rfl sz36 rfl rfl ?_);refine go ?_;refine cl en71 (add_q4 ql qm hR) ?_;rintro _ _ aoy rfl;have⟨aon,aoq,aoo,aor,aot⟩:=bf5 aoy.2 aon aoq aoo aor aot;have⟨aox,aop⟩:=be1 aoy.2 aox aop;refine go ?_;refine l_op (k_fieldAddr (b:=r8.heap.size) (o:=0) (off:=9) (oo:=9) U2029 rfl rfl sz36 rfl rfl ?_);refine SA aor (λ_ aoz ap8=>?_);have⟨aon,aoq,aoo,aot,aox,aop,_⟩:=pl5 aoz aon aoq aoo aot aox aop;refine go ?_;refine l_op (k_loadA (cs:=[.int .i64 (1+p0),S ((qR (p1-20) 10).1),S ((qR (p1-20) 10).2),S (qR ha hb).1,S (qR ha hb).2,S (qR gn gd).1,S (qR gn gd).2,S ((qR p4 (100+(400*p5))).1),S ((qR p4 (100+(400*p5))).2),S (qR va vb).1,S (qR va vb).2,S ((qR (1+p6) 20).1),S ((qR (1+p6) 20).2)]) (b:=r8.heap.size) (o:=0) U2029 rfl sz2029 rfl (Blk.cells ap8 (i:=0) krDl3) ?_)
 refine l_op (k_storeA (b:=apl.heap.size) (o:=0) (vs:=[.int .i64 (1+p0),S ((qR (p1-20) 10).1),S ((qR (p1-20) 10).2),S (qR ha hb).1,S (qR ha hb).2,S (qR gn gd).1,S (qR gn gd).2,S ((qR p4 (100+(400*p5))).1),S ((qR p4 (100+(400*p5))).2),S (qR va vb).1,S (qR va vb).2,S ((qR (1+p6) 20).1),S ((qR (1+p6) 20).2)]) sz2029 rfl rfl (by simp[Value.oneCell',S]) aoq (Nat.le_of_ble_eq_true rfl) (λ_ ao0 ap9=>?_));have ap9:=Blk.cst ap9 (cs:=#[.int .i64 (1+p0),S ((qR (p1-20) 10).1),S ((qR (p1-20) 10).2),S (qR ha hb).1,S (qR ha hb).2,S (qR gn gd).1,S (qR gn gd).2,S ((qR p4 (100+(400*p5))).1),S ((qR p4 (100+(400*p5))).2),S (qR va vb).1,S (qR va vb).2,S ((qR (1+p6) 20).1),S ((qR (1+p6) 20).2)]) krDl3;have⟨aon,aoo,ap8,aot,aox,aop,_⟩:=pl5 ao0 aon aoo ap8 aot aox aop;refine go ?_;refine f_out (v:=.agg #[.int .i64 (1+p0),S ((qR (p1-20) 10).1),S ((qR (p1-20) 10).2),S (qR ha hb).1,S (qR ha hb).2,S (qR gn gd).1,S (qR gn gd).2,S ((qR p4 (100+(400*p5))).1),S ((qR p4 (100+(400*p5))).2),S (qR va vb).1,S (qR va vb).2,S ((qR (1+p6) 20).1),S ((qR (1+p6) 20).2)]) (res1  rfl ?_) aop rfl
 refine res_cellA (t:=2) (cs:=[.int .i64 (1+p0),S ((qR (p1-20) 10).1),S ((qR (p1-20) 10).2),S (qR ha hb).1,S (qR ha hb).2,S (qR gn gd).1,S (qR gn gd).2,S ((qR p4 (100+(400*p5))).1),S ((qR p4 (100+(400*p5))).2),S (qR va vb).1,S (qR va vb).2,S ((qR (1+p6) 20).1),S ((qR (1+p6) 20).2)]) (b:=apl.heap.size) (o:=0) U2029 rfl sz2029 ?_ ?_;exact rfl;exact Blk.cells ap9 (i:=0) krDl3
end Go.Proofs.YtinldhphnpflaaaGreatDoor
namespace Go.Proofs.YtinldhphnpflaaaGreatDoor
open Go Go.Eng Go.RowKit
def MpI (w:World)(b:Nat)(l:List (Int×Value)):Prop:=∃es clock,w.heap[b]?=some (.map es clock)∧es.toList.map (λe=>(e.key,e.val))=l.map (λp=>(Value.int .i64 p.1,p.2))
def getI (k:Int):List (Int×Value)->Option Value
  |[]=>none
  |p::l=>if k=p.1 then some p.2 else getI k l
theorem MpI.lt {w:World}{b:Nat}{l:List (Int×Value)}(h:MpI w b l):b<w.heap.size:=by
  obtain⟨_,c,h1,_⟩:=h
  exact(Array.getElem?_eq_some_iff.1 h1).1
theorem findNowI {k:Int}:∀{es:List MapEntry} {l:List (Int×Value)} {i:Nat},es.map (λe=>(e.key,e.val))=l.map (λp=>(Value.int .i64 p.1,p.2))->∃o:Option (Nat×Value),Instr.findNow (.int .i64) (.int .i64 k) es i=some o∧o.map (·.2)=getI k l
  |[],[],i,_=>⟨none,rfl,rfl⟩
  |[],_::_,_,h=>by cases h
  |_::_,[],_,h=>by cases h
  | e ::es,p::l,i,h=>by
    simp only[List.map_cons,List.cons.injEq,Prod.mk.injEq]at h
    obtain⟨⟨h1,h2⟩,h3⟩:=h
    unfold Instr.findNow getI
    rw[h1]
    by_cases hk:k=p.1
    · subst hk
      have hs:Instr.sameNow (.int .i64) (.int .i64 p.1) (.int .i64 p.1)=some true:=by simp[Instr.sameNow]
      exact⟨some (i,e.val),by rw[hs],by simp[h2]⟩
    · obtain⟨o,h4,h5⟩:=findNowI (k:=k) (i:=i+1) h3
      have hs:Instr.sameNow (.int .i64) (.int .i64 k) (.int .i64 p.1)=some false:=by simp[Instr.sameNow,hk]
      exact⟨o,by rw[hs];exact h4,by rw[h5,if_neg hk]⟩
theorem findI (w:World){k:Int}{es:List MapEntry}{l:List (Int×Value)}(h:es.map (λe=>(e.key,e.val))=l.map (λp=>(Value.int .i64 p.1,p.2))):∃o:Option (Nat×Value),(Instr.findKey 3 (.int .i64 k) es).run Tryz.prog w=.ok o w∧o.map (·.2)=getI k l:=by
  obtain⟨o,h1,h2⟩:=findNowI (k:=k) (i:=0) h
  exact⟨o,by simp[Instr.findKey,run_underlying Tryz.underlying3,h1],h2⟩
theorem ck3 (w:World)(em:Bool)(k:Int):(Instr.checkKey em 10000 3 (.int .i64 k)).run Tryz.prog w=.ok () w:=by
  show(Instr.checkKey em (9999+1) 3 _).run _ _=_
  unfold Instr.checkKey
  simp[run_underlying Tryz.underlying3]
section
variable {r:Option Nat}{n N:Nat}{e:Nat->Value}{ds:List Deferred}{w:World}{Q:Exit->Act->World->Prop}{K:Act->World->Prop}
variable {d ty:Nat}{pos:String}{af:Array Edge}{g:Option (Nat×Bool)}{v u:Value}{x y z:Operand}{t t':TypeId}{l:List (Int×Value)}{b:Nat}{k:Int}
theorem k_makeMapI (hk:∀w',Ext w w'->w'.heap.size=w.heap.size+1->MpI w' w.heap.size []->K (act N (upd e d (.map (some w.heap.size))) ds) w'):
    Oper.wpIn (Fw r) n Tryz.prog ⟨some d,.makeMap t none,ty,pos,af,g⟩ (act N e ds) w K Q:=by
  refine k_val (v:=.map (some w.heap.size)) (w':=w.alloc (.map #[] 0)) rfl ?_ (by rw[act_put];exact hk _ (Ext.alloc _ _) (by simp) ⟨#[],0,heap_alloc_new w _,rfl⟩)
  simp[execOp,run_makeMap]
theorem k_insertI (hx:ev N e x=.map (some b))(hy:ev N e y=.int .i64 k)(hz:ev N e z=v)(hM:MpI w b l)(hn:getI k l=none)(hk:∀w',Put w w' b->MpI w' b (l++[(k,v)])->K (act N e ds) w'):
    Oper.wpIn (Fw r) n Tryz.prog ⟨none,.insert 81 x y z,ty,pos,af,g⟩ (act N e ds) w K Q:=by
  have hlt:=hM.lt
  obtain⟨es,c,h1,h2⟩:=hM
  obtain⟨o,h3,h4⟩:=findI w (k:=k) h2
  have hc:=ck3 w false k
  rw[hn]at h4
  cases o with
  |some p=>cases h4
  | none=>
    refine k_skip (w':={w with heap:=w.heap.setIfInBounds b (.map (es.push {key:=.int .i64 k,val:=v,born:=c}) (c+1))}) rfl ?_ (hk _ put_set ⟨es.push {key:=.int .i64 k,val:=v,born:=c},c+1,by simp[hlt],by simp[h2]⟩)
    simp[execOp,Instr.mapUpdate,hx,hy,hz,run_underlying Tryz.underlying81,MapKept.run_getObj_map h1,hc,h3,MapKept.run_setObj_map _ h1]
theorem k_lookupI {q:Bool}(hx:ev N e x=.map (some b))(hy:ev N e y=.int .i64 k)(hM:MpI w b l)(hg:getI k l=(if q then some v else none))(hz:q=false->v=.nilFunc)(hk:K (act N (upd e d (.tuple #[v,.bool q])) ds) w):
    Oper.wpIn (Fw r) n Tryz.prog ⟨some d,.lookup 81 x y true,ty,pos,af,g⟩ (act N e ds) w K Q:=by
  obtain⟨es,c,h1,h2⟩:=hM
  obtain⟨o,h3,h4⟩:=findI w (k:=k) h2
  rw[hg]at h4
  have hc:=ck3 w es.isEmpty k
  cases q with
  | false=>
    rw[hz rfl]at hk
    cases o with
    |some p=>cases h4
    | none=>
      have hz:(zeroValue 23).run Tryz.prog w=.ok .nilFunc w:=by
        obtain⟨i,i1,i2,_,_⟩:=(inf25:Inf Tryz.prog 23 _ _ _).parts
        simp[zeroValue,typeInfo,i1,i2]
      refine k_val (v:=.tuple #[.nilFunc,.bool false]) (w':=w) rfl ?_ (by rw[act_put];exact hk)
      simp[execOp,Instr.lookup,hx,hy,run_underlying Tryz.underlying81,MapKept.run_getObj_map h1,hc,h3,hz]
  | true=>
    cases o with
    |none=>cases h4
    | some p=>
      have h5:p.2=v:=Option.some.inj h4
      refine k_val (v:=.tuple #[v,.bool true]) (w':=w) rfl ?_ (by rw[act_put];exact hk)
      simp[execOp,Instr.lookup,hx,hy,run_underlying Tryz.underlying81,MapKept.run_getObj_map h1,hc,h3,h5]
theorem k_callB {R:Value->World->Prop}{f:FuncId}{lb:List Value}{ats:Array TypeId}(hf:Enters Tryz.prog f)(hx:ev N e x=.func (.func f) lb.toArray #[])(hc:CL f lb.toArray w (Ret w R))(hk:∀v w',Ext w w'->R v w'->K (act N (upd e d v) ds) w'):Oper.wpIn (Fw r) n Tryz.prog ⟨some d,.call {callee:=.value x,args:=#[],argTypes:=ats},ty,pos,af,g⟩ (act N e ds) w K Q:=by
  refine k_enter (f:=f) (args:=lb.toArray) (R:=R) rfl ?_ hc (λv w' h1 h2=>by rw[act_put];exact hk v w' h1 h2)
  simp[execOp,resolve,Deferred.ofValue,hx,invoke,hf _ _]
end
end Go.Proofs.YtinldhphnpflaaaGreatDoor
