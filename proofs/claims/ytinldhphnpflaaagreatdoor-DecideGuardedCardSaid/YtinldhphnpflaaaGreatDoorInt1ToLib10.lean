/- Part of the proof of a statement about decisions. -/
import Derived.Test.YtinldhphnpflaaaGreatDoorBaseToEngJ
import Derived.Test.YtinldhphnpflaaaGreatDoorEngPToEngH
import Derived.Test.YtinldhphnpflaaaGreatDoorLib9ToEng
import Derived.WalkSmall
set_option linter.all false
namespace Go.Proofs.YtinldhphnpflaaaGreatDoor
set_option maxRecDepth 100000
open Go Go.Eng Go.RowKit
attribute [local irreducible] wpListIn Code.wpIn Oper.wpIn Exit.then Exit.inBlock Exit.noGoto
set_option maxHeartbeats 40000000
theorem uxInt1 {a:Int}(h:In64 a:=by unfold In64;omega):In64 a:=h
def ints (l:List Nat):List Value:=l.map λn:Nat=>Value.int .i64 n
theorem ints_get {xs:List Nat}{i:Nat}(h:i<xs.length):(ints xs)[i]?=some (.int .i64 ((xs[i]:Nat):Int)):=by simp[ints,h]
theorem ints_length (xs:List Nat):(ints xs).length=xs.length:=by simp[ints]
theorem ints_one {xs:List Nat}:∀u∈ints xs,u.oneCell'=true:=by
  intro u hu
  obtain⟨n,_,rfl⟩:=List.mem_map.1 hu
  rfl
theorem ints_append (a b:List Nat):ints (a++b)=ints a++ints b:=by simp[ints]
theorem getD_ge {xs:List Nat}{i:Nat}(h:xs.length<=i):xs.getD i 0=0:=by simp[List.getD,List.getElem?_eq_none h]
theorem ints_getD {xs:List Nat}{i:Nat}(h:i<xs.length):(ints xs)[i]?=some (.int .i64 ((xs.getD i 0:Nat):Int)):=by simp[ints,h]
theorem take_last {xs:List Nat}{m:Nat}(h0:0<m)(h:m<=xs.length):xs.take m=xs.take (m-1)++[xs.getD (m-1) 0]:=by
  obtain⟨k,rfl⟩:∃k,m=k+1:=⟨m-1,by omega⟩
  rw[List.take_succ_eq_append_getElem om]
  simp[show k<xs.length by omega]
theorem trimL_snoc0:∀l:List Nat,trimL (l++[0])=trimL l
  |[]=>by simp[trimL]
  |d::l=>by simp only[List.cons_append,trimL,trimL_snoc0 l]
theorem trimL_snoc:∀(l:List Nat) (d:Nat),d≠0->trimL (l++[d])=l++[d]
  |[],d,h=>by simp[trimL,h]
  | e::l,d,h=>by
    have ih:=trimL_snoc l d h
    simp only[List.cons_append,trimL,ih]
    rw[if_neg (by simp)]
theorem trim_step {xs:List Nat}{m n:Nat}(h:0<m∧m<=n∧xs.length=n)(hz:xs.getD (m-1) 0=0):trimL (xs.take m)=trimL (xs.take (m-1)):=by
  rw[take_last h.1 om,hz,trimL_snoc0]
theorem trim_done {xs:List Nat}{m n:Nat}(h:m<=n∧xs.length=n)(hz:m=0∨0<m∧xs.getD (m-1) 0≠0):trimL (xs.take m)=xs.take m:=by
  rcases hz with rfl|⟨h0,hz⟩
  · simp[trimL]
  · rw[take_last h0 om,trimL_snoc _ _ hz]
structure Num (w:World)(lo:Nat)(A:Option Addr)(n c a:Nat):Prop where
  row:Rw w lo A (ints (toB 10000 a))
  len:(toB 10000 a).length=n
  cap:n<=c
section
variable {w w0 w':World}{lo:Nat}{A:Option Addr}{n c a:Nat}
theorem Num.ext (k:Ext w w')(h:Num w lo A n c a):Num w' lo A n c a:=⟨h.row.ext k,h.len,h.cap⟩
theorem Num.put {b:Nat}(k:Put w w' b)(hb:b<lo)(h:Num w lo A n c a):Num w' lo A n c a:=⟨h.row.put k hb,h.len,h.cap⟩
theorem Num.gr {row:Option Nat}(k:w.grownBy w' row)(hne:∀ad,A=some ad->some ad.block≠row)(h:Num w lo A n c a):Num w' lo A n c a:=⟨h.row.gr k hne,h.len,h.cap⟩
theorem Num.mono {lo':Nat}(hl:lo'<=lo)(h:Num w lo A n c a):Num w lo' A n c a:=⟨h.row.mono hl,h.len,h.cap⟩
theorem Num.lt (h:Num w lo A n c a):∀x∈toB 10000 a,x<10000:=toB_lt 10000 om a
theorem Num.val (h:Num w lo A n c a):ofB 10000 (toB 10000 a)=a:=ofB_toB 10000 om a
end
theorem toNats_ints {l:List Int}(h:∀x∈l,0<=x∧x<10000):l.map (Value.int .i64)=ints (toNats l):=by
  conv=>lhs;rw[<-toNats_cast l (λx hx=>(h x hx).1)]
  simp[ints]
theorem num_of {w:World}{lo:Nat}{A:Option Addr}{m c a:Nat}{l:List Int}(hd:∀x∈l,0<=x∧x<10000)(hv:ofB 10000 (toNats l)=a)(hr:Rw w lo A (ints (toNats l)))(hm:trimL (toNats l)=(toNats l).take m)(hml:m<=(toNats l).length)(hmc:m<=c):Num w lo A m c a:=by
  have h1:toB 10000 a=(toNats l).take m:=by
    rw[<-hm,<-hv]
    exact(trimL_eq 10000 om _ (toNats_lt l hd)).symm
  refine⟨?_,?_,hmc⟩
  · rw[h1]
    have:ints ((toNats l).take m)=(ints (toNats l)).take m:=by simp[ints]
    rw[this]
    exact hr.take m
  · rw[h1];simp;omega
theorem toNats_length (l:List Int):(toNats l).length=l.length:=by simp[toNats]
theorem isNaN_ok (x:Int)(w:World):
    CL 139 #[.int .i64 x] w (Ret w λv w'=>v=.bool false):=by
 refine f_in Tryz.func139 rfl ?_;refine go ?_;exact f_ret1 (t:=2) (v:=.bool false) rfl (Ext.refl _) rfl (by show Value.bool (!decide (x=x))=_;simp)
theorem cmp_lt (x y:Int)(h:x<y)(w:World):
    CL 99 #[.int .i64 x,.int .i64 y] w (Ret w λv w'=>v=.int .i64 (-1)):=by
 refine f_in Tryz.func99 rfl ?_;refine go ?_;refine cl en146 (isNaN_ok _ _) ?_;rintro _ _ k2 rfl;have E4:=k2.2;refine go ?_;refine cl en146 (isNaN_ok _ _) ?_;rintro _ _ k6 rfl;have E4:=xt E4 k6.2;refine go ?_;exact f_ret1 (t:=4) (v:=.int .i64 ((-1))) rfl E4 rfl rfl
theorem cmp_gt (x y:Int)(h:y<x)(w:World):
    CL 99 #[.int .i64 x,.int .i64 y] w (Ret w λv w'=>v=.int .i64 1):=by
 refine f_in Tryz.func99 rfl ?_;refine go ?_;refine cl en146 (isNaN_ok _ _) ?_;rintro _ _ k9 rfl;have E11:=k9.2;refine go ?_;refine cl en146 (isNaN_ok _ _) ?_;rintro _ _ k13 rfl;have E11:=xt E11 k13.2;refine go ?_;exact f_ret1 (t:=4) (v:=.int .i64 1) rfl E11 rfl rfl
theorem cmp_eq (x y:Int)(h:x=y)(w:World):
    CL 99 #[.int .i64 x,.int .i64 y] w (Ret w λv w'=>v=.int .i64 0):=by
 refine f_in Tryz.func99 rfl ?_;refine go ?_;refine cl en146 (isNaN_ok _ _) ?_;rintro _ _ k16 rfl;have E18:=k16.2;refine go ?_;refine cl en146 (isNaN_ok _ _) ?_;rintro _ _ k20 rfl;have E18:=xt E18 k20.2;refine go ?_;exact f_ret1 (t:=4) (v:=.int .i64 0) rfl E18 rfl rfl
theorem at_ok {A:Option Addr}{n c i lo:Nat}{xs:List Nat}{w:World}(hr:Rw w lo A (ints xs))(hn:xs.length=n):
    CL 111 #[.slice A n c,.int .i64 i] w (Ret w λv w'=>v=.int .i64 ((xs.getD i 0:Nat):Int)):=by
 by_cases hi:i<n;have hi2:i<xs.length:=by omega
 refine f_in Tryz.func111 rfl ?_;refine go ?_;obtain⟨b,o,hA,hc⟩:=hr.cells i _ (ints_get hi2);refine l_op (k_indexAddr (i:=i) (oo:=o+i) U123 sz3 rfl hA rfl hi om ?_);refine l_op (k_load (v:=.int .i64 ((xs[i]'hi2:Nat):Int)) U3 rfl rfl hc ?_);refine go ?_;exact f_ret1 (t:=4) (v:=.int .i64 (((xs[i]'hi2:Nat):Int))) rfl (Ext.refl _) (by simp[hi2]) rfl;refine f_in Tryz.func111 rfl ?_;refine go ?_;exact f_ret1 (t:=4) (v:=.int .i64 0) rfl (Ext.refl _) (by rw[getD_ge om];rfl) rfl
theorem plus_cl {A1 A2:Option Addr}{n1 c1 n2 c2 i lo1 lo2 B1 B2:Nat}{xs ys:List Nat}{w:World}(h1:Rw w lo1 A1 (ints xs))(hn1:xs.length=n1)(h2:Rw w lo2 A2 (ints ys))(hn2:ys.length=n2)(k1:Blk w B1 90 #[.slice A1 n1 c1])(k2:Blk w B2 90 #[.slice A2 n2 c2])(hx:xs.getD i 0<=1000000000)(hy:ys.getD i 0<=1000000000):
    CL 110 #[.int .i64 i,pT B1,pT B2] w (Ret w λv w'=>v=.int .i64 (((xs.getD i 0:Nat):Int)+((ys.getD i 0:Nat):Int))):=by
 refine f_in Tryz.func110 rfl ?_;refine go ?_;refine c_an 8 ?_;refine sf ?_;refine sf_ae (V:=.int .i64 (((xs.getD i 0:Nat):Int))) (λ_ _ hR32 _=>?_) ?_;have h1:=h1.ext hR32;refine cl en129 (at_ok h1 hn1) ?_;rintro _ _ k35 rfl;have E37:=k35.2;refine go ?_;exact fs ⟨E37,rfl⟩;refine sf ?_;refine sf_ae (V:=.int .i64 (((ys.getD i 0:Nat):Int))) (λ_ _ hR48 _=>?_) ?_;have h2:=h2.ext hR48;refine cl en129 (at_ok h2 hn2) ?_;rintro _ _ k51 rfl;have E53:=k51.2;refine go ?_;exact fs ⟨E53,rfl⟩;refine sf_ap (λ_ _ _ _=>by refine adi ?_;refine go ?_;exact finp) ?_;refine sf ?_;intro _ _ hR64 _;have E66:=hR64.2;refine go ?_;exact f_ret1 (t:=4) (v:=.int .i64 (((xs.getD i 0:Nat):Int)+((ys.getD i 0:Nat):Int))) rfl E66 rfl rfl
theorem minus_cl {A1 A2:Option Addr}{n1 c1 n2 c2 i lo1 lo2 B1 B2:Nat}{xs ys:List Nat}{w:World}(h1:Rw w lo1 A1 (ints xs))(hn1:xs.length=n1)(h2:Rw w lo2 A2 (ints ys))(hn2:ys.length=n2)(k1:Blk w B1 90 #[.slice A1 n1 c1])(k2:Blk w B2 90 #[.slice A2 n2 c2])(hx:xs.getD i 0<=1000000000)(hy:ys.getD i 0<=1000000000):
    CL 112 #[.int .i64 i,pT B1,pT B2] w (Ret w λv w'=>v=.int .i64 (((xs.getD i 0:Nat):Int)-((ys.getD i 0:Nat):Int))):=by
 refine f_in Tryz.func112 rfl ?_;refine go ?_;refine c_an 8 ?_;refine sf ?_;refine sf_ae (V:=.int .i64 (((xs.getD i 0:Nat):Int))) (λ_ _ hR77 _=>?_) ?_;have h1:=h1.ext hR77;refine cl en129 (at_ok h1 hn1) ?_;rintro _ _ k80 rfl;have E82:=k80.2;refine go ?_;exact fs ⟨E82,rfl⟩;refine sf ?_;refine sf_ae (V:=.int .i64 (((ys.getD i 0:Nat):Int))) (λ_ _ hR93 _=>?_) ?_;have h2:=h2.ext hR93;refine cl en129 (at_ok h2 hn2) ?_;rintro _ _ k96 rfl;have E98:=k96.2;refine go ?_;exact fs ⟨E98,rfl⟩;refine sf_ap (λ_ _ _ _=>by refine sui ?_;refine go ?_;exact finp) ?_;refine sf ?_;intro _ _ cf _;have fy:=cf.2;refine go ?_;exact f_ret1 (t:=4) (v:=.int .i64 (((xs.getD i 0:Nat):Int)-((ys.getD i 0:Nat):Int))) rfl fy rfl rfl
theorem trimmed_ok {A:Option Addr}{n c lo:Nat}{xs:List Nat}{w:World}(hr:Rw w lo A (ints xs))(hn:xs.length=n)(hc:n<=c)(hb:n<=1000000):
    CL 105 #[.slice A n c] w (Ret w λv w'=>∃m,v=.slice A m c∧trimL xs=xs.take m∧m<=n):=by
 refine f_in Tryz.func105 rfl ?_;refine go ?_;have fx:=Ext.refl w;refine c_lp [(0,0),(3,19)] (λkk e W=>∃m:Nat,(m=kk)∧(e 0=.slice A m c)∧(m<=n)∧(trimL xs=trimL (xs.take m))∧(Ext w W)) ((n)) ⟨n,rfl,rfl,(Nat.le_refl _),(by rw[List.take_of_length_le om]),fx⟩ ?_;rintro _ _ _ ⟨m,rfl,cf,q1,q2,cw⟩;have mq:=bz cw;by_cases hm:0<m;by_cases hz:xs.getD (m-1) 0=0;obtain⟨b,o,hA,hc⟩:=(hr.ext cw).cells (m-1) _ (ints_getD (xs:=xs) om);refine go ?_;refine l_op (k_sub (a:=(m:Int)) (b:=1) (c:=((m-1:Nat):Int)) rfl rfl uxInt1 om ?_);refine go ?_;refine l_op (k_indexAddr (i:=m-1) (oo:=o+(m-1)) U123 sz3 rfl hA rfl om om ?_);refine go ?_;refine l_op (k_load (v:=.int .i64 ((xs.getD (m-1) 0:Nat):Int)) U3 rfl rfl hc ?_);refine go ?_;refine l_op (k_sub (a:=(m:Int)) (b:=1) (c:=((m-1:Nat):Int)) rfl rfl uxInt1 om ?_);refine l_op (k_cut (j:=m-1) U123 sz3 rfl rfl om ?_);refine go ?_;exact lend ⟨m-1,rfl,rfl,om,(q2.trans (trim_step (n:=n) om hz)),cw⟩;obtain⟨b,o,hA,hc⟩:=(hr.ext cw).cells (m-1) _ (ints_getD (xs:=xs) om);refine go ?_;refine l_op (k_sub (a:=(m:Int)) (b:=1) (c:=((m-1:Nat):Int)) rfl rfl uxInt1 om ?_);refine go ?_;refine l_op (k_indexAddr (i:=m-1) (oo:=o+(m-1)) U123 sz3 rfl hA rfl om om ?_);refine go ?_;refine l_op (k_load (v:=.int .i64 ((xs.getD (m-1) 0:Nat):Int)) U3 rfl rfl hc ?_)
 refine go ?_;exact f_ret1 (t:=2) (v:=.slice A m c) rfl cw ⟨m,rfl,q2.trans (trim_done (n:=n) om (by first|exact Or.inl om|exact Or.inr ⟨by omega,by omega⟩)),by omega⟩ rfl;refine go ?_;exact f_ret1 (t:=2) (v:=.slice A m c) rfl cw ⟨m,rfl,q2.trans (trim_done (n:=n) om (by first|exact Or.inl om|exact Or.inr ⟨by omega,by omega⟩)),by omega⟩ rfl
theorem fold_ok {g n:Nat}{c0:Int}{lb:List Value}{d:Nat->Int}{w:World}(heg:Enters Tryz.prog g)(hd:∀(i:Nat) (W:World),i<=n->Ext w W->CL g ([Value.int .i64 i]++lb).toArray W (Ret W λv _=>v=.int .i64 (d i)))(hn:n<=1000000)(hr:∀i≤n,-1000000000000<=d i∧d i<=1000000000000)(hc:∀k≤n,-1000000000<=(foldSt d c0 k).1∧(foldSt d c0 k).1<=1000000000)(hcn:0<=(foldSt d c0 n).1∧(foldSt d c0 n).1<10000)(hdn:d n=0):
    CL 109 #[.int .i64 n,.int .i64 c0,.func (.func g) #[] lb.toArray] w (Ret w λv w'=>∃k,n<=k∧k<=n+1∧(foldSt d c0 k).1=0∧w'.ownsRow w.heap.size 3 1 v k ((foldSt d c0 k).2.map (Value.int .i64))):=by
 refine f_in Tryz.func109 rfl ?_;refine go ?_;refine l_op (k_add (a:=(n:Int)) (b:=1) (c:=((n+1:Nat):Int)) rfl rfl uxInt1 om ?_);refine l_op (k_make0 (m:=n+1) U123 inf3 rfl rfl om (by simp only[maxLen];omega) (λ_ r8 ho=>?_));have aop:=r8;have ao3:=bz r8;refine go ?_;refine c_lp [(1,1),(7,9),(13,40)] (λkk e W=>∃k:Nat,∃vv:Value,(n+1-k=kk)∧(e 1=.int .i64 ((foldSt d c0 k).1))∧(e 7=vv)∧(e 8=.int .i64 k)∧(k<=n+1)∧(k=n+1->(foldSt d c0 k).1=0)∧(Ext w W)∧(W.ownsRow w.heap.size 3 1 vv k ((foldSt d c0 k).2.map (Value.int .i64)))) (n+1-0) ⟨0,_,rfl,rfl,rfl,rfl,om,om,aop,ho⟩ ?_;rintro _ _ _ ⟨k,vv,rfl,fx,fy,cw,q1,q2,cf,ho⟩;have ao7:=bz cf;by_cases hkn:k<n;by_cases hs:d k+(foldSt d c0 k).1<0;have hbd:=hr k om;have hbc:=hc k om;have hst:=foldSt_neg om;refine go ?_;refine l_op (clV (vs:=[.int .i64 k]) (lb:=lb) heg rfl rfl (hd k _ om cf) ?_);rintro _ _ kx rfl;have kx:=kx.2;have ho:=own_ext kx ho;have cf:=xt cf kx;have ao9:=bz kx;refine go ?_;refine adi ?_;refine go ?_;refine adi ?_;refine go ?_;refine l_op (k_move (v:=vv) fy ?_);refine go ?_;refine BS (λ_ ly _ aor=>?_);have ho:=own_ext ly ho;have cf:=xt cf ly;have apc:=bz ly;refine AP ho (Rw.of_own aor) (λsc _ aos wz _=>?_);have cf:=low_gr cf wz (bz cf) (λg hgg=>by have:=(ho.lt g hgg).1;omega);have apf:=wz.size
 refine l_op (k_assign (v:=sc) rfl ?_);refine go ?_;refine l_op (k_add (a:=(k:Int)) (b:=1) (c:=((k+1:Nat):Int)) rfl rfl uxInt1 om ?_);refine go ?_;exact lend ⟨k+1,sc,rfl,(by rw[hst];rfl),rfl,rfl,om,(by intro hk;first|omega|(rw[hst])),cf,(by rw[hst];simpa using aos)⟩;by_cases hs2:10000<=d k+(foldSt d c0 k).1;have hbd:=hr k om;have hbc:=hc k om;have hst:=foldSt_big om om;refine go ?_;refine l_op (clV (vs:=[.int .i64 k]) (lb:=lb) heg rfl rfl (hd k _ om cf) ?_);rintro _ _ mq rfl;have mq:=mq.2;have ho:=own_ext mq ho;have cf:=xt cf mq;have aph:=bz mq;refine go ?_;refine adi ?_;refine go ?_;refine l_op (k_quo (a:=(d k)+((foldSt d c0 k).1)) (b:=10000) (c:=((d k)+((foldSt d c0 k).1))/10000) rfl rfl om om uxInt1 rfl ?_);refine go ?_;refine l_op (k_rem (a:=(d k)+((foldSt d c0 k).1)) (b:=10000) (c:=((d k)+((foldSt d c0 k).1))%10000) rfl rfl om om rfl ?_);refine go ?_;refine l_op (k_move (v:=vv) fy ?_);refine go ?_;refine BS (λ_ ns _ aou=>?_);have ho:=own_ext ns ho;have cf:=xt cf ns;have apk:=bz ns;refine AP ho (Rw.of_own aou) (λw7 _ aov w9 _=>?_);have cf:=low_gr cf w9 (bz cf) (λg hgg=>by have:=(ho.lt g hgg).1;omega);have apn:=w9.size;refine l_op (k_assign (v:=w7) rfl ?_);refine go ?_;refine l_op (k_add (a:=(k:Int)) (b:=1) (c:=((k+1:Nat):Int)) rfl rfl uxInt1 om ?_);refine go ?_
 exact lend ⟨k+1,w7,rfl,(by rw[hst];rfl),rfl,rfl,om,(by intro hk;first|omega|(rw[hst])),cf,(by rw[hst];simpa using aov)⟩;have hbd:=hr k om;have hbc:=hc k om;have hst:=foldSt_mid om om;refine go ?_;refine l_op (clV (vs:=[.int .i64 k]) (lb:=lb) heg rfl rfl (hd k _ om cf) ?_);rintro _ _ nv rfl;have nv:=nv.2;have ho:=own_ext nv ho;have cf:=xt cf nv;have apq:=bz nv;refine go ?_;refine adi ?_;refine go ?_;refine l_op (k_move (v:=vv) fy ?_);refine go ?_;refine BS (λ_ od _ aox=>?_);have ho:=own_ext od ho;have cf:=xt cf od;have apt:=bz od;refine AP ho (Rw.of_own aox) (λaol _ aoy aom _=>?_);have cf:=low_gr cf aom (bz cf) (λg hgg=>by have:=(ho.lt g hgg).1;omega);have apw:=aom.size;refine l_op (k_assign (v:=aol) rfl ?_);refine go ?_;refine l_op (k_add (a:=(k:Int)) (b:=1) (c:=((k+1:Nat):Int)) rfl rfl uxInt1 om ?_);refine go ?_;exact lend ⟨k+1,aol,rfl,(by rw[hst];rfl),rfl,rfl,om,(by intro hk;first|omega|(rw[hst])),cf,(by rw[hst];simpa using aoy)⟩;by_cases hcz:(foldSt d c0 k).1=0;refine go ?_;refine l_op (k_move (v:=vv) fy ?_);refine l_op (k_assign (v:=vv) rfl ?_);refine go ?_;exact f_ret1 (t:=6) (v:=vv) rfl cf ⟨k,by omega,by omega,hcz,ho⟩ rfl;have hkn2:n=k:=by omega
 have hdk:=hdn;rw[hkn2]at hdk;have hck:=hcn;rw[hkn2]at hck;have hbig:¬10000<=d k+(foldSt d c0 k).1:=by omega
 have hneg:¬d k+(foldSt d c0 k).1<0:=by omega
 have hbd:=hr k om;have hbc:=hc k om;have hst:=foldSt_mid om om;refine go ?_;refine l_op (clV (vs:=[.int .i64 k]) (lb:=lb) heg rfl rfl (hd k _ om cf) ?_);rintro _ _ oq rfl;have oq:=oq.2;have ho:=own_ext oq ho;have cf:=xt cf oq;have apy:=bz oq;refine go ?_;refine adi ?_;refine go ?_;refine l_op (k_move (v:=vv) fy ?_);refine go ?_;refine BS (λ_ p6 _ ao0=>?_);have ho:=own_ext p6 ho;have cf:=xt cf p6;have ap1:=bz p6;refine AP ho (Rw.of_own ao0) (λaon _ ao1 aoo _=>?_);have cf:=low_gr cf aoo (bz cf) (λg hgg=>by have:=(ho.lt g hgg).1;omega);have ap4:=aoo.size;refine l_op (k_assign (v:=aon) rfl ?_);refine go ?_;refine l_op (k_add (a:=(k:Int)) (b:=1) (c:=((k+1:Nat):Int)) rfl rfl uxInt1 om ?_);refine go ?_;exact lend ⟨k+1,aon,rfl,(by rw[hst];rfl),rfl,rfl,om,(by intro hk;first|omega|(rw[hst])),cf,(by rw[hst];simpa using ao1)⟩
theorem by_cl {A1:Option Addr}{n1 c1 m i lo1 B1 B2:Nat}{xs:List Nat}{w:World}(h1:Rw w lo1 A1 (ints xs))(hn1:xs.length=n1)(k1:Blk w B1 90 #[.slice A1 n1 c1])(k2:Blk w B2 3 #[.int .i64 m])(hx:∀x∈xs,x<10000)(hm:m<10000):
    CL 150 #[.int .i64 i,pT B1,pT B2] w (Ret w λv w'=>v=.int .i64 (dby xs m i)):=by
 have hb:=dby_le hx hm i;unfold dby at hb;refine f_in Tryz.func150 rfl ?_;refine go ?_;refine c_an 5 ?_;refine sf ?_;refine sf_ae (V:=.int .i64 (((xs.getD i 0:Nat):Int))) (λ_ _ hR11 _=>?_) ?_;have h1:=h1.ext hR11;refine cl en129 (at_ok h1 hn1) ?_;rintro _ _ k14 rfl;have E16:=k14.2;refine go ?_;exact fs ⟨E16,rfl⟩;refine sf ?_;refine sf_ap (λ_ _ _ _=>by refine l_op (k_mul (a:=((xs.getD i 0:Nat):Int)) (b:=(m:Int)) (c:=dby xs m i) rfl rfl (by unfold In64;omega) rfl ?_);refine go ?_;exact finp) ?_;refine sf ?_;intro _ _ hR27 _;have E29:=hR27.2;refine go ?_;exact f_ret1 (t:=4) (v:=.int .i64 (dby xs m i)) rfl E29 rfl rfl
theorem plus_ok {A1:Option Addr}{n1 c1 a1 lo1:Nat}{w:World}(h1:Num w lo1 A1 n1 c1 a1)(s1:n1<=100000){A2:Option Addr}{n2 c2 a2 lo2:Nat}(h2:Num w lo2 A2 n2 c2 a2)(s2:n2<=100000):
    CL 71 #[.slice A1 n1 c1,.slice A2 n2 c2] w (Ret w λv w'=>∃A n c,v=.slice A n c∧Num w' w.heap.size A n c (a1+a2)):=by
 refine f_in Tryz.func71 rfl ?_;refine go ?_;refine bx (λw30 k31 hb32=>?_);have E33:=k31.2;refine bx (λw34 k35 hb36=>?_);have⟨hb32,E33⟩:=be1 k35.2 hb32 E33;refine go ?_;refine l_op (k_max (a:=(n1:Int)) (b:=(n2:Int)) (m:=((max n1 n2:Nat):Int)) rfl rfl (by split <;>omega) ?_);refine l_op (k_makeFunc (vf:=[]) (vc:=[pT w.heap.size,pT w30.heap.size]) rfl rfl ?_);have hcl:∀(i:Nat) (W:World),i<=max n1 n2->Ext w34 W->CL 110 (([Value.int .i64 i]:List Value)++([pT w.heap.size,pT w30.heap.size]:List Value)).toArray W (Ret W λv _=>v=.int .i64 (dplus (toB 10000 a1) (toB 10000 a2) i)):=by(intro i W hi X;have X2:=xt E33 X;exact plus_cl (h1.row.ext X2) h1.len (h2.row.ext X2) h2.len (hb32.ext X) (hb36.ext X) (by have:=getD_lt h1.lt i;omega) (by have:=getD_lt h2.lt i;omega))
 have hfr:∀i≤max n1 n2,-1000000000000<=dplus (toB 10000 a1) (toB 10000 a2) i∧dplus (toB 10000 a1) (toB 10000 a2) i<=1000000000000:=λi _=>by(have:=getD_lt h1.lt i;have:=getD_lt h2.lt i;unfold dplus;omega)
 have hcr:=plus_carry h1.lt h2.lt;have hfc:∀k≤max n1 n2,-1000000000<=(foldSt (dplus (toB 10000 a1) (toB 10000 a2)) 0 k).1∧(foldSt (dplus (toB 10000 a1) (toB 10000 a2)) 0 k).1<=1000000000:=λk _=>by(have:=hcr k;omega)
 have hfn:0<=(foldSt (dplus (toB 10000 a1) (toB 10000 a2)) 0 (max n1 n2)).1∧(foldSt (dplus (toB 10000 a1) (toB 10000 a2)) 0 (max n1 n2)).1<10000:=by(have:=hcr (max n1 n2);omega)
 have hfd:dplus (toB 10000 a1) (toB 10000 a2) (max n1 n2)=0:=by(unfold dplus;rw[getD_ge (by rw[h1.len];omega),getD_ge (by rw[h2.len];omega)];rfl)
 refine clb en127 (hc:=fold_ok (d:=dplus (toB 10000 a1) (toB 10000 a2)) (c0:=0) (lb:=[pT w.heap.size,pT w30.heap.size]) en128 hcl om hfr hfc hfn hfd) (hk:=?_);rintro _ _ k38 ⟨k,hk1,hk2,hk3,ho⟩;have k38:=k38.2;obtain⟨Af,cf,rfl,hkc,-,-,-⟩:=own_form ho;have E33:=xt E33 k38;have zw37:=bz k38;obtain⟨hdig,hval⟩:=plus_res h1.lt h2.lt (n:=max n1 n2) (k:=k) ⟨by rw[h1.len];omega,by rw[h2.len];omega⟩ hk1 hk3;rw[h1.val,h2.val]at hval;have ho2:=ho;rw[toNats_ints hdig]at ho2;have hrow:=Rw.of_own ho2;refine clb en123 (hc:=trimmed_ok hrow (by rw[toNats_length,foldSt_len]) hkc om) (hk:=?_);rintro _ _ k44 ⟨m1,rfl,ht1,ht2⟩;have E33:=xt E33 k44.2;have hres:=num_of (c:=cf) hdig hval (hrow.ext k44.2) ht1 (by rw[toNats_length,foldSt_len];exact ht2) om;refine go ?_;exact f_ret1 (t:=4) (v:=.slice Af m1 cf) rfl E33 ⟨Af,m1,cf,rfl,hres.mono om⟩ rfl
theorem minus_ok {A1:Option Addr}{n1 c1 a1 lo1:Nat}{w:World}(h1:Num w lo1 A1 n1 c1 a1)(s1:n1<=100000){A2:Option Addr}{n2 c2 a2 lo2:Nat}(h2:Num w lo2 A2 n2 c2 a2)(s2:n2<=100000)(hle:a2<=a1)(hln:n2<=n1):
    CL 73 #[.slice A1 n1 c1,.slice A2 n2 c2] w (Ret w λv w'=>∃A n c,v=.slice A n c∧Num w' w.heap.size A n c (a1-a2)):=by
 refine f_in Tryz.func73 rfl ?_;refine go ?_;refine bx (λw46 k47 hb48=>?_);have E49:=k47.2;refine bx (λw50 k51 hb52=>?_);have⟨hb48,E49⟩:=be1 k51.2 hb48 E49;refine go ?_;refine l_op (k_makeFunc (vf:=[]) (vc:=[pT w.heap.size,pT w46.heap.size]) rfl rfl ?_);have hcl:∀(i:Nat) (W:World),i<=n1->Ext w50 W->CL 112 (([Value.int .i64 i]:List Value)++([pT w.heap.size,pT w46.heap.size]:List Value)).toArray W (Ret W λv _=>v=.int .i64 (dminus (toB 10000 a1) (toB 10000 a2) i)):=by(intro i W hi X;have X2:=xt E49 X;exact minus_cl (h1.row.ext X2) h1.len (h2.row.ext X2) h2.len (hb48.ext X) (hb52.ext X) (by have:=getD_lt h1.lt i;omega) (by have:=getD_lt h2.lt i;omega))
 have hfr:∀i≤n1,-1000000000000<=dminus (toB 10000 a1) (toB 10000 a2) i∧dminus (toB 10000 a1) (toB 10000 a2) i<=1000000000000:=λi _=>by(have:=getD_lt h1.lt i;have:=getD_lt h2.lt i;unfold dminus;omega)
 have hcr:=minus_carry h1.lt h2.lt;obtain⟨hc0,hdg,hvl⟩:=minus_res h1.lt h2.lt (n:=n1) ⟨by rw[h1.len];omega,by rw[h2.len];omega⟩ (by rw[h1.val,h2.val];exact hle);have hfc:∀k≤n1,-1000000000<=(foldSt (dminus (toB 10000 a1) (toB 10000 a2)) 0 k).1∧(foldSt (dminus (toB 10000 a1) (toB 10000 a2)) 0 k).1<=1000000000:=λk _=>by(have:=hcr k;omega)
 have hfn:0<=(foldSt (dminus (toB 10000 a1) (toB 10000 a2)) 0 n1).1∧(foldSt (dminus (toB 10000 a1) (toB 10000 a2)) 0 n1).1<10000:=by(rw[hc0];omega)
 have hfd:dminus (toB 10000 a1) (toB 10000 a2) n1=0:=by(unfold dminus;rw[getD_ge (by rw[h1.len];omega),getD_ge (by rw[h2.len];omega)];rfl)
 refine clb en127 (hc:=fold_ok (d:=dminus (toB 10000 a1) (toB 10000 a2)) (c0:=0) (lb:=[pT w.heap.size,pT w46.heap.size]) en130 hcl om hfr hfc hfn hfd) (hk:=?_);rintro _ _ k54 ⟨k,hk1,hk2,hk3,ho⟩;have k54:=k54.2;obtain⟨Af,cf,rfl,hkc,-,-,-⟩:=own_form ho;have E49:=xt E49 k54;have zw53:=bz k54;have hdig:=hdg k;have hval:=hvl k hk1 hk3;rw[h1.val,h2.val]at hval;have ho2:=ho;rw[toNats_ints hdig]at ho2;have hrow:=Rw.of_own ho2;refine clb en123 (hc:=trimmed_ok hrow (by rw[toNats_length,foldSt_len]) hkc om) (hk:=?_);rintro _ _ k60 ⟨m1,rfl,ht1,ht2⟩;have E49:=xt E49 k60.2;have hres:=num_of (c:=cf) hdig hval (hrow.ext k60.2) ht1 (by rw[toNats_length,foldSt_len];exact ht2) om;refine go ?_;exact f_ret1 (t:=4) (v:=.slice Af m1 cf) rfl E49 ⟨Af,m1,cf,rfl,hres.mono om⟩ rfl
theorem by_ok {A1:Option Addr}{n1 c1 a1 lo1:Nat}{w:World}(h1:Num w lo1 A1 n1 c1 a1)(s1:n1<=100000){m:Nat}(hm:m<10000):
    CL 106 #[.slice A1 n1 c1,.int .i64 m] w (Ret w λv w'=>∃A n c,v=.slice A n c∧Num w' w.heap.size A n c (a1*m)):=by
 refine f_in Tryz.func106 rfl ?_;refine go ?_;refine bx (λw62 k63 hb64=>?_);have E65:=k63.2;refine bx (λw66 k67 hb68=>?_);have⟨hb64,E65⟩:=be1 k67.2 hb64 E65;refine go ?_;refine l_op (k_makeFunc (vf:=[]) (vc:=[pT w.heap.size,pT w62.heap.size]) rfl rfl ?_);have hcl:∀(i:Nat) (W:World),i<=n1->Ext w66 W->CL 150 (([Value.int .i64 i]:List Value)++([pT w.heap.size,pT w62.heap.size]:List Value)).toArray W (Ret W λv _=>v=.int .i64 (dby (toB 10000 a1) m i)):=by(intro i W hi X;have X2:=xt E65 X;exact by_cl (h1.row.ext X2) h1.len (hb64.ext X) (hb68.ext X) h1.lt hm)
 have hfr:∀i≤n1,-1000000000000<=dby (toB 10000 a1) m i∧dby (toB 10000 a1) m i<=1000000000000:=λi _=>by(have:=dby_le h1.lt hm i;omega)
 have hcr:=by_carry h1.lt hm;have hfc:∀k≤n1,-1000000000<=(foldSt (dby (toB 10000 a1) m) 0 k).1∧(foldSt (dby (toB 10000 a1) m) 0 k).1<=1000000000:=λk _=>by(have:=hcr k;omega)
 have hfn:0<=(foldSt (dby (toB 10000 a1) m) 0 n1).1∧(foldSt (dby (toB 10000 a1) m) 0 n1).1<10000:=hcr n1;have hfd:dby (toB 10000 a1) m n1=0:=by(unfold dby;rw[getD_ge (by rw[h1.len];omega)];simp)
 refine clb en127 (hc:=fold_ok (d:=dby (toB 10000 a1) m) (c0:=0) (lb:=[pT w.heap.size,pT w62.heap.size]) en140 hcl om hfr hfc hfn hfd) (hk:=?_);rintro _ _ k70 ⟨k,hk1,hk2,hk3,ho⟩;have k70:=k70.2;obtain⟨Af,cf,rfl,hkc,-,-,-⟩:=own_form ho;have E65:=xt E65 k70;have zw69:=bz k70;obtain⟨hdig,hval⟩:=by_res h1.lt hm (n:=n1) (k:=k) (by rw[h1.len];omega) hk1 hk3;rw[h1.val]at hval;have ho2:=ho;rw[toNats_ints hdig]at ho2;have hrow:=Rw.of_own ho2;refine clb en123 (hc:=trimmed_ok hrow (by rw[toNats_length,foldSt_len]) hkc om) (hk:=?_);rintro _ _ k76 ⟨m1,rfl,ht1,ht2⟩;have E65:=xt E65 k76.2;have hres:=num_of (c:=cf) hdig hval (hrow.ext k76.2) ht1 (by rw[toNats_length,foldSt_len];exact ht2) om;refine go ?_;exact f_ret1 (t:=4) (v:=.slice Af m1 cf) rfl E65 ⟨Af,m1,cf,rfl,hres.mono om⟩ rfl
theorem back_step {k n:Nat}{l:List {i:Nat // i<n}}{hk:k-1<n}(h:0<k)(hl:l.map (·.1)++(List.range k).reverse=(List.range n).reverse):(l++[(⟨k-1,hk⟩:{i:Nat // i<n})]).map (·.1)++(List.range (k-1)).reverse=(List.range n).reverse:=by
  rw[<-hl]
  obtain⟨j,rfl⟩:∃j,k=j+1:=⟨k-1,by omega⟩
  simp[List.range_succ]
theorem backward_ok {A:Option Addr}{n c:Nat}{w:World}:
    CL 90 #[.slice A n c] w (Ret w λv w'=>v=.func (.func 131) #[] #[pT w.heap.size]∧Blk w' w.heap.size 90 #[.slice A n c]):=by
 refine f_in Tryz.func90 rfl ?_;refine go ?_;refine bx (λ_ k2 hb3=>?_);have E4:=k2.2;refine l_op (k_assign (v:=.nilFunc) rfl ?_);refine go ?_;refine l_op (k_makeFunc (vf:=[]) (vc:=[pT w.heap.size]) rfl rfl ?_);refine go ?_;exact f_ret1 (t:=2) (v:=.func (.func 131) #[] #[pT w.heap.size]) rfl E4 ⟨rfl,hb3⟩ rfl
theorem backward_iter {A:Option Addr}{b n c lo:Nat}{xs:List Nat}{w:World}(hb:Blk w b 90 #[.slice A n c])(hr:Rw w lo A (ints xs))(hn:xs.length=n)(hm:n<=1000000):
    IterK Tryz.prog 131 [pT b] n (λi=>[.int .i64 i,.int .i64 ((xs.getD i 0:Nat):Int)]) (List.range n).reverse (λW=>Blk W b 90 #[.slice A n c]∧Rw W lo A (ints xs)) w:=by
 intro l J Jx W hW hJ0 hJx0 hY h0;have hb:=be hW hb;have hr:=Rw.ext hW hr;clear hW hJ0 hJx0;refine iter_args ?_;refine f_inI Tryz.func131 rfl ?_;refine go ?_;refine sui ?_;refine go ?_;refine c_lp [(3,3),(7,18)] (λkk e W=>∃k:Nat,∃pre:List {i:Nat // i<n},(k=kk)∧(e 3=.int .i64 ((k:Int)-1))∧(k<=n)∧(pre.map (·.1)++(List.range k).reverse=(List.range n).reverse)∧(J pre W)∧(True)∧(Blk W b 90 #[.slice A n c])∧(Rw W lo A (ints xs))) ((n)) ⟨n,[],rfl,rfl,(Nat.le_refl _),(by simp),h0,trivial,hb,hr⟩ ?_;rintro _ _ w6 ⟨k,pre,rfl,p8,q1,q2,q3,E9,hb,hr⟩;by_cases hm:0<k;refine go ?_;obtain⟨_,o,hA,hc⟩:=hr.cells (k-1) _ (ints_getD (xs:=xs) om);refine l_op (k_indexAddr (i:=k-1) (oo:=o+(k-1)) U123 sz3 rfl hA (pf_int rfl om) om om ?_);refine l_op (k_load (v:=.int .i64 ((xs.getD (k-1) 0:Nat):Int)) U3 rfl rfl hc ?_);refine l_op (k_yield (l:=l) (vs:=[.int .i64 ((k-1:Nat):Int),.int .i64 ((xs.getD (k-1) 0:Nat):Int)]) rfl (cons_eq (pf_int rfl om) (cons_eq rfl rfl)) (hY pre ⟨k-1,by omega⟩ w6 q3 (by have hl:=congrArg List.length q2;simp at hl;omega)) ?_);rintro _ _ hcc;obtain⟨q,rfl,hj1,hj2⟩:=yield_cases hcc;show wpListIn _ _ _ _ _ _ _ _;refine go ?_;refine c_split (q:=!q) rfl (λh11=>?_) (λh11=>?_);have hq:q=false:=by simpa using h11
 refine go ?_;exact f_ret0I rfl λv=>⟨⟨v,rfl⟩,.inr ⟨_,⟨_,back_step hm q2⟩,hj2 hq⟩⟩;have hq:q=true:=by simpa using h11
 obtain⟨hJ,hK⟩:=hj1 hq;obtain⟨hb,hr⟩:=hK ⟨hb,hr⟩;refine go ?_;refine l_op (k_sub (a:=(k:Int)-1) (b:=1) (c:=((k-1:Nat):Int)-1) rfl rfl (by unfold In64;omega) om ?_);refine go ?_;exact lend ⟨k-1,pre++[⟨k-1,by omega⟩],rfl,rfl,om,(back_step hm q2),hJ,E9,hb,hr⟩;refine go ?_;exact f_end0I rfl λv=>⟨⟨v,rfl⟩,.inl ⟨pre,by rw[show k=0 by omega]at q2;simpa using q2,q3⟩⟩
end Go.Proofs.YtinldhphnpflaaaGreatDoor
theorem lt_pow_len {B:Nat}(hB:2<=B)(a:Nat):a<B^(toB B a).length:=(length_toB_le_iff B hB a _).1 (Nat.le_refl _)
theorem len_add {B:Nat}(hB:2<=B)(a b k:Nat)(ha:(toB B a).length<=k)(hb:(toB B b).length<=k):(toB B (a+b)).length<=k+1:=by
  rw[length_toB_le_iff B hB]at *
  have:B^(k+1)=B^k*B:=Nat.pow_succ ..
  have h2:B^k*2<=B^k*B:=Nat.mul_le_mul_left _ hB
  omega
theorem len_mul1 {B:Nat}(hB:2<=B)(a m k:Nat)(ha:(toB B a).length<=k)(hm:m<B):(toB B (a*m)).length<=k+1:=by
  rw[length_toB_le_iff B hB]at *
  have h1:B^(k+1)=B^k*B:=Nat.pow_succ ..
  by_cases h0:a=0
  · subst h0
    have:=Nat.pow_pos (n:=k+1) (show 0<B by omega)
    omega
  · have:a*m<a*B:=(Nat.mul_lt_mul_left (by omega)).2 hm
    have h2:a*B<=B^k*B:=Nat.mul_le_mul_right B (by omega)
    omega
theorem len_mono {B:Nat}(hB:2<=B){a b:Nat}(h:a<=b):(toB B a).length<=(toB B b).length:=by
  rw[length_toB_le_iff B hB]
  exact Nat.lt_of_le_of_lt h (lt_pow_len hB b)
theorem toB_shift {B:Nat}(hB:2<=B)(a:Nat)(h:0<a):toB B (a*B)=0::toB B a:=by
  rw[toB_pos B _ hB (Nat.mul_pos h (by omega)),Nat.mul_mod_left,Nat.mul_div_cancel _ (by omega)]
theorem toB_nil {B:Nat}(hB:2<=B){a:Nat}(h:(toB B a).length=0):a=0:=by
  rcases Nat.eq_zero_or_pos a with h0|h0
  · exact h0
  · rw[toB_pos B a hB h0]at h;simp at h
theorem toB_ne {B:Nat}(hB:2<=B){a:Nat}(h:0<(toB B a).length):0<a:=by
  rcases Nat.eq_zero_or_pos a with h0|h0
  · subst h0;simp[toB_zero]at h
  · exact h0
def tfold (a:Nat)(ys:List Nat)(pre:List Nat):Nat:=pre.foldl (λs i=>s*10000+a*ys.getD i 0) 0
theorem tfold_snoc (a:Nat)(ys pre:List Nat)(x:Nat):tfold a ys (pre++[x])=tfold a ys pre*10000+a*ys.getD x 0:=by simp[tfold]
theorem tfold_gen (a:Nat)(ys:List Nat):∀k s,k<=ys.length->(List.range k).reverse.foldl (λs i=>s*10000+a*ys.getD i 0) s=s*10000^k+a*ofB 10000 (ys.take k)
  |0,s,_=>by simp[ofB]
  | k+1,s,h=>by
    rw[List.range_succ,List.reverse_append]
    simp only[List.reverse_cons,List.reverse_nil,List.nil_append,List.cons_append,List.foldl_cons]
    rw[tfold_gen a ys k _ (by omega),List.take_succ_eq_append_getElem (by omega),ofB_append]
    have hl:(ys.take k).length=k:=by simp;omega
    have hg:ys.getD k 0=ys[k]:=by simp[show k<ys.length by omega]
    rw[hl,hg]
    simp only[ofB,Nat.mul_zero,Nat.add_zero,Nat.pow_succ]
    grind
theorem tfold_all (a:Nat)(ys:List Nat){n:Nat}(h:ys.length=n):tfold a ys (List.range n).reverse=a*ofB 10000 ys:=by
  unfold tfold
  rw[tfold_gen a ys n 0 (by omega),List.take_of_length_le (by omega)]
  simp
namespace Go.Proofs.YtinldhphnpflaaaGreatDoor
open Go Go.Eng Go.RowKit
attribute [local irreducible] wpListIn Code.wpIn Oper.wpIn Exit.then Exit.inBlock Exit.noGoto
set_option maxHeartbeats 40000000
section
variable {w w0 w':World}{lo:Nat}{A:Option Addr}{n c a:Nat}
theorem Num.cel {W W':World}{row:Option Nat}{B:Nat}(hg:W.grownBy W' row)(hr:∀r,row=some r->B<=r∧∃o:Obj,W.heap[r]?=some o∧o.isCells=false)(h:Num W lo A n c a):Num W' lo A n c a:=⟨h.row.cel hg hr,h.len,h.cap⟩
theorem Num.dfr {D:Nat}(hK:Dfr w D)(h:Num w lo A n c a):Num (w.putObj D (.deferred none)) lo A n c a:=⟨h.row.dfr hK,h.len,h.cap⟩
theorem Num.zero (w:World)(lo:Nat):Num w lo none 0 0 0:=⟨Rw.nil w lo,rfl,Nat.le_refl _⟩
theorem Num.hi (h:Num w lo A n c a):∀ad,A=some ad->ad.block<w.heap.size:=h.row.hi
theorem Num.le (h:Num w lo A n c a):(toB 10000 a).length<=n:=by rw[h.len];exact Nat.le_refl _
end
def NumPost (lo a:Nat)(v:Value)(w:World):Prop:=∃A n c,v=.slice A n c∧Num w lo A n c a
theorem NumPost.ext {lo a:Nat}{v:Value}{w w':World}(k:Ext w w')(h:NumPost lo a v w):NumPost lo a v w':=by
  obtain⟨A,n,c,e,h⟩:=h
  exact⟨A,n,c,e,h.ext k⟩
set_option maxRecDepth 100000 in
theorem times_ok {A1:Option Addr}{n1 c1 a1 lo1:Nat}{w:World}(h1:Num w lo1 A1 n1 c1 a1)(s1:n1<=10000){A2:Option Addr}{n2 c2 a2 lo2:Nat}(h2:Num w lo2 A2 n2 c2 a2)(s2:n2<=10000):
    CL 86 #[.slice A1 n1 c1,.slice A2 n2 c2] w (Ret w λv w'=>∃A n c,v=.slice A n c∧Num w' w.heap.size A n c (a1*a2)):=by
 refine f_inM Tryz.func86 rfl ?_;refine go ?_;refine bx (λw1 k2 hb3=>?_);have E4:=k2.2;refine go ?_;refine al inf123 (λw5 k6 hb7=>?_);have⟨hb3,E4⟩:=be1 k6.2 hb3 E4;refine go ?_;refine cl en122 (backward_ok (A:=A2) (n:=n2) (c:=c2)) ?_;rintro _ w9 k10 ⟨rfl,hb8⟩;have⟨hb3,hb7,E4⟩:=be2 k10.2 hb3 hb7 E4;refine go ?_;refine c_range (m:=n2) (enc:=λx=>[.int .i64 x,.int .i64 ((((toB 10000 a2).getD x 0:Nat):Int))]) (order:=(List.range n2).reverse) (Kq:=λW=>Blk W (w5.heap.size) 90 #[.slice A2 n2 c2]∧Rw W lo2 A2 (ints (toB 10000 a2))) (gf:=131) (lb:=[pT w5.heap.size]) (ps:=[10,11]) rfl en139 (backward_iter hb8 (h2.row.ext E4) h2.len om) (λW W' row hq hg hr=>⟨Blk.cel hg hr hq.1,Rw.cel hg hr hq.2⟩) (λ_=>rfl) [7] (λx=>[.int .i64 ((((toB 10000 a2).getD x 0:Nat):Int))]) ?asn (λpre W=>∃Av:Option Addr,∃nv:Nat,∃cv:Nat,(nv<=n1+2+2*pre.length)∧(w9.heap.size<=W.heap.size)∧(Ext w W)∧(Blk W (w.heap.size) 90 #[.slice (A1) (n1) (c1)])∧(Blk W (w1.heap.size) 90 #[.slice (Av) (nv) (cv)])∧(Num W w9.heap.size Av nv cv (tfold a1 (toB 10000 a2) (pre)))) (λ_ _ _=>False) ?hI ?hIx ?h0 ?body ?done ?stop;case asn=>
  intro l x W K hK;refine go ?_;exact hK
 case hI=>
  rintro pre W W' row ⟨Av,nv,cv,q1,zwl,E,hb3,hb7,hv⟩ hg hr;exact⟨Av,nv,cv,q1,Nat.le_trans zwl hg.size,low_cel (B:=w9.heap.size) om hg hr (bz E) E,Blk.cel hg hr hb3,Blk.cel hg hr hb7,Num.cel hg hr hv⟩
 case hIx=>
  exact λ_ _ _ _ _ h=>h.elim
 case h0=>
  exact⟨none,0,0,om,Nat.le_refl _,E4,hb3,hb7,Num.zero _ _⟩
 case body=>
  rintro l pre x W ⟨Av,nv,cv,q1,zwl,E,hb3,hb7,hv⟩ hpre hx hlen;have Kp:=Keeps.refl [w1.heap.size] W;have zW:=bz E;have uhv:=hv.hi;have hd:=getD_lt h2.lt x;have hbx0:=Blk.isCells hb7;by_cases hz:nv=0;have hval:=toB_nil (B:=10000) om (hv.len.trans om);refine go ?_;have hL:w.heap.size<=W.heap.size:=by omega
  refine c_an 5 ?_;refine sf ?_;refine sf_ah (λv w=>NumPost W.heap.size (a1*((toB 10000 a2).getD x 0)) v w) (hs:=λ_ _ _ k h=>h.ext k) (λ_ _ hR26 _=>?_) ?_;refine clb en124 (hc:=by_ok (h1.ext (xt E hR26)) om hd) (hk:=?_);rintro _ _ k29 ⟨Ab,nb,cb,rfl,hbn⟩;have E31:=k29.2;have hbn:=hbn.mono (lo':=W.heap.size) (by have:=bz hR26;omega);refine go ?_;exact fs ⟨E31,⟨Ab,nb,cb,rfl,hbn⟩⟩;refine sf_ah (λv w=>NumPost W.heap.size ((tfold a1 (toB 10000 a2) pre)+a1*((toB 10000 a2).getD x 0)) v w) (hs:=λ_ _ _ k h=>h.ext k) (λ_ _ hR34 hp35=>?_) ?_;obtain⟨Ab,nb,cb,p36,hbn⟩:=(hp35 3 21 rfl rfl);have lbn:nb<=n1+1:=by rw[<-hbn.len];exact len_mul1 om _ _ _ h1.le hd
  have hv:=Num.ext hR34 hv;refine clb en106 (hc:=plus_ok hv om hbn om) (hk:=?_) (hv:=cons_eq rfl (cons_eq p36 rfl));rintro _ _ k38 ⟨Ap,np,cp,rfl,hpn⟩;have E40:=k38.2;have hpn:=hpn.mono (lo':=W.heap.size) (by have:=bz hR34;omega);refine go ?_;exact fs ⟨E40,⟨Ap,np,cp,rfl,hpn⟩⟩;refine sf ?_;intro _ _ hR43 hp44;have hb3:=be hR43.2 hb3;have hb7:=be hR43.2 hb7;have E:=xt E hR43.2;have Kp:=Keeps.ext Kp hR43.2;obtain⟨Ap,np,cp,_,hpn⟩:=(hp44 4 22 rfl rfl);refine SO hb7 (λ_ k47 hb48=>?_);have hb3:=pb k47 hb3;have hpn:=Num.put k47 om hpn;have E:=plw k47 E;have Kp:=Keeps.put Kp k47 (by first|exact Or.inr om|exact Or.inl (by simp));have zw46:=psz k47;refine go ?_;have lpn:np<=n1+2+0:=by(rw[<-hpn.len];rw[hval];rw[Nat.zero_add];exact Nat.le_trans (len_mul1 om _ _ _ h1.le hd) om)
  refine go ?_;exact⟨Kp.others (by simp only[List.mem_singleton];rintro b rfl;exact hbx0),λhq=>⟨Kp.blk (by simp;omega) hq.1,Kp.rw (λad e=>by have:=h2.hi ad e;simp;omega) hq.2⟩,⟨Ap,np,cp,(by simp;omega),om,E,hb3,hb48,(by rw[tfold_snoc];rw[hval]at hpn ⊢;simpa using hpn.mono om)⟩⟩;have hpos:=toB_ne (B:=10000) om (a:=tfold a1 (toB 10000 a2) pre) (by rw[hv.len];omega);refine go ?_;refine BS (λ_ k50 _ ho52=>?_);have hb3:=be k50 hb3;have hb7:=be k50 hb7;have hv:=Num.ext k50 hv;have E:=xt E k50;have Kp:=Keeps.ext Kp k50;have zw49:=bz k50;refine go ?_;refine l_op (k_append (v:=.slice (some ⟨W.heap.size,0,none⟩) 1 1) (k:=1) U123 inf3 rfl dc rfl ho52 rfl (hv.row) (by rw[ints_length,hv.len];omega) ints_one (by simp only[maxLen];omega) om om (λ_ w53 ho55 hg56 _=>?_));have hb3:=Blk.gr hg56 (by simp[Value.ownBlock];omega) hb3;have hb7:=Blk.gr hg56 (by simp[Value.ownBlock];omega) hb7;have hv:=Num.gr hg56 (λad e=>by have:=uhv ad e;simp[Value.ownBlock];omega) hv;have Kp:=Keeps.gr Kp hg56 (λb hb=>by exact Or.inr (by simp[Value.ownBlock]at hb;omega));have E:=low_gr E hg56 (bz E) (λg hgg=>by have:=(ho52.lt g hgg).1;omega);have zw53:=hg56.size;obtain⟨Aw,cw,rfl,hkc,hbw,-,-⟩:=own_form ho55;have hs:=Rw.of_own ho55;have hnew:Num w53 W.heap.size Aw (1+nv) cw (tfold a1 (toB 10000 a2) pre*10000):=by(have e:=toB_shift (B:=10000) om _ hpos;exact⟨by rw[e];exact hs,by rw[e,List.length_cons,hv.len];omega,hkc⟩)
  have uhnew:=hnew.hi;refine SO hb7 (λw58 k59 hb60=>?_);have hb3:=pb k59 hb3;have hnew:=Num.put k59 om hnew;have E:=plw k59 E;have Kp:=Keeps.put Kp k59 (by first|exact Or.inr om|exact Or.inl (by simp));have zw58:=psz k59;refine go ?_;have hL:w.heap.size<=w58.heap.size:=by omega
  refine c_an 5 ?_;refine sf ?_;refine sf_ah (λv w=>NumPost w58.heap.size (a1*((toB 10000 a2).getD x 0)) v w) (hs:=λ_ _ _ k h=>h.ext k) (λ_ _ hR75 _=>?_) ?_;refine clb en124 (hc:=by_ok (h1.ext (xt E hR75)) om hd) (hk:=?_);rintro _ _ k78 ⟨Ab,nb,cb,rfl,hbn⟩;have E80:=k78.2;have hbn:=hbn.mono (lo':=w58.heap.size) (by have:=bz hR75;omega);refine go ?_;exact fs ⟨E80,⟨Ab,nb,cb,rfl,hbn⟩⟩;refine sf_ah (λv w=>NumPost w58.heap.size ((tfold a1 (toB 10000 a2) pre*10000)+a1*((toB 10000 a2).getD x 0)) v w) (hs:=λ_ _ _ k h=>h.ext k) (λ_ _ hR83 hp84=>?_) ?_;obtain⟨Ab,nb,cb,p85,hbn⟩:=(hp84 3 21 rfl rfl);have lbn:nb<=n1+1:=by rw[<-hbn.len];exact len_mul1 om _ _ _ h1.le hd
  have hnew:=Num.ext hR83 hnew;refine clb en106 (hc:=plus_ok hnew om hbn om) (hk:=?_) (hv:=cons_eq rfl (cons_eq p85 rfl));rintro _ _ k87 ⟨Ap,np,cp,rfl,hpn⟩;have E89:=k87.2;have hpn:=hpn.mono (lo':=w58.heap.size) (by have:=bz hR83;omega);refine go ?_;exact fs ⟨E89,⟨Ap,np,cp,rfl,hpn⟩⟩;refine sf ?_;intro _ _ hR92 hp93;have hb3:=be hR92.2 hb3;have hb60:=be hR92.2 hb60;have hnew:=Num.ext hR92.2 hnew;have E:=xt E hR92.2;have Kp:=Keeps.ext Kp hR92.2;obtain⟨Ap,np,cp,_,hpn⟩:=(hp93 4 22 rfl rfl);refine SO hb60 (λ_ k96 hb97=>?_);have hb3:=pb k96 hb3;have hnew:=Num.put k96 om hnew;have hpn:=Num.put k96 om hpn;have E:=plw k96 E;have Kp:=Keeps.put Kp k96 (by first|exact Or.inr om|exact Or.inl (by simp));have zw95:=psz k96;refine go ?_;have lpn:np<=n1+3+2*pre.length+1+0:=by(rw[<-hpn.len];exact Nat.le_trans (len_add om _ _ (n1+3+2*pre.length) (by rw[hnew.len];omega) (Nat.le_trans (len_mul1 om _ _ _ h1.le hd) om)) om)
  refine go ?_;exact⟨Kp.others (by simp only[List.mem_singleton];rintro b rfl;exact hbx0),λhq=>⟨Kp.blk (by simp;omega) hq.1,Kp.rw (λad e=>by have:=h2.hi ad e;simp;omega) hq.2⟩,⟨Ap,np,cp,(by simp;omega),om,E,hb3,hb97,(by rw[tfold_snoc];exact hpn.mono om)⟩⟩
 case stop=>
  exact λ_ _ _ _ _ _ h _=>h.elim
 case done=>
  rintro D W hD ⟨Av,nv,cv,q1,zwl,E,hb3,hb7,hv⟩ hK;have zW:=bz E;refine go ?_;have hfin:=hv.dfr hK;rw[tfold_all _ _ h2.len,h2.val]at hfin;exact f_retM1 (t:=4) (v:=.slice Av nv cv) hK rfl E om ⟨Av,nv,cv,rfl,hfin.mono om⟩ rfl
end Go.Proofs.YtinldhphnpflaaaGreatDoor
def cmpI (x y:Int):Int:=if x<y then -1 else if x=y then 0 else 1
theorem cmpI_lt {x y:Int}(h:x<y):cmpI x y=-1:=by simp[cmpI,h]
theorem cmpI_gt {x y:Int}(h:y<x):cmpI x y=1:=by
  unfold cmpI;rw[if_neg (by omega),if_neg (by omega)]
theorem cmpI_eq {x y:Int}(h:x=y):cmpI x y=0:=by
  unfold cmpI;rw[if_neg (by omega),if_pos h]
theorem cmpI_congr {x y u v:Int}(h1:x<y↔u<v)(h2:x=y↔u=v):cmpI x y=cmpI u v:=by
  unfold cmpI;simp only[h1,h2]
theorem cmp_len {a b:Nat}(h:(toB 10000 a).length≠(toB 10000 b).length):cmpI (((toB 10000 a).length:Nat):Int) (((toB 10000 b).length:Nat):Int)=cmpI (a:Int) (b:Int):=by
  have h1:=@len_mono 10000 (by omega) a b
  have h2:=@len_mono 10000 (by omega) b a
  refine cmpI_congr ⟨λk=>?_,λk=>?_⟩ ⟨λk=>?_,λk=>?_⟩
  · omega
  · omega
  · omega
  · have:a=b:=by omega
    subst this;rfl
theorem rev_range_get {n j:Nat}(h:j<n):(List.range n).reverse[j]?=some (n-1-j):=by
  rw[List.getElem?_reverse (by simpa using h),List.length_range,List.getElem?_range (by omega)]
theorem pre_at {p:List Nat}{x n:Nat}(h:p++[x] <+: (List.range n).reverse):x<n∧x=n-1-p.length∧p.length<n∧∀i,x<i->i<n->i∈p:=by
  have hl:p.length<n:=by have:=h.length_le;simp at this;omega
  have hx:(List.range n).reverse[p.length]?=some x:=by
    obtain⟨t,ht⟩:=h
    rw[<-ht];simp
  rw[rev_range_get hl]at hx
  have hx:n-1-p.length=x:=by simpa using hx
  refine⟨by omega,by omega,hl,λi _ _=>?_⟩
  have hj:n-1-i<p.length:=by omega
  have:(List.range n).reverse[n-1-i]?=p[n-1-i]?:=by
    obtain⟨t,ht⟩:=h
    rw[<-ht,List.append_assoc,List.getElem?_append_left hj]
  rw[rev_range_get (by omega)]at this
  have h3:n-1-(n-1-i)=i:=by omega
  rw[h3]at this
  exact List.mem_of_getElem? this.symm
theorem ofB_split (xs:List Nat){x:Nat}(h:x<xs.length):ofB 10000 xs=ofB 10000 (xs.take x)+10000^x*(xs.getD x 0+10000*ofB 10000 (xs.drop (x+1))):=by
  have h1:xs=xs.take x++(xs.getD x 0::xs.drop (x+1)):=by
    have:xs.getD x 0=xs[x]:=by simp[h]
    rw[this,List.getElem_cons_drop,List.take_append_drop]
  conv=>lhs;rw[h1]
  rw[ofB_append]
  have hl:(xs.take x).length=x:=by simp;omega
  rw[hl];rfl
theorem cmp_at {xs ys p:List Nat}{x n:Nat}(hx:∀d∈xs,d<10000)(hy:∀d∈ys,d<10000)(hn:xs.length=n)(hm:ys.length=n)(hp:p++[x] <+: (List.range n).reverse)(he:∀i∈p,xs.getD i 0=ys.getD i 0)(hne:xs.getD x 0≠ys.getD x 0):
    cmpI ((xs.getD x 0:Nat):Int) ((ys.getD x 0:Nat):Int)=cmpI ((ofB 10000 xs:Nat):Int) ((ofB 10000 ys:Nat):Int):=by
  obtain⟨h1,-,-,h2⟩:=pre_at hp
  have hd:xs.drop (x+1)=ys.drop (x+1):=by
    apply List.ext_getElem
    · simp[hn,hm]
    · intro i h3 _
      have h3':x+1+i<xs.length:=by simp at h3;omega
      have h4':x+1+i<ys.length:=by omega
      have:=he _ (h2 (x+1+i) (by omega) (by omega))
      simpa[h3',h4']using this
  rw[ofB_split xs (x:=x) (by omega),ofB_split ys (x:=x) (by omega),hd]
  have ht1:=ofB_lt 10000 (xs.take x) (λd hd=>hx d (List.mem_of_mem_take hd))
  have ht2:=ofB_lt 10000 (ys.take x) (λd hd=>hy d (List.mem_of_mem_take hd))
  have hl1:(xs.take x).length=x:=by simp;omega
  have hl2:(ys.take x).length=x:=by simp;omega
  rw[hl1]at ht1;rw[hl2]at ht2
  generalize ofB 10000 (xs.take x)=s at *
  generalize ofB 10000 (ys.take x)=t at *
  generalize ofB 10000 (ys.drop (x+1))=u at *
  generalize xs.getD x 0=a at *
  generalize ys.getD x 0=b at *
  generalize 10000^x=B at *
  have key:∀s t a b:Nat,s<B->t<B->a<b->s+B*(a+10000*u)<t+B*(b+10000*u):=by
    intro s t a b _ _ _
    have:B*(a+10000*u)+B<=B*(b+10000*u):=by
      rw[<-Nat.mul_succ];exact Nat.mul_le_mul_left _ (by omega)
    omega
  rcases Nat.lt_or_gt_of_ne hne with h|h
  · rw[cmpI_lt (by omega),cmpI_lt (by have:=key s t a b ht1 ht2 h;omega)]
  · rw[cmpI_gt (by omega),cmpI_gt (by have:=key t s b a ht2 ht1 h;omega)]
theorem cmp_all {a b n:Nat}(hn:(toB 10000 a).length=n)(hm:(toB 10000 b).length=n)(he:∀i∈(List.range n).reverse,(toB 10000 a).getD i 0=(toB 10000 b).getD i 0):a=b:=by
  have:toB 10000 a=toB 10000 b:=by
    apply List.ext_getElem
    · omega
    · intro i h1 h2
      have:=he i (by simp;omega)
      simpa[h1,h2]using this
  have h3:=congrArg (ofB 10000) this
  rwa [ofB_toB 10000 (by omega),ofB_toB 10000 (by omega)]at h3
namespace Go.Proofs.YtinldhphnpflaaaGreatDoor
set_option maxRecDepth 100000
open Go Go.Eng Go.RowKit
attribute [local irreducible] wpListIn Code.wpIn Oper.wpIn Exit.then Exit.inBlock Exit.noGoto
set_option maxHeartbeats 40000000
theorem cmp_ok (x y:Int)(w:World):CL 99 #[.int .i64 (x),.int .i64 (y)] w (Ret w λv _=>v=.int .i64 (cmpI x y)):=by
  by_cases h:x<y
  · rw[cmpI_lt h];exact cmp_lt x y h w
  · by_cases h2:x=y
    · rw[cmpI_eq h2];exact cmp_eq x y h2 w
    · rw[cmpI_gt om];exact cmp_gt x y om w
theorem compare_ok {A1:Option Addr}{n1 c1 a1 lo1:Nat}{w:World}(h1:Num w lo1 A1 n1 c1 a1)(s1:n1<=100000){A2:Option Addr}{n2 c2 a2 lo2:Nat}(h2:Num w lo2 A2 n2 c2 a2):
    CL 66 #[.slice A1 n1 c1,.slice A2 n2 c2] w (Ret w λv w'=>v=.int .i64 (cmpI (a1:Int) (a2:Int))):=by
 by_cases hlen:n1=n2;refine f_inM Tryz.func66 rfl ?_;refine go ?_;refine bx (λw1 k2 hb3=>?_);have E4:=k2.2;refine al inf3 (λw5 k6 hb7=>?_);have⟨hb3,E4⟩:=be1 k6.2 hb3 E4;refine go ?_;refine cl en122 (backward_ok (A:=A1) (n:=n1) (c:=c1)) ?_;rintro _ w9 k10 ⟨rfl,hb8⟩;have⟨hb3,hb7,E4⟩:=be2 k10.2 hb3 hb7 E4;refine go ?_;refine c_range (m:=n1) (enc:=λx=>[.int .i64 x,.int .i64 ((((toB 10000 a1).getD x 0:Nat):Int))]) (order:=(List.range n1).reverse) (Kq:=λW=>Blk W (w5.heap.size) 90 #[.slice A1 n1 c1]∧Rw W lo1 A1 (ints (toB 10000 a1))) (gf:=131) (lb:=[pT w5.heap.size]) (ps:=[19,20]) rfl en139 (backward_iter hb8 (h1.row.ext E4) h1.len om) (λW W' row hq hg hr=>⟨Blk.cel hg hr hq.1,Rw.cel hg hr hq.2⟩) (λ_=>rfl) [5,6] (λx=>[.int .i64 x,.int .i64 ((((toB 10000 a1).getD x 0:Nat):Int))]) ?asn (λpre W=>(∀i∈pre,(toB 10000 a1).getD i 0=(toB 10000 a2).getD i 0)∧(w9.heap.size<=W.heap.size)∧(Ext w W)∧(Blk W (w.heap.size) 90 #[.slice (A2) (n2) (c2)])∧(Blk W (w1.heap.size) 3 #[.int .i64 (0)])) (λc pre W=>c=.ret∧∃p x,pre=p++[x]∧(∀i∈p,(toB 10000 a1).getD i 0=(toB 10000 a2).getD i 0)∧(toB 10000 a1).getD x 0≠(toB 10000 a2).getD x 0∧(w9.heap.size<=W.heap.size)∧(Ext w W)∧(Blk W (w1.heap.size) 3 #[.int .i64 (cmpI (((toB 10000 a1).getD x 0:Nat):Int) (((toB 10000 a2).getD x 0:Nat):Int))])) ?hI ?hIx ?h0 ?body ?done ?stop;case asn=>
  intro l x W K hK;refine go ?_;exact hK
 case hI=>
  rintro pre W W' row ⟨q1,zwl,E,hb3,hb7⟩ hg hr;exact⟨q1,Nat.le_trans zwl hg.size,low_cel (B:=w9.heap.size) om hg hr (bz E) E,Blk.cel hg hr hb3,Blk.cel hg hr hb7⟩
 case hIx=>
  rintro c pre W W' row ⟨rfl,p,x,rfl,q1,q2,zwl,E,hb7⟩ hg hr;exact⟨rfl,p,x,rfl,q1,q2,Nat.le_trans zwl hg.size,low_cel (B:=w9.heap.size) om hg hr (bz E) E,Blk.cel hg hr hb7⟩
 case h0=>
  exact⟨(by simp),Nat.le_refl _,E4,hb3,hb7⟩
 case body=>
  rintro l pre x W ⟨q1,zwl,E,hb3,hb7⟩ hpre hx hlen;have Kp:=Keeps.refl [w1.heap.size] W;have zW:=bz E;have hbx0:=Blk.isCells hb7;obtain⟨_,o,hA,hc⟩:=(h2.row.ext E).cells x _ (ints_getD (xs:=(toB 10000 a2)) (by rw[h2.len];omega));by_cases hne:(((toB 10000 a1).getD x 0:Nat):Int)=(((toB 10000 a2).getD x 0:Nat):Int);refine go ?_;refine l_op (k_indexAddr (i:=x) (oo:=o+x) U123 sz3 rfl hA rfl om om ?_);refine l_op (k_load (v:=.int .i64 (((toB 10000 a2).getD x 0:Nat):Int)) U3 rfl rfl hc ?_);refine go ?_;exact⟨Kp.others (by simp only[List.mem_singleton];rintro b rfl;exact hbx0),λhq=>⟨Kp.blk (by simp;omega) hq.1,Kp.rw (λad e=>by have:=h1.hi ad e;simp;omega) hq.2⟩,⟨(λi hi=>by rcases List.mem_append.1 hi with h|h;exact q1 i h;rw[List.mem_singleton.1 h];omega),om,E,hb3,hb7⟩⟩;refine go ?_;refine l_op (k_indexAddr (i:=x) (oo:=o+x) U123 sz3 rfl hA rfl om om ?_);refine l_op (k_load (v:=.int .i64 (((toB 10000 a2).getD x 0:Nat):Int)) U3 rfl rfl hc ?_);refine go ?_;refine l_op (k_indexAddr (i:=x) (oo:=o+x) U123 sz3 rfl hA rfl om om ?_);refine l_op (k_load (v:=.int .i64 (((toB 10000 a2).getD x 0:Nat):Int)) U3 rfl rfl hc ?_);refine cl en135 (cmp_ok _ _ _) ?_;rintro _ _ k13 rfl;have hb3:=be k13.2 hb3;have hb7:=be k13.2 hb7;have E:=xt E k13.2
  have Kp:=Keeps.ext Kp k13.2;refine SO hb7 (λ_ k16 hb17=>?_);have hb3:=pb k16 hb3;have E:=plw k16 E;have Kp:=Keeps.put Kp k16 (by first|exact Or.inr om|exact Or.inl (by simp));have zw15:=psz k16;refine go ?_;exact⟨Kp.others (by simp only[List.mem_singleton];rintro b rfl;exact hbx0),rfl,pre,x,rfl,q1,om,om,E,hb17⟩
 case stop=>
  rintro D c pre W hD hsp ⟨rfl,p,x,rfl,q1,q2,zwl,E,hb7⟩ hK;have zW:=bz E;have hfin:=cmp_at h1.lt h2.lt h1.len (h2.len.trans om) hsp q1 q2;rw[h1.val,h2.val]at hfin;refine go ?_;exact f_outM (v:=.int .i64 (cmpI (((toB 10000 a1).getD x 0:Nat):Int) (((toB 10000 a2).getD x 0:Nat):Int))) hK (res1 rfl (res_cell U3 rfl rfl (Blk.cell (hb7.dfr hK) rfl))) ((put_dfr _).low E om) (by rw[hfin])
 case done=>
  rintro D W hD ⟨q1,zwl,E,hb3,hb7⟩ hK;have zW:=bz E;refine go ?_;refine SO hb7 (λ_ k19 hb20=>?_);have hb3:=pb k19 hb3;have hK:=Dfr.put k19 (hK.ne hb7) hK;have E:=plw k19 E;have zw18:=psz k19;refine go ?_;exact f_outM (v:=.int .i64 0) hK (res1 rfl (res_cell U3 rfl rfl (Blk.cell (hb20.dfr hK) rfl))) ((put_dfr _).low E om) (by rw[cmpI_eq (by have:=cmp_all h1.len (h2.len.trans om) q1;omega)])
 refine f_inM Tryz.func66 rfl ?_;refine go ?_;refine bx (λ_ k22 hb23=>?_);have E24:=k22.2;refine al inf3 (λ_ k26 hb27=>?_);have⟨hb23,E24⟩:=be1 k26.2 hb23 E24;refine go ?_;refine cl en135 (cmp_ok _ _ _) ?_;rintro _ _ k29 rfl;have⟨hb23,hb27,E24⟩:=be2 k29.2 hb23 hb27 E24;refine SO hb27 (λ_ k32 hb33=>?_);have⟨hb23,E24,_⟩:=pl1 k32 hb23 E24;refine go ?_;exact f_outM0 (v:=.int .i64 (cmpI (n1:Int) (n2:Int))) (res1 rfl (res_cell U3 rfl rfl (Blk.cell hb33 rfl))) E24 (by have:=cmp_len (a:=a1) (b:=a2) (by rw[h1.len,h2.len];omega);rw[h1.len,h2.len]at this;rw[this])
set_option maxRecDepth 100000 in
theorem search_ok {g m:Nat}{lb:List Value}{pb:Nat->Bool}{w:World}(heg:Enters Tryz.prog g)(hm0:m<=1000000)(hd:∀(i:Nat) (W:World),i<m->Ext w W->CL g ([Value.int .i64 i]++lb).toArray W (Ret W λv _=>v=.bool (pb i)))(hmon:∀i j,i<=j->j<m->pb i=true->pb j=true):
    CL 108 #[.int .i64 m,.func (.func g) #[] lb.toArray] w (Ret w λv w'=>∃k:Nat,v=.int .i64 k∧k<=m∧(∀i<k,pb i=false)∧(k<m->pb k=true)):=by
 refine f_in Tryz.func108 rfl ?_;refine go ?_;have E1:=Ext.refl w;refine c_lp [(5,7),(9,24)] (λkk e W=>∃i:Nat,∃j:Nat,(j-i=kk)∧(e 5=.int .i64 i)∧(e 6=.int .i64 j)∧(i<=j)∧(j<=m)∧(∀k<i,pb k=false)∧(j<m->pb j=true)∧(Ext w W)) ((m)-0) ⟨0,m,rfl,rfl,rfl,(Nat.zero_le _),(Nat.le_refl _),om,om,E1⟩ ?_;rintro _ _ _ ⟨i,j,rfl,p5,p6,q1,q2,q3,q4,E7⟩;have zw3:=bz E7;by_cases hm:i<j;refine go ?_;refine l_op (k_add (a:=(i:Int)) (b:=(j:Int)) (c:=((i+j:Nat):Int)) rfl rfl (by unfold In64;omega) om ?_);refine l_op (k_convert (k:=.i64) (k':=.u64) (a:=((i+j:Nat):Int)) (c:=((i+j:Nat):Int)) U3 U112 rfl (wrap_u64 om) ?_);refine l_op (k_shr (k:=.u64) (a:=((i+j:Nat):Int)) (b:=1) (c:=(((i+j)/2:Nat):Int)) rfl rfl dc (by show((i+j:Nat):Int)/2=_;omega) ?_);refine l_op (k_convert (k:=.u64) (k':=.i64) (a:=(((i+j)/2:Nat):Int)) (c:=(((i+j)/2:Nat):Int)) U112 U3 rfl (wrap_i64 om) ?_);refine go ?_;refine l_op (clV (vs:=[.int .i64 (((i+j)/2:Nat):Int)]) (lb:=lb) heg rfl rfl (hd ((i+j)/2) _ om E7) ?_);rintro _ _ k9 rfl;have k9:=k9.2;have E7:=xt E7 k9;have zw8:=bz k9;refine go ?_;refine c_split (q:=!(pb ((i+j)/2))) rfl (λh11=>?_) (λh11=>?_);have hp:pb ((i+j)/2)=false:=by simpa using h11
 refine go ?_;refine l_op (k_add (a:=(((i+j)/2:Nat):Int)) (b:=1) (c:=(((i+j)/2+1:Nat):Int)) rfl rfl (by unfold In64;omega) om ?_);refine go ?_;exact lend ⟨(i+j)/2+1,j,rfl,rfl,p6,om,q2,(λk _=>by cases hb:pb k with|false=>rfl|true=>(have:=hmon k ((i+j)/2) om om hb;rw[hp]at this;cases this)),q4,E7⟩;have hp:pb ((i+j)/2)=true:=by simpa using h11
 refine go ?_;exact lend ⟨i,(i+j)/2,rfl,p5,rfl,om,om,q3,(λ_=>hp),E7⟩;refine go ?_;exact f_ret1 (t:=4) (v:=.int .i64 i) rfl E7 ⟨i,rfl,by omega,q3,by rw[show j=i by omega]at q4;exact q4⟩ rfl
set_option maxRecDepth 100000 in
theorem over_cl {A1 A2:Option Addr}{n1 c1 a1 n2 c2 a2 i lo1 lo2 B1 B2:Nat}{w:World}(h1:Num w lo1 A1 n1 c1 a1)(s1:n1<=10000)(h2:Num w lo2 A2 n2 c2 a2)(k1:Blk w B1 140 #[.func (.func 106) #[.slice A1 n1 c1] #[]])(k2:Blk w B2 90 #[.slice A2 n2 c2])(hi:i<9999):
    CL 107 #[.int .i64 i,pT B1,pT B2] w (Ret w λv w'=>v=.bool (decide (0<cmpI ((a1*(i+1):Nat):Int) (a2:Int)))):=by
 obtain⟨L,_⟩:∃L,L=w.heap.size:=⟨_,rfl⟩;refine f_in Tryz.func107 rfl ?_;refine go ?_;refine c_an 7 ?_;refine sf ?_;refine sf_ap (λ_ _ _ _=>by refine l_op (k_add (a:=(i:Int)) (b:=1) (c:=((i+1:Nat):Int)) rfl rfl (by unfold In64;omega) om ?_);refine go ?_;exact finp) ?_
 refine sf_ah (λv w=>NumPost L (a1*(i+1)) v w) (hs:=λ_ _ _ k h=>h.ext k) (λ_ _ hR15 _=>?_) ?_;have h1:=h1.ext hR15;refine l_op (k_callB (vs:=[.int .i64 ((i+1:Nat):Int)]) (la:=[.slice A1 n1 c1]) en124 rfl rfl (by_ok h1 om om) ?_);rintro _ _ k18 ⟨Ab,nb,cb,rfl,hbn⟩;have E20:=k18;have zw17:=bz k18;have hbn:=hbn.mono (lo':=L) (by have:=bz hR15;omega);refine go ?_;exact fs ⟨E20,⟨Ab,nb,cb,rfl,hbn⟩⟩;refine sf ?_;refine sf_ae (V:=.int .i64 (cmpI ((a1*(i+1):Nat):Int) (a2:Int))) (λ_ _ hR27 hp28=>?_) ?_;obtain⟨Ab,nb,cb,p29,hbn⟩:=(hp28 3 8 rfl rfl);have lbn:nb<=n1+1:=by rw[<-hbn.len];exact len_mul1 om _ _ _ h1.le om
 have h2:=h2.ext hR27;refine clb en110 (hc:=compare_ok hbn om h2) (hk:=?_) (hv:=cons_eq p29 (cons_eq rfl rfl));rintro _ _ k31 rfl;have E33:=k31.2;refine go ?_;exact fs ⟨E33,rfl⟩;refine sf ?_;intro _ _ hR40 _;have E42:=hR40.2;refine go ?_;exact f_ret1 (t:=4) (v:=.bool (decide (0<(cmpI ((a1*(i+1):Nat):Int) (a2:Int))))) rfl E42 rfl rfl
end Go.Proofs.YtinldhphnpflaaaGreatDoor
def ostep (m:Nat)(xs:List Nat)(s:List Nat×Nat)(i:Nat):List Nat×Nat:=(s.1.set i ((s.2*10000+xs.getD i 0)/m),(s.2*10000+xs.getD i 0)%m)
def ofold (m:Nat)(xs:List Nat)(n:Nat)(pre:List Nat):List Nat×Nat:=pre.foldl (ostep m xs) (List.replicate n 0,0)
theorem ofold_snoc (m:Nat)(xs:List Nat)(n:Nat)(pre:List Nat)(i:Nat):ofold m xs n (pre++[i])=ostep m xs (ofold m xs n pre) i:=by simp[ofold]
theorem ofold_len (m:Nat)(xs:List Nat)(n:Nat)(pre:List Nat):(ofold m xs n pre).1.length=n:=by
  unfold ofold
  have:∀(pre:List Nat) (s:List Nat×Nat),(pre.foldl (ostep m xs) s).1.length=s.1.length:=by
    intro pre
    induction pre with
    |nil=>intro s;rfl
    |cons i pre ih=>intro s;rw[List.foldl_cons,ih];simp[ostep]
  rw[this];simp
theorem ofold_lt (m:Nat)(xs:List Nat)(n:Nat)(hm:0<m):∀pre:List Nat,(ofold m xs n pre).2<m:=by
  intro pre
  unfold ofold
  have:∀(pre:List Nat) (s:List Nat×Nat),s.2<m->(pre.foldl (ostep m xs) s).2<m:=by
    intro pre
    induction pre with
    |nil=>intro s h;exact h
    |cons i pre ih=>intro s _;rw[List.foldl_cons];exact ih _ (Nat.mod_lt _ hm)
  exact this pre _ hm
theorem quot_lt {m r d:Nat}(hr:r<m)(hd:d<10000):(r*10000+d)/m<10000:=by
  rw[Nat.div_lt_iff_lt_mul (by omega)]
  have:(r+1)*10000<=m*10000:=Nat.mul_le_mul_right _ hr
  omega
theorem over_gen (m:Nat)(xs:List Nat)(hm:0<m)(hx:∀x∈xs,x<10000):∀(k:Nat) (q:List Nat) (r:Nat),k<=xs.length->q.length=xs.length->r<m->
    let s:=(List.range k).reverse.foldl (ostep m xs) (q,r)
    s.1.length=q.length∧s.1.drop k=q.drop k∧m*ofB 10000 (s.1.take k)+s.2=r*10000^k+ofB 10000 (xs.take k)∧s.2<m∧∀d∈s.1.take k,d<10000
  |0,q,r,_,_,hr=>by simp[ofB,hr]
  | k +1,q,r,hk,hq,hr=>by
    simp only
    rw[List.range_succ,List.reverse_append]
    simp only[List.reverse_cons,List.reverse_nil,List.nil_append,List.cons_append,List.foldl_cons]
    have hd:=getD_lt hx k
    have h1:=quot_lt hr hd
    obtain⟨i1,i2,i3,i4,i5⟩:=over_gen m xs hm hx k (ostep m xs (q,r) k).1 (ostep m xs (q,r) k).2 (by omega) (by simp[ostep,hq]) (Nat.mod_lt _ hm)
    generalize hs:List.foldl (ostep m xs) (ostep m xs (q,r) k) (List.range k).reverse=s at *
    have hl:(ostep m xs (q,r) k).1.length=q.length:=by simp[ostep]
    have hsk:k<s.1.length:=by omega
    have hqk:s.1[k]=(r*10000+xs.getD k 0)/m:=by
      have h3:s.1.drop k=s.1[k]::s.1.drop (k+1):=by rw[List.getElem_cons_drop]
      have h4:(ostep m xs (q,r) k).1.drop k=(ostep m xs (q,r) k).1[k]'(by omega)::(ostep m xs (q,r) k).1.drop (k+1):=by rw[List.getElem_cons_drop]
      rw[h3,h4]at i2
      have:=(List.cons.inj i2).1
      rw[this];simp[ostep]
    have htk:s.1.take (k+1)=s.1.take k++[s.1[k]]:=List.take_succ_eq_append_getElem hsk
    have hxk:xs.take (k+1)=xs.take k++[xs.getD k 0]:=by
      rw[List.take_succ_eq_append_getElem (by omega)];simp[show k<xs.length by omega]
    refine⟨by omega,?_,?_,i4,?_⟩
    · have h3:s.1.drop (k+1)=(s.1.drop k).drop 1:=by rw[List.drop_drop]
      rw[h3,i2,List.drop_drop]
      exact List.drop_set_of_lt (by omega)
    · rw[htk,hxk,ofB_append,ofB_append,hqk]
      have hl1:(s.1.take k).length=k:=by simp;omega
      have hl2:(xs.take k).length=k:=by simp;omega
      rw[hl1,hl2]
      simp only[ofB,Nat.mul_zero,Nat.add_zero,Nat.pow_succ]
      have hdm:=Nat.div_add_mod (r*10000+xs.getD k 0) m
      have hi3:m*ofB 10000 (s.1.take k)+s.2=(r*10000+xs.getD k 0)%m*10000^k+ofB 10000 (xs.take k):=i3
      generalize (r*10000+xs.getD k 0)/m=u at *
      generalize (r*10000+xs.getD k 0)%m=v at *
      generalize xs.getD k 0=y at *
      grind
    · rw[htk]
      intro d hd2
      rcases List.mem_append.1 hd2 with h|h
      · exact i5 d h
      · rw[List.mem_singleton.1 h,hqk];exact h1
theorem over_all {m a n:Nat}(hm:0<m)(hn:(toB 10000 a).length=n):
    (∀d∈(ofold m (toB 10000 a) n (List.range n).reverse).1,d<10000)∧ofB 10000 (ofold m (toB 10000 a) n (List.range n).reverse).1=a/m∧(ofold m (toB 10000 a) n (List.range n).reverse).2=a%m:=by
  obtain⟨h1,-,h3,h4,h5⟩:=over_gen m (toB 10000 a) hm (toB_lt 10000 (by omega) a) n (List.replicate n 0) 0 (by omega) (by simp[hn]) hm
  change ((ofold m (toB 10000 a) n (List.range n).reverse).1.length=_)at h1
  change (m*ofB 10000 ((ofold m (toB 10000 a) n (List.range n).reverse).1.take n)+(ofold m (toB 10000 a) n (List.range n).reverse).2=_)at h3
  change ((ofold m (toB 10000 a) n (List.range n).reverse).2<m)at h4
  change (∀d∈(ofold m (toB 10000 a) n (List.range n).reverse).1.take n,d<10000)at h5
  rw[List.length_replicate]at h1
  rw[List.take_of_length_le (by omega)]at h3 h5
  rw[List.take_of_length_le (by omega),ofB_toB 10000 (by omega),Nat.zero_mul,Nat.zero_add]at h3
  generalize (ofold m (toB 10000 a) n (List.range n).reverse)=z at *
  refine⟨h5,?_,?_⟩
  · rw[<-h3,Nat.mul_add_div hm,Nat.div_eq_of_lt h4];omega
  · rw[<-h3,Nat.mul_add_mod,Nat.mod_eq_of_lt h4]
namespace Go.Proofs.YtinldhphnpflaaaGreatDoor
open Go Go.Eng Go.RowKit
attribute [local irreducible] wpListIn Code.wpIn Oper.wpIn Exit.then Exit.inBlock Exit.noGoto
set_option maxHeartbeats 40000000
theorem krInt8 {p:Prop}(h:p:=by kernel_rfl):p:=h
theorem made_ints (m:Nat):(madeCells #[Value.int .i64 0] (m*1)).toList=ints (List.replicate m 0):=by
  simp[madeCells,ints,Nat.mod_one,List.eq_replicate_iff]
theorem ints_set (qs:List Nat)(x k:Nat):(ints qs).toArray.setIfInBounds x (.int .i64 k)=(ints (qs.set x k)).toArray:=by
  simp[ints,List.map_set]
theorem digit_of {m r k:Nat}(hm:0<m)(hr:r<m*10000)(hk:k<=9999)(h1:∀i<k,decide (0<cmpI ((m*(i+1):Nat):Int) (r:Int))=false)(h2:k<9999->decide (0<cmpI ((m*(k+1):Nat):Int) (r:Int))=true):k=r/m:=by
  have e:∀i,decide (0<cmpI ((m*(i+1):Nat):Int) (r:Int))=decide (r<m*(i+1)):=λi=>by
    rcases Nat.lt_trichotomy (m*(i+1)) r with h|h|h
    · rw[cmpI_lt om];simp;omega
    · rw[cmpI_eq om];simp;omega
    · rw[cmpI_gt om];simp;omega
  symm
  have hlo:m*k<=r:=by
    rcases Nat.eq_zero_or_pos k with h0|h0
    · subst h0;simp
    · have:=h1 (k-1) om
      rw[e,show k-1+1=k by omega]at this
      simpa using this
  have hhi:r<m*(k+1):=by
    by_cases hk9:k<9999
    · have:=h2 hk9
      rw[e]at this
      simpa using this
    · rw[show k+1=10000 by omega];exact hr
  rw[Nat.div_eq_iff om]
  rw[Nat.mul_add]at hhi
  rw[Nat.mul_comm k m]
  omega
theorem fits_mono {m r:Nat}(i j:Nat)(hij:i<=j)(h:decide (0<cmpI ((m*(i+1):Nat):Int) (r:Int))=true):decide (0<cmpI ((m*(j+1):Nat):Int) (r:Int))=true:=by
  have h3:m*(i+1)<=m*(j+1):=Nat.mul_le_mul_left _ om
  simp only[decide_eq_true_eq]at *
  rcases Nat.lt_trichotomy (m*(i+1)) r with h1|h1|h1
  · rw[cmpI_lt om]at h;omega
  · rw[cmpI_eq om]at h;omega
  · rw[cmpI_gt om];omega
theorem groups_cons (r d:Nat)(hd:d<10000):trimL (d::toB 10000 r)=toB 10000 (r*10000+d):=by
  rw[trimL_eq 10000 om (d::toB 10000 r) (λx hx=>by
    rcases List.mem_cons.1 hx with rfl|hx
    · exact hd
    · exact toB_lt 10000 om r x hx)]
  simp only[ofB,ofB_toB 10000 (show 2<=10000 by omega)]
  congr 1;omega
theorem Rw.putU {w w':World}{lo b:Nat}{A:Option Addr}{cs:List Value}(k:Put w w' b)(hne:∀ad,A=some ad->ad.block≠b)(h:Rw w lo A cs):Rw w' lo A cs:=by
  refine⟨λj u hu=>?_,h.lo,λad e=>by rw[k.size];exact h.hi ad e⟩
  obtain⟨c,o,e,hc⟩:=h.cells j u hu
  exact⟨c,o,e,(k.cell (a:=⟨c,o+j,none⟩) (show c≠b from hne _ e)).trans hc⟩
theorem Num.putU {w w':World}{lo b n c a:Nat}{A:Option Addr}(k:Put w w' b)(hne:∀ad,A=some ad->ad.block≠b)(h:Num w lo A n c a):Num w' lo A n c a:=⟨Rw.putU k hne h.row,h.len,h.cap⟩
theorem num_q {w:World}{lo m c v:Nat}{A:Option Addr}{qs:List Nat}(hr:Rw w lo A (ints qs))(hd:∀d∈qs,d<10000)(hv:ofB 10000 qs=v)(ht:trimL qs=qs.take m)(hm:m<=qs.length)(hc:m<=c):Num w lo A m c v:=by
  have h1:toB 10000 v=qs.take m:=by rw[<-ht,<-hv];exact(trimL_eq 10000 om qs hd).symm
  refine⟨?_,?_,hc⟩
  · rw[h1]
    have:=hr.take m
    simpa[ints,List.map_take]using this
  · rw[h1];simp;omega
set_option maxRecDepth 100000 in
theorem over_ok {A1:Option Addr}{n1 c1 a1 lo1:Nat}{w:World}(h1:Num w lo1 A1 n1 c1 a1)(s1:n1<=9000){A2:Option Addr}{n2 c2 a2 lo2:Nat}(h2:Num w lo2 A2 n2 c2 a2)(s2:n2<=9000)(h0:0<a2):
    CL 70 #[.slice A1 n1 c1,.slice A2 n2 c2] w (Ret w λv w'=>∃A n c B m d,v=.tuple #[.slice A n c,.slice B m d]∧Num w' w.heap.size A n c (a1/a2)∧Num w' w.heap.size B m d (a1%a2)):=by
 refine f_inM Tryz.func70 rfl ?_;refine go ?_;refine bx (λw1 k2 hb3=>?_);have E4:=k2.2;refine al inf123 (λw5 k6 hb7=>?_);have⟨hb3,E4⟩:=be1 k6.2 hb3 E4;refine al inf123 (λw8 k9 hb10=>?_);have⟨hb3,hb7,E4⟩:=be2 k9.2 hb3 hb7 E4;refine go ?_;refine l_op (k_make (m:=n1) U123 inf3 rfl rfl om (by simp only[maxLen];omega) (λ_ k12 _ hmo=>?_));have⟨hb3,hb7,hb10,E4⟩:=be3 k12 hb3 hb7 hb10 E4;have zw11:=bz k12;have hq:=own_blk hmo;rw[show(Value.int IntKind.i64 0).cells=#[Value.int .i64 0]from rfl,made_ints]at hq;clear hmo;refine SO hb7 (λw13 k14 hb15=>?_);have⟨hb3,hb10,hq,E4,_⟩:=pl3 k14 hb3 hb10 hq E4;refine go ?_;refine cl en122 (backward_ok (A:=A1) (n:=n1) (c:=c1)) ?_;rintro _ w17 k18 ⟨rfl,hb16⟩;have⟨hb3,hb15,hb10,hq,E4⟩:=be4 k18.2 hb3 hb15 hb10 hq E4;refine go ?_
 refine c_range (m:=n1) (enc:=λx=>[.int .i64 x,.int .i64 ((((toB 10000 a1).getD x 0:Nat):Int))]) (order:=(List.range n1).reverse) (Kq:=λW=>Blk W (w13.heap.size) 90 #[.slice A1 n1 c1]∧Rw W lo1 A1 (ints (toB 10000 a1))) (gf:=131) (lb:=[pT w13.heap.size]) (ps:=[15,16]) rfl en139 (backward_iter hb16 (h1.row.ext E4) h1.len om) (λW W' row hq hg hr=>⟨Blk.cel hg hr hq.1,Rw.cel hg hr hq.2⟩) (λ_=>rfl) [6,7] (λx=>[.int .i64 x,.int .i64 ((((toB 10000 a1).getD x 0:Nat):Int))]) ?asn (λpre W=>∃Ar:Option Addr,∃nr:Nat,∃cr:Nat,(w17.heap.size<=W.heap.size)∧(Ext w W)∧(Blk W (w.heap.size) 90 #[.slice (A2) (n2) (c2)])∧(Blk W (w1.heap.size) 90 #[.slice (some ⟨w8.heap.size,0,none⟩) (n1) (n1)])∧(Blk W (w5.heap.size) 90 #[.slice (Ar) (nr) (cr)])∧(Blk W (w8.heap.size) 3 (ints (ofold a2 (toB 10000 a1) n1 (pre)).1).toArray)∧(Num W w17.heap.size Ar nr cr ((ofold a2 (toB 10000 a1) n1 (pre)).2))) (λ_ _ _=>False) ?hI ?hIx ?h0 ?body ?done ?stop;case asn=>
  intro l x W K hK;refine go ?_;exact hK
 case hI=>
  rintro pre W W' row ⟨Ar,nr,cr,zwl,E,hb3,hb15,hb10,hq,hv⟩ hg hr;exact⟨Ar,nr,cr,Nat.le_trans zwl hg.size,low_cel (B:=w17.heap.size) om hg hr (bz E) E,Blk.cel hg hr hb3,Blk.cel hg hr hb15,Blk.cel hg hr hb10,Blk.cel hg hr hq,Num.cel hg hr hv⟩
 case hIx=>
  exact λ_ _ _ _ _ h=>h.elim
 case h0=>
  exact⟨none,0,0,Nat.le_refl _,E4,hb3,hb15,hb10,hq,Num.zero _ _⟩
 case body=>
  rintro l pre x W ⟨Ar,nr,cr,zwl,E,hb3,hb15,hb10,hq,hv⟩ hpre hx hlen;have Kp:=Keeps.refl [w5.heap.size,w8.heap.size] W;have zW:=bz E;have uhv:=hv.hi;have hd:=getD_lt h1.lt x;have hrl:=ofold_lt a2 (toB 10000 a1) n1 h0 pre;have hql:=ofold_len a2 (toB 10000 a1) n1 pre;have hnr:nr<=n2:=by rw[<-hv.len,<-h2.len];exact len_mono om om
  have hbx0:=Blk.isCells hb10;have hbx1:=Blk.isCells hq;have hrr:((ofold a2 (toB 10000 a1) n1 pre).2*10000+((toB 10000 a1).getD x 0))<a2*10000:=by have:((ofold a2 (toB 10000 a1) n1 pre).2+1)*10000<=a2*10000:=Nat.mul_le_mul_right _ hrl;omega
  refine go ?_;refine BS (λ_ k21 _ ho23=>?_);have hb3:=be k21 hb3;have hb15:=be k21 hb15;have hb10:=be k21 hb10;have hq:=be k21 hq;have hv:=Num.ext k21 hv;have E:=xt E k21;have Kp:=Keeps.ext Kp k21;have zw20:=bz k21;refine go ?_;refine l_op (k_append (v:=.slice (some ⟨W.heap.size,0,none⟩) 1 1) (k:=1) U123 inf3 rfl dc rfl ho23 rfl (hv.row) (by rw[ints_length,hv.len];omega) ints_one (by simp only[maxLen];omega) om om (λ_ w24 ho26 hg27 _=>?_));have hb3:=Blk.gr hg27 (by simp[Value.ownBlock];omega) hb3;have hb15:=Blk.gr hg27 (by simp[Value.ownBlock];omega) hb15;have hb10:=Blk.gr hg27 (by simp[Value.ownBlock];omega) hb10;have hq:=Blk.gr hg27 (by simp[Value.ownBlock];omega) hq;have hv:=Num.gr hg27 (λad e=>by have:=uhv ad e;simp[Value.ownBlock];omega) hv;have Kp:=Keeps.gr Kp hg27 (λb hb=>by exact Or.inr (by simp[Value.ownBlock]at hb;omega));have E:=low_gr E hg27 (bz E) (λg hgg=>by have:=(ho23.lt g hgg).1;omega);have zw24:=hg27.size;obtain⟨Aw,cw,rfl,hkc,hbw,-,-⟩:=own_form ho26;have hs:Rw w24 W.heap.size Aw (ints (((toB 10000 a1).getD x 0)::toB 10000 ((ofold a2 (toB 10000 a1) n1 pre).2))):=Rw.of_own ho26;refine clb en123 (hc:=trimmed_ok hs (by rw[List.length_cons,hv.len];omega) hkc om) (hk:=?_);rintro _ w29 k30 ⟨m1,rfl,ht1,ht2⟩;have hb3:=be k30.2 hb3;have hb15:=be k30.2 hb15
  have hb10:=be k30.2 hb10;have hq:=be k30.2 hq;have hv:=Num.ext k30.2 hv;have E:=xt E k30.2;have Kp:=Keeps.ext Kp k30.2;rw[groups_cons _ _ hd]at ht1;have hnew:Num w29 W.heap.size Aw m1 cw ((ofold a2 (toB 10000 a1) n1 pre).2*10000+((toB 10000 a1).getD x 0)):=by
   refine⟨?_,?_,by omega⟩
   rw[ht1];have:=(hs.ext k30.2).take m1;simpa[ints,List.map_take]using this;rw[ht1,List.length_take,List.length_cons,hv.len];omega
  have uhnew:=hnew.hi;have lnew:m1<=n2+1:=by rw[<-hnew.len,length_toB_le_iff 10000 om];have:=lt_pow_len (B:=10000) om a2;rw[h2.len]at this;rw[Nat.pow_succ];omega
  refine SO hb10 (λw32 k33 hb34=>?_);have hb3:=pb k33 hb3;have hb15:=pb k33 hb15;have hq:=pb k33 hq;have hnew:=Num.put k33 om hnew;have E:=plw k33 E;have Kp:=Keeps.put Kp k33 (by first|exact Or.inr om|exact Or.inl (by simp));have zw32:=psz k33;refine go ?_;refine l_op (k_makeFunc (vf:=[.slice A2 n2 c2]) (vc:=[]) rfl rfl ?_);refine al inf150 (λ_ k36 hb37=>?_);have hb3:=be k36.2 hb3;have hb15:=be k36.2 hb15;have hb34:=be k36.2 hb34;have hq:=be k36.2 hq;have hnew:=Num.ext k36.2 hnew;have E:=xt E k36.2;have Kp:=Keeps.ext Kp k36.2;refine SO hb37 (λ_ k39 hb40=>?_);have hb3:=pb k39 hb3;have hb15:=pb k39 hb15;have hb34:=pb k39 hb34;have hq:=pb k39 hq;have hnew:=Num.putU k39 (λad e=>by have:=uhnew ad e;omega) hnew;have E:=plw k39 E;have Kp:=Keeps.put Kp k39 (by first|exact Or.inr om|exact Or.inl (by simp));have zw38:=psz k39;refine go ?_;refine l_op (k_makeFunc (vf:=[]) (vc:=[pT w32.heap.size,pT w5.heap.size]) rfl rfl ?_);refine go ?_;refine c_an 5 ?_;refine sf ?_;refine sf_ae (V:=.int .i64 (((((ofold a2 (toB 10000 a1) n1 pre).2*10000+((toB 10000 a1).getD x 0))/a2:Nat):Int))) (λ_ w54 hR55 _=>?_) ?_;have hb34:=be hR55 hb34
  have hnew:=Num.ext hR55 hnew;have hb40:=be hR55 hb40;have hcl:∀(i:Nat) (V:World),i<9999->Ext w54 V->CL 107 (([Value.int .i64 i]:List Value)++([pT w32.heap.size,pT w5.heap.size]:List Value)).toArray V (Ret V λv _=>v=.bool (decide (0<cmpI ((a2*(i+1):Nat):Int) ((((ofold a2 (toB 10000 a1) n1 pre).2*10000+((toB 10000 a1).getD x 0)):Nat):Int)))):=by(intro i V hi Y;exact over_cl (h2.ext (xt (xt E hR55) Y)) om (hnew.ext Y) (hb40.ext Y) (hb34.ext Y) hi)
  refine clb en126 (hc:=search_ok (m:=9999) (lb:=[pT w32.heap.size,pT w5.heap.size]) en125 om hcl (λi j hij _ h=>fits_mono i j hij h)) (hk:=?_);rintro _ _ k58 ⟨kd,rfl,hk1,hk2,hk3⟩;have k58:=k58.2;obtain rfl:=digit_of h0 hrr hk1 hk2 hk3;have E60:=k58;have zw57:=bz k58;refine go ?_;exact fs ⟨E60,rfl⟩;refine sf_ap (λ_ _ _ _=>by refine l_op (k_indexAddr (A:=some ⟨w8.heap.size,0,none⟩) (bk:=w8.heap.size) (o:=0) (m:=n1) (c:=n1) (i:=x) (oo:=x) U123 sz3 rfl rfl rfl hx om ?_);refine go ?_;exact finp) ?_;refine sf ?_;intro _ _ hR67 _;have hb3:=be hR67.2 hb3;have hb15:=be hR67.2 hb15;have hb34:=be hR67.2 hb34;have hq:=be hR67.2 hq;have hnew:=Num.ext hR67.2 hnew;have hb40:=be hR67.2 hb40;have E:=xt E hR67.2;have Kp:=Keeps.ext Kp hR67.2;refine l_op (k_store (b:=w8.heap.size) (o:=x) (v:=.int .i64 (((((ofold a2 (toB 10000 a1) n1 pre).2*10000+((toB 10000 a1).getD x 0))/a2:Nat):Int))) sz3 rfl rfl rfl hq (by simp[ints,hql];omega) (λw69 k70 hq2=>?_));have hb3:=pb k70 hb3;have hb15:=pb k70 hb15;have hb34:=pb k70 hb34;have hnew:=Num.put k70 om hnew;have hb40:=pb k70 hb40;have E:=plw k70 E;have Kp:=Keeps.put Kp k70 (by first|exact Or.inr om|exact Or.inl (by simp));have zw69:=psz k70
  have hq:=hq2;rw[ints_set]at hq;refine go ?_;obtain⟨L,_⟩:∃L,L=w69.heap.size:=⟨_,rfl⟩;refine c_an 8 ?_;refine sf ?_;refine sf_ap (λ_ _ _ _=>by refine l_op (k_indexAddr (A:=some ⟨w8.heap.size,0,none⟩) (bk:=w8.heap.size) (o:=0) (m:=n1) (c:=n1) (i:=x) (oo:=x) U123 sz3 rfl rfl rfl hx om ?_);refine go ?_;exact finp) ?_;refine sf_ap (λ_ _ hR93 _=>by have hq:=be hR93 hq;refine l_op (k_load (v:=.int .i64 ((((ofold a2 (toB 10000 a1) n1 pre).2*10000+((toB 10000 a1).getD x 0))/a2:Nat):Int)) U3 rfl rfl (Blk.cell hq (by simp[ints,hql,hx])) ?_);refine go ?_;exact finp) ?_
  refine sf_ah (λv w=>NumPost L (a2*(((ofold a2 (toB 10000 a1) n1 pre).2*10000+((toB 10000 a1).getD x 0))/a2)) v w) (hs:=λ_ _ _ k h=>h.ext k) (λ_ _ hR97 _=>?_) ?_;refine l_op (k_callB (vs:=[.int .i64 ((((ofold a2 (toB 10000 a1) n1 pre).2*10000+((toB 10000 a1).getD x 0))/a2:Nat):Int)]) (la:=[.slice A2 n2 c2]) en124 rfl rfl (by_ok (h2.ext (xt E hR97)) om (quot_lt hrl hd)) ?_);rintro _ _ kx ⟨Ab,nb,cb,rfl,hbn⟩;have aoy:=kx;have zw99:=bz kx;have hbn:=hbn.mono (lo':=L) (by have:=bz hR97;omega);refine go ?_;exact fs ⟨aoy,⟨Ab,nb,cb,rfl,hbn⟩⟩;refine sf_ah (λv w=>NumPost L (((ofold a2 (toB 10000 a1) n1 pre).2*10000+((toB 10000 a1).getD x 0))-a2*(((ofold a2 (toB 10000 a1) n1 pre).2*10000+((toB 10000 a1).getD x 0))/a2)) v w) (hs:=λ_ _ _ k h=>h.ext k) (λ_ _ ns aoz=>?_) ?_;obtain⟨Ab,nb,cb,ao0,hbn⟩:=(aoz 6 36 rfl rfl);have hle:a2*(((ofold a2 (toB 10000 a1) n1 pre).2*10000+((toB 10000 a1).getD x 0))/a2)<=((ofold a2 (toB 10000 a1) n1 pre).2*10000+((toB 10000 a1).getD x 0)):=Nat.mul_div_le _ _;have lbn:nb<=m1:=by rw[<-hbn.len,<-hnew.len];exact len_mono om hle
  have hnew:=Num.ext ns hnew;refine clb en108 (hc:=minus_ok hnew om hbn om hle lbn) (hk:=?_) (hv:=cons_eq rfl (cons_eq ao0 rfl));rintro _ _ r8 ⟨Am,nm,cm,rfl,hmn⟩;have ao1:=r8.2;have hmn:=hmn.mono (lo':=L) (by have:=bz ns;omega);refine go ?_;exact fs ⟨ao1,⟨Am,nm,cm,rfl,hmn⟩⟩;refine sf ?_;intro _ _ ly ao2;have hb3:=be ly.2 hb3;have hb15:=be ly.2 hb15;have hb34:=be ly.2 hb34;have hq:=be ly.2 hq;have hb40:=be ly.2 hb40;have E:=xt E ly.2;have Kp:=Keeps.ext Kp ly.2;obtain⟨Am,nm,cm,_,hmn⟩:=(ao2 7 37 rfl rfl);rw[show((ofold a2 (toB 10000 a1) n1 pre).2*10000+((toB 10000 a1).getD x 0))-a2*(((ofold a2 (toB 10000 a1) n1 pre).2*10000+((toB 10000 a1).getD x 0))/a2)=((ofold a2 (toB 10000 a1) n1 pre).2*10000+((toB 10000 a1).getD x 0))%a2 by have:=Nat.div_add_mod ((ofold a2 (toB 10000 a1) n1 pre).2*10000+((toB 10000 a1).getD x 0)) a2;omega]at hmn
  refine SO hb34 (λ_ fx ao4=>?_);have hb3:=pb fx hb3;have hb15:=pb fx hb15;have hq:=pb fx hq;have hb40:=pb fx hb40;have hmn:=Num.put fx om hmn;have E:=plw fx E;have Kp:=Keeps.put Kp fx (by first|exact Or.inr om|exact Or.inl (by simp));have aph:=psz fx;refine go ?_;exact⟨Kp.others (by simp only[List.mem_cons,List.not_mem_nil,or_false];rintro b (rfl|rfl);exact hbx0;exact hbx1),λhq=>⟨Kp.blk (by simp;omega) hq.1,Kp.rw (λad e=>by have:=h1.hi ad e;simp;omega) hq.2⟩,⟨Am,nm,cm,om,E,hb3,hb15,ao4,(by rw[ofold_snoc];exact hq),(by rw[ofold_snoc];exact hmn.mono om)⟩⟩
 case stop=>
  exact λ_ _ _ _ _ _ h _=>h.elim
 case done=>
  rintro D W hD ⟨Ar,nr,cr,zwl,E,hb3,hb15,hb10,hq,hv⟩ hK;have zW:=bz E;refine go ?_;obtain⟨od,oq,orr⟩:=over_all h0 h1.len;rw[orr]at hv;have oql:=ofold_len a2 (toB 10000 a1) n1 (List.range n1).reverse;generalize hqs:(ofold a2 (toB 10000 a1) n1 ((List.range n1).reverse)).1=qs at *;refine a_start hmix ?_;have fy:=Ext.drew W;generalize hgw:World.drew W=api at fy ⊢;clear hgw;have hb3:=be fy hb3;have hb15:=be fy hb15;have hb10:=be fy hb10;have hq:=be fy hq;have hv:=Num.ext fy hv;have hK:=Dfr.ext fy hK;have E:=xt E fy;have apj:=bz fy;refine a_step (i:=0) (is:=[2]) krInt8 ⟨?_,?_,trivial⟩;refine a_op rfl ?_;refine(k_load (v:=.slice (some ⟨w8.heap.size,0,none⟩) n1 n1) (b:=w1.heap.size) (o:=0) U123 rfl rfl (Blk.cell hb15 rfl) ?_);refine a_step (i:=1) (is:=[2]) krInt8 ⟨?_,?_,trivial⟩;refine a_op rfl ?_;refine(k_callz (vs:=[.slice (some ⟨w8.heap.size,0,none⟩) n1 n1]) en123 rfl (trimmed_ok (Rw.of_blk hq (Nat.le_refl _)) oql (Nat.le_refl _) om) ?_);rintro _ _ sc ⟨mq,rfl,ht1,ht2⟩;have hb3:=be sc.2 hb3;have hb15:=be sc.2 hb15;have hb10:=be sc.2 hb10;have hq:=be sc.2 hq;have hv:=Num.ext sc.2 hv;have hK:=Dfr.ext sc.2 hK;have E:=xt E sc.2;refine a_step (i:=2) (is:=[3]) krInt8 ⟨?_,?_,trivial⟩;refine a_op rfl ?_;refine(k_load (v:=.slice Ar nr cr) (b:=w5.heap.size) (o:=0) U123 rfl rfl (Blk.cell hb10 rfl) ?_)
  refine a_step (i:=3) (is:=[]) krInt8 ⟨?_,trivial⟩;refine a_op rfl ?_;refine(k_store (b:=w1.heap.size) (o:=0) (v:=.slice (some ⟨w8.heap.size,0,none⟩) mq n1) sz123 rfl rfl rfl hb15 (Nat.le_of_ble_eq_true rfl) (λ_ wz aou=>?_));have hb3:=pb wz hb3;have hb10:=pb wz hb10;have hq:=pb wz hq;have hv:=Num.put wz om hv;have hK:=Dfr.put wz (hK.ne hb15) hK;have E:=plw wz E;have apn:=psz wz;refine a_step (i:=4) (is:=[]) krInt8 ⟨?_,trivial⟩;refine a_op rfl ?_;refine(k_store (b:=w5.heap.size) (o:=0) (v:=.slice Ar nr cr) sz123 rfl rfl rfl hb10 (Nat.le_of_ble_eq_true rfl) (λ_ aol ao5=>?_));have hb3:=pb aol hb3;have aou:=pb aol aou;have hq:=pb aol hq;have hv:=Num.put aol om hv;have hK:=Dfr.put aol (hK.ne hb10) hK;have E:=plw aol E;have apq:=psz aol;refine a_end krInt8 ?_;refine go ?_;have hvf:=hv.dfr hK;have hqf:=Blk.dfr hK hq;refine f_outM (v:=.tuple #[.slice (some ⟨w8.heap.size,0,none⟩) mq n1,.slice Ar nr cr]) hK (res2 (r1:=.cell 4 90) (r2:=.cell 5 90) rfl ?_ ?_) ((put_dfr _).low E om) ⟨_,_,_,_,_,_,rfl,num_q (Rw.of_blk hqf om) od oq ht1 om ht2,hvf.mono om⟩;refine res_cell (b:=w1.heap.size) (o:=0) U123 rfl ?_ ?_
  exact rfl;exact Blk.cell (aou.dfr hK) rfl;refine res_cell (b:=w5.heap.size) (o:=0) U123 rfl ?_ ?_;exact rfl;exact Blk.cell (ao5.dfr hK) rfl;refine a_op rfl ?_;refine(k_store (b:=w1.heap.size) (o:=0) (v:=.slice (some ⟨w8.heap.size,0,none⟩) mq n1) sz123 rfl rfl rfl hb15 (Nat.le_of_ble_eq_true rfl) (λ_ aom aov=>?_));have hb3:=pb aom hb3;have hb10:=pb aom hb10;have hq:=pb aom hq;have hv:=Num.put aom om hv;have hK:=Dfr.put aom (hK.ne hb15) hK;have E:=plw aom E;have aps:=psz aom;refine a_step (i:=2) (is:=[]) krInt8 ⟨?_,trivial⟩;refine a_op rfl ?_;refine(k_load (v:=.slice Ar nr cr) (b:=w5.heap.size) (o:=0) U123 rfl rfl (Blk.cell hb10 rfl) ?_);refine a_step (i:=4) (is:=[]) krInt8 ⟨?_,trivial⟩;refine a_op rfl ?_;refine(k_store (b:=w5.heap.size) (o:=0) (v:=.slice Ar nr cr) sz123 rfl rfl rfl hb10 (Nat.le_of_ble_eq_true rfl) (λ_ aon ao6=>?_));have hb3:=pb aon hb3;have aov:=pb aon aov;have hq:=pb aon hq;have hv:=Num.put aon om hv;have hK:=Dfr.put aon (hK.ne hb10) hK;have E:=plw aon E;have apu:=psz aon;refine a_end krInt8 ?_;refine go ?_;have hvf:=hv.dfr hK;have hqf:=Blk.dfr hK hq;refine f_outM (v:=.tuple #[.slice (some ⟨w8.heap.size,0,none⟩) mq n1,.slice Ar nr cr]) hK (res2 (r1:=.cell 4 90) (r2:=.cell 5 90) rfl ?_ ?_) ((put_dfr _).low E om) ⟨_,_,_,_,_,_,rfl,num_q (Rw.of_blk hqf om) od oq ht1 om ht2,hvf.mono om⟩
  refine res_cell (b:=w1.heap.size) (o:=0) U123 rfl ?_ ?_;exact rfl;exact Blk.cell (aov.dfr hK) rfl;refine res_cell (b:=w5.heap.size) (o:=0) U123 rfl ?_ ?_;exact rfl;exact Blk.cell (ao6.dfr hK) rfl;refine a_op rfl ?_;refine(k_load (v:=.slice Ar nr cr) (b:=w5.heap.size) (o:=0) U123 rfl rfl (Blk.cell hb10 rfl) ?_);refine a_step (i:=1) (is:=[]) krInt8 ⟨?_,trivial⟩;refine a_op rfl ?_;refine(k_callz (vs:=[.slice (some ⟨w8.heap.size,0,none⟩) n1 n1]) en123 rfl (trimmed_ok (Rw.of_blk hq (Nat.le_refl _)) oql (Nat.le_refl _) om) ?_);rintro _ _ aoo ⟨mq,rfl,ht1,ht2⟩;have hb3:=be aoo.2 hb3;have hb15:=be aoo.2 hb15;have hb10:=be aoo.2 hb10;have hq:=be aoo.2 hq;have hv:=Num.ext aoo.2 hv;have hK:=Dfr.ext aoo.2 hK;have E:=xt E aoo.2;refine a_step (i:=3) (is:=[]) krInt8 ⟨?_,trivial⟩;refine a_op rfl ?_;refine(k_store (b:=w1.heap.size) (o:=0) (v:=.slice (some ⟨w8.heap.size,0,none⟩) mq n1) sz123 rfl rfl rfl hb15 (Nat.le_of_ble_eq_true rfl) (λ_ aop aow=>?_));have hb3:=pb aop hb3;have hb10:=pb aop hb10;have hq:=pb aop hq;have hv:=Num.put aop om hv;have hK:=Dfr.put aop (hK.ne hb15) hK;have E:=plw aop E;have apy:=psz aop;refine a_step (i:=4) (is:=[]) krInt8 ⟨?_,trivial⟩;refine a_op rfl ?_;refine(k_store (b:=w5.heap.size) (o:=0) (v:=.slice Ar nr cr) sz123 rfl rfl rfl hb10 (Nat.le_of_ble_eq_true rfl) (λ_ aoq ao7=>?_))
  have hb3:=pb aoq hb3;have aow:=pb aoq aow;have hq:=pb aoq hq;have hv:=Num.put aoq om hv;have hK:=Dfr.put aoq (hK.ne hb10) hK;have E:=plw aoq E;have ap0:=psz aoq;refine a_end krInt8 ?_;refine go ?_;have hvf:=hv.dfr hK;have hqf:=Blk.dfr hK hq;refine f_outM (v:=.tuple #[.slice (some ⟨w8.heap.size,0,none⟩) mq n1,.slice Ar nr cr]) hK (res2 (r1:=.cell 4 90) (r2:=.cell 5 90) rfl ?_ ?_) ((put_dfr _).low E om) ⟨_,_,_,_,_,_,rfl,num_q (Rw.of_blk hqf om) od oq ht1 om ht2,hvf.mono om⟩;refine res_cell (b:=w1.heap.size) (o:=0) U123 rfl ?_ ?_;exact rfl;exact Blk.cell (aow.dfr hK) rfl;refine res_cell (b:=w5.heap.size) (o:=0) U123 rfl ?_ ?_;exact rfl;exact Blk.cell (ao7.dfr hK) rfl;refine a_op rfl ?_;refine(k_load (v:=.slice Ar nr cr) (b:=w5.heap.size) (o:=0) U123 rfl rfl (Blk.cell hb10 rfl) ?_);refine a_step (i:=0) (is:=[]) krInt8 ⟨?_,trivial⟩;refine a_op rfl ?_;refine(k_load (v:=.slice (some ⟨w8.heap.size,0,none⟩) n1 n1) (b:=w1.heap.size) (o:=0) U123 rfl rfl (Blk.cell hb15 rfl) ?_);refine a_step (i:=1) (is:=[]) krInt8 ⟨?_,trivial⟩;refine a_op rfl ?_;refine(k_callz (vs:=[.slice (some ⟨w8.heap.size,0,none⟩) n1 n1]) en123 rfl (trimmed_ok (Rw.of_blk hq (Nat.le_refl _)) oql (Nat.le_refl _) om) ?_);rintro _ _ aor ⟨mq,rfl,ht1,ht2⟩
  have hb3:=be aor.2 hb3;have hb15:=be aor.2 hb15;have hb10:=be aor.2 hb10;have hq:=be aor.2 hq;have hv:=Num.ext aor.2 hv;have hK:=Dfr.ext aor.2 hK;have E:=xt E aor.2;refine a_step (i:=3) (is:=[]) krInt8 ⟨?_,trivial⟩;refine a_op rfl ?_;refine(k_store (b:=w1.heap.size) (o:=0) (v:=.slice (some ⟨w8.heap.size,0,none⟩) mq n1) sz123 rfl rfl rfl hb15 (Nat.le_of_ble_eq_true rfl) (λ_ aos aox=>?_));have hb3:=pb aos hb3;have hb10:=pb aos hb10;have hq:=pb aos hq;have hv:=Num.put aos om hv;have hK:=Dfr.put aos (hK.ne hb15) hK;have E:=plw aos E;have ap4:=psz aos;refine a_step (i:=4) (is:=[]) krInt8 ⟨?_,trivial⟩;refine a_op rfl ?_;refine(k_store (b:=w5.heap.size) (o:=0) (v:=.slice Ar nr cr) sz123 rfl rfl rfl hb10 (Nat.le_of_ble_eq_true rfl) (λ_ aot ao8=>?_));have hb3:=pb aot hb3;have aox:=pb aot aox;have hq:=pb aot hq;have hv:=Num.put aot om hv;have hK:=Dfr.put aot (hK.ne hb10) hK;have E:=plw aot E;have ap6:=psz aot;refine a_end krInt8 ?_;refine go ?_;have hvf:=hv.dfr hK;have hqf:=Blk.dfr hK hq;refine f_outM (v:=.tuple #[.slice (some ⟨w8.heap.size,0,none⟩) mq n1,.slice Ar nr cr]) hK (res2 (r1:=.cell 4 90) (r2:=.cell 5 90) rfl ?_ ?_) ((put_dfr _).low E om) ⟨_,_,_,_,_,_,rfl,num_q (Rw.of_blk hqf om) od oq ht1 om ht2,hvf.mono om⟩
  refine res_cell (b:=w1.heap.size) (o:=0) U123 rfl ?_ ?_;exact rfl;exact Blk.cell (aox.dfr hK) rfl;refine res_cell (b:=w5.heap.size) (o:=0) U123 rfl ?_ ?_;exact rfl;exact Blk.cell (ao8.dfr hK) rfl
end Go.Proofs.YtinldhphnpflaaaGreatDoor
namespace Go.Eng
def isDig (c:UInt8):Bool:=decide (48<=c.toNat)&&decide (c.toNat<=57)
def body:List UInt8->List UInt8
  |45::t=>t
  |l=>l
def neg:List UInt8->Bool
  |45::_=>true
  |_=>false
def digs (l:List UInt8):List Nat:=l.reverse.map λc=>c.toNat-48
def valN (l:List UInt8):Nat:=ofB 10 (digs l)
def isNum (d:List UInt8):Bool:=!d.isEmpty&&decide (d.length<=200)&&d.all isDig&&(decide (d=[48])||decide (d.head?≠some 48))
def isInt (l:List UInt8):Bool:=isNum (body l)&& !(neg l&&decide (body l=[48]))
def valZ (l:List UInt8):Int:=if neg l then -(valN (body l):Int)else(valN (body l):Int)
def showD (l:List Nat):List UInt8:=l.reverse.map λd=>UInt8.ofNat (48+d)
def showN (n:Nat):List UInt8:=if n=0 then[48]else showD (toB 10 n)
def showI (n:Int):List UInt8:=if n<0 then 45::showN n.natAbs else showN n.natAbs
def fits (n:Int):Bool:=decide (n.natAbs<10^200)
theorem dig_lt {c:UInt8}(h:isDig c=true):c.toNat-48<10:=by simp[isDig]at h;omega
theorem digs_lt {l:List UInt8}(h:l.all isDig=true):∀d∈digs l,d<10:=by
  intro d hd
  simp only[digs,List.mem_map,List.mem_reverse]at hd
  obtain⟨c,hc,rfl⟩:=hd
  exact dig_lt (List.all_eq_true.1 h c hc)
theorem byte_of {c:UInt8}(h:isDig c=true):UInt8.ofNat (48+(c.toNat-48))=c:=by
  simp[isDig]at h
  rw[show 48+(c.toNat-48)=c.toNat by omega]
  simp
theorem showD_digs {l:List UInt8}(h:l.all isDig=true):showD (digs l)=l:=by
  unfold showD digs
  rw[<-List.map_reverse,List.reverse_reverse,List.map_map]
  conv=>rhs;rw[<-List.map_id l]
  apply List.map_congr_left
  intro c hc
  exact byte_of (List.all_eq_true.1 h c hc)
theorem digs_showD {l:List Nat}(h:∀d∈l,d<10):digs (showD l)=l:=by
  unfold showD digs
  rw[<-List.map_reverse,List.reverse_reverse,List.map_map]
  conv=>rhs;rw[<-List.map_id l]
  apply List.map_congr_left
  intro d hd
  have:=h d hd
  simp only[Function.comp,UInt8.toNat_ofNat',id]
  omega
theorem all_showD {l:List Nat}(h:∀d∈l,d<10):(showD l).all isDig=true:=by
  rw[List.all_eq_true]
  intro c hc
  simp only[showD,List.mem_map,List.mem_reverse]at hc
  obtain⟨d,hd,rfl⟩:=hc
  have:=h d hd
  simp only[isDig,UInt8.toNat_ofNat',Bool.and_eq_true,decide_eq_true_eq]
  omega
theorem showD_length (l:List Nat):(showD l).length=l.length:=by simp[showD]
theorem digs_length (l:List UInt8):(digs l).length=l.length:=by simp[digs]
theorem digs_canon {d:List UInt8}(h:isNum d=true)(h0:d≠[48]):Canon 10 (digs d):=by
  simp only[isNum,Bool.and_eq_true,Bool.or_eq_true,decide_eq_true_eq]at h
  obtain⟨⟨⟨h1,h2⟩,h3⟩,h4⟩:=h
  refine⟨digs_lt h3,?_⟩
  rcases h4 with h4|h4
  · exact absurd h4 h0
  · cases d with
    |nil=>simp at h1
    | cons c t=>
      have hc:isDig c=true:=by simp at h3;exact h3.1
      have hne:c≠48:=by simpa using h4
      simp only[digs,List.reverse_cons,List.map_append,List.map_cons,List.map_nil,List.getLast?_concat,ne_eq,Option.some.injEq]
      intro _
      simp[isDig]at hc
      have:c.toNat=48:=by omega
      exact hne (UInt8.toNat_inj.1 (by simpa using this))
theorem digs_toB {d:List UInt8}(h:isNum d=true)(h0:d≠[48]):digs d=toB 10 (valN d):=canon_eq (by omega) (digs_canon h h0)
theorem valN_zero:valN [48]=0:=by decide
theorem valN_pos {d:List UInt8}(h:isNum d=true)(h0:d≠[48]):0<valN d:=by
  refine Canon.pos (by omega) (digs_canon h h0) ?_
  intro e
  have:d.length=0:=by rw[<-digs_length,e];rfl
  simp[isNum,List.length_eq_zero_iff.1 this]at h
theorem isNum_digs {d:List UInt8}(h:isNum d=true):d.all isDig=true:=by
  simp only[isNum,Bool.and_eq_true]at h;exact h.1.2
theorem isNum_len {d:List UInt8}(h:isNum d=true):0<d.length∧d.length<=200:=by
  simp only[isNum,Bool.and_eq_true,decide_eq_true_eq]at h
  refine⟨?_,h.1.1.2⟩
  have:=h.1.1.1
  cases d <;>simp at this ⊢
theorem valN_lt {d:List UInt8}(h:isNum d=true):valN d<10^200:=by
  have h1:valN d<10^d.length:=by rw[<-digs_length];exact ofB_lt 10 _ (digs_lt (isNum_digs h))
  exact Nat.lt_of_lt_of_le h1 (Nat.pow_le_pow_right (by omega) (isNum_len h).2)
theorem showN_valN {d:List UInt8}(h:isNum d=true):showN (valN d)=d:=by
  by_cases h0:d=[48]
  · subst h0;decide
  · unfold showN
    rw[if_neg (by have:=valN_pos h h0;omega),<-digs_toB h h0,showD_digs (isNum_digs h)]
theorem toB_ten_ne {n:Nat}(h:n≠0):toB 10 n≠[]:=λe=>h (by have:=ofB_toB 10 (by omega) n;rw[e]at this;exact this.symm)
theorem valN_showN (n:Nat):valN (showN n)=n:=by
  unfold showN
  split
  · next h=>subst h;decide
  · rw[valN,digs_showD (toB_lt 10 (by omega) n),ofB_toB 10 (by omega)]
theorem isNum_showN {n:Nat}(h:n<10^200):isNum (showN n)=true:=by
  unfold showN
  split
  · decide
  · next h0=>
    have hne:=toB_ten_ne h0
    have hl:(toB 10 n).length<=200:=(length_toB_le_iff 10 (by omega) n 200).2 h
    have h1:(showD (toB 10 n)).isEmpty=false:=by
      cases hh:showD (toB 10 n)with
      |nil=>exact absurd (List.length_eq_zero_iff.1 (by rw[<-showD_length,hh];rfl)) hne
      |cons a b=>rfl
    simp only[isNum,h1,all_showD (toB_lt 10 (by omega) n),showD_length,hl,decide_true,Bool.not_false,Bool.and_self,Bool.true_and,Bool.or_eq_true,decide_eq_true_eq]
    right
    have h2:=getLast_toB 10 (by omega) n
    have h3:=toB_lt 10 (by omega) n
    unfold showD
    rw[List.head?_map,List.head?_reverse]
    cases hg:(toB 10 n).getLast? with
    |none=>simp
    | some x=>
      simp only[Option.map_some,ne_eq,Option.some.injEq]
      intro e
      have hx:x<10:=h3 x (List.mem_of_getLast? hg)
      have:=congrArg UInt8.toNat e
      simp at this
      have:x=0:=by omega
      subst this
      exact h2 hg
theorem showN_head (n:Nat):(showN n).head?≠some 45:=by
  unfold showN
  split
  · decide
  · unfold showD
    rw[List.head?_map,List.head?_reverse]
    cases hg:(toB 10 n).getLast? with
    |none=>simp
    | some x=>
      have hx:x<10:=toB_lt 10 (by omega) n x (List.mem_of_getLast? hg)
      simp only[Option.map_some,ne_eq,Option.some.injEq]
      intro e
      have:=congrArg UInt8.toNat e
      simp at this
      omega
theorem showN_inj {a b:Nat}(h:showN a=showN b):a=b:=by rw[<-valN_showN a,h,valN_showN]
theorem body_of {l:List UInt8}(h:l.head?≠some 45):body l=l:=by
  unfold body;split
  · simp at h
  · rfl
theorem neg_of {l:List UInt8}(h:l.head?≠some 45):neg l=false:=by
  unfold neg;split
  · simp at h
  · rfl
theorem neg_cons {l:List UInt8}(h:neg l=true):l=45::body l:=by
  unfold neg at h;split at h
  · rfl
  · cases h
theorem body_neg {l:List UInt8}(h:neg l=false):body l=l:=by
  unfold neg at h;split at h
  · cases h
  · next hh => unfold body;split
               · exact absurd rfl (hh _)
               · rfl
theorem isInt_num {l:List UInt8}(h:isInt l=true):isNum (body l)=true:=by
  simp only[isInt,Bool.and_eq_true]at h;exact h.1
theorem isInt_neg0 {l:List UInt8}(h:isInt l=true)(hn:neg l=true):body l≠[48]:=by
  simp only[isInt,Bool.and_eq_true,hn,Bool.true_and,Bool.not_eq_true',decide_eq_false_iff_not]at h;exact h.2
theorem valZ_natAbs (l:List UInt8):(valZ l).natAbs=valN (body l):=by unfold valZ;split <;>simp
theorem valZ_neg {l:List UInt8}(h:isInt l=true):decide (valZ l<0)=neg l:=by
  unfold valZ
  cases hn:neg l with
  | true=>
    have:=valN_pos (isInt_num h) (isInt_neg0 h hn)
    simp;omega
  |false=>simp
theorem fits_val {l:List UInt8}(h:isInt l=true):fits (valZ l)=true:=by
  simp only[fits,valZ_natAbs,decide_eq_true_eq];exact valN_lt (isInt_num h)
theorem showI_valZ {l:List UInt8}(h:isInt l=true):showI (valZ l)=l:=by
  have hn:=valZ_neg h
  unfold showI
  rw[valZ_natAbs,showN_valN (isInt_num h)]
  cases hg:neg l with
  | true=>
    rw[hg,decide_eq_true_eq]at hn
    rw[if_pos hn,<-neg_cons hg]
  | false=>
    rw[hg,decide_eq_false_iff_not]at hn
    rw[if_neg hn,body_neg hg]
theorem body_showI (n:Int):body (showI n)=showN n.natAbs:=by
  unfold showI
  split
  · rfl
  · exact body_of (showN_head _)
theorem neg_showI (n:Int):neg (showI n)=decide (n<0):=by
  unfold showI
  split
  · next h=>simp[neg,h]
  · next h=>rw[neg_of (showN_head _)];simp[h]
theorem valZ_showI (n:Int):valZ (showI n)=n:=by
  unfold valZ
  rw[neg_showI,body_showI,valN_showN]
  by_cases h:n<0
  · simp[h];omega
  · simp[h];omega
theorem isInt_showI {n:Int}(h:fits n=true):isInt (showI n)=true:=by
  have h1:n.natAbs<10^200:=of_decide_eq_true h
  unfold isInt
  rw[body_showI,neg_showI,isNum_showN h1,Bool.true_and,Bool.not_eq_true',Bool.and_eq_false_iff]
  by_cases hn:n<0
  · right
    rw[decide_eq_false_iff_not]
    intro e
    have:=showN_inj (a:=n.natAbs) (b:=0) (by rw[e];decide)
    omega
  · left;simp[hn]
theorem valZ_inj {a b:List UInt8}(ha:isInt a=true)(hb:isInt b=true)(h:valZ a=valZ b):a=b:=by
  rw[<-showI_valZ ha,h,showI_valZ hb]
theorem showI_inj {a b:Int}(h:showI a=showI b):a=b:=by rw[<-valZ_showI a,h,valZ_showI]
theorem isInt_zero:isInt [48]=true:=by decide
theorem valZ_zero:valZ [48]=0:=by decide
theorem valZ_eq_zero {l:List UInt8}(h:isInt l=true):valZ l=0↔l=[48]:=
  ⟨λe=>valZ_inj h isInt_zero (e.trans valZ_zero.symm),λe=>by rw[e,valZ_zero]⟩
def outI (n:Int):Option (List UInt8):=if fits n then some (showI n)else none
def addI (a b:List UInt8):Option (List UInt8):=if isInt a&&isInt b then outI (valZ a+valZ b)else none
def subI (a b:List UInt8):Option (List UInt8):=if isInt a&&isInt b then outI (valZ a-valZ b)else none
def mulI (a b:List UInt8):Option (List UInt8):=if isInt a&&isInt b then outI (valZ a*valZ b)else none
def divI (a b:List UInt8):Option (List UInt8×List UInt8):=if isInt a&&isInt b&&decide (b≠[48])then(outI (valZ a/valZ b)).map λq=>(q,showI (valZ a%valZ b))else none
def gcdI (a b:List UInt8):Option (List UInt8):=if isInt a&&isInt b then outI ((Int.gcd (valZ a) (valZ b):Nat):Int)else none
def cmpS (a b:List UInt8):Int:=if isInt a&&isInt b then cmpI (valZ a) (valZ b)else 0
end Go.Eng
namespace Go.Proofs.YtinldhphnpflaaaGreatDoor
open Go Go.Eng Go.RowKit Go.Sort Go.Proofs
def Tb (w:World):Prop:=∃fz:Nat×Nat,w.heap[4]?=some (.cells ((Lib.pow10Tab.map λz=>Value.int .u64 z).toArray) 240 fz)
theorem Tb.ext {w w':World}(k:Ext w w')(h:Tb w):Tb w':=by
  obtain⟨fz,h⟩:=h
  exact⟨fz,k.heap h⟩
theorem Tb.gr {w w':World}{b:Nat}{t:TypeId}{cs:Array Value}(k:w.grownBy w' (some b))(hb:Blk w b t cs)(ht:t≠240)(h:Tb w):Tb w':=by
  obtain⟨fz,h⟩:=h
  refine⟨fz,(k.block 4 (Array.getElem?_eq_some_iff.1 h).1 (λe=>?_)).trans h⟩
  cases e
  unfold Blk at hb
  rw[hb]at h;cases h;exact ht rfl
theorem Tb.put {w w':World}{b:Nat}{t:TypeId}{cs:Array Value}(k:Put w w' b)(hb:Blk w b t cs)(ht:t≠240)(h:Tb w):Tb w':=by
  obtain⟨fz,h⟩:=h
  refine⟨fz,(k.block 4 (λe=>?_)).trans h⟩
  subst e
  unfold Blk at hb
  rw[hb]at h;cases h;exact ht rfl
theorem Tb.tab {w : World}(h : Tb w) : Lib.TabIs Tryz.prog w "internal/strconv.uint64pow10" .u64 Lib.pow10Tab := by
  obtain⟨fz,h⟩:=h
  unfold Lib.TabIs World.var?
  have hg : Tryz.prog.globalNamed "internal/strconv.uint64pow10" = some 4 := by kernel_rfl
  rw[hg]
  simp only[Option.bind_some,h]
theorem ret_of {P:Program}{f:FuncId}{args:Array Value}{w:World}{R:Ending->World->Prop}{Q:Value->World->Prop}(h:Calls P f args w R)(hq:∀e w',R e w'->∃v,e=.returned v∧Ext w w'∧Q v w'):Calls P f args w (Ret w Q):=
  h.mono (by
    intro e w' hR
    obtain⟨v,rfl,h1,h2⟩:=hq e w' hR
    exact⟨h1,h2⟩)
theorem ext_grow (w:World)(k:Nat)(os:Array Obj):Ext w (grow (w.drewN k) os):=by
  refine⟨rfl,rfl,rfl,by simp[grow],λi hi=>?_⟩
  simp only[grow]
  rw[Array.getElem?_append_left (by simpa using hi)]
  rfl
theorem data_S (l:List UInt8):(ByteArray.mk l.toArray).data.toList=l:=by simp
theorem size_S (l:List UInt8):(ByteArray.mk l.toArray).size=l.length:=by simp[ByteArray.size]
theorem itoa_ok (n:Int)(w:World)(h0:-9223372036854775808<=n)(h1:n<=9223372036854775807)(ht:Tb w):CL 91 #[.int .i64 n] w (Ret w λv _=>v=S (Lib.itoa n)):=
  ret_of (Tryz.strconv_Itoa n h0 h1 w ht.tab) (by
    rintro e w' ⟨rfl,k,os,rfl⟩
    exact⟨_,rfl,ext_grow w k os,rfl⟩)
theorem ext_bytesWorld (w:World)(e:TypeId)(s:ByteArray):Ext w (Lib.bytesWorld w e s):=by
  have h1:Ext w (w.drew.alloc (.cells (Lib.bytesCells w e s) e)):=Ext.trans (Ext.drew w) (Ext.alloc _ _)
  have h2:w.heap.size<(w.drew.alloc (.cells (Lib.bytesCells w e s) e)).heap.size:=by simp[World.alloc,World.drew,-World.alloc_eq,-World.drew_eq]
  unfold Lib.bytesWorld World.freeze
  refine⟨h1.os,h1.tape,h1.output,by simpa using h1.size,λi hi=>?_⟩
  rw[<-h1.block i hi]
  split
  · next h=>cases h
  · show(Array.modify _ _ _)[i]? =_
    rw[Array.getElem?_modify,if_neg (by simp;omega)]
theorem atoi_ok (l:List UInt8)(n:Int)(w:World)(hl:l.length<=18)(h:Lib.atoi l=some n):CL 130 #[S l] w (Ret w λv _=>v=.tuple #[.int .i64 n,.nilIface]):=
  ret_of (Tryz.strconv_Atoi ⟨l.toArray⟩ n (by rw[size_S];exact hl) (by rw[data_S];exact h) w) (by
    rintro e w' ⟨rfl,t,rfl⟩
    exact⟨_,rfl,ext_bytesWorld w 5 t,rfl⟩)
theorem repeat_ok (l:List UInt8)(c:Nat)(w:World)(hc:c<=1000000)(hl:l.length<=1000000):CL 65 #[S l,.int .i64 ((c:Nat):Int)] w (Ret w λv _=>v=S (Lib.repeatL l c)):=by
  refine ret_of (Tryz.strings_Repeat ⟨l.toArray⟩ c w (by omega) (by rw[size_S];have:=Nat.mul_le_mul hl hc;omega)) ?_
  rintro e w' ⟨rfl,k⟩
  exact⟨_,rfl,k,by rw[data_S];rfl⟩
theorem trimPrefix_ok (l p:List UInt8)(w:World):CL 94 #[S l,S p] w (Ret w λv _=>v=S (Lib.trimPrefix l p)):=
  ret_of (Tryz.strings_TrimPrefix ⟨l.toArray⟩ ⟨p.toArray⟩ w) (by
    rintro e w' ⟨rfl,rfl⟩
    exact⟨_,rfl,Ext.refl _,by rw[data_S,data_S];rfl⟩)
theorem trimPrefix_body (l:List UInt8):Lib.trimPrefix l [45]=body l:=by
  unfold Lib.trimPrefix Lib.hasPrefix
  cases l with
  |nil=>rfl
  | cons c t=>
    by_cases hc:c=45
    · subst hc;simp[List.isPrefixOf,body]
    · have h1:([45]:List UInt8).isPrefixOf (c::t)=false:=by
        simp[List.isPrefixOf];exact λh=>hc h.symm
      rw[h1,body_of (by simpa using hc)];rfl
def DIGITS:List UInt8:=[48,49,50,51,52,53,54,55,56,57]
theorem trim_ok (l:List UInt8)(w:World)(hl:l.length<=9223372036854775807):CL 129 #[S l,S DIGITS] w (Ret w λv _=>v=S (Lib.trimS l DIGITS)):=
  ret_of (Any.strings_Trim_laid Tryz.lays160 (by kernel_rfl) ⟨l.toArray⟩ ⟨DIGITS.toArray⟩ w (by rw[size_S];exact hl) (by decide) (ascii_of_all (by decide))) (by
    rintro e w' ⟨rfl,k⟩
    exact⟨_,rfl,k,by rw[data_S,data_S];rfl⟩)
end Go.Proofs.YtinldhphnpflaaaGreatDoor
