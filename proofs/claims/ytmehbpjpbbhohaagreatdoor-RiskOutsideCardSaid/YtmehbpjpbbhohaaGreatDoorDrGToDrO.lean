/- Part of the proof of a statement about risks. -/
import Derived.Test.YtmehbpjpbbhohaaGreatDoorRj8ToDe6
import Derived.Test.YtmehbpjpbbhohaaGreatDoorDrAToRjg
import Derived.Test.YtmehbpjpbbhohaaGreatDoorDcAToRj2
import Derived.Test.YtmehbpjpbbhohaaGreatDoorEngPToEngH
import Derived.Test.YtmehbpjpbbhohaaGreatDoorRjiToDrV
set_option linter.all false
namespace Go.Proofs.YtmehbpjpbbhohaaGreatDoor
open Go Go.Eng Go.RowKit
def dgt (x K:Nat):Nat:=Nat.mod (Nat.div x (Nat.pow 2 (Nat.mul 20 K))) 1048576
theorem dgt_0 {x a:Nat}(h:a<1048576):dgt (x*1048576+a) 0=a:=by
  show(x*1048576+a)/2^(20*0)%1048576=a
  rw[Nat.mul_zero,Nat.pow_zero,Nat.div_one];omega
theorem dgt_s {x a K:Nat}(h:a<1048576):dgt (x*1048576+a) (K+1)=dgt x K:=by
  show(x*1048576+a)/2^(20*(K+1))%1048576=x/2^(20*K)%1048576
  rw[show 20*(K+1)=20+20*K by omega,Nat.pow_add,<-Nat.div_div_eq_div_mul,show(2:Nat)^20=1048576 by decide,show(x*1048576+a)/1048576=x by omega]
def five (u:Nat)(C:Nat->Nat->Bool):Bool:=fz (Nat.gcd u 1000000) λg=>fz (Nat.div u g) λn=>fz (Nat.div 1000000 g) λd=>nmk5 n d λf c=>cond (and (Nat.ble 100000 (Nat.mul 2 f)) (Nat.ble c 100000)) (C f c) false
theorem five_ok {u:Nat}{C:Nat->Nat->Bool}(hu:0<u)(h:five u C=true):∃f c,Cel 5 u f c∧C f c=true:=by
  unfold five at h
  rw[fz_eq,fz_eq,fz_eq]at h
  have hg:0<Nat.gcd u 1000000:=Nat.gcd_pos_of_pos_left _ hu
  have hn:0<u/Nat.gcd u 1000000:=Nat.div_pos (Nat.le_of_dvd hu (Nat.gcd_dvd_left _ _)) hg
  have hd:0<1000000/Nat.gcd u 1000000:=Nat.div_pos (Nat.le_of_dvd dc (Nat.gcd_dvd_right _ _)) hg
  obtain⟨f,c,hP,hk⟩:=nmo5 _ _ _ hn hd h
  rcases cond_t hk with⟨h1,hk⟩|⟨_,hk⟩
  · simp only[Bool.and_eq_true,Nat.ble_eq]at h1
    obtain⟨r1,r2⟩:=posR_cel dc hP
    exact⟨f,c,⟨r1,r2,h1.1,h1.2⟩,hk⟩
  · cases hk
def at5 (e K:Nat)(C:Nat->Nat->Bool):Bool:=cond (Nat.ble (Nat.mul 8 e) K) (C 99999 100000) (cond (Nat.beq K 0) (C 50000 50000) (fz (Nat.mul K 1000000) λa=>fz (Nat.div a e) λdn=>fz (Nat.div (Nat.add a (Nat.pred e)) e) λup=>five dn λf _=>five up λ_ c=>cond (Nat.ble f c) (C f c) false))
theorem at5_ok {e K:Nat}{C:Nat->Nat->Bool}(he:0<e)(he5:e<=50000)(h:at5 e K C=true):∃f c:Nat,Sh2 5 ((5*K:Nat):Int) ((5*e:Nat):Int) f c∧c<=100000∧f<=100000∧C f c=true:=by
  unfold at5 at h
  have t5:tenI 5=100000:=by decide
  rcases cond_t h with⟨h1,hk⟩|⟨h1,hk⟩
  · have h1:=Nat.le_of_ble_eq_true h1
    have h1:8*e<=K:=h1
    have hs:=sh2_hi (pl:=5) (n:=((5*K:Nat):Int)) (d:=((5*e:Nat):Int)) om om
    rw[t5]at hs
    exact⟨99999,100000,hs,by omega,by omega,hk⟩
  · have h1:¬8*e<=K:=λx=>by rw[show Nat.ble (Nat.mul 8 e) K=true from Nat.ble_eq_true_of_le x]at h1;cases h1
    rcases cond_t hk with⟨h2,hk⟩|⟨h2,hk⟩
    · have h2:=Nat.eq_of_beq_eq_true h2
      subst h2
      exact⟨50000,50000,sh2_zero (pl:=5) om dc,by omega,by omega,hk⟩
    · have h2:K≠0:=λx=>by subst x;cases h2
      rw[fz_eq,fz_eq,fz_eq]at hk
      have e1:dnS e (5*K)=K*1000000/e:=by unfold dnS;rw[show 5*K*200000=K*1000000 by omega]
      have e2:upS e (5*K)=(K*1000000+(e-1))/e:=by unfold upS;rw[show 5*K*200000=K*1000000 by omega]
      have p1:0<K*1000000/e:=Nat.div_pos om he
      have p2:0<(K*1000000+(e-1))/e:=Nat.div_pos om he
      obtain⟨f,_,a,hk⟩:=five_ok p1 hk
      obtain⟨_,c,b,hk⟩:=five_ok p2 hk
      rcases cond_t hk with⟨h3,hk⟩|⟨_,hk⟩
      · have h3:=Nat.le_of_ble_eq_true h3
        have b4:=b.2.2.2
        exact⟨f,c,sh2_pos (K:=5*K) (S:=e) om he he5 om (up_lt2 he he5 om) (by rw[e1];exact a) (by rw[e2];exact b) h3,by omega,by omega,hk⟩
      · cases hk
def bld5 (e:Nat)(C:Nat->Nat->Bool)(n:Nat):Nat->Nat->Bool:=Nat.rec (motive:=λ_=>Nat->Nat->Bool) (λx y=>C x y) (λk ih x y=>at5 e k λf c=>ih (Nat.add (Nat.mul x 1048576) f) (Nat.add (Nat.mul y 1048576) c)) n
theorem bld5_ok {e:Nat}{C:Nat->Nat->Bool}(he:0<e)(he5:e<=50000):∀{n x y m:Nat},(∀K,K<m->Sh2 5 ((5*(n+K):Nat):Int) ((5*e:Nat):Int) (dgt x K:Nat) (dgt y K:Nat))->bld5 e C n x y=true->
    ∃X Y,(∀K,K<n+m->Sh2 5 ((5*K:Nat):Int) ((5*e:Nat):Int) (dgt X K:Nat) (dgt Y K:Nat))∧C X Y=true
  |0,x,y,m,hm,h=>⟨x,y,λK hK=>by have:=hm K om;rwa [Nat.zero_add]at this,h⟩
  | n +1,x,y,m,hm,h=>by
    change at5 e n (λf c=>bld5 e C n (x*1048576+f) (y*1048576+c))=true at h
    obtain⟨f,c,hs,hc,hf,hk⟩:=at5_ok he he5 h
    obtain⟨X,Y,h1,h2⟩:=bld5_ok he he5 (m:=m+1) (λK hK=>by
      cases K with
      |zero=>rw[dgt_0 om,dgt_0 om,Nat.add_zero];exact hs
      |succ K=>rw[dgt_s om,dgt_s om,show n+(K+1)=n+1+K by omega];exact hm K om) hk
    exact⟨X,Y,λK hK=>h1 K om,h2⟩
def fsm (X Y w j:Nat):Nat:=cond (Nat.ble w j) (Nat.add (dgt X (Nat.sub j w)) (Nat.sub 100000 (dgt Y (Nat.add j w)))) (Nat.add (Nat.sub 100000 (dgt Y (Nat.sub w j))) (Nat.sub 100000 (dgt Y (Nat.add j w))))
def growK (X Y w:Nat)(n:Nat):Nat->Nat->Bool:=Nat.rec (motive:=λ_=>Nat->Nat->Bool) (λ_ _=>true) (λ_ ih j m=>fz (fsm X Y w j) λa=>fz (cond (Nat.ble m a) a m) λm'=>cond (Nat.ble m' (fsm Y X w j)) (ih (Nat.succ j) m') false) n
theorem growK_ok {X Y w:Nat}:∀{n j m:Nat},growK X Y w n j m=true->∀k,j<=k->k<j+n->m<=fsm Y X w k∧∀i,j<=i->i<=k->fsm X Y w i<=fsm Y X w k
  |0,j,m,_,k,h1,h2=>by omega
  | n + 1,j,m,h,k,h1,h2=>by
    change fz (fsm X Y w j) (λa=>fz (cond (Nat.ble m a) a m) λm'=>cond (Nat.ble m' (fsm Y X w j)) (growK X Y w n (j+1) m') false)=true at h
    rw[fz_eq,fz_eq]at h
    have hm:m<=cond (Nat.ble m (fsm X Y w j)) (fsm X Y w j) m∧fsm X Y w j<=cond (Nat.ble m (fsm X Y w j)) (fsm X Y w j) m:=by
      cases hb:Nat.ble m (fsm X Y w j)
      · have:¬m<=fsm X Y w j:=λe=>by rw[Nat.ble_eq_true_of_le e]at hb;cases hb
        exact⟨Nat.le_refl _,by show fsm X Y w j<=m;omega⟩
      · exact⟨Nat.le_of_ble_eq_true hb,Nat.le_refl _⟩
    generalize cond (Nat.ble m (fsm X Y w j)) (fsm X Y w j) m=M at *
    rcases cond_t h with⟨h3,h4⟩|⟨_,h4⟩
    · have h3:=Nat.le_of_ble_eq_true h3
      by_cases e:k=j
      · subst e
        exact⟨by omega,λi a b=>by rw[show i=k by omega];omega⟩
      · obtain⟨h5,h6⟩:=growK_ok h4 k om om
        refine⟨by omega,λi a b=>?_⟩
        by_cases e2:i=j
        · subst e2;omega
        · exact h6 i om b
    · cases h4
def growA (e:Nat):Bool:=bld5 e (λX Y=>allN (λw=>growK X Y w 119 0 0) 40) 161 0 0
theorem gr1:allN growA 12=true:=by decide +kernel
theorem gr2:allN (λi=>growA (Nat.add 12 i)) 8=true:=by decide +kernel
theorem gr_all {e:Nat}(h1:1<=e)(h2:e<=20):growA e=true:=by
  by_cases a:e<=12
  · exact allN_ok gr1 e h1 a
  · have h:=allN_ok gr2 (e-12) om om
    rwa [show Nat.add 12 (e-12)=e by show 12+(e-12)=e;omega]at h
theorem fc_dgt {e X Y K:Nat}{v F C:Int->Int}(hc:Fc e 5 v F C)(hs:Sh2 5 ((5*K:Nat):Int) ((5*e:Nat):Int) (dgt X K:Nat) (dgt Y K:Nat)):F (5*(K:Int))=(dgt X K:Nat)∧C (5*(K:Int))=(dgt Y K:Nat)∧F (-(5*(K:Int)))=100000-(dgt Y K:Nat)∧C (-(5*(K:Int)))=100000-(dgt X K:Nat):=by
  have h:=hc.sh (5*(K:Int))
  rw[show((5*K:Nat):Int)=5*(K:Int)by omega]at hs
  obtain⟨a,b⟩:=h.uniq hs.1
  obtain⟨c,d⟩:=hc.neg (5*(K:Int))
  have t5:tenI 5=100000:=by decide
  rw[c,d,a,b,t5]
  exact⟨rfl,rfl,rfl,rfl⟩
theorem grow_le {e w j k:Nat}{v F C:Int->Int}(e1:1<=e)(e2:e<=20)(w1:1<=w)(w2:w<=40)(hj:j<=k)(hk:k<=118)(hc:Fc e 5 v F C):
    F (5*((j:Int)-w))+F (-(5*((j:Int)+w)))<=C (5*((k:Int)-w))+C (-(5*((k:Int)+w))):=by
  obtain⟨X,Y,h1,h2⟩:=bld5_ok (m:=0) om om (λK hK=>by omega) (gr_all e1 e2)
  have h3:=(growK_ok (allN_ok h2 w w1 w2) k om om).2 j om hj
  have bd:∀K,K<161->(dgt X K)<=100000∧dgt Y K<=100000:=λK hK=>by
    obtain⟨_,_,_,_,a,b,c⟩:=(h1 K hK).1
    have t5:tenI 5=100000:=by decide
    omega
  have key:∀j:Nat,j<=118->F (5*((j:Int)-w))+F (-(5*((j:Int)+w)))=(fsm X Y w j:Nat)∧C (5*((j:Int)-w))+C (-(5*((j:Int)+w)))=(fsm Y X w j:Nat):=by
    intro j hj
    have b1:=bd (j+w) om
    obtain⟨_,_,a3,a4⟩:=fc_dgt hc (h1 (j+w) om)
    rw[show(((j+w:Nat)):Int)=(j:Int)+w by omega]at a3 a4
    unfold fsm
    by_cases hw:w<=j
    · have b2:=bd (j-w) om
      obtain⟨a1,a2,_,_⟩:=fc_dgt hc (h1 (j-w) om)
      rw[show(((j-w:Nat)):Int)=(j:Int)-w by omega]at a1 a2
      rw[show Nat.ble w j=true from Nat.ble_eq_true_of_le hw,cond_true,cond_true,a1,a2,a3,a4]
      simp only[Nat.add_eq,Nat.sub_eq]
      omega
    · have b2:=bd (w-j) om
      obtain⟨_,_,a1,a2⟩:=fc_dgt hc (h1 (w-j) om)
      rw[show -(5*(((w-j:Nat)):Int))=5*((j:Int)-w)by omega]at a1 a2
      rw[show Nat.ble w j=false from by cases hb:Nat.ble w j;rfl;exact absurd (Nat.le_of_ble_eq_true hb) hw,cond_false,cond_false,a1,a2,a3,a4]
      simp only[Nat.add_eq,Nat.sub_eq]
      omega
  have k1:=(key j om).1
  have k2:=(key k hk).2
  omega
end Go.Proofs.YtmehbpjpbbhohaaGreatDoor
namespace Go.Proofs.YtmehbpjpbbhohaaGreatDoor
open Go Go.Eng Go.RowKit
attribute [local irreducible] wpListIn Code.wpIn Oper.wpIn Exit.then Exit.inBlock Exit.noGoto
set_option maxHeartbeats 40000000
theorem krRjh {p:Prop}(h:p:=by kernel_rfl):p:=h
theorem erRjh {w:World}:Ext w w:=Ext.refl _
set_option maxRecDepth 100000 in
theorem outside_walk {x0 x1 x2 x3 x4 x5 x6 y0 y1 m s e l h lo up p f vaa vba waa wba vab vbb wab wbb vac vbc wac wbc vad vbd wad wbd vaf vbf waf wbf:Int}{w:World}(hy0:In64 y0)(hy1:In64 y1)(ep:pickI y0 60=p)(ef:pickI y1 60=f)(p0:0<=p∧p<60)(f0:0<=f∧f<60)(l0:-30<=l∧l<=10)(h0:l<h∧h<=l+40)(qd:Q9 vad vbd)(qe:Q9 wad wbd)(qf:Q9 waf wbf)(hLe:cmpI (vad*wbf) (waf*vbd)<=0)(hSa:∀W,Tb W->CL 8 #[] W (Ret W λv _=>v=.bool (true)))(hMd:∀W,Tb W->CL 9 #[.agg #[.int .i64 (x0),.int .i64 (x1),.int .i64 (x2),.int .i64 (x3),.int .i64 (x4),.int .i64 (x5),.int .i64 (x6)]] W (Ret W λv _=>v=.agg (t7 m 10 s 10 e 20 l 10 h 10 lo 20 up 20)))(hOm:∀W,Tb W->CL 22 #[QV m 10,QV s 10,QV l 10,QV h 10,.int .i64 (5)] W (Ret W λv _=>v=.tuple #[IV vaa vba waa wba,.int .i64 (0)]))(hIn:∀W,Tb W->CL 13 #[.agg (t7 m 10 s 10 e 20 l 10 h 10 lo 20 up 20),.int .i64 (5)] W (Ret W λv _=>v=.tuple #[IV vab vbb wab wbb,.int .i64 (0)]))(hAd:∀W,Tb W->CL 23 #[IV vaa vba waa wba,IV vab vbb wab wbb] W (Ret W λv _=>v=.tuple #[IV vac vbc wac wbc,.int .i64 (0)]))(hKo:∀W,Tb W->CL 24 #[IV vac vbc wac wbc,.int .i64 (1),.int .i64 (1)] W (Ret W λv _=>v=.bool (true)))(hOr:∀W,Tb W->CL 22 #[QV (l+h+p) 20,QV e 20,QV l 10,QV h 10,.int .i64 (5)] W (Ret W λv _=>v=.tuple #[IV vad vbd wad wbd,.int .i64 (0)]))(hOl:∀W,Tb W->CL 22 #[QV (l+h-p) 20,QV e 20,QV l 10,QV h 10,.int .i64 (5)] W (Ret W λv _=>v=.tuple #[IV vad vbd wad wbd,.int .i64 (0)]))(hOa:∀W,Tb W->CL 22 #[QV (l+h+(p+f)) 20,QV e 20,QV l 10,QV h 10,.int .i64 (5)] W (Ret W λv _=>v=.tuple #[IV vaf vbf waf wbf,.int .i64 (0)]))(ht:Tb w):
    CL 5 #[.agg #[.int .i64 x0,.int .i64 x1,.int .i64 x2,.int .i64 x3,.int .i64 x4,.int .i64 x5,.int .i64 x6],.int .i64 y0,.int .i64 y1] w (Ret w λv w'=>v=.bool true):=by
 refine f_in Tryz.func5 rfl ?_;refine go ?_;refine bx (λ_ asc aou=>?_);have sc:=asc.2;refine go ?_;refine cl en3008 ((hSa _ (ht.ext sc))) ?_;rintro _ _ aq8 rfl;have⟨aou,sc⟩:=be1 aq8.2 aou sc;refine go ?_;refine l_op (k_loadA (cs:=[.int .i64 x0,.int .i64 x1,.int .i64 x2,.int .i64 x3,.int .i64 x4,.int .i64 x5,.int .i64 x6]) (b:=w.heap.size) (o:=0) U2022 rfl sz2022 rfl (Blk.cells aou (i:=0) rfl) ?_);refine cl en3009 ((hMd _ (ht.ext sc))) ?_;rintro _ aow aq9 rfl;have⟨aou,sc⟩:=be1 aq9.2 aou sc;refine al inf2296 (λ_ ara asd=>?_);have⟨aou,sc⟩:=be1 ara.2 aou sc;refine l_op (k_storeA (b:=aow.heap.size) (o:=0) (vs:=[S (qR m 10).1,S (qR m 10).2,S (qR s 10).1,S (qR s 10).2,S (qR e 20).1,S (qR e 20).2,S (qR l 10).1,S (qR l 10).2,S (qR h 10).1,S (qR h 10).2,S (qR lo 20).1,S (qR lo 20).2,S (qR up 20).1,S (qR up 20).2]) sz2296 rfl rfl (by simp[Value.oneCell',S]) asd (Nat.le_of_ble_eq_true rfl) (λ_ aqn aov=>?_));have aov:=Blk.cst aov (cs:=(t7 m 10 s 10 e 20 l 10 h 10 lo 20 up 20)) krRjh;have⟨aou,sc,_⟩:=pl1 aqn aou sc;refine go ?_;refine l_op (k_fieldAddr (b:=aow.heap.size) (o:=0) (off:=0) (oo:=0) U2296 rfl rfl sz36 rfl rfl ?_);refine go ?_;refine l_op (k_fieldAddr (b:=aow.heap.size) (o:=0) (off:=2) (oo:=2) U2296 rfl rfl sz36 rfl rfl ?_);refine go ?_
 refine l_op (k_fieldAddr (b:=aow.heap.size) (o:=0) (off:=6) (oo:=6) U2296 rfl rfl sz36 rfl rfl ?_);refine go ?_;refine l_op (k_fieldAddr (b:=aow.heap.size) (o:=0) (off:=8) (oo:=8) U2296 rfl rfl sz36 rfl rfl ?_);refine go ?_;refine cl en2059 ((hOm _ (ht.ext sc))) ?_;rintro _ arb aqo rfl;have⟨aou,aov,sc⟩:=be2 aqo.2 aou aov sc;refine go ?_;refine al inf1032 (λ_ aqp ase=>?_);have⟨aou,aov,sc⟩:=be2 aqp.2 aou aov sc;refine SA ase (λ_ aqg aoz=>?_);have⟨aou,aov,sc,_⟩:=pl2 aqg aou aov sc;refine go ?_;refine l_op (k_loadA (cs:=[S (qR m 10).1,S (qR m 10).2,S (qR s 10).1,S (qR s 10).2,S (qR e 20).1,S (qR e 20).2,S (qR l 10).1,S (qR l 10).2,S (qR h 10).1,S (qR h 10).2,S (qR lo 20).1,S (qR lo 20).2,S (qR up 20).1,S (qR up 20).2]) (b:=aow.heap.size) (o:=0) U2296 rfl sz2296 rfl (Blk.cells aov (i:=0) krRjh) ?_);refine cl en3013 ((hIn _ (ht.ext sc))) ?_;rintro _ arc aqh rfl;have⟨aou,aov,aoz,sc⟩:=be3 aqh.2 aou aov aoz sc;refine go ?_;refine al inf1032 (λ_ aqi asf=>?_);have⟨aou,aov,aoz,sc⟩:=be3 aqi.2 aou aov aoz sc;refine SA asf (λ_ aqb ao2=>?_);have⟨aou,aov,aoz,sc,_⟩:=pl3 aqb aou aov aoz sc;refine go ?_;refine l_op (k_loadA (cs:=[S (qR vaa vba).1,S (qR vaa vba).2,S (qR waa wba).1,S (qR waa wba).2]) (b:=arb.heap.size) (o:=0) U1032 rfl sz1032 rfl (Blk.cells aoz (i:=0) rfl) ?_)
 refine l_op (k_loadA (cs:=[S (qR vab vbb).1,S (qR vab vbb).2,S (qR wab wbb).1,S (qR wab wbb).2]) (b:=arc.heap.size) (o:=0) U1032 rfl sz1032 rfl (Blk.cells ao2 (i:=0) rfl) ?_);refine cl en2044 ((hAd _ (ht.ext sc))) ?_;rintro _ ard aqc rfl;have⟨aou,aov,aoz,ao2,sc⟩:=be4 aqc.2 aou aov aoz ao2 sc;refine go ?_;refine al inf1032 (λ_ aqd asg=>?_);have⟨aou,aov,aoz,ao2,sc⟩:=be4 aqd.2 aou aov aoz ao2 sc;refine SA asg (λ_ ap6 apm=>?_);have⟨aou,aov,aoz,ao2,sc,_⟩:=pl4 ap6 aou aov aoz ao2 sc;refine go ?_;refine l_op (k_loadA (cs:=[S (qR vac vbc).1,S (qR vac vbc).2,S (qR wac wbc).1,S (qR wac wbc).2]) (b:=ard.heap.size) (o:=0) U1032 rfl sz1032 rfl (Blk.cells apm (i:=0) rfl) ?_);refine go ?_;refine cl en3024 ((hKo _ (ht.ext sc))) ?_;rintro _ _ ap7 rfl;have⟨aou,aov,aoz,ao2,apm,sc⟩:=be5 ap7.2 aou aov aoz ao2 apm sc;refine go ?_;refine l_op (k_fieldAddr (b:=aow.heap.size) (o:=0) (off:=6) (oo:=6) U2296 rfl rfl sz36 rfl rfl ?_);refine go ?_;refine l_op (k_fieldAddr (b:=aow.heap.size) (o:=0) (off:=8) (oo:=8) U2296 rfl rfl sz36 rfl rfl ?_);refine go ?_;refine clb en217 (hc:=cEq (Y:=.tuple #[QV (l+h) 10,.int .i64 0]) (qAddX (q9_12 om dc dc) (q9_12 om dc dc) (ht.ext sc)) (congrArg (λr:R=>Value.tuple #[.agg #[S r.1,S r.2],.int .i64 0]) (qR_congr dc dc om))) (hk:=?_);rintro _ _ ap8 rfl;have⟨aou,aov,aoz,ao2,apm,sc⟩:=be5 ap8.2 aou aov aoz ao2 apm sc;refine go ?_;refine al inf36 (λ_ ap9 ash=>?_)
 have⟨aou,aov,aoz,ao2,apm,sc⟩:=be5 ap9.2 aou aov aoz ao2 apm sc;refine SA ash (λasi ap5 arh=>?_);have⟨aou,aov,aoz,ao2,apm,sc,_⟩:=pl5 ap5 aou aov aoz ao2 apm sc;refine go ?_;refine c_dv hmix 8 [17,84,85,86,87,88,89] [some (85,QV (l+h) 10),some (86,QV 2 1),some (87,.tuple #[QV (l+h) 20,.int .i64 0]),some (84,.tuple #[QV (l+h) 20,.int .i64 0]),some (88,QV (l+h) 20),some (89,.int .i64 0),none,none] (XA asi 6 7 17 25 #[S ([]),S ([])] #[S ((qR (l+h) 20).1),S ((qR (l+h) 20).2)]) XA.start krRjh krRjh krRjh ?_ ?_;refine⟨λavk _ _ asj _ ari _ _ _=>?_,?_⟩;obtain⟨avk,rfl⟩:=ovE asj;have ask:=(be ari.1 arh);refine go ?_;exact dvA rfl ari erRjh;refine⟨λavr _ _ avu _ arj _ _ _=>?_,?_⟩;obtain⟨avr,rfl⟩:=ovE avu;have aqq:=xt sc arj.1;refine clb en3011 (hc:=lfof_ok (by unfold In64;omega) (by unfold In64;decide) dc (ht.ext aqq)) (hk:=?_);rintro _ _ ark rfl;refine go ?_;exact dvA rfl arj ark.2;refine⟨λarl _ _ av3 arm arn _ _ _=>?_,?_⟩;obtain⟨arl,rfl⟩:=ovE av3;have asl:=zpv (arm 0 _ _ rfl rfl);have asm:=zpv (arm 1 _ _ rfl rfl);have aqr:=xt sc arn.1;refine clb en218 (hc:=cEq (Y:=.tuple #[QV (l+h) 20,.int .i64 0]) (qDivX (q9_12 om dc dc) (q9_12 om dc dc) dc (ht.ext aqr)) (congrArg (λr:R=>Value.tuple #[.agg #[S r.1,S r.2],.int .i64 0]) (qR_congr dc dc om))) (hk:=?_) (hv:=cons_eq asl (cons_eq asm rfl))
 rintro _ _ aro rfl;refine go ?_;exact dvA rfl arn aro.2;refine⟨λaso _ _ awb asp asq _ _ _=>?_,?_⟩;obtain⟨aso,rfl⟩:=ovE awb;have asr:=zpv (asp 2 _ _ rfl rfl);refine go ?_;exact dvA rfl asq erRjh;refine⟨λass _ _ awh ast asu _ _ _=>?_,?_⟩;obtain⟨ass,rfl⟩:=ovE awh;have asv:=zpv (ast 3 _ _ rfl rfl);refine go ?_;exact dvA rfl asu erRjh;refine⟨λasw _ _ awn asx asy _ _ _=>?_,?_⟩;obtain⟨asw,rfl⟩:=ovE awn;have asz:=zpv (asx 3 _ _ rfl rfl);refine go ?_;exact dvA rfl asy erRjh;refine⟨λawr _ _ awu _ arp as0 as1 _=>?_,?_⟩;obtain⟨awr,rfl⟩:=ovE awu;have aqs:=xt sc arp.1;have awx:=bz aqs;refine al inf36 (λ_ arq as2=>?_);refine go ?_;exact dvAa rfl arp (unl as0 (i:=6) (j:=7) rfl as1) arq.2 as2;refine⟨λas3 _ _ aw1 as4 aqt _ as5 as6=>?_,?_⟩;obtain⟨as3,rfl⟩:=ovE aw1;have as7:=zpv (as4 4 _ _ rfl rfl);have aqu:=xt sc aqt.1;have aw3:=bz aqu;obtain⟨_,aqj,as9,ata⟩:=XA.opn aqt (as6 6 rfl) as5;have aqj:=zpv aqj;have aw4:=bz sc;refine SA ata (λ_ aqv atb=>?_);have aw6:=psz aqv;refine go ?_;exact dvAs (.inr rfl) aqt aqj as9 aqv atb;exact trivial;intro aqw _ _ arr aqe atc apx;obtain⟨aqw,rfl⟩:=ovE aqe;have apn:=(be apx.1 aou);have aw9:=bt apn;have apo:=(be apx.1 aov);have axa:=bt apo;have apq:=(be apx.1 aoz);have axb:=bt apq;have apr:=(be apx.1 ao2);have axc:=bt apr;have aps:=(be apx.1 apm);have axd:=bt aps
 have apt:=(be apx.1 arh);have axe:=bt apt;have ao1:=xt sc apx.1;have axf:=bz ao1;have axg:=bz apx.1;obtain⟨_,aqx,_,apu⟩:=XA.fin apx (arr 6 rfl) (.inl (arr 7 rfl));have aqx:=zpv aqx;have axi:=bt apu;have atd:=zpv (atc 5 _ _ rfl rfl);refine go ?_;refine clb en3010 (hc:=cEqZ (pickL15_ok y0 60 _ hy0 om) ep) (hk:=?_);rintro _ _ ap1 rfl;have⟨apn,apo,apq,apr,aps⟩:=bf5 ap1.2 apn apo apq apr aps;have⟨apt,apu,ao1⟩:=be2 ap1.2 apt apu ao1;refine clb en3011 (hc:=lfof_ok (by unfold In64;omega) (by unfold In64;decide) dc (ht.ext ao1)) (hk:=?_);rintro _ _ ap2 rfl;have⟨apn,apo,apq,apr,aps⟩:=bf5 ap2.2 apn apo apq apr aps;have⟨apt,apu,ao1⟩:=be2 ap2.2 apt apu ao1;refine al inf36 (λ_ ap3 atf=>?_);have⟨apn,apo,apq,apr,aps⟩:=bf5 ap3.2 apn apo apq apr aps;have⟨apt,apu,ao1⟩:=be2 ap3.2 apt apu ao1;refine SA atf (λatg apy ars=>?_);have⟨apn,apo,apq,apr,aps⟩:=pf5 apy apn apo apq apr aps;have⟨apt,apu,ao1,_⟩:=pl2 apy apt apu ao1;refine go ?_;refine c_dv hmix 10 [20,93,94,95,96,97,98,99,100] [some (94,QV p 20),some (95,.int .i64 y1),some (96,.int .i64 f),some (97,QV f 20),some (98,.tuple #[QV (p+f) 20,.int .i64 0]),some (93,.tuple #[QV (p+f) 20,.int .i64 0]),some (99,QV (p+f) 20),some (100,.int .i64 0),none,none] (XA atg 8 9 20 25 #[S ([]),S ([])] #[S ((qR (p+f) 20).1),S ((qR (p+f) 20).2)]) XA.start krRjh krRjh krRjh ?_ ?_
 refine⟨λaxo _ _ ati _ art _ _ _=>?_,?_⟩;obtain⟨axo,rfl⟩:=ovE ati;have atj:=(be art.1 ars);refine go ?_;exact dvA rfl art erRjh;refine⟨λaxv _ _ atk _ atl _ _ _=>?_,?_⟩;obtain⟨axv,rfl⟩:=ovE atk;refine go ?_;exact dvA rfl atl erRjh;refine⟨λatm _ _ ax4 atn aru _ _ _=>?_,?_⟩;obtain⟨atm,rfl⟩:=ovE ax4;have ato:=zpv (atn 1 _ _ rfl rfl);refine clb en3010 (hc:=cEqZ (pickL15_ok y1 60 _ hy1 om) ef) (hk:=?_) (hv:=cons_eq ato (cons_eq rfl rfl));rintro _ _ arw rfl;refine go ?_;exact dvA rfl aru arw.2;refine⟨λatp _ _ ayc atq arx _ _ _=>?_,?_⟩;obtain⟨atp,rfl⟩:=ovE ayc;have atr:=zpv (atq 2 _ _ rfl rfl);have aqy:=xt ao1 arx.1;refine clb en3011 (hc:=lfof_ok (by unfold In64;omega) (by unfold In64;decide) dc (ht.ext aqy)) (hk:=?_) (hv:=cons_eq atr (cons_eq rfl rfl));rintro _ _ ary rfl;refine go ?_;exact dvA rfl arx ary.2;refine⟨λarz _ _ ayk ar0 ar1 _ _ _=>?_,?_⟩;obtain⟨arz,rfl⟩:=ovE ayk;have att:=zpv (ar0 0 _ _ rfl rfl);have atu:=zpv (ar0 3 _ _ rfl rfl);have aqz:=xt ao1 ar1.1;refine clb en217 (hc:=cEq (Y:=.tuple #[QV (p+f) 20,.int .i64 0]) (qAddX (q9_12 om dc dc) (q9_12 om dc dc) (ht.ext aqz)) (congrArg (λr:R=>Value.tuple #[.agg #[S r.1,S r.2],.int .i64 0]) (qR_congr dc dc om))) (hk:=?_) (hv:=cons_eq att (cons_eq atu rfl));rintro _ _ ar2 rfl;refine go ?_;exact dvA rfl ar1 ar2.2
 refine⟨λatv _ _ ays atw atx _ _ _=>?_,?_⟩;obtain⟨atv,rfl⟩:=ovE ays;have aty:=zpv (atw 4 _ _ rfl rfl);refine go ?_;exact dvA rfl atx erRjh;refine⟨λatz _ _ ayy at0 at1 _ _ _=>?_,?_⟩;obtain⟨atz,rfl⟩:=ovE ayy;have at2:=zpv (at0 5 _ _ rfl rfl);refine go ?_;exact dvA rfl at1 erRjh;refine⟨λat3 _ _ ay4 at4 at6 _ _ _=>?_,?_⟩;obtain⟨at3,rfl⟩:=ovE ay4;have at7:=zpv (at4 5 _ _ rfl rfl);refine go ?_;exact dvA rfl at6 erRjh;refine⟨λay8 _ _ azb _ ar3 at8 at9 _=>?_,?_⟩;obtain⟨ay8,rfl⟩:=ovE azb;have aq0:=xt ao1 ar3.1;have aze:=bz aq0;refine al inf36 (λ_ ar4 aua=>?_);refine go ?_;exact dvAa rfl ar3 (unl at8 (i:=8) (j:=9) rfl at9) ar4.2 aua;refine⟨λaub _ _ azi auc aq1 _ aud aue=>?_,?_⟩;obtain⟨aub,rfl⟩:=ovE azi;have auf:=zpv (auc 6 _ _ rfl rfl);have aq2:=xt ao1 aq1.1;have azk:=bz aq2;obtain⟨_,aql,auh,aui⟩:=XA.opn aq1 (aue 8 rfl) aud;have aql:=zpv aql;have azl:=bz ao1;refine SA aui (λ_ aq3 auj=>?_);have azn:=psz aq3;refine go ?_;exact dvAs (.inr rfl) aq1 aql auh aq3 auj;exact trivial;intro ap4 _ _ ar5 aqa auk api;obtain⟨ap4,rfl⟩:=ovE aqa;have aop:=(be api.1 apn);have azq:=bt aop;have r8:=(be api.1 apo);have azr:=bt r8;have aoq:=(be api.1 apq);have azs:=bt aoq;have aor:=(be api.1 apr);have azt:=bt aor;have aos:=(be api.1 aps);have azu:=bt aos;have aot:=(be api.1 apt);have azv:=bt aot
 have aom:=(be api.1 apu);have azw:=bt aom;have aon:=(be api.1 ars);have azx:=bt aon;have aol:=xt ao1 api.1;have azy:=bz aol;have azz:=bz api.1;obtain⟨ar6,aq4,_,aoo⟩:=XA.fin api (ar5 8 rfl) (.inl (ar5 9 rfl));have aq4:=zpv aq4;have az1:=bt aoo;have aul:=zpv (auk 7 _ _ rfl rfl);refine go ?_;have aq5:=aqx;refine go ?_;refine clb en217 (hc:=cEq (Y:=.tuple #[QV (l+h+p) 20,.int .i64 0]) (qAddX (q9_12 om dc dc) (q9_12 om dc dc) (ht.ext aol)) (congrArg (λr:R=>Value.tuple #[.agg #[S r.1,S r.2],.int .i64 0]) (qR_congr dc dc om))) (hk:=?_);rintro _ _ apv rfl;have⟨aop,r8,aoq,aor,aos⟩:=bf5 apv.2 aop r8 aoq aor aos;have⟨aot,aom,aon,aoo,aol⟩:=be4 apv.2 aot aom aon aoo aol;refine go ?_;refine al inf36 (λ_ apw aum=>?_);have⟨aop,r8,aoq,aor,aos⟩:=bf5 apw.2 aop r8 aoq aor aos;have⟨aot,aom,aon,aoo,aol⟩:=be4 apw.2 aot aom aon aoo aol;refine SA aum (λ_ apj aox=>?_);have⟨aop,r8,aoq,aor,aos⟩:=pf5 apj aop r8 aoq aor aos;have⟨aot,aom,aon,aoo,aol,_⟩:=pl4 apj aot aom aon aoo aol;refine go ?_;refine clb en220 (hc:=cEq (Y:=.tuple #[QV (l+h-p) 20,.int .i64 0]) (qSubX (q9_12 om dc dc) (q9_12 om dc dc) (ht.ext aol)) (congrArg (λr:R=>Value.tuple #[.agg #[S r.1,S r.2],.int .i64 0]) (qR_congr dc dc om))) (hk:=?_);rintro _ _ apk rfl;have⟨aop,r8,aoq,aor,aos⟩:=bf5 apk.2 aop r8 aoq aor aos;have⟨aot,aom,aon,aoo,aox,aol⟩:=be5 apk.2 aot aom aon aoo aox aol;refine go ?_;refine al inf36 (λ_ apl aun=>?_)
 have⟨aop,r8,aoq,aor,aos⟩:=bf5 apl.2 aop r8 aoq aor aos;have⟨aot,aom,aon,aoo,aox,aol⟩:=be5 apl.2 aot aom aon aoo aox aol;refine SA aun (λ_ apf aoy=>?_);have⟨aop,r8,aoq,aor,aos⟩:=pf5 apf aop r8 aoq aor aos;have⟨aot,aom,aon,aoo,aox,aol,_⟩:=pl5 apf aot aom aon aoo aox aol;refine go ?_;have auo:ap4 20=pT ar6:=(aq4);refine go ?_;refine clb en217 (hc:=cEq (Y:=.tuple #[QV (l+h+(p+f)) 20,.int .i64 0]) (qAddX (q9_12 om dc dc) (q9_12 om dc dc) (ht.ext aol)) (congrArg (λr:R=>Value.tuple #[.agg #[S r.1,S r.2],.int .i64 0]) (qR_congr dc dc om))) (hk:=?_);rintro _ _ apg rfl;have⟨aop,r8,aoq,aor,aos⟩:=bf5 apg.2 aop r8 aoq aor aos;have⟨aot,aom,aon,aoo,aox⟩:=bf5 apg.2 aot aom aon aoo aox;have⟨aoy,aol⟩:=be1 apg.2 aoy aol;refine go ?_;refine al inf36 (λ_ aph aup=>?_);have⟨aop,r8,aoq,aor,aos⟩:=bf5 aph.2 aop r8 aoq aor aos;have⟨aot,aom,aon,aoo,aox⟩:=bf5 aph.2 aot aom aon aoo aox;have⟨aoy,aol⟩:=be1 aph.2 aoy aol;refine SA aup (λ_ apc ao0=>?_);have⟨aop,r8,aoq,aor,aos⟩:=pf5 apc aop r8 aoq aor aos;have⟨aot,aom,aon,aoo,aox⟩:=pf5 apc aot aom aon aoo aox;have⟨aoy,aol,_⟩:=pl1 apc aoy aol;refine go ?_;refine l_op (k_fieldAddr (b:=aow.heap.size) (o:=0) (off:=4) (oo:=4) U2296 rfl rfl sz36 rfl rfl ?_);refine go ?_;refine l_op (k_fieldAddr (b:=aow.heap.size) (o:=0) (off:=6) (oo:=6) U2296 rfl rfl sz36 rfl rfl ?_);refine go ?_
 refine l_op (k_fieldAddr (b:=aow.heap.size) (o:=0) (off:=8) (oo:=8) U2296 rfl rfl sz36 rfl rfl ?_);refine go ?_;refine cl en2059 ((hOr _ (ht.ext aol))) ?_;rintro _ aqm apd rfl;have⟨aop,r8,aoq,aor,aos⟩:=bf5 apd.2 aop r8 aoq aor aos;have⟨aot,aom,aon,aoo,aox⟩:=bf5 apd.2 aot aom aon aoo aox;have⟨aoy,ao0,aol⟩:=be2 apd.2 aoy ao0 aol;refine go ?_;refine al inf1032 (λ_ ape auq=>?_);have⟨aop,r8,aoq,aor,aos⟩:=bf5 ape.2 aop r8 aoq aor aos;have⟨aot,aom,aon,aoo,aox⟩:=bf5 ape.2 aot aom aon aoo aox;have⟨aoy,ao0,aol⟩:=be2 ape.2 aoy ao0 aol;refine SA auq (λ_ ao9 ao3=>?_);have⟨aop,r8,aoq,aor,aos⟩:=pf5 ao9 aop r8 aoq aor aos;have⟨aot,aom,aon,aoo,aox⟩:=pf5 ao9 aot aom aon aoo aox;have⟨aoy,ao0,aol,_⟩:=pl2 ao9 aoy ao0 aol;refine go ?_;refine l_op (k_fieldAddr (b:=aow.heap.size) (o:=0) (off:=4) (oo:=4) U2296 rfl rfl sz36 rfl rfl ?_);refine go ?_;refine l_op (k_fieldAddr (b:=aow.heap.size) (o:=0) (off:=6) (oo:=6) U2296 rfl rfl sz36 rfl rfl ?_);refine go ?_;refine l_op (k_fieldAddr (b:=aow.heap.size) (o:=0) (off:=8) (oo:=8) U2296 rfl rfl sz36 rfl rfl ?_);refine go ?_;refine cl en2059 ((hOl _ (ht.ext aol))) ?_;rintro _ asb apa rfl;have⟨aop,r8,aoq,aor,aos⟩:=bf5 apa.2 aop r8 aoq aor aos;have⟨aot,aom,aon,aoo,aox⟩:=bf5 apa.2 aot aom aon aoo aox;have⟨aoy,ao0,ao3,aol⟩:=be3 apa.2 aoy ao0 ao3 aol;refine go ?_;refine al inf1032 (λ_ apb aur=>?_);have⟨aop,r8,aoq,aor,aos⟩:=bf5 apb.2 aop r8 aoq aor aos
 have⟨aot,aom,aon,aoo,aox⟩:=bf5 apb.2 aot aom aon aoo aox;have⟨aoy,ao0,ao3,aol⟩:=be3 apb.2 aoy ao0 ao3 aol;refine SA aur (λ_ ao6 ap0=>?_);have⟨aop,r8,aoq,aor,aos⟩:=pf5 ao6 aop r8 aoq aor aos;have⟨aot,aom,aon,aoo,aox⟩:=pf5 ao6 aot aom aon aoo aox;have⟨aoy,ao0,ao3,aol,_⟩:=pl3 ao6 aoy ao0 ao3 aol;refine go ?_;refine l_op (k_fieldAddr (b:=aow.heap.size) (o:=0) (off:=4) (oo:=4) U2296 rfl rfl sz36 rfl rfl ?_);refine go ?_;refine l_op (k_fieldAddr (b:=aow.heap.size) (o:=0) (off:=6) (oo:=6) U2296 rfl rfl sz36 rfl rfl ?_);refine go ?_;refine l_op (k_fieldAddr (b:=aow.heap.size) (o:=0) (off:=8) (oo:=8) U2296 rfl rfl sz36 rfl rfl ?_);refine go ?_;refine cl en2059 ((hOa _ (ht.ext aol))) ?_;rintro _ _ ao7 rfl;have⟨aop,r8,aoq,aor,aos⟩:=bf5 ao7.2 aop r8 aoq aor aos;have⟨aot,aom,aon,aoo,aox⟩:=bf5 ao7.2 aot aom aon aoo aox;have⟨aoy,ao0,ao3,ap0,aol⟩:=be4 ao7.2 aoy ao0 ao3 ap0 aol;refine go ?_;refine al inf1032 (λ_ ao8 aus=>?_);have⟨aop,r8,aoq,aor,aos⟩:=bf5 ao8.2 aop r8 aoq aor aos;have⟨aot,aom,aon,aoo,aox⟩:=bf5 ao8.2 aot aom aon aoo aox;have⟨aoy,ao0,ao3,ap0,aol⟩:=be4 ao8.2 aoy ao0 ao3 ap0 aol;refine SA aus (λ_ ao4 _=>?_);have⟨aop,r8,aoq,aor,aos⟩:=pf5 ao4 aop r8 aoq aor aos;have⟨aot,aom,aon,aoo,aox⟩:=pf5 ao4 aot aom aon aoo aox;have⟨aoy,ao0,ao3,ap0,aol,_⟩:=pl4 ao4 aoy ao0 ao3 ap0 aol;refine go ?_
 refine l_op (k_loadA (cs:=[S (qR vad vbd).1,S (qR vad vbd).2,S (qR wad wbd).1,S (qR wad wbd).2]) (b:=aqm.heap.size) (o:=0) U1032 rfl sz1032 rfl (Blk.cells ao3 (i:=0) rfl) ?_);refine go ?_;refine l_op (k_loadA (cs:=[S (qR vad vbd).1,S (qR vad vbd).2,S (qR wad wbd).1,S (qR wad wbd).2]) (b:=asb.heap.size) (o:=0) U1032 rfl sz1032 rfl (Blk.cells ap0 (i:=0) rfl) ?_);refine go ?_;refine l_op (k_eqD (m:=4) (D:=4) dc krRjh krRjh krRjh (lits4 (q_len qd).1 (q_len qd).2 (q_len qe).1 (q_len qe).2) rfl rfl ?_);refine go ?_;refine cl en49 (qCmpX qd qf (ht.ext aol)) ?_;rintro _ _ ao5 rfl;have aol:=xt aol ao5.2;refine go ?_;exact f_ret1 (t:=6) (v:=.bool (decide ((cmpI (vad*wbf) (waf*vbd))<=0))) rfl aol (congrArg Value.bool (decide_eq_true hLe)) rfl
end Go.Proofs.YtmehbpjpbbhohaaGreatDoor
namespace Go.Proofs.YtmehbpjpbbhohaaGreatDoor
open Go Go.Eng Go.RowKit
theorem riskOutside_law {x0 x1 x2 x3 x4 x5 x6 y0 y1:Int}{w:World}(hx0:In64 x0)(hx1:In64 x1)(hx2:In64 x2)(hx3:In64 x3)(hx4:In64 x4)(hx5:In64 x5)(hx6:In64 x6)(hy0:In64 y0)(hy1:In64 y1)(ht:Tb w):
    CL 5 #[.agg #[.int .i64 x0,.int .i64 x1,.int .i64 x2,.int .i64 x3,.int .i64 x4,.int .i64 x5,.int .i64 x6],.int .i64 y0,.int .i64 y1] w (Ret w λv _=>v=.bool true):=by
  obtain⟨m,s,e,l,h,lo,up,P,hMd⟩:=made_c hx0 hx1 hx2 hx3 hx4 hx5 hx6
  have p0:=pick_bd y0 60 dc
  have f0:=pick_bd y1 60 dc
  generalize hp:pickI y0 60=p at p0
  generalize hf:pickI y1 60=f at f0
  have tt:=P.tst
  obtain⟨_,_,a3,a4,a5,a6,a7,a8,a9,b1,_,_,_,_⟩:=P
  obtain⟨s,rfl,s1,s2⟩:=nat_of ⟨a3,a4⟩
  obtain⟨e,rfl,e1,e2⟩:=nat_of ⟨a5,a6⟩
  obtain⟨v,hv⟩:=dr_all s s1 s2
  obtain⟨_,hv'⟩:=dr_all e e1 e2
  obtain⟨F,C,hF⟩:=Fcs.of hv ⟨s1,by omega⟩ 5 dc dc
  obtain⟨G,D,hG⟩:=Fcs.of hv' ⟨e1,by omega⟩ 5 dc dc
  have T:=t12 (pl:=5) dc
  have T5:tenI 5=100000:=by decide
  have TT:0<tenI 5*tenI 5:=Int.mul_pos T.2 T.2
  have bF:∀K,0<=F K∧F K<=C K∧C K<=100000:=λK=>by have:=hF.fc.bd (K:=K);omega
  have bG:∀K,0<=G K∧G K<=D K∧D K<=100000:=λK=>by have:=hG.fc.bd (K:=K);omega
  have qT:∀z:Int,0<=z->z<=1000000->Q9 z (tenI 5):=λz h1 h2=>q9_12 om T.2 om
  have qTT:∀z:Int,0<=z->z<=10^12->Q9 z (tenI 5*tenI 5):=λz h1 h2=>⟨Nat.lt_of_le_of_lt (show z.natAbs<=10^12 by omega) dc,TT,by rw[T5];decide⟩
  have hOm:∀W,Tb W->_:=λW hW=>outside_sh (pl:=5) (va:=m) (vb:=10) (sa:=s) (sb:=10) (la:=l) (lb:=10) (ha:=h) (hb:=10) (n1:=5*(l-m)) (d1:=5*(s:Int)) (n2:=5*(m-h)) (d2:=5*(s:Int)) dc dc om dc dc om om dc dc om dc dc om dc dc om (by grind) (by grind) om om om om om om (hF.sh _) (hF.sh _) hW
  have hO:∀q:Int,-200<=q∧q<=200->∀W,Tb W->_:=λq hq W hW=>outside_sh (pl:=5) (va:=l+h+q) (vb:=20) (sa:=e) (sb:=20) (la:=l) (lb:=10) (ha:=h) (hb:=10) (n1:=5*(l-h-q)) (d1:=5*(e:Int)) (n2:=5*(l-h+q)) (d2:=5*(e:Int)) dc dc om dc dc om om dc dc om dc dc om dc dc om (by grind) (by grind) om om om om om om (hG.sh _) (hG.sh _) hW
  have hI:∀W,Tb W->_:=λW hW=>cAv (l:=[.int .i64 5]) ((hF.tsh hG frm tt).inside hW) tsm_eq
  have nF:=hF.fc.neg (5*(m-h))
  rw[show -(5*(m-h))=5*(h-m)by omega]at nF
  have bm:=bF (5*(m-h))
  have bl:=bF (5*(l-m))
  have bh:=bF (5*(h-m))
  have hh:h2 (10*h-10*m)=5*(h-m):=by have:=h2_even (x:=10*h-10*m) om;omega
  have hl':h2 (10*l-10*m)=5*(l-m):=by have:=h2_even (x:=10*l-10*m) om;omega
  have eL:mLo (sdO F C G D (10*m) (5*lo) (5*up)).f (sdO F C G D (10*m) (5*lo) (5*up)).c (10*l) (10*h)=max 0 (F (5*(h-m))-C (5*(l-m))):=by
    show max 0 (F (h2 (10*h-10*m))-C (h2 (10*l-10*m)))=_
    rw[hh,hl']
  have eH:mHi (sdO F C G D (10*m) (5*lo) (5*up)).f (sdO F C G D (10*m) (5*lo) (5*up)).c (10*l) (10*h)=max 0 (C (5*(h-m))-F (5*(l-m))):=by
    show max 0 (C (h2 (10*h-10*m))-F (h2 (10*l-10*m)))=_
    rw[hh,hl']
  rw[eL,eH]at hI
  have hgr:=grow_le (e:=e) (w:=(h-l).toNat) (j:=p.toNat) (k:=(p+f).toNat) e1 e2 om om om om hG.fc
  rw[show 5*(((p.toNat:Nat):Int)-(((h-l).toNat:Nat):Int))=5*(l-h+p)by omega,show -(5*(((p.toNat:Nat):Int)+(((h-l).toNat:Nat):Int)))=5*(l-h-p)by omega,show 5*((((p+f).toNat:Nat):Int)-(((h-l).toNat:Nat):Int))=5*(l-h+(p+f))by omega,show -(5*((((p+f).toNat:Nat):Int)+(((h-l).toNat:Nat):Int)))=5*(l-h-(p+f))by omega]at hgr
  have g1:=bG (5*(l-h+p))
  have g2:=bG (5*(l-h-p))
  have g3:=bG (5*(l-h+(p+f)))
  have g4:=bG (5*(l-h-(p+f)))
  have hl:=hO (-p) om
  rw[show l-h- -p=l-h+p by omega,show l-h+-p=l-h-p by omega,show l+h+-p=l+h-p by omega,Int.add_comm (G (5*(l-h+p))),Int.add_comm (D (5*(l-h+p)))]at hl
  rw[T5]at nF
  have hA:∀W,Tb W->_:=λW hW=>encAdd_ok (x:=(qR (min (F (5*(l-m))+F (5*(m-h))) (tenI 5)) (tenI 5),qR (min (C (5*(l-m))+C (5*(m-h))) (tenI 5)) (tenI 5))) (y:=(qR (max 0 (F (5*(h-m))-C (5*(l-m)))) (tenI 5),qR (max 0 (C (5*(h-m))-F (5*(l-m)))) (tenI 5))) (IvR.cell om om om dc) (IvR.cell om om om dc) rfl rfl (qT _ om om) (qT _ om om) rfl rfl (qT _ om om) (qT _ om om) hW
  refine outside_walk hy0 hy1 hp hf p0 f0 ⟨a7,a8⟩ ⟨a9,b1⟩ (qT _ om om) (qT _ om om) (qT _ om om) ?_ sane_c (λW _=>hMd W) hOm hI hA ?_ (hO p om) hl (hO (p+f) om) ht
  · exact cmp_T1 T.2 om
  · intro W hW
    rw[T5]
    refine lfcontains_ok (by unfold In64;decide) (by unfold In64;decide) dc (λW hW=>?_) hW
    have h1:=encContainsG_ok (a:=min (F (5*(l-m))+F (5*(m-h))) 100000*100000+max 0 (F (5*(h-m))-C (5*(l-m)))*100000) (b:=100000*100000) (c:=min (C (5*(l-m))+C (5*(m-h))) 100000*100000+max 0 (C (5*(h-m))-F (5*(l-m)))*100000) (d:=100000*100000) (m:=1) (n:=1) (qTT _ om om) (qTT _ om om) qone (cmpI_nonpos.2 om) hW
    simp only[cmpI_nonpos]at h1
    rw[decide_eq_true om,decide_eq_true om]at h1
    exact h1
end Go.Proofs.YtmehbpjpbbhohaaGreatDoor
