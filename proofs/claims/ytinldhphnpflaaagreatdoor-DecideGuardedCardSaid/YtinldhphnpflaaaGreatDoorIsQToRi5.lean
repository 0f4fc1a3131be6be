/- Part of the proof of a statement about decisions. -/
import Derived.Test.YtinldhphnpflaaaGreatDoorIsAToIsP
import Derived.Test.YtinldhphnpflaaaGreatDoorSp15ToSpM
import Derived.Test.YtinldhphnpflaaaGreatDoorRatQToSp14
import Derived.Test.YtinldhphnpflaaaGreatDoorEngPToEngH
import Derived.Test.YtinldhphnpflaaaGreatDoorBaseToEngJ
import Derived.Test.YtinldhphnpflaaaGreatDoorRat1ToSp2
import Derived.MapKept
import Derived.Carry
import Derived.Test.YtinldhphnpflaaaGreatDoorInt1ToLib10
set_option linter.all false
namespace Go.Proofs.YtinldhphnpflaaaGreatDoor
def hvM (u:Nat):Nat:=Nat.add 20 (Nat.div (Nat.mul u (Nat.add 4000000 u)) 850000000000)
def hvK (c1 c2 u:Nat)(K:Nat->Nat->Bool):Bool:=
  fz (Nat.mul u 10000000000000000000) λv=>fz (Nat.div (Nat.mul v v) 10000000000000000000000000) λq1=>fz (Nat.div (Nat.add (Nat.mul v v) 9999999999999999999999999) 10000000000000000000000000) λq2=>fz (hvM u) λM=>cond (Nat.ble M 400)
    (tsK 10000000000000000000000000 q2 (Nat.add 1 (Nat.mul 2 M)) (λs1 s2=>fz s1 λs1=>fz s2 λs2=>expK 10000000000000000000000000 9999999999999999999999999 (λe1 e2=>fz (Nat.div (Nat.mul e1 c1) 10000000000000000000000000) λm1=>fz (Nat.div (Nat.add (Nat.mul e2 c2) 9999999999999999999999999) 10000000000000000000000000) λm2=>cond (Nat.ble 1 m1) (fz (Nat.div (Nat.mul s1 10000000000000000000000000) m2) λr1=>fz (Nat.div (Nat.add (Nat.mul s2 10000000000000000000000000) (Nat.pred m1)) m1) λr2=>K r1 r2) false) (Nat.div q1 2) (Nat.div (Nat.succ q2) 2)) M v 0) false
theorem of_ex {n d u:Nat}(hd:0<d)(hn:n*1000000=u*d):ofP S25 n d=(u*10000000000000000000,u*10000000000000000000):=by
  have e:n*S25=u*10000000000000000000*d:=by
    have:n*S25=n*1000000*10000000000000000000:=by rw[Nat.mul_assoc]
    rw[this,hn];ac_rfl
  unfold ofP
  rw[e,Nat.mul_div_cancel _ hd]
  congr 1
  refine Nat.le_antisymm ((upn_le_iff hd).2 (Nat.le_refl _)) ?_
  exact Nat.le_of_mul_le_mul_right (le_upn (a:=u*10000000000000000000*d) hd) hd
theorem hvK_ok {c:N2}{n d u:Nat}{K:Nat->Nat->Bool}(hc:rootP S25 (byP (piN 25,piN 25+1) 2 1)=some c)(hd:0<d)(hd6:d<=1000000)(hn:n*1000000=u*d)(h1:1000000<=u)(h8:u<=8000000)(h:hvK c.1 c.2 u K=true):
    ∃h r1 r2,hnP S25 25 n d=some h∧r1<=h.1∧h.2<=r2∧K r1 r2=true:=by
  have hS0:0<S25:=by decide
  have n8:n<=8*d:=by
    have:u*d<=8000000*d:=Nat.mul_le_mul_right _ h8
    omega
  unfold hvK at h
  rw[fz_eq,fz_eq,fz_eq,fz_eq]at h
  rcases cond_t h with⟨hM,h⟩|⟨_,h⟩
  · rw [Nat.ble_eq]at hM
    have ev:=of_ex hd hn
    have eq:tmP S25 (ofP S25 n d) (ofP S25 n d)=(Nat.div (Nat.mul (Nat.mul u 10000000000000000000) (Nat.mul u 10000000000000000000)) S25,Nat.div (Nat.add (Nat.mul (Nat.mul u 10000000000000000000) (Nat.mul u 10000000000000000000)) 9999999999999999999999999) S25):=by
      rw[ev];unfold tmP;rw[upn_eq hS0];rfl
    have vv:Vd (ofP S25 n d):=Vd.of hd
    have vq:=vv.tm hS0 vv
    obtain⟨_,b2⟩:=hn_sq (S:=S25) (by decide) hd n8
    have q1:=congrArg Prod.fst eq
    have q2:=congrArg Prod.snd eq
    simp only at q1 q2
    have hq:(tmP S25 (ofP S25 n d) (ofP S25 n d)).2<=(tmP S25 (ofP S25 n d) (ofP S25 n d)).1+4:=by
      rw[q1,q2]
      show(Nat.mul (Nat.mul u 10000000000000000000) (Nat.mul u 10000000000000000000)+9999999999999999999999999)/10000000000000000000000000<=Nat.mul (Nat.mul u 10000000000000000000) (Nat.mul u 10000000000000000000)/10000000000000000000000000+4
      generalize Nat.mul (Nat.mul u 10000000000000000000) (Nat.mul u 10000000000000000000)=z
      omega
    have v2:(ofP S25 n d).2=u*10000000000000000000:=congrArg Prod.snd ev
    have v1:(ofP S25 n d).1=u*10000000000000000000:=congrArg Prod.fst ev
    have vS:S25<=(ofP S25 n d).2:=by
      rw[v2]
      have:S25=1000000*10000000000000000000:=by decide
      rw[this];exact Nat.mul_le_mul_right _ h1
    have qS:S25<=(tmP S25 (ofP S25 n d) (ofP S25 n d)).2:=by
      refine Nat.le_of_mul_le_mul_right ?_ hS0
      exact Nat.le_trans (Nat.mul_le_mul vS vS) (le_upn hS0)
    rw[<-q1,<-q2]at h
    rw[show Nat.mul u 10000000000000000000=(ofP S25 n d).2 from v2.symm]at h
    generalize hq':tmP S25 (ofP S25 n d) (ofP S25 n d)=q at *
    generalize hv':ofP S25 n d=v at *
    obtain⟨M,s1,s2,_,t4,_,_,h⟩:=hsK_ok (S:=S25) (v:=v) (q:=q) (C:=1+2*(0+hvM u)) (by decide) b2 vv vq hq (by omega) vS (f:=hvM u) (k:=0) (t:=v.2) (a:=0) (by omega) (by rfl) (Nat.le_refl _) (by show v.1<=v.2;omega) (by show v.2*S25<=v.1*S25+v.2*(0*13000)+8*S25;rw[v1,v2];exact Nat.le_trans (Nat.le_add_right _ _) (Nat.le_add_right _ _)) (Nat.le_refl 0) (by rw[Nat.zero_mul];exact Nat.zero_le _) (by rw[Nat.zero_add];exact h)
    rw[fz_eq,fz_eq]at h
    have ey:(Nat.div q.1 2,Nat.div (Nat.succ q.2) 2)=byP q 1 2:=by
      unfold byP
      rw[upn_eq (by decide),Nat.mul_one,Nat.mul_one];rfl
    obtain⟨e,he,h⟩:=expK_ok (by decide) (by decide) h
    rw[ey]at he
    rw[fz_eq,fz_eq]at h
    rcases cond_t h with⟨hm1,h⟩|⟨_,h⟩
    · rw [Nat.ble_eq]at hm1
      rw[fz_eq,fz_eq]at h
      obtain⟨r,hr⟩:=hn_tot (S:=S25) (H:=5000000000000000000000000) (pl:=25) (n:=n) (d:=d) (by decide) (by decide) (by decide) (by decide) (by omega) (by omega) hd n8
      obtain⟨_,_,_,_,s,_,_,hs,he',hc',_,_,p1,_,rfl⟩:=hn_inv hr
      rw[hv',hq']at hs
      rw[hv',hq',he]at he';cases he'
      rw[hc]at hc';cases hc'
      obtain⟨m,hR,hrs⟩:=sumP_inv hs
      have hP:∀j,Vd (tmsP (hnN S25 q) v j):=tms_all vv λn t hn ht=>(ht.tm hS0 vq).by' (by omega)
      have rat:∀m',(tmsP (hnN S25 q) v m').2<=4->∀k,m'<=k->(tmsP (hnN S25 q) v (k+1)).2*2<=(tmsP (hnN S25 q) v k).2+2:=λm' h4 k _=>r_hn hS0 (by
        rcases Nat.lt_or_ge ((2*(k+1)+1)*S25) (q.2*2)with g|g
        · exfalso
          have g5:(2*(m'+1)+1)*S25<=(2*(k+1)+1)*S25:=Nat.mul_le_mul_right _ (by omega)
          have hm:m'<110:=by
            rcases Nat.lt_or_ge m' 110 with g3|g3
            · exact g3
            · have:(2*(110+1)+1)*S25<=(2*(m'+1)+1)*S25:=Nat.mul_le_mul_right _ (by omega)
              omega
          have g3:=grow_big (X:=λk=>(tmsP (hnN S25 q) v k).2) (A:=q.2) (B:=S25) (fr:=1) (m:=m') hS0 (λk=>by
            have:=by_tm_ge (S:=S25) (n:=1) (d:=2*(k+1)+1) (t:=tmsP (hnN S25 q) v k) (q:=q) hS0 (by omega)
            rw[Nat.mul_one]at this
            rw[show 1+2*(k+1)=2*(k+1)+1 by omega]
            exact this) (by omega) (by omega) hm (by rw[show 1+2*m'+2=2*(m'+1)+1 by omega];omega)
          have g4:v.2<=4*256:=Nat.le_trans g3 (Nat.mul_le_mul_right _ h4)
          have:1025<=S25:=by decide
          omega
        · exact g)
      have g:=ts_bound hR (by omega) t4 hP (rat m (by have:=hR.stop.1;omega)) (rat M t4)
      rw[hrs]at g
      refine⟨_,_,_,hr,?_,?_,h⟩
      · show(s1-5000)*S25/((e.2*c.2+9999999999999999999999999)/S25)<=s.1*S25/(tmP S25 e c).2
        have e2:(tmP S25 e c).2=(e.2*c.2+9999999999999999999999999)/S25:=by unfold tmP;rw[upn_eq hS0];rfl
        rw[<-e2]
        exact Nat.div_le_div_right (Nat.mul_le_mul_right _ (by omega))
      · show upn (s.2*S25) (tmP S25 e c).1<=((s2+5000)*S25+Nat.pred (e.1*c.1/S25))/(e.1*c.1/S25)
        rw[upn_eq p1]
        exact Nat.div_le_div_right (Nat.add_le_add_right (Nat.mul_le_mul_right _ (by omega)) _)
    · cases h
  · cases h
end Go.Proofs.YtinldhphnpflaaaGreatDoor
namespace Go.Proofs.YtinldhphnpflaaaGreatDoor
open Go Go.Eng Go.RowKit
theorem ten_le60 {n:Nat}(h:n<=60):tenI n<=10^60:=by
  unfold tenI
  have h1:(10:Nat)^n<=10^60:=Nat.pow_le_pow_right dc h
  have h2:(((10:Nat)^60:Nat):Int)=(10:Int)^60:=by norm_cast
  omega
theorem cellW_ok (k pl:Nat){a b:Nat}(h1:a<=b)(h2:b<=1000000000000000000000000000000000000000000000000000000000000):
    CellW k pl ((a:Int),(b:Int)) ((a/10^k:Nat):Int) ((upn b (10^k):Nat):Int)∧CellW k pl (-(b:Int),-(a:Int)) (-((upn b (10^k):Nat):Int)) (-((a/10^k:Nat):Int)):=by
  have hp:0<10^k:=Nat.pow_pos dc
  have f1:a/10^k<=a:=Nat.div_le_self _ _
  have f2:upn b (10^k)<=b:=upn_le hp
  have hle:a/10^k<=upn b (10^k):=by rw[upn_eq hp];exact Nat.div_le_div_right om
  have l1:(1000000000000000000000000000000000000000000000000000000000000:Nat)<10^70:=by decide
  have l2:(1000000000000000000000000000000000000000000000000000000000000:Nat)<10^90:=by decide
  generalize he:a/10^k=f at *
  generalize hu:upn b (10^k)=c at *
  refine⟨⟨by simp only;omega,by simp only;omega,by simp only;omega,by rw[<-he];exact fl_n,by rw[<-hu];exact cl_n,by omega,by omega,by omega⟩,⟨by simp only;omega,by simp only;omega,by simp only;omega,?_,?_,by omega,by omega,by omega⟩⟩
  · rw[flI_neg (ten_pos _)];simp only[cl_n,hu]
  · rw[clI_neg (ten_pos _)];simp only[fl_n,he]
theorem cellW_shift {k pl:Nat}{a b f c:Nat}(h:CellW k pl (-(b:Int),-(a:Int)) (-(c:Int)) (-(f:Int)))(hp:pl+k<=60):CellW k pl (tenI (pl+k)-(b:Int),tenI (pl+k)-(a:Int)) (tenI pl-(c:Int)) (tenI pl-(f:Int)):=by
  obtain⟨b1,b2,le,hf,hc,_,_,_⟩:=h
  have hS:tenI (pl+k)<=10^60:=ten_le60 hp
  have hS0:=ten_pos (pl+k)
  have hT0:=ten_pos pl
  have hT:tenI pl<=10^60:=ten_le60 om
  simp only at b1 b2 le hf hc
  refine⟨by simp only;omega,by simp only;omega,by simp only;omega,?_,?_,by omega,by omega,by omega⟩
  · simp only
    unfold flI at *
    rw[show tenI (pl+k)-(b:Int)=-(b:Int)+tenI (pl+k)by omega,Int.add_mul,Int.add_mul_ediv_left _ _ om,hf]
    omega
  · simp only
    unfold clI at *
    rw[show tenI (pl+k)-(a:Int)=-(a:Int)+tenI (pl+k)by omega,Int.add_mul,Int.add_mul_ediv_left _ _ om,Int.add_mul_emod_self_left]
    split at hc
    · rename_i h0;rw[if_pos h0];omega
    · rename_i h0;rw[if_neg h0];omega
def nrB (pl:Nat)(N:Int)(d:Nat)(k:Nat):Option (Int×Int):=nrP (10^(pl+k)) (pl+k) N d
def PosR (pl n d f c:Nat):Prop:=0<n∧FindR pl (nrB pl (n:Int) d) (f:Int) (c:Int)∧FindR pl (nrB pl (-(n:Int)) d) (tenI pl-c) (tenI pl-f)
theorem nr_half {S H pl n d:Nat}{h:N2}(hn:0<n)(hH:S=2*H)(hh:hnP S pl n d=some h):nrP S pl (n:Int) d=some (((H+h.1:Nat):Int),((H+h.2:Nat):Int))∧nrP S pl (-(n:Int)) d=some ((S:Int)-((H+h.2:Nat):Int),(S:Int)-((H+h.1:Nat):Int)):=by
  have hof:ofP S 1 2=(H,H):=by
    unfold ofP
    rw[upn_eq dc,Nat.one_mul,hH,Nat.mul_div_cancel_left _ dc]
    congr 1
    omega
  unfold nrP
  constructor
  · rw[show((n:Int)).natAbs=n from rfl,hh,Option.map_some,if_neg om,hof];rfl
  · rw[show(-(n:Int)).natAbs=n by omega,hh,Option.map_some,if_pos om,hof]
    unfold miP
    simp only[]
    rw[show(H:Int)-(h.2:Int)=(S:Int)-((H+h.2:Nat):Int)by omega,show(H:Int)-(h.1:Int)=(S:Int)-((H+h.1:Nat):Int)by omega]
theorem round_half {k pl H n d:Nat}{h:N2}(hn:0<n)(hp:pl+k<=60)(hH:10^(pl+k)=2*H)(hh:hnP (10^(pl+k)) (pl+k) n d=some h)(h1:H+h.1<=H+h.2)(h2:H+h.2<=1000000000000000000000000000000000000000000000000000000000000):
    ∃r s,nrB pl (n:Int) d k=some r∧CellW k pl r (((H+h.1)/10^k:Nat):Int) ((upn (H+h.2) (10^k):Nat):Int)∧nrB pl (-(n:Int)) d k=some s∧CellW k pl s (tenI pl-((upn (H+h.2) (10^k):Nat):Int)) (tenI pl-(((H+h.1)/10^k:Nat):Int)):=by
  obtain⟨e1,e2⟩:=nr_half hn hH hh
  obtain⟨c1,c2⟩:=cellW_ok k pl h1 h2
  refine⟨_,_,e1,c1,e2,?_⟩
  have e:((10^(pl+k):Nat):Int)=tenI (pl+k):=rfl
  rw[e]
  exact cellW_shift c2 hp
theorem p40:(10:Nat)^40=10000000000000000000000000000000000000000:=by decide +kernel
def nmCk2 (S S1 H c1 c2 S' S1' H' c1' c2':Nat)(n d:Nat)(K:Nat->Nat->Bool):Bool:=hnK S S1 c1 c2 (λr1 r2=>fz (Nat.add H r1) λa=>fz (Nat.add H r2) λb=>
  cond (and (Nat.ble a b) (Nat.ble b 1000000000000000000000000000000000000000000000000000000000000)) (fz (Nat.div a 1000000000000000) λf=>fz (Nat.div (Nat.add b (Nat.pred 1000000000000000)) 1000000000000000) λc=>cond (Nat.ble c (Nat.succ f)) (K f c)
    (hnK S' S1' c1' c2' (λr1 r2=>fz (Nat.add H' r1) λa=>fz (Nat.add H' r2) λb=>cellK 10000000000000000000000000000000000000000 a b K) n d)) false) n d
theorem nmCk2_ok {S S1 H S' S1' H' pl n d:Nat}{c c':N2}{K:Nat->Nat->Bool}(hp:pl<=12)(hS:S=10^(pl+15))(h1:S1=S-1)(hH:S=2*H)(hc:rootP S (byP (piN (pl+15),piN (pl+15)+1) 2 1)=some c)(hcb:bdB c=true)(hS':S'=10^(pl+40))(h1':S1'=S'-1)(hH':S'=2*H')(hc':rootP S' (byP (piN (pl+40),piN (pl+40)+1) 2 1)=some c')(hcb':bdB c'=true)(hn:0<n)(hd:0<d)(hk:nmCk2 S S1 H c.1 c.2 S' S1' H' c'.1 c'.2 n d K=true):∃f g,PosR pl n d f g∧K f g=true:=by
  have hS0:0<S:=by rw[hS];exact Nat.pow_pos dc
  have hS0':0<S':=by rw[hS'];exact Nat.pow_pos dc
  obtain⟨h,hh,hq⟩:=hnK_ok hS0 h1 hc hcb hd hk
  clear hk
  have hk:=hq
  clear hq
  rw[fz_eq,fz_eq]at hk
  rcases cond_t hk with⟨h2,hk⟩|⟨_,hk⟩
  · simp only[Bool.and_eq_true,Nat.ble_eq]at h2
    obtain⟨h2,h3⟩:=h2
    simp only[fz_eq]at hk
    subst hS
    obtain⟨r,s,e1,w1,e2,w2⟩:=round_half (k:=15) hn om hH hh h2 h3
    have e3:Nat.div (Nat.add H h.1) 1000000000000000=(H+h.1)/10^15:=rfl
    have e4:Nat.div (Nat.add (Nat.add H h.2) (Nat.pred 1000000000000000)) 1000000000000000=upn (H+h.2) (10^15):=by rw[upn_eq dc];rfl
    rw[e3,e4]at hk
    rcases cond_t hk with⟨h4,hk⟩|⟨h4,hk⟩
    · rw[Nat.ble_eq]at h4
      refine⟨(H+h.1)/10^15,upn (H+h.2) (10^15),⟨hn,⟨by omega,Or.inl ⟨r,e1,w1⟩⟩,⟨by omega,Or.inl ⟨s,e2,w2⟩⟩⟩,hk⟩
    · have h5:(H+h.1)/10^15+1<upn (H+h.2) (10^15):=by
        rcases Nat.lt_or_ge ((H+h.1)/10^15+1) (upn (H+h.2) (10^15))with x|x
        · exact x
        · rw[show Nat.ble (upn (H+h.2) (10^15)) (Nat.succ ((H+h.1)/10^15))=true from Nat.ble_eq_true_of_le x]at h4;cases h4
      obtain⟨h',hh',hk⟩:=hnK_ok hS0' h1' hc' hcb' hd hk
      unfold cellK at hk
      rcases cond_t hk with⟨h6,hk⟩|⟨_,hk⟩
      · simp only[Bool.and_eq_true,Nat.ble_eq]at h6
        obtain⟨h6,h7⟩:=h6
        simp only[fz_eq]at hk
        rcases cond_t hk with⟨h8,hk⟩|⟨_,hk⟩
        · rw[Nat.ble_eq]at h8
          have hH2:10^(pl+40)=2*H':=by rw[<-hS'];exact hH'
          have hh2:hnP (10^(pl+40)) (pl+40) n d=some h':=by rw[<-hS'];exact hh'
          obtain⟨r',s',e1',w1',e2',w2'⟩:=round_half (k:=40) hn om hH2 hh2 h6 h7
          have e5:Nat.div (Nat.add H' h'.1) 10000000000000000000000000000000000000000=(H'+h'.1)/10^40:=by rw[p40];rfl
          have e6:Nat.div (Nat.add (Nat.add H' h'.2) (Nat.pred 10000000000000000000000000000000000000000)) 10000000000000000000000000000000000000000=upn (H'+h'.2) (10^40):=by rw[p40,upn_eq dc];rfl
          rw[e5,e6]at hk h8
          refine⟨(H'+h'.1)/10^40,upn (H'+h'.2) (10^40),⟨hn,⟨by omega,Or.inr ⟨r,r',_,_,e1,w1,by omega,e1',w1'⟩⟩,⟨by omega,Or.inr ⟨s,s',_,_,e2,w2,by omega,e2',w2'⟩⟩⟩,hk⟩
        · cases hk
      · cases hk
  · cases hk
theorem red_ng {a b:Nat}(hb:0<b):redN (-(a:Int)) (b:Int)=-((a/Nat.gcd a b:Nat):Int)∧redD (-(a:Int)) (b:Int)=((b/Nat.gcd a b:Nat):Int):=by
  have hg:(Int.gcd (-(a:Int)) (b:Int))=Nat.gcd a b:=by rw[Int.neg_gcd];rfl
  unfold redN redD
  rw[if_neg om,if_neg om,hg]
  refine⟨?_,rfl⟩
  rw[Int.neg_ediv_of_dvd (Int.natCast_dvd_natCast.2 (Nat.gcd_dvd_left a b))];rfl
theorem ofp_k (a:Nat):ofP (10^15) a 2000=(a*500000000000,a*500000000000):=by
  have e:a*10^15=a*500000000000*2000:=by omega
  unfold ofP
  rw[upn_eq dc,e,Nat.mul_div_cancel _ dc]
  congr 1
  omega
def unK (c1 c2 p n d:Nat)(ng:Bool)(K:Bool->Bool):Bool:=hnK 1000000000000000 999999999999999 c1 c2 (λr1 r2=>cond ng
  (cond (Nat.ble 500000000000001 (Nat.add p r1)) (K true) (cond (Nat.ble (Nat.succ (Nat.add p r2)) 500000000000000) (K false) false))
  (cond (Nat.ble (Nat.succ (Nat.add 500000000000000 r2)) p) (K true) (cond (Nat.ble (Nat.succ p) (Nat.add 500000000000000 r1)) (K false) false))) n d
theorem nr_pos0 {S H pl n d:Nat}{h:N2}(hH:S=2*H)(hh:hnP S pl n d=some h):nrP S pl (n:Int) d=some (((H+h.1:Nat):Int),((H+h.2:Nat):Int)):=by
  have hof:ofP S 1 2=(H,H):=by
    unfold ofP
    rw[upn_eq dc,Nat.one_mul,hH,Nat.mul_div_cancel_left _ dc]
    congr 1
    omega
  unfold nrP
  rw[show((n:Int)).natAbs=n from rfl,hh,Option.map_some,if_neg om,hof];rfl
theorem s15:(10:Nat)^15=1000000000000000:=by decide
theorem ble_f {a b:Nat}(h:Nat.ble a b=false):¬a<=b:=λhc=>by rw[Nat.ble_eq_true_of_le hc]at h;cases h
theorem unK_ok {n d a:Nat}{c:N2}{ng:Bool}{K:Bool->Bool}(hc:rootP 1000000000000000 (byP (piN 15,piN 15+1) 2 1)=some c)(hcb:bdB c=true)(hd:0<d)(hn:ng=true->0<n)(hk:unK c.1 c.2 (a*500000000000) n d ng K=true):
    ∃u,undP (cond ng (-(n:Int)) (n:Int)) d a 2000=some u∧K u=true:=by
  unfold unK at hk
  obtain⟨h,hh,hq⟩:=hnK_ok dc dc hc hcb hd hk
  rw[<-s15]at hh
  have hH:(10:Nat)^15=2*500000000000000:=by decide
  unfold undP
  rw[ofp_k]
  cases ng with
  | true=>
    have hn0:=hn rfl
    obtain⟨_,hq⟩|⟨hx,_⟩:=cond_t hq
    case inr=>cases hx
    show∃u,((nrP (10^15) 15 (-(n:Int)) d).bind _)=_∧_
    rw[(nr_half hn0 hH hh).2,Option.bind_some]
    have eS:((10^15:Nat):Int)=1000000000000000:=by decide
    simp only[eS]
    rcases cond_t hq with⟨h1,hq⟩|⟨h1,hq⟩
    · rw[Nat.ble_eq]at h1
      refine⟨true,?_,hq⟩
      have h1':500000000000001<=a*500000000000+h.1:=h1
      rw[if_pos om]
    · have h1':¬500000000000001<=a*500000000000+h.1:=ble_f h1
      rcases cond_t hq with⟨h2,hq⟩|⟨_,hq⟩
      · rw[Nat.ble_eq]at h2
        have h2':a*500000000000+h.2+1<=500000000000000:=h2
        refine⟨false,?_,hq⟩
        rw[if_neg om,if_pos om]
      · cases hq
  | false=>
    obtain⟨hx,_⟩|⟨_,hq⟩:=cond_t hq
    case inl=>cases hx
    show∃u,((nrP (10^15) 15 (n:Int) d).bind _)=_∧_
    rw[nr_pos0 hH hh,Option.bind_some]
    simp only[]
    rcases cond_t hq with⟨h1,hq⟩|⟨h1,hq⟩
    · rw[Nat.ble_eq]at h1
      have h1':500000000000000+h.2+1<=a*500000000000:=h1
      exact⟨true,by rw[if_pos om],hq⟩
    · have h1':¬500000000000000+h.2+1<=a*500000000000:=ble_f h1
      rcases cond_t hq with⟨h2,hq⟩|⟨_,hq⟩
      · rw[Nat.ble_eq]at h2
        have h2':a*500000000000+1<=500000000000000+h.1:=h2
        exact⟨false,by rw[if_neg om,if_pos om],hq⟩
      · cases hq
def qtK (one five c1 c2 p:Nat)(K:Nat->Nat->Bool)(f:Nat):Nat->Nat->Bool:=
  Nat.rec (motive:=λ_=>Nat->Nat->Bool) (λ_ _=>false) (λ_ ih lo hi=>cond (Nat.ble hi (Nat.succ lo)) (K lo hi)
    (fz (Nat.div (Nat.add lo hi) 2) λm=>cond (Nat.ble five m)
      (fz (Nat.sub m five) λn0=>fz (Nat.gcd n0 one) λg=>fz (Nat.div n0 g) λn=>fz (Nat.div one g) λd=>unK c1 c2 p n d false λu=>cond u (ih m hi) (ih lo m))
      (fz (Nat.sub five m) λn0=>fz (Nat.gcd n0 one) λg=>fz (Nat.div n0 g) λn=>fz (Nat.div one g) λd=>unK c1 c2 p n d true λu=>cond u (ih m hi) (ih lo m)))) f
theorem qtK_ok {one five a:Nat}{c:N2}{K:Nat->Nat->Bool}(h1:0<one)(hc:rootP 1000000000000000 (byP (piN 15,piN 15+1) 2 1)=some c)(hcb:bdB c=true):∀{f F lo hi:Nat},f<=F->qtK one five c.1 c.2 (a*500000000000) K f lo hi=true->
    ∃l h:Nat,qnF (one:Int) a 2000 F ((lo:Int)-five) ((hi:Int)-five)=some ((l:Int)-five,(h:Int)-five)∧K l h=true
  |0,_,_,_,_,hk=>by cases hk
  | f + 1,F,lo,hi,hF,hk=>by
    obtain⟨G,rfl⟩:∃G,F=G+1:=⟨F-1,by omega⟩
    have hk:cond (Nat.ble hi (Nat.succ lo)) (K lo hi)
      (fz (Nat.div (Nat.add lo hi) 2) λm=>cond (Nat.ble five m)
      (fz (Nat.sub m five) λn0=>fz (Nat.gcd n0 one) λg=>fz (Nat.div n0 g) λn=>fz (Nat.div one g) λd=>unK c.1 c.2 (a*500000000000) n d false λu=>cond u (qtK one five c.1 c.2 (a*500000000000) K f m hi) (qtK one five c.1 c.2 (a*500000000000) K f lo m))
      (fz (Nat.sub five m) λn0=>fz (Nat.gcd n0 one) λg=>fz (Nat.div n0 g) λn=>fz (Nat.div one g) λd=>unK c.1 c.2 (a*500000000000) n d true λu=>cond u (qtK one five c.1 c.2 (a*500000000000) K f m hi) (qtK one five c.1 c.2 (a*500000000000) K f lo m)))=true:=hk
    unfold qnF
    rcases cond_t hk with⟨hb,hk⟩|⟨hb,hk⟩
    · have hb':hi<=lo+1:=by simpa using hb
      rw[if_neg om];exact⟨lo,hi,rfl,hk⟩
    · have hb':¬hi<=lo+1:=ble_f hb
      rw[if_pos om]
      rw[fz_eq]at hk
      have em:((lo:Int)-five+((hi:Int)-five))/2=(((lo+hi)/2:Nat):Int)-five:=by omega
      have em':Nat.div (Nat.add lo hi) 2=(lo+hi)/2:=rfl
      rw[em]
      rw[em']at hk
      generalize hm:(lo+hi)/2=m at *
      have key:∀u,undM ((m:Int)-five) one a 2000=some u->cond u (qtK one five c.1 c.2 (a*500000000000) K f m hi) (qtK one five c.1 c.2 (a*500000000000) K f lo m)=true->
          ∃l h:Nat,((undM ((m:Int)-five) one a 2000).bind λu=>if u=true then qnF (one:Int) a 2000 G ((m:Int)-five) ((hi:Int)-five)else qnF (one:Int) a 2000 G ((lo:Int)-five) ((m:Int)-five))=some ((l:Int)-five,(h:Int)-five)∧K l h=true:=by
        intro u hu hr
        rw[hu,Option.bind_some]
        cases u with
        |true=>rw[if_pos rfl];exact qtK_ok h1 hc hcb om hr
        |false=>rw[if_neg dc];exact qtK_ok h1 hc hcb om hr
      have hgp:∀n0,0<Nat.gcd n0 one:=λn0=>Nat.gcd_pos_of_pos_right _ h1
      rcases cond_t hk with⟨h5,hk⟩|⟨h5,hk⟩
      · rw[Nat.ble_eq]at h5
        simp only[fz_eq]at hk
        obtain⟨u,hu,hr⟩:=unK_ok hc hcb (Nat.div_pos (Nat.le_of_dvd h1 (Nat.gcd_dvd_right _ _)) (hgp _)) (λh=>by cases h) hk
        refine key u ?_ hr
        unfold undM
        obtain⟨r1,r2⟩:=red_nat (a:=m-five) (b:=one) h1
        rw[show(m:Int)-five=((m-five:Nat):Int)by omega,r1,r2,Int.toNat_natCast]
        exact hu
      · have h5':¬five<=m:=ble_f h5
        simp only[fz_eq]at hk
        obtain⟨u,hu,hr⟩:=unK_ok hc hcb (Nat.div_pos (Nat.le_of_dvd h1 (Nat.gcd_dvd_right _ _)) (hgp _)) (λ_=>Nat.div_pos (Nat.le_of_dvd (by show 0<five-m;omega) (Nat.gcd_dvd_left _ _)) (hgp _)) hk
        refine key u ?_ hr
        unfold undM
        obtain⟨r1,r2⟩:=red_ng (a:=five-m) (b:=one) h1
        rw[show(m:Int)-five=-((five-m:Nat):Int)by omega,r1,r2,Int.toNat_natCast]
        exact hu
def p2N:N2:=(25066282746310005024157652,25066282746310005024157653)
theorem p2_root:rootP S25 (byP (piN 25,piN 25+1) 2 1)=some p2N:=by decide +kernel
def gvK (u:Nat)(K:Nat->Nat->Nat->Bool):Bool:=hvK 25066282746310005024157652 25066282746310005024157653 u (λr1 r2=>swK 100000000000000000 r1 r2 λf=>cond (Nat.ble f 49999999) (K f r1 r2) false)
structure GvR (u f r1 r2:Nat):Prop where
  l:f*100000000000000000<r1
  r:r2<(f+1)*100000000000000000
  h:f<=49999999
  c:∀pl,pl<=8->FindR pl (nrmBd pl (-(u:Int)) 1000000) ((49999999-(f:Int))/tenI (8-pl)) ((49999999-(f:Int))/tenI (8-pl)+1)
theorem gvK_ok {u:Nat}{K:Nat->Nat->Nat->Bool}(h1:1000000<=u)(h8:u<8000000)(h:gvK u K=true):∃f r1 r2,GvR u f r1 r2∧K f r1 r2=true:=by
  unfold gvK at h
  have eS:(10:Nat)^25=S25:=by decide
  have hg:0<Nat.gcd u 1000000:=Nat.gcd_pos_of_pos_right _ dc
  have hd:0<1000000/Nat.gcd u 1000000:=Nat.div_pos (Nat.le_of_dvd dc (Nat.gcd_dvd_right _ _)) hg
  have hn:0<u/Nat.gcd u 1000000:=Nat.div_pos (Nat.le_of_dvd om (Nat.gcd_dvd_left _ _)) hg
  have d6:1000000/Nat.gcd u 1000000<=1000000:=Nat.div_le_self _ _
  have e:u/Nat.gcd u 1000000*1000000=u*(1000000/Nat.gcd u 1000000):=by
    rw[<-Nat.mul_div_assoc _ (Nat.gcd_dvd_right u 1000000),Nat.mul_comm,<-Nat.mul_div_assoc _ (Nat.gcd_dvd_left u 1000000),Nat.mul_comm]
  obtain⟨x1,x2⟩:=red_ng (a:=u) (b:=1000000) dc
  obtain⟨hh,r1,r2,hr,_,_,hk⟩:=hvK_ok (c:=p2N) p2_root hd d6 e h1 om h
  obtain⟨f,z1,z2,hk⟩:=swK_ok hk
  rcases cond_t hk with⟨hf,hk⟩|⟨_,hk⟩
  · rw[Nat.ble_eq]at hf
    refine⟨f,r1,r2,⟨z1,z2,hf,λpl hp=>?_⟩,hk⟩
    have n8:u/Nat.gcd u 1000000<=8*(1000000/Nat.gcd u 1000000):=by
      have:u*(1000000/Nat.gcd u 1000000)<=8000000*(1000000/Nat.gcd u 1000000):=Nat.mul_le_mul_right _ om
      omega
    unfold nrmBd
    rw[show(1000000:Int)=((1000000:Nat):Int)from rfl,x1,x2,Int.toNat_natCast]
    generalize u/Nat.gcd u 1000000=n at *
    generalize 1000000/Nat.gcd u 1000000=d at *
    have n6:n<=8000000:=by omega
    have m1:=Nat.mul_le_mul n6 d6
    have m2:=Nat.mul_le_mul n6 n6
    have m3:=Nat.mul_le_mul d6 d6
    have hN:=nst_nrm (N:=-(n:Int)) hd om om (by rw[show(-(n:Int)).natAbs=n by omega];omega)
    obtain⟨_,k2⟩:=nr_half (S:=S25) (H:=5000000000000000000000000) hn dc hr
    rw[<-eS]at k2
    have sS:((10^25:Nat):Int)=10000000000000000000000000:=by decide
    rw[sS]at k2
    obtain⟨_,hw0,hle0⟩:=hN.tot 25 dc dc
    have hw0:=k2.symm.trans hw0
    cases hw0
    simp only at hle0
    have t17:tenI (25-8)=100000000000000000:=by decide
    refine find_all hN (t:=25) (c:=8) dc dc dc dc k2 (by simp only;omega) (by simp only;omega) (f:=49999999-(f:Int)) (by rw[t17];simp only;omega) (by rw[t17];simp only;omega) hp (λr' hr'=>?_)
    obtain⟨w,hw,hle⟩:=hN.tot (pl+40) om om
    rw[hr']at hw;cases hw
    have i:=hN.inc 25 (pl+40-25) _ r' om om om k2 (by rw[show 25+(pl+40-25)=pl+40 by omega];exact hr')
    have iu:=i.hi
    have P:=ten_p (pl+40-25)
    have h3:=Int.mul_lt_mul_of_pos_right (show(10000000000000000000000000:Int)-((5000000000000000000000000+hh.1:Nat):Int)<(49999999-(f:Int)+1)*tenI (25-8)by rw[t17];omega) P
    exact Int.lt_of_le_of_lt hle (Int.lt_of_le_of_lt iu h3)
  · cases hk
def GuC (pl u:Nat)(f c:Int):Prop:=(8000000<=u∧f=0∧c=1)∨(0<u∧u<8000000∧FindR pl (nrmBd pl (-(u:Int)) 1000000) f c)
def GuP (k dn up:Nat):Prop:=∀pl,pl<=8->∃f c f' c':Int,GuC pl up f c'∧GuC pl dn f' c∧f<=c∧0<=f∧c<=tenI pl∧f*2000<=k*tenI pl
def gpK (k dn up:Nat):Bool:=cond (Nat.ble 8000000 up) (cond (Nat.ble 8000000 dn) true (gvK dn λ_ _ _=>true))
  (cond (Nat.beq dn up) (gvK dn λ_ _ r2=>Nat.ble 10000000000000000000000000000 (Nat.add (Nat.mul k 10000000000000000000000000) (Nat.mul 2000 r2)))
    (gvK dn λ_ r1 _=>gvK up λ_ _ r2=>and (Nat.ble r1 r2) (Nat.ble 10000000000000000000000000000 (Nat.add (Nat.mul k 10000000000000000000000000) (Nat.mul 2000 r2)))))
theorem ten_split {pl:Nat}(h:pl<=8):tenI pl*tenI (8-pl)=100000000:=by
  rw[<-ten_add,show pl+(8-pl)=8 by omega];decide
theorem gf_le {F:Int}{pl:Nat}(h:pl<=8)(h0:0<=F)(h1:F<100000000):0<=F/tenI (8-pl)∧F/tenI (8-pl)+1<=tenI pl:=by
  have P:=ten_p (8-pl)
  refine⟨Int.ediv_nonneg h0 (Int.le_of_lt P),?_⟩
  have:F/tenI (8-pl)<tenI pl:=Int.ediv_lt_of_lt_mul P (by rw[ten_split h];exact h1)
  omega
theorem GvR.cell {u f r1 r2 pl:Nat}(h:GvR u f r1 r2)(h1:0<u)(h8:u<8000000)(hp:pl<=8):GuC pl u ((49999999-(f:Int))/tenI (8-pl)) ((49999999-(f:Int))/tenI (8-pl)+1):=Or.inr ⟨h1,h8,h.c pl hp⟩
theorem gf_risk {F:Int}{k pl:Nat}(h:pl<=8)(h1:F*2000<=k*100000000):F/tenI (8-pl)*2000<=k*tenI pl:=by
  have P:=ten_p (8-pl)
  obtain⟨g,_⟩:=flT_le (a:=F) (k:=8-pl)
  have g:F/tenI (8-pl)*tenI (8-pl)<=F:=g
  refine Int.le_of_mul_le_mul_right ?_ P
  rw[show(k:Int)*tenI pl*tenI (8-pl)=k*(tenI pl*tenI (8-pl))by ac_rfl,ten_split h]
  rw[show F/tenI (8-pl)*2000*tenI (8-pl)=F/tenI (8-pl)*tenI (8-pl)*2000 by ac_rfl]
  omega
theorem gpK_ok {k dn up:Nat}(h1:1000000<=dn)(hu:dn<=up)(h:gpK k dn up=true):GuP k dn up:=by
  unfold gpK at h
  have e28:∀f r2:Nat,r2<(f+1)*100000000000000000->Nat.ble 10000000000000000000000000000 (Nat.add (Nat.mul k 10000000000000000000000000) (Nat.mul 2000 r2))=true->(49999999-(f:Int))*2000<=k*100000000:=by
    intro f r2 a b
    rw[Nat.ble_eq]at b
    have b':10000000000000000000000000000<=k*10000000000000000000000000+2000*r2:=b
    omega
  rcases cond_t h with⟨hb,h⟩|⟨hb,h⟩
  · rw[Nat.ble_eq]at hb
    rcases cond_t h with⟨hd,_⟩|⟨hd,h⟩
    · rw[Nat.ble_eq]at hd
      intro pl hp
      have:=ten_p pl
      refine⟨0,1,0,1,Or.inl ⟨hb,rfl,rfl⟩,Or.inl ⟨hd,rfl,rfl⟩,by decide,by decide,by omega,?_⟩
      rw[Int.zero_mul]
      exact Int.mul_nonneg om om
    · have hd':¬8000000<=dn:=λc=>by rw[Nat.ble_eq_true_of_le c]at hd;cases hd
      obtain⟨f,r1,r2,g,_⟩:=gvK_ok h1 om h
      intro pl hp
      have:=ten_p pl
      have h49:=g.h
      obtain⟨a1,a2⟩:=gf_le (F:=49999999-(f:Int)) hp om om
      refine⟨0,_,_,1,Or.inl ⟨hb,rfl,rfl⟩,g.cell om om hp,by omega,by decide,a2,?_⟩
      rw[Int.zero_mul]
      exact Int.mul_nonneg om om
  · have hb':¬8000000<=up:=λc=>by rw[Nat.ble_eq_true_of_le c]at hb;cases hb
    rcases cond_t h with⟨he,hx⟩|⟨_,h⟩
    · have he:=Nat.eq_of_beq_eq_true he
      subst he
      obtain⟨f,r1,r2,g,hk⟩:=gvK_ok h1 om hx
      intro pl hp
      have h49:=g.h
      obtain⟨a1,a2⟩:=gf_le (F:=49999999-(f:Int)) hp om om
      have gc:=g.cell (pl:=pl) om om hp
      exact⟨_,_,_,_,gc,gc,by omega,a1,a2,gf_risk hp (e28 f r2 g.r hk)⟩
    · obtain⟨f,r1,r2,g,h⟩:=gvK_ok h1 om h
      obtain⟨f',_,r2',g',h⟩:=gvK_ok om om h
      simp only[Bool.and_eq_true]at h
      obtain⟨hm,hk⟩:=h
      rw[Nat.ble_eq]at hm
      intro pl hp
      have h49:=g.h
      have h49':=g'.h
      have b1:=g.l
      have b2:=g'.r
      have hff:f<=f':=by omega
      obtain⟨a1,a2⟩:=gf_le (F:=49999999-(f:Int)) hp om om
      obtain⟨a3,_⟩:=gf_le (F:=49999999-(f':Int)) hp om om
      have mono:(49999999-(f':Int))/tenI (8-pl)<=(49999999-(f:Int))/tenI (8-pl):=Int.ediv_le_ediv (ten_p _) om
      exact⟨_,_,_,_,g'.cell om om hp,g.cell om om hp,by omega,a3,a2,gf_risk hp (e28 f' r2' g'.r hk)⟩
def guN (z S W j:Nat):Nat:=z*S*(10-j)+(200*W-z*S)*j
def guD (z S W j:Nat):Nat:=guN z S W j*1000/S
def guU (z S W j:Nat):Nat:=(guN z S W j*1000+(S-1))/S
def guJ (k z S W:Nat):Bool:=fz (Nat.mul z S) λa=>fz (Nat.sub (Nat.mul 200 W) a) λb=>fz (Nat.pred S) λS1=>allN (λj=>fz (Nat.mul (Nat.add (Nat.mul a (Nat.sub 10 j)) (Nat.mul b j)) 1000) λv=>fz (Nat.div v S) λdn=>fz (Nat.div (Nat.add v S1) S) λup=>gpK k dn up) 10
def guS (k z:Nat):Bool:=allN (λS=>allN (λW=>cond (Nat.beq (Nat.gcd W S) 1) (cond (Nat.ble (Nat.mul z S) (Nat.mul 100 W)) (guJ k z S W) true) true) 40) 30
def guK (k:Nat):Bool:=fz (Nat.mul (Nat.sub 2000 k) 500000000000) λp=>qtK 100 500 2506628274631000 2506628274631001 p (λlo hi=>fz (Nat.sub hi 500) λz=>cond (and (Nat.beq hi (Nat.succ lo)) (and (Nat.ble 600 hi) (Nat.ble hi 1000))) (fz (Nat.mul z 10000) λu=>and (gpK k u u) (guS k z)) false) 40 0 1000
structure GuR (k:Nat)(z:Nat):Prop where
  q:qnF 100 ((2000-k:Nat)) 2000 100 (-500) 500=some ((z:Int)-1,(z:Int))
  z1:100<=z
  z5:z<=500
  e:GuP k (z*10000) (z*10000)
  r:∀S W j,1<=S->S<=30->1<=W->W<=40->z*S<=100*W->j<=10->GuP k (guD z S W j) (guU z S W j)
theorem c15_root:rootP 1000000000000000 (byP (piN 15,piN 15+1) 2 1)=some (2506628274631000,2506628274631001):=by decide +kernel
theorem guJ_ok {k z S W j:Nat}(hS:1<=S)(hz:100<=z)(hW:z*S<=100*W)(h:guJ k z S W=true)(h1:1<=j)(h10:j<=10):GuP k (guD z S W j) (guU z S W j):=by
  unfold guJ at h
  rw[fz_eq,fz_eq,fz_eq]at h
  have h:=allN_ok h j h1 h10
  rw[fz_eq,fz_eq,fz_eq]at h
  refine gpK_ok ?_ ?_ h
  · show 1000000<=guN z S W j*1000/S
    rw[Nat.le_div_iff_mul_le om]
    have e1:100*S<=z*S:=Nat.mul_le_mul_right _ hz
    have e2:z*S*j<=(200*W-z*S)*j:=Nat.mul_le_mul_right _ om
    have e3:z*S*(10-j)+z*S*j=z*S*10:=by rw[<-Nat.mul_add];congr 1;omega
    unfold guN
    omega
  · exact Nat.div_le_div_right (Nat.le_add_right _ _)
theorem guN_mul {z S W j g:Nat}:guN z (S*g) (W*g) j=guN z S W j*g:=by
  unfold guN
  rw[show z*(S*g)=z*S*g by ac_rfl,show 200*(W*g)=200*W*g by ac_rfl,<-Nat.sub_mul,Nat.add_mul]
  congr 1 <;>ac_rfl
theorem gu_red {z S W j g:Nat}(hg:0<g)(hS:0<S):guD z (S*g) (W*g) j=guD z S W j∧guU z (S*g) (W*g) j=guU z S W j:=by
  unfold guD guU
  rw[guN_mul,show guN z S W j*g*1000=guN z S W j*1000*g by ac_rfl]
  generalize guN z S W j*1000=v
  refine⟨Nat.mul_div_mul_right _ _ hg,?_⟩
  rw[<-upn_eq hS,<-upn_eq (Nat.mul_pos hS hg)]
  refine Nat.le_antisymm ?_ ?_
  · rw[upn_le_iff (Nat.mul_pos hS hg),<-Nat.mul_assoc]
    exact Nat.mul_le_mul_right _ (le_upn hS)
  · rw[upn_le_iff hS]
    have:=le_upn (a:=v*g) (Nat.mul_pos hS hg)
    rw[<-Nat.mul_assoc]at this
    exact Nat.le_of_mul_le_mul_right this hg
theorem gu_zero {z S W:Nat}(hS:0<S):guD z S W 0=z*10000∧guU z S W 0=z*10000:=by
  unfold guD guU
  rw[<-upn_eq hS,show guN z S W 0*1000=z*10000*S by unfold guN;rw[Nat.mul_zero,Nat.add_zero,Nat.sub_zero,show z*10000*S=z*S*10*1000 by rw[Nat.mul_assoc (z*S)];ac_rfl]]
  refine⟨Nat.mul_div_cancel _ hS,Nat.le_antisymm ((upn_le_iff hS).2 (Nat.le_refl _)) ?_⟩
  exact Nat.le_of_mul_le_mul_right (le_upn (a:=z*10000*S) hS) hS
theorem guK_ok {k:Nat}(hk:k<=2000)(h:guK k=true):∃z,GuR k z:=by
  unfold guK at h
  rw[fz_eq]at h
  obtain⟨lo,_,hq,h⟩:=qtK_ok (one:=100) (five:=500) (a:=2000-k) (c:=(2506628274631000,2506628274631001)) dc c15_root dc (F:=100) dc h
  rw[fz_eq]at h
  rcases cond_t h with⟨h1,h⟩|⟨_,h⟩
  · simp only[Bool.and_eq_true,Nat.ble_eq]at h1
    obtain⟨h1,_,_⟩:=h1
    have h1:=Nat.eq_of_beq_eq_true h1
    subst h1
    rw[fz_eq]at h
    simp only[Bool.and_eq_true]at h
    obtain⟨h4,h⟩:=h
    have ez:Nat.sub (Nat.succ lo) 500=lo+1-500:=rfl
    rw[ez]at h4 h
    have z1:100<=lo+1-500:=by omega
    have e0:GuP k ((lo+1-500)*10000) ((lo+1-500)*10000):=gpK_ok (by show _<=(lo+1-500)*10000;omega) (Nat.le_refl _) h4
    refine⟨lo+1-500,⟨?_,z1,by omega,e0,λS W j s1 s30 w1 w40 hz j10=>?_⟩⟩
    · rw[show(((lo+1-500:Nat):Int)-1)=(lo:Int)-((500:Nat):Int)by omega,show((lo+1-500:Nat):Int)=((Nat.succ lo:Nat):Int)-((500:Nat):Int)by rw[Nat.succ_eq_add_one];omega]
      exact hq
    · generalize lo+1-500=z at *
      obtain⟨g,S',W',hg,rfl,rfl,hc⟩:∃g S' W',0<g∧S=S'*g∧W=W'*g∧Nat.gcd W' S'=1:=
        ⟨Nat.gcd W S,S/Nat.gcd W S,W/Nat.gcd W S,Nat.gcd_pos_of_pos_left _ w1,(Nat.div_mul_cancel (Nat.gcd_dvd_right _ _)).symm,(Nat.div_mul_cancel (Nat.gcd_dvd_left _ _)).symm,Nat.coprime_div_gcd_div_gcd (Nat.gcd_pos_of_pos_left _ w1)⟩
      have hS':0<S':=by
        rcases Nat.eq_zero_or_pos S' with e|e
        · subst e;rw[Nat.zero_mul]at s1;omega
        · exact e
      have hW':0<W':=by
        rcases Nat.eq_zero_or_pos W' with e|e
        · subst e;rw[Nat.zero_mul]at w1;omega
        · exact e
      have hS30:S'<=30:=Nat.le_trans (Nat.le_mul_of_pos_right _ hg) s30
      have hW40:W'<=40:=Nat.le_trans (Nat.le_mul_of_pos_right _ hg) w40
      have hz':z*S'<=100*W':=by
        rw[<-Nat.mul_assoc,<-Nat.mul_assoc]at hz
        exact Nat.le_of_mul_le_mul_right hz hg
      obtain⟨r1,r2⟩:=gu_red (z:=z) (S:=S') (W:=W') (j:=j) hg hS'
      rw[r1,r2]
      rcases Nat.eq_zero_or_pos j with e|j1
      · subst e
        obtain⟨q1,q2⟩:=gu_zero (z:=z) (W:=W') hS'
        rw[q1,q2];exact e0
      · unfold guS at h
        have h5:=allN_ok h S' hS' hS30
        have h6:=allN_ok h5 W' hW' hW40
        rw[hc]at h6
        rcases cond_t h6 with⟨_,h6⟩|⟨h7,_⟩
        · rcases cond_t h6 with⟨_,h6⟩|⟨h7,_⟩
          · exact guJ_ok hS' z1 hz' h6 j1 j10
          · rw[show Nat.ble (Nat.mul z S') (Nat.mul 100 W')=true from Nat.ble_eq_true_of_le hz']at h7;cases h7
        · cases h7
  · cases h
end Go.Proofs.YtinldhphnpflaaaGreatDoor
namespace Go.Proofs.YtinldhphnpflaaaGreatDoor
open Go Go.Eng Go.RowKit
attribute [local irreducible] wpListIn Code.wpIn Oper.wpIn Exit.then Exit.inBlock Exit.noGoto
set_option maxHeartbeats 40000000
end Go.Proofs.YtinldhphnpflaaaGreatDoor
namespace Go.Eng
open Go Go.RowKit
def nthO:List (Option (Nat×Value))->Nat->Option (Option (Nat×Value))
  |[],_=>none
  |x::_,0=>some x
  |_::l,i+1=>nthO l i
def VL (L:List (Option (Nat×Value)))(ls:Nat->Bool)(e:Nat->Value):Prop:=∀i d v,nthO L i=some (some (d,v))->ls i=true->e d=v
def eqO:Option Nat->Nat->Bool
  |none,_=>false
  |some a,b=>Nat.beq a b
def ndO:List Oper->Bool
  |[]=>true
  |o::l=>(match o.dst with|none=>true|some d=>l.all λp=>!eqO p.dst d)&&ndO l
def mtB:List Oper->List (Option (Nat×Value))->Bool
  |_,[]=>true
  |[],_::_=>false
  |o::os,x::xs=>(match x with|none=>true|some y=>eqO o.dst y.1)&&mtB os xs
def inD (D:List Nat)(l:List Oper):Bool:=l.all λo=>match o.dst with|none=>true|some d=>inB D d
theorem eqO_iff {o:Option Nat}{d:Nat}:eqO o d=true↔o=some d:=by
  cases o with
  |none=>simp[eqO]
  |some a=>simp only[eqO,Option.some.injEq];exact⟨Nat.eq_of_beq_eq_true,λh=>by subst h;simp⟩
theorem ndO_get:∀{l:List Oper} {i j d:Nat} {o p:Oper},ndO l=true->l[i]?=some o->l[j]?=some p->o.dst=some d->p.dst=some d->i=j
  |[],i,_,_,_,_,_,h,_,_,_=>by simp at h
  |q::l,0,0,_,_,_,_,_,_,_,_=>rfl
  | q::l,0,j+1,d,o,p,h,ho,hp,hd,he=>by
    simp at ho;subst ho
    simp only[ndO,hd,Bool.and_eq_true]at h
    have:=List.all_eq_true.1 h.1 p (List.mem_of_getElem? (by simpa using hp))
    rw[eqO_iff.2 he]at this;cases this
  | q::l,i+1,0,d,o,p,h,ho,hp,hd,he=>by
    simp at hp;subst hp
    simp only[ndO,he,Bool.and_eq_true]at h
    have:=List.all_eq_true.1 h.1 o (List.mem_of_getElem? (by simpa using ho))
    rw[eqO_iff.2 hd]at this;cases this
  | q::l,i+1,j+1,d,o,p,h,ho,hp,hd,he=>by
    simp only[ndO,Bool.and_eq_true]at h
    have e:=ndO_get h.2 (by simpa using ho) (by simpa using hp) hd he
    omega
theorem mtB_get:∀{l:List Oper} {L:List (Option (Nat×Value))} {i d:Nat} {v:Value},mtB l L=true->nthO L i=some (some (d,v))->∃o,l[i]?=some o∧o.dst=some d
  |_,[],i,_,_,_,h=>by cases i <;>cases h
  |[],_::_,_,_,_,h,_=>by cases h
  | o::os,x::xs,0,d,v,h,hx=>by
    cases hx
    simp only[mtB,Bool.and_eq_true]at h
    exact⟨o,rfl,eqO_iff.1 h.1⟩
  | o::os,x::xs,i+1,d,v,h,hx=>by
    simp only[mtB,Bool.and_eq_true]at h
    obtain⟨p,h1,h2⟩:=mtB_get h.2 (show nthO xs i=_ from hx)
    exact⟨p,by simpa using h1,h2⟩
theorem Blk.cst {w:World}{b:Nat}{t:TypeId}{ds cs:Array Value}(h:Blk w b t ds)(e:ds=cs):Blk w b t cs:=e▸h
section draws
variable {P:Program}{r:Option Nat}{n N:Nat}{e0:Nat->Value}{ds:List Deferred}{w0:World}{Q:Exit->Act->World->Prop}{M:Nat}
def EndV (N:Nat)(ds:List Deferred)(X:(Nat->Bool)->(Nat->Value)->World->Prop)(L:List (Option (Nat×Value)))(ls:Nat->Bool)(e:Nat->Value)(i:Nat)(dst:Option Nat):Exit->Act->World->Prop:=
  λx a' w'=>x=.normal∧∃v,a'=(act N e ds).put dst v∧(∀d u,nthO L i=some (some (d,u))->v=u)∧X (setB ls i) (updO e dst v) w'
def DvS (r:Option Nat)(n:Nat)(P:Program)(N:Nat)(ds:List Deferred)(l:List Oper)(D:List Nat)(L:List (Option (Nat×Value)))(X:(Nat->Bool)->(Nat->Value)->World->Prop)(e0:Nat->Value):Nat->List Oper->Prop
  |_,[]=>True
  |i,o::os=>(∀(e:Nat->Value) (w:World) (ls:Nat->Bool),(∀t,inB D t=false->e t=e0 t)->(∀k d v,nthO L k=some (some (d,v))->predAt l i k=true->e d=v)->X ls e w->(∀j k,predAt l j k=true->ls j=true->ls k=true)->ls i=false->(∀k,predAt l i k=true->ls k=true)->
      wpListIn (Fw r) n P l.toArray (EndV N ds X L ls e i o.dst) [o] (act N e ds) w)∧DvS r n P N ds l D L X e0 (i+1) os
theorem dvS_get {l:List Oper}{D:List Nat}{L:List (Option (Nat×Value))}{X:(Nat->Bool)->(Nat->Value)->World->Prop}(hnd:ndO (l.take M)=true)(hmt:mtB (l.take M) L=true)(hD:inD D (l.take M)=true):
    ∀(os:List Oper) (i0:Nat),(∀k,os[k]?=(l.take M)[i0+k]?)->DvS r n P N ds l D L X e0 i0 os->
    StepsS r n P N ds l (λls e w=>(∀t,inB D t=false->e t=e0 t)∧VL L ls e∧X ls e w) i0 os
  |[],_,_,_=>trivial
  | o ::os,i0,hk,h=>by
    refine⟨λe w ls hJ hcl hni hpr=>?_,dvS_get hnd hmt hD os (i0+1) (λk=>by rw[show i0+1+k=i0+(k+1)by omega,<-hk (k+1)];rfl) h.2⟩
    obtain⟨hs,hv,hX⟩:=hJ
    have ho:(l.take M)[i0]?=some o:=by have:=hk 0;simpa using this.symm
    have hstep:=h.1 e w ls hs (λk d v hl hp=>hv k d v hl (hpr k hp)) hX hcl hni hpr
    refine list_mono1 (K1:=λa' w'=>∃v,a'=(act N e ds).put o.dst v∧(∀d u,nthO L i0=some (some (d,u))->v=u)∧X (setB ls i0) (updO e o.dst v) w') hstep (λa' w' hE=>?_)
    obtain⟨v,ha,hvv,hX'⟩:=hE
    refine⟨v,ha,?_,?_,hX'⟩
    · cases hd:o.dst with
      |none=>exact hs
      | some d=>
        refine same_upd ?_ hs
        have:=List.all_eq_true.1 hD o (List.mem_of_getElem? ho)
        rw[hd]at this;exact this
    · intro j d' v' hj hl
      by_cases hji:j=i0
      · subst hji
        obtain⟨p,hp1,hp2⟩:=mtB_get hmt hj
        rw[ho]at hp1
        cases hp1
        rw[hp2]
        show upd e d' v d'=v'
        rw[upd_eq];exact hvv d' v' hj
      · have hl':ls j=true:=by
          have hb:Nat.beq j i0=false:=by
            cases hb:Nat.beq j i0 with
            |false=>rfl
            |true=>exact absurd (Nat.eq_of_beq_eq_true hb) hji
          unfold setB at hl;rw[hb]at hl;exact hl
        have he:=hv j d' v' hj hl'
        cases hd:o.dst with
        |none=>exact he
        | some d=>
          show upd e d v d'=v'
          obtain⟨p,hp1,hp2⟩:=mtB_get hmt hj
          rw[upd_ne _ _ (λhh:d'=d=>hji (ndO_get hnd hp1 ho (by rw[hp2,hh]) hd))]
          exact he
theorem c_dv {id:Nat}{l:List Oper}(hm:P.follows .mixedOrders=true)(M:Nat)(D:List Nat)(L:List (Option (Nat×Value)))(X:(Nat->Bool)->(Nat->Value)->World->Prop)(h0:X (λ_=>false) e0 w0.drew)(hwf:wfB l=true)(hshape:shapeB l M=true)(hchk:(ndO (l.take M)&&(mtB (l.take M) L&&inD D (l.take M)))=true)(hstep:DvS r n P N ds l D L X e0 0 (l.take M))(hfin:∀(e:Nat->Value) (w:World) (ls:Nat->Bool),(∀j,Nat.blt j M=true->ls j=true)->(∀t,inB D t=false->e t=e0 t)->(∀k d v,nthO L k=some (some (d,v))->Nat.blt k M=true->e d=v)->X ls e w->wpListIn (Fw r) n P l.toArray Q (l.drop M) (act N e ds) w):
    (Code.region id l.toArray true).wpIn (Fw r) n P Q (act N e0 ds) w0:=by
  simp only[Bool.and_eq_true]at hchk
  refine c_st2 hm M (λe0 ls e w=>(∀t,inB D t=false->e t=e0 t)∧VL L ls e∧X ls e w) ⟨λ_ _=>rfl,(λ_ _ _ _ h=>by cases h),h0⟩ hwf hshape (dvS_get hchk.1 hchk.2.1 hchk.2.2 _ 0 (λk=>by rw[Nat.zero_add]) hstep) ?_
  intro e w ls hall hJ
  exact hfin e w ls hall hJ.1 (λk d v hl hk=>hJ.2.1 k d v hl (hall k hk)) hJ.2.2
def XE (w0:World)(_:Nat->Bool)(_:Nat->Value)(w:World):Prop:=Ext w0 w
theorem dvE {L:List (Option (Nat×Value))}{ls:Nat->Bool}{e:Nat->Value}{i d:Nat}{v:Value}{w w':World}(hl:nthO L i=some (some (d,v)))(hX:XE w0 ls e w)(k:Ext w w'):EndV N ds (XE w0) L ls e i (some d) .normal (act N (upd e d v) ds) w':=
  ⟨rfl,v,(act_put ..).symm,(λ_ _ h=>by rw[hl]at h;cases h;rfl),Ext.trans hX k⟩
def XA (w0:World)(a s d ty:Nat)(z v:Array Value)(ls:Nat->Bool)(e:Nat->Value)(w:World):Prop:=
  Ext w0 w∧(ls a=true->∃b,e d=.pointer (some ⟨b,0,none⟩)∧w0.heap.size<=b∧Blk w b ty (match ls s with|true=>v|false=>z))
theorem XA.start {a s d ty:Nat}{z v:Array Value}:XA w0 a s d ty z v (λ_=>false) e0 w0.drew:=⟨Ext.drew w0,λh=>by cases h⟩
theorem setB_ne {ls:Nat->Bool}{i j:Nat}(h:Nat.beq j i=false):setB ls i j=ls j:=by unfold setB;rw[h]
theorem setB_eq {ls:Nat->Bool}{i:Nat}:setB ls i i=true:=by unfold setB;simp
theorem upd_nb {e:Nat->Value}{d t:Nat}{v:Value}(h:Nat.beq t d=false):upd e d v t=e t:=upd_ne _ _ (λhh=>by subst hh;simp at h)
theorem dvA {L:List (Option (Nat×Value))}{ls:Nat->Bool}{e:Nat->Value}{i d a s t ty:Nat}{z u:Array Value}{v:Value}{w w':World}(hl:nthO L i=some (some (d,v)))(hX:XA w0 a s t ty z u ls e w)(k:Ext w w')(h1:Nat.beq a i=false:=by rfl)(h2:Nat.beq s i=false:=by rfl)(h3:Nat.beq t d=false:=by rfl):
    EndV N ds (XA w0 a s t ty z u) L ls e i (some d) .normal (act N (upd e d v) ds) w':=by
  refine⟨rfl,v,(act_put ..).symm,(λ_ _ h=>by rw[hl]at h;cases h;rfl),Ext.trans hX.1 k,λh=>?_⟩
  rw[setB_ne h1]at h
  obtain⟨b,e1,e2,e3⟩:=hX.2 h
  refine⟨b,?_,e2,?_⟩
  · show upd e d v t=_
    rw[upd_nb h3];exact e1
  · rw[setB_ne h2];exact Blk.ext k e3
theorem dvAa {L:List (Option (Nat×Value))}{ls:Nat->Bool}{e:Nat->Value}{a s t ty:Nat}{z u:Array Value}{w w':World}(hl:nthO L a=some none)(hX:XA w0 a s t ty z u ls e w)(hs:ls s=false)(k:Ext w w')(hb:Blk w' w.heap.size ty z)(h2:Nat.beq s a=false:=by rfl):
    EndV N ds (XA w0 a s t ty z u) L ls e a (some t) .normal (act N (upd e t (.pointer (some ⟨w.heap.size,0,none⟩))) ds) w':=by
  refine⟨rfl,_,(act_put ..).symm,(λ_ _ h=>by rw[hl]at h;cases h),Ext.trans hX.1 k,λ_=>⟨w.heap.size,?_,Below.size hX.1,?_⟩⟩
  · show upd e t _ t=_
    rw[upd_eq]
  · rw[setB_ne h2,hs];exact hb
theorem dvAs {L:List (Option (Nat×Value))}{ls:Nat->Bool}{e:Nat->Value}{a s t ty b:Nat}{z u:Array Value}{w w':World}(hl:nthO L s=none∨nthO L s=some none)(hX:XA w0 a s t ty z u ls e w)(he:e t=.pointer (some ⟨b,0,none⟩))(hlo:w0.heap.size<=b)(k:Put w w' b)(hb:Blk w' b ty u)(h2:Nat.beq a s=false:=by rfl):
    EndV N ds (XA w0 a s t ty z u) L ls e s none .normal (act N e ds) w':=by
  refine⟨rfl,undef,rfl,(λ_ _ h=>absurd h (by rcases hl with hl|hl <;>rw[hl] <;>simp)),Put.low k hX.1 hlo,λ_=>⟨b,he,hlo,?_⟩⟩
  rw[setB_eq];exact hb
theorem dvAn {L:List (Option (Nat×Value))}{ls:Nat->Bool}{e:Nat->Value}{a s t ty:Nat}{z:Array Value}{w w':World}(hl:nthO L a=some none)(hX:XA w0 a s t ty z z ls e w)(k:Ext w w')(hb:Blk w' w.heap.size ty z):
    EndV N ds (XA w0 a s t ty z z) L ls e a (some t) .normal (act N (upd e t (.pointer (some ⟨w.heap.size,0,none⟩))) ds) w':=by
  refine⟨rfl,_,(act_put ..).symm,(λ_ _ h=>by rw[hl]at h;cases h),Ext.trans hX.1 k,λ_=>⟨w.heap.size,?_,Below.size hX.1,?_⟩⟩
  · show upd e t _ t=_
    rw[upd_eq]
  · cases setB ls a s <;>exact hb
theorem XA.opn {a s d ty:Nat}{z v:Array Value}{ls:Nat->Bool}{e:Nat->Value}{w:World}(h:XA w0 a s d ty z v ls e w)(ha:ls a=true)(hs:ls s=false):∃b,e d=.pointer (some ⟨b,0,none⟩)∧w0.heap.size<=b∧Blk w b ty z:=by
  obtain⟨b,h1,h2,h3⟩:=h.2 ha
  rw[hs]at h3
  exact⟨b,h1,h2,h3⟩
theorem XA.fin {a s d ty:Nat}{z v:Array Value}{ls:Nat->Bool}{e:Nat->Value}{w:World}(h:XA w0 a s d ty z v ls e w)(ha:ls a=true)(hs:ls s=true∨z=v):∃b,e d=.pointer (some ⟨b,0,none⟩)∧w0.heap.size<=b∧Blk w b ty v:=by
  obtain⟨b,h1,h2,h3⟩:=h.2 ha
  rcases hs with hs|hs
  · rw[hs]at h3;exact⟨b,h1,h2,h3⟩
  · subst hs;refine⟨b,h1,h2,?_⟩;cases hh:ls s <;>rw[hh]at h3 <;>exact h3
def XW (w0:World)(b s ty:Nat)(z v:Array Value)(ls:Nat->Bool)(_:Nat->Value)(w:World):Prop:=
  w0.grownBy w (some b)∧Blk w b ty (match ls s with|true=>v|false=>z)
theorem XW.start {b s ty:Nat}{z v:Array Value}(h:Blk w0 b ty z):XW w0 b s ty z v (λ_=>false) e0 w0.drew:=⟨gb_ext (World.grownBy.refl w0 _) (Ext.drew w0),Blk.ext (Ext.drew w0) h⟩
theorem dvW {L:List (Option (Nat×Value))}{ls:Nat->Bool}{e:Nat->Value}{i d b s ty:Nat}{z u:Array Value}{v:Value}{w w':World}(hl:nthO L i=some (some (d,v)))(hX:XW w0 b s ty z u ls e w)(k:Ext w w')(h2:Nat.beq s i=false:=by rfl):
    EndV N ds (XW w0 b s ty z u) L ls e i (some d) .normal (act N (upd e d v) ds) w':=by
  refine⟨rfl,v,(act_put ..).symm,(λ_ _ h=>by rw[hl]at h;cases h;rfl),gb_ext hX.1 k,?_⟩
  rw[setB_ne h2];exact Blk.ext k hX.2
theorem XW.opn {b s ty:Nat}{z v:Array Value}{ls:Nat->Bool}{e:Nat->Value}{w:World}(h:XW w0 b s ty z v ls e w)(hs:ls s=false):Blk w b ty z:=by
  have h3:=h.2
  rw[hs]at h3;exact h3
theorem XW.fin {b s ty:Nat}{z v:Array Value}{ls:Nat->Bool}{e:Nat->Value}{w:World}(h:XW w0 b s ty z v ls e w)(hs:ls s=true):Blk w b ty v:=by
  have h3:=h.2
  rw[hs]at h3;exact h3
theorem dvWs {L:List (Option (Nat×Value))}{ls:Nat->Bool}{e:Nat->Value}{s ty b:Nat}{z u:Array Value}{w w':World}(hl:nthO L s=none∨nthO L s=some none)(hX:XW w0 b s ty z u ls e w)(k:Put w w' b)(hb:Blk w' b ty u):
    EndV N ds (XW w0 b s ty z u) L ls e s none .normal (act N e ds) w':=by
  refine⟨rfl,undef,rfl,(λ_ _ h=>absurd h (by rcases hl with hl|hl <;>rw[hl] <;>simp)),gb_put hX.1 k,?_⟩
  rw[setB_eq];exact hb
def XG (Rel:World->Prop)(_:Nat->Bool)(_:Nat->Value)(w:World):Prop:=Rel w
theorem dvG {Rel:World->Prop}{L:List (Option (Nat×Value))}{ls:Nat->Bool}{e:Nat->Value}{i d:Nat}{v:Value}{w':World}(hl:nthO L i=some (some (d,v)))(h:Rel w'):EndV N ds (XG Rel) L ls e i (some d) .normal (act N (upd e d v) ds) w':=
  ⟨rfl,v,(act_put ..).symm,(λ_ _ h=>by rw[hl]at h;cases h;rfl),h⟩
def XH (Rel:World->Prop)(n0 a d ty:Nat)(z:Array Value)(ls:Nat->Bool)(e:Nat->Value)(w:World):Prop:=
  Rel w∧n0<=w.heap.size∧(ls a=true->∃b,e d=.pointer (some ⟨b,0,none⟩)∧n0<=b∧Blk w b ty z)
theorem XH.start {Rel:World->Prop}{a d ty:Nat}{z:Array Value}(h:Rel w0.drew):XH Rel w0.heap.size a d ty z (λ_=>false) e0 w0.drew:=⟨h,Below.size (Ext.drew w0),λh=>by cases h⟩
theorem dvH {Rel:World->Prop}{L:List (Option (Nat×Value))}{ls:Nat->Bool}{e:Nat->Value}{n0 i d a t ty:Nat}{z:Array Value}{v:Value}{w w':World}{row:Option Nat}(hl:nthO L i=some (some (d,v)))(hX:XH Rel n0 a t ty z ls e w)(h:Rel w')(k:w.grownBy w' row)(hr:∀g,row=some g->g<n0)(h1:Nat.beq a i=false:=by rfl)(h3:Nat.beq t d=false:=by rfl):
    EndV N ds (XH Rel n0 a t ty z) L ls e i (some d) .normal (act N (upd e d v) ds) w':=by
  refine⟨rfl,v,(act_put ..).symm,(λ_ _ h=>by rw[hl]at h;cases h;rfl),h,Nat.le_trans hX.2.1 k.size,λha=>?_⟩
  rw[setB_ne h1]at ha
  obtain⟨b,e1,e2,e3⟩:=hX.2.2 ha
  refine⟨b,?_,e2,Blk.gr k (λhe=>by have:=hr b he.symm;omega) e3⟩
  show upd e d v t=_
  rw[upd_nb h3];exact e1
theorem dvHx {Rel:World->Prop}{L:List (Option (Nat×Value))}{ls:Nat->Bool}{e:Nat->Value}{n0 i d a t ty:Nat}{z:Array Value}{v:Value}{w w':World}(hl:nthO L i=some (some (d,v)))(hX:XH Rel n0 a t ty z ls e w)(h:Rel w')(k:Ext w w')(h1:Nat.beq a i=false:=by rfl)(h3:Nat.beq t d=false:=by rfl):
    EndV N ds (XH Rel n0 a t ty z) L ls e i (some d) .normal (act N (upd e d v) ds) w':=dvH hl hX h (gb_ext (World.grownBy.refl w none) k) (λg h=>by cases h) h1 h3
theorem dvHa {Rel:World->Prop}{L:List (Option (Nat×Value))}{ls:Nat->Bool}{e:Nat->Value}{n0 a t ty:Nat}{z:Array Value}{w w':World}(hl:nthO L a=some none)(hX:XH Rel n0 a t ty z ls e w)(h:Rel w')(k:Ext w w')(hb:Blk w' w.heap.size ty z):
    EndV N ds (XH Rel n0 a t ty z) L ls e a (some t) .normal (act N (upd e t (.pointer (some ⟨w.heap.size,0,none⟩))) ds) w':=by
  refine⟨rfl,_,(act_put ..).symm,(λ_ _ h=>by rw[hl]at h;cases h),h,Nat.le_trans hX.2.1 k.size,λ_=>⟨w.heap.size,?_,hX.2.1,hb⟩⟩
  show upd e t _ t=_
  rw[upd_eq]
end draws
end Go.Eng
namespace Go.Proofs.YtinldhphnpflaaaGreatDoor
set_option maxRecDepth 100000
open Go Go.Eng Go.RowKit
attribute [local irreducible] wpListIn Code.wpIn Oper.wpIn Exit.then Exit.inBlock Exit.noGoto
set_option maxHeartbeats 40000000
def mnR (q:Bool)(x y:R):R:=cond q y x
theorem mn_t {q:Bool}{x y:R}(h:q=true):mnR q x y=y:=by subst h;rfl
theorem mn_f {q:Bool}{x y:R}(h:q=false):mnR q x y=x:=by subst h;rfl
def mnA (q:Bool)(x y:R)(i:Nat):R:=if i=1 then x else mnR q x y
theorem mnA_2 {q:Bool}{x y:R}:mnA q x y 2=mnR q x y:=rfl
section
variable {a b c d:Int}{w:World}
theorem qCmpX (h1:Q9 a b)(h2:Q9 c d)(ht:Tb w):CL 12 #[QV a b,QV c d] w (Ret w λv _=>v=.int .i64 (cmpI (a*d) (c*b))):=qCmpL rfl rfl h1 h2 ht
theorem qAddX (h1:Q9 a b)(h2:Q9 c d)(ht:Tb w):CL 11 #[QV a b,QV c d] w (Ret w λv _=>v=Qv (a*d+c*b) (b*d)):=qAddL rfl rfl h1 h2 ht
theorem qSubX (h1:Q9 a b)(h2:Q9 c d)(ht:Tb w):CL 9 #[QV a b,QV c d] w (Ret w λv _=>v=Qv (a*d-c*b) (b*d)):=qSubL rfl rfl h1 h2 ht
theorem qDivX (h1:Q9 a b)(h2:Q9 c d)(hc:0<c)(ht:Tb w):CL 164 #[QV a b,QV c d] w (Ret w λv _=>v=Qv (a*d) (b*c)):=qDivL rfl rfl h1 h2 hc ht
end
theorem rmust_ok {l m:List UInt8}{w:World}:
    CL 158 #[.agg #[S l,S m],.int .i64 0] w (Ret w λv w'=>v=.agg #[S l,S m]):=by
 refine f_in Tryz.func158 rfl ?_;refine go ?_;refine bx (λaom aoo r8=>?_);have sc:=aoo.2;refine al inf36 (λ_ aon aop=>?_);have⟨r8,sc⟩:=be1 aon.2 r8 sc;refine go ?_;refine SA aop (λ_ aol aoq=>?_);have⟨r8,sc,_⟩:=pl1 aol r8 sc;refine go ?_;refine f_out (v:=.agg #[S l,S m]) (res1  rfl ?_) sc rfl;refine res_cellA (t:=4) (cs:=[S l,S m]) (b:=aom.heap.size) (o:=0) U36 rfl sz36 ?_ ?_;exact rfl;exact Blk.cells aoq (i:=0) rfl
theorem imust_ok {x:R×R}{w:World}:
    CL 119 #[.agg #[S (x.1.1),S (x.1.2),S (x.2.1),S (x.2.2)],.int .i64 0] w (Ret w λv w'=>v=.agg #[S (x.1.1),S (x.1.2),S (x.2.1),S (x.2.2)]):=by
 refine f_in Tryz.func119 rfl ?_;refine go ?_;refine bx (λaom aoo r8=>?_);have sc:=aoo.2;refine al inf1032 (λ_ aon aop=>?_);have⟨r8,sc⟩:=be1 aon.2 r8 sc;refine go ?_;refine l_op (k_loadA (cs:=[S (x.1.1),S (x.1.2),S (x.2.1),S (x.2.2)]) (b:=w.heap.size) (o:=0) U1032 rfl sz1032 rfl (Blk.cells r8 (i:=0) rfl) ?_);refine SA aop (λ_ aol aoq=>?_);have⟨r8,sc,_⟩:=pl1 aol r8 sc;refine go ?_;refine f_out (v:=.agg #[S (x.1.1),S (x.1.2),S (x.2.1),S (x.2.2)]) (res1  rfl ?_) sc rfl;refine res_cellA (t:=4) (cs:=[S (x.1.1),S (x.1.2),S (x.2.1),S (x.2.2)]) (b:=aom.heap.size) (o:=0) U1032 rfl sz1032 ?_ ?_;exact rfl;exact Blk.cells aoq (i:=0) rfl
theorem whole_ok {n:Int}{w:World}(hn:In64 n)(ht:Tb w):
    CL 123 #[.int .i64 n] w (Ret w λv w'=>v=QV n 1):=by
 refine f_in Tryz.func123 rfl ?_;refine go ?_;refine al inf36 (λ_ aoo sc=>?_);have r8:=aoo.2;refine go ?_;refine clb en1025 (hc:=rOfZ_ok hn (by unfold In64;decide) dc (ht.ext r8)) (hk:=?_);rintro _ _ aol rfl;have⟨sc,r8⟩:=be1 aol.2 sc r8;refine go ?_;refine cl en2152 rmust_ok ?_;rintro _ _ aom rfl;have⟨sc,r8⟩:=be1 aom.2 sc r8;refine SA sc (λ_ aon aop=>?_);have r8:=plw aon r8;have aow:=psz aon;refine go ?_;refine f_out (v:=QV n 1) (res1  rfl ?_) r8 rfl;refine res_cellA (t:=2) (cs:=[S (qR n 1).1,S (qR n 1).2]) (b:=w.heap.size) (o:=0) U36 rfl sz36 ?_ ?_;exact rfl;exact Blk.cells aop (i:=0) rfl
theorem isLess_ok {a b c d:Int}{w:World}(h1:Q9 a b)(h2:Q9 c d)(ht:Tb w):
    CL 116 #[QV a b,QV c d] w (Ret w λv w'=>v=.bool (decide (cmpI (a*d) (c*b)<0))):=by
 refine f_in Tryz.func116 rfl ?_;refine go ?_;refine bx (λ_ aop sc=>?_);have r8:=aop.2;refine bx (λ_ aon _=>?_);have⟨sc,r8⟩:=be1 aon.2 sc r8;refine go ?_;refine cl en49 (qCmpX h1 h2 (ht.ext r8)) ?_;rintro _ _ aom rfl;have r8:=xt r8 aom.2;refine go ?_;exact f_ret1 (t:=4) (v:=.bool (decide ((cmpI (a*d) (c*b))<0))) rfl r8 rfl rfl
theorem minFunc_ok {A:Option Addr}{cp lo:Nat}{x y:R}{k:Int}{q:Bool}{w:World}(hr:Rw w lo A (cellsR [x,y]))(hq:decide (k<0)=q)(hc:∀W,Ext w W->CL 12 #[.agg #[S y.1,S y.2],.agg #[S x.1,S x.2]] W (Ret W λv _=>v=.int .i64 k)):
    CL 165 #[.slice A 2 cp,.func (.func 12) #[] #[]] w (Ret w λv w'=>v=.agg #[S (mnR q x y).1,S (mnR q x y).2]):=by
 obtain⟨bk0,o0,hA0,hcs0⟩:=rw_pair hr (i:=0) (by simp);obtain⟨bk1,o1,hA1,hcs1⟩:=rw_pair hr (i:=1) (by simp);refine f_in Tryz.func165 rfl ?_;refine go ?_;refine al inf36 (λaom ao3 sc=>?_);have aon:=ao3.2;refine go ?_;refine l_op (k_indexAddr (i:=0) (oo:=o0+0*2) U23 sz36 rfl hA0 rfl dc rfl ?_);refine l_op (k_loadA (cs:=[S (x.1),S (x.2)]) (b:=bk0) (o:=o0+0*2) U36 rfl sz36 rfl (λj u hj=>Ext.cell aon (hcs0 j u hj)) ?_);refine al inf36 (λ_ aow ao4=>?_);have⟨sc,aon⟩:=be1 aow.2 sc aon;refine SA ao4 (λao5 aoq r8=>?_);have⟨sc,aon,_⟩:=pl1 aoq sc aon;refine go ?_;refine c_lp [(6,6),(14,31)] (λkk e W=>∃i:Nat,(2-i=kk)∧(e 6=.int .i64 i)∧(1<=i∧i<=2)∧(ao5.heap.size<=W.heap.size)∧(Ext w W)∧(Blk W (w.heap.size) 25 #[S ([]),S ([])])∧(Blk W (aom.heap.size) 25 #[S ((mnA q x y i).1),S ((mnA q x y i).2)])) (2-1) ⟨1,rfl,rfl,dc,(Nat.le_refl _),aon,sc,r8⟩ ?_;rintro _ _ aox ⟨i,rfl,aoo,hi,apc,aol,sc,r8⟩;have apd:=bz aol;by_cases h0:i<2;obtain rfl:i=1:=by omega
 have r8:Blk aox (aom.heap.size) 25 #[S (x.1),S (x.2)]:=r8;refine go ?_;refine c_an 6 ?_;refine sf ?_;refine sf_ap (λ_ _ _ _=>by refine l_op (k_indexAddr (i:=1) (oo:=o1+1*2) U23 sz36 rfl hA1 rfl dc rfl ?_);refine go ?_;exact finp) ?_;refine sf_ap (λ_ _ aor _=>by refine l_op (k_loadA (cs:=[S (y.1),S (y.2)]) (b:=bk1) (o:=o1+1*2) U36 rfl sz36 rfl (λj u hj=>Ext.cell (xt aol aor) (hcs1 j u hj)) ?_);refine go ?_;exact finp) ?_;refine sf ?_;intro _ _ aos _;have⟨sc,r8,aol⟩:=be2 aos.2 sc r8 aol;refine l_op (clV (vs:=[.agg #[S (y.1),S (y.2)],.agg #[S (x.1),S (x.2)]]) (lb:=[]) en49 rfl rfl (hc _ aol) ?_);rintro _ _ aot rfl;have⟨sc,r8,aol⟩:=be2 aot.2 sc r8 aol;refine go ?_;by_cases aop:k<0;refine go ?_;refine l_op (k_indexAddr (i:=1) (oo:=o1+1*2) U23 sz36 rfl hA1 rfl dc rfl ?_);refine l_op (k_loadA (cs:=[S (y.1),S (y.2)]) (b:=bk1) (o:=o1+1*2) U36 rfl sz36 rfl (λj u hj=>Ext.cell aol (hcs1 j u hj)) ?_);refine SA r8 (λ_ aou ao6=>?_);have⟨sc,aol,_⟩:=pl1 aou sc aol;refine go ?_;refine l_op (k_add (a:=1) (b:=1) (c:=2) rfl rfl (by unfold In64;omega) rfl ?_);refine go ?_;exact lend (hk:=by decide) ⟨2,rfl,rfl,dc,om,aol,sc,(by rw[mnA_2,mn_t (hq.symm.trans (decide_eq_true aop))];exact ao6)⟩;refine go ?_;refine l_op (k_add (a:=1) (b:=1) (c:=2) rfl rfl (by unfold In64;omega) rfl ?_);refine go ?_
 exact lend (hk:=by decide) ⟨2,rfl,rfl,dc,om,aol,sc,(by rw[mnA_2,mn_f (hq.symm.trans (decide_eq_false aop))];exact r8)⟩;obtain rfl:i=2:=by omega
 have r8:Blk aox (aom.heap.size) 25 #[S ((mnR q x y).1),S ((mnR q x y).2)]:=r8;refine go ?_;refine SA sc (λ_ aov ao7=>?_);have⟨r8,aol,_⟩:=pl1 aov r8 aol;refine go ?_;refine f_out (v:=.agg #[S ((mnR q x y).1),S ((mnR q x y).2)]) (res1  rfl ?_) aol rfl;refine res_cellA (t:=4) (cs:=[S ((mnR q x y).1),S ((mnR q x y).2)]) (b:=w.heap.size) (o:=0) U36 rfl sz36 ?_ ?_;exact rfl;exact Blk.cells ao7 (i:=0) rfl
def minQ (a b c d:Int):R:=mnR (decide (cmpI (c*b) (a*d)<0)) (qR a b) (qR c d)
def maxQ (a b c d:Int):R:=mnR (decide (0<cmpI (c*b) (a*d))) (qR a b) (qR c d)
theorem maxFunc_ok {A:Option Addr}{cp lo:Nat}{x y:R}{k:Int}{q:Bool}{w:World}(hr:Rw w lo A (cellsR [x,y]))(hq:decide (0<k)=q)(hc:∀W,Ext w W->CL 12 #[.agg #[S y.1,S y.2],.agg #[S x.1,S x.2]] W (Ret W λv _=>v=.int .i64 k)):
    CL 187 #[.slice A 2 cp,.func (.func 12) #[] #[]] w (Ret w λv w'=>v=.agg #[S (mnR q x y).1,S (mnR q x y).2]):=by
 obtain⟨bk0,o0,hA0,hcs0⟩:=rw_pair hr (i:=0) (by simp);obtain⟨bk1,o1,hA1,hcs1⟩:=rw_pair hr (i:=1) (by simp);refine f_in Tryz.func187 rfl ?_;refine go ?_;refine al inf36 (λaom ao3 sc=>?_);have aon:=ao3.2;refine go ?_;refine l_op (k_indexAddr (i:=0) (oo:=o0+0*2) U23 sz36 rfl hA0 rfl dc rfl ?_);refine l_op (k_loadA (cs:=[S (x.1),S (x.2)]) (b:=bk0) (o:=o0+0*2) U36 rfl sz36 rfl (λj u hj=>Ext.cell aon (hcs0 j u hj)) ?_);refine al inf36 (λ_ aow ao4=>?_);have⟨sc,aon⟩:=be1 aow.2 sc aon;refine SA ao4 (λao5 aoq r8=>?_);have⟨sc,aon,_⟩:=pl1 aoq sc aon;refine go ?_;refine c_lp [(6,6),(14,31)] (λkk e W=>∃i:Nat,(2-i=kk)∧(e 6=.int .i64 i)∧(1<=i∧i<=2)∧(ao5.heap.size<=W.heap.size)∧(Ext w W)∧(Blk W (w.heap.size) 25 #[S ([]),S ([])])∧(Blk W (aom.heap.size) 25 #[S ((mnA q x y i).1),S ((mnA q x y i).2)])) (2-1) ⟨1,rfl,rfl,dc,(Nat.le_refl _),aon,sc,r8⟩ ?_;rintro _ _ aox ⟨i,rfl,aoo,hi,apc,aol,sc,r8⟩;have apd:=bz aol;by_cases h0:i<2;obtain rfl:i=1:=by omega
 have r8:Blk aox (aom.heap.size) 25 #[S (x.1),S (x.2)]:=r8;refine go ?_;refine c_an 6 ?_;refine sf ?_;refine sf_ap (λ_ _ _ _=>by refine l_op (k_indexAddr (i:=1) (oo:=o1+1*2) U23 sz36 rfl hA1 rfl dc rfl ?_);refine go ?_;exact finp) ?_;refine sf_ap (λ_ _ aor _=>by refine l_op (k_loadA (cs:=[S (y.1),S (y.2)]) (b:=bk1) (o:=o1+1*2) U36 rfl sz36 rfl (λj u hj=>Ext.cell (xt aol aor) (hcs1 j u hj)) ?_);refine go ?_;exact finp) ?_;refine sf ?_;intro _ _ aos _;have⟨sc,r8,aol⟩:=be2 aos.2 sc r8 aol;refine l_op (clV (vs:=[.agg #[S (y.1),S (y.2)],.agg #[S (x.1),S (x.2)]]) (lb:=[]) en49 rfl rfl (hc _ aol) ?_);rintro _ _ aot rfl;have⟨sc,r8,aol⟩:=be2 aot.2 sc r8 aol;refine go ?_;by_cases aop:0<k;refine go ?_;refine l_op (k_indexAddr (i:=1) (oo:=o1+1*2) U23 sz36 rfl hA1 rfl dc rfl ?_);refine l_op (k_loadA (cs:=[S (y.1),S (y.2)]) (b:=bk1) (o:=o1+1*2) U36 rfl sz36 rfl (λj u hj=>Ext.cell aol (hcs1 j u hj)) ?_);refine SA r8 (λ_ aou ao6=>?_);have⟨sc,aol,_⟩:=pl1 aou sc aol;refine go ?_;refine l_op (k_add (a:=1) (b:=1) (c:=2) rfl rfl (by unfold In64;omega) rfl ?_);refine go ?_;exact lend (hk:=by decide) ⟨2,rfl,rfl,dc,om,aol,sc,(by rw[mnA_2,mn_t (hq.symm.trans (decide_eq_true aop))];exact ao6)⟩;refine go ?_;refine l_op (k_add (a:=1) (b:=1) (c:=2) rfl rfl (by unfold In64;omega) rfl ?_);refine go ?_
 exact lend (hk:=by decide) ⟨2,rfl,rfl,dc,om,aol,sc,(by rw[mnA_2,mn_f (hq.symm.trans (decide_eq_false aop))];exact r8)⟩;obtain rfl:i=2:=by omega
 have r8:Blk aox (aom.heap.size) 25 #[S ((mnR q x y).1),S ((mnR q x y).2)]:=r8;refine go ?_;refine SA sc (λ_ aov ao7=>?_);have⟨r8,aol,_⟩:=pl1 aov r8 aol;refine go ?_;refine f_out (v:=.agg #[S ((mnR q x y).1),S ((mnR q x y).2)]) (res1  rfl ?_) aol rfl;refine res_cellA (t:=4) (cs:=[S ((mnR q x y).1),S ((mnR q x y).2)]) (b:=w.heap.size) (o:=0) U36 rfl sz36 ?_ ?_;exact rfl;exact Blk.cells ao7 (i:=0) rfl
theorem least_ok {A:Option Addr}{cp lo:Nat}{a b c d:Int}{w:World}(hr:Rw w lo A (cellsR [qR a b,qR c d]))(h1:Q9 a b)(h2:Q9 c d)(ht:Tb w):
    CL 122 #[.slice A 2 cp] w (Ret w λv w'=>v=.agg #[S ((minQ a b c d).1),S ((minQ a b c d).2)]):=by
 refine f_in Tryz.func122 rfl ?_;refine go ?_;refine al inf36 (λ_ aon sc=>?_);have r8:=aon.2;refine go ?_;refine cl en2087 (minFunc_ok (x:=qR a b) (y:=qR c d) (hr.ext r8) rfl (λW e=>qCmpX h2 h1 ((ht.ext r8).ext e))) ?_;rintro _ _ aol rfl;have⟨sc,r8⟩:=be1 aol.2 sc r8;refine SA sc (λ_ aom aoo=>?_);have r8:=plw aom r8;have aot:=psz aom;refine go ?_;refine f_out (v:=.agg #[S ((minQ a b c d).1),S ((minQ a b c d).2)]) (res1  rfl ?_) r8 rfl;refine res_cellA (t:=2) (cs:=[S ((minQ a b c d).1),S ((minQ a b c d).2)]) (b:=w.heap.size) (o:=0) U36 rfl sz36 ?_ ?_;exact rfl;exact Blk.cells aoo (i:=0) rfl
theorem most_ok {A:Option Addr}{cp lo:Nat}{a b c d:Int}{w:World}(hr:Rw w lo A (cellsR [qR a b,qR c d]))(h1:Q9 a b)(h2:Q9 c d)(ht:Tb w):
    CL 157 #[.slice A 2 cp] w (Ret w λv w'=>v=.agg #[S ((maxQ a b c d).1),S ((maxQ a b c d).2)]):=by
 refine f_in Tryz.func157 rfl ?_;refine go ?_;refine al inf36 (λ_ aon sc=>?_);have r8:=aon.2;refine go ?_;refine cl en2088 (maxFunc_ok (x:=qR a b) (y:=qR c d) (hr.ext r8) rfl (λW e=>qCmpX h2 h1 ((ht.ext r8).ext e))) ?_;rintro _ _ aol rfl;have⟨sc,r8⟩:=be1 aol.2 sc r8;refine SA sc (λ_ aom aoo=>?_);have r8:=plw aom r8;have aot:=psz aom;refine go ?_;refine f_out (v:=.agg #[S ((maxQ a b c d).1),S ((maxQ a b c d).2)]) (res1  rfl ?_) r8 rfl;refine res_cellA (t:=2) (cs:=[S ((maxQ a b c d).1),S ((maxQ a b c d).2)]) (b:=w.heap.size) (o:=0) U36 rfl sz36 ?_ ?_;exact rfl;exact Blk.cells aoo (i:=0) rfl
theorem scaled_ok {a b c d s t:Int}{w:World}(h1:Q9 a b)(h2:Q9 c d)(h3:Q9 s t)(h4:Q9 (a*d-c*b) (b*d))(hs:0<s)(ht:Tb w):
    CL 121 #[.agg #[S (qR a b).1,S (qR a b).2],.agg #[S (qR c d).1,S (qR c d).2],.agg #[S (qR s t).1,S (qR s t).2]] w (Ret w λv w'=>v=.agg #[S ((qR ((a*d-c*b)*t) (b*d*s)).1),S ((qR ((a*d-c*b)*t) (b*d*s)).2)]):=by
 refine f_in Tryz.func121 rfl ?_;refine go ?_;refine bx (λ_ ao9 r8=>?_);have aon:=ao9.2;refine bx (λ_ ao6 sc=>?_);have⟨r8,aon⟩:=be1 ao6.2 r8 aon;refine bx (λao7 ao5 aol=>?_);have⟨r8,sc,aon⟩:=be2 ao5.2 r8 sc aon;refine al inf36 (λ_ aow aom=>?_);have⟨r8,sc,aol,aon⟩:=be3 aow.2 r8 sc aol aon;refine go ?_;refine c_an 10 ?_;refine sf ?_;refine sf_ae (V:=.tuple #[.agg #[S ((qR (a*d-c*b) (b*d)).1),S ((qR (a*d-c*b) (b*d)).2)],.int .i64 0]) (λ_ _ aoo _=>?_) ?_;refine cl en220 (qSubX h1 h2 (ht.ext (xt aon aoo))) ?_;rintro _ _ aop rfl;have apb:=aop.2;refine go ?_;exact fs ⟨apb,rfl⟩;refine sf ?_;refine sf_ae (V:=.agg #[S ((qR (a*d-c*b) (b*d)).1),S ((qR (a*d-c*b) (b*d)).2)]) (λ_ _ _ _=>?_) ?_;refine cl en2152 rmust_ok ?_;rintro _ _ aoq rfl;have apc:=aoq.2;refine go ?_;exact fs ⟨apc,rfl⟩;refine sf ?_;refine sf_ae (V:=.tuple #[.agg #[S ((qR ((a*d-c*b)*t) ((b*d)*s)).1),S ((qR ((a*d-c*b)*t) ((b*d)*s)).2)],.int .i64 0]) (λ_ _ aor _=>?_) ?_;refine cl en218 (qDivX h4 h3 hs (ht.ext (xt aon aor))) ?_;rintro _ _ aos rfl;have apd:=aos.2;refine go ?_;exact fs ⟨apd,rfl⟩;refine sf ?_;intro _ _ aot _;have⟨r8,sc,aol,aom,aon⟩:=be4 aot.2 r8 sc aol aom aon;refine cl en2152 rmust_ok ?_;rintro _ _ aou rfl;have⟨r8,sc,aol,aom,aon⟩:=be4 aou.2 r8 sc aol aom aon;refine SA aom (λ_ aov ape=>?_);have⟨r8,sc,aol,aon,_⟩:=pl3 aov r8 sc aol aon
 refine go ?_;refine f_out (v:=.agg #[S ((qR ((a*d-c*b)*t) ((b*d)*s)).1),S ((qR ((a*d-c*b)*t) ((b*d)*s)).2)]) (res1  rfl ?_) aon rfl;refine res_cellA (t:=6) (cs:=[S ((qR ((a*d-c*b)*t) ((b*d)*s)).1),S ((qR ((a*d-c*b)*t) ((b*d)*s)).2)]) (b:=ao7.heap.size) (o:=0) U36 rfl sz36 ?_ ?_;exact rfl;exact Blk.cells ape (i:=0) rfl
theorem riskRight_ok {pl:Nat}{w:World}(h1:1<=pl)(h12:pl<=12):
    CL 114 #[.int .i64 pl] w (Ret w λv w'=>v=.bool true):=by
 refine f_in Tryz.func114 rfl ?_;refine go ?_;exact f_ret1 (t:=2) (v:=.bool (decide ((pl:Int)<=12))) rfl (Ext.refl _) (congrArg Value.bool (decide_eq_true om)) rfl
def ShR (q:R):Prop:=∃a b:Int,q=qR a b∧Q9 a b∧a.natAbs<10^12∧b<10^12
theorem riskShort_ok {l m:List UInt8}{a b:Int}{w:World}(e:(l,m)=qR a b)(h:Q9 a b)(ha:a.natAbs<10^12)(hb:b<10^12)(ht:Tb w):
    CL 153 #[.agg #[S l,S m]] w (Ret w λv w'=>v=.bool true):=by
 have h1:=short_1 e h ha;have h2:=short_2 e h hb;refine f_in Tryz.func153 rfl ?_;refine go ?_;refine bx (λ_ aon r8=>?_);have sc:=aon.2;refine go ?_;refine cl en82 (cB (rValid_ok _ _ _ (ht.ext sc)) (okL e h)) ?_;rintro _ _ aol rfl;have⟨r8,sc⟩:=be1 aol.2 r8 sc;refine go ?_;refine cl en136 (body_ok _ _) ?_;rintro _ _ aom rfl;have⟨r8,sc⟩:=be1 aom.2 r8 sc;refine go ?_;refine l_op (k_lenL (l:=body l) U9 rfl ?_);refine go ?_;refine l_op (k_lenL (l:=m) U9 rfl ?_);refine go ?_;exact f_ret1 (t:=2) (v:=.bool (decide ((((m).length:Nat):Int)<=12))) rfl sc (congrArg Value.bool (decide_eq_true h2)) rfl
theorem notShort_ok {l m:List UInt8}{a b:Int}{w:World}(e:(l,m)=qR a b)(h:Q9 a b)(ha:a.natAbs<10^12)(hb:b<10^12)(ht:Tb w):
    CL 152 #[.agg #[S l,S m]] w (Ret w λv w'=>v=.bool false):=by
 refine f_in Tryz.func152 rfl ?_;refine go ?_;refine bx (λ_ aom _=>?_);have r8:=aom.2;refine go ?_;refine cl en2148 (riskShort_ok e h ha hb (ht.ext r8)) ?_;rintro _ _ aol rfl;have r8:=xt r8 aol.2;refine go ?_;exact f_ret1 (t:=2) (v:=.bool false) rfl r8 rfl rfl
theorem indexR_ok {A:Option Addr}{n cp lo g:Nat}{l:List R}{w:World}(hr:Rw w lo A (cellsR l))(hn:l.length=n)(hb:n<=1000)(hg:Enters Tryz.prog g)(hf:∀i<n,∀W,Ext w W->CL g #[.agg #[S (rAt l i).1,S (rAt l i).2]] W (Ret W λv _=>v=.bool false)):
    CL 185 #[.slice A n cp,.func (.func g) #[] #[]] w (Ret w λv w'=>v=.int .i64 (-1)):=by
 refine f_in Tryz.func185 rfl ?_;refine go ?_;have aol:=Ext.refl w;refine c_lp [(4,5),(8,18)] (λkk e W=>∃i:Nat,(n-i=kk)∧(e 8=.int .i64 i)∧(i<=n)∧(Ext w W)) (n-0) ⟨0,rfl,rfl,(Nat.zero_le _),aol⟩ ?_;rintro _ _ _ ⟨i,rfl,sc,hi,r8⟩;have aoq:=bz r8;by_cases hl:i<n;obtain⟨bk,o,hA,hcs⟩:=rw_pair (hr.ext r8) (i:=i) om;refine go ?_;refine l_op (k_indexAddr (i:=i) (oo:=o+i*2) U23 sz36 rfl hA rfl om rfl ?_);refine l_op (k_loadA (cs:=[S (rAt l i).1,S (rAt l i).2]) (b:=bk) (o:=o+i*2) U36 rfl sz36 rfl hcs ?_);refine l_op (clV (vs:=[.agg #[S (rAt l i).1,S (rAt l i).2]]) (lb:=[]) hg rfl rfl (hf i om _ r8) ?_);rintro _ _ aom rfl;have r8:=xt r8 aom.2;refine go ?_;refine l_op (k_add (a:=(i:Int)) (b:=1) (c:=((i+1:Nat):Int)) sc rfl (by unfold In64;omega) om ?_);refine go ?_;exact lend ⟨i+1,rfl,rfl,om,r8⟩;refine go ?_;exact f_ret1 (t:=4) (v:=.int .i64 ((-1))) rfl r8 rfl rfl
theorem containsR_ok {A:Option Addr}{n cp lo g:Nat}{l:List R}{w:World}(hr:Rw w lo A (cellsR l))(hn:l.length=n)(hb:n<=1000)(hg:Enters Tryz.prog g)(hf:∀i<n,∀W,Ext w W->CL g #[.agg #[S (rAt l i).1,S (rAt l i).2]] W (Ret W λv _=>v=.bool false)):
    CL 151 #[.slice A n cp,.func (.func g) #[] #[]] w (Ret w λv w'=>v=.bool false):=by
 refine f_in Tryz.func151 rfl ?_;refine go ?_;refine cl en116 (indexR_ok (hr.ext (Ext.refl _)) hn hb hg (λi hi W e=>hf i hi W (xt (Ext.refl _) e))) ?_;rintro _ _ r8 rfl;have sc:=r8.2;refine go ?_;exact f_ret1 (t:=4) (v:=.bool false) rfl sc rfl rfl
theorem rAt_mem {l:List R}{i:Nat}(h:i<l.length):rAt l i∈l:=by unfold rAt;simp[h]
theorem areShort_ok {A:Option Addr}{n cp lo:Nat}{l:List R}{w:World}(hr:Rw w lo A (cellsR l))(hn:l.length=n)(hb:n<=1000)(hs:∀q∈l,ShR q)(ht:Tb w):
    CL 115 #[.slice A n cp] w (Ret w λv w'=>v=.bool true):=by
 refine f_in Tryz.func115 rfl ?_;refine go ?_;refine clb en90 (hc:=containsR_ok (hr.ext (Ext.refl _)) hn hb en2147 (λi hi W e=>by obtain⟨a,b,e1,e2,e3,e4⟩:=hs _ (rAt_mem (l:=l) (i:=i) om);exact notShort_ok e1 e2 e3 e4 ((ht.ext (Ext.refl _)).ext e))) (hk:=?_);rintro _ _ r8 rfl;have sc:=r8.2;refine go ?_;exact f_ret1 (t:=2) (v:=.bool true) rfl sc rfl rfl
theorem ofAdd_ok {l m l' m':List UInt8}{a b p n:Int}{w:World}(e1:(l,m)=qR a b)(e2:(l',m')=qR p n)(q1:Q9 a b)(q2:Q9 p n)(ht:Tb w):
    CL 163 #[.func (.func 11) #[] #[],.agg #[S l,S m],.agg #[S (l'),S (m')]] w (Ret w λv w'=>v=.agg #[S ((qR (a*n+p*b) (b*n)).1),S ((qR (a*n+p*b) (b*n)).2)]):=by
 refine f_in Tryz.func163 rfl ?_;refine go ?_;refine bx (λ_ aou sc=>?_);have r8:=aou.2;refine bx (λaor aos aol=>?_);have⟨sc,r8⟩:=be1 aos.2 sc r8;refine al inf36 (λ_ aoq aom=>?_);have⟨sc,aol,r8⟩:=be2 aoq.2 sc aol r8;refine go ?_;refine l_op (clV (f:=11) (lb:=[]) (vs:=[.agg #[S l,S m],.agg #[S (l'),S (m')]]) en217 rfl rfl (qAddL e1 e2 q1 q2 (ht.ext r8)) ?_);rintro _ _ aon rfl;have⟨sc,aol,aom,r8⟩:=be3 aon.2 sc aol aom r8;refine go ?_;refine cl en1089 must_ok ?_;rintro _ _ aoo rfl;have⟨sc,aol,aom,r8⟩:=be3 aoo.2 sc aol aom r8;refine SA aom (λ_ aop aov=>?_);have⟨sc,aol,r8,_⟩:=pl2 aop sc aol r8;refine go ?_;refine f_out (v:=.agg #[S ((qR (a*n+p*b) (b*n)).1),S ((qR (a*n+p*b) (b*n)).2)]) (res1  rfl ?_) r8 rfl;refine res_cellA (t:=6) (cs:=[S ((qR (a*n+p*b) (b*n)).1),S ((qR (a*n+p*b) (b*n)).2)]) (b:=aor.heap.size) (o:=0) U36 rfl sz36 ?_ ?_;exact rfl;exact Blk.cells aov (i:=0) rfl
theorem add1_ok {b0 b1 b2:Nat}{a b c d a' b' c' d':Int}{x y:R×R}{w:World}(e1:x.1=qR a b)(e2:x.2=qR c d)(q1:Q9 a b)(q2:Q9 c d)(e3:y.1=qR a' b')(e4:y.2=qR c' d')(q3:Q9 a' b')(q4:Q9 c' d')(hb0:Blk w b0 183 #[.func (.func 11) #[] #[]])(hb1:Blk w b1 37 #[S x.1.1,S x.1.2,S x.2.1,S x.2.2])(hb2:Blk w b2 37 #[S y.1.1,S y.1.2,S y.2.1,S y.2.2])(ht:Tb w):
    CL 162 #[pT b0,pT b1,pT b2] w (Ret w λv w'=>v=.agg #[S ((qR (a*b'+a'*b) (b*b')).1),S ((qR (a*b'+a'*b) (b*b')).2),S ((qR (c*d'+c'*d) (d*d')).1),S ((qR (c*d'+c'*d) (d*d')).2)]):=by
 have zb0:=bt hb0;have zb1:=bt hb1;have zb2:=bt hb2;refine f_in Tryz.func162 rfl ?_;refine go ?_;refine al inf1032 (λ_ aoq r8=>?_);have⟨hb1,hb0,hb2⟩:=bf3 aoq.2 hb1 hb0 hb2;have sc:=aoq.2;refine go ?_;refine c_an 11 ?_;refine sf ?_;refine sf_ae (V:=.agg #[S ((qR (a*b'+a'*b) (b*b')).1),S ((qR (a*b'+a'*b) (b*b')).2)]) (λ_ _ aol _=>?_) ?_;refine cl en1055 (ofAdd_ok e1 e3 q1 q3 (ht.ext (xt sc aol))) ?_;rintro _ _ aom rfl;have ao1:=aom.2;refine go ?_;exact fs ⟨ao1,rfl⟩;refine sf ?_;intro _ _ aon _;have⟨hb1,hb0,hb2,r8,sc⟩:=be4 aon.2 hb1 hb0 hb2 r8 sc;refine cl en1055 (ofAdd_ok e2 e4 q2 q4 (ht.ext sc)) ?_;rintro _ _ aoo rfl;have⟨hb1,hb0,hb2,r8,sc⟩:=be4 aoo.2 hb1 hb0 hb2 r8 sc;refine l_op (k_build (vs:=[(0,.agg #[S ((qR (a*b'+a'*b) (b*b')).1),S ((qR (a*b'+a'*b) (b*b')).2)]),(1,.agg #[S ((qR (c*d'+c'*d) (d*d')).1),S ((qR (c*d'+c'*d) (d*d')).2)])]) (cells:=#[S ((qR (a*b'+a'*b) (b*b')).1),S ((qR (a*b'+a'*b) (b*b')).2),S ((qR (c*d'+c'*d) (d*d')).1),S ((qR (c*d'+c'*d) (d*d')).2)]) (pl:=[(0,2),(2,2)]) U1032 inf1032 (by kernel_rfl) rfl (by kernel_rfl) ?_);refine SA r8 (λ_ aop ao2=>?_);have⟨hb1,hb0,hb2,sc,_⟩:=pl3 aop hb1 hb0 hb2 sc;refine go ?_
 refine f_out (v:=.agg #[S ((qR (a*b'+a'*b) (b*b')).1),S ((qR (a*b'+a'*b) (b*b')).2),S ((qR (c*d'+c'*d) (d*d')).1),S ((qR (c*d'+c'*d) (d*d')).2)]) (res1  rfl ?_) sc rfl;refine res_cellA (t:=3) (cs:=[S ((qR (a*b'+a'*b) (b*b')).1),S ((qR (a*b'+a'*b) (b*b')).2),S ((qR (c*d'+c'*d) (d*d')).1),S ((qR (c*d'+c'*d) (d*d')).2)]) (b:=w.heap.size) (o:=0) U1032 rfl sz1032 ?_ ?_;exact rfl;exact Blk.cells ao2 (i:=0) rfl
theorem encAdd_ok {a b c d a' b' c' d':Int}{x y:R×R}{w:World}(hx:IvR x)(hy:IvR y)(e1:x.1=qR a b)(e2:x.2=qR c d)(q1:Q9 a b)(q2:Q9 c d)(e3:y.1=qR a' b')(e4:y.2=qR c' d')(q3:Q9 a' b')(q4:Q9 c' d')(ht:Tb w):
    CL 120 #[.agg #[S (x.1.1),S (x.1.2),S (x.2.1),S (x.2.2)],.agg #[S (y.1.1),S (y.1.2),S (y.2.1),S (y.2.2)]] w (Ret w λv w'=>v=.tuple #[.agg #[S ((qR (a*b'+a'*b) (b*b')).1),S ((qR (a*b'+a'*b) (b*b')).2),S ((qR (c*d'+c'*d) (d*d')).1),S ((qR (c*d'+c'*d) (d*d')).2)],.int .i64 0]):=by
 refine f_in Tryz.func120 rfl ?_;refine go ?_;refine bx (λaot aoy sc=>?_);have r8:=aoy.2;refine bx (λaow aox aol=>?_);have⟨sc,r8⟩:=be1 aox.2 sc r8;refine al inf1032 (λaou aov aom=>?_);have⟨sc,aol,r8⟩:=be2 aov.2 sc aol r8;refine go ?_;refine al inf1077 (λ_ aos aoz=>?_);have⟨sc,aol,aom,r8⟩:=be3 aos.2 sc aol aom r8;refine SO aoz (λ_ aop aon=>?_);have⟨sc,aol,aom,r8,_⟩:=pl3 aop sc aol aom r8;refine go ?_;refine l_op (k_makeFunc (vf:=[]) (vc:=[pT aou.heap.size,pT w.heap.size,pT aot.heap.size]) rfl rfl ?_);refine l_op (k_loadA (cs:=[S (x.1.1),S (x.1.2),S (x.2.1),S (x.2.2)]) (b:=w.heap.size) (o:=0) U1032 rfl sz1032 rfl (Blk.cells sc (i:=0) rfl) ?_);refine l_op (k_loadA (cs:=[S (y.1.1),S (y.1.2),S (y.2.1),S (y.2.2)]) (b:=aot.heap.size) (o:=0) U1032 rfl sz1032 rfl (Blk.cells aol (i:=0) rfl) ?_);refine BS2 (λ_ aoo _ ao1=>?_);have⟨sc,aol,aom,aon,r8⟩:=be4 aoo sc aol aom aon r8;have ao7:=bz aoo;refine clb en1053 (hc:=computeI_ok (l:=[x,y]) (x:=(qR (a*b'+a'*b) (b*b'),qR (c*d'+c'*d) (d*d'))) en2080 (Rw.of_own ao1) rfl (by simp) (λz hz=>by rcases List.mem_cons.1 hz with h|h;exact h▸hx;rw[List.mem_singleton.1 h];exact hy) (λW e=>add1_ok e1 e2 q1 q2 e3 e4 q3 q4 (aon.ext e) (sc.ext e) (aol.ext e) ((ht.ext r8).ext e)) (ht.ext r8)) (hk:=?_);rintro _ _ aoq rfl;have⟨sc,aol,aom,aon,r8⟩:=be4 aoq.2 sc aol aom aon r8;refine go ?_;refine SA aom (λ_ aor ao2=>?_)
 have⟨sc,aol,aon,r8,_⟩:=pl3 aor sc aol aon r8;refine go ?_;refine f_out (v:=.tuple #[.agg #[S ((qR (a*b'+a'*b) (b*b')).1),S ((qR (a*b'+a'*b) (b*b')).2),S ((qR (c*d'+c'*d) (d*d')).1),S ((qR (c*d'+c'*d) (d*d')).2)],.int .i64 0]) (res2 (r1:=.cell 4 37) (r2:=.tmp 5) rfl ?_ ?_) r8 rfl;refine res_cellA (t:=4) (cs:=[S ((qR (a*b'+a'*b) (b*b')).1),S ((qR (a*b'+a'*b) (b*b')).2),S ((qR (c*d'+c'*d) (d*d')).1),S ((qR (c*d'+c'*d) (d*d')).2)]) (b:=aow.heap.size) (o:=0) U1032 rfl sz1032 ?_ ?_;exact rfl;exact Blk.cells ao2 (i:=0) rfl;exact res_tmp (t:=5) (by exact rfl) _
end Go.Proofs.YtinldhphnpflaaaGreatDoor
namespace Go.Proofs.YtinldhphnpflaaaGreatDoor
open Go Go.Eng Go.RowKit
def EntOk (F:R->Value)(es:List MapEntry):Prop:=∀e∈es,∃q:R,e.key=.agg #[S q.1,S q.2]∧e.val=F q
def Mpb (w:World)(b:Nat)(F:R->Value):Prop:=∃es clock,w.heap[b]?=some (.map es clock)∧EntOk F es.toList
theorem Mpb.ext {w w':World}{b:Nat}{F:R->Value}(k:Ext w w')(h:Mpb w b F):Mpb w' b F:=by
  obtain⟨es,c,h1,h2⟩:=h
  exact⟨es,c,k.heap h1,h2⟩
theorem Mpb.lt {w:World}{b:Nat}{F:R->Value}(h:Mpb w b F):b<w.heap.size:=by
  obtain⟨_,c,h1,_⟩:=h
  exact(Array.getElem?_eq_some_iff.1 h1).1
theorem Mpb.ne {w:World}{b c t:Nat}{F:R->Value}{cs:Array Value}(h:Mpb w b F)(k:Blk w c t cs):c≠b:=by
  obtain⟨_,_,h1,_⟩:=h
  unfold Blk at k
  intro e
  subst e
  rw[k]at h1;cases h1
theorem Mpb.put {w w':World}{b c:Nat}{F:R->Value}(k:Put w w' c)(hne:b≠c)(h:Mpb w b F):Mpb w' b F:=by
  obtain⟨es,cl,h1,h2⟩:=h
  exact⟨es,cl,(k.block b hne).trans h1,h2⟩
theorem ck9 (w:World)(em:Bool)(a:List UInt8)(n:Nat):(Instr.checkKey em (n+1) 9 (S a)).run Tryz.prog w=.ok () w:=by
  unfold Instr.checkKey
  simp[run_underlying Tryz.underlying9,S]
theorem ck36 (w:World)(em:Bool)(q:R):(Instr.checkKey em 10000 25 (.agg #[S q.1,S q.2])).run Tryz.prog w=.ok () w:=by
  show(Instr.checkKey em (9998+1+1) 25 _).run _ _=_
  unfold Instr.checkKey
  have p1:=part9 w #[S q.1,S q.2] 0 (S q.1) rfl
  have p2:=part9 w #[S q.1,S q.2] 1 (S q.2) rfl
  have c1:=ck9 w em q.1 9998
  have c2:=ck9 w em q.2 9998
  simp[run_underlying Tryz.underlying25,p1,p2,c1,c2]
theorem ask36 (w:World)(F:R->Value)(q:R):∀(es:List MapEntry) (i:Nat),EntOk F es->∃o:Option (Nat×Value),(Instr.findAsking 25 (.agg #[S q.1,S q.2]) es i).run Tryz.prog w=.ok o w∧
    ∀j v,o=some (j,v)->v=F q∧i<=j∧∃e,es[j-i]?=some e∧e.key=.agg #[S q.1,S q.2]
  |[],i,_=>⟨none,by simp[Instr.findAsking],λj v h=>by cases h⟩
  | e ::es,i,h=>by
    obtain⟨p,hk,hv⟩:=h e (by simp)
    have he:=eq36 w q p
    unfold Instr.findAsking
    by_cases hq:q=p
    · subst hq
      refine⟨some (i,e.val),by simp[hk,he],λj v hj=>?_⟩
      cases hj
      exact⟨hv,Nat.le_refl _,e,by simp,hk⟩
    · obtain⟨o,h1,h2⟩:=ask36 w F q es (i+1) (λx hx=>h x (by simp[hx]))
      refine⟨o,by simp[hk,he,hq,h1],λj v hj=>?_⟩
      obtain⟨h3,h4,e',h5,h6⟩:=h2 j v hj
      refine⟨h3,by omega,e',?_,h6⟩
      rw[show j-i=(j-(i+1))+1 by omega,List.getElem?_cons_succ]
      exact h5
theorem find36 (w:World)(F:R->Value)(q:R)(es:List MapEntry)(h:EntOk F es):∃o:Option (Nat×Value),(Instr.findKey 25 (.agg #[S q.1,S q.2]) es).run Tryz.prog w=.ok o w∧
    ∀j v,o=some (j,v)->v=F q∧∃e,es[j]?=some e∧e.key=.agg #[S q.1,S q.2]:=by
  cases es with
  |nil=>exact⟨none,by simp[Instr.findKey,run_underlying Tryz.underlying25,Instr.findNow],λj v h=>by cases h⟩
  | cons e es=>
    obtain⟨o,h1,h2⟩:=ask36 w F q (e::es) 0 h
    refine⟨o,?_,λj v hj=>?_⟩
    · obtain⟨p,hk,_⟩:=h e (by simp)
      have hn:∀fs,Instr.findNow (.struct fs) (.agg #[S q.1,S q.2]) (e::es) 0=none:=λfs=>by simp[Instr.findNow,Instr.sameNow,hk]
      simp[Instr.findKey,run_underlying Tryz.underlying25,hn,h1]
    · obtain⟨h3,_,e',h5,h6⟩:=h2 j v hj
      exact⟨h3,e',h5,h6⟩
def Z4:Value:=.agg #[S [],S [],S [],S []]
section
variable {r:Option Nat}{n N:Nat}{e:Nat->Value}{ds:List Deferred}{w:World}{Q:Exit->Act->World->Prop}{K:Act->World->Prop}
variable {d ty:Nat}{pos:String}{af:Array Edge}{g:Option (Nat×Bool)}{v u:Value}{x y z:Operand}{t t':TypeId}{F:R->Value}{b:Nat}{q:R}
theorem k_makeMap (hk:∀w',Ext w w'->w'.heap.size=w.heap.size+1->Mpb w' w.heap.size F->K (act N (upd e d (.map (some w.heap.size))) ds) w'):
    Oper.wpIn (Fw r) n Tryz.prog ⟨some d,.makeMap t none,ty,pos,af,g⟩ (act N e ds) w K Q:=by
  refine k_val (v:=.map (some w.heap.size)) (w':=w.alloc (.map #[] 0)) rfl ?_ (by rw[act_put];exact hk _ (Ext.alloc _ _) (by simp) ⟨#[],0,heap_alloc_new w _,λe he=>by simp at he⟩)
  simp[execOp,run_makeMap]
theorem put_set {w:World}{b:Nat}{o:Obj}:Put w {w with heap:=w.heap.setIfInBounds b o} b:=
  ⟨rfl,rfl,rfl,by simp,λk hk=>by simp[Array.getElem?_setIfInBounds,Ne.symm hk]⟩
theorem k_mapUpdate36 (hx:ev N e x=.map (some b))(hy:ev N e y=.agg #[S q.1,S q.2])(hz:ev N e z=F q)(hM:Mpb w b F)(hk:∀w',Put w w' b->Mpb w' b F->K (act N e ds) w'):
    Oper.wpIn (Fw r) n Tryz.prog ⟨none,.mapUpdate 180 x y z,ty,pos,af,g⟩ (act N e ds) w K Q:=by
  have hlt:=hM.lt
  obtain⟨es,c,h1,h2⟩:=hM
  obtain⟨o,h3,h4⟩:=find36 w F q es.toList h2
  have hc:=ck36 w false q
  cases o with
  | none=>
    refine k_skip (w':={w with heap:=w.heap.setIfInBounds b (.map (es.push {key:=.agg #[S q.1,S q.2],val:=F q,born:=c}) (c+1))}) rfl ?_ (hk _ put_set ⟨es.push {key:=.agg #[S q.1,S q.2],val:=F q,born:=c},c+1,by simp[hlt],λx hx=>?_⟩)
    · simp[execOp,Instr.mapUpdate,hx,hy,hz,run_underlying Tryz.underlying180,MapKept.run_getObj_map h1,hc,h3,MapKept.run_setObj_map _ h1]
    · simp at hx
      rcases hx with hx|rfl
      · exact h2 x (by simpa using hx)
      · exact⟨q,rfl,rfl⟩
  | some p=>
    obtain⟨_,e',h6,h7⟩:=h4 p.1 p.2 rfl
    have hs:(Instr.keyThatStays (.agg #[S q.1,S q.2]) (.agg #[S q.1,S q.2])).run Tryz.prog w=.ok (.agg #[S q.1,S q.2]) w:=by
      have:Instr.sameBits 10000 (.agg #[S q.1,S q.2]) (.agg #[S q.1,S q.2])=true:=by
        show Instr.sameBits (9999+1) _ _=true
        have hb:∀x y:ByteArray,(x==y)=(x.data==y.data):=λx y=>by cases x;cases y;rfl
        simp[Instr.sameBits,S,hb]
      simp[Instr.keyThatStays,this]
    have h8:es[p.1]?=some e':=by simpa using h6
    refine k_skip (w':={w with heap:=w.heap.setIfInBounds b (.map (es.modify p.1 λe=>{e with key:=.agg #[S q.1,S q.2],val:=F q}) c)}) rfl ?_ (hk _ put_set ⟨es.modify p.1 λe=>{e with key:=.agg #[S q.1,S q.2],val:=F q},c,by simp[hlt],λx hx=>?_⟩)
    · simp[execOp,Instr.mapUpdate,hx,hy,hz,run_underlying Tryz.underlying180,MapKept.run_getObj_map h1,hc,h3,h8,h7,hs,MapKept.run_setObj_map _ h1]
    · rw[Array.toList_modify]at hx
      obtain⟨i,hi⟩:=List.mem_iff_getElem?.1 hx
      rw[List.getElem?_modify]at hi
      cases hg:es.toList[i]? with
      |none=>rw[hg]at hi;simp at hi
      | some y=>
        rw[hg]at hi
        by_cases hp:p.1=i
        · simp[hp]at hi;exact⟨q,by rw[<-hi],by rw[<-hi]⟩
        · simp[hp]at hi;rw[<-hi];exact h2 y (List.mem_iff_getElem?.2 ⟨i,hg⟩)
end
def ivV (G:R->R×R)(q:R):Value:=.agg #[S (G q).1.1,S (G q).1.2,S (G q).2.1,S (G q).2.2]
def LookT (w:World)(b:Nat)(q:R):Prop:=∃es clock p,w.heap[b]?=some (.map es clock)∧(Instr.findKey 25 (.agg #[S q.1,S q.2]) es.toList).run Tryz.prog w=.ok (some p) w
theorem Tb.grm {w w':World}{b:Nat}{F:R->Value}(k:w.grownBy w' (some b))(hM:Mpb w b F)(h:Tb w):Tb w':=by
  unfold Tb at *
  obtain⟨x,hx⟩:=h
  refine⟨x,?_⟩
  obtain⟨_,c,h1,_⟩:=hM
  rw[<-hx]
  refine k.block _ (Array.getElem?_eq_some_iff.1 hx).1 (λe=>?_)
  have e2:=Option.some.inj e
  rw[e2,h1]at hx
  cases hx
section
variable {r:Option Nat}{n N:Nat}{e:Nat->Value}{ds:List Deferred}{w:World}{Q:Exit->Act->World->Prop}{K:Act->World->Prop}
variable {d ty:Nat}{pos:String}{af:Array Edge}{g:Option (Nat×Bool)}{v u:Value}{x y z:Operand}{t t':TypeId}{G:R->R×R}{b:Nat}{q:R}
theorem k_lookT (hx:ev N e x=.map (some b))(hy:ev N e y=.agg #[S q.1,S q.2])(hM:Mpb w b (ivV G))(hL:LookT w b q)(hk:K (act N (upd e d (.tuple #[.agg #[S (G q).1.1,S (G q).1.2,S (G q).2.1,S (G q).2.2],.bool true])) ds) w):
    Oper.wpIn (Fw r) n Tryz.prog ⟨some d,.lookup 180 x y true,ty,pos,af,g⟩ (act N e ds) w K Q:=by
  obtain⟨es,c,h1,h2⟩:=hM
  obtain⟨_,_,p,l1,l2⟩:=hL
  rw[h1]at l1
  cases l1
  obtain⟨o,h3,h4⟩:=find36 w (ivV G) q es.toList h2
  rw[l2]at h3
  cases h3
  obtain⟨h5,_⟩:=h4 p.1 p.2 rfl
  have hc:=ck36 w es.isEmpty q
  refine k_val (v:=.tuple #[ivV G q,.bool true]) (w':=w) rfl ?_ (by rw[act_put];exact hk)
  simp[execOp,Instr.lookup,hx,hy,run_underlying Tryz.underlying180,MapKept.run_getObj_map h1,hc,l2,h5]
theorem k_lookF (hx:ev N e x=.map (some b))(hy:ev N e y=.agg #[S q.1,S q.2])(hM:Mpb w b (ivV G))(hL:¬LookT w b q)(hk:K (act N (upd e d (.tuple #[.agg #[S [],S [],S [],S []],.bool false])) ds) w):
    Oper.wpIn (Fw r) n Tryz.prog ⟨some d,.lookup 180 x y true,ty,pos,af,g⟩ (act N e ds) w K Q:=by
  obtain⟨es,c,h1,h2⟩:=hM
  obtain⟨o,h3,_⟩:=find36 w (ivV G) q es.toList h2
  cases o with
  |some p=>exact absurd ⟨es,c,p,h1,h3⟩ hL
  | none=>
    have hz:(zeroValue 37).run Tryz.prog w=.ok Z4 w:=by
      obtain⟨i,i1,i2,_,_⟩:=(inf1032:Inf Tryz.prog 37 _ _ _).parts
      simp[zeroValue,typeInfo,i1,i2,Z4]
    have hc:=ck36 w es.isEmpty q
    refine k_val (v:=.tuple #[Z4,.bool false]) (w':=w) rfl ?_ (by rw[act_put];exact hk)
    simp[execOp,Instr.lookup,hx,hy,run_underlying Tryz.underlying180,MapKept.run_getObj_map h1,hc,h3,hz]
theorem k_mapUpd (hx:ev N e x=.map (some b))(hy:ev N e y=.agg #[S q.1,S q.2])(hz:ev N e z=.agg #[S (G q).1.1,S (G q).1.2,S (G q).2.1,S (G q).2.2])(hM:Mpb w b (ivV G))(hk:∀w',Put w w' b->Mpb w' b (ivV G)->K (act N e ds) w'):
    Oper.wpIn (Fw r) n Tryz.prog ⟨none,.mapUpdate 180 x y z,ty,pos,af,g⟩ (act N e ds) w K Q:=k_mapUpdate36 hx hy hz hM hk
theorem k_callVA {R:Value->World->Prop}{f:FuncId}{lb:List Value}{xs:Array Operand}{ats:Array TypeId}{vs:List Value}(hf:Enters Tryz.prog f)(hx:ev N e x=.func (.func f) #[] lb.toArray)(hv:xs.toList.map (ev N e)=vs)(hc:CL f (vs++lb).toArray w (RetA R))(hk:∀v w',R v w'->K (act N (upd e d v) ds) w'):Oper.wpIn (Fw r) n Tryz.prog ⟨some d,.call {callee:=.value x,args:=xs,argTypes:=ats},ty,pos,af,g⟩ (act N e ds) w K Q:=by
  subst hv
  have h2:xs.map (ev N e)++lb.toArray=(xs.toList.map (ev N e)++lb).toArray:=by simp
  refine⟨λf _=>Fw_fn r f,?_⟩
  have hs:(execOp (ev N e) ⟨some d,.call {callee:=.value x,args:=xs,argTypes:=ats},ty,pos,af,g⟩).run Tryz.prog w=.ok (.enter f (xs.map (ev N e)++lb.toArray)) w:=by
    simp[execOp,resolve,Deferred.ofValue,hx,invoke,hf _ _]
  rw[semAt_Fw rfl,act_eval,hs]
  refine⟨(λh=>by rw[Fw_depth]at h;cases h),Fw_calls ((show CL f (xs.map (ev N e)++lb.toArray) w (RetA R)from by rw[h2];exact hc).mono ?_)⟩
  intro e' w' h
  cases e' with
  | returned v=>
    show K ((act N e ds).put (some d) v) w'
    rw[act_put];exact hk v w' h
  |panicked c=>exact h.elim
  |outgrown=>exact h.elim
theorem k_fieldI0 {a b' c' d':List UInt8}(hx:ev N e x=.agg #[S a,S b',S c',S d'])(hk:K (act N (upd e d (.agg #[S a,S b'])) ds) w):
    Oper.wpIn (Fw r) n Tryz.prog ⟨some d,.field 37 x 0,ty,pos,af,g⟩ (act N e ds) w K Q:=by
  refine k_val (v:=.agg #[S a,S b']) (w':=w) rfl ?_ (by rw[act_put];exact hk)
  have p:=part36a w a b' c' d'
  simp[execOp,Instr.field,hx,run_underlying Tryz.underlying37,asAgg,p]
theorem k_fieldI1 {a b' c' d':List UInt8}(hx:ev N e x=.agg #[S a,S b',S c',S d'])(hk:K (act N (upd e d (.agg #[S c',S d'])) ds) w):
    Oper.wpIn (Fw r) n Tryz.prog ⟨some d,.field 37 x 1,ty,pos,af,g⟩ (act N e ds) w K Q:=by
  refine k_val (v:=.agg #[S c',S d']) (w':=w) rfl ?_ (by rw[act_put];exact hk)
  have p:=part36b w a b' c' d'
  simp[execOp,Instr.field,hx,run_underlying Tryz.underlying37,asAgg,p]
end
end Go.Proofs.YtinldhphnpflaaaGreatDoor
namespace Go.Proofs.YtinldhphnpflaaaGreatDoor
open Go Go.Eng Go.RowKit
attribute [local irreducible] wpListIn Code.wpIn Oper.wpIn Exit.then Exit.inBlock Exit.noGoto
set_option maxHeartbeats 40000000
theorem Tb.putm {w w':World}{b:Nat}{F:R->Value}(k:Put w w' b)(hM:Mpb w b F)(h:Tb w):Tb w':=by
  unfold Tb at *
  obtain⟨x,hx⟩:=h
  refine⟨x,?_⟩
  obtain⟨_,c,h1,_⟩:=hM
  rw[<-hx]
  refine k.block _ (λe=>?_)
  rw[e,h1]at hx
  cases hx
set_option maxRecDepth 100000 in
theorem tnorm_ok {l m:List UInt8}{b bm bp pl:Nat}{Gf:R->R×R}{w:World}(hbm:Blk w bm 180 #[.map (some b)])(hbp:Blk w bp 3 #[.int .i64 pl])(hM:Mpb w b (ivV Gf))(hF:∀W,Tb W->CL 155 #[.agg #[S l,S m],.int .i64 pl] W (Ret W λv _=>v=.tuple #[.agg #[S ((Gf (l,m)).1.1),S ((Gf (l,m)).1.2),S ((Gf (l,m)).2.1),S ((Gf (l,m)).2.2)],.int .i64 0]))(ht:Tb w):
    CL 154 #[.agg #[S l,S m],pT bm,pT bp] w (RetA λv w'=>w.grownBy w' (some b)∧Mpb w' b (ivV Gf)∧v=.agg #[S ((Gf (l,m)).1.1),S ((Gf (l,m)).1.2),S ((Gf (l,m)).2.1),S ((Gf (l,m)).2.2)]):=by
 have G:=World.grownBy.refl w (some b);have zm:=Mpb.lt hM;have zbm:=bt hbm;have zbp:=bt hbp;have n1:=Mpb.ne hM hbm;have n2:=Mpb.ne hM hbp;refine f_inA Tryz.func154 rfl ?_;refine go ?_;refine bx (λao0 aoz r8=>?_);have⟨hbm,hbp⟩:=bf2 aoz.2 hbm hbp;have hM:=Mpb.ext aoz.2 hM;have ht:=Tb.ext aoz.2 ht;have G:=gb_ext G aoz.2;refine al inf1032 (λaot aow sc=>?_);have⟨hbm,hbp⟩:=bf2 aow.2 hbm hbp;have hM:=Mpb.ext aow.2 hM;have ht:=Tb.ext aow.2 ht;have r8:=be aow.2 r8;have G:=gb_ext G aow.2;refine go ?_;by_cases ao3:LookT aot b (l,m);refine go ?_;refine l_op (k_lookT (b:=b) (q:=(l,m)) (G:=Gf) rfl rfl hM ao3 ?_);refine go ?_;refine al inf1032 (λ_ aou ao4=>?_);have⟨hbm,hbp⟩:=bf2 aou.2 hbm hbp;have hM:=Mpb.ext aou.2 hM;have⟨r8,sc⟩:=bf2 aou.2 r8 sc;have G:=gb_ext G aou.2;refine SA ao4 (λ_ aol ao1=>?_);have⟨hbm,hbp⟩:=pf2 aol hbm hbp;have hM:=Mpb.put aol om hM;have⟨r8,sc⟩:=pf2 aol r8 sc;have G:=gb_putn G aol om;have apa:=psz aol;refine go ?_;refine l_op (k_loadA (cs:=[S ((Gf (l,m)).1.1),S ((Gf (l,m)).1.2),S ((Gf (l,m)).2.1),S ((Gf (l,m)).2.2)]) (b:=aot.heap.size) (o:=0) U1032 rfl sz1032 rfl (Blk.cells ao1 (i:=0) rfl) ?_);refine SA sc (λ_ aom ao6=>?_);have⟨hbm,hbp⟩:=pf2 aom hbm hbp;have hM:=Mpb.put aom om hM;have⟨r8,ao1⟩:=pf2 aom r8 ao1;have G:=gb_putn G aom om;have apc:=psz aom;refine go ?_
 refine f_outA (v:=.agg #[S ((Gf (l,m)).1.1),S ((Gf (l,m)).1.2),S ((Gf (l,m)).2.1),S ((Gf (l,m)).2.2)]) (res1  rfl ?_) ⟨G,hM,rfl⟩;refine res_cellA (t:=4) (cs:=[S ((Gf (l,m)).1.1),S ((Gf (l,m)).1.2),S ((Gf (l,m)).2.1),S ((Gf (l,m)).2.2)]) (b:=ao0.heap.size) (o:=0) U1032 rfl sz1032 ?_ ?_;exact rfl;exact Blk.cells ao6 (i:=0) rfl;refine go ?_;refine l_op (k_lookF (b:=b) (q:=(l,m)) (G:=Gf) rfl rfl hM ao3 ?_);refine go ?_;refine al inf1032 (λ_ aov ao5=>?_);have⟨hbm,hbp⟩:=bf2 aov.2 hbm hbp;have hM:=Mpb.ext aov.2 hM;have ht:=Tb.ext aov.2 ht;have⟨r8,sc⟩:=bf2 aov.2 r8 sc;have G:=gb_ext G aov.2;refine SA ao5 (λ_ aon aox=>?_);have⟨hbm,hbp⟩:=pf2 aon hbm hbp;have hM:=Mpb.put aon om hM;have ht:=Tb.put aon ao5 dc ht;have⟨r8,sc⟩:=pf2 aon r8 sc;have G:=gb_putn G aon om;have apf:=psz aon;refine go ?_;refine cl en1017 ((hF _ ht)) ?_;rintro _ _ aoo rfl;have⟨hbm,hbp⟩:=bf2 aoo.2 hbm hbp;have hM:=Mpb.ext aoo.2 hM;have ht:=Tb.ext aoo.2 ht;have⟨r8,sc,aox⟩:=bf3 aoo.2 r8 sc aox;have G:=gb_ext G aoo.2;refine go ?_;refine cl en2104 (imust_ok (x:=Gf (l,m))) ?_;rintro _ _ aop rfl;have⟨hbm,hbp⟩:=bf2 aop.2 hbm hbp;have hM:=Mpb.ext aop.2 hM;have ht:=Tb.ext aop.2 ht;have⟨r8,sc,aox⟩:=bf3 aop.2 r8 sc aox;have G:=gb_ext G aop.2;refine SA aox (λ_ aoq aoy=>?_);have⟨hbm,hbp⟩:=pf2 aoq hbm hbp;have hM:=Mpb.put aoq om hM;have ht:=Tb.put aoq aox dc ht;have⟨r8,sc⟩:=pf2 aoq r8 sc;have G:=gb_putn G aoq om
 have apl:=psz aoq;refine go ?_;refine l_op (k_loadA (cs:=[S ((Gf (l,m)).1.1),S ((Gf (l,m)).1.2),S ((Gf (l,m)).2.1),S ((Gf (l,m)).2.2)]) (b:=aot.heap.size) (o:=0) U1032 rfl sz1032 rfl (Blk.cells aoy (i:=0) rfl) ?_);refine l_op (k_mapUpd (b:=b) (q:=(l,m)) (G:=Gf) rfl rfl rfl hM (λ_ aor ao2=>?_));have⟨hbm,hbp⟩:=pf2 aor hbm hbp;have ht:=Tb.putm aor hM ht;have⟨r8,sc,aoy⟩:=pf3 aor r8 sc aoy;have G:=gb_put G aor;have apn:=psz aor;refine go ?_;refine l_op (k_loadA (cs:=[S ((Gf (l,m)).1.1),S ((Gf (l,m)).1.2),S ((Gf (l,m)).2.1),S ((Gf (l,m)).2.2)]) (b:=aot.heap.size) (o:=0) U1032 rfl sz1032 rfl (Blk.cells aoy (i:=0) rfl) ?_);refine SA sc (λ_ aos ao7=>?_);have⟨hbm,hbp⟩:=pf2 aos hbm hbp;have ao2:=Mpb.put aos om ao2;have⟨r8,aoy⟩:=pf2 aos r8 aoy;have G:=gb_putn G aos om;have apq:=psz aos;refine go ?_;refine f_outA (v:=.agg #[S ((Gf (l,m)).1.1),S ((Gf (l,m)).1.2),S ((Gf (l,m)).2.1),S ((Gf (l,m)).2.2)]) (res1  rfl ?_) ⟨G,ao2,rfl⟩;refine res_cellA (t:=4) (cs:=[S ((Gf (l,m)).1.1),S ((Gf (l,m)).1.2),S ((Gf (l,m)).2.1),S ((Gf (l,m)).2.2)]) (b:=ao0.heap.size) (o:=0) U1032 rfl sz1032 ?_ ?_;exact rfl;exact Blk.cells ao7 (i:=0) rfl
end Go.Proofs.YtinldhphnpflaaaGreatDoor
