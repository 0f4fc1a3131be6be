/- Part of the proof of a statement about decisions. -/
import Derived.Test.YtinldhphnpflaaaGreatDoorSp15ToSpM
import Derived.Test.YtinldhphnpflaaaGreatDoorRatQToSp14
set_option linter.all false
namespace Go.Proofs.YtinldhphnpflaaaGreatDoor
theorem upn_le_iff {a b k:Nat}(hb:0<b):upn a b<=k↔a<=k*b:=by
  have h0:=Nat.div_add_mod a b
  have h1:=Nat.mod_lt a hb
  unfold upn
  constructor
  · intro h
    split at h
    · rename_i e
      have:b*(a/b)<=b*k:=Nat.mul_le_mul_left _ h
      rw[Nat.mul_comm k];omega
    · have:b*(a/b+1)<=b*k:=Nat.mul_le_mul_left _ h
      rw[Nat.mul_add]at this
      rw[Nat.mul_comm k];omega
  · intro h
    have h2:a/b<=k:=Nat.div_le_of_le_mul (by rw[Nat.mul_comm];exact h)
    split
    · exact h2
    · rename_i e
      rcases Nat.lt_or_ge (a/b) k with h3|h3
      · exact h3
      · have e3:a/b=k:=Nat.le_antisymm h2 h3
        rw[e3,Nat.mul_comm]at h0
        omega
theorem le_upn {a b:Nat}(hb:0<b):a<=upn a b*b:=(upn_le_iff hb).1 (Nat.le_refl _)
theorem fl_inc {a b a' b' T:Nat}(hb':0<b')(h:a*b'*T<=a'*b):a/b*T<=a'/b':=by
  rcases Nat.eq_zero_or_pos b with e|hb
  · subst e;simp
  rw[Nat.le_div_iff_mul_le hb']
  refine Nat.le_of_mul_le_mul_right (Nat.le_trans ?_ h) hb
  have h1:a/b*b<=a:=Nat.div_mul_le_self a b
  have h2:=Nat.mul_le_mul_right (b'*T) h1
  have e1:a/b*T*b'*b=a/b*b*(b'*T):=by ac_rfl
  have e2:a*b'*T=a*(b'*T):=by ac_rfl
  rw[e1,e2];exact h2
theorem up_inc {a b a' b' T:Nat}(hb:0<b)(hb':0<b')(h:a'*b<=a*b'*T):upn a' b'<=upn a b*T:=by
  rw[upn_le_iff hb']
  refine Nat.le_of_mul_le_mul_right (Nat.le_trans h ?_) hb
  have h2:=Nat.mul_le_mul_right (b'*T) (le_upn (a:=a) hb)
  have e1:upn a b*T*b'*b=upn a b*b*(b'*T):=by ac_rfl
  have e2:a*b'*T=a*(b'*T):=by ac_rfl
  rw[e1,e2];exact h2
structure Inc (T:Nat)(p q:N2):Prop where
  lo:q.1*T<=p.1
  hi:p.2<=q.2*T
def Vd (p:N2):Prop:=p.1<=p.2
theorem fl_le_up {a b c d:Nat}(hc:0<c)(hd:c<=d)(h:a<=b):a/d<=upn b c:=by
  refine Nat.le_trans (Nat.div_le_div h hd (by omega)) ?_
  exact Nat.div_le_of_le_mul (by rw[Nat.mul_comm];exact le_upn hc)
theorem Vd.of {S n d:Nat}(hd:0<d):Vd (ofP S n d):=fl_le_up hd (Nat.le_refl _) (Nat.le_refl _)
theorem Vd.tm {S:Nat}{a b:N2}(hS:0<S)(ha:Vd a)(hb:Vd b):Vd (tmP S a b):=fl_le_up hS (Nat.le_refl _) (Nat.mul_le_mul ha hb)
theorem Vd.by' {a:N2}{n d:Nat}(hd:0<d)(ha:Vd a):Vd (byP a n d):=fl_le_up hd (Nat.le_refl _) (Nat.mul_le_mul_right _ ha)
theorem Vd.ov {S:Nat}{a b:N2}(h0:0<b.1)(ha:Vd a)(hb:Vd b):Vd (ovP S a b):=fl_le_up h0 hb (Nat.mul_le_mul_right _ ha)
theorem Vd.pl {a b:N2}(ha:Vd a)(hb:Vd b):Vd (plP a b):=Nat.add_le_add ha hb
theorem Inc.of {S T n d:Nat}(hd:0<d):Inc T (ofP (S*T) n d) (ofP S n d):=
  ⟨fl_inc hd (Nat.le_of_eq (by ac_rfl)),up_inc hd hd (Nat.le_of_eq (by ac_rfl))⟩
theorem Inc.tm {S T:Nat}(hS:0<S)(hT:0<T){a a' b b':N2}(ha:Inc T a' a)(hb:Inc T b' b):Inc T (tmP (S*T) a' b') (tmP S a b):=by
  have hST:=Nat.mul_pos hS hT
  constructor
  · refine fl_inc hST ?_
    have:=Nat.mul_le_mul_right S (Nat.mul_le_mul ha.lo hb.lo)
    have e:a.1*b.1*(S*T)*T=a.1*T*(b.1*T)*S:=by ac_rfl
    rw[e];exact this
  · refine up_inc hS hST ?_
    have:=Nat.mul_le_mul_right S (Nat.mul_le_mul ha.hi hb.hi)
    have e:a.2*b.2*(S*T)*T=a.2*T*(b.2*T)*S:=by ac_rfl
    rw[e];exact this
theorem Inc.by' {T:Nat}{a a':N2}{n d:Nat}(hd:0<d)(ha:Inc T a' a):Inc T (byP a' n d) (byP a n d):=by
  constructor
  · refine fl_inc hd ?_
    have:=Nat.mul_le_mul_right (n*d) ha.lo
    have e:a.1*n*d*T=a.1*T*(n*d):=by ac_rfl
    have e2:a'.1*n*d=a'.1*(n*d):=by ac_rfl
    rw[e,e2];exact this
  · refine up_inc hd hd ?_
    have:=Nat.mul_le_mul_right (n*d) ha.hi
    have e:a.2*n*d*T=a.2*T*(n*d):=by ac_rfl
    have e2:a'.2*n*d=a'.2*(n*d):=by ac_rfl
    rw[e,e2];exact this
theorem Inc.ov {S T:Nat}(hT:0<T){a a' b b':N2}(h0:0<b.1)(h1:0<b'.2)(ha:Inc T a' a)(hb:Inc T b' b):Inc T (ovP (S*T) a' b') (ovP S a b):=by
  have h2:0<b'.1:=Nat.lt_of_lt_of_le (Nat.mul_pos h0 hT) hb.lo
  constructor
  · refine fl_inc h1 ?_
    have:=Nat.mul_le_mul_left S (Nat.mul_le_mul ha.lo hb.hi)
    have e:a.1*S*b'.2*T=S*(a.1*T*b'.2):=by ac_rfl
    have e2:a'.1*(S*T)*b.2=S*(a'.1*(b.2*T)):=by ac_rfl
    rw[e,e2];exact this
  · refine up_inc h0 h2 ?_
    have:=Nat.mul_le_mul_left S (Nat.mul_le_mul ha.hi hb.lo)
    have e:a.2*S*b'.1*T=S*(a.2*T*b'.1):=by ac_rfl
    have e2:a'.2*(S*T)*b.1=S*(a'.2*(b.1*T)):=by ac_rfl
    rw[e,e2];exact this
theorem Inc.pl {T:Nat}{a a' b b':N2}(ha:Inc T a' a)(hb:Inc T b' b):Inc T (plP a' b') (plP a b):=
  ⟨by have:=ha.lo;have:=hb.lo;simp only[plP,Nat.add_mul];omega,by have:=ha.hi;have:=hb.hi;simp only[plP,Nat.add_mul];omega⟩
theorem Inc.one {S T:Nat}:Inc T (1*(S*T),1*(S*T)) (1*S,1*S):=⟨by simp,by simp⟩
theorem Inc.refl {p:N2}:Inc 1 p p:=⟨by simp,by simp⟩
theorem tot_hi {X X':Nat->N2}{T:Nat}(hi:∀k,Inc T (X' k) (X k)):∀k,Inc T (totP X' k) (totP X k)
  |0=>⟨by simp[totP],by simp[totP]⟩
  |k+1=>(tot_hi hi k).pl (hi k)
theorem tot_mono {X:Nat->N2}{m k:Nat}(h:m<=k):(totP X m).1<=(totP X k).1∧(totP X m).2<=(totP X k).2:=by
  induction h with
  |refl=>exact⟨Nat.le_refl _,Nat.le_refl _⟩
  |step _ ih=>exact⟨Nat.le_trans ih.1 (Nat.le_add_right _ _),Nat.le_trans ih.2 (Nat.le_add_right _ _)⟩
theorem tot_zero {X:Nat->N2}(hz:∀k,(X k).1=0->(X (k+1)).1=0){m:Nat}(h0:(X m).1=0):∀j,(X (m+j)).1=0∧(totP X (m+j+1)).1=(totP X (m+1)).1
  |0=>⟨h0,rfl⟩
  | j+1=>by
    obtain⟨h1,h2⟩:=tot_zero hz h0 j
    have h3:=hz _ h1
    refine⟨h3,?_⟩
    show(totP X (m+(j+1))).1+(X (m+(j+1))).1=_
    rw[show m+(j+1)=m+j+1 from rfl,h3,h2];simp
theorem tele {X:Nat->N2}{m:Nat}(hr:∀k,m<=k->(X (k+1)).2*2<=(X k).2+2):∀j,(totP X (m+j+1)).2+(X (m+j)).2<=(totP X (m+1)).2+(X m).2+2*j
  |0=>Nat.le_refl _
  | j+1=>by
    have h1:=tele hr j
    have h2:=hr (m+j) (by omega)
    show(totP X (m+j+1)).2+(X (m+(j+1))).2+(X (m+(j+1))).2<=_
    rw[show m+(j+1)=m+j+1 from rfl]
    omega
theorem sum_inc {X X':Nat->N2}{T m m':Nat}(hT:3<=T)(h:SumR X m)(h':SumR X' m')(hi:∀k,Inc T (X' k) (X k))(hv:∀k,Vd (X' k))(hz:∀k,(X k).1=0->(X (k+1)).1=0)(hr:∀k,m<=k->(X' (k+1)).2*2<=(X' k).2+2):Inc T (resP X' m') (resP X m):=by
  constructor
  · show(totP X (m+1)).1*T<=(totP X' (m'+1)).1
    rcases Nat.lt_or_ge m' m with hl|hl
    · have h1:(X m').1=0:=by
        have h2:=(hi m').lo
        have h3:=h'.stop.1
        have h4:=hv m'
        unfold Vd at h4
        rcases Nat.eq_zero_or_pos (X m').1 with e|e
        · exact e
        · have:=Nat.mul_le_mul e hT;omega
      have h5:=(tot_zero hz h1 (m-m')).2
      rw[show m'+(m-m')+1=m+1 by omega]at h5
      rw[h5]
      exact(tot_hi hi (m'+1)).lo
    · exact Nat.le_trans (tot_hi hi (m+1)).lo (tot_mono (by omega)).1
  · show (totP X' (m'+1)).2+((X' m').2+4)<=((totP X (m+1)).2+((X m).2+4))*T
    have hm:=h.stop.1
    have hs:=h'.stop.1
    rw[Nat.add_mul,Nat.add_mul]
    rcases Nat.lt_or_ge m m' with hl|hl
    · have h1 :=tele hr (m'-m)
      rw[show m+(m'-m)=m' by omega]at h1
      have h2:=(tot_hi hi (m+1)).hi
      have h3:=(hi m).hi
      have hK:m'-m<=2*T-2∨m'-m=1:=by
        rcases Nat.lt_or_ge (m'-m) 2 with e|e
        · right;omega
        left
        have hb:∀i,i+1<=m'-m->i+3<=(X' (m'-1-i)).2:=by
          intro i
          induction i with
          | zero=>
            intro _
            have g:=h'.go (m'-1) (by omega)
            have r:=hr (m'-2) (by omega)
            rw[show m'-2+1=m'-1 by omega]at r
            rcases g with g|g
            · omega
            · rw[show m'-1-1=m'-2 by omega]at g
              show 0+3<=(X' (m'-1)).2
              omega
          | succ i ih=>
            intro _
            have h5:=ih (by omega)
            have r:=hr (m'-1-(i+1)) (by omega)
            rw[show m'-1-(i+1)+1=m'-1-i by omega]at r
            omega
        have h5:=hb (m'-m-1) (by omega)
        rw[show m'-1-(m'-m-1)=m by omega]at h5
        have h6:=Nat.mul_le_mul_right T hm
        omega
      have h7:=Nat.mul_le_mul_right T hm
      omega
    · have h2:=(tot_hi hi (m'+1)).hi
      have h3:=(tot_mono (X:=X) (show m'+1<=m+1 by omega)).2
      have h4:=Nat.mul_le_mul_right T h3
      omega
theorem upn_mul_le {a b:Nat}(hb:0<b):upn a b*b<=a+b-1:=by
  have h0:=Nat.div_add_mod a b
  have h1:=Nat.mod_lt a hb
  unfold upn
  split
  · rename_i e;rw[Nat.mul_comm];omega
  · rw[Nat.add_mul,Nat.mul_comm];omega
theorem tms_all {nx:Nat->N2->N2}{t0:N2}{P:N2->Prop}(h0:P t0)(hs:∀n t,0<n->P t->P (nx n t)):∀k,P (tmsP nx t0 k)
  |0=>h0
  |k+1=>hs _ _ (by omega) (tms_all h0 hs k)
theorem tms_inc {nx nx':Nat->N2->N2}{t0 t0':N2}{T:Nat}(h0:Inc T t0' t0)(hs:∀n t' t,0<n->Inc T t' t->Inc T (nx' n t') (nx n t)):∀k,Inc T (tmsP nx' t0' k) (tmsP nx t0 k)
  |0=>h0
  |k+1=>hs _ _ _ (by omega) (tms_inc h0 hs k)
theorem tm_zero {S n d:Nat}{t q:N2}(h:t.1=0):(byP (tmP S t q) n d).1=0:=by simp[byP,tmP,h]
theorem tm_lt {S a b:Nat}{t q:N2}(hS:0<S)(ha:0<a)(h:q.2*a<=b*S):(tmP S t q).2*a<=t.2*b+(a-1):=by
  have h1:upn (t.2*q.2) S<=(t.2*b+(a-1))/a:=by
    rw[upn_le_iff hS]
    refine Nat.le_of_mul_le_mul_right ?_ ha
    have h2:=Nat.mul_le_mul_left t.2 h
    have h3:t.2*b<=(t.2*b+(a-1))/a*a:=by
      have:=Nat.div_add_mod (t.2*b+(a-1)) a
      have:=Nat.mod_lt (t.2*b+(a-1)) ha
      rw[Nat.mul_comm _ a]
      omega
    have h4:=Nat.mul_le_mul_right S h3
    have e1:t.2*q.2*a=t.2*(q.2*a):=by ac_rfl
    have e2:t.2*(b*S)=t.2*b*S:=by ac_rfl
    have e3:(t.2*b+(a-1))/a*S*a=(t.2*b+(a-1))/a*a*S:=by ac_rfl
    rw[e1,e3];exact Nat.le_trans h2 (by rw[e2];exact h4)
  have h2:=Nat.mul_le_mul_right a h1
  exact Nat.le_trans h2 (Nat.div_mul_le_self _ _)
theorem r_exp {S n:Nat}{y t:N2}(hS:0<S)(hn:0<n)(hy:y.2*2<=S):(expN S y n t).2*2<=t.2+2:=by
  have h1:=tm_lt (t:=t) (b:=1) hS (show 0<2 by decide) (by omega:y.2*2<=1*S)
  have h2:upn ((tmP S t y).2*1) n<=(tmP S t y).2*1:=upn_le hn
  show upn ((tmP S t y).2*1) n*2<=_
  omega
theorem r_hn {S n:Nat}{q t:N2}(hS:0<S)(hq:q.2*2<=(2*n+1)*S):(hnN S q n t).2*2<=t.2+2:=by
  have h1:=tm_lt (t:=t) hS (show 0<2 by decide) hq
  have h2:=upn_mul_le (a:=(tmP S t q).2*1) (b:=2*n+1) (by omega)
  show upn ((tmP S t q).2*1) (2*n+1)*2<=_
  have h3:upn ((tmP S t q).2*1) (2*n+1)*2*(2*n+1)<(t.2+2)*(2*n+1)+(2*n+1):=by
    have e:upn ((tmP S t q).2*1) (2*n+1)*2*(2*n+1)=upn ((tmP S t q).2*1) (2*n+1)*(2*n+1)*2:=by ac_rfl
    rw[e,Nat.add_mul];omega
  have h4:upn ((tmP S t q).2*1) (2*n+1)*2*(2*n+1)<(t.2+3)*(2*n+1):=by rw[Nat.add_mul]at h3 ⊢;omega
  have:=Nat.lt_of_mul_lt_mul_right h4
  omega
theorem sumF_some {nx:Nat->N2->N2}{t0:N2}:∀(f k l:Nat) {m:Nat},k<=m->m<k+f->0<m->(k=0∨l=(tmsP nx t0 (k-1)).2)->(∀j≤m,bdB (tmsP nx t0 j)=true)->((tmsP nx t0 m).2<=2∧(tmsP nx t0 m).2*2<=(tmsP nx t0 (m-1)).2+2)->
    ∃r,sumF nx f (k+1) (tmsP nx t0 k) (totP (tmsP nx t0) k) l=some r
  |0,k,l,m,h1,h2,_,_,_,_=>by omega
  | f + 1,k,l,m,h1,h2,h0,hl,hb,hs=>by
    unfold sumF
    rw[if_pos (hb k h1)]
    split
    · exact⟨_,rfl⟩
    · rename_i hc
      have hne:k≠m:=by
        rintro rfl
        rcases hl with e|e
        · omega
        · exact hc ⟨by omega,hs.1,by rw[e];exact hs.2⟩
      exact sumF_some f (k+1) _ (m:=m) (by omega) (by omega) h0 (Or.inr rfl) hb hs
theorem sum_tot {nx:Nat->N2->N2}{t0:N2}{n1:Nat}(h1:n1<=600)(hb:∀k,bdB (tmsP nx t0 k)=true)(hr:∀k,n1<=k->(tmsP nx t0 (k+1)).2*2<=(tmsP nx t0 k).2+2):∃r,sumP nx t0=some r:=by
  have h2:∀s,n1<=s->∀j,((tmsP nx t0 (s+j)).2-2)*2^j<=(tmsP nx t0 s).2:=by
    intro s _ j
    induction j with
    |zero=>simp
    | succ j ih=>
      have h3:=hr (s+j) (by omega)
      have h4:((tmsP nx t0 (s+j+1)).2-2)*2<=(tmsP nx t0 (s+j)).2-2:=by omega
      have h5:=Nat.mul_le_mul_right (2^j) h4
      rw[Nat.pow_succ]
      have e:((tmsP nx t0 (s+(j+1))).2-2)*(2^j*2)=((tmsP nx t0 (s+j+1)).2-2)*2*2^j:=by
        rw[show s+(j+1)=s+j+1 from rfl];ac_rfl
      omega
  have h3:=h2 n1 (Nat.le_refl _) 160
  have h4:=(bdB_ok (hb n1)).2
  have h5:(10:Nat)^95<10^47*2^160:=by decide
  have h6:(10:Nat)^47+2<2^160:=by decide
  have h8:(tmsP nx t0 (n1+160)).2-2<10^47:=Nat.lt_of_mul_lt_mul_right (Nat.lt_of_le_of_lt h3 (Nat.lt_trans h4 h5))
  have h9:=h2 (n1+160) (by omega) 160
  have h6:(tmsP nx t0 (n1+320)).2<=2:=by
    rw[show n1+320=n1+160+160 by omega]
    rcases Nat.eq_zero_or_pos ((tmsP nx t0 (n1+160+160)).2-2)with e|e
    · omega
    · have:=Nat.mul_le_mul_right (2^160) e
      omega
  have h7:=hr (n1+319) (by omega)
  refine sumF_some 1000 0 0 (m:=n1+320) (by omega) (by omega) (by omega) (Or.inl rfl) (λj _=>hb j) ⟨h6,?_⟩
  exact h7
def hv:Nat->N2->N2
  |0,x=>x
  |j+1,x=>byP (hv j x) 1 2
theorem hv_sh (x:N2):∀j,hv j (byP x 1 2)=hv (j+1) x
  |0=>rfl
  |j+1=>by show byP (hv j (byP x 1 2)) 1 2=_;rw[hv_sh x j];rfl
theorem half_spec {S:Nat}:∀{f h:Nat} {x:N2} {p:N2×Nat},halfF S f x h=some p->∃k,p=(hv k x,h+k)∧(∀j<k,S<(hv j x).2*2)∧¬S<(hv k x).2*2
  |0,_,_,_,hh=>by simp[halfF]at hh
  | f + 1,h,x,p,hh=>by
    by_cases hl:S<x.2*2
    · unfold halfF at hh
      rw[if_pos hl]at hh
      obtain⟨k,e,h1,h2⟩:=half_spec hh
      refine⟨k+1,?_,λj hj=>?_,?_⟩
      · rw[e,hv_sh];congr 1;omega
      · cases j with
        |zero=>exact hl
        |succ j=>rw[<-hv_sh];exact h1 j (by omega)
      · rw[<-hv_sh];exact h2
    · exact⟨0,half_f hh hl,λj hj=>by omega,hl⟩
theorem half_some {S:Nat}:∀{f k:Nat} (h:Nat) {x:N2},k<f->¬S<(hv k x).2*2->∃p,halfF S f x h=some p
  |0,k,_,_,hk,_=>by omega
  | f +1,k,h,x,hk,hs=>by
    unfold halfF
    split
    · rename_i hl
      cases k with
      |zero=>exact absurd hl hs
      |succ k=>exact half_some (h+1) (k:=k) (by omega) (by rw[hv_sh];exact hs)
    · exact⟨_,rfl⟩
theorem hv_inc {T:Nat}{x' x:N2}(h:Inc T x' x):∀j,Inc T (hv j x') (hv j x)
  |0=>h
  |j+1=>(hv_inc h j).by' (by omega)
theorem hv_vd {x:N2}(h:Vd x):∀j,Vd (hv j x)
  |0=>h
  |j+1=>(hv_vd h j).by' (by omega)
def Sm (S:Nat)(x:N2)(S':Nat)(x':N2):Prop:=∀j,S<(hv j x).2*2↔S'<(hv j x').2*2
def Dcs (S:Nat)(x:N2):Prop:=∀j,S<(hv j x).2*2->S<(hv j x).1*2
theorem Dcs.sm {S T:Nat}{x' x:N2}(hT:0<T)(h:Dcs S x)(hi:Inc T x' x)(hv':Vd x'):Sm S x (S*T) x':=by
  intro j
  have h1:=hv_inc hi j
  constructor
  · intro h2
    have h3:=h j h2
    have h4:=hv_vd hv' j
    unfold Vd at h4
    have h5:=Nat.mul_lt_mul_of_pos_right h3 hT
    have h6:=h1.lo
    have e:(hv j x).1*2*T=(hv j x).1*T*2:=by ac_rfl
    omega
  · intro h2
    rcases Nat.lt_or_ge S ((hv j x).2*2)with h3|h3
    · exact h3
    · have h5:=Nat.mul_le_mul_right T h3
      have h6:=h1.hi
      have e:(hv j x).2*2*T=(hv j x).2*T*2:=by ac_rfl
      omega
theorem Sm.symm {S S':Nat}{x x':N2}(h:Sm S x S' x'):Sm S' x' S x:=λj=>(h j).symm
theorem Sm.trans {S S' S2:Nat}{x x' x2:N2}(h:Sm S x S' x')(h':Sm S' x' S2 x2):Sm S x S2 x2:=λj=>(h j).trans (h' j)
theorem Dcs.up {S T:Nat}{x' x:N2}(hT:0<T)(h:Dcs S x)(hi:Inc T x' x)(hv':Vd x'):Dcs (S*T) x':=by
  intro j h2
  have h3:=h j ((h.sm hT hi hv' j).2 h2)
  have h5:=Nat.mul_lt_mul_of_pos_right h3 hT
  have h6:=(hv_inc hi j).lo
  have e:(hv j x).1*2*T=(hv j x).1*T*2:=by ac_rfl
  omega
theorem tot_vd {X:Nat->N2}(h:∀k,Vd (X k)):∀k,Vd (totP X k)
  |0=>Nat.le_refl 0
  |k+1=>(tot_vd h k).pl (h k)
theorem res_vd {X:Nat->N2}(h:∀k,Vd (X k))(m:Nat):Vd (resP X m):=Nat.le_trans (tot_vd h (m+1)) (Nat.le_add_right _ _)
theorem sq_inc {S T:Nat}(hS:0<S)(hT:0<T):∀{h:Nat} {a a' r r':N2},Inc T a' a->Vd a'->sqF S h a=some r->sqF (S*T) h a'=some r'->Inc T r' r∧Vd r'
  | 0,a,a',r,r',hi,hv',h1,h2=>by
    unfold sqF at h1 h2
    split at h1 <;>cases h1
    split at h2 <;>cases h2
    exact⟨hi,hv'⟩
  | k +1,a,a',r,r',hi,hv',h1,h2=>by
    unfold sqF at h1 h2
    split at h1
    · split at h2
      · exact sq_inc hS hT (hi.tm hS hT hi) (hv'.tm (Nat.mul_pos hS hT) hv') h1 h2
      · cases h2
    · cases h1
theorem sq_vd {S:Nat}(hS:0<S):∀{h:Nat} {a r:N2},Vd a->sqF S h a=some r->Vd r
  |0,a,r,hv',h1=>by unfold sqF at h1;split at h1 <;>cases h1;exact hv'
  | k+1,a,r,hv',h1=>by
    unfold sqF at h1
    split at h1
    · exact sq_vd hS (hv'.tm hS hv') h1
    · cases h1
theorem exp_vd {S:Nat}{x r:N2}(hS:0<S)(vx:Vd x)(h:expP S x=some r):Vd r:=by
  obtain⟨_,p,s,hp,hs,hq⟩:=exp_inv h
  obtain⟨k,e,_,_⟩:=half_spec hp
  subst e
  obtain⟨m,_,hr⟩:=sumP_inv hs
  refine sq_vd hS (hr▸res_vd (tms_all (Nat.le_refl _) λn t hn ht=>?_) m) hq
  exact(ht.tm hS (hv_vd vx k)).by' hn
theorem exp_inc {S T:Nat}{x x' r r':N2}(hS:0<S)(hT:3<=T)(vx:Vd x')(hi:Inc T x' x)(hsm:Sm S x (S*T) x')(h:expP S x=some r)(h':expP (S*T) x'=some r'):Inc T r' r∧Vd r':=by
  obtain⟨_,p,s,hp,hs,hq⟩:=exp_inv h
  obtain⟨_,_,s',hp',hs',hq'⟩:=exp_inv h'
  obtain⟨k,e,h1,h2⟩:=half_spec hp
  obtain⟨k',e',h1',h2'⟩:=half_spec hp'
  have hST:0<S*T:=Nat.mul_pos hS (by omega)
  have ek:k'=k:=by
    rcases Nat.lt_trichotomy k' k with g|g|g
    · exact absurd ((hsm k').1 (h1 k' g)) h2'
    · exact g
    · exact absurd ((hsm k).2 (h1' k g)) h2
  subst ek
  subst e e'
  obtain⟨m,hR,hr⟩:=sumP_inv hs
  obtain⟨m',hR',hr'⟩:=sumP_inv hs'
  have hiy:=hv_inc hi k'
  have hvy:=hv_vd vx k'
  have hit:∀j,Inc T (tmsP (expN (S*T) (hv k' x')) (1*(S*T),1*(S*T)) j) (tmsP (expN S (hv k' x)) (1*S,1*S) j):=
    tms_inc Inc.one λn _ t hn ht=>(ht.tm hS (by omega) hiy).by' hn
  have hvt:∀j,Vd (tmsP (expN (S*T) (hv k' x')) (1*(S*T),1*(S*T)) j):=
    tms_all (Nat.le_refl _) λn t hn ht=>(ht.tm hST hvy).by' hn
  have hsum:=sum_inc hT hR hR' hit hvt (λj hj=>tm_zero hj) (λj _=>r_exp hST (by omega) (show(hv k' x').2*2<=S*T by omega))
  rw[hr,hr']at hsum
  have hvs:Vd s':=hr'▸res_vd hvt m'
  exact sq_inc hS (by omega) hsum hvs hq hq'
theorem hv_le {H:Nat}{x:N2}:∀{k:Nat},x.2<=2^k*H->(hv k x).2<=H:=by
  intro k
  induction k generalizing H with
  |zero=>intro h;rw[Nat.pow_zero,Nat.one_mul]at h;exact h
  | succ k ih=>
    intro h
    have h1:(hv k x).2<=2*H:=ih (by rw[Nat.pow_succ]at h;rw[<-Nat.mul_assoc];exact h)
    show upn ((hv k x).2*1) 2<=H
    rw[upn_le_iff (by omega)]
    omega
theorem tm_le {S a b:Nat}{p q:N2}(hS:0<S)(h1:p.2<=a*S)(h2:q.2<=b*S):(tmP S p q).2<=a*b*S:=by
  show upn (p.2*q.2) S<=_
  rw[upn_le_iff hS]
  have:=Nat.mul_le_mul h1 h2
  have e:a*S*(b*S)=a*b*S*S:=by ac_rfl
  omega
theorem sq_some {S:Nat}(hS:0<S):∀{h:Nat} {a:N2} {c:Nat},a.2<=c*S->Vd a->c^(2^h)*S<10^95->0<c->∃r,sqF S h a=some r
  | 0,a,c,h1,hv',hb,h0=>by
    unfold sqF
    have:bdB a=true:=by
      unfold bdB Vd at *
      rw[Nat.pow_zero,Nat.pow_one]at hb
      simp;omega
    rw[if_pos this];exact⟨_,rfl⟩
  | k +1,a,c,h1,hv',hb,h0=>by
    unfold sqF
    have h2:c<=c^(2^(k+1)):=by
      have:=Nat.pow_le_pow_right h0 (Nat.one_le_two_pow (n:=k+1))
      simpa using this
    have h3:=Nat.mul_le_mul_right S h2
    have:bdB a=true:=by
      unfold bdB Vd at *
      simp;omega
    rw[if_pos this]
    refine sq_some hS (c:=c*c) (tm_le hS h1 h1) (hv'.tm hS hv') ?_ (Nat.mul_pos h0 h0)
    have e:(c*c)^2^k=c^2^(k+1):=by
      rw[Nat.pow_succ,Nat.mul_comm (2^k) 2,Nat.pow_mul,show c^2=c*c from Nat.pow_two c]
    rw[e];exact hb
theorem sq_ge {S:Nat}(hS:0<S):∀{h:Nat} {a r:N2},S<=a.1->sqF S h a=some r->S<=r.1
  |0,a,r,h1,h2=>by unfold sqF at h2;split at h2 <;>cases h2;exact h1
  | k +1,a,r,h1,h2=>by
    unfold sqF at h2
    split at h2
    · refine sq_ge hS ?_ h2
      show S<=a.1*a.1/S
      rw[Nat.le_div_iff_mul_le hS]
      exact Nat.mul_le_mul h1 h1
    · cases h2
theorem exp_ge {S:Nat}{x r:N2}(hS:0<S)(h:expP S x=some r):S<=r.1:=by
  obtain⟨_,p,s,_,hs,hq⟩:=exp_inv h
  obtain⟨m,_,hr⟩:=sumP_inv hs
  refine sq_ge hS ?_ hq
  rw[<-hr]
  have:=(tot_mono (X:=tmsP (expN S p.1) (1*S,1*S)) (show 1<=m+1 by omega)).1
  refine Nat.le_trans ?_ this
  simp[totP,plP,tmsP]
theorem exp_tot {S H:Nat}{x:N2}(hH:S=2*H)(hS0:10^5<=S)(hS:S<10^56)(vx:Vd x)(hx:x.2<=2^7*H):∃r,expP S x=some r:=by
  have hpos:0<S:=by omega
  unfold expP
  have hb:bdB x=true:=by
    unfold bdB Vd at *
    simp;omega
  rw[if_pos hb]
  obtain⟨p,hp⟩:=half_some (S:=S) (f:=(200)) (k:=7) 0 (x:=x) (by omega) (by have:=hv_le hx;omega)
  rw[hp,Option.bind_some]
  obtain⟨k,e,h1,_⟩:=half_spec hp
  have hk:k<=7:=by
    rcases Nat.lt_or_ge 7 k with g|g
    · have:=h1 7 g;have:=hv_le hx;omega
    · exact g
  have hvy:=hv_vd vx k
  have hy:(hv k x).2*2<=S:=by omega
  subst e
  simp only
  have hP:∀j,Vd (tmsP (expN S (hv k x)) (1*S,1*S) j)∧(tmsP (expN S (hv k x)) (1*S,1*S) j).2<=S:=by
    refine tms_all (P:=λt=>Vd t∧t.2<=S) ⟨Nat.le_refl _,by simp⟩ λn t hn ht=>⟨(ht.1.tm hpos hvy).by' hn,?_⟩
    have:=r_exp (t:=t) hpos hn hy
    have:=ht.2
    omega
  obtain⟨s,hs⟩:=sum_tot (nx:=expN S (hv k x)) (t0:=(1*S,1*S)) (n1:=0) (by omega) (λj=>by
    have h4:=(hP j).2
    have h3:=(hP j).1
    unfold Vd at h3
    unfold bdB
    rw[Bool.and_eq_true,decide_eq_true_eq,decide_eq_true_eq];omega) (λj _=>r_exp hpos (by omega) hy)
  rw[hs,Option.bind_some]
  obtain⟨m,hR,hr⟩:=sumP_inv hs
  have hvs:Vd s:=hr▸res_vd (λj=>(hP j).1) m
  have h0:(tmsP (expN S (hv k x)) (1*S,1*S) 0).2=S:=by simp[tmsP]
  have ht1:(tmsP (expN S (hv k x)) (1*S,1*S) 1).2*2<=S+1:=by
    have h3:=tm_lt (t:=(1*S,1*S)) (b:=1) hpos (show 0<2 by decide) (by omega:(hv k x).2*2<=1*S)
    have h4:(expN S (hv k x) 1 (1*S,1*S)).2<=(tmP S (1*S,1*S) (hv k x)).2*1:=upn_le (by omega)
    show(expN S (hv k x) 1 (1*S,1*S)).2*2<=_
    simp only at h3
    omega
  have ht2:(tmsP (expN S (hv k x)) (1*S,1*S) 2).2*8<=S+30:=by
    have h3:=tm_lt (t:=tmsP (expN S (hv k x)) (1*S,1*S) 1) (b:=1) hpos (show 0<2 by decide) (by omega:(hv k x).2*2<=1*S)
    have h4:=upn_mul_le (a:=(tmP S (tmsP (expN S (hv k x)) (1*S,1*S) 1) (hv k x)).2*1) (b:=2) (by omega)
    show upn ((tmP S (tmsP (expN S (hv k x)) (1*S,1*S) 1) (hv k x)).2*1) 2*8<=_
    omega
  have hs2:s.2<=2*S:=by
    rw[<-hr]
    show(totP _ (m+1)).2+((tmsP (expN S (hv k x)) (1*S,1*S) m).2+4)<=_
    have hm2:=hR.stop.1
    have hmp:=hR.pos
    have hml:=hR.lt
    have h3:(totP (tmsP (expN S (hv k x)) (1*S,1*S)) (2+1)).2*8<=13*S+40:=by
      show(0+(tmsP (expN S (hv k x)) (1*S,1*S) 0).2+(tmsP (expN S (hv k x)) (1*S,1*S) 1).2+(tmsP (expN S (hv k x)) (1*S,1*S) 2).2)*8<=_
      omega
    rcases Nat.lt_or_ge m 2 with g|g
    · have:=(tot_mono (X:=tmsP (expN S (hv k x)) (1*S,1*S)) (show m+1<=2+1 by omega)).2
      omega
    · have h4:=tele (X:=tmsP (expN S (hv k x)) (1*S,1*S)) (m:=2) (λj _=>r_exp hpos (by omega) hy) (m-2)
      rw[show 2+(m-2)=m by omega]at h4
      omega
  refine sq_some hpos hs2 hvs ?_ (by omega)
  have h5:2^(2^(0+k))<=2^(2^7):=Nat.pow_le_pow_right (by omega) (Nat.pow_le_pow_right (by omega) (by omega))
  have h6:=Nat.mul_le_mul h5 (Nat.le_of_lt hS)
  have h7:2^(2^7)*10^56<10^95:=by decide
  omega
theorem sqrt_ex (n:Nat):∃r,r*r<=n∧n<(r+1)*(r+1):=by
  induction n with
  |zero=>exact⟨0,by omega,by omega⟩
  | succ n ih=>
    obtain⟨r,_,_⟩:=ih
    rcases Nat.lt_or_ge (n+1) ((r+1)*(r+1))with h|h
    · exact⟨r,by omega,h⟩
    · refine⟨r+1,h,?_⟩
      have:(r+1+1)*(r+1+1)=(r+1)*(r+1)+2*r+3:=by
        rw[Nat.add_mul (r+1) 1,Nat.mul_add (r+1) (r+1) 1];omega
      omega
theorem rt_amgm {n r t:Nat}(ht:0<t)(h1:r*r<=n):2*r<=t+n/t:=by
  rcases Nat.lt_or_ge (2*r) t with h|h
  · exact Nat.le_trans (Nat.le_of_lt h) (Nat.le_add_right _ _)
  have h2:(2*r-t)<=n/t:=by
    rw[Nat.le_div_iff_mul_le ht]
    refine Nat.le_trans ?_ h1
    rcases Nat.le_total r t with g|g
    · obtain⟨d,e⟩:=Nat.exists_eq_add_of_le g
      subst e
      obtain⟨k,hk⟩:∃k,r=d+k:=⟨r-d,by omega⟩
      rw[show 2*r-(r+d)=k by omega,hk]
      have e1:k*(d+k+d)=k*d+k*k+k*d:=by rw[Nat.mul_add,Nat.mul_add]
      have e2:(d+k)*(d+k)=d*d+k*d+k*d+k*k:=by rw[Nat.mul_add,Nat.add_mul,Nat.add_mul,Nat.mul_comm d k];omega
      omega
    · obtain⟨d,e⟩:=Nat.exists_eq_add_of_le g
      subst e
      rw[show 2*(t+d)-t=t+2*d by omega]
      have e1:(t+2*d)*t=t*t+2*(d*t):=by rw[Nat.add_mul,Nat.mul_assoc]
      have e2:(t+d)*(t+d)=t*t+2*(d*t)+d*d:=by rw[Nat.mul_add,Nat.add_mul,Nat.add_mul,Nat.mul_comm t d];omega
      omega
  omega
theorem rtF_some {n r:Nat}(h1:r*r<=n)(h2:n<(r+1)*(r+1))(h0:0<r):∀(f t:Nat),r<=t->t-r<2^f->rtF (f+1) n t=some r:=by
  intro f
  induction f with
  | zero=>
    intro t hr ht
    have e:t=r:=by rw[Nat.pow_zero]at ht;omega
    subst e
    unfold rtF
    have h3:=rt_amgm (t:=t) h0 h1
    rw[if_pos (by omega)]
  | succ f ih=>
    intro t hr ht
    unfold rtF
    have ht0:0<t:=by omega
    have h3:=rt_amgm (t:=t) ht0 h1
    rcases Nat.eq_or_lt_of_le hr with e|e
    · subst e
      rw[if_pos (by omega)]
    · have h4:n/t<=r:=by
        have:n/t<r+1:=by
          rw[Nat.div_lt_iff_lt_mul ht0]
          exact Nat.lt_of_lt_of_le h2 (Nat.mul_le_mul_left _ e)
        omega
      rw[if_neg (by omega)]
      refine ih _ (by omega) ?_
      rw[Nat.pow_succ]at ht
      omega
theorem limbs_lt:∀{f n:Nat},n<10000^f->n<10000^limbs f n
  |0,n,h=>h
  | f +1,n,h=>by
    unfold limbs
    split
    · rename_i e;rw[e];decide
    · have h1:n/10000<10000^f:=Nat.div_lt_of_lt_mul (by rw[Nat.pow_succ]at h;rw[Nat.mul_comm];exact h)
      have h2:=limbs_lt h1
      rw[Nat.pow_succ]
      omega
theorem limbs_le:∀{f n:Nat},limbs f n<=f
  |0,_=>Nat.le_refl 0
  |f+1,n=>by unfold limbs;split;omega;have:=limbs_le (f:=f) (n:=n/10000);omega
theorem pow_pow_lt {a b c:Nat}(h:a*b<c):(2^a)^b<2^c:=by rw[<-Nat.pow_mul];exact Nat.pow_lt_pow_right (by omega) h
theorem rt_ok {n:Nat}(h0:0<n)(h:n<10^200):∃r,rtN n=some r∧0<r∧r*r<=n∧n<(r+1)*(r+1):=by
  obtain⟨r,h1,h2⟩:=sqrt_ex n
  have hr:0<r:=by
    rcases Nat.eq_zero_or_pos r with e|e
    · subst e;omega
    · exact e
  refine⟨r,?_,hr,h1,h2⟩
  have h3:n<10000^60:=Nat.lt_trans h (by decide)
  have h4:=limbs_lt h3
  have h5:=limbs_le (f:=(60)) (n:=n)
  have h6:limbs 60 n<=2*((limbs 60 n+1)/2):=by omega
  have h7:n<10000^((limbs 60 n+1)/2)*10000^((limbs 60 n+1)/2):=by
    rw[<-Nat.pow_add]
    exact Nat.lt_of_lt_of_le h4 (Nat.pow_le_pow_right (by omega) (by omega))
  have h8:r<=10000^((limbs 60 n+1)/2):=by
    rcases Nat.lt_or_ge (10000^((limbs 60 n+1)/2)) r with g|g
    · have:=Nat.mul_le_mul (Nat.le_of_lt g) (Nat.le_of_lt g);omega
    · exact g
  have h9:10000^((limbs 60 n+1)/2)<=10000^30:=Nat.pow_le_pow_right (by omega) (by omega)
  have h10:(10000:Nat)^30<=(2^14)^30:=Nat.pow_le_pow_left (by omega) 30
  have h11:∀f,420<f->rtF (f+1) n (10000^((limbs 60 n+1)/2))=some r:=λf _=>
    rtF_some h1 h2 hr f _ h8 (Nat.lt_of_le_of_lt (Nat.sub_le _ _) (Nat.lt_of_le_of_lt (Nat.le_trans h9 h10) (pow_pow_lt (by omega))))
  exact h11 999 (by decide)
theorem root_some {S:Nat}{a:N2}(hS:0<S)(h1:0<a.1)(hv:Vd a)(h2:a.2*S<10^150)(hb:bdB a=true):∃r,rootP S a=some r∧0<r.1∧Vd r∧r.1*r.1<=a.1*S∧a.1*S<(r.1+1)*(r.1+1)∧(r.2-1)*(r.2-1)<=a.2*S∧a.2*S<r.2*r.2∧0<r.2:=by
  have h3:a.1*S<=a.2*S:=Nat.mul_le_mul_right _ hv
  have p1:0<a.1*S:=Nat.mul_pos h1 hS
  have p2:0<a.2*S:=Nat.lt_of_lt_of_le p1 h3
  have h4:(10:Nat)^150<10^200:=by decide
  obtain⟨x,hx,x0,x1,x2⟩:=rt_ok p1 (by omega)
  obtain⟨y,hy,_,y1,y2⟩:=rt_ok p2 (by omega)
  have hxy:x<=y:=by
    rcases Nat.lt_or_ge y x with g|g
    · have:(y+1)*(y+1)<=x*x:=Nat.mul_le_mul g g
      omega
    · exact g
  have hy95:y<10^95:=by
    rcases Nat.lt_or_ge y (10^95)with g|g
    · exact g
    · have:=Nat.mul_le_mul g g
      have e:(10:Nat)^150<10^95*10^95:=by decide
      omega
  unfold rootP
  rw[if_pos ⟨hb,p1,p2⟩,hx,Option.bind_some,hy,Option.bind_some]
  have:bdB (x,y)=true:=by unfold bdB;simp;omega
  rw[if_pos this]
  refine⟨_,rfl,x0,?_,x1,x2,?_,y2,?_⟩
  · unfold Vd;simp only;omega
  · simpa using y1
  · simp only;omega
theorem root_sp {S:Nat}{a r:N2}(h:rootP S a=some r):Bk 95 a∧∃x y,0<a.1*S∧0<a.2*S∧r=(x,y+1)∧(a.1*S<10^200->x*x<=a.1*S∧a.1*S<(x+1)*(x+1))∧(a.2*S<10^200->y*y<=a.2*S∧a.2*S<(y+1)*(y+1)):=by
  obtain⟨hb,p1,p2,x,y,hx,hy,_,e⟩:=root_inv h
  refine⟨hb,x,y,p1,p2,e,λhl=>?_,λhl=>?_⟩
  · obtain⟨r,h1,_,h2,h3⟩:=rt_ok p1 hl
    rw[hx]at h1;cases h1;exact⟨h2,h3⟩
  · obtain⟨r,h1,_,h2,h3⟩:=rt_ok p2 hl
    rw[hy]at h1;cases h1;exact⟨h2,h3⟩
theorem root_inc {S T:Nat}{a a' r r':N2}(hST:S*T<10^95)(hT:0<T)(hi:Inc T a' a)(hv:Vd a')(h:rootP S a=some r)(h':rootP (S*T) a'=some r'):Inc T r' r∧Vd r':=by
  obtain⟨hb,x,y,_,_,e,hx,hy⟩:=root_sp h
  obtain⟨hb',x',y',_,_,e',hx',hy'⟩:=root_sp h'
  have big:∀{u v:Nat},u<10^95->v<10^95->u*v<10^200:=λhu hv=>Nat.lt_trans (Nat.mul_lt_mul'' hu hv) (by decide)
  have hSl:S<10^95:=Nat.lt_of_le_of_lt (Nat.le_mul_of_pos_right _ hT) hST
  obtain⟨x1,_⟩:=hx (big hb.1 hSl)
  obtain⟨_,y2⟩:=hy (big hb.2 hSl)
  obtain⟨_,_⟩:=hx' (big hb'.1 hST)
  obtain⟨_,_⟩:=hy' (big hb'.2 hST)
  subst e e'
  refine⟨⟨?_,?_⟩,?_⟩
  · show x*T<=x'
    rcases Nat.lt_or_ge x' (x*T)with g|g
    · exfalso
      have h1:(x'+1)*(x'+1)<=x*T*(x*T):=Nat.mul_le_mul g g
      have h2:=Nat.mul_le_mul_right (T*T) x1
      have h3:=Nat.mul_le_mul_right (S*T) hi.lo
      have e1:x*T*(x*T)=x*x*(T*T):=by ac_rfl
      have e2:a.1*S*(T*T)=a.1*T*(S*T):=by ac_rfl
      omega
    · exact g
  · show y'+1<=(y+1)*T
    rcases Nat.lt_or_ge y' ((y+1)*T)with g|g
    · exact g
    · exfalso
      have h1:(y+1)*T*((y+1)*T)<=y'*y':=Nat.mul_le_mul g g
      have h2:=Nat.mul_lt_mul_of_pos_right y2 (Nat.mul_pos hT hT)
      have h3:=Nat.mul_le_mul_right (S*T) hi.hi
      have e1:(y+1)*T*((y+1)*T)=(y+1)*(y+1)*(T*T):=by ac_rfl
      have e2:a.2*S*(T*T)=a.2*T*(S*T):=by ac_rfl
      omega
  · show x'<=y'+1
    rcases Nat.lt_or_ge (y'+1) x' with g|g
    · exfalso
      have h1:(y'+1)*(y'+1)<=x'*x':=Nat.mul_le_mul (Nat.le_of_lt g) (Nat.le_of_lt g)
      have h3:a'.1*(S*T)<=a'.2*(S*T):=Nat.mul_le_mul_right _ hv
      omega
    · exact g
theorem pi_inc {k j:Nat}(h:k+j<=80):Inc (10^j) (piN (k+j),piN (k+j)+1) (piN k,piN k+1):=by
  have e:10^(80-k)=10^(80-(k+j))*10^j:=by rw[<-Nat.pow_add];congr 1;omega
  have p:0<10^(80-(k+j)):=Nat.pow_pos (by omega)
  have q:0<10^j:=Nat.pow_pos (by omega)
  unfold piN
  rw[e]
  generalize 314159265358979323846264338327950288419716939937510582097494459230781640628620899=D
  generalize 10^(80-(k+j))=a at *
  generalize 10^j=b at *
  rw[<-Nat.div_div_eq_div_mul]
  have h1:=Nat.div_add_mod (D/a) b
  have h2:=Nat.mod_lt (D/a) q
  constructor
  · show D/a/b*b<=D/a
    rw[Nat.mul_comm];omega
  · show D/a+1<=(D/a/b+1)*b
    rw[Nat.add_mul,Nat.mul_comm];omega
theorem bdB_of {p:N2}{c:Nat}(hv:Vd p)(h:p.2<=c)(hc:c<10^95):bdB p=true:=by
  unfold Vd at hv
  unfold bdB;rw[Bool.and_eq_true,decide_eq_true_eq,decide_eq_true_eq];omega
def prD (fr:Nat):Nat->Nat
  |0=>1
  |k+1=>prD fr k*(fr+2*(k+1))
def growL (fr:Nat):Nat->Nat->Bool
  |0,_=>true
  |f+1,m=>decide (2^m*prD fr m<=256*(fr+2*m+2)^m)&&growL fr f (m+1)
theorem growL_ok {fr:Nat}:∀{f m j:Nat},growL fr f m=true->m<=j->j<m+f->2^j*prD fr j<=256*(fr+2*j+2)^j
  |0,m,j,_,h1,h2=>by omega
  | f+1,m,j,h,h1,h2=>by
    unfold growL at h
    rw[Bool.and_eq_true,decide_eq_true_eq]at h
    rcases Nat.eq_or_lt_of_le h1 with e|e
    · subst e;exact h.1
    · exact growL_ok h.2 e (by omega)
def growA:Nat->Bool
  |0=>true
  |fr+1=>growL (fr+1) 110 0&&growA fr
theorem growA_ok:∀{f fr:Nat},growA f=true->0<fr->fr<=f->growL fr 110 0=true
  |0,fr,_,_,_=>by omega
  | f+1,fr,h,h1,h2=>by
    unfold growA at h
    rw[Bool.and_eq_true]at h
    rcases Nat.eq_or_lt_of_le h2 with e|e
    · subst e;exact h.1
    · exact growA_ok h.2 h1 (by omega)
theorem grow_dec:growA 21=true:=by decide +kernel
theorem grow_ok {fr m:Nat}(h1:0<fr)(h2:fr<=21)(h3:m<110):2^m*prD fr m<=256*(fr+2*m+2)^m:=growL_ok (growA_ok grow_dec h1 h2) (by omega) (by omega)
theorem grow_mul {X:Nat->Nat}{A B fr:Nat}(h:∀k,X k*A<=X (k+1)*(B*(fr+2*(k+1)))):∀m,X 0*A^m<=X m*(B^m*prD fr m)
  |0=>by simp[prD]
  | m+1=>by
    have h1:=Nat.mul_le_mul_right A (grow_mul h m)
    have h2:=Nat.mul_le_mul_right (B^m*prD fr m) (h m)
    have e1:X 0*A^(m+1)=X 0*A^m*A:=by rw[Nat.pow_succ];ac_rfl
    have e2:X (m+1)*(B^(m+1)*prD fr (m+1))=X (m+1)*(B*(fr+2*(m+1)))*(B^m*prD fr m):=by rw[Nat.pow_succ,prD];ac_rfl
    have e3:X m*(B^m*prD fr m)*A=X m*A*(B^m*prD fr m):=by ac_rfl
    rw[e1,e2]
    exact Nat.le_trans h1 (by rw[e3];exact h2)
theorem grow_big {X:Nat->Nat}{A B fr m:Nat}(hB:0<B)(h:∀k,X k*A<=X (k+1)*(B*(fr+2*(k+1))))(h1:0<fr)(h2:fr<=21)(h3:m<110)(hc:(fr+2*m+2)*B<=2*A):X 0<=X m*256:=by
  have g:=grow_mul h m
  have k1:=Nat.pow_le_pow_left hc m
  rw[Nat.mul_pow,Nat.mul_pow]at k1
  have k2:=Nat.mul_le_mul_left (X 0) k1
  have k3:=Nat.mul_le_mul_left (2^m) g
  have k4:=grow_ok h1 h2 h3
  have k5:=Nat.mul_le_mul_left (X m*B^m) k4
  have p:0<(fr+2*m+2)^m*B^m:=Nat.mul_pos (Nat.pow_pos (by omega)) (Nat.pow_pos hB)
  refine Nat.le_of_mul_le_mul_right ?_ p
  have e1:X 0*(2^m*A^m)=2^m*(X 0*A^m):=by ac_rfl
  have e2:2^m*(X m*(B^m*prD fr m))=X m*B^m*(2^m*prD fr m):=by ac_rfl
  have e3:X m*B^m*(256*(fr+2*m+2)^m)=X m*256*((fr+2*m+2)^m*B^m):=by ac_rfl
  rw[e1]at k2
  rw[e2]at k3
  rw[e3]at k5
  exact Nat.le_trans k2 (Nat.le_trans k3 k5)
theorem by_tm_ge {S n d:Nat}{t q:N2}(hS:0<S)(hd:0<d):t.2*(q.2*n)<=(byP (tmP S t q) n d).2*(S*d):=by
  have h1:=le_upn (a:=t.2*q.2) hS
  have h2:=le_upn (a:=upn (t.2*q.2) S*n) hd
  have h3:=Nat.mul_le_mul_right n h1
  have h4:=Nat.mul_le_mul_right S h2
  have e1:t.2*(q.2*n)=t.2*q.2*n:=by ac_rfl
  have e2:upn (upn (t.2*q.2) S*n) d*(S*d)=upn (upn (t.2*q.2) S*n) d*d*S:=by ac_rfl
  have e3:upn (t.2*q.2) S*S*n=upn (t.2*q.2) S*n*S:=by ac_rfl
  show _<=upn (upn (t.2*q.2) S*n) d*(S*d)
  rw[e1,e2]
  exact Nat.le_trans h3 (by rw[e3];exact h4)
def gU:Nat->Nat
  |0=>9
  |k+1=>gU k*101/(2*k+3)+2
def gUB:Nat->Nat->Nat->Bool
  |0,_,_=>true
  |f+1,k,u=>decide (u<=10^21)&&gUB f (k+1) (u*101/(2*k+3)+2)
theorem gUB_ok:∀{f k j:Nat},gUB f k (gU k)=true->k<=j->j<k+f->gU j<=10^21
  |0,k,j,_,h1,h2=>by omega
  | f+1,k,j,h,h1,h2=>by
    unfold gUB at h
    rw[Bool.and_eq_true,decide_eq_true_eq]at h
    rcases Nat.eq_or_lt_of_le h1 with e|e
    · subst e;exact h.1
    · exact gUB_ok (k:=k+1) h.2 e (by omega)
theorem gU_dec:gUB 101 0 9=true:=by decide +kernel
theorem gU_le {k:Nat}(h:k<=100):gU k<=10^21:=gUB_ok (f:=(101)) (k:=0) gU_dec (by omega) (by omega)
theorem grow_bd {X:Nat->Nat}{S:Nat}(hS:2<=S)(h0:X 0<=9*S)(h:∀k,X (k+1)<=X k*101/(2*k+3)+2)(hr:∀k,100<=k->X (k+1)*2<=X k+2):∀k,X k<=S*10^21:=by
  have h1 :∀k,k<=100->X k<=S*gU k:=by
    intro k
    induction k with
    |zero=>intro _;rw[Nat.mul_comm];exact h0
    | succ k ih=>
      intro _
      have h2:=ih (by omega)
      have h3:=h k
      have h4:X k*101/(2*k+3)<=S*gU k*101/(2*k+3):=Nat.div_le_div_right (Nat.mul_le_mul_right _ h2)
      have h5:S*gU k*101/(2*k+3)<=S*(gU k*101/(2*k+3))+S:=by
        refine Nat.div_le_of_le_mul ?_
        have e1:=Nat.div_add_mod (gU k*101) (2*k+3)
        have e2:=Nat.mod_lt (gU k*101) (show 2*k+3>0 by omega)
        have e3:S*gU k*101=S*(gU k*101):=by ac_rfl
        have e4:S*(gU k*101)<=S*((2*k+3)*(gU k*101/(2*k+3))+(2*k+3)):=Nat.mul_le_mul_left _ (by omega)
        have e5:S*((2*k+3)*(gU k*101/(2*k+3))+(2*k+3))=(2*k+3)*(S*(gU k*101/(2*k+3))+S):=by
          generalize gU k*101/(2*k+3)=z
          generalize 2*k+3=D
          rw[Nat.mul_add,Nat.mul_add];congr 1 <;>ac_rfl
        omega
      show X (k+1)<=S*(gU k*101/(2*k+3)+2)
      rw[Nat.mul_add]
      omega
  intro k
  rcases Nat.lt_or_ge k 101 with g|g
  · exact Nat.le_trans (h1 k (by omega)) (Nat.mul_le_mul_left _ (gU_le (by omega)))
  · have h2:X 100<=S*10^21:=Nat.le_trans (h1 100 (by omega)) (Nat.mul_le_mul_left _ (gU_le (by omega)))
    have h3:∀j,X (100+j)<=S*10^21:=by
      intro j
      induction j with
      |zero=>exact h2
      |succ j ih=>have:=hr (100+j) (by omega);rw[show 100+(j+1)=100+j+1 from rfl];omega
    have:=h3 (k-100)
    rwa [show 100+(k-100)=k by omega]at this
theorem tot_le {X:Nat->N2}{B:Nat}(h:∀k,(X k).2<=B):∀k,(totP X k).2<=k*B
  |0=>by simp[totP]
  | k+1=>by
    have:=tot_le h k
    have:=h k
    show(totP X k).2+(X k).2<=_
    rw[Nat.add_mul];omega
theorem sum_bd {X:Nat->N2}{m B:Nat}(hR:SumR X m)(h:∀k,(X k).2<=B):(resP X m).2<=1001*B+6:=by
  have h1:=tot_le h (m+1)
  have h2:=hR.stop.1
  have h3:=hR.lt
  have h4:(m+1)*B<=1001*B:=Nat.mul_le_mul_right _ (by omega)
  show(totP X (m+1)).2+((X m).2+4)<=_
  omega
theorem hn_sq {S n d:Nat}(hS:10^5<=S)(hd:0<d)(h:n<=8*d):(ofP S n d).2<=8*S∧(tmP S (ofP S n d) (ofP S n d)).2<=64*S:=by
  have h1:(ofP S n d).2<=8*S:=by
    show upn (n*S) d<=_
    rw[upn_le_iff hd]
    have:=Nat.mul_le_mul_right S h
    have e:8*d*S=8*S*d:=by ac_rfl
    omega
  exact⟨h1,tm_le (by omega) h1 h1⟩
theorem hn_ratio {S T n d m:Nat}{q':N2}(hS:10^7<=S)(hT:0<T)(hd:0<d)(h:n<=8*d)(hq:q'.2<=(tmP S (ofP S n d) (ofP S n d)).2*T)(hs:(tmsP (hnN S (tmP S (ofP S n d) (ofP S n d))) (ofP S n d) m).2<=2):q'.2*2<=(2*(m+1)+1)*(S*T):=by
  rcases Nat.lt_or_ge ((2*(m+1)+1)*(S*T)) (q'.2*2)with g|g
  · exfalso
    obtain⟨_,_⟩:=hn_sq (S:=S) (by omega) hd h
    have g1:(2*(m+1)+1)*S*T<(tmP S (ofP S n d) (ofP S n d)).2*2*T:=by
      have e1:(2*(m+1)+1)*(S*T)=(2*(m+1)+1)*S*T:=by ac_rfl
      have e2:(tmP S (ofP S n d) (ofP S n d)).2*2*T=(tmP S (ofP S n d) (ofP S n d)).2*T*2:=by ac_rfl
      omega
    have g2:=Nat.lt_of_mul_lt_mul_right g1
    have hm:m<110:=by
      rcases Nat.lt_or_ge m 110 with g3|g3
      · exact g3
      · have:(2*(110+1)+1)*S<=(2*(m+1)+1)*S:=Nat.mul_le_mul_right _ (by omega)
        omega
    have g3:=grow_big (X:=λk=>(tmsP (hnN S (tmP S (ofP S n d) (ofP S n d))) (ofP S n d) k).2) (A:=(tmP S (ofP S n d) (ofP S n d)).2) (B:=S) (fr:=1) (m:=m) (by omega) (λk=>by
      have:=by_tm_ge (S:=S) (n:=1) (d:=2*(k+1)+1) (t:=tmsP (hnN S (tmP S (ofP S n d) (ofP S n d))) (ofP S n d) k) (q:=tmP S (ofP S n d) (ofP S n d)) (by omega) (by omega)
      rw[Nat.mul_one]at this
      rw[show 1+2*(k+1)=2*(k+1)+1 by omega]
      exact this) (by omega) (by omega) hm (by rw[show 1+2*m+2=2*(m+1)+1 by omega];omega)
    have g4:(ofP S n d).2<=2*256:=Nat.le_trans g3 (Nat.mul_le_mul_right _ hs)
    have g5:(tmP S (ofP S n d) (ofP S n d)).2<=1:=by
      show upn ((ofP S n d).2*(ofP S n d).2) S<=1
      rw[upn_le_iff (by omega)]
      have:=Nat.mul_le_mul g4 g4
      omega
    have g6:3*S<=(2*(m+1)+1)*S:=Nat.mul_le_mul_right _ (by omega)
    omega
  · exact g
theorem hn_inc {k j n d:Nat}{r r':N2}(hk:10<=k)(hj:0<j)(hkj:k+j<=80)(h8:n<=8*d)(hsm:Sm (10^k) (byP (tmP (10^k) (ofP (10^k) n d) (ofP (10^k) n d)) 1 2) (10^(k+j)) (byP (tmP (10^(k+j)) (ofP (10^(k+j)) n d) (ofP (10^(k+j)) n d)) 1 2))(h:hnP (10^k) k n d=some r)(h':hnP (10^(k+j)) (k+j) n d=some r'):Inc (10^j) r' r∧Vd r':=by
  have hT:3<=10^j:=Nat.le_trans (by decide:3<=10^1) (Nat.pow_le_pow_right (by omega) hj)
  have hS:10^10<=10^k:=Nat.pow_le_pow_right (by omega) hk
  have eST:10^(k+j)=10^k*10^j:=Nat.pow_add ..
  have hST95:10^k*10^j<10^95:=by rw[<-eST];exact Nat.pow_lt_pow_right (by omega) (by omega)
  obtain⟨_,hd,_,_,s,e,c,hs,he,hc,_,_,hp1,_,rfl⟩:=hn_inv h
  obtain⟨_,_,_,_,s',_,_,hs',he',hc',_,_,hp1',hp2',rfl⟩:=hn_inv h'
  have ipi:=pi_inc (k:=k) (j:=j) hkj
  rw[eST]at hsm hs' he' hc' hp1' hp2' ⊢
  generalize hSe:10^k=S at *
  generalize hTe:10^j=T at *
  have hS0:0<S:=by omega
  have hT0:0<T:=by omega
  have hST:0<S*T:=Nat.mul_pos hS0 hT0
  have iv:Inc T (ofP (S*T) n d) (ofP S n d):=Inc.of hd
  have vv:Vd (ofP (S*T) n d):=Vd.of hd
  have iq:=iv.tm hS0 hT0 iv
  have vq:=vv.tm hST vv
  obtain⟨m,hR,hr⟩:=sumP_inv hs
  obtain⟨m',hR',hr'⟩:=sumP_inv hs'
  have hvt:=tms_all (nx:=hnN (S*T) (tmP (S*T) (ofP (S*T) n d) (ofP (S*T) n d))) (P:=Vd) vv λn t hn ht=>(ht.tm hST vq).by' (by omega)
  have hrat:=hn_ratio (T:=T) (m:=m) (by omega) hT0 hd h8 iq.hi hR.stop.1
  have isum:=sum_inc hT hR hR' (tms_inc iv λn _ t hn ht=>(ht.tm hS0 hT0 iq).by' (by omega)) hvt (λj hj=>tm_zero hj)
    (λi hi=>r_hn hST (Nat.le_trans hrat (Nat.mul_le_mul_right _ (by omega))))
  rw[hr,hr']at isum
  have vs:Vd s':=hr'▸res_vd hvt m'
  obtain⟨ie,ve⟩:=exp_inc hS0 hT (vq.by' (by omega)) (iq.by' (by omega)) hsm he he'
  obtain⟨ic,vc⟩:=root_inc hST95 hT0 (ipi.by' (n:=2) (d:=1) (by omega)) (Vd.by' (by omega) (show Vd (piN (k+j),piN (k+j)+1)from Nat.le_succ _)) hc hc'
  exact⟨isum.ov hT0 hp1 hp2' (ie.tm hS0 hT0 ic),vs.ov hp1' (ve.tm hST vc)⟩
theorem hn_tot {S H pl n d:Nat}(hH:S=2*H)(hS:10^7<=S)(hb:S<10^55)(hpl:pl<=80)(hn:n<10^90)(hd:d<10^90)(d0:0<d)(h8:n<=8*d):∃r,hnP S pl n d=some r:=by
  have hS0:0<S:=by omega
  obtain⟨b1,b2⟩:=hn_sq (S:=S) (by omega) d0 h8
  have vv:Vd (ofP S n d):=Vd.of d0
  have vq:=vv.tm hS0 vv
  unfold hnP
  have c1:bdB (n,d)=true:=by unfold bdB;simp;omega
  rw[if_pos ⟨c1,d0,bdB_of vv b1 (by omega),bdB_of vq b2 (by omega)⟩]
  have hP:∀j,Vd (tmsP (hnN S (tmP S (ofP S n d) (ofP S n d))) (ofP S n d) j):=tms_all vv λn t hn ht=>(ht.tm hS0 vq).by' (by omega)
  have hr:∀k,100<=k->(tmsP (hnN S (tmP S (ofP S n d) (ofP S n d))) (ofP S n d) (k+1)).2*2<=(tmsP (hnN S (tmP S (ofP S n d) (ofP S n d))) (ofP S n d) k).2+2:=λk _=>r_hn hS0 (by
    have:203*S<=(2*(k+1)+1)*S:=Nat.mul_le_mul_right _ (by omega)
    omega)
  have hB:=grow_bd (X:=λk=>(tmsP (hnN S (tmP S (ofP S n d) (ofP S n d))) (ofP S n d) k).2) (S:=S) (by omega) (by show(ofP S n d).2<=_;omega) (λk=>by
    have h1:=tm_lt (t:=tmsP (hnN S (tmP S (ofP S n d) (ofP S n d))) (ofP S n d) k) (q:=tmP S (ofP S n d) (ofP S n d)) (a:=1) (b:=101) hS0 (by omega) (by omega)
    show upn ((tmP S (tmsP (hnN S (tmP S (ofP S n d) (ofP S n d))) (ofP S n d) k) (tmP S (ofP S n d) (ofP S n d))).2*1) (2*(k+1)+1)<=_
    rw[upn_le_iff (by omega)]
    have h2:=Nat.div_add_mod ((tmsP (hnN S (tmP S (ofP S n d) (ofP S n d))) (ofP S n d) k).2*101) (2*k+3)
    have h3:=Nat.mod_lt ((tmsP (hnN S (tmP S (ofP S n d) (ofP S n d))) (ofP S n d) k).2*101) (show 2*k+3>0 by omega)
    rw[show 2*(k+1)+1=2*k+3 by omega,Nat.add_mul,Nat.mul_comm _ (2*k+3)]
    omega) hr
  obtain⟨s,hs⟩:=sum_tot (nx:=hnN S (tmP S (ofP S n d) (ofP S n d))) (t0:=ofP S n d) (n1:=100) (by omega) (λj=>bdB_of (hP j) (hB j) (by omega)) hr
  obtain⟨m,hR,hrs⟩:=sumP_inv hs
  have vs:Vd s:=hrs▸res_vd hP m
  have hsb:s.2<=1001*(S*10^21)+6:=hrs▸sum_bd hR hB
  obtain⟨e,he⟩:=exp_tot hH (by omega) (by omega) (vq.by' (n:=1) (d:=2) (by omega)) (by
    show upn ((tmP S (ofP S n d) (ofP S n d)).2*1) 2<=_
    rw[upn_le_iff (by omega)];omega)
  have pb:piN pl<10^81:=pi_bd
  have pp:0<piN pl:=by
    unfold piN
    refine Nat.div_pos (Nat.le_trans (Nat.pow_le_pow_right (by omega) (show 80-pl<=80 by omega)) (by decide)) (Nat.pow_pos (by omega))
  have vp:Vd (byP (piN pl,piN pl+1) 2 1):=Vd.by' (by omega) (Nat.le_succ _)
  have ep:(byP (piN pl,piN pl+1) 2 1).2<=(piN pl+1)*2:=by
    show upn ((piN pl+1)*2) 1<=_
    rw[upn_le_iff (by omega)];omega
  obtain⟨c,hc,c0,vc,_,_,c3,c4,c5⟩:=root_some (S:=S) (a:=byP (piN pl,piN pl+1) 2 1) hS0 (by show 0<piN pl*2/1;omega) vp (by
    have:(byP (piN pl,piN pl+1) 2 1).2*S<=(10^82)*10^55:=Nat.mul_le_mul (by omega) (by omega)
    have e:(10:Nat)^82*10^55<10^150:=by decide
    omega) (bdB_of vp ep (by omega))
  have hc95:c.2<10^95:=by
    obtain⟨_,_,_,x,y,_,_,_,_⟩:=root_inv hc
    rcases Nat.lt_or_ge c.2 (10^95)with g|g
    · exact g
    · exfalso
      have h1:10^94<=c.2-1:=by omega
      have h2:=Nat.mul_le_mul h1 h1
      have h3:(byP (piN pl,piN pl+1) 2 1).2*S<=(10^82)*10^55:=Nat.mul_le_mul (by omega) (by omega)
      have e:(10:Nat)^82*10^55<10^94*10^94:=by decide
      omega
  rw[hs,Option.bind_some,he,Option.bind_some,hc,Option.bind_some]
  have e1:=exp_ge hS0 he
  have hp1:0<(tmP S e c).1:=by
    show 0<e.1*c.1/S
    refine Nat.div_pos ?_ hS0
    exact Nat.le_trans e1 (Nat.le_mul_of_pos_right _ c0)
  have hp2:0<(tmP S e c).2:=by
    have ve:=exp_vd hS0 (vq.by' (n:=1) (d:=2) (by omega)) he
    have:Vd (tmP S e c):=Vd.tm hS0 ve vc
    exact Nat.lt_of_lt_of_le hp1 this
  rw[if_pos ⟨bdB_of vs hsb (by omega),bdB_of vc (Nat.le_refl _) hc95,hp1,hp2⟩]
  exact⟨_,rfl⟩
structure IncZ (T:Nat)(p q:Int×Int):Prop where
  lo:q.1*T<=p.1
  hi:p.2<=q.2*T
theorem Inc.z {T:Nat}{p q:N2}(h:Inc T p q):IncZ T (zP p) (zP q):=⟨by have:=h.lo;show(q.1:Int)*T<=p.1;exact_mod_cast this,by have:=h.hi;show(p.2:Int)<=q.2*T;exact_mod_cast this⟩
theorem Inc.mi {T:Nat}{a a' b b':N2}(ha:Inc T a' a)(hb:Inc T b' b):IncZ T (miP a' b') (miP a b):=by
  have h1:(a.1:Int)*T<=a'.1:=by exact_mod_cast ha.lo
  have h2:(a'.2:Int)<=a.2*T:=by exact_mod_cast ha.hi
  have h3:(b.1:Int)*T<=b'.1:=by exact_mod_cast hb.lo
  have h4:(b'.2:Int)<=b.2*T:=by exact_mod_cast hb.hi
  constructor
  · show((a.1:Int)-b.2)*T<=(a'.1:Int)-b'.2
    rw[Int.sub_mul];omega
  · show(a'.2:Int)-b'.1<=((a.2:Int)-b.1)*T
    rw[Int.sub_mul];omega
theorem mi_vd {a b:N2}(ha:Vd a)(hb:Vd b):(miP a b).1<=(miP a b).2:=by
  unfold Vd at *
  show(a.1:Int)-b.2<=(a.2:Int)-b.1
  omega
theorem pi_ge {k:Nat}(h:k<=80):10^k<=piN k∧piN k+1<=4*10^k:=by
  have e:(10:Nat)^80=10^k*10^(80-k):=by rw[<-Nat.pow_add];congr 1;omega
  have p:0<10^(80-k):=Nat.pow_pos (by omega)
  unfold piN
  constructor
  · rw[Nat.le_div_iff_mul_le p,<-e];decide
  · have:314159265358979323846264338327950288419716939937510582097494459230781640628620899/10^(80-k)<4*10^k:=by
      rw[Nat.div_lt_iff_lt_mul p,Nat.mul_assoc,<-e];decide
    exact this
theorem sq_lt {a b:Nat}(h:a*a<=b*b):a<=b:=by
  rcases Nat.lt_or_ge b a with g|g
  · have:=Nat.mul_lt_mul'' g g;omega
  · exact g
theorem upn_upn {a b c:Nat}(hb:0<b)(hc:0<c):upn (upn a b) c=upn a (b*c):=by
  refine Nat.le_antisymm ?_ ?_
  · rw[upn_le_iff hc,upn_le_iff hb,Nat.mul_assoc,Nat.mul_comm c b]
    exact le_upn (Nat.mul_pos hb hc)
  · rw[upn_le_iff (Nat.mul_pos hb hc)]
    have h1:=le_upn (a:=a) hb
    have h2:=Nat.mul_le_mul_right b (le_upn (a:=upn a b) hc)
    have e:upn (upn a b) c*(b*c)=upn (upn a b) c*c*b:=by ac_rfl
    rw[e];exact Nat.le_trans h1 h2
theorem hv_val {x:N2}:∀j,hv j x=(x.1/2^j,upn x.2 (2^j))
  |0=>by simp[hv,upn,Nat.mod_one]
  | j+1=>by
    show byP (hv j x) 1 2=_
    rw[hv_val j]
    show(x.1/2^j*1/2,upn (upn x.2 (2^j)*1) 2)=_
    rw[Nat.mul_one,Nat.mul_one,Nat.div_div_eq_div_mul,upn_upn (Nat.pow_pos (by omega)) (by omega),Nat.pow_succ]
theorem lt_upn {a b k:Nat}(hb:0<b):k<upn a b↔k*b<a:=by
  have:=upn_le_iff (a:=a) (k:=k) hb
  omega
theorem dvd_of_sq {n d k:Nat}(h:n*n=2^k*(d*d)):d∣n:=by
  rcases Nat.eq_zero_or_pos d with e|hd
  · subst e
    have:n*n=0:=by rw[h];simp
    have:n=0:=by rcases Nat.mul_eq_zero.1 this with e|e <;>exact e
    subst this;exact Nat.dvd_refl 0
  have hg:0<Nat.gcd n d:=Nat.gcd_pos_of_pos_right _ hd
  obtain⟨a,ha⟩:=Nat.gcd_dvd_left n d
  obtain⟨b,hb⟩:=Nat.gcd_dvd_right n d
  have hc:Nat.Coprime a b:=by
    have:=Nat.coprime_div_gcd_div_gcd hg
    rw[Nat.div_eq_of_eq_mul_right hg ha,Nat.div_eq_of_eq_mul_right hg hb]at this
    exact this
  have h2:a*a=2^k*(b*b):=by
    have e1:n*n=Nat.gcd n d*Nat.gcd n d*(a*a):=by
      conv=>lhs;rw[ha]
      ac_rfl
    have e2:2^k*(d*d)=Nat.gcd n d*Nat.gcd n d*(2^k*(b*b)):=by
      conv=>lhs;rw[hb]
      ac_rfl
    rw[e1,e2]at h
    exact Nat.eq_of_mul_eq_mul_left (Nat.mul_pos hg hg) h
  have h3:b∣a*a:=⟨2^k*b,by rw[h2];ac_rfl⟩
  have h4:b∣a:=(Nat.Coprime.symm hc).dvd_of_dvd_mul_left h3
  have h5:b=1:=by
    have:=Nat.dvd_gcd h4 (Nat.dvd_refl b)
    rw[show Nat.gcd a b=1 from hc]at this
    exact Nat.dvd_one.1 this
  rw[h5,Nat.mul_one]at hb
  exact⟨a,by rw[<-hb]at ha;exact ha⟩
theorem dcs_sq {S H n d:Nat}(hH:S=2*H)(hd:0<d)(hS:2*(n*d)+2*(n*n)+d*d+d<S):Dcs S (byP (tmP S (ofP S n d) (ofP S n d)) 1 2):=by
  intro j hj
  rw[hv_sh]at hj ⊢
  rw[hv_val]at hj ⊢
  have hS0:0<S:=by omega
  have p:0<2^(j+1):=Nat.pow_pos (by omega)
  have h1:H<upn (upn ((ofP S n d).2*(ofP S n d).2) S) (2^(j+1)):=by
    have:S<upn (upn ((ofP S n d).2*(ofP S n d).2) S) (2^(j+1))*2:=hj
    omega
  rw[upn_upn hS0 p,lt_upn (Nat.mul_pos hS0 p)]at h1
  have e1:H*(S*2^(j+1))=2^j*(S*S):=by
    rw[Nat.pow_succ]
    conv=>rhs;rw[hH]
    rw[hH];ac_rfl
  rw[e1]at h1
  have u1:(ofP S n d).2*d<=n*S+d:=by
    have:=upn_mul_le (a:=n*S) (b:=d) hd
    show upn (n*S) d*d<=_
    omega
  have h2:2^j*(d*d)<n*n:=by
    rcases Nat.lt_trichotomy (2^j*(d*d)) (n*n)with g|g|g
    · exact g
    · exfalso
      obtain⟨c,hc⟩:=dvd_of_sq g.symm
      have e2:(ofP S n d).2=c*S:=by
        show upn (n*S) d=c*S
        rw[hc,Nat.mul_assoc]
        unfold upn
        rw[Nat.mul_mod_right,if_pos rfl,Nat.mul_div_cancel_left _ hd]
      have e3:2^j=c*c:=by
        have e4:n*n=c*c*(d*d):=by rw[hc];ac_rfl
        rw[e4]at g
        exact Nat.eq_of_mul_eq_mul_right (Nat.mul_pos hd hd) g
      rw[e2,e3]at h1
      have e5:c*S*(c*S)=c*c*(S*S):=by ac_rfl
      omega
    · exfalso
      have g1:=Nat.mul_le_mul u1 u1
      have g2:=Nat.mul_lt_mul_of_pos_right h1 (Nat.mul_pos hd hd)
      have e2:(ofP S n d).2*d*((ofP S n d).2*d)=(ofP S n d).2*(ofP S n d).2*(d*d):=by ac_rfl
      have e3:(n*S+d)*(n*S+d)=n*n*(S*S)+2*(n*d)*S+d*d:=by
        rw[Nat.mul_add,Nat.add_mul,Nat.add_mul]
        have:n*S*(n*S)=n*n*(S*S):=by ac_rfl
        have:d*(n*S)=n*d*S:=by ac_rfl
        have:n*S*d=n*d*S:=by ac_rfl
        have:2*(n*d)*S=n*d*S+n*d*S:=by rw[Nat.mul_assoc,Nat.two_mul]
        omega
      have e4:2^j*(S*S)*(d*d)=2^j*(d*d)*(S*S):=by ac_rfl
      have g3:(n*n+1)*(S*S)<=2^j*(d*d)*(S*S):=Nat.mul_le_mul_right _ g
      rw[Nat.add_mul]at g3
      have g4:(2*(n*d)+d*d)*S<=S*S:=Nat.mul_le_mul_right _ (by omega)
      rw[Nat.add_mul]at g4
      have g5:d*d<=d*d*S:=Nat.le_mul_of_pos_right _ hS0
      omega
  show S<(ofP S n d).1*(ofP S n d).1/S/2^(j+1)*2
  have h3:H+1<=(ofP S n d).1*(ofP S n d).1/S/2^(j+1):=by
    rw[Nat.div_div_eq_div_mul,Nat.le_div_iff_mul_le (Nat.mul_pos hS0 p),Nat.add_mul,e1,Nat.one_mul]
    refine Nat.le_of_mul_le_mul_right ?_ (Nat.mul_pos hd hd)
    have u2:n*S<=(ofP S n d).1*d+d:=by
      have:=Nat.div_add_mod (n*S) d
      have:=Nat.mod_lt (n*S) hd
      show n*S<=n*S/d*d+d
      rw[Nat.mul_comm (n*S/d)]
      omega
    have hx:0<n:=by
      rcases Nat.eq_zero_or_pos n with e|e
      · subst e;omega
      · exact e
    have u3:n*S-d<=(ofP S n d).1*d:=by omega
    have g1:=Nat.mul_le_mul u3 u3
    have dS:d<=n*S:=Nat.le_trans (by omega:d<=S) (Nat.le_mul_of_pos_left _ hx)
    have e3:(n*S-d)*(n*S-d)+2*(n*d)*S=n*n*(S*S)+d*d:=by
      obtain⟨z,hz⟩:=Nat.exists_eq_add_of_le dS
      rw[show n*S-d=z by omega]
      have e4:2*(n*d)*S=2*(n*S*d):=by ac_rfl
      have e5:n*n*(S*S)=n*S*(n*S):=by ac_rfl
      rw[e4,e5,hz,Nat.mul_add (d+z),Nat.add_mul,Nat.add_mul,Nat.mul_comm d z];omega
    have e6:(ofP S n d).1*d*((ofP S n d).1*d)=(ofP S n d).1*(ofP S n d).1*(d*d):=by ac_rfl
    have g2:(2^j*(d*d)+1)*(S*S)<=n*n*(S*S):=Nat.mul_le_mul_right _ h2
    rw[Nat.add_mul]at g2
    have g3:2^(j+1)*(d*d)<=2*(n*n):=by
      rw[Nat.pow_succ,Nat.mul_comm (2^j) 2,Nat.mul_assoc];omega
    have g4:=Nat.mul_le_mul_right S g3
    have g5:(2*(n*d)+2*(n*n))*S<=S*S:=Nat.mul_le_mul_right _ (by omega)
    rw[Nat.add_mul]at g5
    have e7:(2^j*(S*S)+S*2^(j+1))*(d*d)=2^j*(d*d)*(S*S)+2^(j+1)*(d*d)*S:=by
      rw[Nat.add_mul];congr 1 <;>ac_rfl
    rw[e7]
    omega
  omega
structure Nst (E:Nat->Option (Int×Int)):Prop where
  tot:∀k,15<=k->k<=52->∃r,E k=some r∧r.1<=r.2
  bd:∀k r,15<=k->k<=40->E k=some r->r.1.natAbs<10^84∧r.2.natAbs<10^84
  inc:∀k j r r',15<=k->0<j->k+j<=52->E k=some r->E (k+j)=some r'->IncZ (10^j) r' r
theorem ten_add {a b:Nat}:(tenI (a+b))=tenI a*tenI b:=by unfold tenI;rw[Nat.pow_add];exact Int.natCast_mul _ _
theorem ten_p (a:Nat):0<tenI a:=by unfold tenI;exact_mod_cast Nat.pow_pos (by omega)
theorem fl_ten {a:Int}{k pl:Nat}:flI a (tenI (pl+k)) (tenI pl)=a/tenI k:=by
  unfold flI
  rw[ten_add,Int.mul_comm a,Int.mul_ediv_mul_of_pos _ _ (ten_p pl)]
theorem cl_ten {a:Int}{k pl:Nat}:clI a (tenI (pl+k)) (tenI pl)=if a%tenI k=0 then a/tenI k else a/tenI k+1:=by
  unfold clI
  have h1:a*tenI pl/tenI (pl+k)=a/tenI k:=fl_ten
  have h2:a*tenI pl%tenI (pl+k)=tenI pl*(a%tenI k):=by rw[ten_add,Int.mul_comm a,Int.mul_emod_mul_of_pos _ _ (ten_p pl)]
  rw[h1,h2]
  have h3:(tenI pl*(a%tenI k)=0)↔a%tenI k=0:=by
    rw[Int.mul_eq_zero]
    have:=ten_p pl
    omega
  by_cases h:a%tenI k=0
  · rw[if_pos h,if_pos (h3.2 h)]
  · rw[if_neg h,if_neg (λe=>h (h3.1 e))]
def flT (a:Int)(k:Nat):Int:=a/tenI k
def clT (a:Int)(k:Nat):Int:=if a%tenI k=0 then a/tenI k else a/tenI k+1
theorem flT_le {a:Int}{k:Nat}:flT a k*tenI k<=a∧a<(flT a k+1)*tenI k:=by
  have h1:=Int.mul_ediv_add_emod a (tenI k)
  have h2:=Int.emod_lt_of_pos a (ten_p k)
  have h3:=Int.emod_nonneg a (Int.ne_of_gt (ten_p k))
  unfold flT
  rw[Int.add_mul,Int.mul_comm (a/tenI k)]
  omega
theorem clT_le {a:Int}{k:Nat}:a<=clT a k*tenI k∧(clT a k-1)*tenI k<a:=by
  have h1:=Int.mul_ediv_add_emod a (tenI k)
  have h2:=Int.emod_lt_of_pos a (ten_p k)
  have h3:=Int.emod_nonneg a (Int.ne_of_gt (ten_p k))
  unfold clT
  split
  · rw[Int.sub_mul,Int.mul_comm (a/tenI k)];have:=ten_p k;omega
  · rw[Int.sub_mul,Int.add_mul,Int.mul_comm (a/tenI k)];omega
theorem lt_of_mul_ten {a b:Int}{k:Nat}(h:a*tenI k<b*tenI k):a<b:=Int.lt_of_mul_lt_mul_right h (Int.le_of_lt (ten_p k))
theorem flT_eq {a f:Int}{k:Nat}(h1:f*tenI k<=a)(h2:a<(f+1)*tenI k):flT a k=f:=by
  obtain⟨_,_⟩:=flT_le (a:=a) (k:=k)
  have:=lt_of_mul_ten (k:=k) (a:=flT a k) (b:=f+1) (by omega)
  have:=lt_of_mul_ten (k:=k) (a:=f) (b:=flT a k+1) (by omega)
  omega
theorem clT_eq {a c:Int}{k:Nat}(h1:(c-1)*tenI k<a)(h2:a<=c*tenI k):clT a k=c:=by
  obtain⟨_,_⟩:=clT_le (a:=a) (k:=k)
  have:=lt_of_mul_ten (k:=k) (a:=clT a k-1) (b:=c) (by omega)
  have:=lt_of_mul_ten (k:=k) (a:=c-1) (b:=clT a k) (by omega)
  omega
theorem abs_fl {a:Int}{k:Nat}(hk:15<=k)(h:a.natAbs<10^84):(flT a k).natAbs<10^70∧(clT a k).natAbs<10^70:=by
  obtain⟨_,_⟩:=flT_le (a:=a) (k:=k)
  obtain⟨_,_⟩:=clT_le (a:=a) (k:=k)
  have h5:tenI 15<=tenI k:=by unfold tenI;exact_mod_cast Nat.pow_le_pow_right (by omega) hk
  have h6:tenI 15=10^15:=by decide
  have n1:-(10^70:Int)<flT a k:=by
    refine lt_of_mul_ten (k:=k) ?_
    have:(10:Int)^69*tenI 15<=10^69*tenI k:=Int.mul_le_mul_of_nonneg_left h5 (by decide)
    have e:-(10^70:Int)*tenI k=-(10*(10^69*tenI k)):=by rw[Int.neg_mul,<-Int.mul_assoc];rfl
    rw[e]
    have e2:(flT a k+1)*tenI k=flT a k*tenI k+tenI k:=by rw[Int.add_mul,Int.one_mul]
    have e3:tenI k<=10^69*tenI k:=by have:=ten_p k;omega
    omega
  have n2:flT a k<10^70:=by
    refine lt_of_mul_ten (k:=k) ?_
    have:(10:Int)^69*tenI 15<=10^69*tenI k:=Int.mul_le_mul_of_nonneg_left h5 (by decide)
    have:=ten_p k
    omega
  have n3:clT a k<10^70:=by
    refine lt_of_mul_ten (k:=k) ?_
    have:(10:Int)^69*tenI 15<=10^69*tenI k:=Int.mul_le_mul_of_nonneg_left h5 (by decide)
    have e2:(clT a k-1)*tenI k=clT a k*tenI k-tenI k:=by rw[Int.sub_mul,Int.one_mul]
    have:=ten_p k
    omega
  have n4:-(10^70:Int)<clT a k:=by
    refine lt_of_mul_ten (k:=k) ?_
    have:(10:Int)^69*tenI 15<=10^69*tenI k:=Int.mul_le_mul_of_nonneg_left h5 (by decide)
    have:=ten_p k
    omega
  omega
theorem find_two {E:Nat->Option (Int×Int)}(hN:Nst E){pl:Nat}(hp:pl<=12){f:Int}{r2:Int×Int}(h2:E (pl+40)=some r2)(b1:r2.1.natAbs<10^84)(b2:r2.2.natAbs<10^84)(hl:f*tenI 40<r2.1)(hm:r2.1<(f+1)*tenI 40)(hu:r2.2<=(f+1)*tenI 40):FindR pl (λk=>E (pl+k)) f (f+1):=by
  obtain⟨r1,h1,v1⟩:=hN.tot (pl+15) (by omega) (by omega)
  obtain⟨_,h2',v2⟩:=hN.tot (pl+40) (by omega) (by omega)
  rw[h2]at h2';cases h2'
  obtain⟨a1,a2⟩:=hN.bd (pl+15) r1 (by omega) (by omega) h1
  have i:=hN.inc (pl+15) 25 r1 r2 (by omega) (by omega) (by omega) h1 h2
  have il:r1.1*tenI 25<=r2.1:=i.lo
  have iu:r2.2<=r1.2*tenI 25:=i.hi
  have e40:tenI 40=tenI 15*tenI 25:=ten_add (a:=15) (b:=25)
  obtain⟨g1,_⟩:=flT_le (a:=r1.1) (k:=15)
  obtain⟨g3,_⟩:=clT_le (a:=r1.2) (k:=15)
  have w1:CellW 15 pl r1 (flT r1.1 15) (clT r1.2 15):=by
    refine⟨Nat.lt_trans a1 (by decide),Nat.lt_trans a2 (by decide),v1,fl_ten,cl_ten,(abs_fl (by omega) a1).1,(abs_fl (by omega) a2).2,?_⟩
    have h:=lt_of_mul_ten (k:=15) (a:=flT r1.1 15) (b:=clT r1.2 15+1) (by rw[Int.add_mul,Int.one_mul];have:=ten_p 15;omega)
    omega
  have k1:flT r1.1 15<=f:=by
    have h:flT r1.1 15*tenI 40<(f+1)*tenI 40:=by
      have h3:=Int.mul_le_mul_of_nonneg_right g1 (Int.le_of_lt (ten_p 25))
      rw[Int.mul_assoc,<-e40]at h3
      omega
    have:=lt_of_mul_ten h
    omega
  have k2:f+1<=clT r1.2 15:=by
    have h:f*tenI 40<clT r1.2 15*tenI 40:=by
      have h3:=Int.mul_le_mul_of_nonneg_right g3 (Int.le_of_lt (ten_p 25))
      rw[Int.mul_assoc,<-e40]at h3
      omega
    have:=lt_of_mul_ten h
    omega
  refine⟨Int.le_refl _,?_⟩
  by_cases hc:clT r1.2 15<=flT r1.1 15+1
  · left
    have ef:flT r1.1 15=f:=by omega
    have ec:clT r1.2 15=f+1:=by omega
    rw[ef,ec]at w1
    exact⟨r1,h1,w1⟩
  · right
    refine⟨r1,r2,_,_,h1,w1,by omega,h2,?_⟩
    have ef:flT r2.1 40=f:=flT_eq (by omega) (by omega)
    have ec:clT r2.2 40=f+1:=clT_eq (by rw[Int.add_sub_cancel];omega) (by omega)
    refine⟨Nat.lt_trans b1 (by decide),Nat.lt_trans b2 (by decide),v2,fl_ten.trans ef,cl_ten.trans ec,?_,?_,by omega⟩
    · rw[<-ef];exact(abs_fl (by omega) b1).1
    · rw[<-ec];exact(abs_fl (by omega) b2).2
theorem find_all {E:Nat->Option (Int×Int)}(hN:Nst E){t c:Nat}(ht:15<=t)(ht2:t<=39)(hc:c<=t)(hc2:c<=12){f:Int}{r:Int×Int}(h:E t=some r)(b1:r.1.natAbs<10^46)(b2:r.2.natAbs<10^46)(hl:f*tenI (t-c)<r.1)(hu:r.2<=(f+1)*tenI (t-c)){pl:Nat}(hp:pl<=c)(hm:∀r',E (pl+40)=some r'->r'.1<(f+1)*tenI (t-c)*tenI (pl+40-t)):FindR pl (λk=>E (pl+k)) (f/tenI (c-pl)) (f/tenI (c-pl)+1):=by
  obtain⟨r2,h2,_⟩:=hN.tot (pl+40) (by omega) (by omega)
  have i:=hN.inc t (pl+40-t) r r2 ht (by omega) (by omega) h (by rw[show t+(pl+40-t)=pl+40 by omega];exact h2)
  have il:r.1*tenI (pl+40-t)<=r2.1:=i.lo
  have iu:r2.2<=r.2*tenI (pl+40-t):=i.hi
  have P:=ten_p (pl+40-t)
  have big:tenI (pl+40-t)<=10^37:=by
    have:(10:Nat)^(pl+40-t)<=10^37:=Nat.pow_le_pow_right (by omega) (by omega)
    unfold tenI;exact_mod_cast this
  have e1:tenI (t-c)*tenI (pl+40-t)*tenI (c-pl)=tenI 40:=by
    rw[<-ten_add,<-ten_add];congr 1;omega
  obtain⟨g1,g2⟩:=flT_le (a:=f) (k:=c-pl)
  have s1:f/tenI (c-pl)*tenI 40<=f*(tenI (t-c)*tenI (pl+40-t)):=by
    have h3:=Int.mul_le_mul_of_nonneg_right g1 (Int.le_of_lt (Int.mul_pos (ten_p (t-c)) P))
    have e:f/tenI (c-pl)*tenI 40=flT f (c-pl)*tenI (c-pl)*(tenI (t-c)*tenI (pl+40-t)):=by
      rw[<-e1];unfold flT;ac_rfl
    rw[e];exact h3
  have s2:(f+1)*(tenI (t-c)*tenI (pl+40-t))<=(f/tenI (c-pl)+1)*tenI 40:=by
    have h3:=Int.mul_le_mul_of_nonneg_right (Int.add_one_le_of_lt g2) (Int.le_of_lt (Int.mul_pos (ten_p (t-c)) P))
    have e:(f/tenI (c-pl)+1)*tenI 40=(flT f (c-pl)+1)*tenI (c-pl)*(tenI (t-c)*tenI (pl+40-t)):=by
      rw[<-e1];unfold flT;ac_rfl
    rw[e];exact h3
  have t1:=Int.mul_lt_mul_of_pos_right hl P
  have t2:=Int.mul_le_mul_of_nonneg_right hu (Int.le_of_lt P)
  have t3:=hm r2 h2
  have e2:f*tenI (t-c)*tenI (pl+40-t)=f*(tenI (t-c)*tenI (pl+40-t)):=Int.mul_assoc ..
  have e3:(f+1)*tenI (t-c)*tenI (pl+40-t)=(f+1)*(tenI (t-c)*tenI (pl+40-t)):=Int.mul_assoc ..
  have lo1:-(10^46:Int)<r.1:=by omega
  have hi1:r.2<10^46:=by omega
  have m1:-(10^46*10^37:Int)<=r.1*tenI (pl+40-t):=by
    have h3:=Int.mul_le_mul_of_nonneg_right (Int.le_of_lt lo1) (Int.le_of_lt P)
    rw[Int.neg_mul]at h3
    omega
  have m2:r.2*tenI (pl+40-t)<=10^46*10^37:=by
    have h3:=Int.mul_le_mul_of_nonneg_right (Int.le_of_lt hi1) (Int.le_of_lt P)
    omega
  have e84:(10:Int)^46*10^37=10^83:=by decide
  refine find_two hN (by omega) h2 (by omega) (by omega) (by omega) (by omega) (by omega)
theorem two_half {k:Nat}(h:0<k):10^k=2*(5*10^(k-1)):=by
  rw[<-Nat.mul_assoc,show 2*5=10 from rfl,<-Nat.pow_succ'];congr 1;omega
theorem p15 {k:Nat}(h:15<=k):10^15<=10^k:=Nat.pow_le_pow_right (by omega) h
theorem T3 {j:Nat}(h:0<j):3<=10^j:=Nat.le_trans (by decide:3<=10^1) (Nat.pow_le_pow_right (by omega) h)
theorem zle {p:N2}(hv:Vd p):(zP p).1<=(zP p).2:=by unfold Vd at hv;show(p.1:Int)<=p.2;omega
theorem hn_le {k n d:Nat}{r:N2}(hk:15<=k)(hk2:k<=52)(h8:n<=8*d)(h:hnP (10^k) k n d=some r):r.2<=10^25*10^k∧Vd r:=by
  obtain⟨_,_⟩:=pi_ge (k:=k) (by omega)
  have hS:=p15 hk
  have hb:10^k<=10^52:=Nat.pow_le_pow_right (by omega) hk2
  obtain⟨_,d0,_,_,s,e,c,hs,he,hc,_,_,hp1,_,rfl⟩:=hn_inv h
  generalize 10^k=S at *
  have hS0:0<S:=by omega
  obtain⟨_,_⟩:=hn_sq (S:=S) (by omega) d0 h8
  have vv:Vd (ofP S n d):=Vd.of d0
  have vq:=vv.tm hS0 vv
  have hP:∀j,Vd (tmsP (hnN S (tmP S (ofP S n d) (ofP S n d))) (ofP S n d) j):=tms_all vv λn t _ ht=>(ht.tm hS0 vq).by' (by omega)
  have hr:∀k,100<=k->(tmsP (hnN S (tmP S (ofP S n d) (ofP S n d))) (ofP S n d) (k+1)).2*2<=(tmsP (hnN S (tmP S (ofP S n d) (ofP S n d))) (ofP S n d) k).2+2:=λk hk=>r_hn hS0 (by
    have:203*S<=(2*(k+1)+1)*S:=Nat.mul_le_mul_right _ (by omega)
    omega)
  have hB:=grow_bd (X:=λk=>(tmsP (hnN S (tmP S (ofP S n d) (ofP S n d))) (ofP S n d) k).2) (S:=S) (by omega) (by show(ofP S n d).2<=_;omega) (λk=>by
    have h1:=tm_lt (t:=tmsP (hnN S (tmP S (ofP S n d) (ofP S n d))) (ofP S n d) k) (q:=tmP S (ofP S n d) (ofP S n d)) (a:=1) (b:=101) hS0 (by omega) (by omega)
    show upn ((tmP S (tmsP (hnN S (tmP S (ofP S n d) (ofP S n d))) (ofP S n d) k) (tmP S (ofP S n d) (ofP S n d))).2*1) (2*(k+1)+1)<=_
    rw[upn_le_iff (by omega)]
    have h2:=Nat.div_add_mod ((tmsP (hnN S (tmP S (ofP S n d) (ofP S n d))) (ofP S n d) k).2*101) (2*k+3)
    have h3:=Nat.mod_lt ((tmsP (hnN S (tmP S (ofP S n d) (ofP S n d))) (ofP S n d) k).2*101) (show 2*k+3>0 by omega)
    rw[show 2*(k+1)+1=2*k+3 by omega,Nat.add_mul,Nat.mul_comm _ (2*k+3)]
    omega) hr
  obtain⟨m,hR,hrs⟩:=sumP_inv hs
  have vs:Vd s:=hrs▸res_vd hP m
  have hsb:s.2<=1001*(S*10^21)+6:=hrs▸sum_bd hR hB
  have e1:=exp_ge hS0 he
  have ve:=exp_vd hS0 (vq.by' (n:=1) (d:=2) (by omega)) he
  have vp:Vd (byP (piN k,piN k+1) 2 1):=Vd.by' (by omega) (Nat.le_succ _)
  obtain⟨hb95,x,y,_,_,hxy,hx,hy⟩:=root_sp hc
  have ea:(byP (piN k,piN k+1) 2 1).1=piN k*2:=by show piN k*2/1=_;rw[Nat.div_one]
  have hcS:S<=c.1∧Vd c:=by
    have big:∀{u v:Nat},u<10^95->v<10^95->u*v<10^200:=λhu hv=>Nat.lt_trans (Nat.mul_lt_mul'' hu hv) (by decide)
    obtain⟨_,_⟩:=hx (big hb95.1 (by omega))
    obtain⟨_,_⟩:=hy (big hb95.2 (by omega))
    subst hxy
    constructor
    · show S<=x
      rcases Nat.lt_or_ge x S with g|g
      · exfalso
        have g1:(x+1)*(x+1)<=S*S:=Nat.mul_le_mul g g
        have g2:S*S<=(byP (piN k,piN k+1) 2 1).1*S:=Nat.mul_le_mul_right _ (by rw[ea];omega)
        omega
      · exact g
    · show x<=y+1
      have g1:(byP (piN k,piN k+1) 2 1).1*S<=(byP (piN k,piN k+1) 2 1).2*S:=Nat.mul_le_mul_right _ vp
      have:=sq_lt (a:=x) (b:=y+1) (by omega)
      exact this
  have hX:S<=(tmP S e c).1:=by
    show S<=e.1*c.1/S
    rw[Nat.le_div_iff_mul_le hS0]
    exact Nat.mul_le_mul e1 hcS.1
  refine⟨?_,vs.ov hp1 (ve.tm hS0 hcS.2)⟩
  show upn (s.2*S) (tmP S e c).1<=_
  have h1:upn (s.2*S) (tmP S e c).1<=s.2:=by
    rw[upn_le_iff hp1]
    exact Nat.mul_le_mul_left _ hX
  omega
theorem nr_some {k d:Nat}{N:Int}(hk:15<=k)(hk2:k<=52)(hd:0<d)(hd2:d<10^80)(h:N.natAbs<=8*d):∃r,nrP (10^k) k N d=some r∧r.1<=r.2∧r.1.natAbs<=10^26*10^k∧r.2.natAbs<=10^26*10^k:=by
  have hH:=two_half (k:=k) (by omega)
  have hS:=p15 hk
  have hb:10^k<=10^52:=Nat.pow_le_pow_right (by omega) hk2
  obtain⟨u,hu⟩:=hn_tot (pl:=k) hH (by omega) (by omega) (by omega) (n:=N.natAbs) (d:=d) (by omega) (by omega) hd h
  obtain⟨b,v⟩:=hn_le hk hk2 h hu
  have vo:Vd (ofP (10^k) 1 2):=Vd.of (by omega)
  have bo:(ofP (10^k) 1 2).2<=10^k:=by
    show upn (1*10^k) 2<=_
    rw[upn_le_iff (by omega)];omega
  unfold nrP
  rw[hu]
  unfold Vd at v vo
  generalize 10^k=S at *
  simp only[Option.map_some]
  split
  · refine⟨_,rfl,mi_vd vo v,?_,?_⟩
    · show(((ofP S 1 2).1:Int)-(u.2:Int)).natAbs<=_;omega
    · show(((ofP S 1 2).2:Int)-(u.1:Int)).natAbs<=_;omega
  · refine⟨_,rfl,zle (Vd.pl vo v),?_,?_⟩
    · show((((ofP S 1 2).1+u.1:Nat):Int)).natAbs<=_;omega
    · show((((ofP S 1 2).2+u.2:Nat):Int)).natAbs<=_;omega
theorem nst_nrm {d:Nat}{N:Int}(hd:0<d)(hd2:d<10^80)(h:N.natAbs<=8*d)(hq:2*(N.natAbs*d)+2*(N.natAbs*N.natAbs)+d*d+d<10^15):Nst λk=>nrP (10^k) k N d:=by
  refine⟨λk h1 h2=>?_,λk r h1 h2 hr=>?_,λk j r r' h1 h2 h3 hr hr'=>?_⟩
  · obtain⟨r,e,v,_⟩:=nr_some h1 h2 hd hd2 h
    exact⟨r,e,v⟩
  · obtain⟨u,e,v,b1,b2⟩:=nr_some h1 (by omega) hd hd2 h
    simp only[e]at hr
    cases hr
    have hb:10^k<=10^40:=Nat.pow_le_pow_right (by omega) h2
    have e84:10^26*10^40<10^84:=by decide
    omega
  · have hH:=two_half (k:=k) (by omega)
    have hS:=p15 h1
    have eST:10^(k+j)=10^k*10^j:=Nat.pow_add ..
    have hT:=T3 h2
    simp only[nrP]at hr hr'
    cases e:hnP (10^k) k N.natAbs d with
    |none=>rw[e]at hr;cases hr
    | some u=>
      cases e':hnP (10^(k+j)) (k+j) N.natAbs d with
      |none=>rw[e']at hr';cases hr'
      | some u'=>
        have iv:Inc (10^j) (ofP (10^(k+j)) N.natAbs d) (ofP (10^k) N.natAbs d):=by rw[eST];exact Inc.of hd
        have vv:Vd (ofP (10^(k+j)) N.natAbs d):=Vd.of hd
        have hsm:Sm (10^k) (byP (tmP (10^k) (ofP (10^k) N.natAbs d) (ofP (10^k) N.natAbs d)) 1 2) (10^(k+j)) (byP (tmP (10^(k+j)) (ofP (10^(k+j)) N.natAbs d) (ofP (10^(k+j)) N.natAbs d)) 1 2):=by
          rw[eST]at iv vv ⊢
          have hST:0<10^k*10^j:=Nat.mul_pos (by omega) (by omega)
          exact(dcs_sq hH hd (by omega)).sm (by omega) ((iv.tm (by omega) (by omega) iv).by' (by omega)) ((vv.tm hST vv).by' (by omega))
        obtain⟨i,v⟩:=hn_inc (by omega) h2 (by omega) h hsm e e'
        have io:Inc (10^j) (ofP (10^(k+j)) 1 2) (ofP (10^k) 1 2):=by rw[eST];exact Inc.of (by omega)
        rw[e,Option.map_some]at hr
        rw[e',Option.map_some]at hr'
        split at hr
        · rename_i c
          rw[if_pos c]at hr'
          cases hr;cases hr'
          exact io.mi i
        · rename_i c
          rw[if_neg c]at hr'
          cases hr;cases hr'
          exact(io.pl i).z
end Go.Proofs.YtinldhphnpflaaaGreatDoor
namespace Go.Proofs.YtinldhphnpflaaaGreatDoor
open Go Go.Eng Go.RowKit
def fz (v:Nat)(k:Nat->Bool):Bool:=Nat.rec (motive:=λ_=>Bool) (k 0) (λm _=>k (Nat.succ m)) v
theorem fz_eq (v:Nat)(k:Nat->Bool):fz v k=k v:=by cases v <;>rfl
def bdK (a b:Nat):Bool:=and (Nat.ble a 99999999999999999999999999999999999999999999999999999999999999999999999999999999999999999999999) (Nat.ble b 99999999999999999999999999999999999999999999999999999999999999999999999999999999999999999999999)
theorem bdK_ok {a b:Nat}(h:bdK a b=true):bdB (a,b)=true:=by
  unfold bdK at h
  simp only[Bool.and_eq_true,Nat.ble_eq]at h
  unfold bdB
  simp only[Bool.and_eq_true,decide_eq_true_eq]
  omega
theorem cond_t {c x y:Bool}:cond c x y=true->(c=true∧x=true)∨(c=false∧y=true):=by cases c <;>simp
theorem upn_eq {a b:Nat}(hb:0<b):upn a b=(a+(b-1))/b:=by
  unfold upn
  have h1:=Nat.div_add_mod a b
  have h2:=Nat.mod_lt a hb
  split
  · rename_i h
    rw[h,Nat.add_zero]at h1
    symm
    rw[Nat.div_eq_iff hb]
    rw[Nat.mul_comm]
    omega
  · rename_i h
    symm
    rw[Nat.div_eq_iff hb,Nat.add_mul,Nat.mul_comm (a/b) b]
    omega
def sumK (g h:Nat->Nat->Nat)(K:Nat->Nat->Bool)(f:Nat):Nat->Nat->Nat->Nat->Nat->Nat->Bool:=
  Nat.rec (motive:=λ_=>Nat->Nat->Nat->Nat->Nat->Nat->Bool) (λ_ _ _ _ _ _=>false)
    (λ_ ih n t1 t2 a1 a2 l=>cond (bdK t1 t2) (cond (and (Nat.ble t2 2) (and (Nat.ble 2 n) (Nat.ble (Nat.mul t2 2) (Nat.add l 2))))
      (K (Nat.add a1 t1) (Nat.add (Nat.add a2 t2) (Nat.add t2 4)))
      (fz (g n t1) λu1=>fz (h n t2) λu2=>fz (Nat.add a1 t1) λc1=>fz (Nat.add a2 t2) λc2=>fz (Nat.succ n) λn'=>ih n' u1 u2 c1 c2 t2)) false) f
theorem sumK_ok {nx:Nat->N2->N2}{g h:Nat->Nat->Nat}{K:Nat->Nat->Bool}(hg:∀n t,1<=n->nx n t=(g n t.1,h n t.2)):∀{f F n t1 t2 a1 a2 l:Nat},f<=F->1<=n->sumK g h K f n t1 t2 a1 a2 l=true->∃r,sumF nx F n (t1,t2) (a1,a2) l=some r∧K r.1 r.2=true
  |0,_,_,_,_,_,_,_,_,_,hk=>by cases hk
  | f + 1,F,n,t1,t2,a1,a2,l,hF,hn,hk=>by
    obtain⟨G,rfl⟩:∃G,F=G+1:=⟨F-1,by omega⟩
    change cond _ (cond _ _ _) false=true at hk
    rcases cond_t hk with⟨hb,hk⟩|⟨_,hk⟩
    · unfold sumF
      rw[if_pos (bdK_ok hb)]
      rcases cond_t hk with⟨hs,hk⟩|⟨hs,hk⟩
      · simp only[Bool.and_eq_true,Nat.ble_eq]at hs
        rw[if_pos ⟨hs.2.1,hs.1,hs.2.2⟩]
        exact⟨_,rfl,hk⟩
      · have hs':¬(2<=n∧t2<=2∧t2*2<=l+2):=λhc=>by
          have:and (Nat.ble t2 2) (and (Nat.ble 2 n) (Nat.ble (Nat.mul t2 2) (Nat.add l 2)))=true:=by
            simp only[Bool.and_eq_true,Nat.ble_eq];exact⟨hc.2.1,hc.1,hc.2.2⟩
          rw[this]at hs;cases hs
        rw[if_neg hs',hg n _ hn]
        rw[fz_eq,fz_eq,fz_eq,fz_eq,fz_eq]at hk
        have hk':sumK g h K f (n+1) (g n t1) (h n t2) (a1+t1) (a2+t2) t2=true:=hk
        exact sumK_ok hg om om hk'
    · cases hk
theorem sumK_p {nx:Nat->N2->N2}{g h:Nat->Nat->Nat}{K:Nat->Nat->Bool}{f t1 t2:Nat}(hg:∀n t,1<=n->nx n t=(g n t.1,h n t.2))(hf:f<=1000)(hk:sumK g h K f 1 t1 t2 0 0 0=true):∃r,sumP nx (t1,t2)=some r∧K r.1 r.2=true:=
  sumK_ok hg hf (Nat.le_refl 1) hk
def sqK (S S1:Nat)(K:Nat->Nat->Bool)(h:Nat):Nat->Nat->Bool:=
  Nat.rec (motive:=λ_=>Nat->Nat->Bool) (λa b=>cond (bdK a b) (K a b) false) (λ_ ih a b=>cond (bdK a b) (fz (Nat.div (Nat.mul a a) S) λu=>fz (Nat.div (Nat.add (Nat.mul b b) S1) S) λv=>ih u v) false) h
theorem sqK_ok {S S1:Nat}{K:Nat->Nat->Bool}(hS:0<S)(h1:S1=S-1):∀{h a b:Nat},sqK S S1 K h a b=true->∃r,sqF S h (a,b)=some r∧K r.1 r.2=true
  | 0,a,b,hk=>by
    change cond _ _ _=true at hk
    rcases cond_t hk with⟨hb,hk⟩|⟨_,hk⟩
    · unfold sqF;rw[if_pos (bdK_ok hb)];exact⟨_,rfl,hk⟩
    · cases hk
  | h +1,a,b,hk=>by
    change cond _ _ _=true at hk
    rcases cond_t hk with⟨hb,hk⟩|⟨_,hk⟩
    · unfold sqF;rw[if_pos (bdK_ok hb)]
      rw[fz_eq,fz_eq]at hk
      have hk':sqK S S1 K h (Nat.div (Nat.mul a a) S) (Nat.div (Nat.add (Nat.mul b b) S1) S)=true:=hk
      have h2:=sqK_ok hS h1 hk'
      rw[show tmP S (a,b) (a,b)=(Nat.div (Nat.mul a a) S,Nat.div (Nat.add (Nat.mul b b) S1) S)by unfold tmP;rw[upn_eq hS,h1];rfl]
      exact h2
    · cases hk
def halfK (S:Nat)(K:Nat->Nat->Nat->Bool)(f:Nat):Nat->Nat->Nat->Bool:=
  Nat.rec (motive:=λ_=>Nat->Nat->Nat->Bool) (λ_ _ _=>false) (λ_ ih a b h=>cond (Nat.ble (Nat.mul b 2) S) (K a b h) (fz (Nat.div a 2) λu=>fz (Nat.div (Nat.add b 1) 2) λv=>fz (Nat.succ h) λi=>ih u v i)) f
theorem halfK_ok {S:Nat}{K:Nat->Nat->Nat->Bool}:∀{f F a b h:Nat},f<=F->halfK S K f a b h=true->∃p,halfF S F (a,b) h=some p∧K p.1.1 p.1.2 p.2=true
  |0,_,_,_,_,_,hk=>by cases hk
  | f +1,F,a,b,h,hF,hk=>by
    obtain⟨G,rfl⟩:∃G,F=G+1:=⟨F-1,by omega⟩
    change cond _ _ _=true at hk
    unfold halfF
    rcases cond_t hk with⟨hb,hk⟩|⟨hb,hk⟩
    · have:b*2<=S:=by simpa using hb
      rw[if_neg (by simp only;omega)];exact⟨_,rfl,hk⟩
    · have:¬b*2<=S:=λhc=>by rw[show Nat.ble (Nat.mul b 2) S=true from Nat.ble_eq_true_of_le hc]at hb;cases hb
      rw[if_pos (by simp only;omega)]
      rw[fz_eq,fz_eq,fz_eq]at hk
      have hk':halfK S K f (Nat.div a 2) (Nat.div (Nat.add b 1) 2) (h+1)=true:=hk
      have h2:=halfK_ok (F:=G) om hk'
      rw[show byP (a,b) 1 2=(Nat.div a 2,Nat.div (Nat.add b 1) 2)by unfold byP;rw[upn_eq dc,Nat.mul_one,Nat.mul_one];rfl]
      exact h2
def expK (S S1:Nat)(K:Nat->Nat->Bool)(a b:Nat):Bool:=
  cond (bdK a b) (halfK S (λy1 y2 h=>sumK (λn t=>Nat.div (Nat.div (Nat.mul t y1) S) n) (λn t=>Nat.div (Nat.add (Nat.div (Nat.add (Nat.mul t y2) S1) S) (Nat.pred n)) n) (sqK S S1 K h) 100 1 S S 0 0 0) 60 a b 0) false
theorem expK_ok {S S1 a b:Nat}{K:Nat->Nat->Bool}(hS:0<S)(h1:S1=S-1)(hk:expK S S1 K a b=true):∃r,expP S (a,b)=some r∧K r.1 r.2=true:=by
  unfold expK at hk
  rcases cond_t hk with⟨hb,hk⟩|⟨_,hk⟩
  · obtain⟨p,hp,hk⟩:=halfK_ok (F:=200) dc hk
    obtain⟨s,hs,hk⟩:=sumK_p (nx:=expN S p.1) (λn t _=>by
      unfold expN byP tmP
      simp only[Nat.mul_one]
      rw[upn_eq hS,upn_eq om,h1];rfl) dc hk
    obtain⟨r,hr,hk⟩:=sqK_ok hS h1 hk
    refine⟨r,?_,hk⟩
    unfold expP
    rw[if_pos (bdK_ok hb),hp,Option.bind_some,Nat.one_mul,hs,Option.bind_some]
    exact hr
  · cases hk
theorem fl_n {u pl k:Nat}:flI (u:Int) (tenI (pl+k)) (tenI pl)=((u/10^k:Nat):Int):=by
  unfold flI tenI
  rw[<-Int.natCast_mul,<-Int.natCast_ediv,Nat.pow_add,Nat.mul_comm (10^pl) (10^k),Nat.mul_div_mul_right _ _ (Nat.pow_pos dc)]
theorem cl_n {u pl k:Nat}:clI (u:Int) (tenI (pl+k)) (tenI pl)=((upn u (10^k):Nat):Int):=by
  have h1:=fl_n (u:=u) (pl:=pl) (k:=k)
  unfold flI at h1
  unfold clI upn
  rw[h1]
  have hp:0<10^pl:=Nat.pow_pos dc
  have h2:(u:Int)*tenI pl%tenI (pl+k)=((u%10^k*10^pl:Nat):Int):=by
    unfold tenI
    rw[<-Int.natCast_mul,<-Int.natCast_emod,Nat.pow_add,Nat.mul_comm (10^pl) (10^k),Nat.mul_mod_mul_right]
  rw[h2]
  by_cases h:u%10^k=0
  · rw[if_pos h,if_pos (by rw[h,Nat.zero_mul];rfl)]
  · have h4:0<u%10^k*10^pl:=Nat.mul_pos om hp
    rw[if_neg h,if_neg om];rfl
theorem flI_neg {a b t:Int}(hb:0<b):flI (-a) b t= -clI a b t:=by
  unfold flI clI
  rw[Int.neg_mul,Int.neg_ediv]
  by_cases h:a*t%b=0
  · rw[if_pos h,if_pos (Int.dvd_of_emod_eq_zero h)];omega
  · rw[if_neg h,if_neg (λhd=>h (Int.emod_eq_zero_of_dvd hd)),Int.sign_eq_one_of_pos hb];omega
theorem clI_neg {a b t:Int}(hb:0<b):clI (-a) b t= -flI a b t:=by
  have h:=flI_neg (a:=-a) (t:=t) hb
  rw[Int.neg_neg]at h
  omega
theorem cl_fl_le {a b t:Int}:flI a b t<=clI a b t:=by unfold flI clI;split <;>omega
def cellK (k a b:Nat)(K:Nat->Nat->Bool):Bool:=
  cond (and (Nat.ble a b) (Nat.ble b 1000000000000000000000000000000000000000000000000000000000000)) (fz (Nat.div a k) λf=>fz (Nat.div (Nat.add b (Nat.pred k)) k) λc=>cond (Nat.ble c (Nat.succ f)) (K f c) false) false
def allN (ck:Nat->Bool)(n:Nat):Bool:=Nat.rec (motive:=λ_=>Bool) true (λm ih=>cond (ck (Nat.succ m)) ih false) n
theorem allN_ok {ck:Nat->Bool}:∀{n:Nat},allN ck n=true->∀i,1<=i->i<=n->ck i=true
  |0,_,i,h1,h2=>by omega
  | n + 1,h,i,h1,h2=>by
    change cond _ _ _=true at h
    rcases cond_t h with⟨h3,h⟩|⟨_,h⟩
    · by_cases e:i=n+1
      · subst e;exact h3
      · have h':allN ck n=true:=h
        exact allN_ok h' i h1 om
    · cases h
abbrev S25:Nat:=10000000000000000000000000
theorem of_eq {S N d:Nat}(hd:0<d):ofP S N d=(Nat.div (Nat.mul N S) d,Nat.div (Nat.add (Nat.mul N S) (Nat.pred d)) d):=by unfold ofP;rw[upn_eq hd];rfl
def hnK (S S1 c1 c2:Nat)(K:Nat->Nat->Bool)(n d:Nat):Bool:=
  fz (Nat.mul n S) λu=>fz (Nat.div u d) λv1=>fz (Nat.div (Nat.add u (Nat.pred d)) d) λv2=>fz (Nat.div (Nat.mul v1 v1) S) λq1=>fz (Nat.div (Nat.add (Nat.mul v2 v2) S1) S) λq2=>
  cond (and (bdK n d) (and (bdK v1 v2) (bdK q1 q2))) (sumK (λn t=>Nat.div (Nat.div (Nat.mul t q1) S) (Nat.succ (Nat.mul 2 n))) (λn t=>Nat.div (Nat.add (Nat.div (Nat.add (Nat.mul t q2) S1) S) (Nat.mul 2 n)) (Nat.succ (Nat.mul 2 n)))
    (λs1 s2=>cond (bdK s1 s2) (expK S S1 (λe1 e2=>fz (Nat.div (Nat.mul e1 c1) S) λm1=>fz (Nat.div (Nat.add (Nat.mul e2 c2) S1) S) λm2=>cond (and (Nat.ble 1 m1) (Nat.ble 1 m2)) (fz (Nat.div (Nat.mul s1 S) m2) λr1=>fz (Nat.div (Nat.add (Nat.mul s2 S) (Nat.pred m1)) m1) λr2=>K r1 r2) false) (Nat.div q1 2) (Nat.div (Nat.succ q2) 2)) false) 500 1 v1 v2 0 0 0) false
theorem hnK_ok {S S1 pl n d:Nat}{c:N2}{K:Nat->Nat->Bool}(hS:0<S)(h1:S1=S-1)(hc:rootP S (byP (piN pl,piN pl+1) 2 1)=some c)(hcb:bdB c=true)(hd:0<d)(hk:hnK S S1 c.1 c.2 K n d=true):∃r,hnP S pl n d=some r∧K r.1 r.2=true:=by
  unfold hnK at hk
  rw[fz_eq,fz_eq,fz_eq,fz_eq,fz_eq]at hk
  rcases cond_t hk with⟨hb,hk⟩|⟨_,hk⟩
  · simp only[Bool.and_eq_true]at hb
    have e1:(Nat.div (Nat.mul n S) d,Nat.div (Nat.add (Nat.mul n S) (Nat.pred d)) d)=ofP S n d:=(of_eq hd).symm
    rw[show Nat.div (Nat.mul n S) d=(ofP S n d).1 from congrArg Prod.fst e1,show Nat.div (Nat.add (Nat.mul n S) (Nat.pred d)) d=(ofP S n d).2 from congrArg Prod.snd e1]at hb hk
    have e2:(Nat.div (Nat.mul (ofP S n d).1 (ofP S n d).1) S,Nat.div (Nat.add (Nat.mul (ofP S n d).2 (ofP S n d).2) S1) S)=tmP S (ofP S n d) (ofP S n d):=by unfold tmP;rw[upn_eq hS,h1];rfl
    rw[show Nat.div (Nat.mul (ofP S n d).1 (ofP S n d).1) S=(tmP S (ofP S n d) (ofP S n d)).1 from congrArg Prod.fst e2,show Nat.div (Nat.add (Nat.mul (ofP S n d).2 (ofP S n d).2) S1) S=(tmP S (ofP S n d) (ofP S n d)).2 from congrArg Prod.snd e2]at hb hk
    obtain⟨s,hs,hk⟩:=sumK_p (nx:=hnN S (tmP S (ofP S n d) (ofP S n d))) (λn t _=>by
      unfold hnN byP
      simp only[Nat.mul_one]
      rw[upn_eq om,show 2*n+1-1=2*n from rfl]
      unfold tmP
      simp only[]
      rw[upn_eq hS,h1];rfl) dc hk
    rcases cond_t hk with⟨hsb,hk⟩|⟨_,hk⟩
    · obtain⟨e,he,hk⟩:=expK_ok hS h1 hk
      simp only[fz_eq]at hk
      rcases cond_t hk with⟨hm,hk⟩|⟨_,hk⟩
      · simp only[Bool.and_eq_true,Nat.ble_eq]at hm
        have e3:(Nat.div (Nat.mul e.1 c.1) S,Nat.div (Nat.add (Nat.mul e.2 c.2) S1) S)=tmP S e c:=by unfold tmP;rw[upn_eq hS,h1];rfl
        rw[show Nat.div (Nat.mul e.1 c.1) S=(tmP S e c).1 from congrArg Prod.fst e3,show Nat.div (Nat.add (Nat.mul e.2 c.2) S1) S=(tmP S e c).2 from congrArg Prod.snd e3]at hm hk
        refine⟨ovP S s (tmP S e c),?_,?_⟩
        · unfold hnP
          rw[if_pos ⟨bdK_ok hb.1,hd,bdK_ok hb.2.1,bdK_ok hb.2.2⟩,hs,Option.bind_some]
          rw[show byP (tmP S (ofP S n d) (ofP S n d)) 1 2=(Nat.div (tmP S (ofP S n d) (ofP S n d)).1 2,Nat.div (Nat.succ (tmP S (ofP S n d) (ofP S n d)).2) 2)by unfold byP;rw[upn_eq dc,Nat.mul_one,Nat.mul_one];rfl,he,Option.bind_some,hc,Option.bind_some,if_pos ⟨bdK_ok hsb,hcb,by omega,by omega⟩]
        · unfold ovP
          rw[upn_eq om]
          exact hk
      · cases hk
    · cases hk
  · cases hk
end Go.Proofs.YtinldhphnpflaaaGreatDoor
namespace Go.Proofs.YtinldhphnpflaaaGreatDoor
def swK (k a b:Nat)(K:Nat->Bool):Bool:=fz (Nat.div a k) λf=>cond (and (Nat.ble (Nat.succ (Nat.mul f k)) a) (Nat.ble (Nat.succ b) (Nat.mul (Nat.succ f) k))) (K f) false
theorem swK_ok {k a b:Nat}{K:Nat->Bool}(h:swK k a b K=true):∃f,f*k<a∧b<(f+1)*k∧K f=true:=by
  unfold swK at h
  rw[fz_eq]at h
  rcases cond_t h with⟨h1,h2⟩|⟨_,h2⟩
  · simp only[Bool.and_eq_true,Nat.ble_eq]at h1
    exact⟨_,h1.1,h1.2,h2⟩
  · cases h2
def tsK (S Y C:Nat)(K:Nat->Nat->Bool)(f:Nat):Nat->Nat->Bool:=
  Nat.rec (motive:=λ_=>Nat->Nat->Bool) (λt a=>cond (Nat.ble t 4) (K (Nat.sub a (Nat.add (Nat.div (Nat.mul a 5200000) S) 10000)) (Nat.add a 5000)) false)
    (λm ih t a=>ih (Nat.add (Nat.div (Nat.mul t Y) (Nat.mul S (Nat.sub C (Nat.mul 2 m)))) 2) (Nat.add a t)) f
theorem tl_hi {S D:Nat}{t y:N2}(hS:0<S)(hD:3<=D):(byP (tmP S t y) 2 D).2<=t.2*(2*y.2)/(S*D)+2:=by
  have hSD:0<S*D:=Nat.mul_pos hS (by omega)
  show upn (upn (t.2*y.2) S*2) D<=_
  rw[upn_le_iff (by omega)]
  have h1:=upn_mul_le (a:=t.2*y.2) hS
  have h2:=Nat.div_add_mod (t.2*(2*y.2)) (S*D)
  have h3:=Nat.mod_lt (t.2*(2*y.2)) hSD
  have e1:t.2*(2*y.2)=2*(t.2*y.2):=by ac_rfl
  generalize upn (t.2*y.2) S=u at *
  generalize t.2*(2*y.2)/(S*D)=q at *
  generalize t.2*y.2=z at *
  have h4:u*2*S<=(q+2)*D*S:=by
    have e2:(q+2)*D*S=S*D*q+2*(S*D):=by rw[Nat.add_mul,Nat.add_mul];congr 1 <;>ac_rfl
    have e3:u*2*S=2*(u*S):=by ac_rfl
    have h5:S*3<=S*D:=Nat.mul_le_mul_left _ hD
    omega
  exact Nat.le_of_mul_le_mul_right h4 hS
theorem tl_lo {S D:Nat}{t y:N2}(hS:0<S)(hD:3<=D):t.1*(2*y.1)/(S*D)-1<=(byP (tmP S t y) 2 D).1:=by
  have hSD:0<S*D:=Nat.mul_pos hS (by omega)
  show _<=t.1*y.1/S*2/D
  rw[Nat.le_div_iff_mul_le (by omega)]
  have h1:=Nat.div_add_mod (t.1*y.1) S
  have h1':=Nat.mod_lt (t.1*y.1) hS
  have h2:t.1*(2*y.1)/(S*D)*(S*D)<=t.1*(2*y.1):=Nat.div_mul_le_self _ _
  have e1:t.1*(2*y.1)=2*(t.1*y.1):=by ac_rfl
  generalize t.1*(2*y.1)/(S*D)=q at *
  generalize t.1*y.1/S=u at *
  generalize t.1*y.1=z at *
  rcases Nat.eq_zero_or_pos q with e|hq
  · subst e;simp
  have h4:(q-1)*D*S<(u*2+1)*S:=by
    have e2:(q-1)*D*S+S*D=q*(S*D):=by
      obtain⟨p,hp⟩:∃p,q=p+1:=⟨q-1,by omega⟩
      subst hp
      rw[Nat.add_sub_cancel,Nat.add_mul,Nat.one_mul];congr 1;ac_rfl
    have e3:(u*2+1)*S=2*(S*u)+S:=by rw[Nat.add_mul,Nat.one_mul];congr 1;ac_rfl
    have h5:S*3<=S*D:=Nat.mul_le_mul_left _ hD
    omega
  have:=Nat.lt_of_mul_lt_mul_right h4
  omega
theorem tl_low {S D:Nat}{t y:N2}(hS:0<S)(hD:3<=D):t.1*(2*y.1)<=((byP (tmP S t y) 2 D).1+2)*(S*D):=by
  have h:=tl_lo (t:=t) (y:=y) hS hD
  have hSD:0<S*D:=Nat.mul_pos hS (by omega)
  have h2:=Nat.div_add_mod (t.1*(2*y.1)) (S*D)
  have h3:=Nat.mod_lt (t.1*(2*y.1)) hSD
  generalize t.1*(2*y.1)/(S*D)=q at *
  have h4:(q+1)*(S*D)<=((byP (tmP S t y) 2 D).1+2)*(S*D):=Nat.mul_le_mul_right _ (by omega)
  rw[Nat.add_mul,Nat.mul_comm q]at h4
  omega
theorem ts_step {S Q U U' L L' Y1 Y2 k:Nat}(hQ:0<Q)(hY:Y2<=Y1+4)(hUL:L<=U)(h50:S<=Y2*2500)(hU:U'=U*Y2/Q+2)(hL:L*Y1<=(L'+2)*Q)(hb:2*Y2<=Q∨S<=U*256)(ih:U*S<=L*S+U*(k*13000)+8*S):U'*S<=L'*S+U'*((k+1)*13000)+8*S:=by
  have u1:U'*Q<=U*Y2+2*Q:=by
    rw[hU,Nat.add_mul];have:=Nat.div_mul_le_self (U*Y2) Q;omega
  have u2:U*Y2<=U'*Q:=by
    have:=Nat.div_add_mod (U*Y2) Q
    have:=Nat.mod_lt (U*Y2) hQ
    rw[hU,Nat.add_mul,Nat.mul_comm (U*Y2/Q)];omega
  refine Nat.le_of_mul_le_mul_right ?_ hQ
  have a1:=Nat.mul_le_mul_right S u1
  have a2:=Nat.mul_le_mul_right S hL
  have a3:=Nat.mul_le_mul_right Y2 ih
  have a4:L*Y2<=L*(Y1+4):=Nat.mul_le_mul_left _ hY
  have a4':=Nat.mul_le_mul_right S a4
  have a5:=Nat.mul_le_mul_right ((k+1)*13000) u2
  have a6:4*(L*S)<=U*Y2*10000:=by
    have h1:=Nat.mul_le_mul hUL h50
    have e:U*(Y2*2500)=U*Y2*2500:=by ac_rfl
    omega
  have a7:8*(S*Y2)<=U*Y2*2048+4*(Q*S):=by
    rcases hb with h|h
    · have h1:=Nat.mul_le_mul_right S h
      have e:2*Y2*S=2*(S*Y2):=by ac_rfl
      omega
    · have h1:=Nat.mul_le_mul_right Y2 h
      have e:U*256*Y2=U*Y2*256:=by ac_rfl
      omega
  rw[Nat.add_mul]at a1
  rw[Nat.add_mul,Nat.add_mul]at a3
  rw[Nat.add_mul,Nat.add_mul]
  rw[Nat.mul_add,Nat.add_mul]at a4'
  rw[Nat.add_mul,Nat.add_mul]at a2
  have e1:U'*S*Q=U'*Q*S:=by ac_rfl
  have e2:U*S*Y2=U*Y2*S:=by ac_rfl
  have e3:L*S*Y2=L*Y2*S:=by ac_rfl
  have e4:U*(k*13000)*Y2=U*Y2*(k*13000):=by ac_rfl
  have e5:U'*((k+1)*13000)*Q=U'*Q*((k+1)*13000):=by ac_rfl
  have e6:L'*S*Q=L'*Q*S:=by ac_rfl
  have e7:U*Y2*((k+1)*13000)=U*Y2*(k*13000)+U*Y2*13000:=by rw[Nat.add_mul,Nat.mul_add,Nat.one_mul]
  have e8:8*S*Y2=8*(S*Y2):=by ac_rfl
  have e9:8*S*Q=8*(Q*S):=by ac_rfl
  have e10:2*Q*S=2*(Q*S):=by ac_rfl
  have e11:L*4*S=4*(L*S):=by ac_rfl
  omega
theorem fall {X:Nat->N2}{m B:Nat}(hB:2<=B)(h0:(X m).2<=B)(hr:∀k,m<=k->(X (k+1)).2*2<=(X k).2+2):∀j,(X (m+j)).2<=B∧(totP X (m+j)).2<=(totP X m).2+j*B
  |0=>⟨h0,by simp⟩
  | j+1=>by
    obtain⟨h1,h2⟩:=fall hB h0 hr j
    have h3:=hr (m+j) (by omega)
    refine⟨by rw[show m+(j+1)=m+j+1 from rfl];omega,?_⟩
    show(totP X (m+j)).2+(X (m+j)).2<=_
    rw[Nat.add_mul];omega
theorem tot_diff {X:Nat->N2}(hv:∀k,Vd (X k)){m:Nat}:∀j,(totP X (m+j)).1+(totP X m).2<=(totP X m).1+(totP X (m+j)).2
  |0=>Nat.le_refl _
  | j+1=>by
    have h1:=tot_diff hv (m:=m) j
    have h2:=hv (m+j)
    unfold Vd at h2
    show(totP X (m+j)).1+(X (m+j)).1+_<=_+((totP X (m+j)).2+(X (m+j)).2)
    omega
theorem ts_bound {X:Nat->N2}{m M:Nat}(hR:SumR X m)(hM:M<=1000)(h4:(X M).2<=4)(hv:∀k,Vd (X k))(hrm:∀k,m<=k->(X (k+1)).2*2<=(X k).2+2)(hrM:∀k,M<=k->(X (k+1)).2*2<=(X k).2+2):
    (totP X M).1<=(resP X m).1+5000∧(resP X m).2<=(totP X M).2+5000:=by
  have hm:=hR.lt
  have hs:=hR.stop.1
  show(totP X M).1<=(totP X (m+1)).1+5000∧(totP X (m+1)).2+((X m).2+4)<=_
  rcases Nat.lt_or_ge m M with g|g
  · have h1:=(tot_mono (X:=X) (show m+1<=M by omega))
    obtain⟨_,f2⟩:=fall (X:=X) (m:=m) (B:=2) (by omega) hs hrm (M-m)
    rw[show m+(M-m)=M by omega]at f2
    have h3:=tot_diff hv (m:=m+1) (M-(m+1))
    rw[show m+1+(M-(m+1))=M by omega]at h3
    have h5:(totP X (m+1)).2=(totP X m).2+(X m).2:=rfl
    exact⟨by omega,by omega⟩
  · have h1:=(tot_mono (X:=X) (show M<=m+1 by omega))
    obtain⟨_,f2⟩:=fall (X:=X) (m:=M) (B:=4) (by omega) h4 hrM (m+1-M)
    rw[show M+(m+1-M)=m+1 by omega]at f2
    exact⟨by omega,by omega⟩
theorem by_two {S D:Nat}{u q:N2}(hD:0<D):byP (tmP S u q) 2 (2*D)=byP (tmP S u q) 1 D:=by
  unfold byP
  rw[upn_eq (by omega),upn_eq hD,Nat.mul_one,Nat.mul_one,Nat.mul_comm _ 2,Nat.mul_div_mul_left _ _ (by omega)]
  congr 1
  generalize (tmP S u q).2=z
  have h1:(z*2+(2*D-1))/(2*D)=(z*2+(2*D-1))/2/D:=by rw[Nat.div_div_eq_div_mul]
  rw[h1];congr 1;omega
theorem hs_hi {S D:Nat}{t q:N2}(hS:0<S)(hD:3<=D):(byP (tmP S t q) 1 D).2<=t.2*q.2/(S*D)+2:=by
  have h:=tl_hi (S:=S) (D:=2*D) (t:=t) (y:=q) hS (by omega)
  rw[by_two (by omega),show t.2*(2*q.2)=2*(t.2*q.2)by ac_rfl,show S*(2*D)=2*(S*D)by ac_rfl,Nat.mul_div_mul_left _ _ (by omega)]at h
  exact h
theorem hs_low {S D:Nat}{t q:N2}(hS:0<S)(hD:3<=D):t.1*q.1<=((byP (tmP S t q) 1 D).1+2)*(S*D):=by
  have h:=tl_low (S:=S) (D:=2*D) (t:=t) (y:=q) hS (by omega)
  rw[by_two (by omega),show t.1*(2*q.1)=2*(t.1*q.1)by ac_rfl,show S*(2*D)=2*(S*D)by ac_rfl]at h
  generalize (byP (tmP S t q) 1 D).1+2=z at *
  rw[show z*(2*(S*D))=2*(z*(S*D))by ac_rfl]at h
  exact Nat.le_of_mul_le_mul_left h (by omega)
theorem hsK_ok {S:Nat}{v q:N2}{C:Nat}{K:Nat->Nat->Bool}(hS:10^5<=S)(q64:q.2<=64*S)(vv:Vd v)(vq:Vd q)(hq:q.2<=q.1+4)(h50:S<=q.2*2500)(v1:S<=v.2):∀{f k t a:Nat},k+f<=400->C=1+2*(k+f)->
    (tmsP (hnN S q) v k).2<=t->(tmsP (hnN S q) v k).1<=t->t*S<=(tmsP (hnN S q) v k).1*S+t*(k*13000)+8*S->
    (totP (tmsP (hnN S q) v) k).2<=a->a*S<=(totP (tmsP (hnN S q) v) k).1*S+a*5200000+k*(8*S)->
    tsK S q.2 C K f t a=true->∃M b1 b2,M<=400∧(tmsP (hnN S q) v M).2<=4∧b1<=(totP (tmsP (hnN S q) v) M).1∧(totP (tmsP (hnN S q) v) M).2<=b2∧K (b1-5000) (b2+5000)=true
  | 0, k, t,a,hf,hC,ht,htl,hd,ha,hA,hk=>by
    have hS0:0<S:=by omega
    change cond _ _ _=true at hk
    rcases cond_t hk with⟨hb,hk⟩|⟨_,hk⟩
    · rw [Nat.ble_eq]at hb
      refine⟨k,a-(a*5200000/S+5000),a,by omega,by omega,?_,ha,?_⟩
      · have h2:=Nat.div_add_mod (a*5200000) S
        have h3:=Nat.mod_lt (a*5200000) hS0
        have h4:a*S<=((totP (tmsP (hnN S q) v) k).1+(a*5200000/S+5000))*S:=by
          rw[Nat.add_mul,Nat.add_mul,Nat.mul_comm (a*5200000/S)]
          have:k*(8*S)<=400*(8*S):=Nat.mul_le_mul_right _ (by omega)
          omega
        have:=Nat.le_of_mul_le_mul_right h4 hS0
        omega
      · have e:a-(a*5200000/S+5000)-5000=Nat.sub a (Nat.add (Nat.div (Nat.mul a 5200000) S) 10000):=by
          show _=a-(a*5200000/S+10000)
          omega
        rw[e];exact hk
    · cases hk
  | f + 1, k, t,a,hf,hC,ht,htl,hd,ha,hA,hk=>by
      have hS0:0<S:=by omega
      have eD:C-2*f=1+2*(k+1):=by omega
      have hk':tsK S q.2 C K f (t*q.2/(S*(C-2*f))+2) (a+t)=true:=hk
      rw[eD]at hk'
      have eN:(tmsP (hnN S q) v (k+1))=byP (tmP S (tmsP (hnN S q) v k) q) 1 (1+2*(k+1)):=by
        show byP _ 1 (2*(k+1)+1)=_
        rw[Nat.add_comm (2*(k+1)) 1]
      have hQ:0<S*(1+2*(k+1)):=Nat.mul_pos hS0 (by omega)
      have hi':(tmsP (hnN S q) v (k+1)).2<=t*q.2/(S*(1+2*(k+1)))+2:=by
        have:=hs_hi (S:=S) (D:=1+2*(k+1)) (t:=tmsP (hnN S q) v k) (q:=q) hS0 (by omega)
        rw[eN]
        exact Nat.le_trans this (Nat.add_le_add_right (Nat.div_le_div_right (Nat.mul_le_mul_right _ ht)) 2)
      have lo':=hs_low (S:=S) (D:=1+2*(k+1)) (t:=tmsP (hnN S q) v k) (q:=q) hS0 (by omega)
      rw[<-eN]at lo'
      have hdich:2*q.2<=S*(1+2*(k+1))∨S<=t*256:=by
        rcases Nat.lt_or_ge (S*(1+2*(k+1))) (2*q.2)with g|g
        · right
          have hm:k<110:=by
            rcases Nat.lt_or_ge k 110 with g3|g3
            · exact g3
            · have:S*222<=S*(1+2*(k+1)):=Nat.mul_le_mul_left _ (by omega)
              omega
          have g3:=grow_big (X:=λk=>(tmsP (hnN S q) v k).2) (A:=q.2) (B:=S) (fr:=1) (m:=k) hS0 (λk=>by
            have:=by_tm_ge (S:=S) (n:=1) (d:=2*(k+1)+1) (t:=tmsP (hnN S q) v k) (q:=q) hS0 (by omega)
            rw[Nat.mul_one]at this
            rw[show 1+2*(k+1)=2*(k+1)+1 by omega]
            exact this) (by omega) (by omega) hm (by rw[show 1+2*k+2=1+2*(k+1)by omega,Nat.mul_comm (1+2*(k+1))];omega)
          have g4:v.2<=(tmsP (hnN S q) v k).2*256:=g3
          exact Nat.le_trans v1 (Nat.le_trans g4 (Nat.mul_le_mul_right 256 ht))
        · exact Or.inl g
      have st:=ts_step (k:=k) hQ (by omega:q.2<=q.1+4) htl h50 rfl lo' hdich hd
      have hl':(tmsP (hnN S q) v (k+1)).1<=t*q.2/(S*(1+2*(k+1)))+2:=by
        refine Nat.le_trans ?_ hi'
        exact tms_all (nx:=hnN S q) (t0:=v) (P:=λt=>t.1<=t.2) vv (λn u _ hu=>by
          exact(Vd.tm hS0 hu vq).by' (by omega)) (k+1)
      obtain⟨M,b1,b2,hM,r⟩:=hsK_ok hS q64 vv vq hq h50 v1 (k:=k+1) (by omega) (by omega) hi' hl' st (by
        show(totP _ k).2+(tmsP _ _ k).2<=a+t
        omega) (by
        show(a+t)*S<=((totP _ k).1+(tmsP _ _ k).1)*S+(a+t)*5200000+(k+1)*(8*S)
        have:t*(k*13000)<=t*5200000:=Nat.mul_le_mul_left _ (by omega)
        rw[Nat.add_mul,Nat.add_mul,Nat.add_mul,Nat.add_mul]
        omega) hk'
      exact⟨M,b1,b2,hM,r⟩
end Go.Proofs.YtinldhphnpflaaaGreatDoor
