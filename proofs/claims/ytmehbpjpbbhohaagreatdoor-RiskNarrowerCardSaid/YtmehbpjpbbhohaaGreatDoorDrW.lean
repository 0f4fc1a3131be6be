/- Part of the proof of a statement about risks. -/
import Derived.Test.YtmehbpjpbbhohaaGreatDoorDcAToRj2
set_option linter.all false
namespace Go.Proofs.YtmehbpjpbbhohaaGreatDoor
open Go Go.Eng Go.RowKit
def valW (u:Nat)(K:Nat->Nat->Bool):Bool:=fz (Nat.gcd u 1000000) λg=>fz (Nat.div u g) λn=>fz (Nat.div 1000000 g) λd=>stK nmk3 1000 100 (λl h=>stK nmk5 100000 1 K n d l h) n d 0 100000
theorem valW_ok {u:Nat}{K:Nat->Nat->Bool}(hu:0<u)(h:valW u K=true):∃lo hi,(∀pl,(pl=3∨pl=5)->∃f c,Cel pl u f c∧f*10^(5-pl)<=lo∧hi<=c*10^(5-pl))∧K lo hi=true:=by
  unfold valW at h
  rw[fz_eq,fz_eq,fz_eq]at h
  have hg:0<Nat.gcd u 1000000:=Nat.gcd_pos_of_pos_left _ hu
  have hn:0<u/Nat.gcd u 1000000:=Nat.div_pos (Nat.le_of_dvd hu (Nat.gcd_dvd_left _ _)) hg
  have hd:0<1000000/Nat.gcd u 1000000:=Nat.div_pos (Nat.le_of_dvd dc (Nat.gcd_dvd_right _ _)) hg
  obtain⟨_,_,_,_,c1,h⟩:=stK_ok nmo3 dc hn hd h
  obtain⟨l3,h3,_,_,c3,h⟩:=stK_ok nmo5 dc hn hd h
  refine⟨l3,h3,λpl p1=>?_,h⟩
  have key:CelR pl (10^(5-pl)) (u/Nat.gcd u 1000000) (1000000/Nat.gcd u 1000000) l3 h3:=by
    rcases p1 with rfl|rfl
    · exact c1.weak om om
    · exact c3
  obtain⟨f,c,a,b,e,g,k⟩:=key
  obtain⟨r1,r2⟩:=posR_cel dc a
  exact⟨f,c,⟨r1,r2,b,e⟩,g,k⟩
def PW (dn up x:Nat):Prop:=∀pl,(pl=3∨pl=5)->∃f c f' c',Cel pl dn f c'∧Cel pl up f' c∧f*10^(5-pl)<=x∧x<=c*10^(5-pl)
def shW (S K:Nat)(C:Nat->Bool):Bool:=fz (Nat.mul K 200000) λa=>fz (Nat.div a S) λdn=>fz (Nat.div (Nat.add a (Nat.pred S)) S) λup=>cond (Nat.beq dn up) (valW dn λlo hi=>and (Nat.ble lo hi) (C lo)) (valW dn λlo _=>valW up λ_ hi=>and (Nat.ble lo hi) (C lo))
theorem shW_aux {dn up:Nat}{C:Nat->Bool}(p1:0<dn)(p2:0<up)(h:cond (Nat.beq dn up) (valW dn λlo hi=>and (Nat.ble lo hi) (C lo)) (valW dn λlo _=>valW up λ_ hi=>and (Nat.ble lo hi) (C lo))=true):∃x,PW dn up x∧C x=true:=by
  rcases cond_t h with⟨h1,hk⟩|⟨_,hk⟩
  · have h1:=Nat.eq_of_beq_eq_true h1
    subst h1
    obtain⟨lo,hi,ha,hb⟩:=valW_ok p1 hk
    rw[Bool.and_eq_true,Nat.ble_eq]at hb
    refine⟨lo,λpl h1=>?_,hb.2⟩
    obtain⟨f,c,a,b,e⟩:=ha pl h1
    exact⟨f,c,f,c,a,a,b,by omega⟩
  · obtain⟨lo,_,ha,hk⟩:=valW_ok p1 hk
    obtain⟨_,hi,hb,hk⟩:=valW_ok p2 hk
    rw[Bool.and_eq_true,Nat.ble_eq]at hk
    refine⟨lo,λpl h1=>?_,hk.2⟩
    obtain⟨f,c',a,b,_⟩:=ha pl h1
    obtain⟨f',c,a',_,b'⟩:=hb pl h1
    exact⟨f,c,f',c',a,a',b,by omega⟩
theorem shW_ok {S K:Nat}{C:Nat->Bool}(hS:0<S)(hK:S<=K*200000)(h:shW S K C=true):∃x,PW (dnS S K) (upS S K) x∧C x=true:=by
  unfold shW at h
  rw[fz_eq,fz_eq,fz_eq]at h
  exact shW_aux (Nat.div_pos hK hS) (Nat.div_pos (Nat.le_trans hK (Nat.le_add_right _ _)) hS) h
def rowW (S:Nat)(C:Nat->Bool)(n:Nat):Nat->Nat->Bool:=Nat.rec (motive:=λ_=>Nat->Nat->Bool) (λ_ p=>C p) (λ_ ih K p=>shW S K λlo=>cond (Nat.ble p lo) (ih (Nat.succ K) lo) false) n
def RwW (S a b p r:Nat):Prop:=∃v:Nat->Nat,(∀K,a<=K->K<b->PW (dnS S K) (upS S K) (v K)∧p<=v K∧v K<=r)∧∀K L,a<=K->K<=L->L<b->v K<=v L
theorem rowW_ok {S r:Nat}(hS:0<S)(h5:S<=50000):∀{n a p:Nat},0<a->rowW S (λq=>Nat.ble q r) n a p=true->p<=r∧RwW S a (a+n) p r
  |0,a,p,_,h=>⟨Nat.le_of_ble_eq_true h,λ_=>0,λK h1 h2=>by omega,λK L h1 h2 h3=>by omega⟩
  | n + 1,a,p,ha,h=>by
    change shW S a (λlo=>cond (Nat.ble p lo) (rowW S (λq=>Nat.ble q r) n (a+1) lo) false)=true at h
    obtain⟨x,hx,hk⟩:=shW_ok hS om h
    rcases cond_t hk with⟨h1,hk⟩|⟨_,hk⟩
    · have h1:=Nat.le_of_ble_eq_true h1
      obtain⟨h2,v,h3,h4⟩:=rowW_ok hS h5 om hk
      refine⟨by omega,λK=>if K=a then x else v K,λK k1 k2=>?_,λK L k1 k2 k3=>?_⟩
      · by_cases e:K=a
        · subst e;simp only[if_pos];exact⟨hx,h1,h2⟩
        · simp only[if_neg e]
          obtain⟨b1,b2,b3⟩:=h3 K om om
          exact⟨b1,by omega,b3⟩
      · by_cases e:K=a
        · subst e
          by_cases e2:L=K
          · subst e2;exact Nat.le_refl _
          · simp only[if_pos,if_neg e2]
            exact(h3 L om om).2.1
        · simp only[if_neg e,if_neg (show¬L=a by omega)]
          exact h4 K L om k2 om
    · cases hk
theorem RwW.join {S a b c p q r:Nat}(h1:RwW S a b p q)(h2:RwW S b c q r)(hpq:p<=q)(hqr:q<=r):RwW S a c p r:=by
  obtain⟨v,a1,a2⟩:=h1
  obtain⟨u,b1,b2⟩:=h2
  refine⟨λK=>if K<b then v K else u K,λK k1 k2=>?_,λK L k1 k2 k3=>?_⟩
  · by_cases e:K<b
    · simp only[if_pos e]
      obtain⟨x,y,z⟩:=a1 K k1 e
      exact⟨x,y,by omega⟩
    · simp only[if_neg e]
      obtain⟨x,y,z⟩:=b1 K om k2
      exact⟨x,by omega,z⟩
  · by_cases e:K<b
    · by_cases e2:L<b
      · simp only[if_pos e,if_pos e2];exact a2 K L k1 k2 e2
      · simp only[if_pos e,if_neg e2]
        have x:=(a1 K k1 e).2.2
        have y:=(b1 L om k3).2.1
        omega
    · simp only[if_neg e,if_neg (show¬L<b by omega)]
      exact b2 K L om k2 k3
structure ChW (S b r:Nat):Prop where
  row:RwW S 1 b 50000 r
  r5:50000<=r
theorem ChW.zero {S:Nat}:ChW S 1 50000:=⟨⟨λ_=>0,λK h1 h2=>by omega,λK L h1 h2 h3=>by omega⟩,Nat.le_refl _⟩
theorem ChW.next {S b r n r':Nat}(c:ChW S b r)(hS:0<S)(h5:S<=50000)(hb:0<b)(h:rowW S (λq=>Nat.ble q r') n b r=true):ChW S (b+n) r':=by
  obtain⟨h1,h2⟩:=rowW_ok hS h5 hb h
  exact⟨c.row.join h2 c.r5 h1,Nat.le_trans c.r5 h1⟩
structure VoW (S:Nat)(v:Int->Int):Prop where
  mono:∀K L,K<=L->v K<=v L
  neg:∀K,v (-K)=100000-v K
  sh:∀(K:Int) (pl:Nat),(pl=3∨pl=5)->∃f c,Sh2 pl K ((5*S:Nat):Int) f c∧f*tenI (5-pl)<=v K∧v K<=c*tenI (5-pl)
theorem ChW.voW {S r:Nat}(c:ChW S (40*S) r)(hS:0<S)(h5:S<=50000)(hr:r<=99999):∃v,VoW S v:=by
  obtain⟨⟨u,h1,h2⟩,hr5⟩:=c
  let p:Int->Int:=λK=>if K<40*(S:Int)then((u K.toNat:Nat):Int)else 99999
  have p1:∀K:Int,0<K->50000<=p K∧p K<=99999:=by
    intro K hK
    show 50000<=(if K<40*(S:Int)then((u K.toNat:Nat):Int)else 99999)∧(if K<40*(S:Int)then((u K.toNat:Nat):Int)else 99999)<=99999
    split
    · obtain⟨_,a,b⟩:=h1 K.toNat om om;omega
    · omega
  have p2:∀K L:Int,0<K->K<=L->p K<=p L:=by
    intro K L hK hL
    by_cases a:L<40*(S:Int)
    · have e1:p K=((u K.toNat:Nat):Int):=if_pos om
      have e2:p L=((u L.toNat:Nat):Int):=if_pos a
      have:=h2 K.toNat L.toNat om om om
      omega
    · have e2:p L=99999:=if_neg a
      have:=(p1 K hK).2
      omega
  have key:∀(K:Int) (pl:Nat),0<K->(pl=3∨pl=5)->∃f c,Sh2 pl K ((5*S:Nat):Int) f c∧f*tenI (5-pl)<=p K∧p K<=c*tenI (5-pl):=by
    intro K pl hK l3
    have l5:pl<=5:=by omega
    have hM:=ten_mul5 l5
    have hT:=ten_pos pl
    have hT':=ten_pos (5-pl)
    by_cases a:K<40*(S:Int)
    · obtain⟨K',rfl⟩:∃K':Nat,K=K':=⟨K.toNat,by omega⟩
      have e1:p (K':Int)=((u K':Nat):Int):=if_pos a
      obtain⟨hp,_,_⟩:=h1 K' om om
      obtain⟨f,c,_,_,x,y,_,_⟩:=hp pl l3
      have hfc:f<=c:=by
        have:f*10^(5-pl)<=c*10^(5-pl):=by omega
        exact Nat.le_of_mul_le_mul_right this (Nat.pow_pos dc)
      exact⟨f,c,sh2_pos om hS h5 om (up_lt2 hS h5 om) x y hfc,by rw[<-nat_ten,e1];omega,by rw[<-nat_ten,e1];omega⟩
    · have e1:p K=99999:=if_neg a
      refine⟨tenI pl-1,tenI pl,sh2_hi om om,?_,by rw[hM,e1];omega⟩
      rw[Int.sub_mul,hM,e1];omega
  refine⟨λK=>if K=0 then 50000 else if 0<K then p K else 100000-p (-K),?_,?_,?_⟩
  · intro K L hKL
    rcases(by omega:K<0∨K=0∨0<K)with a|a|a <;>rcases(by omega:L<0∨L=0∨0<L)with b|b|b <;>(try omega)
    · simp only[if_neg (show¬K=0 by omega),if_neg (show¬0<K by omega),if_neg (show¬L=0 by omega),if_neg (show¬0<L by omega)]
      have:=p2 (-L) (-K) om om
      omega
    · simp only[if_neg (show¬K=0 by omega),if_neg (show¬0<K by omega),if_pos b]
      have:=(p1 (-K) om).1
      omega
    · simp only[if_neg (show¬K=0 by omega),if_neg (show¬0<K by omega),if_neg (show¬L=0 by omega),if_pos b]
      have:=(p1 (-K) om).1
      have:=(p1 L b).1
      omega
    · simp only[if_pos a,if_neg (show¬L=0 by omega),if_pos b]
      exact(p1 L b).1
    · simp only[if_neg (show¬K=0 by omega),if_pos a,if_neg (show¬L=0 by omega),if_pos b]
      exact p2 K L a hKL
  · intro K
    rcases(by omega:K<0∨K=0∨0<K)with a|a|a
    · simp only[if_neg (show¬K=0 by omega),if_neg (show¬0<K by omega),if_neg (show¬ -K=0 by omega),if_pos (show 0< -K by omega)]
      omega
    · subst a;simp
    · simp only[if_neg (show¬K=0 by omega),if_pos a,if_neg (show¬ -K=0 by omega),if_neg (show¬0< -K by omega),Int.neg_neg]
  · intro K pl l3
    have l5:pl<=5:=by omega
    have hM:=ten_mul5 l5
    have hT':=ten_pos (5-pl)
    rcases(by omega:K<0∨K=0∨0<K)with a|a|a
    · simp only[if_neg (show¬K=0 by omega),if_neg (show¬0<K by omega)]
      obtain⟨f,c,h,x,y⟩:=key (-K) pl om l3
      have h':=h.neg
      rw[Int.neg_neg]at h'
      exact⟨_,_,h',by rw[Int.sub_mul,hM];omega,by rw[Int.sub_mul,hM];omega⟩
    · subst a
      have hE:=ten_even' (show 1<=pl by omega)
      refine⟨_,_,sh2_zero om om,?_,?_⟩ <;>simp only[if_pos] <;>rw[hE,Int.mul_assoc]at hM <;>omega
    · simp only[if_neg (show¬K=0 by omega),if_pos a]
      exact key K pl a l3
theorem VoW.fc {S pl:Nat}{v:Int->Int}(h:VoW S v)(l3:pl=3∨pl=5):∃F C,Fc S pl v F C:=by
  have hx:∀K:Int,∃y:Int×Int,Sh2 pl K ((5*S:Nat):Int) y.1 y.2∧y.1*tenI (5-pl)<=v K∧v K<=y.2*tenI (5-pl):=λK=>by
    obtain⟨f,c,a⟩:=h.sh K pl l3
    exact⟨(f,c),a⟩
  let y:=λK=>Classical.choose (hx K)
  have hy:∀K,Sh2 pl K ((5*S:Nat):Int) (y K).1 (y K).2∧(y K).1*tenI (5-pl)<=v K∧v K<=(y K).2*tenI (5-pl):=λK=>Classical.choose_spec (hx K)
  exact⟨λK=>(y K).1,λK=>(y K).2,λK=>(hy K).1.1,λK=>(hy K).2.1,λK=>(hy K).2.2,λK=>(hy (-K)).1.1.uniq (hy K).1.2⟩
end Go.Proofs.YtmehbpjpbbhohaaGreatDoor
