/- Part of the proof of a statement about risks. -/
import Derived.Test.YthpinljhfnodeaaGreatDoorRnT1
import Derived.Test.YthpinljhfnodeaaGreatDoorRnT2
import Derived.Test.YthpinljhfnodeaaGreatDoorRnT3
import Derived.Test.YthpinljhfnodeaaGreatDoorRnT4
import Derived.Test.YthpinljhfnodeaaGreatDoorRnT5
import Derived.Test.YthpinljhfnodeaaGreatDoorRnT6
import Derived.Test.YthpinljhfnodeaaGreatDoorRnT7
import Derived.Test.YthpinljhfnodeaaGreatDoorRnT8
set_option linter.all false
namespace Go.Proofs.YthpinljhfnodeaaGreatDoor
open Go Go.Eng Go.RowKit Proofs.Tryz
variable {pl u v f c f' c' e:Nat}
def vH (e:Nat):Prop:=∀K,1<=K->K<16*e->GH (K*500000/e)=true/\GH ((K*500000+(e-1))/e)=true
def Yo:vH 11:=λK h1 h2=>by
 rcases Nat.lt_or_ge K 61 with h|h
 · exact bG Tj K U U
 rcases Nat.lt_or_ge K 121 with h|h
 · exact bG Oo K U U
 exact bG Lu K U U
def Yp:vH 12:=λK h1 h2=>by
 rcases Nat.lt_or_ge K 61 with h|h
 · exact bG Tl K U U
 rcases Nat.lt_or_ge K 121 with h|h
 · exact bG Ot K U U
 rcases Nat.lt_or_ge K 181 with h|h
 · exact bG Lv K U U
 exact bG Lz K U U
def Yq:vH 13:=λK h1 h2=>by
 rcases Nat.lt_or_ge K 61 with h|h
 · exact bG Tp K U U
 rcases Nat.lt_or_ge K 121 with h|h
 · exact bG Ow K U U
 rcases Nat.lt_or_ge K 181 with h|h
 · exact bG LH K U U
 exact bG LF K U U
def Yr:vH 14:=λK h1 h2=>by
 rcases Nat.lt_or_ge K 61 with h|h
 · exact bG Tk K U U
 rcases Nat.lt_or_ge K 121 with h|h
 · exact bG Oq K U U
 rcases Nat.lt_or_ge K 181 with h|h
 · exact bG Lp K U U
 exact bG LG K U U
def Ys:vH 15:=λK h1 h2=>by
 rcases Nat.lt_or_ge K 61 with h|h
 · exact bG Tn K U U
 rcases Nat.lt_or_ge K 121 with h|h
 · exact bG Ov K U U
 rcases Nat.lt_or_ge K 181 with h|h
 · exact bG LA K U U
 exact bG Ls K U U
def Yt:vH 16:=λK h1 h2=>by
 rcases Nat.lt_or_ge K 61 with h|h
 · exact bG Ts K U U
 rcases Nat.lt_or_ge K 121 with h|h
 · exact bG Ox K U U
 rcases Nat.lt_or_ge K 181 with h|h
 · exact bG LB K U U
 rcases Nat.lt_or_ge K 241 with h|h
 · exact bG Lw K U U
 exact bG LC K U U
def Yu:vH 17:=λK h1 h2=>by
 rcases Nat.lt_or_ge K 61 with h|h
 · exact bG Tq K U U
 rcases Nat.lt_or_ge K 121 with h|h
 · exact bG Oy K U U
 rcases Nat.lt_or_ge K 181 with h|h
 · exact bG Lk K U U
 rcases Nat.lt_or_ge K 241 with h|h
 · exact bG Lm K U U
 exact bG LI K U U
def Yv:vH 18:=λK h1 h2=>by
 rcases Nat.lt_or_ge K 61 with h|h
 · exact bG Tm K U U
 rcases Nat.lt_or_ge K 121 with h|h
 · exact bG Ou K U U
 rcases Nat.lt_or_ge K 181 with h|h
 · exact bG Lx K U U
 rcases Nat.lt_or_ge K 241 with h|h
 · exact bG LD K U U
 exact bG LE K U U
def Yw:vH 19:=λK h1 h2=>by
 rcases Nat.lt_or_ge K 61 with h|h
 · exact bG Tr K U U
 rcases Nat.lt_or_ge K 121 with h|h
 · exact bG Oz K U U
 rcases Nat.lt_or_ge K 181 with h|h
 · exact bG Ll K U U
 rcases Nat.lt_or_ge K 241 with h|h
 · exact bG Ln K U U
 rcases Nat.lt_or_ge K 301 with h|h
 · exact bG Lq K U U
 exact bG Lt K U U
def Yx:vH 20:=λK h1 h2=>by
 rcases Nat.lt_or_ge K 61 with h|h
 · exact bG To K U U
 rcases Nat.lt_or_ge K 121 with h|h
 · exact bG On K U U
 rcases Nat.lt_or_ge K 181 with h|h
 · exact bG Lo K U U
 rcases Nat.lt_or_ge K 241 with h|h
 · exact bG Lr K U U
 rcases Nat.lt_or_ge K 301 with h|h
 · exact bG LJ K U U
 exact bG Ly K U U
def Tt (e:Nat)(h1:11<=e)(h2:e<=20):vH e:=by
 rcases(by omega:e=11\/e=12\/e=13\/e=14\/e=15\/e=16\/e=17\/e=18\/e=19\/e=20)with rfl|rfl|rfl|rfl|rfl|rfl|rfl|rfl|rfl|rfl
 · exact Yo
 · exact Yp
 · exact Yq
 · exact Yr
 · exact Ys
 · exact Yt
 · exact Yu
 · exact Yv
 · exact Yw
 · exact Yx
def WP (ck:Nat->Nat->(Nat->Nat->Bool)->Bool)(n d n' d':Nat):Bool:=ck n d λf _=>ck n' d' λ_ c=>Nat.ble f c
def Wy (u v:Nat):Bool:=fz (Nat.gcd u 1000000) λg=>fz (Nat.div u g) λn=>fz (Nat.div 1000000 g) λd=>fz (Nat.gcd v 1000000) λg=>fz (Nat.div v g) λn'=>fz (Nat.div 1000000 g) λd'=>WP Si n d n' d'&&(WP NE n d n' d'&&WP NF n d n' d')
def Dt {ck:Nat->Nat->(Nat->Nat->Bool)->Bool}(hc:Pu pl ck)(hu:0<u)(hv:0<v)(h:WP ck (u/Nat.gcd u 1000000) (1000000/Nat.gcd u 1000000) (v/Nat.gcd v 1000000) (1000000/Nat.gcd v 1000000)=true)(a:yy pl u f c')(b:yy pl v f' c):f<=c:=by
 have qr:∀u,0<u->0<u/Nat.gcd u 1000000:=λu O=>Nat.div_pos (Nat.le_of_dvd O (Nat.gcd_dvd_left _ _)) (Nat.gcd_pos_of_pos_left _ O)
 have hd:∀u,0<u->0<1000000/Nat.gcd u 1000000:=λu O=>Nat.div_pos (Nat.le_of_dvd dc (Nat.gcd_dvd_right _ _)) (Nat.gcd_pos_of_pos_left _ O)
 obtain⟨_,_,hP,hk⟩:=hc _ _ _ (qr u hu) (hd u hu) h
 obtain⟨_,_,hQ,hk⟩:=hc _ _ _ (qr v hv) (hd v hv) hk
 rw[Nat.ble_eq]at hk
 have W:=(mT dc hP).1.uniq a.1
 have qn:=(mT dc hQ).1.uniq b.1
 omega
def Tu (hu:0<u)(hv:0<v)(h:Wy u v=true)(p1:1<=pl)(p3:pl<=3)(a:yy pl u f c')(b:yy pl v f' c):f<=c:=by
 unfold Wy at h
 rw[dl,dl,dl,dl,dl,dl]at h
 simp only[Bool.and_eq_true]at h
 obtain⟨qr,O,W⟩:=h
 rcases(by omega:pl=1\/pl=2\/pl=3)with rfl|rfl|rfl
 · exact Dt VE hu hv qr a b
 · exact Dt JP hu hv O a b
 · exact Dt Sj hu hv W a b
def jX (e:Nat)(n:Nat):Nat->Bool:=Nat.rec (motive:=λ_=>Nat->Bool) (λ_=>true) (λ_ ih K=>fz (Nat.div (Nat.mul K 500000) e) λdn=>fz (Nat.div (Nat.add (Nat.mul K 500000) (Nat.pred e)) e) λup=>cond (cond (Nat.beq dn up) true (Wy dn up)) (ih (Nat.succ K)) false) n
def Yy (u v:Nat):Prop:=u=v\/Wy u v=true
def dR :∀{n a:Nat},jX e n a=true->∀K,a<=K->K<a+n->Yy (K*500000/e) ((K*500000+(e-1))/e)
 |0,a,_,K,h1,h2=>by omega
 | n + 1,a,h,K,h1,h2=>by
   change fz (Nat.div (Nat.mul a 500000) e) (λdn=>fz (Nat.div (Nat.add (Nat.mul a 500000) (Nat.pred e)) e) λup=>cond (cond (Nat.beq dn up) true (Wy dn up)) (jX e n (a+1)) false)=true at h
   rw[dl,dl]at h
   rcases ee h with⟨k2,h⟩|⟨_,h⟩
   · by_cases e0:K=a
     · subst e0
       rcases ee k2 with⟨k3,_⟩|⟨_,k3⟩
       · exact Or.inl (qb3 k3)
       · exact Or.inr k3
     · exact dR h K U U
   · cases h
end Go.Proofs.YthpinljhfnodeaaGreatDoor
