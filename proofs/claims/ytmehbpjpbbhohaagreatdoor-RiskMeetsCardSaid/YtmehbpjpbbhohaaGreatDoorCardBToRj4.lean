/- Part of the proof of a statement about risks. -/
import Derived.Test.YtmehbpjpbbhohaaGreatDoorRi4ToDcB
import Derived.Test.YtmehbpjpbbhohaaGreatDoorTie
import Derived.Test.YtmehbpjpbbhohaaGreatDoorCards
import Derived.ProofKit
import Derived.OpenShut
import Derived.LaidMore
import Derived.Lay
import Derived.SevenTiedAt
import Derived.Stop.Joined
import Derived.Deep.SlicePairs
import Derived.Deep.Frames
import Derived.Deep.Onto
import Derived.WideKeyArgs
import Derived.SizedLaws
import Derived.Test.YtmehbpjpbbhohaaGreatDoorSp16ToRi3
import Derived.DeepKeys
import Derived.Test.YtmehbpjpbbhohaaGreatDoorEngPToEngH
set_option linter.all false
namespace Go.Proofs.YtmehbpjpbbhohaaGreatDoor
open Go Go.ChangeShapes Go.WideShapes Go.ChangeAt Go.RowKit Go.Deep Go.Eng
theorem cOwn:ownKnob Tryz.prog.godebug=none:=by kernel_rfl
theorem cLaid:laidOutB Tryz.prog=true:=by kernel_rfl
theorem c3:Tryz.prog.cellsOf 3=1:=by kernel_rfl
theorem c2022:Tryz.prog.cellsOf 22=7:=by kernel_rfl
theorem gPow : Tryz.prog.globalNamed "internal/strconv.uint64pow10" = some 1 := by kernel_rfl
theorem tPow:(Tryz.prog.globals[1]?).map (·.type)=some 247:=by kernel_rfl
theorem zPow0:(((begin Tryz.prog (λ_ _=>0) default).world.heap[1]?).bind Obj.row?).map (·.2)=some 247:=by kernel_rfl
theorem zPow:∃z,(((begin Tryz.prog (λ_ _=>0) default).world.heap[1]?).bind Obj.row?)=some (z,247):=by
  obtain⟨⟨z,t⟩,h,e⟩:=Option.map_eq_some_iff.1 zPow0
  cases e;exact⟨z,h⟩
theorem nPow:1<Tryz.prog.globals.size:=of_decide_eq_true (by kernel_rfl)
theorem lPow:Rows.laid_internal_strconv_uint64pow10=(.agg (Lib.pow10Tab.map λz=>DataW.lit (.int .u64 z)):DataW Unit):=by kernel_rfl
theorem cU:Tryz.prog.cellsOf 222=1:=by kernel_rfl
theorem uU:Tryz.prog.underlying 222=some (.int .u64):=by kernel_rfl
theorem cA:Tryz.prog.cellsOf 247=20:=by kernel_rfl
theorem kPow:Lib.pow10Tab.length=20:=by kernel_rfl
theorem trod_cons {H:Type}{enc:TypeId×Value->H}{P:Program}{w:World}{base:Nat}{sp:Nat->Bool}{hd:Bool}{t:TypeId}{ts:List TypeId}{vs:List Value}{ds:List (DataW H)}{ps:List MemPlace}(h:DataW.TrodAll enc P w base sp hd (t::ts) vs ds ps):∃v vs' d ds' p q,vs=v::vs'∧ds=d::ds'∧DataW.Trod enc P w base sp hd t v d p∧DataW.TrodAll enc P w base sp hd ts vs' ds' q:=by
  match vs,ds,h with
  | v::vs',d::ds',h=>
    obtain⟨p,q,h1,h2,_⟩:=h
    exact⟨v,vs',d,ds',p,q,rfl,rfl,h1,h2⟩
theorem trod_end {H:Type}{enc:TypeId×Value->H}{P:Program}{w:World}{base:Nat}{sp:Nat->Bool}{hd:Bool}{vs:List Value}{ds:List (DataW H)}{ps:List MemPlace}(h:DataW.TrodAll enc P w base sp hd [] vs ds ps):vs=[]∧ds=[]:=by
  match vs,ds,h with
  |[],[],_=>exact⟨rfl,rfl⟩
theorem all_again {H:Type}{enc:TypeId×Value->H}{W W':World}{sp':Nat->Bool}(k:Ext W W'):∀{ts:List TypeId} {vs:List Value} {ds:List (DataW H)} {ps:List MemPlace},
    (∀t∈ts,Tryz.prog.readableRec t=true∧t<Tryz.prog.types.size)->DataW.TrodAll enc Tryz.prog W 0 (λ_=>true) true ts vs ds ps->(∀p∈ps,p.block<W.heap.size)->(∀p∈ps,sp' p.block=true)->DataW.TrodAll enc Tryz.prog W' 0 sp' true ts vs ds ps
  |[],[],[],_,_,h,_,_=>h
  | t::ts,v::vs,d::ds,ps,hr,h,hl,hs=>by
    obtain⟨p,q,h1,h2,rfl⟩:=h
    refine⟨p,q,WideElems.Trod_stays cLaid (hr t (by simp)).1 (hr t (by simp)).2 h1 (λx hx=>?_) (λx hx=>hs x (by simp[hx])),all_again k (λu hu=>hr u (by simp[hu])) h2 (λx hx=>hl x (by simp[hx])) (λx hx=>hs x (by simp[hx])),rfl⟩
    have hb:=hl x (by simp[hx])
    cases x with
    |cell b o=>exact World.cell?_of_block (k.block b hb)
    |map b=>exact k.block b hb
  |[],[],_::_,_,_,h,_,_=>h.elim
  |[],_::_,_,_,_,h,_,_=>h.elim
  |_::_,[],_,_,_,h,_,_=>h.elim
  |_::_,_::_,[],_,_,h,_,_=>h.elim
theorem wf64 {n:Int}(h:(Lit.int .i64 n).wf=true):In64 n:=by
  simp only[Lit.wf,Bool.and_eq_true,decide_eq_true_eq]at h
  have e1:IntKind.i64.min=-9223372036854775808:=rfl
  have e2:IntKind.i64.max=9223372036854775807:=rfl
  rw[e1,e2]at h
  unfold In64;omega
section
variable {H:Type}{enc:TypeId×Value->H}{W:World}{base fuel b0:Nat}{x:DataW H×List MemPlace}
set_option maxRecDepth 100000 in
theorem seven_of {v:Value}(hv:Value.okWide Tryz.prog W .any b0 22 v)(h:DataW.trod enc Tryz.prog W base (λ_=>true) true fuel 22 v.cells.toList=some x):
    ∃a b c d e f g:Int,v=.agg #[.int .i64 a,.int .i64 b,.int .i64 c,.int .i64 d,.int .i64 e,.int .i64 f,.int .i64 g]∧In64 a∧In64 b∧In64 c∧In64 d∧In64 e∧In64 f∧In64 g:=by
  unfold Value.okWide at hv
  rw[Tryz.underlying22]at hv
  obtain⟨cs,rfl,hs,_⟩:=hv
  rw[c2022]at hs
  obtain⟨xs,m,_,_,_,hl,hx⟩:=DataW.trod_array Tryz.underlying22 h
  have key:∀i u,i<7->cs.toList[i]? =some u->∃a,u=.int .i64 a∧In64 a:=by
    intro i u hi hu
    have h0:=hx i hi
    rw[c3,List.getElem?_eq_getElem (show i<xs.length by omega)]at h0
    obtain⟨a,ea,_,wa⟩:=DataW.trod_int Tryz.underlying3 h0
    refine⟨a,?_,wf64 wa⟩
    have e2:(((Value.agg cs).cells.toList.drop (i*1)).take 1)[0]? =some u:=by
      have hc:(Value.agg cs).cells=cs:=rfl
      rw[hc,Nat.mul_one,List.getElem?_take,if_pos (by decide),List.getElem?_drop,Nat.add_zero];exact hu
    rw[ea]at e2
    exact(Option.some.inj e2).symm
  obtain⟨l⟩:=cs
  match l,hs,key with
  | [u0,u1,u2,u3,u4,u5,u6],_,key=>
    obtain⟨a0,rfl,k0⟩:=key 0 u0 (by decide) rfl
    obtain⟨a1,rfl,k1⟩:=key 1 u1 (by decide) rfl
    obtain⟨a2,rfl,k2⟩:=key 2 u2 (by decide) rfl
    obtain⟨a3,rfl,k3⟩:=key 3 u3 (by decide) rfl
    obtain⟨a4,rfl,k4⟩:=key 4 u4 (by decide) rfl
    obtain⟨a5,rfl,k5⟩:=key 5 u5 (by decide) rfl
    obtain⟨a6,rfl,k6⟩:=key 6 u6 (by decide) rfl
    exact⟨a0,a1,a2,a3,a4,a5,a6,rfl,k0,k1,k2,k3,k4,k5,k6⟩
end
end Go.Proofs.YtmehbpjpbbhohaaGreatDoor
namespace Go.Proofs.YtmehbpjpbbhohaaGreatDoor
open Go Go.Eng Go.RowKit
def val3 (u:Nat)(K:Nat->Nat->Bool):Bool:=fz (Nat.gcd u 1000000) λg=>fz (Nat.div u g) λn=>fz (Nat.div 1000000 g) λd=>stK nmk2 100 1000 (λl h=>stK nmk3 1000 100 (λl h=>stK nmk4 10000 10 (λl h=>stK nmk5 100000 1 K n d l h) n d l h) n d l h) n d 0 100000
theorem val3_ok {u:Nat}{K:Nat->Nat->Bool}(hu:0<u)(h:val3 u K=true):∃lo hi,(∀pl,2<=pl->pl<=5->∃f c,Cel pl u f c∧f*10^(5-pl)<=lo∧hi<=c*10^(5-pl))∧K lo hi=true:=by
  unfold val3 at h
  rw[fz_eq,fz_eq,fz_eq]at h
  have hg:0<Nat.gcd u 1000000:=Nat.gcd_pos_of_pos_left _ hu
  have hn:0<u/Nat.gcd u 1000000:=Nat.div_pos (Nat.le_of_dvd hu (Nat.gcd_dvd_left _ _)) hg
  have hd:0<1000000/Nat.gcd u 1000000:=Nat.div_pos (Nat.le_of_dvd dc (Nat.gcd_dvd_right _ _)) hg
  obtain⟨_,_,_,_,c0,h⟩:=stK_ok nmo2 dc hn hd h
  obtain⟨_,_,_,_,c1,h⟩:=stK_ok nmo3 dc hn hd h
  obtain⟨_,_,_,_,c2,h⟩:=stK_ok nmo4 dc hn hd h
  obtain⟨l3,h3,_,_,c3,h⟩:=stK_ok nmo5 dc hn hd h
  refine⟨l3,h3,λpl _ _=>?_,h⟩
  have key:CelR pl (10^(5-pl)) (u/Nat.gcd u 1000000) (1000000/Nat.gcd u 1000000) l3 h3:=by
    rcases(by omega:pl=2∨pl=3∨pl=4∨pl=5)with rfl|rfl|rfl|rfl
    · exact c0.weak om om
    · exact c1.weak om om
    · exact c2.weak om om
    · exact c3
  obtain⟨f,c,a,b,e,g,k⟩:=key
  obtain⟨r1,r2⟩:=posR_cel dc a
  exact⟨f,c,⟨r1,r2,b,e⟩,g,k⟩
def PV (dn up x:Nat):Prop:=∀pl,2<=pl->pl<=5->∃f c f' c',Cel pl dn f c'∧Cel pl up f' c∧f*10^(5-pl)<=x∧x<=c*10^(5-pl)
def shK (S K:Nat)(C:Nat->Bool):Bool:=fz (Nat.mul K 200000) λa=>fz (Nat.div a S) λdn=>fz (Nat.div (Nat.add a (Nat.pred S)) S) λup=>cond (Nat.beq dn up) (val3 dn λlo hi=>and (Nat.ble lo hi) (C lo)) (val3 dn λlo _=>val3 up λ_ hi=>and (Nat.ble lo hi) (C lo))
theorem shK_aux {dn up:Nat}{C:Nat->Bool}(p1:0<dn)(p2:0<up)(h:cond (Nat.beq dn up) (val3 dn λlo hi=>and (Nat.ble lo hi) (C lo)) (val3 dn λlo _=>val3 up λ_ hi=>and (Nat.ble lo hi) (C lo))=true):∃x,PV dn up x∧C x=true:=by
  rcases cond_t h with⟨h1,hk⟩|⟨_,hk⟩
  · have h1:=Nat.eq_of_beq_eq_true h1
    subst h1
    obtain⟨lo,hi,ha,hb⟩:=val3_ok p1 hk
    rw[Bool.and_eq_true,Nat.ble_eq]at hb
    refine⟨lo,λpl h1 h2=>?_,hb.2⟩
    obtain⟨f,c,a,b,e⟩:=ha pl h1 h2
    exact⟨f,c,f,c,a,a,b,by omega⟩
  · obtain⟨lo,_,ha,hk⟩:=val3_ok p1 hk
    obtain⟨_,hi,hb,hk⟩:=val3_ok p2 hk
    rw[Bool.and_eq_true,Nat.ble_eq]at hk
    refine⟨lo,λpl h1 h2=>?_,hk.2⟩
    obtain⟨f,c',a,b,_⟩:=ha pl h1 h2
    obtain⟨f',c,a',_,b'⟩:=hb pl h1 h2
    exact⟨f,c,f',c',a,a',b,by omega⟩
def dnS (S K:Nat):Nat:=K*200000/S
def upS (S K:Nat):Nat:=(K*200000+(S-1))/S
theorem shK_ok {S K:Nat}{C:Nat->Bool}(hS:0<S)(hK:S<=K*200000)(h:shK S K C=true):∃x,PV (dnS S K) (upS S K) x∧C x=true:=by
  unfold shK at h
  rw[fz_eq,fz_eq,fz_eq]at h
  exact shK_aux (Nat.div_pos hK hS) (Nat.div_pos (Nat.le_trans hK (Nat.le_add_right _ _)) hS) h
def rowV (S:Nat)(C:Nat->Bool)(n:Nat):Nat->Nat->Bool:=Nat.rec (motive:=λ_=>Nat->Nat->Bool) (λ_ p=>C p) (λ_ ih K p=>shK S K λlo=>cond (Nat.ble p lo) (ih (Nat.succ K) lo) false) n
def RowV (S a b p r:Nat):Prop:=∃v:Nat->Nat,(∀K,a<=K->K<b->PV (dnS S K) (upS S K) (v K)∧p<=v K∧v K<=r)∧∀K L,a<=K->K<=L->L<b->v K<=v L
theorem rowV_ok {S r:Nat}(hS:0<S)(h5:S<=50000):∀{n a p:Nat},0<a->rowV S (λq=>Nat.ble q r) n a p=true->p<=r∧RowV S a (a+n) p r
  |0,a,p,_,h=>⟨Nat.le_of_ble_eq_true h,λ_=>0,λK h1 h2=>by omega,λK L h1 h2 h3=>by omega⟩
  | n + 1,a,p,ha,h=>by
    change shK S a (λlo=>cond (Nat.ble p lo) (rowV S (λq=>Nat.ble q r) n (a+1) lo) false)=true at h
    obtain⟨x,hx,hk⟩:=shK_ok hS om h
    rcases cond_t hk with⟨h1,hk⟩|⟨_,hk⟩
    · have h1:=Nat.le_of_ble_eq_true h1
      obtain⟨h2,v,h3,h4⟩:=rowV_ok hS h5 om hk
      refine⟨by omega,λK=>if K=a then x else v K,λK k1 k2=>?_,λK L k1 k2 k3=>?_⟩
      · by_cases e:K=a
        · subst e;simp only[if_pos];exact⟨hx,h1,h2⟩
        · simp only[if_neg e]
          obtain⟨b1,b2,b3⟩:=h3 K om om
          exact⟨b1,by omega,b3⟩
      · by_cases e:K=a
        · subst e
          by_cases e2:L=K
          · subst e2;exact Nat.le_refl _
          · simp only[if_pos,if_neg e2]
            exact(h3 L om om).2.1
        · simp only[if_neg e,if_neg (show¬L=a by omega)]
          exact h4 K L om k2 om
    · cases hk
theorem RowV.join {S a b c p q r:Nat}(h1:RowV S a b p q)(h2:RowV S b c q r)(hpq:p<=q)(hqr:q<=r):RowV S a c p r:=by
  obtain⟨v,a1,a2⟩:=h1
  obtain⟨u,b1,b2⟩:=h2
  refine⟨λK=>if K<b then v K else u K,λK k1 k2=>?_,λK L k1 k2 k3=>?_⟩
  · by_cases e:K<b
    · simp only[if_pos e]
      obtain⟨x,y,z⟩:=a1 K k1 e
      exact⟨x,y,by omega⟩
    · simp only[if_neg e]
      obtain⟨x,y,z⟩:=b1 K om k2
      exact⟨x,by omega,z⟩
  · by_cases e:K<b
    · by_cases e2:L<b
      · simp only[if_pos e,if_pos e2];exact a2 K L k1 k2 e2
      · simp only[if_pos e,if_neg e2]
        have x:=(a1 K k1 e).2.2
        have y:=(b1 L om k3).2.1
        omega
    · simp only[if_neg e,if_neg (show¬L<b by omega)]
      exact b2 K L om k2 k3
structure Chn (S b r:Nat):Prop where
  row:RowV S 1 b 50000 r
  r5:50000<=r
theorem Chn.zero {S:Nat}:Chn S 1 50000:=⟨⟨λ_=>0,λK h1 h2=>by omega,λK L h1 h2 h3=>by omega⟩,Nat.le_refl _⟩
theorem Chn.next {S b r n r':Nat}(c:Chn S b r)(hS:0<S)(h5:S<=50000)(hb:0<b)(h:rowV S (λq=>Nat.ble q r') n b r=true):Chn S (b+n) r':=by
  obtain⟨h1,h2⟩:=rowV_ok hS h5 hb h
  exact⟨c.row.join h2 c.r5 h1,Nat.le_trans c.r5 h1⟩
def Sh2 (pl:Nat)(n d f c:Int):Prop:=Sh pl n d f c∧Sh pl (-n) d (tenI pl-c) (tenI pl-f)
theorem Sh2.neg {pl:Nat}{n d f c:Int}(h:Sh2 pl n d f c):Sh2 pl (-n) d (tenI pl-c) (tenI pl-f):=by
  refine⟨h.2,?_⟩
  rw[Int.neg_neg,show tenI pl-(tenI pl-f)=f by omega,show tenI pl-(tenI pl-c)=c by omega]
  exact h.1
theorem sh2_zero {pl:Nat}{d:Int}(hd:0<d)(h1:1<=pl):Sh2 pl 0 d ((10^pl/2:Nat):Int) ((10^pl/2:Nat):Int):=by
  obtain⟨e1,e2⟩:=half_fl' h1
  have hE:=ten_even' h1
  have hn:(0:Int)<=((10^pl/2:Nat):Int):=Int.natCast_nonneg _
  generalize ((10^pl/2:Nat):Int)=H at *
  have key:Sh pl 0 d H H:=by
    have z0:∀n D:Int,n=0->flI n D (tenI 6)=0∧clI n D (tenI 6)=0:=by
      intro n D h;subst h
      unfold flI clI
      rw[Int.zero_mul,Int.zero_emod,if_pos rfl,Int.zero_ediv]
      exact⟨rfl,rfl⟩
    have c2:clp 0 d=(0,d):=by unfold clp;rw[if_pos om,if_pos om]
    obtain⟨z1,z2⟩:=z0 0 d rfl
    refine⟨H,H,?_,?_,by omega,by omega,by omega⟩
    · rw[c2];simp only;rw[z1];exact Or.inl ⟨rfl,e1.symm,e2.symm⟩
    · rw[c2];simp only;rw[z2];exact Or.inl ⟨rfl,e1.symm,e2.symm⟩
  refine⟨key,?_⟩
  rw[show tenI pl-H=H by omega]
  exact key
theorem sh_hi {pl:Nat}{n d:Int}(hd:0<d)(h:8*d<=n):Sh pl n d (tenI pl-1) (tenI pl):=by
  have c0:=clp_pos (n:=n) hd
  have c8:=clp_ge hd h
  have h1:8*tenI 6<=flI (clp n d).1 (clp n d).2 (tenI 6):=by
    unfold flI
    refine Int.le_ediv_of_mul_le c0 ?_
    rw[show 8*tenI 6*(clp n d).2=8*(clp n d).2*tenI 6 by grind]
    exact Int.mul_le_mul_of_nonneg_right c8 (Int.le_of_lt (ten_pos 6))
  have h2:=cl_fl_le (a:=(clp n d).1) (b:=(clp n d).2) (t:=tenI 6)
  have hT:=ten_pos pl
  exact⟨tenI pl-1,tenI pl,Or.inr (Or.inl ⟨by omega,rfl,rfl⟩),Or.inr (Or.inl ⟨by omega,rfl,rfl⟩),by omega,by omega,by omega⟩
theorem sh_lo {pl:Nat}{n d:Int}(hd:0<d)(h:n<=-8*d):Sh pl n d 0 1:=by
  have c0:=clp_pos (n:=n) hd
  have c8:=clp_le hd h
  have h1:clI (clp n d).1 (clp n d).2 (tenI 6)<=-8*tenI 6:=by
    have e:clI (clp n d).1 (clp n d).2 (tenI 6)=-flI (-(clp n d).1) (clp n d).2 (tenI 6):=by rw[flI_neg c0];omega
    rw[e]
    have:8*tenI 6<=flI (-(clp n d).1) (clp n d).2 (tenI 6):=by
      unfold flI
      refine Int.le_ediv_of_mul_le c0 ?_
      rw[show 8*tenI 6*(clp n d).2=8*(clp n d).2*tenI 6 by grind]
      exact Int.mul_le_mul_of_nonneg_right om (Int.le_of_lt (ten_pos 6))
    omega
  have h2:=cl_fl_le (a:=(clp n d).1) (b:=(clp n d).2) (t:=tenI 6)
  have hT:=ten_pos pl
  exact⟨0,1,Or.inr (Or.inr (Or.inl ⟨by omega,rfl,rfl⟩)),Or.inr (Or.inr (Or.inl ⟨by omega,rfl,rfl⟩)),by omega,by omega,by omega⟩
theorem sh2_hi {pl:Nat}{n d:Int}(hd:0<d)(h:8*d<=n):Sh2 pl n d (tenI pl-1) (tenI pl):=by
  refine⟨sh_hi hd h,?_⟩
  rw[show tenI pl-tenI pl=0 by omega,show tenI pl-(tenI pl-1)=1 by omega]
  exact sh_lo hd om
theorem fl_nat5 {K S:Nat}(hS:0<S):flI (K:Int) (((5*S:Nat)):Int) (tenI 6)=((K*200000/S:Nat):Int):=by
  unfold flI
  rw[ten6,show(K:Int)*1000000=((5*(K*200000):Nat):Int)by omega,<-Int.natCast_ediv,Nat.mul_div_mul_left _ _ dc]
theorem cl_nat5 {K S:Nat}(hS:0<S):clI (K:Int) (((5*S:Nat)):Int) (tenI 6)=(((K*200000+(S-1))/S:Nat):Int):=by
  have h1:=fl_nat5 (K:=K) hS
  unfold flI at h1
  unfold clI
  rw[h1,up_nat hS,ten6,show(K:Int)*1000000=((5*(K*200000):Nat):Int)by omega,<-Int.natCast_emod,Nat.mul_mod_mul_left]
  by_cases h:K*200000%S=0
  · rw[if_pos h,if_pos om]
  · rw[if_neg h,if_neg om];rfl
theorem sh2_pos {K S pl f c f' c':Nat}(hK:0<K)(hS:0<S)(hS50:S<=50000)(h8:K<40*S)(hup:upS S K<8000000)(a:Cel pl (dnS S K) f c')(b:Cel pl (upS S K) f' c)(hfc:f<=c):Sh2 pl (K:Int) ((5*S:Nat):Int) f c:=by
  have e1:=fl_nat5 (K:=K) hS
  have e2:=cl_nat5 (K:=K) hS
  have hd0:0<dnS S K:=Nat.div_pos om hS
  have hle:dnS S K<=upS S K:=Nat.div_le_div_right (Nat.le_add_right _ _)
  have c1:clp (K:Int) ((5*S:Nat):Int)=((K:Int),((5*S:Nat):Int)):=by
    unfold clp;rw[if_pos om,if_pos om]
  have c2:clp (-(K:Int)) ((5*S:Nat):Int)=(-(K:Int),((5*S:Nat):Int)):=by
    unfold clp;rw[if_pos om,if_pos om]
  have hT:((10^pl:Nat):Int)=tenI pl:=rfl
  have b3:=b.2.2.1
  have b4:=b.2.2.2
  have b5:=b.le
  constructor
  · refine⟨f',c',?_,?_,by omega,by omega,by omega⟩
    · rw[c1];simp only;rw[e1];exact a.nmc hd0 om
    · rw[c1];simp only;rw[e2];exact b.nmc om hup
  · refine⟨tenI pl-c',tenI pl-f',?_,?_,by omega,by omega,by omega⟩
    · rw[c2];simp only;rw[flI_neg om,e2];exact b.nmn om hup
    · rw[c2];simp only;rw[clI_neg om,e1];exact a.nmn hd0 om
structure Vof (S:Nat)(v:Int->Int):Prop where
  mono:∀K L,K<=L->v K<=v L
  neg:∀K,v (-K)=100000-v K
  sh:∀(K:Int) (pl:Nat),2<=pl->pl<=5->∃f c,Sh2 pl K ((5*S:Nat):Int) f c∧f*tenI (5-pl)<=v K∧v K<=c*tenI (5-pl)
theorem up_lt2 {K S:Nat}(hS:0<S)(h5:S<=50000)(h8:K<40*S):upS S K<8000000:=by
  unfold upS
  rw[Nat.div_lt_iff_lt_mul hS]
  omega
theorem fl_congr {a b c d t:Int}(hb:0<b)(hd:0<d)(e:a*d=c*b):flI a b t=flI c d t∧clI a b t=clI c d t:=by
  have h1:a*t*d=c*t*b:=by grind
  have key:a*t/b=c*t/d∧((a*t%b=0)↔(c*t%d=0)):=by
    generalize a*t=x at *
    generalize c*t=y at *
    have e1:x/b=x*d/(b*d):=(Int.mul_ediv_mul_of_pos_left _ _ hd).symm
    have e2:y/d=y*b/(d*b):=(Int.mul_ediv_mul_of_pos_left _ _ hb).symm
    refine⟨by rw[e1,e2,h1,Int.mul_comm b d],?_⟩
    constructor
    · intro h
      have h2:=Int.mul_ediv_cancel' (Int.dvd_of_emod_eq_zero h)
      refine Int.emod_eq_zero_of_dvd ⟨x/b,?_⟩
      refine Int.eq_of_mul_eq_mul_right (a:=b) om ?_
      rw[<-h1]
      conv=>lhs;lhs;rw[<-h2]
      grind
    · intro h
      have h2:=Int.mul_ediv_cancel' (Int.dvd_of_emod_eq_zero h)
      refine Int.emod_eq_zero_of_dvd ⟨y/d,?_⟩
      refine Int.eq_of_mul_eq_mul_right (a:=d) om ?_
      rw[h1]
      conv=>lhs;lhs;rw[<-h2]
      grind
  unfold flI clI
  rw[key.1]
  refine⟨rfl,?_⟩
  by_cases h:a*t%b=0
  · rw[if_pos h,if_pos (key.2.1 h)]
  · rw[if_neg h,if_neg (λk=>h (key.2.2 k))]
theorem clp_congr {a b c d:Int}(hb:0<b)(hd:0<d)(e:a*d=c*b):(clp a b).1*(clp c d).2=(clp c d).1*(clp a b).2:=by
  have h1:a<9*b↔c<9*d:=⟨λh=>ratio_gt hb hd e h,λh=>ratio_gt hd hb e.symm h⟩
  have h2:-9*b<a↔ -9*d<c:=⟨λh=>ratio_lt hb hd e h,λh=>ratio_lt hd hb e.symm h⟩
  unfold clp
  by_cases x:a<9*b
  · rw[if_pos x,if_pos (h1.1 x)]
    by_cases y:-9*b<a
    · rw[if_pos y,if_pos (h2.1 y)];exact e
    · rw[if_neg y,if_neg (λk=>y (h2.2 k))]
  · rw[if_neg x,if_neg (λk=>x (h1.2 k))]
theorem Sh.congr {pl:Nat}{a b c d f g:Int}(hb:0<b)(hd:0<d)(e:a*d=c*b)(h:Sh pl a b f g):Sh pl c d f g:=by
  obtain⟨x,y,h1,h2,h3⟩:=h
  obtain⟨e1,e2⟩:=fl_congr (t:=tenI 6) (clp_pos hb) (clp_pos hd) (clp_congr hb hd e)
  exact⟨x,y,e1▸h1,e2▸h2,h3⟩
theorem Sh.uniq {pl:Nat}{a b f c f' c':Int}(h:Sh pl a b f c)(h':Sh pl a b f' c'):f=f'∧c=c':=by
  obtain⟨x,y,h1,h2,_⟩:=h
  obtain⟨_,_,h1',h2',_⟩:=h'
  exact⟨(h1.uniq (ten_pos 6) h1').1,(h2.uniq (ten_pos 6) h2').2⟩
structure Fc (S pl:Nat)(v F C:Int->Int):Prop where
  sh:∀K,Sh pl K ((5*S:Nat):Int) (F K) (C K)
  lo:∀K,F K*tenI (5-pl)<=v K
  hi:∀K,v K<=C K*tenI (5-pl)
  neg:∀K,F (-K)=tenI pl-C K∧C (-K)=tenI pl-F K
theorem Vof.fc {S pl:Nat}{v:Int->Int}(h:Vof S v)(l3:2<=pl)(l5:pl<=5):∃F C,Fc S pl v F C:=by
  have hx:∀K:Int,∃y:Int×Int,Sh2 pl K ((5*S:Nat):Int) y.1 y.2∧y.1*tenI (5-pl)<=v K∧v K<=y.2*tenI (5-pl):=λK=>by
    obtain⟨f,c,a⟩:=h.sh K pl l3 l5
    exact⟨(f,c),a⟩
  let y:=λK=>Classical.choose (hx K)
  have hy:∀K,Sh2 pl K ((5*S:Nat):Int) (y K).1 (y K).2∧(y K).1*tenI (5-pl)<=v K∧v K<=(y K).2*tenI (5-pl):=λK=>Classical.choose_spec (hx K)
  exact⟨λK=>(y K).1,λK=>(y K).2,λK=>(hy K).1.1,λK=>(hy K).2.1,λK=>(hy K).2.2,λK=>(hy (-K)).1.1.uniq (hy K).1.2⟩
section
variable {S pl:Nat}{v F C:Int->Int}{K L:Int}
theorem Fc.bd (h:Fc S pl v F C):0<=F K∧F K<=C K∧C K<=tenI pl:=by
  obtain⟨_,_,_,_,a,b,c⟩:=h.sh K
  exact⟨b,a,c⟩
theorem Fc.le (h:Fc S pl v F C)(hv:Vof S v)(hKL:K<=L):F K<=C L:=le_of_ten (h.lo K) (hv.mono K L hKL) (h.hi L)
end
def Sz (a b:Int):Prop:=a.natAbs<10^12∧0<b∧b<10^12
theorem Sz.q9 {a b:Int}(h:Sz a b):Q9 a b:=q9_12 h.1 h.2.1 h.2.2
theorem tshare_sh {n d f c:Int}{b bm bp bn bf pl:Nat}{w:World}(p12:pl<=12)(m:Sz n d)(x:Sh pl n d f c)(hbm:Blk w bm 91 #[.map (some b)])(hbp:Blk w bp 3 #[.int .i64 ((pl:Nat):Int)])(hbn:Blk w bn 25 #[S (qR 9 1).1,S (qR 9 1).2])(hbf:Blk w bf 49 #[.func (.func 74) #[] #[pT bm,pT bp]])(hM:Mpb w b (ivV (GfN pl)))(ht:Tb w):
    CL 76 #[QV n d,pT bn,pT bf] w (RetA λv w'=>w.grownBy w' (some b)∧Mpb w' b (ivV (GfN pl))∧v=IV f (tenI pl) c (tenI pl)):=by
  obtain⟨_,_,a1,b1,_,_,_⟩:=x
  have z1:=clp_pos (n:=n) m.2.1
  obtain⟨y1,y2⟩:=clp_bd (n:=n) m.2.1
  obtain⟨_,_⟩:=fl_bd z1 (ten_pos 6) y1 y2
  have t5:=cl_fl_le (a:=(clp n d).1) (b:=(clp n d).2) (t:=tenI 6)
  have cd:∀x:Int,-9*tenI 6<=x->x<=9*tenI 6->x.natAbs<10^12∧x.natAbs<=1000000*(tenI 6).natAbs:=by rw[ten6];intro x _ _;omega
  have h6:tenI 6<10^12:=by rw[ten6];decide
  have q1:=clp_q9 (n:=n) m.1 m.2.1 m.2.2
  have A1:=a1.call (ten_pos 6) (cd _ om om).1 h6 (cd _ om om).2 p12
  have B1:=b1.call (ten_pos 6) (cd _ om om).1 h6 (cd _ om om).2 p12
  have G1:=a1.gf (ten_pos 6)
  have G2:=b1.gf (ten_pos 6)
  have hX:∀n d f c,NrmC n d pl f c->GfN pl (qR n d)=(qR f (tenI pl),qR c (tenI pl))->∀W,Tb W->CL 75 #[QV n d,.int .i64 ((pl:Nat):Int)] W (Ret W λv _=>v=.tuple #[.agg #[S (GfN pl (qR n d)).1.1,S (GfN pl (qR n d)).1.2,S (GfN pl (qR n d)).2.1,S (GfN pl (qR n d)).2.2],.int .i64 0]):=by
    intro n d f c hc hg W hW
    rw[hg];exact hc W hW
  have R1:=tshare_ok (a:=n) (b0:=d) (Gf:=GfN pl) m.q9 q1.1 q1.2 clp_min clp_max hbm hbp hbn hbf hM (hX _ _ _ _ A1 G1) (hX _ _ _ _ B1 G2) ht
  rw[G1,G2]at R1
  exact R1
section
variable {P:Program}{r:Option Nat}{n N:Nat}{e:Nat->Value}{ds:List Deferred}{w:World}{Q:Exit->Act->World->Prop}{K:Act->World->Prop}{t ty d:Nat}{pos:String}{af:Array Edge}{g:Option (Nat×Bool)}{x y:Operand}
theorem k_bsB {el:TypeId}{z:Value}{size bytes m:Nat}{parts:Array (Nat×Operand)}{vs:List (Nat×Value)}{cells:Array Value}(hu:P.underlying t=some (.slice el))(hi:Inf P el z size bytes)(hp:(parts.toList.map fun(i,x)=>(i,ev N e x))=vs)(h24:m*size<=16777216)(hm:0<m*size)(hf:Instr.fill (λi=>some (i*size,size)) ((Array.range (m*size)).map (z.cells[· %z.cells.size]!)) vs=some cells)(hk:∀w',(w'.heap.size=w.heap.size+1∧Ext w w')->Blk w' w.heap.size el cells->K (act N (upd e d (.slice (some ⟨w.heap.size,0,none⟩) m m)) ds) w'):
    Oper.wpIn (Fw r) n P ⟨some d,.buildSlice t m parts,ty,pos,af,g⟩ (act N e ds) w K Q:=by
  obtain⟨i,i1,i2,i3,_⟩:=hi.parts
  subst i3
  refine k_val (v:=.slice (some ⟨w.heap.size,0,none⟩) m m) (w':=w.alloc (.cells cells el)) rfl ?_ (by
    rw[act_put]
    exact hk _ ⟨by simp,Ext.alloc _ _⟩ (heap_alloc_new w _))
  have hp':(parts.map fun(i,x)=>(i,ev N e x)).toList=vs:=by rw[<-hp];simp
  subst hp'
  have h2:¬m*i.size>2^24:=by omega
  have h3:¬(m*i.size=0):=by omega
  simp only[execOp,Instr.buildSlice,Sem.run_bind,run_underlying hu,Result.andThen_ok,sizeOf,typeInfo,run_program,i1,Sem.run_pure,zeroValue,i2,h2,if_false,h3,hf,newRow,run_newObj,World.alloc_eq]
end
def XB (X:(Nat->Bool)->(Nat->Value)->World->Prop)(a t el m:Nat)(cs:Array Value)(ls:Nat->Bool)(e:Nat->Value)(w:World):Prop:=
  X ls e w∧(ls a=true->∃b,e t=.slice (some ⟨b,0,none⟩) m m∧Blk w b el cs)
section
variable {N:Nat}{ds:List Deferred}{X:(Nat->Bool)->(Nat->Value)->World->Prop}{L:List (Option (Nat×Value))}{ls:Nat->Bool}{e:Nat->Value}{i a t el m:Nat}{cs:Array Value}{w w' w0:World}
theorem XB.start (h:X (λ_=>false) e w):XB X a t el m cs (λ_=>false) e w:=⟨h,λh=>by cases h⟩
theorem dvB {dst:Option Nat}{ex:Exit}{a':Act}(h:EndV N ds X L ls e i dst ex a' w')(hB:XB X a t el m cs ls e w)(k:∀b,Blk w b el cs->Blk w' b el cs)(h1:Nat.beq a i=false:=by rfl)(h3:(match dst with|some d=>Nat.beq t d|none=>false)=false:=by rfl):EndV N ds (XB X a t el m cs) L ls e i dst ex a' w':=by
  obtain⟨rfl,v,e1,e2,e3⟩:=h
  refine⟨rfl,v,e1,e2,e3,λha=>?_⟩
  rw[setB_ne h1]at ha
  obtain⟨b,p,q⟩:=hB.2 ha
  refine⟨b,?_,k b q⟩
  cases dst with
  |none=>exact p
  |some d=>show upd e d v t=_;rw[upd_nb h3];exact p
theorem dvBn (hl:nthO L a=some none)(hX:X (setB ls a) (upd e t (.slice (some ⟨w.heap.size,0,none⟩) m m)) w')(hb:Blk w' w.heap.size el cs):
    EndV N ds (XB X a t el m cs) L ls e a (some t) .normal (act N (upd e t (.slice (some ⟨w.heap.size,0,none⟩) m m)) ds) w':=
  ⟨rfl,_,(act_put ..).symm,(λ_ _ h=>by rw[hl]at h;cases h),hX,λ_=>⟨w.heap.size,upd_eq ..,hb⟩⟩
theorem XB.up {d:Nat}{v:Value}(hB:XB X a t el m cs ls e w)(hX:X (setB ls i) (upd e d v) w')(k:Ext w w')(h1:Nat.beq a i=false:=by rfl)(h3:Nat.beq t d=false:=by rfl):XB X a t el m cs (setB ls i) (upd e d v) w':=by
  refine⟨hX,λha=>?_⟩
  rw[setB_ne h1]at ha
  obtain⟨b,p,q⟩:=hB.2 ha
  exact⟨b,by rw[upd_nb h3];exact p,Blk.ext k q⟩
theorem XA.up {a s t ty d:Nat}{z u:Array Value}{v:Value}(hX:XA w0 a s t ty z u ls e w)(k:Ext w w')(h1:Nat.beq a i=false:=by rfl)(h2:Nat.beq s i=false:=by rfl)(h3:Nat.beq t d=false:=by rfl):XA w0 a s t ty z u (setB ls i) (upd e d v) w':=by
  refine⟨Ext.trans hX.1 k,λha=>?_⟩
  rw[setB_ne h1]at ha
  obtain⟨b,e1,e2,e3⟩:=hX.2 ha
  exact⟨b,by rw[upd_nb h3];exact e1,e2,by rw[setB_ne h2];exact Blk.ext k e3⟩
theorem rw_blk {b el m:Nat}{cs:List Value}(h:Blk w b el cs.toArray)(hs:cs.length=m*2)(hm:m<=maxLen:=by decide):w.ownsRow b el 2 (.slice (some ⟨b,0,none⟩) m m) m cs:=
  ⟨hs,.inr ⟨b,m,cs.toArray,rfl,Nat.le_refl _,h,Nat.le_refl _,hm,by simpa using hs,by rw[List.take_of_length_le (by simp[hs])]⟩⟩
end
def XK (X:(Nat->Bool)->(Nat->Value)->World->Prop)(n0 a1 t1 a t ty:Nat)(z:Array Value)(ls:Nat->Bool)(e:Nat->Value)(w:World):Prop:=
  X ls e w∧(ls a=true->∃b,e t=pT b∧n0<=b∧Blk w b ty z∧(ls a1=true->e t1≠pT b))
section
variable {N:Nat}{ds:List Deferred}{X:(Nat->Bool)->(Nat->Value)->World->Prop}{Rel:World->Prop}{L:List (Option (Nat×Value))}{ls:Nat->Bool}{e:Nat->Value}{n0 i a t ty a1 t1 ty1:Nat}{z z1:Array Value}{w w':World}
theorem XK.start (h:X (λ_=>false) e w):XK X n0 a1 t1 a t ty z (λ_=>false) e w:=⟨h,λh=>by cases h⟩
theorem dvK {d:Nat}{ex:Exit}{a':Act}(h:EndV N ds X L ls e i (some d) ex a' w')(hK:XK X n0 a1 t1 a t ty z ls e w)(k:∀b,n0<=b->Blk w b ty z->Blk w' b ty z)(h1:Nat.beq a i=false:=by rfl)(h2:Nat.beq a1 i=false:=by rfl)(h3:Nat.beq t d=false:=by rfl)(h4:Nat.beq t1 d=false:=by rfl):
    EndV N ds (XK X n0 a1 t1 a t ty z) L ls e i (some d) ex a' w':=by
  obtain⟨rfl,v,e1,e2,e3⟩:=h
  refine⟨rfl,v,e1,e2,e3,λha=>?_⟩
  rw[setB_ne h1]at ha
  obtain⟨b,p,q,r,s⟩:=hK.2 ha
  refine⟨b,?_,q,k b q r,λhb=>?_⟩
  · show upd e d v t=_;rw[upd_nb h3];exact p
  · rw[setB_ne h2]at hb
    show upd e d v t1≠_;rw[upd_nb h4];exact s hb
theorem dvK1 (hl:nthO L a1=some none)(hX:X (setB ls a1) (upd e t1 (pT w.heap.size)) w')(hK:XK X n0 a1 t1 a t ty z ls e w)(k:∀b,n0<=b->Blk w b ty z->Blk w' b ty z)(h1:Nat.beq a a1=false:=by rfl)(h3:Nat.beq t t1=false:=by rfl):
    EndV N ds (XK X n0 a1 t1 a t ty z) L ls e a1 (some t1) .normal (act N (upd e t1 (pT w.heap.size)) ds) w':=by
  refine⟨rfl,_,(act_put ..).symm,(λ_ _ h=>by rw[hl]at h;cases h),hX,λha=>?_⟩
  rw[setB_ne h1]at ha
  obtain⟨b,p,q,r,s⟩:=hK.2 ha
  refine⟨b,?_,q,k b q r,λ_=>?_⟩
  · show upd e t1 _ t=_;rw[upd_nb h3];exact p
  · show upd e t1 _ t1≠_
    rw[upd_eq]
    intro he
    have:=Blk.lt r
    injection he with he;injection he with he;injection he with he
    omega
theorem dvKa (hl:nthO L a=some none)(hX:X (setB ls a) (upd e t (pT w.heap.size)) w')(hn:n0<=w.heap.size)(hb:Blk w' w.heap.size ty z)(hne:ls a1=true->e t1≠pT w.heap.size)(h1:Nat.beq a1 a=false:=by rfl)(h3:Nat.beq t1 t=false:=by rfl):
    EndV N ds (XK X n0 a1 t1 a t ty z) L ls e a (some t) .normal (act N (upd e t (pT w.heap.size)) ds) w':=by
  refine⟨rfl,_,(act_put ..).symm,(λ_ _ h=>by rw[hl]at h;cases h),hX,λ_=>⟨w.heap.size,?_,hn,hb,λhb=>?_⟩⟩
  · show upd e t _ t=_;rw[upd_eq]
  · rw[setB_ne h1]at hb
    show upd e t _ t1≠_
    rw[upd_nb h3];exact hne hb
theorem XH.new (hX:XH Rel n0 a1 t1 ty1 z1 ls e w)(h:Rel w')(k:Ext w w')(hb:Blk w' w.heap.size ty1 z1):XH Rel n0 a1 t1 ty1 z1 (setB ls a1) (upd e t1 (pT w.heap.size)) w':=
  ⟨h,Nat.le_trans hX.2.1 k.size,λ_=>⟨w.heap.size,upd_eq ..,hX.2.1,hb⟩⟩
theorem XH.keep {d:Nat}{v:Value}(hX:XH Rel n0 a1 t1 ty1 z1 ls e w)(h:Rel w')(k:Ext w w')(h1:Nat.beq a1 i=false:=by rfl)(h3:Nat.beq t1 d=false:=by rfl):XH Rel n0 a1 t1 ty1 z1 (setB ls i) (upd e d v) w':=by
  refine⟨h,Nat.le_trans hX.2.1 k.size,λha=>?_⟩
  rw[setB_ne h1]at ha
  obtain⟨b,p,q,r⟩:=hX.2.2 ha
  exact⟨b,by rw[upd_nb h3];exact p,q,r.ext k⟩
theorem XH.ne (hX:XH Rel n0 a1 t1 ty1 z1 ls e w)(ha:ls a1=true):e t1≠pT w.heap.size:=by
  obtain⟨b,p,q,r⟩:=hX.2.2 ha
  rw[p]
  intro he
  have:=Blk.lt r
  injection he with he;injection he with he;injection he with he
  omega
theorem ptr_ne {v:Value}{b c:Nat}(h1:v=pT b)(h2:v≠pT c):b≠c:=λh=>h2 (by rw[h1,h])
end
end Go.Proofs.YtmehbpjpbbhohaaGreatDoor
namespace Go.Proofs.YtmehbpjpbbhohaaGreatDoor
set_option maxRecDepth 100000
open Go Go.Eng Go.RowKit
attribute [local irreducible] wpListIn Code.wpIn Oper.wpIn Exit.then Exit.inBlock Exit.noGoto
set_option maxHeartbeats 40000000
theorem Tb.low {w:World}(h:Tb w):∀{W W':World} {c:Nat},Put W W' c->w.heap.size<=c->Tb W->Tb W':=by
  unfold Tb at *
  obtain⟨x,hx⟩:=h
  intro W W' c k hc ⟨y,hy⟩
  have hlt:=(Array.getElem?_eq_some_iff.1 hx).1
  exact⟨y,(k.block _ om).trans hy⟩
structure TabW (w:World)(n0 b bm bp bn bf pl:Nat):Prop where
  mp:Mpb w b (ivV (GfN pl))
  hm:Blk w bm 91 #[.map (some b)]
  hp:Blk w bp 3 #[.int .i64 pl]
  hn:Blk w bn 25 #[S (qR 9 1).1,S (qR 9 1).2]
  hf:Blk w bf 49 #[.func (.func 74) #[] #[pT bm,pT bp]]
  tb:Tb w
  tp:∀{W W':World} {c:Nat},Put W W' c->n0<=c->Tb W->Tb W'
  lt:b<n0∧bm<n0∧bp<n0∧bn<n0∧bf<n0
section
variable {w w':World}{n0 b bm bp bn bf pl c:Nat}
theorem TabW.ext (k:Ext w w')(h:TabW w n0 b bm bp bn bf pl):TabW w' n0 b bm bp bn bf pl:=⟨h.mp.ext k,h.hm.ext k,h.hp.ext k,h.hn.ext k,h.hf.ext k,h.tb.ext k,h.tp,h.lt⟩
theorem TabW.put (k:Put w w' c)(hc:n0<=c)(h:TabW w n0 b bm bp bn bf pl):TabW w' n0 b bm bp bn bf pl:=by
  have l:=h.lt
  exact⟨h.mp.put k om,pb k h.hm,pb k h.hp,pb k h.hn,pb k h.hf,h.tp k hc h.tb,h.tp,l⟩
theorem TabW.gr (k:w.grownBy w' (some b))(hm:Mpb w' b (ivV (GfN pl)))(h:TabW w n0 b bm bp bn bf pl):TabW w' n0 b bm bp bn bf pl:=
  ⟨hm,Blk.gr k (λe=>by cases e;exact absurd rfl (Mpb.ne h.mp h.hm)) h.hm,Blk.gr k (λe=>by cases e;exact absurd rfl (Mpb.ne h.mp h.hp)) h.hp,Blk.gr k (λe=>by cases e;exact absurd rfl (Mpb.ne h.mp h.hn)) h.hn,Blk.gr k (λe=>by cases e;exact absurd rfl (Mpb.ne h.mp h.hf)) h.hf,Tb.grm k h.mp h.tb,h.tp,h.lt⟩
theorem tshare_tw {n d f c:Int}(p12:pl<=12)(m:Sz n d)(x:Sh pl n d f c)(h:TabW w n0 b bm bp bn bf pl):
    CL 76 #[QV n d,pT bn,pT bf] w (RetA λv w'=>w.grownBy w' (some b)∧TabW w' n0 b bm bp bn bf pl∧v=IV f (tenI pl) c (tenI pl)):=
  (tshare_sh p12 m x h.hm h.hp h.hn h.hf h.mp h.tb).mono λe W' hr=>by
    match e,hr with
    | .returned v,⟨g,hm,hv⟩=>exact⟨g,h.gr g hm,hv⟩
end
theorem minFuncN_ok {A:Option Addr}{n cp lo:Nat}{l:List R}{M:Nat->R}{k:Nat->Int}{w:World}(hr:Rw w lo A (cellsR l))(hn:l.length=n)(h1:1<=n)(hb:n<=1000)(hM1:M 1=rAt l 0)(hM:∀i,1<=i->i<n->M (i+1)=mnR (decide (k i<0)) (M i) (rAt l i))(hc:∀i,1<=i->i<n->∀W,Ext w W->CL 21 #[.agg #[S (rAt l i).1,S (rAt l i).2],.agg #[S (M i).1,S (M i).2]] W (Ret W λv _=>v=.int .i64 (k i))):
    CL 101 #[.slice A n cp,.func (.func 21) #[] #[]] w (Ret w λv w'=>v=.agg #[S (M n).1,S (M n).2]):=by
 obtain⟨bk0,o0,hA0,hcs0⟩:=rw_pair hr (i:=0) om;refine f_in Tryz.func101 rfl ?_;refine go ?_;refine al inf36 (λaoo ao2 r8=>?_);have aom:=ao2.2;refine go ?_;refine l_op (k_indexAddr (i:=0) (oo:=o0+0*2) U23 sz36 rfl hA0 rfl om rfl ?_);refine l_op (k_loadA (cs:=[S (rAt l 0).1,S (rAt l 0).2]) (b:=bk0) (o:=o0+0*2) U36 rfl sz36 rfl (λj u hj=>Ext.cell aom (hcs0 j u hj)) ?_);refine al inf36 (λ_ aow ao3=>?_);have⟨r8,aom⟩:=be1 aow.2 r8 aom;refine SA ao3 (λao4 aoq sc=>?_);have⟨r8,aom,_⟩:=pl1 aoq r8 aom;refine go ?_;refine c_lp [(6,6),(14,31)] (λkk e W=>∃i:Nat,(n-i=kk)∧(e 6=.int .i64 i)∧(1<=i∧i<=n)∧(ao4.heap.size<=W.heap.size)∧(Ext w W)∧(Blk W (w.heap.size) 25 #[S ([]),S ([])])∧(Blk W (aoo.heap.size) 25 #[S ((M i).1),S ((M i).2)])) (n-1) ⟨1,rfl,rfl,om,(Nat.le_refl _),aom,r8,(by rw[hM1];exact sc)⟩ ?_;rintro _ _ _ ⟨i,rfl,aon,hi,apc,aol,r8,sc⟩;have apd:=bz aol;by_cases h0:i<n;obtain⟨bk1,o1,hA1,hcs1⟩:=rw_pair hr (i:=i) om;refine go ?_;refine c_an 6 ?_;refine sf ?_;refine sf_ap (λ_ _ _ _=>by refine l_op (k_indexAddr (i:=i) (oo:=o1+i*2) U23 sz36 rfl hA1 rfl om rfl ?_);refine go ?_;exact finp) ?_;refine sf_ap (λ_ _ aor _=>by refine l_op (k_loadA (cs:=[S (rAt l i).1,S (rAt l i).2]) (b:=bk1) (o:=o1+i*2) U36 rfl sz36 rfl (λj u hj=>Ext.cell (xt aol aor) (hcs1 j u hj)) ?_);refine go ?_;exact finp) ?_;refine sf ?_
 intro _ _ aos _;have⟨r8,sc,aol⟩:=be2 aos.2 r8 sc aol;refine l_op (clV (vs:=[.agg #[S (rAt l i).1,S (rAt l i).2],.agg #[S (M i).1,S (M i).2]]) (lb:=[]) en49 rfl rfl (hc i om om _ aol) ?_);rintro _ _ aot rfl;have⟨r8,sc,aol⟩:=be2 aot.2 r8 sc aol;refine go ?_;by_cases aop:(k i)<0;refine go ?_;refine l_op (k_indexAddr (i:=i) (oo:=o1+i*2) U23 sz36 rfl hA1 rfl om rfl ?_);refine l_op (k_loadA (cs:=[S (rAt l i).1,S (rAt l i).2]) (b:=bk1) (o:=o1+i*2) U36 rfl sz36 rfl (λj u hj=>Ext.cell aol (hcs1 j u hj)) ?_);refine SA sc (λ_ aou ao5=>?_);have⟨r8,aol,_⟩:=pl1 aou r8 aol;refine go ?_;refine l_op (k_add (a:=(i:Int)) (b:=1) (c:=((i+1:Nat):Int)) rfl rfl (by unfold In64;omega) om ?_);refine go ?_;exact lend ⟨i+1,rfl,rfl,om,om,aol,r8,(by rw[hM i om om,mn_t (decide_eq_true aop)];exact ao5)⟩;refine go ?_;refine l_op (k_add (a:=(i:Int)) (b:=1) (c:=((i+1:Nat):Int)) rfl rfl (by unfold In64;omega) om ?_);refine go ?_;exact lend ⟨i+1,rfl,rfl,om,om,aol,r8,(by rw[hM i om om,mn_f (decide_eq_false aop)];exact sc)⟩;obtain rfl:i=n:=by omega
 refine go ?_;refine SA r8 (λ_ aov ao6=>?_);have⟨sc,aol,_⟩:=pl1 aov sc aol;refine go ?_;refine f_out (v:=.agg #[S ((M i).1),S ((M i).2)]) (res1  rfl ?_) aol rfl;refine res_cellA (t:=4) (cs:=[S ((M i).1),S ((M i).2)]) (b:=w.heap.size) (o:=0) U36 rfl sz36 ?_ ?_;exact rfl;exact Blk.cells ao6 (i:=0) rfl
theorem maxFuncN_ok {A:Option Addr}{n cp lo:Nat}{l:List R}{M:Nat->R}{k:Nat->Int}{w:World}(hr:Rw w lo A (cellsR l))(hn:l.length=n)(h1:1<=n)(hb:n<=1000)(hM1:M 1=rAt l 0)(hM:∀i,1<=i->i<n->M (i+1)=mnR (decide (0<k i)) (M i) (rAt l i))(hc:∀i,1<=i->i<n->∀W,Ext w W->CL 21 #[.agg #[S (rAt l i).1,S (rAt l i).2],.agg #[S (M i).1,S (M i).2]] W (Ret W λv _=>v=.int .i64 (k i))):
    CL 128 #[.slice A n cp,.func (.func 21) #[] #[]] w (Ret w λv w'=>v=.agg #[S (M n).1,S (M n).2]):=by
 obtain⟨bk0,o0,hA0,hcs0⟩:=rw_pair hr (i:=0) om;refine f_in Tryz.func128 rfl ?_;refine go ?_;refine al inf36 (λaoo ao2 r8=>?_);have aom:=ao2.2;refine go ?_;refine l_op (k_indexAddr (i:=0) (oo:=o0+0*2) U23 sz36 rfl hA0 rfl om rfl ?_);refine l_op (k_loadA (cs:=[S (rAt l 0).1,S (rAt l 0).2]) (b:=bk0) (o:=o0+0*2) U36 rfl sz36 rfl (λj u hj=>Ext.cell aom (hcs0 j u hj)) ?_);refine al inf36 (λ_ aow ao3=>?_);have⟨r8,aom⟩:=be1 aow.2 r8 aom;refine SA ao3 (λao4 aoq sc=>?_);have⟨r8,aom,_⟩:=pl1 aoq r8 aom;refine go ?_;refine c_lp [(6,6),(14,31)] (λkk e W=>∃i:Nat,(n-i=kk)∧(e 6=.int .i64 i)∧(1<=i∧i<=n)∧(ao4.heap.size<=W.heap.size)∧(Ext w W)∧(Blk W (w.heap.size) 25 #[S ([]),S ([])])∧(Blk W (aoo.heap.size) 25 #[S ((M i).1),S ((M i).2)])) (n-1) ⟨1,rfl,rfl,om,(Nat.le_refl _),aom,r8,(by rw[hM1];exact sc)⟩ ?_;rintro _ _ _ ⟨i,rfl,aon,hi,apc,aol,r8,sc⟩;have apd:=bz aol;by_cases h0:i<n;obtain⟨bk1,o1,hA1,hcs1⟩:=rw_pair hr (i:=i) om;refine go ?_;refine c_an 6 ?_;refine sf ?_;refine sf_ap (λ_ _ _ _=>by refine l_op (k_indexAddr (i:=i) (oo:=o1+i*2) U23 sz36 rfl hA1 rfl om rfl ?_);refine go ?_;exact finp) ?_;refine sf_ap (λ_ _ aor _=>by refine l_op (k_loadA (cs:=[S (rAt l i).1,S (rAt l i).2]) (b:=bk1) (o:=o1+i*2) U36 rfl sz36 rfl (λj u hj=>Ext.cell (xt aol aor) (hcs1 j u hj)) ?_);refine go ?_;exact finp) ?_;refine sf ?_
 intro _ _ aos _;have⟨r8,sc,aol⟩:=be2 aos.2 r8 sc aol;refine l_op (clV (vs:=[.agg #[S (rAt l i).1,S (rAt l i).2],.agg #[S (M i).1,S (M i).2]]) (lb:=[]) en49 rfl rfl (hc i om om _ aol) ?_);rintro _ _ aot rfl;have⟨r8,sc,aol⟩:=be2 aot.2 r8 sc aol;refine go ?_;by_cases aop:0<(k i);refine go ?_;refine l_op (k_indexAddr (i:=i) (oo:=o1+i*2) U23 sz36 rfl hA1 rfl om rfl ?_);refine l_op (k_loadA (cs:=[S (rAt l i).1,S (rAt l i).2]) (b:=bk1) (o:=o1+i*2) U36 rfl sz36 rfl (λj u hj=>Ext.cell aol (hcs1 j u hj)) ?_);refine SA sc (λ_ aou ao5=>?_);have⟨r8,aol,_⟩:=pl1 aou r8 aol;refine go ?_;refine l_op (k_add (a:=(i:Int)) (b:=1) (c:=((i+1:Nat):Int)) rfl rfl (by unfold In64;omega) om ?_);refine go ?_;exact lend ⟨i+1,rfl,rfl,om,om,aol,r8,(by rw[hM i om om,mn_t (decide_eq_true aop)];exact ao5)⟩;refine go ?_;refine l_op (k_add (a:=(i:Int)) (b:=1) (c:=((i+1:Nat):Int)) rfl rfl (by unfold In64;omega) om ?_);refine go ?_;exact lend ⟨i+1,rfl,rfl,om,om,aol,r8,(by rw[hM i om om,mn_f (decide_eq_false aop)];exact sc)⟩;obtain rfl:i=n:=by omega
 refine go ?_;refine SA r8 (λ_ aov ao6=>?_);have⟨sc,aol,_⟩:=pl1 aov sc aol;refine go ?_;refine f_out (v:=.agg #[S ((M i).1),S ((M i).2)]) (res1  rfl ?_) aol rfl;refine res_cellA (t:=4) (cs:=[S ((M i).1),S ((M i).2)]) (b:=w.heap.size) (o:=0) U36 rfl sz36 ?_ ?_;exact rfl;exact Blk.cells ao6 (i:=0) rfl
theorem krRj2 {p:Prop}(h:p:=by kernel_rfl):p:=h
theorem erRj2 {w:World}:Ext w w:=Ext.refl _
theorem mx_T {x y T:Int}(hT:0<T):maxQ 0 1 (x*T-y*T) (T*T)=qR (max 0 (x-y)) T:=by
  have hTT:=Int.mul_pos hT hT
  unfold maxQ
  by_cases h:0<x-y
  · rw[mn_t (decide_eq_true (cmpI_gt0 ?_)),show max 0 (x-y)=x-y by omega]
    · exact qR_congr hTT hT (by grind)
    · rw[Int.zero_mul,Int.mul_one,<-Int.sub_mul];exact Int.mul_pos h hT
  · rw[mn_f (decide_eq_false (cmpI_ngt ?_)),show max 0 (x-y)=0 by omega]
    · exact qR_congr dc hT om
    · rw[Int.zero_mul,Int.mul_one,<-Int.sub_mul]
      intro k
      have:=Int.mul_le_mul_of_nonneg_right (show x-y<=0 by omega) (Int.le_of_lt hT)
      omega
theorem q9_TT {x y T:Int}(h1:x.natAbs<=10^12)(h2:y.natAbs<=10^12)(h0:0<T)(h3:T<=10^12):Q9 (x*T-y*T) (T*T):=by
  have e1:(x*T-y*T).natAbs<=10^13*10^12:=by
    rw[<-Int.sub_mul,Int.natAbs_mul]
    exact Nat.mul_le_mul om om
  have e2:(T*T).natAbs<=10^12*10^12:=by
    rw[Int.natAbs_mul]
    exact Nat.mul_le_mul om om
  refine⟨Nat.lt_of_le_of_lt e1 dc,Int.mul_pos h0 h0,?_⟩
  have:0<=T*T:=Int.le_of_lt (Int.mul_pos h0 h0)
  omega
theorem qzer:Q9 0 1:=⟨by decide,by decide,by decide⟩
theorem qone:Q9 1 1:=⟨by decide,by decide,by decide⟩
set_option maxRecDepth 100000 in
theorem mass_ok {xa xb ya yb va vb sa sb n1 d1 n2 d2 f1 c1 f2 c2:Int}{n0 b bm bp bn bf pl:Nat}{w:World}(p12:pl<=12)(hT0:0<tenI pl)(qx:Q9 xa xb)(qy:Q9 ya yb)(qv:Q9 va vb)(qs:Q9 sa sb)(hs0:0<sa)(r1:Q9 (ya*vb-va*yb) (yb*vb))(r2:Q9 (xa*vb-va*xb) (xb*vb))(e1:qR ((ya*vb-va*yb)*sb) (yb*vb*sa)=qR n1 d1)(e2:qR ((xa*vb-va*xb)*sb) (xb*vb*sa)=qR n2 d2)(m1:Sz n1 d1)(m2:Sz n2 d2)(x1:Sh pl n1 d1 f1 c1)(x2:Sh pl n2 d2 f2 c2)(qf1:Q9 f1 (tenI pl))(qc1:Q9 c1 (tenI pl))(qf2:Q9 f2 (tenI pl))(qc2:Q9 c2 (tenI pl))(qA:Q9 (f1*tenI pl-c2*tenI pl) (tenI pl*tenI pl))(qB:Q9 (c1*tenI pl-f2*tenI pl) (tenI pl*tenI pl))(hT:TabW w n0 b bm bp bn bf pl)(hn0:n0<=w.heap.size):
    CL 38 #[.agg #[.int .i64 pl,.func (.func 76) #[] #[pT bn,pT bf]],IV xa xb ya yb,QV va vb,QV sa sb] w (RetA λv w'=>w.grownBy w' (some b)∧TabW w' n0 b bm bp bn bf pl∧v=IV (max 0 (f1-c2)) (tenI pl) (max 0 (c1-f2)) (tenI pl)):=by
 have G:=World.grownBy.refl w (some b);have zm:=hT.lt;refine f_inA Tryz.func38 rfl ?_;refine go ?_;refine bx (λapa arf r8=>?_);have hT:=TabW.ext arf.2 hT;have G:=gb_ext G arf.2;refine bx (λ_ aqm sc=>?_);have hT:=TabW.ext aqm.2 hT;have r8:=be aqm.2 r8;have G:=gb_ext G aqm.2;refine bx (λ_ apy aol=>?_);have hT:=TabW.ext apy.2 hT;have⟨r8,sc⟩:=bf2 apy.2 r8 sc;have G:=gb_ext G apy.2;refine bx (λaqn apq aom=>?_);have hT:=TabW.ext apq.2 hT;have⟨r8,sc,aol⟩:=bf3 apq.2 r8 sc aol;have G:=gb_ext G apq.2;refine al inf1032 (λapd ape aoo=>?_);have hT:=TabW.ext ape.2 hT;have⟨r8,sc,aol,aom⟩:=bf4 ape.2 r8 sc aol aom;have G:=gb_ext G ape.2;refine go ?_
 refine c_dv hmix 18 [9,10,11,12,13,14,15,16,17,18,19,20,21,22,23,24,25,26] [some (11,.pointer (some ⟨w.heap.size,1,none⟩)),some (12,.func (.func 76) #[] #[pT bn,pT bf]),some (13,.pointer (some ⟨apa.heap.size,2,none⟩)),some (14,QV ya yb),some (15,QV va vb),some (16,QV sa sb),some (17,QV n1 d1),some (18,IV f1 (tenI pl) c1 (tenI pl)),some (19,.pointer (some ⟨w.heap.size,1,none⟩)),some (20,.func (.func 76) #[] #[pT bn,pT bf]),some (21,pT apa.heap.size),some (22,QV xa xb),some (23,QV va vb),some (24,QV sa sb),some (25,QV n2 d2),some (26,IV f2 (tenI pl) c2 (tenI pl)),none,none] (XK (XH (λW=>apd.grownBy W (some b)∧TabW W n0 b bm bp bn bf pl) apd.heap.size 16 9 33 #[S ([]),S ([]),S ([]),S ([])]) apd.heap.size 16 9 17 10 33 #[S ([]),S ([]),S ([]),S ([])]) (XK.start (XH.start ⟨gb_ext (World.grownBy.refl apd _) (Ext.drew apd),TabW.ext (Ext.drew apd) hT⟩)) krRj2 krRj2 krRj2 ?_ ?_;refine⟨λavc _ _ asg _ aqo _ _ _=>?_,?_⟩;obtain⟨avc,rfl⟩:=ovE asg;refine l_op (k_fieldAddr (b:=w.heap.size) (o:=0) (off:=1) (oo:=1) U2141 rfl rfl sz1040 rfl rfl ?_);refine go ?_;exact dvK (dvHx rfl aqo.1 aqo.1.1 erRj2) aqo (λb _ h=>h);refine⟨λash _ _ avl asi apz _ _ _=>?_,?_⟩;obtain⟨ash,rfl⟩:=ovE avl;have asj:=zpv (asi 0 _ _ rfl rfl);have ask:=(Blk.gr apz.1.1.1 (by simp;omega) r8);refine go ?_
 exact dvK (dvHx rfl apz.1 apz.1.1 erRj2) apz (λb _ h=>h);refine⟨λavp _ _ asl _ aqp _ _ _=>?_,?_⟩;obtain⟨avp,rfl⟩:=ovE asl;refine go ?_;exact dvK (dvHx rfl aqp.1 aqp.1.1 erRj2) aqp (λb _ h=>h);refine⟨λasm _ _ avy aso ap0 _ _ _=>?_,?_⟩;obtain⟨asm,rfl⟩:=ovE avy;have asp:=zpv (aso 2 _ _ rfl rfl);have asq:=(Blk.gr ap0.1.1.1 (by simp;omega) sc);refine go ?_;exact dvK (dvHx rfl ap0.1 ap0.1.1 erRj2) ap0 (λb _ h=>h);refine⟨λav2 _ _ asr _ ap1 _ _ _=>?_,?_⟩;obtain⟨av2,rfl⟩:=ovE asr;have ass:=(Blk.gr ap1.1.1.1 (by simp;omega) aol);refine go ?_;exact dvK (dvHx rfl ap1.1 ap1.1.1 erRj2) ap1 (λb _ h=>h);refine⟨λav9 _ _ ast _ ap2 _ _ _=>?_,?_⟩;obtain⟨av9,rfl⟩:=ovE ast;have asu:=(Blk.gr ap2.1.1.1 (by simp;omega) aom);refine go ?_;exact dvK (dvHx rfl ap2.1 ap2.1.1 erRj2) ap2 (λb _ h=>h);refine⟨λaqq _ _ awi aqr apf _ _ _=>?_,?_⟩;obtain⟨aqq,rfl⟩:=ovE awi;have asv:=zpv (aqr 3 _ _ rfl rfl);have asw:=zpv (aqr 4 _ _ rfl rfl);have asx:=zpv (aqr 5 _ _ rfl rfl);have hT:=apf.1.1.2;have G:=gb_trans G apf.1.1.1;refine clb en2105 (hc:=cEq (Y:=QV n1 d1) (scaled_ok qy qv qs r1 hs0 (TabW.tb hT)) (by rw[e1])) (hk:=?_) (hv:=cons_eq asv (cons_eq asw (cons_eq asx rfl)));rintro _ _ apg rfl;have G:=gb_ext G apg.2;refine go ?_
 exact dvK (dvHx rfl apf.1 ⟨gb_ext apf.1.1.1 apg.2,TabW.ext apg.2 apf.1.1.2⟩ apg.2) apf (λb _ h=>be apg.2 h);refine⟨λarj _ _ awq ark aop _ _ _=>?_,?_⟩;obtain⟨arj,rfl⟩:=ovE awq;have asy:=zpv (ark 1 _ _ rfl rfl);have asz:=zpv (ark 6 _ _ rfl rfl);have r8:=(Blk.gr aop.1.1.1 (by simp;omega) r8);have sc:=(Blk.gr aop.1.1.1 (by simp;omega) sc);have aol:=(Blk.gr aop.1.1.1 (by simp;omega) aol);have aom:=(Blk.gr aop.1.1.1 (by simp;omega) aom);have aoo:=(Blk.gr aop.1.1.1 (by simp;omega) aoo);have hT:=aop.1.1.2;have as0:=bt r8;have as1:=bt sc;have as2:=bt aol;have as3:=bt aom;have as4:=bt aoo;have awu:=aop.1.1.1.size;have G:=gb_trans G aop.1.1.1;refine l_op (k_callVA (vs:=[QV n1 d1]) (lb:=[pT bn,pT bf]) en2150 asy (cons_eq asz rfl) (tshare_tw p12 m1 x1 hT) ?_);rintro _ _ ⟨aos,as5,rfl⟩;have G:=gb_trans G aos;have awx:=aos.size;refine go ?_;exact dvK (dvH rfl aop.1 ⟨gb_trans aop.1.1.1 aos,as5⟩ aos (λg hgg=>by cases hgg;omega)) aop (λb hb h=>Blk.gr aos (by simp;omega) h);refine⟨λawy _ _ as6 _ aqs _ _ _=>?_,?_⟩;obtain⟨awy,rfl⟩:=ovE as6;refine l_op (k_fieldAddr (b:=w.heap.size) (o:=0) (off:=1) (oo:=1) U2141 rfl rfl sz1040 rfl rfl ?_);refine go ?_;exact dvK (dvHx rfl aqs.1 aqs.1.1 erRj2) aqs (λb _ h=>h);refine⟨λas7 _ _ aw7 as8 ap3 _ _ _=>?_,?_⟩;obtain⟨as7,rfl⟩:=ovE aw7;have as9:=zpv (as8 8 _ _ rfl rfl)
 have ata:=(Blk.gr ap3.1.1.1 (by simp;omega) r8);refine go ?_;exact dvK (dvHx rfl ap3.1 ap3.1.1 erRj2) ap3 (λb _ h=>h);refine⟨λaxb _ _ atb _ aqt _ _ _=>?_,?_⟩;obtain⟨axb,rfl⟩:=ovE atb;refine go ?_;exact dvK (dvHx rfl aqt.1 aqt.1.1 erRj2) aqt (λb _ h=>h);refine⟨λatc _ _ axk atd ap4 _ _ _=>?_,?_⟩;obtain⟨atc,rfl⟩:=ovE axk;have ate:=zpv (atd 10 _ _ rfl rfl);have atf:=(Blk.gr ap4.1.1.1 (by simp;omega) sc);refine go ?_;exact dvK (dvHx rfl ap4.1 ap4.1.1 erRj2) ap4 (λb _ h=>h);refine⟨λaxo _ _ atg _ ap5 _ _ _=>?_,?_⟩;obtain⟨axo,rfl⟩:=ovE atg;have ath:=(Blk.gr ap5.1.1.1 (by simp;omega) aol);refine go ?_;exact dvK (dvHx rfl ap5.1 ap5.1.1 erRj2) ap5 (λb _ h=>h);refine⟨λaxv _ _ ati _ ap6 _ _ _=>?_,?_⟩;obtain⟨axv,rfl⟩:=ovE ati;have atj:=(Blk.gr ap6.1.1.1 (by simp;omega) aom);refine go ?_;exact dvK (dvHx rfl ap6.1 ap6.1.1 erRj2) ap6 (λb _ h=>h);refine⟨λaqu _ _ ax4 aqv aph _ _ _=>?_,?_⟩;obtain⟨aqu,rfl⟩:=ovE ax4;have atk:=zpv (aqv 11 _ _ rfl rfl);have atl:=zpv (aqv 12 _ _ rfl rfl);have atm:=zpv (aqv 13 _ _ rfl rfl);have hT:=aph.1.1.2;have G:=gb_trans G aph.1.1.1;refine clb en2105 (hc:=cEq (Y:=QV n2 d2) (scaled_ok qx qv qs r2 hs0 (TabW.tb hT)) (by rw[e2])) (hk:=?_) (hv:=cons_eq atk (cons_eq atl (cons_eq atm rfl)));rintro _ _ api rfl;have G:=gb_ext G api.2;refine go ?_
 exact dvK (dvHx rfl aph.1 ⟨gb_ext aph.1.1.1 api.2,TabW.ext api.2 aph.1.1.2⟩ api.2) aph (λb _ h=>be api.2 h);refine⟨λarl _ _ ayc arm aoq _ _ _=>?_,?_⟩;obtain⟨arl,rfl⟩:=ovE ayc;have atn:=zpv (arm 9 _ _ rfl rfl);have ato:=zpv (arm 14 _ _ rfl rfl);have r8:=(Blk.gr aoq.1.1.1 (by simp;omega) r8);have sc:=(Blk.gr aoq.1.1.1 (by simp;omega) sc);have aol:=(Blk.gr aoq.1.1.1 (by simp;omega) aol);have aom:=(Blk.gr aoq.1.1.1 (by simp;omega) aom);have aoo:=(Blk.gr aoq.1.1.1 (by simp;omega) aoo);have hT:=aoq.1.1.2;have as0:=bt r8;have as1:=bt sc;have as2:=bt aol;have as3:=bt aom;have as4:=bt aoo;have ayg:=aoq.1.1.1.size;have G:=gb_trans G aoq.1.1.1;refine l_op (k_callVA (vs:=[QV n2 d2]) (lb:=[pT bn,pT bf]) en2150 atn (cons_eq ato rfl) (tshare_tw p12 m2 x2 hT) ?_);rintro _ _ ⟨aot,atp,rfl⟩;have G:=gb_trans G aot;have ayj:=aot.size;refine go ?_;exact dvK (dvH rfl aoq.1 ⟨gb_trans aoq.1.1.1 aot,atp⟩ aot (λg hgg=>by cases hgg;omega)) aoq (λb hb h=>Blk.gr aot (by simp;omega) h);refine⟨λayk _ _ ayn _ apr _ _ _=>?_,?_⟩;obtain⟨ayk,rfl⟩:=ovE ayn;have G:=gb_trans G apr.1.1.1;refine al inf1032 (λ_ aps atq=>?_);have G:=gb_ext G aps.2;refine go ?_;exact dvK1 rfl (XH.new apr.1 ⟨gb_ext apr.1.1.1 aps.2,TabW.ext aps.2 apr.1.1.2⟩ aps.2 atq) apr (λb _ h=>be aps.2 h);refine⟨λayt _ _ ayw _ apj _ _ _=>?_,?_⟩;obtain⟨ayt,rfl⟩:=ovE ayw;have G:=gb_trans G apj.1.1.1
 refine al inf1032 (λ_ ap7 atr=>?_);have G:=gb_ext G ap7.2;refine go ?_;exact dvKa rfl (XH.keep apj.1 ⟨gb_ext apj.1.1.1 ap7.2,TabW.ext ap7.2 apj.1.1.2⟩ ap7.2) apj.1.2.1 atr (XH.ne apj.1);exact trivial;intro ap8 _ _ aqw att arn aou;obtain⟨ap8,rfl⟩:=ovE att;have aor:=aou.1.1.2;have apk:=(Blk.gr aou.1.1.1 (by simp;omega) r8);have ay4:=bt apk;have apl:=(Blk.gr aou.1.1.1 (by simp;omega) sc);have ay5:=bt apl;have apm:=(Blk.gr aou.1.1.1 (by simp;omega) aol);have ay6:=bt apm;have apn:=(Blk.gr aou.1.1.1 (by simp;omega) aom);have ay7:=bt apn;have apo:=(Blk.gr aou.1.1.1 (by simp;omega) aoo);have ay8:=bt apo;have ay9:=aou.1.1.1.size;have G:=gb_trans G aou.1.1.1;obtain⟨aov,ap9,_,aro⟩:=aou.1.2.2 (aqw 16 rfl);obtain⟨aow,aqx,_,aqa,arp⟩:=aou.2 (aqw 17 rfl);have arp:=ptr_ne ap9 (arp (aqw 16 rfl));have aqx:=zpv aqx;have ap9:=zpv ap9;have azc:=bt aro;have azd:=bt aqa;have aqy:ap8 9=pT aov:=(ap9);have atu:=zpv (arn 7 _ _ rfl rfl);refine SA aro (λ_ ao0 apt=>?_);have aor:=TabW.put ao0 om aor;have⟨apk,apl,apm,apn,apo⟩:=pf5 ao0 apk apl apm apn apo;have aqa:=pb ao0 aqa;have G:=gb_putn G ao0 om;have azf:=psz ao0;have aqz:ap8 10=pT aow:=(aqx);have atv:=zpv (arn 15 _ _ rfl rfl);refine SA aqa (λaq0 ao1 aq1=>?_);have aor:=TabW.put ao1 om aor;have⟨apk,apl,apm,apn,apo⟩:=pf5 ao1 apk apl apm apn apo;have apt:=pb ao1 apt;have G:=gb_putn G ao1 om;have azg:=psz ao1;refine go ?_
 have apb:=Ext.refl aq0;refine c_dv hmix 19 [27,28,29,30,31,32,33,34,35,36,37,38,39,40,41,42,43,44,45] [some (27,QV 0 1),some (28,pT aov),some (29,QV f1 (tenI pl)),some (30,.pointer (some ⟨aow,2,none⟩)),some (31,QV c2 (tenI pl)),some (32,.tuple #[QV (f1*tenI pl-c2*tenI pl) (tenI pl*tenI pl),.int .i64 0]),some (33,QV (f1*tenI pl-c2*tenI pl) (tenI pl*tenI pl)),some (34,.int .i64 0),some (35,QV (f1*tenI pl-c2*tenI pl) (tenI pl*tenI pl)),none,some (37,QV (max 0 (f1-c2)) (tenI pl)),some (38,QV 0 1),some (39,.pointer (some ⟨aov,2,none⟩)),some (40,QV c1 (tenI pl)),some (41,pT aow),some (42,QV f2 (tenI pl)),some (43,.tuple #[QV (c1*tenI pl-f2*tenI pl) (tenI pl*tenI pl),.int .i64 0]),some (44,QV (c1*tenI pl-f2*tenI pl) (tenI pl*tenI pl)),some (45,.int .i64 0)] (XB (XE aq0) 9 36 25 2 #[S (qR 0 1).1,S (qR 0 1).2,S ((qR (f1*tenI pl-c2*tenI pl) (tenI pl*tenI pl)).1),S ((qR (f1*tenI pl-c2*tenI pl) (tenI pl*tenI pl)).2)]) (XB.start (Ext.drew aq0)) krRj2 krRj2 krRj2 ?_ ?_;refine⟨λazh _ _ azk _ aqb _ _ _=>?_,?_⟩;obtain⟨azh,rfl⟩:=ovE azk;have aq2:=(TabW.ext aqb.1 aor);refine clb en2107 (hc:=whole_ok (n:=0) (by unfold In64;decide) (TabW.tb aq2)) (hk:=?_);rintro _ _ aqc rfl;refine go ?_;exact dvB (dvE rfl aqb.1 aqc.2) aqb (λ_ h=>be aqc.2 h)
 refine⟨λazr _ _ atw _ arr _ _ _=>?_,?_⟩;obtain⟨azr,rfl⟩:=ovE atw;refine go ?_;exact dvB (dvE rfl arr.1 erRj2) arr (λ_ h=>be erRj2 h);refine⟨λatx _ _ az0 aty aq3 _ _ _=>?_,?_⟩;obtain⟨atx,rfl⟩:=ovE az0;have atz:=zpv (aty 1 _ _ rfl rfl);have at0:=(be aq3.1 apt);refine go ?_;exact dvB (dvE rfl aq3.1 erRj2) aq3 (λ_ h=>be erRj2 h);refine⟨λaz4 _ _ at1 _ ars _ _ _=>?_,?_⟩;obtain⟨az4,rfl⟩:=ovE at1;refine go ?_;exact dvB (dvE rfl ars.1 erRj2) ars (λ_ h=>be erRj2 h);refine⟨λat2 _ _ a0d at3 aq4 _ _ _=>?_,?_⟩;obtain⟨at2,rfl⟩:=ovE a0d;have at4:=zpv (at3 3 _ _ rfl rfl);have at6:=(be aq4.1 aq1);refine go ?_;exact dvB (dvE rfl aq4.1 erRj2) aq4 (λ_ h=>be erRj2 h);refine⟨λart _ _ a0j aru aqd _ _ _=>?_,?_⟩;obtain⟨art,rfl⟩:=ovE a0j;have at7:=zpv (aru 2 _ _ rfl rfl);have at8:=zpv (aru 4 _ _ rfl rfl);have aq5:=(TabW.ext aqd.1 aor);refine cl en220 (qSubX qf1 qc2 (TabW.tb aq5)) ?_ (cons_eq at7 (cons_eq at8 rfl));rintro _ _ aqe rfl;refine go ?_;exact dvB (dvE rfl aqd.1 aqe.2) aqd (λ_ h=>be aqe.2 h);refine⟨λat9 _ _ a0r aua arw _ _ _=>?_,?_⟩;obtain⟨at9,rfl⟩:=ovE a0r;have aub:=zpv (aua 5 _ _ rfl rfl);refine go ?_;exact dvB (dvE rfl arw.1 erRj2) arw (λ_ h=>be erRj2 h);refine⟨λauc _ _ a0x aud arx _ _ _=>?_,?_⟩;obtain⟨auc,rfl⟩:=ovE a0x
 have aue:=zpv (aud 5 _ _ rfl rfl);refine go ?_;exact dvB (dvE rfl arx.1 erRj2) arx (λ_ h=>be erRj2 h);refine⟨λary _ _ a03 arz aqf _ _ _=>?_,?_⟩;obtain⟨ary,rfl⟩:=ovE a03;have auf:=zpv (arz 6 _ _ rfl rfl);have aug:=zpv (arz 7 _ _ rfl rfl);have ar0:=(TabW.ext aqf.1 aor);refine cl en2152 rmust_ok ?_ (cons_eq auf (cons_eq aug rfl));rintro _ _ aqg rfl;refine go ?_;exact dvB (dvE rfl aqf.1 aqg.2) aqf (λ_ h=>be aqg.2 h);refine⟨λar2 _ _ a1b ar3 ar4 _ _ _=>?_,?_⟩;obtain⟨ar2,rfl⟩:=ovE a1b;have auh:=zpv (ar3 0 _ _ rfl rfl);have aui:=zpv (ar3 8 _ _ rfl rfl);have aq6:=xt apb ar4.1;have a1f:=bz aq6;refine l_op (k_bsB (vs:=[(0,QV 0 1),(1,QV (f1*tenI pl-c2*tenI pl) (tenI pl*tenI pl))]) (cells:=#[S (qR 0 1).1,S (qR 0 1).2,S ((qR (f1*tenI pl-c2*tenI pl) (tenI pl*tenI pl)).1),S ((qR (f1*tenI pl-c2*tenI pl) (tenI pl*tenI pl)).2)]) U23 inf36 (cons_eqp auh (cons_eqp aui rfl)) dc dc krRj2 (λ_ ar5 auj=>?_));refine go ?_;exact dvBn rfl (xt ar4.1 ar5.2) auj;refine⟨λa1h _ _ a1k _ apu _ _ auk=>?_,?_⟩;obtain⟨a1h,rfl⟩:=ovE a1k;have aq7:=(TabW.ext apu.1 aor);obtain⟨_,aq8,aq9⟩:=apu.2 (auk 9 rfl);have aq8:=zpv aq8
 refine clb en2151 (hc:=cEq (Y:=QV (max 0 (f1-c2)) (tenI pl)) (most_ok (a:=0) (b:=1) (c:=f1*tenI pl-c2*tenI pl) (d:=tenI pl*tenI pl) (Rw.of_own (rw_blk (m:=2) aq9 rfl)) qzer qA (TabW.tb aq7)) (by rw[mx_T hT0])) (hk:=?_) (hv:=cons_eq aq8 rfl);rintro _ _ apv rfl;refine go ?_;exact dvB (dvE rfl apu.1 apv.2) apu (λ_ h=>be apv.2 h);refine⟨λa1q _ _ a1t _ aqh _ _ _=>?_,?_⟩;obtain⟨a1q,rfl⟩:=ovE a1t;have ara:=(TabW.ext aqh.1 aor);refine clb en2107 (hc:=whole_ok (n:=0) (by unfold In64;decide) (TabW.tb ara)) (hk:=?_);rintro _ _ aqi rfl;refine go ?_;exact dvB (dvE rfl aqh.1 aqi.2) aqh (λ_ h=>be aqi.2 h);refine⟨λa11 _ _ aum _ ar8 _ _ _=>?_,?_⟩;obtain⟨a11,rfl⟩:=ovE aum;refine go ?_;exact dvB (dvE rfl ar8.1 erRj2) ar8 (λ_ h=>be erRj2 h);refine⟨λaun _ _ a2a auo arb _ _ _=>?_,?_⟩;obtain⟨aun,rfl⟩:=ovE a2a;have aup:=zpv (auo 12 _ _ rfl rfl);have auq:=(be arb.1 apt);refine go ?_;exact dvB (dvE rfl arb.1 erRj2) arb (λ_ h=>be erRj2 h);refine⟨λa2e _ _ aur _ ar9 _ _ _=>?_,?_⟩;obtain⟨a2e,rfl⟩:=ovE aur;refine go ?_;exact dvB (dvE rfl ar9.1 erRj2) ar9 (λ_ h=>be erRj2 h);refine⟨λaus _ _ a2n aut arc _ _ _=>?_,?_⟩;obtain⟨aus,rfl⟩:=ovE a2n;have auu:=zpv (aut 14 _ _ rfl rfl);have auv:=(be arc.1 aq1);refine go ?_
 exact dvB (dvE rfl arc.1 erRj2) arc (λ_ h=>be erRj2 h);refine⟨λasa _ _ a2t asb aqj _ _ _=>?_,?_⟩;obtain⟨asa,rfl⟩:=ovE a2t;have auw:=zpv (asb 13 _ _ rfl rfl);have aux:=zpv (asb 15 _ _ rfl rfl);have ard:=(TabW.ext aqj.1 aor);refine cl en220 (qSubX qc1 qf2 (TabW.tb ard)) ?_ (cons_eq auw (cons_eq aux rfl));rintro _ _ aqk rfl;refine go ?_;exact dvB (dvE rfl aqj.1 aqk.2) aqj (λ_ h=>be aqk.2 h);refine⟨λauy _ _ a23 auz asd _ _ _=>?_,?_⟩;obtain⟨auy,rfl⟩:=ovE a23;have au0:=zpv (auz 16 _ _ rfl rfl);refine go ?_;exact dvB (dvE rfl asd.1 erRj2) asd (λ_ h=>be erRj2 h);refine⟨λau1 _ _ a29 au2 ase _ _ _=>?_,?_⟩;obtain⟨au1,rfl⟩:=ovE a29;have au3:=zpv (au2 16 _ _ rfl rfl);refine go ?_;exact dvB (dvE rfl ase.1 erRj2) ase (λ_ h=>be erRj2 h);exact trivial;intro apw _ _ _ au4 aql aon;obtain⟨apw,rfl⟩:=ovE au4;have aon:=aon.1;have aox:=(TabW.ext aon aor);have ao2:=(be aon apk);have a3g:=bt ao2;have ao3:=(be aon apl);have a3h:=bt ao3;have ao4:=(be aon apm);have a3i:=bt ao4;have ao5:=(be aon apn);have a3j:=bt ao5;have apc:=(be aon apo);have a3k:=bt apc;have ao6:=(be aon apt);have a3l:=bt ao6;have ao7:=(be aon aq1);have a3m:=bt ao7;have au5:=xt apb aon;have a3n:=bz au5;have G:=gb_ext G aon;have a3o:=bz aon;have au6:=zpv (aql 17 _ _ rfl rfl);have au7:=zpv (aql 18 _ _ rfl rfl)
 refine cl en2152 rmust_ok ?_ (cons_eq au6 (cons_eq au7 rfl));rintro _ _ ao8 rfl;have aox:=TabW.ext ao8.2 aox;have⟨ao2,ao3,ao4,ao5,apc⟩:=bf5 ao8.2 ao2 ao3 ao4 ao5 apc;have⟨ao6,ao7⟩:=bf2 ao8.2 ao6 ao7;have G:=gb_ext G ao8.2;have au9:=zpv (aql 11 _ _ rfl rfl);refine l_op (k_bsB (vs:=[(0,QV 0 1),(1,QV (c1*tenI pl-f2*tenI pl) (tenI pl*tenI pl))]) (cells:=#[S (qR 0 1).1,S (qR 0 1).2,S ((qR (c1*tenI pl-f2*tenI pl) (tenI pl*tenI pl)).1),S ((qR (c1*tenI pl-f2*tenI pl) (tenI pl*tenI pl)).2)]) U23 inf36 (cons_eqp au9 (cons_eqp rfl rfl)) dc dc krRj2 (λ_ ao9 apx=>?_));have aox:=TabW.ext ao9.2 aox;have⟨ao2,ao3,ao4,ao5,apc⟩:=bf5 ao9.2 ao2 ao3 ao4 ao5 apc;have⟨ao6,ao7⟩:=bf2 ao9.2 ao6 ao7;have G:=gb_ext G ao9.2;refine clb en2151 (hc:=cEq (Y:=QV (max 0 (c1-f2)) (tenI pl)) (most_ok (a:=0) (b:=1) (c:=c1*tenI pl-f2*tenI pl) (d:=tenI pl*tenI pl) (Rw.of_own (rw_blk (m:=2) apx rfl)) qzer qB (TabW.tb aox)) (by rw[mx_T hT0])) (hk:=?_);rintro _ _ aoy rfl;have aox:=TabW.ext aoy.2 aox;have⟨ao2,ao3,ao4,ao5,apc⟩:=bf5 aoy.2 ao2 ao3 ao4 ao5 apc;have⟨ao6,ao7,apx⟩:=bf3 aoy.2 ao6 ao7 apx;have G:=gb_ext G aoy.2;have ava:=zpv (aql 10 _ _ rfl rfl)
 refine l_op (k_build (vs:=[(0,QV (max 0 (f1-c2)) (tenI pl)),(1,QV (max 0 (c1-f2)) (tenI pl))]) (cells:=#[S ((qR (max 0 (f1-c2)) (tenI pl)).1),S ((qR (max 0 (f1-c2)) (tenI pl)).2),S ((qR (max 0 (c1-f2)) (tenI pl)).1),S ((qR (max 0 (c1-f2)) (tenI pl)).2)]) (pl:=[(0,2),(2,2)]) U1032 inf1032 krRj2 (cons_eqp ava (cons_eqp rfl rfl)) krRj2 ?_);refine SA apc (λ_ aoz avb=>?_);have aox:=TabW.put aoz om aox;have⟨ao2,ao3,ao4,ao5,ao6⟩:=pf5 aoz ao2 ao3 ao4 ao5 ao6;have⟨ao7,apx⟩:=pf2 aoz ao7 apx;have G:=gb_putn G aoz om;have a3u:=psz aoz;refine go ?_;refine f_outA (v:=IV (max 0 (f1-c2)) (tenI pl) (max 0 (c1-f2)) (tenI pl)) (res1  rfl ?_) ⟨G,aox,rfl⟩;refine res_cellA (t:=8) (cs:=[S ((qR (max 0 (f1-c2)) (tenI pl)).1),S ((qR (max 0 (f1-c2)) (tenI pl)).2),S ((qR (max 0 (c1-f2)) (tenI pl)).1),S ((qR (max 0 (c1-f2)) (tenI pl)).2)]) (b:=aqn.heap.size) (o:=0) U1032 rfl sz1032 ?_ ?_;exact rfl;exact Blk.cells avb (i:=0) rfl
theorem krRj3 {p:Prop}(h:p:=by kernel_rfl):p:=h
theorem erRj3 {w:World}:Ext w w:=Ext.refl _
theorem qtwo:Q9 2 1:=⟨by decide,by decide,by decide⟩
theorem mn_TT {x y T:Int}(hT:0<T):minQ x T y T=qR (min x y) T:=by
  unfold minQ
  by_cases h:y<x
  · rw[mn_t (decide_eq_true (cmpI_lt0 (Int.mul_lt_mul_of_pos_right h hT))),show min x y=y by omega]
  · rw[mn_f (decide_eq_false (cmpI_nlt (λk=>h (Int.lt_of_mul_lt_mul_right k (Int.le_of_lt hT))))),show min x y=x by omega]
theorem mx_TT {x y T:Int}(hT:0<T):maxQ x T y T=qR (max x y) T:=by
  unfold maxQ
  by_cases h:x<y
  · rw[mn_t (decide_eq_true (cmpI_gt0 (Int.mul_lt_mul_of_pos_right h hT))),show max x y=y by omega]
  · rw[mn_f (decide_eq_false (cmpI_ngt (λk=>h (Int.lt_of_mul_lt_mul_right k (Int.le_of_lt hT))))),show max x y=x by omega]
theorem chance_ok {ma mb sa sb ea eb la lb ha hb oa ob ga gb ua ub k u:Int}{n0 b bm bp bn bf pl:Nat}{w:World}(hMs:∀W,TabW W n0 b bm bp bn bf pl->n0<=W.heap.size->CL 38 #[.agg #[.int .i64 pl,.func (.func 76) #[] #[pT bn,pT bf]],IV oa ob ga gb,QV ua ub,QV ea eb] W (RetA λv W'=>W.grownBy W' (some b)∧TabW W' n0 b bm bp bn bf pl∧v=IV k (tenI pl) u (tenI pl)))(hT:TabW w n0 b bm bp bn bf pl)(hn0:n0<=w.heap.size):
    CL 53 #[.agg #[.int .i64 pl,.func (.func 76) #[] #[pT bn,pT bf]],.agg (t7 ma mb sa sb ea eb la lb ha hb oa ob ga gb),QV ua ub] w (RetA λv w'=>w.grownBy w' (some b)∧TabW w' n0 b bm bp bn bf pl∧v=IV k (tenI pl) u (tenI pl)):=by
 have G:=World.grownBy.refl w (some b);have zm:=hT.lt;refine f_inA Tryz.func53 rfl ?_;refine go ?_;refine bx (λaom aou r8=>?_);have hT:=TabW.ext aou.2 hT;have G:=gb_ext G aou.2;refine bx (λ_ aor sc=>?_);have hT:=TabW.ext aor.2 hT;have r8:=be aor.2 r8;have G:=gb_ext G aor.2;refine bx (λaov aoq aol=>?_);have hT:=TabW.ext aoq.2 hT;have⟨r8,sc⟩:=bf2 aoq.2 r8 sc;have G:=gb_ext G aoq.2;refine al inf1032 (λ_ aop aos=>?_);have hT:=TabW.ext aop.2 hT;have⟨r8,sc,aol⟩:=bf3 aop.2 r8 sc aol;have G:=gb_ext G aop.2;refine go ?_;refine l_op (k_fieldAddr (b:=aom.heap.size) (o:=0) (off:=10) (oo:=10) U2296 rfl rfl sz36 rfl rfl ?_);refine go ?_;refine l_op (k_fieldAddr (b:=aom.heap.size) (o:=0) (off:=12) (oo:=12) U2296 rfl rfl sz36 rfl rfl ?_);refine go ?_;refine l_op (k_build (vs:=[(0,QV oa ob),(1,QV ga gb)]) (cells:=#[S (qR oa ob).1,S (qR oa ob).2,S (qR ga gb).1,S (qR ga gb).2]) (pl:=[(0,2),(2,2)]) U1032 inf1032 krRj3 rfl krRj3 ?_);refine go ?_;refine l_op (k_fieldAddr (b:=aom.heap.size) (o:=0) (off:=4) (oo:=4) U2296 rfl rfl sz36 rfl rfl ?_);refine go ?_;refine l_op (k_callA (vs:=[.agg #[.int .i64 pl,.func (.func 76) #[] #[pT bn,pT bf]],IV oa ob ga gb,QV ua ub,QV ea eb]) en3038 rfl (hMs _ hT om) ?_);rintro _ _ ⟨aon,aot,rfl⟩;have r8:=Blk.gr aon (by simp;omega) r8;have sc:=Blk.gr aon (by simp;omega) sc;have aol:=Blk.gr aon (by simp;omega) aol
 have aos:=Blk.gr aon (by simp;omega) aos;have G:=gb_trans G aon;have ao1:=aon.size;refine SA aos (λ_ aoo aox=>?_);have aot:=TabW.put aoo om aot;have⟨r8,sc,aol⟩:=pf3 aoo r8 sc aol;have G:=gb_putn G aoo om;have ao3:=psz aoo;refine go ?_;refine f_outA (v:=IV k (tenI pl) u (tenI pl)) (res1  rfl ?_) ⟨G,aot,rfl⟩;refine res_cellA (t:=6) (cs:=[S ((qR k (tenI pl)).1),S ((qR k (tenI pl)).2),S ((qR u (tenI pl)).1),S ((qR u (tenI pl)).2)]) (b:=aov.heap.size) (o:=0) U1032 rfl sz1032 ?_ ?_;exact rfl;exact Blk.cells aox (i:=0) rfl
theorem bounds_ok {ma mb sa sb ea eb la lb ha hb oa ob ga gb xa xb ya yb k1 u1 k2 u2 k3 u3 ta tb_ ca cb bh:Int}{ins:Bool}{n0 b bm bp bn bf pl:Nat}{w:World}(hT0:0<tenI pl)(hC1:∀W,TabW W n0 b bm bp bn bf pl->n0<=W.heap.size->CL 53 #[.agg #[.int .i64 pl,.func (.func 76) #[] #[pT bn,pT bf]],.agg (t7 ma mb sa sb ea eb la lb ha hb oa ob ga gb),QV xa xb] W (RetA λv W'=>W.grownBy W' (some b)∧TabW W' n0 b bm bp bn bf pl∧v=IV k1 (tenI pl) u1 (tenI pl)))(hC2:∀W,TabW W n0 b bm bp bn bf pl->n0<=W.heap.size->CL 53 #[.agg #[.int .i64 pl,.func (.func 76) #[] #[pT bn,pT bf]],.agg (t7 ma mb sa sb ea eb la lb ha hb oa ob ga gb),QV ya yb] W (RetA λv W'=>W.grownBy W' (some b)∧TabW W' n0 b bm bp bn bf pl∧v=IV k2 (tenI pl) u2 (tenI pl)))(hq3:ins=true->True)(hC3:∀W,TabW W n0 b bm bp bn bf pl->n0<=W.heap.size->CL 53 #[.agg #[.int .i64 pl,.func (.func 76) #[] #[pT bn,pT bf]],.agg (t7 ma mb sa sb ea eb la lb ha hb oa ob ga gb),QV ca cb] W (RetA λv W'=>W.grownBy W' (some b)∧TabW W' n0 b bm bp bn bf pl∧v=IV k3 (tenI pl) u3 (tenI pl)))(hCo:∀W,Tb W->CL 64 #[IV xa xb ya yb,QV ca cb] W (Ret W λv _=>v=.bool ins))(qo:Q9 oa ob)(qg:Q9 ga gb)(hta:Value.tuple #[QV (oa*gb+ga*ob) (ob*gb),.int .i64 0]=.tuple #[QV ta tb_,.int .i64 0])(qt:Q9 ta tb_)(hca:Value.tuple #[QV (ta*1) (tb_*2),.int .i64 0]=.tuple #[QV ca cb,.int .i64 0])(qk1:Q9 k1 (tenI pl))(qk2:Q9 k2 (tenI pl))(qu1:Q9 u1 (tenI pl))(qu2:Q9 u2 (tenI pl))(qu3:Q9 u3 (tenI pl))(qm:Q9 (max u1 u2) (tenI pl))(hbT:ins=true->bh=max (max u1 u2) u3)(hbF:ins=false->bh=max u1 u2)(hT:TabW w n0 b bm bp bn bf pl)(hn0:n0<=w.heap.size):
    CL 83 #[.agg #[.int .i64 pl,.func (.func 76) #[] #[pT bn,pT bf]],.agg (t7 ma mb sa sb ea eb la lb ha hb oa ob ga gb),IV xa xb ya yb] w (RetA λv w'=>w.grownBy w' (some b)∧TabW w' n0 b bm bp bn bf pl∧v=IV (min k1 k2) (tenI pl) bh (tenI pl)):=by
 have G:=World.grownBy.refl w (some b);have zm:=hT.lt;refine f_inA Tryz.func83 rfl ?_;refine go ?_;refine bx (λapv ar8 aor=>?_);have hT:=TabW.ext ar8.2 hT;have G:=gb_ext G ar8.2;refine bx (λao4 aq6 aos=>?_);have hT:=TabW.ext aq6.2 hT;have aor:=be aq6.2 aor;have G:=gb_ext G aq6.2;refine bx (λap1 aqm aot=>?_);have hT:=TabW.ext aqm.2 hT;have⟨aor,aos⟩:=bf2 aqm.2 aor aos;have G:=gb_ext G aqm.2;refine al inf1032 (λap2 aqf aox=>?_);have hT:=TabW.ext aqf.2 hT;have⟨aor,aos,aot⟩:=bf3 aqf.2 aor aos aot;have G:=gb_ext G aqf.2;refine go ?_;refine c_dv hmix 12 [7,8,11,12,13,14,15,16,17,18,19,20] [some (11,.agg #[.int .i64 pl,.func (.func 76) #[] #[pT bn,pT bf]]),some (12,.agg (t7 ma mb sa sb ea eb la lb ha hb oa ob ga gb)),some (13,pT ao4.heap.size),some (14,QV xa xb),some (15,IV k1 (tenI pl) u1 (tenI pl)),some (16,.agg #[.int .i64 pl,.func (.func 76) #[] #[pT bn,pT bf]]),some (17,.agg (t7 ma mb sa sb ea eb la lb ha hb oa ob ga gb)),some (18,.pointer (some ⟨ao4.heap.size,2,none⟩)),some (19,QV ya yb),some (20,IV k2 (tenI pl) u2 (tenI pl)),none,none] (XK (XH (λW=>ap2.grownBy W (some b)∧TabW W n0 b bm bp bn bf pl) ap2.heap.size 10 7 33 #[S ([]),S ([]),S ([]),S ([])]) ap2.heap.size 10 7 11 8 33 #[S ([]),S ([]),S ([]),S ([])]) (XK.start (XH.start ⟨gb_ext (World.grownBy.refl ap2 _) (Ext.drew ap2),TabW.ext (Ext.drew ap2) hT⟩)) krRj3 krRj3 krRj3 ?_ ?_
 refine⟨λavv _ _ asw _ aqn _ _ _=>?_,?_⟩;obtain⟨avv,rfl⟩:=ovE asw;have asx:=(Blk.gr aqn.1.1.1 (by simp;omega) aor);refine go ?_;exact dvK (dvHx rfl aqn.1 aqn.1.1 erRj3) aqn (λb _ h=>h);refine⟨λav2 _ _ asy _ aqo _ _ _=>?_,?_⟩;obtain⟨av2,rfl⟩:=ovE asy;have asz:=(Blk.gr aqo.1.1.1 (by simp;omega) aos);refine l_op (k_loadA (cs:=[S (qR ma mb).1,S (qR ma mb).2,S (qR sa sb).1,S (qR sa sb).2,S (qR ea eb).1,S (qR ea eb).2,S (qR la lb).1,S (qR la lb).2,S (qR ha hb).1,S (qR ha hb).2,S (qR oa ob).1,S (qR oa ob).2,S (qR ga gb).1,S (qR ga gb).2]) (b:=apv.heap.size) (o:=0) U2296 rfl sz2296 rfl (Blk.cells asz (i:=0) krRj3) ?_);refine go ?_;exact dvK (dvHx rfl aqo.1 aqo.1.1 erRj3) aqo (λb _ h=>h);refine⟨λav9 _ _ as0 _ aq7 _ _ _=>?_,?_⟩;obtain⟨av9,rfl⟩:=ovE as0;refine go ?_;exact dvK (dvHx rfl aq7.1 aq7.1.1 erRj3) aq7 (λb _ h=>h);refine⟨λas1 _ _ awi as2 aqp _ _ _=>?_,?_⟩;obtain⟨as1,rfl⟩:=ovE awi;have as3:=zpv (as2 2 _ _ rfl rfl);have as4:=(Blk.gr aqp.1.1.1 (by simp;omega) aot);refine go ?_;exact dvK (dvHx rfl aqp.1 aqp.1.1 erRj3) aqp (λb _ h=>h);refine⟨λaq8 _ _ awo aq9 ao5 _ _ _=>?_,?_⟩;obtain⟨aq8,rfl⟩:=ovE awo;have as5:=zpv (aq9 0 _ _ rfl rfl);have as6:=zpv (aq9 1 _ _ rfl rfl);have as7:=zpv (aq9 3 _ _ rfl rfl);have aor:=(Blk.gr ao5.1.1.1 (by simp;omega) aor)
 have aos:=(Blk.gr ao5.1.1.1 (by simp;omega) aos);have aot:=(Blk.gr ao5.1.1.1 (by simp;omega) aot);have aox:=(Blk.gr ao5.1.1.1 (by simp;omega) aox);have hT:=ao5.1.1.2;have as8:=bt aor;have as9:=bt aos;have ata:=bt aot;have atb:=bt aox;have aws:=ao5.1.1.1.size;have G:=gb_trans G ao5.1.1.1;refine l_op (k_callA (vs:=[.agg #[.int .i64 pl,.func (.func 76) #[] #[pT bn,pT bf]],.agg (t7 ma mb sa sb ea eb la lb ha hb oa ob ga gb),QV xa xb]) en3053 (cons_eq as5 (cons_eq as6 (cons_eq as7 rfl))) (hC1 _ hT om) ?_);rintro _ _ ⟨ape,atc,rfl⟩;have G:=gb_trans G ape;have awv:=ape.size;refine go ?_;exact dvK (dvH rfl ao5.1 ⟨gb_trans ao5.1.1.1 ape,atc⟩ ape (λg hgg=>by cases hgg;omega)) ao5 (λb hb h=>Blk.gr ape (by simp;omega) h);refine⟨λaww _ _ atd _ aqq _ _ _=>?_,?_⟩;obtain⟨aww,rfl⟩:=ovE atd;have ate:=(Blk.gr aqq.1.1.1 (by simp;omega) aor);refine go ?_;exact dvK (dvHx rfl aqq.1 aqq.1.1 erRj3) aqq (λb _ h=>h);refine⟨λaw3 _ _ atf _ aqr _ _ _=>?_,?_⟩;obtain⟨aw3,rfl⟩:=ovE atf;have atg:=(Blk.gr aqr.1.1.1 (by simp;omega) aos)
 refine l_op (k_loadA (cs:=[S (qR ma mb).1,S (qR ma mb).2,S (qR sa sb).1,S (qR sa sb).2,S (qR ea eb).1,S (qR ea eb).2,S (qR la lb).1,S (qR la lb).2,S (qR ha hb).1,S (qR ha hb).2,S (qR oa ob).1,S (qR oa ob).2,S (qR ga gb).1,S (qR ga gb).2]) (b:=apv.heap.size) (o:=0) U2296 rfl sz2296 rfl (Blk.cells atg (i:=0) krRj3) ?_);refine go ?_;exact dvK (dvHx rfl aqr.1 aqr.1.1 erRj3) aqr (λb _ h=>h);refine⟨λaxa _ _ ath _ ara _ _ _=>?_,?_⟩;obtain⟨axa,rfl⟩:=ovE ath;refine go ?_;exact dvK (dvHx rfl ara.1 ara.1.1 erRj3) ara (λb _ h=>h);refine⟨λati _ _ axj atj aqs _ _ _=>?_,?_⟩;obtain⟨ati,rfl⟩:=ovE axj;have atk:=zpv (atj 7 _ _ rfl rfl);have atl:=(Blk.gr aqs.1.1.1 (by simp;omega) aot);refine go ?_;exact dvK (dvHx rfl aqs.1 aqs.1.1 erRj3) aqs (λb _ h=>h);refine⟨λarb _ _ axp arc ao6 _ _ _=>?_,?_⟩;obtain⟨arb,rfl⟩:=ovE axp;have atm:=zpv (arc 5 _ _ rfl rfl);have atn:=zpv (arc 6 _ _ rfl rfl);have ato:=zpv (arc 8 _ _ rfl rfl);have aor:=(Blk.gr ao6.1.1.1 (by simp;omega) aor);have aos:=(Blk.gr ao6.1.1.1 (by simp;omega) aos);have aot:=(Blk.gr ao6.1.1.1 (by simp;omega) aot);have aox:=(Blk.gr ao6.1.1.1 (by simp;omega) aox);have hT:=ao6.1.1.2;have as8:=bt aor;have as9:=bt aos;have ata:=bt aot;have atb:=bt aox;have axt:=ao6.1.1.1.size;have G:=gb_trans G ao6.1.1.1
 refine l_op (k_callA (vs:=[.agg #[.int .i64 pl,.func (.func 76) #[] #[pT bn,pT bf]],.agg (t7 ma mb sa sb ea eb la lb ha hb oa ob ga gb),QV ya yb]) en3053 (cons_eq atm (cons_eq atn (cons_eq ato rfl))) (hC2 _ hT om) ?_);rintro _ _ ⟨apf,atp,rfl⟩;have G:=gb_trans G apf;have axw:=apf.size;refine go ?_;exact dvK (dvH rfl ao6.1 ⟨gb_trans ao6.1.1.1 apf,atp⟩ apf (λg hgg=>by cases hgg;omega)) ao6 (λb hb h=>Blk.gr apf (by simp;omega) h);refine⟨λaxx _ _ ax0 _ aqg _ _ _=>?_,?_⟩;obtain⟨axx,rfl⟩:=ovE ax0;have G:=gb_trans G aqg.1.1.1;refine al inf1032 (λ_ aqh atq=>?_);have G:=gb_ext G aqh.2;refine go ?_;exact dvK1 rfl (XH.new aqg.1 ⟨gb_ext aqg.1.1.1 aqh.2,TabW.ext aqh.2 aqg.1.1.2⟩ aqh.2 atq) aqg (λb _ h=>be aqh.2 h);refine⟨λax6 _ _ ax9 _ ap3 _ _ _=>?_,?_⟩;obtain⟨ax6,rfl⟩:=ovE ax9;have G:=gb_trans G ap3.1.1.1;refine al inf1032 (λ_ aqt atr=>?_);have G:=gb_ext G aqt.2;refine go ?_;exact dvKa rfl (XH.keep ap3.1 ⟨gb_ext ap3.1.1.1 aqt.2,TabW.ext aqt.2 ap3.1.1.2⟩ aqt.2) ap3.1.2.1 atr (XH.ne ap3.1);exact trivial;intro aqu _ _ ard aqi ar9 apg;obtain⟨aqu,rfl⟩:=ovE aqi;have apz:=apg.1.1.2;have ap4:=(Blk.gr apg.1.1.1 (by simp;omega) aor);have ayh:=bt ap4;have ap5:=(Blk.gr apg.1.1.1 (by simp;omega) aos);have ayi:=bt ap5;have ap6:=(Blk.gr apg.1.1.1 (by simp;omega) aot);have ayj:=bt ap6;have ap7:=(Blk.gr apg.1.1.1 (by simp;omega) aox);have ayk:=bt ap7
 have ayl:=apg.1.1.1.size;have G:=gb_trans G apg.1.1.1;obtain⟨ao7,aqv,_,asa⟩:=apg.1.2.2 (ard 10 rfl);obtain⟨ao8,arf,_,aqw,asb⟩:=apg.2 (ard 11 rfl);have asb:=ptr_ne aqv (asb (ard 10 rfl));have arf:=zpv arf;have aqv:=zpv aqv;have ayo:=bt asa;have ayp:=bt aqw;have arh:aqu 7=pT ao7:=(aqv);have att:=zpv (ar9 4 _ _ rfl rfl);refine SA asa (λ_ apw aqj=>?_);have apz:=TabW.put apw om apz;have⟨ap4,ap5,ap6,ap7,aqw⟩:=pf5 apw ap4 ap5 ap6 ap7 aqw;have G:=gb_putn G apw om;have ayr:=psz apw;have ari:aqu 8=pT ao8:=(arf);have atu:=zpv (ar9 9 _ _ rfl rfl);refine SA aqw (λasc apx arj=>?_);have apz:=TabW.put apx om apz;have⟨ap4,ap5,ap6,ap7,aqj⟩:=pf5 apx ap4 ap5 ap6 ap7 aqj;have G:=gb_putn G apx om;have ays:=psz apx;refine go ?_;have ap8:=Ext.refl asc
 refine c_dv hmix 14 [9,21,22,23,24,25,26,27,28,29,30,31,32,33] [some (21,pT ao7),some (22,QV k1 (tenI pl)),some (23,pT ao8),some (24,QV k2 (tenI pl)),none,some (26,QV (min k1 k2) (tenI pl)),some (27,.pointer (some ⟨ao7,2,none⟩)),some (28,QV u1 (tenI pl)),some (29,.pointer (some ⟨ao8,2,none⟩)),some (30,QV u2 (tenI pl)),none,some (32,QV (max u1 u2) (tenI pl)),some (33,IV (min k1 k2) (tenI pl) (max u1 u2) (tenI pl)),none] (XB (XB (XA asc 13 999 9 33 #[S ([]),S ([]),S ([]),S ([])] #[S ([]),S ([]),S ([]),S ([])]) 4 25 25 2 #[S ((qR k1 (tenI pl)).1),S ((qR k1 (tenI pl)).2),S ((qR k2 (tenI pl)).1),S ((qR k2 (tenI pl)).2)]) 10 31 25 2 #[S ((qR u1 (tenI pl)).1),S ((qR u1 (tenI pl)).2),S ((qR u2 (tenI pl)).1),S ((qR u2 (tenI pl)).2)]) (XB.start (XB.start XA.start)) krRj3 krRj3 krRj3 ?_ ?_;refine⟨λayt _ _ atv _ ark _ _ _=>?_,?_⟩;obtain⟨ayt,rfl⟩:=ovE atv;refine go ?_;exact dvB (dvB (dvA rfl ark.1.1 erRj3) ark.1 (λ_ h=>be erRj3 h)) ark (λ_ h=>be erRj3 h);refine⟨λatw _ _ ay2 atx aqx _ _ _=>?_,?_⟩;obtain⟨atw,rfl⟩:=ovE ay2;have aty:=zpv (atx 0 _ _ rfl rfl);have atz:=(be aqx.1.1.1 aqj);refine go ?_;exact dvB (dvB (dvA rfl aqx.1.1 erRj3) aqx.1 (λ_ h=>be erRj3 h)) aqx (λ_ h=>be erRj3 h);refine⟨λay6 _ _ at0 _ arl _ _ _=>?_,?_⟩;obtain⟨ay6,rfl⟩:=ovE at0;refine go ?_
 exact dvB (dvB (dvA rfl arl.1.1 erRj3) arl.1 (λ_ h=>be erRj3 h)) arl (λ_ h=>be erRj3 h);refine⟨λat1 _ _ azf at2 aqy _ _ _=>?_,?_⟩;obtain⟨at1,rfl⟩:=ovE azf;have at3:=zpv (at2 2 _ _ rfl rfl);have at4:=(be aqy.1.1.1 arj);refine go ?_;exact dvB (dvB (dvA rfl aqy.1.1 erRj3) aqy.1 (λ_ h=>be erRj3 h)) aqy (λ_ h=>be erRj3 h);refine⟨λasd _ _ azl ase arm _ _ _=>?_,?_⟩;obtain⟨asd,rfl⟩:=ovE azl;have at6:=zpv (ase 1 _ _ rfl rfl);have at7:=zpv (ase 3 _ _ rfl rfl);have arn:=xt ap8 arm.1.1.1;have azp:=bz arn;refine l_op (k_bsB (vs:=[(0,QV k1 (tenI pl)),(1,QV k2 (tenI pl))]) (cells:=#[S ((qR k1 (tenI pl)).1),S ((qR k1 (tenI pl)).2),S ((qR k2 (tenI pl)).1),S ((qR k2 (tenI pl)).2)]) U23 inf36 (cons_eqp at6 (cons_eqp at7 rfl)) dc dc krRj3 (λ_ aro at8=>?_));refine go ?_;exact dvB (dvBn rfl (XA.up arm.1.1 aro.2) at8) arm (λ_ h=>be aro.2 h);refine⟨λazr _ _ azu _ ap9 _ _ at9=>?_,?_⟩;obtain⟨azr,rfl⟩:=ovE azu;have arp:=(TabW.ext ap9.1.1.1 apz);obtain⟨_,arq,arr⟩:=ap9.1.2 (at9 4 rfl);have arq:=zpv arq;refine clb en2106 (hc:=cEq (Y:=QV (min k1 k2) (tenI pl)) (least_ok (a:=k1) (b:=tenI pl) (c:=k2) (d:=tenI pl) (Rw.of_own (rw_blk (m:=2) arr rfl)) qk1 qk2 (TabW.tb arp)) (by rw[mn_TT hT0])) (hk:=?_) (hv:=cons_eq arq rfl);rintro _ _ aqa rfl;refine go ?_
 exact dvB (dvB (dvA rfl ap9.1.1 aqa.2) ap9.1 (λ_ h=>be aqa.2 h)) ap9 (λ_ h=>be aqa.2 h);refine⟨λaz0 _ _ aub _ ars _ _ _=>?_,?_⟩;obtain⟨az0,rfl⟩:=ovE aub;refine go ?_;exact dvB (dvB (dvA rfl ars.1.1 erRj3) ars.1 (λ_ h=>be erRj3 h)) ars (λ_ h=>be erRj3 h);refine⟨λauc _ _ az9 aud aqz _ _ _=>?_,?_⟩;obtain⟨auc,rfl⟩:=ovE az9;have aue:=zpv (aud 6 _ _ rfl rfl);have auf:=(be aqz.1.1.1 aqj);refine go ?_;exact dvB (dvB (dvA rfl aqz.1.1 erRj3) aqz.1 (λ_ h=>be erRj3 h)) aqz (λ_ h=>be erRj3 h);refine⟨λa0d _ _ aug _ art _ _ _=>?_,?_⟩;obtain⟨a0d,rfl⟩:=ovE aug;refine go ?_;exact dvB (dvB (dvA rfl art.1.1 erRj3) art.1 (λ_ h=>be erRj3 h)) art (λ_ h=>be erRj3 h);refine⟨λauh _ _ a0m aui aq0 _ _ _=>?_,?_⟩;obtain⟨auh,rfl⟩:=ovE a0m;have auj:=zpv (aui 8 _ _ rfl rfl);have auk:=(be aq0.1.1.1 arj);refine go ?_;exact dvB (dvB (dvA rfl aq0.1.1 erRj3) aq0.1 (λ_ h=>be erRj3 h)) aq0 (λ_ h=>be erRj3 h);refine⟨λasg _ _ a0s ash aru _ _ _=>?_,?_⟩;obtain⟨asg,rfl⟩:=ovE a0s;have aul:=zpv (ash 7 _ _ rfl rfl);have aum:=zpv (ash 9 _ _ rfl rfl);have arv:=xt ap8 aru.1.1.1;have a0w:=bz arv
 refine l_op (k_bsB (vs:=[(0,QV u1 (tenI pl)),(1,QV u2 (tenI pl))]) (cells:=#[S ((qR u1 (tenI pl)).1),S ((qR u1 (tenI pl)).2),S ((qR u2 (tenI pl)).1),S ((qR u2 (tenI pl)).2)]) U23 inf36 (cons_eqp aul (cons_eqp aum rfl)) dc dc krRj3 (λ_ arw aun=>?_));refine go ?_;exact dvBn rfl (XB.up aru.1 (XA.up aru.1.1 arw.2) arw.2) aun;refine⟨λa0y _ _ a01 _ aqb _ _ auo=>?_,?_⟩;obtain⟨a0y,rfl⟩:=ovE a01;have arx:=(TabW.ext aqb.1.1.1 apz);obtain⟨_,ary,arz⟩:=aqb.2 (auo 10 rfl);have ary:=zpv ary;refine clb en2151 (hc:=cEq (Y:=QV (max u1 u2) (tenI pl)) (most_ok (a:=u1) (b:=tenI pl) (c:=u2) (d:=tenI pl) (Rw.of_own (rw_blk (m:=2) arz rfl)) qu1 qu2 (TabW.tb arx)) (by rw[mx_TT hT0])) (hk:=?_) (hv:=cons_eq ary rfl);rintro _ _ aqc rfl;refine go ?_;exact dvB (dvB (dvA rfl aqb.1.1 aqc.2) aqb.1 (λ_ h=>be aqc.2 h)) aqb (λ_ h=>be aqc.2 h);refine⟨λasj _ _ a09 ask ar0 _ _ _=>?_,?_⟩;obtain⟨asj,rfl⟩:=ovE a09;have auq:=zpv (ask 5 _ _ rfl rfl);have aur:=zpv (ask 11 _ _ rfl rfl);refine l_op (k_build (vs:=[(0,QV (min k1 k2) (tenI pl)),(1,QV (max u1 u2) (tenI pl))]) (cells:=#[S ((qR (min k1 k2) (tenI pl)).1),S ((qR (min k1 k2) (tenI pl)).2),S ((qR (max u1 u2) (tenI pl)).1),S ((qR (max u1 u2) (tenI pl)).2)]) (pl:=[(0,2),(2,2)]) U1032 inf1032 krRj3 (cons_eqp auq (cons_eqp aur rfl)) krRj3 ?_);refine go ?_
 exact dvB (dvB (dvA rfl ar0.1.1 erRj3) ar0.1 (λ_ h=>be erRj3 h)) ar0 (λ_ h=>be erRj3 h);refine⟨λa1d _ _ a1g _ aq1 _ _ _=>?_,?_⟩;obtain⟨a1d,rfl⟩:=ovE a1g;have ar1:=xt ap8 aq1.1.1.1;have a1l:=bz ar1;refine al inf1032 (λ_ aq2 aus=>?_);refine go ?_;exact dvB (dvB (dvAn rfl aq1.1.1 aq2.2 aus) aq1.1 (λ_ h=>be aq2.2 h)) aq1 (λ_ h=>be aq2.2 h);exact trivial;intro aqd _ _ aut aqk auu aou;obtain⟨aqd,rfl⟩:=ovE aqk;have aou:=aou.1.1;have sc:=(TabW.ext aou.1 apz);have aol:=(be aou.1 ap4);have auv:=bt aol;have r8:=(be aou.1 ap5);have auw:=bt r8;have aom:=(be aou.1 ap6);have aux:=bt aom;have aop:=(be aou.1 ap7);have auy:=bt aop;have aon:=(be aou.1 aqj);have auz:=bt aon;have aoo:=(be aou.1 arj);have au0:=bt aoo;have au1:=xt ap8 aou.1;have a1p:=bz au1;have G:=gb_ext G aou.1;have a1q:=bz aou.1;obtain⟨aoy,ar2,_,asl⟩:=XA.fin aou (aut 13 rfl) (.inr rfl);have ar2:=zpv ar2;have a1s:=bt asl;have aq3:aqd 9=pT aoy:=(ar2);have au2:=zpv (auu 12 _ _ rfl rfl);refine SA asl (λ_ aph aoq=>?_);have sc:=TabW.put aph om sc;have⟨aol,r8,aom,aop,aon⟩:=pf5 aph aol r8 aom aop aon;have aoo:=pb aph aoo;have G:=gb_putn G aph om;have a1u:=psz aph;refine go ?_;refine l_op (k_fieldAddr (b:=apv.heap.size) (o:=0) (off:=10) (oo:=10) U2296 rfl rfl sz36 rfl rfl ?_);refine go ?_
 refine l_op (k_fieldAddr (b:=apv.heap.size) (o:=0) (off:=12) (oo:=12) U2296 rfl rfl sz36 rfl rfl ?_);refine go ?_;refine cl en217 (cEq (Y:=.tuple #[QV ta tb_,.int .i64 0]) (qAddX qo qg (TabW.tb sc)) hta) ?_;rintro _ _ api rfl;have sc:=TabW.ext api.2 sc;have⟨aol,r8,aom,aop,aon⟩:=bf5 api.2 aol r8 aom aop aon;have⟨aoo,aoq⟩:=bf2 api.2 aoo aoq;have G:=gb_ext G api.2;refine go ?_;refine cl en2152 rmust_ok ?_;rintro _ _ apj rfl;have sc:=TabW.ext apj.2 sc;have⟨aol,r8,aom,aop,aon⟩:=bf5 apj.2 aol r8 aom aop aon;have⟨aoo,aoq⟩:=bf2 apj.2 aoo aoq;have G:=gb_ext G apj.2;refine clb en2107 (hc:=whole_ok (n:=2) (by unfold In64;decide) (TabW.tb sc)) (hk:=?_);rintro _ _ apk rfl;have sc:=TabW.ext apk.2 sc;have⟨aol,r8,aom,aop,aon⟩:=bf5 apk.2 aol r8 aom aop aon;have⟨aoo,aoq⟩:=bf2 apk.2 aoo aoq;have G:=gb_ext G apk.2;refine clb en218 (hc:=cEq (Y:=.tuple #[QV ca cb,.int .i64 0]) (qDivX qt qtwo dc (TabW.tb sc)) hca) (hk:=?_);rintro _ _ apl rfl;have sc:=TabW.ext apl.2 sc;have⟨aol,r8,aom,aop,aon⟩:=bf5 apl.2 aol r8 aom aop aon;have⟨aoo,aoq⟩:=bf2 apl.2 aoo aoq;have G:=gb_ext G apl.2;refine go ?_;refine cl en2152 rmust_ok ?_;rintro _ _ apm rfl;have sc:=TabW.ext apm.2 sc;have⟨aol,r8,aom,aop,aon⟩:=bf5 apm.2 aol r8 aom aop aon;have⟨aoo,aoq⟩:=bf2 apm.2 aoo aoq;have G:=gb_ext G apm.2;refine al inf36 (λ_ apn au3=>?_);have sc:=TabW.ext apn.2 sc;have⟨aol,r8,aom,aop,aon⟩:=bf5 apn.2 aol r8 aom aop aon
 have⟨aoo,aoq⟩:=bf2 apn.2 aoo aoq;have G:=gb_ext G apn.2;refine SA au3 (λ_ ao9 aov=>?_);have sc:=TabW.put ao9 om sc;have⟨aol,r8,aom,aop,aon⟩:=pf5 ao9 aol r8 aom aop aon;have⟨aoo,aoq⟩:=pf2 ao9 aoo aoq;have G:=gb_putn G ao9 om;have a17:=psz ao9;refine go ?_;refine l_op (k_loadA (cs:=[S (qR xa xb).1,S (qR xa xb).2,S (qR ya yb).1,S (qR ya yb).2]) (b:=ao4.heap.size) (o:=0) U1032 rfl sz1032 rfl (Blk.cells aom (i:=0) rfl) ?_);refine go ?_;refine cl en1057 ((hCo _ (TabW.tb sc))) ?_;rintro _ aq4 apa rfl;have sc:=TabW.ext apa.2 sc;have⟨aol,r8,aom,aop,aon⟩:=bf5 apa.2 aol r8 aom aop aon;have⟨aoo,aoq,aov⟩:=bf3 apa.2 aoo aoq aov;have G:=gb_ext G apa.2;refine go ?_;rcases Bool.eq_false_or_eq_true ins with aql|aql;refine go ?_;refine c_dv hmix 7 [50,51,52,53,54,55,56] [some (50,.pointer (some ⟨aoy,2,none⟩)),some (51,QV (max u1 u2) (tenI pl)),some (52,.agg #[.int .i64 pl,.func (.func 76) #[] #[pT bn,pT bf]]),some (53,.agg (t7 ma mb sa sb ea eb la lb ha hb oa ob ga gb)),some (54,QV ca cb),some (55,IV k3 (tenI pl) u3 (tenI pl)),some (56,QV u3 (tenI pl))] (XG (λW=>aq4.grownBy W (some b)∧TabW W n0 b bm bp bn bf pl)) ⟨gb_ext (World.grownBy.refl aq4 _) (Ext.drew aq4),TabW.ext (Ext.drew aq4) sc⟩ krRj3 krRj3 krRj3 ?_ ?_
 refine⟨λa19 _ _ au6 _ au7 _ _ _=>?_,?_⟩;obtain⟨a19,rfl⟩:=ovE au6;refine go ?_;exact dvG rfl au7;refine⟨λau8 _ _ a2i au9 asm _ _ _=>?_,?_⟩;obtain⟨au8,rfl⟩:=ovE a2i;have ava:=zpv (au9 0 _ _ rfl rfl);have avb:=(Blk.gr asm.1 (by simp;omega) aoq);refine go ?_;exact dvG rfl asm;refine⟨λa2m _ _ avc _ aso _ _ _=>?_,?_⟩;obtain⟨a2m,rfl⟩:=ovE avc;have avd:=(Blk.gr aso.1 (by simp;omega) aol);refine go ?_;exact dvG rfl aso;refine⟨λa2t _ _ ave _ asp _ _ _=>?_,?_⟩;obtain⟨a2t,rfl⟩:=ovE ave;have avf:=(Blk.gr asp.1 (by simp;omega) r8);refine l_op (k_loadA (cs:=[S (qR ma mb).1,S (qR ma mb).2,S (qR sa sb).1,S (qR sa sb).2,S (qR ea eb).1,S (qR ea eb).2,S (qR la lb).1,S (qR la lb).2,S (qR ha hb).1,S (qR ha hb).2,S (qR oa ob).1,S (qR oa ob).2,S (qR ga gb).1,S (qR ga gb).2]) (b:=apv.heap.size) (o:=0) U2296 rfl sz2296 rfl (Blk.cells avf (i:=0) krRj3) ?_);refine go ?_;exact dvG rfl asp;refine⟨λa22 _ _ avg _ asq _ _ _=>?_,?_⟩;obtain⟨a22,rfl⟩:=ovE avg;have avh:=(Blk.gr asq.1 (by simp;omega) aov);refine go ?_;exact dvG rfl asq;refine⟨λar5 _ _ a3b ar6 aow _ _ _=>?_,?_⟩;obtain⟨ar5,rfl⟩:=ovE a3b;have avi:=zpv (ar6 2 _ _ rfl rfl);have avj:=zpv (ar6 3 _ _ rfl rfl);have avk:=zpv (ar6 4 _ _ rfl rfl);have aol:=(Blk.gr aow.1 (by simp;omega) aol);have r8:=(Blk.gr aow.1 (by simp;omega) r8)
 have aom:=(Blk.gr aow.1 (by simp;omega) aom);have aop:=(Blk.gr aow.1 (by simp;omega) aop);have aon:=(Blk.gr aow.1 (by simp;omega) aon);have aoo:=(Blk.gr aow.1 (by simp;omega) aoo);have aoq:=(Blk.gr aow.1 (by simp;omega) aoq);have aov:=(Blk.gr aow.1 (by simp;omega) aov);have sc:=aow.2;have auv:=bt aol;have auw:=bt r8;have aux:=bt aom;have auy:=bt aop;have auz:=bt aon;have au0:=bt aoo;have a3f:=bt aoq;have a3g:=bt aov;have a3h:=aow.1.size;have G:=gb_trans G aow.1;refine l_op (k_callA (vs:=[.agg #[.int .i64 pl,.func (.func 76) #[] #[pT bn,pT bf]],.agg (t7 ma mb sa sb ea eb la lb ha hb oa ob ga gb),QV ca cb]) en3053 (cons_eq avi (cons_eq avj (cons_eq avk rfl))) (hC3 _ sc om) ?_);rintro _ _ ⟨aoz,avl,rfl⟩;have G:=gb_trans G aoz;have a3k:=aoz.size;refine go ?_;exact dvG rfl ⟨gb_trans aow.1 aoz,avl⟩;refine⟨λavm _ _ a3n avn avo _ _ _=>?_,?_⟩;obtain⟨avm,rfl⟩:=ovE a3n;have avp:=zpv (avn 5 _ _ rfl rfl);refine l_op (k_fieldI1 avp ?_);refine go ?_;exact dvG rfl avo;exact trivial;intro aq5 _ _ _ asr ass ao0;obtain⟨aq5,rfl⟩:=ovE asr;have apb:=ao0.2;have apo:=(Blk.gr ao0.1 (by simp;omega) aol);have a3t:=bt apo;have apq:=(Blk.gr ao0.1 (by simp;omega) r8);have a3u:=bt apq;have apr:=(Blk.gr ao0.1 (by simp;omega) aom);have a3v:=bt apr;have apy:=(Blk.gr ao0.1 (by simp;omega) aop);have a3w:=bt apy;have aps:=(Blk.gr ao0.1 (by simp;omega) aon);have a3x:=bt aps
 have apt:=(Blk.gr ao0.1 (by simp;omega) aoo);have a3y:=bt apt;have aqe:=(Blk.gr ao0.1 (by simp;omega) aoq);have a3z:=bt aqe;have apu:=(Blk.gr ao0.1 (by simp;omega) aov);have a30:=bt apu;have a31:=ao0.1.size;have G:=gb_trans G ao0.1;have avr:=zpv (ass 1 _ _ rfl rfl);have avs:=zpv (ass 6 _ _ rfl rfl);refine l_op (k_bsB (vs:=[(0,QV (max u1 u2) (tenI pl)),(1,QV u3 (tenI pl))]) (cells:=#[S ((qR (max u1 u2) (tenI pl)).1),S ((qR (max u1 u2) (tenI pl)).2),S ((qR u3 (tenI pl)).1),S ((qR u3 (tenI pl)).2)]) U23 inf36 (cons_eqp avr (cons_eqp avs rfl)) dc dc krRj3 (λ_ apc ap0=>?_));have apb:=TabW.ext apc.2 apb;have⟨apo,apq,apr,apy,aps⟩:=bf5 apc.2 apo apq apr apy aps;have⟨apt,aqe,apu⟩:=bf3 apc.2 apt aqe apu;have G:=gb_ext G apc.2;refine clb en2151 (hc:=cEq (Y:=QV (max (max u1 u2) u3) (tenI pl)) (most_ok (a:=max u1 u2) (b:=tenI pl) (c:=u3) (d:=tenI pl) (Rw.of_own (rw_blk (m:=2) ap0 rfl)) qm qu3 (TabW.tb apb)) (by rw[mx_TT hT0])) (hk:=?_);rintro _ _ ao1 rfl;have apb:=TabW.ext ao1.2 apb;have⟨apo,apq,apr,apy,aps⟩:=bf5 ao1.2 apo apq apr apy aps;have⟨apt,aqe,apu,ap0⟩:=bf4 ao1.2 apt aqe apu ap0;have G:=gb_ext G ao1.2;refine go ?_;refine SA aqe (λ_ ao2 ar7=>?_);have apb:=TabW.put ao2 om apb;have⟨apo,apq,apr,apy,aps⟩:=pf5 ao2 apo apq apr apy aps;have⟨apt,apu,ap0⟩:=pf3 ao2 apt apu ap0;have G:=gb_putn G ao2 om;have a36:=psz ao2;refine go ?_
 refine l_op (k_loadA (cs:=[S ((qR (min k1 k2) (tenI pl)).1),S ((qR (min k1 k2) (tenI pl)).2),S ((qR (max (max u1 u2) u3) (tenI pl)).1),S ((qR (max (max u1 u2) u3) (tenI pl)).2)]) (b:=aoy) (o:=0) U1032 rfl sz1032 aq3 (Blk.cells ar7 (i:=0) rfl) ?_);refine SA apy (λ_ ao3 avt=>?_);have apb:=TabW.put ao3 om apb;have⟨apo,apq,apr,aps,apt⟩:=pf5 ao3 apo apq apr aps apt;have⟨ar7,apu,ap0⟩:=pf3 ao3 ar7 apu ap0;have G:=gb_putn G ao3 om;have a39:=psz ao3;refine go ?_;refine f_outA (v:=IV (min k1 k2) (tenI pl) (max (max u1 u2) u3) (tenI pl)) (res1  rfl ?_) ⟨G,apb,by rw[hbT aql]⟩;refine res_cellA (t:=6) (cs:=[S ((qR (min k1 k2) (tenI pl)).1),S ((qR (min k1 k2) (tenI pl)).2),S ((qR (max (max u1 u2) u3) (tenI pl)).1),S ((qR (max (max u1 u2) u3) (tenI pl)).2)]) (b:=ap1.heap.size) (o:=0) U1032 rfl sz1032 ?_ ?_;exact rfl;exact Blk.cells avt (i:=0) rfl;refine go ?_;refine l_op (k_loadA (cs:=[S ((qR (min k1 k2) (tenI pl)).1),S ((qR (min k1 k2) (tenI pl)).2),S ((qR (max u1 u2) (tenI pl)).1),S ((qR (max u1 u2) (tenI pl)).2)]) (b:=aoy) (o:=0) U1032 rfl sz1032 aq3 (Blk.cells aoq (i:=0) rfl) ?_);refine SA aop (λ_ apd avu=>?_);have sc:=TabW.put apd om sc;have⟨aol,r8,aom,aon,aoo⟩:=pf5 apd aol r8 aom aon aoo;have⟨aoq,aov⟩:=pf2 apd aoq aov;have G:=gb_putn G apd om;have a4b:=psz apd;refine go ?_;refine f_outA (v:=IV (min k1 k2) (tenI pl) (max u1 u2) (tenI pl)) (res1  rfl ?_) ⟨G,sc,by rw[hbF aql]⟩
 refine res_cellA (t:=6) (cs:=[S ((qR (min k1 k2) (tenI pl)).1),S ((qR (min k1 k2) (tenI pl)).2),S ((qR (max u1 u2) (tenI pl)).1),S ((qR (max u1 u2) (tenI pl)).2)]) (b:=ap1.heap.size) (o:=0) U1032 rfl sz1032 ?_ ?_;exact rfl;exact Blk.cells avu (i:=0) rfl
set_option maxRecDepth 100000 in
theorem valid15_ok {ma mb sa sb ea eb la lb ha hb oa ob ga gb:Int}{w:World}(hsh:∀q∈[qR ma mb,qR sa sb,qR ea eb,qR la lb,qR ha hb,qR oa ob,qR ga gb],ShR q)(qs:Q9 sa sb)(qe:Q9 ea eb)(ql:Q9 la lb)(qh:Q9 ha hb)(qo:Q9 oa ob)(qg:Q9 ga gb)(hs:decide (cmpI (0*sb) (sa*1)<0)=true)(he:decide (cmpI (0*eb) (ea*1)<0)=true)(hl:decide (cmpI (la*hb) (ha*lb)<0)=true)(ho:decide (cmpI (oa*gb) (ga*ob)<0)=true)(ht:Tb w):
    CL 16 #[.agg (t7 ma mb sa sb ea eb la lb ha hb oa ob ga gb)] w (Ret w λv w'=>v=.bool true):=by
 refine f_in Tryz.func16 rfl ?_;refine go ?_;refine bx (λ_ aow r8=>?_);have sc:=aow.2;refine go ?_;refine al inf36 (λ_ aov aox=>?_);have⟨r8,sc⟩:=be1 aov.2 r8 sc;refine SA aox (λ_ aou aol=>?_);have⟨r8,sc,_⟩:=pl1 aou r8 sc;refine go ?_;refine l_op (k_fieldAddr (b:=w.heap.size) (o:=0) (off:=0) (oo:=0) U2296 rfl rfl sz36 rfl rfl ?_);refine go ?_;refine l_op (k_fieldAddr (b:=w.heap.size) (o:=0) (off:=2) (oo:=2) U2296 rfl rfl sz36 rfl rfl ?_);refine go ?_;refine l_op (k_fieldAddr (b:=w.heap.size) (o:=0) (off:=4) (oo:=4) U2296 rfl rfl sz36 rfl rfl ?_);refine go ?_;refine l_op (k_fieldAddr (b:=w.heap.size) (o:=0) (off:=6) (oo:=6) U2296 rfl rfl sz36 rfl rfl ?_);refine go ?_;refine l_op (k_fieldAddr (b:=w.heap.size) (o:=0) (off:=8) (oo:=8) U2296 rfl rfl sz36 rfl rfl ?_);refine go ?_;refine l_op (k_fieldAddr (b:=w.heap.size) (o:=0) (off:=10) (oo:=10) U2296 rfl rfl sz36 rfl rfl ?_);refine go ?_;refine l_op (k_fieldAddr (b:=w.heap.size) (o:=0) (off:=12) (oo:=12) U2296 rfl rfl sz36 rfl rfl ?_);refine go ?_;refine l_op (k_buildSlice (vs:=[(0,QV ma mb),(1,QV sa sb),(2,QV ea eb),(3,QV la lb),(4,QV ha hb),(5,QV oa ob),(6,QV ga gb)]) (cells:=(t7 ma mb sa sb ea eb la lb ha hb oa ob ga gb)) U23 inf36 rfl dc dc (by kernel_rfl) rfl dc (λ_ aon _ aom=>?_));have⟨r8,aol,sc⟩:=be2 aon r8 aol sc;have ao3:=bz aon
 refine clb en2100 (hc:=areShort_ok (n:=7) (l:=[qR ma mb,qR sa sb,qR ea eb,qR la lb,qR ha hb,qR oa ob,qR ga gb]) (Rw.of_own aom) rfl dc hsh (ht.ext sc)) (hk:=?_);rintro _ _ aoo rfl;have⟨r8,aol,sc⟩:=be2 aoo.2 r8 aol sc;refine go ?_;refine l_op (k_fieldAddr (b:=w.heap.size) (o:=0) (off:=2) (oo:=2) U2296 rfl rfl sz36 rfl rfl ?_);refine go ?_;refine clb en2101 (hc:=cEq (Y:=.bool true) (isLess_ok (a:=0) (b:=1) (c:=sa) (d:=sb) qzer qs (ht.ext sc)) (by rw[hs])) (hk:=?_);rintro _ _ aop rfl;have⟨r8,aol,sc⟩:=be2 aop.2 r8 aol sc;refine go ?_;refine l_op (k_fieldAddr (b:=w.heap.size) (o:=0) (off:=4) (oo:=4) U2296 rfl rfl sz36 rfl rfl ?_);refine go ?_;refine clb en2101 (hc:=cEq (Y:=.bool true) (isLess_ok (a:=0) (b:=1) (c:=ea) (d:=eb) qzer qe (ht.ext sc)) (by rw[he])) (hk:=?_);rintro _ _ aoq rfl;have⟨r8,sc⟩:=be1 aoq.2 r8 sc;refine go ?_;refine l_op (k_fieldAddr (b:=w.heap.size) (o:=0) (off:=6) (oo:=6) U2296 rfl rfl sz36 rfl rfl ?_);refine go ?_;refine l_op (k_fieldAddr (b:=w.heap.size) (o:=0) (off:=8) (oo:=8) U2296 rfl rfl sz36 rfl rfl ?_);refine go ?_;refine clb en2101 (hc:=cEq (Y:=.bool true) (isLess_ok (a:=la) (b:=lb) (c:=ha) (d:=hb) ql qh (ht.ext sc)) (by rw[hl])) (hk:=?_);rintro _ _ aor rfl;have⟨r8,sc⟩:=be1 aor.2 r8 sc;refine go ?_;refine l_op (k_fieldAddr (b:=w.heap.size) (o:=0) (off:=10) (oo:=10) U2296 rfl rfl sz36 rfl rfl ?_);refine go ?_
 refine l_op (k_fieldAddr (b:=w.heap.size) (o:=0) (off:=12) (oo:=12) U2296 rfl rfl sz36 rfl rfl ?_);refine go ?_;refine clb en2101 (hc:=cEq (Y:=.bool true) (isLess_ok (a:=oa) (b:=ob) (c:=ga) (d:=gb) qo qg (ht.ext sc)) (by rw[ho])) (hk:=?_);rintro _ _ aos rfl;have sc:=xt sc aos.2;refine go ?_;exact f_ret1 (t:=2) (v:=.bool true) rfl sc rfl rfl
end Go.Proofs.YtmehbpjpbbhohaaGreatDoor
