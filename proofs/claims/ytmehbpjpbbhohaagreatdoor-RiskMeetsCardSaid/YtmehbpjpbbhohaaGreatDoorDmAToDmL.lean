/- Part of the proof of a statement about risks. -/
import Derived.Test.YtmehbpjpbbhohaaGreatDoorRjiToDmV
import Derived.Test.YtmehbpjpbbhohaaGreatDoorDmT1
import Derived.Test.YtmehbpjpbbhohaaGreatDoorDmT2
import Derived.Test.YtmehbpjpbbhohaaGreatDoorDmT3
import Derived.Test.YtmehbpjpbbhohaaGreatDoorDmT4
import Derived.Test.YtmehbpjpbbhohaaGreatDoorDmT5
import Derived.Test.YtmehbpjpbbhohaaGreatDoorDmT6
import Derived.Test.YtmehbpjpbbhohaaGreatDoorDmT7
import Derived.Test.YtmehbpjpbbhohaaGreatDoorDmT8
import Derived.Test.YtmehbpjpbbhohaaGreatDoorDmT9
import Derived.Test.YtmehbpjpbbhohaaGreatDoorDmT10
import Derived.Test.YtmehbpjpbbhohaaGreatDoorDmT11
import Derived.Test.YtmehbpjpbbhohaaGreatDoorDmT12
import Derived.Test.YtmehbpjpbbhohaaGreatDoorDmT13
import Derived.Test.YtmehbpjpbbhohaaGreatDoorDmT14
import Derived.Test.YtmehbpjpbbhohaaGreatDoorDmT15
import Derived.Test.YtmehbpjpbbhohaaGreatDoorDmT16
import Derived.Test.YtmehbpjpbbhohaaGreatDoorDmT17
import Derived.Test.YtmehbpjpbbhohaaGreatDoorDmT18
import Derived.Test.YtmehbpjpbbhohaaGreatDoorRjeToRjg
import Derived.Test.YtmehbpjpbbhohaaGreatDoorEngPToEngH
import Derived.Test.YtmehbpjpbbhohaaGreatDoorRi4ToDcB
import Derived.Test.YtmehbpjpbbhohaaGreatDoorCardBToRj4
set_option linter.all false
namespace Go.Proofs.YtmehbpjpbbhohaaGreatDoor
open Go Go.Eng Go.RowKit
theorem dm_all (e:Nat)(h1:1<=e)(h2:e<=20):∃w,VoM e w:=by
  rcases(by omega:e=1∨e=2∨e=3∨e=4∨e=5∨e=6∨e=7∨e=8∨e=9∨e=10∨e=11∨e=12∨e=13∨e=14∨e=15∨e=16∨e=17∨e=18∨e=19∨e=20)with rfl|rfl|rfl|rfl|rfl|rfl|rfl|rfl|rfl|rfl|rfl|rfl|rfl|rfl|rfl|rfl|rfl|rfl|rfl|rfl
  · exact dm1.voM dc dc
  · exact dm2.voM dc dc
  · exact dm3.voM dc dc
  · exact dm4.voM dc dc
  · exact dm5.voM dc dc
  · exact dm6.voM dc dc
  · exact dm7.voM dc dc
  · exact dm8.voM dc dc
  · exact dm9.voM dc dc
  · exact dm10.voM dc dc
  · exact dm11.voM dc dc
  · exact dm12.voM dc dc
  · exact dm13.voM dc dc
  · exact dm14.voM dc dc
  · exact dm15.voM dc dc
  · exact dm16.voM dc dc
  · exact dm17.voM dc dc
  · exact dm18.voM dc dc
  · exact dm19.voM dc dc
  · exact dm20.voM dc dc
theorem dm_two (s:Nat)(h1:1<=s)(h2:s<=20):∃w,VoM (2*s) w:=by
  rcases(by omega:s<=10∨s=11∨s=12∨s=13∨s=14∨s=15∨s=16∨s=17∨s=18∨s=19∨s=20)with h|rfl|rfl|rfl|rfl|rfl|rfl|rfl|rfl|rfl|rfl
  · exact dm_all _ om om
  · exact dm22.voM dc dc
  · exact dm24.voM dc dc
  · exact dm26.voM dc dc
  · exact dm28.voM dc dc
  · exact dm30.voM dc dc
  · exact dm32.voM dc dc
  · exact dm34.voM dc dc
  · exact dm36.voM dc dc
  · exact dm38.voM dc dc
  · exact dm40.voM dc dc
structure TsP (m s e l h lo up:Int):Prop where
  m1:-20<=m
  m2:m<=20
  s1:1<=s
  s2:s<=20
  e1:1<=e
  e2:e<=20
  l1:-30<=l
  l2:l<=10
  h1:l<h
  h2:h<=l+40
  o1:-64<=lo
  o2:lo<up
  o3:up<=184
  o4:(lo+up)%2=0
theorem made_c {x0 x1 x2 x3 x4 x5 x6:Int}(hx0:In64 x0)(hx1:In64 x1)(hx2:In64 x2)(hx3:In64 x3)(hx4:In64 x4)(hx5:In64 x5)(hx6:In64 x6):
    ∃m s e l h lo up:Int,TsP m s e l h lo up∧∀w:World,CL 9 #[.agg #[.int .i64 x0,.int .i64 x1,.int .i64 x2,.int .i64 x3,.int .i64 x4,.int .i64 x5,.int .i64 x6]] w (Ret w λv _=>v=.agg (t7 m 10 s 10 e 20 l 10 h 10 lo 20 up 20)):=by
  have b0:=pick_bd x0 41 dc
  have b1:=pick_bd x1 20 dc
  have b2:=pick_bd x2 20 dc
  have b3:=pick_bd x3 41 dc
  have b4:=pick_bd x4 40 dc
  have b5:=pick_bd x5 9 dc
  have key:∀(bo:Bool) (ra sa za:Int),(bo=decide (2*(pickI x3 41-30)+(pickI x5 9-4)<2*(pickI x3 41-30+(1+pickI x4 40))-(pickI x5 9-4)))->(bo=true->ra=2*(pickI x3 41-30)+(pickI x5 9-4)∧sa=2*(pickI x3 41-30+(1+pickI x4 40))-(pickI x5 9-4))->(bo=false->ra=2*(pickI x3 41-30)∧sa=2*(pickI x3 41-30+(1+pickI x4 40)))->(pickI x6 4=0->za=sa+2*(1+pickI x4 40))->(¬pickI x6 4=0->za=sa)->-200<=sa->sa<=200->
      ∀w:World,CL 9 #[.agg #[.int .i64 x0,.int .i64 x1,.int .i64 x2,.int .i64 x3,.int .i64 x4,.int .i64 x5,.int .i64 x6]] w (Ret w λv _=>v=.agg (t7 (pickI x0 41-20) 10 (1+pickI x1 20) 10 (1+pickI x2 20) 20 (pickI x3 41-30) 10 (pickI x3 41-30+(1+pickI x4 40)) 10 ra 20 za 20)):=by
    intro bo ra sa za hbo hT hF hZ hN _ _ w
    refine made15_ok (w:=w) (bo:=bo) (ha:=pickI x3 41-30+(1+pickI x4 40)) (hb:=10) (la:=2*(pickI x3 41-30)+(pickI x5 9-4)) (lb:=20) (ua:=2*(pickI x3 41-30+(1+pickI x4 40))-(pickI x5 9-4)) (ub:=20) (ra:=ra) (rb:=20) (sa:=sa) (sb:=20) (za:=za) (zb:=20) hx0 hx1 hx2 hx3 hx4 hx5 hx6 rfl rfl rfl rfl rfl rfl rfl b0 b1 b2 b3 b4 b5
      (q9_12 om dc dc) (q9_12 om dc dc) (q9_12 om dc dc) (q9_12 om dc dc) (q9_12 om dc dc) (q9_12 om dc dc) (q9_12 om dc dc)
      (qR_congr dc dc om) (qR_congr dc dc om) (qR_congr dc dc om) ?_ ?_ ?_ ?_ ?_
    · rw[hbo];exact decide_eq_decide.2 ⟨λh=>by have:=cmpI_neg.1 h;omega,λh=>cmpI_neg.2 om⟩
    · intro h;obtain⟨h1,h2⟩:=hT h;subst h1;subst h2;exact⟨rfl,rfl⟩
    · intro h;obtain⟨h1,h2⟩:=hF h;subst h1;subst h2;exact⟨qR_congr dc dc om,qR_congr dc dc om⟩
    · intro h;rw[hZ h];exact qR_congr dc dc om
    · intro h;rw[hN h]
  obtain⟨sp,hsp,_,_,_⟩:∃sp:Int,(if pickI x6 4=0 then 2*(1+pickI x4 40)else 0)=sp∧0<=sp∧sp<=80∧sp%2=0:=by
    refine⟨_,rfl,?_,?_,?_⟩ <;>split <;>omega
  have z1:∀sa:Int,pickI x6 4=0->sa+sp=sa+2*(1+pickI x4 40):=λsa h=>by rw[if_pos h]at hsp;omega
  have z2:∀sa:Int,¬pickI x6 4=0->sa+sp=sa:=λsa h=>by rw[if_neg h]at hsp;omega
  by_cases h:2*(pickI x3 41-30)+(pickI x5 9-4)<2*(pickI x3 41-30+(1+pickI x4 40))-(pickI x5 9-4)
  · exact⟨_,_,_,_,_,_,_,⟨by omega,by omega,by omega,by omega,by omega,by omega,by omega,by omega,by omega,by omega,by omega,by omega,by omega,by omega⟩,
      key true _ _ _ (decide_eq_true h).symm (λ_=>⟨rfl,rfl⟩) (λh=>by cases h) (z1 _) (z2 _) om om⟩
  · exact⟨_,_,_,_,_,_,_,⟨by omega,by omega,by omega,by omega,by omega,by omega,by omega,by omega,by omega,by omega,by omega,by omega,by omega,by omega⟩,
      key false _ _ _ (decide_eq_false h).symm (λh=>by cases h) (λ_=>⟨rfl,rfl⟩) (z1 _) (z2 _) om om⟩
end Go.Proofs.YtmehbpjpbbhohaaGreatDoor
namespace Go.Proofs.YtmehbpjpbbhohaaGreatDoor
set_option maxRecDepth 100000
open Go Go.Eng Go.RowKit
attribute [local irreducible] wpListIn Code.wpIn Oper.wpIn Exit.then Exit.inBlock Exit.noGoto
set_option maxHeartbeats 40000000
theorem krRjp {p:Prop}(h:p:=by kernel_rfl):p:=h
theorem erRjp {w:World}:Ext w w:=Ext.refl _
theorem meets_ok {vaa vba waa wba vab vbb wab wbb vac vbc wac wbc:Int}{w:World}(hM:∀W,Tb W->CL 66 #[IV vaa vba waa wba,IV vab vbb wab wbb] W (Ret W λv _=>v=.tuple #[IV vac vbc wac wbc,.int .i64 (0)]))(ht:Tb w):
    CL 28 #[IV vaa vba waa wba,IV vab vbb wab wbb] w (Ret w λv w'=>v=.bool true):=by
 refine f_in Tryz.func28 rfl ?_;refine go ?_;refine bx (λaoq aor sc=>?_);have r8:=aor.2;refine bx (λ_ aop aol=>?_);have⟨sc,r8⟩:=be1 aop.2 sc r8;refine go ?_;refine l_op (k_loadA (cs:=[S (qR vaa vba).1,S (qR vaa vba).2,S (qR waa wba).1,S (qR waa wba).2]) (b:=w.heap.size) (o:=0) U1032 rfl sz1032 rfl (Blk.cells sc (i:=0) rfl) ?_);refine l_op (k_loadA (cs:=[S (qR vab vbb).1,S (qR vab vbb).2,S (qR wab wbb).1,S (qR wab wbb).2]) (b:=aoq.heap.size) (o:=0) U1032 rfl sz1032 rfl (Blk.cells aol (i:=0) rfl) ?_);refine cl en2022 ((hM _ (ht.ext r8))) ?_;rintro _ _ aon rfl;have⟨sc,aol,r8⟩:=be2 aon.2 sc aol r8;refine go ?_;refine al inf1032 (λ_ aoo aot=>?_);have⟨sc,aol,r8⟩:=be2 aoo.2 sc aol r8;refine SA aot (λ_ aom _=>?_);have⟨sc,aol,r8,_⟩:=pl2 aom sc aol r8;refine go ?_;exact f_ret1 (t:=4) (v:=.bool (decide (0=0))) rfl r8 rfl rfl
theorem meets_walk {x0 x1 x2 x3 x4 x5 x6 y0 y1 m s e l h lo up p q vaa vba waa wba vab vbb wab wbb vac vbc wac wbc vad vbd wad wbd:Int}{n k:Nat}{w:World}(hy0:In64 y0)(hy1:In64 y1)(ep:pickI y0 8=p)(eq:pickI y1 8=q)(p0:0<=p∧p<8)(q0:0<=q∧q<8)(hn:1+p=(n:Int))(hk:1+q=(k:Int))(hSa:∀W,Tb W->CL 8 #[] W (Ret W λv _=>v=.bool (true)))(hMd:∀W,Tb W->CL 9 #[.agg #[.int .i64 (x0),.int .i64 (x1),.int .i64 (x2),.int .i64 (x3),.int .i64 (x4),.int .i64 (x5),.int .i64 (x6)]] W (Ret W λv _=>v=.agg (t7 m 10 s 10 e 20 l 10 h 10 lo 20 up 20)))(hCa:∀W,Tb W->CL 14 #[.agg (t7 m 10 s 10 e 20 l 10 h 10 lo 20 up 20),.int .i64 n,.int .i64 (4)] W (Ret W λv _=>v=.tuple #[IV vaa vba waa wba,.int .i64 (0)]))(hCb:∀W,Tb W->CL 14 #[.agg (t7 m 10 s 10 e 20 l 10 h 10 lo 20 up 20),.int .i64 k,.int .i64 (4)] W (Ret W λv _=>v=.tuple #[IV vab vbb wab wbb,.int .i64 (0)]))(hPc:∀W,Tb W->CL 15 #[.agg (t7 m 10 s 10 e 20 l 10 h 10 lo 20 up 20),.int .i64 n,.int .i64 (4)] W (Ret W λv _=>v=.tuple #[IV vac vbc wac wbc,.int .i64 (0)]))(hPd:∀W,Tb W->CL 15 #[.agg (t7 m 10 s 10 e 20 l 10 h 10 lo 20 up 20),.int .i64 k,.int .i64 (4)] W (Ret W λv _=>v=.tuple #[IV vad vbd wad wbd,.int .i64 (0)]))(hMa:∀W,Tb W->CL 28 #[IV vaa vba waa wba,IV vab vbb wab wbb] W (Ret W λv _=>v=.bool (true)))(hMc:∀W,Tb W->CL 28 #[IV vac vbc wac wbc,IV vad vbd wad wbd] W (Ret W λv _=>v=.bool (true)))(ht:Tb w):
    CL 7 #[.agg #[.int .i64 x0,.int .i64 x1,.int .i64 x2,.int .i64 x3,.int .i64 x4,.int .i64 x5,.int .i64 x6],.int .i64 y0,.int .i64 y1] w (Ret w λv w'=>v=.bool true):=by
 refine f_in Tryz.func7 rfl ?_;refine go ?_;refine bx (λ_ ar1 sc=>?_);have r8:=ar1.2;refine go ?_;refine cl en3008 ((hSa _ (ht.ext r8))) ?_;rintro _ _ ap8 rfl;have⟨sc,r8⟩:=be1 ap8.2 sc r8;refine go ?_;refine l_op (k_loadA (cs:=[.int .i64 x0,.int .i64 x1,.int .i64 x2,.int .i64 x3,.int .i64 x4,.int .i64 x5,.int .i64 x6]) (b:=w.heap.size) (o:=0) U2022 rfl sz2022 rfl (Blk.cells sc (i:=0) rfl) ?_);refine cl en3009 ((hMd _ (ht.ext r8))) ?_;rintro _ aom ap9 rfl;have⟨sc,r8⟩:=be1 ap9.2 sc r8;refine al inf2296 (λ_ aqa ar2=>?_);have⟨sc,r8⟩:=be1 aqa.2 sc r8;refine l_op (k_storeA (b:=aom.heap.size) (o:=0) (vs:=[S (qR m 10).1,S (qR m 10).2,S (qR s 10).1,S (qR s 10).2,S (qR e 20).1,S (qR e 20).2,S (qR l 10).1,S (qR l 10).2,S (qR h 10).1,S (qR h 10).2,S (qR lo 20).1,S (qR lo 20).2,S (qR up 20).1,S (qR up 20).2]) sz2296 rfl rfl (by simp[Value.oneCell',S]) ar2 (Nat.le_of_ble_eq_true rfl) (λar3 apc ao6=>?_));have ao6:=Blk.cst ao6 (cs:=(t7 m 10 s 10 e 20 l 10 h 10 lo 20 up 20)) krRjp;have⟨sc,r8,_⟩:=pl1 apc sc r8;refine go ?_
 refine c_dv hmix 10 [9,20,21,22,23,24,25,26,27] [some (21,.agg (t7 m 10 s 10 e 20 l 10 h 10 lo 20 up 20)),some (22,.int .i64 y0),some (23,.int .i64 p),some (24,.int .i64 n),some (25,.tuple #[IV vaa vba waa wba,.int .i64 0]),some (20,.tuple #[IV vaa vba waa wba,.int .i64 0]),some (26,IV vaa vba waa wba),some (27,.int .i64 0),none,none] (XA ar3 8 9 9 33 #[S ([]),S ([]),S ([]),S ([])] #[S (qR vaa vba).1,S (qR vaa vba).2,S (qR waa wba).1,S (qR waa wba).2]) XA.start krRjp krRjp krRjp ?_ ?_;refine⟨λaw3 _ _ ar4 _ aqb _ _ _=>?_,?_⟩;obtain⟨aw3,rfl⟩:=ovE ar4;have ar5:=(be aqb.1 ao6);refine l_op (k_loadA (cs:=[S (qR m 10).1,S (qR m 10).2,S (qR s 10).1,S (qR s 10).2,S (qR e 20).1,S (qR e 20).2,S (qR l 10).1,S (qR l 10).2,S (qR h 10).1,S (qR h 10).2,S (qR lo 20).1,S (qR lo 20).2,S (qR up 20).1,S (qR up 20).2]) (b:=aom.heap.size) (o:=0) U2296 rfl sz2296 rfl (Blk.cells ar5 (i:=0) krRjp) ?_);refine go ?_;exact dvA rfl aqb erRjp;refine⟨λaxa _ _ ar6 _ ar7 _ _ _=>?_,?_⟩;obtain⟨axa,rfl⟩:=ovE ar6;refine go ?_;exact dvA rfl ar7 erRjp;refine⟨λar8 _ _ axj ar9 aqc _ _ _=>?_,?_⟩;obtain⟨ar8,rfl⟩:=ovE axj;have asa:=zpv (ar9 1 _ _ rfl rfl);refine clb en3010 (hc:=cEqZ (pickL15_ok y0 8 _ hy0 om) ep) (hk:=?_) (hv:=cons_eq asa (cons_eq rfl rfl));rintro _ _ aqe rfl;refine go ?_
 exact dvA rfl aqc aqe.2;refine⟨λasb _ _ axr asc asd _ _ _=>?_,?_⟩;obtain⟨asb,rfl⟩:=ovE axr;have ase:=zpv (asc 2 _ _ rfl rfl);refine l_op (k_add (a:=1) (b:=p) (c:=(n:Int)) rfl ase (by unfold In64;omega) hn ?_);refine go ?_;exact dvA rfl asd erRjp;refine⟨λaqf _ _ axx aqg aqh _ _ _=>?_,?_⟩;obtain⟨aqf,rfl⟩:=ovE axx;have asf:=zpv (aqg 0 _ _ rfl rfl);have asg:=zpv (aqg 3 _ _ rfl rfl);have apd:=xt r8 aqh.1;refine cl en3014 ((hCa _ (ht.ext apd))) ?_ (cons_eq asf (cons_eq asg (cons_eq rfl rfl)));rintro _ _ aqi rfl;refine go ?_;exact dvA rfl aqh aqi.2;refine⟨λash _ _ ax5 asi asj _ _ _=>?_,?_⟩;obtain⟨ash,rfl⟩:=ovE ax5;have ask:=zpv (asi 4 _ _ rfl rfl);refine go ?_;exact dvA rfl asj erRjp;refine⟨λasl _ _ ayb asm aso _ _ _=>?_,?_⟩;obtain⟨asl,rfl⟩:=ovE ayb;have asp:=zpv (asm 5 _ _ rfl rfl);refine go ?_;exact dvA rfl aso erRjp;refine⟨λasq _ _ ayh asr ass _ _ _=>?_,?_⟩;obtain⟨asq,rfl⟩:=ovE ayh;have ast:=zpv (asr 5 _ _ rfl rfl);refine go ?_;exact dvA rfl ass erRjp;refine⟨λayl _ _ ayo _ aqj asu asv _=>?_,?_⟩;obtain⟨ayl,rfl⟩:=ovE ayo;have ape:=xt r8 aqj.1;have ayr:=bz ape;refine al inf1032 (λ_ aqk asw=>?_);refine go ?_;exact dvAa rfl aqj (unl asu (i:=8) (j:=9) rfl asv) aqk.2 asw;refine⟨λasx _ _ ayv asy apf _ asz as0=>?_,?_⟩;obtain⟨asx,rfl⟩:=ovE ayv;have as1:=zpv (asy 6 _ _ rfl rfl)
 have apg:=xt r8 apf.1;have ayx:=bz apg;obtain⟨_,ao7,as3,as4⟩:=XA.opn apf (as0 8 rfl) asz;have ao7:=zpv ao7;have ayy:=bz r8;refine SA as4 (λ_ aph as5=>?_);have ay0:=psz aph;refine go ?_;exact dvAs (.inr rfl) apf ao7 as3 aph as5;exact trivial;intro api as6 _ aql ao8 as7 ao3;obtain⟨api,rfl⟩:=ovE ao8;have aqm:=(be ao3.1 sc);have ay2:=bt aqm;have apj:=(be ao3.1 ao6);have ay3:=bt apj;have aop:=xt r8 ao3.1;have ay4:=bz aop;have ay5:=bz ao3.1;obtain⟨_,apk,_,aqo⟩:=XA.fin ao3 (aql 8 rfl) (.inl (aql 9 rfl));have apk:=zpv apk;have ay7:=bt aqo;have as8:=zpv (as7 7 _ _ rfl rfl);refine go ?_;refine c_dv hmix 10 [11,28,29,30,31,32,33,34,35] [some (29,.agg (t7 m 10 s 10 e 20 l 10 h 10 lo 20 up 20)),some (30,.int .i64 y1),some (31,.int .i64 q),some (32,.int .i64 k),some (33,.tuple #[IV vab vbb wab wbb,.int .i64 0]),some (28,.tuple #[IV vab vbb wab wbb,.int .i64 0]),some (34,IV vab vbb wab wbb),some (35,.int .i64 0),none,none] (XA as6 8 9 11 33 #[S ([]),S ([]),S ([]),S ([])] #[S (qR vab vbb).1,S (qR vab vbb).2,S (qR wab wbb).1,S (qR wab wbb).2]) XA.start krRjp krRjp krRjp ?_ ?_;refine⟨λay8 _ _ as9 _ aqr _ _ _=>?_,?_⟩;obtain⟨ay8,rfl⟩:=ovE as9;have ata:=(be aqr.1 apj)
 refine l_op (k_loadA (cs:=[S (qR m 10).1,S (qR m 10).2,S (qR s 10).1,S (qR s 10).2,S (qR e 20).1,S (qR e 20).2,S (qR l 10).1,S (qR l 10).2,S (qR h 10).1,S (qR h 10).2,S (qR lo 20).1,S (qR lo 20).2,S (qR up 20).1,S (qR up 20).2]) (b:=aom.heap.size) (o:=0) U2296 rfl sz2296 rfl (Blk.cells ata (i:=0) krRjp) ?_);refine go ?_;exact dvA rfl aqr erRjp;refine⟨λazf _ _ atb _ atc _ _ _=>?_,?_⟩;obtain⟨azf,rfl⟩:=ovE atb;refine go ?_;exact dvA rfl atc erRjp;refine⟨λatd _ _ azo ate aqs _ _ _=>?_,?_⟩;obtain⟨atd,rfl⟩:=ovE azo;have atf:=zpv (ate 1 _ _ rfl rfl);refine clb en3010 (hc:=cEqZ (pickL15_ok y1 8 _ hy1 om) eq) (hk:=?_) (hv:=cons_eq atf (cons_eq rfl rfl));rintro _ _ aqu rfl;refine go ?_;exact dvA rfl aqs aqu.2;refine⟨λatg _ _ azw ath ati _ _ _=>?_,?_⟩;obtain⟨atg,rfl⟩:=ovE azw;have atj:=zpv (ath 2 _ _ rfl rfl);refine l_op (k_add (a:=1) (b:=q) (c:=(k:Int)) rfl atj (by unfold In64;omega) hk ?_);refine go ?_;exact dvA rfl ati erRjp;refine⟨λaqv _ _ az2 aqw aqx _ _ _=>?_,?_⟩;obtain⟨aqv,rfl⟩:=ovE az2;have atk:=zpv (aqw 0 _ _ rfl rfl);have atl:=zpv (aqw 3 _ _ rfl rfl);have apl:=xt aop aqx.1;refine cl en3014 ((hCb _ (ht.ext apl))) ?_ (cons_eq atk (cons_eq atl (cons_eq rfl rfl)));rintro _ _ aqy rfl;refine go ?_;exact dvA rfl aqx aqy.2;refine⟨λatm _ _ a0a atn ato _ _ _=>?_,?_⟩
 obtain⟨atm,rfl⟩:=ovE a0a;have atp:=zpv (atn 4 _ _ rfl rfl);refine go ?_;exact dvA rfl ato erRjp;refine⟨λatq _ _ a0g atr att _ _ _=>?_,?_⟩;obtain⟨atq,rfl⟩:=ovE a0g;have atu:=zpv (atr 5 _ _ rfl rfl);refine go ?_;exact dvA rfl att erRjp;refine⟨λatv _ _ a0m atw atx _ _ _=>?_,?_⟩;obtain⟨atv,rfl⟩:=ovE a0m;have aty:=zpv (atw 5 _ _ rfl rfl);refine go ?_;exact dvA rfl atx erRjp;refine⟨λa0q _ _ a0t _ aqz atz at0 _=>?_,?_⟩;obtain⟨a0q,rfl⟩:=ovE a0t;have apm:=xt aop aqz.1;have a0w:=bz apm;refine al inf1032 (λ_ aq0 at1=>?_);refine go ?_;exact dvAa rfl aqz (unl atz (i:=8) (j:=9) rfl at0) aq0.2 at1;refine⟨λat2 _ _ a00 at3 apn _ at4 at6=>?_,?_⟩;obtain⟨at2,rfl⟩:=ovE a00;have at7:=zpv (at3 6 _ _ rfl rfl);have apo:=xt aop apn.1;have a02:=bz apo;obtain⟨_,ao9,at9,aua⟩:=XA.opn apn (at6 8 rfl) at4;have ao9:=zpv ao9;have a03:=bz aop;refine SA aua (λ_ apq aub=>?_);have a05:=psz apq;refine go ?_;exact dvAs (.inr rfl) apn ao9 at9 apq aub;exact trivial;intro apr auc _ aq1 aox aud aoy;obtain⟨apr,rfl⟩:=ovE aox;have aq2:=(be aoy.1 aqm);have a07:=bt aq2;have aps:=(be aoy.1 apj);have a08:=bt aps;have aq3:=(be aoy.1 aqo);have a09:=bt aq3;have aoq:=xt aop aoy.1;have a1a:=bz aoq;have a1b:=bz aoy.1;obtain⟨_,apt,_,aq5⟩:=XA.fin aoy (aq1 8 rfl) (.inl (aq1 9 rfl));have apt:=zpv apt;have a1d:=bt aq5
 have aue:=zpv (aud 7 _ _ rfl rfl);refine go ?_;refine c_dv hmix 10 [13,36,37,38,39,40,41,42,43] [some (37,.agg (t7 m 10 s 10 e 20 l 10 h 10 lo 20 up 20)),some (38,.int .i64 y0),some (39,.int .i64 p),some (40,.int .i64 n),some (41,.tuple #[IV vac vbc wac wbc,.int .i64 0]),some (36,.tuple #[IV vac vbc wac wbc,.int .i64 0]),some (42,IV vac vbc wac wbc),some (43,.int .i64 0),none,none] (XA auc 8 9 13 33 #[S ([]),S ([]),S ([]),S ([])] #[S (qR vac vbc).1,S (qR vac vbc).2,S (qR wac wbc).1,S (qR wac wbc).2]) XA.start krRjp krRjp krRjp ?_ ?_;refine⟨λa1e _ _ aug _ aq7 _ _ _=>?_,?_⟩;obtain⟨a1e,rfl⟩:=ovE aug;have auh:=(be aq7.1 aps);refine l_op (k_loadA (cs:=[S (qR m 10).1,S (qR m 10).2,S (qR s 10).1,S (qR s 10).2,S (qR e 20).1,S (qR e 20).2,S (qR l 10).1,S (qR l 10).2,S (qR h 10).1,S (qR h 10).2,S (qR lo 20).1,S (qR lo 20).2,S (qR up 20).1,S (qR up 20).2]) (b:=aom.heap.size) (o:=0) U2296 rfl sz2296 rfl (Blk.cells auh (i:=0) krRjp) ?_);refine go ?_;exact dvA rfl aq7 erRjp;refine⟨λa1l _ _ aui _ auj _ _ _=>?_,?_⟩;obtain⟨a1l,rfl⟩:=ovE aui;refine go ?_;exact dvA rfl auj erRjp;refine⟨λauk _ _ a1u aul aq8 _ _ _=>?_,?_⟩;obtain⟨auk,rfl⟩:=ovE a1u;have aum:=zpv (aul 1 _ _ rfl rfl)
 refine clb en3010 (hc:=cEqZ (pickL15_ok y0 8 _ hy0 om) ep) (hk:=?_) (hv:=cons_eq aum (cons_eq rfl rfl));rintro _ _ ara rfl;refine go ?_;exact dvA rfl aq8 ara.2;refine⟨λaun _ _ a13 auo aup _ _ _=>?_,?_⟩;obtain⟨aun,rfl⟩:=ovE a13;have auq:=zpv (auo 2 _ _ rfl rfl);refine l_op (k_add (a:=1) (b:=p) (c:=(n:Int)) rfl auq (by unfold In64;omega) hn ?_);refine go ?_;exact dvA rfl aup erRjp;refine⟨λarb _ _ a19 arc ard _ _ _=>?_,?_⟩;obtain⟨arb,rfl⟩:=ovE a19;have aur:=zpv (arc 0 _ _ rfl rfl);have aus:=zpv (arc 3 _ _ rfl rfl);have apu:=xt aoq ard.1;refine cl en3015 ((hPc _ (ht.ext apu))) ?_ (cons_eq aur (cons_eq aus (cons_eq rfl rfl)));rintro _ _ arf rfl;refine go ?_;exact dvA rfl ard arf.2;refine⟨λaut _ _ a2h auu auv _ _ _=>?_,?_⟩;obtain⟨aut,rfl⟩:=ovE a2h;have auw:=zpv (auu 4 _ _ rfl rfl);refine go ?_;exact dvA rfl auv erRjp;refine⟨λaux _ _ a2n auy auz _ _ _=>?_,?_⟩;obtain⟨aux,rfl⟩:=ovE a2n;have au0:=zpv (auy 5 _ _ rfl rfl);refine go ?_;exact dvA rfl auz erRjp;refine⟨λau1 _ _ a2t au2 au3 _ _ _=>?_,?_⟩;obtain⟨au1,rfl⟩:=ovE a2t;have au4:=zpv (au2 5 _ _ rfl rfl);refine go ?_;exact dvA rfl au3 erRjp;refine⟨λa2x _ _ a22 _ arh au5 au6 _=>?_,?_⟩;obtain⟨a2x,rfl⟩:=ovE a22;have apv:=xt aoq arh.1;have a25:=bz apv;refine al inf1032 (λ_ ari au7=>?_);refine go ?_
 exact dvAa rfl arh (unl au5 (i:=8) (j:=9) rfl au6) ari.2 au7;refine⟨λau8 _ _ a29 au9 apw _ ava avb=>?_,?_⟩;obtain⟨au8,rfl⟩:=ovE a29;have avc:=zpv (au9 6 _ _ rfl rfl);have apx:=xt aoq apw.1;have a3b:=bz apx;obtain⟨_,apa,ave,avf⟩:=XA.opn apw (avb 8 rfl) ava;have apa:=zpv apa;have a3c:=bz aoq;refine SA avf (λ_ apy avg=>?_);have a3e:=psz apy;refine go ?_;exact dvAs (.inr rfl) apw apa ave apy avg;exact trivial;intro apz avh _ arj aor avi aos;obtain⟨apz,rfl⟩:=ovE aor;have ark:=(be aos.1 aq2);have a3g:=bt ark;have ap0:=(be aos.1 aps);have a3h:=bt ap0;have arl:=(be aos.1 aq3);have a3i:=bt arl;have arm:=(be aos.1 aq5);have a3j:=bt arm;have aot:=xt aoq aos.1;have a3k:=bz aot;have a3l:=bz aos.1;obtain⟨_,ap1,_,aro⟩:=XA.fin aos (arj 8 rfl) (.inl (arj 9 rfl));have ap1:=zpv ap1;have a3n:=bt aro;have avj:=zpv (avi 7 _ _ rfl rfl);refine go ?_
 refine c_dv hmix 10 [15,44,45,46,47,48,49,50,51] [some (45,.agg (t7 m 10 s 10 e 20 l 10 h 10 lo 20 up 20)),some (46,.int .i64 y1),some (47,.int .i64 q),some (48,.int .i64 k),some (49,.tuple #[IV vad vbd wad wbd,.int .i64 0]),some (44,.tuple #[IV vad vbd wad wbd,.int .i64 0]),some (50,IV vad vbd wad wbd),some (51,.int .i64 0),none,none] (XA avh 8 9 15 33 #[S ([]),S ([]),S ([]),S ([])] #[S (qR vad vbd).1,S (qR vad vbd).2,S (qR wad wbd).1,S (qR wad wbd).2]) XA.start krRjp krRjp krRjp ?_ ?_;refine⟨λa3o _ _ avm _ arp _ _ _=>?_,?_⟩;obtain⟨a3o,rfl⟩:=ovE avm;have avn:=(be arp.1 ap0);refine l_op (k_loadA (cs:=[S (qR m 10).1,S (qR m 10).2,S (qR s 10).1,S (qR s 10).2,S (qR e 20).1,S (qR e 20).2,S (qR l 10).1,S (qR l 10).2,S (qR h 10).1,S (qR h 10).2,S (qR lo 20).1,S (qR lo 20).2,S (qR up 20).1,S (qR up 20).2]) (b:=aom.heap.size) (o:=0) U2296 rfl sz2296 rfl (Blk.cells avn (i:=0) krRjp) ?_);refine go ?_;exact dvA rfl arp erRjp;refine⟨λa3v _ _ avo _ avp _ _ _=>?_,?_⟩;obtain⟨a3v,rfl⟩:=ovE avo;refine go ?_;exact dvA rfl avp erRjp;refine⟨λavq _ _ a34 avr arq _ _ _=>?_,?_⟩;obtain⟨avq,rfl⟩:=ovE a34;have avs:=zpv (avr 1 _ _ rfl rfl);refine clb en3010 (hc:=cEqZ (pickL15_ok y1 8 _ hy1 om) eq) (hk:=?_) (hv:=cons_eq avs (cons_eq rfl rfl));rintro _ _ ars rfl;refine go ?_
 exact dvA rfl arq ars.2;refine⟨λavt _ _ a4d avu avv _ _ _=>?_,?_⟩;obtain⟨avt,rfl⟩:=ovE a4d;have avw:=zpv (avu 2 _ _ rfl rfl);refine l_op (k_add (a:=1) (b:=q) (c:=(k:Int)) rfl avw (by unfold In64;omega) hk ?_);refine go ?_;exact dvA rfl avv erRjp;refine⟨λart _ _ a4j aru arv _ _ _=>?_,?_⟩;obtain⟨art,rfl⟩:=ovE a4j;have avx:=zpv (aru 0 _ _ rfl rfl);have avy:=zpv (aru 3 _ _ rfl rfl);have ap2:=xt aot arv.1;refine cl en3015 ((hPd _ (ht.ext ap2))) ?_ (cons_eq avx (cons_eq avy (cons_eq rfl rfl)));rintro _ _ arw rfl;refine go ?_;exact dvA rfl arv arw.2;refine⟨λavz _ _ a4r av0 av1 _ _ _=>?_,?_⟩;obtain⟨avz,rfl⟩:=ovE a4r;have av2:=zpv (av0 4 _ _ rfl rfl);refine go ?_;exact dvA rfl av1 erRjp;refine⟨λav3 _ _ a4x av4 av5 _ _ _=>?_,?_⟩;obtain⟨av3,rfl⟩:=ovE a4x;have av6:=zpv (av4 5 _ _ rfl rfl);refine go ?_;exact dvA rfl av5 erRjp;refine⟨λav7 _ _ a43 av8 av9 _ _ _=>?_,?_⟩;obtain⟨av7,rfl⟩:=ovE a43;have awa:=zpv (av8 5 _ _ rfl rfl);refine go ?_;exact dvA rfl av9 erRjp;refine⟨λa48 _ _ a5b _ arx awb awc _=>?_,?_⟩;obtain⟨a48,rfl⟩:=ovE a5b;have ap3:=xt aot arx.1;have a5e:=bz ap3;refine al inf1032 (λ_ ary awd=>?_);refine go ?_;exact dvAa rfl arx (unl awb (i:=8) (j:=9) rfl awc) ary.2 awd;refine⟨λawe _ _ a5i awf ap4 _ awg awh=>?_,?_⟩;obtain⟨awe,rfl⟩:=ovE a5i;have awi:=zpv (awf 6 _ _ rfl rfl)
 have ap5:=xt aot ap4.1;have a5k:=bz ap5;obtain⟨_,apb,awk,awl⟩:=XA.opn ap4 (awh 8 rfl) awg;have apb:=zpv apb;have a5l:=bz aot;refine SA awl (λ_ ap6 awm=>?_);have a5n:=psz ap6;refine go ?_;exact dvAs (.inr rfl) ap4 apb awk ap6 awm;exact trivial;intro aol _ _ arz aou awn aon;obtain⟨aol,rfl⟩:=ovE aou;have ao4:=(be aon.1 ark);have a5q:=bt ao4;have ao5:=(be aon.1 ap0);have a5r:=bt ao5;have aoz:=(be aon.1 arl);have a5s:=bt aoz;have ao0:=(be aon.1 arm);have a5t:=bt ao0;have ao1:=(be aon.1 aro);have a5u:=bt ao1;have aoo:=xt aot aon.1;have a5v:=bz aoo;have a5w:=bz aon.1;obtain⟨_,ap7,_,ao2⟩:=XA.fin aon (arz 8 rfl) (.inl (arz 9 rfl));have ap7:=zpv ap7;have a5y:=bt ao2;have awo:=zpv (awn 7 _ _ rfl rfl);refine go ?_;refine cl en3028 ((hMa _ (ht.ext aoo))) ?_;rintro _ _ aov rfl;have⟨ao1,ao2,aoo⟩:=be2 aov.2 ao1 ao2 aoo;refine go ?_;refine cl en3028 ((hMc _ (ht.ext aoo))) ?_;rintro _ _ aow rfl;have aoo:=xt aoo aow.2;refine go ?_;exact f_ret1 (t:=6) (v:=.bool true) rfl aoo rfl rfl
theorem krDp2 {p:Prop}(h:p:=by kernel_rfl):p:=h
theorem erDp2 {w:World}:Ext w w:=Ext.refl _
theorem hull_ok {A:Option Addr}{cp lo:Nat}{x y:R}{a b c d:Int}{w:World}(hr:Rw w lo A (cellsR [x,y]))(e1:x=qR a b)(e2:y=qR c d)(h1:Q9 a b)(h2:Q9 c d)(ht:Tb w):
    CL 110 #[.slice A 2 cp] w (Ret w λv w'=>v=.agg #[S ((minQ a b c d).1),S ((minQ a b c d).2),S ((maxQ a b c d).1),S ((maxQ a b c d).2)]):=by
 subst e1 e2;refine f_in Tryz.func110 rfl ?_;refine go ?_;refine al inf1032 (λ_ aoo sc=>?_);have r8:=aoo.2;refine go ?_;refine cl en2087 (minFunc_ok (x:=qR a b) (y:=qR c d) (hr.ext r8) rfl (λW e=>qCmpX h2 h1 ((ht.ext r8).ext e))) ?_;rintro _ _ aol rfl;have⟨sc,r8⟩:=be1 aol.2 sc r8;refine go ?_;refine cl en2088 (maxFunc_ok (x:=qR a b) (y:=qR c d) (hr.ext r8) rfl (λW e=>qCmpX h2 h1 ((ht.ext r8).ext e))) ?_;rintro _ _ aom rfl;have⟨sc,r8⟩:=be1 aom.2 sc r8;refine l_op (k_build (vs:=[(0,.agg #[S ((minQ a b c d).1),S ((minQ a b c d).2)]),(1,.agg #[S ((maxQ a b c d).1),S ((maxQ a b c d).2)])]) (cells:=#[S ((minQ a b c d).1),S ((minQ a b c d).2),S ((maxQ a b c d).1),S ((maxQ a b c d).2)]) (pl:=[(0,2),(2,2)]) U1032 inf1032 krDp2 rfl krDp2 ?_);refine SA sc (λ_ aon aop=>?_);have r8:=plw aon r8;have aow:=psz aon;refine go ?_;refine f_out (v:=.agg #[S ((minQ a b c d).1),S ((minQ a b c d).2),S ((maxQ a b c d).1),S ((maxQ a b c d).2)]) (res1  rfl ?_) r8 rfl;refine res_cellA (t:=2) (cs:=[S ((minQ a b c d).1),S ((minQ a b c d).2),S ((maxQ a b c d).1),S ((maxQ a b c d).2)]) (b:=w.heap.size) (o:=0) U1032 rfl sz1032 ?_ ?_;exact rfl;exact Blk.cells aop (i:=0) rfl
theorem meet1_ok {b1 b2:Nat}{a b c d a' b' c' d':Int}{x y:R×R}{w:World}(e1:x.1=qR a b)(e2:x.2=qR c d)(q1:Q9 a b)(q2:Q9 c d)(e3:y.1=qR a' b')(e4:y.2=qR c' d')(q3:Q9 a' b')(q4:Q9 c' d')(hI:IvR (maxQ a b a' b',minQ c d c' d'))(hb1:Blk w b1 33 #[S x.1.1,S x.1.2,S x.2.1,S x.2.2])(hb2:Blk w b2 33 #[S y.1.1,S y.1.2,S y.2.1,S y.2.2])(ht:Tb w):
    CL 109 #[pT b1,pT b2] w (Ret w λv w'=>v=.agg #[S ((maxQ a b a' b').1),S ((maxQ a b a' b').2),S ((minQ c d c' d').1),S ((minQ c d c' d').2)]):=by
 have zb1:=bt hb1;have zb2:=bt hb2;refine f_in Tryz.func109 rfl ?_;refine go ?_;refine al inf1032 (λap2 ao5 ap3=>?_);have⟨hb1,hb2⟩:=bf2 ao5.2 hb1 hb2;have aop:=ao5.2;refine go ?_;refine c_dv hmix 16 [3,4,5,6,7,8,9,10,11,12,13,14,15,16,17,18] [some (4,pT b1),some (5,.agg #[S (x.1.1),S (x.1.2)]),some (6,pT b2),some (7,.agg #[S (y.1.1),S (y.1.2)]),none,some (9,.agg #[S ((minQ a b a' b').1),S ((minQ a b a' b').2),S ((maxQ a b a' b').1),S ((maxQ a b a' b').2)]),some (10,.agg #[S ((maxQ a b a' b').1),S ((maxQ a b a' b').2)]),some (11,.pointer (some ⟨b1,2,none⟩)),some (12,.agg #[S (x.2.1),S (x.2.2)]),some (13,.pointer (some ⟨b2,2,none⟩)),some (14,.agg #[S (y.2.1),S (y.2.2)]),none,some (16,.agg #[S ((minQ c d c' d').1),S ((minQ c d c' d').2),S ((maxQ c d c' d').1),S ((maxQ c d c' d').2)]),some (17,.agg #[S ((minQ c d c' d').1),S ((minQ c d c' d').2)]),some (18,.agg #[S ((maxQ a b a' b').1),S ((maxQ a b a' b').2),S ((minQ c d c' d').1),S ((minQ c d c' d').2)]),none] (XB (XB (XA ap2 15 999 3 33 #[S ([]),S ([]),S ([]),S ([])] #[S ([]),S ([]),S ([]),S ([])]) 4 8 25 2 #[S (x.1.1),S (x.1.2),S (y.1.1),S (y.1.2)]) 11 15 25 2 #[S (x.2.1),S (x.2.2),S (y.2.1),S (y.2.2)]) (XB.start (XB.start XA.start)) krDp2 krDp2 krDp2 ?_ ?_;refine⟨λarc _ _ ap4 _ ao6 _ _ _=>?_,?_⟩;obtain⟨arc,rfl⟩:=ovE ap4;refine go ?_
 exact dvB (dvB (dvA rfl ao6.1.1 erDp2) ao6.1 (λ_ h=>be erDp2 h)) ao6 (λ_ h=>be erDp2 h);refine⟨λap5 _ _ arn ap6 aoy _ _ _=>?_,?_⟩;obtain⟨ap5,rfl⟩:=ovE arn;have ap7:=zpv (ap6 0 _ _ rfl rfl);have ap8:=(be aoy.1.1.1 hb1);refine go ?_;exact dvB (dvB (dvA rfl aoy.1.1 erDp2) aoy.1 (λ_ h=>be erDp2 h)) aoy (λ_ h=>be erDp2 h);refine⟨λarr _ _ ap9 _ ao7 _ _ _=>?_,?_⟩;obtain⟨arr,rfl⟩:=ovE ap9;refine go ?_;exact dvB (dvB (dvA rfl ao7.1.1 erDp2) ao7.1 (λ_ h=>be erDp2 h)) ao7 (λ_ h=>be erDp2 h);refine⟨λaqa _ _ ar0 aqb aoz _ _ _=>?_,?_⟩;obtain⟨aqa,rfl⟩:=ovE ar0;have aqc:=zpv (aqb 2 _ _ rfl rfl);have aqd:=(be aoz.1.1.1 hb2);refine go ?_;exact dvB (dvB (dvA rfl aoz.1.1 erDp2) aoz.1 (λ_ h=>be erDp2 h)) aoz (λ_ h=>be erDp2 h);refine⟨λapu _ _ ar6 apv ao8 _ _ _=>?_,?_⟩;obtain⟨apu,rfl⟩:=ovE ar6;have aqe:=zpv (apv 1 _ _ rfl rfl);have aqf:=zpv (apv 3 _ _ rfl rfl);have ao9:=xt aop ao8.1.1.1;have asa:=bz ao9;refine l_op (k_bsB (vs:=[(0,.agg #[S (x.1.1),S (x.1.2)]),(1,.agg #[S (y.1.1),S (y.1.2)])]) (cells:=#[S (x.1.1),S (x.1.2),S (y.1.1),S (y.1.2)]) U23 inf36 (cons_eqp aqe (cons_eqp aqf rfl)) dc dc krDp2 (λ_ apa aqg=>?_));refine go ?_;exact dvB (dvBn rfl (XA.up ao8.1.1 apa.2) aqg) ao8 (λ_ h=>be apa.2 h)
 refine⟨λasc _ _ asf _ aoq _ _ aqh=>?_,?_⟩;obtain⟨asc,rfl⟩:=ovE asf;have apb:=xt aop aoq.1.1.1;obtain⟨_,apc,apd⟩:=aoq.1.2 (aqh 4 rfl);have apc:=zpv apc;refine cl en2049 (hull_ok (x:=x.1) (y:=y.1) (Rw.of_own (rw_blk (m:=2) apd rfl)) e1 e3 q1 q3 (ht.ext apb)) ?_ (cons_eq apc rfl);rintro _ _ aor rfl;refine go ?_;exact dvB (dvB (dvA rfl aoq.1.1 aor.2) aoq.1 (λ_ h=>be aor.2 h)) aoq (λ_ h=>be aor.2 h);refine⟨λaqj _ _ aso aqk ape _ _ _=>?_,?_⟩;obtain⟨aqj,rfl⟩:=ovE aso;have aql:=zpv (aqk 5 _ _ rfl rfl);refine l_op (k_fieldI1 aql ?_);refine go ?_;exact dvB (dvB (dvA rfl ape.1.1 erDp2) ape.1 (λ_ h=>be erDp2 h)) ape (λ_ h=>be erDp2 h);refine⟨λass _ _ aqm _ apf _ _ _=>?_,?_⟩;obtain⟨ass,rfl⟩:=ovE aqm;refine go ?_;exact dvB (dvB (dvA rfl apf.1.1 erDp2) apf.1 (λ_ h=>be erDp2 h)) apf (λ_ h=>be erDp2 h);refine⟨λaqn _ _ as1 aqo ao0 _ _ _=>?_,?_⟩;obtain⟨aqn,rfl⟩:=ovE as1;have aqp:=zpv (aqo 7 _ _ rfl rfl);have aqq:=(be ao0.1.1.1 hb1);refine go ?_;exact dvB (dvB (dvA rfl ao0.1.1 erDp2) ao0.1 (λ_ h=>be erDp2 h)) ao0 (λ_ h=>be erDp2 h);refine⟨λas5 _ _ aqr _ apg _ _ _=>?_,?_⟩;obtain⟨as5,rfl⟩:=ovE aqr;refine go ?_;exact dvB (dvB (dvA rfl apg.1.1 erDp2) apg.1 (λ_ h=>be erDp2 h)) apg (λ_ h=>be erDp2 h)
 refine⟨λaqs _ _ ate aqt ao1 _ _ _=>?_,?_⟩;obtain⟨aqs,rfl⟩:=ovE ate;have aqu:=zpv (aqt 9 _ _ rfl rfl);have aqv:=(be ao1.1.1.1 hb2);refine go ?_;exact dvB (dvB (dvA rfl ao1.1.1 erDp2) ao1.1 (λ_ h=>be erDp2 h)) ao1 (λ_ h=>be erDp2 h);refine⟨λapw _ _ atk apx aph _ _ _=>?_,?_⟩;obtain⟨apw,rfl⟩:=ovE atk;have aqw:=zpv (apx 8 _ _ rfl rfl);have aqx:=zpv (apx 10 _ _ rfl rfl);have api:=xt aop aph.1.1.1;have ato:=bz api;refine l_op (k_bsB (vs:=[(0,.agg #[S (x.2.1),S (x.2.2)]),(1,.agg #[S (y.2.1),S (y.2.2)])]) (cells:=#[S (x.2.1),S (x.2.2),S (y.2.1),S (y.2.2)]) U23 inf36 (cons_eqp aqw (cons_eqp aqx rfl)) dc dc krDp2 (λ_ apj aqy=>?_));refine go ?_;exact dvBn rfl (XB.up aph.1 (XA.up aph.1.1 apj.2) apj.2) aqy;refine⟨λatq _ _ atu _ aos _ _ aqz=>?_,?_⟩;obtain⟨atq,rfl⟩:=ovE atu;have apk:=xt aop aos.1.1.1;obtain⟨_,apl,apm⟩:=aos.2 (aqz 11 rfl);have apl:=zpv apl;refine cl en2049 (hull_ok (x:=x.2) (y:=y.2) (Rw.of_own (rw_blk (m:=2) apm rfl)) e2 e4 q2 q4 (ht.ext apk)) ?_ (cons_eq apl rfl);rintro _ _ aot rfl;refine go ?_;exact dvB (dvB (dvA rfl aos.1.1 aot.2) aos.1 (λ_ h=>be aot.2 h)) aos (λ_ h=>be aot.2 h);refine⟨λaq1 _ _ at2 aq2 apn _ _ _=>?_,?_⟩;obtain⟨aq1,rfl⟩:=ovE at2;have aq3:=zpv (aq2 12 _ _ rfl rfl);refine l_op (k_fieldI0 aq3 ?_);refine go ?_
 exact dvB (dvB (dvA rfl apn.1.1 erDp2) apn.1 (λ_ h=>be erDp2 h)) apn (λ_ h=>be erDp2 h);refine⟨λapy _ _ at9 apz apo _ _ _=>?_,?_⟩;obtain⟨apy,rfl⟩:=ovE at9;have aq4:=zpv (apz 6 _ _ rfl rfl);have aq5:=zpv (apz 13 _ _ rfl rfl);refine l_op (k_build (vs:=[(0,.agg #[S ((maxQ a b a' b').1),S ((maxQ a b a' b').2)]),(1,.agg #[S ((minQ c d c' d').1),S ((minQ c d c' d').2)])]) (cells:=#[S ((maxQ a b a' b').1),S ((maxQ a b a' b').2),S ((minQ c d c' d').1),S ((minQ c d c' d').2)]) (pl:=[(0,2),(2,2)]) U1032 inf1032 krDp2 (cons_eqp aq4 (cons_eqp aq5 rfl)) krDp2 ?_);refine go ?_;exact dvB (dvB (dvA rfl apo.1.1 erDp2) apo.1 (λ_ h=>be erDp2 h)) apo (λ_ h=>be erDp2 h);refine⟨λaud _ _ aug _ ao2 _ _ _=>?_,?_⟩;obtain⟨aud,rfl⟩:=ovE aug;have apq:=xt aop ao2.1.1.1;have aul:=bz apq;refine al inf1032 (λ_ ao3 aq6=>?_);refine go ?_;exact dvB (dvB (dvAn rfl ao2.1.1 ao3.2 aq6) ao2.1 (λ_ h=>be ao3.2 h)) ao2 (λ_ h=>be ao3.2 h);exact trivial;intro apr _ _ aq7 aq8 aq9 aom;obtain⟨apr,rfl⟩:=ovE aq8;have aom:=aom.1.1;have sc:=(be aom.1 hb1);have aup:=bt sc;have aol:=(be aom.1 hb2);have auq:=bt aol;have aon:=(be aom.1 ap3);have aur:=bt aon;have r8:=xt aop aom.1;have aus:=bz r8;have aut:=bz aom.1;obtain⟨ao4,aps,_,ap0⟩:=XA.fin aom (aq7 15 rfl) (.inr rfl);have aps:=zpv aps;have auv:=bt ap0
 have apt:apr 3=pT ao4:=(aps);have ara:=zpv (aq9 14 _ _ rfl rfl);refine SA ap0 (λ_ aou aoo=>?_);have⟨sc,aol,aon,r8,_⟩:=pl3 aou sc aol aon r8;refine go ?_;refine l_op (k_loadA (cs:=[S ((maxQ a b a' b').1),S ((maxQ a b a' b').2),S ((minQ c d c' d').1),S ((minQ c d c' d').2)]) (b:=ao4) (o:=0) U1032 rfl sz1032 apt (Blk.cells aoo (i:=0) rfl) ?_);refine cl en1056 (encValid_ok (x:=(maxQ a b a' b',minQ c d c' d')) hI (ht.ext r8)) ?_;rintro _ _ aov rfl;have⟨sc,aol,aon,aoo,r8⟩:=be4 aov.2 sc aol aon aoo r8;refine cl en1099 encCheck_ok ?_;rintro _ _ aow rfl;have⟨sc,aol,aon,aoo,r8⟩:=be4 aow.2 sc aol aon aoo r8;refine go ?_;refine l_op (k_loadA (cs:=[S ((maxQ a b a' b').1),S ((maxQ a b a' b').2),S ((minQ c d c' d').1),S ((minQ c d c' d').2)]) (b:=ao4) (o:=0) U1032 rfl sz1032 apt (Blk.cells aoo (i:=0) rfl) ?_);refine SA aon (λ_ aox arb=>?_);have⟨sc,aol,aoo,r8,_⟩:=pl3 aox sc aol aoo r8;refine go ?_;refine f_out (v:=.agg #[S ((maxQ a b a' b').1),S ((maxQ a b a' b').2),S ((minQ c d c' d').1),S ((minQ c d c' d').2)]) (res1  rfl ?_) r8 rfl;refine res_cellA (t:=2) (cs:=[S ((maxQ a b a' b').1),S ((maxQ a b a' b').2),S ((minQ c d c' d').1),S ((minQ c d c' d').2)]) (b:=w.heap.size) (o:=0) U1032 rfl sz1032 ?_ ?_;exact rfl;exact Blk.cells arb (i:=0) rfl
theorem encMeet_ok {a b c d a' b' c' d':Int}{x y:R×R}{w:World}(hx:IvR x)(hy:IvR y)(e1:x.1=qR a b)(e2:x.2=qR c d)(q1:Q9 a b)(q2:Q9 c d)(e3:y.1=qR a' b')(e4:y.2=qR c' d')(q3:Q9 a' b')(q4:Q9 c' d')(hI:IvR (maxQ a b a' b',minQ c d c' d'))(ht:Tb w):
    CL 66 #[.agg #[S (x.1.1),S (x.1.2),S (x.2.1),S (x.2.2)],.agg #[S (y.1.1),S (y.1.2),S (y.2.1),S (y.2.2)]] w (Ret w λv w'=>v=.tuple #[.agg #[S ((maxQ a b a' b').1),S ((maxQ a b a' b').2),S ((minQ c d c' d').1),S ((minQ c d c' d').2)],.int .i64 0]):=by
 refine f_in Tryz.func66 rfl ?_;refine go ?_;refine bx (λaoq aou sc=>?_);have r8:=aou.2;refine bx (λaos aot aol=>?_);have⟨sc,r8⟩:=be1 aot.2 sc r8;refine al inf1032 (λ_ aor aom=>?_);have⟨sc,aol,r8⟩:=be2 aor.2 sc aol r8;refine go ?_;refine l_op (k_makeFunc (vf:=[]) (vc:=[pT w.heap.size,pT aoq.heap.size]) rfl rfl ?_);refine l_op (k_loadA (cs:=[S (x.1.1),S (x.1.2),S (x.2.1),S (x.2.2)]) (b:=w.heap.size) (o:=0) U1032 rfl sz1032 rfl (Blk.cells sc (i:=0) rfl) ?_);refine l_op (k_loadA (cs:=[S (y.1.1),S (y.1.2),S (y.2.1),S (y.2.2)]) (b:=aoq.heap.size) (o:=0) U1032 rfl sz1032 rfl (Blk.cells aol (i:=0) rfl) ?_);refine BS2 (λ_ aon _ aow=>?_);have⟨sc,aol,aom,r8⟩:=be3 aon sc aol aom r8;have ao0:=bz aon;refine clb en1053 (hc:=computeI_ok (l:=[x,y]) (x:=(maxQ a b a' b',minQ c d c' d')) en2048 (Rw.of_own aow) rfl (by simp) (λz hz=>by rcases List.mem_cons.1 hz with h|h;exact h▸hx;rw[List.mem_singleton.1 h];exact hy) (λW e=>meet1_ok e1 e2 q1 q2 e3 e4 q3 q4 hI (sc.ext e) (aol.ext e) ((ht.ext r8).ext e)) (ht.ext r8)) (hk:=?_);rintro _ _ aoo rfl;have⟨sc,aol,aom,r8⟩:=be3 aoo.2 sc aol aom r8;refine go ?_;refine SA aom (λ_ aop aox=>?_);have⟨sc,aol,r8,_⟩:=pl2 aop sc aol r8;refine go ?_;refine f_out (v:=.tuple #[.agg #[S ((maxQ a b a' b').1),S ((maxQ a b a' b').2),S ((minQ c d c' d').1),S ((minQ c d c' d').2)],.int .i64 0]) (res2 (r1:=.cell 4 33) (r2:=.tmp 5) rfl ?_ ?_) r8 rfl
 refine res_cellA (t:=4) (cs:=[S ((maxQ a b a' b').1),S ((maxQ a b a' b').2),S ((minQ c d c' d').1),S ((minQ c d c' d').2)]) (b:=aos.heap.size) (o:=0) U1032 rfl sz1032 ?_ ?_;exact rfl;exact Blk.cells aox (i:=0) rfl;exact res_tmp (t:=5) (by exact rfl) _
end Go.Proofs.YtmehbpjpbbhohaaGreatDoor
namespace Go.Proofs.YtmehbpjpbbhohaaGreatDoor
open Go Go.Eng Go.RowKit
theorem nat_of {s:Int}(h:1<=s∧s<=20):∃n:Nat,s=n∧1<=n∧n<=20:=⟨s.toNat,by omega,by omega,by omega⟩
def Nd (X:Int):Prop:=X%5=0∨X%7=0
theorem part_of {n:Nat}(h1:1<=n)(h2:n<=8):∃d:Int,d*(n:Int)=840∧0<=d∧((∃a,d=5*a)∨∃a,d=7*a):=by
  rcases(by omega:n=1∨n=2∨n=3∨n=4∨n=5∨n=6∨n=7∨n=8)with rfl|rfl|rfl|rfl|rfl|rfl|rfl|rfl
  · exact⟨840,by decide,by decide,.inl ⟨168,by decide⟩⟩
  · exact⟨420,by decide,by decide,.inl ⟨84,by decide⟩⟩
  · exact⟨280,by decide,by decide,.inl ⟨56,by decide⟩⟩
  · exact⟨210,by decide,by decide,.inl ⟨42,by decide⟩⟩
  · exact⟨168,by decide,by decide,.inr ⟨24,by decide⟩⟩
  · exact⟨140,by decide,by decide,.inl ⟨28,by decide⟩⟩
  · exact⟨120,by decide,by decide,.inl ⟨24,by decide⟩⟩
  · exact⟨105,by decide,by decide,.inl ⟨21,by decide⟩⟩
def Ep (m s d:Int)(n k:Nat):Int:=70*m-420*s+d*s*((min k n:Nat):Int)
theorem ep_bd {m s d:Int}{n:Nat}(hd:d*(n:Int)=840)(d0:0<=d)(hs:0<=s)(k:Nat):70*m-420*s<=Ep m s d n k∧Ep m s d n k<=70*m+420*s:=by
  have h0:0<=d*s:=Int.mul_nonneg d0 hs
  have h1:0<=d*s*((min k n:Nat):Int):=Int.mul_nonneg h0 om
  have h2:d*s*((min k n:Nat):Int)<=d*s*(n:Int):=Int.mul_le_mul_of_nonneg_left om h0
  have h3:d*s*(n:Int)=840*s:=by rw[<-hd];grind
  unfold Ep
  omega
theorem ep_par {m s d:Int}{n:Nat}{P:Int->Prop}(hd:d*(n:Int)=840)(d0:0<=d)(hs:0<=s)(hP:∀k,P (Ep m s d n k)):Par P (Ep m s d n) n (70*m-420*s) (70*m+420*s):=by
  refine⟨hP,λi _=>?_,?_,?_⟩
  · have h0:0<=d*s:=Int.mul_nonneg d0 hs
    have h2:d*s*((min i n:Nat):Int)<=d*s*((min (i+1) n:Nat):Int):=Int.mul_le_mul_of_nonneg_left om h0
    unfold Ep
    omega
  · unfold Ep
    rw[show min 0 n=0 by omega];simp
  · have h3:d*s*(n:Int)=840*s:=by rw[<-hd];grind
    unfold Ep
    rw[show min n n=n by omega,h3];omega
theorem ep_nd {m s d:Int}{n:Nat}(hd:(∃a,d=5*a)∨∃a,d=7*a)(k:Nat):Nd (Ep m s d n k):=by
  unfold Ep Nd
  rcases hd with⟨a,rfl⟩|⟨a,rfl⟩
  · left
    rw[show 5*a*s*((min k n:Nat):Int)=5*(a*s*((min k n:Nat):Int))by grind]
    omega
  · right
    rw[show 7*a*s*((min k n:Nat):Int)=7*(a*s*((min k n:Nat):Int))by grind]
    omega
theorem ep_e {m s d:Int}{n:Nat}(hd:d*(n:Int)=840):∀k,k<=n->Ep m s d n k*(n:Int)=70*m*(n:Int)+70*s*(12*(k:Int)-6*(n:Int)):=by
  intro k _
  unfold Ep
  rw[show min k n=k by omega,show(70*m-420*s+d*s*(k:Int))*(n:Int)=70*m*(n:Int)-420*s*(n:Int)+d*(n:Int)*(s*(k:Int))by grind,hd]
  grind
section
variable {s e:Nat}{v w:Int->Int}{m lo up c2:Int}{P:Int->Prop}
theorem bet_m (hv:VoM (2*s) v)(hP:∀X,P X->Nd (X-70*m)):BetP P (sdT 4 (70*m) (70*s) (35*e) (35*lo) (35*up) (35*c2)).f (sdT 4 (70*m) (70*s) (35*e) (35*lo) (35*up) (35*c2)).c (λX=>v (X-70*m)) 1000000000000000:=by
  have key:∀X,P X->(shF 4 (X-70*m) (70*s)).1*1000000000000000<=v (X-70*m)∧v (X-70*m)<=(shF 4 (X-70*m) (70*s)).2*1000000000000000:=λX hX=>by
    obtain⟨f,c,h1,h2,h3⟩:=hv.sh _ (hP X hX)
    have h4:=h1.1
    rw[show((35*(2*s):Nat):Int)=70*(s:Int)by omega]at h4
    rw[shF_eq h4]
    exact⟨h2,h3⟩
  exact⟨by decide,λX Y h=>hv.mono _ _ om,λX h=>(key X h).1,λX h=>(key X h).2⟩
theorem uni_m (hw:VoM e w)(hP:∀X,P X->Nd (35*up-X)∧Nd (35*lo-X))(hc:2*c2=lo+up)(hlu:lo<=up):Uni (sdT 4 (70*m) (70*s) (35*e) (35*lo) (35*up) (35*c2)) P (λX=>w (35*up-X)-w (35*lo-X)) 1000000000000000:=by
  have key:∀n:Int,Nd n->(shF 4 n (35*e)).1*1000000000000000<=w n∧w n<=(shF 4 n (35*e)).2*1000000000000000:=λn hn=>by
    obtain⟨f,c,h1,h2,h3⟩:=hw.sh _ hn
    have h4:=h1.1
    rw[show((35*e:Nat):Int)=35*(e:Int)by omega]at h4
    rw[shF_eq h4]
    exact⟨h2,h3⟩
  have nd:∀X,P X∨X=35*c2->Nd (35*up-X)∧Nd (35*lo-X):=λX h=>by
    rcases h with h|rfl
    · exact hP X h
    · unfold Nd;omega
  have mono:∀X,0<=w (35*up-X)-w (35*lo-X):=λX=>by
    have:=hw.mono (35*lo-X) (35*up-X) om
    omega
  obtain⟨i1,i2⟩:=w_uni (w:=w) (W:=10000000000000000000) (O:=35*lo) (U:=35*up) (c:=35*c2) hw.sym hw.conc om om
  refine⟨by decide,mono,λX h=>?_,λX h=>?_,i1,i2⟩
  · have k1:=key _ (nd X h).1
    have k2:=key _ (nd X h).2
    have:=mono X
    show max 0 ((shF 4 (35*up-X) (35*e)).1-(shF 4 (35*lo-X) (35*e)).2)*1000000000000000<=_
    omega
  · have k1:=key _ (nd X h).1
    have k2:=key _ (nd X h).2
    show _<=max 0 ((shF 4 (35*up-X) (35*e)).2-(shF 4 (35*lo-X) (35*e)).1)*1000000000000000
    omega
end
theorem meets_c {a b c d:Int}(ha:Q9 a (tenI 4))(hb:Q9 b (tenI 4))(hc:Q9 c (tenI 4))(hd:Q9 d (tenI 4))(h1:a<=b)(h2:c<=d)(h3:a<=d)(h4:c<=b)(W:World)(hW:Tb W):CL 28 #[IV a (tenI 4) b (tenI 4),IV c (tenI 4) d (tenI 4)] W (Ret W λv _=>v=.bool true):=by
  have T:=ten_pos 4
  have iv:∀x y:Int,Q9 x (tenI 4)->Q9 y (tenI 4)->x<=y->IvR (qR x (tenI 4),qR y (tenI 4)):=λx y hx hy h=>⟨_,_,_,_,rfl,rfl,hx,hy,Int.mul_le_mul_of_nonneg_right h (Int.le_of_lt T)⟩
  have qx:Q9 (max a c) (tenI 4):=by
    rcases Int.le_total a c with h|h
    · rw[show max a c=c by omega];exact hc
    · rw[show max a c=a by omega];exact ha
  have qn:Q9 (min b d) (tenI 4):=by
    rcases Int.le_total b d with h|h
    · rw[show min b d=b by omega];exact hb
    · rw[show min b d=d by omega];exact hd
  refine meets_ok (vac:=max a c) (vbc:=tenI 4) (wac:=min b d) (wbc:=tenI 4) (λW hW=>?_) hW
  have h:=encMeet_ok (x:=(qR a (tenI 4),qR b (tenI 4))) (y:=(qR c (tenI 4),qR d (tenI 4))) (iv _ _ ha hb h1) (iv _ _ hc hd h2) rfl rfl ha hb rfl rfl hc hd (by rw[mx_TT T,mn_TT T];exact iv _ _ qx qn om) hW
  rw[mx_TT T,mn_TT T]at h
  exact h
theorem riskMeets_law {x0 x1 x2 x3 x4 x5 x6 y0 y1:Int}{w:World}(hx0:In64 x0)(hx1:In64 x1)(hx2:In64 x2)(hx3:In64 x3)(hx4:In64 x4)(hx5:In64 x5)(hx6:In64 x6)(hy0:In64 y0)(hy1:In64 y1)(ht:Tb w):
    CL 7 #[.agg #[.int .i64 x0,.int .i64 x1,.int .i64 x2,.int .i64 x3,.int .i64 x4,.int .i64 x5,.int .i64 x6],.int .i64 y0,.int .i64 y1] w (Ret w λv _=>v=.bool true):=by
  obtain⟨m,s,e,l,h,lo,up,Q,hMd⟩:=made_c hx0 hx1 hx2 hx3 hx4 hx5 hx6
  have p0:=pick_bd y0 8 dc
  have q0:=pick_bd y1 8 dc
  generalize hp:pickI y0 8=p at p0
  generalize hq:pickI y1 8=q at q0
  obtain⟨n,hn⟩:∃n:Nat,1+p=n:=⟨(1+p).toNat,by omega⟩
  obtain⟨k,hk⟩:∃k:Nat,1+q=k:=⟨(1+q).toNat,by omega⟩
  obtain⟨_,_,a3,a4,a5,a6,_,_,_,_,_,_,_,_⟩:=Q
  obtain⟨s,rfl,s1,s2⟩:=nat_of ⟨a3,a4⟩
  obtain⟨e,rfl,e1,e2⟩:=nat_of ⟨a5,a6⟩
  obtain⟨c2,hc2⟩:∃c2,2*c2=lo+up:=⟨(lo+up)/2,by omega⟩
  obtain⟨v,hv⟩:=dm_two s s1 s2
  obtain⟨u,hu⟩:=dm_all e e1 e2
  obtain⟨d,hd,d0,dn⟩:=part_of (n:=n) om om
  obtain⟨g,hg,g0,gn⟩:=part_of (n:=k) om om
  obtain⟨P,hP⟩:∃P:Int->Prop,P=λX=>Pb X∧Nd X:=⟨_,rfl⟩
  have pI:∀X,Pb X->Nd X->P X:=λX h1 h2=>by rw[hP];exact⟨h1,h2⟩
  have pE:∀X,P X->Pb X∧Nd X:=λX h=>by rw[hP]at h;exact h
  have fr:Fr 1 0 700:=⟨by decide,by decide,by decide,by decide,by decide,by decide⟩
  have tt:Tst (70*m) (70*s) (35*e) (70*l) (70*h) (35*lo) (35*up):=⟨by omega,by omega,by omega,by omega,by omega⟩
  have te:TSv 1 0 700 (70*m) (70*s) (35*e) (70*l) (70*h) (35*lo) (35*up)=_:=tsv_eq (ma:=m) (mb:=10) (sa:=s) (sb:=10) (ea:=e) (eb:=20) (la:=l) (lb:=10) (ha:=h) (hb:=10) (oa:=lo) (ob:=20) (ga:=up) (gb:=20) dc dc om om om om om om om
  have ndM:∀X,P X->Nd (X-70*m):=λX hX=>by have:=(pE X hX).2;unfold Nd at *;omega
  have ndU:∀X,P X->Nd (35*up-X)∧Nd (35*lo-X):=λX hX=>by have:=(pE X hX).2;unfold Nd at *;omega
  have shE:∀n:Int,Nd n->∃f c,Sh 4 n (35*(e:Int)) f c:=λn hn=>by
    obtain⟨f,c,h1,_⟩:=hu.sh n hn
    have h4:=h1.1
    rw[show((35*e:Nat):Int)=35*(e:Int)by omega]at h4
    exact⟨f,c,h4⟩
  have t:=tpo_of (pl:=4) (P:=P) (ct:=35*c2) fr tt (λX h=>(pE X h).1) (λX hX=>by
      obtain⟨f,c,h1,_⟩:=hv.sh _ (ndM X hX)
      have h4:=h1.1
      rw[show((35*(2*s):Nat):Int)=70*(s:Int)by omega]at h4
      exact⟨f,c,h4⟩)
    (fun X hX => shE _ (by rcases hX with h|rfl
                           · exact(ndU X h).1
                           · unfold Nd;omega))
    (fun X hX => shE _ (by rcases hX with h|rfl
                           · exact(ndU X h).2
                           · unfold Nd;omega)) om dc dc
  have PE:∀(d:Int) (n:Nat),d*(n:Int)=840->0<=d->((∃a,d=5*a)∨∃a,d=7*a)->∀k,P (Ep m s d n k):=λd n h1 h2 h3 k=>pI _ (by have:=ep_bd (m:=m) h1 h2 (show 0<=(s:Int)by omega) k;unfold Pb;omega) (ep_nd h3 k)
  have P1:=PE d n hd d0 dn
  have P2:=PE g k hg g0 gn
  have pL:P (70*l):=pI _ (by unfold Pb;omega) (by unfold Nd;omega)
  have pH:P (70*h):=pI _ (by unfold Pb;omega) (by unfold Nd;omega)
  obtain⟨_,rb,x1⟩:∃f c,Sh 4 (-6) 1 f c:=by
    obtain⟨f,c,h1,_⟩:=hv.sh (-420*s) om
    exact⟨f,c,h1.1.congr om dc om⟩
  obtain⟨rc,_,x2⟩:∃f c,Sh 4 6 1 f c:=by
    obtain⟨f,c,h1,_⟩:=hv.sh (420*s) om
    exact⟨f,c,h1.1.congr om dc om⟩
  have be:=bet_m (e:=e) (lo:=lo) (up:=up) (c2:=c2) hv ndM
  have un:=uni_m (m:=m) (s:=s) hu ndU hc2 om
  have q1:=ep_par (m:=m) (P:=P) hd d0 (show 0<=(s:Int)by omega) P1
  have q2:=ep_par (m:=m) (P:=P) hg g0 (show 0<=(s:Int)by omega) P2
  have hC:∀W,Tb W->_:=λW hW=>cAv (l:=[.int .i64 ((n:Nat):Int),.int .i64 4]) (t.consumer (n:=n) om om x1 x2 (ep_e hd) P1 pL pH hW) te
  have hC':∀W,Tb W->_:=λW hW=>cAv (l:=[.int .i64 ((k:Nat):Int),.int .i64 4]) (t.consumer (n:=k) om om x1 x2 (ep_e hg) P2 pL pH hW) te
  have hR:∀W,Tb W->_:=λW hW=>cAv (l:=[.int .i64 ((n:Nat):Int),.int .i64 4]) (t.producer (n:=n) om om x1 x2 (ep_e hd) P1 pL pH hW) te
  have hR':∀W,Tb W->_:=λW hW=>cAv (l:=[.int .i64 ((k:Nat):Int),.int .i64 4]) (t.producer (n:=k) om om x1 x2 (ep_e hg) P2 pL pH hW) te
  have ok:=t.ok
  have m1:=con_meet ok be un q1 q2 pL pH
  have m2:=con_meet ok be un q2 q1 pL pH
  have m3:=pro_meet ok be un q1 q2 pL pH om
  have m4:=pro_meet ok be un q2 q1 pL pH om
  have o1:=ok.con (E:=Ep m s d n) (L:=70*l) (H:=70*h) (n:=n)
  have o2:=ok.con (E:=Ep m s g k) (L:=70*l) (H:=70*h) (n:=k)
  have o3:=ok.pro (E:=Ep m s d n) (L:=70*l) (H:=70*h) (n:=n)
  have o4:=ok.pro (E:=Ep m s g k) (L:=70*l) (H:=70*h) (n:=k)
  have c1:=ok.conB (E:=Ep m s d n) (L:=70*l) (H:=70*h) (n:=n)
  have c3:=ok.conB (E:=Ep m s g k) (L:=70*l) (H:=70*h) (n:=k)
  have T:=t12 (pl:=4) dc
  have TT:=Int.mul_pos T.2 T.2
  have hT:=Int.le_of_lt T.2
  rw[show tenI 4*tenI 4=100000000 by decide]at c1 c3
  have n4:(n:Int)*(2*100000000)<=1600000000:=by omega
  have k4:(k:Int)*(2*100000000)<=1600000000:=by omega
  have c1':=And.intro (Int.le_trans c1.1 n4) (Int.le_trans c1.2 n4)
  have c3':=And.intro (Int.le_trans c3.1 k4) (Int.le_trans c3.2 k4)
  have r0:0<=(rb+tenI 4-rc)*tenI 4∧(rb+tenI 4-rc)*tenI 4<=3*10^10:=by
    have f1:=x1.bd
    have f2:=x2.bd
    have:=Int.mul_nonneg (show 0<=rb+tenI 4-rc by omega) hT
    have:=mul_bd (a:=rb+tenI 4-rc) (b:=tenI 4) (p:=3*10^5) (q:=10^5) om om
    omega
  have z1:=fc_q9 (pl:=4) (x:=_) dc ⟨o1.1,Int.le_trans o1.2 (Int.le_trans c1'.1 dc)⟩
  have z2:=fc_q9 (pl:=4) (x:=_) dc ⟨o2.1,Int.le_trans o2.2 (Int.le_trans c3'.1 dc)⟩
  have z3:=fc_q9 (pl:=4) (x:=_) dc ⟨o3.1,Int.le_trans o3.2 (Int.le_trans c1'.2 dc)⟩
  have z4:=fc_q9 (pl:=4) (x:=_) dc ⟨o4.1,Int.le_trans o4.2 (Int.le_trans c3'.2 dc)⟩
  have w1:=fc_q9 (pl:=4) (x:=(rb+tenI 4-rc)*tenI 4+(sdT 4 (70*m) (70*s) (35*e) (35*lo) (35*up) (35*c2)).conH (Ep m s d n) (70*l) (70*h) n) dc om
  have w2:=fc_q9 (pl:=4) (x:=(rb+tenI 4-rc)*tenI 4+(sdT 4 (70*m) (70*s) (35*e) (35*lo) (35*up) (35*c2)).conH (Ep m s g k) (70*l) (70*h) k) dc om
  have w3:=fc_q9 (pl:=4) (x:=(rb+tenI 4-rc)*tenI 4+(sdT 4 (70*m) (70*s) (35*e) (35*lo) (35*up) (35*c2)).proH (tenI 4) (Ep m s d n) (70*l) (70*h) n) dc om
  have w4:=fc_q9 (pl:=4) (x:=(rb+tenI 4-rc)*tenI 4+(sdT 4 (70*m) (70*s) (35*e) (35*lo) (35*up) (35*c2)).proH (tenI 4) (Ep m s g k) (70*l) (70*h) k) dc om
  exact meets_walk hy0 hy1 hp hq p0 q0 hn hk sane_c (λW _=>hMd W) hC hC' hR hR'
    (meets_c z1.1 w1.2 z2.1 w2.2 (fl_cl TT hT om) (fl_cl TT hT om) (fl_cl TT hT om) (fl_cl TT hT om))
    (meets_c z3.1 w3.2 z4.1 w4.2 (fl_cl TT hT om) (fl_cl TT hT om) (fl_cl TT hT om) (fl_cl TT hT om)) ht
end Go.Proofs.YtmehbpjpbbhohaaGreatDoor
