/- Part of the proof of a statement about decisions. -/
import Derived.Test.YtonigegpknhdnaaGreatDoorDl4ToEngW
import Derived.Test.YtonigegpknhdnaaGreatDoorEngPToEngH
set_option linter.all false
namespace Go.Proofs.YtonigegpknhdnaaGreatDoor
open Go Go.Eng Go.RowKit
def XB (X:(Nat→Bool)→(Nat→Value)→World→Prop)(a t el m:Nat)(cs:Array Value)(ls:Nat→Bool)(e:Nat→Value)(w:World) : Prop:=
  X ls e w∧(ls a=true→∃ b,e t=.slice (some ⟨b,0,none⟩) m m∧Blk w b el cs)
section
variable {N : Nat} {ds : List Deferred} {X : (Nat → Bool) → (Nat → Value) → World → Prop} {L : List (Option (Nat × Value))} {ls : Nat → Bool} {e : Nat → Value} {i a t el m : Nat} {cs : Array Value} {w w' w0 : World}
theorem XB.start (h:X (fun _=>false) e w) : XB X a t el m cs (fun _=>false) e w:=⟨h,fun h=>by cases h⟩
theorem dvB {dst : Option Nat} {ex : Exit} {a' : Act} (h : EndV N ds X L ls e i dst ex a' w') (hB : XB X a t el m cs ls e w) (k : ∀ b, Blk w b el cs → Blk w' b el cs) (h1 : Nat.beq a i = false := by rfl) (h3 : (match dst with | some d => Nat.beq t d | none => false) = false := by rfl) : EndV N ds (XB X a t el m cs) L ls e i dst ex a' w' := by
  obtain ⟨rfl,v,e1,e2,e3⟩:=h
  refine ⟨rfl,v,e1,e2,e3,fun ha=>?_⟩
  rw [setB_ne h1] at ha
  obtain ⟨b,p,q⟩:=hB.2 ha
  refine ⟨b,?_,k b q⟩
  cases dst with
  | none=>exact p
  | some d=>show upd e d v t=_; rw [upd_nb h3]; exact p
theorem dvBn (hl:nthO L a=some none)(hX:X (setB ls a) (upd e t (.slice (some ⟨w.heap.size,0,none⟩) m m)) w')(hb:Blk w' w.heap.size el cs) :
    EndV N ds (XB X a t el m cs) L ls e a (some t) .normal (act N (upd e t (.slice (some ⟨w.heap.size,0,none⟩) m m)) ds) w':=
  ⟨rfl,_,(act_put ..).symm,(fun _ _ h=>by rw [hl] at h; cases h),hX,fun _=>⟨w.heap.size,upd_eq ..,hb⟩⟩
theorem XB.up {d : Nat} {v : Value} (hB : XB X a t el m cs ls e w) (hX : X (setB ls i) (upd e d v) w') (k : Ext w w') (h1 : Nat.beq a i = false := by rfl) (h3 : Nat.beq t d = false := by rfl) : XB X a t el m cs (setB ls i) (upd e d v) w' := by
  refine ⟨hX,fun ha=>?_⟩
  rw [setB_ne h1] at ha
  obtain ⟨b,p,q⟩:=hB.2 ha
  exact ⟨b,by rw [upd_nb h3]; exact p,Blk.ext k q⟩
theorem XA.up {a s t ty d : Nat} {z u : Array Value} {v : Value} (hX : XA w0 a s t ty z u ls e w) (k : Ext w w') (h1 : Nat.beq a i = false := by rfl) (h2 : Nat.beq s i = false := by rfl) (h3 : Nat.beq t d = false := by rfl) : XA w0 a s t ty z u (setB ls i) (upd e d v) w' := by
  refine ⟨Ext.trans hX.1 k,fun ha=>?_⟩
  rw [setB_ne h1] at ha
  obtain ⟨b,e1,e2,e3⟩:=hX.2 ha
  exact ⟨b,by rw [upd_nb h3]; exact e1,e2,by rw [setB_ne h2]; exact Blk.ext k e3⟩
theorem rw_blk {b el m : Nat} {cs : List Value} (h : Blk w b el cs.toArray) (hs : cs.length = m * 2) (hm : m ≤ maxLen := by decide) : w.ownsRow b el 2 (.slice (some ⟨b, 0, none⟩) m m) m cs :=
  ⟨hs,.inr ⟨b,m,cs.toArray,rfl,Nat.le_refl _,h,Nat.le_refl _,hm,by simpa using hs,by rw [List.take_of_length_le (by simp [hs])]⟩⟩
end
end Go.Proofs.YtonigegpknhdnaaGreatDoor
namespace Go.Proofs.YtonigegpknhdnaaGreatDoor
set_option maxRecDepth 100000
open Go Go.Eng Go.RowKit
attribute [local irreducible] wpListIn Code.wpIn Oper.wpIn Exit.then Exit.inBlock Exit.noGoto
set_option maxHeartbeats 40000000
theorem krDp2 {p : Prop} (h : p:=by kernel_rfl) : p:=h
theorem erDp2 {w:World}:Ext w w:=Ext.refl _
theorem hull_ok {A:Option Addr}{cp lo:Nat}{x y:R}{a b c d:Int}{w:World}(hr:Rw w lo A (cellsR [x,y]))(e1:x=qR a b)(e2:y=qR c d)(h1:Q9 a b)(h2:Q9 c d)(ht:Tb w) :
    Calls Tryz.prog 49 #[.slice A 2 cp] w (Ret w fun v w'=>v=.agg #[S ((minQ a b c d).1),S ((minQ a b c d).2),S ((maxQ a b c d).1),S ((maxQ a b c d).2)]):=by
 subst e1 e2;refine f_in Tryz.func49 rfl ?_;refine go ?_;refine al inf1032 (fun _ aoo sc=>?_);have r8:=aoo.2;refine go ?_;refine cl en2087 (minFunc_ok (x:=qR a b) (y:=qR c d) (hr.ext r8) rfl (fun W e=>qCmpX h2 h1 ((ht.ext r8).ext e))) ?_;rintro _ _ aol rfl;have ⟨sc,r8⟩:=be1 aol.2 sc r8;refine go ?_;refine cl en2088 (maxFunc_ok (x:=qR a b) (y:=qR c d) (hr.ext r8) rfl (fun W e=>qCmpX h2 h1 ((ht.ext r8).ext e))) ?_;rintro _ _ aom rfl;have ⟨sc,r8⟩:=be1 aom.2 sc r8;refine l_op (k_build (vs:=[(0,.agg #[S ((minQ a b c d).1),S ((minQ a b c d).2)]),(1,.agg #[S ((maxQ a b c d).1),S ((maxQ a b c d).2)])]) (cells:=#[S ((minQ a b c d).1),S ((minQ a b c d).2),S ((maxQ a b c d).1),S ((maxQ a b c d).2)]) (pl:=[(0,2),(2,2)]) U1032 inf1032 krDp2 rfl krDp2 ?_);refine SA sc (fun _ aon aop=>?_);have r8:=plw aon r8;have aow:=psz aon;refine go ?_;refine f_out (v:=.agg #[S ((minQ a b c d).1),S ((minQ a b c d).2),S ((maxQ a b c d).1),S ((maxQ a b c d).2)]) (res1  rfl ?_) r8 rfl;refine res_cellA (t:=2) (cs:=[S ((minQ a b c d).1),S ((minQ a b c d).2),S ((maxQ a b c d).1),S ((maxQ a b c d).2)]) (b:=w.heap.size) (o:=0) U1032 rfl sz1032 ?_ ?_;exact rfl;exact Blk.cells aop (i:=0) rfl
theorem meet1_ok {b1 b2:Nat}{a b c d a' b' c' d' : Int}{x y:R × R}{w:World}(e1:x.1=qR a b)(e2:x.2=qR c d)(q1:Q9 a b)(q2:Q9 c d)(e3:y.1=qR a' b')(e4:y.2=qR c' d')(q3:Q9 a' b')(q4:Q9 c' d')(hI:IvR (maxQ a b a' b',minQ c d c' d'))(hb1:Blk w b1 44 #[S x.1.1,S x.1.2,S x.2.1,S x.2.2])(hb2:Blk w b2 44 #[S y.1.1,S y.1.2,S y.2.1,S y.2.2])(ht:Tb w) :
    Calls Tryz.prog 48 #[.pointer (some ⟨b1,0,none⟩),.pointer (some ⟨b2,0,none⟩)] w (Ret w fun v w'=>v=.agg #[S ((maxQ a b a' b').1),S ((maxQ a b a' b').2),S ((minQ c d c' d').1),S ((minQ c d c' d').2)]):=by
 have zb1:=bt hb1;have zb2:=bt hb2;refine f_in Tryz.func48 rfl ?_;refine go ?_;refine al inf1032 (fun ap2 ao5 ap3=>?_);have ⟨hb1,hb2⟩:=bf2 ao5.2 hb1 hb2;have aop:=ao5.2;refine go ?_;refine c_dv hmix 16 [3,4,5,6,7,8,9,10,11,12,13,14,15,16,17,18] [some (4,.pointer (some ⟨b1,0,none⟩)),some (5,.agg #[S (x.1.1),S (x.1.2)]),some (6,.pointer (some ⟨b2,0,none⟩)),some (7,.agg #[S (y.1.1),S (y.1.2)]),none,some (9,.agg #[S ((minQ a b a' b').1),S ((minQ a b a' b').2),S ((maxQ a b a' b').1),S ((maxQ a b a' b').2)]),some (10,.agg #[S ((maxQ a b a' b').1),S ((maxQ a b a' b').2)]),some (11,.pointer (some ⟨b1,2,none⟩)),some (12,.agg #[S (x.2.1),S (x.2.2)]),some (13,.pointer (some ⟨b2,2,none⟩)),some (14,.agg #[S (y.2.1),S (y.2.2)]),none,some (16,.agg #[S ((minQ c d c' d').1),S ((minQ c d c' d').2),S ((maxQ c d c' d').1),S ((maxQ c d c' d').2)]),some (17,.agg #[S ((minQ c d c' d').1),S ((minQ c d c' d').2)]),some (18,.agg #[S ((maxQ a b a' b').1),S ((maxQ a b a' b').2),S ((minQ c d c' d').1),S ((minQ c d c' d').2)]),none] (XB (XB (XA ap2 15 999 3 44 #[S ([]),S ([]),S ([]),S ([])] #[S ([]),S ([]),S ([]),S ([])]) 4 8 25 2 #[S (x.1.1),S (x.1.2),S (y.1.1),S (y.1.2)]) 11 15 25 2 #[S (x.2.1),S (x.2.2),S (y.2.1),S (y.2.2)]) (XB.start (XB.start XA.start)) krDp2 krDp2 krDp2 ?_ ?_;refine ⟨fun arc _ _ ap4 _ ao6 _ _ _=>?_,?_⟩;obtain ⟨arc,rfl⟩:=ovE ap4;refine go ?_
 exact dvB (dvB (dvA rfl ao6.1.1 erDp2) ao6.1 (fun _ h=>be erDp2 h)) ao6 (fun _ h=>be erDp2 h);refine ⟨fun ap5 _ _ arn ap6 aoy _ _ _=>?_,?_⟩;obtain ⟨ap5,rfl⟩:=ovE arn;have ap7:=zpv (ap6 0 _ _ rfl rfl);have ap8:=(be aoy.1.1.1 hb1);refine go ?_;exact dvB (dvB (dvA rfl aoy.1.1 erDp2) aoy.1 (fun _ h=>be erDp2 h)) aoy (fun _ h=>be erDp2 h);refine ⟨fun arr _ _ ap9 _ ao7 _ _ _=>?_,?_⟩;obtain ⟨arr,rfl⟩:=ovE ap9;refine go ?_;exact dvB (dvB (dvA rfl ao7.1.1 erDp2) ao7.1 (fun _ h=>be erDp2 h)) ao7 (fun _ h=>be erDp2 h);refine ⟨fun aqa _ _ ar0 aqb aoz _ _ _=>?_,?_⟩;obtain ⟨aqa,rfl⟩:=ovE ar0;have aqc:=zpv (aqb 2 _ _ rfl rfl);have aqd:=(be aoz.1.1.1 hb2);refine go ?_;exact dvB (dvB (dvA rfl aoz.1.1 erDp2) aoz.1 (fun _ h=>be erDp2 h)) aoz (fun _ h=>be erDp2 h);refine ⟨fun apu _ _ ar6 apv ao8 _ _ _=>?_,?_⟩;obtain ⟨apu,rfl⟩:=ovE ar6;have aqe:=zpv (apv 1 _ _ rfl rfl);have aqf:=zpv (apv 3 _ _ rfl rfl);have ao9:=xt aop ao8.1.1.1;have asa:=bz ao9;refine l_op (k_bsB (vs:=[(0,.agg #[S (x.1.1),S (x.1.2)]),(1,.agg #[S (y.1.1),S (y.1.2)])]) (cells:=#[S (x.1.1),S (x.1.2),S (y.1.1),S (y.1.2)]) U23 inf36 (cons_eqp aqe (cons_eqp aqf rfl)) dc dc krDp2 (fun _ apa aqg=>?_));refine go ?_;exact dvB (dvBn rfl (XA.up ao8.1.1 apa.2) aqg) ao8 (fun _ h=>be apa.2 h)
 refine ⟨fun asc _ _ asf _ aoq _ _ aqh=>?_,?_⟩;obtain ⟨asc,rfl⟩:=ovE asf;have apb:=xt aop aoq.1.1.1;obtain ⟨_,apc,apd⟩:=aoq.1.2 (aqh 4 rfl);have apc:=zpv apc;refine cl en2049 (hull_ok (x:=x.1) (y:=y.1) (Rw.of_own (rw_blk (m:=2) apd rfl)) e1 e3 q1 q3 (ht.ext apb)) ?_ (cons_eq apc rfl);rintro _ _ aor rfl;refine go ?_;exact dvB (dvB (dvA rfl aoq.1.1 aor.2) aoq.1 (fun _ h=>be aor.2 h)) aoq (fun _ h=>be aor.2 h);refine ⟨fun aqj _ _ aso aqk ape _ _ _=>?_,?_⟩;obtain ⟨aqj,rfl⟩:=ovE aso;have aql:=zpv (aqk 5 _ _ rfl rfl);refine l_op (k_fieldI1 aql ?_);refine go ?_;exact dvB (dvB (dvA rfl ape.1.1 erDp2) ape.1 (fun _ h=>be erDp2 h)) ape (fun _ h=>be erDp2 h);refine ⟨fun ass _ _ aqm _ apf _ _ _=>?_,?_⟩;obtain ⟨ass,rfl⟩:=ovE aqm;refine go ?_;exact dvB (dvB (dvA rfl apf.1.1 erDp2) apf.1 (fun _ h=>be erDp2 h)) apf (fun _ h=>be erDp2 h);refine ⟨fun aqn _ _ as1 aqo ao0 _ _ _=>?_,?_⟩;obtain ⟨aqn,rfl⟩:=ovE as1;have aqp:=zpv (aqo 7 _ _ rfl rfl);have aqq:=(be ao0.1.1.1 hb1);refine go ?_;exact dvB (dvB (dvA rfl ao0.1.1 erDp2) ao0.1 (fun _ h=>be erDp2 h)) ao0 (fun _ h=>be erDp2 h);refine ⟨fun as5 _ _ aqr _ apg _ _ _=>?_,?_⟩;obtain ⟨as5,rfl⟩:=ovE aqr;refine go ?_;exact dvB (dvB (dvA rfl apg.1.1 erDp2) apg.1 (fun _ h=>be erDp2 h)) apg (fun _ h=>be erDp2 h)
 refine ⟨fun aqs _ _ ate aqt ao1 _ _ _=>?_,?_⟩;obtain ⟨aqs,rfl⟩:=ovE ate;have aqu:=zpv (aqt 9 _ _ rfl rfl);have aqv:=(be ao1.1.1.1 hb2);refine go ?_;exact dvB (dvB (dvA rfl ao1.1.1 erDp2) ao1.1 (fun _ h=>be erDp2 h)) ao1 (fun _ h=>be erDp2 h);refine ⟨fun apw _ _ atk apx aph _ _ _=>?_,?_⟩;obtain ⟨apw,rfl⟩:=ovE atk;have aqw:=zpv (apx 8 _ _ rfl rfl);have aqx:=zpv (apx 10 _ _ rfl rfl);have api:=xt aop aph.1.1.1;have ato:=bz api;refine l_op (k_bsB (vs:=[(0,.agg #[S (x.2.1),S (x.2.2)]),(1,.agg #[S (y.2.1),S (y.2.2)])]) (cells:=#[S (x.2.1),S (x.2.2),S (y.2.1),S (y.2.2)]) U23 inf36 (cons_eqp aqw (cons_eqp aqx rfl)) dc dc krDp2 (fun _ apj aqy=>?_));refine go ?_;exact dvBn rfl (XB.up aph.1 (XA.up aph.1.1 apj.2) apj.2) aqy;refine ⟨fun atq _ _ atu _ aos _ _ aqz=>?_,?_⟩;obtain ⟨atq,rfl⟩:=ovE atu;have apk:=xt aop aos.1.1.1;obtain ⟨_,apl,apm⟩:=aos.2 (aqz 11 rfl);have apl:=zpv apl;refine cl en2049 (hull_ok (x:=x.2) (y:=y.2) (Rw.of_own (rw_blk (m:=2) apm rfl)) e2 e4 q2 q4 (ht.ext apk)) ?_ (cons_eq apl rfl);rintro _ _ aot rfl;refine go ?_;exact dvB (dvB (dvA rfl aos.1.1 aot.2) aos.1 (fun _ h=>be aot.2 h)) aos (fun _ h=>be aot.2 h);refine ⟨fun aq1 _ _ at2 aq2 apn _ _ _=>?_,?_⟩;obtain ⟨aq1,rfl⟩:=ovE at2;have aq3:=zpv (aq2 12 _ _ rfl rfl);refine l_op (k_fieldI0 aq3 ?_);refine go ?_
 exact dvB (dvB (dvA rfl apn.1.1 erDp2) apn.1 (fun _ h=>be erDp2 h)) apn (fun _ h=>be erDp2 h);refine ⟨fun apy _ _ at8 apz apo _ _ _=>?_,?_⟩;obtain ⟨apy,rfl⟩:=ovE at8;have aq4:=zpv (apz 6 _ _ rfl rfl);have aq5:=zpv (apz 13 _ _ rfl rfl);refine l_op (k_build (vs:=[(0,.agg #[S ((maxQ a b a' b').1),S ((maxQ a b a' b').2)]),(1,.agg #[S ((minQ c d c' d').1),S ((minQ c d c' d').2)])]) (cells:=#[S ((maxQ a b a' b').1),S ((maxQ a b a' b').2),S ((minQ c d c' d').1),S ((minQ c d c' d').2)]) (pl:=[(0,2),(2,2)]) U1032 inf1032 krDp2 (cons_eqp aq4 (cons_eqp aq5 rfl)) krDp2 ?_);refine go ?_;exact dvB (dvB (dvA rfl apo.1.1 erDp2) apo.1 (fun _ h=>be erDp2 h)) apo (fun _ h=>be erDp2 h);refine ⟨fun auc _ _ auf _ ao2 _ _ _=>?_,?_⟩;obtain ⟨auc,rfl⟩:=ovE auf;have apq:=xt aop ao2.1.1.1;have auk:=bz apq;refine al inf1032 (fun _ ao3 aq6=>?_);refine go ?_;exact dvB (dvB (dvAn rfl ao2.1.1 ao3.2 aq6) ao2.1 (fun _ h=>be ao3.2 h)) ao2 (fun _ h=>be ao3.2 h);exact trivial;intro apr _ _ aq7 aq8 aq9 aom;obtain ⟨apr,rfl⟩:=ovE aq8;have aom:=aom.1.1;have sc:=(be aom.1 hb1);have auo:=bt sc;have aol:=(be aom.1 hb2);have aup:=bt aol;have aon:=(be aom.1 ap3);have auq:=bt aon;have r8:=xt aop aom.1;have aur:=bz r8;have aus:=bz aom.1;obtain ⟨ao4,aps,_,ap0⟩:=XA.fin aom (aq7 15 rfl) (.inr rfl);have aps:=zpv aps;have auu:=bt ap0
 have apt:apr 3=.pointer (some ⟨ao4,0,none⟩):=(aps);have ara:=zpv (aq9 14 _ _ rfl rfl);refine SA ap0 (fun _ aou aoo=>?_);have ⟨sc,aol,aon,r8,_⟩:=pl3 aou sc aol aon r8;refine go ?_;refine l_op (k_loadA (cs:=[S ((maxQ a b a' b').1),S ((maxQ a b a' b').2),S ((minQ c d c' d').1),S ((minQ c d c' d').2)]) (b:=ao4) (o:=0) U1032 rfl sz1032 apt (Blk.cells aoo (i:=0) rfl) ?_);refine cl en1056 (encValid_ok (x:=(maxQ a b a' b',minQ c d c' d')) hI (ht.ext r8)) ?_;rintro _ _ aov rfl;have ⟨sc,aol,aon,aoo,r8⟩:=be4 aov.2 sc aol aon aoo r8;refine cl en1099 encCheck_ok ?_;rintro _ _ aow rfl;have ⟨sc,aol,aon,aoo,r8⟩:=be4 aow.2 sc aol aon aoo r8;refine go ?_;refine l_op (k_loadA (cs:=[S ((maxQ a b a' b').1),S ((maxQ a b a' b').2),S ((minQ c d c' d').1),S ((minQ c d c' d').2)]) (b:=ao4) (o:=0) U1032 rfl sz1032 apt (Blk.cells aoo (i:=0) rfl) ?_);refine SA aon (fun _ aox arb=>?_);have ⟨sc,aol,aoo,r8,_⟩:=pl3 aox sc aol aoo r8;refine go ?_;refine f_out (v:=.agg #[S ((maxQ a b a' b').1),S ((maxQ a b a' b').2),S ((minQ c d c' d').1),S ((minQ c d c' d').2)]) (res1  rfl ?_) r8 rfl;refine res_cellA (t:=2) (cs:=[S ((maxQ a b a' b').1),S ((maxQ a b a' b').2),S ((minQ c d c' d').1),S ((minQ c d c' d').2)]) (b:=w.heap.size) (o:=0) U1032 rfl sz1032 ?_ ?_;exact rfl;exact Blk.cells arb (i:=0) rfl
theorem encMeet_ok {a b c d a' b' c' d' : Int}{x y:R × R}{w:World}(hx:IvR x)(hy:IvR y)(e1:x.1=qR a b)(e2:x.2=qR c d)(q1:Q9 a b)(q2:Q9 c d)(e3:y.1=qR a' b')(e4:y.2=qR c' d')(q3:Q9 a' b')(q4:Q9 c' d')(hI:IvR (maxQ a b a' b',minQ c d c' d'))(ht:Tb w) :
    Calls Tryz.prog 22 #[.agg #[S (x.1.1),S (x.1.2),S (x.2.1),S (x.2.2)],.agg #[S (y.1.1),S (y.1.2),S (y.2.1),S (y.2.2)]] w (Ret w fun v w'=>v=.tuple #[.agg #[S ((maxQ a b a' b').1),S ((maxQ a b a' b').2),S ((minQ c d c' d').1),S ((minQ c d c' d').2)],.int .i64 0]):=by
 refine f_in Tryz.func22 rfl ?_;refine go ?_;refine bx (fun aoq aou sc=>?_);have r8:=aou.2;refine bx (fun aos aot aol=>?_);have ⟨sc,r8⟩:=be1 aot.2 sc r8;refine al inf1032 (fun _ aor aom=>?_);have ⟨sc,aol,r8⟩:=be2 aor.2 sc aol r8;refine go ?_;refine l_op (k_makeFunc (vf:=[]) (vc:=[.pointer (some ⟨w.heap.size,0,none⟩),.pointer (some ⟨aoq.heap.size,0,none⟩)]) rfl rfl ?_);refine l_op (k_loadA (cs:=[S (x.1.1),S (x.1.2),S (x.2.1),S (x.2.2)]) (b:=w.heap.size) (o:=0) U1032 rfl sz1032 rfl (Blk.cells sc (i:=0) rfl) ?_);refine l_op (k_loadA (cs:=[S (y.1.1),S (y.1.2),S (y.2.1),S (y.2.2)]) (b:=aoq.heap.size) (o:=0) U1032 rfl sz1032 rfl (Blk.cells aol (i:=0) rfl) ?_);refine BS2 (fun _ aon _ aow=>?_);have ⟨sc,aol,aom,r8⟩:=be3 aon sc aol aom r8;have ao0:=bz aon;refine clb en1053 (hc:=computeI_ok (l:=[x,y]) (x:=(maxQ a b a' b',minQ c d c' d')) en2048 (Rw.of_own aow) rfl (by simp) (fun z hz=>by rcases List.mem_cons.1 hz with h | h; exact h ▸ hx; rw [List.mem_singleton.1 h]; exact hy) (fun W e=>meet1_ok e1 e2 q1 q2 e3 e4 q3 q4 hI (sc.ext e) (aol.ext e) ((ht.ext r8).ext e)) (ht.ext r8)) (hk:=?_);rintro _ _ aoo rfl;have ⟨sc,aol,aom,r8⟩:=be3 aoo.2 sc aol aom r8;refine go ?_;refine SA aom (fun _ aop aox=>?_);have ⟨sc,aol,r8,_⟩:=pl2 aop sc aol r8;refine go ?_
 refine f_out (v:=.tuple #[.agg #[S ((maxQ a b a' b').1),S ((maxQ a b a' b').2),S ((minQ c d c' d').1),S ((minQ c d c' d').2)],.int .i64 0]) (res2 (r1:=.cell 4 44) (r2:=.tmp 5) rfl ?_ ?_) r8 rfl;refine res_cellA (t:=4) (cs:=[S ((maxQ a b a' b').1),S ((maxQ a b a' b').2),S ((minQ c d c' d').1),S ((minQ c d c' d').2)]) (b:=aos.heap.size) (o:=0) U1032 rfl sz1032 ?_ ?_;exact rfl;exact Blk.cells aox (i:=0) rfl;exact res_tmp (t:=5) (by exact rfl) _
theorem krDm5 {p : Prop} (h : p:=by kernel_rfl) : p:=h
theorem erDm5 {w:World}:Ext w w:=Ext.refl _
set_option maxRecDepth 100000 in
theorem proved_walk {kd la lb ha hb ga gb ra rb va vb sa sb : Int} {x0 x1 x2 x3 x4 x5 x6 : Int} {w : World} {y z v1 c1 c2 : Int} {ins : Bool} {pl ml : Nat} {ia0 ia1 ia2 ia3 ib0 ib1 ib2 ib3 ic0 ic1 ic2 ic3 id0 id1 id2 id3 : List UInt8} (hy : In64 y) (hpl : 1 + pickI y 8 = (pl : Int)) (hz : In64 z) (hml : 1 + pickI z 8 = (ml : Int)) (b1 : 1 ≤ v1) (b3 : v1 ≤ 3) (hI1 : v1 = 1 → ins = true ∧ c1 ≤ 0) (hI3 : v1 = 3 → ins = true) (hI2 : v1 = 2 → ins = true → 0 ≤ c2) (hSn : ∀ W, Tb W → Calls Tryz.prog 8 #[] W (Ret W fun v _ => v = .bool true)) (hMk : ∀ W, Tb W → Calls Tryz.prog 9 #[.agg #[.int .i64 (x0), .int .i64 (x1), .int .i64 (x2), .int .i64 (x3), .int .i64 (x4), .int .i64 (x5), .int .i64 (x6)]] W (Ret W fun v _ => v = .agg #[.int .i64 (kd), S ((qR la lb).1), S ((qR la lb).2), S ((qR ha hb).1), S ((qR ha hb).2), S ((qR ga gb).1), S ((qR ga gb).2), S ((qR ra rb).1), S ((qR ra rb).2), S ((qR va vb).1), S ((qR va vb).2), S ((qR sa sb).1), S ((qR sa sb).2)])) (hDc : ∀ W, Tb W → Calls Tryz.prog 18 #[.agg #[.int .i64 (kd), S ((qR la lb).1), S ((qR la lb).2), S ((qR ha hb).1), S ((qR ha hb).2), S ((qR ga gb).1), S ((qR ga gb).2), S ((qR ra rb).1), S ((qR ra rb).2)], .agg #[S ((qR va vb).1), S ((qR va vb).2)], .agg #[S ((qR sa sb).1), S ((qR sa sb).2)], .int .i64 pl] W (Ret W fun v _ => v = .tuple #[.int .i64 v1, .agg #[S (ia0), S (ia1), S (ia2), S (ia3)], .int .i64 0])) (hOt : ∀ W, Tb W → Calls Tryz.prog 19 #[.agg #[.int .i64 (kd), S ((qR la lb).1), S ((qR la lb).2), S ((qR ha hb).1), S ((qR ha hb).2), S ((qR ga gb).1), S ((qR ga gb).2), S ((qR ra rb).1), S ((qR ra rb).2), S ((qR va vb).1), S ((qR va vb).2), S ((qR sa sb).1), S ((qR sa sb).2)], .int .i64 ml] W (Ret W fun v _ => v = .tuple #[.agg #[S (ib0), S (ib1), S (ib2), S (ib3)], .bool true])) (hAc : ∀ W, Tb W → Calls Tryz.prog 20 #[.agg #[.int .i64 (kd), S ((qR la lb).1), S ((qR la lb).2), S ((qR ha hb).1), S ((qR ha hb).2), S ((qR ga gb).1), S ((qR ga gb).2), S ((qR ra rb).1), S ((qR ra rb).2)]] W (Ret W fun v _ => v = .tuple #[.agg #[S (ic0), S (ic1), S (ic2), S (ic3)], .int .i64 0])) (hCo : ∀ W, Tb W → Calls Tryz.prog 21 #[.agg #[S (ic0), S (ic1), S (ic2), S (ic3)], .agg #[S ((qR va vb).1), S ((qR va vb).2)]] W (Ret W fun v _ => v = .bool ins)) (hMt : ∀ W, Tb W → Calls Tryz.prog 22 #[.agg #[S (ia0), S (ia1), S (ia2), S (ia3)], .agg #[S (ib0), S (ib1), S (ib2), S (ib3)]] W (Ret W fun v _ => v = .tuple #[.agg #[S (id0), S (id1), S (id2), S (id3)], .int .i64 0])) (hC1 : ∀ W, Tb W → Calls Tryz.prog 15 #[.agg #[S (ib0), S (ib1)], .agg #[S ((qR ra rb).1), S ((qR ra rb).2)]] W (Ret W fun v _ => v = .int .i64 c1)) (hC2 : ∀ W, Tb W → Calls Tryz.prog 15 #[.agg #[S (ib2), S (ib3)], .agg #[S ((qR ra rb).1), S ((qR ra rb).2)]] W (Ret W fun v _ => v = .int .i64 c2)) (ht : Tb w) :
    Calls Tryz.prog 7 #[.agg #[.int .i64 x0,.int .i64 x1,.int .i64 x2,.int .i64 x3,.int .i64 x4,.int .i64 x5,.int .i64 x6],.int .i64 y,.int .i64 z] w (Ret w fun v w'=>v=.bool true):=by
 have bd:=pick_bd y 8 dc;have bd2:=pick_bd z 8 dc;refine f_in Tryz.func7 rfl ?_;refine go ?_;refine bx (fun _ kt gl=>?_);have fw:=kt.2;refine go ?_;refine cl en2008 ((hSn _ (ht.ext fw))) ?_;rintro _ _ jp rfl;have gl:=be jp.2 gl;have fw:=xt fw jp.2;refine go ?_;refine l_op (k_loadA (cs:=[.int .i64 x0,.int .i64 x1,.int .i64 x2,.int .i64 x3,.int .i64 x4,.int .i64 x5,.int .i64 x6]) (b:=w.heap.size) (o:=0) U2022 rfl sz2022 rfl (Blk.cells gl (i:=0) rfl) ?_);refine cl en2009 ((hMk _ (ht.ext fw))) ?_;rintro _ fg jq rfl;have gl:=be jq.2 gl;have fw:=xt fw jq.2;refine al inf2029 (fun _ jr ku=>?_);have gl:=be jr.2 gl;have fw:=xt fw jr.2;refine l_op (k_storeA (b:=fg.heap.size) (o:=0) (vs:=[.int .i64 kd,S (qR la lb).1,S (qR la lb).2,S (qR ha hb).1,S (qR ha hb).2,S (qR ga gb).1,S (qR ga gb).2,S (qR ra rb).1,S (qR ra rb).2,S (qR va vb).1,S (qR va vb).2,S (qR sa sb).1,S (qR sa sb).2]) sz2029 rfl rfl (by simp [Value.oneCell',S]) ku (Nat.le_of_ble_eq_true rfl) (fun kv ja ie=>?_));have ie:=Blk.cst ie (cs:=#[.int .i64 kd,S (qR la lb).1,S (qR la lb).2,S (qR ha hb).1,S (qR ha hb).2,S (qR ga gb).1,S (qR ga gb).2,S (qR ra rb).1,S (qR ra rb).2,S (qR va vb).1,S (qR va vb).2,S (qR sa sb).1,S (qR sa sb).2]) krDm5;have gl:=pb ja gl;have fw:=plw ja fw
 have sn:=psz ja;refine go ?_;refine c_dv hmix 17 [9,10,22,23,24,25,26,27,28,29,30,31,32,33,34,35] [some (23,.pointer (some ⟨fg.heap.size,0,none⟩)),some (24,.agg #[.int .i64 kd,S (qR la lb).1,S (qR la lb).2,S (qR ha hb).1,S (qR ha hb).2,S (qR ga gb).1,S (qR ga gb).2,S (qR ra rb).1,S (qR ra rb).2]),some (25,.pointer (some ⟨fg.heap.size,9,none⟩)),some (26,.agg #[S (qR va vb).1,S (qR va vb).2]),some (27,.pointer (some ⟨fg.heap.size,11,none⟩)),some (28,.agg #[S (qR sa sb).1,S (qR sa sb).2]),some (29,.int .i64 y),some (30,.int .i64 (pickI y 8)),some (31,.int .i64 pl),some (32,.tuple #[.int .i64 v1,.agg #[S ia0,S ia1,S ia2,S ia3],.int .i64 0]),some (22,.tuple #[.int .i64 v1,.agg #[S ia0,S ia1,S ia2,S ia3],.int .i64 0]),some (33,.int .i64 v1),some (34,.agg #[S ia0,S ia1,S ia2,S ia3]),some (35,.int .i64 0),none,some (9,.int .i64 v1),none] (XA kv 14 16 10 44 #[S ([]),S ([]),S ([]),S ([])] #[S ia0,S ia1,S ia2,S ia3]) XA.start krDm5 krDm5 krDm5 ?_ ?_;refine ⟨fun sq _ _ kw _ ky _ _ _=>?_,?_⟩;obtain ⟨sq,rfl⟩:=ovE kw;refine l_op (k_fieldAddr (b:=fg.heap.size) (o:=0) (off:=0) (oo:=0) U2029 rfl rfl sz2027 rfl rfl ?_);refine go ?_;exact dvA rfl ky erDm5;refine ⟨fun kz _ _ tg ld js _ _ _=>?_,?_⟩;obtain ⟨kz,rfl⟩:=ovE tg;have lg:=zpv (ld 0 _ _ rfl rfl)
 have li:=(be js.1 ie);refine l_op (k_loadA (cs:=[.int .i64 kd,S (qR la lb).1,S (qR la lb).2,S (qR ha hb).1,S (qR ha hb).2,S (qR ga gb).1,S (qR ga gb).2,S (qR ra rb).1,S (qR ra rb).2]) (b:=fg.heap.size) (o:=0) U2027 rfl sz2027 lg (Blk.cells li (i:=0) rfl) ?_);refine go ?_;exact dvA rfl js erDm5;refine ⟨fun tp _ _ lj _ lk _ _ _=>?_,?_⟩;obtain ⟨tp,rfl⟩:=ovE lj;refine l_op (k_fieldAddr (b:=fg.heap.size) (o:=0) (off:=9) (oo:=9) U2029 rfl rfl sz36 rfl rfl ?_);refine go ?_;exact dvA rfl lk erDm5;refine ⟨fun ll _ _ ud ln jt _ _ _=>?_,?_⟩;obtain ⟨ll,rfl⟩:=ovE ud;have lu:=zpv (ln 2 _ _ rfl rfl);have lv:=(be jt.1 ie);refine go ?_;exact dvA rfl jt erDm5;refine ⟨fun uh _ _ lw _ lx _ _ _=>?_,?_⟩;obtain ⟨uh,rfl⟩:=ovE lw;refine l_op (k_fieldAddr (b:=fg.heap.size) (o:=0) (off:=11) (oo:=11) U2029 rfl rfl sz36 rfl rfl ?_);refine go ?_;exact dvA rfl lx erDm5;refine ⟨fun lz _ _ ut l0 ju _ _ _=>?_,?_⟩;obtain ⟨lz,rfl⟩:=ovE ut;have l9:=zpv (l0 4 _ _ rfl rfl);have mc:=(be ju.1 ie);refine go ?_;exact dvA rfl ju erDm5;refine ⟨fun ux _ _ me _ mf _ _ _=>?_,?_⟩;obtain ⟨ux,rfl⟩:=ovE me;refine go ?_;exact dvA rfl mf erDm5;refine ⟨fun mg _ _ vi mh jv _ _ _=>?_,?_⟩;obtain ⟨mg,rfl⟩:=ovE vi;have mi:=zpv (mh 6 _ _ rfl rfl);refine clb en2010 (hc:=pickL16_ok y 8 _ hy dc) (hk:=?_) (hv:=cons_eq mi (cons_eq rfl rfl))
 rintro _ _ jx rfl;refine go ?_;exact dvA rfl jv jx.2;refine ⟨fun mj _ _ vr mu mv _ _ _=>?_,?_⟩;obtain ⟨mj,rfl⟩:=ovE vr;have mw:=zpv (mu 7 _ _ rfl rfl);refine l_op (k_add (a:=1) (b:=pickI y 8) (c:=(pl:Int)) rfl mw (by unfold In64; omega) hpl ?_);refine go ?_;exact dvA rfl mv erDm5;refine ⟨fun iw _ _ vz ix jy _ _ _=>?_,?_⟩;obtain ⟨iw,rfl⟩:=ovE vz;have mx:=zpv (ix 1 _ _ rfl rfl);have my:=zpv (ix 3 _ _ rfl rfl);have mz:=zpv (ix 5 _ _ rfl rfl);have m5:=zpv (ix 8 _ _ rfl rfl);have jb:=xt fw jy.1;refine cl en2018 ((hDc _ (ht.ext jb))) ?_ (cons_eq mx (cons_eq my (cons_eq mz (cons_eq m5 rfl))));rintro _ _ jz rfl;refine go ?_;exact dvA rfl jy jz.2;refine ⟨fun m6 _ _ wl m7 m9 _ _ _=>?_,?_⟩;obtain ⟨m6,rfl⟩:=ovE wl;have nc:=zpv (m7 9 _ _ rfl rfl);refine go ?_;exact dvA rfl m9 erDm5;refine ⟨fun nd _ _ wt nf nh _ _ _=>?_,?_⟩;obtain ⟨nd,rfl⟩:=ovE wt;have ni:=zpv (nf 10 _ _ rfl rfl);refine go ?_;exact dvA rfl nh erDm5;refine ⟨fun nj _ _ xc nk nl _ _ _=>?_,?_⟩;obtain ⟨nj,rfl⟩:=ovE xc;have nn:=zpv (nk 10 _ _ rfl rfl);refine go ?_;exact dvA rfl nl erDm5;refine ⟨fun nu _ _ xi nw nz _ _ _=>?_,?_⟩;obtain ⟨nu,rfl⟩:=ovE xi;have n4:=zpv (nw 10 _ _ rfl rfl);refine go ?_;exact dvA rfl nz erDm5;refine ⟨fun xm _ _ xp _ j5 n6 n7 _=>?_,?_⟩;obtain ⟨xm,rfl⟩:=ovE xp;have jc:=xt fw j5.1;have xu:=bz jc;refine al inf1032 (fun _ j6 n8=>?_)
 refine go ?_;exact dvAa rfl j5 (unl n6 (i:=14) (j:=16) rfl n7) j6.2 n8;refine ⟨fun n9 _ _ xy oa oc _ _ _=>?_,?_⟩;obtain ⟨n9,rfl⟩:=ovE xy;have oe:=zpv (oa 11 _ _ rfl rfl);refine go ?_;exact dvA rfl oc erDm5;refine ⟨fun og _ _ yd oh jd _ oi ol=>?_,?_⟩;obtain ⟨og,rfl⟩:=ovE yd;have ot:=zpv (oh 12 _ _ rfl rfl);have je:=xt fw jd.1;have yf:=bz je;obtain ⟨_,iy,ow,ox⟩:=XA.opn jd (ol 14 rfl) oi;have iy:=zpv iy;have yg:=bz fw;refine SA ox (fun _ jf oy=>?_);have yi:=psz jf;refine go ?_;exact dvAs (.inr rfl) jd iy ow jf oy;exact trivial;intro jg oz _ j7 gj j8 ir;obtain ⟨jg,rfl⟩:=ovE gj;have j9:=(be ir.1 gl);have yl:=bt j9;have jh:=(be ir.1 ie);have ym:=bt jh;have gq:=xt fw ir.1;have yn:=bz gq;have yo:=bz ir.1;obtain ⟨_,ji,_,kb⟩:=XA.fin ir (j7 14 rfl) (.inl (j7 16 rfl));have ji:=zpv ji;have yq:=bt kb;have o0:=zpv (j8 13 _ _ rfl rfl);refine go ?_;refine c_dv hmix 10 [12,36,37,38,39,40,41,42,43] [some (37,.agg #[.int .i64 kd,S (qR la lb).1,S (qR la lb).2,S (qR ha hb).1,S (qR ha hb).2,S (qR ga gb).1,S (qR ga gb).2,S (qR ra rb).1,S (qR ra rb).2,S (qR va vb).1,S (qR va vb).2,S (qR sa sb).1,S (qR sa sb).2]),some (38,.int .i64 z),some (39,.int .i64 (pickI z 8)),some (40,.int .i64 ml),some (41,.tuple #[.agg #[S ib0,S ib1,S ib2,S ib3],.bool true]),some (36,.tuple #[.agg #[S ib0,S ib1,S ib2,S ib3],.bool true]),some (42,.agg #[S ib0,S ib1,S ib2,S ib3]),some (43,.bool true),none,none] (XA oz 8 9 12 44 #[S ([]),S ([]),S ([]),S ([])] #[S ib0,S ib1,S ib2,S ib3]) XA.start krDm5 krDm5 krDm5 ?_ ?_
 refine ⟨fun yr _ _ o6 _ kf _ _ _=>?_,?_⟩;obtain ⟨yr,rfl⟩:=ovE o6;have o7:=(be kf.1 jh);refine l_op (k_loadA (cs:=[.int .i64 kd,S (qR la lb).1,S (qR la lb).2,S (qR ha hb).1,S (qR ha hb).2,S (qR ga gb).1,S (qR ga gb).2,S (qR ra rb).1,S (qR ra rb).2,S (qR va vb).1,S (qR va vb).2,S (qR sa sb).1,S (qR sa sb).2]) (b:=fg.heap.size) (o:=0) U2029 rfl sz2029 rfl (Blk.cells o7 (i:=0) krDm5) ?_);refine go ?_;exact dvA rfl kf erDm5;refine ⟨fun yz _ _ o8 _ o9 _ _ _=>?_,?_⟩;obtain ⟨yz,rfl⟩:=ovE o8;refine go ?_;exact dvA rfl o9 erDm5;refine ⟨fun pc _ _ ze pf kg _ _ _=>?_,?_⟩;obtain ⟨pc,rfl⟩:=ovE ze;have pg:=zpv (pf 1 _ _ rfl rfl);refine clb en2010 (hc:=pickL16_ok z 8 _ hz dc) (hk:=?_) (hv:=cons_eq pg (cons_eq rfl rfl));rintro _ _ ki rfl;refine go ?_;exact dvA rfl kg ki.2;refine ⟨fun pj _ _ zt pm pn _ _ _=>?_,?_⟩;obtain ⟨pj,rfl⟩:=ovE zt;have po:=zpv (pm 2 _ _ rfl rfl);refine l_op (k_add (a:=1) (b:=pickI z 8) (c:=(ml:Int)) rfl po (by unfold In64; omega) hml ?_);refine go ?_;exact dvA rfl pn erDm5;refine ⟨fun kj _ _ z6 km kn _ _ _=>?_,?_⟩;obtain ⟨kj,rfl⟩:=ovE z6;have pp:=zpv (km 0 _ _ rfl rfl);have pq:=zpv (km 3 _ _ rfl rfl);have jj:=xt gq kn.1;refine cl en2019 ((hOt _ (ht.ext jj))) ?_ (cons_eq pp (cons_eq pq rfl));rintro _ _ ko rfl;refine go ?_;exact dvA rfl kn ko.2;refine ⟨fun pr _ _ aaf pt pu _ _ _=>?_,?_⟩
 obtain ⟨pr,rfl⟩:=ovE aaf;have pw:=zpv (pt 4 _ _ rfl rfl);refine go ?_;exact dvA rfl pu erDm5;refine ⟨fun px _ _ aal py p7 _ _ _=>?_,?_⟩;obtain ⟨px,rfl⟩:=ovE aal;have p9:=zpv (py 5 _ _ rfl rfl);refine go ?_;exact dvA rfl p7 erDm5;refine ⟨fun qa _ _ aar qb qc _ _ _=>?_,?_⟩;obtain ⟨qa,rfl⟩:=ovE aar;have qe:=zpv (qb 5 _ _ rfl rfl);refine go ?_;exact dvA rfl qc erDm5;refine ⟨fun aav _ _ aay _ kp qh qj _=>?_,?_⟩;obtain ⟨aav,rfl⟩:=ovE aay;have jk:=xt gq kp.1;have aa1:=bz jk;refine al inf1032 (fun _ kq ql=>?_);refine go ?_;exact dvAa rfl kp (unl qh (i:=8) (j:=9) rfl qj) kq.2 ql;refine ⟨fun qm _ _ aa5 qn jl _ qo qq=>?_,?_⟩;obtain ⟨qm,rfl⟩:=ovE aa5;have qy:=zpv (qn 6 _ _ rfl rfl);have jm:=xt gq jl.1;have aa7:=bz jm;obtain ⟨_,iz,q7,q8⟩:=XA.opn jl (qq 8 rfl) qo;have iz:=zpv iz;have aa8:=bz gq;refine SA q8 (fun _ jn re=>?_);have aba:=psz jn;refine go ?_;exact dvAs (.inr rfl) jl iz q7 jn re;exact trivial;intro f6 _ _ kr gh rh ig;obtain ⟨f6,rfl⟩:=ovE gh;have fm:=(be ig.1 j9);have abe:=bt fm;have fh:=(be ig.1 jh);have abf:=bt fh;have fk:=(be ig.1 kb);have abg:=bt fk;have fe:=xt gq ig.1;have abh:=bz fe;have abi:=bz ig.1;obtain ⟨_,jo,_,fj⟩:=XA.fin ig (kr 8 rfl) (.inl (kr 9 rfl));have jo:=zpv jo;have abk:=bt fj;have ri:=zpv (rh 7 _ _ rfl rfl)
 refine go ?_;refine l_op (k_fieldAddr (b:=fg.heap.size) (o:=0) (off:=0) (oo:=0) U2029 rfl rfl sz2027 rfl rfl ?_);refine l_op (k_loadA (cs:=[.int .i64 kd,S (qR la lb).1,S (qR la lb).2,S (qR ha hb).1,S (qR ha hb).2,S (qR ga gb).1,S (qR ga gb).2,S (qR ra rb).1,S (qR ra rb).2]) (b:=fg.heap.size) (o:=0) U2027 rfl sz2027 rfl (Blk.cells fh (i:=0) rfl) ?_);refine cl en2020 ((hAc _ (ht.ext fe))) ?_;rintro _ ks iu rfl;have fm:=be iu.2 fm;have fh:=be iu.2 fh;have fk:=be iu.2 fk;have fj:=be iu.2 fj;have fe:=xt fe iu.2;refine go ?_;refine al inf1032 (fun _ iv rk=>?_);have fm:=be iv.2 fm;have fh:=be iv.2 fh;have fk:=be iv.2 fk;have fj:=be iv.2 fj;have fe:=xt fe iv.2;refine SA rk (fun _ ii fo=>?_);have fm:=pb ii fm;have fh:=pb ii fh;have fk:=pb ii fk;have fj:=pb ii fj;have fe:=plw ii fe;have abo:=psz ii;refine go ?_;refine l_op (k_loadA (cs:=[S ic0,S ic1,S ic2,S ic3]) (b:=ks.heap.size) (o:=0) U1032 rfl sz1032 rfl (Blk.cells fo (i:=0) rfl) ?_);refine l_op (k_fieldAddr (b:=fg.heap.size) (o:=0) (off:=9) (oo:=9) U2029 rfl rfl sz36 rfl rfl ?_);refine go ?_;refine cl en1057 ((hCo _ (ht.ext fe))) ?_;rintro _ _ ij rfl;have fm:=be ij.2 fm;have fh:=be ij.2 fh;have fk:=be ij.2 fk
 have fj:=be ij.2 fj;have fo:=be ij.2 fo;have fe:=xt fe ij.2;refine go ?_;refine cl en2022 ((hMt _ (ht.ext fe))) ?_;rintro _ _ ik rfl;have fm:=be ik.2 fm;have fh:=be ik.2 fh;have fk:=be ik.2 fk;have fj:=be ik.2 fj;have fo:=be ik.2 fo;have fe:=xt fe ik.2;refine go ?_;refine al inf1032 (fun _ il rq=>?_);have fm:=be il.2 fm;have fh:=be il.2 fh;have fk:=be il.2 fk;have fj:=be il.2 fj;have fo:=be il.2 fo;have fe:=xt fe il.2;refine SA rq (fun _ gw _=>?_);have fm:=pb gw fm;have fh:=pb gw fh;have fk:=pb gw fk;have fj:=pb gw fj;have fo:=pb gw fo;have fe:=plw gw fe;have abu:=psz gw;refine go ?_;have fp:=zpv (j8 15 _ _ rfl rfl);refine go ?_
 by_cases co:v1=1
 · have hn : (!ins) = false := by rw [(hI1 co).1]; rfl
   have hc:decide (0<c1)=false:=decide_eq_false (by have:=(hI1 co).2; omega)
   have hv:decide (v1=1)=true:=decide_eq_true co
   have h3:decide (v1=3)=false:=decide_eq_false om
   refine go ?_
   refine l_op (k_fieldAddr (b:=fg.heap.size) (o:=0) (off:=0) (oo:=0) U2029 rfl rfl sz2027 rfl rfl ?_)
   refine go ?_
   refine l_op (k_fieldAddr (b:=fg.heap.size) (o:=0) (off:=7) (oo:=7) U2027 rfl rfl sz36 rfl rfl ?_)
   refine go ?_
   refine cl en49 ((hC1 _ (ht.ext fe))) ?_;rintro abv abw gy rfl;have fe:=xt fe gy.2
   refine go ?_
   exact f_ret1 (t:=6) (v:=.bool true) rfl fe rfl rfl
 have hv:decide (v1=1)=false:=decide_eq_false co
 by_cases cp:v1=3
 · have hn : (!ins) = false := by rw [hI3 cp]; rfl
   have h3:decide (v1=3)=true:=decide_eq_true cp
   have h2:decide (v1=2)=false:=decide_eq_false om
   refine go ?_
   exact f_ret1 (t:=6) (v:=.bool true) rfl fe rfl rfl
 have h3:decide (v1=3)=false:=decide_eq_false cp
 have cq:v1=2:=by omega
 have h2:decide (v1=2)=true:=decide_eq_true cq
 have h2' : (!decide (v1=2))=false:=by rw [h2]; rfl
 cases hi:ins
 · subst hi
   refine go ?_
   exact f_ret1 (t:=6) (v:=.bool true) rfl fe rfl rfl
 · have hc : decide (0 ≤ c2) = true := decide_eq_true (hI2 cq hi)
   subst hi
   refine go ?_
   refine l_op (k_fieldAddr (b:=fg.heap.size) (o:=0) (off:=0) (oo:=0) U2029 rfl rfl sz2027 rfl rfl ?_)
   refine go ?_
   refine l_op (k_fieldAddr (b:=fg.heap.size) (o:=0) (off:=7) (oo:=7) U2027 rfl rfl sz36 rfl rfl ?_)
   refine go ?_
   refine cl en49 ((hC2 _ (ht.ext fe))) ?_;rintro abv abw gy rfl;have fe:=xt fe gy.2
   refine go ?_
   exact f_ret1 (t:=6) (v:=.bool (decide (0≤c2))) rfl fe (congrArg Value.bool hc) rfl
end Go.Proofs.YtonigegpknhdnaaGreatDoor
namespace Go.Proofs.YtonigegpknhdnaaGreatDoor
open Go Go.Eng Go.RowKit
theorem mn_T {pl:Nat}{n d f c:Int}(h:NmC pl n d f c)(hd:0<d)(h8:n≤-8*d) : f=0:=by
  rcases h with ⟨h0,_⟩ | ⟨h0,_⟩ | ⟨_,h1,_⟩ | ⟨_,h2,_⟩
  · omega
  · omega
  · exact h1
  · omega
theorem maxQ_is {k T k' T' : Int} : (maxQ k T k' T'=qR k T∧k'*T≤k*T') ∨ (maxQ k T k' T'=qR k' T'∧k*T'≤k'*T):=by
  unfold maxQ
  by_cases h:k*T'<k'*T
  · exact .inr ⟨mn_t (decide_eq_true (cmpI_gt0 h)),by omega⟩
  · exact .inl ⟨mn_f (decide_eq_false (cmpI_ngt h)),by omega⟩
theorem minQ_is {k T k' T' : Int} : (minQ k T k' T'=qR k T∧k*T'≤k'*T) ∨ (minQ k T k' T'=qR k' T'∧k'*T≤k*T'):=by
  unfold minQ
  by_cases h:k'*T<k*T'
  · exact .inr ⟨mn_t (decide_eq_true (cmpI_lt0 h)),by omega⟩
  · exact .inl ⟨mn_f (decide_eq_false (cmpI_nlt h)),by omega⟩
theorem meet_iv {k u k' u' T T' : Int}(q1:Q9 k T)(q2:Q9 u T)(q3:Q9 k' T')(q4:Q9 u' T')(h1:k*T'≤u'*T)(h2:k'*T≤u*T')(h3:k≤u)(h4:k'≤u') : IvR (maxQ k T k' T',minQ u T u' T'):=by
  have p1:k*T≤u*T:=Int.mul_le_mul_of_nonneg_right h3 (Int.le_of_lt q1.2.1)
  have p2:k'*T'≤u'*T':=Int.mul_le_mul_of_nonneg_right h4 (Int.le_of_lt q3.2.1)
  rcases maxQ_is (k:=k) (T:=T) (k':=k') (T':=T') with ⟨e,_⟩ | ⟨e,_⟩ <;> rcases minQ_is (k:=u) (T:=T) (k':=u') (T':=T') with ⟨g,_⟩ | ⟨g,_⟩ <;> rw [e,g]
  · exact ⟨_,_,_,_,rfl,rfl,q1,q2,p1⟩
  · exact ⟨_,_,_,_,rfl,rfl,q1,q4,h1⟩
  · exact ⟨_,_,_,_,rfl,rfl,q3,q2,h2⟩
  · exact ⟨_,_,_,_,rfl,rfl,q3,q4,p2⟩
theorem ten_x {a b:Int}{n m:Nat}(hn:n≤8)(hm:m≤8)(h:a*tenI (8 - n)≤b*tenI (8 - m)) : a*tenI m≤b*tenI n:=by
  have mn:=ten_mul hn
  have mm:=ten_mul hm
  have pn:=ten_pos n
  have pm:=ten_pos m
  have h1:a*tenI (8 - n)*(tenI n*tenI m)≤b*tenI (8 - m)*(tenI n*tenI m):=Int.mul_le_mul_of_nonneg_right h (Int.le_of_lt (Int.mul_pos pn pm))
  refine Int.le_of_mul_le_mul_right (a:=100000000) ?_ dc
  rw [show a*tenI (8 - n)*(tenI n*tenI m)=a*tenI m*(tenI n*tenI (8 - n)) by grind,show b*tenI (8 - m)*(tenI n*tenI m)=b*tenI n*(tenI m*tenI (8 - m)) by grind,mn,mm] at h1
  exact h1
section
variable {kd : Nat} {L W G gd R q S D : Int}
theorem outL_c (m:MkP kd L W G gd R q S D) {n1 e1 n2 e2 f1 c1 f2 c2:Int} {ml:Nat} (m8:ml≤8) (a1 : -2000≤n1∧n1≤2000) (a2:0<e1∧e1≤600) (a3 : -2000≤n2∧n2≤2000) (a4:0<e2∧e2≤600) (h1:n1*(20*S)=W * -D*e1) (h2:n2*(20*S)=W*(D - 40)*e2)
    (x1:NmX ml n1 e1 f1 c1) (x2:NmX ml n2 e2 f2 c2) {w:World} (ht:Tb w) : Calls Tryz.prog 19 #[CasV kd L 10 (L+W) 10 G gd R q (L*40+W*D) 400 S 20,.int .i64 ((ml:Nat) : Int)] w (Ret w fun v _=>v=.tuple #[IV (f1+f2) (tenI ml) (c1+c2) (tenI ml),.bool true]):=by
  obtain ⟨_,_,_,_,w1,w2,_,_,_,_,_,_,_,_,_,_,d2⟩:=m
  have hwd:=wd_bd w1 w2 (show -50≤D by omega) d2
  have p12:ml≤12:=Nat.le_trans m8 dc
  have hT:=ten_12 p12
  have hT0:=ten_pos ml
  obtain ⟨y1,y2,y3,y4⟩:=x1
  obtain ⟨z1,z2,z3,z4⟩:=x2
  have N1:=y1.call a2.1 om om om p12
  have N2:=z1.call a4.1 om om om p12
  have qS:Q9 S 20:=q9_12 om dc dc
  have qL:Q9 L 10:=q9_12 om dc dc
  have qH:Q9 (L+W) 10:=q9_12 om dc dc
  have qV:Q9 (L*40+W*D) 400:=q9_12 om dc dc
  have qA:Q9 (L*400 - (L*40+W*D)*10) (10*400):=q9_12 om dc dc
  have qB:Q9 ((L*40+W*D)*10 - (L+W)*400) (400*10):=q9_12 om dc dc
  have E1:qR ((L*400 - (L*40+W*D)*10)*20) (10*400*S)=qR n1 e1:=qR_congr om a2.1 (by grind)
  have E2:qR (((L*40+W*D)*10 - (L+W)*400)*20) (400*10*S)=qR n2 e2:=qR_congr om a4.1 (by grind)
  have s1' : 0<S:=by omega
  refine outL_walk (fun W hW=>qSubX qL qV hW) (fun W hW=>qSubX qV qH hW) (fun W hW=>?_) (fun W hW=>?_) (fun W hW=>N1 W hW) (fun W hW=>N2 W hW) (fun W hW=>?_) ht
  · have h := qDivX qA qS s1' hW
    unfold Qv at h
    rw [E1] at h; exact h
  · have h := qDivX qB qS s1' hW
    unfold Qv at h
    rw [E2] at h; exact h
  · have h := encAdd_ok (a := f1) (b := tenI ml) (c := c1) (d := tenI ml) (a' := f2) (b' := tenI ml) (c' := c2) (d' := tenI ml) (x := (qR f1 (tenI ml), qR c1 (tenI ml))) (y := (qR f2 (tenI ml), qR c2 (tenI ml))) (IvR.cell y3 y2 y4 p12) (IvR.cell z3 z2 z4 p12) rfl rfl (q9_cell om p12) (q9_cell om p12) rfl rfl (q9_cell om p12) (q9_cell om p12) hW
    rw [qR_congr (Int.mul_pos hT0 hT0) hT0 (show (f1*tenI ml+f2*tenI ml)*tenI ml=(f1+f2)*(tenI ml*tenI ml) by grind),qR_congr (Int.mul_pos hT0 hT0) hT0 (show (c1*tenI ml+c2*tenI ml)*tenI ml=(c1+c2)*(tenI ml*tenI ml) by grind)] at h
    exact h
theorem sum_le {W D S n1 e1 n2 e2 lo1 hi1 lo2 hi2 f1 c1 f2 c2:Int} {ml:Nat} (w1:1≤W) (w2:W≤40) (d1:1≤D) (d2:D≤10) (s1:1≤S) (s2:S≤30) (m8:ml≤8) (he1:0<e1) (he2:0<e2) (q1:n1*(20*S)=W*D*e1) (q2:n2*(20*S) = -(W*(40+D))*e2)
    (l1:lo1≤hi1) (l2:lo2≤hi2) (x1 : ∃ f c,NmX 3 n1 e1 f c∧f*tenI (8 - 3)≤lo1∧hi1≤c*tenI (8 - 3)) (x2 : ∃ f c,NmX 3 n2 e2 f c∧f*tenI (8 - 3)≤lo2∧hi2≤c*tenI (8 - 3))
    (y1:NmX ml n1 e1 f1 c1) (y2:NmX ml n2 e2 f2 c2) (z1:f1*tenI (8 - ml)≤lo1) (z2:f2*tenI (8 - ml)≤lo2) : (f1+f2)*tenI (8 - ml)≤100000000:=by
  obtain ⟨W',rfl⟩ : ∃ W' : Nat,W=W':=⟨W.toNat,by omega⟩
  obtain ⟨D',rfl⟩ : ∃ D' : Nat,D=D':=⟨D.toNat,by omega⟩
  obtain ⟨S',rfl⟩ : ∃ S' : Nat,S=S':=⟨S.toNat,by omega⟩
  by_cases h8:W'*(40+D')<160*S'
  · obtain ⟨_, c, ⟨a, _⟩, _, b⟩ := x1
    obtain ⟨_,c',⟨a',_⟩,_,b'⟩:=x2
    have h:=mon_ge (W:=W') (D:=D') (S:=S') om om om om om om he1 he2 h8 q1 q2 a a'
    rw [show tenI (8 - 3)=100000 by decide] at b b'
    rw [Int.add_mul]; omega
  · have hb : n2 ≤ -8 * e2 := by
      have h9:(160:Int)*S'≤(W' : Int)*(40+(D' : Int)):=by
        have:((160*S' : Nat) : Int)≤((W'*(40+D') : Nat) : Int):=by omega
        rw [Int.natCast_mul,Int.natCast_mul] at this
        exact this
      refine Int.le_of_mul_le_mul_right (a:=20*(S' : Int)) ?_ om
      rw [q2]
      have h10:(160:Int)*S'*e2≤(W' : Int)*(40+(D' : Int))*e2:=Int.mul_le_mul_of_nonneg_right h9 (Int.le_of_lt he2)
      grind
    have hf:=mn_T y2.1 he2 hb
    have hM:=ten_mul m8
    have h0:=ten_pos (8 - ml)
    have h1:f1≤tenI ml:=by have:=y1.2; omega
    rw [hf,Int.add_zero,← hM]
    exact Int.mul_le_mul_of_nonneg_right h1 (Int.le_of_lt h0)
theorem decideProved_law {x0 x1 x2 x3 x4 x5 x6 y z:Int}{w:World}(hx0:In64 x0)(hx1:In64 x1)(hx2:In64 x2)(hx3:In64 x3)(hx4:In64 x4)(hx5:In64 x5)(hx6:In64 x6)(hy:In64 y)(hz:In64 z)(ht:Tb w) :
    Calls Tryz.prog 7 #[.agg #[.int .i64 x0,.int .i64 x1,.int .i64 x2,.int .i64 x3,.int .i64 x4,.int .i64 x5,.int .i64 x6],.int .i64 y,.int .i64 z] w (Ret w fun v _=>v=.bool true):=by
  obtain ⟨_,L,W,G,_,R,q,S,D,m,hMk⟩:=make_c hx0 hx1 hx2 hx3 hx4 hx5 hx6
  obtain ⟨xa,xb,ya,yb,rl,hv⟩:=m.rl
  obtain ⟨v,vs,s0⟩:=m.vs
  obtain ⟨pl,hpl,p1,p8⟩:=pl_of hy
  obtain ⟨ml,hml,m1,m8⟩:=pl_of hz
  have hq:0<q:=by have:=m.q1; omega
  have w1:=m.w1
  have w2:=m.w2
  have s1:=m.s1
  have s2:=m.s2
  have d1:=m.d1
  have d2:=m.d2
  have l1:=m.l1
  have l2:=m.l2
  obtain ⟨n1,e1,a1,a2,_,_,a5,_,_,_,b1,b2,b3⟩:=shX_int (W:=W) (D:=-D) (s:=S) w1 w2 om om s1 s2
  obtain ⟨n2,e2,c1,c2,_,_,c5,_,_,_,g1,g2,g3⟩:=shX_int (W:=W) (D:=D - 40) (s:=S) w1 w2 om om s1 s2
  obtain ⟨⟨f1,t1,i1,i2,i3⟩,_⟩:=b3 pl p1 p8
  obtain ⟨⟨f2,t2,i4,i5,i6⟩,_⟩:=g3 pl p1 p8
  obtain ⟨_,f3,t3,i7,i8,_⟩:=b3 ml m1 m8
  obtain ⟨_,f4,t4,j1,j2,_⟩:=g3 ml m1 m8
  have z1:Sz n1 e1:=sz_ om a1 om
  have z2:Sz n2 e2:=sz_ om c1 om
  have o:OutC pl (L*40+W*D) 400 S 20 L 10 (L+W) 10 (min (f1+f2) (tenI pl)) (min (t1+t2) (tenI pl)):=outN_of p1 om z1 z2 i1 i4 _ _ _ _ _ _ _ _ v vs s0 (sz_ om dc dc) (sz_ om dc dc) om (by grind) (by grind)
  have hM:=ten_mul p8
  have hM':=ten_mul m8
  have hT0:=ten_pos pl
  have hT0':=ten_pos ml
  have hT:=ten_12 (pl:=pl) om
  have hT':=ten_12 (pl:=ml) om
  have k1:(min (f1+f2) (tenI pl))*tenI (8 - pl)≤(t3+t4)*tenI (8 - ml):=by
    have h0:=ten_pos (8 - pl)
    have h1:min (f1+f2) (tenI pl)*tenI (8 - pl)≤(f1+f2)*tenI (8 - pl):=Int.mul_le_mul_of_nonneg_right om (Int.le_of_lt h0)
    rw [Int.add_mul] at h1 ⊢; omega
  have k0:(f3+f4)*tenI (8 - ml)≤100000000:=by
    rcases (by omega:D<0 ∨ (0≤D∧D≤40) ∨ 40<D) with h | h | h
    · exact sum_le (W:=W) (D:=-D) (S:=S) w1 w2 om om s1 s2 m8 a1 c1 a5 (by rw [c5]; grind) b1 g1 (b3 3 dc dc).2 (g3 3 dc dc).2 i7 j1 i8 j2
    · have h1 := b2 om
      have h2:=g2 om
      rw [Int.add_mul]; omega
    · rw [Int.add_comm]
      exact sum_le (W:=W) (D:=D - 40) (S:=S) w1 w2 om om s1 s2 m8 c1 a1 c5 (by rw [a5]; grind) g1 b1 (g3 3 dc dc).2 (b3 3 dc dc).2 j1 i7 j2 i8
  have k2:(f3+f4)*tenI (8 - ml)≤(min (t1+t2) (tenI pl))*tenI (8 - pl):=by
    rcases (by omega:min (t1+t2) (tenI pl)=t1+t2 ∨ min (t1+t2) (tenI pl)=tenI pl) with h | h
    · rw [h,Int.add_mul,Int.add_mul]; omega
    · rw [h,hM]; exact k0
  have u1:=ten_x p8 m8 k1
  have u2:=ten_x m8 p8 k2
  have ox:=o.1
  have oy:=o.2.1
  have i7':=i7.2
  have j1':=j1.2
  have sh1:f1≤t1∧0≤f1:=by obtain ⟨_,_,_,_,a,b,_⟩:=i1; exact ⟨a,b⟩
  have sh2:f2≤t2∧0≤f2:=by obtain ⟨_,_,_,_,a,b,_⟩:=i4; exact ⟨a,b⟩
  have Q1:=q9_cell o.1 (show pl≤12 by omega)
  have Q2:=q9_cell o.2.1 (show pl≤12 by omega)
  have Q3:Q9 (f3+f4) (tenI ml):=q9_cell om om
  have Q4:Q9 (t3+t4) (tenI ml):=q9_cell om om
  have kk:min (f1+f2) (tenI pl)≤min (t1+t2) (tenI pl):=by omega
  have DC:=fun X hX=>decide_c (w:=X) rl hv v om o hX
  have OT:=fun X hX=>outL_c (w:=X) m m8 ⟨by omega,by omega⟩ ⟨a1,a2⟩ ⟨by omega,by omega⟩ ⟨c1,c2⟩ a5 c5 i7 j1 hX
  generalize min (f1+f2) (tenI pl)=k at *
  generalize min (t1+t2) (tenI pl)=u at *
  have MT := fun X hX => encMeet_ok (w := X) (a := k) (b := tenI pl) (c := u) (d := tenI pl) (a' := f3 + f4) (b' := tenI ml) (c' := t3 + t4) (d' := tenI ml) (x := (qR k (tenI pl), qR u (tenI pl))) (y := (qR (f3 + f4) (tenI ml), qR (t3 + t4) (tenI ml)))
    ⟨_,_,_,_,rfl,rfl,Q1,Q2,Int.mul_le_mul_of_nonneg_right kk (Int.le_of_lt hT0)⟩ ⟨_,_,_,_,rfl,rfl,Q3,Q4,Int.mul_le_mul_of_nonneg_right om (Int.le_of_lt hT0')⟩ rfl rfl Q1 Q2 rfl rfl Q3 Q4 (meet_iv Q1 Q2 Q3 Q4 u1 u2 kk om) hX
  refine proved_walk hy hpl hz hml vdct_ge (by have:=@vdct_ge; unfold vdct; split <;> (try split) <;> decide) (fun h=>?_) (fun h=>?_) (fun h hi=>?_) (fun X hX=>sane_c hX) (fun X _=>hMk X) DC OT (fun X hX=>rl.accept hv hX) (fun X hX=>contains_in rl.qx.1 rl.qx.2 v.q9 hv hX) MT (fun X hX=>qCmpX Q3 rl.r.q9 hX) (fun X hX=>qCmpX Q4 rl.r.q9 hX) ht
  · obtain ⟨_, h2⟩ := vdct_1.1 h
    unfold acpB at h2
    rw [Bool.and_eq_true,decide_eq_true_eq] at h2
    refine ⟨h2.1,cmpI_nonpos.2 ?_⟩
    refine Int.le_of_mul_le_mul_right (a:=tenI pl) ?_ hT0
    have h3:(f3+f4)*tenI pl*q≤u*tenI ml*q:=Int.mul_le_mul_of_nonneg_right u2 (Int.le_of_lt hq)
    have h4:u*q*tenI ml≤R*tenI pl*tenI ml:=Int.mul_le_mul_of_nonneg_right h2.2 (Int.le_of_lt hT0')
    grind
  · cases hi : insB xa xb ya yb (L * 40 + W * D) 400 with
    | true=>rfl
    | false=>rw [hi] at h; exact absurd h (by unfold rejB vdct; simp)
  · rw [vdct_2] at h
    unfold rejB at h
    rw [hi,Bool.not_true,Bool.false_or,decide_eq_true_eq] at h
    refine cmpI_swap0.2 ?_
    refine Int.le_of_mul_le_mul_right (a:=tenI pl) ?_ hT0
    have h3:k*tenI ml*q≤(t3+t4)*tenI pl*q:=Int.mul_le_mul_of_nonneg_right u1 (Int.le_of_lt hq)
    have h4:R*tenI pl*tenI ml≤k*q*tenI ml:=Int.mul_le_mul_of_nonneg_right (Int.le_of_lt h) (Int.le_of_lt hT0')
    grind
end
end Go.Proofs.YtonigegpknhdnaaGreatDoor
