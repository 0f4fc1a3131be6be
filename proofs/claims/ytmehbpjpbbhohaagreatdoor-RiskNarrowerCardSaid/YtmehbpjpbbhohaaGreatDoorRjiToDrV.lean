/- Part of the proof of a statement about risks. -/
import Derived.Test.YtmehbpjpbbhohaaGreatDoorDrAToRjg
import Derived.Test.YtmehbpjpbbhohaaGreatDoorEngPToEngH
import Derived.Test.YtmehbpjpbbhohaaGreatDoorDrP
import Derived.Test.YtmehbpjpbbhohaaGreatDoorRjk
set_option linter.all false
namespace Go.Proofs.YtmehbpjpbbhohaaGreatDoor
set_option maxRecDepth 100000
open Go Go.Eng Go.RowKit
attribute [local irreducible] wpListIn Code.wpIn Oper.wpIn Exit.then Exit.inBlock Exit.noGoto
set_option maxHeartbeats 40000000
theorem insideZ_ok {pl:Nat}{w:World}(h1:1<=pl)(h12:pl<=12)(hVa:∀W,Tb W->CL 16 #[.agg #[S ([]),S ([]),S ([]),S ([]),S ([]),S ([]),S ([]),S ([]),S ([]),S ([]),S ([]),S ([]),S ([]),S ([])]] W (Ret W λv _=>v=.bool false))(ht:Tb w):
    CL 13 #[.agg #[S ([]),S ([]),S ([]),S ([]),S ([]),S ([]),S ([]),S ([]),S ([]),S ([]),S ([]),S ([]),S ([]),S ([])],.int .i64 pl] w (Ret w λv w'=>v=.tuple #[.agg #[S ([]),S ([]),S ([]),S ([])],.int .i64 150]):=by
 refine f_in Tryz.func13 rfl ?_;refine go ?_;refine bx (λaot aow sc=>?_);have r8:=aow.2;refine al inf1032 (λaou aov aol=>?_);have⟨sc,r8⟩:=be1 aov.2 sc r8;refine al inf32 (λ_ aor aom=>?_);have⟨sc,aol,r8⟩:=be2 aor.2 sc aol r8;refine go ?_;refine cl en2099 (riskRight_ok h1 h12) ?_;rintro _ _ aon rfl;have⟨sc,aol,aom,r8⟩:=be3 aon.2 sc aol aom r8;refine go ?_;refine l_op (k_loadA (cs:=[S ([]),S ([]),S ([]),S ([]),S ([]),S ([]),S ([]),S ([]),S ([]),S ([]),S ([]),S ([]),S ([]),S ([])]) (b:=w.heap.size) (o:=0) U2296 rfl sz2296 rfl (Blk.cells sc (i:=0) (by kernel_rfl)) ?_);refine go ?_;refine cl en3016 ((hVa _ (ht.ext r8))) ?_;rintro _ _ aoo rfl;have⟨sc,aol,aom,r8⟩:=be3 aoo.2 sc aol aom r8;refine go ?_;refine SA aol (λ_ aop aos=>?_);have⟨sc,aom,r8,_⟩:=pl2 aop sc aom r8;refine SO aom (λ_ aoq aox=>?_);have⟨sc,aos,r8,_⟩:=pl2 aoq sc aos r8;refine go ?_;refine f_out (v:=.tuple #[.agg #[S ([]),S ([]),S ([]),S ([])],.int .i64 150]) (res2 (r1:=.cell 4 33) (r2:=.cell 5 34) rfl ?_ ?_) r8 rfl;refine res_cellA (t:=4) (cs:=[S ([]),S ([]),S ([]),S ([])]) (b:=aot.heap.size) (o:=0) U1032 rfl sz1032 ?_ ?_;exact rfl;exact Blk.cells aos (i:=0) rfl;refine res_cell (t:=5) (b:=aou.heap.size) (o:=0) U32 rfl ?_ ?_;exact rfl;exact Blk.cell aox rfl
theorem totalZ_ok {ma mb sa sb ea eb la lb ha hb oa ob ga gb:Int}{pl gp gc:Nat}{w:World}(h1:1<=pl)(h12:pl<=12)(hVa:∀W,Tb W->CL 16 #[.agg (t7 ma mb sa sb ea eb la lb ha hb oa ob ga gb)] W (Ret W λv _=>v=.bool true))(ht:Tb w):
    CL 39 #[.agg (t7 ma mb sa sb ea eb la lb ha hb oa ob ga gb),.int .i64 0,.int .i64 pl,.func (.func gp) #[] #[],.func (.func gc) #[] #[]] w (Ret w λv w'=>v=.tuple #[.agg #[S ([]),S ([]),S ([]),S ([])],.int .i64 150]):=by
 refine f_in Tryz.func39 rfl ?_;refine go ?_;refine bx (λ_ aoz sc=>?_);have r8:=aoz.2;refine bx (v:=.func (.func gp) #[] #[]) (hx:=rfl) (λ_ aow aol=>?_);have⟨sc,r8⟩:=be1 aow.2 sc r8;refine bx (v:=.func (.func gc) #[] #[]) (hx:=rfl) (λaox aou aom=>?_);have⟨sc,aol,r8⟩:=be2 aou.2 sc aol r8;refine al inf1032 (λaoy aot aoq=>?_);have⟨sc,aol,aom,r8⟩:=be3 aot.2 sc aol aom r8;refine al inf32 (λ_ aor aos=>?_);have⟨sc,aol,aom,aoq,r8⟩:=be4 aor.2 sc aol aom aoq r8;refine go ?_;refine cl en2099 (riskRight_ok h1 h12) ?_;rintro _ _ aon rfl;have⟨sc,aol,aom,aoq,aos,r8⟩:=be5 aon.2 sc aol aom aoq aos r8;refine go ?_;refine SA aoq (λ_ aoo aov=>?_);have⟨sc,aol,aom,aos,r8,_⟩:=pl4 aoo sc aol aom aos r8;refine SO aos (λ_ aop ao0=>?_);have⟨sc,aol,aom,aov,r8,_⟩:=pl4 aop sc aol aom aov r8;refine go ?_;refine f_out (v:=.tuple #[.agg #[S ([]),S ([]),S ([]),S ([])],.int .i64 150]) (res2 (r1:=.cell 10 33) (r2:=.cell 11 34) rfl ?_ ?_) r8 rfl;refine res_cellA (t:=10) (cs:=[S ([]),S ([]),S ([]),S ([])]) (b:=aox.heap.size) (o:=0) U1032 rfl sz1032 ?_ ?_;exact rfl;exact Blk.cells aov (i:=0) rfl;refine res_cell (t:=11) (b:=aoy.heap.size) (o:=0) U32 rfl ?_ ?_;exact rfl;exact Blk.cell ao0 rfl
set_option maxRecDepth 100000 in
theorem consumerZ_ok {ma mb sa sb ea eb la lb ha hb oa ob ga gb:Int}{pl:Nat}{w:World}(h1:1<=pl)(h12:pl<=12)(hVa:∀W,Tb W->CL 16 #[.agg (t7 ma mb sa sb ea eb la lb ha hb oa ob ga gb)] W (Ret W λv _=>v=.bool true))(ht:Tb w):
    CL 14 #[.agg (t7 ma mb sa sb ea eb la lb ha hb oa ob ga gb),.int .i64 0,.int .i64 pl] w (Ret w λv w'=>v=.tuple #[.agg #[S ([]),S ([]),S ([]),S ([])],.int .i64 150]):=by
 refine f_in Tryz.func14 rfl ?_;refine go ?_;refine bx (λaoo aoq sc=>?_);have r8:=aoq.2;refine al inf1032 (λ_ aop aol=>?_);have⟨sc,r8⟩:=be1 aop.2 sc r8;refine go ?_;refine l_op (k_loadA (cs:=[S (qR ma mb).1,S (qR ma mb).2,S (qR sa sb).1,S (qR sa sb).2,S (qR ea eb).1,S (qR ea eb).2,S (qR la lb).1,S (qR la lb).2,S (qR ha hb).1,S (qR ha hb).2,S (qR oa ob).1,S (qR oa ob).2,S (qR ga gb).1,S (qR ga gb).2]) (b:=w.heap.size) (o:=0) U2296 rfl sz2296 rfl (Blk.cells sc (i:=0) (by kernel_rfl)) ?_);refine go ?_;refine cl en3039 (totalZ_ok h1 h12 hVa (ht.ext r8)) ?_;rintro _ _ aom rfl;have⟨sc,aol,r8⟩:=be2 aom.2 sc aol r8;refine go ?_;refine SA aol (λ_ aon aor=>?_);have⟨sc,r8,_⟩:=pl1 aon sc r8;refine go ?_;refine f_out (v:=.tuple #[.agg #[S ([]),S ([]),S ([]),S ([])],.int .i64 150]) (res2 (r1:=.cell 6 33) (r2:=.tmp 7) rfl ?_ ?_) r8 rfl;refine res_cellA (t:=6) (cs:=[S ([]),S ([]),S ([]),S ([])]) (b:=aoo.heap.size) (o:=0) U1032 rfl sz1032 ?_ ?_;exact rfl;exact Blk.cells aor (i:=0) rfl;exact res_tmp (t:=7) (by exact rfl) _
end Go.Proofs.YtmehbpjpbbhohaaGreatDoor
namespace Go.Proofs.YtmehbpjpbbhohaaGreatDoor
open Go Go.Eng Go.RowKit
theorem sh_ex {pl u f c:Nat}{n d:Int}(hd:0<d)(e:n*1000000=u*d)(h0:0<u)(h8:u<8000000)(h:Cel pl u f c):Sh pl n d f c∧Sh pl (-n) d (tenI pl-c) (tenI pl-f):=by
  have hT:((10^pl:Nat):Int)=tenI pl:=rfl
  have hn0:0<n:=by
    rcases Int.lt_or_le 0 n with x|x
    · exact x
    · have:=Int.mul_pos (show(0:Int)<u by omega) hd;omega
  have hn8:n<8*d:=by
    have:(u:Int)*d<8000000*d:=Int.mul_lt_mul_of_pos_right om hd
    omega
  have c1:clp n d=(n,d):=by unfold clp;rw[if_pos om,if_pos om]
  have c2:clp (-n) d=(-n,d):=by unfold clp;rw[if_pos om,if_pos om]
  have e1:flI n d (tenI 6)=u∧clI n d (tenI 6)=u:=by
    unfold flI clI
    rw[ten6,e,Int.mul_ediv_cancel _ om,Int.mul_emod_left,if_pos rfl];exact⟨rfl,rfl⟩
  have hle:=h.le
  have h3:=h.2.2.1
  have h4:=h.2.2.2
  constructor
  · refine⟨f,c,?_,?_,by omega,by omega,by omega⟩
    · rw[c1];simp only;rw[e1.1];exact h.nmc h0 h8
    · rw[c1];simp only;rw[e1.2];exact h.nmc h0 h8
  · refine⟨tenI pl-c,tenI pl-f,?_,?_,by omega,by omega,by omega⟩
    · rw[c2];simp only;rw[flI_neg hd,e1.2];exact h.nmn h0 h8
    · rw[c2];simp only;rw[clI_neg hd,e1.1];exact h.nmn h0 h8
def oneK (ck:Nat->Nat->(Nat->Nat->Bool)->Bool)(T n d F C:Nat):Bool:=ck n d λf c=>and (and (Nat.beq f F) (Nat.beq c C)) (and (Nat.ble T (Nat.mul 2 F)) (Nat.ble C T))
theorem oneK_ok {pl u n d T F C:Nat}{ck:Nat->Nat->(Nat->Nat->Bool)->Bool}(hc:CkR pl ck)(hT:T=10^pl)(en:u/Nat.gcd u 1000000=n)(ed:1000000/Nat.gcd u 1000000=d)(hn:0<n)(hd:0<d)(h:oneK ck T n d F C=true):Cel pl u F C:=by
  obtain⟨f,c,hP,hk⟩:=hc n d _ hn hd h
  simp only[Bool.and_eq_true,Nat.ble_eq]at hk
  obtain⟨⟨h1,h2⟩,h3,h4⟩:=hk
  have h1:=Nat.eq_of_beq_eq_true h1
  have h2:=Nat.eq_of_beq_eq_true h2
  subst h1 h2 en ed hT
  obtain⟨r1,r2⟩:=posR_cel dc hP
  exact⟨r1,r2,h3,h4⟩
theorem ce1:Cel 4 2000000 9772 9773:=oneK_ok (T:=10000) (n:=2) (d:=1) nmo4 dc (by decide +kernel) (by decide +kernel) dc dc (by decide +kernel)
theorem ce6:Cel 2 6000000 99 100:=oneK_ok (T:=100) (n:=6) (d:=1) nmo2 dc (by decide +kernel) (by decide +kernel) dc dc (by decide +kernel)
theorem qv_congr {a b c d:Int}(hb:0<b)(hd:0<d)(h:a*d=c*b):QV a b=QV c d:=by unfold QV;rw[qR_congr hb hd h]
theorem frs:Fr 1 0 100:=⟨by decide,by decide,by decide,by decide,by decide,by decide⟩
theorem tsts:Tst 0 (10*(10:Nat)) (5*(2:Nat)) (-200) 200 (-200) 200:=⟨by decide,by decide,by decide,by decide,by decide,by decide,by decide,by decide⟩
theorem tse:TSv 1 0 100 0 (10*(10:Nat)) (5*(2:Nat)) (-200) 200 (-200) 200=.agg (t7 0 1 1 1 1 10 (-2) 1 2 1 (-2) 1 2 1):=
  tsv_eq dc dc dc dc dc dc dc dc dc
theorem con_c {a c:Int}{pl:Nat}{n m:Int}{b:Bool}(p5:pl<=5)(ha:0<=a)(hac:a<=c)(hcT:c<=10^12)(hn:0<=n∧n<=100000)(hm:0<m∧m<=100000)(hb:(decide (a*m<=n*tenI pl)&&decide (n*tenI pl<=c*m))=b):
    ∀W,Tb W->CL 24 #[IV a (tenI pl) c (tenI pl),.int .i64 n,.int .i64 m] W (Ret W λv _=>v=.bool b):=by
  intro W hW
  have T:=t12 p5
  refine lfcontains_ok (by unfold In64;omega) (by unfold In64;omega) om (λW hW=>?_) hW
  have q:∀z:Int,0<=z->z<=10^12->Q9 z (tenI pl):=λz _ _=>q9_cell (Nat.lt_of_le_of_lt (show z.natAbs<=10^12 by omega) dc) om
  have h:=encContainsG_ok (q a ha om) (q c om hcT) (q9_12 (a:=n) (b:=m) om hm.1 om) (cmp_T1 T.2 hac) hW
  simp only[cmpI_nonpos]at h
  rwa [hb]at h
theorem sane_c (W:World)(hW:Tb W):CL 8 #[] W (Ret W λv _=>v=.bool true):=by
  obtain⟨v,hv⟩:=dr_all 10 dc dc
  obtain⟨v',hv'⟩:=dr_all 2 dc dc
  obtain⟨F4,C4,h4⟩:=Fcs.of hv dc 4 dc dc
  obtain⟨G4,D4,k4⟩:=Fcs.of hv' dc 4 dc dc
  obtain⟨F3,C3,h3⟩:=Fcs.of hv dc 3 dc dc
  obtain⟨G3,D3,k3⟩:=Fcs.of hv' dc 3 dc dc
  obtain⟨F2,C2,h2⟩:=Fcs.of hv dc 2 dc dc
  obtain⟨G2,D2,k2⟩:=Fcs.of hv' dc 2 dc dc
  have t4:=h4.tsh k4 frs tsts
  have t3:=h3.tsh k3 frs tsts
  have t2:=h2.tsh k2 frs tsts
  have T4:tenI 4=10000:=by decide
  have T3:tenI 3=1000:=by decide
  have T2:tenI 2=100:=by decide
  have s2:=sh_ex (n:=2) (d:=1) dc dc dc dc ce1
  have e1:=(h4.sh 100).uniq (s2.1.congr dc dc dc)
  have e2:=(h4.sh (-100)).uniq (s2.2.congr dc dc dc)
  have s6:=sh_ex (n:=6) (d:=1) dc dc dc dc ce6
  have e3:=(h2.sh 300).uniq (s6.1.congr dc dc dc)
  have e4:=(h2.sh (-300)).uniq (s6.2.congr dc dc dc)
  rw[T4]at e2
  rw[T2]at e4
  have z3:=(k3.sh 0).uniq (sh2_zero (pl:=3) (d:=5*(2:Nat)) dc dc).1
  have i3:=k3.hi (K:=400) dc
  have j3:=k3.hi (K:=700) dc
  have i2:=k2.hi (K:=400) dc
  have j2:=k2.hi (K:=200) dc
  have mL:mLo (sdO F4 C4 G4 D4 0 (-200) 200).f (sdO F4 C4 G4 D4 0 (-200) 200).c (-200) 200=9544:=by
    show max 0 (F4 100-C4 (-100))=9544
    omega
  have mH:mHi (sdO F4 C4 G4 D4 0 (-200) 200).f (sdO F4 C4 G4 D4 0 (-200) 200).c (-200) 200=9546:=by
    show max 0 (C4 100-F4 (-100))=9546
    omega
  have r2:rst F2 C2 (10*(10:Nat)) (tenI 2)=200:=by
    show(C2 (-300)+tenI 2-F2 300)*tenI 2=200
    rw[T2];omega
  have cb:∀K,0<=C4 K∧0<=F4 K:=λK=>by have:=h4.fc.bd (K:=K);omega
  have gb3:∀K,0<=G3 K∧G3 K<=D3 K∧D3 K<=1000:=λK=>by have:=k3.fc.bd (K:=K);rw[T3]at this;omega
  have gb2:∀K,0<=G2 K∧G2 K<=D2 K∧D2 K<=100:=λK=>by have:=k2.fc.bd (K:=K);rw[T2]at this;omega
  have ok3:=t3.ok
  have ok2:=t2.ok
  have con2:=ok2.con (E:=En 0 (10*(10:Nat)) 300 2) (L:=-200) (H:=200) (n:=2)
  have pro2:=ok2.pro (E:=En 0 (10*(10:Nat)) 300 2) (L:=-200) (H:=200) (n:=2)
  have En0:En 0 (10*(10:Nat)) 300 2 0=-600∧En 0 (10*(10:Nat)) 300 2 1=0∧En 0 (10*(10:Nat)) 300 2 2=600:=by decide
  generalize hsd2:sdO F2 C2 G2 D2 0 (-200) 200=sd at *
  have cl0:sd.conL (En 0 (10*(10:Nat)) 300 2) (-200) 200 2=0:=by
    show 0+(sd.tcL (En 0 (10*(10:Nat)) 300 2 0) (min (En 0 (10*(10:Nat)) 300 2 1) (-200))+sd.tcL (max (En 0 (10*(10:Nat)) 300 2 0) 200) (En 0 (10*(10:Nat)) 300 2 1))+(sd.tcL (En 0 (10*(10:Nat)) 300 2 1) (min (En 0 (10*(10:Nat)) 300 2 2) (-200))+sd.tcL (max (En 0 (10*(10:Nat)) 300 2 1) 200) (En 0 (10*(10:Nat)) 300 2 2))=0
    rw[En0.1,En0.2.1,En0.2.2]
    have b1:sd.bL (-600) (-200)=0:=by
      have h1:sd.chL (-600)=0:=by
        rw[<-hsd2]
        show max 0 (G2 800-D2 400)=0
        have:=gb2 800
        omega
      have:=(ok2.ch (X:=-200)).1
      unfold Sd.bL;omega
    have b2:sd.bL 200 600=0:=by
      have h1:sd.chL 600=0:=by
        rw[<-hsd2]
        show max 0 (G2 (-400)-D2 (-800))=0
        have:=gb2 (-800)
        omega
      have:=(ok2.ch (X:=200)).1
      unfold Sd.bL;omega
    have a1:sd.tcL (-600) (min 0 (-200))=0:=by
      show(if(-600:Int)< -200 then mLo sd.f sd.c (-600) (-200)*sd.bL (-600) (-200)else 0)=0
      rw[b1];simp
    have a2:sd.tcL (max 0 200) 600=0:=by
      show(if(200:Int)<600 then mLo sd.f sd.c 200 600*sd.bL 200 600 else 0)=0
      rw[b2];simp
    have a3:sd.tcL (max (-600) 200) 0=0:=if_neg dc
    have a4:sd.tcL 0 (min 600 (-200))=0:=if_neg dc
    omega
  have pl0:sd.proL (tenI 2) (En 0 (10*(10:Nat)) 300 2) (-200) 200 2=0:=by
    show 0+sd.tpL (tenI 2) (max (En 0 (10*(10:Nat)) 300 2 0) (-200)) (min (En 0 (10*(10:Nat)) 300 2 1) 200)+sd.tpL (tenI 2) (max (En 0 (10*(10:Nat)) 300 2 1) (-200)) (min (En 0 (10*(10:Nat)) 300 2 2) 200)=0
    rw[En0.1,En0.2.1,En0.2.2]
    have ct:sd.ct=0:=by rw[<-hsd2];rfl
    have h1:sd.chH 0=100:=by
      rw[<-hsd2]
      show max 0 (D2 200-G2 (-200))=100
      omega
    have key:∀X Y:Int,X<=0->0<=Y->sd.tpL (tenI 2) X Y=0:=by
      intro X Y hX hY
      have h2:=(ok2.b (X:=X) (Y:=Y)).2.2
      have h3:100<=sd.bH X Y:=by
        unfold Sd.bH
        rw[if_pos om,ct,h1];omega
      unfold Sd.tpL
      rw[show max 0 (tenI 2-sd.bH X Y)=0 by omega]
      simp
    rw[key _ _ dc dc,key _ _ dc dc]
    rfl
  have flz:flI 0 (tenI 2*tenI 2) (tenI 2)=0:=by decide
  have clb:∀z:Int,0<=z->2<=clI (200+z) (tenI 2*tenI 2) (tenI 2):=λz hz=>by
    rw[T2];unfold clI;split <;>omega
  have clu:∀z:Int,z<=10^12->clI (200+z) (tenI 2*tenI 2) (tenI 2)<=10^12:=λz hz=>by
    rw[T2];unfold clI;split <;>omega
  have cbd:∀E:Nat->Int,sd.conH E (-200) 200 2<=10^6∧sd.proH (tenI 2) E (-200) 200 2<=10^6:=by
    intro E
    have m1:∀X Y,(0<=sd.tcH X Y∧sd.tcH X Y<=10000)∧0<=sd.tpH (tenI 2) X Y∧sd.tpH (tenI 2) X Y<=10000:=by
      intro X Y
      have a:=ok2.mm (X:=X) (Y:=Y)
      have b:=ok2.b (X:=X) (Y:=Y)
      rw[T2]at *
      unfold Sd.tcH Sd.tpH
      constructor
      · split
        · have:=Int.mul_le_mul a.2.2 b.2.2 om dc
          have:=Int.mul_nonneg (show 0<=mHi sd.f sd.c X Y by omega) (show 0<=sd.bH X Y by omega)
          omega
        · decide
      · split
        · have:=Int.mul_le_mul a.2.2 (show 100-sd.bL X Y<=100 by omega) om dc
          have:=Int.mul_nonneg (show 0<=mHi sd.f sd.c X Y by omega) (show 0<=100-sd.bL X Y by omega)
          omega
        · decide
    have s1:=(sumI_bd (g:=λi=>sd.tcH (E i) (min (E (i+1)) (-200))+sd.tcH (max (E i) 200) (E (i+1))) (n:=2) (c:=20000) λi _=>by
      have a:=(m1 (E i) (min (E (i+1)) (-200))).1
      have b:=(m1 (max (E i) 200) (E (i+1))).1
      omega).2
    have s2:=(sumI_bd (g:=λi=>sd.tpH (tenI 2) (max (E i) (-200)) (min (E (i+1)) 200)) (n:=2) (c:=20000) λi _=>by
      have a:=(m1 (max (E i) (-200)) (min (E (i+1)) 200)).2
      omega).2
    exact⟨Int.le_trans s1 dc,Int.le_trans s2 dc⟩
  have cH:=cbd (En 0 (10*(10:Nat)) 300 2)
  have ac2:(sdO F3 C3 G3 D3 0 (-200) 200).chL 200<=500∧500<=(sdO F3 C3 G3 D3 0 (-200) 200).chH 200:=by
    show max 0 (G3 0-D3 (-400))<=500∧500<=max 0 (D3 0-G3 (-400))
    have:=gb3 (-400)
    have:G3 0=500∧D3 0=500:=z3
    omega
  have ac9:(sdO F3 C3 G3 D3 0 (-200) 200).chL 900=0:=by
    show max 0 (G3 (-700)-D3 (-1100))=0
    have:=gb3 (-1100)
    omega
  have ch2:=ok3.ch (X:=200)
  have ch9:=ok3.ch (X:=900)
  rw[T3]at ch2 ch9
  refine sane15_ok (λW hW=>cAv (l:=[.int .i64 4]) (by have h:=t4.inside hW;rw[mL,mH]at h;exact h) tse) (λW hW=>cAv (l:=[QV 2 1,.int .i64 3]) (by have h:=t3.accepted (X:=200) (by unfold Pb;decide) hW;rw[qv_congr (c:=2) (d:=1) dc dc dc]at h;exact h) tse)
    (λW hW=>outside_sh (pl:=4) (n1:=-2) (d1:=1) (n2:=-2) (d2:=1) dc dc dc dc dc dc dc dc dc dc dc dc dc dc dc dc dc dc dc dc dc dc dc dc s2.2 s2.2 hW)
    (λW hW=>cAv (l:=[.int .i64 2,.int .i64 2]) (by have h:=t2.consumer (n:=2) (q:=300) dc dc dc dc hW;rw[hsd2,cl0,r2]at h;exact h) tse)
    (λW hW=>cAv (l:=[.int .i64 2,.int .i64 2]) (by have h:=t2.producer (n:=2) (q:=300) dc dc dc dc hW;rw[hsd2,pl0,r2]at h;exact h) tse)
    (λW hW=>consumerZ_ok (pl:=2) dc dc (λW hW=>cAv (l:=[]) (valid_c frs tsts hW) tse) hW) (λW hW=>insideZ_ok (pl:=2) dc dc (λW hW=>validZ15_ok hW) hW)
    (λW hW=>cAv (l:=[QV 9 1,.int .i64 3]) (by have h:=t3.accepted (X:=900) (by unfold Pb;decide) hW;rw[qv_congr (c:=9) (d:=1) dc dc dc]at h;exact h) tse)
    (λW hW=>cAv (l:=[]) (valid_c frs tsts hW) tse) (λW hW=>validZ15_ok hW)
    (con_c (pl:=4) dc dc dc dc dc dc dc) (con_c (pl:=4) dc dc dc dc dc dc dc) (con_c (pl:=3) dc ch2.1 om om dc dc ?_) (con_c (pl:=4) dc dc dc dc dc dc dc) (con_c (pl:=2) dc dc (by rw[flz];have:=clb _ (show 0<=sd.conH (En 0 (10*(10:Nat)) 300 2) (-200) 200 2 by omega);omega) (clu _ om) dc dc ?_) (con_c (pl:=2) dc dc (by rw[flz];have:=clb _ (show 0<=sd.proH (tenI 2) (En 0 (10*(10:Nat)) 300 2) (-200) 200 2 by omega);omega) (clu _ om) dc dc ?_) (con_c (pl:=3) dc ch9.1 om om dc dc ?_) hW
  · rw[T3,Bool.and_eq_true,decide_eq_true_eq,decide_eq_true_eq];omega
  · have:=clb _ (show 0<=sd.conH (En 0 (10*(10:Nat)) 300 2) (-200) 200 2 by omega)
    rw[flz,Bool.and_eq_true,decide_eq_true_eq,decide_eq_true_eq];rw[T2]at *;omega
  · have:=clb _ (show 0<=sd.proH (tenI 2) (En 0 (10*(10:Nat)) 300 2) (-200) 200 2 by omega)
    rw[flz,Bool.and_eq_true,decide_eq_true_eq,decide_eq_true_eq];rw[T2]at *;omega
  · rw[T3,ac9,Bool.and_eq_true,decide_eq_true_eq,decide_eq_true_eq];omega
structure TsP (m s e l h lo up:Int):Prop where
  m1:-20<=m
  m2:m<=20
  s1:1<=s
  s2:s<=20
  e1:1<=e
  e2:e<=20
  l1:-30<=l
  l2:l<=10
  h1:l<h
  h2:h<=l+40
  o1:-64<=lo
  o2:lo<up
  o3:up<=184
  o4:(lo+up)%2=0
theorem made_c {x0 x1 x2 x3 x4 x5 x6:Int}(hx0:In64 x0)(hx1:In64 x1)(hx2:In64 x2)(hx3:In64 x3)(hx4:In64 x4)(hx5:In64 x5)(hx6:In64 x6):
    ∃m s e l h lo up:Int,TsP m s e l h lo up∧∀w:World,CL 9 #[.agg #[.int .i64 x0,.int .i64 x1,.int .i64 x2,.int .i64 x3,.int .i64 x4,.int .i64 x5,.int .i64 x6]] w (Ret w λv _=>v=.agg (t7 m 10 s 10 e 20 l 10 h 10 lo 20 up 20)):=by
  have b0:=pick_bd x0 41 dc
  have b1:=pick_bd x1 20 dc
  have b2:=pick_bd x2 20 dc
  have b3:=pick_bd x3 41 dc
  have b4:=pick_bd x4 40 dc
  have b5:=pick_bd x5 9 dc
  have key:∀(bo:Bool) (ra sa za:Int),(bo=decide (2*(pickI x3 41-30)+(pickI x5 9-4)<2*(pickI x3 41-30+(1+pickI x4 40))-(pickI x5 9-4)))->(bo=true->ra=2*(pickI x3 41-30)+(pickI x5 9-4)∧sa=2*(pickI x3 41-30+(1+pickI x4 40))-(pickI x5 9-4))->(bo=false->ra=2*(pickI x3 41-30)∧sa=2*(pickI x3 41-30+(1+pickI x4 40)))->(pickI x6 4=0->za=sa+2*(1+pickI x4 40))->(¬pickI x6 4=0->za=sa)->-200<=sa->sa<=200->
      ∀w:World,CL 9 #[.agg #[.int .i64 x0,.int .i64 x1,.int .i64 x2,.int .i64 x3,.int .i64 x4,.int .i64 x5,.int .i64 x6]] w (Ret w λv _=>v=.agg (t7 (pickI x0 41-20) 10 (1+pickI x1 20) 10 (1+pickI x2 20) 20 (pickI x3 41-30) 10 (pickI x3 41-30+(1+pickI x4 40)) 10 ra 20 za 20)):=by
    intro bo ra sa za hbo hT hF hZ hN _ _ w
    refine made15_ok (w:=w) (bo:=bo) (ha:=pickI x3 41-30+(1+pickI x4 40)) (hb:=10) (la:=2*(pickI x3 41-30)+(pickI x5 9-4)) (lb:=20) (ua:=2*(pickI x3 41-30+(1+pickI x4 40))-(pickI x5 9-4)) (ub:=20) (ra:=ra) (rb:=20) (sa:=sa) (sb:=20) (za:=za) (zb:=20) hx0 hx1 hx2 hx3 hx4 hx5 hx6 rfl rfl rfl rfl rfl rfl rfl b0 b1 b2 b3 b4 b5
      (q9_12 om dc dc) (q9_12 om dc dc) (q9_12 om dc dc) (q9_12 om dc dc) (q9_12 om dc dc) (q9_12 om dc dc) (q9_12 om dc dc)
      (qR_congr dc dc om) (qR_congr dc dc om) (qR_congr dc dc om) ?_ ?_ ?_ ?_ ?_
    · rw[hbo];exact decide_eq_decide.2 ⟨λh=>by have:=cmpI_neg.1 h;omega,λh=>cmpI_neg.2 om⟩
    · intro h;obtain⟨h1,h2⟩:=hT h;subst h1;subst h2;exact⟨rfl,rfl⟩
    · intro h;obtain⟨h1,h2⟩:=hF h;subst h1;subst h2;exact⟨qR_congr dc dc om,qR_congr dc dc om⟩
    · intro h;rw[hZ h];exact qR_congr dc dc om
    · intro h;rw[hN h]
  obtain⟨sp,hsp,_,_,_⟩:∃sp:Int,(if pickI x6 4=0 then 2*(1+pickI x4 40)else 0)=sp∧0<=sp∧sp<=80∧sp%2=0:=by
    refine⟨_,rfl,?_,?_,?_⟩ <;>split <;>omega
  have z1:∀sa:Int,pickI x6 4=0->sa+sp=sa+2*(1+pickI x4 40):=λsa h=>by rw[if_pos h]at hsp;omega
  have z2:∀sa:Int,¬pickI x6 4=0->sa+sp=sa:=λsa h=>by rw[if_neg h]at hsp;omega
  by_cases h:2*(pickI x3 41-30)+(pickI x5 9-4)<2*(pickI x3 41-30+(1+pickI x4 40))-(pickI x5 9-4)
  · exact⟨_,_,_,_,_,_,_,⟨by omega,by omega,by omega,by omega,by omega,by omega,by omega,by omega,by omega,by omega,by omega,by omega,by omega,by omega⟩,
      key true _ _ _ (decide_eq_true h).symm (λ_=>⟨rfl,rfl⟩) (λh=>by cases h) (z1 _) (z2 _) om om⟩
  · exact⟨_,_,_,_,_,_,_,⟨by omega,by omega,by omega,by omega,by omega,by omega,by omega,by omega,by omega,by omega,by omega,by omega,by omega,by omega⟩,
      key false _ _ _ (decide_eq_false h).symm (λh=>by cases h) (λ_=>⟨rfl,rfl⟩) (z1 _) (z2 _) om om⟩
theorem frm:Fr 1 0 100:=frs
theorem TsP.tst {m s e l h lo up:Int}(p:TsP m s e l h lo up):Tst (10*m) (10*s) (5*e) (10*l) (10*h) (5*lo) (5*up):=by
  obtain⟨_,_,_,_,_,_,_,_,_,_,_,_,_,_⟩:=p
  exact⟨by omega,by omega,by omega,by omega,by omega,by omega,by omega,by omega⟩
theorem tsm_eq {m s e l h lo up:Int}:TSv 1 0 100 (10*m) (10*s) (5*e) (10*l) (10*h) (5*lo) (5*up)=.agg (t7 m 10 s 10 e 20 l 10 h 10 lo 20 up 20):=
  tsv_eq dc dc om om om om om om om
theorem nat_of {s:Int}(h:1<=s∧s<=20):∃n:Nat,s=n∧1<=n∧n<=20:=⟨s.toNat,by omega,by omega,by omega⟩
end Go.Proofs.YtmehbpjpbbhohaaGreatDoor
