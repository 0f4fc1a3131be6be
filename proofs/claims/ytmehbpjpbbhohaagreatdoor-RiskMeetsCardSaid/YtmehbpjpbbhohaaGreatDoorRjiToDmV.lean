/- Part of the proof of a statement about risks. -/
import Derived.Test.YtmehbpjpbbhohaaGreatDoorRjeToRjg
import Derived.Test.YtmehbpjpbbhohaaGreatDoorEngPToEngH
import Derived.Test.YtmehbpjpbbhohaaGreatDoorRef4ToRjd
import Derived.Test.YtmehbpjpbbhohaaGreatDoorRjk
import Derived.Test.YtmehbpjpbbhohaaGreatDoorRjaToRef1
import Derived.Test.YtmehbpjpbbhohaaGreatDoorCardBToRj4
set_option linter.all false
namespace Go.Proofs.YtmehbpjpbbhohaaGreatDoor
set_option maxRecDepth 100000
open Go Go.Eng Go.RowKit
attribute [local irreducible] wpListIn Code.wpIn Oper.wpIn Exit.then Exit.inBlock Exit.noGoto
set_option maxHeartbeats 40000000
theorem insideZ_ok {pl:Nat}{w:World}(h1:1<=pl)(h12:pl<=12)(hVa:∀W,Tb W->CL 16 #[.agg #[S ([]),S ([]),S ([]),S ([]),S ([]),S ([]),S ([]),S ([]),S ([]),S ([]),S ([]),S ([]),S ([]),S ([])]] W (Ret W λv _=>v=.bool false))(ht:Tb w):
    CL 13 #[.agg #[S ([]),S ([]),S ([]),S ([]),S ([]),S ([]),S ([]),S ([]),S ([]),S ([]),S ([]),S ([]),S ([]),S ([])],.int .i64 pl] w (Ret w λv w'=>v=.tuple #[.agg #[S ([]),S ([]),S ([]),S ([])],.int .i64 150]):=by
 refine f_in Tryz.func13 rfl ?_;refine go ?_;refine bx (λaot aow sc=>?_);have r8:=aow.2;refine al inf1032 (λaou aov aol=>?_);have⟨sc,r8⟩:=be1 aov.2 sc r8;refine al inf32 (λ_ aor aom=>?_);have⟨sc,aol,r8⟩:=be2 aor.2 sc aol r8;refine go ?_;refine cl en2099 (riskRight_ok h1 h12) ?_;rintro _ _ aon rfl;have⟨sc,aol,aom,r8⟩:=be3 aon.2 sc aol aom r8;refine go ?_;refine l_op (k_loadA (cs:=[S ([]),S ([]),S ([]),S ([]),S ([]),S ([]),S ([]),S ([]),S ([]),S ([]),S ([]),S ([]),S ([]),S ([])]) (b:=w.heap.size) (o:=0) U2296 rfl sz2296 rfl (Blk.cells sc (i:=0) (by kernel_rfl)) ?_);refine go ?_;refine cl en3016 ((hVa _ (ht.ext r8))) ?_;rintro _ _ aoo rfl;have⟨sc,aol,aom,r8⟩:=be3 aoo.2 sc aol aom r8;refine go ?_;refine SA aol (λ_ aop aos=>?_);have⟨sc,aom,r8,_⟩:=pl2 aop sc aom r8;refine SO aom (λ_ aoq aox=>?_);have⟨sc,aos,r8,_⟩:=pl2 aoq sc aos r8;refine go ?_;refine f_out (v:=.tuple #[.agg #[S ([]),S ([]),S ([]),S ([])],.int .i64 150]) (res2 (r1:=.cell 4 33) (r2:=.cell 5 34) rfl ?_ ?_) r8 rfl;refine res_cellA (t:=4) (cs:=[S ([]),S ([]),S ([]),S ([])]) (b:=aot.heap.size) (o:=0) U1032 rfl sz1032 ?_ ?_;exact rfl;exact Blk.cells aos (i:=0) rfl;refine res_cell (t:=5) (b:=aou.heap.size) (o:=0) U32 rfl ?_ ?_;exact rfl;exact Blk.cell aox rfl
theorem totalZ_ok {ma mb sa sb ea eb la lb ha hb oa ob ga gb:Int}{pl gp gc:Nat}{w:World}(h1:1<=pl)(h12:pl<=12)(hVa:∀W,Tb W->CL 16 #[.agg (t7 ma mb sa sb ea eb la lb ha hb oa ob ga gb)] W (Ret W λv _=>v=.bool true))(ht:Tb w):
    CL 39 #[.agg (t7 ma mb sa sb ea eb la lb ha hb oa ob ga gb),.int .i64 0,.int .i64 pl,.func (.func gp) #[] #[],.func (.func gc) #[] #[]] w (Ret w λv w'=>v=.tuple #[.agg #[S ([]),S ([]),S ([]),S ([])],.int .i64 150]):=by
 refine f_in Tryz.func39 rfl ?_;refine go ?_;refine bx (λ_ aoz sc=>?_);have r8:=aoz.2;refine bx (v:=.func (.func gp) #[] #[]) (hx:=rfl) (λ_ aow aol=>?_);have⟨sc,r8⟩:=be1 aow.2 sc r8;refine bx (v:=.func (.func gc) #[] #[]) (hx:=rfl) (λaox aou aom=>?_);have⟨sc,aol,r8⟩:=be2 aou.2 sc aol r8;refine al inf1032 (λaoy aot aoq=>?_);have⟨sc,aol,aom,r8⟩:=be3 aot.2 sc aol aom r8;refine al inf32 (λ_ aor aos=>?_);have⟨sc,aol,aom,aoq,r8⟩:=be4 aor.2 sc aol aom aoq r8;refine go ?_;refine cl en2099 (riskRight_ok h1 h12) ?_;rintro _ _ aon rfl;have⟨sc,aol,aom,aoq,aos,r8⟩:=be5 aon.2 sc aol aom aoq aos r8;refine go ?_;refine SA aoq (λ_ aoo aov=>?_);have⟨sc,aol,aom,aos,r8,_⟩:=pl4 aoo sc aol aom aos r8;refine SO aos (λ_ aop ao0=>?_);have⟨sc,aol,aom,aov,r8,_⟩:=pl4 aop sc aol aom aov r8;refine go ?_;refine f_out (v:=.tuple #[.agg #[S ([]),S ([]),S ([]),S ([])],.int .i64 150]) (res2 (r1:=.cell 10 33) (r2:=.cell 11 34) rfl ?_ ?_) r8 rfl;refine res_cellA (t:=10) (cs:=[S ([]),S ([]),S ([]),S ([])]) (b:=aox.heap.size) (o:=0) U1032 rfl sz1032 ?_ ?_;exact rfl;exact Blk.cells aov (i:=0) rfl;refine res_cell (t:=11) (b:=aoy.heap.size) (o:=0) U32 rfl ?_ ?_;exact rfl;exact Blk.cell ao0 rfl
set_option maxRecDepth 100000 in
theorem consumerZ_ok {ma mb sa sb ea eb la lb ha hb oa ob ga gb:Int}{pl:Nat}{w:World}(h1:1<=pl)(h12:pl<=12)(hVa:∀W,Tb W->CL 16 #[.agg (t7 ma mb sa sb ea eb la lb ha hb oa ob ga gb)] W (Ret W λv _=>v=.bool true))(ht:Tb w):
    CL 14 #[.agg (t7 ma mb sa sb ea eb la lb ha hb oa ob ga gb),.int .i64 0,.int .i64 pl] w (Ret w λv w'=>v=.tuple #[.agg #[S ([]),S ([]),S ([]),S ([])],.int .i64 150]):=by
 refine f_in Tryz.func14 rfl ?_;refine go ?_;refine bx (λaoo aoq sc=>?_);have r8:=aoq.2;refine al inf1032 (λ_ aop aol=>?_);have⟨sc,r8⟩:=be1 aop.2 sc r8;refine go ?_;refine l_op (k_loadA (cs:=[S (qR ma mb).1,S (qR ma mb).2,S (qR sa sb).1,S (qR sa sb).2,S (qR ea eb).1,S (qR ea eb).2,S (qR la lb).1,S (qR la lb).2,S (qR ha hb).1,S (qR ha hb).2,S (qR oa ob).1,S (qR oa ob).2,S (qR ga gb).1,S (qR ga gb).2]) (b:=w.heap.size) (o:=0) U2296 rfl sz2296 rfl (Blk.cells sc (i:=0) (by kernel_rfl)) ?_);refine go ?_;refine cl en3039 (totalZ_ok h1 h12 hVa (ht.ext r8)) ?_;rintro _ _ aom rfl;have⟨sc,aol,r8⟩:=be2 aom.2 sc aol r8;refine go ?_;refine SA aol (λ_ aon aor=>?_);have⟨sc,r8,_⟩:=pl1 aon sc r8;refine go ?_;refine f_out (v:=.tuple #[.agg #[S ([]),S ([]),S ([]),S ([])],.int .i64 150]) (res2 (r1:=.cell 6 33) (r2:=.tmp 7) rfl ?_ ?_) r8 rfl;refine res_cellA (t:=6) (cs:=[S ([]),S ([]),S ([]),S ([])]) (b:=aoo.heap.size) (o:=0) U1032 rfl sz1032 ?_ ?_;exact rfl;exact Blk.cells aor (i:=0) rfl;exact res_tmp (t:=7) (by exact rfl) _
end Go.Proofs.YtmehbpjpbbhohaaGreatDoor
namespace Go.Proofs.YtmehbpjpbbhohaaGreatDoor
open Go Go.Eng Go.RowKit
theorem tsv_eq {ma mb sa sb ea eb la lb ha hb oa ob ga gb A B G M s e L H O U:Int}(hg:0<G)(hp:0<mb∧0<sb∧0<eb∧0<lb∧0<hb∧0<ob∧0<gb)(h1:ma*G=(A*M+B)*mb)(h2:sa*G=A*s*sb)(h3:ea*G=A*e*eb)(h4:la*G=(A*L+B)*lb)(h5:ha*G=(A*H+B)*hb)(h6:oa*G=(A*O+B)*ob)(h7:ga*G=(A*U+B)*gb):
    TSv A B G M s e L H O U=.agg #[S (qR ma mb).1,S (qR ma mb).2,S (qR sa sb).1,S (qR sa sb).2,S (qR ea eb).1,S (qR ea eb).2,S (qR la lb).1,S (qR la lb).2,S (qR ha hb).1,S (qR ha hb).2,S (qR oa ob).1,S (qR oa ob).2,S (qR ga gb).1,S (qR ga gb).2]:=by
  rw[qR_congr hp.1 hg h1,qR_congr hp.2.1 hg h2,qR_congr hp.2.2.1 hg h3,qR_congr hp.2.2.2.1 hg h4,qR_congr hp.2.2.2.2.1 hg h5,qR_congr hp.2.2.2.2.2.1 hg h6,qR_congr hp.2.2.2.2.2.2 hg h7]
theorem cAv {f:FuncId}{v u:Value}{l:List Value}{w:World}{R:Ending->World->Prop}(h:CL f (v::l).toArray w R)(e:v=u):CL f (u::l).toArray w R:=e▸h
theorem fl_cl {b t:Int}{x y:Int}(hb:0<b)(ht:0<=t)(h:x<=y):flI x b t<=clI y b t:=by
  have h1:flI x b t<=flI y b t:=Int.ediv_le_ediv hb (Int.mul_le_mul_of_nonneg_right h ht)
  have h2:flI y b t<=clI y b t:=by unfold flI clI;split <;>omega
  omega
section
variable {s:Sd}{T X Y:Int}{E:Nat->Int}{L H:Int}{n pl:Nat}
theorem Sd.Ok.hb (h:s.Ok T):(0<=s.tcH X Y∧s.tcH X Y<=T*T)∧0<=s.tpH T X Y∧s.tpH T X Y<=T*T:=by
  have a:=h.mm (X:=X) (Y:=Y)
  have b:=h.b (X:=X) (Y:=Y)
  have t0:0<=T:=by omega
  have tt:=Int.mul_nonneg t0 t0
  unfold Sd.tcH Sd.tpH
  constructor
  · split
    · exact⟨Int.mul_nonneg om om,Int.mul_le_mul a.2.2 b.2.2 om t0⟩
    · exact⟨Int.le_refl _,tt⟩
  · split
    · exact⟨Int.mul_nonneg om om,Int.mul_le_mul a.2.2 om om t0⟩
    · exact⟨Int.le_refl _,tt⟩
theorem Sd.Ok.conB (h:s.Ok T):s.conH E L H n<=n*(2*(T*T))∧s.proH T E L H n<=n*(2*(T*T)):=by
  refine⟨(sumI_bd λi _=>?_).2,(sumI_bd λi _=>?_).2⟩
  · have:=(h.hb (X:=E i) (Y:=min (E (i+1)) L)).1
    have:=(h.hb (X:=max (E i) H) (Y:=E (i+1))).1
    omega
  · have:=(h.hb (X:=max (E i) L) (Y:=min (E (i+1)) H)).2
    omega
theorem fc_q9 {x:Int}(p5:pl<=5)(h:0<=x∧x<=10^13):Q9 (flI x (tenI pl*tenI pl) (tenI pl)) (tenI pl)∧Q9 (clI x (tenI pl*tenI pl) (tenI pl)) (tenI pl):=by
  have T:=t12 p5
  have TT:=Int.mul_pos T.2 T.2
  have h1:=mul_bd (a:=x) (b:=tenI pl) (p:=10^13) (q:=10^5) om om
  have h0:=Int.mul_nonneg h.1 (Int.le_of_lt T.2)
  have h2:0<=flI x (tenI pl*tenI pl) (tenI pl):=Int.ediv_nonneg h0 (Int.le_of_lt TT)
  have h3:flI x (tenI pl*tenI pl) (tenI pl)<=10^13*10^5:=Int.le_trans (Int.ediv_le_self _ h0) h1.2
  have h4:clI x (tenI pl*tenI pl) (tenI pl)=flI x (tenI pl*tenI pl) (tenI pl)∨clI x (tenI pl*tenI pl) (tenI pl)=flI x (tenI pl*tenI pl) (tenI pl)+1:=by
    unfold clI flI;split <;>simp
  have q:∀z:Int,0<=z->z<=10^19->Q9 z (tenI pl):=λz a b=>q9_cell (Nat.lt_of_le_of_lt (show z.natAbs<=10^19 by omega) dc) om
  exact⟨q _ h2 om,q _ om om⟩
end
theorem cmp_T1 {a b T:Int}(hT:0<T)(h:a<=b):cmpI (a*T) (b*T)<=0:=cmpI_nonpos.2 (Int.mul_le_mul_of_nonneg_right h (Int.le_of_lt hT))
theorem sh_ex {pl u f c:Nat}{n d:Int}(hd:0<d)(e:n*1000000=u*d)(h0:0<u)(h8:u<8000000)(h:Cel pl u f c):Sh pl n d f c∧Sh pl (-n) d (tenI pl-c) (tenI pl-f):=by
  have hT:((10^pl:Nat):Int)=tenI pl:=rfl
  have hn0:0<n:=by
    rcases Int.lt_or_le 0 n with x|x
    · exact x
    · have:=Int.mul_pos (show(0:Int)<u by omega) hd;omega
  have hn8:n<8*d:=by
    have:(u:Int)*d<8000000*d:=Int.mul_lt_mul_of_pos_right om hd
    omega
  have c1:clp n d=(n,d):=by unfold clp;rw[if_pos om,if_pos om]
  have c2:clp (-n) d=(-n,d):=by unfold clp;rw[if_pos om,if_pos om]
  have e1:flI n d (tenI 6)=u∧clI n d (tenI 6)=u:=by
    unfold flI clI
    rw[ten6,e,Int.mul_ediv_cancel _ om,Int.mul_emod_left,if_pos rfl];exact⟨rfl,rfl⟩
  have hle:=h.le
  have h3:=h.2.2.1
  have h4:=h.2.2.2
  constructor
  · refine⟨f,c,?_,?_,by omega,by omega,by omega⟩
    · rw[c1];simp only;rw[e1.1];exact h.nmc h0 h8
    · rw[c1];simp only;rw[e1.2];exact h.nmc h0 h8
  · refine⟨tenI pl-c,tenI pl-f,?_,?_,by omega,by omega,by omega⟩
    · rw[c2];simp only;rw[flI_neg hd,e1.2];exact h.nmn h0 h8
    · rw[c2];simp only;rw[clI_neg hd,e1.1];exact h.nmn h0 h8
def oneK (ck:Nat->Nat->(Nat->Nat->Bool)->Bool)(T n d F C:Nat):Bool:=ck n d λf c=>and (and (Nat.beq f F) (Nat.beq c C)) (and (Nat.ble T (Nat.mul 2 F)) (Nat.ble C T))
theorem oneK_ok {pl u n d T F C:Nat}{ck:Nat->Nat->(Nat->Nat->Bool)->Bool}(hc:CkR pl ck)(hT:T=10^pl)(en:u/Nat.gcd u 1000000=n)(ed:1000000/Nat.gcd u 1000000=d)(hn:0<n)(hd:0<d)(h:oneK ck T n d F C=true):Cel pl u F C:=by
  obtain⟨f,c,hP,hk⟩:=hc n d _ hn hd h
  simp only[Bool.and_eq_true,Nat.ble_eq]at hk
  obtain⟨⟨h1,h2⟩,h3,h4⟩:=hk
  have h1:=Nat.eq_of_beq_eq_true h1
  have h2:=Nat.eq_of_beq_eq_true h2
  subst h1 h2 en ed hT
  obtain⟨r1,r2⟩:=posR_cel dc hP
  exact⟨r1,r2,h3,h4⟩
theorem ce1:Cel 4 2000000 9772 9773:=oneK_ok (T:=10000) (n:=2) (d:=1) nmo4 dc (by decide +kernel) (by decide +kernel) dc dc (by decide +kernel)
theorem ce2:Cel 2 2000000 97 98:=oneK_ok (T:=100) (n:=2) (d:=1) nmo2 dc (by decide +kernel) (by decide +kernel) dc dc (by decide +kernel)
theorem ce6:Cel 2 6000000 99 100:=oneK_ok (T:=100) (n:=6) (d:=1) nmo2 dc (by decide +kernel) (by decide +kernel) dc dc (by decide +kernel)
noncomputable def shF (pl:Nat) (n d:Int):Int×Int:=open Classical in if h:∃y:Int×Int,Sh pl n d y.1 y.2 then Classical.choose h else(0,tenI pl)
theorem shF_eq {pl:Nat}{n d f c:Int}(h:Sh pl n d f c):shF pl n d=(f,c):=by
  have hx:∃y:Int×Int,Sh pl n d y.1 y.2:=⟨(f,c),h⟩
  have h1:=Classical.choose_spec hx
  unfold shF
  rw[dif_pos hx]
  obtain⟨a,b⟩:=h1.uniq h
  exact Prod.ext a b
theorem shF_bd {pl:Nat}{n d:Int}:0<=(shF pl n d).1∧(shF pl n d).1<=(shF pl n d).2∧(shF pl n d).2<=tenI pl:=by
  unfold shF
  split
  · rename_i h
    exact(Classical.choose_spec h).bd
  · have:=ten_pos pl
    exact⟨Int.le_refl _,by omega,Int.le_refl _⟩
noncomputable def sdT (pl:Nat) (M s e O U ct:Int):Sd:=⟨λX=>(shF pl (X-M) s).1,λX=>(shF pl (X-M) s).2,λX=>(shF pl (U-X) e).1,λX=>(shF pl (U-X) e).2,λX=>(shF pl (O-X) e).1,λX=>(shF pl (O-X) e).2,ct⟩
theorem sdT_ok {pl:Nat}{M s e O U ct:Int}:(sdT pl M s e O U ct).Ok (tenI pl):=⟨λ_=>shF_bd,λ_=>shF_bd,λ_=>shF_bd⟩
theorem shF_sh {pl:Nat}{n d:Int}(h:∃f c,Sh pl n d f c):Sh pl n d (shF pl n d).1 (shF pl n d).2:=by
  obtain⟨f,c,h⟩:=h
  rw[shF_eq h];exact h
theorem tpo_of {pl:Nat}{P:Int->Prop}{A B G M s e L H O U ct:Int}(f:Fr A B G)(t:Tst M s e L H O U)(pb:∀X,P X->Pb X)(hs:∀X,P X->∃f c,Sh pl (X-M) s f c)(hu:∀X,P X∨X=ct->∃f c,Sh pl (U-X) e f c)(hl:∀X,P X∨X=ct->∃f c,Sh pl (O-X) e f c)(hc:2*ct=O+U)(p1:1<=pl)(p5:pl<=5):Tpo pl (sdT pl M s e O U ct) P A B G M s e L H O U:=
  ⟨f,t,pb,λX h=>shF_sh (hs X h),λX h=>shF_sh (hu X h),λX h=>shF_sh (hl X h),hc,sdT_ok,p1,p5⟩
theorem frs:Fr 1 0 100:=⟨by decide,by decide,by decide,by decide,by decide,by decide⟩
theorem tsts:Tst 0 100 10 (-200) 200 (-200) 200:=⟨by decide,by decide,by decide,by decide,by decide⟩
theorem tse:TSv 1 0 100 0 100 10 (-200) 200 (-200) 200=.agg #[S (qR 0 1).1,S (qR 0 1).2,S (qR 1 1).1,S (qR 1 1).2,S (qR 1 10).1,S (qR 1 10).2,S (qR (-2) 1).1,S (qR (-2) 1).2,S (qR 2 1).1,S (qR 2 1).2,S (qR (-2) 1).1,S (qR (-2) 1).2,S (qR 2 1).1,S (qR 2 1).2]:=
  tsv_eq dc dc dc dc dc dc dc dc dc
theorem qv_congr {a b c d:Int}(hb:0<b)(hd:0<d)(h:a*d=c*b):QV a b=QV c d:=by unfold QV;rw[qR_congr hb hd h]
theorem con_c {a c:Int}{pl:Nat}{n m:Int}{b:Bool}(p5:pl<=5)(ha:0<=a)(hac:a<=c)(hcT:c<=10^12)(hn:0<=n∧n<=100000)(hm:0<m∧m<=100000)(hb:(decide (a*m<=n*tenI pl)&&decide (n*tenI pl<=c*m))=b):
    ∀W,Tb W->CL 24 #[IV a (tenI pl) c (tenI pl),.int .i64 n,.int .i64 m] W (Ret W λv _=>v=.bool b):=by
  intro W hW
  have T:=t12 p5
  refine lfcontains_ok (by unfold In64;omega) (by unfold In64;omega) om (λW hW=>?_) hW
  have q:∀z:Int,0<=z->z<=10^12->Q9 z (tenI pl):=λz _ _=>q9_cell (Nat.lt_of_le_of_lt (show z.natAbs<=10^12 by omega) dc) om
  have h:=encContainsG_ok (q a ha om) (q c om hcT) (q9_12 (a:=n) (b:=m) om hm.1 om) (cmp_T1 T.2 hac) hW
  simp only[cmpI_nonpos]at h
  rwa [hb]at h
theorem sh_far {pl:Nat}{n:Int}(p1:1<=pl)(h:80<=n∨n=0∨n<=-80):∃f c,Sh pl n 10 f c:=by
  rcases h with h|rfl|h
  · exact⟨_,_,sh_hi dc om⟩
  · exact⟨_,_,(sh2_zero dc p1).1⟩
  · exact⟨_,_,sh_lo dc om⟩
theorem sane_c (W:World)(hW:Tb W):CL 8 #[] W (Ret W λv _=>v=.bool true):=by
  have T4:tenI 4=10000:=by decide
  have T3:tenI 3=1000:=by decide
  have T2:tenI 2=100:=by decide
  have s2:=sh_ex (n:=2) (d:=1) dc dc dc dc ce1
  have e1:Sh 4 (200-0) 100 9772 9773:=s2.1.congr dc dc dc
  have e2:Sh 4 (-200-0) 100 (tenI 4-9773) (tenI 4-9772):=s2.2.congr dc dc dc
  have r2:=sh_ex (n:=2) (d:=1) dc dc dc dc ce2
  have s6:=sh_ex (n:=6) (d:=1) dc dc dc dc ce6
  have z3:=(sh2_zero (pl:=3) (d:=10) dc dc).1
  have lo3:∀n:Int,n<=-80->Sh 3 n 10 0 1:=λn h=>sh_lo dc om
  have hI:∀W,Tb W->_:=λW hW=>inside15_ok (pl:=4) dc dc (λW hW=>valid_c frs tsts hW) (λW n0 b bm bp bn bf hW hn=>mass_c (X:=-200) (Y:=200) (M:=0) (D:=100) frs (by unfold Pb;decide) (by unfold Pb;decide) (by unfold Pb;decide) dc dc e1 e2 hW hn) hW
  have hA:∀X:Int,Pb X->∀f1 c1 f2 c2,Sh 3 (200-X) 10 f1 c1->Sh 3 (-200-X) 10 f2 c2->∀W,Tb W->CL 20 #[TSv 1 0 100 0 100 10 (-200) 200 (-200) 200,QV (1*X+0) 100,.int .i64 3] W (Ret W λv _=>v=.tuple #[IV (max 0 (f1-c2)) (tenI 3) (max 0 (c1-f2)) (tenI 3),.int .i64 0]):=λX hX f1 c1 f2 c2 h1 h2 W hW=>
    accepted15_ok (pl:=3) dc dc (λW hW=>riskShort_ok rfl (frs.szX hX).q9 (frs.szX hX).1 (frs.szX hX).2.2 hW) (λW hW=>valid_c frs tsts hW) (λW n0 b bm bp bn bf hW hn=>chance_ok (λW hW hn=>mass_c (X:=-200) (Y:=200) (M:=X) (D:=10) frs (by unfold Pb;decide) (by unfold Pb;decide) hX dc dc h1 h2 hW hn) hW hn) hW
  obtain⟨P,hP⟩:∃P:Int->Prop,P=λX=>X=-600∨X=0∨X=600∨X=-200∨X=200:=⟨_,rfl⟩
  have q:∀X,X=-600∨X=0∨X=600∨X=-200∨X=200->P X:=λX h=>by rw[hP];exact h
  have q':∀X,P X->X=-600∨X=0∨X=600∨X=-200∨X=200:=λX h=>by rw[hP]at h;exact h
  have t2:Tpo 2 (sdT 2 0 100 10 (-200) 200 0) P 1 0 100 0 100 10 (-200) 200 (-200) 200:=tpo_of frs tsts (λX h=>by have:=q' X h;unfold Pb;omega) (λX h=>by
      rcases q' X h with rfl|rfl|rfl|rfl|rfl
      · exact⟨_,_,s6.2.congr dc dc dc⟩
      · exact⟨_,_,(sh2_zero dc dc).1⟩
      · exact⟨_,_,s6.1.congr dc dc dc⟩
      · exact⟨_,_,r2.2.congr dc dc dc⟩
      · exact⟨_,_,r2.1.congr dc dc dc⟩)
    (λX h=>sh_far dc (by
      rcases h with h|h
      · have:=q' X h;omega
      · omega)) (λX h=>sh_far dc (by
      rcases h with h|h
      · have:=q' X h;omega
      · omega)) dc dc dc
  obtain⟨E,hE⟩:∃E:Nat->Int,E=λk=>if k=0 then -600 else if k=1 then 0 else 600:=⟨_,rfl⟩
  have E0:E 0=-600∧E 1=0∧E 2=600:=by rw[hE];exact⟨rfl,rfl,rfl⟩
  have EP:∀k,P (E k):=λk=>by
    have Ek:E k=-600∨E k=0∨E k=600:=by
      rw[hE]
      rcases(by omega:k=0∨k=1∨2<=k)with rfl|rfl|h
      · exact .inl rfl
      · exact .inr (.inl rfl)
      · exact .inr (.inr ((if_neg om).trans (if_neg om)))
    refine q _ ?_
    omega
  have EE:∀k,k<=2->E k*((2:Nat):Int)=0*((2:Nat):Int)+100*(12*(k:Int)-6*((2:Nat):Int)):=λk _=>by
    rcases(by omega:k=0∨k=1∨k=2)with rfl|rfl|rfl
    · rw[E0.1];decide
    · rw[E0.2.1];decide
    · rw[E0.2.2];decide
  have x1:Sh 2 (-6) 1 (tenI 2-100) (tenI 2-99):=s6.2
  have x2:Sh 2 6 1 99 100:=s6.1
  have hC:∀W,Tb W->_:=λW hW=>t2.consumer (n:=2) dc dc x1 x2 EE EP (q _ dc) (q _ dc) hW
  have hQ:∀W,Tb W->_:=λW hW=>t2.producer (n:=2) dc dc x1 x2 EE EP (q _ dc) (q _ dc) hW
  have ok2:=t2.ok
  have con2:=ok2.con (E:=E) (L:=-200) (H:=200) (n:=2)
  have pro2:=ok2.pro (E:=E) (L:=-200) (H:=200) (n:=2)
  have cB:=ok2.conB (E:=E) (L:=-200) (H:=200) (n:=2)
  rw[show tenI 2*tenI 2=10000 by decide]at cB
  have fu:∀X,(sdT 2 0 100 10 (-200) 200 0).fu X=(shF 2 (200-X) 10).1∧(sdT 2 0 100 10 (-200) 200 0).cu X=(shF 2 (200-X) 10).2∧(sdT 2 0 100 10 (-200) 200 0).fl X=(shF 2 (-200-X) 10).1∧(sdT 2 0 100 10 (-200) 200 0).cl X=(shF 2 (-200-X) 10).2:=λX=>⟨rfl,rfl,rfl,rfl⟩
  have hi2:∀n:Int,80<=n->shF 2 n 10=(tenI 2-1,tenI 2):=λn h=>shF_eq (sh_hi dc om)
  have lo2:∀n:Int,n<=-80->shF 2 n 10=(0,1):=λn h=>shF_eq (sh_lo dc om)
  have ct0:(sdT 2 0 100 10 (-200) 200 0).ct=0:=rfl
  generalize sdT 2 0 100 10 (-200) 200 0=sd at *
  have cl0:sd.conL E (-200) 200 2=0:=by
    show 0+(sd.tcL (E 0) (min (E 1) (-200))+sd.tcL (max (E 0) 200) (E 1))+(sd.tcL (E 1) (min (E 2) (-200))+sd.tcL (max (E 1) 200) (E 2))=0
    rw[E0.1,E0.2.1,E0.2.2]
    have b1:sd.bL (-600) (-200)=0:=by
      have h1:sd.chL (-600)=0:=by
        unfold Sd.chL
        rw[(fu (-600)).1,(fu (-600)).2.2.2,hi2 _ dc,hi2 _ dc];decide
      have:=(ok2.ch (X:=-200)).1
      unfold Sd.bL;omega
    have b2:sd.bL 200 600=0:=by
      have h1:sd.chL 600=0:=by
        unfold Sd.chL
        rw[(fu 600).1,(fu 600).2.2.2,lo2 _ dc,lo2 _ dc];decide
      have:=(ok2.ch (X:=200)).1
      unfold Sd.bL;omega
    have a1:sd.tcL (-600) (min 0 (-200))=0:=by
      show(if(-600:Int)< -200 then mLo sd.f sd.c (-600) (-200)*sd.bL (-600) (-200)else 0)=0
      rw[b1];simp
    have a2:sd.tcL (max 0 200) 600=0:=by
      show(if(200:Int)<600 then mLo sd.f sd.c 200 600*sd.bL 200 600 else 0)=0
      rw[b2];simp
    have a3:sd.tcL (max (-600) 200) 0=0:=if_neg dc
    have a4:sd.tcL 0 (min 600 (-200))=0:=if_neg dc
    omega
  have pl0:sd.proL (tenI 2) E (-200) 200 2=0:=by
    show 0+sd.tpL (tenI 2) (max (E 0) (-200)) (min (E 1) 200)+sd.tpL (tenI 2) (max (E 1) (-200)) (min (E 2) 200)=0
    rw[E0.1,E0.2.1,E0.2.2]
    have h1:sd.chH 0=100:=by
      unfold Sd.chH
      rw[(fu 0).2.1,(fu 0).2.2.1,hi2 _ dc,lo2 _ dc];decide
    have key:∀X Y:Int,X<=0->0<=Y->sd.tpL (tenI 2) X Y=0:=by
      intro X Y hX hY
      have h2:=(ok2.b (X:=X) (Y:=Y)).2.2
      have h3:100<=sd.bH X Y:=by
        unfold Sd.bH
        rw[if_pos om,ct0,h1];omega
      unfold Sd.tpL
      rw[show max 0 (tenI 2-sd.bH X Y)=0 by omega]
      simp
    rw[key _ _ dc dc,key _ _ dc dc]
    rfl
  have flz:flI 0 (tenI 2*tenI 2) (tenI 2)=0:=by decide
  have rs:(tenI 2-99+tenI 2-99)*tenI 2=200:=by decide
  rw[cl0,rs]at hC
  rw[pl0,rs]at hQ
  have clb:∀z:Int,0<=z->2<=clI (200+z) (tenI 2*tenI 2) (tenI 2):=λz hz=>by
    rw[T2];unfold clI;split <;>omega
  have clu:∀z:Int,z<=10^12->clI (200+z) (tenI 2*tenI 2) (tenI 2)<=10^12:=λz hz=>by
    rw[T2];unfold clI;split <;>omega
  have c1:=clb _ (show 0<=sd.conH E (-200) 200 2 by omega)
  have c2:=clb _ (show 0<=sd.proH (tenI 2) E (-200) 200 2 by omega)
  refine sane15_ok (λW hW=>cAv (l:=[.int .i64 4]) (hI W hW) tse) (λW hW=>cAv (l:=[QV 2 1,.int .i64 3]) (by have h:=hA 200 (by unfold Pb;decide) _ _ _ _ z3 (lo3 _ dc) W hW;rw[qv_congr (c:=2) (d:=1) dc dc dc]at h;exact h) tse)
    (λW hW=>outside_sh (pl:=4) (n1:=-2) (d1:=1) (n2:=-2) (d2:=1) dc dc dc dc dc dc dc dc dc dc dc dc dc dc dc dc dc dc dc dc dc dc dc dc s2.2 s2.2 hW)
    (λW hW=>cAv (l:=[.int .i64 2,.int .i64 2]) (hC W hW) tse) (λW hW=>cAv (l:=[.int .i64 2,.int .i64 2]) (hQ W hW) tse)
    (λW hW=>consumerZ_ok (pl:=2) dc dc (λW hW=>cAv (l:=[]) (valid_c frs tsts hW) tse) hW) (λW hW=>insideZ_ok (pl:=2) dc dc (λW hW=>validZ15_ok hW) hW)
    (λW hW=>cAv (l:=[QV 9 1,.int .i64 3]) (by have h:=hA 900 (by unfold Pb;decide) _ _ _ _ (lo3 _ dc) (lo3 _ dc) W hW;rw[qv_congr (c:=9) (d:=1) dc dc dc]at h;exact h) tse)
    (λW hW=>cAv (l:=[]) (valid_c frs tsts hW) tse) (λW hW=>validZ15_ok hW)
    (con_c (pl:=4) dc dc dc dc dc dc dc) (con_c (pl:=4) dc dc dc dc dc dc dc) (con_c (pl:=3) dc dc dc dc dc dc dc) (con_c (pl:=4) dc dc dc dc dc dc dc) (con_c (pl:=2) dc dc (by rw[flz];omega) (clu _ om) dc dc ?_) (con_c (pl:=2) dc dc (by rw[flz];omega) (clu _ om) dc dc ?_) (con_c (pl:=3) dc dc dc dc dc dc dc) hW
  · rw[flz,Bool.and_eq_true,decide_eq_true_eq,decide_eq_true_eq];rw[T2]at *;omega
  · rw[flz,Bool.and_eq_true,decide_eq_true_eq,decide_eq_true_eq];rw[T2]at *;omega
theorem sumI_addf {g h:Nat->Int}:∀n,sumI (λi=>g i+h i) n=sumI g n+sumI h n
  |0=>rfl
  | n+1=>by
    show sumI (λi=>g i+h i) n+(g n+h n)=sumI g n+g n+(sumI h n+h n)
    rw[sumI_addf n];omega
theorem sumI_mulr {g:Nat->Int}{c:Int}:∀n,sumI (λi=>g i*c) n=sumI g n*c
  |0=>by show(0:Int)=0*c;omega
  | n+1=>by
    show sumI (λi=>g i*c) n+g n*c=(sumI g n+g n)*c
    rw[sumI_mulr n,Int.add_mul]
theorem sumI_swap {g:Nat->Nat->Int}{m:Nat}:∀n,sumI (λi=>sumI (λj=>g i j) m) n=sumI (λj=>sumI (λi=>g i j) n) m
  | 0 =>by
    have:∀m,sumI (λ_=>(0:Int)) m=0:=λm=>by
      induction m with
      |zero=>rfl
      |succ m ih=>show sumI (λ_=>(0:Int)) m+0=0;rw[ih];rfl
    exact(this m).symm
  | n+1=>by
    show sumI (λi=>sumI (λj=>g i j) m) n+sumI (λj=>g n j) m=sumI (λj=>sumI (λi=>g i j) n+g n j) m
    rw[sumI_swap n,sumI_addf]
def ovl (v:Int->Int)(a b c d:Int):Int:=if max a c<min b d then v (min b d)-v (max a c)else 0
theorem ovl_comm {v:Int->Int}{a b c d:Int}:ovl v a b c d=ovl v c d a b:=by
  unfold ovl
  rw[show max a c=max c a by omega,show min b d=min d b by omega]
theorem ovl_row {v:Int->Int}{y:Nat->Int}{a b:Int}{m:Nat}(hab:a<=b)(hy:∀j,j<m->y j<=y (j+1))(h0:y 0<=a)(hm:b<=y m):sumI (λj=>ovl v a b (y j) (y (j+1))) m=v b-v a:=by
  have key:sumI (λj=>ovl v a b (y j) (y (j+1))) m=sumI (λj=>v (min (max (y (j+1)) a) b)-v (min (max (y j) a) b)) m:=by
    refine sumI_congr λj hj=>?_
    have h1:=hy j hj
    unfold ovl
    split
    · rename_i h
      rw[show min (max (y (j+1)) a) b=min b (y (j+1))by omega,show min (max (y j) a) b=max a (y j)by omega]
    · rename_i h
      rw[show min (max (y (j+1)) a) b=min (max (y j) a) b by omega];omega
  rw[key,sumI_tele (λj=>v (min (max (y j) a) b)),show min (max (y m) a) b=b by omega,show min (max (y 0) a) b=a by omega]
theorem mono_up {x:Nat->Int}{n:Nat}(h:∀i,i<n->x i<=x (i+1)):∀{i j:Nat},i<=j->j<=n->x i<=x j
  |i,0,hij,_=>by rw[show i=0 by omega];exact Int.le_refl _
  | i,j+1,hij,hj=>by
    rcases(by omega:i=j+1∨i<=j)with rfl|h1
    · exact Int.le_refl _
    · exact Int.le_trans (mono_up h h1 om) (h j om)
theorem rs_le {v:Int->Int}{x y a b:Nat->Int}{n m:Nat}(mv:∀X Y,X<=Y->v X<=v Y)(hx:∀i,i<n->x i<=x (i+1))(hy:∀j,j<m->y j<=y (j+1))(h0:x 0=y 0)(hnm:x n=y m)(hab:∀i j,i<n->j<m->max (x i) (y j)<min (x (i+1)) (y (j+1))->a i<=b j):
    sumI (λi=>(v (x (i+1))-v (x i))*a i) n<=sumI (λj=>(v (y (j+1))-v (y j))*b j) m:=by
  have e1:sumI (λi=>(v (x (i+1))-v (x i))*a i) n=sumI (λi=>sumI (λj=>ovl v (x i) (x (i+1)) (y j) (y (j+1))*a i) m) n:=by
    refine sumI_congr λi hi=>?_
    rw[sumI_mulr,ovl_row (hx i hi) hy (by rw[<-h0];exact mono_up hx (Nat.zero_le _) om) (by rw[<-hnm];exact mono_up hx om (Nat.le_refl _))]
  have e2:sumI (λj=>(v (y (j+1))-v (y j))*b j) m=sumI (λj=>sumI (λi=>ovl v (x i) (x (i+1)) (y j) (y (j+1))*b j) n) m:=by
    refine sumI_congr λj hj=>?_
    rw[sumI_mulr,show(λi=>ovl v (x i) (x (i+1)) (y j) (y (j+1)))=λi=>ovl v (y j) (y (j+1)) (x i) (x (i+1))from funext λi=>ovl_comm,ovl_row (hy j hj) hx (by rw[h0];exact mono_up hy (Nat.zero_le _) om) (by rw[hnm];exact mono_up hy om (Nat.le_refl _))]
  have e3:=sumI_swap (g:=λi j=>ovl v (x i) (x (i+1)) (y j) (y (j+1))*b j) (m:=m) n
  rw[e1,e2,<-e3]
  refine sumI_le λi hi=>sumI_le λj hj=>?_
  unfold ovl
  split
  · rename_i h
    exact Int.mul_le_mul_of_nonneg_left (hab i j hi hj h) (by have:=mv (max (x i) (y j)) (min (x (i+1)) (y (j+1))) om;omega)
  · omega
structure BetP (P:Int->Prop)(f c v:Int->Int)(k:Int):Prop where
  k0:0<k
  mono:∀X Y,X<=Y->v X<=v Y
  lo:∀X,P X->f X*k<=v X
  hi:∀X,P X->v X<=c X*k
section
variable {s:Sd}{P:Int->Prop}{T k kc L H:Int}{v C:Int->Int}{E E':Nat->Int}{n m:Nat}{X Y X' Y':Int}
theorem BetP.ml (h:BetP P s.f s.c v k)(hX:P X)(hY:P Y)(hXY:X<=Y):mLo s.f s.c X Y*k<=v Y-v X∧v Y-v X<=mHi s.f s.c X Y*k:=by
  have h1:=h.lo Y hY
  have h2:=h.hi X hX
  have h3:=h.mono X Y hXY
  have h4:=h.hi Y hY
  have h5:=h.lo X hX
  have h0:=h.k0
  have a:∀z:Int,0<=z->0<=z*k:=λz hz=>Int.mul_nonneg hz om
  unfold mLo mHi
  constructor
  · rcases(by omega:max 0 (s.f Y-s.c X)=0∨max 0 (s.f Y-s.c X)=s.f Y-s.c X)with e|e <;>rw[e]
    · omega
    · rw[Int.sub_mul];omega
  · have h6:(s.c Y-s.f X)*k<=max 0 (s.c Y-s.f X)*k:=Int.mul_le_mul_of_nonneg_right om om
    rw[Int.sub_mul]at h6;omega
structure Uni (s:Sd)(P:Int->Prop)(C:Int->Int)(k:Int):Prop where
  k0:0<k
  nn:∀X,0<=C X
  lo:∀X,P X∨X=s.ct->s.chL X*k<=C X
  hi:∀X,P X∨X=s.ct->C X<=s.chH X*k
  inc:∀a b,a<=b->b<=s.ct->C a<=C b
  dec:∀a b,s.ct<=a->a<=b->C b<=C a
theorem Uni.b (u:Uni s P C kc)(hX:P X)(hY:P Y)(hX':P X')(hY':P Y')(ho:max X X'<min Y Y'):s.bL X Y<=s.bH X' Y':=by
  refine Int.le_of_mul_le_mul_right (a:=kc) ?_ u.k0
  have k0:=u.k0
  have mn:∀a b:Int,a<=b->a*kc<=b*kc:=λa b h=>Int.mul_le_mul_of_nonneg_right h om
  have l1:s.bL X Y*kc<=C X:=Int.le_trans (mn _ _ (by unfold Sd.bL;omega)) (u.lo X (.inl hX))
  have l2:s.bL X Y*kc<=C Y:=Int.le_trans (mn _ _ (by unfold Sd.bL;omega)) (u.lo Y (.inl hY))
  have h1:C X'<=s.bH X' Y'*kc:=Int.le_trans (u.hi X' (.inl hX')) (mn _ _ (by unfold Sd.bH;split <;>omega))
  have h2:C Y'<=s.bH X' Y'*kc:=Int.le_trans (u.hi Y' (.inl hY')) (mn _ _ (by unfold Sd.bH;split <;>omega))
  by_cases a:Y'<=s.ct
  · have:=u.inc X Y' om a
    omega
  · by_cases b:s.ct<=X'
    · have:=u.dec X' Y b om
      omega
    · have h3:C s.ct<=s.bH X' Y'*kc:=Int.le_trans (u.hi s.ct (.inr rfl)) (mn _ _ (by unfold Sd.bH;rw[if_pos om];omega))
      rcases Int.le_total X s.ct with c|c
      · have:=u.inc X s.ct c (Int.le_refl _);omega
      · have:=u.dec s.ct X (Int.le_refl _) c;omega
structure Par (P:Int->Prop)(E:Nat->Int)(n:Nat)(a b:Int):Prop where
  p:∀i,P (E i)
  up:∀i,i<n->E i<=E (i+1)
  e0:E 0=a
  en:E n=b
theorem pmx {a b:Int}(ha:P a)(hb:P b):P (max a b):=by
  rcases Int.le_total a b with h|h
  · rw[show max a b=b by omega];exact hb
  · rw[show max a b=a by omega];exact ha
theorem pmn {a b:Int}(ha:P a)(hb:P b):P (min a b):=by
  rcases Int.le_total a b with h|h
  · rw[show min a b=a by omega];exact ha
  · rw[show min a b=b by omega];exact hb
theorem con_meet (h:s.Ok T)(hb:BetP P s.f s.c v k)(u:Uni s P C kc){a b:Int}(q:Par P E n a b)(q':Par P E' m a b)(pL:P L)(pH:P H):s.conL E L H n<=s.conH E' L H m:=by
  have k0:=hb.k0
  refine Int.le_of_mul_le_mul_right (a:=k) ?_ k0
  have t1:∀X Y,P X->P Y->s.tcL X Y*k<=(if X<Y then(v Y-v X)*s.bL X Y else 0):=λX Y hX hY=>by
    unfold Sd.tcL
    split
    · rename_i hlt
      have b0:=(h.b (X:=X) (Y:=Y)).1
      rw[Int.mul_right_comm]
      exact Int.mul_le_mul_of_nonneg_right (hb.ml hX hY om).1 b0
    · omega
  have t2:∀X Y,P X->P Y->(if X<Y then(v Y-v X)*s.bH X Y else 0)<=s.tcH X Y*k:=λX Y hX hY=>by
    unfold Sd.tcH
    split
    · rename_i hlt
      have b0:=h.b (X:=X) (Y:=Y)
      rw[Int.mul_right_comm]
      exact Int.mul_le_mul_of_nonneg_right (hb.ml hX hY om).2 om
    · omega
  have r1:=rs_le (v:=v) (x:=λi=>min (E i) L) (y:=λj=>min (E' j) L) (a:=λi=>s.bL (min (E i) L) (min (E (i+1)) L)) (b:=λj=>s.bH (min (E' j) L) (min (E' (j+1)) L)) (n:=n) (m:=m) hb.mono (λi hi=>by have:=q.up i hi;show min (E i) L<=min (E (i+1)) L;omega) (λi hi=>by have:=q'.up i hi;show min (E' i) L<=min (E' (i+1)) L;omega) (by show min (E 0) L=min (E' 0) L;rw[q.e0,q'.e0]) (by show min (E n) L=min (E' m) L;rw[q.en,q'.en]) (λi j _ _ ho=>u.b (pmn (q.p _) pL) (pmn (q.p _) pL) (pmn (q'.p _) pL) (pmn (q'.p _) pL) ho)
  have r2:=rs_le (v:=v) (x:=λi=>max (E i) H) (y:=λj=>max (E' j) H) (a:=λi=>s.bL (max (E i) H) (max (E (i+1)) H)) (b:=λj=>s.bH (max (E' j) H) (max (E' (j+1)) H)) (n:=n) (m:=m) hb.mono (λi hi=>by have:=q.up i hi;show max (E i) H<=max (E (i+1)) H;omega) (λi hi=>by have:=q'.up i hi;show max (E' i) H<=max (E' (i+1)) H;omega) (by show max (E 0) H=max (E' 0) H;rw[q.e0,q'.e0]) (by show max (E n) H=max (E' m) H;rw[q.en,q'.en]) (λi j _ _ ho=>u.b (pmx (q.p _) pH) (pmx (q.p _) pH) (pmx (q'.p _) pH) (pmx (q'.p _) pH) ho)
  have c1:s.conL E L H n*k<=sumI (λi=>(v (min (E (i+1)) L)-v (min (E i) L))*s.bL (min (E i) L) (min (E (i+1)) L)) n+sumI (λi=>(v (max (E (i+1)) H)-v (max (E i) H))*s.bL (max (E i) H) (max (E (i+1)) H)) n:=by
    unfold Sd.conL
    rw[<-sumI_mulr,<-sumI_addf]
    refine sumI_le λi hi=>?_
    have hu:=q.up i hi
    rw[Int.add_mul]
    have z1:=t1 (E i) (min (E (i+1)) L) (q.p _) (pmn (q.p _) pL)
    have z2:=t1 (max (E i) H) (E (i+1)) (pmx (q.p _) pH) (q.p _)
    have y1:(if E i<min (E (i+1)) L then(v (min (E (i+1)) L)-v (E i))*s.bL (E i) (min (E (i+1)) L)else 0)=(v (min (E (i+1)) L)-v (min (E i) L))*s.bL (min (E i) L) (min (E (i+1)) L):=by
      split
      · rw[show min (E i) L=E i by omega]
      · rw[show min (E (i+1)) L=min (E i) L by omega,Int.sub_self,Int.zero_mul]
    have y2:(if max (E i) H<E (i+1)then(v (E (i+1))-v (max (E i) H))*s.bL (max (E i) H) (E (i+1))else 0)=(v (max (E (i+1)) H)-v (max (E i) H))*s.bL (max (E i) H) (max (E (i+1)) H):=by
      split
      · rw[show max (E (i+1)) H=E (i+1)by omega]
      · rw[show max (E (i+1)) H=max (E i) H by omega,Int.sub_self,Int.zero_mul]
    omega
  have c2:sumI (λi=>(v (min (E' (i+1)) L)-v (min (E' i) L))*s.bH (min (E' i) L) (min (E' (i+1)) L)) m+sumI (λi=>(v (max (E' (i+1)) H)-v (max (E' i) H))*s.bH (max (E' i) H) (max (E' (i+1)) H)) m<=s.conH E' L H m*k:=by
    unfold Sd.conH
    rw[<-sumI_mulr,<-sumI_addf]
    refine sumI_le λi hi=>?_
    have hu:=q'.up i hi
    rw[Int.add_mul]
    have z1:=t2 (E' i) (min (E' (i+1)) L) (q'.p _) (pmn (q'.p _) pL)
    have z2:=t2 (max (E' i) H) (E' (i+1)) (pmx (q'.p _) pH) (q'.p _)
    have y1:(if E' i<min (E' (i+1)) L then(v (min (E' (i+1)) L)-v (E' i))*s.bH (E' i) (min (E' (i+1)) L)else 0)=(v (min (E' (i+1)) L)-v (min (E' i) L))*s.bH (min (E' i) L) (min (E' (i+1)) L):=by
      split
      · rw[show min (E' i) L=E' i by omega]
      · rw[show min (E' (i+1)) L=min (E' i) L by omega,Int.sub_self,Int.zero_mul]
    have y2:(if max (E' i) H<E' (i+1)then(v (E' (i+1))-v (max (E' i) H))*s.bH (max (E' i) H) (E' (i+1))else 0)=(v (max (E' (i+1)) H)-v (max (E' i) H))*s.bH (max (E' i) H) (max (E' (i+1)) H):=by
      split
      · rw[show max (E' (i+1)) H=E' (i+1)by omega]
      · rw[show max (E' (i+1)) H=max (E' i) H by omega,Int.sub_self,Int.zero_mul]
    omega
  omega
theorem pro_meet (h:s.Ok T)(hb:BetP P s.f s.c v k)(u:Uni s P C kc){a b:Int}(q:Par P E n a b)(q':Par P E' m a b)(pL:P L)(pH:P H)(hLH:L<=H):s.proL T E L H n<=s.proH T E' L H m:=by
  have k0:=hb.k0
  refine Int.le_of_mul_le_mul_right (a:=k) ?_ k0
  have r1:=rs_le (v:=v) (x:=λi=>min (max (E i) L) H) (y:=λj=>min (max (E' j) L) H) (a:=λi=>max 0 (T-s.bH (min (max (E i) L) H) (min (max (E (i+1)) L) H))) (b:=λj=>T-s.bL (min (max (E' j) L) H) (min (max (E' (j+1)) L) H)) (n:=n) (m:=m) hb.mono (λi hi=>by have:=q.up i hi;show min (max (E i) L) H<=min (max (E (i+1)) L) H;omega) (λi hi=>by have:=q'.up i hi;show min (max (E' i) L) H<=min (max (E' (i+1)) L) H;omega) (by show min (max (E 0) L) H=min (max (E' 0) L) H;rw[q.e0,q'.e0]) (by show min (max (E n) L) H=min (max (E' m) L) H;rw[q.en,q'.en]) (λi j _ _ ho=>by
    have h1:=u.b (X:=min (max (E' j) L) H) (Y:=min (max (E' (j+1)) L) H) (X':=min (max (E i) L) H) (Y':=min (max (E (i+1)) L) H) (pmn (pmx (q'.p _) pL) pH) (pmn (pmx (q'.p _) pL) pH) (pmn (pmx (q.p _) pL) pH) (pmn (pmx (q.p _) pL) pH) om
    have h2:=h.b (X:=min (max (E' j) L) H) (Y:=min (max (E' (j+1)) L) H)
    omega)
  have c1:s.proL T E L H n*k<=sumI (λi=>(v (min (max (E (i+1)) L) H)-v (min (max (E i) L) H))*max 0 (T-s.bH (min (max (E i) L) H) (min (max (E (i+1)) L) H))) n:=by
    unfold Sd.proL
    rw[<-sumI_mulr]
    refine sumI_le λi hi=>?_
    have hu:=q.up i hi
    unfold Sd.tpL
    split
    · rename_i hlt
      rw[show min (max (E (i+1)) L) H=min (E (i+1)) H by omega,show min (max (E i) L) H=max (E i) L by omega,Int.mul_right_comm]
      exact Int.mul_le_mul_of_nonneg_right (hb.ml (pmx (q.p _) pL) (pmn (q.p _) pH) om).1 om
    · rw[Int.zero_mul,show min (max (E (i+1)) L) H=min (max (E i) L) H by omega,Int.sub_self,Int.zero_mul];exact Int.le_refl _
  have c2:sumI (λi=>(v (min (max (E' (i+1)) L) H)-v (min (max (E' i) L) H))*(T-s.bL (min (max (E' i) L) H) (min (max (E' (i+1)) L) H))) m<=s.proH T E' L H m*k:=by
    unfold Sd.proH
    rw[<-sumI_mulr]
    refine sumI_le λi hi=>?_
    have hu:=q'.up i hi
    unfold Sd.tpH
    split
    · rename_i hlt
      have b0:=h.b (X:=max (E' i) L) (Y:=min (E' (i+1)) H)
      rw[show min (max (E' (i+1)) L) H=min (E' (i+1)) H by omega,show min (max (E' i) L) H=max (E' i) L by omega,Int.mul_right_comm]
      exact Int.mul_le_mul_of_nonneg_right (hb.ml (pmx (q'.p _) pL) (pmn (q'.p _) pH) om).2 om
    · rw[Int.zero_mul,show min (max (E' (i+1)) L) H=min (max (E' i) L) H by omega,Int.sub_self,Int.zero_mul];exact Int.le_refl _
  omega
end
theorem w_uni {w:Int->Int}{W O U c:Int}(sym:∀K,w (-K)=W-w K)(conc:∀K,0<=K->w (K+2)-w (K+1)<=w (K+1)-w K)(hc:2*c=O+U)(hOU:O<=U):
    (∀a b,a<=b->b<=c->w (U-a)-w (O-a)<=w (U-b)-w (O-b))∧∀a b,c<=a->a<=b->w (U-b)-w (O-b)<=w (U-a)-w (O-a):=by
  have d1:∀(n:Nat) (K:Int),0<=K->w (K+n+1)-w (K+n)<=w (K+1)-w K:=by
    intro n
    induction n with
    |zero=>intro K _;rw[show K+((0:Nat):Int)=K by omega];exact Int.le_refl _
    | succ n ih=>
      intro K hK
      have h1:=ih K hK
      have h2:=conc (K+n) om
      rw[show K+((n+1:Nat):Int)+1=K+n+2 by omega,show K+((n+1:Nat):Int)=K+n+1 by omega]
      omega
  have d2:∀K J:Int,0<=K->K<=J->w (J+1)-w J<=w (K+1)-w K:=λK J hK hJ=>by
    have:=d1 (J-K).toNat K hK
    rwa [show K+((J-K).toNat:Int)=J by omega]at this
  have st:∀a,c<=a->w (U-(a+1))-w (O-(a+1))<=w (U-a)-w (O-a):=by
    intro a ha
    have s1:=sym (a+1-O)
    have s2:=sym (a-O)
    rw[show -(a+1-O)=O-(a+1)by omega]at s1
    rw[show -(a-O)=O-a by omega]at s2
    by_cases hU:a+1<=U
    · have h:=d2 (U-(a+1)) (a-O) om om
      rw[show U-(a+1)+1=U-a by omega,show a-O+1=a+1-O by omega]at h
      omega
    · have s3:=sym (a+1-U)
      have s4:=sym (a-U)
      rw[show -(a+1-U)=U-(a+1)by omega]at s3
      rw[show -(a-U)=U-a by omega]at s4
      have h:=d2 (a-U) (a-O) om om
      rw[show a-U+1=a+1-U by omega,show a-O+1=a+1-O by omega]at h
      omega
  have dn:∀(n:Nat) (a:Int),c<=a->w (U-(a+n))-w (O-(a+n))<=w (U-a)-w (O-a):=by
    intro n
    induction n with
    |zero=>intro a _;rw[show a+((0:Nat):Int)=a by omega];exact Int.le_refl _
    | succ n ih=>
      intro a ha
      have h1:=ih a ha
      have h2:=st (a+n) om
      rw[show a+((n+1:Nat):Int)=a+n+1 by omega]
      omega
  have de:∀a b,c<=a->a<=b->w (U-b)-w (O-b)<=w (U-a)-w (O-a):=λa b ha hab=>by
    have:=dn (b-a).toNat a ha
    rwa [show a+((b-a).toNat:Int)=b by omega]at this
  refine⟨λa b hab _=>?_,de⟩
  have mir:∀z,w (U-z)-w (O-z)=w (U-(2*c-z))-w (O-(2*c-z)):=λz=>by
    have s1:=sym (U-z)
    have s2:=sym (O-z)
    rw[show -(U-z)=O-(2*c-z)by omega]at s1
    rw[show -(O-z)=U-(2*c-z)by omega]at s2
    omega
  rw[mir a,mir b]
  exact de _ _ om om
def rawW (n d:Nat)(C:Nat->Bool):Bool:=hnK 10000000000000000000 9999999999999999999 25066282746310005023 25066282746310005025 (λr _=>C (Nat.add 5000000000000000000 r)) n d
theorem rawW_ok {n d:Nat}{C:Nat->Bool}(hd:0<d)(h:rawW n d C=true):∃r,C r=true:=by
  obtain⟨r,_,hk⟩:=hnK_ok (pl:=19) (c:=(25066282746310005023,25066282746310005025)) dc (by decide +kernel) nmc4 (by decide +kernel) hd h
  exact⟨_,hk⟩
def nextW (e K p:Nat)(C:Nat->Bool):Bool:=cond (Nat.beq p 9999500000000000000) (C 9999500000000000000) (rawW K (Nat.mul 35 e) λu=>cond (Nat.ble u 9999500000000000000) (C u) (C 9999500000000000000))
theorem nextW_ok {e K p:Nat}{C:Nat->Bool}(he:0<e)(h:nextW e K p C=true):∃u,C u=true:=by
  unfold nextW at h
  rcases cond_t h with⟨_,hk⟩|⟨_,hk⟩
  · exact⟨_,hk⟩
  · obtain⟨u,hk⟩:=rawW_ok (show 0<Nat.mul 35 e by show 0<35*e;omega) hk
    rcases cond_t hk with⟨_,hk⟩|⟨_,hk⟩
    · exact⟨_,hk⟩
    · exact⟨_,hk⟩
def four (u:Nat)(C:Nat->Nat->Bool):Bool:=fz (Nat.gcd u 1000000) λg=>fz (Nat.div u g) λn=>fz (Nat.div 1000000 g) λd=>nmk4 n d λf c=>cond (and (Nat.ble 10000 (Nat.mul 2 f)) (Nat.ble c 10000)) (C f c) false
theorem four_ok {u:Nat}{C:Nat->Nat->Bool}(hu:0<u)(h:four u C=true):∃f c,Cel 4 u f c∧C f c=true:=by
  unfold four at h
  rw[fz_eq,fz_eq,fz_eq]at h
  have hg:0<Nat.gcd u 1000000:=Nat.gcd_pos_of_pos_left _ hu
  have hn:0<u/Nat.gcd u 1000000:=Nat.div_pos (Nat.le_of_dvd hu (Nat.gcd_dvd_left _ _)) hg
  have hd:0<1000000/Nat.gcd u 1000000:=Nat.div_pos (Nat.le_of_dvd dc (Nat.gcd_dvd_right _ _)) hg
  obtain⟨f,c,hP,hk⟩:=nmo4 _ _ _ hn hd h
  rcases cond_t hk with⟨h1,hk⟩|⟨_,hk⟩
  · simp only[Bool.and_eq_true,Nat.ble_eq]at h1
    obtain⟨r1,r2⟩:=posR_cel dc hP
    exact⟨f,c,⟨r1,r2,h1.1,h1.2⟩,hk⟩
  · cases hk
def Band (S K x:Nat):Prop:=∃f c f' c',Cel 4 (dnS S K) f c'∧Cel 4 (upS S K) f' c∧f*1000000000000000<=x∧x<=c*1000000000000000
def bandW (S K x:Nat)(R:Bool):Bool:=fz (Nat.mul K 200000) λa=>fz (Nat.div a S) λdn=>fz (Nat.div (Nat.add a (Nat.pred S)) S) λup=>four dn λf c=>cond (Nat.ble (Nat.mul f 1000000000000000) x) (cond (Nat.beq dn up) (cond (Nat.ble x (Nat.mul c 1000000000000000)) R false) (four up λ_ c=>cond (Nat.ble x (Nat.mul c 1000000000000000)) R false)) false
theorem bandW_ok {S K x:Nat}{R:Bool}(hS:0<S)(hK:S<=K*200000)(h:bandW S K x R=true):Band S K x∧R=true:=by
  unfold bandW at h
  rw[fz_eq,fz_eq,fz_eq]at h
  have p1:0<dnS S K:=Nat.div_pos hK hS
  have p2:0<upS S K:=Nat.div_pos (Nat.le_trans hK (Nat.le_add_right _ _)) hS
  change four (dnS S K) (λf c=>cond (Nat.ble (Nat.mul f 1000000000000000) x) (cond (Nat.beq (dnS S K) (upS S K)) (cond (Nat.ble x (Nat.mul c 1000000000000000)) R false) (four (upS S K) λ_ c=>cond (Nat.ble x (Nat.mul c 1000000000000000)) R false)) false)=true at h
  obtain⟨f,c',a,hk⟩:=four_ok p1 h
  rcases cond_t hk with⟨h1,hk⟩|⟨_,hk⟩
  · have h1:=Nat.le_of_ble_eq_true h1
    rcases cond_t hk with⟨h2,hk⟩|⟨_,hk⟩
    · have h2:=Nat.eq_of_beq_eq_true h2
      rcases cond_t hk with⟨h3,hk⟩|⟨_,hk⟩
      · exact⟨⟨f,c',f,c',a,h2▸a,h1,Nat.le_of_ble_eq_true h3⟩,hk⟩
      · cases hk
    · obtain⟨f',c,b,hk⟩:=four_ok p2 hk
      rcases cond_t hk with⟨h3,hk⟩|⟨_,hk⟩
      · exact⟨⟨f,c,f',c',a,b,h1,Nat.le_of_ble_eq_true h3⟩,hk⟩
      · cases hk
  · cases hk
def ndW (K:Nat):Bool:=or (Nat.beq (Nat.mod K 5) 0) (Nat.beq (Nat.mod K 7) 0)
def rowM (e:Nat)(C:Nat->Nat->Bool)(n:Nat):Nat->Nat->Nat->Bool:=Nat.rec (motive:=λ_=>Nat->Nat->Nat->Bool) (λ_ p q=>C p q) (λ_ ih K p q=>nextW e K p λu=>cond (and (Nat.ble p u) (Nat.ble (Nat.add u q) (Nat.add p p))) (cond (ndW K) (bandW (Nat.mul 7 e) K u (ih (Nat.succ K) u p)) (ih (Nat.succ K) u p)) false) n
def StM (e a b:Nat)(z:Nat->Nat):Prop:=∀K,a<=K->K<b->z K<=z (K+1)∧z (K+1)+z (K-1)<=z K+z K∧(ndW K=true->Band (7*e) K (z (K+1)))
theorem rowM_ok {e:Nat}{C:Nat->Nat->Bool}(he:0<e)(h5:e<=5000):∀{n a p q:Nat},0<a->rowM e C n a p q=true->∃z:Nat->Nat,z a=p∧z (a-1)=q∧StM e a (a+n) z∧C (z (a+n)) (z (a+n-1))=true
  | 0,a,p,q,ha,h=>⟨λi=>if i=a then p else q,if_pos rfl,if_neg om,λK h1 h2=>by omega,by
    show C (if a=a then p else q) (if a-1=a then p else q)=true
    rw[if_pos rfl,if_neg om];exact h⟩
  | n + 1,a,p,q,ha,h=>by
    change nextW e a p (λu=>cond (and (Nat.ble p u) (Nat.ble (Nat.add u q) (Nat.add p p))) (cond (ndW a) (bandW (Nat.mul 7 e) a u (rowM e C n (a+1) u p)) (rowM e C n (a+1) u p)) false)=true at h
    obtain⟨u,hk⟩:=nextW_ok he h
    rcases cond_t hk with⟨h1,hk⟩|⟨_,hk⟩
    · rw [Bool.and_eq_true,Nat.ble_eq,Nat.ble_eq]at h1
      have key:(ndW a=true->Band (7*e) a u)∧rowM e C n (a+1) u p=true:=by
        rcases cond_t hk with⟨h2,hk⟩|⟨h2,hk⟩
        · obtain⟨b1,b2⟩:=bandW_ok (S:=Nat.mul 7 e) (show 0<7*e by omega) (show 7*e<=a*200000 by omega) hk
          exact⟨λ_=>b1,b2⟩
        · exact⟨λh3=>(by rw[h2]at h3;cases h3),hk⟩
      obtain⟨z,z1,z2,z3,z4⟩:=rowM_ok he h5 (Nat.succ_pos a) key.2
      rw[show a+1-1=a by omega]at z2
      refine⟨λi=>if i=a-1 then q else z i,?_,if_pos rfl,λK k1 k2=>?_,?_⟩
      · simp only[if_neg (show¬a=a-1 by omega)];exact z2
      · simp only[if_neg (show¬K=a-1 by omega),if_neg (show¬K+1=a-1 by omega)]
        by_cases e1:K=a
        · subst e1
          rw[if_pos rfl,z1,z2]
          exact⟨h1.1,h1.2,key.1⟩
        · rw[if_neg (show¬K-1=a-1 by omega)]
          exact z3 K om om
      · simp only[if_neg (show¬a+(n+1)=a-1 by omega),if_neg (show¬a+(n+1)-1=a-1 by omega)]
        rw[show a+(n+1)=a+1+n by omega]
        exact z4
    · cases hk
structure ChM (e b p q:Nat):Prop where
  row:∃z:Nat->Nat,z 1=5000000000000000000∧StM e 1 b z∧z b=p∧z (b-1)=q
theorem ChM.zero {e:Nat}:ChM e 1 5000000000000000000 0:=⟨⟨λi=>if i=1 then 5000000000000000000 else 0,rfl,λK h1 h2=>by omega,rfl,rfl⟩⟩
theorem ChM.next {e b p q n p' q':Nat}(c:ChM e b p q)(he:0<e)(h5:e<=5000)(hb:0<b)(hn:0<n)(h:rowM e (λx y=>and (Nat.beq x p') (Nat.beq y q')) n b p q=true):ChM e (b+n) p' q':=by
  obtain⟨z,z1,z2,z3,z4⟩:=c.row
  obtain⟨y,y1,y2,y3,y4⟩:=rowM_ok he h5 hb h
  rw[Bool.and_eq_true]at y4
  have y5:=Nat.eq_of_beq_eq_true y4.1
  have y6:=Nat.eq_of_beq_eq_true y4.2
  refine⟨⟨λi=>if i<=b then z i else y i,?_,λK h1 h2=>?_,?_,?_⟩⟩
  · simp only[if_pos (show 1<=b by omega)];exact z1
  · by_cases e1:K<b
    · simp only[if_pos (show K<=b by omega),if_pos (show K+1<=b by omega),if_pos (show K-1<=b by omega)]
      exact z2 K h1 e1
    · have e2:=y3 K om om
      have g:∀i,b-1<=i->(if i<=b then z i else y i)=y i:=λi hi=>by
        by_cases e3:i<=b
        · rw[if_pos e3]
          rcases(by omega:i=b∨i=b-1)with rfl|rfl
          · rw[z3,y1]
          · rw[z4,y2]
        · rw[if_neg e3]
      simp only[g K om,g (K+1) om,g (K-1) om]
      exact e2
  · simp only[if_neg (show¬b+n<=b by omega)];exact y5
  · by_cases e3:b+n-1<=b
    · have:n=1:=by omega
      subst this
      simp only[show b+1-1=b by omega,Nat.le_refl,if_true]
      rw[z3,<-y1]
      rw[show b+1-1=b by omega]at y6
      exact y6
    · simp only[if_neg e3];exact y6
structure VoM (e:Nat)(w:Int->Int):Prop where
  sym:∀K,w (-K)=10000000000000000000-w K
  mono:∀K L,K<=L->w K<=w L
  conc:∀K,0<=K->w (K+2)-w (K+1)<=w (K+1)-w K
  sh:∀K:Int,K%5=0∨K%7=0->∃f c,Sh2 4 K ((35*e:Nat):Int) f c∧f*1000000000000000<=w K∧w K<=c*1000000000000000
theorem ChM.voM {e b:Nat}(c:ChM e b 9999500000000000000 9999500000000000000)(hb:b=280*e)(he:0<e)(h5:e<=5000:=by decide):∃w,VoM e w:=by
  obtain⟨z,z1,z2,z3,z4⟩:=c.row
  subst hb
  obtain⟨g,hg⟩:∃g:Nat->Nat,g=λi=>if i<280*e then z (i+1)else 9999500000000000000:=⟨_,rfl⟩
  have g1:∀i,i<280*e->g i=z (i+1):=λi h=>by rw[hg];exact if_pos h
  have g2:∀i,280*e<=i->g i=9999500000000000000:=λi h=>by rw[hg];exact if_neg om
  have g0:g 0=5000000000000000000:=by rw[g1 0 om];exact z1
  have gm:∀i,g i<=g (i+1):=λi=>by
    by_cases a:i+1<280*e
    · rw[g1 i om,g1 (i+1) a];exact(z2 (i+1) om a).1
    · rw[g2 (i+1) om]
      by_cases a':i+1=280*e
      · rw[g1 i om,a',z3];exact Nat.le_refl _
      · rw[g2 i om];exact Nat.le_refl _
  have gc:∀i,g (i+2)+g i<=g (i+1)+g (i+1):=λi=>by
    by_cases a:i+2<280*e
    · rw[g1 i om,g1 (i+1) om,g1 (i+2) a]
      have:=(z2 (i+2) om a).2.1
      rw[show i+2-1=i+1 by omega]at this
      exact this
    · have m:=gm i
      rw[g2 (i+2) om]
      by_cases a':i+1<280*e
      · have e1:g (i+1)=9999500000000000000:=by rw[g1 (i+1) a',show i+1+1=280*e by omega];exact z3
        omega
      · rw[g2 (i+1) om]at m ⊢
        omega
  have gmm:∀(n i:Nat),g i<=g (i+n):=λn=>by
    induction n with
    |zero=>intro i;exact Nat.le_refl _
    |succ n ih=>intro i;exact Nat.le_trans (ih i) (gm (i+n))
  have gle:∀i j,i<=j->g i<=g j:=λi j h=>by have:=gmm (j-i) i;rwa [show i+(j-i)=j by omega]at this
  have gcap:∀i,g i<=9999500000000000000:=λi=>by have:=gle i (280*e+i) om;rwa [g2 (280*e+i) om]at this
  have gH:∀i,5000000000000000000<=g i:=λi=>by have:=gle 0 i om;omega
  obtain⟨w,hw⟩:∃w:Int->Int,w=λK=>if 0<=K then((g K.toNat:Nat):Int)else 10000000000000000000-((g (-K).toNat:Nat):Int):=⟨_,rfl⟩
  have w1:∀i:Nat,w (i:Int)=(g i:Nat):=λi=>by rw[hw];exact if_pos om
  have w2:∀K:Int,K<0->w K=10000000000000000000-((g (-K).toNat:Nat):Int):=λK h=>by rw[hw];exact if_neg om
  have w3:∀K:Int,0<=K->w K=(g K.toNat:Nat):=λK h=>by rw[hw];exact if_pos h
  have wsym:∀K,w (-K)=10000000000000000000-w K:=λK=>by
    rcases(by omega:K<0∨K=0∨0<K)with h|h|h
    · rw[w3 (-K) om,w2 K h];omega
    · subst h
      rw[show(-(0:Int))=0 by decide,w3 0 om,show(0:Int).toNat=0 from rfl,g0];decide
    · rw[w2 (-K) om,w3 K om,Int.neg_neg]
  refine⟨w,wsym,?_,?_,?_⟩
  · intro K L h
    rcases Int.lt_or_le K 0 with a|a <;>rcases Int.lt_or_le L 0 with b|b
    · rw[w2 K a,w2 L b]
      have:=gle (-L).toNat (-K).toNat om;omega
    · rw[w2 K a,w3 L b]
      have:=gH (-K).toNat
      have:=gH L.toNat;omega
    · omega
    · rw[w3 K a,w3 L b]
      have:=gle K.toNat L.toNat om;omega
  · intro K hK
    rw[w3 (K+2) om,w3 (K+1) om,w3 K hK]
    have:=gc K.toNat
    rw[show(K+2).toNat=K.toNat+2 by omega,show(K+1).toNat=K.toNat+1 by omega]
    omega
  · have T4 :tenI 4=10000:=by decide
    have pos:∀K:Int,0<=K->K%5=0∨K%7=0->∃f c,Sh2 4 K ((35*e:Nat):Int) f c∧f*1000000000000000<=w K∧w K<=c*1000000000000000:=by
      intro K hK hn
      by_cases k0:K=0
      · subst k0
        refine⟨_,_,sh2_zero (pl:=4) om dc,?_,?_⟩ <;>rw[w3 0 om,show(0:Int).toNat=0 from rfl,g0] <;>decide
      · by_cases k8:K<280*(e:Int)
        · obtain⟨k,rfl⟩:∃k:Nat,K=k:=⟨K.toNat,by omega⟩
          have hnd:ndW k=true:=by
            show(Nat.beq (k%5) 0||Nat.beq (k%7) 0)=true
            rcases hn with h|h
            · rw[show k%5=0 by omega];rfl
            · rw[show k%7=0 by omega,Bool.or_comm];rfl
          obtain⟨f,cc,_,_,a,b,x,y⟩:=(z2 k om om).2.2 hnd
          rw[<-g1 k om]at x y
          have hs:=sh2_pos (K:=k) (S:=7*e) om om om om (up_lt2 om om om) a b om
          rw[show 5*(7*e)=35*e by omega]at hs
          exact⟨f,cc,hs,by rw[w1];omega,by rw[w1];omega⟩
        · refine⟨tenI 4-1,tenI 4,sh2_hi om om,?_,?_⟩ <;>rw[T4,w3 K hK,g2 K.toNat om] <;>decide
    intro K hn
    rcases Int.lt_or_le K 0 with a|a
    · obtain⟨f,cc,h1,h2,h3⟩:=pos (-K) om om
      have h4:=h1.neg
      rw[Int.neg_neg,T4]at h4
      rw[wsym]at h2 h3
      exact⟨_,_,h4,by omega,by omega⟩
    · exact pos K a hn
end Go.Proofs.YtmehbpjpbbhohaaGreatDoor
