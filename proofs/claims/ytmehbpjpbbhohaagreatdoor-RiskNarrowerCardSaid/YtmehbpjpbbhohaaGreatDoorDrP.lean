/- Part of the proof of a statement about risks. -/
import Derived.Test.YtmehbpjpbbhohaaGreatDoorRef4ToDrF
set_option linter.all false
namespace Go.Proofs.YtmehbpjpbbhohaaGreatDoor
open Go Go.Eng Go.RowKit
theorem tsv_eq {ma mb sa sb ea eb la lb ha hb oa ob ga gb A B G M s e L H O U:Int}(hg:0<G)(hp:0<mb∧0<sb∧0<eb∧0<lb∧0<hb∧0<ob∧0<gb)(h1:ma*G=(A*M+B)*mb)(h2:sa*G=A*s*sb)(h3:ea*G=A*e*eb)(h4:la*G=(A*L+B)*lb)(h5:ha*G=(A*H+B)*hb)(h6:oa*G=(A*O+B)*ob)(h7:ga*G=(A*U+B)*gb):
    TSv A B G M s e L H O U=.agg #[S (qR ma mb).1,S (qR ma mb).2,S (qR sa sb).1,S (qR sa sb).2,S (qR ea eb).1,S (qR ea eb).2,S (qR la lb).1,S (qR la lb).2,S (qR ha hb).1,S (qR ha hb).2,S (qR oa ob).1,S (qR oa ob).2,S (qR ga gb).1,S (qR ga gb).2]:=by
  rw[qR_congr hp.1 hg h1,qR_congr hp.2.1 hg h2,qR_congr hp.2.2.1 hg h3,qR_congr hp.2.2.2.1 hg h4,qR_congr hp.2.2.2.2.1 hg h5,qR_congr hp.2.2.2.2.2.1 hg h6,qR_congr hp.2.2.2.2.2.2 hg h7]
theorem cAv {f:FuncId}{v u:Value}{l:List Value}{w:World}{R:Ending->World->Prop}(h:CL f (v::l).toArray w R)(e:v=u):CL f (u::l).toArray w R:=e▸h
structure Fcs (s pl:Nat)(v F C:Int->Int):Prop where
  fc:Fc s pl v F C
  vo:Vof s v
  p2:2<=pl
  p5:pl<=5
  sr:1<=s∧s<=80
theorem Fcs.of {s:Nat}{v:Int->Int}(h:Vof s v)(hs:1<=s∧s<=80)(pl:Nat)(p2:2<=pl)(p5:pl<=5):∃F C,Fcs s pl v F C:=by
  obtain⟨F,C,hF⟩:=h.fc p2 p5
  exact⟨F,C,hF,h,p2,p5,hs⟩
section
variable {s e pl:Nat}{v v' F C F' C':Int->Int}{A B G M L H O U K:Int}
theorem Fcs.sh (h:Fcs s pl v F C)(K:Int):Sh pl K (5*(s:Int)) (F K) (C K):=by
  have:=h.fc.sh K
  rwa [show((5*s:Nat):Int)=5*(s:Int)by omega]at this
theorem Fcs.tsh (h:Fcs s pl v F C)(h':Fcs e pl v' F' C')(f:Fr A B G)(t:Tst M (10*s) (5*e) L H O U):Tsh pl F C F' C' A B G M (10*s) (5*e) L H O U:=⟨f,t,λK=>(h.sh K).congr (by have:=h.sr;omega) (by have:=h.sr;omega) (by grind),h'.sh,by have:=h.p2;omega,h.p5⟩
theorem Fcs.hi (h:Fcs s pl v F C)(hK:40*(s:Int)<=K):C K=tenI pl∧F (-K)=0:=by
  have s1:=h.sr
  have h1:=(h.sh K).uniq (sh_hi om om)
  have h2:=h.fc.neg K
  exact⟨h1.2,by rw[h2.1,h1.2];omega⟩
theorem Fcs.vb (h:Fcs s pl v F C)(K:Int):0<=v K∧v K<=100000:=by
  have a:=h.fc.lo K
  have b:=h.fc.hi K
  have c:=h.fc.bd (K:=K)
  have t:=ten_mul5 h.p5
  have t0:=ten_pos (5-pl)
  have d:=Int.mul_nonneg c.1 (Int.le_of_lt t0)
  have e:=Int.mul_le_mul_of_nonneg_right c.2.2 (Int.le_of_lt t0)
  omega
theorem Fcs.bet (h:Fcs s pl v F C):Bet (sdO F C F' C' M O U).f (sdO F C F' C' M O U).c (λX=>v (h2 (X-M))) (tenI (5-pl)):=⟨ten_pos _,λX Y hXY=>h.vo.mono _ _ (h2_mono om),λX=>h.fc.lo _,λX=>h.fc.hi _⟩
theorem fl_cl {b t:Int}{x y:Int}(hb:0<b)(ht:0<=t)(h:x<=y):flI x b t<=clI y b t:=by
  have h1:flI x b t<=flI y b t:=Int.ediv_le_ediv hb (Int.mul_le_mul_of_nonneg_right h ht)
  have h2:flI y b t<=clI y b t:=by unfold flI clI;split <;>omega
  omega
theorem fl_le {x z T:Int}(hT:0<T)(h:x<=T*z):flI x (T*T) T<=z:=by
  unfold flI
  have h1:x*T<=z*(T*T):=by
    have:=Int.mul_le_mul_of_nonneg_right h (Int.le_of_lt hT)
    rw[show T*z*T=z*(T*T)by grind]at this
    exact this
  have:=Int.ediv_le_ediv (Int.mul_pos hT hT) h1
  rwa [Int.mul_ediv_cancel _ (by have:=Int.mul_pos hT hT;omega)]at this
theorem fl_nn {x T:Int}(hT:0<T)(h:0<=x):0<=flI x (T*T) T:=Int.ediv_nonneg (Int.mul_nonneg h (Int.le_of_lt hT)) (Int.le_of_lt (Int.mul_pos hT hT))
theorem Fcs.rst (h:Fcs s pl v F C)(z:Int):0<=rst F C z (tenI pl)∧rst F C z (tenI pl)<=3*10^10:=by
  have T:=t12 h.p5
  have b1:=h.fc.bd (K:=-3*z)
  have b2:=h.fc.bd (K:=3*z)
  unfold Go.Proofs.YtmehbpjpbbhohaaGreatDoor.rst
  have:=Int.mul_nonneg (show 0<=C (-3*z)+tenI pl-F (3*z)by omega) (Int.le_of_lt T.2)
  have:=mul_bd (a:=C (-3*z)+tenI pl-F (3*z)) (b:=tenI pl) (p:=3*10^5) (q:=10^5) om om
  omega
end
section
variable {s:Sd}{T X Y:Int}{E:Nat->Int}{L H:Int}{n pl:Nat}
theorem Sd.Ok.hb (h:s.Ok T):(0<=s.tcH X Y∧s.tcH X Y<=T*T)∧0<=s.tpH T X Y∧s.tpH T X Y<=T*T:=by
  have a:=h.mm (X:=X) (Y:=Y)
  have b:=h.b (X:=X) (Y:=Y)
  have t0:0<=T:=by omega
  have tt:=Int.mul_nonneg t0 t0
  unfold Sd.tcH Sd.tpH
  constructor
  · split
    · exact⟨Int.mul_nonneg om om,Int.mul_le_mul a.2.2 b.2.2 om t0⟩
    · exact⟨Int.le_refl _,tt⟩
  · split
    · exact⟨Int.mul_nonneg om om,Int.mul_le_mul a.2.2 om om t0⟩
    · exact⟨Int.le_refl _,tt⟩
theorem Sd.Ok.conB (h:s.Ok T):s.conH E L H n<=n*(2*(T*T))∧s.proH T E L H n<=n*(2*(T*T)):=by
  refine⟨(sumI_bd λi _=>?_).2,(sumI_bd λi _=>?_).2⟩
  · have:=(h.hb (X:=E i) (Y:=min (E (i+1)) L)).1
    have:=(h.hb (X:=max (E i) H) (Y:=E (i+1))).1
    omega
  · have:=(h.hb (X:=max (E i) L) (Y:=min (E (i+1)) H)).2
    omega
theorem fc_q9 {x:Int}(p5:pl<=5)(h:0<=x∧x<=10^13):Q9 (flI x (tenI pl*tenI pl) (tenI pl)) (tenI pl)∧Q9 (clI x (tenI pl*tenI pl) (tenI pl)) (tenI pl):=by
  have T:=t12 p5
  have TT:=Int.mul_pos T.2 T.2
  have h1:=mul_bd (a:=x) (b:=tenI pl) (p:=10^13) (q:=10^5) om om
  have h0:=Int.mul_nonneg h.1 (Int.le_of_lt T.2)
  have h2:0<=flI x (tenI pl*tenI pl) (tenI pl):=Int.ediv_nonneg h0 (Int.le_of_lt TT)
  have h3:flI x (tenI pl*tenI pl) (tenI pl)<=10^13*10^5:=Int.le_trans (Int.ediv_le_self _ h0) h1.2
  have h4:clI x (tenI pl*tenI pl) (tenI pl)=flI x (tenI pl*tenI pl) (tenI pl)∨clI x (tenI pl*tenI pl) (tenI pl)=flI x (tenI pl*tenI pl) (tenI pl)+1:=by
    unfold clI flI;split <;>simp
  have q:∀z:Int,0<=z->z<=10^19->Q9 z (tenI pl):=λz a b=>q9_cell (Nat.lt_of_le_of_lt (show z.natAbs<=10^19 by omega) dc) om
  exact⟨q _ h2 om,q _ om om⟩
end
theorem cmp_T1 {a b T:Int}(hT:0<T)(h:a<=b):cmpI (a*T) (b*T)<=0:=cmpI_nonpos.2 (Int.mul_le_mul_of_nonneg_right h (Int.le_of_lt hT))
end Go.Proofs.YtmehbpjpbbhohaaGreatDoor
