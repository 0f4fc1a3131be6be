/- Part of the proof of a statement about special functions. -/
import Derived.Test.YtgcfffdpcefifaaGreatDoorInt12ToRat1
set_option linter.all false
namespace Go.Proofs.YtgcfffdpcefifaaGreatDoor
variable {bad q ng:Bool}{xs X Y:List Nat}{d l:List UInt8}{lo i n a b g0 lo' m k base j n1 c1 lo1 n2 c2 lo2:Nat}{A A1 A2:Option Addr}{c:UInt8}{w:World}
set_option maxRecDepth 100000
open Go Go.Eng Go.RowKit Tryz
attribute [local irreducible] wpListIn Code.wpIn Oper.wpIn Exit.then Exit.inBlock Exit.noGoto
set_option maxHeartbeats 40000000
def kP (l:List R):List Value:=l.flatMap λa=>[S a.1,S a.2]
def uO (l:List R)(i:Nat):R:=l.getD i ([],[])
def o8:∀{l:List R} {i:Nat},i<l.length->(kP l)[i*2]?=some (S (uO l i).1)/\(kP l)[i*2+1]?=some (S (uO l i).2)
 |a::t,0,_=>by simp[kP,uO]
 | a::t,i+1,h=>by
   have ih:=o8 (l:=t) (i:=i) VJ
   rw[show(i+1)*2=i*2+2 by omega,show i*2+2+1=i*2+1+2 by omega]
   simpa[kP,uO]using ih
def CQ {l:List R}(h:Rw w lo A (kP l))(hi:i<l.length):∃b o,A=some ⟨b,o,none⟩/\∀j u,[S (uO l i).1,S (uO l i).2][j]?=some u->w.cell? ⟨b,o+i*2+j,none⟩=some u:=by
 obtain⟨h1,D⟩:=o8 hi
 obtain⟨b,o,hA,G⟩:=h.cells _ _ h1
 obtain⟨_,_,hA',E⟩:=h.cells _ _ D
 rw[hA]at hA';cases hA'
 refine⟨b,o,hA,λj u hu=>?_⟩
 match j,hu with
 |0,hu=>simp at hu;subst hu;simpa using G
 |1,hu=>simp at hu;subst hu;simpa[Nat.add_assoc]using E
def cC (bad:Bool)(l:List R):Bool:=bad||l.any λa=>!ew a
def we {l:List R}(hi:i<l.length):cC bad (l.take (i+1))=(cC bad (l.take i)|| !ew (uO l i)):=by
 have:l.take (i+1)=l.take i++[uO l i]:=by
  rw[List.take_succ_eq_append_getElem hi];simp[uO,hi]
 rw[this];simp[cC,Bool.or_assoc]
def Jj {l:List R}(hi:i<l.length)(h:cC bad (l.take i)=true):cC bad (l.take (i+1))=true:=by rw[we hi,h];rfl
def Jk {l:List R}(hi:i<l.length)(h:cC bad (l.take i)=false):cC bad (l.take (i+1))= !ew ((uO l i).1,(uO l i).2):=by rw[we hi,h];rfl
def gQ (h:isInt d=true):eC d [48]=aw (ao d) 0:=by unfold eC;rw[if_pos (by rw[h,g6];rfl),iN]
def fC {x y:Int}:aw x y<0↔x<y:=by
 unfold aw;split
 · simp[*]
 · split <;>simp[*]
def bw {x y:Int}:aw x y<=0↔x<=y:=by
 unfold aw;split
 · simp;omega
 · split <;>simp <;>omega
def kg {n:List UInt8}(h:isInt n=true):aN [48] n=some (aa (-ao n)):=by
 rw[lE (by rw[g6,h];rfl),iN]
 unfold aR
 have hf:fits (0-ao n)=true:=by
  have:=eL h
  unfold fits at *
  rw[decide_eq_true_eq]at *
  omega
 rw[if_pos hf,Int.zero_sub]
def kh {n:List UInt8}(h:isInt n=true):isInt (aa (-ao n))=true:=by
 refine bV ?_
 have:=eL h
 unfold fits at *
 rw[decide_eq_true_eq]at *
 omega
def nM {a b:Int}(h:fits b=true)(hl:a.natAbs<=b.natAbs):fits a=true:=by
 unfold fits at *
 rw[decide_eq_true_eq]at *
 exact Nat.lt_of_le_of_lt hl h
def mW (a:Int)(b:Nat)(hb:0<b)(hd:(b:Int)∣a):(a/(b:Int)).natAbs<=a.natAbs:=by
 obtain⟨c,rfl⟩:=hd
 rw[Int.mul_ediv_cancel_left _ U,Int.natAbs_mul]
 exact Nat.le_mul_of_pos_left _ (by simpa using hb)
def qt {n:List UInt8}(hn:isInt n=true)(hd:isInt d=true)(h0:ao d≠0):
 td false n d=some (aa (ao n/((Int.gcd (ao n) (ao d):Nat):Int)),aa (ao d/((Int.gcd (ao n) (ao d):Nat):Int))):=by
 have D:0<Int.gcd (ao n) (ao d):=Int.gcd_pos_of_ne_zero_right _ h0
 have H:((Int.gcd (ao n) (ao d):Nat):Int)∣ao d:=Int.gcd_dvd_right ..
 have W:((Int.gcd (ao n) (ao d):Nat):Int)∣ao n:=Int.gcd_dvd_left ..
 have E:fits ((Int.gcd (ao n) (ao d):Nat):Int)=true:=nM (eL hd) (by
  have:=Nat.le_of_dvd U (Int.natAbs_dvd_natAbs.2 H)
  simpa using this)
 have hG:bD n d=some (aa ((Int.gcd (ao n) (ao d):Nat):Int)):=by
  unfold bD;rw[if_pos (by rw[hn,hd];rfl)];unfold aR;rw[if_pos E]
 generalize hg:Int.gcd (ao n) (ao d)=g at *
 have O:=bV E
 have G:∀{x:List UInt8},isInt x=true->(g:Int)∣ao x->(cR x (aa (g:Int))).map (·.1)=some (aa (ao x/(g:Int))):=by
  intro x hx kk
  rw[lG (by rw[hx,O];rfl) (by rw[dI,ee];simpa using D),aG]
  unfold aR
  rw[if_pos (nM (eL hx) (mW _ _ D kk))]
  rfl
 unfold td
 rw[hG]
 simp only[dS,Bool.false_eq_true,if_false,rS,Option.getD_some]
 rw[G hn W,G hd H]
 rfl
def qw {n:List UInt8}(hn:isInt n=true)(hd:isInt d=true):g7 false n d=jq (ao n) (ao d):=by
 unfold jq
 by_cases h0:ao d=0
 · rw[if_pos h0,kO ((fw hd).1 h0)]
 · have D:¬d=[48]:=λe=>h0 ((fw hd).2 e)
   rw[if_neg h0]
   unfold cE bI
   by_cases hs:ao d<0
   · rw[fU Z D (by rw[gQ hd];exact fC.2 hs),kg hn,kg hd]
     simp only[dB,dS,Bool.false_or,Option.isNone_some,Bool.false_eq_true,if_false,rS,Option.getD_some]
     rw[qt (kh hn) (kh hd) (by rw[aG];omega),aG,aG,if_pos hs,if_pos hs]
     have:Int.gcd (-ao n) (-ao d)=Int.gcd (ao n) (ao d):=by rw[Int.gcd_neg,Int.neg_gcd]
     rw[this]
   · rw[fV Z D (by rw[gQ hd];exact λh=>hs (fC.1 h)),qt hn hd h0,if_neg hs,if_neg hs]
def iO (n d:List UInt8):g7 true n d=none:=kN Z
def uP (a b:R):cC false [a,b]= !(ew a&&ew b):=by simp[cC]
def jr {a:R}(h:ew a=true):isInt a.1=true:=by simp only[ew,Bool.and_eq_true]at h;exact h.1.1.1
def gh {a:R}(h:ew a=true):isInt a.2=true:=by simp only[ew,Bool.and_eq_true]at h;exact h.1.1.2
def gi (n:Int):(aR n).isNone= !fits n:=by unfold aR;cases fits n <;>rfl
def lI {n:Int}(h:fits n=true):rS (aR n)=aa n:=by unfold aR;rw[if_pos h];rfl
def te (okk:Bool)(n d:Int){on od:Option (List UInt8)}(hn:okk=true->on=aR n)(hd:okk=true->od=aR d):
 g7 (dB (dB (!okk) on) od) (dS (!okk) on) (dS (dB (!okk) on) od)=if okk then mU n d else none:=by
 cases okk with
 |false=>simp only[Bool.not_false,dB,Bool.true_or,iO];rfl
 | true=>
   rw[hn Z,hd Z]
   unfold mU
   simp only[Bool.not_true,dB,dS,Bool.false_or,Bool.false_eq_true,if_false,gi,if_true]
   cases h1:fits n with
   |false=>simp only[Bool.not_false,Bool.true_or,iO,Bool.false_and];rfl
   | true=>
     cases h2:fits d with
     |false=>simp only[Bool.not_false,Bool.or_true,iO,Bool.and_false];rfl
     | true=>
       simp only[Bool.not_true,Bool.or_false,Bool.false_eq_true,if_false,Bool.and_self,if_true]
       rw[lI h1,lI h2,qw (bV h1) (bV h2),aG,aG]
def zB (x1 x2 y1 y2:List UInt8):gg (g7 (dB (dB (cC false [(x1,x2),(y1,y2)]) (av x1 y2)) (av x2 y1)) (dS (cC false [(x1,x2),(y1,y2)]) (av x1 y2)) (dS (dB (cC false [(x1,x2),(y1,y2)]) (av x1 y2)) (av x2 y1)))=gg (CO (x1,x2) (y1,y2)):=by
 rw[uP,te (ew (x1,x2)&&ew (y1,y2)) (ao x1*ao y2) (ao x2*ao y1) (λh=>fA V2) (λh=>fA V3)]
 rfl
def qy (okk:Bool)(p q s d:Int){op oq od:Option (List UInt8)}{os:List UInt8->List UInt8->Option (List UInt8)}(hp:okk=true->op=aR p)(hq:okk=true->oq=aR q)(hd:okk=true->od=aR d)(hs:fits p=true->fits q=true->os (aa p) (aa q)=aR s):
 g7 (dB (dB (dB (dB (!okk) op) oq) (os (dS (!okk) op) (dS (dB (!okk) op) oq))) od) (dS (dB (dB (!okk) op) oq) (os (dS (!okk) op) (dS (dB (!okk) op) oq))) (dS (dB (dB (dB (!okk) op) oq) (os (dS (!okk) op) (dS (dB (!okk) op) oq))) od)
  =if okk then(if fits p&&fits q then mU s d else none)else none:=by
 cases okk with
 |false=>simp only[Bool.not_false,dB,Bool.true_or,iO];rfl
 | true=>
   rw[hp Z,hq Z,hd Z]
   cases h1:fits p with
   |false=>simp only[Bool.not_true,dB,Bool.false_or,gi,h1,Bool.not_false,Bool.true_or,iO,Bool.false_and];rfl
   | true=>
     cases h2:fits q with
     |false=>simp only[Bool.not_true,dB,Bool.false_or,gi,h1,h2,Bool.not_false,Bool.true_or,Bool.or_true,iO,Bool.and_false];rfl
     | true=>
       have E:dS (!true) (aR p)=aa p:=by rw[<-lI h1];rfl
       have D:dB (!true) (aR p)=false:=by unfold dB;rw[gi,h1];rfl
       have e3:dS false (aR q)=aa q:=by rw[<-lI h2];rfl
       have G:dB false (aR q)=false:=by unfold dB;rw[gi,h2];rfl
       rw[D,G,E,e3,hs h1 h2]
       have:=te true s d (on:=aR s) (od:=aR d) (λ_=>rfl) (λ_=>rfl)
       simpa using this
def zD (os:List UInt8->List UInt8->Option (List UInt8))(x1 x2 y1 y2:List UInt8)(b:Bool):Option R:=g7 (dB (dB (dB (dB b (av x1 y2)) (av y1 x2)) (os (dS b (av x1 y2)) (dS (dB b (av x1 y2)) (av y1 x2)))) (av x2 y2)) (dS (dB (dB b (av x1 y2)) (av y1 x2)) (os (dS b (av x1 y2)) (dS (dB b (av x1 y2)) (av y1 x2)))) (dS (dB (dB (dB b (av x1 y2)) (av y1 x2)) (os (dS b (av x1 y2)) (dS (dB b (av x1 y2)) (av y1 x2)))) (av x2 y2))
def zF (x1 x2 y1 y2:List UInt8):gg (zD pJ x1 x2 y1 y2 (cC false [(x1,x2),(y1,y2)]))=gg (pL (x1,x2) (y1,y2)):=
 qb1 gg ((qb1 (zD pJ x1 x2 y1 y2) (uP (x1,x2) (y1,y2))).trans
  (qy (ew (x1,x2)&&ew (y1,y2)) (ao x1*ao y2) (ao y1*ao x2) (ao x1*ao y2+ao y1*ao x2) (ao x2*ao y2) (λh=>fA V2) (λh=>fA V3) (λh=>fA (by rw[gh (gE h),gh (ge h)];rfl))
   (λh1 D=>by rw[nJ (by rw[bV h1,bV D];rfl),aG,aG])))
def zG (x1 x2 y1 y2:List UInt8):gg (zD aN x1 x2 y1 y2 (cC false [(x1,x2),(y1,y2)]))=gg (pM (x1,x2) (y1,y2)):=
 qb1 gg ((qb1 (zD aN x1 x2 y1 y2) (uP (x1,x2) (y1,y2))).trans
  (qy (ew (x1,x2)&&ew (y1,y2)) (ao x1*ao y2) (ao y1*ao x2) (ao x1*ao y2-ao y1*ao x2) (ao x2*ao y2) (λh=>fA V2) (λh=>fA V3) (λh=>fA (by rw[gh (gE h),gh (ge h)];rfl))
   (λh1 D=>by rw[lE (by rw[bV h1,bV D];rfl),aG,aG])))
def o9 (hB:ae w b 87 #[.bool bad])(ht:Tb w){c:Nat}{rs:List R}(hr:Rw w lo A (kP rs))(hn:rs.length=n)(hnb:n<=1000000)(hAb:∀ad,A=some ad->ad.block≠b):
 CL 144 #[pT b,.slice A n c] w (jv λv w'=>w.grownBy w' (some b)/\ae w' b 87 #[.bool (cC bad rs)]/\v=.tuple #[]):=by
 have G:=World.grownBy.refl w (some b);have As:=bt hB;have Ab:=λad e=>And.intro (hr.hi ad e) (hAb ad e);refine sJ func144 Z (I ?_);refine cM [(5,5),(8,24)] (λAq e W=>∃i:Nat,(n-i=Aq)/\(e 8=.int .i64 i)/\(w.grownBy W (some b))/\(i<=n)/\(True)/\(Tb W)/\(Rw W lo A (kP rs))/\(ae W b 87 #[.bool (cC bad (rs.take i))])) (n-0) ⟨0,rfl,rfl,G,(qa7 _),trivial,ht,hr,(by simpa[cC]using hB)⟩ ?_;rintro _ _ _ ⟨i,rfl,g,G,hi,Ad,ht,hr,hB⟩;have Ar:=World.grownBy.size G;by_cases hlt:i<n;obtain⟨bk,o,hA,Ap⟩:=CQ hr (i:=i) U;refine I ?_;refine ab (am (i:=i) (oo:=o+i*2) Ku dv Z hA g U Z ?_);refine ab (aX (cs:=[S (uO rs i).1,S (uO rs i).2]) (b:=bk) (o:=o+i*2) j8 Z dv Z Ap ?_);refine al bi (λ_ kk Am=>?_);have ht:=aa6 kk.2 ht;have hr:=Rw.ext kk.2 hr;have hB:=be kk.2 hB;have G:=jO G kk.2;refine SA Am (λ_ O D=>?_);have ht:=Tb.put O Am dc ht;have hr:=Rw.putU O (λad e=>by have:=Ab ad e;omega) hr;have hB:=pb O hB;have G:=gG G O U;have Aw:=dX O;refine I ?_;rcases qa4 (cC bad (rs.take i))with cf|cf;refine I ?_;refine SO hB (λ_ H Af=>?_);have ht:=Tb.put H hB dc ht;have hr:=Rw.putU H (λad e=>by have:=Ab ad e;omega) hr
 have D:=pb H D;have G:=uC G H;have ny:=dX H;refine I ?_;refine ab (bb (a:=(i:Int)) (b:=1) (c:=((i+1:Nat):Int)) g Z JT U ?_);refine I ?_;exact bQ ⟨i+1,rfl,rfl,G,U,Ad,ht,hr,(by first|(rw[Jj U VB];exact Af)|(rw[Jk U VB];exact Af))⟩;refine I ?_;refine cl pH (dN ((uO rs i).1) ((uO rs i).2) _ ht) ?_;rintro _ _ kd rfl;have ht:=aa6 kd.2 ht;have hr:=Rw.ext kd.2 hr;have⟨hB,D⟩:=iZ kd.2 hB D;have G:=jO G kd.2;refine I ?_;refine SO hB (λ_ E Ao=>?_);have ht:=Tb.put E hB dc ht;have hr:=Rw.putU E (λad e=>by have:=Ab ad e;omega) hr;have D:=pb E D;have G:=uC G E;have Av:=dX E;refine I ?_;refine ab (bb (a:=(i:Int)) (b:=1) (c:=((i+1:Nat):Int)) g Z JT U ?_);refine I ?_;exact bQ ⟨i+1,rfl,rfl,G,U,Ad,ht,hr,(by first|(rw[Jj U VB];exact Ao)|(rw[Jk U VB];exact Ao))⟩;refine I ?_;refine Gm (v:=.tuple #[]) (xc  rfl) ⟨G,(by rw[List.take_of_length_le U]at hB;exact hB),rfl⟩
def CR (x1 x2 y1 y2:List UInt8)(w:World)(ht:Tb w):
 CL 87 #[.agg #[S x1,S x2],.agg #[S y1,S y2]] w (aH w λv w'=>v=gg (CO (x1,x2) (y1,y2))):=by
 refine aC func87 Z (I ?_);refine bx (λ_ Aq E=>?_);have ht:=aa6 Aq.2 ht;have D:=Aq.2;refine bx (λB2 Ao G=>?_);have ht:=aa6 Ao.2 ht;have⟨E,D⟩:=bn Ao.2 E D;refine al bi (λAd Ap H=>?_);have ht:=aa6 Ap.2 ht;have⟨E,G,D⟩:=aP Ap.2 E G D;refine I ?_;refine bx (λB1 Av Af=>?_);have ht:=aa6 Av.2 ht;have⟨E,G,H,D⟩:=br Av.2 E G H D;refine I ?_;refine GJ (λ_ Am _ Ay=>?_);have ht:=aa6 Am ht;have⟨E,G,H,Af,D⟩:=dL Am E G H Af D;have E4:=bz Am;refine ab (bG (vs:=[pT Ad.heap.size,.slice (some ⟨B1.heap.size,0,none⟩) 2 2]) yo Z (o9 (rs:=[(x1,x2),(y1,y2)]) Af ht (aa3 Ay) Z U (λ_ e=>by cases e;simp;omega)) ?_);rintro _ _ ⟨W,Aw,rfl⟩;have ht:=Tb.gr W Af dc ht;have E:=aa2 W Va E;have G:=aa2 W Va G;have H:=aa2 W Va H;have D:=cK D W (bz D) (λg O=>by cases O;omega);have D2:=W.size;refine I ?_;refine ab (bG (vs:=[pT Ad.heap.size,S x1,S y2]) p9 Z (mu Aw ht x1 y2) ?_);rintro _ _ ⟨kd,Ar,rfl⟩;have ht:=Tb.gr kd Aw dc ht;have E:=aa2 kd Va E;have G:=aa2 kd Va G;have H:=aa2 kd Va H;have D:=cK D kd (bz D) (λg O=>by cases O;omega);have E1:=kd.size;refine I ?_
 refine ab (bG (vs:=[pT Ad.heap.size,S x2,S y1]) p9 Z (mu Ar ht x2 y1) ?_);rintro _ _ ⟨kk,ny,rfl⟩;have ht:=Tb.gr kk Ar dc ht;have E:=aa2 kk Va E;have G:=aa2 kk Va G;have H:=aa2 kk Va H;have D:=cK D kk (bz D) (λg O=>by cases O;omega);have E9:=kk.size;refine ab (bG (vs:=[pT Ad.heap.size,S (dS (cC false [(x1,x2),(y1,y2)]) (av x1 y2)),S (dS (dB (cC false [(x1,x2),(y1,y2)]) (av x1 y2)) (av x2 y1))]) qa Z (uN ny ht (dS (cC false [(x1,x2),(y1,y2)]) (av x1 y2)) (dS (dB (cC false [(x1,x2),(y1,y2)]) (av x1 y2)) (av x2 y1))) ?_);rintro _ _ ⟨Ab,⟨EW,As⟩,rfl⟩;have E:=aa2 Ab Va E;have G:=aa2 Ab Va G;have H:=aa2 Ab Va H;have D:=cK D Ab (bz D) (λg O=>by cases O;omega);have E7:=Ab.size;refine I ?_;refine SA H (λ_ D1 Ax=>?_);have⟨E,G,As,D,_⟩:=fL D1 E G As D;refine I ?_
 refine aK (v:=.tuple #[.agg #[S (rN (g7 (dB (dB (cC false [(x1,x2),(y1,y2)]) (av x1 y2)) (av x2 y1)) (dS (cC false [(x1,x2),(y1,y2)]) (av x1 y2)) (dS (dB (cC false [(x1,x2),(y1,y2)]) (av x1 y2)) (av x2 y1)))),S (rD (g7 (dB (dB (cC false [(x1,x2),(y1,y2)]) (av x1 y2)) (av x2 y1)) (dS (cC false [(x1,x2),(y1,y2)]) (av x1 y2)) (dS (dB (cC false [(x1,x2),(y1,y2)]) (av x1 y2)) (av x2 y1))))],.int .i64 (Ji (g7 (dB (dB (cC false [(x1,x2),(y1,y2)]) (av x1 y2)) (av x2 y1)) (dS (cC false [(x1,x2),(y1,y2)]) (av x1 y2)) (dS (dB (cC false [(x1,x2),(y1,y2)]) (av x1 y2)) (av x2 y1))))]) (cJ (r1:=.cell 4 23) (r2:=.tmp 5) Z ?_ ?_) D (zB x1 x2 y1 y2);refine ah (t:=4) (cs:=[S (rN (g7 (dB (dB (cC false [(x1,x2),(y1,y2)]) (av x1 y2)) (av x2 y1)) (dS (cC false [(x1,x2),(y1,y2)]) (av x1 y2)) (dS (dB (cC false [(x1,x2),(y1,y2)]) (av x1 y2)) (av x2 y1)))),S (rD (g7 (dB (dB (cC false [(x1,x2),(y1,y2)]) (av x1 y2)) (av x2 y1)) (dS (cC false [(x1,x2),(y1,y2)]) (av x1 y2)) (dS (dB (cC false [(x1,x2),(y1,y2)]) (av x1 y2)) (av x2 y1))))]) (b:=B2.heap.size) (o:=0) j8 Z dv ?_ ?_;exact Z;exact aa0 Ax (i:=0) Z;exact aE (t:=5) Ve _
def wg {os:List UInt8->List UInt8->Option (List UInt8)}(heg:Enters prog g0)(hop:∀a b,Me g0 a b (os a b))(x1 x2 y1 y2:List UInt8)(w:World)(ht:Tb w):
 CL 94 #[.func (.func g0) #[] #[],.agg #[S x1,S x2],.agg #[S y1,S y2]] w (aH w λv w'=>v=gg (zD os x1 x2 y1 y2 (cC false [(x1,x2),(y1,y2)]))):=by
 refine aC func94 Z (I ?_);refine bx (λAw B1 E=>?_);have ht:=aa6 B1.2 ht;have D:=B1.2;refine bx (λE7 B2 G=>?_);have ht:=aa6 B2.2 ht;have⟨E,D⟩:=bn B2.2 E D;refine al bi (λkd E1 H=>?_);have ht:=aa6 E1.2 ht;have⟨E,G,D⟩:=aP E1.2 E G D;refine I ?_;refine bx (λNE D1 ny=>?_);have ht:=aa6 D1.2 ht;have⟨E,G,H,D⟩:=br D1.2 E G H D;refine I ?_;refine GJ (λ_ Ay _ M9=>?_);have ht:=aa6 Ay ht;have⟨E,G,H,ny,D⟩:=dL Ay E G H ny D;have OZ:=bz Ay;refine ab (bG (vs:=[pT kd.heap.size,.slice (some ⟨NE.heap.size,0,none⟩) 2 2]) yo Z (o9 (rs:=[(x1,x2),(y1,y2)]) ny ht (aa3 M9) Z U (λ_ e=>by cases e;simp;omega)) ?_);rintro _ E4 ⟨Ap,O,rfl⟩;have ht:=Tb.gr Ap ny dc ht;have E:=aa2 Ap Va E;have G:=aa2 Ap Va G;have H:=aa2 Ap Va H;have D:=cK D Ap (bz D) (λg Ab=>by cases Ab;omega);have O7:=Ap.size;refine I ?_;have Ad:=ab1 E4
 refine Gp mj 15 (λ_ _=>True) (λ_=>trivial) (λ_ _ _ _ _=>trivial) [λv _=>v=pT kd.heap.size,λv _=>v=.func (.func g0) #[] #[],λv _=>v=pT kd.heap.size,λv _=>v=pT w.heap.size,λv _=>v=S x1,λv _=>v=.pointer (some ⟨Aw.heap.size,1,none⟩),λv _=>v=S y2,λv _=>v=S (dS (cC false [(x1,x2),(y1,y2)]) (av x1 y2)),λv _=>v=pT kd.heap.size,λv _=>v=pT Aw.heap.size,λv _=>v=S y1,λv _=>v=.pointer (some ⟨w.heap.size,1,none⟩),λv _=>v=S x2,λv _=>v=S (dS (dB (cC false [(x1,x2),(y1,y2)]) (av x1 y2)) (av y1 x2)),λv _=>v=S (dS (dB (dB (cC false [(x1,x2),(y1,y2)]) (av x1 y2)) (av y1 x2)) (os (dS (cC false [(x1,x2),(y1,y2)]) (av x1 y2)) (dS (dB (cC false [(x1,x2),(y1,y2)]) (av x1 y2)) (av y1 x2))))] ⟨λ_ _ _ _ h=>h,λ_ _ _ _ h=>h,λ_ _ _ _ h=>h,λ_ _ _ _ h=>h,λ_ _ _ _ h=>h,λ_ _ _ _ h=>h,λ_ _ _ _ h=>h,λ_ _ _ _ h=>h,λ_ _ _ _ h=>h,λ_ _ _ _ h=>h,λ_ _ _ _ h=>h,λ_ _ _ _ h=>h,λ_ _ _ _ h=>h,λ_ _ _ _ h=>h,λ_ _ _ _ h=>h,trivial⟩ q0 q0 q0 [7,13,14] q0 q0 q0 (λk W=>(a8 w W)/\(E4.heap.size<=W.heap.size)/\(Tb W)/\(ae W w.heap.size 23 #[S x1,S x2])/\(ae W Aw.heap.size 23 #[S y1,S y2])/\(ae W E7.heap.size 23 #[S [],S []])/\(ae W kd.heap.size 87 #[.bool (([cC false [(x1,x2),(y1,y2)],dB (cC false [(x1,x2),(y1,y2)]) (av x1 y2),dB (dB (cC false [(x1,x2),(y1,y2)]) (av x1 y2)) (av y1 x2),dB (dB (dB (cC false [(x1,x2),(y1,y2)]) (av x1 y2)) (av y1 x2)) (os (dS (cC false [(x1,x2),(y1,y2)]) (av x1 y2)) (dS (dB (cC false [(x1,x2),(y1,y2)]) (av x1 y2)) (av y1 x2)))]:List Bool).getD k false)])) ⟨(xt D Ad),(bz Ad),(aa6 Ad ht),(be Ad E),(be Ad G),(be Ad H),(be Ad O)⟩ ?_ ?_
 refine⟨λNG OQ OW M4 Oj _ NF Ol=>?_,?_⟩;obtain⟨NG,rfl⟩:=cz NF;obtain⟨D,kk,ht,E,G,H,O⟩:=M4;have OM:=bz D;refine I ?_;exact⟨rfl,_,(ai _ _ _ _ _).symm,trivial,rfl,⟨D,U,ht,E,G,H,O⟩⟩;refine⟨λNN O8 No NJ OY _ MV Ne=>?_,?_⟩;obtain⟨NN,rfl⟩:=cz MV;obtain⟨D,kk,ht,E,G,H,O⟩:=NJ;have Nz:=bz D;refine I ?_;exact⟨rfl,_,(ai _ _ _ _ _).symm,trivial,rfl,⟨D,U,ht,E,G,H,O⟩⟩;refine⟨λMI Nc OI NS OT _ ME Oh=>?_,?_⟩;obtain⟨MI,rfl⟩:=cz ME;obtain⟨D,kk,ht,E,G,H,O⟩:=NS;have Od:=bz D;refine I ?_;exact⟨rfl,_,(ai _ _ _ _ _).symm,trivial,rfl,⟨D,U,ht,E,G,H,O⟩⟩;refine⟨λM1 OK OG MN O9 _ EW OD=>?_,?_⟩;obtain⟨M1,rfl⟩:=cz EW;obtain⟨D,kk,ht,E,G,H,O⟩:=MN;have O6:=bz D;refine I ?_;exact⟨rfl,_,(ai _ _ _ _ _).symm,trivial,rfl,⟨D,U,ht,E,G,H,O⟩⟩;refine⟨λND Oc Nt MJ Ns _ Mz MM=>?_,?_⟩;obtain⟨ND,rfl⟩:=cz Mz;obtain⟨D,kk,ht,E,G,H,O⟩:=MJ;have Nw:=bz D;have OH:=ix (MM 3 20 Z Z);refine I ?_;exact⟨rfl,_,(ai _ _ _ _ _).symm,trivial,rfl,⟨D,U,ht,E,G,H,O⟩⟩;refine⟨λM7 Nm Nb N1 Na _ Ix O1=>?_,?_⟩;obtain⟨M7,rfl⟩:=cz Ix;obtain⟨D,kk,ht,E,G,H,O⟩:=N1;have NZ:=bz D;refine I ?_;exact⟨rfl,_,(ai _ _ _ _ _).symm,trivial,rfl,⟨D,U,ht,E,G,H,O⟩⟩
 refine⟨λM0 O5 OV MC Nl _ Kp NX=>?_,?_⟩;obtain⟨M0,rfl⟩:=cz Kp;obtain⟨D,kk,ht,E,G,H,O⟩:=MC;have Nj:=bz D;have O3:=ix (NX 5 22 Z Z);refine I ?_;exact⟨rfl,_,(ai _ _ _ _ _).symm,trivial,rfl,⟨D,U,ht,E,G,H,O⟩⟩;refine⟨λwr MQ arr M3 M2 _ NT Ax=>?_,?_⟩;obtain⟨wr,rfl⟩:=cz NT;obtain⟨D,kk,ht,E,G,H,O⟩:=M3;obtain rfl:=M2 0 Z;have O:ae MQ kd.heap.size 87 #[.bool (cC false [(x1,x2),(y1,y2)])]:=O;have OO:=bz D;have MS:=ix (Ax 2 19 Z Z);have N5:=ix (Ax 4 21 Z Z);have NM:=ix (Ax 6 23 Z Z);refine ab (bG (vs:=[pT kd.heap.size,S x1,S y2]) p9 (aA MS (aA N5 (aA NM Z))) (mu O ht x1 y2) ?_);rintro _ _ ⟨Af,M8,rfl⟩;have ht:=Tb.gr Af O dc ht;have E:=aa2 Af Va E;have G:=aa2 Af Va G;have H:=aa2 Af Va H;have D:=cK D Af (bz D) (λg Ab=>by cases Ab;omega);have O2:=Af.size;refine I ?_;exact⟨rfl,_,(ai _ _ _ _ _).symm,trivial,rfl,⟨D,U,ht,E,G,H,M8⟩⟩;refine⟨λNL Of O4 MZ O0 _ N3 Nu=>?_,?_⟩;obtain⟨NL,rfl⟩:=cz N3;obtain⟨D,kk,ht,E,G,H,O⟩:=MZ;have Nk:=bz D;refine I ?_;exact⟨rfl,_,(ai _ _ _ _ _).symm,trivial,rfl,⟨D,U,ht,E,G,H,O⟩⟩;refine⟨λMy Oa OX MU OA _ L2 Oi=>?_,?_⟩;obtain⟨My,rfl⟩:=cz L2
 obtain⟨D,kk,ht,E,G,H,O⟩:=MU;have Og:=bz D;refine I ?_;exact⟨rfl,_,(ai _ _ _ _ _).symm,trivial,rfl,⟨D,U,ht,E,G,H,O⟩⟩;refine⟨λN0 OR Nn NU Ng _ NA NH=>?_,?_⟩;obtain⟨N0,rfl⟩:=cz NA;obtain⟨D,kk,ht,E,G,H,O⟩:=NU;have Nh:=bz D;have Nr:=ix (NH 9 26 Z Z);refine I ?_;exact⟨rfl,_,(ai _ _ _ _ _).symm,trivial,rfl,⟨D,U,ht,E,G,H,O⟩⟩;refine⟨λMH Nq Nf MK NY _ N9 Np=>?_,?_⟩;obtain⟨MH,rfl⟩:=cz N9;obtain⟨D,kk,ht,E,G,H,O⟩:=MK;have OJ:=bz D;refine I ?_;exact⟨rfl,_,(ai _ _ _ _ _).symm,trivial,rfl,⟨D,U,ht,E,G,H,O⟩⟩;refine⟨λMP ask Ob N7 OS _ N6 MB=>?_,?_⟩;obtain⟨MP,rfl⟩:=cz N6;obtain⟨D,kk,ht,E,G,H,O⟩:=N7;have OE:=bz D;have Ny:=ix (MB 11 28 Z Z);refine I ?_;exact⟨rfl,_,(ai _ _ _ _ _).symm,trivial,rfl,⟨D,U,ht,E,G,H,O⟩⟩;refine⟨λMF MO Oe NK NR _ Jx Av=>?_,?_⟩;obtain⟨MF,rfl⟩:=cz Jx;obtain⟨D,kk,ht,E,G,H,O⟩:=NK;obtain rfl:=NR 1 Z;have O:ae MO kd.heap.size 87 #[.bool (dB (cC false [(x1,x2),(y1,y2)]) (av x1 y2))]:=O;have Nx:=bz D;have NQ:=ix (Av 8 25 Z Z);have NP:=ix (Av 10 27 Z Z);have MG:=ix (Av 12 29 Z Z);refine ab (bG (vs:=[pT kd.heap.size,S y1,S x2]) p9 (aA NQ (aA NP (aA MG Z))) (mu O ht y1 x2) ?_);rintro _ _ ⟨Aq,E9,rfl⟩
 have ht:=Tb.gr Aq O dc ht;have E:=aa2 Aq Va E;have G:=aa2 Aq Va G;have H:=aa2 Aq Va H;have D:=cK D Aq (bz D) (λg Ab=>by cases Ab;omega);have Nv:=Aq.size;refine I ?_;exact⟨rfl,_,(ai _ _ _ _ _).symm,trivial,rfl,⟨D,U,ht,E,G,H,E9⟩⟩;refine⟨λN8 K2 OF N4 MX _ MW As=>?_,?_⟩;obtain⟨N8,rfl⟩:=cz MW;obtain⟨D,kk,ht,E,G,H,O⟩:=N4;obtain rfl:=MX 2 Z;have O:ae K2 kd.heap.size 87 #[.bool (dB (dB (cC false [(x1,x2),(y1,y2)]) (av x1 y2)) (av y1 x2))]:=O;have Ni:=bz D;have NO:=ix (As 0 17 Z Z);have NW:=ix (As 1 18 Z Z);have MR:=ix (As 7 24 Z Z);have NC:=ix (As 13 30 Z Z);refine ab (bG (vs:=[pT kd.heap.size,.func (.func g0) #[] #[],S (dS (cC false [(x1,x2),(y1,y2)]) (av x1 y2)),S (dS (dB (cC false [(x1,x2),(y1,y2)]) (av x1 y2)) (av y1 x2))]) mQ (aA NO (aA NW (aA MR (aA NC Z)))) (mV (o:=os (dS (cC false [(x1,x2),(y1,y2)]) (av x1 y2)) (dS (dB (cC false [(x1,x2),(y1,y2)]) (av x1 y2)) (av y1 x2))) O ht heg (hop _ _)) ?_);rintro _ _ ⟨Am,NI,rfl⟩;have ht:=Tb.gr Am O dc ht;have E:=aa2 Am Va E;have G:=aa2 Am Va G;have H:=aa2 Am Va H;have D:=cK D Am (bz D) (λg Ab=>by cases Ab;omega);have ON:=Am.size;refine I ?_
 exact⟨rfl,_,(ai _ _ _ _ _).symm,trivial,rfl,⟨D,U,ht,E,G,H,NI⟩⟩;exact trivial;intro NV MA M5 _ M6 MD;obtain⟨NV,rfl⟩:=cz M6;obtain⟨D,kk,ht,E,G,H,O⟩:=M5;have O:ae MA kd.heap.size 87 #[.bool (dB (dB (dB (cC false [(x1,x2),(y1,y2)]) (av x1 y2)) (av y1 x2)) (os (dS (cC false [(x1,x2),(y1,y2)]) (av x1 y2)) (dS (dB (cC false [(x1,x2),(y1,y2)]) (av x1 y2)) (av y1 x2))))]:=O;have OL:=bz D;have OB:=ix (MD 14 31 Z Z);refine I ?_;refine ab (bG (vs:=[pT kd.heap.size,S x2,S y2]) p9 Z (mu O ht x2 y2) ?_);rintro _ _ ⟨Ao,MY,rfl⟩;have ht:=Tb.gr Ao O dc ht;have E:=aa2 Ao Va E;have G:=aa2 Ao Va G;have H:=aa2 Ao Va H;have D:=cK D Ao (bz D) (λg Ab=>by cases Ab;omega);have OP:=Ao.size
 refine ab (bG (vs:=[pT kd.heap.size,S (dS (dB (dB (cC false [(x1,x2),(y1,y2)]) (av x1 y2)) (av y1 x2)) (os (dS (cC false [(x1,x2),(y1,y2)]) (av x1 y2)) (dS (dB (cC false [(x1,x2),(y1,y2)]) (av x1 y2)) (av y1 x2)))),S (dS (dB (dB (dB (cC false [(x1,x2),(y1,y2)]) (av x1 y2)) (av y1 x2)) (os (dS (cC false [(x1,x2),(y1,y2)]) (av x1 y2)) (dS (dB (cC false [(x1,x2),(y1,y2)]) (av x1 y2)) (av y1 x2)))) (av x2 y2))]) qa Z (uN MY ht (dS (dB (dB (cC false [(x1,x2),(y1,y2)]) (av x1 y2)) (av y1 x2)) (os (dS (cC false [(x1,x2),(y1,y2)]) (av x1 y2)) (dS (dB (cC false [(x1,x2),(y1,y2)]) (av x1 y2)) (av y1 x2)))) (dS (dB (dB (dB (cC false [(x1,x2),(y1,y2)]) (av x1 y2)) (av y1 x2)) (os (dS (cC false [(x1,x2),(y1,y2)]) (av x1 y2)) (dS (dB (cC false [(x1,x2),(y1,y2)]) (av x1 y2)) (av y1 x2)))) (av x2 y2))) ?_);rintro _ _ ⟨Ar,⟨OC,D2⟩,rfl⟩;have E:=aa2 Ar Va E;have G:=aa2 Ar Va G;have H:=aa2 Ar Va H;have D:=cK D Ar (bz D) (λg Ab=>by cases Ab;omega);have OU:=Ar.size;refine I ?_;refine SA H (λ_ ML NB=>?_);have⟨E,G,D2,D,_⟩:=fL ML E G D2 D;refine I ?_
 refine aK (v:=.tuple #[.agg #[S (rN (g7 (dB (dB (dB (dB (cC false [(x1,x2),(y1,y2)]) (av x1 y2)) (av y1 x2)) (os (dS (cC false [(x1,x2),(y1,y2)]) (av x1 y2)) (dS (dB (cC false [(x1,x2),(y1,y2)]) (av x1 y2)) (av y1 x2)))) (av x2 y2)) (dS (dB (dB (cC false [(x1,x2),(y1,y2)]) (av x1 y2)) (av y1 x2)) (os (dS (cC false [(x1,x2),(y1,y2)]) (av x1 y2)) (dS (dB (cC false [(x1,x2),(y1,y2)]) (av x1 y2)) (av y1 x2)))) (dS (dB (dB (dB (cC false [(x1,x2),(y1,y2)]) (av x1 y2)) (av y1 x2)) (os (dS (cC false [(x1,x2),(y1,y2)]) (av x1 y2)) (dS (dB (cC false [(x1,x2),(y1,y2)]) (av x1 y2)) (av y1 x2)))) (av x2 y2)))),S (rD (g7 (dB (dB (dB (dB (cC false [(x1,x2),(y1,y2)]) (av x1 y2)) (av y1 x2)) (os (dS (cC false [(x1,x2),(y1,y2)]) (av x1 y2)) (dS (dB (cC false [(x1,x2),(y1,y2)]) (av x1 y2)) (av y1 x2)))) (av x2 y2)) (dS (dB (dB (cC false [(x1,x2),(y1,y2)]) (av x1 y2)) (av y1 x2)) (os (dS (cC false [(x1,x2),(y1,y2)]) (av x1 y2)) (dS (dB (cC false [(x1,x2),(y1,y2)]) (av x1 y2)) (av y1 x2)))) (dS (dB (dB (dB (cC false [(x1,x2),(y1,y2)]) (av x1 y2)) (av y1 x2)) (os (dS (cC false [(x1,x2),(y1,y2)]) (av x1 y2)) (dS (dB (cC false [(x1,x2),(y1,y2)]) (av x1 y2)) (av y1 x2)))) (av x2 y2))))],.int .i64 (Ji (g7 (dB (dB (dB (dB (cC false [(x1,x2),(y1,y2)]) (av x1 y2)) (av y1 x2)) (os (dS (cC false [(x1,x2),(y1,y2)]) (av x1 y2)) (dS (dB (cC false [(x1,x2),(y1,y2)]) (av x1 y2)) (av y1 x2)))) (av x2 y2)) (dS (dB (dB (cC false [(x1,x2),(y1,y2)]) (av x1 y2)) (av y1 x2)) (os (dS (cC false [(x1,x2),(y1,y2)]) (av x1 y2)) (dS (dB (cC false [(x1,x2),(y1,y2)]) (av x1 y2)) (av y1 x2)))) (dS (dB (dB (dB (cC false [(x1,x2),(y1,y2)]) (av x1 y2)) (av y1 x2)) (os (dS (cC false [(x1,x2),(y1,y2)]) (av x1 y2)) (dS (dB (cC false [(x1,x2),(y1,y2)]) (av x1 y2)) (av y1 x2)))) (av x2 y2))))]) (cJ (r1:=.cell 6 23) (r2:=.tmp 7) Z ?_ ?_) D Z
 refine ah (t:=6) (cs:=[S (rN (g7 (dB (dB (dB (dB (cC false [(x1,x2),(y1,y2)]) (av x1 y2)) (av y1 x2)) (os (dS (cC false [(x1,x2),(y1,y2)]) (av x1 y2)) (dS (dB (cC false [(x1,x2),(y1,y2)]) (av x1 y2)) (av y1 x2)))) (av x2 y2)) (dS (dB (dB (cC false [(x1,x2),(y1,y2)]) (av x1 y2)) (av y1 x2)) (os (dS (cC false [(x1,x2),(y1,y2)]) (av x1 y2)) (dS (dB (cC false [(x1,x2),(y1,y2)]) (av x1 y2)) (av y1 x2)))) (dS (dB (dB (dB (cC false [(x1,x2),(y1,y2)]) (av x1 y2)) (av y1 x2)) (os (dS (cC false [(x1,x2),(y1,y2)]) (av x1 y2)) (dS (dB (cC false [(x1,x2),(y1,y2)]) (av x1 y2)) (av y1 x2)))) (av x2 y2)))),S (rD (g7 (dB (dB (dB (dB (cC false [(x1,x2),(y1,y2)]) (av x1 y2)) (av y1 x2)) (os (dS (cC false [(x1,x2),(y1,y2)]) (av x1 y2)) (dS (dB (cC false [(x1,x2),(y1,y2)]) (av x1 y2)) (av y1 x2)))) (av x2 y2)) (dS (dB (dB (cC false [(x1,x2),(y1,y2)]) (av x1 y2)) (av y1 x2)) (os (dS (cC false [(x1,x2),(y1,y2)]) (av x1 y2)) (dS (dB (cC false [(x1,x2),(y1,y2)]) (av x1 y2)) (av y1 x2)))) (dS (dB (dB (dB (cC false [(x1,x2),(y1,y2)]) (av x1 y2)) (av y1 x2)) (os (dS (cC false [(x1,x2),(y1,y2)]) (av x1 y2)) (dS (dB (cC false [(x1,x2),(y1,y2)]) (av x1 y2)) (av y1 x2)))) (av x2 y2))))]) (b:=E7.heap.size) (o:=0) j8 Z dv ?_ ?_;exact Z;exact aa0 NB (i:=0) Z;exact aE (t:=7) Ve _
def CS (x1 x2 y1 y2:List UInt8)(w:World)(ht:Tb w):CL 94 #[.func (.func 63) #[] #[],.agg #[S x1,S x2],.agg #[S y1,S y2]] w (aH w λv w'=>v=gg (pL (x1,x2) (y1,y2))):=zF x1 x2 y1 y2▸wg yn (λa b W hW=>rC a b W hW) x1 x2 y1 y2 w ht
def CU (x1 x2 y1 y2:List UInt8)(w:World)(ht:Tb w):CL 94 #[.func (.func 61) #[] #[],.agg #[S x1,S x2],.agg #[S y1,S y2]] w (aH w λv w'=>v=gg (pM (x1,x2) (y1,y2))):=zG x1 x2 y1 y2▸wg vA (λa b W hW=>nK a b W hW) x1 x2 y1 y2 w ht
def CV (x1 x2 y1 y2:List UInt8)(w:World)(ht:Tb w):
 CL 88 #[.agg #[S x1,S x2],.agg #[S y1,S y2]] w (aH w λv w'=>v=gg (pL (x1,x2) (y1,y2))):=by
 refine aC func88 Z (I ?_);refine bx (λ_ O E=>?_);have ht:=aa6 O.2 ht;have D:=O.2;refine bx (λg W G=>?_);have ht:=aa6 W.2 ht;have⟨E,D⟩:=bn W.2 E D;refine al bi (λ_ kk H=>?_);have ht:=aa6 kk.2 ht;have⟨E,G,D⟩:=aP kk.2 E G D;refine I ?_;refine cl Ey (CS x1 x2 y1 y2 _ ht) ?_;rintro _ _ Ab rfl;have⟨E,G,H,D⟩:=br Ab.2 E G H D;refine I ?_;refine SA H (λ_ kd Ad=>?_);have⟨E,G,D,_⟩:=fq kd E G D;refine I ?_;refine aK (v:=.tuple #[.agg #[S (rN (pL (x1,x2) (y1,y2))),S (rD (pL (x1,x2) (y1,y2)))],.int .i64 (Ji (pL (x1,x2) (y1,y2)))]) (cJ (r1:=.cell 4 23) (r2:=.tmp 5) Z ?_ ?_) D Z;refine ah (t:=4) (cs:=[S (rN (pL (x1,x2) (y1,y2))),S (rD (pL (x1,x2) (y1,y2)))]) (b:=g.heap.size) (o:=0) j8 Z dv ?_ ?_;exact Z;exact aa0 Ad (i:=0) Z;exact aE (t:=5) Ve _
def CW (x1 x2 y1 y2:List UInt8)(w:World)(ht:Tb w):
 CL 50 #[.agg #[S x1,S x2],.agg #[S y1,S y2]] w (aH w λv w'=>v=gg (pM (x1,x2) (y1,y2))):=by
 refine aC func50 Z (I ?_);refine bx (λ_ O E=>?_);have ht:=aa6 O.2 ht;have D:=O.2;refine bx (λg W G=>?_);have ht:=aa6 W.2 ht;have⟨E,D⟩:=bn W.2 E D;refine al bi (λ_ kk H=>?_);have ht:=aa6 kk.2 ht;have⟨E,G,D⟩:=aP kk.2 E G D;refine I ?_;refine cl Ey (CU x1 x2 y1 y2 _ ht) ?_;rintro _ _ Ab rfl;have⟨E,G,H,D⟩:=br Ab.2 E G H D;refine I ?_;refine SA H (λ_ kd Ad=>?_);have⟨E,G,D,_⟩:=fq kd E G D;refine I ?_;refine aK (v:=.tuple #[.agg #[S (rN (pM (x1,x2) (y1,y2))),S (rD (pM (x1,x2) (y1,y2)))],.int .i64 (Ji (pM (x1,x2) (y1,y2)))]) (cJ (r1:=.cell 4 23) (r2:=.tmp 5) Z ?_ ?_) D Z;refine ah (t:=4) (cs:=[S (rN (pM (x1,x2) (y1,y2))),S (rD (pM (x1,x2) (y1,y2)))]) (b:=g.heap.size) (o:=0) j8 Z dv ?_ ?_;exact Z;exact aa0 Ad (i:=0) Z;exact aE (t:=5) Ve _
def jj {a:R}(h:ew a=true):0<ao a.2:=by
 have D:=gh h
 simp only[ew,Bool.and_eq_true,Bool.not_eq_true',decide_eq_false_iff_not]at h
 have:=h.1.2
 rw[gQ D,bw]at this
 omega
def ag {p:Prop}(h:p:=by assumption):p:=h
def Mk :(((c.toNat:Nat):Int)=45)↔c=45:=by
 constructor
 · intro h;exact UInt8.toNat_inj.1 (by have:(45:UInt8).toNat=45:=rfl;omega)
 · intro h;subst h;rfl
def Ml :(((c.toNat:Nat):Int)=48)↔c=48:=by
 constructor
 · intro h;exact UInt8.toNat_inj.1 (by have:(48:UInt8).toNat=48:=rfl;omega)
 · intro h;subst h;rfl
def tg (hc:l[0]?=some c)(h:((c.toNat:Nat):Int)=45):neg l=true/\body l=l.drop 1:=by
 rw[Mk]at h;subst h
 cases l with
 |nil=>simp at hc
 |cons a t=>simp at hc;subst hc;exact⟨rfl,rfl⟩
def wh (hc:l[0]?=some c)(h:¬((c.toNat:Nat):Int)=45):neg l=false/\body l=l:=by
 have D:l.head?≠some 45:=by rw[List.head?_eq_getElem?,hc];intro e;cases e;exact h Z
 exact⟨zn D,lw D⟩
def zH (h:¬(0:Int)<((l.length:Nat):Int)):neg l=false/\body l=l:=by
 have:l=[]:=List.length_eq_zero_iff.1 U
 subst this;exact⟨rfl,rfl⟩
section
variable {D:List UInt8}
def xX (hb:neg l=true/\body l=D)(h:D=[48]):Value.bool false=.bool (isInt l):=by
 unfold isInt;rw[hb.1,hb.2,h];rfl
def xY (hb:neg l=q/\body l=D)(h:¬(0:Int)<((D.length:Nat):Int)):Value.bool false=.bool (isInt l):=by
 have:D=[]:=List.length_eq_zero_iff.1 U
 unfold isInt dh;rw[hb.2,this];rfl
def xZ (hb:neg l=q/\body l=D)(h:¬((D.length:Nat):Int)<=200):Value.bool false=.bool (isInt l):=by
 have:¬D.length<=200:=J
 unfold isInt dh;rw[hb.2];simp[this]
def nN (hb:neg l=q/\body l=D)(hc:D[i]?=some c)(h:bP c=false):Value.bool false=.bool (isInt l):=by
 have:D.all bP=false:=by
  rw[List.all_eq_false]
  exact⟨c,List.mem_iff_getElem?.2 ⟨i,hc⟩,by simp[h]⟩
 unfold isInt dh;rw[hb.2,this];simp
def dig_lo (h:((c.toNat:Nat):Int)<48):bP c=false:=by unfold bP;simp;omega
def dig_hi (h:(57:Int)<((c.toNat:Nat):Int)):bP c=false:=by unfold bP;simp;omega
def zI (h1:¬((c.toNat:Nat):Int)<48)(h2:¬(57:Int)<((c.toNat:Nat):Int)):bP c=true:=by unfold bP;simp;omega
def x3 (hb:neg l=false/\body l=D)(h:D=[48]):Value.bool true=.bool (isInt l):=by
 unfold isInt;rw[hb.1,hb.2,h];rfl
def x4 (hb:neg l=q/\body l=D)(ha:D.all bP=true)(h0:(0:Int)<((D.length:Nat):Int))(h1:((D.length:Nat):Int)<=200)(h:¬D=[48])(hc:D[0]?=some c):Value.bool (!decide (((c.toNat:Nat):Int)=48))=.bool (isInt l):=by
 have G:D.isEmpty=false:=by cases D <;>simp_all
 have E:D.length<=200:=J
 have e3:D.head?=some c:=by rw[List.head?_eq_getElem?];exact hc
 congr 1
 unfold isInt dh
 rw[hb.2]
 simp only[G,E,ha,h,e3,Ml,Bool.not_false,decide_true,decide_false,Bool.and_self,Bool.true_and,Bool.false_or,Bool.and_false,Bool.not_false,Bool.and_true,ne_eq,Option.some.injEq,decide_not]
def kD (ha:(D.take i).all bP=true)(hc:D[i]?=some c)(h:bP c=true):(D.take (i+1)).all bP=true:=by
 have hi:i<D.length:=(List.getElem?_eq_some_iff.1 hc).1
 have E:=(List.getElem?_eq_some_iff.1 hc).2
 rw[List.take_succ_eq_append_getElem hi,List.all_append,ha,E]
 simp[h]
end
structure Dg (w:World)(lo:Nat)(A:Option Addr)(n c a:Nat):Prop where
 row:Rw w lo A (ints (aj 10 a))
 len:(aj 10 a).length=n
 cap:n<=c
section
variable {w0 w':World}{c:Nat}
def Dg.ext (k:a8 w w')(h:Dg w lo A n c a):Dg w' lo A n c a:=⟨h.row.ext k,h.len,h.cap⟩
def aa9:=@Dg.ext
def Dg.gr {row:Option Nat}(k:w.grownBy w' row)(hne:∀ad,A=some ad->some ad.block≠row)(h:Dg w lo A n c a):Dg w' lo A n c a:=⟨h.row.gr k hne,h.len,h.cap⟩
def Dg.mono (hl:lo'<=lo)(h:Dg w lo A n c a):Dg w lo' A n c a:=⟨h.row.mono hl,h.len,h.cap⟩
def Dg.lt (h:Dg w lo A n c a):∀x∈aj 10 a,x<10:=cu 10 U a
def Dg.val (h:Dg w lo A n c a):bg 10 (aj 10 a)=a:=bU 10 U a
def Dg.zero (w:World)(lo:Nat):Dg w lo none 0 0 0:=⟨Rw.nil w lo,rfl,qa0 _⟩
def Dg.trim {l:List Nat}(hr:Rw w lo A (ints l))(hd:∀d∈l,d<10)(hv:bg 10 l=a)(ht:cV l=l.take m)(hm:m<=l.length)(hc:m<=c):Dg w lo A m c a:=by
 have h1:aj 10 a=l.take m:=by rw[<-ht,<-hv];exact(jL 10 U l hd).symm
 refine⟨?_,?_,hc⟩
 · rw[h1]
   have:=hr.take m
   simpa[ints,List.map_take]using this
 · rw[h1];simp;omega
end
def tj (hc:d[d.length-1-i]?=some c)(hi:i<d.length):dy (d.drop (d.length-i))++[c.toNat-48]=dy (d.drop (d.length-(i+1))):=by
 have E:d.length-(i+1)<d.length:=J
 have H:d.drop (d.length-(i+1))=c::d.drop (d.length-i):=by
  rw[List.drop_eq_getElem_cons E]
  have G:d[d.length-(i+1)]?=some c:=by rw[show d.length-(i+1)=d.length-1-i by omega];exact hc
  rw[List.getElem?_eq_getElem E]at G
  rw[Option.some.inj G,show d.length-(i+1)+1=d.length-i by omega]
 rw[H];simp[dy]
set_option maxRecDepth 100000 in
def aZ (l:List UInt8)(w:World)(hl:l.length<=1000000):
 CL 69 #[S l] w (aH w λv w'=>v=.bool (isInt l)):=by
 refine aC func69 Z (I ?_);by_cases cf:0<(((l).length:Nat):Int);refine I ?_;refine ab (bF (l:=l) U9 Z ?_);refine I ?_;have Ad:=cj (l:=l) (i:=0) U;refine ab (dZ (l:=l) (i:=0) (c:=(l.getD 0 0)) U9 Z Z Ad ?_);refine I ?_;by_cases lr:(((l.getD 0 0).toNat:Nat):Int)=45;have hb:=tg (cj U) lr;refine I ?_;refine ab (eF (l:=l) (i:=1) (j:=(l).length) U9 Z (.inr ⟨_,qb1 some Z⟩) (.inl ⟨rfl,rfl⟩) U U ?_);rw[show((l).take ((l).length)).drop 1=(l).drop 1 by rw[List.take_length]];refine I ?_;refine k0 (b:=[48]) (I ?_);by_cases lm:((l).drop 1)=([48]);refine I ?_;exact an (t:=2) (v:=.bool false) Z (aa4 _) zl Z;refine I ?_;have hlD:((l).drop 1).length<=1000000:=by first|omega|(simp;omega)
 have Aq:=aa4 w;refine cM [(2,3),(16,31)] (λkk e W=>∃i:Nat,(((l).drop 1).length-i=kk)/\(e 3=.int .i64 i)/\(i<=((l).drop 1).length)/\((((l).drop 1).take i).all bP=true)/\(a8 w W)) (((l).drop 1).length-0) ⟨0,rfl,rfl,(qa7 _),rfl,Aq⟩ ?_;rintro _ _ _ ⟨i,rfl,B1,hi,G,O⟩;have Ay:=bz O;by_cases hlt:i<((l).drop 1).length;refine I ?_;refine ab (eO (l:=(l).drop 1) (m:=((l).drop 1).length) U9 Z Z ?_);refine I ?_;by_cases cv:(((((l).drop 1).getD i 0).toNat:Nat):Int)<48;refine I ?_;have Ar:=cj (l:=(l).drop 1) (i:=(i)) U;refine ab (dZ (l:=(l).drop 1) (i:=(i)) (c:=(((l).drop 1).getD i 0)) U9 Z Z Ar ?_);refine I ?_;exact an (t:=2) (v:=.bool false) Z O zl Z;refine I ?_;have Am:=cj (l:=(l).drop 1) (i:=(i)) U;refine ab (dZ (l:=(l).drop 1) (i:=(i)) (c:=(((l).drop 1).getD i 0)) U9 Z Z Am ?_);refine I ?_;have ny:=cj (l:=(l).drop 1) (i:=(i)) U;refine ab (dZ (l:=(l).drop 1) (i:=(i)) (c:=(((l).drop 1).getD i 0)) U9 Z Z ny ?_)
 refine I ?_;by_cases ly:57<(((((l).drop 1).getD i 0).toNat:Nat):Int);refine I ?_;exact an (t:=2) (v:=.bool false) Z O zl Z;refine I ?_;refine ab (bb (a:=(i:Int)) (b:=1) (c:=((i+1:Nat):Int)) Z Z JT U ?_);refine I ?_;exact bQ ⟨i+1,rfl,rfl,U,(by first|exact kD G ag (zI ag ag)),O⟩;have E:((l).drop 1).all bP=true:=by rw[<-List.take_length (l:=(l).drop 1),show((l).drop 1).length=i by omega];exact G
 refine I ?_;refine ab (eO (l:=(l).drop 1) (m:=((l).drop 1).length) U9 Z Z ?_);refine I ?_;by_cases cr:0<((((l).drop 1).length:Nat):Int);by_cases cw:((((l).drop 1).length:Nat):Int)<=200;refine I ?_;refine ab (bF (l:=(l).drop 1) U9 Z ?_);refine I ?_;refine ab (bF (l:=(l).drop 1) U9 Z ?_);refine I ?_;refine k0 (b:=[48]) (I ?_);have od:=cj (l:=(l).drop 1) (i:=0) U;refine ab (dZ (l:=(l).drop 1) (i:=0) (c:=(((l).drop 1).getD 0 0)) U9 Z Z od ?_);refine I ?_;exact an (t:=2) (v:=.bool (!decide ((((((l).drop 1).getD 0 0).toNat:Nat):Int)=48))) Z O zl Z;refine I ?_;refine ab (bF (l:=(l).drop 1) U9 Z ?_);refine I ?_;refine ab (bF (l:=(l).drop 1) U9 Z ?_);refine I ?_
 exact an (t:=2) (v:=.bool false) Z O zl Z;refine I ?_;refine ab (bF (l:=(l).drop 1) U9 Z ?_);refine I ?_;exact an (t:=2) (v:=.bool false) Z O zl Z;have hb:=wh (cj U) lr;refine I ?_;have hlD:(l).length<=1000000:=by first|omega|(simp;omega)
 have g:=aa4 w;refine cM [(2,3),(16,31)] (λkk e W=>∃i:Nat,((l).length-i=kk)/\(e 3=.int .i64 i)/\(i<=(l).length)/\(((l).take i).all bP=true)/\(a8 w W)) ((l).length-0) ⟨0,rfl,rfl,(qa7 _),rfl,g⟩ ?_;rintro _ _ _ ⟨i,rfl,Aw,hi,G,H⟩;have As:=bz H;by_cases hlt:i<(l).length;refine I ?_;refine ab (eO (l:=l) (m:=(l).length) U9 Z Z ?_);refine I ?_;by_cases cx:(((l.getD i 0).toNat:Nat):Int)<48;refine I ?_;have Ao:=cj (l:=l) (i:=(i)) U;refine ab (dZ (l:=l) (i:=(i)) (c:=(l.getD i 0)) U9 Z Z Ao ?_);refine I ?_;exact an (t:=2) (v:=.bool false) Z H zl Z;refine I ?_;have Ap:=cj (l:=l) (i:=(i)) U;refine ab (dZ (l:=l) (i:=(i)) (c:=(l.getD i 0)) U9 Z Z Ap ?_);refine I ?_;have Af:=cj (l:=l) (i:=(i)) U;refine ab (dZ (l:=l) (i:=(i)) (c:=(l.getD i 0)) U9 Z Z Af ?_);refine I ?_;by_cases mq:57<(((l.getD i 0).toNat:Nat):Int);refine I ?_
 exact an (t:=2) (v:=.bool false) Z H zl Z;refine I ?_;refine ab (bb (a:=(i:Int)) (b:=1) (c:=((i+1:Nat):Int)) Z Z JT U ?_);refine I ?_;exact bQ ⟨i+1,rfl,rfl,U,(by first|exact kD G ag (zI ag ag)),H⟩;have E:(l).all bP=true:=by rw[<-List.take_length (l:=l),show(l).length=i by omega];exact G
 refine I ?_;refine ab (eO (l:=l) (m:=(l).length) U9 Z Z ?_);refine I ?_;by_cases cm:(((l).length:Nat):Int)<=200;by_cases cy:l=([48]);refine I ?_;refine ab (bF (l:=l) U9 Z ?_);refine I ?_;refine ab (bF (l:=l) U9 Z ?_);refine I ?_;refine k0 (b:=[48]) (I ?_);exact an (t:=2) (v:=.bool true) Z H zl Z;refine I ?_;refine ab (bF (l:=l) U9 Z ?_);refine I ?_;refine ab (bF (l:=l) U9 Z ?_);refine I ?_;refine k0 (b:=[48]) (I ?_);have Ab:=cj (l:=l) (i:=0) U;refine ab (dZ (l:=l) (i:=0) (c:=(l.getD 0 0)) U9 Z Z Ab ?_);refine I ?_;exact an (t:=2) (v:=.bool (!decide ((((l.getD 0 0).toNat:Nat):Int)=48))) Z H zl Z;refine I ?_
 refine ab (bF (l:=l) U9 Z ?_);refine I ?_;refine ab (bF (l:=l) U9 Z ?_);refine I ?_;exact an (t:=2) (v:=.bool false) Z H zl Z;have hb:=zH cf;refine I ?_;refine ab (bF (l:=l) U9 Z ?_);refine I ?_;have hlD:(l).length<=1000000:=by first|omega|(simp;omega)
 have wr:=aa4 w;refine cM [(2,3),(16,31)] (λkk e W=>∃i:Nat,((l).length-i=kk)/\(e 3=.int .i64 i)/\(i<=(l).length)/\(((l).take i).all bP=true)/\(a8 w W)) ((l).length-0) ⟨0,rfl,rfl,(qa7 _),rfl,wr⟩ ?_;rintro _ _ _ ⟨i,rfl,Ax,hi,G,kd⟩;have Av:=bz kd;by_cases hlt:i<(l).length;exact absurd hlt U;have E:(l).all bP=true:=by rw[<-List.take_length (l:=l),show(l).length=i by omega];exact G
 refine I ?_;refine ab (eO (l:=l) (m:=(l).length) U9 Z Z ?_);refine I ?_;refine ab (bF (l:=l) U9 Z ?_);refine I ?_;exact an (t:=2) (v:=.bool false) Z kd zl Z
def mw (h:isInt l=true):0<l.length/\l.length<=201:=by
 have h1:=gN (cN h)
 cases hn:neg l with
 |true=>have:=jT hn;rw[this];simp;omega
 |false=>rw[iM hn]at h1;omega
def pa (d:List UInt8):dy (d.drop (d.length-0))=[]:=by simp[dy]
def lJ (hd:dh d=true)(h:k=d.length/\¬d=[48]\/k=0/\d=[48]):dy (d.drop (d.length-k))=aj 10 (au d):=by
 rcases h with⟨rfl,h⟩|⟨rfl,rfl⟩
 · rw[Nat.sub_self,List.drop_zero];exact sU hd h
 · rfl
def rG (h:d.all bP=true)(hi:i<d.length):48<=(d.getD i 0).toNat/\(d.getD i 0).toNat<=57:=by
 have hc:=cj hi
 have:=List.all_eq_true.1 h _ (List.mem_iff_getElem?.2 ⟨i,hc⟩)
 simpa[bP]using this
def mx {v:Value}(h:w.ownsRow base 3 1 v n (ints xs))(hx:xs=aj 10 a):∃A c,v=.slice A n c/\Dg w base A n c a:=by
 subst hx
 obtain⟨A,c,rfl,hc,-⟩:=dt h
 refine⟨A,c,rfl,aa3 h,?_,hc⟩
 have:=h.1
 rw[cY]at this;omega
def Jl (l:List UInt8):List Value:=l.map λb=>Value.int .u8 b.toNat
def pc (hn:X.length=n)(hk:k<n):b9 (X.drop (n-(k+1)))=b9 (X.drop (n-k))++[UInt8.ofNat (48+X.getD (n-1-k) 0)]:=by
 have h1:X.drop (n-(k+1))=X.getD (n-(k+1)) 0::X.drop (n-(k+1)+1):=drop_at U
 rw[h1,show n-(k+1)+1=n-k by omega,show n-(k+1)=n-1-k by omega]
 simp[b9]
def qz {d:Nat}(h:d<10):(((UInt8.ofNat (48+d)).toNat:Nat):Int)=48+(d:Int):=by
 have e:(UInt8.ofNat (48+d)).toNat=48+d:=by rw[UInt8.toNat_ofNat'];omega
 rw[e];omega
def gR (h:∀x∈xs,x<10)(i:Nat):xs.getD i 0<10:=by
 rcases Nat.lt_or_ge i xs.length with hi|hi
 · have E:xs[i]? =some xs[i]:=qa5 hi
   rw[List.getD,E];exact h _ (List.getElem_mem hi)
 · rw[jf hi];omega
def nl (ng:Bool)(a:Nat):List UInt8:=if a=0 then[48]else if ng then 45::aY a else aY a
def pN (a:Nat):Bool:=decide (a=0)||decide ((aj 10 a).length<=200)
def zJ (h:a=0):Value.tuple #[S [48],.bool true]=.tuple #[S (nl ng a),.bool (pN a)]:=by subst h;rfl
def wi (h:0<a)(hn:(aj 10 a).length=n)(hl:l=(if ng then[45]else[])++b9 (aj 10 a)):Value.tuple #[S l,.bool (decide ((n:Int)<=200))]=.tuple #[S (nl ng a),.bool (pN a)]:=by
 have H:nl ng a=l:=by
  have E:¬a=0:=J
  unfold nl aY
  rw[if_neg E,if_neg E,hl]
  cases ng <;>rfl
 have G:pN a=decide ((n:Int)<=200):=by
  have E:¬a=0:=J
  unfold pN;rw[hn,decide_eq_false E,Bool.false_or,decide_eq_decide];omega
 rw[H,G]
def wj (B:Nat)(xs:List Nat)(h:j<xs.length):bg B xs=bg B (xs.take j)+B^j*(xs.getD j 0+B*bg B (xs.drop (j+1))):=by
 conv=>lhs;rw[<-List.take_append_drop j xs]
 rw[bH,List.length_take,Nat.min_eq_left U,drop_at h]
 rfl
def qA (hn:X.length=n)(hm:Y.length=n)(h:∀i,j<=i->i<n->X.getD i 0=Y.getD i 0):X.drop j=Y.drop j:=by
 apply List.ext_getElem?
 intro i
 rw[List.getElem?_drop,List.getElem?_drop]
 by_cases hi:j+i<n
 · have:=h (j+i) U hi
   rw[List.getD,List.getD,List.getElem?_eq_getElem U,List.getElem?_eq_getElem U]at this
   rw[List.getElem?_eq_getElem U,List.getElem?_eq_getElem U]
   exact qb1 some this
 · rw[List.getElem?_eq_none U,List.getElem?_eq_none U]
def zK (hX:∀d∈X,d<10)(hn:X.length=n)(hm:Y.length=n)(hj:j<n)(h:∀i,j+1<=i->i<n->X.getD i 0=Y.getD i 0)(hl:X.getD j 0<Y.getD j 0):bg 10 X<bg 10 Y:=by
 rw[wj 10 X (show j<X.length by omega),wj 10 Y (show j<Y.length by omega),qA (n:=n) (j:=j+1) hn hm h]
 have h1:bg 10 (X.take j)<10^j:=by
  have:=fK 10 (X.take j) (λd hd=>hX d (List.mem_of_mem_take hd))
  rwa [List.length_take,Nat.min_eq_left U]at this
 have E:10^j*(X.getD j 0+10*bg 10 (Y.drop (j+1))+1)<=10^j*(Y.getD j 0+10*bg 10 (Y.drop (j+1))):=Nat.mul_le_mul_left _ U
 rw[Nat.mul_add,Nat.mul_one]at E
 omega
section
def tl (h1:(aj 10 a).length=n1)(h2:(aj 10 b).length=n2)(h:n1<n2):a<b:=by
 rcases Nat.lt_or_ge a b with h3|h3
 · exact h3
 · have:=dx (B:=10) U h3;omega
def pd (h1:(aj 10 a).length=n1)(h2:(aj 10 b).length=n2)(h:n1<n2):(-1:Int)=aw (a:Int) (b:Int):=by
 rw[bZ];have:=tl h1 h2 h;omega
def pf (h1:(aj 10 a).length=n1)(h2:(aj 10 b).length=n2)(h:n2<n1):(1:Int)=aw (a:Int) (b:Int):=by
 rw[bM];have:=tl h2 h1 h;omega
def lK (h1:(aj 10 a).length=n1)(h2:(aj 10 b).length=n2)(hn:n1=n2)(hk:k<n1)(h:∀i,n1-k<=i->i<n1->(aj 10 a).getD i 0=(aj 10 b).getD i 0)(hl:(aj 10 a).getD (n1-1-k) 0<(aj 10 b).getD (n1-1-k) 0):(-1:Int)=aw (a:Int) (b:Int):=by
 subst hn
 have:=zK (cu 10 U a) h1 h2 (j:=n1-1-k) U (λi _=>h i U) hl
 rw[bU 10 U,bU 10 U]at this
 rw[bZ];omega
def lL (h1:(aj 10 a).length=n1)(h2:(aj 10 b).length=n2)(hn:n1=n2)(hk:k<n1)(h:∀i,n1-k<=i->i<n1->(aj 10 a).getD i 0=(aj 10 b).getD i 0)(hl:(aj 10 b).getD (n1-1-k) 0<(aj 10 a).getD (n1-1-k) 0):(1:Int)=aw (a:Int) (b:Int):=by
 subst hn
 have:=zK (cu 10 U b) h2 h1 (j:=n1-1-k) U (λi _ E=>(h i U E).symm) hl
 rw[bU 10 U,bU 10 U]at this
 rw[bM];omega
def pg (h1:(aj 10 a).length=n1)(h2:(aj 10 b).length=n2)(hn:n1=n2)(h:∀i,i<n1->(aj 10 a).getD i 0=(aj 10 b).getD i 0):(0:Int)=aw (a:Int) (b:Int):=by
 subst hn
 have e:=qA (j:=0) h1 h2 (λi _ hi=>h i hi)
 simp only[List.drop_zero]at e
 have:=qb1 (bg 10) e
 rw[bU 10 U,bU 10 U]at this
 rw[dW];omega
end
def cg (l:List UInt8)(w:World)(h:isInt l=true):
 CL 70 #[S l] w (aH w λv w'=>∃A n c,v=.tuple #[.bool (neg l),.slice A n c]/\Dg w' w.heap.size A n c (au (body l))):=by
 have hl:=mw h;have As:=cN h;refine aC func70 Z (I ?_);have Aw:=cj (l:=l) (i:=0) U;refine ab (dZ (l:=l) (i:=0) (c:=(l.getD 0 0)) U9 Z Z Aw ?_);refine I ?_;by_cases cw:(((l.getD 0 0).toNat:Nat):Int)=45;have hb:=tg (cj U) cw;have kd:neg l=true:=hb.1;have hD:dh ((l).drop 1)=true:=by rw[<-hb.2];exact As
 have hlD:=gN hD;have hdD:=fM hD;have hvD:au (body l)=au ((l).drop 1):=by rw[hb.2]
 refine I ?_;refine ab (eF (l:=l) (i:=1) (j:=(l).length) U9 Z (.inr ⟨_,qb1 some Z⟩) (.inl ⟨rfl,rfl⟩) U U ?_);rw[show((l).take ((l).length)).drop 1=(l).drop 1 by rw[List.take_length]];refine I ?_;refine ab (bF (l:=(l).drop 1) U9 Z ?_);refine oO (I ?_);have Af:World.ownsRow w w.heap.size 3 1 (.slice none 0 0) 0 (ints (dy (((l).drop 1).drop (((l).drop 1).length-0)))):=by rw[pa];exact ic
 have E9:=aa4 w;refine cM [(5,6),(16,31)] (λg e W=>∃k:Nat,∃G:Value,(((l).drop 1).length-k=g)/\(e 6=.int .i64 (((((l).drop 1).length:Nat):Int)-1-(k:Int)))/\(e 5=G)/\(k<=((l).drop 1).length)/\((l).drop 1=[48]->k=0)/\(a8 w W)/\(W.ownsRow w.heap.size 3 1 G k (ints (dy (((l).drop 1).drop (((l).drop 1).length-k)))))) (((l).drop 1).length-0) ⟨0,.slice none 0 0,rfl,(qb1 (Value.int .i64) U),rfl,(qa7 _),(λ_=>rfl),E9,Af⟩ ?_;rintro _ _ _ ⟨k,G,rfl,EW,Ay,hk,Am,H,ho⟩;have M3:=bz H;by_cases h48:(l).drop 1=[48];by_cases hlt:k<((l).drop 1).length;obtain⟨Ao,E,rfl,kk⟩:=mx ho (lJ hD Vy);refine I ?_;refine ab (oc (a:=(l).drop 1) (b:=[48]) (q:=false) Z Z (by rw[decide_eq_true h48];rfl) ?_);refine I ?_;exact aW (t:=2) (u:=3) (v1:=.bool (decide ((((l.getD 0 0).toNat:Nat):Int)=45))) (v2:=.slice Ao k E) Z H ⟨Ao,k,E,by rw[kd,decide_eq_true VB],by rw[hvD];exact kk⟩ Z Z;exfalso;have E1:=Am h48;have D2:((l).drop 1).length=1:=by rw[h48];rfl
 omega;by_cases hlt:k<((l).drop 1).length;have hlD1:=hlD.1;refine I ?_;refine ab (oc (a:=(l).drop 1) (b:=[48]) (q:=true) Z Z (by rw[decide_eq_false h48];rfl) ?_);refine I ?_;refine ab (cW (v:=G) Ay ?_);refine I ?_;have B2:=cj (l:=(l).drop 1) (i:=((l).drop 1).length-1-k) U;refine ab (dZ (l:=(l).drop 1) (i:=((l).drop 1).length-1-k) (c:=(((l).drop 1).getD (((l).drop 1).length-1-k) 0)) U9 Z (bR Z U) B2 ?_);refine ab (yJ (k:=.u8) (a:=(((((l).drop 1).getD (((l).drop 1).length-1-k) 0).toNat:Nat):Int)) (b:=48) (c:=(((((l).drop 1).getD (((l).drop 1).length-1-k) 0).toNat-48:Nat):Int)) Z Z (by have:=rG hdD (i:=((l).drop 1).length-1-k) U;rw[wrap_u8 U];omega) ?_);refine ab (gM (k:=.u8) (k':=.i64) (a:=(((((l).drop 1).getD (((l).drop 1).length-1-k) 0).toNat-48:Nat):Int)) (c:=(((((l).drop 1).getD (((l).drop 1).length-1-k) 0).toNat-48:Nat):Int)) U5 U3 Z (by have:=rG hdD (i:=((l).drop 1).length-1-k) U;rw[wrap_i64 U]) ?_);refine BS (λ_ Ab _ D1=>?_);have Ix:=bO ho;have ho:=aD Ab ho;have H:=xt H Ab;have K2:=bz Ab;refine AP ho (aa3 D1) (λAp _ E7 Aq _=>?_);have H:=de ho U U H Aq;have Jx:=Aq.size;refine ab (bJ (v:=Ap) Z ?_);refine I ?_
 refine ab (fg (a:=((((l).drop 1).length:Nat):Int)-1-(k:Int)) (b:=1) (c:=((((l).drop 1).length:Nat):Int)-1-((k+1:Nat):Int)) Z Z JT U ?_);refine I ?_;exact bQ ⟨k+1,Ap,rfl,rfl,rfl,U,(λh=>absurd h h48),H,(cL E7 Z (by rw[<-tj (cj U) U,jP];rfl))⟩;obtain⟨Ao,E,rfl,kk⟩:=mx ho (lJ hD Vy);refine I ?_;exact aW (t:=2) (u:=3) (v1:=.bool (decide ((((l.getD 0 0).toNat:Nat):Int)=45))) (v2:=.slice Ao k E) Z H ⟨Ao,k,E,by rw[kd,decide_eq_true VB],by rw[hvD];exact kk⟩ Z Z;have hb:=wh (cj U) cw;have kd:neg l=false:=hb.1;have hD:dh l=true:=by rw[<-hb.2];exact As
 have hlD:=gN hD;have hdD:=fM hD;have hvD:au (body l)=au (l):=by rw[hb.2]
 refine I ?_;refine ab (bF (l:=l) U9 Z ?_);refine oO (I ?_);have Af:World.ownsRow w w.heap.size 3 1 (.slice none 0 0) 0 (ints (dy ((l).drop ((l).length-0)))):=by rw[pa];exact ic
 have B1:=aa4 w;refine cM [(5,6),(16,31)] (λg e W=>∃k:Nat,∃G:Value,((l).length-k=g)/\(e 6=.int .i64 ((((l).length:Nat):Int)-1-(k:Int)))/\(e 5=G)/\(k<=(l).length)/\(l=[48]->k=0)/\(a8 w W)/\(W.ownsRow w.heap.size 3 1 G k (ints (dy ((l).drop ((l).length-k)))))) ((l).length-0) ⟨0,.slice none 0 0,rfl,(qb1 (Value.int .i64) U),rfl,(qa7 _),(λ_=>rfl),B1,Af⟩ ?_;rintro _ _ _ ⟨k,G,rfl,Kp,Ax,hk,Am,O,ho⟩;have L2:=bz O;by_cases h48:l=[48];by_cases hlt:k<(l).length;obtain⟨Ao,E,rfl,kk⟩:=mx ho (lJ hD VA);refine I ?_;refine ab (oc (a:=l) (b:=[48]) (q:=false) Z Z (by rw[decide_eq_true h48];rfl) ?_);refine I ?_;exact aW (t:=2) (u:=3) (v1:=.bool (decide ((((l.getD 0 0).toNat:Nat):Int)=45))) (v2:=.slice Ao k E) Z O ⟨Ao,k,E,by rw[kd,decide_eq_false VB],by rw[hvD];exact kk⟩ Z Z;exfalso;have E1:=Am h48;have D2:(l).length=1:=by rw[h48];rfl
 omega;by_cases hlt:k<(l).length;have hlD1:=hlD.1;refine I ?_;refine ab (oc (a:=l) (b:=[48]) (q:=true) Z Z (by rw[decide_eq_false h48];rfl) ?_);refine I ?_;refine ab (cW (v:=G) Ax ?_);refine I ?_;have E4:=cj (l:=l) (i:=(l).length-1-k) U;refine ab (dZ (l:=l) (i:=(l).length-1-k) (c:=(l.getD ((l).length-1-k) 0)) U9 Z (bR Z U) E4 ?_);refine ab (yJ (k:=.u8) (a:=(((l.getD ((l).length-1-k) 0).toNat:Nat):Int)) (b:=48) (c:=((((l).getD ((l).length-1-k) 0).toNat-48:Nat):Int)) Z Z (by have:=rG hdD (i:=(l).length-1-k) U;rw[wrap_u8 U];omega) ?_);refine ab (gM (k:=.u8) (k':=.i64) (a:=((((l).getD ((l).length-1-k) 0).toNat-48:Nat):Int)) (c:=((((l).getD ((l).length-1-k) 0).toNat-48:Nat):Int)) U5 U3 Z (by have:=rG hdD (i:=(l).length-1-k) U;rw[wrap_i64 U]) ?_);refine BS (λ_ Ad _ ny=>?_);have M1:=bO ho;have ho:=aD Ad ho;have O:=xt O Ad;have M0:=bz Ad;refine AP ho (aa3 ny) (λAv _ od Ar _=>?_);have O:=de ho U U O Ar;have M2:=Ar.size;refine ab (bJ (v:=Av) Z ?_);refine I ?_;refine ab (fg (a:=(((l).length:Nat):Int)-1-(k:Int)) (b:=1) (c:=(((l).length:Nat):Int)-1-((k+1:Nat):Int)) Z Z JT U ?_);refine I ?_
 exact bQ ⟨k+1,Av,rfl,rfl,rfl,U,(λh=>absurd h h48),O,(cL od Z (by rw[<-tj (cj U) U,jP];rfl))⟩;obtain⟨Ao,E,rfl,kk⟩:=mx ho (lJ hD VA);refine I ?_;exact aW (t:=2) (u:=3) (v1:=.bool (decide ((((l.getD 0 0).toNat:Nat):Int)=45))) (v2:=.slice Ao k E) Z O ⟨Ao,k,E,by rw[kd,decide_eq_false VB],by rw[hvD];exact kk⟩ Z Z
def iP (h1:Dg w lo1 A1 n1 c1 a)(s1:n1<=100000)(ng:Bool):
 CL 127 #[.bool ng,.slice A1 n1 c1] w (aH w λv w'=>v=.tuple #[S (nl ng a),.bool (pN a)]):=by
 have ME:=h1.len;refine aC func127 Z (I ?_);by_cases ly:(n1:Int)=0;have kk:a=0:=gI (B:=10) U (h1.len.trans U);refine I ?_;exact aW (t:=4) (u:=5) (v1:=S [48]) (v2:=.bool true) Z (aa4 _) (zJ kk) Z Z;have kk:0<a:=jS (B:=10) U VS;have O:World.ownsRow w w.heap.size 5 1 (.slice none 0 0) 0 (Jl []):=ic;refine I ?_;rcases qa4 ng with cr|cr;refine I ?_;refine BS (λ_ kd _ E7=>?_);have MD:=bO O;have O:=aD kd O;have Ab:=kd;have M8:=bz kd;refine AP O (aa3 E7) (λB1 _ Kp Av _=>?_);have Ab:=de O U U Ab Av;have MA:=Av.size;refine ab (bJ (v:=B1) Z ?_);refine I ?_;refine oO (I ?_);refine cM [(6,7),(18,30)] (λg e W=>∃k:Nat,∃E:Value,(n1-k=g)/\(e 7=.int .i64 ((n1:Int)-1-(k:Int)))/\(e 6=E)/\(k<=n1)/\(a8 w W)/\(W.ownsRow w.heap.size 5 1 E (k+1) (Jl ([45]++b9 ((aj 10 a).drop (n1-k)))))) (n1-0) ⟨0,B1,rfl,(qb1 (Value.int .i64) U),rfl,(qa7 _),Ab,(cL Kp Vk (by rw[Nat.sub_zero,List.drop_eq_nil_of_le U];rfl))⟩ ?_;rintro _ _ _ ⟨k,E,rfl,M6,Jx,hk,G,ho⟩;have MB:=bz G;by_cases hlt:k<n1;have K2:=gR h1.lt (n1-1-k);refine I ?_;refine ab (cW (v:=E) Jx ?_)
 refine I ?_;obtain⟨L2,Aq,Ix,E9⟩:=((h1.row).ext G).cells (n1-1-k) _ (aO (xs:=(aj 10 a)) U);refine ab (am (i:=n1-1-k) (oo:=Aq+(n1-1-k)) gq eN Z Ix (bR Z U) U Vh ?_);refine ab (aT (v:=.int .i64 (((aj 10 a).getD (n1-1-k) 0:Nat):Int)) (b:=L2) (o:=Aq+(n1-1-k)) U3 Z Z E9 ?_);refine xl ?_;refine ab (gM (k:=.i64) (k':=.u8) (a:=48+((((aj 10 a).getD (n1-1-k) 0):Nat):Int)) (c:=(((UInt8.ofNat (48+((aj 10 a).getD (n1-1-k) 0))).toNat:Nat):Int)) U3 U5 Z VO ?_);refine BS (λ_ Af _ wr=>?_);have M2:=bO ho;have ho:=aD Af ho;have G:=xt G Af;have M7:=bz Af;refine AP ho (aa3 wr) (λAs _ D1 Ay _=>?_);have G:=de ho U U G Ay;have M4:=Ay.size;refine ab (bJ (v:=As) Z ?_);refine I ?_;refine ab (fg (a:=(n1:Int)-1-(k:Int)) (b:=1) (c:=(n1:Int)-1-((k+1:Nat):Int)) Z Z JT U ?_);refine I ?_;exact bQ ⟨k+1,As,rfl,rfl,rfl,U,G,(cL D1 U (by rw[pc h1.len U];simp[Jl]))⟩;obtain⟨Ao,Am,rfl,M0,-⟩:=dt ho;have Ap:([45]++b9 ((aj 10 a).drop (n1-k)))=(if true=true then[45]else[])++b9 (aj 10 a):=by rw[show n1-k=0 by omega,List.drop_zero];rfl
 refine I ?_;refine ab (ED (l:=[45]++b9 ((aj 10 a).drop (n1-k))) (A:=Ao) (m:=(k+1)) (c:=Am) Is U5 U9 Z (aa3 ho) (by simp[b8];rw[h1.len];omega) ?_);refine I ?_;exact aW (t:=4) (u:=5) (v1:=S ([45]++b9 ((aj 10 a).drop (n1-k)))) (v2:=.bool (decide ((n1:Int)<=200))) Z G (wi (ng:=ng) kk h1.len (by rw[cr];exact Ap)) Z Z;refine I ?_;refine oO (I ?_);have E4:=aa4 w;refine cM [(6,7),(18,30)] (λg e W=>∃k:Nat,∃E:Value,(n1-k=g)/\(e 7=.int .i64 ((n1:Int)-1-(k:Int)))/\(e 6=E)/\(k<=n1)/\(a8 w W)/\(W.ownsRow w.heap.size 5 1 E (k+0) (Jl (b9 ((aj 10 a).drop (n1-k)))))) (n1-0) ⟨0,.slice none 0 0,rfl,(qb1 (Value.int .i64) U),rfl,(qa7 _),E4,(cL O Vk (by rw[Nat.sub_zero,List.drop_eq_nil_of_le U];rfl))⟩ ?_;rintro _ _ _ ⟨k,E,rfl,M5,ny,hk,H,ho⟩;have M1:=bz H;by_cases hlt:k<n1;have K2:=gR h1.lt (n1-1-k);refine I ?_;refine ab (cW (v:=E) ny ?_);refine I ?_;obtain⟨od,Ax,D2,EW⟩:=((h1.row).ext H).cells (n1-1-k) _ (aO (xs:=(aj 10 a)) U);refine ab (am (i:=n1-1-k) (oo:=Ax+(n1-1-k)) gq eN Z D2 (bR Z U) U Vh ?_);refine ab (aT (v:=.int .i64 (((aj 10 a).getD (n1-1-k) 0:Nat):Int)) (b:=od) (o:=Ax+(n1-1-k)) U3 Z Z EW ?_);refine xl ?_
 refine ab (gM (k:=.i64) (k':=.u8) (a:=48+((((aj 10 a).getD (n1-1-k) 0):Nat):Int)) (c:=(((UInt8.ofNat (48+((aj 10 a).getD (n1-1-k) 0))).toNat:Nat):Int)) U3 U5 Z VO ?_);refine BS (λ_ Ad _ B2=>?_);have MC:=bO ho;have ho:=aD Ad ho;have H:=xt H Ad;have M9:=bz Ad;refine AP ho (aa3 B2) (λAw _ E1 Ar _=>?_);have H:=de ho U U H Ar;have M3:=Ar.size;refine ab (bJ (v:=Aw) Z ?_);refine I ?_;refine ab (fg (a:=(n1:Int)-1-(k:Int)) (b:=1) (c:=(n1:Int)-1-((k+1:Nat):Int)) Z Z JT U ?_);refine I ?_;exact bQ ⟨k+1,Aw,rfl,rfl,rfl,U,H,(cL E1 U (by rw[pc h1.len U];simp[Jl]))⟩;obtain⟨Ao,Am,rfl,M0,-⟩:=dt ho;have Ap:(b9 ((aj 10 a).drop (n1-k)))=(if false=true then[45]else[])++b9 (aj 10 a):=by rw[show n1-k=0 by omega,List.drop_zero];rfl
 refine I ?_;refine ab (ED (l:=b9 ((aj 10 a).drop (n1-k))) (A:=Ao) (m:=(k+0)) (c:=Am) Is U5 U9 Z (aa3 ho) (by simp[b8];rw[h1.len];omega) ?_);refine I ?_;exact aW (t:=4) (u:=5) (v1:=S (b9 ((aj 10 a).drop (n1-k)))) (v2:=.bool (decide ((n1:Int)<=200))) Z H (wi (ng:=ng) kk h1.len (by rw[cr];exact Ap)) Z Z
def gS {c:Nat}(hr:Rw w lo A (ints xs))(hn:xs.length=n)(hc:n<=c)(hb:n<=1000000):
 CL 168 #[.slice A n c] w (aH w λv w'=>∃m,v=.slice A m c/\cV xs=xs.take m/\m<=n):=by
 refine aC func168 Z (I ?_);have kd:=aa4 w;refine cM [(0,0),(3,19)] (λAf e W=>∃m:Nat,(m=Af)/\(e 0=.slice A m c)/\(m<=n)/\(cV xs=cV (xs.take m))/\(a8 w W)) (n) ⟨n,rfl,rfl,(qa0 _),(by rw[List.take_of_length_le U]),kd⟩ ?_;rintro _ _ _ ⟨m,rfl,Ap,Aq,G,E⟩;have Ar:=bz E;by_cases hm:0<m;by_cases hz:xs.getD (m-1) 0=0;refine I ?_;refine oO (I ?_);obtain⟨g,H,Ad,kk⟩:=((hr).ext E).cells (m-1) _ (aO (xs:=xs) U);refine ab (am (i:=m-1) (oo:=H+(m-1)) gq eN Z Ad (bR Z U) U Vh ?_);refine I ?_;refine ab (aT (v:=.int .i64 ((xs.getD (m-1) 0:Nat):Int)) (b:=g) (o:=H+(m-1)) U3 Z Z kk ?_);refine I ?_;refine oO ?_;refine ab (Ej (j:=m-1) gq eN Z (bR Z U) U ?_);refine I ?_;exact bQ ⟨m-1,rfl,rfl,U,(G.trans (qj (n:=n) U hz)),E⟩;refine I ?_;refine oO (I ?_);obtain⟨Am,O,Ab,Ao⟩:=((hr).ext E).cells (m-1) _ (aO (xs:=xs) U);refine ab (am (i:=m-1) (oo:=O+(m-1)) gq eN Z Ab (bR Z U) U Vh ?_);refine I ?_;refine ab (aT (v:=.int .i64 ((xs.getD (m-1) 0:Nat):Int)) (b:=Am) (o:=O+(m-1)) U3 Z Z Ao ?_);refine I ?_
 exact an (t:=2) (v:=.slice A m c) Z E ⟨m,rfl,G.trans (kb (n:=n) U Vx),by omega⟩ Z;refine I ?_;exact an (t:=2) (v:=.slice A m c) Z E ⟨m,rfl,G.trans (kb (n:=n) U Vx),by omega⟩ Z
def eQ (h1:Dg w lo1 A1 n1 c1 a)(s1:n1<=100000)(h2:Dg w lo2 A2 n2 c2 b)(s2:n2<=100000):
 CL 71 #[.slice A1 n1 c1,.slice A2 n2 c2] w (aH w λv w'=>v=.int .i64 (aw (a:Int) (b:Int))):=by
 have MB:=h1.len;have M8:=h2.len;refine aC func71 Z (I ?_);by_cases p6:(n1:Int)=(n2:Int);have MC:n1=n2:=J
 refine I ?_;refine oO (I ?_);have M7:=aa4 w;refine cM [(4,5),(19,40)] (λEW e W=>∃k:Nat,(n1-k=EW)/\(e 5=.int .i64 ((n1:Int)-1-(k:Int)))/\(k<=n1)/\(∀i,n1-k<=i->i<n1->(aj 10 a).getD i 0=(aj 10 b).getD i 0)/\(a8 w W)) (n1-0) ⟨0,rfl,(qb1 (Value.int .i64) U),(qa7 _),(λi h1 h2=>by omega),M7⟩ ?_;rintro _ _ _ ⟨k,rfl,M9,MD,G,E⟩;have MA:=bz E;by_cases hlt:k<n1;by_cases he:(aj 10 a).getD (n1-1-k) 0=(aj 10 b).getD (n1-1-k) 0;have As:n1-1-k<n1:=J
 obtain⟨Jx,Ay,L2,Am⟩:=((h1.row).ext E).cells (n1-1-k) _ (aO (xs:=(aj 10 a)) U);obtain⟨M6,D1,K2,Ao⟩:=((h2.row).ext E).cells (n1-1-k) _ (aO (xs:=(aj 10 b)) U);refine I ?_;refine bB 8 ?_;refine sf ?_;refine bj (λ_ _ _ _=>by refine ab (am (i:=n1-1-k) (oo:=Ay+(n1-1-k)) gq eN Z L2 (bR Z U) U Vh ?_);refine I ?_;exact bY) ?_;refine bj (λ_ _ Ix _=>by have Am:=ab3 Ix Am;refine ab (aT (v:=.int .i64 (((aj 10 a).getD (n1-1-k) 0:Nat):Int)) (b:=Jx) (o:=Ay+(n1-1-k)) U3 Z Z Am ?_);refine I ?_;exact bY) ?_;refine sf ?_;refine bj (λ_ _ _ _=>by refine ab (am (i:=n1-1-k) (oo:=D1+(n1-1-k)) gq eN Z K2 (bR Z U) U Vh ?_);refine I ?_;exact bY) ?_;refine bj (λ_ _ E9 _=>by have Ao:=ab3 E9 Ao;refine ab (aT (v:=.int .i64 (((aj 10 b).getD (n1-1-k) 0:Nat):Int)) (b:=M6) (o:=D1+(n1-1-k)) U3 Z Z Ao ?_);refine I ?_;exact bY) ?_;refine sf ?_;intro _ _ Kp _;have E:=xt E Kp.2;refine I ?_;refine ab (fg (a:=(n1:Int)-1-(k:Int)) (b:=1) (c:=(n1:Int)-1-((k+1:Nat):Int)) Z Z JT U ?_);refine I ?_;exact bQ ⟨k+1,rfl,rfl,U,(λi hi h=>by by_cases hik:i=n1-1-k;subst hik;omega;exact G i U h),E⟩
 by_cases hl:(aj 10 a).getD (n1-1-k) 0<(aj 10 b).getD (n1-1-k) 0;have As:n1-1-k<n1:=J
 obtain⟨Aw,Ad,B1,O⟩:=((h1.row).ext E).cells (n1-1-k) _ (aO (xs:=(aj 10 a)) U);obtain⟨Aq,g,B2,kd⟩:=((h2.row).ext E).cells (n1-1-k) _ (aO (xs:=(aj 10 b)) U);refine I ?_;refine bB 8 ?_;refine sf ?_;refine bj (λ_ _ _ _=>by refine ab (am (i:=n1-1-k) (oo:=Ad+(n1-1-k)) gq eN Z B1 (bR Z U) U Vh ?_);refine I ?_;exact bY) ?_;refine bj (λ_ _ M2 _=>by have O:=ab3 M2 O;refine ab (aT (v:=.int .i64 (((aj 10 a).getD (n1-1-k) 0:Nat):Int)) (b:=Aw) (o:=Ad+(n1-1-k)) U3 Z Z O ?_);refine I ?_;exact bY) ?_;refine sf ?_;refine bj (λ_ _ _ _=>by refine ab (am (i:=n1-1-k) (oo:=g+(n1-1-k)) gq eN Z B2 (bR Z U) U Vh ?_);refine I ?_;exact bY) ?_;refine bj (λ_ _ M3 _=>by have kd:=ab3 M3 kd;refine ab (aT (v:=.int .i64 (((aj 10 b).getD (n1-1-k) 0:Nat):Int)) (b:=Aq) (o:=g+(n1-1-k)) U3 Z Z kd ?_);refine I ?_;exact bY) ?_;refine sf ?_;intro _ _ Ap _;have O:=ab3 Ap.2 O;have kd:=ab3 Ap.2 kd;have E:=xt E Ap.2;refine I ?_;refine bB 8 ?_;refine sf ?_;refine bj (λ_ _ _ _=>by refine ab (am (i:=n1-1-k) (oo:=Ad+(n1-1-k)) gq eN Z B1 (bR Z U) U Vh ?_);refine I ?_;exact bY) ?_
 refine bj (λ_ _ M0 _=>by have O:=ab3 M0 O;refine ab (aT (v:=.int .i64 (((aj 10 a).getD (n1-1-k) 0:Nat):Int)) (b:=Aw) (o:=Ad+(n1-1-k)) U3 Z Z O ?_);refine I ?_;exact bY) ?_;refine sf ?_;refine bj (λ_ _ _ _=>by refine ab (am (i:=n1-1-k) (oo:=g+(n1-1-k)) gq eN Z B2 (bR Z U) U Vh ?_);refine I ?_;exact bY) ?_;refine bj (λ_ _ E1 _=>by have kd:=ab3 E1 kd;refine ab (aT (v:=.int .i64 (((aj 10 b).getD (n1-1-k) 0:Nat):Int)) (b:=Aq) (o:=g+(n1-1-k)) U3 Z Z kd ?_);refine I ?_;exact bY) ?_;refine sf ?_;intro _ _ ny _;have E:=xt E ny.2;refine I ?_;exact an (t:=4) (v:=.int .i64 (-1)) Z E (qb1 (Value.int .i64) Vd) Z;have As:n1-1-k<n1:=J
 obtain⟨D2,Ab,Ar,H⟩:=((h1.row).ext E).cells (n1-1-k) _ (aO (xs:=(aj 10 a)) U);obtain⟨Ax,Af,Av,kk⟩:=((h2.row).ext E).cells (n1-1-k) _ (aO (xs:=(aj 10 b)) U);refine I ?_;refine bB 8 ?_;refine sf ?_;refine bj (λ_ _ _ _=>by refine ab (am (i:=n1-1-k) (oo:=Ab+(n1-1-k)) gq eN Z Ar (bR Z U) U Vh ?_);refine I ?_;exact bY) ?_;refine bj (λ_ _ M5 _=>by have H:=ab3 M5 H;refine ab (aT (v:=.int .i64 (((aj 10 a).getD (n1-1-k) 0:Nat):Int)) (b:=D2) (o:=Ab+(n1-1-k)) U3 Z Z H ?_);refine I ?_;exact bY) ?_;refine sf ?_;refine bj (λ_ _ _ _=>by refine ab (am (i:=n1-1-k) (oo:=Af+(n1-1-k)) gq eN Z Av (bR Z U) U Vh ?_);refine I ?_;exact bY) ?_;refine bj (λ_ _ E7 _=>by have kk:=ab3 E7 kk;refine ab (aT (v:=.int .i64 (((aj 10 b).getD (n1-1-k) 0:Nat):Int)) (b:=Ax) (o:=Af+(n1-1-k)) U3 Z Z kk ?_);refine I ?_;exact bY) ?_;refine sf ?_;intro _ _ od _;have H:=ab3 od.2 H;have kk:=ab3 od.2 kk;have E:=xt E od.2;refine I ?_;refine bB 8 ?_;refine sf ?_;refine bj (λ_ _ _ _=>by refine ab (am (i:=n1-1-k) (oo:=Ab+(n1-1-k)) gq eN Z Ar (bR Z U) U Vh ?_);refine I ?_;exact bY) ?_
 refine bj (λ_ _ E4 _=>by have H:=ab3 E4 H;refine ab (aT (v:=.int .i64 (((aj 10 a).getD (n1-1-k) 0:Nat):Int)) (b:=D2) (o:=Ab+(n1-1-k)) U3 Z Z H ?_);refine I ?_;exact bY) ?_;refine sf ?_;refine bj (λ_ _ _ _=>by refine ab (am (i:=n1-1-k) (oo:=Af+(n1-1-k)) gq eN Z Av (bR Z U) U Vh ?_);refine I ?_;exact bY) ?_;refine bj (λ_ _ M4 _=>by have kk:=ab3 M4 kk;refine ab (aT (v:=.int .i64 (((aj 10 b).getD (n1-1-k) 0:Nat):Int)) (b:=Ax) (o:=Af+(n1-1-k)) U3 Z Z kk ?_);refine I ?_;exact bY) ?_;refine sf ?_;intro _ _ M1 _;have E:=xt E M1.2;refine I ?_;exact an (t:=4) (v:=.int .i64 1) Z E (qb1 (Value.int .i64) Vd) Z;refine I ?_;exact an (t:=4) (v:=.int .i64 0) Z E (qb1 (Value.int .i64) Vd) Z;refine I ?_;by_cases apl:(n1:Int)<(n2:Int);refine I ?_
 exact an (t:=4) (v:=.int .i64 (-1)) Z (aa4 _) (qb1 (Value.int .i64) Vd) Z;refine I ?_;exact an (t:=4) (v:=.int .i64 1) Z (aa4 _) (qb1 (Value.int .i64) Vd) Z
end Go.Proofs.YtgcfffdpcefifaaGreatDoor
def ci {xs:List Nat}{i:Nat}(h:xs.length<=i):xs.getD i 0=0:=by simp[List.getD,List.getElem?_eq_none h]
def dk (B:Nat)(xs:List Nat)(k:Nat):bg B (xs.take (k+1))=bg B (xs.take k)+B^k*xs.getD k 0:=by
 rcases Nat.lt_or_ge k xs.length with h|h
 · rw[List.take_succ_eq_append_getElem h,bH,List.length_take,Nat.min_eq_left J]
   simp[bg,List.getD,h]
 · rw[List.take_of_length_le J,List.take_of_length_le h,ci h];simp
def eR (X Y:List Nat):Nat->Nat×List Nat
 |0=>(0,[])
 |k+1=>(((eR X Y k).1+X.getD k 0+Y.getD k 0)/10,(eR X Y k).2++[((eR X Y k).1+X.getD k 0+Y.getD k 0)%10])
def rH (X Y:List Nat):∀k,(eR X Y k).2.length=k
 |0=>rfl
 |k+1=>by simp[eR,rH X Y k]
def zL (X Y:List Nat):∀k,∀d∈(eR X Y k).2,d<10
 |0=>by simp[eR]
 | k+1=>by
   intro d hd
   rcases List.mem_append.1 hd with h|h
   · exact zL X Y k d h
   · rw[List.mem_singleton.1 h];exact Nat.mod_lt _ J
def cO {X Y:List Nat}(hX:∀i,X.getD i 0<10)(hY:∀i,Y.getD i 0<10):∀k,(eR X Y k).1<=1
 |0=>by simp[eR]
 |k+1=>by have:=cO hX hY k;have:=hX k;have:=hY k;simp only[eR];omega
def rI (X Y:List Nat):∀k,bg 10 (eR X Y k).2+10^k*(eR X Y k).1=bg 10 (X.take k)+bg 10 (Y.take k)
 |0=>by simp[eR,bg]
 | k+1=>by
   have ih:=rI X Y k
   simp only[eR]
   rw[bH,rH,dk,dk,Nat.pow_succ]
   have E:=Nat.div_add_mod ((eR X Y k).1+X.getD k 0+Y.getD k 0) 10
   simp only[bg]
   generalize ((eR X Y k).1+X.getD k 0+Y.getD k 0)/10=u at *
   generalize ((eR X Y k).1+X.getD k 0+Y.getD k 0)%10=v at *
   generalize X.getD k 0=x at *
   generalize Y.getD k 0=y at *
   generalize (eR X Y k).1=c at *
   grind
def ij {X Y:List Nat}{k:Nat}(hX:X.length<=k)(hY:Y.length<=k)(h:(eR X Y k).1<=1):(eR X Y (k+1)).1=0:=by
 simp only[eR,ci hX,ci hY];omega
def pi {a k:Nat}(h:k<(aj 10 a).length):10^k<=a:=by
 rcases Nat.lt_or_ge a (10^k)with h1|h1
 · have:=(aF 10 J a k).2 h1;omega
 · exact h1
def CX {a b n1 n2 k:Nat}(h1:(aj 10 a).length=n1)(h2:(aj 10 b).length=n2)(hk1:n1<=k)(hk2:n2<=k)(hc:(eR (aj 10 a) (aj 10 b) k).1=0)(hm:k<=max n1 n2\/k=max n1 n2+1/\0<(eR (aj 10 a) (aj 10 b) (max n1 n2)).1):(eR (aj 10 a) (aj 10 b) k).2=aj 10 (a+b):=by
 have hv:=rI (aj 10 a) (aj 10 b) k
 rw[hc,Nat.mul_zero,Nat.add_zero,List.take_of_length_le J,List.take_of_length_le J,bU 10 J,bU 10 J]at hv
 have O:=rH (aj 10 a) (aj 10 b) k
 have W:=zL (aj 10 a) (aj 10 b) k
 have g:0<k->10^(k-1)<=a+b:=by
  intro H
  rcases hm with hm|⟨hm,hp⟩
  · have:n1=k\/n2=k:=J
    rcases this with h|h
    · have:=pi (a:=a) (k:=k-1) J;omega
    · have:=pi (a:=b) (k:=k-1) J;omega
  · have kd:=rI (aj 10 a) (aj 10 b) (max n1 n2)
    rw[List.take_of_length_le J,List.take_of_length_le J,bU 10 J,bU 10 J]at kd
    have:10^max n1 n2*1<=10^max n1 n2*(eR (aj 10 a) (aj 10 b) (max n1 n2)).1:=Nat.mul_le_mul_left _ hp
    rw[hm,Nat.add_sub_cancel]
    omega
 generalize (eR (aj 10 a) (aj 10 b) k).2=l at *
 rw[<-hv]
 refine jK J ⟨W,?_⟩
 intro E
 have H:0<k:=by
  rcases Nat.eq_zero_or_pos k with h|h
  · subst h;rw[List.length_eq_zero_iff.1 O]at E;simp at E
  · exact h
 obtain⟨l',rfl⟩:∃l',l=l'++[0]:=by
  have G:l≠[]:=by intro e;subst e;simp at E
  refine⟨l.dropLast,?_⟩
  have kk:=List.dropLast_concat_getLast G
  rw[List.getLast?_eq_some_getLast G]at E
  rw[Option.some.inj E]at kk
  exact kk.symm
 have Ab:=fK 10 l' (λd hd=>W d (List.mem_append_left _ hd))
 rw[bH]at hv
 simp only[bg,Nat.mul_zero,Nat.add_zero]at hv
 simp at O
 have:=g H
 rw[show k-1=l'.length by omega]at this
 omega
def gj (X Y:List Nat):Nat->Nat×List Nat
 |0=>(0,[])
 |k+1=>if X.getD k 0<(gj X Y k).1+Y.getD k 0 then(1,(gj X Y k).2++[X.getD k 0+10-(gj X Y k).1-Y.getD k 0])else(0,(gj X Y k).2++[X.getD k 0-(gj X Y k).1-Y.getD k 0])
def ki (X Y:List Nat):∀k,(gj X Y k).2.length=k
 |0=>rfl
 |k+1=>by simp only[gj];split <;>simp[ki X Y k]
def eS (X Y:List Nat):∀k,(gj X Y k).1<=1
 |0=>by simp[gj]
 |k+1=>by simp only[gj];split <;>simp
def uQ {X Y:List Nat}(hX:∀i,X.getD i 0<10)(hY:∀i,Y.getD i 0<10):∀k,∀d∈(gj X Y k).2,d<10
 |0=>by simp[gj]
 | k +1=>by
   have hb:=eS X Y k
   have hx:=hX k
   have hy:=hY k
   intro d hd
   simp only[gj]at hd
   split at hd
   all_goals
    rcases List.mem_append.1 hd with h|h
    · exact uQ hX hY k d h
    · rw[List.mem_singleton.1 h];omega
def wk {X Y:List Nat}(hY:∀i,Y.getD i 0<10):∀k,bg 10 (gj X Y k).2+bg 10 (Y.take k)=bg 10 (X.take k)+10^k*(gj X Y k).1
 |0=>by simp[gj,bg]
 | k +1=>by
   have ih:=wk (X:=X) hY k
   have hb:=eS X Y k
   have hy:=hY k
   rw[dk,dk,Nat.pow_succ]
   simp only[gj]
   split
   · next h=>
     rw[bH,ki]
     simp only[bg]
     obtain⟨t,ht⟩:∃t,X.getD k 0+10-(gj X Y k).1-Y.getD k 0=t:=⟨_,rfl⟩
     have hs:t+(gj X Y k).1+Y.getD k 0=X.getD k 0+10:=J
     rw[ht]
     generalize X.getD k 0=x at *
     generalize Y.getD k 0=y at *
     generalize (gj X Y k).1=c at *
     grind
   · next h=>
     rw[bH,ki]
     simp only[bg]
     obtain⟨t,ht⟩:∃t,X.getD k 0-(gj X Y k).1-Y.getD k 0=t:=⟨_,rfl⟩
     have hs:t+(gj X Y k).1+Y.getD k 0=X.getD k 0:=J
     rw[ht]
     generalize X.getD k 0=x at *
     generalize Y.getD k 0=y at *
     generalize (gj X Y k).1=c at *
     grind
def CY {a b n1 n2:Nat}(h1:(aj 10 a).length=n1)(h2:(aj 10 b).length=n2)(hle:b<=a):bg 10 (gj (aj 10 a) (aj 10 b) n1).2=a-b:=by
 have E:∀(c i:Nat),(aj 10 c).getD i 0<10:=by
  intro c i
  rcases Nat.lt_or_ge i (aj 10 c).length with hi|hi
  · have G:(aj 10 c)[i]? =some (aj 10 c)[i]:=qa5 hi
    rw[List.getD,G];exact cu 10 J c _ (List.getElem_mem hi)
  · rw[ci hi];omega
 have hv:=wk (X:=aj 10 a) (E b) n1
 have O:n2<=n1:=by rw[<-h1,<-h2];exact dx J hle
 rw[List.take_of_length_le J,List.take_of_length_le J,bU 10 J,bU 10 J]at hv
 have H:=fK 10 _ (uQ (E a) (E b) n1)
 rw[ki]at H
 have hb:=eS (aj 10 a) (aj 10 b) n1
 generalize (gj (aj 10 a) (aj 10 b) n1).1=c at *
 rcases Nat.eq_zero_or_pos c with hc|hc
 · subst hc;omega
 · obtain rfl:c=1:=J
   omega
def wl (B:Nat):∀(l:List Nat) (j v:Nat),j<l.length->bg B (l.set j v)+B^j*l.getD j 0=bg B l+B^j*v
 |x::l,0,v,_=>by simp[bg];omega
 | x::l,j+1,v,h=>by
   have ih:=wl B l j v VJ
   simp only[List.set_cons_succ,bg,List.getD_cons_succ,Nat.pow_succ]
   generalize l.getD j 0=y at *
   generalize bg B (l.set j v)=p at *
   generalize bg B l=q at *
   generalize B^j=t at *
   grind
structure tm (X Y:List Nat)(i n:Nat)(k c:Nat)(l:List Nat):Prop where
 len:l.length=n
 lt:∀d∈l,d<10
 c9:c<=9
 val:bg 10 l+10^(i+k)*c=(bg 10 (X.take i)*bg 10 Y)+10^i*(X.getD i 0*bg 10 (Y.take k))
def GX {l:List Nat}{j v:Nat}(h:∀d∈l,d<10)(hv:v<10):∀d∈l.set j v,d<10:=by
 intro d hd
 rcases List.mem_or_eq_of_mem_set hd with h1|h1
 · exact h d h1
 · rw[h1];exact hv
def eT {xs:List Nat}(h:∀x∈xs,x<10)(i:Nat):xs.getD i 0<10:=by
 rcases Nat.lt_or_ge i xs.length with hi|hi
 · have E:xs[i]? =some xs[i]:=qa5 hi
   rw[List.getD,E];exact h _ (List.getElem_mem hi)
 · rw[ci hi];omega
def tm.step {X Y l:List Nat}{i n k c:Nat}(hX:∀x∈X,x<10)(hY:∀x∈Y,x<10)(h:tm X Y i n k c l)(hj:i+k<n):
 tm X Y i n (k+1) ((l.getD (i+k) 0+c+X.getD i 0*Y.getD k 0)/10) (l.set (i+k) ((l.getD (i+k) 0+c+X.getD i 0*Y.getD k 0)%10)):=by
 have h1:=eT h.lt (i+k)
 have E:=eT hX i
 have kk:=eT hY k
 have H:X.getD i 0*Y.getD k 0<=9*9:=qb7 J J
 have hc:=h.c9
 refine⟨by rw[List.length_set];exact h.len,GX h.lt (Nat.mod_lt _ J),by omega,?_⟩
 have hs:=wl 10 l (i+k) ((l.getD (i+k) 0+c+X.getD i 0*Y.getD k 0)%10) (by rw[h.len];exact hj)
 have hv:=h.val
 have G:=Nat.div_add_mod (l.getD (i+k) 0+c+X.getD i 0*Y.getD k 0) 10
 rw[dk,show i+(k+1)=(i+k)+1 by omega,Nat.pow_succ]
 have O:(10:Nat)^(i+k)=10^i*10^k:=Nat.pow_add ..
 generalize (l.getD (i+k) 0+c+X.getD i 0*Y.getD k 0)/10=u at *
 generalize (l.getD (i+k) 0+c+X.getD i 0*Y.getD k 0)%10=v at *
 generalize bg 10 (l.set (i+k) v)=p at *
 generalize l.getD (i+k) 0=z at *
 generalize X.getD i 0=x at *
 generalize Y.getD k 0=y at *
 generalize bg 10 (Y.take k)=yk at *
 generalize bg 10 (X.take i)*bg 10 Y=W at *
 generalize (10:Nat)^(i+k)=t at *
 generalize (10:Nat)^i=ti at *
 generalize (10:Nat)^k=tk at *
 grind
def tm.room {X Y l:List Nat}{i n1 n2 k c:Nat}(hX:∀x∈X,x<10)(hY:∀x∈Y,x<10)(hn1:X.length=n1)(hn2:Y.length=n2)(hi:i<n1)(h:tm X Y i (n1+n2) k c l)(hk:k<n2\/0<c):i+k<n1+n2:=by
 rcases Nat.lt_or_ge k n2 with h1|h1
 · omega
 · have hc:0<c:=J
   have hv:=h.val
   rw[List.take_of_length_le (l:=Y) J]at hv
   have E:=dk 10 X i
   have H:bg 10 (X.take (i+1))<10^(i+1):=by
    have:=fK 10 (X.take (i+1)) (λd hd=>hX d (List.mem_of_mem_take hd))
    rwa [List.length_take,Nat.min_eq_left J]at this
   have e3:bg 10 Y<10^n2:=by have:=fK 10 Y hY;rwa [hn2]at this
   have O:bg 10 (X.take (i+1))*bg 10 Y<10^(i+1)*10^n2:=by
    rcases Nat.eq_zero_or_pos (bg 10 Y)with h0|h0
    · rw[h0,Nat.mul_zero];exact Nat.mul_pos (Nat.pow_pos J) (Nat.pow_pos J)
    · exact Nat.mul_lt_mul_of_lt_of_le H (Nat.le_of_lt e3) (Nat.pow_pos J)
   have kk:bg 10 l+10^(i+k)*c=bg 10 (X.take (i+1))*bg 10 Y:=by
    rw[hv,E]
    generalize bg 10 (X.take i)=p
    generalize bg 10 Y=q
    generalize X.getD i 0=x
    generalize (10:Nat)^i=t
    grind
   rw[<-Nat.pow_add]at O
   have W:10^(i+k)*1<=10^(i+k)*c:=Nat.mul_le_mul_left _ hc
   have G:10^(i+k)<10^(i+1+n2):=J
   have:=(Nat.pow_lt_pow_iff_right (a:=10) J).1 G
   omega
def tm.done {X Y l:List Nat}{i n n2 k:Nat}(hn2:Y.length=n2)(h:tm X Y i n k 0 l)(hk:n2<=k):tm X Y (i+1) n 0 0 l:=by
 refine⟨h.len,h.lt,by omega,?_⟩
 have hv:=h.val
 rw[List.take_of_length_le (l:=Y) J]at hv
 rw[dk]
 simp only[Nat.mul_zero,Nat.add_zero,List.take_zero,bg]at hv ⊢
 rw[hv]
 generalize bg 10 (X.take i)=p
 generalize bg 10 Y=q
 generalize X.getD i 0=x
 generalize (10:Nat)^i=t
 grind
def tm.start (X Y:List Nat)(n:Nat):tm X Y 0 n 0 0 (List.replicate n 0):=by
 refine⟨by simp,λd hd=>by rw[(List.mem_replicate.1 hd).2];omega,by omega,?_⟩
 have:∀m,bg 10 (List.replicate m 0)=0:=by
  intro m;induction m with
  |zero=>rfl
  |succ m ih=>simp[List.replicate_succ,bg,ih]
 simp[this,bg]
def tm.fin {X Y l:List Nat}{n n1:Nat}(hn1:X.length=n1)(h:tm X Y n1 n 0 0 l):bg 10 l=bg 10 X*bg 10 Y:=by
 have hv:=h.val
 rw[List.take_of_length_le (l:=X) J]at hv
 simp only[Nat.mul_zero,Nat.add_zero,List.take_zero,bg]at hv
 exact hv
def tm.rem {X Y l:List Nat}{i n n2 k c:Nat}(hn2:Y.length=n2)(hX:∀x∈X,x<10)(hY:∀x∈Y,x<10)(h:tm X Y i n k c l)(hk:n2<=k):(l.getD (i+k) 0+c+X.getD i 0*Y.getD k 0)=l.getD (i+k) 0+c:=by
 rw[ci (xs:=Y) J];simp
structure BQ (X:List Nat)(b:Nat)(i r:Nat)(T:List Nat):Prop where
 len:T.length+i=X.length
 lt:∀d∈T,d<10
 val:bg 10 T*b+r=bg 10 (X.drop i)
 rlt:r<b
def BQ.start {X:List Nat}{b:Nat}(hb:0<b):BQ X b X.length 0 []:=⟨by simp,by simp,by simp[bg],hb⟩
def BQ.step {X T:List Nat}{b i r c r2:Nat}(hX:∀x∈X,x<10)(h:BQ X b (i+1) r T)(hc:c*b+r2=r*10+X.getD i 0)(hr:r2<b):BQ X b i r2 (c::T):=by
 have hl:=h.len
 have hx:=eT hX i
 have G:=h.rlt
 have E:c<10:=by
  rcases Nat.lt_or_ge c 10 with h1|h1
  · exact h1
  · have H:10*b<=c*b:=Nat.mul_le_mul_right _ h1
    omega
 refine⟨by simp;omega,λd hd=>?_,?_,hr⟩
 · rcases List.mem_cons.1 hd with rfl|h1
   · exact E
   · exact h.lt d h1
 · have e:X.drop i=X.getD i 0::X.drop (i+1):=by
    rw[List.drop_eq_getElem_cons J];simp[show i<X.length by omega]
   rw[e]
   simp only[bg]
   have hv:=h.val
   generalize X.getD i 0=x at *
   generalize bg 10 T=t at *
   generalize bg 10 (X.drop (i+1))=u at *
   grind
def BQ.fin {X T:List Nat}{b r:Nat}(hb:0<b)(h:BQ X b 0 r T):bg 10 T=bg 10 X/b/\r=bg 10 X%b:=by
 have hv:=h.val
 rw[List.drop_zero]at hv
 have hr:=h.rlt
 rw[<-hv]
 constructor
 · rw[Nat.mul_comm,Nat.mul_add_div hb,Nat.div_eq_of_lt hr];omega
 · rw[Nat.mul_comm,Nat.mul_add_mod,Nat.mod_eq_of_lt hr]
