/- Part of the proof of a statement about risks. -/
import Derived.Test.YthpinljhfnodeaaGreatDoorInt12ToRat1
set_option linter.all false
namespace Go.Proofs.YthpinljhfnodeaaGreatDoor
variable {lb lbn:Array Value}{bad q:Bool}{bs ps:List Nat}{d l m:List UInt8}{lo i n a c g0 k pl sO N M b1 b2 gn:Nat}{w A B C W W' w0:World}
section
set_option maxRecDepth 100000
open Go Go.Eng Go.RowKit Tryz
attribute [local irreducible] wpListIn Code.wpIn Oper.wpIn Exit.then Exit.inBlock Exit.noGoto
set_option maxHeartbeats 40000000
def eX (l:List R):List Value:=l.flatMap λa=>[S a.1,S a.2]
def iw (l:List R)(i:Nat):R:=l.getD i ([],[])
def uG:∀{l:List R} {i:Nat},i<l.length->(eX l)[i*2]?=some (S (iw l i).1)/\(eX l)[i*2+1]?=some (S (iw l i).2)
 |a::t,0,_=>by simp[eX,iw]
 | a::t,i+1,h=>by
   have ih:=uG (l:=t) (i:=i) ka3
   rw[show(i+1)*2=i*2+2 by omega,show i*2+2+1=i*2+1+2 by omega]
   simpa[eX,iw]using ih
def ik {A:Option Addr}{l:List R}(h:Rw w lo A (eX l))(hi:i<l.length):∃b o,A=some ⟨b,o,none⟩/\∀j u,[S (iw l i).1,S (iw l i).2][j]?=some u->w.cell? ⟨b,o+i*2+j,none⟩=some u:=by
 obtain⟨h1,h2⟩:=uG hi
 obtain⟨b,o,hA,qr⟩:=h.cells _ _ h1
 obtain⟨_,_,hA',O⟩:=h.cells _ _ h2
 rw[hA]at hA';cases hA'
 refine⟨b,o,hA,λj u hu=>?_⟩
 match j,hu with
 |0,hu=>simp at hu;subst hu;simpa using qr
 |1,hu=>simp at hu;subst hu;simpa[Nat.add_assoc]using O
def da (bad:Bool)(l:List R):Bool:=bad||l.any λa=>!cc a
def Ej {l:List R}(hi:i<l.length):da bad (l.take (i+1))=(da bad (l.take i)|| !cc (iw l i)):=by
 have:l.take (i+1)=l.take i++[iw l i]:=by
  rw[List.take_succ_eq_append_getElem hi];simp[iw,hi]
 rw[this];simp[da,Bool.or_assoc]
def U8 {l:List R}(hi:i<l.length)(h:da bad (l.take i)=true):da bad (l.take (i+1))=true:=by rw[Ej hi,h];rfl
def Va {l:List R}(hi:i<l.length)(h:da bad (l.take i)=false):da bad (l.take (i+1))= !cc ((iw l i).1,(iw l i).2):=by rw[Ej hi,h];rfl
def jC (h:isInt d=true):gG d [48]=aG (aA d) 0:=by unfold gG;rw[if_pos (by rw[h,jN];rfl),kY]
def dy {x y:Int}:aG x y<0↔x<y:=by
 unfold aG;split
 · simp[*]
 · split <;>simp[*]
def bS {x y:Int}:aG x y<=0↔x<=y:=by
 unfold aG;split
 · simp;omega
 · split <;>simp <;>omega
def nc {n:List UInt8}(h:isInt n=true):bi [48] n=some (ae (-aA n)):=by
 rw[m8 (by rw[jN,h];rfl),kY]
 unfold bw
 have hf:fits (0-aA n)=true:=by
  have:=i6 h
  unfold fits at *
  rw[decide_eq_true_eq]at *
  omega
 rw[if_pos hf,Int.zero_sub]
def nf {n:List UInt8}(h:isInt n=true):isInt (ae (-aA n))=true:=by
 refine bR ?_
 have:=i6 h
 unfold fits at *
 rw[decide_eq_true_eq]at *
 omega
def sZ {a b:Int}(h:fits b=true)(hl:a.natAbs<=b.natAbs):fits a=true:=by
 unfold fits at *
 rw[decide_eq_true_eq]at *
 exact Nat.lt_of_le_of_lt hl h
def rU (a:Int)(b:Nat)(hb:0<b)(hd:(b:Int)∣a):(a/(b:Int)).natAbs<=a.natAbs:=by
 obtain⟨c,rfl⟩:=hd
 rw[Int.mul_ediv_cancel_left _ U,Int.natAbs_mul]
 exact Nat.le_mul_of_pos_left _ (by simpa using hb)
def wB {n:List UInt8}(hn:isInt n=true)(hd:isInt d=true)(h0:aA d≠0):
 zV false n d=some (ae (aA n/((Int.gcd (aA n) (aA d):Nat):Int)),ae (aA d/((Int.gcd (aA n) (aA d):Nat):Int))):=by
 have qn:0<Int.gcd (aA n) (aA d):=Int.gcd_pos_of_ne_zero_right _ h0
 have qr:((Int.gcd (aA n) (aA d):Nat):Int)∣aA d:=Int.gcd_dvd_right ..
 have Ab:((Int.gcd (aA n) (aA d):Nat):Int)∣aA n:=Int.gcd_dvd_left ..
 have A1:fits ((Int.gcd (aA n) (aA d):Nat):Int)=true:=sZ (i6 hd) (by
  have:=Nat.le_of_dvd U (Int.natAbs_dvd_natAbs.2 qr)
  simpa using this)
 have hG:cQ n d=some (ae ((Int.gcd (aA n) (aA d):Nat):Int)):=by
  unfold cQ;rw[if_pos (by rw[hn,hd];rfl)];unfold bw;rw[if_pos A1]
 generalize hg:Int.gcd (aA n) (aA d)=g at *
 have A2:=bR A1
 have O:∀{x:List UInt8},isInt x=true->(g:Int)∣aA x->(Vc x (ae (g:Int))).map (·.1)=some (ae (aA x/(g:Int))):=by
  intro x hx Ad
  rw[pn (by rw[hx,A2];rfl) (by rw[fq,gh];simpa using qn),aO]
  unfold bw
  rw[if_pos (sZ (i6 hx) (rU _ _ qn Ad))]
  rfl
 unfold zV
 rw[hG]
 simp only[dS,Bool.false_eq_true,if_false,rS,Option.getD_some]
 rw[O hn Ab,O hd qr]
 rfl
def wC {n:List UInt8}(hn:isInt n=true)(hd:isInt d=true):ij false n d=k7 (aA n) (aA d):=by
 unfold k7
 by_cases h0:aA d=0
 · rw[if_pos h0,oE ((ii hd).1 h0)]
 · have O:¬d=[48]:=λe=>h0 ((ii hd).2 e)
   rw[if_neg h0]
   unfold cG bK
   by_cases hs:aA d<0
   · rw[iI Z O (by rw[jC hd];exact dy.2 hs),nc hn,nc hd]
     simp only[dB,dS,Bool.false_or,Option.isNone_some,Bool.false_eq_true,if_false,rS,Option.getD_some]
     rw[wB (nf hn) (nf hd) (by rw[aO];omega),aO,aO,if_pos hs,if_pos hs]
     have:Int.gcd (-aA n) (-aA d)=Int.gcd (aA n) (aA d):=by rw[Int.gcd_neg,Int.neg_gcd]
     rw[this]
   · rw[iJ Z O (by rw[jC hd];exact λh=>hs (dy.1 h)),wB hn hd h0,if_neg hs,if_neg hs]
def lc (n d:List UInt8):ij true n d=none:=oD Z
def yl (a b:R):da false [a,b]= !(cc a&&cc b):=by simp[da]
def j7 {a:R}(h:cc a=true):isInt a.1=true:=by simp only[cc,Bool.and_eq_true]at h;exact h.1.1.1
def il {a:R}(h:cc a=true):isInt a.2=true:=by simp only[cc,Bool.and_eq_true]at h;exact h.1.1.2
def i8 (n:Int):(bw n).isNone= !fits n:=by unfold bw;cases fits n <;>rfl
def pp {n:Int}(h:fits n=true):rS (bw n)=ae n:=by unfold bw;rw[if_pos h];rfl
def uH (okk:Bool)(n d:Int){on od:Option (List UInt8)}(hn:okk=true->on=bw n)(hd:okk=true->od=bw d):
 ij (dB (dB (!okk) on) od) (dS (!okk) on) (dS (dB (!okk) on) od)=if okk then iz n d else none:=by
 cases okk with
 |false=>simp only[Bool.not_false,dB,Bool.true_or,lc];rfl
 | true=>
   rw[hn Z,hd Z]
   unfold iz
   simp only[Bool.not_true,dB,dS,Bool.false_or,Bool.false_eq_true,if_false,i8,if_true]
   cases h1:fits n with
   |false=>simp only[Bool.not_false,Bool.true_or,lc,Bool.false_and];rfl
   | true=>
     cases h2:fits d with
     |false=>simp only[Bool.not_false,Bool.or_true,lc,Bool.and_false];rfl
     | true=>
       simp only[Bool.not_true,Bool.or_false,Bool.false_eq_true,if_false,Bool.and_self,if_true]
       rw[pp h1,pp h2,wC (bR h1) (bR h2),aO,aO]
def IJ (x1 x2 y1 y2:List UInt8):ey (ij (dB (dB (da false [(x1,x2),(y1,y2)]) (ao x1 y2)) (ao x2 y1)) (dS (da false [(x1,x2),(y1,y2)]) (ao x1 y2)) (dS (dB (da false [(x1,x2),(y1,y2)]) (ao x1 y2)) (ao x2 y1)))=ey (sy (x1,x2) (y1,y2)):=by
 rw[yl,uH (cc (x1,x2)&&cc (y1,y2)) (aA x1*aA y2) (aA x2*aA y1) (λh=>eI kd4) (λh=>eI kd5)]
 rfl
def wD (okk:Bool)(p q s d:Int){op oq od:Option (List UInt8)}{os:List UInt8->List UInt8->Option (List UInt8)}(hp:okk=true->op=bw p)(hq:okk=true->oq=bw q)(hd:okk=true->od=bw d)(hs:fits p=true->fits q=true->os (ae p) (ae q)=bw s):
 ij (dB (dB (dB (dB (!okk) op) oq) (os (dS (!okk) op) (dS (dB (!okk) op) oq))) od) (dS (dB (dB (!okk) op) oq) (os (dS (!okk) op) (dS (dB (!okk) op) oq))) (dS (dB (dB (dB (!okk) op) oq) (os (dS (!okk) op) (dS (dB (!okk) op) oq))) od)
  =if okk then(if fits p&&fits q then iz s d else none)else none:=by
 cases okk with
 |false=>simp only[Bool.not_false,dB,Bool.true_or,lc];rfl
 | true=>
   rw[hp Z,hq Z,hd Z]
   cases h1:fits p with
   |false=>simp only[Bool.not_true,dB,Bool.false_or,i8,h1,Bool.not_false,Bool.true_or,lc,Bool.false_and];rfl
   | true=>
     cases h2:fits q with
     |false=>simp only[Bool.not_true,dB,Bool.false_or,i8,h1,h2,Bool.not_false,Bool.true_or,Bool.or_true,lc,Bool.and_false];rfl
     | true=>
       have O:dS (!true) (bw p)=ae p:=by rw[<-pp h1];rfl
       have qr:dB (!true) (bw p)=false:=by unfold dB;rw[i8,h1];rfl
       have A1:dS false (bw q)=ae q:=by rw[<-pp h2];rfl
       have qn:dB false (bw q)=false:=by unfold dB;rw[i8,h2];rfl
       rw[qr,qn,O,A1,hs h1 h2]
       have:=uH true s d (on:=bw s) (od:=bw d) (λ_=>rfl) (λ_=>rfl)
       simpa using this
def IK (os:List UInt8->List UInt8->Option (List UInt8))(x1 x2 y1 y2:List UInt8)(b:Bool):Option R:=ij (dB (dB (dB (dB b (ao x1 y2)) (ao y1 x2)) (os (dS b (ao x1 y2)) (dS (dB b (ao x1 y2)) (ao y1 x2)))) (ao x2 y2)) (dS (dB (dB b (ao x1 y2)) (ao y1 x2)) (os (dS b (ao x1 y2)) (dS (dB b (ao x1 y2)) (ao y1 x2)))) (dS (dB (dB (dB b (ao x1 y2)) (ao y1 x2)) (os (dS b (ao x1 y2)) (dS (dB b (ao x1 y2)) (ao y1 x2)))) (ao x2 y2))
def IL (x1 x2 y1 y2:List UInt8):ey (IK ku x1 x2 y1 y2 (da false [(x1,x2),(y1,y2)]))=ey (q8 (x1,x2) (y1,y2)):=
 qb1 ey ((qb1 (IK ku x1 x2 y1 y2) (yl (x1,x2) (y1,y2))).trans
  (wD (cc (x1,x2)&&cc (y1,y2)) (aA x1*aA y2) (aA y1*aA x2) (aA x1*aA y2+aA y1*aA x2) (aA x2*aA y2) (λh=>eI kd4) (λh=>eI kd5) (λh=>eI kd6)
   (λh1 h2=>by rw[pm kd7,aO,aO])))
def IM (x1 x2 y1 y2:List UInt8):ey (IK bi x1 x2 y1 y2 (da false [(x1,x2),(y1,y2)]))=ey (re (x1,x2) (y1,y2)):=
 qb1 ey ((qb1 (IK bi x1 x2 y1 y2) (yl (x1,x2) (y1,y2))).trans
  (wD (cc (x1,x2)&&cc (y1,y2)) (aA x1*aA y2) (aA y1*aA x2) (aA x1*aA y2-aA y1*aA x2) (aA x2*aA y2) (λh=>eI kd4) (λh=>eI kd5) (λh=>eI kd6)
   (λh1 h2=>by rw[m8 kd7,aO,aO])))
def pq {b:Nat}(hB:au w b 120 #[.bool bad])(ht:Tb w){A:Option Addr}{rs:List R}(hr:Rw w lo A (eX rs))(hn:rs.length=n)(hnb:n<=1000000)(hAb:∀ad,A=some ad->ad.block≠b):
 CL 135 #[pT b,.slice A n c] w (fp λv w'=>w.grownBy w' (some b)/\au w' b 120 #[.bool (da bad rs)]/\v=.tuple #[]):=by
 have G:=World.grownBy.refl w (some b);have Ax:=bt hB;have Ad:=λad e=>And.intro (hr.hi ad e) (hAb ad e);refine nM func135 Z (I ?_);refine JT [(5,5),(8,24)] (λAr e W=>∃i:Nat,(n-i=Ar)/\(e 8=.int .i64 i)/\(w.grownBy W (some b))/\(i<=n)/\(True)/\(Tb W)/\(Rw W lo A (eX rs))/\(au W b 120 #[.bool (da bad (rs.take i))])) (n-0) ⟨0,rfl,rfl,G,(qa7 _),trivial,ht,hr,(by simpa[da]using hB)⟩ ?_;rintro _ _ _ ⟨i,rfl,Af,G,hi,Ap,ht,hr,hB⟩;have Av:=World.grownBy.size G;by_cases hlt:i<n;obtain⟨bk,o,hA,As⟩:=ik hr (i:=i) U;refine I ?_;refine ac (ah (i:=i) (oo:=o+i*2) kS aM Z hA Af U Z ?_);refine ac (ar (cs:=[S (iw rs i).1,S (iw rs i).2]) (b:=bk) (o:=o+i*2) eB Z aM Z As ?_);refine al aQ (λ_ A1 Aq=>?_);have ht:=aa7 A1.2 ht;have hr:=Rw.ext A1.2 hr;have hB:=be A1.2 hB;have G:=aS G A1.2;refine SA Aq (λ_ qr O=>?_);have ht:=Tb.put qr Aq dc ht;have hr:=Rw.putU qr (λad e=>by have:=Ad ad e;omega) hr;have hB:=pb qr hB;have G:=de G qr U;have Aw:=mC qr;refine I ?_;rcases qa4 (da bad (rs.take i))with cf|cf;refine I ?_;refine SO hB (λ_ Ab Am=>?_);have ht:=Tb.put Ab hB dc ht;have hr:=Rw.putU Ab (λad e=>by have:=Ad ad e;omega) hr
 have O:=pb Ab O;have G:=xL G Ab;refine I ?_;refine ac (bb (a:=(i:Int)) (b:=1) (c:=((i+1:Nat):Int)) Af Z L7 U ?_);refine I ?_;exact c6 ⟨i+1,rfl,rfl,G,U,Ap,ht,hr,(by first|(rw[U8 U DE];exact Am)|(rw[Va U DE];exact Am))⟩;refine I ?_;refine cl qF (ep ((iw rs i).1) ((iw rs i).2) _ ht) ?_;rintro _ _ A2 rfl;have ht:=aa7 A2.2 ht;have hr:=Rw.ext A2.2 hr;have⟨hB,O⟩:=jk A2.2 hB O;have G:=aS G A2.2;refine I ?_;refine SO hB (λ_ qn Ao=>?_);have ht:=Tb.put qn hB dc ht;have hr:=Rw.putU qn (λad e=>by have:=Ad ad e;omega) hr;have O:=pb qn O;have G:=xL G qn;refine I ?_;refine ac (bb (a:=(i:Int)) (b:=1) (c:=((i+1:Nat):Int)) Af Z L7 U ?_);refine I ?_;exact c6 ⟨i+1,rfl,rfl,G,U,Ap,ht,hr,(by first|(rw[U8 U DE];exact Ao)|(rw[Va U DE];exact Ao))⟩;refine I ?_;refine Q6 (v:=.tuple #[]) (BC  rfl) ⟨G,(by rw[List.take_of_length_le U]at hB;exact hB),rfl⟩
def MZ (x1 x2 y1 y2:List UInt8)(w:World)(ht:Tb w):
 CL 81 #[.agg #[S x1,S x2],.agg #[S y1,S y2]] w (aC w λv w'=>v=ey (sy (x1,x2) (y1,y2))):=by
 refine aE func81 Z (I ?_);refine bx (λ_ As qr=>?_);have ht:=aa7 As.2 ht;have O:=As.2;refine bx (λE7 Ay qn=>?_);have ht:=aa7 Ay.2 ht;have⟨qr,O⟩:=bD Ay.2 qr O;refine al aQ (λAo E1 A1=>?_);have ht:=aa7 E1.2 ht;have⟨qr,qn,O⟩:=bC E1.2 qr qn O;refine I ?_;refine bx (λE9 Av Ap=>?_);have ht:=aa7 Av.2 ht;have⟨qr,qn,A1,O⟩:=bW Av.2 qr qn A1 O;refine I ?_;refine Ru (λ_ Ax _ E4=>?_);have ht:=aa7 Ax ht;have⟨qr,qn,A1,Ap,O⟩:=eE Ax qr qn A1 Ap O;refine ac (bU (vs:=[pT Ao.heap.size,.slice (some ⟨E9.heap.size,0,none⟩) 2 2]) DG Z (pq (rs:=[(x1,x2),(y1,y2)]) Ap ht (aa4 E4) Z U (λ_ e=>by cases e;simp;omega)) ?_);rintro _ _ ⟨Ad,E0,rfl⟩;have ht:=Tb.gr Ad Ap dc ht;have qr:=aa0 Ad Hx qr;have qn:=aa0 Ad Hx qn;have A1:=aa0 Ad Hx A1;have O:=cI O Ad (bz O) (λg A2=>by cases A2;omega);refine I ?_;refine ac (bU (vs:=[pT Ao.heap.size,S x1,S y2]) rL Z (mL E0 ht x1 y2) ?_);rintro _ _ ⟨Af,Aq,rfl⟩;have ht:=Tb.gr Af E0 dc ht;have qr:=aa0 Af Hx qr;have qn:=aa0 Af Hx qn;have A1:=aa0 Af Hx A1;have O:=cI O Af (bz O) (λg A2=>by cases A2;omega);refine I ?_;refine ac (bU (vs:=[pT Ao.heap.size,S x2,S y1]) rL Z (mL Aq ht x2 y1) ?_);rintro _ _ ⟨Ab,ny,rfl⟩
 have ht:=Tb.gr Ab Aq dc ht;have qr:=aa0 Ab Hx qr;have qn:=aa0 Ab Hx qn;have A1:=aa0 Ab Hx A1;have O:=cI O Ab (bz O) (λg A2=>by cases A2;omega);refine ac (bU (vs:=[pT Ao.heap.size,S (dS (da false [(x1,x2),(y1,y2)]) (ao x1 y2)),S (dS (dB (da false [(x1,x2),(y1,y2)]) (ao x1 y2)) (ao x2 y1))]) tN Z (yj ny ht (dS (da false [(x1,x2),(y1,y2)]) (ao x1 y2)) (dS (dB (da false [(x1,x2),(y1,y2)]) (ao x1 y2)) (ao x2 y1))) ?_);rintro _ _ ⟨Am,⟨EP,Ar⟩,rfl⟩;have qr:=aa0 Am Hx qr;have qn:=aa0 Am Hx qn;have A1:=aa0 Am Hx A1;have O:=cI O Am (bz O) (λg A2=>by cases A2;omega);refine I ?_;refine SA A1 (λ_ Aw EE=>?_);have⟨qr,qn,Ar⟩:=kt Aw qr qn Ar;have O:=bB Aw O;refine I ?_
 refine aI (v:=.tuple #[.agg #[S (rN (ij (dB (dB (da false [(x1,x2),(y1,y2)]) (ao x1 y2)) (ao x2 y1)) (dS (da false [(x1,x2),(y1,y2)]) (ao x1 y2)) (dS (dB (da false [(x1,x2),(y1,y2)]) (ao x1 y2)) (ao x2 y1)))),S (rD (ij (dB (dB (da false [(x1,x2),(y1,y2)]) (ao x1 y2)) (ao x2 y1)) (dS (da false [(x1,x2),(y1,y2)]) (ao x1 y2)) (dS (dB (da false [(x1,x2),(y1,y2)]) (ao x1 y2)) (ao x2 y1))))],.int .i64 (IH (ij (dB (dB (da false [(x1,x2),(y1,y2)]) (ao x1 y2)) (ao x2 y1)) (dS (da false [(x1,x2),(y1,y2)]) (ao x1 y2)) (dS (dB (da false [(x1,x2),(y1,y2)]) (ao x1 y2)) (ao x2 y1))))]) (cn (r1:=.cell 4 25) (r2:=.tmp 5) Z ?_ ?_) O (IJ x1 x2 y1 y2);refine ag (t:=4) (cs:=[S (rN (ij (dB (dB (da false [(x1,x2),(y1,y2)]) (ao x1 y2)) (ao x2 y1)) (dS (da false [(x1,x2),(y1,y2)]) (ao x1 y2)) (dS (dB (da false [(x1,x2),(y1,y2)]) (ao x1 y2)) (ao x2 y1)))),S (rD (ij (dB (dB (da false [(x1,x2),(y1,y2)]) (ao x1 y2)) (ao x2 y1)) (dS (da false [(x1,x2),(y1,y2)]) (ao x1 y2)) (dS (dB (da false [(x1,x2),(y1,y2)]) (ao x1 y2)) (ao x2 y1))))]) (b:=E7.heap.size) (o:=0) eB Z aM ?_ ?_;exact Z;exact aa1 EE (i:=0) Z;exact aD (t:=5) Rd _
def El {os:List UInt8->List UInt8->Option (List UInt8)}(heg:Enters prog g0)(hop:∀a b,YP g0 a b (os a b))(x1 x2 y1 y2:List UInt8)(w:World)(ht:Tb w):
 CL 94 #[.func (.func g0) #[] #[],.agg #[S x1,S x2],.agg #[S y1,S y2]] w (aC w λv w'=>v=ey (IK os x1 x2 y1 y2 (da false [(x1,x2),(y1,y2)]))):=by
 refine aE func94 Z (I ?_);refine bx (λAx EE qr=>?_);have ht:=aa7 EE.2 ht;have O:=EE.2;refine bx (λF1 E7 qn=>?_);have ht:=aa7 E7.2 ht;have⟨qr,O⟩:=bD E7.2 qr O;refine al aQ (λAd EW A1=>?_);have ht:=aa7 EW.2 ht;have⟨qr,qn,O⟩:=bC EW.2 qr qn O;refine I ?_;refine bx (λZt EP ny=>?_);have ht:=aa7 EP.2 ht;have⟨qr,qn,A1,O⟩:=bW EP.2 qr qn A1 O;refine I ?_;refine Ru (λ_ E9 _ G4=>?_);have ht:=aa7 E9 ht;have⟨qr,qn,A1,ny,O⟩:=eE E9 qr qn A1 ny O;refine ac (bU (vs:=[pT Ad.heap.size,.slice (some ⟨Zt.heap.size,0,none⟩) 2 2]) DG Z (pq (rs:=[(x1,x2),(y1,y2)]) ny ht (aa4 G4) Z U (λ_ e=>by cases e;simp;omega)) ?_);rintro _ E1 ⟨As,A2,rfl⟩;have ht:=Tb.gr As ny dc ht;have qr:=aa0 As Hx qr;have qn:=aa0 As Hx qn;have A1:=aa0 As Hx A1;have O:=cI O As (bz O) (λg Af=>by cases Af;omega);refine I ?_;have Am:=aa8 E1
 refine Q8 g8 15 (λ_ _=>True) (λ_=>trivial) (λ_ _ _ _ _=>trivial) [λv _=>v=pT Ad.heap.size,λv _=>v=.func (.func g0) #[] #[],λv _=>v=pT Ad.heap.size,λv _=>v=pT w.heap.size,λv _=>v=S x1,λv _=>v=.pointer (some ⟨Ax.heap.size,1,none⟩),λv _=>v=S y2,λv _=>v=S (dS (da false [(x1,x2),(y1,y2)]) (ao x1 y2)),λv _=>v=pT Ad.heap.size,λv _=>v=pT Ax.heap.size,λv _=>v=S y1,λv _=>v=.pointer (some ⟨w.heap.size,1,none⟩),λv _=>v=S x2,λv _=>v=S (dS (dB (da false [(x1,x2),(y1,y2)]) (ao x1 y2)) (ao y1 x2)),λv _=>v=S (dS (dB (dB (da false [(x1,x2),(y1,y2)]) (ao x1 y2)) (ao y1 x2)) (os (dS (da false [(x1,x2),(y1,y2)]) (ao x1 y2)) (dS (dB (da false [(x1,x2),(y1,y2)]) (ao x1 y2)) (ao y1 x2))))] ⟨λ_ _ _ _ h=>h,λ_ _ _ _ h=>h,λ_ _ _ _ h=>h,λ_ _ _ _ h=>h,λ_ _ _ _ h=>h,λ_ _ _ _ h=>h,λ_ _ _ _ h=>h,λ_ _ _ _ h=>h,λ_ _ _ _ h=>h,λ_ _ _ _ h=>h,λ_ _ _ _ h=>h,λ_ _ _ _ h=>h,λ_ _ _ _ h=>h,λ_ _ _ _ h=>h,λ_ _ _ _ h=>h,trivial⟩ GS GS GS [7,13,14] GS GS GS (λk W=>(bF w W)/\(E1.heap.size<=W.heap.size)/\(Tb W)/\(au W w.heap.size 25 #[S x1,S x2])/\(au W Ax.heap.size 25 #[S y1,S y2])/\(au W F1.heap.size 25 #[S [],S []])/\(au W Ad.heap.size 120 #[.bool (([da false [(x1,x2),(y1,y2)],dB (da false [(x1,x2),(y1,y2)]) (ao x1 y2),dB (dB (da false [(x1,x2),(y1,y2)]) (ao x1 y2)) (ao y1 x2),dB (dB (dB (da false [(x1,x2),(y1,y2)]) (ao x1 y2)) (ao y1 x2)) (os (dS (da false [(x1,x2),(y1,y2)]) (ao x1 y2)) (dS (dB (da false [(x1,x2),(y1,y2)]) (ao x1 y2)) (ao y1 x2)))]:List Bool).getD k false)])) ⟨(xt O Am),(bz Am),(aa7 Am ht),(be Am qr),(be Am qn),(be Am A1),(be Am A2)⟩ ?_ ?_
 refine⟨λZQ d0 bp L2 Zx _ S1 d6=>?_,?_⟩;obtain⟨ZQ,rfl⟩:=aT S1;obtain⟨O,Ab,ht,qr,qn,A1,A2⟩:=L2;refine I ?_;exact⟨rfl,_,(aw _ _ _ _ _).symm,trivial,rfl,⟨O,U,ht,qr,qn,A1,A2⟩⟩;refine⟨λW3 b9 c8 ZU bT _ ZE aH=>?_,?_⟩;obtain⟨W3,rfl⟩:=aT ZE;obtain⟨O,Ab,ht,qr,qn,A1,A2⟩:=ZU;refine I ?_;exact⟨rfl,_,(aw _ _ _ _ _).symm,trivial,rfl,⟨O,U,ht,qr,qn,A1,A2⟩⟩;refine⟨λK2 c9 cx W0 ch _ TT ca=>?_,?_⟩;obtain⟨K2,rfl⟩:=aT TT;obtain⟨O,Ab,ht,qr,qn,A1,A2⟩:=W0;refine I ?_;exact⟨rfl,_,(aw _ _ _ _ _).symm,trivial,rfl,⟨O,U,ht,qr,qn,A1,A2⟩⟩;refine⟨λZk aL co Z7 bL _ Wb cd=>?_,?_⟩;obtain⟨Zk,rfl⟩:=aT Wb;obtain⟨O,Ab,ht,qr,qn,A1,A2⟩:=Z7;refine I ?_;exact⟨rfl,_,(aw _ _ _ _ _).symm,trivial,rfl,⟨O,U,ht,qr,qn,A1,A2⟩⟩;refine⟨λZ6 bc bm ZY Zw _ ZJ Zl=>?_,?_⟩;obtain⟨Z6,rfl⟩:=aT ZJ;obtain⟨O,Ab,ht,qr,qn,A1,A2⟩:=ZY;have ab:=ba (Zl 3 20 Z Z);refine I ?_;exact⟨rfl,_,(aw _ _ _ _ _).symm,trivial,rfl,⟨O,U,ht,qr,qn,A1,A2⟩⟩;refine⟨λT2 a5 a8 Zm a7 _ F4 an=>?_,?_⟩;obtain⟨T2,rfl⟩:=aT F4;obtain⟨O,Ab,ht,qr,qn,A1,A2⟩:=Zm;refine I ?_;exact⟨rfl,_,(aw _ _ _ _ _).symm,trivial,rfl,⟨O,U,ht,qr,qn,A1,A2⟩⟩;refine⟨λZ5 cy cw X2 aB _ F5 ZA=>?_,?_⟩;obtain⟨Z5,rfl⟩:=aT F5
 obtain⟨O,Ab,ht,qr,qn,A1,A2⟩:=X2;have cb:=ba (ZA 5 22 Z Z);refine I ?_;exact⟨rfl,_,(aw _ _ _ _ _).symm,trivial,rfl,⟨O,U,ht,qr,qn,A1,A2⟩⟩;refine⟨λwr F8 dd ZH ZR _ Z8 Ay=>?_,?_⟩;obtain⟨wr,rfl⟩:=aT Z8;obtain⟨O,Ab,ht,qr,qn,A1,A2⟩:=ZH;obtain rfl:=ZR 0 Z;have A2:au F8 Ad.heap.size 120 #[.bool (da false [(x1,x2),(y1,y2)])]:=A2;have Zs:=ba (Ay 2 19 Z Z);have ZN:=ba (Ay 4 21 Z Z);have ZZ:=ba (Ay 6 23 Z Z);refine ac (bU (vs:=[pT Ad.heap.size,S x1,S y2]) rL (ai Zs (ai ZN (ai ZZ Z))) (mL A2 ht x1 y2) ?_);rintro _ _ ⟨Ap,ZM,rfl⟩;have ht:=Tb.gr Ap A2 dc ht;have qr:=aa0 Ap Hx qr;have qn:=aa0 Ap Hx qn;have A1:=aa0 Ap Hx A1;have O:=cI O Ap (bz O) (λg Af=>by cases Af;omega);have cp:=Ap.size;refine I ?_;exact⟨rfl,_,(aw _ _ _ _ _).symm,trivial,rfl,⟨O,U,ht,qr,qn,A1,ZM⟩⟩;refine⟨λR1 d4 Zy T4 a4 _ F6 ct=>?_,?_⟩;obtain⟨R1,rfl⟩:=aT F6;obtain⟨O,Ab,ht,qr,qn,A1,A2⟩:=T4;refine I ?_;exact⟨rfl,_,(aw _ _ _ _ _).symm,trivial,rfl,⟨O,U,ht,qr,qn,A1,A2⟩⟩;refine⟨λZ2 b6 cf ZB Zz _ Z1 cq=>?_,?_⟩;obtain⟨Z2,rfl⟩:=aT Z1;obtain⟨O,Ab,ht,qr,qn,A1,A2⟩:=ZB;refine I ?_;exact⟨rfl,_,(aw _ _ _ _ _).symm,trivial,rfl,⟨O,U,ht,qr,qn,A1,A2⟩⟩
 refine⟨λZr a6 bq Z9 d5 _ W2 G3=>?_,?_⟩;obtain⟨Zr,rfl⟩:=aT W2;obtain⟨O,Ab,ht,qr,qn,A1,A2⟩:=Z9;have bH:=ba (G3 9 26 Z Z);refine I ?_;exact⟨rfl,_,(aw _ _ _ _ _).symm,trivial,rfl,⟨O,U,ht,qr,qn,A1,A2⟩⟩;refine⟨λZP ad Zv No a3 _ Zn cm=>?_,?_⟩;obtain⟨ZP,rfl⟩:=aT Zn;obtain⟨O,Ab,ht,qr,qn,A1,A2⟩:=No;refine I ?_;exact⟨rfl,_,(aw _ _ _ _ _).symm,trivial,rfl,⟨O,U,ht,qr,qn,A1,A2⟩⟩;refine⟨λZp a9 cv ZI bf _ T3 F2=>?_,?_⟩;obtain⟨Zp,rfl⟩:=aT T3;obtain⟨O,Ab,ht,qr,qn,A1,A2⟩:=ZI;have a0:=ba (F2 11 28 Z Z);refine I ?_;exact⟨rfl,_,(aw _ _ _ _ _).symm,trivial,rfl,⟨O,U,ht,qr,qn,A1,A2⟩⟩;refine⟨λZL ZS bd Zo Ix _ Kp E0=>?_,?_⟩;obtain⟨ZL,rfl⟩:=aT Kp;obtain⟨O,Ab,ht,qr,qn,A1,A2⟩:=Zo;obtain rfl:=Ix 1 Z;have A2:au ZS Ad.heap.size 120 #[.bool (dB (da false [(x1,x2),(y1,y2)]) (ao x1 y2))]:=A2;have N1:=ba (E0 8 25 Z Z);have ZX:=ba (E0 10 27 Z Z);have ZW:=ba (E0 12 29 Z Z);refine ac (bU (vs:=[pT Ad.heap.size,S y1,S x2]) rL (ai N1 (ai ZX (ai ZW Z))) (mL A2 ht y1 x2) ?_);rintro _ _ ⟨Ao,ZC,rfl⟩;have ht:=Tb.gr Ao A2 dc ht;have qr:=aa0 Ao Hx qr;have qn:=aa0 Ao Hx qn;have A1:=aa0 Ao Hx A1;have O:=cI O Ao (bz O) (λg Af=>by cases Af;omega)
 have bn:=Ao.size;refine I ?_;exact⟨rfl,_,(aw _ _ _ _ _).symm,trivial,rfl,⟨O,U,ht,qr,qn,A1,ZC⟩⟩;refine⟨λZF W1 cr Zq F7 _ Z0 Aw=>?_,?_⟩;obtain⟨ZF,rfl⟩:=aT Z0;obtain⟨O,Ab,ht,qr,qn,A1,A2⟩:=Zq;obtain rfl:=F7 2 Z;have A2:au W1 Ad.heap.size 120 #[.bool (dB (dB (da false [(x1,x2),(y1,y2)]) (ao x1 y2)) (ao y1 x2))]:=A2;have ZG:=ba (Aw 0 17 Z Z);have Jx:=ba (Aw 1 18 Z Z);have ZO:=ba (Aw 7 24 Z Z);have ZK:=ba (Aw 13 30 Z Z);refine ac (bU (vs:=[pT Ad.heap.size,.func (.func g0) #[] #[],S (dS (da false [(x1,x2),(y1,y2)]) (ao x1 y2)),S (dS (dB (da false [(x1,x2),(y1,y2)]) (ao x1 y2)) (ao y1 x2))]) rM (ai ZG (ai Jx (ai ZO (ai ZK Z)))) (rT (o:=os (dS (da false [(x1,x2),(y1,y2)]) (ao x1 y2)) (dS (dB (da false [(x1,x2),(y1,y2)]) (ao x1 y2)) (ao y1 x2))) A2 ht heg (hop _ _)) ?_);rintro _ _ ⟨Aq,Wa,rfl⟩;have ht:=Tb.gr Aq A2 dc ht;have qr:=aa0 Aq Hx qr;have qn:=aa0 Aq Hx qn;have A1:=aa0 Aq Hx A1;have O:=cI O Aq (bz O) (λg Af=>by cases Af;omega);have b7:=Aq.size;refine I ?_;exact⟨rfl,_,(aw _ _ _ _ _).symm,trivial,rfl,⟨O,U,ht,qr,qn,A1,Wa⟩⟩;exact trivial;intro Z3 Ne ZT _ ZD F3;obtain⟨Z3,rfl⟩:=aT ZD;obtain⟨O,Ab,ht,qr,qn,A1,A2⟩:=ZT
 have A2:au Ne Ad.heap.size 120 #[.bool (dB (dB (dB (da false [(x1,x2),(y1,y2)]) (ao x1 y2)) (ao y1 x2)) (os (dS (da false [(x1,x2),(y1,y2)]) (ao x1 y2)) (dS (dB (da false [(x1,x2),(y1,y2)]) (ao x1 y2)) (ao y1 x2))))]:=A2;have d3:=ba (F3 14 31 Z Z);refine I ?_;refine ac (bU (vs:=[pT Ad.heap.size,S x2,S y2]) rL Z (mL A2 ht x2 y2) ?_);rintro _ _ ⟨Ar,Zu,rfl⟩;have ht:=Tb.gr Ar A2 dc ht;have qr:=aa0 Ar Hx qr;have qn:=aa0 Ar Hx qn;have A1:=aa0 Ar Hx A1;have O:=cI O Ar (bz O) (λg Af=>by cases Af;omega)
 refine ac (bU (vs:=[pT Ad.heap.size,S (dS (dB (dB (da false [(x1,x2),(y1,y2)]) (ao x1 y2)) (ao y1 x2)) (os (dS (da false [(x1,x2),(y1,y2)]) (ao x1 y2)) (dS (dB (da false [(x1,x2),(y1,y2)]) (ao x1 y2)) (ao y1 x2)))),S (dS (dB (dB (dB (da false [(x1,x2),(y1,y2)]) (ao x1 y2)) (ao y1 x2)) (os (dS (da false [(x1,x2),(y1,y2)]) (ao x1 y2)) (dS (dB (da false [(x1,x2),(y1,y2)]) (ao x1 y2)) (ao y1 x2)))) (ao x2 y2))]) tN Z (yj Zu ht (dS (dB (dB (da false [(x1,x2),(y1,y2)]) (ao x1 y2)) (ao y1 x2)) (os (dS (da false [(x1,x2),(y1,y2)]) (ao x1 y2)) (dS (dB (da false [(x1,x2),(y1,y2)]) (ao x1 y2)) (ao y1 x2)))) (dS (dB (dB (dB (da false [(x1,x2),(y1,y2)]) (ao x1 y2)) (ao y1 x2)) (os (dS (da false [(x1,x2),(y1,y2)]) (ao x1 y2)) (dS (dB (da false [(x1,x2),(y1,y2)]) (ao x1 y2)) (ao y1 x2)))) (ao x2 y2))) ?_);rintro _ _ ⟨Av,⟨cT,E4⟩,rfl⟩;have qr:=aa0 Av Hx qr;have qn:=aa0 Av Hx qn;have A1:=aa0 Av Hx A1;have O:=cI O Av (bz O) (λg Af=>by cases Af;omega);refine I ?_;refine SA A1 (λ_ Ek ZV=>?_);have⟨qr,qn,E4⟩:=kt Ek qr qn E4;have O:=bB Ek O;refine I ?_
 refine aI (v:=.tuple #[.agg #[S (rN (ij (dB (dB (dB (dB (da false [(x1,x2),(y1,y2)]) (ao x1 y2)) (ao y1 x2)) (os (dS (da false [(x1,x2),(y1,y2)]) (ao x1 y2)) (dS (dB (da false [(x1,x2),(y1,y2)]) (ao x1 y2)) (ao y1 x2)))) (ao x2 y2)) (dS (dB (dB (da false [(x1,x2),(y1,y2)]) (ao x1 y2)) (ao y1 x2)) (os (dS (da false [(x1,x2),(y1,y2)]) (ao x1 y2)) (dS (dB (da false [(x1,x2),(y1,y2)]) (ao x1 y2)) (ao y1 x2)))) (dS (dB (dB (dB (da false [(x1,x2),(y1,y2)]) (ao x1 y2)) (ao y1 x2)) (os (dS (da false [(x1,x2),(y1,y2)]) (ao x1 y2)) (dS (dB (da false [(x1,x2),(y1,y2)]) (ao x1 y2)) (ao y1 x2)))) (ao x2 y2)))),S (rD (ij (dB (dB (dB (dB (da false [(x1,x2),(y1,y2)]) (ao x1 y2)) (ao y1 x2)) (os (dS (da false [(x1,x2),(y1,y2)]) (ao x1 y2)) (dS (dB (da false [(x1,x2),(y1,y2)]) (ao x1 y2)) (ao y1 x2)))) (ao x2 y2)) (dS (dB (dB (da false [(x1,x2),(y1,y2)]) (ao x1 y2)) (ao y1 x2)) (os (dS (da false [(x1,x2),(y1,y2)]) (ao x1 y2)) (dS (dB (da false [(x1,x2),(y1,y2)]) (ao x1 y2)) (ao y1 x2)))) (dS (dB (dB (dB (da false [(x1,x2),(y1,y2)]) (ao x1 y2)) (ao y1 x2)) (os (dS (da false [(x1,x2),(y1,y2)]) (ao x1 y2)) (dS (dB (da false [(x1,x2),(y1,y2)]) (ao x1 y2)) (ao y1 x2)))) (ao x2 y2))))],.int .i64 (IH (ij (dB (dB (dB (dB (da false [(x1,x2),(y1,y2)]) (ao x1 y2)) (ao y1 x2)) (os (dS (da false [(x1,x2),(y1,y2)]) (ao x1 y2)) (dS (dB (da false [(x1,x2),(y1,y2)]) (ao x1 y2)) (ao y1 x2)))) (ao x2 y2)) (dS (dB (dB (da false [(x1,x2),(y1,y2)]) (ao x1 y2)) (ao y1 x2)) (os (dS (da false [(x1,x2),(y1,y2)]) (ao x1 y2)) (dS (dB (da false [(x1,x2),(y1,y2)]) (ao x1 y2)) (ao y1 x2)))) (dS (dB (dB (dB (da false [(x1,x2),(y1,y2)]) (ao x1 y2)) (ao y1 x2)) (os (dS (da false [(x1,x2),(y1,y2)]) (ao x1 y2)) (dS (dB (da false [(x1,x2),(y1,y2)]) (ao x1 y2)) (ao y1 x2)))) (ao x2 y2))))]) (cn (r1:=.cell 6 25) (r2:=.tmp 7) Z ?_ ?_) O Z
 refine ag (t:=6) (cs:=[S (rN (ij (dB (dB (dB (dB (da false [(x1,x2),(y1,y2)]) (ao x1 y2)) (ao y1 x2)) (os (dS (da false [(x1,x2),(y1,y2)]) (ao x1 y2)) (dS (dB (da false [(x1,x2),(y1,y2)]) (ao x1 y2)) (ao y1 x2)))) (ao x2 y2)) (dS (dB (dB (da false [(x1,x2),(y1,y2)]) (ao x1 y2)) (ao y1 x2)) (os (dS (da false [(x1,x2),(y1,y2)]) (ao x1 y2)) (dS (dB (da false [(x1,x2),(y1,y2)]) (ao x1 y2)) (ao y1 x2)))) (dS (dB (dB (dB (da false [(x1,x2),(y1,y2)]) (ao x1 y2)) (ao y1 x2)) (os (dS (da false [(x1,x2),(y1,y2)]) (ao x1 y2)) (dS (dB (da false [(x1,x2),(y1,y2)]) (ao x1 y2)) (ao y1 x2)))) (ao x2 y2)))),S (rD (ij (dB (dB (dB (dB (da false [(x1,x2),(y1,y2)]) (ao x1 y2)) (ao y1 x2)) (os (dS (da false [(x1,x2),(y1,y2)]) (ao x1 y2)) (dS (dB (da false [(x1,x2),(y1,y2)]) (ao x1 y2)) (ao y1 x2)))) (ao x2 y2)) (dS (dB (dB (da false [(x1,x2),(y1,y2)]) (ao x1 y2)) (ao y1 x2)) (os (dS (da false [(x1,x2),(y1,y2)]) (ao x1 y2)) (dS (dB (da false [(x1,x2),(y1,y2)]) (ao x1 y2)) (ao y1 x2)))) (dS (dB (dB (dB (da false [(x1,x2),(y1,y2)]) (ao x1 y2)) (ao y1 x2)) (os (dS (da false [(x1,x2),(y1,y2)]) (ao x1 y2)) (dS (dB (da false [(x1,x2),(y1,y2)]) (ao x1 y2)) (ao y1 x2)))) (ao x2 y2))))]) (b:=F1.heap.size) (o:=0) eB Z aM ?_ ?_;exact Z;exact aa1 ZV (i:=0) Z;exact aD (t:=7) Rd _
def M0 (x1 x2 y1 y2:List UInt8)(w:World)(ht:Tb w):CL 94 #[.func (.func 95) #[] #[],.agg #[S x1,S x2],.agg #[S y1,S y2]] w (aC w λv w'=>v=ey (q8 (x1,x2) (y1,y2))):=IL x1 x2 y1 y2▸El Hj (λa b W hW=>yc a b W hW) x1 x2 y1 y2 w ht
def M5 (x1 x2 y1 y2:List UInt8)(w:World)(ht:Tb w):CL 94 #[.func (.func 96) #[] #[],.agg #[S x1,S x2],.agg #[S y1,S y2]] w (aC w λv w'=>v=ey (re (x1,x2) (y1,y2))):=IM x1 x2 y1 y2▸El DI (λa b W hW=>sW a b W hW) x1 x2 y1 y2 w ht
def M6 (x1 x2 y1 y2:List UInt8)(w:World)(ht:Tb w):
 CL 49 #[.agg #[S x1,S x2],.agg #[S y1,S y2]] w (aC w λv w'=>v=ey (q8 (x1,x2) (y1,y2))):=by
 refine aE func49 Z (I ?_);refine bx (λ_ A2 qr=>?_);have ht:=aa7 A2.2 ht;have O:=A2.2;refine bx (λAm Af qn=>?_);have ht:=aa7 Af.2 ht;have⟨qr,O⟩:=bD Af.2 qr O;refine al aQ (λ_ Ad A1=>?_);have ht:=aa7 Ad.2 ht;have⟨qr,qn,O⟩:=bC Ad.2 qr qn O;refine I ?_;refine cl OT (M0 x1 x2 y1 y2 _ ht) ?_;rintro _ _ Ao rfl;have⟨qr,qn,A1,O⟩:=bW Ao.2 qr qn A1 O;refine I ?_;refine SA A1 (λ_ Ab Ap=>?_);have⟨qr,qn⟩:=eR Ab qr qn;have O:=bB Ab O;refine I ?_;refine aI (v:=.tuple #[.agg #[S (rN (q8 (x1,x2) (y1,y2))),S (rD (q8 (x1,x2) (y1,y2)))],.int .i64 (IH (q8 (x1,x2) (y1,y2)))]) (cn (r1:=.cell 4 25) (r2:=.tmp 5) Z ?_ ?_) O Z;refine ag (t:=4) (cs:=[S (rN (q8 (x1,x2) (y1,y2))),S (rD (q8 (x1,x2) (y1,y2)))]) (b:=Am.heap.size) (o:=0) eB Z aM ?_ ?_;exact Z;exact aa1 Ap (i:=0) Z;exact aD (t:=5) Rd _
def M7 (x1 x2 y1 y2:List UInt8)(w:World)(ht:Tb w):
 CL 50 #[.agg #[S x1,S x2],.agg #[S y1,S y2]] w (aC w λv w'=>v=ey (re (x1,x2) (y1,y2))):=by
 refine aE func50 Z (I ?_);refine bx (λ_ A2 qr=>?_);have ht:=aa7 A2.2 ht;have O:=A2.2;refine bx (λAm Af qn=>?_);have ht:=aa7 Af.2 ht;have⟨qr,O⟩:=bD Af.2 qr O;refine al aQ (λ_ Ad A1=>?_);have ht:=aa7 Ad.2 ht;have⟨qr,qn,O⟩:=bC Ad.2 qr qn O;refine I ?_;refine cl OT (M5 x1 x2 y1 y2 _ ht) ?_;rintro _ _ Ao rfl;have⟨qr,qn,A1,O⟩:=bW Ao.2 qr qn A1 O;refine I ?_;refine SA A1 (λ_ Ab Ap=>?_);have⟨qr,qn⟩:=eR Ab qr qn;have O:=bB Ab O;refine I ?_;refine aI (v:=.tuple #[.agg #[S (rN (re (x1,x2) (y1,y2))),S (rD (re (x1,x2) (y1,y2)))],.int .i64 (IH (re (x1,x2) (y1,y2)))]) (cn (r1:=.cell 4 25) (r2:=.tmp 5) Z ?_ ?_) O Z;refine ag (t:=4) (cs:=[S (rN (re (x1,x2) (y1,y2))),S (rD (re (x1,x2) (y1,y2)))]) (b:=Am.heap.size) (o:=0) eB Z aM ?_ ?_;exact Z;exact aa1 Ap (i:=0) Z;exact aD (t:=5) Rd _
def pr {a:R}(h:cc a=true):0<aA a.2:=by
 have h2:=il h
 simp only[cc,Bool.and_eq_true,Bool.not_eq_true',decide_eq_false_iff_not]at h
 have:=h.1.2
 rw[jC h2,bS]at this
 omega
section
variable {f:FuncId}{a:Array Value}
def fM {X Y:Value}(h:CL f a w (aC w λv _=>v=X))(e:X=Y):CL f a w (aC w λv _=>v=Y):=e▸h
def cB {X Y:Bool}(h:CL f a w (aC w λv _=>v=.bool X))(e:X=Y):CL f a w (aC w λv _=>v=.bool Y):=e▸h
end
def Vb {b:Nat}(h:nS (a%b)=[48]):S (nS (a/b))=S (nS (gl a b)):=by
 have:=cJ.1 h
 unfold gl;rw[if_pos U]
def Vd {b:Nat}(h:¬nS (a%b)=[48]):S (nS (a/b+1))=S (nS (gl a b)):=by
 unfold gl;rw[if_neg λe=>h (by rw[e];rfl)]
def RQ {b:Nat}(h:Fi a):Fi (a/b):=Nat.lt_of_le_of_lt (Nat.div_le_self _ _) h
def RR {b:Nat}(h:Fi a)(hb:0<b):Fi (gl a b):=Nat.lt_of_le_of_lt (lN hb) h
def Pj {b:Nat}(h:Fi a)(hb:0<b)(h0:¬nS (a%b)=[48]):Fi (a/b+1):=by
 have h1:=RR h hb
 unfold gl at h1
 rwa [if_neg λe=>h0 (by rw[e];rfl)]at h1
def WH:Fi 1:=by unfold Fi;decide
def ym {b:Nat}(h:Fi (a+b)):Fi a/\Fi b:=by unfold Fi at *;omega
def IN {b:Nat}(ha:Fi a)(hb:Fi b)(h0:0<b):Vc (nS a) (nS b)=some (nS (a/b),nS (a%b)):=kv ha.z hb.z U (RQ ha).z
def M8 {a b:Int}(hl:l=ae a)(hm:m=ae b)(ha:Fz a)(hb:Fz b)(h:Fz (a+b))(ht:Tb w):
 CL 209 #[S l,S m] w (aC w λv w'=>v=S (ae (a+b))):=by
 subst hl hm;refine aE func209 Z (I ?_);refine cl Hj (fM (Y:=.tuple #[S (ae (a+b)),.int .i64 0]) (yc _ _ _ (ht.ext (aa2 _))) (qb1 gj (ye ha hb h))) ?_;rintro _ _ O rfl;have qr:=O.2;refine I ?_;exact ax (t:=4) (v:=S (ae (a+b))) Z qr Z Z
def Em {a b:Int}(hl:l=ae a)(hm:m=ae b)(ha:Fz a)(hb:Fz b)(h:Fz (a-b))(ht:Tb w):
 CL 199 #[S l,S m] w (aC w λv w'=>v=S (ae (a-b))):=by
 subst hl hm;refine aE func199 Z (I ?_);refine cl DI (fM (Y:=.tuple #[S (ae (a-b)),.int .i64 0]) (sW _ _ _ (ht.ext (aa2 _))) (qb1 gj (IE ha hb h))) ?_;rintro _ _ O rfl;have qr:=O.2;refine I ?_;exact ax (t:=4) (v:=S (ae (a-b))) Z qr Z Z
def M9 {a b:Int}(hl:l=ae a)(hm:m=ae b)(ha:Fz a)(hb:Fz b)(h:Fz (a*b))(ht:Tb w):
 CL 195 #[S l,S m] w (aC w λv w'=>v=S (ae (a*b))):=by
 subst hl hm;refine aE func195 Z (I ?_);refine cl OV (fM (Y:=.tuple #[S (ae (a*b)),.int .i64 0]) (Eg _ _ _ (ht.ext (aa2 _))) (qb1 gj (yf ha hb h))) ?_;rintro _ _ O rfl;have qr:=O.2;refine I ?_;exact ax (t:=4) (v:=S (ae (a*b))) Z qr Z Z
def IP {a b:Int}(hl:l=ae a)(hm:m=ae b)(ha:Fz a)(hb:Fz b)(hp:0<b)(ht:Tb w):
 CL 196 #[S l,S m] w (aC w λv w'=>v=S (ae (a/b))):=by
 subst hl hm;have qn:b≠0:=U;refine aE func196 Z (I ?_);refine clb Fp (hc:=fM (Y:=.tuple #[S (ae (a/b)),S (ae (a%b)),.int .i64 0]) (m9 _ _ _ (ht.ext (aa2 _))) (qb1 nJ (kv ha hb qn (eD ha U)))) (hk:=?_);rintro _ _ qr rfl;have O:=qr.2;refine I ?_;exact ax (t:=4) (v:=S (ae (a/b))) Z O Z Z
def j8 {b:Nat}(hl:l=nS a)(hm:m=nS b)(h:Fi (a+b))(ht:Tb w):CL 209 #[S l,S m] w (aC w λv _=>v=S (nS (a+b))):=M8 hl hm (ym h).1.z (ym h).2.z h.z ht
def gB {b:Nat}(hl:l=nS a)(hm:m=nS b)(ha:Fi a)(hb:Fi b)(h:Fi (a*b))(ht:Tb w):CL 195 #[S l,S m] w (aC w λv _=>v=S (nS (a*b))):=M9 hl hm ha.z hb.z h.z ht
def pt {b:Nat}(hl:l=nS a)(hm:m=nS b)(ha:Fi a)(hb:Fi b)(hp:0<b)(ht:Tb w):CL 196 #[S l,S m] w (aC w λv _=>v=S (nS (a/b))):=IP hl hm ha.z hb.z U ht
def yn {b:Nat}(hl:l=nS a)(hm:m=nS b)(ha:Fi a)(hb:Fi b)(hp:0<b)(ht:Tb w):
 CL 197 #[S l,S m] w (aC w λv w'=>v=S (nS (gl a b))):=by
 subst hl hm;refine aE func197 Z (I ?_);refine cl Fp (fM (Y:=.tuple #[S (nS (a/b)),S (nS (a%b)),.int .i64 0]) (m9 _ _ _ (ht.ext (aa2 _))) (qb1 nJ (IN ha hb hp))) ?_;rintro _ _ qn rfl;have O:=qn.2;refine I ?_;refine qO (b:=[48]) (I ?_);by_cases cm:(nS (a%b))=([48]);refine I ?_;exact ax (t:=4) (v:=S (nS (a/b))) Z O (Vb cm) Z;refine I ?_;refine cl ml (j8 Z yh (Pj ha hp cm) (ht.ext O)) ?_;rintro _ _ qr rfl;have O:=xt O qr.2;refine I ?_;exact ax (t:=4) (v:=S (nS (a/b+1))) Z O (Vd cm) Z
def uI (hn:n<1000000000)(ht:Tb w):
 CL 67 #[.int .i64 n] w (aC w λv w'=>v=S (nS n)):=by
 refine aE func67 Z (I ?_);refine clb Hg (hc:=fM (Y:=S (nS n)) (xU _ _ U U (ht.ext (aa2 _))) (qb1 S (zL n))) (hk:=?_);rintro _ _ O rfl;have qr:=O.2;refine I ?_;exact ax (t:=2) (v:=S (nS n)) Z qr Z Z
def Sc.fi {S:Nat}(h:Sc S):Fi S:=ek h.lt dc
def IQ (k:Nat):e8 (49::List.replicate k 48)=List.replicate k 0++[1]:=by simp[e8]
def IR (k:Nat):b8 10 (List.replicate k 0++[1])=10^k:=by
 induction k with
 |zero=>rfl
 |succ k ih=>rw[List.replicate_succ,List.cons_append];show 0+10*b8 10 (List.replicate k 0++[1])=_;rw[ih,Nat.pow_succ];omega
def En (h:k<200):(49::List.replicate k 48:List UInt8)=nS (10^k):=by
 have h1:eN (49::List.replicate k 48)=true:=by
  simp only[eN,Bool.and_eq_true,Bool.or_eq_true,decide_eq_true_eq]
  refine⟨⟨⟨by simp,by simp;omega⟩,?_⟩,Or.inr RW⟩
  rw[List.all_cons,List.all_eq_true.2]
  · decide
  · intro x hx;rw[List.eq_of_mem_replicate hx];decide
 have h2:=uw h1
 have h3:aN (49::List.replicate k 48)=10^k:=by unfold aN;rw[IQ,IR]
 rw[h3]at h2
 rw[<-h2];unfold nS ae
 rw[if_neg U,Int.natAbs_natCast]
def rf (k:Nat):Lib.repeatL [48] k=List.replicate k 48:=by
 induction k with
 |zero=>rfl
 |succ k ih=>simp[Lib.repeatL,List.replicate_succ]at ih ⊢;exact ih
def pu (h:k<200):([49]:List UInt8)++Lib.repeatL [48] k=nS (10^k):=by rw[rf,<-En h];rfl
def IS {b:Nat}(ha:a<10^199)(hb:b<10^199):Fz ((a:Int)-(b:Int)):=by unfold Fz;omega
def fO (hp:pl<200)(ht:Tb w):
 CL 119 #[.int .i64 pl] w (aC w λv w'=>v=.agg #[.int .i64 pl,S (nS (10^pl))]):=by
 refine aE func119 Z (I ?_);refine al oS (λ_ A1 qr=>?_);have O:=A1.2;refine I ?_;refine clb Hh (hc:=qW [48] pl _ U dc) (hk:=?_);rintro _ _ Ab rfl;have⟨qr,O⟩:=bD Ab.2 qr O;refine ac (km (a:=[49]) (b:=Lib.repeatL [48] pl) Z Z (by rw[rf];simp;omega) ?_);refine I ?_;refine SA qr (λ_ qn A2=>?_);have O:=bB qn O;refine I ?_;refine aI (v:=.agg #[.int .i64 pl,S (([49])++(Lib.repeatL [48] pl))]) (cF  rfl ?_) O (by rw[pu hp]);refine ag (t:=2) (cs:=[.int .i64 pl,S (([49])++(Lib.repeatL [48] pl))]) (b:=w.heap.size) (o:=0) lU Z G8 ?_ ?_;exact Z;exact aa1 A2 (i:=0) Z
def ci {a b:List UInt8}:
 CL 118 #[S a,S b] w (aC w λv w'=>v=.agg #[S a,S b]):=by
 refine aE func118 Z (I ?_);refine al aQ (λ_ A1 qr=>?_);have O:=A1.2;refine I ?_;refine SA qr (λ_ A2 qn=>?_);have O:=bB A2 O;refine I ?_;refine aI (v:=.agg #[S a,S b]) (cF  rfl ?_) O Z;refine ag (t:=4) (cs:=[S a,S b]) (b:=w.heap.size) (o:=0) eB Z aM ?_ ?_;exact Z;exact aa1 qn (i:=0) Z
def Na {d:Nat}(hS:Sc sO)(hn:Fi n)(hd:Fi d)(h0:0<d)(hm:Fi (n*sO))(ht:Tb w):
 CL 161 #[.agg #[.int .i64 pl,S (nS sO)],.agg #[S (nS n),S (nS d)]] w (aC w λv w'=>v=.agg #[S (nS ((bV sO n d).1)),S (nS ((bV sO n d).2))]):=by
 refine aE func161 Z (I ?_);refine bx (λ_ ny qr=>?_);have O:=ny.2;refine bx (λAp Ad qn=>?_);have⟨qr,O⟩:=bD Ad.2 qr O;refine al cO (λ_ Aq A1=>?_);have⟨qr,qn,O⟩:=bC Aq.2 qr qn O;refine I ?_;refine cl iB (gB Z Z hn hS.fi hm (ht.ext O)) ?_;rintro _ _ Ao rfl;have⟨qr,qn,A1,O⟩:=bW Ao.2 qr qn A1 O;refine I ?_;refine bY 7 ?_;refine sf ?_;refine aF (V:=S (nS ((n*sO)/d))) (λ_ _ Am _=>?_) ?_;refine cl xq (pt Z Z hm hd h0 (ht.ext (xt O Am))) ?_;rintro _ _ As rfl;have od:=As.2;refine I ?_;exact fs ⟨od,rfl⟩;refine sf ?_;intro _ _ Af _;have⟨qr,qn,A1,O⟩:=bW Af.2 qr qn A1 O;refine cl xu (yn Z Z hm hd h0 (ht.ext O)) ?_;rintro _ _ Ab rfl;have⟨qr,qn,A1,O⟩:=bW Ab.2 qr qn A1 O;refine I ?_;refine SA A1 (λ_ A2 Ar=>?_);have⟨qr,qn⟩:=eR A2 qr qn;have O:=bB A2 O;refine I ?_;refine aI (v:=.agg #[S (nS ((n*sO)/d)),S (nS (gl (n*sO) d))]) (cF  rfl ?_) O Z;refine ag (t:=4) (cs:=[S (nS ((n*sO)/d)),S (nS (gl (n*sO) d))]) (b:=Ap.heap.size) (o:=0) jr Z fZ ?_ ?_;exact Z;exact aa1 Ar (i:=0) Z
def uJ (hS:Sc sO)(h9:n<10^9)(hm:Fi (n*sO))(ht:Tb w):
 CL 248 #[.agg #[.int .i64 pl,S (nS sO)],.int .i64 n] w (aC w λv w'=>v=.agg #[S (nS ((n*sO,n*sO).1)),S (nS ((n*sO,n*sO).2))]):=by
 have Ad:Fi n:=ek (k:=9) h9 dc;refine aE func248 Z (I ?_);refine bx (λA2 Am qr=>?_);have O:=Am.2;refine al cO (λ_ As qn=>?_);have⟨qr,O⟩:=bD As.2 qr O;refine I ?_;refine bY 4 ?_;refine sf ?_;refine aF (V:=S (nS n)) (λ_ _ Ao _=>?_) ?_;refine cl tP (uI h9 (ht.ext (xt O Ao))) ?_;rintro _ _ Ar rfl;have Aq:=Ar.2;refine I ?_;exact fs ⟨Aq,rfl⟩;refine sf ?_;intro _ _ Ab _;have⟨qr,qn,O⟩:=bC Ab.2 qr qn O;refine cl iB (gB Z Z Ad hS.fi hm (ht.ext O)) ?_;rintro _ _ Ap rfl;have⟨qr,qn,O⟩:=bC Ap.2 qr qn O;refine I ?_;refine SA qn (λ_ A1 Af=>?_);have qr:=pb A1 qr;have O:=bB A1 O;refine I ?_;refine aI (v:=.agg #[S (nS (n*sO)),S (nS (n*sO))]) (cF  rfl ?_) O Z;refine ag (t:=4) (cs:=[S (nS (n*sO)),S (nS (n*sO))]) (b:=A2.heap.size) (o:=0) jr Z fZ ?_ ?_;exact Z;exact aa1 Af (i:=0) Z
def wE {a b:N2}(h1:Fi (a.1+b.1))(h2:Fi (a.2+b.2))(ht:Tb w):
 CL 165 #[.agg #[.int .i64 pl,S (nS sO)],.agg #[S (nS a.1),S (nS a.2)],.agg #[S (nS b.1),S (nS b.2)]] w (aC w λv w'=>v=.agg #[S (nS ((fE a b).1)),S (nS ((fE a b).2))]):=by
 refine aE func165 Z (I ?_);refine bx (λ_ Aq qr=>?_);have O:=Aq.2;refine bx (λ_ Av qn=>?_);have⟨qr,O⟩:=bD Av.2 qr O;refine bx (λAm od A1=>?_);have⟨qr,qn,O⟩:=bC od.2 qr qn O;refine al cO (λ_ Ar A2=>?_);have⟨qr,qn,A1,O⟩:=bW Ar.2 qr qn A1 O;refine I ?_;refine bY 9 ?_;refine sf ?_;refine aF (V:=S (nS (a.1+b.1))) (λ_ _ Ao _=>?_) ?_;refine cl ml (j8 Z Z h1 (ht.ext (xt O Ao))) ?_;rintro _ _ As rfl;have Ad:=As.2;refine I ?_;exact fs ⟨Ad,rfl⟩;refine sf ?_;intro _ _ Aw _;have⟨qr,qn,A1,A2,O⟩:=eE Aw.2 qr qn A1 A2 O;refine cl ml (j8 Z Z h2 (ht.ext O)) ?_;rintro _ _ Af rfl;have⟨qr,qn,A1,A2,O⟩:=eE Af.2 qr qn A1 A2 O;refine I ?_;refine SA A2 (λ_ Ab Ap=>?_);have⟨qr,qn,A1⟩:=kt Ab qr qn A1;have O:=bB Ab O;refine I ?_;refine aI (v:=.agg #[S (nS (a.1+b.1)),S (nS (a.2+b.2))]) (cF  rfl ?_) O Z;refine ag (t:=6) (cs:=[S (nS (a.1+b.1)),S (nS (a.2+b.2))]) (b:=Am.heap.size) (o:=0) jr Z fZ ?_ ?_;exact Z;exact aa1 Ap (i:=0) Z
def Cw {a b:N2}(ha:Bk 199 a)(hb:Bk 199 b)(ht:Tb w):
 CL 163 #[.agg #[.int .i64 pl,S (nS sO)],.agg #[S (nS a.1),S (nS a.2)],.agg #[S (nS b.1),S (nS b.2)]] w (aC w λv w'=>v=.agg #[S (ae ((Ct a b).1)),S (ae ((Ct a b).2))]):=by
 have fa:=ha.fi dc;have fb:=hb.fi dc;refine aE func163 Z (I ?_);refine bx (λ_ As qr=>?_);have O:=As.2;refine bx (λ_ Ao qn=>?_);have⟨qr,O⟩:=bD Ao.2 qr O;refine bx (λAf od A1=>?_);have⟨qr,qn,O⟩:=bC od.2 qr qn O;refine al cO (λ_ Am A2=>?_);have⟨qr,qn,A1,O⟩:=bW Am.2 qr qn A1 O;refine I ?_;refine bY 9 ?_;refine sf ?_;refine aF (V:=S (ae (((a.1:Nat):Int)-((b.2:Nat):Int)))) (λ_ _ Aq _=>?_) ?_;refine cl Hl (Em Z Z fa.1.z fb.2.z (IS ha.1 hb.2) (ht.ext (xt O Aq))) ?_;rintro _ _ Av rfl;have Ap:=Av.2;refine I ?_;exact fs ⟨Ap,rfl⟩;refine sf ?_;intro _ _ Aw _;have⟨qr,qn,A1,A2,O⟩:=eE Aw.2 qr qn A1 A2 O;refine cl Hl (Em Z Z fa.2.z fb.1.z (IS ha.2 hb.1) (ht.ext O)) ?_;rintro _ _ Ad rfl;have⟨qr,qn,A1,A2,O⟩:=eE Ad.2 qr qn A1 A2 O;refine I ?_;refine SA A2 (λ_ Ab Ar=>?_);have⟨qr,qn,A1⟩:=kt Ab qr qn A1;have O:=bB Ab O;refine I ?_;refine aI (v:=.agg #[S (ae (((a.1:Nat):Int)-((b.2:Nat):Int))),S (ae (((a.2:Nat):Int)-((b.1:Nat):Int)))]) (cF  rfl ?_) O Z;refine ag (t:=6) (cs:=[S (ae (((a.1:Nat):Int)-((b.2:Nat):Int))),S (ae (((a.2:Nat):Int)-((b.1:Nat):Int)))]) (b:=Af.heap.size) (o:=0) jr Z fZ ?_ ?_;exact Z;exact aa1 Ar (i:=0) Z
def jO {a b:N2}(hS:Sc sO)(ha:Bk 95 a)(hb:Bk 95 b)(ht:Tb w):
 CL 200 #[.agg #[.int .i64 pl,S (nS sO)],.agg #[S (nS a.1),S (nS a.2)],.agg #[S (nS b.1),S (nS b.2)]] w (aC w λv w'=>v=.agg #[S (nS ((cg sO a b).1)),S (nS ((cg sO a b).2))]):=by
 have fa:=ha.fi dc;have fb:=hb.fi dc;refine aE func200 Z (I ?_);refine bx (λ_ Ap qr=>?_);have O:=Ap.2;refine bx (λ_ Aw qn=>?_);have⟨qr,O⟩:=bD Aw.2 qr O;refine bx (λAm Ax A1=>?_);have⟨qr,qn,O⟩:=bC Ax.2 qr qn O;refine al cO (λ_ E9 A2=>?_);have⟨qr,qn,A1,O⟩:=bW E9.2 qr qn A1 O;refine I ?_;refine bY 15 ?_;refine sf ?_;refine aF (V:=S (nS (a.1*b.1))) (λ_ _ Ay _=>?_) ?_;refine clb iB (hc:=gB Z Z fa.1 fb.1 (cV ha.1 hb.1 dc) (ht.ext (xt O Ay))) (hk:=?_);rintro _ _ E7 rfl;have E0:=E7.2;refine I ?_;exact fs ⟨E0,rfl⟩;refine sf ?_;refine aF (V:=S (nS ((a.1*b.1)/sO))) (λ_ _ Ao _=>?_) ?_;refine clb xq (hc:=pt Z Z (cV ha.1 hb.1 dc) hS.fi hS.pos (ht.ext (xt O Ao))) (hk:=?_);rintro _ _ Af rfl;have E4:=Af.2;refine I ?_;exact fs ⟨E4,rfl⟩;refine sf ?_;refine aF (V:=S (nS (a.2*b.2))) (λ_ _ As _=>?_) ?_;refine clb iB (hc:=gB Z Z fa.2 fb.2 (cV ha.2 hb.2 dc) (ht.ext (xt O As))) (hk:=?_);rintro _ _ Av rfl;have Ad:=Av.2;refine I ?_;exact fs ⟨Ad,rfl⟩;refine sf ?_;intro _ _ Ar _;have⟨qr,qn,A1,A2,O⟩:=eE Ar.2 qr qn A1 A2 O;refine clb xu (hc:=yn Z Z (cV ha.2 hb.2 dc) hS.fi hS.pos (ht.ext O)) (hk:=?_);rintro _ _ Aq rfl;have⟨qr,qn,A1,A2,O⟩:=eE Aq.2 qr qn A1 A2 O;refine I ?_;refine SA A2 (λ_ Ab E1=>?_);have⟨qr,qn,A1⟩:=kt Ab qr qn A1
 have O:=bB Ab O;refine I ?_;refine aI (v:=.agg #[S (nS ((a.1*b.1)/sO)),S (nS (gl (a.2*b.2) sO))]) (cF  rfl ?_) O Z;refine ag (t:=6) (cs:=[S (nS ((a.1*b.1)/sO)),S (nS (gl (a.2*b.2) sO))]) (b:=Am.heap.size) (o:=0) jr Z fZ ?_ ?_;exact Z;exact aa1 E1 (i:=0) Z
def FL {a b:N2}(hS:Sc sO)(ha:Bk 95 a)(hb:Bk 190 b)(h1:0<b.1)(h2:0<b.2)(ht:Tb w):
 CL 205 #[.agg #[.int .i64 pl,S (nS sO)],.agg #[S (nS a.1),S (nS a.2)],.agg #[S (nS b.1),S (nS b.2)]] w (aC w λv w'=>v=.agg #[S (nS ((vQ sO a b).1)),S (nS ((vQ sO a b).2))]):=by
 have fa:=ha.fi dc;have fb:=hb.fi dc;refine aE func205 Z (I ?_);refine bx (λ_ Ap qr=>?_);have O:=Ap.2;refine bx (λ_ Aw qn=>?_);have⟨qr,O⟩:=bD Aw.2 qr O;refine bx (λAm Ax A1=>?_);have⟨qr,qn,O⟩:=bC Ax.2 qr qn O;refine al cO (λ_ E9 A2=>?_);have⟨qr,qn,A1,O⟩:=bW E9.2 qr qn A1 O;refine I ?_;refine bY 15 ?_;refine sf ?_;refine aF (V:=S (nS (a.1*sO))) (λ_ _ Ay _=>?_) ?_;refine clb iB (hc:=gB Z Z fa.1 hS.fi (cV ha.1 hS.lt dc) (ht.ext (xt O Ay))) (hk:=?_);rintro _ _ E7 rfl;have E0:=E7.2;refine I ?_;exact fs ⟨E0,rfl⟩;refine sf ?_;refine aF (V:=S (nS ((a.1*sO)/b.2))) (λ_ _ Ao _=>?_) ?_;refine clb xq (hc:=pt Z Z (cV ha.1 hS.lt dc) fb.2 h2 (ht.ext (xt O Ao))) (hk:=?_);rintro _ _ Af rfl;have E4:=Af.2;refine I ?_;exact fs ⟨E4,rfl⟩;refine sf ?_;refine aF (V:=S (nS (a.2*sO))) (λ_ _ As _=>?_) ?_;refine clb iB (hc:=gB Z Z fa.2 hS.fi (cV ha.2 hS.lt dc) (ht.ext (xt O As))) (hk:=?_);rintro _ _ Av rfl;have Ad:=Av.2;refine I ?_;exact fs ⟨Ad,rfl⟩;refine sf ?_;intro _ _ Ar _;have⟨qr,qn,A1,A2,O⟩:=eE Ar.2 qr qn A1 A2 O;refine clb xu (hc:=yn Z Z (cV ha.2 hS.lt dc) fb.1 h1 (ht.ext O)) (hk:=?_);rintro _ _ Aq rfl;have⟨qr,qn,A1,A2,O⟩:=eE Aq.2 qr qn A1 A2 O;refine I ?_;refine SA A2 (λ_ Ab E1=>?_);have⟨qr,qn,A1⟩:=kt Ab qr qn A1
 have O:=bB Ab O;refine I ?_;refine aI (v:=.agg #[S (nS ((a.1*sO)/b.2)),S (nS (gl (a.2*sO) b.1))]) (cF  rfl ?_) O Z;refine ag (t:=6) (cs:=[S (nS ((a.1*sO)/b.2)),S (nS (gl (a.2*sO) b.1))]) (b:=Am.heap.size) (o:=0) jr Z fZ ?_ ?_;exact Z;exact aa1 E1 (i:=0) Z
def pw {a:N2}{d:Nat}(ha:Bk 190 a)(hn:n<10^9)(hd:d<10^9)(h0:0<d)(ht:Tb w):
 CL 204 #[.agg #[.int .i64 pl,S (nS sO)],.agg #[S (nS a.1),S (nS a.2)],.int .i64 n,.int .i64 d] w (aC w λv w'=>v=.agg #[S (nS ((cH a n d).1)),S (nS ((cH a n d).2))]):=by
 have fa:=ha.fi dc;refine aE func204 Z (I ?_);refine bx (λ_ wr qr=>?_);have O:=wr.2;refine bx (λAx Ay qn=>?_);have⟨qr,O⟩:=bD Ay.2 qr O;refine al cO (λ_ E7 A1=>?_);have⟨qr,qn,O⟩:=bC E7.2 qr qn O;refine I ?_;refine cl tP (uI hn (ht.ext O)) ?_;rintro _ _ Aw rfl;have⟨qr,qn,A1,O⟩:=bW Aw.2 qr qn A1 O;refine I ?_;refine cl tP (uI hd (ht.ext O)) ?_;rintro _ _ E0 rfl;have⟨qr,qn,A1,O⟩:=bW E0.2 qr qn A1 O;refine I ?_;refine bY 11 ?_;refine sf ?_;refine aF (V:=S (nS (a.1*n))) (λ_ _ Af _=>?_) ?_;refine clb iB (hc:=gB Z Z fa.1 (ek hn dc) (cV ha.1 hn dc) (ht.ext (xt O Af))) (hk:=?_);rintro _ _ Ab rfl;have Am:=Ab.2;refine I ?_;exact fs ⟨Am,rfl⟩;refine sf ?_;refine aF (V:=S (nS ((a.1*n)/d))) (λ_ _ Aq _=>?_) ?_;refine clb xq (hc:=pt Z Z (cV ha.1 hn dc) (ek hd dc) h0 (ht.ext (xt O Aq))) (hk:=?_);rintro _ _ As rfl;have Av:=As.2;refine I ?_;exact fs ⟨Av,rfl⟩;refine sf ?_;refine aF (V:=S (nS (a.2*n))) (λ_ _ Ap _=>?_) ?_;refine clb iB (hc:=gB Z Z fa.2 (ek hn dc) (cV ha.2 hn dc) (ht.ext (xt O Ap))) (hk:=?_);rintro _ _ Ao rfl;have Ar:=Ao.2;refine I ?_;exact fs ⟨Ar,rfl⟩;refine sf ?_;intro _ _ E4 _;have⟨qr,qn,A1,O⟩:=bW E4.2 qr qn A1 O;refine clb xu (hc:=yn Z Z (cV ha.2 hn dc) (ek hd dc) h0 (ht.ext O)) (hk:=?_)
 rintro _ _ E1 rfl;have⟨qr,qn,A1,O⟩:=bW E1.2 qr qn A1 O;refine I ?_;refine SA A1 (λ_ A2 Ad=>?_);have⟨qr,qn⟩:=eR A2 qr qn;have O:=bB A2 O;refine I ?_;refine aI (v:=.agg #[S (nS ((a.1*n)/d)),S (nS (gl (a.2*n) d))]) (cF  rfl ?_) O Z;refine ag (t:=8) (cs:=[S (nS ((a.1*n)/d)),S (nS (gl (a.2*n) d))]) (b:=Ax.heap.size) (o:=0) jr Z fZ ?_ ?_;exact Z;exact aa1 Ad (i:=0) Z
end
section
open Go Go.Eng Go.RowKit Tryz
structure jP (n:Nat)(q0:World->Prop):Prop where
 ext:∀{A B:World},bF A B->q0 A->q0 B
 put:∀{A B:World} {b:Nat},fU A B b->n<=b->q0 A->q0 B
structure oN (bs:List Nat)(W W':World):Prop where
 size:W.heap.size<=W'.heap.size
 blk:∀{b:Nat} {t:TypeId} {cs:Array Value},b∉bs->au W b t cs->au W' b t cs
def oN.trans (h:oN bs A B)(k:oN bs B C):oN bs A C:=⟨qa8 h.size k.size,λO hb=>k.blk O (h.blk O hb)⟩
def oN.of (h:dN bs A B):oN bs A B:=⟨h.size,λO hb=>h.blk O hb⟩
def oN.putObj {b:Nat}{r r':Loop}(h:A.heap[b]?=some (.loop r)):oN bs A (A.putObj b (.loop r')):=
 ⟨by simp,fun{c t cs} _ hb=>(World.putObj_heap_other (λe=>by subst e;unfold au at hb;rw[h]at hb;cases hb)).trans hb⟩
def ec (W:World)(b:Nat)(o:Obj):fU W (W.putObj b o) b:=⟨rfl,rfl,rfl,by simp,λk hk=>World.putObj_heap_other hk⟩
def Pk (P:Program)(gf:Nat)(lb:List Value)(enc:Nat->List Value)(bs:List Nat)(Kq:World->Prop)(M:Nat)(w:World):Prop:=
 ∀ (l:Nat) (q5 Jx:Nat->World->Prop) (W:World),Below w.heap.size w W->(∀k,jP W.heap.size (q5 k))->(∀k,jP W.heap.size (Jx k))->(∀k W1,q5 k W1->k<M)->
  (∀k W1,q5 k W1->YieldAt Fence.wide 7 P l (enc k).toArray W1 λe W'=>(e=.returned (.bool true)/\q5 (k+1) W'/\oN bs W1 W'/\(Kq W1->Kq W'))\/(e=.returned (.bool false)/\Jx (k+1) W'))->
  q5 0 W->CallsIn Fence.wide 8 P gf (#[.func (.yield l) #[] #[]]++lb.toArray) W λe W'=>(∃v,e=.returned v)/\∃k,Jx k W'
def Xa (bs:List Nat)(Kq:World->Prop)(q0:Nat->World->Prop)(Ix:Code->Nat->World->Prop)(k:Nat)(W:World):Exit->Act->World->Prop
 | .normal,_,W'=>KeepsOthers W W'/\oN bs W W'/\(Kq W->Kq W')/\q0 k W'
 | .ret,_,W'=>KeepsOthers W W'/\Ix .ret k W'
 | .exit id,_,W'=>KeepsOthers W W'/\Ix (.exit id) k W'
 |_,_,_=>False
def uK (W:World)(b:Nat)(r:Loop):Prop:=W.heap[b+1]?=some (.loop r)/\W.heap[b]?=some (.deferred (some []))
def uK.put {b:Nat}{r:Loop}(h:uK W b r)(r':Loop):uK (W.putObj (b+1) (.loop r')) b r':=
 ⟨World.putObj_heap_same (Array.getElem?_eq_some_iff.1 h.1).1,(World.putObj_heap_other J).trans h.2⟩
def uK.kept {b:Nat}{r:Loop}(h:uK W b r)(k:KeepsOthers W W'):uK W' b r:=⟨k.same _ _ h.1 Z,k.same _ _ h.2 Z⟩
def uK.stab {b:Nat}{r:Loop}(h:b+1<n):jP n λW=>uK W b r:=
 ⟨λk h=>⟨k.heap h.1,k.heap h.2⟩,λk hb h=>⟨(k.block _ J).trans h.1,(k.block _ J).trans h.2⟩⟩
def jP.and {q0 q5:World->Prop}(h:jP n q0)(k:jP n q5):jP n λW=>q0 W/\q5 W:=⟨λe x=>⟨h.ext e x.1,k.ext e x.2⟩,λe l x=>⟨h.put e l x.1,k.put e l x.2⟩⟩
def jP.ex {α:Type}{q0:α->World->Prop}(h:∀a,jP n (q0 a)):jP n λW=>∃a,q0 a W:=⟨λe ⟨a,x⟩=>⟨a,(h a).ext e x⟩,λe l ⟨a,x⟩=>⟨a,(h a).put e l x⟩⟩
def jP.mono {m:Nat}{q0:World->Prop}(h:jP n q0)(hl:n<=m):jP m q0:=⟨h.ext,λk hb=>h.put k (qa8 hl hb)⟩
def IT {P:Program}{e:Nat->Value}{ds:List Deferred}{Q:Exit->Act->World->Prop}{enc:Nat->List Value}{Kq:World->Prop}{gf:Nat}{lb:List Value}{g:Operand}{assign body:Code}(hg:ev N e g=.func (.func gf) #[] lb.toArray)(eg:Enters P gf)(hit:Pk P gf lb enc bs Kq M w)(hKq:jP w.heap.size Kq)(hps:∀i,(enc i).length=ps.length)(q0:Nat->World->Prop)(Ix:Code->Nat->World->Prop)(hI:∀k,jP w.heap.size (q0 k))(hIx:∀c k,jP w.heap.size (Ix c k))(hM:∀k W,q0 k W->k<M)(h0:q0 0 w)(A:(Nat->Value)->Nat->(Nat->Value)->World->Prop)(hA:∀k e' W b r r',w.heap.size<=b->W.heap[b]?=some (.loop r)->A e k e' W->A e k e' (W.putObj b (.loop r')))(hassign:∀l k W K,q0 k W->(∀e' W',bF W W'->A e k e' W'->K (act N e' []) W')->assign.wpIn (Fw (some l)) 7 P (Exit.then K (λ_ _ _=>False)) (act N (jj e ps (enc k)) []) W)(hbody:∀l k e' W,A e k e' W->body.wpIn (Fw (some l)) 7 P (Xa bs Kq q0 Ix (k+1) W) (act N e' []) W)(hstop:∀D c k W,w.heap.size<=D->Ix c k W->oV W D->c.wpIn (Fw none) 9 P Q (act N e (⟨.collected D,#[]⟩::ds)) W):
 (Code.rangeFunc g ps.toArray assign body).wpIn (Fw none) 9 P Q (act N e ds) w:=by
 refine wpIn_rangeFunc (F:=Fence.wide) (n:=9) λfn Ad=>?_
 obtain⟨R,hR⟩:∃R:LoopState->Option Code->Loop,R=λAo Af=>{state:=Ao,pending:=Af,fn,tmps:=(act N e ds).tmps,params:=ps.toArray,assign,body,defers:=w.heap.size}:=⟨_,rfl⟩
 obtain⟨V,hV⟩:∃V,(w.alloc (.deferred (some []))).alloc (.loop (R .ready none))=V:=⟨_,rfl⟩
 have hB:uK V w.heap.size (R .ready none):=by
  refine⟨?_,?_⟩ <;>rw[<-hV]
  · have h:=World.alloc_heap_new (w.alloc (.deferred (some []))) (.loop (R .ready none));rwa [World.size_alloc]at h
  · exact(Below.heap_alloc _ _ _ RW).trans (World.alloc_heap_new w _)
 have A1:w.heap.size+1<V.heap.size:=by rw[<-hV];simp
 have A2:Below w.heap.size w V:=by rw[<-hV];exact((Below.refl _ w).alloc (qa0 _) _).alloc RW _
 have hI0:q0 0 V:=(hI 0).ext A2 h0
 refine⟨w.heap.size+1,[⟨.collected w.heap.size,#[]⟩],V,⟨.fn (.func gf) lb.toArray,#[.func (.yield (w.heap.size+1)) #[] #[]]⟩,V,gf,#[.func (.yield (w.heap.size+1)) #[] #[]]++lb.toArray,V,?_,?_,?_,?_,λ_=>by omega,?_⟩
 · rw[<-hV,hR];exact run_enterLoop_outer _ _ _ _ _
 · have hg':(act N e ds).eval g=.func (.func gf) #[] lb.toArray:=by rw[dI];exact hg
   simp only[resolve,hg'];simp[go_sem]
 · intro Aq _;trivial
 · simp[invoke,go_sem];exact eg _ _
 refine(hit (w.heap.size+1) (λk W=>q0 k W/\uK W w.heap.size (R .ready none)) (λk W=>∃c,Ix c k W/\uK W w.heap.size (R .done (some c))) V A2
  (λk=>((hI k).mono J).and (uK.stab A1)) (λk=>jP.ex λc=>((hIx c k).mono J).and (uK.stab A1)) (λk W h=>hM k W h.1) ?_ ⟨hI0,hB⟩).mono ?_
 ·
  rintro k W ⟨hi,hk⟩
  have hy:=run_yield (P:=P) (args:=(enc k).toArray) hk.1 (by rw[hR];simpa using hps k)
  rw[hR]at hy
  refine⟨fn,_,assign,body,hy,roundIn_of_wpIn Ad ?_⟩
  have hfold:(⟨(ps.toArray.zip (enc k).toArray).foldl (λt (p,v)=>t.setIfInBounds p v) (act N e ds).tmps,[]⟩:Act)=act N (jj e ps (enc k)) []:=by
   have h:=oW N ps (enc k) e
   have h2:act N (jj e ps (enc k)) []=⟨(act N (jj e ps (enc k)) []).tmps,[]⟩:=rfl
   rw[h2,<-h]
   simp only[List.zip_toArray,List.foldl_toArray]
   rfl
  rw[hfold]
  refine hassign (w.heap.size+1) k W _ hi λe' W' hx ha=>?_
  have hk:uK W' w.heap.size (R .ready none):=⟨hx.heap hk.1,hx.heap hk.2⟩
  refine⟨_,run_beginRound hk.1 (by rw[hR]),?_⟩
  have Am:=hk.put {R .ready none with state:=.busy}
  refine wpIn_mono (hbody (w.heap.size+1) k e' _ (hA k e' _ _ _ _ J hk.1 ha)) ?_
  have Ab:oN bs W W':=⟨hx.size,λ_ h=>h.ext hx⟩
  have qn:∀(j:Option Code) (W3:World),KeepsOthers (W'.putObj (w.heap.size+1) (.loop {R .ready none with state:=.busy})) W3->
   uK W3 w.heap.size {R .ready none with state:=.busy}/\(Instr.endRound (w.heap.size+1) j).run P W3=.ok (.bool j.isNone) (W3.putObj (w.heap.size+1) (.loop (R (if j.isNone then .ready else .done) j))):=λj W3 h3=>by
   have h4:=Am.kept h3
   refine⟨h4,?_⟩
   have O:=run_endRound (P:=P) j h4.1
   rw[hR]at O ⊢
   exact O
  rintro x Ar W3 qr
  cases x with
  | normal=>
    obtain⟨h1,Ap,h2,h3⟩:=qr
    obtain⟨h4,O⟩:=qn none W3 h1
    exact⟨_,_,O,.inl ⟨rfl,⟨(hI _).put (ec _ _ _) J h3,h4.put _⟩,Ab.trans (((oN.putObj hk.1).trans Ap).trans (oN.putObj h4.1)),λh=>hKq.put (ec _ _ _) J (h2 (hKq.put (ec _ _ _) J (hKq.ext hx h)))⟩⟩
  | ret=>
    obtain⟨h1,h3⟩:=qr
    obtain⟨h4,O⟩:=qn (some .ret) W3 h1
    exact⟨_,_,O,.inr ⟨rfl,.ret,(hIx _ _).put (ec _ _ _) J h3,h4.put _⟩⟩
  | exit id=>
    obtain⟨h1,h3⟩:=qr
    obtain⟨h4,O⟩:=qn (some (.exit id)) W3 h1
    exact⟨_,_,O,.inr ⟨rfl,.exit id,(hIx _ _).put (ec _ _ _) J h3,h4.put _⟩⟩
  |goto t=>exact qr.elim
  |panic c=>exact qr.elim
  |outgrown=>exact qr.elim
 · rintro x W2 ⟨⟨v,rfl⟩,k,c,hi,hk⟩
   have h:=run_endLoop (P:=P) hk.1 (by rw[hR];simp)
   rw[hR]at h
   refine⟨some c,_,h,hstop _ c k _ (qa0 _) ((hIx c k).put (ec _ _ _) J hi) (hk.put _).2⟩
end
section
set_option maxRecDepth 100000
open Go Go.Eng Go.RowKit Tryz
attribute [local irreducible] wpListIn Code.wpIn Oper.wpIn Exit.then Exit.inBlock Exit.noGoto
set_option maxHeartbeats 40000000
def vN (p:N2):Value:=.agg #[S (nS p.1),S (nS p.2)]
def fv (g:Nat)(lb:Array Value):Value:=.func (.func g) #[] lb
def FM (t0:N2)(f:Value)(W:World)(v:Value):Prop:=∃b1 b2,v=.func (.func 250) #[] #[pT b1,pT b2]/\au W b1 165 #[S (nS t0.1),S (nS t0.2)]/\au W b2 206 #[f]
def FM.ext {t0:N2}{f v:Value}(k:bF A B)(h:FM t0 f A v):FM t0 f B v:=by
 obtain⟨b1,b2,e,h1,h2⟩:=h
 exact⟨b1,b2,e,h1.ext k,h2.ext k⟩
def rV (q:Bool)(t l:N2):Bool:=q&&(decide (t.2<=2)&&decide (t.2*2<=l.2+2))
section
variable {t l:N2}
def Xb (h:q=false):Value.bool q=.bool (rV q t l):=by subst h;rfl
def Xc (h:q=true)(h1:¬aG ((t.2:Nat):Int) ((2:Nat):Int)<=0):Value.bool false=.bool (rV q t l):=by
 rw[bS]at h1;subst h;unfold rV;rw[decide_eq_false U];rfl
def Xd (h:q=true)(h1:aG ((t.2:Nat):Int) ((2:Nat):Int)<=0):Value.bool (decide (aG ((t.2*2:Nat):Int) ((l.2+2:Nat):Int)<=0))=.bool (rV q t l):=by
 rw[bS]at h1;subst h;unfold rV;rw[decide_eq_true (show t.2<=2 by omega),Bool.true_and,Bool.true_and]
 congr 1;rw[decide_eq_decide,bS];omega
end
def vS (T:Nat->N2):Nat->N2
 |0=>(0,0)
 |k+1=>T k
def zS.last {T:Nat->N2}{m:Nat}(h:zS T m)(hk:k<=m):rV (decide (k≠0)) (T k) (vS T k)=decide (k=m):=by
 unfold rV
 by_cases e:k=m
 · subst e
   have O:=h.pos
   obtain⟨p,rfl⟩:∃p,k=p+1:=⟨k-1,by omega⟩
   have:=h.stop
   rw[decide_eq_true U,decide_eq_true this.1,decide_eq_true (show(T (p+1)).2*2<=(vS T (p+1)).2+2 from this.2),decide_eq_true Z];rfl
 · rw [decide_eq_false e]
   rcases h.go k U with h0|h0
   · rw[decide_eq_false U];rfl
   · cases k with
     |zero=>rfl
     | succ p=>
       have h1:¬((T (p+1)).2<=2/\(T (p+1)).2*2<=(vS T (p+1)).2+2):=h0
       by_cases h2:(T (p+1)).2<=2
       · rw[decide_eq_false (λe=>h1 ⟨h2,e⟩)];simp
       · rw[decide_eq_false h2];simp
def IU {b:Nat}(hl:l=nS a)(hm:m=nS b)(ha:Fi a)(hb:Fi b):CL 125 #[S l,S m] w (aC w λv _=>v=.int .i64 (aG (a:Int) (b:Int))):=by
 subst hl hm
 exact fM (sX _ _ _) (qb1 (Value.int .i64) (yg ha.z hb.z))
def rW (hS:Sc sO)(ht:Tb w):CL 248 #[.agg #[.int .i64 pl,S (nS sO)],.int .i64 0] w (aC w λv _=>v=.agg #[S (nS 0),S (nS 0)]):=by
 have h:=uJ (n:=0) (pl:=pl) hS dc (by rw[Nat.zero_mul];unfold Fi;decide) ht
 simp only[Nat.zero_mul]at h
 exact h
def zX {t0:N2}{g:Nat}:
 CL 202 #[.agg #[S (nS t0.1),S (nS t0.2)],.func (.func g) #[] lb] w (aC w λv w'=>FM t0 (fv g lb) w' v):=by
 refine aE func202 Z (I ?_);refine bx (λA1 A2 qr=>?_);have O:=A2.2;refine bx (v:=.func (.func g) #[] lb) (hx:=rfl) (λ_ qn Ab=>?_);have qr:=be qn.2 qr;have O:=xt O qn.2;refine ac (bO (v:=.nilFunc) Z ?_);refine I ?_;refine ac (cL (vf:=[]) (vc:=[pT w.heap.size,pT A1.heap.size]) Z Z ?_);refine I ?_;exact ax (t:=4) (v:=.func (.func 250) #[] #[pT w.heap.size,pT A1.heap.size]) Z O ⟨_,_,rfl,qr,Ab⟩ Z
def Nb {t l:N2}(h1:au w b1 4 #[.bool q])(h2:au w b2 165 #[S (nS l.1),S (nS l.2)])(ht2:Bk 99 t)(hl:Bk 99 l)(ht:Tb w):
 CL 249 #[.agg #[S (nS t.1),S (nS t.2)],pT b1,pT b2] w (aC w λv w'=>v=.bool (rV q t l)):=by
 have qr:=(ht2.fi dc).2;have A1:Fi (t.2*2):=by have:=ht2.2;unfold Fi;omega
 have A2:Fi (l.2+2):=by have:=hl.2;unfold Fi;omega
 refine aE func249 Z (I ?_);refine bx (λ_ qn _=>?_);have h1:=be qn.2 h1;have h2:=be qn.2 h2;have O:=qn.2;refine I ?_;rcases qa4 q with cm|cm;by_cases cr:(aG ((t.2:Nat):Int) ((2:Nat):Int))<=0;refine bY 13 ?_;refine sf ?_;refine aF (V:=.int .i64 (aG ((t.2:Nat):Int) ((2:Nat):Int))) (λ_ _ _ _=>?_) ?_;refine I ?_;refine clb zd (hc:=IU Z uF qr (ek (k:=1) dc dc)) (hk:=?_);rintro _ _ Aw rfl;have As:=Aw.2;refine I ?_;exact fs ⟨As,rfl⟩;refine sf ?_;refine aF (V:=S (nS (t.2*2))) (λ_ _ Ar _=>?_) ?_;refine I ?_;refine clb iB (hc:=gB Z uF qr (ek (k:=1) dc dc) A1 (ht.ext (xt O Ar))) (hk:=?_);rintro _ _ Av rfl;have Af:=Av.2;refine I ?_;exact fs ⟨Af,rfl⟩;refine sf ?_;intro _ _ Ax _;have O:=xt O Ax.2;with_reducible refine mB Z ?_
 refine I ?_;refine cl ml (j8 Z uF A2 (ht.ext O)) ?_;rintro _ _ Ab rfl;have O:=xt O Ab.2;refine I ?_;refine cl zd (IU Z Z A1 A2) ?_;rintro _ _ Ap rfl;have O:=xt O Ap.2;refine I ?_;exact ax (t:=4) (v:=.bool (decide ((aG ((t.2*2:Nat):Int) ((l.2+2:Nat):Int))<=0))) Z O (Xd cm cr) Z;refine bY 13 ?_;refine sf ?_;refine aF (V:=.int .i64 (aG ((t.2:Nat):Int) ((2:Nat):Int))) (λ_ _ _ _=>?_) ?_;refine I ?_;refine clb zd (hc:=IU Z uF qr (ek (k:=1) dc dc)) (hk:=?_);rintro _ _ Aq rfl;have Am:=Aq.2;refine I ?_;exact fs ⟨Am,rfl⟩;refine sf ?_;intro _ _ Ao _;have O:=xt O Ao.2;with_reducible refine mB Z ?_
 refine I ?_;exact ax (t:=4) (v:=.bool false) Z O (Xc cm cr) Z;refine bY 13 ?_;refine sf ?_;intro _ _ Ad _;have O:=xt O Ad.2;with_reducible refine mB Z ?_
 refine I ?_;exact ax (t:=4) (v:=.bool false) Z O ((qb1 Value.bool cm).symm.trans (Xb cm)) Z
def Nc {P:Program}{f:FuncId}{vs:List Value}{R:Ending->World->Prop}(h:Calls P f (vs.toArray++lb) w R):Calls P f (vs++lb.toList).toArray w R:=by rw[show(vs++lb.toList).toArray=vs.toArray++lb from Array.toList_inj.1 RW];exact h
def Cx {T:Nat->N2}{m:Nat}(E:bF w0 w)(h1:au w0 b1 165 #[S (nS (T 0).1),S (nS (T 0).2)])(h2:au w0 b2 206 #[fv gn lbn])(hbs:∀b∈bs,w0.heap.size<=b/\b<w.heap.size)(hen:Enters prog gn)(hm:m<100000)(hn:∀k<m,∀W,bF w0 W->CL gn (#[vN (T k),.int .i64 ((k+1:Nat):Int)]++lbn) W (aC W λv _=>v=vN (T (k+1)))):
 Pk prog 250 [pT b1,pT b2] (λk=>[vN (T k)]) bs (λW=>bF w0 W) (m+1) w:=by
 intro l q5 Jx W hW hJ0 hJx0 hM hY O;have E:=xt E hW;have zE:=bz E;have F4:=bt h1;have K2:=bt h2;have h1:=be E h1;have h2:au W b2 206 #[.func (.func gn) #[] lbn]:=be E h2;have F8:=bz hW;obtain⟨hW0,_⟩:∃n,n=W.heap.size:=⟨_,rfl⟩;refine qM ?_;refine HV func250 Z (I ?_);have G3:=bt h1;have wr:=bt h2;refine bY 3 ?_;refine bl (λ_ _ As _=>by have h1:=be As h1;have O:=(hJ0 _).ext As O;refine I ?_;exact cz) ?_;refine eU (λv Ay=>∃b:Nat,v=pT b/\W.heap.size<=b/\au Ay b 165 #[S [],S []]) (hs:=λ_ _ _ k ⟨b,e,l,h⟩=>⟨b,e,l,h.ext k⟩) (λ_ _ Ar _=>?_) ?_;have O:=(hJ0 _).ext Ar O;refine al cO (λ_ Aq Ax=>?_);have O:=(hJ0 _).ext Aq.2 O;have ny:=Aq.2;refine I ?_;exact fs ⟨ny,⟨_,rfl,(by have:=bz Ar;omega),Ax⟩⟩;refine bl (λ_ _ EE _=>by have O:=(hJ0 _).ext EE O;refine I ?_;exact cz) ?_;refine sf ?_;intro _ _ Ao od;have h1:=be Ao.2 h1;have h2:=be Ao.2 h2;have O:=(hJ0 _).ext Ao.2 O;have E:=xt E Ao.2;obtain⟨F3,F2,_,E4⟩:=(od 1 5 Z Z);refine SA E4 (λ_ Af EP=>?_);have h1:=pb Af h1;have h2:=pb Af h2;have O:=(hJ0 _).put Af U O;have E:=bB Af E;refine I ?_;refine JT [(4,5),(7,16)] (λE9 e W=>∃k:Nat,∃Am:Nat,(m+1-k=E9)/\(e 4=.int .i64 ((k+1:Nat):Int))/\(e 5=pT Am)/\(hW0<=Am)/\(bF w0 W)/\(au W b1 165 #[S (nS ((T 0).1)),S (nS ((T 0).2))])/\(au W b2 206 #[.func (.func gn) #[] lbn])/\(au W Am 165 #[S (nS ((T k).1)),S (nS ((T k).2))])/\(q5 k W)) (m+1-0) ⟨0,F3,rfl,rfl,F2,U,E,h1,h2,EP,O⟩ ?_
 rintro _ _ E7 ⟨k,Am,rfl,Ix,Kp,q2,qr,h1,h2,qn,q1⟩;have G4:=bt qn;refine I ?_;refine ac (xJ (l:=l) (vs:=[vN (T k)]) Z (ai Z Z) (hY k E7 q1) ?_);rintro _ _ EW;obtain⟨q,rfl,Aw,E0⟩:=rO EW;show wpListIn _ _ _ _ _ _ _ _;refine I ?_;refine xm (q:=q) Z (λAv=>?_) (λAv=>?_);obtain⟨hJ,hC,hK⟩:=Aw Av;have h1:=hC.blk (λh=>by have:=hbs _ h;omega) h1;have h2:=hC.blk (λh=>by have:=hbs _ h;omega) h2;have qn:=hC.blk (λh=>by have:=hbs _ h;omega) qn;have qr:=hK qr;have zC:=hC.size;have F5:=hM _ _ hJ;refine I ?_;refine ac (uo (vs:=[.agg #[S (nS ((T k).1)),S (nS ((T k).2))],.int .i64 ((k+1:Nat):Int)]) (lb:=lbn.toList) hen Z Z (Nc (hn k U _ qr)) ?_);rintro _ _ Ad rfl;have h1:=be Ad.2 h1;have h2:=be Ad.2 h2;have qn:=be Ad.2 qn;have hJ:=(hJ0 _).ext Ad.2 hJ;have qr:=xt qr Ad.2;refine SA qn (λF1 Ab Ap=>?_);have h1:=pb Ab h1;have h2:=pb Ab h2;have hJ:=(hJ0 _).put Ab U hJ;have qr:=bB Ab qr;have F6:=mC Ab;refine I ?_;refine al cO (λ_ A2 Ek=>?_);have h1:=be A2.2 h1;have h2:=be A2.2 h2;have Ap:=be A2.2 Ap;have hJ:=(hJ0 _).ext A2.2 hJ;have qr:=xt qr A2.2;refine SA Ek (λ_ A1 E1=>?_);have h1:=pb A1 h1
 have h2:=pb A1 h2;have Ap:=pb A1 Ap;have hJ:=(hJ0 _).put A1 U hJ;have qr:=bB A1 qr;have F7:=mC A1;refine I ?_;refine wl (I ?_);exact c6 ⟨k+1,F1.heap.size,rfl,rfl,rfl,U,qr,h1,h2,E1,hJ⟩;refine I ?_;exact xK Z λv=>⟨⟨v,rfl⟩,_,E0 DE⟩
def Nf {T:Nat->N2}{m:Nat}(h:zS T m)(hk:k<=m):Bk 99 (vS T k):=by
 cases k with
 |zero=>exact⟨by simp[vS],by simp[vS]⟩
 |succ p=>exact(h.bd p U).mono dc
set_option maxRecDepth 100000 in
def IW {T:Nat->N2}{m:Nat}(hR:zS T m)(hS:Sc sO)(hB1:au w b1 165 #[S (nS (T 0).1),S (nS (T 0).2)])(hB2:au w b2 206 #[fv gn lbn])(hen:Enters prog gn)(hn:∀k<m,∀W,bF w W->CL gn (#[vN (T k),.int .i64 ((k+1:Nat):Int)]++lbn) W (aC W λv _=>v=vN (T (k+1))))(ht:Tb w):
 CL 201 #[.agg #[.int .i64 pl,S (nS sO)],.func (.func 250) #[] #[pT b1,pT b2]] w (aC w λv w'=>v=.agg #[S (nS ((vR T m).1)),S (nS ((vR T m).2))]):=by
 refine uc func201 Z (I ?_);refine bx (λEP c8 X2=>?_);have qr:=c8.2;refine al cO (λT3 cq d3=>?_);have⟨X2,qr⟩:=bD cq.2 X2 qr;refine I ?_;have W3:=aa8 T3
 refine uh g8 7 (λe0 ls e W=>∃Ab:Nat,∃A1:Nat,∃A2:Nat,(∀t,y9 [5,6,7,10,11,12,13] t=false->e t=e0 t)/\(bF w W)/\(T3.heap.size<=W.heap.size)/\(ls 0=true->e 10=.agg #[.int .i64 pl,S (nS sO)])/\(ls 1=true->e 11=.agg #[S (nS 0),S (nS 0)])/\(ls 2=true->e 12=.agg #[.int .i64 pl,S (nS sO)])/\(ls 3=true->e 13=.agg #[S (nS 0),S (nS 0)])/\(ls 4=true->e 5=pT Ab)/\(ls 5=true->e 6=pT A1)/\(ls 6=true->e 7=pT A2)/\(ls 4=true->T3.heap.size<=Ab)/\(ls 5=true->T3.heap.size<=A1)/\(ls 6=true->T3.heap.size<=A2)/\(ls 4=true->ls 5=true->Ab≠A1)/\(ls 4=true->ls 6=true->Ab≠A2)/\(ls 5=true->ls 6=true->A1≠A2)/\(au W w.heap.size 123 #[.int .i64 pl,S (nS sO)])/\(au W EP.heap.size 165 #[S [],S []])/\(ls 4=true->au W Ab 165 #[S [],S []])/\(ls 5=true->au W A1 165 #[S [],S []])/\(ls 6=true->au W A2 4 #[.bool false])) ⟨0,0,0,(λ_ _=>rfl),(xt qr W3),(bz W3),(ff Z),(ff Z),(ff Z),(ff Z),(ff Z),(ff Z),(ff Z),(ff Z),(ff Z),(ff Z),(λh _=>ff Z h),(λh _=>ff Z h),(λh _=>ff Z h),(be W3 X2),(be W3 d3),(λh=>ff Z h),(λh=>ff Z h),(λh=>ff Z h)⟩ GS GS ?_ ?_;refine⟨λask ZL cy e3 cv bn _=>?_,?_⟩;obtain⟨Ab,A1,A2,ZR,qr,Ne,Ay,Ax,Av,E4,E0,Aw,E7,E1,ny,od,E9,EE,Ek,As,Ar,Ao,Aq,Ap⟩:=e3
 obtain⟨ask,rfl⟩:=aT ZR;have em:cy 1=false:=(js cv (i:=0) (j:=1) Z bn);have Zu:au ZL w.heap.size 123 #[.int .i64 pl,S (nS sO)]:=As;have Zz:au ZL EP.heap.size 165 #[S [],S []]:=Ar;refine I ?_;exact⟨rfl,_,(aw _ _ _ _ _).symm,Ab,A1,A2,(bv Z ZR),qr,U,(λ_=>rfl),Ax,Av,E4,E0,Aw,E7,E1,ny,od,E9,EE,Ek,(Zu),(Zz),(λe7=>Ao e7),(λe4=>Aq e4),(λb7=>Ap b7)⟩;refine⟨λZQ ZZ Zp cT _ _ d5=>?_,?_⟩;obtain⟨Ab,A1,A2,ZM,qr,Ne,Ay,Ax,Av,E4,E0,Aw,E7,E1,ny,od,E9,EE,Ek,As,Ar,Ao,Aq,Ap⟩:=cT;obtain⟨ZQ,rfl⟩:=aT ZM;have ca:Zp 0=true:=(d5 0 Z);have d0:ZQ 10=.agg #[.int .i64 pl,S (nS sO)]:=Ay ca;have Z7:au ZZ w.heap.size 123 #[.int .i64 pl,S (nS sO)]:=As;have Z0:au ZZ EP.heap.size 165 #[S [],S []]:=Ar;refine cl BJ (rW hS (ht.ext qr)) ?_ (ai d0 (ai Z Z));rintro _ _ W1 rfl;have⟨Z7,Z0,qr⟩:=bC W1.2 Z7 Z0 qr;refine I ?_;exact⟨rfl,_,(aw _ _ _ _ _).symm,Ab,A1,A2,(bv Z ZM),qr,U,Ay,(λ_=>rfl),Av,E4,E0,Aw,E7,E1,ny,od,E9,EE,Ek,(Z7),(Z0),(λcp=>(be W1.2 (Ao cp))),(λcd=>(be W1.2 (Aq cd))),(λbm=>(be W1.2 (Ap bm)))⟩;refine⟨λb9 Zl _ a7 _ _ _=>?_,?_⟩;obtain⟨Ab,A1,A2,ZY,qr,Ne,Ay,Ax,Av,E4,E0,Aw,E7,E1,ny,od,E9,EE,Ek,As,Ar,Ao,Aq,Ap⟩:=a7;obtain⟨b9,rfl⟩:=aT ZY
 have dd:au Zl w.heap.size 123 #[.int .i64 pl,S (nS sO)]:=As;have e1:au Zl EP.heap.size 165 #[S [],S []]:=Ar;refine I ?_;exact⟨rfl,_,(aw _ _ _ _ _).symm,Ab,A1,A2,(bv Z ZY),qr,U,Ay,Ax,(λ_=>rfl),E4,E0,Aw,E7,E1,ny,od,E9,EE,Ek,(dd),(e1),(λcf=>Ao cf),(λbH=>Aq bH),(λbL=>Ap bL)⟩;refine⟨λZS Zk Zm Zo _ _ ZO=>?_,?_⟩;obtain⟨Ab,A1,A2,ZU,qr,Ne,Ay,Ax,Av,E4,E0,Aw,E7,E1,ny,od,E9,EE,Ek,As,Ar,Ao,Aq,Ap⟩:=Zo;obtain⟨ZS,rfl⟩:=aT ZU;have et:Zm 1=true:=(ZO 1 Z);have Zx:Zm 2=true:=(ZO 2 Z);have a5:ZS 12=.agg #[.int .i64 pl,S (nS sO)]:=Av Zx;have ZB:au Zk w.heap.size 123 #[.int .i64 pl,S (nS sO)]:=As;have Z9:au Zk EP.heap.size 165 #[S [],S []]:=Ar;refine cl BJ (rW hS (ht.ext qr)) ?_ (ai a5 (ai Z Z));rintro _ _ Wa rfl;have⟨ZB,Z9,qr⟩:=bC Wa.2 ZB Z9 qr;refine I ?_;exact⟨rfl,_,(aw _ _ _ _ _).symm,Ab,A1,A2,(bv Z ZU),qr,U,Ay,Ax,Av,(λ_=>rfl),E0,Aw,E7,E1,ny,od,E9,EE,Ek,(ZB),(Z9),(λZy=>(be Wa.2 (Ao Zy))),(λaH=>(be Wa.2 (Aq aH))),(λd4=>(be Wa.2 (Ap d4)))⟩;refine⟨λad Z3 _ d6 _ _ _=>?_,?_⟩;obtain⟨Ab,A1,A2,ZX,qr,Ne,Ay,Ax,Av,E4,E0,Aw,E7,E1,ny,od,E9,EE,Ek,As,Ar,Ao,Aq,Ap⟩:=d6;obtain⟨ad,rfl⟩:=aT ZX
 have ZH:au Z3 w.heap.size 123 #[.int .i64 pl,S (nS sO)]:=As;have ZA:au Z3 EP.heap.size 165 #[S [],S []]:=Ar;refine al cO (λ_ ZC a6=>?_);have⟨ZH,ZA,qr⟩:=bC ZC.2 ZH ZA qr;refine I ?_;exact⟨rfl,_,(aw _ _ _ _ _).symm,Z3.heap.size,A1,A2,(bv Z ZX),qr,U,Ay,Ax,Av,E4,(λ_=>rfl),Aw,E7,(λ_=>U),ny,od,(λ_ Zr=>(by have:=bt (Aq Zr);omega)),(λ_ arr=>(by have:=bt (Ap arr);omega)),Ek,(ZH),(ZA),(λ_=>a6),(λeg=>(be ZC.2 (Aq eg))),(λbq=>(be ZC.2 (Ap bq)))⟩;refine⟨λco Z5 _ cw _ _ _=>?_,?_⟩;obtain⟨Ab,A1,A2,ZJ,qr,Ne,Ay,Ax,Av,E4,E0,Aw,E7,E1,ny,od,E9,EE,Ek,As,Ar,Ao,Aq,Ap⟩:=cw;obtain⟨co,rfl⟩:=aT ZJ;have Z2:au Z5 w.heap.size 123 #[.int .i64 pl,S (nS sO)]:=As;have Z8:au Z5 EP.heap.size 165 #[S [],S []]:=Ar;refine al cO (λ_ ZD an=>?_);have⟨Z2,Z8,qr⟩:=bC ZD.2 Z2 Z8 qr;refine I ?_;exact⟨rfl,_,(aw _ _ _ _ _).symm,Ab,Z5.heap.size,A2,(bv Z ZJ),qr,U,Ay,Ax,Av,E4,E0,(λ_=>rfl),E7,E1,(λ_=>U),od,(λct _=>(by have:=bt (Ao ct);omega)),EE,(λ_ a3=>(by have:=bt (Ap a3);omega)),(Z2),(Z8),(λe5=>(be ZD.2 (Ao e5))),(λ_=>an),(λZs=>(be ZD.2 (Ap Zs)))⟩;refine⟨λbc ZE _ Zw _ _ _=>?_,?_⟩
 obtain⟨Ab,A1,A2,ZW,qr,Ne,Ay,Ax,Av,E4,E0,Aw,E7,E1,ny,od,E9,EE,Ek,As,Ar,Ao,Aq,Ap⟩:=Zw;obtain⟨bc,rfl⟩:=aT ZW;have Z6:au ZE w.heap.size 123 #[.int .i64 pl,S (nS sO)]:=As;have ZG:au ZE EP.heap.size 165 #[S [],S []]:=Ar;refine al WQ (λ_ ZI a0=>?_);have⟨Z6,ZG,qr⟩:=bC ZI.2 Z6 ZG qr;refine I ?_;exact⟨rfl,_,(aw _ _ _ _ _).symm,Ab,A1,ZE.heap.size,(bv Z ZW),qr,U,Ay,Ax,Av,E4,E0,Aw,(λ_=>rfl),E1,ny,(λ_=>U),E9,(λbT _=>(by have:=bt (Ao bT);omega)),(λaL _=>(by have:=bt (Aq aL);omega)),(Z6),(ZG),(λch=>(be ZI.2 (Ao ch))),(λZt=>(be ZI.2 (Aq Zt))),(λ_=>a0)⟩;exact trivial;intro T2 W0 _ Am cx;obtain⟨Ab,A1,A2,e2,qr,Ne,Ay,Ax,Av,E4,E0,Aw,E7,E1,ny,od,E9,EE,Ek,As,Ar,Ao,Aq,Ap⟩:=cx;obtain⟨T2,rfl⟩:=aT e2;have at8:=E1 (Am 4 Z);have at9:=ny (Am 5 Z);have fl:=od (Am 6 Z);have f0:=E9 (Am 4 Z) (Am 5 Z);have fc:=EE (Am 4 Z) (Am 6 Z);have f6:=Ek (Am 5 Z) (Am 6 Z);have F4:au W0 w.heap.size 123 #[.int .i64 pl,S (nS sO)]:=As;have F3:au W0 EP.heap.size 165 #[S [],S []]:=Ar;have ZN:au W0 Ab 165 #[S [],S []]:=Ao (Am 4 Z);have f5:=bt ZN;have Wb:au W0 A1 165 #[S [],S []]:=Aq (Am 5 Z);have en:=bt Wb;have S1:au W0 A2 4 #[.bool false]:=Ap (Am 6 Z);have f9:=bt S1
 have f2:T2 5=pT Ab:=(E0 (Am 4 Z));have f3:T2 11=.agg #[S (nS 0),S (nS 0)]:=(Ax (Am 1 Z));refine SA ZN (λ_ e6 wr=>?_);have⟨F4,F3,Wb,S1,qr,_⟩:=vK e6 F4 F3 Wb S1 qr;have cb:T2 6=pT A1:=(Aw (Am 5 Z));have er:T2 13=.agg #[S (nS 0),S (nS 0)]:=(E4 (Am 3 Z));refine SA Wb (λ_ Zq G4=>?_);have⟨F4,F3,wr,S1,qr,_⟩:=vK Zq F4 F3 wr S1 qr;have ab:T2 7=pT A2:=(E7 (Am 6 Z));refine SO S1 (λZF bf R1=>?_);have⟨F4,F3,wr,G4,qr,_⟩:=vK bf F4 F3 wr G4 qr;refine I ?_;refine ac (cL (vf:=[]) (vc:=[pT A2,pT A1]) Z (ai ab (ai cb Z)) ?_);refine al Mb (λ_ c9 bp=>?_);have⟨F4,F3,wr,G4,R1,qr⟩:=kW c9.2 F4 F3 wr G4 R1 qr;refine SO bp (λW2 cm dn=>?_);have⟨F4,F3,wr,G4,R1,qr,_⟩:=Ck cm F4 F3 wr G4 R1 qr;refine I ?_;have f4:=bt wr;have fT:=bt G4;have f7:=bt R1
 refine IT (M:=m+1) (enc:=λk=>[vN (T k)]) (bs:=[Ab,A1,A2]) (Kq:=λW=>bF w W) (gf:=250) (lb:=[pT b1,pT b2]) (ps:=[16]) Z Qp (Cx (T:=T) (m:=m) qr hB1 hB2 ?hbs hen (by have:=hR.lt;omega) hn) ⟨λO E=>xt E O,λO hb E=>bB O E⟩ (λ_=>rfl) (λk W=>k<=m/\W2.heap.size<=W.heap.size/\(bF w W)/\(au W Ab 165 #[S (nS ((po T k).1)),S (nS ((po T k).2))])/\(au W A1 165 #[S (nS ((vS T k).1)),S (nS ((vS T k).2))])/\(au W A2 4 #[.bool (decide (k≠0))])/\(au W w.heap.size 123 #[.int .i64 pl,S (nS sO)])/\(au W EP.heap.size 165 #[S [],S []])/\(au W ZF.heap.size 253 #[.func (.func 249) #[] #[pT A2,pT A1]])) (λc k W=>c=.exit 0/\W2.heap.size<=W.heap.size/\(bF w W)/\(au W Ab 165 #[S (nS ((vR T m).1)),S (nS ((vR T m).2))])/\(au W w.heap.size 123 #[.int .i64 pl,S (nS sO)])/\(au W EP.heap.size 165 #[S [],S []])/\(au W ZF.heap.size 253 #[.func (.func 249) #[] #[pT A2,pT A1]])) (λk=>⟨λO ⟨q1,F2,E,Ad,h1,h2,h3,h4,qn⟩=>⟨q1,qa8 F2 (bz O),xt E O,be O Ad,be O h1,be O h2,be O h3,be O h4,be O qn⟩,λO hb ⟨q1,F2,E,Ad,h1,h2,h3,h4,qn⟩=>⟨q1,(by rw[O.size];exact F2),bB O E,pb O Ad,pb O h1,pb O h2,pb O h3,pb O h4,pb O qn⟩⟩) (λc k=>⟨λO ⟨q1,F2,E,Ad,h1,h2,h3⟩=>⟨q1,qa8 F2 (bz O),xt E O,be O Ad,be O h1,be O h2,be O h3⟩,λO hb ⟨q1,F2,E,Ad,h1,h2,h3⟩=>⟨q1,(by rw[O.size];exact F2),bB O E,pb O Ad,pb O h1,pb O h2,pb O h3⟩⟩) (λk W h=>by have:=h.1;omega) ?Ad (λe k e' W=>∃nb:Nat,e'=upd (jj e [16] [vN (T k)]) 9 (pT nb)/\W2.heap.size<=nb/\au W nb 165 #[S (nS (T k).1),S (nS (T k).2)]/\(λk W=>k<=m/\W2.heap.size<=W.heap.size/\(bF w W)/\(au W Ab 165 #[S (nS ((po T k).1)),S (nS ((po T k).2))])/\(au W A1 165 #[S (nS ((vS T k).1)),S (nS ((vS T k).2))])/\(au W A2 4 #[.bool (decide (k≠0))])/\(au W w.heap.size 123 #[.int .i64 pl,S (nS sO)])/\(au W EP.heap.size 165 #[S [],S []])/\(au W ZF.heap.size 253 #[.func (.func 249) #[] #[pT A2,pT A1]])) k W) ?hA ?asn ?body ?stop
 case hbs=>
  intro b hb;simp only[List.mem_cons,List.not_mem_nil,or_false]at hb;rcases hb with rfl|rfl|rfl <;>constructor <;>omega
 case Ad=>
  exact⟨qa7 _,qa0 _,qr,wr,G4,R1,F4,F3,dn⟩
 case hA=>
  rintro k e' W b r ed hb hl ⟨nb,a8,ZV,Af,q1,F2,E,Ad,h1,h2,h3,h4,qn⟩;have O:=ec W b (.loop ed);have No:∀{c t cs},au W c t cs->c≠b:=λh e=>by subst e;unfold au at h;rw[hl]at h;cases h
  exact⟨nb,a8,ZV,aa6 O (No Af) Af,q1,(by rw[O.size];exact F2),bB O E,aa6 O (No Ad) Ad,aa6 O (No h1) h1,aa6 O (No h2) h2,aa6 O (No h3) h3,aa6 O (No h4) h4,aa6 O (No qn) qn⟩
 case asn=>
  rintro l k W K ⟨q1,F2,E,Ad,h1,h2,h3,h4,qn⟩ hK;have EW:=aa2 W;refine I ?_;refine al cO (λ_ Ix b6=>?_);have Ad:=be Ix.2 Ad;have h1:=be Ix.2 h1;have h2:=be Ix.2 h2;have h3:=be Ix.2 h3;have h4:=be Ix.2 h4;have qn:=be Ix.2 qn;have E:=xt E Ix.2;have EW:=xt EW Ix.2;refine SA b6 (λ_ F6 a9=>?_);have Ad:=pb F6 Ad;have h1:=pb F6 h1;have h2:=pb F6 h2;have h3:=pb F6 h3;have h4:=pb F6 h4;have qn:=pb F6 qn;have E:=bB F6 E;have fN:=mC F6;have EW:=bB F6 EW;refine I ?_;exact hK _ _ EW ⟨_,rfl,U,a9,q1,(by have:=bz EW;omega),E,Ad,h1,h2,h3,h4,qn⟩
 case body=>
  rintro l k e' W ⟨nb,rfl,ZV,Af,q1,F2,E,Ad,h1,h2,h3,h4,qn⟩;have Kp:=dN.refl [Ab,A1,A2] W;have zW:=bz E;have T4:=q1;have fD:=bt Af;have ZP:=ac5 Ad;have ZT:=ac5 h1;have ZK:=ac5 h2;have fT1:Bk 99 (fE (po T k) (T k)):=hR.tot (k:=k+1) U;refine I ?_;refine clb Hq (hc:=wE (fT1.fi dc).1 (fT1.fi dc).2 (ht.ext E)) (hk:=?_);rintro _ _ F8 rfl;have Ad:=be F8.2 Ad;have h1:=be F8.2 h1;have h2:=be F8.2 h2;have h3:=be F8.2 h3;have h4:=be F8.2 h4;have qn:=be F8.2 qn;have Af:=be F8.2 Af;have E:=xt E F8.2;have Kp:=ab9 Kp F8.2;refine SA Ad (λ_ L2 F1=>?_);have h1:=pb L2 h1;have h2:=pb L2 h2;have h3:=pb L2 h3;have h4:=pb L2 h4;have qn:=pb L2 qn;have Af:=pb L2 Af;have E:=bB L2 E;have Kp:=ac2 Kp L2 RM;refine I ?_;refine ac (uo (vs:=[.agg #[S (nS ((T k).1)),S (nS ((T k).2))]]) (lb:=[pT A2,pT A1]) Qo Z Z (cB (Nb h2 h1 ((hR.bd k T4).mono dc) (Nf hR T4) (ht.ext E)) (hR.last T4)) ?_);rintro _ _ F7 rfl;have F1:=be F7.2 F1;have h1:=be F7.2 h1;have h2:=be F7.2 h2;have h3:=be F7.2 h3
  have h4:=be F7.2 h4;have qn:=be F7.2 qn;have Af:=be F7.2 Af;have E:=xt E F7.2;have Kp:=ab9 Kp F7.2;refine I ?_;by_cases ap3:k=m;refine I ?_;refine bY 5 ?_;refine sf ?_;refine aF (V:=S (nS (((T k).2)+4))) (λ_ _ a4 _=>?_) ?_;refine clb ml (hc:=j8 Z RJ kb2 (ht.ext (xt E a4))) (hk:=?_);rintro _ _ dq rfl;have aB:=dq.2;refine I ?_;exact fs ⟨aB,rfl⟩;refine sf ?_;intro _ _ F5 _;have F1:=be F5.2 F1;have h1:=be F5.2 h1;have h2:=be F5.2 h2;have h3:=be F5.2 h3;have h4:=be F5.2 h4;have qn:=be F5.2 qn;have Af:=be F5.2 Af;have E:=xt E F5.2;have Kp:=ab9 Kp F5.2;refine clb ml (hc:=j8 Z Z kb2 (ht.ext E)) (hk:=?_);rintro _ _ G3 rfl;have F1:=be G3.2 F1;have h1:=be G3.2 h1;have h2:=be G3.2 h2;have h3:=be G3.2 h3;have h4:=be G3.2 h4;have qn:=be G3.2 qn;have Af:=be G3.2 Af;have E:=xt E G3.2;have Kp:=ab9 Kp G3.2;refine I ?_;refine SO F1 (λ_ N1 Zn=>?_);have h1:=pb N1 h1;have h2:=pb N1 h2;have h3:=pb N1 h3;have h4:=pb N1 h4;have qn:=pb N1 qn;have Af:=pb N1 Af
  have E:=bB N1 E;have Kp:=ac2 Kp N1 RM;refine I ?_;exact⟨Kp.others DS,rfl,(by have:=Kp.size;omega),E,(by subst ap3;exact Zn),h3,h4,qn⟩;refine I ?_;refine SA h1 (λ_ Jx Z1=>?_);have F1:=pb Jx F1;have h2:=pb Jx h2;have h3:=pb Jx h3;have h4:=pb Jx h4;have qn:=pb Jx qn;have Af:=pb Jx Af;have E:=bB Jx E;have Kp:=ac2 Kp Jx RM;refine SO h2 (λ_ K2 Zv=>?_);have F1:=pb K2 F1;have Z1:=pb K2 Z1;have h3:=pb K2 h3;have h4:=pb K2 h4;have qn:=pb K2 qn;have Af:=pb K2 Af;have E:=bB K2 E;have Kp:=ac2 Kp K2 RM;refine I ?_;exact⟨Kp.others DS,oN.of Kp,λ_=>E,U,(by have:=Kp.size;omega),E,F1,Z1,(by rw[decide_eq_true U];exact Zv),h3,h4,qn⟩
 case stop=>
  rintro D c k W hD ⟨rfl,F2,E,Ad,h1,h2,h3⟩ hK;have zW:=bz E;refine I ?_;refine SA h2 (λ_ TT cr=>?_);have Ad:=pb TT Ad;have h1:=pb TT h1;have h3:=pb TT h3;have hK:=ac3 TT (hK.ne h2) hK;have E:=bB TT E;refine I ?_;refine jK (v:=.agg #[S (nS ((vR T m).1)),S (nS ((vR T m).2))]) hK (cF  rfl ?_) ((fk _).low E U) Z;refine ag (t:=4) (cs:=[S (nS ((vR T m).1)),S (nS ((vR T m).2))]) (b:=EP.heap.size) (o:=0) jr Z fZ ?_ ?_;exact Z;exact aa1 (cr.dfr hK) (i:=0) Z
def cP {f:FuncId}{a:Array Value}{p q:N2}(h:CL f a w (aC w λv _=>v=.agg #[S (nS p.1),S (nS p.2)]))(e:p=q):CL f a w (aC w λv _=>v=.agg #[S (nS q.1),S (nS q.2)]):=e▸h
def Ng {b:Nat}(h:b<a):0<aG (a:Int) (b:Int):=by rw[dk U];decide
def Nh {b:Nat}(h:¬b<a):¬0<aG (a:Int) (b:Int):=by have:=(bS (x:=(a:Int)) (y:=(b:Int))).2 U;omega
def Ni {t x:N2}(hS:Sc sO)(hb1:au w b1 123 #[.int .i64 pl,S (nS sO)])(hb2:au w b2 165 #[S (nS x.1),S (nS x.2)])(htb:Bk 95 t)(hx:Bk 95 x)(h0:0<n)(hn:n<100000)(ht:Tb w):
 CL 251 #[.agg #[S (nS t.1),S (nS t.2)],.int .i64 n,pT b1,pT b2] w (aC w λv w'=>v=.agg #[S (nS ((Cv sO x n t).1)),S (nS ((Cv sO x n t).2))]):=by
 have Av:=bt hb1;have As:=bt hb2;refine aE func251 Z (I ?_);refine bx (λAm A1 qr=>?_);have⟨hb1,hb2⟩:=jk A1.2 hb1 hb2;have O:=A1.2;refine al cO (λ_ Af qn=>?_);have⟨hb1,hb2,qr,O⟩:=bW Af.2 hb1 hb2 qr O;refine I ?_;refine bY 6 ?_;refine sf ?_;refine aF (V:=.agg #[S (nS ((cg sO t x).1)),S (nS ((cg sO t x).2))]) (λ_ _ Ap _=>?_) ?_;refine cl tR (jO hS htb hx (ht.ext (xt O Ap))) ?_;rintro _ _ Ab rfl;have Ar:=Ab.2;refine I ?_;exact fs ⟨Ar,rfl⟩;refine sf ?_;intro _ _ Ad _;have⟨hb1,hb2,qr,qn,O⟩:=eE Ad.2 hb1 hb2 qr qn O;refine clb tQ (hc:=pw (qZ hS.pos htb hx) dc U U (ht.ext O)) (hk:=?_);rintro _ _ Aq rfl;have⟨hb1,hb2,qr,qn,O⟩:=eE Aq.2 hb1 hb2 qr qn O;refine SA qn (λ_ A2 Ao=>?_);have⟨hb1,hb2,qr⟩:=kt A2 hb1 hb2 qr;have O:=bB A2 O;refine I ?_;refine aI (v:=.agg #[S (nS ((cH (cg sO t x) 1 n).1)),S (nS ((cH (cg sO t x) 1 n).2))]) (cF  rfl ?_) O Z;refine ag (t:=6) (cs:=[S (nS ((cH (cg sO t x) 1 n).1)),S (nS ((cH (cg sO t x) 1 n).2))]) (b:=Am.heap.size) (o:=0) jr Z fZ ?_ ?_;exact Z;exact aa1 Ao (i:=0) Z
def RS {t x:N2}(hS:Sc sO)(hb1:au w b1 123 #[.int .i64 pl,S (nS sO)])(hb2:au w b2 165 #[S (nS x.1),S (nS x.2)])(htb:Bk 95 t)(hx:Bk 95 x)(h0:0<n)(hn:n<100000)(ht:Tb w):
 CL 203 #[.agg #[S (nS t.1),S (nS t.2)],.int .i64 n,pT b1,pT b2] w (aC w λv w'=>v=.agg #[S (nS ((RP sO x n t).1)),S (nS ((RP sO x n t).2))]):=by
 have Av:=bt hb1;have As:=bt hb2;refine aE func203 Z (I ?_);refine bx (λAp A2 qr=>?_);have⟨hb1,hb2⟩:=jk A2.2 hb1 hb2;have O:=A2.2;refine al cO (λ_ Ao qn=>?_);have⟨hb1,hb2,qr,O⟩:=bW Ao.2 hb1 hb2 qr O;refine I ?_;refine bY 8 ?_;refine sf ?_;refine aF (V:=.agg #[S (nS ((cg sO t x).1)),S (nS ((cg sO t x).2))]) (λ_ _ Aq _=>?_) ?_;refine cl tR (jO hS htb hx (ht.ext (xt O Aq))) ?_;rintro _ _ Ad rfl;have Ar:=Ad.2;refine I ?_;exact fs ⟨Ar,rfl⟩;refine sf ?_;refine bl (λ_ _ _ _=>by refine ac (l9 (a:=2) (b:=(n:Int)) (c:=((2*n:Nat):Int)) Z Z L7 U ?_);refine I ?_;exact cz) ?_;refine bl (λ_ _ _ _=>by refine ac (bb (a:=((2*n:Nat):Int)) (b:=1) (c:=((2*n+1:Nat):Int)) Z Z L7 U ?_);refine I ?_;exact cz) ?_;refine sf ?_;intro _ _ Am _;have⟨hb1,hb2,qr,qn,O⟩:=eE Am.2 hb1 hb2 qr qn O;refine clb tQ (hc:=pw (qZ hS.pos htb hx) dc U U (ht.ext O)) (hk:=?_);rintro _ _ Af rfl;have⟨hb1,hb2,qr,qn,O⟩:=eE Af.2 hb1 hb2 qr qn O;refine SA qn (λ_ A1 Ab=>?_);have⟨hb1,hb2,qr⟩:=kt A1 hb1 hb2 qr;have O:=bB A1 O;refine I ?_;refine aI (v:=.agg #[S (nS ((cH (cg sO t x) 1 (2*n+1)).1)),S (nS ((cH (cg sO t x) 1 (2*n+1)).2))]) (cF  rfl ?_) O Z
 refine ag (t:=6) (cs:=[S (nS ((cH (cg sO t x) 1 (2*n+1)).1)),S (nS ((cH (cg sO t x) 1 (2*n+1)).2))]) (b:=Ap.heap.size) (o:=0) jr Z fZ ?_ ?_;exact Z;exact aa1 Ab (i:=0) Z
def Eo {S:Nat}:∀{f h:Nat} {x:N2} {p:N2×Nat},i7 S f x h=some p->p.2<=h+f
 |0,_,_,_,e=>by simp[i7]at e
 | f+1,h,x,p,e=>by
   unfold i7 at e
   split at e
   · have:=Eo e;omega
   · cases e;simp
set_option maxRecDepth 100000 in
def RU {x r:N2}(hS:Sc sO)(he:yi sO x=some r)(ht:Tb w):
 CL 206 #[.agg #[.int .i64 pl,S (nS sO)],.agg #[S (nS x.1),S (nS x.2)]] w (aC w λv w'=>v=.agg #[S (nS r.1),S (nS r.2)]):=by
 obtain⟨hx,p,s,Ax,hs,hq⟩:=Ei he;have ZA:=Eo Ax;refine aE func206 Z (I ?_);refine bx (λAf E1 O=>?_);have Ab:=E1.2;refine bx (λAp W0 Ao=>?_);have⟨O,Ab⟩:=bD W0.2 O Ab;refine al cO (λZ2 S1 qn=>?_);have⟨O,Ao,Ab⟩:=bC S1.2 O Ao Ab;refine I ?_;refine JT [(5,5),(7,18)] (λAr e W=>∃f:Nat,∃y:N2,∃h:Nat,(f=Ar)/\(e 5=.int .i64 h)/\(i7 sO f y h=some p)/\(Bk 95 y)/\(h+f<=200)/\(Z2.heap.size<=W.heap.size)/\(bF w W)/\(au W w.heap.size 123 #[.int .i64 pl,S (nS sO)])/\(au W Ap.heap.size 165 #[S [],S []])/\(au W Af.heap.size 165 #[S (nS y.1),S (nS y.2)])) (200) ⟨200,x,0,rfl,rfl,Ax,hx,U,(qa0 _),Ab,O,qn,Ao⟩ ?_;rintro _ _ _ ⟨f,y,h,rfl,ZB,Aw,hy,hb,Z7,A1,O,qn,qr⟩;by_cases hl:sO<y.2*2;obtain⟨g,rfl,F6⟩:=RL Aw hl;refine I ?_;refine bY 5 ?_;refine sf ?_;refine aF (V:=S (nS (y.2*2))) (λ_ _ T2 _=>?_) ?_;refine clb iB (hc:=gB Z uF (hy.fi dc).2 (ek (k:=1) dc dc) kc2 (ht.ext (xt A1 T2))) (hk:=?_);rintro _ _ L2 rfl;have W2:=L2.2;refine I ?_;exact fs ⟨W2,rfl⟩;refine sf ?_;intro _ _ Z1 _;have⟨O,qn,qr,A1⟩:=bW Z1.2 O qn qr A1;refine clb zd (hc:=IU Z Z kc2 hS.fi) (hk:=?_);rintro _ _ Z5 rfl;have⟨O,qn,qr,A1⟩:=bW Z5.2 O qn qr A1;have Z8:=Ng hl;refine I ?_
 refine clb tQ (hc:=pw (hy.mono dc) dc dc dc (ht.ext A1)) (hk:=?_);rintro _ _ N1 rfl;have⟨O,qn,qr,A1⟩:=bW N1.2 O qn qr A1;refine SA qr (λ_ ny E7=>?_);have⟨O,qn,A1,_⟩:=mD ny O qn A1;refine I ?_;refine ac (bb (a:=(h:Int)) (b:=1) (c:=((h+1:Nat):Int)) Z Z L7 U ?_);refine I ?_;exact c6 ⟨g,cH y 1 2,h+1,rfl,rfl,F6,(MX hy),U,U,A1,O,qn,E7⟩;have Ix:=RN Aw hl;subst Ix;have hm:=zU hs;obtain⟨m,hR,hr⟩:=hm;refine I ?_;refine bY 5 ?_;refine sf ?_;refine aF (V:=S (nS (y.2*2))) (λ_ _ od _=>?_) ?_;refine clb iB (hc:=gB Z uF (hy.fi dc).2 (ek (k:=1) dc dc) kc2 (ht.ext (xt A1 od))) (hk:=?_);rintro _ _ G4 rfl;have F2:=G4.2;refine I ?_;exact fs ⟨F2,rfl⟩;refine sf ?_;intro _ _ F4 _;have⟨O,qn,qr,A1⟩:=bW F4.2 O qn qr A1;refine clb zd (hc:=IU Z Z kc2 hS.fi) (hk:=?_);rintro _ Ek Z3 rfl;have⟨O,qn,qr,A1⟩:=bW Z3.2 O qn qr A1;have Z9:=Nh hl;refine I ?_;refine bY 7 ?_;refine sf ?_;refine aF (V:=.agg #[S (nS ((1*sO,1*sO).1)),S (nS ((1*sO,1*sO).2))]) (λ_ _ EW _=>?_) ?_;refine clb BJ (hc:=uJ (n:=1) hS dc ka4 (ht.ext (xt A1 EW))) (hk:=?_);rintro _ _ T3 rfl;have F8:=T3.2;refine I ?_;exact fs ⟨F8,rfl⟩
 refine bl (λ_ _ _ _=>by refine ac (cL (vf:=[]) (vc:=[pT w.heap.size,pT Af.heap.size]) Z Z ?_);refine I ?_;exact cz) ?_;refine eU (λv Am=>FM (1*sO,1*sO) (.func (.func 251) #[] #[pT w.heap.size,pT Af.heap.size]) Am v) (hs:=λ_ _ _ k h=>h.ext k) (λ_ _ _ _=>?_) ?_;refine cl Hp zX ?_;rintro _ _ wr F5;have R1:=wr.2;refine I ?_;exact fs ⟨R1,F5⟩;refine aF (V:=.agg #[S (nS s.1),S (nS s.2)]) (λ_ _ Aq X2=>?_) ?_;obtain⟨_,_,Jx,W1,Ne⟩:=(X2 4 23 Z Z);have⟨O,qr⟩:=jk Aq O qr;refine clb Ho (hc:=cP (IW hR hS W1 Ne Qf (λk hk W e=>Ni hS (O.ext e) (qr.ext e) (hR.bd k U) hy U (by have:=hR.lt;omega) ((ht.ext (xt A1 Aq)).ext e)) (ht.ext (xt A1 Aq))) hr) (hk:=?_) (hv:=ai Z (ai Jx Z));rintro _ _ Z0 rfl;have No:=Z0.2;refine I ?_;exact fs ⟨No,rfl⟩;refine eU (λv Am=>∃b:Nat,v=pT b/\Ek.heap.size<=b/\au Am b 165 #[S [],S []]) (hs:=λ_ _ _ k ⟨b,e,l,h⟩=>⟨b,e,l,h.ext k⟩) (λ_ _ K2 _=>?_) ?_;refine al cO (λ_ EP EE=>?_);have E9:=EP.2;refine I ?_;exact fs ⟨E9,⟨_,rfl,(by have:=bz K2;omega),EE⟩⟩;refine sf ?_;intro _ _ F3 Wb;have⟨O,qn,qr,A1⟩:=bW F3.2 O qn qr A1;obtain⟨Kp,_,_,W3⟩:=(Wb 6 6 Z Z);refine SA W3 (λWa As E4=>?_);have⟨O,qn,qr⟩:=kt As O qn qr;have A1:=bB As A1;refine I ?_
 refine JT [(26,32)] (λAr e W=>∃i:Nat,∃a:N2,(h-i=Ar)/\(e 26=.int .i64 i)/\(i<=h)/\(y6 sO (h-i) a=some r)/\(Wa.heap.size<=W.heap.size)/\(bF w W)/\(au W w.heap.size 123 #[.int .i64 pl,S (nS sO)])/\(au W Ap.heap.size 165 #[S [],S []])/\(au W Af.heap.size 165 #[S (nS y.1),S (nS y.2)])/\(au W Kp 165 #[S (nS a.1),S (nS a.2)])) (h-0) ⟨0,s,rfl,rfl,(qa7 _),hq,(qa0 _),A1,O,qn,qr,E4⟩ ?_;rintro _ _ _ ⟨i,a,rfl,T4,hi,Av,Z6,A2,O,qn,qr,Ad⟩;by_cases hl2:i<h;obtain⟨ha,E0⟩:=U6 Av hl2;refine I ?_;refine cl tR (jO hS ha ha (ht.ext A2)) ?_;rintro _ _ F7 rfl;have⟨O,qn,qr,Ad,A2⟩:=eE F7.2 O qn qr Ad A2;refine SA Ad (λ_ G3 F1=>?_);have⟨O,qn,qr,A2,_⟩:=l7 G3 O qn qr A2;refine I ?_;refine ac (bb (a:=(i:Int)) (b:=1) (c:=((i+1:Nat):Int)) T4 Z L7 U ?_);refine I ?_;exact c6 ⟨i+1,cg sO a a,rfl,rfl,U,E0,U,A2,O,qn,qr,F1⟩;obtain⟨rfl,_⟩:=U7 Av hl2;refine I ?_;refine SA qn (λ_ Ay TT=>?_);have⟨O,qr,Ad⟩:=kt Ay O qr Ad;have A2:=bB Ay A2;refine I ?_;refine aI (v:=.agg #[S (nS a.1),S (nS a.2)]) (cF  rfl ?_) A2 Z;refine ag (t:=4) (cs:=[S (nS a.1),S (nS a.2)]) (b:=Ap.heap.size) (o:=0) jr Z fZ ?_ ?_;exact Z;exact aa1 TT (i:=0) Z
end
end Go.Proofs.YthpinljhfnodeaaGreatDoor
