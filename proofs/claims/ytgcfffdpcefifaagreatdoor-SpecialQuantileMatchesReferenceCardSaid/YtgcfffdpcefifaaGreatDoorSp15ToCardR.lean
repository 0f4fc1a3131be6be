/- Part of the proof of a statement about special functions. -/
import Derived.Test.YtgcfffdpcefifaaGreatDoorEnc3ToSp14
import Derived.Test.YtgcfffdpcefifaaGreatDoorTie
import Derived.Test.YtgcfffdpcefifaaGreatDoorCards
import Derived.ProofKit
import Derived.OpenShut
import Derived.LaidMore
import Derived.Lay
import Derived.SevenTiedAt
import Derived.Stop.Joined
import Derived.Deep.SlicePairs
import Derived.Deep.Frames
import Derived.Deep.Onto
import Derived.WideKeyArgs
import Derived.SizedLaws
set_option linter.all false
namespace Go.Proofs.YtgcfffdpcefifaaGreatDoor
variable {u hd:Bool}{a b N x y one lo f c T la lb0 ha hb f1 c1 f2 c2 f' c':Int}{l m l1 m1 l2 m2 l3 m3 l4 m4:List UInt8}{lb vs:List Value}{d pl i g n base:Nat}{sp:Nat->Bool}{w:World}
section
set_option maxRecDepth 100000
open Go Go.Eng Go.RowKit Proofs.Tryz
attribute [local irreducible] wpListIn Code.wpIn Oper.wpIn Exit.then Exit.inBlock Exit.noGoto
set_option maxHeartbeats 40000000
def j2 {p:Prop}(h:p:=by kernel_rfl):p:=h
def fG (hl:l=aa a)(hm:m=aa b)(ha:Fz a)(hb:Fz b):CL 21 #[S l,S m] w (aH w λv _=>v=.int .i64 (aw a b)):=by
 subst hl hm
 exact gT (lH _ _ _) (qb1 (Value.int .i64) (pp ha hb))
def wM:([45,53]:List UInt8)=aa (-5):=by decide +kernel
def DK:([53]:List UInt8)=aa 5:=by decide +kernel
def HH:(([49],[49,48,48,48,48,48,48]):R)=qR 1 1000000:=by decide +kernel
def HI:(([57,57,57,57,57,57],[49,48,48,48,48,48,48]):R)=qR 999999 1000000:=by decide +kernel
def vg:Q9 1 1000000:=⟨by decide,by decide,by decide⟩
def vh:Q9 999999 1000000:=⟨by decide,by decide,by decide⟩
def DL (N:Int)(d a b:Nat):Option Bool:=(BR (10^15) 15 N d).bind λr=>if r.2<((aM (10^15) a b).1:Int)then some true else if((aM (10^15) a b).2:Int)<r.1 then some false else none
def DN {a b:Nat}(h:DL N d a b=some u):∃r,BR (10^15) 15 N d=some r/\((u=true/\r.2<((aM (10^15) a b).1:Int))\/(u=false/\¬r.2<((aM (10^15) a b).1:Int)/\((aM (10^15) a b).2:Int)<r.1)):=by
 unfold DL at h
 cases hr:BR (10^15) 15 N d with
 |none=>rw[hr]at h;cases h
 | some r=>
   rw[hr,Option.bind_some]at h
   refine⟨r,rfl,?_⟩
   split at h
   · rename_i h1;cases h;exact Or.inl ⟨rfl,h1⟩
   · rename_i h1
     split at h
     · rename_i h2;cases h;exact Or.inr ⟨rfl,h1,h2⟩
     · cases h
def Bc:Sc (10^15):=⟨by decide,by decide⟩
def Fg {S:Nat}{r:Int×Int}(hS:Sc S)(h:BR S pl N d=some r):Fz r.1/\Fz r.2:=by
 obtain⟨h,D,rfl⟩:=AD h
 obtain⟨_,_⟩:=EX hS D
 obtain⟨_,_⟩:=EY (n:=1) (d:=2) hS dc dc
 split
 · unfold l9 Fz;exact⟨by simp only;omega,by simp only;omega⟩
 · unfold dA zP Fz;exact⟨by simp only;omega,by simp only;omega⟩
def JZ {a b:Nat}(ha:a<10^90)(hb:0<b):Fz ((aM (10^15) a b).1:Int)/\Fz ((aM (10^15) a b).2:Int):=by
 have h1:a*10^15<10^90*10^15:=Nat.mul_lt_mul_of_pos_right ha dc
 have G:10^90*10^15<10^199:=by decide
 have D:(aM (10^15) a b).1<=a*10^15:=Nat.div_le_self _ _
 have E:(aM (10^15) a b).2<=a*10^15:=iE hb
 unfold Fz
 exact⟨by omega,by omega⟩
def DO:Fz (-5):=by unfold Fz;decide
def KA:Fz 5:=by unfold Fz;decide
def nu:Fz ((1:Nat):Int):=by unfold Fz;decide
def tQ:Fz ((2:Nat):Int):=by unfold Fz;decide
def pz (h:x<y):aw x y<0:=fC.2 h
def Bd (h:¬x<y):¬aw x y<0:=λc=>h (fC.1 c)
def ek (h:y<x):0<aw x y:=by rw[bM h];decide
def lW (h:¬y<x):¬0<aw x y:=by have:=(bw (x:=x) (y:=y)).2 U;omega
def pA (hb:0<b):qR a b=(aa (cE a b),nS (bI a b).toNat):=by
 unfold qR nS
 have:=jn (n:=a) hb
 rw[show(((bI a b).toNat:Nat):Int)=bI a b by omega]
def DR (m one:Int)(a b:Nat):Option Bool:=DL (cE m one) (bI m one).toNat a b
def Be (one:Int)(a b:Nat):Nat->Int->Int->Option (Int×Int)
 |0,_,_=>none
 |f+1,lo,hi=>if 1<hi-lo then(DR ((lo+hi)/2) one a b).bind λu=>if u=true then Be one a b f ((lo+hi)/2) hi else Be one a b f lo ((lo+hi)/2)else some (lo,hi)
def LC {hi:Int}{a b f:Nat}{r:Int×Int}(h:Be one a b f lo hi=some r)(hl:1<hi-lo):∃g,f=g+1/\∃u,DR ((lo+hi)/2) one a b=some u/\(u=true->Be one a b g ((lo+hi)/2) hi=some r)/\(u=false->Be one a b g lo ((lo+hi)/2)=some r):=by
 cases f with
 |zero=>cases h
 | succ g=>
   unfold Be at h
   rw[if_pos hl]at h
   cases hu:DR ((lo+hi)/2) one a b with
   |none=>rw[hu]at h;cases h
   | some u=>
     rw[hu,Option.bind_some]at h
     refine⟨g,rfl,u,rfl,λe=>?_,λe=>?_⟩
     · rw[if_pos e]at h;exact h
     · rw[if_neg (by rw[e];decide)]at h;exact h
def LD {hi:Int}{a b f:Nat}{r:Int×Int}(h:Be one a b f lo hi=some r)(hl:¬1<hi-lo):(lo,hi)=r:=by
 cases f with
 |zero=>cases h
 |succ g=>unfold Be at h;rw[if_neg hl]at h;cases h;rfl
def vi {a b:Nat}(ha:a<10^90)(hb:b<10^90)(hb0:0<b)(hu:DL N d a b=some u)(ht:Tb w):
 CL 26 #[.agg #[S (aa N),S (nS d)],.agg #[S ((qR ((a:Nat):Int) ((b:Nat):Int)).1),S ((qR ((a:Nat):Int) ((b:Nat):Int)).2)]] w (aH w λv w'=>v=.tuple #[.bool u,.int .i64 0]):=by
 obtain⟨r,hr,hcase⟩:=DN hu;have Ns:=Fg Bc hr;have O5:=JZ (b:=b) ha hb0;rcases hcase with⟨rfl,h1⟩|⟨rfl,h1,h2⟩;refine aC func26 Z (I ?_);refine bx (λM8 Ra M5=>?_);have MN:=Ra.2;refine bx (λG QW M9=>?_);have⟨M5,MN⟩:=bn QW.2 M5 MN;refine I ?_;refine GJ (λPT OI _ ME=>?_);have⟨M5,M9,MN⟩:=aP OI M5 M9 MN;have Rf:=bz OI;refine I ?_;refine cM [(4,5),(7,10),(13,39)] (λO2 e W=>(0=O2)/\(e 13=.int .i64 0)/\(PT.heap.size<=W.heap.size)/\(a8 w W)/\(ae W w.heap.size 23 #[S (aa N),S (nS d)])/\(ae W M8.heap.size 23 #[S ((qR ((a:Nat):Int) ((b:Nat):Int)).1),S ((qR ((a:Nat):Int) ((b:Nat):Int)).2)])/\(World.ownsRow W G.heap.size 3 1 (.slice (some ⟨G.heap.size,0,none⟩) 2 2) 2 [.int .i64 15,.int .i64 50])) 0 ⟨rfl,rfl,(qa0 _),MN,M5,M9,ME⟩ ?_;rintro _ _ _ ⟨rfl,R6,SF,E,M5,M9,ME⟩;have SD:=bz E;refine I ?_;obtain⟨bk,oo,hA,O8⟩:=(aa3 ME).cells 0 _ Z;refine ab (am (i:=0) (oo:=oo+0) gq eN Z hA R6 dc Z ?_);refine ab (aT (v:=.int .i64 15) U3 Z Z O8 ?_);refine I ?_;refine clb eB (hc:=dr (pl:=15) dc (ht.ext E)) (hk:=?_);rintro _ MF NX rfl;have M5:=be NX.2 M5;have M9:=be NX.2 M9
 have ME:=aD NX.2 ME;have E:=xt E NX.2;refine al hP (λ_ Nx RA=>?_);have⟨M5,M9⟩:=iZ Nx.2 M5 M9;have ME:=aD Nx.2 ME;have E:=xt E Nx.2;refine SA RA (λNN NQ R2=>?_);have⟨M5,M9⟩:=vO NQ M5 M9;have ME:=dT NQ Vi ME;have E:=eK NQ E;have Sy:=dX NQ;refine I ?_;have MH:=ab1 NN
 refine kA mj 8 (λe0 ls e W=>∃kd:Nat,∃O:Nat,(∀t,pY [9,10,19,20,21,22,23,24] t=false->e t=e0 t)/\(a8 w W)/\(NN.heap.size<=W.heap.size)/\(ls 0=true->e 19=.agg #[.int .i64 ((15:Nat):Int),S (nS (10^15))])/\(ls 1=true->e 20=.agg #[S (aa N),S (nS d)])/\(ls 2=true->e 21=.agg #[S (aa r.1),S (aa r.2)])/\(ls 3=true->e 22=.agg #[.int .i64 ((15:Nat):Int),S (nS (10^15))])/\(ls 4=true->e 23=.agg #[S ((qR ((a:Nat):Int) ((b:Nat):Int)).1),S ((qR ((a:Nat):Int) ((b:Nat):Int)).2)])/\(ls 5=true->e 24=.agg #[S (nS ((aM (10^15) a b).1)),S (nS ((aM (10^15) a b).2))])/\(ls 6=true->e 9=pT kd)/\(ls 7=true->e 10=pT O)/\(ls 6=true->NN.heap.size<=kd)/\(ls 7=true->NN.heap.size<=O)/\(ls 6=true->ls 7=true->kd≠O)/\(ae W w.heap.size 23 #[S (aa N),S (nS d)])/\(ae W M8.heap.size 23 #[S ((qR ((a:Nat):Int) ((b:Nat):Int)).1),S ((qR ((a:Nat):Int) ((b:Nat):Int)).2)])/\(World.ownsRow W G.heap.size 3 1 (.slice (some ⟨G.heap.size,0,none⟩) 2 2) 2 [.int .i64 15,.int .i64 50])/\(ae W MF.heap.size 45 #[.int .i64 ((15:Nat):Int),S (nS (10^15))])/\(ls 6=true->ae W kd 59 #[S [],S []])/\(ls 7=true->ae W O 59 #[S [],S []])) ⟨0,0,(λ_ _=>rfl),(xt E MH),(bz MH),(ff Z),(ff Z),(ff Z),(ff Z),(ff Z),(ff Z),(ff Z),(ff Z),(ff Z),(ff Z),(λh _=>ff Z h),(be MH M5),(be MH M9),(aD MH ME),(be MH R2),(λh=>ff Z h),(λh=>ff Z h)⟩ j2 j2 ?_ ?_
 refine⟨λQR NA Ol Q7 Ov Qp _=>?_,?_⟩;obtain⟨kd,O,OJ,E,Aq,ny,od,M1,EW,Ay,B2,D2,wr,E7,L2,M2,Aw,Av,As,Ap,A2,Ab⟩:=Q7;obtain⟨QR,rfl⟩:=cz OJ;have Q8:Ol 2=false:=(bK Ov (i:=0) (j:=2) Z Qp);have Si:Ol 5=false:=(bK Ov (i:=2) (j:=5) Z Q8);have S9:=bz E;have OF:ae NA w.heap.size 23 #[S (aa N),S (nS d)]:=Aw;have Rl:=bt OF;have OD:ae NA M8.heap.size 23 #[S ((qR ((a:Nat):Int) ((b:Nat):Int)).1),S ((qR ((a:Nat):Int) ((b:Nat):Int)).2)]:=Av;have SQ:=bt OD;have Qw:World.ownsRow NA G.heap.size 3 1 (.slice (some ⟨G.heap.size,0,none⟩) 2 2) 2 [.int .i64 15,.int .i64 50]:=As;have OH:ae NA MF.heap.size 45 #[.int .i64 ((15:Nat):Int),S (nS (10^15))]:=Ap;have T0:=bt OH;refine I ?_;exact⟨rfl,_,(ai _ _ _ _ _).symm,kd,O,(ap Z OJ),E,U,(λ_=>rfl),od,M1,EW,Ay,B2,D2,wr,E7,L2,M2,(OF),(OD),(Qw),(OH),(λQ0=>A2 Q0),(λQJ=>Ab QJ)⟩;refine⟨λQ4 NG Oq QB OW QP _=>?_,?_⟩;obtain⟨kd,O,ask,E,Aq,ny,od,M1,EW,Ay,B2,D2,wr,E7,L2,M2,Aw,Av,As,Ap,A2,Ab⟩:=QB;obtain⟨Q4,rfl⟩:=cz ask;have at2:Oq 2=false:=(bK OW (i:=1) (j:=2) Z QP);have SB:Oq 5=false:=(bK OW (i:=2) (j:=5) Z at2);have S2:=bz E;have Oi:ae NG w.heap.size 23 #[S (aa N),S (nS d)]:=Aw;have SJ:=bt Oi
 have Ob:ae NG M8.heap.size 23 #[S ((qR ((a:Nat):Int) ((b:Nat):Int)).1),S ((qR ((a:Nat):Int) ((b:Nat):Int)).2)]:=Av;have Sk:=bt Ob;have at3:World.ownsRow NG G.heap.size 3 1 (.slice (some ⟨G.heap.size,0,none⟩) 2 2) 2 [.int .i64 15,.int .i64 50]:=As;have P8:ae NG MF.heap.size 45 #[.int .i64 ((15:Nat):Int),S (nS (10^15))]:=Ap;have Sj:=bt P8;refine I ?_;exact⟨rfl,_,(ai _ _ _ _ _).symm,kd,O,(ap Z ask),E,U,ny,(λ_=>rfl),M1,EW,Ay,B2,D2,wr,E7,L2,M2,(Oi),(Ob),(at3),(P8),(λat4=>A2 at4),(λQ5=>Ab Q5)⟩;refine⟨λNy N8 O6 QC at8 at9 OU=>?_,?_⟩;obtain⟨kd,O,OV,E,Aq,ny,od,M1,EW,Ay,B2,D2,wr,E7,L2,M2,Aw,Av,As,Ap,A2,Ab⟩:=QC;obtain⟨Ny,rfl⟩:=cz OV;have Qj:O6 1=true:=(OU 1 Z);have RO:O6 0=true:=(OU 0 Z);have TN:O6 5=false:=(bK at8 (i:=2) (j:=5) Z at9);have Qg:Ny 19=.agg #[.int .i64 ((15:Nat):Int),S (nS (10^15))]:=ny RO;have Pm:Ny 20=.agg #[S (aa N),S (nS d)]:=od Qj;have Sd:=bz E;have NT:ae N8 w.heap.size 23 #[S (aa N),S (nS d)]:=Aw;have Sx:=bt NT;have NL:ae N8 M8.heap.size 23 #[S ((qR ((a:Nat):Int) ((b:Nat):Int)).1),S ((qR ((a:Nat):Int) ((b:Nat):Int)).2)]:=Av;have T9:=bt NL
 have arr:World.ownsRow N8 G.heap.size 3 1 (.slice (some ⟨G.heap.size,0,none⟩) 2 2) 2 [.int .i64 15,.int .i64 50]:=As;have NO:ae N8 MF.heap.size 45 #[.int .i64 ((15:Nat):Int),S (nS (10^15))]:=Ap;have Ru:=bt NO;refine clb q8 (hc:=kq Bc dc hr (ht.ext E)) (hk:=?_) (hv:=aA Qg (aA Pm Z));rintro _ _ MY rfl;have⟨NT,NL⟩:=iZ MY.2 NT NL;have arr:=aD MY.2 arr;have⟨NO,E⟩:=bn MY.2 NO E;refine I ?_;exact⟨rfl,_,(ai _ _ _ _ _).symm,kd,O,(ap Z OV),E,U,ny,od,(λ_=>rfl),EW,Ay,B2,D2,wr,E7,L2,M2,(NT),(NL),(arr),(NO),(λRU=>(be MY.2 (A2 RU))),(λPw=>(be MY.2 (Ab Pw)))⟩;refine⟨λPi NE PH Qx Qh PQ _=>?_,?_⟩;obtain⟨kd,O,PF,E,Aq,ny,od,M1,EW,Ay,B2,D2,wr,E7,L2,M2,Aw,Av,As,Ap,A2,Ab⟩:=Qx;obtain⟨Pi,rfl⟩:=cz PF;have S0:PH 5=false:=(bK Qh (i:=3) (j:=5) Z PQ);have TD:=bz E;have Oh:ae NE w.heap.size 23 #[S (aa N),S (nS d)]:=Aw;have Td:=bt Oh;have OM:ae NE M8.heap.size 23 #[S ((qR ((a:Nat):Int) ((b:Nat):Int)).1),S ((qR ((a:Nat):Int) ((b:Nat):Int)).2)]:=Av;have SZ:=bt OM;have RV:World.ownsRow NE G.heap.size 3 1 (.slice (some ⟨G.heap.size,0,none⟩) 2 2) 2 [.int .i64 15,.int .i64 50]:=As;have Od:ae NE MF.heap.size 45 #[.int .i64 ((15:Nat):Int),S (nS (10^15))]:=Ap;have Rx:=bt Od
 refine I ?_;exact⟨rfl,_,(ai _ _ _ _ _).symm,kd,O,(ap Z PF),E,U,ny,od,M1,(λ_=>rfl),Ay,B2,D2,wr,E7,L2,M2,(Oh),(OM),(RV),(Od),(λQn=>A2 Qn),(λRJ=>Ab RJ)⟩;refine⟨λQG Nj PX Qf RN Pz _=>?_,?_⟩;obtain⟨kd,O,OL,E,Aq,ny,od,M1,EW,Ay,B2,D2,wr,E7,L2,M2,Aw,Av,As,Ap,A2,Ab⟩:=Qf;obtain⟨QG,rfl⟩:=cz OL;have Sm:PX 5=false:=(bK RN (i:=4) (j:=5) Z Pz);have TY:=bz E;have P1:ae Nj w.heap.size 23 #[S (aa N),S (nS d)]:=Aw;have Ro:=bt P1;have P3:ae Nj M8.heap.size 23 #[S ((qR ((a:Nat):Int) ((b:Nat):Int)).1),S ((qR ((a:Nat):Int) ((b:Nat):Int)).2)]:=Av;have Ti:=bt P3;have QO:World.ownsRow Nj G.heap.size 3 1 (.slice (some ⟨G.heap.size,0,none⟩) 2 2) 2 [.int .i64 15,.int .i64 50]:=As;have Ot:ae Nj MF.heap.size 45 #[.int .i64 ((15:Nat):Int),S (nS (10^15))]:=Ap;have TJ:=bt Ot;refine I ?_;exact⟨rfl,_,(ai _ _ _ _ _).symm,kd,O,(ap Z OL),E,U,ny,od,M1,EW,(λ_=>rfl),B2,D2,wr,E7,L2,M2,(P1),(P3),(QO),(Ot),(λRD=>A2 RD),(λQN=>Ab QN)⟩;refine⟨λO9 Nk MX Qk OS _ O3=>?_,?_⟩;obtain⟨kd,O,OR,E,Aq,ny,od,M1,EW,Ay,B2,D2,wr,E7,L2,M2,Aw,Av,As,Ap,A2,Ab⟩:=Qk;obtain⟨O9,rfl⟩:=cz OR;have Oj:MX 2=true:=(O3 2 Z);have TT:MX 1=true:=(OS 2 1 Z Oj)
 have Sf:MX 0=true:=(OS 2 0 Z Oj);have QT:MX 4=true:=(O3 4 Z);have Pe:MX 3=true:=(O3 3 Z);have PV:O9 22=.agg #[.int .i64 ((15:Nat):Int),S (nS (10^15))]:=EW Pe;have Qc:O9 23=.agg #[S ((qR ((a:Nat):Int) ((b:Nat):Int)).1),S ((qR ((a:Nat):Int) ((b:Nat):Int)).2)]:=Ay QT;have T5:=bz E;have NJ:ae Nk w.heap.size 23 #[S (aa N),S (nS d)]:=Aw;have TU:=bt NJ;have Nq:ae Nk M8.heap.size 23 #[S ((qR ((a:Nat):Int) ((b:Nat):Int)).1),S ((qR ((a:Nat):Int) ((b:Nat):Int)).2)]:=Av;have Su:=bt Nq;have Nu:World.ownsRow Nk G.heap.size 3 1 (.slice (some ⟨G.heap.size,0,none⟩) 2 2) 2 [.int .i64 15,.int .i64 50]:=As;have NP:ae Nk MF.heap.size 45 #[.int .i64 ((15:Nat):Int),S (nS (10^15))]:=Ap;have Tc:=bt NP;refine cl gu (iT Bc ha hb hb0 (ht.ext E)) ?_ (aA PV (aA Qc Z));rintro _ _ N0 rfl;have⟨NJ,Nq⟩:=iZ N0.2 NJ Nq;have Nu:=aD N0.2 Nu;have⟨NP,E⟩:=bn N0.2 NP E;refine I ?_;exact⟨rfl,_,(ai _ _ _ _ _).symm,kd,O,(ap Z OR),E,U,ny,od,M1,EW,Ay,(λ_=>rfl),D2,wr,E7,L2,M2,(NJ),(Nq),(Nu),(NP),(λPW=>(be N0.2 (A2 PW))),(λPM=>(be N0.2 (Ab PM)))⟩;refine⟨λQz MQ _ PR _ _ _=>?_,?_⟩;obtain⟨kd,O,P5,E,Aq,ny,od,M1,EW,Ay,B2,D2,wr,E7,L2,M2,Aw,Av,As,Ap,A2,Ab⟩:=PR
 obtain⟨Qz,rfl⟩:=cz P5;have S6:=bz E;have NH:ae MQ w.heap.size 23 #[S (aa N),S (nS d)]:=Aw;have TM:=bt NH;have NM:ae MQ M8.heap.size 23 #[S ((qR ((a:Nat):Int) ((b:Nat):Int)).1),S ((qR ((a:Nat):Int) ((b:Nat):Int)).2)]:=Av;have SE:=bt NM;have O7:World.ownsRow MQ G.heap.size 3 1 (.slice (some ⟨G.heap.size,0,none⟩) 2 2) 2 [.int .i64 15,.int .i64 50]:=As;have Nc:ae MQ MF.heap.size 45 #[.int .i64 ((15:Nat):Int),S (nS (10^15))]:=Ap;have TQ:=bt Nc;refine al aI (λ_ NC R8=>?_);have⟨NH,NM⟩:=iZ NC.2 NH NM;have O7:=aD NC.2 O7;have⟨Nc,E⟩:=bn NC.2 Nc E;refine I ?_;exact⟨rfl,_,(ai _ _ _ _ _).symm,MQ.heap.size,O,(ap Z P5),E,U,ny,od,M1,EW,Ay,B2,(λ_=>rfl),wr,(λ_=>U),L2,(λ_ Pv=>(by have:=bt (Ab Pv);omega)),(NH),(NM),(O7),(Nc),(λ_=>R8),(λPP=>(be NC.2 (Ab PP)))⟩;refine⟨λRG MP _ QK _ _ _=>?_,?_⟩;obtain⟨kd,O,Oz,E,Aq,ny,od,M1,EW,Ay,B2,D2,wr,E7,L2,M2,Aw,Av,As,Ap,A2,Ab⟩:=QK;obtain⟨RG,rfl⟩:=cz Oz;have TP:=bz E;have NW:ae MP w.heap.size 23 #[S (aa N),S (nS d)]:=Aw;have Rr:=bt NW;have NK:ae MP M8.heap.size 23 #[S ((qR ((a:Nat):Int) ((b:Nat):Int)).1),S ((qR ((a:Nat):Int) ((b:Nat):Int)).2)]:=Av;have Sq:=bt NK
 have OB:World.ownsRow MP G.heap.size 3 1 (.slice (some ⟨G.heap.size,0,none⟩) 2 2) 2 [.int .i64 15,.int .i64 50]:=As;have N5:ae MP MF.heap.size 45 #[.int .i64 ((15:Nat):Int),S (nS (10^15))]:=Ap;have TB:=bt N5;refine al aI (λ_ Nh QS=>?_);have⟨NW,NK⟩:=iZ Nh.2 NW NK;have OB:=aD Nh.2 OB;have⟨N5,E⟩:=bn Nh.2 N5 E;refine I ?_;exact⟨rfl,_,(ai _ _ _ _ _).symm,kd,MP.heap.size,(ap Z Oz),E,U,ny,od,M1,EW,Ay,B2,D2,(λ_=>rfl),E7,(λ_=>U),(λQM _=>(by have:=bt (A2 QM);omega)),(NW),(NK),(OB),(N5),(λQX=>(be Nh.2 (A2 QX))),(λ_=>QS)⟩;exact trivial;intro MO MI _ MD QH;obtain⟨kd,O,RX,E,Aq,ny,od,M1,EW,Ay,B2,D2,wr,E7,L2,M2,Aw,Av,As,Ap,A2,Ab⟩:=QH;obtain⟨MO,rfl⟩:=cz RX;have SG:=bz E;have Rb:=E7 (MD 6 Z);have Sr:=L2 (MD 7 Z);have Rn:=M2 (MD 6 Z) (MD 7 Z);have MR:ae MI w.heap.size 23 #[S (aa N),S (nS d)]:=Aw;have S7:=bt MR;have N3:ae MI M8.heap.size 23 #[S ((qR ((a:Nat):Int) ((b:Nat):Int)).1),S ((qR ((a:Nat):Int) ((b:Nat):Int)).2)]:=Av;have SC:=bt N3;have S1:World.ownsRow MI G.heap.size 3 1 (.slice (some ⟨G.heap.size,0,none⟩) 2 2) 2 [.int .i64 15,.int .i64 50]:=As;have ML:ae MI MF.heap.size 45 #[.int .i64 ((15:Nat):Int),S (nS (10^15))]:=Ap;have Sz:=bt ML
 have OT:ae MI kd 59 #[S [],S []]:=A2 (MD 6 Z);have Re:=bt OT;have NB:ae MI O 59 #[S [],S []]:=Ab (MD 7 Z);have SU:=bt NB;have Rm:MO 9=pT kd:=(D2 (MD 6 Z));have SR:MO 21=.agg #[S (aa r.1),S (aa r.2)]:=(M1 (MD 2 Z));refine SA OT (λ_ Pt PD=>?_);have⟨MR,N3,ML,NB,E,_⟩:=ka Pt MR N3 ML NB E;have SH:MO 10=pT O:=(wr (MD 7 Z));have Rq:MO 24=.agg #[S (nS ((aM (10^15) a b).1)),S (nS ((aM (10^15) a b).2))]:=(B2 (MD 5 Z));refine SA NB (λ_ R1 _=>?_);have⟨MR,N3,ML,PD,E,_⟩:=ka R1 MR N3 ML PD E;refine I ?_;refine cl i8 (fG Z Z Ns.2 O5.1) ?_;rintro _ _ Pp rfl;have E:=xt E Pp.2;have Rh:=pz h1;refine I ?_;exact aW (t:=4) (u:=5) (v1:=.bool true) (v2:=.int .i64 0) Z E Z Z Z;refine aC func26 Z (I ?_);refine bx (λM7 Qr M4=>?_);have MV:=Qr.2;refine bx (λA1 Q2 M6=>?_);have⟨M4,MV⟩:=bn Q2.2 M4 MV;refine I ?_;refine GJ (λQo OE _ MA=>?_);have⟨M4,M6,MV⟩:=aP OE M4 M6 MV;have Rs:=bz OE;refine I ?_
 refine cM [(4,5),(7,10),(13,39)] (λO2 e W=>(0=O2)/\(e 13=.int .i64 0)/\(Qo.heap.size<=W.heap.size)/\(a8 w W)/\(ae W w.heap.size 23 #[S (aa N),S (nS d)])/\(ae W M7.heap.size 23 #[S ((qR ((a:Nat):Int) ((b:Nat):Int)).1),S ((qR ((a:Nat):Int) ((b:Nat):Int)).2)])/\(World.ownsRow W A1.heap.size 3 1 (.slice (some ⟨A1.heap.size,0,none⟩) 2 2) 2 [.int .i64 15,.int .i64 50])) 0 ⟨rfl,rfl,(qa0 _),MV,M4,M6,MA⟩ ?_;rintro _ _ _ ⟨rfl,QQ,Rk,D,M4,M6,MA⟩;have Tj:=bz D;refine I ?_;obtain⟨bk,oo,hA,O8⟩:=(aa3 MA).cells 0 _ Z;refine ab (am (i:=0) (oo:=oo+0) gq eN Z hA QQ dc Z ?_);refine ab (aT (v:=.int .i64 15) U3 Z Z O8 ?_);refine I ?_;refine clb eB (hc:=dr (pl:=15) dc (ht.ext D)) (hk:=?_);rintro _ MC Nz rfl;have⟨M4,M6⟩:=iZ Nz.2 M4 M6;have MA:=aD Nz.2 MA;have D:=xt D Nz.2;refine al hP (λ_ O0 QZ=>?_);have⟨M4,M6⟩:=iZ O0.2 M4 M6;have MA:=aD O0.2 MA;have D:=xt D O0.2;refine SA QZ (λNo ND RP=>?_);have⟨M4,M6⟩:=vO ND M4 M6;have MA:=dT ND Vi MA;have D:=eK ND D;have Tf:=dX ND;refine I ?_;have MG:=ab1 No
 refine kA mj 8 (λe0 ls e W=>∃kk:Nat,∃H:Nat,(∀t,pY [9,10,19,20,21,22,23,24] t=false->e t=e0 t)/\(a8 w W)/\(No.heap.size<=W.heap.size)/\(ls 0=true->e 19=.agg #[.int .i64 ((15:Nat):Int),S (nS (10^15))])/\(ls 1=true->e 20=.agg #[S (aa N),S (nS d)])/\(ls 2=true->e 21=.agg #[S (aa r.1),S (aa r.2)])/\(ls 3=true->e 22=.agg #[.int .i64 ((15:Nat):Int),S (nS (10^15))])/\(ls 4=true->e 23=.agg #[S ((qR ((a:Nat):Int) ((b:Nat):Int)).1),S ((qR ((a:Nat):Int) ((b:Nat):Int)).2)])/\(ls 5=true->e 24=.agg #[S (nS ((aM (10^15) a b).1)),S (nS ((aM (10^15) a b).2))])/\(ls 6=true->e 9=pT kk)/\(ls 7=true->e 10=pT H)/\(ls 6=true->No.heap.size<=kk)/\(ls 7=true->No.heap.size<=H)/\(ls 6=true->ls 7=true->kk≠H)/\(ae W w.heap.size 23 #[S (aa N),S (nS d)])/\(ae W M7.heap.size 23 #[S ((qR ((a:Nat):Int) ((b:Nat):Int)).1),S ((qR ((a:Nat):Int) ((b:Nat):Int)).2)])/\(World.ownsRow W A1.heap.size 3 1 (.slice (some ⟨A1.heap.size,0,none⟩) 2 2) 2 [.int .i64 15,.int .i64 50])/\(ae W MC.heap.size 45 #[.int .i64 ((15:Nat):Int),S (nS (10^15))])/\(ls 6=true->ae W kk 59 #[S [],S []])/\(ls 7=true->ae W H 59 #[S [],S []])) ⟨0,0,(λ_ _=>rfl),(xt D MG),(bz MG),(ff Z),(ff Z),(ff Z),(ff Z),(ff Z),(ff Z),(ff Z),(ff Z),(ff Z),(ff Z),(λh _=>ff Z h),(be MG M4),(be MG M6),(aD MG MA),(be MG RP),(λh=>ff Z h),(λh=>ff Z h)⟩ j2 j2 ?_ ?_
 refine⟨λQE Nn Og Q6 P6 Ql _=>?_,?_⟩;obtain⟨kk,H,Oy,D,Aq,Ix,Kp,E9,D1,E4,E1,B1,M0,K2,Jx,M3,Ao,Ad,Af,Ax,Ar,Am⟩:=Q6;obtain⟨QE,rfl⟩:=cz Oy;have QU:Og 2=false:=(bK P6 (i:=0) (j:=2) Z Ql);have TC:Og 5=false:=(bK P6 (i:=2) (j:=5) Z QU);have S4:=bz D;have P9:ae Nn w.heap.size 23 #[S (aa N),S (nS d)]:=Ao;have TI:=bt P9;have P0:ae Nn M7.heap.size 23 #[S ((qR ((a:Nat):Int) ((b:Nat):Int)).1),S ((qR ((a:Nat):Int) ((b:Nat):Int)).2)]:=Ad;have TW:=bt P0;have R9:World.ownsRow Nn A1.heap.size 3 1 (.slice (some ⟨A1.heap.size,0,none⟩) 2 2) 2 [.int .i64 15,.int .i64 50]:=Af;have OQ:ae Nn MC.heap.size 45 #[.int .i64 ((15:Nat):Int),S (nS (10^15))]:=Ax;have Se:=bt OQ;refine I ?_;exact⟨rfl,_,(ai _ _ _ _ _).symm,kk,H,(ap Z Oy),D,U,(λ_=>rfl),Kp,E9,D1,E4,E1,B1,M0,K2,Jx,M3,(P9),(P0),(R9),(OQ),(λQm=>Ar Qm),(λQD=>Am QD)⟩;refine⟨λPr NU PC RI Oe Pf _=>?_,?_⟩;obtain⟨kk,H,P7,D,Aq,Ix,Kp,E9,D1,E4,E1,B1,M0,K2,Jx,M3,Ao,Ad,Af,Ax,Ar,Am⟩:=RI;obtain⟨Pr,rfl⟩:=cz P7;have Pq:PC 2=false:=(bK Oe (i:=1) (j:=2) Z Pf);have SV:PC 5=false:=(bK Oe (i:=2) (j:=5) Z Pq);have SY:=bz D;have ON:ae NU w.heap.size 23 #[S (aa N),S (nS d)]:=Ao;have T4:=bt ON
 have Ou:ae NU M7.heap.size 23 #[S ((qR ((a:Nat):Int) ((b:Nat):Int)).1),S ((qR ((a:Nat):Int) ((b:Nat):Int)).2)]:=Ad;have Sa:=bt Ou;have RE:World.ownsRow NU A1.heap.size 3 1 (.slice (some ⟨A1.heap.size,0,none⟩) 2 2) 2 [.int .i64 15,.int .i64 50]:=Af;have OY:ae NU MC.heap.size 45 #[.int .i64 ((15:Nat):Int),S (nS (10^15))]:=Ax;have TS:=bt OY;refine I ?_;exact⟨rfl,_,(ai _ _ _ _ _).symm,kk,H,(ap Z P7),D,U,Ix,(λ_=>rfl),E9,D1,E4,E1,B1,M0,K2,Jx,M3,(ON),(Ou),(RE),(OY),(λR3=>Ar R3),(λQI=>Am QI)⟩;refine⟨λNv Ni Nt Qu PK Qd On=>?_,?_⟩;obtain⟨kk,H,OG,D,Aq,Ix,Kp,E9,D1,E4,E1,B1,M0,K2,Jx,M3,Ao,Ad,Af,Ax,Ar,Am⟩:=Qu;obtain⟨Nv,rfl⟩:=cz OG;have R5:Nt 1=true:=(On 1 Z);have Pn:Nt 0=true:=(On 0 Z);have T1:Nt 5=false:=(bK PK (i:=2) (j:=5) Z Qd);have Pb:Nv 19=.agg #[.int .i64 ((15:Nat):Int),S (nS (10^15))]:=Ix Pn;have PU:Nv 20=.agg #[S (aa N),S (nS d)]:=Kp R5;have TZ:=bz D;have NF:ae Ni w.heap.size 23 #[S (aa N),S (nS d)]:=Ao;have Rv:=bt NF;have Ne:ae Ni M7.heap.size 23 #[S ((qR ((a:Nat):Int) ((b:Nat):Int)).1),S ((qR ((a:Nat):Int) ((b:Nat):Int)).2)]:=Ad;have SL:=bt Ne
 have Nr:World.ownsRow Ni A1.heap.size 3 1 (.slice (some ⟨A1.heap.size,0,none⟩) 2 2) 2 [.int .i64 15,.int .i64 50]:=Af;have Ng:ae Ni MC.heap.size 45 #[.int .i64 ((15:Nat):Int),S (nS (10^15))]:=Ax;have S5:=bt Ng;refine clb q8 (hc:=kq Bc dc hr (ht.ext D)) (hk:=?_) (hv:=aA Pb (aA PU Z));rintro _ _ MK rfl;have⟨NF,Ne⟩:=iZ MK.2 NF Ne;have Nr:=aD MK.2 Nr;have⟨Ng,D⟩:=bn MK.2 Ng D;refine I ?_;exact⟨rfl,_,(ai _ _ _ _ _).symm,kk,H,(ap Z OG),D,U,Ix,Kp,(λ_=>rfl),D1,E4,E1,B1,M0,K2,Jx,M3,(NF),(Ne),(Nr),(Ng),(λPN=>(be MK.2 (Ar PN))),(λQY=>(be MK.2 (Am QY)))⟩;refine⟨λQq Nb Qe QF Qt R4 _=>?_,?_⟩;obtain⟨kk,H,Ow,D,Aq,Ix,Kp,E9,D1,E4,E1,B1,M0,K2,Jx,M3,Ao,Ad,Af,Ax,Ar,Am⟩:=QF;obtain⟨Qq,rfl⟩:=cz Ow;have TV:Qe 5=false:=(bK Qt (i:=3) (j:=5) Z R4);have Ry:=bz D;have P2:ae Nb w.heap.size 23 #[S (aa N),S (nS d)]:=Ao;have SK:=bt P2;have OX:ae Nb M7.heap.size 23 #[S ((qR ((a:Nat):Int) ((b:Nat):Int)).1),S ((qR ((a:Nat):Int) ((b:Nat):Int)).2)]:=Ad;have Sv:=bt OX;have Qy:World.ownsRow Nb A1.heap.size 3 1 (.slice (some ⟨A1.heap.size,0,none⟩) 2 2) 2 [.int .i64 15,.int .i64 50]:=Af;have Ox:ae Nb MC.heap.size 45 #[.int .i64 ((15:Nat):Int),S (nS (10^15))]:=Ax
 have SP:=bt Ox;refine I ?_;exact⟨rfl,_,(ai _ _ _ _ _).symm,kk,H,(ap Z Ow),D,U,Ix,Kp,E9,(λ_=>rfl),E4,E1,B1,M0,K2,Jx,M3,(P2),(OX),(Qy),(Ox),(λRH=>Ar RH),(λQ1=>Am Q1)⟩;refine⟨λQi Nm Qa RR PY Q3 _=>?_,?_⟩;obtain⟨kk,H,OZ,D,Aq,Ix,Kp,E9,D1,E4,E1,B1,M0,K2,Jx,M3,Ao,Ad,Af,Ax,Ar,Am⟩:=RR;obtain⟨Qi,rfl⟩:=cz OZ;have Rc:Qa 5=false:=(bK PY (i:=4) (j:=5) Z Q3);have Sw:=bz D;have OK:ae Nm w.heap.size 23 #[S (aa N),S (nS d)]:=Ao;have TH:=bt OK;have Oa:ae Nm M7.heap.size 23 #[S ((qR ((a:Nat):Int) ((b:Nat):Int)).1),S ((qR ((a:Nat):Int) ((b:Nat):Int)).2)]:=Ad;have SS:=bt Oa;have Py:World.ownsRow Nm A1.heap.size 3 1 (.slice (some ⟨A1.heap.size,0,none⟩) 2 2) 2 [.int .i64 15,.int .i64 50]:=Af;have Om:ae Nm MC.heap.size 45 #[.int .i64 ((15:Nat):Int),S (nS (10^15))]:=Ax;have SN:=bt Om;refine I ?_;exact⟨rfl,_,(ai _ _ _ _ _).symm,kk,H,(ap Z OZ),D,U,Ix,Kp,E9,D1,(λ_=>rfl),E1,B1,M0,K2,Jx,M3,(OK),(Oa),(Py),(Om),(λPx=>Ar Px),(λPu=>Am Pu)⟩;refine⟨λOA NY MS Po OO _ O1=>?_,?_⟩;obtain⟨kk,H,Oo,D,Aq,Ix,Kp,E9,D1,E4,E1,B1,M0,K2,Jx,M3,Ao,Ad,Af,Ax,Ar,Am⟩:=Po;obtain⟨OA,rfl⟩:=cz Oo;have OP:MS 2=true:=(O1 2 Z)
 have T3:MS 1=true:=(OO 2 1 Z OP);have S8:MS 0=true:=(OO 2 0 Z OP);have Pd:MS 4=true:=(O1 4 Z);have R0:MS 3=true:=(O1 3 Z);have PL:OA 22=.agg #[.int .i64 ((15:Nat):Int),S (nS (10^15))]:=D1 R0;have PI:OA 23=.agg #[S ((qR ((a:Nat):Int) ((b:Nat):Int)).1),S ((qR ((a:Nat):Int) ((b:Nat):Int)).2)]:=E4 Pd;have TR:=bz D;have N9:ae NY w.heap.size 23 #[S (aa N),S (nS d)]:=Ao;have Ri:=bt N9;have Nf:ae NY M7.heap.size 23 #[S ((qR ((a:Nat):Int) ((b:Nat):Int)).1),S ((qR ((a:Nat):Int) ((b:Nat):Int)).2)]:=Ad;have TF:=bt Nf;have Nw:World.ownsRow NY A1.heap.size 3 1 (.slice (some ⟨A1.heap.size,0,none⟩) 2 2) 2 [.int .i64 15,.int .i64 50]:=Af;have NZ:ae NY MC.heap.size 45 #[.int .i64 ((15:Nat):Int),S (nS (10^15))]:=Ax;have TL:=bt NZ;refine cl gu (iT Bc ha hb hb0 (ht.ext D)) ?_ (aA PL (aA PI Z));rintro _ _ N1 rfl;have⟨N9,Nf⟩:=iZ N1.2 N9 Nf;have Nw:=aD N1.2 Nw;have⟨NZ,D⟩:=bn N1.2 NZ D;refine I ?_;exact⟨rfl,_,(ai _ _ _ _ _).symm,kk,H,(ap Z Oo),D,U,Ix,Kp,E9,D1,E4,(λ_=>rfl),B1,M0,K2,Jx,M3,(N9),(Nf),(Nw),(NZ),(λPg=>(be N1.2 (Ar Pg))),(λRF=>(be N1.2 (Am RF)))⟩;refine⟨λRQ MU _ PZ _ _ _=>?_,?_⟩
 obtain⟨kk,H,Of,D,Aq,Ix,Kp,E9,D1,E4,E1,B1,M0,K2,Jx,M3,Ao,Ad,Af,Ax,Ar,Am⟩:=PZ;obtain⟨RQ,rfl⟩:=cz Of;have SX:=bz D;have NV:ae MU w.heap.size 23 #[S (aa N),S (nS d)]:=Ao;have TX:=bt NV;have N7:ae MU M7.heap.size 23 #[S ((qR ((a:Nat):Int) ((b:Nat):Int)).1),S ((qR ((a:Nat):Int) ((b:Nat):Int)).2)]:=Ad;have Rz:=bt N7;have OC:World.ownsRow MU A1.heap.size 3 1 (.slice (some ⟨A1.heap.size,0,none⟩) 2 2) 2 [.int .i64 15,.int .i64 50]:=Af;have NS:ae MU MC.heap.size 45 #[.int .i64 ((15:Nat):Int),S (nS (10^15))]:=Ax;have Ta:=bt NS;refine al aI (λ_ Nl PO=>?_);have⟨NV,N7⟩:=iZ Nl.2 NV N7;have OC:=aD Nl.2 OC;have⟨NS,D⟩:=bn Nl.2 NS D;refine I ?_;exact⟨rfl,_,(ai _ _ _ _ _).symm,MU.heap.size,H,(ap Z Of),D,U,Ix,Kp,E9,D1,E4,E1,(λ_=>rfl),M0,(λ_=>U),Jx,(λ_ RL=>(by have:=bt (Am RL);omega)),(NV),(N7),(OC),(NS),(λ_=>PO),(λR7=>(be Nl.2 (Am R7)))⟩;refine⟨λPS MZ _ Qs _ _ _=>?_,?_⟩;obtain⟨kk,H,PG,D,Aq,Ix,Kp,E9,D1,E4,E1,B1,M0,K2,Jx,M3,Ao,Ad,Af,Ax,Ar,Am⟩:=Qs;obtain⟨PS,rfl⟩:=cz PG;have Te:=bz D;have N4:ae MZ w.heap.size 23 #[S (aa N),S (nS d)]:=Ao;have TG:=bt N4
 have Na:ae MZ M7.heap.size 23 #[S ((qR ((a:Nat):Int) ((b:Nat):Int)).1),S ((qR ((a:Nat):Int) ((b:Nat):Int)).2)]:=Ad;have Sl:=bt Na;have O4:World.ownsRow MZ A1.heap.size 3 1 (.slice (some ⟨A1.heap.size,0,none⟩) 2 2) 2 [.int .i64 15,.int .i64 50]:=Af;have NR:ae MZ MC.heap.size 45 #[.int .i64 ((15:Nat):Int),S (nS (10^15))]:=Ax;have Sb:=bt NR;refine al aI (λ_ Np QA=>?_);have⟨N4,Na⟩:=iZ Np.2 N4 Na;have O4:=aD Np.2 O4;have⟨NR,D⟩:=bn Np.2 NR D;refine I ?_;exact⟨rfl,_,(ai _ _ _ _ _).symm,kk,MZ.heap.size,(ap Z PG),D,U,Ix,Kp,E9,D1,E4,E1,B1,(λ_=>rfl),K2,(λ_=>U),(λRY _=>(by have:=bt (Ar RY);omega)),(N4),(Na),(O4),(NR),(λRZ=>(be Np.2 (Ar RZ))),(λ_=>QA)⟩;exact trivial;intro Mz MJ _ MB Ps;obtain⟨kk,H,Pj,D,Aq,Ix,Kp,E9,D1,E4,E1,B1,M0,K2,Jx,M3,Ao,Ad,Af,Ax,Ar,Am⟩:=Ps;obtain⟨Mz,rfl⟩:=cz Pj;have Tg:=bz D;have Ss:=K2 (MB 6 Z);have SI:=Jx (MB 7 Z);have T2:=M3 (MB 6 Z) (MB 7 Z);have MM:ae MJ w.heap.size 23 #[S (aa N),S (nS d)]:=Ao;have Rj:=bt MM;have MW:ae MJ M7.heap.size 23 #[S ((qR ((a:Nat):Int) ((b:Nat):Int)).1),S ((qR ((a:Nat):Int) ((b:Nat):Int)).2)]:=Ad;have TK:=bt MW
 have T7:World.ownsRow MJ A1.heap.size 3 1 (.slice (some ⟨A1.heap.size,0,none⟩) 2 2) 2 [.int .i64 15,.int .i64 50]:=Af;have My:ae MJ MC.heap.size 45 #[.int .i64 ((15:Nat):Int),S (nS (10^15))]:=Ax;have Sp:=bt My;have Oc:ae MJ kk 59 #[S [],S []]:=Ar (MB 6 Z);have TA:=bt Oc;have NI:ae MJ H 59 #[S [],S []]:=Am (MB 7 Z);have S3:=bt NI;have TO:Mz 9=pT kk:=(B1 (MB 6 Z));have TE:Mz 21=.agg #[S (aa r.1),S (aa r.2)]:=(E9 (MB 2 Z));refine SA Oc (λ_ RS N6=>?_);have⟨MM,MW,My,NI,D,_⟩:=ka RS MM MW My NI D;have Rp:Mz 10=pT H:=(M0 (MB 7 Z));have T8:Mz 24=.agg #[S (nS ((aM (10^15) a b).1)),S (nS ((aM (10^15) a b).2))]:=(E1 (MB 5 Z));refine SA NI (λ_ RB PE=>?_);have⟨MM,MW,My,N6,D,_⟩:=ka RB MM MW My N6 D;refine I ?_;refine cl i8 (fG Z Z Ns.2 O5.1) ?_;rintro _ _ Qb rfl;have⟨N6,PE,D⟩:=aP Qb.2 N6 PE D;have Rt:=Bd h1;refine I ?_;refine cl i8 (fG Z Z Ns.1 O5.2) ?_;rintro _ _ Pk rfl;have D:=xt D Pk.2;have T6:=ek h2;refine I ?_;exact aW (t:=4) (u:=5) (v1:=.bool false) (v2:=.int .i64 0) Z D Z Z Z
def m9 {m o:Int}{a b:Nat}(ho:0<o)(ha:a<10^90)(hb:b<10^90)(hb0:0<b)(hu:DR m o a b=some u)(ht:Tb w):
 CL 26 #[.agg #[S (qR m o).1,S (qR m o).2],.agg #[S ((qR (a:Int) (b:Int)).1),S ((qR (a:Int) (b:Int)).2)]] w (aH w λv _=>v=.tuple #[.bool u,.int .i64 0]):=by
 rw[pA ho]
 exact vi ha hb hb0 hu ht
def tR {a b:Nat}{r:Int×Int}(h:Q9 (a:Int) (b:Int))(ha12:(a:Int).natAbs<10^12)(hb12:(b:Int)<10^12)(hp:pl<=12)(hrt:dK pl a b 1 1000000 999999 1000000=true)(hne:¬qR (a:Int) (b:Int)=(([49],[50]):R))(hqn:Be ((10^pl:Nat):Int) a b 100 (-5*((10^pl:Nat):Int)) (5*((10^pl:Nat):Int))=some r)(ht:Tb w):
 CL 8 #[.agg #[S ((qR ((a:Nat):Int) ((b:Nat):Int)).1),S ((qR ((a:Nat):Int) ((b:Nat):Int)).2)],.int .i64 pl] w (aH w λv w'=>v=.tuple #[.agg #[S ((qR r.1 ((10^pl:Nat):Int)).1),S ((qR r.1 ((10^pl:Nat):Int)).2),S ((qR r.2 ((10^pl:Nat):Int)).1),S ((qR r.2 ((10^pl:Nat):Int)).2)],.int .i64 0]):=by
 have Ad:0<((10^pl:Nat):Int):=by have:=Nat.pow_pos (n:=pl) (show 0<10 by decide);omega
 have MP:((10^pl:Nat):Int)<=1000000000000:=by have:(10:Nat)^pl<=10^12:=Nat.pow_le_pow_right dc hp;omega
 have Ab:0<b:=by have:=h.2.1;omega
 have Ao:a<10^90:=J
 have A1:b<10^90:=J
 refine aC func8 Z (I ?_);refine bx (λA2 MN D=>?_);have O:=MN.2;refine al aL (λ_ B1 E=>?_);have⟨D,O⟩:=bn B1.2 D O;refine I ?_;refine cl bN aJ ?_;rintro _ _ M0 rfl;have⟨D,E,O⟩:=aP M0.2 D E O;refine cl bN aJ ?_;rintro _ Am MF rfl;have⟨D,E,O⟩:=aP MF.2 D E O;refine ab (aS (vs:=[(0,.agg #[S [49],S [49,48,48,48,48,48,48]]),(1,.agg #[S [57,57,57,57,57,57],S [49,48,48,48,48,48,48]])]) (cells:=#[S [49],S [49,48,48,48,48,48,48],S [57,57,57,57,57,57],S [49,48,48,48,48,48,48],S [],S [],S [],S [],.nilFunc]) (pl:=[(0,2),(2,2),(4,2),(6,2),(8,1)]) eG dp j2 Z j2 ?_);refine al dp (λ_ M4 MD=>?_);have⟨D,E,O⟩:=aP M4.2 D E O;refine SA MD (λ_ ML H=>?_);have⟨D,E,O,_⟩:=fq ML D E O;refine I ?_;refine ab (aX (cs:=[S [49],S [49,48,48,48,48,48,48],S [57,57,57,57,57,57],S [49,48,48,48,48,48,48],S [],S [],S [],S [],.nilFunc]) (b:=Am.heap.size) (o:=0) eG Z fh Z (aa0 H (i:=0) Z) ?_);refine I ?_;refine cl ja (cB (ej Z h ha12 hb12 HH vg HI vh Z (ht.ext O)) hrt) ?_;rintro _ _ MA rfl;have⟨D,E,H,O⟩:=br MA.2 D E H O;refine I ?_;refine clb eB (hc:=dr (pl:=(pl)) U (ht.ext O)) (hk:=?_);rintro _ _ MK rfl
 have⟨D,E,H,O⟩:=br MK.2 D E H O;refine ab (k9 (cs:=[.int .i64 (((pl):Nat):Int),S (nS (10^pl))]) (v:=S (nS (10^pl))) jD Z Z Z U9 Z Z Z ?_);refine I ?_;refine bB 2 ?_;refine sf ?_;refine ay (V:=.agg #[S [49],S [50]]) (λ_ _ _ _=>?_) ?_;refine cl bN aJ ?_;rintro _ _ ny rfl;have MH:=ny.2;refine I ?_;exact fs ⟨MH,rfl⟩;refine sf ?_;intro _ _ od _;have⟨D,E,H,O⟩:=br od.2 D E H O;refine ab (mF (a:=qR ((a:Nat):Int) ((b:Nat):Int)) (b:=([49],[50])) (q:=decide ((qR ((a:Nat):Int) ((b:Nat):Int))=([49],[50]))) Z Z Z ?_);refine I ?_;refine clb k6 (hc:=lS wM (show nS (10^pl)=aa ((10^pl:Nat):Int)from rfl) DO z1 z1 (ht.ext O)) (hk:=?_);rintro _ _ EW rfl;have⟨D,E,H,O⟩:=br EW.2 D E H O;refine I ?_;refine clb k6 (hc:=lS DK (show nS (10^pl)=aa ((10^pl:Nat):Int)from rfl) KA z1 z1 (ht.ext O)) (hk:=?_);rintro _ E7 Ax rfl;have⟨D,E,H,O⟩:=br Ax.2 D E H O;refine I ?_
 refine cM [(5,5),(8,14),(40,67)] (λM8 e W=>∃kd:Nat,∃lo:Int,∃hi:Int,(kd=M8)/\(e 8=S (aa lo))/\(e 9=S (aa hi))/\(Be ((10^pl:Nat):Int) a b kd lo hi=some r)/\(-5000000000000<=lo/\lo<=5000000000000)/\(-5000000000000<=hi/\hi<=5000000000000)/\(E7.heap.size<=W.heap.size)/\(a8 w W)/\(ae W w.heap.size 23 #[S ((qR ((a:Nat):Int) ((b:Nat):Int)).1),S ((qR ((a:Nat):Int) ((b:Nat):Int)).2)])/\(ae W A2.heap.size 30 #[S [],S [],S [],S []])/\(ae W Am.heap.size 42 #[S [49],S [49,48,48,48,48,48,48],S [57,57,57,57,57,57],S [49,48,48,48,48,48,48],S [],S [],S [],S [],.nilFunc])) (100) ⟨100,(-5*((10^pl:Nat):Int)),(5*((10^pl:Nat):Int)),rfl,rfl,rfl,hqn,U,U,(qa0 _),O,D,E,H⟩ ?_;rintro _ _ _ ⟨kd,lo,hi,rfl,E1,M5,hq,MS,MQ,MW,G,D,E,H⟩;have MV:=bz G;by_cases hl:1<hi-lo;obtain⟨g,rfl,x,hu,M1,Aq⟩:=LC hq hl;by_cases hx:x=true;subst hx;refine I ?_;refine clb iu (hc:=fZ Z Z z1 z1 z1 (ht.ext G)) (hk:=?_);rintro _ _ Ay rfl;have⟨D,E,H,G⟩:=br Ay.2 D E H G;refine clb i8 (hc:=fG Z g8 z1 nu) (hk:=?_);rintro _ _ K2 rfl;have⟨D,E,H,G⟩:=br K2.2 D E H G;have MX:=ek hl;refine I ?_
 refine clb gv (hc:=lR Z Z z1 z1 z1 (ht.ext G)) (hk:=?_);rintro _ _ ME rfl;have⟨D,E,H,G⟩:=br ME.2 D E H G;refine clb jH (hc:=jX Z jl z1 tQ dc (ht.ext G)) (hk:=?_);rintro _ _ wr rfl;have⟨D,E,H,G⟩:=br wr.2 D E H G;refine I ?_;refine clb eP (hc:=cH Z (show nS (10^pl)=aa ((10^pl:Nat):Int)from rfl) z1 z1 U (ht.ext G)) (hk:=?_);rintro _ _ As rfl;have⟨D,E,H,G⟩:=br As.2 D E H G;refine I ?_;refine al bi (λ_ M9 E9=>?_);have⟨D,E,H,G⟩:=br M9.2 D E H G;refine SA E9 (λ_ B2 _=>?_);have⟨D,E,H,G,_⟩:=fL B2 D E H G;refine I ?_;refine cl q6 (m9 Ad Ao A1 Ab hu (ht.ext G)) ?_;rintro _ _ Jx rfl;have⟨D,E,H,G⟩:=br Jx.2 D E H G;refine I ?_;exact bQ ⟨g,(lo+hi)/2,hi,rfl,rfl,M5,(M1 Z),U,U,U,G,D,E,H⟩;obtain rfl:x=false:=by revert hx;cases x;exact λ_=>rfl;exact λh=>absurd Z h
 refine I ?_;refine clb iu (hc:=fZ Z Z z1 z1 z1 (ht.ext G)) (hk:=?_);rintro _ _ Av rfl;have⟨D,E,H,G⟩:=br Av.2 D E H G;refine clb i8 (hc:=fG Z g8 z1 nu) (hk:=?_);rintro _ _ M2 rfl;have⟨D,E,H,G⟩:=br M2.2 D E H G;have MU:=ek hl;refine I ?_;refine clb gv (hc:=lR Z Z z1 z1 z1 (ht.ext G)) (hk:=?_);rintro _ _ Aw rfl;have⟨D,E,H,G⟩:=br Aw.2 D E H G;refine clb jH (hc:=jX Z jl z1 tQ dc (ht.ext G)) (hk:=?_);rintro _ _ M7 rfl;have⟨D,E,H,G⟩:=br M7.2 D E H G;refine I ?_;refine clb eP (hc:=cH Z (show nS (10^pl)=aa ((10^pl:Nat):Int)from rfl) z1 z1 U (ht.ext G)) (hk:=?_);rintro _ _ MM rfl;have⟨D,E,H,G⟩:=br MM.2 D E H G;refine I ?_;refine al bi (λ_ MI MJ=>?_);have⟨D,E,H,G⟩:=br MI.2 D E H G;refine SA MJ (λ_ D1 _=>?_);have⟨D,E,H,G,_⟩:=fL D1 D E H G;refine I ?_;refine cl q6 (m9 Ad Ao A1 Ab hu (ht.ext G)) ?_;rintro _ _ M3 rfl;have⟨D,E,H,G⟩:=br M3.2 D E H G;refine I ?_;exact bQ ⟨g,lo,(lo+hi)/2,rfl,E1,rfl,(Aq Z),U,U,U,G,D,E,H⟩;obtain rfl:=LD hq hl;refine I ?_
 refine clb iu (hc:=fZ Z Z z1 z1 z1 (ht.ext G)) (hk:=?_);rintro _ _ D2 rfl;have⟨D,E,H,G⟩:=br D2.2 D E H G;refine clb i8 (hc:=fG Z g8 z1 nu) (hk:=?_);rintro _ _ E4 rfl;have⟨D,E,H,G⟩:=br E4.2 D E H G;have MR:=lW hl;refine I ?_;refine clb eP (hc:=cH Z (show nS (10^pl)=aa ((10^pl:Nat):Int)from rfl) z1 z1 U (ht.ext G)) (hk:=?_);rintro _ _ L2 rfl;have⟨D,E,H,G⟩:=br L2.2 D E H G;refine I ?_;refine al bi (λ_ Ix Ar=>?_);have⟨D,E,H,G⟩:=br Ix.2 D E H G;refine SA Ar (λ_ MO kk=>?_);have⟨D,E,H,G,_⟩:=fL MO D E H G;refine I ?_;refine clb eP (hc:=cH Z (show nS (10^pl)=aa ((10^pl:Nat):Int)from rfl) z1 z1 U (ht.ext G)) (hk:=?_);rintro _ _ MC rfl;have⟨D,E,H,kk,G⟩:=dL MC.2 D E H kk G;refine I ?_;refine al bi (λ_ MG M6=>?_);have⟨D,E,H,kk,G⟩:=dL MG.2 D E H kk G;refine SA M6 (λ_ MB Af=>?_);have⟨D,E,H,kk,G,_⟩:=ka MB D E H kk G;refine I ?_
 refine ab (aS (vs:=[(0,.agg #[S ((qR lo ((10^pl:Nat):Int)).1),S ((qR lo ((10^pl:Nat):Int)).2)]),(1,.agg #[S ((qR hi ((10^pl:Nat):Int)).1),S ((qR hi ((10^pl:Nat):Int)).2)])]) (cells:=#[S ((qR lo ((10^pl:Nat):Int)).1),S ((qR lo ((10^pl:Nat):Int)).2),S ((qR hi ((10^pl:Nat):Int)).1),S ((qR hi ((10^pl:Nat):Int)).2)]) (pl:=[(0,2),(2,2)]) bp aL j2 Z j2 ?_);refine SA E (λ_ Ap Kp=>?_);have⟨D,H,kk,Af,G,_⟩:=ka Ap D H kk Af G;refine I ?_;refine aK (v:=.tuple #[.agg #[S ((qR lo ((10^pl:Nat):Int)).1),S ((qR lo ((10^pl:Nat):Int)).2),S ((qR hi ((10^pl:Nat):Int)).1),S ((qR hi ((10^pl:Nat):Int)).2)],.int .i64 0]) (cJ (r1:=.cell 4 30) (r2:=.tmp 5) Z ?_ ?_) G Z;refine ah (t:=4) (cs:=[S ((qR lo ((10^pl:Nat):Int)).1),S ((qR lo ((10^pl:Nat):Int)).2),S ((qR hi ((10^pl:Nat):Int)).1),S ((qR hi ((10^pl:Nat):Int)).2)]) (b:=A2.heap.size) (o:=0) bp Z bc ?_ ?_;exact Z;exact aa0 Kp (i:=0) Z;exact aE (t:=5) Ve _
def tS (h:pl<=12):ak pl<=1000000000000/\0<ak pl:=by
 have h1:(10:Nat)^pl<=10^12:=Nat.pow_le_pow_right dc h
 have D:=gK pl
 unfold ak at *
 omega
def DT :10*ak i=ak (i+1):=by unfold ak;rw[Nat.pow_succ];omega
def em (ha:In64 a)(hb:In64 b)(h0:b≠0)(ht:Tb w):
 CL 7 #[.int .i64 a,.int .i64 b] w (aH w λv w'=>v=QV a b):=by
 refine aC func7 Z (I ?_);refine al bi (λ_ H E=>?_);have D:=H.2;refine I ?_;refine cl FM (Dk ha hb h0 (ht.ext D)) ?_;rintro _ _ O rfl;have⟨E,D⟩:=bn O.2 E D;refine I ?_;refine al bi (λ_ A1 kd=>?_);have⟨E,D⟩:=bn A1.2 E D;refine SA kd (λ_ kk G=>?_);have⟨E,D,_⟩:=dE kk E D;refine I ?_;refine SA E (λ_ W A2=>?_);have⟨G,D,_⟩:=dE W G D;refine I ?_;refine aK (v:=QV a b) (cn  rfl ?_) D Z;refine ah (t:=4) (cs:=[S (qR a b).1,S (qR a b).2]) (b:=w.heap.size) (o:=0) j8 Z dv ?_ ?_;exact Z;exact aa0 A2 (i:=0) Z
def iU (c m:Int)(w:World)(hc:In64 c)(hm:0<m):
 CL 5 #[.int .i64 c,.int .i64 m] w (aH w λv w'=>v=.int .i64 (c8 c m)):=by
 unfold In64 at hc;refine aC func5 Z (I ?_);by_cases cf:c<0;refine I ?_;refine xl ?_;refine ab (sr (a:=c+1) Z JT ?_);refine I ?_;refine ab (jz (a:=-(c+1)) (b:=m) (c:=c8 c m) Z Z U U (zX cf) ?_);refine I ?_;exact an (t:=4) (v:=.int .i64 (c8 c m)) Z (aa4 _) Z Z;refine I ?_;refine ab (jz (a:=c) (b:=m) (c:=c8 c m) Z Z U U (zY cf) ?_);refine I ?_;exact an (t:=4) (v:=.int .i64 (c8 c m)) Z (aa4 _) Z Z
def Bf (hp:pl<=12):
 CL 53 #[.int .i64 pl] w (aH w λv w'=>v=.int .i64 (ak pl)):=by
 refine aC func53 Z (I ?_);have G:=aa4 w;refine cM [(3,11)] (λE e W=>∃i:Nat,(pl-i=E)/\(e 3=.int .i64 (ak i))/\(e 4=.int .i64 i)/\(i<=pl)/\(a8 w W)) (pl-0) ⟨0,rfl,rfl,rfl,(qa7 _),G⟩ ?_;rintro _ _ _ ⟨i,rfl,H,O,hi,D⟩;have kk:=bz D;by_cases hl:i<pl;refine I ?_;refine ab (jp (a:=10) (b:=ak i) (c:=ak (i+1)) Z Z (by have:=tS (pl:=i) U;unfold In64;omega) DT ?_);refine I ?_;refine ab (bb (a:=(i:Int)) (b:=1) (c:=((i+1:Nat):Int)) Z Z JT U ?_);refine I ?_;exact bQ ⟨i+1,rfl,rfl,rfl,U,D⟩;refine I ?_;exact an (t:=2) (v:=.int .i64 (ak i)) Z D (qb1 (λz=>Value.int .i64 (ak z)) U) Z
structure pB (k pl:Nat)(r:Int×Int)(f c:Int):Prop where
 b1:r.1.natAbs<10^90
 b2:r.2.natAbs<10^90
 le:r.1<=r.2
 hf:mE r.1 (ak (pl+k)) (ak pl)=f
 hc:m7 r.2 (ak (pl+k)) (ak pl)=c
 f9:f.natAbs<10^70
 c9:c.natAbs<10^70
 fc:f<=c
def pB.r {r:Int×Int}(h:pB 15 pl r f c)(h1:c<=f+1):Fe pl r f c:=⟨h.b1,h.b2,h.le,h.hf,h.hc,h.f9,h.c9,h.fc,h1⟩
def Bg (h:f+1<c)(hT:0<T):¬aw ((c*T-f*T)*T) (1*(T*T))<=0:=by
 rw[bw,<-Int.sub_mul,Int.mul_assoc]
 have h1:0<T*T:=Int.mul_pos hT hT
 have D:2*(T*T)<=(c-f)*(T*T):=Int.mul_le_mul_of_nonneg_right U (Int.le_of_lt h1)
 omega
set_option maxRecDepth 100000 in
def Bh (e:(l,m)=qR a b)(h:Q9 a b)(ha12:a.natAbs<10^12)(hb12:b<10^12)(e1:(l1,m1)=qR la lb0)(q1:Q9 la lb0)(e2:(l2,m2)=qR ha hb)(q2:Q9 ha hb){r1 r2:Int×Int}(hrt:dK pl a b la lb0 ha hb=true)(hp:pl<=12)(hne:¬((l,m):R)=(l3,m3))(hg:Enters prog g)(hbd1:∀W,a8 w W->CL g ([.agg #[.int .i64 ((pl+15:Nat):Int),S (nS (10^(pl+15)))],.agg #[S l,S m]].toArray++lb.toArray) W (aH W λv _=>v=.agg #[S (aa r1.1),S (aa r1.2)]))(hbd2:∀W,a8 w W->CL g ([.agg #[.int .i64 ((pl+40:Nat):Int),S (nS (10^(pl+40)))],.agg #[S l,S m]].toArray++lb.toArray) W (aH W λv _=>v=.agg #[S (aa r2.1),S (aa r2.2)]))(hC1:pB 15 pl r1 f1 c1)(hno:f1+1<c1)(hC2:pB 40 pl r2 f2 c2)(hone:c2<=f2+1)(ht:Tb w):
 CL 44 #[.agg #[S l1,S m1,S l2,S m2,S l3,S m3,S l4,S m4,.func (.func g) #[] lb.toArray],.agg #[S l,S m],.int .i64 pl] w (aH w λv w'=>v=.tuple #[IV f2 (ak pl) c2 (ak pl),.int .i64 0]):=by
 have Av:=fF (k:=pl+15) hC1.b1 U;have Ax:=fF (k:=pl+15) hC1.b2 U;have MF:=fF (k:=pl) (a:=f1) (qb0 hC1.f9 dc) U;have NM:=fF (k:=pl) (a:=c1) (qb0 hC1.c9 dc) U;have MY:Q9 (c1*ak pl-f1*ak pl) (ak pl*ak pl):=Lz hC1.f9 hC1.c9 hp;have As:=fF (k:=pl+40) hC2.b1 U;have Aw:=fF (k:=pl+40) hC2.b2 U;have MD:=fF (k:=pl) (a:=f2) (qb0 hC2.f9 dc) U;have NI:=fF (k:=pl) (a:=c2) (qb0 hC2.c9 dc) U;have MW:Q9 (c2*ak pl-f2*ak pl) (ak pl*ak pl):=Lz hC2.f9 hC2.c9 hp;have MM:=fF (k:=pl) (a:=1) dc U;refine aC func44 Z (I ?_);refine bx (λN6 N4 E=>?_);have Ap:=N4.2;refine bx (λMG MQ G=>?_);have⟨E,Ap⟩:=bn MQ.2 E Ap;refine al aL (λ_ NG H=>?_);have⟨E,G,Ap⟩:=aP NG.2 E G Ap;refine I ?_;refine ab (aX (cs:=[S l1,S m1,S l2,S m2,S l3,S m3,S l4,S m4,.func (.func g) #[] lb.toArray]) (b:=w.heap.size) (o:=0) eG Z fh Z (aa0 E (i:=0) Z) ?_);refine I ?_;refine cl ja (cB (ej e h ha12 hb12 e1 q1 e2 q2 Z (ht.ext Ap)) hrt) ?_;rintro _ MI NJ rfl;have⟨E,G,H,Ap⟩:=br NJ.2 E G H Ap;refine I ?_;refine ab (mF (a:=(l,m)) (b:=(l3,m3)) (q:=decide ((l,m)=(l3,m3))) Z Z Z ?_);refine I ?_;refine GJ (λMZ M9 _ O=>?_)
 have⟨E,G,H,Ap⟩:=br M9 E G H Ap;have NV:=bz M9;refine I ?_;refine cM [(7,7),(11,22),(44,111)] (λNF e W=>∃i:Nat,(2-i=NF)/\(e 44=.int .i64 i)/\(i<=1)/\(MZ.heap.size<=W.heap.size)/\(a8 w W)/\(ae W w.heap.size 42 #[S l1,S m1,S l2,S m2,S l3,S m3,S l4,S m4,.func (.func g) #[] lb.toArray])/\(ae W N6.heap.size 23 #[S l,S m])/\(ae W MG.heap.size 30 #[S [],S [],S [],S []])/\(World.ownsRow W MI.heap.size 3 1 (.slice (some ⟨MI.heap.size,0,none⟩) 2 2) 2 [.int .i64 15,.int .i64 40])) (2-0) ⟨0,rfl,rfl,dc,(qa0 _),Ap,E,G,H,O⟩ ?_;rintro _ _ _ ⟨i,rfl,M1,hi,NW,D,E,G,H,O⟩;have NY:=bz D;by_cases hz0:i=0;obtain rfl:i=0:=J
 refine I ?_;obtain⟨bk,oo,hA,M2⟩:=(aa3 O).cells 0 _ Z;refine ab (am (i:=0) (oo:=oo+0) gq eN Z hA M1 dc Z ?_);refine ab (aT (v:=.int .i64 15) U3 Z Z M2 ?_);refine I ?_;refine ab (bb (a:=(pl:Int)) (b:=15) (c:=((pl+15:Nat):Int)) Z Z JT U ?_);refine clb eB (hc:=dr U (ht.ext D)) (hk:=?_);rintro _ _ E4 rfl;have⟨E,G,H⟩:=sk E4.2 E G H;have O:=aD E4.2 O;have D:=xt D E4.2;refine al hP (λ_ K2 N9=>?_);have⟨E,G,H⟩:=sk K2.2 E G H;have O:=aD K2.2 O;have D:=xt D K2.2;refine SA N9 (λ_ Ay kd=>?_);have⟨E,G,H⟩:=H5 Ay E G H;have O:=dT Ay Vi O;have D:=eK Ay D;have NX:=dX Ay;refine I ?_;refine ab (vS (f:=g) (lb:=lb) (vs:=[.agg #[.int .i64 (((pl+15):Nat):Int),S (nS (10^(pl+15)))],.agg #[S l,S m]]) hg Z Z (C5 (hbd1 _ D)) ?_);rintro _ _ B1 rfl;have⟨E,G,H⟩:=sk B1.2 E G H;have O:=aD B1.2 O;have⟨kd,D⟩:=bn B1.2 kd D;refine al aI (λ_ M4 MP=>?_);have⟨E,G,H⟩:=sk M4.2 E G H;have O:=aD M4.2 O;have⟨kd,D⟩:=bn M4.2 kd D;refine SA MP (λ_ M3 Ab=>?_);have⟨E,G,H⟩:=H5 M3 E G H;have O:=dT M3 Vi O;have⟨kd,D,_⟩:=dE M3 kd D;refine I ?_
 refine cl eP (cH Z Z Av.fz.1 Av.fz.2 (Int.ne_of_gt Av.2.1) (ht.ext D)) ?_;rintro _ _ Ix rfl;have⟨E,G,H⟩:=sk Ix.2 E G H;have O:=aD Ix.2 O;have⟨kd,Ab,D⟩:=aP Ix.2 kd Ab D;refine I ?_;refine al bi (λ_ EW NL=>?_);have⟨E,G,H⟩:=sk EW.2 E G H;have O:=aD EW.2 O;have⟨kd,Ab,D⟩:=aP EW.2 kd Ab D;refine SA NL (λ_ B2 Ad=>?_);have⟨E,G,H⟩:=H5 B2 E G H;have O:=dT B2 Vi O;have⟨kd,Ab,D,_⟩:=fq B2 kd Ab D;refine I ?_;refine cl eP (cH Z Z Ax.fz.1 Ax.fz.2 (Int.ne_of_gt Ax.2.1) (ht.ext D)) ?_;rintro _ _ D2 rfl;have⟨E,G,H⟩:=sk D2.2 E G H;have O:=aD D2.2 O;have⟨kd,Ab,Ad,D⟩:=br D2.2 kd Ab Ad D;refine I ?_;refine al bi (λ_ E7 NE=>?_);have⟨E,G,H⟩:=sk E7.2 E G H;have O:=aD E7.2 O;have⟨kd,Ab,Ad,D⟩:=br E7.2 kd Ab Ad D;refine SA NE (λ_ M0 Ao=>?_);have⟨E,G,H⟩:=H5 M0 E G H;have O:=dT M0 Vi O;have⟨kd,Ab,Ad,D,_⟩:=fL M0 kd Ab Ad D;refine I ?_;refine ab (aS (vs:=[(0,QV r1.1 (ak (pl+15))),(1,QV r1.2 (ak (pl+15)))]) (cells:=#[S ((qR r1.1 (ak (pl+15))).1),S ((qR r1.1 (ak (pl+15))).2),S ((qR r1.2 (ak (pl+15))).1),S ((qR r1.2 (ak (pl+15))).2)]) (pl:=[(0,2),(2,2)]) bp aL q0 Z q0 ?_);refine I ?_
 refine clb q7 (hc:=gT (Y:=.tuple #[IV f1 (ak pl) c1 (ak pl),.int .i64 0]) (lV (x:=(qR r1.1 (ak (pl+15)),qR r1.2 (ak (pl+15)))) Z Z Av Ax (Int.mul_le_mul_of_nonneg_right hC1.le (Int.le_of_lt Av.2.1)) U (ht.ext D)) (by rw[hC1.hf,hC1.hc])) (hk:=?_);rintro _ ND D1 rfl;have⟨E,G,H⟩:=sk D1.2 E G H;have O:=aD D1.2 O;have⟨kd,Ab,Ad,Ao,D⟩:=dL D1.2 kd Ab Ad Ao D;refine I ?_;refine al aL (λ_ E9 MS=>?_);have⟨E,G,H⟩:=sk E9.2 E G H;have O:=aD E9.2 O;have⟨kd,Ab,Ad,Ao,D⟩:=dL E9.2 kd Ab Ad Ao D;refine SA MS (λ_ Kp Aq=>?_);have⟨E,G,H⟩:=H5 Kp E G H;have O:=dT Kp Vi O;have⟨kd,Ab,Ad,Ao,D,_⟩:=ka Kp kd Ab Ad Ao D;refine I ?_;refine ab (aX (cs:=[S ((qR f1 (ak pl)).1),S ((qR f1 (ak pl)).2),S ((qR c1 (ak pl)).1),S ((qR c1 (ak pl)).2)]) (b:=ND.heap.size) (o:=0) bp Z bc Z (aa0 Aq (i:=0) Z) ?_);refine cl un (py (x:=(qR f1 (ak pl),qR c1 (ak pl))) Z Z MF NM (Int.mul_le_mul_of_nonneg_right hC1.fc (Int.le_of_lt MF.2.1)) (ht.ext D)) ?_;rintro _ _ E1 rfl;have⟨E,G,H⟩:=sk E1.2 E G H;have O:=aD E1.2 O;have⟨kd,Ab,Ad,Ao,Aq,D⟩:=lk E1.2 kd Ab Ad Ao Aq D;refine I ?_;refine al bi (λ_ L2 My=>?_);have⟨E,G,H⟩:=sk L2.2 E G H;have O:=aD L2.2 O;have⟨kd,Ab,Ad,Ao,Aq,D⟩:=lk L2.2 kd Ab Ad Ao Aq D;refine SA My (λ_ M5 _=>?_)
 have⟨E,G,H⟩:=H5 M5 E G H;have O:=dT M5 Vi O;have⟨kd,Ab,Ad,Ao,Aq,D,_⟩:=xV M5 kd Ab Ad Ao Aq D;refine I ?_;refine bB 5 ?_;refine sf ?_;refine ay (V:=.agg #[.int .i64 (((pl):Nat):Int),S (nS (10^pl))]) (λ_ _ NH _=>?_) ?_;refine clb eB (hc:=dr U (ht.ext (xt D NH))) (hk:=?_);rintro _ _ NR rfl;have MV:=NR.2;refine I ?_;exact fs ⟨MV,rfl⟩;refine bj (λ_ _ _ _=>by refine ab (k9 (cs:=[.int .i64 (((pl):Nat):Int),S (nS (10^pl))]) (v:=S (nS (10^pl))) jD Z Z Z U9 Z Z Z ?_);refine I ?_;exact bY) ?_;refine ay (V:=.agg #[S [49],S (nS (10^pl))]) (λ_ _ _ _=>?_) ?_;refine cl bN aJ ?_;rintro _ _ ny rfl;have NA:=ny.2;refine I ?_;exact fs ⟨NA,rfl⟩;refine sf ?_;intro _ _ od _;have⟨E,G,H⟩:=sk od.2 E G H;have O:=aD od.2 O;have D:=xt D od.2;refine cl ky (iS Z ve MY MM (ht.ext D)) ?_;rintro _ _ Jx rfl;have⟨E,G,H⟩:=sk Jx.2 E G H;have O:=aD Jx.2 O;have D:=xt D Jx.2;refine I ?_;refine lh (qb1 Value.bool (qa2 (Bg hno (gK pl)))) (I ?_);refine ab (bb (a:=((0:Nat):Int)) (b:=1) (c:=((0+1:Nat):Int)) M1 Z JT dc ?_);refine I ?_;exact bQ (hk:=by decide) ⟨0+1,rfl,rfl,dc,U,D,E,G,H,O⟩;obtain rfl:i=1:=J
 refine I ?_;obtain⟨bk,oo,hA,M2⟩:=(aa3 O).cells 1 _ Z;refine ab (am (i:=1) (oo:=oo+1) gq eN Z hA M1 dc Z ?_);refine ab (aT (v:=.int .i64 40) U3 Z Z M2 ?_);refine I ?_;refine ab (bb (a:=(pl:Int)) (b:=40) (c:=((pl+40:Nat):Int)) Z Z JT U ?_);refine clb eB (hc:=dr U (ht.ext D)) (hk:=?_);rintro _ _ NK rfl;have⟨E,G,H,D⟩:=br NK.2 E G H D;refine al hP (λ_ N7 NN=>?_);have⟨E,G,H,D⟩:=br N7.2 E G H D;refine SA NN (λ_ MO kk=>?_);have⟨E,G,H,D,_⟩:=fL MO E G H D;refine I ?_;refine ab (vS (f:=g) (lb:=lb) (vs:=[.agg #[.int .i64 (((pl+40):Nat):Int),S (nS (10^(pl+40)))],.agg #[S l,S m]]) hg Z Z (C5 (hbd2 _ D)) ?_);rintro _ _ NQ rfl;have⟨E,G,H,kk,D⟩:=dL NQ.2 E G H kk D;refine al aI (λ_ N3 NU=>?_);have⟨E,G,H,kk,D⟩:=dL N3.2 E G H kk D;refine SA NU (λ_ NT A1=>?_);have⟨E,G,H,kk,D,_⟩:=ka NT E G H kk D;refine I ?_;refine cl eP (cH Z Z As.fz.1 As.fz.2 (Int.ne_of_gt As.2.1) (ht.ext D)) ?_;rintro _ _ MR rfl;have⟨E,G,H,kk,A1,D⟩:=lk MR.2 E G H kk A1 D;refine I ?_;refine al bi (λ_ NB N0=>?_);have⟨E,G,H,kk,A1,D⟩:=lk NB.2 E G H kk A1 D;refine SA N0 (λ_ N8 A2=>?_);have⟨E,G,H,kk,A1,D,_⟩:=xV N8 E G H kk A1 D;refine I ?_
 refine cl eP (cH Z Z Aw.fz.1 Aw.fz.2 (Int.ne_of_gt Aw.2.1) (ht.ext D)) ?_;rintro _ _ MN rfl;have⟨E,G,H,kk,A1⟩:=dC MN.2 E G H kk A1;have⟨A2,D⟩:=bn MN.2 A2 D;refine I ?_;refine al bi (λ_ ML Mz=>?_);have⟨E,G,H,kk,A1⟩:=dC ML.2 E G H kk A1;have⟨A2,D⟩:=bn ML.2 A2 D;refine SA Mz (λ_ MJ Af=>?_);have⟨E,G,H,kk,A1⟩:=jx MJ E G H kk A1;have⟨A2,D,_⟩:=dE MJ A2 D;refine I ?_;refine ab (aS (vs:=[(0,QV r2.1 (ak (pl+40))),(1,QV r2.2 (ak (pl+40)))]) (cells:=#[S ((qR r2.1 (ak (pl+40))).1),S ((qR r2.1 (ak (pl+40))).2),S ((qR r2.2 (ak (pl+40))).1),S ((qR r2.2 (ak (pl+40))).2)]) (pl:=[(0,2),(2,2)]) bp aL q0 Z q0 ?_);refine I ?_;refine clb q7 (hc:=gT (Y:=.tuple #[IV f2 (ak pl) c2 (ak pl),.int .i64 0]) (lV (x:=(qR r2.1 (ak (pl+40)),qR r2.2 (ak (pl+40)))) Z Z As Aw (Int.mul_le_mul_of_nonneg_right hC2.le (Int.le_of_lt As.2.1)) U (ht.ext D)) (by rw[hC2.hf,hC2.hc])) (hk:=?_);rintro _ M6 MK rfl;have⟨E,G,H,kk,A1⟩:=dC MK.2 E G H kk A1;have⟨A2,Af,D⟩:=aP MK.2 A2 Af D;refine I ?_;refine al aL (λ_ MA N5=>?_);have⟨E,G,H,kk,A1⟩:=dC MA.2 E G H kk A1;have⟨A2,Af,D⟩:=aP MA.2 A2 Af D;refine SA N5 (λ_ ME Am=>?_);have⟨E,G,H,kk,A1⟩:=jx ME E G H kk A1;have⟨A2,Af,D,_⟩:=fq ME A2 Af D;refine I ?_
 refine ab (aX (cs:=[S ((qR f2 (ak pl)).1),S ((qR f2 (ak pl)).2),S ((qR c2 (ak pl)).1),S ((qR c2 (ak pl)).2)]) (b:=M6.heap.size) (o:=0) bp Z bc Z (aa0 Am (i:=0) Z) ?_);refine cl un (py (x:=(qR f2 (ak pl),qR c2 (ak pl))) Z Z MD NI (Int.mul_le_mul_of_nonneg_right hC2.fc (Int.le_of_lt MD.2.1)) (ht.ext D)) ?_;rintro _ _ MC rfl;have⟨E,G,H,kk,A1⟩:=dC MC.2 E G H kk A1;have⟨A2,Af,Am,D⟩:=br MC.2 A2 Af Am D;refine I ?_;refine al bi (λ_ MB NP=>?_);have⟨E,G,H,kk,A1⟩:=dC MB.2 E G H kk A1;have⟨A2,Af,Am,D⟩:=br MB.2 A2 Af Am D;refine SA NP (λ_ M8 Ar=>?_);have⟨E,G,H,kk,A1⟩:=jx M8 E G H kk A1;have⟨A2,Af,Am,D,_⟩:=fL M8 A2 Af Am D;refine I ?_;refine bB 5 ?_;refine sf ?_;refine ay (V:=.agg #[.int .i64 (((pl):Nat):Int),S (nS (10^pl))]) (λ_ _ MU _=>?_) ?_;refine clb eB (hc:=dr U (ht.ext (xt D MU))) (hk:=?_);rintro _ _ N1 rfl;have NS:=N1.2;refine I ?_;exact fs ⟨NS,rfl⟩;refine bj (λ_ _ _ _=>by refine ab (k9 (cs:=[.int .i64 (((pl):Nat):Int),S (nS (10^pl))]) (v:=S (nS (10^pl))) jD Z Z Z U9 Z Z Z ?_);refine I ?_;exact bY) ?_;refine ay (V:=.agg #[S [49],S (nS (10^pl))]) (λ_ _ _ _=>?_) ?_;refine cl bN aJ ?_;rintro _ _ NO rfl;have MX:=NO.2;refine I ?_;exact fs ⟨MX,rfl⟩;refine sf ?_;intro _ _ wr _
 have⟨E,G,H,kk,A1⟩:=dC wr.2 E G H kk A1;have⟨A2,Af,Am,Ar,D⟩:=dL wr.2 A2 Af Am Ar D;refine cl ky (iS Z ve MW MM (ht.ext D)) ?_;rintro _ _ M7 rfl;have⟨E,G,H,kk,A1⟩:=dC M7.2 E G H kk A1;have⟨A2,Af,Am,Ar,D⟩:=dL M7.2 A2 Af Am Ar D;refine I ?_;refine qW (qb1 Value.bool (qa1 (width_le hone (gK pl)))) (I ?_);refine ab (aX (cs:=[S ((qR f2 (ak pl)).1),S ((qR f2 (ak pl)).2),S ((qR c2 (ak pl)).1),S ((qR c2 (ak pl)).2)]) (b:=M6.heap.size) (o:=0) bp Z bc Z (aa0 Am (i:=0) Z) ?_);refine SA H (λ_ MH NC=>?_);have⟨E,G,kk,A1,A2⟩:=jx MH E G kk A1 A2;have⟨Af,Am,Ar,D,_⟩:=fL MH Af Am Ar D;refine I ?_;refine aK (v:=.tuple #[IV f2 (ak pl) c2 (ak pl),.int .i64 0]) (cJ (r1:=.cell 6 30) (r2:=.tmp 7) Z ?_ ?_) D Z;refine ah (t:=6) (cs:=[S ((qR f2 (ak pl)).1),S ((qR f2 (ak pl)).2),S ((qR c2 (ak pl)).1),S ((qR c2 (ak pl)).2)]) (b:=MG.heap.size) (o:=0) bp Z bc ?_ ?_;exact Z;exact aa0 NC (i:=0) Z;exact aE (t:=7) Ve _
set_option maxRecDepth 100000 in
def pS {a b:Nat}(h:Q9 (a:Int) (b:Int))(ha12:(a:Int).natAbs<10^12)(hb12:(b:Int)<10^12)(hp:pl<=12)(hrt:dK pl a b 1 1000000 999999 1000000=true)(heq:qR (a:Int) (b:Int)=(([49],[50]):R))(ht:Tb w):
 CL 8 #[QV ((a:Nat):Int) ((b:Nat):Int),.int .i64 pl] w (aH w λv w'=>v=.tuple #[.agg #[S [48],S [49],S [48],S [49]],.int .i64 0]):=by
 have Aw:0<b:=by have:=h.2.1;omega
 have Ay:a<10^90:=J
 have Ax:b<10^90:=J
 refine aC func8 Z (I ?_);refine bx (λAp ny E=>?_);have D:=ny.2;refine al aL (λ_ Aq G=>?_);have⟨E,D⟩:=bn Aq.2 E D;refine I ?_;refine cl bN aJ ?_;rintro _ _ Av rfl;have⟨E,G,D⟩:=aP Av.2 E G D;refine cl bN aJ ?_;rintro _ Af W rfl;have⟨E,G,D⟩:=aP W.2 E G D;refine ab (aS (vs:=[(0,.agg #[S [49],S [49,48,48,48,48,48,48]]),(1,.agg #[S [57,57,57,57,57,57],S [49,48,48,48,48,48,48]])]) (cells:=#[S [49],S [49,48,48,48,48,48,48],S [57,57,57,57,57,57],S [49,48,48,48,48,48,48],S [],S [],S [],S [],.nilFunc]) (pl:=[(0,2),(2,2),(4,2),(6,2),(8,1)]) eG dp q0 Z q0 ?_);refine al dp (λ_ As od=>?_);have⟨E,G,D⟩:=aP As.2 E G D;refine SA od (λ_ kd H=>?_);have⟨E,G,D,_⟩:=fq kd E G D;refine I ?_;refine ab (aX (cs:=[S [49],S [49,48,48,48,48,48,48],S [57,57,57,57,57,57],S [49,48,48,48,48,48,48],S [],S [],S [],S [],.nilFunc]) (b:=Af.heap.size) (o:=0) eG Z fh Z (aa0 H (i:=0) Z) ?_);refine I ?_;refine cl ja (cB (ej Z h ha12 hb12 HH vg HI vh Z (ht.ext D)) hrt) ?_;rintro _ _ Ao rfl;have⟨E,G,H,D⟩:=br Ao.2 E G H D;refine I ?_;refine clb eB (hc:=dr (pl:=(pl)) U (ht.ext D)) (hk:=?_);rintro _ _ kk rfl
 have⟨E,G,H,D⟩:=br kk.2 E G H D;refine ab (k9 (cs:=[.int .i64 (((pl):Nat):Int),S (nS (10^pl))]) (v:=S (nS (10^pl))) jD Z Z Z U9 Z Z Z ?_);refine I ?_;refine bB 2 ?_;refine sf ?_;refine ay (V:=.agg #[S [49],S [50]]) (λ_ _ _ _=>?_) ?_;refine cl bN aJ ?_;rintro _ _ Ab rfl;have A1:=Ab.2;refine I ?_;exact fs ⟨A1,rfl⟩;refine sf ?_;intro _ _ O _;have⟨E,G,H,D⟩:=br O.2 E G H D;refine ab (mF (a:=qR ((a:Nat):Int) ((b:Nat):Int)) (b:=([49],[50])) (q:=decide ((qR ((a:Nat):Int) ((b:Nat):Int))=([49],[50]))) Z Z Z ?_);refine I ?_;refine cl bN aJ ?_;rintro _ _ A2 rfl;have⟨E,G,H,D⟩:=br A2.2 E G H D;refine cl yt (tN H8 Hs (ht.ext D)) ?_;rintro _ _ Ar rfl;have⟨E,G,H,D⟩:=br Ar.2 E G H D;refine SA G (λ_ Ad Am=>?_);have⟨E,H,D,_⟩:=fq Ad E H D;refine I ?_;refine aK (v:=.tuple #[.agg #[S [48],S [49],S [48],S [49]],.int .i64 0]) (cJ (r1:=.cell 4 30) (r2:=.tmp 5) Z ?_ ?_) D Z;refine ah (t:=4) (cs:=[S [48],S [49],S [48],S [49]]) (b:=Ap.heap.size) (o:=0) bp Z bc ?_ ?_;exact Z;exact aa0 Am (i:=0) Z;exact aE (t:=5) Ve _
end
section
open Go Go.Eng Go.RowKit Proofs.Tryz
def iV (pl:Nat)(f c:Int):Value:=.tuple #[.agg #[S (qR f (ak pl)).1,S (qR f (ak pl)).2,S (qR c (ak pl)).1,S (qR c (ak pl)).2],.int .i64 0]
def jt (pl:Nat)(bd:Nat->Option (Int×Int))(f c:Int):Prop:=
 c<=f+1/\((∃r,bd 15=some r/\pB 15 pl r f c)\/(∃r r2 f1 c1,bd 15=some r/\pB 15 pl r f1 c1/\f1+1<c1/\bd 40=some r2/\pB 40 pl r2 f c))
def jt.uniq {bd:Nat->Option (Int×Int)}(h:jt pl bd f c)(h':jt pl bd f' c'):f=f'/\c=c':=by
 obtain⟨h1,⟨r,e,w⟩|⟨r,r2,f1,c1,e,w,n,H,E⟩⟩:=h <;>obtain⟨A1,⟨O,e',w'⟩|⟨O,kk,kd,W,e',w',A2,G,D⟩⟩:=h'
 · rw[e]at e';cases e';exact⟨w.hf.symm.trans w'.hf,w.hc.symm.trans w'.hc⟩
 · rw[e]at e';cases e';have:=w.hf.symm.trans w'.hf;have:=w.hc.symm.trans w'.hc;omega
 · rw[e]at e';cases e';have:=w.hf.symm.trans w'.hf;have:=w.hc.symm.trans w'.hc;omega
 · rw[H]at G;cases G;exact⟨E.hf.symm.trans D.hf,E.hc.symm.trans D.hc⟩
def ks {bd:Nat->Option (Int×Int)}(hF:jt pl bd f c)(e:(l,m)=qR a b)(h:Q9 a b)(ha12:a.natAbs<10^12)(hb12:b<10^12)(e1:(l1,m1)=qR la lb0)(q1:Q9 la lb0)(e2:(l2,m2)=qR ha hb)(q2:Q9 ha hb)(hrt:dK pl a b la lb0 ha hb=true)(hp:pl<=12)(hne:¬((l,m):R)=(l3,m3))(hg:Enters prog g)(hbd:∀k r,k<=40->bd k=some r->∀W,a8 w W->CL g ([.agg #[.int .i64 ((pl+k:Nat):Int),S (nS (10^(pl+k)))],.agg #[S l,S m]].toArray++lb.toArray) W (aH W λv _=>v=.agg #[S (aa r.1),S (aa r.2)]))(ht:Tb w):
 CL 44 #[.agg #[S l1,S m1,S l2,S m2,S l3,S m3,S l4,S m4,.func (.func g) #[] lb.toArray],.agg #[S l,S m],.int .i64 ((pl:Nat):Int)] w (aH w λv _=>v=iV pl f c):=by
 obtain⟨h1,⟨r,D,w⟩|⟨r,r2,f1,c1,D,w,n,G,E⟩⟩:=hF
 · exact Dy e h ha12 hb12 e1 q1 e2 q2 hrt hp hne hg (hbd 15 r dc D) (w.r h1) ht
 · exact Bh e h ha12 hb12 e1 q1 e2 q2 hrt hp hne hg (hbd 15 r dc D) (hbd 40 r2 dc G) w n E h1 ht
def Bi {va vb:Int}(hf:mE va vb (ak pl)=f)(hc:m7 va vb (ak pl)=c)(e:(l,m)=qR a b)(h:Q9 a b)(ha12:a.natAbs<10^12)(hb12:b<10^12)(e1:(l1,m1)=qR la lb0)(q1:Q9 la lb0)(e2:(l2,m2)=qR ha hb)(q2:Q9 ha hb)(e4:(l4,m4)=qR va vb)(q4:Q9 va vb)(hrt:dK pl a b la lb0 ha hb=true)(hp:pl<=12)(heq:((l,m):R)=(l3,m3))(ht:Tb w):
 CL 44 #[.agg #[S l1,S m1,S l2,S m2,S l3,S m3,S l4,S m4,.func (.func g) #[] lb.toArray],.agg #[S l,S m],.int .i64 ((pl:Nat):Int)] w (aH w λv _=>v=iV pl f c):=by
 subst hf hc
 exact Dz e h ha12 hb12 e1 q1 e2 q2 e4 q4 hrt hp heq ht
def fW {lb:Int}(hp:pl<=12)(h1:la*b<=a*lb)(h2:a*hb<=ha*b):dK pl a b la lb ha hb=true:=by
 unfold dK
 rw[decide_eq_true U,decide_eq_true (jm.2 h1),decide_eq_true (bw.2 h2)];rfl
def rY (h:n<=90):Sc (10^n):=⟨Nat.pow_pos dc,Nat.pow_lt_pow_right dc U⟩
def wN {d:Int}(hb:0<b)(hd:0<d){r:R}(e:r=qR c d)(h:a*d≠c*b):¬(((qR a b).1,(qR a b).2):R)=r:=λx=>h (Hn hb hd (x.trans e))
def J0:(([45,50,48],[49]):R)=qR (-20) 1:=by decide +kernel
def J1:(([50,48],[49]):R)=qR 20 1:=by decide +kernel
def Bj:Q9 (-20) 1:=⟨by decide,by decide,by decide⟩
def Bl:Q9 20 1:=⟨by decide,by decide,by decide⟩
def na (ha:a.natAbs<10^12)(h0:0<b)(hb:b<10^12):Q9 a b:=⟨Nat.lt_trans ha dc,h0,by omega⟩
section
def Bm (pl:Nat)(a b:Int)(k:Nat):Option (Int×Int):=(JX (10^(pl+k)) (cE a b) (bI a b).toNat).map zP
def J2 (ha12:a.natAbs<10^12)(hb:0<b)(hb12:b<10^12)(h0:a≠0)(hlo:-20*b<=a)(hhi:a<=20*b)(hp:pl<=12)(hF:jt pl (Bm pl a b) f c)(ht:Tb w):
 CL 10 #[.agg #[S (qR a b).1,S (qR a b).2],.int .i64 ((pl:Nat):Int)] w (aH w λv _=>v=iV pl f c):=by
 have q:=na ha12 hb hb12
 refine A8 (λW e=>ks (lb:=[]) hF Z q ha12 hb12 J0 Bj J1 Bl (fW hp U U) hp (wN hb dc H8 U) FN ?_ (ht.ext e)) ht
 intro k r hk hr W' e'
 unfold Bm at hr
 cases hx:JX (10^(pl+k)) (cE a b) (bI a b).toNat with
 |none=>rw[hx]at hr;cases hr
 | some u=>
   rw[hx]at hr;cases hr
   rw[pA hb]
   exact DG (rY U) hx ((ht.ext e).ext e')
def HJ (hb:0<b)(h0:a=0):(((qR a b).1,(qR a b).2):R)=([48],[49]):=by
 have h:qR a b=qR 0 1:=gm hb dc U
 rw[H8,<-h]
end
section
def Fh:(([49],nS (10^13)):R)=qR 1 10000000000000:=by decide +kernel
def Fj:Q9 1 10000000000000:=⟨by decide,by decide,by decide⟩
def Fl (pl n d:Nat)(k:Nat):Option (Int×Int):=Kz (10^(pl+k)) n d
def J3 (hn:0<n)(hn12:n<10^12)(hd:0<d)(hd12:d<10^12)(h1:n≠d)(hp:pl<=12)(hF:jt pl (Fl pl n d) f c)(ht:Tb w):
 CL 11 #[.agg #[S (qR (n:Int) (d:Int)).1,S (qR (n:Int) (d:Int)).2],.int .i64 ((pl:Nat):Int)] w (aH w λv _=>v=iV pl f c):=by
 have D:(n:Int).natAbs<10^12:=J
 have E:(d:Int)<10^12:=J
 have hb:0<(d:Int):=J
 have q:=na D hb E
 refine A9 (λW b1 e hB=>ks (lb:=[pT b1]) hF Z q D E Fh Fj Ba tP (fW hp U U) hp (wN hb dc JJ U) FO ?_ (ht.ext e)) ht
 intro k r hk hr W' e'
 exact DI (rY U) hr (hB.ext e') ((ht.ext e).ext e')
end
section
def Fo (pl:Nat)(a b:Int)(k:Nat):Option (Int×Int):=BR (10^(pl+k)) (pl+k) (cE a b) (bI a b).toNat
def qK (hb:0<b)(h9:a.natAbs<=1000000*b.natAbs)(hp:pl<=12):dK pl a b (-10000000000000) 1 10000000000000 1=true:=fW hp U U
def Bn (ha12:a.natAbs<10^12)(hb:0<b)(hb12:b<10^12)(h0:a≠0)(hlo:-8*b<a)(hhi:a<8*b)(hp:pl<=12)(hF:jt pl (Fo pl a b) f c)(ht:Tb w):
 CL 12 #[.agg #[S (qR a b).1,S (qR a b).2],.int .i64 ((pl:Nat):Int)] w (aH w λv _=>v=iV pl f c):=by
 have q:=na ha12 hb hb12
 have D:=qK (a:=a) (pl:=pl) hb U hp
 refine qJ Z q ha12 hb12 D (ek U) (pz U) (λW e=>ks (lb:=[]) hF Z q ha12 hb12 HF Bb Ba tP D hp (wN hb dc H8 U) q8 ?_ (ht.ext e)) ht
 intro k r hk hr W' e'
 rw[pA hb]
 exact kq (rY U) U hr ((ht.ext e).ext e')
def Bo (hb:0<b)(hb12:b<10^12)(h0:a=0)(hp:pl<=12)(ht:Tb w):
 CL 12 #[.agg #[S (qR a b).1,S (qR a b).2],.int .i64 ((pl:Nat):Int)] w (aH w λv _=>v=iV pl (mE 1 2 (ak pl)) (m7 1 2 (ak pl))):=by
 have D:a.natAbs<10^12:=by subst h0;decide
 have q:=na D hb hb12
 have H:=HJ hb h0
 have E:=qK (a:=a) (pl:=pl) hb U hp
 have G:Q9 1 2:=⟨by decide,by decide,by decide⟩
 refine qJ Z q D hb12 E (ek U) (pz U) (λW e=>?_) ht
 exact Bi (lb:=[]) Z Z Z q D hb12 HF Bb Ba tP Mm G E hp H (ht.ext e)
end
end
section
set_option maxRecDepth 100000
open Go Go.Eng Go.RowKit Proofs.Tryz
attribute [local irreducible] wpListIn Code.wpIn Oper.wpIn Exit.then Exit.inBlock Exit.noGoto
set_option maxHeartbeats 40000000
def Fp (pl fr n d:Nat)(k:Nat):Option (Int×Int):=JW (10^(pl+k)) (pl+k) n d fr
def LE:(([49,48,48],[49]):R)=qR 100 1:=by decide +kernel
def HK:Q9 100 1:=⟨by decide,by decide,by decide⟩
def J4 {fr:Nat}(h1:0<fr)(h20:fr<=20)(hn:0<n)(hn12:n<10^12)(hd:0<d)(hd12:d<10^12)(h100:n<=100*d)(hp:pl<=12)(hF:jt pl (Fp pl fr n d) f c)(ht:Tb w):
 CL 13 #[QV (n:Int) (d:Int),.int .i64 fr,.int .i64 pl] w (aH w λv _=>v=iV pl f c):=by
 have D:(n:Int).natAbs<10^12:=J
 have E:(d:Int)<10^12:=J
 have hb:0<(d:Int):=J
 have q:=na D hb E
 refine HG h1 h20 (λW b1 e hB=>ks (lb:=[pT b1]) hF Z q D E H8 Hs LE HK (fW hp U U) hp (wN hb dc H8 U) FQ ?_ (ht.ext e)) ht
 intro k r hk hr W' e'
 exact DJ (rY U) U h1 h20 hr (hB.ext e') ((ht.ext e).ext e')
set_option maxRecDepth 10000 in
def Mq:jt 3 (Bm 3 1 1) 2718 2719:=⟨by decide,Or.inl ⟨(2718281828459045209,2718281828459045273),by decide +kernel,by decide +kernel,by decide +kernel,by decide +kernel,by decide +kernel,by decide +kernel,by decide +kernel,by decide +kernel,by decide +kernel⟩⟩
def Mr:jt 6 (Fl 6 1 2) (-693148) (-693147):=⟨by decide,Or.inl ⟨(-693147180559945309470,-693147180559945309376),by decide +kernel,by decide +kernel,by decide +kernel,by decide +kernel,by decide +kernel,by decide +kernel,by decide +kernel,by decide +kernel,by decide +kernel⟩⟩
def Ms:jt 6 (Fo 6 (-3) 1) 1349 1350:=⟨by decide,Or.inl ⟨(1349898031630094487,1349898031630094600),by decide +kernel,by decide +kernel,by decide +kernel,by decide +kernel,by decide +kernel,by decide +kernel,by decide +kernel,by decide +kernel,by decide +kernel⟩⟩
def Mt:jt 6 (Fp 6 1 1 1) 317310 317311:=⟨by decide,Or.inl ⟨(317310507862914102816,317310507862914102840),by decide +kernel,by decide +kernel,by decide +kernel,by decide +kernel,by decide +kernel,by decide +kernel,by decide +kernel,by decide +kernel,by decide +kernel⟩⟩
def Mu:Be ((10^3:Nat):Int) 39 40 100 (-5*((10^3:Nat):Int)) (5*((10^3:Nat):Int))=some (1959,1960):=by decide +kernel
section
def HL (ht:Tb w):CL 10 #[QV 1 1,.int .i64 3] w (aH w λv _=>v=iV 3 2718 2719):=J2 (pl:=3) dc dc dc dc dc dc dc Mq ht
def HM (ht:Tb w):CL 11 #[QV 1 2,.int .i64 6] w (aH w λv _=>v=iV 6 (-693148) (-693147)):=J3 (pl:=6) (n:=1) (d:=2) dc dc dc dc dc dc Mr ht
def HN (ht:Tb w):CL 12 #[QV (-3) 1,.int .i64 6] w (aH w λv _=>v=iV 6 1349 1350):=Bn (pl:=6) dc dc dc dc dc dc dc Ms ht
def HO (ht:Tb w):CL 13 #[QV 1 1,.int .i64 1,.int .i64 6] w (aH w λv _=>v=iV 6 317310 317311):=J4 (fr:=1) (pl:=6) (n:=1) (d:=1) dc dc dc dc dc dc dc dc Mt ht
def HP:¬qR 39 40=(([49],[50]):R):=by decide +kernel
def J5 (ht:Tb w):CL 8 #[QV 39 40,.int .i64 3] w (aH w λv _=>v=iV 3 1959 1960):=tR (a:=39) (b:=40) (pl:=3) (na dc dc dc) dc dc dc (fW dc dc dc) HP Mu ht
def J6 (ht:Tb w):CL 12 #[QV 0 1,.int .i64 2] w (aH w λv _=>v=iV 2 50 50):=Bo (pl:=2) dc dc Z dc ht
def J7:dK 6 0 1 1 10000000000000 10000000000000 1=false:=by decide +kernel
def J8:dK 13 1 1 (-20) 1 20 1=false:=by decide +kernel
def J9:Value:=.tuple #[.agg #[S [],S [],S [],S []],.int .i64 60]
def Ka (ht:Tb w):CL 11 #[QV 0 1,.int .i64 6] w (aH w λv _=>v=J9):=
 A9 (pl:=6) (λW b1 e _=>wL (lb:=[pT b1]) Z Hs dc dc Fh Fj Ba tP J7 (ht.ext e)) ht
def HQ (ht:Tb w):CL 10 #[QV 1 1,.int .i64 13] w (aH w λv _=>v=J9):=
 A8 (pl:=13) (λW e=>wL (lb:=[]) Z AS dc dc J0 Bj J1 Bl J8 (ht.ext e)) ht
end
def DU:((qR 50 (ak 2),qR 50 (ak 2)):R×R)=(qR 1 2,qR 1 2):=by rw[show qR 50 (ak 2)=qR 1 2 from gm (gK 2) dc dc]
def j3 {x:R×R}{n:Int}(hp:pl<=12)(h1:-1000000000000<=n)(h2:n<=1000000000000)(ht:Tb w):
 CL 14 #[.agg #[S x.1.1,S x.1.2,S x.2.1,S x.2.2],.int .i64 n,.int .i64 pl] w (aH w λv w'=>v=.bool (decide (x=(qR n (ak pl),qR (n+1) (ak pl))))):=by
 have Am:=tS hp;refine aC func14 Z (I ?_);refine bx (λ_ A1 E=>?_);have D:=A1.2;refine I ?_;refine bB 11 ?_;refine bj (λ_ _ Ad _=>by have E:=be Ad E;refine ab (aX (cs:=[S x.1.1,S x.1.2,S x.2.1,S x.2.2]) (b:=w.heap.size) (o:=0) bp Z bc Z (aa0 E (i:=0) Z) ?_);refine I ?_;exact bY) ?_;refine sf ?_;refine ay (V:=.int .i64 (ak pl)) (λ_ _ _ _=>?_) ?_;refine cl yB (Bf (pl:=(pl)) hp) ?_;rintro _ _ kk rfl;have Af:=kk.2;refine I ?_;exact fs ⟨Af,rfl⟩;refine ay (V:=QV n (ak pl)) (λ_ _ A2 _=>?_) ?_;refine clb k8 (hc:=em JT JT U (ht.ext (xt D A2))) (hk:=?_);rintro _ _ kd rfl;have H:=kd.2;refine I ?_;exact fs ⟨H,rfl⟩;refine sf ?_;refine bj (λ_ _ _ _=>by refine xl ?_;refine I ?_;exact bY) ?_;refine sf ?_;refine ay (V:=.int .i64 (ak pl)) (λ_ _ _ _=>?_) ?_;refine cl yB (Bf (pl:=(pl)) hp) ?_;rintro _ _ W rfl;have ny:=W.2;refine I ?_;exact fs ⟨ny,rfl⟩;refine ay (V:=QV (n+1) (ak pl)) (λ_ _ O _=>?_) ?_;refine clb k8 (hc:=em JT JT U (ht.ext (xt D O))) (hk:=?_);rintro _ _ Ab rfl;have od:=Ab.2;refine I ?_;exact fs ⟨od,rfl⟩
 refine bj (λ_ _ _ _=>by refine ab (aS (vs:=[(0,QV n (ak pl)),(1,QV (n+1) (ak pl))]) (cells:=#[S ((qR n (ak pl)).1),S ((qR n (ak pl)).2),S ((qR (n+1) (ak pl)).1),S ((qR (n+1) (ak pl)).2)]) (pl:=[(0,2),(2,2)]) bp aL q0 Z q0 ?_);refine I ?_;exact bY) ?_;refine sf ?_;intro _ _ G _;have D:=xt D G.2;refine ab (rW (a:=(x.1,x.2)) (b:=(qR n (ak pl),qR (n+1) (ak pl))) (q:=decide ((x.1,x.2)=(qR n (ak pl),qR (n+1) (ak pl)))) Z Z Z ?_);refine I ?_;exact an (t:=6) (v:=.bool (decide ((x.1,x.2)=(qR n (ak pl),qR (n+1) (ak pl))))) Z D Z Z
def Bp (ht:Tb w):
 CL 4 #[] w (aH w λv w'=>v=.bool true):=by
 refine aC func4 Z (I ?_);refine clb k8 (hc:=em Vm Vm dc (ht.ext (aa4 _))) (hk:=?_);rintro _ _ MQ rfl;have D:=MQ.2;refine cl yp (HL (ht.ext D)) ?_;rintro _ Ar MA rfl;have D:=xt D MA.2;refine I ?_;refine al aL (λ_ MS MN=>?_);have D:=xt D MS.2;refine SA MN (λ_ Ap E=>?_);have D:=eK Ap D;have N6:=dX Ap;refine I ?_;refine clb k8 (hc:=em Vm Vm dc (ht.ext D)) (hk:=?_);rintro _ _ M4 rfl;have⟨E,D⟩:=bn M4.2 E D;refine cl yq (HM (ht.ext D)) ?_;rintro _ M8 ML rfl;have⟨E,D⟩:=bn ML.2 E D;refine I ?_;refine al aL (λ_ E7 MH=>?_);have⟨E,D⟩:=bn E7.2 E D;refine SA MH (λ_ N4 G=>?_);have⟨E,D,_⟩:=dE N4 E D;refine I ?_;refine clb k8 (hc:=em Vm Vm dc (ht.ext D)) (hk:=?_);rintro _ _ As rfl;have⟨E,G,D⟩:=aP As.2 E G D;refine cl yr (HN (ht.ext D)) ?_;rintro _ MU MY rfl;have⟨E,G,D⟩:=aP MY.2 E G D;refine I ?_;refine al aL (λ_ D2 MJ=>?_);have⟨E,G,D⟩:=aP D2.2 E G D;refine SA MJ (λ_ My H=>?_);have⟨E,G,D,_⟩:=fq My E G D;refine I ?_;refine clb k8 (hc:=em Vm Vm dc (ht.ext D)) (hk:=?_);rintro _ _ B2 rfl
 have⟨E,G,H,D⟩:=br B2.2 E G H D;refine cl FL (HO (ht.ext D)) ?_;rintro _ D1 MF rfl;have⟨E,G,H,D⟩:=br MF.2 E G H D;refine I ?_;refine al aL (λ_ M5 Aq=>?_);have⟨E,G,H,D⟩:=br M5.2 E G H D;refine SA Aq (λ_ MR O=>?_);have⟨E,G,H,D,_⟩:=fL MR E G H D;refine I ?_;refine clb k8 (hc:=em Vm Vm dc (ht.ext D)) (hk:=?_);rintro _ _ MX rfl;have⟨E,G,H,O,D⟩:=dL MX.2 E G H O D;refine cl oy (J5 (ht.ext D)) ?_;rintro _ M9 L2 rfl;have⟨E,G,H,O,D⟩:=dL L2.2 E G H O D;refine I ?_;refine al aL (λ_ Kp Ay=>?_);have⟨E,G,H,O,D⟩:=dL Kp.2 E G H O D;refine SA Ay (λ_ B1 kk=>?_);have⟨E,G,H,O,D,_⟩:=ka B1 E G H O D;refine I ?_;refine clb k8 (hc:=em Vm Vm dc (ht.ext D)) (hk:=?_);rintro _ _ Ix rfl;have⟨E,G,H,O,kk,D⟩:=lk Ix.2 E G H O kk D;refine cl yr (J6 (ht.ext D)) ?_;rintro _ MI MD rfl;have⟨E,G,H,O,kk,D⟩:=lk MD.2 E G H O kk D;refine I ?_;refine al aL (λ_ N3 Aw=>?_);have⟨E,G,H,O,kk,D⟩:=lk N3.2 E G H O kk D;refine SA Aw (λ_ MM W=>?_);have⟨E,G,H,O,kk,D,_⟩:=xV MM E G H O kk D;refine I ?_;refine clb k8 (hc:=em Vm Vm dc (ht.ext D)) (hk:=?_);rintro _ _ Am rfl
 have⟨E,G,H,O,kk⟩:=dC Am.2 E G H O kk;have⟨W,D⟩:=bn Am.2 W D;refine cl yq (Ka (ht.ext D)) ?_;rintro _ _ Ad rfl;have⟨E,G,H,O,kk⟩:=dC Ad.2 E G H O kk;have⟨W,D⟩:=bn Ad.2 W D;refine I ?_;refine al aL (λ_ A1 MG=>?_);have⟨E,G,H,O,kk⟩:=dC A1.2 E G H O kk;have⟨W,D⟩:=bn A1.2 W D;refine SA MG (λ_ Af kd=>?_);have⟨E,G,H,O,kk⟩:=jx Af E G H O kk;have⟨W,D,_⟩:=dE Af W D;refine I ?_;refine clb k8 (hc:=em Vm Vm dc (ht.ext D)) (hk:=?_);rintro _ _ Ao rfl;have⟨E,G,H,O,kk⟩:=dC Ao.2 E G H O kk;have⟨W,kd,D⟩:=aP Ao.2 W kd D;refine cl yp (HQ (ht.ext D)) ?_;rintro _ _ wr rfl;have⟨E,G,H,O,kk⟩:=dC wr.2 E G H O kk;have⟨W,kd,D⟩:=aP wr.2 W kd D;refine I ?_;refine al aL (λ_ Ab MZ=>?_);have⟨E,G,H,O,kk⟩:=dC Ab.2 E G H O kk;have⟨W,kd,D⟩:=aP Ab.2 W kd D;refine SA MZ (λ_ A2 _=>?_);have⟨E,G,H,O,kk⟩:=jx A2 E G H O kk;have⟨W,kd,D,_⟩:=fq A2 W kd D;refine I ?_;refine bB 26 ?_;refine sf ?_;refine bj (λ_ _ MB _=>by have E:=be MB E;refine I ?_;refine ab (aX (cs:=[S ((qR 2718 (ak 3)).1),S ((qR 2718 (ak 3)).2),S ((qR 2719 (ak 3)).1),S ((qR 2719 (ak 3)).2)]) (b:=Ar.heap.size) (o:=0) bp Z bc Z (aa0 E (i:=0) Z) ?_);refine I ?_;exact bY) ?_
 refine ay (V:=.bool true) (λ_ _ EW _=>?_) ?_;refine I ?_;refine clb oD (hc:=gT (Y:=.bool true) (j3 (x:=((qR 2718 (ak 3)),(qR 2719 (ak 3)))) (pl:=3) dc dc dc (ht.ext (xt D EW))) (qb1 Value.bool (qa1 Z))) (hk:=?_);rintro _ _ M3 rfl;have E9:=M3.2;refine I ?_;exact fs ⟨E9,rfl⟩;refine sf ?_;refine bj (λ_ _ N1 _=>by have G:=be N1 G;refine I ?_;refine ab (aX (cs:=[S ((qR (-693148) (ak 6)).1),S ((qR (-693148) (ak 6)).2),S ((qR (-693147) (ak 6)).1),S ((qR (-693147) (ak 6)).2)]) (b:=M8.heap.size) (o:=0) bp Z bc Z (aa0 G (i:=0) Z) ?_);refine I ?_;exact bY) ?_;refine ay (V:=.bool true) (λ_ _ Jx _=>?_) ?_;refine I ?_;refine clb oD (hc:=gT (Y:=.bool true) (j3 (x:=((qR (-693148) (ak 6)),(qR (-693147) (ak 6)))) (pl:=6) dc dc dc (ht.ext (xt D Jx))) (qb1 Value.bool (qa1 Z))) (hk:=?_);rintro _ _ MC rfl;have M7:=MC.2;refine I ?_;exact fs ⟨M7,rfl⟩;refine sf ?_;refine bj (λ_ _ K2 _=>by have H:=be K2 H;refine I ?_;refine ab (aX (cs:=[S ((qR 1349 (ak 6)).1),S ((qR 1349 (ak 6)).2),S ((qR 1350 (ak 6)).1),S ((qR 1350 (ak 6)).2)]) (b:=MU.heap.size) (o:=0) bp Z bc Z (aa0 H (i:=0) Z) ?_);refine I ?_;exact bY) ?_;refine ay (V:=.bool true) (λ_ _ N5 _=>?_) ?_;refine I ?_
 refine clb oD (hc:=gT (Y:=.bool true) (j3 (x:=((qR 1349 (ak 6)),(qR 1350 (ak 6)))) (pl:=6) dc dc dc (ht.ext (xt D N5))) (qb1 Value.bool (qa1 Z))) (hk:=?_);rintro _ _ MO rfl;have M6:=MO.2;refine I ?_;exact fs ⟨M6,rfl⟩;refine sf ?_;refine bj (λ_ _ M0 _=>by have O:=be M0 O;refine I ?_;refine ab (aX (cs:=[S ((qR 317310 (ak 6)).1),S ((qR 317310 (ak 6)).2),S ((qR 317311 (ak 6)).1),S ((qR 317311 (ak 6)).2)]) (b:=D1.heap.size) (o:=0) bp Z bc Z (aa0 O (i:=0) Z) ?_);refine I ?_;exact bY) ?_;refine ay (V:=.bool true) (λ_ _ MV _=>?_) ?_;refine I ?_;refine clb oD (hc:=gT (Y:=.bool true) (j3 (x:=((qR 317310 (ak 6)),(qR 317311 (ak 6)))) (pl:=6) dc dc dc (ht.ext (xt D MV))) (qb1 Value.bool (qa1 Z))) (hk:=?_);rintro _ _ N0 rfl;have M2:=N0.2;refine I ?_;exact fs ⟨M2,rfl⟩;refine sf ?_;refine bj (λ_ _ MW _=>by have kk:=be MW kk;refine I ?_;refine ab (aX (cs:=[S ((qR 1959 (ak 3)).1),S ((qR 1959 (ak 3)).2),S ((qR 1960 (ak 3)).1),S ((qR 1960 (ak 3)).2)]) (b:=M9.heap.size) (o:=0) bp Z bc Z (aa0 kk (i:=0) Z) ?_);refine I ?_;exact bY) ?_;refine ay (V:=.bool true) (λ_ _ MK _=>?_) ?_;refine I ?_
 refine clb oD (hc:=gT (Y:=.bool true) (j3 (x:=((qR 1959 (ak 3)),(qR 1960 (ak 3)))) (pl:=3) dc dc dc (ht.ext (xt D MK))) (qb1 Value.bool (qa1 Z))) (hk:=?_);rintro _ _ Mz rfl;have ME:=Mz.2;refine I ?_;exact fs ⟨ME,rfl⟩;refine sf ?_;refine bj (λ_ _ Ax _=>by have W:=be Ax W;refine I ?_;refine ab (aX (cs:=[S ((qR 50 (ak 2)).1),S ((qR 50 (ak 2)).2),S ((qR 50 (ak 2)).1),S ((qR 50 (ak 2)).2)]) (b:=MI.heap.size) (o:=0) bp Z bc Z (aa0 W (i:=0) Z) ?_);refine I ?_;exact bY) ?_;refine ay (V:=QV 1 2) (λ_ _ ny _=>?_) ?_;refine I ?_;refine clb k8 (hc:=em Vm Vm dc (ht.ext (xt D ny))) (hk:=?_);rintro _ _ od rfl;have Av:=od.2;refine I ?_;exact fs ⟨Av,rfl⟩;refine ay (V:=QV 1 2) (λ_ _ M1 _=>?_) ?_;refine I ?_;refine clb k8 (hc:=em Vm Vm dc (ht.ext (xt D M1))) (hk:=?_);rintro _ _ E1 rfl;have MP:=E1.2;refine I ?_;exact fs ⟨MP,rfl⟩;refine bj (λ_ _ _ _=>by refine I ?_;refine ab (aS (vs:=[(0,QV 1 2),(1,QV 1 2)]) (cells:=#[S (qR 1 2).1,S (qR 1 2).2,S (qR 1 2).1,S (qR 1 2).2]) (pl:=[(0,2),(2,2)]) bp aL q0 Z q0 ?_);refine I ?_;exact bY) ?_;refine sf ?_;intro _ _ E4 _;have D:=xt D E4.2;with_reducible refine ml Z ?_
 refine I ?_;refine ab (rW (a:=(qR 50 (ak 2),qR 50 (ak 2))) (b:=(qR 1 2,qR 1 2)) (q:=true) Z Z (qa1 DU) ?_);refine I ?_;exact an (t:=0) (v:=.bool true) Z D Z Z
end
section
open Go Go.ChangeShapes Go.WideShapes Go.ChangeAt Go.RowKit Go.Deep Go.Eng Proofs.Tryz
def LF:ownKnob prog.godebug=none:=by kernel_rfl
def Kb:laidOutB prog=true:=by kernel_rfl
def Kc : prog.globalNamed "internal/strconv.uint64pow10" = some 2 := by kernel_rfl
def LG:(prog.globals[2]?).map (·.type)=some 222:=by kernel_rfl
def Kd:(((begin prog (λ_ _=>0) default).world.heap[2]?).bind Obj.row?).map (·.2)=some 222:=by kernel_rfl
def LH:∃z,(((begin prog (λ_ _=>0) default).world.heap[2]?).bind Obj.row?)=some (z,222):=by
 obtain⟨⟨z,t⟩,h,e⟩:=Option.map_eq_some_iff.1 Kd
 cases e;exact⟨z,h⟩
def LI:2<prog.globals.size:=of_decide_eq_true q0
def LJ:Rows.laid_internal_strconv_uint64pow10=(.agg (Lib.pow10Tab.map λz=>DataW.lit (.int .u64 z)):DataW Unit):=by kernel_rfl
def cU:prog.cellsOf 157=1:=by kernel_rfl
def uU:prog.underlying 157=some (.int .u64):=by kernel_rfl
def cA:prog.cellsOf 222=20:=by kernel_rfl
def HR:Lib.pow10Tab.length=20:=by kernel_rfl
def kt {H:Type}{enc:TypeId×Value->H}{P:Program}{t:TypeId}{ts:List TypeId}{ds:List (DataW H)}{ps:List MemPlace}(h:DataW.TrodAll enc P w base sp hd (t::ts) vs ds ps):∃v vs' d ds' p q,vs=v::vs'/\ds=d::ds'/\DataW.Trod enc P w base sp hd t v d p/\DataW.TrodAll enc P w base sp hd ts vs' ds' q:=by
 match vs,ds,h with
 | v::vs',d::ds',h=>
   obtain⟨p,q,h1,D,_⟩:=h
   exact⟨v,vs',d,ds',p,q,rfl,rfl,h1,D⟩
def Bq {H:Type}{enc:TypeId×Value->H}{P:Program}{ds:List (DataW H)}{ps:List MemPlace}(h:DataW.TrodAll enc P w base sp hd [] vs ds ps):vs=[]/\ds=[]:=by
 match vs,ds,h with
 |[],[],_=>exact⟨rfl,rfl⟩
def qL {H:Type}{enc:TypeId×Value->H}{W W':World}{sp':Nat->Bool}(k:a8 W W'):∀{ts:List TypeId} {vs:List Value} {ds:List (DataW H)} {ps:List MemPlace},
 (∀t∈ts,prog.readableRec t=true/\t<prog.types.size)->DataW.TrodAll enc prog W 0 (λ_=>true) true ts vs ds ps->(∀p∈ps,p.block<W.heap.size)->(∀p∈ps,sp' p.block=true)->DataW.TrodAll enc prog W' 0 sp' true ts vs ds ps
 |[],[],[],_,_,h,_,_=>h
 | t::ts,v::vs,d::ds,ps,hr,h,hl,hs=>by
   obtain⟨p,q,h1,h2,rfl⟩:=h
   refine⟨p,q,WideElems.Trod_stays Kb (hr t Vk).1 (hr t Vk).2 h1 (λx hx=>?_) (λx hx=>hs x (by simp[hx])),qL k (λu hu=>hr u (by simp[hu])) h2 (λx hx=>hl x (by simp[hx])) (λx hx=>hs x (by simp[hx])),rfl⟩
   have hb:=hl x (by simp[hx])
   cases x with
   |cell b o=>exact World.cell?_of_block (k.block b hb)
   |map b=>exact k.block b hb
 |[],[],_::_,_,_,h,_,_=>h.elim
 |[],_::_,_,_,_,h,_,_=>h.elim
 |_::_,[],_,_,_,h,_,_=>h.elim
 |_::_,_::_,[],_,_,h,_,_=>h.elim
def HS {n:Int}(h:(Lit.int .i64 n).wf=true):In64 n:=by
 simp only[Lit.wf,Bool.and_eq_true,decide_eq_true_eq]at h
 have E:IntKind.i64.min=-9223372036854775808:=rfl
 have D:IntKind.i64.max=9223372036854775807:=rfl
 rw[E,D]at h
 unfold In64;omega
def Mv:prog.cellsOf 9=1:=by kernel_rfl
def LK:prog.cellsOf 23=2:=by kernel_rfl
def Ke (s:ByteArray):Value.string s=S s.data.toList:=rfl
section
variable {H:Type}{enc:TypeId×Value->H}{W:World}{fuel b0:Nat}{x:DataW H×List MemPlace}
set_option maxRecDepth 100000 in
def Br {v:Value}(hv:Value.okWide prog W .any b0 23 v)(h:DataW.trod enc prog W base (λ_=>true) true fuel 23 v.cells.toList=some x):
 ∃l m:List UInt8,v=.agg #[S l,S m]/\l.length<=maxLen/\m.length<=maxLen:=by
 unfold Value.okWide at hv
 rw[underlying23]at hv
 obtain⟨cs,rfl,hs,_⟩:=hv
 rw[LK]at hs
 obtain⟨_,_,n,_,_,E,h1⟩:=trod_struct2 underlying23 h
 obtain⟨l⟩:=cs
 match l,hs with
 | [u,v],_=>
   rw[Mv]at E h1
   obtain⟨s,es,_,ls⟩:=DataW.trod_string underlying9 E
   obtain⟨t,D,_,lt⟩:=DataW.trod_string underlying9 h1
   have es:u=.string s:=by simpa[Value.cells]using es
   have D:v=.string t:=by simpa[Value.cells]using D
   refine⟨s.data.toList,t.data.toList,by rw[es,D,Ke,Ke],by simpa using ls,by simpa using lt⟩
end
end
end Go.Proofs.YtgcfffdpcefifaaGreatDoor
