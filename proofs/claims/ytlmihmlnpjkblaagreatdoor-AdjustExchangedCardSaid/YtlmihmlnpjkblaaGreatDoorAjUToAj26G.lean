/- Part of the proof of a statement about an adjustment. -/
import Derived.Test.YtlmihmlnpjkblaaGreatDoorLaFToAjTG
set_option linter.all false
namespace La
variable {a b i j n:Nat}
def swp (a b i:Nat):Nat:=if i=a then b else if i=b then a else i
def dW {m:Nat}(ha:a<m)(hb:b<m)(hi:i<m):swp a b i<m:=by unfold swp;split;exact hb;split;exact ha;exact hi
def nf {a b i:Nat}:swp a b (swp a b i)=i:=by
 unfold swp
 by_cases h1:i=a
 · subst h1
   rw[if_pos Z]
   by_cases h2:b=i
   · rw[if_pos h2];exact h2
   · rw[if_neg h2,if_pos Z]
 · rw[if_neg h1]
   by_cases h2:i=b
   · subst h2;rw[if_pos Z,if_pos Z]
   · rw[if_neg h2,if_neg h1,if_neg h2]
def yV (h:swp a b i=swp a b j):i=j:=by rw[<- @nf a b i,h,nf]
def yW (ha:a<n)(x:Rat):sm n (λi=>if i=a then x else 0)=x:=by
 rw[g8 ha (λl _ hl=>by rw[if_neg hl])];rw[if_pos Z]
def mQ {m:Nat}(ha:a<m)(hb:b<m)(f:Nat->Rat):sm m (λi=>f (swp a b i))=sm m f:=by
 by_cases e:a=b
 · subst e
   exact ao λi _=>by
    unfold swp
    by_cases h:i=a
    · rw[if_pos h,h]
    · rw[if_neg h,if_neg h]
 · let h :Nat->Rat:=λi=>if i=a then 0 else if i=b then 0 else f i
   have G:sm m f=sm m h+f a+f b:=by
    rw[<-yW ha (f a),<-yW hb (f b),<-iH,<-iH]
    exact ao λi _=>by
     show f i=(if i=a then 0 else if i=b then 0 else f i)+(if i=a then f a else 0)+(if i=b then f b else 0)
     by_cases h1:i=a
     · subst h1;rw[if_pos Z,if_pos Z,if_neg e];grind
     · by_cases h2:i=b
       · subst h2;rw[if_neg h1,if_pos Z,if_neg h1,if_pos Z];grind
       · rw[if_neg h1,if_neg h2,if_neg h1,if_neg h2];grind
   have E:sm m (λi=>f (swp a b i))=sm m h+f b+f a:=by
    rw[<-yW ha (f b),<-yW hb (f a),<-iH,<-iH]
    exact ao λi _=>by
     show f (swp a b i)=(if i=a then 0 else if i=b then 0 else f i)+(if i=a then f b else 0)+(if i=b then f a else 0)
     unfold swp
     by_cases h1:i=a
     · subst h1;rw[if_pos Z,if_pos Z,if_pos Z,if_neg e];grind
     · by_cases h2:i=b
       · subst h2;rw[if_neg h1,if_pos Z,if_neg h1,if_pos Z,if_neg h1,if_pos Z];grind
       · rw[if_neg h1,if_neg h2,if_neg h1,if_neg h2,if_neg h1,if_neg h2];grind
   rw[G,E];grind
def ML {m:Nat}(ha:a<m)(hb:b<m){A:Mx}{v:Nat->Rat}:qf m (λi j=>A (swp a b i) (swp a b j)) v=qf m A (λi=>v (swp a b i)):=by
 unfold qf
 rw[<-mQ ha hb (λi=>v (swp a b i)*sm m (λj=>A i j*v (swp a b j)))]
 exact ao λi _=>by
  show v i*sm m _=v (swp a b (swp a b i))*sm m _
  rw[nf,<-mQ ha hb (λj=>A (swp a b i) j*v (swp a b j))]
  congr 1
  exact ao λj _=>by show _=A _ (swp a b j)*v (swp a b (swp a b j));rw[nf]
def PD.swp {m:Nat}(ha:a<m)(hb:b<m){A:Mx}(h:PD m A):PD m (λi j=>A (La.swp a b i) (La.swp a b j)):=λv hv=>by
 rw[ML ha hb]
 obtain⟨j,E,G⟩:=hv
 exact h _ ⟨La.swp a b j,dW ha hb E,by rw[nf];exact G⟩
def Ga :one (swp a b i) (swp a b j)=one i j:=by
 unfold one
 by_cases h:i=j
 · subst h;rw[if_pos Z,if_pos Z]
 · rw[if_neg h,if_neg (λe=>h (yV e))]
def Qb {m:Nat}(ha:a<m)(hb:b<m){A B B':Mx}(h1:jg m m (mul m B A) one)(h2:jg m m (mul m A B) one)(h3:jg m m (mul m B' (λi j=>A (swp a b i) (swp a b j))) one):
 ∀i,i<m->∀j,j<m->B' i j=B (swp a b i) (swp a b j):=by
 have H:jg m m (mul m (λi j=>B (swp a b i) (swp a b j)) (λi j=>A (swp a b i) (swp a b j))) one:=λi hi j E=>by
  show sm m (λl=>B (swp a b i) (swp a b l)*A (swp a b l) (swp a b j))=_
  rw[mQ ha hb (λl=>B (swp a b i) l*A l (swp a b j)),<-Ga (a:=a) (b:=b)]
  exact h1 _ (dW ha hb hi) _ (dW ha hb E)
 have G:jg m m (mul m (λi j=>A (swp a b i) (swp a b j)) (λi j=>B (swp a b i) (swp a b j))) one:=λi hi j E=>by
  show sm m (λl=>A (swp a b i) (swp a b l)*B (swp a b l) (swp a b j))=_
  rw[mQ ha hb (λl=>A (swp a b i) l*B l (swp a b j)),<-Ga (a:=a) (b:=b)]
  exact h2 _ (dW ha hb hi) _ (dW ha hb E)
 exact Br h3 H G
end La
namespace Go.Proofs.YtlmihmlnpjkblaaGreatDoor
open Go Go.Eng Go.RowKit La Proofs.Tryz
variable {b i:Nat}
section
def oE (V:Rows)(m a b i:Nat):List R:=(List.range m).map λk=>ap (V (swp a b i)) (swp a b k)
def yX (ys:List R)(a b:Nat):List R:=(ys.set a (ap ys b)).set b (ap ys a)
section
variable {xs:List Int}{m n a k:Nat}{L V W V' W':Rows}{ys:List R}
def yY (hk:k<m):ap (oE V m a b i) k=ap (V (swp a b i)) (swp a b k):=by rw[oE,ic hk]
def yZ (hk:k<m):Q (oE V m a b) i k=Q V (swp a b i) (swp a b k):=by show qv (ap (oE V m a b i) k)=_;rw[yY hk];rfl
def Gb (hl:ys.length=m)(ha:a<m)(hb:b<m):ap (yX ys a b) i=ap ys (swp a b i):=by
 unfold yX swp
 rw[lE kc8,lE J]
 by_cases h2:i=b
 · rw[if_pos h2]
   by_cases h1:i=a
   · rw[if_pos h1,<-h1,<-h2]
   · rw[if_neg h1,if_pos h2]
 · rw[if_neg h2]
   by_cases h1:i=a
   · rw[if_pos h1,if_pos h1]
   · rw[if_neg h1,if_neg h1,if_neg h2]
def U6:(yX ys a b).length=ys.length:=by simp[yX]
def MM (hm:2<=m/\m<=5)(hn:1<=n/\n<=2)(ha:a<m)(hb:b<m):
 ∃W W',vY m n (eH xs n) (fA xs m) (yA xs m) W/\vY m n (λi=>eH xs n (swp a b i)) (oE (fA xs m) m a b) (yX (yA xs m) a b) W'/\∀i,i<m->∀j,j<m->Q W' i j=Q W (swp a b i) (swp a b j):=by
 obtain⟨W,h,_⟩:=MI (xs:=xs) hm hn
 have hV:jg m m (λi j=>Q (fA xs m) (swp a b i) (swp a b j)) (Q (oE (fA xs m) m a b)):=λi _ j E=>(yZ E).symm
 have rV:RB m m (oE (fA xs m) m a b) 5 1:=by
  obtain⟨ok,t,G,tD,k3,hU⟩:=yU (xs:=xs) (m:=m)
  exact⟨λi hi=>⟨by simp[oE],λk hk=>by rw[yY hk];exact(ok _ (dW ha hb hi)).2 _ (dW ha hb hk)⟩,t,G,tD,λi j=>k3 (swp a b i) (swp a b j),λi hi j E=>by rw[yZ E];exact hU _ (dW ha hb hi) _ (dW ha hb E)⟩
 have rL:RB m n (λi=>eH xs n (swp a b i)) 3 1:=by
  obtain⟨ok,t,G,tD,k3,hU⟩:=BC (xs:=xs) (m:=m) (n:=n)
  exact⟨λi hi=>ok _ (dW ha hb hi),t,G,tD,λi j=>k3 (swp a b i) j,λi hi j E=>hU _ (dW ha hb hi) j E⟩
 have H:(yA xs m).length=m:=h.yl
 have rY:RB m 1 (cg (yX (yA xs m) a b)) 240 4:=by
  obtain⟨ok,t,G,tD,k3,hU⟩:=h.rY
  have e:∀i,cg (yX (yA xs m) a b) i=cg (yA xs m) (swp a b i):=λi=>by show[ap _ i]=[ap _ _];rw[Gb H ha hb]
  exact⟨λi hi=>by rw[e];exact ok _ (dW ha hb hi),t,G,tD,λi j=>k3 (swp a b i) j,λi hi j E=>by unfold Q;rw[e];exact hU _ (dW ha hb hi) j E⟩
 have sV:∀i,i<m->∀j,j<m->Q (oE (fA xs m) m a b) i j=Q (oE (fA xs m) m a b) j i:=λi hi j E=>by rw[yZ E,yZ hi,h.sV _ (dW ha hb hi) _ (dW ha hb E)]
 have O:PD m (Q (oE (fA xs m) m a b)):=(h.pd.swp ha hb).congr hV
 obtain⟨A0,W',eW,WV,VW,rW'⟩:=F6 (by omega:1<=m/\m<=5) rV sV O
 have hW:=Qb ha hb h.WV h.VW (B':=Q W') (λi hi j E=>by rw[<-WV i hi j E];exact ao λl hl=>by rw[<-hV l hl j E])
 exact⟨W,W',h,⟨h.hm,hn,h.hnm,rL,rV.1,sV,O,A0,eW,WV,VW,rW'.mono Vc Vc,by rw[U6];exact H,rY⟩,hW⟩
def MN (ha:a<m)(hb:b<m)(hyl:ys.length=m)(hW:∀i,i<m->∀j,j<m->Q W' i j=Q W (swp a b i) (swp a b j))(v:MF m n L V ys W)(v':MF m n (λi=>L (swp a b i)) V' (yX ys a b) W'):
 qm m n (λi=>L (swp a b i)) V' (yX ys a b)=qm m n L V ys/\(∀i,i<n->sd m n (λi=>L (swp a b i)) V' i=sd m n L V i)/\ap (BL m n (λi=>L (swp a b i)) V' (yX ys a b) 0) 0=ap (BL m n L V ys 0) 0:=by
 have hB:∀k,k<n->∀i,i<m->Q (vh m n (λi=>L (swp a b i)) V') k i=Q (vh m n L V) k (swp a b i):=λk hk i hi=>by
  rw[v'.bv k hk i hi,v.bv k hk _ (dW ha hb hi)]
  show sm m (λj=>Q L (swp a b j) k*Q W' j i)=sm m (λj=>Q L j k*Q W j (swp a b i))
  rw[<-mQ ha hb (λj=>Q L j k*Q W j (swp a b i))]
  exact ao λj E=>by rw[hW j E i hi]
 have hG:∀i,i<n->∀j,j<n->Q (FO m n (λi=>L (swp a b i)) V') i j=Q (FO m n L V) i j*1:=λi hi j E=>by
  rw[v'.gv i hi j E,v.gv i hi j E]
  show sm m (λk=>Q (vh m n (λi=>L (swp a b i)) V') i k*Q L (swp a b k) j)=sm m (λk=>Q (vh m n L V) i k*Q L k j)*1
  rw[<-mQ ha hb (λk=>Q (vh m n L V) i k*Q L k j),ao (n:=m) (g:=λk=>Q (vh m n L V) i (swp a b k)*Q L (swp a b k) j) λk hk=>by rw[hB i hi k hk]]
  grind
 have hx:∀k,k<n->qv (ap (qm m n (λi=>L (swp a b i)) V' (yX ys a b)) k)=qv (ap (qm m n L V ys) k):=by
  refine BD (m:=m) (B:=Q (vh m n L V)) (L:=Q L) (C:=Q (sd m n L V)) (y:=λi=>qv (ap ys i)) (x:=λk=>qv (ap (qm m n (λi=>L (swp a b i)) V' (yX ys a b)) k)) (x':=λk=>qv (ap (qm m n L V ys) k)) ?_ ?_ ?_
  · intro i hi j E
    rw[<-v.CG i hi j E]
    exact ao λk hk=>by rw[v.gv k hk j E]
  · intro k hk
    have:=v'.ne k hk
    rw[<-this,<-mQ ha hb (λi=>Q (vh m n L V) k i*(qv (ap ys i)-sm n (λl=>Q L i l*qv (ap (qm m n (λi=>L (swp a b i)) V' (yX ys a b)) l))))]
    exact ao λi hi=>by rw[hB k hk i hi,v'.rv i hi,Gb hyl ha hb];rfl
  · intro k hk
    rw[<-v.ne k hk]
    exact ao λi hi=>by rw[v.rv i hi]
 have hr:∀i,i<m->qv (ap (nu m n (λi=>L (swp a b i)) V' (yX ys a b)) i)=qv (ap (nu m n L V ys) (swp a b i)):=λi hi=>by
  rw[v'.rv i hi,v.rv _ (dW ha hb hi),Gb hyl ha hb]
  congr 1
  exact ao λk hk=>by rw[hx k hk];rfl
 refine⟨vk v'.fxl v.fxl λk hk=>uT (MK v' hk) (MK v hk) (hx k hk),λi hi=>vk (v'.rC.1 i hi).1 (v.rC.1 i hi).1 λk hk=>uT ((v'.rC.1 i hi).2 k hk) ((v.rC.1 i hi).2 k hk) ?_,uT ((v'.okS 0 Vc).2 0 Vc) ((v.okS 0 Vc).2 0 Vc) ?_⟩
 · have h1:(1:Rat)≠0:=by decide
   have:=HI h1 v.CG v.GC v'.CG hG i hi k hk
   show Q (sd m n (λi=>L (swp a b i)) V') i k=Q (sd m n L V) i k
   rw[this];grind
 · show Q (BL m n (λi=>L (swp a b i)) V' (yX ys a b)) 0 0=Q (BL m n L V ys) 0 0
   rw[v'.sv,v.sv]
   have h1:qf m (Q W') (λi=>qv (ap (nu m n (λi=>L (swp a b i)) V' (yX ys a b)) i))=qf m (λi j=>Q W (swp a b i) (swp a b j)) (λi=>qv (ap (nu m n L V ys) (swp a b i))):=ao λi hi=>by
    show qv (ap (nu m n (λi=>L (swp a b i)) V' (yX ys a b)) i)*sm m (λj=>Q W' i j*qv (ap (nu m n (λi=>L (swp a b i)) V' (yX ys a b)) j))=qv (ap (nu m n L V ys) (swp a b i))*sm m (λj=>Q W (swp a b i) (swp a b j)*qv (ap (nu m n L V ys) (swp a b j)))
    rw[hr i hi,ao (n:=m) (f:=λj=>Q W' i j*qv (ap (nu m n (λi=>L (swp a b i)) V' (yX ys a b)) j)) (g:=λj=>Q W (swp a b i) (swp a b j)*qv (ap (nu m n L V ys) (swp a b j))) λj E=>by rw[hr j E,hW i hi j E]]
   rw[h1,ML ha hb]
   congr 1
   exact funext λi=>by rw[nf]
end
end
section
attribute [local irreducible] wpListIn Code.wpIn Oper.wpIn Exit.then Exit.inBlock Exit.noGoto
set_option maxHeartbeats 40000000
section
variable {lo hi m:Nat}{w w':World}{A:Option Addr}{C:Nat}{Y:Option Addr}{CY:Nat}{B:Option Addr}{CB:Nat}{H G:Nat->Value}{L V:Rows}{ys:List R}
def fq.mtM (h:fq lo hi w A C Y CY B CB m H G L V ys):Mt w 0 A m H L:=(h.wM.mt (ek h.oM)).mono (Nat.zero_le _)
def fq.mtV (h:fq lo hi w A C Y CY B CB m H G L V ys):Mt w 0 B m G V:=(h.wV.mt (ek h.oV)).mono (Nat.zero_le _)
def fq.rwY (h:fq lo hi w A C Y CY B CB m H G L V ys):Rw w 0 Y (ag ys):=(ek h.oY).mono (Nat.zero_le _)
def fq.setY {zs:List R}(k:dP w w' b)(hob:(Value.slice Y m CY).ownBlock=some b)(hl:zs.length=m)(ho:w'.ownsRow lo 33 2 (.slice Y m CY) m (ag zs))(h:fq lo hi w A C Y CY B CB m H G L V ys):fq lo hi w' A C Y CY B CB m H G L V zs:=
 ⟨hl,av k (h.nMY.symm b hob) h.oM,h.uM,h.wM.putOut k (λi hi=>h.nYH i hi b hob),ho,h.uY,av k (h.nVY.symm b hob) h.oV,h.uV,h.wV.putOut k (λi hi=>h.nYG i hi b hob),h.nMY,h.nMV,h.nVY,h.nMH,h.nMG,h.nVH,h.nVG,h.nYH,h.nYG,h.nHG⟩
def fq.setV {V':Rows}(k:dP w w' b)(hi':i<m)(hob:(G i).ownBlock=some b)(hw:Wr w' lo hi m G V')(h:fq lo hi w A C Y CY B CB m H G L V ys):fq lo hi w' A C Y CY B CB m H G L V' ys:=
 ⟨h.yl,av k ((h.nMG i hi').symm b hob) h.oM,h.uM,h.wM.putOut k (λz E=>(h.nHG z E i hi').symm b hob),av k ((h.nYG i hi').symm b hob) h.oY,h.uY,av k ((h.nVG i hi').symm b hob) h.oV,h.uV,hw,h.nMY,h.nMV,h.nVY,h.nMH,h.nMG,h.nVH,h.nVG,h.nYH,h.nYG,h.nHG⟩
end
def Yc {A B:Option Addr}{C D n lo lo2:Nat}{w:World}{xs:List R}(hl:xs.length=n)(hx:Rw w lo A (ag xs))(hy:Rw w lo2 B (ag xs))(hn:n<=1000000):CL 16 #[.slice A n C,.slice B n D] w (aH w λv w'=>v=.bool true):=by
 subst hl;exact wT hx hy hn
structure vZ (lo hi:Nat)(w:World)(A:Option Addr)(C n:Nat)(H:Nat->Value)(L:Rows):Prop where
 o:w.ownsRow lo 28 1 (.slice A n C) n ((List.range n).map H)
 u:∀g,(Value.slice A n C).ownBlock=some g->g<hi
 r:Wr w lo hi n H L
 ne:∀z,z<n->ay (.slice A n C) (H z)
section
variable {lo lo' hi hi' n C:Nat}{w w':World}{A:Option Addr}{H:Nat->Value}{L L':Rows}{v:Value}
def vZ.ext (k:aN w w')(h:vZ lo hi w A C n H L):vZ lo hi w' A C n H L:=⟨ab k h.o,h.u,h.r.ext k,h.ne⟩
def vZ.put (k:dP w w' b)(hb:b<lo\/hi<=b)(h:vZ lo hi w A C n H L):vZ lo hi w' A C n H L:=
 ⟨av k (λe=>by have h1:=h.u b e;have h2:=aR h.o b e;omega) h.o,h.u,h.r.put k hb,h.ne⟩
def vZ.mt (h:vZ lo hi w A C n H L):Mt w lo A n H L:=h.r.mt (ek h.o)
def vZ.cap (h:vZ lo hi w A C n H L):n<=C:=kj h.o
def vZ.mono (hl:lo'<=lo)(h:vZ lo hi w A C n H L):vZ lo' w.heap.size w A C n H L:=
 ⟨b9 hl h.o,dG h.o,⟨λi hi=>b9 hl (h.r.own i hi),λi hi=>dG (h.r.own i hi),h.r.ne⟩,h.ne⟩
def vZ.congr (e:∀i,i<n->L i=L' i)(h:vZ lo hi w A C n H L):vZ lo hi w A C n H L':=⟨h.o,h.u,h.r.congr e,h.ne⟩
def vZ.set {V':Rows}(k:dP w w' b)(hi':i<n)(hob:(H i).ownBlock=some b)(hw:Wr w' lo hi n H V')(h:vZ lo hi w A C n H L):vZ lo hi w' A C n H V':=
 ⟨av k ((h.ne i hi').symm b hob) h.o,h.u,hw,h.ne⟩
def Yd (lo:Nat)(w:World)(v:Value)(k:Nat)(xs:List R)(C:Rows)(chi:R)(fr:Int):Prop:=∃A cp B D H mid,v=.agg #[.slice A xs.length cp,.slice B k D,S chi.1,S chi.2,.int .i64 fr]/\xs.length<=cp/\Rw w mid A (ag xs)/\lo<=mid/\mid<=w.heap.size/\vZ lo mid w B D k H C
end
end
end Go.Proofs.YtlmihmlnpjkblaaGreatDoor
namespace Go.Eng
open Go Go.RowKit
section
variable {N b s c ty i d:Nat}{e e0 e1:Nat->Value}{ds:List Deferred}{w0 w w':World}{F:World->Prop}{ls:Nat->Bool}{cs:Array Value}{L:List (Option (Nat×Value))}{v:Value}
def XS (w0:World)(b s:Nat)(F:World->Prop)(ls:Nat->Bool)(_:Nat->Value)(w:World):Prop:=
 match ls s with
 |true=>∃w1 w2,aN w0 w1/\dP w1 w2 b/\aN w2 w/\F w2
 |false=>aN w0 w
def XS.start:XS w0 b s F (λ_=>false) e0 w0.drew:=ac3 w0
def XS.pre (h:XS w0 b s F ls e w)(hs:ls s=false):aN w0 w:=by unfold XS at h;rw[hs]at h;exact h
def aa5:=@XS.pre
def XS.fin (h:XS w0 b s F ls e w)(hs:ls s=true):∃w1 w2,aN w0 w1/\dP w1 w2 b/\aN w2 w/\F w2:=by unfold XS at h;rw[hs]at h;exact h
def XS.blk (h:XS w0 b s F ls e w)(hne:c≠b)(hb:ar w0 c ty cs):ar w c ty cs:=by
 cases hs:ls s
 · exact ad1 (h.pre hs) hb
 · obtain⟨A2,A1,O,E,A0,_⟩:=h.fin hs
   exact ad1 A0 (ab2 E hne (ad1 O hb))
def XS.ext (h:XS w0 b s F ls e w)(k:aN w w'):XS w0 b s F ls e1 w':=by
 cases hs:ls s
 · have:=aN.trans (h.pre hs) k
   unfold XS;rw[hs];exact this
 · obtain⟨O,E,A1,A0,A2,hF⟩:=h.fin hs
   unfold XS;rw[hs];exact⟨O,E,A1,A0,aN.trans A2 k,hF⟩
def XS.set (h:XS w0 b s F ls e w)(h2:Nat.beq s i=false):XS w0 b s F (eR ls i) e1 w:=by
 have:=h.ext (e1:=e1) (aa0 w)
 unfold XS at this ⊢
 rw[e7 h2];exact this
def bU (hl:lY L i=some (some (d,v)))(hX:XS w0 b s F ls e w)(k:aN w w')(h2:Nat.beq s i=false:=by rfl):r9 N ds (XS w0 b s F) L ls e i (some d) .normal (act N (upd e d v) ds) w':=
 ⟨rfl,v,(ax ..).symm,(λ_ _ h=>by rw[hl]at h;cases h;rfl),(hX.ext k:XS w0 b s F ls e w').set h2⟩
def BE (hl:lY L s=none\/lY L s=some none)(hX:aN w0 w)(k:dP w w' b)(hF:F w'):r9 N ds (XS w0 b s F) L ls e s none .normal (act N e ds) w':=by
 refine⟨rfl,undef,rfl,(λ_ _ h=>absurd h (by rcases hl with hl|hl <;>rw[hl] <;>simp)),?_⟩
 unfold XS
 rw[FI]
 exact⟨w,w',hX,k,aa0 _,hF⟩
end
end Go.Eng
namespace Go.Proofs.YtlmihmlnpjkblaaGreatDoor
open Go Go.Eng Go.RowKit Proofs.Tryz
attribute [local irreducible] wpListIn Code.wpIn Oper.wpIn Exit.then Exit.inBlock Exit.noGoto
set_option maxHeartbeats 40000000
def sj (m:Nat)(V V':Rows)(i k:Nat)(ac:Rows):Prop:=∀z,z<m->(ac z).length=m/\∀j,j<m->ap (ac z) j=if z<i\/(z=i/\j<k)then ap (V' z) j else ap (V z) j
section
variable {m i k z:Nat}{V V' ac:Rows}
def sj.zero (h:∀z,z<m->(V z).length=m):sj m V V' 0 0 V:=λz E=>⟨h z E,λj _=>by rw[if_neg U]⟩
def sj.len (h:sj m V V' i k ac)(hz:z<m):(ac z).length=m:=(h z hz).1
def sj.step (h:sj m V V' i k ac)(hi:i<m)(hk:k<m):sj m V V' i (k+1) (bD ac i ((ac i).set k (ap (V' i) k))):=λz E=>by
 by_cases e:z=i
 · subst e
   rw[aX]
   refine⟨by rw[List.length_set];exact(h z E).1,λj O=>?_⟩
   rw[lE (by rw[(h z E).1];exact hk)]
   by_cases e2:j=k
   · subst e2;rw[if_pos Z,if_pos U]
   · rw[if_neg e2,(h z E).2 j O]
     by_cases e3:j<k
     · rw[if_pos U,if_pos U]
     · rw[if_neg U,if_neg U]
 · rw[bc _ _ e]
   refine⟨(h z E).1,λj O=>?_⟩
   rw[(h z E).2 j O]
   by_cases e3:z<i
   · rw[if_pos U,if_pos U]
   · rw[if_neg U,if_neg U]
def sj.next (h:sj m V V' i k ac)(hk:k=m):sj m V V' (i+1) 0 ac:=λz E=>⟨(h z E).1,λj O=>by
 rw[(h z E).2 j O]
 by_cases e:z<i+1
 · rw[if_pos U,if_pos U]
 · rw[if_neg U,if_neg U]⟩
def sj.done (h:sj m V V' i k ac)(hi:i=m)(hl:∀z,z<m->(V' z).length=m):∀z,z<m->ac z=V' z:=λz E=>
 wS (by rw[(h z E).1,hl z E]) λj O=>by rw[(h z E).2 j (by have:=(h z E).1;omega),if_pos U]
end
section
variable {lo hi m:Nat}{w:World}{A:Option Addr}{C:Nat}{Y:Option Addr}{CY:Nat}{B:Option Addr}{CB:Nat}{H G:Nat->Value}{L V V':Rows}{ys:List R}
def fq.congrV (e:∀z,z<m->V z=V' z)(h:fq lo hi w A C Y CY B CB m H G L V ys):fq lo hi w A C Y CY B CB m H G L V' ys:=
 ⟨h.yl,h.oM,h.uM,h.wM,h.oY,h.uY,h.oV,h.uV,h.wV.congr e,h.nMY,h.nMV,h.nVY,h.nMH,h.nMG,h.nVH,h.nVG,h.nYH,h.nYG,h.nHG⟩
end
def Ye {A B:Option Addr}{C D n lo lo2:Nat}{H G:Nat->Value}{L:Rows}{w:World}(hM:Mt w lo A n H L)(hN:Mt w lo2 B n G L)(hB:Bd n L):CL 17 #[.slice A n C,.slice B n D] w (aH w λv w'=>v=.bool true):=Hk hM hN hB
def ZO (lo:Nat)(w:World)(v:Value)(k:Nat)(xs:List R)(C:Rows)(chi:R)(fr:Int):Prop:=∃A cp B D H mid,v=.agg #[.slice A k cp,.slice B k D,S chi.1,S chi.2,.int .i64 fr]/\Rw w mid A (ag xs)/\lo<=mid/\mid<=w.heap.size/\vZ lo mid w B D k H C
def Yd.x {lo:Nat}{w:World}{v:Value}{k:Nat}{xs:List R}{C:Rows}{chi:R}{fr:Int}(hl:xs.length=k)(h:Yd lo w v k xs C chi fr):ZO lo w v k xs C chi fr:=by
 subst hl;obtain⟨A,E,B,D,H,A0,e,_,h2,h3,h4,O⟩:=h;exact⟨A,E,B,D,H,A0,e,h2,h3,h4,O⟩
end Go.Proofs.YtlmihmlnpjkblaaGreatDoor
