/- Part of the proof of a statement about an adjustment. -/
import Derived.Test.YtlmihmlnpjkblaaGreatDoorEngJToEngNG
set_option linter.all false
namespace Go.Proofs.YtlmihmlnpjkblaaGreatDoor
open Go Go.Eng Go.RowKit Tryz
variable {xs:Array Operand}{ats:Array TypeId}{cs:Array Value}{X q:Bool}{f:FuncId}{l:List (Nat×Nat)}{vs lb:List Value}{b B n M k off j s d k' el size bytes:Nat}{sel:Nat->Bool}{e e1 e':Nat->Value}{p G G':Prop}{t tb:TypeId}{u v1 v2 v3 v4 v:Value}{K:Value->World->Prop}{w w' w0:World}
def ep (h:p:=by assumption):p:=h
def U (h:p:=by omega):p:=h
def dc (h:p:=by decide):p:=h
def xt {a b c:World}(h:aN a b)(k:aN b c):aN a c:=aN.trans h k
def be (k:aN w w')(h:ar w b t cs):ar w' b t cs:=ad1 k h
def pb {c:Nat}(k:dP w w' b)(h:ar w c t cs)(hne:c≠b:=by omega):ar w' c t cs:=ab2 k hne h
def bA (k:dP w w' b)(h:Below B w0 w)(hb:B<=b:=by omega):Below B w0 w':=ad5 k h hb
def bz (h:Below n w w'):w.heap.size<=w'.heap.size:=Below.size h
def ij (k:dP w w' b):w'.heap.size=w.heap.size:=dP.size k
def bt (h:ar w b t cs):b<w.heap.size:=ar.lt h
section
variable {a:World}{p:Nat}{b1 b2 b3 b4 b5:Nat}{t1 t2 t3 t4 t5:TypeId}{c1 c2 c3 c4 c5:Array Value}
def bw (k:aN w w')(h1:ar w b1 t1 c1)(E:aN a w):ar w' b1 t1 c1/\aN a w':=⟨be k h1,xt E k⟩
def kC (k:dP w w' p)(h1:ar w b1 t1 c1)(E:Below B a w)(n1:b1≠p:=by omega)(hb:B<=p:=by omega):ar w' b1 t1 c1/\Below B a w'/\w'.heap.size=w.heap.size:=⟨ab2 k n1 h1,ad5 k E hb,dP.size k⟩
def cD (k:aN w w')(h1:ar w b1 t1 c1)(h2:ar w b2 t2 c2)(E:aN a w):ar w' b1 t1 c1/\ar w' b2 t2 c2/\aN a w':=⟨be k h1,be k h2,xt E k⟩
def gu (k:aN w w')(h1:ar w b1 t1 c1)(h2:ar w b2 t2 c2):ar w' b1 t1 c1/\ar w' b2 t2 c2:=⟨be k h1,be k h2⟩
def tK (k:dP w w' p)(h1:ar w b1 t1 c1)(h2:ar w b2 t2 c2)(E:Below B a w)(n1:b1≠p:=by omega)(n2:b2≠p:=by omega)(hb:B<=p:=by omega):ar w' b1 t1 c1/\ar w' b2 t2 c2/\Below B a w'/\w'.heap.size=w.heap.size:=⟨ab2 k n1 h1,ab2 k n2 h2,ad5 k E hb,dP.size k⟩
def lw (k:dP w w' p)(h1:ar w b1 t1 c1)(h2:ar w b2 t2 c2)(n1:b1≠p:=by omega)(n2:b2≠p:=by omega):ar w' b1 t1 c1/\ar w' b2 t2 c2:=⟨ab2 k n1 h1,ab2 k n2 h2⟩
def fE (k:aN w w')(h1:ar w b1 t1 c1)(h2:ar w b2 t2 c2)(h3:ar w b3 t3 c3)(E:aN a w):ar w' b1 t1 c1/\ar w' b2 t2 c2/\ar w' b3 t3 c3/\aN a w':=⟨be k h1,be k h2,be k h3,xt E k⟩
def qh (k:aN w w')(h1:ar w b1 t1 c1)(h2:ar w b2 t2 c2)(h3:ar w b3 t3 c3):ar w' b1 t1 c1/\ar w' b2 t2 c2/\ar w' b3 t3 c3:=⟨be k h1,be k h2,be k h3⟩
def QR (k:dP w w' p)(h1:ar w b1 t1 c1)(h2:ar w b2 t2 c2)(h3:ar w b3 t3 c3)(E:Below B a w)(n1:b1≠p:=by omega)(n2:b2≠p:=by omega)(n3:b3≠p:=by omega)(hb:B<=p:=by omega):ar w' b1 t1 c1/\ar w' b2 t2 c2/\ar w' b3 t3 c3/\Below B a w'/\w'.heap.size=w.heap.size:=⟨ab2 k n1 h1,ab2 k n2 h2,ab2 k n3 h3,ad5 k E hb,dP.size k⟩
def nW (k:dP w w' p)(h1:ar w b1 t1 c1)(h2:ar w b2 t2 c2)(h3:ar w b3 t3 c3)(n1:b1≠p:=by omega)(n2:b2≠p:=by omega)(n3:b3≠p:=by omega):ar w' b1 t1 c1/\ar w' b2 t2 c2/\ar w' b3 t3 c3:=⟨ab2 k n1 h1,ab2 k n2 h2,ab2 k n3 h3⟩
def ka (k:aN w w')(h1:ar w b1 t1 c1)(h2:ar w b2 t2 c2)(h3:ar w b3 t3 c3)(h4:ar w b4 t4 c4)(E:aN a w):ar w' b1 t1 c1/\ar w' b2 t2 c2/\ar w' b3 t3 c3/\ar w' b4 t4 c4/\aN a w':=⟨be k h1,be k h2,be k h3,be k h4,xt E k⟩
def bf4 (k:aN w w')(h1:ar w b1 t1 c1)(h2:ar w b2 t2 c2)(h3:ar w b3 t3 c3)(h4:ar w b4 t4 c4):ar w' b1 t1 c1/\ar w' b2 t2 c2/\ar w' b3 t3 c3/\ar w' b4 t4 c4:=⟨be k h1,be k h2,be k h3,be k h4⟩
def QS (k:dP w w' p)(h1:ar w b1 t1 c1)(h2:ar w b2 t2 c2)(h3:ar w b3 t3 c3)(h4:ar w b4 t4 c4)(E:Below B a w)(n1:b1≠p:=by omega)(n2:b2≠p:=by omega)(n3:b3≠p:=by omega)(n4:b4≠p:=by omega)(hb:B<=p:=by omega):ar w' b1 t1 c1/\ar w' b2 t2 c2/\ar w' b3 t3 c3/\ar w' b4 t4 c4/\Below B a w'/\w'.heap.size=w.heap.size:=⟨ab2 k n1 h1,ab2 k n2 h2,ab2 k n3 h3,ab2 k n4 h4,ad5 k E hb,dP.size k⟩
def ZZ (k:dP w w' p)(h1:ar w b1 t1 c1)(h2:ar w b2 t2 c2)(h3:ar w b3 t3 c3)(h4:ar w b4 t4 c4)(n1:b1≠p:=by omega)(n2:b2≠p:=by omega)(n3:b3≠p:=by omega)(n4:b4≠p:=by omega):ar w' b1 t1 c1/\ar w' b2 t2 c2/\ar w' b3 t3 c3/\ar w' b4 t4 c4:=⟨ab2 k n1 h1,ab2 k n2 h2,ab2 k n3 h3,ab2 k n4 h4⟩
def Gw (k:aN w w')(h1:ar w b1 t1 c1)(h2:ar w b2 t2 c2)(h3:ar w b3 t3 c3)(h4:ar w b4 t4 c4)(h5:ar w b5 t5 c5)(E:aN a w):ar w' b1 t1 c1/\ar w' b2 t2 c2/\ar w' b3 t3 c3/\ar w' b4 t4 c4/\ar w' b5 t5 c5/\aN a w':=⟨be k h1,be k h2,be k h3,be k h4,be k h5,xt E k⟩
def nX (k:aN w w')(h1:ar w b1 t1 c1)(h2:ar w b2 t2 c2)(h3:ar w b3 t3 c3)(h4:ar w b4 t4 c4)(h5:ar w b5 t5 c5):ar w' b1 t1 c1/\ar w' b2 t2 c2/\ar w' b3 t3 c3/\ar w' b4 t4 c4/\ar w' b5 t5 c5:=⟨be k h1,be k h2,be k h3,be k h4,be k h5⟩
def Vh (k:dP w w' p)(h1:ar w b1 t1 c1)(h2:ar w b2 t2 c2)(h3:ar w b3 t3 c3)(h4:ar w b4 t4 c4)(h5:ar w b5 t5 c5)(E:Below B a w)(n1:b1≠p:=by omega)(n2:b2≠p:=by omega)(n3:b3≠p:=by omega)(n4:b4≠p:=by omega)(n5:b5≠p:=by omega)(hb:B<=p:=by omega):ar w' b1 t1 c1/\ar w' b2 t2 c2/\ar w' b3 t3 c3/\ar w' b4 t4 c4/\ar w' b5 t5 c5/\Below B a w'/\w'.heap.size=w.heap.size:=⟨ab2 k n1 h1,ab2 k n2 h2,ab2 k n3 h3,ab2 k n4 h4,ab2 k n5 h5,ad5 k E hb,dP.size k⟩
def zc (k:dP w w' p)(h1:ar w b1 t1 c1)(h2:ar w b2 t2 c2)(h3:ar w b3 t3 c3)(h4:ar w b4 t4 c4)(h5:ar w b5 t5 c5)(n1:b1≠p:=by omega)(n2:b2≠p:=by omega)(n3:b3≠p:=by omega)(n4:b4≠p:=by omega)(n5:b5≠p:=by omega):ar w' b1 t1 c1/\ar w' b2 t2 c2/\ar w' b3 t3 c3/\ar w' b4 t4 c4/\ar w' b5 t5 c5:=⟨ab2 k n1 h1,ab2 k n2 h2,ab2 k n3 h3,ab2 k n4 h4,ab2 k n5 h5⟩
end
abbrev pT (b:Nat):Value:=.pointer (some ⟨b,0,none⟩)
abbrev CL:=Calls prog
section draws
variable {P:Program}{r:Option Nat}{N:Nat}{e0:Nat->Value}{ds:List Deferred}{Q:Exit->Act->World->Prop}{l:List Oper}{Φ:List Ph}{R:World->World->Prop}{k6:(Nat->Bool)->(Nat->Value)->World->Prop}
def ss (Q:Exit->Act->World->Prop)(r:Option Nat)(n:Nat)(P:Program)(N:Nat)(ds:List Deferred)(l:List Oper)(M:Nat)(R:World->World->Prop)(k6:(Nat->Bool)->(Nat->Value)->World->Prop)(e0:Nat->Value)(w0:World)(Fin:List Ph->Prop):Nat->List Ph->List Oper->Prop
 |_,acc,[]=>Fin acc.reverse
 |i,acc,o::os=>∃φ,(zI R φ/\∀(e:Nat->Value) (w:World) (ls:Nat->Bool),R w0 w->k6 ls e w->(∀j k,cF l j k=true->ls j=true->ls k=true)->ls i=false->(∀k,cF l i k=true->ls k=true)->(∀j d,ci o j=true->da l j=some d->tH acc.reverse j (e d) w)->
  wpListIn (Fw r) n P l.toArray (I1 Q N ds R k6 w ls i φ o e (fr l M acc.reverse (ci o) e e0)) [o] (act N (fr l M acc.reverse (ci o) e e0) ds) w)/\ss Q r n P N ds l M R k6 e0 w0 Fin (i+1) (φ::acc) os
def Es:∀(Φ Ψ:List Ph) (j:Nat) (x:Value),j<Φ.length->Wk (Φ++Ψ) j x=Wk Φ j x
 |[],_,_,_,h=>by simp at h
 |_::_,_,0,_,_=>rfl
 |_::Φ,Ψ,j+1,x,h=>Es Φ Ψ j x ka5
def Et:∀(Φ Ψ:List Ph) (j:Nat) (x:Value) (w:World),j<Φ.length->tH (Φ++Ψ) j x w=tH Φ j x w
 |[],_,_,_,_,h=>by simp at h
 |_::_,_,0,_,_,_=>rfl
 |_::Φ,Ψ,j+1,x,w,h=>Et Φ Ψ j x w ka5
def S5 {Ψ:List Ph}(h:∀j,sel j=true->j<Φ.length):fr l M (Φ++Ψ) sel e e0=fr l M Φ sel e e0:=by
 funext t
 unfold fr
 split
 · rfl
 · split
   · rename_i hq;exact Es _ _ _ _ (h _ hq)
   · rfl
theorem xJ {Fin:List Ph->Prop}:∀(os:List Oper) (i:Nat) (acc:List Ph),acc.length=i->(∀k o,os[k]?=some o->∀j,ci o j=true->j<i+k)->ss Q r n P N ds l M R k6 e0 w0 Fin i acc os->
 ∃φs,Yv Q r n P N ds l M (acc.reverse++φs) R k6 e0 w0 i os φs/\Fin (acc.reverse++φs)
 |[],i,acc,_,_,h=>⟨[],trivial,by simpa[ss]using h⟩
 | o::os,i,acc,hl,hp,⟨φ,⟨h1,h2⟩,h3⟩=>by
   obtain⟨φs,h4,h5⟩:=xJ os (i+1) (φ::acc) (by simp[hl]) (λk o' ho j E=>by have:=hp (k+1) o' (by simpa using ho) j E;omega) h3
   rw[List.reverse_cons,List.append_assoc]at h4 h5
   have H:∀j,ci o j=true->j<acc.reverse.length:=λj E=>by have:=hp 0 o rfl j E;simp;omega
   refine⟨φ::φs,⟨⟨h1,λe w ls a1 A1 A0 W O A2=>?_⟩,h4⟩,h5⟩
   rw[S5 H]
   exact h2 e w ls a1 A1 A0 W O (λj d E hd=>by have:=A2 j d E hd;rwa [Et _ _ _ _ _ (H j E)]at this)
def Eu {l:List Oper}(hwf:M3 l=true):∀k o,(l.take M)[k]?=some o->∀j,ci o j=true->j<0+k:=by
 intro i o ho j H
 have E:l[i]?=some o:=by
  rw[List.getElem?_take]at ho
  split at ho
  · exact ho
  · cases ho
 obtain⟨W,O,hb⟩:=List.any_eq_true.1 H
 simp only[Bool.and_eq_true]at hb
 have A0:=qb4 hb.2
 have h1:=List.all_eq_true.1 hwf i (List.mem_range.2 (List.getElem?_eq_some_iff.1 E).1)
 rw[E]at h1
 have h2:=List.all_eq_true.1 h1 W (by simpa using O)
 simp only[hb.1,Bool.not_true,Bool.false_or]at h2
 rw[Nat.blt_eq]at h2
 omega
abbrev S6 (w w':World):Prop:=w.heap.size<=w'.heap.size/\aN w w'
def Vi (h:aN w w'):S6 w w':=⟨Below.size h,h⟩
def All (l:List Oper)(M:Nat):List Ph->(Nat->Value)->World->Prop:=λΦ e w=>∀j d,Nat.blt j M=true->da l j=some d->tH Φ j (e d) w
def bP {id:Nat}(M:Nat)(h:ss Q r n prog N ds l M aN (λ_ _ _=>True) e0 w0 (λΦ=>∀e w,S6 w0 w->All l M Φ e w->wpListIn (Fw r) n prog l.toArray Q (l.drop M) (act N (fr l M Φ (λj=>Nat.blt j M) e e0) ds) w) 0 [] (l.take M))(hwf:M3 l=true:=by kernel_rfl)(hsh:iv l M=true:=by kernel_rfl)(hds:H9 l M=true:=by kernel_rfl):(Code.region id l.toArray true).wpIn (Fw r) n prog Q (act N e0 ds) w0:=by
 obtain⟨Φ,h1,h2⟩:=xJ _ 0 [] Z (Eu hwf) h
 exact QM (Φ:=Φ) li (ac3 _) (λ_ _ _=>aN.trans) trivial hwf hsh hds h1 (λe w ls a1 _ _ E=>h2 e w (Vi a1) E)
def xK {id:Nat}(M:Nat)(k6:(Nat->Bool)->(Nat->Value)->World->Prop)(hJ:k6 (λ_=>false) e0 w0.drew)(h:ss Q r n prog N ds l M (λ_ _=>True) k6 e0 w0 (λΦ=>∀e w ls,(∀j,Nat.blt j M=true->ls j=true)->k6 ls e w->wpListIn (Fw r) n prog l.toArray Q (l.drop M) (act N (fr l M Φ (λj=>Nat.blt j M) e e0) ds) w) 0 [] (l.take M))(hwf:M3 l=true:=by kernel_rfl)(hsh:iv l M=true:=by kernel_rfl)(hds:H9 l M=true:=by kernel_rfl):(Code.region id l.toArray true).wpIn (Fw r) n prog Q (act N e0 ds) w0:=by
 obtain⟨Φ,h1,h2⟩:=xJ _ 0 [] Z (Eu hwf) h
 exact QM (Φ:=Φ) li trivial (λ_ _ _ _ _=>trivial) hJ hwf hsh hds h1 (λe w ls _ E a1 _=>h2 e w ls a1 E)
end draws
def nB (P:Program)(t:TypeId)(k off:Nat):Prop:=∃fs f m,P.underlying t=some (.struct fs)/\fs[k]?=some f/\f.offset=off/\(P.info? f.type).map (·.size)=some (m+1)
def c8 {P:Program}{fs:Array Field}{f:Field}{m:Nat}(hu:P.underlying t=some (.struct fs))(hf:fs[k]?=some f)(ho:f.offset=off)(hs:(P.info? f.type).map (·.size)=some (m+1)):nB P t k off:=⟨fs,f,m,hu,hf,ho,hs⟩
def S7:nB prog 161 0 0:=c8 underlying161 Z Z Yt
def S8:nB prog 161 1 1:=c8 underlying161 Z Z mj
def Ta:nB prog 75 0 0:=c8 underlying75 Z Z Yt
def Wm:nB prog 33 0 0:=c8 underlying33 Z Z Vg
def Wn:nB prog 33 1 1:=c8 underlying33 Z Z Vg
def Wp:nB prog 103 0 0:=c8 underlying103 Z Z RV
def Wq:nB prog 103 1 1:=c8 underlying103 Z Z iS
def Ws:nB prog 103 2 2:=c8 underlying103 Z Z BU
def Wu:nB prog 103 3 3:=c8 underlying103 Z Z Yt
def Ny:nB prog 144 0 0:=c8 underlying144 Z Z bX
def Nz:nB prog 144 1 2:=c8 underlying144 Z Z bX
def NA:nB prog 187 0 0:=c8 underlying187 Z Z bX
def NB:nB prog 187 1 2:=c8 underlying187 Z Z bX
def NC:nB prog 187 2 4:=c8 underlying187 Z Z bX
def ND:nB prog 187 3 6:=c8 underlying187 Z Z bX
def NE:nB prog 187 4 8:=c8 underlying187 Z Z Ia
def NF:nB prog 189 0 0:=c8 underlying189 Z Z ji
def NG:nB prog 189 1 1:=c8 underlying189 Z Z Vg
def NH:nB prog 191 0 0:=c8 underlying191 Z Z Vg
def NI:nB prog 191 1 1:=c8 underlying191 Z Z Vg
def NJ:nB prog 30 0 0:=c8 underlying30 Z Z zi
def NK:nB prog 30 1 1:=c8 underlying30 Z Z iS
def NL:nB prog 30 2 2:=c8 underlying30 Z Z zi
def NM:nB prog 82 0 0:=c8 underlying82 Z Z bm
def NN:nB prog 86 0 0:=c8 underlying86 Z Z bX
def NO:nB prog 86 1 2:=c8 underlying86 Z Z ji
def NP:nB prog 40 0 0:=c8 underlying40 Z Z iS
def NQ:nB prog 40 1 1:=c8 underlying40 Z Z zi
def NR:nB prog 40 2 2:=c8 underlying40 Z Z bX
def NS:nB prog 40 3 4:=c8 underlying40 Z Z ji
def I4 (P:Program)(t el:TypeId)(z:Value)(size bytes:Nat):Prop:=P.underlying t=some (.slice el)/\gw P el z size bytes/\z.cells.size=size/\0<size
def Tc:I4 prog 27 28 (.slice none 0 0) 1 24:=⟨underlying27,jK,rfl,by decide⟩
def Td:I4 prog 101 28 (.slice none 0 0) 1 24:=⟨underlying101,jK,rfl,by decide⟩
def CJ:I4 prog 109 28 (.slice none 0 0) 1 24:=⟨underlying109,jK,rfl,by decide⟩
def CK:I4 prog 278 144 (.agg #[S [],S [],S [],S []]) 4 64:=⟨underlying278,k9,rfl,by decide⟩
def Te:I4 prog 28 33 (.agg #[S [],S []]) 2 32:=⟨underlying28,aZ,rfl,by decide⟩
def Tf:I4 prog 22 3 (.int .i64 0) 1 8:=⟨underlying22,lf,rfl,by decide⟩
def I5:I4 prog 159 3 (.int .i64 0) 1 8:=⟨underlying159,lf,rfl,by decide⟩
def I6:I4 prog 206 5 (.int .u8 0) 1 1:=⟨underlying206,YE,rfl,by decide⟩
def M4 (P:Program)(t:TypeId)(cs:Array Value):Prop:=∃(fs:Array Field) (z:Value) (size bytes:Nat) (pl:List (Nat×Nat)),P.underlying t=some (.struct fs)/\gw P t z size bytes/\fs.toList.map (λf=>(f.offset,(P.info? f.type).map (·.size)))=pl.map (λp:Nat×Nat=>(p.1,some p.2))/\Instr.fill (pl.toArray[·]?) z.cells []=some cs
def Y5:M4 prog 33 #[S [],S []]:=⟨_,_,_,_,[(0,1),(1,1)],underlying33,aZ,by kernel_rfl,by kernel_rfl⟩
def Y6:M4 prog 106 #[]:=⟨_,_,_,_,[],underlying106,Vw,by kernel_rfl,by kernel_rfl⟩
def Tg:M4 prog 144 #[S [],S [],S [],S []]:=⟨_,_,_,_,[(0,2),(2,2)],underlying144,k9,by kernel_rfl,by kernel_rfl⟩
def Ti:M4 prog 30 #[.slice none 0 0,.slice none 0 0,.slice none 0 0]:=⟨_,_,_,_,[(0,1),(1,1),(2,1)],underlying30,dX,by kernel_rfl,by kernel_rfl⟩
def Tj:M4 prog 82 #[.slice none 0 0,.slice none 0 0,.slice none 0 0]:=⟨_,_,_,_,[(0,3)],underlying82,oQ,by kernel_rfl,by kernel_rfl⟩
def Tk:M4 prog 86 #[S [],S [],.int .i64 0]:=⟨_,_,_,_,[(0,2),(2,1)],underlying86,sn,by kernel_rfl,by kernel_rfl⟩
def Tl:M4 prog 40 #[.slice none 0 0,.slice none 0 0,S [],S [],.int .i64 0]:=⟨_,_,_,_,[(0,1),(1,1),(2,2),(4,1)],underlying40,dw,by kernel_rfl,by kernel_rfl⟩
def Wv:M4 prog 161 #[.bool false,.slice none 0 0]:=⟨_,_,_,_,[(0,1),(1,1)],underlying161,bH,by kernel_rfl,by kernel_rfl⟩
def Ww:M4 prog 75 #[.bool false]:=⟨_,_,_,_,[(0,1)],underlying75,BR,by kernel_rfl,by kernel_rfl⟩
def Wx (P:Program)(t:TypeId):Prop:=∃fs z size bytes,P.underlying t=some (.struct fs)/\gw P t z size bytes/\fs.toList.map (λf=>(f.offset,(P.info? f.type).map (·.size)))=[(0,some 1),(1,some 1)]/\∀u v:Value,u.cells=#[u]->v.cells=#[v]->Instr.fill ([(0,1),(1,1)].toArray[·]?) z.cells [(0,u),(1,v)]=some #[u,v]
def Y7:Wx prog 33:=⟨_,_,_,_,underlying33,aZ,by kernel_rfl,λu v hu hv=>by show Instr.fill _ #[S [],S []] _=_;simp[Instr.fill,hu,hv]⟩
def Tm:Wx prog 191:=⟨_,_,_,_,underlying191,bQ,by kernel_rfl,λu v hu hv=>by show Instr.fill _ #[S [],S []] _=_;simp[Instr.fill,hu,hv]⟩
def Tn:Wx prog 189:=⟨_,_,_,_,underlying189,oP,by kernel_rfl,λu v hu hv=>by show Instr.fill _ #[.int .i64 0,S []] _=_;simp[Instr.fill,hu,hv]⟩
def Wy:Wx prog 161:=⟨_,_,_,_,underlying161,bH,by kernel_rfl,λu v hu hv=>by show Instr.fill _ #[.bool false,.slice none 0 0] _=_;simp[Instr.fill,hu,hv]⟩
section ops
variable {P:Program}{r:Option Nat}{N:Nat}{ds:List Deferred}{Q:Exit->Act->World->Prop}{K:Act->World->Prop}{a:Act}
variable {ops:Array Oper}{rest:List Oper}{dst:Option Tmp}{op:Op}{ty:Nat}{pos:String}{af:Array Edge}{id:Nat}{c c1 c2:Code}{x y:Operand}
def Wz {o:Nat}(hk:wpListIn (Fw r) n prog ops Q rest (act N (upd e d (.pointer (some ⟨b,o+off,none⟩))) ds) w)(hx:ev N e x=.pointer (some ⟨b,o,none⟩):=by exact gU)(hf:nB prog t k off:=by with_reducible first|exact Wp|exact Wq|exact Ws|exact Wu|exact NJ|exact NK|exact NL|exact NM|exact NN|exact NO|exact NP|exact NQ|exact NR|exact NS|exact NH|exact NI|exact NG|exact Wm|exact Wn|exact Ny|exact Nz|exact NF|exact NA|exact NB|exact NC|exact ND|exact NE|exact S7|exact S8|exact Ta):
 wpListIn (Fw r) n prog ops Q (⟨some d,.fieldAddr t x k,ty,pos,af,none⟩::rest) (act N e ds) w:=by
 obtain⟨_,f,m,h1,h2,h3,h4⟩:=hf
 exact aa (iQ h1 h2 h3 h4 Z hx hk)
def WA (hk:wpListIn (Fw r) n prog ops Q rest (act N (upd e d (.agg cs)) ds) w)(h:M4 prog t cs:=by with_reducible first|exact Y5|exact Y6|exact Ti|exact Tl|exact Tj|exact Tk|exact Tg|exact Wv|exact Ww):wpListIn (Fw r) n prog ops Q (⟨some d,.build t #[],ty,pos,af,none⟩::rest) (act N e ds) w:=by
 obtain⟨fs,z,s,b,pl,h1,h2,h3,h4⟩:=h
 exact aa (b7 h1 h2 h3 Z h4 hk)
def WB (hk:wpListIn (Fw r) n prog ops Q rest (act N (upd e d (.agg #[u,v])) ds) w)(h:Wx prog t:=by with_reducible first|exact Y7|exact Tm|exact Tn|exact Wy)(hx:ev N e x=u:=by exact Gq)(hy:ev N e y=v:=by exact Gq)(hu:u.cells=#[u]:=by exact Z)(hv:v.cells=#[v]:=by exact Z):
 wpListIn (Fw r) n prog ops Q (⟨some d,.build t #[(0,x),(1,y)],ty,pos,af,none⟩::rest) (act N e ds) w:=by
 obtain⟨_,z,s,b,h1,h2,h3,h4⟩:=h
 exact aa (b7 (pl:=[(0,1),(1,1)]) h1 h2 h3 (by rw[<-hx,<-hy];rfl) (h4 u v hu hv) hk)
def Z0 {t:Nat}(h:ar w' b t cs:=by with_reducible assumption):ar w' b t cs:=h
def bk1 {t:Nat}(h:ar w' b t cs:=by
 first
 |with_reducible assumption
 |exact ad1 WD Z0
 |exact ab2 WD U Z0):ar w' b t cs:=h
def bk2 {t:Nat}(h:ar w' b t cs:=by
 first
 |with_reducible assumption
 |exact ad1 WD bk1
 |exact ab2 WD U bk1):ar w' b t cs:=h
def Z1 {t:Nat}(h:ar w' b t cs:=by
 first
 |with_reducible assumption
 |exact ad1 WD bk2
 |exact ab2 WD U bk2):ar w' b t cs:=h
def Z2 {t:Nat}(h:ar w' b t cs:=by
 first
 |with_reducible assumption
 |exact ad1 WD Z1
 |exact ab2 WD U Z1):ar w' b t cs:=h
def Z3 {t:Nat}(h:ar w' b t cs:=by
 first
 |with_reducible assumption
 |exact ad1 WD Z2
 |exact ab2 WD U Z2):ar w' b t cs:=h
def To {t:Nat}(h:ar w' b t cs:=by
 first
 |with_reducible assumption
 |exact ad1 WD Z3
 |exact ab2 WD U Z3):ar w' b t cs:=h
def WC {o:Nat}{cs:List Value}(hk:wpListIn (Fw r) n P ops Q rest (act N (upd e d v) ds) w)(hx:ev N e x=.pointer (some ⟨b,o,none⟩):=by exact gU)(hb:ar w b tb cs.toArray:=by exact To)(hv:nth cs o=some v:=by exact Z)(hu:lv P t=some false:=by decide +kernel):
 wpListIn (Fw r) n P ops Q (⟨some d,.load t x,ty,pos,af,none⟩::rest) (act N e ds) w:=IY hk hx hb hv hu
def QT {o:Nat}{cs:List Value}(hk:wpListIn (Fw r) n P ops Q rest (act N (upd e d (.agg #[v1,v2])) ds) w)(hx:ev N e x=.pointer (some ⟨b,o,none⟩):=by exact gU)(hb:ar w b tb cs.toArray:=by exact To)(hv:xG cs o=some (v1,v2):=by exact Z)(hu:lv P t=some true:=by decide +kernel)(hi:(P.info? t).map (·.size)=some 2:=by decide +kernel):
 wpListIn (Fw r) n P ops Q (⟨some d,.load t x,ty,pos,af,none⟩::rest) (act N e ds) w:=En hk hx hb hv hu hi
def QU (hk:wpListIn (Fw r) n P ops Q rest (act N (upd e d (.agg #[v1,v2,v3,v4])) ds) w)(hx:ev N e x=.pointer (some ⟨b,0,none⟩):=by exact gU)(hb:ar w b tb #[v1,v2,v3,v4]:=by exact To)(hu:lv P t=some true:=by decide +kernel)(hi:(P.info? t).map (·.size)=some 4:=by decide +kernel):
 wpListIn (Fw r) n P ops Q (⟨some d,.load t x,ty,pos,af,none⟩::rest) (act N e ds) w:=by
 obtain⟨D,h1,h2⟩:=iX hu
 exact aa (aM (cs:=[v1,v2,v3,v4]) h1 h2 hi hx (aa1 hb (i:=0) Z) hk)
def zo (h:X=q:=by
 first
 | with_reducible first
   |exact Z
   |assumption
   |exact Gu ep
   |exact Gv ep
   |exact Y1 (by first|exact rfl|assumption|exact Gv ep)
   |exact Y2 (by first|exact rfl|assumption|exact Gu ep)
 |decide +kernel
 | with_reducible first
   |exact Gu U
   |exact Gv U
   |exact Y1 (Gv U)
   |exact Y2 (Gu U)):X=q:=h
def WE (h:c1.wpIn (Fw r) n P Q (act N e ds) w)(hx:ev N e x=.bool q:=by exact gU)(hq:q=true:=by exact zo):(Code.cond x c1 c2).wpIn (Fw r) n P Q (act N e ds) w:=mh (by rw[hx,hq]) h
def WF (h:c2.wpIn (Fw r) n P Q (act N e ds) w)(hx:ev N e x=.bool q:=by exact gU)(hq:q=false:=by exact zo):(Code.cond x c1 c2).wpIn (Fw r) n P Q (act N e ds) w:=qp (by rw[hx,hq]) h
def I7 {l:List Oper}{b:Bool}(hk:wpListIn (Fw r) n P l.toArray Q (⟨dst,op,ty,pos,af,none⟩::rest) (act N e ds) w)(hj:da l j=some s:=by exact Z)(hv:ev N e (.tmp s)=.bool b:=by exact gU)(hb:b=q:=by exact zo):wpListIn (Fw r) n P l.toArray Q (⟨dst,op,ty,pos,af,some (j,q)⟩::rest) (act N e ds) w:=mg hj (by rw[hv,hb]) hk
def QW {l:List Oper}{b:Bool}(hk:wpListIn (Fw r) n P l.toArray Q rest (act N (upd e d undef) ds) w)(hj:da l j=some s:=by exact Z)(hv:ev N e (.tmp s)=.bool b:=by exact gU)(hb:b= !q:=by first|with_reducible assumption|(show _=true;exact zo)|(show _=false;exact zo)):wpListIn (Fw r) n P l.toArray Q (⟨some d,op,ty,pos,af,some (j,q)⟩::rest) (act N e ds) w:=fF hj (by rw[hv,hb]) hk
def QX {l:List Oper}(hk:wpListIn (Fw r) n P l.toArray Q rest (act N (upd e d undef) ds) w)(hj:da l j=some s:=by exact Z)(hv:ev N e (.tmp s)=undef:=by exact Z)(hs:Nat.blt s N=true:=by exact Z):wpListIn (Fw r) n P l.toArray Q (⟨some d,op,ty,pos,af,some (j,q)⟩::rest) (act N e ds) w:=Wh hj hv hs hk
def Ev {c a b:Operand}{t:Bool}(hk:wpListIn (Fw r) n P ops Q rest (act N (upd e d v) ds) w)(hc:ev N e c=.bool t:=by exact gU)(ht:t=true:=by exact zo)(hv:ev N e a=v:=by exact Gq):
 wpListIn (Fw r) n P ops Q (⟨some d,.pick c a b,ty,pos,af,none⟩::rest) (act N e ds) w:=Eo hk hc ht hv
def Ew {c a b:Operand}{t:Bool}(hk:wpListIn (Fw r) n P ops Q rest (act N (upd e d v) ds) w)(hc:ev N e c=.bool t:=by exact gU)(ht:t=false:=by exact zo)(hv:ev N e b=v:=by exact Gq):
 wpListIn (Fw r) n P ops Q (⟨some d,.pick c a b,ty,pos,af,none⟩::rest) (act N e ds) w:=Ep hk hc ht hv
end ops
section gates
variable {P:Program}{r:Option Nat}{N:Nat}{ds:List Deferred}{Q:Exit->Act->World->Prop}{ops:Array Oper}{o:Oper}{rest:List Oper}{dst:Option Tmp}{op:Op}{ty:Nat}{pos:String}{af:Array Edge}{x y z:Operand}{a:Act}{u:TypeId}{c1 c2:Code}
abbrev Wo (r:Option Nat)(n:Nat)(P:Program)(ops:Array Oper)(Q:Exit->Act->World->Prop)(o:Oper)(rest:List Oper)(a:Act)(w:World):Prop:=wpListIn (Fw r) n P ops Q (o::rest) a w
def WG (h:Wo r n P ops Q o rest a w):Wo r n P ops Q o rest a w:=h
def WH (h:Wo r n P ops Q ⟨dst,op,ty,pos,af,none⟩ rest a w):Wo r n P ops Q ⟨dst,op,ty,pos,af,none⟩ rest a w:=h
def WI {g:Nat×Bool}(h:Wo r n P ops Q ⟨dst,op,ty,pos,af,some g⟩ rest a w):Wo r n P ops Q ⟨dst,op,ty,pos,af,some g⟩ rest a w:=h
def WJ (h:Wo r n P ops Q ⟨dst,.move x,ty,pos,af,none⟩ rest a w):Wo r n P ops Q ⟨dst,.move x,ty,pos,af,none⟩ rest a w:=h
def WK (h:Wo r n P ops Q ⟨dst,.assign x,ty,pos,af,none⟩ rest a w):Wo r n P ops Q ⟨dst,.assign x,ty,pos,af,none⟩ rest a w:=h
def WL (h:Wo r n P ops Q ⟨dst,.load t x,ty,pos,af,none⟩ rest a w):Wo r n P ops Q ⟨dst,.load t x,ty,pos,af,none⟩ rest a w:=h
def WM {b:BinOp}(h:Wo r n P ops Q ⟨dst,.binOp b t x y u,ty,pos,af,none⟩ rest a w):Wo r n P ops Q ⟨dst,.binOp b t x y u,ty,pos,af,none⟩ rest a w:=h
def WN {b:UnOp}(h:Wo r n P ops Q ⟨dst,.unOp b t x,ty,pos,af,none⟩ rest a w):Wo r n P ops Q ⟨dst,.unOp b t x,ty,pos,af,none⟩ rest a w:=h
def WO (h:Wo r n P ops Q ⟨dst,.fieldAddr t x k,ty,pos,af,none⟩ rest a w):Wo r n P ops Q ⟨dst,.fieldAddr t x k,ty,pos,af,none⟩ rest a w:=h
def WP (h:Wo r n P ops Q ⟨dst,.extract x k,ty,pos,af,none⟩ rest a w):Wo r n P ops Q ⟨dst,.extract x k,ty,pos,af,none⟩ rest a w:=h
def WQ {c:Call}(h:Wo r n P ops Q ⟨dst,.call c,ty,pos,af,none⟩ rest a w):Wo r n P ops Q ⟨dst,.call c,ty,pos,af,none⟩ rest a w:=h
def WR (h:Wo r n P ops Q ⟨dst,.pick x y z,ty,pos,af,none⟩ rest a w):Wo r n P ops Q ⟨dst,.pick x y z,ty,pos,af,none⟩ rest a w:=h
def WS (h:Wo r n P ops Q ⟨dst,.nilCheck x,ty,pos,af,none⟩ rest a w):Wo r n P ops Q ⟨dst,.nilCheck x,ty,pos,af,none⟩ rest a w:=h
def WT {xs:Array (Nat×Operand)}(h:Wo r n P ops Q ⟨dst,.build t xs,ty,pos,af,none⟩ rest a w):Wo r n P ops Q ⟨dst,.build t xs,ty,pos,af,none⟩ rest a w:=h
def WU (h:(Code.cond x c1 c2).wpIn (Fw r) n P Q a w):(Code.cond x c1 c2).wpIn (Fw r) n P Q a w:=h
end gates
structure Hd (p:Prop):Prop where
 out:p
section irr
attribute [local irreducible] wpListIn Code.wpIn Oper.wpIn Exit.then Exit.inBlock Exit.noGoto
def I (h:G')(k:Hd G'->G:=by
 intro h
 repeat first
  | (with_reducible refine WG ?_
     first
     | (with_reducible refine WH ?_
        first
        | (with_reducible refine WJ ?_
           refine Cv ?_)
        | (with_reducible refine WL ?_
           first
           |refine WC ?_
           |refine QT ?_
           |refine QU ?_
           |refine xH ?_
           |refine tF ?_)
        | (with_reducible refine WM ?_
           first
           |refine lss ?_
           |refine eql ?_
           |refine neq ?_
           |refine leq ?_
           |refine gtr ?_
           |refine geq ?_)
        | (with_reducible refine WO ?_
           refine Wz ?_)
        | (with_reducible refine WK ?_
           refine tE ?_)
        | (with_reducible refine WP ?_
           first
           |refine Cw ?_
           |refine Cx ?_
           |refine Cy ?_
           |refine Cz ?_
           |refine CC ?_
           |refine CE ?_
           |refine CF ?_
           |refine CH ?_
           |refine CI ?_)
        | (with_reducible refine WQ ?_
           refine q_len ?_)
        | (with_reducible refine WN ?_
           refine nt ?_)
        | (with_reducible refine WR ?_
           first
           |refine Ev ?_
           |refine Ew ?_)
        | (with_reducible refine WS ?_
           refine IW ?_)
        | (with_reducible refine WT ?_
           first
           |refine WA ?_
           |refine WB ?_))
     | (with_reducible refine WI ?_
        first
        |refine I7 ?_
        |refine QW ?_
        |refine QX ?_))
  | with_reducible first
    |refine fm ?_
    |refine gm ?_
    |refine ix Z ?_
    |refine iR ?_
    |refine ii ?_
    |refine oO ?_
    |refine jJ ?_
    |refine BN ?_
    |refine H5 ?_
    |refine H6 ?_
    |refine QN ?_
    |refine BO ?_
    |refine RN ?_
    |refine BP ?_
    |refine RQ ?_
    |refine QO ?_
    |refine Ct ?_
    |refine S2 ?_
    |refine QP ?_
    |refine I3 ?_
    |refine QQ ?_
    |refine I2 ?_
    |refine Wl ?_
  |refine gm ?_
  |refine RP Z ?_
  |refine zK (l:=0) Z ?_
  | (with_reducible refine WU ?_
     first
     |refine WE ?_
     |refine WF ?_)
 exact h.out):G:=k ⟨h⟩
def gx (h:G')(k:Hd G'->G:=by
 intro h
 repeat first
  | (with_reducible refine WG ?_
     first
     | (with_reducible refine WH ?_
        first
        | (with_reducible refine WJ ?_
           refine Cv ?_)
        | (with_reducible refine WL ?_
           first
           |refine WC ?_
           |refine QT ?_
           |refine QU ?_
           |refine xH ?_
           |refine tF ?_)
        | (with_reducible refine WM ?_
           first
           |refine lss ?_
           |refine eql ?_
           |refine neq ?_
           |refine leq ?_
           |refine gtr ?_
           |refine geq ?_)
        | (with_reducible refine WO ?_
           refine Wz ?_)
        | (with_reducible refine WK ?_
           refine tE ?_)
        | (with_reducible refine WP ?_
           first
           |refine Cw ?_
           |refine Cx ?_
           |refine Cy ?_
           |refine Cz ?_
           |refine CC ?_
           |refine CE ?_
           |refine CF ?_
           |refine CH ?_
           |refine CI ?_)
        | (with_reducible refine WQ ?_
           refine q_len ?_)
        | (with_reducible refine WN ?_
           refine nt ?_)
        | (with_reducible refine WR ?_
           first
           |refine Ev ?_
           |refine Ew ?_)
        | (with_reducible refine WS ?_
           refine IW ?_)
        | (with_reducible refine WT ?_
           first
           |refine WA ?_
           |refine WB ?_))
     | (with_reducible refine WI ?_
        first
        |refine I7 ?_
        |refine QW ?_
        |refine QX ?_))
  | with_reducible first
    |refine fm ?_
    |refine gm ?_
    |refine ix Z ?_
    |refine oO ?_
    |refine jJ ?_
    |refine BN ?_
    |refine H5 ?_
    |refine H6 ?_
    |refine QN ?_
    |refine BO ?_
    |refine RN ?_
    |refine BP ?_
    |refine RQ ?_
    |refine QO ?_
    |refine Ct ?_
    |refine S2 ?_
    |refine QP ?_
    |refine I3 ?_
    |refine QQ ?_
    |refine I2 ?_
    |refine Wl ?_
  |refine gm ?_
  |refine RP Z ?_
  |refine zK (l:=0) Z ?_
  | (with_reducible refine WU ?_
     first
     |refine WE ?_
     |refine WF ?_)
 exact h.out):G:=k ⟨h⟩
section draws
variable {P:Program}{r:Option Nat}{N:Nat}{e0:Nat->Value}{ds:List Deferred}{Q:Exit->Act->World->Prop}{l:List Oper}{R:World->World->Prop}{k6:(Nat->Bool)->(Nat->Value)->World->Prop}{Fin:List Ph->Prop}{i:Nat}{acc:List Ph}{o:Oper}{os:List Oper}{V:Value}
def Pl (N:Nat)(ds:List Deferred)(dst:Option Tmp)(V:Value)(w:World)(f:Nat->Value):Exit->Act->World->Prop:=λx a' w'=>x=.normal/\a'=(act N f ds).put dst V/\w'=w
def aK {f:Nat->Value}{dst:Option Tmp}(hd:dst=some d:=by exact Z):Pl N ds dst v w f .normal (act N (upd f d v) ds) w:=by subst hd;exact⟨rfl,(ax _ _ _ _ _).symm,rfl⟩
def nC (h:∀(e:Nat->Value) (w:World) (ls:Nat->Bool),R w0 w->k6 ls e w->(∀j k,cF l j k=true->ls j=true->ls k=true)->ls i=false->(∀k,cF l i k=true->ls k=true)->(∀j d,ci o j=true->da l j=some d->tH acc.reverse j (e d) w)->
 wpListIn (Fw r) n P l.toArray (Pl N ds o.dst V w (fr l M acc.reverse (ci o) e e0)) [o] (act N (fr l M acc.reverse (ci o) e e0) ds) w)(ht:ss Q r n P N ds l M R k6 e0 w0 Fin (i+1) (.pv V::acc) os)(hR:∀w,R w w:=by first|exact aa0|exact λ_=>trivial)(hJ:∀ls e w v,k6 ls e w->k6 (eR ls i) (kJ e o.dst v) w:=by exact λ_ _ _ _ h=>h):ss Q r n P N ds l M R k6 e0 w0 Fin i acc (o::os):=
 ⟨.pv V,⟨λ_ _ _ _ h=>h,λe w ls a1 E H W O A0=>kL (h e w ls a1 E H W O A0) (λ_ _ _ ⟨h1,h2,h3⟩=>.inl ⟨h1,V,h2,h3▸hR _,rfl,h3▸hJ _ _ _ _ E⟩)⟩,ht⟩
def dk (h:∀(e:Nat->Value) (w:World) (ls:Nat->Bool),R w0 w->k6 ls e w->(∀k,cF l i k=true->ls k=true)->(∀j d,ci o j=true->da l j=some d->tH acc.reverse j (e d) w)->
 wpListIn (Fw r) n P l.toArray (Pl N ds o.dst V w (fr l M acc.reverse (ci o) e e0)) [o] (act N (fr l M acc.reverse (ci o) e e0) ds) w)(ht:ss Q r n P N ds l M R k6 e0 w0 Fin (i+1) (.pv V::acc) os)(hR:∀w,R w w:=by first|exact aa0|exact λ_=>trivial)(hJ:∀ls e w v,k6 ls e w->k6 (eR ls i) (kJ e o.dst v) w:=by exact λ_ _ _ _ h=>h):ss Q r n P N ds l M R k6 e0 w0 Fin i acc (o::os):=
 nC (λe w ls a1 E _ _ O H=>h e w ls a1 E O H) ht hR hJ
def WW (ht:ss Q r n P N ds l M R k6 e0 w0 Fin (i+1) (.pv V::acc) os)(h:∀(e:Nat->Value) (w:World),R w0 w->wpListIn (Fw r) n P l.toArray (Pl N ds o.dst V w (fr l M acc.reverse (ci o) e e0)) [o] (act N (fr l M acc.reverse (ci o) e e0) ds) w:=by
 intro e w hR
 refine I ?_
 exact aK)(hR:∀w,R w w:=by first|exact aa0|exact λ_=>trivial)(hJ:∀ls e w v,k6 ls e w->k6 (eR ls i) (kJ e o.dst v) w:=by exact λ_ _ _ _ h=>h):ss Q r n P N ds l M R k6 e0 w0 Fin i acc (o::os):=
 dk (λe w _ a1 _ _ _=>h e w a1) ht hR hJ
def Tp (h:Fin acc.reverse):ss Q r n P N ds l M R k6 e0 w0 Fin i acc []:=h
def sf (h:G')(k:Hd G'->G:=by
 intro h
 repeat refine WW ?_
 try refine Tp ?_
 exact h.out):G:=k ⟨h⟩
end draws
end irr
section draws
variable {P:Program}{r:Option Nat}{N:Nat}{e0:Nat->Value}{ds:List Deferred}{Q:Exit->Act->World->Prop}{l:List Oper}{R:World->World->Prop}{k6:(Nat->Bool)->(Nat->Value)->World->Prop}{Fin:List Ph->Prop}{i:Nat}{acc:List Ph}{o:Oper}{os:List Oper}{V:Value}{p:Value->World->Prop}{φ:Ph}
def Sn (Q:Exit->Act->World->Prop)(N:Nat)(ds:List Deferred)(dst:Option Tmp)(f:Nat->Value)(K:Value->World->Prop):Exit->Act->World->Prop:=λx a' w'=>
 (x=.normal/\∃v,a'=(act N f ds).put dst v/\K v w')\/(∃c,x=.panic c/\Q (.panic c) a' w')
def fs {f:Nat->Value}{dst:Option Tmp}(h:K v w)(hd:dst=some d:=by exact Z):Sn Q N ds dst f K .normal (act N (upd f d v) ds) w:=by subst hd;exact .inl ⟨rfl,v,(ax _ _ _ _ _).symm,h⟩
def fs0 {f:Nat->Value}(h:K undef w):Sn Q N ds none f K .normal (act N f ds) w:=.inl ⟨rfl,undef,rfl,h⟩
def aB (h:∀(e:Nat->Value) (w:World),R w0 w->(∀j d,ci o j=true->da l j=some d->tH acc.reverse j (e d) w)->
 wpListIn (Fw r) n P l.toArray (Pl N ds o.dst V w (fr l M acc.reverse (ci o) e e0)) [o] (act N (fr l M acc.reverse (ci o) e e0) ds) w)(ht:ss Q r n P N ds l M R k6 e0 w0 Fin (i+1) (.pv V::acc) os)(hR:∀w,R w w:=by first|exact aa0|exact λ_=>trivial)(hJ:∀ls e w v,k6 ls e w->k6 (eR ls i) (kJ e o.dst v) w:=by exact λ_ _ _ _ h=>h):ss Q r n P N ds l M R k6 e0 w0 Fin i acc (o::os):=
 dk (λe w _ a1 _ _ E=>h e w a1 E) ht hR hJ
def QY (h:∀(e:Nat->Value) (w:World),R w0 w->(∀j d,ci o j=true->da l j=some d->tH acc.reverse j (e d) w)->
 wpListIn (Fw r) n P l.toArray (Sn Q N ds o.dst (fr l M acc.reverse (ci o) e e0) (λv w'=>R w w'/\φ.ok v w')) [o] (act N (fr l M acc.reverse (ci o) e e0) ds) w)(hs:zI R φ)(ht:ss Q r n P N ds l M R (λ_ _ _=>True) e0 w0 Fin (i+1) (φ::acc) os):ss Q r n P N ds l M R (λ_ _ _=>True) e0 w0 Fin i acc (o::os):=
 ⟨φ,⟨hs,λe w ls a1 _ _ _ _ H=>kL (h e w a1 H) (λ_ _ _ E=>E.imp (fun⟨h1,v,h2,h3,h4⟩=>⟨h1,v,h2,h3,h4,trivial⟩) id)⟩,ht⟩
def a7 (h:∀(e:Nat->Value) (w:World),R w0 w->(∀j d,ci o j=true->da l j=some d->tH acc.reverse j (e d) w)->
 wpListIn (Fw r) n P l.toArray (Sn Q N ds o.dst (fr l M acc.reverse (ci o) e e0) (λv w'=>R w w'/\v=V)) [o] (act N (fr l M acc.reverse (ci o) e e0) ds) w)(ht:ss Q r n P N ds l M R (λ_ _ _=>True) e0 w0 Fin (i+1) (.pv V::acc) os):ss Q r n P N ds l M R (λ_ _ _=>True) e0 w0 Fin i acc (o::os):=QY (φ:=.pv V) h (λ_ _ _ _ h=>h) ht
def b8 (p:Value->World->Prop)(h:∀(e:Nat->Value) (w:World),R w0 w->(∀j d,ci o j=true->da l j=some d->tH acc.reverse j (e d) w)->
 wpListIn (Fw r) n P l.toArray (Sn Q N ds o.dst (fr l M acc.reverse (ci o) e e0) (λv w'=>R w w'/\p v w')) [o] (act N (fr l M acc.reverse (ci o) e e0) ds) w)(ht:ss Q r n P N ds l M R (λ_ _ _=>True) e0 w0 Fin (i+1) (.ph p::acc) os)(hs:zI R (.ph p):=by exact λ_ _ _ _ h=>h):ss Q r n P N ds l M R (λ_ _ _=>True) e0 w0 Fin i acc (o::os):=QY (φ:=.ph p) h hs ht
def gE (h:∀(e:Nat->Value) (w:World) (ls:Nat->Bool),k6 ls e w->(∀j k,cF l j k=true->ls j=true->ls k=true)->ls i=false->(∀k,cF l i k=true->ls k=true)->
 wpListIn (Fw r) n P l.toArray (Sn Q N ds o.dst (fr l M acc.reverse (ci o) e e0) (λv w'=>k6 (eR ls i) (kJ e o.dst v) w')) [o] (act N (fr l M acc.reverse (ci o) e e0) ds) w)(ht:ss Q r n P N ds l M (λ_ _=>True) k6 e0 w0 Fin (i+1) (.ph (λ_ _=>True)::acc) os):ss Q r n P N ds l M (λ_ _=>True) k6 e0 w0 Fin i acc (o::os):=
 ⟨.ph λ_ _=>True,⟨λ_ _ _ _ _=>trivial,λe w ls _ H W E A0 _=>kL (h e w ls H W E A0) (λ_ _ _ O=>O.imp (fun⟨h1,v,h2,h3⟩=>⟨h1,v,h2,trivial,trivial,h3⟩) id)⟩,ht⟩
def I8 (h:∀(e:Nat->Value) (w:World) (ls:Nat->Bool),k6 ls e w->(∀j k,cF l j k=true->ls j=true->ls k=true)->ls i=false->(∀k,cF l i k=true->ls k=true)->
 wpListIn (Fw r) n P l.toArray (Sn Q N ds o.dst (fr l M acc.reverse (ci o) e e0) (λv w'=>v=V/\k6 (eR ls i) (kJ e o.dst v) w')) [o] (act N (fr l M acc.reverse (ci o) e e0) ds) w)(ht:ss Q r n P N ds l M (λ_ _=>True) k6 e0 w0 Fin (i+1) (.pv V::acc) os):ss Q r n P N ds l M (λ_ _=>True) k6 e0 w0 Fin i acc (o::os):=
 ⟨.pv V,⟨λ_ _ _ _ h=>h,λe w ls _ W H A0 O _=>kL (h e w ls W H A0 O) (λ_ _ _ E=>E.imp (fun⟨h1,v,h2,h3,h4⟩=>⟨h1,v,h2,trivial,h3,h4⟩) id)⟩,ht⟩
end draws
def nY (l:List (Nat×Nat))(t:Nat):Bool:=l.any λd=>Nat.ble d.1 t&&Nat.ble t d.2
def Tq (hd:nY l d=true)(h:∀t,nY l t=false->e' t=e1 t):∀t,nY l t=false->upd e' d v t=e1 t:=by
 intro t ht
 have:t≠d:=λE=>by subst E;rw[hd]at ht;cases ht
 rw[upd_ne _ _ this];exact h t ht
def WX {m:List (Nat×Nat)}(hs:(m.all λd=>l.any λc=>Nat.ble c.1 d.1&&Nat.ble d.2 c.2)=true)(h:∀t,nY l t=false->e' t=e1 t):∀t,nY l t=false->ov (nY m) e e' t=e1 t:=by
 intro t ht
 have:nY m t=false:=by
  cases hm:nY m t with
  |false=>rfl
  | true=>
    obtain⟨d,hd,h1⟩:=List.any_eq_true.1 hm
    obtain⟨c,hc,h2⟩:=List.any_eq_true.1 (List.all_eq_true.1 hs d hd)
    simp only[Bool.and_eq_true,Nat.ble_eq]at h1 h2
    have:nY l t=true:=List.any_eq_true.2 ⟨c,hc,by simp only[Bool.and_eq_true,Nat.ble_eq];omega⟩
    rw[this]at ht;cases ht
 unfold ov;rw[this];exact h t ht
def CM:∀(os:List Oper) (t j k:Nat) (l:List (Nat×Nat)),(os.all λo=>match o.dst with|some d=>nY l d|none=>true)=true->IZ os t j=some k->nY l t=true
 |[],_,_,_,_,_,h=>by simp[IZ]at h
 | o ::os,t,j,k,l,ha,h=>by
   rw[List.all_cons,Bool.and_eq_true]at ha
   unfold IZ at h
   split at h
   · rename_i d hd
     split at h
     · rename_i hb
       have h1:=ha.1
       rw[hd]at h1
       rw[<-Nat.eq_of_beq_eq_true hb];exact h1
     · exact CM os t (j+1) k l ha.2 h
   · exact CM os t (j+1) k l ha.2 h
def WY {m:List Nat}(hs:(m.all λd=>nY l d)=true)(h:∀t,nY l t=false->e' t=e1 t):∀t,nY l t=false->ov (Gk m) e e' t=e1 t:=by
 intro t ht
 have:Gk m t=false:=by
  cases hm:Gk m t with
  |false=>rfl
  | true=>
    obtain⟨d,hd,h1⟩:=List.any_eq_true.1 hm
    have h2:=List.all_eq_true.1 hs d hd
    rw[Nat.eq_of_beq_eq_true h1]at h2
    rw[ht]at h2;cases h2
 unfold ov;rw[this];exact h t ht
def WZ {ops:List Oper}{Φ:List Ph}(hs:((ops.take M).all λo=>match o.dst with|some d=>nY l d|none=>true)=true)(h:∀t,nY l t=false->e' t=e1 t):
 ∀t,nY l t=false->fr ops M Φ sel e e' t=e1 t:=by
 intro t ht
 unfold fr
 split
 · exact h t ht
 · rename_i j hj
   rw[CM _ _ _ _ _ hs hj]at ht;cases ht
def Tr :∀t,nY l t=false->e t=e t:=λ_ _=>rfl
def same (h:∀t,nY l t=false->e' t=e t:=by
 repeat first
  |with_reducible exact Tr
  |((with_reducible refine Tq ?_ ?_);· exact Z)
  |((with_reducible refine WX ?_ ?_);· kernel_rfl)
  |((with_reducible refine WY ?_ ?_);· kernel_rfl)
  |((with_reducible refine WZ ?_ ?_);· kernel_rfl)):∀t,nY l t=false->e' t=e t:=h
section code
variable {P:Program}{r:Option Nat}{N:Nat}{ds:List Deferred}{Q:Exit->Act->World->Prop}{K:Act->World->Prop}{c c1:Code}{k4:Nat->(Nat->Value)->World->Prop}{mods:List (Nat×Nat)}
def I9 (h:∀t,nY mods t=false->e1 t=e t):e1=ov (nY mods) e1 e:=funext λt=>by
 unfold ov;split
 · rfl
 · rename_i hh;exact h t hh
def Y8 (N:Nat)(ds:List Deferred)(mods:List (Nat×Nat))(e:Nat->Value)(k4:Nat->(Nat->Value)->World->Prop)(k:Nat):Act->World->Prop:=λa' w'=>∃k' e',k'<k/\a'=act N e' ds/\(∀t,nY mods t=false->e' t=e t)/\k4 k' e' w'
def ck (mods:List (Nat×Nat))(k4:Nat->(Nat->Value)->World->Prop)(k:Nat)(h0:k4 k e w)(hs:∀k e1 w1,k4 k e1 w1->c.wpIn (Fw r) n P (Exit.then (Y8 N ds mods e k4 k) Q) (act N (ov (nY mods) e1 e) ds) w1):(Code.loop c).wpIn (Fw r) n P Q (act N e ds) w:=
 RL (λk e1 w1=>(∀t,nY mods t=false->e1 t=e t)/\k4 k e1 w1) k ⟨λ_ _=>rfl,h0⟩ λk e1 w1 ⟨h1,h2⟩=>by
  have:=hs k e1 w1 h2
  rw[<-I9 h1]at this
  exact wpIn_mono this (by
   intro x a' w' hq
   cases x <;>first|exact hq|(obtain⟨k',e',hk,rfl,E,hI'⟩:=hq;exact⟨k',e',hk,rfl,E,hI'⟩))
def W4 {rest:Code}{l:Nat}(mods:List (Nat×Nat))(k4:Nat->(Nat->Value)->World->Prop)(k:Nat)(h0:k4 k e w)(hs:∀k e1 w1,k4 k e1 w1->rest.wpIn (Fw r) n P (HO l (Y8 N ds mods e k4 k) Q) (act N (ov (nY mods) e1 e) ds) w1):rest.wpIn (Fw r) n P (HO l (JA (Fw r) n P l (Code.skip.seq rest) Q) Q) (act N e ds) w:=by
 have key:∀m k e1 w1,k<m->(∀t,nY mods t=false->e1 t=e t)->k4 k e1 w1->rest.wpIn (Fw r) n P (HO l (JL (Fw r) n P l (Code.skip.seq rest) Q (m-1)) Q) (act N e1 ds) w1:=by
  intro m
  induction m with
  |zero=>intro k e1 w1 hk;omega
  | succ m ih=>
    intro k e1 w1 hk O hI
    have:=hs k e1 w1 hI
    rw[<-I9 O]at this
    refine wpIn_mono this (zJ λa w ⟨k',e',W,E,H,hI'⟩=>?_)
    subst E
    have h2:=ih k' e' w U H hI'
    obtain⟨p,rfl⟩:∃p,m=p+1:=⟨m-1,by omega⟩
    exact iR (jJ (fm h2))
 exact wpIn_mono (key (k+1) k e w U (λ_ _=>rfl) h0) (zJ λa w h=>⟨k,h⟩)
def bJ (hI:k4 k' e' w')(hk:k'<k:=by omega)(hs:∀t,nY mods t=false->e' t=e t:=by exact same):Y8 N ds mods e k4 k (act N e' ds) w':=⟨k',e',hk,rfl,hs,hI⟩
def Z4 (N:Nat)(ds:List Deferred)(mods:List (Nat×Nat))(e:Nat->Value)(k4:(Nat->Value)->World->Prop):Act->World->Prop:=λa' w'=>∃e',a'=act N e' ds/\(∀t,nY mods t=false->e' t=e t)/\k4 e' w'
def Ts (mods:List (Nat×Nat))(k4:(Nat->Value)->World->Prop)(h1:c1.wpIn (Fw r) n P (Exit.then (Z4 N ds mods e k4) Q) (act N e ds) w)(h2:∀e1 w1,k4 e1 w1->K (act N (ov (nY mods) e1 e) ds) w1):c1.wpIn (Fw r) n P (Exit.then K Q) (act N e ds) w:=
 wpIn_mono h1 (by
  intro x a' w' hq
  cases x <;>first|exact hq|(obtain⟨e',rfl,h3,h4⟩:=hq;rw[I9 h3];exact h2 e' w' h4))
def CN {k4:(Nat->Value)->World->Prop}(hI:k4 e' w')(hs:∀t,nY mods t=false->e' t=e t:=by exact same):Z4 N ds mods e k4 (act N e' ds) w':=⟨e',rfl,hs,hI⟩
end code
section ops
variable {P:Program}{r:Option Nat}{N:Nat}{ds:List Deferred}{Q:Exit->Act->World->Prop}{K:Act->World->Prop}{a:Act}
variable {ops:Array Oper}{rest:List Oper}{op:Op}{ty:Nat}{pos:String}{af:Array Edge}{id:Nat}{c c1 c2:Code}{x y:Operand}
abbrev L (r:Option Nat)(n:Nat)(ops:Array Oper)(Q:Exit->Act->World->Prop)(rest:List Oper)(N:Nat)(e:Nat->Value)(ds:List Deferred)(w:World):Prop:=wpListIn (Fw r) n prog ops Q rest (act N e ds) w
def al {z:Value}(hi:gw prog t z s b)(hk:∀w',(w'.heap.size=w.heap.size+1/\aN w w')->ar w' w.heap.size t z.cells->L r n ops Q rest N (upd e d (.pointer (some ⟨w.heap.size,0,none⟩))) ds w'):
 L r n ops Q (⟨some d,.alloc t,ty,pos,af,none⟩::rest) N e ds w:=aa (DV hi λw' h1 h2 h3=>hk w' ⟨h2,h1⟩ h3)
def bx (hk:∀w',(w'.heap.size=w.heap.size+1/\aN w w')->ar w' w.heap.size t v.cells->L r n ops Q rest N (upd e d (.pointer (some ⟨w.heap.size,0,none⟩))) ds w')(hx:ev N e x=v:=by exact Gq):
 L r n ops Q (⟨some d,.box t x,ty,pos,af,none⟩::rest) N e ds w:=aa (Vo hx λw' h1 h2 h3=>hk w' ⟨h2,h1⟩ h3)
def cl {R:Value->World->Prop}(hf:Enters prog f)(hc:Calls prog f vs.toArray w (aH w R))(hk:∀v w',S6 w w'->R v w'->L r n ops Q rest N (upd e d v) ds w')(hv:xs.toList.map (ev N e)=vs:=by exact Z):
 L r n ops Q (⟨some d,.call ⟨.value (.func f),xs,ats⟩,ty,pos,af,none⟩::rest) N e ds w:=aa (qq hf hv hc λv w' h=>hk v w' (Vi h))
def clb {R:Value->World->Prop}(hf:Enters prog f)(hv:xs.toList.map (ev N e)=vs:=by exact Z)(hc:Calls prog f vs.toArray w (aH w R))(hk:∀v w',S6 w w'->R v w'->L r n ops Q rest N (upd e d v) ds w'):
 L r n ops Q (⟨some d,.call ⟨.value (.func f),xs,ats⟩,ty,pos,af,none⟩::rest) N e ds w:=aa (qq hf hv hc λv w' h=>hk v w' (Vi h))
def l5 {R:Value->World->Prop}(hf:Enters prog f)(hx:ev N e x=.func (.func f) #[] lb.toArray)(hv:xs.toList.map (ev N e)=vs)(hc:Calls prog f (vs++lb).toArray w (aH w R))(hk:∀v w',S6 w w'->R v w'->K (act N (upd e d v) ds) w'){g:Option (Nat×Bool)}:Oper.wpIn (Fw r) n prog ⟨some d,.call ⟨.value x,xs,ats⟩,ty,pos,af,g⟩ (act N e ds) w K Q:=Nb hf hx hv hc λv w' h=>hk v w' (Vi h)
def xL {R:Value->World->Prop}{g:Option (Nat×Bool)}(hf:Enters prog f)(hv:xs.toList.map (ev N e)=vs)(hc:Calls prog f vs.toArray w (aH w R))(hk:∀v w',S6 w w'->R v w'->K (act N (upd e d v) ds) w'):Oper.wpIn (Fw r) n prog ⟨some d,.call ⟨.value (.func f),xs,ats⟩,ty,pos,af,g⟩ (act N e ds) w K Q:=qq hf hv hc λv w' h=>hk v w' (Vi h)
def CO {D:TypeDesc}{name:String}{R:Value->World->Prop}{g:Option (Nat×Bool)}(hf:Enters prog f)(hm:ew prog t name f)(hu:prog.underlying t=some D)(hd:qD D=true)(hx:ev N e x=.iface t v)(hv:xs.toList.map (ev N e)=vs)(hc:Calls prog f (v::vs).toArray w (aH w R))(hk:∀v w',S6 w w'->R v w'->K (act N (upd e d v) ds) w'):Oper.wpIn (Fw r) n prog ⟨some d,.call {callee:=.invoke x name,args:=xs,argTypes:=ats},ty,pos,af,g⟩ (act N e ds) w K Q:=IT hf hm hu hd hx hv hc λv w' h=>hk v w' (Vi h)
def SA {t tb o m:Nat}(hb:ar w b tb cs)(hk:∀w',dP w w' b->ar w' b tb (putCells cs o vs)->L r n ops Q rest N e ds w')(hx:ev N e x=.pointer (some ⟨b,o,none⟩):=by exact gU)(hy:ev N e y=.agg vs.toArray:=by exact gU)(hi:(prog.info? t).map (·.size)=some m:=by with_reducible first|exact bX|exact Gm|exact bm|exact nM|exact xm|exact df|exact fI|exact Ib|exact eh|exact xk|exact ml)(hm:vs.length=m:=by exact Z)(h1:vs.all (·.oneCell')=true:=by exact Z)(ho:o+vs.length<=cs.size:=by exact qa3 Z):
 L r n ops Q (⟨none,.store t x y,ty,pos,af,none⟩::rest) N e ds w:=aa (bo (hm▸hi) hx hy (List.all_eq_true.1 h1) hb ho hk)
def SO {t tb o:Nat}(hb:ar w b tb cs)(hk:∀w',dP w w' b->ar w' b tb (cs.setIfInBounds o v)->L r n ops Q rest N e ds w')(hx:ev N e x=.pointer (some ⟨b,o,none⟩):=by exact gU)(hy:ev N e y=v:=by exact Gq)(h1:v.oneCell'=true:=by exact Z)(hi:(prog.info? t).map (·.size)=some 1:=by with_reducible first|exact ji|exact Yt|exact Vg|exact mj|exact RU|exact RV|exact zi|exact RY|exact sz1104|exact RX|exact Ia|exact iS|exact BU|exact Vx)(ho:o<cs.size:=by exact qa3 Z):
 L r n ops Q (⟨none,.store t x y,ty,pos,af,none⟩::rest) N e ds w:=aa (cI hi hx hy h1 hb ho hk)
def BS {t:Nat}{z:Value}{cs:List Value}(hk:∀w',aN w w'->w.heap.size<w'.heap.size->w'.ownsRow w.heap.size el size (.slice (some ⟨w.heap.size,0,none⟩) 1 1) 1 cs->L r n ops Q rest N (upd e d (.slice (some ⟨w.heap.size,0,none⟩) 1 1)) ds w')(hx:ev N e x=v:=by exact Gq)(hc:v.cells=cs.toArray:=by exact Z)(hs:I4 prog t el z size bytes:=by with_reducible first|exact Tc|exact Td|exact CJ|exact CK|exact Te|exact Tf|exact I5|exact I6)(hf:Instr.fill (λi=>some (i*size,size)) ((Array.range (1*size)).map (z.cells[· %z.cells.size]!)) [(0,v)]=some cs.toArray:=by kernel_rfl)(hl:cs.toArray.size=1*size:=by exact Z)(h24:Nat.ble (1*size) 16777216=true:=by exact Z):L r n ops Q (⟨some d,.buildSlice t 1 #[(0,x)],ty,pos,af,none⟩::rest) N e ds w:=aa (cM hs.1 hs.2.1 (by rw[<-hx];rfl) (qa3 h24) (by have:=hs.2.2.2;omega) hf hl dc hk)
def Tt {t:Nat}{z:Value}{cs ds':List Value}(hk:∀w',aN w w'->w.heap.size<w'.heap.size->w'.ownsRow w.heap.size el size (.slice (some ⟨w.heap.size,0,none⟩) 2 2) 2 (cs++ds')->L r n ops Q rest N (upd e d (.slice (some ⟨w.heap.size,0,none⟩) 2 2)) ds w')(hx:ev N e x=u:=by exact Gq)(hy:ev N e y=v:=by exact Gq)(hc:u.cells=cs.toArray:=by exact Z)(hd:v.cells=ds'.toArray:=by exact Z)(hs:I4 prog t el z size bytes:=by with_reducible first|exact Tc|exact Td|exact CJ|exact CK|exact Te|exact Tf|exact I5|exact I6)(hf:Instr.fill (λi=>some (i*size,size)) ((Array.range (2*size)).map (z.cells[· %z.cells.size]!)) [(0,u),(1,v)]=some (cs++ds').toArray:=by kernel_rfl)(hl:(cs++ds').toArray.size=2*size:=by exact Z)(h24:Nat.ble (2*size) 16777216=true:=by exact Z):L r n ops Q (⟨some d,.buildSlice t 2 #[(0,x),(1,y)],ty,pos,af,none⟩::rest) N e ds w:=aa (cM hs.1 hs.2.1 (by rw[<-hx,<-hy];rfl) (qa3 h24) (by have:=hs.2.2.2;omega) hf hl dc hk)
def AP {t ty base lo m c:Nat}{z:Value}{A:Option Addr}{xs news:List Value}(hown:w.ownsRow base el size v k xs)(hr:Rw w lo A news)(hk:∀v' w',w'.ownsRow base el size v' (k+m) (xs++news)->w.grownBy w' v.ownBlock->(v'.ownBlock=v.ownBlock\/v'.ownBlock=some w.heap.size)->L r n ops Q rest N (upd e d v') ds w')(h1:news.all (·.oneCell')=true:=by exact Z)(hx:ev N e x=v:=by exact gU)(hy:ev N e y=.slice A m c:=by exact gU)(hs:I4 prog t el z size bytes:=by with_reducible first|exact Tc|exact Td|exact CJ|exact CK|exact Te|exact Tf|exact I5|exact I6)(hl:news.length=m*size:=by exact Z)(h63:k+m<=maxLen:=by simp only[maxLen];omega)(hb:(k+m)*bytes<=140737488355328:=by omega)(hbase:base<=w.heap.size:=by omega):
 L r n ops Q (⟨some d,.call {callee:=.builtin .append,args:=#[x,y],argTypes:=#[t,t]},ty,pos,af,none⟩::rest) N e ds w:=aa (jI hs.1 hs.2.1 hs.2.2.1 hs.2.2.2 hx hown hy hr hl (List.all_eq_true.1 h1) h63 hb hbase hk)
def Tu (h:v.oneCell'=true):[v].all (·.oneCell')=true:=by simp[h]
end ops
end Go.Proofs.YtlmihmlnpjkblaaGreatDoor
namespace Go.Proofs.YtlmihmlnpjkblaaGreatDoor
variable {xs ys:List Nat}{i n b lo' lo c n1 c1 n2 c2 lo1 lo2 B1 B2 g a1 a2 k:Nat}{A A1 A2:Option Addr}{w:World}
set_option maxRecDepth 100000
open Go Go.Eng Go.RowKit Tryz
attribute [local irreducible] wpListIn Code.wpIn Oper.wpIn Exit.then Exit.inBlock Exit.noGoto
set_option maxHeartbeats 40000000
def lx {a:Int}(h:In64 a:=by unfold In64;omega):In64 a:=h
def ints (l:List Nat):List Value:=l.map λn:Nat=>Value.int .i64 n
def Ja (h:i<xs.length):(ints xs)[i]?=some (.int .i64 ((xs[i]:Nat):Int)):=by simp[ints,h]
def iY (xs:List Nat):(ints xs).length=xs.length:=by simp[ints]
def tL :∀u∈ints xs,u.oneCell'=true:=by
 intro u hu
 obtain⟨n,_,rfl⟩:=List.mem_map.1 hu
 rfl
def mA (a b:List Nat):ints (a++b)=ints a++ints b:=by simp[ints]
def lz (h:xs.length<=i):xs.getD i 0=0:=by simp[List.getD,List.getElem?_eq_none h]
def bG (h:i<xs.length):(ints xs)[i]?=some (.int .i64 ((xs.getD i 0:Nat):Int)):=by simp[ints,h]
def wm {m:Nat}(h0:0<m)(h:m<=xs.length):xs.take m=xs.take (m-1)++[xs.getD (m-1) 0]:=by
 obtain⟨k,rfl⟩:∃k,m=k+1:=⟨m-1,by omega⟩
 rw[List.take_succ_eq_append_getElem U]
 simp[show k<xs.length by omega]
def rz:∀l:List Nat,dH (l++[0])=dH l
 |[]=>by simp[dH]
 |d::l=>by simp only[List.cons_append,dH,rz l]
def tM:∀(l:List Nat) (d:Nat),d≠0->dH (l++[d])=l++[d]
 |[],d,h=>by simp[dH,h]
 | e::l,d,h=>by
   have ih:=tM l d h
   simp only[List.cons_append,dH,ih]
   rw[if_neg zd]
def wn {m:Nat}(h:0<m/\m<=n/\xs.length=n)(hz:xs.getD (m-1) 0=0):dH (xs.take m)=dH (xs.take (m-1)):=by
 rw[wm h.1 U,hz,rz]
def mT {m:Nat}(h:m<=n/\xs.length=n)(hz:m=0\/0<m/\xs.getD (m-1) 0≠0):dH (xs.take m)=xs.take m:=by
 rcases hz with rfl|⟨h0,hz⟩
 · simp[dH]
 · rw[wm h0 U,tM _ _ hz]
structure en (w:World)(lo:Nat)(A:Option Addr)(n c a:Nat):Prop where
 row:Rw w lo A (ints (au 10000 a))
 len:(au 10000 a).length=n
 cap:n<=c
section
variable {w0 w':World}{a:Nat}
def en.ext (k:aN w w')(h:en w lo A n c a):en w' lo A n c a:=⟨h.row.ext k,h.len,h.cap⟩
def aa9:=@en.ext
def en.put (k:dP w w' b)(hb:b<lo)(h:en w lo A n c a):en w' lo A n c a:=⟨h.row.put k hb,h.len,h.cap⟩
def ac7:=@en.put
def en.gr {row:Option Nat}(k:w.grownBy w' row)(hne:∀ad,A=some ad->some ad.block≠row)(h:en w lo A n c a):en w' lo A n c a:=⟨h.row.gr k hne,h.len,h.cap⟩
def en.mono (hl:lo'<=lo)(h:en w lo A n c a):en w lo' A n c a:=⟨h.row.mono hl,h.len,h.cap⟩
def en.lt (h:en w lo A n c a):∀x∈au 10000 a,x<10000:=eM 10000 U a
def en.val (h:en w lo A n c a):bS 10000 (au 10000 a)=a:=cJ 10000 U a
end
def mB {l:List Int}(h:∀x∈l,0<=x/\x<10000):l.map (Value.int .i64)=ints (eO l):=by
 conv=>lhs;rw[<-zu l (λx hx=>(h x hx).1)]
 simp[ints]
def CP {m a:Nat}{l:List Int}(hd:∀x∈l,0<=x/\x<10000)(hv:bS 10000 (eO l)=a)(hr:Rw w lo A (ints (eO l)))(hm:dH (eO l)=(eO l).take m)(hml:m<=(eO l).length)(hmc:m<=c):en w lo A m c a:=by
 have h1:au 10000 a=(eO l).take m:=by
  rw[<-hm,<-hv]
  exact(mw 10000 U _ (Gn l hd)).symm
 refine⟨?_,?_,hmc⟩
 · rw[h1]
   have:ints ((eO l).take m)=(ints (eO l)).take m:=by simp[ints]
   rw[this]
   exact hr.take m
 · rw[h1];simp;omega
def fg (l:List Int):(eO l).length=l.length:=by simp[eO]
def kM (x:Int)(w:World):
 CL 214 #[.int .i64 x] w (aH w λv w'=>v=.bool false):=by
 refine aC func214 Z (I ?_);exact am (t:=2) (v:=.bool false) Z (aa0 _) Z (by show Value.bool (!decide (x=x))=_;simp)
def Tv (x y:Int)(h:x<y)(w:World):
 CL 171 #[.int .i64 x,.int .i64 y] w (aH w λv w'=>v=.int .i64 (-1)):=by
 refine aC func171 Z (I ?_);refine cl wg (kM _ _) ?_;rintro _ _ E rfl;have E4:=E.2;refine I ?_;refine cl wg (kM _ _) ?_;rintro _ _ H rfl;have E4:=xt E4 H.2;refine I ?_;exact am (t:=4) (v:=.int .i64 (-1)) Z E4 Z Z
def Tw (x y:Int)(h:y<x)(w:World):
 CL 171 #[.int .i64 x,.int .i64 y] w (aH w λv w'=>v=.int .i64 1):=by
 refine aC func171 Z (I ?_);refine cl wg (kM _ _) ?_;rintro _ _ E rfl;have E11:=E.2;refine I ?_;refine cl wg (kM _ _) ?_;rintro _ _ H rfl;have E11:=xt E11 H.2;refine I ?_;exact am (t:=4) (v:=.int .i64 1) Z E11 Z Z
def cmp_eq (x y:Int)(h:x=y)(w:World):
 CL 171 #[.int .i64 x,.int .i64 y] w (aH w λv w'=>v=.int .i64 0):=by
 refine aC func171 Z (I ?_);refine cl wg (kM _ _) ?_;rintro _ _ E rfl;have E18:=E.2;refine I ?_;refine cl wg (kM _ _) ?_;rintro _ _ H rfl;have E18:=xt E18 H.2;refine I ?_;exact am (t:=4) (v:=.int .i64 0) Z E18 Z Z
def zL (hr:Rw w lo A (ints xs))(hn:xs.length=n):
 CL 165 #[.slice A n c,.int .i64 i] w (aH w λv w'=>v=.int .i64 ((xs.getD i 0:Nat):Int)):=by
 by_cases hi:i<n;have E:i<xs.length:=J
 refine aC func165 Z (I ?_);obtain⟨b,o,hA,hc⟩:=hr.cells i _ (Ja E);refine aa (aA (i:=i) (oo:=o+i) gX ji Z hA Z hi U ?_);refine aa (bn (v:=.int .i64 ((xs[i]'E:Nat):Int)) U3 Z Z hc ?_);refine I ?_;exact am (t:=4) (v:=.int .i64 ((xs[i]'E:Nat):Int)) Z (aa0 _) (by simp[E]) Z;refine aC func165 Z (I ?_);exact am (t:=4) (v:=.int .i64 0) Z (aa0 _) (by rw[lz U];rfl) Z
def NT (h1:Rw w lo1 A1 (ints xs))(hn1:xs.length=n1)(h2:Rw w lo2 A2 (ints ys))(hn2:ys.length=n2)(k1:ar w B1 159 #[.slice A1 n1 c1])(k2:ar w B2 159 #[.slice A2 n2 c2])(hx:xs.getD i 0<=1000000000)(hy:ys.getD i 0<=1000000000):
 CL 164 #[.int .i64 i,pT B1,pT B2] w (aH w λv w'=>v=.int .i64 (((xs.getD i 0:Nat):Int)+((ys.getD i 0:Nat):Int))):=by
 refine aC func164 Z (I ?_);refine bP 8 ?_;refine sf ?_;refine a7 (V:=.int .i64 ((xs.getD i 0:Nat):Int)) (λ_ _ hR32 _=>?_) ?_;have h1:=h1.ext hR32;refine cl zq (zL h1 hn1) ?_;rintro _ _ H rfl;have E37:=H.2;refine I ?_;exact fs ⟨E37,rfl⟩;refine sf ?_;refine a7 (V:=.int .i64 ((ys.getD i 0:Nat):Int)) (λ_ _ hR48 _=>?_) ?_;have h2:=h2.ext hR48;refine cl zq (zL h2 hn2) ?_;rintro _ _ E rfl;have E53:=E.2;refine I ?_;exact fs ⟨E53,rfl⟩;refine aB (λ_ _ _ _=>by refine gR ?_;refine I ?_;exact aK) ?_;refine sf ?_;intro _ _ hR64 _;have E66:=hR64.2;refine I ?_;exact am (t:=4) (v:=.int .i64 (((xs.getD i 0:Nat):Int)+((ys.getD i 0:Nat):Int))) Z E66 Z Z
def Jb (h1:Rw w lo1 A1 (ints xs))(hn1:xs.length=n1)(h2:Rw w lo2 A2 (ints ys))(hn2:ys.length=n2)(k1:ar w B1 159 #[.slice A1 n1 c1])(k2:ar w B2 159 #[.slice A2 n2 c2])(hx:xs.getD i 0<=1000000000)(hy:ys.getD i 0<=1000000000):
 CL 166 #[.int .i64 i,pT B1,pT B2] w (aH w λv w'=>v=.int .i64 (((xs.getD i 0:Nat):Int)-((ys.getD i 0:Nat):Int))):=by
 refine aC func166 Z (I ?_);refine bP 8 ?_;refine sf ?_;refine a7 (V:=.int .i64 ((xs.getD i 0:Nat):Int)) (λ_ _ hR77 _=>?_) ?_;have h1:=h1.ext hR77;refine cl zq (zL h1 hn1) ?_;rintro _ _ W rfl;have E82:=W.2;refine I ?_;exact fs ⟨E82,rfl⟩;refine sf ?_;refine a7 (V:=.int .i64 ((ys.getD i 0:Nat):Int)) (λ_ _ hR93 _=>?_) ?_;have h2:=h2.ext hR93;refine cl zq (zL h2 hn2) ?_;rintro _ _ O rfl;have E98:=O.2;refine I ?_;exact fs ⟨E98,rfl⟩;refine aB (λ_ _ _ _=>by refine qF ?_;refine I ?_;exact aK) ?_;refine sf ?_;intro _ _ E _;have H:=E.2;refine I ?_;exact am (t:=4) (v:=.int .i64 (((xs.getD i 0:Nat):Int)-((ys.getD i 0:Nat):Int))) Z H Z Z
def fL (hr:Rw w lo A (ints xs))(hn:xs.length=n)(hc:n<=c)(hb:n<=1000000):
 CL 159 #[.slice A n c] w (aH w λv w'=>∃m,v=.slice A m c/\dH xs=xs.take m/\m<=n):=by
 refine aC func159 Z (I ?_);have O:=aa0 w;refine ck [(0,0),(3,19)] (λA0 e W=>∃m:Nat,(m=A0)/\(e 0=.slice A m c)/\(m<=n)/\(dH xs=dH (xs.take m))/\(aN w W)) (n) ⟨n,rfl,rfl,(qa0 _),(by rw[List.take_of_length_le U]),O⟩ ?_;rintro _ _ _ ⟨m,rfl,Ab,q1,H,E⟩;by_cases hm:0<m;by_cases hz:xs.getD (m-1) 0=0;obtain⟨b,o,hA,hc⟩:=(hr.ext E).cells (m-1) _ (bG (xs:=xs) U);refine I ?_;refine aa (jq (a:=(m:Int)) (b:=1) (c:=((m-1:Nat):Int)) Z Z lx U ?_);refine I ?_;refine aa (aA (i:=m-1) (oo:=o+(m-1)) gX ji Z hA Z U U ?_);refine I ?_;refine aa (bn (v:=.int .i64 ((xs.getD (m-1) 0:Nat):Int)) U3 Z Z hc ?_);refine I ?_;refine aa (jq (a:=(m:Int)) (b:=1) (c:=((m-1:Nat):Int)) Z Z lx U ?_);refine aa (re (j:=m-1) gX ji Z Z U ?_);refine I ?_;exact bJ ⟨m-1,rfl,rfl,U,(H.trans (wn (n:=n) U hz)),E⟩;obtain⟨b,o,hA,hc⟩:=(hr.ext E).cells (m-1) _ (bG (xs:=xs) U);refine I ?_;refine aa (jq (a:=(m:Int)) (b:=1) (c:=((m-1:Nat):Int)) Z Z lx U ?_);refine I ?_;refine aa (aA (i:=m-1) (oo:=o+(m-1)) gX ji Z hA Z U U ?_);refine I ?_;refine aa (bn (v:=.int .i64 ((xs.getD (m-1) 0:Nat):Int)) U3 Z Z hc ?_);refine I ?_
 exact am (t:=2) (v:=.slice A m c) Z E ⟨m,rfl,H.trans (mT (n:=n) U CT),by omega⟩ Z;refine I ?_;exact am (t:=2) (v:=.slice A m c) Z E ⟨m,rfl,H.trans (mT (n:=n) U CT),by omega⟩ Z
def xM {c0:Int}{lb:List Value}{d:Nat->Int}(heg:Enters prog g)(hd:∀(i:Nat) (W:World),i<=n->aN w W->CL g ([Value.int .i64 i]++lb).toArray W (aH W λv _=>v=.int .i64 (d i)))(hn:n<=1000000)(hr:∀i≤n,-1000000000000<=d i/\d i<=1000000000000)(hc:∀k≤n,-1000000000<=(aF d c0 k).1/\(aF d c0 k).1<=1000000000)(hcn:0<=(aF d c0 n).1/\(aF d c0 n).1<10000)(hdn:d n=0):
 CL 163 #[.int .i64 n,.int .i64 c0,.func (.func g) #[] lb.toArray] w (aH w λv w'=>∃k,n<=k/\k<=n+1/\(aF d c0 k).1=0/\w'.ownsRow w.heap.size 3 1 v k ((aF d c0 k).2.map (Value.int .i64))):=by
 refine aC func163 Z (I ?_);refine aa (cG (a:=(n:Int)) (b:=1) (c:=((n+1:Nat):Int)) Z Z lx U ?_);refine aa (M9 (m:=n+1) gX lf Z Z U Rd (λ_ D1 ho=>?_));have od:=D1;refine I ?_;refine ck [(1,1),(7,9),(13,40)] (λCr e W=>∃k:Nat,∃O:Value,(n+1-k=Cr)/\(e 1=.int .i64 ((aF d c0 k).1))/\(e 7=O)/\(e 8=.int .i64 k)/\(k<=n+1)/\(k=n+1->(aF d c0 k).1=0)/\(aN w W)/\(W.ownsRow w.heap.size 3 1 O k ((aF d c0 k).2.map (Value.int .i64)))) (n+1-0) ⟨0,_,rfl,rfl,rfl,rfl,U,U,od,ho⟩ ?_;rintro _ _ _ ⟨k,O,rfl,H3,Ab,FR,q1,H2,E,ho⟩;have EW:=bz E;by_cases hkn:k<n;by_cases hs:d k+(aF d c0 k).1<0;have Aq:=hr k U;have Ar:=hc k U;have H:=Cj U;refine I ?_;refine aa (l5 (vs:=[.int .i64 k]) (lb:=lb) heg Z Z (hd k _ U E) ?_);rintro _ _ Ap rfl;have Ap:=Ap.2;have ho:=ab Ap ho;have E:=xt E Ap;refine I ?_;refine gR (I ?_);refine gR (I ?_);refine aa (aY (v:=O) Ab ?_);refine I ?_;refine BS (λ_ As _ E6=>?_);have ho:=ab As ho;have E:=xt E As;refine AP ho (ab0 E6) (λAx _ E0 E7 _=>?_);have E:=cR E E7 (bz E) (λg A0=>by have:=(ho.lt g A0).1;omega);refine aa (aJ (v:=Ax) Z ?_);refine I ?_
 refine aa (cG (a:=(k:Int)) (b:=1) (c:=((k+1:Nat):Int)) Z Z lx U ?_);refine I ?_;exact bJ ⟨k+1,Ax,rfl,(by rw[H];rfl),rfl,rfl,U,kb0,E,(by rw[H];simpa using E0)⟩;by_cases hs2:10000<=d k+(aF d c0 k).1;have Aq:=hr k U;have Ar:=hc k U;have H:=Ck U U;refine I ?_;refine aa (l5 (vs:=[.int .i64 k]) (lb:=lb) heg Z Z (hd k _ U E) ?_);rintro _ _ Am rfl;have Am:=Am.2;have ho:=ab Am ho;have E:=xt E Am;refine I ?_;refine gR (I ?_);refine aa (wc (a:=(d k)+((aF d c0 k).1)) (b:=10000) (c:=((d k)+((aF d c0 k).1))/10000) Z Z U U lx Z ?_);refine I ?_;refine aa (mc (a:=(d k)+((aF d c0 k).1)) (b:=10000) (c:=((d k)+((aF d c0 k).1))%10000) Z Z U U Z ?_);refine I ?_;refine aa (aY (v:=O) Ab ?_);refine I ?_;refine BS (λ_ Ay _ wr=>?_);have ho:=ab Ay ho;have E:=xt E Ay;refine AP ho (ab0 wr) (λnm _ E1 ES _=>?_);have E:=cR E ES (bz E) (λg A0=>by have:=(ho.lt g A0).1;omega);refine aa (aJ (v:=nm) Z ?_);refine I ?_;refine aa (cG (a:=(k:Int)) (b:=1) (c:=((k+1:Nat):Int)) Z Z lx U ?_);refine I ?_
 exact bJ ⟨k+1,nm,rfl,(by rw[H];rfl),rfl,rfl,U,kb0,E,(by rw[H];simpa using E1)⟩;have Aq:=hr k U;have Ar:=hc k U;have H:=tq U U;refine I ?_;refine aa (l5 (vs:=[.int .i64 k]) (lb:=lb) heg Z Z (hd k _ U E) ?_);rintro _ _ Ao rfl;have Ao:=Ao.2;have ho:=ab Ao ho;have E:=xt E Ao;refine I ?_;refine gR (I ?_);refine aa (aY (v:=O) Ab ?_);refine I ?_;refine BS (λ_ Az _ D2=>?_);have ho:=ab Az ho;have E:=xt E Az;refine AP ho (ab0 D2) (λB0 _ CY CG _=>?_);have E:=cR E CG (bz E) (λg A0=>by have:=(ho.lt g A0).1;omega);refine aa (aJ (v:=B0) Z ?_);refine I ?_;refine aa (cG (a:=(k:Int)) (b:=1) (c:=((k+1:Nat):Int)) Z Z lx U ?_);refine I ?_;exact bJ ⟨k+1,B0,rfl,(by rw[H];rfl),rfl,rfl,U,kb0,E,(by rw[H];simpa using CY)⟩;by_cases hcz:(aF d c0 k).1=0;refine I ?_;refine aa (aY (v:=O) Ab ?_);refine aa (aJ (v:=O) Z ?_);refine I ?_;exact am (t:=6) (v:=O) Z E ⟨k,by omega,by omega,hcz,ho⟩ Z;have Av:n=k:=J
 have E5:=hdn;rw[Av]at E5;have E4:=hcn;rw[Av]at E4;have G0:¬10000<=d k+(aF d c0 k).1:=J
 have GC:¬d k+(aF d c0 k).1<0:=J
 have Aq:=hr k U;have Ar:=hc k U;have H:=tq U U;refine I ?_;refine aa (l5 (vs:=[.int .i64 k]) (lb:=lb) heg Z Z (hd k _ U E) ?_);rintro _ _ Af rfl;have Af:=Af.2;have ho:=ab Af ho;have E:=xt E Af;refine I ?_;refine gR (I ?_);refine aa (aY (v:=O) Ab ?_);refine I ?_;refine BS (λ_ Aw _ E9=>?_);have ho:=ab Aw ho;have E:=xt E Aw;refine AP ho (ab0 E9) (λC0 _ CB ny _=>?_);have E:=cR E ny (bz E) (λg A0=>by have:=(ho.lt g A0).1;omega);refine aa (aJ (v:=C0) Z ?_);refine I ?_;refine aa (cG (a:=(k:Int)) (b:=1) (c:=((k+1:Nat):Int)) Z Z lx U ?_);refine I ?_;exact bJ ⟨k+1,C0,rfl,(by rw[H];rfl),rfl,rfl,U,kb0,E,(by rw[H];simpa using CB)⟩
def W5 {m:Nat}(h1:Rw w lo1 A1 (ints xs))(hn1:xs.length=n1)(k1:ar w B1 159 #[.slice A1 n1 c1])(k2:ar w B2 3 #[.int .i64 m])(hx:∀x∈xs,x<10000)(hm:m<10000):
 CL 208 #[.int .i64 i,pT B1,pT B2] w (aH w λv w'=>v=.int .i64 (rT xs m i)):=by
 have hb:=xB hx hm i;unfold rT at hb;refine aC func208 Z (I ?_);refine bP 5 ?_;refine sf ?_;refine a7 (V:=.int .i64 ((xs.getD i 0:Nat):Int)) (λ_ _ hR11 _=>?_) ?_;have h1:=h1.ext hR11;refine cl zq (zL h1 hn1) ?_;rintro _ _ E rfl;have E16:=E.2;refine I ?_;exact fs ⟨E16,rfl⟩;refine sf ?_;refine aB (λ_ _ _ _=>by refine aa (ra (a:=((xs.getD i 0:Nat):Int)) (b:=(m:Int)) (c:=rT xs m i) Z Z j0 Z ?_);refine I ?_;exact aK) ?_;refine sf ?_;intro _ _ hR27 _;have E29:=hR27.2;refine I ?_;exact am (t:=4) (v:=.int .i64 (rT xs m i)) Z E29 Z Z
def oX (h1:en w lo1 A1 n1 c1 a1)(s1:n1<=100000)(h2:en w lo2 A2 n2 c2 a2)(s2:n2<=100000):
 CL 121 #[.slice A1 n1 c1,.slice A2 n2 c2] w (aH w λv w'=>∃A n c,v=.slice A n c/\en w' w.heap.size A n c (a1+a2)):=by
 refine aC func121 Z (I ?_);refine bx (λA0 B0 E=>?_);have E33:=B0.2;refine bx (λD2 E0 CY=>?_);have⟨E,E33⟩:=bw E0.2 E E33;refine I ?_;refine aa (H1 (a:=(n1:Int)) (b:=(n2:Int)) (m:=((max n1 n2:Nat):Int)) Z Z kd2 ?_);refine aa (aE (vf:=[]) (vc:=[pT w.heap.size,pT A0.heap.size]) Z Z ?_);have E1:∀(i:Nat) (W:World),i<=max n1 n2->aN D2 W->CL 164 (([Value.int .i64 i]:List Value)++([pT w.heap.size,pT A0.heap.size]:List Value)).toArray W (aH W λv _=>v=.int .i64 (gz (au 10000 a1) (au 10000 a2) i)):=by(intro i W hi X;have X2:=xt E33 X;exact NT (h1.row.ext X2) h1.len (h2.row.ext X2) h2.len (E.ext X) (CY.ext X) (by have:=getD_lt h1.lt i;omega) (by have:=getD_lt h2.lt i;omega))
 have CG:∀i≤max n1 n2,-1000000000000<=gz (au 10000 a1) (au 10000 a2) i/\gz (au 10000 a1) (au 10000 a2) i<=1000000000000:=λi _=>by(have:=getD_lt h1.lt i;have:=getD_lt h2.lt i;unfold gz;omega)
 have As:=nU h1.lt h2.lt;have Av:∀k≤max n1 n2,-1000000000<=(aF (gz (au 10000 a1) (au 10000 a2)) 0 k).1/\(aF (gz (au 10000 a1) (au 10000 a2)) 0 k).1<=1000000000:=λk _=>by(have:=As k;omega)
 have Ay:0<=(aF (gz (au 10000 a1) (au 10000 a2)) 0 (max n1 n2)).1/\(aF (gz (au 10000 a1) (au 10000 a2)) 0 (max n1 n2)).1<10000:=by(have:=As (max n1 n2);omega)
 have Ax:gz (au 10000 a1) (au 10000 a2) (max n1 n2)=0:=by(unfold gz;rw[lz kb4,lz kd0];rfl)
 refine clb Ij (hc:=xM (d:=gz (au 10000 a1) (au 10000 a2)) (c0:=0) (lb:=[pT w.heap.size,pT A0.heap.size]) V6 E1 U CG Av Ay Ax) (hk:=?_);rintro _ _ H ⟨k,D1,E4,Aw,ho⟩;have H:=H.2;obtain⟨Af,O,rfl,C0,-,-,-⟩:=e8 ho;have E33:=xt E33 H;obtain⟨Aq,Ar⟩:=IN h1.lt h2.lt (n:=max n1 n2) (k:=k) ⟨by rw[h1.len];omega,by rw[h2.len];omega⟩ D1 Aw;rw[h1.val,h2.val]at Ar;have Ab:=ho;rw[mB Aq]at Ab;have Am:=ab0 Ab;refine clb rk (hc:=fL Am (by rw[fg,eN]) C0 U) (hk:=?_);rintro _ _ Ao ⟨Ap,rfl,Az,Cr⟩;have E33:=xt E33 Ao.2;have CB:=CP (c:=O) Aq Ar (Am.ext Ao.2) Az (by rw[fg,eN];exact Cr) U;refine I ?_;exact am (t:=4) (v:=.slice Af Ap O) Z E33 ⟨Af,Ap,O,rfl,CB.mono U⟩ Z
def oZ (h1:en w lo1 A1 n1 c1 a1)(s1:n1<=100000)(h2:en w lo2 A2 n2 c2 a2)(s2:n2<=100000)(hle:a2<=a1)(hln:n2<=n1):
 CL 123 #[.slice A1 n1 c1,.slice A2 n2 c2] w (aH w λv w'=>∃A n c,v=.slice A n c/\en w' w.heap.size A n c (a1-a2)):=by
 refine aC func123 Z (I ?_);refine bx (λH E4 O=>?_);have E49:=E4.2;refine bx (λAy Av D1=>?_);have⟨O,E49⟩:=bw Av.2 O E49;refine I ?_;refine aa (aE (vf:=[]) (vc:=[pT w.heap.size,pT H.heap.size]) Z Z ?_);have E6:∀(i:Nat) (W:World),i<=n1->aN Ay W->CL 166 (([Value.int .i64 i]:List Value)++([pT w.heap.size,pT H.heap.size]:List Value)).toArray W (aH W λv _=>v=.int .i64 (dD (au 10000 a1) (au 10000 a2) i)):=by(intro i W hi X;have X2:=xt E49 X;exact Jb (h1.row.ext X2) h1.len (h2.row.ext X2) h2.len (O.ext X) (D1.ext X) (by have:=getD_lt h1.lt i;omega) (by have:=getD_lt h2.lt i;omega))
 have D2:∀i≤n1,-1000000000000<=dD (au 10000 a1) (au 10000 a2) i/\dD (au 10000 a1) (au 10000 a2) i<=1000000000000:=λi _=>by(have:=getD_lt h1.lt i;have:=getD_lt h2.lt i;unfold dD;omega)
 have E5:=j8 h1.lt h2.lt;obtain⟨Aw,B0,Az⟩:=Gp h1.lt h2.lt (n:=n1) ⟨by rw[h1.len];omega,by rw[h2.len];omega⟩ (by rw[h1.val,h2.val];exact hle);have As:∀k≤n1,-1000000000<=(aF (dD (au 10000 a1) (au 10000 a2)) 0 k).1/\(aF (dD (au 10000 a1) (au 10000 a2)) 0 k).1<=1000000000:=λk _=>by(have:=E5 k;omega)
 have CG:0<=(aF (dD (au 10000 a1) (au 10000 a2)) 0 n1).1/\(aF (dD (au 10000 a1) (au 10000 a2)) 0 n1).1<10000:=by(rw[Aw];omega)
 have CB:dD (au 10000 a1) (au 10000 a2) n1=0:=by(unfold dD;rw[lz kb4,lz kd0];rfl)
 refine clb Ij (hc:=xM (d:=dD (au 10000 a1) (au 10000 a2)) (c0:=0) (lb:=[pT w.heap.size,pT H.heap.size]) V7 E6 U D2 As CG CB) (hk:=?_);rintro _ _ E ⟨k,E1,E7,Ax,ho⟩;have E:=E.2;obtain⟨Af,A0,rfl,CY,-,-,-⟩:=e8 ho;have E49:=xt E49 E;have Aq:=B0 k;have Ar:=Az k E1 Ax;rw[h1.val,h2.val]at Ar;have Ab:=ho;rw[mB Aq]at Ab;have Am:=ab0 Ab;refine clb rk (hc:=fL Am (by rw[fg,eN]) CY U) (hk:=?_);rintro _ _ Ao ⟨Ap,rfl,C0,E0⟩;have E49:=xt E49 Ao.2;have Cr:=CP (c:=A0) Aq Ar (Am.ext Ao.2) C0 (by rw[fg,eN];exact E0) U;refine I ?_;exact am (t:=4) (v:=.slice Af Ap A0) Z E49 ⟨Af,Ap,A0,rfl,Cr.mono U⟩ Z
def Ex (h1:en w lo1 A1 n1 c1 a1)(s1:n1<=100000){m:Nat}(hm:m<10000):
 CL 160 #[.slice A1 n1 c1,.int .i64 m] w (aH w λv w'=>∃A n c,v=.slice A n c/\en w' w.heap.size A n c (a1*m)):=by
 refine aC func160 Z (I ?_);refine bx (λE D2 O=>?_);have E65:=D2.2;refine bx (λE0 C0 Ax=>?_);have⟨O,E65⟩:=bw C0.2 O E65;refine I ?_;refine aa (aE (vf:=[]) (vc:=[pT w.heap.size,pT E.heap.size]) Z Z ?_);have E1:∀(i:Nat) (W:World),i<=n1->aN E0 W->CL 208 (([Value.int .i64 i]:List Value)++([pT w.heap.size,pT E.heap.size]:List Value)).toArray W (aH W λv _=>v=.int .i64 (rT (au 10000 a1) m i)):=by(intro i W hi X;have X2:=xt E65 X;exact W5 (h1.row.ext X2) h1.len (O.ext X) (Ax.ext X) h1.lt hm)
 have CY:∀i≤n1,-1000000000000<=rT (au 10000 a1) m i/\rT (au 10000 a1) m i<=1000000000000:=λi _=>by(have:=xB h1.lt hm i;omega)
 have As:=tt h1.lt hm;have Av:∀k≤n1,-1000000000<=(aF (rT (au 10000 a1) m) 0 k).1/\(aF (rT (au 10000 a1) m) 0 k).1<=1000000000:=λk _=>by(have:=As k;omega)
 have B0:0<=(aF (rT (au 10000 a1) m) 0 n1).1/\(aF (rT (au 10000 a1) m) 0 n1).1<10000:=As n1;have Az:rT (au 10000 a1) m n1=0:=by(unfold rT;rw[lz kb4];simp)
 refine clb Ij (hc:=xM (d:=rT (au 10000 a1) m) (c0:=0) (lb:=[pT w.heap.size,pT E.heap.size]) Wc E1 U CY Av B0 Az) (hk:=?_);rintro _ _ H ⟨k,D1,E4,Aw,ho⟩;have H:=H.2;obtain⟨Af,A0,rfl,CB,-,-,-⟩:=e8 ho;have E65:=xt E65 H;obtain⟨Aq,Ar⟩:=SV h1.lt hm (n:=n1) (k:=k) kb4 D1 Aw;rw[h1.val]at Ar;have Ab:=ho;rw[mB Aq]at Ab;have Am:=ab0 Ab;refine clb rk (hc:=fL Am (by rw[fg,eN]) CB U) (hk:=?_);rintro _ _ Ap ⟨Ao,rfl,Ay,Cr⟩;have E65:=xt E65 Ap.2;have CG:=CP (c:=A0) Aq Ar (Am.ext Ap.2) Ay (by rw[fg,eN];exact Cr) U;refine I ?_;exact am (t:=4) (v:=.slice Af Ao A0) Z E65 ⟨Af,Ao,A0,rfl,CG.mono U⟩ Z
def wo {l:List {i:Nat // i<n}}{hk:k-1<n}(h:0<k)(hl:l.map (·.1)++(List.range k).reverse=(List.range n).reverse):(l++[(⟨k-1,hk⟩:{i:Nat // i<n})]).map (·.1)++(List.range (k-1)).reverse=(List.range n).reverse:=by
 rw[<-hl]
 obtain⟨j,rfl⟩:∃j,k=j+1:=⟨k-1,by omega⟩
 simp[List.range_succ]
def kb :
 CL 158 #[.slice A n c] w (aH w λv w'=>v=.func (.func 207) #[] #[pT w.heap.size]/\ar w' w.heap.size 159 #[.slice A n c]):=by
 refine aC func158 Z (I ?_);refine bx (λ_ H E=>?_);have E4:=H.2;refine aa (aJ (v:=.nilFunc) Z ?_);refine I ?_;refine aa (aE (vf:=[]) (vc:=[pT w.heap.size]) Z Z ?_);refine I ?_;exact am (t:=2) (v:=.func (.func 207) #[] #[pT w.heap.size]) Z E4 ⟨rfl,E⟩ Z
def iN (hb:ar w b 159 #[.slice A n c])(hr:Rw w lo A (ints xs))(hn:xs.length=n)(hm:n<=1000000):
 QI prog 207 [pT b] n (λi=>[.int .i64 i,.int .i64 ((xs.getD i 0:Nat):Int)]) (List.range n).reverse (λW=>ar W b 159 #[.slice A n c]/\Rw W lo A (ints xs)) w:=by
 intro l k6 Jx W hW hJ0 hJx0 hY Ao;have hb:=be hW hb;have hr:=Rw.ext hW hr;clear hW hJ0 hJx0;refine qC ?_;refine Ef func207 Z (I ?_);refine qF (I ?_);refine ck [(3,3),(7,18)] (λAb e W=>∃k:Nat,∃pre:List {i:Nat // i<n},(k=Ab)/\(e 3=.int .i64 ((k:Int)-1))/\(k<=n)/\(pre.map (·.1)++(List.range k).reverse=(List.range n).reverse)/\(k6 pre W)/\(True)/\(ar W b 159 #[.slice A n c])/\(Rw W lo A (ints xs))) (n) ⟨n,[],rfl,rfl,(qa0 _),zd,Ao,trivial,hb,hr⟩ ?_;rintro _ _ A0 ⟨k,pre,rfl,Aq,q1,E,O,E9,hb,hr⟩;by_cases hm:0<k;refine I ?_;obtain⟨_,o,hA,hc⟩:=hr.cells (k-1) _ (bG (xs:=xs) U);refine aa (aA (i:=k-1) (oo:=o+(k-1)) gX ji Z hA (dA Z U) U U ?_);refine aa (bn (v:=.int .i64 ((xs.getD (k-1) 0:Nat):Int)) U3 Z Z hc ?_);refine aa (xD (l:=l) (vs:=[.int .i64 ((k-1:Nat):Int),.int .i64 ((xs.getD (k-1) 0:Nat):Int)]) Z (aw (dA Z U) (aw Z Z)) (hY pre ⟨k-1,by omega⟩ A0 O (by have hl:=qb2 List.length E;simp at hl;omega)) ?_);rintro _ _ Am;obtain⟨q,rfl,Af,Ap⟩:=ru Am;show wpListIn _ _ _ _ _ _ _ _;refine I ?_;refine xi (q:=!q) Z (λH=>?_) (λH=>?_);have hq:q=false:=by simpa using H
 refine I ?_;exact Nn Z λv=>⟨⟨v,rfl⟩,.inr ⟨_,⟨_,wo hm E⟩,Ap hq⟩⟩;have hq:q=true:=by simpa using H
 obtain⟨hJ,hK⟩:=Af hq;obtain⟨hb,hr⟩:=hK ⟨hb,hr⟩;refine I ?_;refine aa (jq (a:=(k:Int)-1) (b:=1) (c:=((k-1:Nat):Int)-1) Z Z j0 U ?_);refine I ?_;exact bJ ⟨k-1,pre++[⟨k-1,by omega⟩],rfl,rfl,U,(wo hm E),hJ,E9,hb,hr⟩;refine I ?_;exact sq Z λv=>⟨⟨v,rfl⟩,.inl ⟨pre,by rw[show k=0 by omega]at E;simpa using E,O⟩⟩
end Go.Proofs.YtlmihmlnpjkblaaGreatDoor
def nZ {B:Nat}(hB:2<=B)(a:Nat):a<B^(au B a).length:=(bi B hB a _).1 (qa0 _)
def Ey {B:Nat}(hB:2<=B)(a b k:Nat)(ha:(au B a).length<=k)(hb:(au B b).length<=k):(au B (a+b)).length<=k+1:=by
 rw[bi B hB]at *
 have:B^(k+1)=B^k*B:=Nat.pow_succ ..
 have h2:B^k*2<=B^k*B:=Nat.mul_le_mul_left _ hB
 omega
def mC {B:Nat}(hB:2<=B)(a m k:Nat)(ha:(au B a).length<=k)(hm:m<B):(au B (a*m)).length<=k+1:=by
 rw[bi B hB]at *
 have h1:B^(k+1)=B^k*B:=Nat.pow_succ ..
 by_cases h0:a=0
 · subst h0
   have:=Nat.pow_pos (n:=k+1) (show 0<B by omega)
   omega
 · have:a*m<a*B:=(Nat.mul_lt_mul_left J).2 hm
   have h2:a*B<=B^k*B:=Nat.mul_le_mul_right B J
   omega
def ey {B:Nat}(hB:2<=B){a b:Nat}(h:a<=b):(au B a).length<=(au B b).length:=by
 rw[bi B hB]
 exact Nat.lt_of_le_of_lt h (nZ hB b)
def Gx {B:Nat}(hB:2<=B)(a:Nat)(h:0<a):au B (a*B)=0::au B a:=by
 rw[qr B _ hB (Nat.mul_pos h J),Nat.mul_mod_left,Nat.mul_div_cancel _ J]
def jw {B:Nat}(hB:2<=B){a:Nat}(h:(au B a).length=0):a=0:=by
 rcases Nat.eq_zero_or_pos a with h0|h0
 · exact h0
 · rw[qr B a hB h0]at h;simp at h
def mD {B:Nat}(hB:2<=B){a:Nat}(h:0<(au B a).length):0<a:=by
 rcases Nat.eq_zero_or_pos a with h0|h0
 · subst h0;simp[gy]at h
 · exact h0
def nD (a:Nat)(ys:List Nat)(pre:List Nat):Nat:=pre.foldl (λs i=>s*10000+a*ys.getD i 0) 0
def tN (a:Nat)(ys pre:List Nat)(x:Nat):nD a ys (pre++[x])=nD a ys pre*10000+a*ys.getD x 0:=by simp[nD]
def ws (a:Nat)(ys:List Nat):∀k s,k<=ys.length->(List.range k).reverse.foldl (λs i=>s*10000+a*ys.getD i 0) s=s*10000^k+a*bS 10000 (ys.take k)
 |0,s,_=>by simp[bS]
 | k+1,s,h=>by
   rw[List.range_succ,List.reverse_append]
   simp only[List.reverse_cons,List.reverse_nil,List.nil_append,List.cons_append,List.foldl_cons]
   rw[ws a ys k _ J,List.take_succ_eq_append_getElem J,cj]
   have hl:(ys.take k).length=k:=by simp;omega
   have E:ys.getD k 0=ys[k]:=by simp[show k<ys.length by omega]
   rw[hl,E]
   simp only[bS,Nat.mul_zero,Nat.add_zero,Nat.pow_succ]
   grind
def Gy (a:Nat)(ys:List Nat){n:Nat}(h:ys.length=n):nD a ys (List.range n).reverse=a*bS 10000 ys:=by
 unfold nD
 rw[ws a ys n 0 J,List.take_of_length_le J]
 simp
namespace Go.Proofs.YtlmihmlnpjkblaaGreatDoor
open Go Go.Eng Go.RowKit Tryz
variable {B D lo a n1 c1 a1 lo1 n2 c2 a2 lo2:Nat}{A1 A2:Option Addr}{W W' w w':World}
attribute [local irreducible] wpListIn Code.wpIn Oper.wpIn Exit.then Exit.inBlock Exit.noGoto
set_option maxHeartbeats 40000000
section
variable {w0:World}{A:Option Addr}{n c:Nat}
def en.cel {row:Option Nat}(hg:W.grownBy W' row)(hr:∀r,row=some r->B<=r/\∃o:Obj,W.heap[r]?=some o/\o.isCells=false)(h:en W lo A n c a):en W' lo A n c a:=⟨h.row.cel hg hr,h.len,h.cap⟩
def en.dfr (hK:ll w D)(h:en w lo A n c a):en (w.putObj D (.deferred none)) lo A n c a:=⟨h.row.dfr hK,h.len,h.cap⟩
def en.zero (w:World)(lo:Nat):en w lo none 0 0 0:=⟨Rw.nil w lo,rfl,qa0 _⟩
def en.hi (h:en w lo A n c a):∀ad,A=some ad->ad.block<w.heap.size:=h.row.hi
def en.le (h:en w lo A n c a):(au 10000 a).length<=n:=by rw[h.len];exact qa0 _
end
def qc (lo a:Nat)(v:Value)(w:World):Prop:=∃A n c,v=.slice A n c/\en w lo A n c a
def qc.ext {v:Value}(k:aN w w')(h:qc lo a v w):qc lo a v w':=by
 obtain⟨A,n,c,e,h⟩:=h
 exact⟨A,n,c,e,h.ext k⟩
set_option maxRecDepth 100000 in
def Jc (h1:en w lo1 A1 n1 c1 a1)(s1:n1<=10000)(h2:en w lo2 A2 n2 c2 a2)(s2:n2<=10000):
 CL 141 #[.slice A1 n1 c1,.slice A2 n2 c2] w (aH w λv w'=>∃A n c,v=.slice A n c/\en w' w.heap.size A n c (a1*a2)):=by
 refine rt func141 Z (I ?_);refine bx (λE6 Ix H=>?_);have E4:=Ix.2;refine I ?_;refine al BQ (λES P0 A0=>?_);have⟨H,E4⟩:=bw P0.2 H E4;refine I ?_;refine cl D7 (kb (A:=A2) (n:=n2) (c:=c2)) ?_;rintro _ E0 L4 ⟨rfl,G0⟩;have⟨H,A0,E4⟩:=cD L4.2 H A0 E4;refine I ?_;refine so (m:=n2) (enc:=λx=>[.int .i64 x,.int .i64 (((au 10000 a2).getD x 0:Nat):Int)]) (order:=(List.range n2).reverse) (Kq:=λW=>ar W ES.heap.size 159 #[.slice A2 n2 c2]/\Rw W lo2 A2 (ints (au 10000 a2))) (gf:=207) (lb:=[pT ES.heap.size]) (ps:=[10,11]) Z D9 (iN G0 (h2.row.ext E4) h2.len U) (λW W' row hq As hr=>⟨ad6 As hr hq.1,Rw.cel As hr hq.2⟩) (λ_=>rfl) [7] (λx=>[.int .i64 (((au 10000 a2).getD x 0:Nat):Int)]) ?asn (λpre W=>∃Av:Option Addr,∃Am:Nat,∃Ar:Nat,(Am<=n1+2+2*pre.length)/\(E0.heap.size<=W.heap.size)/\(aN w W)/\(ar W w.heap.size 159 #[.slice A1 n1 c1])/\(ar W E6.heap.size 159 #[.slice Av Am Ar])/\(en W E0.heap.size Av Am Ar (nD a1 (au 10000 a2) pre))) (λ_ _ _=>False) ?hI ?hIx ?h0 ?body ?done ?stop;case asn=>
  intro l x W K hK;refine I ?_;exact hK
 case hI=>
  rintro pre W W' row ⟨Av,Am,Ar,q1,E1,E,H,A0,hv⟩ As hr;exact⟨Av,Am,Ar,q1,qa8 E1 As.size,oT (B:=E0.heap.size) U As hr (bz E) E,ad6 As hr H,ad6 As hr A0,en.cel As hr hv⟩
 case hIx=>
  exact λ_ _ _ _ _ h=>h.elim
 case h0=>
  exact⟨none,0,0,U,qa0 _,E4,H,A0,en.zero _ _⟩
 case body=>
  rintro l pre x W ⟨Av,Am,Ar,q1,E1,E,H,A0,hv⟩ Q0 hx T2;have Kp:=eK.refl [E6.heap.size] W;have zW:=bz E;have N0:=hv.hi;have hd:=getD_lt h2.lt x;have E7:=ae3 A0;by_cases hz:Am=0;have E9:=jw (B:=10000) U (hv.len.trans U);refine I ?_;have hL:w.heap.size<=W.heap.size:=J
  refine bP 5 ?_;refine sf ?_;refine b8 (λv w=>qc W.heap.size (a1*((au 10000 a2).getD x 0)) v w) (hs:=λ_ _ _ k h=>h.ext k) (λ_ _ hR26 _=>?_) ?_;refine clb D8 (hc:=Ex (h1.ext (xt E hR26)) U hd) (hk:=?_);rintro _ _ L1 ⟨Ab,Ay,Cr,rfl,Af⟩;have E31:=L1.2;have Af:=Af.mono (lo':=W.heap.size) (by have:=bz hR26;omega);refine I ?_;exact fs ⟨E31,⟨Ab,Ay,Cr,rfl,Af⟩⟩;refine b8 (λv w=>qc W.heap.size ((nD a1 (au 10000 a2) pre)+a1*((au 10000 a2).getD x 0)) v w) (hs:=λ_ _ _ k h=>h.ext k) (λ_ _ hR34 K2=>?_) ?_;obtain⟨Ab,Ay,Cr,p36,Af⟩:=(K2 3 21 Z Z);have Lk:Ay<=n1+1:=by rw[<-Af.len];exact mC U _ _ _ h1.le hd
  have hv:=aa9 hR34 hv;refine clb zm (hc:=oX hv U Af U) (hk:=?_) (hv:=aw Z (aw p36 Z));rintro _ _ Li ⟨Ap,Aq,Ax,rfl,O⟩;have E40:=Li.2;have O:=O.mono (lo':=W.heap.size) (by have:=bz hR34;omega);refine I ?_;exact fs ⟨E40,⟨Ap,Aq,Ax,rfl,O⟩⟩;refine sf ?_;intro _ _ hR43 GC;have H:=be hR43.2 H;have A0:=be hR43.2 A0;have E:=xt E hR43.2;have Kp:=ad8 Kp hR43.2;obtain⟨Ap,Aq,Ax,_,O⟩:=(GC 4 22 Z Z);refine SO A0 (λ_ D1 KC=>?_);have H:=pb D1 H;have O:=ac7 D1 U O;have E:=bA D1 E;have Kp:=ae0 Kp D1 L7;have P1:=ij D1;refine I ?_;have H4:Aq<=n1+2+0:=by(rw[<-O.len];rw[E9];rw[Nat.zero_add];exact qa8 (mC U _ _ _ h1.le hd) U)
  refine I ?_;exact⟨Kp.others kc0,λhq=>⟨Kp.blk q4 hq.1,Kp.rw (λCB e=>by have:=h2.hi CB e;simp;omega) hq.2⟩,⟨Ap,Aq,Ax,q4,U,E,H,KC,(by rw[tN];rw[E9]at O ⊢;simpa using O.mono U)⟩⟩;have H3:=mD (B:=10000) U (a:=nD a1 (au 10000 a2) pre) (by rw[hv.len];omega);refine I ?_;refine BS (λ_ Az _ EW=>?_);have H:=be Az H;have A0:=be Az A0;have hv:=aa9 Az hv;have E:=xt E Az;have Kp:=ad8 Kp Az;have S9:=bz Az;refine I ?_;refine aa (jI (v:=.slice (some ⟨W.heap.size,0,none⟩) 1 1) (k:=1) gX lf Z dc Z EW Z hv.row (by rw[iY,hv.len];omega) tL Rd U U (λ_ La FR B0 _=>?_));have H:=aa3 B0 RM H;have A0:=aa3 B0 RM A0;have hv:=en.gr B0 (λCB e=>by have:=N0 CB e;simp[Value.ownBlock];omega) hv;have Kp:=eK.gr Kp B0 (λb hb=>by exact Or.inr (by simp[Value.ownBlock]at hb;omega));have E:=cR E B0 (bz E) (λg KM=>by have:=(EW.lt g KM).1;omega);have S0:=B0.size;obtain⟨Aw,KY,rfl,Ne,Rm,-,-⟩:=e8 FR;have hs:=ab0 FR;have Ao:en La W.heap.size Aw (1+Am) KY (nD a1 (au 10000 a2) pre*10000):=by(have e:=Gx (B:=10000) U _ H3;exact⟨by rw[e];exact hs,by rw[e,List.length_cons,hv.len];omega,Ne⟩)
  refine SO A0 (λCG CY D2=>?_);have H:=pb CY H;have Ao:=ac7 CY U Ao;have E:=bA CY E;have Kp:=ae0 Kp CY L7;have P2:=ij CY;refine I ?_;have hL:w.heap.size<=CG.heap.size:=J
  refine bP 5 ?_;refine sf ?_;refine b8 (λv w=>qc CG.heap.size (a1*((au 10000 a2).getD x 0)) v w) (hs:=λ_ _ _ k h=>h.ext k) (λ_ _ hR75 _=>?_) ?_;refine clb D8 (hc:=Ex (h1.ext (xt E hR75)) U hd) (hk:=?_);rintro _ _ L2 ⟨Ab,Ay,Cr,rfl,Af⟩;have E80:=L2.2;have Af:=Af.mono (lo':=CG.heap.size) (by have:=bz hR75;omega);refine I ?_;exact fs ⟨E80,⟨Ab,Ay,Cr,rfl,Af⟩⟩;refine b8 (λv w=>qc CG.heap.size ((nD a1 (au 10000 a2) pre*10000)+a1*((au 10000 a2).getD x 0)) v w) (hs:=λ_ _ _ k h=>h.ext k) (λ_ _ hR83 K3=>?_) ?_;obtain⟨Ab,Ay,Cr,L3,Af⟩:=(K3 3 21 Z Z);have Lk:Ay<=n1+1:=by rw[<-Af.len];exact mC U _ _ _ h1.le hd
  have Ao:=aa9 hR83 Ao;refine clb zm (hc:=oX Ao U Af U) (hk:=?_) (hv:=aw Z (aw L3 Z));rintro _ _ H2 ⟨Ap,Aq,Ax,rfl,O⟩;have E89:=H2.2;have O:=O.mono (lo':=CG.heap.size) (by have:=bz hR83;omega);refine I ?_;exact fs ⟨E89,⟨Ap,Aq,Ax,rfl,O⟩⟩;refine sf ?_;intro _ _ hR92 Lj;have H:=be hR92.2 H;have D2:=be hR92.2 D2;have Ao:=aa9 hR92.2 Ao;have E:=xt E hR92.2;have Kp:=ad8 Kp hR92.2;obtain⟨Ap,Aq,Ax,_,O⟩:=(Lj 4 22 Z Z);refine SO D2 (λ_ C0 No=>?_);have H:=pb C0 H;have Ao:=ac7 C0 U Ao;have O:=ac7 C0 U O;have E:=bA C0 E;have Kp:=ae0 Kp C0 L7;have T3:=ij C0;refine I ?_;have H4:Aq<=n1+3+2*pre.length+1+0:=by(rw[<-O.len];exact qa8 (Ey U _ _ (n1+3+2*pre.length) (by rw[Ao.len];omega) (qa8 (mC U _ _ _ h1.le hd) U)) U)
  refine I ?_;exact⟨Kp.others kc0,λhq=>⟨Kp.blk q4 hq.1,Kp.rw (λCB e=>by have:=h2.hi CB e;simp;omega) hq.2⟩,⟨Ap,Aq,Ax,q4,U,E,H,No,(by rw[tN];exact O.mono U)⟩⟩
 case stop=>
  exact λ_ _ _ _ _ _ h _=>h.elim
 case done=>
  rintro D W hD ⟨Av,Am,Ar,q1,E1,E,H,A0,hv⟩ hK;have zW:=bz E;refine I ?_;have E5:=hv.dfr hK;rw[Gy _ _ h2.len,h2.val]at E5;exact Nm (t:=4) (v:=.slice Av Am Ar) hK Z E U ⟨Av,Am,Ar,rfl,E5.mono U⟩ Z
end Go.Proofs.YtlmihmlnpjkblaaGreatDoor
def aQ (x y:Int):Int:=if x<y then -1 else if x=y then 0 else 1
def gd {x y:Int}(h:x<y):aQ x y=-1:=by simp[aQ,h]
def eT {x y:Int}(h:y<x):aQ x y=1:=by
 unfold aQ;rw[if_neg J,if_neg J]
def jy {x y:Int}(h:x=y):aQ x y=0:=by
 unfold aQ;rw[if_neg J,if_pos h]
def oc {x y u v:Int}(h1:x<y↔u<v)(h2:x=y↔u=v):aQ x y=aQ u v:=by
 unfold aQ;simp only[h1,h2]
def NU {a b:Nat}(h:(au 10000 a).length≠(au 10000 b).length):aQ (((au 10000 a).length:Nat):Int) (((au 10000 b).length:Nat):Int)=aQ (a:Int) (b:Int):=by
 have h1:=@ey 10000 J a b
 have h2:=@ey 10000 J b a
 refine oc ⟨λk=>?_,λk=>?_⟩ ⟨λk=>?_,λk=>?_⟩
 · omega
 · omega
 · omega
 · have:a=b:=J
   subst this;rfl
def nE {n j:Nat}(h:j<n):(List.range n).reverse[j]?=some (n-1-j):=by
 rw[List.getElem?_reverse ka5,List.length_range,List.getElem?_range J]
def Tx {p:List Nat}{x n:Nat}(h:p++[x] <+: (List.range n).reverse):x<n/\x=n-1-p.length/\p.length<n/\∀i,x<i->i<n->i∈p:=by
 have hl:p.length<n:=by have:=h.length_le;simp at this;omega
 have hx:(List.range n).reverse[p.length]?=some x:=by
  obtain⟨t,ht⟩:=h
  rw[<-ht];simp
 rw[nE hl]at hx
 have hx:n-1-p.length=x:=by simpa using hx
 refine⟨by omega,by omega,hl,λi _ _=>?_⟩
 have E:n-1-i<p.length:=J
 have:(List.range n).reverse[n-1-i]?=p[n-1-i]?:=by
  obtain⟨t,ht⟩:=h
  rw[<-ht,List.append_assoc,List.getElem?_append_left E]
 rw[nE J]at this
 have h3:n-1-(n-1-i)=i:=J
 rw[h3]at this
 exact qb0 this.symm
def wt (xs:List Nat){x:Nat}(h:x<xs.length):bS 10000 xs=bS 10000 (xs.take x)+10000^x*(xs.getD x 0+10000*bS 10000 (xs.drop (x+1))):=by
 have h1:xs=xs.take x++(xs.getD x 0::xs.drop (x+1)):=by
  have:xs.getD x 0=xs[x]:=by simp[h]
  rw[this,List.getElem_cons_drop,List.take_append_drop]
 conv=>lhs;rw[h1]
 rw[cj]
 have hl:(xs.take x).length=x:=by simp;omega
 rw[hl];rfl
def Ty {xs ys p:List Nat}{x n:Nat}(hx:∀d∈xs,d<10000)(hy:∀d∈ys,d<10000)(hn:xs.length=n)(hm:ys.length=n)(hp:p++[x] <+: (List.range n).reverse)(he:∀i∈p,xs.getD i 0=ys.getD i 0)(hne:xs.getD x 0≠ys.getD x 0):
 aQ ((xs.getD x 0:Nat):Int) ((ys.getD x 0:Nat):Int)=aQ ((bS 10000 xs:Nat):Int) ((bS 10000 ys:Nat):Int):=by
 obtain⟨h1,-,-,h2⟩:=Tx hp
 have hd:xs.drop (x+1)=ys.drop (x+1):=by
  apply List.ext_getElem
  · simp[hn,hm]
  · intro i h3 _
    have h3':x+1+i<xs.length:=by simp at h3;omega
    have h4':x+1+i<ys.length:=J
    have:=he _ (h2 (x+1+i) J J)
    simpa[h3',h4']using this
 rw[wt xs (x:=x) J,wt ys (x:=x) J,hd]
 have E:=lj 10000 (xs.take x) (λd hd=>hx d (List.mem_of_mem_take hd))
 have H:=lj 10000 (ys.take x) (λd hd=>hy d (List.mem_of_mem_take hd))
 have A0:(xs.take x).length=x:=by simp;omega
 have O:(ys.take x).length=x:=by simp;omega
 rw[A0]at E;rw[O]at H
 generalize bS 10000 (xs.take x)=s at *
 generalize bS 10000 (ys.take x)=t at *
 generalize bS 10000 (ys.drop (x+1))=u at *
 generalize xs.getD x 0=a at *
 generalize ys.getD x 0=b at *
 generalize 10000^x=B at *
 have key:∀s t a b:Nat,s<B->t<B->a<b->s+B*(a+10000*u)<t+B*(b+10000*u):=by
  intro s t a b _ _ _
  have:B*(a+10000*u)+B<=B*(b+10000*u):=by
   rw[<-Nat.mul_succ];exact Nat.mul_le_mul_left _ J
  omega
 rcases Nat.lt_or_gt_of_ne hne with h|h
 · rw[gd J,gd (by have:=key s t a b E H h;omega)]
 · rw[eT J,eT (by have:=key t s b a H E h;omega)]
def NV {a b n:Nat}(hn:(au 10000 a).length=n)(hm:(au 10000 b).length=n)(he:∀i∈(List.range n).reverse,(au 10000 a).getD i 0=(au 10000 b).getD i 0):a=b:=by
 have:au 10000 a=au 10000 b:=by
  apply List.ext_getElem
  · omega
  · intro i h1 h2
    have:=he i q4
    simpa[h1,h2]using this
 have h3:=qb2 (bS 10000) this
 rwa [cJ 10000 J,cJ 10000 J]at h3
namespace Go.Proofs.YtlmihmlnpjkblaaGreatDoor
variable {A1 A2:Option Addr}
set_option maxRecDepth 100000
open Go Go.Eng Go.RowKit Tryz
attribute [local irreducible] wpListIn Code.wpIn Oper.wpIn Exit.then Exit.inBlock Exit.noGoto
set_option maxHeartbeats 40000000
def Jd (x y:Int)(w:World):CL 171 #[.int .i64 x,.int .i64 y] w (aH w λv _=>v=.int .i64 (aQ x y)):=by
 by_cases h:x<y
 · rw[gd h];exact Tv x y h w
 · by_cases h2:x=y
   · rw[jy h2];exact cmp_eq x y h2 w
   · rw[eT U];exact Tw x y U w
def jN {n1 c1 a1 lo1:Nat}{w:World}(h1:en w lo1 A1 n1 c1 a1)(s1:n1<=100000){n2 c2 a2 lo2:Nat}(h2:en w lo2 A2 n2 c2 a2):
 CL 125 #[.slice A1 n1 c1,.slice A2 n2 c2] w (aH w λv w'=>v=.int .i64 (aQ (a1:Int) (a2:Int))):=by
 by_cases Cr:n1=n2;refine rt func125 Z (I ?_);refine bx (λAq D1 O=>?_);have E4:=D1.2;refine al lf (λAz E6 H=>?_);have⟨O,E4⟩:=bw E6.2 O E4;refine I ?_;refine cl D7 (kb (A:=A1) (n:=n1) (c:=c1)) ?_;rintro _ Ap CB ⟨rfl,B0⟩;have⟨O,H,E4⟩:=cD CB.2 O H E4;refine I ?_;refine so (m:=n1) (enc:=λx=>[.int .i64 x,.int .i64 (((au 10000 a1).getD x 0:Nat):Int)]) (order:=(List.range n1).reverse) (Kq:=λW=>ar W Az.heap.size 159 #[.slice A1 n1 c1]/\Rw W lo1 A1 (ints (au 10000 a1))) (gf:=207) (lb:=[pT Az.heap.size]) (ps:=[19,20]) Z D9 (iN B0 (h1.row.ext E4) h1.len U) (λW W' row hq A0 hr=>⟨ad6 A0 hr hq.1,Rw.cel A0 hr hq.2⟩) (λ_=>rfl) [5,6] (λx=>[.int .i64 x,.int .i64 (((au 10000 a1).getD x 0:Nat):Int)]) ?asn (λpre W=>(∀i∈pre,(au 10000 a1).getD i 0=(au 10000 a2).getD i 0)/\(Ap.heap.size<=W.heap.size)/\(aN w W)/\(ar W w.heap.size 159 #[.slice A2 n2 c2])/\(ar W Aq.heap.size 3 #[.int .i64 (0)])) (λc pre W=>c=.ret/\∃p x,pre=p++[x]/\(∀i∈p,(au 10000 a1).getD i 0=(au 10000 a2).getD i 0)/\(au 10000 a1).getD x 0≠(au 10000 a2).getD x 0/\(Ap.heap.size<=W.heap.size)/\(aN w W)/\(ar W Aq.heap.size 3 #[.int .i64 (aQ (((au 10000 a1).getD x 0:Nat):Int) (((au 10000 a2).getD x 0:Nat):Int))])) ?hI ?hIx ?h0 ?body ?done ?stop;case asn=>
  intro l x W K hK;refine I ?_;exact hK
 case hI=>
  rintro pre W W' row ⟨q1,Ab,E,O,H⟩ A0 hr;exact⟨q1,qa8 Ab A0.size,oT (B:=Ap.heap.size) U A0 hr (bz E) E,ad6 A0 hr O,ad6 A0 hr H⟩
 case hIx=>
  rintro c pre W W' row ⟨rfl,p,x,rfl,q1,As,Ab,E,H⟩ A0 hr;exact⟨rfl,p,x,rfl,q1,As,qa8 Ab A0.size,oT (B:=Ap.heap.size) U A0 hr (bz E) E,ad6 A0 hr H⟩
 case h0=>
  exact⟨zd,Nat.le_refl _,E4,O,H⟩
 case body=>
  rintro l pre x W ⟨q1,Ab,E,O,H⟩ ES hx Cr;have Kp:=eK.refl [Aq.heap.size] W;have zW:=bz E;have Ax:=ae3 H;obtain⟨_,o,hA,hc⟩:=(h2.row.ext E).cells x _ (bG (xs:=(au 10000 a2)) kd0);by_cases hne:(((au 10000 a1).getD x 0:Nat):Int)=(((au 10000 a2).getD x 0:Nat):Int);refine I ?_;refine aa (aA (i:=x) (oo:=o+x) gX ji Z hA Z U U ?_);refine aa (bn (v:=.int .i64 (((au 10000 a2).getD x 0:Nat):Int)) U3 Z Z hc ?_);refine I ?_;exact⟨Kp.others kc1,λhq=>⟨Kp.blk q4 hq.1,Kp.rw (λE1 e=>by have:=h1.hi E1 e;simp;omega) hq.2⟩,⟨(λi hi=>by rcases List.mem_append.1 hi with h|h;exact q1 i h;rw[List.mem_singleton.1 h];omega),U,E,O,H⟩⟩;refine I ?_;refine aa (aA (i:=x) (oo:=o+x) gX ji Z hA Z U U ?_);refine aa (bn (v:=.int .i64 (((au 10000 a2).getD x 0:Nat):Int)) U3 Z Z hc ?_);refine I ?_;refine aa (aA (i:=x) (oo:=o+x) gX ji Z hA Z U U ?_);refine aa (bn (v:=.int .i64 (((au 10000 a2).getD x 0:Nat):Int)) U3 Z Z hc ?_);refine cl Qy (Jd _ _ _) ?_;rintro _ _ Am rfl;have O:=be Am.2 O;have H:=be Am.2 H;have E:=xt E Am.2
  have Kp:=ad8 Kp Am.2;refine SO H (λ_ Ao E0=>?_);have O:=pb Ao O;have E:=bA Ao E;have Kp:=ae0 Kp Ao L7;have E9:=ij Ao;refine I ?_;exact⟨Kp.others kc1,rfl,pre,x,rfl,q1,U,U,E,E0⟩
 case stop=>
  rintro D c pre W hD CG ⟨rfl,p,x,rfl,q1,As,Ab,E,H⟩ hK;have zW:=bz E;have Aw:=Ty h1.lt h2.lt h1.len (h2.len.trans U) CG q1 As;rw[h1.val,h2.val]at Aw;refine I ?_;exact jM (v:=.int .i64 (aQ (((au 10000 a1).getD x 0:Nat):Int) (((au 10000 a2).getD x 0:Nat):Int))) hK (cC Z (bI U3 Z Z (ab4 (H.dfr hK) Z))) ((dK _).low E U) (by rw[Aw])
 case done=>
  rintro D W hD ⟨q1,Ab,E,O,H⟩ hK;have zW:=bz E;refine I ?_;refine SO H (λ_ Av C0=>?_);have O:=pb Av O;have hK:=ad3 Av (hK.ne H) hK;have E:=bA Av E;refine I ?_;exact jM (v:=.int .i64 0) hK (cC Z (bI U3 Z Z (ab4 (C0.dfr hK) Z))) ((dK _).low E U) (by rw[jy (by have:=NV h1.len (h2.len.trans U) q1;omega)])
 refine rt func125 Z (I ?_);refine bx (λ_ CY Af=>?_);have E24:=CY.2;refine al lf (λ_ E5 Ar=>?_);have⟨Af,E24⟩:=bw E5.2 Af E24;refine I ?_;refine cl Qy (Jd _ _ _) ?_;rintro _ _ E7 rfl;have⟨Af,Ar,E24⟩:=cD E7.2 Af Ar E24;refine SO Ar (λ_ Ay D2=>?_);have Af:=pb Ay Af;have E24:=bA Ay E24;refine I ?_;exact xC (v:=.int .i64 (aQ (n1:Int) (n2:Int))) (cC Z (bI U3 Z Z (ab4 D2 Z))) E24 (by have:=NU (a:=a1) (b:=a2) (by rw[h1.len,h2.len];omega);rw[h1.len,h2.len]at this;rw[this])
end Go.Proofs.YtlmihmlnpjkblaaGreatDoor
