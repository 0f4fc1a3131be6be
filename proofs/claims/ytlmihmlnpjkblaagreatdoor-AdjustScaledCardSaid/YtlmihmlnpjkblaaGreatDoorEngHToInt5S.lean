/- Part of the proof of a statement about an adjustment. -/
import Derived.Test.YtlmihmlnpjkblaaGreatDoorEngJToEngNS
set_option linter.all false
namespace Go.Proofs.YtlmihmlnpjkblaaGreatDoor
open Go Go.Eng Go.RowKit Tryz
variable {xs:Array Operand}{ats:Array TypeId}{cs:Array Value}{X q:Bool}{f:FuncId}{l:List (Nat×Nat)}{vs lb:List Value}{b B n M k off o j s d k' el size bytes:Nat}{sel:Nat->Bool}{e e1 e':Nat->Value}{p G G':Prop}{t tb:TypeId}{u v1 v2 v3 v4 v:Value}{K:Value->World->Prop}{w w' w0:World}
def ep (h:p:=by assumption):p:=h
def U (h:p:=by omega):p:=h
def dc (h:p:=by decide):p:=h
def xt {a b c:World}(h:aO a b)(k:aO b c):aO a c:=aO.trans h k
def be (k:aO w w')(h:ar w b t cs):ar w' b t cs:=ad1 k h
def pb {c:Nat}(k:ee w w' b)(h:ar w c t cs)(hne:c≠b:=by omega):ar w' c t cs:=ab1 k hne h
def bi (k:ee w w' b)(h:Below B w0 w)(hb:B<=b:=by omega):Below B w0 w':=ad5 k h hb
def bz (h:Below n w w'):w.heap.size<=w'.heap.size:=Below.size h
def gJ (k:ee w w' b):w'.heap.size=w.heap.size:=ee.size k
def bt (h:ar w b t cs):b<w.heap.size:=ar.lt h
section
variable {a:World}{p:Nat}{b1 b2 b3 b4 b5:Nat}{t1 t2 t3 t4 t5:TypeId}{c1 c2 c3 c4 c5:Array Value}
def bo (k:aO w w')(h1:ar w b1 t1 c1)(E:aO a w):ar w' b1 t1 c1/\aO a w':=⟨be k h1,xt E k⟩
def j3 (k:ee w w' p)(h1:ar w b1 t1 c1)(E:Below B a w)(n1:b1≠p:=by omega)(hb:B<=p:=by omega):ar w' b1 t1 c1/\Below B a w'/\w'.heap.size=w.heap.size:=⟨ab1 k n1 h1,ad5 k E hb,ee.size k⟩
def ca (k:aO w w')(h1:ar w b1 t1 c1)(h2:ar w b2 t2 c2)(E:aO a w):ar w' b1 t1 c1/\ar w' b2 t2 c2/\aO a w':=⟨be k h1,be k h2,xt E k⟩
def dN (k:aO w w')(h1:ar w b1 t1 c1)(h2:ar w b2 t2 c2):ar w' b1 t1 c1/\ar w' b2 t2 c2:=⟨be k h1,be k h2⟩
def Re (k:ee w w' p)(h1:ar w b1 t1 c1)(h2:ar w b2 t2 c2)(E:Below B a w)(n1:b1≠p:=by omega)(n2:b2≠p:=by omega)(hb:B<=p:=by omega):ar w' b1 t1 c1/\ar w' b2 t2 c2/\Below B a w'/\w'.heap.size=w.heap.size:=⟨ab1 k n1 h1,ab1 k n2 h2,ad5 k E hb,ee.size k⟩
def js (k:ee w w' p)(h1:ar w b1 t1 c1)(h2:ar w b2 t2 c2)(n1:b1≠p:=by omega)(n2:b2≠p:=by omega):ar w' b1 t1 c1/\ar w' b2 t2 c2:=⟨ab1 k n1 h1,ab1 k n2 h2⟩
def fw (k:aO w w')(h1:ar w b1 t1 c1)(h2:ar w b2 t2 c2)(h3:ar w b3 t3 c3)(E:aO a w):ar w' b1 t1 c1/\ar w' b2 t2 c2/\ar w' b3 t3 c3/\aO a w':=⟨be k h1,be k h2,be k h3,xt E k⟩
def vZ (k:aO w w')(h1:ar w b1 t1 c1)(h2:ar w b2 t2 c2)(h3:ar w b3 t3 c3):ar w' b1 t1 c1/\ar w' b2 t2 c2/\ar w' b3 t3 c3:=⟨be k h1,be k h2,be k h3⟩
def Nj (k:ee w w' p)(h1:ar w b1 t1 c1)(h2:ar w b2 t2 c2)(h3:ar w b3 t3 c3)(E:Below B a w)(n1:b1≠p:=by omega)(n2:b2≠p:=by omega)(n3:b3≠p:=by omega)(hb:B<=p:=by omega):ar w' b1 t1 c1/\ar w' b2 t2 c2/\ar w' b3 t3 c3/\Below B a w'/\w'.heap.size=w.heap.size:=⟨ab1 k n1 h1,ab1 k n2 h2,ab1 k n3 h3,ad5 k E hb,ee.size k⟩
def qm (k:ee w w' p)(h1:ar w b1 t1 c1)(h2:ar w b2 t2 c2)(h3:ar w b3 t3 c3)(n1:b1≠p:=by omega)(n2:b2≠p:=by omega)(n3:b3≠p:=by omega):ar w' b1 t1 c1/\ar w' b2 t2 c2/\ar w' b3 t3 c3:=⟨ab1 k n1 h1,ab1 k n2 h2,ab1 k n3 h3⟩
def kC (k:aO w w')(h1:ar w b1 t1 c1)(h2:ar w b2 t2 c2)(h3:ar w b3 t3 c3)(h4:ar w b4 t4 c4)(E:aO a w):ar w' b1 t1 c1/\ar w' b2 t2 c2/\ar w' b3 t3 c3/\ar w' b4 t4 c4/\aO a w':=⟨be k h1,be k h2,be k h3,be k h4,xt E k⟩
def bf4 (k:aO w w')(h1:ar w b1 t1 c1)(h2:ar w b2 t2 c2)(h3:ar w b3 t3 c3)(h4:ar w b4 t4 c4):ar w' b1 t1 c1/\ar w' b2 t2 c2/\ar w' b3 t3 c3/\ar w' b4 t4 c4:=⟨be k h1,be k h2,be k h3,be k h4⟩
def Rf (k:ee w w' p)(h1:ar w b1 t1 c1)(h2:ar w b2 t2 c2)(h3:ar w b3 t3 c3)(h4:ar w b4 t4 c4)(E:Below B a w)(n1:b1≠p:=by omega)(n2:b2≠p:=by omega)(n3:b3≠p:=by omega)(n4:b4≠p:=by omega)(hb:B<=p:=by omega):ar w' b1 t1 c1/\ar w' b2 t2 c2/\ar w' b3 t3 c3/\ar w' b4 t4 c4/\Below B a w'/\w'.heap.size=w.heap.size:=⟨ab1 k n1 h1,ab1 k n2 h2,ab1 k n3 h3,ab1 k n4 h4,ad5 k E hb,ee.size k⟩
def pf4 (k:ee w w' p)(h1:ar w b1 t1 c1)(h2:ar w b2 t2 c2)(h3:ar w b3 t3 c3)(h4:ar w b4 t4 c4)(n1:b1≠p:=by omega)(n2:b2≠p:=by omega)(n3:b3≠p:=by omega)(n4:b4≠p:=by omega):ar w' b1 t1 c1/\ar w' b2 t2 c2/\ar w' b3 t3 c3/\ar w' b4 t4 c4:=⟨ab1 k n1 h1,ab1 k n2 h2,ab1 k n3 h3,ab1 k n4 h4⟩
def Jc (k:aO w w')(h1:ar w b1 t1 c1)(h2:ar w b2 t2 c2)(h3:ar w b3 t3 c3)(h4:ar w b4 t4 c4)(h5:ar w b5 t5 c5)(E:aO a w):ar w' b1 t1 c1/\ar w' b2 t2 c2/\ar w' b3 t3 c3/\ar w' b4 t4 c4/\ar w' b5 t5 c5/\aO a w':=⟨be k h1,be k h2,be k h3,be k h4,be k h5,xt E k⟩
def kD (k:aO w w')(h1:ar w b1 t1 c1)(h2:ar w b2 t2 c2)(h3:ar w b3 t3 c3)(h4:ar w b4 t4 c4)(h5:ar w b5 t5 c5):ar w' b1 t1 c1/\ar w' b2 t2 c2/\ar w' b3 t3 c3/\ar w' b4 t4 c4/\ar w' b5 t5 c5:=⟨be k h1,be k h2,be k h3,be k h4,be k h5⟩
def Vw (k:ee w w' p)(h1:ar w b1 t1 c1)(h2:ar w b2 t2 c2)(h3:ar w b3 t3 c3)(h4:ar w b4 t4 c4)(h5:ar w b5 t5 c5)(E:Below B a w)(n1:b1≠p:=by omega)(n2:b2≠p:=by omega)(n3:b3≠p:=by omega)(n4:b4≠p:=by omega)(n5:b5≠p:=by omega)(hb:B<=p:=by omega):ar w' b1 t1 c1/\ar w' b2 t2 c2/\ar w' b3 t3 c3/\ar w' b4 t4 c4/\ar w' b5 t5 c5/\Below B a w'/\w'.heap.size=w.heap.size:=⟨ab1 k n1 h1,ab1 k n2 h2,ab1 k n3 h3,ab1 k n4 h4,ab1 k n5 h5,ad5 k E hb,ee.size k⟩
def sG (k:ee w w' p)(h1:ar w b1 t1 c1)(h2:ar w b2 t2 c2)(h3:ar w b3 t3 c3)(h4:ar w b4 t4 c4)(h5:ar w b5 t5 c5)(n1:b1≠p:=by omega)(n2:b2≠p:=by omega)(n3:b3≠p:=by omega)(n4:b4≠p:=by omega)(n5:b5≠p:=by omega):ar w' b1 t1 c1/\ar w' b2 t2 c2/\ar w' b3 t3 c3/\ar w' b4 t4 c4/\ar w' b5 t5 c5:=⟨ab1 k n1 h1,ab1 k n2 h2,ab1 k n3 h3,ab1 k n4 h4,ab1 k n5 h5⟩
end
abbrev pT (b:Nat):Value:=.pointer (some ⟨b,0,none⟩)
abbrev CL:=Calls prog
section draws
variable {P:Program}{r:Option Nat}{N:Nat}{e0:Nat->Value}{ds:List Deferred}{Q:Exit->Act->World->Prop}{l:List Oper}{Φ:List Ph}{R:World->World->Prop}{JT:(Nat->Bool)->(Nat->Value)->World->Prop}
def sH (Q:Exit->Act->World->Prop)(r:Option Nat)(n:Nat)(P:Program)(N:Nat)(ds:List Deferred)(l:List Oper)(M:Nat)(R:World->World->Prop)(JT:(Nat->Bool)->(Nat->Value)->World->Prop)(e0:Nat->Value)(w0:World)(Fin:List Ph->Prop):Nat->List Ph->List Oper->Prop
 |_,acc,[]=>Fin acc.reverse
 |i,acc,o::os=>∃φ,(zR R φ/\∀(e:Nat->Value) (w:World) (ls:Nat->Bool),R w0 w->JT ls e w->(∀j k,cF l j k=true->ls j=true->ls k=true)->ls i=false->(∀k,cF l i k=true->ls k=true)->(∀j d,ck o j=true->db l j=some d->tU acc.reverse j (e d) w)->
  wpListIn (Fw r) n P l.toArray (I9 Q N ds R JT w ls i φ o e (fr l M acc.reverse (ck o) e e0)) [o] (act N (fr l M acc.reverse (ck o) e e0) ds) w)/\sH Q r n P N ds l M R JT e0 w0 Fin (i+1) (φ::acc) os
def EE:∀(Φ Ψ:List Ph) (j:Nat) (x:Value),j<Φ.length->Wy (Φ++Ψ) j x=Wy Φ j x
 |[],_,_,_,h=>by simp at h
 |_::_,_,0,_,_=>rfl
 |_::Φ,Ψ,j+1,x,h=>EE Φ Ψ j x kb5
def EF:∀(Φ Ψ:List Ph) (j:Nat) (x:Value) (w:World),j<Φ.length->tU (Φ++Ψ) j x w=tU Φ j x w
 |[],_,_,_,_,h=>by simp at h
 |_::_,_,0,_,_,_=>rfl
 |_::Φ,Ψ,j+1,x,w,h=>EF Φ Ψ j x w kb5
def Tp {Ψ:List Ph}(h:∀j,sel j=true->j<Φ.length):fr l M (Φ++Ψ) sel e e0=fr l M Φ sel e e0:=by
 funext t
 unfold fr
 split
 · rfl
 · split
   · rename_i hq;exact EE _ _ _ _ (h _ hq)
   · rfl
def xX {Fin:List Ph->Prop}:∀(os:List Oper) (i:Nat) (acc:List Ph),acc.length=i->(∀k o,os[k]?=some o->∀j,ck o j=true->j<i+k)->sH Q r n P N ds l M R JT e0 w0 Fin i acc os->
 ∃φs,YI Q r n P N ds l M (acc.reverse++φs) R JT e0 w0 i os φs/\Fin (acc.reverse++φs)
 |[],i,acc,_,_,h=>⟨[],trivial,by simpa[sH]using h⟩
 | o::os,i,acc,hl,hp,⟨φ,⟨h1,h2⟩,h3⟩=>by
   obtain⟨φs,h4,h5⟩:=xX os (i+1) (φ::acc) (by simp[hl]) (λk o' ho j E=>by have:=hp (k+1) o' ka6 j E;omega) h3
   rw[List.reverse_cons,List.append_assoc]at h4 h5
   have H:∀j,ck o j=true->j<acc.reverse.length:=λj E=>by have:=hp 0 o Z j E;simp;omega
   refine⟨φ::φs,⟨⟨h1,λe w ls a1 O A1 W A2 A0=>?_⟩,h4⟩,h5⟩
   rw[Tp H]
   exact h2 e w ls a1 O A1 W A2 (λj d E hd=>by have:=A0 j d E hd;rwa [EF _ _ _ _ _ (H j E)]at this)
def EG {l:List Oper}(hwf:Ni l=true):∀k o,(l.take M)[k]?=some o->∀j,ck o j=true->j<0+k:=by
 intro i o ho j W
 have E:l[i]?=some o:=by
  rw[List.getElem?_take]at ho
  split at ho
  · exact ho
  · cases ho
 obtain⟨H,O,hb⟩:=List.any_eq_true.1 W
 simp only[Bool.and_eq_true]at hb
 have A0:=qb4 hb.2
 have h1:=List.all_eq_true.1 hwf i (List.mem_range.2 (List.getElem?_eq_some_iff.1 E).1)
 rw[E]at h1
 have h2:=List.all_eq_true.1 h1 H (by simpa using O)
 simp only[hb.1,Bool.not_true,Bool.false_or]at h2
 rw[Nat.blt_eq]at h2
 omega
abbrev Tq (w w':World):Prop:=w.heap.size<=w'.heap.size/\aO w w'
def Vx (h:aO w w'):Tq w w':=⟨Below.size h,h⟩
def All (l:List Oper)(M:Nat):List Ph->(Nat->Value)->World->Prop:=λΦ e w=>∀j d,Nat.blt j M=true->db l j=some d->tU Φ j (e d) w
def bQ {id:Nat}(M:Nat)(h:sH Q r n prog N ds l M aO (λ_ _ _=>True) e0 w0 (λΦ=>∀e w,Tq w0 w->All l M Φ e w->wpListIn (Fw r) n prog l.toArray Q (l.drop M) (act N (fr l M Φ (λj=>Nat.blt j M) e e0) ds) w) 0 [] (l.take M))(hwf:Ni l=true:=by kernel_rfl)(hsh:ix l M=true:=by kernel_rfl)(hds:Ik l M=true:=by kernel_rfl):(Code.region id l.toArray true).wpIn (Fw r) n prog Q (act N e0 ds) w0:=by
 obtain⟨Φ,h1,h2⟩:=xX _ 0 [] Z (EG hwf) h
 exact Q7 (Φ:=Φ) o7 (ac3 _) (λ_ _ _=>aO.trans) trivial hwf hsh hds h1 (λe w ls a1 _ _ E=>h2 e w (Vx a1) E)
def tX {id:Nat}(M:Nat)(JT:(Nat->Bool)->(Nat->Value)->World->Prop)(hJ:JT (λ_=>false) e0 w0.drew)(h:sH Q r n prog N ds l M (λ_ _=>True) JT e0 w0 (λΦ=>∀e w ls,(∀j,Nat.blt j M=true->ls j=true)->JT ls e w->wpListIn (Fw r) n prog l.toArray Q (l.drop M) (act N (fr l M Φ (λj=>Nat.blt j M) e e0) ds) w) 0 [] (l.take M))(hwf:Ni l=true:=by kernel_rfl)(hsh:ix l M=true:=by kernel_rfl)(hds:Ik l M=true:=by kernel_rfl):(Code.region id l.toArray true).wpIn (Fw r) n prog Q (act N e0 ds) w0:=by
 obtain⟨Φ,h1,h2⟩:=xX _ 0 [] Z (EG hwf) h
 exact Q7 (Φ:=Φ) o7 trivial (λ_ _ _ _ _=>trivial) hJ hwf hsh hds h1 (λe w ls _ E a1 _=>h2 e w ls a1 E)
end draws
def nO (P:Program)(t:TypeId)(k off:Nat):Prop:=∃fs f m,P.underlying t=some (.struct fs)/\fs[k]?=some f/\f.offset=off/\(P.info? f.type).map (·.size)=some (m+1)
def da {P:Program}{fs:Array Field}{f:Field}{m:Nat}(hu:P.underlying t=some (.struct fs))(hf:fs[k]?=some f)(ho:f.offset=off)(hs:(P.info? f.type).map (·.size)=some (m+1)):nO P t k off:=⟨fs,f,m,hu,hf,ho,hs⟩
def Tr:nO prog 161 0 0:=da underlying161 Z Z YF
def Ts:nO prog 161 1 1:=da underlying161 Z Z mB
def Tt:nO prog 75 0 0:=da underlying75 Z Z YF
def WA:nO prog 33 0 0:=da underlying33 Z Z Vv
def WB:nO prog 33 1 1:=da underlying33 Z Z Vv
def WC:nO prog 103 0 0:=da underlying103 Z Z Sj
def WE:nO prog 103 1 1:=da underlying103 Z Z mf
def WF:nO prog 103 2 2:=da underlying103 Z Z B9
def WG:nO prog 103 3 3:=da underlying103 Z Z YF
def NP:nO prog 144 0 0:=da underlying144 Z Z b8
def NQ:nO prog 144 1 2:=da underlying144 Z Z b8
def NR:nO prog 187 0 0:=da underlying187 Z Z b8
def NS:nO prog 187 1 2:=da underlying187 Z Z b8
def NT:nO prog 187 2 4:=da underlying187 Z Z b8
def NU:nO prog 187 3 6:=da underlying187 Z Z b8
def NV:nO prog 187 4 8:=da underlying187 Z Z Il
def NW:nO prog 189 0 0:=da underlying189 Z Z iy
def NX:nO prog 189 1 1:=da underlying189 Z Z Vv
def NY:nO prog 191 0 0:=da underlying191 Z Z Vv
def NZ:nO prog 191 1 1:=da underlying191 Z Z Vv
def N3:nO prog 30 0 0:=da underlying30 Z Z zt
def N4:nO prog 30 1 1:=da underlying30 Z Z mf
def N5:nO prog 30 2 2:=da underlying30 Z Z zt
def N6:nO prog 82 0 0:=da underlying82 Z Z ba
def N7:nO prog 86 0 0:=da underlying86 Z Z b8
def N8:nO prog 86 1 2:=da underlying86 Z Z iy
def N9:nO prog 40 0 0:=da underlying40 Z Z mf
def Oa:nO prog 40 1 1:=da underlying40 Z Z zt
def Ob:nO prog 40 2 2:=da underlying40 Z Z b8
def Oc:nO prog 40 3 4:=da underlying40 Z Z iy
def Jd (P:Program)(t el:TypeId)(z:Value)(size bytes:Nat):Prop:=P.underlying t=some (.slice el)/\gu P el z size bytes/\z.cells.size=size/\0<size
def Tu:Jd prog 27 28 (.slice none 0 0) 1 24:=⟨underlying27,jq,rfl,by decide⟩
def Tv:Jd prog 101 28 (.slice none 0 0) 1 24:=⟨underlying101,jq,rfl,by decide⟩
def CW:Jd prog 109 28 (.slice none 0 0) 1 24:=⟨underlying109,jq,rfl,by decide⟩
def CZ:Jd prog 278 144 (.agg #[S [],S [],S [],S []]) 4 64:=⟨underlying278,Vc,rfl,by decide⟩
def Tw:Jd prog 28 33 (.agg #[S [],S []]) 2 32:=⟨underlying28,aU,rfl,by decide⟩
def Tx:Jd prog 22 3 (.int .i64 0) 1 8:=⟨underlying22,kI,rfl,by decide⟩
def Je:Jd prog 159 3 (.int .i64 0) 1 8:=⟨underlying159,kI,rfl,by decide⟩
def Jf:Jd prog 206 5 (.int .u8 0) 1 1:=⟨underlying206,YR,rfl,by decide⟩
def Nk (P:Program)(t:TypeId)(cs:Array Value):Prop:=∃(fs:Array Field) (z:Value) (size bytes:Nat) (pl:List (Nat×Nat)),P.underlying t=some (.struct fs)/\gu P t z size bytes/\fs.toList.map (λf=>(f.offset,(P.info? f.type).map (·.size)))=pl.map (λp:Nat×Nat=>(p.1,some p.2))/\Instr.fill (pl.toArray[·]?) z.cells []=some cs
def Zi:Nk prog 33 #[S [],S []]:=⟨_,_,_,_,[(0,1),(1,1)],underlying33,aU,by kernel_rfl,by kernel_rfl⟩
def Zj:Nk prog 106 #[]:=⟨_,_,_,_,[],underlying106,VK,by kernel_rfl,by kernel_rfl⟩
def Ty:Nk prog 144 #[S [],S [],S [],S []]:=⟨_,_,_,_,[(0,2),(2,2)],underlying144,Vc,by kernel_rfl,by kernel_rfl⟩
def Tz:Nk prog 30 #[.slice none 0 0,.slice none 0 0,.slice none 0 0]:=⟨_,_,_,_,[(0,1),(1,1),(2,1)],underlying30,dW,by kernel_rfl,by kernel_rfl⟩
def TA:Nk prog 82 #[.slice none 0 0,.slice none 0 0,.slice none 0 0]:=⟨_,_,_,_,[(0,3)],underlying82,na,by kernel_rfl,by kernel_rfl⟩
def TB:Nk prog 86 #[S [],S [],.int .i64 0]:=⟨_,_,_,_,[(0,2),(2,1)],underlying86,sB,by kernel_rfl,by kernel_rfl⟩
def TC:Nk prog 40 #[.slice none 0 0,.slice none 0 0,S [],S [],.int .i64 0]:=⟨_,_,_,_,[(0,1),(1,1),(2,2),(4,1)],underlying40,cM,by kernel_rfl,by kernel_rfl⟩
def WH:Nk prog 161 #[.bool false,.slice none 0 0]:=⟨_,_,_,_,[(0,1),(1,1)],underlying161,bI,by kernel_rfl,by kernel_rfl⟩
def WI:Nk prog 75 #[.bool false]:=⟨_,_,_,_,[(0,1)],underlying75,B8,by kernel_rfl,by kernel_rfl⟩
def WJ (P:Program)(t:TypeId):Prop:=∃fs z size bytes,P.underlying t=some (.struct fs)/\gu P t z size bytes/\fs.toList.map (λf=>(f.offset,(P.info? f.type).map (·.size)))=[(0,some 1),(1,some 1)]/\∀u v:Value,u.cells=#[u]->v.cells=#[v]->Instr.fill ([(0,1),(1,1)].toArray[·]?) z.cells [(0,u),(1,v)]=some #[u,v]
def Zk:WJ prog 33:=⟨_,_,_,_,underlying33,aU,by kernel_rfl,λu v hu hv=>by show Instr.fill _ #[S [],S []] _=_;simp[Instr.fill,hu,hv]⟩
def TD:WJ prog 191:=⟨_,_,_,_,underlying191,bS,by kernel_rfl,λu v hu hv=>by show Instr.fill _ #[S [],S []] _=_;simp[Instr.fill,hu,hv]⟩
def TE:WJ prog 189:=⟨_,_,_,_,underlying189,o5,by kernel_rfl,λu v hu hv=>by show Instr.fill _ #[.int .i64 0,S []] _=_;simp[Instr.fill,hu,hv]⟩
def WK:WJ prog 161:=⟨_,_,_,_,underlying161,bI,by kernel_rfl,λu v hu hv=>by show Instr.fill _ #[.bool false,.slice none 0 0] _=_;simp[Instr.fill,hu,hv]⟩
section ops
variable {P:Program}{r:Option Nat}{N:Nat}{ds:List Deferred}{Q:Exit->Act->World->Prop}{K:Act->World->Prop}{a:Act}
variable {ops:Array Oper}{rest:List Oper}{dst:Option Tmp}{op:Op}{ty:Nat}{pos:String}{af:Array Edge}{id:Nat}{c c1 c2:Code}{x y:Operand}
def WL (hk:wpListIn (Fw r) n prog ops Q rest (act N (upd e d (.pointer (some ⟨b,o+off,none⟩))) ds) w)(hx:ev N e x=.pointer (some ⟨b,o,none⟩):=by exact gX)(hf:nO prog t k off:=by with_reducible first|exact WC|exact WE|exact WF|exact WG|exact N3|exact N4|exact N5|exact N6|exact N7|exact N8|exact N9|exact Oa|exact Ob|exact Oc|exact NY|exact NZ|exact NX|exact WA|exact WB|exact NP|exact NQ|exact NW|exact NR|exact NS|exact NT|exact NU|exact NV|exact Tr|exact Ts|exact Tt):
 wpListIn (Fw r) n prog ops Q (⟨some d,.fieldAddr t x k,ty,pos,af,none⟩::rest) (act N e ds) w:=by
 obtain⟨_,f,m,h1,h2,h3,h4⟩:=hf
 exact aa (iU h1 h2 h3 h4 Z hx hk)
def WM (hk:wpListIn (Fw r) n prog ops Q rest (act N (upd e d (.agg cs)) ds) w)(h:Nk prog t cs:=by with_reducible first|exact Zi|exact Zj|exact Tz|exact TC|exact TA|exact TB|exact Ty|exact WH|exact WI):wpListIn (Fw r) n prog ops Q (⟨some d,.build t #[],ty,pos,af,none⟩::rest) (act N e ds) w:=by
 obtain⟨fs,z,s,b,pl,h1,h2,h3,h4⟩:=h
 exact aa (bX h1 h2 h3 Z h4 hk)
def WN (hk:wpListIn (Fw r) n prog ops Q rest (act N (upd e d (.agg #[u,v])) ds) w)(h:WJ prog t:=by with_reducible first|exact Zk|exact TD|exact TE|exact WK)(hx:ev N e x=u:=by exact Gx)(hy:ev N e y=v:=by exact Gx)(hu:u.cells=#[u]:=by exact Z)(hv:v.cells=#[v]:=by exact Z):
 wpListIn (Fw r) n prog ops Q (⟨some d,.build t #[(0,x),(1,y)],ty,pos,af,none⟩::rest) (act N e ds) w:=by
 obtain⟨_,z,s,b,h1,h2,h3,h4⟩:=h
 exact aa (bX (pl:=[(0,1),(1,1)]) h1 h2 h3 (by rw[<-hx,<-hy];rfl) (h4 u v hu hv) hk)
def bk0 {t:Nat}(h:ar w' b t cs:=by with_reducible assumption):ar w' b t cs:=h
def bk1 {t:Nat}(h:ar w' b t cs:=by
 first
 |with_reducible assumption
 |exact ad1 RT bk0
 |exact ab1 RT U bk0):ar w' b t cs:=h
def bk2 {t:Nat}(h:ar w' b t cs:=by
 first
 |with_reducible assumption
 |exact ad1 RT bk1
 |exact ab1 RT U bk1):ar w' b t cs:=h
def bk3 {t:Nat}(h:ar w' b t cs:=by
 first
 |with_reducible assumption
 |exact ad1 RT bk2
 |exact ab1 RT U bk2):ar w' b t cs:=h
def bk4 {t:Nat}(h:ar w' b t cs:=by
 first
 |with_reducible assumption
 |exact ad1 RT bk3
 |exact ab1 RT U bk3):ar w' b t cs:=h
def bk5 {t:Nat}(h:ar w' b t cs:=by
 first
 |with_reducible assumption
 |exact ad1 RT bk4
 |exact ab1 RT U bk4):ar w' b t cs:=h
def TF {t:Nat}(h:ar w' b t cs:=by
 first
 |with_reducible assumption
 |exact ad1 RT bk5
 |exact ab1 RT U bk5):ar w' b t cs:=h
def WO {cs:List Value}(hk:wpListIn (Fw r) n P ops Q rest (act N (upd e d v) ds) w)(hx:ev N e x=.pointer (some ⟨b,o,none⟩):=by exact gX)(hb:ar w b tb cs.toArray:=by exact TF)(hv:nth cs o=some v:=by exact Z)(hu:lz P t=some false:=by decide +kernel):
 wpListIn (Fw r) n P ops Q (⟨some d,.load t x,ty,pos,af,none⟩::rest) (act N e ds) w:=I6 hk hx hb hv hu
def Rh {cs:List Value}(hk:wpListIn (Fw r) n P ops Q rest (act N (upd e d (.agg #[v1,v2])) ds) w)(hx:ev N e x=.pointer (some ⟨b,o,none⟩):=by exact gX)(hb:ar w b tb cs.toArray:=by exact TF)(hv:xU cs o=some (v1,v2):=by exact Z)(hu:lz P t=some true:=by decide +kernel)(hi:(P.info? t).map (·.size)=some 2:=by decide +kernel):
 wpListIn (Fw r) n P ops Q (⟨some d,.load t x,ty,pos,af,none⟩::rest) (act N e ds) w:=EB hk hx hb hv hu hi
def Ri (hk:wpListIn (Fw r) n P ops Q rest (act N (upd e d (.agg #[v1,v2,v3,v4])) ds) w)(hx:ev N e x=.pointer (some ⟨b,0,none⟩):=by exact gX)(hb:ar w b tb #[v1,v2,v3,v4]:=by exact TF)(hu:lz P t=some true:=by decide +kernel)(hi:(P.info? t).map (·.size)=some 4:=by decide +kernel):
 wpListIn (Fw r) n P ops Q (⟨some d,.load t x,ty,pos,af,none⟩::rest) (act N e ds) w:=by
 obtain⟨D,h1,h2⟩:=i6 hu
 exact aa (aN (cs:=[v1,v2,v3,v4]) h1 h2 hi hx (aa0 hb (i:=0) Z) hk)
def zo (h:X=q:=by
 first
 | with_reducible first
   |exact Z
   |assumption
   |exact Gz ep
   |exact GA ep
   |exact Ze (by first|exact rfl|assumption|exact GA ep)
   |exact Zf (by first|exact rfl|assumption|exact Gz ep)
 |decide +kernel
 | with_reducible first
   |exact Gz U
   |exact GA U
   |exact Ze (GA U)
   |exact Zf (Gz U)):X=q:=h
def WP (h:c1.wpIn (Fw r) n P Q (act N e ds) w)(hx:ev N e x=.bool q:=by exact gX)(hq:q=true:=by exact zo):(Code.cond x c1 c2).wpIn (Fw r) n P Q (act N e ds) w:=mA (by rw[hx,hq]) h
def WQ (h:c2.wpIn (Fw r) n P Q (act N e ds) w)(hx:ev N e x=.bool q:=by exact gX)(hq:q=false:=by exact zo):(Code.cond x c1 c2).wpIn (Fw r) n P Q (act N e ds) w:=gd (by rw[hx,hq]) h
def Jg {l:List Oper}{b:Bool}(hk:wpListIn (Fw r) n P l.toArray Q (⟨dst,op,ty,pos,af,none⟩::rest) (act N e ds) w)(hj:db l j=some s:=by exact Z)(hv:ev N e (.tmp s)=.bool b:=by exact gX)(hb:b=q:=by exact zo):wpListIn (Fw r) n P l.toArray Q (⟨dst,op,ty,pos,af,some (j,q)⟩::rest) (act N e ds) w:=mz hj (by rw[hv,hb]) hk
def Rj {l:List Oper}{b:Bool}(hk:wpListIn (Fw r) n P l.toArray Q rest (act N (upd e d undef) ds) w)(hj:db l j=some s:=by exact Z)(hv:ev N e (.tmp s)=.bool b:=by exact gX)(hb:b= !q:=by first|with_reducible assumption|(show _=true;exact zo)|(show _=false;exact zo)):wpListIn (Fw r) n P l.toArray Q (⟨some d,op,ty,pos,af,some (j,q)⟩::rest) (act N e ds) w:=fI hj (by rw[hv,hb]) hk
def Rl {l:List Oper}(hk:wpListIn (Fw r) n P l.toArray Q rest (act N (upd e d undef) ds) w)(hj:db l j=some s:=by exact Z)(hv:ev N e (.tmp s)=undef:=by exact Z)(hs:Nat.blt s N=true:=by exact Z):wpListIn (Fw r) n P l.toArray Q (⟨some d,op,ty,pos,af,some (j,q)⟩::rest) (act N e ds) w:=Wv hj hv hs hk
def EH {c a b:Operand}{t:Bool}(hk:wpListIn (Fw r) n P ops Q rest (act N (upd e d v) ds) w)(hc:ev N e c=.bool t:=by exact gX)(ht:t=true:=by exact zo)(hv:ev N e a=v:=by exact Gx):
 wpListIn (Fw r) n P ops Q (⟨some d,.pick c a b,ty,pos,af,none⟩::rest) (act N e ds) w:=EC hk hc ht hv
def EJ {c a b:Operand}{t:Bool}(hk:wpListIn (Fw r) n P ops Q rest (act N (upd e d v) ds) w)(hc:ev N e c=.bool t:=by exact gX)(ht:t=false:=by exact zo)(hv:ev N e b=v:=by exact Gx):
 wpListIn (Fw r) n P ops Q (⟨some d,.pick c a b,ty,pos,af,none⟩::rest) (act N e ds) w:=ED hk hc ht hv
end ops
section gates
variable {P:Program}{r:Option Nat}{N:Nat}{ds:List Deferred}{Q:Exit->Act->World->Prop}{ops:Array Oper}{o:Oper}{rest:List Oper}{dst:Option Tmp}{op:Op}{ty:Nat}{pos:String}{af:Array Edge}{x y z:Operand}{a:Act}{u:TypeId}{c1 c2:Code}
abbrev Wo (r:Option Nat)(n:Nat)(P:Program)(ops:Array Oper)(Q:Exit->Act->World->Prop)(o:Oper)(rest:List Oper)(a:Act)(w:World):Prop:=wpListIn (Fw r) n P ops Q (o::rest) a w
def WR (h:Wo r n P ops Q o rest a w):Wo r n P ops Q o rest a w:=h
def WS (h:Wo r n P ops Q ⟨dst,op,ty,pos,af,none⟩ rest a w):Wo r n P ops Q ⟨dst,op,ty,pos,af,none⟩ rest a w:=h
def WT {g:Nat×Bool}(h:Wo r n P ops Q ⟨dst,op,ty,pos,af,some g⟩ rest a w):Wo r n P ops Q ⟨dst,op,ty,pos,af,some g⟩ rest a w:=h
def WU (h:Wo r n P ops Q ⟨dst,.move x,ty,pos,af,none⟩ rest a w):Wo r n P ops Q ⟨dst,.move x,ty,pos,af,none⟩ rest a w:=h
def WW (h:Wo r n P ops Q ⟨dst,.assign x,ty,pos,af,none⟩ rest a w):Wo r n P ops Q ⟨dst,.assign x,ty,pos,af,none⟩ rest a w:=h
def WX (h:Wo r n P ops Q ⟨dst,.load t x,ty,pos,af,none⟩ rest a w):Wo r n P ops Q ⟨dst,.load t x,ty,pos,af,none⟩ rest a w:=h
def WY {b:BinOp}(h:Wo r n P ops Q ⟨dst,.binOp b t x y u,ty,pos,af,none⟩ rest a w):Wo r n P ops Q ⟨dst,.binOp b t x y u,ty,pos,af,none⟩ rest a w:=h
def WZ {b:UnOp}(h:Wo r n P ops Q ⟨dst,.unOp b t x,ty,pos,af,none⟩ rest a w):Wo r n P ops Q ⟨dst,.unOp b t x,ty,pos,af,none⟩ rest a w:=h
def W4 (h:Wo r n P ops Q ⟨dst,.fieldAddr t x k,ty,pos,af,none⟩ rest a w):Wo r n P ops Q ⟨dst,.fieldAddr t x k,ty,pos,af,none⟩ rest a w:=h
def W5 (h:Wo r n P ops Q ⟨dst,.extract x k,ty,pos,af,none⟩ rest a w):Wo r n P ops Q ⟨dst,.extract x k,ty,pos,af,none⟩ rest a w:=h
def W6 {c:Call}(h:Wo r n P ops Q ⟨dst,.call c,ty,pos,af,none⟩ rest a w):Wo r n P ops Q ⟨dst,.call c,ty,pos,af,none⟩ rest a w:=h
def W7 (h:Wo r n P ops Q ⟨dst,.pick x y z,ty,pos,af,none⟩ rest a w):Wo r n P ops Q ⟨dst,.pick x y z,ty,pos,af,none⟩ rest a w:=h
def W8 (h:Wo r n P ops Q ⟨dst,.nilCheck x,ty,pos,af,none⟩ rest a w):Wo r n P ops Q ⟨dst,.nilCheck x,ty,pos,af,none⟩ rest a w:=h
def W9 {xs:Array (Nat×Operand)}(h:Wo r n P ops Q ⟨dst,.build t xs,ty,pos,af,none⟩ rest a w):Wo r n P ops Q ⟨dst,.build t xs,ty,pos,af,none⟩ rest a w:=h
def Xa (h:(Code.cond x c1 c2).wpIn (Fw r) n P Q a w):(Code.cond x c1 c2).wpIn (Fw r) n P Q a w:=h
end gates
structure Hd (p:Prop):Prop where
 out:p
section irr
attribute [local irreducible] wpListIn Code.wpIn Oper.wpIn Exit.then Exit.inBlock Exit.noGoto
def I (h:G')(k:Hd G'->G:=by
 intro h
 repeat first
  | (with_reducible refine WR ?_
     first
     | (with_reducible refine WS ?_
        first
        | (with_reducible refine WU ?_
           refine CJ ?_)
        | (with_reducible refine WX ?_
           first
           |refine WO ?_
           |refine Rh ?_
           |refine Ri ?_
           |refine xV ?_
           |refine tR ?_)
        | (with_reducible refine WY ?_
           first
           |refine lss ?_
           |refine eql ?_
           |refine neq ?_
           |refine leq ?_
           |refine gtr ?_
           |refine geq ?_)
        | (with_reducible refine W4 ?_
           refine WL ?_)
        | (with_reducible refine WW ?_
           refine tQ ?_)
        | (with_reducible refine W5 ?_
           first
           |refine CK ?_
           |refine CM ?_
           |refine CN ?_
           |refine CO ?_
           |refine CP ?_
           |refine CQ ?_
           |refine CS ?_
           |refine CU ?_
           |refine CV ?_)
        | (with_reducible refine W6 ?_
           refine q_len ?_)
        | (with_reducible refine WZ ?_
           refine nt ?_)
        | (with_reducible refine W7 ?_
           first
           |refine EH ?_
           |refine EJ ?_)
        | (with_reducible refine W8 ?_
           refine I4 ?_)
        | (with_reducible refine W9 ?_
           first
           |refine WM ?_
           |refine WN ?_))
     | (with_reducible refine WT ?_
        first
        |refine Jg ?_
        |refine Rj ?_
        |refine Rl ?_))
  | with_reducible first
    |refine fm ?_
    |refine gp ?_
    |refine iA Z ?_
    |refine iV ?_
    |refine ik ?_
    |refine oZ ?_
    |refine jJ ?_
    |refine B4 ?_
    |refine Ig ?_
    |refine Ih ?_
    |refine Q8 ?_
    |refine B5 ?_
    |refine Sa ?_
    |refine B6 ?_
    |refine Sd ?_
    |refine Ra ?_
    |refine CH ?_
    |refine Tm ?_
    |refine Rb ?_
    |refine Jb ?_
    |refine Rc ?_
    |refine Ja ?_
    |refine Wz ?_
  |refine gp ?_
  |refine Sb Z ?_
  |refine zT (l:=0) Z ?_
  | (with_reducible refine Xa ?_
     first
     |refine WP ?_
     |refine WQ ?_)
 exact h.out):G:=k ⟨h⟩
def gx (h:G')(k:Hd G'->G:=by
 intro h
 repeat first
  | (with_reducible refine WR ?_
     first
     | (with_reducible refine WS ?_
        first
        | (with_reducible refine WU ?_
           refine CJ ?_)
        | (with_reducible refine WX ?_
           first
           |refine WO ?_
           |refine Rh ?_
           |refine Ri ?_
           |refine xV ?_
           |refine tR ?_)
        | (with_reducible refine WY ?_
           first
           |refine lss ?_
           |refine eql ?_
           |refine neq ?_
           |refine leq ?_
           |refine gtr ?_
           |refine geq ?_)
        | (with_reducible refine W4 ?_
           refine WL ?_)
        | (with_reducible refine WW ?_
           refine tQ ?_)
        | (with_reducible refine W5 ?_
           first
           |refine CK ?_
           |refine CM ?_
           |refine CN ?_
           |refine CO ?_
           |refine CP ?_
           |refine CQ ?_
           |refine CS ?_
           |refine CU ?_
           |refine CV ?_)
        | (with_reducible refine W6 ?_
           refine q_len ?_)
        | (with_reducible refine WZ ?_
           refine nt ?_)
        | (with_reducible refine W7 ?_
           first
           |refine EH ?_
           |refine EJ ?_)
        | (with_reducible refine W8 ?_
           refine I4 ?_)
        | (with_reducible refine W9 ?_
           first
           |refine WM ?_
           |refine WN ?_))
     | (with_reducible refine WT ?_
        first
        |refine Jg ?_
        |refine Rj ?_
        |refine Rl ?_))
  | with_reducible first
    |refine fm ?_
    |refine gp ?_
    |refine iA Z ?_
    |refine oZ ?_
    |refine jJ ?_
    |refine B4 ?_
    |refine Ig ?_
    |refine Ih ?_
    |refine Q8 ?_
    |refine B5 ?_
    |refine Sa ?_
    |refine B6 ?_
    |refine Sd ?_
    |refine Ra ?_
    |refine CH ?_
    |refine Tm ?_
    |refine Rb ?_
    |refine Jb ?_
    |refine Rc ?_
    |refine Ja ?_
    |refine Wz ?_
  |refine gp ?_
  |refine Sb Z ?_
  |refine zT (l:=0) Z ?_
  | (with_reducible refine Xa ?_
     first
     |refine WP ?_
     |refine WQ ?_)
 exact h.out):G:=k ⟨h⟩
section draws
variable {P:Program}{r:Option Nat}{N:Nat}{e0:Nat->Value}{ds:List Deferred}{Q:Exit->Act->World->Prop}{l:List Oper}{R:World->World->Prop}{JT:(Nat->Bool)->(Nat->Value)->World->Prop}{Fin:List Ph->Prop}{i:Nat}{acc:List Ph}{o:Oper}{os:List Oper}{V:Value}
def Pl (N:Nat)(ds:List Deferred)(dst:Option Tmp)(V:Value)(w:World)(f:Nat->Value):Exit->Act->World->Prop:=λx a' w'=>x=.normal/\a'=(act N f ds).put dst V/\w'=w
def aE {f:Nat->Value}{dst:Option Tmp}(hd:dst=some d:=by exact Z):Pl N ds dst v w f .normal (act N (upd f d v) ds) w:=by subst hd;exact⟨rfl,(ax _ _ _ _ _).symm,rfl⟩
def nP (h:∀(e:Nat->Value) (w:World) (ls:Nat->Bool),R w0 w->JT ls e w->(∀j k,cF l j k=true->ls j=true->ls k=true)->ls i=false->(∀k,cF l i k=true->ls k=true)->(∀j d,ck o j=true->db l j=some d->tU acc.reverse j (e d) w)->
 wpListIn (Fw r) n P l.toArray (Pl N ds o.dst V w (fr l M acc.reverse (ck o) e e0)) [o] (act N (fr l M acc.reverse (ck o) e e0) ds) w)(ht:sH Q r n P N ds l M R JT e0 w0 Fin (i+1) (.pv V::acc) os)(hR:∀w,R w w:=by first|exact aa3|exact λ_=>trivial)(hJ:∀ls e w v,JT ls e w->JT (eU ls i) (kL e o.dst v) w:=by exact λ_ _ _ _ h=>h):sH Q r n P N ds l M R JT e0 w0 Fin i acc (o::os):=
 ⟨.pv V,⟨λ_ _ _ _ h=>h,λe w ls a1 E W H A0 O=>kN (h e w ls a1 E W H A0 O) (λ_ _ _ ⟨h1,h2,h3⟩=>.inl ⟨h1,V,h2,h3▸hR _,rfl,h3▸hJ _ _ _ _ E⟩)⟩,ht⟩
def b9 (h:∀(e:Nat->Value) (w:World) (ls:Nat->Bool),R w0 w->JT ls e w->(∀k,cF l i k=true->ls k=true)->(∀j d,ck o j=true->db l j=some d->tU acc.reverse j (e d) w)->
 wpListIn (Fw r) n P l.toArray (Pl N ds o.dst V w (fr l M acc.reverse (ck o) e e0)) [o] (act N (fr l M acc.reverse (ck o) e e0) ds) w)(ht:sH Q r n P N ds l M R JT e0 w0 Fin (i+1) (.pv V::acc) os)(hR:∀w,R w w:=by first|exact aa3|exact λ_=>trivial)(hJ:∀ls e w v,JT ls e w->JT (eU ls i) (kL e o.dst v) w:=by exact λ_ _ _ _ h=>h):sH Q r n P N ds l M R JT e0 w0 Fin i acc (o::os):=
 nP (λe w ls a1 E _ _ O H=>h e w ls a1 E O H) ht hR hJ
def Xb (ht:sH Q r n P N ds l M R JT e0 w0 Fin (i+1) (.pv V::acc) os)(h:∀(e:Nat->Value) (w:World),R w0 w->wpListIn (Fw r) n P l.toArray (Pl N ds o.dst V w (fr l M acc.reverse (ck o) e e0)) [o] (act N (fr l M acc.reverse (ck o) e e0) ds) w:=by
 intro e w hR
 refine I ?_
 exact aE)(hR:∀w,R w w:=by first|exact aa3|exact λ_=>trivial)(hJ:∀ls e w v,JT ls e w->JT (eU ls i) (kL e o.dst v) w:=by exact λ_ _ _ _ h=>h):sH Q r n P N ds l M R JT e0 w0 Fin i acc (o::os):=
 b9 (λe w _ a1 _ _ _=>h e w a1) ht hR hJ
def TG (h:Fin acc.reverse):sH Q r n P N ds l M R JT e0 w0 Fin i acc []:=h
def sf (h:G')(k:Hd G'->G:=by
 intro h
 repeat refine Xb ?_
 try refine TG ?_
 exact h.out):G:=k ⟨h⟩
end draws
end irr
section draws
variable {P:Program}{r:Option Nat}{N:Nat}{e0:Nat->Value}{ds:List Deferred}{Q:Exit->Act->World->Prop}{l:List Oper}{R:World->World->Prop}{JT:(Nat->Bool)->(Nat->Value)->World->Prop}{Fin:List Ph->Prop}{i:Nat}{acc:List Ph}{o:Oper}{os:List Oper}{V:Value}{p:Value->World->Prop}{φ:Ph}
def Sn (Q:Exit->Act->World->Prop)(N:Nat)(ds:List Deferred)(dst:Option Tmp)(f:Nat->Value)(K:Value->World->Prop):Exit->Act->World->Prop:=λx a' w'=>
 (x=.normal/\∃v,a'=(act N f ds).put dst v/\K v w')\/(∃c,x=.panic c/\Q (.panic c) a' w')
def fs {f:Nat->Value}{dst:Option Tmp}(h:K v w)(hd:dst=some d:=by exact Z):Sn Q N ds dst f K .normal (act N (upd f d v) ds) w:=by subst hd;exact .inl ⟨rfl,v,(ax _ _ _ _ _).symm,h⟩
def fs0 {f:Nat->Value}(h:K undef w):Sn Q N ds none f K .normal (act N f ds) w:=.inl ⟨rfl,undef,rfl,h⟩
def aA (h:∀(e:Nat->Value) (w:World),R w0 w->(∀j d,ck o j=true->db l j=some d->tU acc.reverse j (e d) w)->
 wpListIn (Fw r) n P l.toArray (Pl N ds o.dst V w (fr l M acc.reverse (ck o) e e0)) [o] (act N (fr l M acc.reverse (ck o) e e0) ds) w)(ht:sH Q r n P N ds l M R JT e0 w0 Fin (i+1) (.pv V::acc) os)(hR:∀w,R w w:=by first|exact aa3|exact λ_=>trivial)(hJ:∀ls e w v,JT ls e w->JT (eU ls i) (kL e o.dst v) w:=by exact λ_ _ _ _ h=>h):sH Q r n P N ds l M R JT e0 w0 Fin i acc (o::os):=
 b9 (λe w _ a1 _ _ E=>h e w a1 E) ht hR hJ
def Rn (h:∀(e:Nat->Value) (w:World),R w0 w->(∀j d,ck o j=true->db l j=some d->tU acc.reverse j (e d) w)->
 wpListIn (Fw r) n P l.toArray (Sn Q N ds o.dst (fr l M acc.reverse (ck o) e e0) (λv w'=>R w w'/\φ.ok v w')) [o] (act N (fr l M acc.reverse (ck o) e e0) ds) w)(hs:zR R φ)(ht:sH Q r n P N ds l M R (λ_ _ _=>True) e0 w0 Fin (i+1) (φ::acc) os):sH Q r n P N ds l M R (λ_ _ _=>True) e0 w0 Fin i acc (o::os):=
 ⟨φ,⟨hs,λe w ls a1 _ _ _ _ E=>kN (h e w a1 E) (λ_ _ _ H=>H.imp (fun⟨h1,v,h2,h3,h4⟩=>⟨h1,v,h2,h3,h4,trivial⟩) id)⟩,ht⟩
def aX (h:∀(e:Nat->Value) (w:World),R w0 w->(∀j d,ck o j=true->db l j=some d->tU acc.reverse j (e d) w)->
 wpListIn (Fw r) n P l.toArray (Sn Q N ds o.dst (fr l M acc.reverse (ck o) e e0) (λv w'=>R w w'/\v=V)) [o] (act N (fr l M acc.reverse (ck o) e e0) ds) w)(ht:sH Q r n P N ds l M R (λ_ _ _=>True) e0 w0 Fin (i+1) (.pv V::acc) os):sH Q r n P N ds l M R (λ_ _ _=>True) e0 w0 Fin i acc (o::os):=Rn (φ:=.pv V) h (λ_ _ _ _ h=>h) ht
def bY (p:Value->World->Prop)(h:∀(e:Nat->Value) (w:World),R w0 w->(∀j d,ck o j=true->db l j=some d->tU acc.reverse j (e d) w)->
 wpListIn (Fw r) n P l.toArray (Sn Q N ds o.dst (fr l M acc.reverse (ck o) e e0) (λv w'=>R w w'/\p v w')) [o] (act N (fr l M acc.reverse (ck o) e e0) ds) w)(ht:sH Q r n P N ds l M R (λ_ _ _=>True) e0 w0 Fin (i+1) (.ph p::acc) os)(hs:zR R (.ph p):=by exact λ_ _ _ _ h=>h):sH Q r n P N ds l M R (λ_ _ _=>True) e0 w0 Fin i acc (o::os):=Rn (φ:=.ph p) h hs ht
def fU (h:∀(e:Nat->Value) (w:World) (ls:Nat->Bool),JT ls e w->(∀j k,cF l j k=true->ls j=true->ls k=true)->ls i=false->(∀k,cF l i k=true->ls k=true)->
 wpListIn (Fw r) n P l.toArray (Sn Q N ds o.dst (fr l M acc.reverse (ck o) e e0) (λv w'=>JT (eU ls i) (kL e o.dst v) w')) [o] (act N (fr l M acc.reverse (ck o) e e0) ds) w)(ht:sH Q r n P N ds l M (λ_ _=>True) JT e0 w0 Fin (i+1) (.ph (λ_ _=>True)::acc) os):sH Q r n P N ds l M (λ_ _=>True) JT e0 w0 Fin i acc (o::os):=
 ⟨.ph λ_ _=>True,⟨λ_ _ _ _ _=>trivial,λe w ls _ W E O A0 _=>kN (h e w ls W E O A0) (λ_ _ _ H=>H.imp (fun⟨h1,v,h2,h3⟩=>⟨h1,v,h2,trivial,trivial,h3⟩) id)⟩,ht⟩
def pf (h:∀(e:Nat->Value) (w:World) (ls:Nat->Bool),JT ls e w->(∀j k,cF l j k=true->ls j=true->ls k=true)->ls i=false->(∀k,cF l i k=true->ls k=true)->
 wpListIn (Fw r) n P l.toArray (Sn Q N ds o.dst (fr l M acc.reverse (ck o) e e0) (λv w'=>v=V/\JT (eU ls i) (kL e o.dst v) w')) [o] (act N (fr l M acc.reverse (ck o) e e0) ds) w)(ht:sH Q r n P N ds l M (λ_ _=>True) JT e0 w0 Fin (i+1) (.pv V::acc) os):sH Q r n P N ds l M (λ_ _=>True) JT e0 w0 Fin i acc (o::os):=
 ⟨.pv V,⟨λ_ _ _ _ h=>h,λe w ls _ H W E A0 _=>kN (h e w ls H W E A0) (λ_ _ _ O=>O.imp (fun⟨h1,v,h2,h3,h4⟩=>⟨h1,v,h2,trivial,h3,h4⟩) id)⟩,ht⟩
end draws
def ot (l:List (Nat×Nat))(t:Nat):Bool:=l.any λd=>Nat.ble d.1 t&&Nat.ble t d.2
def TH (hd:ot l d=true)(h:∀t,ot l t=false->e' t=e1 t):∀t,ot l t=false->upd e' d v t=e1 t:=by
 intro t ht
 have:t≠d:=λE=>by subst E;rw[hd]at ht;cases ht
 rw[upd_ne _ _ this];exact h t ht
def Xc {m:List (Nat×Nat)}(hs:(m.all λd=>l.any λc=>Nat.ble c.1 d.1&&Nat.ble d.2 c.2)=true)(h:∀t,ot l t=false->e' t=e1 t):∀t,ot l t=false->ov (ot m) e e' t=e1 t:=by
 intro t ht
 have:ot m t=false:=by
  cases hm:ot m t with
  |false=>rfl
  | true=>
    obtain⟨d,hd,h1⟩:=List.any_eq_true.1 hm
    obtain⟨c,hc,h2⟩:=List.any_eq_true.1 (List.all_eq_true.1 hs d hd)
    simp only[Bool.and_eq_true,Nat.ble_eq]at h1 h2
    have:ot l t=true:=List.any_eq_true.2 ⟨c,hc,by simp only[Bool.and_eq_true,Nat.ble_eq];omega⟩
    rw[this]at ht;cases ht
 unfold ov;rw[this];exact h t ht
def C3:∀(os:List Oper) (t j k:Nat) (l:List (Nat×Nat)),(os.all λo=>match o.dst with|some d=>ot l d|none=>true)=true->I7 os t j=some k->ot l t=true
 |[],_,_,_,_,_,h=>by simp[I7]at h
 | o ::os,t,j,k,l,ha,h=>by
   rw[List.all_cons,Bool.and_eq_true]at ha
   unfold I7 at h
   split at h
   · rename_i d hd
     split at h
     · rename_i hb
       have h1:=ha.1
       rw[hd]at h1
       rw[<-Nat.eq_of_beq_eq_true hb];exact h1
     · exact C3 os t (j+1) k l ha.2 h
   · exact C3 os t (j+1) k l ha.2 h
def Xd {m:List Nat}(hs:(m.all λd=>ot l d)=true)(h:∀t,ot l t=false->e' t=e1 t):∀t,ot l t=false->ov (Gq m) e e' t=e1 t:=by
 intro t ht
 have:Gq m t=false:=by
  cases hm:Gq m t with
  |false=>rfl
  | true=>
    obtain⟨d,hd,h1⟩:=List.any_eq_true.1 hm
    have h2:=List.all_eq_true.1 hs d hd
    rw[Nat.eq_of_beq_eq_true h1]at h2
    rw[ht]at h2;cases h2
 unfold ov;rw[this];exact h t ht
def Xe {ops:List Oper}{Φ:List Ph}(hs:((ops.take M).all λo=>match o.dst with|some d=>ot l d|none=>true)=true)(h:∀t,ot l t=false->e' t=e1 t):
 ∀t,ot l t=false->fr ops M Φ sel e e' t=e1 t:=by
 intro t ht
 unfold fr
 split
 · exact h t ht
 · rename_i j hj
   rw[C3 _ _ _ _ _ hs hj]at ht;cases ht
def TI :∀t,ot l t=false->e t=e t:=λ_ _=>rfl
def same (h:∀t,ot l t=false->e' t=e t:=by
 repeat first
  |with_reducible exact TI
  |((with_reducible refine TH ?_ ?_);· exact Z)
  |((with_reducible refine Xc ?_ ?_);· kernel_rfl)
  |((with_reducible refine Xd ?_ ?_);· kernel_rfl)
  |((with_reducible refine Xe ?_ ?_);· kernel_rfl)):∀t,ot l t=false->e' t=e t:=h
section code
variable {P:Program}{r:Option Nat}{N:Nat}{ds:List Deferred}{Q:Exit->Act->World->Prop}{K:Act->World->Prop}{c c1:Code}{zl:Nat->(Nat->Value)->World->Prop}{mods:List (Nat×Nat)}
def Jh (h:∀t,ot mods t=false->e1 t=e t):e1=ov (ot mods) e1 e:=funext λt=>by
 unfold ov;split
 · rfl
 · rename_i hh;exact h t hh
def Zl (N:Nat)(ds:List Deferred)(mods:List (Nat×Nat))(e:Nat->Value)(zl:Nat->(Nat->Value)->World->Prop)(k:Nat):Act->World->Prop:=λa' w'=>∃k' e',k'<k/\a'=act N e' ds/\(∀t,ot mods t=false->e' t=e t)/\zl k' e' w'
def b7 (mods:List (Nat×Nat))(zl:Nat->(Nat->Value)->World->Prop)(k:Nat)(h0:zl k e w)(hs:∀k e1 w1,zl k e1 w1->c.wpIn (Fw r) n P (Exit.then (Zl N ds mods e zl k) Q) (act N (ov (ot mods) e1 e) ds) w1):(Code.loop c).wpIn (Fw r) n P Q (act N e ds) w:=
 R9 (λk e1 w1=>(∀t,ot mods t=false->e1 t=e t)/\zl k e1 w1) k ⟨λ_ _=>rfl,h0⟩ λk e1 w1 ⟨h1,h2⟩=>by
  have:=hs k e1 w1 h2
  rw[<-Jh h1]at this
  exact wpIn_mono this (by
   intro x a' w' hq
   cases x <;>first|exact hq|(obtain⟨k',e',hk,rfl,E,hI'⟩:=hq;exact⟨k',e',hk,rfl,E,hI'⟩))
def Xf {rest:Code}{l:Nat}(mods:List (Nat×Nat))(zl:Nat->(Nat->Value)->World->Prop)(k:Nat)(h0:zl k e w)(hs:∀k e1 w1,zl k e1 w1->rest.wpIn (Fw r) n P (HX l (Zl N ds mods e zl k) Q) (act N (ov (ot mods) e1 e) ds) w1):rest.wpIn (Fw r) n P (HX l (JA (Fw r) n P l (Code.skip.seq rest) Q) Q) (act N e ds) w:=by
 have key:∀m k e1 w1,k<m->(∀t,ot mods t=false->e1 t=e t)->zl k e1 w1->rest.wpIn (Fw r) n P (HX l (JL (Fw r) n P l (Code.skip.seq rest) Q (m-1)) Q) (act N e1 ds) w1:=by
  intro m
  induction m with
  |zero=>intro k e1 w1 hk;omega
  | succ m ih=>
    intro k e1 w1 hk H hI
    have:=hs k e1 w1 hI
    rw[<-Jh H]at this
    refine wpIn_mono this (zS λa w ⟨k',e',W,O,E,hI'⟩=>?_)
    subst O
    have h2:=ih k' e' w U E hI'
    obtain⟨p,rfl⟩:∃p,m=p+1:=⟨m-1,by omega⟩
    exact iV (jJ (fm h2))
 exact wpIn_mono (key (k+1) k e w U (λ_ _=>rfl) h0) (zS λa w h=>⟨k,h⟩)
def bF (hI:zl k' e' w')(hk:k'<k:=by omega)(hs:∀t,ot mods t=false->e' t=e t:=by exact same):Zl N ds mods e zl k (act N e' ds) w':=⟨k',e',hk,rfl,hs,hI⟩
def JnK (N:Nat)(ds:List Deferred)(mods:List (Nat×Nat))(e:Nat->Value)(zl:(Nat->Value)->World->Prop):Act->World->Prop:=λa' w'=>∃e',a'=act N e' ds/\(∀t,ot mods t=false->e' t=e t)/\zl e' w'
def TJ (mods:List (Nat×Nat))(zl:(Nat->Value)->World->Prop)(h1:c1.wpIn (Fw r) n P (Exit.then (JnK N ds mods e zl) Q) (act N e ds) w)(h2:∀e1 w1,zl e1 w1->K (act N (ov (ot mods) e1 e) ds) w1):c1.wpIn (Fw r) n P (Exit.then K Q) (act N e ds) w:=
 wpIn_mono h1 (by
  intro x a' w' hq
  cases x <;>first|exact hq|(obtain⟨e',rfl,h3,h4⟩:=hq;rw[Jh h3];exact h2 e' w' h4))
def C4 {zl:(Nat->Value)->World->Prop}(hI:zl e' w')(hs:∀t,ot mods t=false->e' t=e t:=by exact same):JnK N ds mods e zl (act N e' ds) w':=⟨e',rfl,hs,hI⟩
end code
section ops
variable {P:Program}{r:Option Nat}{N:Nat}{ds:List Deferred}{Q:Exit->Act->World->Prop}{K:Act->World->Prop}{a:Act}
variable {ops:Array Oper}{rest:List Oper}{op:Op}{ty:Nat}{pos:String}{af:Array Edge}{id:Nat}{c c1 c2:Code}{x y:Operand}
abbrev L (r:Option Nat)(n:Nat)(ops:Array Oper)(Q:Exit->Act->World->Prop)(rest:List Oper)(N:Nat)(e:Nat->Value)(ds:List Deferred)(w:World):Prop:=wpListIn (Fw r) n prog ops Q rest (act N e ds) w
def al {z:Value}(hi:gu prog t z s b)(hk:∀w',(w'.heap.size=w.heap.size+1/\aO w w')->ar w' w.heap.size t z.cells->L r n ops Q rest N (upd e d (.pointer (some ⟨w.heap.size,0,none⟩))) ds w'):
 L r n ops Q (⟨some d,.alloc t,ty,pos,af,none⟩::rest) N e ds w:=aa (Eb hi λw' h1 h2 h3=>hk w' ⟨h2,h1⟩ h3)
def bx (hk:∀w',(w'.heap.size=w.heap.size+1/\aO w w')->ar w' w.heap.size t v.cells->L r n ops Q rest N (upd e d (.pointer (some ⟨w.heap.size,0,none⟩))) ds w')(hx:ev N e x=v:=by exact Gx):
 L r n ops Q (⟨some d,.box t x,ty,pos,af,none⟩::rest) N e ds w:=aa (VC hx λw' h1 h2 h3=>hk w' ⟨h2,h1⟩ h3)
def cl {R:Value->World->Prop}(hf:Enters prog f)(hc:Calls prog f vs.toArray w (aH w R))(hk:∀v w',Tq w w'->R v w'->L r n ops Q rest N (upd e d v) ds w')(hv:xs.toList.map (ev N e)=vs:=by exact Z):
 L r n ops Q (⟨some d,.call ⟨.value (.func f),xs,ats⟩,ty,pos,af,none⟩::rest) N e ds w:=aa (qA hf hv hc λv w' h=>hk v w' (Vx h))
def clb {R:Value->World->Prop}(hf:Enters prog f)(hv:xs.toList.map (ev N e)=vs:=by exact Z)(hc:Calls prog f vs.toArray w (aH w R))(hk:∀v w',Tq w w'->R v w'->L r n ops Q rest N (upd e d v) ds w'):
 L r n ops Q (⟨some d,.call ⟨.value (.func f),xs,ats⟩,ty,pos,af,none⟩::rest) N e ds w:=aa (qA hf hv hc λv w' h=>hk v w' (Vx h))
def mg {R:Value->World->Prop}(hf:Enters prog f)(hx:ev N e x=.func (.func f) #[] lb.toArray)(hv:xs.toList.map (ev N e)=vs)(hc:Calls prog f (vs++lb).toArray w (aH w R))(hk:∀v w',Tq w w'->R v w'->K (act N (upd e d v) ds) w'){g:Option (Nat×Bool)}:Oper.wpIn (Fw r) n prog ⟨some d,.call ⟨.value x,xs,ats⟩,ty,pos,af,g⟩ (act N e ds) w K Q:=Nr hf hx hv hc λv w' h=>hk v w' (Vx h)
def xY {R:Value->World->Prop}{g:Option (Nat×Bool)}(hf:Enters prog f)(hv:xs.toList.map (ev N e)=vs)(hc:Calls prog f vs.toArray w (aH w R))(hk:∀v w',Tq w w'->R v w'->K (act N (upd e d v) ds) w'):Oper.wpIn (Fw r) n prog ⟨some d,.call ⟨.value (.func f),xs,ats⟩,ty,pos,af,g⟩ (act N e ds) w K Q:=qA hf hv hc λv w' h=>hk v w' (Vx h)
def C5 {D:TypeDesc}{name:String}{R:Value->World->Prop}{g:Option (Nat×Bool)}(hf:Enters prog f)(hm:ew prog t name f)(hu:prog.underlying t=some D)(hd:qI D=true)(hx:ev N e x=.iface t v)(hv:xs.toList.map (ev N e)=vs)(hc:Calls prog f (v::vs).toArray w (aH w R))(hk:∀v w',Tq w w'->R v w'->K (act N (upd e d v) ds) w'):Oper.wpIn (Fw r) n prog ⟨some d,.call {callee:=.invoke x name,args:=xs,argTypes:=ats},ty,pos,af,g⟩ (act N e ds) w K Q:=I2 hf hm hu hd hx hv hc λv w' h=>hk v w' (Vx h)
def SA {t tb m:Nat}(hb:ar w b tb cs)(hk:∀w',ee w w' b->ar w' b tb (putCells cs o vs)->L r n ops Q rest N e ds w')(hx:ev N e x=.pointer (some ⟨b,o,none⟩):=by exact gX)(hy:ev N e y=.agg vs.toArray:=by exact gX)(hi:(prog.info? t).map (·.size)=some m:=by with_reducible first|exact b8|exact Gu|exact ba|exact ks|exact xE|exact cH|exact fK|exact Im|exact ef|exact xC|exact mC)(hm:vs.length=m:=by exact Z)(h1:vs.all (·.oneCell')=true:=by exact Z)(ho:o+vs.length<=cs.size:=by exact qa3 Z):
 L r n ops Q (⟨none,.store t x y,ty,pos,af,none⟩::rest) N e ds w:=aa (aZ (hm▸hi) hx hy (List.all_eq_true.1 h1) hb ho hk)
def SO {t tb:Nat}(hb:ar w b tb cs)(hk:∀w',ee w w' b->ar w' b tb (cs.setIfInBounds o v)->L r n ops Q rest N e ds w')(hx:ev N e x=.pointer (some ⟨b,o,none⟩):=by exact gX)(hy:ev N e y=v:=by exact Gx)(h1:v.oneCell'=true:=by exact Z)(hi:(prog.info? t).map (·.size)=some 1:=by with_reducible first|exact iy|exact YF|exact Vv|exact mB|exact Si|exact Sj|exact zt|exact Sl|exact sz1104|exact Sk|exact Il|exact mf|exact B9|exact VN)(ho:o<cs.size:=by exact qa3 Z):
 L r n ops Q (⟨none,.store t x y,ty,pos,af,none⟩::rest) N e ds w:=aa (cJ hi hx hy h1 hb ho hk)
def BS {t:Nat}{z:Value}{cs:List Value}(hk:∀w',aO w w'->w.heap.size<w'.heap.size->w'.ownsRow w.heap.size el size (.slice (some ⟨w.heap.size,0,none⟩) 1 1) 1 cs->L r n ops Q rest N (upd e d (.slice (some ⟨w.heap.size,0,none⟩) 1 1)) ds w')(hx:ev N e x=v:=by exact Gx)(hc:v.cells=cs.toArray:=by exact Z)(hs:Jd prog t el z size bytes:=by with_reducible first|exact Tu|exact Tv|exact CW|exact CZ|exact Tw|exact Tx|exact Je|exact Jf)(hf:Instr.fill (λi=>some (i*size,size)) ((Array.range (1*size)).map (z.cells[· %z.cells.size]!)) [(0,v)]=some cs.toArray:=by kernel_rfl)(hl:cs.toArray.size=1*size:=by exact Z)(h24:Nat.ble (1*size) 16777216=true:=by exact Z):L r n ops Q (⟨some d,.buildSlice t 1 #[(0,x)],ty,pos,af,none⟩::rest) N e ds w:=aa (cE hs.1 hs.2.1 (by rw[<-hx];rfl) (qa3 h24) (by have:=hs.2.2.2;omega) hf hl dc hk)
def TK {t:Nat}{z:Value}{cs ds':List Value}(hk:∀w',aO w w'->w.heap.size<w'.heap.size->w'.ownsRow w.heap.size el size (.slice (some ⟨w.heap.size,0,none⟩) 2 2) 2 (cs++ds')->L r n ops Q rest N (upd e d (.slice (some ⟨w.heap.size,0,none⟩) 2 2)) ds w')(hx:ev N e x=u:=by exact Gx)(hy:ev N e y=v:=by exact Gx)(hc:u.cells=cs.toArray:=by exact Z)(hd:v.cells=ds'.toArray:=by exact Z)(hs:Jd prog t el z size bytes:=by with_reducible first|exact Tu|exact Tv|exact CW|exact CZ|exact Tw|exact Tx|exact Je|exact Jf)(hf:Instr.fill (λi=>some (i*size,size)) ((Array.range (2*size)).map (z.cells[· %z.cells.size]!)) [(0,u),(1,v)]=some (cs++ds').toArray:=by kernel_rfl)(hl:(cs++ds').toArray.size=2*size:=by exact Z)(h24:Nat.ble (2*size) 16777216=true:=by exact Z):L r n ops Q (⟨some d,.buildSlice t 2 #[(0,x),(1,y)],ty,pos,af,none⟩::rest) N e ds w:=aa (cE hs.1 hs.2.1 (by rw[<-hx,<-hy];rfl) (qa3 h24) (by have:=hs.2.2.2;omega) hf hl dc hk)
def AP {t ty base lo m c:Nat}{z:Value}{A:Option Addr}{xs news:List Value}(hown:w.ownsRow base el size v k xs)(hr:Rw w lo A news)(hk:∀v' w',w'.ownsRow base el size v' (k+m) (xs++news)->w.grownBy w' v.ownBlock->(v'.ownBlock=v.ownBlock\/v'.ownBlock=some w.heap.size)->L r n ops Q rest N (upd e d v') ds w')(h1:news.all (·.oneCell')=true:=by exact Z)(hx:ev N e x=v:=by exact gX)(hy:ev N e y=.slice A m c:=by exact gX)(hs:Jd prog t el z size bytes:=by with_reducible first|exact Tu|exact Tv|exact CW|exact CZ|exact Tw|exact Tx|exact Je|exact Jf)(hl:news.length=m*size:=by exact Z)(h63:k+m<=maxLen:=by simp only[maxLen];omega)(hb:(k+m)*bytes<=140737488355328:=by omega)(hbase:base<=w.heap.size:=by omega):
 L r n ops Q (⟨some d,.call {callee:=.builtin .append,args:=#[x,y],argTypes:=#[t,t]},ty,pos,af,none⟩::rest) N e ds w:=aa (jI hs.1 hs.2.1 hs.2.2.1 hs.2.2.2 hx hown hy hr hl (List.all_eq_true.1 h1) h63 hb hbase hk)
def Ro (h:v.oneCell'=true):[v].all (·.oneCell')=true:=by simp[h]
end ops
end Go.Proofs.YtlmihmlnpjkblaaGreatDoor
namespace Go.Proofs.YtlmihmlnpjkblaaGreatDoor
variable {xs ys:List Nat}{i n b lo' lo c n1 c1 n2 c2 lo1 lo2 B1 B2 g a1 a2 k:Nat}{A A1 A2:Option Addr}{w:World}
set_option maxRecDepth 100000
open Go Go.Eng Go.RowKit Tryz
attribute [local irreducible] wpListIn Code.wpIn Oper.wpIn Exit.then Exit.inBlock Exit.noGoto
set_option maxHeartbeats 40000000
def lA {a:Int}(h:In64 a:=by unfold In64;omega):In64 a:=h
def ints (l:List Nat):List Value:=l.map λn:Nat=>Value.int .i64 n
def Ji (h:i<xs.length):(ints xs)[i]?=some (.int .i64 ((xs[i]:Nat):Int)):=by simp[ints,h]
def i7 (xs:List Nat):(ints xs).length=xs.length:=by simp[ints]
def tY :∀u∈ints xs,u.oneCell'=true:=by
 intro u hu
 obtain⟨n,_,rfl⟩:=List.mem_map.1 hu
 rfl
def mL (a b:List Nat):ints (a++b)=ints a++ints b:=by simp[ints]
def lB (h:xs.length<=i):xs.getD i 0=0:=by simp[List.getD,List.getElem?_eq_none h]
def bE (h:i<xs.length):(ints xs)[i]?=some (.int .i64 ((xs.getD i 0:Nat):Int)):=by simp[ints,h]
def wB {m:Nat}(h0:0<m)(h:m<=xs.length):xs.take m=xs.take (m-1)++[xs.getD (m-1) 0]:=by
 obtain⟨k,rfl⟩:∃k,m=k+1:=⟨m-1,by omega⟩
 rw[List.take_succ_eq_append_getElem U]
 simp[show k<xs.length by omega]
def rO:∀l:List Nat,dK (l++[0])=dK l
 |[]=>by simp[dK]
 |d::l=>by simp only[List.cons_append,dK,rO l]
def tZ:∀(l:List Nat) (d:Nat),d≠0->dK (l++[d])=l++[d]
 |[],d,h=>by simp[dK,h]
 | e::l,d,h=>by
   have ih:=tZ l d h
   simp only[List.cons_append,dK,ih]
   rw[if_neg Rg]
def wC {m:Nat}(h:0<m/\m<=n/\xs.length=n)(hz:xs.getD (m-1) 0=0):dK (xs.take m)=dK (xs.take (m-1)):=by
 rw[wB h.1 U,hz,rO]
def nd {m:Nat}(h:m<=n/\xs.length=n)(hz:m=0\/0<m/\xs.getD (m-1) 0≠0):dK (xs.take m)=xs.take m:=by
 rcases hz with rfl|⟨h0,hz⟩
 · simp[dK]
 · rw[wB h0 U,tZ _ _ hz]
structure en (w:World)(lo:Nat)(A:Option Addr)(n c a:Nat):Prop where
 row:Rw w lo A (ints (au 10000 a))
 len:(au 10000 a).length=n
 cap:n<=c
section
variable {w0 w':World}{a:Nat}
def en.ext (k:aO w w')(h:en w lo A n c a):en w' lo A n c a:=⟨h.row.ext k,h.len,h.cap⟩
def aa6:=@en.ext
def en.put (k:ee w w' b)(hb:b<lo)(h:en w lo A n c a):en w' lo A n c a:=⟨h.row.put k hb,h.len,h.cap⟩
def ac8:=@en.put
def en.gr {row:Option Nat}(k:w.grownBy w' row)(hne:∀ad,A=some ad->some ad.block≠row)(h:en w lo A n c a):en w' lo A n c a:=⟨h.row.gr k hne,h.len,h.cap⟩
def en.mono (hl:lo'<=lo)(h:en w lo A n c a):en w lo' A n c a:=⟨h.row.mono hl,h.len,h.cap⟩
def en.lt (h:en w lo A n c a):∀x∈au 10000 a,x<10000:=eO 10000 U a
def en.val (h:en w lo A n c a):bU 10000 (au 10000 a)=a:=cK 10000 U a
end
def mM {l:List Int}(h:∀x∈l,0<=x/\x<10000):l.map (Value.int .i64)=ints (eT l):=by
 conv=>lhs;rw[<-zG l (λx hx=>(h x hx).1)]
 simp[ints]
def C6 {m a:Nat}{l:List Int}(hd:∀x∈l,0<=x/\x<10000)(hv:bU 10000 (eT l)=a)(hr:Rw w lo A (ints (eT l)))(hm:dK (eT l)=(eT l).take m)(hml:m<=(eT l).length)(hmc:m<=c):en w lo A m c a:=by
 have h1:au 10000 a=(eT l).take m:=by
  rw[<-hm,<-hv]
  exact(mH 10000 U _ (Gv l hd)).symm
 refine⟨?_,?_,hmc⟩
 · rw[h1]
   have:ints ((eT l).take m)=(ints (eT l)).take m:=by simp[ints]
   rw[this]
   exact hr.take m
 · rw[h1];simp;omega
def fg (l:List Int):(eT l).length=l.length:=by simp[eT]
def kO (x:Int)(w:World):
 CL 214 #[.int .i64 x] w (aH w λv w'=>v=.bool false):=by
 refine aD func214 Z (I ?_);exact am (t:=2) (v:=.bool false) Z (aa3 _) Z (by show Value.bool (!decide (x=x))=_;simp)
def TL (x y:Int)(h:x<y)(w:World):
 CL 171 #[.int .i64 x,.int .i64 y] w (aH w λv w'=>v=.int .i64 (-1)):=by
 refine aD func171 Z (I ?_);refine cl wu (kO _ _) ?_;rintro _ _ H rfl;have E4:=H.2;refine I ?_;refine cl wu (kO _ _) ?_;rintro _ _ E rfl;have E4:=xt E4 E.2;refine I ?_;exact am (t:=4) (v:=.int .i64 (-1)) Z E4 Z Z
def TM (x y:Int)(h:y<x)(w:World):
 CL 171 #[.int .i64 x,.int .i64 y] w (aH w λv w'=>v=.int .i64 1):=by
 refine aD func171 Z (I ?_);refine cl wu (kO _ _) ?_;rintro _ _ E rfl;have E11:=E.2;refine I ?_;refine cl wu (kO _ _) ?_;rintro _ _ H rfl;have E11:=xt E11 H.2;refine I ?_;exact am (t:=4) (v:=.int .i64 1) Z E11 Z Z
def cmp_eq (x y:Int)(h:x=y)(w:World):
 CL 171 #[.int .i64 x,.int .i64 y] w (aH w λv w'=>v=.int .i64 0):=by
 refine aD func171 Z (I ?_);refine cl wu (kO _ _) ?_;rintro _ _ E rfl;have E18:=E.2;refine I ?_;refine cl wu (kO _ _) ?_;rintro _ _ H rfl;have E18:=xt E18 H.2;refine I ?_;exact am (t:=4) (v:=.int .i64 0) Z E18 Z Z
def zU (hr:Rw w lo A (ints xs))(hn:xs.length=n):
 CL 165 #[.slice A n c,.int .i64 i] w (aH w λv w'=>v=.int .i64 ((xs.getD i 0:Nat):Int)):=by
 by_cases hi:i<n;have E:i<xs.length:=J
 refine aD func165 Z (I ?_);obtain⟨b,o,hA,hc⟩:=hr.cells i _ (Ji E);refine aa (aB (i:=i) (oo:=o+i) g5 iy Z hA Z hi U ?_);refine aa (bC (v:=.int .i64 ((xs[i]'E:Nat):Int)) U3 Z Z hc ?_);refine I ?_;exact am (t:=4) (v:=.int .i64 ((xs[i]'E:Nat):Int)) Z (aa3 _) (by simp[E]) Z;refine aD func165 Z (I ?_);exact am (t:=4) (v:=.int .i64 0) Z (aa3 _) (by rw[lB U];rfl) Z
def Od (h1:Rw w lo1 A1 (ints xs))(hn1:xs.length=n1)(h2:Rw w lo2 A2 (ints ys))(hn2:ys.length=n2)(k1:ar w B1 159 #[.slice A1 n1 c1])(k2:ar w B2 159 #[.slice A2 n2 c2])(hx:xs.getD i 0<=1000000000)(hy:ys.getD i 0<=1000000000):
 CL 164 #[.int .i64 i,pT B1,pT B2] w (aH w λv w'=>v=.int .i64 (((xs.getD i 0:Nat):Int)+((ys.getD i 0:Nat):Int))):=by
 refine aD func164 Z (I ?_);refine bQ 8 ?_;refine sf ?_;refine aX (V:=.int .i64 ((xs.getD i 0:Nat):Int)) (λ_ _ hR32 _=>?_) ?_;have h1:=h1.ext hR32;refine cl zA (zU h1 hn1) ?_;rintro _ _ E rfl;have E37:=E.2;refine I ?_;exact fs ⟨E37,rfl⟩;refine sf ?_;refine aX (V:=.int .i64 ((ys.getD i 0:Nat):Int)) (λ_ _ hR48 _=>?_) ?_;have h2:=h2.ext hR48;refine cl zA (zU h2 hn2) ?_;rintro _ _ H rfl;have E53:=H.2;refine I ?_;exact fs ⟨E53,rfl⟩;refine aA (λ_ _ _ _=>by refine fO ?_;refine I ?_;exact aE) ?_;refine sf ?_;intro _ _ hR64 _;have E66:=hR64.2;refine I ?_;exact am (t:=4) (v:=.int .i64 (((xs.getD i 0:Nat):Int)+((ys.getD i 0:Nat):Int))) Z E66 Z Z
def Jj (h1:Rw w lo1 A1 (ints xs))(hn1:xs.length=n1)(h2:Rw w lo2 A2 (ints ys))(hn2:ys.length=n2)(k1:ar w B1 159 #[.slice A1 n1 c1])(k2:ar w B2 159 #[.slice A2 n2 c2])(hx:xs.getD i 0<=1000000000)(hy:ys.getD i 0<=1000000000):
 CL 166 #[.int .i64 i,pT B1,pT B2] w (aH w λv w'=>v=.int .i64 (((xs.getD i 0:Nat):Int)-((ys.getD i 0:Nat):Int))):=by
 refine aD func166 Z (I ?_);refine bQ 8 ?_;refine sf ?_;refine aX (V:=.int .i64 ((xs.getD i 0:Nat):Int)) (λ_ _ hR77 _=>?_) ?_;have h1:=h1.ext hR77;refine cl zA (zU h1 hn1) ?_;rintro _ _ O rfl;have E82:=O.2;refine I ?_;exact fs ⟨E82,rfl⟩;refine sf ?_;refine aX (V:=.int .i64 ((ys.getD i 0:Nat):Int)) (λ_ _ hR93 _=>?_) ?_;have h2:=h2.ext hR93;refine cl zA (zU h2 hn2) ?_;rintro _ _ E rfl;have E98:=E.2;refine I ?_;exact fs ⟨E98,rfl⟩;refine aA (λ_ _ _ _=>by refine qk ?_;refine I ?_;exact aE) ?_;refine sf ?_;intro _ _ W _;have H:=W.2;refine I ?_;exact am (t:=4) (v:=.int .i64 (((xs.getD i 0:Nat):Int)-((ys.getD i 0:Nat):Int))) Z H Z Z
theorem fV (hr:Rw w lo A (ints xs))(hn:xs.length=n)(hc:n<=c)(hb:n<=1000000):
 CL 159 #[.slice A n c] w (aH w λv w'=>∃m,v=.slice A m c/\dK xs=xs.take m/\m<=n):=by
 refine aD func159 rfl ?_;refine I ?_;have H:=aa3 w;refine b7 [(0,0),(3,19)] (λO e W=>∃m:Nat,(m=O)/\(e 0=.slice A m c)/\(m<=n)/\(dK xs=dK (xs.take m))/\(aO w W)) ((n)) ⟨n,rfl,rfl,(qa0 _),(by rw[List.take_of_length_le U]),H⟩ ?_;rintro _ _ _ ⟨m,rfl,A0,q1,q2,E⟩;by_cases hm:0<m;by_cases hz:xs.getD (m-1) 0=0;obtain⟨b,o,hA,hc⟩:=(hr.ext E).cells (m-1) _ (bE (xs:=xs) U);refine I ?_;refine aa (jp (a:=(m:Int)) (b:=1) (c:=((m-1:Nat):Int)) rfl rfl lA U ?_);refine I ?_;refine aa (aB (i:=m-1) (oo:=o+(m-1)) g5 iy rfl hA rfl U U ?_);refine I ?_;refine aa (bC (v:=.int .i64 ((xs.getD (m-1) 0:Nat):Int)) U3 rfl rfl hc ?_);refine I ?_;refine aa (jp (a:=(m:Int)) (b:=1) (c:=((m-1:Nat):Int)) rfl rfl lA U ?_);refine aa (rr (j:=m-1) g5 iy rfl rfl U ?_);refine I ?_;exact bF ⟨m-1,rfl,rfl,U,(q2.trans (wC (n:=n) U hz)),E⟩;obtain⟨b,o,hA,hc⟩:=(hr.ext E).cells (m-1) _ (bE (xs:=xs) U);refine I ?_;refine aa (jp (a:=(m:Int)) (b:=1) (c:=((m-1:Nat):Int)) rfl rfl lA U ?_);refine I ?_;refine aa (aB (i:=m-1) (oo:=o+(m-1)) g5 iy rfl hA rfl U U ?_);refine I ?_;refine aa (bC (v:=.int .i64 ((xs.getD (m-1) 0:Nat):Int)) U3 rfl rfl hc ?_);refine I ?_
 exact am (t:=2) (v:=.slice A m c) rfl E ⟨m,rfl,q2.trans (nd (n:=n) U (by first|exact Or.inl U|exact Or.inr ⟨by omega,by omega⟩)),by omega⟩ rfl;refine I ?_;exact am (t:=2) (v:=.slice A m c) rfl E ⟨m,rfl,q2.trans (nd (n:=n) U (by first|exact Or.inl U|exact Or.inr ⟨by omega,by omega⟩)),by omega⟩ rfl
def xZ {c0:Int}{lb:List Value}{d:Nat->Int}(heg:Enters prog g)(hd:∀(i:Nat) (W:World),i<=n->aO w W->CL g ([Value.int .i64 i]++lb).toArray W (aH W λv _=>v=.int .i64 (d i)))(hn:n<=1000000)(hr:∀i≤n,-1000000000000<=d i/\d i<=1000000000000)(hc:∀k≤n,-1000000000<=(aI d c0 k).1/\(aI d c0 k).1<=1000000000)(hcn:0<=(aI d c0 n).1/\(aI d c0 n).1<10000)(hdn:d n=0):
 CL 163 #[.int .i64 n,.int .i64 c0,.func (.func g) #[] lb.toArray] w (aH w λv w'=>∃k,n<=k/\k<=n+1/\(aI d c0 k).1=0/\w'.ownsRow w.heap.size 3 1 v k ((aI d c0 k).2.map (Value.int .i64))):=by
 refine aD func163 Z (I ?_);refine aa (cG (a:=(n:Int)) (b:=1) (c:=((n+1:Nat):Int)) Z Z lA U ?_);refine aa (Np (m:=n+1) g5 kI Z Z U CA (λ_ D2 ho=>?_));have od:=D2;refine I ?_;refine b7 [(1,1),(7,9),(13,40)] (λCG e W=>∃k:Nat,∃O:Value,(n+1-k=CG)/\(e 1=.int .i64 ((aI d c0 k).1))/\(e 7=O)/\(e 8=.int .i64 k)/\(k<=n+1)/\(k=n+1->(aI d c0 k).1=0)/\(aO w W)/\(W.ownsRow w.heap.size 3 1 O k ((aI d c0 k).2.map (Value.int .i64)))) (n+1-0) ⟨0,_,rfl,rfl,rfl,rfl,U,U,od,ho⟩ ?_;rintro _ _ _ ⟨k,O,rfl,EW,Ab,GC,q1,q2,E,ho⟩;have H2:=bz E;by_cases hkn:k<n;by_cases hs:d k+(aI d c0 k).1<0;have Ar:=hr k U;have Aq:=hc k U;have H:=Cu U;refine I ?_;refine aa (mg (vs:=[.int .i64 k]) (lb:=lb) heg Z Z (hd k _ U E) ?_);rintro _ _ Af rfl;have Af:=Af.2;have ho:=ab Af ho;have E:=xt E Af;refine I ?_;refine fO (I ?_);refine fO (I ?_);refine aa (aT (v:=O) Ab ?_);refine I ?_;refine BS (λ_ Ay _ E0=>?_);have ho:=ab Ay ho;have E:=xt E Ay;refine AP ho (aa7 E0) (λAv _ CY E7 _=>?_);have E:=cS E E7 (bz E) (λg A0=>by have:=(ho.lt g A0).1;omega);refine aa (aK (v:=Av) Z ?_);refine I ?_
 refine aa (cG (a:=(k:Int)) (b:=1) (c:=((k+1:Nat):Int)) Z Z lA U ?_);refine I ?_;exact bF ⟨k+1,Av,rfl,(by rw[H];rfl),rfl,rfl,U,kc0,E,(by rw[H];simpa using CY)⟩;by_cases hs2:10000<=d k+(aI d c0 k).1;have Ar:=hr k U;have Aq:=hc k U;have H:=Cv U U;refine I ?_;refine aa (mg (vs:=[.int .i64 k]) (lb:=lb) heg Z Z (hd k _ U E) ?_);rintro _ _ Ap rfl;have Ap:=Ap.2;have ho:=ab Ap ho;have E:=xt E Ap;refine I ?_;refine fO (I ?_);refine aa (wo (a:=(d k)+((aI d c0 k).1)) (b:=10000) (c:=((d k)+((aI d c0 k).1))/10000) Z Z U U lA Z ?_);refine I ?_;refine aa (mu (a:=(d k)+((aI d c0 k).1)) (b:=10000) (c:=((d k)+((aI d c0 k).1))%10000) Z Z U U Z ?_);refine I ?_;refine aa (aT (v:=O) Ab ?_);refine I ?_;refine BS (λ_ Az _ wr=>?_);have ho:=ab Az ho;have E:=xt E Az;refine AP ho (aa7 wr) (λnm _ D1 E6 _=>?_);have E:=cS E E6 (bz E) (λg A0=>by have:=(ho.lt g A0).1;omega);refine aa (aK (v:=nm) Z ?_);refine I ?_;refine aa (cG (a:=(k:Int)) (b:=1) (c:=((k+1:Nat):Int)) Z Z lA U ?_);refine I ?_
 exact bF ⟨k+1,nm,rfl,(by rw[H];rfl),rfl,rfl,U,kc0,E,(by rw[H];simpa using D1)⟩;have Ar:=hr k U;have Aq:=hc k U;have H:=tH U U;refine I ?_;refine aa (mg (vs:=[.int .i64 k]) (lb:=lb) heg Z Z (hd k _ U E) ?_);rintro _ _ Ao rfl;have Ao:=Ao.2;have ho:=ab Ao ho;have E:=xt E Ao;refine I ?_;refine fO (I ?_);refine aa (aT (v:=O) Ab ?_);refine I ?_;refine BS (λ_ C0 _ E9=>?_);have ho:=ab C0 ho;have E:=xt E C0;refine AP ho (aa7 E9) (λAw _ ES E4 _=>?_);have E:=cS E E4 (bz E) (λg A0=>by have:=(ho.lt g A0).1;omega);refine aa (aK (v:=Aw) Z ?_);refine I ?_;refine aa (cG (a:=(k:Int)) (b:=1) (c:=((k+1:Nat):Int)) Z Z lA U ?_);refine I ?_;exact bF ⟨k+1,Aw,rfl,(by rw[H];rfl),rfl,rfl,U,kc0,E,(by rw[H];simpa using ES)⟩;by_cases hcz:(aI d c0 k).1=0;refine I ?_;refine aa (aT (v:=O) Ab ?_);refine aa (aK (v:=O) Z ?_);refine I ?_;exact am (t:=6) (v:=O) Z E ⟨k,by omega,by omega,hcz,ho⟩ Z;have Ax:n=k:=J
 have E1:=hdn;rw[Ax]at E1;have E5:=hcn;rw[Ax]at E5;have FR:¬10000<=d k+(aI d c0 k).1:=J
 have G0:¬d k+(aI d c0 k).1<0:=J
 have Ar:=hr k U;have Aq:=hc k U;have H:=tH U U;refine I ?_;refine aa (mg (vs:=[.int .i64 k]) (lb:=lb) heg Z Z (hd k _ U E) ?_);rintro _ _ Am rfl;have Am:=Am.2;have ho:=ab Am ho;have E:=xt E Am;refine I ?_;refine fO (I ?_);refine aa (aT (v:=O) Ab ?_);refine I ?_;refine BS (λ_ B0 _ Cr=>?_);have ho:=ab B0 ho;have E:=xt E B0;refine AP ho (aa7 Cr) (λAs _ CB ny _=>?_);have E:=cS E ny (bz E) (λg A0=>by have:=(ho.lt g A0).1;omega);refine aa (aK (v:=As) Z ?_);refine I ?_;refine aa (cG (a:=(k:Int)) (b:=1) (c:=((k+1:Nat):Int)) Z Z lA U ?_);refine I ?_;exact bF ⟨k+1,As,rfl,(by rw[H];rfl),rfl,rfl,U,kc0,E,(by rw[H];simpa using CB)⟩
def Xg {m:Nat}(h1:Rw w lo1 A1 (ints xs))(hn1:xs.length=n1)(k1:ar w B1 159 #[.slice A1 n1 c1])(k2:ar w B2 3 #[.int .i64 m])(hx:∀x∈xs,x<10000)(hm:m<10000):
 CL 208 #[.int .i64 i,pT B1,pT B2] w (aH w λv w'=>v=.int .i64 (se xs m i)):=by
 have hb:=xP hx hm i;unfold se at hb;refine aD func208 Z (I ?_);refine bQ 5 ?_;refine sf ?_;refine aX (V:=.int .i64 ((xs.getD i 0:Nat):Int)) (λ_ _ hR11 _=>?_) ?_;have h1:=h1.ext hR11;refine cl zA (zU h1 hn1) ?_;rintro _ _ E rfl;have E16:=E.2;refine I ?_;exact fs ⟨E16,rfl⟩;refine sf ?_;refine aA (λ_ _ _ _=>by refine aa (rm (a:=((xs.getD i 0:Nat):Int)) (b:=(m:Int)) (c:=se xs m i) Z Z L7 Z ?_);refine I ?_;exact aE) ?_;refine sf ?_;intro _ _ hR27 _;have E29:=hR27.2;refine I ?_;exact am (t:=4) (v:=.int .i64 (se xs m i)) Z E29 Z Z
def pg (h1:en w lo1 A1 n1 c1 a1)(s1:n1<=100000)(h2:en w lo2 A2 n2 c2 a2)(s2:n2<=100000):
 CL 121 #[.slice A1 n1 c1,.slice A2 n2 c2] w (aH w λv w'=>∃A n c,v=.slice A n c/\en w' w.heap.size A n c (a1+a2)):=by
 refine aD func121 Z (I ?_);refine bx (λA0 Aw H=>?_);have E33:=Aw.2;refine bx (λB0 C0 Av=>?_);have⟨H,E33⟩:=bo C0.2 H E33;refine I ?_;refine aa (If (a:=(n1:Int)) (b:=(n2:Int)) (m:=((max n1 n2:Nat):Int)) Z Z ke0 ?_);refine aa (aC (vf:=[]) (vc:=[pT w.heap.size,pT A0.heap.size]) Z Z ?_);have CB:∀(i:Nat) (W:World),i<=max n1 n2->aO B0 W->CL 164 (([Value.int .i64 i]:List Value)++([pT w.heap.size,pT A0.heap.size]:List Value)).toArray W (aH W λv _=>v=.int .i64 (gy (au 10000 a1) (au 10000 a2) i)):=by(intro i W hi X;have X2:=xt E33 X;exact Od (h1.row.ext X2) h1.len (h2.row.ext X2) h2.len (H.ext X) (Av.ext X) (by have:=getD_lt h1.lt i;omega) (by have:=getD_lt h2.lt i;omega))
 have CG:∀i≤max n1 n2,-1000000000000<=gy (au 10000 a1) (au 10000 a2) i/\gy (au 10000 a1) (au 10000 a2) i<=1000000000000:=λi _=>by(have:=getD_lt h1.lt i;have:=getD_lt h2.lt i;unfold gy;omega)
 have Aq:=oi h1.lt h2.lt;have E1:∀k≤max n1 n2,-1000000000<=(aI (gy (au 10000 a1) (au 10000 a2)) 0 k).1/\(aI (gy (au 10000 a1) (au 10000 a2)) 0 k).1<=1000000000:=λk _=>by(have:=Aq k;omega)
 have Cr:0<=(aI (gy (au 10000 a1) (au 10000 a2)) 0 (max n1 n2)).1/\(aI (gy (au 10000 a1) (au 10000 a2)) 0 (max n1 n2)).1<10000:=by(have:=Aq (max n1 n2);omega)
 have Az:gy (au 10000 a1) (au 10000 a2) (max n1 n2)=0:=by(unfold gy;rw[lB kc2,lB kd8];rfl)
 refine clb It (hc:=xZ (d:=gy (au 10000 a1) (au 10000 a2)) (c0:=0) (lb:=[pT w.heap.size,pT A0.heap.size]) Wj CB U CG E1 Cr Az) (hk:=?_);rintro _ _ E ⟨k,D2,E4,D1,ho⟩;have E:=E.2;obtain⟨Af,O,rfl,E0,-,-,-⟩:=e8 ho;have E33:=xt E33 E;obtain⟨Ap,Am⟩:=IX h1.lt h2.lt (n:=max n1 n2) (k:=k) ⟨by rw[h1.len];omega,by rw[h2.len];omega⟩ D2 D1;rw[h1.val,h2.val]at Am;have Ar:=ho;rw[mM Ap]at Ar;have Ao:=aa7 Ar;refine clb ry (hc:=fV Ao (by rw[fg,eR]) E0 U) (hk:=?_);rintro _ _ Ab ⟨As,rfl,Ay,CY⟩;have E33:=xt E33 Ab.2;have Ax:=C6 (c:=O) Ap Am (Ao.ext Ab.2) Ay (by rw[fg,eR];exact CY) U;refine I ?_;exact am (t:=4) (v:=.slice Af As O) Z E33 ⟨Af,As,O,rfl,Ax.mono U⟩ Z
def pi (h1:en w lo1 A1 n1 c1 a1)(s1:n1<=100000)(h2:en w lo2 A2 n2 c2 a2)(s2:n2<=100000)(hle:a2<=a1)(hln:n2<=n1):
 CL 123 #[.slice A1 n1 c1,.slice A2 n2 c2] w (aH w λv w'=>∃A n c,v=.slice A n c/\en w' w.heap.size A n c (a1-a2)):=by
 refine aD func123 Z (I ?_);refine bx (λA0 Ay H=>?_);have E49:=Ay.2;refine bx (λAv CY B0=>?_);have⟨H,E49⟩:=bo CY.2 H E49;refine I ?_;refine aa (aC (vf:=[]) (vc:=[pT w.heap.size,pT A0.heap.size]) Z Z ?_);have C0:∀(i:Nat) (W:World),i<=n1->aO Av W->CL 166 (([Value.int .i64 i]:List Value)++([pT w.heap.size,pT A0.heap.size]:List Value)).toArray W (aH W λv _=>v=.int .i64 (dH (au 10000 a1) (au 10000 a2) i)):=by(intro i W hi X;have X2:=xt E49 X;exact Jj (h1.row.ext X2) h1.len (h2.row.ext X2) h2.len (H.ext X) (B0.ext X) (by have:=getD_lt h1.lt i;omega) (by have:=getD_lt h2.lt i;omega))
 have CG:∀i≤n1,-1000000000000<=dH (au 10000 a1) (au 10000 a2) i/\dH (au 10000 a1) (au 10000 a2) i<=1000000000000:=λi _=>by(have:=getD_lt h1.lt i;have:=getD_lt h2.lt i;unfold dH;omega)
 have E0:=j8 h1.lt h2.lt;obtain⟨Aw,CB,E6⟩:=Gw h1.lt h2.lt (n:=n1) ⟨by rw[h1.len];omega,by rw[h2.len];omega⟩ (by rw[h1.val,h2.val];exact hle);have E5:∀k≤n1,-1000000000<=(aI (dH (au 10000 a1) (au 10000 a2)) 0 k).1/\(aI (dH (au 10000 a1) (au 10000 a2)) 0 k).1<=1000000000:=λk _=>by(have:=E0 k;omega)
 have D1:0<=(aI (dH (au 10000 a1) (au 10000 a2)) 0 n1).1/\(aI (dH (au 10000 a1) (au 10000 a2)) 0 n1).1<10000:=by(rw[Aw];omega)
 have Az:dH (au 10000 a1) (au 10000 a2) n1=0:=by(unfold dH;rw[lB kc2,lB kd8];rfl)
 refine clb It (hc:=xZ (d:=dH (au 10000 a1) (au 10000 a2)) (c0:=0) (lb:=[pT w.heap.size,pT A0.heap.size]) Wk C0 U CG E5 D1 Az) (hk:=?_);rintro _ _ E ⟨k,E1,E7,D2,ho⟩;have E:=E.2;obtain⟨Af,O,rfl,E4,-,-,-⟩:=e8 ho;have E49:=xt E49 E;have Ap:=CB k;have Ab:=E6 k E1 D2;rw[h1.val,h2.val]at Ab;have Aq:=ho;rw[mM Ap]at Aq;have Am:=aa7 Aq;refine clb ry (hc:=fV Am (by rw[fg,eR]) E4 U) (hk:=?_);rintro _ _ Ao ⟨Ar,rfl,Ax,Cr⟩;have E49:=xt E49 Ao.2;have As:=C6 (c:=O) Ap Ab (Am.ext Ao.2) Ax (by rw[fg,eR];exact Cr) U;refine I ?_;exact am (t:=4) (v:=.slice Af Ar O) Z E49 ⟨Af,Ar,O,rfl,As.mono U⟩ Z
def EK (h1:en w lo1 A1 n1 c1 a1)(s1:n1<=100000){m:Nat}(hm:m<10000):
 CL 160 #[.slice A1 n1 c1,.int .i64 m] w (aH w λv w'=>∃A n c,v=.slice A n c/\en w' w.heap.size A n c (a1*m)):=by
 refine aD func160 Z (I ?_);refine bx (λH Az O=>?_);have E65:=Az.2;refine bx (λAw Cr C0=>?_);have⟨O,E65⟩:=bo Cr.2 O E65;refine I ?_;refine aa (aC (vf:=[]) (vc:=[pT w.heap.size,pT H.heap.size]) Z Z ?_);have B0:∀(i:Nat) (W:World),i<=n1->aO Aw W->CL 208 (([Value.int .i64 i]:List Value)++([pT w.heap.size,pT H.heap.size]:List Value)).toArray W (aH W λv _=>v=.int .i64 (se (au 10000 a1) m i)):=by(intro i W hi X;have X2:=xt E65 X;exact Xg (h1.row.ext X2) h1.len (O.ext X) (C0.ext X) h1.lt hm)
 have CB:∀i≤n1,-1000000000000<=se (au 10000 a1) m i/\se (au 10000 a1) m i<=1000000000000:=λi _=>by(have:=xP h1.lt hm i;omega)
 have Ar:=tI h1.lt hm;have E1:∀k≤n1,-1000000000<=(aI (se (au 10000 a1) m) 0 k).1/\(aI (se (au 10000 a1) m) 0 k).1<=1000000000:=λk _=>by(have:=Ar k;omega)
 have CY:0<=(aI (se (au 10000 a1) m) 0 n1).1/\(aI (se (au 10000 a1) m) 0 n1).1<10000:=Ar n1;have Ay:se (au 10000 a1) m n1=0:=by(unfold se;rw[lB kc2];simp)
 refine clb It (hc:=xZ (d:=se (au 10000 a1) m) (c0:=0) (lb:=[pT w.heap.size,pT H.heap.size]) Wp B0 U CB E1 CY Ay) (hk:=?_);rintro _ _ E ⟨k,D2,E4,D1,ho⟩;have E:=E.2;obtain⟨Af,A0,rfl,E0,-,-,-⟩:=e8 ho;have E65:=xt E65 E;obtain⟨Ap,Ab⟩:=Tg h1.lt hm (n:=n1) (k:=k) kc2 D2 D1;rw[h1.val]at Ab;have Aq:=ho;rw[mM Ap]at Aq;have Ao:=aa7 Aq;refine clb ry (hc:=fV Ao (by rw[fg,eR]) E0 U) (hk:=?_);rintro _ _ Am ⟨As,rfl,Ax,CG⟩;have E65:=xt E65 Am.2;have Av:=C6 (c:=A0) Ap Ab (Ao.ext Am.2) Ax (by rw[fg,eR];exact CG) U;refine I ?_;exact am (t:=4) (v:=.slice Af As A0) Z E65 ⟨Af,As,A0,rfl,Av.mono U⟩ Z
def wD {l:List {i:Nat // i<n}}{hk:k-1<n}(h:0<k)(hl:l.map (·.1)++(List.range k).reverse=(List.range n).reverse):(l++[(⟨k-1,hk⟩:{i:Nat // i<n})]).map (·.1)++(List.range (k-1)).reverse=(List.range n).reverse:=by
 rw[<-hl]
 obtain⟨j,rfl⟩:∃j,k=j+1:=⟨k-1,by omega⟩
 simp[List.range_succ]
def ka :
 CL 158 #[.slice A n c] w (aH w λv w'=>v=.func (.func 207) #[] #[pT w.heap.size]/\ar w' w.heap.size 159 #[.slice A n c]):=by
 refine aD func158 Z (I ?_);refine bx (λ_ H E=>?_);have E4:=H.2;refine aa (aK (v:=.nilFunc) Z ?_);refine I ?_;refine aa (aC (vf:=[]) (vc:=[pT w.heap.size]) Z Z ?_);refine I ?_;exact am (t:=2) (v:=.func (.func 207) #[] #[pT w.heap.size]) Z E4 ⟨rfl,E⟩ Z
def iQ (hb:ar w b 159 #[.slice A n c])(hr:Rw w lo A (ints xs))(hn:xs.length=n)(hm:n<=1000000):
 Q4 prog 207 [pT b] n (λi=>[.int .i64 i,.int .i64 ((xs.getD i 0:Nat):Int)]) (List.range n).reverse (λW=>ar W b 159 #[.slice A n c]/\Rw W lo A (ints xs)) w:=by
 intro l JT Jx W hW hJ0 hJx0 hY Af;have hb:=be hW hb;have hr:=Rw.ext hW hr;clear hW hJ0 hJx0;refine qH ?_;refine Eu func207 Z (I ?_);refine qk (I ?_);refine b7 [(3,3),(7,18)] (λAm e W=>∃k:Nat,∃pre:List {i:Nat // i<n},(k=Am)/\(e 3=.int .i64 ((k:Int)-1))/\(k<=n)/\(pre.map (·.1)++(List.range k).reverse=(List.range n).reverse)/\(JT pre W)/\(True)/\(ar W b 159 #[.slice A n c])/\(Rw W lo A (ints xs))) (n) ⟨n,[],rfl,rfl,(qa0 _),Rg,Af,trivial,hb,hr⟩ ?_;rintro _ _ Ao ⟨k,pre,rfl,Ap,q1,q2,H,E9,hb,hr⟩;by_cases hm:0<k;refine I ?_;obtain⟨_,o,hA,hc⟩:=hr.cells (k-1) _ (bE (xs:=xs) U);refine aa (aB (i:=k-1) (oo:=o+(k-1)) g5 iy Z hA (dG Z U) U U ?_);refine aa (bC (v:=.int .i64 ((xs.getD (k-1) 0:Nat):Int)) U3 Z Z hc ?_);refine aa (xR (l:=l) (vs:=[.int .i64 ((k-1:Nat):Int),.int .i64 ((xs.getD (k-1) 0:Nat):Int)]) Z (av (dG Z U) (av Z Z)) (hY pre ⟨k-1,by omega⟩ Ao H (by have hl:=qb2 List.length q2;simp at hl;omega)) ?_);rintro _ _ O;obtain⟨q,rfl,A0,Ab⟩:=rJ O;show wpListIn _ _ _ _ _ _ _ _;refine I ?_;refine xA (q:=!q) Z (λE=>?_) (λE=>?_);have hq:q=false:=by simpa using E
 refine I ?_;exact NF Z λv=>⟨⟨v,rfl⟩,.inr ⟨_,⟨_,wD hm q2⟩,Ab hq⟩⟩;have hq:q=true:=by simpa using E
 obtain⟨hJ,hK⟩:=A0 hq;obtain⟨hb,hr⟩:=hK ⟨hb,hr⟩;refine I ?_;refine aa (jp (a:=(k:Int)-1) (b:=1) (c:=((k-1:Nat):Int)-1) Z Z L7 U ?_);refine I ?_;exact bF ⟨k-1,pre++[⟨k-1,by omega⟩],rfl,rfl,U,(wD hm q2),hJ,E9,hb,hr⟩;refine I ?_;exact sE Z λv=>⟨⟨v,rfl⟩,.inl ⟨pre,by rw[show k=0 by omega]at q2;simpa using q2,H⟩⟩
end Go.Proofs.YtlmihmlnpjkblaaGreatDoor
def ou {B:Nat}(hB:2<=B)(a:Nat):a<B^(au B a).length:=(bf B hB a _).1 (qa0 _)
def EL {B:Nat}(hB:2<=B)(a b k:Nat)(ha:(au B a).length<=k)(hb:(au B b).length<=k):(au B (a+b)).length<=k+1:=by
 rw[bf B hB]at *
 have:B^(k+1)=B^k*B:=Nat.pow_succ ..
 have h2:B^k*2<=B^k*B:=Nat.mul_le_mul_left _ hB
 omega
def mN {B:Nat}(hB:2<=B)(a m k:Nat)(ha:(au B a).length<=k)(hm:m<B):(au B (a*m)).length<=k+1:=by
 rw[bf B hB]at *
 have h1:B^(k+1)=B^k*B:=Nat.pow_succ ..
 by_cases h0:a=0
 · subst h0
   have:=Nat.pow_pos (n:=k+1) (show 0<B by omega)
   omega
 · have:a*m<a*B:=(Nat.mul_lt_mul_left J).2 hm
   have h2:a*B<=B^k*B:=Nat.mul_le_mul_right B J
   omega
def ey {B:Nat}(hB:2<=B){a b:Nat}(h:a<=b):(au B a).length<=(au B b).length:=by
 rw[bf B hB]
 exact Nat.lt_of_le_of_lt h (ou hB b)
def GB {B:Nat}(hB:2<=B)(a:Nat)(h:0<a):au B (a*B)=0::au B a:=by
 rw[ge B _ hB (Nat.mul_pos h J),Nat.mul_mod_left,Nat.mul_div_cancel _ J]
def jw {B:Nat}(hB:2<=B){a:Nat}(h:(au B a).length=0):a=0:=by
 rcases Nat.eq_zero_or_pos a with h0|h0
 · exact h0
 · rw[ge B a hB h0]at h;simp at h
def mO {B:Nat}(hB:2<=B){a:Nat}(h:0<(au B a).length):0<a:=by
 rcases Nat.eq_zero_or_pos a with h0|h0
 · subst h0;simp[gw]at h
 · exact h0
def nQ (a:Nat)(ys:List Nat)(pre:List Nat):Nat:=pre.foldl (λs i=>s*10000+a*ys.getD i 0) 0
def kaF (a:Nat)(ys pre:List Nat)(x:Nat):nQ a ys (pre++[x])=nQ a ys pre*10000+a*ys.getD x 0:=by simp[nQ]
def wE (a:Nat)(ys:List Nat):∀k s,k<=ys.length->(List.range k).reverse.foldl (λs i=>s*10000+a*ys.getD i 0) s=s*10000^k+a*bU 10000 (ys.take k)
 |0,s,_=>by simp[bU]
 | k+1,s,h=>by
   rw[List.range_succ,List.reverse_append]
   simp only[List.reverse_cons,List.reverse_nil,List.nil_append,List.cons_append,List.foldl_cons]
   rw[wE a ys k _ J,List.take_succ_eq_append_getElem J,cu]
   have hl:(ys.take k).length=k:=by simp;omega
   have E:ys.getD k 0=ys[k]:=by simp[show k<ys.length by omega]
   rw[hl,E]
   simp only[bU,Nat.mul_zero,Nat.add_zero,Nat.pow_succ]
   grind
def GD (a:Nat)(ys:List Nat){n:Nat}(h:ys.length=n):nQ a ys (List.range n).reverse=a*bU 10000 ys:=by
 unfold nQ
 rw[wE a ys n 0 J,List.take_of_length_le J]
 simp
namespace Go.Proofs.YtlmihmlnpjkblaaGreatDoor
open Go Go.Eng Go.RowKit Tryz
variable {B D lo a n1 c1 a1 lo1 n2 c2 a2 lo2:Nat}{A1 A2:Option Addr}{W W' w w':World}
attribute [local irreducible] wpListIn Code.wpIn Oper.wpIn Exit.then Exit.inBlock Exit.noGoto
set_option maxHeartbeats 40000000
section
variable {w0:World}{A:Option Addr}{n c:Nat}
def en.cel {row:Option Nat}(hg:W.grownBy W' row)(hr:∀r,row=some r->B<=r/\∃o:Obj,W.heap[r]?=some o/\o.isCells=false)(h:en W lo A n c a):en W' lo A n c a:=⟨h.row.cel hg hr,h.len,h.cap⟩
def en.dfr (hK:lv w D)(h:en w lo A n c a):en (w.putObj D (.deferred none)) lo A n c a:=⟨h.row.dfr hK,h.len,h.cap⟩
def en.zero (w:World)(lo:Nat):en w lo none 0 0 0:=⟨Rw.nil w lo,rfl,qa0 _⟩
def en.hi (h:en w lo A n c a):∀ad,A=some ad->ad.block<w.heap.size:=h.row.hi
def en.le (h:en w lo A n c a):(au 10000 a).length<=n:=by rw[h.len];exact qa0 _
end
def Wf (lo a:Nat)(v:Value)(w:World):Prop:=∃A n c,v=.slice A n c/\en w lo A n c a
def Wf.ext {v:Value}(k:aO w w')(h:Wf lo a v w):Wf lo a v w':=by
 obtain⟨A,n,c,e,h⟩:=h
 exact⟨A,n,c,e,h.ext k⟩
set_option maxRecDepth 100000 in
def Jk (h1:en w lo1 A1 n1 c1 a1)(s1:n1<=10000)(h2:en w lo2 A2 n2 c2 a2)(s2:n2<=10000):
 CL 141 #[.slice A1 n1 c1,.slice A2 n2 c2] w (aH w λv w'=>∃A n c,v=.slice A n c/\en w' w.heap.size A n c (a1*a2)):=by
 refine rI func141 Z (I ?_);refine bx (λFR L3 H=>?_);have E4:=L3.2;refine I ?_;refine al B7 (λEW No A0=>?_);have⟨H,E4⟩:=bo No.2 H E4;refine I ?_;refine cl Ej (ka (A:=A2) (n:=n2) (c:=c2)) ?_;rintro _ D2 Ix ⟨rfl,KY⟩;have⟨H,A0,E4⟩:=ca Ix.2 H A0 E4;refine I ?_;refine sD (m:=n2) (enc:=λx=>[.int .i64 x,.int .i64 (((au 10000 a2).getD x 0:Nat):Int)]) (order:=(List.range n2).reverse) (Kq:=λW=>ar W EW.heap.size 159 #[.slice A2 n2 c2]/\Rw W lo2 A2 (ints (au 10000 a2))) (gf:=207) (lb:=[pT EW.heap.size]) (ps:=[10,11]) Z Em (iQ KY (h2.row.ext E4) h2.len U) (λW W' row hq Ar hr=>⟨ad6 Ar hr hq.1,Rw.cel Ar hr hq.2⟩) (λ_=>rfl) [7] (λx=>[.int .i64 (((au 10000 a2).getD x 0:Nat):Int)]) ?asn (λpre W=>∃Av:Option Addr,∃Am:Nat,∃As:Nat,(Am<=n1+2+2*pre.length)/\(D2.heap.size<=W.heap.size)/\(aO w W)/\(ar W w.heap.size 159 #[.slice A1 n1 c1])/\(ar W FR.heap.size 159 #[.slice Av Am As])/\(en W D2.heap.size Av Am As (nQ a1 (au 10000 a2) pre))) (λ_ _ _=>False) ?hI ?hIx ?h0 ?body ?done ?stop;case asn=>
  intro l x W K hK;refine I ?_;exact hK
 case hI=>
  rintro pre W W' row ⟨Av,Am,As,q1,E0,E,H,A0,hv⟩ Ar hr;exact⟨Av,Am,As,q1,qa8 E0 Ar.size,o8 (B:=D2.heap.size) U Ar hr (bz E) E,ad6 Ar hr H,ad6 Ar hr A0,en.cel Ar hr hv⟩
 case hIx=>
  exact λ_ _ _ _ _ h=>h.elim
 case h0=>
  exact⟨none,0,0,U,qa0 _,E4,H,A0,en.zero _ _⟩
 case body=>
  rintro l pre x W ⟨Av,Am,As,q1,E0,E,H,A0,hv⟩ Rm hx S0;have Kp:=eL.refl [FR.heap.size] W;have zW:=bz E;have La:=hv.hi;have hd:=getD_lt h2.lt x;have E5:=ae4 A0;by_cases hz:Am=0;have E6:=jw (B:=10000) U (hv.len.trans U);refine I ?_;have hL:w.heap.size<=W.heap.size:=J
  refine bQ 5 ?_;refine sf ?_;refine bY (λv w=>Wf W.heap.size (a1*((au 10000 a2).getD x 0)) v w) (hs:=λ_ _ _ k h=>h.ext k) (λ_ _ hR26 _=>?_) ?_;refine clb Ek (hc:=EK (h1.ext (xt E hR26)) U hd) (hk:=?_);rintro _ _ H2 ⟨Ab,Ay,CB,rfl,Af⟩;have E31:=H2.2;have Af:=Af.mono (lo':=W.heap.size) (by have:=bz hR26;omega);refine I ?_;exact fs ⟨E31,⟨Ab,Ay,CB,rfl,Af⟩⟩;refine bY (λv w=>Wf W.heap.size ((nQ a1 (au 10000 a2) pre)+a1*((au 10000 a2).getD x 0)) v w) (hs:=λ_ _ _ k h=>h.ext k) (λ_ _ hR34 H3=>?_) ?_;obtain⟨Ab,Ay,CB,p36,Af⟩:=(H3 3 21 Z Z);have KC:Ay<=n1+1:=by rw[<-Af.len];exact mN U _ _ _ h1.le hd
  have hv:=aa6 hR34 hv;refine clb zw (hc:=pg hv U Af U) (hk:=?_) (hv:=av Z (av p36 Z));rintro _ _ L2 ⟨Ap,Aq,Ax,rfl,O⟩;have E40:=L2.2;have O:=O.mono (lo':=W.heap.size) (by have:=bz hR34;omega);refine I ?_;exact fs ⟨E40,⟨Ap,Aq,Ax,rfl,O⟩⟩;refine sf ?_;intro _ _ hR43 Lj;have H:=be hR43.2 H;have A0:=be hR43.2 A0;have E:=xt E hR43.2;have Kp:=ad9 Kp hR43.2;obtain⟨Ap,Aq,Ax,_,O⟩:=(Lj 4 22 Z Z);refine SO A0 (λ_ CG L1=>?_);have H:=pb CG H;have O:=ac8 CG U O;have E:=bi CG E;have Kp:=ae1 Kp CG Bx;have S9:=gJ CG;refine I ?_;have P0:Aq<=n1+2+0:=by(rw[<-O.len];rw[E6];rw[Nat.zero_add];exact qa8 (mN U _ _ _ h1.le hd) U)
  refine I ?_;exact⟨Kp.others kc9,λhq=>⟨Kp.blk KK hq.1,Kp.rw (λCY e=>by have:=h2.hi CY e;simp;omega) hq.2⟩,⟨Ap,Aq,Ax,KK,U,E,H,L1,(by rw[kaF];rw[E6]at O ⊢;simpa using O.mono U)⟩⟩;have K3:=mO (B:=10000) U (a:=nQ a1 (au 10000 a2) pre) (by rw[hv.len];omega);refine I ?_;refine BS (λ_ C0 _ E9=>?_);have H:=be C0 H;have A0:=be C0 A0;have hv:=aa6 C0 hv;have E:=xt E C0;have Kp:=ad9 Kp C0;have T2:=bz C0;refine I ?_;refine aa (jI (v:=.slice (some ⟨W.heap.size,0,none⟩) 1 1) (k:=1) g5 kI Z dc Z E9 Z hv.row (by rw[i7,hv.len];omega) tY CA U U (λ_ Li E7 Az _=>?_));have H:=aa2 Az DB H;have A0:=aa2 Az DB A0;have hv:=en.gr Az (λCY e=>by have:=La CY e;simp[Value.ownBlock];omega) hv;have Kp:=eL.gr Kp Az (λb hb=>by exact Or.inr (by simp[Value.ownBlock]at hb;omega));have E:=cS E Az (bz E) (λg L4=>by have:=(E9.lt g L4).1;omega);have P1:=Az.size;obtain⟨Aw,GC,rfl,N0,Q0,-,-⟩:=e8 E7;have hs:=aa7 E7;have Ao:en Li W.heap.size Aw (1+Am) GC (nQ a1 (au 10000 a2) pre*10000):=by(have e:=GB (B:=10000) U _ K3;exact⟨by rw[e];exact hs,by rw[e,List.length_cons,hv.len];omega,N0⟩)
  refine SO A0 (λD1 Cr E1=>?_);have H:=pb Cr H;have Ao:=ac8 Cr U Ao;have E:=bi Cr E;have Kp:=ae1 Kp Cr Bx;have T3:=gJ Cr;refine I ?_;have hL:w.heap.size<=D1.heap.size:=J
  refine bQ 5 ?_;refine sf ?_;refine bY (λv w=>Wf D1.heap.size (a1*((au 10000 a2).getD x 0)) v w) (hs:=λ_ _ _ k h=>h.ext k) (λ_ _ hR75 _=>?_) ?_;refine clb Ek (hc:=EK (h1.ext (xt E hR75)) U hd) (hk:=?_);rintro _ _ KM ⟨Ab,Ay,CB,rfl,Af⟩;have E80:=KM.2;have Af:=Af.mono (lo':=D1.heap.size) (by have:=bz hR75;omega);refine I ?_;exact fs ⟨E80,⟨Ab,Ay,CB,rfl,Af⟩⟩;refine bY (λv w=>Wf D1.heap.size ((nQ a1 (au 10000 a2) pre*10000)+a1*((au 10000 a2).getD x 0)) v w) (hs:=λ_ _ _ k h=>h.ext k) (λ_ _ hR83 Lk=>?_) ?_;obtain⟨Ab,Ay,CB,K2,Af⟩:=(Lk 3 21 Z Z);have KC:Ay<=n1+1:=by rw[<-Af.len];exact mN U _ _ _ h1.le hd
  have Ao:=aa6 hR83 Ao;refine clb zw (hc:=pg Ao U Af U) (hk:=?_) (hv:=av Z (av K2 Z));rintro _ _ H4 ⟨Ap,Aq,Ax,rfl,O⟩;have E89:=H4.2;have O:=O.mono (lo':=D1.heap.size) (by have:=bz hR83;omega);refine I ?_;exact fs ⟨E89,⟨Ap,Aq,Ax,rfl,O⟩⟩;refine sf ?_;intro _ _ hR92 G0;have H:=be hR92.2 H;have E1:=be hR92.2 E1;have Ao:=aa6 hR92.2 Ao;have E:=xt E hR92.2;have Kp:=ad9 Kp hR92.2;obtain⟨Ap,Aq,Ax,_,O⟩:=(G0 4 22 Z Z);refine SO E1 (λ_ B0 Ne=>?_);have H:=pb B0 H;have Ao:=ac8 B0 U Ao;have O:=ac8 B0 U O;have E:=bi B0 E;have Kp:=ae1 Kp B0 Bx;have P2:=gJ B0;refine I ?_;have P0:Aq<=n1+3+2*pre.length+1+0:=by(rw[<-O.len];exact qa8 (EL U _ _ (n1+3+2*pre.length) (by rw[Ao.len];omega) (qa8 (mN U _ _ _ h1.le hd) U)) U)
  refine I ?_;exact⟨Kp.others kc9,λhq=>⟨Kp.blk KK hq.1,Kp.rw (λCY e=>by have:=h2.hi CY e;simp;omega) hq.2⟩,⟨Ap,Aq,Ax,KK,U,E,H,Ne,(by rw[kaF];exact O.mono U)⟩⟩
 case stop=>
  exact λ_ _ _ _ _ _ h _=>h.elim
 case done=>
  rintro D W hD ⟨Av,Am,As,q1,E0,E,H,A0,hv⟩ hK;have zW:=bz E;refine I ?_;have ES:=hv.dfr hK;rw[GD _ _ h2.len,h2.val]at ES;exact NE (t:=4) (v:=.slice Av Am As) hK Z E U ⟨Av,Am,As,rfl,ES.mono U⟩ Z
end Go.Proofs.YtlmihmlnpjkblaaGreatDoor
def aQ (x y:Int):Int:=if x<y then -1 else if x=y then 0 else 1
def gh {x y:Int}(h:x<y):aQ x y=-1:=by simp[aQ,h]
def eY {x y:Int}(h:y<x):aQ x y=1:=by
 unfold aQ;rw[if_neg J,if_neg J]
def jy {x y:Int}(h:x=y):aQ x y=0:=by
 unfold aQ;rw[if_neg J,if_pos h]
def ow {x y u v:Int}(h1:x<y↔u<v)(h2:x=y↔u=v):aQ x y=aQ u v:=by
 unfold aQ;simp only[h1,h2]
def Oe {a b:Nat}(h:(au 10000 a).length≠(au 10000 b).length):aQ (((au 10000 a).length:Nat):Int) (((au 10000 b).length:Nat):Int)=aQ (a:Int) (b:Int):=by
 have h1:=@ey 10000 J a b
 have h2:=@ey 10000 J b a
 refine ow ⟨λk=>?_,λk=>?_⟩ ⟨λk=>?_,λk=>?_⟩
 · omega
 · omega
 · omega
 · have:a=b:=J
   subst this;rfl
def nR {n j:Nat}(h:j<n):(List.range n).reverse[j]?=some (n-1-j):=by
 rw[List.getElem?_reverse kb5,List.length_range,List.getElem?_range J]
def TN {p:List Nat}{x n:Nat}(h:p++[x] <+: (List.range n).reverse):x<n/\x=n-1-p.length/\p.length<n/\∀i,x<i->i<n->i∈p:=by
 have hl:p.length<n:=by have:=h.length_le;simp at this;omega
 have hx:(List.range n).reverse[p.length]?=some x:=by
  obtain⟨t,ht⟩:=h
  rw[<-ht];simp
 rw[nR hl]at hx
 have hx:n-1-p.length=x:=by simpa using hx
 refine⟨by omega,by omega,hl,λi _ _=>?_⟩
 have E:n-1-i<p.length:=J
 have:(List.range n).reverse[n-1-i]?=p[n-1-i]?:=by
  obtain⟨t,ht⟩:=h
  rw[<-ht,List.append_assoc,List.getElem?_append_left E]
 rw[nR J]at this
 have h3:n-1-(n-1-i)=i:=J
 rw[h3]at this
 exact qb0 this.symm
def wF (xs:List Nat){x:Nat}(h:x<xs.length):bU 10000 xs=bU 10000 (xs.take x)+10000^x*(xs.getD x 0+10000*bU 10000 (xs.drop (x+1))):=by
 have h1:xs=xs.take x++(xs.getD x 0::xs.drop (x+1)):=by
  have:xs.getD x 0=xs[x]:=by simp[h]
  rw[this,List.getElem_cons_drop,List.take_append_drop]
 conv=>lhs;rw[h1]
 rw[cu]
 have hl:(xs.take x).length=x:=by simp;omega
 rw[hl];rfl
def TO {xs ys p:List Nat}{x n:Nat}(hx:∀d∈xs,d<10000)(hy:∀d∈ys,d<10000)(hn:xs.length=n)(hm:ys.length=n)(hp:p++[x] <+: (List.range n).reverse)(he:∀i∈p,xs.getD i 0=ys.getD i 0)(hne:xs.getD x 0≠ys.getD x 0):
 aQ ((xs.getD x 0:Nat):Int) ((ys.getD x 0:Nat):Int)=aQ ((bU 10000 xs:Nat):Int) ((bU 10000 ys:Nat):Int):=by
 obtain⟨h1,-,-,h2⟩:=TN hp
 have hd:xs.drop (x+1)=ys.drop (x+1):=by
  apply List.ext_getElem
  · simp[hn,hm]
  · intro i h3 _
    have h3':x+1+i<xs.length:=by simp at h3;omega
    have h4':x+1+i<ys.length:=J
    have:=he _ (h2 (x+1+i) J J)
    simpa[h3',h4']using this
 rw[wF xs (x:=x) J,wF ys (x:=x) J,hd]
 have H:=ln 10000 (xs.take x) (λd hd=>hx d (List.mem_of_mem_take hd))
 have E:=ln 10000 (ys.take x) (λd hd=>hy d (List.mem_of_mem_take hd))
 have A0:(xs.take x).length=x:=by simp;omega
 have O:(ys.take x).length=x:=by simp;omega
 rw[A0]at H;rw[O]at E
 generalize bU 10000 (xs.take x)=s at *
 generalize bU 10000 (ys.take x)=t at *
 generalize bU 10000 (ys.drop (x+1))=u at *
 generalize xs.getD x 0=a at *
 generalize ys.getD x 0=b at *
 generalize 10000^x=B at *
 have key:∀s t a b:Nat,s<B->t<B->a<b->s+B*(a+10000*u)<t+B*(b+10000*u):=by
  intro s t a b _ _ _
  have:B*(a+10000*u)+B<=B*(b+10000*u):=by
   rw[<-Nat.mul_succ];exact Nat.mul_le_mul_left _ J
  omega
 rcases Nat.lt_or_gt_of_ne hne with h|h
 · rw[gh J,gh (by have:=key s t a b H E h;omega)]
 · rw[eY J,eY (by have:=key t s b a E H h;omega)]
def Of {a b n:Nat}(hn:(au 10000 a).length=n)(hm:(au 10000 b).length=n)(he:∀i∈(List.range n).reverse,(au 10000 a).getD i 0=(au 10000 b).getD i 0):a=b:=by
 have:au 10000 a=au 10000 b:=by
  apply List.ext_getElem
  · omega
  · intro i h1 h2
    have:=he i KK
    simpa[h1,h2]using this
 have h3:=qb2 (bU 10000) this
 rwa [cK 10000 J,cK 10000 J]at h3
namespace Go.Proofs.YtlmihmlnpjkblaaGreatDoor
variable {A1 A2:Option Addr}
set_option maxRecDepth 100000
open Go Go.Eng Go.RowKit Tryz
attribute [local irreducible] wpListIn Code.wpIn Oper.wpIn Exit.then Exit.inBlock Exit.noGoto
set_option maxHeartbeats 40000000
def Jl (x y:Int)(w:World):CL 171 #[.int .i64 x,.int .i64 y] w (aH w λv _=>v=.int .i64 (aQ x y)):=by
 by_cases h:x<y
 · rw[gh h];exact TL x y h w
 · by_cases h2:x=y
   · rw[jy h2];exact cmp_eq x y h2 w
   · rw[eY U];exact TM x y U w
def jN {n1 c1 a1 lo1:Nat}{w:World}(h1:en w lo1 A1 n1 c1 a1)(s1:n1<=100000){n2 c2 a2 lo2:Nat}(h2:en w lo2 A2 n2 c2 a2):
 CL 125 #[.slice A1 n1 c1,.slice A2 n2 c2] w (aH w λv w'=>v=.int .i64 (aQ (a1:Int) (a2:Int))):=by
 by_cases D1:n1=n2;refine rI func125 Z (I ?_);refine bx (λAs CB O=>?_);have E4:=CB.2;refine al kI (λAx E6 H=>?_);have⟨O,E4⟩:=bo E6.2 O E4;refine I ?_;refine cl Ej (ka (A:=A1) (n:=n1) (c:=c1)) ?_;rintro _ Ap E1 ⟨rfl,Az⟩;have⟨O,H,E4⟩:=ca E1.2 O H E4;refine I ?_;refine sD (m:=n1) (enc:=λx=>[.int .i64 x,.int .i64 (((au 10000 a1).getD x 0:Nat):Int)]) (order:=(List.range n1).reverse) (Kq:=λW=>ar W Ax.heap.size 159 #[.slice A1 n1 c1]/\Rw W lo1 A1 (ints (au 10000 a1))) (gf:=207) (lb:=[pT Ax.heap.size]) (ps:=[19,20]) Z Em (iQ Az (h1.row.ext E4) h1.len U) (λW W' row hq A0 hr=>⟨ad6 A0 hr hq.1,Rw.cel A0 hr hq.2⟩) (λ_=>rfl) [5,6] (λx=>[.int .i64 x,.int .i64 (((au 10000 a1).getD x 0:Nat):Int)]) ?asn (λpre W=>(∀i∈pre,(au 10000 a1).getD i 0=(au 10000 a2).getD i 0)/\(Ap.heap.size<=W.heap.size)/\(aO w W)/\(ar W w.heap.size 159 #[.slice A2 n2 c2])/\(ar W As.heap.size 3 #[.int .i64 (0)])) (λc pre W=>c=.ret/\∃p x,pre=p++[x]/\(∀i∈p,(au 10000 a1).getD i 0=(au 10000 a2).getD i 0)/\(au 10000 a1).getD x 0≠(au 10000 a2).getD x 0/\(Ap.heap.size<=W.heap.size)/\(aO w W)/\(ar W As.heap.size 3 #[.int .i64 (aQ (((au 10000 a1).getD x 0:Nat):Int) (((au 10000 a2).getD x 0:Nat):Int))])) ?hI ?hIx ?h0 ?body ?done ?stop;case asn=>
  intro l x W K hK;refine I ?_;exact hK
 case hI=>
  rintro pre W W' row ⟨q1,Af,E,O,H⟩ A0 hr;exact⟨q1,qa8 Af A0.size,o8 (B:=Ap.heap.size) U A0 hr (bz E) E,ad6 A0 hr O,ad6 A0 hr H⟩
 case hIx=>
  rintro c pre W W' row ⟨rfl,p,x,rfl,q1,q2,Af,E,H⟩ A0 hr;exact⟨rfl,p,x,rfl,q1,q2,qa8 Af A0.size,o8 (B:=Ap.heap.size) U A0 hr (bz E) E,ad6 A0 hr H⟩
 case h0=>
  exact⟨Rg,Nat.le_refl _,E4,O,H⟩
 case body=>
  rintro l pre x W ⟨q1,Af,E,O,H⟩ E9 hx D1;have Kp:=eL.refl [As.heap.size] W;have zW:=bz E;have Av:=ae4 H;obtain⟨_,o,hA,hc⟩:=(h2.row.ext E).cells x _ (bE (xs:=(au 10000 a2)) kd8);by_cases hne:(((au 10000 a1).getD x 0:Nat):Int)=(((au 10000 a2).getD x 0:Nat):Int);refine I ?_;refine aa (aB (i:=x) (oo:=o+x) g5 iy Z hA Z U U ?_);refine aa (bC (v:=.int .i64 (((au 10000 a2).getD x 0:Nat):Int)) U3 Z Z hc ?_);refine I ?_;exact⟨Kp.others kd0,λhq=>⟨Kp.blk KK hq.1,Kp.rw (λCG e=>by have:=h1.hi CG e;simp;omega) hq.2⟩,⟨(λi hi=>by rcases List.mem_append.1 hi with h|h;exact q1 i h;rw[List.mem_singleton.1 h];omega),U,E,O,H⟩⟩;refine I ?_;refine aa (aB (i:=x) (oo:=o+x) g5 iy Z hA Z U U ?_);refine aa (bC (v:=.int .i64 (((au 10000 a2).getD x 0:Nat):Int)) U3 Z Z hc ?_);refine I ?_;refine aa (aB (i:=x) (oo:=o+x) g5 iy Z hA Z U U ?_);refine aa (bC (v:=.int .i64 (((au 10000 a2).getD x 0:Nat):Int)) U3 Z Z hc ?_);refine cl QU (Jl _ _ _) ?_;rintro _ _ Am rfl;have O:=be Am.2 O;have H:=be Am.2 H;have E:=xt E Am.2
  have Kp:=ad9 Kp Am.2;refine SO H (λ_ Ao B0=>?_);have O:=pb Ao O;have E:=bi Ao E;have Kp:=ae1 Kp Ao Bx;have E7:=gJ Ao;refine I ?_;exact⟨Kp.others kd0,rfl,pre,x,rfl,q1,U,U,E,B0⟩
 case stop=>
  rintro D c pre W hD CY ⟨rfl,p,x,rfl,q1,q2,Af,E,H⟩ hK;have zW:=bz E;have Aw:=TO h1.lt h2.lt h1.len (h2.len.trans U) CY q1 q2;rw[h1.val,h2.val]at Aw;refine I ?_;exact jM (v:=.int .i64 (aQ (((au 10000 a1).getD x 0:Nat):Int) (((au 10000 a2).getD x 0:Nat):Int))) hK (ci Z (bH U3 Z Z (ab6 (H.dfr hK) Z))) ((dO _).low E U) (by rw[Aw])
 case done=>
  rintro D W hD ⟨q1,Af,E,O,H⟩ hK;have zW:=bz E;refine I ?_;refine SO H (λ_ Ar C0=>?_);have O:=pb Ar O;have hK:=ad3 Ar (hK.ne H) hK;have E:=bi Ar E;refine I ?_;exact jM (v:=.int .i64 0) hK (ci Z (bH U3 Z Z (ab6 (C0.dfr hK) Z))) ((dO _).low E U) (by rw[jy (by have:=Of h1.len (h2.len.trans U) q1;omega)])
 refine rI func125 Z (I ?_);refine bx (λ_ E0 Ab=>?_);have E24:=E0.2;refine al kI (λ_ E5 Aq=>?_);have⟨Ab,E24⟩:=bo E5.2 Ab E24;refine I ?_;refine cl QU (Jl _ _ _) ?_;rintro _ _ D2 rfl;have⟨Ab,Aq,E24⟩:=ca D2.2 Ab Aq E24;refine SO Aq (λ_ Ay Cr=>?_);have Ab:=pb Ay Ab;have E24:=bi Ay E24;refine I ?_;exact xQ (v:=.int .i64 (aQ (n1:Int) (n2:Int))) (ci Z (bH U3 Z Z (ab6 Cr Z))) E24 (by have:=Oe (a:=a1) (b:=a2) (by rw[h1.len,h2.len];omega);rw[h1.len,h2.len]at this;rw[this])
end Go.Proofs.YtlmihmlnpjkblaaGreatDoor
