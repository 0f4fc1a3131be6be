/- Part of the proof of a statement about an adjustment. -/
import Derived.Test.YtlmihmlnpjkblaaGreatDoorEngJToEngNX
set_option linter.all false
namespace Go.Proofs.YtlmihmlnpjkblaaGreatDoor
open Go Go.Eng Go.RowKit Tryz
variable {xs:Array Operand}{ats:Array TypeId}{cs:Array Value}{X q:Bool}{f:FuncId}{l:List (Nat×Nat)}{vs lb:List Value}{b B n M k off o j s d k' el size bytes:Nat}{sel:Nat->Bool}{e e1 e':Nat->Value}{p G G':Prop}{t tb:TypeId}{u v1 v2 v3 v4 v:Value}{K:Value->World->Prop}{w w' w0:World}
def ei (h:p:=by assumption):p:=h
def U (h:p:=by omega):p:=h
def dc (h:p:=by decide):p:=h
def xt {a b c:World}(h:aP a b)(k:aP b c):aP a c:=aP.trans h k
def be (k:aP w w')(h:ao w b t cs):ao w' b t cs:=ac7 k h
def pb {c:Nat}(k:ez w w' b)(h:ao w c t cs)(hne:c≠b:=by omega):ao w' c t cs:=ab0 k hne h
def bh (k:ez w w' b)(h:Below B w0 w)(hb:B<=b:=by omega):Below B w0 w':=ad4 k h hb
def bz (h:Below n w w'):w.heap.size<=w'.heap.size:=Below.size h
def iQ (k:ez w w' b):w'.heap.size=w.heap.size:=ez.size k
def bt (h:ao w b t cs):b<w.heap.size:=ao.lt h
section
variable {a:World}{p:Nat}{b1 b2 b3 b4 b5:Nat}{t1 t2 t3 t4 t5:TypeId}{c1 c2 c3 c4 c5:Array Value}
def bn (k:aP w w')(h1:ao w b1 t1 c1)(E:aP a w):ao w' b1 t1 c1/\aP a w':=⟨be k h1,xt E k⟩
def ku (k:ez w w' p)(h1:ao w b1 t1 c1)(E:Below B a w)(n1:b1≠p:=by omega)(hb:B<=p:=by omega):ao w' b1 t1 c1/\Below B a w'/\w'.heap.size=w.heap.size:=⟨ab0 k n1 h1,ad4 k E hb,ez.size k⟩
def cj (k:aP w w')(h1:ao w b1 t1 c1)(h2:ao w b2 t2 c2)(E:aP a w):ao w' b1 t1 c1/\ao w' b2 t2 c2/\aP a w':=⟨be k h1,be k h2,xt E k⟩
def gg (k:aP w w')(h1:ao w b1 t1 c1)(h2:ao w b2 t2 c2):ao w' b1 t1 c1/\ao w' b2 t2 c2:=⟨be k h1,be k h2⟩
def Tc (k:ez w w' p)(h1:ao w b1 t1 c1)(h2:ao w b2 t2 c2)(E:Below B a w)(n1:b1≠p:=by omega)(n2:b2≠p:=by omega)(hb:B<=p:=by omega):ao w' b1 t1 c1/\ao w' b2 t2 c2/\Below B a w'/\w'.heap.size=w.heap.size:=⟨ab0 k n1 h1,ab0 k n2 h2,ad4 k E hb,ez.size k⟩
def kI (k:ez w w' p)(h1:ao w b1 t1 c1)(h2:ao w b2 t2 c2)(n1:b1≠p:=by omega)(n2:b2≠p:=by omega):ao w' b1 t1 c1/\ao w' b2 t2 c2:=⟨ab0 k n1 h1,ab0 k n2 h2⟩
def eY (k:aP w w')(h1:ao w b1 t1 c1)(h2:ao w b2 t2 c2)(h3:ao w b3 t3 c3)(E:aP a w):ao w' b1 t1 c1/\ao w' b2 t2 c2/\ao w' b3 t3 c3/\aP a w':=⟨be k h1,be k h2,be k h3,xt E k⟩
def qH (k:aP w w')(h1:ao w b1 t1 c1)(h2:ao w b2 t2 c2)(h3:ao w b3 t3 c3):ao w' b1 t1 c1/\ao w' b2 t2 c2/\ao w' b3 t3 c3:=⟨be k h1,be k h2,be k h3⟩
def NA (k:ez w w' p)(h1:ao w b1 t1 c1)(h2:ao w b2 t2 c2)(h3:ao w b3 t3 c3)(E:Below B a w)(n1:b1≠p:=by omega)(n2:b2≠p:=by omega)(n3:b3≠p:=by omega)(hb:B<=p:=by omega):ao w' b1 t1 c1/\ao w' b2 t2 c2/\ao w' b3 t3 c3/\Below B a w'/\w'.heap.size=w.heap.size:=⟨ab0 k n1 h1,ab0 k n2 h2,ab0 k n3 h3,ad4 k E hb,ez.size k⟩
def mO (k:ez w w' p)(h1:ao w b1 t1 c1)(h2:ao w b2 t2 c2)(h3:ao w b3 t3 c3)(n1:b1≠p:=by omega)(n2:b2≠p:=by omega)(n3:b3≠p:=by omega):ao w' b1 t1 c1/\ao w' b2 t2 c2/\ao w' b3 t3 c3:=⟨ab0 k n1 h1,ab0 k n2 h2,ab0 k n3 h3⟩
def kv (k:aP w w')(h1:ao w b1 t1 c1)(h2:ao w b2 t2 c2)(h3:ao w b3 t3 c3)(h4:ao w b4 t4 c4)(E:aP a w):ao w' b1 t1 c1/\ao w' b2 t2 c2/\ao w' b3 t3 c3/\ao w' b4 t4 c4/\aP a w':=⟨be k h1,be k h2,be k h3,be k h4,xt E k⟩
def bf4 (k:aP w w')(h1:ao w b1 t1 c1)(h2:ao w b2 t2 c2)(h3:ao w b3 t3 c3)(h4:ao w b4 t4 c4):ao w' b1 t1 c1/\ao w' b2 t2 c2/\ao w' b3 t3 c3/\ao w' b4 t4 c4:=⟨be k h1,be k h2,be k h3,be k h4⟩
def QZ (k:ez w w' p)(h1:ao w b1 t1 c1)(h2:ao w b2 t2 c2)(h3:ao w b3 t3 c3)(h4:ao w b4 t4 c4)(E:Below B a w)(n1:b1≠p:=by omega)(n2:b2≠p:=by omega)(n3:b3≠p:=by omega)(n4:b4≠p:=by omega)(hb:B<=p:=by omega):ao w' b1 t1 c1/\ao w' b2 t2 c2/\ao w' b3 t3 c3/\ao w' b4 t4 c4/\Below B a w'/\w'.heap.size=w.heap.size:=⟨ab0 k n1 h1,ab0 k n2 h2,ab0 k n3 h3,ab0 k n4 h4,ad4 k E hb,ez.size k⟩
def pf4 (k:ez w w' p)(h1:ao w b1 t1 c1)(h2:ao w b2 t2 c2)(h3:ao w b3 t3 c3)(h4:ao w b4 t4 c4)(n1:b1≠p:=by omega)(n2:b2≠p:=by omega)(n3:b3≠p:=by omega)(n4:b4≠p:=by omega):ao w' b1 t1 c1/\ao w' b2 t2 c2/\ao w' b3 t3 c3/\ao w' b4 t4 c4:=⟨ab0 k n1 h1,ab0 k n2 h2,ab0 k n3 h3,ab0 k n4 h4⟩
def I5 (k:aP w w')(h1:ao w b1 t1 c1)(h2:ao w b2 t2 c2)(h3:ao w b3 t3 c3)(h4:ao w b4 t4 c4)(h5:ao w b5 t5 c5)(E:aP a w):ao w' b1 t1 c1/\ao w' b2 t2 c2/\ao w' b3 t3 c3/\ao w' b4 t4 c4/\ao w' b5 t5 c5/\aP a w':=⟨be k h1,be k h2,be k h3,be k h4,be k h5,xt E k⟩
def oJ (k:aP w w')(h1:ao w b1 t1 c1)(h2:ao w b2 t2 c2)(h3:ao w b3 t3 c3)(h4:ao w b4 t4 c4)(h5:ao w b5 t5 c5):ao w' b1 t1 c1/\ao w' b2 t2 c2/\ao w' b3 t3 c3/\ao w' b4 t4 c4/\ao w' b5 t5 c5:=⟨be k h1,be k h2,be k h3,be k h4,be k h5⟩
def Vn (k:ez w w' p)(h1:ao w b1 t1 c1)(h2:ao w b2 t2 c2)(h3:ao w b3 t3 c3)(h4:ao w b4 t4 c4)(h5:ao w b5 t5 c5)(E:Below B a w)(n1:b1≠p:=by omega)(n2:b2≠p:=by omega)(n3:b3≠p:=by omega)(n4:b4≠p:=by omega)(n5:b5≠p:=by omega)(hb:B<=p:=by omega):ao w' b1 t1 c1/\ao w' b2 t2 c2/\ao w' b3 t3 c3/\ao w' b4 t4 c4/\ao w' b5 t5 c5/\Below B a w'/\w'.heap.size=w.heap.size:=⟨ab0 k n1 h1,ab0 k n2 h2,ab0 k n3 h3,ab0 k n4 h4,ab0 k n5 h5,ad4 k E hb,ez.size k⟩
def y0 (k:ez w w' p)(h1:ao w b1 t1 c1)(h2:ao w b2 t2 c2)(h3:ao w b3 t3 c3)(h4:ao w b4 t4 c4)(h5:ao w b5 t5 c5)(n1:b1≠p:=by omega)(n2:b2≠p:=by omega)(n3:b3≠p:=by omega)(n4:b4≠p:=by omega)(n5:b5≠p:=by omega):ao w' b1 t1 c1/\ao w' b2 t2 c2/\ao w' b3 t3 c3/\ao w' b4 t4 c4/\ao w' b5 t5 c5:=⟨ab0 k n1 h1,ab0 k n2 h2,ab0 k n3 h3,ab0 k n4 h4,ab0 k n5 h5⟩
end
abbrev pT (b:Nat):Value:=.pointer (some ⟨b,0,none⟩)
abbrev CL:=Calls prog
section draws
variable {P:Program}{r:Option Nat}{N:Nat}{e0:Nat->Value}{ds:List Deferred}{Q:Exit->Act->World->Prop}{l:List Oper}{Φ:List Ph}{R:World->World->Prop}{k6:(Nat->Bool)->(Nat->Value)->World->Prop}
def sI (Q:Exit->Act->World->Prop)(r:Option Nat)(n:Nat)(P:Program)(N:Nat)(ds:List Deferred)(l:List Oper)(M:Nat)(R:World->World->Prop)(k6:(Nat->Bool)->(Nat->Value)->World->Prop)(e0:Nat->Value)(w0:World)(Fin:List Ph->Prop):Nat->List Ph->List Oper->Prop
 |_,acc,[]=>Fin acc.reverse
 |i,acc,o::os=>∃φ,(zy R φ/\∀(e:Nat->Value) (w:World) (ls:Nat->Bool),R w0 w->k6 ls e w->(∀j k,cu l j k=true->ls j=true->ls k=true)->ls i=false->(∀k,cu l i k=true->ls k=true)->(∀j d,b8 o j=true->cZ l j=some d->tN acc.reverse j (e d) w)->
  wpListIn (Fw r) n P l.toArray (I2 Q N ds R k6 w ls i φ o e (fr l M acc.reverse (b8 o) e e0)) [o] (act N (fr l M acc.reverse (b8 o) e e0) ds) w)/\sI Q r n P N ds l M R k6 e0 w0 Fin (i+1) (φ::acc) os
def En:∀(Φ Ψ:List Ph) (j:Nat) (x:Value),j<Φ.length->Ws (Φ++Ψ) j x=Ws Φ j x
 |[],_,_,_,h=>by simp at h
 |_::_,_,0,_,_=>rfl
 |_::Φ,Ψ,j+1,x,h=>En Φ Ψ j x ka5
def Eo:∀(Φ Ψ:List Ph) (j:Nat) (x:Value) (w:World),j<Φ.length->tN (Φ++Ψ) j x w=tN Φ j x w
 |[],_,_,_,_,h=>by simp at h
 |_::_,_,0,_,_,_=>rfl
 |_::Φ,Ψ,j+1,x,w,h=>Eo Φ Ψ j x w ka5
def Td {Ψ:List Ph}(h:∀j,sel j=true->j<Φ.length):fr l M (Φ++Ψ) sel e e0=fr l M Φ sel e e0:=by
 funext t
 unfold fr
 split
 · rfl
 · split
   · rename_i hq;exact En _ _ _ _ (h _ hq)
   · rfl
theorem xK {Fin:List Ph->Prop}:∀(os:List Oper) (i:Nat) (acc:List Ph),acc.length=i->(∀k o,os[k]?=some o->∀j,b8 o j=true->j<i+k)->sI Q r n P N ds l M R k6 e0 w0 Fin i acc os->
 ∃φs,YA Q r n P N ds l M (acc.reverse++φs) R k6 e0 w0 i os φs/\Fin (acc.reverse++φs)
 |[],i,acc,_,_,h=>⟨[],trivial,by simpa[sI]using h⟩
 | o::os,i,acc,hl,hp,⟨φ,⟨h1,h2⟩,h3⟩=>by
   obtain⟨φs,h4,h5⟩:=xK os (i+1) (φ::acc) (by simp[hl]) (λk o' ho j E=>by have:=hp (k+1) o' (by simpa using ho) j E;omega) h3
   rw[List.reverse_cons,List.append_assoc]at h4 h5
   have H:∀j,b8 o j=true->j<acc.reverse.length:=λj E=>by have:=hp 0 o rfl j E;simp;omega
   refine⟨φ::φs,⟨⟨h1,λe w ls a1 A0 O A2 A1 W=>?_⟩,h4⟩,h5⟩
   rw[Td H]
   exact h2 e w ls a1 A0 O A2 A1 (λj d E hd=>by have:=W j d E hd;rwa [Eo _ _ _ _ _ (H j E)]at this)
def Ep {l:List Oper}(hwf:M7 l=true):∀k o,(l.take M)[k]?=some o->∀j,b8 o j=true->j<0+k:=by
 intro i o ho j H
 have E:l[i]?=some o:=by
  rw[List.getElem?_take]at ho
  split at ho
  · exact ho
  · cases ho
 obtain⟨O,W,hb⟩:=List.any_eq_true.1 H
 simp only[Bool.and_eq_true]at hb
 have A0:=qb4 hb.2
 have h1:=List.all_eq_true.1 hwf i (List.mem_range.2 (List.getElem?_eq_some_iff.1 E).1)
 rw[E]at h1
 have h2:=List.all_eq_true.1 h1 O kc2
 simp only[hb.1,Bool.not_true,Bool.false_or]at h2
 rw[Nat.blt_eq]at h2
 omega
abbrev Te (w w':World):Prop:=w.heap.size<=w'.heap.size/\aP w w'
def Vo (h:aP w w'):Te w w':=⟨Below.size h,h⟩
def All (l:List Oper)(M:Nat):List Ph->(Nat->Value)->World->Prop:=λΦ e w=>∀j d,Nat.blt j M=true->cZ l j=some d->tN Φ j (e d) w
def bH {id:Nat}(M:Nat)(h:sI Q r n prog N ds l M aP (λ_ _ _=>True) e0 w0 (λΦ=>∀e w,Te w0 w->All l M Φ e w->wpListIn (Fw r) n prog l.toArray Q (l.drop M) (act N (fr l M Φ (λj=>Nat.blt j M) e e0) ds) w) 0 [] (l.take M))(hwf:M7 l=true:=by kernel_rfl)(hsh:ir l M=true:=by kernel_rfl)(hds:H7 l M=true:=by kernel_rfl):(Code.region id l.toArray true).wpIn (Fw r) n prog Q (act N e0 ds) w0:=by
 obtain⟨Φ,h1,h2⟩:=xK _ 0 [] Z (Ep hwf) h
 exact QT (Φ:=Φ) sd (ac1 _) (λ_ _ _=>aP.trans) trivial hwf hsh hds h1 (λe w ls a1 _ _ E=>h2 e w (Vo a1) E)
def xL {id:Nat}(M:Nat)(k6:(Nat->Bool)->(Nat->Value)->World->Prop)(hJ:k6 (λ_=>false) e0 w0.drew)(h:sI Q r n prog N ds l M (λ_ _=>True) k6 e0 w0 (λΦ=>∀e w ls,(∀j,Nat.blt j M=true->ls j=true)->k6 ls e w->wpListIn (Fw r) n prog l.toArray Q (l.drop M) (act N (fr l M Φ (λj=>Nat.blt j M) e e0) ds) w) 0 [] (l.take M))(hwf:M7 l=true:=by kernel_rfl)(hsh:ir l M=true:=by kernel_rfl)(hds:H7 l M=true:=by kernel_rfl):(Code.region id l.toArray true).wpIn (Fw r) n prog Q (act N e0 ds) w0:=by
 obtain⟨Φ,h1,h2⟩:=xK _ 0 [] Z (Ep hwf) h
 exact QT (Φ:=Φ) sd trivial (λ_ _ _ _ _=>trivial) hJ hwf hsh hds h1 (λe w ls _ E a1 _=>h2 e w ls a1 E)
end draws
def nA (P:Program)(t:TypeId)(k off:Nat):Prop:=∃fs f m,P.underlying t=some (.struct fs)/\fs[k]?=some f/\f.offset=off/\(P.info? f.type).map (·.size)=some (m+1)
def cY {P:Program}{fs:Array Field}{f:Field}{m:Nat}(hu:P.underlying t=some (.struct fs))(hf:fs[k]?=some f)(ho:f.offset=off)(hs:(P.info? f.type).map (·.size)=some (m+1)):nA P t k off:=⟨fs,f,m,hu,hf,ho,hs⟩
def Tf:nA prog 161 0 0:=cY underlying161 Z Z Yy
def Tg:nA prog 161 1 1:=cY underlying161 Z Z mh
def Ti:nA prog 75 0 0:=cY underlying75 Z Z Yy
def Wv:nA prog 33 0 0:=cY underlying33 Z Z Vl
def Ww:nA prog 33 1 1:=cY underlying33 Z Z Vl
def Wx:nA prog 103 0 0:=cY underlying103 Z Z R4
def Wy:nA prog 103 1 1:=cY underlying103 Z Z lS
def Wz:nA prog 103 2 2:=cY underlying103 Z Z BK
def WA:nA prog 103 3 3:=cY underlying103 Z Z Yy
def NB:nA prog 144 0 0:=cY underlying144 Z Z bV
def NC:nA prog 144 1 2:=cY underlying144 Z Z bV
def ND:nA prog 187 0 0:=cY underlying187 Z Z bV
def NE:nA prog 187 1 2:=cY underlying187 Z Z bV
def NF:nA prog 187 2 4:=cY underlying187 Z Z bV
def NG:nA prog 187 3 6:=cY underlying187 Z Z bV
def NH:nA prog 187 4 8:=cY underlying187 Z Z H8
def NI:nA prog 189 0 0:=cY underlying189 Z Z ie
def NJ:nA prog 189 1 1:=cY underlying189 Z Z Vl
def NK:nA prog 191 0 0:=cY underlying191 Z Z Vl
def NL:nA prog 191 1 1:=cY underlying191 Z Z Vl
def NM:nA prog 30 0 0:=cY underlying30 Z Z y8
def NN:nA prog 30 1 1:=cY underlying30 Z Z lS
def NO:nA prog 30 2 2:=cY underlying30 Z Z y8
def NP:nA prog 82 0 0:=cY underlying82 Z Z bf
def NQ:nA prog 86 0 0:=cY underlying86 Z Z bV
def NR:nA prog 86 1 2:=cY underlying86 Z Z ie
def NS:nA prog 40 0 0:=cY underlying40 Z Z lS
def NT:nA prog 40 1 1:=cY underlying40 Z Z y8
def NU:nA prog 40 2 2:=cY underlying40 Z Z bV
def NV:nA prog 40 3 4:=cY underlying40 Z Z ie
def I6 (P:Program)(t el:TypeId)(z:Value)(size bytes:Nat):Prop:=P.underlying t=some (.slice el)/\gk P el z size bytes/\z.cells.size=size/\0<size
def Tj:I6 prog 27 28 (.slice none 0 0) 1 24:=⟨underlying27,jE,rfl,by decide⟩
def Tk:I6 prog 101 28 (.slice none 0 0) 1 24:=⟨underlying101,jE,rfl,by decide⟩
def Cz:I6 prog 109 28 (.slice none 0 0) 1 24:=⟨underlying109,jE,rfl,by decide⟩
def CC:I6 prog 278 144 (.agg #[S [],S [],S [],S []]) 4 64:=⟨underlying278,dk,rfl,by decide⟩
def Tl:I6 prog 28 33 (.agg #[S [],S []]) 2 32:=⟨underlying28,aY,rfl,by decide⟩
def Tm:I6 prog 22 3 (.int .i64 0) 1 8:=⟨underlying22,kB,rfl,by decide⟩
def I7:I6 prog 159 3 (.int .i64 0) 1 8:=⟨underlying159,kB,rfl,by decide⟩
def I8:I6 prog 206 5 (.int .u8 0) 1 1:=⟨underlying206,YJ,rfl,by decide⟩
def M8 (P:Program)(t:TypeId)(cs:Array Value):Prop:=∃(fs:Array Field) (z:Value) (size bytes:Nat) (pl:List (Nat×Nat)),P.underlying t=some (.struct fs)/\gk P t z size bytes/\fs.toList.map (λf=>(f.offset,(P.info? f.type).map (·.size)))=pl.map (λp:Nat×Nat=>(p.1,some p.2))/\Instr.fill (pl.toArray[·]?) z.cells []=some cs
def Za:M8 prog 33 #[S [],S []]:=⟨_,_,_,_,[(0,1),(1,1)],underlying33,aY,by kernel_rfl,by kernel_rfl⟩
def Zb:M8 prog 106 #[]:=⟨_,_,_,_,[],underlying106,VA,by kernel_rfl,by kernel_rfl⟩
def Tn:M8 prog 144 #[S [],S [],S [],S []]:=⟨_,_,_,_,[(0,2),(2,2)],underlying144,dk,by kernel_rfl,by kernel_rfl⟩
def To:M8 prog 30 #[.slice none 0 0,.slice none 0 0,.slice none 0 0]:=⟨_,_,_,_,[(0,1),(1,1),(2,1)],underlying30,eh,by kernel_rfl,by kernel_rfl⟩
def Tp:M8 prog 82 #[.slice none 0 0,.slice none 0 0,.slice none 0 0]:=⟨_,_,_,_,[(0,3)],underlying82,oU,by kernel_rfl,by kernel_rfl⟩
def Tq:M8 prog 86 #[S [],S [],.int .i64 0]:=⟨_,_,_,_,[(0,2),(2,1)],underlying86,mM,by kernel_rfl,by kernel_rfl⟩
def Tr:M8 prog 40 #[.slice none 0 0,.slice none 0 0,S [],S [],.int .i64 0]:=⟨_,_,_,_,[(0,1),(1,1),(2,2),(4,1)],underlying40,dD,by kernel_rfl,by kernel_rfl⟩
def WB:M8 prog 161 #[.bool false,.slice none 0 0]:=⟨_,_,_,_,[(0,1),(1,1)],underlying161,bG,by kernel_rfl,by kernel_rfl⟩
def WC:M8 prog 75 #[.bool false]:=⟨_,_,_,_,[(0,1)],underlying75,BJ,by kernel_rfl,by kernel_rfl⟩
def WE (P:Program)(t:TypeId):Prop:=∃fs z size bytes,P.underlying t=some (.struct fs)/\gk P t z size bytes/\fs.toList.map (λf=>(f.offset,(P.info? f.type).map (·.size)))=[(0,some 1),(1,some 1)]/\∀u v:Value,u.cells=#[u]->v.cells=#[v]->Instr.fill ([(0,1),(1,1)].toArray[·]?) z.cells [(0,u),(1,v)]=some #[u,v]
def Zc:WE prog 33:=⟨_,_,_,_,underlying33,aY,by kernel_rfl,λu v hu hv=>by show Instr.fill _ #[S [],S []] _=_;simp[Instr.fill,hu,hv]⟩
def Ts:WE prog 191:=⟨_,_,_,_,underlying191,bN,by kernel_rfl,λu v hu hv=>by show Instr.fill _ #[S [],S []] _=_;simp[Instr.fill,hu,hv]⟩
def Tt:WE prog 189:=⟨_,_,_,_,underlying189,oT,by kernel_rfl,λu v hu hv=>by show Instr.fill _ #[.int .i64 0,S []] _=_;simp[Instr.fill,hu,hv]⟩
def WF:WE prog 161:=⟨_,_,_,_,underlying161,bG,by kernel_rfl,λu v hu hv=>by show Instr.fill _ #[.bool false,.slice none 0 0] _=_;simp[Instr.fill,hu,hv]⟩
section ops
variable {P:Program}{r:Option Nat}{N:Nat}{ds:List Deferred}{Q:Exit->Act->World->Prop}{K:Act->World->Prop}{a:Act}
variable {ops:Array Oper}{rest:List Oper}{dst:Option Tmp}{op:Op}{ty:Nat}{pos:String}{af:Array Edge}{id:Nat}{c c1 c2:Code}{x y:Operand}
def WG (hk:wpListIn (Fw r) n prog ops Q rest (act N (upd e d (.pointer (some ⟨b,o+off,none⟩))) ds) w)(hx:ev N e x=.pointer (some ⟨b,o,none⟩):=by exact gQ)(hf:nA prog t k off:=by with_reducible first|exact Wx|exact Wy|exact Wz|exact WA|exact NM|exact NN|exact NO|exact NP|exact NQ|exact NR|exact NS|exact NT|exact NU|exact NV|exact NK|exact NL|exact NJ|exact Wv|exact Ww|exact NB|exact NC|exact NI|exact ND|exact NE|exact NF|exact NG|exact NH|exact Tf|exact Tg|exact Ti):
 wpListIn (Fw r) n prog ops Q (⟨some d,.fieldAddr t x k,ty,pos,af,none⟩::rest) (act N e ds) w:=by
 obtain⟨_,f,m,h1,h2,h3,h4⟩:=hf
 exact aa (iU h1 h2 h3 h4 Z hx hk)
def WH (hk:wpListIn (Fw r) n prog ops Q rest (act N (upd e d (.agg cs)) ds) w)(h:M8 prog t cs:=by with_reducible first|exact Za|exact Zb|exact To|exact Tr|exact Tp|exact Tq|exact Tn|exact WB|exact WC):wpListIn (Fw r) n prog ops Q (⟨some d,.build t #[],ty,pos,af,none⟩::rest) (act N e ds) w:=by
 obtain⟨fs,z,s,b,pl,h1,h2,h3,h4⟩:=h
 exact aa (bR h1 h2 h3 Z h4 hk)
def WI (hk:wpListIn (Fw r) n prog ops Q rest (act N (upd e d (.agg #[u,v])) ds) w)(h:WE prog t:=by with_reducible first|exact Zc|exact Ts|exact Tt|exact WF)(hx:ev N e x=u:=by exact Gk)(hy:ev N e y=v:=by exact Gk)(hu:u.cells=#[u]:=by exact Z)(hv:v.cells=#[v]:=by exact Z):
 wpListIn (Fw r) n prog ops Q (⟨some d,.build t #[(0,x),(1,y)],ty,pos,af,none⟩::rest) (act N e ds) w:=by
 obtain⟨_,z,s,b,h1,h2,h3,h4⟩:=h
 exact aa (bR (pl:=[(0,1),(1,1)]) h1 h2 h3 (by rw[<-hx,<-hy];rfl) (h4 u v hu hv) hk)
def Z3 {t:Nat}(h:ao w' b t cs:=by with_reducible assumption):ao w' b t cs:=h
def bk1 {t:Nat}(h:ao w' b t cs:=by
 first
 |with_reducible assumption
 |exact ac7 GS Z3
 |exact ab0 GS U Z3):ao w' b t cs:=h
def bk2 {t:Nat}(h:ao w' b t cs:=by
 first
 |with_reducible assumption
 |exact ac7 GS bk1
 |exact ab0 GS U bk1):ao w' b t cs:=h
def Z4 {t:Nat}(h:ao w' b t cs:=by
 first
 |with_reducible assumption
 |exact ac7 GS bk2
 |exact ab0 GS U bk2):ao w' b t cs:=h
def Z5 {t:Nat}(h:ao w' b t cs:=by
 first
 |with_reducible assumption
 |exact ac7 GS Z4
 |exact ab0 GS U Z4):ao w' b t cs:=h
def Z6 {t:Nat}(h:ao w' b t cs:=by
 first
 |with_reducible assumption
 |exact ac7 GS Z5
 |exact ab0 GS U Z5):ao w' b t cs:=h
def Tu {t:Nat}(h:ao w' b t cs:=by
 first
 |with_reducible assumption
 |exact ac7 GS Z6
 |exact ab0 GS U Z6):ao w' b t cs:=h
def WJ {cs:List Value}(hk:wpListIn (Fw r) n P ops Q rest (act N (upd e d v) ds) w)(hx:ev N e x=.pointer (some ⟨b,o,none⟩):=by exact gQ)(hb:ao w b tb cs.toArray:=by exact Tu)(hv:nth cs o=some v:=by exact Z)(hu:ln P t=some false:=by decide +kernel):
 wpListIn (Fw r) n P ops Q (⟨some d,.load t x,ty,pos,af,none⟩::rest) (act N e ds) w:=IZ hk hx hb hv hu
def Q1 {cs:List Value}(hk:wpListIn (Fw r) n P ops Q rest (act N (upd e d (.agg #[v1,v2])) ds) w)(hx:ev N e x=.pointer (some ⟨b,o,none⟩):=by exact gQ)(hb:ao w b tb cs.toArray:=by exact Tu)(hv:xH cs o=some (v1,v2):=by exact Z)(hu:ln P t=some true:=by decide +kernel)(hi:(P.info? t).map (·.size)=some 2:=by decide +kernel):
 wpListIn (Fw r) n P ops Q (⟨some d,.load t x,ty,pos,af,none⟩::rest) (act N e ds) w:=Ej hk hx hb hv hu hi
def Q2 (hk:wpListIn (Fw r) n P ops Q rest (act N (upd e d (.agg #[v1,v2,v3,v4])) ds) w)(hx:ev N e x=.pointer (some ⟨b,0,none⟩):=by exact gQ)(hb:ao w b tb #[v1,v2,v3,v4]:=by exact Tu)(hu:ln P t=some true:=by decide +kernel)(hi:(P.info? t).map (·.size)=some 4:=by decide +kernel):
 wpListIn (Fw r) n P ops Q (⟨some d,.load t x,ty,pos,af,none⟩::rest) (act N e ds) w:=by
 obtain⟨D,h1,h2⟩:=iX hu
 exact aa (aN (cs:=[v1,v2,v3,v4]) h1 h2 hi hx (aa0 hb (i:=0) Z) hk)
def zo (h:X=q:=by
 first
 | with_reducible first
   |exact Z
   |assumption
   |exact Gm ei
   |exact Gn ei
   |exact Y6 (by first|exact rfl|assumption|exact Gn ei)
   |exact Y7 (by first|exact rfl|assumption|exact Gm ei)
 |decide +kernel
 | with_reducible first
   |exact Gm U
   |exact Gn U
   |exact Y6 (Gn U)
   |exact Y7 (Gm U)):X=q:=h
def WK (h:c1.wpIn (Fw r) n P Q (act N e ds) w)(hx:ev N e x=.bool q:=by exact gQ)(hq:q=true:=by exact zo):(Code.cond x c1 c2).wpIn (Fw r) n P Q (act N e ds) w:=k7 (by rw[hx,hq]) h
def WL (h:c2.wpIn (Fw r) n P Q (act N e ds) w)(hx:ev N e x=.bool q:=by exact gQ)(hq:q=false:=by exact zo):(Code.cond x c1 c2).wpIn (Fw r) n P Q (act N e ds) w:=fM (by rw[hx,hq]) h
def I9 {l:List Oper}{b:Bool}(hk:wpListIn (Fw r) n P l.toArray Q (⟨dst,op,ty,pos,af,none⟩::rest) (act N e ds) w)(hj:cZ l j=some s:=by exact Z)(hv:ev N e (.tmp s)=.bool b:=by exact gQ)(hb:b=q:=by exact zo):wpListIn (Fw r) n P l.toArray Q (⟨dst,op,ty,pos,af,some (j,q)⟩::rest) (act N e ds) w:=jC hj (by rw[hv,hb]) hk
def Q3 {l:List Oper}{b:Bool}(hk:wpListIn (Fw r) n P l.toArray Q rest (act N (upd e d undef) ds) w)(hj:cZ l j=some s:=by exact Z)(hv:ev N e (.tmp s)=.bool b:=by exact gQ)(hb:b= !q:=by first|with_reducible assumption|(show _=true;exact zo)|(show _=false;exact zo)):wpListIn (Fw r) n P l.toArray Q (⟨some d,op,ty,pos,af,some (j,q)⟩::rest) (act N e ds) w:=fp hj (by rw[hv,hb]) hk
def Q4 {l:List Oper}(hk:wpListIn (Fw r) n P l.toArray Q rest (act N (upd e d undef) ds) w)(hj:cZ l j=some s:=by exact Z)(hv:ev N e (.tmp s)=undef:=by exact Z)(hs:Nat.blt s N=true:=by exact Z):wpListIn (Fw r) n P l.toArray Q (⟨some d,op,ty,pos,af,some (j,q)⟩::rest) (act N e ds) w:=Wn hj hv hs hk
def Es {c a b:Operand}{t:Bool}(hk:wpListIn (Fw r) n P ops Q rest (act N (upd e d v) ds) w)(hc:ev N e c=.bool t:=by exact gQ)(ht:t=true:=by exact zo)(hv:ev N e a=v:=by exact Gk):
 wpListIn (Fw r) n P ops Q (⟨some d,.pick c a b,ty,pos,af,none⟩::rest) (act N e ds) w:=Ek hk hc ht hv
def Et {c a b:Operand}{t:Bool}(hk:wpListIn (Fw r) n P ops Q rest (act N (upd e d v) ds) w)(hc:ev N e c=.bool t:=by exact gQ)(ht:t=false:=by exact zo)(hv:ev N e b=v:=by exact Gk):
 wpListIn (Fw r) n P ops Q (⟨some d,.pick c a b,ty,pos,af,none⟩::rest) (act N e ds) w:=Em hk hc ht hv
end ops
section gates
variable {P:Program}{r:Option Nat}{N:Nat}{ds:List Deferred}{Q:Exit->Act->World->Prop}{ops:Array Oper}{o:Oper}{rest:List Oper}{dst:Option Tmp}{op:Op}{ty:Nat}{pos:String}{af:Array Edge}{x y z:Operand}{a:Act}{u:TypeId}{c1 c2:Code}
abbrev Wo (r:Option Nat)(n:Nat)(P:Program)(ops:Array Oper)(Q:Exit->Act->World->Prop)(o:Oper)(rest:List Oper)(a:Act)(w:World):Prop:=wpListIn (Fw r) n P ops Q (o::rest) a w
def WM (h:Wo r n P ops Q o rest a w):Wo r n P ops Q o rest a w:=h
def WN (h:Wo r n P ops Q ⟨dst,op,ty,pos,af,none⟩ rest a w):Wo r n P ops Q ⟨dst,op,ty,pos,af,none⟩ rest a w:=h
def WO {g:Nat×Bool}(h:Wo r n P ops Q ⟨dst,op,ty,pos,af,some g⟩ rest a w):Wo r n P ops Q ⟨dst,op,ty,pos,af,some g⟩ rest a w:=h
def WP (h:Wo r n P ops Q ⟨dst,.move x,ty,pos,af,none⟩ rest a w):Wo r n P ops Q ⟨dst,.move x,ty,pos,af,none⟩ rest a w:=h
def WQ (h:Wo r n P ops Q ⟨dst,.assign x,ty,pos,af,none⟩ rest a w):Wo r n P ops Q ⟨dst,.assign x,ty,pos,af,none⟩ rest a w:=h
def WR (h:Wo r n P ops Q ⟨dst,.load t x,ty,pos,af,none⟩ rest a w):Wo r n P ops Q ⟨dst,.load t x,ty,pos,af,none⟩ rest a w:=h
def WS {b:BinOp}(h:Wo r n P ops Q ⟨dst,.binOp b t x y u,ty,pos,af,none⟩ rest a w):Wo r n P ops Q ⟨dst,.binOp b t x y u,ty,pos,af,none⟩ rest a w:=h
def WT {b:UnOp}(h:Wo r n P ops Q ⟨dst,.unOp b t x,ty,pos,af,none⟩ rest a w):Wo r n P ops Q ⟨dst,.unOp b t x,ty,pos,af,none⟩ rest a w:=h
def WU (h:Wo r n P ops Q ⟨dst,.fieldAddr t x k,ty,pos,af,none⟩ rest a w):Wo r n P ops Q ⟨dst,.fieldAddr t x k,ty,pos,af,none⟩ rest a w:=h
def WW (h:Wo r n P ops Q ⟨dst,.extract x k,ty,pos,af,none⟩ rest a w):Wo r n P ops Q ⟨dst,.extract x k,ty,pos,af,none⟩ rest a w:=h
def WX {c:Call}(h:Wo r n P ops Q ⟨dst,.call c,ty,pos,af,none⟩ rest a w):Wo r n P ops Q ⟨dst,.call c,ty,pos,af,none⟩ rest a w:=h
def WY (h:Wo r n P ops Q ⟨dst,.pick x y z,ty,pos,af,none⟩ rest a w):Wo r n P ops Q ⟨dst,.pick x y z,ty,pos,af,none⟩ rest a w:=h
def WZ (h:Wo r n P ops Q ⟨dst,.nilCheck x,ty,pos,af,none⟩ rest a w):Wo r n P ops Q ⟨dst,.nilCheck x,ty,pos,af,none⟩ rest a w:=h
def W4 {xs:Array (Nat×Operand)}(h:Wo r n P ops Q ⟨dst,.build t xs,ty,pos,af,none⟩ rest a w):Wo r n P ops Q ⟨dst,.build t xs,ty,pos,af,none⟩ rest a w:=h
def W5 (h:(Code.cond x c1 c2).wpIn (Fw r) n P Q a w):(Code.cond x c1 c2).wpIn (Fw r) n P Q a w:=h
end gates
structure Hd (p:Prop):Prop where
 out:p
section irr
attribute [local irreducible] wpListIn Code.wpIn Oper.wpIn Exit.then Exit.inBlock Exit.noGoto
def I (h:G')(k:Hd G'->G:=by
 intro h
 repeat first
  | (with_reducible refine WM ?_
     first
     | (with_reducible refine WN ?_
        first
        | (with_reducible refine WP ?_
           refine Co ?_)
        | (with_reducible refine WR ?_
           first
           |refine WJ ?_
           |refine Q1 ?_
           |refine Q2 ?_
           |refine xI ?_
           |refine tM ?_)
        | (with_reducible refine WS ?_
           first
           |refine lss ?_
           |refine eql ?_
           |refine neq ?_
           |refine leq ?_
           |refine gtr ?_
           |refine geq ?_)
        | (with_reducible refine WU ?_
           refine WG ?_)
        | (with_reducible refine WQ ?_
           refine tL ?_)
        | (with_reducible refine WW ?_
           first
           |refine Cp ?_
           |refine Cq ?_
           |refine Cs ?_
           |refine Ct ?_
           |refine Cu ?_
           |refine Cv ?_
           |refine Cw ?_
           |refine Cx ?_
           |refine Cy ?_)
        | (with_reducible refine WX ?_
           refine q_len ?_)
        | (with_reducible refine WT ?_
           refine nt ?_)
        | (with_reducible refine WY ?_
           first
           |refine Es ?_
           |refine Et ?_)
        | (with_reducible refine WZ ?_
           refine IX ?_)
        | (with_reducible refine W4 ?_
           first
           |refine WH ?_
           |refine WI ?_))
     | (with_reducible refine WO ?_
        first
        |refine I9 ?_
        |refine Q3 ?_
        |refine Q4 ?_))
  | with_reducible first
    |refine em ?_
    |refine eR ?_
    |refine ix Z ?_
    |refine gU ?_
    |refine gl ?_
    |refine oS ?_
    |refine jD ?_
    |refine BF ?_
    |refine H0 ?_
    |refine H1 ?_
    |refine QU ?_
    |refine BG ?_
    |refine RZ ?_
    |refine BH ?_
    |refine R1 ?_
    |refine QW ?_
    |refine Cl ?_
    |refine S7 ?_
    |refine QX ?_
    |refine I4 ?_
    |refine QY ?_
    |refine I3 ?_
    |refine Wu ?_
  |refine eR ?_
  |refine R0 Z ?_
  |refine zB (l:=0) Z ?_
  | (with_reducible refine W5 ?_
     first
     |refine WK ?_
     |refine WL ?_)
 exact h.out):G:=k ⟨h⟩
def gx (h:G')(k:Hd G'->G:=by
 intro h
 repeat first
  | (with_reducible refine WM ?_
     first
     | (with_reducible refine WN ?_
        first
        | (with_reducible refine WP ?_
           refine Co ?_)
        | (with_reducible refine WR ?_
           first
           |refine WJ ?_
           |refine Q1 ?_
           |refine Q2 ?_
           |refine xI ?_
           |refine tM ?_)
        | (with_reducible refine WS ?_
           first
           |refine lss ?_
           |refine eql ?_
           |refine neq ?_
           |refine leq ?_
           |refine gtr ?_
           |refine geq ?_)
        | (with_reducible refine WU ?_
           refine WG ?_)
        | (with_reducible refine WQ ?_
           refine tL ?_)
        | (with_reducible refine WW ?_
           first
           |refine Cp ?_
           |refine Cq ?_
           |refine Cs ?_
           |refine Ct ?_
           |refine Cu ?_
           |refine Cv ?_
           |refine Cw ?_
           |refine Cx ?_
           |refine Cy ?_)
        | (with_reducible refine WX ?_
           refine q_len ?_)
        | (with_reducible refine WT ?_
           refine nt ?_)
        | (with_reducible refine WY ?_
           first
           |refine Es ?_
           |refine Et ?_)
        | (with_reducible refine WZ ?_
           refine IX ?_)
        | (with_reducible refine W4 ?_
           first
           |refine WH ?_
           |refine WI ?_))
     | (with_reducible refine WO ?_
        first
        |refine I9 ?_
        |refine Q3 ?_
        |refine Q4 ?_))
  | with_reducible first
    |refine em ?_
    |refine eR ?_
    |refine ix Z ?_
    |refine oS ?_
    |refine jD ?_
    |refine BF ?_
    |refine H0 ?_
    |refine H1 ?_
    |refine QU ?_
    |refine BG ?_
    |refine RZ ?_
    |refine BH ?_
    |refine R1 ?_
    |refine QW ?_
    |refine Cl ?_
    |refine S7 ?_
    |refine QX ?_
    |refine I4 ?_
    |refine QY ?_
    |refine I3 ?_
    |refine Wu ?_
  |refine eR ?_
  |refine R0 Z ?_
  |refine zB (l:=0) Z ?_
  | (with_reducible refine W5 ?_
     first
     |refine WK ?_
     |refine WL ?_)
 exact h.out):G:=k ⟨h⟩
section draws
variable {P:Program}{r:Option Nat}{N:Nat}{e0:Nat->Value}{ds:List Deferred}{Q:Exit->Act->World->Prop}{l:List Oper}{R:World->World->Prop}{k6:(Nat->Bool)->(Nat->Value)->World->Prop}{Fin:List Ph->Prop}{i:Nat}{acc:List Ph}{o:Oper}{os:List Oper}{V:Value}
def Pl (N:Nat)(ds:List Deferred)(dst:Option Tmp)(V:Value)(w:World)(f:Nat->Value):Exit->Act->World->Prop:=λx a' w'=>x=.normal/\a'=(act N f ds).put dst V/\w'=w
def aG {f:Nat->Value}{dst:Option Tmp}(hd:dst=some d:=by exact Z):Pl N ds dst v w f .normal (act N (upd f d v) ds) w:=by subst hd;exact⟨rfl,(ax _ _ _ _ _).symm,rfl⟩
def nB (h:∀(e:Nat->Value) (w:World) (ls:Nat->Bool),R w0 w->k6 ls e w->(∀j k,cu l j k=true->ls j=true->ls k=true)->ls i=false->(∀k,cu l i k=true->ls k=true)->(∀j d,b8 o j=true->cZ l j=some d->tN acc.reverse j (e d) w)->
 wpListIn (Fw r) n P l.toArray (Pl N ds o.dst V w (fr l M acc.reverse (b8 o) e e0)) [o] (act N (fr l M acc.reverse (b8 o) e e0) ds) w)(ht:sI Q r n P N ds l M R k6 e0 w0 Fin (i+1) (.pv V::acc) os)(hR:∀w,R w w:=by first|exact aa1|exact λ_=>trivial)(hJ:∀ls e w v,k6 ls e w->k6 (eT ls i) (kF e o.dst v) w:=by exact λ_ _ _ _ h=>h):sI Q r n P N ds l M R k6 e0 w0 Fin i acc (o::os):=
 ⟨.pv V,⟨λ_ _ _ _ h=>h,λe w ls a1 E H A0 W O=>kH (h e w ls a1 E H A0 W O) (λ_ _ _ ⟨h1,h2,h3⟩=>.inl ⟨h1,V,h2,h3▸hR _,rfl,h3▸hJ _ _ _ _ E⟩)⟩,ht⟩
def de (h:∀(e:Nat->Value) (w:World) (ls:Nat->Bool),R w0 w->k6 ls e w->(∀k,cu l i k=true->ls k=true)->(∀j d,b8 o j=true->cZ l j=some d->tN acc.reverse j (e d) w)->
 wpListIn (Fw r) n P l.toArray (Pl N ds o.dst V w (fr l M acc.reverse (b8 o) e e0)) [o] (act N (fr l M acc.reverse (b8 o) e e0) ds) w)(ht:sI Q r n P N ds l M R k6 e0 w0 Fin (i+1) (.pv V::acc) os)(hR:∀w,R w w:=by first|exact aa1|exact λ_=>trivial)(hJ:∀ls e w v,k6 ls e w->k6 (eT ls i) (kF e o.dst v) w:=by exact λ_ _ _ _ h=>h):sI Q r n P N ds l M R k6 e0 w0 Fin i acc (o::os):=
 nB (λe w ls a1 H _ _ E O=>h e w ls a1 H E O) ht hR hJ
def W6 (ht:sI Q r n P N ds l M R k6 e0 w0 Fin (i+1) (.pv V::acc) os)(h:∀(e:Nat->Value) (w:World),R w0 w->wpListIn (Fw r) n P l.toArray (Pl N ds o.dst V w (fr l M acc.reverse (b8 o) e e0)) [o] (act N (fr l M acc.reverse (b8 o) e e0) ds) w:=by
 intro e w hR
 refine I ?_
 exact aG)(hR:∀w,R w w:=by first|exact aa1|exact λ_=>trivial)(hJ:∀ls e w v,k6 ls e w->k6 (eT ls i) (kF e o.dst v) w:=by exact λ_ _ _ _ h=>h):sI Q r n P N ds l M R k6 e0 w0 Fin i acc (o::os):=
 de (λe w _ a1 _ _ _=>h e w a1) ht hR hJ
def Tv (h:Fin acc.reverse):sI Q r n P N ds l M R k6 e0 w0 Fin i acc []:=h
def sf (h:G')(k:Hd G'->G:=by
 intro h
 repeat refine W6 ?_
 try refine Tv ?_
 exact h.out):G:=k ⟨h⟩
end draws
end irr
section draws
variable {P:Program}{r:Option Nat}{N:Nat}{e0:Nat->Value}{ds:List Deferred}{Q:Exit->Act->World->Prop}{l:List Oper}{R:World->World->Prop}{k6:(Nat->Bool)->(Nat->Value)->World->Prop}{Fin:List Ph->Prop}{i:Nat}{acc:List Ph}{o:Oper}{os:List Oper}{V:Value}{p:Value->World->Prop}{φ:Ph}
def Sn (Q:Exit->Act->World->Prop)(N:Nat)(ds:List Deferred)(dst:Option Tmp)(f:Nat->Value)(K:Value->World->Prop):Exit->Act->World->Prop:=λx a' w'=>
 (x=.normal/\∃v,a'=(act N f ds).put dst v/\K v w')\/(∃c,x=.panic c/\Q (.panic c) a' w')
def fs {f:Nat->Value}{dst:Option Tmp}(h:K v w)(hd:dst=some d:=by exact Z):Sn Q N ds dst f K .normal (act N (upd f d v) ds) w:=by subst hd;exact .inl ⟨rfl,v,(ax _ _ _ _ _).symm,h⟩
def fs0 {f:Nat->Value}(h:K undef w):Sn Q N ds none f K .normal (act N f ds) w:=.inl ⟨rfl,undef,rfl,h⟩
def aB (h:∀(e:Nat->Value) (w:World),R w0 w->(∀j d,b8 o j=true->cZ l j=some d->tN acc.reverse j (e d) w)->
 wpListIn (Fw r) n P l.toArray (Pl N ds o.dst V w (fr l M acc.reverse (b8 o) e e0)) [o] (act N (fr l M acc.reverse (b8 o) e e0) ds) w)(ht:sI Q r n P N ds l M R k6 e0 w0 Fin (i+1) (.pv V::acc) os)(hR:∀w,R w w:=by first|exact aa1|exact λ_=>trivial)(hJ:∀ls e w v,k6 ls e w->k6 (eT ls i) (kF e o.dst v) w:=by exact λ_ _ _ _ h=>h):sI Q r n P N ds l M R k6 e0 w0 Fin i acc (o::os):=
 de (λe w _ a1 _ _ E=>h e w a1 E) ht hR hJ
def Q5 (h:∀(e:Nat->Value) (w:World),R w0 w->(∀j d,b8 o j=true->cZ l j=some d->tN acc.reverse j (e d) w)->
 wpListIn (Fw r) n P l.toArray (Sn Q N ds o.dst (fr l M acc.reverse (b8 o) e e0) (λv w'=>R w w'/\φ.ok v w')) [o] (act N (fr l M acc.reverse (b8 o) e e0) ds) w)(hs:zy R φ)(ht:sI Q r n P N ds l M R (λ_ _ _=>True) e0 w0 Fin (i+1) (φ::acc) os):sI Q r n P N ds l M R (λ_ _ _=>True) e0 w0 Fin i acc (o::os):=
 ⟨φ,⟨hs,λe w ls a1 _ _ _ _ H=>kH (h e w a1 H) (λ_ _ _ E=>E.imp (fun⟨h1,v,h2,h3,h4⟩=>⟨h1,v,h2,h3,h4,trivial⟩) id)⟩,ht⟩
def aR (h:∀(e:Nat->Value) (w:World),R w0 w->(∀j d,b8 o j=true->cZ l j=some d->tN acc.reverse j (e d) w)->
 wpListIn (Fw r) n P l.toArray (Sn Q N ds o.dst (fr l M acc.reverse (b8 o) e e0) (λv w'=>R w w'/\v=V)) [o] (act N (fr l M acc.reverse (b8 o) e e0) ds) w)(ht:sI Q r n P N ds l M R (λ_ _ _=>True) e0 w0 Fin (i+1) (.pv V::acc) os):sI Q r n P N ds l M R (λ_ _ _=>True) e0 w0 Fin i acc (o::os):=Q5 (φ:=.pv V) h (λ_ _ _ _ h=>h) ht
def bC (p:Value->World->Prop)(h:∀(e:Nat->Value) (w:World),R w0 w->(∀j d,b8 o j=true->cZ l j=some d->tN acc.reverse j (e d) w)->
 wpListIn (Fw r) n P l.toArray (Sn Q N ds o.dst (fr l M acc.reverse (b8 o) e e0) (λv w'=>R w w'/\p v w')) [o] (act N (fr l M acc.reverse (b8 o) e e0) ds) w)(ht:sI Q r n P N ds l M R (λ_ _ _=>True) e0 w0 Fin (i+1) (.ph p::acc) os)(hs:zy R (.ph p):=by exact λ_ _ _ _ h=>h):sI Q r n P N ds l M R (λ_ _ _=>True) e0 w0 Fin i acc (o::os):=Q5 (φ:=.ph p) h hs ht
def gt (h:∀(e:Nat->Value) (w:World) (ls:Nat->Bool),k6 ls e w->(∀j k,cu l j k=true->ls j=true->ls k=true)->ls i=false->(∀k,cu l i k=true->ls k=true)->
 wpListIn (Fw r) n P l.toArray (Sn Q N ds o.dst (fr l M acc.reverse (b8 o) e e0) (λv w'=>k6 (eT ls i) (kF e o.dst v) w')) [o] (act N (fr l M acc.reverse (b8 o) e e0) ds) w)(ht:sI Q r n P N ds l M (λ_ _=>True) k6 e0 w0 Fin (i+1) (.ph (λ_ _=>True)::acc) os):sI Q r n P N ds l M (λ_ _=>True) k6 e0 w0 Fin i acc (o::os):=
 ⟨.ph λ_ _=>True,⟨λ_ _ _ _ _=>trivial,λe w ls _ O W A0 H _=>kH (h e w ls O W A0 H) (λ_ _ _ E=>E.imp (fun⟨h1,v,h2,h3⟩=>⟨h1,v,h2,trivial,trivial,h3⟩) id)⟩,ht⟩
def Ja (h:∀(e:Nat->Value) (w:World) (ls:Nat->Bool),k6 ls e w->(∀j k,cu l j k=true->ls j=true->ls k=true)->ls i=false->(∀k,cu l i k=true->ls k=true)->
 wpListIn (Fw r) n P l.toArray (Sn Q N ds o.dst (fr l M acc.reverse (b8 o) e e0) (λv w'=>v=V/\k6 (eT ls i) (kF e o.dst v) w')) [o] (act N (fr l M acc.reverse (b8 o) e e0) ds) w)(ht:sI Q r n P N ds l M (λ_ _=>True) k6 e0 w0 Fin (i+1) (.pv V::acc) os):sI Q r n P N ds l M (λ_ _=>True) k6 e0 w0 Fin i acc (o::os):=
 ⟨.pv V,⟨λ_ _ _ _ h=>h,λe w ls _ H O A0 W _=>kH (h e w ls H O A0 W) (λ_ _ _ E=>E.imp (fun⟨h1,v,h2,h3,h4⟩=>⟨h1,v,h2,trivial,h3,h4⟩) id)⟩,ht⟩
end draws
def lZ (l:List (Nat×Nat))(t:Nat):Bool:=l.any λd=>Nat.ble d.1 t&&Nat.ble t d.2
def Jb (hd:lZ l d=true)(h:∀t,lZ l t=false->e' t=e1 t):∀t,lZ l t=false->upd e' d v t=e1 t:=by
 intro t ht
 have:t≠d:=λE=>by subst E;rw[hd]at ht;cases ht
 rw[upd_ne _ _ this];exact h t ht
def Q6 {m:List (Nat×Nat)}(hs:(m.all λd=>l.any λc=>Nat.ble c.1 d.1&&Nat.ble d.2 c.2)=true)(h:∀t,lZ l t=false->e' t=e1 t):∀t,lZ l t=false->ov (lZ m) e e' t=e1 t:=by
 intro t ht
 have:lZ m t=false:=by
  cases hm:lZ m t with
  |false=>rfl
  | true=>
    obtain⟨d,hd,h1⟩:=List.any_eq_true.1 hm
    obtain⟨c,hc,h2⟩:=List.any_eq_true.1 (List.all_eq_true.1 hs d hd)
    simp only[Bool.and_eq_true,Nat.ble_eq]at h1 h2
    have:lZ l t=true:=List.any_eq_true.2 ⟨c,hc,by simp only[Bool.and_eq_true,Nat.ble_eq];omega⟩
    rw[this]at ht;cases ht
 unfold ov;rw[this];exact h t ht
def CE:∀(os:List Oper) (t j k:Nat) (l:List (Nat×Nat)),(os.all λo=>match o.dst with|some d=>lZ l d|none=>true)=true->I0 os t j=some k->lZ l t=true
 |[],_,_,_,_,_,h=>by simp[I0]at h
 | o ::os,t,j,k,l,ha,h=>by
   rw[List.all_cons,Bool.and_eq_true]at ha
   unfold I0 at h
   split at h
   · rename_i d hd
     split at h
     · rename_i hb
       have h1:=ha.1
       rw[hd]at h1
       rw[<-Nat.eq_of_beq_eq_true hb];exact h1
     · exact CE os t (j+1) k l ha.2 h
   · exact CE os t (j+1) k l ha.2 h
def W7 {m:List Nat}(hs:(m.all λd=>lZ l d)=true)(h:∀t,lZ l t=false->e' t=e1 t):∀t,lZ l t=false->ov (Gd m) e e' t=e1 t:=by
 intro t ht
 have:Gd m t=false:=by
  cases hm:Gd m t with
  |false=>rfl
  | true=>
    obtain⟨d,hd,h1⟩:=List.any_eq_true.1 hm
    have h2:=List.all_eq_true.1 hs d hd
    rw[Nat.eq_of_beq_eq_true h1]at h2
    rw[ht]at h2;cases h2
 unfold ov;rw[this];exact h t ht
def Q7 {ops:List Oper}{Φ:List Ph}(hs:((ops.take M).all λo=>match o.dst with|some d=>lZ l d|none=>true)=true)(h:∀t,lZ l t=false->e' t=e1 t):
 ∀t,lZ l t=false->fr ops M Φ sel e e' t=e1 t:=by
 intro t ht
 unfold fr
 split
 · exact h t ht
 · rename_i j hj
   rw[CE _ _ _ _ _ hs hj]at ht;cases ht
def Jc :∀t,lZ l t=false->e t=e t:=λ_ _=>rfl
def same (h:∀t,lZ l t=false->e' t=e t:=by
 repeat first
  |with_reducible exact Jc
  |((with_reducible refine Jb ?_ ?_);· exact Z)
  |((with_reducible refine Q6 ?_ ?_);· kernel_rfl)
  |((with_reducible refine W7 ?_ ?_);· kernel_rfl)
  |((with_reducible refine Q7 ?_ ?_);· kernel_rfl)):∀t,lZ l t=false->e' t=e t:=h
section code
variable {P:Program}{r:Option Nat}{N:Nat}{ds:List Deferred}{Q:Exit->Act->World->Prop}{K:Act->World->Prop}{c c1:Code}{k4:Nat->(Nat->Value)->World->Prop}{mods:List (Nat×Nat)}
def Jd (h:∀t,lZ mods t=false->e1 t=e t):e1=ov (lZ mods) e1 e:=funext λt=>by
 unfold ov;split
 · rfl
 · rename_i hh;exact h t hh
def Zd (N:Nat)(ds:List Deferred)(mods:List (Nat×Nat))(e:Nat->Value)(k4:Nat->(Nat->Value)->World->Prop)(k:Nat):Act->World->Prop:=λa' w'=>∃k' e',k'<k/\a'=act N e' ds/\(∀t,lZ mods t=false->e' t=e t)/\k4 k' e' w'
def cg (mods:List (Nat×Nat))(k4:Nat->(Nat->Value)->World->Prop)(k:Nat)(h0:k4 k e w)(hs:∀k e1 w1,k4 k e1 w1->c.wpIn (Fw r) n P (Exit.then (Zd N ds mods e k4 k) Q) (act N (ov (lZ mods) e1 e) ds) w1):(Code.loop c).wpIn (Fw r) n P Q (act N e ds) w:=
 RY (λk e1 w1=>(∀t,lZ mods t=false->e1 t=e t)/\k4 k e1 w1) k ⟨λ_ _=>rfl,h0⟩ λk e1 w1 ⟨h1,h2⟩=>by
  have:=hs k e1 w1 h2
  rw[<-Jd h1]at this
  exact wpIn_mono this (by
   intro x a' w' hq
   cases x <;>first|exact hq|(obtain⟨k',e',hk,rfl,E,hI'⟩:=hq;exact⟨k',e',hk,rfl,E,hI'⟩))
def W8 {rest:Code}{l:Nat}(mods:List (Nat×Nat))(k4:Nat->(Nat->Value)->World->Prop)(k:Nat)(h0:k4 k e w)(hs:∀k e1 w1,k4 k e1 w1->rest.wpIn (Fw r) n P (HM l (Zd N ds mods e k4 k) Q) (act N (ov (lZ mods) e1 e) ds) w1):rest.wpIn (Fw r) n P (HM l (JA (Fw r) n P l (Code.skip.seq rest) Q) Q) (act N e ds) w:=by
 have key:∀m k e1 w1,k<m->(∀t,lZ mods t=false->e1 t=e t)->k4 k e1 w1->rest.wpIn (Fw r) n P (HM l (JL (Fw r) n P l (Code.skip.seq rest) Q (m-1)) Q) (act N e1 ds) w1:=by
  intro m
  induction m with
  |zero=>intro k e1 w1 hk;omega
  | succ m ih=>
    intro k e1 w1 hk H hI
    have:=hs k e1 w1 hI
    rw[<-Jd H]at this
    refine wpIn_mono this (zA λa w ⟨k',e',W,O,E,hI'⟩=>?_)
    subst O
    have h2:=ih k' e' w U E hI'
    obtain⟨p,rfl⟩:∃p,m=p+1:=⟨m-1,by omega⟩
    exact gU (jD (em h2))
 exact wpIn_mono (key (k+1) k e w U (λ_ _=>rfl) h0) (zA λa w h=>⟨k,h⟩)
def bJ (hI:k4 k' e' w')(hk:k'<k:=by omega)(hs:∀t,lZ mods t=false->e' t=e t:=by exact same):Zd N ds mods e k4 k (act N e' ds) w':=⟨k',e',hk,rfl,hs,hI⟩
def Z7 (N:Nat)(ds:List Deferred)(mods:List (Nat×Nat))(e:Nat->Value)(k4:(Nat->Value)->World->Prop):Act->World->Prop:=λa' w'=>∃e',a'=act N e' ds/\(∀t,lZ mods t=false->e' t=e t)/\k4 e' w'
def Tw (mods:List (Nat×Nat))(k4:(Nat->Value)->World->Prop)(h1:c1.wpIn (Fw r) n P (Exit.then (Z7 N ds mods e k4) Q) (act N e ds) w)(h2:∀e1 w1,k4 e1 w1->K (act N (ov (lZ mods) e1 e) ds) w1):c1.wpIn (Fw r) n P (Exit.then K Q) (act N e ds) w:=
 wpIn_mono h1 (by
  intro x a' w' hq
  cases x <;>first|exact hq|(obtain⟨e',rfl,h3,h4⟩:=hq;rw[Jd h3];exact h2 e' w' h4))
def CF {k4:(Nat->Value)->World->Prop}(hI:k4 e' w')(hs:∀t,lZ mods t=false->e' t=e t:=by exact same):Z7 N ds mods e k4 (act N e' ds) w':=⟨e',rfl,hs,hI⟩
end code
section ops
variable {P:Program}{r:Option Nat}{N:Nat}{ds:List Deferred}{Q:Exit->Act->World->Prop}{K:Act->World->Prop}{a:Act}
variable {ops:Array Oper}{rest:List Oper}{op:Op}{ty:Nat}{pos:String}{af:Array Edge}{id:Nat}{c c1 c2:Code}{x y:Operand}
abbrev L (r:Option Nat)(n:Nat)(ops:Array Oper)(Q:Exit->Act->World->Prop)(rest:List Oper)(N:Nat)(e:Nat->Value)(ds:List Deferred)(w:World):Prop:=wpListIn (Fw r) n prog ops Q rest (act N e ds) w
def al {z:Value}(hi:gk prog t z s b)(hk:∀w',(w'.heap.size=w.heap.size+1/\aP w w')->ao w' w.heap.size t z.cells->L r n ops Q rest N (upd e d (.pointer (some ⟨w.heap.size,0,none⟩))) ds w'):
 L r n ops Q (⟨some d,.alloc t,ty,pos,af,none⟩::rest) N e ds w:=aa (DU hi λw' h1 h2 h3=>hk w' ⟨h2,h1⟩ h3)
def bx (hk:∀w',(w'.heap.size=w.heap.size+1/\aP w w')->ao w' w.heap.size t v.cells->L r n ops Q rest N (upd e d (.pointer (some ⟨w.heap.size,0,none⟩))) ds w')(hx:ev N e x=v:=by exact Gk):
 L r n ops Q (⟨some d,.box t x,ty,pos,af,none⟩::rest) N e ds w:=aa (Vs hx λw' h1 h2 h3=>hk w' ⟨h2,h1⟩ h3)
def cl {R:Value->World->Prop}(hf:Enters prog f)(hc:Calls prog f vs.toArray w (aI w R))(hk:∀v w',Te w w'->R v w'->L r n ops Q rest N (upd e d v) ds w')(hv:xs.toList.map (ev N e)=vs:=by exact Z):
 L r n ops Q (⟨some d,.call ⟨.value (.func f),xs,ats⟩,ty,pos,af,none⟩::rest) N e ds w:=aa (nL hf hv hc λv w' h=>hk v w' (Vo h))
def clb {R:Value->World->Prop}(hf:Enters prog f)(hv:xs.toList.map (ev N e)=vs:=by exact Z)(hc:Calls prog f vs.toArray w (aI w R))(hk:∀v w',Te w w'->R v w'->L r n ops Q rest N (upd e d v) ds w'):
 L r n ops Q (⟨some d,.call ⟨.value (.func f),xs,ats⟩,ty,pos,af,none⟩::rest) N e ds w:=aa (nL hf hv hc λv w' h=>hk v w' (Vo h))
def lV {R:Value->World->Prop}(hf:Enters prog f)(hx:ev N e x=.func (.func f) #[] lb.toArray)(hv:xs.toList.map (ev N e)=vs)(hc:Calls prog f (vs++lb).toArray w (aI w R))(hk:∀v w',Te w w'->R v w'->K (act N (upd e d v) ds) w'){g:Option (Nat×Bool)}:Oper.wpIn (Fw r) n prog ⟨some d,.call ⟨.value x,xs,ats⟩,ty,pos,af,g⟩ (act N e ds) w K Q:=Ng hf hx hv hc λv w' h=>hk v w' (Vo h)
def xM {R:Value->World->Prop}{g:Option (Nat×Bool)}(hf:Enters prog f)(hv:xs.toList.map (ev N e)=vs)(hc:Calls prog f vs.toArray w (aI w R))(hk:∀v w',Te w w'->R v w'->K (act N (upd e d v) ds) w'):Oper.wpIn (Fw r) n prog ⟨some d,.call ⟨.value (.func f),xs,ats⟩,ty,pos,af,g⟩ (act N e ds) w K Q:=nL hf hv hc λv w' h=>hk v w' (Vo h)
def CH {D:TypeDesc}{name:String}{R:Value->World->Prop}{g:Option (Nat×Bool)}(hf:Enters prog f)(hm:eo prog t name f)(hu:prog.underlying t=some D)(hd:qF D=true)(hx:ev N e x=.iface t v)(hv:xs.toList.map (ev N e)=vs)(hc:Calls prog f (v::vs).toArray w (aI w R))(hk:∀v w',Te w w'->R v w'->K (act N (upd e d v) ds) w'):Oper.wpIn (Fw r) n prog ⟨some d,.call {callee:=.invoke x name,args:=xs,argTypes:=ats},ty,pos,af,g⟩ (act N e ds) w K Q:=IW hf hm hu hd hx hv hc λv w' h=>hk v w' (Vo h)
def SA {t tb m:Nat}(hb:ao w b tb cs)(hk:∀w',ez w w' b->ao w' b tb (putCells cs o vs)->L r n ops Q rest N e ds w')(hx:ev N e x=.pointer (some ⟨b,o,none⟩):=by exact gQ)(hy:ev N e y=.agg vs.toArray:=by exact gQ)(hi:(prog.info? t).map (·.size)=some m:=by with_reducible first|exact bV|exact Gf|exact bf|exact nN|exact nO|exact dJ|exact fw|exact H9|exact dE|exact tt|exact mi)(hm:vs.length=m:=by exact Z)(h1:vs.all (·.oneCell')=true:=by exact Z)(ho:o+vs.length<=cs.size:=by exact qa3 Z):
 L r n ops Q (⟨none,.store t x y,ty,pos,af,none⟩::rest) N e ds w:=aa (bB (hm▸hi) hx hy (List.all_eq_true.1 h1) hb ho hk)
def SO {t tb:Nat}(hb:ao w b tb cs)(hk:∀w',ez w w' b->ao w' b tb (cs.setIfInBounds o v)->L r n ops Q rest N e ds w')(hx:ev N e x=.pointer (some ⟨b,o,none⟩):=by exact gQ)(hy:ev N e y=v:=by exact Gk)(h1:v.oneCell'=true:=by exact Z)(hi:(prog.info? t).map (·.size)=some 1:=by with_reducible first|exact ie|exact Yy|exact Vl|exact mh|exact Nj|exact R4|exact y8|exact R6|exact sz1104|exact R5|exact H8|exact lS|exact BK|exact VB)(ho:o<cs.size:=by exact qa3 Z):
 L r n ops Q (⟨none,.store t x y,ty,pos,af,none⟩::rest) N e ds w:=aa (b7 hi hx hy h1 hb ho hk)
def BS {t:Nat}{z:Value}{cs:List Value}(hk:∀w',aP w w'->w.heap.size<w'.heap.size->w'.ownsRow w.heap.size el size (.slice (some ⟨w.heap.size,0,none⟩) 1 1) 1 cs->L r n ops Q rest N (upd e d (.slice (some ⟨w.heap.size,0,none⟩) 1 1)) ds w')(hx:ev N e x=v:=by exact Gk)(hc:v.cells=cs.toArray:=by exact Z)(hs:I6 prog t el z size bytes:=by with_reducible first|exact Tj|exact Tk|exact Cz|exact CC|exact Tl|exact Tm|exact I7|exact I8)(hf:Instr.fill (λi=>some (i*size,size)) ((Array.range (1*size)).map (z.cells[· %z.cells.size]!)) [(0,v)]=some cs.toArray:=by kernel_rfl)(hl:cs.toArray.size=1*size:=by exact Z)(h24:Nat.ble (1*size) 16777216=true:=by exact Z):L r n ops Q (⟨some d,.buildSlice t 1 #[(0,x)],ty,pos,af,none⟩::rest) N e ds w:=aa (cK hs.1 hs.2.1 (by rw[<-hx];rfl) (qa3 h24) (by have:=hs.2.2.2;omega) hf hl dc hk)
def NW {t:Nat}{z:Value}{cs ds':List Value}(hk:∀w',aP w w'->w.heap.size<w'.heap.size->w'.ownsRow w.heap.size el size (.slice (some ⟨w.heap.size,0,none⟩) 2 2) 2 (cs++ds')->L r n ops Q rest N (upd e d (.slice (some ⟨w.heap.size,0,none⟩) 2 2)) ds w')(hx:ev N e x=u:=by exact Gk)(hy:ev N e y=v:=by exact Gk)(hc:u.cells=cs.toArray:=by exact Z)(hd:v.cells=ds'.toArray:=by exact Z)(hs:I6 prog t el z size bytes:=by with_reducible first|exact Tj|exact Tk|exact Cz|exact CC|exact Tl|exact Tm|exact I7|exact I8)(hf:Instr.fill (λi=>some (i*size,size)) ((Array.range (2*size)).map (z.cells[· %z.cells.size]!)) [(0,u),(1,v)]=some (cs++ds').toArray:=by kernel_rfl)(hl:(cs++ds').toArray.size=2*size:=by exact Z)(h24:Nat.ble (2*size) 16777216=true:=by exact Z):L r n ops Q (⟨some d,.buildSlice t 2 #[(0,x),(1,y)],ty,pos,af,none⟩::rest) N e ds w:=aa (cK hs.1 hs.2.1 (by rw[<-hx,<-hy];rfl) (qa3 h24) (by have:=hs.2.2.2;omega) hf hl dc hk)
def AP {t ty base lo m c:Nat}{z:Value}{A:Option Addr}{xs news:List Value}(hown:w.ownsRow base el size v k xs)(hr:Rw w lo A news)(hk:∀v' w',w'.ownsRow base el size v' (k+m) (xs++news)->w.grownBy w' v.ownBlock->(v'.ownBlock=v.ownBlock\/v'.ownBlock=some w.heap.size)->L r n ops Q rest N (upd e d v') ds w')(h1:news.all (·.oneCell')=true:=by exact Z)(hx:ev N e x=v:=by exact gQ)(hy:ev N e y=.slice A m c:=by exact gQ)(hs:I6 prog t el z size bytes:=by with_reducible first|exact Tj|exact Tk|exact Cz|exact CC|exact Tl|exact Tm|exact I7|exact I8)(hl:news.length=m*size:=by exact Z)(h63:k+m<=maxLen:=by simp only[maxLen];omega)(hb:(k+m)*bytes<=140737488355328:=by omega)(hbase:base<=w.heap.size:=by omega):
 L r n ops Q (⟨some d,.call {callee:=.builtin .append,args:=#[x,y],argTypes:=#[t,t]},ty,pos,af,none⟩::rest) N e ds w:=aa (jB hs.1 hs.2.1 hs.2.2.1 hs.2.2.2 hx hown hy hr hl (List.all_eq_true.1 h1) h63 hb hbase hk)
def Tx (h:v.oneCell'=true):[v].all (·.oneCell')=true:=by simp[h]
end ops
end Go.Proofs.YtlmihmlnpjkblaaGreatDoor
namespace Go.Proofs.YtlmihmlnpjkblaaGreatDoor
variable {xs ys:List Nat}{i n b lo' lo c n1 c1 n2 c2 lo1 lo2 B1 B2 g a1 a2 k:Nat}{A A1 A2:Option Addr}{w:World}
set_option maxRecDepth 100000
open Go Go.Eng Go.RowKit Tryz
attribute [local irreducible] wpListIn Code.wpIn Oper.wpIn Exit.then Exit.inBlock Exit.noGoto
set_option maxHeartbeats 40000000
def lu {a:Int}(h:In64 a:=by unfold In64;omega):In64 a:=h
def ints (l:List Nat):List Value:=l.map λn:Nat=>Value.int .i64 n
def Je (h:i<xs.length):(ints xs)[i]?=some (.int .i64 ((xs[i]:Nat):Int)):=by simp[ints,h]
def iY (xs:List Nat):(ints xs).length=xs.length:=by simp[ints]
def tQ :∀u∈ints xs,u.oneCell'=true:=by
 intro u hu
 obtain⟨n,_,rfl⟩:=List.mem_map.1 hu
 rfl
def mw (a b:List Nat):ints (a++b)=ints a++ints b:=by simp[ints]
def lw (h:xs.length<=i):xs.getD i 0=0:=by simp[List.getD,List.getElem?_eq_none h]
def bF (h:i<xs.length):(ints xs)[i]?=some (.int .i64 ((xs.getD i 0:Nat):Int)):=by simp[ints,h]
def wo {m:Nat}(h0:0<m)(h:m<=xs.length):xs.take m=xs.take (m-1)++[xs.getD (m-1) 0]:=by
 obtain⟨k,rfl⟩:∃k,m=k+1:=⟨m-1,by omega⟩
 rw[List.take_succ_eq_append_getElem U]
 simp[show k<xs.length by omega]
def rI:∀l:List Nat,dA (l++[0])=dA l
 |[]=>by simp[dA]
 |d::l=>by simp only[List.cons_append,dA,rI l]
def tR:∀(l:List Nat) (d:Nat),d≠0->dA (l++[d])=l++[d]
 |[],d,h=>by simp[dA,h]
 | e::l,d,h=>by
   have ih:=tR l d h
   simp only[List.cons_append,dA,ih]
   rw[if_neg JT]
def ws {m:Nat}(h:0<m/\m<=n/\xs.length=n)(hz:xs.getD (m-1) 0=0):dA (xs.take m)=dA (xs.take (m-1)):=by
 rw[wo h.1 U,hz,rI]
def mP {m:Nat}(h:m<=n/\xs.length=n)(hz:m=0\/0<m/\xs.getD (m-1) 0≠0):dA (xs.take m)=xs.take m:=by
 rcases hz with rfl|⟨h0,hz⟩
 · simp[dA]
 · rw[wo h0 U,tR _ _ hz]
structure ee (w:World)(lo:Nat)(A:Option Addr)(n c a:Nat):Prop where
 row:Rw w lo A (ints (ap 10000 a))
 len:(ap 10000 a).length=n
 cap:n<=c
section
variable {w0 w':World}{a:Nat}
def ee.ext (k:aP w w')(h:ee w lo A n c a):ee w' lo A n c a:=⟨h.row.ext k,h.len,h.cap⟩
def aa6:=@ee.ext
def ee.put (k:ez w w' b)(hb:b<lo)(h:ee w lo A n c a):ee w' lo A n c a:=⟨h.row.put k hb,h.len,h.cap⟩
def ac3:=@ee.put
def ee.gr {row:Option Nat}(k:w.grownBy w' row)(hne:∀ad,A=some ad->some ad.block≠row)(h:ee w lo A n c a):ee w' lo A n c a:=⟨h.row.gr k hne,h.len,h.cap⟩
def ee.mono (hl:lo'<=lo)(h:ee w lo A n c a):ee w lo' A n c a:=⟨h.row.mono hl,h.len,h.cap⟩
def ee.lt (h:ee w lo A n c a):∀x∈ap 10000 a,x<10000:=eI 10000 U a
def ee.val (h:ee w lo A n c a):bP 10000 (ap 10000 a)=a:=cG 10000 U a
end
def mx {l:List Int}(h:∀x∈l,0<=x/\x<10000):l.map (Value.int .i64)=ints (eK l):=by
 conv=>lhs;rw[<-zk l (λx hx=>(h x hx).1)]
 simp[ints]
def CI {m a:Nat}{l:List Int}(hd:∀x∈l,0<=x/\x<10000)(hv:bP 10000 (eK l)=a)(hr:Rw w lo A (ints (eK l)))(hm:dA (eK l)=(eK l).take m)(hml:m<=(eK l).length)(hmc:m<=c):ee w lo A m c a:=by
 have h1:ap 10000 a=(eK l).take m:=by
  rw[<-hm,<-hv]
  exact(mo 10000 U _ (Gh l hd)).symm
 refine⟨?_,?_,hmc⟩
 · rw[h1]
   have:ints ((eK l).take m)=(ints (eK l)).take m:=by simp[ints]
   rw[this]
   exact hr.take m
 · rw[h1];simp;omega
def eZ (l:List Int):(eK l).length=l.length:=by simp[eK]
def kJ (x:Int)(w:World):
 CL 214 #[.int .i64 x] w (aI w λv w'=>v=.bool false):=by
 refine aE func214 Z (I ?_);exact am (t:=2) (v:=.bool false) Z (aa1 _) Z (by show Value.bool (!decide (x=x))=_;simp)
def Ty (x y:Int)(h:x<y)(w:World):
 CL 171 #[.int .i64 x,.int .i64 y] w (aI w λv w'=>v=.int .i64 (-1)):=by
 refine aE func171 Z (I ?_);refine cl wi (kJ _ _) ?_;rintro _ _ H rfl;have E4:=H.2;refine I ?_;refine cl wi (kJ _ _) ?_;rintro _ _ E rfl;have E4:=xt E4 E.2;refine I ?_;exact am (t:=4) (v:=.int .i64 (-1)) Z E4 Z Z
def Tz (x y:Int)(h:y<x)(w:World):
 CL 171 #[.int .i64 x,.int .i64 y] w (aI w λv w'=>v=.int .i64 1):=by
 refine aE func171 Z (I ?_);refine cl wi (kJ _ _) ?_;rintro _ _ E rfl;have E11:=E.2;refine I ?_;refine cl wi (kJ _ _) ?_;rintro _ _ H rfl;have E11:=xt E11 H.2;refine I ?_;exact am (t:=4) (v:=.int .i64 1) Z E11 Z Z
def cmp_eq (x y:Int)(h:x=y)(w:World):
 CL 171 #[.int .i64 x,.int .i64 y] w (aI w λv w'=>v=.int .i64 0):=by
 refine aE func171 Z (I ?_);refine cl wi (kJ _ _) ?_;rintro _ _ H rfl;have E18:=H.2;refine I ?_;refine cl wi (kJ _ _) ?_;rintro _ _ E rfl;have E18:=xt E18 E.2;refine I ?_;exact am (t:=4) (v:=.int .i64 0) Z E18 Z Z
def zD (hr:Rw w lo A (ints xs))(hn:xs.length=n):
 CL 165 #[.slice A n c,.int .i64 i] w (aI w λv w'=>v=.int .i64 ((xs.getD i 0:Nat):Int)):=by
 by_cases hi:i<n;have E:i<xs.length:=J
 refine aE func165 Z (I ?_);obtain⟨b,o,hA,hc⟩:=hr.cells i _ (Je E);refine aa (aD (i:=i) (oo:=o+i) gV ie Z hA Z hi U ?_);refine aa (bE (v:=.int .i64 ((xs[i]'E:Nat):Int)) U3 Z Z hc ?_);refine I ?_;exact am (t:=4) (v:=.int .i64 ((xs[i]'E:Nat):Int)) Z (aa1 _) (by simp[E]) Z;refine aE func165 Z (I ?_);exact am (t:=4) (v:=.int .i64 0) Z (aa1 _) (by rw[lw U];rfl) Z
def NX (h1:Rw w lo1 A1 (ints xs))(hn1:xs.length=n1)(h2:Rw w lo2 A2 (ints ys))(hn2:ys.length=n2)(k1:ao w B1 159 #[.slice A1 n1 c1])(k2:ao w B2 159 #[.slice A2 n2 c2])(hx:xs.getD i 0<=1000000000)(hy:ys.getD i 0<=1000000000):
 CL 164 #[.int .i64 i,pT B1,pT B2] w (aI w λv w'=>v=.int .i64 (((xs.getD i 0:Nat):Int)+((ys.getD i 0:Nat):Int))):=by
 refine aE func164 Z (I ?_);refine bH 8 ?_;refine sf ?_;refine aR (V:=.int .i64 ((xs.getD i 0:Nat):Int)) (λ_ _ hR32 _=>?_) ?_;have h1:=h1.ext hR32;refine cl zh (zD h1 hn1) ?_;rintro _ _ E rfl;have E37:=E.2;refine I ?_;exact fs ⟨E37,rfl⟩;refine sf ?_;refine aR (V:=.int .i64 ((ys.getD i 0:Nat):Int)) (λ_ _ hR48 _=>?_) ?_;have h2:=h2.ext hR48;refine cl zh (zD h2 hn2) ?_;rintro _ _ H rfl;have E53:=H.2;refine I ?_;exact fs ⟨E53,rfl⟩;refine aB (λ_ _ _ _=>by refine gO ?_;refine I ?_;exact aG) ?_;refine sf ?_;intro _ _ hR64 _;have E66:=hR64.2;refine I ?_;exact am (t:=4) (v:=.int .i64 (((xs.getD i 0:Nat):Int)+((ys.getD i 0:Nat):Int))) Z E66 Z Z
def Jf (h1:Rw w lo1 A1 (ints xs))(hn1:xs.length=n1)(h2:Rw w lo2 A2 (ints ys))(hn2:ys.length=n2)(k1:ao w B1 159 #[.slice A1 n1 c1])(k2:ao w B2 159 #[.slice A2 n2 c2])(hx:xs.getD i 0<=1000000000)(hy:ys.getD i 0<=1000000000):
 CL 166 #[.int .i64 i,pT B1,pT B2] w (aI w λv w'=>v=.int .i64 (((xs.getD i 0:Nat):Int)-((ys.getD i 0:Nat):Int))):=by
 refine aE func166 Z (I ?_);refine bH 8 ?_;refine sf ?_;refine aR (V:=.int .i64 ((xs.getD i 0:Nat):Int)) (λ_ _ hR77 _=>?_) ?_;have h1:=h1.ext hR77;refine cl zh (zD h1 hn1) ?_;rintro _ _ O rfl;have E82:=O.2;refine I ?_;exact fs ⟨E82,rfl⟩;refine sf ?_;refine aR (V:=.int .i64 ((ys.getD i 0:Nat):Int)) (λ_ _ hR93 _=>?_) ?_;have h2:=h2.ext hR93;refine cl zh (zD h2 hn2) ?_;rintro _ _ W rfl;have E98:=W.2;refine I ?_;exact fs ⟨E98,rfl⟩;refine aB (λ_ _ _ _=>by refine nY ?_;refine I ?_;exact aG) ?_;refine sf ?_;intro _ _ E _;have H:=E.2;refine I ?_;exact am (t:=4) (v:=.int .i64 (((xs.getD i 0:Nat):Int)-((ys.getD i 0:Nat):Int))) Z H Z Z
def fE (hr:Rw w lo A (ints xs))(hn:xs.length=n)(hc:n<=c)(hb:n<=1000000):
 CL 159 #[.slice A n c] w (aI w λv w'=>∃m,v=.slice A m c/\dA xs=xs.take m/\m<=n):=by
 refine aE func159 Z (I ?_);have A0:=aa1 w;refine cg [(0,0),(3,19)] (λO e W=>∃m:Nat,(m=O)/\(e 0=.slice A m c)/\(m<=n)/\(dA xs=dA (xs.take m))/\(aP w W)) (n) ⟨n,rfl,rfl,(qa0 _),(by rw[List.take_of_length_le U]),A0⟩ ?_;rintro _ _ _ ⟨m,rfl,Ab,Af,H,E⟩;by_cases hm:0<m;by_cases hz:xs.getD (m-1) 0=0;obtain⟨b,o,hA,hc⟩:=(hr.ext E).cells (m-1) _ (bF (xs:=xs) U);refine I ?_;refine aa (jl (a:=(m:Int)) (b:=1) (c:=((m-1:Nat):Int)) Z Z lu U ?_);refine I ?_;refine aa (aD (i:=m-1) (oo:=o+(m-1)) gV ie Z hA Z U U ?_);refine I ?_;refine aa (bE (v:=.int .i64 ((xs.getD (m-1) 0:Nat):Int)) U3 Z Z hc ?_);refine I ?_;refine aa (jl (a:=(m:Int)) (b:=1) (c:=((m-1:Nat):Int)) Z Z lu U ?_);refine aa (no (j:=m-1) gV ie Z Z U ?_);refine I ?_;exact bJ ⟨m-1,rfl,rfl,U,(H.trans (ws (n:=n) U hz)),E⟩;obtain⟨b,o,hA,hc⟩:=(hr.ext E).cells (m-1) _ (bF (xs:=xs) U);refine I ?_;refine aa (jl (a:=(m:Int)) (b:=1) (c:=((m-1:Nat):Int)) Z Z lu U ?_);refine I ?_;refine aa (aD (i:=m-1) (oo:=o+(m-1)) gV ie Z hA Z U U ?_);refine I ?_;refine aa (bE (v:=.int .i64 ((xs.getD (m-1) 0:Nat):Int)) U3 Z Z hc ?_);refine I ?_
 exact am (t:=2) (v:=.slice A m c) Z E ⟨m,rfl,H.trans (mP (n:=n) U CT),by omega⟩ Z;refine I ?_;exact am (t:=2) (v:=.slice A m c) Z E ⟨m,rfl,H.trans (mP (n:=n) U CT),by omega⟩ Z
def xN {c0:Int}{lb:List Value}{d:Nat->Int}(heg:Enters prog g)(hd:∀(i:Nat) (W:World),i<=n->aP w W->CL g ([Value.int .i64 i]++lb).toArray W (aI W λv _=>v=.int .i64 (d i)))(hn:n<=1000000)(hr:∀i≤n,-1000000000000<=d i/\d i<=1000000000000)(hc:∀k≤n,-1000000000<=(aJ d c0 k).1/\(aJ d c0 k).1<=1000000000)(hcn:0<=(aJ d c0 n).1/\(aJ d c0 n).1<10000)(hdn:d n=0):
 CL 163 #[.int .i64 n,.int .i64 c0,.func (.func g) #[] lb.toArray] w (aI w λv w'=>∃k,n<=k/\k<=n+1/\(aJ d c0 k).1=0/\w'.ownsRow w.heap.size 3 1 v k ((aJ d c0 k).2.map (Value.int .i64))):=by
 refine aE func163 Z (I ?_);refine aa (cC (a:=(n:Int)) (b:=1) (c:=((n+1:Nat):Int)) Z Z lu U ?_);refine aa (Nc (m:=n+1) gV kB Z Z U Rg (λ_ E4 ho=>?_));have od:=E4;refine I ?_;refine cg [(1,1),(7,9),(13,40)] (λE6 e W=>∃k:Nat,∃O:Value,(n+1-k=E6)/\(e 1=.int .i64 ((aJ d c0 k).1))/\(e 7=O)/\(e 8=.int .i64 k)/\(k<=n+1)/\(k=n+1->(aJ d c0 k).1=0)/\(aP w W)/\(W.ownsRow w.heap.size 3 1 O k ((aJ d c0 k).2.map (Value.int .i64)))) (n+1-0) ⟨0,_,rfl,rfl,rfl,rfl,U,U,od,ho⟩ ?_;rintro _ _ _ ⟨k,O,rfl,H4,Ab,GC,FR,G0,E,ho⟩;have EW:=bz E;by_cases hkn:k<n;by_cases hs:d k+(aJ d c0 k).1<0;have Aq:=hr k U;have Ar:=hc k U;have H:=Cb U;refine I ?_;refine aa (lV (vs:=[.int .i64 k]) (lb:=lb) heg Z Z (hd k _ U E) ?_);rintro _ _ Ap rfl;have Ap:=Ap.2;have ho:=ab Ap ho;have E:=xt E Ap;refine I ?_;refine gO (I ?_);refine gO (I ?_);refine aa (aT (v:=O) Ab ?_);refine I ?_;refine BS (λ_ Az _ E0=>?_);have ho:=ab Az ho;have E:=xt E Az;refine AP ho (aa7 E0) (λAw _ ES E5 _=>?_);have E:=cO E E5 (bz E) (λg A0=>by have:=(ho.lt g A0).1;omega);refine aa (aL (v:=Aw) Z ?_);refine I ?_
 refine aa (cC (a:=(k:Int)) (b:=1) (c:=((k+1:Nat):Int)) Z Z lu U ?_);refine I ?_;exact bJ ⟨k+1,Aw,rfl,(by rw[H];rfl),rfl,rfl,U,kb0,E,(by rw[H];simpa using ES)⟩;by_cases hs2:10000<=d k+(aJ d c0 k).1;have Aq:=hr k U;have Ar:=hc k U;have H:=Cc U U;refine I ?_;refine aa (lV (vs:=[.int .i64 k]) (lb:=lb) heg Z Z (hd k _ U E) ?_);rintro _ _ Ao rfl;have Ao:=Ao.2;have ho:=ab Ao ho;have E:=xt E Ao;refine I ?_;refine gO (I ?_);refine aa (wd (a:=(d k)+((aJ d c0 k).1)) (b:=10000) (c:=((d k)+((aJ d c0 k).1))/10000) Z Z U U lu Z ?_);refine I ?_;refine aa (mc (a:=(d k)+((aJ d c0 k).1)) (b:=10000) (c:=((d k)+((aJ d c0 k).1))%10000) Z Z U U Z ?_);refine I ?_;refine aa (aT (v:=O) Ab ?_);refine I ?_;refine BS (λ_ Av _ wr=>?_);have ho:=ab Av ho;have E:=xt E Av;refine AP ho (aa7 wr) (λnm _ E7 E1 _=>?_);have E:=cO E E1 (bz E) (λg A0=>by have:=(ho.lt g A0).1;omega);refine aa (aL (v:=nm) Z ?_);refine I ?_;refine aa (cC (a:=(k:Int)) (b:=1) (c:=((k+1:Nat):Int)) Z Z lu U ?_);refine I ?_
 exact bJ ⟨k+1,nm,rfl,(by rw[H];rfl),rfl,rfl,U,kb0,E,(by rw[H];simpa using E7)⟩;have Aq:=hr k U;have Ar:=hc k U;have H:=tB U U;refine I ?_;refine aa (lV (vs:=[.int .i64 k]) (lb:=lb) heg Z Z (hd k _ U E) ?_);rintro _ _ Af rfl;have Af:=Af.2;have ho:=ab Af ho;have E:=xt E Af;refine I ?_;refine gO (I ?_);refine aa (aT (v:=O) Ab ?_);refine I ?_;refine BS (λ_ As _ D1=>?_);have ho:=ab As ho;have E:=xt E As;refine AP ho (aa7 D1) (λAx _ D2 E9 _=>?_);have E:=cO E E9 (bz E) (λg A0=>by have:=(ho.lt g A0).1;omega);refine aa (aL (v:=Ax) Z ?_);refine I ?_;refine aa (cC (a:=(k:Int)) (b:=1) (c:=((k+1:Nat):Int)) Z Z lu U ?_);refine I ?_;exact bJ ⟨k+1,Ax,rfl,(by rw[H];rfl),rfl,rfl,U,kb0,E,(by rw[H];simpa using D2)⟩;by_cases hcz:(aJ d c0 k).1=0;refine I ?_;refine aa (aT (v:=O) Ab ?_);refine aa (aL (v:=O) Z ?_);refine I ?_;exact am (t:=6) (v:=O) Z E ⟨k,by omega,by omega,hcz,ho⟩ Z;have C1:n=k:=J
 have Cr:=hdn;rw[C1]at Cr;have CG:=hcn;rw[C1]at CG;have H2:¬10000<=d k+(aJ d c0 k).1:=J
 have H3:¬d k+(aJ d c0 k).1<0:=J
 have Aq:=hr k U;have Ar:=hc k U;have H:=tB U U;refine I ?_;refine aa (lV (vs:=[.int .i64 k]) (lb:=lb) heg Z Z (hd k _ U E) ?_);rintro _ _ Am rfl;have Am:=Am.2;have ho:=ab Am ho;have E:=xt E Am;refine I ?_;refine gO (I ?_);refine aa (aT (v:=O) Ab ?_);refine I ?_;refine BS (λ_ B0 _ CB=>?_);have ho:=ab B0 ho;have E:=xt E B0;refine AP ho (aa7 CB) (λAy _ CY ny _=>?_);have E:=cO E ny (bz E) (λg A0=>by have:=(ho.lt g A0).1;omega);refine aa (aL (v:=Ay) Z ?_);refine I ?_;refine aa (cC (a:=(k:Int)) (b:=1) (c:=((k+1:Nat):Int)) Z Z lu U ?_);refine I ?_;exact bJ ⟨k+1,Ay,rfl,(by rw[H];rfl),rfl,rfl,U,kb0,E,(by rw[H];simpa using CY)⟩
def W9 {m:Nat}(h1:Rw w lo1 A1 (ints xs))(hn1:xs.length=n1)(k1:ao w B1 159 #[.slice A1 n1 c1])(k2:ao w B2 3 #[.int .i64 m])(hx:∀x∈xs,x<10000)(hm:m<10000):
 CL 208 #[.int .i64 i,pT B1,pT B2] w (aI w λv w'=>v=.int .i64 (se xs m i)):=by
 have hb:=xC hx hm i;unfold se at hb;refine aE func208 Z (I ?_);refine bH 5 ?_;refine sf ?_;refine aR (V:=.int .i64 ((xs.getD i 0:Nat):Int)) (λ_ _ hR11 _=>?_) ?_;have h1:=h1.ext hR11;refine cl zh (zD h1 hn1) ?_;rintro _ _ E rfl;have E16:=E.2;refine I ?_;exact fs ⟨E16,rfl⟩;refine sf ?_;refine aB (λ_ _ _ _=>by refine aa (ri (a:=((xs.getD i 0:Nat):Int)) (b:=(m:Int)) (c:=se xs m i) Z Z zd Z ?_);refine I ?_;exact aG) ?_;refine sf ?_;intro _ _ hR27 _;have E29:=hR27.2;refine I ?_;exact am (t:=4) (v:=.int .i64 (se xs m i)) Z E29 Z Z
def o5 (h1:ee w lo1 A1 n1 c1 a1)(s1:n1<=100000)(h2:ee w lo2 A2 n2 c2 a2)(s2:n2<=100000):
 CL 121 #[.slice A1 n1 c1,.slice A2 n2 c2] w (aI w λv w'=>∃A n c,v=.slice A n c/\ee w' w.heap.size A n c (a1+a2)):=by
 refine aE func121 Z (I ?_);refine bx (λA0 Ax H=>?_);have E33:=Ax.2;refine bx (λAv D1 D2=>?_);have⟨H,E33⟩:=bn D1.2 H E33;refine I ?_;refine aa (HZ (a:=(n1:Int)) (b:=(n2:Int)) (m:=((max n1 n2:Nat):Int)) Z Z kd1 ?_);refine aa (aF (vf:=[]) (vc:=[pT w.heap.size,pT A0.heap.size]) Z Z ?_);have Az:∀(i:Nat) (W:World),i<=max n1 n2->aP Av W->CL 164 (([Value.int .i64 i]:List Value)++([pT w.heap.size,pT A0.heap.size]:List Value)).toArray W (aI W λv _=>v=.int .i64 (gp (ap 10000 a1) (ap 10000 a2) i)):=by(intro i W hi X;have X2:=xt E33 X;exact NX (h1.row.ext X2) h1.len (h2.row.ext X2) h2.len (H.ext X) (D2.ext X) (by have:=getD_lt h1.lt i;omega) (by have:=getD_lt h2.lt i;omega))
 have CY:∀i≤max n1 n2,-1000000000000<=gp (ap 10000 a1) (ap 10000 a2) i/\gp (ap 10000 a1) (ap 10000 a2) i<=1000000000000:=λi _=>by(have:=getD_lt h1.lt i;have:=getD_lt h2.lt i;unfold gp;omega)
 have Ar:=nW h1.lt h2.lt;have C1:∀k≤max n1 n2,-1000000000<=(aJ (gp (ap 10000 a1) (ap 10000 a2)) 0 k).1/\(aJ (gp (ap 10000 a1) (ap 10000 a2)) 0 k).1<=1000000000:=λk _=>by(have:=Ar k;omega)
 have CB:0<=(aJ (gp (ap 10000 a1) (ap 10000 a2)) 0 (max n1 n2)).1/\(aJ (gp (ap 10000 a1) (ap 10000 a2)) 0 (max n1 n2)).1<10000:=by(have:=Ar (max n1 n2);omega)
 have B0:gp (ap 10000 a1) (ap 10000 a2) (max n1 n2)=0:=by(unfold gp;rw[lw kb3,lw kc9];rfl)
 refine clb Ih (hc:=xN (d:=gp (ap 10000 a1) (ap 10000 a2)) (c0:=0) (lb:=[pT w.heap.size,pT A0.heap.size]) Wd Az U CY C1 CB B0) (hk:=?_);rintro _ _ E ⟨k,E1,E4,Aw,ho⟩;have E:=E.2;obtain⟨Af,O,rfl,Ay,-,-,-⟩:=eO ho;have E33:=xt E33 E;obtain⟨Aq,As⟩:=IQ h1.lt h2.lt (n:=max n1 n2) (k:=k) ⟨by rw[h1.len];omega,by rw[h2.len];omega⟩ E1 Aw;rw[h1.val,h2.val]at As;have Am:=ho;rw[mx Aq]at Am;have Ao:=aa7 Am;refine clb rq (hc:=fE Ao (by rw[eZ,eJ]) Ay U) (hk:=?_);rintro _ _ Ap ⟨Ab,rfl,E0,Cr⟩;have E33:=xt E33 Ap.2;have CG:=CI (c:=O) Aq As (Ao.ext Ap.2) E0 (by rw[eZ,eJ];exact Cr) U;refine I ?_;exact am (t:=4) (v:=.slice Af Ab O) Z E33 ⟨Af,Ab,O,rfl,CG.mono U⟩ Z
def o6 (h1:ee w lo1 A1 n1 c1 a1)(s1:n1<=100000)(h2:ee w lo2 A2 n2 c2 a2)(s2:n2<=100000)(hle:a2<=a1)(hln:n2<=n1):
 CL 123 #[.slice A1 n1 c1,.slice A2 n2 c2] w (aI w λv w'=>∃A n c,v=.slice A n c/\ee w' w.heap.size A n c (a1-a2)):=by
 refine aE func123 Z (I ?_);refine bx (λA0 CB H=>?_);have E49:=CB.2;refine bx (λE4 B0 E5=>?_);have⟨H,E49⟩:=bn B0.2 H E49;refine I ?_;refine aa (aF (vf:=[]) (vc:=[pT w.heap.size,pT A0.heap.size]) Z Z ?_);have Ay:∀(i:Nat) (W:World),i<=n1->aP E4 W->CL 166 (([Value.int .i64 i]:List Value)++([pT w.heap.size,pT A0.heap.size]:List Value)).toArray W (aI W λv _=>v=.int .i64 (dw (ap 10000 a1) (ap 10000 a2) i)):=by(intro i W hi X;have X2:=xt E49 X;exact Jf (h1.row.ext X2) h1.len (h2.row.ext X2) h2.len (H.ext X) (E5.ext X) (by have:=getD_lt h1.lt i;omega) (by have:=getD_lt h2.lt i;omega))
 have Cr:∀i≤n1,-1000000000000<=dw (ap 10000 a1) (ap 10000 a2) i/\dw (ap 10000 a1) (ap 10000 a2) i<=1000000000000:=λi _=>by(have:=getD_lt h1.lt i;have:=getD_lt h2.lt i;unfold dw;omega)
 have E0:=j2 h1.lt h2.lt;obtain⟨Aw,D1,Ax⟩:=Gj h1.lt h2.lt (n:=n1) ⟨by rw[h1.len];omega,by rw[h2.len];omega⟩ (by rw[h1.val,h2.val];exact hle);have C1:∀k≤n1,-1000000000<=(aJ (dw (ap 10000 a1) (ap 10000 a2)) 0 k).1/\(aJ (dw (ap 10000 a1) (ap 10000 a2)) 0 k).1<=1000000000:=λk _=>by(have:=E0 k;omega)
 have CG:0<=(aJ (dw (ap 10000 a1) (ap 10000 a2)) 0 n1).1/\(aJ (dw (ap 10000 a1) (ap 10000 a2)) 0 n1).1<10000:=by(rw[Aw];omega)
 have Az:dw (ap 10000 a1) (ap 10000 a2) n1=0:=by(unfold dw;rw[lw kb3,lw kc9];rfl)
 refine clb Ih (hc:=xN (d:=dw (ap 10000 a1) (ap 10000 a2)) (c0:=0) (lb:=[pT w.heap.size,pT A0.heap.size]) We Ay U Cr C1 CG Az) (hk:=?_);rintro _ _ O ⟨k,E6,E7,As,ho⟩;have O:=O.2;obtain⟨Af,E,rfl,Av,-,-,-⟩:=eO ho;have E49:=xt E49 O;have Ap:=D1 k;have Ar:=Ax k E6 As;rw[h1.val,h2.val]at Ar;have Am:=ho;rw[mx Ap]at Am;have Ao:=aa7 Am;refine clb rq (hc:=fE Ao (by rw[eZ,eJ]) Av U) (hk:=?_);rintro _ _ Aq ⟨Ab,rfl,E1,D2⟩;have E49:=xt E49 Aq.2;have CY:=CI (c:=E) Ap Ar (Ao.ext Aq.2) E1 (by rw[eZ,eJ];exact D2) U;refine I ?_;exact am (t:=4) (v:=.slice Af Ab E) Z E49 ⟨Af,Ab,E,rfl,CY.mono U⟩ Z
def Eu (h1:ee w lo1 A1 n1 c1 a1)(s1:n1<=100000){m:Nat}(hm:m<10000):
 CL 160 #[.slice A1 n1 c1,.int .i64 m] w (aI w λv w'=>∃A n c,v=.slice A n c/\ee w' w.heap.size A n c (a1*m)):=by
 refine aE func160 Z (I ?_);refine bx (λO Ay H=>?_);have E65:=Ay.2;refine bx (λD1 E0 Av=>?_);have⟨H,E65⟩:=bn E0.2 H E65;refine I ?_;refine aa (aF (vf:=[]) (vc:=[pT w.heap.size,pT O.heap.size]) Z Z ?_);have Az:∀(i:Nat) (W:World),i<=n1->aP D1 W->CL 208 (([Value.int .i64 i]:List Value)++([pT w.heap.size,pT O.heap.size]:List Value)).toArray W (aI W λv _=>v=.int .i64 (se (ap 10000 a1) m i)):=by(intro i W hi X;have X2:=xt E65 X;exact W9 (h1.row.ext X2) h1.len (H.ext X) (Av.ext X) h1.lt hm)
 have CY:∀i≤n1,-1000000000000<=se (ap 10000 a1) m i/\se (ap 10000 a1) m i<=1000000000000:=λi _=>by(have:=xC h1.lt hm i;omega)
 have Ar:=tC h1.lt hm;have C1:∀k≤n1,-1000000000<=(aJ (se (ap 10000 a1) m) 0 k).1/\(aJ (se (ap 10000 a1) m) 0 k).1<=1000000000:=λk _=>by(have:=Ar k;omega)
 have CB:0<=(aJ (se (ap 10000 a1) m) 0 n1).1/\(aJ (se (ap 10000 a1) m) 0 n1).1<10000:=Ar n1;have B0:se (ap 10000 a1) m n1=0:=by(unfold se;rw[lw kb3];simp)
 refine clb Ih (hc:=xN (d:=se (ap 10000 a1) m) (c0:=0) (lb:=[pT w.heap.size,pT O.heap.size]) Wj Az U CY C1 CB B0) (hk:=?_);rintro _ _ A0 ⟨k,E1,E4,Aw,ho⟩;have A0:=A0.2;obtain⟨Af,E,rfl,Ax,-,-,-⟩:=eO ho;have E65:=xt E65 A0;obtain⟨Aq,As⟩:=S2 h1.lt hm (n:=n1) (k:=k) kb3 E1 Aw;rw[h1.val]at As;have Am:=ho;rw[mx Aq]at Am;have Ao:=aa7 Am;refine clb rq (hc:=fE Ao (by rw[eZ,eJ]) Ax U) (hk:=?_);rintro _ _ Ap ⟨Ab,rfl,D2,Cr⟩;have E65:=xt E65 Ap.2;have CG:=CI (c:=E) Aq As (Ao.ext Ap.2) D2 (by rw[eZ,eJ];exact Cr) U;refine I ?_;exact am (t:=4) (v:=.slice Af Ab E) Z E65 ⟨Af,Ab,E,rfl,CG.mono U⟩ Z
def wt {l:List {i:Nat // i<n}}{hk:k-1<n}(h:0<k)(hl:l.map (·.1)++(List.range k).reverse=(List.range n).reverse):(l++[(⟨k-1,hk⟩:{i:Nat // i<n})]).map (·.1)++(List.range (k-1)).reverse=(List.range n).reverse:=by
 rw[<-hl]
 obtain⟨j,rfl⟩:∃j,k=j+1:=⟨k-1,by omega⟩
 simp[List.range_succ]
def j4 :
 CL 158 #[.slice A n c] w (aI w λv w'=>v=.func (.func 207) #[] #[pT w.heap.size]/\ao w' w.heap.size 159 #[.slice A n c]):=by
 refine aE func158 Z (I ?_);refine bx (λ_ E H=>?_);have E4:=E.2;refine aa (aL (v:=.nilFunc) Z ?_);refine I ?_;refine aa (aF (vf:=[]) (vc:=[pT w.heap.size]) Z Z ?_);refine I ?_;exact am (t:=2) (v:=.func (.func 207) #[] #[pT w.heap.size]) Z E4 ⟨rfl,H⟩ Z
def iR (hb:ao w b 159 #[.slice A n c])(hr:Rw w lo A (ints xs))(hn:xs.length=n)(hm:n<=1000000):
 QQ prog 207 [pT b] n (λi=>[.int .i64 i,.int .i64 ((xs.getD i 0:Nat):Int)]) (List.range n).reverse (λW=>ao W b 159 #[.slice A n c]/\Rw W lo A (ints xs)) w:=by
 intro l k6 Jx W hW hJ0 hJx0 hY Ab;have hb:=be hW hb;have hr:=Rw.ext hW hr;clear hW hJ0 hJx0;refine qE ?_;refine Ec func207 Z (I ?_);refine nY (I ?_);refine cg [(3,3),(7,18)] (λAf e W=>∃k:Nat,∃pre:List {i:Nat // i<n},(k=Af)/\(e 3=.int .i64 ((k:Int)-1))/\(k<=n)/\(pre.map (·.1)++(List.range k).reverse=(List.range n).reverse)/\(k6 pre W)/\(True)/\(ao W b 159 #[.slice A n c])/\(Rw W lo A (ints xs))) (n) ⟨n,[],rfl,rfl,(qa0 _),JT,Ab,trivial,hb,hr⟩ ?_;rintro _ _ Am ⟨k,pre,rfl,Aq,Ar,E,O,E9,hb,hr⟩;by_cases hm:0<k;refine I ?_;obtain⟨_,o,hA,hc⟩:=hr.cells (k-1) _ (bF (xs:=xs) U);refine aa (aD (i:=k-1) (oo:=o+(k-1)) gV ie Z hA (dv Z U) U U ?_);refine aa (bE (v:=.int .i64 ((xs.getD (k-1) 0:Nat):Int)) U3 Z Z hc ?_);refine aa (xE (l:=l) (vs:=[.int .i64 ((k-1:Nat):Int),.int .i64 ((xs.getD (k-1) 0:Nat):Int)]) Z (au (dv Z U) (au Z Z)) (hY pre ⟨k-1,by omega⟩ Am O (by have hl:=qb2 List.length E;simp at hl;omega)) ?_);rintro _ _ Ao;obtain⟨q,rfl,Ap,A0⟩:=ry Ao;show wpListIn _ _ _ _ _ _ _ _;refine I ?_;refine xp (q:=!q) Z (λH=>?_) (λH=>?_);have hq:q=false:=by simpa using H
 refine I ?_;exact Nq Z λv=>⟨⟨v,rfl⟩,.inr ⟨_,⟨_,wt hm E⟩,A0 hq⟩⟩;have hq:q=true:=by simpa using H
 obtain⟨hJ,hK⟩:=Ap hq;obtain⟨hb,hr⟩:=hK ⟨hb,hr⟩;refine I ?_;refine aa (jl (a:=(k:Int)-1) (b:=1) (c:=((k-1:Nat):Int)-1) Z Z zd U ?_);refine I ?_;exact bJ ⟨k-1,pre++[⟨k-1,by omega⟩],rfl,rfl,U,(wt hm E),hJ,E9,hb,hr⟩;refine I ?_;exact sG Z λv=>⟨⟨v,rfl⟩,.inl ⟨pre,by rw[show k=0 by omega]at E;simpa using E,O⟩⟩
end Go.Proofs.YtlmihmlnpjkblaaGreatDoor
def nZ {B:Nat}(hB:2<=B)(a:Nat):a<B^(ap B a).length:=(ba B hB a _).1 (qa0 _)
def Ev {B:Nat}(hB:2<=B)(a b k:Nat)(ha:(ap B a).length<=k)(hb:(ap B b).length<=k):(ap B (a+b)).length<=k+1:=by
 rw[ba B hB]at *
 have:B^(k+1)=B^k*B:=Nat.pow_succ ..
 have h2:B^k*2<=B^k*B:=Nat.mul_le_mul_left _ hB
 omega
def my {B:Nat}(hB:2<=B)(a m k:Nat)(ha:(ap B a).length<=k)(hm:m<B):(ap B (a*m)).length<=k+1:=by
 rw[ba B hB]at *
 have h1:B^(k+1)=B^k*B:=Nat.pow_succ ..
 by_cases h0:a=0
 · subst h0
   have:=Nat.pow_pos (n:=k+1) (show 0<B by omega)
   omega
 · have:a*m<a*B:=(Nat.mul_lt_mul_left J).2 hm
   have h2:a*B<=B^k*B:=Nat.mul_le_mul_right B J
   omega
def ep {B:Nat}(hB:2<=B){a b:Nat}(h:a<=b):(ap B a).length<=(ap B b).length:=by
 rw[ba B hB]
 exact Nat.lt_of_le_of_lt h (nZ hB b)
def Gp {B:Nat}(hB:2<=B)(a:Nat)(h:0<a):ap B (a*B)=0::ap B a:=by
 rw[fO B _ hB (Nat.mul_pos h J),Nat.mul_mod_left,Nat.mul_div_cancel _ J]
def jq {B:Nat}(hB:2<=B){a:Nat}(h:(ap B a).length=0):a=0:=by
 rcases Nat.eq_zero_or_pos a with h0|h0
 · exact h0
 · rw[fO B a hB h0]at h;simp at h
def mz {B:Nat}(hB:2<=B){a:Nat}(h:0<(ap B a).length):0<a:=by
 rcases Nat.eq_zero_or_pos a with h0|h0
 · subst h0;simp[gm]at h
 · exact h0
def nC (a:Nat)(ys:List Nat)(pre:List Nat):Nat:=pre.foldl (λs i=>s*10000+a*ys.getD i 0) 0
def tS (a:Nat)(ys pre:List Nat)(x:Nat):nC a ys (pre++[x])=nC a ys pre*10000+a*ys.getD x 0:=by simp[nC]
def wu (a:Nat)(ys:List Nat):∀k s,k<=ys.length->(List.range k).reverse.foldl (λs i=>s*10000+a*ys.getD i 0) s=s*10000^k+a*bP 10000 (ys.take k)
 |0,s,_=>by simp[bP]
 | k+1,s,h=>by
   rw[List.range_succ,List.reverse_append]
   simp only[List.reverse_cons,List.reverse_nil,List.nil_append,List.cons_append,List.foldl_cons]
   rw[wu a ys k _ J,List.take_succ_eq_append_getElem J,b9]
   have hl:(ys.take k).length=k:=by simp;omega
   have E:ys.getD k 0=ys[k]:=by simp[show k<ys.length by omega]
   rw[hl,E]
   simp only[bP,Nat.mul_zero,Nat.add_zero,Nat.pow_succ]
   grind
def Gq (a:Nat)(ys:List Nat){n:Nat}(h:ys.length=n):nC a ys (List.range n).reverse=a*bP 10000 ys:=by
 unfold nC
 rw[wu a ys n 0 J,List.take_of_length_le J]
 simp
namespace Go.Proofs.YtlmihmlnpjkblaaGreatDoor
open Go Go.Eng Go.RowKit Tryz
variable {B D lo a n1 c1 a1 lo1 n2 c2 a2 lo2:Nat}{A1 A2:Option Addr}{W W' w w':World}
attribute [local irreducible] wpListIn Code.wpIn Oper.wpIn Exit.then Exit.inBlock Exit.noGoto
set_option maxHeartbeats 40000000
section
variable {w0:World}{A:Option Addr}{n c:Nat}
def ee.cel {row:Option Nat}(hg:W.grownBy W' row)(hr:∀r,row=some r->B<=r/\∃o:Obj,W.heap[r]?=some o/\o.isCells=false)(h:ee W lo A n c a):ee W' lo A n c a:=⟨h.row.cel hg hr,h.len,h.cap⟩
def ee.dfr (hK:lj w D)(h:ee w lo A n c a):ee (w.putObj D (.deferred none)) lo A n c a:=⟨h.row.dfr hK,h.len,h.cap⟩
def ee.zero (w:World)(lo:Nat):ee w lo none 0 0 0:=⟨Rw.nil w lo,rfl,qa0 _⟩
def ee.hi (h:ee w lo A n c a):∀ad,A=some ad->ad.block<w.heap.size:=h.row.hi
def ee.le (h:ee w lo A n c a):(ap 10000 a).length<=n:=by rw[h.len];exact qa0 _
end
def dW (lo a:Nat)(v:Value)(w:World):Prop:=∃A n c,v=.slice A n c/\ee w lo A n c a
def dW.ext {v:Value}(k:aP w w')(h:dW lo a v w):dW lo a v w':=by
 obtain⟨A,n,c,e,h⟩:=h
 exact⟨A,n,c,e,h.ext k⟩
set_option maxRecDepth 100000 in
def Jg (h1:ee w lo1 A1 n1 c1 a1)(s1:n1<=10000)(h2:ee w lo2 A2 n2 c2 a2)(s2:n2<=10000):
 CL 141 #[.slice A1 n1 c1,.slice A2 n2 c2] w (aI w λv w'=>∃A n c,v=.slice A n c/\ee w' w.heap.size A n c (a1*a2)):=by
 refine rx func141 Z (I ?_);refine bx (λEW KM H=>?_);have E4:=KM.2;refine I ?_;refine al BI (λE9 K2 A0=>?_);have⟨H,E4⟩:=bn K2.2 H E4;refine I ?_;refine cl D3 (j4 (A:=A2) (n:=n2) (c:=c2)) ?_;rintro _ E5 No ⟨rfl,N0⟩;have⟨H,A0,E4⟩:=cj No.2 H A0 E4;refine I ?_;refine sF (m:=n2) (enc:=λx=>[.int .i64 x,.int .i64 (((ap 10000 a2).getD x 0:Nat):Int)]) (order:=(List.range n2).reverse) (Kq:=λW=>ao W E9.heap.size 159 #[.slice A2 n2 c2]/\Rw W lo2 A2 (ints (ap 10000 a2))) (gf:=207) (lb:=[pT E9.heap.size]) (ps:=[10,11]) Z D6 (iR N0 (h2.row.ext E4) h2.len U) (λW W' row hq Ar hr=>⟨ad6 Ar hr hq.1,Rw.cel Ar hr hq.2⟩) (λ_=>rfl) [7] (λx=>[.int .i64 (((ap 10000 a2).getD x 0:Nat):Int)]) ?asn (λpre W=>∃Av:Option Addr,∃Am:Nat,∃As:Nat,(Am<=n1+2+2*pre.length)/\(E5.heap.size<=W.heap.size)/\(aP w W)/\(ao W w.heap.size 159 #[.slice A1 n1 c1])/\(ao W EW.heap.size 159 #[.slice Av Am As])/\(ee W E5.heap.size Av Am As (nC a1 (ap 10000 a2) pre))) (λ_ _ _=>False) ?hI ?hIx ?h0 ?body ?done ?stop;case asn=>
  intro l x W K hK;refine I ?_;exact hK
 case hI=>
  rintro pre W W' row ⟨Av,Am,As,E1,E0,E,H,A0,hv⟩ Ar hr;exact⟨Av,Am,As,E1,qa8 E0 Ar.size,oX (B:=E5.heap.size) U Ar hr (bz E) E,ad6 Ar hr H,ad6 Ar hr A0,ee.cel Ar hr hv⟩
 case hIx=>
  exact λ_ _ _ _ _ h=>h.elim
 case h0=>
  exact⟨none,0,0,U,qa0 _,E4,H,A0,ee.zero _ _⟩
 case body=>
  rintro l pre x W ⟨Av,Am,As,E1,E0,E,H,A0,hv⟩ S9 hx Q0;have Kp:=eF.refl [EW.heap.size] W;have zW:=bz E;have H3:=hv.hi;have hd:=getD_lt h2.lt x;have G0:=ae2 A0;by_cases hz:Am=0;have FR:=jq (B:=10000) U (hv.len.trans U);refine I ?_;have hL:w.heap.size<=W.heap.size:=J
  refine bH 5 ?_;refine sf ?_;refine bC (λv w=>dW W.heap.size (a1*((ap 10000 a2).getD x 0)) v w) (hs:=λ_ _ _ k h=>h.ext k) (λ_ _ hR26 _=>?_) ?_;refine clb D5 (hc:=Eu (h1.ext (xt E hR26)) U hd) (hk:=?_);rintro _ _ Lk ⟨Ab,Ay,D1,rfl,Af⟩;have E31:=Lk.2;have Af:=Af.mono (lo':=W.heap.size) (by have:=bz hR26;omega);refine I ?_;exact fs ⟨E31,⟨Ab,Ay,D1,rfl,Af⟩⟩;refine bC (λv w=>dW W.heap.size ((nC a1 (ap 10000 a2) pre)+a1*((ap 10000 a2).getD x 0)) v w) (hs:=λ_ _ _ k h=>h.ext k) (λ_ _ hR34 KY=>?_) ?_;obtain⟨Ab,Ay,D1,p36,Af⟩:=(KY 3 21 Z Z);have Ix:Ay<=n1+1:=by rw[<-Af.len];exact my U _ _ _ h1.le hd
  have hv:=aa6 hR34 hv;refine clb ze (hc:=o5 hv U Af U) (hk:=?_) (hv:=au Z (au p36 Z));rintro _ _ H4 ⟨Ap,Aq,Ax,rfl,O⟩;have E40:=H4.2;have O:=O.mono (lo':=W.heap.size) (by have:=bz hR34;omega);refine I ?_;exact fs ⟨E40,⟨Ap,Aq,Ax,rfl,O⟩⟩;refine sf ?_;intro _ _ hR43 P1;have H:=be hR43.2 H;have A0:=be hR43.2 A0;have E:=xt E hR43.2;have Kp:=ad7 Kp hR43.2;obtain⟨Ap,Aq,Ax,_,O⟩:=(P1 4 22 Z Z);refine SO A0 (λ_ CG Ne=>?_);have H:=pb CG H;have O:=ac3 CG U O;have E:=bh CG E;have Kp:=ad9 Kp CG Nd;have P2:=iQ CG;refine I ?_;have GC:Aq<=n1+2+0:=by(rw[<-O.len];rw[FR];rw[Nat.zero_add];exact qa8 (my U _ _ _ h1.le hd) U)
  refine I ?_;exact⟨Kp.others kc0,λhq=>⟨Kp.blk j0 hq.1,Kp.rw (λCY e=>by have:=h2.hi CY e;simp;omega) hq.2⟩,⟨Ap,Aq,Ax,j0,U,E,H,Ne,(by rw[tS];rw[FR]at O ⊢;simpa using O.mono U)⟩⟩;have Li:=mz (B:=10000) U (a:=nC a1 (ap 10000 a2) pre) (by rw[hv.len];omega);refine I ?_;refine BS (λ_ C1 _ E7=>?_);have H:=be C1 H;have A0:=be C1 A0;have hv:=aa6 C1 hv;have E:=xt E C1;have Kp:=ad7 Kp C1;have T2:=bz C1;refine I ?_;refine aa (jB (v:=.slice (some ⟨W.heap.size,0,none⟩) 1 1) (k:=1) gV kB Z dc Z E7 Z hv.row (by rw[iY,hv.len];omega) tQ Rg U U (λ_ La E6 B0 _=>?_));have H:=aa3 B0 RT H;have A0:=aa3 B0 RT A0;have hv:=ee.gr B0 (λCY e=>by have:=H3 CY e;simp[Value.ownBlock];omega) hv;have Kp:=eF.gr Kp B0 (λb hb=>by exact Or.inr (by simp[Value.ownBlock]at hb;omega));have E:=cO E B0 (bz E) (λg L1=>by have:=(E7.lt g L1).1;omega);have VW:=B0.size;obtain⟨Aw,Lj,rfl,L3,S0,-,-⟩:=eO E6;have hs:=aa7 E6;have Ao:ee La W.heap.size Aw (1+Am) Lj (nC a1 (ap 10000 a2) pre*10000):=by(have e:=Gp (B:=10000) U _ Li;exact⟨by rw[e];exact hs,by rw[e,List.length_cons,hv.len];omega,L3⟩)
  refine SO A0 (λCr CB D2=>?_);have H:=pb CB H;have Ao:=ac3 CB U Ao;have E:=bh CB E;have Kp:=ad9 Kp CB Nd;have T3:=iQ CB;refine I ?_;have hL:w.heap.size<=Cr.heap.size:=J
  refine bH 5 ?_;refine sf ?_;refine bC (λv w=>dW Cr.heap.size (a1*((ap 10000 a2).getD x 0)) v w) (hs:=λ_ _ _ k h=>h.ext k) (λ_ _ hR75 _=>?_) ?_;refine clb D5 (hc:=Eu (h1.ext (xt E hR75)) U hd) (hk:=?_);rintro _ _ P0 ⟨Ab,Ay,D1,rfl,Af⟩;have E80:=P0.2;have Af:=Af.mono (lo':=Cr.heap.size) (by have:=bz hR75;omega);refine I ?_;exact fs ⟨E80,⟨Ab,Ay,D1,rfl,Af⟩⟩;refine bC (λv w=>dW Cr.heap.size ((nC a1 (ap 10000 a2) pre*10000)+a1*((ap 10000 a2).getD x 0)) v w) (hs:=λ_ _ _ k h=>h.ext k) (λ_ _ hR83 H2=>?_) ?_;obtain⟨Ab,Ay,D1,L4,Af⟩:=(H2 3 21 Z Z);have Ix:Ay<=n1+1:=by rw[<-Af.len];exact my U _ _ _ h1.le hd
  have Ao:=aa6 hR83 Ao;refine clb ze (hc:=o5 Ao U Af U) (hk:=?_) (hv:=au Z (au L4 Z));rintro _ _ K3 ⟨Ap,Aq,Ax,rfl,O⟩;have E89:=K3.2;have O:=O.mono (lo':=Cr.heap.size) (by have:=bz hR83;omega);refine I ?_;exact fs ⟨E89,⟨Ap,Aq,Ax,rfl,O⟩⟩;refine sf ?_;intro _ _ hR92 L2;have H:=be hR92.2 H;have D2:=be hR92.2 D2;have Ao:=aa6 hR92.2 Ao;have E:=xt E hR92.2;have Kp:=ad7 Kp hR92.2;obtain⟨Ap,Aq,Ax,_,O⟩:=(L2 4 22 Z Z);refine SO D2 (λ_ Az KC=>?_);have H:=pb Az H;have Ao:=ac3 Az U Ao;have O:=ac3 Az U O;have E:=bh Az E;have Kp:=ad9 Kp Az Nd;have Rm:=iQ Az;refine I ?_;have GC:Aq<=n1+3+2*pre.length+1+0:=by(rw[<-O.len];exact qa8 (Ev U _ _ (n1+3+2*pre.length) (by rw[Ao.len];omega) (qa8 (my U _ _ _ h1.le hd) U)) U)
  refine I ?_;exact⟨Kp.others kc0,λhq=>⟨Kp.blk j0 hq.1,Kp.rw (λCY e=>by have:=h2.hi CY e;simp;omega) hq.2⟩,⟨Ap,Aq,Ax,j0,U,E,H,KC,(by rw[tS];exact O.mono U)⟩⟩
 case stop=>
  exact λ_ _ _ _ _ _ h _=>h.elim
 case done=>
  rintro D W hD ⟨Av,Am,As,E1,E0,E,H,A0,hv⟩ hK;have zW:=bz E;refine I ?_;have ES:=hv.dfr hK;rw[Gq _ _ h2.len,h2.val]at ES;exact Np (t:=4) (v:=.slice Av Am As) hK Z E U ⟨Av,Am,As,rfl,ES.mono U⟩ Z
end Go.Proofs.YtlmihmlnpjkblaaGreatDoor
def aO (x y:Int):Int:=if x<y then -1 else if x=y then 0 else 1
def fV {x y:Int}(h:x<y):aO x y=-1:=by simp[aO,h]
def eL {x y:Int}(h:y<x):aO x y=1:=by
 unfold aO;rw[if_neg J,if_neg J]
def jr {x y:Int}(h:x=y):aO x y=0:=by
 unfold aO;rw[if_neg J,if_pos h]
def oc {x y u v:Int}(h1:x<y↔u<v)(h2:x=y↔u=v):aO x y=aO u v:=by
 unfold aO;simp only[h1,h2]
def NY {a b:Nat}(h:(ap 10000 a).length≠(ap 10000 b).length):aO (((ap 10000 a).length:Nat):Int) (((ap 10000 b).length:Nat):Int)=aO (a:Int) (b:Int):=by
 have h1:=@ep 10000 J a b
 have h2:=@ep 10000 J b a
 refine oc ⟨λk=>?_,λk=>?_⟩ ⟨λk=>?_,λk=>?_⟩
 · omega
 · omega
 · omega
 · have:a=b:=J
   subst this;rfl
def nD {n j:Nat}(h:j<n):(List.range n).reverse[j]?=some (n-1-j):=by
 rw[List.getElem?_reverse ka5,List.length_range,List.getElem?_range J]
def TA {p:List Nat}{x n:Nat}(h:p++[x] <+: (List.range n).reverse):x<n/\x=n-1-p.length/\p.length<n/\∀i,x<i->i<n->i∈p:=by
 have hl:p.length<n:=by have:=h.length_le;simp at this;omega
 have hx:(List.range n).reverse[p.length]?=some x:=by
  obtain⟨t,ht⟩:=h
  rw[<-ht];simp
 rw[nD hl]at hx
 have hx:n-1-p.length=x:=by simpa using hx
 refine⟨by omega,by omega,hl,λi _ _=>?_⟩
 have E:n-1-i<p.length:=J
 have:(List.range n).reverse[n-1-i]?=p[n-1-i]?:=by
  obtain⟨t,ht⟩:=h
  rw[<-ht,List.append_assoc,List.getElem?_append_left E]
 rw[nD J]at this
 have h3:n-1-(n-1-i)=i:=J
 rw[h3]at this
 exact qb0 this.symm
def wv (xs:List Nat){x:Nat}(h:x<xs.length):bP 10000 xs=bP 10000 (xs.take x)+10000^x*(xs.getD x 0+10000*bP 10000 (xs.drop (x+1))):=by
 have h1:xs=xs.take x++(xs.getD x 0::xs.drop (x+1)):=by
  have:xs.getD x 0=xs[x]:=by simp[h]
  rw[this,List.getElem_cons_drop,List.take_append_drop]
 conv=>lhs;rw[h1]
 rw[b9]
 have hl:(xs.take x).length=x:=by simp;omega
 rw[hl];rfl
def TB {xs ys p:List Nat}{x n:Nat}(hx:∀d∈xs,d<10000)(hy:∀d∈ys,d<10000)(hn:xs.length=n)(hm:ys.length=n)(hp:p++[x] <+: (List.range n).reverse)(he:∀i∈p,xs.getD i 0=ys.getD i 0)(hne:xs.getD x 0≠ys.getD x 0):
 aO ((xs.getD x 0:Nat):Int) ((ys.getD x 0:Nat):Int)=aO ((bP 10000 xs:Nat):Int) ((bP 10000 ys:Nat):Int):=by
 obtain⟨h1,-,-,h2⟩:=TA hp
 have hd:xs.drop (x+1)=ys.drop (x+1):=by
  apply List.ext_getElem
  · simp[hn,hm]
  · intro i h3 _
    have h3':x+1+i<xs.length:=by simp at h3;omega
    have h4':x+1+i<ys.length:=J
    have:=he _ (h2 (x+1+i) J J)
    simpa[h3',h4']using this
 rw[wv xs (x:=x) J,wv ys (x:=x) J,hd]
 have E:=lh 10000 (xs.take x) (λd hd=>hx d (List.mem_of_mem_take hd))
 have H:=lh 10000 (ys.take x) (λd hd=>hy d (List.mem_of_mem_take hd))
 have A0:(xs.take x).length=x:=by simp;omega
 have O:(ys.take x).length=x:=by simp;omega
 rw[A0]at E;rw[O]at H
 generalize bP 10000 (xs.take x)=s at *
 generalize bP 10000 (ys.take x)=t at *
 generalize bP 10000 (ys.drop (x+1))=u at *
 generalize xs.getD x 0=a at *
 generalize ys.getD x 0=b at *
 generalize 10000^x=B at *
 have key:∀s t a b:Nat,s<B->t<B->a<b->s+B*(a+10000*u)<t+B*(b+10000*u):=by
  intro s t a b _ _ _
  have:B*(a+10000*u)+B<=B*(b+10000*u):=by
   rw[<-Nat.mul_succ];exact Nat.mul_le_mul_left _ J
  omega
 rcases Nat.lt_or_gt_of_ne hne with h|h
 · rw[fV J,fV (by have:=key s t a b E H h;omega)]
 · rw[eL J,eL (by have:=key t s b a H E h;omega)]
def NZ {a b n:Nat}(hn:(ap 10000 a).length=n)(hm:(ap 10000 b).length=n)(he:∀i∈(List.range n).reverse,(ap 10000 a).getD i 0=(ap 10000 b).getD i 0):a=b:=by
 have:ap 10000 a=ap 10000 b:=by
  apply List.ext_getElem
  · omega
  · intro i h1 h2
    have:=he i j0
    simpa[h1,h2]using this
 have h3:=qb2 (bP 10000) this
 rwa [cG 10000 J,cG 10000 J]at h3
namespace Go.Proofs.YtlmihmlnpjkblaaGreatDoor
variable {A1 A2:Option Addr}
set_option maxRecDepth 100000
open Go Go.Eng Go.RowKit Tryz
attribute [local irreducible] wpListIn Code.wpIn Oper.wpIn Exit.then Exit.inBlock Exit.noGoto
set_option maxHeartbeats 40000000
def Jh (x y:Int)(w:World):CL 171 #[.int .i64 x,.int .i64 y] w (aI w λv _=>v=.int .i64 (aO x y)):=by
 by_cases h:x<y
 · rw[fV h];exact Ty x y h w
 · by_cases h2:x=y
   · rw[jr h2];exact cmp_eq x y h2 w
   · rw[eL U];exact Tz x y U w
def jH {n1 c1 a1 lo1:Nat}{w:World}(h1:ee w lo1 A1 n1 c1 a1)(s1:n1<=100000){n2 c2 a2 lo2:Nat}(h2:ee w lo2 A2 n2 c2 a2):
 CL 125 #[.slice A1 n1 c1,.slice A2 n2 c2] w (aI w λv w'=>v=.int .i64 (aO (a1:Int) (a2:Int))):=by
 by_cases C1:n1=n2;refine rx func125 Z (I ?_);refine bx (λAw E9 O=>?_);have E4:=E9.2;refine al kB (λAy D1 H=>?_);have⟨O,E4⟩:=bn D1.2 O E4;refine I ?_;refine cl D3 (j4 (A:=A1) (n:=n1) (c:=c1)) ?_;rintro _ Ao E6 ⟨rfl,E5⟩;have⟨O,H,E4⟩:=cj E6.2 O H E4;refine I ?_;refine sF (m:=n1) (enc:=λx=>[.int .i64 x,.int .i64 (((ap 10000 a1).getD x 0:Nat):Int)]) (order:=(List.range n1).reverse) (Kq:=λW=>ao W Ay.heap.size 159 #[.slice A1 n1 c1]/\Rw W lo1 A1 (ints (ap 10000 a1))) (gf:=207) (lb:=[pT Ay.heap.size]) (ps:=[19,20]) Z D6 (iR E5 (h1.row.ext E4) h1.len U) (λW W' row hq A0 hr=>⟨ad6 A0 hr hq.1,Rw.cel A0 hr hq.2⟩) (λ_=>rfl) [5,6] (λx=>[.int .i64 x,.int .i64 (((ap 10000 a1).getD x 0:Nat):Int)]) ?asn (λpre W=>(∀i∈pre,(ap 10000 a1).getD i 0=(ap 10000 a2).getD i 0)/\(Ao.heap.size<=W.heap.size)/\(aP w W)/\(ao W w.heap.size 159 #[.slice A2 n2 c2])/\(ao W Aw.heap.size 3 #[.int .i64 (0)])) (λc pre W=>c=.ret/\∃p x,pre=p++[x]/\(∀i∈p,(ap 10000 a1).getD i 0=(ap 10000 a2).getD i 0)/\(ap 10000 a1).getD x 0≠(ap 10000 a2).getD x 0/\(Ao.heap.size<=W.heap.size)/\(aP w W)/\(ao W Aw.heap.size 3 #[.int .i64 (aO (((ap 10000 a1).getD x 0:Nat):Int) (((ap 10000 a2).getD x 0:Nat):Int))])) ?hI ?hIx ?h0 ?body ?done ?stop;case asn=>
  intro l x W K hK;refine I ?_;exact hK
 case hI=>
  rintro pre W W' row ⟨Ab,Af,E,O,H⟩ A0 hr;exact⟨Ab,qa8 Af A0.size,oX (B:=Ao.heap.size) U A0 hr (bz E) E,ad6 A0 hr O,ad6 A0 hr H⟩
 case hIx=>
  rintro c pre W W' row ⟨rfl,p,x,rfl,Ab,Av,Af,E,H⟩ A0 hr;exact⟨rfl,p,x,rfl,Ab,Av,qa8 Af A0.size,oX (B:=Ao.heap.size) U A0 hr (bz E) E,ad6 A0 hr H⟩
 case h0=>
  exact⟨JT,Nat.le_refl _,E4,O,H⟩
 case body=>
  rintro l pre x W ⟨Ab,Af,E,O,H⟩ EW hx C1;have Kp:=eF.refl [Aw.heap.size] W;have zW:=bz E;have Az:=ae2 H;obtain⟨_,o,hA,hc⟩:=(h2.row.ext E).cells x _ (bF (xs:=(ap 10000 a2)) kc9);by_cases hne:(((ap 10000 a1).getD x 0:Nat):Int)=(((ap 10000 a2).getD x 0:Nat):Int);refine I ?_;refine aa (aD (i:=x) (oo:=o+x) gV ie Z hA Z U U ?_);refine aa (bE (v:=.int .i64 (((ap 10000 a2).getD x 0:Nat):Int)) U3 Z Z hc ?_);refine I ?_;exact⟨Kp.others kc1,λhq=>⟨Kp.blk j0 hq.1,Kp.rw (λD2 e=>by have:=h1.hi D2 e;simp;omega) hq.2⟩,⟨(λi hi=>by rcases List.mem_append.1 hi with h|h;exact Ab i h;rw[List.mem_singleton.1 h];omega),U,E,O,H⟩⟩;refine I ?_;refine aa (aD (i:=x) (oo:=o+x) gV ie Z hA Z U U ?_);refine aa (bE (v:=.int .i64 (((ap 10000 a2).getD x 0:Nat):Int)) U3 Z Z hc ?_);refine I ?_;refine aa (aD (i:=x) (oo:=o+x) gV ie Z hA Z U U ?_);refine aa (bE (v:=.int .i64 (((ap 10000 a2).getD x 0:Nat):Int)) U3 Z Z hc ?_);refine cl QF (Jh _ _ _) ?_;rintro _ _ Ap rfl;have O:=be Ap.2 O;have H:=be Ap.2 H;have E:=xt E Ap.2
  have Kp:=ad7 Kp Ap.2;refine SO H (λ_ Aq CG=>?_);have O:=pb Aq O;have E:=bh Aq E;have Kp:=ad9 Kp Aq Nd;have ES:=iQ Aq;refine I ?_;exact⟨Kp.others kc1,rfl,pre,x,rfl,Ab,U,U,E,CG⟩
 case stop=>
  rintro D c pre W hD E7 ⟨rfl,p,x,rfl,Ab,Av,Af,E,H⟩ hK;have zW:=bz E;have B0:=TB h1.lt h2.lt h1.len (h2.len.trans U) E7 Ab Av;rw[h1.val,h2.val]at B0;refine I ?_;exact jG (v:=.int .i64 (aO (((ap 10000 a1).getD x 0:Nat):Int) (((ap 10000 a2).getD x 0:Nat):Int))) hK (bY Z (bu U3 Z Z (ab3 (H.dfr hK) Z))) ((dG _).low E U) (by rw[B0])
 case done=>
  rintro D W hD ⟨Ab,Af,E,O,H⟩ hK;have zW:=bz E;refine I ?_;refine SO H (λ_ Ar Cr=>?_);have O:=pb Ar O;have hK:=ac8 Ar (hK.ne H) hK;have E:=bh Ar E;refine I ?_;exact jG (v:=.int .i64 0) hK (bY Z (bu U3 Z Z (ab3 (Cr.dfr hK) Z))) ((dG _).low E U) (by rw[jr (by have:=NZ h1.len (h2.len.trans U) Ab;omega)])
 refine rx func125 Z (I ?_);refine bx (λ_ CB Am=>?_);have E24:=CB.2;refine al kB (λ_ CY As=>?_);have⟨Am,E24⟩:=bn CY.2 Am E24;refine I ?_;refine cl QF (Jh _ _ _) ?_;rintro _ _ E0 rfl;have⟨Am,As,E24⟩:=cj E0.2 Am As E24;refine SO As (λ_ Ax E1=>?_);have Am:=pb Ax Am;have E24:=bh Ax E24;refine I ?_;exact xD (v:=.int .i64 (aO (n1:Int) (n2:Int))) (bY Z (bu U3 Z Z (ab3 E1 Z))) E24 (by have:=NY (a:=a1) (b:=a2) (by rw[h1.len,h2.len];omega);rw[h1.len,h2.len]at this;rw[this])
end Go.Proofs.YtlmihmlnpjkblaaGreatDoor
