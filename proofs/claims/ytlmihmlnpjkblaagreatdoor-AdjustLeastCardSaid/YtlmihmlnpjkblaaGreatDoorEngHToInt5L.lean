/- Part of the proof of a statement about an adjustment. -/
import Derived.Test.YtlmihmlnpjkblaaGreatDoorEngJToEngNL
set_option linter.all false
namespace Go.Proofs.YtlmihmlnpjkblaaGreatDoor
open Go Go.Eng Go.RowKit Tryz
variable {xs:Array Operand}{ats:Array TypeId}{cs:Array Value}{X q:Bool}{f:FuncId}{l:List (Nat×Nat)}{vs lb:List Value}{b B n M k off o j s d k' el size bytes:Nat}{sel:Nat->Bool}{e e1 e':Nat->Value}{p G G':Prop}{t tb:TypeId}{u v1 v2 v3 v4 v:Value}{K:Value->World->Prop}{w w' w0:World}
def ef (h:p:=by assumption):p:=h
def U (h:p:=by omega):p:=h
def dc (h:p:=by decide):p:=h
def xt {a b c:World}(h:aO a b)(k:aO b c):aO a c:=aO.trans h k
def be (k:aO w w')(h:ap w b t cs):ap w' b t cs:=ac9 k h
def pb {c:Nat}(k:eE w w' b)(h:ap w c t cs)(hne:c≠b:=by omega):ap w' c t cs:=ab0 k hne h
def bi (k:eE w w' b)(h:Below B w0 w)(hb:B<=b:=by omega):Below B w0 w':=ad1 k h hb
def bz (h:Below n w w'):w.heap.size<=w'.heap.size:=Below.size h
def iM (k:eE w w' b):w'.heap.size=w.heap.size:=eE.size k
def bt (h:ap w b t cs):b<w.heap.size:=ap.lt h
section
variable {a:World}{p:Nat}{b1 b2 b3 b4 b5:Nat}{t1 t2 t3 t4 t5:TypeId}{c1 c2 c3 c4 c5:Array Value}
def bn (k:aO w w')(h1:ap w b1 t1 c1)(E:aO a w):ap w' b1 t1 c1/\aO a w':=⟨be k h1,xt E k⟩
def kt (k:eE w w' p)(h1:ap w b1 t1 c1)(E:Below B a w)(n1:b1≠p:=by omega)(hb:B<=p:=by omega):ap w' b1 t1 c1/\Below B a w'/\w'.heap.size=w.heap.size:=⟨ab0 k n1 h1,ad1 k E hb,eE.size k⟩
def cj (k:aO w w')(h1:ap w b1 t1 c1)(h2:ap w b2 t2 c2)(E:aO a w):ap w' b1 t1 c1/\ap w' b2 t2 c2/\aO a w':=⟨be k h1,be k h2,xt E k⟩
def dZ (k:aO w w')(h1:ap w b1 t1 c1)(h2:ap w b2 t2 c2):ap w' b1 t1 c1/\ap w' b2 t2 c2:=⟨be k h1,be k h2⟩
def Td (k:eE w w' p)(h1:ap w b1 t1 c1)(h2:ap w b2 t2 c2)(E:Below B a w)(n1:b1≠p:=by omega)(n2:b2≠p:=by omega)(hb:B<=p:=by omega):ap w' b1 t1 c1/\ap w' b2 t2 c2/\Below B a w'/\w'.heap.size=w.heap.size:=⟨ab0 k n1 h1,ab0 k n2 h2,ad1 k E hb,eE.size k⟩
def jU (k:eE w w' p)(h1:ap w b1 t1 c1)(h2:ap w b2 t2 c2)(n1:b1≠p:=by omega)(n2:b2≠p:=by omega):ap w' b1 t1 c1/\ap w' b2 t2 c2:=⟨ab0 k n1 h1,ab0 k n2 h2⟩
def fo (k:aO w w')(h1:ap w b1 t1 c1)(h2:ap w b2 t2 c2)(h3:ap w b3 t3 c3)(E:aO a w):ap w' b1 t1 c1/\ap w' b2 t2 c2/\ap w' b3 t3 c3/\aO a w':=⟨be k h1,be k h2,be k h3,xt E k⟩
def wl (k:aO w w')(h1:ap w b1 t1 c1)(h2:ap w b2 t2 c2)(h3:ap w b3 t3 c3):ap w' b1 t1 c1/\ap w' b2 t2 c2/\ap w' b3 t3 c3:=⟨be k h1,be k h2,be k h3⟩
def QW (k:eE w w' p)(h1:ap w b1 t1 c1)(h2:ap w b2 t2 c2)(h3:ap w b3 t3 c3)(E:Below B a w)(n1:b1≠p:=by omega)(n2:b2≠p:=by omega)(n3:b3≠p:=by omega)(hb:B<=p:=by omega):ap w' b1 t1 c1/\ap w' b2 t2 c2/\ap w' b3 t3 c3/\Below B a w'/\w'.heap.size=w.heap.size:=⟨ab0 k n1 h1,ab0 k n2 h2,ab0 k n3 h3,ad1 k E hb,eE.size k⟩
def p0 (k:eE w w' p)(h1:ap w b1 t1 c1)(h2:ap w b2 t2 c2)(h3:ap w b3 t3 c3)(n1:b1≠p:=by omega)(n2:b2≠p:=by omega)(n3:b3≠p:=by omega):ap w' b1 t1 c1/\ap w' b2 t2 c2/\ap w' b3 t3 c3:=⟨ab0 k n1 h1,ab0 k n2 h2,ab0 k n3 h3⟩
def ku (k:aO w w')(h1:ap w b1 t1 c1)(h2:ap w b2 t2 c2)(h3:ap w b3 t3 c3)(h4:ap w b4 t4 c4)(E:aO a w):ap w' b1 t1 c1/\ap w' b2 t2 c2/\ap w' b3 t3 c3/\ap w' b4 t4 c4/\aO a w':=⟨be k h1,be k h2,be k h3,be k h4,xt E k⟩
def bf4 (k:aO w w')(h1:ap w b1 t1 c1)(h2:ap w b2 t2 c2)(h3:ap w b3 t3 c3)(h4:ap w b4 t4 c4):ap w' b1 t1 c1/\ap w' b2 t2 c2/\ap w' b3 t3 c3/\ap w' b4 t4 c4:=⟨be k h1,be k h2,be k h3,be k h4⟩
def QX (k:eE w w' p)(h1:ap w b1 t1 c1)(h2:ap w b2 t2 c2)(h3:ap w b3 t3 c3)(h4:ap w b4 t4 c4)(E:Below B a w)(n1:b1≠p:=by omega)(n2:b2≠p:=by omega)(n3:b3≠p:=by omega)(n4:b4≠p:=by omega)(hb:B<=p:=by omega):ap w' b1 t1 c1/\ap w' b2 t2 c2/\ap w' b3 t3 c3/\ap w' b4 t4 c4/\Below B a w'/\w'.heap.size=w.heap.size:=⟨ab0 k n1 h1,ab0 k n2 h2,ab0 k n3 h3,ab0 k n4 h4,ad1 k E hb,eE.size k⟩
def pf4 (k:eE w w' p)(h1:ap w b1 t1 c1)(h2:ap w b2 t2 c2)(h3:ap w b3 t3 c3)(h4:ap w b4 t4 c4)(n1:b1≠p:=by omega)(n2:b2≠p:=by omega)(n3:b3≠p:=by omega)(n4:b4≠p:=by omega):ap w' b1 t1 c1/\ap w' b2 t2 c2/\ap w' b3 t3 c3/\ap w' b4 t4 c4:=⟨ab0 k n1 h1,ab0 k n2 h2,ab0 k n3 h3,ab0 k n4 h4⟩
def I1 (k:aO w w')(h1:ap w b1 t1 c1)(h2:ap w b2 t2 c2)(h3:ap w b3 t3 c3)(h4:ap w b4 t4 c4)(h5:ap w b5 t5 c5)(E:aO a w):ap w' b1 t1 c1/\ap w' b2 t2 c2/\ap w' b3 t3 c3/\ap w' b4 t4 c4/\ap w' b5 t5 c5/\aO a w':=⟨be k h1,be k h2,be k h3,be k h4,be k h5,xt E k⟩
def oF (k:aO w w')(h1:ap w b1 t1 c1)(h2:ap w b2 t2 c2)(h3:ap w b3 t3 c3)(h4:ap w b4 t4 c4)(h5:ap w b5 t5 c5):ap w' b1 t1 c1/\ap w' b2 t2 c2/\ap w' b3 t3 c3/\ap w' b4 t4 c4/\ap w' b5 t5 c5:=⟨be k h1,be k h2,be k h3,be k h4,be k h5⟩
def Vp (k:eE w w' p)(h1:ap w b1 t1 c1)(h2:ap w b2 t2 c2)(h3:ap w b3 t3 c3)(h4:ap w b4 t4 c4)(h5:ap w b5 t5 c5)(E:Below B a w)(n1:b1≠p:=by omega)(n2:b2≠p:=by omega)(n3:b3≠p:=by omega)(n4:b4≠p:=by omega)(n5:b5≠p:=by omega)(hb:B<=p:=by omega):ap w' b1 t1 c1/\ap w' b2 t2 c2/\ap w' b3 t3 c3/\ap w' b4 t4 c4/\ap w' b5 t5 c5/\Below B a w'/\w'.heap.size=w.heap.size:=⟨ab0 k n1 h1,ab0 k n2 h2,ab0 k n3 h3,ab0 k n4 h4,ab0 k n5 h5,ad1 k E hb,eE.size k⟩
def yV (k:eE w w' p)(h1:ap w b1 t1 c1)(h2:ap w b2 t2 c2)(h3:ap w b3 t3 c3)(h4:ap w b4 t4 c4)(h5:ap w b5 t5 c5)(n1:b1≠p:=by omega)(n2:b2≠p:=by omega)(n3:b3≠p:=by omega)(n4:b4≠p:=by omega)(n5:b5≠p:=by omega):ap w' b1 t1 c1/\ap w' b2 t2 c2/\ap w' b3 t3 c3/\ap w' b4 t4 c4/\ap w' b5 t5 c5:=⟨ab0 k n1 h1,ab0 k n2 h2,ab0 k n3 h3,ab0 k n4 h4,ab0 k n5 h5⟩
end
abbrev pT (b:Nat):Value:=.pointer (some ⟨b,0,none⟩)
abbrev CL:=Calls prog
section draws
variable {P:Program}{r:Option Nat}{N:Nat}{e0:Nat->Value}{ds:List Deferred}{Q:Exit->Act->World->Prop}{l:List Oper}{Φ:List Ph}{R:World->World->Prop}{k6:(Nat->Bool)->(Nat->Value)->World->Prop}
def sj (Q:Exit->Act->World->Prop)(r:Option Nat)(n:Nat)(P:Program)(N:Nat)(ds:List Deferred)(l:List Oper)(M:Nat)(R:World->World->Prop)(k6:(Nat->Bool)->(Nat->Value)->World->Prop)(e0:Nat->Value)(w0:World)(Fin:List Ph->Prop):Nat->List Ph->List Oper->Prop
 |_,acc,[]=>Fin acc.reverse
 |i,acc,o::os=>∃φ,(zu R φ/\∀(e:Nat->Value) (w:World) (ls:Nat->Bool),R w0 w->k6 ls e w->(∀j k,ca l j k=true->ls j=true->ls k=true)->ls i=false->(∀k,ca l i k=true->ls k=true)->(∀j d,b6 o j=true->cX l j=some d->tG acc.reverse j (e d) w)->
  wpListIn (Fw r) n P l.toArray (IY Q N ds R k6 w ls i φ o e (fr l M acc.reverse (b6 o) e e0)) [o] (act N (fr l M acc.reverse (b6 o) e e0) ds) w)/\sj Q r n P N ds l M R k6 e0 w0 Fin (i+1) (φ::acc) os
def Ee:∀(Φ Ψ:List Ph) (j:Nat) (x:Value),j<Φ.length->Wq (Φ++Ψ) j x=Wq Φ j x
 |[],_,_,_,h=>by simp at h
 |_::_,_,0,_,_=>rfl
 |_::Φ,Ψ,j+1,x,h=>Ee Φ Ψ j x ka6
def Ef:∀(Φ Ψ:List Ph) (j:Nat) (x:Value) (w:World),j<Φ.length->tG (Φ++Ψ) j x w=tG Φ j x w
 |[],_,_,_,_,h=>by simp at h
 |_::_,_,0,_,_,_=>rfl
 |_::Φ,Ψ,j+1,x,w,h=>Ef Φ Ψ j x w ka6
def Te {Ψ:List Ph}(h:∀j,sel j=true->j<Φ.length):fr l M (Φ++Ψ) sel e e0=fr l M Φ sel e e0:=by
 funext t
 unfold fr
 split
 · rfl
 · split
   · rename_i hq;exact Ee _ _ _ _ (h _ hq)
   · rfl
def xH {Fin:List Ph->Prop}:∀(os:List Oper) (i:Nat) (acc:List Ph),acc.length=i->(∀k o,os[k]?=some o->∀j,b6 o j=true->j<i+k)->sj Q r n P N ds l M R k6 e0 w0 Fin i acc os->
 ∃φs,Yw Q r n P N ds l M (acc.reverse++φs) R k6 e0 w0 i os φs/\Fin (acc.reverse++φs)
 |[],i,acc,_,_,h=>⟨[],trivial,by simpa[sj]using h⟩
 | o::os,i,acc,hl,hp,⟨φ,⟨h1,h2⟩,h3⟩=>by
   obtain⟨φs,h4,h5⟩:=xH os (i+1) (φ::acc) (by simp[hl]) (λk o' ho j E=>by have:=hp (k+1) o' Fk j E;omega) h3
   rw[List.reverse_cons,List.append_assoc]at h4 h5
   have H:∀j,b6 o j=true->j<acc.reverse.length:=λj E=>by have:=hp 0 o Z j E;simp;omega
   refine⟨φ::φs,⟨⟨h1,λe w ls a1 A1 A2 W O A0=>?_⟩,h4⟩,h5⟩
   rw[Te H]
   exact h2 e w ls a1 A1 A2 W O (λj d E hd=>by have:=A0 j d E hd;rwa [Ef _ _ _ _ _ (H j E)]at this)
def Eg {l:List Oper}(hwf:MV l=true):∀k o,(l.take M)[k]?=some o->∀j,b6 o j=true->j<0+k:=by
 intro i o ho j H
 have E:l[i]?=some o:=by
  rw[List.getElem?_take]at ho
  split at ho
  · exact ho
  · cases ho
 obtain⟨O,W,hb⟩:=List.any_eq_true.1 H
 simp only[Bool.and_eq_true]at hb
 have A0:=qb4 hb.2
 have h1:=List.all_eq_true.1 hwf i (List.mem_range.2 (List.getElem?_eq_some_iff.1 E).1)
 rw[E]at h1
 have h2:=List.all_eq_true.1 h1 O kc3
 simp only[hb.1,Bool.not_true,Bool.false_or]at h2
 rw[Nat.blt_eq]at h2
 omega
abbrev Tf (w w':World):Prop:=w.heap.size<=w'.heap.size/\aO w w'
def Vq (h:aO w w'):Tf w w':=⟨Below.size h,h⟩
def All (l:List Oper)(M:Nat):List Ph->(Nat->Value)->World->Prop:=λΦ e w=>∀j d,Nat.blt j M=true->cX l j=some d->tG Φ j (e d) w
def bL {id:Nat}(M:Nat)(h:sj Q r n prog N ds l M aO (λ_ _ _=>True) e0 w0 (λΦ=>∀e w,Tf w0 w->All l M Φ e w->wpListIn (Fw r) n prog l.toArray Q (l.drop M) (act N (fr l M Φ (λj=>Nat.blt j M) e e0) ds) w) 0 [] (l.take M))(hwf:MV l=true:=by kernel_rfl)(hsh:iq l M=true:=by kernel_rfl)(hds:H0 l M=true:=by kernel_rfl):(Code.region id l.toArray true).wpIn (Fw r) n prog Q (act N e0 ds) w0:=by
 obtain⟨Φ,h1,h2⟩:=xH _ 0 [] Z (Eg hwf) h
 exact QQ (Φ:=Φ) tm (ac3 _) (λ_ _ _=>aO.trans) trivial hwf hsh hds h1 (λe w ls a1 _ _ E=>h2 e w (Vq a1) E)
def xI {id:Nat}(M:Nat)(k6:(Nat->Bool)->(Nat->Value)->World->Prop)(hJ:k6 (λ_=>false) e0 w0.drew)(h:sj Q r n prog N ds l M (λ_ _=>True) k6 e0 w0 (λΦ=>∀e w ls,(∀j,Nat.blt j M=true->ls j=true)->k6 ls e w->wpListIn (Fw r) n prog l.toArray Q (l.drop M) (act N (fr l M Φ (λj=>Nat.blt j M) e e0) ds) w) 0 [] (l.take M))(hwf:MV l=true:=by kernel_rfl)(hsh:iq l M=true:=by kernel_rfl)(hds:H0 l M=true:=by kernel_rfl):(Code.region id l.toArray true).wpIn (Fw r) n prog Q (act N e0 ds) w0:=by
 obtain⟨Φ,h1,h2⟩:=xH _ 0 [] Z (Eg hwf) h
 exact QQ (Φ:=Φ) tm trivial (λ_ _ _ _ _=>trivial) hJ hwf hsh hds h1 (λe w ls _ E a1 _=>h2 e w ls a1 E)
end draws
def nA (P:Program)(t:TypeId)(k off:Nat):Prop:=∃fs f m,P.underlying t=some (.struct fs)/\fs[k]?=some f/\f.offset=off/\(P.info? f.type).map (·.size)=some (m+1)
def cW {P:Program}{fs:Array Field}{f:Field}{m:Nat}(hu:P.underlying t=some (.struct fs))(hf:fs[k]?=some f)(ho:f.offset=off)(hs:(P.info? f.type).map (·.size)=some (m+1)):nA P t k off:=⟨fs,f,m,hu,hf,ho,hs⟩
def Tg:nA prog 161 0 0:=cW underlying161 Z Z Yv
def Ti:nA prog 161 1 1:=cW underlying161 Z Z mg
def Tj:nA prog 75 0 0:=cW underlying75 Z Z Yv
def Wu:nA prog 33 0 0:=cW underlying33 Z Z Vo
def Wv:nA prog 33 1 1:=cW underlying33 Z Z Vo
def Ww:nA prog 103 0 0:=cW underlying103 Z Z R3
def Wx:nA prog 103 1 1:=cW underlying103 Z Z lU
def Wy:nA prog 103 2 2:=cW underlying103 Z Z BD
def Wz:nA prog 103 3 3:=cW underlying103 Z Z Yv
def Nq:nA prog 144 0 0:=cW underlying144 Z Z bX
def Nr:nA prog 144 1 2:=cW underlying144 Z Z bX
def Ns:nA prog 187 0 0:=cW underlying187 Z Z bX
def Nt:nA prog 187 1 2:=cW underlying187 Z Z bX
def Nu:nA prog 187 2 4:=cW underlying187 Z Z bX
def Nv:nA prog 187 3 6:=cW underlying187 Z Z bX
def Nw:nA prog 187 4 8:=cW underlying187 Z Z H1
def Nx:nA prog 189 0 0:=cW underlying189 Z Z iT
def Ny:nA prog 189 1 1:=cW underlying189 Z Z Vo
def Nz:nA prog 191 0 0:=cW underlying191 Z Z Vo
def NA:nA prog 191 1 1:=cW underlying191 Z Z Vo
def NB:nA prog 30 0 0:=cW underlying30 Z Z y0
def NC:nA prog 30 1 1:=cW underlying30 Z Z lU
def ND:nA prog 30 2 2:=cW underlying30 Z Z y0
def NE:nA prog 82 0 0:=cW underlying82 Z Z bj
def NF:nA prog 86 0 0:=cW underlying86 Z Z bX
def NG:nA prog 86 1 2:=cW underlying86 Z Z iT
def NH:nA prog 40 0 0:=cW underlying40 Z Z lU
def NI:nA prog 40 1 1:=cW underlying40 Z Z y0
def NJ:nA prog 40 2 2:=cW underlying40 Z Z bX
def NK:nA prog 40 3 4:=cW underlying40 Z Z iT
def I2 (P:Program)(t el:TypeId)(z:Value)(size bytes:Nat):Prop:=P.underlying t=some (.slice el)/\gp P el z size bytes/\z.cells.size=size/\0<size
def Tk:I2 prog 27 28 (.slice none 0 0) 1 24:=⟨underlying27,jB,rfl,by decide⟩
def Tl:I2 prog 101 28 (.slice none 0 0) 1 24:=⟨underlying101,jB,rfl,by decide⟩
def Cp:I2 prog 109 28 (.slice none 0 0) 1 24:=⟨underlying109,jB,rfl,by decide⟩
def Cq:I2 prog 278 144 (.agg #[S [],S [],S [],S []]) 4 64:=⟨underlying278,dQ,rfl,by decide⟩
def Tm:I2 prog 28 33 (.agg #[S [],S []]) 2 32:=⟨underlying28,aS,rfl,by decide⟩
def Tn:I2 prog 22 3 (.int .i64 0) 1 8:=⟨underlying22,k7,rfl,by decide⟩
def I3:I2 prog 159 3 (.int .i64 0) 1 8:=⟨underlying159,k7,rfl,by decide⟩
def I4:I2 prog 206 5 (.int .u8 0) 1 1:=⟨underlying206,YG,rfl,by decide⟩
def MW (P:Program)(t:TypeId)(cs:Array Value):Prop:=∃(fs:Array Field) (z:Value) (size bytes:Nat) (pl:List (Nat×Nat)),P.underlying t=some (.struct fs)/\gp P t z size bytes/\fs.toList.map (λf=>(f.offset,(P.info? f.type).map (·.size)))=pl.map (λp:Nat×Nat=>(p.1,some p.2))/\Instr.fill (pl.toArray[·]?) z.cells []=some cs
def Y9:MW prog 33 #[S [],S []]:=⟨_,_,_,_,[(0,1),(1,1)],underlying33,aS,by kernel_rfl,by kernel_rfl⟩
def Za:MW prog 106 #[]:=⟨_,_,_,_,[],underlying106,VD,by kernel_rfl,by kernel_rfl⟩
def To:MW prog 144 #[S [],S [],S [],S []]:=⟨_,_,_,_,[(0,2),(2,2)],underlying144,dQ,by kernel_rfl,by kernel_rfl⟩
def Tp:MW prog 30 #[.slice none 0 0,.slice none 0 0,.slice none 0 0]:=⟨_,_,_,_,[(0,1),(1,1),(2,1)],underlying30,ee,by kernel_rfl,by kernel_rfl⟩
def Tq:MW prog 82 #[.slice none 0 0,.slice none 0 0,.slice none 0 0]:=⟨_,_,_,_,[(0,3)],underlying82,oQ,by kernel_rfl,by kernel_rfl⟩
def Tr:MW prog 86 #[S [],S [],.int .i64 0]:=⟨_,_,_,_,[(0,2),(2,1)],underlying86,sd,by kernel_rfl,by kernel_rfl⟩
def Ts:MW prog 40 #[.slice none 0 0,.slice none 0 0,S [],S [],.int .i64 0]:=⟨_,_,_,_,[(0,1),(1,1),(2,2),(4,1)],underlying40,dN,by kernel_rfl,by kernel_rfl⟩
def WA:MW prog 161 #[.bool false,.slice none 0 0]:=⟨_,_,_,_,[(0,1),(1,1)],underlying161,bG,by kernel_rfl,by kernel_rfl⟩
def WB:MW prog 75 #[.bool false]:=⟨_,_,_,_,[(0,1)],underlying75,BC,by kernel_rfl,by kernel_rfl⟩
def WC (P:Program)(t:TypeId):Prop:=∃fs z size bytes,P.underlying t=some (.struct fs)/\gp P t z size bytes/\fs.toList.map (λf=>(f.offset,(P.info? f.type).map (·.size)))=[(0,some 1),(1,some 1)]/\∀u v:Value,u.cells=#[u]->v.cells=#[v]->Instr.fill ([(0,1),(1,1)].toArray[·]?) z.cells [(0,u),(1,v)]=some #[u,v]
def Zb:WC prog 33:=⟨_,_,_,_,underlying33,aS,by kernel_rfl,λu v hu hv=>by show Instr.fill _ #[S [],S []] _=_;simp[Instr.fill,hu,hv]⟩
def Tt:WC prog 191:=⟨_,_,_,_,underlying191,bM,by kernel_rfl,λu v hu hv=>by show Instr.fill _ #[S [],S []] _=_;simp[Instr.fill,hu,hv]⟩
def Tu:WC prog 189:=⟨_,_,_,_,underlying189,oP,by kernel_rfl,λu v hu hv=>by show Instr.fill _ #[.int .i64 0,S []] _=_;simp[Instr.fill,hu,hv]⟩
def WE:WC prog 161:=⟨_,_,_,_,underlying161,bG,by kernel_rfl,λu v hu hv=>by show Instr.fill _ #[.bool false,.slice none 0 0] _=_;simp[Instr.fill,hu,hv]⟩
section ops
variable {P:Program}{r:Option Nat}{N:Nat}{ds:List Deferred}{Q:Exit->Act->World->Prop}{K:Act->World->Prop}{a:Act}
variable {ops:Array Oper}{rest:List Oper}{dst:Option Tmp}{op:Op}{ty:Nat}{pos:String}{af:Array Edge}{id:Nat}{c c1 c2:Code}{x y:Operand}
def WF (hk:wpListIn (Fw r) n prog ops Q rest (act N (upd e d (.pointer (some ⟨b,o+off,none⟩))) ds) w)(hx:ev N e x=.pointer (some ⟨b,o,none⟩):=by exact gM)(hf:nA prog t k off:=by with_reducible first|exact Ww|exact Wx|exact Wy|exact Wz|exact NB|exact NC|exact ND|exact NE|exact NF|exact NG|exact NH|exact NI|exact NJ|exact NK|exact Nz|exact NA|exact Ny|exact Wu|exact Wv|exact Nq|exact Nr|exact Nx|exact Ns|exact Nt|exact Nu|exact Nv|exact Nw|exact Tg|exact Ti|exact Tj):
 wpListIn (Fw r) n prog ops Q (⟨some d,.fieldAddr t x k,ty,pos,af,none⟩::rest) (act N e ds) w:=by
 obtain⟨_,f,m,h1,h2,h3,h4⟩:=hf
 exact aa (iR h1 h2 h3 h4 Z hx hk)
def WG (hk:wpListIn (Fw r) n prog ops Q rest (act N (upd e d (.agg cs)) ds) w)(h:MW prog t cs:=by with_reducible first|exact Y9|exact Za|exact Tp|exact Ts|exact Tq|exact Tr|exact To|exact WA|exact WB):wpListIn (Fw r) n prog ops Q (⟨some d,.build t #[],ty,pos,af,none⟩::rest) (act N e ds) w:=by
 obtain⟨fs,z,s,b,pl,h1,h2,h3,h4⟩:=h
 exact aa (bU h1 h2 h3 Z h4 hk)
def WH (hk:wpListIn (Fw r) n prog ops Q rest (act N (upd e d (.agg #[u,v])) ds) w)(h:WC prog t:=by with_reducible first|exact Zb|exact Tt|exact Tu|exact WE)(hx:ev N e x=u:=by exact Ge)(hy:ev N e y=v:=by exact Ge)(hu:u.cells=#[u]:=by exact Z)(hv:v.cells=#[v]:=by exact Z):
 wpListIn (Fw r) n prog ops Q (⟨some d,.build t #[(0,x),(1,y)],ty,pos,af,none⟩::rest) (act N e ds) w:=by
 obtain⟨_,z,s,b,h1,h2,h3,h4⟩:=h
 exact aa (bU (pl:=[(0,1),(1,1)]) h1 h2 h3 (by rw[<-hx,<-hy];rfl) (h4 u v hu hv) hk)
def Z4 {t:Nat}(h:ap w' b t cs:=by with_reducible assumption):ap w' b t cs:=h
def bk1 {t:Nat}(h:ap w' b t cs:=by
 first
 |with_reducible assumption
 |exact ac9 L7 Z4
 |exact ab0 L7 U Z4):ap w' b t cs:=h
def bk2 {t:Nat}(h:ap w' b t cs:=by
 first
 |with_reducible assumption
 |exact ac9 L7 bk1
 |exact ab0 L7 U bk1):ap w' b t cs:=h
def Z5 {t:Nat}(h:ap w' b t cs:=by
 first
 |with_reducible assumption
 |exact ac9 L7 bk2
 |exact ab0 L7 U bk2):ap w' b t cs:=h
def Z6 {t:Nat}(h:ap w' b t cs:=by
 first
 |with_reducible assumption
 |exact ac9 L7 Z5
 |exact ab0 L7 U Z5):ap w' b t cs:=h
def Z7 {t:Nat}(h:ap w' b t cs:=by
 first
 |with_reducible assumption
 |exact ac9 L7 Z6
 |exact ab0 L7 U Z6):ap w' b t cs:=h
def Tv {t:Nat}(h:ap w' b t cs:=by
 first
 |with_reducible assumption
 |exact ac9 L7 Z7
 |exact ab0 L7 U Z7):ap w' b t cs:=h
def WI {cs:List Value}(hk:wpListIn (Fw r) n P ops Q rest (act N (upd e d v) ds) w)(hx:ev N e x=.pointer (some ⟨b,o,none⟩):=by exact gM)(hb:ap w b tb cs.toArray:=by exact Tv)(hv:nth cs o=some v:=by exact Z)(hu:ll P t=some false:=by decide +kernel):
 wpListIn (Fw r) n P ops Q (⟨some d,.load t x,ty,pos,af,none⟩::rest) (act N e ds) w:=IU hk hx hb hv hu
def QY {cs:List Value}(hk:wpListIn (Fw r) n P ops Q rest (act N (upd e d (.agg #[v1,v2])) ds) w)(hx:ev N e x=.pointer (some ⟨b,o,none⟩):=by exact gM)(hb:ap w b tb cs.toArray:=by exact Tv)(hv:xE cs o=some (v1,v2):=by exact Z)(hu:ll P t=some true:=by decide +kernel)(hi:(P.info? t).map (·.size)=some 2:=by decide +kernel):
 wpListIn (Fw r) n P ops Q (⟨some d,.load t x,ty,pos,af,none⟩::rest) (act N e ds) w:=Eb hk hx hb hv hu hi
def QZ (hk:wpListIn (Fw r) n P ops Q rest (act N (upd e d (.agg #[v1,v2,v3,v4])) ds) w)(hx:ev N e x=.pointer (some ⟨b,0,none⟩):=by exact gM)(hb:ap w b tb #[v1,v2,v3,v4]:=by exact Tv)(hu:ll P t=some true:=by decide +kernel)(hi:(P.info? t).map (·.size)=some 4:=by decide +kernel):
 wpListIn (Fw r) n P ops Q (⟨some d,.load t x,ty,pos,af,none⟩::rest) (act N e ds) w:=by
 obtain⟨D,h1,h2⟩:=iW hu
 exact aa (aP (cs:=[v1,v2,v3,v4]) h1 h2 hi hx (aa0 hb (i:=0) Z) hk)
def zo (h:X=q:=by
 first
 | with_reducible first
   |exact Z
   |assumption
   |exact Gg ef
   |exact Gh ef
   |exact Y5 (by first|exact rfl|assumption|exact Gh ef)
   |exact Y6 (by first|exact rfl|assumption|exact Gg ef)
 |decide +kernel
 | with_reducible first
   |exact Gg U
   |exact Gh U
   |exact Y5 (Gh U)
   |exact Y6 (Gg U)):X=q:=h
def WJ (h:c1.wpIn (Fw r) n P Q (act N e ds) w)(hx:ev N e x=.bool q:=by exact gM)(hq:q=true:=by exact zo):(Code.cond x c1 c2).wpIn (Fw r) n P Q (act N e ds) w:=mf (by rw[hx,hq]) h
def WK (h:c2.wpIn (Fw r) n P Q (act N e ds) w)(hx:ev N e x=.bool q:=by exact gM)(hq:q=false:=by exact zo):(Code.cond x c1 c2).wpIn (Fw r) n P Q (act N e ds) w:=fh (by rw[hx,hq]) h
def I5 {l:List Oper}{b:Bool}(hk:wpListIn (Fw r) n P l.toArray Q (⟨dst,op,ty,pos,af,none⟩::rest) (act N e ds) w)(hj:cX l j=some s:=by exact Z)(hv:ev N e (.tmp s)=.bool b:=by exact gM)(hb:b=q:=by exact zo):wpListIn (Fw r) n P l.toArray Q (⟨dst,op,ty,pos,af,some (j,q)⟩::rest) (act N e ds) w:=me hj (by rw[hv,hb]) hk
def Q1 {l:List Oper}{b:Bool}(hk:wpListIn (Fw r) n P l.toArray Q rest (act N (upd e d undef) ds) w)(hj:cX l j=some s:=by exact Z)(hv:ev N e (.tmp s)=.bool b:=by exact gM)(hb:b= !q:=by first|with_reducible assumption|(show _=true;exact zo)|(show _=false;exact zo)):wpListIn (Fw r) n P l.toArray Q (⟨some d,op,ty,pos,af,some (j,q)⟩::rest) (act N e ds) w:=fp hj (by rw[hv,hb]) hk
def Q2 {l:List Oper}(hk:wpListIn (Fw r) n P l.toArray Q rest (act N (upd e d undef) ds) w)(hj:cX l j=some s:=by exact Z)(hv:ev N e (.tmp s)=undef:=by exact Z)(hs:Nat.blt s N=true:=by exact Z):wpListIn (Fw r) n P l.toArray Q (⟨some d,op,ty,pos,af,some (j,q)⟩::rest) (act N e ds) w:=Wm hj hv hs hk
def Eh {c a b:Operand}{t:Bool}(hk:wpListIn (Fw r) n P ops Q rest (act N (upd e d v) ds) w)(hc:ev N e c=.bool t:=by exact gM)(ht:t=true:=by exact zo)(hv:ev N e a=v:=by exact Ge):
 wpListIn (Fw r) n P ops Q (⟨some d,.pick c a b,ty,pos,af,none⟩::rest) (act N e ds) w:=Ec hk hc ht hv
def Ei {c a b:Operand}{t:Bool}(hk:wpListIn (Fw r) n P ops Q rest (act N (upd e d v) ds) w)(hc:ev N e c=.bool t:=by exact gM)(ht:t=false:=by exact zo)(hv:ev N e b=v:=by exact Ge):
 wpListIn (Fw r) n P ops Q (⟨some d,.pick c a b,ty,pos,af,none⟩::rest) (act N e ds) w:=Ed hk hc ht hv
end ops
section gates
variable {P:Program}{r:Option Nat}{N:Nat}{ds:List Deferred}{Q:Exit->Act->World->Prop}{ops:Array Oper}{o:Oper}{rest:List Oper}{dst:Option Tmp}{op:Op}{ty:Nat}{pos:String}{af:Array Edge}{x y z:Operand}{a:Act}{u:TypeId}{c1 c2:Code}
abbrev Wo (r:Option Nat)(n:Nat)(P:Program)(ops:Array Oper)(Q:Exit->Act->World->Prop)(o:Oper)(rest:List Oper)(a:Act)(w:World):Prop:=wpListIn (Fw r) n P ops Q (o::rest) a w
def WL (h:Wo r n P ops Q o rest a w):Wo r n P ops Q o rest a w:=h
def WM (h:Wo r n P ops Q ⟨dst,op,ty,pos,af,none⟩ rest a w):Wo r n P ops Q ⟨dst,op,ty,pos,af,none⟩ rest a w:=h
def WN {g:Nat×Bool}(h:Wo r n P ops Q ⟨dst,op,ty,pos,af,some g⟩ rest a w):Wo r n P ops Q ⟨dst,op,ty,pos,af,some g⟩ rest a w:=h
def WO (h:Wo r n P ops Q ⟨dst,.move x,ty,pos,af,none⟩ rest a w):Wo r n P ops Q ⟨dst,.move x,ty,pos,af,none⟩ rest a w:=h
def WP (h:Wo r n P ops Q ⟨dst,.assign x,ty,pos,af,none⟩ rest a w):Wo r n P ops Q ⟨dst,.assign x,ty,pos,af,none⟩ rest a w:=h
def WQ (h:Wo r n P ops Q ⟨dst,.load t x,ty,pos,af,none⟩ rest a w):Wo r n P ops Q ⟨dst,.load t x,ty,pos,af,none⟩ rest a w:=h
def WR {b:BinOp}(h:Wo r n P ops Q ⟨dst,.binOp b t x y u,ty,pos,af,none⟩ rest a w):Wo r n P ops Q ⟨dst,.binOp b t x y u,ty,pos,af,none⟩ rest a w:=h
def WS {b:UnOp}(h:Wo r n P ops Q ⟨dst,.unOp b t x,ty,pos,af,none⟩ rest a w):Wo r n P ops Q ⟨dst,.unOp b t x,ty,pos,af,none⟩ rest a w:=h
def WT (h:Wo r n P ops Q ⟨dst,.fieldAddr t x k,ty,pos,af,none⟩ rest a w):Wo r n P ops Q ⟨dst,.fieldAddr t x k,ty,pos,af,none⟩ rest a w:=h
def WU (h:Wo r n P ops Q ⟨dst,.extract x k,ty,pos,af,none⟩ rest a w):Wo r n P ops Q ⟨dst,.extract x k,ty,pos,af,none⟩ rest a w:=h
def WW {c:Call}(h:Wo r n P ops Q ⟨dst,.call c,ty,pos,af,none⟩ rest a w):Wo r n P ops Q ⟨dst,.call c,ty,pos,af,none⟩ rest a w:=h
def WX (h:Wo r n P ops Q ⟨dst,.pick x y z,ty,pos,af,none⟩ rest a w):Wo r n P ops Q ⟨dst,.pick x y z,ty,pos,af,none⟩ rest a w:=h
def WY (h:Wo r n P ops Q ⟨dst,.nilCheck x,ty,pos,af,none⟩ rest a w):Wo r n P ops Q ⟨dst,.nilCheck x,ty,pos,af,none⟩ rest a w:=h
def WZ {xs:Array (Nat×Operand)}(h:Wo r n P ops Q ⟨dst,.build t xs,ty,pos,af,none⟩ rest a w):Wo r n P ops Q ⟨dst,.build t xs,ty,pos,af,none⟩ rest a w:=h
def W4 (h:(Code.cond x c1 c2).wpIn (Fw r) n P Q a w):(Code.cond x c1 c2).wpIn (Fw r) n P Q a w:=h
end gates
structure Hd (p:Prop):Prop where
 out:p
section irr
attribute [local irreducible] wpListIn Code.wpIn Oper.wpIn Exit.then Exit.inBlock Exit.noGoto
def I (h:G')(k:Hd G'->G:=by
 intro h
 repeat first
  | (with_reducible refine WL ?_
     first
     | (with_reducible refine WM ?_
        first
        | (with_reducible refine WO ?_
           refine Ce ?_)
        | (with_reducible refine WQ ?_
           first
           |refine WI ?_
           |refine QY ?_
           |refine QZ ?_
           |refine xF ?_
           |refine tE ?_)
        | (with_reducible refine WR ?_
           first
           |refine lss ?_
           |refine eql ?_
           |refine neq ?_
           |refine leq ?_
           |refine gtr ?_
           |refine geq ?_)
        | (with_reducible refine WT ?_
           refine WF ?_)
        | (with_reducible refine WP ?_
           refine tC ?_)
        | (with_reducible refine WU ?_
           first
           |refine Cg ?_
           |refine Ch ?_
           |refine Ci ?_
           |refine Cj ?_
           |refine Ck ?_
           |refine Cl ?_
           |refine Cm ?_
           |refine Cn ?_
           |refine Co ?_)
        | (with_reducible refine WW ?_
           refine q_len ?_)
        | (with_reducible refine WS ?_
           refine nt ?_)
        | (with_reducible refine WX ?_
           first
           |refine Eh ?_
           |refine Ei ?_)
        | (with_reducible refine WY ?_
           refine IS ?_)
        | (with_reducible refine WZ ?_
           first
           |refine WG ?_
           |refine WH ?_))
     | (with_reducible refine WN ?_
        first
        |refine I5 ?_
        |refine Q1 ?_
        |refine Q2 ?_))
  | with_reducible first
    |refine e9 ?_
    |refine ge ?_
    |refine iu Z ?_
    |refine iS ?_
    |refine hH ?_
    |refine oO ?_
    |refine jA ?_
    |refine By ?_
    |refine HW ?_
    |refine HX ?_
    |refine QR ?_
    |refine Bz ?_
    |refine RX ?_
    |refine BA ?_
    |refine RZ ?_
    |refine QS ?_
    |refine Cc ?_
    |refine S8 ?_
    |refine QT ?_
    |refine I0 ?_
    |refine QU ?_
    |refine IZ ?_
    |refine Ws ?_
  |refine ge ?_
  |refine RY Z ?_
  |refine zx (l:=0) Z ?_
  | (with_reducible refine W4 ?_
     first
     |refine WJ ?_
     |refine WK ?_)
 exact h.out):G:=k ⟨h⟩
def gx (h:G')(k:Hd G'->G:=by
 intro h
 repeat first
  | (with_reducible refine WL ?_
     first
     | (with_reducible refine WM ?_
        first
        | (with_reducible refine WO ?_
           refine Ce ?_)
        | (with_reducible refine WQ ?_
           first
           |refine WI ?_
           |refine QY ?_
           |refine QZ ?_
           |refine xF ?_
           |refine tE ?_)
        | (with_reducible refine WR ?_
           first
           |refine lss ?_
           |refine eql ?_
           |refine neq ?_
           |refine leq ?_
           |refine gtr ?_
           |refine geq ?_)
        | (with_reducible refine WT ?_
           refine WF ?_)
        | (with_reducible refine WP ?_
           refine tC ?_)
        | (with_reducible refine WU ?_
           first
           |refine Cg ?_
           |refine Ch ?_
           |refine Ci ?_
           |refine Cj ?_
           |refine Ck ?_
           |refine Cl ?_
           |refine Cm ?_
           |refine Cn ?_
           |refine Co ?_)
        | (with_reducible refine WW ?_
           refine q_len ?_)
        | (with_reducible refine WS ?_
           refine nt ?_)
        | (with_reducible refine WX ?_
           first
           |refine Eh ?_
           |refine Ei ?_)
        | (with_reducible refine WY ?_
           refine IS ?_)
        | (with_reducible refine WZ ?_
           first
           |refine WG ?_
           |refine WH ?_))
     | (with_reducible refine WN ?_
        first
        |refine I5 ?_
        |refine Q1 ?_
        |refine Q2 ?_))
  | with_reducible first
    |refine e9 ?_
    |refine ge ?_
    |refine iu Z ?_
    |refine oO ?_
    |refine jA ?_
    |refine By ?_
    |refine HW ?_
    |refine HX ?_
    |refine QR ?_
    |refine Bz ?_
    |refine RX ?_
    |refine BA ?_
    |refine RZ ?_
    |refine QS ?_
    |refine Cc ?_
    |refine S8 ?_
    |refine QT ?_
    |refine I0 ?_
    |refine QU ?_
    |refine IZ ?_
    |refine Ws ?_
  |refine ge ?_
  |refine RY Z ?_
  |refine zx (l:=0) Z ?_
  | (with_reducible refine W4 ?_
     first
     |refine WJ ?_
     |refine WK ?_)
 exact h.out):G:=k ⟨h⟩
section draws
variable {P:Program}{r:Option Nat}{N:Nat}{e0:Nat->Value}{ds:List Deferred}{Q:Exit->Act->World->Prop}{l:List Oper}{R:World->World->Prop}{k6:(Nat->Bool)->(Nat->Value)->World->Prop}{Fin:List Ph->Prop}{i:Nat}{acc:List Ph}{o:Oper}{os:List Oper}{V:Value}
def Pl (N:Nat)(ds:List Deferred)(dst:Option Tmp)(V:Value)(w:World)(f:Nat->Value):Exit->Act->World->Prop:=λx a' w'=>x=.normal/\a'=(act N f ds).put dst V/\w'=w
def aH {f:Nat->Value}{dst:Option Tmp}(hd:dst=some d:=by exact Z):Pl N ds dst v w f .normal (act N (upd f d v) ds) w:=by subst hd;exact⟨rfl,(aw _ _ _ _ _).symm,rfl⟩
def nB (h:∀(e:Nat->Value) (w:World) (ls:Nat->Bool),R w0 w->k6 ls e w->(∀j k,ca l j k=true->ls j=true->ls k=true)->ls i=false->(∀k,ca l i k=true->ls k=true)->(∀j d,b6 o j=true->cX l j=some d->tG acc.reverse j (e d) w)->
 wpListIn (Fw r) n P l.toArray (Pl N ds o.dst V w (fr l M acc.reverse (b6 o) e e0)) [o] (act N (fr l M acc.reverse (b6 o) e e0) ds) w)(ht:sj Q r n P N ds l M R k6 e0 w0 Fin (i+1) (.pv V::acc) os)(hR:∀w,R w w:=by first|exact aa4|exact λ_=>trivial)(hJ:∀ls e w v,k6 ls e w->k6 (eN ls i) (kC e o.dst v) w:=by exact λ_ _ _ _ h=>h):sj Q r n P N ds l M R k6 e0 w0 Fin i acc (o::os):=
 ⟨.pv V,⟨λ_ _ _ _ h=>h,λe w ls a1 E A0 O H W=>kE (h e w ls a1 E A0 O H W) (λ_ _ _ ⟨h1,h2,h3⟩=>.inl ⟨h1,V,h2,h3▸hR _,rfl,h3▸hJ _ _ _ _ E⟩)⟩,ht⟩
def db (h:∀(e:Nat->Value) (w:World) (ls:Nat->Bool),R w0 w->k6 ls e w->(∀k,ca l i k=true->ls k=true)->(∀j d,b6 o j=true->cX l j=some d->tG acc.reverse j (e d) w)->
 wpListIn (Fw r) n P l.toArray (Pl N ds o.dst V w (fr l M acc.reverse (b6 o) e e0)) [o] (act N (fr l M acc.reverse (b6 o) e e0) ds) w)(ht:sj Q r n P N ds l M R k6 e0 w0 Fin (i+1) (.pv V::acc) os)(hR:∀w,R w w:=by first|exact aa4|exact λ_=>trivial)(hJ:∀ls e w v,k6 ls e w->k6 (eN ls i) (kC e o.dst v) w:=by exact λ_ _ _ _ h=>h):sj Q r n P N ds l M R k6 e0 w0 Fin i acc (o::os):=
 nB (λe w ls a1 E _ _ H O=>h e w ls a1 E H O) ht hR hJ
def W5 (ht:sj Q r n P N ds l M R k6 e0 w0 Fin (i+1) (.pv V::acc) os)(h:∀(e:Nat->Value) (w:World),R w0 w->wpListIn (Fw r) n P l.toArray (Pl N ds o.dst V w (fr l M acc.reverse (b6 o) e e0)) [o] (act N (fr l M acc.reverse (b6 o) e e0) ds) w:=by
 intro e w hR
 refine I ?_
 exact aH)(hR:∀w,R w w:=by first|exact aa4|exact λ_=>trivial)(hJ:∀ls e w v,k6 ls e w->k6 (eN ls i) (kC e o.dst v) w:=by exact λ_ _ _ _ h=>h):sj Q r n P N ds l M R k6 e0 w0 Fin i acc (o::os):=
 db (λe w _ a1 _ _ _=>h e w a1) ht hR hJ
def Tw (h:Fin acc.reverse):sj Q r n P N ds l M R k6 e0 w0 Fin i acc []:=h
def sf (h:G')(k:Hd G'->G:=by
 intro h
 repeat refine W5 ?_
 try refine Tw ?_
 exact h.out):G:=k ⟨h⟩
end draws
end irr
section draws
variable {P:Program}{r:Option Nat}{N:Nat}{e0:Nat->Value}{ds:List Deferred}{Q:Exit->Act->World->Prop}{l:List Oper}{R:World->World->Prop}{k6:(Nat->Bool)->(Nat->Value)->World->Prop}{Fin:List Ph->Prop}{i:Nat}{acc:List Ph}{o:Oper}{os:List Oper}{V:Value}{p:Value->World->Prop}{φ:Ph}
def Sn (Q:Exit->Act->World->Prop)(N:Nat)(ds:List Deferred)(dst:Option Tmp)(f:Nat->Value)(K:Value->World->Prop):Exit->Act->World->Prop:=λx a' w'=>
 (x=.normal/\∃v,a'=(act N f ds).put dst v/\K v w')\/(∃c,x=.panic c/\Q (.panic c) a' w')
def fs {f:Nat->Value}{dst:Option Tmp}(h:K v w)(hd:dst=some d:=by exact Z):Sn Q N ds dst f K .normal (act N (upd f d v) ds) w:=by subst hd;exact .inl ⟨rfl,v,(aw _ _ _ _ _).symm,h⟩
def fs0 {f:Nat->Value}(h:K undef w):Sn Q N ds none f K .normal (act N f ds) w:=.inl ⟨rfl,undef,rfl,h⟩
def aA (h:∀(e:Nat->Value) (w:World),R w0 w->(∀j d,b6 o j=true->cX l j=some d->tG acc.reverse j (e d) w)->
 wpListIn (Fw r) n P l.toArray (Pl N ds o.dst V w (fr l M acc.reverse (b6 o) e e0)) [o] (act N (fr l M acc.reverse (b6 o) e e0) ds) w)(ht:sj Q r n P N ds l M R k6 e0 w0 Fin (i+1) (.pv V::acc) os)(hR:∀w,R w w:=by first|exact aa4|exact λ_=>trivial)(hJ:∀ls e w v,k6 ls e w->k6 (eN ls i) (kC e o.dst v) w:=by exact λ_ _ _ _ h=>h):sj Q r n P N ds l M R k6 e0 w0 Fin i acc (o::os):=
 db (λe w _ a1 _ _ E=>h e w a1 E) ht hR hJ
def Q3 (h:∀(e:Nat->Value) (w:World),R w0 w->(∀j d,b6 o j=true->cX l j=some d->tG acc.reverse j (e d) w)->
 wpListIn (Fw r) n P l.toArray (Sn Q N ds o.dst (fr l M acc.reverse (b6 o) e e0) (λv w'=>R w w'/\φ.ok v w')) [o] (act N (fr l M acc.reverse (b6 o) e e0) ds) w)(hs:zu R φ)(ht:sj Q r n P N ds l M R (λ_ _ _=>True) e0 w0 Fin (i+1) (φ::acc) os):sj Q r n P N ds l M R (λ_ _ _=>True) e0 w0 Fin i acc (o::os):=
 ⟨φ,⟨hs,λe w ls a1 _ _ _ _ H=>kE (h e w a1 H) (λ_ _ _ E=>E.imp (fun⟨h1,v,h2,h3,h4⟩=>⟨h1,v,h2,h3,h4,trivial⟩) id)⟩,ht⟩
def aR (h:∀(e:Nat->Value) (w:World),R w0 w->(∀j d,b6 o j=true->cX l j=some d->tG acc.reverse j (e d) w)->
 wpListIn (Fw r) n P l.toArray (Sn Q N ds o.dst (fr l M acc.reverse (b6 o) e e0) (λv w'=>R w w'/\v=V)) [o] (act N (fr l M acc.reverse (b6 o) e e0) ds) w)(ht:sj Q r n P N ds l M R (λ_ _ _=>True) e0 w0 Fin (i+1) (.pv V::acc) os):sj Q r n P N ds l M R (λ_ _ _=>True) e0 w0 Fin i acc (o::os):=Q3 (φ:=.pv V) h (λ_ _ _ _ h=>h) ht
def bR (p:Value->World->Prop)(h:∀(e:Nat->Value) (w:World),R w0 w->(∀j d,b6 o j=true->cX l j=some d->tG acc.reverse j (e d) w)->
 wpListIn (Fw r) n P l.toArray (Sn Q N ds o.dst (fr l M acc.reverse (b6 o) e e0) (λv w'=>R w w'/\p v w')) [o] (act N (fr l M acc.reverse (b6 o) e e0) ds) w)(ht:sj Q r n P N ds l M R (λ_ _ _=>True) e0 w0 Fin (i+1) (.ph p::acc) os)(hs:zu R (.ph p):=by exact λ_ _ _ _ h=>h):sj Q r n P N ds l M R (λ_ _ _=>True) e0 w0 Fin i acc (o::os):=Q3 (φ:=.ph p) h hs ht
def gw (h:∀(e:Nat->Value) (w:World) (ls:Nat->Bool),k6 ls e w->(∀j k,ca l j k=true->ls j=true->ls k=true)->ls i=false->(∀k,ca l i k=true->ls k=true)->
 wpListIn (Fw r) n P l.toArray (Sn Q N ds o.dst (fr l M acc.reverse (b6 o) e e0) (λv w'=>k6 (eN ls i) (kC e o.dst v) w')) [o] (act N (fr l M acc.reverse (b6 o) e e0) ds) w)(ht:sj Q r n P N ds l M (λ_ _=>True) k6 e0 w0 Fin (i+1) (.ph (λ_ _=>True)::acc) os):sj Q r n P N ds l M (λ_ _=>True) k6 e0 w0 Fin i acc (o::os):=
 ⟨.ph λ_ _=>True,⟨λ_ _ _ _ _=>trivial,λe w ls _ O W A0 H _=>kE (h e w ls O W A0 H) (λ_ _ _ E=>E.imp (fun⟨h1,v,h2,h3⟩=>⟨h1,v,h2,trivial,trivial,h3⟩) id)⟩,ht⟩
def I6 (h:∀(e:Nat->Value) (w:World) (ls:Nat->Bool),k6 ls e w->(∀j k,ca l j k=true->ls j=true->ls k=true)->ls i=false->(∀k,ca l i k=true->ls k=true)->
 wpListIn (Fw r) n P l.toArray (Sn Q N ds o.dst (fr l M acc.reverse (b6 o) e e0) (λv w'=>v=V/\k6 (eN ls i) (kC e o.dst v) w')) [o] (act N (fr l M acc.reverse (b6 o) e e0) ds) w)(ht:sj Q r n P N ds l M (λ_ _=>True) k6 e0 w0 Fin (i+1) (.pv V::acc) os):sj Q r n P N ds l M (λ_ _=>True) k6 e0 w0 Fin i acc (o::os):=
 ⟨.pv V,⟨λ_ _ _ _ h=>h,λe w ls _ W A0 O H _=>kE (h e w ls W A0 O H) (λ_ _ _ E=>E.imp (fun⟨h1,v,h2,h3,h4⟩=>⟨h1,v,h2,trivial,h3,h4⟩) id)⟩,ht⟩
end draws
def lZ (l:List (Nat×Nat))(t:Nat):Bool:=l.any λd=>Nat.ble d.1 t&&Nat.ble t d.2
def I7 (hd:lZ l d=true)(h:∀t,lZ l t=false->e' t=e1 t):∀t,lZ l t=false->upd e' d v t=e1 t:=by
 intro t ht
 have:t≠d:=λE=>by subst E;rw[hd]at ht;cases ht
 rw[upd_ne _ _ this];exact h t ht
def Q4 {m:List (Nat×Nat)}(hs:(m.all λd=>l.any λc=>Nat.ble c.1 d.1&&Nat.ble d.2 c.2)=true)(h:∀t,lZ l t=false->e' t=e1 t):∀t,lZ l t=false->ov (lZ m) e e' t=e1 t:=by
 intro t ht
 have:lZ m t=false:=by
  cases hm:lZ m t with
  |false=>rfl
  | true=>
    obtain⟨d,hd,h1⟩:=List.any_eq_true.1 hm
    obtain⟨c,hc,h2⟩:=List.any_eq_true.1 (List.all_eq_true.1 hs d hd)
    simp only[Bool.and_eq_true,Nat.ble_eq]at h1 h2
    have:lZ l t=true:=List.any_eq_true.2 ⟨c,hc,by simp only[Bool.and_eq_true,Nat.ble_eq];omega⟩
    rw[this]at ht;cases ht
 unfold ov;rw[this];exact h t ht
def Cs:∀(os:List Oper) (t j k:Nat) (l:List (Nat×Nat)),(os.all λo=>match o.dst with|some d=>lZ l d|none=>true)=true->IW os t j=some k->lZ l t=true
 |[],_,_,_,_,_,h=>by simp[IW]at h
 | o ::os,t,j,k,l,ha,h=>by
   rw[List.all_cons,Bool.and_eq_true]at ha
   unfold IW at h
   split at h
   · rename_i d hd
     split at h
     · rename_i hb
       have h1:=ha.1
       rw[hd]at h1
       rw[<-Nat.eq_of_beq_eq_true hb];exact h1
     · exact Cs os t (j+1) k l ha.2 h
   · exact Cs os t (j+1) k l ha.2 h
def W6 {m:List Nat}(hs:(m.all λd=>lZ l d)=true)(h:∀t,lZ l t=false->e' t=e1 t):∀t,lZ l t=false->ov (F8 m) e e' t=e1 t:=by
 intro t ht
 have:F8 m t=false:=by
  cases hm:F8 m t with
  |false=>rfl
  | true=>
    obtain⟨d,hd,h1⟩:=List.any_eq_true.1 hm
    have h2:=List.all_eq_true.1 hs d hd
    rw[Nat.eq_of_beq_eq_true h1]at h2
    rw[ht]at h2;cases h2
 unfold ov;rw[this];exact h t ht
def Q5 {ops:List Oper}{Φ:List Ph}(hs:((ops.take M).all λo=>match o.dst with|some d=>lZ l d|none=>true)=true)(h:∀t,lZ l t=false->e' t=e1 t):
 ∀t,lZ l t=false->fr ops M Φ sel e e' t=e1 t:=by
 intro t ht
 unfold fr
 split
 · exact h t ht
 · rename_i j hj
   rw[Cs _ _ _ _ _ hs hj]at ht;cases ht
def I8 :∀t,lZ l t=false->e t=e t:=λ_ _=>rfl
def same (h:∀t,lZ l t=false->e' t=e t:=by
 repeat first
  |with_reducible exact I8
  |((with_reducible refine I7 ?_ ?_);· exact Z)
  |((with_reducible refine Q4 ?_ ?_);· kernel_rfl)
  |((with_reducible refine W6 ?_ ?_);· kernel_rfl)
  |((with_reducible refine Q5 ?_ ?_);· kernel_rfl)):∀t,lZ l t=false->e' t=e t:=h
section code
variable {P:Program}{r:Option Nat}{N:Nat}{ds:List Deferred}{Q:Exit->Act->World->Prop}{K:Act->World->Prop}{c c1:Code}{k4:Nat->(Nat->Value)->World->Prop}{mods:List (Nat×Nat)}
def I9 (h:∀t,lZ mods t=false->e1 t=e t):e1=ov (lZ mods) e1 e:=funext λt=>by
 unfold ov;split
 · rfl
 · rename_i hh;exact h t hh
def Zc (N:Nat)(ds:List Deferred)(mods:List (Nat×Nat))(e:Nat->Value)(k4:Nat->(Nat->Value)->World->Prop)(k:Nat):Act->World->Prop:=λa' w'=>∃k' e',k'<k/\a'=act N e' ds/\(∀t,lZ mods t=false->e' t=e t)/\k4 k' e' w'
def cg (mods:List (Nat×Nat))(k4:Nat->(Nat->Value)->World->Prop)(k:Nat)(h0:k4 k e w)(hs:∀k e1 w1,k4 k e1 w1->c.wpIn (Fw r) n P (Exit.then (Zc N ds mods e k4 k) Q) (act N (ov (lZ mods) e1 e) ds) w1):(Code.loop c).wpIn (Fw r) n P Q (act N e ds) w:=
 RV (λk e1 w1=>(∀t,lZ mods t=false->e1 t=e t)/\k4 k e1 w1) k ⟨λ_ _=>rfl,h0⟩ λk e1 w1 ⟨h1,h2⟩=>by
  have:=hs k e1 w1 h2
  rw[<-I9 h1]at this
  exact wpIn_mono this (by
   intro x a' w' hq
   cases x <;>first|exact hq|(obtain⟨k',e',hk,rfl,E,hI'⟩:=hq;exact⟨k',e',hk,rfl,E,hI'⟩))
def W7 {rest:Code}{l:Nat}(mods:List (Nat×Nat))(k4:Nat->(Nat->Value)->World->Prop)(k:Nat)(h0:k4 k e w)(hs:∀k e1 w1,k4 k e1 w1->rest.wpIn (Fw r) n P (HG l (Zc N ds mods e k4 k) Q) (act N (ov (lZ mods) e1 e) ds) w1):rest.wpIn (Fw r) n P (HG l (JA (Fw r) n P l (Code.skip.seq rest) Q) Q) (act N e ds) w:=by
 have key:∀m k e1 w1,k<m->(∀t,lZ mods t=false->e1 t=e t)->k4 k e1 w1->rest.wpIn (Fw r) n P (HG l (JL (Fw r) n P l (Code.skip.seq rest) Q (m-1)) Q) (act N e1 ds) w1:=by
  intro m
  induction m with
  |zero=>intro k e1 w1 hk;omega
  | succ m ih=>
    intro k e1 w1 hk H hI
    have:=hs k e1 w1 hI
    rw[<-I9 H]at this
    refine wpIn_mono this (zw λa w ⟨k',e',W,O,E,hI'⟩=>?_)
    subst O
    have h2:=ih k' e' w U E hI'
    obtain⟨p,rfl⟩:∃p,m=p+1:=⟨m-1,by omega⟩
    exact iS (jA (e9 h2))
 exact wpIn_mono (key (k+1) k e w U (λ_ _=>rfl) h0) (zw λa w h=>⟨k,h⟩)
def bI (hI:k4 k' e' w')(hk:k'<k:=by omega)(hs:∀t,lZ mods t=false->e' t=e t:=by exact same):Zc N ds mods e k4 k (act N e' ds) w':=⟨k',e',hk,rfl,hs,hI⟩
def Z8 (N:Nat)(ds:List Deferred)(mods:List (Nat×Nat))(e:Nat->Value)(k4:(Nat->Value)->World->Prop):Act->World->Prop:=λa' w'=>∃e',a'=act N e' ds/\(∀t,lZ mods t=false->e' t=e t)/\k4 e' w'
def Tx (mods:List (Nat×Nat))(k4:(Nat->Value)->World->Prop)(h1:c1.wpIn (Fw r) n P (Exit.then (Z8 N ds mods e k4) Q) (act N e ds) w)(h2:∀e1 w1,k4 e1 w1->K (act N (ov (lZ mods) e1 e) ds) w1):c1.wpIn (Fw r) n P (Exit.then K Q) (act N e ds) w:=
 wpIn_mono h1 (by
  intro x a' w' hq
  cases x <;>first|exact hq|(obtain⟨e',rfl,h3,h4⟩:=hq;rw[I9 h3];exact h2 e' w' h4))
def Ct {k4:(Nat->Value)->World->Prop}(hI:k4 e' w')(hs:∀t,lZ mods t=false->e' t=e t:=by exact same):Z8 N ds mods e k4 (act N e' ds) w':=⟨e',rfl,hs,hI⟩
end code
section ops
variable {P:Program}{r:Option Nat}{N:Nat}{ds:List Deferred}{Q:Exit->Act->World->Prop}{K:Act->World->Prop}{a:Act}
variable {ops:Array Oper}{rest:List Oper}{op:Op}{ty:Nat}{pos:String}{af:Array Edge}{id:Nat}{c c1 c2:Code}{x y:Operand}
abbrev L (r:Option Nat)(n:Nat)(ops:Array Oper)(Q:Exit->Act->World->Prop)(rest:List Oper)(N:Nat)(e:Nat->Value)(ds:List Deferred)(w:World):Prop:=wpListIn (Fw r) n prog ops Q rest (act N e ds) w
def al {z:Value}(hi:gp prog t z s b)(hk:∀w',(w'.heap.size=w.heap.size+1/\aO w w')->ap w' w.heap.size t z.cells->L r n ops Q rest N (upd e d (.pointer (some ⟨w.heap.size,0,none⟩))) ds w'):
 L r n ops Q (⟨some d,.alloc t,ty,pos,af,none⟩::rest) N e ds w:=aa (DF hi λw' h1 h2 h3=>hk w' ⟨h2,h1⟩ h3)
def bx (hk:∀w',(w'.heap.size=w.heap.size+1/\aO w w')->ap w' w.heap.size t v.cells->L r n ops Q rest N (upd e d (.pointer (some ⟨w.heap.size,0,none⟩))) ds w')(hx:ev N e x=v:=by exact Ge):
 L r n ops Q (⟨some d,.box t x,ty,pos,af,none⟩::rest) N e ds w:=aa (Vv hx λw' h1 h2 h3=>hk w' ⟨h2,h1⟩ h3)
def cl {R:Value->World->Prop}(hf:Enters prog f)(hc:Calls prog f vs.toArray w (aG w R))(hk:∀v w',Tf w w'->R v w'->L r n ops Q rest N (upd e d v) ds w')(hv:xs.toList.map (ev N e)=vs:=by exact Z):
 L r n ops Q (⟨some d,.call ⟨.value (.func f),xs,ats⟩,ty,pos,af,none⟩::rest) N e ds w:=aa (qg hf hv hc λv w' h=>hk v w' (Vq h))
def clb {R:Value->World->Prop}(hf:Enters prog f)(hv:xs.toList.map (ev N e)=vs:=by exact Z)(hc:Calls prog f vs.toArray w (aG w R))(hk:∀v w',Tf w w'->R v w'->L r n ops Q rest N (upd e d v) ds w'):
 L r n ops Q (⟨some d,.call ⟨.value (.func f),xs,ats⟩,ty,pos,af,none⟩::rest) N e ds w:=aa (qg hf hv hc λv w' h=>hk v w' (Vq h))
def lW {R:Value->World->Prop}(hf:Enters prog f)(hx:ev N e x=.func (.func f) #[] lb.toArray)(hv:xs.toList.map (ev N e)=vs)(hc:Calls prog f (vs++lb).toArray w (aG w R))(hk:∀v w',Tf w w'->R v w'->K (act N (upd e d v) ds) w'){g:Option (Nat×Bool)}:Oper.wpIn (Fw r) n prog ⟨some d,.call ⟨.value x,xs,ats⟩,ty,pos,af,g⟩ (act N e ds) w K Q:=M3 hf hx hv hc λv w' h=>hk v w' (Vq h)
def xJ {R:Value->World->Prop}{g:Option (Nat×Bool)}(hf:Enters prog f)(hv:xs.toList.map (ev N e)=vs)(hc:Calls prog f vs.toArray w (aG w R))(hk:∀v w',Tf w w'->R v w'->K (act N (upd e d v) ds) w'):Oper.wpIn (Fw r) n prog ⟨some d,.call ⟨.value (.func f),xs,ats⟩,ty,pos,af,g⟩ (act N e ds) w K Q:=qg hf hv hc λv w' h=>hk v w' (Vq h)
def Cu {D:TypeDesc}{name:String}{R:Value->World->Prop}{g:Option (Nat×Bool)}(hf:Enters prog f)(hm:ei prog t name f)(hu:prog.underlying t=some D)(hd:qo D=true)(hx:ev N e x=.iface t v)(hv:xs.toList.map (ev N e)=vs)(hc:Calls prog f (v::vs).toArray w (aG w R))(hk:∀v w',Tf w w'->R v w'->K (act N (upd e d v) ds) w'):Oper.wpIn (Fw r) n prog ⟨some d,.call {callee:=.invoke x name,args:=xs,argTypes:=ats},ty,pos,af,g⟩ (act N e ds) w K Q:=IQ hf hm hu hd hx hv hc λv w' h=>hk v w' (Vq h)
def SA {t tb m:Nat}(hb:ap w b tb cs)(hk:∀w',eE w w' b->ap w' b tb (putCells cs o vs)->L r n ops Q rest N e ds w')(hx:ev N e x=.pointer (some ⟨b,o,none⟩):=by exact gM)(hy:ev N e y=.agg vs.toArray:=by exact gM)(hi:(prog.info? t).map (·.size)=some m:=by with_reducible first|exact bX|exact Ga|exact bj|exact nK|exact xl|exact dG|exact fw|exact H5|exact dY|exact xk|exact mh)(hm:vs.length=m:=by exact Z)(h1:vs.all (·.oneCell')=true:=by exact Z)(ho:o+vs.length<=cs.size:=by exact qa3 Z):
 L r n ops Q (⟨none,.store t x y,ty,pos,af,none⟩::rest) N e ds w:=aa (bF (hm▸hi) hx hy (List.all_eq_true.1 h1) hb ho hk)
def SO {t tb:Nat}(hb:ap w b tb cs)(hk:∀w',eE w w' b->ap w' b tb (cs.setIfInBounds o v)->L r n ops Q rest N e ds w')(hx:ev N e x=.pointer (some ⟨b,o,none⟩):=by exact gM)(hy:ev N e y=v:=by exact Ge)(h1:v.oneCell'=true:=by exact Z)(hi:(prog.info? t).map (·.size)=some 1:=by with_reducible first|exact iT|exact Yv|exact Vo|exact mg|exact R2|exact R3|exact y0|exact R5|exact sz1104|exact R4|exact H1|exact lU|exact BD|exact VE)(ho:o<cs.size:=by exact qa3 Z):
 L r n ops Q (⟨none,.store t x y,ty,pos,af,none⟩::rest) N e ds w:=aa (cC hi hx hy h1 hb ho hk)
def BS {t:Nat}{z:Value}{cs:List Value}(hk:∀w',aO w w'->w.heap.size<w'.heap.size->w'.ownsRow w.heap.size el size (.slice (some ⟨w.heap.size,0,none⟩) 1 1) 1 cs->L r n ops Q rest N (upd e d (.slice (some ⟨w.heap.size,0,none⟩) 1 1)) ds w')(hx:ev N e x=v:=by exact Ge)(hc:v.cells=cs.toArray:=by exact Z)(hs:I2 prog t el z size bytes:=by with_reducible first|exact Tk|exact Tl|exact Cp|exact Cq|exact Tm|exact Tn|exact I3|exact I4)(hf:Instr.fill (λi=>some (i*size,size)) ((Array.range (1*size)).map (z.cells[· %z.cells.size]!)) [(0,v)]=some cs.toArray:=by kernel_rfl)(hl:cs.toArray.size=1*size:=by exact Z)(h24:Nat.ble (1*size) 16777216=true:=by exact Z):L r n ops Q (⟨some d,.buildSlice t 1 #[(0,x)],ty,pos,af,none⟩::rest) N e ds w:=aa (cH hs.1 hs.2.1 (by rw[<-hx];rfl) (qa3 h24) (by have:=hs.2.2.2;omega) hf hl dc hk)
def Q6 {t:Nat}{z:Value}{cs ds':List Value}(hk:∀w',aO w w'->w.heap.size<w'.heap.size->w'.ownsRow w.heap.size el size (.slice (some ⟨w.heap.size,0,none⟩) 2 2) 2 (cs++ds')->L r n ops Q rest N (upd e d (.slice (some ⟨w.heap.size,0,none⟩) 2 2)) ds w')(hx:ev N e x=u:=by exact Ge)(hy:ev N e y=v:=by exact Ge)(hc:u.cells=cs.toArray:=by exact Z)(hd:v.cells=ds'.toArray:=by exact Z)(hs:I2 prog t el z size bytes:=by with_reducible first|exact Tk|exact Tl|exact Cp|exact Cq|exact Tm|exact Tn|exact I3|exact I4)(hf:Instr.fill (λi=>some (i*size,size)) ((Array.range (2*size)).map (z.cells[· %z.cells.size]!)) [(0,u),(1,v)]=some (cs++ds').toArray:=by kernel_rfl)(hl:(cs++ds').toArray.size=2*size:=by exact Z)(h24:Nat.ble (2*size) 16777216=true:=by exact Z):L r n ops Q (⟨some d,.buildSlice t 2 #[(0,x),(1,y)],ty,pos,af,none⟩::rest) N e ds w:=aa (cH hs.1 hs.2.1 (by rw[<-hx,<-hy];rfl) (qa3 h24) (by have:=hs.2.2.2;omega) hf hl dc hk)
def AP {t ty base lo m c:Nat}{z:Value}{A:Option Addr}{xs news:List Value}(hown:w.ownsRow base el size v k xs)(hr:Rw w lo A news)(hk:∀v' w',w'.ownsRow base el size v' (k+m) (xs++news)->w.grownBy w' v.ownBlock->(v'.ownBlock=v.ownBlock\/v'.ownBlock=some w.heap.size)->L r n ops Q rest N (upd e d v') ds w')(h1:news.all (·.oneCell')=true:=by exact Z)(hx:ev N e x=v:=by exact gM)(hy:ev N e y=.slice A m c:=by exact gM)(hs:I2 prog t el z size bytes:=by with_reducible first|exact Tk|exact Tl|exact Cp|exact Cq|exact Tm|exact Tn|exact I3|exact I4)(hl:news.length=m*size:=by exact Z)(h63:k+m<=maxLen:=by simp only[maxLen];omega)(hb:(k+m)*bytes<=140737488355328:=by omega)(hbase:base<=w.heap.size:=by omega):
 L r n ops Q (⟨some d,.call {callee:=.builtin .append,args:=#[x,y],argTypes:=#[t,t]},ty,pos,af,none⟩::rest) N e ds w:=aa (jz hs.1 hs.2.1 hs.2.2.1 hs.2.2.2 hx hown hy hr hl (List.all_eq_true.1 h1) h63 hb hbase hk)
def Ty (h:v.oneCell'=true):[v].all (·.oneCell')=true:=by simp[h]
end ops
end Go.Proofs.YtlmihmlnpjkblaaGreatDoor
namespace Go.Proofs.YtlmihmlnpjkblaaGreatDoor
variable {xs ys:List Nat}{i n b lo' lo c n1 c1 n2 c2 lo1 lo2 B1 B2 g a1 a2 k:Nat}{A A1 A2:Option Addr}{w:World}
set_option maxRecDepth 100000
open Go Go.Eng Go.RowKit Tryz
attribute [local irreducible] wpListIn Code.wpIn Oper.wpIn Exit.then Exit.inBlock Exit.noGoto
set_option maxHeartbeats 40000000
def ln {a:Int}(h:In64 a:=by unfold In64;omega):In64 a:=h
def ints (l:List Nat):List Value:=l.map λn:Nat=>Value.int .i64 n
def Ja (h:i<xs.length):(ints xs)[i]?=some (.int .i64 ((xs[i]:Nat):Int)):=by simp[ints,h]
def iX (xs:List Nat):(ints xs).length=xs.length:=by simp[ints]
def tJ :∀u∈ints xs,u.oneCell'=true:=by
 intro u hu
 obtain⟨n,_,rfl⟩:=List.mem_map.1 hu
 rfl
def mw (a b:List Nat):ints (a++b)=ints a++ints b:=by simp[ints]
def lu (h:xs.length<=i):xs.getD i 0=0:=by simp[List.getD,List.getElem?_eq_none h]
def bE (h:i<xs.length):(ints xs)[i]?=some (.int .i64 ((xs.getD i 0:Nat):Int)):=by simp[ints,h]
def wm {m:Nat}(h0:0<m)(h:m<=xs.length):xs.take m=xs.take (m-1)++[xs.getD (m-1) 0]:=by
 obtain⟨k,rfl⟩:∃k,m=k+1:=⟨m-1,by omega⟩
 rw[List.take_succ_eq_append_getElem U]
 simp[show k<xs.length by omega]
def ri:∀l:List Nat,dz (l++[0])=dz l
 |[]=>by simp[dz]
 |d::l=>by simp only[List.cons_append,dz,ri l]
def tK:∀(l:List Nat) (d:Nat),d≠0->dz (l++[d])=l++[d]
 |[],d,h=>by simp[dz,h]
 | e::l,d,h=>by
   have ih:=tK l d h
   simp only[List.cons_append,dz,ih]
   rw[if_neg Wf]
def wn {m:Nat}(h:0<m/\m<=n/\xs.length=n)(hz:xs.getD (m-1) 0=0):dz (xs.take m)=dz (xs.take (m-1)):=by
 rw[wm h.1 U,hz,ri]
def mP {m:Nat}(h:m<=n/\xs.length=n)(hz:m=0\/0<m/\xs.getD (m-1) 0≠0):dz (xs.take m)=xs.take m:=by
 rcases hz with rfl|⟨h0,hz⟩
 · simp[dz]
 · rw[wm h0 U,tK _ _ hz]
structure qc (w:World)(lo:Nat)(A:Option Addr)(n c a:Nat):Prop where
 row:Rw w lo A (ints (ao 10000 a))
 len:(ao 10000 a).length=n
 cap:n<=c
section
variable {w0 w':World}{a:Nat}
def qc.ext (k:aO w w')(h:qc w lo A n c a):qc w' lo A n c a:=⟨h.row.ext k,h.len,h.cap⟩
def aa7:=@qc.ext
def qc.put (k:eE w w' b)(hb:b<lo)(h:qc w lo A n c a):qc w' lo A n c a:=⟨h.row.put k hb,h.len,h.cap⟩
def ac4:=@qc.put
def qc.gr {row:Option Nat}(k:w.grownBy w' row)(hne:∀ad,A=some ad->some ad.block≠row)(h:qc w lo A n c a):qc w' lo A n c a:=⟨h.row.gr k hne,h.len,h.cap⟩
def qc.mono (hl:lo'<=lo)(h:qc w lo A n c a):qc w lo' A n c a:=⟨h.row.mono hl,h.len,h.cap⟩
def qc.lt (h:qc w lo A n c a):∀x∈ao 10000 a,x<10000:=eH 10000 U a
def qc.val (h:qc w lo A n c a):bO 10000 (ao 10000 a)=a:=cD 10000 U a
end
def mx {l:List Int}(h:∀x∈l,0<=x/\x<10000):l.map (Value.int .i64)=ints (eJ l):=by
 conv=>lhs;rw[<-zg l (λx hx=>(h x hx).1)]
 simp[ints]
def Cv {m a:Nat}{l:List Int}(hd:∀x∈l,0<=x/\x<10000)(hv:bO 10000 (eJ l)=a)(hr:Rw w lo A (ints (eJ l)))(hm:dz (eJ l)=(eJ l).take m)(hml:m<=(eJ l).length)(hmc:m<=c):qc w lo A m c a:=by
 have h1:ao 10000 a=(eJ l).take m:=by
  rw[<-hm,<-hv]
  exact(mm 10000 U _ (Gc l hd)).symm
 refine⟨?_,?_,hmc⟩
 · rw[h1]
   have:ints ((eJ l).take m)=(ints (eJ l)).take m:=by simp[ints]
   rw[this]
   exact hr.take m
 · rw[h1];simp;omega
def eU (l:List Int):(eJ l).length=l.length:=by simp[eJ]
def kF (x:Int)(w:World):
 CL 214 #[.int .i64 x] w (aG w λv w'=>v=.bool false):=by
 refine aC func214 Z (I ?_);exact am (t:=2) (v:=.bool false) Z (aa4 _) Z (by show Value.bool (!decide (x=x))=_;simp)
def Tz (x y:Int)(h:x<y)(w:World):
 CL 171 #[.int .i64 x,.int .i64 y] w (aG w λv w'=>v=.int .i64 (-1)):=by
 refine aC func171 Z (I ?_);refine cl wd (kF _ _) ?_;rintro _ _ E rfl;have E4:=E.2;refine I ?_;refine cl wd (kF _ _) ?_;rintro _ _ H rfl;have E4:=xt E4 H.2;refine I ?_;exact am (t:=4) (v:=.int .i64 (-1)) Z E4 Z Z
def TA (x y:Int)(h:y<x)(w:World):
 CL 171 #[.int .i64 x,.int .i64 y] w (aG w λv w'=>v=.int .i64 1):=by
 refine aC func171 Z (I ?_);refine cl wd (kF _ _) ?_;rintro _ _ E rfl;have E11:=E.2;refine I ?_;refine cl wd (kF _ _) ?_;rintro _ _ H rfl;have E11:=xt E11 H.2;refine I ?_;exact am (t:=4) (v:=.int .i64 1) Z E11 Z Z
def cmp_eq (x y:Int)(h:x=y)(w:World):
 CL 171 #[.int .i64 x,.int .i64 y] w (aG w λv w'=>v=.int .i64 0):=by
 refine aC func171 Z (I ?_);refine cl wd (kF _ _) ?_;rintro _ _ E rfl;have E18:=E.2;refine I ?_;refine cl wd (kF _ _) ?_;rintro _ _ H rfl;have E18:=xt E18 H.2;refine I ?_;exact am (t:=4) (v:=.int .i64 0) Z E18 Z Z
def zy (hr:Rw w lo A (ints xs))(hn:xs.length=n):
 CL 165 #[.slice A n c,.int .i64 i] w (aG w λv w'=>v=.int .i64 ((xs.getD i 0:Nat):Int)):=by
 by_cases hi:i<n;have E:i<xs.length:=J
 refine aC func165 Z (I ?_);obtain⟨b,o,hA,hc⟩:=hr.cells i _ (Ja E);refine aa (aB (i:=i) (oo:=o+i) gQ iT Z hA Z hi U ?_);refine aa (bB (v:=.int .i64 ((xs[i]'E:Nat):Int)) U3 Z Z hc ?_);refine I ?_;exact am (t:=4) (v:=.int .i64 ((xs[i]'E:Nat):Int)) Z (aa4 _) (by simp[E]) Z;refine aC func165 Z (I ?_);exact am (t:=4) (v:=.int .i64 0) Z (aa4 _) (by rw[lu U];rfl) Z
def NL (h1:Rw w lo1 A1 (ints xs))(hn1:xs.length=n1)(h2:Rw w lo2 A2 (ints ys))(hn2:ys.length=n2)(k1:ap w B1 159 #[.slice A1 n1 c1])(k2:ap w B2 159 #[.slice A2 n2 c2])(hx:xs.getD i 0<=1000000000)(hy:ys.getD i 0<=1000000000):
 CL 164 #[.int .i64 i,pT B1,pT B2] w (aG w λv w'=>v=.int .i64 (((xs.getD i 0:Nat):Int)+((ys.getD i 0:Nat):Int))):=by
 refine aC func164 Z (I ?_);refine bL 8 ?_;refine sf ?_;refine aR (V:=.int .i64 ((xs.getD i 0:Nat):Int)) (λ_ _ hR32 _=>?_) ?_;have h1:=h1.ext hR32;refine cl zc (zy h1 hn1) ?_;rintro _ _ E rfl;have E37:=E.2;refine I ?_;exact fs ⟨E37,rfl⟩;refine sf ?_;refine aR (V:=.int .i64 ((ys.getD i 0:Nat):Int)) (λ_ _ hR48 _=>?_) ?_;have h2:=h2.ext hR48;refine cl zc (zy h2 hn2) ?_;rintro _ _ H rfl;have E53:=H.2;refine I ?_;exact fs ⟨E53,rfl⟩;refine aA (λ_ _ _ _=>by refine gP ?_;refine I ?_;exact aH) ?_;refine sf ?_;intro _ _ hR64 _;have E66:=hR64.2;refine I ?_;exact am (t:=4) (v:=.int .i64 (((xs.getD i 0:Nat):Int)+((ys.getD i 0:Nat):Int))) Z E66 Z Z
def Jb (h1:Rw w lo1 A1 (ints xs))(hn1:xs.length=n1)(h2:Rw w lo2 A2 (ints ys))(hn2:ys.length=n2)(k1:ap w B1 159 #[.slice A1 n1 c1])(k2:ap w B2 159 #[.slice A2 n2 c2])(hx:xs.getD i 0<=1000000000)(hy:ys.getD i 0<=1000000000):
 CL 166 #[.int .i64 i,pT B1,pT B2] w (aG w λv w'=>v=.int .i64 (((xs.getD i 0:Nat):Int)-((ys.getD i 0:Nat):Int))):=by
 refine aC func166 Z (I ?_);refine bL 8 ?_;refine sf ?_;refine aR (V:=.int .i64 ((xs.getD i 0:Nat):Int)) (λ_ _ hR77 _=>?_) ?_;have h1:=h1.ext hR77;refine cl zc (zy h1 hn1) ?_;rintro _ _ O rfl;have E82:=O.2;refine I ?_;exact fs ⟨E82,rfl⟩;refine sf ?_;refine aR (V:=.int .i64 ((ys.getD i 0:Nat):Int)) (λ_ _ hR93 _=>?_) ?_;have h2:=h2.ext hR93;refine cl zc (zy h2 hn2) ?_;rintro _ _ H rfl;have E98:=H.2;refine I ?_;exact fs ⟨E98,rfl⟩;refine aA (λ_ _ _ _=>by refine oE ?_;refine I ?_;exact aH) ?_;refine sf ?_;intro _ _ W _;have E:=W.2;refine I ?_;exact am (t:=4) (v:=.int .i64 (((xs.getD i 0:Nat):Int)-((ys.getD i 0:Nat):Int))) Z E Z Z
def fF (hr:Rw w lo A (ints xs))(hn:xs.length=n)(hc:n<=c)(hb:n<=1000000):
 CL 159 #[.slice A n c] w (aG w λv w'=>∃m,v=.slice A m c/\dz xs=xs.take m/\m<=n):=by
 refine aC func159 Z (I ?_);have A0:=aa4 w;refine cg [(0,0),(3,19)] (λO e W=>∃m:Nat,(m=O)/\(e 0=.slice A m c)/\(m<=n)/\(dz xs=dz (xs.take m))/\(aO w W)) (n) ⟨n,rfl,rfl,(qa0 _),(by rw[List.take_of_length_le U]),A0⟩ ?_;rintro _ _ _ ⟨m,rfl,Ab,q1,H,E⟩;by_cases hm:0<m;by_cases hz:xs.getD (m-1) 0=0;obtain⟨b,o,hA,hc⟩:=(hr.ext E).cells (m-1) _ (bE (xs:=xs) U);refine I ?_;refine aa (jk (a:=(m:Int)) (b:=1) (c:=((m-1:Nat):Int)) Z Z ln U ?_);refine I ?_;refine aa (aB (i:=m-1) (oo:=o+(m-1)) gQ iT Z hA Z U U ?_);refine I ?_;refine aa (bB (v:=.int .i64 ((xs.getD (m-1) 0:Nat):Int)) U3 Z Z hc ?_);refine I ?_;refine aa (jk (a:=(m:Int)) (b:=1) (c:=((m-1:Nat):Int)) Z Z ln U ?_);refine aa (oL (j:=m-1) gQ iT Z Z U ?_);refine I ?_;exact bI ⟨m-1,rfl,rfl,U,(H.trans (wn (n:=n) U hz)),E⟩;obtain⟨b,o,hA,hc⟩:=(hr.ext E).cells (m-1) _ (bE (xs:=xs) U);refine I ?_;refine aa (jk (a:=(m:Int)) (b:=1) (c:=((m-1:Nat):Int)) Z Z ln U ?_);refine I ?_;refine aa (aB (i:=m-1) (oo:=o+(m-1)) gQ iT Z hA Z U U ?_);refine I ?_;refine aa (bB (v:=.int .i64 ((xs.getD (m-1) 0:Nat):Int)) U3 Z Z hc ?_);refine I ?_
 exact am (t:=2) (v:=.slice A m c) Z E ⟨m,rfl,H.trans (mP (n:=n) U DA),by omega⟩ Z;refine I ?_;exact am (t:=2) (v:=.slice A m c) Z E ⟨m,rfl,H.trans (mP (n:=n) U DA),by omega⟩ Z
def xK {c0:Int}{lb:List Value}{d:Nat->Int}(heg:Enters prog g)(hd:∀(i:Nat) (W:World),i<=n->aO w W->CL g ([Value.int .i64 i]++lb).toArray W (aG W λv _=>v=.int .i64 (d i)))(hn:n<=1000000)(hr:∀i≤n,-1000000000000<=d i/\d i<=1000000000000)(hc:∀k≤n,-1000000000<=(aF d c0 k).1/\(aF d c0 k).1<=1000000000)(hcn:0<=(aF d c0 n).1/\(aF d c0 n).1<10000)(hdn:d n=0):
 CL 163 #[.int .i64 n,.int .i64 c0,.func (.func g) #[] lb.toArray] w (aG w λv w'=>∃k,n<=k/\k<=n+1/\(aF d c0 k).1=0/\w'.ownsRow w.heap.size 3 1 v k ((aF d c0 k).2.map (Value.int .i64))):=by
 refine aC func163 Z (I ?_);refine aa (ci (a:=(n:Int)) (b:=1) (c:=((n+1:Nat):Int)) Z Z ln U ?_);refine aa (M1 (m:=n+1) gQ k7 Z Z U RC (λ_ CY ho=>?_));have od:=CY;refine I ?_;refine cg [(1,1),(7,9),(13,40)] (λEW e W=>∃k:Nat,∃O:Value,(n+1-k=EW)/\(e 1=.int .i64 ((aF d c0 k).1))/\(e 7=O)/\(e 8=.int .i64 k)/\(k<=n+1)/\(k=n+1->(aF d c0 k).1=0)/\(aO w W)/\(W.ownsRow w.heap.size 3 1 O k ((aF d c0 k).2.map (Value.int .i64)))) (n+1-0) ⟨0,_,rfl,rfl,rfl,rfl,U,U,od,ho⟩ ?_;rintro _ _ _ ⟨k,O,rfl,H3,Ab,Ix,q1,H2,E,ho⟩;have H4:=bz E;by_cases hkn:k<n;by_cases hs:d k+(aF d c0 k).1<0;have Aq:=hr k U;have Ar:=hc k U;have H:=B3 U;refine I ?_;refine aa (lW (vs:=[.int .i64 k]) (lb:=lb) heg Z Z (hd k _ U E) ?_);rintro _ _ Af rfl;have Af:=Af.2;have ho:=ab Af ho;have E:=xt E Af;refine I ?_;refine gP (I ?_);refine gP (I ?_);refine aa (aW (v:=O) Ab ?_);refine I ?_;refine BS (λ_ Av _ E0=>?_);have ho:=ab Av ho;have E:=xt E Av;refine AP ho (aa8 E0) (λAz _ E5 E1 _=>?_);have E:=cL E E1 (bz E) (λg A0=>by have:=(ho.lt g A0).1;omega);refine aa (aK (v:=Az) Z ?_);refine I ?_
 refine aa (ci (a:=(k:Int)) (b:=1) (c:=((k+1:Nat):Int)) Z Z ln U ?_);refine I ?_;exact bI ⟨k+1,Az,rfl,(by rw[H];rfl),rfl,rfl,U,kb1,E,(by rw[H];simpa using E5)⟩;by_cases hs2:10000<=d k+(aF d c0 k).1;have Aq:=hr k U;have Ar:=hc k U;have H:=B4 U U;refine I ?_;refine aa (lW (vs:=[.int .i64 k]) (lb:=lb) heg Z Z (hd k _ U E) ?_);rintro _ _ Ap rfl;have Ap:=Ap.2;have ho:=ab Ap ho;have E:=xt E Ap;refine I ?_;refine gP (I ?_);refine aa (vW (a:=(d k)+((aF d c0 k).1)) (b:=10000) (c:=((d k)+((aF d c0 k).1))/10000) Z Z U U ln Z ?_);refine I ?_;refine aa (l8 (a:=(d k)+((aF d c0 k).1)) (b:=10000) (c:=((d k)+((aF d c0 k).1))%10000) Z Z U U Z ?_);refine I ?_;refine aa (aW (v:=O) Ab ?_);refine I ?_;refine BS (λ_ CB _ wr=>?_);have ho:=ab CB ho;have E:=xt E CB;refine AP ho (aa8 wr) (λnm _ E4 E7 _=>?_);have E:=cL E E7 (bz E) (λg A0=>by have:=(ho.lt g A0).1;omega);refine aa (aK (v:=nm) Z ?_);refine I ?_;refine aa (ci (a:=(k:Int)) (b:=1) (c:=((k+1:Nat):Int)) Z Z ln U ?_);refine I ?_
 exact bI ⟨k+1,nm,rfl,(by rw[H];rfl),rfl,rfl,U,kb1,E,(by rw[H];simpa using E4)⟩;have Aq:=hr k U;have Ar:=hc k U;have H:=tp U U;refine I ?_;refine aa (lW (vs:=[.int .i64 k]) (lb:=lb) heg Z Z (hd k _ U E) ?_);rintro _ _ Am rfl;have Am:=Am.2;have ho:=ab Am ho;have E:=xt E Am;refine I ?_;refine gP (I ?_);refine aa (aW (v:=O) Ab ?_);refine I ?_;refine BS (λ_ Aw _ E9=>?_);have ho:=ab Aw ho;have E:=xt E Aw;refine AP ho (aa8 E9) (λAs _ CG Cr _=>?_);have E:=cL E Cr (bz E) (λg A0=>by have:=(ho.lt g A0).1;omega);refine aa (aK (v:=As) Z ?_);refine I ?_;refine aa (ci (a:=(k:Int)) (b:=1) (c:=((k+1:Nat):Int)) Z Z ln U ?_);refine I ?_;exact bI ⟨k+1,As,rfl,(by rw[H];rfl),rfl,rfl,U,kb1,E,(by rw[H];simpa using CG)⟩;by_cases hcz:(aF d c0 k).1=0;refine I ?_;refine aa (aW (v:=O) Ab ?_);refine aa (aK (v:=O) Z ?_);refine I ?_;exact am (t:=6) (v:=O) Z E ⟨k,by omega,by omega,hcz,ho⟩ Z;have Ax:n=k:=J
 have E6:=hdn;rw[Ax]at E6;have G0:=hcn;rw[Ax]at G0;have GC:¬10000<=d k+(aF d c0 k).1:=J
 have K2:¬d k+(aF d c0 k).1<0:=J
 have Aq:=hr k U;have Ar:=hc k U;have H:=tp U U;refine I ?_;refine aa (lW (vs:=[.int .i64 k]) (lb:=lb) heg Z Z (hd k _ U E) ?_);rintro _ _ Ao rfl;have Ao:=Ao.2;have ho:=ab Ao ho;have E:=xt E Ao;refine I ?_;refine gP (I ?_);refine aa (aW (v:=O) Ab ?_);refine I ?_;refine BS (λ_ Ay _ ES=>?_);have ho:=ab Ay ho;have E:=xt E Ay;refine AP ho (aa8 ES) (λC1 _ FR ny _=>?_);have E:=cL E ny (bz E) (λg A0=>by have:=(ho.lt g A0).1;omega);refine aa (aK (v:=C1) Z ?_);refine I ?_;refine aa (ci (a:=(k:Int)) (b:=1) (c:=((k+1:Nat):Int)) Z Z ln U ?_);refine I ?_;exact bI ⟨k+1,C1,rfl,(by rw[H];rfl),rfl,rfl,U,kb1,E,(by rw[H];simpa using FR)⟩
def W8 {m:Nat}(h1:Rw w lo1 A1 (ints xs))(hn1:xs.length=n1)(k1:ap w B1 159 #[.slice A1 n1 c1])(k2:ap w B2 3 #[.int .i64 m])(hx:∀x∈xs,x<10000)(hm:m<10000):
 CL 208 #[.int .i64 i,pT B1,pT B2] w (aG w λv w'=>v=.int .i64 (rF xs m i)):=by
 have hb:=xz hx hm i;unfold rF at hb;refine aC func208 Z (I ?_);refine bL 5 ?_;refine sf ?_;refine aR (V:=.int .i64 ((xs.getD i 0:Nat):Int)) (λ_ _ hR11 _=>?_) ?_;have h1:=h1.ext hR11;refine cl zc (zy h1 hn1) ?_;rintro _ _ E rfl;have E16:=E.2;refine I ?_;exact fs ⟨E16,rfl⟩;refine sf ?_;refine aA (λ_ _ _ _=>by refine aa (qX (a:=((xs.getD i 0:Nat):Int)) (b:=(m:Int)) (c:=rF xs m i) Z Z JT Z ?_);refine I ?_;exact aH) ?_;refine sf ?_;intro _ _ hR27 _;have E29:=hR27.2;refine I ?_;exact am (t:=4) (v:=.int .i64 (rF xs m i)) Z E29 Z Z
def oW (h1:qc w lo1 A1 n1 c1 a1)(s1:n1<=100000)(h2:qc w lo2 A2 n2 c2 a2)(s2:n2<=100000):
 CL 121 #[.slice A1 n1 c1,.slice A2 n2 c2] w (aG w λv w'=>∃A n c,v=.slice A n c/\qc w' w.heap.size A n c (a1+a2)):=by
 refine aC func121 Z (I ?_);refine bx (λO E0 H=>?_);have E33:=E0.2;refine bx (λCB CG Ay=>?_);have⟨H,E33⟩:=bn CG.2 H E33;refine I ?_;refine aa (HV (a:=(n1:Int)) (b:=(n2:Int)) (m:=((max n1 n2:Nat):Int)) Z Z kd2 ?_);refine aa (aD (vf:=[]) (vc:=[pT w.heap.size,pT O.heap.size]) Z Z ?_);have C1:∀(i:Nat) (W:World),i<=max n1 n2->aO CB W->CL 164 (([Value.int .i64 i]:List Value)++([pT w.heap.size,pT O.heap.size]:List Value)).toArray W (aG W λv _=>v=.int .i64 (gt (ao 10000 a1) (ao 10000 a2) i)):=by(intro i W hi X;have X2:=xt E33 X;exact NL (h1.row.ext X2) h1.len (h2.row.ext X2) h2.len (H.ext X) (Ay.ext X) (by have:=getD_lt h1.lt i;omega) (by have:=getD_lt h2.lt i;omega))
 have Av:∀i≤max n1 n2,-1000000000000<=gt (ao 10000 a1) (ao 10000 a2) i/\gt (ao 10000 a1) (ao 10000 a2) i<=1000000000000:=λi _=>by(have:=getD_lt h1.lt i;have:=getD_lt h2.lt i;unfold gt;omega)
 have As:=nR h1.lt h2.lt;have E5:∀k≤max n1 n2,-1000000000<=(aF (gt (ao 10000 a1) (ao 10000 a2)) 0 k).1/\(aF (gt (ao 10000 a1) (ao 10000 a2)) 0 k).1<=1000000000:=λk _=>by(have:=As k;omega)
 have Az:0<=(aF (gt (ao 10000 a1) (ao 10000 a2)) 0 (max n1 n2)).1/\(aF (gt (ao 10000 a1) (ao 10000 a2)) 0 (max n1 n2)).1<10000:=by(have:=As (max n1 n2);omega)
 have Cr:gt (ao 10000 a1) (ao 10000 a2) (max n1 n2)=0:=by(unfold gt;rw[lu kb4,lu kd0];rfl)
 refine clb Ie (hc:=xK (d:=gt (ao 10000 a1) (ao 10000 a2)) (c0:=0) (lb:=[pT w.heap.size,pT O.heap.size]) Wc C1 U Av E5 Az Cr) (hk:=?_);rintro _ _ A0 ⟨k,Aw,E7,CY,ho⟩;have A0:=A0.2;obtain⟨Af,E,rfl,E1,-,-,-⟩:=eM ho;have E33:=xt E33 A0;obtain⟨Ap,Am⟩:=IK h1.lt h2.lt (n:=max n1 n2) (k:=k) ⟨by rw[h1.len];omega,by rw[h2.len];omega⟩ Aw CY;rw[h1.val,h2.val]at Am;have Ar:=ho;rw[mx Ap]at Ar;have Ao:=aa8 Ar;refine clb q6 (hc:=fF Ao (by rw[eU,eI]) E1 U) (hk:=?_);rintro _ _ Aq ⟨Ab,rfl,E6,E4⟩;have E33:=xt E33 Aq.2;have Ax:=Cv (c:=E) Ap Am (Ao.ext Aq.2) E6 (by rw[eU,eI];exact E4) U;refine I ?_;exact am (t:=4) (v:=.slice Af Ab E) Z E33 ⟨Af,Ab,E,rfl,Ax.mono U⟩ Z
def oX (h1:qc w lo1 A1 n1 c1 a1)(s1:n1<=100000)(h2:qc w lo2 A2 n2 c2 a2)(s2:n2<=100000)(hle:a2<=a1)(hln:n2<=n1):
 CL 123 #[.slice A1 n1 c1,.slice A2 n2 c2] w (aG w λv w'=>∃A n c,v=.slice A n c/\qc w' w.heap.size A n c (a1-a2)):=by
 refine aC func123 Z (I ?_);refine bx (λH Cr O=>?_);have E49:=Cr.2;refine bx (λAw Ay E9=>?_);have⟨O,E49⟩:=bn Ay.2 O E49;refine I ?_;refine aa (aD (vf:=[]) (vc:=[pT w.heap.size,pT H.heap.size]) Z Z ?_);have C1:∀(i:Nat) (W:World),i<=n1->aO Aw W->CL 166 (([Value.int .i64 i]:List Value)++([pT w.heap.size,pT H.heap.size]:List Value)).toArray W (aG W λv _=>v=.int .i64 (dx (ao 10000 a1) (ao 10000 a2) i)):=by(intro i W hi X;have X2:=xt E49 X;exact Jb (h1.row.ext X2) h1.len (h2.row.ext X2) h2.len (O.ext X) (E9.ext X) (by have:=getD_lt h1.lt i;omega) (by have:=getD_lt h2.lt i;omega))
 have As:∀i≤n1,-1000000000000<=dx (ao 10000 a1) (ao 10000 a2) i/\dx (ao 10000 a1) (ao 10000 a2) i<=1000000000000:=λi _=>by(have:=getD_lt h1.lt i;have:=getD_lt h2.lt i;unfold dx;omega)
 have E7:=jZ h1.lt h2.lt;obtain⟨E0,E6,ES⟩:=Gd h1.lt h2.lt (n:=n1) ⟨by rw[h1.len];omega,by rw[h2.len];omega⟩ (by rw[h1.val,h2.val];exact hle);have E4:∀k≤n1,-1000000000<=(aF (dx (ao 10000 a1) (ao 10000 a2)) 0 k).1/\(aF (dx (ao 10000 a1) (ao 10000 a2)) 0 k).1<=1000000000:=λk _=>by(have:=E7 k;omega)
 have Az:0<=(aF (dx (ao 10000 a1) (ao 10000 a2)) 0 n1).1/\(aF (dx (ao 10000 a1) (ao 10000 a2)) 0 n1).1<10000:=by(rw[E0];omega)
 have CG:dx (ao 10000 a1) (ao 10000 a2) n1=0:=by(unfold dx;rw[lu kb4,lu kd0];rfl)
 refine clb Ie (hc:=xK (d:=dx (ao 10000 a1) (ao 10000 a2)) (c0:=0) (lb:=[pT w.heap.size,pT H.heap.size]) Wd C1 U As E4 Az CG) (hk:=?_);rintro _ _ A0 ⟨k,Av,EW,CB,ho⟩;have A0:=A0.2;obtain⟨Af,E,rfl,CY,-,-,-⟩:=eM ho;have E49:=xt E49 A0;have Ap:=E6 k;have Am:=ES k Av CB;rw[h1.val,h2.val]at Am;have Ar:=ho;rw[mx Ap]at Ar;have Ao:=aa8 Ar;refine clb q6 (hc:=fF Ao (by rw[eU,eI]) CY U) (hk:=?_);rintro _ _ Aq ⟨Ab,rfl,E5,E1⟩;have E49:=xt E49 Aq.2;have Ax:=Cv (c:=E) Ap Am (Ao.ext Aq.2) E5 (by rw[eU,eI];exact E1) U;refine I ?_;exact am (t:=4) (v:=.slice Af Ab E) Z E49 ⟨Af,Ab,E,rfl,Ax.mono U⟩ Z
def Ej (h1:qc w lo1 A1 n1 c1 a1)(s1:n1<=100000){m:Nat}(hm:m<10000):
 CL 160 #[.slice A1 n1 c1,.int .i64 m] w (aG w λv w'=>∃A n c,v=.slice A n c/\qc w' w.heap.size A n c (a1*m)):=by
 refine aC func160 Z (I ?_);refine bx (λA0 Az O=>?_);have E65:=Az.2;refine bx (λE4 Av Ay=>?_);have⟨O,E65⟩:=bn Av.2 O E65;refine I ?_;refine aa (aD (vf:=[]) (vc:=[pT w.heap.size,pT A0.heap.size]) Z Z ?_);have CG:∀(i:Nat) (W:World),i<=n1->aO E4 W->CL 208 (([Value.int .i64 i]:List Value)++([pT w.heap.size,pT A0.heap.size]:List Value)).toArray W (aG W λv _=>v=.int .i64 (rF (ao 10000 a1) m i)):=by(intro i W hi X;have X2:=xt E65 X;exact W8 (h1.row.ext X2) h1.len (O.ext X) (Ay.ext X) h1.lt hm)
 have Aw:∀i≤n1,-1000000000000<=rF (ao 10000 a1) m i/\rF (ao 10000 a1) m i<=1000000000000:=λi _=>by(have:=xz h1.lt hm i;omega)
 have As:=tq h1.lt hm;have E5:∀k≤n1,-1000000000<=(aF (rF (ao 10000 a1) m) 0 k).1/\(aF (rF (ao 10000 a1) m) 0 k).1<=1000000000:=λk _=>by(have:=As k;omega)
 have CB:0<=(aF (rF (ao 10000 a1) m) 0 n1).1/\(aF (rF (ao 10000 a1) m) 0 n1).1<10000:=As n1;have Cr:rF (ao 10000 a1) m n1=0:=by(unfold rF;rw[lu kb4];simp)
 refine clb Ie (hc:=xK (d:=rF (ao 10000 a1) m) (c0:=0) (lb:=[pT w.heap.size,pT A0.heap.size]) Wi CG U Aw E5 CB Cr) (hk:=?_);rintro _ _ H ⟨k,Ax,E7,CY,ho⟩;have H:=H.2;obtain⟨Af,E,rfl,E0,-,-,-⟩:=eM ho;have E65:=xt E65 H;obtain⟨Ap,Am⟩:=S3 h1.lt hm (n:=n1) (k:=k) kb4 Ax CY;rw[h1.val]at Am;have Aq:=ho;rw[mx Ap]at Aq;have Ao:=aa8 Aq;refine clb q6 (hc:=fF Ao (by rw[eU,eI]) E0 U) (hk:=?_);rintro _ _ Ar ⟨Ab,rfl,E6,E1⟩;have E65:=xt E65 Ar.2;have C1:=Cv (c:=E) Ap Am (Ao.ext Ar.2) E6 (by rw[eU,eI];exact E1) U;refine I ?_;exact am (t:=4) (v:=.slice Af Ab E) Z E65 ⟨Af,Ab,E,rfl,C1.mono U⟩ Z
def wo {l:List {i:Nat // i<n}}{hk:k-1<n}(h:0<k)(hl:l.map (·.1)++(List.range k).reverse=(List.range n).reverse):(l++[(⟨k-1,hk⟩:{i:Nat // i<n})]).map (·.1)++(List.range (k-1)).reverse=(List.range n).reverse:=by
 rw[<-hl]
 obtain⟨j,rfl⟩:∃j,k=j+1:=⟨k-1,by omega⟩
 simp[List.range_succ]
def j3 :
 CL 158 #[.slice A n c] w (aG w λv w'=>v=.func (.func 207) #[] #[pT w.heap.size]/\ap w' w.heap.size 159 #[.slice A n c]):=by
 refine aC func158 Z (I ?_);refine bx (λ_ H E=>?_);have E4:=H.2;refine aa (aK (v:=.nilFunc) Z ?_);refine I ?_;refine aa (aD (vf:=[]) (vc:=[pT w.heap.size]) Z Z ?_);refine I ?_;exact am (t:=2) (v:=.func (.func 207) #[] #[pT w.heap.size]) Z E4 ⟨rfl,E⟩ Z
def iN (hb:ap w b 159 #[.slice A n c])(hr:Rw w lo A (ints xs))(hn:xs.length=n)(hm:n<=1000000):
 QN prog 207 [pT b] n (λi=>[.int .i64 i,.int .i64 ((xs.getD i 0:Nat):Int)]) (List.range n).reverse (λW=>ap W b 159 #[.slice A n c]/\Rw W lo A (ints xs)) w:=by
 intro l k6 Jx W hW hJ0 hJx0 hY A0;have hb:=be hW hb;have hr:=Rw.ext hW hr;clear hW hJ0 hJx0;refine qn ?_;refine D3 func207 Z (I ?_);refine oE (I ?_);refine cg [(3,3),(7,18)] (λAm e W=>∃k:Nat,∃pre:List {i:Nat // i<n},(k=Am)/\(e 3=.int .i64 ((k:Int)-1))/\(k<=n)/\(pre.map (·.1)++(List.range k).reverse=(List.range n).reverse)/\(k6 pre W)/\(True)/\(ap W b 159 #[.slice A n c])/\(Rw W lo A (ints xs))) (n) ⟨n,[],rfl,rfl,(qa0 _),Wf,A0,trivial,hb,hr⟩ ?_;rintro _ _ Ab ⟨k,pre,rfl,Aq,q1,E,O,E9,hb,hr⟩;by_cases hm:0<k;refine I ?_;obtain⟨_,o,hA,hc⟩:=hr.cells (k-1) _ (bE (xs:=xs) U);refine aa (aB (i:=k-1) (oo:=o+(k-1)) gQ iT Z hA (dw Z U) U U ?_);refine aa (bB (v:=.int .i64 ((xs.getD (k-1) 0:Nat):Int)) U3 Z Z hc ?_);refine aa (xB (l:=l) (vs:=[.int .i64 ((k-1:Nat):Int),.int .i64 ((xs.getD (k-1) 0:Nat):Int)]) Z (av (dw Z U) (av Z Z)) (hY pre ⟨k-1,by omega⟩ Ab O (by have hl:=qb2 List.length E;simp at hl;omega)) ?_);rintro _ _ Af;obtain⟨q,rfl,Ap,Ao⟩:=rb Af;show wpListIn _ _ _ _ _ _ _ _;refine I ?_;refine xi (q:=!q) Z (λH=>?_) (λH=>?_);have hq:q=false:=by simpa using H
 refine I ?_;exact Nf Z λv=>⟨⟨v,rfl⟩,.inr ⟨_,⟨_,wo hm E⟩,Ao hq⟩⟩;have hq:q=true:=by simpa using H
 obtain⟨hJ,hK⟩:=Ap hq;obtain⟨hb,hr⟩:=hK ⟨hb,hr⟩;refine I ?_;refine aa (jk (a:=(k:Int)-1) (b:=1) (c:=((k-1:Nat):Int)-1) Z Z JT U ?_);refine I ?_;exact bI ⟨k-1,pre++[⟨k-1,by omega⟩],rfl,rfl,U,(wo hm E),hJ,E9,hb,hr⟩;refine I ?_;exact sh Z λv=>⟨⟨v,rfl⟩,.inl ⟨pre,by rw[show k=0 by omega]at E;simpa using E,O⟩⟩
end Go.Proofs.YtlmihmlnpjkblaaGreatDoor
def nU {B:Nat}(hB:2<=B)(a:Nat):a<B^(ao B a).length:=(a7 B hB a _).1 (qa0 _)
def Ek {B:Nat}(hB:2<=B)(a b k:Nat)(ha:(ao B a).length<=k)(hb:(ao B b).length<=k):(ao B (a+b)).length<=k+1:=by
 rw[a7 B hB]at *
 have:B^(k+1)=B^k*B:=Nat.pow_succ ..
 have h2:B^k*2<=B^k*B:=Nat.mul_le_mul_left _ hB
 omega
def my {B:Nat}(hB:2<=B)(a m k:Nat)(ha:(ao B a).length<=k)(hm:m<B):(ao B (a*m)).length<=k+1:=by
 rw[a7 B hB]at *
 have h1:B^(k+1)=B^k*B:=Nat.pow_succ ..
 by_cases h0:a=0
 · subst h0
   have:=Nat.pow_pos (n:=k+1) (show 0<B by omega)
   omega
 · have:a*m<a*B:=(Nat.mul_lt_mul_left J).2 hm
   have h2:a*B<=B^k*B:=Nat.mul_le_mul_right B J
   omega
def ek {B:Nat}(hB:2<=B){a b:Nat}(h:a<=b):(ao B a).length<=(ao B b).length:=by
 rw[a7 B hB]
 exact Nat.lt_of_le_of_lt h (nU hB b)
def Gj {B:Nat}(hB:2<=B)(a:Nat)(h:0<a):ao B (a*B)=0::ao B a:=by
 rw[fO B _ hB (Nat.mul_pos h J),Nat.mul_mod_left,Nat.mul_div_cancel _ J]
def jo {B:Nat}(hB:2<=B){a:Nat}(h:(ao B a).length=0):a=0:=by
 rcases Nat.eq_zero_or_pos a with h0|h0
 · exact h0
 · rw[fO B a hB h0]at h;simp at h
def mz {B:Nat}(hB:2<=B){a:Nat}(h:0<(ao B a).length):0<a:=by
 rcases Nat.eq_zero_or_pos a with h0|h0
 · subst h0;simp[gq]at h
 · exact h0
def nC (a:Nat)(ys:List Nat)(pre:List Nat):Nat:=pre.foldl (λs i=>s*10000+a*ys.getD i 0) 0
def tL (a:Nat)(ys pre:List Nat)(x:Nat):nC a ys (pre++[x])=nC a ys pre*10000+a*ys.getD x 0:=by simp[nC]
def ws (a:Nat)(ys:List Nat):∀k s,k<=ys.length->(List.range k).reverse.foldl (λs i=>s*10000+a*ys.getD i 0) s=s*10000^k+a*bO 10000 (ys.take k)
 |0,s,_=>by simp[bO]
 | k+1,s,h=>by
   rw[List.range_succ,List.reverse_append]
   simp only[List.reverse_cons,List.reverse_nil,List.nil_append,List.cons_append,List.foldl_cons]
   rw[ws a ys k _ J,List.take_succ_eq_append_getElem J,b7]
   have hl:(ys.take k).length=k:=by simp;omega
   have E:ys.getD k 0=ys[k]:=by simp[show k<ys.length by omega]
   rw[hl,E]
   simp only[bO,Nat.mul_zero,Nat.add_zero,Nat.pow_succ]
   grind
def Gk (a:Nat)(ys:List Nat){n:Nat}(h:ys.length=n):nC a ys (List.range n).reverse=a*bO 10000 ys:=by
 unfold nC
 rw[ws a ys n 0 J,List.take_of_length_le J]
 simp
namespace Go.Proofs.YtlmihmlnpjkblaaGreatDoor
open Go Go.Eng Go.RowKit Tryz
variable {B D lo a n1 c1 a1 lo1 n2 c2 a2 lo2:Nat}{A1 A2:Option Addr}{W W' w w':World}
attribute [local irreducible] wpListIn Code.wpIn Oper.wpIn Exit.then Exit.inBlock Exit.noGoto
set_option maxHeartbeats 40000000
section
variable {w0:World}{A:Option Addr}{n c:Nat}
def qc.cel {row:Option Nat}(hg:W.grownBy W' row)(hr:∀r,row=some r->B<=r/\∃o:Obj,W.heap[r]?=some o/\o.isCells=false)(h:qc W lo A n c a):qc W' lo A n c a:=⟨h.row.cel hg hr,h.len,h.cap⟩
def qc.dfr (hK:li w D)(h:qc w lo A n c a):qc (w.putObj D (.deferred none)) lo A n c a:=⟨h.row.dfr hK,h.len,h.cap⟩
def qc.zero (w:World)(lo:Nat):qc w lo none 0 0 0:=⟨Rw.nil w lo,rfl,qa0 _⟩
def qc.hi (h:qc w lo A n c a):∀ad,A=some ad->ad.block<w.heap.size:=h.row.hi
def qc.le (h:qc w lo A n c a):(ao 10000 a).length<=n:=by rw[h.len];exact qa0 _
end
def dR (lo a:Nat)(v:Value)(w:World):Prop:=∃A n c,v=.slice A n c/\qc w lo A n c a
def dR.ext {v:Value}(k:aO w w')(h:dR lo a v w):dR lo a v w':=by
 obtain⟨A,n,c,e,h⟩:=h
 exact⟨A,n,c,e,h.ext k⟩
set_option maxRecDepth 100000 in
def Jc (h1:qc w lo1 A1 n1 c1 a1)(s1:n1<=10000)(h2:qc w lo2 A2 n2 c2 a2)(s2:n2<=10000):
 CL 141 #[.slice A1 n1 c1,.slice A2 n2 c2] w (aG w λv w'=>∃A n c,v=.slice A n c/\qc w' w.heap.size A n c (a1*a2)):=by
 refine ra func141 Z (I ?_);refine bx (λGC L3 H=>?_);have E4:=L3.2;refine I ?_;refine al BB (λG0 La A0=>?_);have⟨H,E4⟩:=bn La.2 H E4;refine I ?_;refine cl DR (j3 (A:=A2) (n:=n2) (c:=c2)) ?_;rintro _ E7 Li ⟨rfl,KY⟩;have⟨H,A0,E4⟩:=cj Li.2 H A0 E4;refine I ?_;refine se (m:=n2) (enc:=λx=>[.int .i64 x,.int .i64 (((ao 10000 a2).getD x 0:Nat):Int)]) (order:=(List.range n2).reverse) (Kq:=λW=>ap W G0.heap.size 159 #[.slice A2 n2 c2]/\Rw W lo2 A2 (ints (ao 10000 a2))) (gf:=207) (lb:=[pT G0.heap.size]) (ps:=[10,11]) Z DU (iN KY (h2.row.ext E4) h2.len U) (λW W' row hq Ar hr=>⟨ad4 Ar hr hq.1,Rw.cel Ar hr hq.2⟩) (λ_=>rfl) [7] (λx=>[.int .i64 (((ao 10000 a2).getD x 0:Nat):Int)]) ?asn (λpre W=>∃Av:Option Addr,∃Am:Nat,∃As:Nat,(Am<=n1+2+2*pre.length)/\(E7.heap.size<=W.heap.size)/\(aO w W)/\(ap W w.heap.size 159 #[.slice A1 n1 c1])/\(ap W GC.heap.size 159 #[.slice Av Am As])/\(qc W E7.heap.size Av Am As (nC a1 (ao 10000 a2) pre))) (λ_ _ _=>False) ?hI ?hIx ?h0 ?body ?done ?stop;case asn=>
  intro l x W K hK;refine I ?_;exact hK
 case hI=>
  rintro pre W W' row ⟨Av,Am,As,q1,E5,E,H,A0,hv⟩ Ar hr;exact⟨Av,Am,As,q1,qa8 E5 Ar.size,oS (B:=E7.heap.size) U Ar hr (bz E) E,ad4 Ar hr H,ad4 Ar hr A0,qc.cel Ar hr hv⟩
 case hIx=>
  exact λ_ _ _ _ _ h=>h.elim
 case h0=>
  exact⟨none,0,0,U,qa0 _,E4,H,A0,qc.zero _ _⟩
 case body=>
  rintro l pre x W ⟨Av,Am,As,q1,E5,E,H,A0,hv⟩ W1 hx T3;have Kp:=ez.refl [GC.heap.size] W;have zW:=bz E;have Q0:=hv.hi;have hd:=getD_lt h2.lt x;have EW:=ae1 A0;by_cases hz:Am=0;have E9:=jo (B:=10000) U (hv.len.trans U);refine I ?_;have hL:w.heap.size<=W.heap.size:=J
  refine bL 5 ?_;refine sf ?_;refine bR (λv w=>dR W.heap.size (a1*((ao 10000 a2).getD x 0)) v w) (hs:=λ_ _ _ k h=>h.ext k) (λ_ _ hR26 _=>?_) ?_;refine clb DT (hc:=Ej (h1.ext (xt E hR26)) U hd) (hk:=?_);rintro _ _ KM ⟨Ab,Ay,CY,rfl,Af⟩;have E31:=KM.2;have Af:=Af.mono (lo':=W.heap.size) (by have:=bz hR26;omega);refine I ?_;exact fs ⟨E31,⟨Ab,Ay,CY,rfl,Af⟩⟩;refine bR (λv w=>dR W.heap.size ((nC a1 (ao 10000 a2) pre)+a1*((ao 10000 a2).getD x 0)) v w) (hs:=λ_ _ _ k h=>h.ext k) (λ_ _ hR34 L1=>?_) ?_;obtain⟨Ab,Ay,CY,p36,Af⟩:=(L1 3 21 Z Z);have P2:Ay<=n1+1:=by rw[<-Af.len];exact my U _ _ _ h1.le hd
  have hv:=aa7 hR34 hv;refine clb y8 (hc:=oW hv U Af U) (hk:=?_) (hv:=av Z (av p36 Z));rintro _ _ L4 ⟨Ap,Aq,Ax,rfl,O⟩;have E40:=L4.2;have O:=O.mono (lo':=W.heap.size) (by have:=bz hR34;omega);refine I ?_;exact fs ⟨E40,⟨Ap,Aq,Ax,rfl,O⟩⟩;refine sf ?_;intro _ _ hR43 Ne;have H:=be hR43.2 H;have A0:=be hR43.2 A0;have E:=xt E hR43.2;have Kp:=ad5 Kp hR43.2;obtain⟨Ap,Aq,Ax,_,O⟩:=(Ne 4 22 Z Z);refine SO A0 (λ_ E0 L2=>?_);have H:=pb E0 H;have O:=ac4 E0 U O;have E:=bi E0 E;have Kp:=ad7 Kp E0 Rd;have Vm:=iM E0;refine I ?_;have P1:Aq<=n1+2+0:=by(rw[<-O.len];rw[E9];rw[Nat.zero_add];exact qa8 (my U _ _ _ h1.le hd) U)
  refine I ?_;exact⟨Kp.others kc1,λhq=>⟨Kp.blk q4 hq.1,Kp.rw (λCr e=>by have:=h2.hi Cr e;simp;omega) hq.2⟩,⟨Ap,Aq,Ax,q4,U,E,H,L2,(by rw[tL];rw[E9]at O ⊢;simpa using O.mono U)⟩⟩;have P0:=mz (B:=10000) U (a:=nC a1 (ao 10000 a2) pre) (by rw[hv.len];omega);refine I ?_;refine BS (λ_ Az _ FR=>?_);have H:=be Az H;have A0:=be Az A0;have hv:=aa7 Az hv;have E:=xt E Az;have Kp:=ad5 Kp Az;have Rm:=bz Az;refine I ?_;refine aa (jz (v:=.slice (some ⟨W.heap.size,0,none⟩) 1 1) (k:=1) gQ k7 Z dc Z FR Z hv.row (by rw[iX,hv.len];omega) tJ RC U U (λ_ H3 H2 C1 _=>?_));have H:=aa3 C1 RW H;have A0:=aa3 C1 RW A0;have hv:=qc.gr C1 (λCr e=>by have:=Q0 Cr e;simp[Value.ownBlock];omega) hv;have Kp:=ez.gr Kp C1 (λb hb=>by exact Or.inr (by simp[Value.ownBlock]at hb;omega));have E:=cL E C1 (bz E) (λg N0=>by have:=(FR.lt g N0).1;omega);have T2:=C1.size;obtain⟨Aw,Lk,rfl,No,VW,-,-⟩:=eM H2;have hs:=aa8 H2;have Ao:qc H3 W.heap.size Aw (1+Am) Lk (nC a1 (ao 10000 a2) pre*10000):=by(have e:=Gj (B:=10000) U _ P0;exact⟨by rw[e];exact hs,by rw[e,List.length_cons,hv.len];omega,No⟩)
  refine SO A0 (λE1 CG E6=>?_);have H:=pb CG H;have Ao:=ac4 CG U Ao;have E:=bi CG E;have Kp:=ad7 Kp CG Rd;have S0:=iM CG;refine I ?_;have hL:w.heap.size<=E1.heap.size:=J
  refine bL 5 ?_;refine sf ?_;refine bR (λv w=>dR E1.heap.size (a1*((ao 10000 a2).getD x 0)) v w) (hs:=λ_ _ _ k h=>h.ext k) (λ_ _ hR75 _=>?_) ?_;refine clb DT (hc:=Ej (h1.ext (xt E hR75)) U hd) (hk:=?_);rintro _ _ KC ⟨Ab,Ay,CY,rfl,Af⟩;have E80:=KC.2;have Af:=Af.mono (lo':=E1.heap.size) (by have:=bz hR75;omega);refine I ?_;exact fs ⟨E80,⟨Ab,Ay,CY,rfl,Af⟩⟩;refine bR (λv w=>dR E1.heap.size ((nC a1 (ao 10000 a2) pre*10000)+a1*((ao 10000 a2).getD x 0)) v w) (hs:=λ_ _ _ k h=>h.ext k) (λ_ _ hR83 H4=>?_) ?_;obtain⟨Ab,Ay,CY,K2,Af⟩:=(H4 3 21 Z Z);have P2:Ay<=n1+1:=by rw[<-Af.len];exact my U _ _ _ h1.le hd
  have Ao:=aa7 hR83 Ao;refine clb y8 (hc:=oW Ao U Af U) (hk:=?_) (hv:=av Z (av K2 Z));rintro _ _ Lj ⟨Ap,Aq,Ax,rfl,O⟩;have E89:=Lj.2;have O:=O.mono (lo':=E1.heap.size) (by have:=bz hR83;omega);refine I ?_;exact fs ⟨E89,⟨Ap,Aq,Ax,rfl,O⟩⟩;refine sf ?_;intro _ _ hR92 Ix;have H:=be hR92.2 H;have E6:=be hR92.2 E6;have Ao:=aa7 hR92.2 Ao;have E:=xt E hR92.2;have Kp:=ad5 Kp hR92.2;obtain⟨Ap,Aq,Ax,_,O⟩:=(Ix 4 22 Z Z);refine SO E6 (λ_ CB K3=>?_);have H:=pb CB H;have Ao:=ac4 CB U Ao;have O:=ac4 CB U O;have E:=bi CB E;have Kp:=ad7 Kp CB Rd;have S9:=iM CB;refine I ?_;have P1:Aq<=n1+3+2*pre.length+1+0:=by(rw[<-O.len];exact qa8 (Ek U _ _ (n1+3+2*pre.length) (by rw[Ao.len];omega) (qa8 (my U _ _ _ h1.le hd) U)) U)
  refine I ?_;exact⟨Kp.others kc1,λhq=>⟨Kp.blk q4 hq.1,Kp.rw (λCr e=>by have:=h2.hi Cr e;simp;omega) hq.2⟩,⟨Ap,Aq,Ax,q4,U,E,H,K3,(by rw[tL];exact O.mono U)⟩⟩
 case stop=>
  exact λ_ _ _ _ _ _ h _=>h.elim
 case done=>
  rintro D W hD ⟨Av,Am,As,q1,E5,E,H,A0,hv⟩ hK;have zW:=bz E;refine I ?_;have ES:=hv.dfr hK;rw[Gk _ _ h2.len,h2.val]at ES;exact Nc (t:=4) (v:=.slice Av Am As) hK Z E U ⟨Av,Am,As,rfl,ES.mono U⟩ Z
end Go.Proofs.YtlmihmlnpjkblaaGreatDoor
def aN (x y:Int):Int:=if x<y then -1 else if x=y then 0 else 1
def fV {x y:Int}(h:x<y):aN x y=-1:=by simp[aN,h]
def eK {x y:Int}(h:y<x):aN x y=1:=by
 unfold aN;rw[if_neg J,if_neg J]
def jp {x y:Int}(h:x=y):aN x y=0:=by
 unfold aN;rw[if_neg J,if_pos h]
def nV {x y u v:Int}(h1:x<y↔u<v)(h2:x=y↔u=v):aN x y=aN u v:=by
 unfold aN;simp only[h1,h2]
def NM {a b:Nat}(h:(ao 10000 a).length≠(ao 10000 b).length):aN (((ao 10000 a).length:Nat):Int) (((ao 10000 b).length:Nat):Int)=aN (a:Int) (b:Int):=by
 have h1:=@ek 10000 J a b
 have h2:=@ek 10000 J b a
 refine nV ⟨λk=>?_,λk=>?_⟩ ⟨λk=>?_,λk=>?_⟩
 · omega
 · omega
 · omega
 · have:a=b:=J
   subst this;rfl
def nD {n j:Nat}(h:j<n):(List.range n).reverse[j]?=some (n-1-j):=by
 rw[List.getElem?_reverse ka6,List.length_range,List.getElem?_range J]
def TB {p:List Nat}{x n:Nat}(h:p++[x] <+: (List.range n).reverse):x<n/\x=n-1-p.length/\p.length<n/\∀i,x<i->i<n->i∈p:=by
 have hl:p.length<n:=by have:=h.length_le;simp at this;omega
 have hx:(List.range n).reverse[p.length]?=some x:=by
  obtain⟨t,ht⟩:=h
  rw[<-ht];simp
 rw[nD hl]at hx
 have hx:n-1-p.length=x:=by simpa using hx
 refine⟨by omega,by omega,hl,λi _ _=>?_⟩
 have E:n-1-i<p.length:=J
 have:(List.range n).reverse[n-1-i]?=p[n-1-i]?:=by
  obtain⟨t,ht⟩:=h
  rw[<-ht,List.append_assoc,List.getElem?_append_left E]
 rw[nD J]at this
 have h3:n-1-(n-1-i)=i:=J
 rw[h3]at this
 exact qb0 this.symm
def wt (xs:List Nat){x:Nat}(h:x<xs.length):bO 10000 xs=bO 10000 (xs.take x)+10000^x*(xs.getD x 0+10000*bO 10000 (xs.drop (x+1))):=by
 have h1:xs=xs.take x++(xs.getD x 0::xs.drop (x+1)):=by
  have:xs.getD x 0=xs[x]:=by simp[h]
  rw[this,List.getElem_cons_drop,List.take_append_drop]
 conv=>lhs;rw[h1]
 rw[b7]
 have hl:(xs.take x).length=x:=by simp;omega
 rw[hl];rfl
def TC {xs ys p:List Nat}{x n:Nat}(hx:∀d∈xs,d<10000)(hy:∀d∈ys,d<10000)(hn:xs.length=n)(hm:ys.length=n)(hp:p++[x] <+: (List.range n).reverse)(he:∀i∈p,xs.getD i 0=ys.getD i 0)(hne:xs.getD x 0≠ys.getD x 0):
 aN ((xs.getD x 0:Nat):Int) ((ys.getD x 0:Nat):Int)=aN ((bO 10000 xs:Nat):Int) ((bO 10000 ys:Nat):Int):=by
 obtain⟨h1,-,-,h2⟩:=TB hp
 have hd:xs.drop (x+1)=ys.drop (x+1):=by
  apply List.ext_getElem
  · simp[hn,hm]
  · intro i h3 _
    have h3':x+1+i<xs.length:=by simp at h3;omega
    have h4':x+1+i<ys.length:=J
    have:=he _ (h2 (x+1+i) J J)
    simpa[h3',h4']using this
 rw[wt xs (x:=x) J,wt ys (x:=x) J,hd]
 have E:=lg 10000 (xs.take x) (λd hd=>hx d (List.mem_of_mem_take hd))
 have H:=lg 10000 (ys.take x) (λd hd=>hy d (List.mem_of_mem_take hd))
 have O:(xs.take x).length=x:=by simp;omega
 have A0:(ys.take x).length=x:=by simp;omega
 rw[O]at E;rw[A0]at H
 generalize bO 10000 (xs.take x)=s at *
 generalize bO 10000 (ys.take x)=t at *
 generalize bO 10000 (ys.drop (x+1))=u at *
 generalize xs.getD x 0=a at *
 generalize ys.getD x 0=b at *
 generalize 10000^x=B at *
 have key:∀s t a b:Nat,s<B->t<B->a<b->s+B*(a+10000*u)<t+B*(b+10000*u):=by
  intro s t a b _ _ _
  have:B*(a+10000*u)+B<=B*(b+10000*u):=by
   rw[<-Nat.mul_succ];exact Nat.mul_le_mul_left _ J
  omega
 rcases Nat.lt_or_gt_of_ne hne with h|h
 · rw[fV J,fV (by have:=key s t a b E H h;omega)]
 · rw[eK J,eK (by have:=key t s b a H E h;omega)]
def NN {a b n:Nat}(hn:(ao 10000 a).length=n)(hm:(ao 10000 b).length=n)(he:∀i∈(List.range n).reverse,(ao 10000 a).getD i 0=(ao 10000 b).getD i 0):a=b:=by
 have:ao 10000 a=ao 10000 b:=by
  apply List.ext_getElem
  · omega
  · intro i h1 h2
    have:=he i q4
    simpa[h1,h2]using this
 have h3:=qb2 (bO 10000) this
 rwa [cD 10000 J,cD 10000 J]at h3
namespace Go.Proofs.YtlmihmlnpjkblaaGreatDoor
variable {A1 A2:Option Addr}
set_option maxRecDepth 100000
open Go Go.Eng Go.RowKit Tryz
attribute [local irreducible] wpListIn Code.wpIn Oper.wpIn Exit.then Exit.inBlock Exit.noGoto
set_option maxHeartbeats 40000000
def Jd (x y:Int)(w:World):CL 171 #[.int .i64 x,.int .i64 y] w (aG w λv _=>v=.int .i64 (aN x y)):=by
 by_cases h:x<y
 · rw[fV h];exact Tz x y h w
 · by_cases h2:x=y
   · rw[jp h2];exact cmp_eq x y h2 w
   · rw[eK U];exact TA x y U w
def jF {n1 c1 a1 lo1:Nat}{w:World}(h1:qc w lo1 A1 n1 c1 a1)(s1:n1<=100000){n2 c2 a2 lo2:Nat}(h2:qc w lo2 A2 n2 c2 a2):
 CL 125 #[.slice A1 n1 c1,.slice A2 n2 c2] w (aG w λv w'=>v=.int .i64 (aN (a1:Int) (a2:Int))):=by
 by_cases E5:n1=n2;refine ra func125 Z (I ?_);refine bx (λAv E7 O=>?_);have E4:=E7.2;refine al k7 (λAz EW H=>?_);have⟨O,E4⟩:=bn EW.2 O E4;refine I ?_;refine cl DR (j3 (A:=A1) (n:=n1) (c:=c1)) ?_;rintro _ Ap CB ⟨rfl,E6⟩;have⟨O,H,E4⟩:=cj CB.2 O H E4;refine I ?_;refine se (m:=n1) (enc:=λx=>[.int .i64 x,.int .i64 (((ao 10000 a1).getD x 0:Nat):Int)]) (order:=(List.range n1).reverse) (Kq:=λW=>ap W Az.heap.size 159 #[.slice A1 n1 c1]/\Rw W lo1 A1 (ints (ao 10000 a1))) (gf:=207) (lb:=[pT Az.heap.size]) (ps:=[19,20]) Z DU (iN E6 (h1.row.ext E4) h1.len U) (λW W' row hq A0 hr=>⟨ad4 A0 hr hq.1,Rw.cel A0 hr hq.2⟩) (λ_=>rfl) [5,6] (λx=>[.int .i64 x,.int .i64 (((ao 10000 a1).getD x 0:Nat):Int)]) ?asn (λpre W=>(∀i∈pre,(ao 10000 a1).getD i 0=(ao 10000 a2).getD i 0)/\(Ap.heap.size<=W.heap.size)/\(aO w W)/\(ap W w.heap.size 159 #[.slice A2 n2 c2])/\(ap W Av.heap.size 3 #[.int .i64 (0)])) (λc pre W=>c=.ret/\∃p x,pre=p++[x]/\(∀i∈p,(ao 10000 a1).getD i 0=(ao 10000 a2).getD i 0)/\(ao 10000 a1).getD x 0≠(ao 10000 a2).getD x 0/\(Ap.heap.size<=W.heap.size)/\(aO w W)/\(ap W Av.heap.size 3 #[.int .i64 (aN (((ao 10000 a1).getD x 0:Nat):Int) (((ao 10000 a2).getD x 0:Nat):Int))])) ?hI ?hIx ?h0 ?body ?done ?stop;case asn=>
  intro l x W K hK;refine I ?_;exact hK
 case hI=>
  rintro pre W W' row ⟨q1,Af,E,O,H⟩ A0 hr;exact⟨q1,qa8 Af A0.size,oS (B:=Ap.heap.size) U A0 hr (bz E) E,ad4 A0 hr O,ad4 A0 hr H⟩
 case hIx=>
  rintro c pre W W' row ⟨rfl,p,x,rfl,q1,Aq,Af,E,H⟩ A0 hr;exact⟨rfl,p,x,rfl,q1,Aq,qa8 Af A0.size,oS (B:=Ap.heap.size) U A0 hr (bz E) E,ad4 A0 hr H⟩
 case h0=>
  exact⟨Wf,Nat.le_refl _,E4,O,H⟩
 case body=>
  rintro l pre x W ⟨q1,Af,E,O,H⟩ FR hx E5;have Kp:=ez.refl [Av.heap.size] W;have zW:=bz E;have Ay:=ae1 H;obtain⟨_,o,hA,hc⟩:=(h2.row.ext E).cells x _ (bE (xs:=(ao 10000 a2)) kd0);by_cases hne:(((ao 10000 a1).getD x 0:Nat):Int)=(((ao 10000 a2).getD x 0:Nat):Int);refine I ?_;refine aa (aB (i:=x) (oo:=o+x) gQ iT Z hA Z U U ?_);refine aa (bB (v:=.int .i64 (((ao 10000 a2).getD x 0:Nat):Int)) U3 Z Z hc ?_);refine I ?_;exact⟨Kp.others kc2,λhq=>⟨Kp.blk q4 hq.1,Kp.rw (λCY e=>by have:=h1.hi CY e;simp;omega) hq.2⟩,⟨(λi hi=>by rcases List.mem_append.1 hi with h|h;exact q1 i h;rw[List.mem_singleton.1 h];omega),U,E,O,H⟩⟩;refine I ?_;refine aa (aB (i:=x) (oo:=o+x) gQ iT Z hA Z U U ?_);refine aa (bB (v:=.int .i64 (((ao 10000 a2).getD x 0:Nat):Int)) U3 Z Z hc ?_);refine I ?_;refine aa (aB (i:=x) (oo:=o+x) gQ iT Z hA Z U U ?_);refine aa (bB (v:=.int .i64 (((ao 10000 a2).getD x 0:Nat):Int)) U3 Z Z hc ?_);refine cl QC (Jd _ _ _) ?_;rintro _ _ Ao rfl;have O:=be Ao.2 O;have H:=be Ao.2 H;have E:=xt E Ao.2
  have Kp:=ad5 Kp Ao.2;refine SO H (λ_ Am ES=>?_);have O:=pb Am O;have E:=bi Am E;have Kp:=ad7 Kp Am Rd;have G0:=iM Am;refine I ?_;exact⟨Kp.others kc2,rfl,pre,x,rfl,q1,U,U,E,ES⟩
 case stop=>
  rintro D c pre W hD CG ⟨rfl,p,x,rfl,q1,Aq,Af,E,H⟩ hK;have zW:=bz E;have Aw:=TC h1.lt h2.lt h1.len (h2.len.trans U) CG q1 Aq;rw[h1.val,h2.val]at Aw;refine I ?_;exact jD (v:=.int .i64 (aN (((ao 10000 a1).getD x 0:Nat):Int) (((ao 10000 a2).getD x 0:Nat):Int))) hK (bY Z (bC U3 Z Z (ab4 (H.dfr hK) Z))) ((dA _).low E U) (by rw[Aw])
 case done=>
  rintro D W hD ⟨q1,Af,E,O,H⟩ hK;have zW:=bz E;refine I ?_;refine SO H (λ_ As E9=>?_);have O:=pb As O;have hK:=ac7 As (hK.ne H) hK;have E:=bi As E;refine I ?_;exact jD (v:=.int .i64 0) hK (bY Z (bC U3 Z Z (ab4 (E9.dfr hK) Z))) ((dA _).low E U) (by rw[jp (by have:=NN h1.len (h2.len.trans U) q1;omega)])
 refine ra func125 Z (I ?_);refine bx (λ_ C1 Ab=>?_);have E24:=C1.2;refine al k7 (λ_ Cr Ar=>?_);have⟨Ab,E24⟩:=bn Cr.2 Ab E24;refine I ?_;refine cl QC (Jd _ _ _) ?_;rintro _ _ E1 rfl;have⟨Ab,Ar,E24⟩:=cj E1.2 Ab Ar E24;refine SO Ar (λ_ Ax E0=>?_);have Ab:=pb Ax Ab;have E24:=bi Ax E24;refine I ?_;exact xA (v:=.int .i64 (aN (n1:Int) (n2:Int))) (bY Z (bC U3 Z Z (ab4 E0 Z))) E24 (by have:=NM (a:=a1) (b:=a2) (by rw[h1.len,h2.len];omega);rw[h1.len,h2.len]at this;rw[this])
end Go.Proofs.YtlmihmlnpjkblaaGreatDoor
