/- Part of the proof of a statement about special functions. -/
import Derived.Test.YtgcfffdpcefifaaGreatDoorDecToEngQ
set_option linter.all false
namespace Go.Eng
open Go Go.RowKit
variable {xs:Array Operand}{ats:Array TypeId}{X q:Bool}{l:List Oper}{cs vs:List Value}{m c o j s o' M:Nat}{e e0:Nat->Value}{A:Option Addr}{p G G':Prop}{t tb u:TypeId}{a v b g v1 v2:Value}{w:World}
def Hv (a v:Value):Prop:=a=v
def Hv.of (h:a=v):Hv a v:=h
def Hv.str {l:List UInt8}:Hv (S l) (S l):=rfl
def Hv.ofk (h:a=v)(_:Hv v v):Hv a v:=h
def Hv.int {k:IntKind}{i:Int}:Hv (.int k i) (.int k i):=rfl
def Hv.slice :Hv (.slice A m c) (.slice A m c):=rfl
def Hv.agg {l:Array Value}:Hv (.agg l) (.agg l):=rfl
def Hv.pointer {b:Option Addr}:Hv (.pointer b) (.pointer b):=rfl
def Hv.bool {b:Bool}:Hv (.bool b) (.bool b):=rfl
def Hv.tuple {l:Array Value}:Hv (.tuple l) (.tuple l):=rfl
def Hv.iface :Hv (.iface t v) (.iface t v):=rfl
def Hv.func {f:Fn}{x y:Array Value}:Hv (.func f x y) (.func f x y):=rfl
def Hv.nilIface:Hv .nilIface .nilIface:=rfl
def xh (h:Hv a v:=by
 first
  |exact Hv.of (Z:_=S _)
  | (conv=>arg 1;whnf
     first
      | with_reducible first
        |exact Hv.int
        |exact Hv.slice
        |exact Hv.agg
        |exact Hv.pointer
        |exact Hv.bool
        |exact Hv.tuple
        |exact Hv.iface
        |exact Hv.func
        |exact Hv.nilIface
      |exact Hv.ofk (by with_reducible assumption) (by
       with_reducible first
       |exact Hv.int
       |exact Hv.slice
       |exact Hv.str
       |exact Hv.agg
       |exact Hv.pointer
       |exact Hv.bool
       |exact Hv.tuple
       |exact Hv.iface
       |exact Hv.func
       |exact Hv.nilIface))):a=v:=h
def fH (h:Hv a v:=by
 first
 |exact Hv.of Ve
 | (conv=>arg 1;whnf
    exact Hv.of (by with_reducible assumption))):a=v:=h
section
variable {P:Program}{r:Option Nat}{n N:Nat}{ds:List Deferred}{Q:Exit->Act->World->Prop}{K:Act->World->Prop}{a:Act}
variable {ops:Array Oper}{rest:List Oper}{dst:Option Tmp}{op:Op}{d ty:Nat}{pos:String}{af:Array Edge}{id:Nat}{c c1 c2:Code}{x y:Operand}
def yS (hk:wpListIn (Fw r) n P ops Q rest (act N (upd e d v) ds) w)(hx:ev N e x=v:=by exact xh):wpListIn (Fw r) n P ops Q (⟨some d,.move x,ty,pos,af,none⟩::rest) (act N e ds) w:=ab (cW hx hk)
def sL (hk:wpListIn (Fw r) n P ops Q rest (act N (upd e d v) ds) w)(hx:ev N e x=v:=by exact xh):wpListIn (Fw r) n P ops Q (⟨some d,.assign x,ty,pos,af,none⟩::rest) (act N e ds) w:=ab (bJ hx hk)
def yT (hk:wpListIn (Fw r) n P ops Q rest (act N (upd e d v) ds) w)(hx:ev N e x=.tuple #[v,b]:=by exact fH):wpListIn (Fw r) n P ops Q (⟨some d,.extract x 0,ty,pos,af,none⟩::rest) (act N e ds) w:=ab (en hx Z hk)
def yU (hk:wpListIn (Fw r) n P ops Q rest (act N (upd e d v) ds) w)(hx:ev N e x=.tuple #[b,v]:=by exact fH):wpListIn (Fw r) n P ops Q (⟨some d,.extract x 1,ty,pos,af,none⟩::rest) (act N e ds) w:=ab (en hx Z hk)
def yV {c:Value}(hk:wpListIn (Fw r) n P ops Q rest (act N (upd e d v) ds) w)(hx:ev N e x=.tuple #[v,b,c]:=by exact fH):wpListIn (Fw r) n P ops Q (⟨some d,.extract x 0,ty,pos,af,none⟩::rest) (act N e ds) w:=ab (en hx Z hk)
def yW {c:Value}(hk:wpListIn (Fw r) n P ops Q rest (act N (upd e d v) ds) w)(hx:ev N e x=.tuple #[b,v,c]:=by exact fH):wpListIn (Fw r) n P ops Q (⟨some d,.extract x 1,ty,pos,af,none⟩::rest) (act N e ds) w:=ab (en hx Z hk)
def yX {c:Value}(hk:wpListIn (Fw r) n P ops Q rest (act N (upd e d v) ds) w)(hx:ev N e x=.tuple #[b,c,v]:=by exact fH):wpListIn (Fw r) n P ops Q (⟨some d,.extract x 2,ty,pos,af,none⟩::rest) (act N e ds) w:=ab (en hx Z hk)
def yY {c:Value}(hk:wpListIn (Fw r) n P ops Q rest (act N (upd e d v) ds) w)(hx:ev N e x=.tuple #[v,b,c,g]:=by exact fH):wpListIn (Fw r) n P ops Q (⟨some d,.extract x 0,ty,pos,af,none⟩::rest) (act N e ds) w:=ab (en hx Z hk)
def yZ {c:Value}(hk:wpListIn (Fw r) n P ops Q rest (act N (upd e d v) ds) w)(hx:ev N e x=.tuple #[b,v,c,g]:=by exact fH):wpListIn (Fw r) n P ops Q (⟨some d,.extract x 1,ty,pos,af,none⟩::rest) (act N e ds) w:=ab (en hx Z hk)
def y0 {c:Value}(hk:wpListIn (Fw r) n P ops Q rest (act N (upd e d v) ds) w)(hx:ev N e x=.tuple #[b,c,v,g]:=by exact fH):wpListIn (Fw r) n P ops Q (⟨some d,.extract x 2,ty,pos,af,none⟩::rest) (act N e ds) w:=ab (en hx Z hk)
def y5 {c:Value}(hk:wpListIn (Fw r) n P ops Q rest (act N (upd e d v) ds) w)(hx:ev N e x=.tuple #[b,c,g,v]:=by exact fH):wpListIn (Fw r) n P ops Q (⟨some d,.extract x 3,ty,pos,af,none⟩::rest) (act N e ds) w:=ab (en hx Z hk)
def Gq (P:Program)(t:TypeId):Bool:=match P.underlying t with|some (.slice _)=>true|_=>false
def xi {P:Program}(h:Gq P t=true):∃D,P.underlying t=some (.slice D):=by
 unfold Gq at h;split at h
 · rename_i D hh;exact⟨D,hh⟩
 · cases h
def q_len {c:Nat}(hk:wpListIn (Fw r) n P ops Q rest (act N (upd e d (.int .i64 m)) ds) w)(hx:ev N e x=.slice A m c:=by exact fH)(hu:Gq P t=true:=by decide +kernel):
 wpListIn (Fw r) n P ops Q (⟨some d,.call {callee:=.builtin .len,args:=#[x],argTypes:=#[t]},ty,pos,af,none⟩::rest) (act N e ds) w:=by obtain⟨D,h⟩:=xi hu;exact ab (Ic h hx hk)
def EE {b:Nat}(hk:wpListIn (Fw r) n P ops Q rest (act N (upd e d (.pointer (some ⟨b,o,none⟩))) ds) w)(hx:ev N e x=.pointer (some ⟨b,o,none⟩):=by exact fH):wpListIn (Fw r) n P ops Q (⟨some d,.nilCheck x,ty,pos,af,none⟩::rest) (act N e ds) w:=ab (uB hx hk)
def nth:List Value->Nat->Option Value
 |[],_=>none
 |a::_,0=>some a
 |_::l,i+1=>nth l i
def y6:∀(l:List Value) (i:Nat),nth l i=l[i]?
 |[],_=>rfl
 |_::_,0=>rfl
 |_::l,i+1=>by simpa[nth]using y6 l i
def rl:List Value->Nat->Option (Value×Value)
 |a::b::_,0=>some (a,b)
 |_::l,i+1=>rl l i
 |_,_=>none
def vI:∀(l:List Value) (i:Nat) (u v:Value),rl l i=some (u,v)->l[i]?=some u/\l[i+1]?=some v
 |[],0,u,v,h=>by simp[rl]at h
 |[],_+1,u,v,h=>by simp[rl]at h
 |[_],0,u,v,h=>by simp[rl]at h
 |a::b::_,0,u,v,h=>by simp only[rl,Option.some.injEq,Prod.mk.injEq]at h;obtain⟨rfl,rfl⟩:=h;exact⟨rfl,rfl⟩
 |_::l,i+1,u,v,h=>by have:=vI l i u v (by simpa[rl]using h);simpa using this
def jd (P:Program)(t:TypeId):Option Bool:=(P.underlying t).map (·.isRow)
def qu {P:Program}{b:Bool}(h:jd P t=some b):∃D,P.underlying t=some D/\D.isRow=b:=by
 unfold jd at h;cases hh:P.underlying t with
 |none=>simp[hh]at h
 |some D=>exact⟨D,rfl,by simpa[hh]using h⟩
def y7 {b:Nat}(hk:wpListIn (Fw r) n P ops Q rest (act N (upd e d v) ds) w)(hx:ev N e x=.pointer (some ⟨b,o,none⟩):=by exact fH)(hb:ae w b tb cs.toArray:=by with_reducible assumption)(hv:nth cs o=some v:=by exact Z)(hu:jd P t=some false:=by decide +kernel):
 wpListIn (Fw r) n P ops Q (⟨some d,.load t x,ty,pos,af,none⟩::rest) (act N e ds) w:=by
 obtain⟨D,h1,E⟩:=qu hu
 exact ab (aT h1 E hx (hb.cell (by rw[<-hv,y6];simp)) hk)
def vJ {b:Nat}(hk:wpListIn (Fw r) n P ops Q rest (act N (upd e d (.agg #[v1,v2])) ds) w)(hx:ev N e x=.pointer (some ⟨b,o,none⟩):=by exact fH)(hb:ae w b tb cs.toArray:=by with_reducible assumption)(hv:rl cs o=some (v1,v2):=by exact Z)(hu:jd P t=some true:=by decide +kernel)(hi:(P.info? t).map (·.size)=some 2:=by decide +kernel):
 wpListIn (Fw r) n P ops Q (⟨some d,.load t x,ty,pos,af,none⟩::rest) (act N e ds) w:=by
 obtain⟨D,h1,H⟩:=qu hu
 obtain⟨kk,O⟩:=vI _ _ _ _ hv
 exact ab (aX (cs:=[v1,v2]) h1 H hi hx (λj u E=>by
  match j,E with
  |0,E=>simp at E;subst E;exact hb.cell (by simpa using kk)
  |1,E=>simp at E;subst E;exact hb.cell (by simpa using O)
  |j+2,E=>simp at E) hk)
def KL {b:Bool}(h:b=false):(!b)=true:=by rw[h];rfl
def KM {b:Bool}(h:b=true):(!b)=false:=by rw[h];rfl
def xj {i:Decidable p}(h:p): @decide p i=true:=by simpa using h
def xk {i:Decidable p}(h:¬p): @decide p i=false:=by simpa using h
def zb (h:X=q:=by
 first
 | with_reducible first
   |exact Z
   |assumption
   |exact xj VB
   |exact xk VB
   |exact KL (by first|exact rfl|assumption|exact xk VB)
   |exact KM (by first|exact rfl|assumption|exact xj VB)
 |decide +kernel):X=q:=h
def KN (h:c1.wpIn (Fw r) n P Q (act N e ds) w)(hx:ev N e x=.bool q:=by exact fH)(hq:q=true:=by exact zb):(Code.cond x c1 c2).wpIn (Fw r) n P Q (act N e ds) w:=qW (by rw[hx,hq]) h
def KO (h:c2.wpIn (Fw r) n P Q (act N e ds) w)(hx:ev N e x=.bool q:=by exact fH)(hq:q=false:=by exact zb):(Code.cond x c1 c2).wpIn (Fw r) n P Q (act N e ds) w:=lh (by rw[hx,hq]) h
def Gr {b:Bool}(hk:wpListIn (Fw r) n P l.toArray Q (⟨dst,op,ty,pos,af,none⟩::rest) (act N e ds) w)(hj:cT l j=some s:=by exact Z)(hv:ev N e (.tmp s)=.bool b:=by exact fH)(hb:b=q:=by exact zb):wpListIn (Fw r) n P l.toArray Q (⟨dst,op,ty,pos,af,some (j,q)⟩::rest) (act N e ds) w:=og hj (by rw[hv,hb]) hk
def IP {b:Bool}(hk:wpListIn (Fw r) n P l.toArray Q rest (act N (upd e d undef) ds) w)(hj:cT l j=some s:=by exact Z)(hv:ev N e (.tmp s)=.bool b:=by exact fH)(hb:b= !q:=by first|with_reducible assumption|(show _=true;exact zb)|(show _=false;exact zb)):wpListIn (Fw r) n P l.toArray Q (⟨some d,op,ty,pos,af,some (j,q)⟩::rest) (act N e ds) w:=mO hj (by rw[hv,hb]) hk
def vK {c a b:Operand}{t:Bool}(hk:wpListIn (Fw r) n P ops Q rest (act N (upd e d v) ds) w)(hc:ev N e c=.bool t:=by exact fH)(ht:t=true:=by exact zb)(hv:ev N e a=v:=by exact xh):
 wpListIn (Fw r) n P ops Q (⟨some d,.pick c a b,ty,pos,af,none⟩::rest) (act N e ds) w:=ab (nY (t:=true) (by rw[hc,ht]) (by simpa using hv) hk)
def vL {c a b:Operand}{t:Bool}(hk:wpListIn (Fw r) n P ops Q rest (act N (upd e d v) ds) w)(hc:ev N e c=.bool t:=by exact fH)(ht:t=false:=by exact zb)(hv:ev N e b=v:=by exact xh):
 wpListIn (Fw r) n P ops Q (⟨some d,.pick c a b,ty,pos,af,none⟩::rest) (act N e ds) w:=ab (nY (t:=false) (by rw[hc,ht]) (by simpa using hv) hk)
def vM {b:Nat}(hk:wpListIn (Fw r) n P ops Q rest (act N (upd e d v) ds) w)(hx:ev N e x=.pointer (some ⟨b,o,none⟩):=by exact fH)(hc:A=some ⟨b,o',none⟩/\w.cell? ⟨b,o,none⟩=some v:=by with_reducible assumption)(hu:jd P t=some false:=by decide +kernel):wpListIn (Fw r) n P ops Q (⟨some d,.load t x,ty,pos,af,none⟩::rest) (act N e ds) w:=by
 obtain⟨D,h1,E⟩:=qu hu
 exact ab (aT h1 E hx hc.2 hk)
def sM {b:Nat}(hk:wpListIn (Fw r) n P ops Q rest (act N (upd e d (.agg #[v1,v2])) ds) w)(hx:ev N e x=.pointer (some ⟨b,o,none⟩):=by exact fH)(hc:A=some ⟨b,o',none⟩/\∀j u,[v1,v2][j]?=some u->w.cell? ⟨b,o+j,none⟩=some u:=by with_reducible assumption)(hu:jd P t=some true:=by decide +kernel)(hi:(P.info? t).map (·.size)=some 2:=by decide +kernel):
 wpListIn (Fw r) n P ops Q (⟨some d,.load t x,ty,pos,af,none⟩::rest) (act N e ds) w:=by
 obtain⟨D,h1,E⟩:=qu hu
 exact ab (aX (cs:=[v1,v2]) h1 E hi hx hc.2 hk)
variable {k:IntKind}{i j:Int}{b b':Bool}
def lss (hk:wpListIn (Fw r) n P ops Q rest (act N (upd e d (.bool (decide (i<j)))) ds) w)(hx:ev N e x=.int k i:=by exact fH)(hy:ev N e y=.int k j:=by exact fH):wpListIn (Fw r) n P ops Q (⟨some d,.binOp .lss t x y u,ty,pos,af,none⟩::rest) (act N e ds) w:=ab (Ie hx hy Z hk)
def leq (hk:wpListIn (Fw r) n P ops Q rest (act N (upd e d (.bool (decide (i<=j)))) ds) w)(hx:ev N e x=.int k i:=by exact fH)(hy:ev N e y=.int k j:=by exact fH):wpListIn (Fw r) n P ops Q (⟨some d,.binOp .leq t x y u,ty,pos,af,none⟩::rest) (act N e ds) w:=ab (If hx hy Z hk)
def gtr (hk:wpListIn (Fw r) n P ops Q rest (act N (upd e d (.bool (decide (j<i)))) ds) w)(hx:ev N e x=.int k i:=by exact fH)(hy:ev N e y=.int k j:=by exact fH):wpListIn (Fw r) n P ops Q (⟨some d,.binOp .gtr t x y u,ty,pos,af,none⟩::rest) (act N e ds) w:=ab (Eh hx hy Z hk)
def geq (hk:wpListIn (Fw r) n P ops Q rest (act N (upd e d (.bool (decide (j<=i)))) ds) w)(hx:ev N e x=.int k i:=by exact fH)(hy:ev N e y=.int k j:=by exact fH):wpListIn (Fw r) n P ops Q (⟨some d,.binOp .geq t x y u,ty,pos,af,none⟩::rest) (act N e ds) w:=ab (Ig hx hy Z hk)
def eql (hk:wpListIn (Fw r) n P ops Q rest (act N (upd e d (.bool (decide (i=j)))) ds) w)(hx:ev N e x=.int k i:=by exact fH)(hy:ev N e y=.int k j:=by exact fH):wpListIn (Fw r) n P ops Q (⟨some d,.binOp .eql t x y u,ty,pos,af,none⟩::rest) (act N e ds) w:=ab (Ih hx hy Z hk)
def neq (hk:wpListIn (Fw r) n P ops Q rest (act N (upd e d (.bool (!decide (i=j)))) ds) w)(hx:ev N e x=.int k i:=by exact fH)(hy:ev N e y=.int k j:=by exact fH):wpListIn (Fw r) n P ops Q (⟨some d,.binOp .neq t x y u,ty,pos,af,none⟩::rest) (act N e ds) w:=ab (Ii hx hy Z hk)
def nt (hk:wpListIn (Fw r) n P ops Q rest (act N (upd e d (.bool (!b))) ds) w)(hx:ev N e x=.bool b:=by exact fH):wpListIn (Fw r) n P ops Q (⟨some d,.unOp .not t x,ty,pos,af,none⟩::rest) (act N e ds) w:=ab (Ij hx Z hk)
def k0 {a b:List UInt8}(hk:wpListIn (Fw r) n P ops Q rest (act N (upd e d (.bool (decide (a=b)))) ds) w)(hx:ev N e x=S a:=by exact fH)(hy:ev N e y=S b:=by exact fH):wpListIn (Fw r) n P ops Q (⟨some d,.binOp .eql t x y u,ty,pos,af,none⟩::rest) (act N e ds) w:=ab (uj hx hy Z hk)
def KP {a b:List UInt8}(hk:wpListIn (Fw r) n P ops Q rest (act N (upd e d (.bool (!decide (a=b)))) ds) w)(hx:ev N e x=S a:=by exact fH)(hy:ev N e y=S b:=by exact fH):wpListIn (Fw r) n P ops Q (⟨some d,.binOp .neq t x y u,ty,pos,af,none⟩::rest) (act N e ds) w:=ab (oc hx hy Z hk)
def xl (hk:wpListIn (Fw r) n P ops Q rest (act N (upd e d (.int .i64 (i+j))) ds) w)(hx:ev N e x=.int .i64 i:=by exact fH)(hy:ev N e y=.int .i64 j:=by exact fH)(hr:In64 (i+j):=by unfold In64;omega):wpListIn (Fw r) n P ops Q (⟨some d,.binOp .add t x y u,ty,pos,af,none⟩::rest) (act N e ds) w:=ab (bb hx hy hr Z hk)
def oO (hk:wpListIn (Fw r) n P ops Q rest (act N (upd e d (.int .i64 (i-j))) ds) w)(hx:ev N e x=.int .i64 i:=by exact fH)(hy:ev N e y=.int .i64 j:=by exact fH)(hr:In64 (i-j):=by unfold In64;omega):wpListIn (Fw r) n P ops Q (⟨some d,.binOp .sub t x y u,ty,pos,af,none⟩::rest) (act N e ds) w:=ab (fg hx hy hr Z hk)
def cl {R:Value->World->Prop}{f:FuncId}(hf:Enters P f)(hc:Calls P f vs.toArray w (aH w R))(hk:∀v w',a8 w w'->R v w'->wpListIn (Fw r) n P ops Q rest (act N (upd e d v) ds) w')(hv:xs.toList.map (ev N e)=vs:=by exact Z):
 wpListIn (Fw r) n P ops Q (⟨some d,.call ⟨.value (.func f),xs,ats⟩,ty,pos,af,none⟩::rest) (act N e ds) w:=ab (ol hf hv hc hk)
def clb {R:Value->World->Prop}{f:FuncId}(hf:Enters P f)(hv:xs.toList.map (ev N e)=vs:=by exact Z)(hc:Calls P f vs.toArray w (aH w R))(hk:∀v w',a8 w w'->R v w'->wpListIn (Fw r) n P ops Q rest (act N (upd e d v) ds) w'):
 wpListIn (Fw r) n P ops Q (⟨some d,.call ⟨.value (.func f),xs,ats⟩,ty,pos,af,none⟩::rest) (act N e ds) w:=ab (ol hf hv hc hk)
def ov (f:Nat->Bool)(e e0:Nat->Value):Nat->Value:=λt=>match f t with|true=>e t|false=>e0 t
def ix {f:Nat->Bool}{t:Nat}(h:ov f e e0 t=v)(hf:f t=true:=by exact Z):e t=v:=by unfold ov at h;rw[hf]at h;exact h
def cz {f:Nat->Bool}(h:∀t,f t=false->e t=e0 t):∃e',e=ov f e' e0:=⟨e,funext λt=>by unfold ov;split <;>rename_i hh;rfl;exact h t hh⟩
end
structure Hd (p:Prop):Prop where
 out:p
def I (h:G')(k:Hd G'->G:=by
 intro h
 repeat first
  | with_reducible first
    |refine mf ?_
    |refine pW ?_
    |refine ss ?_
    |refine vq ?_
    |refine vr ?_
    |refine oh ?_
    |refine yb ?_
    |refine Ek ?_
    |refine Im ?_
    |refine Cd ?_
    |refine yc ?_
    |refine Ik ?_
    |refine yd ?_
    |refine Io ?_
    |refine Cc ?_
    |refine yQ ?_
    |refine IN ?_
    |refine Cg ?_
    |refine uE ?_
    |refine wpIn_label ?_
  |refine yS ?_
  |refine sL ?_
  |refine Gr ?_
  |refine IP ?_
  |refine vK ?_
  |refine vL ?_
  |refine y7 ?_
  |refine vJ ?_
  |refine vM ?_
  |refine sM ?_
  |refine q_len ?_
  |refine yT ?_
  |refine yU ?_
  |refine yV ?_
  |refine yW ?_
  |refine yX ?_
  |refine yY ?_
  |refine yZ ?_
  |refine y0 ?_
  |refine y5 ?_
  |refine EE ?_
  |refine pW ?_
  |refine Il Z ?_
  |refine KN ?_
  |refine KO ?_
 exact h.out):G:=k ⟨h⟩
inductive Ph where
 |pv (v:Value)
 |ph (p:Value->World->Prop)
def Ph.ok:Ph->Value->World->Prop
 | .pv v,x,_=>x=v
 | .ph p,x,w=>p x w
def Ph.val:Ph->Value->Value
 | .pv v,_=>v
 | .ph _,x=>x
def IQ:List Ph->Nat->Value->Value
 |[],_,x=>x
 |φ::_,0,x=>φ.val x
 |_::φs,j+1,x=>IQ φs j x
def oP:List Ph->Nat->Value->World->Prop
 |[],_,_,_=>True
 |φ::_,0,x,w=>φ.ok x w
 |_::φs,j+1,x,w=>oP φs j x w
def y8:List Oper->Nat->Nat->Option Nat
 |[],_,_=>none
 | o ::os,t,j=>match o.dst with
   | some d=>match Nat.beq d t with
     |true=>some j
     |false=>y8 os t (j+1)
   |none=>y8 os t (j+1)
def fr (l:List Oper)(M:Nat)(Φ:List Ph)(sel:Nat->Bool)(e e0:Nat->Value):Nat->Value:=λt=>
 match y8 (l.take M) t 0 with
 |none=>e0 t
 | some j=>match sel j with
   |true=>IQ Φ j (e t)
   |false=>e t
def sN (R:World->World->Prop)(φ:Ph):Prop:=∀v w w',R w w'->φ.ok v w->φ.ok v w'
def y9 :∀(Φ:List Ph) (j:Nat) (x:Value),oP Φ j x w->IQ Φ j x=x
 |[],_,_,_=>rfl
 | .pv v::_,0,_,h=>Eq.symm h
 | .ph _::_,0,_,_=>rfl
 |_::Φ,j+1,x,h=>y9 Φ j x h
def oQ:∀(os:List Oper) (t j k:Nat),y8 os t j=some k->∃i,k=j+i/\(os[i]?).bind (·.dst)=some t
 |[],_,_,_,h=>by simp[y8]at h
 | o ::os,t,j,k,h=>by
   unfold y8 at h
   split at h
   · rename_i d hd
     split at h
     · rename_i hb
       cases h
       exact⟨0,rfl,by simp[hd,Nat.eq_of_beq_eq_true hb]⟩
     · obtain⟨i,h1,h2⟩:=oQ os t (j+1) k h
       exact⟨i+1,by omega,by simpa using h2⟩
   · obtain⟨i,h1,h2⟩:=oQ os t (j+1) k h
     exact⟨i+1,by omega,by simpa using h2⟩
def oR:∀(os:List Oper) (t j:Nat),y8 os t j=none->(os.any λo=>match o.dst with|some d=>Nat.beq d t|none=>false)=false
 |[],_,_,_=>rfl
 | o ::os,t,j,h=>by
   unfold y8 at h
   rw[List.any_cons]
   split at h
   · rename_i d hd
     split at h
     · cases h
     · rename_i hb
       rw[oR os t (j+1) h,hb];rfl
   · rename_i hd
     rw[oR os t (j+1) h];rfl
def EF {Φ:List Ph}{sel:Nat->Bool}(hs:∀t,ot l M t=false->e t=e0 t)(hp:∀j d,Nat.blt j M=true->sel j=true->cT l j=some d->oP Φ j (e d) w):e=fr l M Φ sel e e0:=by
 funext t
 unfold fr
 split
 · rename_i h
   exact hs t (oR _ _ _ h)
 · rename_i j h
   obtain⟨i,_,hd⟩:=oQ _ _ _ _ h
   have D:j=i:=J
   subst D
   split
   · rename_i hq
     have E:j<M:=by
      rcases Nat.lt_or_ge j M with h1|h1
      · exact h1
      · rw[List.getElem?_eq_none Va]at hd;cases hd
     rw[List.getElem?_take,if_pos E]at hd
     exact(y9 Φ j _ (hp j t (by rwa [Nat.blt_eq]) hq hd)).symm
   · rfl
section draws
variable {P:Program}{r:Option Nat}{n N:Nat}{ds:List Deferred}{w0:World}{Q:Exit->Act->World->Prop}{Φ:List Ph}{R:World->World->Prop}{k3:(Nat->Bool)->(Nat->Value)->World->Prop}
def za (Q:Exit->Act->World->Prop)(N:Nat)(ds:List Deferred)(R:World->World->Prop)(k3:(Nat->Bool)->(Nat->Value)->World->Prop)(w:World)(ls:Nat->Bool)(i:Nat)(φ:Ph)(o:Oper)(e f:Nat->Value):Exit->Act->World->Prop:=λx a' w'=>
 (x=.normal/\∃v,a'=(act N f ds).put o.dst v/\R w w'/\φ.ok v w'/\k3 (gH ls i) (jw e o.dst v) w')\/(∃c,x=.panic c/\Q (.panic c) a' w')
def Kv (Q:Exit->Act->World->Prop)(r:Option Nat)(n:Nat)(P:Program)(N:Nat)(ds:List Deferred)(l:List Oper)(M:Nat)(Φ:List Ph)(R:World->World->Prop)(k3:(Nat->Bool)->(Nat->Value)->World->Prop)(e0:Nat->Value)(w0:World):Nat->List Oper->List Ph->Prop
 |_,[],_=>True
 |_,_::_,[]=>False
 |i,o::os,φ::φs=>(sN R φ/\∀(e:Nat->Value) (w:World) (ls:Nat->Bool),R w0 w->k3 ls e w->(∀j k,ck l j k=true->ls j=true->ls k=true)->ls i=false->(∀k,ck l i k=true->ls k=true)->(∀j d,ca o j=true->cT l j=some d->oP Φ j (e d) w)->
  wpListIn (Fw r) n P l.toArray (za Q N ds R k3 w ls i φ o e (fr l M Φ (ca o) e e0)) [o] (act N (fr l M Φ (ca o) e e0) ds) w)/\Kv Q r n P N ds l M Φ R k3 e0 w0 (i+1) os φs
def rm:∀(os:List Oper) (φs:List Ph) (i0:Nat),Kv Q r n P N ds l M Φ R k3 e0 w0 i0 os φs->∀i o,os[i]?=some o->∃φ,φs[i]?=some φ/\sN R φ/\
 ∀ (e:Nat->Value) (w:World) (ls:Nat->Bool),R w0 w->k3 ls e w->(∀j k,ck l j k=true->ls j=true->ls k=true)->ls (i0+i)=false->(∀k,ck l (i0+i) k=true->ls k=true)->(∀j d,ca o j=true->cT l j=some d->oP Φ j (e d) w)->
  wpListIn (Fw r) n P l.toArray (za Q N ds R k3 w ls (i0+i) φ o e (fr l M Φ (ca o) e e0)) [o] (act N (fr l M Φ (ca o) e e0) ds) w
 |[],_,_,_,i,o,ho=>by simp at ho
 |_::_,[],_,h,_,_,_=>h.elim
 |o'::os,φ::φs,i0,h,0,o,ho=>by simp at ho;subst ho;exact⟨φ,rfl,h.1⟩
 | o'::os,φ::φs,i0,h,i+1,o,ho=>by
   obtain⟨ψ,h1,h2⟩:=rm os φs (i0+1) h.2 i o VG
   rw[show i0+1+i=i0+(i+1)by omega]at h2
   exact⟨ψ,by simpa using h1,h2⟩
def mS {k3:(Nat->Bool)->(Nat->Value)->World->Prop}:∀(os:List Oper) (i0:Nat),
 (∀i o,os[i]?=some o->∀(e:Nat->Value) (w:World) (ls:Nat->Bool),k3 ls e w->(∀j k,ck l j k=true->ls j=true->ls k=true)->ls (i0+i)=false->(∀k,ck l (i0+i) k=true->ls k=true)->
  wpListIn (Fw r) n P l.toArray (λx a' w'=>(x=.normal/\∃v,a'=(act N e ds).put o.dst v/\k3 (gH ls (i0+i)) (jw e o.dst v) w')\/(∃c,x=.panic c/\Q (.panic c) a' w')) [o] (act N e ds) w)->rk Q r n P N ds l k3 i0 os
 |[],_,_=>trivial
 |o::os,i0,h=>⟨h 0 o Z,mS os (i0+1) λi o ho=>by rw[show i0+1+i=i0+(i+1)by omega];exact h (i+1) o VG⟩
def nC:∀(Φ:List Ph) (i:Nat) (φ:Ph) (v:Value) (w:World),Φ[i]?=some φ->(oP Φ i v w↔φ.ok v w)
 |[],_,_,_,_,h=>by simp at h
 |ψ::_,0,φ,v,w,h=>by simp at h;subst h;exact Iff.rfl
 |_::Φ,i+1,φ,v,w,h=>nC Φ i φ v w VJ
def mm {o:Oper}{a:Act}{A B:Exit->Act->World->Prop}(h:wpListIn (Fw r) n P l.toArray A [o] a w)(hk:∀x a w,A x a w->B x a w):wpListIn (Fw r) n P l.toArray B [o] a w:=by
 unfold wpListIn at h ⊢
 split
 · rename_i hw
   rw[if_pos hw]at h
   exact gX (λa w h=>hk _ _ _ h) (λc a w h=>hk _ _ _ h) (λa w h=>hk _ _ _ h) h
 · rename_i hw
   rw[if_neg hw]at h
   exact⟨h.1,hk _ _ _ h.2⟩
def IR {id :Nat}(hm:P.follows .mixedOrders=true)(hR0:R w0 w0.drew)(hRt:∀a b c,R a b->R b c->R a c)(hJ0:k3 (λ_=>false) e0 w0.drew)(hwf:El l=true)(hshape:it l M=true)(hdst:FD l M=true)(hstep:Kv Q r n P N ds l M Φ R k3 e0 w0 0 (l.take M) Φ)(hfin:∀(e:Nat->Value) (w:World) (ls:Nat->Bool),R w0 w->k3 ls e w->(∀j,Nat.blt j M=true->ls j=true)->(∀j d,Nat.blt j M=true->cT l j=some d->oP Φ j (e d) w)->
 wpListIn (Fw r) n P l.toArray Q (l.drop M) (act N (fr l M Φ (λj=>Nat.blt j M) e e0) ds) w):
 (Code.region id l.toArray true).wpIn (Fw r) n P Q (act N e0 ds) w0:=by
 have As:∀i o d,i<M->l[i]?=some o->o.dst=some d->ot l M d=true:=by
  intro i o d hi ho hd
  refine List.any_eq_true.2 ⟨o,List.mem_iff_getElem?.2 ⟨i,by rw[List.getElem?_take,if_pos hi];exact ho⟩,?_⟩
  rw[hd];exact Nat.beq_refl d
 refine IM hm M (λls e w=>R w0 w/\(∀t,ot l M t=false->e t=e0 t)/\(∀j d,Nat.blt j M=true->ls j=true->cT l j=some d->oP Φ j (e d) w)/\k3 ls e w) ⟨hR0,λ_ _=>rfl,λj d _ h _=>(by cases h),hJ0⟩ hwf hshape (mS (l.take M) 0 ?_) ?_
 · rintro i o ho e w ls ⟨hR,hs,hφ,hJ⟩ Ax A2 O
   simp only[Nat.zero_add]at A2 O ⊢
   have hi:i<M:=by
    rcases Nat.lt_or_ge i M with h1|h1
    · exact h1
    · rw[List.getElem?_eq_none Va]at ho;cases ho
   have E:l[i]?=some o:=by rw[List.getElem?_take,if_pos hi]at ho;exact ho
   obtain⟨φ,hφi,_,h⟩:=rm (l.take M) Φ 0 hstep i o ho
   simp only[Nat.zero_add]at h
   have Ad:∀j,ca o j=true->ck l i j=true:=λj D=>by unfold ck;rw[E];exact D
   have Ap:∀j,ca o j=true->j<M:=by
    intro j D
    obtain⟨Av,Ar,hb⟩:=List.any_eq_true.1 D
    simp only[Bool.and_eq_true]at hb
    have B1:=qb3 hb.2
    have h1:=List.all_eq_true.1 hwf i (List.mem_range.2 (List.getElem?_eq_some_iff.1 E).1)
    rw[E]at h1
    have kd:=List.all_eq_true.1 h1 Av (by simpa using Ar)
    simp only[hb.1,Bool.not_true,Bool.false_or]at kd
    rw[Nat.blt_eq]at kd
    omega
   have W:∀j d,ca o j=true->cT l j=some d->oP Φ j (e d) w:=λj d D hd=>hφ j d (by rw[Nat.blt_eq];exact Ap j D) (O j (Ad j D)) hd
   have H:e=fr l M Φ (ca o) e e0:=EF (w:=w) hs (λj d _ D hd=>W j d D hd)
   have h1:=h e w ls hR hJ Ax A2 O W
   rw[<-H]at h1
   refine mm h1 ?_
   rintro x B2 w' (⟨hx,v,Ab,hR',hv,hJ'⟩|⟨c,hx,hq⟩)
   · refine .inl ⟨hx,v,Ab,hRt _ _ _ hR hR',λt ht=>?_,λj d hjM D hd=>?_,hJ'⟩
     · cases hd:o.dst with
       |none=>exact hs t ht
       | some d=>
         have:t≠d:=λe=>by subst e;rw[As i o t hi E hd]at ht;cases ht
         show upd e d v t=e0 t
         rw[upd_ne _ _ this];exact hs t ht
     · rw [Nat.blt_eq]at hjM
       by_cases hij:j=i
       · subst hij
         have Ao:o.dst=some d:=by unfold cT at hd;rw[E]at hd;exact hd
         rw[Ao];show oP Φ j (upd e d v d) w';rw[qU];exact(nC Φ j φ v w' hφi).2 hv
       · have Aq:ls j=true:=by
          have hb:Nat.beq j i=false:=by
           cases hb:Nat.beq j i with
           |false=>rfl
           |true=>exact absurd (qb3 hb) hij
          unfold gH at D;rw[hb]at D;exact D
         have hold:oP Φ j (e d) w':=by
          have Aw:=hφ j d (by rw[Nat.blt_eq];exact hjM) Aq hd
          cases hj? :(l.take M)[j]? with
          |none=>exact absurd (List.getElem?_eq_none_iff.1 hj?) (by
           have:j<l.length:=by
            unfold cT at hd
            rcases Nat.lt_or_ge j l.length with h1|h1
            · exact h1
            · rw[List.getElem?_eq_none h1]at hd;cases hd
           simp;omega)
          | some oj=>
            obtain⟨ψ,hψ,Am,_⟩:=rm (l.take M) Φ 0 hstep j oj hj?
            exact(nC Φ j ψ _ w' hψ).2 (Am _ _ _ hR' ((nC Φ j ψ _ w hψ).1 Aw))
         cases hdo:o.dst with
         |none=>exact hold
         | some d0=>
           have Ay:d≠d0:=λe=>by
            subst e
            have h1:=List.all_eq_true.1 (List.all_eq_true.1 hdst i (List.mem_range.2 hi)) j (List.mem_range.2 hjM)
            have Af:cT l i=some d:=by unfold cT;rw[E];exact hdo
            simp only[Af,hd,Bool.or_eq_true]at h1
            rcases h1 with h1|h1
            · exact hij (qb3 h1).symm
            · simp at h1
           show oP Φ j (upd e d0 v d) w'
           rw[upd_ne _ _ Ay];exact hold
   · exact .inr ⟨c,hx,hq⟩
 · rintro e w ls A1 ⟨hR,hs,hφ,hJ⟩
   have kk:∀j d,Nat.blt j M=true->cT l j=some d->oP Φ j (e d) w:=λj d D hd=>hφ j d D (A1 j D) hd
   have H:e=fr l M Φ (λj=>Nat.blt j M) e e0:=EF (w:=w) hs (λj d D _ hd=>kk j d D hd)
   have:=hfin e w ls hR hJ A1 kk
   rw[<-H]at this
   exact this
end draws
end Go.Eng
namespace Go.Proofs.YtgcfffdpcefifaaGreatDoor
open Go Go.Eng Go.RowKit Tryz
variable {xs:Array Operand}{ats:Array TypeId}{cs:Array Value}{X q:Bool}{f:FuncId}{l:List (Nat×Nat)}{vs lb:List Value}{b B n M k m off o j s d k' el size bytes:Nat}{sel:Nat->Bool}{e e1 e':Nat->Value}{p G G':Prop}{t tb:TypeId}{u v1 v2 v3 v4 v:Value}{w w' w0:World}
section jumps
def xU (l:Nat)(k3:Act->World->Prop)(Q:Exit->Act->World->Prop):Exit->Act->World->Prop
 | .goto l',a,w=>l'=l/\k3 a w
 |e,a,w=>Q e a w
def JL (F:Fence)(n:Nat)(P:Program)(l:Nat)(rest:Code)(Q:Exit->Act->World->Prop):Nat->Act->World->Prop
 |0,_,_=>False
 |k+1,a,w=>rest.wpIn F n P (xU l (JL F n P l rest Q k) Q) a w
def JA (F:Fence)(n:Nat)(P:Program)(l:Nat)(rest:Code)(Q:Exit->Act->World->Prop):Act->World->Prop:=λa w=>∃k,JL F n P l rest Q k a w
variable {F:Fence}{P:Program}{l:Nat}{rest c:Code}{Q:Exit->Act->World->Prop}{a:Act}{k3 J':Act->World->Prop}
def sP (h:∀a w,k3 a w->J' a w):∀e a w,xU l k3 Q e a w->xU l J' Q e a w:=λe a w hq=>by
 cases e <;>first|exact hq|exact⟨hq.1,h _ _ hq.2⟩
def zc (hf:findLabel c l=some rest)(h:c.wpIn F n P (xU l (JA F n P l rest Q) Q) a w):(Code.scope c).wpIn F n P Q a w:=by
 intro b k cs W hb hr
 have E:(lone (b.atR a (.code (.scope c)::k)) cs w).fenced P F:=fenced_calm hb hr Z
 have kk:gotoIn l (.inScope c::k)=some (.code rest:: .inScope c::k):=by simp[gotoIn,hf]
 have key:∀m a w,JL F n P l rest Q m a w->∃e a' w',Q e a' w'/\ArrivesIn (Machine.fenced P F) P (lone (b.atR a (.code rest:: .inScope c::k)) cs w) b k cs e a' w':=by
  intro m
  induction m with
  |zero=>intro a w h;exact h.elim
  | succ m ih=>
    intro a w hJ
    obtain⟨e,a₁,w₁,hq,D⟩:=(show rest.wpIn F n P (xU l (JL F n P l rest Q m) Q) a w from hJ) b (.inScope c::k) cs W hb hr
    cases e with
    |normal=>exact⟨.normal,a₁,w₁,hq,StepsIn.trans D (.one (fenced_calm hb hr Z) iw)⟩
    | exit id=>
      exact⟨.exit id,a₁,w₁,hq,λk' hk=>D.1 k' VV,λO hk=>let ⟨k₁,h1,H⟩:=D.2 O VV;⟨k₁,h1,H⟩⟩
    | goto l'=>
      obtain⟨rfl,hJ'⟩:=hq
      obtain⟨e₂,a₂,w₂,hq₂,harr₂⟩:=ih a₁ w₁ hJ'
      exact⟨e₂,a₂,w₂,hq₂,.of_steps (D.1 _ kk) harr₂⟩
    |ret=>exact⟨_,a₁,w₁,hq,D⟩
    |panic ch=>exact⟨_,a₁,w₁,hq,D⟩
    |outgrown=>exact⟨_,a₁,w₁,hq,D⟩
 obtain⟨e,a₁,w₁,hq,D⟩:=h b (.inScope c::k) cs W hb hr
 cases e with
 |normal=>exact⟨.normal,a₁,w₁,hq,.head E cc (StepsIn.trans D (.one (fenced_calm hb hr Z) iw))⟩
 | exit id=>
   exact⟨.exit id,a₁,w₁,hq,λk' hk=>.head E cc (D.1 k' VV),
    λO hk=>let ⟨k₁,h1,H⟩:=D.2 O VV;⟨k₁,h1,.head E cc H⟩⟩
 | goto l'=>
   obtain⟨rfl,m,hJ'⟩:=hq
   obtain⟨e₂,a₂,w₂,hq₂,harr₂⟩:=key m a₁ w₁ hJ'
   exact⟨e₂,a₂,w₂,hq₂,.of_steps (.head E cc (D.1 _ kk)) harr₂⟩
 |ret=>exact⟨_,a₁,w₁,hq,.of_steps (.one E cc) D⟩
 |panic ch=>exact⟨_,a₁,w₁,hq,.of_steps (.one E cc) D⟩
 |outgrown=>exact⟨_,a₁,w₁,hq,.of_steps (.one E cc) D⟩
def IS (h:Q .normal a w):xU l k3 Q .normal a w:=h
def IT (h:Q .ret a w):xU l k3 Q .ret a w:=h
def IU {ch:_}(h:Q (.panic ch) a w):xU l k3 Q (.panic ch) a w:=h
def IW (h:k3 a w):xU l k3 Q (.goto l) a w:=⟨rfl,h⟩
def Gs {K:Act->World->Prop}(h:Q (.goto l) a w):Exit.then K Q (.goto l) a w:=h
def KQ {id:Nat}(h:Q (.goto l) a w):Exit.inBlock id Q (.goto l) a w:=h
def Gt (h:Q (.goto l) a w):(Code.goto l).wpIn F n P Q a w:=wpIn_goto h
end jumps
def dq (h:p:=by assumption):p:=h
def U (h:p:=by omega):p:=h
def dc (h:p:=by decide):p:=h
def xt {a b c:World}(h:a8 a b)(k:a8 b c):a8 a c:=a8.trans h k
def be (k:a8 w w')(h:ae w b t cs):ae w' b t cs:=ae.ext k h
def pb {c:Nat}(k:fe w w' b)(h:ae w c t cs)(hne:c≠b:=by omega):ae w' c t cs:=aa5 k hne h
def eK (k:fe w w' b)(h:Below B w0 w)(hb:B<=b:=by omega):Below B w0 w':=fe.low k h hb
def bz (h:Below n w w'):w.heap.size<=w'.heap.size:=Below.size h
def dX (k:fe w w' b):w'.heap.size=w.heap.size:=fe.size k
def bt (h:ae w b t cs):b<w.heap.size:=ae.lt h
section
variable {a:World}{p:Nat}{b1 b2 b3 b4 b5:Nat}{t1 t2 t3 t4 t5:TypeId}{c1 c2 c3 c4 c5:Array Value}
def bn (k:a8 w w')(h1:ae w b1 t1 c1)(E:a8 a w):ae w' b1 t1 c1/\a8 a w':=⟨be k h1,xt E k⟩
def dE (k:fe w w' p)(h1:ae w b1 t1 c1)(E:Below B a w)(n1:b1≠p:=by omega)(hb:B<=p:=by omega):ae w' b1 t1 c1/\Below B a w'/\w'.heap.size=w.heap.size:=⟨aa5 k n1 h1,fe.low k E hb,fe.size k⟩
def aP (k:a8 w w')(h1:ae w b1 t1 c1)(h2:ae w b2 t2 c2)(E:a8 a w):ae w' b1 t1 c1/\ae w' b2 t2 c2/\a8 a w':=⟨be k h1,be k h2,xt E k⟩
def iZ (k:a8 w w')(h1:ae w b1 t1 c1)(h2:ae w b2 t2 c2):ae w' b1 t1 c1/\ae w' b2 t2 c2:=⟨be k h1,be k h2⟩
def fq (k:fe w w' p)(h1:ae w b1 t1 c1)(h2:ae w b2 t2 c2)(E:Below B a w)(n1:b1≠p:=by omega)(n2:b2≠p:=by omega)(hb:B<=p:=by omega):ae w' b1 t1 c1/\ae w' b2 t2 c2/\Below B a w'/\w'.heap.size=w.heap.size:=⟨aa5 k n1 h1,aa5 k n2 h2,fe.low k E hb,fe.size k⟩
def vO (k:fe w w' p)(h1:ae w b1 t1 c1)(h2:ae w b2 t2 c2)(n1:b1≠p:=by omega)(n2:b2≠p:=by omega):ae w' b1 t1 c1/\ae w' b2 t2 c2:=⟨aa5 k n1 h1,aa5 k n2 h2⟩
def br (k:a8 w w')(h1:ae w b1 t1 c1)(h2:ae w b2 t2 c2)(h3:ae w b3 t3 c3)(E:a8 a w):ae w' b1 t1 c1/\ae w' b2 t2 c2/\ae w' b3 t3 c3/\a8 a w':=⟨be k h1,be k h2,be k h3,xt E k⟩
def sk (k:a8 w w')(h1:ae w b1 t1 c1)(h2:ae w b2 t2 c2)(h3:ae w b3 t3 c3):ae w' b1 t1 c1/\ae w' b2 t2 c2/\ae w' b3 t3 c3:=⟨be k h1,be k h2,be k h3⟩
def fL (k:fe w w' p)(h1:ae w b1 t1 c1)(h2:ae w b2 t2 c2)(h3:ae w b3 t3 c3)(E:Below B a w)(n1:b1≠p:=by omega)(n2:b2≠p:=by omega)(n3:b3≠p:=by omega)(hb:B<=p:=by omega):ae w' b1 t1 c1/\ae w' b2 t2 c2/\ae w' b3 t3 c3/\Below B a w'/\w'.heap.size=w.heap.size:=⟨aa5 k n1 h1,aa5 k n2 h2,aa5 k n3 h3,fe.low k E hb,fe.size k⟩
def H5 (k:fe w w' p)(h1:ae w b1 t1 c1)(h2:ae w b2 t2 c2)(h3:ae w b3 t3 c3)(n1:b1≠p:=by omega)(n2:b2≠p:=by omega)(n3:b3≠p:=by omega):ae w' b1 t1 c1/\ae w' b2 t2 c2/\ae w' b3 t3 c3:=⟨aa5 k n1 h1,aa5 k n2 h2,aa5 k n3 h3⟩
def dL (k:a8 w w')(h1:ae w b1 t1 c1)(h2:ae w b2 t2 c2)(h3:ae w b3 t3 c3)(h4:ae w b4 t4 c4)(E:a8 a w):ae w' b1 t1 c1/\ae w' b2 t2 c2/\ae w' b3 t3 c3/\ae w' b4 t4 c4/\a8 a w':=⟨be k h1,be k h2,be k h3,be k h4,xt E k⟩
def Mi (k:a8 w w')(h1:ae w b1 t1 c1)(h2:ae w b2 t2 c2)(h3:ae w b3 t3 c3)(h4:ae w b4 t4 c4):ae w' b1 t1 c1/\ae w' b2 t2 c2/\ae w' b3 t3 c3/\ae w' b4 t4 c4:=⟨be k h1,be k h2,be k h3,be k h4⟩
def ka (k:fe w w' p)(h1:ae w b1 t1 c1)(h2:ae w b2 t2 c2)(h3:ae w b3 t3 c3)(h4:ae w b4 t4 c4)(E:Below B a w)(n1:b1≠p:=by omega)(n2:b2≠p:=by omega)(n3:b3≠p:=by omega)(n4:b4≠p:=by omega)(hb:B<=p:=by omega):ae w' b1 t1 c1/\ae w' b2 t2 c2/\ae w' b3 t3 c3/\ae w' b4 t4 c4/\Below B a w'/\w'.heap.size=w.heap.size:=⟨aa5 k n1 h1,aa5 k n2 h2,aa5 k n3 h3,aa5 k n4 h4,fe.low k E hb,fe.size k⟩
def Mx (k:fe w w' p)(h1:ae w b1 t1 c1)(h2:ae w b2 t2 c2)(h3:ae w b3 t3 c3)(h4:ae w b4 t4 c4)(n1:b1≠p:=by omega)(n2:b2≠p:=by omega)(n3:b3≠p:=by omega)(n4:b4≠p:=by omega):ae w' b1 t1 c1/\ae w' b2 t2 c2/\ae w' b3 t3 c3/\ae w' b4 t4 c4:=⟨aa5 k n1 h1,aa5 k n2 h2,aa5 k n3 h3,aa5 k n4 h4⟩
def lk (k:a8 w w')(h1:ae w b1 t1 c1)(h2:ae w b2 t2 c2)(h3:ae w b3 t3 c3)(h4:ae w b4 t4 c4)(h5:ae w b5 t5 c5)(E:a8 a w):ae w' b1 t1 c1/\ae w' b2 t2 c2/\ae w' b3 t3 c3/\ae w' b4 t4 c4/\ae w' b5 t5 c5/\a8 a w':=⟨be k h1,be k h2,be k h3,be k h4,be k h5,xt E k⟩
def dC (k:a8 w w')(h1:ae w b1 t1 c1)(h2:ae w b2 t2 c2)(h3:ae w b3 t3 c3)(h4:ae w b4 t4 c4)(h5:ae w b5 t5 c5):ae w' b1 t1 c1/\ae w' b2 t2 c2/\ae w' b3 t3 c3/\ae w' b4 t4 c4/\ae w' b5 t5 c5:=⟨be k h1,be k h2,be k h3,be k h4,be k h5⟩
def xV (k:fe w w' p)(h1:ae w b1 t1 c1)(h2:ae w b2 t2 c2)(h3:ae w b3 t3 c3)(h4:ae w b4 t4 c4)(h5:ae w b5 t5 c5)(E:Below B a w)(n1:b1≠p:=by omega)(n2:b2≠p:=by omega)(n3:b3≠p:=by omega)(n4:b4≠p:=by omega)(n5:b5≠p:=by omega)(hb:B<=p:=by omega):ae w' b1 t1 c1/\ae w' b2 t2 c2/\ae w' b3 t3 c3/\ae w' b4 t4 c4/\ae w' b5 t5 c5/\Below B a w'/\w'.heap.size=w.heap.size:=⟨aa5 k n1 h1,aa5 k n2 h2,aa5 k n3 h3,aa5 k n4 h4,aa5 k n5 h5,fe.low k E hb,fe.size k⟩
def jx (k:fe w w' p)(h1:ae w b1 t1 c1)(h2:ae w b2 t2 c2)(h3:ae w b3 t3 c3)(h4:ae w b4 t4 c4)(h5:ae w b5 t5 c5)(n1:b1≠p:=by omega)(n2:b2≠p:=by omega)(n3:b3≠p:=by omega)(n4:b4≠p:=by omega)(n5:b5≠p:=by omega):ae w' b1 t1 c1/\ae w' b2 t2 c2/\ae w' b3 t3 c3/\ae w' b4 t4 c4/\ae w' b5 t5 c5:=⟨aa5 k n1 h1,aa5 k n2 h2,aa5 k n3 h3,aa5 k n4 h4,aa5 k n5 h5⟩
end
abbrev pT (b:Nat):Value:=.pointer (some ⟨b,0,none⟩)
abbrev CL:=Calls prog
section draws
variable {P:Program}{r:Option Nat}{N:Nat}{e0:Nat->Value}{ds:List Deferred}{Q:Exit->Act->World->Prop}{l:List Oper}{Φ:List Ph}{R:World->World->Prop}{k3:(Nat->Bool)->(Nat->Value)->World->Prop}
def rn (Q:Exit->Act->World->Prop)(r:Option Nat)(n:Nat)(P:Program)(N:Nat)(ds:List Deferred)(l:List Oper)(M:Nat)(R:World->World->Prop)(k3:(Nat->Bool)->(Nat->Value)->World->Prop)(e0:Nat->Value)(w0:World)(Fin:List Ph->Prop):Nat->List Ph->List Oper->Prop
 |_,acc,[]=>Fin acc.reverse
 |i,acc,o::os=>∃φ,(sN R φ/\∀(e:Nat->Value) (w:World) (ls:Nat->Bool),R w0 w->k3 ls e w->(∀j k,ck l j k=true->ls j=true->ls k=true)->ls i=false->(∀k,ck l i k=true->ls k=true)->(∀j d,ca o j=true->cT l j=some d->oP acc.reverse j (e d) w)->
  wpListIn (Fw r) n P l.toArray (za Q N ds R k3 w ls i φ o e (fr l M acc.reverse (ca o) e e0)) [o] (act N (fr l M acc.reverse (ca o) e e0) ds) w)/\rn Q r n P N ds l M R k3 e0 w0 Fin (i+1) (φ::acc) os
def vP:∀(Φ Ψ:List Ph) (j:Nat) (x:Value),j<Φ.length->IQ (Φ++Ψ) j x=IQ Φ j x
 |[],_,_,_,h=>by simp at h
 |_::_,_,0,_,_=>rfl
 |_::Φ,Ψ,j+1,x,h=>vP Φ Ψ j x VJ
def vQ:∀(Φ Ψ:List Ph) (j:Nat) (x:Value) (w:World),j<Φ.length->oP (Φ++Ψ) j x w=oP Φ j x w
 |[],_,_,_,_,h=>by simp at h
 |_::_,_,0,_,_,_=>rfl
 |_::Φ,Ψ,j+1,x,w,h=>vQ Φ Ψ j x w VJ
def Gu {Ψ:List Ph}(h:∀j,sel j=true->j<Φ.length):fr l M (Φ++Ψ) sel e e0=fr l M Φ sel e e0:=by
 funext t
 unfold fr
 split
 · rfl
 · split
   · rename_i hq;exact vP _ _ _ _ (h _ hq)
   · rfl
def vR {Fin:List Ph->Prop}:∀(os:List Oper) (i:Nat) (acc:List Ph),acc.length=i->(∀k o,os[k]?=some o->∀j,ca o j=true->j<i+k)->rn Q r n P N ds l M R k3 e0 w0 Fin i acc os->
 ∃φs,Kv Q r n P N ds l M (acc.reverse++φs) R k3 e0 w0 i os φs/\Fin (acc.reverse++φs)
 |[],i,acc,_,_,h=>⟨[],trivial,by simpa[rn]using h⟩
 | o::os,i,acc,hl,hp,⟨φ,⟨h1,h2⟩,h3⟩=>by
   obtain⟨φs,h4,h5⟩:=vR os (i+1) (φ::acc) (by simp[hl]) (λk o' ho j D=>by have:=hp (k+1) o' VG j D;omega) h3
   rw[List.reverse_cons,List.append_assoc]at h4 h5
   have E:∀j,ca o j=true->j<acc.reverse.length:=λj D=>by have:=hp 0 o Z j D;simp;omega
   refine⟨φ::φs,⟨⟨h1,λe w ls kk W A1 H O kd=>?_⟩,h4⟩,h5⟩
   rw[Gu E]
   exact h2 e w ls kk W A1 H O (λj d D hd=>by have:=kd j d D hd;rwa [vQ _ _ _ _ _ (E j D)]at this)
def Ch {l:List Oper}(hwf:El l=true):∀k o,(l.take M)[k]?=some o->∀j,ca o j=true->j<0+k:=by
 intro i o ho j kk
 have E:l[i]?=some o:=by
  rw[List.getElem?_take]at ho
  split at ho
  · exact ho
  · cases ho
 obtain⟨H,O,hb⟩:=List.any_eq_true.1 kk
 simp only[Bool.and_eq_true]at hb
 have W:=qb3 hb.2
 have h1:=List.all_eq_true.1 hwf i (List.mem_range.2 (List.getElem?_eq_some_iff.1 E).1)
 rw[E]at h1
 have D:=List.all_eq_true.1 h1 H (by simpa using O)
 simp only[hb.1,Bool.not_true,Bool.false_or]at D
 rw[Nat.blt_eq]at D
 omega
abbrev H6 (w w':World):Prop:=w.heap.size<=w'.heap.size/\a8 w w'
def IX (h:a8 w w'):H6 w w':=⟨Below.size h,h⟩
def Mj (l:List Oper)(M:Nat):List Ph->(Nat->Value)->World->Prop:=λΦ e w=>∀j d,Nat.blt j M=true->cT l j=some d->oP Φ j (e d) w
def bB {id:Nat}(M:Nat)(h:rn Q r n prog N ds l M a8 (λ_ _ _=>True) e0 w0 (λΦ=>∀e w,H6 w0 w->Mj l M Φ e w->wpListIn (Fw r) n prog l.toArray Q (l.drop M) (act N (fr l M Φ (λj=>Nat.blt j M) e e0) ds) w) 0 [] (l.take M))(hwf:El l=true:=by kernel_rfl)(hsh:it l M=true:=by kernel_rfl)(hds:FD l M=true:=by kernel_rfl):(Code.region id l.toArray true).wpIn (Fw r) n prog Q (act N e0 ds) w0:=by
 obtain⟨Φ,h1,D⟩:=vR _ 0 [] Z (Ch hwf) h
 exact IR (Φ:=Φ) mj (ab1 _) (λ_ _ _=>a8.trans) trivial hwf hsh hds h1 (λe w ls E _ _ H=>D e w (IX E) H)
end draws
def qh (P:Program)(t:TypeId)(k off:Nat):Prop:=∃fs f m,P.underlying t=some (.struct fs)/\fs[k]?=some f/\f.offset=off/\(P.info? f.type).map (·.size)=some (m+1)
def dQ {P:Program}{fs:Array Field}{f:Field}(hu:P.underlying t=some (.struct fs))(hf:fs[k]?=some f)(ho:f.offset=off)(hs:(P.info? f.type).map (·.size)=some (m+1)):qh P t k off:=⟨fs,f,m,hu,hf,ho,hs⟩
def Gv:qh prog 78 0 0:=dQ underlying78 Z Z KF
def Gw:qh prog 78 1 1:=dQ underlying78 Z Z jB
def Gx:qh prog 87 0 0:=dQ underlying87 Z Z KF
def IY:qh prog 23 0 0:=dQ underlying23 Z Z En
def IZ:qh prog 23 1 1:=dQ underlying23 Z Z En
def Ci:qh prog 30 0 0:=dQ underlying30 Z Z dv
def Cj:qh prog 30 1 2:=dQ underlying30 Z Z dv
def Ck:qh prog 42 0 0:=dQ underlying42 Z Z dv
def Cl:qh prog 42 1 2:=dQ underlying42 Z Z dv
def Cm:qh prog 42 2 4:=dQ underlying42 Z Z dv
def Cn:qh prog 42 3 6:=dQ underlying42 Z Z dv
def Co:qh prog 42 4 8:=dQ underlying42 Z Z ye
def Cp:qh prog 45 0 0:=dQ underlying45 Z Z eN
def Cq:qh prog 45 1 1:=dQ underlying45 Z Z En
def Cr:qh prog 59 0 0:=dQ underlying59 Z Z En
def Cs:qh prog 59 1 1:=dQ underlying59 Z Z En
def Ct:qh prog 94 0 0:=dQ underlying94 Z Z En
def Cu:qh prog 94 1 1:=dQ underlying94 Z Z En
def EG (P:Program)(t el:TypeId)(z:Value)(size bytes:Nat):Prop:=P.underlying t=some (.slice el)/\gW P el z size bytes/\z.cells.size=size/\0<size
def uF:EG prog 169 30 (.agg #[S [],S [],S [],S []]) 4 64:=⟨underlying169,aL,rfl,by decide⟩
def Gy:EG prog 28 23 (.agg #[S [],S []]) 2 32:=⟨underlying28,bi,rfl,by decide⟩
def Gz:EG prog 75 3 (.int .i64 0) 1 8:=⟨underlying75,kH,rfl,by decide⟩
def zd:EG prog 76 3 (.int .i64 0) 1 8:=⟨underlying76,kH,rfl,by decide⟩
def ze:EG prog 112 5 (.int .u8 0) 1 1:=⟨underlying112,KE,rfl,by decide⟩
def I0 (P:Program)(t:TypeId)(cs:Array Value):Prop:=∃(fs:Array Field) (z:Value) (size bytes:Nat) (pl:List (Nat×Nat)),P.underlying t=some (.struct fs)/\gW P t z size bytes/\fs.toList.map (λf=>(f.offset,(P.info? f.type).map (·.size)))=pl.map (λp:Nat×Nat=>(p.1,some p.2))/\Instr.fill (pl.toArray[·]?) z.cells []=some cs
def KR:I0 prog 23 #[S [],S []]:=⟨_,_,_,_,[(0,1),(1,1)],underlying23,bi,by kernel_rfl,by kernel_rfl⟩
def GA:I0 prog 30 #[S [],S [],S [],S []]:=⟨_,_,_,_,[(0,2),(2,2)],underlying30,aL,by kernel_rfl,by kernel_rfl⟩
def I1:I0 prog 78 #[.bool false,.slice none 0 0]:=⟨_,_,_,_,[(0,1),(1,1)],underlying78,bo,by kernel_rfl,by kernel_rfl⟩
def I2:I0 prog 87 #[.bool false]:=⟨_,_,_,_,[(0,1)],underlying87,um,by kernel_rfl,by kernel_rfl⟩
def H7 (P:Program)(t:TypeId):Prop:=∃fs z size bytes,P.underlying t=some (.struct fs)/\gW P t z size bytes/\fs.toList.map (λf=>(f.offset,(P.info? f.type).map (·.size)))=[(0,some 1),(1,some 1)]/\∀u v:Value,u.cells=#[u]->v.cells=#[v]->Instr.fill ([(0,1),(1,1)].toArray[·]?) z.cells [(0,u),(1,v)]=some #[u,v]
def KS:H7 prog 23:=⟨_,_,_,_,underlying23,bi,by kernel_rfl,λu v hu hv=>by show Instr.fill _ #[S [],S []] _=_;simp[Instr.fill,hu,hv]⟩
def GB:H7 prog 94:=⟨_,_,_,_,underlying94,bl,by kernel_rfl,λu v hu hv=>by show Instr.fill _ #[S [],S []] _=_;simp[Instr.fill,hu,hv]⟩
def GC:H7 prog 59:=⟨_,_,_,_,underlying59,aI,by kernel_rfl,λu v hu hv=>by show Instr.fill _ #[S [],S []] _=_;simp[Instr.fill,hu,hv]⟩
def GD:H7 prog 45:=⟨_,_,_,_,underlying45,hP,by kernel_rfl,λu v hu hv=>by show Instr.fill _ #[.int .i64 0,S []] _=_;simp[Instr.fill,hu,hv]⟩
def I3:H7 prog 78:=⟨_,_,_,_,underlying78,bo,by kernel_rfl,λu v hu hv=>by show Instr.fill _ #[.bool false,.slice none 0 0] _=_;simp[Instr.fill,hu,hv]⟩
section ops
variable {P:Program}{r:Option Nat}{N:Nat}{ds:List Deferred}{Q:Exit->Act->World->Prop}{K:Act->World->Prop}{a:Act}
variable {ops:Array Oper}{rest:List Oper}{dst:Option Tmp}{op:Op}{ty:Nat}{pos:String}{af:Array Edge}{id:Nat}{c c1 c2:Code}{x y:Operand}
def KT (hk:wpListIn (Fw r) n prog ops Q rest (act N (upd e d (.pointer (some ⟨b,o+off,none⟩))) ds) w)(hx:ev N e x=.pointer (some ⟨b,o,none⟩):=by exact fH)(hf:qh prog t k off:=by with_reducible first|exact Cr|exact Cs|exact Ct|exact Cu|exact Cq|exact IY|exact IZ|exact Ci|exact Cj|exact Cp|exact Ck|exact Cl|exact Cm|exact Cn|exact Co|exact Gv|exact Gw|exact Gx):
 wpListIn (Fw r) n prog ops Q (⟨some d,.fieldAddr t x k,ty,pos,af,none⟩::rest) (act N e ds) w:=by
 obtain⟨_,f,m,h1,D,H,E⟩:=hf
 exact ab (sq h1 D H E Z hx hk)
def KU (hk:wpListIn (Fw r) n prog ops Q rest (act N (upd e d (.agg cs)) ds) w)(h:I0 prog t cs:=by with_reducible first|exact KR|exact GA|exact I1|exact I2):wpListIn (Fw r) n prog ops Q (⟨some d,.build t #[],ty,pos,af,none⟩::rest) (act N e ds) w:=by
 obtain⟨fs,z,s,b,pl,h1,D,H,E⟩:=h
 exact ab (aS h1 D H Z E hk)
def KV (hk:wpListIn (Fw r) n prog ops Q rest (act N (upd e d (.agg #[u,v])) ds) w)(h:H7 prog t:=by with_reducible first|exact KS|exact GC|exact GB|exact GD|exact I3)(hx:ev N e x=u:=by exact xh)(hy:ev N e y=v:=by exact xh)(hu:u.cells=#[u]:=by exact Z)(hv:v.cells=#[v]:=by exact Z):
 wpListIn (Fw r) n prog ops Q (⟨some d,.build t #[(0,x),(1,y)],ty,pos,af,none⟩::rest) (act N e ds) w:=by
 obtain⟨_,z,s,b,h1,D,H,E⟩:=h
 exact ab (aS (pl:=[(0,1),(1,1)]) h1 D H (by rw[<-hx,<-hy];rfl) (E u v hu hv) hk)
def L9 {t:Nat}(h:ae w' b t cs:=by with_reducible assumption):ae w' b t cs:=h
def bk1 {t:Nat}(h:ae w' b t cs:=by
 first
 |with_reducible assumption
 |exact ae.ext Vf L9
 |exact aa5 Vf U L9):ae w' b t cs:=h
def bk2 {t:Nat}(h:ae w' b t cs:=by
 first
 |with_reducible assumption
 |exact ae.ext Vf bk1
 |exact aa5 Vf U bk1):ae w' b t cs:=h
def Ma {t:Nat}(h:ae w' b t cs:=by
 first
 |with_reducible assumption
 |exact ae.ext Vf bk2
 |exact aa5 Vf U bk2):ae w' b t cs:=h
def Mb {t:Nat}(h:ae w' b t cs:=by
 first
 |with_reducible assumption
 |exact ae.ext Vf Ma
 |exact aa5 Vf U Ma):ae w' b t cs:=h
def Mc {t:Nat}(h:ae w' b t cs:=by
 first
 |with_reducible assumption
 |exact ae.ext Vf Mb
 |exact aa5 Vf U Mb):ae w' b t cs:=h
def GE {t:Nat}(h:ae w' b t cs:=by
 first
 |with_reducible assumption
 |exact ae.ext Vf Mc
 |exact aa5 Vf U Mc):ae w' b t cs:=h
def KW {cs:List Value}(hk:wpListIn (Fw r) n P ops Q rest (act N (upd e d v) ds) w)(hx:ev N e x=.pointer (some ⟨b,o,none⟩):=by exact fH)(hb:ae w b tb cs.toArray:=by exact GE)(hv:nth cs o=some v:=by exact Z)(hu:jd P t=some false:=by decide +kernel):
 wpListIn (Fw r) n P ops Q (⟨some d,.load t x,ty,pos,af,none⟩::rest) (act N e ds) w:=y7 hk hx hb hv hu
def I4 {cs:List Value}(hk:wpListIn (Fw r) n P ops Q rest (act N (upd e d (.agg #[v1,v2])) ds) w)(hx:ev N e x=.pointer (some ⟨b,o,none⟩):=by exact fH)(hb:ae w b tb cs.toArray:=by exact GE)(hv:rl cs o=some (v1,v2):=by exact Z)(hu:jd P t=some true:=by decide +kernel)(hi:(P.info? t).map (·.size)=some 2:=by decide +kernel):
 wpListIn (Fw r) n P ops Q (⟨some d,.load t x,ty,pos,af,none⟩::rest) (act N e ds) w:=vJ hk hx hb hv hu hi
def I5 (hk:wpListIn (Fw r) n P ops Q rest (act N (upd e d (.agg #[v1,v2,v3,v4])) ds) w)(hx:ev N e x=.pointer (some ⟨b,0,none⟩):=by exact fH)(hb:ae w b tb #[v1,v2,v3,v4]:=by exact GE)(hu:jd P t=some true:=by decide +kernel)(hi:(P.info? t).map (·.size)=some 4:=by decide +kernel):
 wpListIn (Fw r) n P ops Q (⟨some d,.load t x,ty,pos,af,none⟩::rest) (act N e ds) w:=by
 obtain⟨D,h1,E⟩:=qu hu
 exact ab (aX (cs:=[v1,v2,v3,v4]) h1 E hi hx (aa0 hb (i:=0) Z) hk)
def zo (h:X=q:=by
 first
 | with_reducible first
   |exact Z
   |assumption
   |exact xj dq
   |exact xk dq
   |exact KL (by first|exact rfl|assumption|exact xk dq)
   |exact KM (by first|exact rfl|assumption|exact xj dq)
 |decide +kernel
 | with_reducible first
   |exact xj U
   |exact xk U
   |exact KL (xk U)
   |exact KM (xj U)):X=q:=h
def KX (h:c1.wpIn (Fw r) n P Q (act N e ds) w)(hx:ev N e x=.bool q:=by exact fH)(hq:q=true:=by exact zo):(Code.cond x c1 c2).wpIn (Fw r) n P Q (act N e ds) w:=qW (by rw[hx,hq]) h
def KY (h:c2.wpIn (Fw r) n P Q (act N e ds) w)(hx:ev N e x=.bool q:=by exact fH)(hq:q=false:=by exact zo):(Code.cond x c1 c2).wpIn (Fw r) n P Q (act N e ds) w:=lh (by rw[hx,hq]) h
def GF {l:List Oper}{b:Bool}(hk:wpListIn (Fw r) n P l.toArray Q (⟨dst,op,ty,pos,af,none⟩::rest) (act N e ds) w)(hj:cT l j=some s:=by exact Z)(hv:ev N e (.tmp s)=.bool b:=by exact fH)(hb:b=q:=by exact zo):wpListIn (Fw r) n P l.toArray Q (⟨dst,op,ty,pos,af,some (j,q)⟩::rest) (act N e ds) w:=og hj (by rw[hv,hb]) hk
def I6 {l:List Oper}{b:Bool}(hk:wpListIn (Fw r) n P l.toArray Q rest (act N (upd e d undef) ds) w)(hj:cT l j=some s:=by exact Z)(hv:ev N e (.tmp s)=.bool b:=by exact fH)(hb:b= !q:=by first|with_reducible assumption|(show _=true;exact zo)|(show _=false;exact zo)):wpListIn (Fw r) n P l.toArray Q (⟨some d,op,ty,pos,af,some (j,q)⟩::rest) (act N e ds) w:=mO hj (by rw[hv,hb]) hk
def I7 {l:List Oper}(hk:wpListIn (Fw r) n P l.toArray Q rest (act N (upd e d undef) ds) w)(hj:cT l j=some s:=by exact Z)(hv:ev N e (.tmp s)=undef:=by exact Z)(hs:Nat.blt s N=true:=by exact Z):wpListIn (Fw r) n P l.toArray Q (⟨some d,op,ty,pos,af,some (j,q)⟩::rest) (act N e ds) w:=IL hj hv hs hk
def Cv {c a b:Operand}{t:Bool}(hk:wpListIn (Fw r) n P ops Q rest (act N (upd e d v) ds) w)(hc:ev N e c=.bool t:=by exact fH)(ht:t=true:=by exact zo)(hv:ev N e a=v:=by exact xh):
 wpListIn (Fw r) n P ops Q (⟨some d,.pick c a b,ty,pos,af,none⟩::rest) (act N e ds) w:=vK hk hc ht hv
def Cw {c a b:Operand}{t:Bool}(hk:wpListIn (Fw r) n P ops Q rest (act N (upd e d v) ds) w)(hc:ev N e c=.bool t:=by exact fH)(ht:t=false:=by exact zo)(hv:ev N e b=v:=by exact xh):
 wpListIn (Fw r) n P ops Q (⟨some d,.pick c a b,ty,pos,af,none⟩::rest) (act N e ds) w:=vL hk hc ht hv
end ops
section gates
variable {P:Program}{r:Option Nat}{N:Nat}{ds:List Deferred}{Q:Exit->Act->World->Prop}{ops:Array Oper}{o:Oper}{rest:List Oper}{dst:Option Tmp}{op:Op}{ty:Nat}{pos:String}{af:Array Edge}{x y z:Operand}{a:Act}{u:TypeId}{c1 c2:Code}
abbrev Wo (r:Option Nat)(n:Nat)(P:Program)(ops:Array Oper)(Q:Exit->Act->World->Prop)(o:Oper)(rest:List Oper)(a:Act)(w:World):Prop:=wpListIn (Fw r) n P ops Q (o::rest) a w
def KZ (h:Wo r n P ops Q o rest a w):Wo r n P ops Q o rest a w:=h
def K0 (h:Wo r n P ops Q ⟨dst,op,ty,pos,af,none⟩ rest a w):Wo r n P ops Q ⟨dst,op,ty,pos,af,none⟩ rest a w:=h
def K3 {g:Nat×Bool}(h:Wo r n P ops Q ⟨dst,op,ty,pos,af,some g⟩ rest a w):Wo r n P ops Q ⟨dst,op,ty,pos,af,some g⟩ rest a w:=h
def K4 (h:Wo r n P ops Q ⟨dst,.move x,ty,pos,af,none⟩ rest a w):Wo r n P ops Q ⟨dst,.move x,ty,pos,af,none⟩ rest a w:=h
def K5 (h:Wo r n P ops Q ⟨dst,.assign x,ty,pos,af,none⟩ rest a w):Wo r n P ops Q ⟨dst,.assign x,ty,pos,af,none⟩ rest a w:=h
def K6 (h:Wo r n P ops Q ⟨dst,.load t x,ty,pos,af,none⟩ rest a w):Wo r n P ops Q ⟨dst,.load t x,ty,pos,af,none⟩ rest a w:=h
def K7 {b:BinOp}(h:Wo r n P ops Q ⟨dst,.binOp b t x y u,ty,pos,af,none⟩ rest a w):Wo r n P ops Q ⟨dst,.binOp b t x y u,ty,pos,af,none⟩ rest a w:=h
def K8 {b:UnOp}(h:Wo r n P ops Q ⟨dst,.unOp b t x,ty,pos,af,none⟩ rest a w):Wo r n P ops Q ⟨dst,.unOp b t x,ty,pos,af,none⟩ rest a w:=h
def K9 (h:Wo r n P ops Q ⟨dst,.fieldAddr t x k,ty,pos,af,none⟩ rest a w):Wo r n P ops Q ⟨dst,.fieldAddr t x k,ty,pos,af,none⟩ rest a w:=h
def La (h:Wo r n P ops Q ⟨dst,.extract x k,ty,pos,af,none⟩ rest a w):Wo r n P ops Q ⟨dst,.extract x k,ty,pos,af,none⟩ rest a w:=h
def Lb {c:Call}(h:Wo r n P ops Q ⟨dst,.call c,ty,pos,af,none⟩ rest a w):Wo r n P ops Q ⟨dst,.call c,ty,pos,af,none⟩ rest a w:=h
def Lc (h:Wo r n P ops Q ⟨dst,.pick x y z,ty,pos,af,none⟩ rest a w):Wo r n P ops Q ⟨dst,.pick x y z,ty,pos,af,none⟩ rest a w:=h
def Ld (h:Wo r n P ops Q ⟨dst,.nilCheck x,ty,pos,af,none⟩ rest a w):Wo r n P ops Q ⟨dst,.nilCheck x,ty,pos,af,none⟩ rest a w:=h
def Le {xs:Array (Nat×Operand)}(h:Wo r n P ops Q ⟨dst,.build t xs,ty,pos,af,none⟩ rest a w):Wo r n P ops Q ⟨dst,.build t xs,ty,pos,af,none⟩ rest a w:=h
def Lf (h:(Code.cond x c1 c2).wpIn (Fw r) n P Q a w):(Code.cond x c1 c2).wpIn (Fw r) n P Q a w:=h
end gates
structure Hd (p:Prop):Prop where
 out:p
section irr
attribute [local irreducible] wpListIn Code.wpIn Oper.wpIn Exit.then Exit.inBlock Exit.noGoto
def I (h:G')(k:Hd G'->G:=by
 intro h
 repeat first
  | (with_reducible refine KZ ?_
     first
     | (with_reducible refine K0 ?_
        first
        | (with_reducible refine K4 ?_
           refine yS ?_)
        | (with_reducible refine K6 ?_
           first
           |refine KW ?_
           |refine I4 ?_
           |refine I5 ?_
           |refine vM ?_
           |refine sM ?_)
        | (with_reducible refine K7 ?_
           first
           |refine lss ?_
           |refine eql ?_
           |refine neq ?_
           |refine leq ?_
           |refine gtr ?_
           |refine geq ?_)
        | (with_reducible refine K9 ?_
           refine KT ?_)
        | (with_reducible refine K5 ?_
           refine sL ?_)
        | (with_reducible refine La ?_
           first
           |refine yT ?_
           |refine yU ?_
           |refine yV ?_
           |refine yW ?_
           |refine yX ?_
           |refine yY ?_
           |refine yZ ?_
           |refine y0 ?_
           |refine y5 ?_)
        | (with_reducible refine Lb ?_
           refine q_len ?_)
        | (with_reducible refine K8 ?_
           refine nt ?_)
        | (with_reducible refine Lc ?_
           first
           |refine Cv ?_
           |refine Cw ?_)
        | (with_reducible refine Ld ?_
           refine EE ?_)
        | (with_reducible refine Le ?_
           first
           |refine KU ?_
           |refine KV ?_))
     | (with_reducible refine K3 ?_
        first
        |refine GF ?_
        |refine I6 ?_
        |refine I7 ?_))
  | with_reducible first
    |refine mf ?_
    |refine pW ?_
    |refine ml Z ?_
    |refine ss ?_
    |refine vq ?_
    |refine vr ?_
    |refine oh ?_
    |refine yb ?_
    |refine Ek ?_
    |refine Im ?_
    |refine IS ?_
    |refine yc ?_
    |refine Ik ?_
    |refine yd ?_
    |refine Io ?_
    |refine IT ?_
    |refine yQ ?_
    |refine IN ?_
    |refine IU ?_
    |refine Gt ?_
    |refine IW ?_
    |refine Gs ?_
    |refine KQ ?_
  |refine pW ?_
  |refine Il Z ?_
  |refine zc (l:=0) Z ?_
  | (with_reducible refine Lf ?_
     first
     |refine KX ?_
     |refine KY ?_)
 exact h.out):G:=k ⟨h⟩
section draws
variable {P:Program}{r:Option Nat}{N:Nat}{e0:Nat->Value}{ds:List Deferred}{Q:Exit->Act->World->Prop}{l:List Oper}{R:World->World->Prop}{k3:(Nat->Bool)->(Nat->Value)->World->Prop}{Fin:List Ph->Prop}{i:Nat}{acc:List Ph}{o:Oper}{os:List Oper}{V:Value}
def Pl (N:Nat)(ds:List Deferred)(dst:Option Tmp)(V:Value)(w:World)(f:Nat->Value):Exit->Act->World->Prop:=λx a' w'=>x=.normal/\a'=(act N f ds).put dst V/\w'=w
def bY {f:Nat->Value}{dst:Option Tmp}(hd:dst=some d:=by exact Z):Pl N ds dst v w f .normal (act N (upd f d v) ds) w:=by subst hd;exact⟨rfl,(ai _ _ _ _ _).symm,rfl⟩
def I8 (h:∀(e:Nat->Value) (w:World) (ls:Nat->Bool),R w0 w->k3 ls e w->(∀j k,ck l j k=true->ls j=true->ls k=true)->ls i=false->(∀k,ck l i k=true->ls k=true)->(∀j d,ca o j=true->cT l j=some d->oP acc.reverse j (e d) w)->
 wpListIn (Fw r) n P l.toArray (Pl N ds o.dst V w (fr l M acc.reverse (ca o) e e0)) [o] (act N (fr l M acc.reverse (ca o) e e0) ds) w)(ht:rn Q r n P N ds l M R k3 e0 w0 Fin (i+1) (.pv V::acc) os)(hR:∀w,R w w:=by first|exact aa4|exact λ_=>trivial)(hJ:∀ls e w v,k3 ls e w->k3 (gH ls i) (jw e o.dst v) w:=by exact λ_ _ _ _ h=>h):rn Q r n P N ds l M R k3 e0 w0 Fin i acc (o::os):=
 ⟨.pv V,⟨λ_ _ _ _ h=>h,λe w ls kd D W O kk A1=>mm (h e w ls kd D W O kk A1) (λ_ _ _ ⟨h1,H,E⟩=>.inl ⟨h1,V,H,E▸hR _,rfl,E▸hJ _ _ _ _ D⟩)⟩,ht⟩
def EH (h:∀(e:Nat->Value) (w:World) (ls:Nat->Bool),R w0 w->k3 ls e w->(∀k,ck l i k=true->ls k=true)->(∀j d,ca o j=true->cT l j=some d->oP acc.reverse j (e d) w)->
 wpListIn (Fw r) n P l.toArray (Pl N ds o.dst V w (fr l M acc.reverse (ca o) e e0)) [o] (act N (fr l M acc.reverse (ca o) e e0) ds) w)(ht:rn Q r n P N ds l M R k3 e0 w0 Fin (i+1) (.pv V::acc) os)(hR:∀w,R w w:=by first|exact aa4|exact λ_=>trivial)(hJ:∀ls e w v,k3 ls e w->k3 (gH ls i) (jw e o.dst v) w:=by exact λ_ _ _ _ h=>h):rn Q r n P N ds l M R k3 e0 w0 Fin i acc (o::os):=
 I8 (λe w ls E H _ _ D O=>h e w ls E H D O) ht hR hJ
def I9 (ht:rn Q r n P N ds l M R k3 e0 w0 Fin (i+1) (.pv V::acc) os)(h:∀(e:Nat->Value) (w:World),R w0 w->wpListIn (Fw r) n P l.toArray (Pl N ds o.dst V w (fr l M acc.reverse (ca o) e e0)) [o] (act N (fr l M acc.reverse (ca o) e e0) ds) w:=by
 intro e w hR
 refine I ?_
 exact bY)(hR:∀w,R w w:=by first|exact aa4|exact λ_=>trivial)(hJ:∀ls e w v,k3 ls e w->k3 (gH ls i) (jw e o.dst v) w:=by exact λ_ _ _ _ h=>h):rn Q r n P N ds l M R k3 e0 w0 Fin i acc (o::os):=
 EH (λe w _ D _ _ _=>h e w D) ht hR hJ
def GG (h:Fin acc.reverse):rn Q r n P N ds l M R k3 e0 w0 Fin i acc []:=h
def sf (h:G')(k:Hd G'->G:=by
 intro h
 repeat refine I9 ?_
 try refine GG ?_
 exact h.out):G:=k ⟨h⟩
end draws
end irr
section draws
variable {P:Program}{r:Option Nat}{N:Nat}{e0:Nat->Value}{ds:List Deferred}{Q:Exit->Act->World->Prop}{l:List Oper}{R:World->World->Prop}{k3:(Nat->Bool)->(Nat->Value)->World->Prop}{Fin:List Ph->Prop}{i:Nat}{acc:List Ph}{o:Oper}{os:List Oper}{V:Value}{p:Value->World->Prop}{φ:Ph}
def Sn (Q:Exit->Act->World->Prop)(N:Nat)(ds:List Deferred)(dst:Option Tmp)(f:Nat->Value)(K:Value->World->Prop):Exit->Act->World->Prop:=λx a' w'=>
 (x=.normal/\∃v,a'=(act N f ds).put dst v/\K v w')\/(∃c,x=.panic c/\Q (.panic c) a' w')
def fs {f:Nat->Value}{dst:Option Tmp}{K:Value->World->Prop}(h:K v w)(hd:dst=some d:=by exact Z):Sn Q N ds dst f K .normal (act N (upd f d v) ds) w:=by subst hd;exact .inl ⟨rfl,v,(ai _ _ _ _ _).symm,h⟩
def bj (h:∀(e:Nat->Value) (w:World),R w0 w->(∀j d,ca o j=true->cT l j=some d->oP acc.reverse j (e d) w)->
 wpListIn (Fw r) n P l.toArray (Pl N ds o.dst V w (fr l M acc.reverse (ca o) e e0)) [o] (act N (fr l M acc.reverse (ca o) e e0) ds) w)(ht:rn Q r n P N ds l M R k3 e0 w0 Fin (i+1) (.pv V::acc) os)(hR:∀w,R w w:=by first|exact aa4|exact λ_=>trivial)(hJ:∀ls e w v,k3 ls e w->k3 (gH ls i) (jw e o.dst v) w:=by exact λ_ _ _ _ h=>h):rn Q r n P N ds l M R k3 e0 w0 Fin i acc (o::os):=
 EH (λe w _ D _ _ E=>h e w D E) ht hR hJ
def EI (h:∀(e:Nat->Value) (w:World),R w0 w->(∀j d,ca o j=true->cT l j=some d->oP acc.reverse j (e d) w)->
 wpListIn (Fw r) n P l.toArray (Sn Q N ds o.dst (fr l M acc.reverse (ca o) e e0) (λv w'=>R w w'/\φ.ok v w')) [o] (act N (fr l M acc.reverse (ca o) e e0) ds) w)(hs:sN R φ)(ht:rn Q r n P N ds l M R (λ_ _ _=>True) e0 w0 Fin (i+1) (φ::acc) os):rn Q r n P N ds l M R (λ_ _ _=>True) e0 w0 Fin i acc (o::os):=
 ⟨φ,⟨hs,λe w ls D _ _ _ _ E=>mm (h e w D E) (λ_ _ _ H=>H.imp (fun⟨h1,v,h2,h3,h4⟩=>⟨h1,v,h2,h3,h4,trivial⟩) id)⟩,ht⟩
def ay (h:∀(e:Nat->Value) (w:World),R w0 w->(∀j d,ca o j=true->cT l j=some d->oP acc.reverse j (e d) w)->
 wpListIn (Fw r) n P l.toArray (Sn Q N ds o.dst (fr l M acc.reverse (ca o) e e0) (λv w'=>R w w'/\v=V)) [o] (act N (fr l M acc.reverse (ca o) e e0) ds) w)(ht:rn Q r n P N ds l M R (λ_ _ _=>True) e0 w0 Fin (i+1) (.pv V::acc) os):rn Q r n P N ds l M R (λ_ _ _=>True) e0 w0 Fin i acc (o::os):=EI (φ:=.pv V) h (λ_ _ _ _ h=>h) ht
def da (p:Value->World->Prop)(h:∀(e:Nat->Value) (w:World),R w0 w->(∀j d,ca o j=true->cT l j=some d->oP acc.reverse j (e d) w)->
 wpListIn (Fw r) n P l.toArray (Sn Q N ds o.dst (fr l M acc.reverse (ca o) e e0) (λv w'=>R w w'/\p v w')) [o] (act N (fr l M acc.reverse (ca o) e e0) ds) w)(ht:rn Q r n P N ds l M R (λ_ _ _=>True) e0 w0 Fin (i+1) (.ph p::acc) os)(hs:sN R (.ph p):=by exact λ_ _ _ _ h=>h):rn Q r n P N ds l M R (λ_ _ _=>True) e0 w0 Fin i acc (o::os):=EI (φ:=.ph p) h hs ht
end draws
def l8 (l:List (Nat×Nat))(t:Nat):Bool:=l.any λd=>Nat.ble d.1 t&&Nat.ble t d.2
def GH (hd:l8 l d=true)(h:∀t,l8 l t=false->e' t=e1 t):∀t,l8 l t=false->upd e' d v t=e1 t:=by
 intro t ht
 have:t≠d:=λD=>by subst D;rw[hd]at ht;cases ht
 rw[upd_ne _ _ this];exact h t ht
def Ja {m:List (Nat×Nat)}(hs:(m.all λd=>l.any λc=>Nat.ble c.1 d.1&&Nat.ble d.2 c.2)=true)(h:∀t,l8 l t=false->e' t=e1 t):∀t,l8 l t=false->ov (l8 m) e e' t=e1 t:=by
 intro t ht
 have:l8 m t=false:=by
  cases hm:l8 m t with
  |false=>rfl
  | true=>
    obtain⟨d,hd,h1⟩:=List.any_eq_true.1 hm
    obtain⟨c,hc,D⟩:=List.any_eq_true.1 (List.all_eq_true.1 hs d hd)
    simp only[Bool.and_eq_true,Nat.ble_eq]at h1 D
    have:l8 l t=true:=List.any_eq_true.2 ⟨c,hc,by simp only[Bool.and_eq_true,Nat.ble_eq];omega⟩
    rw[this]at ht;cases ht
 unfold ov;rw[this];exact h t ht
def uG:∀(os:List Oper) (t j k:Nat) (l:List (Nat×Nat)),(os.all λo=>match o.dst with|some d=>l8 l d|none=>true)=true->y8 os t j=some k->l8 l t=true
 |[],_,_,_,_,_,h=>by simp[y8]at h
 | o ::os,t,j,k,l,ha,h=>by
   rw[List.all_cons,Bool.and_eq_true]at ha
   unfold y8 at h
   split at h
   · rename_i d hd
     split at h
     · rename_i hb
       have h1:=ha.1
       rw[hd]at h1
       rw[<-Nat.eq_of_beq_eq_true hb];exact h1
     · exact uG os t (j+1) k l ha.2 h
   · exact uG os t (j+1) k l ha.2 h
def Jb {m:List Nat}(hs:(m.all λd=>l8 l d)=true)(h:∀t,l8 l t=false->e' t=e1 t):∀t,l8 l t=false->ov (pY m) e e' t=e1 t:=by
 intro t ht
 have:pY m t=false:=by
  cases hm:pY m t with
  |false=>rfl
  | true=>
    obtain⟨d,hd,h1⟩:=List.any_eq_true.1 hm
    have D:=List.all_eq_true.1 hs d hd
    rw[Nat.eq_of_beq_eq_true h1]at D
    rw[ht]at D;cases D
 unfold ov;rw[this];exact h t ht
def Jc {ops:List Oper}{Φ:List Ph}(hs:((ops.take M).all λo=>match o.dst with|some d=>l8 l d|none=>true)=true)(h:∀t,l8 l t=false->e' t=e1 t):
 ∀t,l8 l t=false->fr ops M Φ sel e e' t=e1 t:=by
 intro t ht
 unfold fr
 split
 · exact h t ht
 · rename_i j hj
   rw[uG _ _ _ _ _ hs hj]at ht;cases ht
def GI :∀t,l8 l t=false->e t=e t:=λ_ _=>rfl
def same (h:∀t,l8 l t=false->e' t=e t:=by
 repeat first
  |with_reducible exact GI
  |((with_reducible refine GH ?_ ?_);· exact Z)
  |((with_reducible refine Ja ?_ ?_);· kernel_rfl)
  |((with_reducible refine Jb ?_ ?_);· kernel_rfl)
  |((with_reducible refine Jc ?_ ?_);· kernel_rfl)):∀t,l8 l t=false->e' t=e t:=h
section code
variable {P:Program}{r:Option Nat}{N:Nat}{ds:List Deferred}{Q:Exit->Act->World->Prop}{K:Act->World->Prop}{c c1:Code}{kx:Nat->(Nat->Value)->World->Prop}{mods:List (Nat×Nat)}
def EJ (h:∀t,l8 mods t=false->e1 t=e t):e1=ov (l8 mods) e1 e:=funext λt=>by
 unfold ov;split
 · rfl
 · rename_i hh;exact h t hh
def Lg (N:Nat)(ds:List Deferred)(mods:List (Nat×Nat))(e:Nat->Value)(kx:Nat->(Nat->Value)->World->Prop)(k:Nat):Act->World->Prop:=λa' w'=>∃k' e',k'<k/\a'=act N e' ds/\(∀t,l8 mods t=false->e' t=e t)/\kx k' e' w'
def cM (mods:List (Nat×Nat))(kx:Nat->(Nat->Value)->World->Prop)(k:Nat)(h0:kx k e w)(hs:∀k e1 w1,kx k e1 w1->c.wpIn (Fw r) n P (Exit.then (Lg N ds mods e kx k) Q) (act N (ov (l8 mods) e1 e) ds) w1):(Code.loop c).wpIn (Fw r) n P Q (act N e ds) w:=
 FC (λk e1 w1=>(∀t,l8 mods t=false->e1 t=e t)/\kx k e1 w1) k ⟨λ_ _=>rfl,h0⟩ λk e1 w1 ⟨h1,E⟩=>by
  have:=hs k e1 w1 E
  rw[<-EJ h1]at this
  exact wpIn_mono this (by
   intro x H w' hq
   cases x <;>first|exact hq|(obtain⟨k',e',hk,rfl,D,hI'⟩:=hq;exact⟨k',e',hk,rfl,D,hI'⟩))
def Jd {rest:Code}{l:Nat}(mods:List (Nat×Nat))(kx:Nat->(Nat->Value)->World->Prop)(k:Nat)(h0:kx k e w)(hs:∀k e1 w1,kx k e1 w1->rest.wpIn (Fw r) n P (xU l (Lg N ds mods e kx k) Q) (act N (ov (l8 mods) e1 e) ds) w1):rest.wpIn (Fw r) n P (xU l (JA (Fw r) n P l (Code.skip.seq rest) Q) Q) (act N e ds) w:=by
 have key:∀m k e1 w1,k<m->(∀t,l8 mods t=false->e1 t=e t)->kx k e1 w1->rest.wpIn (Fw r) n P (xU l (JL (Fw r) n P l (Code.skip.seq rest) Q (m-1)) Q) (act N e1 ds) w1:=by
  intro m
  induction m with
  |zero=>intro k e1 w1 hk;omega
  | succ m ih=>
    intro k e1 w1 hk E hI
    have:=hs k e1 w1 hI
    rw[<-EJ E]at this
    refine wpIn_mono this (sP λa w ⟨k',e',kk,O,D,hI'⟩=>?_)
    subst O
    have H:=ih k' e' w U D hI'
    obtain⟨p,rfl⟩:∃p,m=p+1:=⟨m-1,by omega⟩
    exact ss (oh (mf H))
 exact wpIn_mono (key (k+1) k e w U (λ_ _=>rfl) h0) (sP λa w h=>⟨k,h⟩)
def bQ (hI:kx k' e' w')(hk:k'<k:=by omega)(hs:∀t,l8 mods t=false->e' t=e t:=by exact same):Lg N ds mods e kx k (act N e' ds) w':=⟨k',e',hk,rfl,hs,hI⟩
end code
section ops
variable {P:Program}{r:Option Nat}{N:Nat}{ds:List Deferred}{Q:Exit->Act->World->Prop}{K:Act->World->Prop}{a:Act}
variable {ops:Array Oper}{rest:List Oper}{op:Op}{ty:Nat}{pos:String}{af:Array Edge}{id:Nat}{c c1 c2:Code}{x y:Operand}
abbrev L (r:Option Nat)(n:Nat)(ops:Array Oper)(Q:Exit->Act->World->Prop)(rest:List Oper)(N:Nat)(e:Nat->Value)(ds:List Deferred)(w:World):Prop:=wpListIn (Fw r) n prog ops Q rest (act N e ds) w
def al {z:Value}(hi:gW prog t z s b)(hk:∀w',(w'.heap.size=w.heap.size+1/\a8 w w')->ae w' w.heap.size t z.cells->L r n ops Q rest N (upd e d (.pointer (some ⟨w.heap.size,0,none⟩))) ds w'):
 L r n ops Q (⟨some d,.alloc t,ty,pos,af,none⟩::rest) N e ds w:=ab (BW hi λw' h1 E D=>hk w' ⟨E,h1⟩ D)
def bx (hk:∀w',(w'.heap.size=w.heap.size+1/\a8 w w')->ae w' w.heap.size t v.cells->L r n ops Q rest N (upd e d (.pointer (some ⟨w.heap.size,0,none⟩))) ds w')(hx:ev N e x=v:=by exact xh):
 L r n ops Q (⟨some d,.box t x,ty,pos,af,none⟩::rest) N e ds w:=ab (Ib hx λw' h1 E D=>hk w' ⟨E,h1⟩ D)
def cl {R:Value->World->Prop}(hf:Enters prog f)(hc:Calls prog f vs.toArray w (aH w R))(hk:∀v w',H6 w w'->R v w'->L r n ops Q rest N (upd e d v) ds w')(hv:xs.toList.map (ev N e)=vs:=by exact Z):
 L r n ops Q (⟨some d,.call ⟨.value (.func f),xs,ats⟩,ty,pos,af,none⟩::rest) N e ds w:=ab (ol hf hv hc λv w' h=>hk v w' (IX h))
def clb {R:Value->World->Prop}(hf:Enters prog f)(hv:xs.toList.map (ev N e)=vs:=by exact Z)(hc:Calls prog f vs.toArray w (aH w R))(hk:∀v w',H6 w w'->R v w'->L r n ops Q rest N (upd e d v) ds w'):
 L r n ops Q (⟨some d,.call ⟨.value (.func f),xs,ats⟩,ty,pos,af,none⟩::rest) N e ds w:=ab (ol hf hv hc λv w' h=>hk v w' (IX h))
def vS {R:Value->World->Prop}(hf:Enters prog f)(hx:ev N e x=.func (.func f) #[] lb.toArray)(hv:xs.toList.map (ev N e)=vs)(hc:Calls prog f (vs++lb).toArray w (aH w R))(hk:∀v w',H6 w w'->R v w'->K (act N (upd e d v) ds) w'){g:Option (Nat×Bool)}:Oper.wpIn (Fw r) n prog ⟨some d,.call ⟨.value x,xs,ats⟩,ty,pos,af,g⟩ (act N e ds) w K Q:=BZ hf hx hv hc λv w' h=>hk v w' (IX h)
def rp {R:Value->World->Prop}{g:Option (Nat×Bool)}(hf:Enters prog f)(hv:xs.toList.map (ev N e)=vs)(hc:Calls prog f vs.toArray w (aH w R))(hk:∀v w',H6 w w'->R v w'->K (act N (upd e d v) ds) w'):Oper.wpIn (Fw r) n prog ⟨some d,.call ⟨.value (.func f),xs,ats⟩,ty,pos,af,g⟩ (act N e ds) w K Q:=ol hf hv hc λv w' h=>hk v w' (IX h)
def SA {t tb:Nat}(hb:ae w b tb cs)(hk:∀w',fe w w' b->ae w' b tb (putCells cs o vs)->L r n ops Q rest N e ds w')(hx:ev N e x=.pointer (some ⟨b,o,none⟩):=by exact fH)(hy:ev N e y=.agg vs.toArray:=by exact fH)(hi:(prog.info? t).map (·.size)=some m:=by with_reducible first|exact dv|exact cD|exact bf|exact yf|exact bc|exact fh|exact jC)(hm:vs.length=m:=by exact Z)(h1:vs.all (·.oneCell')=true:=by exact Z)(ho:o+vs.length<=cs.size:=by exact qa3 Z):
 L r n ops Q (⟨none,.store t x y,ty,pos,af,none⟩::rest) N e ds w:=ab (aU (hm▸hi) hx hy (List.all_eq_true.1 h1) hb ho hk)
def SO {t tb:Nat}(hb:ae w b tb cs)(hk:∀w',fe w w' b->ae w' b tb (cs.setIfInBounds o v)->L r n ops Q rest N e ds w')(hx:ev N e x=.pointer (some ⟨b,o,none⟩):=by exact fH)(hy:ev N e y=v:=by exact xh)(h1:v.oneCell'=true:=by exact Z)(hi:(prog.info? t).map (·.size)=some 1:=by with_reducible first|exact eN|exact KF|exact En|exact jB|exact KG|exact sz1104|exact FG|exact ye|exact sz23|exact sz24|exact Iq)(ho:o<cs.size:=by exact qa3 Z):
 L r n ops Q (⟨none,.store t x y,ty,pos,af,none⟩::rest) N e ds w:=ab (dn hi hx hy h1 hb ho hk)
def BS {t:Nat}{z:Value}{cs:List Value}(hk:∀w',a8 w w'->w.heap.size<w'.heap.size->w'.ownsRow w.heap.size el size (.slice (some ⟨w.heap.size,0,none⟩) 1 1) 1 cs->L r n ops Q rest N (upd e d (.slice (some ⟨w.heap.size,0,none⟩) 1 1)) ds w')(hx:ev N e x=v:=by exact xh)(hc:v.cells=cs.toArray:=by exact Z)(hs:EG prog t el z size bytes:=by with_reducible first|exact uF|exact Gy|exact Gz|exact zd|exact ze)(hf:Instr.fill (λi=>some (i*size,size)) ((Array.range (1*size)).map (z.cells[· %z.cells.size]!)) [(0,v)]=some cs.toArray:=by kernel_rfl)(hl:cs.toArray.size=1*size:=by exact Z)(h24:Nat.ble (1*size) 16777216=true:=by exact Z):L r n ops Q (⟨some d,.buildSlice t 1 #[(0,x)],ty,pos,af,none⟩::rest) N e ds w:=ab (lg hs.1 hs.2.1 (by rw[<-hx];rfl) (qa3 h24) (by have:=hs.2.2.2;omega) hf hl dc hk)
def GJ {t:Nat}{z:Value}{cs ds':List Value}(hk:∀w',a8 w w'->w.heap.size<w'.heap.size->w'.ownsRow w.heap.size el size (.slice (some ⟨w.heap.size,0,none⟩) 2 2) 2 (cs++ds')->L r n ops Q rest N (upd e d (.slice (some ⟨w.heap.size,0,none⟩) 2 2)) ds w')(hx:ev N e x=u:=by exact xh)(hy:ev N e y=v:=by exact xh)(hc:u.cells=cs.toArray:=by exact Z)(hd:v.cells=ds'.toArray:=by exact Z)(hs:EG prog t el z size bytes:=by with_reducible first|exact uF|exact Gy|exact Gz|exact zd|exact ze)(hf:Instr.fill (λi=>some (i*size,size)) ((Array.range (2*size)).map (z.cells[· %z.cells.size]!)) [(0,u),(1,v)]=some (cs++ds').toArray:=by kernel_rfl)(hl:(cs++ds').toArray.size=2*size:=by exact Z)(h24:Nat.ble (2*size) 16777216=true:=by exact Z):L r n ops Q (⟨some d,.buildSlice t 2 #[(0,x),(1,y)],ty,pos,af,none⟩::rest) N e ds w:=ab (lg hs.1 hs.2.1 (by rw[<-hx,<-hy];rfl) (qa3 h24) (by have:=hs.2.2.2;omega) hf hl dc hk)
def AP {t ty base lo c:Nat}{z:Value}{A:Option Addr}{xs news:List Value}(hown:w.ownsRow base el size v k xs)(hr:Rw w lo A news)(hk:∀v' w',w'.ownsRow base el size v' (k+m) (xs++news)->w.grownBy w' v.ownBlock->(v'.ownBlock=v.ownBlock\/v'.ownBlock=some w.heap.size)->L r n ops Q rest N (upd e d v') ds w')(h1:news.all (·.oneCell')=true:=by exact Z)(hx:ev N e x=v:=by exact fH)(hy:ev N e y=.slice A m c:=by exact fH)(hs:EG prog t el z size bytes:=by with_reducible first|exact uF|exact Gy|exact Gz|exact zd|exact ze)(hl:news.length=m*size:=by exact Z)(h63:k+m<=maxLen:=by simp only[maxLen];omega)(hb:(k+m)*bytes<=140737488355328:=by omega)(hbase:base<=w.heap.size:=by omega):
 L r n ops Q (⟨some d,.call {callee:=.builtin .append,args:=#[x,y],argTypes:=#[t,t]},ty,pos,af,none⟩::rest) N e ds w:=ab (jA hs.1 hs.2.1 hs.2.2.1 hs.2.2.2 hx hown hy hr hl (List.all_eq_true.1 h1) h63 hb hbase hk)
end ops
end Go.Proofs.YtgcfffdpcefifaaGreatDoor
namespace Go.Proofs.YtgcfffdpcefifaaGreatDoor
variable {xs ys:List Nat}{i m n b lo' lo c n1 c1 n2 c2 lo1 lo2 B1 B2 g a1 a2:Nat}{A A1 A2:Option Addr}{w:World}
set_option maxRecDepth 100000
open Go Go.Eng Go.RowKit Tryz
attribute [local irreducible] wpListIn Code.wpIn Oper.wpIn Exit.then Exit.inBlock Exit.noGoto
set_option maxHeartbeats 40000000
def je {a:Int}(h:In64 a:=by unfold In64;omega):In64 a:=h
def ints (l:List Nat):List Value:=l.map λn:Nat=>Value.int .i64 n
def zf (h:i<xs.length):(ints xs)[i]?=some (.int .i64 ((xs[i]:Nat):Int)):=by simp[ints,h]
def cY (xs:List Nat):(ints xs).length=xs.length:=by simp[ints]
def ll :∀u∈ints xs,u.oneCell'=true:=by
 intro u hu
 obtain⟨n,_,rfl⟩:=List.mem_map.1 hu
 rfl
def jP (a b:List Nat):ints (a++b)=ints a++ints b:=by simp[ints]
def jf (h:xs.length<=i):xs.getD i 0=0:=by simp[List.getD,List.getElem?_eq_none h]
def aO (h:i<xs.length):(ints xs)[i]?=some (.int .i64 ((xs.getD i 0:Nat):Int)):=by simp[ints,h]
def qi (h0:0<m)(h:m<=xs.length):xs.take m=xs.take (m-1)++[xs.getD (m-1) 0]:=by
 obtain⟨k,rfl⟩:∃k,m=k+1:=⟨m-1,by omega⟩
 rw[List.take_succ_eq_append_getElem U]
 simp[show k<xs.length by omega]
def mT:∀l:List Nat,cV (l++[0])=cV l
 |[]=>by simp[cV]
 |d::l=>by simp only[List.cons_append,cV,mT l]
def oS:∀(l:List Nat) (d:Nat),d≠0->cV (l++[d])=l++[d]
 |[],d,h=>by simp[cV,h]
 | e::l,d,h=>by
   have ih:=oS l d h
   simp only[List.cons_append,cV,ih]
   rw[if_neg Vk]
def qj (h:0<m/\m<=n/\xs.length=n)(hz:xs.getD (m-1) 0=0):cV (xs.take m)=cV (xs.take (m-1)):=by
 rw[qi h.1 U,hz,mT]
def kb (h:m<=n/\xs.length=n)(hz:m=0\/0<m/\xs.getD (m-1) 0≠0):cV (xs.take m)=xs.take m:=by
 rcases hz with rfl|⟨h0,hz⟩
 · simp[cV]
 · rw[qi h0 U,oS _ _ hz]
structure dm (w:World)(lo:Nat)(A:Option Addr)(n c a:Nat):Prop where
 row:Rw w lo A (ints (aj 10000 a))
 len:(aj 10000 a).length=n
 cap:n<=c
section
variable {w0 w':World}{a:Nat}
def dm.ext (k:a8 w w')(h:dm w lo A n c a):dm w' lo A n c a:=⟨h.row.ext k,h.len,h.cap⟩
def aa1:=@dm.ext
def dm.put (k:fe w w' b)(hb:b<lo)(h:dm w lo A n c a):dm w' lo A n c a:=⟨h.row.put k hb,h.len,h.cap⟩
def ab0:=@dm.put
def dm.gr {row:Option Nat}(k:w.grownBy w' row)(hne:∀ad,A=some ad->some ad.block≠row)(h:dm w lo A n c a):dm w' lo A n c a:=⟨h.row.gr k hne,h.len,h.cap⟩
def dm.mono (hl:lo'<=lo)(h:dm w lo A n c a):dm w lo' A n c a:=⟨h.row.mono hl,h.len,h.cap⟩
def dm.lt (h:dm w lo A n c a):∀x∈aj 10000 a,x<10000:=cu 10000 U a
def dm.val (h:dm w lo A n c a):bg 10000 (aj 10000 a)=a:=bU 10000 U a
end
def jQ {l:List Int}(h:∀x∈l,0<=x/\x<10000):l.map (Value.int .i64)=ints (dH l):=by
 conv=>lhs;rw[<-sD l (λx hx=>(h x hx).1)]
 simp[ints]
def uH {a:Nat}{l:List Int}(hd:∀x∈l,0<=x/\x<10000)(hv:bg 10000 (dH l)=a)(hr:Rw w lo A (ints (dH l)))(hm:cV (dH l)=(dH l).take m)(hml:m<=(dH l).length)(hmc:m<=c):dm w lo A m c a:=by
 have h1:aj 10000 a=(dH l).take m:=by
  rw[<-hm,<-hv]
  exact(jL 10000 U _ (xf l hd)).symm
 refine⟨?_,?_,hmc⟩
 · rw[h1]
   have:ints ((dH l).take m)=(ints (dH l)).take m:=by simp[ints]
   rw[this]
   exact hr.take m
 · rw[h1];simp;omega
def dM (l:List Int):(dH l).length=l.length:=by simp[dH]
def iL (x:Int)(w:World):
 CL 159 #[.int .i64 x] w (aH w λv w'=>v=.bool false):=by
 refine aC func159 Z (I ?_);exact an (t:=2) (v:=.bool false) Z (aa4 _) Z (by show Value.bool (!decide (x=x))=_;simp)
def GK (x y:Int)(h:x<y)(w:World):
 CL 110 #[.int .i64 x,.int .i64 y] w (aH w λv w'=>v=.int .i64 (-1)):=by
 refine aC func110 Z (I ?_);refine cl p7 (iL _ _) ?_;rintro _ _ D rfl;have E4:=D.2;refine I ?_;refine cl p7 (iL _ _) ?_;rintro _ _ E rfl;have E4:=xt E4 E.2;refine I ?_;exact an (t:=4) (v:=.int .i64 (-1)) Z E4 Z Z
def GL (x y:Int)(h:y<x)(w:World):
 CL 110 #[.int .i64 x,.int .i64 y] w (aH w λv w'=>v=.int .i64 1):=by
 refine aC func110 Z (I ?_);refine cl p7 (iL _ _) ?_;rintro _ _ E rfl;have E11:=E.2;refine I ?_;refine cl p7 (iL _ _) ?_;rintro _ _ D rfl;have E11:=xt E11 D.2;refine I ?_;exact an (t:=4) (v:=.int .i64 1) Z E11 Z Z
def cmp_eq (x y:Int)(h:x=y)(w:World):
 CL 110 #[.int .i64 x,.int .i64 y] w (aH w λv w'=>v=.int .i64 0):=by
 refine aC func110 Z (I ?_);refine cl p7 (iL _ _) ?_;rintro _ _ E rfl;have E18:=E.2;refine I ?_;refine cl p7 (iL _ _) ?_;rintro _ _ D rfl;have E18:=xt E18 D.2;refine I ?_;exact an (t:=4) (v:=.int .i64 0) Z E18 Z Z
def sQ (hr:Rw w lo A (ints xs))(hn:xs.length=n):
 CL 165 #[.slice A n c,.int .i64 i] w (aH w λv w'=>v=.int .i64 ((xs.getD i 0:Nat):Int)):=by
 by_cases hi:i<n;have D:i<xs.length:=J
 refine aC func165 Z (I ?_);obtain⟨b,o,hA,hc⟩:=hr.cells i _ (zf D);refine ab (am (i:=i) (oo:=o+i) fj eN Z hA Z hi U ?_);refine ab (aT (v:=.int .i64 ((xs[i]'D:Nat):Int)) U3 Z Z hc ?_);refine I ?_;exact an (t:=4) (v:=.int .i64 ((xs[i]'D:Nat):Int)) Z (aa4 _) (by simp[D]) Z;refine aC func165 Z (I ?_);exact an (t:=4) (v:=.int .i64 0) Z (aa4 _) (by rw[jf U];rfl) Z
def Cx (h1:Rw w lo1 A1 (ints xs))(hn1:xs.length=n1)(h2:Rw w lo2 A2 (ints ys))(hn2:ys.length=n2)(k1:ae w B1 76 #[.slice A1 n1 c1])(k2:ae w B2 76 #[.slice A2 n2 c2])(hx:xs.getD i 0<=1000000000)(hy:ys.getD i 0<=1000000000):
 CL 164 #[.int .i64 i,pT B1,pT B2] w (aH w λv w'=>v=.int .i64 (((xs.getD i 0:Nat):Int)+((ys.getD i 0:Nat):Int))):=by
 refine aC func164 Z (I ?_);refine bB 8 ?_;refine sf ?_;refine ay (V:=.int .i64 ((xs.getD i 0:Nat):Int)) (λ_ _ hR32 _=>?_) ?_;have h1:=h1.ext hR32;refine cl sy (sQ h1 hn1) ?_;rintro _ _ D rfl;have E37:=D.2;refine I ?_;exact fs ⟨E37,rfl⟩;refine sf ?_;refine ay (V:=.int .i64 ((ys.getD i 0:Nat):Int)) (λ_ _ hR48 _=>?_) ?_;have h2:=h2.ext hR48;refine cl sy (sQ h2 hn2) ?_;rintro _ _ E rfl;have E53:=E.2;refine I ?_;exact fs ⟨E53,rfl⟩;refine bj (λ_ _ _ _=>by refine xl ?_;refine I ?_;exact bY) ?_;refine sf ?_;intro _ _ hR64 _;have E66:=hR64.2;refine I ?_;exact an (t:=4) (v:=.int .i64 (((xs.getD i 0:Nat):Int)+((ys.getD i 0:Nat):Int))) Z E66 Z Z
def zg (h1:Rw w lo1 A1 (ints xs))(hn1:xs.length=n1)(h2:Rw w lo2 A2 (ints ys))(hn2:ys.length=n2)(k1:ae w B1 76 #[.slice A1 n1 c1])(k2:ae w B2 76 #[.slice A2 n2 c2])(hx:xs.getD i 0<=1000000000)(hy:ys.getD i 0<=1000000000):
 CL 166 #[.int .i64 i,pT B1,pT B2] w (aH w λv w'=>v=.int .i64 (((xs.getD i 0:Nat):Int)-((ys.getD i 0:Nat):Int))):=by
 refine aC func166 Z (I ?_);refine bB 8 ?_;refine sf ?_;refine ay (V:=.int .i64 ((xs.getD i 0:Nat):Int)) (λ_ _ hR77 _=>?_) ?_;have h1:=h1.ext hR77;refine cl sy (sQ h1 hn1) ?_;rintro _ _ D rfl;have E82:=D.2;refine I ?_;exact fs ⟨E82,rfl⟩;refine sf ?_;refine ay (V:=.int .i64 ((ys.getD i 0:Nat):Int)) (λ_ _ hR93 _=>?_) ?_;have h2:=h2.ext hR93;refine cl sy (sQ h2 hn2) ?_;rintro _ _ O rfl;have E98:=O.2;refine I ?_;exact fs ⟨E98,rfl⟩;refine bj (λ_ _ _ _=>by refine oO ?_;refine I ?_;exact bY) ?_;refine sf ?_;intro _ _ H _;have E:=H.2;refine I ?_;exact an (t:=4) (v:=.int .i64 (((xs.getD i 0:Nat):Int)-((ys.getD i 0:Nat):Int))) Z E Z Z
def ec (hr:Rw w lo A (ints xs))(hn:xs.length=n)(hc:n<=c)(hb:n<=1000000):
 CL 158 #[.slice A n c] w (aH w λv w'=>∃m,v=.slice A m c/\cV xs=xs.take m/\m<=n):=by
 refine aC func158 Z (I ?_);have H:=aa4 w;refine cM [(0,0),(3,19)] (λO e W=>∃m:Nat,(m=O)/\(e 0=.slice A m c)/\(m<=n)/\(cV xs=cV (xs.take m))/\(a8 w W)) (n) ⟨n,rfl,rfl,(qa0 _),(by rw[List.take_of_length_le U]),H⟩ ?_;rintro _ _ _ ⟨m,rfl,kd,Ab,E,D⟩;have kk:=bz D;by_cases hm:0<m;by_cases hz:xs.getD (m-1) 0=0;obtain⟨b,o,hA,hc⟩:=(hr.ext D).cells (m-1) _ (aO (xs:=xs) U);refine I ?_;refine ab (fg (a:=(m:Int)) (b:=1) (c:=((m-1:Nat):Int)) Z Z je U ?_);refine I ?_;refine ab (am (i:=m-1) (oo:=o+(m-1)) fj eN Z hA Z U U ?_);refine I ?_;refine ab (aT (v:=.int .i64 ((xs.getD (m-1) 0:Nat):Int)) U3 Z Z hc ?_);refine I ?_;refine ab (fg (a:=(m:Int)) (b:=1) (c:=((m-1:Nat):Int)) Z Z je U ?_);refine ab (Ej (j:=m-1) fj eN Z Z U ?_);refine I ?_;exact bQ ⟨m-1,rfl,rfl,U,(E.trans (qj (n:=n) U hz)),D⟩;obtain⟨b,o,hA,hc⟩:=(hr.ext D).cells (m-1) _ (aO (xs:=xs) U);refine I ?_;refine ab (fg (a:=(m:Int)) (b:=1) (c:=((m-1:Nat):Int)) Z Z je U ?_);refine I ?_;refine ab (am (i:=m-1) (oo:=o+(m-1)) fj eN Z hA Z U U ?_);refine I ?_;refine ab (aT (v:=.int .i64 ((xs.getD (m-1) 0:Nat):Int)) U3 Z Z hc ?_)
 refine I ?_;exact an (t:=2) (v:=.slice A m c) Z D ⟨m,rfl,E.trans (kb (n:=n) U Vx),by omega⟩ Z;refine I ?_;exact an (t:=2) (v:=.slice A m c) Z D ⟨m,rfl,E.trans (kb (n:=n) U Vx),by omega⟩ Z
def rq {c0:Int}{lb:List Value}{d:Nat->Int}(heg:Enters prog g)(hd:∀(i:Nat) (W:World),i<=n->a8 w W->CL g ([Value.int .i64 i]++lb).toArray W (aH W λv _=>v=.int .i64 (d i)))(hn:n<=1000000)(hr:∀i≤n,-1000000000000<=d i/\d i<=1000000000000)(hc:∀k≤n,-1000000000<=(az d c0 k).1/\(az d c0 k).1<=1000000000)(hcn:0<=(az d c0 n).1/\(az d c0 n).1<10000)(hdn:d n=0):
 CL 163 #[.int .i64 n,.int .i64 c0,.func (.func g) #[] lb.toArray] w (aH w λv w'=>∃k,n<=k/\k<=n+1/\(az d c0 k).1=0/\w'.ownsRow w.heap.size 3 1 v k ((az d c0 k).2.map (Value.int .i64))):=by
 refine aC func163 Z (I ?_);refine ab (bb (a:=(n:Int)) (b:=1) (c:=((n+1:Nat):Int)) Z Z je U ?_);refine ab (BX (m:=n+1) fj kH Z Z U Vv (λ_ Ay ho=>?_));have od:=Ay;have MI:=bz Ay;refine I ?_;refine cM [(1,1),(7,9),(13,40)] (λJx e W=>∃k:Nat,∃H:Value,(n+1-k=Jx)/\(e 1=.int .i64 ((az d c0 k).1))/\(e 7=H)/\(e 8=.int .i64 k)/\(k<=n+1)/\(k=n+1->(az d c0 k).1=0)/\(a8 w W)/\(W.ownsRow w.heap.size 3 1 H k ((az d c0 k).2.map (Value.int .i64)))) (n+1-0) ⟨0,_,rfl,rfl,rfl,rfl,U,U,od,ho⟩ ?_;rintro _ _ _ ⟨k,H,rfl,M3,kk,MJ,MK,M9,D,ho⟩;have MG:=bz D;by_cases hkn:k<n;by_cases hs:d k+(az d c0 k).1<0;have Aq:=hr k U;have As:=hc k U;have E:=uy U;refine I ?_;refine ab (vS (vs:=[.int .i64 k]) (lb:=lb) heg Z Z (hd k _ U D) ?_);rintro _ _ Af rfl;have Af:=Af.2;have ho:=aD Af ho;have D:=xt D Af;have M5:=bz Af;refine I ?_;refine xl (I ?_);refine xl (I ?_);refine ab (cW (v:=H) kk ?_);refine I ?_;refine BS (λ_ Ap _ K2=>?_);have ho:=aD Ap ho;have D:=xt D Ap;have MA:=bz Ap;refine AP ho (aa3 K2) (λAv _ Kp E7 _=>?_);have D:=cK D E7 (bz D) (λg O=>by have:=(ho.lt g O).1;omega);have M8:=E7.size;refine ab (bJ (v:=Av) Z ?_)
 refine I ?_;refine ab (bb (a:=(k:Int)) (b:=1) (c:=((k+1:Nat):Int)) Z Z je U ?_);refine I ?_;exact bQ ⟨k+1,Av,rfl,VX,rfl,rfl,U,VP,D,(by rw[E];simpa using Kp)⟩;by_cases hs2:10000<=d k+(az d c0 k).1;have Aq:=hr k U;have As:=hc k U;have E:=uz U U;refine I ?_;refine ab (vS (vs:=[.int .i64 k]) (lb:=lb) heg Z Z (hd k _ U D) ?_);rintro _ _ Ad rfl;have Ad:=Ad.2;have ho:=aD Ad ho;have D:=xt D Ad;have M6:=bz Ad;refine I ?_;refine xl (I ?_);refine ab (lf (a:=(d k)+((az d c0 k).1)) (b:=10000) (c:=((d k)+((az d c0 k).1))/10000) Z Z U U je Z ?_);refine I ?_;refine ab (jz (a:=(d k)+((az d c0 k).1)) (b:=10000) (c:=((d k)+((az d c0 k).1))%10000) Z Z U U Z ?_);refine I ?_;refine ab (cW (v:=H) kk ?_);refine I ?_;refine BS (λ_ Ao _ wr=>?_);have ho:=aD Ao ho;have D:=xt D Ao;have ML:=bz Ao;refine AP ho (aa3 wr) (λD1 _ Ix D2 _=>?_);have D:=cK D D2 (bz D) (λg O=>by have:=(ho.lt g O).1;omega);have MB:=D2.size;refine ab (bJ (v:=D1) Z ?_);refine I ?_;refine ab (bb (a:=(k:Int)) (b:=1) (c:=((k+1:Nat):Int)) Z Z je U ?_);refine I ?_
 exact bQ ⟨k+1,D1,rfl,VX,rfl,rfl,U,VP,D,(by rw[E];simpa using Ix)⟩;have Aq:=hr k U;have As:=hc k U;have E:=oG U U;refine I ?_;refine ab (vS (vs:=[.int .i64 k]) (lb:=lb) heg Z Z (hd k _ U D) ?_);rintro _ _ Ab rfl;have Ab:=Ab.2;have ho:=aD Ab ho;have D:=xt D Ab;have ME:=bz Ab;refine I ?_;refine xl (I ?_);refine ab (cW (v:=H) kk ?_);refine I ?_;refine BS (λ_ Am _ E9=>?_);have ho:=aD Am ho;have D:=xt D Am;have MH:=bz Am;refine AP ho (aa3 E9) (λE4 _ EW Ax _=>?_);have D:=cK D Ax (bz D) (λg O=>by have:=(ho.lt g O).1;omega);have MD:=Ax.size;refine ab (bJ (v:=E4) Z ?_);refine I ?_;refine ab (bb (a:=(k:Int)) (b:=1) (c:=((k+1:Nat):Int)) Z Z je U ?_);refine I ?_;exact bQ ⟨k+1,E4,rfl,VX,rfl,rfl,U,VP,D,(by rw[E];simpa using EW)⟩;by_cases hcz:(az d c0 k).1=0;refine I ?_;refine ab (cW (v:=H) kk ?_);refine ab (bJ (v:=H) Z ?_);refine I ?_;exact an (t:=6) (v:=H) Z D ⟨k,by omega,by omega,hcz,ho⟩ Z;have Aw:n=k:=J
 have M0:=hdn;rw[Aw]at M0;have M2:=hcn;rw[Aw]at M2;have M7:¬10000<=d k+(az d c0 k).1:=J
 have MF:¬d k+(az d c0 k).1<0:=J
 have Aq:=hr k U;have As:=hc k U;have E:=oG U U;refine I ?_;refine ab (vS (vs:=[.int .i64 k]) (lb:=lb) heg Z Z (hd k _ U D) ?_);rintro _ _ kd rfl;have kd:=kd.2;have ho:=aD kd ho;have D:=xt D kd;have M4:=bz kd;refine I ?_;refine xl (I ?_);refine ab (cW (v:=H) kk ?_);refine I ?_;refine BS (λ_ Ar _ M1=>?_);have ho:=aD Ar ho;have D:=xt D Ar;have MM:=bz Ar;refine AP ho (aa3 M1) (λE1 _ L2 ny _=>?_);have D:=cK D ny (bz D) (λg O=>by have:=(ho.lt g O).1;omega);have MC:=ny.size;refine ab (bJ (v:=E1) Z ?_);refine I ?_;refine ab (bb (a:=(k:Int)) (b:=1) (c:=((k+1:Nat):Int)) Z Z je U ?_);refine I ?_;exact bQ ⟨k+1,E1,rfl,VX,rfl,rfl,U,VP,D,(by rw[E];simpa using L2)⟩
def Je (h1:Rw w lo1 A1 (ints xs))(hn1:xs.length=n1)(k1:ae w B1 76 #[.slice A1 n1 c1])(k2:ae w B2 3 #[.int .i64 m])(hx:∀x∈xs,x<10000)(hm:m<10000):
 CL 190 #[.int .i64 i,pT B1,pT B2] w (aH w λv w'=>v=.int .i64 (nj xs m i)):=by
 have hb:=rj hx hm i;unfold nj at hb;refine aC func190 Z (I ?_);refine bB 5 ?_;refine sf ?_;refine ay (V:=.int .i64 ((xs.getD i 0:Nat):Int)) (λ_ _ hR11 _=>?_) ?_;have h1:=h1.ext hR11;refine cl sy (sQ h1 hn1) ?_;rintro _ _ D rfl;have E16:=D.2;refine I ?_;exact fs ⟨E16,rfl⟩;refine sf ?_;refine bj (λ_ _ _ _=>by refine ab (jp (a:=((xs.getD i 0:Nat):Int)) (b:=(m:Int)) (c:=nj xs m i) Z Z JT Z ?_);refine I ?_;exact bY) ?_;refine sf ?_;intro _ _ hR27 _;have E29:=hR27.2;refine I ?_;exact an (t:=4) (v:=.int .i64 (nj xs m i)) Z E29 Z Z
def ln (h1:dm w lo1 A1 n1 c1 a1)(s1:n1<=100000)(h2:dm w lo2 A2 n2 c2 a2)(s2:n2<=100000):
 CL 114 #[.slice A1 n1 c1,.slice A2 n2 c2] w (aH w λv w'=>∃A n c,v=.slice A n c/\dm w' w.heap.size A n c (a1+a2)):=by
 refine aC func114 Z (I ?_);refine bx (λO Ay H=>?_);have E33:=Ay.2;refine bx (λE7 Ax EW=>?_);have⟨H,E33⟩:=bn Ax.2 H E33;refine I ?_;refine ab (Ei (a:=(n1:Int)) (b:=(n2:Int)) (m:=((max n1 n2:Nat):Int)) Z Z (by split <;>omega) ?_);refine ab (bE (vf:=[]) (vc:=[pT w.heap.size,pT O.heap.size]) Z Z ?_);have D2:∀(i:Nat) (W:World),i<=max n1 n2->a8 E7 W->CL 164 (([Value.int .i64 i]:List Value)++([pT w.heap.size,pT O.heap.size]:List Value)).toArray W (aH W λv _=>v=.int .i64 (eI (aj 10000 a1) (aj 10000 a2) i)):=by(intro i W hi X;have X2:=xt E33 X;exact Cx (h1.row.ext X2) h1.len (h2.row.ext X2) h2.len (H.ext X) (EW.ext X) (by have:=getD_lt h1.lt i;omega) (by have:=getD_lt h2.lt i;omega))
 have Aw:∀i≤max n1 n2,-1000000000000<=eI (aj 10000 a1) (aj 10000 a2) i/\eI (aj 10000 a1) (aj 10000 a2) i<=1000000000000:=λi _=>by(have:=getD_lt h1.lt i;have:=getD_lt h2.lt i;unfold eI;omega)
 have Ap:=kJ h1.lt h2.lt;have E9:∀k≤max n1 n2,-1000000000<=(az (eI (aj 10000 a1) (aj 10000 a2)) 0 k).1/\(az (eI (aj 10000 a1) (aj 10000 a2)) 0 k).1<=1000000000:=λk _=>by(have:=Ap k;omega)
 have Av:0<=(az (eI (aj 10000 a1) (aj 10000 a2)) 0 (max n1 n2)).1/\(az (eI (aj 10000 a1) (aj 10000 a2)) 0 (max n1 n2)).1<10000:=by(have:=Ap (max n1 n2);omega)
 have E4:eI (aj 10000 a1) (aj 10000 a2) (max n1 n2)=0:=by(unfold eI;rw[jf VS,jf (by rw[h2.len];omega)];rfl)
 refine clb yj (hc:=rq (d:=eI (aj 10000 a1) (aj 10000 a2)) (c0:=0) (lb:=[pT w.heap.size,pT O.heap.size]) IB D2 U Aw E9 Av E4) (hk:=?_);rintro _ _ D ⟨k,Ar,Jx,D1,ho⟩;have D:=D.2;obtain⟨Af,E,rfl,Ix,-,-,-⟩:=dt ho;have E33:=xt E33 D;have K2:=bz D;obtain⟨kk,Ab⟩:=yI h1.lt h2.lt (n:=max n1 n2) (k:=k) ⟨by rw[h1.len];omega,by rw[h2.len];omega⟩ Ar D1;rw[h1.val,h2.val]at Ab;have Ao:=ho;rw[jQ kk]at Ao;have Am:=aa3 Ao;refine clb mP (hc:=ec Am (by rw[dM,dG]) Ix U) (hk:=?_);rintro _ _ kd ⟨Ad,rfl,Aq,As⟩;have E33:=xt E33 kd.2;have E1:=uH (c:=E) kk Ab (Am.ext kd.2) Aq (by rw[dM,dG];exact As) U;refine I ?_;exact an (t:=4) (v:=.slice Af Ad E) Z E33 ⟨Af,Ad,E,rfl,E1.mono U⟩ Z
def lu (h1:dm w lo1 A1 n1 c1 a1)(s1:n1<=100000)(h2:dm w lo2 A2 n2 c2 a2)(s2:n2<=100000)(hle:a2<=a1)(hln:n2<=n1):
 CL 116 #[.slice A1 n1 c1,.slice A2 n2 c2] w (aH w λv w'=>∃A n c,v=.slice A n c/\dm w' w.heap.size A n c (a1-a2)):=by
 refine aC func116 Z (I ?_);refine bx (λH Ax O=>?_);have E49:=Ax.2;refine bx (λKp Aw D2=>?_);have⟨O,E49⟩:=bn Aw.2 O E49;refine I ?_;refine ab (bE (vf:=[]) (vc:=[pT w.heap.size,pT H.heap.size]) Z Z ?_);have E7:∀(i:Nat) (W:World),i<=n1->a8 Kp W->CL 166 (([Value.int .i64 i]:List Value)++([pT w.heap.size,pT H.heap.size]:List Value)).toArray W (aH W λv _=>v=.int .i64 (cQ (aj 10000 a1) (aj 10000 a2) i)):=by(intro i W hi X;have X2:=xt E49 X;exact zg (h1.row.ext X2) h1.len (h2.row.ext X2) h2.len (O.ext X) (D2.ext X) (by have:=getD_lt h1.lt i;omega) (by have:=getD_lt h2.lt i;omega))
 have D1:∀i≤n1,-1000000000000<=cQ (aj 10000 a1) (aj 10000 a2) i/\cQ (aj 10000 a1) (aj 10000 a2) i<=1000000000000:=λi _=>by(have:=getD_lt h1.lt i;have:=getD_lt h2.lt i;unfold cQ;omega)
 have E1:=ia h1.lt h2.lt;obtain⟨EW,As,Aq⟩:=xg h1.lt h2.lt (n:=n1) ⟨by rw[h1.len];omega,by rw[h2.len];omega⟩ (by rw[h1.val,h2.val];exact hle);have Jx:∀k≤n1,-1000000000<=(az (cQ (aj 10000 a1) (aj 10000 a2)) 0 k).1/\(az (cQ (aj 10000 a1) (aj 10000 a2)) 0 k).1<=1000000000:=λk _=>by(have:=E1 k;omega)
 have Ay:0<=(az (cQ (aj 10000 a1) (aj 10000 a2)) 0 n1).1/\(az (cQ (aj 10000 a1) (aj 10000 a2)) 0 n1).1<10000:=by(rw[EW];omega)
 have Ix:cQ (aj 10000 a1) (aj 10000 a2) n1=0:=by(unfold cQ;rw[jf VS,jf (by rw[h2.len];omega)];rfl)
 refine clb yj (hc:=rq (d:=cQ (aj 10000 a1) (aj 10000 a2)) (c0:=0) (lb:=[pT w.heap.size,pT H.heap.size]) IC E7 U D1 Jx Ay Ix) (hk:=?_);rintro _ _ D ⟨k,Ar,M0,E4,ho⟩;have D:=D.2;obtain⟨Af,E,rfl,K2,-,-,-⟩:=dt ho;have E49:=xt E49 D;have L2:=bz D;have kk:=As k;have kd:=Aq k Ar E4;rw[h1.val,h2.val]at kd;have Ao:=ho;rw[jQ kk]at Ao;have Am:=aa3 Ao;refine clb mP (hc:=ec Am (by rw[dM,dG]) K2 U) (hk:=?_);rintro _ _ Ad ⟨Ab,rfl,Ap,Av⟩;have E49:=xt E49 Ad.2;have E9:=uH (c:=E) kk kd (Am.ext Ad.2) Ap (by rw[dM,dG];exact Av) U;refine I ?_;exact an (t:=4) (v:=.slice Af Ab E) Z E49 ⟨Af,Ab,E,rfl,E9.mono U⟩ Z
def vT (h1:dm w lo1 A1 n1 c1 a1)(s1:n1<=100000)(hm:m<10000):
 CL 155 #[.slice A1 n1 c1,.int .i64 m] w (aH w λv w'=>∃A n c,v=.slice A n c/\dm w' w.heap.size A n c (a1*m)):=by
 refine aC func155 Z (I ?_);refine bx (λO Ax E=>?_);have E65:=Ax.2;refine bx (λAr Ay Aw=>?_);have⟨E,E65⟩:=bn Ay.2 E E65;refine I ?_;refine ab (bE (vf:=[]) (vc:=[pT w.heap.size,pT O.heap.size]) Z Z ?_);have E4:∀(i:Nat) (W:World),i<=n1->a8 Ar W->CL 190 (([Value.int .i64 i]:List Value)++([pT w.heap.size,pT O.heap.size]:List Value)).toArray W (aH W λv _=>v=.int .i64 (nj (aj 10000 a1) m i)):=by(intro i W hi X;have X2:=xt E65 X;exact Je (h1.row.ext X2) h1.len (E.ext X) (Aw.ext X) h1.lt hm)
 have D2:∀i≤n1,-1000000000000<=nj (aj 10000 a1) m i/\nj (aj 10000 a1) m i<=1000000000000:=λi _=>by(have:=rj h1.lt hm i;omega)
 have Ao:=oH h1.lt hm;have EW:∀k≤n1,-1000000000<=(az (nj (aj 10000 a1) m) 0 k).1/\(az (nj (aj 10000 a1) m) 0 k).1<=1000000000:=λk _=>by(have:=Ao k;omega)
 have D1:0<=(az (nj (aj 10000 a1) m) 0 n1).1/\(az (nj (aj 10000 a1) m) 0 n1).1<10000:=Ao n1;have E9:nj (aj 10000 a1) m n1=0:=by(unfold nj;rw[jf VS];simp)
 refine clb yj (hc:=rq (d:=nj (aj 10000 a1) m) (c0:=0) (lb:=[pT w.heap.size,pT O.heap.size]) IG E4 U D2 EW D1 E9) (hk:=?_);rintro _ _ D ⟨k,Av,K2,E1,ho⟩;have D:=D.2;obtain⟨Af,H,rfl,Ix,-,-,-⟩:=dt ho;have E65:=xt E65 D;have Jx:=bz D;obtain⟨kk,kd⟩:=Gj h1.lt hm (n:=n1) (k:=k) VS Av E1;rw[h1.val]at kd;have Am:=ho;rw[jQ kk]at Am;have Ad:=aa3 Am;refine clb mP (hc:=ec Ad (by rw[dM,dG]) Ix U) (hk:=?_);rintro _ _ Ap ⟨Ab,rfl,Aq,As⟩;have E65:=xt E65 Ap.2;have E7:=uH (c:=H) kk kd (Ad.ext Ap.2) Aq (by rw[dM,dG];exact As) U;refine I ?_;exact an (t:=4) (v:=.slice Af Ab H) Z E65 ⟨Af,Ab,H,rfl,E7.mono U⟩ Z
end Go.Proofs.YtgcfffdpcefifaaGreatDoor
