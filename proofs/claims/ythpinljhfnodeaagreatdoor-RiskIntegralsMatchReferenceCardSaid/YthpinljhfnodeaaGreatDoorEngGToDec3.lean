/- Part of the proof of a statement about risks. -/
import Derived.Test.YthpinljhfnodeaaGreatDoorDecToEngQ
set_option linter.all false
namespace Go.Eng
open Go Go.RowKit
variable {xs:Array Operand}{ats:Array TypeId}{X q:Bool}{l:List Oper}{cs vs:List Value}{m c o j s o' M:Nat}{e e0:Nat->Value}{A:Option Addr}{p G G':Prop}{t u:TypeId}{a v g v1 v2:Value}{w:World}
def Hv (a v:Value):Prop:=a=v
def Hv.of (h:a=v):Hv a v:=h
def Hv.str {l:List UInt8}:Hv (S l) (S l):=rfl
def Hv.ofk (h:a=v)(_:Hv v v):Hv a v:=h
def Hv.int {k:IntKind}{i:Int}:Hv (.int k i) (.int k i):=rfl
def Hv.slice :Hv (.slice A m c) (.slice A m c):=rfl
def Hv.agg {l:Array Value}:Hv (.agg l) (.agg l):=rfl
def Hv.pointer {b:Option Addr}:Hv (.pointer b) (.pointer b):=rfl
def Hv.bool {b:Bool}:Hv (.bool b) (.bool b):=rfl
def Hv.tuple {l:Array Value}:Hv (.tuple l) (.tuple l):=rfl
def Hv.iface :Hv (.iface t v) (.iface t v):=rfl
def Hv.func {f:Fn}{x y:Array Value}:Hv (.func f x y) (.func f x y):=rfl
def Hv.nilIface:Hv .nilIface .nilIface:=rfl
def Ft (h:Hv a v:=by
 first
  |exact Hv.of (Z:_=S _)
  | (conv=>arg 1;whnf
     first
      | with_reducible first
        |exact Hv.int
        |exact Hv.slice
        |exact Hv.agg
        |exact Hv.pointer
        |exact Hv.bool
        |exact Hv.tuple
        |exact Hv.iface
        |exact Hv.func
        |exact Hv.nilIface
      |exact Hv.ofk (by with_reducible assumption) (by
       with_reducible first
       |exact Hv.int
       |exact Hv.slice
       |exact Hv.str
       |exact Hv.agg
       |exact Hv.pointer
       |exact Hv.bool
       |exact Hv.tuple
       |exact Hv.iface
       |exact Hv.func
       |exact Hv.nilIface))):a=v:=h
def ix (h:Hv a v:=by
 first
 |exact Hv.of Rd
 | (conv=>arg 1;whnf
    exact Hv.of (by with_reducible assumption))):a=v:=h
section
variable {P:Program}{r:Option Nat}{n N:Nat}{ds:List Deferred}{Q:Exit->Act->World->Prop}{K:Act->World->Prop}{a:Act}
variable {ops:Array Oper}{rest:List Oper}{dst:Option Tmp}{op:Op}{d ty:Nat}{pos:String}{af:Array Edge}{id:Nat}{c c1 c2:Code}{x y:Operand}
def B9 (hk:wpListIn (Fw r) n P ops Q rest (act N (upd e d v) ds) w)(hx:ev N e x=v:=by exact Ft):wpListIn (Fw r) n P ops Q (⟨some d,.move x,ty,pos,af,none⟩::rest) (act N e ds) w:=ac (di hx hk)
def uj (hk:wpListIn (Fw r) n P ops Q rest (act N (upd e d v) ds) w)(hx:ev N e x=v:=by exact Ft):wpListIn (Fw r) n P ops Q (⟨some d,.assign x,ty,pos,af,none⟩::rest) (act N e ds) w:=ac (bO hx hk)
def Ca {b:Value}(hk:wpListIn (Fw r) n P ops Q rest (act N (upd e d v) ds) w)(hx:ev N e x=.tuple #[v,b]:=by exact ix):wpListIn (Fw r) n P ops Q (⟨some d,.extract x 0,ty,pos,af,none⟩::rest) (act N e ds) w:=ac (eS hx Z hk)
def Cb {b:Value}(hk:wpListIn (Fw r) n P ops Q rest (act N (upd e d v) ds) w)(hx:ev N e x=.tuple #[b,v]:=by exact ix):wpListIn (Fw r) n P ops Q (⟨some d,.extract x 1,ty,pos,af,none⟩::rest) (act N e ds) w:=ac (eS hx Z hk)
def Cc {b c:Value}(hk:wpListIn (Fw r) n P ops Q rest (act N (upd e d v) ds) w)(hx:ev N e x=.tuple #[v,b,c]:=by exact ix):wpListIn (Fw r) n P ops Q (⟨some d,.extract x 0,ty,pos,af,none⟩::rest) (act N e ds) w:=ac (eS hx Z hk)
def Cd {b c:Value}(hk:wpListIn (Fw r) n P ops Q rest (act N (upd e d v) ds) w)(hx:ev N e x=.tuple #[b,v,c]:=by exact ix):wpListIn (Fw r) n P ops Q (⟨some d,.extract x 1,ty,pos,af,none⟩::rest) (act N e ds) w:=ac (eS hx Z hk)
def Ce {b c:Value}(hk:wpListIn (Fw r) n P ops Q rest (act N (upd e d v) ds) w)(hx:ev N e x=.tuple #[b,c,v]:=by exact ix):wpListIn (Fw r) n P ops Q (⟨some d,.extract x 2,ty,pos,af,none⟩::rest) (act N e ds) w:=ac (eS hx Z hk)
def Cg {b c:Value}(hk:wpListIn (Fw r) n P ops Q rest (act N (upd e d v) ds) w)(hx:ev N e x=.tuple #[v,b,c,g]:=by exact ix):wpListIn (Fw r) n P ops Q (⟨some d,.extract x 0,ty,pos,af,none⟩::rest) (act N e ds) w:=ac (eS hx Z hk)
def Ch {b c:Value}(hk:wpListIn (Fw r) n P ops Q rest (act N (upd e d v) ds) w)(hx:ev N e x=.tuple #[b,v,c,g]:=by exact ix):wpListIn (Fw r) n P ops Q (⟨some d,.extract x 1,ty,pos,af,none⟩::rest) (act N e ds) w:=ac (eS hx Z hk)
def Ci {b c:Value}(hk:wpListIn (Fw r) n P ops Q rest (act N (upd e d v) ds) w)(hx:ev N e x=.tuple #[b,c,v,g]:=by exact ix):wpListIn (Fw r) n P ops Q (⟨some d,.extract x 2,ty,pos,af,none⟩::rest) (act N e ds) w:=ac (eS hx Z hk)
def Cj {b c:Value}(hk:wpListIn (Fw r) n P ops Q rest (act N (upd e d v) ds) w)(hx:ev N e x=.tuple #[b,c,g,v]:=by exact ix):wpListIn (Fw r) n P ops Q (⟨some d,.extract x 3,ty,pos,af,none⟩::rest) (act N e ds) w:=ac (eS hx Z hk)
def Rc (P:Program)(t:TypeId):Bool:=match P.underlying t with|some (.slice _)=>true|_=>false
def Fu {P:Program}(h:Rc P t=true):∃D,P.underlying t=some (.slice D):=by
 unfold Rc at h;split at h
 · rename_i D hh;exact⟨D,hh⟩
 · cases h
def q_len {c:Nat}(hk:wpListIn (Fw r) n P ops Q rest (act N (upd e d (.int .i64 m)) ds) w)(hx:ev N e x=.slice A m c:=by exact ix)(hu:Rc P t=true:=by decide +kernel):
 wpListIn (Fw r) n P ops Q (⟨some d,.call {callee:=.builtin .len,args:=#[x],argTypes:=#[t]},ty,pos,af,none⟩::rest) (act N e ds) w:=by obtain⟨D,h⟩:=Fu hu;exact ac (TO h hx hk)
def H3 {b:Nat}(hk:wpListIn (Fw r) n P ops Q rest (act N (upd e d (.pointer (some ⟨b,o,none⟩))) ds) w)(hx:ev N e x=.pointer (some ⟨b,o,none⟩):=by exact ix):wpListIn (Fw r) n P ops Q (⟨some d,.nilCheck x,ty,pos,af,none⟩::rest) (act N e ds) w:=ac (B5 hx hk)
def nth:List Value->Nat->Option Value
 |[],_=>none
 |a::_,0=>some a
 |_::l,i+1=>nth l i
def H4:∀(l:List Value) (i:Nat),nth l i=l[i]?
 |[],_=>rfl
 |_::_,0=>rfl
 |_::l,i+1=>by simpa[nth]using H4 l i
def xN:List Value->Nat->Option (Value×Value)
 |a::b::_,0=>some (a,b)
 |_::l,i+1=>xN l i
 |_,_=>none
def DR:∀(l:List Value) (i:Nat) (u v:Value),xN l i=some (u,v)->l[i]?=some u/\l[i+1]?=some v
 |[],0,u,v,h=>by simp[xN]at h
 |[],_+1,u,v,h=>by simp[xN]at h
 |[_],0,u,v,h=>by simp[xN]at h
 |a::b::_,0,u,v,h=>by simp only[xN,Option.some.injEq,Prod.mk.injEq]at h;obtain⟨rfl,rfl⟩:=h;exact⟨rfl,rfl⟩
 |_::l,i+1,u,v,h=>by have:=DR l i u v (by simpa[xN]using h);simpa using this
def lG (P:Program)(t:TypeId):Option Bool:=(P.underlying t).map (·.isRow)
def iX {P:Program}{b:Bool}(h:lG P t=some b):∃D,P.underlying t=some D/\D.isRow=b:=by
 unfold lG at h;cases hh:P.underlying t with
 |none=>simp[hh]at h
 |some D=>exact⟨D,rfl,by simpa[hh]using h⟩
def H5 {tb:TypeId}{b:Nat}(hk:wpListIn (Fw r) n P ops Q rest (act N (upd e d v) ds) w)(hx:ev N e x=.pointer (some ⟨b,o,none⟩):=by exact ix)(hb:au w b tb cs.toArray:=by with_reducible assumption)(hv:nth cs o=some v:=by exact Z)(hu:lG P t=some false:=by decide +kernel):
 wpListIn (Fw r) n P ops Q (⟨some d,.load t x,ty,pos,af,none⟩::rest) (act N e ds) w:=by
 obtain⟨D,h1,h2⟩:=iX hu
 exact ac (bP h1 h2 hx (hb.cell (by rw[<-hv,H4];simp)) hk)
def DT {tb:TypeId}{b:Nat}(hk:wpListIn (Fw r) n P ops Q rest (act N (upd e d (.agg #[v1,v2])) ds) w)(hx:ev N e x=.pointer (some ⟨b,o,none⟩):=by exact ix)(hb:au w b tb cs.toArray:=by with_reducible assumption)(hv:xN cs o=some (v1,v2):=by exact Z)(hu:lG P t=some true:=by decide +kernel)(hi:(P.info? t).map (·.size)=some 2:=by decide +kernel):
 wpListIn (Fw r) n P ops Q (⟨some d,.load t x,ty,pos,af,none⟩::rest) (act N e ds) w:=by
 obtain⟨D,h1,h2⟩:=iX hu
 obtain⟨h3,h4⟩:=DR _ _ _ _ hv
 exact ac (ar (cs:=[v1,v2]) h1 h2 hi hx (λj u O=>by
  match j,O with
  |0,O=>simp at O;subst O;exact hb.cell (by simpa using h3)
  |1,O=>simp at O;subst O;exact hb.cell (by simpa using h4)
  |j+2,O=>simp at O) hk)
def WZ {b:Bool}(h:b=false):(!b)=true:=by rw[h];rfl
def WE {b:Bool}(h:b=true):(!b)=false:=by rw[h];rfl
def Fv {i:Decidable p}(h:p): @decide p i=true:=by simpa using h
def Fx {i:Decidable p}(h:¬p): @decide p i=false:=by simpa using h
def zb (h:X=q:=by
 first
 | with_reducible first
   |exact Z
   |assumption
   |exact Fv DE
   |exact Fx DE
   |exact WZ (by first|exact rfl|assumption|exact Fx DE)
   |exact WE (by first|exact rfl|assumption|exact Fv DE)
 |decide +kernel):X=q:=h
def W4 (h:c1.wpIn (Fw r) n P Q (act N e ds) w)(hx:ev N e x=.bool q:=by exact ix)(hq:q=true:=by exact zb):(Code.cond x c1 c2).wpIn (Fw r) n P Q (act N e ds) w:=xk (by rw[hx,hq]) h
def W5 (h:c2.wpIn (Fw r) n P Q (act N e ds) w)(hx:ev N e x=.bool q:=by exact ix)(hq:q=false:=by exact zb):(Code.cond x c1 c2).wpIn (Fw r) n P Q (act N e ds) w:=lz (by rw[hx,hq]) h
def Re {b:Bool}(hk:wpListIn (Fw r) n P l.toArray Q (⟨dst,op,ty,pos,af,none⟩::rest) (act N e ds) w)(hj:eh l j=some s:=by exact Z)(hv:ev N e (.tmp s)=.bool b:=by exact ix)(hb:b=q:=by exact zb):wpListIn (Fw r) n P l.toArray Q (⟨dst,op,ty,pos,af,some (j,q)⟩::rest) (act N e ds) w:=tE hj (by rw[hv,hb]) hk
def Ul {b:Bool}(hk:wpListIn (Fw r) n P l.toArray Q rest (act N (upd e d undef) ds) w)(hj:eh l j=some s:=by exact Z)(hv:ev N e (.tmp s)=.bool b:=by exact ix)(hb:b= !q:=by first|with_reducible assumption|(show _=true;exact zb)|(show _=false;exact zb)):wpListIn (Fw r) n P l.toArray Q (⟨some d,op,ty,pos,af,some (j,q)⟩::rest) (act N e ds) w:=rH hj (by rw[hv,hb]) hk
def DU {c a b:Operand}{t:Bool}(hk:wpListIn (Fw r) n P ops Q rest (act N (upd e d v) ds) w)(hc:ev N e c=.bool t:=by exact ix)(ht:t=true:=by exact zb)(hv:ev N e a=v:=by exact Ft):
 wpListIn (Fw r) n P ops Q (⟨some d,.pick c a b,ty,pos,af,none⟩::rest) (act N e ds) w:=ac (tA (t:=true) (by rw[hc,ht]) (by simpa using hv) hk)
def DV {c a b:Operand}{t:Bool}(hk:wpListIn (Fw r) n P ops Q rest (act N (upd e d v) ds) w)(hc:ev N e c=.bool t:=by exact ix)(ht:t=false:=by exact zb)(hv:ev N e b=v:=by exact Ft):
 wpListIn (Fw r) n P ops Q (⟨some d,.pick c a b,ty,pos,af,none⟩::rest) (act N e ds) w:=ac (tA (t:=false) (by rw[hc,ht]) (by simpa using hv) hk)
def xO {b:Nat}(hk:wpListIn (Fw r) n P ops Q rest (act N (upd e d v) ds) w)(hx:ev N e x=.pointer (some ⟨b,o,none⟩):=by exact ix)(hc:A=some ⟨b,o',none⟩/\w.cell? ⟨b,o,none⟩=some v:=by with_reducible assumption)(hu:lG P t=some false:=by decide +kernel):wpListIn (Fw r) n P ops Q (⟨some d,.load t x,ty,pos,af,none⟩::rest) (act N e ds) w:=by
 obtain⟨D,h1,h2⟩:=iX hu
 exact ac (bP h1 h2 hx hc.2 hk)
def uk {b:Nat}(hk:wpListIn (Fw r) n P ops Q rest (act N (upd e d (.agg #[v1,v2])) ds) w)(hx:ev N e x=.pointer (some ⟨b,o,none⟩):=by exact ix)(hc:A=some ⟨b,o',none⟩/\∀j u,[v1,v2][j]?=some u->w.cell? ⟨b,o+j,none⟩=some u:=by with_reducible assumption)(hu:lG P t=some true:=by decide +kernel)(hi:(P.info? t).map (·.size)=some 2:=by decide +kernel):
 wpListIn (Fw r) n P ops Q (⟨some d,.load t x,ty,pos,af,none⟩::rest) (act N e ds) w:=by
 obtain⟨D,h1,h2⟩:=iX hu
 exact ac (ar (cs:=[v1,v2]) h1 h2 hi hx hc.2 hk)
variable {k:IntKind}{i j:Int}{b b':Bool}
def lss (hk:wpListIn (Fw r) n P ops Q rest (act N (upd e d (.bool (decide (i<j)))) ds) w)(hx:ev N e x=.int k i:=by exact ix)(hy:ev N e y=.int k j:=by exact ix):wpListIn (Fw r) n P ops Q (⟨some d,.binOp .lss t x y u,ty,pos,af,none⟩::rest) (act N e ds) w:=ac (TP hx hy Z hk)
def leq (hk:wpListIn (Fw r) n P ops Q rest (act N (upd e d (.bool (decide (i<=j)))) ds) w)(hx:ev N e x=.int k i:=by exact ix)(hy:ev N e y=.int k j:=by exact ix):wpListIn (Fw r) n P ops Q (⟨some d,.binOp .leq t x y u,ty,pos,af,none⟩::rest) (act N e ds) w:=ac (TQ hx hy Z hk)
def gtr (hk:wpListIn (Fw r) n P ops Q rest (act N (upd e d (.bool (decide (j<i)))) ds) w)(hx:ev N e x=.int k i:=by exact ix)(hy:ev N e y=.int k j:=by exact ix):wpListIn (Fw r) n P ops Q (⟨some d,.binOp .gtr t x y u,ty,pos,af,none⟩::rest) (act N e ds) w:=ac (OE hx hy Z hk)
def geq (hk:wpListIn (Fw r) n P ops Q rest (act N (upd e d (.bool (decide (j<=i)))) ds) w)(hx:ev N e x=.int k i:=by exact ix)(hy:ev N e y=.int k j:=by exact ix):wpListIn (Fw r) n P ops Q (⟨some d,.binOp .geq t x y u,ty,pos,af,none⟩::rest) (act N e ds) w:=ac (TR hx hy Z hk)
def eql (hk:wpListIn (Fw r) n P ops Q rest (act N (upd e d (.bool (decide (i=j)))) ds) w)(hx:ev N e x=.int k i:=by exact ix)(hy:ev N e y=.int k j:=by exact ix):wpListIn (Fw r) n P ops Q (⟨some d,.binOp .eql t x y u,ty,pos,af,none⟩::rest) (act N e ds) w:=ac (OF hx hy Z hk)
def neq (hk:wpListIn (Fw r) n P ops Q rest (act N (upd e d (.bool (!decide (i=j)))) ds) w)(hx:ev N e x=.int k i:=by exact ix)(hy:ev N e y=.int k j:=by exact ix):wpListIn (Fw r) n P ops Q (⟨some d,.binOp .neq t x y u,ty,pos,af,none⟩::rest) (act N e ds) w:=ac (TS hx hy Z hk)
def nt (hk:wpListIn (Fw r) n P ops Q rest (act N (upd e d (.bool (!b))) ds) w)(hx:ev N e x=.bool b:=by exact ix):wpListIn (Fw r) n P ops Q (⟨some d,.unOp .not t x,ty,pos,af,none⟩::rest) (act N e ds) w:=ac (TU hx Z hk)
def qO {a b:List UInt8}(hk:wpListIn (Fw r) n P ops Q rest (act N (upd e d (.bool (decide (a=b)))) ds) w)(hx:ev N e x=S a:=by exact ix)(hy:ev N e y=S b:=by exact ix):wpListIn (Fw r) n P ops Q (⟨some d,.binOp .eql t x y u,ty,pos,af,none⟩::rest) (act N e ds) w:=ac (PO hx hy Z hk)
def Um {a b:List UInt8}(hk:wpListIn (Fw r) n P ops Q rest (act N (upd e d (.bool (!decide (a=b)))) ds) w)(hx:ev N e x=S a:=by exact ix)(hy:ev N e y=S b:=by exact ix):wpListIn (Fw r) n P ops Q (⟨some d,.binOp .neq t x y u,ty,pos,af,none⟩::rest) (act N e ds) w:=ac (tC hx hy Z hk)
def wl (hk:wpListIn (Fw r) n P ops Q rest (act N (upd e d (.int .i64 (i+j))) ds) w)(hx:ev N e x=.int .i64 i:=by exact ix)(hy:ev N e y=.int .i64 j:=by exact ix)(hr:In64 (i+j):=by unfold In64;omega):wpListIn (Fw r) n P ops Q (⟨some d,.binOp .add t x y u,ty,pos,af,none⟩::rest) (act N e ds) w:=ac (bb hx hy hr Z hk)
def vJ (hk:wpListIn (Fw r) n P ops Q rest (act N (upd e d (.int .i64 (i-j))) ds) w)(hx:ev N e x=.int .i64 i:=by exact ix)(hy:ev N e y=.int .i64 j:=by exact ix)(hr:In64 (i-j):=by unfold In64;omega):wpListIn (Fw r) n P ops Q (⟨some d,.binOp .sub t x y u,ty,pos,af,none⟩::rest) (act N e ds) w:=ac (iT hx hy hr Z hk)
def cl {R:Value->World->Prop}{f:FuncId}(hf:Enters P f)(hc:Calls P f vs.toArray w (aC w R))(hk:∀v w',bF w w'->R v w'->wpListIn (Fw r) n P ops Q rest (act N (upd e d v) ds) w')(hv:xs.toList.map (ev N e)=vs:=by exact Z):
 wpListIn (Fw r) n P ops Q (⟨some d,.call ⟨.value (.func f),xs,ats⟩,ty,pos,af,none⟩::rest) (act N e ds) w:=ac (tH hf hv hc hk)
def clb {R:Value->World->Prop}{f:FuncId}(hf:Enters P f)(hv:xs.toList.map (ev N e)=vs:=by exact Z)(hc:Calls P f vs.toArray w (aC w R))(hk:∀v w',bF w w'->R v w'->wpListIn (Fw r) n P ops Q rest (act N (upd e d v) ds) w'):
 wpListIn (Fw r) n P ops Q (⟨some d,.call ⟨.value (.func f),xs,ats⟩,ty,pos,af,none⟩::rest) (act N e ds) w:=ac (tH hf hv hc hk)
def ov (f:Nat->Bool)(e e0:Nat->Value):Nat->Value:=λt=>match f t with|true=>e t|false=>e0 t
def ba {f:Nat->Bool}{t:Nat}(h:ov f e e0 t=v)(hf:f t=true:=by exact Z):e t=v:=by unfold ov at h;rw[hf]at h;exact h
def aT {f:Nat->Bool}(h:∀t,f t=false->e t=e0 t):∃e',e=ov f e' e0:=⟨e,funext λt=>by unfold ov;split <;>rename_i hh;rfl;exact h t hh⟩
end
structure Hd (p:Prop):Prop where
 out:p
def I (h:G')(k:Hd G'->G:=by
 intro h
 repeat first
  | with_reducible first
    |refine jG ?_
    |refine lS ?_
    |refine nK ?_
    |refine tF ?_
    |refine xj ?_
    |refine oh ?_
    |refine Bz ?_
    |refine G6 ?_
    |refine PT ?_
    |refine Mq ?_
    |refine BA ?_
    |refine PR ?_
    |refine BB ?_
    |refine PU ?_
    |refine Mp ?_
    |refine B8 ?_
    |refine Ra ?_
    |refine Ms ?_
    |refine B7 ?_
    |refine wpIn_label ?_
  |refine B9 ?_
  |refine uj ?_
  |refine Re ?_
  |refine Ul ?_
  |refine DU ?_
  |refine DV ?_
  |refine H5 ?_
  |refine DT ?_
  |refine xO ?_
  |refine uk ?_
  |refine q_len ?_
  |refine Ca ?_
  |refine Cb ?_
  |refine Cc ?_
  |refine Cd ?_
  |refine Ce ?_
  |refine Cg ?_
  |refine Ch ?_
  |refine Ci ?_
  |refine Cj ?_
  |refine H3 ?_
  |refine lS ?_
  |refine PS Z ?_
  |refine W4 ?_
  |refine W5 ?_
 exact h.out):G:=k ⟨h⟩
inductive Ph where
 |pv (v:Value)
 |ph (p:Value->World->Prop)
def Ph.ok:Ph->Value->World->Prop
 | .pv v,x,_=>x=v
 | .ph p,x,w=>p x w
def Ph.val:Ph->Value->Value
 | .pv v,_=>v
 | .ph _,x=>x
def Un:List Ph->Nat->Value->Value
 |[],_,x=>x
 |φ::_,0,x=>φ.val x
 |_::φs,j+1,x=>Un φs j x
def ul:List Ph->Nat->Value->World->Prop
 |[],_,_,_=>True
 |φ::_,0,x,w=>φ.ok x w
 |_::φs,j+1,x,w=>ul φs j x w
def H6:List Oper->Nat->Nat->Option Nat
 |[],_,_=>none
 | o ::os,t,j=>match o.dst with
   | some d=>match Nat.beq d t with
     |true=>some j
     |false=>H6 os t (j+1)
   |none=>H6 os t (j+1)
def fr (l:List Oper)(M:Nat)(Φ:List Ph)(sel:Nat->Bool)(e e0:Nat->Value):Nat->Value:=λt=>
 match H6 (l.take M) t 0 with
 |none=>e0 t
 | some j=>match sel j with
   |true=>Un Φ j (e t)
   |false=>e t
def zt (R:World->World->Prop)(φ:Ph):Prop:=∀v w w',R w w'->φ.ok v w->φ.ok v w'
def H7 :∀(Φ:List Ph) (j:Nat) (x:Value),ul Φ j x w->Un Φ j x=x
 |[],_,_,_=>rfl
 | .pv v::_,0,_,h=>Eq.symm h
 | .ph _::_,0,_,_=>rfl
 |_::Φ,j+1,x,h=>H7 Φ j x h
def um:∀(os:List Oper) (t j k:Nat),H6 os t j=some k->∃i,k=j+i/\(os[i]?).bind (·.dst)=some t
 |[],_,_,_,h=>by simp[H6]at h
 | o ::os,t,j,k,h=>by
   unfold H6 at h
   split at h
   · rename_i d hd
     split at h
     · rename_i hb
       cases h
       exact⟨0,rfl,by simp[hd,Nat.eq_of_beq_eq_true hb]⟩
     · obtain⟨i,h1,h2⟩:=um os t (j+1) k h
       exact⟨i+1,by omega,by simpa using h2⟩
   · obtain⟨i,h1,h2⟩:=um os t (j+1) k h
     exact⟨i+1,by omega,by simpa using h2⟩
def un:∀(os:List Oper) (t j:Nat),H6 os t j=none->(os.any λo=>match o.dst with|some d=>Nat.beq d t|none=>false)=false
 |[],_,_,_=>rfl
 | o ::os,t,j,h=>by
   unfold H6 at h
   rw[List.any_cons]
   split at h
   · rename_i d hd
     split at h
     · cases h
     · rename_i hb
       rw[un os t (j+1) h,hb];rfl
   · rename_i hd
     rw[un os t (j+1) h];rfl
def OY {Φ:List Ph}{sel:Nat->Bool}(hs:∀t,tI l M t=false->e t=e0 t)(hp:∀j d,Nat.blt j M=true->sel j=true->eh l j=some d->ul Φ j (e d) w):e=fr l M Φ sel e e0:=by
 funext t
 unfold fr
 split
 · rename_i h
   exact hs t (un _ _ _ h)
 · rename_i j h
   obtain⟨i,_,hd⟩:=um _ _ _ _ h
   have O:j=i:=J
   subst O
   split
   · rename_i hq
     have qr:j<M:=by
      rcases Nat.lt_or_ge j M with h1|h1
      · exact h1
      · rw[List.getElem?_eq_none Hx]at hd;cases hd
     rw[List.getElem?_take,if_pos qr]at hd
     exact(H7 Φ j _ (hp j t (by rwa [Nat.blt_eq]) hq hd)).symm
   · rfl
section draws
variable {P:Program}{r:Option Nat}{n N:Nat}{ds:List Deferred}{w0:World}{Q:Exit->Act->World->Prop}{Φ:List Ph}{R:World->World->Prop}{q5:(Nat->Bool)->(Nat->Value)->World->Prop}
def H8 (Q:Exit->Act->World->Prop)(N:Nat)(ds:List Deferred)(R:World->World->Prop)(q5:(Nat->Bool)->(Nat->Value)->World->Prop)(w:World)(ls:Nat->Bool)(i:Nat)(φ:Ph)(o:Oper)(e f:Nat->Value):Exit->Act->World->Prop:=λx a' w'=>
 (x=.normal/\∃v,a'=(act N f ds).put o.dst v/\R w w'/\φ.ok v w'/\q5 (fH ls i) (l0 e o.dst v) w')\/(∃c,x=.panic c/\Q (.panic c) a' w')
def WF (Q:Exit->Act->World->Prop)(r:Option Nat)(n:Nat)(P:Program)(N:Nat)(ds:List Deferred)(l:List Oper)(M:Nat)(Φ:List Ph)(R:World->World->Prop)(q5:(Nat->Bool)->(Nat->Value)->World->Prop)(e0:Nat->Value)(w0:World):Nat->List Oper->List Ph->Prop
 |_,[],_=>True
 |_,_::_,[]=>False
 |i,o::os,φ::φs=>(zt R φ/\∀(e:Nat->Value) (w:World) (ls:Nat->Bool),R w0 w->q5 ls e w->(∀j k,dF l j k=true->ls j=true->ls k=true)->ls i=false->(∀k,dF l i k=true->ls k=true)->(∀j d,dv o j=true->eh l j=some d->ul Φ j (e d) w)->
  wpListIn (Fw r) n P l.toArray (H8 Q N ds R q5 w ls i φ o e (fr l M Φ (dv o) e e0)) [o] (act N (fr l M Φ (dv o) e e0) ds) w)/\WF Q r n P N ds l M Φ R q5 e0 w0 (i+1) os φs
def xP:∀(os:List Oper) (φs:List Ph) (i0:Nat),WF Q r n P N ds l M Φ R q5 e0 w0 i0 os φs->∀i o,os[i]?=some o->∃φ,φs[i]?=some φ/\zt R φ/\
 ∀ (e:Nat->Value) (w:World) (ls:Nat->Bool),R w0 w->q5 ls e w->(∀j k,dF l j k=true->ls j=true->ls k=true)->ls (i0+i)=false->(∀k,dF l (i0+i) k=true->ls k=true)->(∀j d,dv o j=true->eh l j=some d->ul Φ j (e d) w)->
  wpListIn (Fw r) n P l.toArray (H8 Q N ds R q5 w ls (i0+i) φ o e (fr l M Φ (dv o) e e0)) [o] (act N (fr l M Φ (dv o) e e0) ds) w
 |[],_,_,_,i,o,ho=>by simp at ho
 |_::_,[],_,h,_,_,_=>h.elim
 |o'::os,φ::φs,i0,h,0,o,ho=>by simp at ho;subst ho;exact⟨φ,rfl,h.1⟩
 | o'::os,φ::φs,i0,h,i+1,o,ho=>by
   obtain⟨ψ,h1,h2⟩:=xP os φs (i0+1) h.2 i o ka9
   rw[show i0+1+i=i0+(i+1)by omega]at h2
   exact⟨ψ,by simpa using h1,h2⟩
def rP {q5:(Nat->Bool)->(Nat->Value)->World->Prop}:∀(os:List Oper) (i0:Nat),
 (∀i o,os[i]?=some o->∀(e:Nat->Value) (w:World) (ls:Nat->Bool),q5 ls e w->(∀j k,dF l j k=true->ls j=true->ls k=true)->ls (i0+i)=false->(∀k,dF l (i0+i) k=true->ls k=true)->
  wpListIn (Fw r) n P l.toArray (λx a' w'=>(x=.normal/\∃v,a'=(act N e ds).put o.dst v/\q5 (fH ls (i0+i)) (l0 e o.dst v) w')\/(∃c,x=.panic c/\Q (.panic c) a' w')) [o] (act N e ds) w)->xM Q r n P N ds l q5 i0 os
 |[],_,_=>trivial
 |o::os,i0,h=>⟨h 0 o Z,rP os (i0+1) λi o ho=>by rw[show i0+1+i=i0+(i+1)by omega];exact h (i+1) o ka9⟩
def sP:∀(Φ:List Ph) (i:Nat) (φ:Ph) (v:Value) (w:World),Φ[i]?=some φ->(ul Φ i v w↔φ.ok v w)
 |[],_,_,_,_,h=>by simp at h
 |ψ::_,0,φ,v,w,h=>by simp at h;subst h;exact Iff.rfl
 |_::Φ,i+1,φ,v,w,h=>sP Φ i φ v w ka3
def qP {o:Oper}{a:Act}{A B:Exit->Act->World->Prop}(h:wpListIn (Fw r) n P l.toArray A [o] a w)(hk:∀x a w,A x a w->B x a w):wpListIn (Fw r) n P l.toArray B [o] a w:=by
 unfold wpListIn at h ⊢
 split
 · rename_i hw
   rw[if_pos hw]at h
   exact jI (λa w h=>hk _ _ _ h) (λc a w h=>hk _ _ _ h) (λa w h=>hk _ _ _ h) h
 · rename_i hw
   rw[if_neg hw]at h
   exact⟨h.1,hk _ _ _ h.2⟩
def Uo {id :Nat}(hm:P.follows .mixedOrders=true)(hR0:R w0 w0.drew)(hRt:∀a b c,R a b->R b c->R a c)(hJ0:q5 (λ_=>false) e0 w0.drew)(hwf:OI l=true)(hshape:kn l M=true)(hdst:PW l M=true)(hstep:WF Q r n P N ds l M Φ R q5 e0 w0 0 (l.take M) Φ)(hfin:∀(e:Nat->Value) (w:World) (ls:Nat->Bool),R w0 w->q5 ls e w->(∀j,Nat.blt j M=true->ls j=true)->(∀j d,Nat.blt j M=true->eh l j=some d->ul Φ j (e d) w)->
 wpListIn (Fw r) n P l.toArray Q (l.drop M) (act N (fr l M Φ (λj=>Nat.blt j M) e e0) ds) w):
 (Code.region id l.toArray true).wpIn (Fw r) n P Q (act N e0 ds) w0:=by
 have Ap:∀i o d,i<M->l[i]?=some o->o.dst=some d->tI l M d=true:=by
  intro i o d hi ho hd
  refine List.any_eq_true.2 ⟨o,List.mem_iff_getElem?.2 ⟨i,by rw[List.getElem?_take,if_pos hi];exact ho⟩,?_⟩
  rw[hd];exact Nat.beq_refl d
 refine Uk hm M (λls e w=>R w0 w/\(∀t,tI l M t=false->e t=e0 t)/\(∀j d,Nat.blt j M=true->ls j=true->eh l j=some d->ul Φ j (e d) w)/\q5 ls e w) ⟨hR0,λ_ _=>rfl,λj d _ h _=>(by cases h),hJ0⟩ hwf hshape (rP (l.take M) 0 ?_) ?_
 · rintro i o ho e w ls ⟨hR,hs,hφ,hJ⟩ Aw Ad W
   simp only[Nat.zero_add]at Ad W ⊢
   have hi:i<M:=by
    rcases Nat.lt_or_ge i M with h1|h1
    · exact h1
    · rw[List.getElem?_eq_none Hx]at ho;cases ho
   have qr:l[i]?=some o:=by rw[List.getElem?_take,if_pos hi]at ho;exact ho
   obtain⟨φ,hφi,_,h⟩:=xP (l.take M) Φ 0 hstep i o ho
   simp only[Nat.zero_add]at h
   have Ar:∀j,dv o j=true->dF l i j=true:=λj O=>by unfold dF;rw[qr];exact O
   have E0:∀j,dv o j=true->j<M:=by
    intro j O
    obtain⟨Aq,Am,hb⟩:=List.any_eq_true.1 O
    simp only[Bool.and_eq_true]at hb
    have E1:=qb3 hb.2
    have h1:=List.all_eq_true.1 hwf i (List.mem_range.2 (List.getElem?_eq_some_iff.1 qr).1)
    rw[qr]at h1
    have h2:=List.all_eq_true.1 h1 Aq (by simpa using Am)
    simp only[hb.1,Bool.not_true,Bool.false_or]at h2
    rw[Nat.blt_eq]at h2
    omega
   have Ab:∀j d,dv o j=true->eh l j=some d->ul Φ j (e d) w:=λj d O hd=>hφ j d (by rw[Nat.blt_eq];exact E0 j O) (W j (Ar j O)) hd
   have qn:e=fr l M Φ (dv o) e e0:=OY (w:=w) hs (λj d _ O hd=>Ab j d O hd)
   have h1:=h e w ls hR hJ Aw Ad W Ab
   rw[<-qn]at h1
   refine qP h1 ?_
   rintro x a' w' (⟨hx,v,ha,hR',hv,hJ'⟩|⟨c,hx,hq⟩)
   · refine .inl ⟨hx,v,ha,hRt _ _ _ hR hR',λt ht=>?_,λj d hjM O hd=>?_,hJ'⟩
     · cases hd:o.dst with
       |none=>exact hs t ht
       | some d=>
         have:t≠d:=λe=>by subst e;rw[Ap i o t hi qr hd]at ht;cases ht
         show upd e d v t=e0 t
         rw[upd_ne _ _ this];exact hs t ht
     · rw [Nat.blt_eq]at hjM
       by_cases hij:j=i
       · subst hij
         have Af:o.dst=some d:=by unfold eh at hd;rw[qr]at hd;exact hd
         rw[Af];show ul Φ j (upd e d v d) w';rw[jg];exact(sP Φ j φ v w' hφi).2 hv
       · have Av:ls j=true:=by
          have hb:Nat.beq j i=false:=by
           cases hb:Nat.beq j i with
           |false=>rfl
           |true=>exact absurd (qb3 hb) hij
          unfold fH at O;rw[hb]at O;exact O
         have hold:ul Φ j (e d) w':=by
          have As:=hφ j d (by rw[Nat.blt_eq];exact hjM) Av hd
          cases hj? :(l.take M)[j]? with
          |none=>exact absurd (List.getElem?_eq_none_iff.1 hj?) (by
           have:j<l.length:=by
            unfold eh at hd
            rcases Nat.lt_or_ge j l.length with h1|h1
            · exact h1
            · rw[List.getElem?_eq_none h1]at hd;cases hd
           simp;omega)
          | some oj=>
            obtain⟨ψ,hψ,Ao,_⟩:=xP (l.take M) Φ 0 hstep j oj hj?
            exact(sP Φ j ψ _ w' hψ).2 (Ao _ _ _ hR' ((sP Φ j ψ _ w hψ).1 As))
         cases hdo:o.dst with
         |none=>exact hold
         | some d0=>
           have Ax:d≠d0:=λe=>by
            subst e
            have h1:=List.all_eq_true.1 (List.all_eq_true.1 hdst i (List.mem_range.2 hi)) j (List.mem_range.2 hjM)
            have Ay:eh l i=some d:=by unfold eh;rw[qr];exact hdo
            simp only[Ay,hd,Bool.or_eq_true]at h1
            rcases h1 with h1|h1
            · exact hij (qb3 h1).symm
            · simp at h1
           show ul Φ j (upd e d0 v d) w'
           rw[upd_ne _ _ Ax];exact hold
   · exact .inr ⟨c,hx,hq⟩
 · rintro e w ls A2 ⟨hR,hs,hφ,hJ⟩
   have A1:∀j d,Nat.blt j M=true->eh l j=some d->ul Φ j (e d) w:=λj d O hd=>hφ j d O (A2 j O) hd
   have qn:e=fr l M Φ (λj=>Nat.blt j M) e e0:=OY (w:=w) hs (λj d O _ hd=>A1 j d O hd)
   have:=hfin e w ls hR hJ A2 A1
   rw[<-qn]at this
   exact this
end draws
end Go.Eng
namespace Go.Proofs.YthpinljhfnodeaaGreatDoor
open Go Go.Eng Go.RowKit Tryz
variable {xs:Array Operand}{ats:Array TypeId}{cs:Array Value}{X q:Bool}{f:FuncId}{l:List (Nat×Nat)}{vs lb:List Value}{n M k m off o j s d k' el size bytes:Nat}{sel:Nat->Bool}{e e1 e':Nat->Value}{p G G':Prop}{t:TypeId}{u v1 v2 v3 v4 v:Value}{w w' w0:World}
section jumps
def GO (l:Nat)(q5:Act->World->Prop)(Q:Exit->Act->World->Prop):Exit->Act->World->Prop
 | .goto l',a,w=>l'=l/\q5 a w
 |e,a,w=>Q e a w
def JL (F:Fence)(n:Nat)(P:Program)(l:Nat)(rest:Code)(Q:Exit->Act->World->Prop):Nat->Act->World->Prop
 |0,_,_=>False
 |k+1,a,w=>rest.wpIn F n P (GO l (JL F n P l rest Q k) Q) a w
def JA (F:Fence)(n:Nat)(P:Program)(l:Nat)(rest:Code)(Q:Exit->Act->World->Prop):Act->World->Prop:=λa w=>∃k,JL F n P l rest Q k a w
variable {F:Fence}{P:Program}{l:Nat}{rest c:Code}{Q:Exit->Act->World->Prop}{a:Act}{q5 J':Act->World->Prop}
def zu (h:∀a w,q5 a w->J' a w):∀e a w,GO l q5 Q e a w->GO l J' Q e a w:=λe a w hq=>by
 cases e <;>first|exact hq|exact⟨hq.1,h _ _ hq.2⟩
def zv (hf:findLabel c l=some rest)(h:c.wpIn F n P (GO l (JA F n P l rest Q) Q) a w):(Code.scope c).wpIn F n P Q a w:=by
 intro b k cs qn hb hr
 have qr:(lone (b.atR a (.code (.scope c)::k)) cs w).fenced P F:=fenced_calm hb hr Z
 have A1:gotoIn l (.inScope c::k)=some (.code rest:: .inScope c::k):=by simp[gotoIn,hf]
 have key:∀m a w,JL F n P l rest Q m a w->∃e a' w',Q e a' w'/\ArrivesIn (Machine.fenced P F) P (lone (b.atR a (.code rest:: .inScope c::k)) cs w) b k cs e a' w':=by
  intro m
  induction m with
  |zero=>intro a w h;exact h.elim
  | succ m ih=>
    intro a w hJ
    obtain⟨e,a₁,w₁,hq,O⟩:=(show rest.wpIn F n P (GO l (JL F n P l rest Q m) Q) a w from hJ) b (.inScope c::k) cs qn hb hr
    cases e with
    |normal=>exact⟨.normal,a₁,w₁,hq,StepsIn.trans O (.one (fenced_calm hb hr Z) kr)⟩
    | exit id=>
      exact⟨.exit id,a₁,w₁,hq,λk' hk=>O.1 k' kc4,λW hk=>let ⟨k₁,h1,h2⟩:=O.2 W kc4;⟨k₁,h1,h2⟩⟩
    | goto l'=>
      obtain⟨rfl,hJ'⟩:=hq
      obtain⟨e₂,a₂,w₂,hq₂,harr₂⟩:=ih a₁ w₁ hJ'
      exact⟨e₂,a₂,w₂,hq₂,.of_steps (O.1 _ A1) harr₂⟩
    |ret=>exact⟨_,a₁,w₁,hq,O⟩
    |panic ch=>exact⟨_,a₁,w₁,hq,O⟩
    |outgrown=>exact⟨_,a₁,w₁,hq,O⟩
 obtain⟨e,a₁,w₁,hq,O⟩:=h b (.inScope c::k) cs qn hb hr
 cases e with
 |normal=>exact⟨.normal,a₁,w₁,hq,.head qr dw (StepsIn.trans O (.one (fenced_calm hb hr Z) kr))⟩
 | exit id=>
   exact⟨.exit id,a₁,w₁,hq,λk' hk=>.head qr dw (O.1 k' kc4),
    λW hk=>let ⟨k₁,h1,h2⟩:=O.2 W kc4;⟨k₁,h1,.head qr dw h2⟩⟩
 | goto l'=>
   obtain⟨rfl,m,hJ'⟩:=hq
   obtain⟨e₂,a₂,w₂,hq₂,harr₂⟩:=key m a₁ w₁ hJ'
   exact⟨e₂,a₂,w₂,hq₂,.of_steps (.head qr dw (O.1 _ A1)) harr₂⟩
 |ret=>exact⟨_,a₁,w₁,hq,.of_steps (.one qr dw) O⟩
 |panic ch=>exact⟨_,a₁,w₁,hq,.of_steps (.one qr dw) O⟩
 |outgrown=>exact⟨_,a₁,w₁,hq,.of_steps (.one qr dw) O⟩
def OZ (h:Q .normal a w):GO l q5 Q .normal a w:=h
def O0 (h:Q .ret a w):GO l q5 Q .ret a w:=h
def O1 {ch:_}(h:Q (.panic ch) a w):GO l q5 Q (.panic ch) a w:=h
def O2 (h:q5 a w):GO l q5 Q (.goto l) a w:=⟨rfl,h⟩
def H9 {K:Act->World->Prop}(h:Q (.goto l) a w):Exit.then K Q (.goto l) a w:=h
def Up {id:Nat}(h:Q (.goto l) a w):Exit.inBlock id Q (.goto l) a w:=h
def Ia (h:Q (.goto l) a w):(Code.goto l).wpIn F n P Q a w:=wpIn_goto h
end jumps
def eQ (h:p:=by assumption):p:=h
def U (h:p:=by omega):p:=h
def dc (h:p:=by decide):p:=h
def xt {a b c:World}(h:bF a b)(k:bF b c):bF a c:=ac4 h k
def be {b:Nat}(k:bF w w')(h:au w b t cs):au w' b t cs:=au.ext k h
def pb {b c:Nat}(k:fU w w' b)(h:au w c t cs)(hne:c≠b:=by omega):au w' c t cs:=aa6 k hne h
def bB {B b:Nat}(k:fU w w' b)(h:Below B w0 w)(hb:B<=b:=by omega):Below B w0 w':=fU.low k h hb
def bz (h:Below n w w'):w.heap.size<=w'.heap.size:=Below.size h
def mC {b:Nat}(k:fU w w' b):w'.heap.size=w.heap.size:=fU.size k
def bt {b:Nat}(h:au w b t cs):b<w.heap.size:=au.lt h
section
variable {a:World}{B p:Nat}{b1 b2 b3 b4 b5:Nat}{t1 t2 t3 t4 t5:TypeId}{c1 c2 c3 c4 c5:Array Value}
def bD (k:bF w w')(h1:au w b1 t1 c1)(E:bF a w):au w' b1 t1 c1/\bF a w':=⟨be k h1,xt E k⟩
def ks (k:fU w w' p)(h1:au w b1 t1 c1)(E:Below B a w)(n1:b1≠p:=by omega)(hb:B<=p:=by omega):au w' b1 t1 c1/\Below B a w'/\w'.heap.size=w.heap.size:=⟨aa6 k n1 h1,fU.low k E hb,fU.size k⟩
def bC (k:bF w w')(h1:au w b1 t1 c1)(h2:au w b2 t2 c2)(E:bF a w):au w' b1 t1 c1/\au w' b2 t2 c2/\bF a w':=⟨be k h1,be k h2,xt E k⟩
def jk (k:bF w w')(h1:au w b1 t1 c1)(h2:au w b2 t2 c2):au w' b1 t1 c1/\au w' b2 t2 c2:=⟨be k h1,be k h2⟩
def mD (k:fU w w' p)(h1:au w b1 t1 c1)(h2:au w b2 t2 c2)(E:Below B a w)(n1:b1≠p:=by omega)(n2:b2≠p:=by omega)(hb:B<=p:=by omega):au w' b1 t1 c1/\au w' b2 t2 c2/\Below B a w'/\w'.heap.size=w.heap.size:=⟨aa6 k n1 h1,aa6 k n2 h2,fU.low k E hb,fU.size k⟩
def eR (k:fU w w' p)(h1:au w b1 t1 c1)(h2:au w b2 t2 c2)(n1:b1≠p:=by omega)(n2:b2≠p:=by omega):au w' b1 t1 c1/\au w' b2 t2 c2:=⟨aa6 k n1 h1,aa6 k n2 h2⟩
def bW (k:bF w w')(h1:au w b1 t1 c1)(h2:au w b2 t2 c2)(h3:au w b3 t3 c3)(E:bF a w):au w' b1 t1 c1/\au w' b2 t2 c2/\au w' b3 t3 c3/\bF a w':=⟨be k h1,be k h2,be k h3,xt E k⟩
def rQ (k:bF w w')(h1:au w b1 t1 c1)(h2:au w b2 t2 c2)(h3:au w b3 t3 c3):au w' b1 t1 c1/\au w' b2 t2 c2/\au w' b3 t3 c3:=⟨be k h1,be k h2,be k h3⟩
def l7 (k:fU w w' p)(h1:au w b1 t1 c1)(h2:au w b2 t2 c2)(h3:au w b3 t3 c3)(E:Below B a w)(n1:b1≠p:=by omega)(n2:b2≠p:=by omega)(n3:b3≠p:=by omega)(hb:B<=p:=by omega):au w' b1 t1 c1/\au w' b2 t2 c2/\au w' b3 t3 c3/\Below B a w'/\w'.heap.size=w.heap.size:=⟨aa6 k n1 h1,aa6 k n2 h2,aa6 k n3 h3,fU.low k E hb,fU.size k⟩
def kt (k:fU w w' p)(h1:au w b1 t1 c1)(h2:au w b2 t2 c2)(h3:au w b3 t3 c3)(n1:b1≠p:=by omega)(n2:b2≠p:=by omega)(n3:b3≠p:=by omega):au w' b1 t1 c1/\au w' b2 t2 c2/\au w' b3 t3 c3:=⟨aa6 k n1 h1,aa6 k n2 h2,aa6 k n3 h3⟩
def eE (k:bF w w')(h1:au w b1 t1 c1)(h2:au w b2 t2 c2)(h3:au w b3 t3 c3)(h4:au w b4 t4 c4)(E:bF a w):au w' b1 t1 c1/\au w' b2 t2 c2/\au w' b3 t3 c3/\au w' b4 t4 c4/\bF a w':=⟨be k h1,be k h2,be k h3,be k h4,xt E k⟩
def DW (k:bF w w')(h1:au w b1 t1 c1)(h2:au w b2 t2 c2)(h3:au w b3 t3 c3)(h4:au w b4 t4 c4):au w' b1 t1 c1/\au w' b2 t2 c2/\au w' b3 t3 c3/\au w' b4 t4 c4:=⟨be k h1,be k h2,be k h3,be k h4⟩
def vK (k:fU w w' p)(h1:au w b1 t1 c1)(h2:au w b2 t2 c2)(h3:au w b3 t3 c3)(h4:au w b4 t4 c4)(E:Below B a w)(n1:b1≠p:=by omega)(n2:b2≠p:=by omega)(n3:b3≠p:=by omega)(n4:b4≠p:=by omega)(hb:B<=p:=by omega):au w' b1 t1 c1/\au w' b2 t2 c2/\au w' b3 t3 c3/\au w' b4 t4 c4/\Below B a w'/\w'.heap.size=w.heap.size:=⟨aa6 k n1 h1,aa6 k n2 h2,aa6 k n3 h3,aa6 k n4 h4,fU.low k E hb,fU.size k⟩
def wm (k:fU w w' p)(h1:au w b1 t1 c1)(h2:au w b2 t2 c2)(h3:au w b3 t3 c3)(h4:au w b4 t4 c4)(n1:b1≠p:=by omega)(n2:b2≠p:=by omega)(n3:b3≠p:=by omega)(n4:b4≠p:=by omega):au w' b1 t1 c1/\au w' b2 t2 c2/\au w' b3 t3 c3/\au w' b4 t4 c4:=⟨aa6 k n1 h1,aa6 k n2 h2,aa6 k n3 h3,aa6 k n4 h4⟩
def kW (k:bF w w')(h1:au w b1 t1 c1)(h2:au w b2 t2 c2)(h3:au w b3 t3 c3)(h4:au w b4 t4 c4)(h5:au w b5 t5 c5)(E:bF a w):au w' b1 t1 c1/\au w' b2 t2 c2/\au w' b3 t3 c3/\au w' b4 t4 c4/\au w' b5 t5 c5/\bF a w':=⟨be k h1,be k h2,be k h3,be k h4,be k h5,xt E k⟩
def dY (k:bF w w')(h1:au w b1 t1 c1)(h2:au w b2 t2 c2)(h3:au w b3 t3 c3)(h4:au w b4 t4 c4)(h5:au w b5 t5 c5):au w' b1 t1 c1/\au w' b2 t2 c2/\au w' b3 t3 c3/\au w' b4 t4 c4/\au w' b5 t5 c5:=⟨be k h1,be k h2,be k h3,be k h4,be k h5⟩
def Ck (k:fU w w' p)(h1:au w b1 t1 c1)(h2:au w b2 t2 c2)(h3:au w b3 t3 c3)(h4:au w b4 t4 c4)(h5:au w b5 t5 c5)(E:Below B a w)(n1:b1≠p:=by omega)(n2:b2≠p:=by omega)(n3:b3≠p:=by omega)(n4:b4≠p:=by omega)(n5:b5≠p:=by omega)(hb:B<=p:=by omega):au w' b1 t1 c1/\au w' b2 t2 c2/\au w' b3 t3 c3/\au w' b4 t4 c4/\au w' b5 t5 c5/\Below B a w'/\w'.heap.size=w.heap.size:=⟨aa6 k n1 h1,aa6 k n2 h2,aa6 k n3 h3,aa6 k n4 h4,aa6 k n5 h5,fU.low k E hb,fU.size k⟩
def jv (k:fU w w' p)(h1:au w b1 t1 c1)(h2:au w b2 t2 c2)(h3:au w b3 t3 c3)(h4:au w b4 t4 c4)(h5:au w b5 t5 c5)(n1:b1≠p:=by omega)(n2:b2≠p:=by omega)(n3:b3≠p:=by omega)(n4:b4≠p:=by omega)(n5:b5≠p:=by omega):au w' b1 t1 c1/\au w' b2 t2 c2/\au w' b3 t3 c3/\au w' b4 t4 c4/\au w' b5 t5 c5:=⟨aa6 k n1 h1,aa6 k n2 h2,aa6 k n3 h3,aa6 k n4 h4,aa6 k n5 h5⟩
end
abbrev pT (b:Nat):Value:=.pointer (some ⟨b,0,none⟩)
abbrev CL:=Calls prog
section draws
variable {P:Program}{r:Option Nat}{N:Nat}{e0:Nat->Value}{ds:List Deferred}{Q:Exit->Act->World->Prop}{l:List Oper}{Φ:List Ph}{R:World->World->Prop}{q5:(Nat->Bool)->(Nat->Value)->World->Prop}
def xQ (Q:Exit->Act->World->Prop)(r:Option Nat)(n:Nat)(P:Program)(N:Nat)(ds:List Deferred)(l:List Oper)(M:Nat)(R:World->World->Prop)(q5:(Nat->Bool)->(Nat->Value)->World->Prop)(e0:Nat->Value)(w0:World)(Fin:List Ph->Prop):Nat->List Ph->List Oper->Prop
 |_,acc,[]=>Fin acc.reverse
 |i,acc,o::os=>∃φ,(zt R φ/\∀(e:Nat->Value) (w:World) (ls:Nat->Bool),R w0 w->q5 ls e w->(∀j k,dF l j k=true->ls j=true->ls k=true)->ls i=false->(∀k,dF l i k=true->ls k=true)->(∀j d,dv o j=true->eh l j=some d->ul acc.reverse j (e d) w)->
  wpListIn (Fw r) n P l.toArray (H8 Q N ds R q5 w ls i φ o e (fr l M acc.reverse (dv o) e e0)) [o] (act N (fr l M acc.reverse (dv o) e e0) ds) w)/\xQ Q r n P N ds l M R q5 e0 w0 Fin (i+1) (φ::acc) os
def DX:∀(Φ Ψ:List Ph) (j:Nat) (x:Value),j<Φ.length->Un (Φ++Ψ) j x=Un Φ j x
 |[],_,_,_,h=>by simp at h
 |_::_,_,0,_,_=>rfl
 |_::Φ,Ψ,j+1,x,h=>DX Φ Ψ j x ka3
def DY:∀(Φ Ψ:List Ph) (j:Nat) (x:Value) (w:World),j<Φ.length->ul (Φ++Ψ) j x w=ul Φ j x w
 |[],_,_,_,_,h=>by simp at h
 |_::_,_,0,_,_,_=>rfl
 |_::Φ,Ψ,j+1,x,w,h=>DY Φ Ψ j x w ka3
def Rf {Ψ:List Ph}(h:∀j,sel j=true->j<Φ.length):fr l M (Φ++Ψ) sel e e0=fr l M Φ sel e e0:=by
 funext t
 unfold fr
 split
 · rfl
 · split
   · rename_i hq;exact DX _ _ _ _ (h _ hq)
   · rfl
def DZ {Fin:List Ph->Prop}:∀(os:List Oper) (i:Nat) (acc:List Ph),acc.length=i->(∀k o,os[k]?=some o->∀j,dv o j=true->j<i+k)->xQ Q r n P N ds l M R q5 e0 w0 Fin i acc os->
 ∃φs,WF Q r n P N ds l M (acc.reverse++φs) R q5 e0 w0 i os φs/\Fin (acc.reverse++φs)
 |[],i,acc,_,_,h=>⟨[],trivial,by simpa[xQ]using h⟩
 | o::os,i,acc,hl,hp,⟨φ,⟨h1,h2⟩,h3⟩=>by
   obtain⟨φs,h4,h5⟩:=DZ os (i+1) (φ::acc) (by simp[hl]) (λk o' ho j O=>by have:=hp (k+1) o' ka9 j O;omega) h3
   rw[List.reverse_cons,List.append_assoc]at h4 h5
   have qr:∀j,dv o j=true->j<acc.reverse.length:=λj O=>by have:=hp 0 o Z j O;simp;omega
   refine⟨φ::φs,⟨⟨h1,λe w ls a1 a2 A1 qn A2 W=>?_⟩,h4⟩,h5⟩
   rw[Rf qr]
   exact h2 e w ls a1 a2 A1 qn A2 (λj d O hd=>by have:=W j d O hd;rwa [DY _ _ _ _ _ (qr j O)]at this)
def Mt {l:List Oper}(hwf:OI l=true):∀k o,(l.take M)[k]?=some o->∀j,dv o j=true->j<0+k:=by
 intro i o ho j qr
 have O:l[i]?=some o:=by
  rw[List.getElem?_take]at ho
  split at ho
  · exact ho
  · cases ho
 obtain⟨qn,W,hb⟩:=List.any_eq_true.1 qr
 simp only[Bool.and_eq_true]at hb
 have A1:=qb3 hb.2
 have h1:=List.all_eq_true.1 hwf i (List.mem_range.2 (List.getElem?_eq_some_iff.1 O).1)
 rw[O]at h1
 have h2:=List.all_eq_true.1 h1 qn (by simpa using W)
 simp only[hb.1,Bool.not_true,Bool.false_or]at h2
 rw[Nat.blt_eq]at h2
 omega
abbrev TJ (w w':World):Prop:=w.heap.size<=w'.heap.size/\bF w w'
def Uq (h:bF w w'):TJ w w':=⟨Below.size h,h⟩
def Y6 (l:List Oper)(M:Nat):List Ph->(Nat->Value)->World->Prop:=λΦ e w=>∀j d,Nat.blt j M=true->eh l j=some d->ul Φ j (e d) w
def bY {id:Nat}(M:Nat)(h:xQ Q r n prog N ds l M bF (λ_ _ _=>True) e0 w0 (λΦ=>∀e w,TJ w0 w->Y6 l M Φ e w->wpListIn (Fw r) n prog l.toArray Q (l.drop M) (act N (fr l M Φ (λj=>Nat.blt j M) e e0) ds) w) 0 [] (l.take M))(hwf:OI l=true:=by kernel_rfl)(hsh:kn l M=true:=by kernel_rfl)(hds:PW l M=true:=by kernel_rfl):(Code.region id l.toArray true).wpIn (Fw r) n prog Q (act N e0 ds) w0:=by
 obtain⟨Φ,h1,h2⟩:=DZ _ 0 [] Z (Mt hwf) h
 exact Uo (Φ:=Φ) g8 (aa8 _) (λ_ _ _=>ac4) trivial hwf hsh hds h1 (λe w ls a1 _ _ a2=>h2 e w (Uq a1) a2)
end draws
def wn (P:Program)(t:TypeId)(k off:Nat):Prop:=∃fs f m,P.underlying t=some (.struct fs)/\fs[k]?=some f/\f.offset=off/\(P.info? f.type).map (·.size)=some (m+1)
def fI {P:Program}{fs:Array Field}{f:Field}(hu:P.underlying t=some (.struct fs))(hf:fs[k]?=some f)(ho:f.offset=off)(hs:(P.info? f.type).map (·.size)=some (m+1)):wn P t k off:=⟨fs,f,m,hu,hf,ho,hs⟩
def Rh:wn prog 152 0 0:=fI underlying152 Z Z WS
def Ri:wn prog 152 1 1:=fI underlying152 Z Z mg
def Rj:wn prog 120 0 0:=fI underlying120 Z Z WS
def Ur:wn prog 25 0 0:=fI underlying25 Z Z OJ
def Us:wn prog 25 1 1:=fI underlying25 Z Z OJ
def Mu:wn prog 33 0 0:=fI underlying33 Z Z aM
def Mv:wn prog 33 1 2:=fI underlying33 Z Z aM
def Mw:wn prog 128 0 0:=fI underlying128 Z Z aM
def Mx:wn prog 128 1 2:=fI underlying128 Z Z aM
def My:wn prog 128 2 4:=fI underlying128 Z Z aM
def Mz:wn prog 128 3 6:=fI underlying128 Z Z aM
def MA:wn prog 128 4 8:=fI underlying128 Z Z G7
def MB:wn prog 123 0 0:=fI underlying123 Z Z eP
def MC:wn prog 123 1 1:=fI underlying123 Z Z OJ
def MD:wn prog 165 0 0:=fI underlying165 Z Z OJ
def ME:wn prog 165 1 1:=fI underlying165 Z Z OJ
def MF:wn prog 191 0 0:=fI underlying191 Z Z OJ
def MG:wn prog 191 1 1:=fI underlying191 Z Z OJ
def O3 (P:Program)(t el:TypeId)(z:Value)(size bytes:Nat):Prop:=P.underlying t=some (.slice el)/\gK P el z size bytes/\z.cells.size=size/\0<size
def Cl:O3 prog 80 33 (.agg #[S [],S [],S [],S []]) 4 64:=⟨underlying80,ap,rfl,by decide⟩
def Rk:O3 prog 94 25 (.agg #[S [],S []]) 2 32:=⟨underlying94,aQ,rfl,by decide⟩
def Rl:O3 prog 107 3 (.int .i64 0) 1 8:=⟨underlying107,mf,rfl,by decide⟩
def Ib:O3 prog 150 3 (.int .i64 0) 1 8:=⟨underlying150,mf,rfl,by decide⟩
def Ic:O3 prog 148 5 (.int .u8 0) 1 1:=⟨underlying148,WR,rfl,by decide⟩
def Ut (P:Program)(t:TypeId)(cs:Array Value):Prop:=∃(fs:Array Field) (z:Value) (size bytes:Nat) (pl:List (Nat×Nat)),P.underlying t=some (.struct fs)/\gK P t z size bytes/\fs.toList.map (λf=>(f.offset,(P.info? f.type).map (·.size)))=pl.map (λp:Nat×Nat=>(p.1,some p.2))/\Instr.fill (pl.toArray[·]?) z.cells []=some cs
def W6:Ut prog 25 #[S [],S []]:=⟨_,_,_,_,[(0,1),(1,1)],underlying25,aQ,by kernel_rfl,by kernel_rfl⟩
def Rm:Ut prog 33 #[S [],S [],S [],S []]:=⟨_,_,_,_,[(0,2),(2,2)],underlying33,ap,by kernel_rfl,by kernel_rfl⟩
def Uu:Ut prog 152 #[.bool false,.slice none 0 0]:=⟨_,_,_,_,[(0,1),(1,1)],underlying152,cC,by kernel_rfl,by kernel_rfl⟩
def Uv:Ut prog 120 #[.bool false]:=⟨_,_,_,_,[(0,1)],underlying120,BF,by kernel_rfl,by kernel_rfl⟩
def TK (P:Program)(t:TypeId):Prop:=∃fs z size bytes,P.underlying t=some (.struct fs)/\gK P t z size bytes/\fs.toList.map (λf=>(f.offset,(P.info? f.type).map (·.size)))=[(0,some 1),(1,some 1)]/\∀u v:Value,u.cells=#[u]->v.cells=#[v]->Instr.fill ([(0,1),(1,1)].toArray[·]?) z.cells [(0,u),(1,v)]=some #[u,v]
def W7:TK prog 25:=⟨_,_,_,_,underlying25,aQ,by kernel_rfl,λu v hu hv=>by show Instr.fill _ #[S [],S []] _=_;simp[Instr.fill,hu,hv]⟩
def Rn:TK prog 191:=⟨_,_,_,_,underlying191,cj,by kernel_rfl,λu v hu hv=>by show Instr.fill _ #[S [],S []] _=_;simp[Instr.fill,hu,hv]⟩
def Ro:TK prog 165:=⟨_,_,_,_,underlying165,cO,by kernel_rfl,λu v hu hv=>by show Instr.fill _ #[S [],S []] _=_;simp[Instr.fill,hu,hv]⟩
def Rp:TK prog 123:=⟨_,_,_,_,underlying123,oS,by kernel_rfl,λu v hu hv=>by show Instr.fill _ #[.int .i64 0,S []] _=_;simp[Instr.fill,hu,hv]⟩
def Uw:TK prog 152:=⟨_,_,_,_,underlying152,cC,by kernel_rfl,λu v hu hv=>by show Instr.fill _ #[.bool false,.slice none 0 0] _=_;simp[Instr.fill,hu,hv]⟩
section ops
variable {P:Program}{r:Option Nat}{N:Nat}{ds:List Deferred}{Q:Exit->Act->World->Prop}{K:Act->World->Prop}{a:Act}
variable {ops:Array Oper}{rest:List Oper}{dst:Option Tmp}{op:Op}{ty:Nat}{pos:String}{af:Array Edge}{id:Nat}{c c1 c2:Code}{x y:Operand}
def Ux {b:Nat}(hk:wpListIn (Fw r) n prog ops Q rest (act N (upd e d (.pointer (some ⟨b,o+off,none⟩))) ds) w)(hx:ev N e x=.pointer (some ⟨b,o,none⟩):=by exact ix)(hf:wn prog t k off:=by with_reducible first|exact MD|exact ME|exact MF|exact MG|exact MC|exact Ur|exact Us|exact Mu|exact Mv|exact MB|exact Mw|exact Mx|exact My|exact Mz|exact MA|exact Rh|exact Ri|exact Rj):
 wpListIn (Fw r) n prog ops Q (⟨some d,.fieldAddr t x k,ty,pos,af,none⟩::rest) (act N e ds) w:=by
 obtain⟨_,f,m,h1,h2,h3,h4⟩:=hf
 exact ac (ak h1 h2 h3 h4 Z hx hk)
def Uy (hk:wpListIn (Fw r) n prog ops Q rest (act N (upd e d (.agg cs)) ds) w)(h:Ut prog t cs:=by with_reducible first|exact W6|exact Rm|exact Uu|exact Uv):wpListIn (Fw r) n prog ops Q (⟨some d,.build t #[],ty,pos,af,none⟩::rest) (act N e ds) w:=by
 obtain⟨fs,z,s,b,pl,h1,h2,h3,h4⟩:=h
 exact ac (aV h1 h2 h3 Z h4 hk)
def Uz (hk:wpListIn (Fw r) n prog ops Q rest (act N (upd e d (.agg #[u,v])) ds) w)(h:TK prog t:=by with_reducible first|exact W7|exact Ro|exact Rn|exact Rp|exact Uw)(hx:ev N e x=u:=by exact Ft)(hy:ev N e y=v:=by exact Ft)(hu:u.cells=#[u]:=by exact Z)(hv:v.cells=#[v]:=by exact Z):
 wpListIn (Fw r) n prog ops Q (⟨some d,.build t #[(0,x),(1,y)],ty,pos,af,none⟩::rest) (act N e ds) w:=by
 obtain⟨_,z,s,b,h1,h2,h3,h4⟩:=h
 exact ac (aV (pl:=[(0,1),(1,1)]) h1 h2 h3 (by rw[<-hx,<-hy];rfl) (h4 u v hu hv) hk)
def LX {b t:Nat}(h:au w' b t cs:=by with_reducible assumption):au w' b t cs:=h
def bk1 {b t:Nat}(h:au w' b t cs:=by
 first
 |with_reducible assumption
 |exact au.ext RT LX
 |exact aa6 RT U LX):au w' b t cs:=h
def bk2 {b t:Nat}(h:au w' b t cs:=by
 first
 |with_reducible assumption
 |exact au.ext RT bk1
 |exact aa6 RT U bk1):au w' b t cs:=h
def YK {b t:Nat}(h:au w' b t cs:=by
 first
 |with_reducible assumption
 |exact au.ext RT bk2
 |exact aa6 RT U bk2):au w' b t cs:=h
def YL {b t:Nat}(h:au w' b t cs:=by
 first
 |with_reducible assumption
 |exact au.ext RT YK
 |exact aa6 RT U YK):au w' b t cs:=h
def YM {b t:Nat}(h:au w' b t cs:=by
 first
 |with_reducible assumption
 |exact au.ext RT YL
 |exact aa6 RT U YL):au w' b t cs:=h
def Rq {b t:Nat}(h:au w' b t cs:=by
 first
 |with_reducible assumption
 |exact au.ext RT YM
 |exact aa6 RT U YM):au w' b t cs:=h
def UA {tb:TypeId}{b:Nat}{cs:List Value}(hk:wpListIn (Fw r) n P ops Q rest (act N (upd e d v) ds) w)(hx:ev N e x=.pointer (some ⟨b,o,none⟩):=by exact ix)(hb:au w b tb cs.toArray:=by exact Rq)(hv:nth cs o=some v:=by exact Z)(hu:lG P t=some false:=by decide +kernel):
 wpListIn (Fw r) n P ops Q (⟨some d,.load t x,ty,pos,af,none⟩::rest) (act N e ds) w:=H5 hk hx hb hv hu
def O4 {tb:TypeId}{b:Nat}{cs:List Value}(hk:wpListIn (Fw r) n P ops Q rest (act N (upd e d (.agg #[v1,v2])) ds) w)(hx:ev N e x=.pointer (some ⟨b,o,none⟩):=by exact ix)(hb:au w b tb cs.toArray:=by exact Rq)(hv:xN cs o=some (v1,v2):=by exact Z)(hu:lG P t=some true:=by decide +kernel)(hi:(P.info? t).map (·.size)=some 2:=by decide +kernel):
 wpListIn (Fw r) n P ops Q (⟨some d,.load t x,ty,pos,af,none⟩::rest) (act N e ds) w:=DT hk hx hb hv hu hi
def O5 {tb:TypeId}{b:Nat}(hk:wpListIn (Fw r) n P ops Q rest (act N (upd e d (.agg #[v1,v2,v3,v4])) ds) w)(hx:ev N e x=.pointer (some ⟨b,0,none⟩):=by exact ix)(hb:au w b tb #[v1,v2,v3,v4]:=by exact Rq)(hu:lG P t=some true:=by decide +kernel)(hi:(P.info? t).map (·.size)=some 4:=by decide +kernel):
 wpListIn (Fw r) n P ops Q (⟨some d,.load t x,ty,pos,af,none⟩::rest) (act N e ds) w:=by
 obtain⟨D,h1,h2⟩:=iX hu
 exact ac (ar (cs:=[v1,v2,v3,v4]) h1 h2 hi hx (aa1 hb (i:=0) Z) hk)
def zo (h:X=q:=by
 first
 | with_reducible first
   |exact Z
   |assumption
   |exact Fv eQ
   |exact Fx eQ
   |exact WZ (by first|exact rfl|assumption|exact Fx eQ)
   |exact WE (by first|exact rfl|assumption|exact Fv eQ)
 |decide +kernel
 | with_reducible first
   |exact Fv U
   |exact Fx U
   |exact WZ (Fx U)
   |exact WE (Fv U)):X=q:=h
def UB (h:c1.wpIn (Fw r) n P Q (act N e ds) w)(hx:ev N e x=.bool q:=by exact ix)(hq:q=true:=by exact zo):(Code.cond x c1 c2).wpIn (Fw r) n P Q (act N e ds) w:=xk (by rw[hx,hq]) h
def UC (h:c2.wpIn (Fw r) n P Q (act N e ds) w)(hx:ev N e x=.bool q:=by exact ix)(hq:q=false:=by exact zo):(Code.cond x c1 c2).wpIn (Fw r) n P Q (act N e ds) w:=lz (by rw[hx,hq]) h
def Ie {l:List Oper}{b:Bool}(hk:wpListIn (Fw r) n P l.toArray Q (⟨dst,op,ty,pos,af,none⟩::rest) (act N e ds) w)(hj:eh l j=some s:=by exact Z)(hv:ev N e (.tmp s)=.bool b:=by exact ix)(hb:b=q:=by exact zo):wpListIn (Fw r) n P l.toArray Q (⟨dst,op,ty,pos,af,some (j,q)⟩::rest) (act N e ds) w:=tE hj (by rw[hv,hb]) hk
def O6 {l:List Oper}{b:Bool}(hk:wpListIn (Fw r) n P l.toArray Q rest (act N (upd e d undef) ds) w)(hj:eh l j=some s:=by exact Z)(hv:ev N e (.tmp s)=.bool b:=by exact ix)(hb:b= !q:=by first|with_reducible assumption|(show _=true;exact zo)|(show _=false;exact zo)):wpListIn (Fw r) n P l.toArray Q (⟨some d,op,ty,pos,af,some (j,q)⟩::rest) (act N e ds) w:=rH hj (by rw[hv,hb]) hk
def O7 {l:List Oper}(hk:wpListIn (Fw r) n P l.toArray Q rest (act N (upd e d undef) ds) w)(hj:eh l j=some s:=by exact Z)(hv:ev N e (.tmp s)=undef:=by exact Z)(hs:Nat.blt s N=true:=by exact Z):wpListIn (Fw r) n P l.toArray Q (⟨some d,op,ty,pos,af,some (j,q)⟩::rest) (act N e ds) w:=Uj hj hv hs hk
def D3 {c a b:Operand}{t:Bool}(hk:wpListIn (Fw r) n P ops Q rest (act N (upd e d v) ds) w)(hc:ev N e c=.bool t:=by exact ix)(ht:t=true:=by exact zo)(hv:ev N e a=v:=by exact Ft):
 wpListIn (Fw r) n P ops Q (⟨some d,.pick c a b,ty,pos,af,none⟩::rest) (act N e ds) w:=DU hk hc ht hv
def D5 {c a b:Operand}{t:Bool}(hk:wpListIn (Fw r) n P ops Q rest (act N (upd e d v) ds) w)(hc:ev N e c=.bool t:=by exact ix)(ht:t=false:=by exact zo)(hv:ev N e b=v:=by exact Ft):
 wpListIn (Fw r) n P ops Q (⟨some d,.pick c a b,ty,pos,af,none⟩::rest) (act N e ds) w:=DV hk hc ht hv
end ops
section gates
variable {P:Program}{r:Option Nat}{N:Nat}{ds:List Deferred}{Q:Exit->Act->World->Prop}{ops:Array Oper}{o:Oper}{rest:List Oper}{dst:Option Tmp}{op:Op}{ty:Nat}{pos:String}{af:Array Edge}{x y z:Operand}{a:Act}{u:TypeId}{c1 c2:Code}
abbrev Wo (r:Option Nat)(n:Nat)(P:Program)(ops:Array Oper)(Q:Exit->Act->World->Prop)(o:Oper)(rest:List Oper)(a:Act)(w:World):Prop:=wpListIn (Fw r) n P ops Q (o::rest) a w
def UD (h:Wo r n P ops Q o rest a w):Wo r n P ops Q o rest a w:=h
def UE (h:Wo r n P ops Q ⟨dst,op,ty,pos,af,none⟩ rest a w):Wo r n P ops Q ⟨dst,op,ty,pos,af,none⟩ rest a w:=h
def UF {g:Nat×Bool}(h:Wo r n P ops Q ⟨dst,op,ty,pos,af,some g⟩ rest a w):Wo r n P ops Q ⟨dst,op,ty,pos,af,some g⟩ rest a w:=h
def UG (h:Wo r n P ops Q ⟨dst,.move x,ty,pos,af,none⟩ rest a w):Wo r n P ops Q ⟨dst,.move x,ty,pos,af,none⟩ rest a w:=h
def UH (h:Wo r n P ops Q ⟨dst,.assign x,ty,pos,af,none⟩ rest a w):Wo r n P ops Q ⟨dst,.assign x,ty,pos,af,none⟩ rest a w:=h
def UI (h:Wo r n P ops Q ⟨dst,.load t x,ty,pos,af,none⟩ rest a w):Wo r n P ops Q ⟨dst,.load t x,ty,pos,af,none⟩ rest a w:=h
def UJ {b:BinOp}(h:Wo r n P ops Q ⟨dst,.binOp b t x y u,ty,pos,af,none⟩ rest a w):Wo r n P ops Q ⟨dst,.binOp b t x y u,ty,pos,af,none⟩ rest a w:=h
def UK {b:UnOp}(h:Wo r n P ops Q ⟨dst,.unOp b t x,ty,pos,af,none⟩ rest a w):Wo r n P ops Q ⟨dst,.unOp b t x,ty,pos,af,none⟩ rest a w:=h
def UL (h:Wo r n P ops Q ⟨dst,.fieldAddr t x k,ty,pos,af,none⟩ rest a w):Wo r n P ops Q ⟨dst,.fieldAddr t x k,ty,pos,af,none⟩ rest a w:=h
def UM (h:Wo r n P ops Q ⟨dst,.extract x k,ty,pos,af,none⟩ rest a w):Wo r n P ops Q ⟨dst,.extract x k,ty,pos,af,none⟩ rest a w:=h
def UN {c:Call}(h:Wo r n P ops Q ⟨dst,.call c,ty,pos,af,none⟩ rest a w):Wo r n P ops Q ⟨dst,.call c,ty,pos,af,none⟩ rest a w:=h
def UO (h:Wo r n P ops Q ⟨dst,.pick x y z,ty,pos,af,none⟩ rest a w):Wo r n P ops Q ⟨dst,.pick x y z,ty,pos,af,none⟩ rest a w:=h
def UP (h:Wo r n P ops Q ⟨dst,.nilCheck x,ty,pos,af,none⟩ rest a w):Wo r n P ops Q ⟨dst,.nilCheck x,ty,pos,af,none⟩ rest a w:=h
def UQ {xs:Array (Nat×Operand)}(h:Wo r n P ops Q ⟨dst,.build t xs,ty,pos,af,none⟩ rest a w):Wo r n P ops Q ⟨dst,.build t xs,ty,pos,af,none⟩ rest a w:=h
def UR (h:(Code.cond x c1 c2).wpIn (Fw r) n P Q a w):(Code.cond x c1 c2).wpIn (Fw r) n P Q a w:=h
end gates
structure Hd (p:Prop):Prop where
 out:p
section irr
attribute [local irreducible] wpListIn Code.wpIn Oper.wpIn Exit.then Exit.inBlock Exit.noGoto
def I (h:G')(k:Hd G'->G:=by
 intro h
 repeat first
  | (with_reducible refine UD ?_
     first
     | (with_reducible refine UE ?_
        first
        | (with_reducible refine UG ?_
           refine B9 ?_)
        | (with_reducible refine UI ?_
           first
           |refine UA ?_
           |refine O4 ?_
           |refine O5 ?_
           |refine xO ?_
           |refine uk ?_)
        | (with_reducible refine UJ ?_
           first
           |refine lss ?_
           |refine eql ?_
           |refine neq ?_
           |refine leq ?_
           |refine gtr ?_
           |refine geq ?_)
        | (with_reducible refine UL ?_
           refine Ux ?_)
        | (with_reducible refine UH ?_
           refine uj ?_)
        | (with_reducible refine UM ?_
           first
           |refine Ca ?_
           |refine Cb ?_
           |refine Cc ?_
           |refine Cd ?_
           |refine Ce ?_
           |refine Cg ?_
           |refine Ch ?_
           |refine Ci ?_
           |refine Cj ?_)
        | (with_reducible refine UN ?_
           refine q_len ?_)
        | (with_reducible refine UK ?_
           refine nt ?_)
        | (with_reducible refine UO ?_
           first
           |refine D3 ?_
           |refine D5 ?_)
        | (with_reducible refine UP ?_
           refine H3 ?_)
        | (with_reducible refine UQ ?_
           first
           |refine Uy ?_
           |refine Uz ?_))
     | (with_reducible refine UF ?_
        first
        |refine Ie ?_
        |refine O6 ?_
        |refine O7 ?_))
  | with_reducible first
    |refine jG ?_
    |refine lS ?_
    |refine mB Z ?_
    |refine nK ?_
    |refine tF ?_
    |refine xj ?_
    |refine oh ?_
    |refine Bz ?_
    |refine G6 ?_
    |refine PT ?_
    |refine OZ ?_
    |refine BA ?_
    |refine PR ?_
    |refine BB ?_
    |refine PU ?_
    |refine O0 ?_
    |refine B8 ?_
    |refine Ra ?_
    |refine O1 ?_
    |refine Ia ?_
    |refine O2 ?_
    |refine H9 ?_
    |refine Up ?_
  |refine lS ?_
  |refine PS Z ?_
  |refine zv (l:=0) Z ?_
  | (with_reducible refine UR ?_
     first
     |refine UB ?_
     |refine UC ?_)
 exact h.out):G:=k ⟨h⟩
def gx (h:G')(k:Hd G'->G:=by
 intro h
 repeat first
  | (with_reducible refine UD ?_
     first
     | (with_reducible refine UE ?_
        first
        | (with_reducible refine UG ?_
           refine B9 ?_)
        | (with_reducible refine UI ?_
           first
           |refine UA ?_
           |refine O4 ?_
           |refine O5 ?_
           |refine xO ?_
           |refine uk ?_)
        | (with_reducible refine UJ ?_
           first
           |refine lss ?_
           |refine eql ?_
           |refine neq ?_
           |refine leq ?_
           |refine gtr ?_
           |refine geq ?_)
        | (with_reducible refine UL ?_
           refine Ux ?_)
        | (with_reducible refine UH ?_
           refine uj ?_)
        | (with_reducible refine UM ?_
           first
           |refine Ca ?_
           |refine Cb ?_
           |refine Cc ?_
           |refine Cd ?_
           |refine Ce ?_
           |refine Cg ?_
           |refine Ch ?_
           |refine Ci ?_
           |refine Cj ?_)
        | (with_reducible refine UN ?_
           refine q_len ?_)
        | (with_reducible refine UK ?_
           refine nt ?_)
        | (with_reducible refine UO ?_
           first
           |refine D3 ?_
           |refine D5 ?_)
        | (with_reducible refine UP ?_
           refine H3 ?_)
        | (with_reducible refine UQ ?_
           first
           |refine Uy ?_
           |refine Uz ?_))
     | (with_reducible refine UF ?_
        first
        |refine Ie ?_
        |refine O6 ?_
        |refine O7 ?_))
  | with_reducible first
    |refine jG ?_
    |refine lS ?_
    |refine mB Z ?_
    |refine xj ?_
    |refine oh ?_
    |refine Bz ?_
    |refine G6 ?_
    |refine PT ?_
    |refine OZ ?_
    |refine BA ?_
    |refine PR ?_
    |refine BB ?_
    |refine PU ?_
    |refine O0 ?_
    |refine B8 ?_
    |refine Ra ?_
    |refine O1 ?_
    |refine Ia ?_
    |refine O2 ?_
    |refine H9 ?_
    |refine Up ?_
  |refine lS ?_
  |refine PS Z ?_
  |refine zv (l:=0) Z ?_
  | (with_reducible refine UR ?_
     first
     |refine UB ?_
     |refine UC ?_)
 exact h.out):G:=k ⟨h⟩
section draws
variable {P:Program}{r:Option Nat}{N:Nat}{e0:Nat->Value}{ds:List Deferred}{Q:Exit->Act->World->Prop}{l:List Oper}{R:World->World->Prop}{q5:(Nat->Bool)->(Nat->Value)->World->Prop}{Fin:List Ph->Prop}{i:Nat}{acc:List Ph}{o:Oper}{os:List Oper}{V:Value}
def Pl (N:Nat)(ds:List Deferred)(dst:Option Tmp)(V:Value)(w:World)(f:Nat->Value):Exit->Act->World->Prop:=λx a' w'=>x=.normal/\a'=(act N f ds).put dst V/\w'=w
def cz {f:Nat->Value}{dst:Option Tmp}(hd:dst=some d:=by exact Z):Pl N ds dst v w f .normal (act N (upd f d v) ds) w:=by subst hd;exact⟨rfl,(aw _ _ _ _ _).symm,rfl⟩
def US (h:∀(e:Nat->Value) (w:World) (ls:Nat->Bool),R w0 w->q5 ls e w->(∀j k,dF l j k=true->ls j=true->ls k=true)->ls i=false->(∀k,dF l i k=true->ls k=true)->(∀j d,dv o j=true->eh l j=some d->ul acc.reverse j (e d) w)->
 wpListIn (Fw r) n P l.toArray (Pl N ds o.dst V w (fr l M acc.reverse (dv o) e e0)) [o] (act N (fr l M acc.reverse (dv o) e e0) ds) w)(ht:xQ Q r n P N ds l M R q5 e0 w0 Fin (i+1) (.pv V::acc) os)(hR:∀w,R w w:=by first|exact aa2|exact λ_=>trivial)(hJ:∀ls e w v,q5 ls e w->q5 (fH ls i) (l0 e o.dst v) w:=by exact λ_ _ _ _ h=>h):xQ Q r n P N ds l M R q5 e0 w0 Fin i acc (o::os):=
 ⟨.pv V,⟨λ_ _ _ _ h=>h,λe w ls a1 a2 O W qn qr=>qP (h e w ls a1 a2 O W qn qr) (λ_ _ _ ⟨h1,h2,h3⟩=>.inl ⟨h1,V,h2,h3▸hR _,rfl,h3▸hJ _ _ _ _ a2⟩)⟩,ht⟩
def O8 (h:∀(e:Nat->Value) (w:World) (ls:Nat->Bool),R w0 w->q5 ls e w->(∀k,dF l i k=true->ls k=true)->(∀j d,dv o j=true->eh l j=some d->ul acc.reverse j (e d) w)->
 wpListIn (Fw r) n P l.toArray (Pl N ds o.dst V w (fr l M acc.reverse (dv o) e e0)) [o] (act N (fr l M acc.reverse (dv o) e e0) ds) w)(ht:xQ Q r n P N ds l M R q5 e0 w0 Fin (i+1) (.pv V::acc) os)(hR:∀w,R w w:=by first|exact aa2|exact λ_=>trivial)(hJ:∀ls e w v,q5 ls e w->q5 (fH ls i) (l0 e o.dst v) w:=by exact λ_ _ _ _ h=>h):xQ Q r n P N ds l M R q5 e0 w0 Fin i acc (o::os):=
 US (λe w ls a1 a2 _ _ O qr=>h e w ls a1 a2 O qr) ht hR hJ
def UT (ht:xQ Q r n P N ds l M R q5 e0 w0 Fin (i+1) (.pv V::acc) os)(h:∀(e:Nat->Value) (w:World),R w0 w->wpListIn (Fw r) n P l.toArray (Pl N ds o.dst V w (fr l M acc.reverse (dv o) e e0)) [o] (act N (fr l M acc.reverse (dv o) e e0) ds) w:=by
 intro e w hR
 refine I ?_
 exact cz)(hR:∀w,R w w:=by first|exact aa2|exact λ_=>trivial)(hJ:∀ls e w v,q5 ls e w->q5 (fH ls i) (l0 e o.dst v) w:=by exact λ_ _ _ _ h=>h):xQ Q r n P N ds l M R q5 e0 w0 Fin i acc (o::os):=
 O8 (λe w _ a1 _ _ _=>h e w a1) ht hR hJ
def Rr (h:Fin acc.reverse):xQ Q r n P N ds l M R q5 e0 w0 Fin i acc []:=h
def sf (h:G')(k:Hd G'->G:=by
 intro h
 repeat refine UT ?_
 try refine Rr ?_
 exact h.out):G:=k ⟨h⟩
end draws
end irr
section draws
variable {P:Program}{r:Option Nat}{N:Nat}{e0:Nat->Value}{ds:List Deferred}{Q:Exit->Act->World->Prop}{l:List Oper}{R:World->World->Prop}{q5:(Nat->Bool)->(Nat->Value)->World->Prop}{Fin:List Ph->Prop}{i:Nat}{acc:List Ph}{o:Oper}{os:List Oper}{V:Value}{p:Value->World->Prop}{φ:Ph}
def Sn (Q:Exit->Act->World->Prop)(N:Nat)(ds:List Deferred)(dst:Option Tmp)(f:Nat->Value)(K:Value->World->Prop):Exit->Act->World->Prop:=λx a' w'=>
 (x=.normal/\∃v,a'=(act N f ds).put dst v/\K v w')\/(∃c,x=.panic c/\Q (.panic c) a' w')
def fs {f:Nat->Value}{dst:Option Tmp}{K:Value->World->Prop}(h:K v w)(hd:dst=some d:=by exact Z):Sn Q N ds dst f K .normal (act N (upd f d v) ds) w:=by subst hd;exact .inl ⟨rfl,v,(aw _ _ _ _ _).symm,h⟩
def bl (h:∀(e:Nat->Value) (w:World),R w0 w->(∀j d,dv o j=true->eh l j=some d->ul acc.reverse j (e d) w)->
 wpListIn (Fw r) n P l.toArray (Pl N ds o.dst V w (fr l M acc.reverse (dv o) e e0)) [o] (act N (fr l M acc.reverse (dv o) e e0) ds) w)(ht:xQ Q r n P N ds l M R q5 e0 w0 Fin (i+1) (.pv V::acc) os)(hR:∀w,R w w:=by first|exact aa2|exact λ_=>trivial)(hJ:∀ls e w v,q5 ls e w->q5 (fH ls i) (l0 e o.dst v) w:=by exact λ_ _ _ _ h=>h):xQ Q r n P N ds l M R q5 e0 w0 Fin i acc (o::os):=
 O8 (λe w _ a1 _ _ a2=>h e w a1 a2) ht hR hJ
def O9 (h:∀(e:Nat->Value) (w:World),R w0 w->(∀j d,dv o j=true->eh l j=some d->ul acc.reverse j (e d) w)->
 wpListIn (Fw r) n P l.toArray (Sn Q N ds o.dst (fr l M acc.reverse (dv o) e e0) (λv w'=>R w w'/\φ.ok v w')) [o] (act N (fr l M acc.reverse (dv o) e e0) ds) w)(hs:zt R φ)(ht:xQ Q r n P N ds l M R (λ_ _ _=>True) e0 w0 Fin (i+1) (φ::acc) os):xQ Q r n P N ds l M R (λ_ _ _=>True) e0 w0 Fin i acc (o::os):=
 ⟨φ,⟨hs,λe w ls a1 _ _ _ _ qr=>qP (h e w a1 qr) (λ_ _ _ O=>O.imp (fun⟨h1,v,h2,h3,h4⟩=>⟨h1,v,h2,h3,h4,trivial⟩) id)⟩,ht⟩
def aF (h:∀(e:Nat->Value) (w:World),R w0 w->(∀j d,dv o j=true->eh l j=some d->ul acc.reverse j (e d) w)->
 wpListIn (Fw r) n P l.toArray (Sn Q N ds o.dst (fr l M acc.reverse (dv o) e e0) (λv w'=>R w w'/\v=V)) [o] (act N (fr l M acc.reverse (dv o) e e0) ds) w)(ht:xQ Q r n P N ds l M R (λ_ _ _=>True) e0 w0 Fin (i+1) (.pv V::acc) os):xQ Q r n P N ds l M R (λ_ _ _=>True) e0 w0 Fin i acc (o::os):=O9 (φ:=.pv V) h (λ_ _ _ _ h=>h) ht
def eU (p:Value->World->Prop)(h:∀(e:Nat->Value) (w:World),R w0 w->(∀j d,dv o j=true->eh l j=some d->ul acc.reverse j (e d) w)->
 wpListIn (Fw r) n P l.toArray (Sn Q N ds o.dst (fr l M acc.reverse (dv o) e e0) (λv w'=>R w w'/\p v w')) [o] (act N (fr l M acc.reverse (dv o) e e0) ds) w)(ht:xQ Q r n P N ds l M R (λ_ _ _=>True) e0 w0 Fin (i+1) (.ph p::acc) os)(hs:zt R (.ph p):=by exact λ_ _ _ _ h=>h):xQ Q r n P N ds l M R (λ_ _ _=>True) e0 w0 Fin i acc (o::os):=O9 (φ:=.ph p) h hs ht
end draws
def oy (l:List (Nat×Nat))(t:Nat):Bool:=l.any λd=>Nat.ble d.1 t&&Nat.ble t d.2
def Rs (hd:oy l d=true)(h:∀t,oy l t=false->e' t=e1 t):∀t,oy l t=false->upd e' d v t=e1 t:=by
 intro t ht
 have:t≠d:=λO=>by subst O;rw[hd]at ht;cases ht
 rw[upd_ne _ _ this];exact h t ht
def UU {m:List (Nat×Nat)}(hs:(m.all λd=>l.any λc=>Nat.ble c.1 d.1&&Nat.ble d.2 c.2)=true)(h:∀t,oy l t=false->e' t=e1 t):∀t,oy l t=false->ov (oy m) e e' t=e1 t:=by
 intro t ht
 have:oy m t=false:=by
  cases hm:oy m t with
  |false=>rfl
  | true=>
    obtain⟨d,hd,h1⟩:=List.any_eq_true.1 hm
    obtain⟨c,hc,h2⟩:=List.any_eq_true.1 (List.all_eq_true.1 hs d hd)
    simp only[Bool.and_eq_true,Nat.ble_eq]at h1 h2
    have:oy l t=true:=List.any_eq_true.2 ⟨c,hc,by simp only[Bool.and_eq_true,Nat.ble_eq];omega⟩
    rw[this]at ht;cases ht
 unfold ov;rw[this];exact h t ht
def Cm:∀(os:List Oper) (t j k:Nat) (l:List (Nat×Nat)),(os.all λo=>match o.dst with|some d=>oy l d|none=>true)=true->H6 os t j=some k->oy l t=true
 |[],_,_,_,_,_,h=>by simp[H6]at h
 | o ::os,t,j,k,l,ha,h=>by
   rw[List.all_cons,Bool.and_eq_true]at ha
   unfold H6 at h
   split at h
   · rename_i d hd
     split at h
     · rename_i hb
       have h1:=ha.1
       rw[hd]at h1
       rw[<-Nat.eq_of_beq_eq_true hb];exact h1
     · exact Cm os t (j+1) k l ha.2 h
   · exact Cm os t (j+1) k l ha.2 h
def UV {m:List Nat}(hs:(m.all λd=>oy l d)=true)(h:∀t,oy l t=false->e' t=e1 t):∀t,oy l t=false->ov (y9 m) e e' t=e1 t:=by
 intro t ht
 have:y9 m t=false:=by
  cases hm:y9 m t with
  |false=>rfl
  | true=>
    obtain⟨d,hd,h1⟩:=List.any_eq_true.1 hm
    have h2:=List.all_eq_true.1 hs d hd
    rw[Nat.eq_of_beq_eq_true h1]at h2
    rw[ht]at h2;cases h2
 unfold ov;rw[this];exact h t ht
def UW {ops:List Oper}{Φ:List Ph}(hs:((ops.take M).all λo=>match o.dst with|some d=>oy l d|none=>true)=true)(h:∀t,oy l t=false->e' t=e1 t):
 ∀t,oy l t=false->fr ops M Φ sel e e' t=e1 t:=by
 intro t ht
 unfold fr
 split
 · exact h t ht
 · rename_i j hj
   rw[Cm _ _ _ _ _ hs hj]at ht;cases ht
def Rt :∀t,oy l t=false->e t=e t:=λ_ _=>rfl
def same (h:∀t,oy l t=false->e' t=e t:=by
 repeat first
  |with_reducible exact Rt
  |((with_reducible refine Rs ?_ ?_);· exact Z)
  |((with_reducible refine UU ?_ ?_);· kernel_rfl)
  |((with_reducible refine UV ?_ ?_);· kernel_rfl)
  |((with_reducible refine UW ?_ ?_);· kernel_rfl)):∀t,oy l t=false->e' t=e t:=h
section code
variable {P:Program}{r:Option Nat}{N:Nat}{ds:List Deferred}{Q:Exit->Act->World->Prop}{K:Act->World->Prop}{c c1:Code}{q0:Nat->(Nat->Value)->World->Prop}{mods:List (Nat×Nat)}
def If (h:∀t,oy mods t=false->e1 t=e t):e1=ov (oy mods) e1 e:=funext λt=>by
 unfold ov;split
 · rfl
 · rename_i hh;exact h t hh
def W8 (N:Nat)(ds:List Deferred)(mods:List (Nat×Nat))(e:Nat->Value)(q0:Nat->(Nat->Value)->World->Prop)(k:Nat):Act->World->Prop:=λa' w'=>∃k' e',k'<k/\a'=act N e' ds/\(∀t,oy mods t=false->e' t=e t)/\q0 k' e' w'
def JT (mods:List (Nat×Nat))(q0:Nat->(Nat->Value)->World->Prop)(k:Nat)(h0:q0 k e w)(hs:∀k e1 w1,q0 k e1 w1->c.wpIn (Fw r) n P (Exit.then (W8 N ds mods e q0 k) Q) (act N (ov (oy mods) e1 e) ds) w1):(Code.loop c).wpIn (Fw r) n P Q (act N e ds) w:=
 PQ (λk e1 w1=>(∀t,oy mods t=false->e1 t=e t)/\q0 k e1 w1) k ⟨λ_ _=>rfl,h0⟩ λk e1 w1 ⟨h1,h2⟩=>by
  have:=hs k e1 w1 h2
  rw[<-If h1]at this
  exact wpIn_mono this (by
   intro x a' w' hq
   cases x <;>first|exact hq|(obtain⟨k',e',hk,rfl,O,hI'⟩:=hq;exact⟨k',e',hk,rfl,O,hI'⟩))
def UX {rest:Code}{l:Nat}(mods:List (Nat×Nat))(q0:Nat->(Nat->Value)->World->Prop)(k:Nat)(h0:q0 k e w)(hs:∀k e1 w1,q0 k e1 w1->rest.wpIn (Fw r) n P (GO l (W8 N ds mods e q0 k) Q) (act N (ov (oy mods) e1 e) ds) w1):rest.wpIn (Fw r) n P (GO l (JA (Fw r) n P l (Code.skip.seq rest) Q) Q) (act N e ds) w:=by
 have key:∀m k e1 w1,k<m->(∀t,oy mods t=false->e1 t=e t)->q0 k e1 w1->rest.wpIn (Fw r) n P (GO l (JL (Fw r) n P l (Code.skip.seq rest) Q (m-1)) Q) (act N e1 ds) w1:=by
  intro m
  induction m with
  |zero=>intro k e1 w1 hk;omega
  | succ m ih=>
    intro k e1 w1 hk W hI
    have:=hs k e1 w1 hI
    rw[<-If W]at this
    refine wpIn_mono this (zu λa w ⟨k',e',qn,O,qr,hI'⟩=>?_)
    subst O
    have h2:=ih k' e' w U qr hI'
    obtain⟨p,rfl⟩:∃p,m=p+1:=⟨m-1,by omega⟩
    exact nK (oh (jG h2))
 exact wpIn_mono (key (k+1) k e w U (λ_ _=>rfl) h0) (zu λa w h=>⟨k,h⟩)
def c6 (hI:q0 k' e' w')(hk:k'<k:=by omega)(hs:∀t,oy mods t=false->e' t=e t:=by exact same):W8 N ds mods e q0 k (act N e' ds) w':=⟨k',e',hk,rfl,hs,hI⟩
def YN (N:Nat)(ds:List Deferred)(mods:List (Nat×Nat))(e:Nat->Value)(q0:(Nat->Value)->World->Prop):Act->World->Prop:=λa' w'=>∃e',a'=act N e' ds/\(∀t,oy mods t=false->e' t=e t)/\q0 e' w'
def Ig (mods:List (Nat×Nat))(q0:(Nat->Value)->World->Prop)(h1:c1.wpIn (Fw r) n P (Exit.then (YN N ds mods e q0) Q) (act N e ds) w)(h2:∀e1 w1,q0 e1 w1->K (act N (ov (oy mods) e1 e) ds) w1):c1.wpIn (Fw r) n P (Exit.then K Q) (act N e ds) w:=
 wpIn_mono h1 (by
  intro x a' w' hq
  cases x <;>first|exact hq|(obtain⟨e',rfl,h3,h4⟩:=hq;rw[If h3];exact h2 e' w' h4))
def sw {q0:(Nat->Value)->World->Prop}(hI:q0 e' w')(hs:∀t,oy mods t=false->e' t=e t:=by exact same):YN N ds mods e q0 (act N e' ds) w':=⟨e',rfl,hs,hI⟩
end code
section ops
variable {P:Program}{r:Option Nat}{N:Nat}{ds:List Deferred}{Q:Exit->Act->World->Prop}{K:Act->World->Prop}{a:Act}
variable {ops:Array Oper}{rest:List Oper}{op:Op}{ty:Nat}{pos:String}{af:Array Edge}{id:Nat}{c c1 c2:Code}{x y:Operand}
abbrev L (r:Option Nat)(n:Nat)(ops:Array Oper)(Q:Exit->Act->World->Prop)(rest:List Oper)(N:Nat)(e:Nat->Value)(ds:List Deferred)(w:World):Prop:=wpListIn (Fw r) n prog ops Q rest (act N e ds) w
def al {z:Value}{b:Nat}(hi:gK prog t z s b)(hk:∀w',(w'.heap.size=w.heap.size+1/\bF w w')->au w' w.heap.size t z.cells->L r n ops Q rest N (upd e d (.pointer (some ⟨w.heap.size,0,none⟩))) ds w'):
 L r n ops Q (⟨some d,.alloc t,ty,pos,af,none⟩::rest) N e ds w:=ac (L5 hi λw' h1 h2 h3=>hk w' ⟨h2,h1⟩ h3)
def bx (hk:∀w',(w'.heap.size=w.heap.size+1/\bF w w')->au w' w.heap.size t v.cells->L r n ops Q rest N (upd e d (.pointer (some ⟨w.heap.size,0,none⟩))) ds w')(hx:ev N e x=v:=by exact Ft):
 L r n ops Q (⟨some d,.box t x,ty,pos,af,none⟩::rest) N e ds w:=ac (TN hx λw' h1 h2 h3=>hk w' ⟨h2,h1⟩ h3)
def cl {R:Value->World->Prop}(hf:Enters prog f)(hc:Calls prog f vs.toArray w (aC w R))(hk:∀v w',TJ w w'->R v w'->L r n ops Q rest N (upd e d v) ds w')(hv:xs.toList.map (ev N e)=vs:=by exact Z):
 L r n ops Q (⟨some d,.call ⟨.value (.func f),xs,ats⟩,ty,pos,af,none⟩::rest) N e ds w:=ac (tH hf hv hc λv w' h=>hk v w' (Uq h))
def clb {R:Value->World->Prop}(hf:Enters prog f)(hv:xs.toList.map (ev N e)=vs:=by exact Z)(hc:Calls prog f vs.toArray w (aC w R))(hk:∀v w',TJ w w'->R v w'->L r n ops Q rest N (upd e d v) ds w'):
 L r n ops Q (⟨some d,.call ⟨.value (.func f),xs,ats⟩,ty,pos,af,none⟩::rest) N e ds w:=ac (tH hf hv hc λv w' h=>hk v w' (Uq h))
def uo {R:Value->World->Prop}(hf:Enters prog f)(hx:ev N e x=.func (.func f) #[] lb.toArray)(hv:xs.toList.map (ev N e)=vs)(hc:Calls prog f (vs++lb).toArray w (aC w R))(hk:∀v w',TJ w w'->R v w'->K (act N (upd e d v) ds) w'){g:Option (Nat×Bool)}:Oper.wpIn (Fw r) n prog ⟨some d,.call ⟨.value x,xs,ats⟩,ty,pos,af,g⟩ (act N e ds) w K Q:=Du hf hx hv hc λv w' h=>hk v w' (Uq h)
def xR {R:Value->World->Prop}{g:Option (Nat×Bool)}(hf:Enters prog f)(hv:xs.toList.map (ev N e)=vs)(hc:Calls prog f vs.toArray w (aC w R))(hk:∀v w',TJ w w'->R v w'->K (act N (upd e d v) ds) w'):Oper.wpIn (Fw r) n prog ⟨some d,.call ⟨.value (.func f),xs,ats⟩,ty,pos,af,g⟩ (act N e ds) w K Q:=tH hf hv hc λv w' h=>hk v w' (Uq h)
def SA {t tb b:Nat}(hb:au w b tb cs)(hk:∀w',fU w w' b->au w' b tb (putCells cs o vs)->L r n ops Q rest N e ds w')(hx:ev N e x=.pointer (some ⟨b,o,none⟩):=by exact ix)(hy:ev N e y=.agg vs.toArray:=by exact ix)(hi:(prog.info? t).map (·.size)=some m:=by with_reducible first|exact aM|exact fZ|exact bZ|exact G8|exact ay|exact mi|exact mh)(hm:vs.length=m:=by exact Z)(h1:vs.all (·.oneCell')=true:=by exact Z)(ho:o+vs.length<=cs.size:=by exact qa3 Z):
 L r n ops Q (⟨none,.store t x y,ty,pos,af,none⟩::rest) N e ds w:=ac (bg (hm▸hi) hx hy (List.all_eq_true.1 h1) hb ho hk)
def SO {t tb b:Nat}(hb:au w b tb cs)(hk:∀w',fU w w' b->au w' b tb (cs.setIfInBounds o v)->L r n ops Q rest N e ds w')(hx:ev N e x=.pointer (some ⟨b,o,none⟩):=by exact ix)(hy:ev N e y=v:=by exact Ft)(h1:v.oneCell'=true:=by exact Z)(hi:(prog.info? t).map (·.size)=some 1:=by with_reducible first|exact eP|exact WS|exact OJ|exact mg|exact WT|exact sz1104|exact P0|exact PZ|exact G7|exact sz23|exact sz24|exact TW)(ho:o<cs.size:=by exact qa3 Z):
 L r n ops Q (⟨none,.store t x y,ty,pos,af,none⟩::rest) N e ds w:=ac (eG hi hx hy h1 hb ho hk)
def BS {t:Nat}{z:Value}{cs:List Value}(hk:∀w',bF w w'->w.heap.size<w'.heap.size->w'.ownsRow w.heap.size el size (.slice (some ⟨w.heap.size,0,none⟩) 1 1) 1 cs->L r n ops Q rest N (upd e d (.slice (some ⟨w.heap.size,0,none⟩) 1 1)) ds w')(hx:ev N e x=v:=by exact Ft)(hc:v.cells=cs.toArray:=by exact Z)(hs:O3 prog t el z size bytes:=by with_reducible first|exact Cl|exact Rk|exact Rl|exact Ib|exact Ic)(hf:Instr.fill (λi=>some (i*size,size)) ((Array.range (1*size)).map (z.cells[· %z.cells.size]!)) [(0,v)]=some cs.toArray:=by kernel_rfl)(hl:cs.toArray.size=1*size:=by exact Z)(h24:Nat.ble (1*size) 16777216=true:=by exact Z):L r n ops Q (⟨some d,.buildSlice t 1 #[(0,x)],ty,pos,af,none⟩::rest) N e ds w:=ac (ej hs.1 hs.2.1 (by rw[<-hx];rfl) (qa3 h24) (by have:=hs.2.2.2;omega) hf hl dc hk)
def Ru {t:Nat}{z:Value}{cs ds':List Value}(hk:∀w',bF w w'->w.heap.size<w'.heap.size->w'.ownsRow w.heap.size el size (.slice (some ⟨w.heap.size,0,none⟩) 2 2) 2 (cs++ds')->L r n ops Q rest N (upd e d (.slice (some ⟨w.heap.size,0,none⟩) 2 2)) ds w')(hx:ev N e x=u:=by exact Ft)(hy:ev N e y=v:=by exact Ft)(hc:u.cells=cs.toArray:=by exact Z)(hd:v.cells=ds'.toArray:=by exact Z)(hs:O3 prog t el z size bytes:=by with_reducible first|exact Cl|exact Rk|exact Rl|exact Ib|exact Ic)(hf:Instr.fill (λi=>some (i*size,size)) ((Array.range (2*size)).map (z.cells[· %z.cells.size]!)) [(0,u),(1,v)]=some (cs++ds').toArray:=by kernel_rfl)(hl:(cs++ds').toArray.size=2*size:=by exact Z)(h24:Nat.ble (2*size) 16777216=true:=by exact Z):L r n ops Q (⟨some d,.buildSlice t 2 #[(0,x),(1,y)],ty,pos,af,none⟩::rest) N e ds w:=ac (ej hs.1 hs.2.1 (by rw[<-hx,<-hy];rfl) (qa3 h24) (by have:=hs.2.2.2;omega) hf hl dc hk)
def AP {t ty base lo c:Nat}{z:Value}{A:Option Addr}{xs news:List Value}(hown:w.ownsRow base el size v k xs)(hr:Rw w lo A news)(hk:∀v' w',w'.ownsRow base el size v' (k+m) (xs++news)->w.grownBy w' v.ownBlock->(v'.ownBlock=v.ownBlock\/v'.ownBlock=some w.heap.size)->L r n ops Q rest N (upd e d v') ds w')(h1:news.all (·.oneCell')=true:=by exact Z)(hx:ev N e x=v:=by exact ix)(hy:ev N e y=.slice A m c:=by exact ix)(hs:O3 prog t el z size bytes:=by with_reducible first|exact Cl|exact Rk|exact Rl|exact Ib|exact Ic)(hl:news.length=m*size:=by exact Z)(h63:k+m<=maxLen:=by simp only[maxLen];omega)(hb:(k+m)*bytes<=140737488355328:=by omega)(hbase:base<=w.heap.size:=by omega):
 L r n ops Q (⟨some d,.call {callee:=.builtin .append,args:=#[x,y],argTypes:=#[t,t]},ty,pos,af,none⟩::rest) N e ds w:=ac (me hs.1 hs.2.1 hs.2.2.1 hs.2.2.2 hx hown hy hr hl (List.all_eq_true.1 h1) h63 hb hbase hk)
end ops
end Go.Proofs.YthpinljhfnodeaaGreatDoor
namespace Go.Proofs.YthpinljhfnodeaaGreatDoor
variable {xs ys:List Nat}{i m n lo' lo c n1 c1 n2 c2 lo1 lo2 B1 B2 g a1 a2 k:Nat}{A A1 A2:Option Addr}{w:World}
set_option maxRecDepth 100000
open Go Go.Eng Go.RowKit Tryz
attribute [local irreducible] wpListIn Code.wpIn Oper.wpIn Exit.then Exit.inBlock Exit.noGoto
set_option maxHeartbeats 40000000
def lH {a:Int}(h:In64 a:=by unfold In64;omega):In64 a:=h
def ints (l:List Nat):List Value:=l.map λn:Nat=>Value.int .i64 n
def Ih (h:i<xs.length):(ints xs)[i]?=some (.int .i64 ((xs[i]:Nat):Int)):=by simp[ints,h]
def eo (xs:List Nat):(ints xs).length=xs.length:=by simp[ints]
def o5 :∀u∈ints xs,u.oneCell'=true:=by
 intro u hu
 obtain⟨n,_,rfl⟩:=List.mem_map.1 hu
 rfl
def mE (a b:List Nat):ints (a++b)=ints a++ints b:=by simp[ints]
def lI (h:xs.length<=i):xs.getD i 0=0:=by simp[List.getD,List.getElem?_eq_none h]
def bE (h:i<xs.length):(ints xs)[i]?=some (.int .i64 ((xs.getD i 0:Nat):Int)):=by simp[ints,h]
def wo (h0:0<m)(h:m<=xs.length):xs.take m=xs.take (m-1)++[xs.getD (m-1) 0]:=by
 obtain⟨k,rfl⟩:∃k,m=k+1:=⟨m-1,by omega⟩
 rw[List.take_succ_eq_append_getElem U]
 simp[show k<xs.length by omega]
def rR:∀l:List Nat,ei (l++[0])=ei l
 |[]=>by simp[ei]
 |d::l=>by simp only[List.cons_append,ei,rR l]
def uq:∀(l:List Nat) (d:Nat),d≠0->ei (l++[d])=l++[d]
 |[],d,h=>by simp[ei,h]
 | e::l,d,h=>by
   have ih:=uq l d h
   simp only[List.cons_append,ei,ih]
   rw[if_neg RW]
def ws (h:0<m/\m<=n/\xs.length=n)(hz:xs.getD (m-1) 0=0):ei (xs.take m)=ei (xs.take (m-1)):=by
 rw[wo h.1 U,hz,rR]
def m6 (h:m<=n/\xs.length=n)(hz:m=0\/0<m/\xs.getD (m-1) 0≠0):ei (xs.take m)=xs.take m:=by
 rcases hz with rfl|⟨h0,hz⟩
 · simp[ei]
 · rw[wo h0 U,uq _ _ hz]
structure eM (w:World)(lo:Nat)(A:Option Addr)(n c a:Nat):Prop where
 row:Rw w lo A (ints (av 10000 a))
 len:(av 10000 a).length=n
 cap:n<=c
section
variable {w0 w':World}{a:Nat}
def eM.ext (k:bF w w')(h:eM w lo A n c a):eM w' lo A n c a:=⟨h.row.ext k,h.len,h.cap⟩
def aa3:=@eM.ext
def eM.put {b:Nat}(k:fU w w' b)(hb:b<lo)(h:eM w lo A n c a):eM w' lo A n c a:=⟨h.row.put k hb,h.len,h.cap⟩
def ab3:=@eM.put
def eM.gr {row:Option Nat}(k:w.grownBy w' row)(hne:∀ad,A=some ad->some ad.block≠row)(h:eM w lo A n c a):eM w' lo A n c a:=⟨h.row.gr k hne,h.len,h.cap⟩
def eM.mono (hl:lo'<=lo)(h:eM w lo A n c a):eM w lo' A n c a:=⟨h.row.mono hl,h.len,h.cap⟩
def eM.lt (h:eM w lo A n c a):∀x∈av 10000 a,x<10000:=dH 10000 U a
def eM.val (h:eM w lo A n c a):b8 10000 (av 10000 a)=a:=dj 10000 U a
end
def mF {l:List Int}(h:∀x∈l,0<=x/\x<10000):l.map (Value.int .i64)=ints (fj l):=by
 conv=>lhs;rw[<-zj l (λx hx=>(h x hx).1)]
 simp[ints]
def Cn {a:Nat}{l:List Int}(hd:∀x∈l,0<=x/\x<10000)(hv:b8 10000 (fj l)=a)(hr:Rw w lo A (ints (fj l)))(hm:ei (fj l)=(fj l).take m)(hml:m<=(fj l).length)(hmc:m<=c):eM w lo A m c a:=by
 have h1:av 10000 a=(fj l).take m:=by
  rw[<-hm,<-hv]
  exact(my 10000 U _ (Fq l hd)).symm
 refine⟨?_,?_,hmc⟩
 · rw[h1]
   have:ints ((fj l).take m)=(ints (fj l)).take m:=by simp[ints]
   rw[this]
   exact hr.take m
 · rw[h1];simp;omega
def fC (l:List Int):(fj l).length=l.length:=by simp[fj]
def kX (x:Int)(w:World):
 CL 255 #[.int .i64 x] w (aC w λv w'=>v=.bool false):=by
 refine aE func255 Z (I ?_);exact ax (t:=2) (v:=.bool false) Z (aa2 _) Z (by show Value.bool (!decide (x=x))=_;simp)
def Rv (x y:Int)(h:x<y)(w:World):
 CL 212 #[.int .i64 x,.int .i64 y] w (aC w λv w'=>v=.int .i64 (-1)):=by
 refine aE func212 Z (I ?_);refine cl wh (kX _ _) ?_;rintro _ _ qr rfl;have E4:=qr.2;refine I ?_;refine cl wh (kX _ _) ?_;rintro _ _ O rfl;have E4:=xt E4 O.2;refine I ?_;exact ax (t:=4) (v:=.int .i64 (-1)) Z E4 Z Z
def Rx (x y:Int)(h:y<x)(w:World):
 CL 212 #[.int .i64 x,.int .i64 y] w (aC w λv w'=>v=.int .i64 1):=by
 refine aE func212 Z (I ?_);refine cl wh (kX _ _) ?_;rintro _ _ O rfl;have E11:=O.2;refine I ?_;refine cl wh (kX _ _) ?_;rintro _ _ qr rfl;have E11:=xt E11 qr.2;refine I ?_;exact ax (t:=4) (v:=.int .i64 1) Z E11 Z Z
def cmp_eq (x y:Int)(h:x=y)(w:World):
 CL 212 #[.int .i64 x,.int .i64 y] w (aC w λv w'=>v=.int .i64 0):=by
 refine aE func212 Z (I ?_);refine cl wh (kX _ _) ?_;rintro _ _ qr rfl;have E18:=qr.2;refine I ?_;refine cl wh (kX _ _) ?_;rintro _ _ O rfl;have E18:=xt E18 O.2;refine I ?_;exact ax (t:=4) (v:=.int .i64 0) Z E18 Z Z
def zw (hr:Rw w lo A (ints xs))(hn:xs.length=n):
 CL 219 #[.slice A n c,.int .i64 i] w (aC w λv w'=>v=.int .i64 ((xs.getD i 0:Nat):Int)):=by
 by_cases hi:i<n;have O:i<xs.length:=J
 refine aE func219 Z (I ?_);obtain⟨b,o,hA,hc⟩:=hr.cells i _ (Ih O);refine ac (ah (i:=i) (oo:=o+i) hO eP Z hA Z hi U ?_);refine ac (bP (v:=.int .i64 ((xs[i]'O:Nat):Int)) U3 Z Z hc ?_);refine I ?_;exact ax (t:=4) (v:=.int .i64 ((xs[i]'O:Nat):Int)) Z (aa2 _) (by simp[O]) Z;refine aE func219 Z (I ?_);exact ax (t:=4) (v:=.int .i64 0) Z (aa2 _) (by rw[lI U];rfl) Z
def MH (h1:Rw w lo1 A1 (ints xs))(hn1:xs.length=n1)(h2:Rw w lo2 A2 (ints ys))(hn2:ys.length=n2)(k1:au w B1 150 #[.slice A1 n1 c1])(k2:au w B2 150 #[.slice A2 n2 c2])(hx:xs.getD i 0<=1000000000)(hy:ys.getD i 0<=1000000000):
 CL 218 #[.int .i64 i,pT B1,pT B2] w (aC w λv w'=>v=.int .i64 (((xs.getD i 0:Nat):Int)+((ys.getD i 0:Nat):Int))):=by
 refine aE func218 Z (I ?_);refine bY 8 ?_;refine sf ?_;refine aF (V:=.int .i64 ((xs.getD i 0:Nat):Int)) (λ_ _ hR32 _=>?_) ?_;have h1:=h1.ext hR32;refine cl zg (zw h1 hn1) ?_;rintro _ _ O rfl;have E37:=O.2;refine I ?_;exact fs ⟨E37,rfl⟩;refine sf ?_;refine aF (V:=.int .i64 ((ys.getD i 0:Nat):Int)) (λ_ _ hR48 _=>?_) ?_;have h2:=h2.ext hR48;refine cl zg (zw h2 hn2) ?_;rintro _ _ qr rfl;have E53:=qr.2;refine I ?_;exact fs ⟨E53,rfl⟩;refine bl (λ_ _ _ _=>by refine wl ?_;refine I ?_;exact cz) ?_;refine sf ?_;intro _ _ hR64 _;have E66:=hR64.2;refine I ?_;exact ax (t:=4) (v:=.int .i64 (((xs.getD i 0:Nat):Int)+((ys.getD i 0:Nat):Int))) Z E66 Z Z
def Ii (h1:Rw w lo1 A1 (ints xs))(hn1:xs.length=n1)(h2:Rw w lo2 A2 (ints ys))(hn2:ys.length=n2)(k1:au w B1 150 #[.slice A1 n1 c1])(k2:au w B2 150 #[.slice A2 n2 c2])(hx:xs.getD i 0<=1000000000)(hy:ys.getD i 0<=1000000000):
 CL 220 #[.int .i64 i,pT B1,pT B2] w (aC w λv w'=>v=.int .i64 (((xs.getD i 0:Nat):Int)-((ys.getD i 0:Nat):Int))):=by
 refine aE func220 Z (I ?_);refine bY 8 ?_;refine sf ?_;refine aF (V:=.int .i64 ((xs.getD i 0:Nat):Int)) (λ_ _ hR77 _=>?_) ?_;have h1:=h1.ext hR77;refine cl zg (zw h1 hn1) ?_;rintro _ _ O rfl;have E82:=O.2;refine I ?_;exact fs ⟨E82,rfl⟩;refine sf ?_;refine aF (V:=.int .i64 ((ys.getD i 0:Nat):Int)) (λ_ _ hR93 _=>?_) ?_;have h2:=h2.ext hR93;refine cl zg (zw h2 hn2) ?_;rintro _ _ W rfl;have E98:=W.2;refine I ?_;exact fs ⟨E98,rfl⟩;refine bl (λ_ _ _ _=>by refine vJ ?_;refine I ?_;exact cz) ?_;refine sf ?_;intro _ _ qr _;have qn:=qr.2;refine I ?_;exact ax (t:=4) (v:=.int .i64 (((xs.getD i 0:Nat):Int)-((ys.getD i 0:Nat):Int))) Z qn Z Z
def gg (hr:Rw w lo A (ints xs))(hn:xs.length=n)(hc:n<=c)(hb:n<=1000000):
 CL 213 #[.slice A n c] w (aC w λv w'=>∃m,v=.slice A m c/\ei xs=xs.take m/\m<=n):=by
 refine aE func213 Z (I ?_);have qn:=aa2 w;refine JT [(0,0),(3,19)] (λqr e W=>∃m:Nat,(m=qr)/\(e 0=.slice A m c)/\(m<=n)/\(ei xs=ei (xs.take m))/\(bF w W)) (n) ⟨n,rfl,rfl,(qa0 _),(by rw[List.take_of_length_le U]),qn⟩ ?_;rintro _ _ _ ⟨m,rfl,Ab,q1,q2,O⟩;by_cases hm:0<m;by_cases hz:xs.getD (m-1) 0=0;obtain⟨b,o,hA,hc⟩:=(hr.ext O).cells (m-1) _ (bE (xs:=xs) U);refine I ?_;refine ac (iT (a:=(m:Int)) (b:=1) (c:=((m-1:Nat):Int)) Z Z lH U ?_);refine I ?_;refine ac (ah (i:=m-1) (oo:=o+(m-1)) hO eP Z hA Z U U ?_);refine I ?_;refine ac (bP (v:=.int .i64 ((xs.getD (m-1) 0:Nat):Int)) U3 Z Z hc ?_);refine I ?_;refine ac (iT (a:=(m:Int)) (b:=1) (c:=((m-1:Nat):Int)) Z Z lH U ?_);refine ac (OH (j:=m-1) hO eP Z Z U ?_);refine I ?_;exact c6 ⟨m-1,rfl,rfl,U,(q2.trans (ws (n:=n) U hz)),O⟩;obtain⟨b,o,hA,hc⟩:=(hr.ext O).cells (m-1) _ (bE (xs:=xs) U);refine I ?_;refine ac (iT (a:=(m:Int)) (b:=1) (c:=((m-1:Nat):Int)) Z Z lH U ?_);refine I ?_;refine ac (ah (i:=m-1) (oo:=o+(m-1)) hO eP Z hA Z U U ?_);refine I ?_;refine ac (bP (v:=.int .i64 ((xs.getD (m-1) 0:Nat):Int)) U3 Z Z hc ?_);refine I ?_
 exact ax (t:=2) (v:=.slice A m c) Z O ⟨m,rfl,q2.trans (m6 (n:=n) U D0),by omega⟩ Z;refine I ?_;exact ax (t:=2) (v:=.slice A m c) Z O ⟨m,rfl,q2.trans (m6 (n:=n) U D0),by omega⟩ Z
def xS {c0:Int}{lb:List Value}{d:Nat->Int}(heg:Enters prog g)(hd:∀(i:Nat) (W:World),i<=n->bF w W->CL g ([Value.int .i64 i]++lb).toArray W (aC W λv _=>v=.int .i64 (d i)))(hn:n<=1000000)(hr:∀i≤n,-1000000000000<=d i/\d i<=1000000000000)(hc:∀k≤n,-1000000000<=(aR d c0 k).1/\(aR d c0 k).1<=1000000000)(hcn:0<=(aR d c0 n).1/\(aR d c0 n).1<10000)(hdn:d n=0):
 CL 217 #[.int .i64 n,.int .i64 c0,.func (.func g) #[] lb.toArray] w (aC w λv w'=>∃k,n<=k/\k<=n+1/\(aR d c0 k).1=0/\w'.ownsRow w.heap.size 3 1 v k ((aR d c0 k).2.map (Value.int .i64))):=by
 refine aE func217 Z (I ?_);refine ac (bb (a:=(n:Int)) (b:=1) (c:=((n+1:Nat):Int)) Z Z lH U ?_);refine ac (L6 (m:=n+1) hO mf Z Z U DQ (λ_ F3 ho=>?_));have od:=F3;refine I ?_;refine JT [(1,1),(7,9),(13,40)] (λF2 e W=>∃k:Nat,∃qn:Value,(n+1-k=F2)/\(e 1=.int .i64 ((aR d c0 k).1))/\(e 7=qn)/\(e 8=.int .i64 k)/\(k<=n+1)/\(k=n+1->(aR d c0 k).1=0)/\(bF w W)/\(W.ownsRow w.heap.size 3 1 qn k ((aR d c0 k).2.map (Value.int .i64)))) (n+1-0) ⟨0,_,rfl,rfl,rfl,rfl,U,U,od,ho⟩ ?_;rintro _ _ _ ⟨k,qn,rfl,G4,Ad,K2,q1,q2,O,ho⟩;have Ix:=bz O;by_cases hkn:k<n;by_cases hs:d k+(aR d c0 k).1<0;have Aq:=hr k U;have Ar:=hc k U;have qr:=BY U;refine I ?_;refine ac (uo (vs:=[.int .i64 k]) (lb:=lb) heg Z Z (hd k _ U O) ?_);rintro _ _ Am rfl;have Am:=Am.2;have ho:=aX Am ho;have O:=xt O Am;refine I ?_;refine wl (I ?_);refine wl (I ?_);refine ac (di (v:=qn) Ad ?_);refine I ?_;refine BS (λ_ E1 _ Ek=>?_);have ho:=aX E1 ho;have O:=xt O E1;refine AP ho (aa4 Ek) (λE7 _ F7 F8 _=>?_);have O:=cI O F8 (bz O) (λg Ab=>by have:=(ho.lt g Ab).1;omega);refine ac (bO (v:=E7) Z ?_);refine I ?_
 refine ac (bb (a:=(k:Int)) (b:=1) (c:=((k+1:Nat):Int)) Z Z lH U ?_);refine I ?_;exact c6 ⟨k+1,E7,rfl,kc5,rfl,rfl,U,kb5,O,(by rw[qr];simpa using F7)⟩;by_cases hs2:10000<=d k+(aR d c0 k).1;have Aq:=hr k U;have Ar:=hc k U;have qr:=BZ U U;refine I ?_;refine ac (uo (vs:=[.int .i64 k]) (lb:=lb) heg Z Z (hd k _ U O) ?_);rintro _ _ Ap rfl;have Ap:=Ap.2;have ho:=aX Ap ho;have O:=xt O Ap;refine I ?_;refine wl (I ?_);refine ac (oR (a:=(d k)+((aR d c0 k).1)) (b:=10000) (c:=((d k)+((aR d c0 k).1))/10000) Z Z U U lH Z ?_);refine I ?_;refine ac (mc (a:=(d k)+((aR d c0 k).1)) (b:=10000) (c:=((d k)+((aR d c0 k).1))%10000) Z Z U U Z ?_);refine I ?_;refine ac (di (v:=qn) Ad ?_);refine I ?_;refine BS (λ_ Ax _ wr=>?_);have ho:=aX Ax ho;have O:=xt O Ax;refine AP ho (aa4 wr) (λAv _ EE G3 _=>?_);have O:=cI O G3 (bz O) (λg Ab=>by have:=(ho.lt g Ab).1;omega);refine ac (bO (v:=Av) Z ?_);refine I ?_;refine ac (bb (a:=(k:Int)) (b:=1) (c:=((k+1:Nat):Int)) Z Z lH U ?_);refine I ?_
 exact c6 ⟨k+1,Av,rfl,kc5,rfl,rfl,U,kb5,O,(by rw[qr];simpa using EE)⟩;have Aq:=hr k U;have Ar:=hc k U;have qr:=tY U U;refine I ?_;refine ac (uo (vs:=[.int .i64 k]) (lb:=lb) heg Z Z (hd k _ U O) ?_);rintro _ _ Af rfl;have Af:=Af.2;have ho:=aX Af ho;have O:=xt O Af;refine I ?_;refine wl (I ?_);refine ac (di (v:=qn) Ad ?_);refine I ?_;refine BS (λ_ E0 _ F1=>?_);have ho:=aX E0 ho;have O:=xt O E0;refine AP ho (aa4 F1) (λE4 _ EW F6 _=>?_);have O:=cI O F6 (bz O) (λg Ab=>by have:=(ho.lt g Ab).1;omega);refine ac (bO (v:=E4) Z ?_);refine I ?_;refine ac (bb (a:=(k:Int)) (b:=1) (c:=((k+1:Nat):Int)) Z Z lH U ?_);refine I ?_;exact c6 ⟨k+1,E4,rfl,kc5,rfl,rfl,U,kb5,O,(by rw[qr];simpa using EW)⟩;by_cases hcz:(aR d c0 k).1=0;refine I ?_;refine ac (di (v:=qn) Ad ?_);refine ac (bO (v:=qn) Z ?_);refine I ?_;exact ax (t:=6) (v:=qn) Z O ⟨k,by omega,by omega,hcz,ho⟩ Z;have Aw:n=k:=J
 have EP:=hdn;rw[Aw]at EP;have F4:=hcn;rw[Aw]at F4;have Jx:¬10000<=d k+(aR d c0 k).1:=J
 have Kp:¬d k+(aR d c0 k).1<0:=J
 have Aq:=hr k U;have Ar:=hc k U;have qr:=tY U U;refine I ?_;refine ac (uo (vs:=[.int .i64 k]) (lb:=lb) heg Z Z (hd k _ U O) ?_);rintro _ _ Ao rfl;have Ao:=Ao.2;have ho:=aX Ao ho;have O:=xt O Ao;refine I ?_;refine wl (I ?_);refine ac (di (v:=qn) Ad ?_);refine I ?_;refine BS (λ_ Ay _ E9=>?_);have ho:=aX Ay ho;have O:=xt O Ay;refine AP ho (aa4 E9) (λAs _ F5 ny _=>?_);have O:=cI O ny (bz O) (λg Ab=>by have:=(ho.lt g Ab).1;omega);refine ac (bO (v:=As) Z ?_);refine I ?_;refine ac (bb (a:=(k:Int)) (b:=1) (c:=((k+1:Nat):Int)) Z Z lH U ?_);refine I ?_;exact c6 ⟨k+1,As,rfl,kc5,rfl,rfl,U,kb5,O,(by rw[qr];simpa using F5)⟩
def UY (h1:Rw w lo1 A1 (ints xs))(hn1:xs.length=n1)(k1:au w B1 150 #[.slice A1 n1 c1])(k2:au w B2 3 #[.int .i64 m])(hx:∀x∈xs,x<10000)(hm:m<10000):
 CL 256 #[.int .i64 i,pT B1,pT B2] w (aC w λv w'=>v=.int .i64 (sv xs m i)):=by
 have hb:=xI hx hm i;unfold sv at hb;refine aE func256 Z (I ?_);refine bY 5 ?_;refine sf ?_;refine aF (V:=.int .i64 ((xs.getD i 0:Nat):Int)) (λ_ _ hR11 _=>?_) ?_;have h1:=h1.ext hR11;refine cl zg (zw h1 hn1) ?_;rintro _ _ O rfl;have E16:=O.2;refine I ?_;exact fs ⟨E16,rfl⟩;refine sf ?_;refine bl (λ_ _ _ _=>by refine ac (l9 (a:=((xs.getD i 0:Nat):Int)) (b:=(m:Int)) (c:=sv xs m i) Z Z L7 Z ?_);refine I ?_;exact cz) ?_;refine sf ?_;intro _ _ hR27 _;have E29:=hR27.2;refine I ?_;exact ax (t:=4) (v:=.int .i64 (sv xs m i)) Z E29 Z Z
def o6 (h1:eM w lo1 A1 n1 c1 a1)(s1:n1<=100000)(h2:eM w lo2 A2 n2 c2 a2)(s2:n2<=100000):
 CL 172 #[.slice A1 n1 c1,.slice A2 n2 c2] w (aC w λv w'=>∃A n c,v=.slice A n c/\eM w' w.heap.size A n c (a1+a2)):=by
 refine aE func172 Z (I ?_);refine bx (λqn Ek qr=>?_);have E33:=Ek.2;refine bx (λE1 E7 E4=>?_);have⟨qr,E33⟩:=bD E7.2 qr E33;refine I ?_;refine ac (OG (a:=(n1:Int)) (b:=(n2:Int)) (m:=((max n1 n2:Nat):Int)) Z Z (by split <;>omega) ?_);refine ac (cL (vf:=[]) (vc:=[pT w.heap.size,pT qn.heap.size]) Z Z ?_);have EP:∀(i:Nat) (W:World),i<=max n1 n2->bF E1 W->CL 218 (([Value.int .i64 i]:List Value)++([pT w.heap.size,pT qn.heap.size]:List Value)).toArray W (aC W λv _=>v=.int .i64 (gM (av 10000 a1) (av 10000 a2) i)):=by(intro i W hi X;have X2:=xt E33 X;exact MH (h1.row.ext X2) h1.len (h2.row.ext X2) h2.len (qr.ext X) (E4.ext X) (by have:=getD_lt h1.lt i;omega) (by have:=getD_lt h2.lt i;omega))
 have Ay:∀i≤max n1 n2,-1000000000000<=gM (av 10000 a1) (av 10000 a2) i/\gM (av 10000 a1) (av 10000 a2) i<=1000000000000:=λi _=>by(have:=getD_lt h1.lt i;have:=getD_lt h2.lt i;unfold gM;omega)
 have Am:=ox h1.lt h2.lt;have E9:∀k≤max n1 n2,-1000000000<=(aR (gM (av 10000 a1) (av 10000 a2)) 0 k).1/\(aR (gM (av 10000 a1) (av 10000 a2)) 0 k).1<=1000000000:=λk _=>by(have:=Am k;omega)
 have Ax:0<=(aR (gM (av 10000 a1) (av 10000 a2)) 0 (max n1 n2)).1/\(aR (gM (av 10000 a1) (av 10000 a2)) 0 (max n1 n2)).1<10000:=by(have:=Am (max n1 n2);omega)
 have F1:gM (av 10000 a1) (av 10000 a2) (max n1 n2)=0:=by(unfold gM;rw[lI kb8,lI ke3];rfl)
 refine clb Hf (hc:=xS (d:=gM (av 10000 a1) (av 10000 a2)) (c0:=0) (lb:=[pT w.heap.size,pT qn.heap.size]) T9 EP U Ay E9 Ax F1) (hk:=?_);rintro _ _ Ab ⟨k,E0,F3,EE,ho⟩;have Ab:=Ab.2;obtain⟨Af,O,rfl,Aw,-,-,-⟩:=eT ho;have E33:=xt E33 Ab;obtain⟨As,Aq⟩:=HU h1.lt h2.lt (n:=max n1 n2) (k:=k) ⟨by rw[h1.len];omega,by rw[h2.len];omega⟩ E0 EE;rw[h1.val,h2.val]at Aq;have Ap:=ho;rw[mF As]at Ap;have Ar:=aa4 Ap;refine clb rK (hc:=gg Ar (by rw[fC,fh]) Aw U) (hk:=?_);rintro _ _ Ao ⟨Ad,rfl,Av,EW⟩;have E33:=xt E33 Ao.2;have F2:=Cn (c:=O) As Aq (Ar.ext Ao.2) Av (by rw[fC,fh];exact EW) U;refine I ?_;exact ax (t:=4) (v:=.slice Af Ad O) Z E33 ⟨Af,Ad,O,rfl,F2.mono U⟩ Z
theorem o7 (h1:eM w lo1 A1 n1 c1 a1)(s1:n1<=100000)(h2:eM w lo2 A2 n2 c2 a2)(s2:n2<=100000)(hle:a2<=a1)(hln:n2<=n1):
 CL 174 #[.slice A1 n1 c1,.slice A2 n2 c2] w (aC w λv w'=>∃A n c,v=.slice A n c/\eM w' w.heap.size A n c (a1-a2)):=by
 refine aE func174 rfl ?_;refine I ?_;refine bx (λAb E7 qn=>?_);have E49:=E7.2;refine bx (λF2 Ax F4=>?_);have⟨qn,E49⟩:=bD Ax.2 qn E49;refine I ?_;refine ac (cL (vf:=[]) (vc:=[pT w.heap.size,pT Ab.heap.size]) rfl rfl ?_);have Ek:∀(i:Nat) (W:World),i<=n1->bF F2 W->CL 220 (([Value.int .i64 i]:List Value)++([pT w.heap.size,pT Ab.heap.size]:List Value)).toArray W (aC W λv _=>v=.int .i64 (zm (av 10000 a1) (av 10000 a2) i)):=by(intro i W hi X;have X2:=xt E49 X;exact Ii (h1.row.ext X2) h1.len (h2.row.ext X2) h2.len (qn.ext X) (F4.ext X) (by have:=getD_lt h1.lt i;omega) (by have:=getD_lt h2.lt i;omega))
 have E0:∀i≤n1,-1000000000000<=zm (av 10000 a1) (av 10000 a2) i/\zm (av 10000 a1) (av 10000 a2) i<=1000000000000:=λi _=>by(have:=getD_lt h1.lt i;have:=getD_lt h2.lt i;unfold zm;omega)
 have E9:=j0 h1.lt h2.lt;obtain⟨Ay,E1,F3⟩:=Fs h1.lt h2.lt (n:=n1) ⟨by rw[h1.len];omega,by rw[h2.len];omega⟩ (by rw[h1.val,h2.val];exact hle);have EP:∀k≤n1,-1000000000<=(aR (zm (av 10000 a1) (av 10000 a2)) 0 k).1/\(aR (zm (av 10000 a1) (av 10000 a2)) 0 k).1<=1000000000:=λk _=>by(have:=E9 k;omega)
 have Aw:0<=(aR (zm (av 10000 a1) (av 10000 a2)) 0 n1).1/\(aR (zm (av 10000 a1) (av 10000 a2)) 0 n1).1<10000:=by(rw[Ay];omega)
 have EE:zm (av 10000 a1) (av 10000 a2) n1=0:=by(unfold zm;rw[lI (by rw[h1.len];omega),lI (by rw[h2.len];omega)];rfl)
 refine clb Hf (hc:=xS (d:=zm (av 10000 a1) (av 10000 a2)) (c0:=0) (lb:=[pT w.heap.size,pT Ab.heap.size]) Ua Ek U E0 EP Aw EE) (hk:=?_);rintro _ _ qr ⟨k,E4,F6,EW,ho⟩;have qr:=qr.2;obtain⟨Af,O,rfl,Av,-,-,-⟩:=eT ho;have E49:=xt E49 qr;have Aq:=E1 k;have Am:=F3 k E4 EW;rw[h1.val,h2.val]at Am;have Ao:=ho;rw[mF Aq]at Ao;have Ap:=aa4 Ao;refine clb rK (hc:=gg Ap (by rw[fC,fh]) Av U) (hk:=?_);rintro _ _ Ar ⟨Ad,rfl,As,F1⟩;have E49:=xt E49 Ar.2;have F5:=Cn (c:=O) Aq Am (Ap.ext Ar.2) As (by rw[fC,fh];exact F1) U;refine I ?_;exact ax (t:=4) (v:=.slice Af Ad O) rfl E49 ⟨Af,Ad,O,rfl,F5.mono U⟩ rfl
def D6 (h1:eM w lo1 A1 n1 c1 a1)(s1:n1<=100000)(hm:m<10000):
 CL 214 #[.slice A1 n1 c1,.int .i64 m] w (aC w λv w'=>∃A n c,v=.slice A n c/\eM w' w.heap.size A n c (a1*m)):=by
 refine aE func214 Z (I ?_);refine bx (λqr E4 Ab=>?_);have E65:=E4.2;refine bx (λE9 Aw Ay=>?_);have⟨Ab,E65⟩:=bD Aw.2 Ab E65;refine I ?_;refine ac (cL (vf:=[]) (vc:=[pT w.heap.size,pT qr.heap.size]) Z Z ?_);have EW:∀(i:Nat) (W:World),i<=n1->bF E9 W->CL 256 (([Value.int .i64 i]:List Value)++([pT w.heap.size,pT qr.heap.size]:List Value)).toArray W (aC W λv _=>v=.int .i64 (sv (av 10000 a1) m i)):=by(intro i W hi X;have X2:=xt E65 X;exact UY (h1.row.ext X2) h1.len (Ab.ext X) (Ay.ext X) h1.lt hm)
 have E1:∀i≤n1,-1000000000000<=sv (av 10000 a1) m i/\sv (av 10000 a1) m i<=1000000000000:=λi _=>by(have:=xI h1.lt hm i;omega)
 have Am:=tZ h1.lt hm;have EE:∀k≤n1,-1000000000<=(aR (sv (av 10000 a1) m) 0 k).1/\(aR (sv (av 10000 a1) m) 0 k).1<=1000000000:=λk _=>by(have:=Am k;omega)
 have E0:0<=(aR (sv (av 10000 a1) m) 0 n1).1/\(aR (sv (av 10000 a1) m) 0 n1).1<10000:=Am n1;have F1:sv (av 10000 a1) m n1=0:=by(unfold sv;rw[lI kb8];simp)
 refine clb Hf (hc:=xS (d:=sv (av 10000 a1) m) (c0:=0) (lb:=[pT w.heap.size,pT qr.heap.size]) Ue EW U E1 EE E0 F1) (hk:=?_);rintro _ _ qn ⟨k,E7,F3,EP,ho⟩;have qn:=qn.2;obtain⟨Af,O,rfl,Ax,-,-,-⟩:=eT ho;have E65:=xt E65 qn;obtain⟨Ar,Ap⟩:=Q0 h1.lt hm (n:=n1) (k:=k) kb8 E7 EP;rw[h1.val]at Ap;have Ao:=ho;rw[mF Ar]at Ao;have Aq:=aa4 Ao;refine clb rK (hc:=gg Aq (by rw[fC,fh]) Ax U) (hk:=?_);rintro _ _ As ⟨Ad,rfl,Av,Ek⟩;have E65:=xt E65 As.2;have F2:=Cn (c:=O) Ar Ap (Aq.ext As.2) Av (by rw[fC,fh];exact Ek) U;refine I ?_;exact ax (t:=4) (v:=.slice Af Ad O) Z E65 ⟨Af,Ad,O,rfl,F2.mono U⟩ Z
def wt {l:List {i:Nat // i<n}}{hk:k-1<n}(h:0<k)(hl:l.map (·.1)++(List.range k).reverse=(List.range n).reverse):(l++[(⟨k-1,hk⟩:{i:Nat // i<n})]).map (·.1)++(List.range (k-1)).reverse=(List.range n).reverse:=by
 rw[<-hl]
 obtain⟨j,rfl⟩:∃j,k=j+1:=⟨k-1,by omega⟩
 simp[List.range_succ]
def j4 :
 CL 182 #[.slice A n c] w (aC w λv w'=>v=.func (.func 223) #[] #[pT w.heap.size]/\au w' w.heap.size 150 #[.slice A n c]):=by
 refine aE func182 Z (I ?_);refine bx (λ_ O qr=>?_);have E4:=O.2;refine ac (bO (v:=.nilFunc) Z ?_);refine I ?_;refine ac (cL (vf:=[]) (vc:=[pT w.heap.size]) Z Z ?_);refine I ?_;exact ax (t:=2) (v:=.func (.func 223) #[] #[pT w.heap.size]) Z E4 ⟨rfl,qr⟩ Z
def iP {b:Nat}(hb:au w b 150 #[.slice A n c])(hr:Rw w lo A (ints xs))(hn:xs.length=n)(hm:n<=1000000):
 OW prog 223 [pT b] n (λi=>[.int .i64 i,.int .i64 ((xs.getD i 0:Nat):Int)]) (List.range n).reverse (λW=>au W b 150 #[.slice A n c]/\Rw W lo A (ints xs)) w:=by
 intro l q5 Jx W hW hJ0 hJx0 hY Ad;have hb:=be hW hb;have hr:=Rw.ext hW hr;clear hW hJ0 hJx0;refine qM ?_;refine HV func223 Z (I ?_);refine vJ (I ?_);refine JT [(3,3),(7,18)] (λAm e W=>∃k:Nat,∃pre:List {i:Nat // i<n},(k=Am)/\(e 3=.int .i64 ((k:Int)-1))/\(k<=n)/\(pre.map (·.1)++(List.range k).reverse=(List.range n).reverse)/\(q5 pre W)/\(True)/\(au W b 150 #[.slice A n c])/\(Rw W lo A (ints xs))) (n) ⟨n,[],rfl,rfl,(qa0 _),RW,Ad,trivial,hb,hr⟩ ?_;rintro _ _ Af ⟨k,pre,rfl,Ap,q1,q2,qr,E9,hb,hr⟩;by_cases hm:0<k;refine I ?_;obtain⟨_,o,hA,hc⟩:=hr.cells (k-1) _ (bE (xs:=xs) U);refine ac (ah (i:=k-1) (oo:=o+(k-1)) hO eP Z hA (db Z U) U U ?_);refine ac (bP (v:=.int .i64 ((xs.getD (k-1) 0:Nat):Int)) U3 Z Z hc ?_);refine ac (xJ (l:=l) (vs:=[.int .i64 ((k-1:Nat):Int),.int .i64 ((xs.getD (k-1) 0:Nat):Int)]) Z (ai (db Z U) (ai Z Z)) (hY pre ⟨k-1,by omega⟩ Af qr (by have hl:=qb1 List.length q2;simp at hl;omega)) ?_);rintro _ _ Ao;obtain⟨q,rfl,qn,Ab⟩:=rO Ao;show wpListIn _ _ _ _ _ _ _ _;refine I ?_;refine xm (q:=!q) Z (λO=>?_) (λO=>?_);have hq:q=false:=by simpa using O
 refine I ?_;exact Mj Z λv=>⟨⟨v,rfl⟩,.inr ⟨_,⟨_,wt hm q2⟩,Ab hq⟩⟩;have hq:q=true:=by simpa using O
 obtain⟨hJ,hK⟩:=qn hq;obtain⟨hb,hr⟩:=hK ⟨hb,hr⟩;refine I ?_;refine ac (iT (a:=(k:Int)-1) (b:=1) (c:=((k-1:Nat):Int)-1) Z Z L7 U ?_);refine I ?_;exact c6 ⟨k-1,pre++[⟨k-1,by omega⟩],rfl,rfl,U,(wt hm q2),hJ,E9,hb,hr⟩;refine I ?_;exact xK Z λv=>⟨⟨v,rfl⟩,.inl ⟨pre,by rw[show k=0 by omega]at q2;simpa using q2,qr⟩⟩
end Go.Proofs.YthpinljhfnodeaaGreatDoor
def oz {B:Nat}(hB:2<=B)(a:Nat):a<B^(av B a).length:=(aW B hB a _).1 (qa0 _)
def D7 {B:Nat}(hB:2<=B)(a b k:Nat)(ha:(av B a).length<=k)(hb:(av B b).length<=k):(av B (a+b)).length<=k+1:=by
 rw[aW B hB]at *
 have:B^(k+1)=B^k*B:=Nat.pow_succ ..
 have h2:B^k*2<=B^k*B:=Nat.mul_le_mul_left _ hB
 omega
def mG {B:Nat}(hB:2<=B)(a m k:Nat)(ha:(av B a).length<=k)(hm:m<B):(av B (a*m)).length<=k+1:=by
 rw[aW B hB]at *
 have h1:B^(k+1)=B^k*B:=Nat.pow_succ ..
 by_cases h0:a=0
 · subst h0
   have:=Nat.pow_pos (n:=k+1) (show 0<B by omega)
   omega
 · have:a*m<a*B:=(Nat.mul_lt_mul_left J).2 hm
   have h2:a*B<=B^k*B:=Nat.mul_le_mul_right B J
   omega
def eV {B:Nat}(hB:2<=B){a b:Nat}(h:a<=b):(av B a).length<=(av B b).length:=by
 rw[aW B hB]
 exact Nat.lt_of_le_of_lt h (oz hB b)
def Fy {B:Nat}(hB:2<=B)(a:Nat)(h:0<a):av B (a*B)=0::av B a:=by
 rw[gw B _ hB (Nat.mul_pos h J),Nat.mul_mod_left,Nat.mul_div_cancel _ J]
def jw {B:Nat}(hB:2<=B){a:Nat}(h:(av B a).length=0):a=0:=by
 rcases Nat.eq_zero_or_pos a with h0|h0
 · exact h0
 · rw[gw B a hB h0]at h;simp at h
def mH {B:Nat}(hB:2<=B){a:Nat}(h:0<(av B a).length):0<a:=by
 rcases Nat.eq_zero_or_pos a with h0|h0
 · subst h0;simp[gL]at h
 · exact h0
def nO (a:Nat)(ys:List Nat)(pre:List Nat):Nat:=pre.foldl (λs i=>s*10000+a*ys.getD i 0) 0
def us (a:Nat)(ys pre:List Nat)(x:Nat):nO a ys (pre++[x])=nO a ys pre*10000+a*ys.getD x 0:=by simp[nO]
def wu (a:Nat)(ys:List Nat):∀k s,k<=ys.length->(List.range k).reverse.foldl (λs i=>s*10000+a*ys.getD i 0) s=s*10000^k+a*b8 10000 (ys.take k)
 |0,s,_=>by simp[b8]
 | k+1,s,h=>by
   rw[List.range_succ,List.reverse_append]
   simp only[List.reverse_cons,List.reverse_nil,List.nil_append,List.cons_append,List.foldl_cons]
   rw[wu a ys k _ J,List.take_succ_eq_append_getElem J,cS]
   have hl:(ys.take k).length=k:=by simp;omega
   have O:ys.getD k 0=ys[k]:=by simp[show k<ys.length by omega]
   rw[hl,O]
   simp only[b8,Nat.mul_zero,Nat.add_zero,Nat.pow_succ]
   grind
def FA (a:Nat)(ys:List Nat){n:Nat}(h:ys.length=n):nO a ys (List.range n).reverse=a*b8 10000 ys:=by
 unfold nO
 rw[wu a ys n 0 J,List.take_of_length_le J]
 simp
