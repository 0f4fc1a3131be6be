/- Part of the proof of a statement about an adjustment. -/
import Derived.LaidEql
import Derived.RowKitTokens
import Derived.Test.YtlmihmlnpjkblaaGreatDoorRef4ToEncKG
import Derived.Stop.Asserts
import Derived.Lib.AppendZerosOnto
import Derived.Laws.CopyRow
set_option linter.all false
namespace Go.Proofs.YtlmihmlnpjkblaaGreatDoor
open Go Go.RowKit Go.Extern Tryz
variable {a ad:Addr}{lb:List Value}{N g b1 b2 n c s i lo k j lo' C gf n' D lo2 base sz:Nat}{p:Nat->Bool}{e H G:Nat->Value}{A B:Option Addr}{t el et:TypeId}{v0 v1 v2 v3 v4 v5 v6 v v':Value}{w w' W:World}
section
def Ka (v:Value)(w:World):(Extern.ReflectliteType.typeOf #[.iface 316 v]).run prog w=.ok (.iface 227 (.agg #[.pointer (some ⟨10,316,none⟩)])) w:=by kernel_rfl
def yi (w : World) : ((Extern.ReflectliteType.method fun t => do Extern.Rtype.noPackHeld "Comparable" t; Functor.map (fun a => Value.bool a.comparable) (typeInfo t)) #[.agg #[.pointer (some ⟨10, 316, none⟩)]]).run prog w = .ok (.bool true) w := by kernel_rfl
def ow (v : Value)(w : World) : (Go.method 451 227 v "Comparable").run prog w = .ok (317, v) w := by kernel_rfl
def T1:(prog.info? 316).map (·.comparable)=some true:=by kernel_rfl
def T4:(prog.info? 318).map (·.size)=some 1:=by kernel_rfl
def OF (a:Addr)(w:World):
 Calls prog 90 #[.iface 316 (.pointer (some a)),.iface 316 (.pointer (some a))] w λe w'=>e=.returned (.bool true)/\w'=w:=by
 obtain⟨i,hi,O⟩:=Option.map_eq_some_iff.1 T1
 obtain⟨j,E,_⟩:=Option.map_eq_some_iff.1 T4
 have A2:=@run_callFunc_extern prog 144 _ Extern.ReflectliteType.typeOf func144 q0 q0 q0 q0
 have A1 := @run_callFunc_extern prog 317 _ (Extern.ReflectliteType.method fun t => do Extern.Rtype.noPackHeld "Comparable" t; pure (.bool (← typeInfo t).comparable)) func317 q0 q0 q0 q0
 have tT:=Ka
 have cT:=yi
 have mR:=ow
 have A0:=run_eql_iface_ptr_same (P:=prog) w a underlying96 underlying316 hi O E
 go_enter func90,Tryz.ntmps90
 go_wp2
 refine wp_loop_rounds 1 ?_
 rw[rounds_succ]
 go_wp2
 go_ret
 exact⟨rfl,rfl⟩
end
section
set_option maxRecDepth 100000
open Go.Eng Tryz
abbrev eV (a:Addr):Value:=.iface 316 (.pointer (some a))
def pE (a:Addr):List PanicEntry:=[{v:=eV a,recovered:=false}]
def Er (w:World)(a:Addr):Prop:=ar w 0 96 #[eV a]
def Er.ext (k:aN w w')(h:Er w a):Er w' a:=ad1 k h
def Kb (a:Addr)(w:World):CL 90 #[eV a,eV a] w (aH w λv _=>v=.bool true):=
 (OF a w).mono λe w' h=>by obtain⟨rfl,rfl⟩:=h;exact⟨aa0 _,rfl⟩
def asE (a:Addr)(w:World):(Instr.typeAssert (eV a) 20 96 true).run prog w=.ok (.tuple #[eV a,.bool true]) w:=run_typeAssert_hasB underlying96 q0 _ _ _
section
variable {P:Program}{d id ty:Nat}{pos:String}{af:Array Edge}{ats:Array TypeId}{cs cs':List Frame}{Q:Exit->Act->List Frame->World->Prop}{ops:Array Oper}{rest:List Nat}
def T5 (hn:List.range ops.size=0::rest)(h0:ops[0]?=some ⟨some d,.call {callee:=.builtin .recover,args:=#[],argTypes:=ats},ty,pos,af,none⟩)(hr:recoverD cs=some (v0,cs'))(h:wpOpsS P ops Q rest (act N (upd e d v0) []) cs' w):
 (Code.region id ops false).wpS P Q (act N e []) cs w:=by
 refine wpS_region ?_
 rw[hn]
 have hx:(execOp (act N e []).eval ⟨some d,.call {callee:=.builtin .recover,args:=#[],argTypes:=ats},ty,pos,af,none⟩).run P w=.ok .recover w:=by
  simp[execOp,resolve,invoke,builtin]
 simp only[wpOpsS,h0,Region.wanted,if_true,hx,hr]
 rw[ax]
 exact h
end
def OG {P:Program}{d id ty:Nat}{pos:String}{af:Array Edge}{ats:Array TypeId}{cs cs':List Frame}{Q:Exit->Act->List Frame->World->Prop}{d1 ty1 d2 ty2 d3 ty3 d4 ty4 d5 ty5 d6 ty6:Nat}{pos1 pos2 pos3 pos4 pos5 pos6:String}{af1 af2 af3 af4 af5 af6:Array Edge}{op1 op2 op3 op4 op5 op6:Op}(hr:recoverD cs=some (v0,cs'))(h1:(execOp (ev N (upd e d v0)) (⟨some d1,op1,ty1,pos1,af1,none⟩:Oper)).run P w=.ok (.value v1) w)(h2:(execOp (ev N (upd (upd e d v0) d1 v1)) (⟨some d2,op2,ty2,pos2,af2,none⟩:Oper)).run P w=.ok (.value v2) w)(h3:(execOp (ev N (upd (upd (upd e d v0) d1 v1) d2 v2)) (⟨some d3,op3,ty3,pos3,af3,none⟩:Oper)).run P w=.ok (.value v3) w)(h4:(execOp (ev N (upd (upd (upd (upd e d v0) d1 v1) d2 v2) d3 v3)) (⟨some d4,op4,ty4,pos4,af4,none⟩:Oper)).run P w=.ok (.value v4) w)(h5:(execOp (ev N (upd (upd (upd (upd (upd e d v0) d1 v1) d2 v2) d3 v3) d4 v4)) (⟨some d5,op5,ty5,pos5,af5,none⟩:Oper)).run P w=.ok (.value v5) w)(h6:(execOp (ev N (upd (upd (upd (upd (upd (upd e d v0) d1 v1) d2 v2) d3 v3) d4 v4) d5 v5)) (⟨some d6,op6,ty6,pos6,af6,none⟩:Oper)).run P w=.ok (.value v6) w)(h:Q .normal (act N (upd (upd (upd (upd (upd (upd (upd e d v0) d1 v1) d2 v2) d3 v3) d4 v4) d5 v5) d6 v6) []) cs' w):
 (Code.region id #[⟨some d,.call {callee:=.builtin .recover,args:=#[],argTypes:=ats},ty,pos,af,none⟩,⟨some d1,op1,ty1,pos1,af1,none⟩,⟨some d2,op2,ty2,pos2,af2,none⟩,⟨some d3,op3,ty3,pos3,af3,none⟩,⟨some d4,op4,ty4,pos4,af4,none⟩,⟨some d5,op5,ty5,pos5,af5,none⟩,⟨some d6,op6,ty6,pos6,af6,none⟩] false).wpS P Q (act N e []) cs w:=
 T5 (rest:=[1,2,3,4,5,6]) Z Z hr (jp Z h1 (jp Z h2 (jp Z h3 (jp Z h4 (jp Z h5 (jp Z h6 (J7 h)))))))
def Xh (g:Nat)(t:TypeId)(z:Array Value):Prop:=∀(n:Nat) (a:Addr) (b1 b2:Nat) (cs:Array Value) (c0:Int) (w:World),Er w a->ar w b1 t cs->cs.size=z.size->ar w b2 36 #[.int .i64 c0]->b1≠b2->b1≠0->b2≠0-> 
 CallsDIn Fence.wide n prog g #[pT b1,pT b2] (.panicking (pE a)) w
  (λe u' w'=>(∃v,e=.returned v)/\u'=.panicking [{v:=eV a,recovered:=true}]/\∃wa wb,aN w wa/\dP wa wb b1/\dP wb w' b2/\ar w' b1 t z/\ar w' b2 36 #[.int .i64 140])
def T6 {fn:Func}{z cs:Array Value}{c0:Int}{R:Value->World->Prop}(hg:Enters prog g)(hc:Xh g t z)(hx:aN w w')(hE:Er w' a)(h1:ar w' b1 t cs)(hz:cs.size=z.size)(h2:ar w' b2 36 #[.int .i64 c0])(hne:b1≠b2)(hb1:w.heap.size<=b1)(hb2:w.heap.size<=b2)(h0:0<w.heap.size)(hr:∀w'',aN w w''->ar w'' b1 t z->ar w'' b2 36 #[.int .i64 140]->(results fn (act N e [dV g b1 b2]).tmps).run prog w''=.ok v w''/\R v w''):
 bodyPostDIn Fence.wide 0 prog fn (aH w R) (.panic (pE a)) (act N e [dV g b1 b2]) w':=by
 refine leavesIn_cons (f:=g) (args:=#[pT b1,pT b2]) zd kd1 ?_ (λ_ _=>trivial) ?_
 · have h:=hg #[pT b1,pT b2] w'
   simpa[invoke]using h
 · refine CallsDIn.mono (hc _ a b1 b2 cs c0 _ hE h1 hz h2 hne U U) ?_
   rintro _ _ w'' ⟨⟨v',rfl⟩,rfl,A2,Ab,A0,O,A1,c1,c2⟩
   have E:aN w w'':=ad5 A1 (ad5 O (hx.trans A0) hb1) hb2
   obtain⟨r1,r2⟩:=hr w'' E c1 c2
   exact⟨v,r1,E,r2⟩
def Kc :
 CallsDIn Fence.wide n prog 89 #[pT b1,pT b2] .returning w (λe u' w'=>(∃v,e=.returned v)/\u'=.returning/\w'=w):=by
 refine M6 (args:=[pT b1,pT b2]) func89 Z (λ_ _ hu=>?_)
 refine wpS_seq ?_
 refine ot (v1:=.tuple #[.nilIface,.bool false]) (v2:=.tuple #[.nilIface,.bool false]) (v3:=.nilIface) (v4:=.bool false) (v5:=.nilIface) (v6:=.bool false) DM ?_ ?_ ?_ ?_ ?_ ?_ ?_
 · have h:(Instr.typeAssert .nilIface 20 96 true).run prog w=.ok (.tuple #[.nilIface,.bool false]) w:=by
    unfold Instr.typeAssert
    simp[run_underlying underlying96]
   simp only[execOp]
   exact qb2 (λr=>Result.andThen r λa w'=>Result.ok (Next.value a) w') h
 · rfl
 · rfl
 · rfl
 · rfl
 · rfl
 refine wpS_of_wp (wpIn_wide (n:=0).1 ?_)
 refine iR (r:=none) ?_
 refine ii (r:=none) ?_
 refine aa (r:=none) (aY (v:=.bool false) Z ?_)
 refine aa (r:=none) (aY (v:=.bool false) Z ?_)
 with_reducible refine fF (r:=none) (d:=12) (s:=11) ?_ ?_ ?_
 exact Z
 exact Z
 with_reducible refine fF (r:=none) (d:=13) (s:=11) ?_ ?_ ?_
 exact Z
 exact Z
 with_reducible refine fF (r:=none) (d:=14) (s:=11) ?_ ?_ ?_
 exact Z
 exact Z
 refine aa (r:=none) (jH (t:=false) (v:=.bool false) Z Z ?_)
 refine gm ?_
 refine fm ?_
 refine qp (r:=none) Z ?_
 refine jJ (r:=none) ?_
 exact⟨rfl,.returning,by rw[<-hu],_,nh Z,⟨_,rfl⟩,rfl,rfl⟩
def Kd :
 CallsDIn Fence.wide n prog 97 #[pT b1,pT b2] .returning w (λe u' w'=>(∃v,e=.returned v)/\u'=.returning/\w'=w):=by
 refine M6 (args:=[pT b1,pT b2]) func97 Z (λ_ _ hu=>?_)
 refine wpS_seq ?_
 refine ot (v1:=.tuple #[.nilIface,.bool false]) (v2:=.tuple #[.nilIface,.bool false]) (v3:=.nilIface) (v4:=.bool false) (v5:=.nilIface) (v6:=.bool false) DM ?_ ?_ ?_ ?_ ?_ ?_ ?_
 · have h:(Instr.typeAssert .nilIface 20 96 true).run prog w=.ok (.tuple #[.nilIface,.bool false]) w:=by
    unfold Instr.typeAssert
    simp[run_underlying underlying96]
   simp only[execOp]
   exact qb2 (λr=>Result.andThen r λa w'=>Result.ok (Next.value a) w') h
 · rfl
 · rfl
 · rfl
 · rfl
 · rfl
 refine wpS_of_wp (wpIn_wide (n:=0).1 ?_)
 refine iR (r:=none) ?_
 refine ii (r:=none) ?_
 refine aa (r:=none) (aY (v:=.bool false) Z ?_)
 refine aa (r:=none) (aY (v:=.bool false) Z ?_)
 with_reducible refine fF (r:=none) (d:=12) (s:=11) ?_ ?_ ?_
 exact Z
 exact Z
 with_reducible refine fF (r:=none) (d:=13) (s:=11) ?_ ?_ ?_
 exact Z
 exact Z
 with_reducible refine fF (r:=none) (d:=14) (s:=11) ?_ ?_ ?_
 exact Z
 exact Z
 refine aa (r:=none) (jH (t:=false) (v:=.bool false) Z Z ?_)
 refine gm ?_
 refine fm ?_
 refine qp (r:=none) Z ?_
 refine jJ (r:=none) ?_
 exact⟨rfl,.returning,by rw[<-hu],_,nh Z,⟨_,rfl⟩,rfl,rfl⟩
def Ke :
 CallsDIn Fence.wide n prog 106 #[pT b1,pT b2] .returning w (λe u' w'=>(∃v,e=.returned v)/\u'=.returning/\w'=w):=by
 refine M6 (args:=[pT b1,pT b2]) func106 Z (λ_ _ hu=>?_)
 refine wpS_seq ?_
 refine ot (v1:=.tuple #[.nilIface,.bool false]) (v2:=.tuple #[.nilIface,.bool false]) (v3:=.nilIface) (v4:=.bool false) (v5:=.nilIface) (v6:=.bool false) DM ?_ ?_ ?_ ?_ ?_ ?_ ?_
 · have h:(Instr.typeAssert .nilIface 20 96 true).run prog w=.ok (.tuple #[.nilIface,.bool false]) w:=by
    unfold Instr.typeAssert
    simp[run_underlying underlying96]
   simp only[execOp]
   exact qb2 (λr=>Result.andThen r λa w'=>Result.ok (Next.value a) w') h
 · rfl
 · rfl
 · rfl
 · rfl
 · rfl
 refine wpS_of_wp (wpIn_wide (n:=0).1 ?_)
 refine iR (r:=none) ?_
 refine ii (r:=none) ?_
 refine aa (r:=none) (aY (v:=.bool false) Z ?_)
 refine aa (r:=none) (aY (v:=.bool false) Z ?_)
 with_reducible refine fF (r:=none) (d:=12) (s:=11) ?_ ?_ ?_
 exact Z
 exact Z
 with_reducible refine fF (r:=none) (d:=13) (s:=11) ?_ ?_ ?_
 exact Z
 exact Z
 with_reducible refine fF (r:=none) (d:=14) (s:=11) ?_ ?_ ?_
 exact Z
 exact Z
 refine aa (r:=none) (jH (t:=false) (v:=.bool false) Z Z ?_)
 refine gm ?_
 refine fm ?_
 refine qp (r:=none) Z ?_
 refine jJ (r:=none) ?_
 exact⟨rfl,.returning,by rw[<-hu],_,nh Z,⟨_,rfl⟩,rfl,rfl⟩
def Kf :
 CallsDIn Fence.wide n prog 109 #[pT b1,pT b2] .returning w (λe u' w'=>(∃v,e=.returned v)/\u'=.returning/\w'=w):=by
 refine M6 (args:=[pT b1,pT b2]) func109 Z (λ_ _ hu=>?_)
 refine wpS_seq ?_
 refine ot (v1:=.tuple #[.nilIface,.bool false]) (v2:=.tuple #[.nilIface,.bool false]) (v3:=.nilIface) (v4:=.bool false) (v5:=.nilIface) (v6:=.bool false) DM ?_ ?_ ?_ ?_ ?_ ?_ ?_
 · have h:(Instr.typeAssert .nilIface 20 96 true).run prog w=.ok (.tuple #[.nilIface,.bool false]) w:=by
    unfold Instr.typeAssert
    simp[run_underlying underlying96]
   simp only[execOp]
   exact qb2 (λr=>Result.andThen r λa w'=>Result.ok (Next.value a) w') h
 · rfl
 · rfl
 · rfl
 · rfl
 · rfl
 refine wpS_of_wp (wpIn_wide (n:=0).1 ?_)
 refine iR (r:=none) ?_
 refine ii (r:=none) ?_
 refine aa (r:=none) (aY (v:=.bool false) Z ?_)
 refine aa (r:=none) (aY (v:=.bool false) Z ?_)
 with_reducible refine fF (r:=none) (d:=12) (s:=11) ?_ ?_ ?_
 exact Z
 exact Z
 with_reducible refine fF (r:=none) (d:=13) (s:=11) ?_ ?_ ?_
 exact Z
 exact Z
 with_reducible refine fF (r:=none) (d:=14) (s:=11) ?_ ?_ ?_
 exact Z
 exact Z
 refine aa (r:=none) (jH (t:=false) (v:=.bool false) Z Z ?_)
 refine gm ?_
 refine fm ?_
 refine qp (r:=none) Z ?_
 refine jJ (r:=none) ?_
 exact⟨rfl,.returning,by rw[<-hu],_,nh Z,⟨_,rfl⟩,rfl,rfl⟩
def Kg :
 CallsDIn Fence.wide n prog 116 #[pT b1,pT b2] .returning w (λe u' w'=>(∃v,e=.returned v)/\u'=.returning/\w'=w):=by
 refine M6 (args:=[pT b1,pT b2]) func116 Z (λ_ _ hu=>?_)
 refine wpS_seq ?_
 refine ot (v1:=.tuple #[.nilIface,.bool false]) (v2:=.tuple #[.nilIface,.bool false]) (v3:=.nilIface) (v4:=.bool false) (v5:=.nilIface) (v6:=.bool false) DM ?_ ?_ ?_ ?_ ?_ ?_ ?_
 · have h:(Instr.typeAssert .nilIface 20 96 true).run prog w=.ok (.tuple #[.nilIface,.bool false]) w:=by
    unfold Instr.typeAssert
    simp[run_underlying underlying96]
   simp only[execOp]
   exact qb2 (λr=>Result.andThen r λa w'=>Result.ok (Next.value a) w') h
 · rfl
 · rfl
 · rfl
 · rfl
 · rfl
 refine wpS_of_wp (wpIn_wide (n:=0).1 ?_)
 refine iR (r:=none) ?_
 refine ii (r:=none) ?_
 refine aa (r:=none) (aY (v:=.bool false) Z ?_)
 refine aa (r:=none) (aY (v:=.bool false) Z ?_)
 with_reducible refine fF (r:=none) (d:=12) (s:=11) ?_ ?_ ?_
 exact Z
 exact Z
 with_reducible refine fF (r:=none) (d:=13) (s:=11) ?_ ?_ ?_
 exact Z
 exact Z
 with_reducible refine fF (r:=none) (d:=14) (s:=11) ?_ ?_ ?_
 exact Z
 exact Z
 refine aa (r:=none) (jH (t:=false) (v:=.bool false) Z Z ?_)
 refine gm ?_
 refine fm ?_
 refine qp (r:=none) Z ?_
 refine jJ (r:=none) ?_
 exact⟨rfl,.returning,by rw[<-hu],_,nh Z,⟨_,rfl⟩,rfl,rfl⟩
def Kh:Xh 89 40 #[.slice none 0 0,.slice none 0 0,S [],S [],.int .i64 0]:=by
 intro n a b1 b2 cs _ w hE h1 A0 h2 A1 _ _
 refine M6 (args:=[pT b1,pT b2]) func89 Z (λc₀ ds hu=>?_)
 refine wpS_seq ?_
 refine OG (v0:=eV a) (cs':={c₀ with mode:=.panicking [{v:=eV a,recovered:=true}]}::ds) (v1:=.tuple #[eV a,.bool true]) (v2:=.tuple #[eV a,.bool true]) (v3:=eV a) (v4:=.bool true) (v5:=eV a) (v6:=.bool true) (by simp[recoverD,hu,pE]) ?_ ?_ ?_ ?_ ?_ ?_ ?_
 · show(do let x <-Instr.typeAssert (eV a) 20 96 true;pure (Next.value x):Sem Next).run prog w=_
   rw[Sem.run_bind,asE a w]
   rfl
 · rfl
 · rfl
 · rfl
 · rfl
 · rfl
 refine wpS_of_wp (wpIn_wide (n:=0).1 ?_)
 refine iR (r:=none) ?_
 refine ii (r:=none) ?_
 refine aa (r:=none) (aY (v:=.bool true) Z ?_)
 refine aa (r:=none) (aY (v:=.bool true) Z ?_)
 with_reducible refine mg (r:=none) (s:=11) (q:=true) ?_ ?_ ?_
 exact Z
 exact Z
 refine(aY (r:=none) (v:=eV a) Z ?_)
 with_reducible refine mg (r:=none) (s:=11) (q:=true) ?_ ?_ ?_
 exact Z
 exact Z
 refine(bn (r:=none) (v:=eV a) (b:=0) (o:=0) underlying96 Z Z (ab4 hE Z) ?_)
 with_reducible refine mg (r:=none) (s:=11) (q:=true) ?_ ?_ ?_
 exact Z
 exact Z
 refine(qq (r:=none) (vs:=[eV a,eV a]) Se Z (Kb a w) ?_)
 rintro v Am O rfl
 refine aa (r:=none) (jH (t:=true) (v:=.bool true) Z Z ?_)
 refine gm ?_
 refine fm ?_
 refine mh (r:=none) Z ?_
 refine iR (r:=none) ?_
 refine ii (r:=none) ?_
 refine aa (r:=none) (DV dw (λAb E _ hb=>?_))
 refine gm ?_
 refine fm ?_
 refine ii (r:=none) ?_
 have B1:=ad1 E (ad1 O h1)
 have B2:=ad1 E (ad1 O h2)
 refine aa (r:=none) (aM (cs:=[.slice none 0 0,.slice none 0 0,S [],S [],.int .i64 0]) (b:=Am.heap.size) (o:=0) underlying40 Z df Z (aa1 hb (i:=0) Z) ?_)
 refine aa (r:=none) (bo (b:=b1) (o:=0) (vs:=[.slice none 0 0,.slice none 0 0,S [],S [],.int .i64 0]) df Z Z zl B1 (by rw[A0];exact qa0 _) (λA2 p3 Ao=>?_))
 have C1:ar A2 b1 40 #[.slice none 0 0,.slice none 0 0,S [],S [],.int .i64 0]:=by
  have e:putCells cs 0 [.slice none 0 0,.slice none 0 0,S [],S [],.int .i64 0]=#[.slice none 0 0,.slice none 0 0,S [],S [],.int .i64 0]:=by
   obtain⟨l⟩:=cs;rcases l with _|⟨x4,_|⟨x3,_|⟨x2,_|⟨x1,_|⟨x0,_|⟨x,l⟩⟩⟩⟩⟩⟩ <;>first|rfl|(simp at A0;done)
  rwa [e]at Ao
 refine aa (r:=none) (cI (b:=b2) (o:=0) (v:=.int .i64 140) RU Z Z Z (ab2 p3 (λe=>A1 e.symm) B2) zd (λ_ p4 Af=>?_))
 refine gm ?_
 exact⟨rfl,_,rfl,_,nh Z,⟨_,rfl⟩,rfl,Ab,A2,O.trans E,p3,p4,ab2 p4 (λe=>A1 e) C1,Af⟩
def uA (s:Nat)(A:Option Addr)(c i:Nat):Option Addr:=if c=i then A else A.map (·.add (i*s))
section
variable {P:Program}{r:Option Nat}{ds:List Deferred}{Q:Exit->Act->World->Prop}{K:Act->World->Prop}
variable {d ty:Nat}{pos:String}{af:Array Edge}{g:Option (Nat×Bool)}{u:Value}{x y:Operand}{t':TypeId}
def yj {m:Nat}{k:IntKind}{lo:Operand}(hu:P.underlying t=some (.slice el))(hi0:(P.info? el).map (·.size)=some s)(hx:ev N e x=.slice A m c)(hlo:ev N e lo=.int k (i:Int))(hij:i<=m)(hj:m<=c)(hk:K (act N (upd e d (.slice (uA s A c i) (m-i) (c-i))) ds) w):
 Oper.wpIn (Fw r) n P ⟨some d,.slice t x (some lo) none none,ty,pos,af,g⟩ (act N e ds) w K Q:=
 zh (i:=i) (j:=m) hu hi0 hx (.inr ⟨k,qb2 some hlo⟩) (.inl ⟨rfl,rfl⟩) hij hj hk
end
def add_mid (ad:Addr)(k:Nat):(ad.add k).block=ad.block:=by unfold Addr.add;split <;>rfl
def Rw.fromA {cs:List Value}{m:Nat}(h:Rw W lo A cs)(hl:cs.length=m*s)(hm:m<=c)(hi:i<=m):Rw W lo (uA s A c i) (cs.drop (i*s)):=by
 unfold uA
 by_cases hc:c=i
 · rw[if_pos hc]
   have:cs.drop (i*s)=[]:=List.drop_eq_nil_of_le (by rw[hl];exact Nat.mul_le_mul_right _ U)
   rw[this]
   exact⟨λj u hu=>by simp at hu,h.lo,h.hi⟩
 · rw[if_neg hc]
   refine⟨λj u hu=>?_,λad e=>?_,λad e=>?_⟩
   · rw[List.getElem?_drop]at hu
     obtain⟨b,o,rfl,hv⟩:=h.cells _ u hu
     exact⟨b,o+i*s,by simp[Addr.add_mid],by rw[Nat.add_assoc];exact hv⟩
   · cases A with
     |none=>cases e
     |some a=>cases e;show lo<=(a.add (i*s)).block;rw[add_mid];exact h.lo a Z
   · cases A with
     |none=>cases e
     |some a=>cases e;show(a.add (i*s)).block<_;rw[add_mid];exact h.hi a Z
def Mt.drop {L:Rows}(h:Mt W lo A n H L)(hn:n<=c)(hi:i<=n):Mt W lo (uA 1 A c i) (n-i) (λk=>H (k+i)) (λk=>L (k+i)):=by
 refine⟨?_,λk hk=>h.hdr _ U,λk hk=>h.row _ U,λk hk=>h.cap _ U⟩
 have h1:=Rw.fromA (i:=i) (s:=1) h.out zd hn hi
 have:((List.range n).map H).drop (i*1)=(List.range (n-i)).map λk=>H (k+i):=by
  apply List.ext_getElem
  · simp
  · intro j h1 h2;simp[Nat.add_comm]
 rw[this]at h1
 exact h1
def mJ:∀(l:List R) (i:Nat),(ag l).drop (i*2)=ag (l.drop i)
 |l,0=>by simp
 |[],i+1=>by simp[ag]
 | a::l,i+1=>by
   have:=mJ l i
   rw[show(i+1)*2=i*2+2 by omega]
   simpa[ag]using this
def Rw.fromR {xs:List R}(h:Rw W lo A (ag xs))(hm:xs.length<=c)(hi:i<=xs.length):Rw W lo (uA 2 A c i) (ag (xs.drop i)):=by
 have:=Rw.fromA (i:=i) (s:=2) h (fU _) hm hi
 rwa [mJ]at this
def em (p:Nat->Bool):Nat->Nat->Nat
 |0,i=>i
 |f+1,i=>if p i then i else em p f (i+1)
def Ki (h:¬i<n):em p (n-i) i=i:=by rw[show n-i=0 by omega];rfl
def Kj (h:i<n)(hp:p i=true):em p (n-i) i=i:=by
 rw[show n-i=(n-(i+1))+1 by omega];unfold em;rw[if_pos hp]
def qW (h:i<n)(hp:p i=false):em p (n-i) i=em p (n-(i+1)) (i+1):=by
 rw[show n-i=(n-(i+1))+1 by omega];conv=>lhs;unfold em
 rw[if_neg (by rw[hp];simp)]
def qX (p:Nat->Bool)(n:Nat):∀f i,i+f=n->i<=em p f i/\em p f i<=n/\(∀j,i<=j->j<em p f i->p j=false)/\(em p f i<n->p (em p f i)=true)
 |0,i,h=>by unfold em;exact⟨qa0 _,by omega,λj _ _=>by omega,λ_=>by omega⟩
 | f +1,i,h=>by
   unfold em
   cases hp:p i with
   |true=>rw[if_pos Z];exact⟨qa0 _,by omega,λj _ _=>by omega,λ_=>hp⟩
   | false=>
     rw[if_neg zd]
     obtain⟨h1,h2,h3,h4⟩:=qX p n f (i+1) U
     exact⟨by omega,h2,λj O E=>by by_cases e:j=i;exact e▸hp;exact h3 j U E,h4⟩
def sN :em p n 0<n↔∃i,i<n/\p i=true:=by
 obtain⟨_,_,h3,h4⟩:=qX p n n 0 U
 constructor
 · intro h;exact⟨_,h,h4 h⟩
 · rintro⟨i,hi,hp⟩
   refine Nat.lt_of_not_ge λ_=>?_
   have:=h3 i (qa7 _) U;rw[hp]at this;cases this
def Dk (p:Nat->Bool)(n:Nat):Int:=if em p n 0<n then((em p n 0:Nat):Int)else -1
def ym (h:i<n)(hp:p i=true)(hq:em p (n-i) i=em p n 0):((i:Nat):Int)=Dk p n:=by
 rw[Kj h hp]at hq;unfold Dk;rw[<-hq,if_pos h]
def yn (h:¬i<n)(hq:em p (n-i) i=em p n 0):-1=Dk p n:=by
 rw[Ki h]at hq;unfold Dk;rw[<-hq,if_neg h]
def E2 (p:Nat->Bool)(n:Nat):decide ((0:Int)<=Dk p n)=decide (em p n 0<n):=by
 unfold Dk;split <;>rename_i h <;>simp[h]
abbrev pz (L:Rows)(r c:Nat):Nat->Bool:=λi=>!decide (ap (L (i+r)) c=z0)
def Bd (n:Nat)(L:Rows):Prop:=n<=1000000/\∀i,i<n->(L i).length<=1000000/\∀k,k<(L i).length->C9 (ap (L i) k)
def Z8 (l:List R):Prop:=l.length<=1000000/\∀k,k<l.length->C9 (ap l k)
def Bd.row {L:Rows}(h:Bd n L)(hi:i<n):Z8 (L i):=h.2 i hi
def eu {l:List R}(h:k<l.length):ap l k=l[k]:=by simp[ap,List.getD,h]
def lH {l:List R}:l.all bN=true↔∀k,k<l.length->bN (ap l k)=true:=by
 rw[List.all_eq_true]
 constructor
 · intro h k hk;rw[eu hk];exact h _ (List.getElem_mem hk)
 · intro h a E;obtain⟨k,hk,rfl⟩:=List.mem_iff_getElem.1 E;rw[<-eu hk];exact h k hk
def E3 (l:List R):(!decide (em (λk=> !bN (ap l k)) l.length 0<l.length))=l.all bN:=by
 cases e:l.all bN with
 | true=>
   have h:=lH.1 e
   simp only[Bool.not_eq_true',decide_eq_false_iff_not,sN]
   rintro⟨i,hi,hp⟩;rw[h i hi]at hp;cases hp
 | false=>
   simp only[Bool.not_eq_false',decide_eq_true_eq,sN]
   refine qb6 λE=>?_
   have:l.all bN=true:=lH.2 λk hk=>by
    cases h:bN (ap l k)with
    |true=>rfl
    |false=>exact absurd ⟨k,hk,by simp[h]⟩ E
   rw[e]at this;cases this
def Kk (m:Nat)(l:List R):Prop:=l.length=m/\l.all bN=true
instance (m:Nat) (l:List R):Decidable (Kk m l):=by unfold Kk;infer_instance
def VM (n:Nat)(L:Rows):Prop:=1<=n/\n<=8/\1<=(L 0).length/\(L 0).length<=8/\∀i,i<n->Kk (L 0).length (L i)
instance (n:Nat) (L:Rows):Decidable (VM n L):=by unfold VM;infer_instance
def vM (n:Nat)(L:Rows):Bool:=decide (VM n L)
def VM.ok {L:Rows}(h:VM n L):gk n (L 0).length L:=λi hi=>⟨(h.2.2.2.2 i hi).1,λk hk=>lH.1 (h.2.2.2.2 i hi).2 k (by rw[(h.2.2.2.2 i hi).1];exact hk)⟩
def T7 {L:Rows}(h1:1<=n)(h2:n<=8)(h3:1<=(L 0).length)(h4:(L 0).length<=8):(!decide (em (λi=> !decide ((L i).length=(L 0).length)|| !(L i).all bN) n 0<n))=vM n L:=by
 unfold vM
 by_cases e:VM n L
 · rw[decide_eq_true e]
   simp only[Bool.not_eq_true',decide_eq_false_iff_not,sN]
   rintro⟨i,hi,hp⟩
   have:=e.2.2.2.2 i hi
   simp[this.1,this.2]at hp
 · rw[decide_eq_false e]
   simp only[Bool.not_eq_false',decide_eq_true_eq,sN]
   refine qb6 λE=>e ⟨h1,h2,h3,h4,λi hi=>?_⟩
   have:¬((!decide ((L i).length=(L 0).length)|| !(L i).all bN)=true):=λh=>E ⟨i,hi,h⟩
   simp only[Bool.or_eq_true,Bool.not_eq_true',decide_eq_false_iff_not,not_or,Decidable.not_not,Bool.not_eq_false]at this
   exact this
def E8 {L:Rows}(h:¬(1<=n/\n<=8/\1<=(L 0).length/\(L 0).length<=8)):false=vM n L:=by
 unfold vM;rw[decide_eq_false (λe:VM n L=>h ⟨e.1,e.2.1,e.2.2.1,e.2.2.2.1⟩)]
def jc {L:Rows}(h:vM n L=true):VM n L:=of_decide_eq_true h
def m7 {a b:List R}(hl:a.length=b.length)(h:∀j,j<a.length->ap a j=ap b j):a=b:=
 List.ext_getElem hl λi h1 h2=>by rw[<-eu h1,<-eu h2];exact h i h1
def GZ {a b:List R}(h:¬ap a j=ap b j):¬a=b:=λe=>h (by rw[e])
def kq (n:Nat)(L:Rows)(n':Nat)(L':Rows):Prop:=n=n'/\∀i,i<n->L i=L' i
instance (n:Nat) (L:Rows) (n':Nat) (L':Rows):Decidable (kq n L n' L'):=by unfold kq;infer_instance
def M7 (n:Nat)(L:Rows):Prop:=∀i,i<n->∀k,k<i->ap (L i) k=ap (L k) i
instance (n:Nat) (L:Rows):Decidable (M7 n L):=by unfold M7;infer_instance
def dI (lo:Nat)(w:World)(v:Value)(n:Nat)(L:Rows):Prop:=∃A C H,v=.slice A n C/\n<=C/\Mt w lo A n H L
def Gt (H:Nat->Value)(k:Nat):Nat->Value:=λi=>.slice (sA (H i)) k (sC (H i))
def G1 (G:Nat->Value)(i:Nat):(List.range i).map G++[G i]=(List.range (i+1)).map G:=by simp[List.range_succ]
def jd:∀(l:List R) (i:Nat),(ag l).take (i*2)=ag (l.take i)
 |l,0=>by simp[ag]
 |[],i+1=>by simp[ag]
 | a::l,i+1=>by
   have:=jd l i
   rw[show(i+1)*2=i*2+2 by omega]
   simpa[ag]using this
def Mt.takes {L:Rows}(h:Mt W lo A n H L)(hk:k<=n)(hl:∀i,i<n->k<=(L i).length)(ho:Rw W lo' B ((List.range k).map (Gt H k)))(hlo:lo<=lo'):Mt W lo B k (Gt H k) (λi=>(L i).take k):=by
 refine⟨ho.mono hlo,λi hi=>?_,λi hi=>?_,λi hi=>?_⟩
 · have:=hl i U;simp only[List.length_take,Nat.min_eq_left this];rfl
 · have:=Rw.take (k*2) (h.row i U);rwa [jd]at this
 · have:=h.cap i U;have:=hl i U;simp only[List.length_take,Nat.min_eq_left this];show k<=sC (H i);omega
def l8 (L:Rows)(k j:Nat):List R:=(List.range k).map λi=>ap (L i) j
def Kl (L:Rows)(k j:Nat):l8 L (k+1) j=l8 L k j++[ap (L k) j]:=by simp[l8,List.range_succ]
def Km (L:Rows)(j:Nat):l8 L 0 j=[]:=rfl
def pF (L:Rows)(k j:Nat):(l8 L k j).length=k:=by simp[l8]
def uB (L:Rows)(j:Nat)(h:i<k):ap (l8 L k j) i=ap (L i) j:=by
 rw[eu (by rw[pF];exact h)];simp[l8]
def du (l:List R)(q:R):ag l++[S q.1,S q.2]=ag (l++[q]):=by simp[ag]
def uC (l m:List R):ag l++ag m=ag (l++m):=by simp[ag]
def kT (a:List R)(B:Rows)(j:Nat):Nat->Nat->R->Option R
 |0,_,s=>some s
 | f +1,k,s=>match gj (ap a k) (ap (B k) j)with
   |none=>none
   | some p=>match jR s p with
     |none=>none
     |some s'=>kT a B j f (k+1) s'
def lX (a:List R)(B:Rows):Nat->Nat->List R->Option (List R)
 |0,_,l=>some l
 | f+1,j,l=>match kT a B j a.length 0 z0 with
   |none=>none
   |some s=>lX a B f (j+1) (l++[s])
def pH (L:Rows)(B:Rows)(p:Nat):Nat->Nat->Rows->Option Rows
 |0,_,K=>some K
 | f+1,i,K=>match lX (L i) B p 0 []with
   |none=>none
   |some l=>pH L B p f (i+1) (bD K i l)
def pI:Rows:=λ_=>[]
def AH (n p:Nat)(L B:Rows):Option Rows:=pH L B p n 0 pI
section
variable {a l:List R}{B L K:Rows}{m p:Nat}{s q d:R}{T:Option R}{T2:Option (List R)}{T3:Option Rows}
def G2 (h:k<m)(hT:kT a B j (m-k) k s=T)(h1:gj (ap a k) (ap (B k) j)=some q)(h2:jR s q=some d):kT a B j (m-(k+1)) (k+1) d=T:=by
 rw[jz h]at hT;unfold kT at hT;rw[h1]at hT;dsimp only at hT;rw[h2]at hT;exact hT
def Dl (h:k<m)(hT:kT a B j (m-k) k s=T)(h1:gj (ap a k) (ap (B k) j)=none):T=none:=by
 rw[jz h]at hT;unfold kT at hT;rw[h1]at hT;exact hT.symm
def Dm (h:k<m)(hT:kT a B j (m-k) k s=T)(h1:gj (ap a k) (ap (B k) j)=some q)(h2:jR s q=none):T=none:=by
 rw[jz h]at hT;unfold kT at hT;rw[h1]at hT;dsimp only at hT;rw[h2]at hT;exact hT.symm
def Kn (h:¬k<m)(hT:kT a B j (m-k) k s=T):T=some s:=by rw[show m-k=0 by omega]at hT;exact hT.symm
def G3 (h:j<p)(hT:lX a B (p-j) j l=T2)(h1:kT a B j a.length 0 z0=some s):lX a B (p-(j+1)) (j+1) (l++[s])=T2:=by
 rw[jz h]at hT;unfold lX at hT;rw[h1]at hT;exact hT
def wL (h:j<p)(hT:lX a B (p-j) j l=T2)(h1:kT a B j a.length 0 z0=none):T2=none:=by
 rw[jz h]at hT;unfold lX at hT;rw[h1]at hT;exact hT.symm
def Ko (h:¬j<p)(hT:lX a B (p-j) j l=T2):T2=some l:=by rw[show p-j=0 by omega]at hT;exact hT.symm
def G4 (h:i<n)(hT:pH L B p (n-i) i K=T3)(h1:lX (L i) B p 0 []=some l):pH L B p (n-(i+1)) (i+1) (bD K i l)=T3:=by
 rw[jz h]at hT;unfold pH at hT;rw[h1]at hT;exact hT
def wN (h:i<n)(hT:pH L B p (n-i) i K=T3)(h1:lX (L i) B p 0 []=none):T3=none:=by
 rw[jz h]at hT;unfold pH at hT;rw[h1]at hT;exact hT.symm
def Kr (h:¬i<n)(hT:pH L B p (n-i) i K=T3):T3=some K:=by rw[show n-i=0 by omega]at hT;exact hT.symm
end
def Fa {a:List R}{B:Rows}:∀{f k:Nat} {s d:R},bN s=true->kT a B j f k s=some d->bN d=true
 |0,_,_,_,hs,h=>by cases h;exact hs
 | f +1,k,s,d,hs,h=>by
   unfold kT at h
   cases h1:gj (ap a k) (ap (B k) j)with
   |none=>rw[h1]at h;cases h
   | some q=>
     rw[h1]at h;dsimp only at h
     cases h2:jR s q with
     |none=>rw[h2]at h;cases h
     |some d'=>rw[h2]at h;exact Fa (EV h2) h
def Vj:bN z0=true:=uk
def dM (n:Nat)(L:Rows)(m:Nat)(B:Rows):Option Rows:=if vM n L=true/\vM m B=true/\(L 0).length=m then AH n (B 0).length L B else none
def uR (i k:Nat):List R:=(List.range k).map λj=>if i=j then o1 else z0
def Xi (h:i=k):uR i (k+1)=uR i k++[o1]:=by simp[uR,List.range_succ,h]
def Xj (h:¬i=k):uR i (k+1)=uR i k++[z0]:=by simp[uR,List.range_succ,h]
def mK (i k:Nat):(uR i k).length=k:=by simp[uR]
def pJ {α:Type}(f:Nat->α)(i:Nat):bD f i (f i)=f:=funext λj=>by unfold bD;split <;>simp_all
def nj (lo:Nat)(w:World)(n:Nat):Option Rows->Value->Prop
 |none,v=>v=.tuple #[.slice none 0 0,.int .i64 130]
 |some K,v=>∃u,v=.tuple #[u,.int .i64 0]/\dI lo w u n K
def AI {lo:Nat}{w:World}{L:Rows}:dI lo w (.slice none 0 0) 0 L:=⟨none,0,λ_=>.nilIface,rfl,qa0 _,⟨by simpa using Rw.nil w lo,λi h=>by omega,λi h=>by omega,λi h=>by omega⟩⟩
def pK {hi:Nat}{L:Rows}(ho:w.ownsRow lo 28 1 v n ((List.range n).map H))(hw:Wr w lo hi n H L):dI lo w v n L:=
 ⟨sA v,sC v,H,dr ho,kj ho,hw.mt (ek ho)⟩
def dI.mono {L:Rows}(hl:lo'<=lo)(h:dI lo w v n L):dI lo' w v n L:=by
 obtain⟨A,C,H,rfl,hc,hM⟩:=h;exact⟨A,C,H,rfl,hc,hM.mono hl⟩
def dI.congr {L L':Rows}(h:dI lo w v n L)(hL:∀i,i<n->L i=L' i):dI lo w v n L':=by
 obtain⟨A,C,H,rfl,hc,hM⟩:=h;exact⟨A,C,H,rfl,hc,hM.congr hL⟩
def Vk (b:Bool):Int:=if b then 0 else 130
def Ks (o:Option R):Value:=.tuple #[.agg #[S (rN o),S (rD o)],.int .i64 (Vk o.isSome)]
def G5 (o:Option Bool):Value:=.tuple #[.bool (o.getD false),.int .i64 (Vk o.isSome)]
def pL (n:Nat)(L:Rows):Option Nat:=if vM n L=true then(elim n (L 0).length (L 0).length L).map λs=>s.piv.length else none
def iq (l:List R):Nat->Nat->R->Option R
 |0,_,d=>some d
 | f+1,i,d=>match gj d (ap l i)with
   |none=>none
   |some p=>iq l f (i+1) p
def r7 (d:R):R:=(rN (dE z0 d),rD (dE z0 d))
def ox (n:Nat)(s:El):Option R:=if s.piv.length<n then some z0 else(iq s.piv s.piv.length 0 o1).map λd=>if s.sw%2=1 then r7 d else d
def vF (n:Nat)(L:Rows):Bool:=vM n L&&decide (n=(L 0).length)
def kU (n:Nat)(L:Rows):Option R:=if vF n L=true then(elim n n n L).bind (ox n)else none
section
variable {l:List R}{d p:R}{T:Option R}
def Dn (h:i<n)(hT:iq l (n-i) i d=T)(h1:gj d (ap l i)=some p):iq l (n-(i+1)) (i+1) p=T:=by
 rw[jz h]at hT;unfold iq at hT;rw[h1]at hT;exact hT
def Do (h:i<n)(hT:iq l (n-i) i d=T)(h1:gj d (ap l i)=none):T=none:=by
 rw[jz h]at hT;unfold iq at hT;rw[h1]at hT;exact hT.symm
def G6 (h:¬i<n)(hT:iq l (n-i) i d=T):T=some d:=by rw[show n-i=0 by omega]at hT;exact hT.symm
end
def nH {L:Rows}(h:vF n L=true):VM n L/\n=(L 0).length:=by
 unfold vF at h;simp only[Bool.and_eq_true,decide_eq_true_eq]at h;exact⟨jc h.1,h.2⟩
def Dp {L:Rows}(h:vM n L=true)(h2:n=(L 0).length):vF n L=true:=by unfold vF;rw[h,decide_eq_true h2];rfl
def Kt {m:Nat}{s s':El}(h:pu n m c s=some s')(ho:gk n m s.L)(hc:c<m)(hp:∀k,k<s.piv.length->bN (ap s.piv k)=true)(hl:s.piv.length<=n):∀k,k<s'.piv.length->bN (ap s'.piv k)=true:=by
 unfold pu at h
 split at h
 · cases h;exact hp
 · rename_i hne
   split at h
   · cases h
   · split at h
     · cases h
     · cases h
       intro k hk
       rw[List.length_append]at hk
       by_cases hk2:k<s.piv.length
       · have:ap (s.piv++[ap (s.L (iF c s.L (n-s.piv.length) s.piv.length)) c]) k=ap s.piv k:=by
          unfold ap;simp[List.getD,List.getElem?_append_left hk2]
         show bN (ap (s.piv++_) k)=true
         rw[this];exact hp k hk2
       · have E:k=s.piv.length:=by simp at hk;omega
         subst E
         have:ap (s.piv++[ap (s.L (iF c s.L (n-s.piv.length) s.piv.length)) c]) s.piv.length=ap (s.L (iF c s.L (n-s.piv.length) s.piv.length)) c:=by
          unfold ap;simp[List.getD]
         show bN (ap (s.piv++_) _)=true
         rw[this]
         have hb:=sJ c s.L (n-s.piv.length) s.piv.length
         exact(ho _ U).2 c hc
def AJ {m r:Nat}{pv:R}(hr:r<n):∀(f k:Nat) (L L':Rows),k+f<=m->gk n m L->mH r pv f k L=some L'->gk n m L'
 |0,_,_,_,_,h,e=>by cases e;exact h
 | f+1,k,L,L',hk,h,e=>by
   unfold mH at e
   cases h1:mF (ap (L r) k) pv with
   |none=>rw[h1]at e;cases e
   |some q=>rw[h1]at e;exact AJ hr f (k+1) _ L' U (gk.set h U hr (EU h1)) e
def AK {m r:Nat}{by_:R}(hi:i<n):∀(f k:Nat) (L L':Rows),k+f<=m->gk n m L->lW r i by_ f k L=some L'->gk n m L'
 |0,_,_,_,_,h,e=>by cases e;exact h
 | f +1,k,L,L',hk,h,e=>by
   unfold lW at e
   cases h1:gj by_ (ap (L r) k)with
   |none=>rw[h1]at e;cases e
   | some q=>
     rw[h1]at e;dsimp only at e
     cases h2:dE (ap (L i) k) q with
     |none=>rw[h2]at e;cases e
     |some d=>rw[h2]at e;exact AK hi f (k+1) _ L' U (gk.set h U hi (yd h2)) e
def uE {m r:Nat}(hc:c<=m):∀(f i:Nat) (L L':Rows),i+f<=n->gk n m L->ky m r c f i L=some L'->gk n m L'
 |0,_,_,_,_,h,e=>by cases e;exact h
 | f + 1,i,L,L',hi,h,e=>by
   unfold ky at e
   split at e
   · exact uE hc f (i+1) L L' U h e
   · split at e
     · cases e
     · rename_i L1 h1
       exact uE hc f (i+1) _ L' U (AK U (m-c) c L L1 U h h1) e
def Ku {m:Nat}{s s':El}(h:pu n m c s=some s')(ho:gk n m s.L)(hc:c<m)(hl:s.piv.length<=n):gk n m s'.L/\s'.piv.length<=n/\(s.cols.length=s.piv.length->s'.cols.length=s'.piv.length)/\s.piv.length<=s'.piv.length:=by
 unfold pu at h
 split at h
 · cases h;exact⟨ho,hl,λh=>h,qa0 _⟩
 · rename_i hne
   have hb:=sJ c s.L (n-s.piv.length) s.piv.length
   split at h
   · cases h
   · rename_i L2 h2
     split at h
     · cases h
     · rename_i L3 h3
       cases h
       have o1:=AJ U _ _ _ _ U (gk.sw ho U U) h2
       exact⟨uE U _ _ _ _ U o1 h3,by simp;omega,λh=>by simp[h],by simp⟩
def AL {n m:Nat}:∀(f c:Nat) (s s':El),c+f<=m->gk n m s.L->(∀k,k<s.piv.length->bN (ap s.piv k)=true)->s.piv.length<=n->s.cols.length=s.piv.length->(∀x∈s.cols,x<c)->s.piv.length<=c->ip n m f c s=some s'->
 gk n m s'.L/\(∀k,k<s'.piv.length->bN (ap s'.piv k)=true)/\s'.piv.length<=n/\s'.cols.length=s'.piv.length/\(∀x∈s'.cols,x<c+f)/\s'.piv.length<=c+f
 |0,c,s,s',_,h1,h2,h3,h4,h5,h6,e=>by cases e;exact⟨h1,h2,h3,h4,h5,h6⟩
 | f + 1, c, s,s',hf,h1,h2,h3,h4,h5,h6,e=>by
   unfold ip at e
   split at e
   · cases e
   · rename_i s1 hs
     have a:=Ku hs h1 U h3
     have b:=Kt hs h1 U h2 h3
     have hc:(∀x∈s1.cols,x<c+1)/\s1.piv.length<=c+1:=by
      unfold pu at hs
      split at hs
      · cases hs;exact⟨λx hx=>by have:=h5 x hx;omega,by omega⟩
      · split at hs
        · cases hs
        · split at hs
          · cases hs
          · cases hs
            refine⟨λx hx=>?_,by simp;omega⟩
            rcases List.mem_append.1 hx with h|h
            · have:=h5 x h;omega
            · simp at h;omega
     have:=AL f (c+1) s1 s' U a.1 b a.2.1 (a.2.2.1 h4) hc.1 hc.2 e
     exact⟨this.1,this.2.1,this.2.2.1,this.2.2.2.1,λx hx=>by have:=this.2.2.2.2.1 x hx;omega,by have:=this.2.2.2.2.2;omega⟩
def pM {m cols:Nat}{L:Rows}{s:El}(h:gk n m L)(hc:cols<=m)(e:elim n m cols L=some s):
 gk n m s.L/\(∀k,k<s.piv.length->bN (ap s.piv k)=true)/\s.piv.length<=n/\s.cols.length=s.piv.length/\(∀x∈s.cols,x<cols)/\s.piv.length<=cols:=by
 have:=AL cols 0 ⟨L,[],[],0⟩ s U h (λk hk=>by simp at hk) zd Z zd zd e
 simpa using this
def AM {l:List R}:∀{f i:Nat} {d p:R},bN d=true->iq l f i d=some p->bN p=true
 |0,_,_,_,h,e=>by cases e;exact h
 | f+1,i,d,p,h,e=>by
   unfold iq at e
   cases h1:gj d (ap l i)with
   |none=>rw[h1]at e;cases e
   |some q=>rw[h1]at e;exact AM (ET h1) e
def Yx:bN o1=true:=by decide +kernel
def qY {d:R}(h:bN d=true):dE z0 d=some (r7 d):=by
 have:=TY h
 unfold r7
 cases e:dE z0 d with
 |none=>unfold z0 at e;rw[e]at this;cases this
 |some q=>rfl
def Fb {d:R}(h:bN d=true):bN (r7 d)=true:=yd (qY h)
end
section
open Go.Eng Tryz
attribute [local irreducible] wpListIn Code.wpIn Oper.wpIn Exit.then Exit.inBlock Exit.noGoto
set_option maxHeartbeats 40000000
def gN {hi:Nat}{L:Nat->List R}(h:Ho W A n H)(hw:Wr W lo hi n H L)(hi':i<n):
 A=some ⟨aO A,cL A,none⟩/\W.cell? ⟨aO A,cL A+i,none⟩=some (.slice (sA (H i)) (L i).length (sC (H i))):=by
 rw[<-hw.hdr hi'];exact h.cell hi'
def swV (p r:Nat)(H:Nat->Value):Nat->Value:=λi=>H (r5 p r i)
def OH {hi p r:Nat}{L:Nat->List R}(hw:Wr W lo hi n H L)(hp:p<n)(hr:r<n)(h:Ho W A n (bD (bD H p (.slice (sA (H r)) (L r).length (sC (H r)))) r (.slice (sA (H p)) (L p).length (sC (H p))))):Ho W A n (swV p r H):=by
 refine h.congr λi hi=>?_
 unfold swV
 rw[<-hw.hdr hp,<-hw.hdr hr]
 unfold r5 bD
 by_cases h1:i=r
 · subst h1;by_cases h2:i=p <;>simp[h2]
 · by_cases h2:i=p
   · subst h2;simp[h1]
   · simp[h1,h2]
def Zb (w:World)(lo:Nat)(v:Value)(l:List R):Prop:=v=.slice (sA v) l.length (sC v)/\Rw w lo (sA v) (ag l)
def Zc (w:World)(lo:Nat)(v:Value)(l:List Nat):Prop:=v=.slice (sA v) l.length (sC v)/\Rw w lo (sA v) (ints l)
def vR (lo n:Nat)(w:World)(s:El)(last:Value)(v:Value):Prop:=
 ∃A C H vp vc,v=.agg #[.slice A n C,vp,vc,last]/\n<=C/\Mt w lo A n H s.L/\Zb w lo vp s.piv/\Zc w lo vc s.cols
def kV {α:Type}(f:Nat->α)(i:Nat):bD f i (f i)=f:=funext λj=>by unfold bD;split <;>simp_all
set_option maxRecDepth 100000
abbrev hdr (H:Nat->Value)(L:Rows)(i:Nat):Value:=.slice (sA (H i)) (L i).length (sC (H i))
def T8 {xs:List R}(hx:Rw w lo A (ag xs))(hg:Enters prog gf)(hf:∀i W,i<xs.length->aN w W->CL gf (.agg #[S (ap xs i).1,S (ap xs i).2]::lb).toArray W (aH W λv _=>v=.bool (p i)))(hn:xs.length<=1000000):
 CL 129 #[.slice A xs.length C,.func (.func gf) #[] lb.toArray] w (aH w λv w'=>v=.int .i64 (Dk p xs.length)):=by
 refine aC func129 Z (I ?_);have E1:=aa0 w;refine ck [(4,5),(8,18)] (λAb e W=>∃i:Nat,(xs.length-i=Ab)/\(e 8=.int .i64 i)/\(i<=xs.length)/\(em p (xs.length-i) i=em p xs.length 0)/\(aN w W)) (xs.length-0) ⟨0,rfl,rfl,(qa7 _),rfl,E1⟩ ?_;rintro _ _ _ ⟨i,rfl,Af,hi_i,hq,E6⟩;by_cases hl_i:i<xs.length;by_cases E:p i=true;have A1:=aV (hx.ext E6) (k:=(i)) U;refine I ?_;refine jv A1 (I ?_);refine aa (l5 (f:=gf) (lb:=lb) (vs:=[.agg #[S ((ap xs i).1),S ((ap xs i).2)]]) hg Z Z (hf i _ hl_i E6) ?_);rintro _ _ O rfl;have O:=O.2;have E6:=xt E6 O;refine I ?_;exact am (t:=4) (v:=.int .i64 i) Z E6 (qb2 (Value.int .i64) (ym hl_i E hq)) Z;have E:p i=false:=by simpa using E
 have A2:=aV (hx.ext E6) (k:=(i)) U;refine I ?_;refine jv A2 (I ?_);refine aa (l5 (f:=gf) (lb:=lb) (vs:=[.agg #[S ((ap xs i).1),S ((ap xs i).2)]]) hg Z Z (hf i _ hl_i E6) ?_);rintro _ _ A0 rfl;have A0:=A0.2;have E6:=xt E6 A0;refine I ?_;refine gR (I ?_);exact bJ ⟨i+1,rfl,rfl,U,((qW hl_i E).symm.trans hq),E6⟩;refine I ?_;exact am (t:=4) (v:=.int .i64 (-1)) Z E6 (qb2 (Value.int .i64) (yn hl_i hq)) Z
def Kv {xs:List R}(hx:Rw w lo A (ag xs))(hg:Enters prog gf)(hf:∀i W,i<xs.length->aN w W->CL gf (.agg #[S (ap xs i).1,S (ap xs i).2]::lb).toArray W (aH W λv _=>v=.bool (p i)))(hn:xs.length<=1000000):
 CL 77 #[.slice A xs.length C,.func (.func gf) #[] lb.toArray] w (aH w λv w'=>v=.bool (decide (em p xs.length 0<xs.length))):=by
 refine aC func77 Z (I ?_);refine cl V2 (T8 (hx.ext (aa0 _)) hg (λi W hi hE=>hf i W hi (xt (aa0 _) hE)) hn) ?_;rintro _ _ E rfl;have E16:=E.2;refine I ?_;exact am (t:=4) (v:=.bool (decide (0<=(Dk p xs.length)))) Z E16 (qb2 Value.bool (E2 _ _)) Z
def T9 {L:Rows}(hM:Mt w lo A n H L)(hg:Enters prog gf)(hf:∀i W,i<n->aN w W->CL gf (hdr H L i::lb).toArray W (aH W λv _=>v=.bool (p i)))(hn:n<=1000000):
 CL 153 #[.slice A n C,.func (.func gf) #[] lb.toArray] w (aH w λv w'=>v=.int .i64 (Dk p n)):=by
 refine aC func153 Z (I ?_);have E17:=aa0 w;refine ck [(4,5),(8,18)] (λA2 e W=>∃i:Nat,(n-i=A2)/\(e 8=.int .i64 i)/\(i<=n)/\(em p (n-i) i=em p n 0)/\(aN w W)) (n-0) ⟨0,rfl,rfl,(qa7 _),rfl,E17⟩ ?_;rintro _ _ _ ⟨i,rfl,Af,hi_i,hq,E22⟩;by_cases hl_i:i<n;by_cases E:p i=true;have A1:=aa6 (hM.ext E22) (i:=(i)) U;refine I ?_;refine eI A1 (I ?_);refine aa (l5 (f:=gf) (lb:=lb) (vs:=[.slice (sA (H i)) ((L i).length) (sC (H i))]) hg Z Z (hf i _ hl_i E22) ?_);rintro _ _ A0 rfl;have A0:=A0.2;have E22:=xt E22 A0;refine I ?_;exact am (t:=4) (v:=.int .i64 i) Z E22 (qb2 (Value.int .i64) (ym hl_i E hq)) Z;have E:p i=false:=by simpa using E
 have Ab:=aa6 (hM.ext E22) (i:=(i)) U;refine I ?_;refine eI Ab (I ?_);refine aa (l5 (f:=gf) (lb:=lb) (vs:=[.slice (sA (H i)) ((L i).length) (sC (H i))]) hg Z Z (hf i _ hl_i E22) ?_);rintro _ _ O rfl;have O:=O.2;have E22:=xt E22 O;refine I ?_;refine gR (I ?_);exact bJ ⟨i+1,rfl,rfl,U,((qW hl_i E).symm.trans hq),E22⟩;refine I ?_;exact am (t:=4) (v:=.int .i64 (-1)) Z E22 (qb2 (Value.int .i64) (yn hl_i hq)) Z
def Ua {L:Rows}(hM:Mt w lo A n H L)(hg:Enters prog gf)(hf:∀i W,i<n->aN w W->CL gf (hdr H L i::lb).toArray W (aH W λv _=>v=.bool (p i)))(hn:n<=1000000):
 CL 110 #[.slice A n C,.func (.func gf) #[] lb.toArray] w (aH w λv w'=>v=.bool (decide (em p n 0<n))):=by
 refine aC func110 Z (I ?_);refine cl YX (T9 (hM.ext (aa0 _)) hg (λi W hi hE=>hf i W hi (xt (aa0 _) hE)) hn) ?_;rintro _ _ E rfl;have E32:=E.2;refine I ?_;exact am (t:=4) (v:=.bool (decide (0<=(Dk p n)))) Z E32 (qb2 Value.bool (E2 _ _)) Z
def Kw {L:Rows}(hM:Mt w lo A n H L)(hg:Enters prog gf)(hf:∀i W,i<n->aN w W->CL gf (hdr H L i::lb).toArray W (aH W λv _=>v=.bool (p i)))(hn:n<=1000000):
 CL 114 #[.slice A n C,.func (.func gf) #[] lb.toArray] w (aH w λv w'=>v=.int .i64 (Dk p n)):=by
 refine aC func114 Z (I ?_);have E33:=aa0 w;refine ck [(4,5),(8,18)] (λAb e W=>∃i:Nat,(n-i=Ab)/\(e 8=.int .i64 i)/\(i<=n)/\(em p (n-i) i=em p n 0)/\(aN w W)) (n-0) ⟨0,rfl,rfl,(qa7 _),rfl,E33⟩ ?_;rintro _ _ _ ⟨i,rfl,p37,hi_i,hq,E38⟩;by_cases hl_i:i<n;by_cases E:p i=true;have A2:=aa6 (hM.ext E38) (i:=(i)) U;refine I ?_;refine eI A2 (I ?_);refine aa (l5 (f:=gf) (lb:=lb) (vs:=[.slice (sA (H i)) ((L i).length) (sC (H i))]) hg Z Z (hf i _ hl_i E38) ?_);rintro _ _ O rfl;have O:=O.2;have E38:=xt E38 O;refine I ?_;exact am (t:=4) (v:=.int .i64 i) Z E38 (qb2 (Value.int .i64) (ym hl_i E hq)) Z;have E:p i=false:=by simpa using E
 have A1:=aa6 (hM.ext E38) (i:=(i)) U;refine I ?_;refine eI A1 (I ?_);refine aa (l5 (f:=gf) (lb:=lb) (vs:=[.slice (sA (H i)) ((L i).length) (sC (H i))]) hg Z Z (hf i _ hl_i E38) ?_);rintro _ _ A0 rfl;have A0:=A0.2;have E38:=xt E38 A0;refine I ?_;refine gR (I ?_);exact bJ ⟨i+1,rfl,rfl,U,((qW hl_i E).symm.trans hq),E38⟩;refine I ?_;exact am (t:=4) (v:=.int .i64 (-1)) Z E38 (qb2 (Value.int .i64) (yn hl_i hq)) Z
def fV :aN w w:=aa0 _
def Rb {a b:List R}(h:¬a.length=b.length):false=decide (a=b):=by rw[decide_eq_false (λe=>h (by rw[e]))]
def Kx {a b:List R}(h:¬ap a j=ap b j):false=decide (a=b):=by rw[decide_eq_false (GZ h)]
def Ky {a b:List R}(hl:a.length=b.length)(hi:¬i<a.length)(h:∀j,j<i->ap a j=ap b j):true=decide (a=b):=by
 rw[decide_eq_true (m7 hl λj _=>h j U)]
def Rc {L L':Rows}(h:¬n=n'):false=decide (kq n L n' L'):=by rw[decide_eq_false (λe:kq n L n' L'=>h e.1)]
def Kz {L L':Rows}(hi:i<n)(h:¬L i=L' i):false=decide (kq n L n' L'):=by rw[decide_eq_false (λe:kq n L n' L'=>h (e.2 i hi))]
def KA {L L':Rows}(hl:n=n')(hi:¬i<n)(h:∀j,j<i->L j=L' j):true=decide (kq n L n' L'):=by
 rw[decide_eq_true (show kq n L n' L' from⟨hl,λj _=>h j U⟩)]
def pO {P:Nat->Prop}(h:∀j,j<i->P j)(hi:P i):∀j,j<i+1->P j:=λj E=>by
 by_cases e:j=i
 · exact e▸hi
 · exact h j U
def KD (n:Nat)(L:Rows):Bool:=vM n L&&decide (n=(L 0).length)
def Ub {L:Rows}(h:vM n L=false):KD n L=false:=by unfold KD;rw[h];rfl
def Uc {L:Rows}(h:vM n L=true):KD n L=decide ((n:Int)=(((L 0).length:Nat):Int)):=by
 unfold KD;rw[h,Bool.true_and];exact decide_eq_decide.2 U
def OI (a:R)(w:World)(ht:Tb w):
 CL 154 #[.agg #[S ((a).1),S ((a).2)]] w (aH w λv w'=>v=.bool (!bN a)):=by
 refine aC func154 Z (I ?_);refine bx (λ_ E _=>?_);have E48:=E.2;refine I ?_;refine cl tj (eE _ _ _ (ht.ext E48)) ?_;rintro _ _ O rfl;have E48:=xt E48 O.2;refine I ?_;exact am (t:=2) (v:=.bool (!(bN a))) Z E48 Z Z
def Ud {xs:List R}(hx:Rw w lo A (ag xs))(ht:Tb w)(hn:xs.length<=1000000):
 CL 112 #[.slice A xs.length C] w (aH w λv w'=>v=.bool (xs.all bN)):=by
 refine aC func112 Z (I ?_);refine cl VV (Kv (lb:=[]) (p:=λk=>!bN (ap xs k)) (hx.ext fV) YY (λi W hi hE=>OI _ _ (ht.ext (xt fV hE))) hn) ?_;rintro _ _ E rfl;have E55:=E.2;refine I ?_;exact am (t:=2) (v:=.bool (!(decide (em (λk=>!bN (ap xs k)) (xs).length 0<(xs).length)))) Z E55 (qb2 Value.bool (E3 xs)) Z
def OJ {bb:Nat}{xs:List R}{L:Rows}(hx:Rw w lo A (ag xs))(hM:Mt w lo2 B n H L)(hbb:ar w bb 27 #[.slice B n D])(ht:Tb w)(h0:0<n)(hn:xs.length<=1000000):
 CL 111 #[.slice A xs.length C,pT bb] w (aH w λv w'=>v=.bool (!decide (xs.length=(L 0).length)|| !xs.all bN)):=by
 refine aC func111 Z (I ?_);by_cases h56:((xs.length:Nat):Int)=(((L 0).length:Nat):Int);have O:=aa6 (hM.ext fV) (i:=0) U;refine I ?_;refine eI O ?_ (i:=0);refine I ?_;refine cl YR (Ud (hx.ext fV) (ht.ext fV) hn) ?_;rintro _ _ E rfl;have E60:=E.2;refine I ?_;exact am (t:=3) (v:=.bool (!((xs).all bN))) Z E60 DA Z;have A0:=aa6 (hM.ext fV) (i:=0) U;refine I ?_;refine eI A0 ?_ (i:=0);refine I ?_;exact am (t:=3) (v:=.bool true) Z fV DA Z
def val_ok {L:Rows}(hM:Mt w lo A n H L)(hB:Bd n L)(ht:Tb w):
 CL 54 #[.slice A n C] w (aH w λv w'=>v=.bool (vM n L)):=by
 have A2:=hB.1;refine aC func54 Z (I ?_);refine bx (λ_ A0 A1=>?_);have E64:=A0.2;refine I ?_;by_cases h65:(n:Int)<1;refine I ?_;exact am (t:=2) (v:=.bool false) Z E64 (qb2 Value.bool (E8 U)) Z;by_cases h66:8<(n:Int);refine I ?_;exact am (t:=2) (v:=.bool false) Z E64 (qb2 Value.bool (E8 U)) Z;by_cases h67:(((L 0).length:Nat):Int)<1;have O:=aa6 (hM.ext E64) (i:=0) U;refine I ?_;refine eI O ?_ (i:=0);refine I ?_;exact am (t:=2) (v:=.bool false) Z E64 (qb2 Value.bool (E8 U)) Z;have Ab:=aa6 (hM.ext E64) (i:=0) U;refine I ?_;refine eI Ab ?_ (i:=0);have E:=aa6 (hM.ext E64) (i:=0) U;refine I ?_;refine eI E ?_ (i:=0);refine I ?_;by_cases h68:8<(((L 0).length:Nat):Int);refine I ?_;exact am (t:=2) (v:=.bool false) Z E64 (qb2 Value.bool (E8 U)) Z;refine I ?_;refine aa (aE (vf:=[]) (vc:=[pT w.heap.size]) Z Z ?_);refine clb YP (hc:=Ua (lb:=[pT w.heap.size]) (p:=(λi=>!decide ((L i).length=(L 0).length)|| !(L i).all bN)) (hM.ext E64) YQ (λi W hi hE=>OJ (((hM.ext E64).ext hE).row i hi) ((hM.ext E64).ext hE) (A1.ext hE) (ht.ext (xt E64 hE)) U (hB.row hi).1) A2) (hk:=?_);rintro _ _ Af rfl;have E64:=xt E64 Af.2;refine I ?_
 exact am (t:=2) (v:=.bool (!(decide (em (λi=>!decide ((L i).length=(L 0).length)|| !(L i).all bN) n 0<n)))) Z E64 (qb2 Value.bool (T7 U U U U)) Z
def KE {L:Rows}(hM:Mt w lo A n H L)(hB:Bd n L)(ht:Tb w):
 CL 65 #[.slice A n C] w (aH w λv w'=>v=.bool (KD n L)):=by
 refine aC func65 Z (I ?_);rcases qa4 (vM n L)with h76|h76;have hv:=jc h76;have A1:=hv.1;refine I ?_;refine cl tg (val_ok (hM.ext fV) hB (ht.ext fV)) ?_;rintro _ _ E rfl;have E80:=E.2;have O:=aa6 (hM.ext E80) (i:=0) U;refine I ?_;refine eI O ?_ (i:=0);refine I ?_;exact am (t:=2) (v:=.bool (decide ((n:Int)=(((L 0).length:Nat):Int)))) Z E80 (by rw[Uc BT]) Z;refine I ?_;refine cl tg (val_ok (hM.ext fV) hB (ht.ext fV)) ?_;rintro _ _ A0 rfl;have E84:=A0.2;refine I ?_;exact am (t:=2) (v:=.bool false) Z E84 (by rw[Ub BT]) Z
def yo {xs ys:List R}(hx:Rw w lo A (ag xs))(hy:Rw w lo2 B (ag ys))(hn:xs.length<=1000000):
 CL 16 #[.slice A xs.length C,.slice B ys.length D] w (aH w λv w'=>v=.bool (decide (xs=ys))):=by
 refine aC func16 Z (I ?_);by_cases h85:((xs.length:Nat):Int)=((ys.length:Nat):Int);refine I ?_;have Ab:xs.length=ys.length:=J
 have E86:=aa0 w;refine ck [(4,5),(11,25)] (λA2 e W=>∃i:Nat,(xs.length-i=A2)/\(e 5=.int .i64 i)/\(i<=xs.length)/\(∀j,j<i->ap xs j=ap ys j)/\(aN w W)) (xs.length-0) ⟨0,rfl,rfl,(qa7 _),(λj _=>by omega),E86⟩ ?_;rintro _ _ _ ⟨i,rfl,Ax,hi_i,E,E91⟩;by_cases hl_i:i<xs.length;by_cases hp:ap xs i=ap ys i;refine I ?_;refine bP 8 ?_;refine sf ?_;refine aB (λ_ _ Aq _=>by have O:=aV (hx.ext (xt E91 Aq)) (k:=(i)) U;refine I ?_;refine jv O ?_;refine I ?_;exact aK) ?_;refine aB (λ_ _ Ar _=>by have Ay:=aV (hx.ext (xt E91 Ar)) (k:=(i)) U;refine I ?_;exact aK) ?_;refine sf ?_;refine aB (λ_ _ As _=>by have Aw:=aV (hy.ext (xt E91 As)) (k:=(i)) U;refine I ?_;refine jv Aw ?_;refine I ?_;exact aK) ?_;refine aB (λ_ _ A0 _=>by have zq10q:=aV (hy.ext (xt E91 A0)) (k:=(i)) U;refine I ?_;exact aK) ?_;refine sf ?_;intro _ _ Av _;have E91:=xt E91 Av.2;refine aa (qU (a:=ap xs i) (b:=ap ys i) (q:=!decide ((ap xs i)=(ap ys i))) Z Z Z ?_);refine I ?_;refine gR (I ?_);exact bJ ⟨i+1,rfl,rfl,U,(pO E hp),E91⟩;refine I ?_;refine bP 8 ?_;refine sf ?_;refine aB (λ_ _ Ao _=>by have zq11q:=aV (hx.ext (xt E91 Ao)) (k:=(i)) U;refine I ?_;refine jv zq11q ?_;refine I ?_;exact aK) ?_
 refine aB (λ_ _ A1 _=>by have zq12q:=aV (hx.ext (xt E91 A1)) (k:=(i)) U;refine I ?_;exact aK) ?_;refine sf ?_;refine aB (λ_ _ Af _=>by have zq13q:=aV (hy.ext (xt E91 Af)) (k:=(i)) U;refine I ?_;refine jv zq13q ?_;refine I ?_;exact aK) ?_;refine aB (λ_ _ Ap _=>by have zq14q:=aV (hy.ext (xt E91 Ap)) (k:=(i)) U;refine I ?_;exact aK) ?_;refine sf ?_;intro _ _ Am _;have E91:=xt E91 Am.2;refine aa (qU (a:=ap xs i) (b:=ap ys i) (q:=!decide ((ap xs i)=(ap ys i))) Z Z Z ?_);refine I ?_;exact am (t:=4) (v:=.bool false) Z E91 (congrArg Value.bool (Kx hp)) Z;refine I ?_;exact am (t:=4) (v:=.bool true) Z E91 (congrArg Value.bool (Ky Ab hl_i E)) Z;refine I ?_;exact am (t:=4) (v:=.bool false) Z fV (congrArg Value.bool (Rb U)) Z
def seq_ok {xs ys:List R}(hx:Rw w lo A (ag xs))(hy:Rw w lo2 B (ag ys))(hn:xs.length<=1000000):
 CL 132 #[.slice A xs.length C,.slice B ys.length D] w (aH w λv w'=>v=.bool (decide (xs=ys))):=by
 refine aC func132 Z (I ?_);by_cases cr:((xs.length:Nat):Int)=((ys.length:Nat):Int);refine I ?_;have Am:xs.length=ys.length:=J
 have A1:=aa0 w;refine ck [(4,5),(13,25)] (λAf e W=>∃i:Nat,(xs.length-i=Af)/\(e 13=.int .i64 i)/\(i<=xs.length)/\(∀j,j<i->ap xs j=ap ys j)/\(aN w W)) (xs.length-0) ⟨0,rfl,rfl,(qa7 _),(λj _=>by omega),A1⟩ ?_;rintro _ _ _ ⟨i,rfl,Ax,hi_i,O,E⟩;by_cases hl_i:i<xs.length;by_cases hp:ap xs i=ap ys i;refine I ?_;refine bP 8 ?_;refine sf ?_;refine aB (λ_ _ Av _=>by have zq15q:=aV (hx.ext (xt E Av)) (k:=(i)) U;refine I ?_;refine jv zq15q ?_;refine I ?_;exact aK) ?_;refine aB (λ_ _ Ar _=>by have zq16q:=aV (hx.ext (xt E Ar)) (k:=(i)) U;refine I ?_;exact aK) ?_;refine sf ?_;refine aB (λ_ _ Ab _=>by have zq17q:=aV (hy.ext (xt E Ab)) (k:=(i)) U;refine I ?_;refine jv zq17q ?_;refine I ?_;exact aK) ?_;refine aB (λ_ _ Ao _=>by have zq18q:=aV (hy.ext (xt E Ao)) (k:=(i)) U;refine I ?_;exact aK) ?_;refine sf ?_;intro _ _ As _;have E:=xt E As.2;refine aa (qU (a:=ap xs i) (b:=ap ys i) (q:=!decide ((ap xs i)=(ap ys i))) Z Z Z ?_);refine I ?_;refine gR (I ?_);exact bJ ⟨i+1,rfl,rfl,U,(pO O hp),E⟩;refine I ?_;refine bP 8 ?_;refine sf ?_;refine aB (λ_ _ Ap _=>by have zq19q:=aV (hx.ext (xt E Ap)) (k:=(i)) U;refine I ?_;refine jv zq19q ?_;refine I ?_;exact aK) ?_
 refine aB (λ_ _ A0 _=>by have zq20q:=aV (hx.ext (xt E A0)) (k:=(i)) U;refine I ?_;exact aK) ?_;refine sf ?_;refine aB (λ_ _ Aw _=>by have zq21q:=aV (hy.ext (xt E Aw)) (k:=(i)) U;refine I ?_;refine jv zq21q ?_;refine I ?_;exact aK) ?_;refine aB (λ_ _ Aq _=>by have zq22q:=aV (hy.ext (xt E Aq)) (k:=(i)) U;refine I ?_;exact aK) ?_;refine sf ?_;intro _ _ A2 _;have E:=xt E A2.2;refine aa (qU (a:=ap xs i) (b:=ap ys i) (q:=!decide ((ap xs i)=(ap ys i))) Z Z Z ?_);refine I ?_;exact am (t:=4) (v:=.bool false) Z E (congrArg Value.bool (Kx hp)) Z;refine I ?_;exact am (t:=4) (v:=.bool true) Z E (congrArg Value.bool (Ky Am hl_i O)) Z;refine I ?_;exact am (t:=4) (v:=.bool false) Z fV (congrArg Value.bool (Rb U)) Z
def Fc {xs ys:List R}(hx:Rw w lo A (ag xs))(hy:Rw w lo2 B (ag ys))(hn:xs.length<=1000000):
 CL 131 #[.slice A xs.length C,.slice B ys.length D] w (aH w λv w'=>v=.bool (decide (xs=ys))):=by
 refine aC func131 Z (I ?_);refine cl YO (seq_ok (hx.ext fV) (hy.ext fV) hn) ?_;rintro _ _ E rfl;have O:=E.2;refine I ?_;exact am (t:=4) (v:=.bool (decide (xs=ys))) Z O Z Z
def OK {m:Nat}{L K:Rows}(hM:Mt w lo A n H L)(hN:Mt w lo2 B m G K)(hB:Bd n L):
 CL 17 #[.slice A n C,.slice B m D] w (aH w λv w'=>v=.bool (decide (kq n L m K))):=by
 have Ay:=hB.1;refine aC func17 Z (I ?_);by_cases cr:(n:Int)=(m:Int);refine I ?_;have Af:n=m:=J
 have A1:=aa0 w;refine ck [(4,6),(12,28)] (λAm e W=>∃i:Nat,(n-i=Am)/\(e 5=.int .i64 i)/\(i<=n)/\(∀j,j<i->L j=K j)/\(aN w W)) (n-0) ⟨0,rfl,rfl,(qa7 _),(λj _=>by omega),A1⟩ ?_;rintro _ _ _ ⟨i,rfl,Az,hi_i,O,E⟩;by_cases hl_i:i<n;by_cases hp:L i=K i;refine I ?_;refine bP 8 ?_;refine sf ?_;refine aB (λ_ _ Ax _=>by have zq23q:=aa6 (hM.ext (xt E Ax)) (i:=(i)) U;refine I ?_;refine eI zq23q ?_;refine I ?_;exact aK) ?_;refine aB (λ_ _ Ar _=>by have zq24q:=aa6 (hM.ext (xt E Ar)) (i:=(i)) U;refine I ?_;exact aK) ?_;refine sf ?_;refine aB (λ_ _ A2 _=>by have zq25q:=aa6 (hN.ext (xt E A2)) (i:=(i)) U;refine I ?_;refine eI zq25q ?_;refine I ?_;exact aK) ?_;refine aB (λ_ _ Ao _=>by have zq26q:=aa6 (hN.ext (xt E Ao)) (i:=(i)) U;refine I ?_;exact aK) ?_;refine sf ?_;intro _ _ As _;have E:=xt E As.2;refine clb Nh (hc:=yo (Mt.row (hM.ext E) i U) (Mt.row (hN.ext E) i U) (hB.row hl_i).1) (hk:=?_);rintro _ _ Ap rfl;have E:=xt E Ap.2;refine I ?_;refine gR (I ?_);exact bJ ⟨i+1,rfl,rfl,U,(pO O hp),E⟩;refine I ?_;refine bP 8 ?_;refine sf ?_;refine aB (λ_ _ A0 _=>by have zq27q:=aa6 (hM.ext (xt E A0)) (i:=(i)) U;refine I ?_;refine eI zq27q ?_;refine I ?_;exact aK) ?_
 refine aB (λ_ _ Aw _=>by have zq28q:=aa6 (hM.ext (xt E Aw)) (i:=(i)) U;refine I ?_;exact aK) ?_;refine sf ?_;refine aB (λ_ _ Aq _=>by have zq29q:=aa6 (hN.ext (xt E Aq)) (i:=(i)) U;refine I ?_;refine eI zq29q ?_;refine I ?_;exact aK) ?_;refine aB (λ_ _ Ab _=>by have zq30q:=aa6 (hN.ext (xt E Ab)) (i:=(i)) U;refine I ?_;exact aK) ?_;refine sf ?_;intro _ _ Av _;have E:=xt E Av.2;refine clb Nh (hc:=yo (Mt.row (hM.ext E) i U) (Mt.row (hN.ext E) i U) (hB.row hl_i).1) (hk:=?_);rintro _ _ nm rfl;have E:=xt E nm.2;refine I ?_;exact am (t:=4) (v:=.bool false) Z E (qb2 Value.bool (Kz hl_i hp)) Z;refine I ?_;exact am (t:=4) (v:=.bool true) Z E (qb2 Value.bool (KA Af hl_i O)) Z;refine I ?_;exact am (t:=4) (v:=.bool false) Z fV (qb2 Value.bool (Rc U)) Z
def Ue {m:Nat}{L K:Rows}(hM:Mt w lo A n H L)(hN:Mt w lo2 B m G K)(hB:Bd n L):
 CL 130 #[.slice A n C,.slice B m D,.func (.func 131) #[] #[]] w (aH w λv w'=>v=.bool (decide (kq n L m K))):=by
 have Am:=hB.1;refine aC func130 Z (I ?_);by_cases cr:(n:Int)=(m:Int);refine I ?_;have A1:n=m:=J
 have A0:=aa0 w;refine ck [(6,9),(17,31)] (λA2 e W=>∃i:Nat,(n-i=A2)/\(e 17=.int .i64 i)/\(i<=n)/\(∀j,j<i->L j=K j)/\(aN w W)) (n-0) ⟨0,rfl,rfl,(qa7 _),(λj _=>by omega),A0⟩ ?_;rintro _ _ _ ⟨i,rfl,Ao,hi_i,O,E⟩;by_cases hl_i:i<n;by_cases hp:L i=K i;have zq31q:=aa6 (hM.ext E) (i:=(i)) U;refine I ?_;refine eI zq31q ?_;have zq32q:=aa6 (hN.ext E) (i:=(i)) U;refine I ?_;refine eI zq32q (I ?_);refine aa (l5 (vs:=[.slice (sA (H i)) ((L i).length) (sC (H i)),.slice (sA (G i)) ((K i).length) (sC (G i))]) (lb:=[]) VG Z Z (Fc (Mt.row (hM.ext E) i U) (Mt.row (hN.ext E) i U) (hB.row hl_i).1) ?_);rintro _ _ Af rfl;have E:=xt E Af.2;refine I ?_;refine gR (I ?_);exact bJ ⟨i+1,rfl,rfl,U,(pO O hp),E⟩;have zq33q:=aa6 (hM.ext E) (i:=(i)) U;refine I ?_;refine eI zq33q ?_;have zq34q:=aa6 (hN.ext E) (i:=(i)) U;refine I ?_;refine eI zq34q (I ?_);refine aa (l5 (vs:=[.slice (sA (H i)) ((L i).length) (sC (H i)),.slice (sA (G i)) ((K i).length) (sC (G i))]) (lb:=[]) VG Z Z (Fc (Mt.row (hM.ext E) i U) (Mt.row (hN.ext E) i U) (hB.row hl_i).1) ?_);rintro _ _ Ab rfl;have E:=xt E Ab.2;refine I ?_;exact am (t:=6) (v:=.bool false) Z E (qb2 Value.bool (Kz hl_i hp)) Z;refine I ?_
 exact am (t:=6) (v:=.bool true) Z E (qb2 Value.bool (KA A1 hl_i O)) Z;refine I ?_;exact am (t:=6) (v:=.bool false) Z fV (qb2 Value.bool (Rc U)) Z
end
section
open Go.Eng Tryz
section
variable {W':World}{hi b:Nat}{L:Rows}{cs:List Value}{row:Option Nat}
def Uf (k:dP W W' b)(hne:∀ad,A=some ad->ad.block≠b)(h:Rw W lo A cs):Rw W' lo A cs:=
 ⟨λj u hu=>by
  obtain⟨c,o,hA,hc⟩:=h.cells j u hu
  exact⟨c,o,hA,(k.cell (a:=⟨c,o+j,none⟩) (hne ⟨c,o,none⟩ hA)).trans hc⟩,h.lo,λad hA=>by rw[k.size];exact h.hi ad hA⟩
structure pP (W:World)(lo hi:Nat)(A:Option Addr)(cs:List Value):Prop where
 rw:Rw W lo A cs
 u:∀ad,A=some ad->ad.block<hi
def pP.of (h:Rw W lo A cs):pP W lo W.heap.size A cs:=⟨h,h.hi⟩
def ab9:=@pP.of
def pP.ext (k:aN W W')(h:pP W lo hi A cs):pP W' lo hi A cs:=⟨h.rw.ext k,h.u⟩
def ab3:=@pP.ext
def pP.put (k:dP W W' b)(hb:b<lo\/hi<=b)(h:pP W lo hi A cs):pP W' lo hi A cs:=
 ⟨Uf k (λad e=>by have h1:=h.rw.lo ad e;have h2:=h.u ad e;omega) h.rw,h.u⟩
def ac1:=@pP.put
def pP.gr (k:W.grownBy W' row)(hb:∀g,row=some g->g<lo\/hi<=g)(h:pP W lo hi A cs):pP W' lo hi A cs:=
 ⟨h.rw.gr k λad e e2=>by have h1:=h.rw.lo ad e;have h2:=h.u ad e;have h3:=hb _ e2.symm;omega,h.u⟩
structure oG (W:World)(lo hi:Nat)(A:Option Addr)(n:Nat)(H:Nat->Value)(L:Rows):Prop where
 mt:Mt W lo A n H L
 o:∀ad,A=some ad->ad.block<hi
 r:∀i,i<n->∀ad,sA (H i)=some ad->ad.block<hi
def oG.of (h:Mt W lo A n H L):oG W lo W.heap.size A n H L:=⟨h,h.out.hi,λi hi=>(h.row i hi).hi⟩
def ab6:=@oG.of
def oG.ext (k:aN W W')(h:oG W lo hi A n H L):oG W' lo hi A n H L:=⟨h.mt.ext k,h.o,h.r⟩
def aa7:=@oG.ext
def oG.put (k:dP W W' b)(hb:b<lo\/hi<=b)(h:oG W lo hi A n H L):oG W' lo hi A n H L:=
 ⟨⟨(ac1 k hb ⟨h.mt.out,h.o⟩).rw,h.mt.hdr,λi E=>(ac1 k hb ⟨h.mt.row i E,h.r i E⟩).rw,h.mt.cap⟩,h.o,h.r⟩
def ad0:=@oG.put
def oG.gr (k:W.grownBy W' row)(hb:∀g,row=some g->g<lo\/hi<=g)(h:oG W lo hi A n H L):oG W' lo hi A n H L:=
 ⟨⟨(pP.gr k hb ⟨h.mt.out,h.o⟩).rw,h.mt.hdr,λi E=>(pP.gr k hb ⟨h.mt.row i E,h.r i E⟩).rw,h.mt.cap⟩,h.o,h.r⟩
def oG.congr {L':Rows}(h:oG W lo hi A n H L)(hL:∀i,i<n->L i=L' i):oG W lo hi A n H L':=⟨h.mt.congr hL,h.o,h.r⟩
def vR.get {s:El}{last:Value}(h:vR lo n W s last v):∃A C H P cp Q cq,v=.agg #[.slice A n C,.slice P s.piv.length cp,.slice Q s.cols.length cq,last]/\n<=C/\Mt W lo A n H s.L/\Rw W lo P (ag s.piv)/\Rw W lo Q (ints s.cols):=by
 obtain⟨A,C,H,E,vc,rfl,A2,hM,⟨A0,O⟩,⟨hc,A1⟩⟩:=h
 exact⟨A,C,H,sA E,sC E,sA vc,sC vc,by rw[<-A0,<-hc],A2,hM,O,A1⟩
def pQ {l:List Nat}(h:Rw W lo A (ints l))(hi:i<l.length):A=some ⟨aO A,cL A,none⟩/\W.cell? ⟨aO A,cL A+i,none⟩=some (.int .i64 ((l.getD i 0:Nat):Int)):=
 JU h (by simp[ints,List.getD,hi])
def nk (l:List Int):List Value:=l.map (Value.int .i64)
def Fe {l:List Int}(h:Rw W lo A (nk l))(hi:i<l.length):A=some ⟨aO A,cL A,none⟩/\W.cell? ⟨aO A,cL A+i,none⟩=some (.int .i64 (l.getD i 0)):=
 JU h (by simp[nk,List.getD,hi])
def getD_lt {l:List Nat}{m:Nat}(h:∀x∈l,x<m)(hi:i<l.length):l.getD i 0<m:=by
 have:l.getD i 0=l[i]:=by simp[List.getD,hi]
 rw[this];exact h _ (List.getElem_mem hi)
end
section
variable {r:Option Nat}{ds:List Deferred}{Q:Exit->Act->World->Prop}{K:Act->World->Prop}
variable {ty:Nat}{pos:String}{af:Array Edge}{g:Option (Nat×Bool)}{u:Value}{x y:Operand}
def KF {l:List R}{q:R}(h:w.ownsRow base 33 2 v l.length (ag l))(hk:k<l.length)(hs:(prog.info? t).map (·.size)=some 2)(hx:ev N e x=.pointer (some ⟨aO (sA v),cL (sA v)+k*2,none⟩))(hy:ev N e y=.agg #[S q.1,S q.2])(hK:∀w',dP w w' (aO (sA v))->base<=aO (sA v)->v.ownBlock=some (aO (sA v))->w'.ownsRow base 33 2 v (l.set k q).length (ag (l.set k q))->K (act N e ds) w'):
 Oper.wpIn (Fw r) n prog ⟨none,.store t x y,ty,pos,af,g⟩ (act N e ds) w K Q:=by
 obtain⟨O,hB,A1,Ab,E,A2⟩:=px (q:=q) h Z hk
 rw[A1,Nat.zero_add]at hx
 exact bo (vs:=[S q.1,S q.2]) (cs:=O) hs hx hy (by simp[S,Value.oneCell']) hB Ab (λw' A0 hB'=>hK w' A0 (aR h _ E) E (A2 w' hB'))
end
def jX (n:Nat)(L:Rows):Rows:=λi=>L i++uR i n
def jY {a b:List R}(h:k<a.length):ap (a++b) k=ap a k:=by unfold ap;simp[List.getD,List.getElem?_append_left h]
def kW {a b:List R}(h:¬k<a.length):ap (a++b) k=ap b (k-a.length):=by unfold ap;simp[List.getD,List.getElem?_append_right (Nat.le_of_not_lt h)]
def Xk (h:j<k):bN (ap (uR i k) j)=true:=by
 rw[eu (by rw[mK];exact h)]
 simp only[uR,List.getElem_map,List.getElem_range]
 split
 · exact Yx
 · exact Vj
def m8 {L:Rows}(h:VM n L):gk n ((L 0).length+n) (jX n L):=λi hi=>by
 have h1:=h.ok i hi
 refine⟨by unfold jX;simp[h1.1,mK],λk hk=>?_⟩
 unfold jX
 by_cases hk2:k<(L i).length
 · rw[jY hk2];exact h1.2 k U
 · rw[kW hk2];exact Xk U
def zs (m:Nat):List R:=List.replicate m z0
def yp (n:Nat)(s:El):Option Rows:=if s.piv.length<n then none else some λi=>(s.L i).drop n
def eY (n:Nat)(L:Rows):Option Rows:=if vF n L=true then(elim n (n+n) n (jX n L)).bind (yp n)else none
def Xl (lo:Nat)(w:World):Option (List R×Bool)->Value->Prop
 |none,v=>v=.tuple #[.slice none 0 0,.bool false,.int .i64 130]
 |some (x,only),v=>∃P cp,v=.tuple #[.slice P x.length cp,.bool only,.int .i64 0]/\Rw w lo P (ag x)
def nl (L:Rows):Nat->Nat->Option Bool
 |0,_=>some true
 | f+1,k=>match kU (k+1) (λi=>(L i).take (k+1))with
   |none=>none
   |some d=>if qN (ai d.1)<=0 then some false else nl L f (k+1)
def pR (n:Nat)(L:Rows):Option Bool:=if vF n L=true then if M7 n L then nl L n 0 else some false else none
section
variable {P:Program}{r:Option Nat}{ds:List Deferred}{Q:Exit->Act->World->Prop}{K:Act->World->Prop}
variable {d ty:Nat}{pos:String}{af:Array Edge}{g:Option (Nat×Bool)}{u:Value}{x y:Operand}{t':TypeId}
def Re {m:Nat}{D:TypeId}(hu:P.underlying t=some (.slice D))(hx:ev N e x=.slice A m c)(hk:K (act N (upd e d (.int .i64 c)) ds) w):
 Oper.wpIn (Fw r) n P ⟨some d,.call {callee:=.builtin .cap,args:=#[x],argTypes:=#[t]},ty,pos,af,g⟩ (act N e ds) w K Q:=by
 refine cW (v:=.int .i64 c) (w':=w) Z ?_ Hx
 simp[execOp,resolve,invoke,builtin,Builtin.cap_,run_underlying hu,hx,goInt]
def G7:∀m:Nat,m<17->(binOp .and t (.int .u64 (m:Int)) (.int .u64 4294967295)).run P w=.ok (.int .u64 (m:Int)) w:=by
 intro m _
 have:m=0\/m=1\/m=2\/m=3\/m=4\/m=5\/m=6\/m=7\/m=8\/m=9\/m=10\/m=11\/m=12\/m=13\/m=14\/m=15\/m=16:=J
 rcases this with rfl|rfl|rfl|rfl|rfl|rfl|rfl|rfl|rfl|rfl|rfl|rfl|rfl|rfl|rfl|rfl|rfl <;>rfl
def G8:∀m:Nat,m<17->(binOp .shr t (.int .u64 (m:Int)) (.int .u64 32)).run P w=.ok (.int .u64 0) w:=by
 intro m _
 have:m=0\/m=1\/m=2\/m=3\/m=4\/m=5\/m=6\/m=7\/m=8\/m=9\/m=10\/m=11\/m=12\/m=13\/m=14\/m=15\/m=16:=J
 rcases this with rfl|rfl|rfl|rfl|rfl|rfl|rfl|rfl|rfl|rfl|rfl|rfl|rfl|rfl|rfl|rfl|rfl <;>rfl
def KG {m:Nat}(hx:ev N e x=.int .u64 (m:Int))(hy:ev N e y=.int .u64 4294967295)(hm:m<17)(hk:K (act N (upd e d (.int .u64 (m:Int))) ds) w):
 Oper.wpIn (Fw r) n P ⟨some d,.binOp .and t x y t',ty,pos,af,g⟩ (act N e ds) w K Q:=dQ hx hy (ca ..) (G7 m hm) hk
def pS {m:Nat}(hx:ev N e x=.int .u64 (m:Int))(hy:ev N e y=.int .u64 32)(hm:m<17)(hk:K (act N (upd e d (.int .u64 0)) ds) w):
 Oper.wpIn (Fw r) n P ⟨some d,.binOp .shr t x y t',ty,pos,af,g⟩ (act N e ds) w K Q:=dQ hx hy (ca ..) (G8 m hm) hk
def uF {a b c:Int}(hx:ev N e x=.int .u64 a)(hy:ev N e y=.int .u64 b)(hc:a*b=c)(hr:0<=c/\c<=18446744073709551615)(hk:K (act N (upd e d (.int .u64 c)) ds) w):
 Oper.wpIn (Fw r) n P ⟨some d,.binOp .mul t x y t',ty,pos,af,g⟩ (act N e ds) w K Q:=
 dQ hx hy (ca ..) (by subst hc;simp[binOp,Op.intArith,wrap_u64 hr]) hk
def yq {a b c:Int}(hx:ev N e x=.int .u64 a)(hy:ev N e y=.int .u64 b)(hc:a+b=c)(hr:0<=c/\c<=18446744073709551615)(hk:K (act N (upd e d (.int .u64 c)) ds) w):
 Oper.wpIn (Fw r) n P ⟨some d,.binOp .add t x y t',ty,pos,af,g⟩ (act N e ds) w K Q:=
 dQ hx hy (ca ..) (by subst hc;simp[binOp,Op.intArith,wrap_u64 hr]) hk
end
section
variable {r:Option Nat}{ds:List Deferred}{Q:Exit->Act->World->Prop}{K:Act->World->Prop}
variable {d ty:Nat}{pos:String}{af:Array Edge}{g:Option (Nat×Bool)}{u:Value}{x y:Operand}{t':TypeId}
def KH {cs:List Value}(h:W.ownsRow base et sz (.slice A k c) k cs):W.ownsRow base et sz (.slice A 0 c) 0 []:=by
 obtain⟨hl,⟨h1,rfl⟩|⟨g,cap,O,h1,E,A0,hc,hm,hs,ht⟩⟩:=h
 · cases h1;exact bO
 · cases h1;exact⟨by simp,.inr ⟨g,_,O,rfl,E,A0,Nat.zero_le _,hm,hs,by simp⟩⟩
def OL {c0:Nat}(hx:ev N e x=.slice none 0 c0)(hc0:c0=0)(hy:ev N e y=.int .i64 (k:Int))(h0:0<k)(hk1:k<=1000)(hk:∀w' c,aN w w'->w'.ownsRow w.heap.size 33 2 (.slice (some ⟨w.heap.size,0,none⟩) 0 c) 0 []->K (act N (upd e d (.slice (some ⟨w.heap.size,0,none⟩) k c)) ds) w'):
 Oper.wpIn (Fw r) n prog ⟨some d,.call {callee:=.builtin .append,args:=#[x,y],argTypes:=#[28,3]},ty,pos,af,g⟩ (act N e ds) w K Q:=by
 subst hc0
 obtain⟨i,A0,A2,Ab,O⟩:=aZ.parts
 have hold:(Builtin.firstCells i.size 0 (.slice none 0 0)).run prog w.drew=.ok ([]:List Value).toArray w.drew:=by simp[Builtin.firstCells]
 have E:=Lib.run_append_grow_zeros (P:=prog) w 28 3 ty 33 i (.agg #[S [],S []]) .i64 .i64 underlying28 underlying3 A0 A2 none 0 0 [] hold k h0 (by rw[Ab];decide) U U (by rw[O];omega)
  (by rw[O];unfold Builtin.nextslicecap;rw[if_pos U];omega)
 simp only[Nat.zero_add]at E
 have A1:=grownCap_ge w k 0 33
 have Af:=grownCap_le_maxLen w k 0 33 Rd
 refine cW (v:=.slice (some ⟨w.heap.size,0,none⟩) k (grownCap w k 0 33)) Z ?_ (by
  rw[ax]
  refine hk _ _ (aN.trans (ac3 w) (ae1 _ _)) (KH (k:=k) (cs:=((([]:List Value).toArray++Builtin.zeroCells (Value.agg #[S [],S []]).cells k++Builtin.zeroCells (Value.agg #[S [],S []]).cells (grownCap w k 0 33-k)).toList.take (k*2))) ⟨?_,.inr ⟨w.heap.size,grownCap w k 0 33,_,rfl,qa0 _,heap_alloc_new w.drew _,A1,Af,?_,rfl⟩⟩)
  · simp[Builtin.zeroCells,Value.cells];done
  · simp[Builtin.zeroCells,Value.cells];omega)
 simp[execOp,resolve,invoke,builtin,hx,hy,E]
def Dq {g:Nat}{cs:Array Value}:dP w (w.setRow g cs) g:=
 ⟨rfl,rfl,rfl,by simp,λk hk=>by simp only[World.setRow];rw[Array.getElem?_modify,if_neg (Ne.symm hk)]⟩
def vT (l m:List R)(o:Nat):(ag l).take (o*2)++ag m++(ag l).drop (o*2+(ag m).length)=ag (l.take o++m++l.drop (o+m.length)):=by
 rw[jd,fU,show o*2+m.length*2=(o+m.length)*2 by omega,mJ]
 simp[ag]
def Ff {o dL dC sL sC':Nat}{l src:List R}(h:w.ownsRow base 33 2 v l.length (ag l))(hA:A=some ⟨aO (sA v),o*2,none⟩)(hx:ev N e x=.slice A dL dC)(hol:o+dL=l.length)(hd:0<dL)(hy:ev N e y=.slice B sL sC')(hB:Rw w lo B (ag src))(hsl:src.length=sL)(hs:0<sL)(hK:∀w',dP w w' (aO (sA v))->base<=aO (sA v)->v.ownBlock=some (aO (sA v))->w'.ownsRow base 33 2 v (l.take o++src.take (Nat.min sL dL)++l.drop (o+Nat.min sL dL)).length (ag (l.take o++src.take (Nat.min sL dL)++l.drop (o+Nat.min sL dL)))->
 K (act N (upd e d (.int .i64 ((Nat.min sL dL:Nat):Int))) ds) w'):
 Oper.wpIn (Fw r) n prog ⟨some d,.call {callee:=.builtin .copy,args:=#[x,y],argTypes:=#[28,28]},ty,pos,af,g⟩ (act N e ds) w K Q:=by
 subst hA
 obtain⟨i,As,_,Ax,_⟩:=aZ.parts
 obtain⟨hl,⟨rfl,B1⟩|⟨A1,cap,E,rfl,Ap,Am,hc,hm,Av,ht⟩⟩:=h
 · omega
 · have Az:Nat.min sL dL<=sL/\Nat.min sL dL<=dL:=⟨Nat.min_le_left _ _,Nat.min_le_right _ _⟩
   have A2:(src.take (Nat.min sL dL)).length=Nat.min sL dL:=by rw[List.length_take];omega
   have B0:0<Nat.min sL dL:=by show 0<min sL dL;omega
   obtain⟨b,O,rfl,hcell⟩:∃b O,B=some ⟨b,O,none⟩/\∀j u,(ag (src.take (Nat.min sL dL)))[j]?=some u->w.cell? ((⟨b,O,none⟩:Addr).add j)=some u:=by
    have hB2:=Rw.take (Nat.min sL dL*2) hB
    rw[jd]at hB2
    have Aw:0<(ag (src.take (Nat.min sL dL))).length:=by rw[fU,A2];omega
    obtain⟨b,O,rfl,_⟩:=hB2.cells 0 _ (qa5 Aw)
    exact⟨b,O,rfl,λj u hu=>by obtain⟨_,_,e',Ay⟩:=hB2.cells j u hu;cases e';rw[Addr.add_mid];exact Ay⟩
   have A0:(ag (src.take (Nat.min sL dL))).length=Nat.min sL dL*2:=by rw[fU,A2]
   have Aq:=run_loadCells_list (P:=prog) w ⟨b,O,none⟩ (ag (src.take (Nat.min sL dL))) hcell
   have Ab:=run_storeCells_at prog A1 (o*2) 33 (ag (src.take (Nat.min sL dL))) 0 E w Am (by rw[A0];simp only[Nat.add_zero];omega) ol
   rw[A0]at Aq Ab
   simp only[Nat.add_zero]at Ab
   have Af:(l.take o++src.take (Nat.min sL dL)++l.drop (o+Nat.min sL dL)).length=l.length:=by simp only[List.length_append,A2,List.length_take,List.length_drop];omega
   have hX:E.toList.length=cap*2:=by rw[Array.length_toList,Av]
   have Ar:(E.toList.take (o*2)++ag (src.take (Nat.min sL dL))++E.toList.drop (o*2+Nat.min sL dL*2)).take (l.length*2)=ag (l.take o++src.take (Nat.min sL dL)++l.drop (o+Nat.min sL dL)):=by
    have e1:=vT l (src.take (Nat.min sL dL)) o
    rw[A2,A0,<-ht,List.take_take,Nat.min_eq_left U,List.drop_take]at e1
    have Ao:(E.toList.take (o*2)++ag (src.take (Nat.min sL dL))).length=o*2+Nat.min sL dL*2:=by rw[List.length_append,List.length_take,A0,hX];omega
    rw[<-e1,List.take_append,List.take_of_length_le (by rw[Ao];omega),Ao]
   refine cW (v:=.int .i64 ((Nat.min sL dL:Nat):Int)) (w':=w.setRow A1 ((E.toList.take (o*2)++ag (src.take (Nat.min sL dL))++E.toList.drop (o*2+Nat.min sL dL*2)).toArray)) Z ?_ (by
    rw[ax]
    refine hK _ Dq Ap Z ?_
    rw[Af]
    refine⟨by rw[fU,Af],.inr ⟨A1,cap,_,rfl,Ap,setRow_heap w A1 E _ 33 _ Am,hc,hm,?_,?_⟩⟩
    · simp only[List.size_toArray,List.length_append,List.length_take,List.length_drop,A0,hX];omega
    · exact Ar)
   change ev N e x=Value.slice (some ⟨A1,o*2,none⟩) dL dC at hx
   simp[execOp,resolve,invoke,builtin,hx,hy,Builtin.copy_,run_underlying underlying28,Builtin.lenOf,Builtin.firstCells,sizeOf,typeInfo,As,Ax,Aq,Ab,goInt]
end
section
variable {W':World}{hi:Nat}{L:Rows}
def Wr.ownS (h:Wr W lo hi n H L)(hi':i<n):W.ownsRow lo 33 2 (.slice (sA (H i)) (L i).length (sC (H i))) (L i).length (ag (L i)):=by
 have:=h.own i hi';rwa [h.hdr hi']at this
def Wr.obS (h:Wr W lo hi n H L)(hi':i<n):(H i).ownBlock=(Value.slice (sA (H i)) (L i).length (sC (H i))).ownBlock:=qb2 Value.ownBlock (h.hdr hi')
def Wr.lohi (h:Wr W lo hi n H L)(hi':i<n):∀g,(Value.slice (sA (H i)) (L i).length (sC (H i))).ownBlock=some g->lo<=g/\g<hi:=λg e=>by
 rw[<-h.obS hi']at e;exact⟨aR (h.own i hi') g e,h.hi i hi' g e⟩
def Wr.appS {l':List R}(h:Wr W lo hi n H L)(hj:i<n)(hg:W.grownBy W' (Value.slice (sA (H i)) (L i).length (sC (H i))).ownBlock)(ho:W'.ownsRow lo 33 2 v' l'.length (ag l'))(ha:v'.ownBlock=(Value.slice (sA (H i)) (L i).length (sC (H i))).ownBlock\/v'.ownBlock=some W.heap.size):Wr W' lo W'.heap.size n (bD H i v') (bD L i l'):=by
 rw[<-h.obS hj]at hg ha
 exact h.app hj hg ho ha
def KI {b m:Nat}(h:∀j,j<n->(H j).ownBlock≠some b)(ha:v'.ownBlock=(Value.slice (sA (H i)) m c).ownBlock\/v'.ownBlock=some W.heap.size)(hb:b<W.heap.size)(hi':H i=.slice (sA (H i)) m c):
 ∀j,j<n->(bD H i v' j).ownBlock≠some b:=λj E e=>by
 by_cases hji:j=i
 · subst hji
   rw[aX]at e
   rcases ha with ha|ha
   · rw[ha,<-hi']at e;exact h j E e
   · rw[ha]at e;cases e;omega
 · rw[bc _ _ hji]at e;exact h j E e
def Wr.oneU (h:Wr W lo hi n (bD H i v) L)(hi':i<n):v.oneCell'=true:=by
 have:=bV (h.own i hi');rwa [aX]at this
def m9 {b:Nat}(h:W.ownsRow b 28 1 (.slice A n n) n (madeCells #[Value.slice none 0 0] (n*1)).toList)(hn:0<n):
 Ho W A n (λ_=>.slice none 0 0)/\(b<=aO A/\aO A<W.heap.size)/\Wr W b W.heap.size n (λ_=>.slice none 0 0) pI/\∀j,j<n->((λ_=>Value.slice none 0 0) j:Value).ownBlock≠some (aO A):=by
 have hc:(madeCells #[Value.slice none 0 0] (n*1)).toList=(List.range n).map λ_=>Value.slice none 0 0:=by
  apply List.ext_getElem
  · simp[madeCells]
  · intro i h1 h2;simp[madeCells,Nat.mod_one]
 rw[hc]at h
 obtain⟨h1,h2,h3⟩:=Ho.of_own h hn
 exact⟨h1,⟨h2,dG h _ h3⟩,⟨λi _=>bO,λi _ g e=>(by cases e),λi j _ _ _=>ad2⟩,λj _ e=>(by cases e)⟩
end
def OM {K L:Rows}{p:Nat}(h:∀j',j'<p->K j'=l8 L (if j'<j then i+1 else i) j')(hj:j<p):∀j',j'<p->bD K j (K j++[ap (L i) j]) j'=l8 L (if j'<j+1 then i+1 else i) j':=λj' E=>by
 by_cases e:j'=j
 · subst e
   rw[aX,h j' E,if_neg U,if_pos U,Kl]
 · rw[bc _ _ e,h j' E]
   by_cases h2:j'<j
   · rw[if_pos h2,if_pos U]
   · rw[if_neg h2,if_neg U]
def G9 {α:Type}(f:Nat->α)(i:Nat)(a b:α):bD (bD f i a) i b=bD f i b:=funext λj=>by unfold bD;split <;>rfl
end
section
set_option maxRecDepth 100000
open Go.Eng Tryz
attribute [local irreducible] wpListIn Code.wpIn Oper.wpIn Exit.then Exit.inBlock Exit.noGoto
set_option maxHeartbeats 40000000
def Rw.takeR {xs:List R}(h:Rw W lo A (ag xs))(c:Nat):Rw W lo A (ag (xs.take c)):=by
 have:=Rw.take (c*2) h;rwa [jd]at this
def e0:R:=([],[])
def AN (m:Nat):(madeCells (Value.agg #[S [],S []]).cells (m*2)).toList=ag (List.replicate m e0):=by
 induction m with
 |zero=>simp[madeCells,ag]
 | succ m ih=>
   rw[List.replicate_succ',<-uC,<-ih]
   apply List.ext_getElem
   · simp[madeCells,ag];omega
   · intro i h1 _
     simp only[madeCells,Value.cells,Array.toList_map,List.getElem_map,Array.toList_range,List.getElem_range,List.getElem_append,List.length_map,List.length_range]
     by_cases hi:i<m*2
     · rw[dif_pos hi]
     · rw[dif_neg hi]
       have E:(madeCells (Value.agg #[S [],S []]).cells ((m+1)*2)).toList.length=(m+1)*2:=by simp[madeCells]
       have O:i<(m+1)*2:=by rw[E]at h1;exact h1
       have:i=m*2\/i=m*2+1:=J
       rcases this with rfl|rfl
       · simp[ag,e0,Nat.mul_mod_left]
       · simp[ag,e0,Nat.add_mod,Nat.mul_mod_left]
def ON {xs:List R}{m:Nat}(hl:xs.length=n)(hc:c+m<=n)(hm:m<=c):(xs.take c++(xs.take c).take m++xs.drop (c+m)).length=n:=by
 simp only[List.length_append,List.length_take,List.length_drop];omega
def Ug {xs:List R}{m:Nat}(hl:xs.length=n)(hc:c+m<=n)(hm:m<=c)(h:∀k,k<c->ap xs k=z0):∀k,k<c+m->ap (xs.take c++(xs.take c).take m++xs.drop (c+m)) k=z0:=by
 intro k _
 have O:∀j,j<c->ap (xs.take c) j=z0:=λj E=>by
  have:ap (xs.take c) j=ap xs j:=by unfold ap;simp[List.getD,List.getElem?_take,E]
  rw[this];exact h j E
 have h1:(xs.take c).length=c:=by rw[List.length_take];omega
 rw[jY (by simp only[List.length_append,List.length_take];omega)]
 by_cases hkc:k<c
 · rw[jY U];exact O k hkc
 · rw[kW U,h1]
   have:ap ((xs.take c).take m) (k-c)=ap (xs.take c) (k-c):=by unfold ap;simp[List.getD,List.getElem?_take,show k-c<m by omega]
   rw[this];exact O _ U
def OO {xs:List R}(hl:xs.length=n)(hc:¬c<n)(h:∀k,k<c->ap xs k=z0):xs=zs n:=by
 refine m7 (by rw[hl];unfold zs;simp) λj _=>?_
 rw[h j U,eu (by unfold zs;simp;omega)]
 simp[zs]
def lI (n:Nat):(zs n).length=n:=by unfold zs;exact List.length_replicate
def kX (L:Rows):Nat->List R
 |0=>[]
 |k+1=>kX L k++L k
def KJ (hn:n<=16):
 CL 216 #[.int .u64 ((1:Nat):Int),.int .u64 n] w (aH w λv w'=>v=.tuple #[.int .u64 ((0:Nat):Int),.int .u64 n]):=by
 refine aC func216 Z (I ?_);refine aa (KG (m:=1) Z Z U ?_);refine I ?_;refine aa (pS (m:=1) Z Z U ?_);refine I ?_;refine aa (KG (m:=n) Z Z U ?_);refine I ?_;refine aa (pS (m:=n) Z Z U ?_);refine I ?_;refine aa (uF (a:=((1:Nat):Int)) (b:=(n:Int)) (c:=(n:Int)) Z Z zd U ?_);refine I ?_;refine aa (uF (a:=((0:Nat):Int)) (b:=(n:Int)) (c:=((0:Nat):Int)) Z Z zd U ?_);refine I ?_;refine aa (pS (m:=n) Z Z U ?_);refine aa (yq (a:=((0:Nat):Int)) (b:=((0:Nat):Int)) (c:=((0:Nat):Int)) Z Z zd U ?_);refine I ?_;refine aa (KG (m:=0) Z Z U ?_);refine I ?_;refine aa (pS (m:=0) Z Z U ?_);refine I ?_;refine aa (uF (a:=((1:Nat):Int)) (b:=((0:Nat):Int)) (c:=((0:Nat):Int)) Z Z zd U ?_);refine aa (yq (a:=((0:Nat):Int)) (b:=((0:Nat):Int)) (c:=((0:Nat):Int)) Z Z zd U ?_);refine I ?_;refine aa (uF (a:=((0:Nat):Int)) (b:=((0:Nat):Int)) (c:=((0:Nat):Int)) Z Z zd U ?_);refine I ?_;refine aa (yq (a:=((0:Nat):Int)) (b:=((0:Nat):Int)) (c:=((0:Nat):Int)) Z Z zd U ?_);refine I ?_;refine aa (pS (m:=0) Z Z U ?_)
 refine aa (yq (a:=((0:Nat):Int)) (b:=((0:Nat):Int)) (c:=((0:Nat):Int)) Z Z zd U ?_);refine I ?_;refine aa (uF (a:=((1:Nat):Int)) (b:=(n:Int)) (c:=(n:Int)) Z Z zd U ?_);refine I ?_;exact bF (t:=4) (u:=5) (v1:=.int .u64 ((0:Nat):Int)) (v2:=.int .u64 n) Z (aa0 _) Z Z Z
def OP (hn:n<=16):
 CL 173 #[.int .u64 ((1:Nat):Int),.int .u64 n] w (aH w λv w'=>v=.tuple #[.int .u64 ((0:Nat):Int),.int .u64 n]):=by
 refine aC func173 Z (I ?_);refine cl V3 (KJ hn) ?_;rintro _ _ E rfl;have O:=E.2;refine I ?_;exact bF (t:=4) (u:=5) (v1:=.int .u64 ((0:Nat):Int)) (v2:=.int .u64 n) Z O Z Z Z
def Uh (hx:Rw w lo A (ag [z0]))(hn:1<=n)(hn16:n<=16):
 CL 127 #[.slice A 1 c,.int .i64 n] w (aH w λv w'=>World.ownsRow w' w.heap.size 33 2 v n (ag (zs n))):=by
 refine aC func127 Z (I ?_);refine aa (qt (k:=.i64) (k':=.u64) (a:=((1:Nat):Int)) (c:=((1:Nat):Int)) U3 Ie Z (wrap_u64 U) ?_);refine I ?_;refine aa (qt (k:=.i64) (k':=.u64) (a:=(n:Int)) (c:=(n:Int)) U3 Ie Z (wrap_u64 U) ?_);refine clb YZ (hc:=OP U) (hk:=?_);rintro _ A1 nm rfl;have A0:=nm.2;refine I ?_;refine aa (qt (k:=.u64) (k':=.i64) (a:=(n:Int)) (c:=(n:Int)) Ie U3 Z (k7 j0) ?_);refine aa (mf (m:=n) te aZ Z Z U Rd (λE1 D2 _ Ab=>?_));rw[AN]at Ab;have A0:=xt A0 D2;obtain⟨E,cy⟩:∃x,x=some (⟨A1.heap.size,0,none⟩:Addr):=⟨_,rfl⟩;rw[<-cy]at Ab;have D1:World.ownsRow E1 A1.heap.size 33 2 (.slice E n n) (List.replicate n e0).length (ag (List.replicate n e0)):=by rw[List.length_replicate];exact Ab
 have hAo:E=some ⟨aO (sA (.slice E n n)),0,none⟩:=by rw[cy];rfl
 refine aa (aJ (v:=.slice E n n) (qb2 (λa=>Value.slice a n n) cy.symm) ?_);refine I ?_;refine aa (Ff (o:=0) (l:=List.replicate n e0) (src:=[z0]) D1 (by rw[Nat.zero_mul];exact hAo) Z zd U Z (hx.ext A0) Z dc (λB0 CY _ _ E0=>?_));have A0:=bA CY A0;refine I ?_;have Af:Nat.min 1 n=1:=by show min 1 n=1;omega
 refine ck [(8,8),(34,46)] (λB1 e W=>∃j:Nat,∃xs:List R,(n-j=B1)/\(e 8=.int .i64 j)/\(1<=j)/\(j<=n)/\(xs.length=n)/\(∀k,k<j->ap xs k=z0)/\(B0.heap.size<=W.heap.size)/\(aN w W)/\(W.ownsRow A1.heap.size 33 2 (.slice E n n) xs.length (ag xs))) (n-1) ⟨1,((List.replicate n e0).take 0++[z0].take (Nat.min 1 n)++(List.replicate n e0).drop (0+Nat.min 1 n)),rfl,(by rw[Af];rfl),(qa0 _),U,(by simp[Af];omega),(λk hk=>by rw[Af,show k=0 by omega];simp[ap]),(qa0 _),A0,E0⟩ ?_;rintro _ _ Ar ⟨j,xs,rfl,K2,H3,H2,A2,Ax,E5,O,Ay⟩;by_cases hlj:j<n;have Ao:Nat.min j (n-j)<=j:=Nat.min_le_left _ _;have Av:j+Nat.min j (n-j)<=n:=by have:Nat.min j (n-j)<=n-j:=Nat.min_le_right _ _;omega
 have Ix:1<=Nat.min j (n-j):=by show 1<=min j (n-j);omega
 refine I ?_;have Am:=ac3 Ar;refine xK 8 (λls e W=>(aN w W)/\(Ar.heap.size<=W.heap.size)/\(ls 7=false->(W.ownsRow A1.heap.size 33 2 (.slice E n n) xs.length (ag xs)))/\(ls 7=true->(W.ownsRow A1.heap.size 33 2 (.slice E n n) ((xs.take j++(xs.take j).take (Nat.min j (n-j))++xs.drop (j+Nat.min j (n-j))).length) (ag (xs.take j++(xs.take j).take (Nat.min j (n-j))++xs.drop (j+Nat.min j (n-j))))))) ⟨(xt O Am),(bz Am),(λ_=>(ab Am Ay)),(λh=>ff Z h)⟩ ?_;refine sf ?_;refine dk (λG0 E7 E9 _ H4 E4 _=>by refine aa (yj (A:=E) (m:=n) (c:=n) (i:=j) te bX Z Z U (qa0 _) ?_);refine I ?_;exact aK) ?_;refine sf ?_;refine dk (λES EW FR _ K3 GC _=>by refine aa (re (A:=E) (m:=n) (c:=n) (j:=j) te bX Z Z U ?_);refine I ?_;exact aK) ?_;refine I8 (V:=.int .i64 ((Nat.min j (n-j):Nat):Int)) (λ_ _ _ ny _ od _=>?_) ?_;obtain⟨O,C0,Aq,Ap⟩:=ny;have As:=Aq od;refine aa (Ff (o:=j) (l:=xs) (src:=xs.take j) As (by unfold uA;rw[if_neg U,hAo];simp[Addr.add_mid,sA,aO]) Z U U Z (Rw.takeR (ek As) j) (by rw[List.length_take];omega) U (λ_ Aw _ _ Az=>?_));have O:=bA Aw O;have E6:=ij Aw;refine I ?_;exact fs ⟨rfl,O,U,(λCr=>tf Z Cr),(λ_=>Az)⟩;refine sf ?_;rintro _ _ _ B2 ⟨O,C0,Aq,Ap⟩;have CB:=Ap (B2 7 Z)
 refine aa (cG (a:=(j:Int)) (b:=((Nat.min j (n-j):Nat):Int)) (c:=((j+Nat.min j (n-j):Nat):Int)) Z Z j0 U ?_);refine I ?_;exact bJ ⟨(j+Nat.min j (n-j)),(xs.take j++(xs.take j).take (Nat.min j (n-j))++xs.drop (j+Nat.min j (n-j))),rfl,rfl,U,U,(ON A2 Av Ao),(Ug A2 Av Ao Ax),U,O,CB⟩;have CG:=OO A2 hlj Ax;refine I ?_;exact am (t:=4) (v:=.slice E n n) Z O (by have h:=Ay;rw[CG,lI]at h;exact b9 U h) Z
section
variable {P:Program}{r:Option Nat}{ds:List Deferred}{Q:Exit->Act->World->Prop}{K:Act->World->Prop}
variable {d ty:Nat}{pos:String}{af:Array Edge}{g:Option (Nat×Bool)}{u:Value}{x y:Operand}{t':TypeId}
def uG {el m m' c':Nat}(hu:P.underlying t=some (.slice el))(hx:ev N e x=.slice A m c)(hy:ev N e y=.slice none m' c')(hk:K (act N (upd e d (.bool A.isNone)) ds) w):
 Oper.wpIn (Fw r) n P ⟨some d,.binOp .eql t x y t',ty,pos,af,g⟩ (act N e ds) w K Q:=by
 refine dQ hx hy ?_ ?_ hk
 · unfold eqGuard;simp
 · have:(Op.equal t (.slice A m c) (.slice none m' c')).run P w=.ok A.isNone w:=by
    unfold Op.equal Op.maxDepth
    show(Op.equalIn (9999+1) t _ _).run _ _=_
    unfold Op.equalIn
    cases A <;>simp[run_underlying hu]
   simp[binOp,this]
end
def OQ {xs:List R}(hx:Rw w lo none (ag xs))(hl:xs.length<=1000000):
 CL 70 #[.slice none xs.length c] w (aH w λv w'=>World.ownsRow w' w.heap.size 33 2 v xs.length (ag xs)):=by
 refine aC func70 Z (I ?_);refine aa (uG (A:=none) te Z Z ?_);refine I ?_;(try refine mh (qb2 Value.bool Z) ?_);refine I ?_;exact am (t:=2) (v:=.slice none 0 0) Z (aa0 _) (by have:=hx.cells;cases xs with|nil=>exact bO|cons a l=>obtain⟨b,o,h,_⟩:=this 0 _ Z;cases h) rfl
def OR {xs:List R}(hx:Rw w lo (some ad) (ag xs))(hl:xs.length<=1000000):
 CL 70 #[.slice (some ad) xs.length c] w (aH w λv w'=>World.ownsRow w' w.heap.size 33 2 v xs.length (ag xs)):=by
 refine aC func70 Z (I ?_);refine aa (uG (A:=some ad) te Z Z ?_);refine I ?_;(try refine qp (qb2 Value.bool Z) ?_);refine I ?_;refine aa (zH te aZ (λ_ E _ O=>?_));have E5:=E;have Ab:=bz E;refine I ?_;refine aa (jI (v:=.slice (some ⟨w.heap.size,0,none⟩) 0 0) (k:=0) (m:=xs.length) (news:=ag xs) te aZ Z dc Z O Z (hx.ext E5) (fU _) ol Rd U U (λA0 _ A1 A2 _=>?_));have E5:=bB O U U E5 A2;rw[List.nil_append]at A1;refine aa (aJ (v:=A0) Z ?_);refine I ?_;exact am (t:=2) (v:=A0) Z E5 (aP A1 (Nat.zero_add _) Z) Z
def uH {xs:List R}(hx:Rw w lo A (ag xs))(hl:xs.length<=1000000):
 CL 70 #[.slice A xs.length c] w (aH w λv w'=>World.ownsRow w' w.heap.size 33 2 v xs.length (ag xs)):=by
 cases A with
 |none=>exact OQ hx hl
 |some ad=>exact OR hx hl
end
end Go.Proofs.YtlmihmlnpjkblaaGreatDoor
