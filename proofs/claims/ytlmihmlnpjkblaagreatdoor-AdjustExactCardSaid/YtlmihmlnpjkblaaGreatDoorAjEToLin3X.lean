/- Part of the proof of a statement about an adjustment. -/
import Derived.LaidEql
import Derived.RowKitTokens
import Derived.Test.YtlmihmlnpjkblaaGreatDoorRef4ToEncKX
import Derived.Stop.Asserts
import Derived.Lib.AppendZerosOnto
import Derived.Laws.CopyRow
set_option linter.all false
namespace Go.Proofs.YtlmihmlnpjkblaaGreatDoor
open Go Go.RowKit Go.Extern Tryz
variable {a ad:Addr}{lb:List Value}{N g b1 b2 n c s i lo k j lo' C gf n' D lo2 base sz:Nat}{p:Nat->Bool}{e H G:Nat->Value}{A B:Option Addr}{t el et:TypeId}{v0 v1 v2 v3 v4 v5 v6 v v':Value}{w w' W:World}
section
def Kd (v:Value)(w:World):(Extern.ReflectliteType.typeOf #[.iface 316 v]).run prog w=.ok (.iface 227 (.agg #[.pointer (some ⟨10,316,none⟩)])) w:=by kernel_rfl
def yj (w : World) : ((Extern.ReflectliteType.method fun t => do Extern.Rtype.noPackHeld "Comparable" t; Functor.map (fun a => Value.bool a.comparable) (typeInfo t)) #[.agg #[.pointer (some ⟨10, 316, none⟩)]]).run prog w = .ok (.bool true) w := by kernel_rfl
def ow (v : Value)(w : World) : (Go.method 451 227 v "Comparable").run prog w = .ok (317, v) w := by kernel_rfl
def T6:(prog.info? 316).map (·.comparable)=some true:=by kernel_rfl
def T7:(prog.info? 318).map (·.size)=some 1:=by kernel_rfl
def OJ (a:Addr)(w:World):
 Calls prog 90 #[.iface 316 (.pointer (some a)),.iface 316 (.pointer (some a))] w λe w'=>e=.returned (.bool true)/\w'=w:=by
 obtain⟨i,hi,E⟩:=Option.map_eq_some_iff.1 T6
 obtain⟨j,O,_⟩:=Option.map_eq_some_iff.1 T7
 have A1:=@run_callFunc_extern prog 144 _ Extern.ReflectliteType.typeOf func144 q0 q0 q0 q0
 have A0 := @run_callFunc_extern prog 317 _ (Extern.ReflectliteType.method fun t => do Extern.Rtype.noPackHeld "Comparable" t; pure (.bool (← typeInfo t).comparable)) func317 q0 q0 q0 q0
 have tT:=Kd
 have cT:=yj
 have mR:=ow
 have A2:=run_eql_iface_ptr_same (P:=prog) w a underlying96 underlying316 hi E O
 go_enter func90,Tryz.ntmps90
 go_wp2
 refine wp_loop_rounds 1 ?_
 rw[rounds_succ]
 go_wp2
 go_ret
 exact⟨rfl,rfl⟩
end
section
set_option maxRecDepth 100000
open Go.Eng Tryz
abbrev eV (a:Addr):Value:=.iface 316 (.pointer (some a))
def pE (a:Addr):List PanicEntry:=[{v:=eV a,recovered:=false}]
def Er (w:World)(a:Addr):Prop:=ao w 0 96 #[eV a]
def Er.ext (k:aP w w')(h:Er w a):Er w' a:=ac7 k h
def ad1:=@Er.ext
def AB (a:Addr)(w:World):CL 90 #[eV a,eV a] w (aI w λv _=>v=.bool true):=
 (OJ a w).mono λe w' h=>by obtain⟨rfl,rfl⟩:=h;exact⟨aa1 _,rfl⟩
def asE (a:Addr)(w:World):(Instr.typeAssert (eV a) 20 96 true).run prog w=.ok (.tuple #[eV a,.bool true]) w:=run_typeAssert_hasB underlying96 q0 _ _ _
section
variable {P:Program}{d id ty:Nat}{pos:String}{af:Array Edge}{ats:Array TypeId}{cs cs':List Frame}{Q:Exit->Act->List Frame->World->Prop}{ops:Array Oper}{rest:List Nat}
def T8 (hn:List.range ops.size=0::rest)(h0:ops[0]?=some ⟨some d,.call {callee:=.builtin .recover,args:=#[],argTypes:=ats},ty,pos,af,none⟩)(hr:recoverD cs=some (v0,cs'))(h:wpOpsS P ops Q rest (act N (upd e d v0) []) cs' w):
 (Code.region id ops false).wpS P Q (act N e []) cs w:=by
 refine wpS_region ?_
 rw[hn]
 have hx:(execOp (act N e []).eval ⟨some d,.call {callee:=.builtin .recover,args:=#[],argTypes:=ats},ty,pos,af,none⟩).run P w=.ok .recover w:=by
  simp[execOp,resolve,invoke,builtin]
 simp only[wpOpsS,h0,Region.wanted,if_true,hx,hr]
 rw[ax]
 exact h
end
def EZ {P:Program}{d id ty:Nat}{pos:String}{af:Array Edge}{ats:Array TypeId}{cs cs':List Frame}{Q:Exit->Act->List Frame->World->Prop}{d1 ty1 d2 ty2 d3 ty3 d4 ty4 d5 ty5 d6 ty6:Nat}{pos1 pos2 pos3 pos4 pos5 pos6:String}{af1 af2 af3 af4 af5 af6:Array Edge}{op1 op2 op3 op4 op5 op6:Op}(hr:recoverD cs=some (v0,cs'))(h1:(execOp (ev N (upd e d v0)) (⟨some d1,op1,ty1,pos1,af1,none⟩:Oper)).run P w=.ok (.value v1) w)(h2:(execOp (ev N (upd (upd e d v0) d1 v1)) (⟨some d2,op2,ty2,pos2,af2,none⟩:Oper)).run P w=.ok (.value v2) w)(h3:(execOp (ev N (upd (upd (upd e d v0) d1 v1) d2 v2)) (⟨some d3,op3,ty3,pos3,af3,none⟩:Oper)).run P w=.ok (.value v3) w)(h4:(execOp (ev N (upd (upd (upd (upd e d v0) d1 v1) d2 v2) d3 v3)) (⟨some d4,op4,ty4,pos4,af4,none⟩:Oper)).run P w=.ok (.value v4) w)(h5:(execOp (ev N (upd (upd (upd (upd (upd e d v0) d1 v1) d2 v2) d3 v3) d4 v4)) (⟨some d5,op5,ty5,pos5,af5,none⟩:Oper)).run P w=.ok (.value v5) w)(h6:(execOp (ev N (upd (upd (upd (upd (upd (upd e d v0) d1 v1) d2 v2) d3 v3) d4 v4) d5 v5)) (⟨some d6,op6,ty6,pos6,af6,none⟩:Oper)).run P w=.ok (.value v6) w)(h:Q .normal (act N (upd (upd (upd (upd (upd (upd (upd e d v0) d1 v1) d2 v2) d3 v3) d4 v4) d5 v5) d6 v6) []) cs' w):
 (Code.region id #[⟨some d,.call {callee:=.builtin .recover,args:=#[],argTypes:=ats},ty,pos,af,none⟩,⟨some d1,op1,ty1,pos1,af1,none⟩,⟨some d2,op2,ty2,pos2,af2,none⟩,⟨some d3,op3,ty3,pos3,af3,none⟩,⟨some d4,op4,ty4,pos4,af4,none⟩,⟨some d5,op5,ty5,pos5,af5,none⟩,⟨some d6,op6,ty6,pos6,af6,none⟩] false).wpS P Q (act N e []) cs w:=
 T8 (rest:=[1,2,3,4,5,6]) Z Z hr (jk Z h1 (jk Z h2 (jk Z h3 (jk Z h4 (jk Z h5 (jk Z h6 (Ka h)))))))
def T9 (g:Nat)(t:TypeId)(z:Array Value):Prop:=∀(n:Nat) (a:Addr) (b1 b2:Nat) (cs:Array Value) (c0:Int) (w:World),Er w a->ao w b1 t cs->cs.size=z.size->ao w b2 36 #[.int .i64 c0]->b1≠b2->b1≠0->b2≠0-> 
 CallsDIn Fence.wide n prog g #[pT b1,pT b2] (.panicking (pE a)) w
  (λe u' w'=>(∃v,e=.returned v)/\u'=.panicking [{v:=eV a,recovered:=true}]/\∃wa wb,aP w wa/\ez wa wb b1/\ez wb w' b2/\ao w' b1 t z/\ao w' b2 36 #[.int .i64 140])
def Ke {fn:Func}{z cs:Array Value}{c0:Int}{R:Value->World->Prop}(hg:Enters prog g)(hc:T9 g t z)(hx:aP w w')(hE:Er w' a)(h1:ao w' b1 t cs)(hz:cs.size=z.size)(h2:ao w' b2 36 #[.int .i64 c0])(hne:b1≠b2)(hb1:w.heap.size<=b1)(hb2:w.heap.size<=b2)(h0:0<w.heap.size)(hr:∀w'',aP w w''->ao w'' b1 t z->ao w'' b2 36 #[.int .i64 140]->(results fn (act N e [dV g b1 b2]).tmps).run prog w''=.ok v w''/\R v w''):
 bodyPostDIn Fence.wide 0 prog fn (aI w R) (.panic (pE a)) (act N e [dV g b1 b2]) w':=by
 refine leavesIn_cons (f:=g) (args:=#[pT b1,pT b2]) JT kd0 ?_ (λ_ _=>trivial) ?_
 · have h:=hg #[pT b1,pT b2] w'
   simpa[invoke]using h
 · refine CallsDIn.mono (hc _ a b1 b2 cs c0 _ hE h1 hz h2 hne U U) ?_
   rintro _ _ w'' ⟨⟨v',rfl⟩,rfl,Ab,A2,O,A1,A0,c1,c2⟩
   have E:aP w w'':=ad4 A0 (ad4 A1 (hx.trans O) hb1) hb2
   obtain⟨r1,r2⟩:=hr w'' E c1 c2
   exact⟨v,r1,E,r2⟩
def Kf :
 CallsDIn Fence.wide n prog 89 #[pT b1,pT b2] .returning w (λe u' w'=>(∃v,e=.returned v)/\u'=.returning/\w'=w):=by
 refine J9 (args:=[pT b1,pT b2]) func89 Z (λ_ _ hu=>?_)
 refine wpS_seq ?_
 refine ot (v1:=.tuple #[.nilIface,.bool false]) (v2:=.tuple #[.nilIface,.bool false]) (v3:=.nilIface) (v4:=.bool false) (v5:=.nilIface) (v6:=.bool false) DM ?_ ?_ ?_ ?_ ?_ ?_ ?_
 · have h:(Instr.typeAssert .nilIface 20 96 true).run prog w=.ok (.tuple #[.nilIface,.bool false]) w:=by
    unfold Instr.typeAssert
    simp[run_underlying underlying96]
   simp only[execOp]
   exact qb2 (λr=>Result.andThen r λa w'=>Result.ok (Next.value a) w') h
 · rfl
 · rfl
 · rfl
 · rfl
 · rfl
 refine wpS_of_wp (wpIn_wide (n:=0).1 ?_)
 refine gU (r:=none) ?_
 refine gl (r:=none) ?_
 refine aa (r:=none) (aT (v:=.bool false) Z ?_)
 refine aa (r:=none) (aT (v:=.bool false) Z ?_)
 with_reducible refine fp (r:=none) (d:=12) (s:=11) ?_ ?_ ?_
 exact Z
 exact Z
 with_reducible refine fp (r:=none) (d:=13) (s:=11) ?_ ?_ ?_
 exact Z
 exact Z
 with_reducible refine fp (r:=none) (d:=14) (s:=11) ?_ ?_ ?_
 exact Z
 exact Z
 refine aa (r:=none) (jd (t:=false) (v:=.bool false) Z Z ?_)
 refine eR ?_
 refine em ?_
 refine fM (r:=none) Z ?_
 refine jD (r:=none) ?_
 exact⟨rfl,.returning,by rw[<-hu],_,mg Z,⟨_,rfl⟩,rfl,rfl⟩
def Kg :
 CallsDIn Fence.wide n prog 97 #[pT b1,pT b2] .returning w (λe u' w'=>(∃v,e=.returned v)/\u'=.returning/\w'=w):=by
 refine J9 (args:=[pT b1,pT b2]) func97 Z (λ_ _ hu=>?_)
 refine wpS_seq ?_
 refine ot (v1:=.tuple #[.nilIface,.bool false]) (v2:=.tuple #[.nilIface,.bool false]) (v3:=.nilIface) (v4:=.bool false) (v5:=.nilIface) (v6:=.bool false) DM ?_ ?_ ?_ ?_ ?_ ?_ ?_
 · have h:(Instr.typeAssert .nilIface 20 96 true).run prog w=.ok (.tuple #[.nilIface,.bool false]) w:=by
    unfold Instr.typeAssert
    simp[run_underlying underlying96]
   simp only[execOp]
   exact qb2 (λr=>Result.andThen r λa w'=>Result.ok (Next.value a) w') h
 · rfl
 · rfl
 · rfl
 · rfl
 · rfl
 refine wpS_of_wp (wpIn_wide (n:=0).1 ?_)
 refine gU (r:=none) ?_
 refine gl (r:=none) ?_
 refine aa (r:=none) (aT (v:=.bool false) Z ?_)
 refine aa (r:=none) (aT (v:=.bool false) Z ?_)
 with_reducible refine fp (r:=none) (d:=12) (s:=11) ?_ ?_ ?_
 exact Z
 exact Z
 with_reducible refine fp (r:=none) (d:=13) (s:=11) ?_ ?_ ?_
 exact Z
 exact Z
 with_reducible refine fp (r:=none) (d:=14) (s:=11) ?_ ?_ ?_
 exact Z
 exact Z
 refine aa (r:=none) (jd (t:=false) (v:=.bool false) Z Z ?_)
 refine eR ?_
 refine em ?_
 refine fM (r:=none) Z ?_
 refine jD (r:=none) ?_
 exact⟨rfl,.returning,by rw[<-hu],_,mg Z,⟨_,rfl⟩,rfl,rfl⟩
def Kh :
 CallsDIn Fence.wide n prog 106 #[pT b1,pT b2] .returning w (λe u' w'=>(∃v,e=.returned v)/\u'=.returning/\w'=w):=by
 refine J9 (args:=[pT b1,pT b2]) func106 Z (λ_ _ hu=>?_)
 refine wpS_seq ?_
 refine ot (v1:=.tuple #[.nilIface,.bool false]) (v2:=.tuple #[.nilIface,.bool false]) (v3:=.nilIface) (v4:=.bool false) (v5:=.nilIface) (v6:=.bool false) DM ?_ ?_ ?_ ?_ ?_ ?_ ?_
 · have h:(Instr.typeAssert .nilIface 20 96 true).run prog w=.ok (.tuple #[.nilIface,.bool false]) w:=by
    unfold Instr.typeAssert
    simp[run_underlying underlying96]
   simp only[execOp]
   exact qb2 (λr=>Result.andThen r λa w'=>Result.ok (Next.value a) w') h
 · rfl
 · rfl
 · rfl
 · rfl
 · rfl
 refine wpS_of_wp (wpIn_wide (n:=0).1 ?_)
 refine gU (r:=none) ?_
 refine gl (r:=none) ?_
 refine aa (r:=none) (aT (v:=.bool false) Z ?_)
 refine aa (r:=none) (aT (v:=.bool false) Z ?_)
 with_reducible refine fp (r:=none) (d:=12) (s:=11) ?_ ?_ ?_
 exact Z
 exact Z
 with_reducible refine fp (r:=none) (d:=13) (s:=11) ?_ ?_ ?_
 exact Z
 exact Z
 with_reducible refine fp (r:=none) (d:=14) (s:=11) ?_ ?_ ?_
 exact Z
 exact Z
 refine aa (r:=none) (jd (t:=false) (v:=.bool false) Z Z ?_)
 refine eR ?_
 refine em ?_
 refine fM (r:=none) Z ?_
 refine jD (r:=none) ?_
 exact⟨rfl,.returning,by rw[<-hu],_,mg Z,⟨_,rfl⟩,rfl,rfl⟩
def Ki :
 CallsDIn Fence.wide n prog 109 #[pT b1,pT b2] .returning w (λe u' w'=>(∃v,e=.returned v)/\u'=.returning/\w'=w):=by
 refine J9 (args:=[pT b1,pT b2]) func109 Z (λ_ _ hu=>?_)
 refine wpS_seq ?_
 refine ot (v1:=.tuple #[.nilIface,.bool false]) (v2:=.tuple #[.nilIface,.bool false]) (v3:=.nilIface) (v4:=.bool false) (v5:=.nilIface) (v6:=.bool false) DM ?_ ?_ ?_ ?_ ?_ ?_ ?_
 · have h:(Instr.typeAssert .nilIface 20 96 true).run prog w=.ok (.tuple #[.nilIface,.bool false]) w:=by
    unfold Instr.typeAssert
    simp[run_underlying underlying96]
   simp only[execOp]
   exact qb2 (λr=>Result.andThen r λa w'=>Result.ok (Next.value a) w') h
 · rfl
 · rfl
 · rfl
 · rfl
 · rfl
 refine wpS_of_wp (wpIn_wide (n:=0).1 ?_)
 refine gU (r:=none) ?_
 refine gl (r:=none) ?_
 refine aa (r:=none) (aT (v:=.bool false) Z ?_)
 refine aa (r:=none) (aT (v:=.bool false) Z ?_)
 with_reducible refine fp (r:=none) (d:=12) (s:=11) ?_ ?_ ?_
 exact Z
 exact Z
 with_reducible refine fp (r:=none) (d:=13) (s:=11) ?_ ?_ ?_
 exact Z
 exact Z
 with_reducible refine fp (r:=none) (d:=14) (s:=11) ?_ ?_ ?_
 exact Z
 exact Z
 refine aa (r:=none) (jd (t:=false) (v:=.bool false) Z Z ?_)
 refine eR ?_
 refine em ?_
 refine fM (r:=none) Z ?_
 refine jD (r:=none) ?_
 exact⟨rfl,.returning,by rw[<-hu],_,mg Z,⟨_,rfl⟩,rfl,rfl⟩
def Kj :
 CallsDIn Fence.wide n prog 116 #[pT b1,pT b2] .returning w (λe u' w'=>(∃v,e=.returned v)/\u'=.returning/\w'=w):=by
 refine J9 (args:=[pT b1,pT b2]) func116 Z (λ_ _ hu=>?_)
 refine wpS_seq ?_
 refine ot (v1:=.tuple #[.nilIface,.bool false]) (v2:=.tuple #[.nilIface,.bool false]) (v3:=.nilIface) (v4:=.bool false) (v5:=.nilIface) (v6:=.bool false) DM ?_ ?_ ?_ ?_ ?_ ?_ ?_
 · have h:(Instr.typeAssert .nilIface 20 96 true).run prog w=.ok (.tuple #[.nilIface,.bool false]) w:=by
    unfold Instr.typeAssert
    simp[run_underlying underlying96]
   simp only[execOp]
   exact qb2 (λr=>Result.andThen r λa w'=>Result.ok (Next.value a) w') h
 · rfl
 · rfl
 · rfl
 · rfl
 · rfl
 refine wpS_of_wp (wpIn_wide (n:=0).1 ?_)
 refine gU (r:=none) ?_
 refine gl (r:=none) ?_
 refine aa (r:=none) (aT (v:=.bool false) Z ?_)
 refine aa (r:=none) (aT (v:=.bool false) Z ?_)
 with_reducible refine fp (r:=none) (d:=12) (s:=11) ?_ ?_ ?_
 exact Z
 exact Z
 with_reducible refine fp (r:=none) (d:=13) (s:=11) ?_ ?_ ?_
 exact Z
 exact Z
 with_reducible refine fp (r:=none) (d:=14) (s:=11) ?_ ?_ ?_
 exact Z
 exact Z
 refine aa (r:=none) (jd (t:=false) (v:=.bool false) Z Z ?_)
 refine eR ?_
 refine em ?_
 refine fM (r:=none) Z ?_
 refine jD (r:=none) ?_
 exact⟨rfl,.returning,by rw[<-hu],_,mg Z,⟨_,rfl⟩,rfl,rfl⟩
def Kk:T9 89 40 #[.slice none 0 0,.slice none 0 0,S [],S [],.int .i64 0]:=by
 intro n a b1 b2 cs _ w hE h1 A1 h2 A2 _ _
 refine J9 (args:=[pT b1,pT b2]) func89 Z (λc₀ ds hu=>?_)
 refine wpS_seq ?_
 refine EZ (v0:=eV a) (cs':={c₀ with mode:=.panicking [{v:=eV a,recovered:=true}]}::ds) (v1:=.tuple #[eV a,.bool true]) (v2:=.tuple #[eV a,.bool true]) (v3:=eV a) (v4:=.bool true) (v5:=eV a) (v6:=.bool true) (by simp[recoverD,hu,pE]) ?_ ?_ ?_ ?_ ?_ ?_ ?_
 · show(do let x <-Instr.typeAssert (eV a) 20 96 true;pure (Next.value x):Sem Next).run prog w=_
   rw[Sem.run_bind,asE a w]
   rfl
 · rfl
 · rfl
 · rfl
 · rfl
 · rfl
 refine wpS_of_wp (wpIn_wide (n:=0).1 ?_)
 refine gU (r:=none) ?_
 refine gl (r:=none) ?_
 refine aa (r:=none) (aT (v:=.bool true) Z ?_)
 refine aa (r:=none) (aT (v:=.bool true) Z ?_)
 with_reducible refine jC (r:=none) (s:=11) (q:=true) ?_ ?_ ?_
 exact Z
 exact Z
 refine(aT (r:=none) (v:=eV a) Z ?_)
 with_reducible refine jC (r:=none) (s:=11) (q:=true) ?_ ?_ ?_
 exact Z
 exact Z
 refine(bE (r:=none) (v:=eV a) (b:=0) (o:=0) underlying96 Z Z (ab3 hE Z) ?_)
 with_reducible refine jC (r:=none) (s:=11) (q:=true) ?_ ?_ ?_
 exact Z
 exact Z
 refine(nL (r:=none) (vs:=[eV a,eV a]) Iu Z (AB a w) ?_)
 rintro v Af O rfl
 refine aa (r:=none) (jd (t:=true) (v:=.bool true) Z Z ?_)
 refine eR ?_
 refine em ?_
 refine k7 (r:=none) Z ?_
 refine gU (r:=none) ?_
 refine gl (r:=none) ?_
 refine aa (r:=none) (DU dD (λAm E _ hb=>?_))
 refine eR ?_
 refine em ?_
 refine gl (r:=none) ?_
 have B1:=ac7 E (ac7 O h1)
 have B2:=ac7 E (ac7 O h2)
 refine aa (r:=none) (aN (cs:=[.slice none 0 0,.slice none 0 0,S [],S [],.int .i64 0]) (b:=Af.heap.size) (o:=0) underlying40 Z dJ Z (aa0 hb (i:=0) Z) ?_)
 refine aa (r:=none) (bB (b:=b1) (o:=0) (vs:=[.slice none 0 0,.slice none 0 0,S [],S [],.int .i64 0]) dJ Z Z Hx B1 (by rw[A1];exact qa0 _) (λA0 p3 Ab=>?_))
 have C1:ao A0 b1 40 #[.slice none 0 0,.slice none 0 0,S [],S [],.int .i64 0]:=by
  have e:putCells cs 0 [.slice none 0 0,.slice none 0 0,S [],S [],.int .i64 0]=#[.slice none 0 0,.slice none 0 0,S [],S [],.int .i64 0]:=by
   obtain⟨l⟩:=cs;rcases l with _|⟨x4,_|⟨x3,_|⟨x2,_|⟨x1,_|⟨x0,_|⟨x,l⟩⟩⟩⟩⟩⟩ <;>first|rfl|(simp at A1;done)
  rwa [e]at Ab
 refine aa (r:=none) (b7 (b:=b2) (o:=0) (v:=.int .i64 140) Nj Z Z Z (ab0 p3 (λe=>A2 e.symm) B2) JT (λ_ p4 Ao=>?_))
 refine eR ?_
 exact⟨rfl,_,rfl,_,mg Z,⟨_,rfl⟩,rfl,Am,A0,O.trans E,p3,p4,ab0 p4 (λe=>A2 e) C1,Ao⟩
def Kl:T9 97 3 #[.int .i64 0]:=by
 intro n a b1 b2 cs _ w hE h1 A0 h2 A1 _ _
 refine J9 (args:=[pT b1,pT b2]) func97 Z (λc₀ ds hu=>?_)
 refine wpS_seq ?_
 refine EZ (v0:=eV a) (cs':={c₀ with mode:=.panicking [{v:=eV a,recovered:=true}]}::ds) (v1:=.tuple #[eV a,.bool true]) (v2:=.tuple #[eV a,.bool true]) (v3:=eV a) (v4:=.bool true) (v5:=eV a) (v6:=.bool true) (by simp[recoverD,hu,pE]) ?_ ?_ ?_ ?_ ?_ ?_ ?_
 · show(do let x <-Instr.typeAssert (eV a) 20 96 true;pure (Next.value x):Sem Next).run prog w=_
   rw[Sem.run_bind,asE a w]
   rfl
 · rfl
 · rfl
 · rfl
 · rfl
 · rfl
 refine wpS_of_wp (wpIn_wide (n:=0).1 ?_)
 refine gU (r:=none) ?_
 refine gl (r:=none) ?_
 refine aa (r:=none) (aT (v:=.bool true) Z ?_)
 refine aa (r:=none) (aT (v:=.bool true) Z ?_)
 with_reducible refine jC (r:=none) (s:=11) (q:=true) ?_ ?_ ?_
 exact Z
 exact Z
 refine(aT (r:=none) (v:=eV a) Z ?_)
 with_reducible refine jC (r:=none) (s:=11) (q:=true) ?_ ?_ ?_
 exact Z
 exact Z
 refine(bE (r:=none) (v:=eV a) (b:=0) (o:=0) underlying96 Z Z (ab3 hE Z) ?_)
 with_reducible refine jC (r:=none) (s:=11) (q:=true) ?_ ?_ ?_
 exact Z
 exact Z
 refine(nL (r:=none) (vs:=[eV a,eV a]) Iu Z (AB a w) ?_)
 rintro v Ab E rfl
 refine aa (r:=none) (jd (t:=true) (v:=.bool true) Z Z ?_)
 refine eR ?_
 refine em ?_
 refine k7 (r:=none) Z ?_
 refine gU (r:=none) ?_
 refine gl (r:=none) ?_
 refine aa (r:=none) (aL (v:=.int .i64 0) Z ?_)
 refine eR ?_
 refine em ?_
 refine gl (r:=none) ?_
 have B1:=ac7 E h1
 have B2:=ac7 E h2
 refine aa (r:=none) (aT (v:=.int .i64 0) Z ?_)
 refine aa (r:=none) (b7 (b:=b1) (o:=0) (v:=.int .i64 0) ie Z Z Z B1 (by rw[A0];exact Nat.zero_lt_one) (λO p3 A2=>?_))
 have C1:ao O b1 3 #[.int .i64 0]:=by
  have e:cs.setIfInBounds 0 (.int .i64 0)=#[.int .i64 0]:=by
   obtain⟨l⟩:=cs;rcases l with _|⟨x,_|⟨y,l⟩⟩ <;>first|rfl|(simp at A0;done)
  rwa [e]at A2
 refine aa (r:=none) (b7 (b:=b2) (o:=0) (v:=.int .i64 140) Nj Z Z Z (ab0 p3 (λe=>A1 e.symm) B2) JT (λ_ p4 Af=>?_))
 refine eR ?_
 exact⟨rfl,_,rfl,_,mg Z,⟨_,rfl⟩,rfl,Ab,O,E,p3,p4,ab0 p4 (λe=>A1 e) C1,Af⟩
def uG (s:Nat)(A:Option Addr)(c i:Nat):Option Addr:=if c=i then A else A.map (·.add (i*s))
section
variable {P:Program}{r:Option Nat}{ds:List Deferred}{Q:Exit->Act->World->Prop}{K:Act->World->Prop}
variable {d ty:Nat}{pos:String}{af:Array Edge}{g:Option (Nat×Bool)}{u:Value}{x y:Operand}{t':TypeId}
def ym {m:Nat}{k:IntKind}{lo:Operand}(hu:P.underlying t=some (.slice el))(hi0:(P.info? el).map (·.size)=some s)(hx:ev N e x=.slice A m c)(hlo:ev N e lo=.int k (i:Int))(hij:i<=m)(hj:m<=c)(hk:K (act N (upd e d (.slice (uG s A c i) (m-i) (c-i))) ds) w):
 Oper.wpIn (Fw r) n P ⟨some d,.slice t x (some lo) none none,ty,pos,af,g⟩ (act N e ds) w K Q:=
 y7 (i:=i) (j:=m) hu hi0 hx (.inr ⟨k,qb2 some hlo⟩) (.inl ⟨rfl,rfl⟩) hij hj hk
end
def add_mid (ad:Addr)(k:Nat):(ad.add k).block=ad.block:=by unfold Addr.add;split <;>rfl
def Rw.fromA {cs:List Value}{m:Nat}(h:Rw W lo A cs)(hl:cs.length=m*s)(hm:m<=c)(hi:i<=m):Rw W lo (uG s A c i) (cs.drop (i*s)):=by
 unfold uG
 by_cases hc:c=i
 · rw[if_pos hc]
   have:cs.drop (i*s)=[]:=List.drop_eq_nil_of_le (by rw[hl];exact Nat.mul_le_mul_right _ U)
   rw[this]
   exact⟨λj u hu=>by simp at hu,h.lo,h.hi⟩
 · rw[if_neg hc]
   refine⟨λj u hu=>?_,λad e=>?_,λad e=>?_⟩
   · rw[List.getElem?_drop]at hu
     obtain⟨b,o,rfl,hv⟩:=h.cells _ u hu
     exact⟨b,o+i*s,by simp[Addr.add_mid],by rw[Nat.add_assoc];exact hv⟩
   · cases A with
     |none=>cases e
     |some a=>cases e;show lo<=(a.add (i*s)).block;rw[add_mid];exact h.lo a Z
   · cases A with
     |none=>cases e
     |some a=>cases e;show(a.add (i*s)).block<_;rw[add_mid];exact h.hi a Z
def Mt.drop {L:Rows}(h:Mt W lo A n H L)(hn:n<=c)(hi:i<=n):Mt W lo (uG 1 A c i) (n-i) (λk=>H (k+i)) (λk=>L (k+i)):=by
 refine⟨?_,λk hk=>h.hdr _ U,λk hk=>h.row _ U,λk hk=>h.cap _ U⟩
 have h1:=Rw.fromA (i:=i) (s:=1) h.out JT hn hi
 have:((List.range n).map H).drop (i*1)=(List.range (n-i)).map λk=>H (k+i):=by
  apply List.ext_getElem
  · simp
  · intro j h1 h2;simp[Nat.add_comm]
 rw[this]at h1
 exact h1
def mE:∀(l:List R) (i:Nat),(ag l).drop (i*2)=ag (l.drop i)
 |l,0=>by simp
 |[],i+1=>by simp[ag]
 | a::l,i+1=>by
   have:=mE l i
   rw[show(i+1)*2=i*2+2 by omega]
   simpa[ag]using this
def Rw.fromR {xs:List R}(h:Rw W lo A (ag xs))(hm:xs.length<=c)(hi:i<=xs.length):Rw W lo (uG 2 A c i) (ag (xs.drop i)):=by
 have:=Rw.fromA (i:=i) (s:=2) h (fI _) hm hi
 rwa [mE]at this
def ec (p:Nat->Bool):Nat->Nat->Nat
 |0,i=>i
 |f+1,i=>if p i then i else ec p f (i+1)
def Km (h:¬i<n):ec p (n-i) i=i:=by rw[show n-i=0 by omega];rfl
def Kn (h:i<n)(hp:p i=true):ec p (n-i) i=i:=by
 rw[show n-i=(n-(i+1))+1 by omega];unfold ec;rw[if_pos hp]
def qZ (h:i<n)(hp:p i=false):ec p (n-i) i=ec p (n-(i+1)) (i+1):=by
 rw[show n-i=(n-(i+1))+1 by omega];conv=>lhs;unfold ec
 rw[if_neg (by rw[hp];simp)]
def q5 (p:Nat->Bool)(n:Nat):∀f i,i+f=n->i<=ec p f i/\ec p f i<=n/\(∀j,i<=j->j<ec p f i->p j=false)/\(ec p f i<n->p (ec p f i)=true)
 |0,i,h=>by unfold ec;exact⟨qa0 _,by omega,λj _ _=>by omega,λ_=>by omega⟩
 | f +1,i,h=>by
   unfold ec
   cases hp:p i with
   |true=>rw[if_pos Z];exact⟨qa0 _,by omega,λj _ _=>by omega,λ_=>hp⟩
   | false=>
     rw[if_neg JT]
     obtain⟨h1,h2,h3,h4⟩:=q5 p n f (i+1) U
     exact⟨by omega,h2,λj O E=>by by_cases e:j=i;exact e▸hp;exact h3 j U E,h4⟩
def sY :ec p n 0<n↔∃i,i<n/\p i=true:=by
 obtain⟨_,_,h3,h4⟩:=q5 p n n 0 U
 constructor
 · intro h;exact⟨_,h,h4 h⟩
 · rintro⟨i,hi,hp⟩
   refine Nat.lt_of_not_ge λ_=>?_
   have:=h3 i (qa7 _) U;rw[hp]at this;cases this
def Dd (p:Nat->Bool)(n:Nat):Int:=if ec p n 0<n then((ec p n 0:Nat):Int)else -1
def yn (h:i<n)(hp:p i=true)(hq:ec p (n-i) i=ec p n 0):((i:Nat):Int)=Dd p n:=by
 rw[Kn h hp]at hq;unfold Dd;rw[<-hq,if_pos h]
def yo (h:¬i<n)(hq:ec p (n-i) i=ec p n 0):-1=Dd p n:=by
 rw[Km h]at hq;unfold Dd;rw[<-hq,if_neg h]
def E2 (p:Nat->Bool)(n:Nat):decide ((0:Int)<=Dd p n)=decide (ec p n 0<n):=by
 unfold Dd;split <;>rename_i h <;>simp[h]
abbrev pz (L:Rows)(r c:Nat):Nat->Bool:=λi=>!decide (ar (L (i+r)) c=z0)
def Bd (n:Nat)(L:Rows):Prop:=n<=1000000/\∀i,i<n->(L i).length<=1000000/\∀k,k<(L i).length->C3 (ar (L i) k)
def BdV (l:List R):Prop:=l.length<=1000000/\∀k,k<l.length->C3 (ar l k)
def Bd.row {L:Rows}(h:Bd n L)(hi:i<n):BdV (L i):=h.2 i hi
def ek {l:List R}(h:k<l.length):ar l k=l[k]:=by simp[ar,List.getD,h]
def lE {l:List R}:l.all bL=true↔∀k,k<l.length->bL (ar l k)=true:=by
 rw[List.all_eq_true]
 constructor
 · intro h k hk;rw[ek hk];exact h _ (List.getElem_mem hk)
 · intro h a E;obtain⟨k,hk,rfl⟩:=List.mem_iff_getElem.1 E;rw[<-ek hk];exact h k hk
def E3 (l:List R):(!decide (ec (λk=> !bL (ar l k)) l.length 0<l.length))=l.all bL:=by
 cases e:l.all bL with
 | true=>
   have h:=lE.1 e
   simp only[Bool.not_eq_true',decide_eq_false_iff_not,sY]
   rintro⟨i,hi,hp⟩;rw[h i hi]at hp;cases hp
 | false=>
   simp only[Bool.not_eq_false',decide_eq_true_eq,sY]
   refine qb6 λE=>?_
   have:l.all bL=true:=lE.2 λk hk=>by
    cases h:bL (ar l k)with
    |true=>rfl
    |false=>exact absurd ⟨k,hk,by simp[h]⟩ E
   rw[e]at this;cases this
def Ko (m:Nat)(l:List R):Prop:=l.length=m/\l.all bL=true
instance (m:Nat) (l:List R):Decidable (Ko m l):=by unfold Ko;infer_instance
def VM (n:Nat)(L:Rows):Prop:=1<=n/\n<=8/\1<=(L 0).length/\(L 0).length<=8/\∀i,i<n->Ko (L 0).length (L i)
instance (n:Nat) (L:Rows):Decidable (VM n L):=by unfold VM;infer_instance
def vM (n:Nat)(L:Rows):Bool:=decide (VM n L)
def VM.ok {L:Rows}(h:VM n L):qt n (L 0).length L:=λi hi=>⟨(h.2.2.2.2 i hi).1,λk hk=>lE.1 (h.2.2.2.2 i hi).2 k (by rw[(h.2.2.2.2 i hi).1];exact hk)⟩
def Ua {L:Rows}(h1:1<=n)(h2:n<=8)(h3:1<=(L 0).length)(h4:(L 0).length<=8):(!decide (ec (λi=> !decide ((L i).length=(L 0).length)|| !(L i).all bL) n 0<n))=vM n L:=by
 unfold vM
 by_cases e:VM n L
 · rw[decide_eq_true e]
   simp only[Bool.not_eq_true',decide_eq_false_iff_not,sY]
   rintro⟨i,hi,hp⟩
   have:=e.2.2.2.2 i hi
   simp[this.1,this.2]at hp
 · rw[decide_eq_false e]
   simp only[Bool.not_eq_false',decide_eq_true_eq,sY]
   refine qb6 λE=>e ⟨h1,h2,h3,h4,λi hi=>?_⟩
   have:¬((!decide ((L i).length=(L 0).length)|| !(L i).all bL)=true):=λh=>E ⟨i,hi,h⟩
   simp only[Bool.or_eq_true,Bool.not_eq_true',decide_eq_false_iff_not,not_or,Decidable.not_not,Bool.not_eq_false]at this
   exact this
def E8 {L:Rows}(h:¬(1<=n/\n<=8/\1<=(L 0).length/\(L 0).length<=8)):false=vM n L:=by
 unfold vM;rw[decide_eq_false (λe:VM n L=>h ⟨e.1,e.2.1,e.2.2.1,e.2.2.2.1⟩)]
def iG {L:Rows}(h:vM n L=true):VM n L:=of_decide_eq_true h
def m5 {a b:List R}(hl:a.length=b.length)(h:∀j,j<a.length->ar a j=ar b j):a=b:=
 List.ext_getElem hl λi h1 h2=>by rw[<-ek h1,<-ek h2];exact h i h1
def GT {a b:List R}(h:¬ar a j=ar b j):¬a=b:=λe=>h (by rw[e])
def lP (n:Nat)(L:Rows)(n':Nat)(L':Rows):Prop:=n=n'/\∀i,i<n->L i=L' i
instance (n:Nat) (L:Rows) (n':Nat) (L':Rows):Decidable (lP n L n' L'):=by unfold lP;infer_instance
def Na (n:Nat)(L:Rows):Prop:=∀i,i<n->∀k,k<i->ar (L i) k=ar (L k) i
instance (n:Nat) (L:Rows):Decidable (Na n L):=by unfold Na;infer_instance
def dy (lo:Nat)(w:World)(v:Value)(n:Nat)(L:Rows):Prop:=∃A C H,v=.slice A n C/\n<=C/\Mt w lo A n H L
def Gt (H:Nat->Value)(k:Nat):Nat->Value:=λi=>.slice (sA (H i)) k (sC (H i))
def GU (G:Nat->Value)(i:Nat):(List.range i).map G++[G i]=(List.range (i+1)).map G:=by simp[List.range_succ]
def ja:∀(l:List R) (i:Nat),(ag l).take (i*2)=ag (l.take i)
 |l,0=>by simp[ag]
 |[],i+1=>by simp[ag]
 | a::l,i+1=>by
   have:=ja l i
   rw[show(i+1)*2=i*2+2 by omega]
   simpa[ag]using this
def Mt.takes {L:Rows}(h:Mt W lo A n H L)(hk:k<=n)(hl:∀i,i<n->k<=(L i).length)(ho:Rw W lo' B ((List.range k).map (Gt H k)))(hlo:lo<=lo'):Mt W lo B k (Gt H k) (λi=>(L i).take k):=by
 refine⟨ho.mono hlo,λi hi=>?_,λi hi=>?_,λi hi=>?_⟩
 · have:=hl i U;simp only[List.length_take,Nat.min_eq_left this];rfl
 · have:=Rw.take (k*2) (h.row i U);rwa [ja]at this
 · have:=h.cap i U;have:=hl i U;simp only[List.length_take,Nat.min_eq_left this];show k<=sC (H i);omega
def l5 (L:Rows)(k j:Nat):List R:=(List.range k).map λi=>ar (L i) j
def Kr (L:Rows)(k j:Nat):l5 L (k+1) j=l5 L k j++[ar (L k) j]:=by simp[l5,List.range_succ]
def Ks (L:Rows)(j:Nat):l5 L 0 j=[]:=rfl
def pJ (L:Rows)(k j:Nat):(l5 L k j).length=k:=by simp[l5]
def uH (L:Rows)(j:Nat)(h:i<k):ar (l5 L k j) i=ar (L i) j:=by
 rw[ek (by rw[pJ];exact h)];simp[l5]
def dn (l:List R)(q:R):ag l++[S q.1,S q.2]=ag (l++[q]):=by simp[ag]
def uI (l m:List R):ag l++ag m=ag (l++m):=by simp[ag]
def kS (a:List R)(B:Rows)(j:Nat):Nat->Nat->R->Option R
 |0,_,s=>some s
 | f +1,k,s=>match qr (ar a k) (ar (B k) j)with
   |none=>none
   | some p=>match jL s p with
     |none=>none
     |some s'=>kS a B j f (k+1) s'
def lX (a:List R)(B:Rows):Nat->Nat->List R->Option (List R)
 |0,_,l=>some l
 | f+1,j,l=>match kS a B j a.length 0 z0 with
   |none=>none
   |some s=>lX a B f (j+1) (l++[s])
def pK (L:Rows)(B:Rows)(p:Nat):Nat->Nat->Rows->Option Rows
 |0,_,K=>some K
 | f+1,i,K=>match lX (L i) B p 0 []with
   |none=>none
   |some l=>pK L B p f (i+1) (bX K i l)
def pL:Rows:=λ_=>[]
def AC (n p:Nat)(L B:Rows):Option Rows:=pK L B p n 0 pL
section
variable {a l:List R}{B L K:Rows}{m p:Nat}{s q d:R}{T:Option R}{T2:Option (List R)}{T3:Option Rows}
def GV (h:k<m)(hT:kS a B j (m-k) k s=T)(h1:qr (ar a k) (ar (B k) j)=some q)(h2:jL s q=some d):kS a B j (m-(k+1)) (k+1) d=T:=by
 rw[js h]at hT;unfold kS at hT;rw[h1]at hT;dsimp only at hT;rw[h2]at hT;exact hT
def De (h:k<m)(hT:kS a B j (m-k) k s=T)(h1:qr (ar a k) (ar (B k) j)=none):T=none:=by
 rw[js h]at hT;unfold kS at hT;rw[h1]at hT;exact hT.symm
def Df (h:k<m)(hT:kS a B j (m-k) k s=T)(h1:qr (ar a k) (ar (B k) j)=some q)(h2:jL s q=none):T=none:=by
 rw[js h]at hT;unfold kS at hT;rw[h1]at hT;dsimp only at hT;rw[h2]at hT;exact hT.symm
def Kt (h:¬k<m)(hT:kS a B j (m-k) k s=T):T=some s:=by rw[show m-k=0 by omega]at hT;exact hT.symm
def GW (h:j<p)(hT:lX a B (p-j) j l=T2)(h1:kS a B j a.length 0 z0=some s):lX a B (p-(j+1)) (j+1) (l++[s])=T2:=by
 rw[js h]at hT;unfold lX at hT;rw[h1]at hT;exact hT
def wO (h:j<p)(hT:lX a B (p-j) j l=T2)(h1:kS a B j a.length 0 z0=none):T2=none:=by
 rw[js h]at hT;unfold lX at hT;rw[h1]at hT;exact hT.symm
def Ku (h:¬j<p)(hT:lX a B (p-j) j l=T2):T2=some l:=by rw[show p-j=0 by omega]at hT;exact hT.symm
def GX (h:i<n)(hT:pK L B p (n-i) i K=T3)(h1:lX (L i) B p 0 []=some l):pK L B p (n-(i+1)) (i+1) (bX K i l)=T3:=by
 rw[js h]at hT;unfold pK at hT;rw[h1]at hT;exact hT
def wP (h:i<n)(hT:pK L B p (n-i) i K=T3)(h1:lX (L i) B p 0 []=none):T3=none:=by
 rw[js h]at hT;unfold pK at hT;rw[h1]at hT;exact hT.symm
def Kv (h:¬i<n)(hT:pK L B p (n-i) i K=T3):T3=some K:=by rw[show n-i=0 by omega]at hT;exact hT.symm
end
def Fa {a:List R}{B:Rows}:∀{f k:Nat} {s d:R},bL s=true->kS a B j f k s=some d->bL d=true
 |0,_,_,_,hs,h=>by cases h;exact hs
 | f +1,k,s,d,hs,h=>by
   unfold kS at h
   cases h1:qr (ar a k) (ar (B k) j)with
   |none=>rw[h1]at h;cases h
   | some q=>
     rw[h1]at h;dsimp only at h
     cases h2:jL s q with
     |none=>rw[h2]at h;cases h
     |some d'=>rw[h2]at h;exact Fa (ER h2) h
def Rn:bL z0=true:=us
def dp (n:Nat)(L:Rows)(m:Nat)(B:Rows):Option Rows:=if vM n L=true/\vM m B=true/\(L 0).length=m then AC n (B 0).length L B else none
def uR (i k:Nat):List R:=(List.range k).map λj=>if i=j then o1 else z0
def Xl (h:i=k):uR i (k+1)=uR i k++[o1]:=by simp[uR,List.range_succ,h]
def Xm (h:¬i=k):uR i (k+1)=uR i k++[z0]:=by simp[uR,List.range_succ,h]
def mF (i k:Nat):(uR i k).length=k:=by simp[uR]
def pM {α:Type}(f:Nat->α)(i:Nat):bX f i (f i)=f:=funext λj=>by unfold bX;split <;>simp_all
def nh (lo:Nat)(w:World)(n:Nat):Option Rows->Value->Prop
 |none,v=>v=.tuple #[.slice none 0 0,.int .i64 130]
 |some K,v=>∃u,v=.tuple #[u,.int .i64 0]/\dy lo w u n K
def AD {lo:Nat}{w:World}{L:Rows}:dy lo w (.slice none 0 0) 0 L:=⟨none,0,λ_=>.nilIface,rfl,qa0 _,⟨by simpa using Rw.nil w lo,λi h=>by omega,λi h=>by omega,λi h=>by omega⟩⟩
def pO {hi:Nat}{L:Rows}(ho:w.ownsRow lo 28 1 v n ((List.range n).map H))(hw:Wr w lo hi n H L):dy lo w v n L:=
 ⟨sA v,sC v,H,dl ho,m0 ho,hw.mt (fh ho)⟩
def dy.mono {L:Rows}(hl:lo'<=lo)(h:dy lo w v n L):dy lo' w v n L:=by
 obtain⟨A,C,H,rfl,hc,hM⟩:=h;exact⟨A,C,H,rfl,hc,hM.mono hl⟩
def dy.congr {L L':Rows}(h:dy lo w v n L)(hL:∀i,i<n->L i=L' i):dy lo w v n L':=by
 obtain⟨A,C,H,rfl,hc,hM⟩:=h;exact⟨A,C,H,rfl,hc,hM.congr hL⟩
def Ro (b:Bool):Int:=if b then 0 else 130
def GY (o:Option Nat):Value:=.tuple #[.int .i64 ((o.getD 0:Nat):Int),.int .i64 (Ro o.isSome)]
def Kw (o:Option R):Value:=.tuple #[.agg #[S (rN o),S (rD o)],.int .i64 (Ro o.isSome)]
def GZ (o:Option Bool):Value:=.tuple #[.bool (o.getD false),.int .i64 (Ro o.isSome)]
def ke (n:Nat)(L:Rows):Option Nat:=if vM n L=true then(elim n (L 0).length (L 0).length L).map λs=>s.piv.length else none
def im (l:List R):Nat->Nat->R->Option R
 |0,_,d=>some d
 | f+1,i,d=>match qr d (ar l i)with
   |none=>none
   |some p=>im l f (i+1) p
def so (d:R):R:=(rN (dx z0 d),rD (dx z0 d))
def ox (n:Nat)(s:El):Option R:=if s.piv.length<n then some z0 else(im s.piv s.piv.length 0 o1).map λd=>if s.sw%2=1 then so d else d
def vH (n:Nat)(L:Rows):Bool:=vM n L&&decide (n=(L 0).length)
def kT (n:Nat)(L:Rows):Option R:=if vH n L=true then(elim n n n L).bind (ox n)else none
section
variable {l:List R}{d p:R}{T:Option R}
def Dh (h:i<n)(hT:im l (n-i) i d=T)(h1:qr d (ar l i)=some p):im l (n-(i+1)) (i+1) p=T:=by
 rw[js h]at hT;unfold im at hT;rw[h1]at hT;exact hT
def Di (h:i<n)(hT:im l (n-i) i d=T)(h1:qr d (ar l i)=none):T=none:=by
 rw[js h]at hT;unfold im at hT;rw[h1]at hT;exact hT.symm
def G1 (h:¬i<n)(hT:im l (n-i) i d=T):T=some d:=by rw[show n-i=0 by omega]at hT;exact hT.symm
end
def nG {L:Rows}(h:vH n L=true):VM n L/\n=(L 0).length:=by
 unfold vH at h;simp only[Bool.and_eq_true,decide_eq_true_eq]at h;exact⟨iG h.1,h.2⟩
def Dj {L:Rows}(h:vM n L=true)(h2:n=(L 0).length):vH n L=true:=by unfold vH;rw[h,decide_eq_true h2];rfl
def Kx {m:Nat}{s s':El}(h:py n m c s=some s')(ho:qt n m s.L)(hc:c<m)(hp:∀k,k<s.piv.length->bL (ar s.piv k)=true)(hl:s.piv.length<=n):∀k,k<s'.piv.length->bL (ar s'.piv k)=true:=by
 unfold py at h
 split at h
 · cases h;exact hp
 · rename_i hne
   split at h
   · cases h
   · split at h
     · cases h
     · cases h
       intro k hk
       rw[List.length_append]at hk
       by_cases hk2:k<s.piv.length
       · have:ar (s.piv++[ar (s.L (iF c s.L (n-s.piv.length) s.piv.length)) c]) k=ar s.piv k:=by
          unfold ar;simp[List.getD,List.getElem?_append_left hk2]
         show bL (ar (s.piv++_) k)=true
         rw[this];exact hp k hk2
       · have E:k=s.piv.length:=by simp at hk;omega
         subst E
         have:ar (s.piv++[ar (s.L (iF c s.L (n-s.piv.length) s.piv.length)) c]) s.piv.length=ar (s.L (iF c s.L (n-s.piv.length) s.piv.length)) c:=by
          unfold ar;simp[List.getD]
         show bL (ar (s.piv++_) _)=true
         rw[this]
         have hb:=sU c s.L (n-s.piv.length) s.piv.length
         exact(ho _ U).2 c hc
def AE {m r:Nat}{pv:R}(hr:r<n):∀(f k:Nat) (L L':Rows),k+f<=m->qt n m L->mD r pv f k L=some L'->qt n m L'
 |0,_,_,_,_,h,e=>by cases e;exact h
 | f+1,k,L,L',hk,h,e=>by
   unfold mD at e
   cases h1:mB (ar (L r) k) pv with
   |none=>rw[h1]at e;cases e
   |some q=>rw[h1]at e;exact AE hr f (k+1) _ L' U (qt.set h U hr (EQ h1)) e
def AF {m r:Nat}{by_:R}(hi:i<n):∀(f k:Nat) (L L':Rows),k+f<=m->qt n m L->lW r i by_ f k L=some L'->qt n m L'
 |0,_,_,_,_,h,e=>by cases e;exact h
 | f +1,k,L,L',hk,h,e=>by
   unfold lW at e
   cases h1:qr by_ (ar (L r) k)with
   |none=>rw[h1]at e;cases e
   | some q=>
     rw[h1]at e;dsimp only at e
     cases h2:dx (ar (L i) k) q with
     |none=>rw[h2]at e;cases e
     |some d=>rw[h2]at e;exact AF hi f (k+1) _ L' U (qt.set h U hi (yf h2)) e
def uJ {m r:Nat}(hc:c<=m):∀(f i:Nat) (L L':Rows),i+f<=n->qt n m L->kq m r c f i L=some L'->qt n m L'
 |0,_,_,_,_,h,e=>by cases e;exact h
 | f + 1,i,L,L',hi,h,e=>by
   unfold kq at e
   split at e
   · exact uJ hc f (i+1) L L' U h e
   · split at e
     · cases e
     · rename_i L1 h1
       exact uJ hc f (i+1) _ L' U (AF U (m-c) c L L1 U h h1) e
def Ky {m:Nat}{s s':El}(h:py n m c s=some s')(ho:qt n m s.L)(hc:c<m)(hl:s.piv.length<=n):qt n m s'.L/\s'.piv.length<=n/\(s.cols.length=s.piv.length->s'.cols.length=s'.piv.length)/\s.piv.length<=s'.piv.length:=by
 unfold py at h
 split at h
 · cases h;exact⟨ho,hl,λh=>h,qa0 _⟩
 · rename_i hne
   have hb:=sU c s.L (n-s.piv.length) s.piv.length
   split at h
   · cases h
   · rename_i L2 h2
     split at h
     · cases h
     · rename_i L3 h3
       cases h
       have o1:=AE U _ _ _ _ U (qt.sw ho U U) h2
       exact⟨uJ U _ _ _ _ U o1 h3,by simp;omega,λh=>by simp[h],by simp⟩
def AG {n m:Nat}:∀(f c:Nat) (s s':El),c+f<=m->qt n m s.L->(∀k,k<s.piv.length->bL (ar s.piv k)=true)->s.piv.length<=n->s.cols.length=s.piv.length->(∀x∈s.cols,x<c)->s.piv.length<=c->il n m f c s=some s'->
 qt n m s'.L/\(∀k,k<s'.piv.length->bL (ar s'.piv k)=true)/\s'.piv.length<=n/\s'.cols.length=s'.piv.length/\(∀x∈s'.cols,x<c+f)/\s'.piv.length<=c+f
 |0,c,s,s',_,h1,h2,h3,h4,h5,h6,e=>by cases e;exact⟨h1,h2,h3,h4,h5,h6⟩
 | f + 1, c, s,s',hf,h1,h2,h3,h4,h5,h6,e=>by
   unfold il at e
   split at e
   · cases e
   · rename_i s1 hs
     have a:=Ky hs h1 U h3
     have b:=Kx hs h1 U h2 h3
     have hc:(∀x∈s1.cols,x<c+1)/\s1.piv.length<=c+1:=by
      unfold py at hs
      split at hs
      · cases hs;exact⟨λx hx=>by have:=h5 x hx;omega,by omega⟩
      · split at hs
        · cases hs
        · split at hs
          · cases hs
          · cases hs
            refine⟨λx hx=>?_,by simp;omega⟩
            rcases List.mem_append.1 hx with h|h
            · have:=h5 x h;omega
            · simp at h;omega
     have:=AG f (c+1) s1 s' U a.1 b a.2.1 (a.2.2.1 h4) hc.1 hc.2 e
     exact⟨this.1,this.2.1,this.2.2.1,this.2.2.2.1,λx hx=>by have:=this.2.2.2.2.1 x hx;omega,by have:=this.2.2.2.2.2;omega⟩
def mG {m cols:Nat}{L:Rows}{s:El}(h:qt n m L)(hc:cols<=m)(e:elim n m cols L=some s):
 qt n m s.L/\(∀k,k<s.piv.length->bL (ar s.piv k)=true)/\s.piv.length<=n/\s.cols.length=s.piv.length/\(∀x∈s.cols,x<cols)/\s.piv.length<=cols:=by
 have:=AG cols 0 ⟨L,[],[],0⟩ s U h (λk hk=>by simp at hk) JT Z JT JT e
 simpa using this
def AH {l:List R}:∀{f i:Nat} {d p:R},bL d=true->im l f i d=some p->bL p=true
 |0,_,_,_,h,e=>by cases e;exact h
 | f+1,i,d,p,h,e=>by
   unfold im at e
   cases h1:qr d (ar l i)with
   |none=>rw[h1]at e;cases e
   |some q=>rw[h1]at e;exact AH (EO h1) e
def YC:bL o1=true:=by decide +kernel
def q6 {d:R}(h:bL d=true):dx z0 d=some (so d):=by
 have:=T1 h
 unfold so
 cases e:dx z0 d with
 |none=>unfold z0 at e;rw[e]at this;cases this
 |some q=>rfl
def Fb {d:R}(h:bL d=true):bL (so d)=true:=yf (q6 h)
end
section
open Go.Eng Tryz
attribute [local irreducible] wpListIn Code.wpIn Oper.wpIn Exit.then Exit.inBlock Exit.noGoto
set_option maxHeartbeats 40000000
def gI {hi:Nat}{L:Nat->List R}(h:Ho W A n H)(hw:Wr W lo hi n H L)(hi':i<n):
 A=some ⟨ci A,gH A,none⟩/\W.cell? ⟨ci A,gH A+i,none⟩=some (.slice (sA (H i)) (L i).length (sC (H i))):=by
 rw[<-hw.hdr hi'];exact h.cell hi'
def Ub (p r:Nat)(H:Nat->Value):Nat->Value:=λi=>H (sl p r i)
def OK {hi p r:Nat}{L:Nat->List R}(hw:Wr W lo hi n H L)(hp:p<n)(hr:r<n)(h:Ho W A n (bX (bX H p (.slice (sA (H r)) (L r).length (sC (H r)))) r (.slice (sA (H p)) (L p).length (sC (H p))))):Ho W A n (Ub p r H):=by
 refine h.congr λi hi=>?_
 unfold Ub
 rw[<-hw.hdr hp,<-hw.hdr hr]
 unfold sl bX
 by_cases h1:i=r
 · subst h1;by_cases h2:i=p <;>simp[h2]
 · by_cases h2:i=p
   · subst h2;simp[h1]
   · simp[h1,h2]
def Zg (w:World)(lo:Nat)(v:Value)(l:List R):Prop:=v=.slice (sA v) l.length (sC v)/\Rw w lo (sA v) (ag l)
def Zh (w:World)(lo:Nat)(v:Value)(l:List Nat):Prop:=v=.slice (sA v) l.length (sC v)/\Rw w lo (sA v) (ints l)
def vI (lo n:Nat)(w:World)(s:El)(last:Value)(v:Value):Prop:=
 ∃A C H vp vc,v=.agg #[.slice A n C,vp,vc,last]/\n<=C/\Mt w lo A n H s.L/\Zg w lo vp s.piv/\Zh w lo vc s.cols
def kU {α:Type}(f:Nat->α)(i:Nat):bX f i (f i)=f:=funext λj=>by unfold bX;split <;>simp_all
set_option maxRecDepth 100000
abbrev hdr (H:Nat->Value)(L:Rows)(i:Nat):Value:=.slice (sA (H i)) (L i).length (sC (H i))
def Uc {xs:List R}(hx:Rw w lo A (ag xs))(hg:Enters prog gf)(hf:∀i W,i<xs.length->aP w W->CL gf (.agg #[S (ar xs i).1,S (ar xs i).2]::lb).toArray W (aI W λv _=>v=.bool (p i)))(hn:xs.length<=1000000):
 CL 129 #[.slice A xs.length C,.func (.func gf) #[] lb.toArray] w (aI w λv w'=>v=.int .i64 (Dd p xs.length)):=by
 refine aE func129 Z (I ?_);have E1:=aa1 w;refine cg [(4,5),(8,18)] (λA1 e W=>∃i:Nat,(xs.length-i=A1)/\(e 8=.int .i64 i)/\(i<=xs.length)/\(ec p (xs.length-i) i=ec p xs.length 0)/\(aP w W)) (xs.length-0) ⟨0,rfl,rfl,(qa7 _),rfl,E1⟩ ?_;rintro _ _ _ ⟨i,rfl,Af,hi_i,hq,E6⟩;by_cases hl_i:i<xs.length;by_cases E:p i=true;have A2:=bA (hx.ext E6) (k:=(i)) U;refine I ?_;refine lU A2 (I ?_);refine aa (lV (f:=gf) (lb:=lb) (vs:=[.agg #[S ((ar xs i).1),S ((ar xs i).2)]]) hg Z Z (hf i _ hl_i E6) ?_);rintro _ _ O rfl;have O:=O.2;have E6:=xt E6 O;refine I ?_;exact am (t:=4) (v:=.int .i64 i) Z E6 (qb2 (Value.int .i64) (yn hl_i E hq)) Z;have E:p i=false:=by simpa using E
 have Ab:=bA (hx.ext E6) (k:=(i)) U;refine I ?_;refine lU Ab (I ?_);refine aa (lV (f:=gf) (lb:=lb) (vs:=[.agg #[S ((ar xs i).1),S ((ar xs i).2)]]) hg Z Z (hf i _ hl_i E6) ?_);rintro _ _ A0 rfl;have A0:=A0.2;have E6:=xt E6 A0;refine I ?_;refine gO (I ?_);exact bJ ⟨i+1,rfl,rfl,U,((qZ hl_i E).symm.trans hq),E6⟩;refine I ?_;exact am (t:=4) (v:=.int .i64 (-1)) Z E6 (qb2 (Value.int .i64) (yo hl_i hq)) Z
def Kz {xs:List R}(hx:Rw w lo A (ag xs))(hg:Enters prog gf)(hf:∀i W,i<xs.length->aP w W->CL gf (.agg #[S (ar xs i).1,S (ar xs i).2]::lb).toArray W (aI W λv _=>v=.bool (p i)))(hn:xs.length<=1000000):
 CL 77 #[.slice A xs.length C,.func (.func gf) #[] lb.toArray] w (aI w λv w'=>v=.bool (decide (ec p xs.length 0<xs.length))):=by
 refine aE func77 Z (I ?_);refine cl V8 (Uc (hx.ext (aa1 _)) hg (λi W hi hE=>hf i W hi (xt (aa1 _) hE)) hn) ?_;rintro _ _ E rfl;have E16:=E.2;refine I ?_;exact am (t:=4) (v:=.bool (decide (0<=(Dd p xs.length)))) Z E16 (qb2 Value.bool (E2 _ _)) Z
def Ud {L:Rows}(hM:Mt w lo A n H L)(hg:Enters prog gf)(hf:∀i W,i<n->aP w W->CL gf (hdr H L i::lb).toArray W (aI W λv _=>v=.bool (p i)))(hn:n<=1000000):
 CL 153 #[.slice A n C,.func (.func gf) #[] lb.toArray] w (aI w λv w'=>v=.int .i64 (Dd p n)):=by
 refine aE func153 Z (I ?_);have E17:=aa1 w;refine cg [(4,5),(8,18)] (λA1 e W=>∃i:Nat,(n-i=A1)/\(e 8=.int .i64 i)/\(i<=n)/\(ec p (n-i) i=ec p n 0)/\(aP w W)) (n-0) ⟨0,rfl,rfl,(qa7 _),rfl,E17⟩ ?_;rintro _ _ _ ⟨i,rfl,Af,hi_i,hq,E22⟩;by_cases hl_i:i<n;by_cases E:p i=true;have A2:=ab2 (hM.ext E22) (i:=(i)) U;refine I ?_;refine gR A2 (I ?_);refine aa (lV (f:=gf) (lb:=lb) (vs:=[.slice (sA (H i)) ((L i).length) (sC (H i))]) hg Z Z (hf i _ hl_i E22) ?_);rintro _ _ O rfl;have O:=O.2;have E22:=xt E22 O;refine I ?_;exact am (t:=4) (v:=.int .i64 i) Z E22 (qb2 (Value.int .i64) (yn hl_i E hq)) Z;have E:p i=false:=by simpa using E
 have Ab:=ab2 (hM.ext E22) (i:=(i)) U;refine I ?_;refine gR Ab (I ?_);refine aa (lV (f:=gf) (lb:=lb) (vs:=[.slice (sA (H i)) ((L i).length) (sC (H i))]) hg Z Z (hf i _ hl_i E22) ?_);rintro _ _ A0 rfl;have A0:=A0.2;have E22:=xt E22 A0;refine I ?_;refine gO (I ?_);exact bJ ⟨i+1,rfl,rfl,U,((qZ hl_i E).symm.trans hq),E22⟩;refine I ?_;exact am (t:=4) (v:=.int .i64 (-1)) Z E22 (qb2 (Value.int .i64) (yo hl_i hq)) Z
def Ue {L:Rows}(hM:Mt w lo A n H L)(hg:Enters prog gf)(hf:∀i W,i<n->aP w W->CL gf (hdr H L i::lb).toArray W (aI W λv _=>v=.bool (p i)))(hn:n<=1000000):
 CL 110 #[.slice A n C,.func (.func gf) #[] lb.toArray] w (aI w λv w'=>v=.bool (decide (ec p n 0<n))):=by
 refine aE func110 Z (I ?_);refine cl Y2 (Ud (hM.ext (aa1 _)) hg (λi W hi hE=>hf i W hi (xt (aa1 _) hE)) hn) ?_;rintro _ _ E rfl;have E32:=E.2;refine I ?_;exact am (t:=4) (v:=.bool (decide (0<=(Dd p n)))) Z E32 (qb2 Value.bool (E2 _ _)) Z
def KA {L:Rows}(hM:Mt w lo A n H L)(hg:Enters prog gf)(hf:∀i W,i<n->aP w W->CL gf (hdr H L i::lb).toArray W (aI W λv _=>v=.bool (p i)))(hn:n<=1000000):
 CL 114 #[.slice A n C,.func (.func gf) #[] lb.toArray] w (aI w λv w'=>v=.int .i64 (Dd p n)):=by
 refine aE func114 Z (I ?_);have E33:=aa1 w;refine cg [(4,5),(8,18)] (λAb e W=>∃i:Nat,(n-i=Ab)/\(e 8=.int .i64 i)/\(i<=n)/\(ec p (n-i) i=ec p n 0)/\(aP w W)) (n-0) ⟨0,rfl,rfl,(qa7 _),rfl,E33⟩ ?_;rintro _ _ _ ⟨i,rfl,p37,hi_i,hq,E38⟩;by_cases hl_i:i<n;by_cases E:p i=true;have A1:=ab2 (hM.ext E38) (i:=(i)) U;refine I ?_;refine gR A1 (I ?_);refine aa (lV (f:=gf) (lb:=lb) (vs:=[.slice (sA (H i)) ((L i).length) (sC (H i))]) hg Z Z (hf i _ hl_i E38) ?_);rintro _ _ O rfl;have O:=O.2;have E38:=xt E38 O;refine I ?_;exact am (t:=4) (v:=.int .i64 i) Z E38 (qb2 (Value.int .i64) (yn hl_i E hq)) Z;have E:p i=false:=by simpa using E
 have A2:=ab2 (hM.ext E38) (i:=(i)) U;refine I ?_;refine gR A2 (I ?_);refine aa (lV (f:=gf) (lb:=lb) (vs:=[.slice (sA (H i)) ((L i).length) (sC (H i))]) hg Z Z (hf i _ hl_i E38) ?_);rintro _ _ A0 rfl;have A0:=A0.2;have E38:=xt E38 A0;refine I ?_;refine gO (I ?_);exact bJ ⟨i+1,rfl,rfl,U,((qZ hl_i E).symm.trans hq),E38⟩;refine I ?_;exact am (t:=4) (v:=.int .i64 (-1)) Z E38 (qb2 (Value.int .i64) (yo hl_i hq)) Z
def gi :aP w w:=aa1 _
def Rp {a b:List R}(h:¬a.length=b.length):false=decide (a=b):=by rw[decide_eq_false (λe=>h (by rw[e]))]
def KD {a b:List R}(h:¬ar a j=ar b j):false=decide (a=b):=by rw[decide_eq_false (GT h)]
def KE {a b:List R}(hl:a.length=b.length)(hi:¬i<a.length)(h:∀j,j<i->ar a j=ar b j):true=decide (a=b):=by
 rw[decide_eq_true (m5 hl λj _=>h j U)]
def Xn {L L':Rows}(h:¬n=n'):false=decide (lP n L n' L'):=by rw[decide_eq_false (λe:lP n L n' L'=>h e.1)]
def Uf {L L':Rows}(hi:i<n)(h:¬L i=L' i):false=decide (lP n L n' L'):=by rw[decide_eq_false (λe:lP n L n' L'=>h (e.2 i hi))]
def Ug {L L':Rows}(hl:n=n')(hi:¬i<n)(h:∀j,j<i->L j=L' j):true=decide (lP n L n' L'):=by
 rw[decide_eq_true (show lP n L n' L' from⟨hl,λj _=>h j U⟩)]
def uK {P:Nat->Prop}(h:∀j,j<i->P j)(hi:P i):∀j,j<i+1->P j:=λj E=>by
 by_cases e:j=i
 · exact e▸hi
 · exact h j U
def KF (n:Nat)(L:Rows):Bool:=vM n L&&decide (n=(L 0).length)
def Uh {L:Rows}(h:vM n L=false):KF n L=false:=by unfold KF;rw[h];rfl
def Ui {L:Rows}(h:vM n L=true):KF n L=decide ((n:Int)=(((L 0).length:Nat):Int)):=by
 unfold KF;rw[h,Bool.true_and];exact decide_eq_decide.2 U
def OL (a:R)(w:World)(ht:Tb w):
 CL 154 #[.agg #[S ((a).1),S ((a).2)]] w (aI w λv w'=>v=.bool (!bL a)):=by
 refine aE func154 Z (I ?_);refine bx (λ_ E _=>?_);have E48:=E.2;refine I ?_;refine cl r9 (dU _ _ _ (ht.ext E48)) ?_;rintro _ _ O rfl;have E48:=xt E48 O.2;refine I ?_;exact am (t:=2) (v:=.bool (!(bL a))) Z E48 Z Z
def Uj {xs:List R}(hx:Rw w lo A (ag xs))(ht:Tb w)(hn:xs.length<=1000000):
 CL 112 #[.slice A xs.length C] w (aI w λv w'=>v=.bool (xs.all bL)):=by
 refine aE func112 Z (I ?_);refine cl V3 (Kz (lb:=[]) (p:=λk=>!bL (ar xs k)) (hx.ext gi) Y3 (λi W hi hE=>OL _ _ (ht.ext (xt gi hE))) hn) ?_;rintro _ _ E rfl;have E55:=E.2;refine I ?_;exact am (t:=2) (v:=.bool (!(decide (ec (λk=>!bL (ar xs k)) (xs).length 0<(xs).length)))) Z E55 (qb2 Value.bool (E3 xs)) Z
def OM {bb:Nat}{xs:List R}{L:Rows}(hx:Rw w lo A (ag xs))(hM:Mt w lo2 B n H L)(hbb:ao w bb 27 #[.slice B n D])(ht:Tb w)(h0:0<n)(hn:xs.length<=1000000):
 CL 111 #[.slice A xs.length C,pT bb] w (aI w λv w'=>v=.bool (!decide (xs.length=(L 0).length)|| !xs.all bL)):=by
 refine aE func111 Z (I ?_);by_cases h56:((xs.length:Nat):Int)=(((L 0).length:Nat):Int);have E:=ab2 (hM.ext gi) (i:=0) U;refine I ?_;refine gR E ?_ (i:=0);refine I ?_;refine cl YW (Uj (hx.ext gi) (ht.ext gi) hn) ?_;rintro _ _ A0 rfl;have E60:=A0.2;refine I ?_;exact am (t:=3) (v:=.bool (!((xs).all bL))) Z E60 DA Z;have O:=ab2 (hM.ext gi) (i:=0) U;refine I ?_;refine gR O ?_ (i:=0);refine I ?_;exact am (t:=3) (v:=.bool true) Z gi DA Z
def val_ok {L:Rows}(hM:Mt w lo A n H L)(hB:Bd n L)(ht:Tb w):
 CL 54 #[.slice A n C] w (aI w λv w'=>v=.bool (vM n L)):=by
 have O:=hB.1;refine aE func54 Z (I ?_);refine bx (λ_ A1 Af=>?_);have E64:=A1.2;refine I ?_;by_cases h65:(n:Int)<1;refine I ?_;exact am (t:=2) (v:=.bool false) Z E64 (qb2 Value.bool (E8 U)) Z;by_cases h66:8<(n:Int);refine I ?_;exact am (t:=2) (v:=.bool false) Z E64 (qb2 Value.bool (E8 U)) Z;by_cases h67:(((L 0).length:Nat):Int)<1;have A2:=ab2 (hM.ext E64) (i:=0) U;refine I ?_;refine gR A2 ?_ (i:=0);refine I ?_;exact am (t:=2) (v:=.bool false) Z E64 (qb2 Value.bool (E8 U)) Z;have Ab:=ab2 (hM.ext E64) (i:=0) U;refine I ?_;refine gR Ab ?_ (i:=0);have E:=ab2 (hM.ext E64) (i:=0) U;refine I ?_;refine gR E ?_ (i:=0);refine I ?_;by_cases h68:8<(((L 0).length:Nat):Int);refine I ?_;exact am (t:=2) (v:=.bool false) Z E64 (qb2 Value.bool (E8 U)) Z;refine I ?_;refine aa (aF (vf:=[]) (vc:=[pT w.heap.size]) Z Z ?_);refine clb YU (hc:=Ue (lb:=[pT w.heap.size]) (p:=(λi=>!decide ((L i).length=(L 0).length)|| !(L i).all bL)) (hM.ext E64) YV (λi W hi hE=>OM (((hM.ext E64).ext hE).row i hi) ((hM.ext E64).ext hE) (Af.ext hE) (ht.ext (xt E64 hE)) U (hB.row hi).1) O) (hk:=?_);rintro _ _ A0 rfl;have E64:=xt E64 A0.2;refine I ?_
 exact am (t:=2) (v:=.bool (!(decide (ec (λi=>!decide ((L i).length=(L 0).length)|| !(L i).all bL) n 0<n)))) Z E64 (qb2 Value.bool (Ua U U U U)) Z
def KG {L:Rows}(hM:Mt w lo A n H L)(hB:Bd n L)(ht:Tb w):
 CL 65 #[.slice A n C] w (aI w λv w'=>v=.bool (KF n L)):=by
 refine aE func65 Z (I ?_);rcases qa4 (vM n L)with h76|h76;have hv:=iG h76;have A1:=hv.1;refine I ?_;refine cl r7 (val_ok (hM.ext gi) hB (ht.ext gi)) ?_;rintro _ _ E rfl;have E80:=E.2;have O:=ab2 (hM.ext E80) (i:=0) U;refine I ?_;refine gR O ?_ (i:=0);refine I ?_;exact am (t:=2) (v:=.bool (decide ((n:Int)=(((L 0).length:Nat):Int)))) Z E80 (by rw[Ui BT]) Z;refine I ?_;refine cl r7 (val_ok (hM.ext gi) hB (ht.ext gi)) ?_;rintro _ _ A0 rfl;have E84:=A0.2;refine I ?_;exact am (t:=2) (v:=.bool false) Z E84 (by rw[Uh BT]) Z
def ON {xs ys:List R}(hx:Rw w lo A (ag xs))(hy:Rw w lo2 B (ag ys))(hn:xs.length<=1000000):
 CL 16 #[.slice A xs.length C,.slice B ys.length D] w (aI w λv w'=>v=.bool (decide (xs=ys))):=by
 refine aE func16 Z (I ?_);by_cases h85:((xs.length:Nat):Int)=((ys.length:Nat):Int);refine I ?_;have Ao:xs.length=ys.length:=J
 have E86:=aa1 w;refine cg [(4,5),(11,25)] (λAf e W=>∃i:Nat,(xs.length-i=Af)/\(e 5=.int .i64 i)/\(i<=xs.length)/\(∀j,j<i->ar xs j=ar ys j)/\(aP w W)) (xs.length-0) ⟨0,rfl,rfl,(qa7 _),(λj _=>by omega),E86⟩ ?_;rintro _ _ _ ⟨i,rfl,Ay,hi_i,E,E91⟩;by_cases hl_i:i<xs.length;by_cases hp:ar xs i=ar ys i;refine I ?_;refine bH 8 ?_;refine sf ?_;refine aB (λ_ _ O _=>by have Av:=bA (hx.ext (xt E91 O)) (k:=(i)) U;refine I ?_;refine lU Av ?_;refine I ?_;exact aG) ?_;refine aB (λ_ _ As _=>by have Ax:=bA (hx.ext (xt E91 As)) (k:=(i)) U;refine I ?_;exact aG) ?_;refine sf ?_;refine aB (λ_ _ Aw _=>by have Aq:=bA (hy.ext (xt E91 Aw)) (k:=(i)) U;refine I ?_;refine lU Aq ?_;refine I ?_;exact aG) ?_;refine aB (λ_ _ Ar _=>by have zq10q:=bA (hy.ext (xt E91 Ar)) (k:=(i)) U;refine I ?_;exact aG) ?_;refine sf ?_;intro _ _ Ab _;have E91:=xt E91 Ab.2;refine aa (qX (a:=ar xs i) (b:=ar ys i) (q:=!decide ((ar xs i)=(ar ys i))) Z Z Z ?_);refine I ?_;refine gO (I ?_);exact bJ ⟨i+1,rfl,rfl,U,(uK E hp),E91⟩;refine I ?_;refine bH 8 ?_;refine sf ?_;refine aB (λ_ _ Am _=>by have zq11q:=bA (hx.ext (xt E91 Am)) (k:=(i)) U;refine I ?_;refine lU zq11q ?_;refine I ?_;exact aG) ?_
 refine aB (λ_ _ A1 _=>by have zq12q:=bA (hx.ext (xt E91 A1)) (k:=(i)) U;refine I ?_;exact aG) ?_;refine sf ?_;refine aB (λ_ _ A2 _=>by have zq13q:=bA (hy.ext (xt E91 A2)) (k:=(i)) U;refine I ?_;refine lU zq13q ?_;refine I ?_;exact aG) ?_;refine aB (λ_ _ Ap _=>by have zq14q:=bA (hy.ext (xt E91 Ap)) (k:=(i)) U;refine I ?_;exact aG) ?_;refine sf ?_;intro _ _ A0 _;have E91:=xt E91 A0.2;refine aa (qX (a:=ar xs i) (b:=ar ys i) (q:=!decide ((ar xs i)=(ar ys i))) Z Z Z ?_);refine I ?_;exact am (t:=4) (v:=.bool false) Z E91 (congrArg Value.bool (KD hp)) Z;refine I ?_;exact am (t:=4) (v:=.bool true) Z E91 (congrArg Value.bool (KE Ao hl_i E)) Z;refine I ?_;exact am (t:=4) (v:=.bool false) Z gi (congrArg Value.bool (Rp U)) Z
def seq_ok {xs ys:List R}(hx:Rw w lo A (ag xs))(hy:Rw w lo2 B (ag ys))(hn:xs.length<=1000000):
 CL 132 #[.slice A xs.length C,.slice B ys.length D] w (aI w λv w'=>v=.bool (decide (xs=ys))):=by
 refine aE func132 Z (I ?_);by_cases cr:((xs.length:Nat):Int)=((ys.length:Nat):Int);refine I ?_;have Aq:xs.length=ys.length:=J
 have Av:=aa1 w;refine cg [(4,5),(13,25)] (λAo e W=>∃i:Nat,(xs.length-i=Ao)/\(e 13=.int .i64 i)/\(i<=xs.length)/\(∀j,j<i->ar xs j=ar ys j)/\(aP w W)) (xs.length-0) ⟨0,rfl,rfl,(qa7 _),(λj _=>by omega),Av⟩ ?_;rintro _ _ _ ⟨i,rfl,Ax,hi_i,O,E⟩;by_cases hl_i:i<xs.length;by_cases hp:ar xs i=ar ys i;refine I ?_;refine bH 8 ?_;refine sf ?_;refine aB (λ_ _ Af _=>by have zq15q:=bA (hx.ext (xt E Af)) (k:=(i)) U;refine I ?_;refine lU zq15q ?_;refine I ?_;exact aG) ?_;refine aB (λ_ _ Ap _=>by have zq16q:=bA (hx.ext (xt E Ap)) (k:=(i)) U;refine I ?_;exact aG) ?_;refine sf ?_;refine aB (λ_ _ A1 _=>by have zq17q:=bA (hy.ext (xt E A1)) (k:=(i)) U;refine I ?_;refine lU zq17q ?_;refine I ?_;exact aG) ?_;refine aB (λ_ _ A2 _=>by have zq18q:=bA (hy.ext (xt E A2)) (k:=(i)) U;refine I ?_;exact aG) ?_;refine sf ?_;intro _ _ Ar _;have E:=xt E Ar.2;refine aa (qX (a:=ar xs i) (b:=ar ys i) (q:=!decide ((ar xs i)=(ar ys i))) Z Z Z ?_);refine I ?_;refine gO (I ?_);exact bJ ⟨i+1,rfl,rfl,U,(uK O hp),E⟩;refine I ?_;refine bH 8 ?_;refine sf ?_;refine aB (λ_ _ A0 _=>by have zq19q:=bA (hx.ext (xt E A0)) (k:=(i)) U;refine I ?_;refine lU zq19q ?_;refine I ?_;exact aG) ?_
 refine aB (λ_ _ Aw _=>by have zq20q:=bA (hx.ext (xt E Aw)) (k:=(i)) U;refine I ?_;exact aG) ?_;refine sf ?_;refine aB (λ_ _ As _=>by have zq21q:=bA (hy.ext (xt E As)) (k:=(i)) U;refine I ?_;refine lU zq21q ?_;refine I ?_;exact aG) ?_;refine aB (λ_ _ Ab _=>by have zq22q:=bA (hy.ext (xt E Ab)) (k:=(i)) U;refine I ?_;exact aG) ?_;refine sf ?_;intro _ _ Am _;have E:=xt E Am.2;refine aa (qX (a:=ar xs i) (b:=ar ys i) (q:=!decide ((ar xs i)=(ar ys i))) Z Z Z ?_);refine I ?_;exact am (t:=4) (v:=.bool false) Z E (congrArg Value.bool (KD hp)) Z;refine I ?_;exact am (t:=4) (v:=.bool true) Z E (congrArg Value.bool (KE Aq hl_i O)) Z;refine I ?_;exact am (t:=4) (v:=.bool false) Z gi (congrArg Value.bool (Rp U)) Z
def Fc {xs ys:List R}(hx:Rw w lo A (ag xs))(hy:Rw w lo2 B (ag ys))(hn:xs.length<=1000000):
 CL 131 #[.slice A xs.length C,.slice B ys.length D] w (aI w λv w'=>v=.bool (decide (xs=ys))):=by
 refine aE func131 Z (I ?_);refine cl YT (seq_ok (hx.ext gi) (hy.ext gi) hn) ?_;rintro _ _ E rfl;have O:=E.2;refine I ?_;exact am (t:=4) (v:=.bool (decide (xs=ys))) Z O Z Z
def Uk {m:Nat}{L K:Rows}(hM:Mt w lo A n H L)(hN:Mt w lo2 B m G K)(hB:Bd n L):
 CL 130 #[.slice A n C,.slice B m D,.func (.func 131) #[] #[]] w (aI w λv w'=>v=.bool (decide (lP n L m K))):=by
 have Am:=hB.1;refine aE func130 Z (I ?_);by_cases cr:(n:Int)=(m:Int);refine I ?_;have Ab:n=m:=J
 have Af:=aa1 w;refine cg [(6,9),(17,31)] (λA1 e W=>∃i:Nat,(n-i=A1)/\(e 17=.int .i64 i)/\(i<=n)/\(∀j,j<i->L j=K j)/\(aP w W)) (n-0) ⟨0,rfl,rfl,(qa7 _),(λj _=>by omega),Af⟩ ?_;rintro _ _ _ ⟨i,rfl,Ao,hi_i,O,E⟩;by_cases hl_i:i<n;by_cases hp:L i=K i;have zq31q:=ab2 (hM.ext E) (i:=(i)) U;refine I ?_;refine gR zq31q ?_;have zq32q:=ab2 (hN.ext E) (i:=(i)) U;refine I ?_;refine gR zq32q (I ?_);refine aa (lV (vs:=[.slice (sA (H i)) ((L i).length) (sC (H i)),.slice (sA (G i)) ((K i).length) (sC (G i))]) (lb:=[]) VP Z Z (Fc (Mt.row (hM.ext E) i U) (Mt.row (hN.ext E) i U) (hB.row hl_i).1) ?_);rintro _ _ A0 rfl;have E:=xt E A0.2;refine I ?_;refine gO (I ?_);exact bJ ⟨i+1,rfl,rfl,U,(uK O hp),E⟩;have zq33q:=ab2 (hM.ext E) (i:=(i)) U;refine I ?_;refine gR zq33q ?_;have zq34q:=ab2 (hN.ext E) (i:=(i)) U;refine I ?_;refine gR zq34q (I ?_);refine aa (lV (vs:=[.slice (sA (H i)) ((L i).length) (sC (H i)),.slice (sA (G i)) ((K i).length) (sC (G i))]) (lb:=[]) VP Z Z (Fc (Mt.row (hM.ext E) i U) (Mt.row (hN.ext E) i U) (hB.row hl_i).1) ?_);rintro _ _ A2 rfl;have E:=xt E A2.2;refine I ?_;exact am (t:=6) (v:=.bool false) Z E (qb2 Value.bool (Uf hl_i hp)) Z;refine I ?_
 exact am (t:=6) (v:=.bool true) Z E (qb2 Value.bool (Ug Ab hl_i O)) Z;refine I ?_;exact am (t:=6) (v:=.bool false) Z gi (qb2 Value.bool (Xn U)) Z
end
section
open Go.Eng Tryz
section
variable {W':World}{hi b:Nat}{L:Rows}{cs:List Value}{row:Option Nat}
def Ul (k:ez W W' b)(hne:∀ad,A=some ad->ad.block≠b)(h:Rw W lo A cs):Rw W' lo A cs:=
 ⟨λj u hu=>by
  obtain⟨c,o,hA,hc⟩:=h.cells j u hu
  exact⟨c,o,hA,(k.cell (a:=⟨c,o+j,none⟩) (hne ⟨c,o,none⟩ hA)).trans hc⟩,h.lo,λad hA=>by rw[k.size];exact h.hi ad hA⟩
structure ni (W:World)(lo hi:Nat)(A:Option Addr)(cs:List Value):Prop where
 rw:Rw W lo A cs
 u:∀ad,A=some ad->ad.block<hi
def ni.of (h:Rw W lo A cs):ni W lo W.heap.size A cs:=⟨h,h.hi⟩
def ab5:=@ni.of
def ni.ext (k:aP W W')(h:ni W lo hi A cs):ni W' lo hi A cs:=⟨h.rw.ext k,h.u⟩
def aa9:=@ni.ext
def ni.put (k:ez W W' b)(hb:b<lo\/hi<=b)(h:ni W lo hi A cs):ni W' lo hi A cs:=
 ⟨Ul k (λad e=>by have h1:=h.rw.lo ad e;have h2:=h.u ad e;omega) h.rw,h.u⟩
def ab9:=@ni.put
def ni.gr (k:W.grownBy W' row)(hb:∀g,row=some g->g<lo\/hi<=g)(h:ni W lo hi A cs):ni W' lo hi A cs:=
 ⟨h.rw.gr k λad e e2=>by have h1:=h.rw.lo ad e;have h2:=h.u ad e;have h3:=hb _ e2.symm;omega,h.u⟩
structure nH (W:World)(lo hi:Nat)(A:Option Addr)(n:Nat)(H:Nat->Value)(L:Rows):Prop where
 mt:Mt W lo A n H L
 o:∀ad,A=some ad->ad.block<hi
 r:∀i,i<n->∀ad,sA (H i)=some ad->ad.block<hi
def nH.of (h:Mt W lo A n H L):nH W lo W.heap.size A n H L:=⟨h,h.out.hi,λi hi=>(h.row i hi).hi⟩
def ab1:=@nH.of
def nH.ext (k:aP W W')(h:nH W lo hi A n H L):nH W' lo hi A n H L:=⟨h.mt.ext k,h.o,h.r⟩
def aa5:=@nH.ext
def nH.put (k:ez W W' b)(hb:b<lo\/hi<=b)(h:nH W lo hi A n H L):nH W' lo hi A n H L:=
 ⟨⟨(ab9 k hb ⟨h.mt.out,h.o⟩).rw,h.mt.hdr,λi E=>(ab9 k hb ⟨h.mt.row i E,h.r i E⟩).rw,h.mt.cap⟩,h.o,h.r⟩
def ac5:=@nH.put
def nH.gr (k:W.grownBy W' row)(hb:∀g,row=some g->g<lo\/hi<=g)(h:nH W lo hi A n H L):nH W' lo hi A n H L:=
 ⟨⟨(ni.gr k hb ⟨h.mt.out,h.o⟩).rw,h.mt.hdr,λi E=>(ni.gr k hb ⟨h.mt.row i E,h.r i E⟩).rw,h.mt.cap⟩,h.o,h.r⟩
def nH.congr {L':Rows}(h:nH W lo hi A n H L)(hL:∀i,i<n->L i=L' i):nH W lo hi A n H L':=⟨h.mt.congr hL,h.o,h.r⟩
def vI.get {s:El}{last:Value}(h:vI lo n W s last v):∃A C H P cp Q cq,v=.agg #[.slice A n C,.slice P s.piv.length cp,.slice Q s.cols.length cq,last]/\n<=C/\Mt W lo A n H s.L/\Rw W lo P (ag s.piv)/\Rw W lo Q (ints s.cols):=by
 obtain⟨A,C,H,E,vc,rfl,A0,hM,⟨A1,A2⟩,⟨hc,O⟩⟩:=h
 exact⟨A,C,H,sA E,sC E,sA vc,sC vc,by rw[<-A1,<-hc],A0,hM,A2,O⟩
def pP {l:List Nat}(h:Rw W lo A (ints l))(hi:i<l.length):A=some ⟨ci A,gH A,none⟩/\W.cell? ⟨ci A,gH A+i,none⟩=some (.int .i64 ((l.getD i 0:Nat):Int)):=
 JY h (by simp[ints,List.getD,hi])
def nj (l:List Int):List Value:=l.map (Value.int .i64)
def Fe {l:List Int}(h:Rw W lo A (nj l))(hi:i<l.length):A=some ⟨ci A,gH A,none⟩/\W.cell? ⟨ci A,gH A+i,none⟩=some (.int .i64 (l.getD i 0)):=
 JY h (by simp[nj,List.getD,hi])
def getD_lt {l:List Nat}{m:Nat}(h:∀x∈l,x<m)(hi:i<l.length):l.getD i 0<m:=by
 have:l.getD i 0=l[i]:=by simp[List.getD,hi]
 rw[this];exact h _ (List.getElem_mem hi)
end
section
variable {r:Option Nat}{ds:List Deferred}{Q:Exit->Act->World->Prop}{K:Act->World->Prop}
variable {ty:Nat}{pos:String}{af:Array Edge}{g:Option (Nat×Bool)}{u:Value}{x y:Operand}
def KH {l:List R}{q:R}(h:w.ownsRow base 33 2 v l.length (ag l))(hk:k<l.length)(hs:(prog.info? t).map (·.size)=some 2)(hx:ev N e x=.pointer (some ⟨ci (sA v),gH (sA v)+k*2,none⟩))(hy:ev N e y=.agg #[S q.1,S q.2])(hK:∀w',ez w w' (ci (sA v))->base<=ci (sA v)->v.ownBlock=some (ci (sA v))->w'.ownsRow base 33 2 v (l.set k q).length (ag (l.set k q))->K (act N e ds) w'):
 Oper.wpIn (Fw r) n prog ⟨none,.store t x y,ty,pos,af,g⟩ (act N e ds) w K Q:=by
 obtain⟨A1,hB,A2,Ab,E,O⟩:=AA (q:=q) h Z hk
 rw[A2,Nat.zero_add]at hx
 exact bB (vs:=[S q.1,S q.2]) (cs:=A1) hs hx hy (by simp[S,Value.oneCell']) hB Ab (λw' A0 hB'=>hK w' A0 (aV h _ E) E (O w' hB'))
end
def jR (n:Nat)(L:Rows):Rows:=λi=>L i++uR i n
def jS {a b:List R}(h:k<a.length):ar (a++b) k=ar a k:=by unfold ar;simp[List.getD,List.getElem?_append_left h]
def kV {a b:List R}(h:¬k<a.length):ar (a++b) k=ar b (k-a.length):=by unfold ar;simp[List.getD,List.getElem?_append_right (Nat.le_of_not_lt h)]
def Xo (h:j<k):bL (ar (uR i k) j)=true:=by
 rw[ek (by rw[mF];exact h)]
 simp only[uR,List.getElem_map,List.getElem_range]
 split
 · exact YC
 · exact Rn
def m6 {L:Rows}(h:VM n L):qt n ((L 0).length+n) (jR n L):=λi hi=>by
 have h1:=h.ok i hi
 refine⟨by unfold jR;simp[h1.1,mF],λk hk=>?_⟩
 unfold jR
 by_cases hk2:k<(L i).length
 · rw[jS hk2];exact h1.2 k U
 · rw[kV hk2];exact Xo U
def zs (m:Nat):List R:=List.replicate m z0
def yp (n:Nat)(s:El):Option Rows:=if s.piv.length<n then none else some λi=>(s.L i).drop n
def eN (n:Nat)(L:Rows):Option Rows:=if vH n L=true then(elim n (n+n) n (jR n L)).bind (yp n)else none
def Xp (lo:Nat)(w:World):Option (List R×Bool)->Value->Prop
 |none,v=>v=.tuple #[.slice none 0 0,.bool false,.int .i64 130]
 |some (x,only),v=>∃P cp,v=.tuple #[.slice P x.length cp,.bool only,.int .i64 0]/\Rw w lo P (ag x)
def nk (L:Rows):Nat->Nat->Option Bool
 |0,_=>some true
 | f+1,k=>match kT (k+1) (λi=>(L i).take (k+1))with
   |none=>none
   |some d=>if qP (aj d.1)<=0 then some false else nk L f (k+1)
def pQ (n:Nat)(L:Rows):Option Bool:=if vH n L=true then if Na n L then nk L n 0 else some false else none
section
variable {P:Program}{r:Option Nat}{ds:List Deferred}{Q:Exit->Act->World->Prop}{K:Act->World->Prop}
variable {d ty:Nat}{pos:String}{af:Array Edge}{g:Option (Nat×Bool)}{u:Value}{x y:Operand}{t':TypeId}
def Rq {m:Nat}{D:TypeId}(hu:P.underlying t=some (.slice D))(hx:ev N e x=.slice A m c)(hk:K (act N (upd e d (.int .i64 c)) ds) w):
 Oper.wpIn (Fw r) n P ⟨some d,.call {callee:=.builtin .cap,args:=#[x],argTypes:=#[t]},ty,pos,af,g⟩ (act N e ds) w K Q:=by
 refine cJ (v:=.int .i64 c) (w':=w) Z ?_ KK
 simp[execOp,resolve,invoke,builtin,Builtin.cap_,run_underlying hu,hx,goInt]
def G2:∀m:Nat,m<17->(binOp .and t (.int .u64 (m:Int)) (.int .u64 4294967295)).run P w=.ok (.int .u64 (m:Int)) w:=by
 intro m _
 have:m=0\/m=1\/m=2\/m=3\/m=4\/m=5\/m=6\/m=7\/m=8\/m=9\/m=10\/m=11\/m=12\/m=13\/m=14\/m=15\/m=16:=J
 rcases this with rfl|rfl|rfl|rfl|rfl|rfl|rfl|rfl|rfl|rfl|rfl|rfl|rfl|rfl|rfl|rfl|rfl <;>rfl
def G3:∀m:Nat,m<17->(binOp .shr t (.int .u64 (m:Int)) (.int .u64 32)).run P w=.ok (.int .u64 0) w:=by
 intro m _
 have:m=0\/m=1\/m=2\/m=3\/m=4\/m=5\/m=6\/m=7\/m=8\/m=9\/m=10\/m=11\/m=12\/m=13\/m=14\/m=15\/m=16:=J
 rcases this with rfl|rfl|rfl|rfl|rfl|rfl|rfl|rfl|rfl|rfl|rfl|rfl|rfl|rfl|rfl|rfl|rfl <;>rfl
def KI {m:Nat}(hx:ev N e x=.int .u64 (m:Int))(hy:ev N e y=.int .u64 4294967295)(hm:m<17)(hk:K (act N (upd e d (.int .u64 (m:Int))) ds) w):
 Oper.wpIn (Fw r) n P ⟨some d,.binOp .and t x y t',ty,pos,af,g⟩ (act N e ds) w K Q:=dI hx hy (b6 ..) (G2 m hm) hk
def pR {m:Nat}(hx:ev N e x=.int .u64 (m:Int))(hy:ev N e y=.int .u64 32)(hm:m<17)(hk:K (act N (upd e d (.int .u64 0)) ds) w):
 Oper.wpIn (Fw r) n P ⟨some d,.binOp .shr t x y t',ty,pos,af,g⟩ (act N e ds) w K Q:=dI hx hy (b6 ..) (G3 m hm) hk
def uL {a b c:Int}(hx:ev N e x=.int .u64 a)(hy:ev N e y=.int .u64 b)(hc:a*b=c)(hr:0<=c/\c<=18446744073709551615)(hk:K (act N (upd e d (.int .u64 c)) ds) w):
 Oper.wpIn (Fw r) n P ⟨some d,.binOp .mul t x y t',ty,pos,af,g⟩ (act N e ds) w K Q:=
 dI hx hy (b6 ..) (by subst hc;simp[binOp,Op.intArith,wrap_u64 hr]) hk
def yq {a b c:Int}(hx:ev N e x=.int .u64 a)(hy:ev N e y=.int .u64 b)(hc:a+b=c)(hr:0<=c/\c<=18446744073709551615)(hk:K (act N (upd e d (.int .u64 c)) ds) w):
 Oper.wpIn (Fw r) n P ⟨some d,.binOp .add t x y t',ty,pos,af,g⟩ (act N e ds) w K Q:=
 dI hx hy (b6 ..) (by subst hc;simp[binOp,Op.intArith,wrap_u64 hr]) hk
end
section
variable {r:Option Nat}{ds:List Deferred}{Q:Exit->Act->World->Prop}{K:Act->World->Prop}
variable {d ty:Nat}{pos:String}{af:Array Edge}{g:Option (Nat×Bool)}{u:Value}{x y:Operand}{t':TypeId}
def KJ {cs:List Value}(h:W.ownsRow base et sz (.slice A k c) k cs):W.ownsRow base et sz (.slice A 0 c) 0 []:=by
 obtain⟨hl,⟨h1,rfl⟩|⟨g,cap,A0,h1,O,E,hc,hm,hs,ht⟩⟩:=h
 · cases h1;exact bM
 · cases h1;exact⟨by simp,.inr ⟨g,_,A0,rfl,O,E,Nat.zero_le _,hm,hs,by simp⟩⟩
def OO {c0:Nat}(hx:ev N e x=.slice none 0 c0)(hc0:c0=0)(hy:ev N e y=.int .i64 (k:Int))(h0:0<k)(hk1:k<=1000)(hk:∀w' c,aP w w'->w'.ownsRow w.heap.size 33 2 (.slice (some ⟨w.heap.size,0,none⟩) 0 c) 0 []->K (act N (upd e d (.slice (some ⟨w.heap.size,0,none⟩) k c)) ds) w'):
 Oper.wpIn (Fw r) n prog ⟨some d,.call {callee:=.builtin .append,args:=#[x,y],argTypes:=#[28,3]},ty,pos,af,g⟩ (act N e ds) w K Q:=by
 subst hc0
 obtain⟨i,A0,Af,A2,O⟩:=aY.parts
 have hold:(Builtin.firstCells i.size 0 (.slice none 0 0)).run prog w.drew=.ok ([]:List Value).toArray w.drew:=by simp[Builtin.firstCells]
 have E:=Lib.run_append_grow_zeros (P:=prog) w 28 3 ty 33 i (.agg #[S [],S []]) .i64 .i64 underlying28 underlying3 A0 Af none 0 0 [] hold k h0 (by rw[A2];decide) U U (by rw[O];omega)
  (by rw[O];unfold Builtin.nextslicecap;rw[if_pos U];omega)
 simp only[Nat.zero_add]at E
 have Ab:=grownCap_ge w k 0 33
 have A1:=grownCap_le_maxLen w k 0 33 Rg
 refine cJ (v:=.slice (some ⟨w.heap.size,0,none⟩) k (grownCap w k 0 33)) Z ?_ (by
  rw[ax]
  refine hk _ _ (aP.trans (ac1 w) (ae0 _ _)) (KJ (k:=k) (cs:=((([]:List Value).toArray++Builtin.zeroCells (Value.agg #[S [],S []]).cells k++Builtin.zeroCells (Value.agg #[S [],S []]).cells (grownCap w k 0 33-k)).toList.take (k*2))) ⟨?_,.inr ⟨w.heap.size,grownCap w k 0 33,_,rfl,qa0 _,heap_alloc_new w.drew _,Ab,A1,?_,rfl⟩⟩)
  · simp[Builtin.zeroCells,Value.cells];done
  · simp[Builtin.zeroCells,Value.cells];omega)
 simp[execOp,resolve,invoke,builtin,hx,hy,E]
def Dk {g:Nat}{cs:Array Value}:ez w (w.setRow g cs) g:=
 ⟨rfl,rfl,rfl,by simp,λk hk=>by simp only[World.setRow];rw[Array.getElem?_modify,if_neg (Ne.symm hk)]⟩
def vV (l m:List R)(o:Nat):(ag l).take (o*2)++ag m++(ag l).drop (o*2+(ag m).length)=ag (l.take o++m++l.drop (o+m.length)):=by
 rw[ja,fI,show o*2+m.length*2=(o+m.length)*2 by omega,mE]
 simp[ag]
def Ff {o dL dC sL sC':Nat}{l src:List R}(h:w.ownsRow base 33 2 v l.length (ag l))(hA:A=some ⟨ci (sA v),o*2,none⟩)(hx:ev N e x=.slice A dL dC)(hol:o+dL=l.length)(hd:0<dL)(hy:ev N e y=.slice B sL sC')(hB:Rw w lo B (ag src))(hsl:src.length=sL)(hs:0<sL)(hK:∀w',ez w w' (ci (sA v))->base<=ci (sA v)->v.ownBlock=some (ci (sA v))->w'.ownsRow base 33 2 v (l.take o++src.take (Nat.min sL dL)++l.drop (o+Nat.min sL dL)).length (ag (l.take o++src.take (Nat.min sL dL)++l.drop (o+Nat.min sL dL)))->
 K (act N (upd e d (.int .i64 ((Nat.min sL dL:Nat):Int))) ds) w'):
 Oper.wpIn (Fw r) n prog ⟨some d,.call {callee:=.builtin .copy,args:=#[x,y],argTypes:=#[28,28]},ty,pos,af,g⟩ (act N e ds) w K Q:=by
 subst hA
 obtain⟨i,As,_,Ay,_⟩:=aY.parts
 obtain⟨hl,⟨rfl,B0⟩|⟨A1,cap,E,rfl,Am,Ar,hc,hm,Aw,ht⟩⟩:=h
 · omega
 · have B2:Nat.min sL dL<=sL/\Nat.min sL dL<=dL:=⟨Nat.min_le_left _ _,Nat.min_le_right _ _⟩
   have A2:(src.take (Nat.min sL dL)).length=Nat.min sL dL:=by rw[List.length_take];omega
   have B1:0<Nat.min sL dL:=by show 0<min sL dL;omega
   obtain⟨b,O,rfl,hcell⟩:∃b O,B=some ⟨b,O,none⟩/\∀j u,(ag (src.take (Nat.min sL dL)))[j]?=some u->w.cell? ((⟨b,O,none⟩:Addr).add j)=some u:=by
    have hB2:=Rw.take (Nat.min sL dL*2) hB
    rw[ja]at hB2
    have Ax:0<(ag (src.take (Nat.min sL dL))).length:=by rw[fI,A2];omega
    obtain⟨b,O,rfl,_⟩:=hB2.cells 0 _ (qa5 Ax)
    exact⟨b,O,rfl,λj u hu=>by obtain⟨_,_,e',Av⟩:=hB2.cells j u hu;cases e';rw[Addr.add_mid];exact Av⟩
   have A0:(ag (src.take (Nat.min sL dL))).length=Nat.min sL dL*2:=by rw[fI,A2]
   have Aq:=run_loadCells_list (P:=prog) w ⟨b,O,none⟩ (ag (src.take (Nat.min sL dL))) hcell
   have Ab:=run_storeCells_at prog A1 (o*2) 33 (ag (src.take (Nat.min sL dL))) 0 E w Ar (by rw[A0];simp only[Nat.add_zero];omega) ol
   rw[A0]at Aq Ab
   simp only[Nat.add_zero]at Ab
   have Ap:(l.take o++src.take (Nat.min sL dL)++l.drop (o+Nat.min sL dL)).length=l.length:=by simp only[List.length_append,A2,List.length_take,List.length_drop];omega
   have hX:E.toList.length=cap*2:=by rw[Array.length_toList,Aw]
   have Az:(E.toList.take (o*2)++ag (src.take (Nat.min sL dL))++E.toList.drop (o*2+Nat.min sL dL*2)).take (l.length*2)=ag (l.take o++src.take (Nat.min sL dL)++l.drop (o+Nat.min sL dL)):=by
    have Af:=vV l (src.take (Nat.min sL dL)) o
    rw[A2,A0,<-ht,List.take_take,Nat.min_eq_left U,List.drop_take]at Af
    have Ao:(E.toList.take (o*2)++ag (src.take (Nat.min sL dL))).length=o*2+Nat.min sL dL*2:=by rw[List.length_append,List.length_take,A0,hX];omega
    rw[<-Af,List.take_append,List.take_of_length_le (by rw[Ao];omega),Ao]
   refine cJ (v:=.int .i64 ((Nat.min sL dL:Nat):Int)) (w':=w.setRow A1 ((E.toList.take (o*2)++ag (src.take (Nat.min sL dL))++E.toList.drop (o*2+Nat.min sL dL*2)).toArray)) Z ?_ (by
    rw[ax]
    refine hK _ Dk Am Z ?_
    rw[Ap]
    refine⟨by rw[fI,Ap],.inr ⟨A1,cap,_,rfl,Am,setRow_heap w A1 E _ 33 _ Ar,hc,hm,?_,?_⟩⟩
    · simp only[List.size_toArray,List.length_append,List.length_take,List.length_drop,A0,hX];omega
    · exact Az)
   change ev N e x=Value.slice (some ⟨A1,o*2,none⟩) dL dC at hx
   simp[execOp,resolve,invoke,builtin,hx,hy,Builtin.copy_,run_underlying underlying28,Builtin.lenOf,Builtin.firstCells,sizeOf,typeInfo,As,Ay,Aq,Ab,goInt]
end
section
variable {W':World}{hi:Nat}{L:Rows}
def Wr.ownS (h:Wr W lo hi n H L)(hi':i<n):W.ownsRow lo 33 2 (.slice (sA (H i)) (L i).length (sC (H i))) (L i).length (ag (L i)):=by
 have:=h.own i hi';rwa [h.hdr hi']at this
def Wr.obS (h:Wr W lo hi n H L)(hi':i<n):(H i).ownBlock=(Value.slice (sA (H i)) (L i).length (sC (H i))).ownBlock:=qb2 Value.ownBlock (h.hdr hi')
def Wr.lohi (h:Wr W lo hi n H L)(hi':i<n):∀g,(Value.slice (sA (H i)) (L i).length (sC (H i))).ownBlock=some g->lo<=g/\g<hi:=λg e=>by
 rw[<-h.obS hi']at e;exact⟨aV (h.own i hi') g e,h.hi i hi' g e⟩
def Wr.appS {l':List R}(h:Wr W lo hi n H L)(hj:i<n)(hg:W.grownBy W' (Value.slice (sA (H i)) (L i).length (sC (H i))).ownBlock)(ho:W'.ownsRow lo 33 2 v' l'.length (ag l'))(ha:v'.ownBlock=(Value.slice (sA (H i)) (L i).length (sC (H i))).ownBlock\/v'.ownBlock=some W.heap.size):Wr W' lo W'.heap.size n (bX H i v') (bX L i l'):=by
 rw[<-h.obS hj]at hg ha
 exact h.app hj hg ho ha
def KL {b m:Nat}(h:∀j,j<n->(H j).ownBlock≠some b)(ha:v'.ownBlock=(Value.slice (sA (H i)) m c).ownBlock\/v'.ownBlock=some W.heap.size)(hb:b<W.heap.size)(hi':H i=.slice (sA (H i)) m c):
 ∀j,j<n->(bX H i v' j).ownBlock≠some b:=λj E e=>by
 by_cases hji:j=i
 · subst hji
   rw[bj]at e
   rcases ha with ha|ha
   · rw[ha,<-hi']at e;exact h j E e
   · rw[ha]at e;cases e;omega
 · rw[bm _ _ hji]at e;exact h j E e
def Wr.oneU (h:Wr W lo hi n (bX H i v) L)(hi':i<n):v.oneCell'=true:=by
 have:=bS (h.own i hi');rwa [bj]at this
def m7 {b:Nat}(h:W.ownsRow b 28 1 (.slice A n n) n (madeCells #[Value.slice none 0 0] (n*1)).toList)(hn:0<n):
 Ho W A n (λ_=>.slice none 0 0)/\(b<=ci A/\ci A<W.heap.size)/\Wr W b W.heap.size n (λ_=>.slice none 0 0) pL/\∀j,j<n->((λ_=>Value.slice none 0 0) j:Value).ownBlock≠some (ci A):=by
 have hc:(madeCells #[Value.slice none 0 0] (n*1)).toList=(List.range n).map λ_=>Value.slice none 0 0:=by
  apply List.ext_getElem
  · simp[madeCells]
  · intro i h1 h2;simp[madeCells,Nat.mod_one]
 rw[hc]at h
 obtain⟨h1,h2,h3⟩:=Ho.of_own h hn
 exact⟨h1,⟨h2,dN h _ h3⟩,⟨λi _=>bM,λi _ g e=>(by cases e),λi j _ _ _=>ac6⟩,λj _ e=>(by cases e)⟩
end
def OP {K L:Rows}{p:Nat}(h:∀j',j'<p->K j'=l5 L (if j'<j then i+1 else i) j')(hj:j<p):∀j',j'<p->bX K j (K j++[ar (L i) j]) j'=l5 L (if j'<j+1 then i+1 else i) j':=λj' E=>by
 by_cases e:j'=j
 · subst e
   rw[bj,h j' E,if_neg U,if_pos U,Kr]
 · rw[bm _ _ e,h j' E]
   by_cases h2:j'<j
   · rw[if_pos h2,if_pos U]
   · rw[if_neg h2,if_neg U]
def G4 {α:Type}(f:Nat->α)(i:Nat)(a b:α):bX (bX f i a) i b=bX f i b:=funext λj=>by unfold bX;split <;>rfl
end
section
set_option maxRecDepth 100000
open Go.Eng Tryz
attribute [local irreducible] wpListIn Code.wpIn Oper.wpIn Exit.then Exit.inBlock Exit.noGoto
set_option maxHeartbeats 40000000
def Rw.takeR {xs:List R}(h:Rw W lo A (ag xs))(c:Nat):Rw W lo A (ag (xs.take c)):=by
 have:=Rw.take (c*2) h;rwa [ja]at this
def e0:R:=([],[])
def AI (m:Nat):(madeCells (Value.agg #[S [],S []]).cells (m*2)).toList=ag (List.replicate m e0):=by
 induction m with
 |zero=>simp[madeCells,ag]
 | succ m ih=>
   rw[List.replicate_succ',<-uI,<-ih]
   apply List.ext_getElem
   · simp[madeCells,ag];omega
   · intro i h1 _
     simp only[madeCells,Value.cells,Array.toList_map,List.getElem_map,Array.toList_range,List.getElem_range,List.getElem_append,List.length_map,List.length_range]
     by_cases hi:i<m*2
     · rw[dif_pos hi]
     · rw[dif_neg hi]
       have E:(madeCells (Value.agg #[S [],S []]).cells ((m+1)*2)).toList.length=(m+1)*2:=by simp[madeCells]
       have O:i<(m+1)*2:=by rw[E]at h1;exact h1
       have:i=m*2\/i=m*2+1:=J
       rcases this with rfl|rfl
       · simp[ag,e0,Nat.mul_mod_left]
       · simp[ag,e0,Nat.add_mod,Nat.mul_mod_left]
def OQ {xs:List R}{m:Nat}(hl:xs.length=n)(hc:c+m<=n)(hm:m<=c):(xs.take c++(xs.take c).take m++xs.drop (c+m)).length=n:=by
 simp only[List.length_append,List.length_take,List.length_drop];omega
def Um {xs:List R}{m:Nat}(hl:xs.length=n)(hc:c+m<=n)(hm:m<=c)(h:∀k,k<c->ar xs k=z0):∀k,k<c+m->ar (xs.take c++(xs.take c).take m++xs.drop (c+m)) k=z0:=by
 intro k _
 have E:∀j,j<c->ar (xs.take c) j=z0:=λj O=>by
  have:ar (xs.take c) j=ar xs j:=by unfold ar;simp[List.getD,List.getElem?_take,O]
  rw[this];exact h j O
 have h1:(xs.take c).length=c:=by rw[List.length_take];omega
 rw[jS (by simp only[List.length_append,List.length_take];omega)]
 by_cases hkc:k<c
 · rw[jS U];exact E k hkc
 · rw[kV U,h1]
   have:ar ((xs.take c).take m) (k-c)=ar (xs.take c) (k-c):=by unfold ar;simp[List.getD,List.getElem?_take,show k-c<m by omega]
   rw[this];exact E _ U
def OR {xs:List R}(hl:xs.length=n)(hc:¬c<n)(h:∀k,k<c->ar xs k=z0):xs=zs n:=by
 refine m5 (by rw[hl];unfold zs;simp) λj _=>?_
 rw[h j U,ek (by unfold zs;simp;omega)]
 simp[zs]
def lF (n:Nat):(zs n).length=n:=by unfold zs;exact List.length_replicate
def kW (L:Rows):Nat->List R
 |0=>[]
 |k+1=>kW L k++L k
def KN (hn:n<=16):
 CL 216 #[.int .u64 ((1:Nat):Int),.int .u64 n] w (aI w λv w'=>v=.tuple #[.int .u64 ((0:Nat):Int),.int .u64 n]):=by
 refine aE func216 Z (I ?_);refine aa (KI (m:=1) Z Z U ?_);refine I ?_;refine aa (pR (m:=1) Z Z U ?_);refine I ?_;refine aa (KI (m:=n) Z Z U ?_);refine I ?_;refine aa (pR (m:=n) Z Z U ?_);refine I ?_;refine aa (uL (a:=((1:Nat):Int)) (b:=(n:Int)) (c:=(n:Int)) Z Z JT U ?_);refine I ?_;refine aa (uL (a:=((0:Nat):Int)) (b:=(n:Int)) (c:=((0:Nat):Int)) Z Z JT U ?_);refine I ?_;refine aa (pR (m:=n) Z Z U ?_);refine aa (yq (a:=((0:Nat):Int)) (b:=((0:Nat):Int)) (c:=((0:Nat):Int)) Z Z JT U ?_);refine I ?_;refine aa (KI (m:=0) Z Z U ?_);refine I ?_;refine aa (pR (m:=0) Z Z U ?_);refine I ?_;refine aa (uL (a:=((1:Nat):Int)) (b:=((0:Nat):Int)) (c:=((0:Nat):Int)) Z Z JT U ?_);refine aa (yq (a:=((0:Nat):Int)) (b:=((0:Nat):Int)) (c:=((0:Nat):Int)) Z Z JT U ?_);refine I ?_;refine aa (uL (a:=((0:Nat):Int)) (b:=((0:Nat):Int)) (c:=((0:Nat):Int)) Z Z JT U ?_);refine I ?_;refine aa (yq (a:=((0:Nat):Int)) (b:=((0:Nat):Int)) (c:=((0:Nat):Int)) Z Z JT U ?_);refine I ?_;refine aa (pR (m:=0) Z Z U ?_)
 refine aa (yq (a:=((0:Nat):Int)) (b:=((0:Nat):Int)) (c:=((0:Nat):Int)) Z Z JT U ?_);refine I ?_;refine aa (uL (a:=((1:Nat):Int)) (b:=(n:Int)) (c:=(n:Int)) Z Z JT U ?_);refine I ?_;exact bw (t:=4) (u:=5) (v1:=.int .u64 ((0:Nat):Int)) (v2:=.int .u64 n) Z (aa1 _) Z Z Z
def OS (hn:n<=16):
 CL 173 #[.int .u64 ((1:Nat):Int),.int .u64 n] w (aI w λv w'=>v=.tuple #[.int .u64 ((0:Nat):Int),.int .u64 n]):=by
 refine aE func173 Z (I ?_);refine cl V9 (KN hn) ?_;rintro _ _ E rfl;have O:=E.2;refine I ?_;exact bw (t:=4) (u:=5) (v1:=.int .u64 ((0:Nat):Int)) (v2:=.int .u64 n) Z O Z Z Z
def Un (hx:Rw w lo A (ag [z0]))(hn:1<=n)(hn16:n<=16):
 CL 127 #[.slice A 1 c,.int .i64 n] w (aI w λv w'=>World.ownsRow w' w.heap.size 33 2 v n (ag (zs n))):=by
 refine aE func127 Z (I ?_);refine aa (fU (k:=.i64) (k':=.u64) (a:=((1:Nat):Int)) (c:=((1:Nat):Int)) U3 Ib Z (wrap_u64 U) ?_);refine I ?_;refine aa (fU (k:=.i64) (k':=.u64) (a:=(n:Int)) (c:=(n:Int)) U3 Ib Z (wrap_u64 U) ?_);refine clb Y4 (hc:=OS U) (hk:=?_);rintro _ A1 nm rfl;have A0:=nm.2;refine I ?_;refine aa (fU (k:=.u64) (k':=.i64) (a:=(n:Int)) (c:=(n:Int)) Ib U3 Z (k5 zd) ?_);refine aa (mf (m:=n) sE aY Z Z U Rg (λCG B2 _ Am=>?_));rw[AI]at Am;have A0:=xt A0 B2;obtain⟨E,cy⟩:∃x,x=some (⟨A1.heap.size,0,none⟩:Addr):=⟨_,rfl⟩;rw[<-cy]at Am;have B0:World.ownsRow CG A1.heap.size 33 2 (.slice E n n) (List.replicate n e0).length (ag (List.replicate n e0)):=by rw[List.length_replicate];exact Am
 have hAo:E=some ⟨ci (sA (.slice E n n)),0,none⟩:=by rw[cy];rfl
 refine aa (aL (v:=.slice E n n) (qb2 (λa=>Value.slice a n n) cy.symm) ?_);refine I ?_;refine aa (Ff (o:=0) (l:=List.replicate n e0) (src:=[z0]) B0 (by rw[Nat.zero_mul];exact hAo) Z JT U Z (hx.ext A0) Z dc (λE0 Az _ _ B1=>?_));have A0:=bh Az A0;refine I ?_;have Af:Nat.min 1 n=1:=by show min 1 n=1;omega
 refine cg [(8,8),(34,46)] (λCY e W=>∃j:Nat,∃xs:List R,(n-j=CY)/\(e 8=.int .i64 j)/\(1<=j)/\(j<=n)/\(xs.length=n)/\(∀k,k<j->ar xs k=z0)/\(E0.heap.size<=W.heap.size)/\(aP w W)/\(W.ownsRow A1.heap.size 33 2 (.slice E n n) xs.length (ag xs))) (n-1) ⟨1,((List.replicate n e0).take 0++[z0].take (Nat.min 1 n)++(List.replicate n e0).drop (0+Nat.min 1 n)),rfl,(by rw[Af];rfl),(qa0 _),U,(by simp[Af];omega),(λk hk=>by rw[Af,show k=0 by omega];simp[ar]),(qa0 _),A0,B1⟩ ?_;rintro _ _ Ar ⟨j,xs,rfl,GC,K2,FR,Ab,Aw,EW,O,Aq⟩;by_cases hlj:j<n;have Ay:Nat.min j (n-j)<=j:=Nat.min_le_left _ _;have Ap:j+Nat.min j (n-j)<=n:=by have:Nat.min j (n-j)<=n-j:=Nat.min_le_right _ _;omega
 have E4:1<=Nat.min j (n-j):=by show 1<=min j (n-j);omega
 refine I ?_;have A2:=ac1 Ar;refine xL 8 (λls e W=>(aP w W)/\(Ar.heap.size<=W.heap.size)/\(ls 7=false->(W.ownsRow A1.heap.size 33 2 (.slice E n n) xs.length (ag xs)))/\(ls 7=true->(W.ownsRow A1.heap.size 33 2 (.slice E n n) ((xs.take j++(xs.take j).take (Nat.min j (n-j))++xs.drop (j+Nat.min j (n-j))).length) (ag (xs.take j++(xs.take j).take (Nat.min j (n-j))++xs.drop (j+Nat.min j (n-j))))))) ⟨(xt O A2),(bz A2),(λ_=>(ab A2 Aq)),(λh=>ff Z h)⟩ ?_;refine sf ?_;refine de (λK3 ES G0 _ H2 H3 _=>by refine aa (ym (A:=E) (m:=n) (c:=n) (i:=j) sE bV Z Z U (qa0 _) ?_);refine I ?_;exact aG) ?_;refine sf ?_;refine de (λE9 Ix H4 _ E5 E6 _=>by refine aa (no (A:=E) (m:=n) (c:=n) (j:=j) sE bV Z Z U ?_);refine I ?_;exact aG) ?_;refine Ja (V:=.int .i64 ((Nat.min j (n-j):Nat):Int)) (λ_ _ _ ny _ od _=>?_) ?_;obtain⟨O,D1,Ax,As⟩:=ny;have Ao:=Ax od;refine aa (Ff (o:=j) (l:=xs) (src:=xs.take j) Ao (by unfold uG;rw[if_neg U,hAo];simp[Addr.add_mid,sA,ci]) Z U U Z (Rw.takeR (fh Ao) j) (by rw[List.length_take];omega) U (λ_ Av _ _ Cr=>?_));have O:=bh Av O;have E7:=iQ Av;refine I ?_;exact fs ⟨rfl,O,U,(λCB=>tf Z CB),(λ_=>Cr)⟩;refine sf ?_;rintro _ _ _ E1 ⟨O,D1,Ax,As⟩;have D2:=As (E1 7 Z)
 refine aa (cC (a:=(j:Int)) (b:=((Nat.min j (n-j):Nat):Int)) (c:=((j+Nat.min j (n-j):Nat):Int)) Z Z zd U ?_);refine I ?_;exact bJ ⟨(j+Nat.min j (n-j)),(xs.take j++(xs.take j).take (Nat.min j (n-j))++xs.drop (j+Nat.min j (n-j))),rfl,rfl,U,U,(OQ Ab Ap Ay),(Um Ab Ap Ay Aw),U,O,D2⟩;have C1:=OR Ab hlj Aw;refine I ?_;exact am (t:=4) (v:=.slice E n n) Z O (by have h:=Aq;rw[C1,lF]at h;exact cD U h) Z
section
variable {P:Program}{r:Option Nat}{ds:List Deferred}{Q:Exit->Act->World->Prop}{K:Act->World->Prop}
variable {d ty:Nat}{pos:String}{af:Array Edge}{g:Option (Nat×Bool)}{u:Value}{x y:Operand}{t':TypeId}
def uN {el m m' c':Nat}(hu:P.underlying t=some (.slice el))(hx:ev N e x=.slice A m c)(hy:ev N e y=.slice none m' c')(hk:K (act N (upd e d (.bool A.isNone)) ds) w):
 Oper.wpIn (Fw r) n P ⟨some d,.binOp .eql t x y t',ty,pos,af,g⟩ (act N e ds) w K Q:=by
 refine dI hx hy ?_ ?_ hk
 · unfold eqGuard;simp
 · have:(Op.equal t (.slice A m c) (.slice none m' c')).run P w=.ok A.isNone w:=by
    unfold Op.equal Op.maxDepth
    show(Op.equalIn (9999+1) t _ _).run _ _=_
    unfold Op.equalIn
    cases A <;>simp[run_underlying hu]
   simp[binOp,this]
end
def OT {xs:List R}(hx:Rw w lo none (ag xs))(hl:xs.length<=1000000):
 CL 70 #[.slice none xs.length c] w (aI w λv w'=>World.ownsRow w' w.heap.size 33 2 v xs.length (ag xs)):=by
 refine aE func70 Z (I ?_);refine aa (uN (A:=none) sE Z Z ?_);refine I ?_;(try refine k7 (qb2 Value.bool Z) ?_);refine I ?_;exact am (t:=2) (v:=.slice none 0 0) Z (aa1 _) (by have:=hx.cells;cases xs with|nil=>exact bM|cons a l=>obtain⟨b,o,h,_⟩:=this 0 _ Z;cases h) rfl
def OU {xs:List R}(hx:Rw w lo (some ad) (ag xs))(hl:xs.length<=1000000):
 CL 70 #[.slice (some ad) xs.length c] w (aI w λv w'=>World.ownsRow w' w.heap.size 33 2 v xs.length (ag xs)):=by
 refine aE func70 Z (I ?_);refine aa (uN (A:=some ad) sE Z Z ?_);refine I ?_;(try refine fM (qb2 Value.bool Z) ?_);refine I ?_;refine aa (zx sE aY (λ_ A1 _ O=>?_));have E5:=A1;have Ab:=bz A1;refine I ?_;refine aa (jB (v:=.slice (some ⟨w.heap.size,0,none⟩) 0 0) (k:=0) (m:=xs.length) (news:=ag xs) sE aY Z dc Z O Z (hx.ext E5) (fI _) ol Rg U U (λE _ A0 A2 _=>?_));have E5:=bo O U U E5 A2;rw[List.nil_append]at A0;refine aa (aL (v:=E) Z ?_);refine I ?_;exact am (t:=2) (v:=E) Z E5 (aQ A0 (Nat.zero_add _) Z) Z
def uO {xs:List R}(hx:Rw w lo A (ag xs))(hl:xs.length<=1000000):
 CL 70 #[.slice A xs.length c] w (aI w λv w'=>World.ownsRow w' w.heap.size 33 2 v xs.length (ag xs)):=by
 cases A with
 |none=>exact OT hx hl
 |some ad=>exact OU hx hl
end
end Go.Proofs.YtlmihmlnpjkblaaGreatDoor
