/- Part of the proof of a statement about an adjustment. -/
import Derived.Test.YtlmihmlnpjkblaaGreatDoorBaseToEngDG
import Derived.DefersIn
import Derived.Recover
set_option linter.all false
namespace Go.Eng
open Go Go.RowKit
variable {xs:Array Operand}{ats:Array TypeId}{args:Array Value}{X q:Bool}{fn:Func}{f:FuncId}{l rest:List Oper}{vs lb cs:List Value}{j k i N size bytes M s o' bk:Nat}{e:Nat->Value}{A:Option Addr}{dd:Option Nat}{P:Program}{p G G':Prop}{name:String}{D:TypeDesc}{t ty' u el tb:TypeId}{b v a g v1 v2:Value}{w w':World}
def eR (ls:Nat->Bool)(i:Nat):Nat->Bool:=λj=>match Nat.beq j i with|true=>true|false=>ls j
def kJ (e:Nat->Value):Option Nat->Value->Nat->Value
 |some d,v=>upd e d v
 |none,_=>e
section draws
variable {r:Option Nat}{n:Nat}{e0:Nat->Value}{ds:List Deferred}{w0:World}{Q:Exit->Act->World->Prop}{ops:Array Oper}
def Nv {id :Nat}(hm:P.follows .mixedOrders=true)(M:Nat)(k6:(Nat->Bool)->(Nat->Value)->World->Prop)(hJ0:k6 (λ_=>false) e0 w0.drew)(hwf:∀(i:Nat) (o:Oper),l.toArray[i]?=some o->∀e∈o.after,Region.binds .any e=true->e.on<i)(hshape:Region.sinkB .any l.toArray M=true/\Region.chainB .any l.toArray M=true/\M<l.toArray.size\/M=l.toArray.size)(hstep:∀(i:Nat) (o:Oper),i<M->l.toArray[i]?=some o->∀(e:Nat->Value) (w:World) (ls:Nat->Bool),k6 ls e w->(∀j oj,l.toArray[j]?=some oj->ls j=true->∀ed∈oj.after,Region.binds .any ed=true->ls ed.on=true)->ls i=false->(∀ed∈o.after,Region.binds .any ed=true->ls ed.on=true)->
 wpListIn (Fw r) n P l.toArray (λx a' w'=>x=.normal/\∃v,a'=(act N e ds).put o.dst v/\k6 (eR ls i) (kJ e o.dst v) w') [o] (act N e ds) w)(hfin:∀(e:Nat->Value) (w:World) (ls:Nat->Bool),(∀j,j<M->ls j=true)->k6 ls e w->wpListIn (Fw r) n P l.toArray Q (l.drop M) (act N e ds) w):
 (Code.region id l.toArray true).wpIn (Fw r) n P Q (act N e0 ds) w0:=by
 have hMle:M<=l.toArray.size:=by rcases hshape with⟨_,_,h⟩|h <;>omega
 have hchain:Region.chainB .any l.toArray M=true:=by
  rcases hshape with⟨_,h,_⟩|h
  · exact h
  · refine List.all_eq_true.2 λt ht=>?_
    have:=List.mem_range.1 ht
    simp only[Bool.or_eq_true,decide_eq_true_eq]
    left;omega
 refine wpIn_region_any hm ?_
 have main : ∀ (fuel:Nat) (listed:Array Bool) (e:Nat->Value) (w:World),left l.toArray listed<=fuel->HeadInv .any l.toArray M listed->k6 (λj=>listed.getD j false) e w->
  wpAnyIn (Fw r) n P .any l.toArray Q fuel listed (act N e ds) w:=by
  intro fuel
  induction fuel with
  | zero=>
    intro listed e w hf inv hJ
    have A1:∀i,i<l.toArray.size->listed.getD i false=true:=by
     intro i hi
     cases hb:listed.getD i false with
     |true=>rfl
     | false=>
       have:=kG hi inv.size hb
       omega
    refine kF hchain hwf 0 l.toArray.size listed _ w 0 Z hMle inv.size A1 (λi h1 h2=>by omega) (qa0 _) ?_
    by_cases hM:M=l.toArray.size
    · have h:=hfin e w _ (λj E=>A1 j J) hJ
      rw[hM]at h
      simpa using h
    · have h1:=inv.tail M (qa0 _) J
      have h2:=A1 M J
      rw[getD_both h1]at h2
      cases h2
  | succ fuel ih=>
    intro listed e w hf inv hJ
    by_cases hdone:∀i,i<M->listed.getD i false=true
    · refine kF hchain hwf (l.toArray.size-M) M listed _ w (fuel+1) J (qa0 _) inv.size hdone (λi h1 h2=>inv.tail i h1 h2) ?_ ?_
      · have h1:l.toArray.size-M<=left l.toArray listed:=qx hMle (λi h1 h2=>getD_both (inv.tail i h1 h2))
        omega
      · simpa using hfin e w _ (λj E=>hdone j E) hJ
    · have hex:∃i,i<M/\listed.getD i false=false:=by
       refine qb6 λA2=>hdone λi hi=>?_
       cases hb:listed.getD i false with
       |true=>rfl
       |false=>exact absurd ⟨i,hi,hb⟩ A2
      obtain⟨Ab,Ao,Af⟩:=hex
      have Aq:∀i∈Region.ready .any l.toArray listed,i<M:=by
       intro i hi
       rcases Nat.lt_or_ge i M with h|h
       · exact h
       · rcases hshape with⟨h1,h2,h3⟩|h3
         · exact absurd hi (tail_waits h1 h2 h3 inv _ Ab Z Ao (getD_in (by rw[inv.size];omega) Af) i h)
         · obtain⟨_,o,ho,_⟩:=mem_ready.1 hi
           have:=(Array.getElem?_eq_some_iff.1 ho).1
           omega
      refine⟨λAr=>?_,λi hi=>?_⟩
      ·
       exfalso
       have least:∀k i,i<=k->i<l.toArray.size->listed.getD i false=false->∃j,j∈Region.ready .any l.toArray listed:=by
        intro k
        induction k with
        | zero=>
          intro i hi hl hb
          obtain rfl:i=0:=J
          refine⟨0,mem_ready.2 ⟨getD_in ka0 hb,l.toArray[0],Array.getElem?_eq_getElem hl,λed O W=>?_⟩⟩
          have:=hwf 0 _ (Array.getElem?_eq_getElem hl) ed O W
          omega
        | succ k ihk=>
          intro i hi hl hb
          by_cases hp:∀ed∈(l.toArray[i]).after,Region.binds .any ed=true->listed.getD ed.on false=true
          · exact⟨i,mem_ready.2 ⟨getD_in ka0 hb,l.toArray[i],Array.getElem?_eq_getElem hl,hp⟩⟩
          · have:∃ed∈(l.toArray[i]).after,Region.binds .any ed=true/\listed.getD ed.on false=false:=by
             refine qb6 λA2=>hp λed O W=>?_
             cases hb:listed.getD ed.on false with
             |true=>rfl
             |false=>exact absurd ⟨ed,O,W,hb⟩ A2
            obtain⟨ed,O,W,A0⟩:=this
            have hlt:=hwf i _ (Array.getElem?_eq_getElem hl) ed O W
            exact ihk ed.on J J A0
       obtain⟨j,E⟩:=least Ab Ab (qa0 _) J Af
       rw[Ar]at E
       cases E
      · have hiM:=Aq i hi
        obtain⟨A0,o,ho,hpred⟩:=mem_ready.1 hi
        have H:=hstep i o hiM ho e w (λj=>listed.getD j false) hJ (λj oj E hl=>inv.closed j oj E hl) (getD_both A0) hpred
        have hnext:∀a' w',(∃v,a'=(act N e ds).put o.dst v/\k6 (eR (λj=>listed.getD j false) i) (kJ e o.dst v) w')->wpAnyIn (Fw r) n P .any l.toArray Q fuel (listed.setIfInBounds i true) a' w':=by
         rintro a' w' ⟨v,rfl,hJ'⟩
         have As:i<l.toArray.size:=J
         have hJ2:k6 (λj=>(listed.setIfInBounds i true).getD j false) (kJ e o.dst v) w':=by
          have e':(λj=>(listed.setIfInBounds i true).getD j false)=eR (λj=>listed.getD j false) i:=by
           funext j
           by_cases E:j=i
           · subst E;unfold eR;simp;have:=inv.size;simp[this];omega
           · have hb:Nat.beq j i=false:=by
              cases hb:Nat.beq j i with
              |false=>rfl
              |true=>exact absurd (qb4 hb) E
             unfold eR;rw[hb];simp only;rw[getD_set_ne false (λh=>E h.symm)]
          rw[e'];exact hJ'
         have Am:left l.toArray (listed.setIfInBounds i true)<=fuel:=by
          have:=kG As inv.size (getD_both A0)
          omega
         cases hd:o.dst with
         | none=>
           rw[hd]at hJ2
           exact ih _ e w' Am (inv.set hi hiM) hJ2
         | some d0=>
           rw[hd]at hJ2
           rw[ax]
           exact ih _ _ w' Am (inv.set hi hiM) hJ2
        unfold wpOpIn
        rw[ho]
        dsimp only
        unfold wpListIn at H
        split
        · rename_i hw
          rw[if_pos hw]at H
          exact iu (λa' w' Ap=>hnext a' w' Ap.2) (λc a w h=>by cases h.1) (λa w h=>by cases h.1) H
        · rename_i hw
          rw[if_neg hw]at H
          exact⟨H.1,hnext _ _ H.2.2⟩
 refine main _ _ e0 w0.drew ?_ ⟨by simp,λj oj E hl=>?_,λt h1 h2=>?_⟩ ((congrArg (λf=>k6 f e0 w0.drew) (funext λj=>getD_replicate_false _ j)).mpr hJ0)
 · unfold left
   exact qa8 (List.length_filter_le _ _) zd
 · rw[getD_replicate_false]at hl;cases hl
 · have h3:t<l.length:=by simpa using h2
   simp[h3]
def cF (l:List Oper)(j k:Nat):Bool:=match l[j]? with|some o=>ci o k|none=>false
def tz (r:Option Nat)(n:Nat)(P:Program)(N:Nat)(ds:List Deferred)(l:List Oper)(k6:(Nat->Bool)->(Nat->Value)->World->Prop):Nat->List Oper->Prop
 |_,[]=>True
 |i,o::os=>(∀(e:Nat->Value) (w:World) (ls:Nat->Bool),k6 ls e w->(∀j k,cF l j k=true->ls j=true->ls k=true)->ls i=false->(∀k,cF l i k=true->ls k=true)->
  wpListIn (Fw r) n P l.toArray (λx a' w'=>x=.normal/\∃v,a'=(act N e ds).put o.dst v/\k6 (eR ls i) (kJ e o.dst v) w') [o] (act N e ds) w)/\tz r n P N ds l k6 (i+1) os
theorem tA {l:List Oper}{k6:(Nat->Bool)->(Nat->Value)->World->Prop}:∀(os:List Oper) (i0:Nat),tz r n P N ds l k6 i0 os->∀i o,os[i]?=some o->
 (∀(e:Nat->Value) (w:World) (ls:Nat->Bool),k6 ls e w->(∀j k,cF l j k=true->ls j=true->ls k=true)->ls (i0+i)=false->(∀k,cF l (i0+i) k=true->ls k=true)->
  wpListIn (Fw r) n P l.toArray (λx a' w'=>x=.normal/\∃v,a'=(act N e ds).put o.dst v/\k6 (eR ls (i0+i)) (kJ e o.dst v) w') [o] (act N e ds) w)
 |[],_,_,i,o,h=>by simp at h
 |o'::os,i0,h,0,o,ho=>by simp at ho;subst ho;exact h.1
 | o'::os,i0,h,i+1,o,ho=>by
   have:=tA os (i0+1) h.2 i o (by simpa using ho)
   rwa [show i0+1+i=i0+(i+1)by omega]at this
def oW {o:Oper}(ho:l[j]?=some o):cF l j k=true↔∃ed∈o.after,Region.binds .any ed=true/\ed.on=k:=by
 unfold cF ci
 rw[ho]
 simp only[List.any_eq_true,Bool.and_eq_true]
 constructor
 · rintro⟨ed,h1,h2,h3⟩;exact⟨ed,by simpa using h1,h2,Nat.eq_of_beq_eq_true h3⟩
 · rintro⟨ed,h1,h2,h3⟩;exact⟨ed,by simpa using h1,h2,by subst h3;simp⟩
def Y0 {id:Nat}(hm:P.follows .mixedOrders=true)(M:Nat)(k6:(Nat->Bool)->(Nat->Value)->World->Prop)(hJ0:k6 (λ_=>false) e0 w0.drew)(hwf:M3 l=true)(hshape:iv l M=true)(hstep:tz r n P N ds l k6 0 (l.take M))(hfin:∀(e:Nat->Value) (w:World) (ls:Nat->Bool),(∀j,Nat.blt j M=true->ls j=true)->k6 ls e w->wpListIn (Fw r) n P l.toArray Q (l.drop M) (act N e ds) w):
 (Code.region id l.toArray true).wpIn (Fw r) n P Q (act N e0 ds) w0:=by
 have A0:∀j:Nat,l.toArray[j]?=l[j]?:=λj=>by rw[List.getElem?_toArray]
 refine Nv hm M k6 hJ0 ?_ ?_ ?_ (λe w ls h1 h2=>hfin e w ls (λj H=>h1 j (by rwa [Nat.blt_eq]at H)) h2)
 · intro i o ho O W hb
   rw[A0]at ho
   have h1:=List.all_eq_true.1 hwf i (List.mem_range.2 (List.getElem?_eq_some_iff.1 ho).1)
   rw[ho]at h1
   have h2:=List.all_eq_true.1 h1 O kc7
   simp only[hb,Bool.not_true,Bool.false_or]at h2
   rwa [Nat.blt_eq]at h2
 · simp only[iv,Bool.or_eq_true,Bool.and_eq_true]at hshape
   rcases hshape with⟨⟨h1,h2⟩,h3⟩|h
   · rw[Nat.blt_eq]at h3;exact .inl ⟨h1,h2,by simpa using h3⟩
   · exact .inr Fm
 · intro i o hi ho e w ls hJ A2 Ab A1
   rw[A0]at ho
   have h1:=tA (l.take M) 0 hstep i o (by rw[List.getElem?_take,if_pos hi];exact ho)
   simp only[Nat.zero_add]at h1
   refine h1 e w ls hJ (λj k E hl=>?_) Ab (λk E=>?_)
   · cases H:l[j]? with
     |none=>unfold cF at E;rw[H]at E;cases E
     | some oj=>
       obtain⟨O,W,hb,rfl⟩:=(oW H).1 E
       exact A2 j oj (by rw[A0];exact H) hl O W hb
   · obtain⟨O,W,hb,rfl⟩:=(oW ho).1 E
     exact A1 O W hb
def IS {id:Nat}(hm:P.follows .mixedOrders=true)(M:Nat)(k6:(Nat->Value)->(Nat->Bool)->(Nat->Value)->World->Prop)(hJ0:k6 e0 (λ_=>false) e0 w0.drew)(hwf:M3 l=true)(hshape:iv l M=true)(hstep:tz r n P N ds l (k6 e0) 0 (l.take M))(hfin:∀(e:Nat->Value) (w:World) (ls:Nat->Bool),(∀j,Nat.blt j M=true->ls j=true)->k6 e0 ls e w->wpListIn (Fw r) n P l.toArray Q (l.drop M) (act N e ds) w):
 (Code.region id l.toArray true).wpIn (Fw r) n P Q (act N e0 ds) w0:=Y0 hm M (k6 e0) hJ0 hwf hshape hstep hfin
def aT {ls:Nat->Bool}(hcl:∀j k,cF l j k=true->ls j=true->ls k=true)(hp:cF l j i=true)(h:ls i=false):ls j=false:=by
 cases hj:ls j with
 |false=>rfl
 |true=>have:=hcl j i hp hj;rw[h]at this;cases this
def ff {b:Bool}(h:b=false)(hb:b=true):p:=by rw[h]at hb;cases hb
def tf {b:Bool}(h:b=true)(hb:b=false):p:=by rw[h]at hb;cases hb
end draws
def pan (t:TypeId)(c:Int):List PanicEntry:=[{v:=.iface t (.int .i64 c),recovered:=false}]
def jj {α:Type}(p:List PanicEntry)(w:World)(T:Option α)(R:α->Value->World->Prop):Ending->World->Prop
 | .returned v,w'=>aN w w'/\∃a,T=some a/\R a v w'
 | .panicked c,w'=>aN w w'/\T=none/\c=p
 | .outgrown,_=>False
def jj.ret {α:Type}{p:List PanicEntry}{T:Option α}{R:α->Value->World->Prop}{a:α}(hT:T=some a)(h:Calls P f args w (jj p w T R)):Calls P f args w (aH w (R a)):=
 h.mono λe w' h=>by
  cases e with
  |returned v=>obtain⟨h1,a',h2,h3⟩:=h;rw[hT]at h2;cases h2;exact⟨h1,h3⟩
  |panicked c=>obtain⟨_,h2,_⟩:=h;rw[hT]at h2;cases h2
  |outgrown=>exact h.elim
def ad7:=@jj.ret
def fo (p:List PanicEntry)(w:World):Ending->World->Prop
 | .panicked c,w'=>aN w w'/\c=p
 |_,_=>False
def jj.pan {α:Type}{p:List PanicEntry}{T:Option α}{R:α->Value->World->Prop}(hT:T=none)(h:Calls P f args w (jj p w T R)):Calls P f args w (fo p w):=
 h.mono λe w' h=>by
  cases e with
  |returned v=>obtain⟨h1,a',h2,h3⟩:=h;rw[hT]at h2;cases h2
  |panicked c=>exact⟨h.1,h.2.2⟩
  |outgrown=>exact h.elim
def ad9:=@jj.pan
def jj.of {α:Type}{p:List PanicEntry}{T:Option α}{R:α->Value->World->Prop}(h1:∀a,T=some a->Calls P f args w (aH w (R a)))(h2:T=none->Calls P f args w (fo p w)):Calls P f args w (jj p w T R):=by
 cases hT:T with
 | none=>
   refine(h2 hT).mono ?_
   intro e w' h
   cases e with
   |returned v=>exact h.elim
   |panicked c=>exact⟨h.1,rfl,h.2⟩
   |outgrown=>exact h.elim
 | some a=>
   refine(h1 a hT).mono ?_
   intro e w' h
   cases e with
   |returned v=>exact⟨h.1,a,rfl,h.2⟩
   |panicked c=>exact h.elim
   |outgrown=>exact h.elim
def aH.mono {R R':Value->World->Prop}(h:Calls P f args w (aH w R))(hr:∀v w',R v w'->R' v w'):Calls P f args w (aH w R'):=
 Calls.mono h λe w' h=>by
  cases e with
  |returned v=>exact⟨h.1,hr _ _ h.2⟩
  |panicked c=>exact h.elim
  |outgrown=>exact h.elim
def qD:TypeDesc->Bool
 | .pointer _=>false
 |_=>true
def zF:TypeDesc->Bool
 | .interface _=>false
 |_=>true
section ops
variable {r:Option Nat}{n:Nat}{ds:List Deferred}{Q:Exit->Act->World->Prop}{K:Act->World->Prop}
variable {d ty:Nat}{pos:String}{af:Array Edge}{g:Option (Nat×Bool)}{u:Value}{x y:Operand}
def ju (hu:P.underlying t=some D)(hd:zF D=true)(hx:ev N e x=v)(hk:K (act N (upd e d (.iface t v)) ds) w):
 Oper.wpIn (Fw r) n P ⟨some d,.makeInterface t x,ty,pos,af,g⟩ (act N e ds) w K Q:=by
 refine cW (v:=.iface t v) (w':=w) Z ?_ Hx
 subst hx
 have h:(Instr.makeInterface t (ev N e x)).run P w=.ok (.iface t (ev N e x)) w:=by
  unfold Instr.makeInterface
  cases D <;>first|(cases hd;done)|simp[run_underlying hu]
 simp[execOp,h]
def ew (P:Program)(t:TypeId)(name:String)(f:FuncId):Prop:=
 ∃i m,P.info? t=some i/\i.methods.find? (·.name==name)=some m/\m.path=#[]/\m.func=some (f,false)
def kK (h:((P.info? t).bind λi=>(i.methods.find? (·.name==name)).map λm=>(m.path.size,m.func))=some (0,some (f,false))):ew P t name f:=by
 cases hi:P.info? t with
 |none=>rw[hi]at h;cases h
 | some i=>
   rw[hi]at h
   simp only[Option.bind_some]at h
   cases hm:i.methods.find? (·.name==name)with
   |none=>rw[hm]at h;cases h
   | some m=>
     rw[hm]at h
     simp only[Option.map_some,Option.some.injEq,Prod.mk.injEq]at h
     exact⟨i,m,hi,hm,Array.eq_empty_of_size_eq_zero h.1,h.2⟩
def Cs (hm:ew P t name f)(hu:P.underlying t=some D)(hd:qD D=true)(k:Nat)(v:Value):
 (method (k+1) t v name).run P w=.ok (f,v) w:=by
 obtain⟨i,m,h1,h2,h3,h4⟩:=hm
 cases D <;>first|(cases hd;done)|simp[method,typeInfo,h1,h2,h3,h4,follow,receiverAt,run_underlying hu,Place.get]
def nV {o:Oper}{p:List PanicEntry}(hd:oJ o.op=true)(hr:(execOp (ev N e) o).run P w=.ok (.enter f args) w)(hc:Calls P f args w (fo p w))(hk:∀w',aN w w'->Q (.panic p) (act N e ds) w'):o.wpIn (Fw r) n P (act N e ds) w K Q:=by
 refine⟨λf _=>kE r f,?_⟩
 rw[iP hd,cS,hr]
 refine⟨(λh=>by rw[l9]at h;cases h),oH (hc.mono ?_)⟩
 intro e' w' h
 cases e' with
 |returned v=>exact h.elim
 |panicked c=>obtain⟨h1,rfl⟩:=h;exact hk w' h1
 |outgrown=>exact h.elim
def dO {p:List PanicEntry}(hf:Enters P f)(hv:xs.toList.map (ev N e)=vs)(hc:Calls P f vs.toArray w (fo p w))(hk:∀w',aN w w'->Q (.panic p) (act N e ds) w'):Oper.wpIn (Fw r) n P ⟨dd,.call {callee:=.value (.func f),args:=xs,argTypes:=ats},ty,pos,af,g⟩ (act N e ds) w K Q:=by
 subst hv
 refine nV (f:=f) (args:=xs.map (ev N e)) Z ?_ CD hk
 simp[execOp,resolve,Deferred.ofValue,ev,invoke,hf _ _]
def lu {p:List PanicEntry}(hf:Enters P f)(hx:ev N e x=.func (.func f) #[] lb.toArray)(hv:xs.toList.map (ev N e)=vs)(hc:Calls P f (vs++lb).toArray w (fo p w))(hk:∀w',aN w w'->Q (.panic p) (act N e ds) w'):Oper.wpIn (Fw r) n P ⟨dd,.call {callee:=.value x,args:=xs,argTypes:=ats},ty,pos,af,g⟩ (act N e ds) w K Q:=by
 subst hv
 have h2:xs.map (ev N e)++lb.toArray=(xs.toList.map (ev N e)++lb).toArray:=by simp
 refine nV (f:=f) (args:=xs.map (ev N e)++lb.toArray) Z ?_ (by rw[h2];exact hc) hk
 simp[execOp,resolve,Deferred.ofValue,hx,invoke,hf _ _]
def tB {cap:Array Value}(hf:Enters P f)(hm:ew P t name f)(hu:P.underlying t=some D)(hd:qD D=true)(hv:xs.toList.map (ev N e)=vs):(invoke (.fn (.method name) cap) (#[.iface t v]++xs.map (ev N e))).run P w=.ok (.enter f (v::vs).toArray) w:=by
 subst hv
 have h1:=Cs (P:=P) (w:=w) hm hu hd (P.types.size+Made.depth-1) v
 have E:P.types.size+Made.depth-1+1=P.types.size+Made.depth:=by
  have:0<Made.depth:=by decide
  omega
 rw[E]at h1
 have h2: #[v]++xs.map (ev N e)=(v::xs.toList.map (ev N e)).toArray:=by simp
 have h3:(#[Value.iface t v]++xs.map (ev N e)).extract 1 (#[Value.iface t v]++xs.map (ev N e)).size=xs.map (ev N e):=by
  apply Array.ext'
  simp
  exact List.take_of_length_le zd
 have h4:(#[Value.iface t v]++xs.map (ev N e))[0]?=some (.iface t v):=by rw[Array.getElem?_append_left zd];rfl
 unfold invoke
 simp only[h4,h3]
 simp[callMethod,h1,hf _ _,h2]
def IT {R:Value->World->Prop}(hf:Enters P f)(hm:ew P t name f)(hu:P.underlying t=some D)(hd:qD D=true)(hx:ev N e x=.iface t v)(hv:xs.toList.map (ev N e)=vs)(hc:Calls P f (v::vs).toArray w (aH w R))(hk:∀u w',aN w w'->R u w'->K (act N (upd e d u) ds) w'):Oper.wpIn (Fw r) n P ⟨some d,.call {callee:=.invoke x name,args:=xs,argTypes:=ats},ty,pos,af,g⟩ (act N e ds) w K Q:=by
 refine sl (f:=f) (args:=(v::vs).toArray) (R:=R) Z ?_ hc (λv w' h1 h2=>by rw[ax];exact hk v w' h1 h2)
 have h:=tB (P:=P) (w:=w) (v:=v) (cap:=#[]) hf hm hu hd hv
 simp only[execOp,resolve,hx]
 simpa using h
def gQ {p:List PanicEntry}(hf:Enters P f)(hm:ew P t name f)(hu:P.underlying t=some D)(hd:qD D=true)(hx:ev N e x=.iface t v)(hv:xs.toList.map (ev N e)=vs)(hc:Calls P f (v::vs).toArray w (fo p w))(hk:∀w',aN w w'->Q (.panic p) (act N e ds) w'):Oper.wpIn (Fw r) n P ⟨dd,.call {callee:=.invoke x name,args:=xs,argTypes:=ats},ty,pos,af,g⟩ (act N e ds) w K Q:=by
 refine nV (f:=f) (args:=(v::vs).toArray) Z ?_ hc hk
 have h:=tB (P:=P) (w:=w) (v:=v) (cap:=#[]) hf hm hu hd hv
 simp only[execOp,resolve,hx]
 simpa using h
def qE {cap:Array Value}(hm:ew P t name f)(hu:P.underlying t=some D)(hd:qD D=true)(hx:ev N e x=.func (.method name) #[.iface t v] cap)(hk:K (act N (upd e d (.func (.method name) #[.iface t v] cap)) ds) w):
 Oper.wpIn (Fw r) n P ⟨some d,.nilCheck x,ty,pos,af,g⟩ (act N e ds) w K Q:=by
 refine cW (v:=.func (.method name) #[.iface t v] cap) (w':=w) Z ?_ Hx
 obtain⟨i,m,h1,h2,h3,h4⟩:=hm
 have O : ∃ k, P.types.size + Made.depth = k + 1 := ⟨P.types.size + Made.depth - 1, by have:0<Made.depth:=by decide
                                                                                       omega⟩
 obtain⟨k,H⟩:=O
 have E:(nilAhead (k+1) t v name).run P w=.ok (some false) w:=by
  cases D <;>first|(cases hd;done)|simp[nilAhead,typeInfo,h1,h2,h3,h4,followBlind,run_underlying hu]
 simp only[execOp,hx]
 simp[H,E]
def Ek {u:Value}(hx:ev N e x=.iface ty' u)(hk:Q (.panic [{v:=.iface ty' u,recovered:=false}]) (act N e ds) w):
 Oper.wpIn (Fw r) n P ⟨none,.panic x,ty,pos,af,g⟩ (act N e ds) w K Q:=by
 refine⟨λf _=>kE r f,?_⟩
 rw[iP Z,cS]
 have:(execOp (ev N e) ⟨none,.panic x,ty,pos,af,g⟩).run P w=.halt (.panic (.iface ty' u)) w:=by
  simp[execOp,hx,Instr.panic,goPanic]
 rw[this]
 exact hk
end ops
section draws
variable {r:Option Nat}{n:Nat}{e0:Nat->Value}{ds:List Deferred}{w0:World}{Q:Exit->Act->World->Prop}{ops:Array Oper}
def zG {id:Nat}(hm:P.follows .mixedOrders=true)(M:Nat)(k6:(Nat->Bool)->(Nat->Value)->World->Prop)(hJ0:k6 (λ_=>false) e0 w0.drew)(hwf:∀(i:Nat) (o:Oper),l.toArray[i]?=some o->∀e∈o.after,Region.binds .any e=true->e.on<i)(hshape:Region.sinkB .any l.toArray M=true/\Region.chainB .any l.toArray M=true/\M<l.toArray.size\/M=l.toArray.size)(hstep:∀(i:Nat) (o:Oper),i<M->l.toArray[i]?=some o->∀(e:Nat->Value) (w:World) (ls:Nat->Bool),k6 ls e w->(∀j oj,l.toArray[j]?=some oj->ls j=true->∀ed∈oj.after,Region.binds .any ed=true->ls ed.on=true)->ls i=false->(∀ed∈o.after,Region.binds .any ed=true->ls ed.on=true)->
 wpListIn (Fw r) n P l.toArray (λx a' w'=>(x=.normal/\∃v,a'=(act N e ds).put o.dst v/\k6 (eR ls i) (kJ e o.dst v) w')\/(∃c,x=.panic c/\Q (.panic c) a' w')) [o] (act N e ds) w)(hfin:∀(e:Nat->Value) (w:World) (ls:Nat->Bool),(∀j,j<M->ls j=true)->k6 ls e w->wpListIn (Fw r) n P l.toArray Q (l.drop M) (act N e ds) w):
 (Code.region id l.toArray true).wpIn (Fw r) n P Q (act N e0 ds) w0:=by
 have hMle:M<=l.toArray.size:=by rcases hshape with⟨_,_,h⟩|h <;>omega
 have hchain:Region.chainB .any l.toArray M=true:=by
  rcases hshape with⟨_,h,_⟩|h
  · exact h
  · refine List.all_eq_true.2 λt ht=>?_
    have:=List.mem_range.1 ht
    simp only[Bool.or_eq_true,decide_eq_true_eq]
    left;omega
 refine wpIn_region_any hm ?_
 have main : ∀ (fuel:Nat) (listed:Array Bool) (e:Nat->Value) (w:World),left l.toArray listed<=fuel->HeadInv .any l.toArray M listed->k6 (λj=>listed.getD j false) e w->
  wpAnyIn (Fw r) n P .any l.toArray Q fuel listed (act N e ds) w:=by
  intro fuel
  induction fuel with
  | zero=>
    intro listed e w hf inv hJ
    have A2:∀i,i<l.toArray.size->listed.getD i false=true:=by
     intro i hi
     cases hb:listed.getD i false with
     |true=>rfl
     | false=>
       have:=kG hi inv.size hb
       omega
    refine kF hchain hwf 0 l.toArray.size listed _ w 0 Z hMle inv.size A2 (λi h1 h2=>by omega) (qa0 _) ?_
    by_cases hM:M=l.toArray.size
    · have h:=hfin e w _ (λj E=>A2 j J) hJ
      rw[hM]at h
      simpa using h
    · have h1:=inv.tail M (qa0 _) J
      have h2:=A2 M J
      rw[getD_both h1]at h2
      cases h2
  | succ fuel ih=>
    intro listed e w hf inv hJ
    by_cases hdone:∀i,i<M->listed.getD i false=true
    · refine kF hchain hwf (l.toArray.size-M) M listed _ w (fuel+1) J (qa0 _) inv.size hdone (λi h1 h2=>inv.tail i h1 h2) ?_ ?_
      · have h1:l.toArray.size-M<=left l.toArray listed:=qx hMle (λi h1 h2=>getD_both (inv.tail i h1 h2))
        omega
      · simpa using hfin e w _ (λj E=>hdone j E) hJ
    · have hex:∃i,i<M/\listed.getD i false=false:=by
       refine qb6 λAb=>hdone λi hi=>?_
       cases hb:listed.getD i false with
       |true=>rfl
       |false=>exact absurd ⟨i,hi,hb⟩ Ab
      obtain⟨Af,Ap,Am⟩:=hex
      have Aq:∀i∈Region.ready .any l.toArray listed,i<M:=by
       intro i hi
       rcases Nat.lt_or_ge i M with h|h
       · exact h
       · rcases hshape with⟨h1,h2,h3⟩|h3
         · exact absurd hi (tail_waits h1 h2 h3 inv _ Af Z Ap (getD_in (by rw[inv.size];omega) Am) i h)
         · obtain⟨_,o,ho,_⟩:=mem_ready.1 hi
           have:=(Array.getElem?_eq_some_iff.1 ho).1
           omega
      refine⟨λAr=>?_,λi hi=>?_⟩
      ·
       exfalso
       have least:∀k i,i<=k->i<l.toArray.size->listed.getD i false=false->∃j,j∈Region.ready .any l.toArray listed:=by
        intro k
        induction k with
        | zero=>
          intro i hi hl hb
          obtain rfl:i=0:=J
          refine⟨0,mem_ready.2 ⟨getD_in ka0 hb,l.toArray[0],Array.getElem?_eq_getElem hl,λed O W=>?_⟩⟩
          have:=hwf 0 _ (Array.getElem?_eq_getElem hl) ed O W
          omega
        | succ k ihk=>
          intro i hi hl hb
          by_cases hp:∀ed∈(l.toArray[i]).after,Region.binds .any ed=true->listed.getD ed.on false=true
          · exact⟨i,mem_ready.2 ⟨getD_in ka0 hb,l.toArray[i],Array.getElem?_eq_getElem hl,hp⟩⟩
          · have:∃ed∈(l.toArray[i]).after,Region.binds .any ed=true/\listed.getD ed.on false=false:=by
             refine qb6 λAb=>hp λed O W=>?_
             cases hb:listed.getD ed.on false with
             |true=>rfl
             |false=>exact absurd ⟨ed,O,W,hb⟩ Ab
            obtain⟨ed,O,W,A1⟩:=this
            have hlt:=hwf i _ (Array.getElem?_eq_getElem hl) ed O W
            exact ihk ed.on J J A1
       obtain⟨j,E⟩:=least Af Af (qa0 _) J Am
       rw[Ar]at E
       cases E
      · have hiM:=Aq i hi
        obtain⟨A1,o,ho,hpred⟩:=mem_ready.1 hi
        have H:=hstep i o hiM ho e w (λj=>listed.getD j false) hJ (λj oj E hl=>inv.closed j oj E hl) (getD_both A1) hpred
        have hnext:∀a' w',(∃v,a'=(act N e ds).put o.dst v/\k6 (eR (λj=>listed.getD j false) i) (kJ e o.dst v) w')->wpAnyIn (Fw r) n P .any l.toArray Q fuel (listed.setIfInBounds i true) a' w':=by
         rintro a' w' ⟨v,rfl,hJ'⟩
         have As:i<l.toArray.size:=J
         have hJ2:k6 (λj=>(listed.setIfInBounds i true).getD j false) (kJ e o.dst v) w':=by
          have e':(λj=>(listed.setIfInBounds i true).getD j false)=eR (λj=>listed.getD j false) i:=by
           funext j
           by_cases E:j=i
           · subst E;unfold eR;simp;have:=inv.size;simp[this];omega
           · have hb:Nat.beq j i=false:=by
              cases hb:Nat.beq j i with
              |false=>rfl
              |true=>exact absurd (qb4 hb) E
             unfold eR;rw[hb];simp only;rw[getD_set_ne false (λh=>E h.symm)]
          rw[e'];exact hJ'
         have Ao:left l.toArray (listed.setIfInBounds i true)<=fuel:=by
          have:=kG As inv.size (getD_both A1)
          omega
         cases hd:o.dst with
         | none=>
           rw[hd]at hJ2
           exact ih _ e w' Ao (inv.set hi hiM) hJ2
         | some d0=>
           rw[hd]at hJ2
           rw[ax]
           exact ih _ _ w' Ao (inv.set hi hiM) hJ2
        unfold wpOpIn
        rw[ho]
        dsimp only
        unfold wpListIn at H
        split
        · rename_i hw
          rw[if_pos hw]at H
          exact iu (λa' w' A0=>by
           rcases A0 with A0|⟨c,hc,_⟩
           · exact hnext a' w' A0.2
           · cases hc) (λc a w h=>by
           rcases h with h|⟨c',hc,hq⟩
           · cases h.1
           · cases hc;exact hq) (λa w h=>by
           rcases h with h|⟨c',hc,hq⟩
           · cases h.1
           · cases hc) H
        · rename_i hw
          rw[if_neg hw]at H
          refine⟨H.1,?_⟩
          rcases H.2 with A0|⟨c,hc,_⟩
          · exact hnext _ _ A0.2
          · cases hc
 refine main _ _ e0 w0.drew ?_ ⟨by simp,λj oj E hl=>?_,λt h1 h2=>?_⟩ ((congrArg (λf=>k6 f e0 w0.drew) (funext λj=>getD_replicate_false _ j)).mpr hJ0)
 · unfold left
   exact qa8 (List.length_filter_le _ _) zd
 · rw[getD_replicate_false]at hl;cases hl
 · have h3:t<l.length:=by simpa using h2
   simp[h3]
def xE (Q:Exit->Act->World->Prop)(r:Option Nat)(n:Nat)(P:Program)(N:Nat)(ds:List Deferred)(l:List Oper)(k6:(Nat->Bool)->(Nat->Value)->World->Prop):Nat->List Oper->Prop
 |_,[]=>True
 |i,o::os=>(∀(e:Nat->Value) (w:World) (ls:Nat->Bool),k6 ls e w->(∀j k,cF l j k=true->ls j=true->ls k=true)->ls i=false->(∀k,cF l i k=true->ls k=true)->
  wpListIn (Fw r) n P l.toArray (λx a' w'=>(x=.normal/\∃v,a'=(act N e ds).put o.dst v/\k6 (eR ls i) (kJ e o.dst v) w')\/(∃c,x=.panic c/\Q (.panic c) a' w')) [o] (act N e ds) w)/\xE Q r n P N ds l k6 (i+1) os
theorem tC {l:List Oper}{k6:(Nat->Bool)->(Nat->Value)->World->Prop}:∀(os:List Oper) (i0:Nat),xE Q r n P N ds l k6 i0 os->∀i o,os[i]?=some o->
 (∀(e:Nat->Value) (w:World) (ls:Nat->Bool),k6 ls e w->(∀j k,cF l j k=true->ls j=true->ls k=true)->ls (i0+i)=false->(∀k,cF l (i0+i) k=true->ls k=true)->
  wpListIn (Fw r) n P l.toArray (λx a' w'=>(x=.normal/\∃v,a'=(act N e ds).put o.dst v/\k6 (eR ls (i0+i)) (kJ e o.dst v) w')\/(∃c,x=.panic c/\Q (.panic c) a' w')) [o] (act N e ds) w)
 |[],_,_,i,o,h=>by simp at h
 |o'::os,i0,h,0,o,ho=>by simp at ho;subst ho;exact h.1
 | o'::os,i0,h,i+1,o,ho=>by
   have:=tC os (i0+1) h.2 i o (by simpa using ho)
   rwa [show i0+1+i=i0+(i+1)by omega]at this
def Wi {id:Nat}(hm:P.follows .mixedOrders=true)(M:Nat)(k6:(Nat->Bool)->(Nat->Value)->World->Prop)(hJ0:k6 (λ_=>false) e0 w0.drew)(hwf:M3 l=true)(hshape:iv l M=true)(hstep:xE Q r n P N ds l k6 0 (l.take M))(hfin:∀(e:Nat->Value) (w:World) (ls:Nat->Bool),(∀j,Nat.blt j M=true->ls j=true)->k6 ls e w->wpListIn (Fw r) n P l.toArray Q (l.drop M) (act N e ds) w):
 (Code.region id l.toArray true).wpIn (Fw r) n P Q (act N e0 ds) w0:=by
 have A0:∀j:Nat,l.toArray[j]?=l[j]?:=λj=>by rw[List.getElem?_toArray]
 refine zG hm M k6 hJ0 ?_ ?_ ?_ (λe w ls h1 h2=>hfin e w ls (λj H=>h1 j (by rwa [Nat.blt_eq]at H)) h2)
 · intro i o ho O W hb
   rw[A0]at ho
   have h1:=List.all_eq_true.1 hwf i (List.mem_range.2 (List.getElem?_eq_some_iff.1 ho).1)
   rw[ho]at h1
   have h2:=List.all_eq_true.1 h1 O kc7
   simp only[hb,Bool.not_true,Bool.false_or]at h2
   rwa [Nat.blt_eq]at h2
 · simp only[iv,Bool.or_eq_true,Bool.and_eq_true]at hshape
   rcases hshape with⟨⟨h1,h2⟩,h3⟩|h
   · rw[Nat.blt_eq]at h3;exact .inl ⟨h1,h2,by simpa using h3⟩
   · exact .inr Fm
 · intro i o hi ho e w ls hJ A2 Ab A1
   rw[A0]at ho
   have h1:=tC (l.take M) 0 hstep i o (by rw[List.getElem?_take,if_pos hi];exact ho)
   simp only[Nat.zero_add]at h1
   refine h1 e w ls hJ (λj k E hl=>?_) Ab (λk E=>?_)
   · cases H:l[j]? with
     |none=>unfold cF at E;rw[H]at E;cases E
     | some oj=>
       obtain⟨O,W,hb,rfl⟩:=(oW H).1 E
       exact A2 j oj (by rw[A0];exact H) hl O W hb
   · obtain⟨O,W,hb,rfl⟩:=(oW ho).1 E
     exact A1 O W hb
end draws
section out
variable {K:Act->World->Prop}{Q:Exit->Act->World->Prop}{a:Act}{c:List PanicEntry}
def Ct (h:Q (.panic c) a w):Exit.then K Q (.panic c) a w:=h
def S2 {id:Nat}(h:Q (.panic c) a w):Exit.inBlock id Q (.panic c) a w:=h
def Nw (h:Q (.panic c) a w):Exit.noGoto Q (.panic c) a w:=h
def gD {R:Ending->World->Prop}(hR:R (.panicked c) w):bodyPost P fn R (.panic c) (act N e []) w:=⟨rfl,hR⟩
end out
def iW {c:Code}{args:List Value}{R:Ending->World->Prop}(hf:P.funcs[f]?=some fn)(hb:fn.body=some c)(h:c.wpIn (Fw none) 0 P (bodyPost P fn R) (act (args.length+(fn.ntmps-args.length)) (H7 args) []) w):Calls P f args.toArray w R:=by
 refine oI (n:=0) (callsIn_of_wp hf hb trivial ?_)
 rw[jE]
 exact h
def mz {R:Ending->World->Prop}(hr:(results fn (act N e []).tmps).run P w'=.ok v w')(hR:R (.returned v) w'):bodyPost P fn R .ret (act N e []) w':=
 ⟨rfl,v,hr,hR⟩
section rows
variable {r:Option Nat}{n:Nat}{ds:List Deferred}{Q:Exit->Act->World->Prop}{K:Act->World->Prop}
variable {d ty:Nat}{pos:String}{af:Array Edge}{g:Option (Nat×Bool)}{u:Value}{x y:Operand}{t':TypeId}
def zH {z:Value}(hu:P.underlying t=some (.slice el))(hi:gw P el z size bytes)(hk:∀w',aN w w'->w.heap.size<w'.heap.size->w'.ownsRow w.heap.size el size (.slice (some ⟨w.heap.size,0,none⟩) 0 0) 0 []->K (act N (upd e d (.slice (some ⟨w.heap.size,0,none⟩) 0 0)) ds) w'):
 Oper.wpIn (Fw r) n P ⟨some d,.buildSlice t 0 #[],ty,pos,af,g⟩ (act N e ds) w K Q:=by
 obtain⟨i,H,_,E,_⟩:=hi.parts
 subst E
 refine cW (v:=.slice (some ⟨w.heap.size,0,none⟩) 0 0) (w':=w.alloc (.cells #[] el)) Z ?_ (by
  rw[ax]
  exact hk _ (ae1 _ _) zd ⟨by simp,.inr ⟨w.heap.size,0,#[],rfl,qa0 _,heap_alloc_new w _,qa0 _,by simp[maxLen],by simp,by simp⟩⟩)
 simp[execOp,Instr.buildSlice,run_underlying hu,sizeOf,typeInfo,H,Instr.fill,newRow]
 rw[show(Array.range 0).map (λ_=>(default:Value))=#[]from Array.eq_empty_of_size_eq_zero (by rw[Array.size_map,Array.size_range])]
def ix {o:Oper}{ops:Array Oper}{a:Act}(h:List.drop M l=o::rest)(hh:wpListIn (Fw r) n P ops Q (o::rest) a w):wpListIn (Fw r) n P ops Q (List.drop M l) a w:=by rw[h];exact hh
end rows
section draws
variable {r:Option Nat}{n:Nat}{e0:Nat->Value}{ds:List Deferred}{w0:World}{Q:Exit->Act->World->Prop}
def xF (r:Option Nat)(n:Nat)(P:Program)(N:Nat)(ds:List Deferred)(l:List Oper)(M:Nat)(R:World->World->Prop)(Φ:List (Value->World->Prop))(e0:Nat->Value)(w0:World)(Q:Exit->Act->World->Prop):List Oper->List (Value->World->Prop)->Prop
 |[],_=>True
 |_::_,[]=>False
 | o ::os,φ::φs=>(∀(e:Nat->Value) (w:World),R w0 w->(∀t,lT l M t=false->e t=e0 t)->(∀j d,ci o j=true->da l j=some d->phi Φ j (e d) w)->
  wpListIn (Fw r) n P l.toArray (λx a' w'=>(x=.normal/\∃v,a'=(act N e ds).put o.dst v/\R w w'/\φ v w')\/(∃c,x=.panic c/\Q (.panic c) a' w')) [o] (act N e ds) w)/\xF r n P N ds l M R Φ e0 w0 Q os φs
theorem rx {l:List Oper}{M:Nat}{R:World->World->Prop}{Φ:List (Value->World->Prop)}:∀(os:List Oper) (φs:List (Value->World->Prop)),xF r n P N ds l M R Φ e0 w0 Q os φs->∀i o,os[i]?=some o->
 (∀(e:Nat->Value) (w:World),R w0 w->(∀t,lT l M t=false->e t=e0 t)->(∀j d,ci o j=true->da l j=some d->phi Φ j (e d) w)->
  wpListIn (Fw r) n P l.toArray (λx a' w'=>(x=.normal/\∃v,a'=(act N e ds).put o.dst v/\R w w'/\phi φs i v w')\/(∃c,x=.panic c/\Q (.panic c) a' w')) [o] (act N e ds) w)
 |[],_,_,i,o,h=>by simp at h
 |o'::os,[],h,i,o,ho=>h.elim
 |o'::os,φ::φs,h,0,o,ho=>by simp at ho;subst ho;exact h.1
 | o'::os,φ::φs,h,i+1,o,ho=>by
   have:=rx os φs h.2 i o (by simpa using ho)
   simpa only[phi,List.getElem?_cons_succ]using this
def Cu {o:Oper}{a:Act}{A B:Exit->Act->World->Prop}(h:wpListIn (Fw r) n P l.toArray A [o] a w)(hk:∀x a w,A x a w->B x a w):wpListIn (Fw r) n P l.toArray B [o] a w:=by
 unfold wpListIn at h ⊢
 split
 · rename_i hw
   rw[if_pos hw]at h
   exact iu (λa w h=>hk _ _ _ h) (λc a w h=>hk _ _ _ h) (λa w h=>hk _ _ _ h) h
 · rename_i hw
   rw[if_neg hw]at h
   exact⟨h.1,hk _ _ _ h.2⟩
def IU {id:Nat}(hm:P.follows .mixedOrders=true)(M:Nat)(R:World->World->Prop)(hR0:∀w,R w w.drew)(hRt:∀a b c,R a b->R b c->R a c)(Φ:List (Value->World->Prop))(hΦ:xj R Φ)(hwf:M3 l=true)(hshape:iv l M=true)(hdst:H9 l M=true)(hstep:xF r n P N ds l M R Φ e0 w0 Q (l.take M) Φ)(hfin:∀(e:Nat->Value) (w:World),R w0 w->(∀t,lT l M t=false->e t=e0 t)->(∀j d,Nat.blt j M=true->da l j=some d->phi Φ j (e d) w)->wpListIn (Fw r) n P l.toArray Q (l.drop M) (act N e ds) w):
 (Code.region id l.toArray true).wpIn (Fw r) n P Q (act N e0 ds) w0:=by
 have A0:∀j:Nat,l.toArray[j]?=l[j]?:=λj=>by rw[List.getElem?_toArray]
 have Ab:∀i o d,i<M->l[i]?=some o->o.dst=some d->lT l M d=true:=by
  intro i o d hi ho hd
  refine List.any_eq_true.2 ⟨o,List.mem_iff_getElem?.2 ⟨i,by rw[List.getElem?_take,if_pos hi];exact ho⟩,?_⟩
  rw[hd];exact Nat.beq_refl d
 refine zG hm M (λls e w=>R w0 w/\(∀t,lT l M t=false->e t=e0 t)/\(∀j d,j<M->ls j=true->da l j=some d->phi Φ j (e d) w)) ⟨hR0 w0,λ_ _=>rfl,λj d _ h=>by cases h⟩ ?_ ?_ ?_ ?_
 · intro i o ho O W hb
   rw[A0]at ho
   have h1:=List.all_eq_true.1 hwf i (List.mem_range.2 (List.getElem?_eq_some_iff.1 ho).1)
   rw[ho]at h1
   have h2:=List.all_eq_true.1 h1 O kc7
   simp only[hb,Bool.not_true,Bool.false_or]at h2
   rwa [Nat.blt_eq]at h2
 · simp only[iv,Bool.or_eq_true,Bool.and_eq_true]at hshape
   rcases hshape with⟨⟨h1,h2⟩,h3⟩|h
   · rw[Nat.blt_eq]at h3;exact .inl ⟨h1,h2,by simpa using h3⟩
   · exact .inr Fm
 · rintro i o hi ho e w ls ⟨hR,hs,hφ⟩ As Av Aq
   have H:l[i]?=some o:=by rw[<-A0];exact ho
   have h1:=rx (l.take M) Φ hstep i o (by rw[List.getElem?_take,if_pos hi];exact H) e w hR hs (λj d Af hd=>by
    obtain⟨O,W,hb⟩:=List.any_eq_true.1 Af
    simp only[Bool.and_eq_true]at hb
    have E:=qb4 hb.2
    have hlt:O.on<i:=by
     have h1:=List.all_eq_true.1 hwf i (List.mem_range.2 (List.getElem?_eq_some_iff.1 H).1)
     rw[H]at h1
     have h2:=List.all_eq_true.1 h1 O kc7
     simp only[hb.1,Bool.not_true,Bool.false_or]at h2
     rwa [Nat.blt_eq]at h2
    exact hφ j d J (by rw[<-E];exact Aq O kc7 hb.1) hd)
   refine Cu h1 ?_
   rintro x a' w' (⟨hx,v,A1,hR',hv⟩|⟨c,hx,hq⟩)
   · refine .inl ⟨hx,v,A1,hRt _ _ _ hR hR',λt ht=>?_,λj d E hl hd=>?_⟩
     · cases hd:o.dst with
       |none=>exact hs t ht
       | some d=>
         have:t≠d:=λe=>by subst e;rw[Ab i o t hi H hd]at ht;cases ht
         show upd e d v t=e0 t
         rw[upd_ne _ _ this];exact hs t ht
     · by_cases hij:j=i
       · subst hij
         have Am:o.dst=some d:=by unfold da at hd;rw[H]at hd;exact hd
         rw[Am];show phi Φ j (upd e d v d) w';rw[kt];exact hv
       · have Ar:ls j=true:=by
          have hb:Nat.beq j i=false:=by
           cases hb:Nat.beq j i with
           |false=>rfl
           |true=>exact absurd (qb4 hb) hij
          unfold eR at hl;rw[hb]at hl;exact hl
         have hold:=nL hΦ j (e d) w w' hR' (hφ j d E Ar hd)
         cases hdo:o.dst with
         |none=>exact hold
         | some d0=>
           have Ao:d≠d0:=λe=>by
            subst e
            have h1:=List.all_eq_true.1 (List.all_eq_true.1 hdst i (List.mem_range.2 hi)) j (List.mem_range.2 E)
            have Ap:da l i=some d:=by unfold da;rw[H];exact hdo
            simp only[Ap,hd,Bool.or_eq_true]at h1
            rcases h1 with h1|h1
            · exact hij (qb4 h1).symm
            · simp at h1
           show phi Φ j (upd e d0 v d) w'
           rw[upd_ne _ _ Ao];exact hold
   · exact .inr ⟨c,hx,hq⟩
 · rintro e w ls A2 ⟨hR,hs,hφ⟩
   exact hfin e w hR hs (λj d E hd=>hφ j d (by rwa [Nat.blt_eq]at E) (A2 j (by rwa [Nat.blt_eq]at E)) hd)
end draws
def Hv (a v:Value):Prop:=a=v
def Hv.of (h:a=v):Hv a v:=h
def Hv.str {l:List UInt8}:Hv (S l) (S l):=rfl
def Hv.ofk (h:a=v)(_:Hv v v):Hv a v:=h
def Hv.int {k:IntKind}{i:Int}:Hv (.int k i) (.int k i):=rfl
def Hv.slice {m c:Nat}:Hv (.slice A m c) (.slice A m c):=rfl
def Hv.agg {l:Array Value}:Hv (.agg l) (.agg l):=rfl
def Hv.pointer {b:Option Addr}:Hv (.pointer b) (.pointer b):=rfl
def Hv.bool {b:Bool}:Hv (.bool b) (.bool b):=rfl
def Hv.tuple {l:Array Value}:Hv (.tuple l) (.tuple l):=rfl
def Hv.iface :Hv (.iface t v) (.iface t v):=rfl
def Hv.func {f:Fn}{x y:Array Value}:Hv (.func f x y) (.func f x y):=rfl
def Hv.nilIface:Hv .nilIface .nilIface:=rfl
def Gq (h:Hv a v:=by
 first
  |exact Hv.of (Z:_=S _)
  | (conv=>arg 1;whnf
     first
      | with_reducible first
        |exact Hv.int
        |exact Hv.slice
        |exact Hv.agg
        |exact Hv.pointer
        |exact Hv.bool
        |exact Hv.tuple
        |exact Hv.iface
        |exact Hv.func
        |exact Hv.nilIface
      |exact Hv.ofk (by with_reducible assumption) (by
       with_reducible first
       |exact Hv.int
       |exact Hv.slice
       |exact Hv.str
       |exact Hv.agg
       |exact Hv.pointer
       |exact Hv.bool
       |exact Hv.tuple
       |exact Hv.iface
       |exact Hv.func
       |exact Hv.nilIface))):a=v:=h
def gU (h:Hv a v:=by
 first
 |exact Hv.of Wf
 | (conv=>arg 1;whnf
    exact Hv.of (by with_reducible assumption))):a=v:=h
section
variable {r:Option Nat}{n:Nat}{ds:List Deferred}{Q:Exit->Act->World->Prop}{K:Act->World->Prop}{a:Act}
variable {ops:Array Oper}{dst:Option Tmp}{op:Op}{d ty:Nat}{pos:String}{af:Array Edge}{id:Nat}{c c1 c2:Code}{x y:Operand}
def Cv (hk:wpListIn (Fw r) n P ops Q rest (act N (upd e d v) ds) w)(hx:ev N e x=v:=by exact Gq):wpListIn (Fw r) n P ops Q (⟨some d,.move x,ty,pos,af,none⟩::rest) (act N e ds) w:=aa (aY hx hk)
def tE (hk:wpListIn (Fw r) n P ops Q rest (act N (upd e d v) ds) w)(hx:ev N e x=v:=by exact Gq):wpListIn (Fw r) n P ops Q (⟨some d,.assign x,ty,pos,af,none⟩::rest) (act N e ds) w:=aa (aJ hx hk)
def Cw (hk:wpListIn (Fw r) n P ops Q rest (act N (upd e d v) ds) w)(hx:ev N e x=.tuple #[v,b]:=by exact gU):wpListIn (Fw r) n P ops Q (⟨some d,.extract x 0,ty,pos,af,none⟩::rest) (act N e ds) w:=aa (cX hx Z hk)
def Cx (hk:wpListIn (Fw r) n P ops Q rest (act N (upd e d v) ds) w)(hx:ev N e x=.tuple #[b,v]:=by exact gU):wpListIn (Fw r) n P ops Q (⟨some d,.extract x 1,ty,pos,af,none⟩::rest) (act N e ds) w:=aa (cX hx Z hk)
def Cy {c:Value}(hk:wpListIn (Fw r) n P ops Q rest (act N (upd e d v) ds) w)(hx:ev N e x=.tuple #[v,b,c]:=by exact gU):wpListIn (Fw r) n P ops Q (⟨some d,.extract x 0,ty,pos,af,none⟩::rest) (act N e ds) w:=aa (cX hx Z hk)
def Cz {c:Value}(hk:wpListIn (Fw r) n P ops Q rest (act N (upd e d v) ds) w)(hx:ev N e x=.tuple #[b,v,c]:=by exact gU):wpListIn (Fw r) n P ops Q (⟨some d,.extract x 1,ty,pos,af,none⟩::rest) (act N e ds) w:=aa (cX hx Z hk)
def CC {c:Value}(hk:wpListIn (Fw r) n P ops Q rest (act N (upd e d v) ds) w)(hx:ev N e x=.tuple #[b,c,v]:=by exact gU):wpListIn (Fw r) n P ops Q (⟨some d,.extract x 2,ty,pos,af,none⟩::rest) (act N e ds) w:=aa (cX hx Z hk)
def CE {c:Value}(hk:wpListIn (Fw r) n P ops Q rest (act N (upd e d v) ds) w)(hx:ev N e x=.tuple #[v,b,c,g]:=by exact gU):wpListIn (Fw r) n P ops Q (⟨some d,.extract x 0,ty,pos,af,none⟩::rest) (act N e ds) w:=aa (cX hx Z hk)
def CF {c:Value}(hk:wpListIn (Fw r) n P ops Q rest (act N (upd e d v) ds) w)(hx:ev N e x=.tuple #[b,v,c,g]:=by exact gU):wpListIn (Fw r) n P ops Q (⟨some d,.extract x 1,ty,pos,af,none⟩::rest) (act N e ds) w:=aa (cX hx Z hk)
def CH {c:Value}(hk:wpListIn (Fw r) n P ops Q rest (act N (upd e d v) ds) w)(hx:ev N e x=.tuple #[b,c,v,g]:=by exact gU):wpListIn (Fw r) n P ops Q (⟨some d,.extract x 2,ty,pos,af,none⟩::rest) (act N e ds) w:=aa (cX hx Z hk)
def CI {c:Value}(hk:wpListIn (Fw r) n P ops Q rest (act N (upd e d v) ds) w)(hx:ev N e x=.tuple #[b,c,g,v]:=by exact gU):wpListIn (Fw r) n P ops Q (⟨some d,.extract x 3,ty,pos,af,none⟩::rest) (act N e ds) w:=aa (cX hx Z hk)
def S3 (P:Program)(t:TypeId):Bool:=match P.underlying t with|some (.slice _)=>true|_=>false
def Gs (h:S3 P t=true):∃D,P.underlying t=some (.slice D):=by
 unfold S3 at h;split at h
 · rename_i D hh;exact⟨D,hh⟩
 · cases h
def q_len {m c:Nat}(hk:wpListIn (Fw r) n P ops Q rest (act N (upd e d (.int .i64 m)) ds) w)(hx:ev N e x=.slice A m c:=by exact gU)(hu:S3 P t=true:=by decide +kernel):
 wpListIn (Fw r) n P ops Q (⟨some d,.call {callee:=.builtin .len,args:=#[x],argTypes:=#[t]},ty,pos,af,none⟩::rest) (act N e ds) w:=by obtain⟨D,h⟩:=Gs hu;exact aa (HZ h hx hk)
def IW {b o:Nat}(hk:wpListIn (Fw r) n P ops Q rest (act N (upd e d (.pointer (some ⟨b,o,none⟩))) ds) w)(hx:ev N e x=.pointer (some ⟨b,o,none⟩):=by exact gU):wpListIn (Fw r) n P ops Q (⟨some d,.nilCheck x,ty,pos,af,none⟩::rest) (act N e ds) w:=aa (tu hx hk)
def nth:List Value->Nat->Option Value
 |[],_=>none
 |a::_,0=>some a
 |_::l,i+1=>nth l i
def IX:∀(l:List Value) (i:Nat),nth l i=l[i]?
 |[],_=>rfl
 |_::_,0=>rfl
 |_::l,i+1=>by simpa[nth]using IX l i
def xG:List Value->Nat->Option (Value×Value)
 |a::b::_,0=>some (a,b)
 |_::l,i+1=>xG l i
 |_,_=>none
def Em:∀(l:List Value) (i:Nat) (u v:Value),xG l i=some (u,v)->l[i]?=some u/\l[i+1]?=some v
 |[],0,u,v,h=>by simp[xG]at h
 |[],_+1,u,v,h=>by simp[xG]at h
 |[_],0,u,v,h=>by simp[xG]at h
 |a::b::_,0,u,v,h=>by simp only[xG,Option.some.injEq,Prod.mk.injEq]at h;obtain⟨rfl,rfl⟩:=h;exact⟨rfl,rfl⟩
 |_::l,i+1,u,v,h=>by have:=Em l i u v (by simpa[xG]using h);simpa using this
def lv (P:Program)(t:TypeId):Option Bool:=(P.underlying t).map (·.isRow)
def iX {b:Bool}(h:lv P t=some b):∃D,P.underlying t=some D/\D.isRow=b:=by
 unfold lv at h;cases hh:P.underlying t with
 |none=>simp[hh]at h
 |some D=>exact⟨D,rfl,by simpa[hh]using h⟩
def IY {b o:Nat}(hk:wpListIn (Fw r) n P ops Q rest (act N (upd e d v) ds) w)(hx:ev N e x=.pointer (some ⟨b,o,none⟩):=by exact gU)(hb:ar w b tb cs.toArray:=by with_reducible assumption)(hv:nth cs o=some v:=by exact Z)(hu:lv P t=some false:=by decide +kernel):
 wpListIn (Fw r) n P ops Q (⟨some d,.load t x,ty,pos,af,none⟩::rest) (act N e ds) w:=by
 obtain⟨D,h1,h2⟩:=iX hu
 exact aa (bn h1 h2 hx (hb.cell (by rw[<-hv,IX];simp)) hk)
def En {b o:Nat}(hk:wpListIn (Fw r) n P ops Q rest (act N (upd e d (.agg #[v1,v2])) ds) w)(hx:ev N e x=.pointer (some ⟨b,o,none⟩):=by exact gU)(hb:ar w b tb cs.toArray:=by with_reducible assumption)(hv:xG cs o=some (v1,v2):=by exact Z)(hu:lv P t=some true:=by decide +kernel)(hi:(P.info? t).map (·.size)=some 2:=by decide +kernel):
 wpListIn (Fw r) n P ops Q (⟨some d,.load t x,ty,pos,af,none⟩::rest) (act N e ds) w:=by
 obtain⟨D,h1,h2⟩:=iX hu
 obtain⟨h3,h4⟩:=Em _ _ _ _ hv
 exact aa (aM (cs:=[v1,v2]) h1 h2 hi hx (λj u E=>by
  match j,E with
  |0,E=>simp at E;subst E;exact hb.cell (by simpa using h3)
  |1,E=>simp at E;subst E;exact hb.cell (by simpa using h4)
  |j+2,E=>simp at E) hk)
def Y1 {b:Bool}(h:b=false):(!b)=true:=by rw[h];rfl
def Y2 {b:Bool}(h:b=true):(!b)=false:=by rw[h];rfl
def Gu {i:Decidable p}(h:p): @decide p i=true:=by simpa using h
def Gv {i:Decidable p}(h:¬p): @decide p i=false:=by simpa using h
def zb (h:X=q:=by
 first
 | with_reducible first
   |exact Z
   |assumption
   |exact Gu BT
   |exact Gv BT
   |exact Y1 (by first|exact rfl|assumption|exact Gv BT)
   |exact Y2 (by first|exact rfl|assumption|exact Gu BT)
 |decide +kernel):X=q:=h
def Y3 (h:c1.wpIn (Fw r) n P Q (act N e ds) w)(hx:ev N e x=.bool q:=by exact gU)(hq:q=true:=by exact zb):(Code.cond x c1 c2).wpIn (Fw r) n P Q (act N e ds) w:=mh (by rw[hx,hq]) h
def Y4 (h:c2.wpIn (Fw r) n P Q (act N e ds) w)(hx:ev N e x=.bool q:=by exact gU)(hq:q=false:=by exact zb):(Code.cond x c1 c2).wpIn (Fw r) n P Q (act N e ds) w:=qp (by rw[hx,hq]) h
def S4 {b:Bool}(hk:wpListIn (Fw r) n P l.toArray Q (⟨dst,op,ty,pos,af,none⟩::rest) (act N e ds) w)(hj:da l j=some s:=by exact Z)(hv:ev N e (.tmp s)=.bool b:=by exact gU)(hb:b=q:=by exact zb):wpListIn (Fw r) n P l.toArray Q (⟨dst,op,ty,pos,af,some (j,q)⟩::rest) (act N e ds) w:=mg hj (by rw[hv,hb]) hk
def Wj {b:Bool}(hk:wpListIn (Fw r) n P l.toArray Q rest (act N (upd e d undef) ds) w)(hj:da l j=some s:=by exact Z)(hv:ev N e (.tmp s)=.bool b:=by exact gU)(hb:b= !q:=by first|with_reducible assumption|(show _=true;exact zb)|(show _=false;exact zb)):wpListIn (Fw r) n P l.toArray Q (⟨some d,op,ty,pos,af,some (j,q)⟩::rest) (act N e ds) w:=fF hj (by rw[hv,hb]) hk
def Eo {c a b:Operand}{t:Bool}(hk:wpListIn (Fw r) n P ops Q rest (act N (upd e d v) ds) w)(hc:ev N e c=.bool t:=by exact gU)(ht:t=true:=by exact zb)(hv:ev N e a=v:=by exact Gq):
 wpListIn (Fw r) n P ops Q (⟨some d,.pick c a b,ty,pos,af,none⟩::rest) (act N e ds) w:=aa (jH (t:=true) (by rw[hc,ht]) (by simpa using hv) hk)
def Ep {c a b:Operand}{t:Bool}(hk:wpListIn (Fw r) n P ops Q rest (act N (upd e d v) ds) w)(hc:ev N e c=.bool t:=by exact gU)(ht:t=false:=by exact zb)(hv:ev N e b=v:=by exact Gq):
 wpListIn (Fw r) n P ops Q (⟨some d,.pick c a b,ty,pos,af,none⟩::rest) (act N e ds) w:=aa (jH (t:=false) (by rw[hc,ht]) (by simpa using hv) hk)
def xH {b o:Nat}(hk:wpListIn (Fw r) n P ops Q rest (act N (upd e d v) ds) w)(hx:ev N e x=.pointer (some ⟨b,o,none⟩):=by exact gU)(hc:A=some ⟨b,o',none⟩/\w.cell? ⟨b,o,none⟩=some v:=by with_reducible assumption)(hu:lv P t=some false:=by decide +kernel):wpListIn (Fw r) n P ops Q (⟨some d,.load t x,ty,pos,af,none⟩::rest) (act N e ds) w:=by
 obtain⟨D,h1,h2⟩:=iX hu
 exact aa (bn h1 h2 hx hc.2 hk)
def tF {b o:Nat}(hk:wpListIn (Fw r) n P ops Q rest (act N (upd e d (.agg #[v1,v2])) ds) w)(hx:ev N e x=.pointer (some ⟨b,o,none⟩):=by exact gU)(hc:A=some ⟨b,o',none⟩/\∀j u,[v1,v2][j]?=some u->w.cell? ⟨b,o+j,none⟩=some u:=by with_reducible assumption)(hu:lv P t=some true:=by decide +kernel)(hi:(P.info? t).map (·.size)=some 2:=by decide +kernel):
 wpListIn (Fw r) n P ops Q (⟨some d,.load t x,ty,pos,af,none⟩::rest) (act N e ds) w:=by
 obtain⟨D,h1,h2⟩:=iX hu
 exact aa (aM (cs:=[v1,v2]) h1 h2 hi hx hc.2 hk)
def Nx (P:Program)(t:TypeId)(s:Nat):Bool:=match P.underlying t with|some (.slice el)=>(P.info? el).map (·.size)==some s|_=>false
def wl (h:Nx P t s=true):∃el,P.underlying t=some (.slice el)/\(P.info? el).map (·.size)=some s:=by
 unfold Nx at h;split at h
 · rename_i D hh;exact⟨D,hh,by simpa using h⟩
 · cases h
def eI {o m c:Nat}{k:IntKind}{u:Value}(h:A=some ⟨bk,o,none⟩/\w.cell? ⟨bk,o+i,none⟩=some u)(hk:wpListIn (Fw r) n P ops Q rest (act N (upd e d (.pointer (some ⟨bk,o+i,none⟩))) ds) w)(hx:ev N e x=.slice A m c:=by exact gU)(hy:ev N e y=.int k (i:Int):=by exact gU)(hlt:i<m:=by omega)(hu:Nx P t 1=true:=by decide +kernel):wpListIn (Fw r) n P ops Q (⟨some d,.indexAddr t x y,ty,pos,af,none⟩::rest) (act N e ds) w:=by
 obtain⟨_,h1,h2⟩:=wl hu
 exact aa (aA h1 h2 hx h.1 hy hlt GS hk)
def jv {o m c:Nat}{k:IntKind}{l:List Value}(h:A=some ⟨bk,o,none⟩/\∀j u,l[j]?=some u->w.cell? ⟨bk,o+i*2+j,none⟩=some u)(hk:wpListIn (Fw r) n P ops Q rest (act N (upd e d (.pointer (some ⟨bk,o+i*2,none⟩))) ds) w)(hx:ev N e x=.slice A m c:=by exact gU)(hy:ev N e y=.int k (i:Int):=by exact gU)(hlt:i<m:=by omega)(hu:Nx P t 2=true:=by decide +kernel):wpListIn (Fw r) n P ops Q (⟨some d,.indexAddr t x y,ty,pos,af,none⟩::rest) (act N e ds) w:=by
 obtain⟨_,h1,h2⟩:=wl hu
 exact aa (aA h1 h2 hx h.1 hy hlt Z hk)
variable {k:IntKind}{i j:Int}{b b':Bool}
def lss (hk:wpListIn (Fw r) n P ops Q rest (act N (upd e d (.bool (decide (i<j)))) ds) w)(hx:ev N e x=.int k i:=by exact gU)(hy:ev N e y=.int k j:=by exact gU):wpListIn (Fw r) n P ops Q (⟨some d,.binOp .lss t x y u,ty,pos,af,none⟩::rest) (act N e ds) w:=aa (Vp hx hy Z hk)
def leq (hk:wpListIn (Fw r) n P ops Q rest (act N (upd e d (.bool (decide (i<=j)))) ds) w)(hx:ev N e x=.int k i:=by exact gU)(hy:ev N e y=.int k j:=by exact gU):wpListIn (Fw r) n P ops Q (⟨some d,.binOp .leq t x y u,ty,pos,af,none⟩::rest) (act N e ds) w:=aa (Vq hx hy Z hk)
def gtr (hk:wpListIn (Fw r) n P ops Q rest (act N (upd e d (.bool (decide (j<i)))) ds) w)(hx:ev N e x=.int k i:=by exact gU)(hy:ev N e y=.int k j:=by exact gU):wpListIn (Fw r) n P ops Q (⟨some d,.binOp .gtr t x y u,ty,pos,af,none⟩::rest) (act N e ds) w:=aa (Vr hx hy Z hk)
def geq (hk:wpListIn (Fw r) n P ops Q rest (act N (upd e d (.bool (decide (j<=i)))) ds) w)(hx:ev N e x=.int k i:=by exact gU)(hy:ev N e y=.int k j:=by exact gU):wpListIn (Fw r) n P ops Q (⟨some d,.binOp .geq t x y u,ty,pos,af,none⟩::rest) (act N e ds) w:=aa (Vs hx hy Z hk)
def eql (hk:wpListIn (Fw r) n P ops Q rest (act N (upd e d (.bool (decide (i=j)))) ds) w)(hx:ev N e x=.int k i:=by exact gU)(hy:ev N e y=.int k j:=by exact gU):wpListIn (Fw r) n P ops Q (⟨some d,.binOp .eql t x y u,ty,pos,af,none⟩::rest) (act N e ds) w:=aa (Vt hx hy Z hk)
def neq (hk:wpListIn (Fw r) n P ops Q rest (act N (upd e d (.bool (!decide (i=j)))) ds) w)(hx:ev N e x=.int k i:=by exact gU)(hy:ev N e y=.int k j:=by exact gU):wpListIn (Fw r) n P ops Q (⟨some d,.binOp .neq t x y u,ty,pos,af,none⟩::rest) (act N e ds) w:=aa (Vu hx hy Z hk)
def nt (hk:wpListIn (Fw r) n P ops Q rest (act N (upd e d (.bool (!b))) ds) w)(hx:ev N e x=.bool b:=by exact gU):wpListIn (Fw r) n P ops Q (⟨some d,.unOp .not t x,ty,pos,af,none⟩::rest) (act N e ds) w:=aa (Vv hx Z hk)
def rU {a b:List UInt8}(hk:wpListIn (Fw r) n P ops Q rest (act N (upd e d (.bool (decide (a=b)))) ds) w)(hx:ev N e x=S a:=by exact gU)(hy:ev N e y=S b:=by exact gU):wpListIn (Fw r) n P ops Q (⟨some d,.binOp .eql t x y u,ty,pos,af,none⟩::rest) (act N e ds) w:=aa (RJ hx hy Z hk)
def ZY {a b:List UInt8}(hk:wpListIn (Fw r) n P ops Q rest (act N (upd e d (.bool (!decide (a=b)))) ds) w)(hx:ev N e x=S a:=by exact gU)(hy:ev N e y=S b:=by exact gU):wpListIn (Fw r) n P ops Q (⟨some d,.binOp .neq t x y u,ty,pos,af,none⟩::rest) (act N e ds) w:=aa (s9 hx hy Z hk)
def gR (hk:wpListIn (Fw r) n P ops Q rest (act N (upd e d (.int .i64 (i+j))) ds) w)(hx:ev N e x=.int .i64 i:=by exact gU)(hy:ev N e y=.int .i64 j:=by exact gU)(hr:In64 (i+j):=by unfold In64;omega):wpListIn (Fw r) n P ops Q (⟨some d,.binOp .add t x y u,ty,pos,af,none⟩::rest) (act N e ds) w:=aa (cG hx hy hr Z hk)
def qF (hk:wpListIn (Fw r) n P ops Q rest (act N (upd e d (.int .i64 (i-j))) ds) w)(hx:ev N e x=.int .i64 i:=by exact gU)(hy:ev N e y=.int .i64 j:=by exact gU)(hr:In64 (i-j):=by unfold In64;omega):wpListIn (Fw r) n P ops Q (⟨some d,.binOp .sub t x y u,ty,pos,af,none⟩::rest) (act N e ds) w:=aa (jq hx hy hr Z hk)
def cl {R:Value->World->Prop}(hf:Enters P f)(hc:Calls P f vs.toArray w (aH w R))(hk:∀v w',aN w w'->R v w'->wpListIn (Fw r) n P ops Q rest (act N (upd e d v) ds) w')(hv:xs.toList.map (ev N e)=vs:=by exact Z):
 wpListIn (Fw r) n P ops Q (⟨some d,.call ⟨.value (.func f),xs,ats⟩,ty,pos,af,none⟩::rest) (act N e ds) w:=aa (qq hf hv hc hk)
def clb {R:Value->World->Prop}(hf:Enters P f)(hv:xs.toList.map (ev N e)=vs:=by exact Z)(hc:Calls P f vs.toArray w (aH w R))(hk:∀v w',aN w w'->R v w'->wpListIn (Fw r) n P ops Q rest (act N (upd e d v) ds) w'):
 wpListIn (Fw r) n P ops Q (⟨some d,.call ⟨.value (.func f),xs,ats⟩,ty,pos,af,none⟩::rest) (act N e ds) w:=aa (qq hf hv hc hk)
def tG {o:Option Nat}{R:World->World->Prop}(h1:R w w')(ho:o=some d:=by exact Z):Exit.normal=Exit.normal/\∃u,act N (upd e d v) ds=(act N e ds).put o u/\R w w'/\u=v:=by subst ho;exact⟨rfl,_,(ax _ _ _ _ _).symm,h1,rfl⟩
def ov (f:Nat->Bool)(e e0:Nat->Value):Nat->Value:=λt=>match f t with|true=>e t|false=>e0 t
def bh {f:Nat->Bool}{e0:Nat->Value}{t:Nat}(h:ov f e e0 t=v)(hf:f t=true:=by exact Z):e t=v:=by unfold ov at h;rw[hf]at h;exact h
def aU {f:Nat->Bool}{e0:Nat->Value}(h:∀t,f t=false->e t=e0 t):∃e',e=ov f e' e0:=⟨e,funext λt=>by unfold ov;split <;>rename_i hh;rfl;exact h t hh⟩
end
structure Hd (p:Prop):Prop where
 out:p
def I (h:G')(k:Hd G'->G:=by
 intro h
 repeat first
  | with_reducible first
    |refine fm ?_
    |refine gm ?_
    |refine iR ?_
    |refine ii ?_
    |refine oO ?_
    |refine jJ ?_
    |refine BN ?_
    |refine H5 ?_
    |refine H6 ?_
    |refine Nu ?_
    |refine BO ?_
    |refine RN ?_
    |refine BP ?_
    |refine RQ ?_
    |refine Nt ?_
    |refine Ct ?_
    |refine S2 ?_
    |refine Nw ?_
    |refine Co ?_
    |refine wpIn_label ?_
  |refine Cv ?_
  |refine tE ?_
  |refine S4 ?_
  |refine Wj ?_
  |refine Eo ?_
  |refine Ep ?_
  |refine IY ?_
  |refine En ?_
  |refine xH ?_
  |refine tF ?_
  |refine q_len ?_
  |refine Cw ?_
  |refine Cx ?_
  |refine Cy ?_
  |refine Cz ?_
  |refine CC ?_
  |refine CE ?_
  |refine CF ?_
  |refine CH ?_
  |refine CI ?_
  |refine IW ?_
  |refine gm ?_
  |refine RP Z ?_
  |refine Y3 ?_
  |refine Y4 ?_
 exact h.out):G:=k ⟨h⟩
inductive Ph where
 |pv (v:Value)
 |ph (p:Value->World->Prop)
def Ph.ok:Ph->Value->World->Prop
 | .pv v,x,_=>x=v
 | .ph p,x,w=>p x w
def Ph.val:Ph->Value->Value
 | .pv v,_=>v
 | .ph _,x=>x
def Wk:List Ph->Nat->Value->Value
 |[],_,x=>x
 |φ::_,0,x=>φ.val x
 |_::φs,j+1,x=>Wk φs j x
def tH:List Ph->Nat->Value->World->Prop
 |[],_,_,_=>True
 |φ::_,0,x,w=>φ.ok x w
 |_::φs,j+1,x,w=>tH φs j x w
def IZ:List Oper->Nat->Nat->Option Nat
 |[],_,_=>none
 | o ::os,t,j=>match o.dst with
   | some d=>match Nat.beq d t with
     |true=>some j
     |false=>IZ os t (j+1)
   |none=>IZ os t (j+1)
def fr (l:List Oper)(M:Nat)(Φ:List Ph)(sel:Nat->Bool)(e e0:Nat->Value):Nat->Value:=λt=>
 match IZ (l.take M) t 0 with
 |none=>e0 t
 | some j=>match sel j with
   |true=>Wk Φ j (e t)
   |false=>e t
def zI (R:World->World->Prop)(φ:Ph):Prop:=∀v w w',R w w'->φ.ok v w->φ.ok v w'
def I0 :∀(Φ:List Ph) (j:Nat) (x:Value),tH Φ j x w->Wk Φ j x=x
 |[],_,_,_=>rfl
 | .pv v::_,0,_,h=>Eq.symm h
 | .ph _::_,0,_,_=>rfl
 |_::Φ,j+1,x,h=>I0 Φ j x h
def tI:∀(os:List Oper) (t j k:Nat),IZ os t j=some k->∃i,k=j+i/\(os[i]?).bind (·.dst)=some t
 |[],_,_,_,h=>by simp[IZ]at h
 | o ::os,t,j,k,h=>by
   unfold IZ at h
   split at h
   · rename_i d hd
     split at h
     · rename_i hb
       cases h
       exact⟨0,rfl,by simp[hd,Nat.eq_of_beq_eq_true hb]⟩
     · obtain⟨i,h1,h2⟩:=tI os t (j+1) k h
       exact⟨i+1,by omega,by simpa using h2⟩
   · obtain⟨i,h1,h2⟩:=tI os t (j+1) k h
     exact⟨i+1,by omega,by simpa using h2⟩
def tJ:∀(os:List Oper) (t j:Nat),IZ os t j=none->(os.any λo=>match o.dst with|some d=>Nat.beq d t|none=>false)=false
 |[],_,_,_=>rfl
 | o ::os,t,j,h=>by
   unfold IZ at h
   rw[List.any_cons]
   split at h
   · rename_i d hd
     split at h
     · cases h
     · rename_i hb
       rw[tJ os t (j+1) h,hb];rfl
   · rename_i hd
     rw[tJ os t (j+1) h];rfl
def QK {Φ:List Ph}{sel:Nat->Bool}{e0:Nat->Value}(hs:∀t,lT l M t=false->e t=e0 t)(hp:∀j d,Nat.blt j M=true->sel j=true->da l j=some d->tH Φ j (e d) w):e=fr l M Φ sel e e0:=by
 funext t
 unfold fr
 split
 · rename_i h
   exact hs t (tJ _ _ _ h)
 · rename_i j h
   obtain⟨i,_,hd⟩:=tI _ _ _ _ h
   have H:j=i:=J
   subst H
   split
   · rename_i hq
     have E:j<M:=by
      rcases Nat.lt_or_ge j M with h1|h1
      · exact h1
      · rw[List.getElem?_eq_none q4]at hd;cases hd
     rw[List.getElem?_take,if_pos E]at hd
     exact(I0 Φ j _ (hp j t (by rwa [Nat.blt_eq]) hq hd)).symm
   · rfl
section draws
variable {r:Option Nat}{n:Nat}{e0:Nat->Value}{ds:List Deferred}{w0:World}{Q:Exit->Act->World->Prop}{Φ:List Ph}{R:World->World->Prop}{k6:(Nat->Bool)->(Nat->Value)->World->Prop}
def I1 (Q:Exit->Act->World->Prop)(N:Nat)(ds:List Deferred)(R:World->World->Prop)(k6:(Nat->Bool)->(Nat->Value)->World->Prop)(w:World)(ls:Nat->Bool)(i:Nat)(φ:Ph)(o:Oper)(e f:Nat->Value):Exit->Act->World->Prop:=λx a' w'=>
 (x=.normal/\∃v,a'=(act N f ds).put o.dst v/\R w w'/\φ.ok v w'/\k6 (eR ls i) (kJ e o.dst v) w')\/(∃c,x=.panic c/\Q (.panic c) a' w')
def Yv (Q:Exit->Act->World->Prop)(r:Option Nat)(n:Nat)(P:Program)(N:Nat)(ds:List Deferred)(l:List Oper)(M:Nat)(Φ:List Ph)(R:World->World->Prop)(k6:(Nat->Bool)->(Nat->Value)->World->Prop)(e0:Nat->Value)(w0:World):Nat->List Oper->List Ph->Prop
 |_,[],_=>True
 |_,_::_,[]=>False
 |i,o::os,φ::φs=>(zI R φ/\∀(e:Nat->Value) (w:World) (ls:Nat->Bool),R w0 w->k6 ls e w->(∀j k,cF l j k=true->ls j=true->ls k=true)->ls i=false->(∀k,cF l i k=true->ls k=true)->(∀j d,ci o j=true->da l j=some d->tH Φ j (e d) w)->
  wpListIn (Fw r) n P l.toArray (I1 Q N ds R k6 w ls i φ o e (fr l M Φ (ci o) e e0)) [o] (act N (fr l M Φ (ci o) e e0) ds) w)/\Yv Q r n P N ds l M Φ R k6 e0 w0 (i+1) os φs
theorem xI:∀(os:List Oper) (φs:List Ph) (i0:Nat),Yv Q r n P N ds l M Φ R k6 e0 w0 i0 os φs->∀i o,os[i]?=some o->∃φ,φs[i]?=some φ/\zI R φ/\
 ∀ (e:Nat->Value) (w:World) (ls:Nat->Bool),R w0 w->k6 ls e w->(∀j k,cF l j k=true->ls j=true->ls k=true)->ls (i0+i)=false->(∀k,cF l (i0+i) k=true->ls k=true)->(∀j d,ci o j=true->da l j=some d->tH Φ j (e d) w)->
  wpListIn (Fw r) n P l.toArray (I1 Q N ds R k6 w ls (i0+i) φ o e (fr l M Φ (ci o) e e0)) [o] (act N (fr l M Φ (ci o) e e0) ds) w
 |[],_,_,_,i,o,ho=>by simp at ho
 |_::_,[],_,h,_,_,_=>h.elim
 |o'::os,φ::φs,i0,h,0,o,ho=>by simp at ho;subst ho;exact⟨φ,rfl,h.1⟩
 | o'::os,φ::φs,i0,h,i+1,o,ho=>by
   obtain⟨ψ,h1,h2⟩:=xI os φs (i0+1) h.2 i o (by simpa using ho)
   rw[show i0+1+i=i0+(i+1)by omega]at h2
   exact⟨ψ,by simpa using h1,h2⟩
theorem ry {k6:(Nat->Bool)->(Nat->Value)->World->Prop}:∀(os:List Oper) (i0:Nat),
 (∀i o,os[i]?=some o->∀(e:Nat->Value) (w:World) (ls:Nat->Bool),k6 ls e w->(∀j k,cF l j k=true->ls j=true->ls k=true)->ls (i0+i)=false->(∀k,cF l (i0+i) k=true->ls k=true)->
  wpListIn (Fw r) n P l.toArray (λx a' w'=>(x=.normal/\∃v,a'=(act N e ds).put o.dst v/\k6 (eR ls (i0+i)) (kJ e o.dst v) w')\/(∃c,x=.panic c/\Q (.panic c) a' w')) [o] (act N e ds) w)->xE Q r n P N ds l k6 i0 os
 |[],_,_=>trivial
 |o::os,i0,h=>⟨h 0 o rfl,ry os (i0+1) λi o ho=>by rw[show i0+1+i=i0+(i+1)by omega];exact h (i+1) o (by simpa using ho)⟩
def sr:∀(Φ:List Ph) (i:Nat) (φ:Ph) (v:Value) (w:World),Φ[i]?=some φ->(tH Φ i v w↔φ.ok v w)
 |[],_,_,_,_,h=>by simp at h
 |ψ::_,0,φ,v,w,h=>by simp at h;subst h;exact Iff.rfl
 |_::Φ,i+1,φ,v,w,h=>sr Φ i φ v w ka5
def kL {o:Oper}{a:Act}{A B:Exit->Act->World->Prop}(h:wpListIn (Fw r) n P l.toArray A [o] a w)(hk:∀x a w,A x a w->B x a w):wpListIn (Fw r) n P l.toArray B [o] a w:=by
 unfold wpListIn at h ⊢
 split
 · rename_i hw
   rw[if_pos hw]at h
   exact iu (λa w h=>hk _ _ _ h) (λc a w h=>hk _ _ _ h) (λa w h=>hk _ _ _ h) h
 · rename_i hw
   rw[if_neg hw]at h
   exact⟨h.1,hk _ _ _ h.2⟩
def QM {id :Nat}(hm:P.follows .mixedOrders=true)(hR0:R w0 w0.drew)(hRt:∀a b c,R a b->R b c->R a c)(hJ0:k6 (λ_=>false) e0 w0.drew)(hwf:M3 l=true)(hshape:iv l M=true)(hdst:H9 l M=true)(hstep:Yv Q r n P N ds l M Φ R k6 e0 w0 0 (l.take M) Φ)(hfin:∀(e:Nat->Value) (w:World) (ls:Nat->Bool),R w0 w->k6 ls e w->(∀j,Nat.blt j M=true->ls j=true)->(∀j d,Nat.blt j M=true->da l j=some d->tH Φ j (e d) w)->
 wpListIn (Fw r) n P l.toArray Q (l.drop M) (act N (fr l M Φ (λj=>Nat.blt j M) e e0) ds) w):
 (Code.region id l.toArray true).wpIn (Fw r) n P Q (act N e0 ds) w0:=by
 have Am:∀i o d,i<M->l[i]?=some o->o.dst=some d->lT l M d=true:=by
  intro i o d hi ho hd
  refine List.any_eq_true.2 ⟨o,List.mem_iff_getElem?.2 ⟨i,by rw[List.getElem?_take,if_pos hi];exact ho⟩,?_⟩
  rw[hd];exact Nat.beq_refl d
 refine Wi hm M (λls e w=>R w0 w/\(∀t,lT l M t=false->e t=e0 t)/\(∀j d,Nat.blt j M=true->ls j=true->da l j=some d->tH Φ j (e d) w)/\k6 ls e w) ⟨hR0,λ_ _=>rfl,λj d _ h _=>(by cases h),hJ0⟩ hwf hshape (ry (l.take M) 0 ?_) ?_
 · rintro i o ho e w ls ⟨hR,hs,hφ,hJ⟩ Az Ab W
   simp only[Nat.zero_add]at Ab W ⊢
   have hi:i<M:=by
    rcases Nat.lt_or_ge i M with h1|h1
    · exact h1
    · rw[List.getElem?_eq_none q4]at ho;cases ho
   have H:l[i]?=some o:=by rw[List.getElem?_take,if_pos hi]at ho;exact ho
   obtain⟨φ,hφi,_,h⟩:=xI (l.take M) Φ 0 hstep i o ho
   simp only[Nat.zero_add]at h
   have As:∀j,ci o j=true->cF l i j=true:=λj E=>by unfold cF;rw[H];exact E
   have Aq:∀j,ci o j=true->j<M:=by
    intro j E
    obtain⟨Ao,Ap,hb⟩:=List.any_eq_true.1 E
    simp only[Bool.and_eq_true]at hb
    have B1:=qb4 hb.2
    have h1:=List.all_eq_true.1 hwf i (List.mem_range.2 (List.getElem?_eq_some_iff.1 H).1)
    rw[H]at h1
    have h2:=List.all_eq_true.1 h1 Ao (by simpa using Ap)
    simp only[hb.1,Bool.not_true,Bool.false_or]at h2
    rw[Nat.blt_eq]at h2
    omega
   have A2:∀j d,ci o j=true->da l j=some d->tH Φ j (e d) w:=λj d E hd=>hφ j d (by rw[Nat.blt_eq];exact Aq j E) (W j (As j E)) hd
   have O:e=fr l M Φ (ci o) e e0:=QK (w:=w) hs (λj d _ E hd=>A2 j d E hd)
   have h1:=h e w ls hR hJ Az Ab W A2
   rw[<-O]at h1
   refine kL h1 ?_
   rintro x a' w' (⟨hx,v,Af,hR',hv,hJ'⟩|⟨c,hx,hq⟩)
   · refine .inl ⟨hx,v,Af,hRt _ _ _ hR hR',λt ht=>?_,λj d hjM E hd=>?_,hJ'⟩
     · cases hd:o.dst with
       |none=>exact hs t ht
       | some d=>
         have:t≠d:=λe=>by subst e;rw[Am i o t hi H hd]at ht;cases ht
         show upd e d v t=e0 t
         rw[upd_ne _ _ this];exact hs t ht
     · rw [Nat.blt_eq]at hjM
       by_cases hij:j=i
       · subst hij
         have Ar:o.dst=some d:=by unfold da at hd;rw[H]at hd;exact hd
         rw[Ar];show tH Φ j (upd e d v d) w';rw[kt];exact(sr Φ j φ v w' hφi).2 hv
       · have Ay:ls j=true:=by
          have hb:Nat.beq j i=false:=by
           cases hb:Nat.beq j i with
           |false=>rfl
           |true=>exact absurd (qb4 hb) hij
          unfold eR at E;rw[hb]at E;exact E
         have hold:tH Φ j (e d) w':=by
          have Av:=hφ j d (by rw[Nat.blt_eq];exact hjM) Ay hd
          cases hj? :(l.take M)[j]? with
          |none=>exact absurd (List.getElem?_eq_none_iff.1 hj?) (by
           have:j<l.length:=by
            unfold da at hd
            rcases Nat.lt_or_ge j l.length with h1|h1
            · exact h1
            · rw[List.getElem?_eq_none h1]at hd;cases hd
           simp;omega)
          | some oj=>
            obtain⟨ψ,hψ,B0,_⟩:=xI (l.take M) Φ 0 hstep j oj hj?
            exact(sr Φ j ψ _ w' hψ).2 (B0 _ _ _ hR' ((sr Φ j ψ _ w hψ).1 Av))
         cases hdo:o.dst with
         |none=>exact hold
         | some d0=>
           have Aw:d≠d0:=λe=>by
            subst e
            have h1:=List.all_eq_true.1 (List.all_eq_true.1 hdst i (List.mem_range.2 hi)) j (List.mem_range.2 hjM)
            have Ax:da l i=some d:=by unfold da;rw[H];exact hdo
            simp only[Ax,hd,Bool.or_eq_true]at h1
            rcases h1 with h1|h1
            · exact hij (qb4 h1).symm
            · simp at h1
           show tH Φ j (upd e d0 v d) w'
           rw[upd_ne _ _ Aw];exact hold
   · exact .inr ⟨c,hx,hq⟩
 · rintro e w ls A0 ⟨hR,hs,hφ,hJ⟩
   have A1:∀j d,Nat.blt j M=true->da l j=some d->tH Φ j (e d) w:=λj d E hd=>hφ j d E (A0 j E) hd
   have O:e=fr l M Φ (λj=>Nat.blt j M) e e0:=QK (w:=w) hs (λj d E _ hd=>A1 j d E hd)
   have:=hfin e w ls hR hJ A0 A1
   rw[<-O]at this
   exact this
end draws
end Go.Eng
namespace Go.Proofs.YtlmihmlnpjkblaaGreatDoor
open Go Go.Eng Go.RowKit Tryz
section jumps
def HO (l:Nat)(k6:Act->World->Prop)(Q:Exit->Act->World->Prop):Exit->Act->World->Prop
 | .goto l',a,w=>l'=l/\k6 a w
 |e,a,w=>Q e a w
def JL (F:Fence)(n:Nat)(P:Program)(l:Nat)(rest:Code)(Q:Exit->Act->World->Prop):Nat->Act->World->Prop
 |0,_,_=>False
 |k+1,a,w=>rest.wpIn F n P (HO l (JL F n P l rest Q k) Q) a w
def JA (F:Fence)(n:Nat)(P:Program)(l:Nat)(rest:Code)(Q:Exit->Act->World->Prop):Act->World->Prop:=λa w=>∃k,JL F n P l rest Q k a w
variable {F:Fence}{n:Nat}{P:Program}{l:Nat}{rest c:Code}{Q:Exit->Act->World->Prop}{a:Act}{w:World}{k6 J':Act->World->Prop}
def zJ (h:∀a w,k6 a w->J' a w):∀e a w,HO l k6 Q e a w->HO l J' Q e a w:=λe a w hq=>by
 cases e <;>first|exact hq|exact⟨hq.1,h _ _ hq.2⟩
def zK (hf:findLabel c l=some rest)(h:c.wpIn F n P (HO l (JA F n P l rest Q) Q) a w):(Code.scope c).wpIn F n P Q a w:=by
 intro b k cs W hb hr
 have H:(lone (b.atR a (.code (.scope c)::k)) cs w).fenced P F:=fenced_calm hb hr Z
 have A0:gotoIn l (.inScope c::k)=some (.code rest:: .inScope c::k):=by simp[gotoIn,hf]
 have key:∀m a w,JL F n P l rest Q m a w->∃e a' w',Q e a' w'/\ArrivesIn (Machine.fenced P F) P (lone (b.atR a (.code rest:: .inScope c::k)) cs w) b k cs e a' w':=by
  intro m
  induction m with
  |zero=>intro a w h;exact h.elim
  | succ m ih=>
    intro a w hJ
    obtain⟨e,a₁,w₁,hq,E⟩:=(show rest.wpIn F n P (HO l (JL F n P l rest Q m) Q) a w from hJ) b (.inScope c::k) cs W hb hr
    cases e with
    |normal=>exact⟨.normal,a₁,w₁,hq,StepsIn.trans E (.one (fenced_calm hb hr Z) kw)⟩
    | exit id=>
      exact⟨.exit id,a₁,w₁,hq,λk' hk=>E.1 k' kb7,λO hk=>let ⟨k₁,h1,h2⟩:=E.2 O kb7;⟨k₁,h1,h2⟩⟩
    | goto l'=>
      obtain⟨rfl,hJ'⟩:=hq
      obtain⟨e₂,a₂,w₂,hq₂,harr₂⟩:=ih a₁ w₁ hJ'
      exact⟨e₂,a₂,w₂,hq₂,.of_steps (E.1 _ A0) harr₂⟩
    |ret=>exact⟨_,a₁,w₁,hq,E⟩
    |panic ch=>exact⟨_,a₁,w₁,hq,E⟩
    |outgrown=>exact⟨_,a₁,w₁,hq,E⟩
 obtain⟨e,a₁,w₁,hq,E⟩:=h b (.inScope c::k) cs W hb hr
 cases e with
 |normal=>exact⟨.normal,a₁,w₁,hq,.head H cY (StepsIn.trans E (.one (fenced_calm hb hr Z) kw))⟩
 | exit id=>
   exact⟨.exit id,a₁,w₁,hq,λk' hk=>.head H cY (E.1 k' kb7),
    λO hk=>let ⟨k₁,h1,h2⟩:=E.2 O kb7;⟨k₁,h1,.head H cY h2⟩⟩
 | goto l'=>
   obtain⟨rfl,m,hJ'⟩:=hq
   obtain⟨e₂,a₂,w₂,hq₂,harr₂⟩:=key m a₁ w₁ hJ'
   exact⟨e₂,a₂,w₂,hq₂,.of_steps (.head H cY (E.1 _ A0)) harr₂⟩
 |ret=>exact⟨_,a₁,w₁,hq,.of_steps (.one H cY) E⟩
 |panic ch=>exact⟨_,a₁,w₁,hq,.of_steps (.one H cY) E⟩
 |outgrown=>exact⟨_,a₁,w₁,hq,.of_steps (.one H cY) E⟩
def QN (h:Q .normal a w):HO l k6 Q .normal a w:=h
def QO (h:Q .ret a w):HO l k6 Q .ret a w:=h
def QP {ch:_}(h:Q (.panic ch) a w):HO l k6 Q (.panic ch) a w:=h
def QQ (h:k6 a w):HO l k6 Q (.goto l) a w:=⟨rfl,h⟩
def I2 {K:Act->World->Prop}(h:Q (.goto l) a w):Exit.then K Q (.goto l) a w:=h
def Wl {id:Nat}(h:Q (.goto l) a w):Exit.inBlock id Q (.goto l) a w:=h
def I3 (h:Q (.goto l) a w):(Code.goto l).wpIn F n P Q a w:=wpIn_goto h
end jumps
end Go.Proofs.YtlmihmlnpjkblaaGreatDoor
