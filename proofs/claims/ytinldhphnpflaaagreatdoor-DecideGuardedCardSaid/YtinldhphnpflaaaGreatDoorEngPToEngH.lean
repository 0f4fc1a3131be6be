/- Part of the proof of a statement about decisions. -/
import Derived.Test.YtinldhphnpflaaaGreatDoorBaseToEngJ
import Derived.DefersIn
import Derived.Recover
import Derived.KernelRfl
set_option linter.all false
namespace Go.Eng
open Go Go.RowKit
section draws
variable {P:Program}{r:Option Nat}{n N:Nat}{e0:Nat->Value}{ds:List Deferred}{w0:World}{Q:Exit->Act->World->Prop}{ops:Array Oper}{M:Nat}
theorem c_stateP {id:Nat}{l:List Oper}(hm:P.follows .mixedOrders=true)(M:Nat)(J:(Nat->Bool)->(Nat->Value)->World->Prop)(hJ0:J (λ_=>false) e0 w0.drew)(hwf:∀(i:Nat) (o:Oper),l.toArray[i]?=some o->∀e∈o.after,Region.binds .any e=true->e.on<i)(hshape:Region.sinkB .any l.toArray M=true∧Region.chainB .any l.toArray M=true∧M<l.toArray.size∨M=l.toArray.size)(hstep:∀(i:Nat) (o:Oper),i<M->l.toArray[i]?=some o->∀(e:Nat->Value) (w:World) (ls:Nat->Bool),J ls e w->(∀j oj,l.toArray[j]?=some oj->ls j=true->∀ed∈oj.after,Region.binds .any ed=true->ls ed.on=true)->ls i=false->(∀ed∈o.after,Region.binds .any ed=true->ls ed.on=true)->
      wpListIn (Fw r) n P l.toArray (λx a' w'=>(x=.normal∧∃v,a'=(act N e ds).put o.dst v∧J (setB ls i) (updO e o.dst v) w')∨(∃c,x=.panic c∧Q (.panic c) a' w')) [o] (act N e ds) w)(hfin:∀(e:Nat->Value) (w:World) (ls:Nat->Bool),(∀j,j<M->ls j=true)->J ls e w->wpListIn (Fw r) n P l.toArray Q (l.drop M) (act N e ds) w):
    (Code.region id l.toArray true).wpIn (Fw r) n P Q (act N e0 ds) w0:=by
  have hMle:M<=l.toArray.size:=by rcases hshape with⟨_,_,h⟩|h <;>omega
  have hchain:Region.chainB .any l.toArray M=true:=by
    rcases hshape with⟨_,h,_⟩|h
    · exact h
    · refine List.all_eq_true.2 λt ht=>?_
      have:=List.mem_range.1 ht
      simp only[Bool.or_eq_true,decide_eq_true_eq]
      left;omega
  refine wpIn_region_any hm ?_
  have main : ∀ (fuel:Nat) (listed:Array Bool) (e:Nat->Value) (w:World),left l.toArray listed<=fuel->HeadInv .any l.toArray M listed->J (λj=>listed.getD j false) e w->
      wpAnyIn (Fw r) n P .any l.toArray Q fuel listed (act N e ds) w:=by
    intro fuel
    induction fuel with
    | zero=>
      intro listed e w hf inv hJ
      have hall:∀i,i<l.toArray.size->listed.getD i false=true:=by
        intro i hi
        cases hb:listed.getD i false with
        |true=>rfl
        | false=>
          have:=left_set hi inv.size hb
          omega
      refine tail_run hchain hwf 0 l.toArray.size listed _ w 0 rfl hMle inv.size hall (λi h1 h2=>by omega) (Nat.le_refl _) ?_
      by_cases hM:M=l.toArray.size
      · have h:=hfin e w _ (λj hj=>hall j (by omega)) hJ
        rw[hM]at h
        simpa using h
      · have h1:=inv.tail M (Nat.le_refl _) (by omega)
        have h2:=hall M (by omega)
        rw[getD_both h1]at h2
        cases h2
    | succ fuel ih=>
      intro listed e w hf inv hJ
      by_cases hdone:∀i,i<M->listed.getD i false=true
      · refine tail_run hchain hwf (l.toArray.size-M) M listed _ w (fuel+1) (by omega) (Nat.le_refl _) inv.size hdone (λi h1 h2=>inv.tail i h1 h2) ?_ ?_
        · have h1:l.toArray.size-M<=left l.toArray listed:=left_tail hMle (λi h1 h2=>getD_both (inv.tail i h1 h2))
          omega
        · simpa using hfin e w _ (λj hj=>hdone j hj) hJ
      · have hex:∃i,i<M∧listed.getD i false=false:=by
          refine Classical.byContradiction λhn=>hdone λi hi=>?_
          cases hb:listed.getD i false with
          |true=>rfl
          |false=>exact absurd ⟨i,hi,hb⟩ hn
        obtain⟨i0,hi0,hb0⟩:=hex
        have hin:∀i∈Region.ready .any l.toArray listed,i<M:=by
          intro i hi
          rcases Nat.lt_or_ge i M with h|h
          · exact h
          · rcases hshape with⟨h1,h2,h3⟩|h3
            · exact absurd hi (tail_waits h1 h2 h3 inv _ i0 rfl hi0 (getD_in (by rw[inv.size];omega) hb0) i h)
            · obtain⟨_,o,ho,_⟩:=mem_ready.1 hi
              have:=(Array.getElem?_eq_some_iff.1 ho).1
              omega
        refine⟨λh0=>?_,λi hi=>?_⟩
        ·
          exfalso
          have least:∀k i,i<=k->i<l.toArray.size->listed.getD i false=false->∃j,j∈Region.ready .any l.toArray listed:=by
            intro k
            induction k with
            | zero=>
              intro i hi hl hb
              obtain rfl:i=0:=by omega
              refine⟨0,mem_ready.2 ⟨getD_in (by rw[inv.size];exact hl) hb,l.toArray[0],Array.getElem?_eq_getElem hl,λed he hbb=>?_⟩⟩
              have:=hwf 0 _ (Array.getElem?_eq_getElem hl) ed he hbb
              omega
            | succ k ihk=>
              intro i hi hl hb
              by_cases hp:∀ed∈(l.toArray[i]).after,Region.binds .any ed=true->listed.getD ed.on false=true
              · exact⟨i,mem_ready.2 ⟨getD_in (by rw[inv.size];exact hl) hb,l.toArray[i],Array.getElem?_eq_getElem hl,hp⟩⟩
              · have:∃ed∈(l.toArray[i]).after,Region.binds .any ed=true∧listed.getD ed.on false=false:=by
                  refine Classical.byContradiction λhn=>hp λed he hbb=>?_
                  cases hb:listed.getD ed.on false with
                  |true=>rfl
                  |false=>exact absurd ⟨ed,he,hbb,hb⟩ hn
                obtain⟨ed,he,hbb,hun⟩:=this
                have hlt:=hwf i _ (Array.getElem?_eq_getElem hl) ed he hbb
                exact ihk ed.on (by omega) (by omega) hun
          obtain⟨j,hj⟩:=least i0 i0 (Nat.le_refl _) (by omega) hb0
          rw[h0]at hj
          cases hj
        · have hiM:=hin i hi
          obtain⟨hun,o,ho,hpred⟩:=mem_ready.1 hi
          have hst:=hstep i o hiM ho e w (λj=>listed.getD j false) hJ (λj oj hj hl=>inv.closed j oj hj hl) (getD_both hun) hpred
          have hnext:∀a' w',(∃v,a'=(act N e ds).put o.dst v∧J (setB (λj=>listed.getD j false) i) (updO e o.dst v) w')->wpAnyIn (Fw r) n P .any l.toArray Q fuel (listed.setIfInBounds i true) a' w':=by
            rintro a' w' ⟨v,rfl,hJ'⟩
            have hil:i<l.toArray.size:=by omega
            have hJ2:J (λj=>(listed.setIfInBounds i true).getD j false) (updO e o.dst v) w':=by
              have e':(λj=>(listed.setIfInBounds i true).getD j false)=setB (λj=>listed.getD j false) i:=by
                funext j
                by_cases hj:j=i
                · subst hj;unfold setB;simp;have:=inv.size;simp[this];omega
                · have hb:Nat.beq j i=false:=by
                    cases hb:Nat.beq j i with
                    |false=>rfl
                    |true=>exact absurd (Nat.eq_of_beq_eq_true hb) hj
                  unfold setB;rw[hb];simp only;rw[getD_set_ne false (λh=>hj h.symm)]
              rw[e'];exact hJ'
            have hlf:left l.toArray (listed.setIfInBounds i true)<=fuel:=by
              have:=left_set hil inv.size (getD_both hun)
              omega
            cases hd:o.dst with
            | none=>
              rw[hd]at hJ2
              exact ih _ e w' hlf (inv.set hi hiM) hJ2
            | some d0=>
              rw[hd]at hJ2
              rw[act_put]
              exact ih _ _ w' hlf (inv.set hi hiM) hJ2
          unfold wpOpIn
          rw[ho]
          dsimp only
          unfold wpListIn at hst
          split
          · rename_i hw
            rw[if_pos hw]at hst
            exact oper_mono2 (λa' w' hh=>by
              rcases hh with hh|⟨c,hc,_⟩
              · exact hnext a' w' hh.2
              · cases hc) (λc a w h=>by
              rcases h with h|⟨c',hc,hq⟩
              · cases h.1
              · cases hc;exact hq) (λa w h=>by
              rcases h with h|⟨c',hc,hq⟩
              · cases h.1
              · cases hc) hst
          · rename_i hw
            rw[if_neg hw]at hst
            refine⟨hst.1,?_⟩
            rcases hst.2 with hh|⟨c,hc,_⟩
            · exact hnext _ _ hh.2
            · cases hc
  refine main _ _ e0 w0.drew ?_ ⟨by simp,λj oj hj hl=>?_,λt h1 h2=>?_⟩ ((congrArg (λf=>J f e0 w0.drew) (funext λj=>getD_replicate_false _ j)).mpr hJ0)
  · unfold left
    exact Nat.le_trans (List.length_filter_le _ _) (by simp)
  · rw[getD_replicate_false]at hl;cases hl
  · have h3:t<l.length:=by simpa using h2
    simp[h3]
def StepsP (Q:Exit->Act->World->Prop)(r:Option Nat)(n:Nat)(P:Program)(N:Nat)(ds:List Deferred)(l:List Oper)(J:(Nat->Bool)->(Nat->Value)->World->Prop):Nat->List Oper->Prop
  |_,[]=>True
  |i,o::os=>(∀(e:Nat->Value) (w:World) (ls:Nat->Bool),J ls e w->(∀j k,predAt l j k=true->ls j=true->ls k=true)->ls i=false->(∀k,predAt l i k=true->ls k=true)->
      wpListIn (Fw r) n P l.toArray (λx a' w'=>(x=.normal∧∃v,a'=(act N e ds).put o.dst v∧J (setB ls i) (updO e o.dst v) w')∨(∃c,x=.panic c∧Q (.panic c) a' w')) [o] (act N e ds) w)∧StepsP Q r n P N ds l J (i+1) os
theorem stepsP_get {l:List Oper}{J:(Nat->Bool)->(Nat->Value)->World->Prop}:∀(os:List Oper) (i0:Nat),StepsP Q r n P N ds l J i0 os->∀i o,os[i]?=some o->
    (∀(e:Nat->Value) (w:World) (ls:Nat->Bool),J ls e w->(∀j k,predAt l j k=true->ls j=true->ls k=true)->ls (i0+i)=false->(∀k,predAt l (i0+i) k=true->ls k=true)->
      wpListIn (Fw r) n P l.toArray (λx a' w'=>(x=.normal∧∃v,a'=(act N e ds).put o.dst v∧J (setB ls (i0+i)) (updO e o.dst v) w')∨(∃c,x=.panic c∧Q (.panic c) a' w')) [o] (act N e ds) w)
  |[],_,_,i,o,h=>by simp at h
  |o'::os,i0,h,0,o,ho=>by simp at ho;subst ho;exact h.1
  | o'::os,i0,h,i+1,o,ho=>by
    have:=stepsP_get os (i0+1) h.2 i o (by simpa using ho)
    rwa [show i0+1+i=i0+(i+1)by omega]at this
theorem c_stP {id:Nat}{l:List Oper}(hm:P.follows .mixedOrders=true)(M:Nat)(J:(Nat->Bool)->(Nat->Value)->World->Prop)(hJ0:J (λ_=>false) e0 w0.drew)(hwf:wfB l=true)(hshape:shapeB l M=true)(hstep:StepsP Q r n P N ds l J 0 (l.take M))(hfin:∀(e:Nat->Value) (w:World) (ls:Nat->Bool),(∀j,Nat.blt j M=true->ls j=true)->J ls e w->wpListIn (Fw r) n P l.toArray Q (l.drop M) (act N e ds) w):
    (Code.region id l.toArray true).wpIn (Fw r) n P Q (act N e0 ds) w0:=by
  have hget:∀j:Nat,l.toArray[j]?=l[j]?:=λj=>by rw[List.getElem?_toArray]
  refine c_stateP hm M J hJ0 ?_ ?_ ?_ (λe w ls h1 h2=>hfin e w ls (λj hj=>h1 j (by rwa [Nat.blt_eq]at hj)) h2)
  · intro i o ho ed he hb
    rw[hget]at ho
    have h1:=List.all_eq_true.1 hwf i (List.mem_range.2 (List.getElem?_eq_some_iff.1 ho).1)
    rw[ho]at h1
    have h2:=List.all_eq_true.1 h1 ed (by simpa using he)
    simp only[hb,Bool.not_true,Bool.false_or]at h2
    rwa [Nat.blt_eq]at h2
  · simp only[shapeB,Bool.or_eq_true,Bool.and_eq_true]at hshape
    rcases hshape with⟨⟨h1,h2⟩,h3⟩|h
    · rw[Nat.blt_eq]at h3;exact .inl ⟨h1,h2,by simpa using h3⟩
    · exact .inr (by simpa using Nat.eq_of_beq_eq_true h)
  · intro i o hi ho e w ls hJ hcl hni hpr
    rw[hget]at ho
    have h1:=stepsP_get (l.take M) 0 hstep i o (by rw[List.getElem?_take,if_pos hi];exact ho)
    simp only[Nat.zero_add]at h1
    refine h1 e w ls hJ (λj k hp hl=>?_) hni (λk hp=>?_)
    · cases hj:l[j]? with
      |none=>unfold predAt at hp;rw[hj]at hp;cases hp
      | some oj=>
        obtain⟨ed,he,hb,rfl⟩:=(pred_iff hj).1 hp
        exact hcl j oj (by rw[hget];exact hj) hl ed he hb
    · obtain⟨ed,he,hb,rfl⟩:=(pred_iff ho).1 hp
      exact hpr ed he hb
end draws
section out
variable {K:Act->World->Prop}{Q:Exit->Act->World->Prop}{a:Act}{w:World}{c:List PanicEntry}
theorem p_then (h:Q (.panic c) a w):Exit.then K Q (.panic c) a w:=h
theorem p_in {id:Nat}(h:Q (.panic c) a w):Exit.inBlock id Q (.panic c) a w:=h
theorem p_scope (h:Q (.panic c) a w):Exit.noGoto Q (.panic c) a w:=h
end out
section rows
variable {P:Program}{r:Option Nat}{n N:Nat}{e:Nat->Value}{ds:List Deferred}{w:World}{Q:Exit->Act->World->Prop}{K:Act->World->Prop}
variable {d ty:Nat}{pos:String}{af:Array Edge}{g:Option (Nat×Bool)}{v u:Value}{x y:Operand}{t t':TypeId}
theorem l_drop {l rest:List Oper}{M:Nat}{o:Oper}{ops:Array Oper}{a:Act}(h:List.drop M l=o::rest)(hh:wpListIn (Fw r) n P ops Q (o::rest) a w):wpListIn (Fw r) n P ops Q (List.drop M l) a w:=by rw[h];exact hh
end rows
def Hv (a v:Value):Prop:=a=v
theorem Hv.of {a v:Value}(h:a=v):Hv a v:=h
theorem Hv.str {l:List UInt8}:Hv (S l) (S l):=rfl
theorem Hv.ofk {a v:Value}(h:a=v)(_:Hv v v):Hv a v:=h
theorem Hv.int {k:IntKind}{i:Int}:Hv (.int k i) (.int k i):=rfl
theorem Hv.slice {A:Option Addr}{m c:Nat}:Hv (.slice A m c) (.slice A m c):=rfl
theorem Hv.agg {l:Array Value}:Hv (.agg l) (.agg l):=rfl
theorem Hv.pointer {b:Option Addr}:Hv (.pointer b) (.pointer b):=rfl
theorem Hv.bool {b:Bool}:Hv (.bool b) (.bool b):=rfl
theorem Hv.tuple {l:Array Value}:Hv (.tuple l) (.tuple l):=rfl
theorem Hv.iface {t:TypeId}{v:Value}:Hv (.iface t v) (.iface t v):=rfl
theorem Hv.func {f:Fn}{x y:Array Value}:Hv (.func f x y) (.func f x y):=rfl
theorem Hv.nilIface:Hv .nilIface .nilIface:=rfl
theorem zvv {a v:Value}(h:Hv a v:=by
  first
    |exact Hv.of (rfl:_=S _)
    | (conv=>arg 1;whnf
       first
         | with_reducible first
           |exact Hv.int
           |exact Hv.slice
           |exact Hv.agg
           |exact Hv.pointer
           |exact Hv.bool
           |exact Hv.tuple
           |exact Hv.iface
           |exact Hv.func
           |exact Hv.nilIface
         |exact Hv.ofk (by with_reducible assumption) (by
             with_reducible first
             |exact Hv.int
             |exact Hv.slice
             |exact Hv.str
             |exact Hv.agg
             |exact Hv.pointer
             |exact Hv.bool
             |exact Hv.tuple
             |exact Hv.iface
             |exact Hv.func
             |exact Hv.nilIface))):a=v:=h
theorem zvx {a v:Value}(h:Hv a v:=by
  first
  |exact Hv.of (by exact rfl)
  | (conv=>arg 1;whnf
     exact Hv.of (by with_reducible assumption))):a=v:=h
section
variable {P:Program}{r:Option Nat}{n N:Nat}{e:Nat->Value}{ds:List Deferred}{w:World}{Q:Exit->Act->World->Prop}{K:Act->World->Prop}{a:Act}
variable {ops:Array Oper}{rest:List Oper}{dst:Option Tmp}{op:Op}{d ty:Nat}{pos:String}{af:Array Edge}{id:Nat}{c c1 c2:Code}{x y:Operand}{v:Value}
theorem q_move (hk:wpListIn (Fw r) n P ops Q rest (act N (upd e d v) ds) w)(hx:ev N e x=v:=by exact zvv):wpListIn (Fw r) n P ops Q (⟨some d,.move x,ty,pos,af,none⟩::rest) (act N e ds) w:=l_op (k_move hx hk)
theorem q_assign (hk:wpListIn (Fw r) n P ops Q rest (act N (upd e d v) ds) w)(hx:ev N e x=v:=by exact zvv):wpListIn (Fw r) n P ops Q (⟨some d,.assign x,ty,pos,af,none⟩::rest) (act N e ds) w:=l_op (k_assign hx hk)
theorem q_ex20 {b:Value}(hk:wpListIn (Fw r) n P ops Q rest (act N (upd e d v) ds) w)(hx:ev N e x=.tuple #[v,b]:=by exact zvx):wpListIn (Fw r) n P ops Q (⟨some d,.extract x 0,ty,pos,af,none⟩::rest) (act N e ds) w:=l_op (k_extract hx rfl hk)
theorem q_ex21 {b:Value}(hk:wpListIn (Fw r) n P ops Q rest (act N (upd e d v) ds) w)(hx:ev N e x=.tuple #[b,v]:=by exact zvx):wpListIn (Fw r) n P ops Q (⟨some d,.extract x 1,ty,pos,af,none⟩::rest) (act N e ds) w:=l_op (k_extract hx rfl hk)
theorem q_ex30 {b c:Value}(hk:wpListIn (Fw r) n P ops Q rest (act N (upd e d v) ds) w)(hx:ev N e x=.tuple #[v,b,c]:=by exact zvx):wpListIn (Fw r) n P ops Q (⟨some d,.extract x 0,ty,pos,af,none⟩::rest) (act N e ds) w:=l_op (k_extract hx rfl hk)
theorem q_ex31 {b c:Value}(hk:wpListIn (Fw r) n P ops Q rest (act N (upd e d v) ds) w)(hx:ev N e x=.tuple #[b,v,c]:=by exact zvx):wpListIn (Fw r) n P ops Q (⟨some d,.extract x 1,ty,pos,af,none⟩::rest) (act N e ds) w:=l_op (k_extract hx rfl hk)
theorem q_ex32 {b c:Value}(hk:wpListIn (Fw r) n P ops Q rest (act N (upd e d v) ds) w)(hx:ev N e x=.tuple #[b,c,v]:=by exact zvx):wpListIn (Fw r) n P ops Q (⟨some d,.extract x 2,ty,pos,af,none⟩::rest) (act N e ds) w:=l_op (k_extract hx rfl hk)
theorem q_ex40 {b c g:Value}(hk:wpListIn (Fw r) n P ops Q rest (act N (upd e d v) ds) w)(hx:ev N e x=.tuple #[v,b,c,g]:=by exact zvx):wpListIn (Fw r) n P ops Q (⟨some d,.extract x 0,ty,pos,af,none⟩::rest) (act N e ds) w:=l_op (k_extract hx rfl hk)
theorem q_ex41 {b c g:Value}(hk:wpListIn (Fw r) n P ops Q rest (act N (upd e d v) ds) w)(hx:ev N e x=.tuple #[b,v,c,g]:=by exact zvx):wpListIn (Fw r) n P ops Q (⟨some d,.extract x 1,ty,pos,af,none⟩::rest) (act N e ds) w:=l_op (k_extract hx rfl hk)
theorem q_ex42 {b c g:Value}(hk:wpListIn (Fw r) n P ops Q rest (act N (upd e d v) ds) w)(hx:ev N e x=.tuple #[b,c,v,g]:=by exact zvx):wpListIn (Fw r) n P ops Q (⟨some d,.extract x 2,ty,pos,af,none⟩::rest) (act N e ds) w:=l_op (k_extract hx rfl hk)
theorem q_ex43 {b c g:Value}(hk:wpListIn (Fw r) n P ops Q rest (act N (upd e d v) ds) w)(hx:ev N e x=.tuple #[b,c,g,v]:=by exact zvx):wpListIn (Fw r) n P ops Q (⟨some d,.extract x 3,ty,pos,af,none⟩::rest) (act N e ds) w:=l_op (k_extract hx rfl hk)
def isSl (P:Program)(t:TypeId):Bool:=match P.underlying t with|some (.slice _)=>true|_=>false
theorem isSl_some {P:Program}{t:TypeId}(h:isSl P t=true):∃D,P.underlying t=some (.slice D):=by
  unfold isSl at h;split at h
  · rename_i D hh;exact⟨D,hh⟩
  · cases h
theorem q_len {t:TypeId}{A:Option Addr}{m c:Nat}(hk:wpListIn (Fw r) n P ops Q rest (act N (upd e d (.int .i64 m)) ds) w)(hx:ev N e x=.slice A m c:=by exact zvx)(hu:isSl P t=true:=by decide +kernel):
    wpListIn (Fw r) n P ops Q (⟨some d,.call {callee:=.builtin .len,args:=#[x],argTypes:=#[t]},ty,pos,af,none⟩::rest) (act N e ds) w:=by obtain⟨D,h⟩:=isSl_some hu;exact l_op (k_len h hx hk)
theorem q_nil {b o:Nat}(hk:wpListIn (Fw r) n P ops Q rest (act N (upd e d (.pointer (some ⟨b,o,none⟩))) ds) w)(hx:ev N e x=.pointer (some ⟨b,o,none⟩):=by exact zvx):wpListIn (Fw r) n P ops Q (⟨some d,.nilCheck x,ty,pos,af,none⟩::rest) (act N e ds) w:=l_op (k_nilCheck hx hk)
def nth:List Value->Nat->Option Value
  |[],_=>none
  |a::_,0=>some a
  |_::l,i+1=>nth l i
theorem nth_eq:∀(l:List Value) (i:Nat),nth l i=l[i]?
  |[],_=>rfl
  |_::_,0=>rfl
  |_::l,i+1=>by simpa[nth]using nth_eq l i
def nth2:List Value->Nat->Option (Value×Value)
  |a::b::_,0=>some (a,b)
  |_::l,i+1=>nth2 l i
  |_,_=>none
theorem nth2_eq:∀(l:List Value) (i:Nat) (u v:Value),nth2 l i=some (u,v)->l[i]?=some u∧l[i+1]?=some v
  |[],0,u,v,h=>by simp[nth2]at h
  |[],_+1,u,v,h=>by simp[nth2]at h
  |[_],0,u,v,h=>by simp[nth2]at h
  |a::b::_,0,u,v,h=>by simp only[nth2,Option.some.injEq,Prod.mk.injEq]at h;obtain⟨rfl,rfl⟩:=h;exact⟨rfl,rfl⟩
  |_::l,i+1,u,v,h=>by have:=nth2_eq l i u v (by simpa[nth2]using h);simpa using this
def isRow1 (P:Program)(t:TypeId):Option Bool:=(P.underlying t).map (·.isRow)
theorem isRow1_some {P:Program}{t:TypeId}{b:Bool}(h:isRow1 P t=some b):∃D,P.underlying t=some D∧D.isRow=b:=by
  unfold isRow1 at h;cases hh:P.underlying t with
  |none=>simp[hh]at h
  |some D=>exact⟨D,rfl,by simpa[hh]using h⟩
theorem q_load {t tb:TypeId}{b o:Nat}{cs:List Value}(hk:wpListIn (Fw r) n P ops Q rest (act N (upd e d v) ds) w)(hx:ev N e x=.pointer (some ⟨b,o,none⟩):=by exact zvx)(hb:Blk w b tb cs.toArray:=by with_reducible assumption)(hv:nth cs o=some v:=by exact rfl)(hu:isRow1 P t=some false:=by decide +kernel):
    wpListIn (Fw r) n P ops Q (⟨some d,.load t x,ty,pos,af,none⟩::rest) (act N e ds) w:=by
  obtain⟨D,h1,h2⟩:=isRow1_some hu
  exact l_op (k_load h1 h2 hx (hb.cell (by rw[<-hv,nth_eq];simp)) hk)
theorem q_load2 {t tb:TypeId}{b o:Nat}{cs:List Value}{v1 v2:Value}(hk:wpListIn (Fw r) n P ops Q rest (act N (upd e d (.agg #[v1,v2])) ds) w)(hx:ev N e x=.pointer (some ⟨b,o,none⟩):=by exact zvx)(hb:Blk w b tb cs.toArray:=by with_reducible assumption)(hv:nth2 cs o=some (v1,v2):=by exact rfl)(hu:isRow1 P t=some true:=by decide +kernel)(hi:(P.info? t).map (·.size)=some 2:=by decide +kernel):
    wpListIn (Fw r) n P ops Q (⟨some d,.load t x,ty,pos,af,none⟩::rest) (act N e ds) w:=by
  obtain⟨D,h1,h2⟩:=isRow1_some hu
  obtain⟨h3,h4⟩:=nth2_eq _ _ _ _ hv
  exact l_op (k_loadA (cs:=[v1,v2]) h1 h2 hi hx (λj u hj=>by
    match j,hj with
    |0,hj=>simp at hj;subst hj;exact hb.cell (by simpa using h3)
    |1,hj=>simp at hj;subst hj;exact hb.cell (by simpa using h4)
    |j+2,hj=>simp at hj) hk)
theorem nbt {b:Bool}(h:b=false):(!b)=true:=by rw[h];rfl
theorem nbf {b:Bool}(h:b=true):(!b)=false:=by rw[h];rfl
theorem dett {p:Prop}{i:Decidable p}(h:p): @decide p i=true:=by simpa using h
theorem detf {p:Prop}{i:Decidable p}(h:¬p): @decide p i=false:=by simpa using h
theorem zb {X q:Bool}(h:X=q:=by
  first
  | with_reducible first
    |exact rfl
    |assumption
    |exact dett (by assumption)
    |exact detf (by assumption)
    |exact nbt (by first|exact rfl|assumption|exact detf (by assumption))
    |exact nbf (by first|exact rfl|assumption|exact dett (by assumption))
  |decide +kernel):X=q:=h
theorem c_tr (h:c1.wpIn (Fw r) n P Q (act N e ds) w){q:Bool}(hx:ev N e x=.bool q:=by exact zvx)(hq:q=true:=by exact zb):(Code.cond x c1 c2).wpIn (Fw r) n P Q (act N e ds) w:=c_true (by rw[hx,hq]) h
theorem c_fa (h:c2.wpIn (Fw r) n P Q (act N e ds) w){q:Bool}(hx:ev N e x=.bool q:=by exact zvx)(hq:q=false:=by exact zb):(Code.cond x c1 c2).wpIn (Fw r) n P Q (act N e ds) w:=c_false (by rw[hx,hq]) h
theorem q_want {l:List Oper}{j s:Nat}{q b:Bool}(hk:wpListIn (Fw r) n P l.toArray Q (⟨dst,op,ty,pos,af,none⟩::rest) (act N e ds) w)(hj:dstOf l j=some s:=by exact rfl)(hv:ev N e (.tmp s)=.bool b:=by exact zvx)(hb:b=q:=by exact zb):wpListIn (Fw r) n P l.toArray Q (⟨dst,op,ty,pos,af,some (j,q)⟩::rest) (act N e ds) w:=l_want hj (by rw[hv,hb]) hk
theorem q_unw {l:List Oper}{j s:Nat}{q b:Bool}(hk:wpListIn (Fw r) n P l.toArray Q rest (act N (upd e d undef) ds) w)(hj:dstOf l j=some s:=by exact rfl)(hv:ev N e (.tmp s)=.bool b:=by exact zvx)(hb:b= !q:=by first|with_reducible assumption|(show _=true;exact zb)|(show _=false;exact zb)):wpListIn (Fw r) n P l.toArray Q (⟨some d,op,ty,pos,af,some (j,q)⟩::rest) (act N e ds) w:=l_not hj (by rw[hv,hb]) hk
theorem q_pickt {c a b:Operand}{t:Bool}(hk:wpListIn (Fw r) n P ops Q rest (act N (upd e d v) ds) w)(hc:ev N e c=.bool t:=by exact zvx)(ht:t=true:=by exact zb)(hv:ev N e a=v:=by exact zvv):
    wpListIn (Fw r) n P ops Q (⟨some d,.pick c a b,ty,pos,af,none⟩::rest) (act N e ds) w:=l_op (k_pick (t:=true) (by rw[hc,ht]) (by simpa using hv) hk)
theorem q_pickf {c a b:Operand}{t:Bool}(hk:wpListIn (Fw r) n P ops Q rest (act N (upd e d v) ds) w)(hc:ev N e c=.bool t:=by exact zvx)(ht:t=false:=by exact zb)(hv:ev N e b=v:=by exact zvv):
    wpListIn (Fw r) n P ops Q (⟨some d,.pick c a b,ty,pos,af,none⟩::rest) (act N e ds) w:=l_op (k_pick (t:=false) (by rw[hc,ht]) (by simpa using hv) hk)
theorem q_loadc {t:TypeId}{A:Option Addr}{b o o':Nat}(hk:wpListIn (Fw r) n P ops Q rest (act N (upd e d v) ds) w)(hx:ev N e x=.pointer (some ⟨b,o,none⟩):=by exact zvx)(hc:A=some ⟨b,o',none⟩∧w.cell? ⟨b,o,none⟩=some v:=by with_reducible assumption)(hu:isRow1 P t=some false:=by decide +kernel):wpListIn (Fw r) n P ops Q (⟨some d,.load t x,ty,pos,af,none⟩::rest) (act N e ds) w:=by
  obtain⟨D,h1,h2⟩:=isRow1_some hu
  exact l_op (k_load h1 h2 hx hc.2 hk)
theorem q_loadc2 {t:TypeId}{A:Option Addr}{b o o':Nat}{v1 v2:Value}(hk:wpListIn (Fw r) n P ops Q rest (act N (upd e d (.agg #[v1,v2])) ds) w)(hx:ev N e x=.pointer (some ⟨b,o,none⟩):=by exact zvx)(hc:A=some ⟨b,o',none⟩∧∀j u,[v1,v2][j]?=some u->w.cell? ⟨b,o+j,none⟩=some u:=by with_reducible assumption)(hu:isRow1 P t=some true:=by decide +kernel)(hi:(P.info? t).map (·.size)=some 2:=by decide +kernel):
    wpListIn (Fw r) n P ops Q (⟨some d,.load t x,ty,pos,af,none⟩::rest) (act N e ds) w:=by
  obtain⟨D,h1,h2⟩:=isRow1_some hu
  exact l_op (k_loadA (cs:=[v1,v2]) h1 h2 hi hx hc.2 hk)
variable {k:IntKind}{i j:Int}{b b':Bool}{t:TypeId}
theorem lss {u:TypeId}(hk:wpListIn (Fw r) n P ops Q rest (act N (upd e d (.bool (decide (i<j)))) ds) w)(hx:ev N e x=.int k i:=by exact zvx)(hy:ev N e y=.int k j:=by exact zvx):wpListIn (Fw r) n P ops Q (⟨some d,.binOp .lss t x y u,ty,pos,af,none⟩::rest) (act N e ds) w:=l_op (k_lss hx hy rfl hk)
theorem leq {u:TypeId}(hk:wpListIn (Fw r) n P ops Q rest (act N (upd e d (.bool (decide (i<=j)))) ds) w)(hx:ev N e x=.int k i:=by exact zvx)(hy:ev N e y=.int k j:=by exact zvx):wpListIn (Fw r) n P ops Q (⟨some d,.binOp .leq t x y u,ty,pos,af,none⟩::rest) (act N e ds) w:=l_op (k_leq hx hy rfl hk)
theorem gtr {u:TypeId}(hk:wpListIn (Fw r) n P ops Q rest (act N (upd e d (.bool (decide (j<i)))) ds) w)(hx:ev N e x=.int k i:=by exact zvx)(hy:ev N e y=.int k j:=by exact zvx):wpListIn (Fw r) n P ops Q (⟨some d,.binOp .gtr t x y u,ty,pos,af,none⟩::rest) (act N e ds) w:=l_op (k_gtr hx hy rfl hk)
theorem geq {u:TypeId}(hk:wpListIn (Fw r) n P ops Q rest (act N (upd e d (.bool (decide (j<=i)))) ds) w)(hx:ev N e x=.int k i:=by exact zvx)(hy:ev N e y=.int k j:=by exact zvx):wpListIn (Fw r) n P ops Q (⟨some d,.binOp .geq t x y u,ty,pos,af,none⟩::rest) (act N e ds) w:=l_op (k_geq hx hy rfl hk)
theorem eql {u:TypeId}(hk:wpListIn (Fw r) n P ops Q rest (act N (upd e d (.bool (decide (i=j)))) ds) w)(hx:ev N e x=.int k i:=by exact zvx)(hy:ev N e y=.int k j:=by exact zvx):wpListIn (Fw r) n P ops Q (⟨some d,.binOp .eql t x y u,ty,pos,af,none⟩::rest) (act N e ds) w:=l_op (k_eql hx hy rfl hk)
theorem neq {u:TypeId}(hk:wpListIn (Fw r) n P ops Q rest (act N (upd e d (.bool (!decide (i=j)))) ds) w)(hx:ev N e x=.int k i:=by exact zvx)(hy:ev N e y=.int k j:=by exact zvx):wpListIn (Fw r) n P ops Q (⟨some d,.binOp .neq t x y u,ty,pos,af,none⟩::rest) (act N e ds) w:=l_op (k_neq hx hy rfl hk)
theorem nt (hk:wpListIn (Fw r) n P ops Q rest (act N (upd e d (.bool (!b))) ds) w)(hx:ev N e x=.bool b:=by exact zvx):wpListIn (Fw r) n P ops Q (⟨some d,.unOp .not t x,ty,pos,af,none⟩::rest) (act N e ds) w:=l_op (k_not hx rfl hk)
theorem eqs {u:TypeId}{a b:List UInt8}(hk:wpListIn (Fw r) n P ops Q rest (act N (upd e d (.bool (decide (a=b)))) ds) w)(hx:ev N e x=S a:=by exact zvx)(hy:ev N e y=S b:=by exact zvx):wpListIn (Fw r) n P ops Q (⟨some d,.binOp .eql t x y u,ty,pos,af,none⟩::rest) (act N e ds) w:=l_op (k_eqlS hx hy rfl hk)
theorem nes {u:TypeId}{a b:List UInt8}(hk:wpListIn (Fw r) n P ops Q rest (act N (upd e d (.bool (!decide (a=b)))) ds) w)(hx:ev N e x=S a:=by exact zvx)(hy:ev N e y=S b:=by exact zvx):wpListIn (Fw r) n P ops Q (⟨some d,.binOp .neq t x y u,ty,pos,af,none⟩::rest) (act N e ds) w:=l_op (k_neqS hx hy rfl hk)
theorem adi {u:TypeId}(hk:wpListIn (Fw r) n P ops Q rest (act N (upd e d (.int .i64 (i+j))) ds) w)(hx:ev N e x=.int .i64 i:=by exact zvx)(hy:ev N e y=.int .i64 j:=by exact zvx)(hr:In64 (i+j):=by unfold In64;omega):wpListIn (Fw r) n P ops Q (⟨some d,.binOp .add t x y u,ty,pos,af,none⟩::rest) (act N e ds) w:=l_op (k_add hx hy hr rfl hk)
theorem sui {u:TypeId}(hk:wpListIn (Fw r) n P ops Q rest (act N (upd e d (.int .i64 (i-j))) ds) w)(hx:ev N e x=.int .i64 i:=by exact zvx)(hy:ev N e y=.int .i64 j:=by exact zvx)(hr:In64 (i-j):=by unfold In64;omega):wpListIn (Fw r) n P ops Q (⟨some d,.binOp .sub t x y u,ty,pos,af,none⟩::rest) (act N e ds) w:=l_op (k_sub hx hy hr rfl hk)
theorem cl {R:Value->World->Prop}{f:FuncId}{xs:Array Operand}{ats:Array TypeId}{vs:List Value}(hf:Enters P f)(hc:Calls P f vs.toArray w (Ret w R))(hk:∀v w',Ext w w'->R v w'->wpListIn (Fw r) n P ops Q rest (act N (upd e d v) ds) w')(hv:xs.toList.map (ev N e)=vs:=by exact rfl):
    wpListIn (Fw r) n P ops Q (⟨some d,.call ⟨.value (.func f),xs,ats⟩,ty,pos,af,none⟩::rest) (act N e ds) w:=l_op (k_call hf hv hc hk)
theorem clb {R:Value->World->Prop}{f:FuncId}{xs:Array Operand}{ats:Array TypeId}{vs:List Value}(hf:Enters P f)(hv:xs.toList.map (ev N e)=vs:=by exact rfl)(hc:Calls P f vs.toArray w (Ret w R))(hk:∀v w',Ext w w'->R v w'->wpListIn (Fw r) n P ops Q rest (act N (upd e d v) ds) w'):
    wpListIn (Fw r) n P ops Q (⟨some d,.call ⟨.value (.func f),xs,ats⟩,ty,pos,af,none⟩::rest) (act N e ds) w:=l_op (k_call hf hv hc hk)
def ov (f:Nat->Bool)(e e0:Nat->Value):Nat->Value:=λt=>match f t with|true=>e t|false=>e0 t
theorem zpv {f:Nat->Bool}{e e0:Nat->Value}{t:Nat}{v:Value}(h:ov f e e0 t=v)(hf:f t=true:=by exact rfl):e t=v:=by unfold ov at h;rw[hf]at h;exact h
theorem ovE {f:Nat->Bool}{e e0:Nat->Value}(h:∀t,f t=false->e t=e0 t):∃e',e=ov f e' e0:=⟨e,funext λt=>by unfold ov;split <;>rename_i hh;rfl;exact h t hh⟩
end
structure Hd (p:Prop):Prop where
  out:p
theorem go {G G':Prop}(h:G')(k:Hd G'->G:=by
  intro h
  repeat first
    | with_reducible first
      |refine n_then ?_
      |refine l_nil ?_
      |refine c_seq ?_
      |refine c_reg ?_
      |refine c_block ?_
      |refine c_skip ?_
      |refine c_exit ?_
      |refine c_ret ?_
      |refine n_in ?_
      |refine n_scope ?_
      |refine x_then ?_
      |refine x_in ?_
      |refine r_then ?_
      |refine r_in ?_
      |refine r_scope ?_
      |refine p_then ?_
      |refine p_in ?_
      |refine p_scope ?_
      |refine wpIn_scope ?_
      |refine wpIn_label ?_
    |refine q_move ?_
    |refine q_assign ?_
    |refine q_want ?_
    |refine q_unw ?_
    |refine q_pickt ?_
    |refine q_pickf ?_
    |refine q_load ?_
    |refine q_load2 ?_
    |refine q_loadc ?_
    |refine q_loadc2 ?_
    |refine q_len ?_
    |refine q_ex20 ?_
    |refine q_ex21 ?_
    |refine q_ex30 ?_
    |refine q_ex31 ?_
    |refine q_ex32 ?_
    |refine q_ex40 ?_
    |refine q_ex41 ?_
    |refine q_ex42 ?_
    |refine q_ex43 ?_
    |refine q_nil ?_
    |refine l_nil ?_
    |refine x_by rfl ?_
    |refine c_tr ?_
    |refine c_fa ?_
  exact h.out):G:=k ⟨h⟩
inductive Ph where
  |pv (v:Value)
  |ph (p:Value->World->Prop)
def Ph.ok:Ph->Value->World->Prop
  | .pv v,x,_=>x=v
  | .ph p,x,w=>p x w
def Ph.val:Ph->Value->Value
  | .pv v,_=>v
  | .ph _,x=>x
def phv:List Ph->Nat->Value->Value
  |[],_,x=>x
  |φ::_,0,x=>φ.val x
  |_::φs,j+1,x=>phv φs j x
def pho:List Ph->Nat->Value->World->Prop
  |[],_,_,_=>True
  |φ::_,0,x,w=>φ.ok x w
  |_::φs,j+1,x,w=>pho φs j x w
def dIx:List Oper->Nat->Nat->Option Nat
  |[],_,_=>none
  | o ::os,t,j=>match o.dst with
    | some d=>match Nat.beq d t with
      |true=>some j
      |false=>dIx os t (j+1)
    |none=>dIx os t (j+1)
def fr (l:List Oper)(M:Nat)(Φ:List Ph)(sel:Nat->Bool)(e e0:Nat->Value):Nat->Value:=λt=>
  match dIx (l.take M) t 0 with
  |none=>e0 t
  | some j=>match sel j with
    |true=>phv Φ j (e t)
    |false=>e t
def StabP (R:World->World->Prop)(φ:Ph):Prop:=∀v w w',R w w'->φ.ok v w->φ.ok v w'
theorem phv_of {w:World}:∀(Φ:List Ph) (j:Nat) (x:Value),pho Φ j x w->phv Φ j x=x
  |[],_,_,_=>rfl
  | .pv v::_,0,_,h=>Eq.symm h
  | .ph _::_,0,_,_=>rfl
  |_::Φ,j+1,x,h=>phv_of Φ j x h
theorem dIx_some:∀(os:List Oper) (t j k:Nat),dIx os t j=some k->∃i,k=j+i∧(os[i]?).bind (·.dst)=some t
  |[],_,_,_,h=>by simp[dIx]at h
  | o ::os,t,j,k,h=>by
    unfold dIx at h
    split at h
    · rename_i d hd
      split at h
      · rename_i hb
        cases h
        exact⟨0,rfl,by simp[hd,Nat.eq_of_beq_eq_true hb]⟩
      · obtain⟨i,h1,h2⟩:=dIx_some os t (j+1) k h
        exact⟨i+1,by omega,by simpa using h2⟩
    · obtain⟨i,h1,h2⟩:=dIx_some os t (j+1) k h
      exact⟨i+1,by omega,by simpa using h2⟩
theorem dIx_none:∀(os:List Oper) (t j:Nat),dIx os t j=none->(os.any λo=>match o.dst with|some d=>Nat.beq d t|none=>false)=false
  |[],_,_,_=>rfl
  | o ::os,t,j,h=>by
    unfold dIx at h
    rw[List.any_cons]
    split at h
    · rename_i d hd
      split at h
      · cases h
      · rename_i hb
        rw[dIx_none os t (j+1) h,hb];rfl
    · rename_i hd
      rw[dIx_none os t (j+1) h];rfl
theorem fr_eq {l:List Oper}{M:Nat}{Φ:List Ph}{sel:Nat->Bool}{e e0:Nat->Value}{w:World}(hs:∀t,isDst l M t=false->e t=e0 t)(hp:∀j d,Nat.blt j M=true->sel j=true->dstOf l j=some d->pho Φ j (e d) w):e=fr l M Φ sel e e0:=by
  funext t
  unfold fr
  split
  · rename_i h
    exact hs t (dIx_none _ _ _ h)
  · rename_i j h
    obtain⟨i,_,hd⟩:=dIx_some _ _ _ _ h
    have hji:j=i:=by omega
    subst hji
    split
    · rename_i hq
      have hj:j<M:=by
        rcases Nat.lt_or_ge j M with h1|h1
        · exact h1
        · rw[List.getElem?_eq_none (by simp;omega)]at hd;cases hd
      rw[List.getElem?_take,if_pos hj]at hd
      exact(phv_of Φ j _ (hp j t (by rwa [Nat.blt_eq]) hq hd)).symm
    · rfl
section draws
variable {P:Program}{r:Option Nat}{n N:Nat}{e0:Nat->Value}{ds:List Deferred}{w0:World}{Q:Exit->Act->World->Prop}{l:List Oper}{M:Nat}{Φ:List Ph}{R:World->World->Prop}{J:(Nat->Bool)->(Nat->Value)->World->Prop}
def PostF (Q:Exit->Act->World->Prop)(N:Nat)(ds:List Deferred)(R:World->World->Prop)(J:(Nat->Bool)->(Nat->Value)->World->Prop)(w:World)(ls:Nat->Bool)(i:Nat)(φ:Ph)(o:Oper)(e f:Nat->Value):Exit->Act->World->Prop:=λx a' w'=>
  (x=.normal∧∃v,a'=(act N f ds).put o.dst v∧R w w'∧φ.ok v w'∧J (setB ls i) (updO e o.dst v) w')∨(∃c,x=.panic c∧Q (.panic c) a' w')
def StF (Q:Exit->Act->World->Prop)(r:Option Nat)(n:Nat)(P:Program)(N:Nat)(ds:List Deferred)(l:List Oper)(M:Nat)(Φ:List Ph)(R:World->World->Prop)(J:(Nat->Bool)->(Nat->Value)->World->Prop)(e0:Nat->Value)(w0:World):Nat->List Oper->List Ph->Prop
  |_,[],_=>True
  |_,_::_,[]=>False
  |i,o::os,φ::φs=>(StabP R φ∧∀(e:Nat->Value) (w:World) (ls:Nat->Bool),R w0 w->J ls e w->(∀j k,predAt l j k=true->ls j=true->ls k=true)->ls i=false->(∀k,predAt l i k=true->ls k=true)->(∀j d,predB o j=true->dstOf l j=some d->pho Φ j (e d) w)->
      wpListIn (Fw r) n P l.toArray (PostF Q N ds R J w ls i φ o e (fr l M Φ (predB o) e e0)) [o] (act N (fr l M Φ (predB o) e e0) ds) w)∧StF Q r n P N ds l M Φ R J e0 w0 (i+1) os φs
theorem stF_get:∀(os:List Oper) (φs:List Ph) (i0:Nat),StF Q r n P N ds l M Φ R J e0 w0 i0 os φs->∀i o,os[i]?=some o->∃φ,φs[i]?=some φ∧StabP R φ∧
    ∀ (e:Nat->Value) (w:World) (ls:Nat->Bool),R w0 w->J ls e w->(∀j k,predAt l j k=true->ls j=true->ls k=true)->ls (i0+i)=false->(∀k,predAt l (i0+i) k=true->ls k=true)->(∀j d,predB o j=true->dstOf l j=some d->pho Φ j (e d) w)->
      wpListIn (Fw r) n P l.toArray (PostF Q N ds R J w ls (i0+i) φ o e (fr l M Φ (predB o) e e0)) [o] (act N (fr l M Φ (predB o) e e0) ds) w
  |[],_,_,_,i,o,ho=>by simp at ho
  |_::_,[],_,h,_,_,_=>h.elim
  |o'::os,φ::φs,i0,h,0,o,ho=>by simp at ho;subst ho;exact⟨φ,rfl,h.1⟩
  | o'::os,φ::φs,i0,h,i+1,o,ho=>by
    obtain⟨ψ,h1,h2⟩:=stF_get os φs (i0+1) h.2 i o (by simpa using ho)
    rw[show i0+1+i=i0+(i+1)by omega]at h2
    exact⟨ψ,by simpa using h1,h2⟩
theorem steps_intro {J:(Nat->Bool)->(Nat->Value)->World->Prop}:∀(os:List Oper) (i0:Nat),
    (∀i o,os[i]?=some o->∀(e:Nat->Value) (w:World) (ls:Nat->Bool),J ls e w->(∀j k,predAt l j k=true->ls j=true->ls k=true)->ls (i0+i)=false->(∀k,predAt l (i0+i) k=true->ls k=true)->
      wpListIn (Fw r) n P l.toArray (λx a' w'=>(x=.normal∧∃v,a'=(act N e ds).put o.dst v∧J (setB ls (i0+i)) (updO e o.dst v) w')∨(∃c,x=.panic c∧Q (.panic c) a' w')) [o] (act N e ds) w)->StepsP Q r n P N ds l J i0 os
  |[],_,_=>trivial
  |o::os,i0,h=>⟨h 0 o rfl,steps_intro os (i0+1) λi o ho=>by rw[show i0+1+i=i0+(i+1)by omega];exact h (i+1) o (by simpa using ho)⟩
theorem pho_get:∀(Φ:List Ph) (i:Nat) (φ:Ph) (v:Value) (w:World),Φ[i]?=some φ->(pho Φ i v w↔φ.ok v w)
  |[],_,_,_,_,h=>by simp at h
  |ψ::_,0,φ,v,w,h=>by simp at h;subst h;exact Iff.rfl
  |_::Φ,i+1,φ,v,w,h=>pho_get Φ i φ v w (by simpa using h)
theorem list_mono {o:Oper}{a:Act}{w:World}{A B:Exit->Act->World->Prop}(h:wpListIn (Fw r) n P l.toArray A [o] a w)(hk:∀x a w,A x a w->B x a w):wpListIn (Fw r) n P l.toArray B [o] a w:=by
  unfold wpListIn at h ⊢
  split
  · rename_i hw
    rw[if_pos hw]at h
    exact oper_mono2 (λa w h=>hk _ _ _ h) (λc a w h=>hk _ _ _ h) (λa w h=>hk _ _ _ h) h
  · rename_i hw
    rw[if_neg hw]at h
    exact⟨h.1,hk _ _ _ h.2⟩
theorem c_drw {id :Nat}(hm:P.follows .mixedOrders=true)(hR0:R w0 w0.drew)(hRt:∀a b c,R a b->R b c->R a c)(hJ0:J (λ_=>false) e0 w0.drew)(hwf:wfB l=true)(hshape:shapeB l M=true)(hdst:dstB l M=true)(hstep:StF Q r n P N ds l M Φ R J e0 w0 0 (l.take M) Φ)(hfin:∀(e:Nat->Value) (w:World) (ls:Nat->Bool),R w0 w->J ls e w->(∀j,Nat.blt j M=true->ls j=true)->(∀j d,Nat.blt j M=true->dstOf l j=some d->pho Φ j (e d) w)->
      wpListIn (Fw r) n P l.toArray Q (l.drop M) (act N (fr l M Φ (λj=>Nat.blt j M) e e0) ds) w):
    (Code.region id l.toArray true).wpIn (Fw r) n P Q (act N e0 ds) w0:=by
  have hisd:∀i o d,i<M->l[i]?=some o->o.dst=some d->isDst l M d=true:=by
    intro i o d hi ho hd
    refine List.any_eq_true.2 ⟨o,List.mem_iff_getElem?.2 ⟨i,by rw[List.getElem?_take,if_pos hi];exact ho⟩,?_⟩
    rw[hd];exact Nat.beq_refl d
  refine c_stP hm M (λls e w=>R w0 w∧(∀t,isDst l M t=false->e t=e0 t)∧(∀j d,Nat.blt j M=true->ls j=true->dstOf l j=some d->pho Φ j (e d) w)∧J ls e w) ⟨hR0,λ_ _=>rfl,λj d _ h _=>(by cases h),hJ0⟩ hwf hshape (steps_intro (l.take M) 0 ?_) ?_
  · rintro i o ho e w ls ⟨hR,hs,hφ,hJ⟩ hcl hni hpr
    simp only[Nat.zero_add]at hni hpr ⊢
    have hi:i<M:=by
      rcases Nat.lt_or_ge i M with h1|h1
      · exact h1
      · rw[List.getElem?_eq_none (by simp;omega)]at ho;cases ho
    have ho2:l[i]?=some o:=by rw[List.getElem?_take,if_pos hi]at ho;exact ho
    obtain⟨φ,hφi,_,h⟩:=stF_get (l.take M) Φ 0 hstep i o ho
    simp only[Nat.zero_add]at h
    have hpb:∀j,predB o j=true->predAt l i j=true:=λj hj=>by unfold predAt;rw[ho2];exact hj
    have hltp:∀j,predB o j=true->j<M:=by
      intro j hj
      obtain⟨ed,he,hb⟩:=List.any_eq_true.1 hj
      simp only[Bool.and_eq_true]at hb
      have hjj:=Nat.eq_of_beq_eq_true hb.2
      have h1:=List.all_eq_true.1 hwf i (List.mem_range.2 (List.getElem?_eq_some_iff.1 ho2).1)
      rw[ho2]at h1
      have h2:=List.all_eq_true.1 h1 ed (by simpa using he)
      simp only[hb.1,Bool.not_true,Bool.false_or]at h2
      rw[Nat.blt_eq]at h2
      omega
    have hpp:∀j d,predB o j=true->dstOf l j=some d->pho Φ j (e d) w:=λj d hj hd=>hφ j d (by rw[Nat.blt_eq];exact hltp j hj) (hpr j (hpb j hj)) hd
    have hfe:e=fr l M Φ (predB o) e e0:=fr_eq (w:=w) hs (λj d _ hj hd=>hpp j d hj hd)
    have h1:=h e w ls hR hJ hcl hni hpr hpp
    rw[<-hfe]at h1
    refine list_mono h1 ?_
    rintro x a' w' (⟨hx,v,ha,hR',hv,hJ'⟩|⟨c,hx,hq⟩)
    · refine .inl ⟨hx,v,ha,hRt _ _ _ hR hR',λt ht=>?_,λj d hjM hj hd=>?_,hJ'⟩
      · cases hd:o.dst with
        |none=>exact hs t ht
        | some d=>
          have:t≠d:=λe=>by subst e;rw[hisd i o t hi ho2 hd]at ht;cases ht
          show upd e d v t=e0 t
          rw[upd_ne _ _ this];exact hs t ht
      · rw [Nat.blt_eq]at hjM
        by_cases hij:j=i
        · subst hij
          have hd2:o.dst=some d:=by unfold dstOf at hd;rw[ho2]at hd;exact hd
          rw[hd2];show pho Φ j (upd e d v d) w';rw[upd_eq];exact(pho_get Φ j φ v w' hφi).2 hv
        · have hl2:ls j=true:=by
            have hb:Nat.beq j i=false:=by
              cases hb:Nat.beq j i with
              |false=>rfl
              |true=>exact absurd (Nat.eq_of_beq_eq_true hb) hij
            unfold setB at hj;rw[hb]at hj;exact hj
          have hold:pho Φ j (e d) w':=by
            have h0:=hφ j d (by rw[Nat.blt_eq];exact hjM) hl2 hd
            cases hj? :(l.take M)[j]? with
            |none=>exact absurd (List.getElem?_eq_none_iff.1 hj?) (by
                have:j<l.length:=by
                  unfold dstOf at hd
                  rcases Nat.lt_or_ge j l.length with h1|h1
                  · exact h1
                  · rw[List.getElem?_eq_none h1]at hd;cases hd
                simp;omega)
            | some oj=>
              obtain⟨ψ,hψ,hstj,_⟩:=stF_get (l.take M) Φ 0 hstep j oj hj?
              exact(pho_get Φ j ψ _ w' hψ).2 (hstj _ _ _ hR' ((pho_get Φ j ψ _ w hψ).1 h0))
          cases hdo:o.dst with
          |none=>exact hold
          | some d0=>
            have hne:d≠d0:=λe=>by
              subst e
              have h1:=List.all_eq_true.1 (List.all_eq_true.1 hdst i (List.mem_range.2 hi)) j (List.mem_range.2 hjM)
              have hdi:dstOf l i=some d:=by unfold dstOf;rw[ho2];exact hdo
              simp only[hdi,hd,Bool.or_eq_true]at h1
              rcases h1 with h1|h1
              · exact hij (Nat.eq_of_beq_eq_true h1).symm
              · simp at h1
            show pho Φ j (upd e d0 v d) w'
            rw[upd_ne _ _ hne];exact hold
    · exact .inr ⟨c,hx,hq⟩
  · rintro e w ls hall ⟨hR,hs,hφ,hJ⟩
    have hp:∀j d,Nat.blt j M=true->dstOf l j=some d->pho Φ j (e d) w:=λj d hj hd=>hφ j d hj (hall j hj) hd
    have hfe:e=fr l M Φ (λj=>Nat.blt j M) e e0:=fr_eq (w:=w) hs (λj d hj _ hd=>hp j d hj hd)
    have:=hfin e w ls hR hJ hall hp
    rw[<-hfe]at this
    exact this
end draws
end Go.Eng
namespace Go.Proofs.YtinldhphnpflaaaGreatDoor
open Go Go.Eng Go.RowKit
section jumps
def jmp (l:Nat)(J:Act->World->Prop)(Q:Exit->Act->World->Prop):Exit->Act->World->Prop
  | .goto l',a,w=>l'=l∧J a w
  |e,a,w=>Q e a w
def JL (F:Fence)(n:Nat)(P:Program)(l:Nat)(rest:Code)(Q:Exit->Act->World->Prop):Nat->Act->World->Prop
  |0,_,_=>False
  |k+1,a,w=>rest.wpIn F n P (jmp l (JL F n P l rest Q k) Q) a w
def JA (F:Fence)(n:Nat)(P:Program)(l:Nat)(rest:Code)(Q:Exit->Act->World->Prop):Act->World->Prop:=λa w=>∃k,JL F n P l rest Q k a w
variable {F:Fence}{n:Nat}{P:Program}{l:Nat}{rest c:Code}{Q:Exit->Act->World->Prop}{a:Act}{w:World}{J J':Act->World->Prop}
theorem jmp_mono (h:∀a w,J a w->J' a w):∀e a w,jmp l J Q e a w->jmp l J' Q e a w:=λe a w hq=>by
  cases e <;>first|exact hq|exact⟨hq.1,h _ _ hq.2⟩
theorem c_scopeL (hf:findLabel c l=some rest)(h:c.wpIn F n P (jmp l (JA F n P l rest Q) Q) a w):(Code.scope c).wpIn F n P Q a w:=by
  intro b k cs hro hb hr
  have h0:(lone (b.atR a (.code (.scope c)::k)) cs w).fenced P F:=fenced_calm hb hr rfl
  have hg:gotoIn l (.inScope c::k)=some (.code rest:: .inScope c::k):=by simp[gotoIn,hf]
  have key:∀m a w,JL F n P l rest Q m a w->∃e a' w',Q e a' w'∧ArrivesIn (Machine.fenced P F) P (lone (b.atR a (.code rest:: .inScope c::k)) cs w) b k cs e a' w':=by
    intro m
    induction m with
    |zero=>intro a w h;exact h.elim
    | succ m ih=>
      intro a w hJ
      obtain⟨e,a₁,w₁,hq,harr⟩:=(show rest.wpIn F n P (jmp l (JL F n P l rest Q m) Q) a w from hJ) b (.inScope c::k) cs hro hb hr
      cases e with
      |normal=>exact⟨.normal,a₁,w₁,hq,StepsIn.trans harr (.one (fenced_calm hb hr rfl) stepR_inScope)⟩
      | exit id=>
        exact⟨.exit id,a₁,w₁,hq,λk' hk=>harr.1 k' (by simp[exitTo,hk]),λhr' hk=>let ⟨k₁,h1,h2⟩:=harr.2 hr' (by simp[exitTo,hk]);⟨k₁,h1,h2⟩⟩
      | goto l'=>
        obtain⟨rfl,hJ'⟩:=hq
        obtain⟨e₂,a₂,w₂,hq₂,harr₂⟩:=ih a₁ w₁ hJ'
        exact⟨e₂,a₂,w₂,hq₂,.of_steps (harr.1 _ hg) harr₂⟩
      |ret=>exact⟨_,a₁,w₁,hq,harr⟩
      |panic ch=>exact⟨_,a₁,w₁,hq,harr⟩
      |outgrown=>exact⟨_,a₁,w₁,hq,harr⟩
  obtain⟨e,a₁,w₁,hq,harr⟩:=h b (.inScope c::k) cs hro hb hr
  cases e with
  |normal=>exact⟨.normal,a₁,w₁,hq,.head h0 stepR_scope (StepsIn.trans harr (.one (fenced_calm hb hr rfl) stepR_inScope))⟩
  | exit id=>
    exact⟨.exit id,a₁,w₁,hq,λk' hk=>.head h0 stepR_scope (harr.1 k' (by simp[exitTo,hk])),
      λhr' hk=>let ⟨k₁,h1,h2⟩:=harr.2 hr' (by simp[exitTo,hk]);⟨k₁,h1,.head h0 stepR_scope h2⟩⟩
  | goto l'=>
    obtain⟨rfl,m,hJ'⟩:=hq
    obtain⟨e₂,a₂,w₂,hq₂,harr₂⟩:=key m a₁ w₁ hJ'
    exact⟨e₂,a₂,w₂,hq₂,.of_steps (.head h0 stepR_scope (harr.1 _ hg)) harr₂⟩
  |ret=>exact⟨_,a₁,w₁,hq,.of_steps (.one h0 stepR_scope) harr⟩
  |panic ch=>exact⟨_,a₁,w₁,hq,.of_steps (.one h0 stepR_scope) harr⟩
  |outgrown=>exact⟨_,a₁,w₁,hq,.of_steps (.one h0 stepR_scope) harr⟩
theorem n_jmp (h:Q .normal a w):jmp l J Q .normal a w:=h
theorem r_jmp (h:Q .ret a w):jmp l J Q .ret a w:=h
theorem p_jmp {ch:_}(h:Q (.panic ch) a w):jmp l J Q (.panic ch) a w:=h
theorem g_jmp (h:J a w):jmp l J Q (.goto l) a w:=⟨rfl,h⟩
theorem g_then {K:Act->World->Prop}(h:Q (.goto l) a w):Exit.then K Q (.goto l) a w:=h
theorem g_in {id:Nat}(h:Q (.goto l) a w):Exit.inBlock id Q (.goto l) a w:=h
theorem c_goto (h:Q (.goto l) a w):(Code.goto l).wpIn F n P Q a w:=wpIn_goto h
end jumps
theorem asuEngH {p:Prop}(h:p:=by assumption):p:=h
theorem om {p:Prop}(h:p:=by omega):p:=h
theorem dc {p:Prop}(h:p:=by decide):p:=h
theorem xt {a b c:World}(h:Ext a b)(k:Ext b c):Ext a c:=Ext.trans h k
theorem be {w w':World}{b:Nat}{t:TypeId}{cs:Array Value}(k:Ext w w')(h:Blk w b t cs):Blk w' b t cs:=Blk.ext k h
theorem pb {w w':World}{b c:Nat}{t:TypeId}{cs:Array Value}(k:Put w w' b)(h:Blk w c t cs)(hne:c≠b:=by omega):Blk w' c t cs:=Put.blk k hne h
theorem plw {w0 w w':World}{B b:Nat}(k:Put w w' b)(h:Below B w0 w)(hb:B<=b:=by omega):Below B w0 w':=Put.low k h hb
theorem bz {w w':World}{n:Nat}(h:Below n w w'):w.heap.size<=w'.heap.size:=Below.size h
theorem psz {w w':World}{b:Nat}(k:Put w w' b):w'.heap.size=w.heap.size:=Put.size k
theorem bt {w:World}{b:Nat}{t:TypeId}{cs:Array Value}(h:Blk w b t cs):b<w.heap.size:=Blk.lt h
section
variable {a w w':World}{B p:Nat}{b1 b2 b3 b4 b5:Nat}{t1 t2 t3 t4 t5:TypeId}{c1 c2 c3 c4 c5:Array Value}
theorem be1 (k:Ext w w')(h1:Blk w b1 t1 c1)(E:Ext a w):Blk w' b1 t1 c1∧Ext a w':=⟨be k h1,xt E k⟩
theorem pl1 (k:Put w w' p)(h1:Blk w b1 t1 c1)(E:Below B a w)(n1:b1≠p:=by omega)(hb:B<=p:=by omega):Blk w' b1 t1 c1∧Below B a w'∧w'.heap.size=w.heap.size:=⟨Put.blk k n1 h1,Put.low k E hb,Put.size k⟩
theorem be2 (k:Ext w w')(h1:Blk w b1 t1 c1)(h2:Blk w b2 t2 c2)(E:Ext a w):Blk w' b1 t1 c1∧Blk w' b2 t2 c2∧Ext a w':=⟨be k h1,be k h2,xt E k⟩
theorem bf2 (k:Ext w w')(h1:Blk w b1 t1 c1)(h2:Blk w b2 t2 c2):Blk w' b1 t1 c1∧Blk w' b2 t2 c2:=⟨be k h1,be k h2⟩
theorem pl2 (k:Put w w' p)(h1:Blk w b1 t1 c1)(h2:Blk w b2 t2 c2)(E:Below B a w)(n1:b1≠p:=by omega)(n2:b2≠p:=by omega)(hb:B<=p:=by omega):Blk w' b1 t1 c1∧Blk w' b2 t2 c2∧Below B a w'∧w'.heap.size=w.heap.size:=⟨Put.blk k n1 h1,Put.blk k n2 h2,Put.low k E hb,Put.size k⟩
theorem pf2 (k:Put w w' p)(h1:Blk w b1 t1 c1)(h2:Blk w b2 t2 c2)(n1:b1≠p:=by omega)(n2:b2≠p:=by omega):Blk w' b1 t1 c1∧Blk w' b2 t2 c2:=⟨Put.blk k n1 h1,Put.blk k n2 h2⟩
theorem be3 (k:Ext w w')(h1:Blk w b1 t1 c1)(h2:Blk w b2 t2 c2)(h3:Blk w b3 t3 c3)(E:Ext a w):Blk w' b1 t1 c1∧Blk w' b2 t2 c2∧Blk w' b3 t3 c3∧Ext a w':=⟨be k h1,be k h2,be k h3,xt E k⟩
theorem bf3 (k:Ext w w')(h1:Blk w b1 t1 c1)(h2:Blk w b2 t2 c2)(h3:Blk w b3 t3 c3):Blk w' b1 t1 c1∧Blk w' b2 t2 c2∧Blk w' b3 t3 c3:=⟨be k h1,be k h2,be k h3⟩
theorem pl3 (k:Put w w' p)(h1:Blk w b1 t1 c1)(h2:Blk w b2 t2 c2)(h3:Blk w b3 t3 c3)(E:Below B a w)(n1:b1≠p:=by omega)(n2:b2≠p:=by omega)(n3:b3≠p:=by omega)(hb:B<=p:=by omega):Blk w' b1 t1 c1∧Blk w' b2 t2 c2∧Blk w' b3 t3 c3∧Below B a w'∧w'.heap.size=w.heap.size:=⟨Put.blk k n1 h1,Put.blk k n2 h2,Put.blk k n3 h3,Put.low k E hb,Put.size k⟩
theorem pf3 (k:Put w w' p)(h1:Blk w b1 t1 c1)(h2:Blk w b2 t2 c2)(h3:Blk w b3 t3 c3)(n1:b1≠p:=by omega)(n2:b2≠p:=by omega)(n3:b3≠p:=by omega):Blk w' b1 t1 c1∧Blk w' b2 t2 c2∧Blk w' b3 t3 c3:=⟨Put.blk k n1 h1,Put.blk k n2 h2,Put.blk k n3 h3⟩
theorem be4 (k:Ext w w')(h1:Blk w b1 t1 c1)(h2:Blk w b2 t2 c2)(h3:Blk w b3 t3 c3)(h4:Blk w b4 t4 c4)(E:Ext a w):Blk w' b1 t1 c1∧Blk w' b2 t2 c2∧Blk w' b3 t3 c3∧Blk w' b4 t4 c4∧Ext a w':=⟨be k h1,be k h2,be k h3,be k h4,xt E k⟩
theorem bf4 (k:Ext w w')(h1:Blk w b1 t1 c1)(h2:Blk w b2 t2 c2)(h3:Blk w b3 t3 c3)(h4:Blk w b4 t4 c4):Blk w' b1 t1 c1∧Blk w' b2 t2 c2∧Blk w' b3 t3 c3∧Blk w' b4 t4 c4:=⟨be k h1,be k h2,be k h3,be k h4⟩
theorem pl4 (k:Put w w' p)(h1:Blk w b1 t1 c1)(h2:Blk w b2 t2 c2)(h3:Blk w b3 t3 c3)(h4:Blk w b4 t4 c4)(E:Below B a w)(n1:b1≠p:=by omega)(n2:b2≠p:=by omega)(n3:b3≠p:=by omega)(n4:b4≠p:=by omega)(hb:B<=p:=by omega):Blk w' b1 t1 c1∧Blk w' b2 t2 c2∧Blk w' b3 t3 c3∧Blk w' b4 t4 c4∧Below B a w'∧w'.heap.size=w.heap.size:=⟨Put.blk k n1 h1,Put.blk k n2 h2,Put.blk k n3 h3,Put.blk k n4 h4,Put.low k E hb,Put.size k⟩
theorem pf4 (k:Put w w' p)(h1:Blk w b1 t1 c1)(h2:Blk w b2 t2 c2)(h3:Blk w b3 t3 c3)(h4:Blk w b4 t4 c4)(n1:b1≠p:=by omega)(n2:b2≠p:=by omega)(n3:b3≠p:=by omega)(n4:b4≠p:=by omega):Blk w' b1 t1 c1∧Blk w' b2 t2 c2∧Blk w' b3 t3 c3∧Blk w' b4 t4 c4:=⟨Put.blk k n1 h1,Put.blk k n2 h2,Put.blk k n3 h3,Put.blk k n4 h4⟩
theorem be5 (k:Ext w w')(h1:Blk w b1 t1 c1)(h2:Blk w b2 t2 c2)(h3:Blk w b3 t3 c3)(h4:Blk w b4 t4 c4)(h5:Blk w b5 t5 c5)(E:Ext a w):Blk w' b1 t1 c1∧Blk w' b2 t2 c2∧Blk w' b3 t3 c3∧Blk w' b4 t4 c4∧Blk w' b5 t5 c5∧Ext a w':=⟨be k h1,be k h2,be k h3,be k h4,be k h5,xt E k⟩
theorem bf5 (k:Ext w w')(h1:Blk w b1 t1 c1)(h2:Blk w b2 t2 c2)(h3:Blk w b3 t3 c3)(h4:Blk w b4 t4 c4)(h5:Blk w b5 t5 c5):Blk w' b1 t1 c1∧Blk w' b2 t2 c2∧Blk w' b3 t3 c3∧Blk w' b4 t4 c4∧Blk w' b5 t5 c5:=⟨be k h1,be k h2,be k h3,be k h4,be k h5⟩
theorem pl5 (k:Put w w' p)(h1:Blk w b1 t1 c1)(h2:Blk w b2 t2 c2)(h3:Blk w b3 t3 c3)(h4:Blk w b4 t4 c4)(h5:Blk w b5 t5 c5)(E:Below B a w)(n1:b1≠p:=by omega)(n2:b2≠p:=by omega)(n3:b3≠p:=by omega)(n4:b4≠p:=by omega)(n5:b5≠p:=by omega)(hb:B<=p:=by omega):Blk w' b1 t1 c1∧Blk w' b2 t2 c2∧Blk w' b3 t3 c3∧Blk w' b4 t4 c4∧Blk w' b5 t5 c5∧Below B a w'∧w'.heap.size=w.heap.size:=⟨Put.blk k n1 h1,Put.blk k n2 h2,Put.blk k n3 h3,Put.blk k n4 h4,Put.blk k n5 h5,Put.low k E hb,Put.size k⟩
theorem pf5 (k:Put w w' p)(h1:Blk w b1 t1 c1)(h2:Blk w b2 t2 c2)(h3:Blk w b3 t3 c3)(h4:Blk w b4 t4 c4)(h5:Blk w b5 t5 c5)(n1:b1≠p:=by omega)(n2:b2≠p:=by omega)(n3:b3≠p:=by omega)(n4:b4≠p:=by omega)(n5:b5≠p:=by omega):Blk w' b1 t1 c1∧Blk w' b2 t2 c2∧Blk w' b3 t3 c3∧Blk w' b4 t4 c4∧Blk w' b5 t5 c5:=⟨Put.blk k n1 h1,Put.blk k n2 h2,Put.blk k n3 h3,Put.blk k n4 h4,Put.blk k n5 h5⟩
end
abbrev pT (b:Nat):Value:=.pointer (some ⟨b,0,none⟩)
abbrev CL:=Calls Tryz.prog
section draws
variable {P:Program}{r:Option Nat}{n N:Nat}{e0:Nat->Value}{ds:List Deferred}{w0:World}{Q:Exit->Act->World->Prop}{l:List Oper}{M:Nat}{Φ:List Ph}{R:World->World->Prop}{J:(Nat->Bool)->(Nat->Value)->World->Prop}
def StC (Q:Exit->Act->World->Prop)(r:Option Nat)(n:Nat)(P:Program)(N:Nat)(ds:List Deferred)(l:List Oper)(M:Nat)(R:World->World->Prop)(J:(Nat->Bool)->(Nat->Value)->World->Prop)(e0:Nat->Value)(w0:World)(Fin:List Ph->Prop):Nat->List Ph->List Oper->Prop
  |_,acc,[]=>Fin acc.reverse
  |i,acc,o::os=>∃φ,(StabP R φ∧∀(e:Nat->Value) (w:World) (ls:Nat->Bool),R w0 w->J ls e w->(∀j k,predAt l j k=true->ls j=true->ls k=true)->ls i=false->(∀k,predAt l i k=true->ls k=true)->(∀j d,predB o j=true->dstOf l j=some d->pho acc.reverse j (e d) w)->
      wpListIn (Fw r) n P l.toArray (PostF Q N ds R J w ls i φ o e (fr l M acc.reverse (predB o) e e0)) [o] (act N (fr l M acc.reverse (predB o) e e0) ds) w)∧StC Q r n P N ds l M R J e0 w0 Fin (i+1) (φ::acc) os
theorem phv_app:∀(Φ Ψ:List Ph) (j:Nat) (x:Value),j<Φ.length->phv (Φ++Ψ) j x=phv Φ j x
  |[],_,_,_,h=>by simp at h
  |_::_,_,0,_,_=>rfl
  |_::Φ,Ψ,j+1,x,h=>phv_app Φ Ψ j x (by simpa using h)
theorem pho_app:∀(Φ Ψ:List Ph) (j:Nat) (x:Value) (w:World),j<Φ.length->pho (Φ++Ψ) j x w=pho Φ j x w
  |[],_,_,_,_,h=>by simp at h
  |_::_,_,0,_,_,_=>rfl
  |_::Φ,Ψ,j+1,x,w,h=>pho_app Φ Ψ j x w (by simpa using h)
theorem fr_app {Ψ:List Ph}{sel:Nat->Bool}{e:Nat->Value}(h:∀j,sel j=true->j<Φ.length):fr l M (Φ++Ψ) sel e e0=fr l M Φ sel e e0:=by
  funext t
  unfold fr
  split
  · rfl
  · split
    · rename_i hq;exact phv_app _ _ _ _ (h _ hq)
    · rfl
theorem stC_out {Fin:List Ph->Prop}:∀(os:List Oper) (i:Nat) (acc:List Ph),acc.length=i->(∀k o,os[k]?=some o->∀j,predB o j=true->j<i+k)->StC Q r n P N ds l M R J e0 w0 Fin i acc os->
    ∃φs,StF Q r n P N ds l M (acc.reverse++φs) R J e0 w0 i os φs∧Fin (acc.reverse++φs)
  |[],i,acc,_,_,h=>⟨[],trivial,by simpa[StC]using h⟩
  | o::os,i,acc,hl,hp,⟨φ,⟨h1,h2⟩,h3⟩=>by
    obtain⟨φs,h4,h5⟩:=stC_out os (i+1) (φ::acc) (by simp[hl]) (λk o' ho j hj=>by have:=hp (k+1) o' (by simpa using ho) j hj;omega) h3
    rw[List.reverse_cons,List.append_assoc]at h4 h5
    have hpo:∀j,predB o j=true->j<acc.reverse.length:=λj hj=>by have:=hp 0 o rfl j hj;simp;omega
    refine⟨φ::φs,⟨⟨h1,λe w ls a1 a2 a3 a4 a5 a6=>?_⟩,h4⟩,h5⟩
    rw[fr_app hpo]
    exact h2 e w ls a1 a2 a3 a4 a5 (λj d hj hd=>by have:=a6 j d hj hd;rwa [pho_app _ _ _ _ _ (hpo j hj)]at this)
theorem predsOf {l:List Oper}{M:Nat}(hwf:wfB l=true):∀k o,(l.take M)[k]?=some o->∀j,predB o j=true->j<0+k:=by
  intro i o ho j hj
  have ho2:l[i]?=some o:=by
    rw[List.getElem?_take]at ho
    split at ho
    · exact ho
    · cases ho
  obtain⟨ed,he,hb⟩:=List.any_eq_true.1 hj
  simp only[Bool.and_eq_true]at hb
  have hjj:=Nat.eq_of_beq_eq_true hb.2
  have h1:=List.all_eq_true.1 hwf i (List.mem_range.2 (List.getElem?_eq_some_iff.1 ho2).1)
  rw[ho2]at h1
  have h2:=List.all_eq_true.1 h1 ed (by simpa using he)
  simp only[hb.1,Bool.not_true,Bool.false_or]at h2
  rw[Nat.blt_eq]at h2
  omega
abbrev Exz (w w':World):Prop:=w.heap.size<=w'.heap.size∧Ext w w'
theorem exz {w w':World}(h:Ext w w'):Exz w w':=⟨Below.size h,h⟩
def All (l:List Oper)(M:Nat):List Ph->(Nat->Value)->World->Prop:=λΦ e w=>∀j d,Nat.blt j M=true->dstOf l j=some d->pho Φ j (e d) w
theorem c_an {id:Nat}(M:Nat)(h:StC Q r n Tryz.prog N ds l M Ext (λ_ _ _=>True) e0 w0 (λΦ=>∀e w,Exz w0 w->All l M Φ e w->wpListIn (Fw r) n Tryz.prog l.toArray Q (l.drop M) (act N (fr l M Φ (λj=>Nat.blt j M) e e0) ds) w) 0 [] (l.take M))(hwf:wfB l=true:=by kernel_rfl)(hsh:shapeB l M=true:=by kernel_rfl)(hds:dstB l M=true:=by kernel_rfl):(Code.region id l.toArray true).wpIn (Fw r) n Tryz.prog Q (act N e0 ds) w0:=by
  obtain⟨Φ,h1,h2⟩:=stC_out _ 0 [] rfl (predsOf hwf) h
  exact c_drw (Φ:=Φ) hmix (Ext.drew _) (λ_ _ _=>Ext.trans) trivial hwf hsh hds h1 (λe w ls a1 _ _ a2=>h2 e w (exz a1) a2)
end draws
def Fld (P:Program)(t:TypeId)(k off:Nat):Prop:=∃fs f m,P.underlying t=some (.struct fs)∧fs[k]?=some f∧f.offset=off∧(P.info? f.type).map (·.size)=some (m+1)
theorem fld_mk {P:Program}{t:TypeId}{k:Nat}{fs:Array Field}{f:Field}{m:Nat}(hu:P.underlying t=some (.struct fs)){off:Nat}(hf:fs[k]?=some f)(ho:f.offset=off)(hs:(P.info? f.type).map (·.size)=some (m+1)):Fld P t k off:=⟨fs,f,m,hu,hf,ho,hs⟩
theorem fl125a:Fld Tryz.prog 92 0 0:=fld_mk Tryz.underlying92 rfl rfl sz4
theorem fl125b:Fld Tryz.prog 92 1 1:=fld_mk Tryz.underlying92 rfl rfl sz123
theorem fl235a:Fld Tryz.prog 53 0 0:=fld_mk Tryz.underlying53 rfl rfl sz4
theorem fl36a:Fld Tryz.prog 25 0 0:=fld_mk Tryz.underlying25 rfl rfl sz9
theorem fl36b:Fld Tryz.prog 25 1 1:=fld_mk Tryz.underlying25 rfl rfl sz9
theorem fl1032a:Fld Tryz.prog 37 0 0:=fld_mk Tryz.underlying37 rfl rfl sz36
theorem fl1032b:Fld Tryz.prog 37 1 2:=fld_mk Tryz.underlying37 rfl rfl sz36
theorem fl1052a:Fld Tryz.prog 62 0 0:=fld_mk Tryz.underlying62 rfl rfl sz36
theorem fl1052b:Fld Tryz.prog 62 1 2:=fld_mk Tryz.underlying62 rfl rfl sz36
theorem fl1052c:Fld Tryz.prog 62 2 4:=fld_mk Tryz.underlying62 rfl rfl sz36
theorem fl1052d:Fld Tryz.prog 62 3 6:=fld_mk Tryz.underlying62 rfl rfl sz36
theorem fl1052e:Fld Tryz.prog 62 4 8:=fld_mk Tryz.underlying62 rfl rfl sz1050
theorem fl1054a:Fld Tryz.prog 65 0 0:=fld_mk Tryz.underlying65 rfl rfl sz3
theorem fl1054b:Fld Tryz.prog 65 1 1:=fld_mk Tryz.underlying65 rfl rfl sz9
theorem fl1056a:Fld Tryz.prog 101 0 0:=fld_mk Tryz.underlying101 rfl rfl sz9
theorem fl1056b:Fld Tryz.prog 101 1 1:=fld_mk Tryz.underlying101 rfl rfl sz9
def SlI (P:Program)(t el:TypeId)(z:Value)(size bytes:Nat):Prop:=P.underlying t=some (.slice el)∧Inf P el z size bytes∧z.cells.size=size∧0<size
theorem si1116:SlI Tryz.prog 205 37 (.agg #[S [],S [],S [],S []]) 4 64:=⟨Tryz.underlying205,inf1032,rfl,by decide⟩
theorem si23:SlI Tryz.prog 87 25 (.agg #[S [],S []]) 2 32:=⟨Tryz.underlying87,inf36,rfl,by decide⟩
theorem si24:SlI Tryz.prog 89 3 (.int .i64 0) 1 8:=⟨Tryz.underlying89,inf3,rfl,by decide⟩
theorem si123:SlI Tryz.prog 90 3 (.int .i64 0) 1 8:=⟨Tryz.underlying90,inf3,rfl,by decide⟩
theorem si144:SlI Tryz.prog 121 5 (.int .u8 0) 1 1:=⟨Tryz.underlying121,inf5,rfl,by decide⟩
def Bzz (P:Program)(t:TypeId)(cs:Array Value):Prop:=∃(fs:Array Field) (z:Value) (size bytes:Nat) (pl:List (Nat×Nat)),P.underlying t=some (.struct fs)∧Inf P t z size bytes∧fs.toList.map (λf=>(f.offset,(P.info? f.type).map (·.size)))=pl.map (λp:Nat×Nat=>(p.1,some p.2))∧Instr.fill (pl.toArray[·]?) z.cells []=some cs
theorem bz36:Bzz Tryz.prog 25 #[S [],S []]:=⟨_,_,_,_,[(0,1),(1,1)],Tryz.underlying25,inf36,by kernel_rfl,by kernel_rfl⟩
theorem bz1032:Bzz Tryz.prog 37 #[S [],S [],S [],S []]:=⟨_,_,_,_,[(0,2),(2,2)],Tryz.underlying37,inf1032,by kernel_rfl,by kernel_rfl⟩
theorem bz125:Bzz Tryz.prog 92 #[.bool false,.slice none 0 0]:=⟨_,_,_,_,[(0,1),(1,1)],Tryz.underlying92,inf125,by kernel_rfl,by kernel_rfl⟩
theorem bz235:Bzz Tryz.prog 53 #[.bool false]:=⟨_,_,_,_,[(0,1)],Tryz.underlying53,inf235,by kernel_rfl,by kernel_rfl⟩
def Bdd (P:Program)(t:TypeId):Prop:=∃fs z size bytes,P.underlying t=some (.struct fs)∧Inf P t z size bytes∧fs.toList.map (λf=>(f.offset,(P.info? f.type).map (·.size)))=[(0,some 1),(1,some 1)]∧∀u v:Value,u.cells=#[u]->v.cells=#[v]->Instr.fill ([(0,1),(1,1)].toArray[·]?) z.cells [(0,u),(1,v)]=some #[u,v]
theorem bd36:Bdd Tryz.prog 25:=⟨_,_,_,_,Tryz.underlying25,inf36,by kernel_rfl,λu v hu hv=>by show Instr.fill _ #[S [],S []] _=_;simp[Instr.fill,hu,hv]⟩
theorem bd1056:Bdd Tryz.prog 101:=⟨_,_,_,_,Tryz.underlying101,inf1056,by kernel_rfl,λu v hu hv=>by show Instr.fill _ #[S [],S []] _=_;simp[Instr.fill,hu,hv]⟩
theorem bd1054:Bdd Tryz.prog 65:=⟨_,_,_,_,Tryz.underlying65,inf1054,by kernel_rfl,λu v hu hv=>by show Instr.fill _ #[.int .i64 0,S []] _=_;simp[Instr.fill,hu,hv]⟩
theorem bd125:Bdd Tryz.prog 92:=⟨_,_,_,_,Tryz.underlying92,inf125,by kernel_rfl,λu v hu hv=>by show Instr.fill _ #[.bool false,.slice none 0 0] _=_;simp[Instr.fill,hu,hv]⟩
section ops
variable {P:Program}{r:Option Nat}{n N:Nat}{e:Nat->Value}{ds:List Deferred}{w:World}{Q:Exit->Act->World->Prop}{K:Act->World->Prop}{a:Act}
variable {ops:Array Oper}{rest:List Oper}{dst:Option Tmp}{op:Op}{d ty:Nat}{pos:String}{af:Array Edge}{id:Nat}{c c1 c2:Code}{x y:Operand}{v:Value}
theorem q_fa {t:TypeId}{k b o off:Nat}(hk:wpListIn (Fw r) n Tryz.prog ops Q rest (act N (upd e d (.pointer (some ⟨b,o+off,none⟩))) ds) w)(hx:ev N e x=.pointer (some ⟨b,o,none⟩):=by exact zvx)(hf:Fld Tryz.prog t k off:=by with_reducible first|exact fl1056a|exact fl1056b|exact fl1054b|exact fl36a|exact fl36b|exact fl1032a|exact fl1032b|exact fl1054a|exact fl1052a|exact fl1052b|exact fl1052c|exact fl1052d|exact fl1052e|exact fl125a|exact fl125b|exact fl235a):
    wpListIn (Fw r) n Tryz.prog ops Q (⟨some d,.fieldAddr t x k,ty,pos,af,none⟩::rest) (act N e ds) w:=by
  obtain⟨_,f,m,h1,h2,h3,h4⟩:=hf
  exact l_op (k_fieldAddr h1 h2 h3 h4 rfl hx hk)
theorem q_bz {t:TypeId}{cs:Array Value}(hk:wpListIn (Fw r) n Tryz.prog ops Q rest (act N (upd e d (.agg cs)) ds) w)(h:Bzz Tryz.prog t cs:=by with_reducible first|exact bz36|exact bz1032|exact bz125|exact bz235):wpListIn (Fw r) n Tryz.prog ops Q (⟨some d,.build t #[],ty,pos,af,none⟩::rest) (act N e ds) w:=by
  obtain⟨fs,z,s,b,pl,h1,h2,h3,h4⟩:=h
  exact l_op (k_build h1 h2 h3 rfl h4 hk)
theorem q_bd {t:TypeId}{u:Value}(hk:wpListIn (Fw r) n Tryz.prog ops Q rest (act N (upd e d (.agg #[u,v])) ds) w)(h:Bdd Tryz.prog t:=by with_reducible first|exact bd36|exact bd1056|exact bd1054|exact bd125)(hx:ev N e x=u:=by exact zvv)(hy:ev N e y=v:=by exact zvv)(hu:u.cells=#[u]:=by exact rfl)(hv:v.cells=#[v]:=by exact rfl):
    wpListIn (Fw r) n Tryz.prog ops Q (⟨some d,.build t #[(0,x),(1,y)],ty,pos,af,none⟩::rest) (act N e ds) w:=by
  obtain⟨_,z,s,b,h1,h2,h3,h4⟩:=h
  exact l_op (k_build (pl:=[(0,1),(1,1)]) h1 h2 h3 (by rw[<-hx,<-hy];rfl) (h4 u v hu hv) hk)
theorem bk0 {w':World}{b t:Nat}{cs:Array Value}(h:Blk w' b t cs:=by with_reducible assumption):Blk w' b t cs:=h
theorem bk1 {w':World}{b t:Nat}{cs:Array Value}(h:Blk w' b t cs:=by
  first
  |with_reducible assumption
  |exact Blk.ext (by with_reducible first|exact And.right asuEngH|assumption) bk0
  |exact Put.blk (by with_reducible first|exact And.right asuEngH|assumption) om bk0):Blk w' b t cs:=h
theorem bk2 {w':World}{b t:Nat}{cs:Array Value}(h:Blk w' b t cs:=by
  first
  |with_reducible assumption
  |exact Blk.ext (by with_reducible first|exact And.right asuEngH|assumption) bk1
  |exact Put.blk (by with_reducible first|exact And.right asuEngH|assumption) om bk1):Blk w' b t cs:=h
theorem bk3 {w':World}{b t:Nat}{cs:Array Value}(h:Blk w' b t cs:=by
  first
  |with_reducible assumption
  |exact Blk.ext (by with_reducible first|exact And.right asuEngH|assumption) bk2
  |exact Put.blk (by with_reducible first|exact And.right asuEngH|assumption) om bk2):Blk w' b t cs:=h
theorem bk4 {w':World}{b t:Nat}{cs:Array Value}(h:Blk w' b t cs:=by
  first
  |with_reducible assumption
  |exact Blk.ext (by with_reducible first|exact And.right asuEngH|assumption) bk3
  |exact Put.blk (by with_reducible first|exact And.right asuEngH|assumption) om bk3):Blk w' b t cs:=h
theorem bk5 {w':World}{b t:Nat}{cs:Array Value}(h:Blk w' b t cs:=by
  first
  |with_reducible assumption
  |exact Blk.ext (by with_reducible first|exact And.right asuEngH|assumption) bk4
  |exact Put.blk (by with_reducible first|exact And.right asuEngH|assumption) om bk4):Blk w' b t cs:=h
theorem blks {w':World}{b t:Nat}{cs:Array Value}(h:Blk w' b t cs:=by
  first
  |with_reducible assumption
  |exact Blk.ext (by with_reducible first|exact And.right asuEngH|assumption) bk5
  |exact Put.blk (by with_reducible first|exact And.right asuEngH|assumption) om bk5):Blk w' b t cs:=h
theorem q_ld {t tb:TypeId}{b o:Nat}{cs:List Value}(hk:wpListIn (Fw r) n P ops Q rest (act N (upd e d v) ds) w)(hx:ev N e x=.pointer (some ⟨b,o,none⟩):=by exact zvx)(hb:Blk w b tb cs.toArray:=by exact blks)(hv:nth cs o=some v:=by exact rfl)(hu:isRow1 P t=some false:=by decide +kernel):
    wpListIn (Fw r) n P ops Q (⟨some d,.load t x,ty,pos,af,none⟩::rest) (act N e ds) w:=q_load hk hx hb hv hu
theorem q_ld2 {t tb:TypeId}{b o:Nat}{cs:List Value}{v1 v2:Value}(hk:wpListIn (Fw r) n P ops Q rest (act N (upd e d (.agg #[v1,v2])) ds) w)(hx:ev N e x=.pointer (some ⟨b,o,none⟩):=by exact zvx)(hb:Blk w b tb cs.toArray:=by exact blks)(hv:nth2 cs o=some (v1,v2):=by exact rfl)(hu:isRow1 P t=some true:=by decide +kernel)(hi:(P.info? t).map (·.size)=some 2:=by decide +kernel):
    wpListIn (Fw r) n P ops Q (⟨some d,.load t x,ty,pos,af,none⟩::rest) (act N e ds) w:=q_load2 hk hx hb hv hu hi
theorem q_ld4 {t tb:TypeId}{b:Nat}{v1 v2 v3 v4:Value}(hk:wpListIn (Fw r) n P ops Q rest (act N (upd e d (.agg #[v1,v2,v3,v4])) ds) w)(hx:ev N e x=.pointer (some ⟨b,0,none⟩):=by exact zvx)(hb:Blk w b tb #[v1,v2,v3,v4]:=by exact blks)(hu:isRow1 P t=some true:=by decide +kernel)(hi:(P.info? t).map (·.size)=some 4:=by decide +kernel):
    wpListIn (Fw r) n P ops Q (⟨some d,.load t x,ty,pos,af,none⟩::rest) (act N e ds) w:=by
  obtain⟨D,h1,h2⟩:=isRow1_some hu
  exact l_op (k_loadA (cs:=[v1,v2,v3,v4]) h1 h2 hi hx (Blk.cells hb (i:=0) rfl) hk)
theorem zo {X q:Bool}(h:X=q:=by
  first
  | with_reducible first
    |exact rfl
    |assumption
    |exact dett asuEngH
    |exact detf asuEngH
    |exact nbt (by first|exact rfl|assumption|exact detf asuEngH)
    |exact nbf (by first|exact rfl|assumption|exact dett asuEngH)
  |decide +kernel
  | with_reducible first
    |exact dett om
    |exact detf om
    |exact nbt (detf om)
    |exact nbf (dett om)):X=q:=h
theorem o_tr (h:c1.wpIn (Fw r) n P Q (act N e ds) w){q:Bool}(hx:ev N e x=.bool q:=by exact zvx)(hq:q=true:=by exact zo):(Code.cond x c1 c2).wpIn (Fw r) n P Q (act N e ds) w:=c_true (by rw[hx,hq]) h
theorem o_fa (h:c2.wpIn (Fw r) n P Q (act N e ds) w){q:Bool}(hx:ev N e x=.bool q:=by exact zvx)(hq:q=false:=by exact zo):(Code.cond x c1 c2).wpIn (Fw r) n P Q (act N e ds) w:=c_false (by rw[hx,hq]) h
theorem o_want {l:List Oper}{j s:Nat}{q b:Bool}(hk:wpListIn (Fw r) n P l.toArray Q (⟨dst,op,ty,pos,af,none⟩::rest) (act N e ds) w)(hj:dstOf l j=some s:=by exact rfl)(hv:ev N e (.tmp s)=.bool b:=by exact zvx)(hb:b=q:=by exact zo):wpListIn (Fw r) n P l.toArray Q (⟨dst,op,ty,pos,af,some (j,q)⟩::rest) (act N e ds) w:=l_want hj (by rw[hv,hb]) hk
theorem o_unw {l:List Oper}{j s:Nat}{q b:Bool}(hk:wpListIn (Fw r) n P l.toArray Q rest (act N (upd e d undef) ds) w)(hj:dstOf l j=some s:=by exact rfl)(hv:ev N e (.tmp s)=.bool b:=by exact zvx)(hb:b= !q:=by first|with_reducible assumption|(show _=true;exact zo)|(show _=false;exact zo)):wpListIn (Fw r) n P l.toArray Q (⟨some d,op,ty,pos,af,some (j,q)⟩::rest) (act N e ds) w:=l_not hj (by rw[hv,hb]) hk
theorem o_und {l:List Oper}{j s:Nat}{q:Bool}(hk:wpListIn (Fw r) n P l.toArray Q rest (act N (upd e d undef) ds) w)(hj:dstOf l j=some s:=by exact rfl)(hv:ev N e (.tmp s)=undef:=by exact rfl)(hs:Nat.blt s N=true:=by exact rfl):wpListIn (Fw r) n P l.toArray Q (⟨some d,op,ty,pos,af,some (j,q)⟩::rest) (act N e ds) w:=l_und hj hv hs hk
theorem o_pickt {c a b:Operand}{t:Bool}(hk:wpListIn (Fw r) n P ops Q rest (act N (upd e d v) ds) w)(hc:ev N e c=.bool t:=by exact zvx)(ht:t=true:=by exact zo)(hv:ev N e a=v:=by exact zvv):
    wpListIn (Fw r) n P ops Q (⟨some d,.pick c a b,ty,pos,af,none⟩::rest) (act N e ds) w:=q_pickt hk hc ht hv
theorem o_pickf {c a b:Operand}{t:Bool}(hk:wpListIn (Fw r) n P ops Q rest (act N (upd e d v) ds) w)(hc:ev N e c=.bool t:=by exact zvx)(ht:t=false:=by exact zo)(hv:ev N e b=v:=by exact zvv):
    wpListIn (Fw r) n P ops Q (⟨some d,.pick c a b,ty,pos,af,none⟩::rest) (act N e ds) w:=q_pickf hk hc ht hv
end ops
section gates
variable {P:Program}{r:Option Nat}{n N:Nat}{e:Nat->Value}{ds:List Deferred}{w:World}{Q:Exit->Act->World->Prop}{ops:Array Oper}{o:Oper}{rest:List Oper}{dst:Option Tmp}{op:Op}{ty:Nat}{pos:String}{af:Array Edge}{x y z:Operand}{a:Act}{t u:TypeId}{c1 c2:Code}
abbrev Wo (r:Option Nat)(n:Nat)(P:Program)(ops:Array Oper)(Q:Exit->Act->World->Prop)(o:Oper)(rest:List Oper)(a:Act)(w:World):Prop:=wpListIn (Fw r) n P ops Q (o::rest) a w
theorem g_op (h:Wo r n P ops Q o rest a w):Wo r n P ops Q o rest a w:=h
theorem g_no (h:Wo r n P ops Q ⟨dst,op,ty,pos,af,none⟩ rest a w):Wo r n P ops Q ⟨dst,op,ty,pos,af,none⟩ rest a w:=h
theorem g_gu {g:Nat×Bool}(h:Wo r n P ops Q ⟨dst,op,ty,pos,af,some g⟩ rest a w):Wo r n P ops Q ⟨dst,op,ty,pos,af,some g⟩ rest a w:=h
theorem g_mv (h:Wo r n P ops Q ⟨dst,.move x,ty,pos,af,none⟩ rest a w):Wo r n P ops Q ⟨dst,.move x,ty,pos,af,none⟩ rest a w:=h
theorem g_as (h:Wo r n P ops Q ⟨dst,.assign x,ty,pos,af,none⟩ rest a w):Wo r n P ops Q ⟨dst,.assign x,ty,pos,af,none⟩ rest a w:=h
theorem g_ld (h:Wo r n P ops Q ⟨dst,.load t x,ty,pos,af,none⟩ rest a w):Wo r n P ops Q ⟨dst,.load t x,ty,pos,af,none⟩ rest a w:=h
theorem g_bi {b:BinOp}(h:Wo r n P ops Q ⟨dst,.binOp b t x y u,ty,pos,af,none⟩ rest a w):Wo r n P ops Q ⟨dst,.binOp b t x y u,ty,pos,af,none⟩ rest a w:=h
theorem g_un {b:UnOp}(h:Wo r n P ops Q ⟨dst,.unOp b t x,ty,pos,af,none⟩ rest a w):Wo r n P ops Q ⟨dst,.unOp b t x,ty,pos,af,none⟩ rest a w:=h
theorem g_fa {k:Nat}(h:Wo r n P ops Q ⟨dst,.fieldAddr t x k,ty,pos,af,none⟩ rest a w):Wo r n P ops Q ⟨dst,.fieldAddr t x k,ty,pos,af,none⟩ rest a w:=h
theorem g_ex {k:Nat}(h:Wo r n P ops Q ⟨dst,.extract x k,ty,pos,af,none⟩ rest a w):Wo r n P ops Q ⟨dst,.extract x k,ty,pos,af,none⟩ rest a w:=h
theorem g_ca {c:Call}(h:Wo r n P ops Q ⟨dst,.call c,ty,pos,af,none⟩ rest a w):Wo r n P ops Q ⟨dst,.call c,ty,pos,af,none⟩ rest a w:=h
theorem g_pi (h:Wo r n P ops Q ⟨dst,.pick x y z,ty,pos,af,none⟩ rest a w):Wo r n P ops Q ⟨dst,.pick x y z,ty,pos,af,none⟩ rest a w:=h
theorem g_nc (h:Wo r n P ops Q ⟨dst,.nilCheck x,ty,pos,af,none⟩ rest a w):Wo r n P ops Q ⟨dst,.nilCheck x,ty,pos,af,none⟩ rest a w:=h
theorem g_bu {xs:Array (Nat×Operand)}(h:Wo r n P ops Q ⟨dst,.build t xs,ty,pos,af,none⟩ rest a w):Wo r n P ops Q ⟨dst,.build t xs,ty,pos,af,none⟩ rest a w:=h
theorem g_co (h:(Code.cond x c1 c2).wpIn (Fw r) n P Q a w):(Code.cond x c1 c2).wpIn (Fw r) n P Q a w:=h
end gates
structure Hd (p:Prop):Prop where
  out:p
section irr
attribute [local irreducible] wpListIn Code.wpIn Oper.wpIn Exit.then Exit.inBlock Exit.noGoto
theorem go {G G':Prop}(h:G')(k:Hd G'->G:=by
  intro h
  repeat first
    | (with_reducible refine g_op ?_
       first
       | (with_reducible refine g_no ?_
          first
          | (with_reducible refine g_mv ?_
             refine q_move ?_)
          | (with_reducible refine g_ld ?_
             first
             |refine q_ld ?_
             |refine q_ld2 ?_
             |refine q_ld4 ?_
             |refine q_loadc ?_
             |refine q_loadc2 ?_)
          | (with_reducible refine g_bi ?_
             first
             |refine lss ?_
             |refine eql ?_
             |refine neq ?_
             |refine leq ?_
             |refine gtr ?_
             |refine geq ?_)
          | (with_reducible refine g_fa ?_
             refine q_fa ?_)
          | (with_reducible refine g_as ?_
             refine q_assign ?_)
          | (with_reducible refine g_ex ?_
             first
             |refine q_ex20 ?_
             |refine q_ex21 ?_
             |refine q_ex30 ?_
             |refine q_ex31 ?_
             |refine q_ex32 ?_
             |refine q_ex40 ?_
             |refine q_ex41 ?_
             |refine q_ex42 ?_
             |refine q_ex43 ?_)
          | (with_reducible refine g_ca ?_
             refine q_len ?_)
          | (with_reducible refine g_un ?_
             refine nt ?_)
          | (with_reducible refine g_pi ?_
             first
             |refine o_pickt ?_
             |refine o_pickf ?_)
          | (with_reducible refine g_nc ?_
             refine q_nil ?_)
          | (with_reducible refine g_bu ?_
             first
             |refine q_bz ?_
             |refine q_bd ?_))
       | (with_reducible refine g_gu ?_
          first
          |refine o_want ?_
          |refine o_unw ?_
          |refine o_und ?_))
    | with_reducible first
      |refine n_then ?_
      |refine l_nil ?_
      |refine l_drop rfl ?_
      |refine c_seq ?_
      |refine c_reg ?_
      |refine c_block ?_
      |refine c_skip ?_
      |refine c_exit ?_
      |refine c_ret ?_
      |refine n_in ?_
      |refine n_jmp ?_
      |refine x_then ?_
      |refine x_in ?_
      |refine r_then ?_
      |refine r_in ?_
      |refine r_jmp ?_
      |refine p_then ?_
      |refine p_in ?_
      |refine p_jmp ?_
      |refine c_goto ?_
      |refine g_jmp ?_
      |refine g_then ?_
      |refine g_in ?_
    |refine l_nil ?_
    |refine x_by rfl ?_
    |refine c_scopeL (l:=0) rfl ?_
    | (with_reducible refine g_co ?_
       first
       |refine o_tr ?_
       |refine o_fa ?_)
  exact h.out):G:=k ⟨h⟩
section draws
variable {P:Program}{r:Option Nat}{n N:Nat}{e0:Nat->Value}{ds:List Deferred}{w0:World}{Q:Exit->Act->World->Prop}{l:List Oper}{M:Nat}{R:World->World->Prop}{J:(Nat->Bool)->(Nat->Value)->World->Prop}{Fin:List Ph->Prop}{i:Nat}{acc:List Ph}{o:Oper}{os:List Oper}{V:Value}
def Pl (N:Nat)(ds:List Deferred)(dst:Option Tmp)(V:Value)(w:World)(f:Nat->Value):Exit->Act->World->Prop:=λx a' w'=>x=.normal∧a'=(act N f ds).put dst V∧w'=w
theorem finp {w:World}{f:Nat->Value}{d:Nat}{v:Value}{dst:Option Tmp}(hd:dst=some d:=by exact rfl):Pl N ds dst v w f .normal (act N (upd f d v) ds) w:=by subst hd;exact⟨rfl,(act_put _ _ _ _ _).symm,rfl⟩
theorem sf_pn (h:∀(e:Nat->Value) (w:World) (ls:Nat->Bool),R w0 w->J ls e w->(∀j k,predAt l j k=true->ls j=true->ls k=true)->ls i=false->(∀k,predAt l i k=true->ls k=true)->(∀j d,predB o j=true->dstOf l j=some d->pho acc.reverse j (e d) w)->
      wpListIn (Fw r) n P l.toArray (Pl N ds o.dst V w (fr l M acc.reverse (predB o) e e0)) [o] (act N (fr l M acc.reverse (predB o) e e0) ds) w)(ht:StC Q r n P N ds l M R J e0 w0 Fin (i+1) (.pv V::acc) os)(hR:∀w,R w w:=by first|exact Ext.refl|exact λ_=>trivial)(hJ:∀ls e w v,J ls e w->J (setB ls i) (updO e o.dst v) w:=by exact λ_ _ _ _ h=>h):StC Q r n P N ds l M R J e0 w0 Fin i acc (o::os):=
  ⟨.pv V,⟨λ_ _ _ _ h=>h,λe w ls a1 a2 a3 a4 a5 a6=>list_mono (h e w ls a1 a2 a3 a4 a5 a6) (λ_ _ _ ⟨h1,h2,h3⟩=>.inl ⟨h1,V,h2,h3▸hR _,rfl,h3▸hJ _ _ _ _ a2⟩)⟩,ht⟩
theorem sf_pw (h:∀(e:Nat->Value) (w:World) (ls:Nat->Bool),R w0 w->J ls e w->(∀k,predAt l i k=true->ls k=true)->(∀j d,predB o j=true->dstOf l j=some d->pho acc.reverse j (e d) w)->
      wpListIn (Fw r) n P l.toArray (Pl N ds o.dst V w (fr l M acc.reverse (predB o) e e0)) [o] (act N (fr l M acc.reverse (predB o) e e0) ds) w)(ht:StC Q r n P N ds l M R J e0 w0 Fin (i+1) (.pv V::acc) os)(hR:∀w,R w w:=by first|exact Ext.refl|exact λ_=>trivial)(hJ:∀ls e w v,J ls e w->J (setB ls i) (updO e o.dst v) w:=by exact λ_ _ _ _ h=>h):StC Q r n P N ds l M R J e0 w0 Fin i acc (o::os):=
  sf_pn (λe w ls a1 a2 _ _ a5 a6=>h e w ls a1 a2 a5 a6) ht hR hJ
theorem sf_pl (ht:StC Q r n P N ds l M R J e0 w0 Fin (i+1) (.pv V::acc) os)(h:∀(e:Nat->Value) (w:World),R w0 w->wpListIn (Fw r) n P l.toArray (Pl N ds o.dst V w (fr l M acc.reverse (predB o) e e0)) [o] (act N (fr l M acc.reverse (predB o) e e0) ds) w:=by
      intro e w hR
      refine go ?_
      exact finp)(hR:∀w,R w w:=by first|exact Ext.refl|exact λ_=>trivial)(hJ:∀ls e w v,J ls e w->J (setB ls i) (updO e o.dst v) w:=by exact λ_ _ _ _ h=>h):StC Q r n P N ds l M R J e0 w0 Fin i acc (o::os):=
  sf_pw (λe w _ a1 _ _ _=>h e w a1) ht hR hJ
theorem sf_nil (h:Fin acc.reverse):StC Q r n P N ds l M R J e0 w0 Fin i acc []:=h
theorem sf {G G':Prop}(h:G')(k:Hd G'->G:=by
  intro h
  repeat refine sf_pl ?_
  try refine sf_nil ?_
  exact h.out):G:=k ⟨h⟩
end draws
end irr
section draws
variable {P:Program}{r:Option Nat}{n N:Nat}{e0:Nat->Value}{ds:List Deferred}{w0:World}{Q:Exit->Act->World->Prop}{l:List Oper}{M:Nat}{R:World->World->Prop}{J:(Nat->Bool)->(Nat->Value)->World->Prop}{Fin:List Ph->Prop}{i:Nat}{acc:List Ph}{o:Oper}{os:List Oper}{V:Value}{p:Value->World->Prop}{φ:Ph}
def Sn (Q:Exit->Act->World->Prop)(N:Nat)(ds:List Deferred)(dst:Option Tmp)(f:Nat->Value)(K:Value->World->Prop):Exit->Act->World->Prop:=λx a' w'=>
  (x=.normal∧∃v,a'=(act N f ds).put dst v∧K v w')∨(∃c,x=.panic c∧Q (.panic c) a' w')
theorem fs {f:Nat->Value}{d:Nat}{v:Value}{dst:Option Tmp}{K:Value->World->Prop}{w:World}(h:K v w)(hd:dst=some d:=by exact rfl):Sn Q N ds dst f K .normal (act N (upd f d v) ds) w:=by subst hd;exact .inl ⟨rfl,v,(act_put _ _ _ _ _).symm,h⟩
theorem sf_ap (h:∀(e:Nat->Value) (w:World),R w0 w->(∀j d,predB o j=true->dstOf l j=some d->pho acc.reverse j (e d) w)->
      wpListIn (Fw r) n P l.toArray (Pl N ds o.dst V w (fr l M acc.reverse (predB o) e e0)) [o] (act N (fr l M acc.reverse (predB o) e e0) ds) w)(ht:StC Q r n P N ds l M R J e0 w0 Fin (i+1) (.pv V::acc) os)(hR:∀w,R w w:=by first|exact Ext.refl|exact λ_=>trivial)(hJ:∀ls e w v,J ls e w->J (setB ls i) (updO e o.dst v) w:=by exact λ_ _ _ _ h=>h):StC Q r n P N ds l M R J e0 w0 Fin i acc (o::os):=
  sf_pw (λe w _ a1 _ _ a2=>h e w a1 a2) ht hR hJ
theorem sf_ag (h:∀(e:Nat->Value) (w:World),R w0 w->(∀j d,predB o j=true->dstOf l j=some d->pho acc.reverse j (e d) w)->
      wpListIn (Fw r) n P l.toArray (Sn Q N ds o.dst (fr l M acc.reverse (predB o) e e0) (λv w'=>R w w'∧φ.ok v w')) [o] (act N (fr l M acc.reverse (predB o) e e0) ds) w)(hs:StabP R φ)(ht:StC Q r n P N ds l M R (λ_ _ _=>True) e0 w0 Fin (i+1) (φ::acc) os):StC Q r n P N ds l M R (λ_ _ _=>True) e0 w0 Fin i acc (o::os):=
  ⟨φ,⟨hs,λe w ls a1 _ _ _ _ a6=>list_mono (h e w a1 a6) (λ_ _ _ hh=>hh.imp (fun⟨h1,v,h2,h3,h4⟩=>⟨h1,v,h2,h3,h4,trivial⟩) id)⟩,ht⟩
theorem sf_ae (h:∀(e:Nat->Value) (w:World),R w0 w->(∀j d,predB o j=true->dstOf l j=some d->pho acc.reverse j (e d) w)->
      wpListIn (Fw r) n P l.toArray (Sn Q N ds o.dst (fr l M acc.reverse (predB o) e e0) (λv w'=>R w w'∧v=V)) [o] (act N (fr l M acc.reverse (predB o) e e0) ds) w)(ht:StC Q r n P N ds l M R (λ_ _ _=>True) e0 w0 Fin (i+1) (.pv V::acc) os):StC Q r n P N ds l M R (λ_ _ _=>True) e0 w0 Fin i acc (o::os):=sf_ag (φ:=.pv V) h (λ_ _ _ _ h=>h) ht
theorem sf_ah (p:Value->World->Prop)(h:∀(e:Nat->Value) (w:World),R w0 w->(∀j d,predB o j=true->dstOf l j=some d->pho acc.reverse j (e d) w)->
      wpListIn (Fw r) n P l.toArray (Sn Q N ds o.dst (fr l M acc.reverse (predB o) e e0) (λv w'=>R w w'∧p v w')) [o] (act N (fr l M acc.reverse (predB o) e e0) ds) w)(ht:StC Q r n P N ds l M R (λ_ _ _=>True) e0 w0 Fin (i+1) (.ph p::acc) os)(hs:StabP R (.ph p):=by exact λ_ _ _ _ h=>h):StC Q r n P N ds l M R (λ_ _ _=>True) e0 w0 Fin i acc (o::os):=sf_ag (φ:=.ph p) h hs ht
end draws
def inR (l:List (Nat×Nat))(t:Nat):Bool:=l.any λd=>Nat.ble d.1 t&&Nat.ble t d.2
theorem sm_upd {l:List (Nat×Nat)}{e1 e':Nat->Value}{d:Nat}{v:Value}(hd:inR l d=true)(h:∀t,inR l t=false->e' t=e1 t):∀t,inR l t=false->upd e' d v t=e1 t:=by
  intro t ht
  have:t≠d:=λhh=>by subst hh;rw[hd]at ht;cases ht
  rw[upd_ne _ _ this];exact h t ht
theorem sm_ov {l m:List (Nat×Nat)}{e1 e e':Nat->Value}(hs:(m.all λd=>l.any λc=>Nat.ble c.1 d.1&&Nat.ble d.2 c.2)=true)(h:∀t,inR l t=false->e' t=e1 t):∀t,inR l t=false->ov (inR m) e e' t=e1 t:=by
  intro t ht
  have:inR m t=false:=by
    cases hm:inR m t with
    |false=>rfl
    | true=>
      obtain⟨d,hd,h1⟩:=List.any_eq_true.1 hm
      obtain⟨c,hc,h2⟩:=List.any_eq_true.1 (List.all_eq_true.1 hs d hd)
      simp only[Bool.and_eq_true,Nat.ble_eq]at h1 h2
      have:inR l t=true:=List.any_eq_true.2 ⟨c,hc,by simp only[Bool.and_eq_true,Nat.ble_eq];omega⟩
      rw[this]at ht;cases ht
  unfold ov;rw[this];exact h t ht
theorem dIx_in:∀(os:List Oper) (t j k:Nat) (l:List (Nat×Nat)),(os.all λo=>match o.dst with|some d=>inR l d|none=>true)=true->dIx os t j=some k->inR l t=true
  |[],_,_,_,_,_,h=>by simp[dIx]at h
  | o ::os,t,j,k,l,ha,h=>by
    rw[List.all_cons,Bool.and_eq_true]at ha
    unfold dIx at h
    split at h
    · rename_i d hd
      split at h
      · rename_i hb
        have h1:=ha.1
        rw[hd]at h1
        rw[<-Nat.eq_of_beq_eq_true hb];exact h1
      · exact dIx_in os t (j+1) k l ha.2 h
    · exact dIx_in os t (j+1) k l ha.2 h
theorem sm_ob {l:List (Nat×Nat)}{m:List Nat}{e1 e e':Nat->Value}(hs:(m.all λd=>inR l d)=true)(h:∀t,inR l t=false->e' t=e1 t):∀t,inR l t=false->ov (inB m) e e' t=e1 t:=by
  intro t ht
  have:inB m t=false:=by
    cases hm:inB m t with
    |false=>rfl
    | true=>
      obtain⟨d,hd,h1⟩:=List.any_eq_true.1 hm
      have h2:=List.all_eq_true.1 hs d hd
      rw[Nat.eq_of_beq_eq_true h1]at h2
      rw[ht]at h2;cases h2
  unfold ov;rw[this];exact h t ht
theorem sm_fr {l:List (Nat×Nat)}{ops:List Oper}{M:Nat}{Φ:List Ph}{sel:Nat->Bool}{e1 e e':Nat->Value}(hs:((ops.take M).all λo=>match o.dst with|some d=>inR l d|none=>true)=true)(h:∀t,inR l t=false->e' t=e1 t):
    ∀t,inR l t=false->fr ops M Φ sel e e' t=e1 t:=by
  intro t ht
  unfold fr
  split
  · exact h t ht
  · rename_i j hj
    rw[dIx_in _ _ _ _ _ hs hj]at ht;cases ht
theorem sm_rfl {l:List (Nat×Nat)}{e:Nat->Value}:∀t,inR l t=false->e t=e t:=λ_ _=>rfl
theorem same {l:List (Nat×Nat)}{e e':Nat->Value}(h:∀t,inR l t=false->e' t=e t:=by
  repeat first
    |with_reducible exact sm_rfl
    |((with_reducible refine sm_upd ?_ ?_);· exact rfl)
    |((with_reducible refine sm_ov ?_ ?_);· kernel_rfl)
    |((with_reducible refine sm_ob ?_ ?_);· kernel_rfl)
    |((with_reducible refine sm_fr ?_ ?_);· kernel_rfl)):∀t,inR l t=false->e' t=e t:=h
section code
variable {P:Program}{r:Option Nat}{n N:Nat}{e:Nat->Value}{ds:List Deferred}{w:World}{Q:Exit->Act->World->Prop}{K:Act->World->Prop}{c c1:Code}{I:Nat->(Nat->Value)->World->Prop}{mods:List (Nat×Nat)}{k:Nat}
theorem ov_eq {e1:Nat->Value}(h:∀t,inR mods t=false->e1 t=e t):e1=ov (inR mods) e1 e:=funext λt=>by
  unfold ov;split
  · rfl
  · rename_i hh;exact h t hh
def LpK (N:Nat)(ds:List Deferred)(mods:List (Nat×Nat))(e:Nat->Value)(I:Nat->(Nat->Value)->World->Prop)(k:Nat):Act->World->Prop:=λa' w'=>∃k' e',k'<k∧a'=act N e' ds∧(∀t,inR mods t=false->e' t=e t)∧I k' e' w'
theorem c_lp (mods:List (Nat×Nat))(I:Nat->(Nat->Value)->World->Prop)(k:Nat)(h0:I k e w)(hs:∀k e1 w1,I k e1 w1->c.wpIn (Fw r) n P (Exit.then (LpK N ds mods e I k) Q) (act N (ov (inR mods) e1 e) ds) w1):(Code.loop c).wpIn (Fw r) n P Q (act N e ds) w:=
  c_loop (λk e1 w1=>(∀t,inR mods t=false->e1 t=e t)∧I k e1 w1) k ⟨λ_ _=>rfl,h0⟩ λk e1 w1 ⟨h1,h2⟩=>by
    have:=hs k e1 w1 h2
    rw[<-ov_eq h1]at this
    exact wpIn_mono this (by
      intro x a' w' hq
      cases x <;>first|exact hq|(obtain⟨k',e',hk,rfl,hsm,hI'⟩:=hq;exact⟨k',e',hk,rfl,hsm,hI'⟩))
theorem c_lab {rest:Code}{l:Nat}(mods:List (Nat×Nat))(I:Nat->(Nat->Value)->World->Prop)(k:Nat)(h0:I k e w)(hs:∀k e1 w1,I k e1 w1->rest.wpIn (Fw r) n P (jmp l (LpK N ds mods e I k) Q) (act N (ov (inR mods) e1 e) ds) w1):rest.wpIn (Fw r) n P (jmp l (JA (Fw r) n P l (Code.skip.seq rest) Q) Q) (act N e ds) w:=by
  have key:∀m k e1 w1,k<m->(∀t,inR mods t=false->e1 t=e t)->I k e1 w1->rest.wpIn (Fw r) n P (jmp l (JL (Fw r) n P l (Code.skip.seq rest) Q (m-1)) Q) (act N e1 ds) w1:=by
    intro m
    induction m with
    |zero=>intro k e1 w1 hk;omega
    | succ m ih=>
      intro k e1 w1 hk hsm hI
      have:=hs k e1 w1 hI
      rw[<-ov_eq hsm]at this
      refine wpIn_mono this (jmp_mono λa w ⟨k',e',hk',he,hsm',hI'⟩=>?_)
      subst he
      have h2:=ih k' e' w om hsm' hI'
      obtain⟨p,rfl⟩:∃p,m=p+1:=⟨m-1,by omega⟩
      exact c_seq (c_skip (n_then h2))
  exact wpIn_mono (key (k+1) k e w om (λ_ _=>rfl) h0) (jmp_mono λa w h=>⟨k,h⟩)
theorem lend {e':Nat->Value}{w':World}{k':Nat}(hI:I k' e' w')(hk:k'<k:=by omega)(hs:∀t,inR mods t=false->e' t=e t:=by exact same):LpK N ds mods e I k (act N e' ds) w':=⟨k',e',hk,rfl,hs,hI⟩
def JnK (N:Nat)(ds:List Deferred)(mods:List (Nat×Nat))(e:Nat->Value)(I:(Nat->Value)->World->Prop):Act->World->Prop:=λa' w'=>∃e',a'=act N e' ds∧(∀t,inR mods t=false->e' t=e t)∧I e' w'
theorem c_jn (mods:List (Nat×Nat))(I:(Nat->Value)->World->Prop)(h1:c1.wpIn (Fw r) n P (Exit.then (JnK N ds mods e I) Q) (act N e ds) w)(h2:∀e1 w1,I e1 w1->K (act N (ov (inR mods) e1 e) ds) w1):c1.wpIn (Fw r) n P (Exit.then K Q) (act N e ds) w:=
  wpIn_mono h1 (by
    intro x a' w' hq
    cases x <;>first|exact hq|(obtain⟨e',rfl,h3,h4⟩:=hq;rw[ov_eq h3];exact h2 e' w' h4))
theorem jend {I:(Nat->Value)->World->Prop}{e':Nat->Value}{w':World}(hI:I e' w')(hs:∀t,inR mods t=false->e' t=e t:=by exact same):JnK N ds mods e I (act N e' ds) w':=⟨e',rfl,hs,hI⟩
end code
section ops
variable {P:Program}{r:Option Nat}{n N:Nat}{e:Nat->Value}{ds:List Deferred}{w:World}{Q:Exit->Act->World->Prop}{K:Act->World->Prop}{a:Act}
variable {ops:Array Oper}{rest:List Oper}{op:Op}{d ty:Nat}{pos:String}{af:Array Edge}{id:Nat}{c c1 c2:Code}{x y:Operand}{v:Value}
abbrev L (r:Option Nat)(n:Nat)(ops:Array Oper)(Q:Exit->Act->World->Prop)(rest:List Oper)(N:Nat)(e:Nat->Value)(ds:List Deferred)(w:World):Prop:=wpListIn (Fw r) n Tryz.prog ops Q rest (act N e ds) w
theorem al {t:TypeId}{z:Value}{s b:Nat}(hi:Inf Tryz.prog t z s b)(hk:∀w',(w'.heap.size=w.heap.size+1∧Ext w w')->Blk w' w.heap.size t z.cells->L r n ops Q rest N (upd e d (.pointer (some ⟨w.heap.size,0,none⟩))) ds w'):
    L r n ops Q (⟨some d,.alloc t,ty,pos,af,none⟩::rest) N e ds w:=l_op (k_alloc hi λw' h1 h2 h3=>hk w' ⟨h2,h1⟩ h3)
theorem bx {t:TypeId}(hk:∀w',(w'.heap.size=w.heap.size+1∧Ext w w')->Blk w' w.heap.size t v.cells->L r n ops Q rest N (upd e d (.pointer (some ⟨w.heap.size,0,none⟩))) ds w')(hx:ev N e x=v:=by exact zvv):
    L r n ops Q (⟨some d,.box t x,ty,pos,af,none⟩::rest) N e ds w:=l_op (k_box hx λw' h1 h2 h3=>hk w' ⟨h2,h1⟩ h3)
theorem cl {R:Value->World->Prop}{f:FuncId}{xs:Array Operand}{ats:Array TypeId}{vs:List Value}(hf:Enters Tryz.prog f)(hc:Calls Tryz.prog f vs.toArray w (Ret w R))(hk:∀v w',Exz w w'->R v w'->L r n ops Q rest N (upd e d v) ds w')(hv:xs.toList.map (ev N e)=vs:=by exact rfl):
    L r n ops Q (⟨some d,.call ⟨.value (.func f),xs,ats⟩,ty,pos,af,none⟩::rest) N e ds w:=l_op (k_call hf hv hc λv w' h=>hk v w' (exz h))
theorem clb {R:Value->World->Prop}{f:FuncId}{xs:Array Operand}{ats:Array TypeId}{vs:List Value}(hf:Enters Tryz.prog f)(hv:xs.toList.map (ev N e)=vs:=by exact rfl)(hc:Calls Tryz.prog f vs.toArray w (Ret w R))(hk:∀v w',Exz w w'->R v w'->L r n ops Q rest N (upd e d v) ds w'):
    L r n ops Q (⟨some d,.call ⟨.value (.func f),xs,ats⟩,ty,pos,af,none⟩::rest) N e ds w:=l_op (k_call hf hv hc λv w' h=>hk v w' (exz h))
theorem clV {R:Value->World->Prop}{f:FuncId}{lb:List Value}{xs:Array Operand}{ats:Array TypeId}{vs:List Value}(hf:Enters Tryz.prog f)(hx:ev N e x=.func (.func f) #[] lb.toArray)(hv:xs.toList.map (ev N e)=vs)(hc:Calls Tryz.prog f (vs++lb).toArray w (Ret w R))(hk:∀v w',Exz w w'->R v w'->K (act N (upd e d v) ds) w'){g:Option (Nat×Bool)}:Oper.wpIn (Fw r) n Tryz.prog ⟨some d,.call ⟨.value x,xs,ats⟩,ty,pos,af,g⟩ (act N e ds) w K Q:=k_callV hf hx hv hc λv w' h=>hk v w' (exz h)
theorem k_callz {R:Value->World->Prop}{f:FuncId}{xs:Array Operand}{ats:Array TypeId}{vs:List Value}{g:Option (Nat×Bool)}(hf:Enters Tryz.prog f)(hv:xs.toList.map (ev N e)=vs)(hc:Calls Tryz.prog f vs.toArray w (Ret w R))(hk:∀v w',Exz w w'->R v w'->K (act N (upd e d v) ds) w'):Oper.wpIn (Fw r) n Tryz.prog ⟨some d,.call ⟨.value (.func f),xs,ats⟩,ty,pos,af,g⟩ (act N e ds) w K Q:=k_call hf hv hc λv w' h=>hk v w' (exz h)
theorem SA {t tb b o m:Nat}{vs:List Value}{cs:Array Value}(hb:Blk w b tb cs)(hk:∀w',Put w w' b->Blk w' b tb (putCells cs o vs)->L r n ops Q rest N e ds w')(hx:ev N e x=.pointer (some ⟨b,o,none⟩):=by exact zvx)(hy:ev N e y=.agg vs.toArray:=by exact zvx)(hi:(Tryz.prog.info? t).map (·.size)=some m:=by with_reducible first|exact sz36|exact sz1056|exact sz1054|exact sz1032|exact sz1052|exact sz125)(hm:vs.length=m:=by exact rfl)(h1:vs.all (·.oneCell')=true:=by exact rfl)(ho:o+vs.length<=cs.size:=by exact Nat.le_of_ble_eq_true rfl):
    L r n ops Q (⟨none,.store t x y,ty,pos,af,none⟩::rest) N e ds w:=l_op (k_storeA (hm▸hi) hx hy (List.all_eq_true.1 h1) hb ho hk)
theorem SO {t tb b o:Nat}{cs:Array Value}(hb:Blk w b tb cs)(hk:∀w',Put w w' b->Blk w' b tb (cs.setIfInBounds o v)->L r n ops Q rest N e ds w')(hx:ev N e x=.pointer (some ⟨b,o,none⟩):=by exact zvx)(hy:ev N e y=v:=by exact zvv)(h1:v.oneCell'=true:=by exact rfl)(hi:(Tryz.prog.info? t).map (·.size)=some 1:=by with_reducible first|exact sz3|exact sz4|exact sz9|exact sz123|exact sz32|exact sz1104|exact sz1136|exact sz1077|exact sz1050|exact sz23|exact sz24|exact sz150)(ho:o<cs.size:=by exact Nat.le_of_ble_eq_true rfl):
    L r n ops Q (⟨none,.store t x y,ty,pos,af,none⟩::rest) N e ds w:=l_op (k_store hi hx hy h1 hb ho hk)
theorem BS {t el size bytes:Nat}{z:Value}{cs:List Value}(hk:∀w',Ext w w'->w.heap.size<w'.heap.size->w'.ownsRow w.heap.size el size (.slice (some ⟨w.heap.size,0,none⟩) 1 1) 1 cs->L r n ops Q rest N (upd e d (.slice (some ⟨w.heap.size,0,none⟩) 1 1)) ds w')(hx:ev N e x=v:=by exact zvv)(hc:v.cells=cs.toArray:=by exact rfl)(hs:SlI Tryz.prog t el z size bytes:=by with_reducible first|exact si1116|exact si23|exact si24|exact si123|exact si144)(hf:Instr.fill (λi=>some (i*size,size)) ((Array.range (1*size)).map (z.cells[· %z.cells.size]!)) [(0,v)]=some cs.toArray:=by kernel_rfl)(hl:cs.toArray.size=1*size:=by exact rfl)(h24:Nat.ble (1*size) 16777216=true:=by exact rfl):L r n ops Q (⟨some d,.buildSlice t 1 #[(0,x)],ty,pos,af,none⟩::rest) N e ds w:=l_op (k_buildSlice hs.1 hs.2.1 (by rw[<-hx];rfl) (Nat.le_of_ble_eq_true h24) (by have:=hs.2.2.2;omega) hf hl dc hk)
theorem BS2 {t el size bytes:Nat}{z u:Value}{cs ds':List Value}(hk:∀w',Ext w w'->w.heap.size<w'.heap.size->w'.ownsRow w.heap.size el size (.slice (some ⟨w.heap.size,0,none⟩) 2 2) 2 (cs++ds')->L r n ops Q rest N (upd e d (.slice (some ⟨w.heap.size,0,none⟩) 2 2)) ds w')(hx:ev N e x=u:=by exact zvv)(hy:ev N e y=v:=by exact zvv)(hc:u.cells=cs.toArray:=by exact rfl)(hd:v.cells=ds'.toArray:=by exact rfl)(hs:SlI Tryz.prog t el z size bytes:=by with_reducible first|exact si1116|exact si23|exact si24|exact si123|exact si144)(hf:Instr.fill (λi=>some (i*size,size)) ((Array.range (2*size)).map (z.cells[· %z.cells.size]!)) [(0,u),(1,v)]=some (cs++ds').toArray:=by kernel_rfl)(hl:(cs++ds').toArray.size=2*size:=by exact rfl)(h24:Nat.ble (2*size) 16777216=true:=by exact rfl):L r n ops Q (⟨some d,.buildSlice t 2 #[(0,x),(1,y)],ty,pos,af,none⟩::rest) N e ds w:=l_op (k_buildSlice hs.1 hs.2.1 (by rw[<-hx,<-hy];rfl) (Nat.le_of_ble_eq_true h24) (by have:=hs.2.2.2;omega) hf hl dc hk)
theorem AP {t ty el size bytes base lo m c k:Nat}{z:Value}{A:Option Addr}{xs news:List Value}(hown:w.ownsRow base el size v k xs)(hr:Rw w lo A news)(hk:∀v' w',w'.ownsRow base el size v' (k+m) (xs++news)->w.grownBy w' v.ownBlock->(v'.ownBlock=v.ownBlock∨v'.ownBlock=some w.heap.size)->L r n ops Q rest N (upd e d v') ds w')(h1:news.all (·.oneCell')=true:=by exact rfl)(hx:ev N e x=v:=by exact zvx)(hy:ev N e y=.slice A m c:=by exact zvx)(hs:SlI Tryz.prog t el z size bytes:=by with_reducible first|exact si1116|exact si23|exact si24|exact si123|exact si144)(hl:news.length=m*size:=by exact rfl)(h63:k+m<=maxLen:=by simp only[maxLen];omega)(hb:(k+m)*bytes<=140737488355328:=by omega)(hbase:base<=w.heap.size:=by omega):
    L r n ops Q (⟨some d,.call {callee:=.builtin .append,args:=#[x,y],argTypes:=#[t,t]},ty,pos,af,none⟩::rest) N e ds w:=l_op (k_append hs.1 hs.2.1 hs.2.2.1 hs.2.2.2 hx hown hy hr hl (List.all_eq_true.1 h1) h63 hb hbase hk)
end ops
end Go.Proofs.YtinldhphnpflaaaGreatDoor
