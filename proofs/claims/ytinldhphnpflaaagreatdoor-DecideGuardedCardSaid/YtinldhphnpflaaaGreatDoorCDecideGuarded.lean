/- DecideGuarded of yardsticklaw16 returns true for every input, and each argument reads afterwards as it read before. Conditions: when the call begins, the package-level variables that the row lists hold what the program text lays; the card ties them to the pruned copy of the project. -/
import Derived.Test.YtinldhphnpflaaaGreatDoorDm6ToCardB
set_option linter.all false
namespace Go.Proofs.YtinldhphnpflaaaGreatDoor
set_option maxRecDepth 100000
open Go Go.ChangeShapes Go.WideShapes Go.ChangeAt Go.RowKit Go.Deep Go.Eng
namespace DecideGuarded
theorem tb_of {W:World}(hS:W.ShapedOpen Tryz.prog)(h:laidMetH Tryz.prog Rows.decideGuardedRow.laid W):Tb W:=by
  rw[MakeChecks.laidMetH_plain _ _ _ (by kernel_rfl)]at h
  obtain⟨ps,⟨_,_,_,_,_,_,_,_,_,_,⟨_,_,_,_,_,_,_,_,_,_,⟨g,t,cs,fuel,p,q,hg,ht,hv,hd,_,_⟩,_⟩,_⟩,_,_⟩:=h
  obtain rfl:=Option.some.inj (gPow.symm.trans hg)
  obtain rfl:=Option.some.inj (tPow.symm.trans ht)
  obtain⟨z,hz⟩:=zPow
  obtain⟨cs',hh,_⟩:=hS.1 4 z 240 nPow hz
  have hc:cs'=cs:=by
    have:=hv
    simp only[World.var?,gPow,Option.bind_some,hh]at this
    exact Option.some.inj this
  subst hc
  obtain⟨xs,m,_,ex,hl0,_,hel⟩:=DataW.trod_array Tryz.underlying240 hd
  have ex2:xs.map (·.1)=Lib.pow10Tab.map λz=>DataW.lit (.int .u64 z):=by
    have:=(Prod.mk.inj ex).1
    rw[lPow]at this
    exact(DataW.agg.inj this).symm
  rw[cU]at hel
  refine⟨(0,0),hh.trans (congrArg (λc=>some (Obj.cells c 240)) ?_)⟩
  apply Array.ext'
  apply List.ext_getElem?
  intro i
  by_cases hi:i<20
  · have hE:=hel i hi
    rw[Nat.mul_one,List.getElem?_eq_getElem (by omega)]at hE
    obtain⟨z,e1,e2,_⟩:=DataW.trod_int uU hE
    have e4:(xs.map (·.1))[i]?=(Lib.pow10Tab.map λn=>(DataW.lit (.int .u64 n):DataW Unit))[i]?:=by rw[ex2]
    rw[List.getElem?_map,List.getElem?_map,List.getElem?_eq_getElem (by omega:i<xs.length),List.getElem?_eq_getElem (by rw[kPow];exact hi),e2]at e4
    simp only[Option.map_some,Option.some.injEq,DataW.lit.injEq,Lit.int.injEq,true_and]at e4
    have h0:((cs'.toList.drop i).take 1)[0]?=some (.int .u64 z):=by rw[e1];rfl
    have h1:cs'.toList[i]?=some (.int .u64 z):=by simpa using h0
    rw[h1,e4]
    simp[List.getElem?_eq_getElem (show i<Lib.pow10Tab.length by rw[kPow];exact hi)]
  · have h1:cs'.toList.length=20:=by rw[hl0];exact cA
    rw[List.getElem?_eq_none (by omega),List.getElem?_eq_none (by simp[kPow];omega)]
theorem cWit (os:Os)(H:Type)(enc:TypeId×Value->H):∃(w:World) (tape:Tape) (i:Input),w.os=os∧(w.forCall tape i).Shaped Tryz.checked.prog∧i.vars=[]∧Input.okWide Tryz.checked.prog (w.forCall tape i) .any w.heap.size 3 i∧
      ((Rows.decideGuardedSpec.pre enc Tryz.checked.prog Tryz.f3 Rows.decideGuardedRow.domain false (w.forCall tape i).memory i.args∧laidMetH Tryz.prog Rows.decideGuardedRow.laid (w.forCall tape i).memory)∧sizedMet enc Tryz.checked.prog Tryz.f3 (OpenSpec.ofChange Rows.decideGuardedSpec) false (w.forCall tape i).memory i.args)∧Assume.holds {} Tryz.checked.prog (lone (Frame.enter Tryz.checked.prog 3 i.args .normal) [] (w.forCall tape i)):=
  ChangeSpec.witness_shaped (enc:=enc) (C:=Tryz.checked) (os:=os) (X:=λw _=>laidMetH Tryz.prog Rows.decideGuardedRow.laid w) false (World.laidAll Tryz.prog os Rows.decideGuardedRow.laid)
    #[.agg #[.int .i64 0,.int .i64 0,.int .i64 0,.int .i64 0,.int .i64 0,.int .i64 0,.int .i64 0],.int .i64 0,.int .i64 0] 8 (World.laidAll_os _ _ _)
    (World.shaped_of_ZipB (by kernel_rfl) (by kernel_rfl)) (by kernel_rfl) (by kernel_rfl) (by kernel_rfl)
    (by rw[MakeChecks.laidMetH_plain _ _ _ (by kernel_rfl)];exact laidMet_laidAll _ (by kernel_rfl) (by kernel_rfl))
theorem cRead:(Tryz.f3.params.toList.all λt=>Tryz.prog.readableRec t&&decide (t<Tryz.prog.types.size))=true:=by kernel_rfl
theorem lifted (os:Os)(started:os.Started)(H:Type)(enc:TypeId×Value->H):
    ReturnsInHanded {} Tryz.checked os 3 .any (λw args=>(Rows.decideGuardedSpec.pre enc Tryz.prog Tryz.f3 Rows.decideGuardedRow.domain false w args∧laidMetH Tryz.prog Rows.decideGuardedRow.laid w)∧sizedMet enc Tryz.prog Tryz.f3 (OpenSpec.ofChange Rows.decideGuardedSpec) false w args)
      (Rows.decideGuardedSpec.post enc Tryz.prog Tryz.f3 false true false false):=by
  refine returnsInHanded_of_calls (C:=Tryz.checked) cOwn started (by kernel_rfl) (cWit os H enc) ?_
  intro w tape i _ hS _ hok hpre _
  obtain⟨_,_,_,fn',hfn',_,_,_,_,hval0⟩:=hok
  have e:fn'=Tryz.f3:=Option.some.inj (hfn'.symm.trans Tryz.func3)
  subst e
  obtain⟨⟨⟨ds,gs,before,hw,hc⟩,hx⟩,hz⟩:=hpre
  have hW:DataW.Whole enc Tryz.prog Tryz.f3.params.toList Rows.decideGuardedSpec.vars false (w.forCall tape i) i.args.toList ds gs before:=DataW.Whole.of_heap (w':=w.forCall tape i) (by rfl) hw
  have ht:Tb (w.forCall tape i):=tb_of hS (hx.of_heap (by rfl))
  generalize w.forCall tape i=W at hW ht hval0 ⊢
  generalize w.heap.size=b0 at hval0
  generalize i.args=args at hW hval0 ⊢
  have hval:∀(j:Nat) t v,Tryz.f3.params[j]?=some t->args[j]?=some v->Value.okWide Tryz.prog W .any b0 t v:=hval0
  have hW':=hW
  obtain⟨p,q,hA,hV,rfl,_,_⟩:=hW
  obtain⟨rfl,rfl⟩:=trodVars_none hV
  have hA':=hA
  rw[Tryz.params3]at hA hval
  obtain⟨args⟩:=args
  obtain⟨v0,r0,d0,s0,_,_,rfl,rfl,⟨f0,h0⟩,hA⟩:=trod_cons hA
  obtain⟨v1,_,_,_,_,_,rfl,rfl,h1,hA⟩:=trod_cons hA
  obtain⟨v2,_,_,_,_,_,rfl,rfl,h2,hA⟩:=trod_cons hA
  obtain⟨rfl,rfl⟩:=trod_end hA
  obtain⟨_,_,_,_,_,_,_,rfl,wa0,wb0,wc0,wd0,we0,wf0,wg0⟩:=seven_of (hval 0 22 v0 rfl rfl) h0
  obtain⟨_,rfl,rfl,_,w1⟩:=open_int Tryz.underlying3 (hval 1 3 v1 rfl rfl) h1
  obtain⟨_,rfl,rfl,_,w2⟩:=open_int Tryz.underlying3 (hval 2 3 v2 rfl rfl) h2
  refine(decideGuarded_law (w:=W) wa0 wb0 wc0 wd0 we0 wf0 wg0 (wf64 w1) (wf64 w2) ht).mono λe W' hr=>?_
  match e,hr with
  | .returned v,hr=>
    obtain⟨k,rfl⟩:=hr
    have hlt:=hW'.lt
    refine ChangeSpec.post_blind (P:=Tryz.prog) ?_
    refine⟨_,[],_,[],_,[],hW',trodAll_mk1 (shut_bool Tryz.underlying4 true),all_again k (λt ht=>?_) hA' (λx hx=>hlt x (by simp[hx])) (λx hx=>?_),rfl,World.keptBut.congr (World.keptBut_refl _ _) k.os k.output (λi hi=>k.block i hi),λh=>by cases h⟩
    · have:=List.all_eq_true.1 cRead t ht
      simpa using this
    · simpa using hlt x (by simp[hx])
theorem row_holds:Rows.DecideGuardedSaid:=
  OpenClaim.holds_of_wide 3 Tryz.f3 rfl rfl rfl rfl rfl rfl rfl ⟨rfl,rfl,rfl,rfl,rfl⟩ rfl rfl rfl rfl rfl (by kernel_rfl) Tryz.func3 (by kernel_rfl)
    (of_decide_eq_true (by kernel_rfl)) (by unfold Func.isWrapper;first|(rw[if_pos (by decide +kernel)];kernel_rfl)|(rw[if_neg (by decide +kernel)];exact⟨rfl,rfl⟩))
    (λos started H enc _=>lifted os started H enc)
theorem card_holds:Rows.DecideGuardedCardSaid:=
  Claim7.holds_tied_plain_at .later [] [.data, .data, .data, .data, .sentinel, .sentinel, .sentinel, .pinned] true (true, "77c8e135377799a2ef72287f827f7b24e1eb72c0d231003f72a425c0accfeee4") true row_holds (fun _ h => by cases h) (by kernel_rfl) (fun _ h => by cases h) decideGuarded_row_tie rfl ⟨rfl, rfl⟩ (by kernel_rfl) rfl
    (λf fn hf hfn=>by
      obtain rfl : f = 3 := Option.some.inj ((show Tryz.prog.funcNamed "yardstick/yardsticklaw16.DecideGuarded" = some 3 by kernel_rfl).symm.trans hf) |>.symm
      obtain rfl:fn=Tryz.f3:=(Option.some.inj (Tryz.func3.symm.trans hfn)).symm
      exact⟨by kernel_rfl,λj t ht=>by
        rw[Tryz.params3]at ht
        have hm:t∈[22,3,3]:=by simpa using Array.mem_of_getElem? ht
        have hall:([22,3,3].all λu=>!Tryz.prog.wantsStandIn u)=true:=by kernel_rfl
        exact(show Tryz.prog.wantsStandIn t=false by simpa using List.all_eq_true.1 hall t hm)⟩)
    (by kernel_rfl)
#print axioms card_holds
end DecideGuarded
end Go.Proofs.YtinldhphnpflaaaGreatDoor
