/- REMARK: the consumer's and the producer's risk agree with the reference implementation. No conditions. -/
import Derived.Test.YthpinljhfnodeaaGreatDoorRmTAToRnL
set_option linter.all false
namespace Go.Proofs.YthpinljhfnodeaaGreatDoor
set_option maxRecDepth 100000
open Go Go.ChangeShapes Go.WideShapes Go.ChangeAt Go.RowKit Go.Deep Go.Eng
namespace RiskIntegralsMatchReference
theorem WB {W:World}(hS:W.ShapedOpen Tryz.prog)(h:laidMetH Tryz.prog Rows.riskIntegralsMatchReferenceRow.laid W):Tb W:=by
 rw[MakeChecks.laidMetH_plain _ _ _ (by kernel_rfl)]at h
 obtain⟨ps,⟨_,_,_,_,_,_,_,_,_,_,⟨_,_,_,_,_,_,_,_,_,_,⟨g,t,cs,fuel,p,q,Ad,ht,hv,hd,_,_⟩,_⟩,_⟩,_,_⟩:=h
 obtain rfl:=qb4 (VW.symm.trans Ad)
 obtain rfl:=qb4 (XQ.symm.trans ht)
 obtain⟨z,Ao⟩:=XR
 obtain⟨O,A1,_⟩:=hS.1 1 z 265 XS Ao
 have hc:O=cs:=by
  have:=hv
  simp only[World.var?,VW,Option.bind_some,A1]at this
  exact qb4 this
 subst hc
 obtain⟨xs,m,_,ex,Af,_,qn⟩:=DataW.trod_array Tryz.underlying265 hd
 have Am:xs.map (·.1)=Lib.pow10Tab.map λz=>DataW.lit (.int .u64 z):=by
  have:=(Prod.mk.inj ex).1
  rw[XU]at this
  exact(DataW.agg.inj this).symm
 rw[cU]at qn
 refine⟨(0,0),A1.trans (qb1 (λc=>some (Obj.cells c 265)) ?_)⟩
 apply Array.ext'
 apply List.ext_getElem?
 intro i
 by_cases hi:i<20
 · have hE:=qn i hi
   rw[Nat.mul_one,List.getElem?_eq_getElem (by omega)]at hE
   obtain⟨z,Ab,A2,_⟩:=DataW.trod_int uU hE
   have qr:(xs.map (·.1))[i]?=(Lib.pow10Tab.map λn=>(DataW.lit (.int .u64 n):DataW Unit))[i]?:=by rw[Am]
   rw[List.getElem?_map,List.getElem?_map,List.getElem?_eq_getElem (by omega:i<xs.length),List.getElem?_eq_getElem (by rw[Sr];exact hi),A2]at qr
   simp only[Option.map_some,Option.some.injEq,DataW.lit.injEq,Lit.int.injEq,true_and]at qr
   have Ap:((O.toList.drop i).take 1)[0]?=some (.int .u64 z):=by rw[Ab];rfl
   have h1:O.toList[i]?=some (.int .u64 z):=by simpa using Ap
   rw[h1,qr]
   simp[List.getElem?_eq_getElem (show i<Lib.pow10Tab.length by rw[Sr];exact hi)]
 · have h1:O.toList.length=20:=by rw[Af];exact cA
   rw[List.getElem?_eq_none (by omega),List.getElem?_eq_none (by simp[Sr];omega)]
theorem YJ (os:Os)(H:Type)(enc:TypeId×Value->H):∃(w:World) (tape:Tape) (i:Input),w.os=os/\(w.forCall tape i).Shaped Tryz.checked.prog/\i.vars=[]/\Input.okWide Tryz.checked.prog (w.forCall tape i) .any w.heap.size 3 i/\
 ((Rows.riskIntegralsMatchReferenceSpec.pre enc Tryz.checked.prog Tryz.f3 Rows.riskIntegralsMatchReferenceRow.domain false (w.forCall tape i).memory i.args/\laidMetH Tryz.prog Rows.riskIntegralsMatchReferenceRow.laid (w.forCall tape i).memory)/\sizedMet enc Tryz.checked.prog Tryz.f3 (OpenSpec.ofChange Rows.riskIntegralsMatchReferenceSpec) false (w.forCall tape i).memory i.args)/\Assume.holds {} Tryz.checked.prog (lone (Frame.enter Tryz.checked.prog 3 i.args .normal) [] (w.forCall tape i)):=
 ChangeSpec.witness_shaped (enc:=enc) (C:=Tryz.checked) (os:=os) (X:=λw _=>laidMetH Tryz.prog Rows.riskIntegralsMatchReferenceRow.laid w) false (World.laidAll Tryz.prog os Rows.riskIntegralsMatchReferenceRow.laid)
  #[.agg #[.int .i64 0,.int .i64 0,.int .i64 0,.int .i64 0,.int .i64 0,.int .i64 0,.int .i64 0],.int .i64 0,.int .i64 0] 8 (World.laidAll_os _ _ _)
  (World.shaped_of_ZipB (by kernel_rfl) (by kernel_rfl)) (by kernel_rfl) (by kernel_rfl) (by kernel_rfl)
  (by rw[MakeChecks.laidMetH_plain _ _ _ (by kernel_rfl)];exact laidMet_laidAll _ (by kernel_rfl) (by kernel_rfl))
theorem WC:(Tryz.f3.params.toList.all λt=>Tryz.prog.readableRec t&&decide (t<Tryz.prog.types.size))=true:=by kernel_rfl
theorem lifted (os:Os)(started:os.Started)(H:Type)(enc:TypeId×Value->H):
 ReturnsInHanded {} Tryz.checked os 3 .any (λw args=>(Rows.riskIntegralsMatchReferenceSpec.pre enc Tryz.prog Tryz.f3 Rows.riskIntegralsMatchReferenceRow.domain false w args/\laidMetH Tryz.prog Rows.riskIntegralsMatchReferenceRow.laid w)/\sizedMet enc Tryz.prog Tryz.f3 (OpenSpec.ofChange Rows.riskIntegralsMatchReferenceSpec) false w args)
  (Rows.riskIntegralsMatchReferenceSpec.post enc Tryz.prog Tryz.f3 false true false false):=by
 refine returnsInHanded_of_calls (C:=Tryz.checked) XP started (by kernel_rfl) (YJ os H enc) ?_
 intro w qn i _ hS _ A2 Ab _
 obtain⟨_,_,_,Aq,Ap,_,_,_,_,O⟩:=A2
 have e:Aq=Tryz.f3:=qb4 (Ap.symm.trans Tryz.func3)
 subst e
 obtain⟨⟨⟨ds,Ax,before,Aw,hc⟩,hx⟩,EW⟩:=Ab
 have hW:DataW.Whole enc Tryz.prog Tryz.f3.params.toList Rows.riskIntegralsMatchReferenceSpec.vars false (w.forCall qn i) i.args.toList ds Ax before:=DataW.Whole.of_heap (w':=w.forCall qn i) (by rfl) Aw
 have ht:Tb (w.forCall qn i):=WB hS (hx.of_heap (by rfl))
 generalize w.forCall qn i=W at hW ht O ⊢
 generalize w.heap.size=b0 at O
 generalize i.args=args at hW O ⊢
 have qr:∀(j:Nat) t v,Tryz.f3.params[j]?=some t->args[j]?=some v->Value.okWide Tryz.prog W .any b0 t v:=O
 have hW':=hW
 obtain⟨p,q,hA,hV,rfl,_,_⟩:=hW
 obtain⟨rfl,rfl⟩:=trodVars_none hV
 have hA':=hA
 rw[Tryz.params3]at hA qr
 obtain⟨args⟩:=args
 obtain⟨Ad,EP,E9,EE,_,_,rfl,rfl,⟨E7,Ar⟩,hA⟩:=rq hA
 obtain⟨v1,_,_,_,_,_,rfl,rfl,h1,hA⟩:=rq hA
 obtain⟨v2,_,_,_,_,_,rfl,rfl,h2,hA⟩:=rq hA
 obtain⟨rfl,rfl⟩:=J3 hA
 obtain⟨_,_,_,_,_,_,_,rfl,Av,E4,Ay,As,E1,E0,Am⟩:=J4 (qr 0 22 Ad rfl rfl) Ar
 obtain⟨_,rfl,rfl,_,Ao⟩:=open_int Tryz.underlying3 (qr 1 3 v1 rfl rfl) h1
 obtain⟨_,rfl,rfl,_,Af⟩:=open_int Tryz.underlying3 (qr 2 3 v2 rfl rfl) h2
 refine(iy (w:=W) Av E4 Ay As E1 E0 Am (Ss Ao) (Ss Af) ht).mono λe W' hr=>?_
 match e,hr with
 | .returned v,hr=>
   obtain⟨k,rfl⟩:=hr
   have A1:=hW'.lt
   refine ChangeSpec.post_blind (P:=Tryz.prog) ?_
   refine⟨_,[],_,[],_,[],hW',trodAll_mk1 (shut_bool Tryz.underlying4 true),wK k (λt ht=>?_) hA' (λx hx=>A1 x (by simp[hx])) (λx hx=>?_),rfl,World.keptBut.congr (World.keptBut_refl _ _) k.os k.output (λi hi=>k.block i hi),λh=>by cases h⟩
   · have:=List.all_eq_true.1 WC t ht
     simpa using this
   · simpa using A1 x (by simp[hx])
theorem row_holds:Rows.RiskIntegralsMatchReferenceSaid:=
 OpenClaim.holds_of_wide 3 Tryz.f3 rfl rfl rfl rfl rfl rfl rfl ⟨rfl,rfl,rfl,rfl,rfl⟩ rfl rfl rfl rfl rfl (by kernel_rfl) Tryz.func3 (by kernel_rfl)
  (of_decide_eq_true (by kernel_rfl)) (by unfold Func.isWrapper;first|(rw[if_pos (by decide +kernel)];kernel_rfl)|(rw[if_neg (by decide +kernel)];exact⟨rfl,rfl⟩))
  (λos started H enc _=>lifted os started H enc)
theorem card_holds:Rows.RiskIntegralsMatchReferenceCardSaid:=
 Claim7.holds_tied_plain_at .later [] [.data, .data, .data, .data, .sentinel, .sentinel, .sentinel, .pinned] true (true, "227f22d5e2cf16ff76b6678830a01a95b4c6683d73854d1968eb0156927987b4") true row_holds (fun _ h => by cases h) (by kernel_rfl) (fun _ h => by cases h) riskIntegralsMatchReference_row_tie rfl ⟨rfl, rfl⟩ (by kernel_rfl) rfl
  (λf fn hf O=>by
   obtain rfl : f = 3 := qb4 ((show Tryz.prog.funcNamed "yardstick/yardsticklaw15.RiskIntegralsMatchReference" = some 3 by kernel_rfl).symm.trans hf) |>.symm
   obtain rfl:fn=Tryz.f3:=(qb4 (Tryz.func3.symm.trans O)).symm
   exact⟨by kernel_rfl,λj t ht=>by
    rw[Tryz.params3]at ht
    have hm:t∈[22,3,3]:=by simpa using Array.mem_of_getElem? ht
    have qr:([22,3,3].all λu=>!Tryz.prog.wantsStandIn u)=true:=by kernel_rfl
    exact(show Tryz.prog.wantsStandIn t=false by simpa using List.all_eq_true.1 qr t hm)⟩)
  (by kernel_rfl)
#print axioms card_holds
end RiskIntegralsMatchReference
end Go.Proofs.YthpinljhfnodeaaGreatDoor
