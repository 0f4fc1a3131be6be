/- For every case, if the covariance is multiplied by a positive number, the values of the fit stay the same, and what depends on it is scaled. No conditions. -/
import Derived.Test.YtlmihmlnpjkblaaGreatDoorJAdjustScaledS
import Derived.Test.YtlmihmlnpjkblaaGreatDoorSp11ToAjYS
set_option linter.all false
namespace Go.Proofs.YtlmihmlnpjkblaaGreatDoor
set_option maxRecDepth 100000
open Go Go.ChangeShapes Go.WideShapes Go.ChangeAt Go.RowKit Go.Deep Go.Eng
namespace AdjustScaled
theorem YC {W:World}(hS:W.ShapedOpen Tryz.prog)(h:laidMetH Tryz.prog Rows.adjustScaledRow.laid W):Tb W:=by
 rw[MakeChecks.laidMetH_plain _ _ _ (by kernel_rfl)]at h
 obtain⟨ps,⟨_,_,_,_,_,_,_,_,_,_,⟨_,_,_,_,_,_,_,_,_,_,⟨g,t,cs,fuel,p,q,A2,ht,hv,hd,_,_⟩,_⟩,_⟩,_,_⟩:=h
 obtain rfl:=qb5 (Ya.symm.trans A2)
 obtain rfl:=qb5 (ZO.symm.trans ht)
 obtain⟨z,A1⟩:=ZP
 obtain⟨cs',G,_⟩:=hS.1 4 z 306 ZQ A1
 have hc:cs'=cs:=by
  have:=hv
  simp only[World.var?,Ya,Option.bind_some,G]at this
  exact qb5 this
 subst hc
 obtain⟨xs,m,_,ex,Ab,_,H⟩:=DataW.trod_array Tryz.underlying306 hd
 have A0:xs.map (·.1)=Lib.pow10Tab.map λz=>DataW.lit (.int .u64 z):=by
  have:=(Prod.mk.inj ex).1
  rw[ZR]at this
  exact(DataW.agg.inj this).symm
 rw[cU]at H
 refine⟨(0,0),G.trans (qb2 (λc=>some (Obj.cells c 306)) ?_)⟩
 apply Array.ext'
 apply List.ext_getElem?
 intro i
 by_cases hi:i<20
 · have hE:=H i hi
   rw[Nat.mul_one,List.getElem?_eq_getElem (by omega)]at hE
   obtain⟨z,e1,e2,_⟩:=DataW.trod_int uU hE
   have E:(xs.map (·.1))[i]?=(Lib.pow10Tab.map λn=>(DataW.lit (.int .u64 n):DataW Unit))[i]?:=by rw[A0]
   rw[List.getElem?_map,List.getElem?_map,List.getElem?_eq_getElem (by omega:i<xs.length),List.getElem?_eq_getElem (by rw[Vd];exact hi),e2]at E
   simp only[Option.map_some,Option.some.injEq,DataW.lit.injEq,Lit.int.injEq,true_and]at E
   have O:((cs'.toList.drop i).take 1)[0]?=some (.int .u64 z):=by rw[e1];rfl
   have h1:cs'.toList[i]?=some (.int .u64 z):=by simpa using O
   rw[h1,E]
   simp[List.getElem?_eq_getElem (show i<Lib.pow10Tab.length by rw[Vd];exact hi)]
 · have h1:cs'.toList.length=20:=by rw[Ab];exact cA
   rw[List.getElem?_eq_none (by omega),List.getElem?_eq_none (by simp[Vd];omega)]
theorem YD {W:World}(hS:W.ShapedOpen Tryz.prog)(h:laidMetH Tryz.prog Rows.adjustScaledRow.laid W):∃a,Er W a:=by
 rw[MakeChecks.laidMetH_plain _ _ _ (by kernel_rfl)]at h
 exact Ve hS h.tail.tail.tail.tail.tail.tail.tail
theorem Z9 (os:Os)(H:Type)(enc:TypeId×Value->H):∃(w:World) (tape:Tape) (i:Input),w.os=os/\(w.forCall tape i).Shaped Tryz.checked.prog/\i.vars=[]/\Input.okWide Tryz.checked.prog (w.forCall tape i) .any w.heap.size 3 i/\
 ((Rows.adjustScaledSpec.pre enc Tryz.checked.prog Tryz.f3 Rows.adjustScaledRow.domain false (w.forCall tape i).memory i.args/\laidMetH Tryz.prog Rows.adjustScaledRow.laid (w.forCall tape i).memory)/\sizedMet enc Tryz.checked.prog Tryz.f3 (OpenSpec.ofChange Rows.adjustScaledSpec) false (w.forCall tape i).memory i.args)/\Assume.holds {} Tryz.checked.prog (lone (Frame.enter Tryz.checked.prog 3 i.args .normal) [] (w.forCall tape i)):=
 ChangeSpec.witness_shaped (enc:=enc) (C:=Tryz.checked) (os:=os) (X:=λw _=>laidMetH Tryz.prog Rows.adjustScaledRow.laid w) false (World.laidAll Tryz.prog os Rows.adjustScaledRow.laid)
  #[.agg #[.int .i64 0,.int .i64 0,.slice none 0 0],.agg #[.int .i64 0,.int .i64 0]] 8 (World.laidAll_os _ _ _)
  (World.shaped_of_ZipB (by kernel_rfl) (by kernel_rfl)) (by kernel_rfl) (by kernel_rfl) (by kernel_rfl)
  (by rw[MakeChecks.laidMetH_plain _ _ _ (by kernel_rfl)];exact laidMet_laidAll _ (by kernel_rfl) (by kernel_rfl))
theorem YE:(Tryz.f3.params.toList.all λt=>Tryz.prog.readableRec t&&decide (t<Tryz.prog.types.size))=true:=by kernel_rfl
theorem lifted (os:Os)(started:os.Started)(H:Type)(enc:TypeId×Value->H):
 ReturnsInHanded {} Tryz.checked os 3 .any (λw args=>(Rows.adjustScaledSpec.pre enc Tryz.prog Tryz.f3 Rows.adjustScaledRow.domain false w args/\laidMetH Tryz.prog Rows.adjustScaledRow.laid w)/\sizedMet enc Tryz.prog Tryz.f3 (OpenSpec.ofChange Rows.adjustScaledSpec) false w args)
  (Rows.adjustScaledSpec.post enc Tryz.prog Tryz.f3 false true false false):=by
 refine returnsInHanded_of_calls (C:=Tryz.checked) ZN started (by kernel_rfl) (Z9 os H enc) ?_
 intro w G i _ hS _ Ab Ap _
 obtain⟨_,_,_,Af,Av,_,_,_,_,E⟩:=Ab
 have e:Af=Tryz.f3:=qb5 (Av.symm.trans Tryz.func3)
 subst e
 obtain⟨⟨⟨ds,Aq,before,Ar,hc⟩,hx⟩,Az⟩:=Ap
 have hW:DataW.Whole enc Tryz.prog Tryz.f3.params.toList Rows.adjustScaledSpec.vars false (w.forCall G i) i.args.toList ds Aq before:=DataW.Whole.of_heap (w':=w.forCall G i) (by rfl) Ar
 have ht:Tb (w.forCall G i):=YC hS (hx.of_heap (by rfl))
 obtain⟨_,hE⟩:=YD hS (hx.of_heap (by rfl))
 generalize w.forCall G i=W at hW ht hE E ⊢
 generalize w.heap.size=b0 at E
 generalize i.args=args at hW E ⊢
 have O:∀(j:Nat) t v,Tryz.f3.params[j]?=some t->args[j]?=some v->Value.okWide Tryz.prog W .any b0 t v:=E
 have hW':=hW
 obtain⟨p,q,hA,hV,rfl,_,_⟩:=hW
 obtain⟨rfl,rfl⟩:=trodVars_none hV
 have hA':=hA
 rw[Tryz.params3]at hA O
 obtain⟨args⟩:=args
 obtain⟨v0,B2,Ay,C0,_,_,rfl,rfl,⟨B1,A2⟩,hA⟩:=xm hA
 obtain⟨v1,r1,Ax,B0,_,_,rfl,rfl,⟨f1,h1⟩,hA⟩:=xm hA
 obtain⟨rfl,rfl⟩:=Mk hA
 obtain⟨_,_,_,_,_,rfl,Aw,As,Am,_,A1⟩:=Qc (O 0 24 v0 rfl rfl) A2
 obtain⟨_,_,rfl,Ao,A0⟩:=P9 (O 1 25 v1 rfl rfl) h1
 refine(ri (w:=W) Aw As Ao A0 Am A1 hE ht).mono λe W' hr=>?_
 match e,hr with
 | .returned v,hr=>
   obtain⟨k,rfl⟩:=hr
   have hlt:=hW'.lt
   refine ChangeSpec.post_blind (P:=Tryz.prog) ?_
   refine⟨_,[],_,[],_,[],hW',trodAll_mk1 (shut_bool Tryz.underlying4 true),xo k (λt ht=>?_) hA' (λx hx=>hlt x (by simp[hx])) (λx hx=>?_),rfl,World.keptBut.congr (World.keptBut_refl _ _) k.os k.output (λi hi=>k.block i hi),λh=>by cases h⟩
   · have:=List.all_eq_true.1 YE t ht
     simpa using this
   · simpa using hlt x (by simp[hx])
theorem row_holds:Rows.AdjustScaledSaid:=
 OpenClaim.holds_of_wide 3 Tryz.f3 rfl rfl rfl rfl rfl rfl rfl ⟨rfl,rfl,rfl,rfl,rfl⟩ rfl rfl rfl rfl rfl (by kernel_rfl) Tryz.func3 jf
  (of_decide_eq_true (by kernel_rfl)) (by unfold Func.isWrapper;first|(rw[if_pos (by decide +kernel)];kernel_rfl)|(rw[if_neg (by decide +kernel)];exact⟨rfl,rfl⟩))
  (λos started H enc _=>lifted os started H enc)
theorem card_holds:Rows.AdjustScaledCardSaid:=
 Claim7.holds_tied_plain_at .later [] [.data, .data, .data, .data, .sentinel, .sentinel, .sentinel, .sentinel, .pinned] true (true, "34815ec5d82b391dc384656a681cf5d0d46628e25bea1cb3c065010962aef233") true row_holds (fun _ h => by cases h) (by kernel_rfl) (fun _ h => by cases h) adjustScaled_row_tie rfl ⟨rfl, rfl⟩ (by kernel_rfl) rfl
  (λf fn hf E=>by
   obtain rfl : f = 3 := qb5 ((show Tryz.prog.funcNamed "yardstick/yardsticklaw14.AdjustScaled" = some 3 by kernel_rfl).symm.trans hf) |>.symm
   obtain rfl:fn=Tryz.f3:=(qb5 (Tryz.func3.symm.trans E)).symm
   exact⟨by kernel_rfl,λj t ht=>by
    rw[Tryz.params3]at ht
    have hm:t∈[24,25]:=by simpa using Array.mem_of_getElem? ht
    have G:([24,25].all λu=>!Tryz.prog.wantsStandIn u)=true:=by kernel_rfl
    exact(show Tryz.prog.wantsStandIn t=false by simpa using List.all_eq_true.1 G t hm)⟩)
  (by kernel_rfl)
#print axioms card_holds
end AdjustScaled
end Go.Proofs.YtlmihmlnpjkblaaGreatDoor
