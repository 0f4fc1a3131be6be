/- For every case, no other values have a smaller sum of squares than those of the fit. No conditions. -/
import Derived.Test.YtlmihmlnpjkblaaGreatDoorJAdjustLeastL
import Derived.Test.YtlmihmlnpjkblaaGreatDoorEnc3ToAjSL
set_option linter.all false
namespace Go.Proofs.YtlmihmlnpjkblaaGreatDoor
set_option maxRecDepth 100000
open Go Go.ChangeShapes Go.WideShapes Go.ChangeAt Go.RowKit Go.Deep Go.Eng
namespace AdjustLeast
theorem Ys {W:World}(hS:W.ShapedOpen Tryz.prog)(h:laidMetH Tryz.prog Rows.adjustLeastRow.laid W):Tb W:=by
 rw[MakeChecks.laidMetH_plain _ _ _ (by kernel_rfl)]at h
 obtain⟨ps,⟨_,_,_,_,_,_,_,_,_,_,⟨_,_,_,_,_,_,_,_,_,_,⟨g,t,cs,fuel,p,q,A0,ht,hv,hd,_,_⟩,_⟩,_⟩,_,_⟩:=h
 obtain rfl:=qb5 (X1.symm.trans A0)
 obtain rfl:=qb5 (ZF.symm.trans ht)
 obtain⟨z,O⟩:=ZG
 obtain⟨cs',H,_⟩:=hS.1 4 z 306 ZH O
 have hc:cs'=cs:=by
  have:=hv
  simp only[World.var?,X1,Option.bind_some,H]at this
  exact qb5 this
 subst hc
 obtain⟨xs,m,_,ex,Af,_,G⟩:=DataW.trod_array Tryz.underlying306 hd
 have A2:xs.map (·.1)=Lib.pow10Tab.map λz=>DataW.lit (.int .u64 z):=by
  have:=(Prod.mk.inj ex).1
  rw[ZI]at this
  exact(DataW.agg.inj this).symm
 rw[cU]at G
 refine⟨(0,0),H.trans (qb2 (λc=>some (Obj.cells c 306)) ?_)⟩
 apply Array.ext'
 apply List.ext_getElem?
 intro i
 by_cases hi:i<20
 · have hE:=G i hi
   rw[Nat.mul_one,List.getElem?_eq_getElem (by omega)]at hE
   obtain⟨z,A1,e2,_⟩:=DataW.trod_int uU hE
   have E:(xs.map (·.1))[i]?=(Lib.pow10Tab.map λn=>(DataW.lit (.int .u64 n):DataW Unit))[i]?:=by rw[A2]
   rw[List.getElem?_map,List.getElem?_map,List.getElem?_eq_getElem (by omega:i<xs.length),List.getElem?_eq_getElem (by rw[UX];exact hi),e2]at E
   simp only[Option.map_some,Option.some.injEq,DataW.lit.injEq,Lit.int.injEq,true_and]at E
   have Ab:((cs'.toList.drop i).take 1)[0]?=some (.int .u64 z):=by rw[A1];rfl
   have h1:cs'.toList[i]?=some (.int .u64 z):=by simpa using Ab
   rw[h1,E]
   simp[List.getElem?_eq_getElem (show i<Lib.pow10Tab.length by rw[UX];exact hi)]
 · have h1:cs'.toList.length=20:=by rw[Af];exact cA
   rw[List.getElem?_eq_none (by omega),List.getElem?_eq_none (by simp[UX];omega)]
theorem Yt {W:World}(hS:W.ShapedOpen Tryz.prog)(h:laidMetH Tryz.prog Rows.adjustLeastRow.laid W):∃a,Er W a:=by
 rw[MakeChecks.laidMetH_plain _ _ _ (by kernel_rfl)]at h
 exact UY hS h.tail.tail.tail.tail.tail.tail.tail
theorem Z1 (os:Os)(H:Type)(enc:TypeId×Value->H):∃(w:World) (tape:Tape) (i:Input),w.os=os/\(w.forCall tape i).Shaped Tryz.checked.prog/\i.vars=[]/\Input.okWide Tryz.checked.prog (w.forCall tape i) .any w.heap.size 7 i/\
 ((Rows.adjustLeastSpec.pre enc Tryz.checked.prog Tryz.f7 Rows.adjustLeastRow.domain false (w.forCall tape i).memory i.args/\laidMetH Tryz.prog Rows.adjustLeastRow.laid (w.forCall tape i).memory)/\sizedMet enc Tryz.checked.prog Tryz.f7 (OpenSpec.ofChange Rows.adjustLeastSpec) false (w.forCall tape i).memory i.args)/\Assume.holds {} Tryz.checked.prog (lone (Frame.enter Tryz.checked.prog 7 i.args .normal) [] (w.forCall tape i)):=
 ChangeSpec.witness_shaped (enc:=enc) (C:=Tryz.checked) (os:=os) (X:=λw _=>laidMetH Tryz.prog Rows.adjustLeastRow.laid w) false (World.laidAll Tryz.prog os Rows.adjustLeastRow.laid)
  #[.agg #[.int .i64 0,.int .i64 0,.slice none 0 0],.agg #[.int .i64 0,.int .i64 0]] 8 (World.laidAll_os _ _ _)
  (World.shaped_of_ZipB (by kernel_rfl) (by kernel_rfl)) (by kernel_rfl) (by kernel_rfl) (by kernel_rfl)
  (by rw[MakeChecks.laidMetH_plain _ _ _ (by kernel_rfl)];exact laidMet_laidAll _ (by kernel_rfl) (by kernel_rfl))
theorem Yu:(Tryz.f7.params.toList.all λt=>Tryz.prog.readableRec t&&decide (t<Tryz.prog.types.size))=true:=by kernel_rfl
theorem lifted (os:Os)(started:os.Started)(H:Type)(enc:TypeId×Value->H):
 ReturnsInHanded {} Tryz.checked os 7 .any (λw args=>(Rows.adjustLeastSpec.pre enc Tryz.prog Tryz.f7 Rows.adjustLeastRow.domain false w args/\laidMetH Tryz.prog Rows.adjustLeastRow.laid w)/\sizedMet enc Tryz.prog Tryz.f7 (OpenSpec.ofChange Rows.adjustLeastSpec) false w args)
  (Rows.adjustLeastSpec.post enc Tryz.prog Tryz.f7 false true false false):=by
 refine returnsInHanded_of_calls (C:=Tryz.checked) ZE started (by kernel_rfl) (Z1 os H enc) ?_
 intro w E i _ hS _ A0 Ap _
 obtain⟨_,_,_,Ab,Af,_,_,_,_,G⟩:=A0
 have e:Ab=Tryz.f7:=qb5 (Af.symm.trans Tryz.func7)
 subst e
 obtain⟨⟨⟨ds,Ao,before,Aw,hc⟩,hx⟩,B2⟩:=Ap
 have hW:DataW.Whole enc Tryz.prog Tryz.f7.params.toList Rows.adjustLeastSpec.vars false (w.forCall E i) i.args.toList ds Ao before:=DataW.Whole.of_heap (w':=w.forCall E i) (by rfl) Aw
 have ht:Tb (w.forCall E i):=Ys hS (hx.of_heap (by rfl))
 obtain⟨_,hE⟩:=Yt hS (hx.of_heap (by rfl))
 generalize w.forCall E i=W at hW ht hE G ⊢
 generalize w.heap.size=b0 at G
 generalize i.args=args at hW G ⊢
 have O:∀(j:Nat) t v,Tryz.f7.params[j]?=some t->args[j]?=some v->Value.okWide Tryz.prog W .any b0 t v:=G
 have hW':=hW
 obtain⟨p,q,hA,hV,rfl,_,_⟩:=hW
 obtain⟨rfl,rfl⟩:=trodVars_none hV
 have hA':=hA
 rw[Tryz.params7]at hA O
 obtain⟨args⟩:=args
 obtain⟨v0,Ax,CB,Ay,_,_,rfl,rfl,⟨Az,A1⟩,hA⟩:=xa hA
 obtain⟨v1,r1,B1,C1,_,_,rfl,rfl,⟨f1,h1⟩,hA⟩:=xa hA
 obtain⟨rfl,rfl⟩:=Ma hA
 obtain⟨_,_,_,_,_,rfl,Am,A2,Ar,_,Aq⟩:=PO (O 0 24 v0 rfl rfl) A1
 obtain⟨_,_,rfl,As,Av⟩:=PK (O 1 25 v1 rfl rfl) h1
 refine(r7 (w:=W) Yr Am A2 As Av Ar Aq hE ht).mono λe W' hr=>?_
 match e,hr with
 | .returned v,hr=>
   obtain⟨k,rfl⟩:=hr
   have hlt:=hW'.lt
   refine ChangeSpec.post_blind (P:=Tryz.prog) ?_
   refine⟨_,[],_,[],_,[],hW',trodAll_mk1 (shut_bool Tryz.underlying4 true),xb k (λt ht=>?_) hA' (λx hx=>hlt x (by simp[hx])) (λx hx=>?_),rfl,World.keptBut.congr (World.keptBut_refl _ _) k.os k.output (λi hi=>k.block i hi),λh=>by cases h⟩
   · have:=List.all_eq_true.1 Yu t ht
     simpa using this
   · simpa using hlt x (by simp[hx])
theorem row_holds:Rows.AdjustLeastSaid:=
 OpenClaim.holds_of_wide 7 Tryz.f7 rfl rfl rfl rfl rfl rfl rfl ⟨rfl,rfl,rfl,rfl,rfl⟩ rfl rfl rfl rfl rfl (by kernel_rfl) Tryz.func7 jf
  (of_decide_eq_true (by kernel_rfl)) (by unfold Func.isWrapper;first|(rw[if_pos (by decide +kernel)];kernel_rfl)|(rw[if_neg (by decide +kernel)];exact⟨rfl,rfl⟩))
  (λos started H enc _=>lifted os started H enc)
theorem card_holds:Rows.AdjustLeastCardSaid:=
 Claim7.holds_tied_plain_at .later [] [.data, .data, .data, .data, .sentinel, .sentinel, .sentinel, .sentinel, .pinned] true (true, "34815ec5d82b391dc384656a681cf5d0d46628e25bea1cb3c065010962aef233") true row_holds (fun _ h => by cases h) (by kernel_rfl) (fun _ h => by cases h) adjustLeast_row_tie rfl ⟨rfl, rfl⟩ (by kernel_rfl) rfl
  (λf fn hf G=>by
   obtain rfl : f = 7 := qb5 ((show Tryz.prog.funcNamed "yardstick/yardsticklaw14.AdjustLeast" = some 7 by kernel_rfl).symm.trans hf) |>.symm
   obtain rfl:fn=Tryz.f7:=(qb5 (Tryz.func7.symm.trans G)).symm
   exact⟨by kernel_rfl,λj t ht=>by
    rw[Tryz.params7]at ht
    have hm:t∈[24,25]:=by simpa using Array.mem_of_getElem? ht
    have E:([24,25].all λu=>!Tryz.prog.wantsStandIn u)=true:=by kernel_rfl
    exact(show Tryz.prog.wantsStandIn t=false by simpa using List.all_eq_true.1 E t hm)⟩)
  (by kernel_rfl)
#print axioms card_holds
end AdjustLeast
end Go.Proofs.YtlmihmlnpjkblaaGreatDoor
