/- For every case, if two rows are exchanged, together with their readings and covariances, the fit stays the same. No conditions. -/
import Derived.Test.YtlmihmlnpjkblaaGreatDoorJAdjustExchangedG
import Derived.Test.YtlmihmlnpjkblaaGreatDoorSp14ToAjXG
set_option linter.all false
namespace Go.Proofs.YtlmihmlnpjkblaaGreatDoor
set_option maxRecDepth 100000
open Go Go.ChangeShapes Go.WideShapes Go.ChangeAt Go.RowKit Go.Deep Go.Eng
namespace AdjustExchanged
theorem Yq {W:World}(hS:W.ShapedOpen Tryz.prog)(h:laidMetH Tryz.prog Rows.adjustExchangedRow.laid W):Tb W:=by
 rw[MakeChecks.laidMetH_plain _ _ _ (by kernel_rfl)]at h
 obtain⟨ps,⟨_,_,_,_,_,_,_,_,_,_,⟨_,_,_,_,_,_,_,_,_,_,⟨g,t,cs,fuel,p,q,A1,ht,hv,hd,_,_⟩,_⟩,_⟩,_,_⟩:=h
 obtain rfl:=qb5 (XY.symm.trans A1)
 obtain rfl:=qb5 (ZB.symm.trans ht)
 obtain⟨z,A2⟩:=ZC
 obtain⟨cs',H,_⟩:=hS.1 4 z 306 ZD A2
 have hc:cs'=cs:=by
  have:=hv
  simp only[World.var?,XY,Option.bind_some,H]at this
  exact qb5 this
 subst hc
 obtain⟨xs,m,_,ex,A0,_,G⟩:=DataW.trod_array Tryz.underlying306 hd
 have Ab:xs.map (·.1)=Lib.pow10Tab.map λz=>DataW.lit (.int .u64 z):=by
  have:=(Prod.mk.inj ex).1
  rw[ZE]at this
  exact(DataW.agg.inj this).symm
 rw[cU]at G
 refine⟨(0,0),H.trans (qb2 (λc=>some (Obj.cells c 306)) ?_)⟩
 apply Array.ext'
 apply List.ext_getElem?
 intro i
 by_cases hi:i<20
 · have hE:=G i hi
   rw[Nat.mul_one,List.getElem?_eq_getElem (by omega)]at hE
   obtain⟨z,e1,e2,_⟩:=DataW.trod_int uU hE
   have E:(xs.map (·.1))[i]?=(Lib.pow10Tab.map λn=>(DataW.lit (.int .u64 n):DataW Unit))[i]?:=by rw[Ab]
   rw[List.getElem?_map,List.getElem?_map,List.getElem?_eq_getElem (by omega:i<xs.length),List.getElem?_eq_getElem (by rw[UP];exact hi),e2]at E
   simp only[Option.map_some,Option.some.injEq,DataW.lit.injEq,Lit.int.injEq,true_and]at E
   have O:((cs'.toList.drop i).take 1)[0]?=some (.int .u64 z):=by rw[e1];rfl
   have h1:cs'.toList[i]?=some (.int .u64 z):=by simpa using O
   rw[h1,E]
   simp[List.getElem?_eq_getElem (show i<Lib.pow10Tab.length by rw[UP];exact hi)]
 · have h1:cs'.toList.length=20:=by rw[A0];exact cA
   rw[List.getElem?_eq_none (by omega),List.getElem?_eq_none (by simp[UP];omega)]
theorem Yr {W:World}(hS:W.ShapedOpen Tryz.prog)(h:laidMetH Tryz.prog Rows.adjustExchangedRow.laid W):∃a,Er W a:=by
 rw[MakeChecks.laidMetH_plain _ _ _ (by kernel_rfl)]at h
 exact UQ hS h.tail.tail.tail.tail.tail.tail.tail
theorem ZX (os:Os)(H:Type)(enc:TypeId×Value->H):∃(w:World) (tape:Tape) (i:Input),w.os=os/\(w.forCall tape i).Shaped Tryz.checked.prog/\i.vars=[]/\Input.okWide Tryz.checked.prog (w.forCall tape i) .any w.heap.size 4 i/\
 ((Rows.adjustExchangedSpec.pre enc Tryz.checked.prog Tryz.f4 Rows.adjustExchangedRow.domain false (w.forCall tape i).memory i.args/\laidMetH Tryz.prog Rows.adjustExchangedRow.laid (w.forCall tape i).memory)/\sizedMet enc Tryz.checked.prog Tryz.f4 (OpenSpec.ofChange Rows.adjustExchangedSpec) false (w.forCall tape i).memory i.args)/\Assume.holds {} Tryz.checked.prog (lone (Frame.enter Tryz.checked.prog 4 i.args .normal) [] (w.forCall tape i)):=
 ChangeSpec.witness_shaped (enc:=enc) (C:=Tryz.checked) (os:=os) (X:=λw _=>laidMetH Tryz.prog Rows.adjustExchangedRow.laid w) false (World.laidAll Tryz.prog os Rows.adjustExchangedRow.laid)
  #[.agg #[.int .i64 0,.int .i64 0,.slice none 0 0],.int .i64 0,.int .i64 0] 8 (World.laidAll_os _ _ _)
  (World.shaped_of_ZipB (by kernel_rfl) (by kernel_rfl)) (by kernel_rfl) (by kernel_rfl) (by kernel_rfl)
  (by rw[MakeChecks.laidMetH_plain _ _ _ (by kernel_rfl)];exact laidMet_laidAll _ (by kernel_rfl) (by kernel_rfl))
theorem Ys:(Tryz.f4.params.toList.all λt=>Tryz.prog.readableRec t&&decide (t<Tryz.prog.types.size))=true:=by kernel_rfl
theorem lifted (os:Os)(started:os.Started)(H:Type)(enc:TypeId×Value->H):
 ReturnsInHanded {} Tryz.checked os 4 .any (λw args=>(Rows.adjustExchangedSpec.pre enc Tryz.prog Tryz.f4 Rows.adjustExchangedRow.domain false w args/\laidMetH Tryz.prog Rows.adjustExchangedRow.laid w)/\sizedMet enc Tryz.prog Tryz.f4 (OpenSpec.ofChange Rows.adjustExchangedSpec) false w args)
  (Rows.adjustExchangedSpec.post enc Tryz.prog Tryz.f4 false true false false):=by
 refine returnsInHanded_of_calls (C:=Tryz.checked) ZA started (by kernel_rfl) (ZX os H enc) ?_
 intro w E i _ hS _ A1 Ao _
 obtain⟨_,_,_,A0,Aw,_,_,_,_,O⟩:=A1
 have e:A0=Tryz.f4:=qb5 (Aw.symm.trans Tryz.func4)
 subst e
 obtain⟨⟨⟨ds,Am,before,Aq,hc⟩,hx⟩,Ax⟩:=Ao
 have hW:DataW.Whole enc Tryz.prog Tryz.f4.params.toList Rows.adjustExchangedSpec.vars false (w.forCall E i) i.args.toList ds Am before:=DataW.Whole.of_heap (w':=w.forCall E i) (by rfl) Aq
 have ht:Tb (w.forCall E i):=Yq hS (hx.of_heap (by rfl))
 obtain⟨_,hE⟩:=Yr hS (hx.of_heap (by rfl))
 generalize w.forCall E i=W at hW ht hE O ⊢
 generalize w.heap.size=b0 at O
 generalize i.args=args at hW O ⊢
 have G:∀(j:Nat) t v,Tryz.f4.params[j]?=some t->args[j]?=some v->Value.okWide Tryz.prog W .any b0 t v:=O
 have hW':=hW
 obtain⟨p,q,hA,hV,rfl,_,_⟩:=hW
 obtain⟨rfl,rfl⟩:=trodVars_none hV
 have hA':=hA
 rw[Tryz.params4]at hA G
 obtain⟨args⟩:=args
 obtain⟨v0,Az,B0,Ay,_,_,rfl,rfl,⟨B1,Ap⟩,hA⟩:=q5 hA
 obtain⟨v1,_,_,_,_,_,rfl,rfl,h1,hA⟩:=q5 hA
 obtain⟨v2,_,_,_,_,_,rfl,rfl,h2,hA⟩:=q5 hA
 obtain⟨rfl,rfl⟩:=Me hA
 obtain⟨_,_,_,_,_,rfl,As,Ab,Av,_,A2⟩:=PS (G 0 24 v0 rfl rfl) Ap
 obtain⟨_,rfl,rfl,_,Af⟩:=open_int Tryz.underlying3 (G 1 3 v1 rfl rfl) h1
 obtain⟨_,rfl,rfl,_,Ar⟩:=open_int Tryz.underlying3 (G 2 3 v2 rfl rfl) h2
 refine(nw (w:=W) As Ab (PP Af) (PP Ar) Av A2 hE ht).mono λe W' hr=>?_
 match e,hr with
 | .returned v,hr=>
   obtain⟨k,rfl⟩:=hr
   have hlt:=hW'.lt
   refine ChangeSpec.post_blind (P:=Tryz.prog) ?_
   refine⟨_,[],_,[],_,[],hW',trodAll_mk1 (shut_bool Tryz.underlying4 true),xc k (λt ht=>?_) hA' (λx hx=>hlt x (by simp[hx])) (λx hx=>?_),rfl,World.keptBut.congr (World.keptBut_refl _ _) k.os k.output (λi hi=>k.block i hi),λh=>by cases h⟩
   · have:=List.all_eq_true.1 Ys t ht
     simpa using this
   · simpa using hlt x (by simp[hx])
theorem row_holds:Rows.AdjustExchangedSaid:=
 OpenClaim.holds_of_wide 4 Tryz.f4 rfl rfl rfl rfl rfl rfl rfl ⟨rfl,rfl,rfl,rfl,rfl⟩ rfl rfl rfl rfl rfl (by kernel_rfl) Tryz.func4 jf
  (of_decide_eq_true (by kernel_rfl)) (by unfold Func.isWrapper;first|(rw[if_pos (by decide +kernel)];kernel_rfl)|(rw[if_neg (by decide +kernel)];exact⟨rfl,rfl⟩))
  (λos started H enc _=>lifted os started H enc)
theorem card_holds:Rows.AdjustExchangedCardSaid:=
 Claim7.holds_tied_plain_at .later [] [.data, .data, .data, .data, .sentinel, .sentinel, .sentinel, .sentinel, .pinned] true (true, "34815ec5d82b391dc384656a681cf5d0d46628e25bea1cb3c065010962aef233") true row_holds (fun _ h => by cases h) (by kernel_rfl) (fun _ h => by cases h) adjustExchanged_row_tie rfl ⟨rfl, rfl⟩ (by kernel_rfl) rfl
  (λf fn hf E=>by
   obtain rfl : f = 4 := qb5 ((show Tryz.prog.funcNamed "yardstick/yardsticklaw14.AdjustExchanged" = some 4 by kernel_rfl).symm.trans hf) |>.symm
   obtain rfl:fn=Tryz.f4:=(qb5 (Tryz.func4.symm.trans E)).symm
   exact⟨by kernel_rfl,λj t ht=>by
    rw[Tryz.params4]at ht
    have hm:t∈[24,3,3]:=by simpa using Array.mem_of_getElem? ht
    have G:([24,3,3].all λu=>!Tryz.prog.wantsStandIn u)=true:=by kernel_rfl
    exact(show Tryz.prog.wantsStandIn t=false by simpa using List.all_eq_true.1 G t hm)⟩)
  (by kernel_rfl)
#print axioms card_holds
end AdjustExchanged
end Go.Proofs.YtlmihmlnpjkblaaGreatDoor
