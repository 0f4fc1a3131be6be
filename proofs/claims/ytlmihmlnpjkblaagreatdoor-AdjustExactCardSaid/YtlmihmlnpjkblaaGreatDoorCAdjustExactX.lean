/- For every case, if the readings are exactly those of some values, the fit has these values, and it is accepted at every level. No conditions. -/
import Derived.Test.YtlmihmlnpjkblaaGreatDoorJAdjustExactX
import Derived.Test.YtlmihmlnpjkblaaGreatDoorSp11ToAjHX
set_option linter.all false
namespace Go.Proofs.YtlmihmlnpjkblaaGreatDoor
set_option maxRecDepth 100000
open Go Go.ChangeShapes Go.WideShapes Go.ChangeAt Go.RowKit Go.Deep Go.Eng
namespace AdjustExact
theorem Yv {W:World}(hS:W.ShapedOpen Tryz.prog)(h:laidMetH Tryz.prog Rows.adjustExactRow.laid W):Tb W:=by
 rw[MakeChecks.laidMetH_plain _ _ _ (by kernel_rfl)]at h
 obtain⟨ps,⟨_,_,_,_,_,_,_,_,_,_,⟨_,_,_,_,_,_,_,_,_,_,⟨g,t,cs,fuel,p,q,A1,ht,hv,hd,_,_⟩,_⟩,_⟩,_,_⟩:=h
 obtain rfl:=qb5 (X3.symm.trans A1)
 obtain rfl:=qb5 (ZG.symm.trans ht)
 obtain⟨z,O⟩:=ZH
 obtain⟨cs',H,_⟩:=hS.1 4 z 306 ZI O
 have hc:cs'=cs:=by
  have:=hv
  simp only[World.var?,X3,Option.bind_some,H]at this
  exact qb5 this
 subst hc
 obtain⟨xs,m,_,ex,Ab,_,G⟩:=DataW.trod_array Tryz.underlying306 hd
 have Af:xs.map (·.1)=Lib.pow10Tab.map λz=>DataW.lit (.int .u64 z):=by
  have:=(Prod.mk.inj ex).1
  rw[ZJ]at this
  exact(DataW.agg.inj this).symm
 rw[cU]at G
 refine⟨(0,0),H.trans (qb2 (λc=>some (Obj.cells c 306)) ?_)⟩
 apply Array.ext'
 apply List.ext_getElem?
 intro i
 by_cases hi:i<20
 · have hE:=G i hi
   rw[Nat.mul_one,List.getElem?_eq_getElem (by omega)]at hE
   obtain⟨z,A0,e2,_⟩:=DataW.trod_int uU hE
   have E:(xs.map (·.1))[i]?=(Lib.pow10Tab.map λn=>(DataW.lit (.int .u64 n):DataW Unit))[i]?:=by rw[Af]
   rw[List.getElem?_map,List.getElem?_map,List.getElem?_eq_getElem (by omega:i<xs.length),List.getElem?_eq_getElem (by rw[UW];exact hi),e2]at E
   simp only[Option.map_some,Option.some.injEq,DataW.lit.injEq,Lit.int.injEq,true_and]at E
   have A2:((cs'.toList.drop i).take 1)[0]?=some (.int .u64 z):=by rw[A0];rfl
   have h1:cs'.toList[i]?=some (.int .u64 z):=by simpa using A2
   rw[h1,E]
   simp[List.getElem?_eq_getElem (show i<Lib.pow10Tab.length by rw[UW];exact hi)]
 · have h1:cs'.toList.length=20:=by rw[Ab];exact cA
   rw[List.getElem?_eq_none (by omega),List.getElem?_eq_none (by simp[UW];omega)]
theorem Yw {W:World}(hS:W.ShapedOpen Tryz.prog)(h:laidMetH Tryz.prog Rows.adjustExactRow.laid W):∃a,Er W a:=by
 rw[MakeChecks.laidMetH_plain _ _ _ (by kernel_rfl)]at h
 exact UX hS h.tail.tail.tail.tail.tail.tail.tail
theorem Z1 (os:Os)(H:Type)(enc:TypeId×Value->H):∃(w:World) (tape:Tape) (i:Input),w.os=os/\(w.forCall tape i).Shaped Tryz.checked.prog/\i.vars=[]/\Input.okWide Tryz.checked.prog (w.forCall tape i) .any w.heap.size 8 i/\
 ((Rows.adjustExactSpec.pre enc Tryz.checked.prog Tryz.f8 Rows.adjustExactRow.domain false (w.forCall tape i).memory i.args/\laidMetH Tryz.prog Rows.adjustExactRow.laid (w.forCall tape i).memory)/\sizedMet enc Tryz.checked.prog Tryz.f8 (OpenSpec.ofChange Rows.adjustExactSpec) false (w.forCall tape i).memory i.args)/\Assume.holds {} Tryz.checked.prog (lone (Frame.enter Tryz.checked.prog 8 i.args .normal) [] (w.forCall tape i)):=
 ChangeSpec.witness_shaped (enc:=enc) (C:=Tryz.checked) (os:=os) (X:=λw _=>laidMetH Tryz.prog Rows.adjustExactRow.laid w) false (World.laidAll Tryz.prog os Rows.adjustExactRow.laid)
  #[.agg #[.int .i64 0,.int .i64 0,.slice none 0 0],.agg #[.int .i64 0,.int .i64 0],.int .i64 0,.int .i64 0] 8 (World.laidAll_os _ _ _)
  (World.shaped_of_ZipB (by kernel_rfl) (by kernel_rfl)) (by kernel_rfl) (by kernel_rfl) (by kernel_rfl)
  (by rw[MakeChecks.laidMetH_plain _ _ _ (by kernel_rfl)];exact laidMet_laidAll _ (by kernel_rfl) (by kernel_rfl))
theorem Yx:(Tryz.f8.params.toList.all λt=>Tryz.prog.readableRec t&&decide (t<Tryz.prog.types.size))=true:=by kernel_rfl
theorem lifted (os:Os)(started:os.Started)(H:Type)(enc:TypeId×Value->H):
 ReturnsInHanded {} Tryz.checked os 8 .any (λw args=>(Rows.adjustExactSpec.pre enc Tryz.prog Tryz.f8 Rows.adjustExactRow.domain false w args/\laidMetH Tryz.prog Rows.adjustExactRow.laid w)/\sizedMet enc Tryz.prog Tryz.f8 (OpenSpec.ofChange Rows.adjustExactSpec) false w args)
  (Rows.adjustExactSpec.post enc Tryz.prog Tryz.f8 false true false false):=by
 refine returnsInHanded_of_calls (C:=Tryz.checked) ZF started (by kernel_rfl) (Z1 os H enc) ?_
 intro w O i _ hS _ A2 Av _
 obtain⟨_,_,_,Ap,Af,_,_,_,_,G⟩:=A2
 have e:Ap=Tryz.f8:=qb5 (Af.symm.trans Tryz.func8)
 subst e
 obtain⟨⟨⟨ds,A1,before,Ao,hc⟩,hx⟩,C1⟩:=Av
 have hW:DataW.Whole enc Tryz.prog Tryz.f8.params.toList Rows.adjustExactSpec.vars false (w.forCall O i) i.args.toList ds A1 before:=DataW.Whole.of_heap (w':=w.forCall O i) (by rfl) Ao
 have ht:Tb (w.forCall O i):=Yv hS (hx.of_heap (by rfl))
 obtain⟨_,hE⟩:=Yw hS (hx.of_heap (by rfl))
 generalize w.forCall O i=W at hW ht hE G ⊢
 generalize w.heap.size=b0 at G
 generalize i.args=args at hW G ⊢
 have E:∀(j:Nat) t v,Tryz.f8.params[j]?=some t->args[j]?=some v->Value.okWide Tryz.prog W .any b0 t v:=G
 have hW':=hW
 obtain⟨p,q,hA,hV,rfl,_,_⟩:=hW
 obtain⟨rfl,rfl⟩:=trodVars_none hV
 have hA':=hA
 rw[Tryz.params8]at hA E
 obtain⟨args⟩:=args
 obtain⟨v0,CB,CG,B1,_,_,rfl,rfl,⟨Az,Am⟩,hA⟩:=nc hA
 obtain⟨v1,r1,B0,B2,_,_,rfl,rfl,⟨f1,h1⟩,hA⟩:=nc hA
 obtain⟨v2,_,_,_,_,_,rfl,rfl,h2,hA⟩:=nc hA
 obtain⟨v3,_,_,_,_,_,rfl,rfl,h3,hA⟩:=nc hA
 obtain⟨rfl,rfl⟩:=Mg hA
 obtain⟨_,_,_,_,_,rfl,Ar,Ax,As,_,Ab⟩:=PY (E 0 24 v0 rfl rfl) Am
 obtain⟨_,_,rfl,A0,Ay⟩:=PV (E 1 25 v1 rfl rfl) h1
 obtain⟨_,rfl,rfl,_,Aw⟩:=open_int Tryz.underlying3 (E 2 3 v2 rfl rfl) h2
 obtain⟨_,rfl,rfl,_,Aq⟩:=open_int Tryz.underlying3 (E 3 3 v3 rfl rfl) h3
 refine(sB (w:=W) Ar Ax A0 Ay (Hy Aw) (Hy Aq) As Ab hE ht).mono λe W' hr=>?_
 match e,hr with
 | .returned v,hr=>
   obtain⟨k,rfl⟩:=hr
   have hlt:=hW'.lt
   refine ChangeSpec.post_blind (P:=Tryz.prog) ?_
   refine⟨_,[],_,[],_,[],hW',trodAll_mk1 (shut_bool Tryz.underlying4 true),xe k (λt ht=>?_) hA' (λx hx=>hlt x (by simp[hx])) (λx hx=>?_),rfl,World.keptBut.congr (World.keptBut_refl _ _) k.os k.output (λi hi=>k.block i hi),λh=>by cases h⟩
   · have:=List.all_eq_true.1 Yx t ht
     simpa using this
   · simpa using hlt x (by simp[hx])
theorem row_holds:Rows.AdjustExactSaid:=
 OpenClaim.holds_of_wide 8 Tryz.f8 rfl rfl rfl rfl rfl rfl rfl ⟨rfl,rfl,rfl,rfl,rfl⟩ rfl rfl rfl rfl rfl (by kernel_rfl) Tryz.func8 jf
  (of_decide_eq_true (by kernel_rfl)) (by unfold Func.isWrapper;first|(rw[if_pos (by decide +kernel)];kernel_rfl)|(rw[if_neg (by decide +kernel)];exact⟨rfl,rfl⟩))
  (λos started H enc _=>lifted os started H enc)
theorem card_holds:Rows.AdjustExactCardSaid:=
 Claim7.holds_tied_plain_at .later [] [.data, .data, .data, .data, .sentinel, .sentinel, .sentinel, .sentinel, .pinned] true (true, "34815ec5d82b391dc384656a681cf5d0d46628e25bea1cb3c065010962aef233") true row_holds (fun _ h => by cases h) (by kernel_rfl) (fun _ h => by cases h) adjustExact_row_tie rfl ⟨rfl, rfl⟩ (by kernel_rfl) rfl
  (λf fn hf E=>by
   obtain rfl : f = 8 := qb5 ((show Tryz.prog.funcNamed "yardstick/yardsticklaw14.AdjustExact" = some 8 by kernel_rfl).symm.trans hf) |>.symm
   obtain rfl:fn=Tryz.f8:=(qb5 (Tryz.func8.symm.trans E)).symm
   exact⟨by kernel_rfl,λj t ht=>by
    rw[Tryz.params8]at ht
    have hm:t∈[24,25,3,3]:=by simpa using Array.mem_of_getElem? ht
    have G:([24,25,3,3].all λu=>!Tryz.prog.wantsStandIn u)=true:=by kernel_rfl
    exact(show Tryz.prog.wantsStandIn t=false by simpa using List.all_eq_true.1 G t hm)⟩)
  (by kernel_rfl)
#print axioms card_holds
end AdjustExact
end Go.Proofs.YtlmihmlnpjkblaaGreatDoor
