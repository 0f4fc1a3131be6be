/- REMARK: the quantile of the special functions answers as the reference does on the grid of the claim. No conditions. -/
import Derived.Test.YtgcfffdpcefifaaGreatDoorTqAToTqB
set_option linter.all false
namespace Go.Proofs.YtgcfffdpcefifaaGreatDoor
set_option maxRecDepth 100000
open Go Go.ChangeShapes Go.WideShapes Go.ChangeAt Go.RowKit Go.Deep Go.Eng
namespace SpecialQuantileMatchesReference
theorem Ks {W:World}(hS:W.ShapedOpen Tryz.prog)(h:laidMetH Tryz.prog Rows.specialQuantileMatchesReferenceRow.laid W):Tb W:=by
 rw[MakeChecks.laidMetH_plain _ _ _ (by kernel_rfl)]at h
 obtain⟨ps,⟨_,_,_,_,_,_,_,_,_,_,⟨_,_,_,_,_,_,_,_,_,_,⟨g,t,cs,fuel,p,q,O,ht,hv,hd,_,_⟩,_⟩,_⟩,_,_⟩:=h
 obtain rfl:=qb4 (Kc.symm.trans O)
 obtain rfl:=qb4 (LG.symm.trans ht)
 obtain⟨z,Ab⟩:=LH
 obtain⟨D,G,_⟩:=hS.1 2 z 222 LI Ab
 have hc:D=cs:=by
  have:=hv
  simp only[World.var?,Kc,Option.bind_some,G]at this
  exact qb4 this
 subst hc
 obtain⟨xs,m,_,ex,A2,_,H⟩:=DataW.trod_array Tryz.underlying222 hd
 have kk:xs.map (·.1)=Lib.pow10Tab.map λz=>DataW.lit (.int .u64 z):=by
  have:=(Prod.mk.inj ex).1
  rw[LJ]at this
  exact(DataW.agg.inj this).symm
 rw[cU]at H
 refine⟨(0,0),G.trans (qb1 (λc=>some (Obj.cells c 222)) ?_)⟩
 apply Array.ext'
 apply List.ext_getElem?
 intro i
 by_cases hi:i<20
 · have hE:=H i hi
   rw[Nat.mul_one,List.getElem?_eq_getElem (by omega)]at hE
   obtain⟨z,Ad,A1,_⟩:=DataW.trod_int uU hE
   have E:(xs.map (·.1))[i]?=(Lib.pow10Tab.map λn=>(DataW.lit (.int .u64 n):DataW Unit))[i]?:=by rw[kk]
   rw[List.getElem?_map,List.getElem?_map,List.getElem?_eq_getElem (by omega:i<xs.length),List.getElem?_eq_getElem (by rw[HR];exact hi),A1]at E
   simp only[Option.map_some,Option.some.injEq,DataW.lit.injEq,Lit.int.injEq,true_and]at E
   have kd:((D.toList.drop i).take 1)[0]?=some (.int .u64 z):=by rw[Ad];rfl
   have h1:D.toList[i]?=some (.int .u64 z):=by simpa using kd
   rw[h1,E]
   simp[List.getElem?_eq_getElem (show i<Lib.pow10Tab.length by rw[HR];exact hi)]
 · have h1:D.toList.length=20:=by rw[A2];exact cA
   rw[List.getElem?_eq_none (by omega),List.getElem?_eq_none (by simp[HR];omega)]
theorem L6 (os:Os)(H:Type)(enc:TypeId×Value->H):∃(w:World) (tape:Tape) (i:Input),w.os=os/\(w.forCall tape i).Shaped Tryz.checked.prog/\i.vars=[]/\Input.okWide Tryz.checked.prog (w.forCall tape i) .any w.heap.size 3 i/\
 ((Rows.specialQuantileMatchesReferenceSpec.pre enc Tryz.checked.prog Tryz.f3 Rows.specialQuantileMatchesReferenceRow.domain false (w.forCall tape i).memory i.args/\laidMetH Tryz.prog Rows.specialQuantileMatchesReferenceRow.laid (w.forCall tape i).memory)/\sizedMet enc Tryz.checked.prog Tryz.f3 (OpenSpec.ofChange Rows.specialQuantileMatchesReferenceSpec) false (w.forCall tape i).memory i.args)/\Assume.holds {} Tryz.checked.prog (lone (Frame.enter Tryz.checked.prog 3 i.args .normal) [] (w.forCall tape i)):=
 ChangeSpec.witness_shaped (enc:=enc) (C:=Tryz.checked) (os:=os) (X:=λw _=>laidMetH Tryz.prog Rows.specialQuantileMatchesReferenceRow.laid w) false (World.laidAll Tryz.prog os Rows.specialQuantileMatchesReferenceRow.laid)
  #[.agg #[S [],S []],.int .i64 0,.int .i64 0,.int .i64 0] 8 (World.laidAll_os _ _ _)
  (World.shaped_of_ZipB (by kernel_rfl) (by kernel_rfl)) (by kernel_rfl) (by kernel_rfl) (by kernel_rfl)
  (by rw[MakeChecks.laidMetH_plain _ _ _ (by kernel_rfl)];exact laidMet_laidAll _ (by kernel_rfl) (by kernel_rfl))
theorem Kt:(Tryz.f3.params.toList.all λt=>Tryz.prog.readableRec t&&decide (t<Tryz.prog.types.size))=true:=by kernel_rfl
theorem lifted (os:Os)(started:os.Started)(H:Type)(enc:TypeId×Value->H):
 ReturnsInHanded {} Tryz.checked os 3 .any (λw args=>(Rows.specialQuantileMatchesReferenceSpec.pre enc Tryz.prog Tryz.f3 Rows.specialQuantileMatchesReferenceRow.domain false w args/\laidMetH Tryz.prog Rows.specialQuantileMatchesReferenceRow.laid w)/\sizedMet enc Tryz.prog Tryz.f3 (OpenSpec.ofChange Rows.specialQuantileMatchesReferenceSpec) false w args)
  (Rows.specialQuantileMatchesReferenceSpec.post enc Tryz.prog Tryz.f3 false true false false):=by
 refine returnsInHanded_of_calls (C:=Tryz.checked) LF started (by kernel_rfl) (L6 os H enc) ?_
 intro w G i _ hS _ kk kd _
 obtain⟨_,_,_,Ap,Ab,_,_,_,_,E⟩:=kk
 have e:Ap=Tryz.f3:=qb4 (Ab.symm.trans Tryz.func3)
 subst e
 obtain⟨⟨⟨ds,Am,before,A1,hc⟩,hx⟩,B1⟩:=kd
 have hW:DataW.Whole enc Tryz.prog Tryz.f3.params.toList Rows.specialQuantileMatchesReferenceSpec.vars false (w.forCall G i) i.args.toList ds Am before:=DataW.Whole.of_heap (w':=w.forCall G i) (by rfl) A1
 have ht:Tb (w.forCall G i):=Ks hS (hx.of_heap (by rfl))
 generalize w.forCall G i=W at hW ht E ⊢
 generalize w.heap.size=b0 at E
 generalize i.args=args at hW E ⊢
 have D:∀(j:Nat) t v,Tryz.f3.params[j]?=some t->args[j]?=some v->Value.okWide Tryz.prog W .any b0 t v:=E
 have hW':=hW
 obtain⟨p,q,hA,hV,rfl,_,_⟩:=hW
 obtain⟨rfl,rfl⟩:=trodVars_none hV
 have hA':=hA
 rw[Tryz.params3]at hA D
 obtain⟨args⟩:=args
 obtain⟨Ar,Aw,Ay,B2,_,_,rfl,rfl,⟨Ax,Af⟩,hA⟩:=kt hA
 obtain⟨v1,_,_,_,_,_,rfl,rfl,h1,hA⟩:=kt hA
 obtain⟨v2,_,_,_,_,_,rfl,rfl,g,hA⟩:=kt hA
 obtain⟨v3,_,_,_,_,_,rfl,rfl,A2,hA⟩:=kt hA
 obtain⟨rfl,rfl⟩:=Bq hA
 obtain⟨_,_,rfl,Ao,Ad⟩:=Br (D 0 23 Ar rfl rfl) Af
 obtain⟨_,rfl,rfl,_,Av⟩:=open_int Tryz.underlying3 (D 1 3 v1 rfl rfl) h1
 obtain⟨_,rfl,rfl,_,Aq⟩:=open_int Tryz.underlying3 (D 2 3 v2 rfl rfl) g
 obtain⟨_,rfl,rfl,_,As⟩:=open_int Tryz.underlying3 (D 3 3 v3 rfl rfl) A2
 refine(eM (w:=W) Ao Ad (HS Av) (HS Aq) (HS As) ht).mono λe W' hr=>?_
 match e,hr with
 | .returned v,hr=>
   obtain⟨k,rfl⟩:=hr
   have O:=hW'.lt
   refine ChangeSpec.post_blind (P:=Tryz.prog) ?_
   refine⟨_,[],_,[],_,[],hW',trodAll_mk1 (shut_bool Tryz.underlying4 true),qL k (λt ht=>?_) hA' (λx hx=>O x (by simp[hx])) (λx hx=>?_),rfl,World.keptBut.congr (World.keptBut_refl _ _) k.os k.output (λi hi=>k.block i hi),λh=>by cases h⟩
   · have:=List.all_eq_true.1 Kt t ht
     simpa using this
   · simpa using O x (by simp[hx])
theorem row_holds:Rows.SpecialQuantileMatchesReferenceSaid:=
 OpenClaim.holds_of_wide 3 Tryz.f3 rfl rfl rfl rfl rfl rfl rfl ⟨rfl,rfl,rfl,rfl,rfl⟩ rfl rfl rfl rfl rfl (by kernel_rfl) Tryz.func3 (by kernel_rfl)
  (of_decide_eq_true (by kernel_rfl)) (by unfold Func.isWrapper;first|(rw[if_pos (by decide +kernel)];kernel_rfl)|(rw[if_neg (by decide +kernel)];exact⟨rfl,rfl⟩))
  (λos started H enc _=>lifted os started H enc)
theorem card_holds:Rows.SpecialQuantileMatchesReferenceCardSaid:=
 Claim7.holds_tied_plain_at .later [] [.data, .data, .data, .data, .sentinel, .sentinel, .sentinel, .pinned] true (true, "7f287347b000b1d5ea888956bc6de75c8e94540931b8ca72f70f7ece321e4efb") true row_holds (fun _ h => by cases h) (by kernel_rfl) (fun _ h => by cases h) specialQuantileMatchesReference_row_tie rfl ⟨rfl, rfl⟩ (by kernel_rfl) rfl
  (λf fn hf E=>by
   obtain rfl : f = 3 := qb4 ((show Tryz.prog.funcNamed "yardstick/yardsticklaw06.SpecialQuantileMatchesReference" = some 3 by kernel_rfl).symm.trans hf) |>.symm
   obtain rfl:fn=Tryz.f3:=(qb4 (Tryz.func3.symm.trans E)).symm
   exact⟨by kernel_rfl,λj t ht=>by
    rw[Tryz.params3]at ht
    have hm:t∈[23,3,3,3]:=by simpa using Array.mem_of_getElem? ht
    have D:([23,3,3,3].all λu=>!Tryz.prog.wantsStandIn u)=true:=by kernel_rfl
    exact(show Tryz.prog.wantsStandIn t=false by simpa using List.all_eq_true.1 D t hm)⟩)
  (by kernel_rfl)
#print axioms card_holds
end SpecialQuantileMatchesReference
end Go.Proofs.YtgcfffdpcefifaaGreatDoor
