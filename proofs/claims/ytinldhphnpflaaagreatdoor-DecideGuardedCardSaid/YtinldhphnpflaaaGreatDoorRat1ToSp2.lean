/- Part of the proof of a statement about decisions. -/
import Derived.Test.YtinldhphnpflaaaGreatDoorInt9ToRatS
import Derived.Test.YtinldhphnpflaaaGreatDoorEngPToEngH
import Derived.Test.YtinldhphnpflaaaGreatDoorBaseToEngJ
set_option linter.all false
namespace Go.Proofs.YtinldhphnpflaaaGreatDoor
set_option maxRecDepth 100000
open Go Go.Eng Go.RowKit
attribute [local irreducible] wpListIn Code.wpIn Oper.wpIn Exit.then Exit.inBlock Exit.noGoto
set_option maxHeartbeats 40000000
theorem asuRat1 {p:Prop}(h:p:=by assumption):p:=h
theorem okR_c1 {x y:List UInt8}(h:isInt x=false):Value.bool false=.bool (okR (x,y)):=by simp[okR,h]
theorem okR_c2 {x y:List UInt8}(h:isInt y=false):Value.bool false=.bool (okR (x,y)):=by simp[okR,h]
theorem okR_c3 {x y:List UInt8}(h:cmpS y [48]<=0):Value.bool false=.bool (okR (x,y)):=by simp[okR,h]
theorem rE_iff {o:Option (List UInt8)}{s:List UInt8}:(rE o=0∧rS o=s)↔o=some s:=by
  cases o with
  |none=>simp[rE]
  |some t=>simp[rE,rS]
theorem okR_c4 {x y:List UInt8}(h1:isInt x=true)(h2:isInt y=true)(h3:¬cmpS y [48]<=0)(h4:rE (gcdI x y)=0):Value.bool (decide (rS (gcdI x y)=[49]))=.bool (okR (x,y)):=by
  have:(gcdI x y=some [49])↔(rS (gcdI x y)=[49]):=by rw[<-rE_iff];simp[h4]
  simp[okR,h1,h2,h3,this]
theorem okR_c5 {x y:List UInt8}(h1:isInt x=true)(h2:isInt y=true)(h3:¬cmpS y [48]<=0)(h4:¬rE (gcdI x y)=0):Value.bool false=.bool (okR (x,y)):=by
  have:¬(gcdI x y=some [49]):=by rw[<-rE_iff];simp[h4]
  simp[okR,this]
def dB (bad:Bool)(o:Option (List UInt8)):Bool:=bad||o.isNone
def dS (bad:Bool)(o:Option (List UInt8)):List UInt8:=if bad then[]else rS o
def Op2 (g:Nat)(x y:List UInt8)(o:Option (List UInt8)):Prop:=∀W,Tb W->CL g #[S x,S y] W (Ret W λv _=>v=resI o)
theorem dB_f (o:Option (List UInt8)):dB false o= !decide (rE o=0):=by cases o <;>rfl
theorem dB_tt {bad:Bool}{o:Option (List UInt8)}(h:bad=true):dB bad o=bad:=by subst h;rfl
theorem dB_ff {bad:Bool}{o:Option (List UInt8)}(h:bad=false):dB bad o= !decide (rE o=0):=by subst h;exact dB_f o
def resR (o:Option R):Value:=.tuple #[.agg #[S (rN o),S (rD o)],.int .i64 (rER o)]
def redT (bad:Bool)(n d:List UInt8):Option R:=
  if dB (dB (dB bad (gcdI n d)) ((divI n (dS bad (gcdI n d))).map (·.1))) ((divI d (dS bad (gcdI n d))).map (·.1))=true then none
  else some (dS (dB bad (gcdI n d)) ((divI n (dS bad (gcdI n d))).map (·.1)),dS (dB (dB bad (gcdI n d)) ((divI n (dS bad (gcdI n d))).map (·.1))) ((divI d (dS bad (gcdI n d))).map (·.1)))
def redW (bad:Bool)(n d:List UInt8):Option R:=
  if bad=true∨d=[48]then none
  else if cmpS d [48]<0 then redT (dB (dB bad (subI [48] n)) (subI [48] d)) (dS bad (subI [48] n)) (dS (dB bad (subI [48] n)) (subI [48] d))
  else redT bad n d
theorem redW_1 {bad:Bool}{n d:List UInt8}(h:bad=true):redW bad n d=none:=if_pos (Or.inl h)
theorem redW_2 {bad:Bool}{n d:List UInt8}(h:d=[48]):redW bad n d=none:=if_pos (Or.inr h)
theorem redW_n {bad:Bool}{n d:List UInt8}(h1:bad=false)(h2:¬d=[48])(h3:cmpS d [48]<0):redW bad n d=redT (dB (dB bad (subI [48] n)) (subI [48] d)) (dS bad (subI [48] n)) (dS (dB bad (subI [48] n)) (subI [48] d)):=by
  unfold redW;rw[if_neg (by rw[h1];simp[h2]),if_pos h3]
theorem redW_p {bad:Bool}{n d:List UInt8}(h1:bad=false)(h2:¬d=[48])(h3:¬cmpS d [48]<0):redW bad n d=redT bad n d:=by
  unfold redW;rw[if_neg (by rw[h1];simp[h2]),if_neg h3]
theorem redT_t {bad:Bool}{n d:List UInt8}(h:dB (dB (dB bad (gcdI n d)) ((divI n (dS bad (gcdI n d))).map (·.1))) ((divI d (dS bad (gcdI n d))).map (·.1))=true):redT bad n d=none:=if_pos h
theorem redT_f {bad:Bool}{n d:List UInt8}(h:dB (dB (dB bad (gcdI n d)) ((divI n (dS bad (gcdI n d))).map (·.1))) ((divI d (dS bad (gcdI n d))).map (·.1))=false):redT bad n d=some (dS (dB bad (gcdI n d)) ((divI n (dS bad (gcdI n d))).map (·.1)),dS (dB (dB bad (gcdI n d)) ((divI n (dS bad (gcdI n d))).map (·.1))) ((divI d (dS bad (gcdI n d))).map (·.1))):=if_neg (by rw[h];simp)
theorem rValid_ok (x y:List UInt8)(w:World)(ht:Tb w):
    CL 41 #[.agg #[S x,S y]] w (Ret w λv w'=>v=.bool (okR (x,y))):=by
 refine f_in Tryz.func41 rfl ?_;refine go ?_;refine bx (λ_ aoq fx=>?_);have fy:=aoq.2;refine go ?_;rcases Bool.eq_false_or_eq_true (isInt x)with kx|kx;rcases Bool.eq_false_or_eq_true (isInt y)with ly|ly;refine go ?_;refine cl en102 (iValid_ok x _) ?_;rintro _ _ r8 rfl;have⟨fx,fy⟩:=be1 r8.2 fx fy;refine go ?_;refine cl en102 (iValid_ok y _) ?_;rintro _ _ sc rfl;have⟨fx,fy⟩:=be1 sc.2 fx fy;refine go ?_;refine cl en84 (iCmp_ok y ([48]) _) ?_;rintro _ _ wz rfl;have⟨fx,fy⟩:=be1 wz.2 fx fy;refine go ?_;by_cases aol:(cmpS y ([48]))<=0;refine go ?_;exact f_ret1 (t:=2) (v:=.bool false) rfl fy (by first|exact okR_c1 asuRat1|exact okR_c2 asuRat1|exact okR_c3 asuRat1|exact okR_c4 asuRat1 asuRat1 asuRat1 asuRat1|exact okR_c5 asuRat1 asuRat1 asuRat1 asuRat1) rfl;refine go ?_;refine cl en103 (iGcd_ok x y _ (ht.ext fy)) ?_;rintro _ _ aom rfl;have fy:=xt fy aom.2;refine go ?_;by_cases ns:(rE (gcdI x y))=0;refine go ?_;refine eqs (b:=[49]) ?_;refine go ?_;exact f_ret1 (t:=2) (v:=.bool (decide ((rS (gcdI x y))=([49])))) rfl fy (by first|exact okR_c1 asuRat1|exact okR_c2 asuRat1|exact okR_c3 asuRat1|exact okR_c4 asuRat1 asuRat1 asuRat1 asuRat1|exact okR_c5 asuRat1 asuRat1 asuRat1 asuRat1) rfl
 refine go ?_;exact f_ret1 (t:=2) (v:=.bool false) rfl fy (by first|exact okR_c1 asuRat1|exact okR_c2 asuRat1|exact okR_c3 asuRat1|exact okR_c4 asuRat1 asuRat1 asuRat1 asuRat1|exact okR_c5 asuRat1 asuRat1 asuRat1 asuRat1) rfl;refine go ?_;refine cl en102 (iValid_ok x _) ?_;rintro _ _ aon rfl;have⟨fx,fy⟩:=be1 aon.2 fx fy;refine go ?_;refine cl en102 (iValid_ok y _) ?_;rintro _ _ aoo rfl;have fy:=xt fy aoo.2;refine go ?_;exact f_ret1 (t:=2) (v:=.bool false) rfl fy (by first|exact okR_c1 asuRat1|exact okR_c2 asuRat1|exact okR_c3 asuRat1|exact okR_c4 asuRat1 asuRat1 asuRat1 asuRat1|exact okR_c5 asuRat1 asuRat1 asuRat1 asuRat1) rfl;refine go ?_;refine cl en102 (iValid_ok x _) ?_;rintro _ _ aop rfl;have fy:=xt fy aop.2;refine go ?_;exact f_ret1 (t:=2) (v:=.bool false) rfl fy (by first|exact okR_c1 asuRat1|exact okR_c2 asuRat1|exact okR_c3 asuRat1|exact okR_c4 asuRat1 asuRat1 asuRat1 asuRat1|exact okR_c5 asuRat1 asuRat1 asuRat1 asuRat1) rfl
theorem quot_cl (x y:List UInt8)(w:World)(ht:Tb w):
    CL 87 #[S x,S y] w (Ret w λv w'=>v=resI ((divI x y).map (·.1))):=by
 refine f_in Tryz.func87 rfl ?_;refine go ?_;refine cl en83 (iDiv_ok x y _ (ht.ext (Ext.refl _))) ?_;rintro _ _ fx rfl;have fy:=fx.2;refine go ?_;exact f_ret2 (t:=4) (u:=5) (v1:=S (rS ((divI x y).map (·.1)))) (v2:=.int .i64 (if(divI x y).isSome then 0 else 30)) rfl fy (by cases divI x y <;>rfl) rfl rfl
theorem do_ok {b:Nat}{bad:Bool}{w:World}(hB:Blk w b 53 #[.bool bad])(ht:Tb w){g:Nat}{x y:List UInt8}{o:Option (List UInt8)}(heg:Enters Tryz.prog g)(hop:Op2 g x y o):
    CL 57 #[pT b,.func (.func g) #[] #[],S x,S y] w (RetA λv w'=>w.grownBy w' (some b)∧Blk w' b 53 #[.bool (dB bad o)]∧v=S (dS bad o)):=by
 have G:=World.grownBy.refl w (some b);have hbl:=bt hB;refine f_inA Tryz.func57 rfl ?_;refine go ?_;rcases Bool.eq_false_or_eq_true bad with fy|fy;refine go ?_;refine f_outA (v:=S ([])) (res1  rfl ?_) ⟨G,(by first|(rw[dB_tt asuRat1];exact hB)|(rw[dB_ff asuRat1];exact hB)),(by simp[dS, *])⟩;exact res_tmp (t:=8) (by exact rfl) _;refine go ?_;refine l_op (clV (vs:=[S x,S y]) (lb:=[]) heg rfl rfl (hop _ ht) ?_);rintro _ _ fx rfl;have fx:=fx.2;have hB:=be fx hB;have G:=gb_ext G fx;have sc:=bz fx;refine go ?_;refine SO hB (λ_ kx ly=>?_);have G:=gb_put G kx;have aol:=psz kx;refine go ?_;refine f_outA (v:=S (rS o)) (res1  rfl ?_) ⟨G,(by first|(rw[dB_tt asuRat1];exact ly)|(rw[dB_ff asuRat1];exact ly)),(by simp[dS, *])⟩;exact res_tmp (t:=8) (by exact rfl) _
theorem mul_ok {b:Nat}{bad:Bool}{w:World}(hB:Blk w b 53 #[.bool bad])(ht:Tb w)(x y:List UInt8):
    CL 25 #[pT b,S x,S y] w (RetA λv w'=>w.grownBy w' (some b)∧Blk w' b 53 #[.bool (dB bad (mulI x y))]∧v=S (dS bad (mulI x y))):=by
 have G:=World.grownBy.refl w (some b);have hbl:=bt hB;refine f_inA Tryz.func25 rfl ?_;refine go ?_;refine l_op (k_callA (vs:=[pT b,.func (.func 58) #[] #[],S x,S y]) en227 rfl (do_ok (o:=mulI x y) hB ht en229 (λW hW=>iMul_ok _ _ W hW)) ?_);rintro _ _ ⟨fx,fy,rfl⟩;have G:=gb_trans G fx;have ns:=fx.size;refine go ?_;refine f_outA (v:=S (dS bad (mulI x y))) (res1  rfl ?_) ⟨G,fy,rfl⟩;exact res_tmp (t:=6) (by exact rfl) _
theorem quot_ok {b:Nat}{bad:Bool}{w:World}(hB:Blk w b 53 #[.bool bad])(ht:Tb w)(x y:List UInt8):
    CL 60 #[pT b,S x,S y] w (RetA λv w'=>w.grownBy w' (some b)∧Blk w' b 53 #[.bool (dB bad ((divI x y).map (·.1)))]∧v=S (dS bad ((divI x y).map (·.1)))):=by
 have G:=World.grownBy.refl w (some b);have hbl:=bt hB;refine f_inA Tryz.func60 rfl ?_;refine go ?_;refine l_op (k_callA (vs:=[pT b,.func (.func 87) #[] #[],S x,S y]) en227 rfl (do_ok (o:=(divI x y).map (·.1)) hB ht en232 (λW hW=>quot_cl _ _ W hW)) ?_);rintro _ _ ⟨fx,fy,rfl⟩;have G:=gb_trans G fx;have ns:=fx.size;refine go ?_;refine f_outA (v:=S (dS bad ((divI x y).map (·.1)))) (res1  rfl ?_) ⟨G,fy,rfl⟩;exact res_tmp (t:=6) (by exact rfl) _
theorem red_ok {b:Nat}{bad:Bool}{w:World}(hB:Blk w b 53 #[.bool bad])(ht:Tb w)(x y:List UInt8):
    CL 26 #[pT b,S x,S y] w (RetA λv w'=>w.grownBy w' (some b)∧(∃q,Blk w' b 53 #[.bool q])∧v=resR (redW bad x y)):=by
 have G:=World.grownBy.refl w (some b);have hbl:=bt hB;refine f_inA Tryz.func26 rfl ?_;refine go ?_;refine al inf36 (λ_ ao2 fx=>?_);have hB:=be ao2.2 hB;have ht:=Tb.ext ao2.2 ht;have G:=gb_ext G ao2.2;refine go ?_;rcases Bool.eq_false_or_eq_true bad with ly|ly;refine go ?_;refine SA fx (λ_ aop aph=>?_);have hB:=pb aop hB;have G:=gb_putn G aop om;have apq:=psz aop;refine go ?_;refine f_outA (v:=.tuple #[.agg #[S ([]),S ([])],.int .i64 40]) (res2 (r1:=.cell 6 25) (r2:=.tmp 7) rfl ?_ ?_) ⟨G,⟨_,hB⟩,(by first|(rw[redW_1 asuRat1];rfl)|(rw[redW_2 asuRat1];rfl)|(rw[redW_n asuRat1 asuRat1 asuRat1,redT_t asuRat1];rfl)|(rw[redW_n asuRat1 asuRat1 asuRat1,redT_f asuRat1];rfl)|(rw[redW_p asuRat1 asuRat1 asuRat1,redT_t asuRat1];rfl)|(rw[redW_p asuRat1 asuRat1 asuRat1,redT_f asuRat1];rfl))⟩;refine res_cellA (t:=6) (cs:=[S ([]),S ([])]) (b:=w.heap.size) (o:=0) U36 rfl sz36 ?_ ?_;exact rfl;exact Blk.cells aph (i:=0) rfl;exact res_tmp (t:=7) (by exact rfl) _;refine go ?_;refine eqs (b:=[48]) ?_;refine go ?_;by_cases ao5:y=([48]);refine go ?_;refine SA fx (λ_ aoq api=>?_);have hB:=pb aoq hB;have G:=gb_putn G aoq om;have aps:=psz aoq;refine go ?_;refine f_outA (v:=.tuple #[.agg #[S ([]),S ([])],.int .i64 40]) (res2 (r1:=.cell 6 25) (r2:=.tmp 7) rfl ?_ ?_) ⟨G,⟨_,hB⟩,(by first|(rw[redW_1 asuRat1];rfl)|(rw[redW_2 asuRat1];rfl)|(rw[redW_n asuRat1 asuRat1 asuRat1,redT_t asuRat1];rfl)|(rw[redW_n asuRat1 asuRat1 asuRat1,redT_f asuRat1];rfl)|(rw[redW_p asuRat1 asuRat1 asuRat1,redT_t asuRat1];rfl)|(rw[redW_p asuRat1 asuRat1 asuRat1,redT_f asuRat1];rfl))⟩
 refine res_cellA (t:=6) (cs:=[S ([]),S ([])]) (b:=w.heap.size) (o:=0) U36 rfl sz36 ?_ ?_;exact rfl;exact Blk.cells api (i:=0) rfl;exact res_tmp (t:=7) (by exact rfl) _;refine go ?_;refine cl en84 (iCmp_ok y ([48]) _) ?_;rintro _ _ aor rfl;have hB:=be aor.2 hB;have ht:=Tb.ext aor.2 ht;have fx:=be aor.2 fx;have G:=gb_ext G aor.2;refine go ?_;by_cases ao6:(cmpS y ([48]))<0;refine go ?_;refine l_op (k_callA (vs:=[pT b,.func (.func 28) #[] #[],S ([48]),S x]) en227 rfl (do_ok (o:=subI ([48]) x) hB ht en226 (λW hW=>iSub_ok _ _ W hW)) ?_);rintro _ _ ⟨aos,ao7,rfl⟩;have ht:=Tb.gr aos hB dc ht;have fx:=Blk.gr aos (by simp;omega) fx;have G:=gb_trans G aos;have apx:=aos.size;refine go ?_;refine l_op (k_callA (vs:=[pT b,.func (.func 28) #[] #[],S ([48]),S y]) en227 rfl (do_ok (o:=subI ([48]) y) ao7 ht en226 (λW hW=>iSub_ok _ _ W hW)) ?_);rintro _ _ ⟨aot,ao8,rfl⟩;have ht:=Tb.gr aot ao7 dc ht;have fx:=Blk.gr aot (by simp;omega) fx;have G:=gb_trans G aot;have ap0:=aot.size;refine go ?_;refine l_op (k_callA (vs:=[pT b,.func (.func 59) #[] #[],S (dS bad (subI ([48]) x)),S (dS (dB bad (subI ([48]) x)) (subI ([48]) y))]) en227 rfl (do_ok (o:=gcdI (dS bad (subI ([48]) x)) (dS (dB bad (subI ([48]) x)) (subI ([48]) y))) ao8 ht en103 (λW hW=>iGcd_ok _ _ W hW)) ?_);rintro _ _ ⟨aou,ao9,rfl⟩;have ht:=Tb.gr aou ao8 dc ht;have fx:=Blk.gr aou (by simp;omega) fx;have G:=gb_trans G aou
 have ap3:=aou.size;refine go ?_;refine l_op (k_callA (vs:=[pT b,S (dS bad (subI ([48]) x)),S (dS (dB (dB bad (subI ([48]) x)) (subI ([48]) y)) (gcdI (dS bad (subI ([48]) x)) (dS (dB bad (subI ([48]) x)) (subI ([48]) y))))]) en230 rfl (quot_ok ao9 ht (dS bad (subI ([48]) x)) (dS (dB (dB bad (subI ([48]) x)) (subI ([48]) y)) (gcdI (dS bad (subI ([48]) x)) (dS (dB bad (subI ([48]) x)) (subI ([48]) y))))) ?_);rintro _ _ ⟨aov,apa,rfl⟩;have ht:=Tb.gr aov ao9 dc ht;have fx:=Blk.gr aov (by simp;omega) fx;have G:=gb_trans G aov;have ap6:=aov.size;refine go ?_;refine l_op (k_callA (vs:=[pT b,S (dS (dB bad (subI ([48]) x)) (subI ([48]) y)),S (dS (dB (dB bad (subI ([48]) x)) (subI ([48]) y)) (gcdI (dS bad (subI ([48]) x)) (dS (dB bad (subI ([48]) x)) (subI ([48]) y))))]) en230 rfl (quot_ok apa ht (dS (dB bad (subI ([48]) x)) (subI ([48]) y)) (dS (dB (dB bad (subI ([48]) x)) (subI ([48]) y)) (gcdI (dS bad (subI ([48]) x)) (dS (dB bad (subI ([48]) x)) (subI ([48]) y))))) ?_);rintro _ _ ⟨aow,fy,rfl⟩;have fx:=Blk.gr aow (by simp;omega) fx;have G:=gb_trans G aow;have ap8:=aow.size;refine go ?_;refine al inf36 (λ_ aox apc=>?_);have⟨fy,fx⟩:=bf2 aox.2 fy fx;have G:=gb_ext G aox.2;refine SA apc (λ_ ns r8=>?_);have⟨fy,fx⟩:=pf2 ns fy fx;have G:=gb_putn G ns om;have aqb:=psz ns;refine go ?_
 rcases Bool.eq_false_or_eq_true (dB (dB (dB (dB (dB bad (subI ([48]) x)) (subI ([48]) y)) (gcdI (dS bad (subI ([48]) x)) (dS (dB bad (subI ([48]) x)) (subI ([48]) y)))) ((divI (dS bad (subI ([48]) x)) (dS (dB (dB bad (subI ([48]) x)) (subI ([48]) y)) (gcdI (dS bad (subI ([48]) x)) (dS (dB bad (subI ([48]) x)) (subI ([48]) y))))).map (·.1))) ((divI (dS (dB bad (subI ([48]) x)) (subI ([48]) y)) (dS (dB (dB bad (subI ([48]) x)) (subI ([48]) y)) (gcdI (dS bad (subI ([48]) x)) (dS (dB bad (subI ([48]) x)) (subI ([48]) y))))).map (·.1)))with ao3|ao3;refine go ?_;refine SA fx (λ_ sc apj=>?_);have⟨fy,r8⟩:=pf2 sc fy r8;have G:=gb_putn G sc om;have aqd:=psz sc;refine go ?_;refine f_outA (v:=.tuple #[.agg #[S ([]),S ([])],.int .i64 40]) (res2 (r1:=.cell 6 25) (r2:=.tmp 7) rfl ?_ ?_) ⟨G,⟨_,fy⟩,(by first|(rw[redW_1 asuRat1];rfl)|(rw[redW_2 asuRat1];rfl)|(rw[redW_n asuRat1 asuRat1 asuRat1,redT_t asuRat1];rfl)|(rw[redW_n asuRat1 asuRat1 asuRat1,redT_f asuRat1];rfl)|(rw[redW_p asuRat1 asuRat1 asuRat1,redT_t asuRat1];rfl)|(rw[redW_p asuRat1 asuRat1 asuRat1,redT_f asuRat1];rfl))⟩;refine res_cellA (t:=6) (cs:=[S ([]),S ([])]) (b:=w.heap.size) (o:=0) U36 rfl sz36 ?_ ?_
 exact rfl;exact Blk.cells apj (i:=0) rfl;exact res_tmp (t:=7) (by exact rfl) _;refine go ?_;refine SA fx (λ_ wz apk=>?_);have⟨fy,r8⟩:=pf2 wz fy r8;have G:=gb_putn G wz om;have aqf:=psz wz;refine go ?_
 refine f_outA (v:=.tuple #[.agg #[S (dS (dB (dB (dB bad (subI ([48]) x)) (subI ([48]) y)) (gcdI (dS bad (subI ([48]) x)) (dS (dB bad (subI ([48]) x)) (subI ([48]) y)))) ((divI (dS bad (subI ([48]) x)) (dS (dB (dB bad (subI ([48]) x)) (subI ([48]) y)) (gcdI (dS bad (subI ([48]) x)) (dS (dB bad (subI ([48]) x)) (subI ([48]) y))))).map (·.1))),S (dS (dB (dB (dB (dB bad (subI ([48]) x)) (subI ([48]) y)) (gcdI (dS bad (subI ([48]) x)) (dS (dB bad (subI ([48]) x)) (subI ([48]) y)))) ((divI (dS bad (subI ([48]) x)) (dS (dB (dB bad (subI ([48]) x)) (subI ([48]) y)) (gcdI (dS bad (subI ([48]) x)) (dS (dB bad (subI ([48]) x)) (subI ([48]) y))))).map (·.1))) ((divI (dS (dB bad (subI ([48]) x)) (subI ([48]) y)) (dS (dB (dB bad (subI ([48]) x)) (subI ([48]) y)) (gcdI (dS bad (subI ([48]) x)) (dS (dB bad (subI ([48]) x)) (subI ([48]) y))))).map (·.1)))],.int .i64 0]) (res2 (r1:=.cell 6 25) (r2:=.tmp 7) rfl ?_ ?_) ⟨G,⟨_,fy⟩,(by first|(rw[redW_1 asuRat1];rfl)|(rw[redW_2 asuRat1];rfl)|(rw[redW_n asuRat1 asuRat1 asuRat1,redT_t asuRat1];rfl)|(rw[redW_n asuRat1 asuRat1 asuRat1,redT_f asuRat1];rfl)|(rw[redW_p asuRat1 asuRat1 asuRat1,redT_t asuRat1];rfl)|(rw[redW_p asuRat1 asuRat1 asuRat1,redT_f asuRat1];rfl))⟩
 refine res_cellA (t:=6) (cs:=[S (dS (dB (dB (dB bad (subI ([48]) x)) (subI ([48]) y)) (gcdI (dS bad (subI ([48]) x)) (dS (dB bad (subI ([48]) x)) (subI ([48]) y)))) ((divI (dS bad (subI ([48]) x)) (dS (dB (dB bad (subI ([48]) x)) (subI ([48]) y)) (gcdI (dS bad (subI ([48]) x)) (dS (dB bad (subI ([48]) x)) (subI ([48]) y))))).map (·.1))),S (dS (dB (dB (dB (dB bad (subI ([48]) x)) (subI ([48]) y)) (gcdI (dS bad (subI ([48]) x)) (dS (dB bad (subI ([48]) x)) (subI ([48]) y)))) ((divI (dS bad (subI ([48]) x)) (dS (dB (dB bad (subI ([48]) x)) (subI ([48]) y)) (gcdI (dS bad (subI ([48]) x)) (dS (dB bad (subI ([48]) x)) (subI ([48]) y))))).map (·.1))) ((divI (dS (dB bad (subI ([48]) x)) (subI ([48]) y)) (dS (dB (dB bad (subI ([48]) x)) (subI ([48]) y)) (gcdI (dS bad (subI ([48]) x)) (dS (dB bad (subI ([48]) x)) (subI ([48]) y))))).map (·.1)))]) (b:=w.heap.size) (o:=0) U36 rfl sz36 ?_ ?_;exact rfl;exact Blk.cells apk (i:=0) rfl;exact res_tmp (t:=7) (by exact rfl) _;refine go ?_;refine l_op (k_callA (vs:=[pT b,.func (.func 59) #[] #[],S x,S y]) en227 rfl (do_ok (o:=gcdI x y) hB ht en103 (λW hW=>iGcd_ok _ _ W hW)) ?_);rintro _ _ ⟨aoy,apd,rfl⟩;have ht:=Tb.gr aoy hB dc ht;have fx:=Blk.gr aoy (by simp;omega) fx;have G:=gb_trans G aoy;have aqi:=aoy.size;refine go ?_;refine l_op (k_callA (vs:=[pT b,S x,S (dS bad (gcdI x y))]) en230 rfl (quot_ok apd ht x (dS bad (gcdI x y))) ?_);rintro _ _ ⟨aoz,ape,rfl⟩;have ht:=Tb.gr aoz apd dc ht
 have fx:=Blk.gr aoz (by simp;omega) fx;have G:=gb_trans G aoz;have aql:=aoz.size;refine go ?_;refine l_op (k_callA (vs:=[pT b,S y,S (dS bad (gcdI x y))]) en230 rfl (quot_ok ape ht y (dS bad (gcdI x y))) ?_);rintro _ _ ⟨ao0,kx,rfl⟩;have fx:=Blk.gr ao0 (by simp;omega) fx;have G:=gb_trans G ao0;have aqn:=ao0.size;refine go ?_;refine al inf36 (λ_ ao1 apg=>?_);have⟨kx,fx⟩:=bf2 ao1.2 kx fx;have G:=gb_ext G ao1.2;refine SA apg (λ_ aol aom=>?_);have⟨kx,fx⟩:=pf2 aol kx fx;have G:=gb_putn G aol om;have aqq:=psz aol;refine go ?_;rcases Bool.eq_false_or_eq_true (dB (dB (dB bad (gcdI x y)) ((divI x (dS bad (gcdI x y))).map (·.1))) ((divI y (dS bad (gcdI x y))).map (·.1)))with ao4|ao4;refine go ?_;refine SA fx (λ_ aon apl=>?_);have⟨kx,aom⟩:=pf2 aon kx aom;have G:=gb_putn G aon om;have aqs:=psz aon;refine go ?_;refine f_outA (v:=.tuple #[.agg #[S ([]),S ([])],.int .i64 40]) (res2 (r1:=.cell 6 25) (r2:=.tmp 7) rfl ?_ ?_) ⟨G,⟨_,kx⟩,(by first|(rw[redW_1 asuRat1];rfl)|(rw[redW_2 asuRat1];rfl)|(rw[redW_n asuRat1 asuRat1 asuRat1,redT_t asuRat1];rfl)|(rw[redW_n asuRat1 asuRat1 asuRat1,redT_f asuRat1];rfl)|(rw[redW_p asuRat1 asuRat1 asuRat1,redT_t asuRat1];rfl)|(rw[redW_p asuRat1 asuRat1 asuRat1,redT_f asuRat1];rfl))⟩
 refine res_cellA (t:=6) (cs:=[S ([]),S ([])]) (b:=w.heap.size) (o:=0) U36 rfl sz36 ?_ ?_;exact rfl;exact Blk.cells apl (i:=0) rfl;exact res_tmp (t:=7) (by exact rfl) _;refine go ?_;refine SA fx (λ_ aoo apm=>?_);have⟨kx,aom⟩:=pf2 aoo kx aom;have G:=gb_putn G aoo om;have aqu:=psz aoo;refine go ?_;refine f_outA (v:=.tuple #[.agg #[S (dS (dB bad (gcdI x y)) ((divI x (dS bad (gcdI x y))).map (·.1))),S (dS (dB (dB bad (gcdI x y)) ((divI x (dS bad (gcdI x y))).map (·.1))) ((divI y (dS bad (gcdI x y))).map (·.1)))],.int .i64 0]) (res2 (r1:=.cell 6 25) (r2:=.tmp 7) rfl ?_ ?_) ⟨G,⟨_,kx⟩,(by first|(rw[redW_1 asuRat1];rfl)|(rw[redW_2 asuRat1];rfl)|(rw[redW_n asuRat1 asuRat1 asuRat1,redT_t asuRat1];rfl)|(rw[redW_n asuRat1 asuRat1 asuRat1,redT_f asuRat1];rfl)|(rw[redW_p asuRat1 asuRat1 asuRat1,redT_t asuRat1];rfl)|(rw[redW_p asuRat1 asuRat1 asuRat1,redT_f asuRat1];rfl))⟩;refine res_cellA (t:=6) (cs:=[S (dS (dB bad (gcdI x y)) ((divI x (dS bad (gcdI x y))).map (·.1))),S (dS (dB (dB bad (gcdI x y)) ((divI x (dS bad (gcdI x y))).map (·.1))) ((divI y (dS bad (gcdI x y))).map (·.1)))]) (b:=w.heap.size) (o:=0) U36 rfl sz36 ?_ ?_;exact rfl;exact Blk.cells apm (i:=0) rfl;exact res_tmp (t:=7) (by exact rfl) _
def cellsR (l:List R):List Value:=l.flatMap λa=>[S a.1,S a.2]
def rAt (l:List R)(i:Nat):R:=l.getD i ([],[])
theorem cellsR_get:∀{l:List R} {i:Nat},i<l.length->(cellsR l)[i*2]?=some (S (rAt l i).1)∧(cellsR l)[i*2+1]?=some (S (rAt l i).2)
  |a::t,0,_=>by simp[cellsR,rAt]
  | a::t,i+1,h=>by
    have ih:=cellsR_get (l:=t) (i:=i) (by simpa using h)
    rw[show(i+1)*2=i*2+2 by omega,show i*2+2+1=i*2+1+2 by omega]
    simpa[cellsR,rAt]using ih
theorem rw_pair {w:World}{lo i:Nat}{A:Option Addr}{l:List R}(h:Rw w lo A (cellsR l))(hi:i<l.length):∃b o,A=some ⟨b,o,none⟩∧∀j u,[S (rAt l i).1,S (rAt l i).2][j]?=some u->w.cell? ⟨b,o+i*2+j,none⟩=some u:=by
  obtain⟨h1,h2⟩:=cellsR_get hi
  obtain⟨b,o,hA,hc1⟩:=h.cells _ _ h1
  obtain⟨_,_,hA',hc2⟩:=h.cells _ _ h2
  rw[hA]at hA';cases hA'
  refine⟨b,o,hA,λj u hu=>?_⟩
  match j,hu with
  |0,hu=>simp at hu;subst hu;simpa using hc1
  |1,hu=>simp at hu;subst hu;simpa[Nat.add_assoc]using hc2
def ckB (bad:Bool)(l:List R):Bool:=bad||l.any λa=>!okR a
theorem ck_step {bad:Bool}{l:List R}{i:Nat}(hi:i<l.length):ckB bad (l.take (i+1))=(ckB bad (l.take i)|| !okR (rAt l i)):=by
  have:l.take (i+1)=l.take i++[rAt l i]:=by
    rw[List.take_succ_eq_append_getElem hi];simp[rAt,hi]
  rw[this];simp[ckB,Bool.or_assoc]
theorem ck_t {bad:Bool}{l:List R}{i:Nat}(hi:i<l.length)(h:ckB bad (l.take i)=true):ckB bad (l.take (i+1))=true:=by rw[ck_step hi,h];rfl
theorem ck_f {bad:Bool}{l:List R}{i:Nat}(hi:i<l.length)(h:ckB bad (l.take i)=false):ckB bad (l.take (i+1))= !okR ((rAt l i).1,(rAt l i).2):=by rw[ck_step hi,h];rfl
theorem cmpS_zero {d:List UInt8}(h:isInt d=true):cmpS d [48]=cmpI (valZ d) 0:=by unfold cmpS;rw[if_pos (by rw[h,isInt_zero];rfl),valZ_zero]
theorem cmpI_neg {x y:Int}:cmpI x y<0↔x<y:=by
  unfold cmpI;split
  · simp[*]
  · split <;>simp[*]
theorem cmpI_nonpos {x y:Int}:cmpI x y<=0↔x<=y:=by
  unfold cmpI;split
  · simp;omega
  · split <;>simp <;>omega
theorem subI_zero {n:List UInt8}(h:isInt n=true):subI [48] n=some (showI (-valZ n)):=by
  rw[subI_ok (by rw[isInt_zero,h];rfl),valZ_zero]
  unfold outI
  have hf:fits (0-valZ n)=true:=by
    have:=fits_val h
    unfold fits at *
    rw[decide_eq_true_eq]at *
    omega
  rw[if_pos hf,Int.zero_sub]
theorem isInt_neg {n:List UInt8}(h:isInt n=true):isInt (showI (-valZ n))=true:=by
  refine isInt_showI ?_
  have:=fits_val h
  unfold fits at *
  rw[decide_eq_true_eq]at *
  omega
theorem fits_le {a b:Int}(h:fits b=true)(hl:a.natAbs<=b.natAbs):fits a=true:=by
  unfold fits at *
  rw[decide_eq_true_eq]at *
  exact Nat.lt_of_le_of_lt hl h
theorem ediv_abs_le (a:Int)(b:Nat)(hb:0<b)(hd:(b:Int)∣a):(a/(b:Int)).natAbs<=a.natAbs:=by
  obtain⟨c,rfl⟩:=hd
  rw[Int.mul_ediv_cancel_left _ om,Int.natAbs_mul]
  exact Nat.le_mul_of_pos_left _ (by simpa using hb)
theorem redT_spec {n d:List UInt8}(hn:isInt n=true)(hd:isInt d=true)(h0:valZ d≠0):
    redT false n d=some (showI (valZ n/((Int.gcd (valZ n) (valZ d):Nat):Int)),showI (valZ d/((Int.gcd (valZ n) (valZ d):Nat):Int))):=by
  have hg0:0<Int.gcd (valZ n) (valZ d):=Int.gcd_pos_of_ne_zero_right _ h0
  have hgd:((Int.gcd (valZ n) (valZ d):Nat):Int)∣valZ d:=Int.gcd_dvd_right ..
  have hgn:((Int.gcd (valZ n) (valZ d):Nat):Int)∣valZ n:=Int.gcd_dvd_left ..
  have hgf:fits ((Int.gcd (valZ n) (valZ d):Nat):Int)=true:=fits_le (fits_val hd) (by
    have:=Nat.le_of_dvd om (Int.natAbs_dvd_natAbs.2 hgd)
    simpa using this)
  have hG:gcdI n d=some (showI ((Int.gcd (valZ n) (valZ d):Nat):Int)):=by
    unfold gcdI;rw[if_pos (by rw[hn,hd];rfl)];unfold outI;rw[if_pos hgf]
  generalize hg:Int.gcd (valZ n) (valZ d)=g at *
  have hgi:=isInt_showI hgf
  have hdiv:∀{x:List UInt8},isInt x=true->(g:Int)∣valZ x->(divI x (showI (g:Int))).map (·.1)=some (showI (valZ x/(g:Int))):=by
    intro x hx hdx
    rw[divI_ok (by rw[hx,hgi];rfl) (by rw[body_showI,valN_showN];simpa using hg0),valZ_showI]
    unfold outI
    rw[if_pos (fits_le (fits_val hx) (ediv_abs_le _ _ hg0 hdx))]
    rfl
  unfold redT
  rw[hG]
  simp only[dS,Bool.false_eq_true,if_false,rS,Option.getD_some]
  rw[hdiv hn hgn,hdiv hd hgd]
  rfl
theorem redW_spec {n d:List UInt8}(hn:isInt n=true)(hd:isInt d=true):redW false n d=makeR (valZ n) (valZ d):=by
  unfold makeR
  by_cases h0:valZ d=0
  · rw[if_pos h0,redW_2 ((valZ_eq_zero hd).1 h0)]
  · have hd0:¬d=[48]:=λe=>h0 ((valZ_eq_zero hd).2 e)
    rw[if_neg h0]
    unfold redN redD
    by_cases hs:valZ d<0
    · rw[redW_n rfl hd0 (by rw[cmpS_zero hd];exact cmpI_neg.2 hs),subI_zero hn,subI_zero hd]
      simp only[dB,dS,Bool.false_or,Option.isNone_some,Bool.false_eq_true,if_false,rS,Option.getD_some]
      rw[redT_spec (isInt_neg hn) (isInt_neg hd) (by rw[valZ_showI];omega),valZ_showI,valZ_showI,if_pos hs,if_pos hs]
      have:Int.gcd (-valZ n) (-valZ d)=Int.gcd (valZ n) (valZ d):=by rw[Int.gcd_neg,Int.neg_gcd]
      rw[this]
    · rw[redW_p rfl hd0 (by rw[cmpS_zero hd];exact λh=>hs (cmpI_neg.1 h)),redT_spec hn hd h0,if_neg hs,if_neg hs]
theorem redW_bad (n d:List UInt8):redW true n d=none:=redW_1 rfl
theorem ck_two (a b:R):ckB false [a,b]= !(okR a&&okR b):=by simp[ckB]
theorem okR_1 {a:R}(h:okR a=true):isInt a.1=true:=by simp only[okR,Bool.and_eq_true]at h;exact h.1.1.1
theorem okR_2 {a:R}(h:okR a=true):isInt a.2=true:=by simp only[okR,Bool.and_eq_true]at h;exact h.1.1.2
theorem outI_isNone (n:Int):(outI n).isNone= !fits n:=by unfold outI;cases fits n <;>rfl
theorem outI_rS {n:Int}(h:fits n=true):rS (outI n)=showI n:=by unfold outI;rw[if_pos h];rfl
theorem two_spec (okk:Bool)(n d:Int){on od:Option (List UInt8)}(hn:okk=true->on=outI n)(hd:okk=true->od=outI d):
    redW (dB (dB (!okk) on) od) (dS (!okk) on) (dS (dB (!okk) on) od)=if okk then bothF n d else none:=by
  cases okk with
  |false=>simp only[Bool.not_false,dB,Bool.true_or,redW_bad];rfl
  | true=>
    rw[hn rfl,hd rfl]
    unfold bothF
    simp only[Bool.not_true,dB,dS,Bool.false_or,Bool.false_eq_true,if_false,outI_isNone,if_true]
    cases h1:fits n with
    |false=>simp only[Bool.not_false,Bool.true_or,redW_bad,Bool.false_and];rfl
    | true=>
      cases h2:fits d with
      |false=>simp only[Bool.not_false,Bool.or_true,redW_bad,Bool.and_false];rfl
      | true=>
        simp only[Bool.not_true,Bool.or_false,Bool.false_eq_true,if_false,Bool.and_self,if_true]
        rw[outI_rS h1,outI_rS h2,redW_spec (isInt_showI h1) (isInt_showI h2),valZ_showI,valZ_showI]
theorem div_spec (x1 x2 y1 y2:List UInt8):resR (redW (dB (dB (ckB false [(x1,x2),(y1,y2)]) (mulI x1 y2)) (mulI x2 y1)) (dS (ckB false [(x1,x2),(y1,y2)]) (mulI x1 y2)) (dS (dB (ckB false [(x1,x2),(y1,y2)]) (mulI x1 y2)) (mulI x2 y1)))=resR (divR (x1,x2) (y1,y2)):=by
  rw[ck_two,two_spec (okR (x1,x2)&&okR (y1,y2)) (valZ x1*valZ y2) (valZ x2*valZ y1) (λh=>mulI_ok (by rw[okR_1 (and_l h),okR_2 (and_r h)];rfl)) (λh=>mulI_ok (by rw[okR_2 (and_l h),okR_1 (and_r h)];rfl))]
  rfl
theorem four_spec (okk:Bool)(p q s d:Int){op oq od:Option (List UInt8)}{os:List UInt8->List UInt8->Option (List UInt8)}(hp:okk=true->op=outI p)(hq:okk=true->oq=outI q)(hd:okk=true->od=outI d)(hs:fits p=true->fits q=true->os (showI p) (showI q)=outI s):
    redW (dB (dB (dB (dB (!okk) op) oq) (os (dS (!okk) op) (dS (dB (!okk) op) oq))) od) (dS (dB (dB (!okk) op) oq) (os (dS (!okk) op) (dS (dB (!okk) op) oq))) (dS (dB (dB (dB (!okk) op) oq) (os (dS (!okk) op) (dS (dB (!okk) op) oq))) od)
      =if okk then(if fits p&&fits q then bothF s d else none)else none:=by
  cases okk with
  |false=>simp only[Bool.not_false,dB,Bool.true_or,redW_bad];rfl
  | true=>
    rw[hp rfl,hq rfl,hd rfl]
    cases h1:fits p with
    |false=>simp only[Bool.not_true,dB,Bool.false_or,outI_isNone,h1,Bool.not_false,Bool.true_or,redW_bad,Bool.false_and];rfl
    | true=>
      cases h2:fits q with
      |false=>simp only[Bool.not_true,dB,Bool.false_or,outI_isNone,h1,h2,Bool.not_false,Bool.true_or,Bool.or_true,redW_bad,Bool.and_false];rfl
      | true=>
        have e1:dS (!true) (outI p)=showI p:=by rw[<-outI_rS h1];rfl
        have e2:dB (!true) (outI p)=false:=by unfold dB;rw[outI_isNone,h1];rfl
        have e3:dS false (outI q)=showI q:=by rw[<-outI_rS h2];rfl
        have e4:dB false (outI q)=false:=by unfold dB;rw[outI_isNone,h2];rfl
        rw[e2,e4,e1,e3,hs h1 h2]
        have:=two_spec true s d (on:=outI s) (od:=outI d) (λ_=>rfl) (λ_=>rfl)
        simpa using this
def sumW (os:List UInt8->List UInt8->Option (List UInt8))(x1 x2 y1 y2:List UInt8)(b:Bool):Option R:=redW (dB (dB (dB (dB b (mulI x1 y2)) (mulI y1 x2)) (os (dS b (mulI x1 y2)) (dS (dB b (mulI x1 y2)) (mulI y1 x2)))) (mulI x2 y2)) (dS (dB (dB b (mulI x1 y2)) (mulI y1 x2)) (os (dS b (mulI x1 y2)) (dS (dB b (mulI x1 y2)) (mulI y1 x2)))) (dS (dB (dB (dB b (mulI x1 y2)) (mulI y1 x2)) (os (dS b (mulI x1 y2)) (dS (dB b (mulI x1 y2)) (mulI y1 x2)))) (mulI x2 y2))
theorem add_spec (x1 x2 y1 y2:List UInt8):resR (sumW addI x1 x2 y1 y2 (ckB false [(x1,x2),(y1,y2)]))=resR (addR (x1,x2) (y1,y2)):=
  congrArg resR ((congrArg (sumW addI x1 x2 y1 y2) (ck_two (x1,x2) (y1,y2))).trans
    (four_spec (okR (x1,x2)&&okR (y1,y2)) (valZ x1*valZ y2) (valZ y1*valZ x2) (valZ x1*valZ y2+valZ y1*valZ x2) (valZ x2*valZ y2) (λh=>mulI_ok (by rw[okR_1 (and_l h),okR_2 (and_r h)];rfl)) (λh=>mulI_ok (by rw[okR_2 (and_l h),okR_1 (and_r h)];rfl)) (λh=>mulI_ok (by rw[okR_2 (and_l h),okR_2 (and_r h)];rfl))
      (λh1 h2=>by rw[addI_ok (by rw[isInt_showI h1,isInt_showI h2];rfl),valZ_showI,valZ_showI])))
theorem sub_spec (x1 x2 y1 y2:List UInt8):resR (sumW subI x1 x2 y1 y2 (ckB false [(x1,x2),(y1,y2)]))=resR (subR (x1,x2) (y1,y2)):=
  congrArg resR ((congrArg (sumW subI x1 x2 y1 y2) (ck_two (x1,x2) (y1,y2))).trans
    (four_spec (okR (x1,x2)&&okR (y1,y2)) (valZ x1*valZ y2) (valZ y1*valZ x2) (valZ x1*valZ y2-valZ y1*valZ x2) (valZ x2*valZ y2) (λh=>mulI_ok (by rw[okR_1 (and_l h),okR_2 (and_r h)];rfl)) (λh=>mulI_ok (by rw[okR_2 (and_l h),okR_1 (and_r h)];rfl)) (λh=>mulI_ok (by rw[okR_2 (and_l h),okR_2 (and_r h)];rfl))
      (λh1 h2=>by rw[subI_ok (by rw[isInt_showI h1,isInt_showI h2];rfl),valZ_showI,valZ_showI])))
theorem check_ok {b:Nat}{bad:Bool}{w:World}(hB:Blk w b 53 #[.bool bad])(ht:Tb w){A:Option Addr}{n c lo:Nat}{rs:List R}(hr:Rw w lo A (cellsR rs))(hn:rs.length=n)(hnb:n<=1000000)(hAb:∀ad,A=some ad->ad.block≠b):
    CL 24 #[pT b,.slice A n c] w (RetA λv w'=>w.grownBy w' (some b)∧Blk w' b 53 #[.bool (ckB bad rs)]∧v=.tuple #[]):=by
 have G:=World.grownBy.refl w (some b);have hbl:=bt hB;have uhr:=λad e=>And.intro (hr.hi ad e) (hAb ad e);refine f_inA Tryz.func24 rfl ?_;refine go ?_;refine c_lp [(5,5),(8,24)] (λkk e W=>∃i:Nat,(n-i=kk)∧(e 8=.int .i64 i)∧(w.grownBy W (some b))∧(i<=n)∧(True)∧(Tb W)∧(Rw W lo A (cellsR rs))∧(Blk W b 53 #[.bool (ckB bad (rs.take i))])) (n-0) ⟨0,rfl,rfl,G,(Nat.zero_le _),trivial,ht,hr,(by simpa[ckB]using hB)⟩ ?_;rintro _ _ _ ⟨i,rfl,kx,G,hi,aom,ht,hr,hB⟩;have aos:=World.grownBy.size G;by_cases hlt:i<n;obtain⟨bk,o,hA,hcs⟩:=rw_pair hr (i:=i) om;refine go ?_;refine l_op (k_indexAddr (i:=i) (oo:=o+i*2) U23 sz36 rfl hA kx om rfl ?_);refine l_op (k_loadA (cs:=[S (rAt rs i).1,S (rAt rs i).2]) (b:=bk) (o:=o+i*2) U36 rfl sz36 rfl hcs ?_);refine al inf36 (λ_ wz aon=>?_);have ht:=Tb.ext wz.2 ht;have hr:=Rw.ext wz.2 hr;have hB:=be wz.2 hB;have G:=gb_ext G wz.2;refine SA aon (λ_ ly fy=>?_);have ht:=Tb.put ly aon dc ht;have hr:=Rw.putU ly (λad e=>by have:=uhr ad e;omega) hr;have hB:=pb ly hB;have G:=gb_putn G ly om;have aov:=psz ly;refine go ?_;rcases Bool.eq_false_or_eq_true (ckB bad (rs.take i))with fx|fx;refine go ?_;refine SO hB (λ_ ns aoo=>?_);have ht:=Tb.put ns hB dc ht;have hr:=Rw.putU ns (λad e=>by have:=uhr ad e;omega) hr
 have fy:=pb ns fy;have G:=gb_put G ns;have aox:=psz ns;refine go ?_;refine l_op (k_add (a:=(i:Int)) (b:=1) (c:=((i+1:Nat):Int)) kx rfl (by unfold In64;omega) om ?_);refine go ?_;exact lend ⟨i+1,rfl,rfl,G,om,aom,ht,hr,(by first|(rw[ck_t om (by assumption)];exact aoo)|(rw[ck_f om (by assumption)];exact aoo))⟩;refine go ?_;refine cl en82 (rValid_ok ((rAt rs i).1) ((rAt rs i).2) _ ht) ?_;rintro _ _ r8 rfl;have ht:=Tb.ext r8.2 ht;have hr:=Rw.ext r8.2 hr;have⟨hB,fy⟩:=bf2 r8.2 hB fy;have G:=gb_ext G r8.2;refine go ?_;refine SO hB (λ_ sc aop=>?_);have ht:=Tb.put sc hB dc ht;have hr:=Rw.putU sc (λad e=>by have:=uhr ad e;omega) hr;have fy:=pb sc fy;have G:=gb_put G sc;have ao1:=psz sc;refine go ?_;refine l_op (k_add (a:=(i:Int)) (b:=1) (c:=((i+1:Nat):Int)) kx rfl (by unfold In64;omega) om ?_);refine go ?_;exact lend ⟨i+1,rfl,rfl,G,om,aom,ht,hr,(by first|(rw[ck_t om (by assumption)];exact aop)|(rw[ck_f om (by assumption)];exact aop))⟩;refine go ?_;refine f_endA (v:=.tuple #[]) (res0  rfl) ⟨G,(by rw[List.take_of_length_le om]at hB;exact hB),rfl⟩
theorem rDiv_ok (x1 x2 y1 y2:List UInt8)(w:World)(ht:Tb w):
    CL 164 #[.agg #[S x1,S x2],.agg #[S y1,S y2]] w (Ret w λv w'=>v=resR (divR (x1,x2) (y1,y2))):=by
 refine f_in Tryz.func164 rfl ?_;refine go ?_;refine bx (λ_ aot fy=>?_);have ht:=Tb.ext aot.2 ht;have fx:=aot.2;refine bx (λaou aos kx=>?_);have ht:=Tb.ext aos.2 ht;have⟨fy,fx⟩:=be1 aos.2 fy fx;refine al inf36 (λns aoq ly=>?_);have ht:=Tb.ext aoq.2 ht;have⟨fy,kx,fx⟩:=be2 aoq.2 fy kx fx;refine go ?_;refine bx (λaoz aop aor=>?_);have ht:=Tb.ext aop.2 ht;have⟨fy,kx,ly,fx⟩:=be3 aop.2 fy kx ly fx;refine go ?_;refine BS2 (λ_ r8 _ ao0=>?_);have ht:=Tb.ext r8 ht;have⟨fy,kx,ly,aor,fx⟩:=be4 r8 fy kx ly aor fx;have ao4:=bz r8;refine l_op (k_callA (vs:=[pT ns.heap.size,.slice (some ⟨aoz.heap.size,0,none⟩) 2 2]) en223 rfl (check_ok (rs:=[(x1,x2),(y1,y2)]) aor ht (Rw.of_own ao0) rfl om (λ_ e=>by cases e;simp;omega)) ?_);rintro _ _ ⟨sc,aov,rfl⟩;have ht:=Tb.gr sc aor dc ht;have fy:=Blk.gr sc (by simp;omega) fy;have kx:=Blk.gr sc (by simp;omega) kx;have ly:=Blk.gr sc (by simp;omega) ly;have fx:=low_gr fx sc (bz fx) (λg hgg=>by cases hgg;omega);have ao7:=sc.size;refine go ?_;refine l_op (k_callA (vs:=[pT ns.heap.size,S x1,S y2]) en224 rfl (mul_ok aov ht x1 y2) ?_);rintro _ _ ⟨wz,aow,rfl⟩;have ht:=Tb.gr wz aov dc ht;have fy:=Blk.gr wz (by simp;omega) fy;have kx:=Blk.gr wz (by simp;omega) kx;have ly:=Blk.gr wz (by simp;omega) ly;have fx:=low_gr fx wz (bz fx) (λg hgg=>by cases hgg;omega);have apa:=wz.size;refine go ?_
 refine l_op (k_callA (vs:=[pT ns.heap.size,S x2,S y1]) en224 rfl (mul_ok aow ht x2 y1) ?_);rintro _ _ ⟨aol,aox,rfl⟩;have ht:=Tb.gr aol aow dc ht;have fy:=Blk.gr aol (by simp;omega) fy;have kx:=Blk.gr aol (by simp;omega) kx;have ly:=Blk.gr aol (by simp;omega) ly;have fx:=low_gr fx aol (bz fx) (λg hgg=>by cases hgg;omega);have apd:=aol.size;refine l_op (k_callA (vs:=[pT ns.heap.size,S (dS (ckB false [(x1,x2),(y1,y2)]) (mulI x1 y2)),S (dS (dB (ckB false [(x1,x2),(y1,y2)]) (mulI x1 y2)) (mulI x2 y1))]) en225 rfl (red_ok aox ht (dS (ckB false [(x1,x2),(y1,y2)]) (mulI x1 y2)) (dS (dB (ckB false [(x1,x2),(y1,y2)]) (mulI x1 y2)) (mulI x2 y1))) ?_);rintro _ _ ⟨aom,⟨apg,aoy⟩,rfl⟩;have fy:=Blk.gr aom (by simp;omega) fy;have kx:=Blk.gr aom (by simp;omega) kx;have ly:=Blk.gr aom (by simp;omega) ly;have fx:=low_gr fx aom (bz fx) (λg hgg=>by cases hgg;omega);have aph:=aom.size;refine go ?_;refine SA ly (λ_ aon ao1=>?_);have⟨fy,kx,aoy,fx,_⟩:=pl3 aon fy kx aoy fx;refine go ?_
 refine f_out (v:=.tuple #[.agg #[S (rN (redW (dB (dB (ckB false [(x1,x2),(y1,y2)]) (mulI x1 y2)) (mulI x2 y1)) (dS (ckB false [(x1,x2),(y1,y2)]) (mulI x1 y2)) (dS (dB (ckB false [(x1,x2),(y1,y2)]) (mulI x1 y2)) (mulI x2 y1)))),S (rD (redW (dB (dB (ckB false [(x1,x2),(y1,y2)]) (mulI x1 y2)) (mulI x2 y1)) (dS (ckB false [(x1,x2),(y1,y2)]) (mulI x1 y2)) (dS (dB (ckB false [(x1,x2),(y1,y2)]) (mulI x1 y2)) (mulI x2 y1))))],.int .i64 (rER (redW (dB (dB (ckB false [(x1,x2),(y1,y2)]) (mulI x1 y2)) (mulI x2 y1)) (dS (ckB false [(x1,x2),(y1,y2)]) (mulI x1 y2)) (dS (dB (ckB false [(x1,x2),(y1,y2)]) (mulI x1 y2)) (mulI x2 y1))))]) (res2 (r1:=.cell 4 25) (r2:=.tmp 5) rfl ?_ ?_) fx (div_spec x1 x2 y1 y2);refine res_cellA (t:=4) (cs:=[S (rN (redW (dB (dB (ckB false [(x1,x2),(y1,y2)]) (mulI x1 y2)) (mulI x2 y1)) (dS (ckB false [(x1,x2),(y1,y2)]) (mulI x1 y2)) (dS (dB (ckB false [(x1,x2),(y1,y2)]) (mulI x1 y2)) (mulI x2 y1)))),S (rD (redW (dB (dB (ckB false [(x1,x2),(y1,y2)]) (mulI x1 y2)) (mulI x2 y1)) (dS (ckB false [(x1,x2),(y1,y2)]) (mulI x1 y2)) (dS (dB (ckB false [(x1,x2),(y1,y2)]) (mulI x1 y2)) (mulI x2 y1))))]) (b:=aou.heap.size) (o:=0) U36 rfl sz36 ?_ ?_;exact rfl;exact Blk.cells ao1 (i:=0) rfl;exact res_tmp (t:=5) (by exact rfl) _
theorem sum_gen {g0:Nat}{os:List UInt8->List UInt8->Option (List UInt8)}(heg:Enters Tryz.prog g0)(hop:∀a b,Op2 g0 a b (os a b))(x1 x2 y1 y2:List UInt8)(w:World)(ht:Tb w):
    CL 27 #[.func (.func g0) #[] #[],.agg #[S x1,S x2],.agg #[S y1,S y2]] w (Ret w λv w'=>v=resR (sumW os x1 x2 y1 y2 (ckB false [(x1,x2),(y1,y2)]))):=by
 refine f_in Tryz.func27 rfl ?_;refine go ?_;refine bx (λsc ao6 fy=>?_);have ht:=Tb.ext ao6.2 ht;have fx:=ao6.2;refine bx (λaov ao1 kx=>?_);have ht:=Tb.ext ao1.2 ht;have⟨fy,fx⟩:=be1 ao1.2 fy fx;refine al inf36 (λr8 aow ly=>?_);have ht:=Tb.ext aow.2 ht;have⟨fy,kx,fx⟩:=be2 aow.2 fy kx fx;refine go ?_;refine bx (λapc aot aox=>?_);have ht:=Tb.ext aot.2 ht;have⟨fy,kx,ly,fx⟩:=be3 aot.2 fy kx ly fx;refine go ?_;refine BS2 (λ_ wz _ apd=>?_);have ht:=Tb.ext wz ht;have⟨fy,kx,ly,aox,fx⟩:=be4 wz fy kx ly aox fx;have aq6:=bz wz;refine l_op (k_callA (vs:=[pT r8.heap.size,.slice (some ⟨apc.heap.size,0,none⟩) 2 2]) en223 rfl (check_ok (rs:=[(x1,x2),(y1,y2)]) aox ht (Rw.of_own apd) rfl om (λ_ e=>by cases e;simp;omega)) ?_);rintro _ ao7 ⟨aom,ns,rfl⟩;have ht:=Tb.gr aom aox dc ht;have fy:=Blk.gr aom (by simp;omega) fy;have kx:=Blk.gr aom (by simp;omega) kx;have ly:=Blk.gr aom (by simp;omega) ly;have fx:=low_gr fx aom (bz fx) (λg hgg=>by cases hgg;omega);have aq8:=aom.size;refine go ?_;have aol:=Ext.drew ao7
 refine c_anyC hmix 15 (λ_ _=>True) (λ_=>trivial) (λ_ _ _ _ _=>trivial) [λv _=>v=pT r8.heap.size,λv _=>v=.func (.func g0) #[] #[],λv _=>v=pT r8.heap.size,λv _=>v=pT w.heap.size,λv _=>v=S x1,λv _=>v=.pointer (some ⟨sc.heap.size,1,none⟩),λv _=>v=S y2,λv _=>v=S (dS (ckB false [(x1,x2),(y1,y2)]) (mulI x1 y2)),λv _=>v=pT r8.heap.size,λv _=>v=pT sc.heap.size,λv _=>v=S y1,λv _=>v=.pointer (some ⟨w.heap.size,1,none⟩),λv _=>v=S x2,λv _=>v=S (dS (dB (ckB false [(x1,x2),(y1,y2)]) (mulI x1 y2)) (mulI y1 x2)),λv _=>v=S (dS (dB (dB (ckB false [(x1,x2),(y1,y2)]) (mulI x1 y2)) (mulI y1 x2)) (os (dS (ckB false [(x1,x2),(y1,y2)]) (mulI x1 y2)) (dS (dB (ckB false [(x1,x2),(y1,y2)]) (mulI x1 y2)) (mulI y1 x2))))] ⟨λ_ _ _ _ h=>h,λ_ _ _ _ h=>h,λ_ _ _ _ h=>h,λ_ _ _ _ h=>h,λ_ _ _ _ h=>h,λ_ _ _ _ h=>h,λ_ _ _ _ h=>h,λ_ _ _ _ h=>h,λ_ _ _ _ h=>h,λ_ _ _ _ h=>h,λ_ _ _ _ h=>h,λ_ _ _ _ h=>h,λ_ _ _ _ h=>h,λ_ _ _ _ h=>h,λ_ _ _ _ h=>h,trivial⟩ (by kernel_rfl) (by kernel_rfl) (by kernel_rfl) [7,13,14] (by kernel_rfl) (by kernel_rfl) (by kernel_rfl) (λk W=>(Ext w W)∧(ao7.heap.size<=W.heap.size)∧(Tb W)∧(Blk W (w.heap.size) 25 #[S x1,S x2])∧(Blk W (sc.heap.size) 25 #[S y1,S y2])∧(Blk W (aov.heap.size) 25 #[S ([]),S ([])])∧(Blk W (r8.heap.size) 53 #[.bool (([ckB false [(x1,x2),(y1,y2)],dB (ckB false [(x1,x2),(y1,y2)]) (mulI x1 y2),dB (dB (ckB false [(x1,x2),(y1,y2)]) (mulI x1 y2)) (mulI y1 x2),dB (dB (dB (ckB false [(x1,x2),(y1,y2)]) (mulI x1 y2)) (mulI y1 x2)) (os (dS (ckB false [(x1,x2),(y1,y2)]) (mulI x1 y2)) (dS (dB (ckB false [(x1,x2),(y1,y2)]) (mulI x1 y2)) (mulI y1 x2)))]:List Bool).getD k false)])) ⟨(xt fx aol),(bz aol),(Tb.ext aol ht),(be aol fy),(be aol kx),(be aol ly),(be aol ns)⟩ ?_ ?_
 refine⟨λaq9 ara arb ape arc _ apf ard=>?_,?_⟩;obtain⟨aq9,rfl⟩:=ovE apf;obtain⟨fx,zst,ht,fy,kx,ly,ns⟩:=ape;have arf:=bz fx;refine go ?_;exact⟨rfl,_,(act_put _ _ _ _ _).symm,trivial,rfl,⟨fx,om,ht,fy,kx,ly,ns⟩⟩;refine⟨λarh ari arj apg ark _ aph arl=>?_,?_⟩;obtain⟨arh,rfl⟩:=ovE aph;obtain⟨fx,zst,ht,fy,kx,ly,ns⟩:=apg;have arm:=bz fx;refine go ?_;exact⟨rfl,_,(act_put _ _ _ _ _).symm,trivial,rfl,⟨fx,om,ht,fy,kx,ly,ns⟩⟩;refine⟨λarn aro arp api arq _ apj arr=>?_,?_⟩;obtain⟨arn,rfl⟩:=ovE apj;obtain⟨fx,zst,ht,fy,kx,ly,ns⟩:=api;have ars:=bz fx;refine go ?_;exact⟨rfl,_,(act_put _ _ _ _ _).symm,trivial,rfl,⟨fx,om,ht,fy,kx,ly,ns⟩⟩;refine⟨λart aru arv apk arw _ apl arx=>?_,?_⟩;obtain⟨art,rfl⟩:=ovE apl;obtain⟨fx,zst,ht,fy,kx,ly,ns⟩:=apk;have ary:=bz fx;refine go ?_;exact⟨rfl,_,(act_put _ _ _ _ _).symm,trivial,rfl,⟨fx,om,ht,fy,kx,ly,ns⟩⟩;refine⟨λapm arz ar0 apn ar1 _ ar2 apo=>?_,?_⟩;obtain⟨apm,rfl⟩:=ovE ar2;obtain⟨fx,zst,ht,fy,kx,ly,ns⟩:=apn;have ar3:=bz fx;have apq:=zpv (apo 3 20 rfl rfl);refine go ?_;exact⟨rfl,_,(act_put _ _ _ _ _).symm,trivial,rfl,⟨fx,om,ht,fy,kx,ly,ns⟩⟩;refine⟨λar4 ar5 ar6 apr ar7 _ aps ar8=>?_,?_⟩;obtain⟨ar4,rfl⟩:=ovE aps;obtain⟨fx,zst,ht,fy,kx,ly,ns⟩:=apr;have ar9:=bz fx;refine go ?_;exact⟨rfl,_,(act_put _ _ _ _ _).symm,trivial,rfl,⟨fx,om,ht,fy,kx,ly,ns⟩⟩
 refine⟨λapt asa asb apu asc _ asd apv=>?_,?_⟩;obtain⟨apt,rfl⟩:=ovE asd;obtain⟨fx,zst,ht,fy,kx,ly,ns⟩:=apu;have ase:=bz fx;have apw:=zpv (apv 5 22 rfl rfl);refine go ?_;exact⟨rfl,_,(act_put _ _ _ _ _).symm,trivial,rfl,⟨fx,om,ht,fy,kx,ly,ns⟩⟩;refine⟨λao2 apx asf apy apz _ asg ao3=>?_,?_⟩;obtain⟨ao2,rfl⟩:=ovE asg;obtain⟨fx,zst,ht,fy,kx,ly,ns⟩:=apy;obtain rfl:=apz 0 rfl;have ns:Blk apx (r8.heap.size) 53 #[.bool (ckB false [(x1,x2),(y1,y2)])]:=ns;have ash:=bz fx;have ap0:=zpv (ao3 2 19 rfl rfl);have ap1:=zpv (ao3 4 21 rfl rfl);have ap2:=zpv (ao3 6 23 rfl rfl);refine l_op (k_callA (vs:=[pT r8.heap.size,S x1,S y2]) en224 (cons_eq ap0 (cons_eq ap1 (cons_eq ap2 rfl))) (mul_ok ns ht x1 y2) ?_);rintro _ _ ⟨aon,ap3,rfl⟩;have ht:=Tb.gr aon ns dc ht;have fy:=Blk.gr aon (by simp;omega) fy;have kx:=Blk.gr aon (by simp;omega) kx;have ly:=Blk.gr aon (by simp;omega) ly;have fx:=low_gr fx aon (bz fx) (λg hgg=>by cases hgg;omega);have ask:=aon.size;refine go ?_;exact⟨rfl,_,(act_put _ _ _ _ _).symm,trivial,rfl,⟨fx,om,ht,fy,kx,ly,ap3⟩⟩;refine⟨λasl asm aso ap4 asp _ ap5 asq=>?_,?_⟩;obtain⟨asl,rfl⟩:=ovE ap5;obtain⟨fx,zst,ht,fy,kx,ly,ns⟩:=ap4;have asr:=bz fx;refine go ?_;exact⟨rfl,_,(act_put _ _ _ _ _).symm,trivial,rfl,⟨fx,om,ht,fy,kx,ly,ns⟩⟩;refine⟨λass ast asu ap6 asv _ ap7 asw=>?_,?_⟩;obtain⟨ass,rfl⟩:=ovE ap7
 obtain⟨fx,zst,ht,fy,kx,ly,ns⟩:=ap6;have asx:=bz fx;refine go ?_;exact⟨rfl,_,(act_put _ _ _ _ _).symm,trivial,rfl,⟨fx,om,ht,fy,kx,ly,ns⟩⟩;refine⟨λap8 asy asz ap9 as0 _ as1 aqa=>?_,?_⟩;obtain⟨ap8,rfl⟩:=ovE as1;obtain⟨fx,zst,ht,fy,kx,ly,ns⟩:=ap9;have as2:=bz fx;have aqb:=zpv (aqa 9 26 rfl rfl);refine go ?_;exact⟨rfl,_,(act_put _ _ _ _ _).symm,trivial,rfl,⟨fx,om,ht,fy,kx,ly,ns⟩⟩;refine⟨λas3 as4 as5 aqc as6 _ aqd as7=>?_,?_⟩;obtain⟨as3,rfl⟩:=ovE aqd;obtain⟨fx,zst,ht,fy,kx,ly,ns⟩:=aqc;have as8:=bz fx;refine go ?_;exact⟨rfl,_,(act_put _ _ _ _ _).symm,trivial,rfl,⟨fx,om,ht,fy,kx,ly,ns⟩⟩;refine⟨λaqe as9 ata aqf atb _ atc aqg=>?_,?_⟩;obtain⟨aqe,rfl⟩:=ovE atc;obtain⟨fx,zst,ht,fy,kx,ly,ns⟩:=aqf;have atd:=bz fx;have aqh:=zpv (aqg 11 28 rfl rfl);refine go ?_;exact⟨rfl,_,(act_put _ _ _ _ _).symm,trivial,rfl,⟨fx,om,ht,fy,kx,ly,ns⟩⟩;refine⟨λao4 aqi ate aqj aqk _ atf ao5=>?_,?_⟩;obtain⟨ao4,rfl⟩:=ovE atf;obtain⟨fx,zst,ht,fy,kx,ly,ns⟩:=aqj;obtain rfl:=aqk 1 rfl;have ns:Blk aqi (r8.heap.size) 53 #[.bool (dB (ckB false [(x1,x2),(y1,y2)]) (mulI x1 y2))]:=ns;have atg:=bz fx;have aql:=zpv (ao5 8 25 rfl rfl);have aqm:=zpv (ao5 10 27 rfl rfl);have aqn:=zpv (ao5 12 29 rfl rfl);refine l_op (k_callA (vs:=[pT r8.heap.size,S y1,S x2]) en224 (cons_eq aql (cons_eq aqm (cons_eq aqn rfl))) (mul_ok ns ht y1 x2) ?_)
 rintro _ _ ⟨aoo,aqo,rfl⟩;have ht:=Tb.gr aoo ns dc ht;have fy:=Blk.gr aoo (by simp;omega) fy;have kx:=Blk.gr aoo (by simp;omega) kx;have ly:=Blk.gr aoo (by simp;omega) ly;have fx:=low_gr fx aoo (bz fx) (λg hgg=>by cases hgg;omega);have atj:=aoo.size;refine go ?_;exact⟨rfl,_,(act_put _ _ _ _ _).symm,trivial,rfl,⟨fx,om,ht,fy,kx,ly,aqo⟩⟩;refine⟨λaoy aqp atk aqq aqr _ atl aoz=>?_,?_⟩;obtain⟨aoy,rfl⟩:=ovE atl;obtain⟨fx,zst,ht,fy,kx,ly,ns⟩:=aqq;obtain rfl:=aqr 2 rfl;have ns:Blk aqp (r8.heap.size) 53 #[.bool (dB (dB (ckB false [(x1,x2),(y1,y2)]) (mulI x1 y2)) (mulI y1 x2))]:=ns;have atm:=bz fx;have aqs:=zpv (aoz 0 17 rfl rfl);have aqt:=zpv (aoz 1 18 rfl rfl);have aqu:=zpv (aoz 7 24 rfl rfl);have aqv:=zpv (aoz 13 30 rfl rfl);refine l_op (k_callA (vs:=[pT r8.heap.size,.func (.func g0) #[] #[],S (dS (ckB false [(x1,x2),(y1,y2)]) (mulI x1 y2)),S (dS (dB (ckB false [(x1,x2),(y1,y2)]) (mulI x1 y2)) (mulI y1 x2))]) en227 (cons_eq aqs (cons_eq aqt (cons_eq aqu (cons_eq aqv rfl)))) (do_ok (o:=os (dS (ckB false [(x1,x2),(y1,y2)]) (mulI x1 y2)) (dS (dB (ckB false [(x1,x2),(y1,y2)]) (mulI x1 y2)) (mulI y1 x2))) ns ht heg (hop _ _)) ?_);rintro _ _ ⟨aop,aqw,rfl⟩;have ht:=Tb.gr aop ns dc ht;have fy:=Blk.gr aop (by simp;omega) fy;have kx:=Blk.gr aop (by simp;omega) kx;have ly:=Blk.gr aop (by simp;omega) ly;have fx:=low_gr fx aop (bz fx) (λg hgg=>by cases hgg;omega)
 have atp:=aop.size;refine go ?_;exact⟨rfl,_,(act_put _ _ _ _ _).symm,trivial,rfl,⟨fx,om,ht,fy,kx,ly,aqw⟩⟩;exact trivial;intro aou aqx aqy _ ao0 aqz;obtain⟨aou,rfl⟩:=ovE ao0;obtain⟨fx,zst,ht,fy,kx,ly,ns⟩:=aqy;have ns:Blk aqx (r8.heap.size) 53 #[.bool (dB (dB (dB (ckB false [(x1,x2),(y1,y2)]) (mulI x1 y2)) (mulI y1 x2)) (os (dS (ckB false [(x1,x2),(y1,y2)]) (mulI x1 y2)) (dS (dB (ckB false [(x1,x2),(y1,y2)]) (mulI x1 y2)) (mulI y1 x2))))]:=ns;have atq:=bz fx;have aq0:=zpv (aqz 14 31 rfl rfl);refine go ?_;refine l_op (k_callA (vs:=[pT r8.heap.size,S x2,S y2]) en224 rfl (mul_ok ns ht x2 y2) ?_);rintro _ _ ⟨aoq,ao9,rfl⟩;have ht:=Tb.gr aoq ns dc ht;have fy:=Blk.gr aoq (by simp;omega) fy;have kx:=Blk.gr aoq (by simp;omega) kx;have ly:=Blk.gr aoq (by simp;omega) ly;have fx:=low_gr fx aoq (bz fx) (λg hgg=>by cases hgg;omega);have atu:=aoq.size
 refine l_op (k_callA (vs:=[pT r8.heap.size,S (dS (dB (dB (ckB false [(x1,x2),(y1,y2)]) (mulI x1 y2)) (mulI y1 x2)) (os (dS (ckB false [(x1,x2),(y1,y2)]) (mulI x1 y2)) (dS (dB (ckB false [(x1,x2),(y1,y2)]) (mulI x1 y2)) (mulI y1 x2)))),S (dS (dB (dB (dB (ckB false [(x1,x2),(y1,y2)]) (mulI x1 y2)) (mulI y1 x2)) (os (dS (ckB false [(x1,x2),(y1,y2)]) (mulI x1 y2)) (dS (dB (ckB false [(x1,x2),(y1,y2)]) (mulI x1 y2)) (mulI y1 x2)))) (mulI x2 y2))]) en225 rfl (red_ok ao9 ht (dS (dB (dB (ckB false [(x1,x2),(y1,y2)]) (mulI x1 y2)) (mulI y1 x2)) (os (dS (ckB false [(x1,x2),(y1,y2)]) (mulI x1 y2)) (dS (dB (ckB false [(x1,x2),(y1,y2)]) (mulI x1 y2)) (mulI y1 x2)))) (dS (dB (dB (dB (ckB false [(x1,x2),(y1,y2)]) (mulI x1 y2)) (mulI y1 x2)) (os (dS (ckB false [(x1,x2),(y1,y2)]) (mulI x1 y2)) (dS (dB (ckB false [(x1,x2),(y1,y2)]) (mulI x1 y2)) (mulI y1 x2)))) (mulI x2 y2))) ?_);rintro _ _ ⟨aor,⟨atx,apa⟩,rfl⟩;have fy:=Blk.gr aor (by simp;omega) fy;have kx:=Blk.gr aor (by simp;omega) kx;have ly:=Blk.gr aor (by simp;omega) ly;have fx:=low_gr fx aor (bz fx) (λg hgg=>by cases hgg;omega);have aty:=aor.size;refine go ?_;refine SA ly (λ_ aos aq3=>?_);have⟨fy,kx,apa,fx,_⟩:=pl3 aos fy kx apa fx;refine go ?_
 refine f_out (v:=.tuple #[.agg #[S (rN (redW (dB (dB (dB (dB (ckB false [(x1,x2),(y1,y2)]) (mulI x1 y2)) (mulI y1 x2)) (os (dS (ckB false [(x1,x2),(y1,y2)]) (mulI x1 y2)) (dS (dB (ckB false [(x1,x2),(y1,y2)]) (mulI x1 y2)) (mulI y1 x2)))) (mulI x2 y2)) (dS (dB (dB (ckB false [(x1,x2),(y1,y2)]) (mulI x1 y2)) (mulI y1 x2)) (os (dS (ckB false [(x1,x2),(y1,y2)]) (mulI x1 y2)) (dS (dB (ckB false [(x1,x2),(y1,y2)]) (mulI x1 y2)) (mulI y1 x2)))) (dS (dB (dB (dB (ckB false [(x1,x2),(y1,y2)]) (mulI x1 y2)) (mulI y1 x2)) (os (dS (ckB false [(x1,x2),(y1,y2)]) (mulI x1 y2)) (dS (dB (ckB false [(x1,x2),(y1,y2)]) (mulI x1 y2)) (mulI y1 x2)))) (mulI x2 y2)))),S (rD (redW (dB (dB (dB (dB (ckB false [(x1,x2),(y1,y2)]) (mulI x1 y2)) (mulI y1 x2)) (os (dS (ckB false [(x1,x2),(y1,y2)]) (mulI x1 y2)) (dS (dB (ckB false [(x1,x2),(y1,y2)]) (mulI x1 y2)) (mulI y1 x2)))) (mulI x2 y2)) (dS (dB (dB (ckB false [(x1,x2),(y1,y2)]) (mulI x1 y2)) (mulI y1 x2)) (os (dS (ckB false [(x1,x2),(y1,y2)]) (mulI x1 y2)) (dS (dB (ckB false [(x1,x2),(y1,y2)]) (mulI x1 y2)) (mulI y1 x2)))) (dS (dB (dB (dB (ckB false [(x1,x2),(y1,y2)]) (mulI x1 y2)) (mulI y1 x2)) (os (dS (ckB false [(x1,x2),(y1,y2)]) (mulI x1 y2)) (dS (dB (ckB false [(x1,x2),(y1,y2)]) (mulI x1 y2)) (mulI y1 x2)))) (mulI x2 y2))))],.int .i64 (rER (redW (dB (dB (dB (dB (ckB false [(x1,x2),(y1,y2)]) (mulI x1 y2)) (mulI y1 x2)) (os (dS (ckB false [(x1,x2),(y1,y2)]) (mulI x1 y2)) (dS (dB (ckB false [(x1,x2),(y1,y2)]) (mulI x1 y2)) (mulI y1 x2)))) (mulI x2 y2)) (dS (dB (dB (ckB false [(x1,x2),(y1,y2)]) (mulI x1 y2)) (mulI y1 x2)) (os (dS (ckB false [(x1,x2),(y1,y2)]) (mulI x1 y2)) (dS (dB (ckB false [(x1,x2),(y1,y2)]) (mulI x1 y2)) (mulI y1 x2)))) (dS (dB (dB (dB (ckB false [(x1,x2),(y1,y2)]) (mulI x1 y2)) (mulI y1 x2)) (os (dS (ckB false [(x1,x2),(y1,y2)]) (mulI x1 y2)) (dS (dB (ckB false [(x1,x2),(y1,y2)]) (mulI x1 y2)) (mulI y1 x2)))) (mulI x2 y2))))]) (res2 (r1:=.cell 6 25) (r2:=.tmp 7) rfl ?_ ?_) fx rfl
 refine res_cellA (t:=6) (cs:=[S (rN (redW (dB (dB (dB (dB (ckB false [(x1,x2),(y1,y2)]) (mulI x1 y2)) (mulI y1 x2)) (os (dS (ckB false [(x1,x2),(y1,y2)]) (mulI x1 y2)) (dS (dB (ckB false [(x1,x2),(y1,y2)]) (mulI x1 y2)) (mulI y1 x2)))) (mulI x2 y2)) (dS (dB (dB (ckB false [(x1,x2),(y1,y2)]) (mulI x1 y2)) (mulI y1 x2)) (os (dS (ckB false [(x1,x2),(y1,y2)]) (mulI x1 y2)) (dS (dB (ckB false [(x1,x2),(y1,y2)]) (mulI x1 y2)) (mulI y1 x2)))) (dS (dB (dB (dB (ckB false [(x1,x2),(y1,y2)]) (mulI x1 y2)) (mulI y1 x2)) (os (dS (ckB false [(x1,x2),(y1,y2)]) (mulI x1 y2)) (dS (dB (ckB false [(x1,x2),(y1,y2)]) (mulI x1 y2)) (mulI y1 x2)))) (mulI x2 y2)))),S (rD (redW (dB (dB (dB (dB (ckB false [(x1,x2),(y1,y2)]) (mulI x1 y2)) (mulI y1 x2)) (os (dS (ckB false [(x1,x2),(y1,y2)]) (mulI x1 y2)) (dS (dB (ckB false [(x1,x2),(y1,y2)]) (mulI x1 y2)) (mulI y1 x2)))) (mulI x2 y2)) (dS (dB (dB (ckB false [(x1,x2),(y1,y2)]) (mulI x1 y2)) (mulI y1 x2)) (os (dS (ckB false [(x1,x2),(y1,y2)]) (mulI x1 y2)) (dS (dB (ckB false [(x1,x2),(y1,y2)]) (mulI x1 y2)) (mulI y1 x2)))) (dS (dB (dB (dB (ckB false [(x1,x2),(y1,y2)]) (mulI x1 y2)) (mulI y1 x2)) (os (dS (ckB false [(x1,x2),(y1,y2)]) (mulI x1 y2)) (dS (dB (ckB false [(x1,x2),(y1,y2)]) (mulI x1 y2)) (mulI y1 x2)))) (mulI x2 y2))))]) (b:=aov.heap.size) (o:=0) U36 rfl sz36 ?_ ?_;exact rfl;exact Blk.cells aq3 (i:=0) rfl;exact res_tmp (t:=7) (by exact rfl) _
theorem sum_add (x1 x2 y1 y2:List UInt8)(w:World)(ht:Tb w):CL 27 #[.func (.func 40) #[] #[],.agg #[S x1,S x2],.agg #[S y1,S y2]] w (Ret w λv w'=>v=resR (addR (x1,x2) (y1,y2))):=add_spec x1 x2 y1 y2▸sum_gen en222 (λa b W hW=>iAdd_ok a b W hW) x1 x2 y1 y2 w ht
theorem sum_sub (x1 x2 y1 y2:List UInt8)(w:World)(ht:Tb w):CL 27 #[.func (.func 28) #[] #[],.agg #[S x1,S x2],.agg #[S y1,S y2]] w (Ret w λv w'=>v=resR (subR (x1,x2) (y1,y2))):=sub_spec x1 x2 y1 y2▸sum_gen en226 (λa b W hW=>iSub_ok a b W hW) x1 x2 y1 y2 w ht
theorem rAdd_ok (x1 x2 y1 y2:List UInt8)(w:World)(ht:Tb w):
    CL 11 #[.agg #[S x1,S x2],.agg #[S y1,S y2]] w (Ret w λv w'=>v=resR (addR (x1,x2) (y1,y2))):=by
 refine f_in Tryz.func11 rfl ?_;refine go ?_;refine bx (λ_ aol fx=>?_);have ht:=Tb.ext aol.2 ht;have fy:=aol.2;refine bx (λaom wz kx=>?_);have ht:=Tb.ext wz.2 ht;have⟨fx,fy⟩:=be1 wz.2 fx fy;refine al inf36 (λ_ r8 sc=>?_);have ht:=Tb.ext r8.2 ht;have⟨fx,kx,fy⟩:=be2 r8.2 fx kx fy;refine go ?_;refine cl en221 (sum_add x1 x2 y1 y2 _ ht) ?_;rintro _ _ ly rfl;have⟨fx,kx,sc,fy⟩:=be3 ly.2 fx kx sc fy;refine go ?_;refine SA sc (λ_ ns aoo=>?_);have⟨fx,kx,fy,_⟩:=pl2 ns fx kx fy;refine go ?_;refine f_out (v:=.tuple #[.agg #[S (rN (addR (x1,x2) (y1,y2))),S (rD (addR (x1,x2) (y1,y2)))],.int .i64 (rER (addR (x1,x2) (y1,y2)))]) (res2 (r1:=.cell 4 25) (r2:=.tmp 5) rfl ?_ ?_) fy rfl;refine res_cellA (t:=4) (cs:=[S (rN (addR (x1,x2) (y1,y2))),S (rD (addR (x1,x2) (y1,y2)))]) (b:=aom.heap.size) (o:=0) U36 rfl sz36 ?_ ?_;exact rfl;exact Blk.cells aoo (i:=0) rfl;exact res_tmp (t:=5) (by exact rfl) _
theorem rSub_ok (x1 x2 y1 y2:List UInt8)(w:World)(ht:Tb w):
    CL 9 #[.agg #[S x1,S x2],.agg #[S y1,S y2]] w (Ret w λv w'=>v=resR (subR (x1,x2) (y1,y2))):=by
 refine f_in Tryz.func9 rfl ?_;refine go ?_;refine bx (λ_ aol fx=>?_);have ht:=Tb.ext aol.2 ht;have fy:=aol.2;refine bx (λaom wz kx=>?_);have ht:=Tb.ext wz.2 ht;have⟨fx,fy⟩:=be1 wz.2 fx fy;refine al inf36 (λ_ r8 sc=>?_);have ht:=Tb.ext r8.2 ht;have⟨fx,kx,fy⟩:=be2 r8.2 fx kx fy;refine go ?_;refine cl en221 (sum_sub x1 x2 y1 y2 _ ht) ?_;rintro _ _ ly rfl;have⟨fx,kx,sc,fy⟩:=be3 ly.2 fx kx sc fy;refine go ?_;refine SA sc (λ_ ns aoo=>?_);have⟨fx,kx,fy,_⟩:=pl2 ns fx kx fy;refine go ?_;refine f_out (v:=.tuple #[.agg #[S (rN (subR (x1,x2) (y1,y2))),S (rD (subR (x1,x2) (y1,y2)))],.int .i64 (rER (subR (x1,x2) (y1,y2)))]) (res2 (r1:=.cell 4 25) (r2:=.tmp 5) rfl ?_ ?_) fy rfl;refine res_cellA (t:=4) (cs:=[S (rN (subR (x1,x2) (y1,y2))),S (rD (subR (x1,x2) (y1,y2)))]) (b:=aom.heap.size) (o:=0) U36 rfl sz36 ?_ ?_;exact rfl;exact Blk.cells aoo (i:=0) rfl;exact res_tmp (t:=5) (by exact rfl) _
end Go.Proofs.YtinldhphnpflaaaGreatDoor
namespace Go.Proofs.YtinldhphnpflaaaGreatDoor
open Go Go.Eng Go.RowKit
theorem okR_pos {a:R}(h:okR a=true):0<valZ a.2:=by
  have h2:=okR_2 h
  simp only[okR,Bool.and_eq_true,Bool.not_eq_true',decide_eq_false_iff_not]at h
  have:=h.1.2
  rw[cmpS_zero h2,cmpI_nonpos]at this
  omega
end Go.Proofs.YtinldhphnpflaaaGreatDoor
namespace Go.Proofs.YtinldhphnpflaaaGreatDoor
set_option maxRecDepth 100000
open Go Go.Eng Go.RowKit
attribute [local irreducible] wpListIn Code.wpIn Oper.wpIn Exit.then Exit.inBlock Exit.noGoto
set_option maxHeartbeats 40000000
section
variable {f:FuncId}{a:Array Value}{w:World}
theorem cEq {X Y:Value}(h:CL f a w (Ret w λv _=>v=X))(e:X=Y):CL f a w (Ret w λv _=>v=Y):=e▸h
theorem cB {X Y:Bool}(h:CL f a w (Ret w λv _=>v=.bool X))(e:X=Y):CL f a w (Ret w λv _=>v=.bool Y):=e▸h
end
theorem up_0 {a b:Nat}(h:nS (a%b)=[48]):S (nS (a/b))=S (nS (upn a b)):=by
  have:=showI_zero.1 h
  unfold upn;rw[if_pos om]
theorem up_1 {a b:Nat}(h:¬nS (a%b)=[48]):S (nS (a/b+1))=S (nS (upn a b)):=by
  unfold upn;rw[if_neg λe=>h (by rw[e];rfl)]
theorem div_fi {a b:Nat}(h:Fi a):Fi (a/b):=Nat.lt_of_le_of_lt (Nat.div_le_self _ _) h
theorem upn_fi {a b:Nat}(h:Fi a)(hb:0<b):Fi (upn a b):=Nat.lt_of_le_of_lt (upn_le hb) h
theorem up_fi {a b:Nat}(h:Fi a)(hb:0<b)(h0:¬nS (a%b)=[48]):Fi (a/b+1):=by
  have h1:=upn_fi h hb
  unfold upn at h1
  rwa [if_neg λe=>h0 (by rw[e];rfl)]at h1
theorem fi1:Fi 1:=by unfold Fi;decide
theorem fi_add {a b:Nat}(h:Fi (a+b)):Fi a∧Fi b:=by unfold Fi at *;omega
theorem divI_N {a b:Nat}(ha:Fi a)(hb:Fi b)(h0:0<b):divI (nS a) (nS b)=some (nS (a/b),nS (a%b)):=divI_Z ha.z hb.z om (div_fi ha).z
theorem zAdd_ok {l m:List UInt8}{a b:Int}{w:World}(hl:l=showI a)(hm:m=showI b)(ha:Fz a)(hb:Fz b)(h:Fz (a+b))(ht:Tb w):
    CL 37 #[S l,S m] w (Ret w λv w'=>v=S (showI (a+b))):=by
 subst hl hm;refine f_in Tryz.func37 rfl ?_;refine go ?_;refine cl en222 (cEq (Y:=.tuple #[S (showI (a+b)),.int .i64 0]) (iAdd_ok _ _ _ (ht.ext (Ext.refl _))) (congrArg resI (addI_Z ha hb h))) ?_;rintro _ _ kx rfl;have r8:=kx.2;refine go ?_;exact f_ret1 (t:=4) (v:=S (showI (a+b))) rfl r8 rfl rfl
theorem zSub_ok {l m:List UInt8}{a b:Int}{w:World}(hl:l=showI a)(hm:m=showI b)(ha:Fz a)(hb:Fz b)(h:Fz (a-b))(ht:Tb w):
    CL 35 #[S l,S m] w (Ret w λv w'=>v=S (showI (a-b))):=by
 subst hl hm;refine f_in Tryz.func35 rfl ?_;refine go ?_;refine cl en226 (cEq (Y:=.tuple #[S (showI (a-b)),.int .i64 0]) (iSub_ok _ _ _ (ht.ext (Ext.refl _))) (congrArg resI (subI_Z ha hb h))) ?_;rintro _ _ kx rfl;have r8:=kx.2;refine go ?_;exact f_ret1 (t:=4) (v:=S (showI (a-b))) rfl r8 rfl rfl
theorem zMul_ok {l m:List UInt8}{a b:Int}{w:World}(hl:l=showI a)(hm:m=showI b)(ha:Fz a)(hb:Fz b)(h:Fz (a*b))(ht:Tb w):
    CL 33 #[S l,S m] w (Ret w λv w'=>v=S (showI (a*b))):=by
 subst hl hm;refine f_in Tryz.func33 rfl ?_;refine go ?_;refine cl en229 (cEq (Y:=.tuple #[S (showI (a*b)),.int .i64 0]) (iMul_ok _ _ _ (ht.ext (Ext.refl _))) (congrArg resI (mulI_Z ha hb h))) ?_;rintro _ _ kx rfl;have r8:=kx.2;refine go ?_;exact f_ret1 (t:=4) (v:=S (showI (a*b))) rfl r8 rfl rfl
theorem zDown_ok {l m:List UInt8}{a b:Int}{w:World}(hl:l=showI a)(hm:m=showI b)(ha:Fz a)(hb:Fz b)(hp:0<b)(ht:Tb w):
    CL 36 #[S l,S m] w (Ret w λv w'=>v=S (showI (a/b))):=by
 subst hl hm;have h0:b≠0:=om;refine f_in Tryz.func36 rfl ?_;refine go ?_;refine clb en83 (hc:=cEq (Y:=.tuple #[S (showI (a/b)),S (showI (a%b)),.int .i64 0]) (iDiv_ok _ _ _ (ht.ext (Ext.refl _))) (congrArg resD (divI_Z ha hb h0 (fz_div ha om)))) (hk:=?_);rintro _ _ kx rfl;have r8:=kx.2;refine go ?_;exact f_ret1 (t:=4) (v:=S (showI (a/b))) rfl r8 rfl rfl
theorem nAdd_ok {l m:List UInt8}{a b:Nat}{w:World}(hl:l=nS a)(hm:m=nS b)(h:Fi (a+b))(ht:Tb w):CL 37 #[S l,S m] w (Ret w λv _=>v=S (nS (a+b))):=zAdd_ok hl hm (fi_add h).1.z (fi_add h).2.z h.z ht
theorem nMul_ok {l m:List UInt8}{a b:Nat}{w:World}(hl:l=nS a)(hm:m=nS b)(ha:Fi a)(hb:Fi b)(h:Fi (a*b))(ht:Tb w):CL 33 #[S l,S m] w (Ret w λv _=>v=S (nS (a*b))):=zMul_ok hl hm ha.z hb.z h.z ht
theorem nDown_ok {l m:List UInt8}{a b:Nat}{w:World}(hl:l=nS a)(hm:m=nS b)(ha:Fi a)(hb:Fi b)(hp:0<b)(ht:Tb w):CL 36 #[S l,S m] w (Ret w λv _=>v=S (nS (a/b))):=zDown_ok hl hm ha.z hb.z om ht
theorem nUp_ok {l m:List UInt8}{a b:Nat}{w:World}(hl:l=nS a)(hm:m=nS b)(ha:Fi a)(hb:Fi b)(hp:0<b)(ht:Tb w):
    CL 104 #[S l,S m] w (Ret w λv w'=>v=S (nS (upn a b))):=by
 subst hl hm;refine f_in Tryz.func104 rfl ?_;refine go ?_;refine cl en83 (cEq (Y:=.tuple #[S (nS (a/b)),S (nS (a%b)),.int .i64 0]) (iDiv_ok _ _ _ (ht.ext (Ext.refl _))) (congrArg resD (divI_N ha hb hp))) ?_;rintro _ _ sc rfl;have kx:=sc.2;refine go ?_;refine eqs (b:=[48]) ?_;refine go ?_;by_cases r8:(nS (a%b))=([48]);refine go ?_;exact f_ret1 (t:=4) (v:=S (nS (a/b))) rfl kx (up_0 r8) rfl;refine go ?_;refine cl en1045 (nAdd_ok rfl lit1 (up_fi ha hp r8) (ht.ext kx)) ?_;rintro _ _ aol rfl;have kx:=xt kx aol.2;refine go ?_;exact f_ret1 (t:=4) (v:=S (nS (a/b+1))) rfl kx (up_1 r8) rfl
theorem fromN_ok {n:Nat}{w:World}(hn:n<1000000000)(ht:Tb w):
    CL 182 #[.int .i64 n] w (Ret w λv w'=>v=S (nS n)):=by
 refine f_in Tryz.func182 rfl ?_;refine go ?_;refine clb en131 (hc:=cEq (Y:=S (nS n)) (itoa_ok _ _ om om (ht.ext (Ext.refl _))) (congrArg S (itoa_nat n))) (hk:=?_);rintro _ _ kx rfl;have r8:=kx.2;refine go ?_;exact f_ret1 (t:=2) (v:=S (nS n)) rfl r8 rfl rfl
theorem Sc.fi {S:Nat}(h:Sc S):Fi S:=fi_pow h.lt dc
theorem ten_digs (k:Nat):digs (49::List.replicate k 48)=List.replicate k 0++[1]:=by simp[digs]
theorem ofB_tens (k:Nat):ofB 10 (List.replicate k 0++[1])=10^k:=by
  induction k with
  |zero=>rfl
  |succ k ih=>rw[List.replicate_succ,List.cons_append];show 0+10*ofB 10 (List.replicate k 0++[1])=_;rw[ih,Nat.pow_succ];omega
theorem ten_str {k:Nat}(h:k<200):(49::List.replicate k 48:List UInt8)=nS (10^k):=by
  have h1:isNum (49::List.replicate k 48)=true:=by
    simp only[isNum,Bool.and_eq_true,Bool.or_eq_true,decide_eq_true_eq]
    refine⟨⟨⟨by simp,by simp;omega⟩,?_⟩,Or.inr (by simp)⟩
    rw[List.all_cons,List.all_eq_true.2]
    · decide
    · intro x hx;rw[List.eq_of_mem_replicate hx];decide
  have h2:=showN_valN h1
  have h3:valN (49::List.replicate k 48)=10^k:=by unfold valN;rw[ten_digs,ofB_tens]
  rw[h3]at h2
  rw[<-h2];unfold nS showI
  rw[if_neg om,Int.natAbs_natCast]
theorem zeros_str (k:Nat):Lib.repeatL [48] k=List.replicate k 48:=by
  induction k with
  |zero=>rfl
  |succ k ih=>simp[Lib.repeatL,List.replicate_succ]at ih ⊢;exact ih
theorem one_str {k:Nat}(h:k<200):([49]:List UInt8)++Lib.repeatL [48] k=nS (10^k):=by rw[zeros_str,<-ten_str h];rfl
theorem fz_sub {a b:Nat}(ha:a<10^199)(hb:b<10^199):Fz ((a:Int)-(b:Int)):=by unfold Fz;omega
theorem spAt_ok {pl:Nat}(hp:pl<200){w:World}(ht:Tb w):
    CL 31 #[.int .i64 pl] w (Ret w λv w'=>v=.agg #[.int .i64 pl,S (nS (10^pl))]):=by
 refine f_in Tryz.func31 rfl ?_;refine go ?_;refine al inf1054 (λ_ aom r8=>?_);have kx:=aom.2;refine go ?_;refine clb en132 (hc:=repeat_ok [48] pl _ om dc) (hk:=?_);rintro _ _ sc rfl;have⟨r8,kx⟩:=be1 sc.2 r8 kx;refine l_op (k_addS (a:=[49]) (b:=Lib.repeatL [48] pl) rfl rfl (by rw[zeros_str];simp;omega) ?_);refine go ?_;refine SA r8 (λ_ aol aon=>?_);have kx:=plw aol kx;have aos:=psz aol;refine go ?_;refine f_out (v:=.agg #[.int .i64 pl,S (([49])++(Lib.repeatL [48] pl))]) (res1  rfl ?_) kx (by rw[one_str hp]);refine res_cellA (t:=2) (cs:=[.int .i64 pl,S (([49])++(Lib.repeatL [48] pl))]) (b:=w.heap.size) (o:=0) U1054 rfl sz1054 ?_ ?_;exact rfl;exact Blk.cells aon (i:=0) rfl
theorem spRatio_ok {a b:List UInt8}{w:World}:
    CL 29 #[S a,S b] w (Ret w λv w'=>v=.agg #[S a,S b]):=by
 refine f_in Tryz.func29 rfl ?_;refine go ?_;refine al inf36 (λ_ sc aol=>?_);have kx:=sc.2;refine go ?_;refine SA aol (λ_ r8 aom=>?_);have kx:=plw r8 kx;have aop:=psz r8;refine go ?_;refine f_out (v:=.agg #[S a,S b]) (res1  rfl ?_) kx rfl;refine res_cellA (t:=4) (cs:=[S a,S b]) (b:=w.heap.size) (o:=0) U36 rfl sz36 ?_ ?_;exact rfl;exact Blk.cells aom (i:=0) rfl
theorem spOf_ok {sO pl:Nat}{n d:Nat}{w:World}(hS:Sc sO)(hn:Fi n)(hd:Fi d)(h0:0<d)(hm:Fi (n*sO))(ht:Tb w):
    CL 69 #[.agg #[.int .i64 pl,S (nS sO)],.agg #[S (nS n),S (nS d)]] w (Ret w λv w'=>v=.agg #[S (nS ((ofP sO n d).1)),S (nS ((ofP sO n d).2))]):=by
 refine f_in Tryz.func69 rfl ?_;refine go ?_;refine bx (λ_ ao2 kx=>?_);have aol:=ao2.2;refine bx (λao0 ao1 r8=>?_);have⟨kx,aol⟩:=be1 ao1.2 kx aol;refine al inf1056 (λ_ aot sc=>?_);have⟨kx,r8,aol⟩:=be2 aot.2 kx r8 aol;refine go ?_;refine cl en1043 (nMul_ok rfl rfl hn hS.fi hm (ht.ext aol)) ?_;rintro _ _ aon rfl;have⟨kx,r8,sc,aol⟩:=be3 aon.2 kx r8 sc aol;refine go ?_;refine c_an 7 ?_;refine sf ?_;refine sf_ae (V:=S (nS ((n*sO)/d))) (λ_ _ aoo _=>?_) ?_;refine cl en1044 (nDown_ok rfl rfl hm hd h0 (ht.ext (xt aol aoo))) ?_;rintro _ _ aop rfl;have ao3:=aop.2;refine go ?_;exact fs ⟨ao3,rfl⟩;refine sf ?_;intro _ _ aoq _;have⟨kx,r8,sc,aol⟩:=be3 aoq.2 kx r8 sc aol;refine cl en1069 (nUp_ok rfl rfl hm hd h0 (ht.ext aol)) ?_;rintro _ _ aor rfl;have⟨kx,r8,sc,aol⟩:=be3 aor.2 kx r8 sc aol;refine go ?_;refine SA sc (λ_ aos ao4=>?_);have⟨kx,r8,aol,_⟩:=pl2 aos kx r8 aol;refine go ?_;refine f_out (v:=.agg #[S (nS ((n*sO)/d)),S (nS (upn (n*sO) d))]) (res1  rfl ?_) aol rfl;refine res_cellA (t:=4) (cs:=[S (nS ((n*sO)/d)),S (nS (upn (n*sO) d))]) (b:=ao0.heap.size) (o:=0) U1056 rfl sz1056 ?_ ?_;exact rfl;exact Blk.cells ao4 (i:=0) rfl
theorem spWhole_ok {sO pl:Nat}{n:Nat}{w:World}(hS:Sc sO)(h9:n<10^9)(hm:Fi (n*sO))(ht:Tb w):
    CL 179 #[.agg #[.int .i64 pl,S (nS sO)],.int .i64 n] w (Ret w λv w'=>v=.agg #[S (nS ((n*sO,n*sO).1)),S (nS ((n*sO,n*sO).2))]):=by
 have hn:Fi n:=fi_pow (k:=9) h9 dc;refine f_in Tryz.func179 rfl ?_;refine go ?_;refine bx (λaoq aov kx=>?_);have sc:=aov.2;refine al inf1056 (λ_ aor r8=>?_);have⟨kx,sc⟩:=be1 aor.2 kx sc;refine go ?_;refine c_an 4 ?_;refine sf ?_;refine sf_ae (V:=S (nS n)) (λ_ _ aol _=>?_) ?_;refine cl en1067 (fromN_ok h9 (ht.ext (xt sc aol))) ?_;rintro _ _ aom rfl;have aow:=aom.2;refine go ?_;exact fs ⟨aow,rfl⟩;refine sf ?_;intro _ _ aon _;have⟨kx,r8,sc⟩:=be2 aon.2 kx r8 sc;refine cl en1043 (nMul_ok rfl rfl hn hS.fi hm (ht.ext sc)) ?_;rintro _ _ aoo rfl;have⟨kx,r8,sc⟩:=be2 aoo.2 kx r8 sc;refine go ?_;refine SA r8 (λ_ aop aox=>?_);have⟨kx,sc,_⟩:=pl1 aop kx sc;refine go ?_;refine f_out (v:=.agg #[S (nS (n*sO)),S (nS (n*sO))]) (res1  rfl ?_) sc rfl;refine res_cellA (t:=4) (cs:=[S (nS (n*sO)),S (nS (n*sO))]) (b:=aoq.heap.size) (o:=0) U1056 rfl sz1056 ?_ ?_;exact rfl;exact Blk.cells aox (i:=0) rfl
theorem spPlus_ok {sO pl:Nat}{a b:N2}{w:World}(h1:Fi (a.1+b.1))(h2:Fi (a.2+b.2))(ht:Tb w):
    CL 103 #[.agg #[.int .i64 pl,S (nS sO)],.agg #[S (nS a.1),S (nS a.2)],.agg #[S (nS b.1),S (nS b.2)]] w (Ret w λv w'=>v=.agg #[S (nS ((plP a b).1)),S (nS ((plP a b).2))]):=by
 refine f_in Tryz.func103 rfl ?_;refine go ?_;refine bx (λ_ ao6 kx=>?_);have aom:=ao6.2;refine bx (λ_ ao4 r8=>?_);have⟨kx,aom⟩:=be1 ao4.2 kx aom;refine bx (λao5 ao3 sc=>?_);have⟨kx,r8,aom⟩:=be2 ao3.2 kx r8 aom;refine al inf1056 (λ_ aou aol=>?_);have⟨kx,r8,sc,aom⟩:=be3 aou.2 kx r8 sc aom;refine go ?_;refine c_an 9 ?_;refine sf ?_;refine sf_ae (V:=S (nS (a.1+b.1))) (λ_ _ aon _=>?_) ?_;refine cl en1045 (nAdd_ok rfl rfl h1 (ht.ext (xt aom aon))) ?_;rintro _ _ aoo rfl;have ao7:=aoo.2;refine go ?_;exact fs ⟨ao7,rfl⟩;refine sf ?_;intro _ _ aop _;have⟨kx,r8,sc,aol,aom⟩:=be4 aop.2 kx r8 sc aol aom;refine cl en1045 (nAdd_ok rfl rfl h2 (ht.ext aom)) ?_;rintro _ _ aoq rfl;have⟨kx,r8,sc,aol,aom⟩:=be4 aoq.2 kx r8 sc aol aom;refine go ?_;refine SA aol (λ_ aor ao8=>?_);have⟨kx,r8,sc,aom,_⟩:=pl3 aor kx r8 sc aom;refine go ?_;refine f_out (v:=.agg #[S (nS (a.1+b.1)),S (nS (a.2+b.2))]) (res1  rfl ?_) aom rfl;refine res_cellA (t:=6) (cs:=[S (nS (a.1+b.1)),S (nS (a.2+b.2))]) (b:=ao5.heap.size) (o:=0) U1056 rfl sz1056 ?_ ?_;exact rfl;exact Blk.cells ao8 (i:=0) rfl
theorem spMinus_ok {sO pl:Nat}{a b:N2}{w:World}(ha:Bk 199 a)(hb:Bk 199 b)(ht:Tb w):
    CL 101 #[.agg #[.int .i64 pl,S (nS sO)],.agg #[S (nS a.1),S (nS a.2)],.agg #[S (nS b.1),S (nS b.2)]] w (Ret w λv w'=>v=.agg #[S (showI ((miP a b).1)),S (showI ((miP a b).2))]):=by
 have fa:=ha.fi dc;have fb:=hb.fi dc;refine f_in Tryz.func101 rfl ?_;refine go ?_;refine bx (λ_ ao6 kx=>?_);have aom:=ao6.2;refine bx (λ_ ao4 r8=>?_);have⟨kx,aom⟩:=be1 ao4.2 kx aom;refine bx (λao5 ao3 sc=>?_);have⟨kx,r8,aom⟩:=be2 ao3.2 kx r8 aom;refine al inf1056 (λ_ aou aol=>?_);have⟨kx,r8,sc,aom⟩:=be3 aou.2 kx r8 sc aom;refine go ?_;refine c_an 9 ?_;refine sf ?_;refine sf_ae (V:=S (showI (((a.1:Nat):Int)-((b.2:Nat):Int)))) (λ_ _ aon _=>?_) ?_;refine cl en1038 (zSub_ok rfl rfl fa.1.z fb.2.z (fz_sub ha.1 hb.2) (ht.ext (xt aom aon))) ?_;rintro _ _ aoo rfl;have ao7:=aoo.2;refine go ?_;exact fs ⟨ao7,rfl⟩;refine sf ?_;intro _ _ aop _;have⟨kx,r8,sc,aol,aom⟩:=be4 aop.2 kx r8 sc aol aom;refine cl en1038 (zSub_ok rfl rfl fa.2.z fb.1.z (fz_sub ha.2 hb.1) (ht.ext aom)) ?_;rintro _ _ aoq rfl;have⟨kx,r8,sc,aol,aom⟩:=be4 aoq.2 kx r8 sc aol aom;refine go ?_;refine SA aol (λ_ aor ao8=>?_);have⟨kx,r8,sc,aom,_⟩:=pl3 aor kx r8 sc aom;refine go ?_;refine f_out (v:=.agg #[S (showI (((a.1:Nat):Int)-((b.2:Nat):Int))),S (showI (((a.2:Nat):Int)-((b.1:Nat):Int)))]) (res1  rfl ?_) aom rfl;refine res_cellA (t:=6) (cs:=[S (showI (((a.1:Nat):Int)-((b.2:Nat):Int))),S (showI (((a.2:Nat):Int)-((b.1:Nat):Int)))]) (b:=ao5.heap.size) (o:=0) U1056 rfl sz1056 ?_ ?_;exact rfl;exact Blk.cells ao8 (i:=0) rfl
theorem spTimes_ok {sO pl:Nat}{a b:N2}{w:World}(hS:Sc sO)(ha:Bk 95 a)(hb:Bk 95 b)(ht:Tb w):
    CL 141 #[.agg #[.int .i64 pl,S (nS sO)],.agg #[S (nS a.1),S (nS a.2)],.agg #[S (nS b.1),S (nS b.2)]] w (Ret w λv w'=>v=.agg #[S (nS ((tmP sO a b).1)),S (nS ((tmP sO a b).2))]):=by
 have fa:=ha.fi dc;have fb:=hb.fi dc;refine f_in Tryz.func141 rfl ?_;refine go ?_;refine bx (λ_ ape kx=>?_);have aom:=ape.2;refine bx (λ_ apc r8=>?_);have⟨kx,aom⟩:=be1 apc.2 kx aom;refine bx (λapd apb sc=>?_);have⟨kx,r8,aom⟩:=be2 apb.2 kx r8 aom;refine al inf1056 (λ_ aoy aol=>?_);have⟨kx,r8,sc,aom⟩:=be3 aoy.2 kx r8 sc aom;refine go ?_;refine c_an 15 ?_;refine sf ?_;refine sf_ae (V:=S (nS (a.1*b.1))) (λ_ _ aon _=>?_) ?_;refine clb en1043 (hc:=nMul_ok rfl rfl fa.1 fb.1 (fi_mul ha.1 hb.1 dc) (ht.ext (xt aom aon))) (hk:=?_);rintro _ _ aoo rfl;have apf:=aoo.2;refine go ?_;exact fs ⟨apf,rfl⟩;refine sf ?_;refine sf_ae (V:=S (nS ((a.1*b.1)/sO))) (λ_ _ aop _=>?_) ?_;refine clb en1044 (hc:=nDown_ok rfl rfl (fi_mul ha.1 hb.1 dc) hS.fi hS.pos (ht.ext (xt aom aop))) (hk:=?_);rintro _ _ aoq rfl;have apg:=aoq.2;refine go ?_;exact fs ⟨apg,rfl⟩;refine sf ?_;refine sf_ae (V:=S (nS (a.2*b.2))) (λ_ _ aor _=>?_) ?_;refine clb en1043 (hc:=nMul_ok rfl rfl fa.2 fb.2 (fi_mul ha.2 hb.2 dc) (ht.ext (xt aom aor))) (hk:=?_);rintro _ _ aos rfl;have aph:=aos.2;refine go ?_;exact fs ⟨aph,rfl⟩;refine sf ?_;intro _ _ aot _;have⟨kx,r8,sc,aol,aom⟩:=be4 aot.2 kx r8 sc aol aom;refine clb en1069 (hc:=nUp_ok rfl rfl (fi_mul ha.2 hb.2 dc) hS.fi hS.pos (ht.ext aom)) (hk:=?_);rintro _ _ aou rfl;have⟨kx,r8,sc,aol,aom⟩:=be4 aou.2 kx r8 sc aol aom;refine go ?_
 refine SA aol (λ_ aov api=>?_);have⟨kx,r8,sc,aom,_⟩:=pl3 aov kx r8 sc aom;refine go ?_;refine f_out (v:=.agg #[S (nS ((a.1*b.1)/sO)),S (nS (upn (a.2*b.2) sO))]) (res1  rfl ?_) aom rfl;refine res_cellA (t:=6) (cs:=[S (nS ((a.1*b.1)/sO)),S (nS (upn (a.2*b.2) sO))]) (b:=apd.heap.size) (o:=0) U1056 rfl sz1056 ?_ ?_;exact rfl;exact Blk.cells api (i:=0) rfl
theorem spOver_ok {sO pl:Nat}{a b:N2}{w:World}(hS:Sc sO)(ha:Bk 95 a)(hb:Bk 190 b)(h1:0<b.1)(h2:0<b.2)(ht:Tb w):
    CL 146 #[.agg #[.int .i64 pl,S (nS sO)],.agg #[S (nS a.1),S (nS a.2)],.agg #[S (nS b.1),S (nS b.2)]] w (Ret w λv w'=>v=.agg #[S (nS ((ovP sO a b).1)),S (nS ((ovP sO a b).2))]):=by
 have fa:=ha.fi dc;have fb:=hb.fi dc;refine f_in Tryz.func146 rfl ?_;refine go ?_;refine bx (λ_ ape kx=>?_);have aom:=ape.2;refine bx (λ_ apc r8=>?_);have⟨kx,aom⟩:=be1 apc.2 kx aom;refine bx (λapd apb sc=>?_);have⟨kx,r8,aom⟩:=be2 apb.2 kx r8 aom;refine al inf1056 (λ_ aoy aol=>?_);have⟨kx,r8,sc,aom⟩:=be3 aoy.2 kx r8 sc aom;refine go ?_;refine c_an 15 ?_;refine sf ?_;refine sf_ae (V:=S (nS (a.1*sO))) (λ_ _ aon _=>?_) ?_;refine clb en1043 (hc:=nMul_ok rfl rfl fa.1 hS.fi (fi_mul ha.1 hS.lt dc) (ht.ext (xt aom aon))) (hk:=?_);rintro _ _ aoo rfl;have apf:=aoo.2;refine go ?_;exact fs ⟨apf,rfl⟩;refine sf ?_;refine sf_ae (V:=S (nS ((a.1*sO)/b.2))) (λ_ _ aop _=>?_) ?_;refine clb en1044 (hc:=nDown_ok rfl rfl (fi_mul ha.1 hS.lt dc) fb.2 h2 (ht.ext (xt aom aop))) (hk:=?_);rintro _ _ aoq rfl;have apg:=aoq.2;refine go ?_;exact fs ⟨apg,rfl⟩;refine sf ?_;refine sf_ae (V:=S (nS (a.2*sO))) (λ_ _ aor _=>?_) ?_;refine clb en1043 (hc:=nMul_ok rfl rfl fa.2 hS.fi (fi_mul ha.2 hS.lt dc) (ht.ext (xt aom aor))) (hk:=?_);rintro _ _ aos rfl;have aph:=aos.2;refine go ?_;exact fs ⟨aph,rfl⟩;refine sf ?_;intro _ _ aot _;have⟨kx,r8,sc,aol,aom⟩:=be4 aot.2 kx r8 sc aol aom;refine clb en1069 (hc:=nUp_ok rfl rfl (fi_mul ha.2 hS.lt dc) fb.1 h1 (ht.ext aom)) (hk:=?_);rintro _ _ aou rfl;have⟨kx,r8,sc,aol,aom⟩:=be4 aou.2 kx r8 sc aol aom;refine go ?_;refine SA aol (λ_ aov api=>?_)
 have⟨kx,r8,sc,aom,_⟩:=pl3 aov kx r8 sc aom;refine go ?_;refine f_out (v:=.agg #[S (nS ((a.1*sO)/b.2)),S (nS (upn (a.2*sO) b.1))]) (res1  rfl ?_) aom rfl;refine res_cellA (t:=6) (cs:=[S (nS ((a.1*sO)/b.2)),S (nS (upn (a.2*sO) b.1))]) (b:=apd.heap.size) (o:=0) U1056 rfl sz1056 ?_ ?_;exact rfl;exact Blk.cells api (i:=0) rfl
theorem spBy_ok {sO pl:Nat}{a:N2}{n d:Nat}{w:World}(ha:Bk 190 a)(hn:n<10^9)(hd:d<10^9)(h0:0<d)(ht:Tb w):
    CL 145 #[.agg #[.int .i64 pl,S (nS sO)],.agg #[S (nS a.1),S (nS a.2)],.int .i64 n,.int .i64 d] w (Ret w λv w'=>v=.agg #[S (nS ((byP a n d).1)),S (nS ((byP a n d).2))]):=by
 have fa:=ha.fi dc;refine f_in Tryz.func145 rfl ?_;refine go ?_;refine bx (λ_ ao9 kx=>?_);have aol:=ao9.2;refine bx (λao7 ao8 r8=>?_);have⟨kx,aol⟩:=be1 ao8.2 kx aol;refine al inf1056 (λ_ aoy sc=>?_);have⟨kx,r8,aol⟩:=be2 aoy.2 kx r8 aol;refine go ?_;refine cl en1067 (fromN_ok hn (ht.ext aol)) ?_;rintro _ _ aon rfl;have⟨kx,r8,sc,aol⟩:=be3 aon.2 kx r8 sc aol;refine go ?_;refine cl en1067 (fromN_ok hd (ht.ext aol)) ?_;rintro _ _ aoo rfl;have⟨kx,r8,sc,aol⟩:=be3 aoo.2 kx r8 sc aol;refine go ?_;refine c_an 11 ?_;refine sf ?_;refine sf_ae (V:=S (nS (a.1*n))) (λ_ _ aop _=>?_) ?_;refine clb en1043 (hc:=nMul_ok rfl rfl fa.1 (fi_pow hn dc) (fi_mul ha.1 hn dc) (ht.ext (xt aol aop))) (hk:=?_);rintro _ _ aoq rfl;have apa:=aoq.2;refine go ?_;exact fs ⟨apa,rfl⟩;refine sf ?_;refine sf_ae (V:=S (nS ((a.1*n)/d))) (λ_ _ aor _=>?_) ?_;refine clb en1044 (hc:=nDown_ok rfl rfl (fi_mul ha.1 hn dc) (fi_pow hd dc) h0 (ht.ext (xt aol aor))) (hk:=?_);rintro _ _ aos rfl;have apb:=aos.2;refine go ?_;exact fs ⟨apb,rfl⟩;refine sf ?_;refine sf_ae (V:=S (nS (a.2*n))) (λ_ _ aot _=>?_) ?_;refine clb en1043 (hc:=nMul_ok rfl rfl fa.2 (fi_pow hn dc) (fi_mul ha.2 hn dc) (ht.ext (xt aol aot))) (hk:=?_);rintro _ _ aou rfl;have apc:=aou.2;refine go ?_;exact fs ⟨apc,rfl⟩;refine sf ?_;intro _ _ aov _;have⟨kx,r8,sc,aol⟩:=be3 aov.2 kx r8 sc aol
 refine clb en1069 (hc:=nUp_ok rfl rfl (fi_mul ha.2 hn dc) (fi_pow hd dc) h0 (ht.ext aol)) (hk:=?_);rintro _ _ aow rfl;have⟨kx,r8,sc,aol⟩:=be3 aow.2 kx r8 sc aol;refine go ?_;refine SA sc (λ_ aox apd=>?_);have⟨kx,r8,aol,_⟩:=pl2 aox kx r8 aol;refine go ?_;refine f_out (v:=.agg #[S (nS ((a.1*n)/d)),S (nS (upn (a.2*n) d))]) (res1  rfl ?_) aol rfl;refine res_cellA (t:=8) (cs:=[S (nS ((a.1*n)/d)),S (nS (upn (a.2*n) d))]) (b:=ao7.heap.size) (o:=0) U1056 rfl sz1056 ?_ ?_;exact rfl;exact Blk.cells apd (i:=0) rfl
end Go.Proofs.YtinldhphnpflaaaGreatDoor
namespace Go.Proofs.YtinldhphnpflaaaGreatDoor
open Go Go.Eng Go.RowKit
structure Stab (n:Nat)(I:World->Prop):Prop where
  ext:∀{A B:World},Ext A B->I A->I B
  put:∀{A B:World} {b:Nat},Put A B b->n<=b->I A->I B
structure KpC (bs:List Nat)(W W':World):Prop where
  size:W.heap.size<=W'.heap.size
  blk:∀{b:Nat} {t:TypeId} {cs:Array Value},b∉bs->Blk W b t cs->Blk W' b t cs
theorem KpC.trans {bs:List Nat}{A B C:World}(h:KpC bs A B)(k:KpC bs B C):KpC bs A C:=⟨Nat.le_trans h.size k.size,λhn hb=>k.blk hn (h.blk hn hb)⟩
theorem KpC.of {bs:List Nat}{A B:World}(h:Keeps bs A B):KpC bs A B:=⟨h.size,λhn hb=>h.blk hn hb⟩
theorem KpC.putObj {bs:List Nat}{A:World}{b:Nat}{r r':Loop}(h:A.heap[b]?=some (.loop r)):KpC bs A (A.putObj b (.loop r')):=
  ⟨by simp,fun{c t cs} _ hb=>(World.putObj_heap_other (λe=>by subst e;unfold Blk at hb;rw[h]at hb;cases hb)).trans hb⟩
theorem put_putObj (W:World)(b:Nat)(o:Obj):Put W (W.putObj b o) b:=⟨rfl,rfl,rfl,by simp,λk hk=>World.putObj_heap_other hk⟩
def IterM (P:Program)(gf:Nat)(lb:List Value)(enc:Nat->List Value)(bs:List Nat)(Kq:World->Prop)(M:Nat)(w:World):Prop:=
  ∀ (l:Nat) (J Jx:Nat->World->Prop) (W:World),Below w.heap.size w W->(∀k,Stab W.heap.size (J k))->(∀k,Stab W.heap.size (Jx k))->(∀k W1,J k W1->k<M)->
    (∀k W1,J k W1->YieldAt Fence.wide 7 P l (enc k).toArray W1 λe W'=>(e=.returned (.bool true)∧J (k+1) W'∧KpC bs W1 W'∧(Kq W1->Kq W'))∨(e=.returned (.bool false)∧Jx (k+1) W'))->
    J 0 W->CallsIn Fence.wide 8 P gf (#[.func (.yield l) #[] #[]]++lb.toArray) W λe W'=>(∃v,e=.returned v)∧∃k,Jx k W'
def rndM (bs:List Nat)(Kq:World->Prop)(I:Nat->World->Prop)(Ix:Code->Nat->World->Prop)(k:Nat)(W:World):Exit->Act->World->Prop
  | .normal,_,W'=>KeepsOthers W W'∧KpC bs W W'∧(Kq W->Kq W')∧I k W'
  | .ret,_,W'=>KeepsOthers W W'∧Ix .ret k W'
  | .exit id,_,W'=>KeepsOthers W W'∧Ix (.exit id) k W'
  |_,_,_=>False
def BkM (W:World)(b:Nat)(r:Loop):Prop:=W.heap[b+1]?=some (.loop r)∧W.heap[b]?=some (.deferred (some []))
theorem BkM.put {W:World}{b:Nat}{r:Loop}(h:BkM W b r)(r':Loop):BkM (W.putObj (b+1) (.loop r')) b r':=
  ⟨World.putObj_heap_same (Array.getElem?_eq_some_iff.1 h.1).1,(World.putObj_heap_other (by omega)).trans h.2⟩
theorem BkM.kept {W W':World}{b:Nat}{r:Loop}(h:BkM W b r)(k:KeepsOthers W W'):BkM W' b r:=⟨k.same _ _ h.1 rfl,k.same _ _ h.2 rfl⟩
theorem BkM.stab {b n:Nat}{r:Loop}(h:b+1<n):Stab n λW=>BkM W b r:=
  ⟨λk h=>⟨k.heap h.1,k.heap h.2⟩,λk hb h=>⟨(k.block _ (by omega)).trans h.1,(k.block _ (by omega)).trans h.2⟩⟩
theorem Stab.and {n:Nat}{I J:World->Prop}(h:Stab n I)(k:Stab n J):Stab n λW=>I W∧J W:=⟨λe x=>⟨h.ext e x.1,k.ext e x.2⟩,λe l x=>⟨h.put e l x.1,k.put e l x.2⟩⟩
theorem Stab.ex {α:Type}{n:Nat}{I:α->World->Prop}(h:∀a,Stab n (I a)):Stab n λW=>∃a,I a W:=⟨λe ⟨a,x⟩=>⟨a,(h a).ext e x⟩,λe l ⟨a,x⟩=>⟨a,(h a).put e l x⟩⟩
theorem Stab.mono {n m:Nat}{I:World->Prop}(h:Stab n I)(hl:n<=m):Stab m I:=⟨h.ext,λk hb=>h.put k (Nat.le_trans hl hb)⟩
theorem c_rangeM {P:Program}{w:World}{N:Nat}{e:Nat->Value}{ds:List Deferred}{Q:Exit->Act->World->Prop}{M:Nat}{enc:Nat->List Value}{bs:List Nat}{Kq:World->Prop}{gf:Nat}{lb:List Value}{g:Operand}{ps:List Nat}{assign body:Code}(hg:ev N e g=.func (.func gf) #[] lb.toArray)(eg:Enters P gf)(hit:IterM P gf lb enc bs Kq M w)(hKq:Stab w.heap.size Kq)(hps:∀i,(enc i).length=ps.length)(I:Nat->World->Prop)(Ix:Code->Nat->World->Prop)(hI:∀k,Stab w.heap.size (I k))(hIx:∀c k,Stab w.heap.size (Ix c k))(hM:∀k W,I k W->k<M)(h0:I 0 w)(A:(Nat->Value)->Nat->(Nat->Value)->World->Prop)(hA:∀k e' W b r r',w.heap.size<=b->W.heap[b]?=some (.loop r)->A e k e' W->A e k e' (W.putObj b (.loop r')))(hassign:∀l k W K,I k W->(∀e' W',Ext W W'->A e k e' W'->K (act N e' []) W')->assign.wpIn (Fw (some l)) 7 P (Exit.then K (λ_ _ _=>False)) (act N (updL e ps (enc k)) []) W)(hbody:∀l k e' W,A e k e' W->body.wpIn (Fw (some l)) 7 P (rndM bs Kq I Ix (k+1) W) (act N e' []) W)(hstop:∀D c k W,w.heap.size<=D->Ix c k W->Dfr W D->c.wpIn (Fw none) 9 P Q (act N e (⟨.collected D,#[]⟩::ds)) W):
    (Code.rangeFunc g ps.toArray assign body).wpIn (Fw none) 9 P Q (act N e ds) w:=by
  refine wpIn_rangeFunc (F:=Fence.wide) (n:=9) λfn hfn=>?_
  obtain⟨R,hR⟩:∃R:LoopState->Option Code->Loop,R=λst pe=>{state:=st,pending:=pe,fn,tmps:=(act N e ds).tmps,params:=ps.toArray,assign,body,defers:=w.heap.size}:=⟨_,rfl⟩
  obtain⟨V,hV⟩:∃V,(w.alloc (.deferred (some []))).alloc (.loop (R .ready none))=V:=⟨_,rfl⟩
  have hB:BkM V w.heap.size (R .ready none):=by
    refine⟨?_,?_⟩ <;>rw[<-hV]
    · have h:=World.alloc_heap_new (w.alloc (.deferred (some []))) (.loop (R .ready none));rwa [World.size_alloc]at h
    · exact(Below.heap_alloc _ _ _ (by simp)).trans (World.alloc_heap_new w _)
  have hsz:w.heap.size+1<V.heap.size:=by rw[<-hV];simp
  have hbl:Below w.heap.size w V:=by rw[<-hV];exact((Below.refl _ w).alloc (Nat.le_refl _) _).alloc (by simp) _
  have hI0:I 0 V:=(hI 0).ext hbl h0
  refine⟨w.heap.size+1,[⟨.collected w.heap.size,#[]⟩],V,⟨.fn (.func gf) lb.toArray,#[.func (.yield (w.heap.size+1)) #[] #[]]⟩,V,gf,#[.func (.yield (w.heap.size+1)) #[] #[]]++lb.toArray,V,?_,?_,?_,?_,λ_=>by omega,?_⟩
  · rw[<-hV,hR];exact run_enterLoop_outer _ _ _ _ _
  · have hg':(act N e ds).eval g=.func (.func gf) #[] lb.toArray:=by rw[act_eval];exact hg
    simp only[resolve,hg'];simp[go_sem]
  · intro f' _;trivial
  · simp[invoke,go_sem];exact eg _ _
  refine(hit (w.heap.size+1) (λk W=>I k W∧BkM W w.heap.size (R .ready none)) (λk W=>∃c,Ix c k W∧BkM W w.heap.size (R .done (some c))) V hbl
    (λk=>((hI k).mono (by omega)).and (BkM.stab hsz)) (λk=>Stab.ex λc=>((hIx c k).mono (by omega)).and (BkM.stab hsz)) (λk W h=>hM k W h.1) ?_ ⟨hI0,hB⟩).mono ?_
  ·
    rintro k W ⟨hi,hk⟩
    have hy:=run_yield (P:=P) (args:=(enc k).toArray) hk.1 (by rw[hR];simpa using hps k)
    rw[hR]at hy
    refine⟨fn,_,assign,body,hy,roundIn_of_wpIn hfn ?_⟩
    have hfold:(⟨(ps.toArray.zip (enc k).toArray).foldl (λt (p,v)=>t.setIfInBounds p v) (act N e ds).tmps,[]⟩:Act)=act N (updL e ps (enc k)) []:=by
      have h:=act_fold N ps (enc k) e
      have h2:act N (updL e ps (enc k)) []=⟨(act N (updL e ps (enc k)) []).tmps,[]⟩:=rfl
      rw[h2,<-h]
      simp only[List.zip_toArray,List.foldl_toArray]
      rfl
    rw[hfold]
    refine hassign (w.heap.size+1) k W _ hi λe' W' hx ha=>?_
    have hk:BkM W' w.heap.size (R .ready none):=⟨hx.heap hk.1,hx.heap hk.2⟩
    refine⟨_,run_beginRound hk.1 (by rw[hR]),?_⟩
    have hk2:=hk.put {R .ready none with state:=.busy}
    refine wpIn_mono (hbody (w.heap.size+1) k e' _ (hA k e' _ _ _ _ (by omega) hk.1 ha)) ?_
    have hkx:KpC bs W W':=⟨hx.size,λ_ h=>h.ext hx⟩
    have fin:∀(j:Option Code) (W3:World),KeepsOthers (W'.putObj (w.heap.size+1) (.loop {R .ready none with state:=.busy})) W3->
        BkM W3 w.heap.size {R .ready none with state:=.busy}∧(Instr.endRound (w.heap.size+1) j).run P W3=.ok (.bool j.isNone) (W3.putObj (w.heap.size+1) (.loop (R (if j.isNone then .ready else .done) j))):=λj W3 h3=>by
      have h4:=hk2.kept h3
      refine⟨h4,?_⟩
      have h5:=run_endRound (P:=P) j h4.1
      rw[hR]at h5 ⊢
      exact h5
    rintro x a3 W3 hp
    cases x with
    | normal=>
      obtain⟨h1,h1',h2,h3⟩:=hp
      obtain⟨h4,h5⟩:=fin none W3 h1
      exact⟨_,_,h5,.inl ⟨rfl,⟨(hI _).put (put_putObj _ _ _) (by omega) h3,h4.put _⟩,hkx.trans (((KpC.putObj hk.1).trans h1').trans (KpC.putObj h4.1)),λh=>hKq.put (put_putObj _ _ _) (by omega) (h2 (hKq.put (put_putObj _ _ _) (by omega) (hKq.ext hx h)))⟩⟩
    | ret=>
      obtain⟨h1,h3⟩:=hp
      obtain⟨h4,h5⟩:=fin (some .ret) W3 h1
      exact⟨_,_,h5,.inr ⟨rfl,.ret,(hIx _ _).put (put_putObj _ _ _) (by omega) h3,h4.put _⟩⟩
    | exit id=>
      obtain⟨h1,h3⟩:=hp
      obtain⟨h4,h5⟩:=fin (some (.exit id)) W3 h1
      exact⟨_,_,h5,.inr ⟨rfl,.exit id,(hIx _ _).put (put_putObj _ _ _) (by omega) h3,h4.put _⟩⟩
    |goto t=>exact hp.elim
    |panic c=>exact hp.elim
    |outgrown=>exact hp.elim
  · rintro x W2 ⟨⟨v,rfl⟩,k,c,hi,hk⟩
    have h:=run_endLoop (P:=P) hk.1 (by rw[hR];simp)
    rw[hR]at h
    refine⟨some c,_,h,hstop _ c k _ (Nat.le_refl _) ((hIx c k).put (put_putObj _ _ _) (by omega) hi) (hk.put _).2⟩
end Go.Proofs.YtinldhphnpflaaaGreatDoor
namespace Go.Proofs.YtinldhphnpflaaaGreatDoor
set_option maxRecDepth 100000
open Go Go.Eng Go.RowKit
attribute [local irreducible] wpListIn Code.wpIn Oper.wpIn Exit.then Exit.inBlock Exit.noGoto
set_option maxHeartbeats 40000000
def vN (p:N2):Value:=.agg #[S (nS p.1),S (nS p.2)]
def fv (g:Nat)(lb:Array Value):Value:=.func (.func g) #[] lb
def SeqV (t0:N2)(f:Value)(W:World)(v:Value):Prop:=∃b1 b2,v=.func (.func 181) #[] #[pT b1,pT b2]∧Blk W b1 101 #[S (nS t0.1),S (nS t0.2)]∧Blk W b2 175 #[f]
theorem SeqV.ext {t0:N2}{f v:Value}{A B:World}(k:Ext A B)(h:SeqV t0 f A v):SeqV t0 f B v:=by
  obtain⟨b1,b2,e,h1,h2⟩:=h
  exact⟨b1,b2,e,h1.ext k,h2.ext k⟩
def lastB (q:Bool)(t l:N2):Bool:=q&&(decide (t.2<=2)&&decide (t.2*2<=l.2+2))
section
variable {q:Bool}{t l:N2}
theorem lb_0 (h:q=false):Value.bool q=.bool (lastB q t l):=by subst h;rfl
theorem lb_1 (h:q=true)(h1:¬cmpI ((t.2:Nat):Int) ((2:Nat):Int)<=0):Value.bool false=.bool (lastB q t l):=by
  rw[cmpI_nonpos]at h1;subst h;unfold lastB;rw[decide_eq_false om];rfl
theorem lb_2 (h:q=true)(h1:cmpI ((t.2:Nat):Int) ((2:Nat):Int)<=0):Value.bool (decide (cmpI (((t.2*2:Nat)):Int) (((l.2+2:Nat)):Int)<=0))=.bool (lastB q t l):=by
  rw[cmpI_nonpos]at h1;subst h;unfold lastB;rw[decide_eq_true (show t.2<=2 by omega),Bool.true_and,Bool.true_and]
  congr 1;rw[decide_eq_decide,cmpI_nonpos];omega
end
def lstP (T:Nat->N2):Nat->N2
  |0=>(0,0)
  |k+1=>T k
theorem SumR.last {T:Nat->N2}{m k:Nat}(h:SumR T m)(hk:k<=m):lastB (decide (k≠0)) (T k) (lstP T k)=decide (k=m):=by
  unfold lastB
  by_cases e:k=m
  · subst e
    have hp:=h.pos
    obtain⟨p,rfl⟩:∃p,k=p+1:=⟨k-1,by omega⟩
    have:=h.stop
    rw[decide_eq_true om,decide_eq_true this.1,decide_eq_true (show(T (p+1)).2*2<=(lstP T (p+1)).2+2 from this.2),decide_eq_true rfl];rfl
  · rw [decide_eq_false e]
    rcases h.go k om with h0|h0
    · rw[decide_eq_false om];rfl
    · cases k with
      |zero=>rfl
      | succ p=>
        have h1:¬((T (p+1)).2<=2∧(T (p+1)).2*2<=(lstP T (p+1)).2+2):=h0
        by_cases h2:(T (p+1)).2<=2
        · rw[decide_eq_false (λe=>h1 ⟨h2,e⟩)];simp
        · rw[decide_eq_false h2];simp
theorem cmpN {a b:Nat}{w:World}{l m:List UInt8}(hl:l=nS a)(hm:m=nS b)(ha:Fi a)(hb:Fi b):CL 34 #[S l,S m] w (Ret w λv _=>v=.int .i64 (cmpI (a:Int) (b:Int))):=by
  subst hl hm
  exact cEq (iCmp_ok _ _ _) (congrArg (Value.int .i64) (cmpS_Z ha.z hb.z))
theorem spWhole0_ok {sO pl:Nat}{w:World}(hS:Sc sO)(ht:Tb w):CL 179 #[.agg #[.int .i64 pl,S (nS sO)],.int .i64 0] w (Ret w λv _=>v=.agg #[S (nS 0),S (nS 0)]):=by
  have h:=spWhole_ok (n:=0) (pl:=pl) hS dc (by rw[Nat.zero_mul];unfold Fi;decide) ht
  simp only[Nat.zero_mul]at h
  exact h
theorem terms_ok {t0:N2}{g:Nat}{lb:Array Value}{w:World}:
    CL 143 #[.agg #[S (nS t0.1),S (nS t0.2)],.func (.func g) #[] lb] w (Ret w λv w'=>SeqV t0 (fv g lb) w' v):=by
 refine f_in Tryz.func143 rfl ?_;refine go ?_;refine bx (λkx aom r8=>?_);have sc:=aom.2;refine bx (v:=.func (.func g) #[] lb) (hx:=rfl) (λ_ aol aon=>?_);have r8:=be aol.2 r8;have sc:=xt sc aol.2;refine l_op (k_assign (v:=.nilFunc) rfl ?_);refine go ?_;refine l_op (k_makeFunc (vf:=[]) (vc:=[pT w.heap.size,pT kx.heap.size]) rfl rfl ?_);refine go ?_;exact f_ret1 (t:=4) (v:=.func (.func 181) #[] #[pT w.heap.size,pT kx.heap.size]) rfl sc ⟨_,_,rfl,r8,aon⟩ rfl
theorem last_ok {b1 b2:Nat}{q:Bool}{t l:N2}{w:World}(h1:Blk w b1 4 #[.bool q])(h2:Blk w b2 101 #[S (nS l.1),S (nS l.2)])(ht2:Bk 99 t)(hl:Bk 99 l)(ht:Tb w):
    CL 180 #[.agg #[S (nS t.1),S (nS t.2)],pT b1,pT b2] w (Ret w λv w'=>v=.bool (lastB q t l)):=by
 have ft:=(ht2.fi dc).2;have f2:Fi (t.2*2):=by have:=ht2.2;unfold Fi;omega
 have fl:Fi (l.2+2):=by have:=hl.2;unfold Fi;omega
 refine f_in Tryz.func180 rfl ?_;refine go ?_;refine bx (λ_ aov _=>?_);have h1:=be aov.2 h1;have h2:=be aov.2 h2;have aol:=aov.2;refine go ?_;rcases Bool.eq_false_or_eq_true q with r8|r8;by_cases sc:(cmpI (((t.2:Nat)):Int) (((2:Nat)):Int))<=0;refine c_an 13 ?_;refine sf ?_;refine sf_ae (V:=.int .i64 (cmpI (((t.2:Nat)):Int) (((2:Nat)):Int))) (λ_ _ _ _=>?_) ?_;refine go ?_;refine clb en84 (hc:=cmpN rfl lit2 ft (fi_pow (k:=1) dc dc)) (hk:=?_);rintro _ _ aom rfl;have apz:=aom.2;refine go ?_;exact fs ⟨apz,rfl⟩;refine sf ?_;refine sf_ae (V:=S (nS (t.2*2))) (λ_ _ aon _=>?_) ?_;refine go ?_;refine clb en1043 (hc:=nMul_ok rfl lit2 ft (fi_pow (k:=1) dc dc) f2 (ht.ext (xt aol aon))) (hk:=?_);rintro _ _ aoo rfl;have ap0:=aoo.2;refine go ?_;exact fs ⟨ap0,rfl⟩;refine sf ?_;intro _ _ aop _;have aol:=xt aol aop.2;with_reducible refine l_drop rfl ?_
 refine go ?_;refine cl en1045 (nAdd_ok rfl lit2 fl (ht.ext aol)) ?_;rintro _ _ aoq rfl;have aol:=xt aol aoq.2;refine go ?_;refine cl en84 (cmpN rfl rfl f2 fl) ?_;rintro _ _ aor rfl;have aol:=xt aol aor.2;refine go ?_;exact f_ret1 (t:=4) (v:=.bool (decide ((cmpI (((t.2*2:Nat)):Int) (((l.2+2:Nat)):Int))<=0))) rfl aol (lb_2 r8 sc) rfl;refine c_an 13 ?_;refine sf ?_;refine sf_ae (V:=.int .i64 (cmpI (((t.2:Nat)):Int) (((2:Nat)):Int))) (λ_ _ _ _=>?_) ?_;refine go ?_;refine clb en84 (hc:=cmpN rfl lit2 ft (fi_pow (k:=1) dc dc)) (hk:=?_);rintro _ _ aos rfl;have ap1:=aos.2;refine go ?_;exact fs ⟨ap1,rfl⟩;refine sf ?_;intro _ _ aot _;have aol:=xt aol aot.2;with_reducible refine l_drop rfl ?_
 refine go ?_;exact f_ret1 (t:=4) (v:=.bool false) rfl aol (lb_1 r8 sc) rfl;refine c_an 13 ?_;refine sf ?_;intro _ _ aou _;have aol:=xt aol aou.2;with_reducible refine l_drop rfl ?_
 refine go ?_;exact f_ret1 (t:=4) (v:=.bool false) rfl aol ((congrArg Value.bool r8).symm.trans (lb_0 r8)) rfl
theorem cArr {P:Program}{f:FuncId}{vs:List Value}{lb:Array Value}{w:World}{R:Ending->World->Prop}(h:Calls P f (vs.toArray++lb) w R):Calls P f (vs++lb.toList).toArray w R:=by rw[show(vs++lb.toList).toArray=vs.toArray++lb from Array.toList_inj.1 (by simp)];exact h
theorem terms_iter {T:Nat->N2}{m gn b1 b2:Nat}{lbn:Array Value}{bs:List Nat}{w0 w:World}(E:Ext w0 w)(h1:Blk w0 b1 101 #[S (nS (T 0).1),S (nS (T 0).2)])(h2:Blk w0 b2 175 #[fv gn lbn])(hbs:∀b∈bs,w0.heap.size<=b∧b<w.heap.size)(hen:Enters Tryz.prog gn)(hm:m<100000)(hn:∀k<m,∀W,Ext w0 W->CL gn (#[vN (T k),.int .i64 ((k+1:Nat):Int)]++lbn) W (Ret W λv _=>v=vN (T (k+1)))):
    IterM Tryz.prog 181 [pT b1,pT b2] (λk=>[vN (T k)]) bs (λW=>Ext w0 W) (m+1) w:=by
 intro l J Jx W hW hJ0 hJx0 hM hY h0;have E:=xt E hW;have zE:=bz E;have hbw:=bt h1;have hbw2:=bt h2;have h1:=be E h1;have h2:Blk W b2 175 #[.func (.func gn) #[] lbn]:=be E h2;have hw0:=bz hW;obtain⟨hW0,_⟩:∃n,n=W.heap.size:=⟨_,rfl⟩;refine iter_args ?_;have zW:=bz hW;refine f_inI Tryz.func181 rfl ?_;refine go ?_;have ao8:=bt h1;have ao9:=bt h2;refine c_an 3 ?_;refine sf_ap (λ_ _ aot _=>by have h1:=be aot h1;have h0:=(hJ0 _).ext aot h0;refine go ?_;exact finp) ?_;refine sf_ah (λv wz=>∃b:Nat,v=pT b∧W.heap.size<=b∧Blk wz b 101 #[S ([]),S ([])]) (hs:=λ_ _ _ k ⟨b,e,l,h⟩=>⟨b,e,l,h.ext k⟩) (λ_ _ aop _=>?_) ?_;have h0:=(hJ0 _).ext aop h0;refine al inf1056 (λ_ aoq ao1=>?_);have h0:=(hJ0 _).ext aoq.2 h0;have ao2:=aoq.2;refine go ?_;exact fs ⟨ao2,⟨_,rfl,(by have:=bz aop;omega),ao1⟩⟩;refine sf_ap (λ_ _ aou _=>by have h0:=(hJ0 _).ext aou h0;refine go ?_;exact finp) ?_;refine sf ?_;intro _ _ aor ao3;have h1:=be aor.2 h1;have h2:=be aor.2 h2;have h0:=(hJ0 _).ext aor.2 h0;have E:=xt E aor.2;obtain⟨aov,aow,_,aox⟩:=(ao3 1 5 rfl rfl);have apn:=bt aox;refine SA aox (λ_ sc ao4=>?_);have h1:=pb sc h1;have h2:=pb sc h2;have h0:=(hJ0 _).put sc om h0;have E:=plw sc E;have apq:=psz sc
 refine go ?_;refine c_lp [(4,5),(7,16)] (λkk e W=>∃k:Nat,∃bq:Nat,(m+1-k=kk)∧(e 4=.int .i64 (((k+1:Nat):Int)))∧(e 5=pT bq)∧(hW0<=bq)∧(Ext w0 W)∧(Blk W b1 101 #[S (nS ((T 0).1)),S (nS ((T 0).2))])∧(Blk W b2 175 #[.func (.func gn) #[] lbn])∧(Blk W bq 101 #[S (nS ((T k).1)),S (nS ((T k).2))])∧(J k W)) (m+1-0) ⟨0,aov,rfl,rfl,aow,om,E,h1,h2,ao4,h0⟩ ?_;rintro _ _ ao5 ⟨k,bq,rfl,aoy,aos,q2,kx,h1,h2,hbt,q1⟩;have apt:=bz kx;have hkM:=hM _ _ q1;have zbt:=bt hbt;refine go ?_;refine l_op (k_yield (l:=l) (vs:=[vN (T k)]) rfl (cons_eq rfl rfl) (hY k ao5 q1) ?_);rintro _ _ hcc;obtain⟨q,rfl,hj1,hj2⟩:=yield_cases hcc;show wpListIn _ _ _ _ _ _ _ _;refine go ?_;refine c_split (q:=q) rfl (λaoz=>?_) (λaoz=>?_);obtain⟨hJ,hC,hK⟩:=hj1 aoz;have h1:=hC.blk (λh=>by have:=hbs _ h;omega) h1;have h2:=hC.blk (λh=>by have:=hbs _ h;omega) h2;have hbt:=hC.blk (λh=>by have:=hbs _ h;omega) hbt;have kx:=hK kx;have zC:=hC.size;have hkm:=hM _ _ hJ;have apv:=bz kx;refine go ?_;refine l_op (clV (vs:=[.agg #[S (nS ((T k).1)),S (nS ((T k).2))],.int .i64 (((k+1:Nat)):Int)]) (lb:=lbn.toList) hen rfl rfl (cArr (hn k om _ kx)) ?_);rintro _ _ aol rfl;have h1:=be aol.2 h1;have h2:=be aol.2 h2;have hbt:=be aol.2 hbt;have hJ:=(hJ0 _).ext aol.2 hJ;have kx:=xt kx aol.2
 refine SA hbt (λao0 aom aon=>?_);have h1:=pb aom h1;have h2:=pb aom h2;have hJ:=(hJ0 _).put aom om hJ;have kx:=plw aom kx;have apy:=psz aom;refine go ?_;refine al inf1056 (λ_ aoo ao6=>?_);have h1:=be aoo.2 h1;have h2:=be aoo.2 h2;have aon:=be aoo.2 aon;have hJ:=(hJ0 _).ext aoo.2 hJ;have kx:=xt kx aoo.2;refine SA ao6 (λ_ r8 ao7=>?_);have h1:=pb r8 h1;have h2:=pb r8 h2;have aon:=pb r8 aon;have hJ:=(hJ0 _).put r8 om hJ;have kx:=plw r8 kx;have ap1:=psz r8;refine go ?_;refine adi ?_;refine go ?_;exact lend ⟨k+1,ao0.heap.size,rfl,rfl,rfl,om,kx,h1,h2,ao7,hJ⟩;refine go ?_;exact f_end0I rfl λv=>⟨⟨v,rfl⟩,_,hj2 (by assumption)⟩
end Go.Proofs.YtinldhphnpflaaaGreatDoor
