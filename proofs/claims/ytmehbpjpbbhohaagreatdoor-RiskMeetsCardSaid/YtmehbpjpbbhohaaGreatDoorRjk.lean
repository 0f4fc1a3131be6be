/- Part of the proof of a statement about risks. -/
import Derived.Test.YtmehbpjpbbhohaaGreatDoorRi4ToDcB
import Derived.Test.YtmehbpjpbbhohaaGreatDoorEngPToEngH
set_option linter.all false
namespace Go.Proofs.YtmehbpjpbbhohaaGreatDoor
set_option maxRecDepth 100000
open Go Go.Eng Go.RowKit
attribute [local irreducible] wpListIn Code.wpIn Oper.wpIn Exit.then Exit.inBlock Exit.noGoto
set_option maxHeartbeats 40000000
theorem okR_nil:okR ([],[])=false:=by decide +kernel
theorem shortZ_ok {w:World}(ht:Tb w):
    CL 52 #[.agg #[S ([]),S ([])]] w (Ret w λv w'=>v=.bool false):=by
 refine f_in Tryz.func52 rfl ?_;refine go ?_;refine bx (λ_ aom _=>?_);have r8:=aom.2;refine go ?_;refine cl en82 (cB (rValid_ok _ _ _ (ht.ext r8)) okR_nil) ?_;rintro _ _ aol rfl;have r8:=xt r8 aol.2;refine go ?_;exact f_ret1 (t:=2) (v:=.bool false) rfl r8 rfl rfl
theorem notShortZ_ok {w:World}(ht:Tb w):
    CL 86 #[.agg #[S ([]),S ([])]] w (Ret w λv w'=>v=.bool true):=by
 refine f_in Tryz.func86 rfl ?_;refine go ?_;refine bx (λ_ aom _=>?_);have r8:=aom.2;refine go ?_;refine cl en2148 (shortZ_ok (ht.ext r8)) ?_;rintro _ _ aol rfl;have r8:=xt r8 aol.2;refine go ?_;exact f_ret1 (t:=2) (v:=.bool true) rfl r8 rfl rfl
theorem indexZ_ok {A:Option Addr}{n cp lo g:Nat}{l:List R}{w:World}(hr:Rw w lo A (cellsR l))(hn:l.length=n)(hb:n<=1000)(h0:0<n)(hg:Enters Tryz.prog g)(hf:∀i<n,∀W,Ext w W->CL g #[.agg #[S (rAt l i).1,S (rAt l i).2]] W (Ret W λv _=>v=.bool true)):
    CL 135 #[.slice A n cp,.func (.func g) #[] #[]] w (Ret w λv w'=>v=.int .i64 0):=by
 refine f_in Tryz.func135 rfl ?_;refine go ?_;have aol:=Ext.refl w;refine c_lp [(4,5),(8,18)] (λkk e W=>∃i:Nat,(n-i=kk)∧(e 8=.int .i64 i)∧(i<=n∧i=0)∧(Ext w W)) (n-0) ⟨0,rfl,rfl,⟨Nat.zero_le _,rfl⟩,aol⟩ ?_;rintro _ _ _ ⟨i,rfl,sc,hi,r8⟩;have aoq:=bz r8;obtain⟨bk,o,hA,hcs⟩:=rw_pair (hr.ext r8) (i:=i) om;refine go ?_;refine l_op (k_indexAddr (i:=i) (oo:=o+i*2) U23 sz36 rfl hA rfl om rfl ?_);refine l_op (k_loadA (cs:=[S (rAt l i).1,S (rAt l i).2]) (b:=bk) (o:=o+i*2) U36 rfl sz36 rfl hcs ?_);refine l_op (clV (vs:=[.agg #[S (rAt l i).1,S (rAt l i).2]]) (lb:=[]) hg rfl rfl (hf i om _ r8) ?_);rintro _ _ aom rfl;have r8:=xt r8 aom.2;refine go ?_;exact f_ret1 (t:=4) (v:=.int .i64 i) rfl r8 (by rw[hi.2];rfl) rfl
theorem containsZ_ok {A:Option Addr}{n cp lo g:Nat}{l:List R}{w:World}(hr:Rw w lo A (cellsR l))(hn:l.length=n)(hb:n<=1000)(h0:0<n)(hg:Enters Tryz.prog g)(hf:∀i<n,∀W,Ext w W->CL g #[.agg #[S (rAt l i).1,S (rAt l i).2]] W (Ret W λv _=>v=.bool true)):
    CL 85 #[.slice A n cp,.func (.func g) #[] #[]] w (Ret w λv w'=>v=.bool true):=by
 refine f_in Tryz.func85 rfl ?_;refine go ?_;refine cl en116 (indexZ_ok (hr.ext (Ext.refl _)) hn hb h0 hg (λi hi W e=>hf i hi W (xt (Ext.refl _) e))) ?_;rintro _ _ r8 rfl;have sc:=r8.2;refine go ?_;exact f_ret1 (t:=4) (v:=.bool true) rfl sc rfl rfl
theorem areShortZ_ok {A:Option Addr}{n cp lo:Nat}{l:List R}{w:World}(hr:Rw w lo A (cellsR l))(hn:l.length=n)(hb:n<=1000)(h0:0<n)(hz:∀i<n,rAt l i=([],[]))(ht:Tb w):
    CL 44 #[.slice A n cp] w (Ret w λv w'=>v=.bool false):=by
 refine f_in Tryz.func44 rfl ?_;refine go ?_;refine clb en90 (hc:=containsZ_ok (hr.ext (Ext.refl _)) hn hb h0 en2147 (λi hi W e=>by rw[hz i hi];exact notShortZ_ok ((ht.ext (Ext.refl _)).ext e))) (hk:=?_);rintro _ _ r8 rfl;have sc:=r8.2;refine go ?_;exact f_ret1 (t:=2) (v:=.bool false) rfl sc rfl rfl
theorem validZ15_ok {w:World}(ht:Tb w):
    CL 16 #[.agg #[S ([]),S ([]),S ([]),S ([]),S ([]),S ([]),S ([]),S ([]),S ([]),S ([]),S ([]),S ([]),S ([]),S ([])]] w (Ret w λv w'=>v=.bool false):=by
 refine f_in Tryz.func16 rfl ?_;refine go ?_;refine bx (λ_ aos r8=>?_);have sc:=aos.2;refine go ?_;refine al inf36 (λ_ aoq aot=>?_);have⟨r8,sc⟩:=be1 aoq.2 r8 sc;refine SA aot (λ_ aoo _=>?_);have⟨r8,sc,_⟩:=pl1 aoo r8 sc;refine go ?_;refine l_op (k_fieldAddr (b:=w.heap.size) (o:=0) (off:=0) (oo:=0) U2296 rfl rfl sz36 rfl rfl ?_);refine go ?_;refine l_op (k_fieldAddr (b:=w.heap.size) (o:=0) (off:=2) (oo:=2) U2296 rfl rfl sz36 rfl rfl ?_);refine go ?_;refine l_op (k_fieldAddr (b:=w.heap.size) (o:=0) (off:=4) (oo:=4) U2296 rfl rfl sz36 rfl rfl ?_);refine go ?_;refine l_op (k_fieldAddr (b:=w.heap.size) (o:=0) (off:=6) (oo:=6) U2296 rfl rfl sz36 rfl rfl ?_);refine go ?_;refine l_op (k_fieldAddr (b:=w.heap.size) (o:=0) (off:=8) (oo:=8) U2296 rfl rfl sz36 rfl rfl ?_);refine go ?_;refine l_op (k_fieldAddr (b:=w.heap.size) (o:=0) (off:=10) (oo:=10) U2296 rfl rfl sz36 rfl rfl ?_);refine go ?_;refine l_op (k_fieldAddr (b:=w.heap.size) (o:=0) (off:=12) (oo:=12) U2296 rfl rfl sz36 rfl rfl ?_);refine go ?_
 refine l_op (k_buildSlice (vs:=[(0,.agg #[S ([]),S ([])]),(1,.agg #[S ([]),S ([])]),(2,.agg #[S ([]),S ([])]),(3,.agg #[S ([]),S ([])]),(4,.agg #[S ([]),S ([])]),(5,.agg #[S ([]),S ([])]),(6,.agg #[S ([]),S ([])])]) (cells:=#[S ([]),S ([]),S ([]),S ([]),S ([]),S ([]),S ([]),S ([]),S ([]),S ([]),S ([]),S ([]),S ([]),S ([])]) U23 inf36 rfl dc dc (by kernel_rfl) rfl dc (λ_ aom _ aop=>?_));have sc:=xt sc aom;have aoz:=bz aom;refine clb en2100 (hc:=areShortZ_ok (n:=7) (l:=[([],[]),([],[]),([],[]),([],[]),([],[]),([],[]),([],[])]) (Rw.of_own aop) rfl dc dc (by decide +kernel) (ht.ext sc)) (hk:=?_);rintro _ _ aon rfl;have sc:=xt sc aon.2;refine go ?_;exact f_ret1 (t:=2) (v:=.bool false) rfl sc rfl rfl
end Go.Proofs.YtmehbpjpbbhohaaGreatDoor
