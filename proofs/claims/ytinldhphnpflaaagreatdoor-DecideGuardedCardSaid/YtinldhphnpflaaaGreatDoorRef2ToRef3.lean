/- Part of the proof of a statement about decisions. -/
import Derived.Test.YtinldhphnpflaaaGreatDoorDtKToRef1
import Derived.Laws.BytesString
import Derived.Test.YtinldhphnpflaaaGreatDoorEngPToEngH
import Derived.Test.YtinldhphnpflaaaGreatDoorInt1ToLib10
set_option linter.all false
namespace Go.Proofs.YtinldhphnpflaaaGreatDoor
set_option maxRecDepth 100000
open Go Go.Eng Go.RowKit
attribute [local irreducible] wpListIn Code.wpIn Oper.wpIn Exit.then Exit.inBlock Exit.noGoto
set_option maxHeartbeats 40000000
theorem isInt_len {l:List UInt8}(h:isInt l=true):0<l.length∧l.length<=201:=by
  have h1:=isNum_len (isInt_num h)
  cases hn:neg l with
  |true=>have:=neg_cons hn;rw[this];simp;omega
  |false=>rw[body_neg hn]at h1;omega
theorem digs_drop0 (d:List UInt8):digs (d.drop (d.length-0))=[]:=by simp[digs]
theorem digs_all {d:List UInt8}{k:Nat}(hd:isNum d=true)(h:k=d.length∧¬d=[48]∨k=0∧d=[48]):digs (d.drop (d.length-k))=toB 10 (valN d):=by
  rcases h with⟨rfl,h⟩|⟨rfl,rfl⟩
  · rw[Nat.sub_self,List.drop_zero];exact digs_toB hd h
  · rfl
theorem dig_bd {d:List UInt8}(h:d.all isDig=true){i:Nat}(hi:i<d.length):48<=(d.getD i 0).toNat∧(d.getD i 0).toNat<=57:=by
  have hc:=byteAt_ hi
  have:=List.all_eq_true.1 h _ (List.mem_iff_getElem?.2 ⟨i,hc⟩)
  simpa[isDig]using this
theorem dg_own {w:World}{base n a:Nat}{v:Value}{xs:List Nat}(h:w.ownsRow base 3 1 v n (ints xs))(hx:xs=toB 10 a):∃A c,v=.slice A n c∧Dg w base A n c a:=by
  subst hx
  obtain⟨A,c,rfl,hc,-⟩:=own_form h
  refine⟨A,c,rfl,Rw.of_own h,?_,hc⟩
  have:=h.1
  rw[ints_length]at this;omega
def bts (l:List UInt8):List Value:=l.map λb=>Value.int .u8 b.toNat
theorem showD_drop {X:List Nat}{n k:Nat}(hn:X.length=n)(hk:k<n):showD (X.drop (n-(k+1)))=showD (X.drop (n-k))++[UInt8.ofNat (48+X.getD (n-1-k) 0)]:=by
  have h1:X.drop (n-(k+1))=X.getD (n-(k+1)) 0::X.drop (n-(k+1)+1):=drop_at om
  rw[h1,show n-(k+1)+1=n-k by omega,show n-(k+1)=n-1-k by omega]
  simp[showD]
theorem ofNat_dig {d:Nat}(h:d<10):(((UInt8.ofNat (48+d)).toNat:Nat):Int)=48+(d:Int):=by
  have e:(UInt8.ofNat (48+d)).toNat=48+d:=by rw[UInt8.toNat_ofNat'];omega
  rw[e];omega
theorem getD_lt10 {xs:List Nat}(h:∀x∈xs,x<10)(i:Nat):xs.getD i 0<10:=by
  rcases Nat.lt_or_ge i xs.length with hi|hi
  · have h9:xs[i]? =some xs[i]:=List.getElem?_eq_getElem hi
    rw[List.getD,h9];exact h _ (List.getElem_mem hi)
  · rw[getD_ge hi];omega
def txtR (ng:Bool)(a:Nat):List UInt8:=if a=0 then[48]else if ng then 45::showN a else showN a
def fitR (a:Nat):Bool:=decide (a=0)||decide ((toB 10 a).length<=200)
theorem txt_zero {ng:Bool}{a:Nat}(h:a=0):Value.tuple #[S [48],.bool true]=.tuple #[S (txtR ng a),.bool (fitR a)]:=by subst h;rfl
theorem txt_pos {ng:Bool}{a n:Nat}(h:0<a)(hn:(toB 10 a).length=n){l:List UInt8}(hl:l=(if ng then[45]else[])++showD (toB 10 a)):Value.tuple #[S l,.bool (decide ((n:Int)<=200))]=.tuple #[S (txtR ng a),.bool (fitR a)]:=by
  have e1:txtR ng a=l:=by
    have h0:¬a=0:=by omega
    unfold txtR showN
    rw[if_neg h0,if_neg h0,hl]
    cases ng <;>rfl
  have e2:fitR a=decide ((n:Int)<=200):=by
    have h0:¬a=0:=by omega
    unfold fitR;rw[hn,decide_eq_false h0,Bool.false_or,decide_eq_decide];omega
  rw[e1,e2]
theorem ofB_cut (B:Nat)(xs:List Nat){j:Nat}(h:j<xs.length):ofB B xs=ofB B (xs.take j)+B^j*(xs.getD j 0+B*ofB B (xs.drop (j+1))):=by
  conv=>lhs;rw[<-List.take_append_drop j xs]
  rw[ofB_append,List.length_take,Nat.min_eq_left om,drop_at h]
  rfl
theorem drop_same {X Y:List Nat}{n j:Nat}(hn:X.length=n)(hm:Y.length=n)(h:∀i,j<=i->i<n->X.getD i 0=Y.getD i 0):X.drop j=Y.drop j:=by
  apply List.ext_getElem?
  intro i
  rw[List.getElem?_drop,List.getElem?_drop]
  by_cases hi:j+i<n
  · have:=h (j+i) om hi
    rw[List.getD,List.getD,List.getElem?_eq_getElem om,List.getElem?_eq_getElem om]at this
    rw[List.getElem?_eq_getElem om,List.getElem?_eq_getElem om]
    exact congrArg some this
  · rw[List.getElem?_eq_none om,List.getElem?_eq_none om]
theorem cut_lt {X Y:List Nat}{n j:Nat}(hX:∀d∈X,d<10)(hn:X.length=n)(hm:Y.length=n)(hj:j<n)(h:∀i,j+1<=i->i<n->X.getD i 0=Y.getD i 0)(hl:X.getD j 0<Y.getD j 0):ofB 10 X<ofB 10 Y:=by
  rw[ofB_cut 10 X (show j<X.length by omega),ofB_cut 10 Y (show j<Y.length by omega),drop_same (n:=n) (j:=j+1) hn hm h]
  have h1:ofB 10 (X.take j)<10^j:=by
    have:=ofB_lt 10 (X.take j) (λd hd=>hX d (List.mem_of_mem_take hd))
    rwa [List.length_take,Nat.min_eq_left om]at this
  have h2:10^j*(X.getD j 0+10*ofB 10 (Y.drop (j+1))+1)<=10^j*(Y.getD j 0+10*ofB 10 (Y.drop (j+1))):=Nat.mul_le_mul_left _ om
  rw[Nat.mul_add,Nat.mul_one]at h2
  omega
section
variable {a b n1 n2:Nat}
theorem len_lt10 (h1:(toB 10 a).length=n1)(h2:(toB 10 b).length=n2)(h:n1<n2):a<b:=by
  rcases Nat.lt_or_ge a b with h3|h3
  · exact h3
  · have:=len_mono (B:=10) om h3;omega
theorem ord_lt (h1:(toB 10 a).length=n1)(h2:(toB 10 b).length=n2)(h:n1<n2):(-1:Int)=cmpI (a:Int) (b:Int):=by
  rw[cmpI_lt];have:=len_lt10 h1 h2 h;omega
theorem ord_gt (h1:(toB 10 a).length=n1)(h2:(toB 10 b).length=n2)(h:n2<n1):(1:Int)=cmpI (a:Int) (b:Int):=by
  rw[cmpI_gt];have:=len_lt10 h2 h1 h;omega
theorem ord_lt2 {k:Nat}(h1:(toB 10 a).length=n1)(h2:(toB 10 b).length=n2)(hn:n1=n2)(hk:k<n1)(h:∀i,n1-k<=i->i<n1->(toB 10 a).getD i 0=(toB 10 b).getD i 0)(hl:(toB 10 a).getD (n1-1-k) 0<(toB 10 b).getD (n1-1-k) 0):(-1:Int)=cmpI (a:Int) (b:Int):=by
  subst hn
  have:=cut_lt (toB_lt 10 om a) h1 h2 (j:=n1-1-k) om (λi _=>h i om) hl
  rw[ofB_toB 10 om,ofB_toB 10 om]at this
  rw[cmpI_lt];omega
theorem ord_gt2 {k:Nat}(h1:(toB 10 a).length=n1)(h2:(toB 10 b).length=n2)(hn:n1=n2)(hk:k<n1)(h:∀i,n1-k<=i->i<n1->(toB 10 a).getD i 0=(toB 10 b).getD i 0)(hl:(toB 10 b).getD (n1-1-k) 0<(toB 10 a).getD (n1-1-k) 0):(1:Int)=cmpI (a:Int) (b:Int):=by
  subst hn
  have:=cut_lt (toB_lt 10 om b) h2 h1 (j:=n1-1-k) om (λi _ hj=>(h i om hj).symm) hl
  rw[ofB_toB 10 om,ofB_toB 10 om]at this
  rw[cmpI_gt];omega
theorem ord_eq (h1:(toB 10 a).length=n1)(h2:(toB 10 b).length=n2)(hn:n1=n2)(h:∀i,i<n1->(toB 10 a).getD i 0=(toB 10 b).getD i 0):(0:Int)=cmpI (a:Int) (b:Int):=by
  subst hn
  have e:=drop_same (j:=0) h1 h2 (λi _ hi=>h i hi)
  simp only[List.drop_zero]at e
  have:=congrArg (ofB 10) e
  rw[ofB_toB 10 om,ofB_toB 10 om]at this
  rw[cmpI_eq];omega
end
theorem r3digits_ok (l:List UInt8)(w:World)(h:isInt l=true):
    CL 82 #[S l] w (Ret w λv w'=>∃A n c,v=.tuple #[.bool (neg l),.slice A n c]∧Dg w' w.heap.size A n c (valN (body l))):=by
 have hl:=isInt_len h;have hnum:=isInt_num h;refine f_in Tryz.func82 rfl ?_;refine go ?_;have aow:=byteAt_ (l:=l) (i:=0) om;refine l_op (k_byte (l:=l) (i:=0) (c:=(l.getD 0 0)) U9 rfl rfl aow ?_);refine go ?_;by_cases aon:(((l.getD 0 0).toNat:Nat):Int)=45;have hb:=head_min (byteAt_ om) aon;have hbn:neg l=true:=hb.1;have hD:isNum ((l).drop 1)=true:=by rw[<-hb.2];exact hnum
 have hlD:=isNum_len hD;have hdD:=isNum_digs hD;have hvD:valN (body l)=valN ((l).drop 1):=by rw[hb.2]
 refine go ?_;refine l_op (k_sliceS (l:=l) (i:=1) (j:=(l).length) U9 rfl (.inr ⟨_,congrArg some rfl⟩) (.inl ⟨rfl,rfl⟩) om om ?_);rw[show((l).take ((l).length)).drop 1=(l).drop 1 by rw[List.take_length]];refine go ?_;refine l_op (k_lenL (l:=(l).drop 1) U9 rfl ?_);refine sui ?_;refine go ?_;have own0:World.ownsRow w w.heap.size 3 1 (.slice none 0 0) 0 (ints (digs (((l).drop 1).drop (((l).drop 1).length-0)))):=by rw[digs_drop0];exact own_nil
 have aox:=Ext.refl w;refine c_lp [(5,6),(16,31)] (λkk e W=>∃k:Nat,∃vv:Value,(((l).drop 1).length-k=kk)∧(e 6=.int .i64 (((((l).drop 1).length:Nat):Int)-1-(k:Int)))∧(e 5=vv)∧(k<=((l).drop 1).length)∧((l).drop 1=[48]->k=0)∧(Ext w W)∧(W.ownsRow w.heap.size 3 1 vv k (ints (digs (((l).drop 1).drop (((l).drop 1).length-k)))))) (((l).drop 1).length-0) ⟨0,.slice none 0 0,rfl,(congrArg (Value.int .i64) om),rfl,(Nat.zero_le _),(λ_=>rfl),aox,own0⟩ ?_;rintro _ _ _ ⟨k,vv,rfl,aol,aoo,hk,h4,r8,ho⟩;have ao8:=bz r8;by_cases h48:(l).drop 1=[48];by_cases hlt:k<((l).drop 1).length;obtain⟨Ao,co,rfl,hdg⟩:=dg_own ho (digs_all hD (by first|exact Or.inl ⟨by omega,h48⟩|(have:((l).drop 1).length=1:=by rw[h48];rfl);exact Or.inr ⟨by omega,h48⟩));refine go ?_;refine l_op (k_neqS (a:=(l).drop 1) (b:=[48]) (q:=false) rfl rfl (by rw[decide_eq_true h48];rfl) ?_);refine go ?_;exact f_ret2 (t:=2) (u:=3) (v1:=.bool (decide ((((l.getD 0 0).toNat:Nat):Int)=45))) (v2:=.slice Ao k co) rfl r8 ⟨Ao,k,co,by rw[hbn,decide_eq_true (by assumption)],by rw[hvD];exact hdg⟩ rfl rfl;exfalso;have h41:=h4 h48;have h42:((l).drop 1).length=1:=by rw[h48];rfl
 omega;by_cases hlt:k<((l).drop 1).length;have hlD1:=hlD.1;refine go ?_;refine l_op (k_neqS (a:=(l).drop 1) (b:=[48]) (q:=true) rfl rfl (by rw[decide_eq_false h48];rfl) ?_);refine go ?_;refine l_op (k_move (v:=vv) aoo ?_);refine go ?_;have aoy:=byteAt_ (l:=(l).drop 1) (i:=((l).drop 1).length-1-k) om;refine l_op (k_byte (l:=(l).drop 1) (i:=((l).drop 1).length-1-k) (c:=(((l).drop 1).getD (((l).drop 1).length-1-k) 0)) U9 rfl (pf_int rfl om) aoy ?_);refine l_op (k_subK (k:=.u8) (a:=(((((l).drop 1).getD (((l).drop 1).length-1-k) 0).toNat:Nat):Int)) (b:=48) (c:=(((((l).drop 1).getD (((l).drop 1).length-1-k) 0).toNat-48:Nat):Int)) rfl rfl (by have:=dig_bd hdD (i:=((l).drop 1).length-1-k) om;rw[wrap_u8 om];omega) ?_);refine l_op (k_convert (k:=.u8) (k':=.i64) (a:=(((((l).drop 1).getD (((l).drop 1).length-1-k) 0).toNat-48:Nat):Int)) (c:=(((((l).drop 1).getD (((l).drop 1).length-1-k) 0).toNat-48:Nat):Int)) U5 U3 rfl (by have:=dig_bd hdD (i:=((l).drop 1).length-1-k) om;rw[wrap_i64 om]) ?_);refine BS (λ_ aop _ aoz=>?_);have apb:=own_ne_new ho;have ho:=own_ext aop ho;have r8:=xt r8 aop;have apc:=bz aop;refine AP ho (Rw.of_own aoz) (λaos _ ao0 aot _=>?_);have r8:=low_app ho om om r8 aot;have apf:=aot.size;refine l_op (k_assign (v:=aos) rfl ?_);refine go ?_
 refine l_op (k_sub (a:=((((l).drop 1).length:Nat):Int)-1-(k:Int)) (b:=1) (c:=((((l).drop 1).length:Nat):Int)-1-((k+1:Nat):Int)) rfl rfl (by unfold In64;omega) om ?_);refine go ?_;exact lend ⟨k+1,aos,rfl,rfl,rfl,om,(λh=>absurd h h48),r8,(own_cast ao0 rfl (by rw[<-digs_get (byteAt_ om) om,ints_append];rfl))⟩;obtain⟨Ao,co,rfl,hdg⟩:=dg_own ho (digs_all hD (by first|exact Or.inl ⟨by omega,h48⟩|(have:((l).drop 1).length=1:=by rw[h48];rfl);exact Or.inr ⟨by omega,h48⟩));refine go ?_;exact f_ret2 (t:=2) (u:=3) (v1:=.bool (decide ((((l.getD 0 0).toNat:Nat):Int)=45))) (v2:=.slice Ao k co) rfl r8 ⟨Ao,k,co,by rw[hbn,decide_eq_true (by assumption)],by rw[hvD];exact hdg⟩ rfl rfl;have hb:=head_no (byteAt_ om) aon;have hbn:neg l=false:=hb.1;have hD:isNum l=true:=by rw[<-hb.2];exact hnum
 have hlD:=isNum_len hD;have hdD:=isNum_digs hD;have hvD:valN (body l)=valN (l):=by rw[hb.2]
 refine go ?_;refine l_op (k_lenL (l:=l) U9 rfl ?_);refine sui ?_;refine go ?_;have own0:World.ownsRow w w.heap.size 3 1 (.slice none 0 0) 0 (ints (digs ((l).drop ((l).length-0)))):=by rw[digs_drop0];exact own_nil
 have ao1:=Ext.refl w;refine c_lp [(5,6),(16,31)] (λkk e W=>∃k:Nat,∃vv:Value,((l).length-k=kk)∧(e 6=.int .i64 ((((l).length:Nat):Int)-1-(k:Int)))∧(e 5=vv)∧(k<=(l).length)∧(l=[48]->k=0)∧(Ext w W)∧(W.ownsRow w.heap.size 3 1 vv k (ints (digs ((l).drop ((l).length-k)))))) ((l).length-0) ⟨0,.slice none 0 0,rfl,(congrArg (Value.int .i64) om),rfl,(Nat.zero_le _),(λ_=>rfl),ao1,own0⟩ ?_;rintro _ _ _ ⟨k,vv,rfl,aom,aoq,hk,h4,sc,ho⟩;have apj:=bz sc;by_cases h48:l=[48];by_cases hlt:k<(l).length;obtain⟨Ao,co,rfl,hdg⟩:=dg_own ho (digs_all hD (by first|exact Or.inl ⟨by omega,h48⟩|(have:(l).length=1:=by rw[h48];rfl);exact Or.inr ⟨by omega,h48⟩));refine go ?_;refine l_op (k_neqS (a:=l) (b:=[48]) (q:=false) rfl rfl (by rw[decide_eq_true h48];rfl) ?_);refine go ?_;exact f_ret2 (t:=2) (u:=3) (v1:=.bool (decide ((((l.getD 0 0).toNat:Nat):Int)=45))) (v2:=.slice Ao k co) rfl sc ⟨Ao,k,co,by rw[hbn,decide_eq_false (by assumption)],by rw[hvD];exact hdg⟩ rfl rfl;exfalso;have h41:=h4 h48;have h42:(l).length=1:=by rw[h48];rfl
 omega;by_cases hlt:k<(l).length;have hlD1:=hlD.1;refine go ?_;refine l_op (k_neqS (a:=l) (b:=[48]) (q:=true) rfl rfl (by rw[decide_eq_false h48];rfl) ?_);refine go ?_;refine l_op (k_move (v:=vv) aoq ?_);refine go ?_;have ao2:=byteAt_ (l:=l) (i:=(l).length-1-k) om;refine l_op (k_byte (l:=l) (i:=(l).length-1-k) (c:=(l.getD ((l).length-1-k) 0)) U9 rfl (pf_int rfl om) ao2 ?_);refine l_op (k_subK (k:=.u8) (a:=(((l.getD ((l).length-1-k) 0).toNat:Nat):Int)) (b:=48) (c:=((((l).getD ((l).length-1-k) 0).toNat-48:Nat):Int)) rfl rfl (by have:=dig_bd hdD (i:=(l).length-1-k) om;rw[wrap_u8 om];omega) ?_);refine l_op (k_convert (k:=.u8) (k':=.i64) (a:=((((l).getD ((l).length-1-k) 0).toNat-48:Nat):Int)) (c:=((((l).getD ((l).length-1-k) 0).toNat-48:Nat):Int)) U5 U3 rfl (by have:=dig_bd hdD (i:=(l).length-1-k) om;rw[wrap_i64 om]) ?_);refine BS (λ_ aor _ ao3=>?_);have apm:=own_ne_new ho;have ho:=own_ext aor ho;have sc:=xt sc aor;have apn:=bz aor;refine AP ho (Rw.of_own ao3) (λaou _ ao4 aov _=>?_);have sc:=low_app ho om om sc aov;have apr:=aov.size;refine l_op (k_assign (v:=aou) rfl ?_);refine go ?_;refine l_op (k_sub (a:=(((l).length:Nat):Int)-1-(k:Int)) (b:=1) (c:=(((l).length:Nat):Int)-1-((k+1:Nat):Int)) rfl rfl (by unfold In64;omega) om ?_);refine go ?_
 exact lend ⟨k+1,aou,rfl,rfl,rfl,om,(λh=>absurd h h48),sc,(own_cast ao4 rfl (by rw[<-digs_get (byteAt_ om) om,ints_append];rfl))⟩;obtain⟨Ao,co,rfl,hdg⟩:=dg_own ho (digs_all hD (by first|exact Or.inl ⟨by omega,h48⟩|(have:(l).length=1:=by rw[h48];rfl);exact Or.inr ⟨by omega,h48⟩));refine go ?_;exact f_ret2 (t:=2) (u:=3) (v1:=.bool (decide ((((l.getD 0 0).toNat:Nat):Int)=45))) (v2:=.slice Ao k co) rfl sc ⟨Ao,k,co,by rw[hbn,decide_eq_false (by assumption)],by rw[hvD];exact hdg⟩ rfl rfl
theorem r3text_ok {A1:Option Addr}{n1 c1 a lo1:Nat}{w:World}(h1:Dg w lo1 A1 n1 c1 a)(s1:n1<=100000)(ng:Bool):
    CL 81 #[.bool ng,.slice A1 n1 c1] w (Ret w λv w'=>v=.tuple #[S (txtR ng a),.bool (fitR a)]):=by
 have e1:=h1.len;refine f_in Tryz.func81 rfl ?_;refine go ?_;by_cases aow:(n1:Int)=0;have ha0:a=0:=toB_nil (B:=10) om (h1.len.trans om);refine go ?_;exact f_ret2 (t:=4) (u:=5) (v1:=S ([48])) (v2:=.bool true) rfl (Ext.refl _) (txt_zero ha0) rfl rfl;have ha0:0<a:=toB_ne (B:=10) om (by rw[h1.len];omega);have own0:World.ownsRow w w.heap.size 5 1 (.slice none 0 0) 0 (bts []):=own_nil;refine go ?_;rcases Bool.eq_false_or_eq_true ng with aol|aol;refine go ?_;refine BS (λ_ aoq _ ao7=>?_);have api:=own_ne_new own0;have own0:=own_ext aoq own0;have aor:=aoq;have apj:=bz aoq;refine AP own0 (Rw.of_own ao7) (λaox _ ao8 aoy _=>?_);have aor:=low_app own0 om om aor aoy;have apm:=aoy.size;refine l_op (k_assign (v:=aox) rfl ?_);refine go ?_;refine sui ?_;refine go ?_;refine c_lp [(6,7),(18,30)] (λkk e W=>∃k:Nat,∃vv:Value,(n1-k=kk)∧(e 7=.int .i64 ((n1:Int)-1-(k:Int)))∧(e 6=vv)∧(k<=n1)∧(Ext w W)∧(W.ownsRow w.heap.size 5 1 vv (k+1) (bts ([45]++showD ((toB 10 a).drop (n1-k)))))) (n1-0) ⟨0,aox,rfl,(congrArg (Value.int .i64) om),rfl,(Nat.zero_le _),aor,(own_cast ao8 (by simp) (by rw[Nat.sub_zero,List.drop_eq_nil_of_le om];rfl))⟩ ?_;rintro _ _ _ ⟨k,vv,rfl,aom,aoz,hk,r8,ho⟩;have apr:=bz r8;by_cases hlt:k<n1;have hgd:=getD_lt10 h1.lt (n1-1-k);refine go ?_
 refine l_op (k_move (v:=vv) aoz ?_);refine go ?_;obtain⟨ao0,aos,ao9,aot⟩:=((h1.row).ext r8).cells (n1-1-k) _ (ints_getD (xs:=(toB 10 a)) om);refine l_op (k_indexAddr (i:=n1-1-k) (oo:=aos+(n1-1-k)) U24 sz3 rfl ao9 (pf_int rfl om) om (by rw[Nat.mul_one]) ?_);refine l_op (k_load (v:=.int .i64 ((((toB 10 a).getD (n1-1-k) 0:Nat):Int))) (b:=ao0) (o:=aos+(n1-1-k)) U3 rfl rfl aot ?_);refine adi ?_;refine l_op (k_convert (k:=.i64) (k':=.u8) (a:=48+((((toB 10 a).getD (n1-1-k) 0):Nat):Int)) (c:=(((UInt8.ofNat (48+((toB 10 a).getD (n1-1-k) 0))).toNat:Nat):Int)) U3 U5 rfl (by rw[ofNat_dig (getD_lt10 h1.lt _),wrap_u8 (by have:=getD_lt10 h1.lt (n1-1-k);omega)]) ?_);refine BS (λ_ aon _ apa=>?_);have apu:=own_ne_new ho;have ho:=own_ext aon ho;have r8:=xt r8 aon;have apv:=bz aon;refine AP ho (Rw.of_own apa) (λao1 _ apb ao2 _=>?_);have r8:=low_app ho om om r8 ao2;have apy:=ao2.size;refine l_op (k_assign (v:=ao1) rfl ?_);refine go ?_;refine l_op (k_sub (a:=(n1:Int)-1-(k:Int)) (b:=1) (c:=(n1:Int)-1-((k+1:Nat):Int)) rfl rfl (by unfold In64;omega) om ?_);refine go ?_;exact lend ⟨k+1,ao1,rfl,rfl,rfl,om,r8,(own_cast apb om (by rw[showD_drop h1.len om];simp[bts]))⟩;obtain⟨Ao,co,rfl,hkc,-⟩:=own_form ho
 have hfin:([45]++showD ((toB 10 a).drop (n1-k)))=(if true=true then[45]else[])++showD (toB 10 a):=by rw[show n1-k=0 by omega,List.drop_zero];rfl
 refine go ?_;refine l_op (k_b2s (l:=[45]++showD ((toB 10 a).drop (n1-k))) (A:=Ao) (m:=(k+1)) (c:=co) U144 U5 U9 rfl (Rw.of_own ho) (by simp[showD_length];rw[h1.len];omega) ?_);refine go ?_;exact f_ret2 (t:=4) (u:=5) (v1:=S ([45]++showD ((toB 10 a).drop (n1-k)))) (v2:=.bool (decide ((n1:Int)<=200))) rfl r8 (txt_pos (ng:=ng) ha0 h1.len (by rw[aol];exact hfin)) rfl rfl;refine go ?_;refine sui ?_;refine go ?_;have apc:=Ext.refl w;refine c_lp [(6,7),(18,30)] (λkk e W=>∃k:Nat,∃vv:Value,(n1-k=kk)∧(e 7=.int .i64 ((n1:Int)-1-(k:Int)))∧(e 6=vv)∧(k<=n1)∧(Ext w W)∧(W.ownsRow w.heap.size 5 1 vv (k+0) (bts (showD ((toB 10 a).drop (n1-k)))))) (n1-0) ⟨0,.slice none 0 0,rfl,(congrArg (Value.int .i64) om),rfl,(Nat.zero_le _),apc,(own_cast own0 (by simp) (by rw[Nat.sub_zero,List.drop_eq_nil_of_le om];rfl))⟩ ?_;rintro _ _ _ ⟨k,vv,rfl,aoo,ao3,hk,sc,ho⟩;have ap2:=bz sc;by_cases hlt:k<n1;have hgd:=getD_lt10 h1.lt (n1-1-k);refine go ?_;refine l_op (k_move (v:=vv) ao3 ?_);refine go ?_;obtain⟨ao4,aou,apd,aov⟩:=((h1.row).ext sc).cells (n1-1-k) _ (ints_getD (xs:=(toB 10 a)) om);refine l_op (k_indexAddr (i:=n1-1-k) (oo:=aou+(n1-1-k)) U24 sz3 rfl apd (pf_int rfl om) om (by rw[Nat.mul_one]) ?_);refine l_op (k_load (v:=.int .i64 ((((toB 10 a).getD (n1-1-k) 0:Nat):Int))) (b:=ao4) (o:=aou+(n1-1-k)) U3 rfl rfl aov ?_);refine adi ?_
 refine l_op (k_convert (k:=.i64) (k':=.u8) (a:=48+((((toB 10 a).getD (n1-1-k) 0):Nat):Int)) (c:=(((UInt8.ofNat (48+((toB 10 a).getD (n1-1-k) 0))).toNat:Nat):Int)) U3 U5 rfl (by rw[ofNat_dig (getD_lt10 h1.lt _),wrap_u8 (by have:=getD_lt10 h1.lt (n1-1-k);omega)]) ?_);refine BS (λ_ aop _ ape=>?_);have ap5:=own_ne_new ho;have ho:=own_ext aop ho;have sc:=xt sc aop;have ap6:=bz aop;refine AP ho (Rw.of_own ape) (λao5 _ apf ao6 _=>?_);have sc:=low_app ho om om sc ao6;have ap9:=ao6.size;refine l_op (k_assign (v:=ao5) rfl ?_);refine go ?_;refine l_op (k_sub (a:=(n1:Int)-1-(k:Int)) (b:=1) (c:=(n1:Int)-1-((k+1:Nat):Int)) rfl rfl (by unfold In64;omega) om ?_);refine go ?_;exact lend ⟨k+1,ao5,rfl,rfl,rfl,om,sc,(own_cast apf om (by rw[showD_drop h1.len om];simp[bts]))⟩;obtain⟨Ao,co,rfl,hkc,-⟩:=own_form ho;have hfin:(showD ((toB 10 a).drop (n1-k)))=(if false=true then[45]else[])++showD (toB 10 a):=by rw[show n1-k=0 by omega,List.drop_zero];rfl
 refine go ?_;refine l_op (k_b2s (l:=showD ((toB 10 a).drop (n1-k))) (A:=Ao) (m:=(k+0)) (c:=co) U144 U5 U9 rfl (Rw.of_own ho) (by simp[showD_length];rw[h1.len];omega) ?_);refine go ?_;exact f_ret2 (t:=4) (u:=5) (v1:=S (showD ((toB 10 a).drop (n1-k)))) (v2:=.bool (decide ((n1:Int)<=200))) rfl sc (txt_pos (ng:=ng) ha0 h1.len (by rw[aol];exact hfin)) rfl rfl
theorem r3trim_ok {A:Option Addr}{n c lo:Nat}{xs:List Nat}{w:World}(hr:Rw w lo A (ints xs))(hn:xs.length=n)(hc:n<=c)(hb:n<=1000000):
    CL 128 #[.slice A n c] w (Ret w λv w'=>∃m,v=.slice A m c∧trimL xs=xs.take m∧m<=n):=by
 refine f_in Tryz.func128 rfl ?_;refine go ?_;have aop:=Ext.refl w;refine c_lp [(0,0),(3,19)] (λkk e W=>∃m:Nat,(m=kk)∧(e 0=.slice A m c)∧(m<=n)∧(trimL xs=trimL (xs.take m))∧(Ext w W)) ((n)) ⟨n,rfl,rfl,(Nat.le_refl _),(by rw[List.take_of_length_le om]),aop⟩ ?_;rintro _ _ _ ⟨m,rfl,r8,q1,q2,sc⟩;have aox:=bz sc;by_cases hm:0<m;by_cases hz:xs.getD (m-1) 0=0;refine go ?_;refine sui ?_;refine go ?_;obtain⟨aon,aol,aoq,aor⟩:=((hr).ext sc).cells (m-1) _ (ints_getD (xs:=xs) om);refine l_op (k_indexAddr (i:=m-1) (oo:=aol+(m-1)) U24 sz3 rfl aoq (pf_int rfl om) om (by rw[Nat.mul_one]) ?_);refine go ?_;refine l_op (k_load (v:=.int .i64 (((xs.getD (m-1) 0:Nat):Int))) (b:=aon) (o:=aol+(m-1)) U3 rfl rfl aor ?_);refine go ?_;refine sui ?_;refine l_op (k_cut (j:=m-1) U24 sz3 rfl (pf_int rfl om) om ?_);refine go ?_;exact lend ⟨m-1,rfl,rfl,om,(q2.trans (trim_step (n:=n) om hz)),sc⟩;refine go ?_;refine sui ?_;refine go ?_;obtain⟨aoo,aom,aos,aot⟩:=((hr).ext sc).cells (m-1) _ (ints_getD (xs:=xs) om);refine l_op (k_indexAddr (i:=m-1) (oo:=aom+(m-1)) U24 sz3 rfl aos (pf_int rfl om) om (by rw[Nat.mul_one]) ?_);refine go ?_;refine l_op (k_load (v:=.int .i64 (((xs.getD (m-1) 0:Nat):Int))) (b:=aoo) (o:=aom+(m-1)) U3 rfl rfl aot ?_);refine go ?_
 exact f_ret1 (t:=2) (v:=.slice A m c) rfl sc ⟨m,rfl,q2.trans (trim_done (n:=n) om (by first|exact Or.inl om|exact Or.inr ⟨by omega,by omega⟩)),by omega⟩ rfl;refine go ?_;exact f_ret1 (t:=2) (v:=.slice A m c) rfl sc ⟨m,rfl,q2.trans (trim_done (n:=n) om (by first|exact Or.inl om|exact Or.inr ⟨by omega,by omega⟩)),by omega⟩ rfl
theorem r3order_ok {A1:Option Addr}{n1 c1 a lo1:Nat}{w:World}(h1:Dg w lo1 A1 n1 c1 a)(s1:n1<=100000){A2:Option Addr}{n2 c2 b lo2:Nat}(h2:Dg w lo2 A2 n2 c2 b)(s2:n2<=100000):
    CL 124 #[.slice A1 n1 c1,.slice A2 n2 c2] w (Ret w λv w'=>v=.int .i64 (cmpI (a:Int) (b:Int))):=by
 have e1:=h1.len;have e2:=h2.len;refine f_in Tryz.func124 rfl ?_;refine go ?_;by_cases ao6:(n1:Int)=(n2:Int);have hnn:n1=n2:=by omega
 refine go ?_;refine sui ?_;refine go ?_;have aqj:=Ext.refl w;refine c_lp [(4,5),(19,40)] (λkk e W=>∃k:Nat,(n1-k=kk)∧(e 5=.int .i64 ((n1:Int)-1-(k:Int)))∧(k<=n1)∧(∀i,n1-k<=i->i<n1->(toB 10 a).getD i 0=(toB 10 b).getD i 0)∧(Ext w W)) (n1-0) ⟨0,rfl,(congrArg (Value.int .i64) om),(Nat.zero_le _),(λi h1 h2=>by omega),aqj⟩ ?_;rintro _ _ _ ⟨k,rfl,aoq,q1,q2,aon⟩;have aqp:=bz aon;by_cases hlt:k<n1;by_cases he:(toB 10 a).getD (n1-1-k) 0=(toB 10 b).getD (n1-1-k) 0;have hk1:n1-1-k<n1:=by omega
 obtain⟨ao7,aoz,aqk,aoo⟩:=((h1.row).ext aon).cells (n1-1-k) _ (ints_getD (xs:=(toB 10 a)) om);obtain⟨ao8,ao0,aql,aop⟩:=((h2.row).ext aon).cells (n1-1-k) _ (ints_getD (xs:=(toB 10 b)) om);refine go ?_;refine c_an 8 ?_;refine sf ?_;refine sf_ap (λ_ _ _ _=>by refine l_op (k_indexAddr (i:=n1-1-k) (oo:=aoz+(n1-1-k)) U24 sz3 rfl aqk (pf_int rfl om) om (by rw[Nat.mul_one]) ?_);refine go ?_;exact finp) ?_;refine sf_ap (λ_ _ apc _=>by have aoo:=Cf.ext apc aoo;refine l_op (k_load (v:=.int .i64 ((((toB 10 a).getD (n1-1-k) 0:Nat):Int))) (b:=ao7) (o:=aoz+(n1-1-k)) U3 rfl rfl aoo ?_);refine go ?_;exact finp) ?_;refine sf ?_;refine sf_ap (λ_ _ _ _=>by refine l_op (k_indexAddr (i:=n1-1-k) (oo:=ao0+(n1-1-k)) U24 sz3 rfl aql (pf_int rfl om) om (by rw[Nat.mul_one]) ?_);refine go ?_;exact finp) ?_;refine sf_ap (λ_ _ apg _=>by have aop:=Cf.ext apg aop;refine l_op (k_load (v:=.int .i64 ((((toB 10 b).getD (n1-1-k) 0:Nat):Int))) (b:=ao8) (o:=ao0+(n1-1-k)) U3 rfl rfl aop ?_);refine go ?_;exact finp) ?_;refine sf ?_;intro _ _ ao1 _;have aon:=xt aon ao1.2;refine go ?_;refine l_op (k_sub (a:=(n1:Int)-1-(k:Int)) (b:=1) (c:=(n1:Int)-1-((k+1:Nat):Int)) rfl rfl (by unfold In64;omega) om ?_);refine go ?_;exact lend ⟨k+1,rfl,rfl,om,(λi hi h=>by by_cases hik:i=n1-1-k;subst hik;omega;exact q2 i om h),aon⟩
 by_cases hl:(toB 10 a).getD (n1-1-k) 0<(toB 10 b).getD (n1-1-k) 0;have hk1:n1-1-k<n1:=by omega
 obtain⟨aov,aor,aph,r8⟩:=((h1.row).ext aon).cells (n1-1-k) _ (ints_getD (xs:=(toB 10 a)) om);obtain⟨aow,aos,api,sc⟩:=((h2.row).ext aon).cells (n1-1-k) _ (ints_getD (xs:=(toB 10 b)) om);refine go ?_;refine c_an 8 ?_;refine sf ?_;refine sf_ap (λ_ _ _ _=>by refine l_op (k_indexAddr (i:=n1-1-k) (oo:=aor+(n1-1-k)) U24 sz3 rfl aph (pf_int rfl om) om (by rw[Nat.mul_one]) ?_);refine go ?_;exact finp) ?_;refine sf_ap (λ_ _ apm _=>by have r8:=Cf.ext apm r8;refine l_op (k_load (v:=.int .i64 ((((toB 10 a).getD (n1-1-k) 0:Nat):Int))) (b:=aov) (o:=aor+(n1-1-k)) U3 rfl rfl r8 ?_);refine go ?_;exact finp) ?_;refine sf ?_;refine sf_ap (λ_ _ _ _=>by refine l_op (k_indexAddr (i:=n1-1-k) (oo:=aos+(n1-1-k)) U24 sz3 rfl api (pf_int rfl om) om (by rw[Nat.mul_one]) ?_);refine go ?_;exact finp) ?_;refine sf_ap (λ_ _ apr _=>by have sc:=Cf.ext apr sc;refine l_op (k_load (v:=.int .i64 ((((toB 10 b).getD (n1-1-k) 0:Nat):Int))) (b:=aow) (o:=aos+(n1-1-k)) U3 rfl rfl sc ?_);refine go ?_;exact finp) ?_;refine sf ?_;intro _ _ ao2 _;have r8:=Cf.ext ao2.2 r8;have sc:=Cf.ext ao2.2 sc;have aon:=xt aon ao2.2;refine go ?_;refine c_an 8 ?_;refine sf ?_;refine sf_ap (λ_ _ _ _=>by refine l_op (k_indexAddr (i:=n1-1-k) (oo:=aor+(n1-1-k)) U24 sz3 rfl aph (pf_int rfl om) om (by rw[Nat.mul_one]) ?_);refine go ?_;exact finp) ?_
 refine sf_ap (λ_ _ apv _=>by have r8:=Cf.ext apv r8;refine l_op (k_load (v:=.int .i64 ((((toB 10 a).getD (n1-1-k) 0:Nat):Int))) (b:=aov) (o:=aor+(n1-1-k)) U3 rfl rfl r8 ?_);refine go ?_;exact finp) ?_;refine sf ?_;refine sf_ap (λ_ _ _ _=>by refine l_op (k_indexAddr (i:=n1-1-k) (oo:=aos+(n1-1-k)) U24 sz3 rfl api (pf_int rfl om) om (by rw[Nat.mul_one]) ?_);refine go ?_;exact finp) ?_;refine sf_ap (λ_ _ apz _=>by have sc:=Cf.ext apz sc;refine l_op (k_load (v:=.int .i64 ((((toB 10 b).getD (n1-1-k) 0:Nat):Int))) (b:=aow) (o:=aos+(n1-1-k)) U3 rfl rfl sc ?_);refine go ?_;exact finp) ?_;refine sf ?_;intro _ _ ao3 _;have aon:=xt aon ao3.2;refine go ?_;exact f_ret1 (t:=4) (v:=.int .i64 ((-1))) rfl aon (congrArg (Value.int .i64) (by first|exact ord_lt h1.len h2.len om|exact ord_gt h1.len h2.len om|exact ord_lt2 h1.len h2.len om om q2 om|exact ord_gt2 h1.len h2.len om om q2 om|exact ord_eq h1.len h2.len om (λi hi=>q2 i om hi))) rfl;have hk1:n1-1-k<n1:=by omega
 obtain⟨aox,aot,ap0,aol⟩:=((h1.row).ext aon).cells (n1-1-k) _ (ints_getD (xs:=(toB 10 a)) om);obtain⟨aoy,aou,ap1,aom⟩:=((h2.row).ext aon).cells (n1-1-k) _ (ints_getD (xs:=(toB 10 b)) om);refine go ?_;refine c_an 8 ?_;refine sf ?_;refine sf_ap (λ_ _ _ _=>by refine l_op (k_indexAddr (i:=n1-1-k) (oo:=aot+(n1-1-k)) U24 sz3 rfl ap0 (pf_int rfl om) om (by rw[Nat.mul_one]) ?_);refine go ?_;exact finp) ?_;refine sf_ap (λ_ _ ap5 _=>by have aol:=Cf.ext ap5 aol;refine l_op (k_load (v:=.int .i64 ((((toB 10 a).getD (n1-1-k) 0:Nat):Int))) (b:=aox) (o:=aot+(n1-1-k)) U3 rfl rfl aol ?_);refine go ?_;exact finp) ?_;refine sf ?_;refine sf_ap (λ_ _ _ _=>by refine l_op (k_indexAddr (i:=n1-1-k) (oo:=aou+(n1-1-k)) U24 sz3 rfl ap1 (pf_int rfl om) om (by rw[Nat.mul_one]) ?_);refine go ?_;exact finp) ?_;refine sf_ap (λ_ _ ap9 _=>by have aom:=Cf.ext ap9 aom;refine l_op (k_load (v:=.int .i64 ((((toB 10 b).getD (n1-1-k) 0:Nat):Int))) (b:=aoy) (o:=aou+(n1-1-k)) U3 rfl rfl aom ?_);refine go ?_;exact finp) ?_;refine sf ?_;intro _ _ ao4 _;have aol:=Cf.ext ao4.2 aol;have aom:=Cf.ext ao4.2 aom;have aon:=xt aon ao4.2;refine go ?_;refine c_an 8 ?_;refine sf ?_;refine sf_ap (λ_ _ _ _=>by refine l_op (k_indexAddr (i:=n1-1-k) (oo:=aot+(n1-1-k)) U24 sz3 rfl ap0 (pf_int rfl om) om (by rw[Nat.mul_one]) ?_);refine go ?_;exact finp) ?_
 refine sf_ap (λ_ _ aqd _=>by have aol:=Cf.ext aqd aol;refine l_op (k_load (v:=.int .i64 ((((toB 10 a).getD (n1-1-k) 0:Nat):Int))) (b:=aox) (o:=aot+(n1-1-k)) U3 rfl rfl aol ?_);refine go ?_;exact finp) ?_;refine sf ?_;refine sf_ap (λ_ _ _ _=>by refine l_op (k_indexAddr (i:=n1-1-k) (oo:=aou+(n1-1-k)) U24 sz3 rfl ap1 (pf_int rfl om) om (by rw[Nat.mul_one]) ?_);refine go ?_;exact finp) ?_;refine sf_ap (λ_ _ aqh _=>by have aom:=Cf.ext aqh aom;refine l_op (k_load (v:=.int .i64 ((((toB 10 b).getD (n1-1-k) 0:Nat):Int))) (b:=aoy) (o:=aou+(n1-1-k)) U3 rfl rfl aom ?_);refine go ?_;exact finp) ?_;refine sf ?_;intro _ _ ao5 _;have aon:=xt aon ao5.2;refine go ?_;exact f_ret1 (t:=4) (v:=.int .i64 1) rfl aon (congrArg (Value.int .i64) (by first|exact ord_lt h1.len h2.len om|exact ord_gt h1.len h2.len om|exact ord_lt2 h1.len h2.len om om q2 om|exact ord_gt2 h1.len h2.len om om q2 om|exact ord_eq h1.len h2.len om (λi hi=>q2 i om hi))) rfl;refine go ?_;exact f_ret1 (t:=4) (v:=.int .i64 0) rfl aon (congrArg (Value.int .i64) (by first|exact ord_lt h1.len h2.len om|exact ord_gt h1.len h2.len om|exact ord_lt2 h1.len h2.len om om q2 om|exact ord_gt2 h1.len h2.len om om q2 om|exact ord_eq h1.len h2.len om (λi hi=>q2 i om hi))) rfl;refine go ?_;by_cases aqi:(n1:Int)<(n2:Int);refine go ?_
 exact f_ret1 (t:=4) (v:=.int .i64 ((-1))) rfl (Ext.refl _) (congrArg (Value.int .i64) (by first|exact ord_lt h1.len h2.len om|exact ord_gt h1.len h2.len om|exact ord_lt2 h1.len h2.len om om q2 om|exact ord_gt2 h1.len h2.len om om q2 om|exact ord_eq h1.len h2.len om (λi hi=>q2 i om hi))) rfl;refine go ?_;exact f_ret1 (t:=4) (v:=.int .i64 1) rfl (Ext.refl _) (congrArg (Value.int .i64) (by first|exact ord_lt h1.len h2.len om|exact ord_gt h1.len h2.len om|exact ord_lt2 h1.len h2.len om om q2 om|exact ord_gt2 h1.len h2.len om om q2 om|exact ord_eq h1.len h2.len om (λi hi=>q2 i om hi))) rfl
end Go.Proofs.YtinldhphnpflaaaGreatDoor
theorem getD_ge0 {xs:List Nat}{i:Nat}(h:xs.length<=i):xs.getD i 0=0:=by simp[List.getD,List.getElem?_eq_none h]
theorem ofB_take_succ (B:Nat)(xs:List Nat)(k:Nat):ofB B (xs.take (k+1))=ofB B (xs.take k)+B^k*xs.getD k 0:=by
  rcases Nat.lt_or_ge k xs.length with h|h
  · rw[List.take_succ_eq_append_getElem h,ofB_append,List.length_take,Nat.min_eq_left (by omega)]
    simp[ofB,List.getD,h]
  · rw[List.take_of_length_le (by omega),List.take_of_length_le h,getD_ge0 h];simp
def pst (X Y:List Nat):Nat->Nat×List Nat
  |0=>(0,[])
  |k+1=>(((pst X Y k).1+X.getD k 0+Y.getD k 0)/10,(pst X Y k).2++[((pst X Y k).1+X.getD k 0+Y.getD k 0)%10])
theorem pst_len (X Y:List Nat):∀k,(pst X Y k).2.length=k
  |0=>rfl
  |k+1=>by simp[pst,pst_len X Y k]
theorem pst_lt (X Y:List Nat):∀k,∀d∈(pst X Y k).2,d<10
  |0=>by simp[pst]
  | k+1=>by
    intro d hd
    rcases List.mem_append.1 hd with h|h
    · exact pst_lt X Y k d h
    · rw[List.mem_singleton.1 h];exact Nat.mod_lt _ (by omega)
theorem pst_carry {X Y:List Nat}(hX:∀i,X.getD i 0<10)(hY:∀i,Y.getD i 0<10):∀k,(pst X Y k).1<=1
  |0=>by simp[pst]
  |k+1=>by have:=pst_carry hX hY k;have:=hX k;have:=hY k;simp only[pst];omega
theorem pst_val (X Y:List Nat):∀k,ofB 10 (pst X Y k).2+10^k*(pst X Y k).1=ofB 10 (X.take k)+ofB 10 (Y.take k)
  |0=>by simp[pst,ofB]
  | k+1=>by
    have ih:=pst_val X Y k
    simp only[pst]
    rw[ofB_append,pst_len,ofB_take_succ,ofB_take_succ,Nat.pow_succ]
    have hdm:=Nat.div_add_mod ((pst X Y k).1+X.getD k 0+Y.getD k 0) 10
    simp only[ofB]
    generalize ((pst X Y k).1+X.getD k 0+Y.getD k 0)/10=u at *
    generalize ((pst X Y k).1+X.getD k 0+Y.getD k 0)%10=v at *
    generalize X.getD k 0=x at *
    generalize Y.getD k 0=y at *
    generalize (pst X Y k).1=c at *
    grind
theorem pst_end {X Y:List Nat}{k:Nat}(hX:X.length<=k)(hY:Y.length<=k)(h:(pst X Y k).1<=1):(pst X Y (k+1)).1=0:=by
  simp only[pst,getD_ge0 hX,getD_ge0 hY];omega
theorem pow_le_toB {a k:Nat}(h:k<(toB 10 a).length):10^k<=a:=by
  rcases Nat.lt_or_ge a (10^k)with h1|h1
  · have:=(length_toB_le_iff 10 (by omega) a k).2 h1;omega
  · exact h1
theorem pst_res {a b n1 n2 k:Nat}(h1:(toB 10 a).length=n1)(h2:(toB 10 b).length=n2)(hk1:n1<=k)(hk2:n2<=k)(hc:(pst (toB 10 a) (toB 10 b) k).1=0)(hm:k<=max n1 n2∨k=max n1 n2+1∧0<(pst (toB 10 a) (toB 10 b) (max n1 n2)).1):(pst (toB 10 a) (toB 10 b) k).2=toB 10 (a+b):=by
  have hv:=pst_val (toB 10 a) (toB 10 b) k
  rw[hc,Nat.mul_zero,Nat.add_zero,List.take_of_length_le (by omega),List.take_of_length_le (by omega),ofB_toB 10 (by omega),ofB_toB 10 (by omega)]at hv
  have hlen:=pst_len (toB 10 a) (toB 10 b) k
  have hlt:=pst_lt (toB 10 a) (toB 10 b) k
  have hlow:0<k->10^(k-1)<=a+b:=by
    intro h0
    rcases hm with hm|⟨hm,hp⟩
    · have:n1=k∨n2=k:=by omega
      rcases this with h|h
      · have:=pow_le_toB (a:=a) (k:=k-1) (by omega);omega
      · have:=pow_le_toB (a:=b) (k:=k-1) (by omega);omega
    · have hv2:=pst_val (toB 10 a) (toB 10 b) (max n1 n2)
      rw[List.take_of_length_le (by omega),List.take_of_length_le (by omega),ofB_toB 10 (by omega),ofB_toB 10 (by omega)]at hv2
      have:10^max n1 n2*1<=10^max n1 n2*(pst (toB 10 a) (toB 10 b) (max n1 n2)).1:=Nat.mul_le_mul_left _ hp
      rw[hm,Nat.add_sub_cancel]
      omega
  generalize (pst (toB 10 a) (toB 10 b) k).2=l at *
  rw[<-hv]
  refine canon_eq (by omega) ⟨hlt,?_⟩
  intro hz
  have h0:0<k:=by
    rcases Nat.eq_zero_or_pos k with h|h
    · subst h;rw[List.length_eq_zero_iff.1 hlen]at hz;simp at hz
    · exact h
  obtain⟨l',rfl⟩:∃l',l=l'++[0]:=by
    have hne:l≠[]:=by intro e;subst e;simp at hz
    refine⟨l.dropLast,?_⟩
    have h9:=List.dropLast_concat_getLast hne
    rw[List.getLast?_eq_some_getLast hne]at hz
    rw[Option.some.inj hz]at h9
    exact h9.symm
  have h3:=ofB_lt 10 l' (λd hd=>hlt d (List.mem_append_left _ hd))
  rw[ofB_append]at hv
  simp only[ofB,Nat.mul_zero,Nat.add_zero]at hv
  simp at hlen
  have:=hlow h0
  rw[show k-1=l'.length by omega]at this
  omega
def mst (X Y:List Nat):Nat->Nat×List Nat
  |0=>(0,[])
  |k+1=>if X.getD k 0<(mst X Y k).1+Y.getD k 0 then(1,(mst X Y k).2++[X.getD k 0+10-(mst X Y k).1-Y.getD k 0])else(0,(mst X Y k).2++[X.getD k 0-(mst X Y k).1-Y.getD k 0])
theorem mst_len (X Y:List Nat):∀k,(mst X Y k).2.length=k
  |0=>rfl
  |k+1=>by simp only[mst];split <;>simp[mst_len X Y k]
theorem mst_borrow (X Y:List Nat):∀k,(mst X Y k).1<=1
  |0=>by simp[mst]
  |k+1=>by simp only[mst];split <;>simp
theorem mst_lt {X Y:List Nat}(hX:∀i,X.getD i 0<10)(hY:∀i,Y.getD i 0<10):∀k,∀d∈(mst X Y k).2,d<10
  |0=>by simp[mst]
  | k +1=>by
    have hb:=mst_borrow X Y k
    have hx:=hX k
    have hy:=hY k
    intro d hd
    simp only[mst]at hd
    split at hd
    all_goals
      rcases List.mem_append.1 hd with h|h
      · exact mst_lt hX hY k d h
      · rw[List.mem_singleton.1 h];omega
theorem mst_val {X Y:List Nat}(hY:∀i,Y.getD i 0<10):∀k,ofB 10 (mst X Y k).2+ofB 10 (Y.take k)=ofB 10 (X.take k)+10^k*(mst X Y k).1
  |0=>by simp[mst,ofB]
  | k +1=>by
    have ih:=mst_val (X:=X) hY k
    have hb:=mst_borrow X Y k
    have hy:=hY k
    rw[ofB_take_succ,ofB_take_succ,Nat.pow_succ]
    simp only[mst]
    split
    · next h=>
      rw[ofB_append,mst_len]
      simp only[ofB]
      obtain⟨t,ht⟩:∃t,X.getD k 0+10-(mst X Y k).1-Y.getD k 0=t:=⟨_,rfl⟩
      have hs:t+(mst X Y k).1+Y.getD k 0=X.getD k 0+10:=by omega
      rw[ht]
      generalize X.getD k 0=x at *
      generalize Y.getD k 0=y at *
      generalize (mst X Y k).1=c at *
      grind
    · next h=>
      rw[ofB_append,mst_len]
      simp only[ofB]
      obtain⟨t,ht⟩:∃t,X.getD k 0-(mst X Y k).1-Y.getD k 0=t:=⟨_,rfl⟩
      have hs:t+(mst X Y k).1+Y.getD k 0=X.getD k 0:=by omega
      rw[ht]
      generalize X.getD k 0=x at *
      generalize Y.getD k 0=y at *
      generalize (mst X Y k).1=c at *
      grind
theorem mst_res {a b n1 n2:Nat}(h1:(toB 10 a).length=n1)(h2:(toB 10 b).length=n2)(hle:b<=a):ofB 10 (mst (toB 10 a) (toB 10 b) n1).2=a-b:=by
  have hgt:∀(c i:Nat),(toB 10 c).getD i 0<10:=by
    intro c i
    rcases Nat.lt_or_ge i (toB 10 c).length with hi|hi
    · have h9:(toB 10 c)[i]? =some (toB 10 c)[i]:=List.getElem?_eq_getElem hi
      rw[List.getD,h9];exact toB_lt 10 (by omega) c _ (List.getElem_mem hi)
    · rw[getD_ge0 hi];omega
  have hv:=mst_val (X:=toB 10 a) (hgt b) n1
  have hln:n2<=n1:=by rw[<-h1,<-h2];exact len_mono (by omega) hle
  rw[List.take_of_length_le (by omega),List.take_of_length_le (by omega),ofB_toB 10 (by omega),ofB_toB 10 (by omega)]at hv
  have hlt:=ofB_lt 10 _ (mst_lt (hgt a) (hgt b) n1)
  rw[mst_len]at hlt
  have hb:=mst_borrow (toB 10 a) (toB 10 b) n1
  generalize (mst (toB 10 a) (toB 10 b) n1).1=c at *
  rcases Nat.eq_zero_or_pos c with hc|hc
  · subst hc;omega
  · obtain rfl:c=1:=by omega
    omega
theorem ofB_set (B:Nat):∀(l:List Nat) (j v:Nat),j<l.length->ofB B (l.set j v)+B^j*l.getD j 0=ofB B l+B^j*v
  |x::l,0,v,_=>by simp[ofB];omega
  | x::l,j+1,v,h=>by
    have ih:=ofB_set B l j v (by simpa using h)
    simp only[List.set_cons_succ,ofB,List.getD_cons_succ,Nat.pow_succ]
    generalize l.getD j 0=y at *
    generalize ofB B (l.set j v)=p at *
    generalize ofB B l=q at *
    generalize B^j=t at *
    grind
structure Tin (X Y:List Nat)(i n:Nat)(k c:Nat)(l:List Nat):Prop where
  len:l.length=n
  lt:∀d∈l,d<10
  c9:c<=9
  val:ofB 10 l+10^(i+k)*c=(ofB 10 (X.take i)*ofB 10 Y)+10^i*(X.getD i 0*ofB 10 (Y.take k))
theorem set_lt {l:List Nat}{j v:Nat}(h:∀d∈l,d<10)(hv:v<10):∀d∈l.set j v,d<10:=by
  intro d hd
  rcases List.mem_or_eq_of_mem_set hd with h1|h1
  · exact h d h1
  · rw[h1];exact hv
theorem getD_lt10' {xs:List Nat}(h:∀x∈xs,x<10)(i:Nat):xs.getD i 0<10:=by
  rcases Nat.lt_or_ge i xs.length with hi|hi
  · have h9:xs[i]? =some xs[i]:=List.getElem?_eq_getElem hi
    rw[List.getD,h9];exact h _ (List.getElem_mem hi)
  · rw[getD_ge0 hi];omega
theorem Tin.step {X Y l:List Nat}{i n k c:Nat}(hX:∀x∈X,x<10)(hY:∀x∈Y,x<10)(h:Tin X Y i n k c l)(hj:i+k<n):
    Tin X Y i n (k+1) ((l.getD (i+k) 0+c+X.getD i 0*Y.getD k 0)/10) (l.set (i+k) ((l.getD (i+k) 0+c+X.getD i 0*Y.getD k 0)%10)):=by
  have h1:=getD_lt10' h.lt (i+k)
  have h2:=getD_lt10' hX i
  have h3:=getD_lt10' hY k
  have h4:X.getD i 0*Y.getD k 0<=9*9:=Nat.mul_le_mul (by omega) (by omega)
  have hc:=h.c9
  refine⟨by rw[List.length_set];exact h.len,set_lt h.lt (Nat.mod_lt _ (by omega)),by omega,?_⟩
  have hs:=ofB_set 10 l (i+k) ((l.getD (i+k) 0+c+X.getD i 0*Y.getD k 0)%10) (by rw[h.len];exact hj)
  have hv:=h.val
  have hdm:=Nat.div_add_mod (l.getD (i+k) 0+c+X.getD i 0*Y.getD k 0) 10
  rw[ofB_take_succ,show i+(k+1)=(i+k)+1 by omega,Nat.pow_succ]
  have hp:(10:Nat)^(i+k)=10^i*10^k:=Nat.pow_add ..
  generalize (l.getD (i+k) 0+c+X.getD i 0*Y.getD k 0)/10=u at *
  generalize (l.getD (i+k) 0+c+X.getD i 0*Y.getD k 0)%10=v at *
  generalize ofB 10 (l.set (i+k) v)=p at *
  generalize l.getD (i+k) 0=z at *
  generalize X.getD i 0=x at *
  generalize Y.getD k 0=y at *
  generalize ofB 10 (Y.take k)=yk at *
  generalize ofB 10 (X.take i)*ofB 10 Y=W at *
  generalize (10:Nat)^(i+k)=t at *
  generalize (10:Nat)^i=ti at *
  generalize (10:Nat)^k=tk at *
  grind
theorem Tin.room {X Y l:List Nat}{i n1 n2 k c:Nat}(hX:∀x∈X,x<10)(hY:∀x∈Y,x<10)(hn1:X.length=n1)(hn2:Y.length=n2)(hi:i<n1)(h:Tin X Y i (n1+n2) k c l)(hk:k<n2∨0<c):i+k<n1+n2:=by
  rcases Nat.lt_or_ge k n2 with h1|h1
  · omega
  · have hc:0<c:=by omega
    have hv:=h.val
    rw[List.take_of_length_le (l:=Y) (by omega)]at hv
    have e1:=ofB_take_succ 10 X i
    have e2:ofB 10 (X.take (i+1))<10^(i+1):=by
      have:=ofB_lt 10 (X.take (i+1)) (λd hd=>hX d (List.mem_of_mem_take hd))
      rwa [List.length_take,Nat.min_eq_left (by omega)]at this
    have e3:ofB 10 Y<10^n2:=by have:=ofB_lt 10 Y hY;rwa [hn2]at this
    have e4:ofB 10 (X.take (i+1))*ofB 10 Y<10^(i+1)*10^n2:=by
      rcases Nat.eq_zero_or_pos (ofB 10 Y)with h0|h0
      · rw[h0,Nat.mul_zero];exact Nat.mul_pos (Nat.pow_pos (by omega)) (Nat.pow_pos (by omega))
      · exact Nat.mul_lt_mul_of_lt_of_le e2 (Nat.le_of_lt e3) (Nat.pow_pos (by omega))
    have e5:ofB 10 l+10^(i+k)*c=ofB 10 (X.take (i+1))*ofB 10 Y:=by
      rw[hv,e1]
      generalize ofB 10 (X.take i)=p
      generalize ofB 10 Y=q
      generalize X.getD i 0=x
      generalize (10:Nat)^i=t
      grind
    rw[<-Nat.pow_add]at e4
    have e6:10^(i+k)*1<=10^(i+k)*c:=Nat.mul_le_mul_left _ hc
    have e7:10^(i+k)<10^(i+1+n2):=by omega
    have:=(Nat.pow_lt_pow_iff_right (a:=10) (by omega)).1 e7
    omega
theorem Tin.done {X Y l:List Nat}{i n n2 k:Nat}(hn2:Y.length=n2)(h:Tin X Y i n k 0 l)(hk:n2<=k):Tin X Y (i+1) n 0 0 l:=by
  refine⟨h.len,h.lt,by omega,?_⟩
  have hv:=h.val
  rw[List.take_of_length_le (l:=Y) (by omega)]at hv
  rw[ofB_take_succ]
  simp only[Nat.mul_zero,Nat.add_zero,List.take_zero,ofB]at hv ⊢
  rw[hv]
  generalize ofB 10 (X.take i)=p
  generalize ofB 10 Y=q
  generalize X.getD i 0=x
  generalize (10:Nat)^i=t
  grind
theorem Tin.start (X Y:List Nat)(n:Nat):Tin X Y 0 n 0 0 (List.replicate n 0):=by
  refine⟨by simp,λd hd=>by rw[(List.mem_replicate.1 hd).2];omega,by omega,?_⟩
  have:∀m,ofB 10 (List.replicate m 0)=0:=by
    intro m;induction m with
    |zero=>rfl
    |succ m ih=>simp[List.replicate_succ,ofB,ih]
  simp[this,ofB]
theorem Tin.fin {X Y l:List Nat}{n n1:Nat}(hn1:X.length=n1)(h:Tin X Y n1 n 0 0 l):ofB 10 l=ofB 10 X*ofB 10 Y:=by
  have hv:=h.val
  rw[List.take_of_length_le (l:=X) (by omega)]at hv
  simp only[Nat.mul_zero,Nat.add_zero,List.take_zero,ofB]at hv
  exact hv
theorem Tin.rem {X Y l:List Nat}{i n n2 k c:Nat}(hn2:Y.length=n2)(hX:∀x∈X,x<10)(hY:∀x∈Y,x<10)(h:Tin X Y i n k c l)(hk:n2<=k):(l.getD (i+k) 0+c+X.getD i 0*Y.getD k 0)=l.getD (i+k) 0+c:=by
  rw[getD_ge0 (xs:=Y) (by omega)];simp
structure Qin (X:List Nat)(b:Nat)(i r:Nat)(T:List Nat):Prop where
  len:T.length+i=X.length
  lt:∀d∈T,d<10
  val:ofB 10 T*b+r=ofB 10 (X.drop i)
  rlt:r<b
theorem Qin.start {X:List Nat}{b:Nat}(hb:0<b):Qin X b X.length 0 []:=⟨by simp,by simp,by simp[ofB],hb⟩
theorem Qin.step {X T:List Nat}{b i r c r2:Nat}(hX:∀x∈X,x<10)(h:Qin X b (i+1) r T)(hc:c*b+r2=r*10+X.getD i 0)(hr:r2<b):Qin X b i r2 (c::T):=by
  have hl:=h.len
  have hx:=getD_lt10' hX i
  have hrl:=h.rlt
  have hc10:c<10:=by
    rcases Nat.lt_or_ge c 10 with h1|h1
    · exact h1
    · have h2:10*b<=c*b:=Nat.mul_le_mul_right _ h1
      omega
  refine⟨by simp;omega,λd hd=>?_,?_,hr⟩
  · rcases List.mem_cons.1 hd with rfl|h1
    · exact hc10
    · exact h.lt d h1
  · have e:X.drop i=X.getD i 0::X.drop (i+1):=by
      rw[List.drop_eq_getElem_cons (by omega)];simp[show i<X.length by omega]
    rw[e]
    simp only[ofB]
    have hv:=h.val
    generalize X.getD i 0=x at *
    generalize ofB 10 T=t at *
    generalize ofB 10 (X.drop (i+1))=u at *
    grind
theorem Qin.fin {X T:List Nat}{b r:Nat}(hb:0<b)(h:Qin X b 0 r T):ofB 10 T=ofB 10 X/b∧r=ofB 10 X%b:=by
  have hv:=h.val
  rw[List.drop_zero]at hv
  have hr:=h.rlt
  rw[<-hv]
  constructor
  · rw[Nat.mul_comm,Nat.mul_add_div hb,Nat.div_eq_of_lt hr];omega
  · rw[Nat.mul_comm,Nat.mul_add_mod,Nat.mod_eq_of_lt hr]
namespace Go.Proofs.YtinldhphnpflaaaGreatDoor
set_option maxRecDepth 100000
open Go Go.Eng Go.RowKit
attribute [local irreducible] wpListIn Code.wpIn Oper.wpIn Exit.then Exit.inBlock Exit.noGoto
set_option maxHeartbeats 40000000
theorem uxRef3 {a:Int}(h:In64 a:=by unfold In64;omega):In64 a:=h
theorem dlt (a i:Nat):(toB 10 a).getD i 0<10:=getD_lt10' (toB_lt 10 om a) i
theorem ints_snoc (l:List Nat)(x:Nat):ints l++[Value.int .i64 x]=ints (l++[x]):=by simp[ints]
theorem made_ints' (m:Nat):(madeCells (Value.int IntKind.i64 0).cells (m*1)).toList=ints (List.replicate m 0):=made_ints m
theorem Dg.put {w w':World}{lo b n c a:Nat}{A:Option Addr}(k:Put w w' b)(hb:b<lo)(h:Dg w lo A n c a):Dg w' lo A n c a:=⟨h.row.put k hb,h.len,h.cap⟩
theorem Dg.hi {w:World}{lo n c a:Nat}{A:Option Addr}(h:Dg w lo A n c a):∀ad,A=some ad->ad.block<w.heap.size:=h.row.hi
def QL (i:Nat)(T:List Nat):List Nat:=List.replicate i 0++T
theorem ql_len (i:Nat)(T:List Nat):(QL i T).length=i+T.length:=by simp[QL]
theorem ql_zero {i:Nat}(T:List Nat)(h:0<i):QL i T=QL (i-1) (0::T):=by
  obtain⟨j,rfl⟩:∃j,i=j+1:=⟨i-1,by omega⟩
  simp[QL,List.replicate_succ']
theorem ql_get (i c:Nat)(T:List Nat):(QL i (c::T)).getD i 0=c:=by simp[QL,List.getD]
theorem ql_set (i c d:Nat)(T:List Nat):(QL i (c::T)).set i d=QL i (d::T):=by
  induction i with
  |zero=>rfl
  |succ i ih=>unfold QL at *;rw[List.replicate_succ,List.cons_append,List.cons_append,List.set_cons_succ,ih]
theorem ql_start (n:Nat):QL n []=List.replicate n 0:=by simp[QL]
theorem cons10 (r d:Nat)(hd:d<10):trimL (d::toB 10 r)=toB 10 (r*10+d):=by
  rw[trimL_eq 10 om (d::toB 10 r) (λx hx=>by
    rcases List.mem_cons.1 hx with rfl|hx
    · exact hd
    · exact toB_lt 10 om r x hx)]
  simp only[ofB,ofB_toB 10 (show 2<=10 by omega)]
  congr 1;omega
theorem len10 {a b n1 n2:Nat}(h1:(toB 10 a).length=n1)(h2:(toB 10 b).length=n2)(h:a<b*10):n1<=n2+1:=by
  rw[<-h1,<-h2,length_toB_le_iff 10 om,Nat.pow_succ]
  have:=lt_pow_len (B:=10) om b
  omega
theorem cmpI_nn {a b:Nat}(h:b<=a):(0:Int)<=cmpI (a:Int) (b:Int):=by
  rcases Nat.eq_or_lt_of_le h with h1|h1
  · rw[cmpI_eq om];omega
  · rw[cmpI_gt om];omega
theorem cmpI_nl {a b:Nat}(h:¬b<=a):¬(0:Int)<=cmpI (a:Int) (b:Int):=by
  rw[cmpI_lt om];omega
theorem c_lt10 {c b r r2 x:Nat}(h:c*b+r2=r*10+x)(hr:r<b)(hx:x<10):c<10:=by
  rcases Nat.lt_or_ge c 10 with h1|h1
  · exact h1
  · have:=Nat.mul_le_mul_right b h1;omega
theorem r3plus_ok {A1:Option Addr}{n1 c1 a lo1:Nat}{w:World}(h1:Dg w lo1 A1 n1 c1 a)(s1:n1<=100000){A2:Option Addr}{n2 c2 b lo2:Nat}(h2:Dg w lo2 A2 n2 c2 b)(s2:n2<=100000):
    CL 126 #[.slice A1 n1 c1,.slice A2 n2 c2] w (Ret w λv w'=>∃A n c,v=.slice A n c∧Dg w' w.heap.size A n c (a+b)):=by
 have e1:=h1.len;have e2:=h2.len;refine f_in Tryz.func126 rfl ?_;refine go ?_;have out0:World.ownsRow w w.heap.size 3 1 (.slice none 0 0) 0 (ints []):=own_nil;have apb:=Ext.refl w;refine c_lp [(5,52)] (λkk e W=>∃k:Nat,∃vv:Value,((max n1 n2)+1-k=kk)∧(e 6=.int .i64 ((((pst (toB 10 a) (toB 10 b) k).1:Nat):Int)))∧(e 7=.int .i64 k)∧(e 5=vv)∧(k<=(max n1 n2)∨k=(max n1 n2)+1∧0<(pst (toB 10 a) (toB 10 b) (max n1 n2)).1)∧(Ext w W)∧(W.ownsRow w.heap.size 3 1 vv k (ints (pst (toB 10 a) (toB 10 b) k).2))) ((max n1 n2)+1-0) ⟨0,.slice none 0 0,rfl,rfl,rfl,rfl,(Or.inl (Nat.zero_le _)),apb,out0⟩ ?_;rintro _ _ _ ⟨k,vv,rfl,aol,sc,aom,q1,r8,ho⟩;have aps:=bz r8;by_cases hka:k<n1;by_cases hkb:k<n2;have hcb:(pst (toB 10 a) (toB 10 b) k).1<=1:=pst_carry (dlt a) (dlt b) k;have hxd:=dlt a k;have hyd:=dlt b k;have hx0:n1<=k->(toB 10 a).getD k 0=0:=λh=>getD_ge0 om;have hy0:n2<=k->(toB 10 b).getD k 0=0:=λh=>getD_ge0 om;refine go ?_;obtain⟨aoz,aoq,apc,aor⟩:=((h1.row).ext r8).cells k _ (ints_getD (xs:=(toB 10 a)) om);refine l_op (k_indexAddr (i:=(k)) (oo:=aoq+k) U24 sz3 rfl apc rfl om (by rw[Nat.mul_one]) ?_);refine l_op (k_load (v:=.int .i64 ((((toB 10 a).getD k 0:Nat):Int))) (b:=aoz) (o:=aoq+k) U3 rfl rfl aor ?_);refine l_op (k_add (a:=(((pst (toB 10 a) (toB 10 b) k).1:Nat):Int)) (b:=(((toB 10 a).getD k 0:Nat):Int)) (c:=(((pst (toB 10 a) (toB 10 b) k).1+(toB 10 a).getD k 0:Nat):Int)) rfl rfl uxRef3 om ?_)
 refine go ?_;obtain⟨ao0,aos,apd,aot⟩:=((h2.row).ext r8).cells k _ (ints_getD (xs:=(toB 10 b)) om);refine l_op (k_indexAddr (i:=(k)) (oo:=aos+k) U24 sz3 rfl apd rfl om (by rw[Nat.mul_one]) ?_);refine l_op (k_load (v:=.int .i64 ((((toB 10 b).getD k 0:Nat):Int))) (b:=ao0) (o:=aos+k) U3 rfl rfl aot ?_);refine l_op (k_add (a:=(((pst (toB 10 a) (toB 10 b) k).1+(toB 10 a).getD k 0:Nat):Int)) (b:=(((toB 10 b).getD k 0:Nat):Int)) (c:=(((pst (toB 10 a) (toB 10 b) k).1+(toB 10 a).getD k 0+(toB 10 b).getD k 0:Nat):Int)) rfl rfl uxRef3 om ?_);refine go ?_;refine l_op (k_move (v:=vv) aom ?_);refine go ?_;refine l_op (k_rem (a:=(((pst (toB 10 a) (toB 10 b) k).1+(toB 10 a).getD k 0+(toB 10 b).getD k 0:Nat):Int)) (b:=10) (c:=((((pst (toB 10 a) (toB 10 b) k).1+(toB 10 a).getD k 0+(toB 10 b).getD k 0)%10:Nat):Int)) rfl rfl om om om ?_);refine BS (λ_ aon _ ape=>?_);have apv:=own_ne_new ho;have ho:=own_ext aon ho;have r8:=xt r8 aon;have apw:=bz aon;refine AP ho (Rw.of_own ape) (λao1 _ apf ao2 _=>?_);have r8:=low_app ho om om r8 ao2;have apz:=ao2.size;refine l_op (k_assign (v:=ao1) rfl ?_);refine go ?_;refine l_op (k_quo (a:=(((pst (toB 10 a) (toB 10 b) k).1+(toB 10 a).getD k 0+(toB 10 b).getD k 0:Nat):Int)) (b:=10) (c:=(((pst (toB 10 a) (toB 10 b) (k+1)).1:Nat):Int)) rfl rfl om om uxRef3 (by simp only[pst];omega) ?_)
 refine go ?_;refine l_op (k_add (a:=(k:Int)) (b:=1) (c:=((k+1:Nat):Int)) rfl rfl uxRef3 om ?_);refine go ?_;exact lend (hk:=by first|omega|(rcases q1 with h|⟨h,-⟩;omega;exfalso;have hz:=pst_end (X:=(toB 10 a)) (Y:=(toB 10 b)) (k:=(max n1 n2)) om om (pst_carry (dlt a) (dlt b) _);rw[show(max n1 n2)+1=k by omega]at hz;omega)) ⟨k+1,ao1,rfl,rfl,rfl,rfl,(by rcases q1 with h|⟨h,-⟩ <;>first|(left;omega)|(right;refine⟨by omega,?_⟩;rw[show(max n1 n2)=k by omega];omega)|(exfalso;have hz:=pst_end (X:=(toB 10 a)) (Y:=(toB 10 b)) (k:=(max n1 n2)) om om (pst_carry (dlt a) (dlt b) _);rw[show(max n1 n2)+1=k by omega]at hz;omega)),r8,(own_cast apf rfl (by rw[ints_snoc];rfl))⟩;have hcb:(pst (toB 10 a) (toB 10 b) k).1<=1:=pst_carry (dlt a) (dlt b) k;have hxd:=dlt a k;have hyd:=dlt b k;have hx0:n1<=k->(toB 10 a).getD k 0=0:=λh=>getD_ge0 om;have hy0:n2<=k->(toB 10 b).getD k 0=0:=λh=>getD_ge0 om;refine go ?_;obtain⟨ao3,aou,apg,aov⟩:=((h1.row).ext r8).cells k _ (ints_getD (xs:=(toB 10 a)) om);refine l_op (k_indexAddr (i:=(k)) (oo:=aou+k) U24 sz3 rfl apg rfl om (by rw[Nat.mul_one]) ?_);refine l_op (k_load (v:=.int .i64 ((((toB 10 a).getD k 0:Nat):Int))) (b:=ao3) (o:=aou+k) U3 rfl rfl aov ?_);refine l_op (k_add (a:=(((pst (toB 10 a) (toB 10 b) k).1:Nat):Int)) (b:=(((toB 10 a).getD k 0:Nat):Int)) (c:=(((pst (toB 10 a) (toB 10 b) k).1+(toB 10 a).getD k 0:Nat):Int)) rfl rfl uxRef3 om ?_);refine go ?_;refine l_op (k_move (v:=vv) aom ?_);refine go ?_;refine l_op (k_rem (a:=(((pst (toB 10 a) (toB 10 b) k).1+(toB 10 a).getD k 0:Nat):Int)) (b:=10) (c:=((((pst (toB 10 a) (toB 10 b) k).1+(toB 10 a).getD k 0+(toB 10 b).getD k 0)%10:Nat):Int)) rfl rfl om om om ?_);refine BS (λ_ aoo _ aph=>?_);have ap2:=own_ne_new ho;have ho:=own_ext aoo ho;have r8:=xt r8 aoo;have ap3:=bz aoo;refine AP ho (Rw.of_own aph) (λao4 _ api ao5 _=>?_);have r8:=low_app ho om om r8 ao5;have ap6:=ao5.size;refine l_op (k_assign (v:=ao4) rfl ?_)
 refine go ?_;refine l_op (k_quo (a:=(((pst (toB 10 a) (toB 10 b) k).1+(toB 10 a).getD k 0:Nat):Int)) (b:=10) (c:=(((pst (toB 10 a) (toB 10 b) (k+1)).1:Nat):Int)) rfl rfl om om uxRef3 (by simp only[pst];omega) ?_);refine go ?_;refine l_op (k_add (a:=(k:Int)) (b:=1) (c:=((k+1:Nat):Int)) rfl rfl uxRef3 om ?_);refine go ?_;exact lend (hk:=by first|omega|(rcases q1 with h|⟨h,-⟩;omega;exfalso;have hz:=pst_end (X:=(toB 10 a)) (Y:=(toB 10 b)) (k:=(max n1 n2)) om om (pst_carry (dlt a) (dlt b) _);rw[show(max n1 n2)+1=k by omega]at hz;omega)) ⟨k+1,ao4,rfl,rfl,rfl,rfl,(by rcases q1 with h|⟨h,-⟩ <;>first|(left;omega)|(right;refine⟨by omega,?_⟩;rw[show(max n1 n2)=k by omega];omega)|(exfalso;have hz:=pst_end (X:=(toB 10 a)) (Y:=(toB 10 b)) (k:=(max n1 n2)) om om (pst_carry (dlt a) (dlt b) _);rw[show(max n1 n2)+1=k by omega]at hz;omega)),r8,(own_cast api rfl (by rw[ints_snoc];rfl))⟩;by_cases hkb:k<n2;have hcb:(pst (toB 10 a) (toB 10 b) k).1<=1:=pst_carry (dlt a) (dlt b) k;have hxd:=dlt a k;have hyd:=dlt b k;have hx0:n1<=k->(toB 10 a).getD k 0=0:=λh=>getD_ge0 om;have hy0:n2<=k->(toB 10 b).getD k 0=0:=λh=>getD_ge0 om;refine go ?_;obtain⟨ao6,aow,apj,aox⟩:=((h2.row).ext r8).cells k _ (ints_getD (xs:=(toB 10 b)) om);refine l_op (k_indexAddr (i:=(k)) (oo:=aow+k) U24 sz3 rfl apj rfl om (by rw[Nat.mul_one]) ?_);refine l_op (k_load (v:=.int .i64 ((((toB 10 b).getD k 0:Nat):Int))) (b:=ao6) (o:=aow+k) U3 rfl rfl aox ?_);refine l_op (k_add (a:=(((pst (toB 10 a) (toB 10 b) k).1:Nat):Int)) (b:=(((toB 10 b).getD k 0:Nat):Int)) (c:=(((pst (toB 10 a) (toB 10 b) k).1+(toB 10 a).getD k 0+(toB 10 b).getD k 0:Nat):Int)) rfl rfl uxRef3 om ?_);refine go ?_;refine l_op (k_move (v:=vv) aom ?_);refine go ?_;refine l_op (k_rem (a:=(((pst (toB 10 a) (toB 10 b) k).1+(toB 10 a).getD k 0+(toB 10 b).getD k 0:Nat):Int)) (b:=10) (c:=((((pst (toB 10 a) (toB 10 b) k).1+(toB 10 a).getD k 0+(toB 10 b).getD k 0)%10:Nat):Int)) rfl rfl om om om ?_);refine BS (λ_ aop _ apk=>?_);have ap9:=own_ne_new ho;have ho:=own_ext aop ho;have r8:=xt r8 aop;have aqa:=bz aop;refine AP ho (Rw.of_own apk) (λao7 _ apl ao8 _=>?_);have r8:=low_app ho om om r8 ao8
 have aqd:=ao8.size;refine l_op (k_assign (v:=ao7) rfl ?_);refine go ?_;refine l_op (k_quo (a:=(((pst (toB 10 a) (toB 10 b) k).1+(toB 10 a).getD k 0+(toB 10 b).getD k 0:Nat):Int)) (b:=10) (c:=(((pst (toB 10 a) (toB 10 b) (k+1)).1:Nat):Int)) rfl rfl om om uxRef3 (by simp only[pst];omega) ?_);refine go ?_;refine l_op (k_add (a:=(k:Int)) (b:=1) (c:=((k+1:Nat):Int)) rfl rfl uxRef3 om ?_);refine go ?_;exact lend (hk:=by first|omega|(rcases q1 with h|⟨h,-⟩;omega;exfalso;have hz:=pst_end (X:=(toB 10 a)) (Y:=(toB 10 b)) (k:=(max n1 n2)) om om (pst_carry (dlt a) (dlt b) _);rw[show(max n1 n2)+1=k by omega]at hz;omega)) ⟨k+1,ao7,rfl,rfl,rfl,rfl,(by rcases q1 with h|⟨h,-⟩ <;>first|(left;omega)|(right;refine⟨by omega,?_⟩;rw[show(max n1 n2)=k by omega];omega)|(exfalso;have hz:=pst_end (X:=(toB 10 a)) (Y:=(toB 10 b)) (k:=(max n1 n2)) om om (pst_carry (dlt a) (dlt b) _);rw[show(max n1 n2)+1=k by omega]at hz;omega)),r8,(own_cast apl rfl (by rw[ints_snoc];rfl))⟩;by_cases hcr:0<(pst (toB 10 a) (toB 10 b) k).1;have hcb:(pst (toB 10 a) (toB 10 b) k).1<=1:=pst_carry (dlt a) (dlt b) k;have hxd:=dlt a k;have hyd:=dlt b k;have hx0:n1<=k->(toB 10 a).getD k 0=0:=λh=>getD_ge0 om;have hy0:n2<=k->(toB 10 b).getD k 0=0:=λh=>getD_ge0 om;refine go ?_;refine l_op (k_move (v:=vv) aom ?_);refine go ?_;refine l_op (k_rem (a:=(((pst (toB 10 a) (toB 10 b) k).1:Nat):Int)) (b:=10) (c:=((((pst (toB 10 a) (toB 10 b) k).1+(toB 10 a).getD k 0+(toB 10 b).getD k 0)%10:Nat):Int)) rfl rfl om om om ?_);refine BS (λ_ aoy _ apm=>?_);have aqg:=own_ne_new ho;have ho:=own_ext aoy ho;have r8:=xt r8 aoy;have aqh:=bz aoy;refine AP ho (Rw.of_own apm) (λao9 _ apn apa _=>?_);have r8:=low_app ho om om r8 apa;have aqk:=apa.size;refine l_op (k_assign (v:=ao9) rfl ?_);refine go ?_;refine l_op (k_quo (a:=(((pst (toB 10 a) (toB 10 b) k).1:Nat):Int)) (b:=10) (c:=(((pst (toB 10 a) (toB 10 b) (k+1)).1:Nat):Int)) rfl rfl om om uxRef3 (by simp only[pst];omega) ?_);refine go ?_;refine l_op (k_add (a:=(k:Int)) (b:=1) (c:=((k+1:Nat):Int)) rfl rfl uxRef3 om ?_);refine go ?_;exact lend (hk:=by first|omega|(rcases q1 with h|⟨h,-⟩;omega;exfalso;have hz:=pst_end (X:=(toB 10 a)) (Y:=(toB 10 b)) (k:=(max n1 n2)) om om (pst_carry (dlt a) (dlt b) _);rw[show(max n1 n2)+1=k by omega]at hz;omega)) ⟨k+1,ao9,rfl,rfl,rfl,rfl,(by rcases q1 with h|⟨h,-⟩ <;>first|(left;omega)|(right;refine⟨by omega,?_⟩;rw[show(max n1 n2)=k by omega];omega)|(exfalso;have hz:=pst_end (X:=(toB 10 a)) (Y:=(toB 10 b)) (k:=(max n1 n2)) om om (pst_carry (dlt a) (dlt b) _);rw[show(max n1 n2)+1=k by omega]at hz;omega)),r8,(own_cast apn rfl (by rw[ints_snoc];rfl))⟩
 have hcb:(pst (toB 10 a) (toB 10 b) k).1<=1:=pst_carry (dlt a) (dlt b) k;have hxd:=dlt a k;have hyd:=dlt b k;have hx0:n1<=k->(toB 10 a).getD k 0=0:=λh=>getD_ge0 om;have hy0:n2<=k->(toB 10 b).getD k 0=0:=λh=>getD_ge0 om;have hfin:=pst_res h1.len h2.len (k:=k) om om om om;obtain⟨Ao,co,rfl,hdg⟩:=dg_own ho hfin;refine go ?_;exact f_ret1 (t:=4) (v:=.slice Ao k co) rfl r8 ⟨Ao,k,co,rfl,hdg⟩ rfl
theorem r3minus_ok {A1:Option Addr}{n1 c1 a lo1:Nat}{w:World}(h1:Dg w lo1 A1 n1 c1 a)(s1:n1<=100000){A2:Option Addr}{n2 c2 b lo2:Nat}(h2:Dg w lo2 A2 n2 c2 b)(s2:n2<=100000)(hle:b<=a):
    CL 127 #[.slice A1 n1 c1,.slice A2 n2 c2] w (Ret w λv w'=>∃A n c,v=.slice A n c∧Dg w' w.heap.size A n c (a-b)):=by
 have e1:=h1.len;have e2:=h2.len;refine f_in Tryz.func127 rfl ?_;refine go ?_;have out0:World.ownsRow w w.heap.size 3 1 (.slice none 0 0) 0 (ints []):=own_nil;have api:=Ext.refl w;refine c_lp [(5,38)] (λkk e W=>∃k:Nat,∃vv:Value,(n1-k=kk)∧(e 6=.int .i64 ((((mst (toB 10 a) (toB 10 b) k).1:Nat):Int)))∧(e 7=.int .i64 k)∧(e 5=vv)∧(k<=n1)∧(Ext w W)∧(W.ownsRow w.heap.size 3 1 vv k (ints (mst (toB 10 a) (toB 10 b) k).2))) (n1-0) ⟨0,.slice none 0 0,rfl,rfl,rfl,rfl,(Nat.zero_le _),api,out0⟩ ?_;rintro _ _ _ ⟨k,vv,rfl,aoo,sc,aol,q1,r8,ho⟩;have ap1:=bz r8;by_cases hka:k<n1;by_cases hkb:k<n2;by_cases hng:(toB 10 a).getD k 0<(mst (toB 10 a) (toB 10 b) k).1+(toB 10 b).getD k 0;have hcb:(mst (toB 10 a) (toB 10 b) k).1<=1:=mst_borrow _ _ k;have hxd:=dlt a k;have hyd:=dlt b k;have hy0:n2<=k->(toB 10 b).getD k 0=0:=λh=>getD_ge0 om;have hms:(mst (toB 10 a) (toB 10 b) (k+1))=(1,(mst (toB 10 a) (toB 10 b) k).2++[(toB 10 a).getD k 0+10-(mst (toB 10 a) (toB 10 b) k).1-(toB 10 b).getD k 0]):=if_pos hng;refine go ?_;obtain⟨ao3,aor,apj,aos⟩:=((h1.row).ext r8).cells k _ (ints_getD (xs:=(toB 10 a)) om);refine l_op (k_indexAddr (i:=(k)) (oo:=aor+k) U24 sz3 rfl apj rfl om (by rw[Nat.mul_one]) ?_);refine l_op (k_load (v:=.int .i64 ((((toB 10 a).getD k 0:Nat):Int))) (b:=ao3) (o:=aor+k) U3 rfl rfl aos ?_)
 refine go ?_;refine sui ?_;refine go ?_;obtain⟨ao4,aot,apk,aou⟩:=((h2.row).ext r8).cells k _ (ints_getD (xs:=(toB 10 b)) om);refine l_op (k_indexAddr (i:=(k)) (oo:=aot+k) U24 sz3 rfl apk rfl om (by rw[Nat.mul_one]) ?_);refine l_op (k_load (v:=.int .i64 ((((toB 10 b).getD k 0:Nat):Int))) (b:=ao4) (o:=aot+k) U3 rfl rfl aou ?_);refine sui ?_;refine go ?_;refine l_op (k_add (a:=((((toB 10 a).getD k 0:Nat):Int)-(((mst (toB 10 a) (toB 10 b) k).1:Nat):Int))-(((toB 10 b).getD k 0:Nat):Int)) (b:=10) (c:=(((toB 10 a).getD k 0+10-(mst (toB 10 a) (toB 10 b) k).1-(toB 10 b).getD k 0:Nat):Int)) rfl rfl uxRef3 om ?_);refine go ?_;refine l_op (k_move (v:=vv) aol ?_);refine go ?_;refine BS (λ_ aom _ apl=>?_);have ap4:=own_ne_new ho;have ho:=own_ext aom ho;have r8:=xt r8 aom;have ap5:=bz aom;refine AP ho (Rw.of_own apl) (λao5 _ apm ao6 _=>?_);have r8:=low_app ho om om r8 ao6;have ap8:=ao6.size;refine l_op (k_assign (v:=ao5) rfl ?_);refine go ?_;refine l_op (k_add (a:=(k:Int)) (b:=1) (c:=((k+1:Nat):Int)) rfl rfl uxRef3 om ?_);refine go ?_;exact lend ⟨k+1,ao5,rfl,(by rw[hms];rfl),rfl,rfl,om,r8,(own_cast apm rfl (by rw[ints_snoc,hms]))⟩;have hcb:(mst (toB 10 a) (toB 10 b) k).1<=1:=mst_borrow _ _ k;have hxd:=dlt a k;have hyd:=dlt b k;have hy0:n2<=k->(toB 10 b).getD k 0=0:=λh=>getD_ge0 om;have hms:(mst (toB 10 a) (toB 10 b) (k+1))=(0,(mst (toB 10 a) (toB 10 b) k).2++[(toB 10 a).getD k 0-(mst (toB 10 a) (toB 10 b) k).1-(toB 10 b).getD k 0]):=if_neg hng;refine go ?_;obtain⟨ao7,aov,apn,aow⟩:=((h1.row).ext r8).cells k _ (ints_getD (xs:=(toB 10 a)) om);refine l_op (k_indexAddr (i:=(k)) (oo:=aov+k) U24 sz3 rfl apn rfl om (by rw[Nat.mul_one]) ?_);refine l_op (k_load (v:=.int .i64 ((((toB 10 a).getD k 0:Nat):Int))) (b:=ao7) (o:=aov+k) U3 rfl rfl aow ?_);refine go ?_;refine sui ?_;refine go ?_;obtain⟨ao8,aox,apo,aoy⟩:=((h2.row).ext r8).cells k _ (ints_getD (xs:=(toB 10 b)) om);refine l_op (k_indexAddr (i:=(k)) (oo:=aox+k) U24 sz3 rfl apo rfl om (by rw[Nat.mul_one]) ?_);refine l_op (k_load (v:=.int .i64 ((((toB 10 b).getD k 0:Nat):Int))) (b:=ao8) (o:=aox+k) U3 rfl rfl aoy ?_);refine l_op (k_sub (a:=(((toB 10 a).getD k 0:Nat):Int)-(((mst (toB 10 a) (toB 10 b) k).1:Nat):Int)) (b:=(((toB 10 b).getD k 0:Nat):Int)) (c:=(((toB 10 a).getD k 0-(mst (toB 10 a) (toB 10 b) k).1-(toB 10 b).getD k 0:Nat):Int)) rfl rfl uxRef3 om ?_);refine go ?_;refine l_op (k_move (v:=vv) aol ?_);refine go ?_;refine BS (λ_ aon _ apq=>?_);have aqb:=own_ne_new ho;have ho:=own_ext aon ho;have r8:=xt r8 aon
 have aqc:=bz aon;refine AP ho (Rw.of_own apq) (λao9 _ apr apa _=>?_);have r8:=low_app ho om om r8 apa;have aqf:=apa.size;refine l_op (k_assign (v:=ao9) rfl ?_);refine go ?_;refine l_op (k_add (a:=(k:Int)) (b:=1) (c:=((k+1:Nat):Int)) rfl rfl uxRef3 om ?_);refine go ?_;exact lend ⟨k+1,ao9,rfl,(by rw[hms];rfl),rfl,rfl,om,r8,(own_cast apr rfl (by rw[ints_snoc,hms]))⟩;by_cases hng:(toB 10 a).getD k 0<(mst (toB 10 a) (toB 10 b) k).1+(toB 10 b).getD k 0;have hcb:(mst (toB 10 a) (toB 10 b) k).1<=1:=mst_borrow _ _ k;have hxd:=dlt a k;have hyd:=dlt b k;have hy0:n2<=k->(toB 10 b).getD k 0=0:=λh=>getD_ge0 om;have hms:(mst (toB 10 a) (toB 10 b) (k+1))=(1,(mst (toB 10 a) (toB 10 b) k).2++[(toB 10 a).getD k 0+10-(mst (toB 10 a) (toB 10 b) k).1-(toB 10 b).getD k 0]):=if_pos hng;refine go ?_;obtain⟨apb,aoz,aps,ao0⟩:=((h1.row).ext r8).cells k _ (ints_getD (xs:=(toB 10 a)) om);refine l_op (k_indexAddr (i:=(k)) (oo:=aoz+k) U24 sz3 rfl aps rfl om (by rw[Nat.mul_one]) ?_);refine l_op (k_load (v:=.int .i64 ((((toB 10 a).getD k 0:Nat):Int))) (b:=apb) (o:=aoz+k) U3 rfl rfl ao0 ?_);refine go ?_;refine sui ?_;refine go ?_;refine l_op (k_add (a:=(((toB 10 a).getD k 0:Nat):Int)-(((mst (toB 10 a) (toB 10 b) k).1:Nat):Int)) (b:=10) (c:=(((toB 10 a).getD k 0+10-(mst (toB 10 a) (toB 10 b) k).1-(toB 10 b).getD k 0:Nat):Int)) rfl rfl uxRef3 om ?_)
 refine go ?_;refine l_op (k_move (v:=vv) aol ?_);refine go ?_;refine BS (λ_ aop _ apt=>?_);have aqi:=own_ne_new ho;have ho:=own_ext aop ho;have r8:=xt r8 aop;have aqj:=bz aop;refine AP ho (Rw.of_own apt) (λapc _ apu apd _=>?_);have r8:=low_app ho om om r8 apd;have aqm:=apd.size;refine l_op (k_assign (v:=apc) rfl ?_);refine go ?_;refine l_op (k_add (a:=(k:Int)) (b:=1) (c:=((k+1:Nat):Int)) rfl rfl uxRef3 om ?_);refine go ?_;exact lend ⟨k+1,apc,rfl,(by rw[hms];rfl),rfl,rfl,om,r8,(own_cast apu rfl (by rw[ints_snoc,hms]))⟩;have hcb:(mst (toB 10 a) (toB 10 b) k).1<=1:=mst_borrow _ _ k;have hxd:=dlt a k;have hyd:=dlt b k;have hy0:n2<=k->(toB 10 b).getD k 0=0:=λh=>getD_ge0 om;have hms:(mst (toB 10 a) (toB 10 b) (k+1))=(0,(mst (toB 10 a) (toB 10 b) k).2++[(toB 10 a).getD k 0-(mst (toB 10 a) (toB 10 b) k).1-(toB 10 b).getD k 0]):=if_neg hng;refine go ?_;obtain⟨ape,ao1,apv,ao2⟩:=((h1.row).ext r8).cells k _ (ints_getD (xs:=(toB 10 a)) om);refine l_op (k_indexAddr (i:=(k)) (oo:=ao1+k) U24 sz3 rfl apv rfl om (by rw[Nat.mul_one]) ?_);refine l_op (k_load (v:=.int .i64 ((((toB 10 a).getD k 0:Nat):Int))) (b:=ape) (o:=ao1+k) U3 rfl rfl ao2 ?_);refine go ?_;refine l_op (k_sub (a:=(((toB 10 a).getD k 0:Nat):Int)) (b:=(((mst (toB 10 a) (toB 10 b) k).1:Nat):Int)) (c:=(((toB 10 a).getD k 0-(mst (toB 10 a) (toB 10 b) k).1-(toB 10 b).getD k 0:Nat):Int)) rfl rfl uxRef3 om ?_)
 refine go ?_;refine l_op (k_move (v:=vv) aol ?_);refine go ?_;refine BS (λ_ aoq _ apw=>?_);have aqp:=own_ne_new ho;have ho:=own_ext aoq ho;have r8:=xt r8 aoq;have aqq:=bz aoq;refine AP ho (Rw.of_own apw) (λapf _ apx apg _=>?_);have r8:=low_app ho om om r8 apg;have aqt:=apg.size;refine l_op (k_assign (v:=apf) rfl ?_);refine go ?_;refine l_op (k_add (a:=(k:Int)) (b:=1) (c:=((k+1:Nat):Int)) rfl rfl uxRef3 om ?_);refine go ?_;exact lend ⟨k+1,apf,rfl,(by rw[hms];rfl),rfl,rfl,om,r8,(own_cast apx rfl (by rw[ints_snoc,hms]))⟩;have hkn:k=n1:=by omega
 obtain⟨Ao,co,rfl,hkc,-⟩:=own_form ho;refine go ?_;refine clb en119 (hc:=r3trim_ok (Rw.of_own ho) (mst_len _ _ _) hkc om) (hk:=?_);rintro _ _ aph ⟨m1,rfl,ht1,ht2⟩;have ho:=own_ext aph.2 ho;have r8:=xt r8 aph.2;refine go ?_;exact f_ret1 (t:=4) (v:=.slice Ao m1 co) rfl r8 ⟨Ao,m1,co,rfl,Dg.trim (Rw.of_own ho) (mst_lt (dlt a) (dlt b) k) (by rw[hkn];exact mst_res h1.len h2.len hle) ht1 (by rw[mst_len];exact ht2) om⟩ rfl
theorem r3times_ok {A1:Option Addr}{n1 c1 a lo1:Nat}{w:World}(h1:Dg w lo1 A1 n1 c1 a)(s1:n1<=100000){A2:Option Addr}{n2 c2 b lo2:Nat}(h2:Dg w lo2 A2 n2 c2 b)(s2:n2<=100000):
    CL 85 #[.slice A1 n1 c1,.slice A2 n2 c2] w (Ret w λv w'=>∃A n c,v=.slice A n c∧Dg w' w.heap.size A n c (a*b)):=by
 have e1:=h1.len;have e2:=h2.len;refine f_in Tryz.func85 rfl ?_;refine go ?_;refine l_op (k_add (a:=(n1:Int)) (b:=(n2:Int)) (c:=(((n1+n2):Nat):Int)) rfl rfl uxRef3 om ?_);refine l_op (k_make (m:=(n1+n2)) U24 inf3 rfl rfl om (by simp only[maxLen];omega) (λ_ ao3 _ hmo=>?_));have ao9:=ao3;have apd:=bz ao3;have hq:=own_blk hmo;rw[made_ints']at hq;clear hmo;refine go ?_;refine c_lp [(6,9),(16,63)] (λkk e W=>∃i:Nat,∃L:List Nat,(n1-i=kk)∧(e 6=.int .i64 i)∧(i<=n1)∧(Tin (toB 10 a) (toB 10 b) i (n1+n2) 0 0 L)∧(Ext w W)∧(Blk W (w.heap.size) 3 (ints L).toArray)) (n1-0) ⟨0,(List.replicate (n1+n2) 0),rfl,rfl,(Nat.zero_le _),(Tin.start _ _ _),ao9,hq⟩ ?_;rintro _ _ _ ⟨i,L,rfl,aon,hi0,q0,aoo,hq⟩;have aph:=bz aoo;by_cases hi:i<n1;refine go ?_;refine c_lp [(7,9),(22,63)] (λkk e W=>∃k:Nat,∃c:Nat,∃L2:List Nat,((n1+n2)-(i+k)=kk)∧(e 7=.int .i64 c)∧(e 8=.int .i64 k)∧(Tin (toB 10 a) (toB 10 b) i (n1+n2) k c L2)∧(Ext w W)∧(Blk W (w.heap.size) 3 (ints L2).toArray)) ((n1+n2)-(i+0)) ⟨0,0,L,rfl,rfl,rfl,q0,aoo,hq⟩ ?_;rintro _ _ _ ⟨k,c,L2,rfl,aop,aol,q1,aom,hq⟩;have apl:=bz aom;by_cases hkb:k<n2;have hroom:=q1.room (toB_lt 10 om a) (toB_lt 10 om b) h1.len h2.len hi om;have hl2:=q1.len;have hc9:=q1.c9;have hld:=getD_lt10' q1.lt (i+k);have hxd:=dlt a i;have hyd:=dlt b k
 have hxy0:(toB 10 a).getD i 0*(toB 10 b).getD k 0<=9*9:=Nat.mul_le_mul om om;have hxy:((((toB 10 a).getD i 0:Nat):Int)*(((toB 10 b).getD k 0:Nat):Int))=(((toB 10 a).getD i 0*(toB 10 b).getD k 0:Nat):Int):=by rw[Int.natCast_mul]
 refine go ?_;refine l_op (k_add (a:=(i:Int)) (b:=(k:Int)) (c:=((i+k:Nat):Int)) rfl rfl uxRef3 om ?_);refine l_op (k_indexAddr (A:=some ⟨w.heap.size,0,none⟩) (bk:=w.heap.size) (o:=0) (m:=(n1+n2)) (c:=(n1+n2)) (i:=i+k) (oo:=i+k) U24 sz3 rfl rfl (pf_int rfl om) om om ?_);refine l_op (k_load (v:=.int .i64 ((L2.getD (i+k) 0:Nat):Int)) U3 rfl rfl (Blk.cell hq (by rw[List.getElem?_toArray];exact ints_getD om)) ?_);refine go ?_;refine l_op (k_add (a:=((L2.getD (i+k) 0:Nat):Int)) (b:=(c:Int)) (c:=((L2.getD (i+k) 0+c:Nat):Int)) rfl rfl uxRef3 rfl ?_);refine go ?_;obtain⟨ao4,aor,apa,r8⟩:=((h1.row).ext aom).cells i _ (ints_getD (xs:=(toB 10 a)) om);obtain⟨ao5,aos,apb,sc⟩:=((h2.row).ext aom).cells k _ (ints_getD (xs:=(toB 10 b)) om);refine c_an 10 ?_;refine sf ?_;refine sf_ap (λ_ _ _ _=>by refine l_op (k_indexAddr (i:=i) (oo:=aor+i) U24 sz3 rfl apa (pf_int rfl om) om (by rw[Nat.mul_one]) ?_);refine go ?_;exact finp) ?_;refine sf_ap (λ_ _ aox _=>by have r8:=Cf.ext aox r8;refine l_op (k_load (v:=.int .i64 ((((toB 10 a).getD i 0:Nat):Int))) (b:=ao4) (o:=aor+i) U3 rfl rfl r8 ?_);refine go ?_;exact finp) ?_;refine sf ?_;refine sf_ap (λ_ _ _ _=>by refine l_op (k_indexAddr (i:=k) (oo:=aos+k) U24 sz3 rfl apb (pf_int rfl om) om (by rw[Nat.mul_one]) ?_);refine go ?_;exact finp) ?_
 refine sf_ap (λ_ _ ao1 _=>by have sc:=Cf.ext ao1 sc;refine l_op (k_load (v:=.int .i64 ((((toB 10 b).getD k 0:Nat):Int))) (b:=ao5) (o:=aos+k) U3 rfl rfl sc ?_);refine go ?_;exact finp) ?_;refine sf_ap (λ_ _ _ _=>by refine l_op (k_mul (a:=(((toB 10 a).getD i 0:Nat):Int)) (b:=(((toB 10 b).getD k 0:Nat):Int)) (c:=(((toB 10 a).getD i 0*(toB 10 b).getD k 0:Nat):Int)) rfl rfl uxRef3 hxy ?_);refine go ?_;exact finp) ?_;refine sf ?_;intro _ _ aoq _;have⟨hq,aom⟩:=be1 aoq.2 hq aom;refine l_op (k_add (a:=((L2.getD (i+k) 0+c:Nat):Int)) (b:=(((toB 10 a).getD i 0*(toB 10 b).getD k 0:Nat):Int)) (c:=(((L2.getD (i+k) 0+c+(toB 10 a).getD i 0*(toB 10 b).getD k 0):Nat):Int)) rfl rfl uxRef3 rfl ?_);refine go ?_;refine l_op (k_add (a:=(i:Int)) (b:=(k:Int)) (c:=((i+k:Nat):Int)) rfl rfl uxRef3 om ?_);refine go ?_;refine l_op (k_rem (a:=(((L2.getD (i+k) 0+c+(toB 10 a).getD i 0*(toB 10 b).getD k 0):Nat):Int)) (b:=10) (c:=(((L2.getD (i+k) 0+c+(toB 10 a).getD i 0*(toB 10 b).getD k 0)%10:Nat):Int)) rfl rfl om om (by rw[Int.natCast_emod];rfl) ?_);refine l_op (k_indexAddr (A:=some ⟨w.heap.size,0,none⟩) (bk:=w.heap.size) (o:=0) (m:=(n1+n2)) (c:=(n1+n2)) (i:=i+k) (oo:=i+k) U24 sz3 rfl rfl (pf_int rfl om) om om ?_)
 refine l_op (k_store (b:=w.heap.size) (o:=i+k) (v:=.int .i64 (((L2.getD (i+k) 0+c+(toB 10 a).getD i 0*(toB 10 b).getD k 0)%10:Nat):Int)) sz3 rfl rfl rfl hq (by rw[List.size_toArray,ints_length];omega) (λ_ ao6 hq2=>?_));have aom:=plw ao6 aom;have aql:=psz ao6;have hq:=hq2;rw[ints_set]at hq;refine go ?_;refine l_op (k_quo (a:=(((L2.getD (i+k) 0+c+(toB 10 a).getD i 0*(toB 10 b).getD k 0):Nat):Int)) (b:=10) (c:=(((L2.getD (i+k) 0+c+(toB 10 a).getD i 0*(toB 10 b).getD k 0)/10:Nat):Int)) rfl rfl om om uxRef3 (by rw[Int.natCast_ediv];rfl) ?_);refine go ?_;refine l_op (k_add (a:=(k:Int)) (b:=1) (c:=((k+1:Nat):Int)) rfl rfl uxRef3 om ?_);refine go ?_;exact lend ⟨k+1,(L2.getD (i+k) 0+c+(toB 10 a).getD i 0*(toB 10 b).getD k 0)/10,(L2.set (i+k) ((L2.getD (i+k) 0+c+(toB 10 a).getD i 0*(toB 10 b).getD k 0)%10)),rfl,rfl,rfl,(q1.step (toB_lt 10 om a) (toB_lt 10 om b) hroom),aom,hq⟩;by_cases hcr:0<c;have hroom:=q1.room (toB_lt 10 om a) (toB_lt 10 om b) h1.len h2.len hi om;have hl2:=q1.len;have hc9:=q1.c9;have hld:=getD_lt10' q1.lt (i+k);have hxd:=dlt a i;have hyd:=dlt b k;have hxy0:(toB 10 a).getD i 0*(toB 10 b).getD k 0<=9*9:=Nat.mul_le_mul om om
 have hxy:((((toB 10 a).getD i 0:Nat):Int)*(((toB 10 b).getD k 0:Nat):Int))=(((toB 10 a).getD i 0*(toB 10 b).getD k 0:Nat):Int):=by rw[Int.natCast_mul]
 have hs0:(L2.getD (i+k) 0+c+(toB 10 a).getD i 0*(toB 10 b).getD k 0)=L2.getD (i+k) 0+c:=q1.rem h2.len (toB_lt 10 om a) (toB_lt 10 om b) om;refine go ?_;refine l_op (k_add (a:=(i:Int)) (b:=(k:Int)) (c:=((i+k:Nat):Int)) rfl rfl uxRef3 om ?_);refine l_op (k_indexAddr (A:=some ⟨w.heap.size,0,none⟩) (bk:=w.heap.size) (o:=0) (m:=(n1+n2)) (c:=(n1+n2)) (i:=i+k) (oo:=i+k) U24 sz3 rfl rfl (pf_int rfl om) om om ?_);refine l_op (k_load (v:=.int .i64 ((L2.getD (i+k) 0:Nat):Int)) U3 rfl rfl (Blk.cell hq (by rw[List.getElem?_toArray];exact ints_getD om)) ?_);refine go ?_;refine l_op (k_add (a:=((L2.getD (i+k) 0:Nat):Int)) (b:=(c:Int)) (c:=(((L2.getD (i+k) 0+c+(toB 10 a).getD i 0*(toB 10 b).getD k 0):Nat):Int)) rfl rfl uxRef3 (by rw[hs0];rfl) ?_);refine go ?_;refine l_op (k_add (a:=(i:Int)) (b:=(k:Int)) (c:=((i+k:Nat):Int)) rfl rfl uxRef3 om ?_);refine go ?_;refine l_op (k_rem (a:=(((L2.getD (i+k) 0+c+(toB 10 a).getD i 0*(toB 10 b).getD k 0):Nat):Int)) (b:=10) (c:=(((L2.getD (i+k) 0+c+(toB 10 a).getD i 0*(toB 10 b).getD k 0)%10:Nat):Int)) rfl rfl om om (by rw[Int.natCast_emod];rfl) ?_);refine l_op (k_indexAddr (A:=some ⟨w.heap.size,0,none⟩) (bk:=w.heap.size) (o:=0) (m:=(n1+n2)) (c:=(n1+n2)) (i:=i+k) (oo:=i+k) U24 sz3 rfl rfl (pf_int rfl om) om om ?_)
 refine l_op (k_store (b:=w.heap.size) (o:=i+k) (v:=.int .i64 (((L2.getD (i+k) 0+c+(toB 10 a).getD i 0*(toB 10 b).getD k 0)%10:Nat):Int)) sz3 rfl rfl rfl hq (by rw[List.size_toArray,ints_length];omega) (λ_ ao7 hq2=>?_));have aom:=plw ao7 aom;have aqn:=psz ao7;have hq:=hq2;rw[ints_set]at hq;refine go ?_;refine l_op (k_quo (a:=(((L2.getD (i+k) 0+c+(toB 10 a).getD i 0*(toB 10 b).getD k 0):Nat):Int)) (b:=10) (c:=(((L2.getD (i+k) 0+c+(toB 10 a).getD i 0*(toB 10 b).getD k 0)/10:Nat):Int)) rfl rfl om om uxRef3 (by rw[Int.natCast_ediv];rfl) ?_);refine go ?_;refine l_op (k_add (a:=(k:Int)) (b:=1) (c:=((k+1:Nat):Int)) rfl rfl uxRef3 om ?_);refine go ?_;exact lend ⟨k+1,(L2.getD (i+k) 0+c+(toB 10 a).getD i 0*(toB 10 b).getD k 0)/10,(L2.set (i+k) ((L2.getD (i+k) 0+c+(toB 10 a).getD i 0*(toB 10 b).getD k 0)%10)),rfl,rfl,rfl,(q1.step (toB_lt 10 om a) (toB_lt 10 om b) hroom),aom,hq⟩;have hc0:c=0:=by omega
 have q3:=q1;rw[hc0]at q3;have q2:=q3.done h2.len om;refine go ?_;refine l_op (k_add (a:=(i:Int)) (b:=1) (c:=((i+1:Nat):Int)) rfl rfl uxRef3 om ?_);refine go ?_;exact lend ⟨i+1,L2,rfl,rfl,om,q2,aom,hq⟩;have hin:i=n1:=by omega
 have hl:=q0.len;refine go ?_;have hq0:=Rw.of_blk hq (Nat.le_refl _);refine clb en119 (hc:=r3trim_ok hq0 hl (Nat.le_refl _) om) (hk:=?_);rintro _ _ ao8 ⟨m1,rfl,ht1,ht2⟩;have⟨hq,aoo⟩:=be1 ao8.2 hq aoo;refine go ?_;exact f_ret1 (t:=4) (v:=.slice (some ⟨w.heap.size,0,none⟩) m1 ((n1+n2))) rfl aoo ⟨_,m1,_,rfl,(Dg.trim (Rw.of_blk hq (Nat.le_refl _)) q0.lt (by rw[hin]at q0;exact(q0.fin h1.len).trans (by rw[h1.val,h2.val])) ht1 (by rw[hl];exact ht2) ht2).mono om⟩ rfl
theorem r3div_ok {A1:Option Addr}{n1 c1 a lo1:Nat}{w:World}(h1:Dg w lo1 A1 n1 c1 a)(s1:n1<=90000){A2:Option Addr}{n2 c2 b lo2:Nat}(h2:Dg w lo2 A2 n2 c2 b)(s2:n2<=90000)(hb0:0<b):
    CL 125 #[.slice A1 n1 c1,.slice A2 n2 c2] w (Ret w λv w'=>∃A n c B m d,v=.tuple #[.slice A n c,.slice B m d]∧Dg w' w.heap.size A n c (a/b)∧Dg w' w.heap.size B m d (a%b)):=by
 have e1:=h1.len;have e2:=h2.len;refine f_in Tryz.func125 rfl ?_;refine go ?_;refine l_op (k_make (m:=n1) U24 inf3 rfl rfl om (by simp only[maxLen];omega) (λao3 aox _ hmo=>?_));have ao4:=aox;have ao8:=bz aox;have hq:=own_blk hmo;rw[made_ints']at hq;clear hmo;refine go ?_;refine sui ?_;refine go ?_;rw[<-ql_start]at hq;have hr0:Dg ao3 (w.heap.size+1) none 0 0 0:=Dg.zero _ _;have uhr0:=hr0.hi;refine c_lp [(7,8),(15,39)] (λkk e W=>∃i:Nat,∃T:List Nat,∃Ar:Option Addr,∃nr:Nat,∃cr:Nat,∃r:Nat,(i=kk)∧(e 8=.int .i64 ((i:Int)-1))∧(e 7=.slice Ar nr cr)∧(i<=n1)∧(Qin (toB 10 a) b i r T)∧(Ext w W)∧(Blk W (w.heap.size) 3 (ints (QL i T)).toArray)∧(Dg W (w.heap.size+1) Ar nr cr r)) ((n1)) ⟨n1,[],none,0,0,0,rfl,(congrArg (Value.int .i64) om),rfl,(Nat.le_refl _),(by rw[<-h1.len];exact Qin.start hb0),ao4,hq,hr0⟩ ?_;rintro _ _ aoy ⟨i,T,Ar,nr,cr,r,rfl,aol,aoz,hi0,q0,sc,hq,hr⟩;have apb:=bz sc;by_cases hi:0<i;have hqlt:=bt hq;have uhr:=hr.hi;have hxd:=dlt a (i-1);have hrl:=q0.rlt;have hql:=q0.len;have hnr:nr<=n2+1:=len10 hr.len h2.len om;refine go ?_;obtain⟨ao0,aoq,ao5,aor⟩:=((h1.row).ext sc).cells (i-1) _ (ints_getD (xs:=(toB 10 a)) om);refine l_op (k_indexAddr (i:=i-1) (oo:=aoq+(i-1)) U24 sz3 rfl ao5 (pf_int rfl om) om (by rw[Nat.mul_one]) ?_)
 refine l_op (k_load (v:=.int .i64 ((((toB 10 a).getD (i-1) 0:Nat):Int))) (b:=ao0) (o:=aoq+(i-1)) U3 rfl rfl aor ?_);refine BS (λ_ aom _ ao1=>?_);have hq:=be aom hq;have hr:=Dg.ext aom hr;have sc:=xt sc aom;have ape:=bz aom;refine go ?_;refine l_op (k_append (v:=.slice (some ⟨aoy.heap.size,0,none⟩) (1) (1)) (k:=1) U24 inf3 rfl dc rfl ao1 rfl (hr.row) (by rw[ints_length,hr.len];omega) ints_one (by simp only[maxLen];omega) om om (λ_ ao6 ao2 aon _=>?_));have hq:=Blk.gr aon (by simp[Value.ownBlock];omega) hq;have hr:=Dg.gr aon (λad e=>by have:=uhr ad e;simp[Value.ownBlock];omega) hr;have sc:=low_gr sc aon (bz sc) (λg hgg=>by have:=(ao1.lt g hgg).1;omega);have aph:=aon.size;obtain⟨Aw,cw,rfl,hkc,hbw,-,-⟩:=own_form ao2;have hs:Rw ao6 aoy.heap.size Aw (ints (((toB 10 a).getD (i-1) 0)::toB 10 r)):=Rw.of_own ao2;refine clb en119 (hc:=r3trim_ok hs (by rw[List.length_cons,hr.len];omega) hkc om) (hk:=?_);rintro _ ao7 aoo ⟨m1,rfl,ht1,ht2⟩;have hq:=be aoo.2 hq;have hr:=Dg.ext aoo.2 hr;have sc:=xt sc aoo.2;rw[cons10 _ _ hxd]at ht1;have hnew:Dg ao7 (w.heap.size+1) Aw m1 cw (r*10+((toB 10 a).getD (i-1) 0)):=by
  refine⟨?_,?_,by omega⟩
  rw[ht1];have:=((hs.ext aoo.2).take m1).mono (lo':=w.heap.size+1) om;simpa[ints,List.map_take]using this;rw[ht1,List.length_take,List.length_cons,hr.len];omega
 have uhnew:=hnew.hi;rw[ql_zero T hi]at hq;refine go ?_;refine c_lp [(7,7),(27,39)] (λkk e W=>∃c:Nat,∃Ar2:Option Addr,∃nr2:Nat,∃cr2:Nat,∃r2:Nat,(r2=kk)∧(e 7=.slice Ar2 nr2 cr2)∧(c*b+r2=(r*10+((toB 10 a).getD (i-1) 0)))∧(Ext w W)∧(Blk W (w.heap.size) 3 (ints (QL (i-1) (c::T))).toArray)∧(Dg W (w.heap.size+1) Ar2 nr2 cr2 r2)) (((r*10+((toB 10 a).getD (i-1) 0)))) ⟨0,Aw,m1,cw,(r*10+((toB 10 a).getD (i-1) 0)),rfl,rfl,om,sc,hq,hnew⟩ ?_;rintro _ _ _ ⟨c,Ar2,nr2,cr2,r2,rfl,aop,qc,r8,hq,hr2⟩;have apm:=bz r8;by_cases hge:b<=r2;have hqlt:=bt hq;have hcR:r2<=(r*10+((toB 10 a).getD (i-1) 0)):=by have:=Nat.zero_le (c*b);omega
 have hn2:nr2<=n2+1:=len10 hr2.len h2.len om;have hc10:c<10:=c_lt10 qc hrl hxd;refine go ?_;refine clb en114 (hc:=r3order_ok hr2 om (h2.ext r8) om) (hk:=?_);rintro _ _ aos rfl;have hq:=be aos.2 hq;have hr2:=Dg.ext aos.2 hr2;have r8:=xt r8 aos.2;have zq1q:=cmpI_nn hge;refine go ?_;refine clb en113 (hc:=r3minus_ok hr2 om (h2.ext r8) om hge) (hk:=?_);rintro _ _ aot ⟨Am,nm,cm,rfl,hmn⟩;have⟨hq,r8⟩:=be1 aot.2 hq r8;have hmn:=hmn.mono (lo':=w.heap.size+1) om;refine go ?_;refine l_op (k_indexAddr (A:=some ⟨w.heap.size,0,none⟩) (bk:=w.heap.size) (o:=0) (m:=n1) (c:=n1) (i:=i-1) (oo:=i-1) U24 sz3 rfl rfl (pf_int rfl om) om om ?_);refine l_op (k_load (v:=.int .i64 (((QL (i-1) (c::T)).getD (i-1) 0:Nat):Int)) U3 rfl rfl (Blk.cell hq (by rw[List.getElem?_toArray];exact ints_getD (by rw[ql_len,List.length_cons];omega))) ?_);rw[ql_get];refine l_op (k_add (a:=(c:Int)) (b:=1) (c:=((c+1:Nat):Int)) rfl rfl uxRef3 om ?_);refine l_op (k_indexAddr (A:=some ⟨w.heap.size,0,none⟩) (bk:=w.heap.size) (o:=0) (m:=n1) (c:=n1) (i:=i-1) (oo:=i-1) U24 sz3 rfl rfl (pf_int rfl om) om om ?_);refine l_op (k_store (b:=w.heap.size) (o:=i-1) (v:=.int .i64 ((c+1:Nat):Int)) sz3 rfl rfl rfl hq (by rw[List.size_toArray,ints_length];rw[ql_len,List.length_cons];omega) (λ_ aou hq2=>?_));have hmn:=Dg.put aou om hmn;have r8:=plw aou r8;have apt:=psz aou
 have hq:=hq2;rw[ints_set]at hq;refine go ?_;exact lend ⟨c+1,Am,nm,cm,r2-b,rfl,rfl,(by rw[Nat.add_mul];omega),r8,(by rw[ql_set]at hq;exact hq),hmn⟩;have hqlt:=bt hq;have hcR:r2<=(r*10+((toB 10 a).getD (i-1) 0)):=by have:=Nat.zero_le (c*b);omega
 have hn2:nr2<=n2+1:=len10 hr2.len h2.len om;have hc10:c<10:=c_lt10 qc hrl hxd;have uhr2:=hr2.hi;refine go ?_;refine clb en114 (hc:=r3order_ok hr2 om (h2.ext r8) om) (hk:=?_);rintro _ _ aov rfl;have hq:=be aov.2 hq;have hr2:=Dg.ext aov.2 hr2;have r8:=xt r8 aov.2;have zq2q:=cmpI_nl hge;refine go ?_;refine l_op (k_sub (a:=(i:Int)-1) (b:=1) (c:=(((i-1:Nat):Int))-1) rfl rfl uxRef3 om ?_);refine go ?_;exact lend ⟨i-1,c::T,Ar2,nr2,cr2,r2,rfl,rfl,aop,om,(Qin.step (toB_lt 10 om a) (by rw[show i-1+1=i by omega];exact q0) qc om),r8,hq,hr2⟩;have hqlt:=bt hq;have hi00:i=0:=by omega
 rw[hi00]at q0 hq;have hql:=q0.len;obtain⟨hqv,hrv⟩:=q0.fin hb0;rw[h1.val]at hqv hrv;have uhr:=hr.hi;refine go ?_;have hq0:=Rw.of_blk hq (Nat.le_refl _);refine clb en119 (hc:=r3trim_ok hq0 (by rw[ql_len];omega) (Nat.le_refl _) om) (hk:=?_);rintro _ _ aow ⟨mq,rfl,ht1,ht2⟩;have hq:=be aow.2 hq;have hr:=Dg.ext aow.2 hr;have sc:=xt sc aow.2;refine go ?_;exact f_ret2 (t:=4) (u:=5) (v1:=.slice (some ⟨w.heap.size,0,none⟩) mq n1) (v2:=.slice Ar nr cr) rfl sc ⟨_,mq,_,_,_,_,rfl,(Dg.trim (Rw.of_blk hq (Nat.le_refl _)) (by rw[show QL 0 T=T from rfl];exact q0.lt) (by rw[show QL 0 T=T from rfl];exact hqv) ht1 (by rw[ql_len];omega) ht2).mono om,by rw[<-hrv];exact hr.mono om⟩ rfl rfl
end Go.Proofs.YtinldhphnpflaaaGreatDoor
