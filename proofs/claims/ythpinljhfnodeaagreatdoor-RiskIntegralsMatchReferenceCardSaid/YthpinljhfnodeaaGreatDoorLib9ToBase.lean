/- Part of the proof of a statement about risks. -/
import Derived.Shelf.Strings.BuilderK
import Derived.Shelf.Strings.SlTrimAscii
import Derived.Shelf.Strconv.Atoi
import Derived.Shelf.LaysM
import Derived.Shelf.Strconv.Itoa3
import Derived.Shelf.Strings.Prefix
import Derived.Shelf.Strings.Repeat
import Derived.Test.YthpinljhfnodeaaGreatDoorProg
import Derived.WalkKit
import Derived.WalkSpells
import Derived.WalkLawsBesides
import Derived.OrdersIn
import Derived.TacticsIn
import Derived.RangeFuncFrom
import Derived.RangeFuncCalls
import Derived.RangeFuncLeaves
import Derived.Maps.AppendAt
import Derived.Deep.MidRow
import Derived.Laws.OwnMore
import Derived.LoopNIn
import Derived.StillTail
import Derived.KernelRfl
set_option linter.all false
theorem Z.{u}{α:Sort u}{a:α}:a=a:=.refl a
theorem ke5{p:Prop}(h:p:=by simp[hx]):p:=h
theorem ke4{p:Prop}(h:p:=by unfold Fz;omega):p:=h
theorem ke3{p:Prop}(h:p:=by rw[h2.len];omega):p:=h
theorem ke2{p:Prop}(h:p:=by rw[kK];omega):p:=h
theorem ke1{p:Prop}(h:p:=by rw[h]at e;cases e):p:=h
theorem ke0{p:Prop}(h:p:=by have:=A1 i k;omega):p:=h
theorem kd9{p:Prop}(h:p:=by simp[gJ,EL, *]):p:=h
theorem kd8{p:Prop}(h:p:=by simp only[gU];omega):p:=h
theorem kd7{p:Prop}(h:p:=by rw[bR h1,bR h2];rfl):p:=h
theorem kd6{p:Prop}(h:p:=by rw[il (fL h),il (fB h)];rfl):p:=h
theorem kd5{p:Prop}(h:p:=by rw[il (fL h),j7 (fB h)];rfl):p:=h
theorem kd4{p:Prop}(h:p:=by rw[j7 (fL h),il (fB h)];rfl):p:=h
theorem kd3{p:Prop}(h:p:=by decide):p:=h
theorem kd2{p:Prop}(h:p:=by first|rfl|rw[decide_eq_false (show¬p<=12 by omega)]):p:=h
theorem kd1{p:Prop}(h:p:=by simp only[List.mem_singleton];rintro b rfl;exact Av):p:=h
theorem kd0{p:Prop}(h:p:=by simp only[List.mem_singleton];rintro b rfl;exact F6):p:=h
theorem kc9{p:Prop}(h:p:=by rw[decide_eq_true Z];rfl):p:=h
theorem kc8{p:Prop}(h:p:=by rw[EB,ri (hq.symm.trans (decide_eq_true cy))];exact Ar):p:=h
theorem kc7{p:Prop}(h:p:=by first|exact KZ (by assumption)|exact K0 (by assumption)):p:=h
theorem kc6{p:Prop}(h:p:=by rw[EB,rj (hq.symm.trans (decide_eq_false cy))];exact qr):p:=h
theorem kc5{p:Prop}(h:p:=by rw[qr];rfl):p:=h
theorem kc4{p:Prop}(h:p:=by simp[exitTo,hk]):p:=h
theorem kc3{p:Prop}(h:p:=by simpa using Nat.eq_of_beq_eq_true h):p:=h
theorem kc2{p:Prop}(h:p:=by have:=hy.2;unfold Fi;omega):p:=h
theorem kc1{p:Prop}(h:p:=by have:=h.p5;omega):p:=h
theorem kc0{p:Prop}(h:p:=by have:=r1.2;omega):p:=h
theorem kb9{p:Prop}(h:p:=by have:=r2.2;omega):p:=h
theorem kb8{p:Prop}(h:p:=by rw[h1.len];omega):p:=h
theorem kb7{p:Prop}(h:p:=by subst hc;simp[binOp,Op.intArith,mZ hr]):p:=h
theorem kb6{p:Prop}(h:p:=by rw[wL (jD h1.lt _),wrap_u8 (by have:=jD h1.lt (n1-1-k);omega)]):p:=h
theorem kb5{p:Prop}(h:p:=by intro hk;first|omega|(rw[qr])):p:=h
theorem kb4{p:Prop}(h:p:=by first|exact CM az|exact CN az|exact CO az):p:=h
theorem kb3{p:Prop}(h:p:=by subst hq;simp[binOp,Op.intCmp]):p:=h
theorem kb2{p:Prop}(h:p:=by have:=fT1.2;have:=(hR.bd k T4).2;simp only[fE]at *;unfold Fi;omega):p:=h
theorem kb1{p:Prop}(h:p:=by subst hq;simp[binOp,Op.stringOp,S];exact Bool.eq_iff_iff.2 (by simp)):p:=h
theorem kb0{p:Prop}(h:p:=by unfold Pb;decide):p:=h
theorem ka9{p:Prop}(h:p:=by simpa using ho):p:=h
theorem ka8{p:Prop}(h:p:=by first|exact gy dm|exact iE dm qr|exact iF dm qr):p:=h
theorem ka7{p:Prop}(h:p:=by rw[ha.int,hb.int];rfl):p:=h
theorem ka6{p:Prop}(h:p:=by rw[inv.size];exact hl):p:=h
theorem ka5{p:Prop}(h:p:=by grind):p:=h
theorem ka4{p:Prop}(h:p:=by rw[Nat.one_mul];exact hS.fi):p:=h
theorem ka3{p:Prop}(h:p:=by simpa using h):p:=h
theorem ka2{p:Prop}(h:p:=by rw[aw];exact hk _ (bF.alloc _ _) (by simp) (by unfold au;exact heap_alloc_new w _)):p:=h
theorem ka1{p:Prop}(h:p:=by rw[List.size_toArray,eo];rw[gt,List.length_cons];omega):p:=h
theorem ka0{p:Prop}(h:p:=by first|exact Or.inl ⟨by omega,h48⟩|(have:(l).length=1:=by rw[h48];rfl);exact Or.inr ⟨by omega,h48⟩):p:=h
theorem Fm{p:Prop}(h:p:=by rw[dM];exact qb1 ey (by first|exact CM az|exact CN az|exact CO az)):p:=h
theorem Fk{p:Prop}(h:p:=by first|exact Or.inl ⟨by omega,h48⟩|(have:((l).drop 1).length=1:=by rw[h48];rfl);exact Or.inr ⟨by omega,h48⟩):p:=h
theorem Fd{p:Prop}(h:p:=by first|rfl|rw[decide_eq_false (show¬c<=64 by omega)]):p:=h
theorem D0{p:Prop}(h:p:=by first|exact Or.inl U|exact Or.inr ⟨by omega,by omega⟩):p:=h
theorem DS{p:Prop}(h:p:=by intro b hb;simp only[List.mem_cons,List.not_mem_nil,or_false]at hb;rcases hb with rfl|rfl|rfl;exact ZP;exact ZT;exact ZK):p:=h
theorem DQ{p:Prop}(h:p:=by simp only[maxLen];omega):p:=h
theorem DP{p:Prop}(h:p:=by rw[gt,List.length_cons];omega):p:=h
theorem DM{p:Prop}(h:p:=by first|exact uB O ce ce|exact uC O ce ce|exact uD O ce ce|exact uE O ce ce):p:=h
theorem DH{p:Prop}(h:p:=by first|exact sT _ qn dx|exact sU qn dx dx|exact sV qn dx dx|(rw[Ap];exact pj _)):p:=h
theorem DE{p:Prop}(h:p:=by assumption):p:=h
theorem DB{p:Prop}(h:p:=by first|exact It bJ|exact Iu bJ|exact Iw bJ|exact Iy bJ|exact zD bJ bJ bJ bJ bJ):p:=h
theorem DA{p:Prop}(h:p:=by first|exact kw az|exact ky az|exact kA az|exact kB az az az az|exact kD az az az az):p:=h
theorem CT{p:Prop}(h:p:=by first|exact kw aj|exact ky aj|exact kA aj|exact kB aj aj aj aj|exact kD aj aj aj aj):p:=h
theorem CD{p:Prop}(h:p:=by first|exact gz (gY cv cw) W qr.1 qr.2 Ab dm|exact gA (gY cv cw) W qr.1 dm):p:=h
theorem CA{p:Prop}(h:p:=by simp[Value.ownBlock];omega):p:=h
theorem BT{p:Prop}(h:p:=by rw[Nat.mul_one]):p:=h
theorem Bx{p:Prop}(h:p:=by first|exact gz Ab qr qn.1 qn.2 Af eJ|exact gA Ab qr qn.1 eJ|(rw[mK qr];rfl)):p:=h
theorem Th{p:Prop}(h:p:=by rw[aw];exact hk):p:=h
theorem RW{p:Prop}(h:p:=by simp):p:=h
theorem RT{p:Prop}(h:p:=by with_reducible first|exact And.right eQ|assumption):p:=h
theorem RM{p:Prop}(h:p:=by first|exact Or.inr U|exact Or.inl (by simp)):p:=h
theorem RK{p:Prop}(h:p:=by first|exact vd h1.len h2.len U|exact ve h1.len h2.len U|exact pN h1.len h2.len U U q2 U|exact pO h1.len h2.len U U q2 U|exact vg h1.len h2.len U (λi hi=>q2 i U hi)):p:=h
theorem RC{p:Prop}(h:p:=by first|(rw[oD aj];rfl)|(rw[oE aj];rfl)|(rw[iI aj aj aj,jm aj];rfl)|(rw[iI aj aj aj,jn aj];rfl)|(rw[iJ aj aj aj,jm aj];rfl)|(rw[iJ aj aj aj,jn aj];rfl)):p:=h
theorem Rg{p:Prop}(h:p:=by unfold In64;decide):p:=h
theorem Rd{p:Prop}(h:p:=by exact Z):p:=h
theorem Nd{p:Prop}(h:p:=by decide +kernel):p:=h
theorem MT{p:Prop}(h:p:=by simp[Value.oneCell',S]):p:=h
theorem J{p:Prop}(h:p:=by omega):p:=h
theorem L7{p:Prop}(h:p:=by unfold In64;omega):p:=h
theorem KK{p:Prop}(h:p:=by first|exact GR hb am|exact GT hb am|exact GU hb am|exact s8 hb am (dig_lo am)|exact s8 hb am (dig_hi am)|exact GV hb am|exact GW hb O am am am am|(exfalso;omega)):p:=h
theorem GS{p:Prop}(h:p:=by kernel_rfl):p:=h
theorem Hx{p:Prop}(h:p:=by simp;omega):p:=h
def qa0:=@Nat.le_refl
def qa1:=@decide_eq_true
def qa2:=@decide_eq_false
def qa3:=@Nat.le_of_ble_eq_true
def qa4:=@Bool.eq_false_or_eq_true
def qa5:=@List.getElem?_eq_getElem
def qa6:=@List.getElem?_eq_none
def qa7:=@Nat.zero_le
def qa8:=@Nat.le_trans
def qa9:=@List.mem_of_getElem?
def qb0:=@Nat.lt_of_lt_of_le
def qb1:=@congrArg
def qb2:=@List.length_take
def qb3:=@Nat.eq_of_beq_eq_true
def qb4:=@Option.some.inj
def qb5:=@Classical.byContradiction
def qb6:=@Int.natAbs_mul
def qb7:=@Nat.mul_le_mul
namespace Go.Proofs
open Go.Shelf
def Tryz.lays169_ren:Go.Shelf.Ren:=⟨fun |169=>184|n=>n,fun |70=>181|9=>9|0=>0|72=>183|37=>148|127=>227|3=>3|5=>5|n=>n,fun |n=>n⟩
def Tryz.lays169:Go.Proofs.Lays.n169 prog Tryz.lays169_ren:={
 mixed:=by kernel_rfl
 f169:=func184.trans (qb1 some GS)
 t0:=underlying0
 a0:=Tryz.isAgg0
 z0:=Tryz.sizeOf0
 v0:=Tryz.zeroValue0
 t3:=underlying3
 a3:=Tryz.isAgg3
 z3:=Tryz.sizeOf3
 v3:=Tryz.zeroValue3
 t9:=underlying9
 a9:=Tryz.isAgg9
 z9:=Tryz.sizeOf9
 v9:=Tryz.zeroValue9
 t37:=underlying148
 a37:=Tryz.isAgg148
 z37:=Tryz.sizeOf148
 v37:=Tryz.zeroValue148
 t70:=underlying181
 a70:=Tryz.isAgg181
 z70:=Tryz.sizeOf181
 v70:=Tryz.zeroValue181
 t72:=underlying183
 a72:=Tryz.isAgg183
 z72:=Tryz.sizeOf183
 v72:=Tryz.zeroValue183
 t127:=underlying227
 a127:=Tryz.isAgg227
 z127:=Tryz.sizeOf227
 v127:=Tryz.zeroValue227}
def Tryz.Builder_Extra_169:Builder.Extra prog Tryz.lays169_ren:={
 sizeBuilder:=by kernel_rfl
 liesBuilder:=by kernel_rfl
 t5:=underlying5
 a5:=Tryz.isAgg5
 z5:=Tryz.sizeOf5
 v5:=Tryz.zeroValue5
 infoByte:=by kernel_rfl
 cellsByte:=by kernel_rfl
 sizeByte:=by kernel_rfl
 neB5:=by decide}
open Go.RowKit in
def Tryz.Builder_String_any_k (B b:Nat)(l:List UInt8)(w:World)(h:Lib.IsBuilderF 183 5 B b (Lib.byteCells l) w)(hBw:B<=w.heap.size):
 Calls prog 184 #[.pointer (some ⟨b,0,none⟩)] w λe w'=>e=.returned (.string ⟨l.toArray⟩)/\(Lib.IsBuilderF 183 5 B b (Lib.byteCells l) w'/\Below B w w'/\Lib.OthersKept 5 (some b) w w'):=Any.Builder_String_any_k Tryz.lays169 Tryz.Builder_Extra_169 B b l w h hBw
def Tryz.lays172_ren:Go.Shelf.Ren:=⟨fun |172=>222|244=>257|245=>258|247=>277|279=>278|280=>279|281=>280|282=>281|287=>288|316=>289|171=>117|205=>290|321=>296|322=>297|243=>159|246=>191|283=>241|284=>242|285=>243|286=>244|129=>272|317=>271|318=>273|319=>274|320=>275|337=>286|338=>287|n=>n,fun |9=>9|3=>3|75=>134|76=>187|4=>4|5=>5|167=>269|37=>148|0=>0|85=>270|2=>2|168=>272|53=>242|175=>277|46=>196|210=>280|127=>227|145=>293|143=>291|21=>21|171=>241|173=>245|212=>265|51=>247|20=>20|213=>266|232=>288|233=>289|80=>189|n=>n,fun |15=>3|16=>4|17=>1|18=>7|19=>8|n=>n⟩
def Tryz.lays172:Go.Proofs.Lays.n172 prog Tryz.lays172_ren:={
 mixed:=by kernel_rfl
 f129:=func272.trans (qb1 some GS)
 f171:=func117.trans (qb1 some GS)
 f172:=func222.trans (qb1 some GS)
 f205:=func290.trans (qb1 some GS)
 f243:=func159.trans (qb1 some GS)
 f244:=func257.trans (qb1 some GS)
 f245:=func258.trans (qb1 some GS)
 f246:=func191.trans (qb1 some GS)
 f247:=func277.trans (qb1 some GS)
 f279:=func278.trans (qb1 some GS)
 f280:=func279.trans (qb1 some GS)
 f281:=func280.trans (qb1 some GS)
 f282:=func281.trans (qb1 some GS)
 f283:=func241.trans (qb1 some GS)
 f284:=func242.trans (qb1 some GS)
 f285:=func243.trans (qb1 some GS)
 f286:=func244.trans (qb1 some GS)
 f287:=func288.trans (qb1 some GS)
 f316:=func289.trans (qb1 some GS)
 f317:=func271.trans (qb1 some GS)
 f318:=func273.trans (qb1 some GS)
 f319:=func274.trans (qb1 some GS)
 f320:=func275.trans (qb1 some GS)
 f321:=func296.trans (qb1 some GS)
 f322:=func297.trans (qb1 some GS)
 f337:=func286.trans (qb1 some GS)
 f338:=func287.trans (qb1 some GS)
 t0:=underlying0
 a0:=Tryz.isAgg0
 z0:=Tryz.sizeOf0
 v0:=Tryz.zeroValue0
 t2:=underlying2
 a2:=Tryz.isAgg2
 z2:=Tryz.sizeOf2
 v2:=Tryz.zeroValue2
 t3:=underlying3
 a3:=Tryz.isAgg3
 z3:=Tryz.sizeOf3
 v3:=Tryz.zeroValue3
 t4:=underlying4
 a4:=Tryz.isAgg4
 z4:=Tryz.sizeOf4
 v4:=Tryz.zeroValue4
 t5:=underlying5
 a5:=Tryz.isAgg5
 z5:=Tryz.sizeOf5
 v5:=Tryz.zeroValue5
 t9:=underlying9
 a9:=Tryz.isAgg9
 z9:=Tryz.sizeOf9
 v9:=Tryz.zeroValue9
 t20:=underlying20
 a20:=Tryz.isAgg20
 z20:=Tryz.sizeOf20
 v20:=Tryz.zeroValue20
 t21:=underlying21
 a21:=Tryz.isAgg21
 z21:=Tryz.sizeOf21
 v21:=Tryz.zeroValue21
 t37:=underlying148
 a37:=Tryz.isAgg148
 z37:=Tryz.sizeOf148
 v37:=Tryz.zeroValue148
 t46:=underlying196
 a46:=Tryz.isAgg196
 z46:=Tryz.sizeOf196
 v46:=Tryz.zeroValue196
 t51:=underlying247
 a51:=Tryz.isAgg247
 z51:=Tryz.sizeOf247
 v51:=Tryz.zeroValue247
 t53:=underlying242
 a53:=Tryz.isAgg242
 z53:=Tryz.sizeOf242
 v53:=Tryz.zeroValue242
 t75:=underlying134
 a75:=Tryz.isAgg134
 z75:=Tryz.sizeOf134
 v75:=Tryz.zeroValue134
 t76:=underlying187
 a76:=Tryz.isAgg187
 z76:=Tryz.sizeOf187
 v76:=Tryz.zeroValue187
 t85:=underlying270
 a85:=Tryz.isAgg270
 z85:=Tryz.sizeOf270
 v85:=Tryz.zeroValue270
 t127:=underlying227
 a127:=Tryz.isAgg227
 z127:=Tryz.sizeOf227
 v127:=Tryz.zeroValue227
 t143:=underlying291
 a143:=Tryz.isAgg291
 z143:=Tryz.sizeOf291
 v143:=Tryz.zeroValue291
 t145:=underlying293
 a145:=Tryz.isAgg293
 z145:=Tryz.sizeOf293
 v145:=Tryz.zeroValue293
 t167:=underlying269
 a167:=Tryz.isAgg269
 z167:=Tryz.sizeOf269
 v167:=Tryz.zeroValue269
 t168:=underlying272
 a168:=Tryz.isAgg272
 z168:=Tryz.sizeOf272
 v168:=Tryz.zeroValue272
 t171:=underlying241
 a171:=Tryz.isAgg241
 z171:=Tryz.sizeOf241
 v171:=Tryz.zeroValue241
 t173:=underlying245
 a173:=Tryz.isAgg245
 z173:=Tryz.sizeOf245
 v173:=Tryz.zeroValue245
 t175:=underlying277
 a175:=Tryz.isAgg277
 z175:=Tryz.sizeOf277
 v175:=Tryz.zeroValue277
 t210:=underlying280
 a210:=Tryz.isAgg280
 z210:=Tryz.sizeOf280
 v210:=Tryz.zeroValue280
 t212:=underlying265
 a212:=Tryz.isAgg265
 z212:=Tryz.sizeOf265
 v212:=Tryz.zeroValue265
 t213:=underlying266
 a213:=Tryz.isAgg266
 z213:=Tryz.sizeOf266
 t232:=underlying288
 a232:=Tryz.isAgg288
 z232:=Tryz.sizeOf288
 v232:=Tryz.zeroValue288
 t233:=underlying289
 a233:=Tryz.isAgg289
 z233:=Tryz.sizeOf289
 v233:=Tryz.zeroValue289
 g15:=by kernel_rfl
 g16:=by kernel_rfl
 g17:=by kernel_rfl
 g18:=by kernel_rfl
 g19:=by kernel_rfl}
open Go.RowKit in
def Tryz.strconv_Atoi (s:ByteArray)(n:Int)(hl:s.size<=18)(h:Lib.atoi s.data.toList=some n)(w:World):
 Calls prog 222 #[.string s] w λe w'=>e=.returned (.tuple #[.int .i64 n,.nilIface])/\∃t,w'=Lib.bytesWorld w 5 t:=Any.strconv_Atoi Tryz.lays172 s n hl h w
def Tryz.laysM171_ren:Go.Shelf.Ren:=⟨fun |171=>117|243=>159|246=>191|283=>241|284=>242|285=>243|286=>244|129=>272|317=>271|318=>273|319=>274|320=>275|337=>286|338=>287|n=>n,fun |3=>3|9=>9|2=>2|4=>4|171=>241|0=>0|53=>242|37=>148|5=>5|173=>245|212=>265|51=>247|20=>20|213=>266|46=>196|232=>288|233=>289|n=>n,fun |17=>1|18=>7|19=>8|n=>n⟩
def Tryz.laysM171:Go.Proofs.LaysM.n171 prog Tryz.laysM171_ren:={
 mixed:=by kernel_rfl
 f129:=func272.trans (qb1 some GS)
 f171:=func117.trans (qb1 some GS)
 f243:=func159.trans (qb1 some GS)
 f246:=func191.trans (qb1 some GS)
 f283:=func241.trans (qb1 some GS)
 f284:=func242.trans (qb1 some GS)
 f285:=func243.trans (qb1 some GS)
 f286:=func244.trans (qb1 some GS)
 f317:=func271.trans (qb1 some GS)
 f318:=func273.trans (qb1 some GS)
 f319:=func274.trans (qb1 some GS)
 f320:=func275.trans (qb1 some GS)
 f337:=func286.trans (qb1 some GS)
 f338:=func287.trans (qb1 some GS)
 t0:=underlying0
 a0:=Tryz.isAgg0
 z0:=Tryz.sizeOf0
 v0:=Tryz.zeroValue0
 t2:=underlying2
 a2:=Tryz.isAgg2
 z2:=Tryz.sizeOf2
 v2:=Tryz.zeroValue2
 t3:=underlying3
 a3:=Tryz.isAgg3
 z3:=Tryz.sizeOf3
 v3:=Tryz.zeroValue3
 t4:=underlying4
 a4:=Tryz.isAgg4
 z4:=Tryz.sizeOf4
 v4:=Tryz.zeroValue4
 t5:=underlying5
 a5:=Tryz.isAgg5
 z5:=Tryz.sizeOf5
 v5:=Tryz.zeroValue5
 t9:=underlying9
 a9:=Tryz.isAgg9
 z9:=Tryz.sizeOf9
 v9:=Tryz.zeroValue9
 t20:=underlying20
 a20:=Tryz.isAgg20
 z20:=Tryz.sizeOf20
 v20:=Tryz.zeroValue20
 t37:=underlying148
 a37:=Tryz.isAgg148
 z37:=Tryz.sizeOf148
 v37:=Tryz.zeroValue148
 t46:=underlying196
 a46:=Tryz.isAgg196
 z46:=Tryz.sizeOf196
 v46:=Tryz.zeroValue196
 t51:=underlying247
 a51:=Tryz.isAgg247
 z51:=Tryz.sizeOf247
 v51:=Tryz.zeroValue247
 t53:=underlying242
 a53:=Tryz.isAgg242
 z53:=Tryz.sizeOf242
 v53:=Tryz.zeroValue242
 t171:=underlying241
 a171:=Tryz.isAgg241
 z171:=Tryz.sizeOf241
 v171:=Tryz.zeroValue241
 t173:=underlying245
 a173:=Tryz.isAgg245
 z173:=Tryz.sizeOf245
 v173:=Tryz.zeroValue245
 t212:=underlying265
 a212:=Tryz.isAgg265
 z212:=Tryz.sizeOf265
 v212:=Tryz.zeroValue265
 t213:=underlying266
 a213:=Tryz.isAgg266
 z213:=Tryz.sizeOf266
 t232:=underlying288
 a232:=Tryz.isAgg288
 z232:=Tryz.sizeOf288
 v232:=Tryz.zeroValue288
 t233:=underlying289
 a233:=Tryz.isAgg289
 z233:=Tryz.sizeOf289
 v233:=Tryz.zeroValue289
 g17:=by kernel_rfl
 g18:=by kernel_rfl
 g19:=by kernel_rfl
 i0:=by kernel_rfl
 i2:=by kernel_rfl
 i3:=by kernel_rfl
 i4:=by kernel_rfl
 i5:=by kernel_rfl
 i9:=by kernel_rfl
 i20:=by kernel_rfl
 i37:=by kernel_rfl
 i46:=by kernel_rfl
 i51:=by kernel_rfl
 i53:=by kernel_rfl
 i171:=by kernel_rfl
 i173:=by kernel_rfl
 i212:=by kernel_rfl
 i232:=by kernel_rfl
 i233:=by kernel_rfl
 m17:=by kernel_rfl
 m18:=by kernel_rfl
 m19:=by kernel_rfl}
open Go.RowKit Go.Sort Go.Lib in
def Tryz.strconv_Itoa (n : Int)(h0 : -9223372036854775808 ≤ n)(h1 : n ≤ 9223372036854775807)(w : World)(htab : Lib.TabIs prog w "internal/strconv.uint64pow10" .u64 Lib.pow10Tab) :
 Calls prog 117 #[.int .i64 n] w λe w'=>e=.returned (.string ⟨(Lib.itoa n).toArray⟩)/\∃k os,w'=grow (w.drewN k) os:=Any.strconv_Itoa Tryz.laysM171 n h0 h1 w htab
def Tryz.lays101_ren:Go.Shelf.Ren:=⟨fun |101=>74|208=>127|206=>169|n=>n,fun |9=>9|4=>4|3=>3|n=>n,fun |n=>n⟩
def Tryz.lays101:Go.Proofs.Lays.n101 prog Tryz.lays101_ren:={
 mixed:=by kernel_rfl
 f101:=func74.trans (qb1 some GS)
 f206:=func169.trans (qb1 some GS)
 f208:=func127.trans (qb1 some GS)
 t3:=underlying3
 a3:=Tryz.isAgg3
 z3:=Tryz.sizeOf3
 v3:=Tryz.zeroValue3
 t4:=underlying4
 a4:=Tryz.isAgg4
 z4:=Tryz.sizeOf4
 v4:=Tryz.zeroValue4
 t9:=underlying9
 a9:=Tryz.isAgg9
 z9:=Tryz.sizeOf9
 v9:=Tryz.zeroValue9}
open Go.RowKit Go.Lib in
def Tryz.strings_TrimPrefix (s p:ByteArray)(w:World):
 Calls prog 74 #[.string s,.string p] w λe w'=>e=.returned (.string ⟨(Lib.trimPrefix s.data.toList p.data.toList).toArray⟩)/\w'=w:=Any.strings_TrimPrefix Tryz.lays101 s p w
def Tryz.lays105_ren:Go.Shelf.Ren:=⟨fun |105=>160|212=>192|99=>123|165=>193|166=>183|170=>194|169=>184|263=>245|264=>246|206=>169|240=>224|241=>247|276=>259|277=>276|n=>n,fun |9=>9|3=>3|4=>4|20=>20|0=>0|46=>196|109=>197|5=>5|72=>183|76=>187|51=>247|146=>248|53=>242|148=>250|70=>181|37=>148|75=>134|127=>227|164=>256|80=>189|n=>n,fun |n=>n⟩
def Tryz.lays105:Go.Proofs.Lays.n105 prog Tryz.lays105_ren:={
 mixed:=by kernel_rfl
 f99:=func123.trans (qb1 some GS)
 f105:=func160.trans (qb1 some GS)
 f165:=func193.trans (qb1 some GS)
 f166:=func183.trans (qb1 some GS)
 f169:=func184.trans (qb1 some GS)
 f170:=func194.trans (qb1 some GS)
 f206:=func169.trans (qb1 some GS)
 f212:=func192.trans (qb1 some GS)
 f240:=func224.trans (qb1 some GS)
 f241:=func247.trans (qb1 some GS)
 f263:=func245.trans (qb1 some GS)
 f264:=func246.trans (qb1 some GS)
 f276:=func259.trans (qb1 some GS)
 f277:=func276.trans (qb1 some GS)
 t0:=underlying0
 a0:=Tryz.isAgg0
 z0:=Tryz.sizeOf0
 v0:=Tryz.zeroValue0
 t3:=underlying3
 a3:=Tryz.isAgg3
 z3:=Tryz.sizeOf3
 v3:=Tryz.zeroValue3
 t4:=underlying4
 a4:=Tryz.isAgg4
 z4:=Tryz.sizeOf4
 v4:=Tryz.zeroValue4
 t5:=underlying5
 a5:=Tryz.isAgg5
 z5:=Tryz.sizeOf5
 v5:=Tryz.zeroValue5
 t9:=underlying9
 a9:=Tryz.isAgg9
 z9:=Tryz.sizeOf9
 v9:=Tryz.zeroValue9
 t20:=underlying20
 a20:=Tryz.isAgg20
 z20:=Tryz.sizeOf20
 v20:=Tryz.zeroValue20
 t37:=underlying148
 a37:=Tryz.isAgg148
 z37:=Tryz.sizeOf148
 v37:=Tryz.zeroValue148
 t46:=underlying196
 a46:=Tryz.isAgg196
 z46:=Tryz.sizeOf196
 v46:=Tryz.zeroValue196
 t51:=underlying247
 a51:=Tryz.isAgg247
 z51:=Tryz.sizeOf247
 v51:=Tryz.zeroValue247
 t53:=underlying242
 a53:=Tryz.isAgg242
 z53:=Tryz.sizeOf242
 v53:=Tryz.zeroValue242
 t70:=underlying181
 a70:=Tryz.isAgg181
 z70:=Tryz.sizeOf181
 v70:=Tryz.zeroValue181
 t72:=underlying183
 a72:=Tryz.isAgg183
 z72:=Tryz.sizeOf183
 v72:=Tryz.zeroValue183
 t75:=underlying134
 a75:=Tryz.isAgg134
 z75:=Tryz.sizeOf134
 v75:=Tryz.zeroValue134
 t76:=underlying187
 a76:=Tryz.isAgg187
 z76:=Tryz.sizeOf187
 v76:=Tryz.zeroValue187
 t109:=underlying197
 a109:=Tryz.isAgg197
 z109:=Tryz.sizeOf197
 v109:=Tryz.zeroValue197
 t127:=underlying227
 a127:=Tryz.isAgg227
 z127:=Tryz.sizeOf227
 v127:=Tryz.zeroValue227
 t146:=underlying248
 a146:=Tryz.isAgg248
 z146:=Tryz.sizeOf248
 v146:=Tryz.zeroValue248
 t148:=underlying250
 a148:=Tryz.isAgg250
 z148:=Tryz.sizeOf250
 v148:=Tryz.zeroValue250
 t164:=underlying256
 a164:=Tryz.isAgg256
 z164:=Tryz.sizeOf256
 v164:=Tryz.zeroValue256}
def Tryz.Builder_Extra_105:Builder.Extra prog Tryz.lays105_ren:={
 sizeBuilder:=by kernel_rfl
 liesBuilder:=by kernel_rfl
 t5:=underlying5
 a5:=Tryz.isAgg5
 z5:=Tryz.sizeOf5
 v5:=Tryz.zeroValue5
 infoByte:=by kernel_rfl
 cellsByte:=by kernel_rfl
 sizeByte:=by kernel_rfl
 neB5:=by decide}
open Go.RowKit Go.Lib in
def Tryz.strings_Repeat (s:ByteArray)(c:Nat)(w:World)(hc:c<=9223372036854775807)(hlen:s.size*c<=140737488355328):
 Calls prog 160 #[.string s,.int .i64 c] w λe w'=>e=.returned (.string ⟨(Lib.repeatL s.data.toList c).toArray⟩)/\Below w.heap.size w w':=Any.strings_Repeat Tryz.lays105 Tryz.Builder_Extra_105 s c w hc hlen
def Tryz.lays160_ren:Go.Shelf.Ren:=⟨fun |160=>189|232=>235|231=>234|227=>236|234=>238|233=>237|236=>240|235=>239|228=>267|271=>270|151=>269|197=>268|120=>285|152=>284|260=>283|137=>292|119=>293|224=>294|225=>295|217=>298|266=>299|n=>n,fun |9=>9|4=>4|3=>3|5=>5|117=>237|116=>236|0=>0|124=>240|21=>21|105=>261|46=>196|119=>282|139=>285|138=>284|n=>n,fun |3=>5|4=>6|n=>n⟩
def Tryz.lays160:Go.Proofs.Lays.n160 prog Tryz.lays160_ren:={
 mixed:=by kernel_rfl
 f119:=func293.trans (qb1 some GS)
 f120:=func285.trans (qb1 some GS)
 f137:=func292.trans (qb1 some GS)
 f151:=func269.trans (qb1 some GS)
 f152:=func284.trans (qb1 some GS)
 f160:=func189.trans (qb1 some GS)
 f197:=func268.trans (qb1 some GS)
 f217:=func298.trans (qb1 some GS)
 f224:=func294.trans (qb1 some GS)
 f225:=func295.trans (qb1 some GS)
 f227:=func236.trans (qb1 some GS)
 f228:=func267.trans (qb1 some GS)
 f231:=func234.trans (qb1 some GS)
 f232:=func235.trans (qb1 some GS)
 f233:=func237.trans (qb1 some GS)
 f234:=func238.trans (qb1 some GS)
 f235:=func239.trans (qb1 some GS)
 f236:=func240.trans (qb1 some GS)
 f260:=func283.trans (qb1 some GS)
 f266:=func299.trans (qb1 some GS)
 f271:=func270.trans (qb1 some GS)
 t0:=underlying0
 a0:=Tryz.isAgg0
 z0:=Tryz.sizeOf0
 v0:=Tryz.zeroValue0
 t3:=underlying3
 a3:=Tryz.isAgg3
 z3:=Tryz.sizeOf3
 v3:=Tryz.zeroValue3
 t4:=underlying4
 a4:=Tryz.isAgg4
 z4:=Tryz.sizeOf4
 v4:=Tryz.zeroValue4
 t5:=underlying5
 a5:=Tryz.isAgg5
 z5:=Tryz.sizeOf5
 v5:=Tryz.zeroValue5
 t9:=underlying9
 a9:=Tryz.isAgg9
 z9:=Tryz.sizeOf9
 v9:=Tryz.zeroValue9
 t21:=underlying21
 a21:=Tryz.isAgg21
 z21:=Tryz.sizeOf21
 v21:=Tryz.zeroValue21
 t46:=underlying196
 a46:=Tryz.isAgg196
 z46:=Tryz.sizeOf196
 v46:=Tryz.zeroValue196
 t105:=underlying261
 a105:=Tryz.isAgg261
 z105:=Tryz.sizeOf261
 v105:=Tryz.zeroValue261
 t116:=underlying236
 a116:=Tryz.isAgg236
 z116:=Tryz.sizeOf236
 t117:=underlying237
 a117:=Tryz.isAgg237
 z117:=Tryz.sizeOf237
 v117:=Tryz.zeroValue237
 t119:=underlying282
 a119:=Tryz.isAgg282
 z119:=Tryz.sizeOf282
 t124:=underlying240
 a124:=Tryz.isAgg240
 z124:=Tryz.sizeOf240
 v124:=Tryz.zeroValue240
 t138:=underlying284
 a138:=Tryz.isAgg284
 z138:=Tryz.sizeOf284
 v138:=Tryz.zeroValue284
 t139:=underlying285
 a139:=Tryz.isAgg285
 z139:=Tryz.sizeOf285
 v139:=Tryz.zeroValue285
 g3:=by kernel_rfl
 g4:=by kernel_rfl}
end Go.Proofs
namespace Go.Eng
open Go Go.RowKit
variable {xs:Array Operand}{ats:Array TypeId}{args cs tmps:Array Value}{q:Bool}{f:FuncId}{ds:List Deferred}{l:List UInt8}{vs vf vc lb:List Value}{d i n c o size bytes lo' s k oo m N j sz u M:Nat}{e e1 e':Nat->Value}{x:Operand}{A:Option Addr}{P:Program}{D:TypeDesc}{t el et ty:TypeId}{v X Y v1 v2 v3:Value}{w w' w0 w'':World}
def upd (e:Nat->Value)(d:Nat)(v:Value):Nat->Value:=λi=>match Nat.beq i d with|true=>v|false=>e i
def jg (e:Nat->Value)(d:Nat)(v:Value):upd e d v d=v:=by simp[upd]
def upd_ne (e:Nat->Value)(v:Value)(h:i≠d):upd e d v i=e i:=by
 have:Nat.beq i d=false:=by
  cases hb:Nat.beq i d with
  |false=>rfl
  |true=>exact absurd (qb3 hb) h
 simp[upd,this]
def act (N:Nat)(e:Nat->Value)(ds:List Deferred):Act:=⟨Array.ofFn (n:=N) λi=>e i,ds⟩
def ev (N:Nat)(e:Nat->Value):Operand->Value
 | .tmp t=>match Nat.blt t N with|true=>e t|false=>undef
 | .const v=>v
 | .global g=>.pointer (some ⟨g,0,none⟩)
 | .func f=>.func (.func f) #[] #[]
def dI (N:Nat)(e:Nat->Value)(ds:List Deferred):(act N e ds).eval=ev N e:=by
 funext x
 cases x with
 | tmp t=>
   by_cases h:t<N
   · have:Nat.blt t N=true:=by simpa[Nat.blt_eq]using h
     simp[act,Act.eval,ev,this,h]
   · have:Nat.blt t N=false:=by
      cases hb:Nat.blt t N with
      |false=>rfl
      |true=>exact absurd (by simpa[Nat.blt_eq]using hb) h
     simp[act,Act.eval,ev,this,h]
 |const v=>rfl
 |global g=>rfl
 |func f=>rfl
def aw (N:Nat)(e:Nat->Value)(ds:List Deferred)(d:Nat)(v:Value):(act N e ds).put (some d) v=act N (upd e d v) ds:=by
 simp only[act,Act.put,Act.mk.injEq,and_true]
 apply Array.ext
 · simp
 · intro i _ h2
   have h3:i<N:=by simpa using h2
   by_cases h:d=i
   · subst h;simp[jg]
   · rw[Array.getElem_setIfInBounds_ne (by simpa using h3) h];simp[upd_ne e v (Ne.symm h)]
def ai {α:Type}{a b:α}{l m:List α}(h:a=b)(t:l=m):a::l=b::m:=by rw[h,t]
def aK {α β:Type}{i:β}{a b:α}{l m:List (β×α)}(h:a=b)(t:l=m):(i,a)::l=(i,b)::m:=by rw[h,t]
def Fw:Option Nat->Fence
 |none=>Fence.wide
 |some l=>Fence.wide.inRound l
def l8 (r:Option Nat)(f:FuncId):(Fw r).fn f:=by cases r <;>exact trivial
def oO (r:Option Nat):(Fw r).depth=none:=by cases r <;>rfl
def tu (r:Option Nat):(Fw r).round=r:=by cases r <;>rfl
def tv {r:Option Nat}{R:Ending->World->Prop}(h:Calls P f args w R):CallsIn (Fw r) n P f args w R:=by
 cases r with
 |none=>exact callsIn_wide.2 h
 |some l=>exact CallsIn.inRound l (callsIn_wide.2 h)
def tz {R:Ending->World->Prop}(h:CallsIn (Fw none) n P f args w R):Calls P f args w R:=callsIn_wide.1 h
def bF (w w':World):Prop:=Below w.heap.size w w'
def bF.refl (w:World):bF w w:=Below.refl _ w
def aa2:=@bF.refl
def bF.trans {a b c:World}(h:bF a b)(k:bF b c):bF a c:=Below.trans h (Below.mono k h.size)
def ac4:=@bF.trans
def bF.alloc (w:World)(o:Obj):bF w (w.alloc o):=(Below.refl _ w).alloc (qa0 _) o
def bF.drew (w:World):bF w w.drew:=(Below.refl _ w).drew
def aa8:=@bF.drew
def bF.heap (h:bF w w'){b:Nat}{o:Obj}(ho:w.heap[b]?=some o):w'.heap[b]?=some o:=
 (h.block b (Array.getElem?_eq_some_iff.1 ho).1).trans ho
def bF.cell (h:bF w w'){a:Addr}(hv:w.cell? a=some v):w'.cell? a=some v:=
 (Below.cell h (World.block_lt_of_cell? w a hv)).trans hv
def ac1:=@bF.cell
def aC (w:World)(R:Value->World->Prop):Ending->World->Prop
 | .returned v,w'=>bF w w'/\R v w'
 |_,_=>False
variable {r:Option Nat}{Q:Exit->Act->World->Prop}{K:Act->World->Prop}
def sK:Op->Bool
 | .defer _=>false
 |_=>true
def kP {o:Oper}(h:sK o.op=true)(ρ:Operand->Value):Oper.semAt (Fw r).round ρ o=execOp ρ o:=by
 rw[tu]
 cases r with
 |none=>exact Oper.semAt_none _ _
 |some l=>exact Oper.semAt_some l ρ o (λc hc=>by rw[hc]at h;cases h)
def dG {o:Oper}(hd:sK o.op=true)(hr:(execOp (ev N e) o).run P w=.ok (.value v) w')(hk:K ((act N e ds).put o.dst v) w'):o.wpIn (Fw r) n P (act N e ds) w K Q:=by
 refine⟨λf _=>l8 r f,?_⟩
 rw[kP hd,dI,hr]
 exact hk
def xg {o:Oper}(hd:sK o.op=true)(hr:(execOp (ev N e) o).run P w=.ok .skip w')(hk:K ((act N e ds).put o.dst undef) w'):o.wpIn (Fw r) n P (act N e ds) w K Q:=by
 refine⟨λf _=>l8 r f,?_⟩
 rw[kP hd,dI,hr]
 exact hk
def xi {o:Oper}{R:Value->World->Prop}(hd:sK o.op=true)(hr:(execOp (ev N e) o).run P w=.ok (.enter f args) w)(hc:Calls P f args w (aC w R))(hk:∀v w',bF w w'->R v w'->K ((act N e ds).put o.dst v) w'):o.wpIn (Fw r) n P (act N e ds) w K Q:=by
 refine⟨λf _=>l8 r f,?_⟩
 rw[kP hd,dI,hr]
 refine⟨(λh=>by rw[oO]at h;cases h),tv (hc.mono ?_)⟩
 intro e' w' h
 cases e' with
 |returned v=>exact hk v w' h.1 h.2
 |panicked c=>exact h.elim
 |outgrown=>exact h.elim
section ops
variable {ty:Nat}{pos:String}{af:Array Edge}{g:Option (Nat×Bool)}{u:Value}{y:Operand}
def di (hx:ev N e x=v)(hk:K (act N (upd e d v) ds) w):Oper.wpIn (Fw r) n P ⟨some d,.move x,ty,pos,af,g⟩ (act N e ds) w K Q:=
 dG (v:=v) (w':=w) Z (by subst hx;rfl) Th
def bO (hx:ev N e x=v)(hk:K (act N (upd e d v) ds) w):Oper.wpIn (Fw r) n P ⟨some d,.assign x,ty,pos,af,g⟩ (act N e ds) w K Q:=
 dG (v:=v) (w':=w) Z (by subst hx;rfl) Th
end ops
def gK (P:Program)(t:TypeId)(z:Value)(size bytes:Nat):Prop:=(P.info? t).map (λi=>(i.zero,i.size,i.bytes))=some (some z,size,bytes)
def gK.parts {z:Value}(h:gK P t z size bytes):∃i,P.info? t=some i/\i.zero=some z/\i.size=size/\i.bytes=bytes:=by
 unfold gK at h
 cases hi:P.info? t with
 |none=>rw[hi]at h;cases h
 | some i=>
   rw[hi]at h
   simp only[Option.map_some,Option.some.injEq,Prod.mk.injEq]at h
   exact⟨i,rfl,h.1,h.2.1,h.2.2⟩
def au (w:World)(b:Nat)(t:TypeId)(cs:Array Value):Prop:=w.heap[b]?=some (.cells cs t (0,0))
def au.lt {b:Nat}(h:au w b t cs):b<w.heap.size:=(Array.getElem?_eq_some_iff.1 h).1
def au.ext {b:Nat}(k:bF w w')(h:au w b t cs):au w' b t cs:=k.heap h
def au.cell {b:Nat}(h:au w b t cs)(hv:cs[o]?=some v):w.cell? ⟨b,o,none⟩=some v:=by
 unfold au at h
 simp only[World.cell?,h]
 simpa using hv
def aa9:=@au.cell
def au.frozen {b:Nat}(h:au w b t cs)(o:Nat):w.frozen? ⟨b,o,none⟩=false:=by
 unfold au at h
 simp[World.frozen?,h]
structure fU (w w':World)(b:Nat):Prop where
 os:w'.os=w.os
 tape:w'.tape=w.tape
 output:w'.output=w.output
 size:w'.heap.size=w.heap.size
 block:∀k,k≠b->w'.heap[k]?=w.heap[k]?
def fU.low {B b:Nat}(k:fU w w' b)(h:Below B w0 w)(hb:B<=b):Below B w0 w':=
 ⟨k.os.trans h.os,k.tape.trans h.tape,k.output.trans h.output,by rw[k.size];exact h.size,λi hi=>(k.block i J).trans (h.block i hi)⟩
def fU.blk {b:Nat}(k:fU w w' b)(hne:c≠b)(h:au w c t cs):au w' c t cs:=(k.block c hne).trans h
def aa6:=@fU.blk
def fU.cell {b:Nat}(k:fU w w' b){a:Addr}(hne:a.block≠b):w'.cell? a=w.cell? a:=World.cell?_of_block (k.block _ hne)
def fU.refl (w:World)(b:Nat):fU w w b:=⟨rfl,rfl,rfl,rfl,λ_ _=>rfl⟩
def fU.trans {b:Nat}(h:fU w w' b)(k:fU w' w'' b):fU w w'' b:=
 ⟨k.os.trans h.os,k.tape.trans h.tape,k.output.trans h.output,k.size.trans h.size,λi hi=>(k.block i hi).trans (h.block i hi)⟩
def rA {b:Nat}(v:Value):fU w (w.setCell ⟨b,o,none⟩ v) b:=
 ⟨rfl,rfl,rfl,by simp,λk hk=>Below.heap_setCell w ⟨b,o,none⟩ v k hk⟩
def rB {b:Nat}(h:au w b t cs)(v:Value):au (w.setCell ⟨b,o,none⟩ v) b t (cs.setIfInBounds o v):=by
 unfold au at h ⊢
 simp[World.setCell,Array.getElem?_modify,h]
structure Rw (w:World)(lo:Nat)(A:Option Addr)(cs:List Value):Prop where
 cells:∀j u,cs[j]?=some u->∃b o,A=some ⟨b,o,none⟩/\w.cell? ⟨b,o+j,none⟩=some u
 lo:∀ad,A=some ad->lo<=ad.block
 hi:∀ad,A=some ad->ad.block<w.heap.size
section rows
variable {lo B:Nat}{cs:List Value}
def Rw.ext (k:bF w w')(h:Rw w lo A cs):Rw w' lo A cs:=
 ⟨λj u hu=>by obtain⟨b,o,hA,hc⟩:=h.cells j u hu;exact⟨b,o,hA,k.cell hc⟩,h.lo,λO hA=>qb0 (h.hi O hA) k.size⟩
def Rw.put {b:Nat}(k:fU w w' b)(hb:b<lo)(h:Rw w lo A cs):Rw w' lo A cs:=
 ⟨λj u hu=>by
  obtain⟨c,o,hA,hc⟩:=h.cells j u hu
  have:=h.lo _ hA
  exact⟨c,o,hA,(k.cell (by simp at this ⊢;omega)).trans hc⟩,h.lo,λO hA=>by rw[k.size];exact h.hi O hA⟩
def Rw.nil (w:World)(lo:Nat):Rw w lo none []:=⟨λj u hu=>by simp at hu,(λO h=>by cases h),(λO h=>by cases h)⟩
def Rw.mono (hl:lo'<=lo)(h:Rw w lo A cs):Rw w lo' A cs:=⟨h.cells,λO hA=>qa8 hl (h.lo O hA),h.hi⟩
def Rw.take (k:Nat)(h:Rw w lo A cs):Rw w lo A (cs.take k):=
 ⟨λj u hu=>h.cells j u (by rw[List.getElem?_take]at hu;split at hu <;>simp_all),h.lo,h.hi⟩
end rows
section ops
variable {r:Option Nat}{Q:Exit->Act->World->Prop}{K:Act->World->Prop}
variable {ty:Nat}{pos:String}{af:Array Edge}{g:Option (Nat×Bool)}{u:Value}{y:Operand}
def tA {c a b:Operand}{t:Bool}(hc:ev N e c=.bool t)(hv:(if t then ev N e a else ev N e b)=v)(hk:K (act N (upd e d v) ds) w):
 Oper.wpIn (Fw r) n P ⟨some d,.pick c a b,ty,pos,af,g⟩ (act N e ds) w K Q:=
 dG (v:=v) (w':=w) Z (by simp[execOp,hc,asBool,hv]) Th
theorem L5 {z:Value}{b:Nat}(hi:gK P t z s b)(hk:∀w',bF w w'->w'.heap.size=w.heap.size+1->au w' w.heap.size t z.cells->K (act N (upd e d (.pointer (some ⟨w.heap.size,0,none⟩))) ds) w'):
 Oper.wpIn (Fw r) n P ⟨some d,.alloc t,ty,pos,af,g⟩ (act N e ds) w K Q:=by
 obtain⟨i,h1,h2,_,_⟩:=hi.parts
 refine dG (v:=.pointer (some ⟨w.heap.size,0,none⟩)) (w':=w.alloc (.cells z.cells t)) rfl ?_ (by rw[aw];exact hk _ (bF.alloc _ _) (by simp) (by unfold au;exact heap_alloc_new w _))
 simp[execOp,Instr.alloc,zeroValue,typeInfo,h1,h2,newVar,newRow]
theorem TN (hx:ev N e x=v)(hk:∀w',bF w w'->w'.heap.size=w.heap.size+1->au w' w.heap.size t v.cells->K (act N (upd e d (.pointer (some ⟨w.heap.size,0,none⟩))) ds) w'):
 Oper.wpIn (Fw r) n P ⟨some d,.box t x,ty,pos,af,g⟩ (act N e ds) w K Q:=by
 refine dG (v:=.pointer (some ⟨w.heap.size,0,none⟩)) (w':=w.alloc (.cells v.cells t)) rfl ?_ (by rw[aw];exact hk _ (bF.alloc _ _) (by simp) (by unfold au;exact heap_alloc_new w _))
 subst hx
 simp[execOp,Instr.box,newVar,newRow]
def bP {b:Nat}(hu:P.underlying t=some D)(hd:D.isRow=false)(hx:ev N e x=.pointer (some ⟨b,o,none⟩))(hc:w.cell? ⟨b,o,none⟩=some v)(hk:K (act N (upd e d v) ds) w):Oper.wpIn (Fw r) n P ⟨some d,.load t x,ty,pos,af,g⟩ (act N e ds) w K Q:=by
 refine dG (v:=v) (w':=w) Z ?_ Th
 have O:(isAgg t).run P w=.ok false w:=by
  unfold isAgg
  rw[Sem.run_bind,run_underlying hu w]
  cases D <;>simp_all
 simp[execOp,hx,Instr.loadAt,Instr.sureAddr,loadVar,O,hc]
def ar {b:Nat}{cs:List Value}(hu:P.underlying t=some D)(hd:D.isRow=true)(hi:(P.info? t).map (·.size)=some cs.length)(hx:ev N e x=.pointer (some ⟨b,o,none⟩))(hc:∀j u,cs[j]?=some u->w.cell? ⟨b,o+j,none⟩=some u)(hk:K (act N (upd e d (.agg cs.toArray)) ds) w):
 Oper.wpIn (Fw r) n P ⟨some d,.load t x,ty,pos,af,g⟩ (act N e ds) w K Q:=by
 refine dG (v:=.agg cs.toArray) (w':=w) Z ?_ Th
 simp[execOp,hx,run_loadAt_mid w b o t cs D hc hu hd hi]
def eG {tb:TypeId}{b:Nat}(hi:(P.info? t).map (·.size)=some 1)(hx:ev N e x=.pointer (some ⟨b,o,none⟩))(hy:ev N e y=v)(h1:v.oneCell'=true)(hb:au w b tb cs)(ho:o<cs.size)(hk:∀w',fU w w' b->au w' b tb (cs.setIfInBounds o v)->K (act N e ds) w'):
 Oper.wpIn (Fw r) n P ⟨none,.store t x y,ty,pos,af,g⟩ (act N e ds) w K Q:=by
 refine xg (w':=w.setCell ⟨b,o,none⟩ v) Z ?_ (hk _ (rA v) (rB hb v))
 have hc:w.cell? ⟨b,o,none⟩=some cs[o]:=hb.cell (Array.getElem?_eq_getElem ho)
 have hs:=run_store P w ⟨b,o,none⟩ v .plain h1
 rw[hc,hb.frozen]at hs
 simp only[Bool.false_eq_true,if_false]at hs
 have hcells:v.cells=#[v]:=by cases v <;>first|rfl|(simp[Value.oneCell']at h1;done)
 cases hq:P.info? t with
 |none=>simp[hq]at hi
 | some i=>
   simp[hq]at hi
   subst hy
   simp[execOp,hx,Instr.storeAt,Instr.sureAddr,storeVar,sizeOf,typeInfo,hq,hi,hcells,storeCells,Addr.add_mid,hs]
def ak {fs:Array Field}{f:Field}{b off:Nat}(hu:P.underlying t=some (.struct fs))(hf:fs[k]? =some f)(ho:f.offset=off)(hs:(P.info? f.type).map (·.size)=some (m+1))(hoo:o+off=oo)(hx:ev N e x=.pointer (some ⟨b,o,none⟩))(hk:K (act N (upd e d (.pointer (some ⟨b,oo,none⟩))) ds) w):
 Oper.wpIn (Fw r) n P ⟨some d,.fieldAddr t x k,ty,pos,af,g⟩ (act N e ds) w K Q:=by
 refine dG (v:=.pointer (some ⟨b,oo,none⟩)) (w':=w) Z ?_ Th
 subst ho hoo
 cases hq:P.info? f.type with
 |none=>simp[hq]at hs
 | some i=>
   simp[hq]at hs
   simp[execOp,hx,Instr.fieldAt,run_underlying hu,hf,Instr.sureAddr,fieldPlace,sizeOf,typeInfo,hq,hs,Addr.add_mid]
def au.cells {b:Nat}(h:au w b t cs)(hv:(cs.toList.drop i).take vs.length=vs):∀j u,vs[j]?=some u->w.cell? ⟨b,i+j,none⟩=some u:=by
 intro j u hu
 refine h.cell ?_
 have O:j<vs.length:=(List.getElem?_eq_some_iff.1 hu).1
 rw[<-hv,List.getElem?_take,if_pos O,List.getElem?_drop]at hu
 simpa using hu
def aa1:=@au.cells
def oP {b:Nat}:∀(vs:List Value) (o:Nat) (w:World),fU w (w.setCells b o vs) b
 |[],o,w=>by simpa[World.setCells]using fU.refl w b
 | v::vs,o,w=>by
   have h1:fU w (w.setCell ⟨b,o,none⟩ v) b:=rA v
   have:=h1.trans (oP vs (o+1) _)
   simpa[World.setCells]using this
def putCells:Array Value->Nat->List Value->Array Value
 |cs,_,[]=>cs
 |cs,o,v::vs=>putCells (cs.setIfInBounds o v) (o+1) vs
def oQ {b:Nat}{t:TypeId}:∀(vs:List Value) (o:Nat) (w:World) (cs:Array Value),au w b t cs->au (w.setCells b o vs) b t (putCells cs o vs)
 |[],o,w,cs,h=>by simpa[World.setCells,putCells]using h
 | v::vs,o,w,cs,h=>by
   have:=oQ vs (o+1) _ _ (rB (o:=o) h v)
   simpa[World.setCells,putCells]using this
def bg {tb:TypeId}{b:Nat}(hi:(P.info? t).map (·.size)=some vs.length)(hx:ev N e x=.pointer (some ⟨b,o,none⟩))(hy:ev N e y=.agg vs.toArray)(h1:∀v∈vs,v.oneCell'=true)(hb:au w b tb cs)(ho:o+vs.length<=cs.size)(hk:∀w',fU w w' b->au w' b tb (putCells cs o vs)->K (act N e ds) w'):
 Oper.wpIn (Fw r) n P ⟨none,.store t x y,ty,pos,af,g⟩ (act N e ds) w K Q:=by
 refine xg (w':=w.setCells b o vs) Z ?_ (hk _ (oP vs o w) (oQ vs o w cs hb))
 have qr:w.there b o vs.toArray.size:=by
  intro j O
  have hj':j<vs.length:=by simpa using O
  have h2:o+j<cs.size:=J
  exact⟨by rw[hb.cell (Array.getElem?_eq_getElem h2)];rfl,hb.frozen _⟩
 have hs:=run_storeAt_mid (P:=P) w b o t vs.toArray qr (by simpa using hi) (all_oneCell_toArray h1)
 simp[execOp,hx,hy,hs]
def TO {D:TypeId}(hu:P.underlying t=some (.slice D))(hx:ev N e x=.slice A m c)(hk:K (act N (upd e d (.int .i64 m)) ds) w):
 Oper.wpIn (Fw r) n P ⟨some d,.call {callee:=.builtin .len,args:=#[x],argTypes:=#[t]},ty,pos,af,g⟩ (act N e ds) w K Q:=by
 refine dG (v:=.int .i64 m) (w':=w) Z ?_ Th
 simp[execOp,resolve,invoke,builtin,Builtin.len_,run_underlying hu,hx,goInt]
def cY (hu:P.underlying t=some .string)(hx:ev N e x=.string ⟨l.toArray⟩)(hk:K (act N (upd e d (.int .i64 ((l.length:Nat):Int))) ds) w):
 Oper.wpIn (Fw r) n P ⟨some d,.call {callee:=.builtin .len,args:=#[x],argTypes:=#[t]},ty,pos,af,g⟩ (act N e ds) w K Q:=by
 refine dG (v:=.int .i64 l.length) (w':=w) Z ?_ Th
 have O:(ByteArray.mk l.toArray).size=l.length:=by simp[ByteArray.size]
 simp[execOp,resolve,invoke,builtin,Builtin.len_,run_underlying hu,hx,goInt,O]
end ops
def db {k:IntKind}{a b:Int}(h:ev N e x=.int k a)(hb:a=b):ev N e x=.int k b:=by rw[h,hb]
section ops2
variable {r:Option Nat}{Q:Exit->Act->World->Prop}{K:Act->World->Prop}
variable {ty:Nat}{pos:String}{af:Array Edge}{g:Option (Nat×Bool)}{u:Value}{y:Operand}{t':TypeId}{a b:Int}{k:IntKind}
def In64 (a:Int):Prop:=-9223372036854775808<=a/\a<=9223372036854775807
def mZ {a:Int}(h:In64 a):IntKind.i64.wrap a=a:=IntWalk.i64_in a h
def fV {op:BinOp}(hx:ev N e x=X)(hy:ev N e y=Y)(hg:(eqGuard op t x y X Y).run P w=.ok () w)(hr:(binOp op t X Y).run P w=.ok v w)(hk:K (act N (upd e d v) ds) w):Oper.wpIn (Fw r) n P ⟨some d,.binOp op t x y t',ty,pos,af,g⟩ (act N e ds) w K Q:=by
 refine dG (v:=v) (w':=w) Z ?_ Th
 simp[execOp,hx,hy,hg,hr]
def dL {op:BinOp}(x y:Operand)(k k':IntKind)(a b:Int):(eqGuard op t x y (.int k a) (.int k' b)).run P w=.ok () w:=by
 unfold eqGuard
 cases op <;>simp
def qC {op:BinOp}(x y:Operand)(a b:ByteArray):(eqGuard op t x y (.string a) (.string b)).run P w=.ok () w:=by
 unfold eqGuard
 cases op <;>simp
def tB {op:BinOp}(x y:Operand)(a b:Bool):(eqGuard op t x y (.bool a) (.bool b)).run P w=.ok () w:=by
 unfold eqGuard
 cases op <;>simp
def bb {c:Int}(hx:ev N e x=.int .i64 a)(hy:ev N e y=.int .i64 b)(hr:In64 (a+b))(hc:a+b=c)(hk:K (act N (upd e d (.int .i64 c)) ds) w):
 Oper.wpIn (Fw r) n P ⟨some d,.binOp .add t x y t',ty,pos,af,g⟩ (act N e ds) w K Q:=
 fV hx hy (dL ..) kb7 hk
def iT {c:Int}(hx:ev N e x=.int .i64 a)(hy:ev N e y=.int .i64 b)(hr:In64 (a-b))(hc:a-b=c)(hk:K (act N (upd e d (.int .i64 c)) ds) w):
 Oper.wpIn (Fw r) n P ⟨some d,.binOp .sub t x y t',ty,pos,af,g⟩ (act N e ds) w K Q:=
 fV hx hy (dL ..) kb7 hk
def l9 {c:Int}(hx:ev N e x=.int .i64 a)(hy:ev N e y=.int .i64 b)(hr:In64 (a*b))(hc:a*b=c)(hk:K (act N (upd e d (.int .i64 c)) ds) w):
 Oper.wpIn (Fw r) n P ⟨some d,.binOp .mul t x y t',ty,pos,af,g⟩ (act N e ds) w K Q:=
 fV hx hy (dL ..) kb7 hk
def oR (hx:ev N e x=.int .i64 a)(hy:ev N e y=.int .i64 b){c:Int}(h0:0<=a)(h1:1<=b)(hr:In64 a)(hc:a/b=c)(hk:K (act N (upd e d (.int .i64 c)) ds) w):
 Oper.wpIn (Fw r) n P ⟨some d,.binOp .quo t x y t',ty,pos,af,g⟩ (act N e ds) w K Q:=
 fV hx hy (dL ..) (by subst hc;simp[binOp,Op.intDiv,show b≠0 by omega,IntWalk.i64_quo a b ⟨h0,hr.2,h1⟩]) hk
def mc (hx:ev N e x=.int .i64 a)(hy:ev N e y=.int .i64 b){c:Int}(h0:0<=a)(h1:1<=b)(hc:a%b=c)(hk:K (act N (upd e d (.int .i64 c)) ds) w):
 Oper.wpIn (Fw r) n P ⟨some d,.binOp .rem t x y t',ty,pos,af,g⟩ (act N e ds) w K Q:=
 fV hx hy (dL ..) (by subst hc;simp[binOp,Op.intDiv,show b≠0 by omega,Int.tmod_eq_emod_of_nonneg h0]) hk
def TP (hx:ev N e x=.int k a)(hy:ev N e y=.int k b)(hq:decide (a<b)=q)(hk:K (act N (upd e d (.bool q)) ds) w):
 Oper.wpIn (Fw r) n P ⟨some d,.binOp .lss t x y t',ty,pos,af,g⟩ (act N e ds) w K Q:=
 fV hx hy (dL ..) kb3 hk
def TQ (hx:ev N e x=.int k a)(hy:ev N e y=.int k b)(hq:decide (a<=b)=q)(hk:K (act N (upd e d (.bool q)) ds) w):
 Oper.wpIn (Fw r) n P ⟨some d,.binOp .leq t x y t',ty,pos,af,g⟩ (act N e ds) w K Q:=
 fV hx hy (dL ..) kb3 hk
def OE (hx:ev N e x=.int k a)(hy:ev N e y=.int k b)(hq:decide (b<a)=q)(hk:K (act N (upd e d (.bool q)) ds) w):
 Oper.wpIn (Fw r) n P ⟨some d,.binOp .gtr t x y t',ty,pos,af,g⟩ (act N e ds) w K Q:=
 fV hx hy (dL ..) kb3 hk
def TR (hx:ev N e x=.int k a)(hy:ev N e y=.int k b)(hq:decide (b<=a)=q)(hk:K (act N (upd e d (.bool q)) ds) w):
 Oper.wpIn (Fw r) n P ⟨some d,.binOp .geq t x y t',ty,pos,af,g⟩ (act N e ds) w K Q:=
 fV hx hy (dL ..) kb3 hk
def OF (hx:ev N e x=.int k a)(hy:ev N e y=.int k b)(hq:decide (a=b)=q)(hk:K (act N (upd e d (.bool q)) ds) w):
 Oper.wpIn (Fw r) n P ⟨some d,.binOp .eql t x y t',ty,pos,af,g⟩ (act N e ds) w K Q:=
 fV hx hy (dL ..) (by subst hq;simp[binOp,Op.intCmp];rfl) hk
def TS (hx:ev N e x=.int k a)(hy:ev N e y=.int k b)(hq:(!decide (a=b))=q)(hk:K (act N (upd e d (.bool q)) ds) w):
 Oper.wpIn (Fw r) n P ⟨some d,.binOp .neq t x y t',ty,pos,af,g⟩ (act N e ds) w K Q:=
 fV hx hy (dL ..) (by subst hq;simp[binOp,Op.intCmp];rfl) hk
def By {a b:Bool}(hu:P.underlying t=some .bool)(m:Nat):(Op.equalIn (m+1) t (.bool a) (.bool b)).run P w=.ok (a==b) w:=by
 simp[Op.equalIn,run_underlying hu]
def rC {a b:Bool}(hu:P.underlying t=some .bool):(Op.equal t (.bool a) (.bool b)).run P w=.ok (a==b) w:=By hu 9999
def G0 {a b:Bool}(hu:P.underlying t=some .bool)(hx:ev N e x=.bool a)(hy:ev N e y=.bool b)(hq:(a==b)=q)(hk:K (act N (upd e d (.bool q)) ds) w):
 Oper.wpIn (Fw r) n P ⟨some d,.binOp .eql t x y t',ty,pos,af,g⟩ (act N e ds) w K Q:=
 fV hx hy (tB ..) (by subst hq;simp[binOp,rC hu]) hk
def lx {a b:Bool}(hu:P.underlying t=some .bool)(hx:ev N e x=.bool a)(hy:ev N e y=.bool b)(hq:(!(a==b))=q)(hk:K (act N (upd e d (.bool q)) ds) w):
 Oper.wpIn (Fw r) n P ⟨some d,.binOp .neq t x y t',ty,pos,af,g⟩ (act N e ds) w K Q:=
 fV hx hy (tB ..) (by subst hq;simp[binOp,rC hu]) hk
def S (l:List UInt8):Value:=.string ⟨l.toArray⟩
def PO {a b:List UInt8}(hx:ev N e x=S a)(hy:ev N e y=S b)(hq:decide (a=b)=q)(hk:K (act N (upd e d (.bool q)) ds) w):
 Oper.wpIn (Fw r) n P ⟨some d,.binOp .eql t x y t',ty,pos,af,g⟩ (act N e ds) w K Q:=
 fV hx hy (qC ..) kb1 hk
def tC {a b:List UInt8}(hx:ev N e x=S a)(hy:ev N e y=S b)(hq:(!decide (a=b))=q)(hk:K (act N (upd e d (.bool q)) ds) w):
 Oper.wpIn (Fw r) n P ⟨some d,.binOp .neq t x y t',ty,pos,af,g⟩ (act N e ds) w K Q:=
 fV hx hy (qC ..) kb1 hk
def km {a b:List UInt8}(hx:ev N e x=S a)(hy:ev N e y=S b)(hl:a.length+b.length<=9223372036854775807)(hk:K (act N (upd e d (S (a++b))) ds) w):
 Oper.wpIn (Fw r) n P ⟨some d,.binOp .add t x y t',ty,pos,af,g⟩ (act N e ds) w K Q:=
 fV hx hy (qC ..) (by
  have h63:¬(((a.length+b.length:Nat):Int)>IntKind.i64.max):=by show¬(((a.length+b.length:Nat):Int)>9223372036854775807);omega
  have e1:(ByteArray.mk a.toArray).size=a.length:=by simp[ByteArray.size]
  have O:(ByteArray.mk b.toArray).size=b.length:=by simp[ByteArray.size]
  have qr:ByteArray.mk a.toArray++ByteArray.mk b.toArray=ByteArray.mk (a++b).toArray:=by
   apply ByteArray.ext;simp[ByteArray.data_append]
  simp only[binOp,S,Op.stringOp,e1,O,if_neg h63,qr]
  rfl) hk
def TU {a:Bool}(hx:ev N e x=.bool a)(hq:(!a)=q)(hk:K (act N (upd e d (.bool q)) ds) w):
 Oper.wpIn (Fw r) n P ⟨some d,.unOp .not t x,ty,pos,af,g⟩ (act N e ds) w K Q:=
 dG (v:=.bool q) (w':=w) Z (by subst hq;simp[execOp,hx,Op.unary]) Th
def wb (hx:ev N e x=.int .i64 a)(hr:In64 (-a))(hk:K (act N (upd e d (.int .i64 (-a))) ds) w):
 Oper.wpIn (Fw r) n P ⟨some d,.unOp .neg t x,ty,pos,af,g⟩ (act N e ds) w K Q:=
 dG (v:=.int .i64 (-a)) (w':=w) Z (by
  have:IntKind.i64.wrap (0-a)=-a:=by rw[mZ (by rw[Int.zero_sub];exact hr),Int.zero_sub]
  simp[execOp,hx,Op.unary,Op.intArith];simpa using this) Th
def eS {vs:Array Value}(hx:ev N e x=.tuple vs)(hv:vs[i]?=some v)(hk:K (act N (upd e d v) ds) w):
 Oper.wpIn (Fw r) n P ⟨some d,.extract x i,ty,pos,af,g⟩ (act N e ds) w K Q:=
 dG (v:=v) (w':=w) Z (by simp[execOp,hx,Instr.extract,hv]) Th
def fW {c:UInt8}(hu:P.underlying t=some .string)(hx:ev N e x=S l)(hy:ev N e y=.int k (i:Int))(hc:l[i]?=some c)(hk:K (act N (upd e d (.int .u8 c.toNat)) ds) w):Oper.wpIn (Fw r) n P ⟨some d,.index t x y,ty,pos,af,g⟩ (act N e ds) w K Q:=by
 refine dG (v:=.int .u8 c.toNat) (w':=w) Z ?_ Th
 have hi:i<l.length:=(List.getElem?_eq_some_iff.1 hc).1
 have h1:(ByteArray.mk l.toArray)[i]?=some c:=by
  have hs:i<(ByteArray.mk l.toArray).size:=by simpa[ByteArray.size]using hi
  rw[getElem?_pos (ByteArray.mk l.toArray) i hs]
  have:=(List.getElem?_eq_some_iff.1 hc).2
  simp only[Option.some.injEq]
  rw[<-this];rfl
 simp[execOp,hx,hy,S,Instr.index,asIntOf,run_underlying hu,h1]
def ah {bk:Nat}(hu:P.underlying t=some (.slice el))(hs:(P.info? el).map (·.size)=some s)(hx:ev N e x=.slice A m c)(hA:A=some ⟨bk,o,none⟩)(hy:ev N e y=.int k (i:Int))(hlt:i<m)(hoo:o+i*s=oo)(hk:K (act N (upd e d (.pointer (some ⟨bk,oo,none⟩))) ds) w):Oper.wpIn (Fw r) n P ⟨some d,.indexAddr t x y,ty,pos,af,g⟩ (act N e ds) w K Q:=by
 refine dG (v:=.pointer (some ⟨bk,oo,none⟩)) (w':=w) Z ?_ Th
 subst hA hoo
 cases hi:P.info? el with
 |none=>simp[hi]at hs
 | some inf=>
   have hs':inf.size=s:=by simpa[hi]using hs
   subst hs'
   simp[execOp,hx,hy,Instr.indexAt,run_underlying hu,asIntOf,hlt,sizeOf,typeInfo,hi,Addr.add_mid]
def cL {fn:Fn}{fs cs:Array Operand}(hf:fs.toList.map (ev N e)=vf)(hc:cs.toList.map (ev N e)=vc)(hk:K (act N (upd e d (.func fn vf.toArray vc.toArray)) ds) w):
 Oper.wpIn (Fw r) n P ⟨some d,.makeFunc fn fs cs,ty,pos,af,g⟩ (act N e ds) w K Q:=
 dG (v:=.func fn vf.toArray vc.toArray) (w':=w) Z (by subst hf hc;rw[<-Array.toList_map,<-Array.toList_map,Array.toArray_toList,Array.toArray_toList];rfl) Th
def OG (hx:ev N e x=.int k a)(hy:ev N e y=.int k b){m:Int}(hm:(if a<b then b else a)=m)(hk:K (act N (upd e d (.int k m)) ds) w):
 Oper.wpIn (Fw r) n P ⟨some d,.call {callee:=.builtin .max,args:=#[x,y],argTypes:=ats},ty,pos,af,g⟩ (act N e ds) w K Q:=
 dG (v:=.int k m) (w':=w) Z (by subst hm;simp[execOp,resolve,invoke,builtin,Builtin.max_,hx,hy,Builtin.max2,List.foldlM]) Th
def iU {lo hi:Option Operand}(hu:P.underlying t=some .string)(hx:ev N e x=S l)(hlo:(lo.map (ev N e))=none/\i=0\/∃k,lo.map (ev N e)=some (.int k (i:Int)))(hhi:(hi.map (ev N e))=none/\j=l.length\/∃k,hi.map (ev N e)=some (.int k (j:Int)))(hij:i<=j)(hj:j<=l.length)(hk:K (act N (upd e d (S ((l.take j).drop i))) ds) w):
 Oper.wpIn (Fw r) n P ⟨some d,.slice t x lo hi none,ty,pos,af,g⟩ (act N e ds) w K Q:=by
 refine dG (v:=S ((l.take j).drop i)) (w':=w) Z ?_ Th
 have O:(ByteArray.mk l.toArray).size=l.length:=by simp[ByteArray.size]
 have hex:(ByteArray.mk l.toArray).extract i j=ByteArray.mk ((l.take j).drop i).toArray:=by
  apply ByteArray.ext
  simp[ByteArray.data_extract,List.drop_take]
 rcases hlo with⟨hlo,rfl⟩|⟨k1,hlo⟩ <;>rcases hhi with⟨hhi,rfl⟩|⟨k2,hhi⟩ <;>
  simp[execOp,hx,S,Instr.sliceAt,run_underlying hu,Instr.slice,Instr.sliceBounds,Instr.sliceBound,asIntOf,hlo,hhi,O,hex,hij,hj]
def G5 {lo hi:Option Operand}(hu:P.underlying t=some (.slice el))(hi0:(P.info? el).map (·.size)=some s)(hx:ev N e x=.slice A m c)(hlo:(lo.map (ev N e))=none/\i=0\/∃k,lo.map (ev N e)=some (.int k (i:Int)))(hhi:(hi.map (ev N e))=none/\j=m\/∃k,hi.map (ev N e)=some (.int k (j:Int)))(hij:i<=j)(hj:j<=c)(hk:K (act N (upd e d (.slice (if c=i then A else A.map (·.add (i*s))) (j-i) (c-i))) ds) w):
 Oper.wpIn (Fw r) n P ⟨some d,.slice t x lo hi none,ty,pos,af,g⟩ (act N e ds) w K Q:=by
 refine dG (v:=.slice (if c=i then A else A.map (·.add (i*s))) (j-i) (c-i)) (w':=w) Z ?_ Th
 obtain⟨inf,hi',hs⟩:∃inf,P.info? el=some inf/\inf.size=s:=by
  cases hq:P.info? el with
  |none=>rw[hq]at hi0;cases hi0
  |some inf=>rw[hq]at hi0;exact⟨inf,rfl,by simpa using hi0⟩
 subst hs
 rcases hlo with⟨hlo,rfl⟩|⟨k1,hlo⟩ <;>rcases hhi with⟨hhi,rfl⟩|⟨k2,hhi⟩ <;>
  simp[execOp,hx,Instr.sliceAt,run_underlying hu,Instr.slice,Instr.sliceBounds,Instr.sliceBound,asIntOf,hlo,hhi,hij,hj,sizeOf,typeInfo,hi']
def OH {hi:Operand}(hu:P.underlying t=some (.slice el))(hi0:(P.info? el).map (·.size)=some s)(hx:ev N e x=.slice A m c)(hhi:ev N e hi=.int k (j:Int))(hj:j<=c)(hk:K (act N (upd e d (.slice A j c)) ds) w):
 Oper.wpIn (Fw r) n P ⟨some d,.slice t x none (some hi) none,ty,pos,af,g⟩ (act N e ds) w K Q:=by
 refine G5 (i:=0) (j:=j) hu hi0 hx (.inl ⟨rfl,rfl⟩) (.inr ⟨k,qb1 some hhi⟩) (qa7 _) hj ?_
 have:(if c=0 then A else A.map (·.add (0*s)))=A:=by
  split
  · rfl
  · cases A <;>simp[Addr.add]
 rw[this]
 exact hk
end ops2
section grow
variable {row:Option Nat}{lo B:Nat}{cs:List Value}
def bF.of_gr (h:w.grownBy w' none):bF w w':=⟨h.os,h.tape,h.output,h.size,λk hk=>h.block k hk RW⟩
def cI (h:Below B w0 w)(k:w.grownBy w' row)(hB:B<=w.heap.size)(hr:∀g,row=some g->B<=g):Below B w0 w':=h.grown k hB hr
def au.gr {b:Nat}{cs:Array Value}(k:w.grownBy w' row)(hne:some b≠row)(h:au w b t cs):au w' b t cs:=(k.block b h.lt hne).trans h
def aa0:=@au.gr
def Rw.gr (k:w.grownBy w' row)(hne:∀ad,A=some ad->some ad.block≠row)(h:Rw w lo A cs):Rw w' lo A cs:=
 ⟨λj u hu=>by
  obtain⟨b,o,hA,hc⟩:=h.cells j u hu
  exact⟨b,o,hA,(World.cell?_of_block (k.block b (h.hi _ hA) (hne _ hA))).trans hc⟩,h.lo,λad hA=>qb0 (h.hi ad hA) k.size⟩
def Rw.of_own (h:w.ownsRow lo et sz (.slice A n c) n cs):Rw w lo A cs:=by
 obtain⟨hl,hv|⟨g,cap,A1,hv,qn,O,hc,hm,hs,ht⟩⟩:=h
 · simp only[Value.slice.injEq]at hv
   obtain⟨⟨rfl,rfl,rfl⟩,_⟩:=hv
   have:cs=[]:=List.eq_nil_of_length_eq_zero (by simpa using hl)
   subst this
   exact Rw.nil w lo
 · simp only[Value.slice.injEq]at hv
   obtain⟨rfl,_,rfl⟩:=hv
   have W:g<w.heap.size:=(Array.getElem?_eq_some_iff.1 O).1
   refine⟨λj u hu=>⟨g,0,rfl,?_⟩,λqr hA=>by cases hA;exact qn,λqr hA=>by cases hA;exact W⟩
   have A2:j<cs.length:=(List.getElem?_eq_some_iff.1 hu).1
   rw[<-ht,List.getElem?_take,if_pos J]at hu
   simp only[World.cell?,O,Nat.zero_add]
   simpa using hu
def aa4:=@Rw.of_own
def eT (h:w.ownsRow lo et sz v n cs):∃A c,v=.slice A n c/\n<=c/\c<=maxLen/\(∀ad,A=some ad->v.ownBlock=some ad.block/\lo<=ad.block/\ad.block<w.heap.size)/\(A=none->v.ownBlock=none):=by
 obtain⟨hl,⟨rfl,rfl⟩|⟨g,cap,W,rfl,O,qr,hc,hm,hs,ht⟩⟩:=h
 · exact⟨none,0,rfl,qa0 _,by simp[maxLen],(λad hA=>by cases hA),λ_=>rfl⟩
 · exact⟨_,cap,rfl,hc,hm,λad hA=>by cases hA;exact⟨rfl,O,(Array.getElem?_eq_some_iff.1 qr).1⟩,(λhA=>by cases hA)⟩
def aX (k:bF w w')(h:w.ownsRow lo et sz v n cs):w'.ownsRow lo et sz v n cs:=by
 obtain⟨hl,hv|⟨g,cap,qr,hv,O,W,r⟩⟩:=h
 · exact⟨hl,.inl hv⟩
 · exact⟨hl,.inr ⟨g,cap,qr,hv,O,k.heap W,r⟩⟩
def g9 {b:Nat}(k:fU w w' b)(hne:v.ownBlock≠some b)(h:w.ownsRow lo et sz v n cs):w'.ownsRow lo et sz v n cs:=by
 obtain⟨hl,hv|⟨g,cap,qr,rfl,O,W,r⟩⟩:=h
 · exact⟨hl,.inl hv⟩
 · exact⟨hl,.inr ⟨g,cap,qr,rfl,O,(k.block g (λe=>hne (by simp[Value.ownBlock,e]))).trans W,r⟩⟩
def PP (k:w.grownBy w' row)(hne:∀g,v.ownBlock=some g->some g≠row)(h:w.ownsRow lo et sz v n cs):w'.ownsRow lo et sz v n cs:=by
 obtain⟨hl,hv|⟨g,cap,W,rfl,qr,O,r⟩⟩:=h
 · exact⟨hl,.inl hv⟩
 · exact⟨hl,.inr ⟨g,cap,W,rfl,qr,(k.block g (Array.getElem?_eq_some_iff.1 O).1 (hne g Z)).trans O,r⟩⟩
end grow
section ops3
variable {r:Option Nat}{Q:Exit->Act->World->Prop}{K:Act->World->Prop}
variable {ty:Nat}{pos:String}{af:Array Edge}{g:Option (Nat×Bool)}{u:Value}{y:Operand}{t':TypeId}
def sr (base:Nat)(ty e:TypeId)(i:TypeInfo)(size:Nat)(ht:P.underlying t=some (.slice e))(hi:P.info? e=some i)(v:Value)(n:Nat)(xs:List Value)(hown:w.ownsRow base e size v n xs)(c:Nat):(Builtin.append_ #[t,t] ty #[v,.slice none 0 c]).run P w=.ok v w:=by
 rcases hown.2 with⟨rfl,rfl⟩|⟨g,cap,cur,rfl,_,_,hnc,_⟩
 · simp[Builtin.append_,run_underlying ht,sizeOf,typeInfo,hi,Builtin.lenOf,Builtin.firstCells]
 · simp[Builtin.append_,run_underlying ht,sizeOf,typeInfo,hi,Builtin.lenOf,Builtin.firstCells,hnc,storeCells]
def me {z:Value}{base lo:Nat}{xs news:List Value}(hu:P.underlying t=some (.slice el))(hi:gK P el z size bytes)(hz:z.cells.size=size)(hs:0<size)(hx:ev N e x=v)(hown:w.ownsRow base el size v k xs)(hy:ev N e y=.slice A m c)(hr:Rw w lo A news)(hl:news.length=m*size)(h1:∀u∈news,u.oneCell'=true)(h63:k+m<=maxLen)(hb:(k+m)*bytes<=140737488355328)(hbase:base<=w.heap.size)(hk:∀v' w',w'.ownsRow base el size v' (k+m) (xs++news)->w.grownBy w' v.ownBlock->(v'.ownBlock=v.ownBlock\/v'.ownBlock=some w.heap.size)->K (act N (upd e d v') ds) w'):
 Oper.wpIn (Fw r) n P ⟨some d,.call {callee:=.builtin .append,args:=#[x,y],argTypes:=#[t,t]},ty,pos,af,g⟩ (act N e ds) w K Q:=by
 obtain⟨i,W,qn,A2,A1⟩:=hi.parts
 have key:∃v' w',(Builtin.append_ #[t,t] ty #[v,.slice A m c]).run P w=.ok v' w'/\w'.ownsRow base el size v' (k+m) (xs++news)/\w.grownBy w' v.ownBlock/\(v'.ownBlock=v.ownBlock\/v'.ownBlock=some w.heap.size):=by
  by_cases hm:news=[]
  · subst hm
    have Ad:m=0:=by
     rcases Nat.eq_zero_or_pos m with h|h
     · exact h
     · have:=Nat.mul_pos h hs;simp at hl;omega
    subst Ad
    rcases A with _|ad
    · exact⟨v,w,sr base ty el i size hu W v k xs hown c,by simpa using hown,World.grownBy.refl w _,.inl Z⟩
    · obtain⟨v',w',O,h2,h3,_,qr⟩:=run_append_own_at (P:=P) w base t ty el i z size bytes hu W qn A2 A1 hz hs v k xs hown ad 0 c [] RW (λj u hu=>by simp at hu) RW h63 hb hbase
      exact⟨v',w',O,h2,h3,qr⟩
  · have Ab:0<news.length:=List.length_pos_iff.2 hm
    obtain⟨b,o,hA,_⟩:=hr.cells 0 news[0] (qa5 Ab)
    subst hA
    obtain⟨v',w',O,h2,h3,_,qr⟩:=run_append_own_at (P:=P) w base t ty el i z size bytes hu W qn A2 A1 hz hs v k xs hown ⟨b,o,none⟩ m c news hl
     (λj u hu=>by obtain⟨_,_,hA,hc⟩:=hr.cells j u hu;cases hA;rw[Addr.add_mid];exact hc) h1 h63 hb hbase
    exact⟨v',w',O,h2,h3,qr⟩
 obtain⟨v',w',O,h2,h3,h4⟩:=key
 refine dG (v:=v') (w':=w') Z ?_ (by rw[aw];exact hk v' w' h2 h3 h4)
 simp[execOp,resolve,invoke,builtin,hx,hy,O]
def tD {z:Value}{kl kc:IntKind}(hu:P.underlying t=some (.slice el))(hi:gK P el z size bytes)(hx:ev N e x=.int kl m)(hy:ev N e y=.int kc m)(hb:bytes*m<=281474976710656)(h63:m<=maxLen)(hk:∀w',bF w w'->w.heap.size<w'.heap.size->w'.ownsRow w.heap.size el size (.slice (some ⟨w.heap.size,0,none⟩) m m) m (madeCells z.cells (m*size)).toList->K (act N (upd e d (.slice (some ⟨w.heap.size,0,none⟩) m m)) ds) w'):
 Oper.wpIn (Fw r) n P ⟨some d,.makeSlice t x y,ty,pos,af,g⟩ (act N e ds) w K Q:=by
 obtain⟨i,W,A2,A1,Ab⟩:=hi.parts
 subst Ab
 obtain⟨w',qr,r1,r2⟩:=run_make_full (P:=P) w w.heap.size t el i z size hu W A2 A1 kl kc m hb h63 (qa0 _)
 have O:w.heap.size<w'.heap.size:=by
  obtain⟨_,h|⟨g,cap,Af,hv,Ad,qn,_⟩⟩:=r1
  · simp at h
  · simp only[Value.slice.injEq,Option.some.injEq,Addr.mk.injEq]at hv
    obtain⟨⟨rfl,_⟩,_⟩:=hv
    exact(Array.getElem?_eq_some_iff.1 qn).1
 refine dG (v:=.slice (some ⟨w.heap.size,0,none⟩) m m) (w':=w') Z ?_ (by rw[aw];exact hk w' (bF.of_gr r2) O r1)
 simp[execOp,hx,hy,qr]
def L6 {z:Value}{kl kc:IntKind}(hu:P.underlying t=some (.slice el))(hi:gK P el z size bytes)(hx:ev N e x=.int kl 0)(hy:ev N e y=.int kc m)(hb:bytes*m<=281474976710656)(h63:m<=maxLen)(hk:∀w',bF w w'->w'.ownsRow w.heap.size el size (.slice (some ⟨w.heap.size,0,none⟩) 0 m) 0 []->K (act N (upd e d (.slice (some ⟨w.heap.size,0,none⟩) 0 m)) ds) w'):
 Oper.wpIn (Fw r) n P ⟨some d,.makeSlice t x y,ty,pos,af,g⟩ (act N e ds) w K Q:=by
 obtain⟨i,qr,qn,W,A1⟩:=hi.parts
 subst A1
 obtain⟨w',O,r1,r2⟩:=run_make_own (P:=P) w w.heap.size t el i z size hu qr qn W kl kc m hb h63 (qa0 _)
 refine dG (v:=.slice (some ⟨w.heap.size,0,none⟩) 0 m) (w':=w') Z ?_ (by rw[aw];exact hk w' (bF.of_gr r2) r1)
 simp[execOp,hx,hy,O]
def ej {z:Value}{parts:Array (Nat×Operand)}{vs:List (Nat×Value)}{cells:Array Value}(hu:P.underlying t=some (.slice el))(hi:gK P el z size bytes)(hp:(parts.toList.map fun(i,x)=>(i,ev N e x))=vs)(h24:m*size<=16777216)(hm:0<m*size)(hf:Instr.fill (λi=>some (i*size,size)) ((Array.range (m*size)).map (z.cells[· %z.cells.size]!)) vs=some cells)(hsz:cells.size=m*size)(hmm:m<=maxLen)(hk:∀w',bF w w'->w.heap.size<w'.heap.size->w'.ownsRow w.heap.size el size (.slice (some ⟨w.heap.size,0,none⟩) m m) m cells.toList->K (act N (upd e d (.slice (some ⟨w.heap.size,0,none⟩) m m)) ds) w'):
 Oper.wpIn (Fw r) n P ⟨some d,.buildSlice t m parts,ty,pos,af,g⟩ (act N e ds) w K Q:=by
 obtain⟨i,O,W,qr,_⟩:=hi.parts
 subst qr
 refine dG (v:=.slice (some ⟨w.heap.size,0,none⟩) m m) (w':=w.alloc (.cells cells el)) Z ?_ (by
  rw[aw]
  exact hk _ (bF.alloc _ _) RW ⟨by simpa using hsz,.inr ⟨w.heap.size,m,cells,rfl,Nat.le_refl _,heap_alloc_new w _,Nat.le_refl _,hmm,hsz,by rw[List.take_of_length_le (by simp[hsz])]⟩⟩)
 have hp':(parts.map fun(i,x)=>(i,ev N e x)).toList=vs:=by rw[<-hp];simp
 subst hp'
 have h2:¬m*i.size>2^24:=J
 have h3:¬(m*i.size=0):=J
 simp only[execOp,Instr.buildSlice,Sem.run_bind,run_underlying hu,Result.andThen_ok,sizeOf,typeInfo,run_program,O,Sem.run_pure,zeroValue,W,h2,if_false,h3,hf,newRow,run_newObj,World.alloc_eq]
def rF {w:World}:∀(fs:List Field) (pl:List (Nat×Nat)),fs.map (λf=>(f.offset,(P.info? f.type).map (·.size)))=pl.map (λp=>(p.1,some p.2))->
 (fs.mapM λf=>(do pure (f.offset,<-sizeOf f.type):Sem (Nat×Nat))).run P w=.ok pl w
 |[],[],_=>by simp
 |[],p::pl,h=>by simp at h
 |f::fs,[],h=>by simp at h
 | f ::fs,p::pl,h=>by
   simp only[List.map_cons,List.cons.injEq,Prod.mk.injEq]at h
   obtain⟨⟨h1,h2⟩,h3⟩:=h
   have O:=rF (w:=w) fs pl h3
   cases hi:P.info? f.type with
   |none=>rw[hi]at h2;cases h2
   | some i=>
     rw[hi]at h2
     simp only[Option.map_some,Option.some.injEq]at h2
     have hs:(sizeOf f.type).run P w=.ok p.2 w:=by simp[sizeOf,typeInfo,hi,h2]
     rw[List.mapM_cons]
     simp only[Sem.run_bind,hs,Result.andThen_ok,Sem.run_pure]at O ⊢
     rw[O]
     simp[h1]
def aV {fs:Array Field}{z:Value}{parts:Array (Nat×Operand)}{vs:List (Nat×Value)}{pl:List (Nat×Nat)}{cells:Array Value}(hu:P.underlying t=some (.struct fs))(hi:gK P t z size bytes)(hpl:fs.toList.map (λf=>(f.offset,(P.info? f.type).map (·.size)))=pl.map (λp=>(p.1,some p.2)))(hp:(parts.toList.map fun(i,x)=>(i,ev N e x))=vs)(hf:Instr.fill (pl.toArray[·]?) z.cells vs=some cells)(hk:K (act N (upd e d (.agg cells)) ds) w):
 Oper.wpIn (Fw r) n P ⟨some d,.build t parts,ty,pos,af,g⟩ (act N e ds) w K Q:=by
 obtain⟨i,W,qn,_,_⟩:=hi.parts
 refine dG (v:=.agg cells) (w':=w) Z ?_ Th
 have hp':(parts.map fun(i,x)=>(i,ev N e x)).toList=vs:=by rw[<-hp];simp
 subst hp'
 have qr:=rF (P:=P) (w:=w) fs.toList pl hpl
 have O:(fs.mapM λf=>(do pure (f.offset,<-sizeOf f.type):Sem (Nat×Nat))).run P w=.ok pl.toArray w:=by
  rw[Array.mapM_eq_mapM_toList]
  simp only[Sem.run_map,qr,Result.andThen_ok]
 simp only[execOp,Instr.build,Sem.run_bind,run_underlying hu,Result.andThen_ok,zeroValue,typeInfo,run_program,W,Sem.run_pure,qn]
 erw [O]
 simp only[Result.andThen_ok,hf]
 rfl
end ops3
section code
variable {r:Option Nat}{Q:Exit->Act->World->Prop}{K:Act->World->Prop}{a:Act}
variable {ops:Array Oper}{rest:List Oper}{dst:Option Tmp}{op:Op}{ty:Nat}{pos:String}{af:Array Edge}{id:Nat}{c c1 c2:Code}
def ac (h:Oper.wpIn (Fw r) n P ⟨dst,op,ty,pos,af,none⟩ a w (wpListIn (Fw r) n P ops Q rest) Q):wpListIn (Fw r) n P ops Q (⟨dst,op,ty,pos,af,none⟩::rest) a w:=by
 unfold wpListIn
 rw[if_pos (by simp[Region.wanted])]
 exact h
def rG (hj:(ops[j]?).bind (·.dst)=some s)(hv:ev N e (.tmp s)=.bool q):yielded ops (act N e ds).tmps j=some q:=by
 have h1:(act N e ds).tmps[s]?=some (.bool q):=by
  have h2:(act N e ds).eval (.tmp s)=.bool q:=by rw[dI];exact hv
  simp only[Act.eval]at h2
  by_cases hs:s<(act N e ds).tmps.size
  · simp only[Array.getD,hs,dif_pos]at h2
    rw[Array.getElem?_eq_getElem hs]
    exact qb1 some h2
  · simp only[Array.getD,hs,dif_neg,not_false_eq_true]at h2
    simp[undef]at h2
 simp[yielded,hj,h1]
def eh (l:List Oper)(j:Nat):Option Nat:=(l[j]?).bind (·.dst)
def tE {l:List Oper}(hj:eh l j=some s)(hv:ev N e (.tmp s)=.bool q)(h:wpListIn (Fw r) n P l.toArray Q (⟨dst,op,ty,pos,af,none⟩::rest) (act N e ds) w):wpListIn (Fw r) n P l.toArray Q (⟨dst,op,ty,pos,af,some (j,q)⟩::rest) (act N e ds) w:=by
 have hj':(l.toArray[j]?).bind (·.dst)=some s:=by rw[List.getElem?_toArray];exact hj
 unfold wpListIn at h ⊢
 rw[if_pos (by simp[Region.wanted])]at h
 rw[if_pos (by simp[Region.wanted,rG hj' hv])]
 obtain⟨_,h2⟩:=h
 exact⟨λf _=>l8 r f,h2⟩
def rH {l:List Oper}(hj:eh l j=some s)(hv:ev N e (.tmp s)=.bool (!q))(h:wpListIn (Fw r) n P l.toArray Q rest (act N (upd e d undef) ds) w):wpListIn (Fw r) n P l.toArray Q (⟨some d,op,ty,pos,af,some (j,q)⟩::rest) (act N e ds) w:=by
 have hj':(l.toArray[j]?).bind (·.dst)=some s:=by rw[List.getElem?_toArray];exact hj
 unfold wpListIn
 rw[if_neg (by simp[Region.wanted,rG hj' hv])]
 exact⟨λf _=>l8 r f,by rw[aw];exact h⟩
def lS (h:Q .normal a w):wpListIn (Fw r) n P ops Q [] a w:=h
def nK (h:c1.wpIn (Fw r) n P (Exit.then (c2.wpIn (Fw r) n P Q) Q) a w):(Code.seq c1 c2).wpIn (Fw r) n P Q a w:=wpIn_seq h
def tF {l:List Oper}(h:wpListIn (Fw r) n P l.toArray Q l a w):(Code.region id l.toArray false).wpIn (Fw r) n P Q a w:=wpIn_region_lit h
def xj (h:c.wpIn (Fw r) n P (Exit.inBlock id Q) a w):(Code.block id c).wpIn (Fw r) n P Q a w:=wpIn_block h
def xk (hx:ev N e x=.bool true)(h:c1.wpIn (Fw r) n P Q (act N e ds) w):(Code.cond x c1 c2).wpIn (Fw r) n P Q (act N e ds) w:=wpIn_cond_true (by rw[dI];exact hx) h
def lz (hx:ev N e x=.bool false)(h:c2.wpIn (Fw r) n P Q (act N e ds) w):(Code.cond x c1 c2).wpIn (Fw r) n P Q (act N e ds) w:=wpIn_cond_false (by rw[dI];exact hx) h
def xm (hx:ev N e x=.bool q)(h1:q=true->c1.wpIn (Fw r) n P Q (act N e ds) w)(h2:q=false->c2.wpIn (Fw r) n P Q (act N e ds) w):
 (Code.cond x c1 c2).wpIn (Fw r) n P Q (act N e ds) w:=wpIn_cond_split (by rw[dI];exact hx) h1 h2
def oh (h:Q .normal a w):Code.skip.wpIn (Fw r) n P Q a w:=wpIn_skip h
def Bz (h:Q (.exit id) a w):(Code.exit id).wpIn (Fw r) n P Q a w:=wpIn_exit h
def G6 (h:Q .ret a w):Code.ret.wpIn (Fw r) n P Q a w:=wpIn_ret h
def wc (q0:Nat->(Nat->Value)->World->Prop)(hs:∀k e w,q0 k e w->c.wpIn (Fw r) n P (Exit.then (λa' w'=>∃k' e',k'<k/\a'=act N e' ds/\q0 k' e' w') Q) (act N e ds) w):
 ∀(m k:Nat) (e:Nat->Value) (w:World),k<m->q0 k e w->Code.roundsIn (Fw r) n P c Q m (act N e ds) w
 |0,_,_,_,h,_=>absurd h (Nat.not_lt_zero _)
 | m +1,k,e,w,h,hI=>wpIn_mono (hs k e w hI) (by
  intro x a' w' hq
  cases x <;>first|exact hq|(obtain⟨k',e',hk,rfl,hI'⟩:=hq;exact wc q0 hs m k' e' w' J hI'))
def PQ (q0:Nat->(Nat->Value)->World->Prop)(k:Nat)(h0:q0 k e w)(hs:∀k e w,q0 k e w->c.wpIn (Fw r) n P (Exit.then (λa' w'=>∃k' e',k'<k/\a'=act N e' ds/\q0 k' e' w') Q) (act N e ds) w):
 (Code.loop c).wpIn (Fw r) n P Q (act N e ds) w:=wpIn_loop_rounds (k+1) (wc q0 hs (k+1) k e w (Nat.lt_succ_self k) h0)
def y9 (l:List Nat)(t:Nat):Bool:=l.any λd=>Nat.beq d t
def bv {l:List Nat}(hd:y9 l d=true)(h:∀t,y9 l t=false->e' t=e1 t):∀t,y9 l t=false->upd e' d v t=e1 t:=by
 intro t ht
 have:t≠d:=λO=>by subst O;rw[hd]at ht;cases ht
 rw[upd_ne _ _ this];exact h t ht
def BA {id:Nat}(h:Q (.exit id) a w):Exit.then K Q (.exit id) a w:=h
def PR {id:Nat}(h:Q .normal a w):Exit.inBlock id Q (.exit id) a w:=by simp only[Exit.inBlock,if_true];exact h
def PS {id id':Nat}(hne:Nat.beq id' id=false)(h:Q (.exit id') a w):Exit.inBlock id Q (.exit id') a w:=by
 have:id'≠id:=λe=>by subst e;simp at hne
 simp only[Exit.inBlock,if_neg this];exact h
def jG (h:K a w):Exit.then K Q .normal a w:=h
def PT {id:Nat}(h:Q .normal a w):Exit.inBlock id Q .normal a w:=h
def BB (h:Q .ret a w):Exit.then K Q .ret a w:=h
def PU {id:Nat}(h:Q .ret a w):Exit.inBlock id Q .ret a w:=h
end code
section func
variable {fn:Func}{c:Code}{R:Value->World->Prop}
def LW (args:List Value):Nat->Value:=λi=>args.getD i undef
def aE {args:List Value}(hf:P.funcs[f]?=some fn)(hb:fn.body=some c)(h:c.wpIn (Fw none) 0 P (bodyPost P fn (aC w R)) (act (args.length+(fn.ntmps-args.length)) (LW args) []) w):Calls P f args.toArray w (aC w R):=by
 refine tz (n:=0) (callsIn_of_wp hf hb trivial ?_)
 have:({tmps:=args.toArray++Array.replicate (fn.ntmps-args.toArray.size) undef,defers:=[]}:Act)=act (args.length+(fn.ntmps-args.length)) (LW args) []:=by
  simp only[act,Act.mk.injEq,and_true]
  apply Array.ext
  · simp
  · intro i _ _
    simp only[Array.getElem_ofFn,LW]
    by_cases hi:i<args.length
    · simp[hi]
    · have h3:args.toArray.size<=i:=by simpa using hi
      rw[Array.getElem_append_right h3]
      simp[List.getElem?_eq_none (Nat.le_of_not_lt hi)]
 rw[this]
 exact h
def aI (hr:(results fn (act N e []).tmps).run P w'=.ok v w')(hx:bF w w')(hR:R v w'):bodyPost P fn (aC w R) .ret (act N e []) w':=
 ⟨rfl,v,hr,hx,hR⟩
def TV (hr:(results fn (act N e []).tmps).run P w'=.ok v w')(hx:bF w w')(hR:R v w'):bodyPost P fn (aC w R) .normal (act N e []) w':=
 ⟨rfl,v,hr,hx,hR⟩
def tG {t:Nat}(hv:ev N e (.tmp t)=v):(act N e ds).tmps.getD t undef=v:=by
 have:(act N e ds).eval (.tmp t)=v:=by rw[dI];exact hv
 exact this
def fX (tmps:Array Value):ResultVar->Sem Value
 | .tmp t=>pure (tmps.getD t undef)
 | .cell a t=>do loadVar t (<-asAddr (tmps.getD a undef))
def aD {t:Nat}(hv:ev N e (.tmp t)=v)(w:World):(fX (act N e ds).tmps (.tmp t)).run P w=.ok v w:=by
 simp[fX,tG hv]
def dh {t:Nat}{b:Nat}(hu:P.underlying ty=some D)(hd:D.isRow=false)(hv:ev N e (.tmp t)=.pointer (some ⟨b,o,none⟩))(hc:w.cell? ⟨b,o,none⟩=some v):
 (fX (act N e ds).tmps (.cell t ty)).run P w=.ok v w:=by
 have O:(isAgg ty).run P w=.ok false w:=by
  unfold isAgg
  rw[Sem.run_bind,run_underlying hu w]
  cases D <;>simp_all
 simp[fX,tG hv,asAddr,loadVar,O,hc]
def ag {t:Nat}{cs:List Value}{b:Nat}(hu:P.underlying ty=some D)(hd:D.isRow=true)(hi:(P.info? ty).map (·.size)=some cs.length)(hv:ev N e (.tmp t)=.pointer (some ⟨b,o,none⟩))(hc:∀j u,cs[j]?=some u->w.cell? ⟨b,o+j,none⟩=some u):
 (fX (act N e ds).tmps (.cell t ty)).run P w=.ok (.agg cs.toArray) w:=by
 simp[fX,tG hv,asAddr,run_loadVar_mid w b o ty cs D hc hu hd hi]
def jH (tmps:Array Value):results fn tmps=(do
 let vs <-fn.results.mapM (fX tmps)
 pure (if h:vs.size=1 then vs[0]else .tuple vs)):=rfl
def BC (h:fn.results=#[]):(results fn tmps).run P w=.ok (.tuple #[]) w:=by
 rw[jH,h];simp
def cF {r1:ResultVar}(h:fn.results=#[r1])(h1:(fX tmps r1).run P w=.ok v1 w):(results fn tmps).run P w=.ok v1 w:=by
 rw[jH,h];simp[h1]
def cn {r1 r2:ResultVar}(h:fn.results=#[r1,r2])(h1:(fX tmps r1).run P w=.ok v1 w)(h2:(fX tmps r2).run P w=.ok v2 w):
 (results fn tmps).run P w=.ok (.tuple #[v1,v2]) w:=by
 rw[jH,h];simp[h1,h2]
def L8 {r1 r2 r3:ResultVar}(h:fn.results=#[r1,r2,r3])(h1:(fX tmps r1).run P w=.ok v1 w)(h2:(fX tmps r2).run P w=.ok v2 w)(h3:(fX tmps r3).run P w=.ok v3 w):
 (results fn tmps).run P w=.ok (.tuple #[v1,v2,v3]) w:=by
 rw[jH,h];simp[h1,h2,h3]
def ax {t:Nat}(hres:fn.results=#[.tmp t])(hx:bF w w')(hR:R v w')(hv:ev N e (.tmp t)=v):bodyPost P fn (aC w R) .ret (act N e []) w':=
 aI (cF hres (aD hv w')) hx hR
def bN {t:Nat}(hres:fn.results=#[.tmp t,.tmp u])(hx:bF w w')(hR:R (.tuple #[v1,v2]) w')(h1:ev N e (.tmp t)=v1)(h2:ev N e (.tmp u)=v2):bodyPost P fn (aC w R) .ret (act N e []) w':=
 aI (cn hres (aD h1 w') (aD h2 w')) hx hR
def fY {t:Nat}(hres:fn.results=#[.tmp t,.tmp u,.tmp s])(hx:bF w w')(hR:R (.tuple #[v1,v2,v3]) w')(h1:ev N e (.tmp t)=v1)(h2:ev N e (.tmp u)=v2)(h3:ev N e (.tmp s)=v3):bodyPost P fn (aC w R) .ret (act N e []) w':=
 aI (L8 hres (aD h1 w') (aD h2 w') (aD h3 w')) hx hR
end func
section calls
variable {r:Option Nat}{Q:Exit->Act->World->Prop}{K:Act->World->Prop}
variable {ty:Nat}{pos:String}{af:Array Edge}{g:Option (Nat×Bool)}{u:Value}{y:Operand}{t':TypeId}{R:Value->World->Prop}
def Enters (P:Program)(f:FuncId):Prop:=∀args w,(callFunc f args).run P w=.ok (.enter f args) w
def wd {fn : Func}(hf : P.funcs[f]? = some fn)(hn : (fn.name == "runtime.NumGoroutine") = false)(hb : fn.body.isNone = false) : Enters P f := fun args w => by
 have hn' : fn.name ≠ "runtime.NumGoroutine" := by simpa using hn
 have hb':fn.body≠none:=λh=>by rw[h]at hb;cases hb
 simp[callFunc,hf,hn',hb']
def tH (hf:Enters P f)(hv:xs.toList.map (ev N e)=vs)(hc:Calls P f vs.toArray w (aC w R))(hk:∀v w',bF w w'->R v w'->K (act N (upd e d v) ds) w'):Oper.wpIn (Fw r) n P ⟨some d,.call {callee:=.value (.func f),args:=xs,argTypes:=ats},ty,pos,af,g⟩ (act N e ds) w K Q:=by
 subst hv
 refine xi (f:=f) (args:=xs.map (ev N e)) (R:=R) Z ?_ (by have h:=hc;rwa [show(xs.toList.map (ev N e)).toArray=xs.map (ev N e)by rw[<-Array.toList_map,Array.toArray_toList]]at h) (λv w' h1 h2=>by rw[aw];exact hk v w' h1 h2)
 simp[execOp,resolve,Deferred.ofValue,ev,invoke,hf _ _]
def Du (hf:Enters P f)(hx:ev N e x=.func (.func f) #[] lb.toArray)(hv:xs.toList.map (ev N e)=vs)(hc:Calls P f (vs++lb).toArray w (aC w R))(hk:∀v w',bF w w'->R v w'->K (act N (upd e d v) ds) w'):Oper.wpIn (Fw r) n P ⟨some d,.call {callee:=.value x,args:=xs,argTypes:=ats},ty,pos,af,g⟩ (act N e ds) w K Q:=by
 subst hv
 have h2:xs.map (ev N e)++lb.toArray=(xs.toList.map (ev N e)++lb).toArray:=by simp
 refine xi (f:=f) (args:=xs.map (ev N e)++lb.toArray) (R:=R) Z ?_ (by rw[h2];exact hc) (λv w' h1 h2=>by rw[aw];exact hk v w' h1 h2)
 simp[execOp,resolve,Deferred.ofValue,hx,invoke,hf _ _]
end calls
section draws
variable {r:Option Nat}{e0:Nat->Value}{Q:Exit->Act->World->Prop}{ops:Array Oper}
def kQ (hc:Region.chainB .any ops M=true)(hwf:∀(i:Nat) (o:Oper),ops[i]?=some o->∀e∈o.after,Region.binds .any e=true->e.on<i):
 ∀ (m k:Nat) (listed:Array Bool) (a:Act) (w:World) (fuel:Nat),k+m=ops.size->M<=k->listed.size=ops.size->(∀i,i<k->listed.getD i false=true)->(∀i,k<=i->i<ops.size->listed.getD i true=false)->m<=fuel->
  wpListIn (Fw r) n P ops Q (ops.toList.drop k) a w->wpAnyIn (Fw r) n P .any ops Q fuel listed a w:=by
 intro m
 induction m with
 | zero=>
   intro k listed a w fuel hk hM A2 hl qr hf h
   have hd:ops.toList.drop k=[]:=List.drop_eq_nil_of_le Hx
   rw[hd]at h
   have hr:Region.ready .any ops listed=[]:=by
    cases hr:Region.ready .any ops listed with
    |nil=>rfl
    | cons i l=>
      have hi:i∈Region.ready .any ops listed:=by rw[hr];simp
      obtain⟨h1,o,ho,_⟩:=mem_ready.1 hi
      have W:=(Array.getElem?_eq_some_iff.1 ho).1
      have h2:=hl i J
      have h3:i<listed.size:=J
      simp[h3]at h1 h2
      rw[h1]at h2
      cases h2
   cases fuel with
   |zero=>exact⟨hr,h⟩
   |succ f=>exact⟨λ_=>h,λi hi=>by rw[hr]at hi;cases hi⟩
 | succ m ih=>
   intro k listed a w fuel hk hM A2 hl qr hf h
   have W:k<ops.size:=J
   have A1:ops[k]?=some ops[k]:=Array.getElem?_eq_getElem W
   have hd:ops.toList.drop k=ops[k]::ops.toList.drop (k+1):=by
    rw[List.drop_eq_getElem_cons (by simpa using W)];simp
   rw[hd]at h
   have Ab:k∈Region.ready .any ops listed:=mem_ready.2 ⟨qr k (qa0 k) W,ops[k],A1,λe qn hb=>hl _ (hwf k _ A1 e qn hb)⟩
   cases fuel with
   |zero=>omega
   | succ f=>
     refine⟨λAr=>(by rw[Ar]at Ab;cases Ab),λi hi=>?_⟩
     obtain⟨h1,o,ho,Ao⟩:=mem_ready.1 hi
     have Ad:=(Array.getElem?_eq_some_iff.1 ho).1
     have As:k<=i:=by
      rcases Nat.lt_or_ge i k with hh|hh
      · have h2:=hl i hh
        have h3:i<listed.size:=J
        simp[h3]at h1 h2
        rw[h1]at h2
        cases h2
      · exact hh
     have Av:i=k:=by
      rcases Nat.eq_or_lt_of_le As with hh|hh
      · exact hh.symm
      · have O:=List.all_eq_true.1 hc i (List.mem_range.2 Ad)
        simp only[Bool.or_eq_true,decide_eq_true_eq]at O
        rcases O with O|O
        · omega
        · obtain⟨o',Af,e,qn,hb,Ap⟩:=Region.waitsFor_spec O
          have:o'=o:=qb4 (Af.symm.trans ho)
          subst this
          have h2:=Ao e qn hb
          have h3:=qr (i-1) J J
          rw[Ap,getD_both h3]at h2
          cases h2
     subst Av
     have step:∀a w,wpListIn (Fw r) n P ops Q (ops.toList.drop (i+1)) a w->wpAnyIn (Fw r) n P .any ops Q f (listed.setIfInBounds i true) a w:=λa w h=>
      ih (i+1) _ a w f J J (by simp[A2]) (λj Aq=>by
       by_cases hji:i=j
       · subst hji;simp[A2,Ad]
       · rw[getD_set_ne false hji];exact hl j J) (λj Aq Am=>by rw[getD_set_ne true J];exact qr j J Am) J h
     unfold wpOpIn
     rw[A1]
     unfold wpListIn at h
     dsimp only
     split
     · rename_i hw;rw[if_pos hw]at h;exact Oper.wpIn_mono step h
     · rename_i hw;rw[if_neg hw]at h;exact⟨h.1,step _ _ h.2⟩
def left (ops:Array Oper)(listed:Array Bool):Nat:=((List.range ops.size).filter λi=>!listed.getD i false).length
def kR {listed:Array Bool}(hi:i<ops.size)(hs:listed.size=ops.size)(h:listed.getD i false=false):left ops (listed.setIfInBounds i true)+1<=left ops listed:=by
 unfold left
 have key:∀l:List Nat,l.Nodup->(∀j∈l,j<ops.size)->((l.filter λj=> !(listed.setIfInBounds i true).getD j false).length+(if i∈l then 1 else 0)<=(l.filter λj=> !listed.getD j false).length):=by
  intro l
  induction l with
  |nil=>simp
  | cons j l ih=>
    intro qr hb
    obtain⟨qn,A1⟩:=List.nodup_cons.1 qr
    have O:=ih A1 (λx hx=>hb x ke5)
    by_cases hij:i=j
    · subst hij
      rw[if_neg qn]at O
      have h1:(listed.setIfInBounds i true).getD i false=true:=by simp[hs,hi]
      rw[List.filter_cons,List.filter_cons,h1,h]
      simp only[Bool.not_true,Bool.false_eq_true,if_false,Bool.not_false,if_true,List.length_cons,List.mem_cons,true_or]
      omega
    · have h1:(listed.setIfInBounds i true).getD j false=listed.getD j false:=getD_set_ne false hij
      rw[List.filter_cons,List.filter_cons,h1]
      have h3:(if i∈j::l then 1 else 0)=(if i∈l then(1:Nat)else 0):=by simp[hij]
      rw[h3]
      cases listed.getD j false
      · simp only[Bool.not_false,if_true,List.length_cons];omega
      · simp only[Bool.not_true,Bool.false_eq_true,if_false];exact O
 have:=key (List.range ops.size) List.nodup_range (λj W=>List.mem_range.1 W)
 rw[if_pos (List.mem_range.2 hi)]at this
 exact this
def qD {listed:Array Bool}(hM:M<=ops.size)(h:∀i,M<=i->i<ops.size->listed.getD i false=false):ops.size-M<=left ops listed:=by
 unfold left
 have h1:List.range ops.size=List.range' 0 M++List.range' M (ops.size-M):=by
  have h3:=List.range'_append (s:=0) (m:=M) (n:=ops.size-M) (step:=1)
  simp only[Nat.zero_add,Nat.one_mul]at h3
  rw[List.range_eq_range',h3]
  congr 1;omega
 rw[h1,List.filter_append,List.length_append]
 have h2:(List.range' M (ops.size-M)).filter (λi=> !listed.getD i false)=List.range' M (ops.size-M):=by
  rw[List.filter_eq_self]
  intro i hi
  rw[List.mem_range'_1]at hi
  rw[h i hi.1 J];rfl
 rw[h2,List.length_range']
 omega
def jI {o:Oper}{a:Act}{K K':Act->World->Prop}{Q Q':Exit->Act->World->Prop}(h:∀a w,K a w->K' a w)(hq:∀c a w,Q (.panic c) a w->Q' (.panic c) a w)(ho:∀a w,Q .outgrown a w->Q' .outgrown a w)(hh:o.wpIn (Fw r) n P a w K Q):o.wpIn (Fw r) n P a w K' Q':=by
 unfold Oper.wpIn at *
 refine⟨hh.1,?_⟩
 have hh:=hh.2
 have hl:LetsOut Q->LetsOut Q':=fun⟨a,w,h⟩=>⟨a,w,ho a w h⟩
 generalize (o.semAt (Fw r).round a.eval).run P w=r at *
 cases r with
 | ok x w'=>
   cases x <;>simp only[Oper.uponIn]at hh ⊢ <;>
    first
     |exact h _ _ hh
     |exact⟨hh.1,CallsIn.mono hh.2 (λe w'' O=>by cases e <;>first|exact h _ _ O|exact hq _ _ _ O|exact hl O)⟩
     |exact⟨hh.1,RowsIn.mono hh.2 (λ_ _ O=>h _ _ O)⟩
     |exact⟨hh.1,RoundIn.mono hh.2 (λe w'' O=>by cases e <;>first|exact h _ _ O|exact hq _ _ _ O|exact hl O)⟩
 |halt x w'=>cases x <;>simp only[Oper.uponIn]at hh ⊢ <;>first|exact hq _ _ _ hh|exact hh
def tI (l:List Oper)(M t:Nat):Bool:=(l.take M).any λo=>match o.dst with|some d=>Nat.beq d t|none=>false
def dv (o:Oper)(j:Nat):Bool:=o.after.toList.any λed=>Region.binds .any ed&&Nat.beq ed.on j
def OI (l:List Oper):Bool:=(List.range l.length).all λi=>match l[i]? with|some o=>o.after.toList.all λed=>!Region.binds .any ed||Nat.blt ed.on i|none=>true
def kn (l:List Oper)(M:Nat):Bool:=(Region.sinkB .any l.toArray M&&Region.chainB .any l.toArray M&&Nat.blt M l.length)||Nat.beq M l.length
def PW (l:List Oper)(M:Nat):Bool:=(List.range M).all λi=>(List.range M).all λj=>Nat.beq i j||(match eh l i,eh l j with|some a,some b=>!Nat.beq a b|_,_=>true)
def phi (φs:List (Value->World->Prop))(j:Nat):Value->World->Prop:=match φs[j]? with|some φ=>φ|none=>λ_ _=>True
def BD (R:World->World->Prop):List (Value->World->Prop)->Prop
 |[]=>True
 |φ::φs=>(∀v w w',R w w'->φ v w->φ v w')/\BD R φs
def tJ {R:World->World->Prop}:∀{φs:List (Value->World->Prop)},BD R φs->∀i v w w',R w w'->phi φs i v w->phi φs i v w'
 |[],_,i,v,w,w',_,_=>by simp[phi]
 |φ::φs,h,0,v,w,w',hR,hv=>h.1 v w w' hR hv
 | φ::φs,h,i+1,v,w,w',hR,hv=>by
   have:=tJ h.2 i v w w' hR
   simp only[phi,List.getElem?_cons_succ]at this hv ⊢
   exact this hv
end draws
end Go.Eng
namespace Go.Proofs.YthpinljhfnodeaaGreatDoor
open Go Go.Eng Go.RowKit Tryz
def mf:gK prog 3 (.int .i64 0) 1 8:=by unfold gK;kernel_rfl
def WQ:gK prog 4 (.bool false) 1 1:=by unfold gK;kernel_rfl
def WR:gK prog 5 (.int .u8 0) 1 1:=by unfold gK;kernel_rfl
def lT:gK prog 34 (.int .i64 0) 1 8:=by unfold gK;kernel_rfl
def aQ:gK prog 25 (.agg #[S [],S []]) 2 32:=by unfold gK;kernel_rfl
def zc:gK prog 30 (.agg #[.int .i64 0,.int .i64 0]) 2 16:=by unfold gK;kernel_rfl
def BE:gK prog 150 (.slice none 0 0) 1 24:=by unfold gK;kernel_rfl
def cC:gK prog 152 (.agg #[.bool false,.slice none 0 0]) 2 32:=by unfold gK;kernel_rfl
def PX:gK prog 211 (.nilFunc) 1 8:=by unfold gK;kernel_rfl
def PY:gK prog 183 (.agg #[.pointer none,.slice none 0 0]) 2 32:=by unfold gK;kernel_rfl
def BF:gK prog 120 (.agg #[.bool false]) 1 1:=by unfold gK;kernel_rfl
def ap:gK prog 33 (.agg #[S [],S [],S [],S []]) 4 64:=by unfold gK;kernel_rfl
def L9:gK prog 57 (.nilFunc) 1 8:=by unfold gK;kernel_rfl
def m5:gK prog 128 (.agg #[S [],S [],S [],S [],S [],S [],S [],S [],.nilFunc]) 9 136:=by unfold gK;kernel_rfl
def oS:gK prog 123 (.agg #[.int .i64 0,S []]) 2 24:=by unfold gK;kernel_rfl
def cO:gK prog 165 (.agg #[S [],S []]) 2 32:=by unfold gK;kernel_rfl
def Ma:gK prog 96 (.nilFunc) 1 8:=by unfold gK;kernel_rfl
def Mb:gK prog 253 (.nilFunc) 1 8:=by unfold gK;kernel_rfl
def sL:gK prog 59 (.agg #[.int .i64 0,.nilFunc]) 2 16:=by unfold gK;kernel_rfl
def Mc:gK prog 70 (.nilFunc) 1 8:=by unfold gK;kernel_rfl
def cj:gK prog 191 (.agg #[S [],S []]) 2 32:=by unfold gK;kernel_rfl
def eP:(prog.info? 3).map (·.size)=some 1:=by kernel_rfl
def WS:(prog.info? 4).map (·.size)=some 1:=by kernel_rfl
def OJ:(prog.info? 9).map (·.size)=some 1:=by kernel_rfl
def WT:(prog.info? 34).map (·.size)=some 1:=by kernel_rfl
def aM:(prog.info? 25).map (·.size)=some 2:=by kernel_rfl
def Md:(prog.info? 30).map (·.size)=some 2:=by kernel_rfl
def mg:(prog.info? 150).map (·.size)=some 1:=by kernel_rfl
def mh:(prog.info? 152).map (·.size)=some 2:=by kernel_rfl
def TW:(prog.info? 211).map (·.size)=some 1:=by kernel_rfl
def ay:(prog.info? 33).map (·.size)=some 4:=by kernel_rfl
def oi:(prog.info? 57).map (·.size)=some 1:=by kernel_rfl
def G7:(prog.info? 125).map (·.size)=some 1:=by kernel_rfl
def mi:(prog.info? 128).map (·.size)=some 9:=by kernel_rfl
def G8:(prog.info? 123).map (·.size)=some 2:=by kernel_rfl
def fZ:(prog.info? 165).map (·.size)=some 2:=by kernel_rfl
def PZ:(prog.info? 96).map (·.size)=some 1:=by kernel_rfl
def P0:(prog.info? 253).map (·.size)=some 1:=by kernel_rfl
def P3:(prog.info? 22).map (·.size)=some 7:=by kernel_rfl
def xn:(prog.info? 59).map (·.size)=some 2:=by kernel_rfl
def P5:(prog.info? 70).map (·.size)=some 1:=by kernel_rfl
def P6:(prog.info? 89).map (·.size)=some 1:=by kernel_rfl
def cD:(prog.info? 27).map (·.size)=some 14:=by kernel_rfl
def bZ:(prog.info? 191).map (·.size)=some 2:=by kernel_rfl
def U3:=underlying3
def U4:=underlying4
def U5:=underlying5
def U9:=underlying9
def kS:=underlying94
def ju:=underlying107
def G9:=underlying34
def eB:=underlying25
def y5:=underlying30
def TX:=underlying196
def hO:=underlying150
def kT:=underlying152
def TY:=underlying148
def TZ:=underlying120
def aJ:=underlying33
def nL:=underlying128
def lU:=underlying123
def jr:=underlying165
def gE:=underlying80
def rI:=underlying22
def rJ:=underlying59
def aP:=underlying27
def gX:=underlying191
def Ha:=underlying31
def bI {f : FuncId}{fn : Func}(hf : prog.funcs[f]? = some fn)(hn : (fn.name == "runtime.NumGoroutine") = false := by kernel_rfl)(hb : fn.body.isNone = false := by kernel_rfl) : Enters prog f := wd hf hn hb
def BG:=bI func17
def WU:=bI func112
def T0:=bI func46
def ko:=bI func77
def BH:=bI func47
def WV:=bI func45
def qE:=bI func43
def Me:=bI func44
def ss:=bI func92
def xo:=bI func144
def WW:=bI func156
def T1:=bI func90
def Mf:=bI func86
def qF:=bI func73
def Fp:=bI func129
def zd:=bI func125
def vM:=bI func88
def tK:=bI func85
def Mg:=bI func93
def T5:=bI func75
def P7:=bI func91
def jh:=bI func84
def P8:=bI func87
def Hb:=bI func89
def qG:=bI func137
def xp:=bI func141
def Hc:=bI func180
def OK:=bI func139
def tL:=bI func115
def He:=bI func126
def kU:=bI func146
def Dv:=bI func171
def ze:=bI func172
def T6:=bI func173
def Dw:=bI func174
def mj:=bI func148
def zf:=bI func170
def OL:=bI func140
def OM:=bI func142
def Dx:=bI func143
def tM:=bI func138
def ON:=bI func128
def we:=bI func179
def wg:=bI func157
def OO:=bI func181
def Dy:=bI func182
def rK:=bI func213
def Dz:=bI func214
def T7:=bI func215
def T8:=bI func216
def Hf:=bI func217
def T9:=bI func218
def zg:=bI func219
def Ua:=bI func220
def Hg:=bI func117
def Hh:=bI func160
def OP:=bI func183
def Ub:=bI func184
def OQ:=bI func212
def DC:=bI func74
def Uc:=bI func189
def Ud:=bI func222
def DD:=bI func223
def Ue:=bI func256
def OR:=bI func123
def wh:=bI func255
def Hi:=bI func169
def DF:=bI func49
def OS:=bI func81
def Uf:=bI func98
def oT:=bI func50
def OT:=bI func94
def Hj:=bI func95
def DG:=bI func135
def rL:=bI func136
def tN:=bI func116
def DI:=bI func96
def rM:=bI func145
def OU:=bI func147
def OV:=bI func178
def DJ:=bI func158
def Ug:=bI func221
def Uh:=bI func190
def P9:=bI func69
def Qa:=bI func167
def BI:=bI func28
def ew:=bI func118
def Hk:=bI func162
def Qb:=bI func205
def BJ:=bI func248
def Qc:=bI func206
def BK:=bI func161
def Qd:=bI func122
def ia:=bI func119
def Hl:=bI func199
def qH:=bI func121
def iB:=bI func195
def xq:=bI func196
def ml:=bI func209
def lA:=bI func66
def tO:=bI func54
def BL:=bI func168
def Qe:=bI func120
def BM:=bI func78
def qI:=bI func80
def xr:=bI func83
def Hm:=bI func42
def tP:=bI func67
def Hn:=bI func198
def xu:=bI func197
def tQ:=bI func204
def Ho:=bI func201
def Hp:=bI func202
def Qf:=bI func251
def tR:=bI func200
def Hq:=bI func165
def BN:=bI func166
def Qg:=bI func102
def tS:=bI func103
def Hr:=bI func71
def Hs:=bI func72
def Qh:=bI func210
def Qi:=bI func211
def Qj:=bI func163
def Ht:=bI func164
def Qk:=bI func130
def BO:=bI func132
def Hu:=bI func133
def Ql:=bI func134
def Qm:=bI func207
def Qn:=bI func208
def Qo:=bI func249
def Qp:=bI func250
def Hw:=bI func124
def Qq:=bI func253
def Qr:=bI func254
def Qs:=bI func203
def Qt:=bI func177
def Hy:=bI func252
def Qu:=bI func101
def Hz:=bI func38
def Qw:=bI func149
def Qx:=bI func14
def Qy:=bI func79
def HA:=bI func82
def HB:=bI func104
def lB:=bI func29
def BP:=bI func35
def ol:=bI func36
def xv:=bI func30
def xw:=bI func31
def tT:=bI func37
def xx:=bI func39
def qJ:=bI func40
def gQ:=bI func41
def HC:=bI func76
def BQ:=bI func33
def HD:=bI func68
def qK:=bI func70
def mo:=bI func55
def gd:=bI func48
def Qz:=bI func53
def QA:=bI func4
def QB:=bI func5
def xy:=bI func6
def ic:=bI func11
def HE:=bI func12
def xz:=bI func7
def BR:=bI func9
def qL:=bI func16
def HF:=bI func13
def ot:=bI func15
def ou:=bI func18
def lC:=bI func19
def kp:=bI func20
def gR:=bI func21
def BU:=bI func32
def tU:=bI func22
def QC:=bI func23
def QD:=bI func24
def QE:=bI func26
def QF:=bI func27
def xA:=bI func34
def QG:=bI func51
def QH:=bI func52
def HG:=bI func97
def QI:=bI func99
def QJ:=bI func100
def QK:=bI func151
def QM:=bI func154
def lD:=bI func152
def kq:=bI func263
def eC:=bI func153
def xB:=bI func188
def ie:=bI func187
def lE:=bI func233
def mr:=bI func105
def HH:=bI func186
def BV:=bI func226
def QN:=bI func225
def QO:=bI func227
def xC:=bI func228
def HI:=bI func230
def xD:=bI func231
def ow:=bI func260
def tV:=bI func261
def BW:=bI func262
def QP:=bI func265
def QQ:=bI func266
def HJ:=bI func282
def xE:=bI func291
def HK:=bI func8
def HL:=bI func10
def HM:=bI func25
def HN:=bI func56
def QR:=bI func57
def fg:=bI func58
def xF:=bI func59
def QS:=bI func60
def HO:=bI func61
def QT:=bI func62
def ms:=bI func63
def xG:=bI func64
def QU:=bI func65
def xH:=bI func106
def HP:=bI func107
def HQ:=bI func108
def HR:=bI func109
def tW:=bI func110
def BX:=bI func111
def QW:=bI func113
def QX:=bI func114
def HS:=bI func150
def QY:=bI func155
def QZ:=bI func185
def g8:prog.follows .mixedOrders=true:=by kernel_rfl
end Go.Proofs.YthpinljhfnodeaaGreatDoor
