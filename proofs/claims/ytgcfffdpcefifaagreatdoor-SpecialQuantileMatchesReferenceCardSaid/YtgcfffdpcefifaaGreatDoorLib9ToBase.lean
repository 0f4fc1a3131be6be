/- Part of the proof of a statement about special functions. -/
import Derived.Shelf.Strings.BuilderK
import Derived.Shelf.Strings.SlTrimAscii
import Derived.Shelf.Strconv.Atoi
import Derived.Shelf.LaysM
import Derived.Shelf.Strconv.Itoa3
import Derived.Shelf.Strings.Prefix
import Derived.Shelf.Strings.Repeat
import Derived.Test.YtgcfffdpcefifaaGreatDoorProg
import Derived.WalkKit
import Derived.WalkSpells
import Derived.WalkLawsBesides
import Derived.OrdersIn
import Derived.TacticsIn
import Derived.RangeFuncFrom
import Derived.RangeFuncCalls
import Derived.RangeFuncLeaves
import Derived.Maps.AppendAt
import Derived.Deep.MidRow
import Derived.Laws.OwnMore
import Derived.LoopNIn
import Derived.StillTail
import Derived.KernelRfl
set_option linter.all false
theorem Z.{u}{α:Sort u}{a:α}:a=a:=.refl a
theorem V4{p:Prop}(h:p:=by simp only[eR];omega):p:=h
theorem V3{p:Prop}(h:p:=by rw[gh (gE h),jr (ge h)];rfl):p:=h
theorem V2{p:Prop}(h:p:=by rw[jr (gE h),gh (ge h)];rfl):p:=h
theorem V1{p:Prop}(h:p:=by have:=r1.2;omega):p:=h
theorem V0{p:Prop}(h:p:=by have:=r2.2;omega):p:=h
theorem VZ{p:Prop}(h:p:=by simp only[List.mem_singleton];rintro b rfl;exact Aw):p:=h
theorem VY{p:Prop}(h:p:=by simp only[List.mem_singleton];rintro b rfl;exact M3):p:=h
theorem VX{p:Prop}(h:p:=by rw[E];rfl):p:=h
theorem VW{p:Prop}(h:p:=by decide +kernel):p:=h
theorem VV{p:Prop}(h:p:=by simp[exitTo,hk]):p:=h
theorem VU{p:Prop}(h:p:=by simpa using Nat.eq_of_beq_eq_true h):p:=h
theorem VT{p:Prop}(h:p:=by have:=hy.2;unfold Fi;omega):p:=h
theorem VS{p:Prop}(h:p:=by rw[h1.len];omega):p:=h
theorem VR{p:Prop}(h:p:=by subst hc;simp[binOp,Op.intArith,j7 hr]):p:=h
theorem VQ{p:Prop}(h:p:=by have:=hR.lt;omega):p:=h
theorem VP{p:Prop}(h:p:=by intro hk;first|omega|(rw[E])):p:=h
theorem VO{p:Prop}(h:p:=by rw[qz (gR h1.lt _),wrap_u8 (by have:=gR h1.lt (n1-1-k);omega)]):p:=h
theorem VN{p:Prop}(h:p:=by first|exact uS aB|exact uT aB|exact uV aB):p:=h
theorem VM{p:Prop}(h:p:=by subst hq;simp[binOp,Op.intCmp]):p:=h
theorem VK{p:Prop}(h:p:=by have:=fT1.2;have:=(hR.bd k ML).2;simp only[dA]at *;unfold Fi;omega):p:=h
theorem VJ{p:Prop}(h:p:=by simpa using h):p:=h
theorem VI{p:Prop}(h:p:=by subst hq;simp[binOp,Op.stringOp,S];exact Bool.eq_iff_iff.2 (by simp)):p:=h
theorem VH{p:Prop}(h:p:=by first|exact ep bX|exact fP bX E|exact fQ bX E):p:=h
theorem VG{p:Prop}(h:p:=by simpa using ho):p:=h
theorem VF{p:Prop}(h:p:=by rw[ha.int,hb.int];rfl):p:=h
theorem VE{p:Prop}(h:p:=by rw[inv.size];exact hl):p:=h
theorem VD{p:Prop}(h:p:=by rw[ai];exact hk _ (a8.alloc _ _) (by simp) (by unfold ae;exact heap_alloc_new w _)):p:=h
theorem VC{p:Prop}(h:p:=by rw[List.size_toArray,cY];rw[ei,List.length_cons];omega):p:=h
theorem VB{p:Prop}(h:p:=by assumption):p:=h
theorem VA{p:Prop}(h:p:=by first|exact Or.inl ⟨by omega,h48⟩|(have:(l).length=1:=by rw[h48];rfl);exact Or.inr ⟨by omega,h48⟩):p:=h
theorem Vz{p:Prop}(h:p:=by rw[mz];exact qb1 gg (by first|exact uS aB|exact uT aB|exact uV aB)):p:=h
theorem Vy{p:Prop}(h:p:=by first|exact Or.inl ⟨by omega,h48⟩|(have:((l).drop 1).length=1:=by rw[h48];rfl);exact Or.inr ⟨by omega,h48⟩):p:=h
theorem Vx{p:Prop}(h:p:=by first|exact Or.inl U|exact Or.inr ⟨by omega,by omega⟩):p:=h
theorem Vw{p:Prop}(h:p:=by intro b hb;simp only[List.mem_cons,List.not_mem_nil,or_false]at hb;rcases hb with rfl|rfl|rfl;exact NT;exact ND;exact Na):p:=h
theorem Vv{p:Prop}(h:p:=by simp only[maxLen];omega):p:=h
theorem Vu{p:Prop}(h:p:=by rw[ei,List.length_cons];omega):p:=h
theorem Vt{p:Prop}(h:p:=by first|exact o4 D bh bh|exact o5 D bh bh|exact o6 D bh bh|exact o7 D bh bh):p:=h
theorem Vs{p:Prop}(h:p:=by first|exact nG _ kk ce|exact nH kk ce ce|exact nI kk ce ce|(rw[Ao];exact lD _)):p:=h
theorem Vr{p:Prop}(h:p:=by rw[Nat.one_mul];exact hS.fi):p:=h
theorem Vq{p:Prop}(h:p:=by first|exact zr aQ|exact zs aQ|exact zt aQ|exact zu aQ|exact sX aQ aQ aQ aQ aQ):p:=h
theorem Vp{p:Prop}(h:p:=by first|exact iy aB|exact iz aB|exact iA aB|exact iB aB aB aB aB|exact iC aB aB aB aB):p:=h
theorem Vo{p:Prop}(h:p:=by first|exact iy ac|exact iz ac|exact iA ac|exact iB ac ac ac ac|exact iC ac ac ac ac):p:=h
theorem Vn{p:Prop}(h:p:=by first|exact eq (e8 cv cw) G E.1 E.2 O bX|exact eu (e8 cv cw) G E.1 bX):p:=h
theorem Vm{p:Prop}(h:p:=by unfold In64;decide):p:=h
theorem Vl{p:Prop}(h:p:=by rw[ai];exact hk):p:=h
theorem Vk{p:Prop}(h:p:=by simp):p:=h
theorem Vj{p:Prop}(h:p:=by first|exact eq O E H.1 H.2 kd di|exact eu O E H.1 di|(rw[jU E];rfl)):p:=h
theorem Vi{p:Prop}(h:p:=by simp[Value.ownBlock];omega):p:=h
theorem Vh{p:Prop}(h:p:=by rw[Nat.mul_one]):p:=h
theorem Vg{p:Prop}(h:p:=by first|exact Or.inr U|exact Or.inl (by simp)):p:=h
theorem Vf{p:Prop}(h:p:=by with_reducible first|exact And.right dq|assumption):p:=h
theorem Ve{p:Prop}(h:p:=by exact Z):p:=h
theorem Vd{p:Prop}(h:p:=by first|exact pd h1.len h2.len U|exact pf h1.len h2.len U|exact lK h1.len h2.len U U G U|exact lL h1.len h2.len U U G U|exact pg h1.len h2.len U (λi hi=>G i U hi)):p:=h
theorem Vc{p:Prop}(h:p:=by first|(rw[kN ac];rfl)|(rw[kO ac];rfl)|(rw[fU ac ac ac,gz ac];rfl)|(rw[fU ac ac ac,gA ac];rfl)|(rw[fV ac ac ac,gz ac];rfl)|(rw[fV ac ac ac,gA ac];rfl)):p:=h
theorem Vb{p:Prop}(h:p:=by simp[Value.oneCell',S]):p:=h
theorem Va{p:Prop}(h:p:=by simp;omega):p:=h
theorem JT{p:Prop}(h:p:=by unfold In64;omega):p:=h
theorem z1{p:Prop}(h:p:=by unfold Fz;omega):p:=h
theorem J{p:Prop}(h:p:=by omega):p:=h
theorem zl{p:Prop}(h:p:=by first|exact xX hb ag|exact xY hb ag|exact xZ hb ag|exact nN hb ag (dig_lo ag)|exact nN hb ag (dig_hi ag)|exact x3 hb ag|exact x4 hb E ag ag ag ag|(exfalso;omega)):p:=h
theorem q0{p:Prop}(h:p:=by kernel_rfl):p:=h
def qa0:=@Nat.le_refl
def qa1:=@decide_eq_true
def qa2:=@decide_eq_false
def qa3:=@Nat.le_of_ble_eq_true
def qa4:=@Bool.eq_false_or_eq_true
def qa5:=@List.getElem?_eq_getElem
def qa6:=@List.getElem?_eq_none
def qa7:=@Nat.zero_le
def qa8:=@Nat.le_trans
def qa9:=@List.mem_of_getElem?
def qb0:=@Nat.lt_of_lt_of_le
def qb1:=@congrArg
def qb2:=@List.length_take
def qb3:=@Nat.eq_of_beq_eq_true
def qb4:=@Option.some.inj
def qb5:=@Classical.byContradiction
def qb6:=@Int.natAbs_mul
def qb7:=@Nat.mul_le_mul
namespace Go.Proofs
open Go.Shelf
def Tryz.lays169_ren:Go.Shelf.Ren:=⟨fun |169=>104|n=>n,fun |70=>111|9=>9|0=>0|72=>114|37=>112|127=>160|3=>3|5=>5|n=>n,fun |n=>n⟩
def Tryz.lays169:Go.Proofs.Lays.n169 prog Tryz.lays169_ren:={
 mixed:=by kernel_rfl
 f169:=func104.trans (qb1 some q0)
 t0:=underlying0
 a0:=Tryz.isAgg0
 z0:=Tryz.sizeOf0
 v0:=Tryz.zeroValue0
 t3:=underlying3
 a3:=Tryz.isAgg3
 z3:=Tryz.sizeOf3
 v3:=Tryz.zeroValue3
 t9:=underlying9
 a9:=Tryz.isAgg9
 z9:=Tryz.sizeOf9
 v9:=Tryz.zeroValue9
 t37:=underlying112
 a37:=Tryz.isAgg112
 z37:=Tryz.sizeOf112
 v37:=Tryz.zeroValue112
 t70:=underlying111
 a70:=Tryz.isAgg111
 z70:=Tryz.sizeOf111
 v70:=Tryz.zeroValue111
 t72:=underlying114
 a72:=Tryz.isAgg114
 z72:=Tryz.sizeOf114
 v72:=Tryz.zeroValue114
 t127:=underlying160
 a127:=Tryz.isAgg160
 z127:=Tryz.sizeOf160
 v127:=Tryz.zeroValue160}
def Tryz.Builder_Extra_169:Builder.Extra prog Tryz.lays169_ren:={
 sizeBuilder:=by kernel_rfl
 liesBuilder:=by kernel_rfl
 t5:=underlying5
 a5:=Tryz.isAgg5
 z5:=Tryz.sizeOf5
 v5:=Tryz.zeroValue5
 infoByte:=by kernel_rfl
 cellsByte:=by kernel_rfl
 sizeByte:=by kernel_rfl
 neB5:=by decide}
open Go.RowKit in
def Tryz.Builder_String_any_k (B b:Nat)(l:List UInt8)(w:World)(h:Lib.IsBuilderF 114 5 B b (Lib.byteCells l) w)(hBw:B<=w.heap.size):
 Calls prog 104 #[.pointer (some ⟨b,0,none⟩)] w λe w'=>e=.returned (.string ⟨l.toArray⟩)/\(Lib.IsBuilderF 114 5 B b (Lib.byteCells l) w'/\Below B w w'/\Lib.OthersKept 5 (some b) w w'):=Any.Builder_String_any_k Tryz.lays169 Tryz.Builder_Extra_169 B b l w h hBw
def Tryz.lays172_ren:Go.Shelf.Ren:=⟨fun |172=>157|244=>198|245=>199|247=>214|279=>215|280=>216|281=>217|282=>218|287=>228|316=>229|171=>98|205=>230|321=>237|322=>238|243=>149|246=>187|283=>206|284=>207|285=>208|286=>209|129=>221|317=>220|318=>222|319=>223|320=>224|337=>231|338=>232|n=>n,fun |9=>9|3=>3|75=>117|76=>118|4=>4|5=>5|167=>204|37=>112|0=>0|85=>205|2=>2|168=>207|53=>157|175=>226|46=>108|210=>229|127=>160|145=>241|143=>239|21=>21|171=>195|173=>198|212=>222|51=>154|20=>20|213=>223|232=>242|233=>243|80=>121|n=>n,fun |15=>3|16=>4|17=>2|18=>7|19=>8|n=>n⟩
def Tryz.lays172:Go.Proofs.Lays.n172 prog Tryz.lays172_ren:={
 mixed:=by kernel_rfl
 f129:=func221.trans (qb1 some q0)
 f171:=func98.trans (qb1 some q0)
 f172:=func157.trans (qb1 some q0)
 f205:=func230.trans (qb1 some q0)
 f243:=func149.trans (qb1 some q0)
 f244:=func198.trans (qb1 some q0)
 f245:=func199.trans (qb1 some q0)
 f246:=func187.trans (qb1 some q0)
 f247:=func214.trans (qb1 some q0)
 f279:=func215.trans (qb1 some q0)
 f280:=func216.trans (qb1 some q0)
 f281:=func217.trans (qb1 some q0)
 f282:=func218.trans (qb1 some q0)
 f283:=func206.trans (qb1 some q0)
 f284:=func207.trans (qb1 some q0)
 f285:=func208.trans (qb1 some q0)
 f286:=func209.trans (qb1 some q0)
 f287:=func228.trans (qb1 some q0)
 f316:=func229.trans (qb1 some q0)
 f317:=func220.trans (qb1 some q0)
 f318:=func222.trans (qb1 some q0)
 f319:=func223.trans (qb1 some q0)
 f320:=func224.trans (qb1 some q0)
 f321:=func237.trans (qb1 some q0)
 f322:=func238.trans (qb1 some q0)
 f337:=func231.trans (qb1 some q0)
 f338:=func232.trans (qb1 some q0)
 t0:=underlying0
 a0:=Tryz.isAgg0
 z0:=Tryz.sizeOf0
 v0:=Tryz.zeroValue0
 t2:=underlying2
 a2:=Tryz.isAgg2
 z2:=Tryz.sizeOf2
 v2:=Tryz.zeroValue2
 t3:=underlying3
 a3:=Tryz.isAgg3
 z3:=Tryz.sizeOf3
 v3:=Tryz.zeroValue3
 t4:=underlying4
 a4:=Tryz.isAgg4
 z4:=Tryz.sizeOf4
 v4:=Tryz.zeroValue4
 t5:=underlying5
 a5:=Tryz.isAgg5
 z5:=Tryz.sizeOf5
 v5:=Tryz.zeroValue5
 t9:=underlying9
 a9:=Tryz.isAgg9
 z9:=Tryz.sizeOf9
 v9:=Tryz.zeroValue9
 t20:=underlying20
 a20:=Tryz.isAgg20
 z20:=Tryz.sizeOf20
 v20:=Tryz.zeroValue20
 t21:=underlying21
 a21:=Tryz.isAgg21
 z21:=Tryz.sizeOf21
 v21:=Tryz.zeroValue21
 t37:=underlying112
 a37:=Tryz.isAgg112
 z37:=Tryz.sizeOf112
 v37:=Tryz.zeroValue112
 t46:=underlying108
 a46:=Tryz.isAgg108
 z46:=Tryz.sizeOf108
 v46:=Tryz.zeroValue108
 t51:=underlying154
 a51:=Tryz.isAgg154
 z51:=Tryz.sizeOf154
 v51:=Tryz.zeroValue154
 t53:=underlying157
 a53:=Tryz.isAgg157
 z53:=Tryz.sizeOf157
 v53:=Tryz.zeroValue157
 t75:=underlying117
 a75:=Tryz.isAgg117
 z75:=Tryz.sizeOf117
 v75:=Tryz.zeroValue117
 t76:=underlying118
 a76:=Tryz.isAgg118
 z76:=Tryz.sizeOf118
 v76:=Tryz.zeroValue118
 t85:=underlying205
 a85:=Tryz.isAgg205
 z85:=Tryz.sizeOf205
 v85:=Tryz.zeroValue205
 t127:=underlying160
 a127:=Tryz.isAgg160
 z127:=Tryz.sizeOf160
 v127:=Tryz.zeroValue160
 t143:=underlying239
 a143:=Tryz.isAgg239
 z143:=Tryz.sizeOf239
 v143:=Tryz.zeroValue239
 t145:=underlying241
 a145:=Tryz.isAgg241
 z145:=Tryz.sizeOf241
 v145:=Tryz.zeroValue241
 t167:=underlying204
 a167:=Tryz.isAgg204
 z167:=Tryz.sizeOf204
 v167:=Tryz.zeroValue204
 t168:=underlying207
 a168:=Tryz.isAgg207
 z168:=Tryz.sizeOf207
 v168:=Tryz.zeroValue207
 t171:=underlying195
 a171:=Tryz.isAgg195
 z171:=Tryz.sizeOf195
 v171:=Tryz.zeroValue195
 t173:=underlying198
 a173:=Tryz.isAgg198
 z173:=Tryz.sizeOf198
 v173:=Tryz.zeroValue198
 t175:=underlying226
 a175:=Tryz.isAgg226
 z175:=Tryz.sizeOf226
 v175:=Tryz.zeroValue226
 t210:=underlying229
 a210:=Tryz.isAgg229
 z210:=Tryz.sizeOf229
 v210:=Tryz.zeroValue229
 t212:=underlying222
 a212:=Tryz.isAgg222
 z212:=Tryz.sizeOf222
 v212:=Tryz.zeroValue222
 t213:=underlying223
 a213:=Tryz.isAgg223
 z213:=Tryz.sizeOf223
 t232:=underlying242
 a232:=Tryz.isAgg242
 z232:=Tryz.sizeOf242
 v232:=Tryz.zeroValue242
 t233:=underlying243
 a233:=Tryz.isAgg243
 z233:=Tryz.sizeOf243
 v233:=Tryz.zeroValue243
 g15:=by kernel_rfl
 g16:=by kernel_rfl
 g17:=by kernel_rfl
 g18:=by kernel_rfl
 g19:=by kernel_rfl}
open Go.RowKit in
def Tryz.strconv_Atoi (s:ByteArray)(n:Int)(hl:s.size<=18)(h:Lib.atoi s.data.toList=some n)(w:World):
 Calls prog 157 #[.string s] w λe w'=>e=.returned (.tuple #[.int .i64 n,.nilIface])/\∃t,w'=Lib.bytesWorld w 5 t:=Any.strconv_Atoi Tryz.lays172 s n hl h w
def Tryz.laysM171_ren:Go.Shelf.Ren:=⟨fun |171=>98|243=>149|246=>187|283=>206|284=>207|285=>208|286=>209|129=>221|317=>220|318=>222|319=>223|320=>224|337=>231|338=>232|n=>n,fun |3=>3|9=>9|2=>2|4=>4|171=>195|0=>0|53=>157|37=>112|5=>5|173=>198|212=>222|51=>154|20=>20|213=>223|46=>108|232=>242|233=>243|n=>n,fun |17=>2|18=>7|19=>8|n=>n⟩
def Tryz.laysM171:Go.Proofs.LaysM.n171 prog Tryz.laysM171_ren:={
 mixed:=by kernel_rfl
 f129:=func221.trans (qb1 some q0)
 f171:=func98.trans (qb1 some q0)
 f243:=func149.trans (qb1 some q0)
 f246:=func187.trans (qb1 some q0)
 f283:=func206.trans (qb1 some q0)
 f284:=func207.trans (qb1 some q0)
 f285:=func208.trans (qb1 some q0)
 f286:=func209.trans (qb1 some q0)
 f317:=func220.trans (qb1 some q0)
 f318:=func222.trans (qb1 some q0)
 f319:=func223.trans (qb1 some q0)
 f320:=func224.trans (qb1 some q0)
 f337:=func231.trans (qb1 some q0)
 f338:=func232.trans (qb1 some q0)
 t0:=underlying0
 a0:=Tryz.isAgg0
 z0:=Tryz.sizeOf0
 v0:=Tryz.zeroValue0
 t2:=underlying2
 a2:=Tryz.isAgg2
 z2:=Tryz.sizeOf2
 v2:=Tryz.zeroValue2
 t3:=underlying3
 a3:=Tryz.isAgg3
 z3:=Tryz.sizeOf3
 v3:=Tryz.zeroValue3
 t4:=underlying4
 a4:=Tryz.isAgg4
 z4:=Tryz.sizeOf4
 v4:=Tryz.zeroValue4
 t5:=underlying5
 a5:=Tryz.isAgg5
 z5:=Tryz.sizeOf5
 v5:=Tryz.zeroValue5
 t9:=underlying9
 a9:=Tryz.isAgg9
 z9:=Tryz.sizeOf9
 v9:=Tryz.zeroValue9
 t20:=underlying20
 a20:=Tryz.isAgg20
 z20:=Tryz.sizeOf20
 v20:=Tryz.zeroValue20
 t37:=underlying112
 a37:=Tryz.isAgg112
 z37:=Tryz.sizeOf112
 v37:=Tryz.zeroValue112
 t46:=underlying108
 a46:=Tryz.isAgg108
 z46:=Tryz.sizeOf108
 v46:=Tryz.zeroValue108
 t51:=underlying154
 a51:=Tryz.isAgg154
 z51:=Tryz.sizeOf154
 v51:=Tryz.zeroValue154
 t53:=underlying157
 a53:=Tryz.isAgg157
 z53:=Tryz.sizeOf157
 v53:=Tryz.zeroValue157
 t171:=underlying195
 a171:=Tryz.isAgg195
 z171:=Tryz.sizeOf195
 v171:=Tryz.zeroValue195
 t173:=underlying198
 a173:=Tryz.isAgg198
 z173:=Tryz.sizeOf198
 v173:=Tryz.zeroValue198
 t212:=underlying222
 a212:=Tryz.isAgg222
 z212:=Tryz.sizeOf222
 v212:=Tryz.zeroValue222
 t213:=underlying223
 a213:=Tryz.isAgg223
 z213:=Tryz.sizeOf223
 t232:=underlying242
 a232:=Tryz.isAgg242
 z232:=Tryz.sizeOf242
 v232:=Tryz.zeroValue242
 t233:=underlying243
 a233:=Tryz.isAgg243
 z233:=Tryz.sizeOf243
 v233:=Tryz.zeroValue243
 g17:=by kernel_rfl
 g18:=by kernel_rfl
 g19:=by kernel_rfl
 i0:=by kernel_rfl
 i2:=by kernel_rfl
 i3:=by kernel_rfl
 i4:=by kernel_rfl
 i5:=by kernel_rfl
 i9:=by kernel_rfl
 i20:=by kernel_rfl
 i37:=by kernel_rfl
 i46:=by kernel_rfl
 i51:=by kernel_rfl
 i53:=by kernel_rfl
 i171:=by kernel_rfl
 i173:=by kernel_rfl
 i212:=by kernel_rfl
 i232:=by kernel_rfl
 i233:=by kernel_rfl
 m17:=by kernel_rfl
 m18:=by kernel_rfl
 m19:=by kernel_rfl}
open Go.RowKit Go.Sort Go.Lib in
def Tryz.strconv_Itoa (n : Int)(h0 : -9223372036854775808 ≤ n)(h1 : n ≤ 9223372036854775807)(w : World)(htab : Lib.TabIs prog w "internal/strconv.uint64pow10" .u64 Lib.pow10Tab) :
 Calls prog 98 #[.int .i64 n] w λe w'=>e=.returned (.string ⟨(Lib.itoa n).toArray⟩)/\∃k os,w'=grow (w.drewN k) os:=Any.strconv_Itoa Tryz.laysM171 n h0 h1 w htab
def Tryz.lays101_ren:Go.Shelf.Ren:=⟨fun |101=>99|208=>150|206=>93|n=>n,fun |9=>9|4=>4|3=>3|n=>n,fun |n=>n⟩
def Tryz.lays101:Go.Proofs.Lays.n101 prog Tryz.lays101_ren:={
 mixed:=by kernel_rfl
 f101:=func99.trans (qb1 some q0)
 f206:=func93.trans (qb1 some q0)
 f208:=func150.trans (qb1 some q0)
 t3:=underlying3
 a3:=Tryz.isAgg3
 z3:=Tryz.sizeOf3
 v3:=Tryz.zeroValue3
 t4:=underlying4
 a4:=Tryz.isAgg4
 z4:=Tryz.sizeOf4
 v4:=Tryz.zeroValue4
 t9:=underlying9
 a9:=Tryz.isAgg9
 z9:=Tryz.sizeOf9
 v9:=Tryz.zeroValue9}
open Go.RowKit Go.Lib in
def Tryz.strings_TrimPrefix (s p:ByteArray)(w:World):
 Calls prog 99 #[.string s,.string p] w λe w'=>e=.returned (.string ⟨(Lib.trimPrefix s.data.toList p.data.toList).toArray⟩)/\w'=w:=Any.strings_TrimPrefix Tryz.lays101 s p w
def Tryz.lays105_ren:Go.Shelf.Ren:=⟨fun |105=>56|212=>100|99=>49|165=>101|166=>102|170=>103|169=>104|263=>151|264=>152|206=>93|240=>153|241=>154|276=>188|277=>189|n=>n,fun |9=>9|3=>3|4=>4|20=>20|0=>0|46=>108|109=>109|5=>5|72=>114|76=>118|51=>154|146=>155|53=>157|148=>158|70=>111|37=>112|75=>117|127=>160|164=>177|80=>121|n=>n,fun |n=>n⟩
def Tryz.lays105:Go.Proofs.Lays.n105 prog Tryz.lays105_ren:={
 mixed:=by kernel_rfl
 f99:=func49.trans (qb1 some q0)
 f105:=func56.trans (qb1 some q0)
 f165:=func101.trans (qb1 some q0)
 f166:=func102.trans (qb1 some q0)
 f169:=func104.trans (qb1 some q0)
 f170:=func103.trans (qb1 some q0)
 f206:=func93.trans (qb1 some q0)
 f212:=func100.trans (qb1 some q0)
 f240:=func153.trans (qb1 some q0)
 f241:=func154.trans (qb1 some q0)
 f263:=func151.trans (qb1 some q0)
 f264:=func152.trans (qb1 some q0)
 f276:=func188.trans (qb1 some q0)
 f277:=func189.trans (qb1 some q0)
 t0:=underlying0
 a0:=Tryz.isAgg0
 z0:=Tryz.sizeOf0
 v0:=Tryz.zeroValue0
 t3:=underlying3
 a3:=Tryz.isAgg3
 z3:=Tryz.sizeOf3
 v3:=Tryz.zeroValue3
 t4:=underlying4
 a4:=Tryz.isAgg4
 z4:=Tryz.sizeOf4
 v4:=Tryz.zeroValue4
 t5:=underlying5
 a5:=Tryz.isAgg5
 z5:=Tryz.sizeOf5
 v5:=Tryz.zeroValue5
 t9:=underlying9
 a9:=Tryz.isAgg9
 z9:=Tryz.sizeOf9
 v9:=Tryz.zeroValue9
 t20:=underlying20
 a20:=Tryz.isAgg20
 z20:=Tryz.sizeOf20
 v20:=Tryz.zeroValue20
 t37:=underlying112
 a37:=Tryz.isAgg112
 z37:=Tryz.sizeOf112
 v37:=Tryz.zeroValue112
 t46:=underlying108
 a46:=Tryz.isAgg108
 z46:=Tryz.sizeOf108
 v46:=Tryz.zeroValue108
 t51:=underlying154
 a51:=Tryz.isAgg154
 z51:=Tryz.sizeOf154
 v51:=Tryz.zeroValue154
 t53:=underlying157
 a53:=Tryz.isAgg157
 z53:=Tryz.sizeOf157
 v53:=Tryz.zeroValue157
 t70:=underlying111
 a70:=Tryz.isAgg111
 z70:=Tryz.sizeOf111
 v70:=Tryz.zeroValue111
 t72:=underlying114
 a72:=Tryz.isAgg114
 z72:=Tryz.sizeOf114
 v72:=Tryz.zeroValue114
 t75:=underlying117
 a75:=Tryz.isAgg117
 z75:=Tryz.sizeOf117
 v75:=Tryz.zeroValue117
 t76:=underlying118
 a76:=Tryz.isAgg118
 z76:=Tryz.sizeOf118
 v76:=Tryz.zeroValue118
 t109:=underlying109
 a109:=Tryz.isAgg109
 z109:=Tryz.sizeOf109
 v109:=Tryz.zeroValue109
 t127:=underlying160
 a127:=Tryz.isAgg160
 z127:=Tryz.sizeOf160
 v127:=Tryz.zeroValue160
 t146:=underlying155
 a146:=Tryz.isAgg155
 z146:=Tryz.sizeOf155
 v146:=Tryz.zeroValue155
 t148:=underlying158
 a148:=Tryz.isAgg158
 z148:=Tryz.sizeOf158
 v148:=Tryz.zeroValue158
 t164:=underlying177
 a164:=Tryz.isAgg177
 z164:=Tryz.sizeOf177
 v164:=Tryz.zeroValue177}
def Tryz.Builder_Extra_105:Builder.Extra prog Tryz.lays105_ren:={
 sizeBuilder:=by kernel_rfl
 liesBuilder:=by kernel_rfl
 t5:=underlying5
 a5:=Tryz.isAgg5
 z5:=Tryz.sizeOf5
 v5:=Tryz.zeroValue5
 infoByte:=by kernel_rfl
 cellsByte:=by kernel_rfl
 sizeByte:=by kernel_rfl
 neB5:=by decide}
open Go.RowKit Go.Lib in
def Tryz.strings_Repeat (s:ByteArray)(c:Nat)(w:World)(hc:c<=9223372036854775807)(hlen:s.size*c<=140737488355328):
 Calls prog 56 #[.string s,.int .i64 c] w λe w'=>e=.returned (.string ⟨(Lib.repeatL s.data.toList c).toArray⟩)/\Below w.heap.size w w':=Any.strings_Repeat Tryz.lays105 Tryz.Builder_Extra_105 s c w hc hlen
def Tryz.lays160_ren:Go.Shelf.Ren:=⟨fun |160=>156|232=>192|231=>191|227=>193|234=>195|233=>194|236=>197|235=>196|228=>210|271=>213|151=>212|197=>211|120=>227|152=>226|260=>225|137=>233|119=>234|224=>235|225=>236|217=>239|266=>240|n=>n,fun |9=>9|4=>4|3=>3|5=>5|117=>183|116=>182|0=>0|124=>186|21=>21|105=>201|46=>108|119=>232|139=>235|138=>234|n=>n,fun |3=>5|4=>6|n=>n⟩
def Tryz.lays160:Go.Proofs.Lays.n160 prog Tryz.lays160_ren:={
 mixed:=by kernel_rfl
 f119:=func234.trans (qb1 some q0)
 f120:=func227.trans (qb1 some q0)
 f137:=func233.trans (qb1 some q0)
 f151:=func212.trans (qb1 some q0)
 f152:=func226.trans (qb1 some q0)
 f160:=func156.trans (qb1 some q0)
 f197:=func211.trans (qb1 some q0)
 f217:=func239.trans (qb1 some q0)
 f224:=func235.trans (qb1 some q0)
 f225:=func236.trans (qb1 some q0)
 f227:=func193.trans (qb1 some q0)
 f228:=func210.trans (qb1 some q0)
 f231:=func191.trans (qb1 some q0)
 f232:=func192.trans (qb1 some q0)
 f233:=func194.trans (qb1 some q0)
 f234:=func195.trans (qb1 some q0)
 f235:=func196.trans (qb1 some q0)
 f236:=func197.trans (qb1 some q0)
 f260:=func225.trans (qb1 some q0)
 f266:=func240.trans (qb1 some q0)
 f271:=func213.trans (qb1 some q0)
 t0:=underlying0
 a0:=Tryz.isAgg0
 z0:=Tryz.sizeOf0
 v0:=Tryz.zeroValue0
 t3:=underlying3
 a3:=Tryz.isAgg3
 z3:=Tryz.sizeOf3
 v3:=Tryz.zeroValue3
 t4:=underlying4
 a4:=Tryz.isAgg4
 z4:=Tryz.sizeOf4
 v4:=Tryz.zeroValue4
 t5:=underlying5
 a5:=Tryz.isAgg5
 z5:=Tryz.sizeOf5
 v5:=Tryz.zeroValue5
 t9:=underlying9
 a9:=Tryz.isAgg9
 z9:=Tryz.sizeOf9
 v9:=Tryz.zeroValue9
 t21:=underlying21
 a21:=Tryz.isAgg21
 z21:=Tryz.sizeOf21
 v21:=Tryz.zeroValue21
 t46:=underlying108
 a46:=Tryz.isAgg108
 z46:=Tryz.sizeOf108
 v46:=Tryz.zeroValue108
 t105:=underlying201
 a105:=Tryz.isAgg201
 z105:=Tryz.sizeOf201
 v105:=Tryz.zeroValue201
 t116:=underlying182
 a116:=Tryz.isAgg182
 z116:=Tryz.sizeOf182
 t117:=underlying183
 a117:=Tryz.isAgg183
 z117:=Tryz.sizeOf183
 v117:=Tryz.zeroValue183
 t119:=underlying232
 a119:=Tryz.isAgg232
 z119:=Tryz.sizeOf232
 t124:=underlying186
 a124:=Tryz.isAgg186
 z124:=Tryz.sizeOf186
 v124:=Tryz.zeroValue186
 t138:=underlying234
 a138:=Tryz.isAgg234
 z138:=Tryz.sizeOf234
 v138:=Tryz.zeroValue234
 t139:=underlying235
 a139:=Tryz.isAgg235
 z139:=Tryz.sizeOf235
 v139:=Tryz.zeroValue235
 g3:=by kernel_rfl
 g4:=by kernel_rfl}
end Go.Proofs
namespace Go.Eng
open Go Go.RowKit
variable {xs:Array Operand}{ats:Array TypeId}{args cs tmps:Array Value}{q:Bool}{f:FuncId}{ds:List Deferred}{l:List UInt8}{vs vf vc lb:List Value}{d i n b c o size bytes B lo' s k oo m N j sz u M:Nat}{e e1 e':Nat->Value}{x:Operand}{A:Option Addr}{P:Program}{D:TypeDesc}{t tb el et ty:TypeId}{v X Y v1 v2 v3:Value}{w w' w0 w'':World}
def upd (e:Nat->Value)(d:Nat)(v:Value):Nat->Value:=λi=>match Nat.beq i d with|true=>v|false=>e i
def qU (e:Nat->Value)(d:Nat)(v:Value):upd e d v d=v:=by simp[upd]
def upd_ne (e:Nat->Value)(v:Value)(h:i≠d):upd e d v i=e i:=by
 have:Nat.beq i d=false:=by
  cases hb:Nat.beq i d with
  |false=>rfl
  |true=>exact absurd (qb3 hb) h
 simp[upd,this]
def act (N:Nat)(e:Nat->Value)(ds:List Deferred):Act:=⟨Array.ofFn (n:=N) λi=>e i,ds⟩
def ev (N:Nat)(e:Nat->Value):Operand->Value
 | .tmp t=>match Nat.blt t N with|true=>e t|false=>undef
 | .const v=>v
 | .global g=>.pointer (some ⟨g,0,none⟩)
 | .func f=>.func (.func f) #[] #[]
def c6 (N:Nat)(e:Nat->Value)(ds:List Deferred):(act N e ds).eval=ev N e:=by
 funext x
 cases x with
 | tmp t=>
   by_cases h:t<N
   · have:Nat.blt t N=true:=by simpa[Nat.blt_eq]using h
     simp[act,Act.eval,ev,this,h]
   · have:Nat.blt t N=false:=by
      cases hb:Nat.blt t N with
      |false=>rfl
      |true=>exact absurd (by simpa[Nat.blt_eq]using hb) h
     simp[act,Act.eval,ev,this,h]
 |const v=>rfl
 |global g=>rfl
 |func f=>rfl
def ai (N:Nat)(e:Nat->Value)(ds:List Deferred)(d:Nat)(v:Value):(act N e ds).put (some d) v=act N (upd e d v) ds:=by
 simp only[act,Act.put,Act.mk.injEq,and_true]
 apply Array.ext
 · simp
 · intro i _ G
   have E:i<N:=by simpa using G
   by_cases h:d=i
   · subst h;simp[qU]
   · rw[Array.getElem_setIfInBounds_ne (by simpa using E) h];simp[upd_ne e v (Ne.symm h)]
def aA {α:Type}{a b:α}{l m:List α}(h:a=b)(t:l=m):a::l=b::m:=by rw[h,t]
def db {α β:Type}{i:β}{a b:α}{l m:List (β×α)}(h:a=b)(t:l=m):(i,a)::l=(i,b)::m:=by rw[h,t]
def Fw:Option Nat->Fence
 |none=>Fence.wide
 |some l=>Fence.wide.inRound l
def k5 (r:Option Nat)(f:FuncId):(Fw r).fn f:=by cases r <;>exact trivial
def nW (r:Option Nat):(Fw r).depth=none:=by cases r <;>rfl
def sn (r:Option Nat):(Fw r).round=r:=by cases r <;>rfl
def so {r:Option Nat}{R:Ending->World->Prop}(h:Calls P f args w R):CallsIn (Fw r) n P f args w R:=by
 cases r with
 |none=>exact callsIn_wide.2 h
 |some l=>exact CallsIn.inRound l (callsIn_wide.2 h)
def nX {R:Ending->World->Prop}(h:CallsIn (Fw none) n P f args w R):Calls P f args w R:=callsIn_wide.1 h
def a8 (w w':World):Prop:=Below w.heap.size w w'
def a8.refl (w:World):a8 w w:=Below.refl _ w
def aa4:=@a8.refl
def a8.trans {a b c:World}(h:a8 a b)(k:a8 b c):a8 a c:=Below.trans h (Below.mono k h.size)
def a8.alloc (w:World)(o:Obj):a8 w (w.alloc o):=(Below.refl _ w).alloc (qa0 _) o
def a8.drew (w:World):a8 w w.drew:=(Below.refl _ w).drew
def ab1:=@a8.drew
def a8.heap (h:a8 w w'){o:Obj}(ho:w.heap[b]?=some o):w'.heap[b]?=some o:=
 (h.block b (Array.getElem?_eq_some_iff.1 ho).1).trans ho
def a8.cell (h:a8 w w'){a:Addr}(hv:w.cell? a=some v):w'.cell? a=some v:=
 (Below.cell h (World.block_lt_of_cell? w a hv)).trans hv
def aH (w:World)(R:Value->World->Prop):Ending->World->Prop
 | .returned v,w'=>a8 w w'/\R v w'
 |_,_=>False
variable {r:Option Nat}{Q:Exit->Act->World->Prop}{K:Act->World->Prop}
def nz:Op->Bool
 | .defer _=>false
 |_=>true
def jy {o:Oper}(h:nz o.op=true)(ρ:Operand->Value):Oper.semAt (Fw r).round ρ o=execOp ρ o:=by
 rw[sn]
 cases r with
 |none=>exact Oper.semAt_none _ _
 |some l=>exact Oper.semAt_some l ρ o (λc hc=>by rw[hc]at h;cases h)
def cX {o:Oper}(hd:nz o.op=true)(hr:(execOp (ev N e) o).run P w=.ok (.value v) w')(hk:K ((act N e ds).put o.dst v) w'):o.wpIn (Fw r) n P (act N e ds) w K Q:=by
 refine⟨λf _=>k5 r f,?_⟩
 rw[jy hd,c6,hr]
 exact hk
def x8 {o:Oper}(hd:nz o.op=true)(hr:(execOp (ev N e) o).run P w=.ok .skip w')(hk:K ((act N e ds).put o.dst undef) w'):o.wpIn (Fw r) n P (act N e ds) w K Q:=by
 refine⟨λf _=>k5 r f,?_⟩
 rw[jy hd,c6,hr]
 exact hk
def qV {o:Oper}{R:Value->World->Prop}(hd:nz o.op=true)(hr:(execOp (ev N e) o).run P w=.ok (.enter f args) w)(hc:Calls P f args w (aH w R))(hk:∀v w',a8 w w'->R v w'->K ((act N e ds).put o.dst v) w'):o.wpIn (Fw r) n P (act N e ds) w K Q:=by
 refine⟨λf _=>k5 r f,?_⟩
 rw[jy hd,c6,hr]
 refine⟨(λh=>by rw[nW]at h;cases h),so (hc.mono ?_)⟩
 intro e' w' h
 cases e' with
 |returned v=>exact hk v w' h.1 h.2
 |panicked c=>exact h.elim
 |outgrown=>exact h.elim
section ops
variable {ty:Nat}{pos:String}{af:Array Edge}{g:Option (Nat×Bool)}{u:Value}{y:Operand}
def cW (hx:ev N e x=v)(hk:K (act N (upd e d v) ds) w):Oper.wpIn (Fw r) n P ⟨some d,.move x,ty,pos,af,g⟩ (act N e ds) w K Q:=
 cX (v:=v) (w':=w) Z (by subst hx;rfl) Vl
def bJ (hx:ev N e x=v)(hk:K (act N (upd e d v) ds) w):Oper.wpIn (Fw r) n P ⟨some d,.assign x,ty,pos,af,g⟩ (act N e ds) w K Q:=
 cX (v:=v) (w':=w) Z (by subst hx;rfl) Vl
end ops
def gW (P:Program)(t:TypeId)(z:Value)(size bytes:Nat):Prop:=(P.info? t).map (λi=>(i.zero,i.size,i.bytes))=some (some z,size,bytes)
def gW.parts {z:Value}(h:gW P t z size bytes):∃i,P.info? t=some i/\i.zero=some z/\i.size=size/\i.bytes=bytes:=by
 unfold gW at h
 cases hi:P.info? t with
 |none=>rw[hi]at h;cases h
 | some i=>
   rw[hi]at h
   simp only[Option.map_some,Option.some.injEq,Prod.mk.injEq]at h
   exact⟨i,rfl,h.1,h.2.1,h.2.2⟩
def ae (w:World)(b:Nat)(t:TypeId)(cs:Array Value):Prop:=w.heap[b]?=some (.cells cs t (0,0))
def ae.lt (h:ae w b t cs):b<w.heap.size:=(Array.getElem?_eq_some_iff.1 h).1
def ae.ext (k:a8 w w')(h:ae w b t cs):ae w' b t cs:=k.heap h
def ae.cell (h:ae w b t cs)(hv:cs[o]?=some v):w.cell? ⟨b,o,none⟩=some v:=by
 unfold ae at h
 simp only[World.cell?,h]
 simpa using hv
def aa8:=@ae.cell
def ae.frozen (h:ae w b t cs)(o:Nat):w.frozen? ⟨b,o,none⟩=false:=by
 unfold ae at h
 simp[World.frozen?,h]
structure fe (w w':World)(b:Nat):Prop where
 os:w'.os=w.os
 tape:w'.tape=w.tape
 output:w'.output=w.output
 size:w'.heap.size=w.heap.size
 block:∀k,k≠b->w'.heap[k]?=w.heap[k]?
def fe.low (k:fe w w' b)(h:Below B w0 w)(hb:B<=b):Below B w0 w':=
 ⟨k.os.trans h.os,k.tape.trans h.tape,k.output.trans h.output,by rw[k.size];exact h.size,λi hi=>(k.block i J).trans (h.block i hi)⟩
def fe.blk (k:fe w w' b)(hne:c≠b)(h:ae w c t cs):ae w' c t cs:=(k.block c hne).trans h
def aa5:=@fe.blk
def fe.cell (k:fe w w' b){a:Addr}(hne:a.block≠b):w'.cell? a=w.cell? a:=World.cell?_of_block (k.block _ hne)
def fe.refl (w:World)(b:Nat):fe w w b:=⟨rfl,rfl,rfl,rfl,λ_ _=>rfl⟩
def fe.trans (h:fe w w' b)(k:fe w' w'' b):fe w w'' b:=
 ⟨k.os.trans h.os,k.tape.trans h.tape,k.output.trans h.output,k.size.trans h.size,λi hi=>(k.block i hi).trans (h.block i hi)⟩
def mJ (v:Value):fe w (w.setCell ⟨b,o,none⟩ v) b:=
 ⟨rfl,rfl,rfl,by simp,λk hk=>Below.heap_setCell w ⟨b,o,none⟩ v k hk⟩
def mK (h:ae w b t cs)(v:Value):ae (w.setCell ⟨b,o,none⟩ v) b t (cs.setIfInBounds o v):=by
 unfold ae at h ⊢
 simp[World.setCell,Array.getElem?_modify,h]
structure Rw (w:World)(lo:Nat)(A:Option Addr)(cs:List Value):Prop where
 cells:∀j u,cs[j]?=some u->∃b o,A=some ⟨b,o,none⟩/\w.cell? ⟨b,o+j,none⟩=some u
 lo:∀ad,A=some ad->lo<=ad.block
 hi:∀ad,A=some ad->ad.block<w.heap.size
section rows
variable {lo:Nat}{cs:List Value}
def Rw.ext (k:a8 w w')(h:Rw w lo A cs):Rw w' lo A cs:=
 ⟨λj u hu=>by obtain⟨b,o,hA,hc⟩:=h.cells j u hu;exact⟨b,o,hA,k.cell hc⟩,h.lo,λE hA=>qb0 (h.hi E hA) k.size⟩
def Rw.put (k:fe w w' b)(hb:b<lo)(h:Rw w lo A cs):Rw w' lo A cs:=
 ⟨λj u hu=>by
  obtain⟨c,o,hA,hc⟩:=h.cells j u hu
  have:=h.lo _ hA
  exact⟨c,o,hA,(k.cell (by simp at this ⊢;omega)).trans hc⟩,h.lo,λE hA=>by rw[k.size];exact h.hi E hA⟩
def Rw.nil (w:World)(lo:Nat):Rw w lo none []:=⟨λj u hu=>by simp at hu,(λE h=>by cases h),(λE h=>by cases h)⟩
def Rw.mono (hl:lo'<=lo)(h:Rw w lo A cs):Rw w lo' A cs:=⟨h.cells,λE hA=>qa8 hl (h.lo E hA),h.hi⟩
def Rw.take (k:Nat)(h:Rw w lo A cs):Rw w lo A (cs.take k):=
 ⟨λj u hu=>h.cells j u (by rw[List.getElem?_take]at hu;split at hu <;>simp_all),h.lo,h.hi⟩
end rows
section ops
variable {r:Option Nat}{Q:Exit->Act->World->Prop}{K:Act->World->Prop}
variable {ty:Nat}{pos:String}{af:Array Edge}{g:Option (Nat×Bool)}{u:Value}{y:Operand}
def nY {c a b:Operand}{t:Bool}(hc:ev N e c=.bool t)(hv:(if t then ev N e a else ev N e b)=v)(hk:K (act N (upd e d v) ds) w):
 Oper.wpIn (Fw r) n P ⟨some d,.pick c a b,ty,pos,af,g⟩ (act N e ds) w K Q:=
 cX (v:=v) (w':=w) Z (by simp[execOp,hc,asBool,hv]) Vl
def BW {z:Value}(hi:gW P t z s b)(hk:∀w',a8 w w'->w'.heap.size=w.heap.size+1->ae w' w.heap.size t z.cells->K (act N (upd e d (.pointer (some ⟨w.heap.size,0,none⟩))) ds) w'):
 Oper.wpIn (Fw r) n P ⟨some d,.alloc t,ty,pos,af,g⟩ (act N e ds) w K Q:=by
 obtain⟨i,h1,E,_,_⟩:=hi.parts
 refine cX (v:=.pointer (some ⟨w.heap.size,0,none⟩)) (w':=w.alloc (.cells z.cells t)) Z ?_ VD
 simp[execOp,Instr.alloc,zeroValue,typeInfo,h1,E,newVar,newRow]
def Ib (hx:ev N e x=v)(hk:∀w',a8 w w'->w'.heap.size=w.heap.size+1->ae w' w.heap.size t v.cells->K (act N (upd e d (.pointer (some ⟨w.heap.size,0,none⟩))) ds) w'):
 Oper.wpIn (Fw r) n P ⟨some d,.box t x,ty,pos,af,g⟩ (act N e ds) w K Q:=by
 refine cX (v:=.pointer (some ⟨w.heap.size,0,none⟩)) (w':=w.alloc (.cells v.cells t)) Z ?_ VD
 subst hx
 simp[execOp,Instr.box,newVar,newRow]
def aT (hu:P.underlying t=some D)(hd:D.isRow=false)(hx:ev N e x=.pointer (some ⟨b,o,none⟩))(hc:w.cell? ⟨b,o,none⟩=some v)(hk:K (act N (upd e d v) ds) w):Oper.wpIn (Fw r) n P ⟨some d,.load t x,ty,pos,af,g⟩ (act N e ds) w K Q:=by
 refine cX (v:=v) (w':=w) Z ?_ Vl
 have E:(isAgg t).run P w=.ok false w:=by
  unfold isAgg
  rw[Sem.run_bind,run_underlying hu w]
  cases D <;>simp_all
 simp[execOp,hx,Instr.loadAt,Instr.sureAddr,loadVar,E,hc]
def aX {cs:List Value}(hu:P.underlying t=some D)(hd:D.isRow=true)(hi:(P.info? t).map (·.size)=some cs.length)(hx:ev N e x=.pointer (some ⟨b,o,none⟩))(hc:∀j u,cs[j]?=some u->w.cell? ⟨b,o+j,none⟩=some u)(hk:K (act N (upd e d (.agg cs.toArray)) ds) w):
 Oper.wpIn (Fw r) n P ⟨some d,.load t x,ty,pos,af,g⟩ (act N e ds) w K Q:=by
 refine cX (v:=.agg cs.toArray) (w':=w) Z ?_ Vl
 simp[execOp,hx,run_loadAt_mid w b o t cs D hc hu hd hi]
def dn (hi:(P.info? t).map (·.size)=some 1)(hx:ev N e x=.pointer (some ⟨b,o,none⟩))(hy:ev N e y=v)(h1:v.oneCell'=true)(hb:ae w b tb cs)(ho:o<cs.size)(hk:∀w',fe w w' b->ae w' b tb (cs.setIfInBounds o v)->K (act N e ds) w'):
 Oper.wpIn (Fw r) n P ⟨none,.store t x y,ty,pos,af,g⟩ (act N e ds) w K Q:=by
 refine x8 (w':=w.setCell ⟨b,o,none⟩ v) Z ?_ (hk _ (mJ v) (mK hb v))
 have hc:w.cell? ⟨b,o,none⟩=some cs[o]:=hb.cell (Array.getElem?_eq_getElem ho)
 have hs:=run_store P w ⟨b,o,none⟩ v .plain h1
 rw[hc,hb.frozen]at hs
 simp only[Bool.false_eq_true,if_false]at hs
 have hcells:v.cells=#[v]:=by cases v <;>first|rfl|(simp[Value.oneCell']at h1;done)
 cases hq:P.info? t with
 |none=>simp[hq]at hi
 | some i=>
   simp[hq]at hi
   subst hy
   simp[execOp,hx,Instr.storeAt,Instr.sureAddr,storeVar,sizeOf,typeInfo,hq,hi,hcells,storeCells,Addr.add_mid,hs]
def sq {fs:Array Field}{f:Field}{off:Nat}(hu:P.underlying t=some (.struct fs))(hf:fs[k]? =some f)(ho:f.offset=off)(hs:(P.info? f.type).map (·.size)=some (m+1))(hoo:o+off=oo)(hx:ev N e x=.pointer (some ⟨b,o,none⟩))(hk:K (act N (upd e d (.pointer (some ⟨b,oo,none⟩))) ds) w):
 Oper.wpIn (Fw r) n P ⟨some d,.fieldAddr t x k,ty,pos,af,g⟩ (act N e ds) w K Q:=by
 refine cX (v:=.pointer (some ⟨b,oo,none⟩)) (w':=w) Z ?_ Vl
 subst ho hoo
 cases hq:P.info? f.type with
 |none=>simp[hq]at hs
 | some i=>
   simp[hq]at hs
   simp[execOp,hx,Instr.fieldAt,run_underlying hu,hf,Instr.sureAddr,fieldPlace,sizeOf,typeInfo,hq,hs,Addr.add_mid]
def ae.cells (h:ae w b t cs)(hv:(cs.toList.drop i).take vs.length=vs):∀j u,vs[j]?=some u->w.cell? ⟨b,i+j,none⟩=some u:=by
 intro j u hu
 refine h.cell ?_
 have E:j<vs.length:=(List.getElem?_eq_some_iff.1 hu).1
 rw[<-hv,List.getElem?_take,if_pos E,List.getElem?_drop]at hu
 simpa using hu
def aa0:=@ae.cells
def k7 {b:Nat}:∀(vs:List Value) (o:Nat) (w:World),fe w (w.setCells b o vs) b
 |[],o,w=>by simpa[World.setCells]using fe.refl w b
 | v::vs,o,w=>by
   have h1:fe w (w.setCell ⟨b,o,none⟩ v) b:=mJ v
   have:=h1.trans (k7 vs (o+1) _)
   simpa[World.setCells]using this
def putCells:Array Value->Nat->List Value->Array Value
 |cs,_,[]=>cs
 |cs,o,v::vs=>putCells (cs.setIfInBounds o v) (o+1) vs
def lc {b:Nat}{t:TypeId}:∀(vs:List Value) (o:Nat) (w:World) (cs:Array Value),ae w b t cs->ae (w.setCells b o vs) b t (putCells cs o vs)
 |[],o,w,cs,h=>by simpa[World.setCells,putCells]using h
 | v::vs,o,w,cs,h=>by
   have:=lc vs (o+1) _ _ (mK (o:=o) h v)
   simpa[World.setCells,putCells]using this
def aU (hi:(P.info? t).map (·.size)=some vs.length)(hx:ev N e x=.pointer (some ⟨b,o,none⟩))(hy:ev N e y=.agg vs.toArray)(h1:∀v∈vs,v.oneCell'=true)(hb:ae w b tb cs)(ho:o+vs.length<=cs.size)(hk:∀w',fe w w' b->ae w' b tb (putCells cs o vs)->K (act N e ds) w'):
 Oper.wpIn (Fw r) n P ⟨none,.store t x y,ty,pos,af,g⟩ (act N e ds) w K Q:=by
 refine x8 (w':=w.setCells b o vs) Z ?_ (hk _ (k7 vs o w) (lc vs o w cs hb))
 have G:w.there b o vs.toArray.size:=by
  intro j H
  have hj':j<vs.length:=by simpa using H
  have E:o+j<cs.size:=J
  exact⟨by rw[hb.cell (Array.getElem?_eq_getElem E)];rfl,hb.frozen _⟩
 have hs:=run_storeAt_mid (P:=P) w b o t vs.toArray G (by simpa using hi) (all_oneCell_toArray h1)
 simp[execOp,hx,hy,hs]
def Ic {D:TypeId}(hu:P.underlying t=some (.slice D))(hx:ev N e x=.slice A m c)(hk:K (act N (upd e d (.int .i64 m)) ds) w):
 Oper.wpIn (Fw r) n P ⟨some d,.call {callee:=.builtin .len,args:=#[x],argTypes:=#[t]},ty,pos,af,g⟩ (act N e ds) w K Q:=by
 refine cX (v:=.int .i64 m) (w':=w) Z ?_ Vl
 simp[execOp,resolve,invoke,builtin,Builtin.len_,run_underlying hu,hx,goInt]
def bF (hu:P.underlying t=some .string)(hx:ev N e x=.string ⟨l.toArray⟩)(hk:K (act N (upd e d (.int .i64 ((l.length:Nat):Int))) ds) w):
 Oper.wpIn (Fw r) n P ⟨some d,.call {callee:=.builtin .len,args:=#[x],argTypes:=#[t]},ty,pos,af,g⟩ (act N e ds) w K Q:=by
 refine cX (v:=.int .i64 l.length) (w':=w) Z ?_ Vl
 have E:(ByteArray.mk l.toArray).size=l.length:=by simp[ByteArray.size]
 simp[execOp,resolve,invoke,builtin,Builtin.len_,run_underlying hu,hx,goInt,E]
end ops
def bR {k:IntKind}{a b:Int}(h:ev N e x=.int k a)(hb:a=b):ev N e x=.int k b:=by rw[h,hb]
section ops2
variable {r:Option Nat}{Q:Exit->Act->World->Prop}{K:Act->World->Prop}
variable {ty:Nat}{pos:String}{af:Array Edge}{g:Option (Nat×Bool)}{u:Value}{y:Operand}{t':TypeId}{a b:Int}{k:IntKind}
def In64 (a:Int):Prop:=-9223372036854775808<=a/\a<=9223372036854775807
def j7 {a:Int}(h:In64 a):IntKind.i64.wrap a=a:=IntWalk.i64_in a h
def dY {op:BinOp}(hx:ev N e x=X)(hy:ev N e y=Y)(hg:(eqGuard op t x y X Y).run P w=.ok () w)(hr:(binOp op t X Y).run P w=.ok v w)(hk:K (act N (upd e d v) ds) w):Oper.wpIn (Fw r) n P ⟨some d,.binOp op t x y t',ty,pos,af,g⟩ (act N e ds) w K Q:=by
 refine cX (v:=v) (w':=w) Z ?_ Vl
 simp[execOp,hx,hy,hg,hr]
def cG {op:BinOp}(x y:Operand)(k k':IntKind)(a b:Int):(eqGuard op t x y (.int k a) (.int k' b)).run P w=.ok () w:=by
 unfold eqGuard
 cases op <;>simp
def md {op:BinOp}(x y:Operand)(a b:ByteArray):(eqGuard op t x y (.string a) (.string b)).run P w=.ok () w:=by
 unfold eqGuard
 cases op <;>simp
def nZ {op:BinOp}(x y:Operand)(a b:Bool):(eqGuard op t x y (.bool a) (.bool b)).run P w=.ok () w:=by
 unfold eqGuard
 cases op <;>simp
def bb {c:Int}(hx:ev N e x=.int .i64 a)(hy:ev N e y=.int .i64 b)(hr:In64 (a+b))(hc:a+b=c)(hk:K (act N (upd e d (.int .i64 c)) ds) w):
 Oper.wpIn (Fw r) n P ⟨some d,.binOp .add t x y t',ty,pos,af,g⟩ (act N e ds) w K Q:=
 dY hx hy (cG ..) VR hk
def fg {c:Int}(hx:ev N e x=.int .i64 a)(hy:ev N e y=.int .i64 b)(hr:In64 (a-b))(hc:a-b=c)(hk:K (act N (upd e d (.int .i64 c)) ds) w):
 Oper.wpIn (Fw r) n P ⟨some d,.binOp .sub t x y t',ty,pos,af,g⟩ (act N e ds) w K Q:=
 dY hx hy (cG ..) VR hk
def jp {c:Int}(hx:ev N e x=.int .i64 a)(hy:ev N e y=.int .i64 b)(hr:In64 (a*b))(hc:a*b=c)(hk:K (act N (upd e d (.int .i64 c)) ds) w):
 Oper.wpIn (Fw r) n P ⟨some d,.binOp .mul t x y t',ty,pos,af,g⟩ (act N e ds) w K Q:=
 dY hx hy (cG ..) VR hk
def lf (hx:ev N e x=.int .i64 a)(hy:ev N e y=.int .i64 b){c:Int}(h0:0<=a)(h1:1<=b)(hr:In64 a)(hc:a/b=c)(hk:K (act N (upd e d (.int .i64 c)) ds) w):
 Oper.wpIn (Fw r) n P ⟨some d,.binOp .quo t x y t',ty,pos,af,g⟩ (act N e ds) w K Q:=
 dY hx hy (cG ..) (by subst hc;simp[binOp,Op.intDiv,show b≠0 by omega,IntWalk.i64_quo a b ⟨h0,hr.2,h1⟩]) hk
def jz (hx:ev N e x=.int .i64 a)(hy:ev N e y=.int .i64 b){c:Int}(h0:0<=a)(h1:1<=b)(hc:a%b=c)(hk:K (act N (upd e d (.int .i64 c)) ds) w):
 Oper.wpIn (Fw r) n P ⟨some d,.binOp .rem t x y t',ty,pos,af,g⟩ (act N e ds) w K Q:=
 dY hx hy (cG ..) (by subst hc;simp[binOp,Op.intDiv,show b≠0 by omega,Int.tmod_eq_emod_of_nonneg h0]) hk
def Ie (hx:ev N e x=.int k a)(hy:ev N e y=.int k b)(hq:decide (a<b)=q)(hk:K (act N (upd e d (.bool q)) ds) w):
 Oper.wpIn (Fw r) n P ⟨some d,.binOp .lss t x y t',ty,pos,af,g⟩ (act N e ds) w K Q:=
 dY hx hy (cG ..) VM hk
def If (hx:ev N e x=.int k a)(hy:ev N e y=.int k b)(hq:decide (a<=b)=q)(hk:K (act N (upd e d (.bool q)) ds) w):
 Oper.wpIn (Fw r) n P ⟨some d,.binOp .leq t x y t',ty,pos,af,g⟩ (act N e ds) w K Q:=
 dY hx hy (cG ..) VM hk
def Eh (hx:ev N e x=.int k a)(hy:ev N e y=.int k b)(hq:decide (b<a)=q)(hk:K (act N (upd e d (.bool q)) ds) w):
 Oper.wpIn (Fw r) n P ⟨some d,.binOp .gtr t x y t',ty,pos,af,g⟩ (act N e ds) w K Q:=
 dY hx hy (cG ..) VM hk
def Ig (hx:ev N e x=.int k a)(hy:ev N e y=.int k b)(hq:decide (b<=a)=q)(hk:K (act N (upd e d (.bool q)) ds) w):
 Oper.wpIn (Fw r) n P ⟨some d,.binOp .geq t x y t',ty,pos,af,g⟩ (act N e ds) w K Q:=
 dY hx hy (cG ..) VM hk
def Ih (hx:ev N e x=.int k a)(hy:ev N e y=.int k b)(hq:decide (a=b)=q)(hk:K (act N (upd e d (.bool q)) ds) w):
 Oper.wpIn (Fw r) n P ⟨some d,.binOp .eql t x y t',ty,pos,af,g⟩ (act N e ds) w K Q:=
 dY hx hy (cG ..) (by subst hq;simp[binOp,Op.intCmp];rfl) hk
def Ii (hx:ev N e x=.int k a)(hy:ev N e y=.int k b)(hq:(!decide (a=b))=q)(hk:K (act N (upd e d (.bool q)) ds) w):
 Oper.wpIn (Fw r) n P ⟨some d,.binOp .neq t x y t',ty,pos,af,g⟩ (act N e ds) w K Q:=
 dY hx hy (cG ..) (by subst hq;simp[binOp,Op.intCmp];rfl) hk
def ui {a b:Bool}(hu:P.underlying t=some .bool)(m:Nat):(Op.equalIn (m+1) t (.bool a) (.bool b)).run P w=.ok (a==b) w:=by
 simp[Op.equalIn,run_underlying hu]
def mL {a b:Bool}(hu:P.underlying t=some .bool):(Op.equal t (.bool a) (.bool b)).run P w=.ok (a==b) w:=ui hu 9999
def x9 {a b:Bool}(hu:P.underlying t=some .bool)(hx:ev N e x=.bool a)(hy:ev N e y=.bool b)(hq:(a==b)=q)(hk:K (act N (upd e d (.bool q)) ds) w):
 Oper.wpIn (Fw r) n P ⟨some d,.binOp .eql t x y t',ty,pos,af,g⟩ (act N e ds) w K Q:=
 dY hx hy (nZ ..) (by subst hq;simp[binOp,mL hu]) hk
def i6 {a b:Bool}(hu:P.underlying t=some .bool)(hx:ev N e x=.bool a)(hy:ev N e y=.bool b)(hq:(!(a==b))=q)(hk:K (act N (upd e d (.bool q)) ds) w):
 Oper.wpIn (Fw r) n P ⟨some d,.binOp .neq t x y t',ty,pos,af,g⟩ (act N e ds) w K Q:=
 dY hx hy (nZ ..) (by subst hq;simp[binOp,mL hu]) hk
def S (l:List UInt8):Value:=.string ⟨l.toArray⟩
def uj {a b:List UInt8}(hx:ev N e x=S a)(hy:ev N e y=S b)(hq:decide (a=b)=q)(hk:K (act N (upd e d (.bool q)) ds) w):
 Oper.wpIn (Fw r) n P ⟨some d,.binOp .eql t x y t',ty,pos,af,g⟩ (act N e ds) w K Q:=
 dY hx hy (md ..) VI hk
def oc {a b:List UInt8}(hx:ev N e x=S a)(hy:ev N e y=S b)(hq:(!decide (a=b))=q)(hk:K (act N (upd e d (.bool q)) ds) w):
 Oper.wpIn (Fw r) n P ⟨some d,.binOp .neq t x y t',ty,pos,af,g⟩ (act N e ds) w K Q:=
 dY hx hy (md ..) VI hk
def me {a b:List UInt8}(hx:ev N e x=S a)(hy:ev N e y=S b)(hl:a.length+b.length<=9223372036854775807)(hk:K (act N (upd e d (S (a++b))) ds) w):
 Oper.wpIn (Fw r) n P ⟨some d,.binOp .add t x y t',ty,pos,af,g⟩ (act N e ds) w K Q:=
 dY hx hy (md ..) (by
  have h63:¬(((a.length+b.length:Nat):Int)>IntKind.i64.max):=by show¬(((a.length+b.length:Nat):Int)>9223372036854775807);omega
  have e1:(ByteArray.mk a.toArray).size=a.length:=by simp[ByteArray.size]
  have E:(ByteArray.mk b.toArray).size=b.length:=by simp[ByteArray.size]
  have e3:ByteArray.mk a.toArray++ByteArray.mk b.toArray=ByteArray.mk (a++b).toArray:=by
   apply ByteArray.ext;simp[ByteArray.data_append]
  simp only[binOp,S,Op.stringOp,e1,E,if_neg h63,e3]
  rfl) hk
def Ij {a:Bool}(hx:ev N e x=.bool a)(hq:(!a)=q)(hk:K (act N (upd e d (.bool q)) ds) w):
 Oper.wpIn (Fw r) n P ⟨some d,.unOp .not t x,ty,pos,af,g⟩ (act N e ds) w K Q:=
 cX (v:=.bool q) (w':=w) Z (by subst hq;simp[execOp,hx,Op.unary]) Vl
def sr (hx:ev N e x=.int .i64 a)(hr:In64 (-a))(hk:K (act N (upd e d (.int .i64 (-a))) ds) w):
 Oper.wpIn (Fw r) n P ⟨some d,.unOp .neg t x,ty,pos,af,g⟩ (act N e ds) w K Q:=
 cX (v:=.int .i64 (-a)) (w':=w) Z (by
  have:IntKind.i64.wrap (0-a)=-a:=by rw[j7 (by rw[Int.zero_sub];exact hr),Int.zero_sub]
  simp[execOp,hx,Op.unary,Op.intArith];simpa using this) Vl
def en {vs:Array Value}(hx:ev N e x=.tuple vs)(hv:vs[i]?=some v)(hk:K (act N (upd e d v) ds) w):
 Oper.wpIn (Fw r) n P ⟨some d,.extract x i,ty,pos,af,g⟩ (act N e ds) w K Q:=
 cX (v:=v) (w':=w) Z (by simp[execOp,hx,Instr.extract,hv]) Vl
def dZ {c:UInt8}(hu:P.underlying t=some .string)(hx:ev N e x=S l)(hy:ev N e y=.int k (i:Int))(hc:l[i]?=some c)(hk:K (act N (upd e d (.int .u8 c.toNat)) ds) w):Oper.wpIn (Fw r) n P ⟨some d,.index t x y,ty,pos,af,g⟩ (act N e ds) w K Q:=by
 refine cX (v:=.int .u8 c.toNat) (w':=w) Z ?_ Vl
 have hi:i<l.length:=(List.getElem?_eq_some_iff.1 hc).1
 have h1:(ByteArray.mk l.toArray)[i]?=some c:=by
  have hs:i<(ByteArray.mk l.toArray).size:=by simpa[ByteArray.size]using hi
  rw[getElem?_pos (ByteArray.mk l.toArray) i hs]
  have:=(List.getElem?_eq_some_iff.1 hc).2
  simp only[Option.some.injEq]
  rw[<-this];rfl
 simp[execOp,hx,hy,S,Instr.index,asIntOf,run_underlying hu,h1]
def am {bk:Nat}(hu:P.underlying t=some (.slice el))(hs:(P.info? el).map (·.size)=some s)(hx:ev N e x=.slice A m c)(hA:A=some ⟨bk,o,none⟩)(hy:ev N e y=.int k (i:Int))(hlt:i<m)(hoo:o+i*s=oo)(hk:K (act N (upd e d (.pointer (some ⟨bk,oo,none⟩))) ds) w):Oper.wpIn (Fw r) n P ⟨some d,.indexAddr t x y,ty,pos,af,g⟩ (act N e ds) w K Q:=by
 refine cX (v:=.pointer (some ⟨bk,oo,none⟩)) (w':=w) Z ?_ Vl
 subst hA hoo
 cases hi:P.info? el with
 |none=>simp[hi]at hs
 | some inf=>
   have hs':inf.size=s:=by simpa[hi]using hs
   subst hs'
   simp[execOp,hx,hy,Instr.indexAt,run_underlying hu,asIntOf,hlt,sizeOf,typeInfo,hi,Addr.add_mid]
def bE {fn:Fn}{fs cs:Array Operand}(hf:fs.toList.map (ev N e)=vf)(hc:cs.toList.map (ev N e)=vc)(hk:K (act N (upd e d (.func fn vf.toArray vc.toArray)) ds) w):
 Oper.wpIn (Fw r) n P ⟨some d,.makeFunc fn fs cs,ty,pos,af,g⟩ (act N e ds) w K Q:=
 cX (v:=.func fn vf.toArray vc.toArray) (w':=w) Z (by subst hf hc;rw[<-Array.toList_map,<-Array.toList_map,Array.toArray_toList,Array.toArray_toList];rfl) Vl
def Ei (hx:ev N e x=.int k a)(hy:ev N e y=.int k b){m:Int}(hm:(if a<b then b else a)=m)(hk:K (act N (upd e d (.int k m)) ds) w):
 Oper.wpIn (Fw r) n P ⟨some d,.call {callee:=.builtin .max,args:=#[x,y],argTypes:=ats},ty,pos,af,g⟩ (act N e ds) w K Q:=
 cX (v:=.int k m) (w':=w) Z (by subst hm;simp[execOp,resolve,invoke,builtin,Builtin.max_,hx,hy,Builtin.max2,List.foldlM]) Vl
def eF {lo hi:Option Operand}(hu:P.underlying t=some .string)(hx:ev N e x=S l)(hlo:(lo.map (ev N e))=none/\i=0\/∃k,lo.map (ev N e)=some (.int k (i:Int)))(hhi:(hi.map (ev N e))=none/\j=l.length\/∃k,hi.map (ev N e)=some (.int k (j:Int)))(hij:i<=j)(hj:j<=l.length)(hk:K (act N (upd e d (S ((l.take j).drop i))) ds) w):
 Oper.wpIn (Fw r) n P ⟨some d,.slice t x lo hi none,ty,pos,af,g⟩ (act N e ds) w K Q:=by
 refine cX (v:=S ((l.take j).drop i)) (w':=w) Z ?_ Vl
 have E:(ByteArray.mk l.toArray).size=l.length:=by simp[ByteArray.size]
 have hex:(ByteArray.mk l.toArray).extract i j=ByteArray.mk ((l.take j).drop i).toArray:=by
  apply ByteArray.ext
  simp[ByteArray.data_extract,List.drop_take]
 rcases hlo with⟨hlo,rfl⟩|⟨k1,hlo⟩ <;>rcases hhi with⟨hhi,rfl⟩|⟨k2,hhi⟩ <;>
  simp[execOp,hx,S,Instr.sliceAt,run_underlying hu,Instr.slice,Instr.sliceBounds,Instr.sliceBound,asIntOf,hlo,hhi,E,hex,hij,hj]
def ya {lo hi:Option Operand}(hu:P.underlying t=some (.slice el))(hi0:(P.info? el).map (·.size)=some s)(hx:ev N e x=.slice A m c)(hlo:(lo.map (ev N e))=none/\i=0\/∃k,lo.map (ev N e)=some (.int k (i:Int)))(hhi:(hi.map (ev N e))=none/\j=m\/∃k,hi.map (ev N e)=some (.int k (j:Int)))(hij:i<=j)(hj:j<=c)(hk:K (act N (upd e d (.slice (if c=i then A else A.map (·.add (i*s))) (j-i) (c-i))) ds) w):
 Oper.wpIn (Fw r) n P ⟨some d,.slice t x lo hi none,ty,pos,af,g⟩ (act N e ds) w K Q:=by
 refine cX (v:=.slice (if c=i then A else A.map (·.add (i*s))) (j-i) (c-i)) (w':=w) Z ?_ Vl
 obtain⟨inf,hi',hs⟩:∃inf,P.info? el=some inf/\inf.size=s:=by
  cases hq:P.info? el with
  |none=>rw[hq]at hi0;cases hi0
  |some inf=>rw[hq]at hi0;exact⟨inf,rfl,by simpa using hi0⟩
 subst hs
 rcases hlo with⟨hlo,rfl⟩|⟨k1,hlo⟩ <;>rcases hhi with⟨hhi,rfl⟩|⟨k2,hhi⟩ <;>
  simp[execOp,hx,Instr.sliceAt,run_underlying hu,Instr.slice,Instr.sliceBounds,Instr.sliceBound,asIntOf,hlo,hhi,hij,hj,sizeOf,typeInfo,hi']
def Ej {hi:Operand}(hu:P.underlying t=some (.slice el))(hi0:(P.info? el).map (·.size)=some s)(hx:ev N e x=.slice A m c)(hhi:ev N e hi=.int k (j:Int))(hj:j<=c)(hk:K (act N (upd e d (.slice A j c)) ds) w):
 Oper.wpIn (Fw r) n P ⟨some d,.slice t x none (some hi) none,ty,pos,af,g⟩ (act N e ds) w K Q:=by
 refine ya (i:=0) (j:=j) hu hi0 hx (.inl ⟨rfl,rfl⟩) (.inr ⟨k,qb1 some hhi⟩) (qa7 _) hj ?_
 have:(if c=0 then A else A.map (·.add (0*s)))=A:=by
  split
  · rfl
  · cases A <;>simp[Addr.add]
 rw[this]
 exact hk
end ops2
section grow
variable {row:Option Nat}{lo:Nat}{cs:List Value}
def a8.of_gr (h:w.grownBy w' none):a8 w w':=⟨h.os,h.tape,h.output,h.size,λk hk=>h.block k hk Vk⟩
def cK (h:Below B w0 w)(k:w.grownBy w' row)(hB:B<=w.heap.size)(hr:∀g,row=some g->B<=g):Below B w0 w':=h.grown k hB hr
def ae.gr {cs:Array Value}(k:w.grownBy w' row)(hne:some b≠row)(h:ae w b t cs):ae w' b t cs:=(k.block b h.lt hne).trans h
def aa2:=@ae.gr
def Rw.gr (k:w.grownBy w' row)(hne:∀ad,A=some ad->some ad.block≠row)(h:Rw w lo A cs):Rw w' lo A cs:=
 ⟨λj u hu=>by
  obtain⟨b,o,hA,hc⟩:=h.cells j u hu
  exact⟨b,o,hA,(World.cell?_of_block (k.block b (h.hi _ hA) (hne _ hA))).trans hc⟩,h.lo,λad hA=>qb0 (h.hi ad hA) k.size⟩
def Rw.of_own (h:w.ownsRow lo et sz (.slice A n c) n cs):Rw w lo A cs:=by
 obtain⟨hl,hv|⟨g,cap,W,hv,G,E,hc,hm,hs,ht⟩⟩:=h
 · simp only[Value.slice.injEq]at hv
   obtain⟨⟨rfl,rfl,rfl⟩,_⟩:=hv
   have:cs=[]:=List.eq_nil_of_length_eq_zero (by simpa using hl)
   subst this
   exact Rw.nil w lo
 · simp only[Value.slice.injEq]at hv
   obtain⟨rfl,_,rfl⟩:=hv
   have O:g<w.heap.size:=(Array.getElem?_eq_some_iff.1 E).1
   refine⟨λj u hu=>⟨g,0,rfl,?_⟩,λH hA=>by cases hA;exact G,λH hA=>by cases hA;exact O⟩
   have kk:j<cs.length:=(List.getElem?_eq_some_iff.1 hu).1
   rw[<-ht,List.getElem?_take,if_pos J]at hu
   simp only[World.cell?,E,Nat.zero_add]
   simpa using hu
def aa3:=@Rw.of_own
def dt (h:w.ownsRow lo et sz v n cs):∃A c,v=.slice A n c/\n<=c/\c<=maxLen/\(∀ad,A=some ad->v.ownBlock=some ad.block/\lo<=ad.block/\ad.block<w.heap.size)/\(A=none->v.ownBlock=none):=by
 obtain⟨hl,⟨rfl,rfl⟩|⟨g,cap,H,rfl,G,E,hc,hm,hs,ht⟩⟩:=h
 · exact⟨none,0,rfl,qa0 _,by simp[maxLen],(λad hA=>by cases hA),λ_=>rfl⟩
 · exact⟨_,cap,rfl,hc,hm,λad hA=>by cases hA;exact⟨rfl,G,(Array.getElem?_eq_some_iff.1 E).1⟩,(λhA=>by cases hA)⟩
def aD (k:a8 w w')(h:w.ownsRow lo et sz v n cs):w'.ownsRow lo et sz v n cs:=by
 obtain⟨hl,hv|⟨g,cap,G,hv,H,E,r⟩⟩:=h
 · exact⟨hl,.inl hv⟩
 · exact⟨hl,.inr ⟨g,cap,G,hv,H,k.heap E,r⟩⟩
def dT (k:fe w w' b)(hne:v.ownBlock≠some b)(h:w.ownsRow lo et sz v n cs):w'.ownsRow lo et sz v n cs:=by
 obtain⟨hl,hv|⟨g,cap,G,rfl,H,E,r⟩⟩:=h
 · exact⟨hl,.inl hv⟩
 · exact⟨hl,.inr ⟨g,cap,G,rfl,H,(k.block g (λe=>hne (by simp[Value.ownBlock,e]))).trans E,r⟩⟩
def KC (k:w.grownBy w' row)(hne:∀g,v.ownBlock=some g->some g≠row)(h:w.ownsRow lo et sz v n cs):w'.ownsRow lo et sz v n cs:=by
 obtain⟨hl,hv|⟨g,cap,G,rfl,H,E,r⟩⟩:=h
 · exact⟨hl,.inl hv⟩
 · exact⟨hl,.inr ⟨g,cap,G,rfl,H,(k.block g (Array.getElem?_eq_some_iff.1 E).1 (hne g Z)).trans E,r⟩⟩
end grow
section ops3
variable {r:Option Nat}{Q:Exit->Act->World->Prop}{K:Act->World->Prop}
variable {ty:Nat}{pos:String}{af:Array Edge}{g:Option (Nat×Bool)}{u:Value}{y:Operand}{t':TypeId}
def ni (base:Nat)(ty e:TypeId)(i:TypeInfo)(size:Nat)(ht:P.underlying t=some (.slice e))(hi:P.info? e=some i)(v:Value)(n:Nat)(xs:List Value)(hown:w.ownsRow base e size v n xs)(c:Nat):(Builtin.append_ #[t,t] ty #[v,.slice none 0 c]).run P w=.ok v w:=by
 rcases hown.2 with⟨rfl,rfl⟩|⟨g,cap,cur,rfl,_,_,hnc,_⟩
 · simp[Builtin.append_,run_underlying ht,sizeOf,typeInfo,hi,Builtin.lenOf,Builtin.firstCells]
 · simp[Builtin.append_,run_underlying ht,sizeOf,typeInfo,hi,Builtin.lenOf,Builtin.firstCells,hnc,storeCells]
def jA {z:Value}{base lo:Nat}{xs news:List Value}(hu:P.underlying t=some (.slice el))(hi:gW P el z size bytes)(hz:z.cells.size=size)(hs:0<size)(hx:ev N e x=v)(hown:w.ownsRow base el size v k xs)(hy:ev N e y=.slice A m c)(hr:Rw w lo A news)(hl:news.length=m*size)(h1:∀u∈news,u.oneCell'=true)(h63:k+m<=maxLen)(hb:(k+m)*bytes<=140737488355328)(hbase:base<=w.heap.size)(hk:∀v' w',w'.ownsRow base el size v' (k+m) (xs++news)->w.grownBy w' v.ownBlock->(v'.ownBlock=v.ownBlock\/v'.ownBlock=some w.heap.size)->K (act N (upd e d v') ds) w'):
 Oper.wpIn (Fw r) n P ⟨some d,.call {callee:=.builtin .append,args:=#[x,y],argTypes:=#[t,t]},ty,pos,af,g⟩ (act N e ds) w K Q:=by
 obtain⟨i,O,kd,A1,W⟩:=hi.parts
 have key:∃v' w',(Builtin.append_ #[t,t] ty #[v,.slice A m c]).run P w=.ok v' w'/\w'.ownsRow base el size v' (k+m) (xs++news)/\w.grownBy w' v.ownBlock/\(v'.ownBlock=v.ownBlock\/v'.ownBlock=some w.heap.size):=by
  by_cases hm:news=[]
  · subst hm
    have A2:m=0:=by
     rcases Nat.eq_zero_or_pos m with h|h
     · exact h
     · have:=Nat.mul_pos h hs;simp at hl;omega
    subst A2
    rcases A with _|ad
    · exact⟨v,w,ni base ty el i size hu O v k xs hown c,by simpa using hown,World.grownBy.refl w _,.inl Z⟩
    · obtain⟨v',w',E,G,H,_,kk⟩:=run_append_own_at (P:=P) w base t ty el i z size bytes hu O kd A1 W hz hs v k xs hown ad 0 c [] Vk (λj u hu=>by simp at hu) Vk h63 hb hbase
      exact⟨v',w',E,G,H,kk⟩
  · have Ab:0<news.length:=List.length_pos_iff.2 hm
    obtain⟨b,o,hA,_⟩:=hr.cells 0 news[0] (qa5 Ab)
    subst hA
    obtain⟨v',w',E,G,H,_,kk⟩:=run_append_own_at (P:=P) w base t ty el i z size bytes hu O kd A1 W hz hs v k xs hown ⟨b,o,none⟩ m c news hl
     (λj u hu=>by obtain⟨_,_,hA,hc⟩:=hr.cells j u hu;cases hA;rw[Addr.add_mid];exact hc) h1 h63 hb hbase
    exact⟨v',w',E,G,H,kk⟩
 obtain⟨v',w',E,G,H,Ad⟩:=key
 refine cX (v:=v') (w':=w') Z ?_ (by rw[ai];exact hk v' w' G H Ad)
 simp[execOp,resolve,invoke,builtin,hx,hy,E]
def oe {z:Value}{kl kc:IntKind}(hu:P.underlying t=some (.slice el))(hi:gW P el z size bytes)(hx:ev N e x=.int kl m)(hy:ev N e y=.int kc m)(hb:bytes*m<=281474976710656)(h63:m<=maxLen)(hk:∀w',a8 w w'->w.heap.size<w'.heap.size->w'.ownsRow w.heap.size el size (.slice (some ⟨w.heap.size,0,none⟩) m m) m (madeCells z.cells (m*size)).toList->K (act N (upd e d (.slice (some ⟨w.heap.size,0,none⟩) m m)) ds) w'):
 Oper.wpIn (Fw r) n P ⟨some d,.makeSlice t x y,ty,pos,af,g⟩ (act N e ds) w K Q:=by
 obtain⟨i,H,O,kd,W⟩:=hi.parts
 subst W
 obtain⟨w',E,r1,r2⟩:=run_make_full (P:=P) w w.heap.size t el i z size hu H O kd kl kc m hb h63 (qa0 _)
 have kk:w.heap.size<w'.heap.size:=by
  obtain⟨_,h|⟨g,cap,A1,hv,A2,G,_⟩⟩:=r1
  · simp at h
  · simp only[Value.slice.injEq,Option.some.injEq,Addr.mk.injEq]at hv
    obtain⟨⟨rfl,_⟩,_⟩:=hv
    exact(Array.getElem?_eq_some_iff.1 G).1
 refine cX (v:=.slice (some ⟨w.heap.size,0,none⟩) m m) (w':=w') Z ?_ (by rw[ai];exact hk w' (a8.of_gr r2) kk r1)
 simp[execOp,hx,hy,E]
def BX {z:Value}{kl kc:IntKind}(hu:P.underlying t=some (.slice el))(hi:gW P el z size bytes)(hx:ev N e x=.int kl 0)(hy:ev N e y=.int kc m)(hb:bytes*m<=281474976710656)(h63:m<=maxLen)(hk:∀w',a8 w w'->w'.ownsRow w.heap.size el size (.slice (some ⟨w.heap.size,0,none⟩) 0 m) 0 []->K (act N (upd e d (.slice (some ⟨w.heap.size,0,none⟩) 0 m)) ds) w'):
 Oper.wpIn (Fw r) n P ⟨some d,.makeSlice t x y,ty,pos,af,g⟩ (act N e ds) w K Q:=by
 obtain⟨i,G,H,kk,O⟩:=hi.parts
 subst O
 obtain⟨w',E,r1,r2⟩:=run_make_own (P:=P) w w.heap.size t el i z size hu G H kk kl kc m hb h63 (qa0 _)
 refine cX (v:=.slice (some ⟨w.heap.size,0,none⟩) 0 m) (w':=w') Z ?_ (by rw[ai];exact hk w' (a8.of_gr r2) r1)
 simp[execOp,hx,hy,E]
def lg {z:Value}{parts:Array (Nat×Operand)}{vs:List (Nat×Value)}{cells:Array Value}(hu:P.underlying t=some (.slice el))(hi:gW P el z size bytes)(hp:(parts.toList.map fun(i,x)=>(i,ev N e x))=vs)(h24:m*size<=16777216)(hm:0<m*size)(hf:Instr.fill (λi=>some (i*size,size)) ((Array.range (m*size)).map (z.cells[· %z.cells.size]!)) vs=some cells)(hsz:cells.size=m*size)(hmm:m<=maxLen)(hk:∀w',a8 w w'->w.heap.size<w'.heap.size->w'.ownsRow w.heap.size el size (.slice (some ⟨w.heap.size,0,none⟩) m m) m cells.toList->K (act N (upd e d (.slice (some ⟨w.heap.size,0,none⟩) m m)) ds) w'):
 Oper.wpIn (Fw r) n P ⟨some d,.buildSlice t m parts,ty,pos,af,g⟩ (act N e ds) w K Q:=by
 obtain⟨i,G,H,O,_⟩:=hi.parts
 subst O
 refine cX (v:=.slice (some ⟨w.heap.size,0,none⟩) m m) (w':=w.alloc (.cells cells el)) Z ?_ (by
  rw[ai]
  exact hk _ (a8.alloc _ _) Vk ⟨by simpa using hsz,.inr ⟨w.heap.size,m,cells,rfl,Nat.le_refl _,heap_alloc_new w _,Nat.le_refl _,hmm,hsz,by rw[List.take_of_length_le (by simp[hsz])]⟩⟩)
 have hp':(parts.map fun(i,x)=>(i,ev N e x)).toList=vs:=by rw[<-hp];simp
 subst hp'
 have E:¬m*i.size>2^24:=J
 have kk:¬(m*i.size=0):=J
 simp only[execOp,Instr.buildSlice,Sem.run_bind,run_underlying hu,Result.andThen_ok,sizeOf,typeInfo,run_program,G,Sem.run_pure,zeroValue,H,E,if_false,kk,hf,newRow,run_newObj,World.alloc_eq]
def mM {w:World}:∀(fs:List Field) (pl:List (Nat×Nat)),fs.map (λf=>(f.offset,(P.info? f.type).map (·.size)))=pl.map (λp=>(p.1,some p.2))->
 (fs.mapM λf=>(do pure (f.offset,<-sizeOf f.type):Sem (Nat×Nat))).run P w=.ok pl w
 |[],[],_=>by simp
 |[],p::pl,h=>by simp at h
 |f::fs,[],h=>by simp at h
 | f ::fs,p::pl,h=>by
   simp only[List.map_cons,List.cons.injEq,Prod.mk.injEq]at h
   obtain⟨⟨h1,h2⟩,h3⟩:=h
   have E:=mM (w:=w) fs pl h3
   cases hi:P.info? f.type with
   |none=>rw[hi]at h2;cases h2
   | some i=>
     rw[hi]at h2
     simp only[Option.map_some,Option.some.injEq]at h2
     have hs:(sizeOf f.type).run P w=.ok p.2 w:=by simp[sizeOf,typeInfo,hi,h2]
     rw[List.mapM_cons]
     simp only[Sem.run_bind,hs,Result.andThen_ok,Sem.run_pure]at E ⊢
     rw[E]
     simp[h1]
def aS {fs:Array Field}{z:Value}{parts:Array (Nat×Operand)}{vs:List (Nat×Value)}{pl:List (Nat×Nat)}{cells:Array Value}(hu:P.underlying t=some (.struct fs))(hi:gW P t z size bytes)(hpl:fs.toList.map (λf=>(f.offset,(P.info? f.type).map (·.size)))=pl.map (λp=>(p.1,some p.2)))(hp:(parts.toList.map fun(i,x)=>(i,ev N e x))=vs)(hf:Instr.fill (pl.toArray[·]?) z.cells vs=some cells)(hk:K (act N (upd e d (.agg cells)) ds) w):
 Oper.wpIn (Fw r) n P ⟨some d,.build t parts,ty,pos,af,g⟩ (act N e ds) w K Q:=by
 obtain⟨i,H,O,_,_⟩:=hi.parts
 refine cX (v:=.agg cells) (w':=w) Z ?_ Vl
 have hp':(parts.map fun(i,x)=>(i,ev N e x)).toList=vs:=by rw[<-hp];simp
 subst hp'
 have G:=mM (P:=P) (w:=w) fs.toList pl hpl
 have E:(fs.mapM λf=>(do pure (f.offset,<-sizeOf f.type):Sem (Nat×Nat))).run P w=.ok pl.toArray w:=by
  rw[Array.mapM_eq_mapM_toList]
  simp only[Sem.run_map,G,Result.andThen_ok]
 simp only[execOp,Instr.build,Sem.run_bind,run_underlying hu,Result.andThen_ok,zeroValue,typeInfo,run_program,H,Sem.run_pure,O]
 erw [E]
 simp only[Result.andThen_ok,hf]
 rfl
end ops3
section code
variable {r:Option Nat}{Q:Exit->Act->World->Prop}{K:Act->World->Prop}{a:Act}
variable {ops:Array Oper}{rest:List Oper}{dst:Option Tmp}{op:Op}{ty:Nat}{pos:String}{af:Array Edge}{id:Nat}{c c1 c2:Code}
def ab (h:Oper.wpIn (Fw r) n P ⟨dst,op,ty,pos,af,none⟩ a w (wpListIn (Fw r) n P ops Q rest) Q):wpListIn (Fw r) n P ops Q (⟨dst,op,ty,pos,af,none⟩::rest) a w:=by
 unfold wpListIn
 rw[if_pos (by simp[Region.wanted])]
 exact h
def mN (hj:(ops[j]?).bind (·.dst)=some s)(hv:ev N e (.tmp s)=.bool q):yielded ops (act N e ds).tmps j=some q:=by
 have h1:(act N e ds).tmps[s]?=some (.bool q):=by
  have E:(act N e ds).eval (.tmp s)=.bool q:=by rw[c6];exact hv
  simp only[Act.eval]at E
  by_cases hs:s<(act N e ds).tmps.size
  · simp only[Array.getD,hs,dif_pos]at E
    rw[Array.getElem?_eq_getElem hs]
    exact qb1 some E
  · simp only[Array.getD,hs,dif_neg,not_false_eq_true]at E
    simp[undef]at E
 simp[yielded,hj,h1]
def cT (l:List Oper)(j:Nat):Option Nat:=(l[j]?).bind (·.dst)
def og {l:List Oper}(hj:cT l j=some s)(hv:ev N e (.tmp s)=.bool q)(h:wpListIn (Fw r) n P l.toArray Q (⟨dst,op,ty,pos,af,none⟩::rest) (act N e ds) w):wpListIn (Fw r) n P l.toArray Q (⟨dst,op,ty,pos,af,some (j,q)⟩::rest) (act N e ds) w:=by
 have hj':(l.toArray[j]?).bind (·.dst)=some s:=by rw[List.getElem?_toArray];exact hj
 unfold wpListIn at h ⊢
 rw[if_pos (by simp[Region.wanted])]at h
 rw[if_pos (by simp[Region.wanted,mN hj' hv])]
 obtain⟨_,E⟩:=h
 exact⟨λf _=>k5 r f,E⟩
def mO {l:List Oper}(hj:cT l j=some s)(hv:ev N e (.tmp s)=.bool (!q))(h:wpListIn (Fw r) n P l.toArray Q rest (act N (upd e d undef) ds) w):wpListIn (Fw r) n P l.toArray Q (⟨some d,op,ty,pos,af,some (j,q)⟩::rest) (act N e ds) w:=by
 have hj':(l.toArray[j]?).bind (·.dst)=some s:=by rw[List.getElem?_toArray];exact hj
 unfold wpListIn
 rw[if_neg (by simp[Region.wanted,mN hj' hv])]
 exact⟨λf _=>k5 r f,by rw[ai];exact h⟩
def pW (h:Q .normal a w):wpListIn (Fw r) n P ops Q [] a w:=h
def ss (h:c1.wpIn (Fw r) n P (Exit.then (c2.wpIn (Fw r) n P Q) Q) a w):(Code.seq c1 c2).wpIn (Fw r) n P Q a w:=wpIn_seq h
def vq {l:List Oper}(h:wpListIn (Fw r) n P l.toArray Q l a w):(Code.region id l.toArray false).wpIn (Fw r) n P Q a w:=wpIn_region_lit h
def vr (h:c.wpIn (Fw r) n P (Exit.inBlock id Q) a w):(Code.block id c).wpIn (Fw r) n P Q a w:=wpIn_block h
def qW (hx:ev N e x=.bool true)(h:c1.wpIn (Fw r) n P Q (act N e ds) w):(Code.cond x c1 c2).wpIn (Fw r) n P Q (act N e ds) w:=wpIn_cond_true (by rw[c6];exact hx) h
def lh (hx:ev N e x=.bool false)(h:c2.wpIn (Fw r) n P Q (act N e ds) w):(Code.cond x c1 c2).wpIn (Fw r) n P Q (act N e ds) w:=wpIn_cond_false (by rw[c6];exact hx) h
def qX (hx:ev N e x=.bool q)(h1:q=true->c1.wpIn (Fw r) n P Q (act N e ds) w)(h2:q=false->c2.wpIn (Fw r) n P Q (act N e ds) w):
 (Code.cond x c1 c2).wpIn (Fw r) n P Q (act N e ds) w:=wpIn_cond_split (by rw[c6];exact hx) h1 h2
def oh (h:Q .normal a w):Code.skip.wpIn (Fw r) n P Q a w:=wpIn_skip h
def yb (h:Q (.exit id) a w):(Code.exit id).wpIn (Fw r) n P Q a w:=wpIn_exit h
def Ek (h:Q .ret a w):Code.ret.wpIn (Fw r) n P Q a w:=wpIn_ret h
def pX (kx:Nat->(Nat->Value)->World->Prop)(hs:∀k e w,kx k e w->c.wpIn (Fw r) n P (Exit.then (λa' w'=>∃k' e',k'<k/\a'=act N e' ds/\kx k' e' w') Q) (act N e ds) w):
 ∀(m k:Nat) (e:Nat->Value) (w:World),k<m->kx k e w->Code.roundsIn (Fw r) n P c Q m (act N e ds) w
 |0,_,_,_,h,_=>absurd h (Nat.not_lt_zero _)
 | m +1,k,e,w,h,hI=>wpIn_mono (hs k e w hI) (by
  intro x a' w' hq
  cases x <;>first|exact hq|(obtain⟨k',e',hk,rfl,hI'⟩:=hq;exact pX kx hs m k' e' w' J hI'))
def FC (kx:Nat->(Nat->Value)->World->Prop)(k:Nat)(h0:kx k e w)(hs:∀k e w,kx k e w->c.wpIn (Fw r) n P (Exit.then (λa' w'=>∃k' e',k'<k/\a'=act N e' ds/\kx k' e' w') Q) (act N e ds) w):
 (Code.loop c).wpIn (Fw r) n P Q (act N e ds) w:=wpIn_loop_rounds (k+1) (pX kx hs (k+1) k e w (Nat.lt_succ_self k) h0)
def pY (l:List Nat)(t:Nat):Bool:=l.any λd=>Nat.beq d t
def ap {l:List Nat}(hd:pY l d=true)(h:∀t,pY l t=false->e' t=e1 t):∀t,pY l t=false->upd e' d v t=e1 t:=by
 intro t ht
 have:t≠d:=λE=>by subst E;rw[hd]at ht;cases ht
 rw[upd_ne _ _ this];exact h t ht
def yc {id:Nat}(h:Q (.exit id) a w):Exit.then K Q (.exit id) a w:=h
def Ik {id:Nat}(h:Q .normal a w):Exit.inBlock id Q (.exit id) a w:=by simp only[Exit.inBlock,if_true];exact h
def Il {id id':Nat}(hne:Nat.beq id' id=false)(h:Q (.exit id') a w):Exit.inBlock id Q (.exit id') a w:=by
 have:id'≠id:=λe=>by subst e;simp at hne
 simp only[Exit.inBlock,if_neg this];exact h
def mf (h:K a w):Exit.then K Q .normal a w:=h
def Im {id:Nat}(h:Q .normal a w):Exit.inBlock id Q .normal a w:=h
def yd (h:Q .ret a w):Exit.then K Q .ret a w:=h
def Io {id:Nat}(h:Q .ret a w):Exit.inBlock id Q .ret a w:=h
end code
section func
variable {fn:Func}{c:Code}{R:Value->World->Prop}
def BP (args:List Value):Nat->Value:=λi=>args.getD i undef
def aC {args:List Value}(hf:P.funcs[f]?=some fn)(hb:fn.body=some c)(h:c.wpIn (Fw none) 0 P (bodyPost P fn (aH w R)) (act (args.length+(fn.ntmps-args.length)) (BP args) []) w):Calls P f args.toArray w (aH w R):=by
 refine nX (n:=0) (callsIn_of_wp hf hb trivial ?_)
 have:({tmps:=args.toArray++Array.replicate (fn.ntmps-args.toArray.size) undef,defers:=[]}:Act)=act (args.length+(fn.ntmps-args.length)) (BP args) []:=by
  simp only[act,Act.mk.injEq,and_true]
  apply Array.ext
  · simp
  · intro i _ _
    simp only[Array.getElem_ofFn,BP]
    by_cases hi:i<args.length
    · simp[hi]
    · have E:args.toArray.size<=i:=by simpa using hi
      rw[Array.getElem_append_right E]
      simp[List.getElem?_eq_none (Nat.le_of_not_lt hi)]
 rw[this]
 exact h
def aK (hr:(results fn (act N e []).tmps).run P w'=.ok v w')(hx:a8 w w')(hR:R v w'):bodyPost P fn (aH w R) .ret (act N e []) w':=
 ⟨rfl,v,hr,hx,hR⟩
def Ip (hr:(results fn (act N e []).tmps).run P w'=.ok v w')(hx:a8 w w')(hR:R v w'):bodyPost P fn (aH w R) .normal (act N e []) w':=
 ⟨rfl,v,hr,hx,hR⟩
def oi {t:Nat}(hv:ev N e (.tmp t)=v):(act N e ds).tmps.getD t undef=v:=by
 have:(act N e ds).eval (.tmp t)=v:=by rw[c6];exact hv
 exact this
def fI (tmps:Array Value):ResultVar->Sem Value
 | .tmp t=>pure (tmps.getD t undef)
 | .cell a t=>do loadVar t (<-asAddr (tmps.getD a undef))
def aE {t:Nat}(hv:ev N e (.tmp t)=v)(w:World):(fI (act N e ds).tmps (.tmp t)).run P w=.ok v w:=by
 simp[fI,oi hv]
def du {t:Nat}(hu:P.underlying ty=some D)(hd:D.isRow=false)(hv:ev N e (.tmp t)=.pointer (some ⟨b,o,none⟩))(hc:w.cell? ⟨b,o,none⟩=some v):
 (fI (act N e ds).tmps (.cell t ty)).run P w=.ok v w:=by
 have E:(isAgg ty).run P w=.ok false w:=by
  unfold isAgg
  rw[Sem.run_bind,run_underlying hu w]
  cases D <;>simp_all
 simp[fI,oi hv,asAddr,loadVar,E,hc]
def ah {t:Nat}{cs:List Value}(hu:P.underlying ty=some D)(hd:D.isRow=true)(hi:(P.info? ty).map (·.size)=some cs.length)(hv:ev N e (.tmp t)=.pointer (some ⟨b,o,none⟩))(hc:∀j u,cs[j]?=some u->w.cell? ⟨b,o+j,none⟩=some u):
 (fI (act N e ds).tmps (.cell t ty)).run P w=.ok (.agg cs.toArray) w:=by
 simp[fI,oi hv,asAddr,run_loadVar_mid w b o ty cs D hc hu hd hi]
def i7 (tmps:Array Value):results fn tmps=(do
 let vs <-fn.results.mapM (fI tmps)
 pure (if h:vs.size=1 then vs[0]else .tuple vs)):=rfl
def xc (h:fn.results=#[]):(results fn tmps).run P w=.ok (.tuple #[]) w:=by
 rw[i7,h];simp
def cn {r1:ResultVar}(h:fn.results=#[r1])(h1:(fI tmps r1).run P w=.ok v1 w):(results fn tmps).run P w=.ok v1 w:=by
 rw[i7,h];simp[h1]
def cJ {r1 r2:ResultVar}(h:fn.results=#[r1,r2])(h1:(fI tmps r1).run P w=.ok v1 w)(h2:(fI tmps r2).run P w=.ok v2 w):
 (results fn tmps).run P w=.ok (.tuple #[v1,v2]) w:=by
 rw[i7,h];simp[h1,h2]
def BY {r1 r2 r3:ResultVar}(h:fn.results=#[r1,r2,r3])(h1:(fI tmps r1).run P w=.ok v1 w)(h2:(fI tmps r2).run P w=.ok v2 w)(h3:(fI tmps r3).run P w=.ok v3 w):
 (results fn tmps).run P w=.ok (.tuple #[v1,v2,v3]) w:=by
 rw[i7,h];simp[h1,h2,h3]
def an {t:Nat}(hres:fn.results=#[.tmp t])(hx:a8 w w')(hR:R v w')(hv:ev N e (.tmp t)=v):bodyPost P fn (aH w R) .ret (act N e []) w':=
 aK (cn hres (aE hv w')) hx hR
def aW {t:Nat}(hres:fn.results=#[.tmp t,.tmp u])(hx:a8 w w')(hR:R (.tuple #[v1,v2]) w')(h1:ev N e (.tmp t)=v1)(h2:ev N e (.tmp u)=v2):bodyPost P fn (aH w R) .ret (act N e []) w':=
 aK (cJ hres (aE h1 w') (aE h2 w')) hx hR
def k4 {t:Nat}(hres:fn.results=#[.tmp t,.tmp u,.tmp s])(hx:a8 w w')(hR:R (.tuple #[v1,v2,v3]) w')(h1:ev N e (.tmp t)=v1)(h2:ev N e (.tmp u)=v2)(h3:ev N e (.tmp s)=v3):bodyPost P fn (aH w R) .ret (act N e []) w':=
 aK (BY hres (aE h1 w') (aE h2 w') (aE h3 w')) hx hR
end func
section calls
variable {r:Option Nat}{Q:Exit->Act->World->Prop}{K:Act->World->Prop}
variable {ty:Nat}{pos:String}{af:Array Edge}{g:Option (Nat×Bool)}{u:Value}{y:Operand}{t':TypeId}{R:Value->World->Prop}
def Enters (P:Program)(f:FuncId):Prop:=∀args w,(callFunc f args).run P w=.ok (.enter f args) w
def xd {fn : Func}(hf : P.funcs[f]? = some fn)(hn : (fn.name == "runtime.NumGoroutine") = false)(hb : fn.body.isNone = false) : Enters P f := fun args w => by
 have hn' : fn.name ≠ "runtime.NumGoroutine" := by simpa using hn
 have hb':fn.body≠none:=λh=>by rw[h]at hb;cases hb
 simp[callFunc,hf,hn',hb']
def ol (hf:Enters P f)(hv:xs.toList.map (ev N e)=vs)(hc:Calls P f vs.toArray w (aH w R))(hk:∀v w',a8 w w'->R v w'->K (act N (upd e d v) ds) w'):Oper.wpIn (Fw r) n P ⟨some d,.call {callee:=.value (.func f),args:=xs,argTypes:=ats},ty,pos,af,g⟩ (act N e ds) w K Q:=by
 subst hv
 refine qV (f:=f) (args:=xs.map (ev N e)) (R:=R) Z ?_ (by have h:=hc;rwa [show(xs.toList.map (ev N e)).toArray=xs.map (ev N e)by rw[<-Array.toList_map,Array.toArray_toList]]at h) (λv w' h1 E=>by rw[ai];exact hk v w' h1 E)
 simp[execOp,resolve,Deferred.ofValue,ev,invoke,hf _ _]
def BZ (hf:Enters P f)(hx:ev N e x=.func (.func f) #[] lb.toArray)(hv:xs.toList.map (ev N e)=vs)(hc:Calls P f (vs++lb).toArray w (aH w R))(hk:∀v w',a8 w w'->R v w'->K (act N (upd e d v) ds) w'):Oper.wpIn (Fw r) n P ⟨some d,.call {callee:=.value x,args:=xs,argTypes:=ats},ty,pos,af,g⟩ (act N e ds) w K Q:=by
 subst hv
 have E:xs.map (ev N e)++lb.toArray=(xs.toList.map (ev N e)++lb).toArray:=by simp
 refine qV (f:=f) (args:=xs.map (ev N e)++lb.toArray) (R:=R) Z ?_ (by rw[E];exact hc) (λv w' h1 E=>by rw[ai];exact hk v w' h1 E)
 simp[execOp,resolve,Deferred.ofValue,hx,invoke,hf _ _]
end calls
section draws
variable {r:Option Nat}{e0:Nat->Value}{Q:Exit->Act->World->Prop}{ops:Array Oper}
def iF (hc:Region.chainB .any ops M=true)(hwf:∀(i:Nat) (o:Oper),ops[i]?=some o->∀e∈o.after,Region.binds .any e=true->e.on<i):
 ∀ (m k:Nat) (listed:Array Bool) (a:Act) (w:World) (fuel:Nat),k+m=ops.size->M<=k->listed.size=ops.size->(∀i,i<k->listed.getD i false=true)->(∀i,k<=i->i<ops.size->listed.getD i true=false)->m<=fuel->
  wpListIn (Fw r) n P ops Q (ops.toList.drop k) a w->wpAnyIn (Fw r) n P .any ops Q fuel listed a w:=by
 intro m
 induction m with
 | zero=>
   intro k listed a w fuel hk hM A1 hl kk hf h
   have hd:ops.toList.drop k=[]:=List.drop_eq_nil_of_le Va
   rw[hd]at h
   have hr:Region.ready .any ops listed=[]:=by
    cases hr:Region.ready .any ops listed with
    |nil=>rfl
    | cons i l=>
      have hi:i∈Region.ready .any ops listed:=by rw[hr];simp
      obtain⟨h1,o,ho,_⟩:=mem_ready.1 hi
      have O:=(Array.getElem?_eq_some_iff.1 ho).1
      have E:=hl i J
      have G:i<listed.size:=J
      simp[G]at h1 E
      rw[h1]at E
      cases E
   cases fuel with
   |zero=>exact⟨hr,h⟩
   |succ f=>exact⟨λ_=>h,λi hi=>by rw[hr]at hi;cases hi⟩
 | succ m ih=>
   intro k listed a w fuel hk hM A1 hl kk hf h
   have O:k<ops.size:=J
   have kd:ops[k]?=some ops[k]:=Array.getElem?_eq_getElem O
   have hd:ops.toList.drop k=ops[k]::ops.toList.drop (k+1):=by
    rw[List.drop_eq_getElem_cons (by simpa using O)];simp
   rw[hd]at h
   have Ab:k∈Region.ready .any ops listed:=mem_ready.2 ⟨kk k (qa0 k) O,ops[k],kd,λe W hb=>hl _ (hwf k _ kd e W hb)⟩
   cases fuel with
   |zero=>omega
   | succ f=>
     refine⟨λAp=>(by rw[Ap]at Ab;cases Ab),λi hi=>?_⟩
     obtain⟨h1,o,ho,Ao⟩:=mem_ready.1 hi
     have A2:=(Array.getElem?_eq_some_iff.1 ho).1
     have Ar:k<=i:=by
      rcases Nat.lt_or_ge i k with hh|hh
      · have E:=hl i hh
        have G:i<listed.size:=J
        simp[G]at h1 E
        rw[h1]at E
        cases E
      · exact hh
     have Aq:i=k:=by
      rcases Nat.eq_or_lt_of_le Ar with hh|hh
      · exact hh.symm
      · have H:=List.all_eq_true.1 hc i (List.mem_range.2 A2)
        simp only[Bool.or_eq_true,decide_eq_true_eq]at H
        rcases H with H|H
        · omega
        · obtain⟨o',Af,e,W,hb,As⟩:=Region.waitsFor_spec H
          have:o'=o:=qb4 (Af.symm.trans ho)
          subst this
          have E:=Ao e W hb
          have G:=kk (i-1) J J
          rw[As,getD_both G]at E
          cases E
     subst Aq
     have step:∀a w,wpListIn (Fw r) n P ops Q (ops.toList.drop (i+1)) a w->wpAnyIn (Fw r) n P .any ops Q f (listed.setIfInBounds i true) a w:=λa w h=>
      ih (i+1) _ a w f J J (by simp[A1]) (λj Am=>by
       by_cases hji:i=j
       · subst hji;simp[A1,A2]
       · rw[getD_set_ne false hji];exact hl j J) (λj Am Ad=>by rw[getD_set_ne true J];exact kk j J Ad) J h
     unfold wpOpIn
     rw[kd]
     unfold wpListIn at h
     dsimp only
     split
     · rename_i hw;rw[if_pos hw]at h;exact Oper.wpIn_mono step h
     · rename_i hw;rw[if_neg hw]at h;exact⟨h.1,step _ _ h.2⟩
def left (ops:Array Oper)(listed:Array Bool):Nat:=((List.range ops.size).filter λi=>!listed.getD i false).length
def iG {listed:Array Bool}(hi:i<ops.size)(hs:listed.size=ops.size)(h:listed.getD i false=false):left ops (listed.setIfInBounds i true)+1<=left ops listed:=by
 unfold left
 have key:∀l:List Nat,l.Nodup->(∀j∈l,j<ops.size)->((l.filter λj=> !(listed.setIfInBounds i true).getD j false).length+(if i∈l then 1 else 0)<=(l.filter λj=> !listed.getD j false).length):=by
  intro l
  induction l with
  |nil=>simp
  | cons j l ih=>
    intro H hb
    obtain⟨kk,O⟩:=List.nodup_cons.1 H
    have E:=ih O (λx hx=>hb x (by simp[hx]))
    by_cases hij:i=j
    · subst hij
      rw[if_neg kk]at E
      have h1:(listed.setIfInBounds i true).getD i false=true:=by simp[hs,hi]
      rw[List.filter_cons,List.filter_cons,h1,h]
      simp only[Bool.not_true,Bool.false_eq_true,if_false,Bool.not_false,if_true,List.length_cons,List.mem_cons,true_or]
      omega
    · have h1:(listed.setIfInBounds i true).getD j false=listed.getD j false:=getD_set_ne false hij
      rw[List.filter_cons,List.filter_cons,h1]
      have W:(if i∈j::l then 1 else 0)=(if i∈l then(1:Nat)else 0):=by simp[hij]
      rw[W]
      cases listed.getD j false
      · simp only[Bool.not_false,if_true,List.length_cons];omega
      · simp only[Bool.not_true,Bool.false_eq_true,if_false];exact E
 have:=key (List.range ops.size) List.nodup_range (λj G=>List.mem_range.1 G)
 rw[if_pos (List.mem_range.2 hi)]at this
 exact this
def mg {listed:Array Bool}(hM:M<=ops.size)(h:∀i,M<=i->i<ops.size->listed.getD i false=false):ops.size-M<=left ops listed:=by
 unfold left
 have h1:List.range ops.size=List.range' 0 M++List.range' M (ops.size-M):=by
  have E:=List.range'_append (s:=0) (m:=M) (n:=ops.size-M) (step:=1)
  simp only[Nat.zero_add,Nat.one_mul]at E
  rw[List.range_eq_range',E]
  congr 1;omega
 rw[h1,List.filter_append,List.length_append]
 have G:(List.range' M (ops.size-M)).filter (λi=> !listed.getD i false)=List.range' M (ops.size-M):=by
  rw[List.filter_eq_self]
  intro i hi
  rw[List.mem_range'_1]at hi
  rw[h i hi.1 J];rfl
 rw[G,List.length_range']
 omega
def gX {o:Oper}{a:Act}{K K':Act->World->Prop}{Q Q':Exit->Act->World->Prop}(h:∀a w,K a w->K' a w)(hq:∀c a w,Q (.panic c) a w->Q' (.panic c) a w)(ho:∀a w,Q .outgrown a w->Q' .outgrown a w)(hh:o.wpIn (Fw r) n P a w K Q):o.wpIn (Fw r) n P a w K' Q':=by
 unfold Oper.wpIn at *
 refine⟨hh.1,?_⟩
 have hh:=hh.2
 have hl:LetsOut Q->LetsOut Q':=fun⟨a,w,h⟩=>⟨a,w,ho a w h⟩
 generalize (o.semAt (Fw r).round a.eval).run P w=r at *
 cases r with
 | ok x w'=>
   cases x <;>simp only[Oper.uponIn]at hh ⊢ <;>
    first
     |exact h _ _ hh
     |exact⟨hh.1,CallsIn.mono hh.2 (λe w'' E=>by cases e <;>first|exact h _ _ E|exact hq _ _ _ E|exact hl E)⟩
     |exact⟨hh.1,RowsIn.mono hh.2 (λ_ _ E=>h _ _ E)⟩
     |exact⟨hh.1,RoundIn.mono hh.2 (λe w'' E=>by cases e <;>first|exact h _ _ E|exact hq _ _ _ E|exact hl E)⟩
 |halt x w'=>cases x <;>simp only[Oper.uponIn]at hh ⊢ <;>first|exact hq _ _ _ hh|exact hh
def ot (l:List Oper)(M t:Nat):Bool:=(l.take M).any λo=>match o.dst with|some d=>Nat.beq d t|none=>false
def ca (o:Oper)(j:Nat):Bool:=o.after.toList.any λed=>Region.binds .any ed&&Nat.beq ed.on j
def El (l:List Oper):Bool:=(List.range l.length).all λi=>match l[i]? with|some o=>o.after.toList.all λed=>!Region.binds .any ed||Nat.blt ed.on i|none=>true
def it (l:List Oper)(M:Nat):Bool:=(Region.sinkB .any l.toArray M&&Region.chainB .any l.toArray M&&Nat.blt M l.length)||Nat.beq M l.length
def FD (l:List Oper)(M:Nat):Bool:=(List.range M).all λi=>(List.range M).all λj=>Nat.beq i j||(match cT l i,cT l j with|some a,some b=>!Nat.beq a b|_,_=>true)
def phi (φs:List (Value->World->Prop))(j:Nat):Value->World->Prop:=match φs[j]? with|some φ=>φ|none=>λ_ _=>True
def uk (R:World->World->Prop):List (Value->World->Prop)->Prop
 |[]=>True
 |φ::φs=>(∀v w w',R w w'->φ v w->φ v w')/\uk R φs
def ou {R:World->World->Prop}:∀{φs:List (Value->World->Prop)},uk R φs->∀i v w w',R w w'->phi φs i v w->phi φs i v w'
 |[],_,i,v,w,w',_,_=>by simp[phi]
 |φ::φs,h,0,v,w,w',hR,hv=>h.1 v w w' hR hv
 | φ::φs,h,i+1,v,w,w',hR,hv=>by
   have:=ou h.2 i v w w' hR
   simp only[phi,List.getElem?_cons_succ]at this hv ⊢
   exact this hv
end draws
end Go.Eng
namespace Go.Proofs.YtgcfffdpcefifaaGreatDoor
open Go Go.Eng Go.RowKit Tryz
def kH:gW prog 3 (.int .i64 0) 1 8:=by unfold gW;kernel_rfl
def KD:gW prog 4 (.bool false) 1 1:=by unfold gW;kernel_rfl
def KE:gW prog 5 (.int .u8 0) 1 1:=by unfold gW;kernel_rfl
def Em:gW prog 31 (.int .i64 0) 1 8:=by unfold gW;kernel_rfl
def bi:gW prog 23 (.agg #[S [],S []]) 2 32:=by unfold gW;kernel_rfl
def ul:gW prog 76 (.slice none 0 0) 1 24:=by unfold gW;kernel_rfl
def bo:gW prog 78 (.agg #[.bool false,.slice none 0 0]) 2 32:=by unfold gW;kernel_rfl
def FE:gW prog 161 (.nilFunc) 1 8:=by unfold gW;kernel_rfl
def FF:gW prog 114 (.agg #[.pointer none,.slice none 0 0]) 2 32:=by unfold gW;kernel_rfl
def um:gW prog 87 (.agg #[.bool false]) 1 1:=by unfold gW;kernel_rfl
def aL:gW prog 30 (.agg #[S [],S [],S [],S []]) 4 64:=by unfold gW;kernel_rfl
def dp:gW prog 42 (.agg #[S [],S [],S [],S [],S [],S [],S [],S [],.nilFunc]) 9 136:=by unfold gW;kernel_rfl
def hP:gW prog 45 (.agg #[.int .i64 0,S []]) 2 24:=by unfold gW;kernel_rfl
def aI:gW prog 59 (.agg #[S [],S []]) 2 32:=by unfold gW;kernel_rfl
def B0:gW prog 145 (.nilFunc) 1 8:=by unfold gW;kernel_rfl
def bl:gW prog 94 (.agg #[S [],S []]) 2 32:=by unfold gW;kernel_rfl
def eN:(prog.info? 3).map (·.size)=some 1:=by kernel_rfl
def KF:(prog.info? 4).map (·.size)=some 1:=by kernel_rfl
def En:(prog.info? 9).map (·.size)=some 1:=by kernel_rfl
def KG:(prog.info? 31).map (·.size)=some 1:=by kernel_rfl
def dv:(prog.info? 23).map (·.size)=some 2:=by kernel_rfl
def jB:(prog.info? 76).map (·.size)=some 1:=by kernel_rfl
def jC:(prog.info? 78).map (·.size)=some 2:=by kernel_rfl
def Iq:(prog.info? 161).map (·.size)=some 1:=by kernel_rfl
def bc:(prog.info? 30).map (·.size)=some 4:=by kernel_rfl
def ye:(prog.info? 40).map (·.size)=some 1:=by kernel_rfl
def fh:(prog.info? 42).map (·.size)=some 9:=by kernel_rfl
def yf:(prog.info? 45).map (·.size)=some 2:=by kernel_rfl
def cD:(prog.info? 59).map (·.size)=some 2:=by kernel_rfl
def FG:(prog.info? 145).map (·.size)=some 1:=by kernel_rfl
def bf:(prog.info? 94).map (·.size)=some 2:=by kernel_rfl
def U3:=underlying3
def U4:=underlying4
def U5:=underlying5
def U9:=underlying9
def Ku:=underlying28
def gq:=underlying75
def L8:=underlying31
def j8:=underlying23
def Ir:=underlying108
def fj:=underlying76
def iH:=underlying78
def Is:=underlying112
def It:=underlying87
def bp:=underlying30
def eG:=underlying42
def jD:=underlying45
def dw:=underlying59
def Iu:=underlying169
def eX:=underlying94
def bu {f : FuncId}{fn : Func}(hf : prog.funcs[f]? = some fn)(hn : (fn.name == "runtime.NumGoroutine") = false := by kernel_rfl)(hb : fn.body.isNone = false := by kernel_rfl) : Enters prog f := xd hf hn hb
def ky:=bu func46
def FH:=bu func67
def su:=bu func36
def Iw:=bu func200
def FI:=bu func119
def KH:=bu func68
def FJ:=bu func72
def pH:=bu func57
def xe:=bu func62
def i8:=bu func21
def sv:=bu func73
def jE:=bu func32
def B3:=bu func120
def KI:=bu func74
def gt:=bu func69
def FK:=bu func75
def yg:=bu func127
def mh:=bu func70
def qY:=bu func121
def yh:=bu func122
def Eo:=bu func123
def ow:=bu func64
def yi:=bu func105
def iI:=bu func59
def vt:=bu func113
def sw:=bu func114
def Iy:=bu func115
def vu:=bu func116
def jF:=bu func107
def sx:=bu func60
def Ep:=bu func124
def Er:=bu func125
def vw:=bu func126
def ox:=bu func71
def pZ:=bu func168
def p0:=bu func108
def Es:=bu func109
def vx:=bu func111
def mP:=bu func158
def vy:=bu func155
def Iz:=bu func161
def IA:=bu func162
def yj:=bu func163
def IB:=bu func164
def sy:=bu func165
def IC:=bu func166
def yl:=bu func98
def ym:=bu func56
def Et:=bu func102
def ID:=bu func104
def Eu:=bu func110
def sA:=bu func99
def IE:=bu func156
def IF:=bu func157
def vz:=bu func160
def IG:=bu func190
def p7:=bu func159
def Ev:=bu func93
def IH:=bu func88
def Ew:=bu func87
def Ex:=bu func50
def Ey:=bu func94
def yn:=bu func63
def yo:=bu func144
def p9:=bu func145
def qa:=bu func65
def vA:=bu func61
def mQ:=bu func117
def Ez:=bu func112
def EA:=bu func58
def vB:=bu func118
def II:=bu func106
def IJ:=bu func167
def yp:=bu func10
def yq:=bu func11
def oy:=bu func8
def yr:=bu func12
def yt:=bu func19
def FL:=bu func13
def FM:=bu func15
def bN:=bu func16
def FN:=bu func38
def qZ:=bu func40
def jG:=bu func41
def oz:=bu func42
def gu:=bu func43
def q5:=bu func44
def eB:=bu func18
def FO:=bu func45
def iu:=bu func22
def ja:=bu func17
def k6:=bu func20
def jH:=bu func23
def gv:=bu func24
def eP:=bu func25
def q6:=bu func26
def q7:=bu func85
def un:=bu func86
def q8:=bu func48
def FP:=bu func137
def yu:=bu func183
def FQ:=bu func51
def oA:=bu func54
def q9:=bu func79
def fJ:=bu func80
def oB:=bu func81
def oC:=bu func82
def FR:=bu func83
def gw:=bu func84
def uo:=bu func90
def jI:=bu func55
def FT:=bu func138
def us:=bu func139
def FU:=bu func140
def FV:=bu func141
def FW:=bu func142
def FX:=bu func143
def ut:=bu func91
def FY:=bu func178
def uu:=bu func180
def yv:=bu func181
def FZ:=bu func182
def uv:=bu func96
def yw:=bu func97
def F0:=bu func135
def F1:=bu func136
def yx:=bu func184
def F2:=bu func185
def F3:=bu func186
def F4:=bu func205
def yy:=bu func148
def F5:=bu func52
def yz:=bu func95
def F6:=bu func4
def mi:=bu func5
def F7:=bu func6
def k8:=bu func7
def ra:=bu func9
def oD:=bu func14
def uw:=bu func27
def F8:=bu func28
def F9:=bu func29
def fk:=bu func30
def c7:=bu func31
def jJ:=bu func33
def fo:=bu func34
def gx:=bu func35
def rb:=bu func37
def rc:=bu func39
def yA:=bu func47
def yB:=bu func53
def Ga:=bu func66
def Gb:=bu func76
def re:=bu func77
def yC:=bu func78
def yD:=bu func89
def yE:=bu func92
def Gc:=bu func128
def Gd:=bu func129
def rf:=bu func130
def yF:=bu func132
def rh:=bu func133
def Ge:=bu func146
def Gf:=bu func147
def kI:=bu func169
def oE:=bu func170
def ux:=bu func171
def Gg:=bu func176
def Gh:=bu func177
def yG:=bu func202
def ri:=bu func219
def mj:prog.follows .mixedOrders=true:=by kernel_rfl
end Go.Proofs.YtgcfffdpcefifaaGreatDoor
