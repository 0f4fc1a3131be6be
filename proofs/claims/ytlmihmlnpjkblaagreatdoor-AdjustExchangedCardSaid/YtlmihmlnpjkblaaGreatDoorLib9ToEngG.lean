/- Part of the proof of a statement about an adjustment. -/
import Derived.Shelf.Strings.BuilderK
import Derived.Shelf.Strings.SlTrimAscii
import Derived.Shelf.Strconv.Atoi
import Derived.Shelf.LaysM
import Derived.Shelf.Strconv.Itoa3
import Derived.Shelf.Strings.Prefix
import Derived.Shelf.Strings.Repeat
import Derived.Test.YtlmihmlnpjkblaaGreatDoorProg
import Derived.WalkKit
import Derived.WalkSpells
import Derived.WalkLawsBesides
import Derived.OrdersIn
import Derived.TacticsIn
import Derived.RangeFuncFrom
import Derived.RangeFuncCalls
import Derived.RangeFuncLeaves
import Derived.Maps.AppendAt
import Derived.Deep.MidRow
import Derived.Laws.OwnMore
import Derived.LoopNIn
import Derived.StillTail
set_option linter.all false
theorem Z.{u}{α:Sort u}{a:α}:a=a:=.refl a
theorem kd3{p:Prop}(h:p:=by have:=Aq;omega):p:=h
theorem kd2{p:Prop}(h:p:=by split <;>omega):p:=h
theorem kd1{p:Prop}(h:p:=by simp[Fence.wide]):p:=h
theorem kd0{p:Prop}(h:p:=by rw[h2.len];omega):p:=h
theorem kc9{p:Prop}(h:p:=by have:=hR.lt;omega):p:=h
theorem kc8{p:Prop}(h:p:=by rw[List.length_set];omega):p:=h
theorem kc7{p:Prop}(h:p:=by simpa using W):p:=h
theorem kc6{p:Prop}(h:p:=by rw[O.size];exact Ap):p:=h
theorem kc5{p:Prop}(h:p:=by simp only[gL];omega):p:=h
theorem kc4{p:Prop}(h:p:=by rw[gF (ik h),js (g5 h)];rfl):p:=h
theorem kc3{p:Prop}(h:p:=by rw[js (ik h),gF (g5 h)];rfl):p:=h
theorem kc2{p:Prop}(h:p:=by rw[gF (ik h),gF (g5 h)];rfl):p:=h
theorem kc1{p:Prop}(h:p:=by simp only[List.mem_singleton];rintro b rfl;exact Ax):p:=h
theorem kc0{p:Prop}(h:p:=by simp only[List.mem_singleton];rintro b rfl;exact E7):p:=h
theorem kb9{p:Prop}(h:p:=by have:=As;omega):p:=h
theorem kb8{p:Prop}(h:p:=by rintro⟨x,y,z⟩;first|omega|simp_all):p:=h
theorem kb7{p:Prop}(h:p:=by simp[exitTo,hk]):p:=h
theorem kb6{p:Prop}(h:p:=by have:=hy.2;unfold Fi;omega):p:=h
theorem kb5{p:Prop}(h:p:=by have:=h.rn;omega):p:=h
theorem kb4{p:Prop}(h:p:=by rw[h1.len];omega):p:=h
theorem kb3{p:Prop}(h:p:=by subst hc;simp[binOp,Op.intArith,k7 hr]):p:=h
theorem kb2{p:Prop}(h:p:=by rw[aX,List.length_set];omega):p:=h
theorem kb1{p:Prop}(h:p:=by intro h;have h2:KD n L=true:=h;simp_all):p:=h
theorem kb0{p:Prop}(h:p:=by intro hk;first|omega|(rw[H])):p:=h
theorem ka9{p:Prop}(h:p:=by rw[wD (jF h1.lt _),wrap_u8 (by have:=jF h1.lt (n1-1-k);omega)]):p:=h
theorem ka8{p:Prop}(h:p:=by first|exact C3 fw|exact C4 fw|exact C5 fw):p:=h
theorem ka7{p:Prop}(h:p:=by subst hq;simp[binOp,Op.intCmp]):p:=h
theorem ka6{p:Prop}(h:p:=by have:=fT1.2;have:=(hR.bd k KM).2;simp only[Ri]at *;unfold Fi;omega):p:=h
theorem ka5{p:Prop}(h:p:=by simpa using h):p:=h
theorem ka4{p:Prop}(h:p:=by subst hq;simp[binOp,Op.stringOp,S];exact Bool.eq_iff_iff.2 (by simp)):p:=h
theorem ka3{p:Prop}(h:p:=by have:=(hok (i+piv.length) U).1;show c<(L3 (i+piv.length)).length;omega):p:=h
theorem ka2{p:Prop}(h:p:=by first|exact gg cK|exact iz cK G|exact iA cK G):p:=h
theorem ka1{p:Prop}(h:p:=by rw[ha.int,hb.int];rfl):p:=h
theorem ka0{p:Prop}(h:p:=by rw[inv.size];exact hl):p:=h
theorem Fr{p:Prop}(h:p:=by rw[Nat.one_mul];exact hS.fi):p:=h
theorem Fm{p:Prop}(h:p:=by simpa using Nat.eq_of_beq_eq_true h):p:=h
theorem Fk{p:Prop}(h:p:=by rw[ax];exact hk _ (ae1 _ _) (by simp) (by unfold ar;exact heap_alloc_new w _)):p:=h
theorem Fd{p:Prop}(h:p:=by simpa using ho):p:=h
theorem DS{p:Prop}(h:p:=by first|exact hl1|exact hl2|omega):p:=h
theorem DQ{p:Prop}(h:p:=by rw[Int.natAbs_mul];exact qb9 ha.den hb.den):p:=h
theorem DP{p:Prop}(h:p:=by unfold Bj;split <;>first|rfl|omega|(split <;>first|rfl|omega)):p:=h
theorem DM{p:Prop}(h:p:=by simp[recoverD,hu]):p:=h
theorem DH{p:Prop}(h:p:=by first|exact Or.inl ⟨by omega,h48⟩|(have:(l).length=1:=by rw[h48];rfl);exact Or.inr ⟨by omega,h48⟩):p:=h
theorem DE{p:Prop}(h:p:=by rw[qT];exact qb2 gV (by first|exact C3 fw|exact C4 fw|exact C5 fw)):p:=h
theorem DB{p:Prop}(h:p:=by first|exact Or.inl ⟨by omega,h48⟩|(have:((l).drop 1).length=1:=by rw[h48];rfl);exact Or.inr ⟨by omega,h48⟩):p:=h
theorem DA{p:Prop}(h:p:=by first|(have h:xs.length=(L 0).length:=by omega);simp[h];done|(have h:¬xs.length=(L 0).length:=by omega);simp[h]):p:=h
theorem CT{p:Prop}(h:p:=by first|exact Or.inl U|exact Or.inr ⟨by omega,by omega⟩):p:=h
theorem CD{p:Prop}(h:p:=by have h:=hc;rwa [show(xs.toList.map (ev N e)).toArray=xs.map (ev N e)by rw[<-Array.toList_map,Array.toArray_toList]]at h):p:=h
theorem CA{p:Prop}(h:p:=by intro b hb;simp only[List.mem_cons,List.not_mem_nil,or_false]at hb;rcases hb with rfl|rfl|rfl;exact a2;exact ac;exact Wa):p:=h
theorem BT{p:Prop}(h:p:=by assumption):p:=h
theorem Bx{p:Prop}(h:p:=by first|decide|exact qa3 rfl|simp):p:=h
theorem Th{p:Prop}(h:p:=by first|exact qu E bE bE|exact qz E bE bE|exact ua E bE bE|exact ub E bE bE):p:=h
theorem RW{p:Prop}(h:p:=by first|exact sB _ O cZ|exact sD O cZ cZ|exact sE O cZ cZ|(rw[Aq];exact pc _)):p:=h
theorem RT{p:Prop}(h:p:=by have:=hbt;omega):p:=h
theorem RM{p:Prop}(h:p:=by simp[Value.ownBlock];omega):p:=h
theorem RK{p:Prop}(h:p:=by first|exact Jk bf|exact Jl bf|exact Jm bf|exact Jn bf|exact zR bf bf bf bf bf):p:=h
theorem RC{p:Prop}(h:p:=by first|exact ud ah|exact ue ah|exact uf ah|exact ug ah ah ah ah|exact uh ah ah ah ah):p:=h
theorem Rg{p:Prop}(h:p:=by first|exact gh (io cv cw) O G.1 G.2 A0 cK|exact gi (io cv cw) O G.1 cK):p:=h
theorem Rd{p:Prop}(h:p:=by simp only[maxLen];omega):p:=h
theorem Nd{p:Prop}(h:p:=by first|exact gh O G H.1 H.2 A0 ee|exact gi O G H.1 ee|(rw[mE G];rfl)):p:=h
theorem MT{p:Prop}(h:p:=by decide +kernel):p:=h
theorem L7{p:Prop}(h:p:=by first|exact Or.inr U|exact Or.inl (by simp)):p:=h
theorem GS{p:Prop}(h:p:=by rw[Nat.mul_one]):p:=h
theorem Hx{p:Prop}(h:p:=by rw[ax];exact hk):p:=h
theorem WD{p:Prop}(h:p:=by with_reducible first|exact And.right ep|assumption):p:=h
theorem Wf{p:Prop}(h:p:=by exact Z):p:=h
theorem Vc{p:Prop}(h:p:=by decide):p:=h
theorem JT{p:Prop}(h:p:=by first|exact un h1.len h2.len U|exact uo h1.len h2.len U|exact po h1.len h2.len U U G U|exact pp h1.len h2.len U U G U|exact us h1.len h2.len U (λi hi=>G i U hi)):p:=h
theorem zl{p:Prop}(h:p:=by simp[Value.oneCell',S]):p:=h
theorem zd{p:Prop}(h:p:=by simp):p:=h
theorem j1{p:Prop}(h:p:=by first|(rw[oh ah];rfl)|(rw[oi ah];rfl)|(rw[iD ah ah ah,jl ah];rfl)|(rw[iD ah ah ah,jm ah];rfl)|(rw[iE ah ah ah,jl ah];rfl)|(rw[iE ah ah ah,jm ah];rfl)):p:=h
theorem j0{p:Prop}(h:p:=by unfold In64;omega):p:=h
theorem q4{p:Prop}(h:p:=by simp;omega):p:=h
theorem q3{p:Prop}(h:p:=by first|exact HQ hb aj|exact HR hb aj|exact HS hb aj|exact sH hb aj (dig_lo aj)|exact sH hb aj (dig_hi aj)|exact HT hb aj|exact HU hb E aj aj aj aj|(exfalso;omega)):p:=h
theorem q0{p:Prop}(h:p:=by kernel_rfl):p:=h
theorem J{p:Prop}(h:p:=by omega):p:=h
def qa0:=@Nat.le_refl
def qa1:=@decide_eq_true
def qa2:=@decide_eq_false
def qa3:=@Nat.le_of_ble_eq_true
def qa4:=@Bool.eq_false_or_eq_true
def qa5:=@List.getElem?_eq_getElem
def qa6:=@List.getElem?_eq_none
def qa7:=@Nat.zero_le
def qa8:=@Nat.le_trans
def qa9:=@List.all_eq_true
def qb0:=@List.mem_of_getElem?
def qb1:=@Nat.lt_of_lt_of_le
def qb2:=@congrArg
def qb3:=@List.length_take
def qb4:=@Nat.eq_of_beq_eq_true
def qb5:=@Option.some.inj
def qb6:=@Classical.byContradiction
def qb7:=@Rat.mul_comm
def qb8:=@Int.natAbs_mul
def qb9:=@Nat.mul_le_mul
def qc0:=@Rat.intCast_mul
namespace Go.Proofs
open Go.Shelf
def Tryz.lays169_ren:Go.Shelf.Ren:=⟨fun |169=>170|n=>n,fun |70=>205|9=>9|0=>0|72=>208|37=>206|127=>255|3=>3|5=>5|n=>n,fun |n=>n⟩
def Tryz.lays169:Go.Proofs.Lays.n169 prog Tryz.lays169_ren:={
 mixed:=by kernel_rfl
 f169:=func170.trans (qb2 some q0)
 t0:=underlying0
 a0:=Tryz.isAgg0
 z0:=Tryz.sizeOf0
 v0:=Tryz.zeroValue0
 t3:=underlying3
 a3:=Tryz.isAgg3
 z3:=Tryz.sizeOf3
 v3:=Tryz.zeroValue3
 t9:=underlying9
 a9:=Tryz.isAgg9
 z9:=Tryz.sizeOf9
 v9:=Tryz.zeroValue9
 t37:=underlying206
 a37:=Tryz.isAgg206
 z37:=Tryz.sizeOf206
 v37:=Tryz.zeroValue206
 t70:=underlying205
 a70:=Tryz.isAgg205
 z70:=Tryz.sizeOf205
 v70:=Tryz.zeroValue205
 t72:=underlying208
 a72:=Tryz.isAgg208
 z72:=Tryz.sizeOf208
 v72:=Tryz.zeroValue208
 t127:=underlying255
 a127:=Tryz.isAgg255
 z127:=Tryz.sizeOf255
 v127:=Tryz.zeroValue255}
def Tryz.Builder_Extra_169:Builder.Extra prog Tryz.lays169_ren:={
 sizeBuilder:=by kernel_rfl
 liesBuilder:=by kernel_rfl
 t5:=underlying5
 a5:=Tryz.isAgg5
 z5:=Tryz.sizeOf5
 v5:=Tryz.zeroValue5
 infoByte:=by kernel_rfl
 cellsByte:=by kernel_rfl
 sizeByte:=by kernel_rfl
 neB5:=by decide}
open Go.RowKit in
def Tryz.Builder_String_any_k (B b:Nat)(l:List UInt8)(w:World)(h:Lib.IsBuilderF 208 5 B b (Lib.byteCells l) w)(hBw:B<=w.heap.size):
 Calls prog 170 #[.pointer (some ⟨b,0,none⟩)] w λe w'=>e=.returned (.string ⟨l.toArray⟩)/\(Lib.IsBuilderF 208 5 B b (Lib.byteCells l) w'/\Below B w w'/\Lib.OthersKept 5 (some b) w w'):=Any.Builder_String_any_k Tryz.lays169 Tryz.Builder_Extra_169 B b l w h hBw
def Tryz.lays172_ren:Go.Shelf.Ren:=⟨fun |172=>206|244=>242|245=>243|247=>259|279=>260|280=>261|281=>262|282=>263|287=>273|316=>274|171=>167|205=>275|321=>285|322=>286|243=>209|246=>244|283=>264|284=>265|285=>266|286=>267|129=>277|317=>276|318=>278|319=>279|320=>280|337=>287|338=>288|n=>n,fun |9=>9|3=>3|75=>96|76=>210|4=>4|5=>5|167=>285|37=>206|0=>0|85=>286|2=>2|168=>288|53=>259|175=>299|46=>213|210=>303|127=>255|145=>318|143=>316|21=>21|171=>291|173=>294|212=>306|51=>256|20=>20|213=>307|232=>320|233=>321|80=>212|n=>n,fun |15=>2|16=>3|17=>4|18=>8|19=>9|n=>n⟩
def Tryz.lays172:Go.Proofs.Lays.n172 prog Tryz.lays172_ren:={
 mixed:=by kernel_rfl
 f129:=func277.trans (qb2 some q0)
 f171:=func167.trans (qb2 some q0)
 f172:=func206.trans (qb2 some q0)
 f205:=func275.trans (qb2 some q0)
 f243:=func209.trans (qb2 some q0)
 f244:=func242.trans (qb2 some q0)
 f245:=func243.trans (qb2 some q0)
 f246:=func244.trans (qb2 some q0)
 f247:=func259.trans (qb2 some q0)
 f279:=func260.trans (qb2 some q0)
 f280:=func261.trans (qb2 some q0)
 f281:=func262.trans (qb2 some q0)
 f282:=func263.trans (qb2 some q0)
 f283:=func264.trans (qb2 some q0)
 f284:=func265.trans (qb2 some q0)
 f285:=func266.trans (qb2 some q0)
 f286:=func267.trans (qb2 some q0)
 f287:=func273.trans (qb2 some q0)
 f316:=func274.trans (qb2 some q0)
 f317:=func276.trans (qb2 some q0)
 f318:=func278.trans (qb2 some q0)
 f319:=func279.trans (qb2 some q0)
 f320:=func280.trans (qb2 some q0)
 f321:=func285.trans (qb2 some q0)
 f322:=func286.trans (qb2 some q0)
 f337:=func287.trans (qb2 some q0)
 f338:=func288.trans (qb2 some q0)
 t0:=underlying0
 a0:=Tryz.isAgg0
 z0:=Tryz.sizeOf0
 v0:=Tryz.zeroValue0
 t2:=underlying2
 a2:=Tryz.isAgg2
 z2:=Tryz.sizeOf2
 v2:=Tryz.zeroValue2
 t3:=underlying3
 a3:=Tryz.isAgg3
 z3:=Tryz.sizeOf3
 v3:=Tryz.zeroValue3
 t4:=underlying4
 a4:=Tryz.isAgg4
 z4:=Tryz.sizeOf4
 v4:=Tryz.zeroValue4
 t5:=underlying5
 a5:=Tryz.isAgg5
 z5:=Tryz.sizeOf5
 v5:=Tryz.zeroValue5
 t9:=underlying9
 a9:=Tryz.isAgg9
 z9:=Tryz.sizeOf9
 v9:=Tryz.zeroValue9
 t20:=underlying20
 a20:=Tryz.isAgg20
 z20:=Tryz.sizeOf20
 v20:=Tryz.zeroValue20
 t21:=underlying21
 a21:=Tryz.isAgg21
 z21:=Tryz.sizeOf21
 v21:=Tryz.zeroValue21
 t37:=underlying206
 a37:=Tryz.isAgg206
 z37:=Tryz.sizeOf206
 v37:=Tryz.zeroValue206
 t46:=underlying213
 a46:=Tryz.isAgg213
 z46:=Tryz.sizeOf213
 v46:=Tryz.zeroValue213
 t51:=underlying256
 a51:=Tryz.isAgg256
 z51:=Tryz.sizeOf256
 v51:=Tryz.zeroValue256
 t53:=underlying259
 a53:=Tryz.isAgg259
 z53:=Tryz.sizeOf259
 v53:=Tryz.zeroValue259
 t75:=underlying96
 a75:=Tryz.isAgg96
 z75:=Tryz.sizeOf96
 v75:=Tryz.zeroValue96
 t76:=underlying210
 a76:=Tryz.isAgg210
 z76:=Tryz.sizeOf210
 v76:=Tryz.zeroValue210
 t85:=underlying286
 a85:=Tryz.isAgg286
 z85:=Tryz.sizeOf286
 v85:=Tryz.zeroValue286
 t127:=underlying255
 a127:=Tryz.isAgg255
 z127:=Tryz.sizeOf255
 v127:=Tryz.zeroValue255
 t143:=underlying316
 a143:=Tryz.isAgg316
 z143:=Tryz.sizeOf316
 v143:=Tryz.zeroValue316
 t145:=underlying318
 a145:=Tryz.isAgg318
 z145:=Tryz.sizeOf318
 v145:=Tryz.zeroValue318
 t167:=underlying285
 a167:=Tryz.isAgg285
 z167:=Tryz.sizeOf285
 v167:=Tryz.zeroValue285
 t168:=underlying288
 a168:=Tryz.isAgg288
 z168:=Tryz.sizeOf288
 v168:=Tryz.zeroValue288
 t171:=underlying291
 a171:=Tryz.isAgg291
 z171:=Tryz.sizeOf291
 v171:=Tryz.zeroValue291
 t173:=underlying294
 a173:=Tryz.isAgg294
 z173:=Tryz.sizeOf294
 v173:=Tryz.zeroValue294
 t175:=underlying299
 a175:=Tryz.isAgg299
 z175:=Tryz.sizeOf299
 v175:=Tryz.zeroValue299
 t210:=underlying303
 a210:=Tryz.isAgg303
 z210:=Tryz.sizeOf303
 v210:=Tryz.zeroValue303
 t212:=underlying306
 a212:=Tryz.isAgg306
 z212:=Tryz.sizeOf306
 v212:=Tryz.zeroValue306
 t213:=underlying307
 a213:=Tryz.isAgg307
 z213:=Tryz.sizeOf307
 t232:=underlying320
 a232:=Tryz.isAgg320
 z232:=Tryz.sizeOf320
 v232:=Tryz.zeroValue320
 t233:=underlying321
 a233:=Tryz.isAgg321
 z233:=Tryz.sizeOf321
 v233:=Tryz.zeroValue321
 g15:=by kernel_rfl
 g16:=by kernel_rfl
 g17:=by kernel_rfl
 g18:=by kernel_rfl
 g19:=by kernel_rfl}
open Go.RowKit in
def Tryz.strconv_Atoi (s:ByteArray)(n:Int)(hl:s.size<=18)(h:Lib.atoi s.data.toList=some n)(w:World):
 Calls prog 206 #[.string s] w λe w'=>e=.returned (.tuple #[.int .i64 n,.nilIface])/\∃t,w'=Lib.bytesWorld w 5 t:=Any.strconv_Atoi Tryz.lays172 s n hl h w
def Tryz.laysM171_ren:Go.Shelf.Ren:=⟨fun |171=>167|243=>209|246=>244|283=>264|284=>265|285=>266|286=>267|129=>277|317=>276|318=>278|319=>279|320=>280|337=>287|338=>288|n=>n,fun |3=>3|9=>9|2=>2|4=>4|171=>291|0=>0|53=>259|37=>206|5=>5|173=>294|212=>306|51=>256|20=>20|213=>307|46=>213|232=>320|233=>321|n=>n,fun |17=>4|18=>8|19=>9|n=>n⟩
def Tryz.laysM171:Go.Proofs.LaysM.n171 prog Tryz.laysM171_ren:={
 mixed:=by kernel_rfl
 f129:=func277.trans (qb2 some q0)
 f171:=func167.trans (qb2 some q0)
 f243:=func209.trans (qb2 some q0)
 f246:=func244.trans (qb2 some q0)
 f283:=func264.trans (qb2 some q0)
 f284:=func265.trans (qb2 some q0)
 f285:=func266.trans (qb2 some q0)
 f286:=func267.trans (qb2 some q0)
 f317:=func276.trans (qb2 some q0)
 f318:=func278.trans (qb2 some q0)
 f319:=func279.trans (qb2 some q0)
 f320:=func280.trans (qb2 some q0)
 f337:=func287.trans (qb2 some q0)
 f338:=func288.trans (qb2 some q0)
 t0:=underlying0
 a0:=Tryz.isAgg0
 z0:=Tryz.sizeOf0
 v0:=Tryz.zeroValue0
 t2:=underlying2
 a2:=Tryz.isAgg2
 z2:=Tryz.sizeOf2
 v2:=Tryz.zeroValue2
 t3:=underlying3
 a3:=Tryz.isAgg3
 z3:=Tryz.sizeOf3
 v3:=Tryz.zeroValue3
 t4:=underlying4
 a4:=Tryz.isAgg4
 z4:=Tryz.sizeOf4
 v4:=Tryz.zeroValue4
 t5:=underlying5
 a5:=Tryz.isAgg5
 z5:=Tryz.sizeOf5
 v5:=Tryz.zeroValue5
 t9:=underlying9
 a9:=Tryz.isAgg9
 z9:=Tryz.sizeOf9
 v9:=Tryz.zeroValue9
 t20:=underlying20
 a20:=Tryz.isAgg20
 z20:=Tryz.sizeOf20
 v20:=Tryz.zeroValue20
 t37:=underlying206
 a37:=Tryz.isAgg206
 z37:=Tryz.sizeOf206
 v37:=Tryz.zeroValue206
 t46:=underlying213
 a46:=Tryz.isAgg213
 z46:=Tryz.sizeOf213
 v46:=Tryz.zeroValue213
 t51:=underlying256
 a51:=Tryz.isAgg256
 z51:=Tryz.sizeOf256
 v51:=Tryz.zeroValue256
 t53:=underlying259
 a53:=Tryz.isAgg259
 z53:=Tryz.sizeOf259
 v53:=Tryz.zeroValue259
 t171:=underlying291
 a171:=Tryz.isAgg291
 z171:=Tryz.sizeOf291
 v171:=Tryz.zeroValue291
 t173:=underlying294
 a173:=Tryz.isAgg294
 z173:=Tryz.sizeOf294
 v173:=Tryz.zeroValue294
 t212:=underlying306
 a212:=Tryz.isAgg306
 z212:=Tryz.sizeOf306
 v212:=Tryz.zeroValue306
 t213:=underlying307
 a213:=Tryz.isAgg307
 z213:=Tryz.sizeOf307
 t232:=underlying320
 a232:=Tryz.isAgg320
 z232:=Tryz.sizeOf320
 v232:=Tryz.zeroValue320
 t233:=underlying321
 a233:=Tryz.isAgg321
 z233:=Tryz.sizeOf321
 v233:=Tryz.zeroValue321
 g17:=by kernel_rfl
 g18:=by kernel_rfl
 g19:=by kernel_rfl
 i0:=by kernel_rfl
 i2:=by kernel_rfl
 i3:=by kernel_rfl
 i4:=by kernel_rfl
 i5:=by kernel_rfl
 i9:=by kernel_rfl
 i20:=by kernel_rfl
 i37:=by kernel_rfl
 i46:=by kernel_rfl
 i51:=by kernel_rfl
 i53:=by kernel_rfl
 i171:=by kernel_rfl
 i173:=by kernel_rfl
 i212:=by kernel_rfl
 i232:=by kernel_rfl
 i233:=by kernel_rfl
 m17:=by kernel_rfl
 m18:=by kernel_rfl
 m19:=by kernel_rfl}
open Go.RowKit Go.Sort Go.Lib in
def Tryz.strconv_Itoa (n : Int)(h0 : -9223372036854775808 ≤ n)(h1 : n ≤ 9223372036854775807)(w : World)(htab : Lib.TabIs prog w "internal/strconv.uint64pow10" .u64 Lib.pow10Tab) :
 Calls prog 167 #[.int .i64 n] w λe w'=>e=.returned (.string ⟨(Lib.itoa n).toArray⟩)/\∃k os,w'=grow (w.drewN k) os:=Any.strconv_Itoa Tryz.laysM171 n h0 h1 w htab
def Tryz.lays101_ren:Go.Shelf.Ren:=⟨fun |101=>204|208=>234|206=>245|n=>n,fun |9=>9|4=>4|3=>3|n=>n,fun |n=>n⟩
def Tryz.lays101:Go.Proofs.Lays.n101 prog Tryz.lays101_ren:={
 mixed:=by kernel_rfl
 f101:=func204.trans (qb2 some q0)
 f206:=func245.trans (qb2 some q0)
 f208:=func234.trans (qb2 some q0)
 t3:=underlying3
 a3:=Tryz.isAgg3
 z3:=Tryz.sizeOf3
 v3:=Tryz.zeroValue3
 t4:=underlying4
 a4:=Tryz.isAgg4
 z4:=Tryz.sizeOf4
 v4:=Tryz.zeroValue4
 t9:=underlying9
 a9:=Tryz.isAgg9
 z9:=Tryz.sizeOf9
 v9:=Tryz.zeroValue9}
open Go.RowKit Go.Lib in
def Tryz.strings_TrimPrefix (s p:ByteArray)(w:World):
 Calls prog 204 #[.string s,.string p] w λe w'=>e=.returned (.string ⟨(Lib.trimPrefix s.data.toList p.data.toList).toArray⟩)/\w'=w:=Any.strings_TrimPrefix Tryz.lays101 s p w
def Tryz.lays105_ren:Go.Shelf.Ren:=⟨fun |105=>168|212=>173|99=>210|165=>211|166=>169|170=>212|169=>170|263=>215|264=>216|206=>245|240=>213|241=>246|276=>247|277=>268|n=>n,fun |9=>9|3=>3|4=>4|20=>20|0=>0|46=>213|109=>214|5=>5|72=>208|76=>210|51=>256|146=>257|53=>259|148=>260|70=>205|37=>206|75=>96|127=>255|164=>276|80=>212|n=>n,fun |n=>n⟩
def Tryz.lays105:Go.Proofs.Lays.n105 prog Tryz.lays105_ren:={
 mixed:=by kernel_rfl
 f99:=func210.trans (qb2 some q0)
 f105:=func168.trans (qb2 some q0)
 f165:=func211.trans (qb2 some q0)
 f166:=func169.trans (qb2 some q0)
 f169:=func170.trans (qb2 some q0)
 f170:=func212.trans (qb2 some q0)
 f206:=func245.trans (qb2 some q0)
 f212:=func173.trans (qb2 some q0)
 f240:=func213.trans (qb2 some q0)
 f241:=func246.trans (qb2 some q0)
 f263:=func215.trans (qb2 some q0)
 f264:=func216.trans (qb2 some q0)
 f276:=func247.trans (qb2 some q0)
 f277:=func268.trans (qb2 some q0)
 t0:=underlying0
 a0:=Tryz.isAgg0
 z0:=Tryz.sizeOf0
 v0:=Tryz.zeroValue0
 t3:=underlying3
 a3:=Tryz.isAgg3
 z3:=Tryz.sizeOf3
 v3:=Tryz.zeroValue3
 t4:=underlying4
 a4:=Tryz.isAgg4
 z4:=Tryz.sizeOf4
 v4:=Tryz.zeroValue4
 t5:=underlying5
 a5:=Tryz.isAgg5
 z5:=Tryz.sizeOf5
 v5:=Tryz.zeroValue5
 t9:=underlying9
 a9:=Tryz.isAgg9
 z9:=Tryz.sizeOf9
 v9:=Tryz.zeroValue9
 t20:=underlying20
 a20:=Tryz.isAgg20
 z20:=Tryz.sizeOf20
 v20:=Tryz.zeroValue20
 t37:=underlying206
 a37:=Tryz.isAgg206
 z37:=Tryz.sizeOf206
 v37:=Tryz.zeroValue206
 t46:=underlying213
 a46:=Tryz.isAgg213
 z46:=Tryz.sizeOf213
 v46:=Tryz.zeroValue213
 t51:=underlying256
 a51:=Tryz.isAgg256
 z51:=Tryz.sizeOf256
 v51:=Tryz.zeroValue256
 t53:=underlying259
 a53:=Tryz.isAgg259
 z53:=Tryz.sizeOf259
 v53:=Tryz.zeroValue259
 t70:=underlying205
 a70:=Tryz.isAgg205
 z70:=Tryz.sizeOf205
 v70:=Tryz.zeroValue205
 t72:=underlying208
 a72:=Tryz.isAgg208
 z72:=Tryz.sizeOf208
 v72:=Tryz.zeroValue208
 t75:=underlying96
 a75:=Tryz.isAgg96
 z75:=Tryz.sizeOf96
 v75:=Tryz.zeroValue96
 t76:=underlying210
 a76:=Tryz.isAgg210
 z76:=Tryz.sizeOf210
 v76:=Tryz.zeroValue210
 t109:=underlying214
 a109:=Tryz.isAgg214
 z109:=Tryz.sizeOf214
 v109:=Tryz.zeroValue214
 t127:=underlying255
 a127:=Tryz.isAgg255
 z127:=Tryz.sizeOf255
 v127:=Tryz.zeroValue255
 t146:=underlying257
 a146:=Tryz.isAgg257
 z146:=Tryz.sizeOf257
 v146:=Tryz.zeroValue257
 t148:=underlying260
 a148:=Tryz.isAgg260
 z148:=Tryz.sizeOf260
 v148:=Tryz.zeroValue260
 t164:=underlying276
 a164:=Tryz.isAgg276
 z164:=Tryz.sizeOf276
 v164:=Tryz.zeroValue276}
def Tryz.Builder_Extra_105:Builder.Extra prog Tryz.lays105_ren:={
 sizeBuilder:=by kernel_rfl
 liesBuilder:=by kernel_rfl
 t5:=underlying5
 a5:=Tryz.isAgg5
 z5:=Tryz.sizeOf5
 v5:=Tryz.zeroValue5
 infoByte:=by kernel_rfl
 cellsByte:=by kernel_rfl
 sizeByte:=by kernel_rfl
 neB5:=by decide}
open Go.RowKit Go.Lib in
def Tryz.strings_Repeat (s:ByteArray)(c:Nat)(w:World)(hc:c<=9223372036854775807)(hlen:s.size*c<=140737488355328):
 Calls prog 168 #[.string s,.int .i64 c] w λe w'=>e=.returned (.string ⟨(Lib.repeatL s.data.toList c).toArray⟩)/\Below w.heap.size w w':=Any.strings_Repeat Tryz.lays105 Tryz.Builder_Extra_105 s c w hc hlen
def Tryz.lays160_ren:Go.Shelf.Ren:=⟨fun |160=>205|232=>236|231=>235|227=>237|234=>239|233=>238|236=>241|235=>240|228=>255|271=>258|151=>257|197=>256|120=>272|152=>271|260=>270|137=>281|119=>282|224=>283|225=>284|217=>289|266=>290|n=>n,fun |9=>9|4=>4|3=>3|5=>5|117=>270|116=>269|0=>0|124=>273|21=>21|105=>282|46=>213|119=>309|139=>312|138=>311|n=>n,fun |3=>6|4=>7|n=>n⟩
def Tryz.lays160:Go.Proofs.Lays.n160 prog Tryz.lays160_ren:={
 mixed:=by kernel_rfl
 f119:=func282.trans (qb2 some q0)
 f120:=func272.trans (qb2 some q0)
 f137:=func281.trans (qb2 some q0)
 f151:=func257.trans (qb2 some q0)
 f152:=func271.trans (qb2 some q0)
 f160:=func205.trans (qb2 some q0)
 f197:=func256.trans (qb2 some q0)
 f217:=func289.trans (qb2 some q0)
 f224:=func283.trans (qb2 some q0)
 f225:=func284.trans (qb2 some q0)
 f227:=func237.trans (qb2 some q0)
 f228:=func255.trans (qb2 some q0)
 f231:=func235.trans (qb2 some q0)
 f232:=func236.trans (qb2 some q0)
 f233:=func238.trans (qb2 some q0)
 f234:=func239.trans (qb2 some q0)
 f235:=func240.trans (qb2 some q0)
 f236:=func241.trans (qb2 some q0)
 f260:=func270.trans (qb2 some q0)
 f266:=func290.trans (qb2 some q0)
 f271:=func258.trans (qb2 some q0)
 t0:=underlying0
 a0:=Tryz.isAgg0
 z0:=Tryz.sizeOf0
 v0:=Tryz.zeroValue0
 t3:=underlying3
 a3:=Tryz.isAgg3
 z3:=Tryz.sizeOf3
 v3:=Tryz.zeroValue3
 t4:=underlying4
 a4:=Tryz.isAgg4
 z4:=Tryz.sizeOf4
 v4:=Tryz.zeroValue4
 t5:=underlying5
 a5:=Tryz.isAgg5
 z5:=Tryz.sizeOf5
 v5:=Tryz.zeroValue5
 t9:=underlying9
 a9:=Tryz.isAgg9
 z9:=Tryz.sizeOf9
 v9:=Tryz.zeroValue9
 t21:=underlying21
 a21:=Tryz.isAgg21
 z21:=Tryz.sizeOf21
 v21:=Tryz.zeroValue21
 t46:=underlying213
 a46:=Tryz.isAgg213
 z46:=Tryz.sizeOf213
 v46:=Tryz.zeroValue213
 t105:=underlying282
 a105:=Tryz.isAgg282
 z105:=Tryz.sizeOf282
 v105:=Tryz.zeroValue282
 t116:=underlying269
 a116:=Tryz.isAgg269
 z116:=Tryz.sizeOf269
 t117:=underlying270
 a117:=Tryz.isAgg270
 z117:=Tryz.sizeOf270
 v117:=Tryz.zeroValue270
 t119:=underlying309
 a119:=Tryz.isAgg309
 z119:=Tryz.sizeOf309
 t124:=underlying273
 a124:=Tryz.isAgg273
 z124:=Tryz.sizeOf273
 v124:=Tryz.zeroValue273
 t138:=underlying311
 a138:=Tryz.isAgg311
 z138:=Tryz.sizeOf311
 v138:=Tryz.zeroValue311
 t139:=underlying312
 a139:=Tryz.isAgg312
 z139:=Tryz.sizeOf312
 v139:=Tryz.zeroValue312
 g3:=by kernel_rfl
 g4:=by kernel_rfl}
end Go.Proofs
namespace Go.Eng
open Go Go.RowKit
variable {xs:Array Operand}{ats:Array TypeId}{args cs tmps:Array Value}{q:Bool}{f:FuncId}{ds:List Deferred}{l:List UInt8}{vs vf vc lb:List Value}{d i n b c size bytes B lo' s k oo N j sz u M:Nat}{e e1 e':Nat->Value}{A:Option Addr}{P:Program}{D:TypeDesc}{t tb el et ty:TypeId}{v X Y v1 v2 v3:Value}{w w' w0 w'':World}
def upd (e:Nat->Value)(d:Nat)(v:Value):Nat->Value:=λi=>match Nat.beq i d with|true=>v|false=>e i
def kt (e:Nat->Value)(d:Nat)(v:Value):upd e d v d=v:=by simp[upd]
def upd_ne (e:Nat->Value)(v:Value)(h:i≠d):upd e d v i=e i:=by
 have:Nat.beq i d=false:=by
  cases hb:Nat.beq i d with
  |false=>rfl
  |true=>exact absurd (qb4 hb) h
 simp[upd,this]
def act (N:Nat)(e:Nat->Value)(ds:List Deferred):Act:=⟨Array.ofFn (n:=N) λi=>e i,ds⟩
def ev (N:Nat)(e:Nat->Value):Operand->Value
 | .tmp t=>match Nat.blt t N with|true=>e t|false=>undef
 | .const v=>v
 | .global g=>.pointer (some ⟨g,0,none⟩)
 | .func f=>.func (.func f) #[] #[]
def cS (N:Nat)(e:Nat->Value)(ds:List Deferred):(act N e ds).eval=ev N e:=by
 funext x
 cases x with
 | tmp t=>
   by_cases h:t<N
   · have:Nat.blt t N=true:=by simpa[Nat.blt_eq]using h
     simp[act,Act.eval,ev,this,h]
   · have:Nat.blt t N=false:=by
      cases hb:Nat.blt t N with
      |false=>rfl
      |true=>exact absurd (by simpa[Nat.blt_eq]using hb) h
     simp[act,Act.eval,ev,this,h]
 |const v=>rfl
 |global g=>rfl
 |func f=>rfl
def ax (N:Nat)(e:Nat->Value)(ds:List Deferred)(d:Nat)(v:Value):(act N e ds).put (some d) v=act N (upd e d v) ds:=by
 simp only[act,Act.put,Act.mk.injEq,and_true]
 apply Array.ext
 · simp
 · intro i _ h2
   have h3:i<N:=by simpa using h2
   by_cases h:d=i
   · subst h;simp[kt]
   · rw[Array.getElem_setIfInBounds_ne (by simpa using h3) h];simp[upd_ne e v (Ne.symm h)]
def aw {α:Type}{a b:α}{l m:List α}(h:a=b)(t:l=m):a::l=b::m:=by rw[h,t]
def db {α β:Type}{i:β}{a b:α}{l m:List (β×α)}(h:a=b)(t:l=m):(i,a)::l=(i,b)::m:=by rw[h,t]
def Fw:Option Nat->Fence
 |none=>Fence.wide
 |some l=>Fence.wide.inRound l
def kE (r:Option Nat)(f:FuncId):(Fw r).fn f:=by cases r <;>exact trivial
def l9 (r:Option Nat):(Fw r).depth=none:=by cases r <;>rfl
def s7 (r:Option Nat):(Fw r).round=r:=by cases r <;>rfl
def oH {r:Option Nat}{R:Ending->World->Prop}(h:Calls P f args w R):CallsIn (Fw r) n P f args w R:=by
 cases r with
 |none=>exact callsIn_wide.2 h
 |some l=>exact CallsIn.inRound l (callsIn_wide.2 h)
def oI {R:Ending->World->Prop}(h:CallsIn (Fw none) n P f args w R):Calls P f args w R:=callsIn_wide.1 h
def aN (w w':World):Prop:=Below w.heap.size w w'
def aN.refl (w:World):aN w w:=Below.refl _ w
def aa0:=@aN.refl
def aN.trans {a b c:World}(h:aN a b)(k:aN b c):aN a c:=Below.trans h (Below.mono k h.size)
def aN.alloc (w:World)(o:Obj):aN w (w.alloc o):=(Below.refl _ w).alloc (qa0 _) o
def ae1:=@aN.alloc
def aN.drew (w:World):aN w w.drew:=(Below.refl _ w).drew
def ac3:=@aN.drew
def aN.heap (h:aN w w'){o:Obj}(ho:w.heap[b]?=some o):w'.heap[b]?=some o:=
 (h.block b (Array.getElem?_eq_some_iff.1 ho).1).trans ho
def aN.cell (h:aN w w'){a:Addr}(hv:w.cell? a=some v):w'.cell? a=some v:=
 (Below.cell h (World.block_lt_of_cell? w a hv)).trans hv
def aH (w:World)(R:Value->World->Prop):Ending->World->Prop
 | .returned v,w'=>aN w w'/\R v w'
 |_,_=>False
variable {r:Option Nat}{Q:Exit->Act->World->Prop}{K:Act->World->Prop}
def oJ:Op->Bool
 | .defer _=>false
 |_=>true
def iP {o:Oper}(h:oJ o.op=true)(ρ:Operand->Value):Oper.semAt (Fw r).round ρ o=execOp ρ o:=by
 rw[s7]
 cases r with
 |none=>exact Oper.semAt_none _ _
 |some l=>exact Oper.semAt_some l ρ o (λc hc=>by rw[hc]at h;cases h)
def cW {o:Oper}(hd:oJ o.op=true)(hr:(execOp (ev N e) o).run P w=.ok (.value v) w')(hk:K ((act N e ds).put o.dst v) w'):o.wpIn (Fw r) n P (act N e ds) w K Q:=by
 refine⟨λf _=>kE r f,?_⟩
 rw[iP hd,cS,hr]
 exact hk
def HY {o:Oper}(hd:oJ o.op=true)(hr:(execOp (ev N e) o).run P w=.ok .skip w')(hk:K ((act N e ds).put o.dst undef) w'):o.wpIn (Fw r) n P (act N e ds) w K Q:=by
 refine⟨λf _=>kE r f,?_⟩
 rw[iP hd,cS,hr]
 exact hk
def sl {o:Oper}{R:Value->World->Prop}(hd:oJ o.op=true)(hr:(execOp (ev N e) o).run P w=.ok (.enter f args) w)(hc:Calls P f args w (aH w R))(hk:∀v w',aN w w'->R v w'->K ((act N e ds).put o.dst v) w'):o.wpIn (Fw r) n P (act N e ds) w K Q:=by
 refine⟨λf _=>kE r f,?_⟩
 rw[iP hd,cS,hr]
 refine⟨(λh=>by rw[l9]at h;cases h),oH (hc.mono ?_)⟩
 intro e' w' h
 cases e' with
 |returned v=>exact hk v w' h.1 h.2
 |panicked c=>exact h.elim
 |outgrown=>exact h.elim
section ops
variable {ty:Nat}{pos:String}{af:Array Edge}{g:Option (Nat×Bool)}{u:Value}{x y:Operand}
def aY (hx:ev N e x=v)(hk:K (act N (upd e d v) ds) w):Oper.wpIn (Fw r) n P ⟨some d,.move x,ty,pos,af,g⟩ (act N e ds) w K Q:=
 cW (v:=v) (w':=w) Z (by subst hx;rfl) Hx
def aJ (hx:ev N e x=v)(hk:K (act N (upd e d v) ds) w):Oper.wpIn (Fw r) n P ⟨some d,.assign x,ty,pos,af,g⟩ (act N e ds) w K Q:=
 cW (v:=v) (w':=w) Z (by subst hx;rfl) Hx
end ops
def gw (P:Program)(t:TypeId)(z:Value)(size bytes:Nat):Prop:=(P.info? t).map (λi=>(i.zero,i.size,i.bytes))=some (some z,size,bytes)
def gw.parts {z:Value}(h:gw P t z size bytes):∃i,P.info? t=some i/\i.zero=some z/\i.size=size/\i.bytes=bytes:=by
 unfold gw at h
 cases hi:P.info? t with
 |none=>rw[hi]at h;cases h
 | some i=>
   rw[hi]at h
   simp only[Option.map_some,Option.some.injEq,Prod.mk.injEq]at h
   exact⟨i,rfl,h.1,h.2.1,h.2.2⟩
def ar (w:World)(b:Nat)(t:TypeId)(cs:Array Value):Prop:=w.heap[b]?=some (.cells cs t (0,0))
def ar.lt (h:ar w b t cs):b<w.heap.size:=(Array.getElem?_eq_some_iff.1 h).1
def ar.ext (k:aN w w')(h:ar w b t cs):ar w' b t cs:=k.heap h
def ad1:=@ar.ext
def ar.cell (h:ar w b t cs){o:Nat}(hv:cs[o]?=some v):w.cell? ⟨b,o,none⟩=some v:=by
 unfold ar at h
 simp only[World.cell?,h]
 simpa using hv
def ab4:=@ar.cell
def ar.frozen (h:ar w b t cs)(o:Nat):w.frozen? ⟨b,o,none⟩=false:=by
 unfold ar at h
 simp[World.frozen?,h]
structure dP (w w':World)(b:Nat):Prop where
 os:w'.os=w.os
 tape:w'.tape=w.tape
 output:w'.output=w.output
 size:w'.heap.size=w.heap.size
 block:∀k,k≠b->w'.heap[k]?=w.heap[k]?
def dP.low (k:dP w w' b)(h:Below B w0 w)(hb:B<=b):Below B w0 w':=
 ⟨k.os.trans h.os,k.tape.trans h.tape,k.output.trans h.output,by rw[k.size];exact h.size,λi hi=>(k.block i J).trans (h.block i hi)⟩
def ad5:=@dP.low
def dP.blk (k:dP w w' b)(hne:c≠b)(h:ar w c t cs):ar w' c t cs:=(k.block c hne).trans h
def ab2:=@dP.blk
def dP.cell (k:dP w w' b){a:Addr}(hne:a.block≠b):w'.cell? a=w.cell? a:=World.cell?_of_block (k.block _ hne)
def dP.refl (w:World)(b:Nat):dP w w b:=⟨rfl,rfl,rfl,rfl,λ_ _=>rfl⟩
def dP.trans (h:dP w w' b)(k:dP w' w'' b):dP w w'' b:=
 ⟨k.os.trans h.os,k.tape.trans h.tape,k.output.trans h.output,k.size.trans h.size,λi hi=>(k.block i hi).trans (h.block i hi)⟩
def q8 {o:Nat}(v:Value):dP w (w.setCell ⟨b,o,none⟩ v) b:=
 ⟨rfl,rfl,rfl,by simp,λk hk=>Below.heap_setCell w ⟨b,o,none⟩ v k hk⟩
def q9 {o:Nat}(h:ar w b t cs)(v:Value):ar (w.setCell ⟨b,o,none⟩ v) b t (cs.setIfInBounds o v):=by
 unfold ar at h ⊢
 simp[World.setCell,Array.getElem?_modify,h]
structure Rw (w:World)(lo:Nat)(A:Option Addr)(cs:List Value):Prop where
 cells:∀j u,cs[j]?=some u->∃b o,A=some ⟨b,o,none⟩/\w.cell? ⟨b,o+j,none⟩=some u
 lo:∀ad,A=some ad->lo<=ad.block
 hi:∀ad,A=some ad->ad.block<w.heap.size
section rows
variable {lo:Nat}{cs:List Value}
def Rw.ext (k:aN w w')(h:Rw w lo A cs):Rw w' lo A cs:=
 ⟨λj u hu=>by obtain⟨b,o,hA,hc⟩:=h.cells j u hu;exact⟨b,o,hA,k.cell hc⟩,h.lo,λE hA=>qb1 (h.hi E hA) k.size⟩
def Rw.put (k:dP w w' b)(hb:b<lo)(h:Rw w lo A cs):Rw w' lo A cs:=
 ⟨λj u hu=>by
  obtain⟨c,o,hA,hc⟩:=h.cells j u hu
  have:=h.lo _ hA
  exact⟨c,o,hA,(k.cell (by simp at this ⊢;omega)).trans hc⟩,h.lo,λE hA=>by rw[k.size];exact h.hi E hA⟩
def Rw.nil (w:World)(lo:Nat):Rw w lo none []:=⟨λj u hu=>by simp at hu,(λE h=>by cases h),(λE h=>by cases h)⟩
def Rw.mono (hl:lo'<=lo)(h:Rw w lo A cs):Rw w lo' A cs:=⟨h.cells,λE hA=>qa8 hl (h.lo E hA),h.hi⟩
def Rw.take (k:Nat)(h:Rw w lo A cs):Rw w lo A (cs.take k):=
 ⟨λj u hu=>h.cells j u (by rw[List.getElem?_take]at hu;split at hu <;>simp_all),h.lo,h.hi⟩
end rows
section ops
variable {r:Option Nat}{Q:Exit->Act->World->Prop}{K:Act->World->Prop}
variable {ty:Nat}{pos:String}{af:Array Edge}{g:Option (Nat×Bool)}{u:Value}{x y:Operand}
def jH {c a b:Operand}{t:Bool}(hc:ev N e c=.bool t)(hv:(if t then ev N e a else ev N e b)=v)(hk:K (act N (upd e d v) ds) w):
 Oper.wpIn (Fw r) n P ⟨some d,.pick c a b,ty,pos,af,g⟩ (act N e ds) w K Q:=
 cW (v:=v) (w':=w) Z (by simp[execOp,hc,asBool,hv]) Hx
def DV {z:Value}(hi:gw P t z s b)(hk:∀w',aN w w'->w'.heap.size=w.heap.size+1->ar w' w.heap.size t z.cells->K (act N (upd e d (.pointer (some ⟨w.heap.size,0,none⟩))) ds) w'):
 Oper.wpIn (Fw r) n P ⟨some d,.alloc t,ty,pos,af,g⟩ (act N e ds) w K Q:=by
 obtain⟨i,h1,h2,_,_⟩:=hi.parts
 refine cW (v:=.pointer (some ⟨w.heap.size,0,none⟩)) (w':=w.alloc (.cells z.cells t)) Z ?_ Fk
 simp[execOp,Instr.alloc,zeroValue,typeInfo,h1,h2,newVar,newRow]
def Vo (hx:ev N e x=v)(hk:∀w',aN w w'->w'.heap.size=w.heap.size+1->ar w' w.heap.size t v.cells->K (act N (upd e d (.pointer (some ⟨w.heap.size,0,none⟩))) ds) w'):
 Oper.wpIn (Fw r) n P ⟨some d,.box t x,ty,pos,af,g⟩ (act N e ds) w K Q:=by
 refine cW (v:=.pointer (some ⟨w.heap.size,0,none⟩)) (w':=w.alloc (.cells v.cells t)) Z ?_ Fk
 subst hx
 simp[execOp,Instr.box,newVar,newRow]
def bn {o:Nat}(hu:P.underlying t=some D)(hd:D.isRow=false)(hx:ev N e x=.pointer (some ⟨b,o,none⟩))(hc:w.cell? ⟨b,o,none⟩=some v)(hk:K (act N (upd e d v) ds) w):Oper.wpIn (Fw r) n P ⟨some d,.load t x,ty,pos,af,g⟩ (act N e ds) w K Q:=by
 refine cW (v:=v) (w':=w) Z ?_ Hx
 have E:(isAgg t).run P w=.ok false w:=by
  unfold isAgg
  rw[Sem.run_bind,run_underlying hu w]
  cases D <;>simp_all
 simp[execOp,hx,Instr.loadAt,Instr.sureAddr,loadVar,E,hc]
def aM {o:Nat}{cs:List Value}(hu:P.underlying t=some D)(hd:D.isRow=true)(hi:(P.info? t).map (·.size)=some cs.length)(hx:ev N e x=.pointer (some ⟨b,o,none⟩))(hc:∀j u,cs[j]?=some u->w.cell? ⟨b,o+j,none⟩=some u)(hk:K (act N (upd e d (.agg cs.toArray)) ds) w):
 Oper.wpIn (Fw r) n P ⟨some d,.load t x,ty,pos,af,g⟩ (act N e ds) w K Q:=by
 refine cW (v:=.agg cs.toArray) (w':=w) Z ?_ Hx
 simp[execOp,hx,run_loadAt_mid w b o t cs D hc hu hd hi]
def cI {o:Nat}(hi:(P.info? t).map (·.size)=some 1)(hx:ev N e x=.pointer (some ⟨b,o,none⟩))(hy:ev N e y=v)(h1:v.oneCell'=true)(hb:ar w b tb cs)(ho:o<cs.size)(hk:∀w',dP w w' b->ar w' b tb (cs.setIfInBounds o v)->K (act N e ds) w'):
 Oper.wpIn (Fw r) n P ⟨none,.store t x y,ty,pos,af,g⟩ (act N e ds) w K Q:=by
 refine HY (w':=w.setCell ⟨b,o,none⟩ v) Z ?_ (hk _ (q8 v) (q9 hb v))
 have hc:w.cell? ⟨b,o,none⟩=some cs[o]:=hb.cell (Array.getElem?_eq_getElem ho)
 have hs:=run_store P w ⟨b,o,none⟩ v .plain h1
 rw[hc,hb.frozen]at hs
 simp only[Bool.false_eq_true,if_false]at hs
 have hcells:v.cells=#[v]:=by cases v <;>first|rfl|(simp[Value.oneCell']at h1;done)
 cases hq:P.info? t with
 |none=>simp[hq]at hi
 | some i=>
   simp[hq]at hi
   subst hy
   simp[execOp,hx,Instr.storeAt,Instr.sureAddr,storeVar,sizeOf,typeInfo,hq,hi,hcells,storeCells,Addr.add_mid,hs]
def iQ {fs:Array Field}{f:Field}{o off m:Nat}(hu:P.underlying t=some (.struct fs))(hf:fs[k]? =some f)(ho:f.offset=off)(hs:(P.info? f.type).map (·.size)=some (m+1))(hoo:o+off=oo)(hx:ev N e x=.pointer (some ⟨b,o,none⟩))(hk:K (act N (upd e d (.pointer (some ⟨b,oo,none⟩))) ds) w):
 Oper.wpIn (Fw r) n P ⟨some d,.fieldAddr t x k,ty,pos,af,g⟩ (act N e ds) w K Q:=by
 refine cW (v:=.pointer (some ⟨b,oo,none⟩)) (w':=w) Z ?_ Hx
 subst ho hoo
 cases hq:P.info? f.type with
 |none=>simp[hq]at hs
 | some i=>
   simp[hq]at hs
   simp[execOp,hx,Instr.fieldAt,run_underlying hu,hf,Instr.sureAddr,fieldPlace,sizeOf,typeInfo,hq,hs,Addr.add_mid]
def ar.cells (h:ar w b t cs)(hv:(cs.toList.drop i).take vs.length=vs):∀j u,vs[j]?=some u->w.cell? ⟨b,i+j,none⟩=some u:=by
 intro j u hu
 refine h.cell ?_
 have E:j<vs.length:=(List.getElem?_eq_some_iff.1 hu).1
 rw[<-hv,List.getElem?_take,if_pos E,List.getElem?_drop]at hu
 simpa using hu
def aa1:=@ar.cells
def oK {b:Nat}:∀(vs:List Value) (o:Nat) (w:World),dP w (w.setCells b o vs) b
 |[],o,w=>by simpa[World.setCells]using dP.refl w b
 | v::vs,o,w=>by
   have h1:dP w (w.setCell ⟨b,o,none⟩ v) b:=q8 v
   have:=h1.trans (oK vs (o+1) _)
   simpa[World.setCells]using this
def putCells:Array Value->Nat->List Value->Array Value
 |cs,_,[]=>cs
 |cs,o,v::vs=>putCells (cs.setIfInBounds o v) (o+1) vs
def oL {b:Nat}{t:TypeId}:∀(vs:List Value) (o:Nat) (w:World) (cs:Array Value),ar w b t cs->ar (w.setCells b o vs) b t (putCells cs o vs)
 |[],o,w,cs,h=>by simpa[World.setCells,putCells]using h
 | v::vs,o,w,cs,h=>by
   have:=oL vs (o+1) _ _ (q9 (o:=o) h v)
   simpa[World.setCells,putCells]using this
def bo {o:Nat}(hi:(P.info? t).map (·.size)=some vs.length)(hx:ev N e x=.pointer (some ⟨b,o,none⟩))(hy:ev N e y=.agg vs.toArray)(h1:∀v∈vs,v.oneCell'=true)(hb:ar w b tb cs)(ho:o+vs.length<=cs.size)(hk:∀w',dP w w' b->ar w' b tb (putCells cs o vs)->K (act N e ds) w'):
 Oper.wpIn (Fw r) n P ⟨none,.store t x y,ty,pos,af,g⟩ (act N e ds) w K Q:=by
 refine HY (w':=w.setCells b o vs) Z ?_ (hk _ (oK vs o w) (oL vs o w cs hb))
 have G:w.there b o vs.toArray.size:=by
  intro j E
  have hj':j<vs.length:=by simpa using E
  have h2:o+j<cs.size:=J
  exact⟨by rw[hb.cell (Array.getElem?_eq_getElem h2)];rfl,hb.frozen _⟩
 have hs:=run_storeAt_mid (P:=P) w b o t vs.toArray G (by simpa using hi) (all_oneCell_toArray h1)
 simp[execOp,hx,hy,hs]
def HZ {m:Nat}{D:TypeId}(hu:P.underlying t=some (.slice D))(hx:ev N e x=.slice A m c)(hk:K (act N (upd e d (.int .i64 m)) ds) w):
 Oper.wpIn (Fw r) n P ⟨some d,.call {callee:=.builtin .len,args:=#[x],argTypes:=#[t]},ty,pos,af,g⟩ (act N e ds) w K Q:=by
 refine cW (v:=.int .i64 m) (w':=w) Z ?_ Hx
 simp[execOp,resolve,invoke,builtin,Builtin.len_,run_underlying hu,hx,goInt]
def dz (hu:P.underlying t=some .string)(hx:ev N e x=.string ⟨l.toArray⟩)(hk:K (act N (upd e d (.int .i64 ((l.length:Nat):Int))) ds) w):
 Oper.wpIn (Fw r) n P ⟨some d,.call {callee:=.builtin .len,args:=#[x],argTypes:=#[t]},ty,pos,af,g⟩ (act N e ds) w K Q:=by
 refine cW (v:=.int .i64 l.length) (w':=w) Z ?_ Hx
 have E:(ByteArray.mk l.toArray).size=l.length:=by simp[ByteArray.size]
 simp[execOp,resolve,invoke,builtin,Builtin.len_,run_underlying hu,hx,goInt,E]
end ops
def dA {x:Operand}{k:IntKind}{a b:Int}(h:ev N e x=.int k a)(hb:a=b):ev N e x=.int k b:=by rw[h,hb]
section ops2
variable {r:Option Nat}{Q:Exit->Act->World->Prop}{K:Act->World->Prop}
variable {ty:Nat}{pos:String}{af:Array Edge}{g:Option (Nat×Bool)}{u:Value}{x y:Operand}{t':TypeId}{a b:Int}{k:IntKind}
def In64 (a:Int):Prop:=-9223372036854775808<=a/\a<=9223372036854775807
def k7 {a:Int}(h:In64 a):IntKind.i64.wrap a=a:=IntWalk.i64_in a h
def dQ {op:BinOp}(hx:ev N e x=X)(hy:ev N e y=Y)(hg:(eqGuard op t x y X Y).run P w=.ok () w)(hr:(binOp op t X Y).run P w=.ok v w)(hk:K (act N (upd e d v) ds) w):Oper.wpIn (Fw r) n P ⟨some d,.binOp op t x y t',ty,pos,af,g⟩ (act N e ds) w K Q:=by
 refine cW (v:=v) (w':=w) Z ?_ Hx
 simp[execOp,hx,hy,hg,hr]
def ca {op:BinOp}(x y:Operand)(k k':IntKind)(a b:Int):(eqGuard op t x y (.int k a) (.int k' b)).run P w=.ok () w:=by
 unfold eqGuard
 cases op <;>simp
def qo {op:BinOp}(x y:Operand)(a b:ByteArray):(eqGuard op t x y (.string a) (.string b)).run P w=.ok () w:=by
 unfold eqGuard
 cases op <;>simp
def s8 {op:BinOp}(x y:Operand)(a b:Bool):(eqGuard op t x y (.bool a) (.bool b)).run P w=.ok () w:=by
 unfold eqGuard
 cases op <;>simp
def cG {c:Int}(hx:ev N e x=.int .i64 a)(hy:ev N e y=.int .i64 b)(hr:In64 (a+b))(hc:a+b=c)(hk:K (act N (upd e d (.int .i64 c)) ds) w):
 Oper.wpIn (Fw r) n P ⟨some d,.binOp .add t x y t',ty,pos,af,g⟩ (act N e ds) w K Q:=
 dQ hx hy (ca ..) kb3 hk
def jq {c:Int}(hx:ev N e x=.int .i64 a)(hy:ev N e y=.int .i64 b)(hr:In64 (a-b))(hc:a-b=c)(hk:K (act N (upd e d (.int .i64 c)) ds) w):
 Oper.wpIn (Fw r) n P ⟨some d,.binOp .sub t x y t',ty,pos,af,g⟩ (act N e ds) w K Q:=
 dQ hx hy (ca ..) kb3 hk
def ra {c:Int}(hx:ev N e x=.int .i64 a)(hy:ev N e y=.int .i64 b)(hr:In64 (a*b))(hc:a*b=c)(hk:K (act N (upd e d (.int .i64 c)) ds) w):
 Oper.wpIn (Fw r) n P ⟨some d,.binOp .mul t x y t',ty,pos,af,g⟩ (act N e ds) w K Q:=
 dQ hx hy (ca ..) kb3 hk
def wc (hx:ev N e x=.int .i64 a)(hy:ev N e y=.int .i64 b){c:Int}(h0:0<=a)(h1:1<=b)(hr:In64 a)(hc:a/b=c)(hk:K (act N (upd e d (.int .i64 c)) ds) w):
 Oper.wpIn (Fw r) n P ⟨some d,.binOp .quo t x y t',ty,pos,af,g⟩ (act N e ds) w K Q:=
 dQ hx hy (ca ..) (by subst hc;simp[binOp,Op.intDiv,show b≠0 by omega,IntWalk.i64_quo a b ⟨h0,hr.2,h1⟩]) hk
def mc (hx:ev N e x=.int .i64 a)(hy:ev N e y=.int .i64 b){c:Int}(h0:0<=a)(h1:1<=b)(hc:a%b=c)(hk:K (act N (upd e d (.int .i64 c)) ds) w):
 Oper.wpIn (Fw r) n P ⟨some d,.binOp .rem t x y t',ty,pos,af,g⟩ (act N e ds) w K Q:=
 dQ hx hy (ca ..) (by subst hc;simp[binOp,Op.intDiv,show b≠0 by omega,Int.tmod_eq_emod_of_nonneg h0]) hk
def Vp (hx:ev N e x=.int k a)(hy:ev N e y=.int k b)(hq:decide (a<b)=q)(hk:K (act N (upd e d (.bool q)) ds) w):
 Oper.wpIn (Fw r) n P ⟨some d,.binOp .lss t x y t',ty,pos,af,g⟩ (act N e ds) w K Q:=
 dQ hx hy (ca ..) ka7 hk
def Vq (hx:ev N e x=.int k a)(hy:ev N e y=.int k b)(hq:decide (a<=b)=q)(hk:K (act N (upd e d (.bool q)) ds) w):
 Oper.wpIn (Fw r) n P ⟨some d,.binOp .leq t x y t',ty,pos,af,g⟩ (act N e ds) w K Q:=
 dQ hx hy (ca ..) ka7 hk
def Vr (hx:ev N e x=.int k a)(hy:ev N e y=.int k b)(hq:decide (b<a)=q)(hk:K (act N (upd e d (.bool q)) ds) w):
 Oper.wpIn (Fw r) n P ⟨some d,.binOp .gtr t x y t',ty,pos,af,g⟩ (act N e ds) w K Q:=
 dQ hx hy (ca ..) ka7 hk
def Vs (hx:ev N e x=.int k a)(hy:ev N e y=.int k b)(hq:decide (b<=a)=q)(hk:K (act N (upd e d (.bool q)) ds) w):
 Oper.wpIn (Fw r) n P ⟨some d,.binOp .geq t x y t',ty,pos,af,g⟩ (act N e ds) w K Q:=
 dQ hx hy (ca ..) ka7 hk
def Vt (hx:ev N e x=.int k a)(hy:ev N e y=.int k b)(hq:decide (a=b)=q)(hk:K (act N (upd e d (.bool q)) ds) w):
 Oper.wpIn (Fw r) n P ⟨some d,.binOp .eql t x y t',ty,pos,af,g⟩ (act N e ds) w K Q:=
 dQ hx hy (ca ..) (by subst hq;simp[binOp,Op.intCmp];rfl) hk
def Vu (hx:ev N e x=.int k a)(hy:ev N e y=.int k b)(hq:(!decide (a=b))=q)(hk:K (act N (upd e d (.bool q)) ds) w):
 Oper.wpIn (Fw r) n P ⟨some d,.binOp .neq t x y t',ty,pos,af,g⟩ (act N e ds) w K Q:=
 dQ hx hy (ca ..) (by subst hq;simp[binOp,Op.intCmp];rfl) hk
def BM {a b:Bool}(hu:P.underlying t=some .bool)(m:Nat):(Op.equalIn (m+1) t (.bool a) (.bool b)).run P w=.ok (a==b) w:=by
 simp[Op.equalIn,run_underlying hu]
def rb {a b:Bool}(hu:P.underlying t=some .bool):(Op.equal t (.bool a) (.bool b)).run P w=.ok (a==b) w:=BM hu 9999
def H0 {a b:Bool}(hu:P.underlying t=some .bool)(hx:ev N e x=.bool a)(hy:ev N e y=.bool b)(hq:(a==b)=q)(hk:K (act N (upd e d (.bool q)) ds) w):
 Oper.wpIn (Fw r) n P ⟨some d,.binOp .eql t x y t',ty,pos,af,g⟩ (act N e ds) w K Q:=
 dQ hx hy (s8 ..) (by subst hq;simp[binOp,rb hu]) hk
def md {a b:Bool}(hu:P.underlying t=some .bool)(hx:ev N e x=.bool a)(hy:ev N e y=.bool b)(hq:(!(a==b))=q)(hk:K (act N (upd e d (.bool q)) ds) w):
 Oper.wpIn (Fw r) n P ⟨some d,.binOp .neq t x y t',ty,pos,af,g⟩ (act N e ds) w K Q:=
 dQ hx hy (s8 ..) (by subst hq;simp[binOp,rb hu]) hk
def S (l:List UInt8):Value:=.string ⟨l.toArray⟩
def RJ {a b:List UInt8}(hx:ev N e x=S a)(hy:ev N e y=S b)(hq:decide (a=b)=q)(hk:K (act N (upd e d (.bool q)) ds) w):
 Oper.wpIn (Fw r) n P ⟨some d,.binOp .eql t x y t',ty,pos,af,g⟩ (act N e ds) w K Q:=
 dQ hx hy (qo ..) ka4 hk
def s9 {a b:List UInt8}(hx:ev N e x=S a)(hy:ev N e y=S b)(hq:(!decide (a=b))=q)(hk:K (act N (upd e d (.bool q)) ds) w):
 Oper.wpIn (Fw r) n P ⟨some d,.binOp .neq t x y t',ty,pos,af,g⟩ (act N e ds) w K Q:=
 dQ hx hy (qo ..) ka4 hk
def xh {a b:List UInt8}(hx:ev N e x=S a)(hy:ev N e y=S b)(hl:a.length+b.length<=9223372036854775807)(hk:K (act N (upd e d (S (a++b))) ds) w):
 Oper.wpIn (Fw r) n P ⟨some d,.binOp .add t x y t',ty,pos,af,g⟩ (act N e ds) w K Q:=
 dQ hx hy (qo ..) (by
  have h63:¬(((a.length+b.length:Nat):Int)>IntKind.i64.max):=by show¬(((a.length+b.length:Nat):Int)>9223372036854775807);omega
  have e1:(ByteArray.mk a.toArray).size=a.length:=by simp[ByteArray.size]
  have e2:(ByteArray.mk b.toArray).size=b.length:=by simp[ByteArray.size]
  have E:ByteArray.mk a.toArray++ByteArray.mk b.toArray=ByteArray.mk (a++b).toArray:=by
   apply ByteArray.ext;simp[ByteArray.data_append]
  simp only[binOp,S,Op.stringOp,e1,e2,if_neg h63,E]
  rfl) hk
def Vv {a:Bool}(hx:ev N e x=.bool a)(hq:(!a)=q)(hk:K (act N (upd e d (.bool q)) ds) w):
 Oper.wpIn (Fw r) n P ⟨some d,.unOp .not t x,ty,pos,af,g⟩ (act N e ds) w K Q:=
 cW (v:=.bool q) (w':=w) Z (by subst hq;simp[execOp,hx,Op.unary]) Hx
def zg (hx:ev N e x=.int .i64 a)(hr:In64 (-a))(hk:K (act N (upd e d (.int .i64 (-a))) ds) w):
 Oper.wpIn (Fw r) n P ⟨some d,.unOp .neg t x,ty,pos,af,g⟩ (act N e ds) w K Q:=
 cW (v:=.int .i64 (-a)) (w':=w) Z (by
  have:IntKind.i64.wrap (0-a)=-a:=by rw[k7 (by rw[Int.zero_sub];exact hr),Int.zero_sub]
  simp[execOp,hx,Op.unary,Op.intArith];simpa using this) Hx
def cX {vs:Array Value}(hx:ev N e x=.tuple vs)(hv:vs[i]?=some v)(hk:K (act N (upd e d v) ds) w):
 Oper.wpIn (Fw r) n P ⟨some d,.extract x i,ty,pos,af,g⟩ (act N e ds) w K Q:=
 cW (v:=v) (w':=w) Z (by simp[execOp,hx,Instr.extract,hv]) Hx
def ir {c:UInt8}(hu:P.underlying t=some .string)(hx:ev N e x=S l)(hy:ev N e y=.int k (i:Int))(hc:l[i]?=some c)(hk:K (act N (upd e d (.int .u8 c.toNat)) ds) w):Oper.wpIn (Fw r) n P ⟨some d,.index t x y,ty,pos,af,g⟩ (act N e ds) w K Q:=by
 refine cW (v:=.int .u8 c.toNat) (w':=w) Z ?_ Hx
 have hi:i<l.length:=(List.getElem?_eq_some_iff.1 hc).1
 have h1:(ByteArray.mk l.toArray)[i]?=some c:=by
  have hs:i<(ByteArray.mk l.toArray).size:=by simpa[ByteArray.size]using hi
  rw[getElem?_pos (ByteArray.mk l.toArray) i hs]
  have:=(List.getElem?_eq_some_iff.1 hc).2
  simp only[Option.some.injEq]
  rw[<-this];rfl
 simp[execOp,hx,hy,S,Instr.index,asIntOf,run_underlying hu,h1]
def aA {bk o m:Nat}(hu:P.underlying t=some (.slice el))(hs:(P.info? el).map (·.size)=some s)(hx:ev N e x=.slice A m c)(hA:A=some ⟨bk,o,none⟩)(hy:ev N e y=.int k (i:Int))(hlt:i<m)(hoo:o+i*s=oo)(hk:K (act N (upd e d (.pointer (some ⟨bk,oo,none⟩))) ds) w):Oper.wpIn (Fw r) n P ⟨some d,.indexAddr t x y,ty,pos,af,g⟩ (act N e ds) w K Q:=by
 refine cW (v:=.pointer (some ⟨bk,oo,none⟩)) (w':=w) Z ?_ Hx
 subst hA hoo
 cases hi:P.info? el with
 |none=>simp[hi]at hs
 | some inf=>
   have hs':inf.size=s:=by simpa[hi]using hs
   subst hs'
   simp[execOp,hx,hy,Instr.indexAt,run_underlying hu,asIntOf,hlt,sizeOf,typeInfo,hi,Addr.add_mid]
def aE {fn:Fn}{fs cs:Array Operand}(hf:fs.toList.map (ev N e)=vf)(hc:cs.toList.map (ev N e)=vc)(hk:K (act N (upd e d (.func fn vf.toArray vc.toArray)) ds) w):
 Oper.wpIn (Fw r) n P ⟨some d,.makeFunc fn fs cs,ty,pos,af,g⟩ (act N e ds) w K Q:=
 cW (v:=.func fn vf.toArray vc.toArray) (w':=w) Z (by subst hf hc;rw[<-Array.toList_map,<-Array.toList_map,Array.toArray_toList,Array.toArray_toList];rfl) Hx
def H1 (hx:ev N e x=.int k a)(hy:ev N e y=.int k b){m:Int}(hm:(if a<b then b else a)=m)(hk:K (act N (upd e d (.int k m)) ds) w):
 Oper.wpIn (Fw r) n P ⟨some d,.call {callee:=.builtin .max,args:=#[x,y],argTypes:=ats},ty,pos,af,g⟩ (act N e ds) w K Q:=
 cW (v:=.int k m) (w':=w) Z (by subst hm;simp[execOp,resolve,invoke,builtin,Builtin.max_,hx,hy,Builtin.max2,List.foldlM]) Hx
def me {lo hi:Option Operand}(hu:P.underlying t=some .string)(hx:ev N e x=S l)(hlo:(lo.map (ev N e))=none/\i=0\/∃k,lo.map (ev N e)=some (.int k (i:Int)))(hhi:(hi.map (ev N e))=none/\j=l.length\/∃k,hi.map (ev N e)=some (.int k (j:Int)))(hij:i<=j)(hj:j<=l.length)(hk:K (act N (upd e d (S ((l.take j).drop i))) ds) w):
 Oper.wpIn (Fw r) n P ⟨some d,.slice t x lo hi none,ty,pos,af,g⟩ (act N e ds) w K Q:=by
 refine cW (v:=S ((l.take j).drop i)) (w':=w) Z ?_ Hx
 have E:(ByteArray.mk l.toArray).size=l.length:=by simp[ByteArray.size]
 have hex:(ByteArray.mk l.toArray).extract i j=ByteArray.mk ((l.take j).drop i).toArray:=by
  apply ByteArray.ext
  simp[ByteArray.data_extract,List.drop_take]
 rcases hlo with⟨hlo,rfl⟩|⟨k1,hlo⟩ <;>rcases hhi with⟨hhi,rfl⟩|⟨k2,hhi⟩ <;>
  simp[execOp,hx,S,Instr.sliceAt,run_underlying hu,Instr.slice,Instr.sliceBounds,Instr.sliceBound,asIntOf,hlo,hhi,E,hex,hij,hj]
def zh {m:Nat}{lo hi:Option Operand}(hu:P.underlying t=some (.slice el))(hi0:(P.info? el).map (·.size)=some s)(hx:ev N e x=.slice A m c)(hlo:(lo.map (ev N e))=none/\i=0\/∃k,lo.map (ev N e)=some (.int k (i:Int)))(hhi:(hi.map (ev N e))=none/\j=m\/∃k,hi.map (ev N e)=some (.int k (j:Int)))(hij:i<=j)(hj:j<=c)(hk:K (act N (upd e d (.slice (if c=i then A else A.map (·.add (i*s))) (j-i) (c-i))) ds) w):
 Oper.wpIn (Fw r) n P ⟨some d,.slice t x lo hi none,ty,pos,af,g⟩ (act N e ds) w K Q:=by
 refine cW (v:=.slice (if c=i then A else A.map (·.add (i*s))) (j-i) (c-i)) (w':=w) Z ?_ Hx
 obtain⟨inf,hi',hs⟩:∃inf,P.info? el=some inf/\inf.size=s:=by
  cases hq:P.info? el with
  |none=>rw[hq]at hi0;cases hi0
  |some inf=>rw[hq]at hi0;exact⟨inf,rfl,by simpa using hi0⟩
 subst hs
 rcases hlo with⟨hlo,rfl⟩|⟨k1,hlo⟩ <;>rcases hhi with⟨hhi,rfl⟩|⟨k2,hhi⟩ <;>
  simp[execOp,hx,Instr.sliceAt,run_underlying hu,Instr.slice,Instr.sliceBounds,Instr.sliceBound,asIntOf,hlo,hhi,hij,hj,sizeOf,typeInfo,hi']
def re {m:Nat}{hi:Operand}(hu:P.underlying t=some (.slice el))(hi0:(P.info? el).map (·.size)=some s)(hx:ev N e x=.slice A m c)(hhi:ev N e hi=.int k (j:Int))(hj:j<=c)(hk:K (act N (upd e d (.slice A j c)) ds) w):
 Oper.wpIn (Fw r) n P ⟨some d,.slice t x none (some hi) none,ty,pos,af,g⟩ (act N e ds) w K Q:=by
 refine zh (i:=0) (j:=j) hu hi0 hx (.inl ⟨rfl,rfl⟩) (.inr ⟨k,qb2 some hhi⟩) (qa7 _) hj ?_
 have:(if c=0 then A else A.map (·.add (0*s)))=A:=by
  split
  · rfl
  · cases A <;>simp[Addr.add]
 rw[this]
 exact hk
end ops2
section grow
variable {row:Option Nat}{lo:Nat}{cs:List Value}
def aN.of_gr (h:w.grownBy w' none):aN w w':=⟨h.os,h.tape,h.output,h.size,λk hk=>h.block k hk zd⟩
def cR (h:Below B w0 w)(k:w.grownBy w' row)(hB:B<=w.heap.size)(hr:∀g,row=some g->B<=g):Below B w0 w':=h.grown k hB hr
def ar.gr {cs:Array Value}(k:w.grownBy w' row)(hne:some b≠row)(h:ar w b t cs):ar w' b t cs:=(k.block b h.lt hne).trans h
def aa3:=@ar.gr
def Rw.gr (k:w.grownBy w' row)(hne:∀ad,A=some ad->some ad.block≠row)(h:Rw w lo A cs):Rw w' lo A cs:=
 ⟨λj u hu=>by
  obtain⟨b,o,hA,hc⟩:=h.cells j u hu
  exact⟨b,o,hA,(World.cell?_of_block (k.block b (h.hi _ hA) (hne _ hA))).trans hc⟩,h.lo,λad hA=>qb1 (h.hi ad hA) k.size⟩
def Rw.of_own (h:w.ownsRow lo et sz (.slice A n c) n cs):Rw w lo A cs:=by
 obtain⟨hl,hv|⟨g,cap,W,hv,H,E,hc,hm,hs,ht⟩⟩:=h
 · simp only[Value.slice.injEq]at hv
   obtain⟨⟨rfl,rfl,rfl⟩,_⟩:=hv
   have:cs=[]:=List.eq_nil_of_length_eq_zero (by simpa using hl)
   subst this
   exact Rw.nil w lo
 · simp only[Value.slice.injEq]at hv
   obtain⟨rfl,_,rfl⟩:=hv
   have hlt:g<w.heap.size:=(Array.getElem?_eq_some_iff.1 E).1
   refine⟨λj u hu=>⟨g,0,rfl,?_⟩,λG hA=>by cases hA;exact H,λG hA=>by cases hA;exact hlt⟩
   have O:j<cs.length:=(List.getElem?_eq_some_iff.1 hu).1
   rw[<-ht,List.getElem?_take,if_pos J]at hu
   simp only[World.cell?,E,Nat.zero_add]
   simpa using hu
def ab0:=@Rw.of_own
def e8 (h:w.ownsRow lo et sz v n cs):∃A c,v=.slice A n c/\n<=c/\c<=maxLen/\(∀ad,A=some ad->v.ownBlock=some ad.block/\lo<=ad.block/\ad.block<w.heap.size)/\(A=none->v.ownBlock=none):=by
 obtain⟨hl,⟨rfl,rfl⟩|⟨g,cap,H,rfl,E,G,hc,hm,hs,ht⟩⟩:=h
 · exact⟨none,0,rfl,qa0 _,by simp[maxLen],(λad hA=>by cases hA),λ_=>rfl⟩
 · exact⟨_,cap,rfl,hc,hm,λad hA=>by cases hA;exact⟨rfl,E,(Array.getElem?_eq_some_iff.1 G).1⟩,(λhA=>by cases hA)⟩
def ab (k:aN w w')(h:w.ownsRow lo et sz v n cs):w'.ownsRow lo et sz v n cs:=by
 obtain⟨hl,hv|⟨g,cap,G,hv,E,H,r⟩⟩:=h
 · exact⟨hl,.inl hv⟩
 · exact⟨hl,.inr ⟨g,cap,G,hv,E,k.heap H,r⟩⟩
def av (k:dP w w' b)(hne:v.ownBlock≠some b)(h:w.ownsRow lo et sz v n cs):w'.ownsRow lo et sz v n cs:=by
 obtain⟨hl,hv|⟨g,cap,G,rfl,E,H,r⟩⟩:=h
 · exact⟨hl,.inl hv⟩
 · exact⟨hl,.inr ⟨g,cap,G,rfl,E,(k.block g (λe=>hne (by simp[Value.ownBlock,e]))).trans H,r⟩⟩
def nK (k:w.grownBy w' row)(hne:∀g,v.ownBlock=some g->some g≠row)(h:w.ownsRow lo et sz v n cs):w'.ownsRow lo et sz v n cs:=by
 obtain⟨hl,hv|⟨g,cap,H,rfl,G,E,r⟩⟩:=h
 · exact⟨hl,.inl hv⟩
 · exact⟨hl,.inr ⟨g,cap,H,rfl,G,(k.block g (Array.getElem?_eq_some_iff.1 E).1 (hne g Z)).trans E,r⟩⟩
end grow
section ops3
variable {r:Option Nat}{Q:Exit->Act->World->Prop}{K:Act->World->Prop}
variable {ty:Nat}{pos:String}{af:Array Edge}{g:Option (Nat×Bool)}{u:Value}{x y:Operand}{t':TypeId}
def rO (base:Nat)(ty e:TypeId)(i:TypeInfo)(size:Nat)(ht:P.underlying t=some (.slice e))(hi:P.info? e=some i)(v:Value)(n:Nat)(xs:List Value)(hown:w.ownsRow base e size v n xs)(c:Nat):(Builtin.append_ #[t,t] ty #[v,.slice none 0 c]).run P w=.ok v w:=by
 rcases hown.2 with⟨rfl,rfl⟩|⟨g,cap,cur,rfl,_,_,hnc,_⟩
 · simp[Builtin.append_,run_underlying ht,sizeOf,typeInfo,hi,Builtin.lenOf,Builtin.firstCells]
 · simp[Builtin.append_,run_underlying ht,sizeOf,typeInfo,hi,Builtin.lenOf,Builtin.firstCells,hnc,storeCells]
def jI {z:Value}{base lo m:Nat}{xs news:List Value}(hu:P.underlying t=some (.slice el))(hi:gw P el z size bytes)(hz:z.cells.size=size)(hs:0<size)(hx:ev N e x=v)(hown:w.ownsRow base el size v k xs)(hy:ev N e y=.slice A m c)(hr:Rw w lo A news)(hl:news.length=m*size)(h1:∀u∈news,u.oneCell'=true)(h63:k+m<=maxLen)(hb:(k+m)*bytes<=140737488355328)(hbase:base<=w.heap.size)(hk:∀v' w',w'.ownsRow base el size v' (k+m) (xs++news)->w.grownBy w' v.ownBlock->(v'.ownBlock=v.ownBlock\/v'.ownBlock=some w.heap.size)->K (act N (upd e d v') ds) w'):
 Oper.wpIn (Fw r) n P ⟨some d,.call {callee:=.builtin .append,args:=#[x,y],argTypes:=#[t,t]},ty,pos,af,g⟩ (act N e ds) w K Q:=by
 obtain⟨i,H,W,A0,O⟩:=hi.parts
 have key:∃v' w',(Builtin.append_ #[t,t] ty #[v,.slice A m c]).run P w=.ok v' w'/\w'.ownsRow base el size v' (k+m) (xs++news)/\w.grownBy w' v.ownBlock/\(v'.ownBlock=v.ownBlock\/v'.ownBlock=some w.heap.size):=by
  by_cases hm:news=[]
  · subst hm
    have A1:m=0:=by
     rcases Nat.eq_zero_or_pos m with h|h
     · exact h
     · have:=Nat.mul_pos h hs;simp at hl;omega
    subst A1
    rcases A with _|ad
    · exact⟨v,w,rO base ty el i size hu H v k xs hown c,by simpa using hown,World.grownBy.refl w _,.inl Z⟩
    · obtain⟨v',w',E,h2,h3,_,G⟩:=run_append_own_at (P:=P) w base t ty el i z size bytes hu H W A0 O hz hs v k xs hown ad 0 c [] zd (λj u hu=>by simp at hu) zd h63 hb hbase
      exact⟨v',w',E,h2,h3,G⟩
  · have hlt:0<news.length:=List.length_pos_iff.2 hm
    obtain⟨b,o,hA,_⟩:=hr.cells 0 news[0] (qa5 hlt)
    subst hA
    obtain⟨v',w',E,h2,h3,_,G⟩:=run_append_own_at (P:=P) w base t ty el i z size bytes hu H W A0 O hz hs v k xs hown ⟨b,o,none⟩ m c news hl
     (λj u hu=>by obtain⟨_,_,hA,hc⟩:=hr.cells j u hu;cases hA;rw[Addr.add_mid];exact hc) h1 h63 hb hbase
    exact⟨v',w',E,h2,h3,G⟩
 obtain⟨v',w',E,h2,h3,h4⟩:=key
 refine cW (v:=v') (w':=w') Z ?_ (by rw[ax];exact hk v' w' h2 h3 h4)
 simp[execOp,resolve,invoke,builtin,hx,hy,E]
def mf {z:Value}{m:Nat}{kl kc:IntKind}(hu:P.underlying t=some (.slice el))(hi:gw P el z size bytes)(hx:ev N e x=.int kl m)(hy:ev N e y=.int kc m)(hb:bytes*m<=281474976710656)(h63:m<=maxLen)(hk:∀w',aN w w'->w.heap.size<w'.heap.size->w'.ownsRow w.heap.size el size (.slice (some ⟨w.heap.size,0,none⟩) m m) m (madeCells z.cells (m*size)).toList->K (act N (upd e d (.slice (some ⟨w.heap.size,0,none⟩) m m)) ds) w'):
 Oper.wpIn (Fw r) n P ⟨some d,.makeSlice t x y,ty,pos,af,g⟩ (act N e ds) w K Q:=by
 obtain⟨i,E,G,H,W⟩:=hi.parts
 subst W
 obtain⟨w',O,r1,r2⟩:=run_make_full (P:=P) w w.heap.size t el i z size hu E G H kl kc m hb h63 (qa0 _)
 have hlt:w.heap.size<w'.heap.size:=by
  obtain⟨_,h|⟨g,cap,A2,hv,A1,A0,_⟩⟩:=r1
  · simp at h
  · simp only[Value.slice.injEq,Option.some.injEq,Addr.mk.injEq]at hv
    obtain⟨⟨rfl,_⟩,_⟩:=hv
    exact(Array.getElem?_eq_some_iff.1 A0).1
 refine cW (v:=.slice (some ⟨w.heap.size,0,none⟩) m m) (w':=w') Z ?_ (by rw[ax];exact hk w' (aN.of_gr r2) hlt r1)
 simp[execOp,hx,hy,O]
def M9 {z:Value}{m:Nat}{kl kc:IntKind}(hu:P.underlying t=some (.slice el))(hi:gw P el z size bytes)(hx:ev N e x=.int kl 0)(hy:ev N e y=.int kc m)(hb:bytes*m<=281474976710656)(h63:m<=maxLen)(hk:∀w',aN w w'->w'.ownsRow w.heap.size el size (.slice (some ⟨w.heap.size,0,none⟩) 0 m) 0 []->K (act N (upd e d (.slice (some ⟨w.heap.size,0,none⟩) 0 m)) ds) w'):
 Oper.wpIn (Fw r) n P ⟨some d,.makeSlice t x y,ty,pos,af,g⟩ (act N e ds) w K Q:=by
 obtain⟨i,E,G,H,W⟩:=hi.parts
 subst W
 obtain⟨w',O,r1,r2⟩:=run_make_own (P:=P) w w.heap.size t el i z size hu E G H kl kc m hb h63 (qa0 _)
 refine cW (v:=.slice (some ⟨w.heap.size,0,none⟩) 0 m) (w':=w') Z ?_ (by rw[ax];exact hk w' (aN.of_gr r2) r1)
 simp[execOp,hx,hy,O]
def cM {z:Value}{m:Nat}{parts:Array (Nat×Operand)}{vs:List (Nat×Value)}{cells:Array Value}(hu:P.underlying t=some (.slice el))(hi:gw P el z size bytes)(hp:(parts.toList.map fun(i,x)=>(i,ev N e x))=vs)(h24:m*size<=16777216)(hm:0<m*size)(hf:Instr.fill (λi=>some (i*size,size)) ((Array.range (m*size)).map (z.cells[· %z.cells.size]!)) vs=some cells)(hsz:cells.size=m*size)(hmm:m<=maxLen)(hk:∀w',aN w w'->w.heap.size<w'.heap.size->w'.ownsRow w.heap.size el size (.slice (some ⟨w.heap.size,0,none⟩) m m) m cells.toList->K (act N (upd e d (.slice (some ⟨w.heap.size,0,none⟩) m m)) ds) w'):
 Oper.wpIn (Fw r) n P ⟨some d,.buildSlice t m parts,ty,pos,af,g⟩ (act N e ds) w K Q:=by
 obtain⟨i,E,G,H,_⟩:=hi.parts
 subst H
 refine cW (v:=.slice (some ⟨w.heap.size,0,none⟩) m m) (w':=w.alloc (.cells cells el)) Z ?_ (by
  rw[ax]
  exact hk _ (ae1 _ _) zd ⟨by simpa using hsz,.inr ⟨w.heap.size,m,cells,rfl,Nat.le_refl _,heap_alloc_new w _,Nat.le_refl _,hmm,hsz,by rw[List.take_of_length_le (by simp[hsz])]⟩⟩)
 have hp':(parts.map fun(i,x)=>(i,ev N e x)).toList=vs:=by rw[<-hp];simp
 subst hp'
 have h2:¬m*i.size>2^24:=J
 have h3:¬(m*i.size=0):=J
 simp only[execOp,Instr.buildSlice,Sem.run_bind,run_underlying hu,Result.andThen_ok,sizeOf,typeInfo,run_program,E,Sem.run_pure,zeroValue,G,h2,if_false,h3,hf,newRow,run_newObj,World.alloc_eq]
def rh {w:World}:∀(fs:List Field) (pl:List (Nat×Nat)),fs.map (λf=>(f.offset,(P.info? f.type).map (·.size)))=pl.map (λp=>(p.1,some p.2))->
 (fs.mapM λf=>(do pure (f.offset,<-sizeOf f.type):Sem (Nat×Nat))).run P w=.ok pl w
 |[],[],_=>by simp
 |[],p::pl,h=>by simp at h
 |f::fs,[],h=>by simp at h
 | f ::fs,p::pl,h=>by
   simp only[List.map_cons,List.cons.injEq,Prod.mk.injEq]at h
   obtain⟨⟨h1,h2⟩,h3⟩:=h
   have E:=rh (w:=w) fs pl h3
   cases hi:P.info? f.type with
   |none=>rw[hi]at h2;cases h2
   | some i=>
     rw[hi]at h2
     simp only[Option.map_some,Option.some.injEq]at h2
     have hs:(sizeOf f.type).run P w=.ok p.2 w:=by simp[sizeOf,typeInfo,hi,h2]
     rw[List.mapM_cons]
     simp only[Sem.run_bind,hs,Result.andThen_ok,Sem.run_pure]at E ⊢
     rw[E]
     simp[h1]
def b7 {fs:Array Field}{z:Value}{parts:Array (Nat×Operand)}{vs:List (Nat×Value)}{pl:List (Nat×Nat)}{cells:Array Value}(hu:P.underlying t=some (.struct fs))(hi:gw P t z size bytes)(hpl:fs.toList.map (λf=>(f.offset,(P.info? f.type).map (·.size)))=pl.map (λp=>(p.1,some p.2)))(hp:(parts.toList.map fun(i,x)=>(i,ev N e x))=vs)(hf:Instr.fill (pl.toArray[·]?) z.cells vs=some cells)(hk:K (act N (upd e d (.agg cells)) ds) w):
 Oper.wpIn (Fw r) n P ⟨some d,.build t parts,ty,pos,af,g⟩ (act N e ds) w K Q:=by
 obtain⟨i,E,G,_,_⟩:=hi.parts
 refine cW (v:=.agg cells) (w':=w) Z ?_ Hx
 have hp':(parts.map fun(i,x)=>(i,ev N e x)).toList=vs:=by rw[<-hp];simp
 subst hp'
 have O:=rh (P:=P) (w:=w) fs.toList pl hpl
 have H:(fs.mapM λf=>(do pure (f.offset,<-sizeOf f.type):Sem (Nat×Nat))).run P w=.ok pl.toArray w:=by
  rw[Array.mapM_eq_mapM_toList]
  simp only[Sem.run_map,O,Result.andThen_ok]
 simp only[execOp,Instr.build,Sem.run_bind,run_underlying hu,Result.andThen_ok,zeroValue,typeInfo,run_program,E,Sem.run_pure,G]
 erw [H]
 simp only[Result.andThen_ok,hf]
 rfl
end ops3
section code
variable {r:Option Nat}{Q:Exit->Act->World->Prop}{K:Act->World->Prop}{a:Act}
variable {ops:Array Oper}{rest:List Oper}{dst:Option Tmp}{op:Op}{ty:Nat}{pos:String}{af:Array Edge}{id:Nat}{c c1 c2:Code}
def aa (h:Oper.wpIn (Fw r) n P ⟨dst,op,ty,pos,af,none⟩ a w (wpListIn (Fw r) n P ops Q rest) Q):wpListIn (Fw r) n P ops Q (⟨dst,op,ty,pos,af,none⟩::rest) a w:=by
 unfold wpListIn
 rw[if_pos (by simp[Region.wanted])]
 exact h
def ri (hj:(ops[j]?).bind (·.dst)=some s)(hv:ev N e (.tmp s)=.bool q):yielded ops (act N e ds).tmps j=some q:=by
 have h1:(act N e ds).tmps[s]?=some (.bool q):=by
  have h2:(act N e ds).eval (.tmp s)=.bool q:=by rw[cS];exact hv
  simp only[Act.eval]at h2
  by_cases hs:s<(act N e ds).tmps.size
  · simp only[Array.getD,hs,dif_pos]at h2
    rw[Array.getElem?_eq_getElem hs]
    exact qb2 some h2
  · simp only[Array.getD,hs,dif_neg,not_false_eq_true]at h2
    simp[undef]at h2
 simp[yielded,hj,h1]
def da (l:List Oper)(j:Nat):Option Nat:=(l[j]?).bind (·.dst)
def mg {l:List Oper}(hj:da l j=some s)(hv:ev N e (.tmp s)=.bool q)(h:wpListIn (Fw r) n P l.toArray Q (⟨dst,op,ty,pos,af,none⟩::rest) (act N e ds) w):wpListIn (Fw r) n P l.toArray Q (⟨dst,op,ty,pos,af,some (j,q)⟩::rest) (act N e ds) w:=by
 have hj':(l.toArray[j]?).bind (·.dst)=some s:=by rw[List.getElem?_toArray];exact hj
 unfold wpListIn at h ⊢
 rw[if_pos (by simp[Region.wanted])]at h
 rw[if_pos (by simp[Region.wanted,ri hj' hv])]
 obtain⟨_,h2⟩:=h
 exact⟨λf _=>kE r f,h2⟩
def fF {l:List Oper}(hj:da l j=some s)(hv:ev N e (.tmp s)=.bool (!q))(h:wpListIn (Fw r) n P l.toArray Q rest (act N (upd e d undef) ds) w):wpListIn (Fw r) n P l.toArray Q (⟨some d,op,ty,pos,af,some (j,q)⟩::rest) (act N e ds) w:=by
 have hj':(l.toArray[j]?).bind (·.dst)=some s:=by rw[List.getElem?_toArray];exact hj
 unfold wpListIn
 rw[if_neg (by simp[Region.wanted,ri hj' hv])]
 exact⟨λf _=>kE r f,by rw[ax];exact h⟩
def gm (h:Q .normal a w):wpListIn (Fw r) n P ops Q [] a w:=h
def iR (h:c1.wpIn (Fw r) n P (Exit.then (c2.wpIn (Fw r) n P Q) Q) a w):(Code.seq c1 c2).wpIn (Fw r) n P Q a w:=wpIn_seq h
def ii {l:List Oper}(h:wpListIn (Fw r) n P l.toArray Q l a w):(Code.region id l.toArray false).wpIn (Fw r) n P Q a w:=wpIn_region_lit h
def oO (h:c.wpIn (Fw r) n P (Exit.inBlock id Q) a w):(Code.block id c).wpIn (Fw r) n P Q a w:=wpIn_block h
def mh {x:Operand}(hx:ev N e x=.bool true)(h:c1.wpIn (Fw r) n P Q (act N e ds) w):(Code.cond x c1 c2).wpIn (Fw r) n P Q (act N e ds) w:=wpIn_cond_true (by rw[cS];exact hx) h
def qp {x:Operand}(hx:ev N e x=.bool false)(h:c2.wpIn (Fw r) n P Q (act N e ds) w):(Code.cond x c1 c2).wpIn (Fw r) n P Q (act N e ds) w:=wpIn_cond_false (by rw[cS];exact hx) h
def xi {x:Operand}(hx:ev N e x=.bool q)(h1:q=true->c1.wpIn (Fw r) n P Q (act N e ds) w)(h2:q=false->c2.wpIn (Fw r) n P Q (act N e ds) w):
 (Code.cond x c1 c2).wpIn (Fw r) n P Q (act N e ds) w:=wpIn_cond_split (by rw[cS];exact hx) h1 h2
def jJ (h:Q .normal a w):Code.skip.wpIn (Fw r) n P Q a w:=wpIn_skip h
def BN (h:Q (.exit id) a w):(Code.exit id).wpIn (Fw r) n P Q a w:=wpIn_exit h
def H5 (h:Q .ret a w):Code.ret.wpIn (Fw r) n P Q a w:=wpIn_ret h
def wd (k4:Nat->(Nat->Value)->World->Prop)(hs:∀k e w,k4 k e w->c.wpIn (Fw r) n P (Exit.then (λa' w'=>∃k' e',k'<k/\a'=act N e' ds/\k4 k' e' w') Q) (act N e ds) w):
 ∀(m k:Nat) (e:Nat->Value) (w:World),k<m->k4 k e w->Code.roundsIn (Fw r) n P c Q m (act N e ds) w
 |0,_,_,_,h,_=>absurd h (Nat.not_lt_zero _)
 | m +1,k,e,w,h,hI=>wpIn_mono (hs k e w hI) (by
  intro x a' w' hq
  cases x <;>first|exact hq|(obtain⟨k',e',hk,rfl,hI'⟩:=hq;exact wd k4 hs m k' e' w' J hI'))
def RL (k4:Nat->(Nat->Value)->World->Prop)(k:Nat)(h0:k4 k e w)(hs:∀k e w,k4 k e w->c.wpIn (Fw r) n P (Exit.then (λa' w'=>∃k' e',k'<k/\a'=act N e' ds/\k4 k' e' w') Q) (act N e ds) w):
 (Code.loop c).wpIn (Fw r) n P Q (act N e ds) w:=wpIn_loop_rounds (k+1) (wd k4 hs (k+1) k e w (Nat.lt_succ_self k) h0)
def Gk (l:List Nat)(t:Nat):Bool:=l.any λd=>Nat.beq d t
def di {l:List Nat}(hd:Gk l d=true)(h:∀t,Gk l t=false->e' t=e1 t):∀t,Gk l t=false->upd e' d v t=e1 t:=by
 intro t ht
 have:t≠d:=λE=>by subst E;rw[hd]at ht;cases ht
 rw[upd_ne _ _ this];exact h t ht
def BO {id:Nat}(h:Q (.exit id) a w):Exit.then K Q (.exit id) a w:=h
def RN {id:Nat}(h:Q .normal a w):Exit.inBlock id Q (.exit id) a w:=by simp only[Exit.inBlock,if_true];exact h
def RP {id id':Nat}(hne:Nat.beq id' id=false)(h:Q (.exit id') a w):Exit.inBlock id Q (.exit id') a w:=by
 have:id'≠id:=λe=>by subst e;simp at hne
 simp only[Exit.inBlock,if_neg this];exact h
def fm (h:K a w):Exit.then K Q .normal a w:=h
def H6 {id:Nat}(h:Q .normal a w):Exit.inBlock id Q .normal a w:=h
def BP (h:Q .ret a w):Exit.then K Q .ret a w:=h
def RQ {id:Nat}(h:Q .ret a w):Exit.inBlock id Q .ret a w:=h
end code
section func
variable {fn:Func}{c:Code}{R:Value->World->Prop}
def H7 (args:List Value):Nat->Value:=λi=>args.getD i undef
def aC {args:List Value}(hf:P.funcs[f]?=some fn)(hb:fn.body=some c)(h:c.wpIn (Fw none) 0 P (bodyPost P fn (aH w R)) (act (args.length+(fn.ntmps-args.length)) (H7 args) []) w):Calls P f args.toArray w (aH w R):=by
 refine oI (n:=0) (callsIn_of_wp hf hb trivial ?_)
 have:({tmps:=args.toArray++Array.replicate (fn.ntmps-args.toArray.size) undef,defers:=[]}:Act)=act (args.length+(fn.ntmps-args.length)) (H7 args) []:=by
  simp only[act,Act.mk.injEq,and_true]
  apply Array.ext
  · simp
  · intro i _ _
    simp only[Array.getElem_ofFn,H7]
    by_cases hi:i<args.length
    · simp[hi]
    · have h3:args.toArray.size<=i:=by simpa using hi
      rw[Array.getElem_append_right h3]
      simp[List.getElem?_eq_none (Nat.le_of_not_lt hi)]
 rw[this]
 exact h
def ba (hr:(results fn (act N e []).tmps).run P w'=.ok v w')(hx:aN w w')(hR:R v w'):bodyPost P fn (aH w R) .ret (act N e []) w':=
 ⟨rfl,v,hr,hx,hR⟩
def H8 (hr:(results fn (act N e []).tmps).run P w'=.ok v w')(hx:aN w w')(hR:R v w'):bodyPost P fn (aH w R) .normal (act N e []) w':=
 ⟨rfl,v,hr,hx,hR⟩
def tc {t:Nat}(hv:ev N e (.tmp t)=v):(act N e ds).tmps.getD t undef=v:=by
 have:(act N e ds).eval (.tmp t)=v:=by rw[cS];exact hv
 exact this
def it (tmps:Array Value):ResultVar->Sem Value
 | .tmp t=>pure (tmps.getD t undef)
 | .cell a t=>do loadVar t (<-asAddr (tmps.getD a undef))
def aL {t:Nat}(hv:ev N e (.tmp t)=v)(w:World):(it (act N e ds).tmps (.tmp t)).run P w=.ok v w:=by
 simp[it,tc hv]
def bI {t:Nat}{o:Nat}(hu:P.underlying ty=some D)(hd:D.isRow=false)(hv:ev N e (.tmp t)=.pointer (some ⟨b,o,none⟩))(hc:w.cell? ⟨b,o,none⟩=some v):
 (it (act N e ds).tmps (.cell t ty)).run P w=.ok v w:=by
 have E:(isAgg ty).run P w=.ok false w:=by
  unfold isAgg
  rw[Sem.run_bind,run_underlying hu w]
  cases D <;>simp_all
 simp[it,tc hv,asAddr,loadVar,E,hc]
def ak {t:Nat}{cs:List Value}{o:Nat}(hu:P.underlying ty=some D)(hd:D.isRow=true)(hi:(P.info? ty).map (·.size)=some cs.length)(hv:ev N e (.tmp t)=.pointer (some ⟨b,o,none⟩))(hc:∀j u,cs[j]?=some u->w.cell? ⟨b,o+j,none⟩=some u):
 (it (act N e ds).tmps (.cell t ty)).run P w=.ok (.agg cs.toArray) w:=by
 simp[it,tc hv,asAddr,run_loadVar_mid w b o ty cs D hc hu hd hi]
def lc (tmps:Array Value):results fn tmps=(do
 let vs <-fn.results.mapM (it tmps)
 pure (if h:vs.size=1 then vs[0]else .tuple vs)):=rfl
def nh (h:fn.results=#[]):(results fn tmps).run P w=.ok (.tuple #[]) w:=by
 rw[lc,h];simp
def cC {r1:ResultVar}(h:fn.results=#[r1])(h1:(it tmps r1).run P w=.ok v1 w):(results fn tmps).run P w=.ok v1 w:=by
 rw[lc,h];simp[h1]
def de {r1 r2:ResultVar}(h:fn.results=#[r1,r2])(h1:(it tmps r1).run P w=.ok v1 w)(h2:(it tmps r2).run P w=.ok v2 w):
 (results fn tmps).run P w=.ok (.tuple #[v1,v2]) w:=by
 rw[lc,h];simp[h1,h2]
def Na {r1 r2 r3:ResultVar}(h:fn.results=#[r1,r2,r3])(h1:(it tmps r1).run P w=.ok v1 w)(h2:(it tmps r2).run P w=.ok v2 w)(h3:(it tmps r3).run P w=.ok v3 w):
 (results fn tmps).run P w=.ok (.tuple #[v1,v2,v3]) w:=by
 rw[lc,h];simp[h1,h2,h3]
def am {t:Nat}(hres:fn.results=#[.tmp t])(hx:aN w w')(hR:R v w')(hv:ev N e (.tmp t)=v):bodyPost P fn (aH w R) .ret (act N e []) w':=
 ba (cC hres (aL hv w')) hx hR
def bF {t:Nat}(hres:fn.results=#[.tmp t,.tmp u])(hx:aN w w')(hR:R (.tuple #[v1,v2]) w')(h1:ev N e (.tmp t)=v1)(h2:ev N e (.tmp u)=v2):bodyPost P fn (aH w R) .ret (act N e []) w':=
 ba (de hres (aL h1 w') (aL h2 w')) hx hR
def fH {t:Nat}(hres:fn.results=#[.tmp t,.tmp u,.tmp s])(hx:aN w w')(hR:R (.tuple #[v1,v2,v3]) w')(h1:ev N e (.tmp t)=v1)(h2:ev N e (.tmp u)=v2)(h3:ev N e (.tmp s)=v3):bodyPost P fn (aH w R) .ret (act N e []) w':=
 ba (Na hres (aL h1 w') (aL h2 w') (aL h3 w')) hx hR
end func
section calls
variable {r:Option Nat}{Q:Exit->Act->World->Prop}{K:Act->World->Prop}
variable {ty:Nat}{pos:String}{af:Array Edge}{g:Option (Nat×Bool)}{u:Value}{x y:Operand}{t':TypeId}{R:Value->World->Prop}
def Enters (P:Program)(f:FuncId):Prop:=∀args w,(callFunc f args).run P w=.ok (.enter f args) w
def Gl {fn : Func}(hf : P.funcs[f]? = some fn)(hn : (fn.name == "runtime.NumGoroutine") = false)(hb : fn.body.isNone = false) : Enters P f := fun args w => by
 have hn' : fn.name ≠ "runtime.NumGoroutine" := by simpa using hn
 have hb':fn.body≠none:=λh=>by rw[h]at hb;cases hb
 simp[callFunc,hf,hn',hb']
def qq (hf:Enters P f)(hv:xs.toList.map (ev N e)=vs)(hc:Calls P f vs.toArray w (aH w R))(hk:∀v w',aN w w'->R v w'->K (act N (upd e d v) ds) w'):Oper.wpIn (Fw r) n P ⟨some d,.call {callee:=.value (.func f),args:=xs,argTypes:=ats},ty,pos,af,g⟩ (act N e ds) w K Q:=by
 subst hv
 refine sl (f:=f) (args:=xs.map (ev N e)) (R:=R) Z ?_ CD (λv w' h1 h2=>by rw[ax];exact hk v w' h1 h2)
 simp[execOp,resolve,Deferred.ofValue,ev,invoke,hf _ _]
def Nb (hf:Enters P f)(hx:ev N e x=.func (.func f) #[] lb.toArray)(hv:xs.toList.map (ev N e)=vs)(hc:Calls P f (vs++lb).toArray w (aH w R))(hk:∀v w',aN w w'->R v w'->K (act N (upd e d v) ds) w'):Oper.wpIn (Fw r) n P ⟨some d,.call {callee:=.value x,args:=xs,argTypes:=ats},ty,pos,af,g⟩ (act N e ds) w K Q:=by
 subst hv
 have h2:xs.map (ev N e)++lb.toArray=(xs.toList.map (ev N e)++lb).toArray:=by simp
 refine sl (f:=f) (args:=xs.map (ev N e)++lb.toArray) (R:=R) Z ?_ (by rw[h2];exact hc) (λv w' h1 h2=>by rw[ax];exact hk v w' h1 h2)
 simp[execOp,resolve,Deferred.ofValue,hx,invoke,hf _ _]
end calls
section draws
variable {r:Option Nat}{e0:Nat->Value}{Q:Exit->Act->World->Prop}{ops:Array Oper}
def kF (hc:Region.chainB .any ops M=true)(hwf:∀(i:Nat) (o:Oper),ops[i]?=some o->∀e∈o.after,Region.binds .any e=true->e.on<i):
 ∀ (m k:Nat) (listed:Array Bool) (a:Act) (w:World) (fuel:Nat),k+m=ops.size->M<=k->listed.size=ops.size->(∀i,i<k->listed.getD i false=true)->(∀i,k<=i->i<ops.size->listed.getD i true=false)->m<=fuel->
  wpListIn (Fw r) n P ops Q (ops.toList.drop k) a w->wpAnyIn (Fw r) n P .any ops Q fuel listed a w:=by
 intro m
 induction m with
 | zero=>
   intro k listed a w fuel hk hM W hl G hf h
   have hd:ops.toList.drop k=[]:=List.drop_eq_nil_of_le q4
   rw[hd]at h
   have hr:Region.ready .any ops listed=[]:=by
    cases hr:Region.ready .any ops listed with
    |nil=>rfl
    | cons i l=>
      have hi:i∈Region.ready .any ops listed:=by rw[hr];simp
      obtain⟨h1,o,ho,_⟩:=mem_ready.1 hi
      have hlt:=(Array.getElem?_eq_some_iff.1 ho).1
      have h2:=hl i J
      have h3:i<listed.size:=J
      simp[h3]at h1 h2
      rw[h1]at h2
      cases h2
   cases fuel with
   |zero=>exact⟨hr,h⟩
   |succ f=>exact⟨λ_=>h,λi hi=>by rw[hr]at hi;cases hi⟩
 | succ m ih=>
   intro k listed a w fuel hk hM W hl G hf h
   have hlt:k<ops.size:=J
   have H:ops[k]?=some ops[k]:=Array.getElem?_eq_getElem hlt
   have hd:ops.toList.drop k=ops[k]::ops.toList.drop (k+1):=by
    rw[List.drop_eq_getElem_cons (by simpa using hlt)];simp
   rw[hd]at h
   have A0:k∈Region.ready .any ops listed:=mem_ready.2 ⟨G k (qa0 k) hlt,ops[k],H,λe O hb=>hl _ (hwf k _ H e O hb)⟩
   cases fuel with
   |zero=>omega
   | succ f=>
     refine⟨λAo=>(by rw[Ao]at A0;cases A0),λi hi=>?_⟩
     obtain⟨h1,o,ho,Af⟩:=mem_ready.1 hi
     have A1:=(Array.getElem?_eq_some_iff.1 ho).1
     have Ab:k<=i:=by
      rcases Nat.lt_or_ge i k with hh|hh
      · have h2:=hl i hh
        have h3:i<listed.size:=J
        simp[h3]at h1 h2
        rw[h1]at h2
        cases h2
      · exact hh
     have Ap:i=k:=by
      rcases Nat.eq_or_lt_of_le Ab with hh|hh
      · exact hh.symm
      · have E:=List.all_eq_true.1 hc i (List.mem_range.2 A1)
        simp only[Bool.or_eq_true,decide_eq_true_eq]at E
        rcases E with E|E
        · omega
        · obtain⟨o',Am,e,O,hb,Aq⟩:=Region.waitsFor_spec E
          have:o'=o:=qb5 (Am.symm.trans ho)
          subst this
          have h2:=Af e O hb
          have h3:=G (i-1) J J
          rw[Aq,getD_both h3]at h2
          cases h2
     subst Ap
     have step:∀a w,wpListIn (Fw r) n P ops Q (ops.toList.drop (i+1)) a w->wpAnyIn (Fw r) n P .any ops Q f (listed.setIfInBounds i true) a w:=λa w h=>
      ih (i+1) _ a w f J J (by simp[W]) (λj A2=>by
       by_cases hji:i=j
       · subst hji;simp[W,A1]
       · rw[getD_set_ne false hji];exact hl j J) (λj A2 Ar=>by rw[getD_set_ne true J];exact G j J Ar) J h
     unfold wpOpIn
     rw[H]
     unfold wpListIn at h
     dsimp only
     split
     · rename_i hw;rw[if_pos hw]at h;exact Oper.wpIn_mono step h
     · rename_i hw;rw[if_neg hw]at h;exact⟨h.1,step _ _ h.2⟩
def left (ops:Array Oper)(listed:Array Bool):Nat:=((List.range ops.size).filter λi=>!listed.getD i false).length
def kG {listed:Array Bool}(hi:i<ops.size)(hs:listed.size=ops.size)(h:listed.getD i false=false):left ops (listed.setIfInBounds i true)+1<=left ops listed:=by
 unfold left
 have key:∀l:List Nat,l.Nodup->(∀j∈l,j<ops.size)->((l.filter λj=> !(listed.setIfInBounds i true).getD j false).length+(if i∈l then 1 else 0)<=(l.filter λj=> !listed.getD j false).length):=by
  intro l
  induction l with
  |nil=>simp
  | cons j l ih=>
    intro O hb
    obtain⟨H,W⟩:=List.nodup_cons.1 O
    have E:=ih W (λx hx=>hb x (by simp[hx]))
    by_cases hij:i=j
    · subst hij
      rw[if_neg H]at E
      have h1:(listed.setIfInBounds i true).getD i false=true:=by simp[hs,hi]
      rw[List.filter_cons,List.filter_cons,h1,h]
      simp only[Bool.not_true,Bool.false_eq_true,if_false,Bool.not_false,if_true,List.length_cons,List.mem_cons,true_or]
      omega
    · have h1:(listed.setIfInBounds i true).getD j false=listed.getD j false:=getD_set_ne false hij
      rw[List.filter_cons,List.filter_cons,h1]
      have h3:(if i∈j::l then 1 else 0)=(if i∈l then(1:Nat)else 0):=by simp[hij]
      rw[h3]
      cases listed.getD j false
      · simp only[Bool.not_false,if_true,List.length_cons];omega
      · simp only[Bool.not_true,Bool.false_eq_true,if_false];exact E
 have:=key (List.range ops.size) List.nodup_range (λj G=>List.mem_range.1 G)
 rw[if_pos (List.mem_range.2 hi)]at this
 exact this
def qx {listed:Array Bool}(hM:M<=ops.size)(h:∀i,M<=i->i<ops.size->listed.getD i false=false):ops.size-M<=left ops listed:=by
 unfold left
 have h1:List.range ops.size=List.range' 0 M++List.range' M (ops.size-M):=by
  have h3:=List.range'_append (s:=0) (m:=M) (n:=ops.size-M) (step:=1)
  simp only[Nat.zero_add,Nat.one_mul]at h3
  rw[List.range_eq_range',h3]
  congr 1;omega
 rw[h1,List.filter_append,List.length_append]
 have h2:(List.range' M (ops.size-M)).filter (λi=> !listed.getD i false)=List.range' M (ops.size-M):=by
  rw[List.filter_eq_self]
  intro i hi
  rw[List.mem_range'_1]at hi
  rw[h i hi.1 J];rfl
 rw[h2,List.length_range']
 omega
def iu {o:Oper}{a:Act}{K K':Act->World->Prop}{Q Q':Exit->Act->World->Prop}(h:∀a w,K a w->K' a w)(hq:∀c a w,Q (.panic c) a w->Q' (.panic c) a w)(ho:∀a w,Q .outgrown a w->Q' .outgrown a w)(hh:o.wpIn (Fw r) n P a w K Q):o.wpIn (Fw r) n P a w K' Q':=by
 unfold Oper.wpIn at *
 refine⟨hh.1,?_⟩
 have hh:=hh.2
 have hl:LetsOut Q->LetsOut Q':=fun⟨a,w,h⟩=>⟨a,w,ho a w h⟩
 generalize (o.semAt (Fw r).round a.eval).run P w=r at *
 cases r with
 | ok x w'=>
   cases x <;>simp only[Oper.uponIn]at hh ⊢ <;>
    first
     |exact h _ _ hh
     |exact⟨hh.1,CallsIn.mono hh.2 (λe w'' E=>by cases e <;>first|exact h _ _ E|exact hq _ _ _ E|exact hl E)⟩
     |exact⟨hh.1,RowsIn.mono hh.2 (λ_ _ E=>h _ _ E)⟩
     |exact⟨hh.1,RoundIn.mono hh.2 (λe w'' E=>by cases e <;>first|exact h _ _ E|exact hq _ _ _ E|exact hl E)⟩
 |halt x w'=>cases x <;>simp only[Oper.uponIn]at hh ⊢ <;>first|exact hq _ _ _ hh|exact hh
def lT (l:List Oper)(M t:Nat):Bool:=(l.take M).any λo=>match o.dst with|some d=>Nat.beq d t|none=>false
def ci (o:Oper)(j:Nat):Bool:=o.after.toList.any λed=>Region.binds .any ed&&Nat.beq ed.on j
def M3 (l:List Oper):Bool:=(List.range l.length).all λi=>match l[i]? with|some o=>o.after.toList.all λed=>!Region.binds .any ed||Nat.blt ed.on i|none=>true
def iv (l:List Oper)(M:Nat):Bool:=(Region.sinkB .any l.toArray M&&Region.chainB .any l.toArray M&&Nat.blt M l.length)||Nat.beq M l.length
def H9 (l:List Oper)(M:Nat):Bool:=(List.range M).all λi=>(List.range M).all λj=>Nat.beq i j||(match da l i,da l j with|some a,some b=>!Nat.beq a b|_,_=>true)
def phi (φs:List (Value->World->Prop))(j:Nat):Value->World->Prop:=match φs[j]? with|some φ=>φ|none=>λ_ _=>True
def xj (R:World->World->Prop):List (Value->World->Prop)->Prop
 |[]=>True
 |φ::φs=>(∀v w w',R w w'->φ v w->φ v w')/\xj R φs
def nL {R:World->World->Prop}:∀{φs:List (Value->World->Prop)},xj R φs->∀i v w w',R w w'->phi φs i v w->phi φs i v w'
 |[],_,i,v,w,w',_,_=>by simp[phi]
 |φ::φs,h,0,v,w,w',hR,hv=>h.1 v w w' hR hv
 | φ::φs,h,i+1,v,w,w',hR,hv=>by
   have:=nL h.2 i v w w' hR
   simp only[phi,List.getElem?_cons_succ]at this hv ⊢
   exact this hv
end draws
end Go.Eng
