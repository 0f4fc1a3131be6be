/- Part of the proof of a statement about decisions. -/
import Derived.Test.YtonigegpknhdnaaGreatDoorDcAToDe9
import Derived.Test.YtonigegpknhdnaaGreatDoorDoT1
import Derived.Test.YtonigegpknhdnaaGreatDoorDoT2
import Derived.Test.YtonigegpknhdnaaGreatDoorDoT3
import Derived.Test.YtonigegpknhdnaaGreatDoorDoT4
import Derived.Test.YtonigegpknhdnaaGreatDoorDoT5
import Derived.Test.YtonigegpknhdnaaGreatDoorDoT6
import Derived.Test.YtonigegpknhdnaaGreatDoorDoT7
import Derived.Test.YtonigegpknhdnaaGreatDoorDoT8
import Derived.Test.YtonigegpknhdnaaGreatDoorDl4ToDm4
set_option linter.all false
namespace Go.Proofs.YtonigegpknhdnaaGreatDoor
open Go Go.Eng Go.RowKit
theorem do1 : RngO 1 79:=RngO.zero.next do1_0
theorem do2 : RngO 2 159:=RngO.zero.next do2_0
theorem do3 : RngO 3 239:=(((RngO.zero.next do3_0).next do3_107).next do3_163).next do3_205
theorem do4 : RngO 4 319:=(RngO.zero.next do4_0).next do4_217
theorem do5 : RngO 5 399:=(((RngO.zero.next do5_0).next do5_179).next do5_271).next do5_342
theorem do6 : RngO 6 479:=(((RngO.zero.next do6_0).next do6_215).next do6_325).next do6_409
theorem do7 : RngO 7 559:=(((((((((((RngO.zero.next do7_0).next do7_124).next do7_195).next do7_251).next do7_299).next do7_341).next do7_380).next do7_415).next do7_447).next do7_479).next do7_508).next do7_536
theorem do9 : RngO 9 719:=(((((((((((RngO.zero.next do9_0).next do9_160).next do9_251).next do9_323).next do9_385).next do9_439).next do9_488).next do9_533).next do9_575).next do9_616).next do9_653).next do9_689
theorem do11 : RngO 11 879:=(((((((((((((((((((RngO.zero.next do11_0).next do11_136).next do11_221).next do11_288).next do11_345).next do11_395).next do11_442).next do11_485).next do11_524).next do11_562).next do11_597).next do11_631).next do11_664).next do11_695).next do11_724).next do11_753).next do11_782).next do11_809).next do11_835).next do11_861
theorem do13 : RngO 13 1039:=(((((((((((((((((((((((RngO.zero.next do13_0).next do13_140).next do13_230).next do13_302).next do13_363).next do13_418).next do13_467).next do13_513).next do13_556).next do13_596).next do13_634).next do13_671).next do13_706).next do13_739).next do13_772).next do13_803).next do13_834).next do13_863).next do13_891).next do13_919).next do13_946).next do13_972).next do13_998).next do13_1023
theorem do17 : RngO 17 1359:=(((((((((((((((((((((((((((((((RngO.zero.next do17_0).next do17_148).next do17_247).next do17_327).next do17_395).next do17_456).next do17_512).next do17_564).next do17_611).next do17_657).next do17_701).next do17_742).next do17_781).next do17_820).next do17_856).next do17_891).next do17_925).next do17_958).next do17_990).next do17_1021).next do17_1051).next do17_1081).next do17_1110).next do17_1138).next do17_1166).next do17_1194).next do17_1220).next do17_1247).next do17_1272).next do17_1298).next do17_1322).next do17_1347
theorem do19 : RngO 19 1519:=(((((((((((((((((((((((((((((((((((RngO.zero.next do19_0).next do19_151).next do19_254).next do19_337).next do19_409).next do19_473).next do19_531).next do19_585).next do19_636).next do19_683).next do19_729).next do19_772).next do19_813).next do19_853).next do19_891).next do19_928).next do19_964).next do19_999).next do19_1033).next do19_1066).next do19_1097).next do19_1129).next do19_1160).next do19_1189).next do19_1219).next do19_1247).next do19_1276).next do19_1303).next do19_1331).next do19_1357).next do19_1383).next do19_1409).next do19_1434).next do19_1459).next do19_1484).next do19_1508
theorem do21 : RngO 21 1679:=(((((((((((((((((((((((RngO.zero.next do21_0).next do21_227).next do21_373).next do21_487).next do21_587).next do21_674).next do21_755).next do21_829).next do21_899).next do21_964).next do21_1025).next do21_1084).next do21_1139).next do21_1195).next do21_1247).next do21_1298).next do21_1346).next do21_1394).next do21_1439).next do21_1486).next do21_1529).next do21_1571).next do21_1613).next do21_1654
theorem do23 : RngO 23 1839:=(((((((((((((((((((((((((((((((((((((((((((RngO.zero.next do23_0).next do23_156).next do23_266).next do23_356).next do23_433).next do23_502).next do23_566).next do23_625).next do23_680).next do23_732).next do23_781).next do23_829).next do23_873).next do23_916).next do23_958).next do23_999).next do23_1038).next do23_1075).next do23_1112).next do23_1147).next do23_1182).next do23_1216).next do23_1250).next do23_1282).next do23_1315).next do23_1346).next do23_1376).next do23_1407).next do23_1436).next do23_1465).next do23_1493).next do23_1522).next do23_1550).next do23_1577).next do23_1604).next do23_1630).next do23_1657).next do23_1683).next do23_1708).next do23_1733).next do23_1758).next do23_1782).next do23_1806).next do23_1830
theorem do27 : RngO 27 2159:=(((((((((((((((((((((((((((((((((((RngO.zero.next do27_0).next do27_215).next do27_361).next do27_479).next do27_581).next do27_673).next do27_755).next do27_832).next do27_904).next do27_971).next do27_1036).next do27_1097).next do27_1156).next do27_1213).next do27_1267).next do27_1319).next do27_1370).next do27_1420).next do27_1468).next do27_1514).next do27_1559).next do27_1604).next do27_1648).next do27_1690).next do27_1732).next do27_1772).next do27_1813).next do27_1852).next do27_1891).next do27_1928).next do27_1966).next do27_2002).next do27_2038).next do27_2074).next do27_2108).next do27_2143
theorem do29 : RngO 29 2319:=(((((((((((((((((((((((((((((((((((((((((((((((((((((((RngO.zero.next do29_0).next do29_162).next do29_280).next do29_378).next do29_462).next do29_539).next do29_610).next do29_675).next do29_736).next do29_793).next do29_848).next do29_900).next do29_949).next do29_997).next do29_1043).next do29_1088).next do29_1132).next do29_1174).next do29_1215).next do29_1256).next do29_1295).next do29_1333).next do29_1371).next do29_1407).next do29_1442).next do29_1477).next do29_1512).next do29_1545).next do29_1578).next do29_1610).next do29_1642).next do29_1673).next do29_1704).next do29_1734).next do29_1764).next do29_1794).next do29_1823).next do29_1852).next do29_1880).next do29_1908).next do29_1936).next do29_1963).next do29_1990).next do29_2017).next do29_2043).next do29_2069).next do29_2095).next do29_2121).next do29_2145).next do29_2170).next do29_2195).next do29_2220).next do29_2244).next do29_2268).next do29_2292).next do29_2315
def sO : List Nat:=[1,2,3,4,5,6,7,9,11,13,17,19,21,23,27,29]
theorem do_all (s : Nat) (h : s ∈ sO) : RngO s (80 * s - 1):=by
  simp only [sO,List.mem_cons,List.not_mem_nil,or_false] at h
  rcases h with rfl | rfl | rfl | rfl | rfl | rfl | rfl | rfl | rfl | rfl | rfl | rfl | rfl | rfl | rfl | rfl
  · exact do1
  · exact do2
  · exact do3
  · exact do4
  · exact do5
  · exact do6
  · exact do7
  · exact do9
  · exact do11
  · exact do13
  · exact do17
  · exact do19
  · exact do21
  · exact do23
  · exact do27
  · exact do29
theorem so_mem : ∀ S,S < 31→∀ W,W < 41→0 < S→S / Nat.gcd (20 * W) S ∈ sO:=by decide +kernel
theorem sh_sum {W S f : Nat} (w1 : 1≤W) (w40 : W≤40) (s1 : 1≤S) (s30 : S≤30) (f60 : f≤60) :
    ∃ k s : Nat,0 < k∧k≤2600∧1≤s∧s≤30∧k * S = (20 * W + f * S) * s∧ShAll ((2 * k : Nat) : Int) ((20 * s : Nat) : Int)∧ShAll (-((2 * k : Nat) : Int)) ((20 * s : Nat) : Int):=by
  have hm:=so_mem S (by omega) W (by omega) (by omega)
  have eg : Nat.gcd (20 * W + f * S) S = Nat.gcd (20 * W) S:=by simp
  have hf : f * S≤60 * 30:=Nat.mul_le_mul f60 s30
  have hg : 0 < Nat.gcd (20 * W + f * S) S:=Nat.gcd_pos_of_pos_right _ (by omega)
  rw [← eg] at hm
  obtain ⟨k,hk⟩:=Nat.gcd_dvd_left (20 * W + f * S) S
  obtain ⟨s,hs⟩:=Nat.gcd_dvd_right (20 * W + f * S) S
  have hc:=Nat.coprime_div_gcd_div_gcd hg
  have ek : (20 * W + f * S) / Nat.gcd (20 * W + f * S) S = k:=by
    conv=>lhs; lhs; rw [hk]
    exact Nat.mul_div_cancel_left _ hg
  have es : S / Nat.gcd (20 * W + f * S) S = s:=by
    conv=>lhs; lhs; rw [hs]
    exact Nat.mul_div_cancel_left _ hg
  rw [ek,es] at hc
  rw [es] at hm
  generalize Nat.gcd (20 * W + f * S) S = g at *
  generalize hK : 20 * W + f * S = K0 at *
  have k0 : 0 < k:=by
    rcases Nat.eq_zero_or_pos k with h | h
    · rw [h,Nat.mul_zero] at hk; omega
    · exact h
  have s0 : 0 < s:=by
    rcases Nat.eq_zero_or_pos s with h | h
    · rw [h,Nat.mul_zero] at hs; omega
    · exact h
  have kK : k≤K0:=by
    calc k = 1 * k := (Nat.one_mul k).symm
      _≤g * k:=Nat.mul_le_mul_right _ hg
      _ = K0:=hk.symm
  have sS : s≤S:=by
    calc s = 1 * s := (Nat.one_mul s).symm
      _≤g * s:=Nat.mul_le_mul_right _ hg
      _ = S:=hs.symm
  refine ⟨k,s,k0,by omega,s0,by omega,by rw [hk,hs]; grind,?_⟩
  by_cases h8 : k < 80 * s
  · exact shAll_pos (by omega) s0 (by omega) (by omega) (up_lt s0 (by omega) (by omega)) (pairK_ok s0 (by omega) (do_all s hm k k0 (by omega) hc))
  · exact ⟨shAll_hi (by omega) (by omega),shAll_lo (by omega) (by omega)⟩
theorem sh_far {f pl : Nat} (f1 : 1≤f) (f60 : f≤60) (p1 : 1≤pl) (p8 : pl≤8) : ∃ a b : Int,Sh pl ((2 * f : Nat) : Int) ((20 * 1 : Nat) : Int) a b∧tenI pl≤2 * a:=by
  have hp:=pairK_ok (S:=1) (K:=2 * f) (by decide) (by omega) (do_all 1 (by decide) f (by omega) (by omega) (Nat.gcd_one_right _))
  obtain ⟨lo,hi,hlh,ha⟩:=hp
  obtain ⟨x,c,x',c',a,b,g1,g2⟩:=ha pl p1 p8
  have e1:=fl_nat (K:=2 * f) (S:=1) (by decide)
  have e2:=cl_nat (K:=2 * f) (S:=1) (by decide)
  have hT : ((10 ^ pl : Nat) : Int) = tenI pl:=rfl
  have a3:=a.2.2.1
  have b4:=b.2.2.2
  have c1 : clp ((2 * f : Nat) : Int) ((20 * 1 : Nat) : Int) = (((2 * f : Nat) : Int),((20 * 1 : Nat) : Int)):=by
    unfold clp; rw [if_pos (by omega),if_pos (by omega)]
  have g1' : (x : Int) * tenI (8 - pl)≤lo:=by rw [← nat_ten]; omega
  have g2' : (hi : Int)≤(c : Int) * tenI (8 - pl):=by rw [← nat_ten]; omega
  refine ⟨x,c,⟨x',c',?_,?_,le_of_ten g1' (by omega) g2',by omega,by omega⟩,by omega⟩
  · rw [c1]; simp only; rw [e1]; exact a.nmc (by omega) (by omega)
  · rw [c1]; simp only; rw [e2]; exact b.nmc (by omega) (by omega)
theorem half_min {T a b : Int} (h : T≤2 * a) (hb : 0≤b) (hT : 0 < T) : T≤2 * min (a + b) T:=by omega
theorem out_far {L W S f : Int} {pl : Nat} {ab : Bool} (l1 : -20≤L) (l2 : L≤20) (w1 : 1≤W) (w2 : W≤40) (s1 : 1≤S) (s2 : S≤30) (f1 : 1≤f) (f2 : f≤60) (p1 : 1≤pl) (p8 : pl≤8) :
    ∃ k u,OutC pl (if ab = true then (L + W) * (20 * 10) + S * f * 10 else L * (20 * 10) - S * f * 10) (10 * (20 * 10)) S 20 L 10 (L + W) 10 k u∧tenI pl≤2 * k:=by
  obtain ⟨W',rfl⟩ : ∃ W' : Nat,W = W':=⟨W.toNat,by omega⟩
  obtain ⟨S',rfl⟩ : ∃ S' : Nat,S = S':=⟨S.toNat,by omega⟩
  obtain ⟨f',rfl⟩ : ∃ f' : Nat,f = f':=⟨f.toNat,by omega⟩
  obtain ⟨k,s,k0,k1,s0,s3,e,_,hn⟩:=sh_sum (W:=W') (S:=S') (f:=f') (by omega) (by omega) (by omega) (by omega) (by omega)
  obtain ⟨a,b,hF,hh⟩:=sh_far (f:=f') (pl:=pl) (by omega) (by omega) p1 p8
  obtain ⟨lo,hi,_,ha⟩:=hn
  obtain ⟨x,y,hS,_,_,_⟩:=ha pl p1 p8
  have hT:=ten_pos pl
  have hx : 0≤x:=by obtain ⟨_,_,_,_,_,h,_⟩:=hS; exact h
  have e' : ((k : Nat) : Int) * (S' : Int) = (20 * (W' : Int) + (f' : Int) * (S' : Int)) * (s : Int):=by
    have:=congrArg Int.ofNat e
    simpa using this
  have hsf1 : 0≤(S' : Int) * (f' : Int):=Int.mul_nonneg (by omega) (by omega)
  have hsf2 : (S' : Int) * (f' : Int)≤30 * 60:=by
    have h1 : (S' : Int) * (f' : Int)≤(S' : Int) * 60:=Int.mul_le_mul_of_nonneg_left f2 (by omega)
    omega
  have zf : Sz ((2 * f' : Nat) : Int) ((20 * 1 : Nat) : Int):=sz_ (by omega) (by omega) (by omega)
  have zk : Sz (-((2 * k : Nat) : Int)) ((20 * s : Nat) : Int):=sz_ (by omega) (by omega) (by omega)
  have c1 : ((2 * f' : Nat) : Int) = 2 * (f' : Int):=by omega
  have c2 : ((2 * k : Nat) : Int) = 2 * (k : Int):=by omega
  have c3 : ((20 * s : Nat) : Int) = 20 * (s : Int):=by omega
  have c4 : ((20 * 1 : Nat) : Int) = 20:=rfl
  cases ab with
  | true =>
    rw [if_pos rfl]
    refine ⟨_,_,outN_of p1 (by omega) zk zf hS hF _ _ _ _ _ _ _ _ (sz_ ?_ (by decide) (by decide)) (sz_ (by omega) (by decide) (by decide)) (by omega) (sz_ (by omega) (by decide) (by decide)) (sz_ (by omega) (by decide) (by decide)) (by omega) ?_ ?_,by rw [Int.add_comm]; exact half_min hh hx hT⟩
    · generalize (S' : Int) * (f' : Int) = sf at *; omega
    · rw [c2,c3]; grind
    · rw [c1,c4]; grind
  | false =>
    rw [if_neg (by decide)]
    refine ⟨_,_,outN_of p1 (by omega) zf zk hF hS _ _ _ _ _ _ _ _ (sz_ ?_ (by decide) (by decide)) (sz_ (by omega) (by decide) (by decide)) (by omega) (sz_ (by omega) (by decide) (by decide)) (sz_ (by omega) (by decide) (by decide)) (by omega) ?_ ?_,half_min hh hx hT⟩
    · generalize (S' : Int) * (f' : Int) = sf at *; omega
    · rw [c1,c4]; grind
    · rw [c2,c3]; grind
theorem rej_half {ins : Bool} {k T ra rb : Int} (h : T≤2 * k) (hT : 0 < T) (hb : 0 < rb) (hr : ra * 2 < 1 * rb) : rejB ins k T ra rb = true:=by
  unfold rejB
  cases ins with
  | false=>rfl
  | true =>
    rw [Bool.not_true,Bool.false_or,decide_eq_true_eq]
    have h1 : ra * 2 * T < 1 * rb * T:=Int.mul_lt_mul_of_pos_right hr hT
    have h2 : rb * T≤rb * (2 * k):=Int.mul_le_mul_of_nonneg_left h (Int.le_of_lt hb)
    grind
theorem decideOutside_law {x0 x1 x2 x3 x4 x5 x6 y fa : Int} {ab : Bool} {w : World} (hx0 : In64 x0) (hx1 : In64 x1) (hx2 : In64 x2) (hx3 : In64 x3) (hx4 : In64 x4) (hx5 : In64 x5) (hx6 : In64 x6) (hy : In64 y) (hfa : In64 fa) (ht : Tb w) :
    Calls Tryz.prog 6 #[.agg #[.int .i64 x0,.int .i64 x1,.int .i64 x2,.int .i64 x3,.int .i64 x4,.int .i64 x5,.int .i64 x6],.int .i64 y,.int .i64 fa,.bool ab] w (Ret w fun v _=>v = .bool true):=by
  obtain ⟨kd,L,W,G,gd,R,q,S,D,m,hMk⟩:=make_c hx0 hx1 hx2 hx3 hx4 hx5 hx6
  obtain ⟨xa,xb,ya,yb,rl,hv⟩:=m.rl
  obtain ⟨pl,hpl,p1,p8⟩:=pl_of hy
  have bf:=pick_bd fa 60 (by decide)
  obtain ⟨k,u,o,hk⟩:=out_far (f:=1 + pickI fa 60) (ab:=ab) m.l1 m.l2 m.w1 m.w2 m.s1 m.s2 (by omega) (by omega) p1 p8
  have q0 : 0 < q:=by have:=m.q1; omega
  have p12 : pl≤12:=Nat.le_trans p8 (by decide)
  have hsf1 : 0≤S * (1 + pickI fa 60):=Int.mul_nonneg (by have:=m.s1; omega) (by omega)
  have hsf2 : S * (1 + pickI fa 60)≤30 * 60:=by
    have h1 : S * (1 + pickI fa 60)≤S * 60:=Int.mul_le_mul_of_nonneg_left (by omega) (by have:=m.s1; omega)
    have:=m.s2
    omega
  have l1:=m.l1
  have l2:=m.l2
  have w1:=m.w1
  have w2:=m.w2
  have s1:=m.s1
  have s2:=m.s2
  have qf : Q9 (1 + pickI fa 60) 10:=q9_12 (by omega) (by decide) (by decide)
  have qd : Q9 (S * (1 + pickI fa 60)) (20 * 10):=q9_12 (by omega) (by decide) (by decide)
  have qs : Q9 S 20:=q9_12 (by omega) (by decide) (by decide)
  have sv : Sz (if ab = true then (L + W) * (20 * 10) + S * (1 + pickI fa 60) * 10 else L * (20 * 10) - S * (1 + pickI fa 60) * 10) (10 * (20 * 10)):=by
    generalize S * (1 + pickI fa 60) = sf at *
    cases ab with
    | true=>rw [if_pos rfl]; exact sz_ (by omega) (by decide) (by decide)
    | false=>rw [if_neg (by decide)]; exact sz_ (by omega) (by decide) (by decide)
  have V1:=fun X hX=>verdict_c (w:=X) rl hv sv p12 o hX
  exact outside_walk hy hpl hfa vdct_ge (fun h=>vdct_2.2 (rej_half hk (ten_pos pl) q0 (cmpI_neg.1 h))) (fun X hX=>sane_c hX) (fun X _=>hMk X) V1 qs qf qd rl.h.q9 rl.l.q9 rl.r.q9 (q9_12 (by decide) (by decide) (by decide)) (fun h=>by rw [if_pos h]) (fun h=>by rw [if_neg (by rw [h]; decide)]) ht
end Go.Proofs.YtonigegpknhdnaaGreatDoor
