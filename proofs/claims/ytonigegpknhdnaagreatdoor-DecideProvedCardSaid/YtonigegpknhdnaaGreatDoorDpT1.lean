/- Part of the proof of a statement about decisions. -/
import Derived.Test.YtonigegpknhdnaaGreatDoorDcAToDpB
set_option linter.all false
namespace Go.Proofs.YtonigegpknhdnaaGreatDoor
open Go Go.Eng Go.RowKit
theorem dp1_0:rowK tripK 1 0 95=true:=by decide +kernel
theorem dp1_1:rowK tripK 1 95 57=true:=by decide +kernel
theorem dp1_2:rowK tripK 1 152 7=true:=by decide +kernel
theorem dp1:Rng tripK 1 159:=((Rng.zero.next dp1_0).next dp1_1).next dp1_2
theorem dp2_0:rowK tripK 2 0 245=true:=by decide +kernel
theorem dp2_1:rowK tripK 2 245 74=true:=by decide +kernel
theorem dp2:Rng tripK 2 319:=(Rng.zero.next dp2_0).next dp2_1
theorem dp3_0:rowK tripK 3 0 136=true:=by decide +kernel
theorem dp3_1:rowK tripK 3 136 99=true:=by decide +kernel
theorem dp3_2:rowK tripK 3 235 85=true:=by decide +kernel
theorem dp3_3:rowK tripK 3 320 65=true:=by decide +kernel
theorem dp3_4:rowK tripK 3 385 70=true:=by decide +kernel
theorem dp3_5:rowK tripK 3 455 24=true:=by decide +kernel
theorem dp3:Rng tripK 3 479:=(((((Rng.zero.next dp3_0).next dp3_1).next dp3_2).next dp3_3).next dp3_4).next dp3_5
theorem dp4_0:rowK tripK 4 0 343=true:=by decide +kernel
theorem dp4_1:rowK tripK 4 343 218=true:=by decide +kernel
theorem dp4_2:rowK tripK 4 561 78=true:=by decide +kernel
theorem dp4:Rng tripK 4 639:=((Rng.zero.next dp4_0).next dp4_1).next dp4_2
theorem dp5_0:rowK tripK 5 0 248=true:=by decide +kernel
theorem dp5_1:rowK tripK 5 248 168=true:=by decide +kernel
theorem dp5_2:rowK tripK 5 416 145=true:=by decide +kernel
theorem dp5_3:rowK tripK 5 561 132=true:=by decide +kernel
theorem dp5_4:rowK tripK 5 693 106=true:=by decide +kernel
theorem dp5:Rng tripK 5 799:=((((Rng.zero.next dp5_0).next dp5_1).next dp5_2).next dp5_3).next dp5_4
theorem dp6_0:rowK tripK 6 0 385=true:=by decide +kernel
theorem dp6_1:rowK tripK 6 385 282=true:=by decide +kernel
theorem dp6_2:rowK tripK 6 667 276=true:=by decide +kernel
theorem dp6_3:rowK tripK 6 943 16=true:=by decide +kernel
theorem dp6:Rng tripK 6 959:=(((Rng.zero.next dp6_0).next dp6_1).next dp6_2).next dp6_3
theorem dp7_0:rowK tripK 7 0 138=true:=by decide +kernel
theorem dp7_1:rowK tripK 7 138 120=true:=by decide +kernel
theorem dp7_2:rowK tripK 7 258 111=true:=by decide +kernel
theorem dp7_3:rowK tripK 7 369 91=true:=by decide +kernel
theorem dp7_4:rowK tripK 7 460 84=true:=by decide +kernel
theorem dp7_5:rowK tripK 7 544 81=true:=by decide +kernel
theorem dp7_6:rowK tripK 7 625 79=true:=by decide +kernel
theorem dp7_7:rowK tripK 7 704 71=true:=by decide +kernel
theorem dp7_8:rowK tripK 7 775 75=true:=by decide +kernel
theorem dp7_9:rowK tripK 7 850 75=true:=by decide +kernel
theorem dp7_10:rowK tripK 7 925 64=true:=by decide +kernel
theorem dp7_11:rowK tripK 7 989 64=true:=by decide +kernel
theorem dp7_12:rowK tripK 7 1053 65=true:=by decide +kernel
theorem dp7_13:rowK tripK 7 1118 1=true:=by decide +kernel
theorem dp7:Rng tripK 7 1119:=(((((((((((((Rng.zero.next dp7_0).next dp7_1).next dp7_2).next dp7_3).next dp7_4).next dp7_5).next dp7_6).next dp7_7).next dp7_8).next dp7_9).next dp7_10).next dp7_11).next dp7_12).next dp7_13
end Go.Proofs.YtonigegpknhdnaaGreatDoor
