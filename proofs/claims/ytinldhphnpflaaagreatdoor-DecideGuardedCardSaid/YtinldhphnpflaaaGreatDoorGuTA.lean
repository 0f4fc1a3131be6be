/- Part of the proof of a statement about decisions. -/
import Derived.Test.YtinldhphnpflaaaGreatDoorGuT1
import Derived.Test.YtinldhphnpflaaaGreatDoorGuT2
import Derived.Test.YtinldhphnpflaaaGreatDoorGuT3
import Derived.Test.YtinldhphnpflaaaGreatDoorGuT4
import Derived.Test.YtinldhphnpflaaaGreatDoorGuT5
import Derived.Test.YtinldhphnpflaaaGreatDoorGuT6
import Derived.Test.YtinldhphnpflaaaGreatDoorGuT7
import Derived.Test.YtinldhphnpflaaaGreatDoorGuT8
set_option linter.all false
namespace Go.Proofs.YtinldhphnpflaaaGreatDoor
theorem gu_all {k:Nat}(h1:1<=k)(h:k<=100):∃z,GuR k z:=by
  match k,h1,h with
  |1,_,_=>exact guK_ok (by decide) gu_1
  |2,_,_=>exact guK_ok (by decide) gu_2
  |3,_,_=>exact guK_ok (by decide) gu_3
  |4,_,_=>exact guK_ok (by decide) gu_4
  |5,_,_=>exact guK_ok (by decide) gu_5
  |6,_,_=>exact guK_ok (by decide) gu_6
  |7,_,_=>exact guK_ok (by decide) gu_7
  |8,_,_=>exact guK_ok (by decide) gu_8
  |9,_,_=>exact guK_ok (by decide) gu_9
  |10,_,_=>exact guK_ok (by decide) gu_10
  |11,_,_=>exact guK_ok (by decide) gu_11
  |12,_,_=>exact guK_ok (by decide) gu_12
  |13,_,_=>exact guK_ok (by decide) gu_13
  |14,_,_=>exact guK_ok (by decide) gu_14
  |15,_,_=>exact guK_ok (by decide) gu_15
  |16,_,_=>exact guK_ok (by decide) gu_16
  |17,_,_=>exact guK_ok (by decide) gu_17
  |18,_,_=>exact guK_ok (by decide) gu_18
  |19,_,_=>exact guK_ok (by decide) gu_19
  |20,_,_=>exact guK_ok (by decide) gu_20
  |21,_,_=>exact guK_ok (by decide) gu_21
  |22,_,_=>exact guK_ok (by decide) gu_22
  |23,_,_=>exact guK_ok (by decide) gu_23
  |24,_,_=>exact guK_ok (by decide) gu_24
  |25,_,_=>exact guK_ok (by decide) gu_25
  |26,_,_=>exact guK_ok (by decide) gu_26
  |27,_,_=>exact guK_ok (by decide) gu_27
  |28,_,_=>exact guK_ok (by decide) gu_28
  |29,_,_=>exact guK_ok (by decide) gu_29
  |30,_,_=>exact guK_ok (by decide) gu_30
  |31,_,_=>exact guK_ok (by decide) gu_31
  |32,_,_=>exact guK_ok (by decide) gu_32
  |33,_,_=>exact guK_ok (by decide) gu_33
  |34,_,_=>exact guK_ok (by decide) gu_34
  |35,_,_=>exact guK_ok (by decide) gu_35
  |36,_,_=>exact guK_ok (by decide) gu_36
  |37,_,_=>exact guK_ok (by decide) gu_37
  |38,_,_=>exact guK_ok (by decide) gu_38
  |39,_,_=>exact guK_ok (by decide) gu_39
  |40,_,_=>exact guK_ok (by decide) gu_40
  |41,_,_=>exact guK_ok (by decide) gu_41
  |42,_,_=>exact guK_ok (by decide) gu_42
  |43,_,_=>exact guK_ok (by decide) gu_43
  |44,_,_=>exact guK_ok (by decide) gu_44
  |45,_,_=>exact guK_ok (by decide) gu_45
  |46,_,_=>exact guK_ok (by decide) gu_46
  |47,_,_=>exact guK_ok (by decide) gu_47
  |48,_,_=>exact guK_ok (by decide) gu_48
  |49,_,_=>exact guK_ok (by decide) gu_49
  |50,_,_=>exact guK_ok (by decide) gu_50
  |51,_,_=>exact guK_ok (by decide) gu_51
  |52,_,_=>exact guK_ok (by decide) gu_52
  |53,_,_=>exact guK_ok (by decide) gu_53
  |54,_,_=>exact guK_ok (by decide) gu_54
  |55,_,_=>exact guK_ok (by decide) gu_55
  |56,_,_=>exact guK_ok (by decide) gu_56
  |57,_,_=>exact guK_ok (by decide) gu_57
  |58,_,_=>exact guK_ok (by decide) gu_58
  |59,_,_=>exact guK_ok (by decide) gu_59
  |60,_,_=>exact guK_ok (by decide) gu_60
  |61,_,_=>exact guK_ok (by decide) gu_61
  |62,_,_=>exact guK_ok (by decide) gu_62
  |63,_,_=>exact guK_ok (by decide) gu_63
  |64,_,_=>exact guK_ok (by decide) gu_64
  |65,_,_=>exact guK_ok (by decide) gu_65
  |66,_,_=>exact guK_ok (by decide) gu_66
  |67,_,_=>exact guK_ok (by decide) gu_67
  |68,_,_=>exact guK_ok (by decide) gu_68
  |69,_,_=>exact guK_ok (by decide) gu_69
  |70,_,_=>exact guK_ok (by decide) gu_70
  |71,_,_=>exact guK_ok (by decide) gu_71
  |72,_,_=>exact guK_ok (by decide) gu_72
  |73,_,_=>exact guK_ok (by decide) gu_73
  |74,_,_=>exact guK_ok (by decide) gu_74
  |75,_,_=>exact guK_ok (by decide) gu_75
  |76,_,_=>exact guK_ok (by decide) gu_76
  |77,_,_=>exact guK_ok (by decide) gu_77
  |78,_,_=>exact guK_ok (by decide) gu_78
  |79,_,_=>exact guK_ok (by decide) gu_79
  |80,_,_=>exact guK_ok (by decide) gu_80
  |81,_,_=>exact guK_ok (by decide) gu_81
  |82,_,_=>exact guK_ok (by decide) gu_82
  |83,_,_=>exact guK_ok (by decide) gu_83
  |84,_,_=>exact guK_ok (by decide) gu_84
  |85,_,_=>exact guK_ok (by decide) gu_85
  |86,_,_=>exact guK_ok (by decide) gu_86
  |87,_,_=>exact guK_ok (by decide) gu_87
  |88,_,_=>exact guK_ok (by decide) gu_88
  |89,_,_=>exact guK_ok (by decide) gu_89
  |90,_,_=>exact guK_ok (by decide) gu_90
  |91,_,_=>exact guK_ok (by decide) gu_91
  |92,_,_=>exact guK_ok (by decide) gu_92
  |93,_,_=>exact guK_ok (by decide) gu_93
  |94,_,_=>exact guK_ok (by decide) gu_94
  |95,_,_=>exact guK_ok (by decide) gu_95
  |96,_,_=>exact guK_ok (by decide) gu_96
  |97,_,_=>exact guK_ok (by decide) gu_97
  |98,_,_=>exact guK_ok (by decide) gu_98
  |99,_,_=>exact guK_ok (by decide) gu_99
  |100,_,_=>exact guK_ok (by decide) gu_100
  |n+101,_,h=>omega
end Go.Proofs.YtinldhphnpflaaaGreatDoor
