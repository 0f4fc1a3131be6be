/- Part of the proof of a statement about decisions. -/
import Derived.Test.YtinldhphnpflaaaGreatDoorIsQToRi5
set_option linter.all false
namespace Go.Proofs.YtinldhphnpflaaaGreatDoor
theorem gu_5:guK 5=true:=by decide +kernel
theorem gu_13:guK 13=true:=by decide +kernel
theorem gu_21:guK 21=true:=by decide +kernel
theorem gu_29:guK 29=true:=by decide +kernel
theorem gu_37:guK 37=true:=by decide +kernel
theorem gu_45:guK 45=true:=by decide +kernel
theorem gu_53:guK 53=true:=by decide +kernel
theorem gu_61:guK 61=true:=by decide +kernel
theorem gu_69:guK 69=true:=by decide +kernel
theorem gu_77:guK 77=true:=by decide +kernel
theorem gu_85:guK 85=true:=by decide +kernel
theorem gu_93:guK 93=true:=by decide +kernel
end Go.Proofs.YtinldhphnpflaaaGreatDoor
