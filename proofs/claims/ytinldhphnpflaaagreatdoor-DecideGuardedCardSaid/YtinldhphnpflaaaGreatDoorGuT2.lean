/- Part of the proof of a statement about decisions. -/
import Derived.Test.YtinldhphnpflaaaGreatDoorIsQToRi5
set_option linter.all false
namespace Go.Proofs.YtinldhphnpflaaaGreatDoor
theorem gu_2:guK 2=true:=by decide +kernel
theorem gu_10:guK 10=true:=by decide +kernel
theorem gu_18:guK 18=true:=by decide +kernel
theorem gu_26:guK 26=true:=by decide +kernel
theorem gu_34:guK 34=true:=by decide +kernel
theorem gu_42:guK 42=true:=by decide +kernel
theorem gu_50:guK 50=true:=by decide +kernel
theorem gu_58:guK 58=true:=by decide +kernel
theorem gu_66:guK 66=true:=by decide +kernel
theorem gu_74:guK 74=true:=by decide +kernel
theorem gu_82:guK 82=true:=by decide +kernel
theorem gu_90:guK 90=true:=by decide +kernel
theorem gu_98:guK 98=true:=by decide +kernel
end Go.Proofs.YtinldhphnpflaaaGreatDoor
