/- Part of the proof of a statement about decisions. -/
import Derived.Test.YtinldhphnpflaaaGreatDoorIsQToRi5
set_option linter.all false
namespace Go.Proofs.YtinldhphnpflaaaGreatDoor
theorem gu_4:guK 4=true:=by decide +kernel
theorem gu_12:guK 12=true:=by decide +kernel
theorem gu_20:guK 20=true:=by decide +kernel
theorem gu_28:guK 28=true:=by decide +kernel
theorem gu_36:guK 36=true:=by decide +kernel
theorem gu_44:guK 44=true:=by decide +kernel
theorem gu_52:guK 52=true:=by decide +kernel
theorem gu_60:guK 60=true:=by decide +kernel
theorem gu_68:guK 68=true:=by decide +kernel
theorem gu_76:guK 76=true:=by decide +kernel
theorem gu_84:guK 84=true:=by decide +kernel
theorem gu_92:guK 92=true:=by decide +kernel
theorem gu_100:guK 100=true:=by decide +kernel
end Go.Proofs.YtinldhphnpflaaaGreatDoor
