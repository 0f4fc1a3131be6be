/- Part of the proof of a statement about decisions. -/
import Derived.Test.YtinldhphnpflaaaGreatDoorIsQToRi5
set_option linter.all false
namespace Go.Proofs.YtinldhphnpflaaaGreatDoor
theorem gu_6:guK 6=true:=by decide +kernel
theorem gu_14:guK 14=true:=by decide +kernel
theorem gu_22:guK 22=true:=by decide +kernel
theorem gu_30:guK 30=true:=by decide +kernel
theorem gu_38:guK 38=true:=by decide +kernel
theorem gu_46:guK 46=true:=by decide +kernel
theorem gu_54:guK 54=true:=by decide +kernel
theorem gu_62:guK 62=true:=by decide +kernel
theorem gu_70:guK 70=true:=by decide +kernel
theorem gu_78:guK 78=true:=by decide +kernel
theorem gu_86:guK 86=true:=by decide +kernel
theorem gu_94:guK 94=true:=by decide +kernel
end Go.Proofs.YtinldhphnpflaaaGreatDoor
