/- Part of the proof of a statement about decisions. -/
import Derived.Test.YtinldhphnpflaaaGreatDoorIsQToRi5
set_option linter.all false
namespace Go.Proofs.YtinldhphnpflaaaGreatDoor
theorem gu_3:guK 3=true:=by decide +kernel
theorem gu_11:guK 11=true:=by decide +kernel
theorem gu_19:guK 19=true:=by decide +kernel
theorem gu_27:guK 27=true:=by decide +kernel
theorem gu_35:guK 35=true:=by decide +kernel
theorem gu_43:guK 43=true:=by decide +kernel
theorem gu_51:guK 51=true:=by decide +kernel
theorem gu_59:guK 59=true:=by decide +kernel
theorem gu_67:guK 67=true:=by decide +kernel
theorem gu_75:guK 75=true:=by decide +kernel
theorem gu_83:guK 83=true:=by decide +kernel
theorem gu_91:guK 91=true:=by decide +kernel
theorem gu_99:guK 99=true:=by decide +kernel
end Go.Proofs.YtinldhphnpflaaaGreatDoor
