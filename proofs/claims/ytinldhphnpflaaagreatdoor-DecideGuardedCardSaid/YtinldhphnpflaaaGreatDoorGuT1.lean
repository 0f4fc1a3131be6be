/- Part of the proof of a statement about decisions. -/
import Derived.Test.YtinldhphnpflaaaGreatDoorIsQToRi5
set_option linter.all false
namespace Go.Proofs.YtinldhphnpflaaaGreatDoor
theorem gu_1:guK 1=true:=by decide +kernel
theorem gu_9:guK 9=true:=by decide +kernel
theorem gu_17:guK 17=true:=by decide +kernel
theorem gu_25:guK 25=true:=by decide +kernel
theorem gu_33:guK 33=true:=by decide +kernel
theorem gu_41:guK 41=true:=by decide +kernel
theorem gu_49:guK 49=true:=by decide +kernel
theorem gu_57:guK 57=true:=by decide +kernel
theorem gu_65:guK 65=true:=by decide +kernel
theorem gu_73:guK 73=true:=by decide +kernel
theorem gu_81:guK 81=true:=by decide +kernel
theorem gu_89:guK 89=true:=by decide +kernel
theorem gu_97:guK 97=true:=by decide +kernel
end Go.Proofs.YtinldhphnpflaaaGreatDoor
