/- Part of the proof of a statement about decisions. -/
import Derived.Test.YtinldhphnpflaaaGreatDoorIsQToRi5
set_option linter.all false
namespace Go.Proofs.YtinldhphnpflaaaGreatDoor
theorem gu_8:guK 8=true:=by decide +kernel
theorem gu_16:guK 16=true:=by decide +kernel
theorem gu_24:guK 24=true:=by decide +kernel
theorem gu_32:guK 32=true:=by decide +kernel
theorem gu_40:guK 40=true:=by decide +kernel
theorem gu_48:guK 48=true:=by decide +kernel
theorem gu_56:guK 56=true:=by decide +kernel
theorem gu_64:guK 64=true:=by decide +kernel
theorem gu_72:guK 72=true:=by decide +kernel
theorem gu_80:guK 80=true:=by decide +kernel
theorem gu_88:guK 88=true:=by decide +kernel
theorem gu_96:guK 96=true:=by decide +kernel
end Go.Proofs.YtinldhphnpflaaaGreatDoor
