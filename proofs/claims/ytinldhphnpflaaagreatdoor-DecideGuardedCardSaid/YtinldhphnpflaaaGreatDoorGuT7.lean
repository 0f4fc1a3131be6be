/- Part of the proof of a statement about decisions. -/
import Derived.Test.YtinldhphnpflaaaGreatDoorIsQToRi5
set_option linter.all false
namespace Go.Proofs.YtinldhphnpflaaaGreatDoor
theorem gu_7:guK 7=true:=by decide +kernel
theorem gu_15:guK 15=true:=by decide +kernel
theorem gu_23:guK 23=true:=by decide +kernel
theorem gu_31:guK 31=true:=by decide +kernel
theorem gu_39:guK 39=true:=by decide +kernel
theorem gu_47:guK 47=true:=by decide +kernel
theorem gu_55:guK 55=true:=by decide +kernel
theorem gu_63:guK 63=true:=by decide +kernel
theorem gu_71:guK 71=true:=by decide +kernel
theorem gu_79:guK 79=true:=by decide +kernel
theorem gu_87:guK 87=true:=by decide +kernel
theorem gu_95:guK 95=true:=by decide +kernel
end Go.Proofs.YtinldhphnpflaaaGreatDoor
