/- Part of the proof of a statement about risks. -/
import Derived.Test.YtmehbpjpbbhohaaGreatDoorDrW
set_option linter.all false
namespace Go.Proofs.YtmehbpjpbbhohaaGreatDoor
open Go Go.Eng Go.RowKit
theorem dw68_0:rowW 68 (λq=>Nat.ble q 87371) 389 1 50000=true:=by decide +kernel
theorem dw68_1:rowW 68 (λq=>Nat.ble q 98893) 389 390 87371=true:=by decide +kernel
theorem dw68_2:rowW 68 (λq=>Nat.ble q 99970) 389 779 98893=true:=by decide +kernel
theorem dw68_3:rowW 68 (λq=>Nat.ble q 99999) 389 1168 99970=true:=by decide +kernel
theorem dw68_4:rowW 68 (λq=>Nat.ble q 99999) 389 1557 99999=true:=by decide +kernel
theorem dw68_5:rowW 68 (λq=>Nat.ble q 99999) 389 1946 99999=true:=by decide +kernel
theorem dw68_6:rowW 68 (λq=>Nat.ble q 99999) 385 2335 99999=true:=by decide +kernel
theorem dw68:ChW 68 (40*68) 99999:=((((((((((((((ChW.zero).next (b:=1) (r:=50000) (n:=389) (r':=87371) dc dc dc dw68_0)).next (b:=390) (r:=87371) (n:=389) (r':=98893) dc dc dc dw68_1)).next (b:=779) (r:=98893) (n:=389) (r':=99970) dc dc dc dw68_2)).next (b:=1168) (r:=99970) (n:=389) (r':=99999) dc dc dc dw68_3)).next (b:=1557) (r:=99999) (n:=389) (r':=99999) dc dc dc dw68_4)).next (b:=1946) (r:=99999) (n:=389) (r':=99999) dc dc dc dw68_5)).next (b:=2335) (r:=99999) (n:=385) (r':=99999) dc dc dc dw68_6)
end Go.Proofs.YtmehbpjpbbhohaaGreatDoor
