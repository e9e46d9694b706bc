import Derived.Test.YtcbojgpjpdcnoaaGreatDoorW5
set_option maxRecDepth 1000000
namespace Go.Proofs.YtcbojgpjpdcnoaaGreatDoor
open Go Ax
/-- what nothing is known of -/
def any : V := .chan (some 0)
def nilArgs : List V := [.agg ⟨List.replicate 26 any⟩, any]
theorem nil_run : retIs (.bool true) (evF E3 100000 (.call 3 nilArgs (startAW 3))) = true := by decide +kernel
end Go.Proofs.YtcbojgpjpdcnoaaGreatDoor
