import Derived.Test.YtcbojgpjpdcnoaaGreatDoorRows
import Derived.Test.YtcbojgpjpdcnoaaGreatDoorCards
import Derived.KernelRfl
namespace Go.Proofs.YtcbojgpjpdcnoaaGreatDoor
open Go
theorem row_named : Tryz.prog.funcNamed Rows.worldNilRow.func = some 3 := by kernel_rfl
end Go.Proofs.YtcbojgpjpdcnoaaGreatDoor
