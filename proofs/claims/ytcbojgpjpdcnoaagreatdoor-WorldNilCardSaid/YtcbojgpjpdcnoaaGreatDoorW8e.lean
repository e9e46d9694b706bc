import Derived.Test.YtcbojgpjpdcnoaaGreatDoorW8a
import Derived.Test.YtcbojgpjpdcnoaaGreatDoorRows
import Derived.JoinedOf
import Derived.KernelRfl
namespace Go.Proofs.YtcbojgpjpdcnoaaGreatDoor
open Go
theorem jf12_true : jf12 Tryz.prog 3 Tryz.f3 Rows.worldNilSpec Rows.worldNilRow = true := by kernel_rfl
end Go.Proofs.YtcbojgpjpdcnoaaGreatDoor
