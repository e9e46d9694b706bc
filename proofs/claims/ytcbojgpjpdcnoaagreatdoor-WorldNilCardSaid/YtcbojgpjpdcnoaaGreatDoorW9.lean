import Derived.Test.YtcbojgpjpdcnoaaGreatDoorRows
import Derived.Test.YtcbojgpjpdcnoaaGreatDoorCards
import Derived.KernelRfl
namespace Go.Proofs.YtcbojgpjpdcnoaaGreatDoor
open Go
theorem card_looks : false = Tryz.prog.looks [] := by kernel_rfl
theorem card_main : Tryz.prog.mainIs = some (true, "67f17695d655aa6f43e364c149968e7356bab5ae35bd16b380547549a854cbe8".toList) := by kernel_rfl
theorem card_wf : Rows.worldNilRow.wfByText (OpenSpec.ofChange Rows.worldNilSpec) = true := by kernel_rfl
theorem card_wants32 : Tryz.prog.wantsStandIn 32 = false := by kernel_rfl
theorem card_wants3 : Tryz.prog.wantsStandIn 3 = false := by kernel_rfl
theorem row_wrapper : Tryz.f3.isWrapper Tryz.prog Rows.worldNilRow.wrapper Rows.worldNilRow.mainSum := by
  unfold Func.isWrapper
  rw [if_neg (by decide +kernel)]
  exact ⟨rfl, rfl⟩
theorem row_inst : Tryz.f3.isInstance Tryz.prog Rows.worldNilRow.origin Rows.worldNilRow.targs := of_decide_eq_true (by kernel_rfl)
end Go.Proofs.YtcbojgpjpdcnoaaGreatDoor
