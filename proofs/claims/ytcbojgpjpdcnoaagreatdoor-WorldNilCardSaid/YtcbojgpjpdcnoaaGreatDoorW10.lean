import Derived.Test.YtcbojgpjpdcnoaaGreatDoorRows
import Derived.Test.YtcbojgpjpdcnoaaGreatDoorCards
import Derived.KernelRfl
namespace Go.Proofs.YtcbojgpjpdcnoaaGreatDoor
open Go
theorem no_goes : Tryz.prog.funcs.toList.any Func.goes = false := by kernel_rfl
theorem card_goes : false = Rows.worldNilRow.goesBy Tryz.prog := by
  have hno : ∀ (g : Nat), (Tryz.prog.funcs[g]?).any Func.goes = false := fun g => by
    cases h : Tryz.prog.funcs[g]? with
    | none => rfl
    | some fn =>
      have := List.any_eq_false.1 no_goes fn (by simpa using Array.mem_of_getElem? h)
      simpa using this
  have hall : ∀ f, Tryz.prog.goes f = false := fun f => by
    unfold Program.goes
    rw [Bool.or_eq_false_iff]
    refine ⟨List.any_eq_false.2 fun g _ => by simp [hno g], ?_⟩
    rw [Bool.and_eq_false_iff]
    right
    rw [← Array.any_toList]
    exact no_goes
  unfold OpenClaim.goesBy Program.goesAt Program.goesFrom
  cases Tryz.prog.funcNamed Rows.worldNilRow.func with
  | none => rfl
  | some f => simp [hall, Rows.worldNilRow]
end Go.Proofs.YtcbojgpjpdcnoaaGreatDoor
