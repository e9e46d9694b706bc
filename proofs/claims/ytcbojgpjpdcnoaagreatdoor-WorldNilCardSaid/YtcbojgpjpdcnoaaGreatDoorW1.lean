import Derived.Test.YtcbojgpjpdcnoaaGreatDoorAxD
import Derived.Test.YtcbojgpjpdcnoaaGreatDoorProg
import Derived.Laws.Externs
import Derived.Lib.Builder
namespace Go.Proofs.YtcbojgpjpdcnoaaGreatDoor
open Go Ax
noncomputable def tt : Tr TypeInfo := Tr.ofList 3 Tryz.prog.types.toList 0 .nil
noncomputable def ft : Tr Func := Tr.ofList 3 Tryz.prog.funcs.toList 0 .nil
noncomputable def ext0 (g : Nat) (args : List V) (A : AW) : Option (V × AW) := match Nat.beq g 388 with
  | true => growA 5 args A
  | false => none
noncomputable def E0 : Env := envOf Tryz.prog tt 554 ft 543 3 (nbThree 429 491 467) ext0
set_option maxRecDepth 1000000
theorem E0_ok : EnvOk Tryz.prog E0 := by
  refine envOf_ok rfl (by kernel_rfl) (by decide) rfl (by kernel_rfl) (by decide) (by kernel_rfl) (by kernel_rfl) (nbThree_ok ?_ ?_ ?_)
  · intro x w
    rw [run_callFunc_extern Tryz.func429 (by kernel_rfl) (by kernel_rfl) (by kernel_rfl) (e := Extern.AbiNoEscape.same) (by kernel_rfl), Lib.run_noEscape]
    rfl
  · intro s c w
    rw [run_callFunc_extern Tryz.func491 (by kernel_rfl) (by kernel_rfl) (by kernel_rfl) (e := Extern.BytealgCount.count) (by kernel_rfl), Lib.run_countString]
    rfl
  · intro s c w
    rw [run_callFunc_extern Tryz.func467 (by kernel_rfl) (by kernel_rfl) (by kernel_rfl) (e := Extern.BytealgIndexByte.indexByte) (by kernel_rfl), Lib.run_indexByteString]
    rfl
theorem E0_ext (hw : GrowWalk Tryz.prog 388 5) : ExtOk Tryz.prog E0 := by
  intro g args A v A' h
  have h : ext0 g args A = some (v, A') := h
  unfold ext0 at h
  split at h
  · rename_i hg
    obtain rfl := Nat.eq_of_beq_eq_true hg
    exact grow_ok hw h
  · cases h
def rootArgs (p k : Nat) : List V := [.int .i64 (.ofNat p), .int .i64 (.ofNat k)]
def u32 (n : Nat) : V := .int .u32 (.ofNat n)
end Go.Proofs.YtcbojgpjpdcnoaaGreatDoor
