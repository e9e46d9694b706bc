import Derived.Test.YtcbojgpjpdcnoaaGreatDoorRows
import Derived.JoinedOf
import Derived.KernelRfl
namespace Go.Proofs.YtcbojgpjpdcnoaaGreatDoor
open Go
set_option linter.unusedVariables false
def jf0 (P : Program) (f : FuncId) (fn : Func) (s : ChangeSpec) (c : OpenClaim) : Bool := c.wf (OpenSpec.ofChange s)
theorem jf0_true : jf0 Tryz.prog 3 Tryz.f3 Rows.worldNilSpec Rows.worldNilRow = true := by kernel_rfl
def jf1 (P : Program) (f : FuncId) (fn : Func) (s : ChangeSpec) (c : OpenClaim) : Bool := laidOutB P
def jf2 (P : Program) (f : FuncId) (fn : Func) (s : ChangeSpec) (c : OpenClaim) : Bool := mapsRowed P
theorem jf2_true : jf2 Tryz.prog 3 Tryz.f3 Rows.worldNilSpec Rows.worldNilRow = true := by kernel_rfl
def jf3 (P : Program) (f : FuncId) (fn : Func) (s : ChangeSpec) (c : OpenClaim) : Bool := fn.params.all (P.readableRec ·)
theorem jf3_true : jf3 Tryz.prog 3 Tryz.f3 Rows.worldNilSpec Rows.worldNilRow = true := by kernel_rfl
def jf4 (P : Program) (f : FuncId) (fn : Func) (s : ChangeSpec) (c : OpenClaim) : Bool := namedTie P c.named s.vars
theorem jf4_true : jf4 Tryz.prog 3 Tryz.f3 Rows.worldNilSpec Rows.worldNilRow = true := by kernel_rfl
def jf5 (P : Program) (f : FuncId) (fn : Func) (s : ChangeSpec) (c : OpenClaim) : Bool := (c.stops == [])
theorem jf5_true : jf5 Tryz.prog 3 Tryz.f3 Rows.worldNilSpec Rows.worldNilRow = true := by kernel_rfl
def jf6 (P : Program) (f : FuncId) (fn : Func) (s : ChangeSpec) (c : OpenClaim) : Bool := (P.stops == [])
theorem jf6_true : jf6 Tryz.prog 3 Tryz.f3 Rows.worldNilSpec Rows.worldNilRow = true := by kernel_rfl
def jf7 (P : Program) (f : FuncId) (fn : Func) (s : ChangeSpec) (c : OpenClaim) : Bool := (c.knobs == [])
theorem jf7_true : jf7 Tryz.prog 3 Tryz.f3 Rows.worldNilSpec Rows.worldNilRow = true := by kernel_rfl
def jf8 (P : Program) (f : FuncId) (fn : Func) (s : ChangeSpec) (c : OpenClaim) : Bool := (P.stopKnobs == [])
theorem jf8_true : jf8 Tryz.prog 3 Tryz.f3 Rows.worldNilSpec Rows.worldNilRow = true := by kernel_rfl
def jf9 (P : Program) (f : FuncId) (fn : Func) (s : ChangeSpec) (c : OpenClaim) : Bool := (c.inPlace == P.inPlace f)
def jf10 (P : Program) (f : FuncId) (fn : Func) (s : ChangeSpec) (c : OpenClaim) : Bool := (c.unfollowed == P.unfollowed f)
def jf11 (P : Program) (f : FuncId) (fn : Func) (s : ChangeSpec) (c : OpenClaim) : Bool := (c.recurses == P.recurses f)
def jf12 (P : Program) (f : FuncId) (fn : Func) (s : ChangeSpec) (c : OpenClaim) : Bool := (c.named == P.varsNamed f)
def jf13 (P : Program) (f : FuncId) (fn : Func) (s : ChangeSpec) (c : OpenClaim) : Bool := (c.maps == (fn.params.toList ++ s.plain.varTypes P).any (P.mapsRec ·))
theorem jf13_true : jf13 Tryz.prog 3 Tryz.f3 Rows.worldNilSpec Rows.worldNilRow = true := by kernel_rfl
def jf14 (P : Program) (f : FuncId) (fn : Func) (s : ChangeSpec) (c : OpenClaim) : Bool := (c.ifaces == (fn.params.toList ++ s.plain.varTypes P).any (P.ifacesRec ·))
theorem jf14_true : jf14 Tryz.prog 3 Tryz.f3 Rows.worldNilSpec Rows.worldNilRow = true := by kernel_rfl
def jf15 (P : Program) (f : FuncId) (fn : Func) (s : ChangeSpec) (c : OpenClaim) : Bool := (c.mapsOut == P.mapsAmong fn.resultTypes.toList)
theorem jf15_true : jf15 Tryz.prog 3 Tryz.f3 Rows.worldNilSpec Rows.worldNilRow = true := by kernel_rfl
def jf16 (P : Program) (f : FuncId) (fn : Func) (s : ChangeSpec) (c : OpenClaim) : Bool := (c.loops == (fn.params.toList ++ s.plain.varTypes P).any (P.loopsFrom ·))
theorem jf16_true : jf16 Tryz.prog 3 Tryz.f3 Rows.worldNilSpec Rows.worldNilRow = true := by kernel_rfl
def jf17 (P : Program) (f : FuncId) (fn : Func) (s : ChangeSpec) (c : OpenClaim) : Bool := (c.wideKeys == (fn.params.toList ++ s.plain.varTypes P ++ fn.resultTypes.toList).any (P.wideKeysFrom ·))
theorem jf17_true : jf17 Tryz.prog 3 Tryz.f3 Rows.worldNilSpec Rows.worldNilRow = true := by kernel_rfl
def jf18 (P : Program) (f : FuncId) (fn : Func) (s : ChangeSpec) (c : OpenClaim) : Bool := s.vars.all (P.varReadable ·)
theorem jf18_true : jf18 Tryz.prog 3 Tryz.f3 Rows.worldNilSpec Rows.worldNilRow = true := by kernel_rfl
def jf19 (P : Program) (f : FuncId) (fn : Func) (s : ChangeSpec) (c : OpenClaim) : Bool := fn.resultTypes.all (fun t => P.readableRec t && decide (t < P.types.size))
theorem jf19_true : jf19 Tryz.prog 3 Tryz.f3 Rows.worldNilSpec Rows.worldNilRow = true := by kernel_rfl
def jf20 (P : Program) (f : FuncId) (fn : Func) (s : ChangeSpec) (c : OpenClaim) : Bool := (c.ifacesOut == fn.resultTypes.toList.any (P.ifacesRec ·))
theorem jf20_true : jf20 Tryz.prog 3 Tryz.f3 Rows.worldNilSpec Rows.worldNilRow = true := by kernel_rfl
def jf21 (P : Program) (f : FuncId) (fn : Func) (s : ChangeSpec) (c : OpenClaim) : Bool := (c.loopsOut == fn.resultTypes.toList.any (P.loopsFrom ·))
theorem jf21_true : jf21 Tryz.prog 3 Tryz.f3 Rows.worldNilSpec Rows.worldNilRow = true := by kernel_rfl
def jf22 (P : Program) (f : FuncId) (fn : Func) (s : ChangeSpec) (c : OpenClaim) : Bool := (c.plainKeys == P.plainKeys)
theorem jf22_true : jf22 Tryz.prog 3 Tryz.f3 Rows.worldNilSpec Rows.worldNilRow = true := by kernel_rfl
def jf23 (P : Program) (f : FuncId) (fn : Func) (s : ChangeSpec) (c : OpenClaim) : Bool := c.shortTexts.isNone
theorem jf23_true : jf23 Tryz.prog 3 Tryz.f3 Rows.worldNilSpec Rows.worldNilRow = true := by kernel_rfl
def jf24 (P : Program) (f : FuncId) (fn : Func) (s : ChangeSpec) (c : OpenClaim) : Bool := P.stopsHeard
theorem jf24_true : jf24 Tryz.prog 3 Tryz.f3 Rows.worldNilSpec Rows.worldNilRow = true := by kernel_rfl
def jf25 (P : Program) (f : FuncId) (fn : Func) (s : ChangeSpec) (c : OpenClaim) : Bool := P.mayEnter
theorem jf25_true : jf25 Tryz.prog 3 Tryz.f3 Rows.worldNilSpec Rows.worldNilRow = true := by kernel_rfl
def jf26 (P : Program) (f : FuncId) (fn : Func) (s : ChangeSpec) (c : OpenClaim) : Bool := (c.lifted == P.liftsFinal)
theorem jf26_true : jf26 Tryz.prog 3 Tryz.f3 Rows.worldNilSpec Rows.worldNilRow = true := by kernel_rfl
def jf27 (P : Program) (f : FuncId) (fn : Func) (s : ChangeSpec) (c : OpenClaim) : Bool := (P.make == some c.make)
theorem jf27_true : jf27 Tryz.prog 3 Tryz.f3 Rows.worldNilSpec Rows.worldNilRow = true := by kernel_rfl
def jf28 (P : Program) (f : FuncId) (fn : Func) (s : ChangeSpec) (c : OpenClaim) : Bool := (c.kinds == (if c.domain.isEmpty then [] else fn.params.toList.map fun t => match P.underlying t with | some (.int k) => some k | _ => none))
theorem jf28_true : jf28 Tryz.prog 3 Tryz.f3 Rows.worldNilSpec Rows.worldNilRow = true := by kernel_rfl
def jf29 (P : Program) (f : FuncId) (fn : Func) (s : ChangeSpec) (c : OpenClaim) : Bool := (c.pinned == c.pinnedBy)
theorem jf29_true : jf29 Tryz.prog 3 Tryz.f3 Rows.worldNilSpec Rows.worldNilRow = true := by kernel_rfl
def jf30 (P : Program) (f : FuncId) (fn : Func) (s : ChangeSpec) (c : OpenClaim) : Bool := (c.veiled == (fn.params.toList ++ s.plain.varTypes P ++ fn.resultTypes.toList).any (P.veiledRec ·))
theorem jf30_true : jf30 Tryz.prog 3 Tryz.f3 Rows.worldNilSpec Rows.worldNilRow = true := by kernel_rfl
def jf31 (P : Program) (f : FuncId) (fn : Func) (s : ChangeSpec) (c : OpenClaim) : Bool := c.veiledFits P fn.params.toList (fn.params.toList ++ s.plain.varTypes P ++ fn.resultTypes.toList)
theorem jf31_true : jf31 Tryz.prog 3 Tryz.f3 Rows.worldNilSpec Rows.worldNilRow = true := by kernel_rfl
end Go.Proofs.YtcbojgpjpdcnoaaGreatDoor
