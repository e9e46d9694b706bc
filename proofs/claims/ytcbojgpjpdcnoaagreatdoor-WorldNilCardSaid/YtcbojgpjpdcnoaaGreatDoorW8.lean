import Derived.Test.YtcbojgpjpdcnoaaGreatDoorW8a
import Derived.Test.YtcbojgpjpdcnoaaGreatDoorW8b
import Derived.Test.YtcbojgpjpdcnoaaGreatDoorW8c
import Derived.Test.YtcbojgpjpdcnoaaGreatDoorW8d
import Derived.Test.YtcbojgpjpdcnoaaGreatDoorW8e
import Derived.Test.YtcbojgpjpdcnoaaGreatDoorW8f
namespace Go.Proofs.YtcbojgpjpdcnoaaGreatDoor
open Go
theorem andT {a b : Bool} (h : a = true) (k : b = true) : (a && b) = true := by rw [h, k]; rfl
theorem joined_of (P : Program) (f : FuncId) (fn : Func) (s : ChangeSpec) (c : OpenClaim) (h0 : jf0 P f fn s c = true) (h1 : jf1 P f fn s c = true) (h2 : jf2 P f fn s c = true) (h3 : jf3 P f fn s c = true) (h4 : jf4 P f fn s c = true) (h5 : jf5 P f fn s c = true) (h6 : jf6 P f fn s c = true) (h7 : jf7 P f fn s c = true) (h8 : jf8 P f fn s c = true) (h9 : jf9 P f fn s c = true) (h10 : jf10 P f fn s c = true) (h11 : jf11 P f fn s c = true) (h12 : jf12 P f fn s c = true) (h13 : jf13 P f fn s c = true) (h14 : jf14 P f fn s c = true) (h15 : jf15 P f fn s c = true) (h16 : jf16 P f fn s c = true) (h17 : jf17 P f fn s c = true) (h18 : jf18 P f fn s c = true) (h19 : jf19 P f fn s c = true) (h20 : jf20 P f fn s c = true) (h21 : jf21 P f fn s c = true) (h22 : jf22 P f fn s c = true) (h23 : jf23 P f fn s c = true) (h24 : jf24 P f fn s c = true) (h25 : jf25 P f fn s c = true) (h26 : jf26 P f fn s c = true) (h27 : jf27 P f fn s c = true) (h28 : jf28 P f fn s c = true) (h29 : jf29 P f fn s c = true) (h30 : jf30 P f fn s c = true) (h31 : jf31 P f fn s c = true) : joinedFacts P f fn s c = true := by
  unfold joinedFacts
  exact (andT (andT (andT (andT (andT (andT (andT (andT (andT (andT (andT (andT (andT (andT (andT (andT (andT (andT (andT (andT (andT (andT (andT (andT (andT (andT (andT (andT (andT (andT (andT h0 h1) h2) h3) h4) h5) h6) h7) h8) h9) h10) h11) h12) h13) h14) h15) h16) h17) h18) h19) h20) h21) h22) h23) h24) h25) h26) h27) h28) h29) h30) h31)
theorem joined : joinedFacts Tryz.prog 3 Tryz.f3 Rows.worldNilSpec Rows.worldNilRow = true :=
  joined_of _ _ _ _ _ jf0_true jf1_true jf2_true jf3_true jf4_true jf5_true jf6_true jf7_true jf8_true jf9_true jf10_true jf11_true jf12_true jf13_true jf14_true jf15_true jf16_true jf17_true jf18_true jf19_true jf20_true jf21_true jf22_true jf23_true jf24_true jf25_true jf26_true jf27_true jf28_true jf29_true jf30_true jf31_true
end Go.Proofs.YtcbojgpjpdcnoaaGreatDoor
