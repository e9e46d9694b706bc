import Derived.Test.YtcbojgpjpdcnoaaGreatDoorW1
set_option maxRecDepth 1000000
namespace Go.Proofs.YtcbojgpjpdcnoaaGreatDoor
open Go Ax
theorem root_2_3 : retIs (u32 1116352408) (evF E0 100000 (.call 305 (rootArgs 2 3) (startAW 3))) = true := by decide +kernel
theorem root_3_3 : retIs (u32 1899447441) (evF E0 100000 (.call 305 (rootArgs 3 3) (startAW 3))) = true := by decide +kernel
theorem root_5_3 : retIs (u32 3049323471) (evF E0 100000 (.call 305 (rootArgs 5 3) (startAW 3))) = true := by decide +kernel
theorem root_7_3 : retIs (u32 3921009573) (evF E0 100000 (.call 305 (rootArgs 7 3) (startAW 3))) = true := by decide +kernel
theorem root_11_3 : retIs (u32 961987163) (evF E0 100000 (.call 305 (rootArgs 11 3) (startAW 3))) = true := by decide +kernel
theorem root_13_3 : retIs (u32 1508970993) (evF E0 100000 (.call 305 (rootArgs 13 3) (startAW 3))) = true := by decide +kernel
theorem root_17_3 : retIs (u32 2453635748) (evF E0 100000 (.call 305 (rootArgs 17 3) (startAW 3))) = true := by decide +kernel
theorem root_19_3 : retIs (u32 2870763221) (evF E0 100000 (.call 305 (rootArgs 19 3) (startAW 3))) = true := by decide +kernel
theorem root_23_3 : retIs (u32 3624381080) (evF E0 100000 (.call 305 (rootArgs 23 3) (startAW 3))) = true := by decide +kernel
theorem root_29_3 : retIs (u32 310598401) (evF E0 100000 (.call 305 (rootArgs 29 3) (startAW 3))) = true := by decide +kernel
theorem root_31_3 : retIs (u32 607225278) (evF E0 100000 (.call 305 (rootArgs 31 3) (startAW 3))) = true := by decide +kernel
theorem root_37_3 : retIs (u32 1426881987) (evF E0 100000 (.call 305 (rootArgs 37 3) (startAW 3))) = true := by decide +kernel
theorem root_41_3 : retIs (u32 1925078388) (evF E0 100000 (.call 305 (rootArgs 41 3) (startAW 3))) = true := by decide +kernel
theorem root_43_3 : retIs (u32 2162078206) (evF E0 100000 (.call 305 (rootArgs 43 3) (startAW 3))) = true := by decide +kernel
theorem root_47_3 : retIs (u32 2614888103) (evF E0 100000 (.call 305 (rootArgs 47 3) (startAW 3))) = true := by decide +kernel
theorem root_53_3 : retIs (u32 3248222580) (evF E0 100000 (.call 305 (rootArgs 53 3) (startAW 3))) = true := by decide +kernel
theorem root_59_3 : retIs (u32 3835390401) (evF E0 100000 (.call 305 (rootArgs 59 3) (startAW 3))) = true := by decide +kernel
theorem root_61_3 : retIs (u32 4022224774) (evF E0 100000 (.call 305 (rootArgs 61 3) (startAW 3))) = true := by decide +kernel
theorem root_67_3 : retIs (u32 264347078) (evF E0 100000 (.call 305 (rootArgs 67 3) (startAW 3))) = true := by decide +kernel
theorem root_71_3 : retIs (u32 604807628) (evF E0 100000 (.call 305 (rootArgs 71 3) (startAW 3))) = true := by decide +kernel
theorem root_73_3 : retIs (u32 770255983) (evF E0 100000 (.call 305 (rootArgs 73 3) (startAW 3))) = true := by decide +kernel
theorem root_79_3 : retIs (u32 1249150122) (evF E0 100000 (.call 305 (rootArgs 79 3) (startAW 3))) = true := by decide +kernel
theorem root_83_3 : retIs (u32 1555081692) (evF E0 100000 (.call 305 (rootArgs 83 3) (startAW 3))) = true := by decide +kernel
theorem root_89_3 : retIs (u32 1996064986) (evF E0 100000 (.call 305 (rootArgs 89 3) (startAW 3))) = true := by decide +kernel
end Go.Proofs.YtcbojgpjpdcnoaaGreatDoor
