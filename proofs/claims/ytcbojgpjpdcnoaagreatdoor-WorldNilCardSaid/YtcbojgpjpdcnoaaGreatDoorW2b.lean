import Derived.Test.YtcbojgpjpdcnoaaGreatDoorW1
set_option maxRecDepth 1000000
namespace Go.Proofs.YtcbojgpjpdcnoaaGreatDoor
open Go Ax
theorem root_97_3 : retIs (u32 2554220882) (evF E0 100000 (.call 305 (rootArgs 97 3) (startAW 3))) = true := by decide +kernel
theorem root_101_3 : retIs (u32 2821834349) (evF E0 100000 (.call 305 (rootArgs 101 3) (startAW 3))) = true := by decide +kernel
theorem root_103_3 : retIs (u32 2952996808) (evF E0 100000 (.call 305 (rootArgs 103 3) (startAW 3))) = true := by decide +kernel
theorem root_107_3 : retIs (u32 3210313671) (evF E0 100000 (.call 305 (rootArgs 107 3) (startAW 3))) = true := by decide +kernel
theorem root_109_3 : retIs (u32 3336571891) (evF E0 100000 (.call 305 (rootArgs 109 3) (startAW 3))) = true := by decide +kernel
theorem root_113_3 : retIs (u32 3584528711) (evF E0 100000 (.call 305 (rootArgs 113 3) (startAW 3))) = true := by decide +kernel
theorem root_127_3 : retIs (u32 113926993) (evF E0 100000 (.call 305 (rootArgs 127 3) (startAW 3))) = true := by decide +kernel
theorem root_131_3 : retIs (u32 338241895) (evF E0 100000 (.call 305 (rootArgs 131 3) (startAW 3))) = true := by decide +kernel
theorem root_137_3 : retIs (u32 666307205) (evF E0 100000 (.call 305 (rootArgs 137 3) (startAW 3))) = true := by decide +kernel
theorem root_139_3 : retIs (u32 773529912) (evF E0 100000 (.call 305 (rootArgs 139 3) (startAW 3))) = true := by decide +kernel
theorem root_149_3 : retIs (u32 1294757372) (evF E0 100000 (.call 305 (rootArgs 149 3) (startAW 3))) = true := by decide +kernel
theorem root_151_3 : retIs (u32 1396182291) (evF E0 100000 (.call 305 (rootArgs 151 3) (startAW 3))) = true := by decide +kernel
theorem root_157_3 : retIs (u32 1695183700) (evF E0 100000 (.call 305 (rootArgs 157 3) (startAW 3))) = true := by decide +kernel
theorem root_163_3 : retIs (u32 1986661051) (evF E0 100000 (.call 305 (rootArgs 163 3) (startAW 3))) = true := by decide +kernel
theorem root_167_3 : retIs (u32 2177026350) (evF E0 100000 (.call 305 (rootArgs 167 3) (startAW 3))) = true := by decide +kernel
theorem root_173_3 : retIs (u32 2456956037) (evF E0 100000 (.call 305 (rootArgs 173 3) (startAW 3))) = true := by decide +kernel
theorem root_179_3 : retIs (u32 2730485921) (evF E0 100000 (.call 305 (rootArgs 179 3) (startAW 3))) = true := by decide +kernel
theorem root_181_3 : retIs (u32 2820302411) (evF E0 100000 (.call 305 (rootArgs 181 3) (startAW 3))) = true := by decide +kernel
theorem root_191_3 : retIs (u32 3259730800) (evF E0 100000 (.call 305 (rootArgs 191 3) (startAW 3))) = true := by decide +kernel
theorem root_193_3 : retIs (u32 3345764771) (evF E0 100000 (.call 305 (rootArgs 193 3) (startAW 3))) = true := by decide +kernel
theorem root_197_3 : retIs (u32 3516065817) (evF E0 100000 (.call 305 (rootArgs 197 3) (startAW 3))) = true := by decide +kernel
theorem root_199_3 : retIs (u32 3600352804) (evF E0 100000 (.call 305 (rootArgs 199 3) (startAW 3))) = true := by decide +kernel
theorem root_211_3 : retIs (u32 4094571909) (evF E0 100000 (.call 305 (rootArgs 211 3) (startAW 3))) = true := by decide +kernel
theorem root_223_3 : retIs (u32 275423344) (evF E0 100000 (.call 305 (rootArgs 223 3) (startAW 3))) = true := by decide +kernel
end Go.Proofs.YtcbojgpjpdcnoaaGreatDoor
