import Derived.Test.YtcbojgpjpdcnoaaGreatDoorW1
set_option maxRecDepth 1000000
namespace Go.Proofs.YtcbojgpjpdcnoaaGreatDoor
open Go Ax
theorem root_227_3 : retIs (u32 430227734) (evF E0 100000 (.call 305 (rootArgs 227 3) (startAW 3))) = true := by decide +kernel
theorem root_229_3 : retIs (u32 506948616) (evF E0 100000 (.call 305 (rootArgs 229 3) (startAW 3))) = true := by decide +kernel
theorem root_233_3 : retIs (u32 659060556) (evF E0 100000 (.call 305 (rootArgs 233 3) (startAW 3))) = true := by decide +kernel
theorem root_239_3 : retIs (u32 883997877) (evF E0 100000 (.call 305 (rootArgs 239 3) (startAW 3))) = true := by decide +kernel
theorem root_241_3 : retIs (u32 958139571) (evF E0 100000 (.call 305 (rootArgs 241 3) (startAW 3))) = true := by decide +kernel
theorem root_251_3 : retIs (u32 1322822218) (evF E0 100000 (.call 305 (rootArgs 251 3) (startAW 3))) = true := by decide +kernel
theorem root_257_3 : retIs (u32 1537002063) (evF E0 100000 (.call 305 (rootArgs 257 3) (startAW 3))) = true := by decide +kernel
theorem root_263_3 : retIs (u32 1747873779) (evF E0 100000 (.call 305 (rootArgs 263 3) (startAW 3))) = true := by decide +kernel
theorem root_269_3 : retIs (u32 1955562222) (evF E0 100000 (.call 305 (rootArgs 269 3) (startAW 3))) = true := by decide +kernel
theorem root_271_3 : retIs (u32 2024104815) (evF E0 100000 (.call 305 (rootArgs 271 3) (startAW 3))) = true := by decide +kernel
theorem root_277_3 : retIs (u32 2227730452) (evF E0 100000 (.call 305 (rootArgs 277 3) (startAW 3))) = true := by decide +kernel
theorem root_281_3 : retIs (u32 2361852424) (evF E0 100000 (.call 305 (rootArgs 281 3) (startAW 3))) = true := by decide +kernel
theorem root_283_3 : retIs (u32 2428436474) (evF E0 100000 (.call 305 (rootArgs 283 3) (startAW 3))) = true := by decide +kernel
theorem root_293_3 : retIs (u32 2756734187) (evF E0 100000 (.call 305 (rootArgs 293 3) (startAW 3))) = true := by decide +kernel
theorem root_307_3 : retIs (u32 3204031479) (evF E0 100000 (.call 305 (rootArgs 307 3) (startAW 3))) = true := by decide +kernel
theorem root_311_3 : retIs (u32 3329325298) (evF E0 100000 (.call 305 (rootArgs 311 3) (startAW 3))) = true := by decide +kernel
theorem root_2_2 : retIs (u32 1779033703) (evF E0 100000 (.call 305 (rootArgs 2 2) (startAW 3))) = true := by decide +kernel
theorem root_3_2 : retIs (u32 3144134277) (evF E0 100000 (.call 305 (rootArgs 3 2) (startAW 3))) = true := by decide +kernel
theorem root_5_2 : retIs (u32 1013904242) (evF E0 100000 (.call 305 (rootArgs 5 2) (startAW 3))) = true := by decide +kernel
theorem root_7_2 : retIs (u32 2773480762) (evF E0 100000 (.call 305 (rootArgs 7 2) (startAW 3))) = true := by decide +kernel
theorem root_11_2 : retIs (u32 1359893119) (evF E0 100000 (.call 305 (rootArgs 11 2) (startAW 3))) = true := by decide +kernel
theorem root_13_2 : retIs (u32 2600822924) (evF E0 100000 (.call 305 (rootArgs 13 2) (startAW 3))) = true := by decide +kernel
theorem root_17_2 : retIs (u32 528734635) (evF E0 100000 (.call 305 (rootArgs 17 2) (startAW 3))) = true := by decide +kernel
theorem root_19_2 : retIs (u32 1541459225) (evF E0 100000 (.call 305 (rootArgs 19 2) (startAW 3))) = true := by decide +kernel
end Go.Proofs.YtcbojgpjpdcnoaaGreatDoor
