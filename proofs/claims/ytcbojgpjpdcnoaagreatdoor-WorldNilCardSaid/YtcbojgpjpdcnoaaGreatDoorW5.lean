import Derived.Test.YtcbojgpjpdcnoaaGreatDoorW4
set_option maxRecDepth 1000000
namespace Go.Proofs.YtcbojgpjpdcnoaaGreatDoor
open Go Ax
def bytes (l : List Nat) : V := .string ⟨⟨l.map UInt8.ofNat⟩⟩
def text1 : V := bytes [105, 109, 97, 103, 101, 58, 32, 105, 10, 110, 101, 116, 119, 111, 114, 107, 115, 58, 10, 32, 32, 100, 101, 102, 97, 117, 108, 116, 58, 32, 110, 117, 108, 108, 10]
def hash1 : V := bytes [102, 100, 56, 48, 55, 101, 55, 57, 52, 97, 102, 102, 99, 100, 101, 51, 56, 99, 57, 49, 48, 53, 99, 51, 57, 49, 52, 97, 101, 56, 55, 55, 102, 102, 101, 50, 56, 100, 49, 54, 102, 57, 48, 100, 57, 56, 98, 102, 100, 102, 52, 48, 102, 101, 102, 101, 100, 97, 102, 54, 55, 55, 50, 55]
theorem print_run : retIs hash1 (evF E2 100000 (.call 148 [text1] (startAW 3))) = true := by decide +kernel
def tab3 : List (Nat × List (List V × V)) := [(148, [([text1], hash1)])]
noncomputable def E3 : Env := E2.tab tab3
theorem tab3_ok : TabOk Tryz.prog E2 tab3 := fun x hx y hy => by
  obtain rfl := List.mem_singleton.1 hx
  obtain rfl := List.mem_singleton.1 hy
  exact closed_run E2_ok E2_ext print_run rfl rfl rfl (by decide)
theorem E3_ok : EnvOk Tryz.prog E3 := E2_ok.tab _
theorem E3_ext : ExtOk Tryz.prog E3 := E2_ext.tab tab3_ok
end Go.Proofs.YtcbojgpjpdcnoaaGreatDoor
