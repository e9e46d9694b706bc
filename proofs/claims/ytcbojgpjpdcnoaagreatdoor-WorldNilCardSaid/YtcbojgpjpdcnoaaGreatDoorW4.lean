import Derived.Test.YtcbojgpjpdcnoaaGreatDoorW3
set_option maxRecDepth 1000000
namespace Go.Proofs.YtcbojgpjpdcnoaaGreatDoor
open Go Ax
theorem constants_run : retIs konst (evF E1 100000 (.call 306 [] (startAW 3))) = true := by decide +kernel
def tab2 : List (Nat × List (List V × V)) := [(306, [([], konst)])]
noncomputable def E2 : Env := E1.tab tab2
theorem tab2_ok : TabOk Tryz.prog E1 tab2 := fun x hx y hy => by
  obtain rfl := List.mem_singleton.1 hx
  obtain rfl := List.mem_singleton.1 hy
  exact closed_run E1_ok E1_ext constants_run rfl (by decide +kernel) rfl (by decide)
theorem E2_ok : EnvOk Tryz.prog E2 := E1_ok.tab _
theorem E2_ext : ExtOk Tryz.prog E2 := E1_ext.tab tab2_ok
end Go.Proofs.YtcbojgpjpdcnoaaGreatDoor
