/-
WorldNil (longshorelaw46) returns true for every input, and its arguments read behind the call as before: the tied card of the seat; no condition beyond the card's own.
-/
import Derived.Test.YtcbojgpjpdcnoaaGreatDoorW6
import Derived.Test.YtcbojgpjpdcnoaaGreatDoorW8
import Derived.Test.YtcbojgpjpdcnoaaGreatDoorW9
import Derived.Test.YtcbojgpjpdcnoaaGreatDoorW10
import Derived.Test.YtcbojgpjpdcnoaaGreatDoorW11
import Derived.Test.YtcbojgpjpdcnoaaGreatDoorTie
import Derived.Test.YtcbojgpjpdcnoaaGreatDoorCards
import Derived.ProofKit
import Derived.OpenShut
import Derived.ShutString
import Derived.ChangeOld
import Derived.Below
import Derived.LaidMore
import Derived.Lay
import Derived.SevenTiedAt
import Derived.Stop.Joined
namespace Go.Proofs.YtcbojgpjpdcnoaaGreatDoor
open Go.ChangeShapes Go.WideShapes Go.ChangeAt Go.RowKit

theorem own : ownKnob Tryz.prog.godebug = none := by kernel_rfl
theorem laidOut : laidOutB Tryz.prog = true := by kernel_rfl
abbrev laid : List (String × DataW Unit) := [("unicode/utf8.acceptRanges", Rows.laid_unicode_utf8_acceptRanges), ("unicode/utf8.first", Rows.laid_unicode_utf8_first)]

theorem size3 {W : World} (h : laidMetH Tryz.prog laid W) : 3 ≤ W.heap.size := by
  rw [MakeChecks.laidMetH_plain _ _ _ (by kernel_rfl)] at h
  obtain ⟨ps, ⟨g, t, cs, fuel, p, q, hg, ht, hv, hd, _, _⟩, _, _⟩ := h
  obtain rfl := Option.some.inj ((show Tryz.prog.globalNamed "unicode/utf8.acceptRanges" = some 2 by kernel_rfl).symm.trans hg)
  simp only [World.var?, hg, Option.bind_some] at hv
  split at hv
  · rename_i h1
    have := (Array.getElem?_eq_some_iff.1 h1).1
    omega
  · cases hv

theorem one_of_okWide {P : Program} {w : World} {r : Reach} {base : Nat} {t : TypeId} {v : Value} (h : Cell.okWide P w r base t v) : v.oneCell' = true := by
  unfold Cell.okWide at h
  cases v <;> first | rfl | skip
  all_goals
    split at h
    all_goals first | (rename_i h1 h2; cases h2; done) | skip
    unfold Cell.ok at h
    split at h
    all_goals first | (rename_i h1 h2; cases h2; done) | exact h.elim

theorem walk (a : Array Value) (x : Value) (w : World) (ha : a.size = 26) (h1 : ∀ (i : Nat) y, a[i]? = some y → y.oneCell' = true) (hw : 3 ≤ w.heap.size) :
    Calls Tryz.prog 3 #[.agg a, x] w fun e w' => e = .returned (.bool true) ∧ Below w.heap.size w w' := by
  obtain ⟨A', hr⟩ := Ax.retIs_some nil_run
  rw [Ax.evF_eq] at hr
  have hc : Ax.CallOk Tryz.prog E3 3 nilArgs (Ax.startAW 3) (.bool true) A' := Ax.ev_ok E3_ok E3_ext _ _ _ hr
  have hL : Ax.LRel (Ax.startCx 3) nilArgs [.agg a, x] := by
    refine ⟨rfl, fun i y z hy hz => ?_⟩
    rcases i with _ | _ | i
    · simp [nilArgs] at hy hz
      subst hy; subst hz
      refine .agg _ _ (by simp [ha]) (fun i u v hu _ => ?_) h1
      have : u = any := by
        have hu : (List.replicate 26 any)[i]? = some u := by simpa using hu
        exact (List.mem_replicate.1 (List.mem_of_getElem? hu)).2
      rw [this]
      exact .unk _ _
    · simp [nilArgs] at hy hz
      subst hy; subst hz
      exact .unk _ _
    · simp [nilArgs] at hy
  refine (callsIn_wide.1 (hc (Ax.startCx 3) w #[.agg a, x] (Ax.start_rel (by decide) hw) (fun b hb => ?_) hL (Ax.start_top 3))).mono ?_
  · have hb : b < 3 := hb
    unfold Ax.startCx
    simp only
    rw [if_pos hb]
  · rintro e w' ⟨v', rfl, cx', hst, hv⟩
    cases hv
    exact ⟨rfl, hst.os, hst.tape, hst.output, hst.size, fun k hk => hst.frame k hk fun b hb _ => Ax.start_get (by decide) hb⟩

set_option maxRecDepth 100000 in
theorem lifted (os : Os) (started : os.Started) (H : Type) (enc : TypeId × Value → H) :
    ReturnsInHanded {} Tryz.checked os 3 .any (fun w args => (Rows.worldNilSpec.pre enc Tryz.prog Tryz.f3 Rows.worldNilRow.domain false w args ∧ laidMetH Tryz.prog laid w) ∧ sizedMet enc Tryz.prog Tryz.f3 (OpenSpec.ofChange Rows.worldNilSpec) false w args)
      (Rows.worldNilSpec.post enc Tryz.prog Tryz.f3 false true false false) := by
  refine returnsInHanded_of_change_and (C := Tryz.checked) (X := fun w _ => laidMetH Tryz.prog laid w) (fun _ _ _ hh h => h.of_heap hh) own started (by kernel_rfl) Tryz.func3
    (ChangeSpec.witness_shaped (enc := enc) (C := Tryz.checked) (os := os) (X := fun w _ => laidMetH Tryz.prog laid w) false (World.laidAll Tryz.prog os laid) #[((Tryz.prog.info? 32).bind (·.zero)).getD default, .int .i64 0] 8 (World.laidAll_os _ _ _)
      (World.shaped_of_ZipB (by kernel_rfl) (by kernel_rfl)) (by kernel_rfl) (by kernel_rfl) (by kernel_rfl)
      (by rw [MakeChecks.laidMetH_plain _ _ _ (by kernel_rfl)]; exact laidMet_laidAll _ (by kernel_rfl) (by kernel_rfl))) ?_
  intro W base args ds gs before hval0 hW hc _ hLaid _
  have hval : ∀ (j : Nat) t v, Tryz.f3.params[j]? = some t → args[j]? = some v → Value.okWide Tryz.prog W .any base t v := hval0
  have hW' := hW
  obtain ⟨p, q, hA0, hV, rfl, _, _⟩ := hW
  have hA : DataW.TrodAll enc Tryz.prog W 0 (fun _ => true) true Tryz.f3.params.toList args.toList ds p := hA0
  rw [Tryz.params3] at hA hval
  obtain ⟨v0, v1, d0, d1, p0, p1, rfl, rfl, rfl, h0, h1⟩ := trodAll_two hA
  obtain ⟨rfl, rfl⟩ := trodVars_none hV
  have ok0 := hval 0 32 v0 rfl rfl
  simp only [Value.okWide, Tryz.underlying32] at ok0
  obtain ⟨a, rfl, ha, hrow⟩ := ok0
  rw [show Tryz.prog.cellsOf 32 = 26 by kernel_rfl] at ha
  have hone : ∀ (i : Nat) y, a[i]? = some y → y.oneCell' = true := fun i y hy => by
    obtain ⟨ts, _, _, hall⟩ := hrow
    obtain ⟨u, _, hu⟩ := hall i y hy
    exact one_of_okWide hu
  have lt0 : ∀ x ∈ p0, x.block < W.heap.size := by obtain ⟨m, hm⟩ := h0; exact DataW.trod_lt m _ _ _ hm
  have lt1 : ∀ x ∈ p1, x.block < W.heap.size := by obtain ⟨m, hm⟩ := h1; exact DataW.trod_lt m _ _ _ hm
  refine (walk a v1 W ha hone (size3 hLaid)).mono fun e W' ⟨he, bel⟩ => ?_
  subst he
  exact ⟨_, rfl, _, _, _, [], _, [], hW', trodAll_mk1 (shut_bool Tryz.underlying4 _), (trodAll_mk2 (Below.trod laidOut (by kernel_rfl) (of_decide_eq_true (by kernel_rfl)) h0 bel lt0) (Below.trod laidOut (by kernel_rfl) (of_decide_eq_true (by kernel_rfl)) h1 bel lt1)), rfl, bel.frame _, fun h => by cases h⟩

theorem row_holds : Rows.WorldNilSaid :=
  OpenClaim.holds_of_wide 3 Tryz.f3 rfl rfl rfl rfl rfl rfl rfl ⟨rfl, rfl, rfl, rfl, rfl⟩ rfl rfl rfl rfl rfl row_named Tryz.func3 joined row_inst row_wrapper
    (fun os started H enc _ => lifted os started H enc)

/-- THE STATEMENT -/
theorem worldNil_holds : Rows.WorldNilCardSaid :=
  Claim7.holds_tied_plain_at .later [] [.data, .pinned] true (true, "67f17695d655aa6f43e364c149968e7356bab5ae35bd16b380547549a854cbe8") false
    row_holds (fun _ h => by cases h) card_wf (fun _ h => by cases h) worldNil_row_tie rfl ⟨rfl, rfl⟩ card_main rfl
    (fun f fn hf hfn => by
      obtain rfl : f = 3 := (Option.some.inj (row_named.symm.trans hf)).symm
      obtain rfl : fn = Tryz.f3 := (Option.some.inj (Tryz.func3.symm.trans hfn)).symm
      exact ⟨card_looks, fun j t ht => by
        rw [Tryz.params3] at ht
        have h3 : t = 32 ∨ t = 3 := by
          rcases j with _ | _ | j
          · exact .inl (by simpa using ht.symm)
          · exact .inr (by simpa using ht.symm)
          · simp at ht
        rcases h3 with rfl | rfl
        · exact card_wants32
        · exact card_wants3⟩)
    card_goes
end Go.Proofs.YtcbojgpjpdcnoaaGreatDoor
