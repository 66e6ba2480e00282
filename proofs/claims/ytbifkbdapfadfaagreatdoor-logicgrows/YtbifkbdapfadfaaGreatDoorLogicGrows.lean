/-
  LogicGrows of lyceumlaw09 returns true whatever the bytes and the flag are: the tied card. Conditions: none beyond the card's own (the listed package-level variables read as the program's text lays them).
-/
import Derived.Test.YtbifkbdapfadfaaGreatDoorHlg
import Derived.Test.YtbifkbdapfadfaaGreatDoorHard
import Derived.Test.YtbifkbdapfadfaaGreatDoorTie
import Derived.Test.YtbifkbdapfadfaaGreatDoorCards
set_option linter.all false
namespace Go.Lyc.T
open Go.Lyc
theorem lf (o : Option (List Nat)) (ho : ∀ c ∈ o.getD [], c < 256) (bare : Bool) : EOk (4, [bytesA o, .b bare], .b true) := grows o ho bare
end Go.Lyc.T
namespace Go.Proofs.YtbifkbdapfadfaaGreatDoor
open Go Go.ChangeShapes Go.WideShapes Go.ChangeAt Go.RowKit Go.Lyc Go.Lyc.T
set_option maxRecDepth 100000
set_option maxHeartbeats 0
theorem own : ownKnob Tryz.prog.godebug = none := by kernel_rfl
theorem laid_met (os : Os) (args : Array Value) : laidMetH Tryz.prog T.laid ((World.laidAll Tryz.prog os T.laid).forCall (fun _ _ => 0) ⟨#[], args, []⟩).memory := by
  rw [MakeChecks.laidMetH_plain _ _ _ (by kernel_rfl)]
  exact laidMet_laidAll args (by kernel_rfl) (by kernel_rfl)
theorem globs {W : World} (h : laidMetH Tryz.prog T.laid W) : Globs (T.base.env []) W W.heap.size := by
  rw [MakeChecks.laidMetH_plain _ _ _ (by kernel_rfl)] at h
  exact globs_of_laid h T.laidNames T.globL_ok rfl
theorem laidOut : laidOutB Tryz.prog = true := by kernel_rfl
theorem lifted (os : Os) (started : os.Started) (H : Type) (enc : TypeId × Value → H) :
    ReturnsInHanded {} Tryz.checked os 4 .any (fun w args => (Rows.logicGrowsSpec.pre enc Tryz.prog Tryz.f4 [] false w args ∧ laidMetH Tryz.prog T.laid w) ∧ sizedMet enc Tryz.prog Tryz.f4 (OpenSpec.ofChange Rows.logicGrowsSpec) false w args)
      (Rows.logicGrowsSpec.post enc Tryz.prog Tryz.f4 false true false false) := by
  refine returnsInHanded_of_change_and (C := Tryz.checked) (X := fun w _ => laidMetH Tryz.prog T.laid w) (fun _ _ _ hh h => h.of_heap hh) own started (by kernel_rfl) Tryz.func4
    (ChangeSpec.witness_shaped (enc := enc) (C := Tryz.checked) (os := os) (X := fun w _ => laidMetH Tryz.prog T.laid w) false (World.laidAll Tryz.prog os T.laid) #[.slice none 0 0, .bool false] 8 (World.laidAll_os _ _ _) (World.shaped_of_ZipB (by kernel_rfl) (by kernel_rfl)) (by kernel_rfl) (by kernel_rfl) (by kernel_rfl) (laid_met os _)) ?_
  intro W base args ds gs before hval0 hW _ _ hL _
  have hval : ∀ (j : Nat) t v, Tryz.f4.params[j]? = some t → args[j]? = some v → Value.okWide Tryz.prog W .any base t v := hval0
  have hW' := hW
  obtain ⟨p, q, hA0, hV, rfl, hfz, hnd⟩ := hW
  have hA : DataW.TrodAll enc Tryz.prog W 0 (fun _ => true) true Tryz.f4.params.toList args.toList ds p := hA0
  rw [Tryz.params4] at hA hval
  obtain ⟨v0, v1, d0, d1, p0, p1, rfl, rfl, rfl, h0, h1⟩ := trodAll_two hA
  obtain ⟨bb, rfl, rfl, rfl⟩ := open_bool Tryz.underlying4 (hval 1 4 v1 rfl rfl) h1
  obtain ⟨o, hR, ho⟩ := bytes_R Tryz.underlying42 Tryz.underlying5 (by kernel_rfl) (hval 0 42 v0 rfl rfl) h0
  obtain ⟨rfl, rfl⟩ := trodVars_none hV
  clear hA0 hval0
  simp only [List.append_nil] at hW'
  have hlt : ∀ x ∈ p0, x.block < W.heap.size := fun x hx => hW'.lt x hx
  exact calls_trueS (lf o ho bb) (globs hL) (.cons hR (.cons (.b bb) .nil)) rfl Tryz.underlying4 rfl rfl hW' (fun W' hb => trodAll_mk2 (Below.trod laidOut (by kernel_rfl) (of_decide_eq_true (by kernel_rfl)) h0 hb hlt) (shut_bool Tryz.underlying4 bb))
end Go.Proofs.YtbifkbdapfadfaaGreatDoor
