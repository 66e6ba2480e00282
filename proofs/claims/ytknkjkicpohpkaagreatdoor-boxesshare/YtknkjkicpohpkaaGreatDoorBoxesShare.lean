/-
  BoxesShare of lyceumlaw21 returns true whatever the byte is: the tied card. Conditions: none beyond the card's own (the listed package-level variables read as the program's text lays them).
-/
import Derived.Test.YtknkjkicpohpkaaGreatDoorMemo6
import Derived.Test.YtknkjkicpohpkaaGreatDoorCard
import Derived.Test.YtknkjkicpohpkaaGreatDoorTie
import Derived.Test.YtknkjkicpohpkaaGreatDoorCards
set_option linter.all false
namespace Go.Lyc.T
open Go.Lyc
noncomputable def bsL : List (Nat × List AV × AV) := [e297, e308, e313, e317, e321, e325, e329, e333, e337, e341, e345, e349, e353, e356, e359, e362, e365, e368, e371, e374, e377]
theorem bsL_ok : AllOk bsL := ⟨t297, t308, t313, t317, t321, t325, t329, t333, t337, t341, t345, t349, t353, t356, t359, t362, t365, t368, t371, t374, t377, trivial⟩
theorem bsL_eq : bsL = (List.range 21).map fun j => (3, [.um .u8 21 j], .b true) := by kernel_rfl
theorem bs (x : Nat) : EOk (3, [.um .u8 21 (x % 21)], .b true) := by
  refine bsL_ok.mem _ ?_
  rw [bsL_eq]
  exact List.mem_map.2 ⟨x % 21, List.mem_range.2 (Nat.mod_lt _ (by decide)), rfl⟩
end Go.Lyc.T
namespace Go.Proofs.YtknkjkicpohpkaaGreatDoor
open Go Go.ChangeShapes Go.WideShapes Go.ChangeAt Go.RowKit Go.Lyc Go.Lyc.T
set_option maxRecDepth 100000
set_option maxHeartbeats 0
theorem own : ownKnob Tryz.prog.godebug = none := by kernel_rfl
theorem laid_met (os : Os) (args : Array Value) : laidMetH Tryz.prog T.laid ((World.laidAll Tryz.prog os T.laid).forCall (fun _ _ => 0) ⟨#[], args, []⟩).memory := by
  rw [MakeChecks.laidMetH_plain _ _ _ (by kernel_rfl)]
  exact laidMet_laidAll args (by kernel_rfl) (by kernel_rfl)
theorem globs {W : World} (h : laidMetH Tryz.prog T.laid W) : Globs (T.base.env []) W W.heap.size := by
  rw [MakeChecks.laidMetH_plain _ _ _ (by kernel_rfl)] at h
  exact globs_of_laid h T.laidNames T.globL_ok rfl
theorem lifted (os : Os) (started : os.Started) (H : Type) (enc : TypeId × Value → H) :
    ReturnsInHanded {} Tryz.checked os 3 .any (fun w args => (Rows.boxesShareSpec.pre enc Tryz.prog Tryz.f3 [] false w args ∧ laidMetH Tryz.prog T.laid w) ∧ sizedMet enc Tryz.prog Tryz.f3 (OpenSpec.ofChange Rows.boxesShareSpec) false w args)
      (Rows.boxesShareSpec.post enc Tryz.prog Tryz.f3 false true false false) := by
  refine returnsInHanded_of_change_and (C := Tryz.checked) (X := fun w _ => laidMetH Tryz.prog T.laid w) (fun _ _ _ hh h => h.of_heap hh) own started (by kernel_rfl) Tryz.func3
    (ChangeSpec.witness_shaped (enc := enc) (C := Tryz.checked) (os := os) (X := fun w _ => laidMetH Tryz.prog T.laid w) false (World.laidAll Tryz.prog os T.laid) #[.int .u8 0] 8 (World.laidAll_os _ _ _) (World.shaped_of_ZipB (by kernel_rfl) (by kernel_rfl)) (by kernel_rfl) (by kernel_rfl) (by kernel_rfl) (laid_met os _)) ?_
  intro W base args ds gs before hval0 hW _ _ hL _
  have hval : ∀ (j : Nat) t v, Tryz.f3.params[j]? = some t → args[j]? = some v → Value.okWide Tryz.prog W .any base t v := hval0
  have hW' := hW
  obtain ⟨p, q, hA0, hV, rfl, hfz, hnd⟩ := hW
  have hA : DataW.TrodAll enc Tryz.prog W 0 (fun _ => true) true Tryz.f3.params.toList args.toList ds p := hA0
  rw [Tryz.params3] at hA hval
  obtain ⟨v0, d0, rfl, rfl, h0⟩ := trodAll_one hA
  obtain ⟨x, rfl, rfl, rfl, wx⟩ := open_int Tryz.underlying5 (hval 0 5 v0 rfl rfl) h0
  obtain ⟨rfl, rfl⟩ := trodVars_none hV
  clear hA0 hval0
  simp only [List.append_nil] at hW'
  exact calls_true (bs x.toNat) (globs hL) (.cons (byte_um wx) .nil) rfl Tryz.underlying4 rfl rfl hW' (fun W' sp => trodAll_mk1 (shut_int Tryz.underlying5 wx))
end Go.Proofs.YtknkjkicpohpkaaGreatDoor
