/-
  LogicNamed of lyceumlaw09 returns true whatever the text is: the tied card. Conditions: none beyond the card's own (the listed package-level variables read as the program's text lays them).
-/
import Derived.Test.YtdlohhnonefolaaGreatDoorLgs
import Derived.Test.YtdlohhnonefolaaGreatDoorTie
import Derived.Test.YtdlohhnonefolaaGreatDoorCards
set_option linter.all false
namespace Go.Lyc.T
open Go.Lyc Go.RowKit Go.Proofs
set_option maxRecDepth 100000
variable [Tok] [TokOk]
theorem named_any (s : ByteArray) : ∃ a, (∀ (W : World) (m : Nat → Option Nat) (O : Nat → Prop) (B : Nat), R W m O B a (.string s)) ∧ EOk (3, [a], .b true) := by
  by_cases h : ∃ l ∈ lnL, s = strOf l
  · obtain ⟨l, hl, rfl⟩ := h
    refine ⟨.s l, fun W m O B => .s l fun c hc => ?_, nAll.mem _ (List.mem_map.2 ⟨l, hl, rfl⟩)⟩
    have hb : (lnL.all fun l => l.all fun c => decide (c < 256)) = true := by decide +kernel
    simp only [List.all_eq_true, decide_eq_true_eq] at hb
    exact hb l hl c hc
  · exact ⟨.sx lnL, fun W m O B => .sx fun e he hs => h ⟨e, he, hs⟩, n8⟩
end Go.Lyc.T
namespace Go.Proofs.YtdlohhnonefolaaGreatDoor
open Go Go.ChangeShapes Go.WideShapes Go.ChangeAt Go.RowKit Go.Lyc Go.Lyc.T
set_option maxRecDepth 100000
set_option maxHeartbeats 0
theorem own : ownKnob Tryz.prog.godebug = none := by kernel_rfl
theorem laid_met (os : Os) (args : Array Value) : laidMetH Tryz.prog T.laid ((World.laidAll Tryz.prog os T.laid).forCall (fun _ _ => 0) ⟨#[], args, []⟩).memory := by
  rw [MakeChecks.laidMetH_plain _ _ _ (by kernel_rfl)]
  exact laidMet_laidAll args (by kernel_rfl) (by kernel_rfl)
theorem globs [Go.Lyc.Tok] [Go.Lyc.TokOk] {W : World} (h : laidMetH Tryz.prog T.laid W) : Globs (T.base.env []) W W.heap.size := by
  rw [MakeChecks.laidMetH_plain _ _ _ (by kernel_rfl)] at h
  exact globs_of_laid h T.laidNames T.globL_ok rfl
theorem lifted (os : Os) (started : os.Started) (H : Type) (enc : TypeId × Value → H) :
    ReturnsInHanded {} Tryz.checked os 3 .any (fun w args => (Rows.logicNamedSpec.pre enc Tryz.prog Tryz.f3 [] false w args ∧ laidMetH Tryz.prog T.laid w) ∧ sizedMet enc Tryz.prog Tryz.f3 (OpenSpec.ofChange Rows.logicNamedSpec) false w args)
      (Rows.logicNamedSpec.post enc Tryz.prog Tryz.f3 false true false false) := by
  refine returnsInHanded_of_change_and (C := Tryz.checked) (X := fun w _ => laidMetH Tryz.prog T.laid w) (fun _ _ _ hh h => h.of_heap hh) own started (by kernel_rfl) Tryz.func3
    (ChangeSpec.witness_shaped (enc := enc) (C := Tryz.checked) (os := os) (X := fun w _ => laidMetH Tryz.prog T.laid w) false (World.laidAll Tryz.prog os T.laid) #[.string ⟨#[]⟩] 8 (World.laidAll_os _ _ _) (World.shaped_of_ZipB (by kernel_rfl) (by kernel_rfl)) (by kernel_rfl) (by kernel_rfl) (by kernel_rfl) (laid_met os _)) ?_
  intro W base args ds gs before hval0 hW _ _ hL _
  have hval : ∀ (j : Nat) t v, Tryz.f3.params[j]? = some t → args[j]? = some v → Value.okWide Tryz.prog W .any base t v := hval0
  have hW' := hW
  obtain ⟨p, q, hA0, hV, rfl, hfz, hnd⟩ := hW
  have hA : DataW.TrodAll enc Tryz.prog W 0 (fun _ => true) true Tryz.f3.params.toList args.toList ds p := hA0
  rw [Tryz.params3] at hA hval
  letI := tok0
  haveI := tok0_ok
  obtain ⟨v0, d0, rfl, rfl, h0⟩ := trodAll_one hA
  obtain ⟨s, rfl, rfl, rfl, hs⟩ := Go.ChangeMaps.open_string Tryz.underlying9 (hval 0 9 v0 rfl rfl) h0
  obtain ⟨rfl, rfl⟩ := trodVars_none hV
  simp only [List.append_nil, List.nil_append] at hW'
  obtain ⟨a, hR, hE⟩ := named_any s
  exact calls_true hE (globs hL) (.cons (hR _ _ _ _) .nil) rfl Tryz.underlying4 rfl rfl hW' (fun W' sp => trodAll_mk1 (Go.ChangeMaps.shut_string Tryz.underlying9 hs))
end Go.Proofs.YtdlohhnonefolaaGreatDoor
