/-
  LogicFits of lyceumlaw09 returns true whatever the bytes, the byte and the flag are: the tied card. Conditions: none beyond the card's own (the listed package-level variables read as the program's text lays them).
-/
import Derived.Test.YtepnpmoabkhboaaGreatDoorLgs
import Derived.Test.YtepnpmoabkhboaaGreatDoorTie
import Derived.Test.YtepnpmoabkhboaaGreatDoorCards
import Derived.Carry
set_option linter.all false
namespace Go.Lyc.T
open Go.Lyc Go.RowKit Go.Proofs
end Go.Lyc.T
namespace Go.Proofs.YtepnpmoabkhboaaGreatDoor
open Go Go.ChangeShapes Go.WideShapes Go.ChangeAt Go.RowKit Go.Lyc Go.Lyc.T
set_option maxRecDepth 100000
set_option maxHeartbeats 0
theorem own : ownKnob Tryz.prog.godebug = none := by kernel_rfl
theorem laid_met (os : Os) (args : Array Value) : laidMetH Tryz.prog T.laid ((World.laidAll Tryz.prog os T.laid).forCall (λ_ _ => 0) ⟨#[], args, []⟩).memory := by
  rw [MakeChecks.laidMetH_plain _ _ _ (by kernel_rfl)];exact laidMet_laidAll args (by kernel_rfl) (by kernel_rfl)
theorem globs [Go.Lyc.Tok] [Go.Lyc.TokOk] {W : World} (h : laidMetH Tryz.prog T.laid W) : Globs (T.base.env []) W W.heap.size := by
  rw [MakeChecks.laidMetH_plain _ _ _ (by kernel_rfl)] at h;exact globs_of_laid h T.laidNames T.globL_ok rfl
theorem laidOut : laidOutB Tryz.prog = true := by kernel_rfl
theorem lifted (os : Os) (started : os.Started) (H : Type) (enc : TypeId × Value->H) :
    ReturnsInHanded {} Tryz.checked os 3 .any (λw args => (Rows.logicFitsSpec.pre enc Tryz.prog Tryz.f3 [] false w args ∧ laidMetH Tryz.prog T.laid w) ∧ sizedMet enc Tryz.prog Tryz.f3 (OpenSpec.ofChange Rows.logicFitsSpec) false w args)
      (Rows.logicFitsSpec.post enc Tryz.prog Tryz.f3 false true false false) := by
  refine returnsInHanded_of_change_and (C := Tryz.checked) (X := λw _ => laidMetH Tryz.prog T.laid w) (λ_ _ _ hh h => h.of_heap hh) own started (by kernel_rfl) Tryz.func3
    (ChangeSpec.witness_shaped (enc := enc) (C := Tryz.checked) (os := os) (X := λw _ => laidMetH Tryz.prog T.laid w) false (World.laidAll Tryz.prog os T.laid) #[.slice none 0 0, .int .u8 0, .bool false] 8 (World.laidAll_os _ _ _) (World.shaped_of_ZipB (by kernel_rfl) (by kernel_rfl)) (by kernel_rfl) (by kernel_rfl) (by kernel_rfl) (laid_met os _)) ?_
  intro W base args ds gs before hval0 hW _ _ hL _;have hval : ∀ (j : Nat) t v, Tryz.f3.params[j]? = some t->args[j]? = some v->Value.okWide Tryz.prog W .any base t v := hval0;have hW' := hW;obtain ⟨p, q, hA0, hV, rfl, hfz, hnd⟩ := hW;have hA : DataW.TrodAll enc Tryz.prog W 0 (λ_ => true) true Tryz.f3.params.toList args.toList ds p := hA0;rw [Tryz.params3] at hA hval;obtain ⟨v0, v1, v2, d0, d1, d2, p0, p1, p2, rfl, rfl, rfl, h0, h1, h2⟩ := trodAll_three hA;obtain ⟨x, rfl, rfl, rfl, wx⟩ := open_int Tryz.underlying5 (hval 1 5 v1 rfl rfl) h1;obtain ⟨bb, rfl, rfl, rfl⟩ := open_bool Tryz.underlying4 (hval 2 4 v2 rfl rfl) h2;obtain ⟨o, hR, ho, _⟩ := @bytes_R (tokF λ_ => falF) _ _ _ _ _ _ _ _ _ _ Tryz.underlying22 Tryz.underlying5 (by kernel_rfl) (hval 0 22 v0 rfl rfl) h0
  letI : Go.Lyc.Tok := tokF (pOf (cond bb (builtF (o.getD [])).strip (builtF (o.getD []))))
  haveI : Go.Lyc.TokOk := tokF_ok _
  obtain ⟨rfl, rfl⟩ := trodVars_none hV;clear hA0 hval0;simp only [List.append_nil] at hW';have hlt : ∀ x ∈ p0, x.block < W.heap.size := λx hx => hW'.lt x (by simpa using hx);exact calls_trueS (law_any ho bb x.toNat (tokF_p _)) (globs hL) (.cons (bytes_tok o hR) (.cons (byte_um wx) (.cons (.b bb) .nil))) rfl Tryz.underlying4 rfl rfl hW' (λW' hb => trodAll_mk3 (Below.trod laidOut (by kernel_rfl) (of_decide_eq_true (by kernel_rfl)) h0 hb hlt) (shut_int Tryz.underlying5 wx) (shut_bool Tryz.underlying4 bb))
end Go.Proofs.YtepnpmoabkhboaaGreatDoor
