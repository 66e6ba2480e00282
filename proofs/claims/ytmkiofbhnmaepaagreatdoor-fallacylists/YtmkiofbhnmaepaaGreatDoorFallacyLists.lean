/-
  FallacyLists of lyceumlaw28 returns true whatever the logic and the name are: the tied card. Conditions: none beyond the card's own (the listed package-level variables read as the program's text lays them).
-/
import Derived.Test.YtmkiofbhnmaepaaGreatDoorLgs
import Derived.Test.YtmkiofbhnmaepaaGreatDoorTie
import Derived.Test.YtmkiofbhnmaepaaGreatDoorCards
import Derived.SizedLaws
import Derived.Carry
set_option linter.all false
namespace Go.Lyc.T
open Go.Lyc Go.RowKit Go.Proofs
set_option maxRecDepth 100000
theorem lf (l : Lgc) (h : l.ok) : letI := tokL l (ptN l pats); ∀ nm ∈ nmA, EOk (3, [.ag (lgC l), nm], .b true) := lawFL (b := baseZ) (b' := base) rfl baseZ_ok (by letI := tok0; haveI := tok0_ok; exact fQ) (by intro _ _; exact gQ) gL l h
end Go.Lyc.T
namespace Go.Proofs.YtmkiofbhnmaepaaGreatDoor
open Go Go.ChangeShapes Go.WideShapes Go.ChangeAt Go.RowKit Go.Lyc Go.Lyc.T
set_option maxRecDepth 100000
set_option maxHeartbeats 0
theorem own : ownKnob Tryz.prog.godebug = none := by kernel_rfl
theorem laid_met (os : Os) (args : Array Value) : laidMetH Tryz.prog T.laid ((World.laidAll Tryz.prog os T.laid).forCall (fun _ _ => 0) ⟨#[], args, []⟩).memory := by
  rw [MakeChecks.laidMetH_plain _ _ _ (by kernel_rfl)];exact laidMet_laidAll args (by kernel_rfl) (by kernel_rfl)
theorem globs [Go.Lyc.Tok] [Go.Lyc.TokOk] {W : World} (h : laidMetH Tryz.prog T.laid W) : Globs (T.base.env []) W W.heap.size := by
  rw [MakeChecks.laidMetH_plain _ _ _ (by kernel_rfl)] at h;exact globs_of_laid h T.laidNames T.globL_ok rfl
theorem laidOut : laidOutB Tryz.prog = true := by kernel_rfl
theorem fty : FTy Tryz.prog 4 9 5 91 33 35 32 where
  b := Tryz.underlying4
  s := Tryz.underlying9
  u := Tryz.underlying5
  ts := Tryz.underlying33
  fs := Tryz.underlying32
  cb := by kernel_rfl
  cs := by kernel_rfl
  cu := by kernel_rfl
  cts := by kernel_rfl
  cfs := by kernel_rfl
  ct := by kernel_rfl
  cf := by kernel_rfl
  bt := of_decide_eq_true (by kernel_rfl)
  bf := of_decide_eq_true (by kernel_rfl)
  t := ⟨_, _, _, Tryz.underlying91, ⟨rfl, rfl⟩, ⟨rfl, rfl⟩, rfl, rfl⟩
  f := ⟨_, _, _, _, Tryz.underlying35, ⟨rfl, rfl⟩, ⟨rfl, rfl⟩, ⟨rfl, rfl⟩, rfl, rfl⟩
theorem lty : LTy Tryz.prog 4 9 5 91 33 35 32 22 80 56 58 23 25 where
  f := fty
  m := Tryz.underlying22
  cm := by kernel_rfl
  ps := Tryz.underlying56
  cps := by kernel_rfl
  cp := by kernel_rfl
  bp := of_decide_eq_true (by kernel_rfl)
  rs := Tryz.underlying23
  crs := by kernel_rfl
  cr := by kernel_rfl
  br := of_decide_eq_true (by kernel_rfl)
  cl := by kernel_rfl
  p := ⟨_, _, _, _, Tryz.underlying80, ⟨rfl, rfl⟩, ⟨rfl, rfl⟩, ⟨rfl, rfl⟩, rfl, rfl⟩
  r := ⟨_, _, _, Tryz.underlying58, ⟨rfl, rfl⟩, ⟨rfl, rfl⟩, rfl, rfl⟩
  l := ⟨_, _, _, _, _, Tryz.underlying25, ⟨rfl, rfl⟩, ⟨rfl, rfl⟩, ⟨rfl, rfl⟩, ⟨rfl, rfl⟩, rfl, rfl⟩
theorem lifted (os : Os) (started : os.Started) (H : Type) (enc : TypeId × Value → H) :
    ReturnsInHanded {} Tryz.checked os 3 .any (fun w args => (Rows.fallacyListsSpec.pre enc Tryz.prog Tryz.f3 [] false w args ∧ laidMetH Tryz.prog T.laid w) ∧ sizedMet enc Tryz.prog Tryz.f3 (OpenSpec.ofChange Rows.fallacyListsSpec) false w args)
      (Rows.fallacyListsSpec.post enc Tryz.prog Tryz.f3 false true false false) := by
  refine returnsInHanded_of_change_and (C := Tryz.checked) (X := fun w _ => laidMetH Tryz.prog T.laid w) (fun _ _ _ hh h => h.of_heap hh) own started (by kernel_rfl) Tryz.func3
    (ChangeSpec.witness_shaped (enc := enc) (C := Tryz.checked) (os := os) (X := fun w _ => laidMetH Tryz.prog T.laid w) false (World.laidAll Tryz.prog os T.laid) #[.agg #[.string ⟨#[]⟩, .int .u32 0, .int .u8 0, .int .u8 0, .slice none 0 0], .string ⟨#[]⟩] 8 (World.laidAll_os _ _ _) (World.shaped_of_ZipB (by kernel_rfl) (by kernel_rfl)) (by kernel_rfl) (by kernel_rfl) (by kernel_rfl) (laid_met os _)) ?_
  intro W base args ds gs before hval0 hW _ hwt hL _;have hval : ∀ (j : Nat) t v, Tryz.f3.params[j]? = some t → args[j]? = some v → Value.okWide Tryz.prog W .any base t v := hval0;have hW' := hW;obtain ⟨p, q, hA0, hV, rfl, hfz, hnd⟩ := hW;have hA : DataW.TrodAll enc Tryz.prog W 0 (fun _ => true) true Tryz.f3.params.toList args.toList ds p := hA0;rw [Tryz.params3] at hA hval hwt;obtain ⟨v0, v1, d0, d1, p0, p1, rfl, rfl, rfl, h0, h1⟩ := trodAll_two hA;obtain ⟨s, rfl, rfl, rfl, hs⟩ := Go.ChangeMaps.open_string Tryz.underlying9 (hval 1 9 v1 rfl rfl) h1;obtain ⟨f0, hf0⟩ := h0;obtain ⟨l, hR0, hl0', hc0, hp⟩ := logic_R lty f0 _ _ hf0;have hok := hp fun n hn => of_decide_eq_true (List.all_eq_true.1 hwt n (DataW.weights_mem_each (j := 0) (t := 25) rfl rfl n hn))
  letI := tokL l (ptN l pats)
  haveI := tokL_ok l (ptN l pats)
  obtain ⟨rfl, rfl⟩ := trodVars_none hV;simp only [List.append_nil, List.nil_append] at hW';have hl0 : ∀ x ∈ p0, x.block < W.heap.size := fun x hx => hW'.lt x (by simpa using hx);have r0 := agg_R hR0 (by rw [hl0']; decide) hc0;obtain ⟨nm, hnm, r1⟩ := nm_R (w := W) (O := fun _ => False) (B := W.heap.size) s;exact calls_trueS (lf l hok nm hnm) (globs hL) (.cons r0 (.cons r1 .nil)) rfl Tryz.underlying4 rfl rfl hW' (fun W' hb => trodAll_mk2 (Below.trod laidOut (by kernel_rfl) (of_decide_eq_true (by kernel_rfl)) ⟨f0, hf0⟩ hb hl0) (Go.ChangeMaps.shut_string Tryz.underlying9 hs))

end Go.Proofs.YtmkiofbhnmaepaaGreatDoor
