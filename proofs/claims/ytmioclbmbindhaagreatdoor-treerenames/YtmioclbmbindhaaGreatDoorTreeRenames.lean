/-
  TreeRenames of lyceumlaw16 returns true whatever the two proofs and the label are: the tied card. Conditions: none beyond the card's own (the listed package-level variables read as the program's text lays them).
-/
import Derived.Test.YtmioclbmbindhaaGreatDoorLgs
import Derived.Test.YtmioclbmbindhaaGreatDoorTie
import Derived.Test.YtmioclbmbindhaaGreatDoorCards
import Derived.SizedLaws
import Derived.Carry
set_option linter.all false
namespace Go.Lyc.T
open Go.Lyc Go.RowKit Go.Proofs
set_option maxRecDepth 100000
variable [Tok] [TokOk]
theorem lf {p q : Prf} (n : Int) (hp : p.ok) (hq : q.ok) : EOk (3, [.ag (prC true p), .ag (prC true q), zI n], .b true) := lawTR base_ok fB fC fE (by kernel_rfl) gAw n hp hq
end Go.Lyc.T
namespace Go.Proofs.YtmioclbmbindhaaGreatDoor
open Go Go.ChangeShapes Go.WideShapes Go.ChangeAt Go.RowKit Go.Lyc Go.Lyc.T
set_option maxRecDepth 100000
set_option maxHeartbeats 0
theorem own : ownKnob Tryz.prog.godebug = none := by kernel_rfl
theorem laid_met (os : Os) (args : Array Value) : laidMetH Tryz.prog T.laid ((World.laidAll Tryz.prog os T.laid).forCall (fun _ _ => 0) ⟨#[], args, []⟩).memory := by
  rw [MakeChecks.laidMetH_plain _ _ _ (by kernel_rfl)];exact laidMet_laidAll args (by kernel_rfl) (by kernel_rfl)
theorem globs [Go.Lyc.Tok] [Go.Lyc.TokOk] {W : World} (h : laidMetH Tryz.prog T.laid W) : Globs (T.base.env []) W W.heap.size := by
  rw [MakeChecks.laidMetH_plain _ _ _ (by kernel_rfl)] at h;exact globs_of_laid h T.laidNames T.globL_ok rfl
theorem laidOut : laidOutB Tryz.prog = true := by kernel_rfl
theorem fty : FTy Tryz.prog 4 9 5 152 22 25 23 where
  b := Tryz.underlying4
  s := Tryz.underlying9
  u := Tryz.underlying5
  ts := Tryz.underlying22
  fs := Tryz.underlying23
  cb := by kernel_rfl
  cs := by kernel_rfl
  cu := by kernel_rfl
  cts := by kernel_rfl
  cfs := by kernel_rfl
  ct := by kernel_rfl
  cf := by kernel_rfl
  bt := of_decide_eq_true (by kernel_rfl)
  bf := of_decide_eq_true (by kernel_rfl)
  t := ⟨_, _, _, Tryz.underlying152, ⟨rfl, rfl⟩, ⟨rfl, rfl⟩, rfl, rfl⟩
  f := ⟨_, _, _, _, Tryz.underlying25, ⟨rfl, rfl⟩, ⟨rfl, rfl⟩, ⟨rfl, rfl⟩, rfl, rfl⟩
theorem pty : PTy Tryz.prog 4 9 5 152 22 25 23 3 54 27 29 26 where
  f := fty
  i := Tryz.underlying3
  ci := by kernel_rfl
  bi := of_decide_eq_true (by kernel_rfl)
  is := Tryz.underlying54
  cis := by kernel_rfl
  bis := of_decide_eq_true (by kernel_rfl)
  ms := Tryz.underlying27
  cms := by kernel_rfl
  ps := Tryz.underlying26
  cps := by kernel_rfl
  cp := by kernel_rfl
  bp := of_decide_eq_true (by kernel_rfl)
  p := ⟨_, _, _, _, _, Tryz.underlying29, ⟨rfl, rfl⟩, ⟨rfl, rfl⟩, ⟨rfl, rfl⟩, ⟨rfl, rfl⟩, rfl, rfl⟩
theorem lifted (os : Os) (started : os.Started) (H : Type) (enc : TypeId × Value → H) :
    ReturnsInHanded {} Tryz.checked os 3 .any (fun w args => (Rows.treeRenamesSpec.pre enc Tryz.prog Tryz.f3 [] false w args ∧ laidMetH Tryz.prog T.laid w) ∧ sizedMet enc Tryz.prog Tryz.f3 (OpenSpec.ofChange Rows.treeRenamesSpec) false w args)
      (Rows.treeRenamesSpec.post enc Tryz.prog Tryz.f3 false true false false) := by
  refine returnsInHanded_of_change_and (C := Tryz.checked) (X := fun w _ => laidMetH Tryz.prog T.laid w) (fun _ _ _ hh h => h.of_heap hh) own started (by kernel_rfl) Tryz.func3
    (ChangeSpec.witness_shaped (enc := enc) (C := Tryz.checked) (os := os) (X := fun w _ => laidMetH Tryz.prog T.laid w) false (World.laidAll Tryz.prog os T.laid) #[.agg #[.string ⟨#[]⟩, .int .u8 0, .string ⟨#[]⟩, .slice none 0 0, .slice none 0 0, .int .i64 0, .slice none 0 0, .slice none 0 0], .agg #[.string ⟨#[]⟩, .int .u8 0, .string ⟨#[]⟩, .slice none 0 0, .slice none 0 0, .int .i64 0, .slice none 0 0, .slice none 0 0], .int .i64 0] 8 (World.laidAll_os _ _ _) (World.shaped_of_ZipB (by kernel_rfl) (by kernel_rfl)) (by kernel_rfl) (by kernel_rfl) (by kernel_rfl) (laid_met os _)) ?_
  intro W base args ds gs before hval0 hW _ hwt hL _;have hval : ∀ (j : Nat) t v, Tryz.f3.params[j]? = some t → args[j]? = some v → Value.okWide Tryz.prog W .any base t v := hval0;have hW' := hW;obtain ⟨p, q, hA0, hV, rfl, hfz, hnd⟩ := hW;have hA : DataW.TrodAll enc Tryz.prog W 0 (fun _ => true) true Tryz.f3.params.toList args.toList ds p := hA0;rw [Tryz.params3] at hA hval hwt
  letI := tok0
  haveI := tok0_ok
  obtain ⟨v0, v1, v2, d0, d1, d2, p0, p1, p2, rfl, rfl, rfl, h0, h1, h2⟩ := trodAll_three hA;obtain ⟨n2, e2, _, _, _⟩ := open_int Tryz.underlying3 (hval 2 3 v2 rfl rfl) h2;obtain ⟨f0, hf0⟩ := h0;obtain ⟨f1, hf1⟩ := h1;obtain ⟨f2, hf2⟩ := h2;obtain ⟨p', hR0, hl0', hc0, hp⟩ := prf_R pty f0 _ _ hf0;obtain ⟨q', hR1, hl1', hc1, hq⟩ := prf_R pty f1 _ _ hf1;have hp2 := hp fun n hn => of_decide_eq_true (List.all_eq_true.1 hwt n (DataW.weights_mem_each (j := 0) (t := 29) rfl rfl n hn));have hq2 := hq fun n hn => of_decide_eq_true (List.all_eq_true.1 hwt n (DataW.weights_mem_each (j := 1) (t := 29) rfl rfl n hn));obtain ⟨rfl, rfl⟩ := trodVars_none hV;simp only [List.append_nil, List.nil_append] at hW';have hl0 : ∀ x ∈ p0, x.block < W.heap.size := fun x hx => hW'.lt x (by simp [hx]);have hl1 : ∀ x ∈ p1, x.block < W.heap.size := fun x hx => hW'.lt x (by simp [hx]);have hl2 : ∀ x ∈ p2, x.block < W.heap.size := fun x hx => hW'.lt x (by simp [hx]);have r0 := agg_R hR0 (by rw [hl0']; decide) hc0;have r1 := agg_R hR1 (by rw [hl1']; decide) hc1;rw [cells0] at r0 r1;have r2 : R W (fun _ => none) (fun _ => False) W.heap.size (zI n2) v2 := by rw [e2]; exact .i .i64 n2
  exact calls_trueS (lf n2 hp2 hq2) (globs hL) (.cons r0 (.cons r1 (.cons r2 .nil))) rfl Tryz.underlying4 rfl rfl hW' (fun W' hb => trodAll_mk3 (Below.trod laidOut (by kernel_rfl) (of_decide_eq_true (by kernel_rfl)) ⟨f0, hf0⟩ hb hl0) (Below.trod laidOut (by kernel_rfl) (of_decide_eq_true (by kernel_rfl)) ⟨f1, hf1⟩ hb hl1) (Below.trod laidOut (by kernel_rfl) (of_decide_eq_true (by kernel_rfl)) ⟨f2, hf2⟩ hb hl2))
end Go.Proofs.YtmioclbmbindhaaGreatDoor
