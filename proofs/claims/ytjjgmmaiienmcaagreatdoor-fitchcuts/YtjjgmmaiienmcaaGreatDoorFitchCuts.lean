/-
  FitchCuts of lyceumlaw18 returns true whatever the lines and the premise are: the tied card. Conditions: none beyond the card's own (the listed package-level variables read as the program's text lays them).
-/
import Derived.Test.YtjjgmmaiienmcaaGreatDoorLgs
import Derived.Test.YtjjgmmaiienmcaaGreatDoorTie
import Derived.Test.YtjjgmmaiienmcaaGreatDoorCards
import Derived.SizedLaws
import Derived.Carry
set_option linter.all false
namespace Go.Lyc.T
open Go.Lyc Go.RowKit Go.Proofs
set_option maxRecDepth 100000
variable [Tok] [TokOk]
theorem lf {L : Option (List LnG)} {hy : Option (List Fm)} {F : Fm} {fr : List Nat} {cl : Bool} (h1 : (L.getD []).length < 2 ^ 62) (h2 : ∀ c ∈ L.getD [], c.f.ok ∧ c.cs.length < 2 ^ 62) (h3 : (hy.getD []).length < 2 ^ 62) : EOk (3, [lgA L, .ag [fmsA true hy, .i .u8 (Int.ofNat F.op), .s F.name, tmsA true F.oargs, fmsA true F.osub, .s fr, .b cl]], .b true) := lawA base_ok fc18 (by kernel_rfl) gAw h1 h2 h3
end Go.Lyc.T
namespace Go.Proofs.YtjjgmmaiienmcaaGreatDoor
open Go Go.ChangeShapes Go.WideShapes Go.ChangeAt Go.RowKit Go.Lyc Go.Lyc.T
set_option maxRecDepth 100000
set_option maxHeartbeats 0
theorem own : ownKnob Tryz.prog.godebug = none := by kernel_rfl
theorem laid_met (os : Os) (args : Array Value) : laidMetH Tryz.prog T.laid ((World.laidAll Tryz.prog os T.laid).forCall (fun _ _ => 0) ⟨#[], args, []⟩).memory := by
  rw [MakeChecks.laidMetH_plain _ _ _ (by kernel_rfl)]
  exact laidMet_laidAll args (by kernel_rfl) (by kernel_rfl)
theorem globs [Go.Lyc.Tok] [Go.Lyc.TokOk] {W : World} (h : laidMetH Tryz.prog T.laid W) : Globs (T.base.env []) W W.heap.size := by
  rw [MakeChecks.laidMetH_plain _ _ _ (by kernel_rfl)] at h
  exact globs_of_laid h T.laidNames T.globL_ok rfl
theorem laidOut : laidOutB Tryz.prog = true := by kernel_rfl
theorem fty : FTy Tryz.prog 4 9 5 110 24 26 23 where
  b := Tryz.underlying4
  s := Tryz.underlying9
  u := Tryz.underlying5
  ts := Tryz.underlying24
  fs := Tryz.underlying23
  cb := by kernel_rfl
  cs := by kernel_rfl
  cu := by kernel_rfl
  cts := by kernel_rfl
  cfs := by kernel_rfl
  ct := by kernel_rfl
  cf := by kernel_rfl
  bt := of_decide_eq_true (by kernel_rfl)
  bf := of_decide_eq_true (by kernel_rfl)
  t := ⟨_, _, _, Tryz.underlying110, ⟨rfl, rfl⟩, ⟨rfl, rfl⟩, rfl, rfl⟩
  f := ⟨_, _, _, _, Tryz.underlying26, ⟨rfl, rfl⟩, ⟨rfl, rfl⟩, ⟨rfl, rfl⟩, rfl, rfl⟩
theorem lty : LTy Tryz.prog 4 9 5 110 24 26 23 3 47 43 45 22 28 where
  f := fty
  i := Tryz.underlying3
  ci := by kernel_rfl
  cs := Tryz.underlying43
  cc := by kernel_rfl
  ccs := by kernel_rfl
  bc := of_decide_eq_true (by kernel_rfl)
  ls := Tryz.underlying22
  cl := by kernel_rfl
  bl := of_decide_eq_true (by kernel_rfl)
  cp := by kernel_rfl
  c := ⟨_, _, Tryz.underlying47, ⟨rfl, rfl⟩, rfl, rfl⟩
  l := ⟨_, _, _, _, _, _, Tryz.underlying45, ⟨rfl, rfl⟩, ⟨rfl, rfl⟩, ⟨rfl, rfl⟩, ⟨rfl, rfl⟩, ⟨rfl, rfl⟩, rfl, rfl⟩
  p := ⟨_, _, _, _, Tryz.underlying28, ⟨rfl, rfl⟩, ⟨rfl, rfl⟩, ⟨rfl, rfl⟩, rfl, rfl⟩
theorem lifted (os : Os) (started : os.Started) (H : Type) (enc : TypeId × Value → H) :
    ReturnsInHanded {} Tryz.checked os 3 .any (fun w args => (Rows.fitchCutsSpec.pre enc Tryz.prog Tryz.f3 [] false w args ∧ laidMetH Tryz.prog T.laid w) ∧ sizedMet enc Tryz.prog Tryz.f3 (OpenSpec.ofChange Rows.fitchCutsSpec) false w args)
      (Rows.fitchCutsSpec.post enc Tryz.prog Tryz.f3 false true false false) := by
  refine returnsInHanded_of_change_and (C := Tryz.checked) (X := fun w _ => laidMetH Tryz.prog T.laid w) (fun _ _ _ hh h => h.of_heap hh) own started (by kernel_rfl) Tryz.func3
    (ChangeSpec.witness_shaped (enc := enc) (C := Tryz.checked) (os := os) (X := fun w _ => laidMetH Tryz.prog T.laid w) false (World.laidAll Tryz.prog os T.laid) #[.slice none 0 0, .agg #[.slice none 0 0, .int .u8 0, .string ⟨#[]⟩, .slice none 0 0, .slice none 0 0, .string ⟨#[]⟩, .bool false]] 8 (World.laidAll_os _ _ _) (World.shaped_of_ZipB (by kernel_rfl) (by kernel_rfl)) (by kernel_rfl) (by kernel_rfl) (by kernel_rfl) (laid_met os _)) ?_
  intro W base args ds gs before hval0 hW _ hwt hL _
  have hval : ∀ (j : Nat) t v, Tryz.f3.params[j]? = some t → args[j]? = some v → Value.okWide Tryz.prog W .any base t v := hval0
  have hW' := hW
  obtain ⟨p, q, hA0, hV, rfl, hfz, hnd⟩ := hW
  have hA : DataW.TrodAll enc Tryz.prog W 0 (fun _ => true) true Tryz.f3.params.toList args.toList ds p := hA0
  rw [Tryz.params3] at hA hval hwt
  letI := tok0
  haveI := tok0_ok
  obtain ⟨v0, v1, d0, d1, p0, p1, rfl, rfl, rfl, h0, h1⟩ := trodAll_two hA
  obtain ⟨a, len, cap, rfl⟩ := okWide_slice Tryz.underlying22 (hval 0 22 v0 rfl rfl)
  obtain ⟨f0, hf0⟩ := h0
  obtain ⟨f1, hf1⟩ := h1
  obtain ⟨L, hR0, hL2⟩ := lines_R lty f0 _ _ hf0
  obtain ⟨hy, F, fr, cl, hR1, hP2⟩ := prem_R lty f1 _ _ hf1
  have hL3 := hL2 fun n hn => of_decide_eq_true (List.all_eq_true.1 hwt n (DataW.weights_mem_each (j := 0) (t := 22) rfl rfl n hn))
  have hP3 := hP2 fun n hn => of_decide_eq_true (List.all_eq_true.1 hwt n (DataW.weights_mem_each (j := 1) (t := 28) rfl rfl n hn))
  obtain ⟨rfl, rfl⟩ := trodVars_none hV
  simp only [List.append_nil, List.nil_append] at hW'
  have hl0 : ∀ x ∈ p0, x.block < W.heap.size := fun x hx => hW'.lt x (by simp [hx])
  have hl1 : ∀ x ∈ p1, x.block < W.heap.size := fun x hx => hW'.lt x (by simp [hx])
  have r0 : R W (fun _ => none) (fun _ => False) W.heap.size (lgA L) (.slice a len cap) := by
    have h : RA W W.heap.size [lgA L] [Value.slice a len cap] := hR0
    exact h.2 0 (by simp) (by simp)
  have r1 := agg_R hR1 (by simp) (fun x hx => by
    simp only [List.mem_cons, List.not_mem_nil, or_false] at hx
    rcases hx with rfl | rfl | rfl | rfl | rfl | rfl | rfl
    · cases hy <;> rfl
    · rfl
    · rfl
    · cases F.oargs <;> rfl
    · cases F.osub <;> rfl
    · rfl
    · rfl)
  exact calls_trueS (lf hL3.1 hL3.2 hP3) (globs hL) (.cons r0 (.cons r1 .nil)) rfl Tryz.underlying4 rfl rfl hW' (fun W' hb => trodAll_mk2 (Below.trod laidOut (by kernel_rfl) (of_decide_eq_true (by kernel_rfl)) ⟨f0, hf0⟩ hb hl0) (Below.trod laidOut (by kernel_rfl) (of_decide_eq_true (by kernel_rfl)) ⟨f1, hf1⟩ hb hl1))
end Go.Proofs.YtjjgmmaiienmcaaGreatDoor
