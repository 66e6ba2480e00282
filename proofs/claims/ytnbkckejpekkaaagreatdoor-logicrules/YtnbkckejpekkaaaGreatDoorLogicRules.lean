/-
  LogicRules of lyceumlaw09 returns true whatever the byte and the text are: the tied card. Conditions: none beyond the card's own (the listed package-level variables read as the program's text lays them).
-/
import Derived.Test.YtnbkckejpekkaaaGreatDoorNemo5
import Derived.Test.YtnbkckejpekkaaaGreatDoorDard
import Derived.Test.YtnbkckejpekkaaaGreatDoorTie
import Derived.Test.YtnbkckejpekkaaaGreatDoorCards
set_option linter.all false
namespace Go.Lyc.T
open Go.Lyc
def nl0 : List (List Nat) := [[97, 110, 100, 73], [97, 110, 100, 69, 49], [97, 110, 100, 69, 50], [111, 114, 73, 49], [111, 114, 73, 50], [111, 114, 69], [105, 109, 112, 73], [105, 109, 112, 69], [110, 111, 116, 73], [110, 111, 116, 69], [102, 97, 108, 115, 101, 69], [105, 102, 102, 73], [105, 102, 102, 69, 49], [105, 102, 102, 69, 50], [114, 97, 97]]
theorem lr0 : AllOk (nl0.map fun l => (5, [.um 8 0, .s l], .b true)) := ⟨t478, t479, t480, t481, t482, t483, t484, t485, t486, t487, t488, t489, t490, t491, t492, trivial⟩
def nl1 : List (List Nat) := [[97, 110, 100, 73], [97, 110, 100, 69, 49], [97, 110, 100, 69, 50], [111, 114, 73, 49], [111, 114, 73, 50], [111, 114, 69], [105, 109, 112, 73], [105, 109, 112, 69], [110, 111, 116, 73], [110, 111, 116, 69], [102, 97, 108, 115, 101, 69], [105, 102, 102, 73], [105, 102, 102, 69, 49], [105, 102, 102, 69, 50]]
theorem lr1 : AllOk (nl1.map fun l => (5, [.um 8 1, .s l], .b true)) := ⟨t511, t512, t513, t514, t515, t516, t517, t518, t519, t520, t521, t522, t523, t524, trivial⟩
def nl2 : List (List Nat) := [[97, 110, 100, 73], [97, 110, 100, 69, 49], [97, 110, 100, 69, 50], [111, 114, 73, 49], [111, 114, 73, 50], [111, 114, 69], [105, 109, 112, 73], [105, 109, 112, 69], [110, 111, 116, 73], [110, 111, 116, 69], [102, 97, 108, 115, 101, 69], [105, 102, 102, 73], [105, 102, 102, 69, 49], [105, 102, 102, 69, 50], [114, 97, 97], [97, 108, 108, 73], [97, 108, 108, 69], [115, 111, 109, 101, 73], [115, 111, 109, 101, 69]]
theorem lr2 : AllOk (nl2.map fun l => (5, [.um 8 2, .s l], .b true)) := ⟨t555, t556, t557, t558, t559, t560, t561, t562, t563, t564, t565, t566, t567, t568, t569, t570, t571, t572, t573, trivial⟩
def nl3 : List (List Nat) := [[97, 110, 100, 73], [97, 110, 100, 69, 49], [97, 110, 100, 69, 50], [111, 114, 73, 49], [111, 114, 73, 50], [111, 114, 69], [105, 109, 112, 73], [105, 109, 112, 69], [110, 111, 116, 73], [110, 111, 116, 69], [102, 97, 108, 115, 101, 69], [105, 102, 102, 73], [105, 102, 102, 69, 49], [105, 102, 102, 69, 50], [114, 97, 97], [98, 111, 120, 73, 48], [98, 111, 120, 73, 49], [98, 111, 120, 73, 50], [98, 111, 120, 73, 51], [100, 105, 97, 73], [100, 105, 97, 69]]
theorem lr3 : AllOk (nl3.map fun l => (5, [.um 8 3, .s l], .b true)) := ⟨t612, t613, t614, t615, t616, t617, t618, t619, t620, t621, t622, t623, t624, t625, t626, t627, t628, t629, t630, t631, t632, trivial⟩
def nl4 : List (List Nat) := [[97, 110, 100, 73], [97, 110, 100, 69, 49], [97, 110, 100, 69, 50], [111, 114, 73, 49], [111, 114, 73, 50], [111, 114, 69], [105, 109, 112, 73], [105, 109, 112, 69], [110, 111, 116, 73], [110, 111, 116, 69], [102, 97, 108, 115, 101, 69], [105, 102, 102, 73], [105, 102, 102, 69, 49], [105, 102, 102, 69, 50], [114, 97, 97], [98, 111, 120, 73, 48], [98, 111, 120, 73, 49], [98, 111, 120, 73, 50], [98, 111, 120, 73, 51], [100, 105, 97, 73], [100, 105, 97, 69], [98, 111, 120, 69]]
theorem lr4 : AllOk (nl4.map fun l => (5, [.um 8 4, .s l], .b true)) := ⟨t661, t662, t663, t664, t665, t666, t667, t668, t669, t670, t671, t672, t673, t674, t675, t676, t677, t678, t679, t680, t681, t682, trivial⟩
def nl5 : List (List Nat) := [[97, 110, 100, 73], [97, 110, 100, 69, 49], [97, 110, 100, 69, 50], [111, 114, 73, 49], [111, 114, 73, 50], [111, 114, 69], [105, 109, 112, 73], [105, 109, 112, 69], [110, 111, 116, 73], [110, 111, 116, 69], [102, 97, 108, 115, 101, 69], [105, 102, 102, 73], [105, 102, 102, 69, 49], [105, 102, 102, 69, 50], [114, 97, 97], [98, 111, 120, 73, 48], [98, 111, 120, 73, 49], [98, 111, 120, 73, 50], [98, 111, 120, 73, 51], [100, 105, 97, 73], [100, 105, 97, 69], [98, 111, 120, 69], [98, 111, 120, 52]]
theorem lr5 : AllOk (nl5.map fun l => (5, [.um 8 5, .s l], .b true)) := ⟨t715, t716, t717, t718, t719, t720, t721, t722, t723, t724, t725, t726, t727, t728, t729, t730, t731, t732, t733, t734, t735, t736, t737, trivial⟩
def nl6 : List (List Nat) := [[97, 110, 100, 73], [97, 110, 100, 69, 49], [97, 110, 100, 69, 50], [111, 114, 73, 49], [111, 114, 73, 50], [111, 114, 69], [105, 109, 112, 73], [105, 109, 112, 69], [110, 111, 116, 73], [110, 111, 116, 69], [102, 97, 108, 115, 101, 69], [105, 102, 102, 73], [105, 102, 102, 69, 49], [105, 102, 102, 69, 50], [114, 97, 97], [98, 111, 120, 73, 48], [98, 111, 120, 73, 49], [98, 111, 120, 73, 50], [98, 111, 120, 73, 51], [100, 105, 97, 73], [100, 105, 97, 69], [98, 111, 120, 69], [98, 111, 120, 52], [100, 105, 97, 53]]
theorem lr6 : AllOk (nl6.map fun l => (5, [.um 8 6, .s l], .b true)) := ⟨t771, t772, t773, t774, t775, t776, t777, t778, t779, t780, t781, t782, t783, t784, t785, t786, t787, t788, t789, t790, t791, t792, t793, t794, trivial⟩
def nl7 : List (List Nat) := [[97, 110, 100, 73], [97, 110, 100, 69, 49], [97, 110, 100, 69, 50], [111, 114, 73, 49], [111, 114, 73, 50], [111, 114, 69], [105, 109, 112, 73], [105, 109, 112, 69], [110, 111, 116, 73], [110, 111, 116, 69], [102, 97, 108, 115, 101, 69], [105, 102, 102, 73], [105, 102, 102, 69, 49], [105, 102, 102, 69, 50], [114, 97, 97], [110, 101, 120, 116, 73, 48], [110, 101, 120, 116, 73, 49], [110, 101, 120, 116, 73, 50], [110, 101, 120, 116, 73, 51], [110, 101, 120, 116, 78, 49], [110, 101, 120, 116, 78, 50], [97, 108, 119, 73, 48], [97, 108, 119, 73, 49], [97, 108, 119, 73, 50], [97, 108, 119, 73, 51], [97, 108, 119, 69], [97, 108, 119, 88], [105, 110, 100], [117, 110, 116, 73, 49], [117, 110, 116, 73, 50], [117, 110, 116, 69]]
theorem lr7 : AllOk (nl7.map fun l => (5, [.um 8 7, .s l], .b true)) := ⟨t901, t902, t903, t904, t905, t906, t907, t908, t909, t910, t911, t912, t913, t914, t915, t916, t917, t918, t919, t920, t921, t922, t923, t924, t925, t926, t927, t928, t929, t930, t931, trivial⟩
theorem rules_one (w : Nat) (nl : List (List Nat)) (hb : (nl.all fun l => l.all fun c => decide (c < 256)) = true) (h1 : AllOk (nl.map fun l => (5, [.um 8 w, .s l], .b true))) (h2 : EOk (5, [.um 8 w, .sx nl], .b true)) (s : ByteArray) :
    ∃ a, (∀ (W : World) (m : Nat → Option Nat) (O : Nat → Prop) (B : Nat), R W m O B a (.string s)) ∧ EOk (5, [.um 8 w, a], .b true) := by
  by_cases h : ∃ l ∈ nl, s = strOf l
  · obtain ⟨l, hl, rfl⟩ := h
    refine ⟨.s l, fun W m O B => .s l fun c hc => ?_, h1.mem _ (List.mem_map.2 ⟨l, hl, rfl⟩)⟩
    simp only [List.all_eq_true, decide_eq_true_eq] at hb
    exact hb l hl c hc
  · exact ⟨.sx nl, fun W m O B => .sx fun e he hs => h ⟨e, he, hs⟩, h2⟩
theorem rules_any (x : Nat) (s : ByteArray) : ∃ a, (∀ (W : World) (m : Nat → Option Nat) (O : Nat → Prop) (B : Nat), R W m O B a (.string s)) ∧ EOk (5, [.um 8 (x % 8), a], .b true) := by
  have hx : x % 8 < 8 := Nat.mod_lt _ (by decide)
  generalize x % 8 = w at hx
  match w, hx with
  | 0, _ => exact rules_one 0 nl0 (by decide +kernel) lr0 t494 s
  | 1, _ => exact rules_one 1 nl1 (by decide +kernel) lr1 t526 s
  | 2, _ => exact rules_one 2 nl2 (by decide +kernel) lr2 t575 s
  | 3, _ => exact rules_one 3 nl3 (by decide +kernel) lr3 t634 s
  | 4, _ => exact rules_one 4 nl4 (by decide +kernel) lr4 t684 s
  | 5, _ => exact rules_one 5 nl5 (by decide +kernel) lr5 t739 s
  | 6, _ => exact rules_one 6 nl6 (by decide +kernel) lr6 t796 s
  | 7, _ => exact rules_one 7 nl7 (by decide +kernel) lr7 t933 s
  | n + 8, h => exact absurd h (by omega)
end Go.Lyc.T
namespace Go.Proofs.YtnbkckejpekkaaaGreatDoor
open Go Go.ChangeShapes Go.WideShapes Go.ChangeAt Go.RowKit Go.Lyc Go.Lyc.T
set_option maxRecDepth 100000
set_option maxHeartbeats 0
theorem own : ownKnob Tryz.prog.godebug = none := by kernel_rfl
theorem laid_met (os : Os) (args : Array Value) : laidMetH Tryz.prog T.laid ((World.laidAll Tryz.prog os T.laid).forCall (fun _ _ => 0) ⟨#[], args, []⟩).memory := by
  rw [MakeChecks.laidMetH_plain _ _ _ (by kernel_rfl)]
  exact laidMet_laidAll args (by kernel_rfl) (by kernel_rfl)
theorem globs {W : World} (h : laidMetH Tryz.prog T.laid W) : Globs (T.base.env []) W W.heap.size := by
  rw [MakeChecks.laidMetH_plain _ _ _ (by kernel_rfl)] at h
  exact globs_of_laid h T.laidNames T.globL_ok rfl
theorem lifted (os : Os) (started : os.Started) (H : Type) (enc : TypeId × Value → H) :
    ReturnsInHanded {} Tryz.checked os 5 .any (fun w args => (Rows.logicRulesSpec.pre enc Tryz.prog Tryz.f5 [] false w args ∧ laidMetH Tryz.prog T.laid w) ∧ sizedMet enc Tryz.prog Tryz.f5 (OpenSpec.ofChange Rows.logicRulesSpec) false w args)
      (Rows.logicRulesSpec.post enc Tryz.prog Tryz.f5 false true false false) := by
  refine returnsInHanded_of_change_and (C := Tryz.checked) (X := fun w _ => laidMetH Tryz.prog T.laid w) (fun _ _ _ hh h => h.of_heap hh) own started (by kernel_rfl) Tryz.func5
    (ChangeSpec.witness_shaped (enc := enc) (C := Tryz.checked) (os := os) (X := fun w _ => laidMetH Tryz.prog T.laid w) false (World.laidAll Tryz.prog os T.laid) #[.int .u8 0, .string ⟨#[]⟩] 8 (World.laidAll_os _ _ _) (World.shaped_of_ZipB (by kernel_rfl) (by kernel_rfl)) (by kernel_rfl) (by kernel_rfl) (by kernel_rfl) (laid_met os _)) ?_
  intro W base args ds gs before hval0 hW _ _ hL _
  have hval : ∀ (j : Nat) t v, Tryz.f5.params[j]? = some t → args[j]? = some v → Value.okWide Tryz.prog W .any base t v := hval0
  have hW' := hW
  obtain ⟨p, q, hA0, hV, rfl, hfz, hnd⟩ := hW
  have hA : DataW.TrodAll enc Tryz.prog W 0 (fun _ => true) true Tryz.f5.params.toList args.toList ds p := hA0
  rw [Tryz.params5] at hA hval
  obtain ⟨v0, v1, d0, d1, p0, p1, rfl, rfl, rfl, h0, h1⟩ := trodAll_two hA
  obtain ⟨x, rfl, rfl, rfl, wx⟩ := open_int Tryz.underlying5 (hval 0 5 v0 rfl rfl) h0
  obtain ⟨s, rfl, rfl, rfl, hs⟩ := Go.ChangeMaps.open_string Tryz.underlying9 (hval 1 9 v1 rfl rfl) h1
  obtain ⟨rfl, rfl⟩ := trodVars_none hV
  clear hA0 hval0
  simp only [List.append_nil] at hW'
  obtain ⟨a, hR, hE⟩ := rules_any x.toNat s
  exact calls_true hE (globs hL) (.cons (byte_um wx) (.cons (hR _ _ _ _) .nil)) rfl Tryz.underlying4 rfl rfl hW' (fun W' sp => trodAll_mk2 (shut_int Tryz.underlying5 wx) (Go.ChangeMaps.shut_string Tryz.underlying9 hs))
end Go.Proofs.YtnbkckejpekkaaaGreatDoor
