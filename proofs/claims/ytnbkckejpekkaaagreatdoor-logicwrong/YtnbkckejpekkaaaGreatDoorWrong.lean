/-
  LogicWrong of lyceumlaw09 returns true whatever the two bytes are: the tied card. Conditions: none beyond the card's own (the listed package-level variables read as the program's text lays them).
-/
import Derived.Test.YtnbkckejpekkaaaGreatDoorMemo5
import Derived.Test.YtnbkckejpekkaaaGreatDoorCard
import Derived.Test.YtnbkckejpekkaaaGreatDoorTie
import Derived.Test.YtnbkckejpekkaaaGreatDoorCards
set_option linter.all false
namespace Go.Lyc.T
open Go.Lyc
def wayD (y : Nat) : Nat := if y % 10 = 0 ∨ y % 10 = 2 then 40 else if y % 10 = 1 then 30 else 10
def wayL : List (Nat × Nat) := [(40, 0), (30, 1), (40, 2), (10, 3), (10, 4), (10, 5), (10, 6), (10, 7), (10, 8), (10, 9), (40, 10), (30, 11), (40, 12), (40, 20), (30, 21), (40, 22), (40, 30), (40, 32)]
noncomputable def lwL : List (Nat × List AV × AV) := [e443, e449, e454, e459, e464, e469, e474, e481, e486, e491, e496, e502, e507, e512, e518, e523, e528, e533, e540, e545, e550, e555, e560, e565, e570, e575, e580, e585, e590, e595, e600, e605, e610, e615, e620, e625, e631, e636, e641, e646, e651, e656, e661, e666, e671, e676, e681, e686, e691, e696, e701, e706, e711, e716, e722, e727, e732, e737, e742, e747, e752, e757, e762, e767, e772, e777, e782, e787, e792, e797, e802, e807, e815, e820, e825, e830, e835, e840, e845, e850, e855, e860, e865, e870, e875, e880, e885, e890, e895, e900, e910, e915, e920, e925, e930, e935, e940, e945, e950, e955, e960, e965, e970, e975, e980, e985, e990, e995, e1005, e1010, e1015, e1020, e1025, e1030, e1035, e1040, e1045, e1050, e1055, e1060, e1065, e1070, e1075, e1080, e1085, e1090, e1139, e1144, e1149, e1154, e1159, e1164, e1169, e1174, e1179, e1184, e1189, e1194, e1199, e1204, e1209, e1214, e1219, e1224]
theorem lwL_ok : AllOk lwL := ⟨t443, t449, t454, t459, t464, t469, t474, t481, t486, t491, t496, t502, t507, t512, t518, t523, t528, t533, t540, t545, t550, t555, t560, t565, t570, t575, t580, t585, t590, t595, t600, t605, t610, t615, t620, t625, t631, t636, t641, t646, t651, t656, t661, t666, t671, t676, t681, t686, t691, t696, t701, t706, t711, t716, t722, t727, t732, t737, t742, t747, t752, t757, t762, t767, t772, t777, t782, t787, t792, t797, t802, t807, t815, t820, t825, t830, t835, t840, t845, t850, t855, t860, t865, t870, t875, t880, t885, t890, t895, t900, t910, t915, t920, t925, t930, t935, t940, t945, t950, t955, t960, t965, t970, t975, t980, t985, t990, t995, t1005, t1010, t1015, t1020, t1025, t1030, t1035, t1040, t1045, t1050, t1055, t1060, t1065, t1070, t1075, t1080, t1085, t1090, t1139, t1144, t1149, t1154, t1159, t1164, t1169, t1174, t1179, t1184, t1189, t1194, t1199, t1204, t1209, t1214, t1219, t1224, trivial⟩
theorem lwL_eq : lwL = (List.range 8).flatMap fun w => wayL.map fun p => (6, [.um 8 w, .um p.1 p.2], .b true) := by kernel_rfl
theorem way_mem : ∀ y, y < 256 → (wayD y, y % wayD y) ∈ wayL := by decide +kernel
theorem lw (x y : Nat) (hy : y < 256) : EOk (6, [.um 8 (x % 8), .um (wayD y) (y % wayD y)], .b true) := by
  refine lwL_ok.mem _ ?_
  rw [lwL_eq]
  exact List.mem_flatMap.2 ⟨x % 8, List.mem_range.2 (Nat.mod_lt _ (by decide)), List.mem_map.2 ⟨(wayD y, y % wayD y), way_mem y hy, rfl⟩⟩
end Go.Lyc.T
namespace Go.Proofs.YtnbkckejpekkaaaGreatDoor
open Go Go.ChangeShapes Go.WideShapes Go.ChangeAt Go.RowKit Go.Lyc Go.Lyc.T
set_option maxRecDepth 100000
set_option maxHeartbeats 0
theorem own : ownKnob Tryz.prog.godebug = none := by kernel_rfl
theorem laid_met (os : Os) (args : Array Value) : laidMetH Tryz.prog T.laid ((World.laidAll Tryz.prog os T.laid).forCall (fun _ _ => 0) ⟨#[], args, []⟩).memory := by
  rw [MakeChecks.laidMetH_plain _ _ _ (by kernel_rfl)]
  exact laidMet_laidAll args (by kernel_rfl) (by kernel_rfl)
theorem globs {W : World} (h : laidMetH Tryz.prog T.laid W) : Globs (T.base.env []) W W.heap.size := by
  rw [MakeChecks.laidMetH_plain _ _ _ (by kernel_rfl)] at h
  exact globs_of_laid h T.laidNames T.globL_ok rfl
theorem lifted (os : Os) (started : os.Started) (H : Type) (enc : TypeId × Value → H) :
    ReturnsInHanded {} Tryz.checked os 6 .any (fun w args => (Rows.logicWrongSpec.pre enc Tryz.prog Tryz.f6 [] false w args ∧ laidMetH Tryz.prog T.laid w) ∧ sizedMet enc Tryz.prog Tryz.f6 (OpenSpec.ofChange Rows.logicWrongSpec) false w args)
      (Rows.logicWrongSpec.post enc Tryz.prog Tryz.f6 false true false false) := by
  refine returnsInHanded_of_change_and (C := Tryz.checked) (X := fun w _ => laidMetH Tryz.prog T.laid w) (fun _ _ _ hh h => h.of_heap hh) own started (by kernel_rfl) Tryz.func6
    (ChangeSpec.witness_shaped (enc := enc) (C := Tryz.checked) (os := os) (X := fun w _ => laidMetH Tryz.prog T.laid w) false (World.laidAll Tryz.prog os T.laid) #[.int .u8 0, .int .u8 0] 8 (World.laidAll_os _ _ _) (World.shaped_of_ZipB (by kernel_rfl) (by kernel_rfl)) (by kernel_rfl) (by kernel_rfl) (by kernel_rfl) (laid_met os _)) ?_
  intro W base args ds gs before hval0 hW _ _ hL _
  have hval : ∀ (j : Nat) t v, Tryz.f6.params[j]? = some t → args[j]? = some v → Value.okWide Tryz.prog W .any base t v := hval0
  have hW' := hW
  obtain ⟨p, q, hA0, hV, rfl, hfz, hnd⟩ := hW
  have hA : DataW.TrodAll enc Tryz.prog W 0 (fun _ => true) true Tryz.f6.params.toList args.toList ds p := hA0
  rw [Tryz.params6] at hA hval
  obtain ⟨v0, v1, d0, d1, p0, p1, rfl, rfl, rfl, h0, h1⟩ := trodAll_two hA
  obtain ⟨rfl, rfl⟩ := trodVars_none hV
  obtain ⟨x, rfl, rfl, rfl, wx⟩ := open_int Tryz.underlying5 (hval 0 5 v0 rfl rfl) h0
  obtain ⟨y, rfl, rfl, rfl, wy⟩ := open_int Tryz.underlying5 (hval 1 5 v1 rfl rfl) h1
  clear hA0 hval0
  simp only [List.append_nil] at hW'
  exact calls_true (lw x.toNat y.toNat (byte_lt wy)) (globs hL) (.cons (byte_um wx) (.cons (byte_um wy) .nil)) rfl Tryz.underlying4 rfl rfl hW' (fun W' sp => trodAll_mk2 (shut_int Tryz.underlying5 wx) (shut_int Tryz.underlying5 wy))

end Go.Proofs.YtnbkckejpekkaaaGreatDoor
