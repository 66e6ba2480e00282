/-
  FallacyWrong of lyceumlaw28 returns true whatever the bytes, the formula and the text are: the tied card. Conditions: none beyond the card's own (the listed package-level variables read as the program's text lays them).
-/
import Derived.Test.YtidpbebfkcnlfaaGreatDoorFall
import Derived.Test.YtidpbebfkcnlfaaGreatDoorTie
import Derived.Test.YtidpbebfkcnlfaaGreatDoorCards
import Derived.Carry
set_option linter.all false
namespace Go.Lyc.T
open Go.Lyc
end Go.Lyc.T
namespace Go.Proofs.YtidpbebfkcnlfaaGreatDoor
open Go Go.ChangeShapes Go.WideShapes Go.ChangeAt Go.RowKit Go.Lyc Go.Lyc.T
set_option maxRecDepth 100000
set_option maxHeartbeats 0
theorem own : ownKnob Tryz.prog.godebug = none := by kernel_rfl
theorem laid_met (os : Os) (args : Array Value) : laidMetH Tryz.prog T.laid ((World.laidAll Tryz.prog os T.laid).forCall (fun _ _ => 0) ⟨#[], args, []⟩).memory := by
  rw [MakeChecks.laidMetH_plain _ _ _ (by kernel_rfl)]
  exact laidMet_laidAll args (by kernel_rfl) (by kernel_rfl)
theorem globs [Go.Lyc.Tok] [Go.Lyc.TokOk] {W : World} (h : laidMetH Tryz.prog T.laid W) : Globs (T.base.env []) W W.heap.size := by
  rw [MakeChecks.laidMetH_plain _ _ _ (by kernel_rfl)] at h
  exact globs_of_laid h T.laidNames T.globL_ok rfl
theorem laidOut : laidOutB Tryz.prog = true := by kernel_rfl
theorem fty : FTy Tryz.prog 4 9 5 161 22 25 23 where
  b := Tryz.underlying4
  s := Tryz.underlying9
  u := Tryz.underlying5
  ts := Tryz.underlying22
  fs := Tryz.underlying23
  cb := by kernel_rfl
  cs := by kernel_rfl
  cu := by kernel_rfl
  cts := by kernel_rfl
  cfs := by kernel_rfl
  ct := by kernel_rfl
  cf := by kernel_rfl
  bt := of_decide_eq_true (by kernel_rfl)
  bf := of_decide_eq_true (by kernel_rfl)
  t := ⟨_, _, _, Tryz.underlying161, ⟨rfl, rfl⟩, ⟨rfl, rfl⟩, rfl, rfl⟩
  f := ⟨_, _, _, _, Tryz.underlying25, ⟨rfl, rfl⟩, ⟨rfl, rfl⟩, ⟨rfl, rfl⟩, rfl, rfl⟩
theorem lifted (os : Os) (started : os.Started) (H : Type) (enc : TypeId × Value → H) :
    ReturnsInHanded {} Tryz.checked os 3 .any (fun w args => (Rows.fallacyWrongSpec.pre enc Tryz.prog Tryz.f3 [] false w args ∧ laidMetH Tryz.prog T.laid w) ∧ sizedMet enc Tryz.prog Tryz.f3 (OpenSpec.ofChange Rows.fallacyWrongSpec) false w args)
      (Rows.fallacyWrongSpec.post enc Tryz.prog Tryz.f3 false true false false) := by
  refine returnsInHanded_of_change_and (C := Tryz.checked) (X := fun w _ => laidMetH Tryz.prog T.laid w) (fun _ _ _ hh h => h.of_heap hh) own started (by kernel_rfl) Tryz.func3
    (ChangeSpec.witness_shaped (enc := enc) (C := Tryz.checked) (os := os) (X := fun w _ => laidMetH Tryz.prog T.laid w) false (World.laidAll Tryz.prog os T.laid) #[.int .u8 0, .agg #[.int .u8 0, .string ⟨#[]⟩, .slice none 0 0, .slice none 0 0], .int .u8 0, .string ⟨#[]⟩] 8 (World.laidAll_os _ _ _) (World.shaped_of_ZipB (by kernel_rfl) (by kernel_rfl)) (by kernel_rfl) (by kernel_rfl) (by kernel_rfl) (laid_met os _)) ?_
  intro W base args ds gs before hval0 hW _ hwt hL _
  have hval : ∀ (j : Nat) t v, Tryz.f3.params[j]? = some t → args[j]? = some v → Value.okWide Tryz.prog W .any base t v := hval0
  have hW' := hW
  obtain ⟨p, q, hA0, hV, rfl, hfz, hnd⟩ := hW
  have hA : DataW.TrodAll enc Tryz.prog W 0 (fun _ => true) true Tryz.f3.params.toList args.toList ds p := hA0
  rw [Tryz.params3] at hA hval hwt
  obtain ⟨v0, v1, v2, v3, d0, d1, d2, d3, p0, p1, p2, p3, rfl, rfl, rfl, h0, h1, h2, h3⟩ := trodAll_four hA
  obtain ⟨x, rfl, rfl, rfl, wx⟩ := open_int Tryz.underlying5 (hval 0 5 v0 rfl rfl) h0
  obtain ⟨y, rfl, rfl, rfl, wy⟩ := open_int Tryz.underlying5 (hval 2 5 v2 rfl rfl) h2
  obtain ⟨s, rfl, rfl, rfl, hs⟩ := Go.ChangeMaps.open_string Tryz.underlying9 (hval 3 9 v3 rfl rfl) h3
  obtain ⟨fuel, hf⟩ := h1
  obtain ⟨F, hRF, hlF, _, hok⟩ := form_R fty fuel v1.cells.toList (d1, p1) hf
  have hF : F.ok := hok fun n hn => of_decide_eq_true (List.all_eq_true.1 hwt n (DataW.weights_mem_each (j := 1) (t := 25) rfl rfl n hn))
  obtain ⟨rfl, rfl⟩ := trodVars_none hV
  simp only [List.append_nil, List.nil_append] at hW'
  have hlt : ∀ x ∈ p1, x.block < W.heap.size := fun x hx => hW'.lt x (by simpa using hx)
  letI := tokOf F
  haveI := tokOf_ok F
  have hRF' : RI W W.heap.size (F.cells true) v1.cells.toList := hRF
  have hlen : v1.cells.toList.length = 4 := by
    have h : RA W W.heap.size (F.cells true) v1.cells.toList := hRF'
    have := h.1
    omega
  have hT := tok_R F hRF' v1 rfl hlen
  have fin : ∀ (a b c : AV), EOk (lawX a b c) → R W (fun _ => none) (fun _ => False) W.heap.size a (.int .u8 x) → R W (fun _ => none) (fun _ => False) W.heap.size b (.int .u8 y) → R W (fun _ => none) (fun _ => False) W.heap.size c (.string s) → Calls Tryz.prog 3 #[.int .u8 x, v1, .int .u8 y, .string s] W fun e W' => ∃ v, e = .returned v ∧ Rows.fallacyWrongSpec.post enc Tryz.prog Tryz.f3 false true false false W #[.int .u8 x, v1, .int .u8 y, .string s] v W' :=
    fun a b c hE ha hb hc => calls_trueS hE (globs hL) (.cons ha (.cons hT (.cons hb (.cons hc .nil)))) rfl Tryz.underlying4 rfl rfl hW' (fun W' hb => trodAll_mk4 (shut_int Tryz.underlying5 wx) (Below.trod laidOut (by kernel_rfl) (of_decide_eq_true (by kernel_rfl)) ⟨fuel, hf⟩ hb hlt) (shut_int Tryz.underlying5 wy) (Go.ChangeMaps.shut_string Tryz.underlying9 hs))
  have one : ∀ {z : Int}, (Lit.int .u8 z).wf = true → R W (fun _ => none) (fun _ => False) W.heap.size um1 (.int .u8 z) := fun {z} hz => by
    have := byte_um (w := W) (m := fun _ => none) (O := fun _ => False) (B := W.heap.size) (d := 1) hz
    rwa [Nat.mod_one] at this
  obtain ⟨nm, hnm, hRn⟩ : ∃ nm ∈ nmA, R W (fun _ => none) (fun _ => False) W.heap.size nm (.string s) := by
    rcases str_one (w := W) (m := fun _ => none) (O := fun _ => False) (B := W.heap.size) pns (by decide +kernel) s with ⟨l, hl, h⟩ | h
    · exact ⟨.s l, List.mem_cons_of_mem _ (List.mem_map.2 ⟨l, hl, rfl⟩), h⟩
    · exact ⟨sxN, List.mem_cons_self, h⟩
  rcases fwAll F hF (k := x.toNat % 8) (j := y.toNat % 6) (Nat.mod_lt _ (by decide)) (Nat.mod_lt _ (by decide)) hnm with h | h | h
  · exact fin _ _ _ h (one wx) (one wy) (.sx fun e he => by cases he)
  · exact fin _ _ _ h (byte_um wx) (one wy) (.sx fun e he => by cases he)
  · exact fin _ _ _ h (byte_um wx) (byte_um wy) hRn
end Go.Proofs.YtidpbebfkcnlfaaGreatDoor
