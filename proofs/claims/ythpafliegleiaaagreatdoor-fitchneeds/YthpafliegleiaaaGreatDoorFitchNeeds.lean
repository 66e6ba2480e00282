/-
  FitchNeeds of lyceumlaw18 returns true whatever the bytes are: the tied card. Conditions: none beyond the card's own (the listed package-level variables read as the program's text lays them).
-/
import Derived.Test.YthpafliegleiaaaGreatDoorLgs
import Derived.Test.YthpafliegleiaaaGreatDoorTieN
import Derived.Test.YthpafliegleiaaaGreatDoorCards
import Derived.SizedLaws
set_option linter.all false
namespace Go.Lyc.T
open Go.Lyc Go.RowKit Go.Proofs
set_option maxRecDepth 100000
variable [Tok] [TokOk] [Pat]
theorem lf (o : Option (List Nat)) (ho : ∀ c ∈ o.getD [], c < 256) (hl : (o.getD []).length < 2 ^ 62) : Kn Tryz.prog baseN 3 [osl true none (o.map fun l => l.map fun c => AV.i .u8 (Int.ofNat c))] (.b true) :=
 fitchNeeds_E baseN_ok fbN k3N fhN ghN ⟨rfl, rfl, rfl⟩ (fun σ => by kernel_rfl) (up gSt) (up gLog) (up gAw) ⟨rfl, rfl⟩ (fun σ => by kernel_rfl) (by show base.funcs.get n_FitchNeeds = some c3; kernel_rfl) (code := o.getD []) (fun τ => by cases o with | none => exact Sl.nil.vw | some l => exact tl_vw fun y hy => by obtain ⟨c, _, rfl⟩ := List.mem_map.1 hy; rfl) (by cases o <;> exact ⟨rfl, rfl⟩) hl ho
end Go.Lyc.T
namespace Go.Proofs.YthpafliegleiaaaGreatDoor
open Go Go.ChangeShapes Go.WideShapes Go.ChangeAt Go.RowKit Go.Lyc Go.Lyc.T
set_option maxRecDepth 100000
set_option maxHeartbeats 0
theorem own : ownKnob Tryz.prog.godebug = none := by kernel_rfl
theorem laid_met (os : Os) (args : Array Value) : laidMetH Tryz.prog T.laid ((World.laidAll Tryz.prog os T.laid).forCall (fun _ _ => 0) ⟨#[], args, []⟩).memory := by
 rw [MakeChecks.laidMetH_plain _ _ _ (by kernel_rfl)]
 exact laidMet_laidAll args (by kernel_rfl) (by kernel_rfl)
theorem globs [Go.Lyc.Tok] [Go.Lyc.TokOk] {W : World} (h : laidMetH Tryz.prog T.laid W) : Globs (T.base.env []) W W.heap.size := by
 rw [MakeChecks.laidMetH_plain _ _ _ (by kernel_rfl)] at h
 exact globs_of_laid h T.laidNames T.globL_ok rfl
theorem laidOut : laidOutB Tryz.prog = true := by kernel_rfl
theorem globsN [Go.Lyc.Tok] [Go.Lyc.TokOk] [Go.Lyc.Pat] {W : World} (h : laidMetH Tryz.prog T.laid W) (hp : ∀ B', R W (fun _ => none) (fun b => W.heap.size ≤ b) B' (.tp true patA) (.pointer (some ⟨12, 0, none⟩))) : Globs (T.baseN.env []) W W.heap.size := fun g v hv B' => by
 have hv : cond (Nat.beq g 12) (some patA) (T.base.glob g) = some v := hv
 cases e : Nat.beq g 12 with
 | true =>
  rw [e] at hv
  obtain rfl := Nat.eq_of_beq_eq_true e
  cases hv
  exact hp B'
 | false => rw [e] at hv; exact globs h g v hv B'
theorem lifted (os : Os) (started : os.Started) (H : Type) (enc : TypeId × Value → H) :
  ReturnsInHanded {} Tryz.checked os 3 .any (fun w args => (Rows.fitchNeedsSpec.pre enc Tryz.prog Tryz.f3 [] false w args ∧ laidMetH Tryz.prog T.laid w) ∧ sizedMet enc Tryz.prog Tryz.f3 (OpenSpec.ofChange Rows.fitchNeedsSpec) false w args)
   (Rows.fitchNeedsSpec.post enc Tryz.prog Tryz.f3 false true false false) := by
 refine handed_shape (C := Tryz.checked) (X := fun w _ => laidMetH Tryz.prog T.laid w) (fun _ _ _ hh h => h.of_heap hh) own started (by kernel_rfl) Tryz.func3
  (ChangeSpec.witness_shaped (enc := enc) (C := Tryz.checked) (os := os) (X := fun w _ => laidMetH Tryz.prog T.laid w) false (World.laidAll Tryz.prog os T.laid) #[.slice none 0 0] 8 (World.laidAll_os _ _ _) (World.shaped_of_ZipB (by kernel_rfl) (by kernel_rfl)) (by kernel_rfl) (by kernel_rfl) (by kernel_rfl) (laid_met os _)) ?_
 intro W base args ds gs before hsh hval0 hW hwt hL
 have hval : ∀ (j : Nat) t v, Tryz.f3.params[j]? = some t → args[j]? = some v → Value.okWide Tryz.prog W .any base t v := hval0
 have hW' := hW
 obtain ⟨p, q, hA0, hV, rfl, hfz, hnd⟩ := hW
 have hA : DataW.TrodAll enc Tryz.prog W 0 (fun _ => true) true Tryz.f3.params.toList args.toList ds p := hA0
 rw [Tryz.params3] at hA hval hwt
 letI := tok0
 haveI := tok0_ok
 obtain ⟨a, hpat⟩ := pat_R hsh (g := 12) (t := 504) (e := 413) (of_decide_eq_true (by kernel_rfl)) (by kernel_rfl) (by kernel_rfl) (by kernel_rfl) Tryz.underlying413
 letI : Pat := ⟨a⟩
 obtain ⟨v0, d0, rfl, rfl, h0⟩ := trodAll_one hA
 obtain ⟨o, hR, ho, hd⟩ := bytes_R Tryz.underlying22 Tryz.underlying5 (by kernel_rfl) (hval 0 22 v0 rfl rfl) h0
 have hl : (o.getD []).length < 2 ^ 62 := by
  rcases hd with rfl | ⟨es, sp, rfl, hd⟩
  ·decide
  ·have : (es.length + sp.length) * Tryz.prog.bytesOf 5 ≤ reachBytes := sized_slice (j := 0) (t := 22) hwt rfl rfl Tryz.underlying22
   rw [show Tryz.prog.bytesOf 5 = 1 from by kernel_rfl] at this
   have e : reachBytes < 2 ^ 62 := by decide
   omega
 obtain ⟨rfl, rfl⟩ := trodVars_none hV
 simp only [List.append_nil, List.nil_append] at hW'
 have hlt : ∀ x ∈ p, x.block < W.heap.size := fun x hx => hW'.lt x (by simpa using hx)
 exact calls_trueS (lf o ho hl) (globsN hL hpat) (.cons hR .nil) rfl Tryz.underlying4 rfl rfl hW' (fun W' hb => trodAll_mk1 (Below.trod laidOut (by kernel_rfl) (of_decide_eq_true (by kernel_rfl)) h0 hb hlt))
end Go.Proofs.YthpafliegleiaaaGreatDoor
