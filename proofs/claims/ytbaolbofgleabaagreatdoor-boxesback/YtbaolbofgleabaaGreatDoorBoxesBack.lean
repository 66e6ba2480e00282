/-
  BoxesBack of lyceumlaw21 returns true whatever the arguments are: the tied card. Conditions: none beyond the card's own (the listed package-level variables read as the program's text lays them).
-/
import Derived.Test.YtbaolbofgleabaaGreatDoorLgs
import Derived.Test.YtbaolbofgleabaaGreatDoorMat
import Derived.Test.YtbaolbofgleabaaGreatDoorTie
import Derived.Test.YtbaolbofgleabaaGreatDoorCards
import Derived.SizedLaws
set_option linter.all false
namespace Go.Lyc.T
open Go.Lyc Go.RowKit Go.Proofs
set_option maxRecDepth 100000
theorem gvK : GivM Tryz.prog base (lgK1.A true) .nilsl := ⟨λ_ _ => base_ok, @fb (tokOf mA) (tokOf_ok mA), λ_ _ => givK, @leafs (tokOf mA) (tokOf_ok mA), λ_ _ => gSc, rMat, rCp⟩
theorem gbK [Tok] [TokOk] : Gbk Tryz.prog base lgK1 (rulesP ++ restK) restK .nilsl lcF (nmJ false) := ⟨gvK, okK, rfl, ftr, base_ok, givK, gNK, gAw, ps9, List.pairwise_iff_getElem.1 nmK⟩
theorem gvJ : GivM Tryz.prog base (lgJ.A true) .nilsl := ⟨λ_ _ => base_ok, @fb (tokOf mA) (tokOf_ok mA), λ_ _ => givJ, @leafs (tokOf mA) (tokOf_ok mA), λ_ _ => gSc, rMat, rCp⟩
theorem gbJ [Tok] [TokOk] : Gbk Tryz.prog base lgJ (rulesP ++ restJ) restJ .nilsl jcF (nmJ true) := ⟨gvJ, okJ, rfl, ftr, base_ok, givJ, gNJ, gAw, rK ps9, List.pairwise_iff_getElem.1 nmJ_⟩
variable [Tok] [TokOk]
theorem lf (o : Option (List Nat)) (ho : ∀ c ∈ o.getD [], c < 256) (hl : (o.getD []).length < 2 ^ 62) (j : Bool) : EOk (3, [osl true none (o.map λl => l.map λc => AV.i .u8 (Int.ofNat c)), .b j], .b true) := by
 have h1 : ∀ τ, Vw τ none (osl true none (o.map λl => l.map λc => AV.i .u8 (Int.ofNat c))) ((o.getD []).map uB) := λτ => by cases o with | none => exact Sl.nil.vw | some l => exact tl_vw λy hy => by obtain ⟨c, _, rfl⟩ := List.mem_map.1 hy; rfl
 have h2 : (osl true none (o.map λl => l.map λc => AV.i .u8 (Int.ofNat c))).cells = [osl true none (o.map λl => l.map λc => AV.i .u8 (Int.ofNat c))] ∧ (osl true none (o.map λl => l.map λc => AV.i .u8 (Int.ofNat c))).val = true := by cases o <;> exact ⟨rfl, rfl⟩
 cases j with
 | false => exact boxesBack_E gbK k3 ⟨by kernel_rfl, by kernel_rfl⟩ ⟨by kernel_rfl, by kernel_rfl⟩ lcK.1 lcK.2 (by kernel_rfl) h1 h2 hl ho
 | true => exact boxesBack_E gbJ k3 ⟨by kernel_rfl, by kernel_rfl⟩ ⟨by kernel_rfl, by kernel_rfl⟩ lcJ.1 lcJ.2 (by kernel_rfl) h1 h2 hl ho
end Go.Lyc.T
namespace Go.Proofs.YtbaolbofgleabaaGreatDoor
open Go Go.ChangeShapes Go.WideShapes Go.ChangeAt Go.RowKit Go.Lyc Go.Lyc.T
set_option maxRecDepth 100000
set_option maxHeartbeats 0
theorem own : ownKnob Tryz.prog.godebug = none := by kernel_rfl
theorem laid_met (os : Os) (args : Array Value) : laidMetH Tryz.prog T.laid ((World.laidAll Tryz.prog os T.laid).forCall (λ_ _ => 0) ⟨#[], args, []⟩).memory := by
  rw [MakeChecks.laidMetH_plain _ _ _ (by kernel_rfl)];exact laidMet_laidAll args (by kernel_rfl) (by kernel_rfl)
theorem globs [Go.Lyc.Tok] [Go.Lyc.TokOk] {W : World} (h : laidMetH Tryz.prog T.laid W) : Globs (T.base.env []) W W.heap.size := by
  rw [MakeChecks.laidMetH_plain _ _ _ (by kernel_rfl)] at h;exact globs_of_laid h T.laidNames T.globL_ok rfl
theorem laidOut : laidOutB Tryz.prog = true := by kernel_rfl
theorem lifted (os : Os) (started : os.Started) (H : Type) (enc : TypeId × Value->H) :
    ReturnsInHanded {} Tryz.checked os 3 .any (λw args => (Rows.boxesBackSpec.pre enc Tryz.prog Tryz.f3 [] false w args ∧ laidMetH Tryz.prog T.laid w) ∧ sizedMet enc Tryz.prog Tryz.f3 (OpenSpec.ofChange Rows.boxesBackSpec) false w args)
      (Rows.boxesBackSpec.post enc Tryz.prog Tryz.f3 false true false false) := by
  refine returnsInHanded_of_change_and (C := Tryz.checked) (X := λw _ => laidMetH Tryz.prog T.laid w) (λ_ _ _ hh h => h.of_heap hh) own started (by kernel_rfl) Tryz.func3
    (ChangeSpec.witness_shaped (enc := enc) (C := Tryz.checked) (os := os) (X := λw _ => laidMetH Tryz.prog T.laid w) false (World.laidAll Tryz.prog os T.laid) #[.slice none 0 0, .bool false] 8 (World.laidAll_os _ _ _) (World.shaped_of_ZipB (by kernel_rfl) (by kernel_rfl)) (by kernel_rfl) (by kernel_rfl) (by kernel_rfl) (laid_met os _)) ?_
  intro W base args ds gs before hval0 hW _ hwt hL _;have hval : ∀ (j : Nat) t v, Tryz.f3.params[j]? = some t->args[j]? = some v->Value.okWide Tryz.prog W .any base t v := hval0;have hW' := hW;obtain ⟨p, q, hA0, hV, rfl, hfz, hnd⟩ := hW;have hA : DataW.TrodAll enc Tryz.prog W 0 (λ_ => true) true Tryz.f3.params.toList args.toList ds p := hA0;rw [Tryz.params3] at hA hval hwt
  letI := tokOf mA
  haveI := tokOf_ok mA
  obtain ⟨v0, v1, d0, d1, p0, p1, rfl, rfl, rfl, h0, h1⟩ := trodAll_two hA;obtain ⟨j, rfl, rfl, rfl⟩ := open_bool Tryz.underlying4 (hval 1 4 v1 rfl rfl) h1;obtain ⟨o, hR, ho, hd⟩ := bytes_R Tryz.underlying22 Tryz.underlying5 (by kernel_rfl) (hval 0 22 v0 rfl rfl) h0;have hl : (o.getD []).length < 2 ^ 62 := by
    rcases hd with rfl | ⟨es, sp, rfl, hd⟩
    · decide
    · have : (es.length + sp.length) * Tryz.prog.bytesOf 5 ≤ reachBytes := sized_slice (j := 0) (t := 22) hwt rfl rfl Tryz.underlying22
      rw [show Tryz.prog.bytesOf 5 = 1 from by kernel_rfl] at this;have e : reachBytes < 2 ^ 62 := by decide
      omega
  obtain ⟨rfl, rfl⟩ := trodVars_none hV;simp only [List.append_nil, List.nil_append] at hW';have hlt : ∀ x ∈ p0, x.block < W.heap.size := λx hx => hW'.lt x (by simpa using hx);exact calls_trueS (lf o ho hl j) (globs hL) (.cons hR (.cons (R.b j) .nil)) rfl Tryz.underlying4 rfl rfl hW' (λW' hb => trodAll_mk2 (Below.trod laidOut (by kernel_rfl) (of_decide_eq_true (by kernel_rfl)) h0 hb hlt) (shut_bool Tryz.underlying4 j))
end Go.Proofs.YtbaolbofgleabaaGreatDoor
