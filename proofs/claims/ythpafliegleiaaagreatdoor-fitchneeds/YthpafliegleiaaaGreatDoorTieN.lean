/-
  The row's tie: what the listed variables hold is what the program's text lays. No conditions: closed facts.
-/
import Derived.Test.YthpafliegleiaaaGreatDoorTieB
import Derived.Test.YthpafliegleiaaaGreatDoorTieC
import Derived.Test.YthpafliegleiaaaGreatDoorTieD
import Derived.Test.YthpafliegleiaaaGreatDoorTieE
set_option linter.all false
namespace Go.Proofs.YthpafliegleiaaaGreatDoor
open Go
set_option maxRecDepth 100000
set_option maxHeartbeats 0
theorem tp1 : Tryz.prog.worded (varsWordLater true) = true := by kernel_rfl
theorem tp2 : Tryz.prog.worded (varsWordLater !true) = false := by kernel_rfl
theorem tp3 : Tryz.prog.worded rootWordLater = true := by kernel_rfl
def tk : List LaidKind := [.data, .data, .data, .data, .data, .listed, .data, .data, .data]
theorem tp4 : tl.map (fun x => Tryz.prog.kindOfLater x.1) = tk.map some := by kernel_rfl
theorem tp5 : (Tryz.prog.funcNamed "gosem.cut.vars").isSome = true := by kernel_rfl
theorem tp6 : varsNamedLaterB Tryz.prog (varsId Tryz.prog) tl = true := by kernel_rfl
theorem tp7 (os : Os) (tape : Tape) : varsDone Tryz.prog 400 (varsId Tryz.prog) os tape = true := by kernel_rfl
theorem tp10 : (tl.all fun x => x.2.handleName?.isNone) = true := by kernel_rfl
theorem tp8 (os : Os) (tape : Tape) : Lay Tryz.prog (wv os tape) 8 [tv 0, tv 1, tv 2, tv 3, tv 4, tv 5, tv 6, tv 7, tv 8] (fun _ => true) := by
 have l8 := Lay.cons (tv8 os tape) (Lay.nil (B := fun _ => false)) (B := fun b => [10].contains b) (fun b h1 h2 => by simp at h1 h2 <;> omega) (fun b h => by simp at h ⊢ <;> omega)
 have l7 := Lay.cons (tv7 os tape) l8 (B := fun b => [9, 10].contains b) (fun b h1 h2 => by simp at h1 h2 <;> omega) (fun b h => by simp at h ⊢ <;> omega)
 have l6 := Lay.cons (tv6 os tape) l7 (B := fun b => [8, 9, 10].contains b) (fun b h1 h2 => by simp at h1 h2 <;> omega) (fun b h => by simp at h ⊢ <;> omega)
 have l5 := Lay.cons (tv5 os tape) l6 (B := fun b => !([7, 3, 2, 0, 6].contains b)) (fun b h1 h2 => by simp at h1 h2 <;> omega) (fun b h => by simp at h ⊢ <;> omega)
 have l4 := Lay.cons (tv4 os tape) l5 (B := fun b => !([7, 3, 2, 0].contains b)) (fun b h1 h2 => by simp at h1 h2 <;> omega) (fun b h => by simp at h ⊢ <;> omega)
 have l3 := Lay.cons (tv3 os tape) l4 (B := fun b => !([7, 3, 2].contains b)) (fun b h1 h2 => by simp at h1 h2 <;> omega) (fun b h => by simp at h ⊢ <;> omega)
 have l2 := Lay.cons (tv2 os tape) l3 (B := fun b => !([7, 3].contains b)) (fun b h1 h2 => by simp at h1 h2 <;> omega) (fun b h => by simp at h ⊢ <;> omega)
 have l1 := Lay.cons (tv1 os tape) l2 (B := fun b => !([7].contains b)) (fun b h1 h2 => by simp at h1 h2 <;> omega) (fun b h => by simp at h ⊢ <;> omega)
 have l0 := Lay.cons (tv0 os tape) l1 (B := fun b => !([].contains b)) (fun b h1 h2 => by simp at h1 h2 <;> omega) (fun b h => by simp at h ⊢ <;> omega)
 obtain ⟨p, a, b, c, _⟩ := l0.ex
 exact ⟨p, a, b, c, fun _ _ => rfl⟩
theorem tlE : tl = [tv 0, tv 1, tv 2, tv 3, tv 4, tv 5, tv 6, tv 7, tv 8] := by kernel_rfl
theorem tieN : Tryz.prog.laidByTextLater tl tk true := Program.laidByTextLater_by_run 400 8 tp1 tp2 tp3 tp4 tp5 tp6 tp7 (fun os tape => by rw [tlE]; exact (tp8 os tape).h1) (fun os tape => by rw [tlE]; exact (tp8 os tape).h2) tp10
theorem noOwnUnsafe : Tryz.pinned.checked.prog.headLifts.contains "ownunsafe" = false := by kernel_rfl
theorem fitsN : Tryz.pinned.checked.prog.listedFits Rows.fitchNeedsRow.laid = true := by
 unfold Program.listedFits
 rw [noOwnUnsafe]
 kernel_rfl
theorem fitchNeeds_row_tie : Rows.fitchNeedsRow.laidByTextAt .later Tryz.pinned [.data, .data, .data, .data, .pinned, .data, .listed, .data, .data, .data] true :=
 OpenClaim.laidByTextAt_pinned rfl rfl tieN rfl rfl rfl rfl (fun y hy _e => by
  simp only [Rows.fitchNeedsRow, List.zip_cons_cons, List.zip_nil_right, List.mem_cons, List.mem_nil_iff, or_false] at hy
  rcases hy with rfl | rfl | rfl | rfl | rfl | rfl | rfl | rfl | rfl | rfl
  all_goals first | (cases _e; done) | exact ⟨by as_aux_lemma => kernel_rfl, by as_aux_lemma => kernel_rfl⟩) fitsN
end Go.Proofs.YthpafliegleiaaaGreatDoor
