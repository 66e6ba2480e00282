/-
  What the listed variables hold, variable by variable: laws. No conditions: small laws.
-/
import Derived.Test.YthpafliegleiaaaGreatDoorRows
import Derived.LaidByTextLater
import Derived.SevenTiedAt
import Derived.KernelRfl
set_option linter.all false
namespace Go.Proofs.YthpafliegleiaaaGreatDoor
open Go
set_option maxRecDepth 100000
set_option maxHeartbeats 0
theorem laidRun_cons {P : Program} {W : World} {f : Nat} {n : String} {ns : List String} {e : String × DataW Unit} {p : List MemPlace} {y : List (String × DataW Unit) × List MemPlace} (h1 : DataW.laidRun P W f [n] = some ([e], p)) (h2 : DataW.laidRun P W f ns = some y) : DataW.laidRun P W f (n :: ns) = some (e :: y.1, p ++ y.2) := by
  unfold DataW.laidRun at h1 ⊢
  rw [h2]
  cases hg : P.globalNamed n with
  | none => rw [hg] at h1; cases h1
  | some g =>
    rw [hg] at h1
    simp only [] at h1 ⊢
    cases ht : (P.globals[g]?).map (·.type) with
    | none => rw [ht] at h1; cases h1
    | some t =>
      cases hc : W.var? P n with
      | none => rw [ht, hc] at h1; cases h1
      | some cs =>
        rw [ht, hc] at h1
        simp only [] at h1 ⊢
        cases hd : DataW.trod (fun _ => ()) P W 0 (fun _ => true) false f t cs.toList with
        | none => rw [hd] at h1; cases h1
        | some x =>
          rw [hd] at h1
          simp only [DataW.laidRun, List.append_nil, Option.some.injEq, Prod.mk.injEq, List.cons.injEq, and_true] at h1 ⊢
          obtain ⟨rfl, rfl⟩ := h1
          exact ⟨rfl, by rw [List.append_assoc]⟩
def okP (P : Program) (W : World) (B : Nat → Bool) (x : List (String × DataW Unit) × List MemPlace) : List (String × DataW Unit) × Bool := (x.1, decide x.2.Nodup && (laidRowsB P W x.2 && x.2.all fun p => B p.block))
/-- Variables that are laid, at these blocks. -/
structure Lay (P : Program) (W : World) (f : Nat) (l : List (String × DataW Unit)) (B : Nat → Bool) : Prop where
  ex : ∃ p, DataW.laidRun P W f (l.map (·.1)) = some (l, p) ∧ p.Nodup ∧ laidRowsB P W p = true ∧ ∀ x ∈ p, B x.block = true
theorem Lay.nil {P : Program} {W : World} {f : Nat} {B : Nat → Bool} : Lay P W f [] B := ⟨[], rfl, List.nodup_nil, rfl, fun x h => by cases h⟩
theorem Lay.cons {P : Program} {W : World} {f : Nat} {l : List (String × DataW Unit)} {B1 B2 B : Nat → Bool} {e : String × DataW Unit} (h : (DataW.laidRun P W f [e.1]).map (okP P W B1) = some ([e], true)) (hl : Lay P W f l B2) (hd : ∀ b, B1 b = true → B2 b = true → False) (hB : ∀ b, B1 b = true ∨ B2 b = true → B b = true) : Lay P W f (e :: l) B := by
  obtain ⟨q, h1, h2, h3, h4⟩ := hl.ex
  cases hr : DataW.laidRun P W f [e.1] with
  | none => rw [hr] at h; cases h
  | some x =>
    obtain ⟨a, p⟩ := x
    rw [hr] at h
    have h : some (a, decide p.Nodup && (laidRowsB P W p && p.all fun z => B1 z.block)) = some ([e], true) := h
    injection h with h
    injection h with ha hb
    subst ha
    rw [Bool.and_eq_true, Bool.and_eq_true] at hb
    obtain ⟨b1, b2, b3⟩ := hb
    have b3 := List.all_eq_true.1 b3
    refine ⟨p ++ q, ?_, ?_, ?_, fun x hx => ?_⟩
    · rw [List.map_cons, laidRun_cons hr h1]
    · rw [List.nodup_append]
      exact ⟨of_decide_eq_true b1, h2, fun x hx y hy e => by subst e; exact hd _ (b3 x hx) (h4 x hy)⟩
    · unfold laidRowsB at b2 h3 ⊢
      rw [List.all_append, b2, h3]; rfl
    · rcases List.mem_append.1 hx with hx | hx
      · exact hB _ (.inl (b3 x hx))
      · exact hB _ (.inr (h4 x hx))
theorem Lay.h1 {P : Program} {W : World} {f : Nat} {l : List (String × DataW Unit)} {B : Nat → Bool} (h : Lay P W f l B) : (DataW.laidRun P W f (l.map (·.1))).map (·.1) = some l := by
  obtain ⟨p, h1, _⟩ := h.ex
  rw [h1]; rfl
theorem Lay.h2 {P : Program} {W : World} {f : Nat} {l : List (String × DataW Unit)} {B : Nat → Bool} (h : Lay P W f l B) : (DataW.laidRun P W f (l.map (·.1))).map (fun x => decide x.2.Nodup && laidRowsB P W x.2) = some true := by
  obtain ⟨p, h1, h2, h3, _⟩ := h.ex
  rw [h1]
  show some (decide p.Nodup && laidRowsB P W p) = some true
  rw [decide_eq_true h2, h3]; rfl
def tl : List (String × DataW Unit) := Rows.fitchNeedsRow.laid.take 4 ++ Rows.fitchNeedsRow.laid.drop 5
def tv (i : Nat) : String × DataW Unit := tl.getD i ("", .nil)
noncomputable def wv (os : Os) (tape : Tape) : World := (varsWorld Tryz.prog 400 (varsId Tryz.prog) os tape).memory
end Go.Proofs.YthpafliegleiaaaGreatDoor
