/-
  The code is the program's. No conditions: definitions and closed facts.
-/
import Derived.Test.YtdlohhnonefolaaGreatDoorCodes0
import Derived.Test.YtdlohhnonefolaaGreatDoorRows
import Derived.KernelRfl
noncomputable section
namespace Go.Lyc.T
open Go.Lyc Go.Proofs Tryz
set_option maxRecDepth 100000
set_option maxHeartbeats 4000000
theorem hn : Tryz.prog.funcs.toList.all (fun f => !(f.name == "runtime.NumGoroutine")) = true := by decide +kernel
def ft : FT := ⟨fun g => match Tryz.prog.funcs[g]? with | some f => cfunc Tryz.prog f | none => none⟩
theorem ft_ok : ft.All (FuncIs Tryz.prog) := by
  intro g af h
  simp only [ft] at h
  split at h
  · next f e =>
    refine ⟨f, e, h, ?_⟩
    have := List.all_eq_true.1 hn f (Array.mem_toList_iff.2 (Array.mem_of_getElem? e))
    simpa using this
  · cases h
def pureM : Nat := 1285553573958106681832237148997159544918548046430347393096486496
def extF (i : Nat) : Nat := cond (Nat.beq i 4) 7 (cond (Nat.beq i 39) 7 (cond (Nat.beq i 228) 1 (cond (Nat.beq i 281) 2 0)))

def gl0 : AV := (.ag [(.i .u8 0), (.i .u8 0), (.i .u8 0), (.i .u8 0), (.i .u8 0), (.i .u8 0), (.i .u8 0), (.i .u8 0), (.i .u8 0), (.i .u8 1), (.i .u8 1), (.i .u8 1), (.i .u8 1), (.i .u8 1), (.i .u8 0), (.i .u8 0), (.i .u8 0), (.i .u8 0), (.i .u8 0), (.i .u8 0), (.i .u8 0), (.i .u8 0), (.i .u8 0), (.i .u8 0), (.i .u8 0), (.i .u8 0), (.i .u8 0), (.i .u8 0), (.i .u8 0), (.i .u8 0), (.i .u8 0), (.i .u8 0), (.i .u8 1), (.i .u8 0), (.i .u8 0), (.i .u8 0), (.i .u8 0), (.i .u8 0), (.i .u8 0), (.i .u8 0), (.i .u8 0), (.i .u8 0), (.i .u8 0), (.i .u8 0), (.i .u8 0), (.i .u8 0), (.i .u8 0), (.i .u8 0), (.i .u8 0), (.i .u8 0), (.i .u8 0), (.i .u8 0), (.i .u8 0), (.i .u8 0), (.i .u8 0), (.i .u8 0), (.i .u8 0), (.i .u8 0), (.i .u8 0), (.i .u8 0), (.i .u8 0), (.i .u8 0), (.i .u8 0), (.i .u8 0), (.i .u8 0), (.i .u8 0), (.i .u8 0), (.i .u8 0), (.i .u8 0), (.i .u8 0), (.i .u8 0), (.i .u8 0), (.i .u8 0), (.i .u8 0), (.i .u8 0), (.i .u8 0), (.i .u8 0), (.i .u8 0), (.i .u8 0), (.i .u8 0), (.i .u8 0), (.i .u8 0), (.i .u8 0), (.i .u8 0), (.i .u8 0), (.i .u8 0), (.i .u8 0), (.i .u8 0), (.i .u8 0), (.i .u8 0), (.i .u8 0), (.i .u8 0), (.i .u8 0), (.i .u8 0), (.i .u8 0), (.i .u8 0), (.i .u8 0), (.i .u8 0), (.i .u8 0), (.i .u8 0), (.i .u8 0), (.i .u8 0), (.i .u8 0), (.i .u8 0), (.i .u8 0), (.i .u8 0), (.i .u8 0), (.i .u8 0), (.i .u8 0), (.i .u8 0), (.i .u8 0), (.i .u8 0), (.i .u8 0), (.i .u8 0), (.i .u8 0), (.i .u8 0), (.i .u8 0), (.i .u8 0), (.i .u8 0), (.i .u8 0), (.i .u8 0), (.i .u8 0), (.i .u8 0), (.i .u8 0), (.i .u8 0), (.i .u8 0), (.i .u8 0), (.i .u8 0), (.i .u8 0), (.i .u8 0), (.i .u8 0), (.i .u8 0), (.i .u8 0), (.i .u8 0), (.i .u8 0), (.i .u8 0), (.i .u8 0), (.i .u8 0), (.i .u8 0), (.i .u8 0), (.i .u8 0), (.i .u8 0), (.i .u8 0), (.i .u8 0), (.i .u8 0), (.i .u8 0), (.i .u8 0), (.i .u8 0), (.i .u8 0), (.i .u8 0), (.i .u8 0), (.i .u8 0), (.i .u8 0), (.i .u8 0), (.i .u8 0), (.i .u8 0), (.i .u8 0), (.i .u8 0), (.i .u8 0), (.i .u8 0), (.i .u8 0), (.i .u8 0), (.i .u8 0), (.i .u8 0), (.i .u8 0), (.i .u8 0), (.i .u8 0), (.i .u8 0), (.i .u8 0), (.i .u8 0), (.i .u8 0), (.i .u8 0), (.i .u8 0), (.i .u8 0), (.i .u8 0), (.i .u8 0), (.i .u8 0), (.i .u8 0), (.i .u8 0), (.i .u8 0), (.i .u8 0), (.i .u8 0), (.i .u8 0), (.i .u8 0), (.i .u8 0), (.i .u8 0), (.i .u8 0), (.i .u8 0), (.i .u8 0), (.i .u8 0), (.i .u8 0), (.i .u8 0), (.i .u8 0), (.i .u8 0), (.i .u8 0), (.i .u8 0), (.i .u8 0), (.i .u8 0), (.i .u8 0), (.i .u8 0), (.i .u8 0), (.i .u8 0), (.i .u8 0), (.i .u8 0), (.i .u8 0), (.i .u8 0), (.i .u8 0), (.i .u8 0), (.i .u8 0), (.i .u8 0), (.i .u8 0), (.i .u8 0), (.i .u8 0), (.i .u8 0), (.i .u8 0), (.i .u8 0), (.i .u8 0), (.i .u8 0), (.i .u8 0), (.i .u8 0), (.i .u8 0), (.i .u8 0), (.i .u8 0), (.i .u8 0), (.i .u8 0), (.i .u8 0), (.i .u8 0), (.i .u8 0), (.i .u8 0), (.i .u8 0), (.i .u8 0), (.i .u8 0), (.i .u8 0), (.i .u8 0), (.i .u8 0), (.i .u8 0), (.i .u8 0), (.i .u8 0), (.i .u8 0), (.i .u8 0), (.i .u8 0), (.i .u8 0), (.i .u8 0), (.i .u8 0), (.i .u8 0), (.i .u8 0), (.i .u8 0), (.i .u8 0), (.i .u8 0), (.i .u8 0), (.i .u8 0), (.i .u8 0), (.i .u8 0), (.i .u8 0), (.i .u8 0), (.i .u8 0)])
def gl1 : AV := (.ag [(.b false), (.b false), (.i .u8 0), (.i .i64 0), (.i .i64 0), (.b true), (.b true), (.i .u8 1), (.i .i64 4), (.i .i64 0), (.b true), (.b true), (.i .u8 0), (.i .i64 0), (.i .i64 0), (.b true), (.b true), (.i .u8 0), (.i .i64 0), (.i .i64 1), (.b true), (.b true), (.i .u8 0), (.i .i64 0), (.i .i64 2), (.b true), (.b true), (.i .u8 0), (.i .i64 0), (.i .i64 2), (.b true), (.b true), (.i .u8 0), (.i .i64 0), (.i .i64 2), (.b true), (.b true), (.i .u8 0), (.i .i64 0), (.i .i64 2), (.b true), (.b true), (.i .u8 2), (.i .i64 0), (.i .i64 1), (.b true), (.b true), (.i .u8 2), (.i .i64 0), (.i .i64 1), (.b true), (.b true), (.i .u8 0), (.i .i64 0), (.i .i64 1), (.b true), (.b true), (.i .u8 0), (.i .i64 0), (.i .i64 1), (.b true), (.b true), (.i .u8 0), (.i .i64 0), (.i .i64 1), (.b true), (.b true), (.i .u8 0), (.i .i64 0), (.i .i64 1), (.b true), (.b true), (.i .u8 0), (.i .i64 0), (.i .i64 2), (.b false), (.b true), (.i .u8 3), (.i .i64 0), (.i .i64 0), (.b false), (.b true), (.i .u8 3), (.i .i64 2), (.i .i64 0)])
def gl3 : AV := (.ag [(.s [60, 45, 62]), (.i .u8 7), (.b false), (.s [45, 62]), (.i .u8 6), (.b true), (.s [117, 110, 116, 105, 108]), (.i .u8 14), (.b true), (.s [124]), (.i .u8 5), (.b false), (.s [38]), (.i .u8 4), (.b false)])
def gl7 : AV := (.ag [(.s [60, 45, 62]), (.s [45, 62]), (.s [91, 93]), (.s [60, 62]), (.s [40]), (.s [41]), (.s [44]), (.s [126]), (.s [38]), (.s [124]), (.s [47]), (.s [91]), (.s [93])])
def laid : List (String × DataW Unit) := Go.Proofs.YtdlohhnonefolaaGreatDoor.Rows.logicNamedRow.laid
def laidNames : List String := ((laid.drop 5).take 4).map Prod.fst
def globL : List (Nat × AV) := [(0, gl0), (1, gl1), (7, gl7), (3, gl3)]
theorem globL_ok : mapOL (avVar Tryz.prog 12) (laid.filter fun x => laidNames.contains x.1) = some globL := by kernel_rfl
def base : Base := { funcs := ft, glob := lookG globL, pure := fun g => Nat.testBit pureM g, fz := 0, ext := extF }
variable [Tok] [TokOk]
theorem base_ok : BaseOk Tryz.prog base where
  funcs := ft_ok
  orders := by kernel_rfl
  ext := ⟨( fun g hg args v h w m O B us cs ha => by
    have hb : base.ext g = cond (Nat.beq g 4) 7 (cond (Nat.beq g 39) 7 (cond (Nat.beq g 228) 1 (cond (Nat.beq g 281) 2 0))) := rfl
    replace hg : base.ext g ≠ 0 := hg
    replace h : extRow (base.ext g) args = some v := h
    rw [hb] at hg h
    cases q0 : Nat.beq g 4 with
    | true =>
      rw [q0, cond_true] at h
      replace h : (none : Option AV) = some v := h
      cases h
    | false =>
    rw [q0, cond_false] at hg h
    cases q1 : Nat.beq g 39 with
    | true =>
      rw [q1, cond_true] at h
      replace h : (none : Option AV) = some v := h
      cases h
    | false =>
    rw [q1, cond_false] at hg h
    cases h1 : Nat.beq g 228 with
    | true =>
      obtain rfl := Nat.eq_of_beq_eq_true h1
      exact ext_index Tryz.func228 (by kernel_rfl) (by kernel_rfl) (by kernel_rfl) (by kernel_rfl) args v h w m O B us cs ha
    | false =>
      rw [h1] at hg h
      cases h2 : Nat.beq g 281 with
      | true =>
        obtain rfl := Nat.eq_of_beq_eq_true h2
        exact ext_cmp Tryz.func281 (by kernel_rfl) (by kernel_rfl) (by kernel_rfl) (by kernel_rfl) args v h w m O B us cs ha
      | false =>
        rw [h2] at hg; exact absurd rfl hg
    ), fun _ _ _ _ h => by cases h⟩
/-- What is known of a call. -/
def EOk (e : Nat × List AV × AV) : Prop := ∀ B0, SpecEntry Tryz.prog (base.env []) B0 e.1 e.2.1 e.2.2
def AllOk : List (Nat × List AV × AV) → Prop
  | [] => True
  | e :: l => EOk e ∧ AllOk l
omit [TokOk] in
theorem AllOk.mem : ∀ {l : List (Nat × List AV × AV)}, AllOk l → ∀ e ∈ l, EOk e
  | [], _, e, he => by cases he
  | x :: l, h, e, he => by
    rcases List.mem_cons.1 he with rfl | he
    · exact h.1
    · exact AllOk.mem h.2 e he
theorem eok (l : List (Nat × List AV × AV)) (hl : AllOk l) {e : Nat × List AV × AV} (hr : runsTo base l 100000 e = true) : EOk e := fun B0 => TabOk.entry base_ok (fun e he => hl.mem e he) hr B0
theorem ek (l : List (Nat × List AV × AV)) (hl : AllOk l) {e : Nat × List AV × AV} (hr : runsTo base l 100000 e = true := by decide +kernel) : EOk e := eok l hl hr
theorem ek0 {e : Nat × List AV × AV} (hr : runsTo base [] 100000 e = true := by decide +kernel) : EOk e := eok [] trivial hr
abbrev En := Nat × List AV × AV
end Go.Lyc.T
