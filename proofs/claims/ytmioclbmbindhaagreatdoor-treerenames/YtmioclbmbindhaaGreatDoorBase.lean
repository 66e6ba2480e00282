/-
  The code is the program's. No conditions: definitions and closed facts.
-/
import Derived.Test.YtmioclbmbindhaaGreatDoorCodes0
import Derived.Test.YtmioclbmbindhaaGreatDoorRows
import Derived.KernelRfl
noncomputable section
namespace Go.Lyc.T
open Go.Lyc Go.Proofs Tryz
set_option maxRecDepth 100000
set_option maxHeartbeats 4000000
theorem hn : Tryz.prog.funcs.toList.all (fun f => !(f.name == "runtime.NumGoroutine")) = true := by decide +kernel
def MN : uB := ⟨fun g => match Tryz.prog.funcs[g]? with | some f => cfunc Tryz.prog f | none => none⟩
theorem a8P : MN.Mf (TN Tryz.prog) := by
  intro g cz h;simp only [MN] at h;split at h
  · next f e =>
    refine ⟨f, e, h, ?_⟩;have := hP.1 hn f (Array.mem_toList_iff.2 (Qs e));simpa using this
  · cases h
def a8Q : Nat := 161261621437063153024586409264555443448113843059677441037929221863754400641665369926312766795508543998048
def a8R (i : Nat) : Nat := cond (Nat.beq i 102) 8 (cond (Nat.beq i 239) 1 (cond (Nat.beq i 378) 2 0))

def T2 : AV := (.ag [(.i .u8 0), (.i .u8 0), (.i .u8 0), (.i .u8 0), (.i .u8 0), (.i .u8 0), (.i .u8 0), (.i .u8 0), (.i .u8 0), (.i .u8 1), (.i .u8 1), (.i .u8 1), (.i .u8 1), (.i .u8 1), (.i .u8 0), (.i .u8 0), (.i .u8 0), (.i .u8 0), (.i .u8 0), (.i .u8 0), (.i .u8 0), (.i .u8 0), (.i .u8 0), (.i .u8 0), (.i .u8 0), (.i .u8 0), (.i .u8 0), (.i .u8 0), (.i .u8 0), (.i .u8 0), (.i .u8 0), (.i .u8 0), (.i .u8 1), (.i .u8 0), (.i .u8 0), (.i .u8 0), (.i .u8 0), (.i .u8 0), (.i .u8 0), (.i .u8 0), (.i .u8 0), (.i .u8 0), (.i .u8 0), (.i .u8 0), (.i .u8 0), (.i .u8 0), (.i .u8 0), (.i .u8 0), (.i .u8 0), (.i .u8 0), (.i .u8 0), (.i .u8 0), (.i .u8 0), (.i .u8 0), (.i .u8 0), (.i .u8 0), (.i .u8 0), (.i .u8 0), (.i .u8 0), (.i .u8 0), (.i .u8 0), (.i .u8 0), (.i .u8 0), (.i .u8 0), (.i .u8 0), (.i .u8 0), (.i .u8 0), (.i .u8 0), (.i .u8 0), (.i .u8 0), (.i .u8 0), (.i .u8 0), (.i .u8 0), (.i .u8 0), (.i .u8 0), (.i .u8 0), (.i .u8 0), (.i .u8 0), (.i .u8 0), (.i .u8 0), (.i .u8 0), (.i .u8 0), (.i .u8 0), (.i .u8 0), (.i .u8 0), (.i .u8 0), (.i .u8 0), (.i .u8 0), (.i .u8 0), (.i .u8 0), (.i .u8 0), (.i .u8 0), (.i .u8 0), (.i .u8 0), (.i .u8 0), (.i .u8 0), (.i .u8 0), (.i .u8 0), (.i .u8 0), (.i .u8 0), (.i .u8 0), (.i .u8 0), (.i .u8 0), (.i .u8 0), (.i .u8 0), (.i .u8 0), (.i .u8 0), (.i .u8 0), (.i .u8 0), (.i .u8 0), (.i .u8 0), (.i .u8 0), (.i .u8 0), (.i .u8 0), (.i .u8 0), (.i .u8 0), (.i .u8 0), (.i .u8 0), (.i .u8 0), (.i .u8 0), (.i .u8 0), (.i .u8 0), (.i .u8 0), (.i .u8 0), (.i .u8 0), (.i .u8 0), (.i .u8 0), (.i .u8 0), (.i .u8 0), (.i .u8 0), (.i .u8 0), (.i .u8 0), (.i .u8 0), (.i .u8 0), (.i .u8 0), (.i .u8 0), (.i .u8 0), (.i .u8 0), (.i .u8 0), (.i .u8 0), (.i .u8 0), (.i .u8 0), (.i .u8 0), (.i .u8 0), (.i .u8 0), (.i .u8 0), (.i .u8 0), (.i .u8 0), (.i .u8 0), (.i .u8 0), (.i .u8 0), (.i .u8 0), (.i .u8 0), (.i .u8 0), (.i .u8 0), (.i .u8 0), (.i .u8 0), (.i .u8 0), (.i .u8 0), (.i .u8 0), (.i .u8 0), (.i .u8 0), (.i .u8 0), (.i .u8 0), (.i .u8 0), (.i .u8 0), (.i .u8 0), (.i .u8 0), (.i .u8 0), (.i .u8 0), (.i .u8 0), (.i .u8 0), (.i .u8 0), (.i .u8 0), (.i .u8 0), (.i .u8 0), (.i .u8 0), (.i .u8 0), (.i .u8 0), (.i .u8 0), (.i .u8 0), (.i .u8 0), (.i .u8 0), (.i .u8 0), (.i .u8 0), (.i .u8 0), (.i .u8 0), (.i .u8 0), (.i .u8 0), (.i .u8 0), (.i .u8 0), (.i .u8 0), (.i .u8 0), (.i .u8 0), (.i .u8 0), (.i .u8 0), (.i .u8 0), (.i .u8 0), (.i .u8 0), (.i .u8 0), (.i .u8 0), (.i .u8 0), (.i .u8 0), (.i .u8 0), (.i .u8 0), (.i .u8 0), (.i .u8 0), (.i .u8 0), (.i .u8 0), (.i .u8 0), (.i .u8 0), (.i .u8 0), (.i .u8 0), (.i .u8 0), (.i .u8 0), (.i .u8 0), (.i .u8 0), (.i .u8 0), (.i .u8 0), (.i .u8 0), (.i .u8 0), (.i .u8 0), (.i .u8 0), (.i .u8 0), (.i .u8 0), (.i .u8 0), (.i .u8 0), (.i .u8 0), (.i .u8 0), (.i .u8 0), (.i .u8 0), (.i .u8 0), (.i .u8 0), (.i .u8 0), (.i .u8 0), (.i .u8 0), (.i .u8 0), (.i .u8 0), (.i .u8 0), (.i .u8 0), (.i .u8 0), (.i .u8 0), (.i .u8 0), (.i .u8 0), (.i .u8 0), (.i .u8 0), (.i .u8 0), (.i .u8 0), (.i .u8 0), (.i .u8 0), (.i .u8 0), (.i .u8 0), (.i .u8 0), (.i .u8 0), (.i .u8 0), (.i .u8 0)])
def a8S : AV := (.ag [(.s [60, 45, 62]), (.i .u8 7), (.b false), (.s [45, 62]), (.i .u8 6), (.b true), (.s [117, 110, 116, 105, 108]), (.i .u8 14), (.b true), (.s [124]), (.i .u8 5), (.b false), (.s [38]), (.i .u8 4), (.b false)])
def a8T : AV := (.ag [(.b false), (.b false), (.i .u8 0), (.i .i64 0), (.i .i64 0), (.b true), (.b true), (.i .u8 1), (.i .i64 4), (.i .i64 0), (.b true), (.b true), (.i .u8 0), (.i .i64 0), (.i .i64 0), (.b true), (.b true), (.i .u8 0), (.i .i64 0), (.i .i64 1), (.b true), (.b true), (.i .u8 0), (.i .i64 0), (.i .i64 2), (.b true), (.b true), (.i .u8 0), (.i .i64 0), (.i .i64 2), (.b true), (.b true), (.i .u8 0), (.i .i64 0), (.i .i64 2), (.b true), (.b true), (.i .u8 0), (.i .i64 0), (.i .i64 2), (.b true), (.b true), (.i .u8 2), (.i .i64 0), (.i .i64 1), (.b true), (.b true), (.i .u8 2), (.i .i64 0), (.i .i64 1), (.b true), (.b true), (.i .u8 0), (.i .i64 0), (.i .i64 1), (.b true), (.b true), (.i .u8 0), (.i .i64 0), (.i .i64 1), (.b true), (.b true), (.i .u8 0), (.i .i64 0), (.i .i64 1), (.b true), (.b true), (.i .u8 0), (.i .i64 0), (.i .i64 1), (.b true), (.b true), (.i .u8 0), (.i .i64 0), (.i .i64 2), (.b false), (.b true), (.i .u8 3), (.i .i64 0), (.i .i64 0), (.b false), (.b true), (.i .u8 3), (.i .i64 2), (.i .i64 0)])
def a8U : AV := (.ag [(.s [60, 45, 62]), (.s [45, 62]), (.s [91, 93]), (.s [60, 62]), (.s [40]), (.s [41]), (.s [44]), (.s [126]), (.s [38]), (.s [124]), (.s [47]), (.s [91]), (.s [93])])
def laid : List (String × DataW Unit) := Go.Proofs.YtmioclbmbindhaaGreatDoor.Rows.treeRenamesRow.laid
def laidNames : List String := ((laid.drop 5).take 4).map Prod.fst
def UL : List (Nat × AV) := [(0, T2), (3, a8T), (7, a8U), (2, a8S)]
theorem globL_ok : mapOL (avVar Tryz.prog 12) (laid.filter fun x => laidNames.contains x.1) = some UL := by kernel_rfl
def base : dW := { funcs := MN, pd := GZ UL, pure := fun g => Nat.testBit a8Q g, aV := 0, ext := a8R }
variable [Tok] [TokOk]
theorem base_ok : oX Tryz.prog base where
  funcs := a8P
  GY := by kernel_rfl
  ext := ⟨⟨( fun g hg args v h w m O B us cs ha => by
    have hb : base.ext g = cond (Nat.beq g 102) 8 (cond (Nat.beq g 239) 1 (cond (Nat.beq g 378) 2 0)) := rfl;replace hg : base.ext g ≠ 0 := hg;replace h : extRow (base.ext g) args = some v := h;rw [hb] at hg h;cases ck : Nat.beq g 102 with
    | true =>
      rw [ck, cond_true] at h;cases (show (none : Option AV) = some v from h)
    | false =>
    rw [ck, cond_false] at hg h;cases h1 : Nat.beq g 239 with
    | true =>
      obtain rfl := fm h1;exact a7K Tryz.func239 (by kernel_rfl) (by kernel_rfl) (by kernel_rfl) (by kernel_rfl) args v h w m O B us cs ha
    | false =>
      rw [h1] at hg h;cases h2 : Nat.beq g 378 with
      | true =>
        obtain rfl := fm h2;exact a7L Tryz.func378 (by kernel_rfl) (by kernel_rfl) (by kernel_rfl) (by kernel_rfl) args v h w m O B us cs ha
      | false =>
        rw [h2] at hg; exact absurd rfl hg
    ), fun g hg t r es clock w us cs jk al => by
    have hb : base.ext g = cond (Nat.beq g 102) 8 (cond (Nat.beq g 239) 1 (cond (Nat.beq g 378) 2 0)) := rfl;replace hg : base.ext g = 8 := hg;rw [hb] at hg;cases q : Nat.beq g 102 with
    | true =>
      obtain rfl := fm q;exact a8v Tryz.func102 (by kernel_rfl) (by kernel_rfl) (by kernel_rfl) (by kernel_rfl) t r es clock w us cs jk al
    | false =>
      rw [q, cond_false] at hg;revert hg;cases Nat.beq g 239 <;> cases Nat.beq g 378 <;> simp⟩, fun _ _ _ _ h => by cases h⟩
/-- What is known of a call. -/
def EOk (e : Nat × List AV × AV) : Prop := ∀ eO, SpecEntry Tryz.prog (base.env []) eO e.1 e.2.1 e.2.2
def Ai : List (Nat × List AV × AV) → Prop
  | [] => True
  | e :: l => EOk e ∧ Ai l
omit [TokOk] in
theorem Ai.mem : ∀ {l : List (Nat × List AV × AV)}, Ai l → ∀ e ∈ l, EOk e
  | [], _, e, he => by cases he
  | x :: l, h, e, he => by
    rcases cH.1 he with rfl | he
    · exact h.1
    · exact Ai.mem h.2 e he
theorem UM (l : List (Nat × List AV × AV)) (ar : Ai l) {e : Nat × List AV × AV} (al : runsTo base l 100000 e = true) : EOk e := fun eO => C7.entry base_ok (fun e he => ar.mem e he) al eO
theorem fN (l : List (Nat × List AV × AV)) (ar : Ai l) {e : Nat × List AV × AV} (al : runsTo base l 100000 e = true := by decide +kernel) : EOk e := UM l ar al
theorem o0 {e : Nat × List AV × AV} (al : runsTo base [] 100000 e = true := by decide +kernel) : EOk e := UM [] trivial al
abbrev ez := Nat × List AV × AV
end Go.Lyc.T
