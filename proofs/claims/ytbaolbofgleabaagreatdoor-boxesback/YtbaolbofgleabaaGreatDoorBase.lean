/-
  The code is the program's. No conditions: definitions and closed facts.
-/
import Derived.Test.YtbaolbofgleabaaGreatDoorCodes0
import Derived.Test.YtbaolbofgleabaaGreatDoorRows
import Derived.KernelRfl
set_option linter.all false
noncomputable section
namespace Go.Lyc.T
def a0:AV:=.i .u8 0
open Go.Lyc Go.Proofs Tryz
set_option maxRecDepth 100000
set_option maxHeartbeats 4000000
theorem hn : Tryz.prog.funcs.toList.all (λf => !(f.name == "runtime.NumGoroutine")) = true := by decide +kernel
def eh : nY := ⟨λg => match Tryz.prog.funcs[g]? with | some f => cfunc Tryz.prog f | none => none⟩
theorem b8R : eh.FM (RD Tryz.prog) := by
  intro g cj h;simp only [eh] at h;split at h
  · next f e =>
    refine ⟨f, e, h, ?_⟩;have := pk.1 hn f (Array.mem_toList_iff.2 (Array.mem_of_getElem? e));simpa using this
  · cases h
def b8S : Nat := 36767649687591097717167231030169539675517016427079576754580419151387671730037957060579462275192450646548368
def b8T (i : Nat) : Nat := cond (Nat.beq i 286) 1 (cond (Nat.beq i 382) 2 0)

def a0w : AV := (.aj [(.b false), (.b false), a0, (.i .i64 0), (.i .i64 0), (.b true), (.b true), (.i .u8 1), (.i .i64 4), (.i .i64 0), (.b true), (.b true), a0, (.i .i64 0), (.i .i64 0), (.b true), (.b true), a0, (.i .i64 0), (.i .i64 1), (.b true), (.b true), a0, (.i .i64 0), (.i .i64 2), (.b true), (.b true), a0, (.i .i64 0), (.i .i64 2), (.b true), (.b true), a0, (.i .i64 0), (.i .i64 2), (.b true), (.b true), a0, (.i .i64 0), (.i .i64 2), (.b true), (.b true), (.i .u8 2), (.i .i64 0), (.i .i64 1), (.b true), (.b true), (.i .u8 2), (.i .i64 0), (.i .i64 1), (.b true), (.b true), a0, (.i .i64 0), (.i .i64 1), (.b true), (.b true), a0, (.i .i64 0), (.i .i64 1), (.b true), (.b true), a0, (.i .i64 0), (.i .i64 1), (.b true), (.b true), a0, (.i .i64 0), (.i .i64 1), (.b true), (.b true), a0, (.i .i64 0), (.i .i64 2), (.b false), (.b true), (.i .u8 3), (.i .i64 0), (.i .i64 0), (.b false), (.b true), (.i .u8 3), (.i .i64 2), (.i .i64 0)])
def b8U : AV := (.aj [a0, a0, a0, a0, a0, a0, a0, a0, a0, (.i .u8 1), (.i .u8 1), (.i .u8 1), (.i .u8 1), (.i .u8 1), a0, a0, a0, a0, a0, a0, a0, a0, a0, a0, a0, a0, a0, a0, a0, a0, a0, a0, (.i .u8 1), a0, a0, a0, a0, a0, a0, a0, a0, a0, a0, a0, a0, a0, a0, a0, a0, a0, a0, a0, a0, a0, a0, a0, a0, a0, a0, a0, a0, a0, a0, a0, a0, a0, a0, a0, a0, a0, a0, a0, a0, a0, a0, a0, a0, a0, a0, a0, a0, a0, a0, a0, a0, a0, a0, a0, a0, a0, a0, a0, a0, a0, a0, a0, a0, a0, a0, a0, a0, a0, a0, a0, a0, a0, a0, a0, a0, a0, a0, a0, a0, a0, a0, a0, a0, a0, a0, a0, a0, a0, a0, a0, a0, a0, a0, a0, a0, a0, a0, a0, a0, a0, a0, a0, a0, a0, a0, a0, a0, a0, a0, a0, a0, a0, a0, a0, a0, a0, a0, a0, a0, a0, a0, a0, a0, a0, a0, a0, a0, a0, a0, a0, a0, a0, a0, a0, a0, a0, a0, a0, a0, a0, a0, a0, a0, a0, a0, a0, a0, a0, a0, a0, a0, a0, a0, a0, a0, a0, a0, a0, a0, a0, a0, a0, a0, a0, a0, a0, a0, a0, a0, a0, a0, a0, a0, a0, a0, a0, a0, a0, a0, a0, a0, a0, a0, a0, a0, a0, a0, a0, a0, a0, a0, a0, a0, a0, a0, a0, a0, a0, a0, a0, a0, a0, a0, a0, a0, a0, a0, a0, a0, a0, a0, a0, a0, a0, a0, a0, a0, a0, a0, a0, a0, a0])
def b8V : AV := (.aj [(.s [60, 45, 62]), (.i .u8 7), (.b false), (.s [45, 62]), (.i .u8 6), (.b true), (.s [117, 110, 116, 105, 108]), (.i .u8 14), (.b true), (.s [124]), (.i .u8 5), (.b false), (.s [38]), (.i .u8 4), (.b false)])
def b8W : AV := (.aj [(.s [60, 45, 62]), (.s [45, 62]), (.s [91, 93]), (.s [60, 62]), (.s [40]), (.s [41]), (.s [44]), (.s [126]), (.s [38]), (.s [124]), (.s [47]), (.s [91]), (.s [93])])
def laid : List (String × DataW Unit) := Go.Proofs.YtbaolbofgleabaaGreatDoor.Rows.boxesBackRow.laid
def laidNames : List String := ((laid.drop 5).take 4).map Prod.fst
def Mi : List (Nat × AV) := [(1, b8U), (0, a0w), (8, b8W), (3, b8V)]
theorem globL_ok : mapOL (avVar Tryz.prog 12) (laid.filter λx => laidNames.contains x.1) = some Mi := by kernel_rfl
def base : bJ := { funcs := eh, nM := KX Mi, pure := λg => Nat.testBit b8S g, bh := 0, ext := b8T }
variable [Tok] [TokOk]
theorem base_ok : lb Tryz.prog base where
  funcs := b8R
  CL := by kernel_rfl
  ext g hg args v h w m O B us cs ha := by
    have hb : base.ext g = cond (Nat.beq g 286) 1 (cond (Nat.beq g 382) 2 0) := rfl;rw [hb] at hg h;cases h1 : Nat.beq g 286 with
    | true =>
      obtain rfl := gE h1;exact b4u Tryz.func286 (by kernel_rfl) (by kernel_rfl) (by kernel_rfl) (by kernel_rfl) args v h w m O B us cs ha
    | false =>
      rw [h1] at hg h;cases h2 : Nat.beq g 382 with
      | true =>
        obtain rfl := gE h2;exact b4v Tryz.func382 (by kernel_rfl) (by kernel_rfl) (by kernel_rfl) (by kernel_rfl) args v h w m O B us cs ha
      | false =>
        rw [h2] at hg; exact absurd I hg
/-- What is known of a call. -/
def EOk (e : Nat × List AV × AV) : Prop := ∀ b2, SpecEntry Tryz.prog (base.env []) b2 e.1 e.2.1 e.2.2
def C8 : List (Nat × List AV × AV)->Prop
  | [] => True
  | e :: l => EOk e ∧ C8 l
omit [TokOk] in
theorem C8.mem : ∀ {l : List (Nat × List AV × AV)}, C8 l->∀ e ∈ l, EOk e
  | [], _, e, he => by cases he
  | x :: l, h, e, he => by
    rcases c2.1 he with rfl | he
    · exact h.1
    · exact C8.mem h.2 e he
theorem a1j (l : List (Nat × List AV × AV)) (hl : C8 l) {e : Nat × List AV × AV} (ak : runsTo base l 100000 e = true) : EOk e := λb2 => z8.entry base_ok (λe he => hl.mem e he) ak b2
theorem fy (l : List (Nat × List AV × AV)) (hl : C8 l) {e : Nat × List AV × AV} (ak : runsTo base l 100000 e = true := by decide +kernel) : EOk e := a1j l hl ak
theorem kl {e : Nat × List AV × AV} (ak : runsTo base [] 100000 e = true := by decide +kernel) : EOk e := a1j [] trivial ak
abbrev dA := Nat × List AV × AV
end Go.Lyc.T
