/-
  The code is the program's. No conditions: definitions and closed facts.
-/
import Derived.Test.YtepnpmoabkhboaaGreatDoorCodes0
import Derived.Test.YtepnpmoabkhboaaGreatDoorRows
import Derived.KernelRfl
set_option linter.all false
noncomputable section
namespace Go.Lyc.T
def aW:AV:=.i .u8 0
open Go.Lyc Go.Proofs Tryz
set_option maxRecDepth 100000
set_option maxHeartbeats 4000000
theorem hn : Tryz.prog.funcs.toList.all (λf => !(f.name == "runtime.NumGoroutine")) = true := by decide +kernel
def eJ : pF := ⟨λg => match Tryz.prog.funcs[g]? with | some f => cfunc Tryz.prog f | none => none⟩
theorem b5V : eJ.PL (XS Tryz.prog) := by
  intro g bG h;simp only [eJ] at h;split at h
  · next f e =>
    refine ⟨f, e, h, ?_⟩;have := mx.1 hn f (Array.mem_toList_iff.2 (Wf e));simpa using this
  · cases h
def b5W : Nat := 441711766194615116864460830870696965570202812118838025600642982273865720
def b5X (i : Nat) : Nat := cond (Nat.beq i 70) 7 (cond (Nat.beq i 71) 7 (cond (Nat.beq i 286) 1 (cond (Nat.beq i 266) 2 0)))

def X7 : AV := (.ad [(.b false), (.b false), aW, (.i .i64 0), (.i .i64 0), (.b true), (.b true), (.i .u8 1), (.i .i64 4), (.i .i64 0), (.b true), (.b true), aW, (.i .i64 0), (.i .i64 0), (.b true), (.b true), aW, (.i .i64 0), (.i .i64 1), (.b true), (.b true), aW, (.i .i64 0), (.i .i64 2), (.b true), (.b true), aW, (.i .i64 0), (.i .i64 2), (.b true), (.b true), aW, (.i .i64 0), (.i .i64 2), (.b true), (.b true), aW, (.i .i64 0), (.i .i64 2), (.b true), (.b true), (.i .u8 2), (.i .i64 0), (.i .i64 1), (.b true), (.b true), (.i .u8 2), (.i .i64 0), (.i .i64 1), (.b true), (.b true), aW, (.i .i64 0), (.i .i64 1), (.b true), (.b true), aW, (.i .i64 0), (.i .i64 1), (.b true), (.b true), aW, (.i .i64 0), (.i .i64 1), (.b true), (.b true), aW, (.i .i64 0), (.i .i64 1), (.b true), (.b true), aW, (.i .i64 0), (.i .i64 2), (.b false), (.b true), (.i .u8 3), (.i .i64 0), (.i .i64 0), (.b false), (.b true), (.i .u8 3), (.i .i64 2), (.i .i64 0)])
def b5Y : AV := (.ad [aW, aW, aW, aW, aW, aW, aW, aW, aW, (.i .u8 1), (.i .u8 1), (.i .u8 1), (.i .u8 1), (.i .u8 1), aW, aW, aW, aW, aW, aW, aW, aW, aW, aW, aW, aW, aW, aW, aW, aW, aW, aW, (.i .u8 1), aW, aW, aW, aW, aW, aW, aW, aW, aW, aW, aW, aW, aW, aW, aW, aW, aW, aW, aW, aW, aW, aW, aW, aW, aW, aW, aW, aW, aW, aW, aW, aW, aW, aW, aW, aW, aW, aW, aW, aW, aW, aW, aW, aW, aW, aW, aW, aW, aW, aW, aW, aW, aW, aW, aW, aW, aW, aW, aW, aW, aW, aW, aW, aW, aW, aW, aW, aW, aW, aW, aW, aW, aW, aW, aW, aW, aW, aW, aW, aW, aW, aW, aW, aW, aW, aW, aW, aW, aW, aW, aW, aW, aW, aW, aW, aW, aW, aW, aW, aW, aW, aW, aW, aW, aW, aW, aW, aW, aW, aW, aW, aW, aW, aW, aW, aW, aW, aW, aW, aW, aW, aW, aW, aW, aW, aW, aW, aW, aW, aW, aW, aW, aW, aW, aW, aW, aW, aW, aW, aW, aW, aW, aW, aW, aW, aW, aW, aW, aW, aW, aW, aW, aW, aW, aW, aW, aW, aW, aW, aW, aW, aW, aW, aW, aW, aW, aW, aW, aW, aW, aW, aW, aW, aW, aW, aW, aW, aW, aW, aW, aW, aW, aW, aW, aW, aW, aW, aW, aW, aW, aW, aW, aW, aW, aW, aW, aW, aW, aW, aW, aW, aW, aW, aW, aW, aW, aW, aW, aW, aW, aW, aW, aW, aW, aW, aW, aW, aW, aW, aW, aW, aW, aW])
def b5Z : AV := (.ad [(.s [60, 45, 62]), (.i .u8 7), (.b false), (.s [45, 62]), (.i .u8 6), (.b true), (.s [117, 110, 116, 105, 108]), (.i .u8 14), (.b true), (.s [124]), (.i .u8 5), (.b false), (.s [38]), (.i .u8 4), (.b false)])
def b6a : AV := (.ad [(.s [60, 45, 62]), (.s [45, 62]), (.s [91, 93]), (.s [60, 62]), (.s [40]), (.s [41]), (.s [44]), (.s [126]), (.s [38]), (.s [124]), (.s [47]), (.s [91]), (.s [93])])
def laid : List (String × DataW Unit) := Go.Proofs.YtepnpmoabkhboaaGreatDoor.Rows.logicFitsRow.laid
def laidNames : List String := ((laid.drop 5).take 4).map Prod.fst
def Zp : List (Nat × AV) := [(1, b5Y), (0, X7), (10, b6a), (3, b5Z)]
theorem globL_ok : mapOL (avVar Tryz.prog 12) (laid.filter λx => laidNames.contains x.1) = some Zp := by kernel_rfl
def base : b8 := { funcs := eJ, mA := JM Zp, pure := λg => Nat.testBit b5W g, a2 := 0, ext := b5X }
variable [Tok] [TokOk]
theorem KB : jb Tryz.prog base where
  funcs := b5V
  vo := by kernel_rfl
  ext := ⟨( λg hg args v h w m O B us cs ha => by
    have hb : base.ext g = cond (Nat.beq g 70) 7 (cond (Nat.beq g 71) 7 (cond (Nat.beq g 286) 1 (cond (Nat.beq g 266) 2 0))) := rfl;replace hg : base.ext g ≠ 0 := hg;replace h : extRow (base.ext g) args = some v := h;rw [hb] at hg h;cases cM : Nat.beq g 70 with
    | true =>
      rw [cM, cond_true] at h;cases (show (none : Option AV) = some v from h)
    | false =>
    rw [cM, cond_false] at hg h;cases iB : Nat.beq g 71 with
    | true =>
      rw [iB, cond_true] at h;cases (show (none : Option AV) = some v from h)
    | false =>
    rw [iB, cond_false] at hg h;cases h1 : Nat.beq g 286 with
    | true =>
      obtain rfl := eM h1;exact b4u Tryz.func286 (by kernel_rfl) (by kernel_rfl) (by kernel_rfl) (by kernel_rfl) args v h w m O B us cs ha
    | false =>
      rw [h1] at hg h;cases h2 : Nat.beq g 266 with
      | true =>
        obtain rfl := eM h2;exact b4v Tryz.func266 (by kernel_rfl) (by kernel_rfl) (by kernel_rfl) (by kernel_rfl) args v h w m O B us cs ha
      | false =>
        rw [h2] at hg; exact absurd I hg
    ), λ_ _ _ _ h => by cases h⟩
/-- What is known of a call. -/
def aL (e : Nat × List AV × AV) : Prop := ∀ bN, SpecEntry Tryz.prog (base.env []) bN e.1 e.2.1 e.2.2
def tF : List (Nat × List AV × AV)->Prop
  | [] => True
  | e :: l => aL e ∧ tF l
omit [TokOk] in
theorem tF.mem : ∀ {l : List (Nat × List AV × AV)}, tF l->∀ e ∈ l, aL e
  | [], _, e, he => by cases he
  | x :: l, h, e, he => by
    rcases eH.1 he with rfl | he
    · exact h.1
    · exact tF.mem h.2 e he
theorem Zq (l : List (Nat × List AV × AV)) (ao : tF l) {e : Nat × List AV × AV} (al : runsTo base l 100000 e = true) : aL e := λbN => gu.entry KB (λe he => ao.mem e he) al bN
theorem bl (l : List (Nat × List AV × AV)) (ao : tF l) {e : Nat × List AV × AV} (al : runsTo base l 100000 e = true := by decide +kernel) : aL e := Zq l ao al
theorem bL {e : Nat × List AV × AV} (al : runsTo base [] 100000 e = true := by decide +kernel) : aL e := Zq [] trivial al
abbrev aM := Nat × List AV × AV
end Go.Lyc.T
