/-
  Calls whose results have objects, and calls that use such. No conditions: definitions and laws.
-/
import Derived.Test.YtepnpmoabkhboaaGreatDoorW3
set_option linter.all false
noncomputable section
namespace Go.Lyc.T
open Go.Lyc Go.RowKit Go.Proofs
variable [Tok] [TokOk]
set_option maxRecDepth 100000
set_option maxHeartbeats 0
/-- What is known of a call whose result has objects. -/
def CW (e : j0) : Prop := kh Tryz.prog base e
def CX : List j0->Prop
  | [] => True
  | e :: l => CW e ∧ CX l
theorem CX.mem : ∀ {l : List j0}, CX l->∀ e ∈ l, CW e
  | [], _, e, he => by cases he
  | x :: l, h, e, he => by
    rcases eH.1 he with rfl | he
    · exact h.1
    · exact CX.mem h.2 e he
theorem c7n (l : List aM) (ao : tF l) (o : List j0) (ho : CX o) {e : aM} (al : runsTo (base.b2 o) l 100000 e = true := by decide +kernel) : aL e := λbN => gu.entry (b := base.b2 o) (jb.b2 KB ho.mem) (λe he => ao.mem e he) al bN
theorem a3E (l : List aM) (ao : tF l) (o : List j0) (ho : CX o) (ids : List Nat) {e : j0} (al : objTo (base.b2 o) l 100000 e ids = true := by decide +kernel) : CW e := kh.of (c2b (b := base.b2 o) (jb.b2 KB ho.mem) (λe he => ao.mem e he) al)
theorem gd {e cp : aM} (h : aL e) (he : e = cp := by kernel_rfl) : aL cp := he ▸ h
theorem a3F {e cp : j0} (h : CW e) (he : e = cp := by kernel_rfl) : kh Tryz.prog base cp := he ▸ h
theorem bj {g : Nat} {c : bP} {p : Bool} (h1 : base.funcs.get g = some c := by kernel_rfl) (h2 : base.ext g = 0 := by kernel_rfl) (h3 : base.pure g = p := by kernel_rfl) : base.funcs.get g = some c ∧ base.ext g = 0 ∧ base.pure g = p := ⟨h1, h2, h3⟩
theorem ba {g : Nat} (h2 : base.ext g = 0 := by kernel_rfl) (h3 : base.pure g = true := by kernel_rfl) : base.ext g = 0 ∧ base.pure g = true := ⟨h2, h3⟩
theorem fD (l : List aM) (ao : tF l) {r : AV} (h : AF base l r = true := by decide +kernel) : ff Tryz.prog base r := ⟨l, λe he => ao.mem e he, h⟩
end Go.Lyc.T
