/-
  What is given to the law by runs. No conditions: definitions and laws.
-/
import Derived.Test.YtjjgmmaiienmcaaGreatDoorMemo1
import Derived.Test.YtjjgmmaiienmcaaGreatDoorW2
set_option linter.all false
noncomputable section
namespace Go.Lyc.T
open Go.Lyc Go.RowKit Go.Proofs
variable [Tok] [TokOk]
set_option maxRecDepth 100000
set_option maxHeartbeats 0
theorem eqE {e e' : En} (h : EOk e) (he : e = e' := by kernel_rfl) : EOk e' := he ▸ h
theorem k3 {g : Nat} {c : AFunc} {p : Bool} (h1 : base.funcs.get g = some c := by kernel_rfl) (h2 : base.ext g = 0 := by kernel_rfl) (h3 : base.pure g = p := by kernel_rfl) : base.funcs.get g = some c ∧ base.ext g = 0 ∧ base.pure g = p := ⟨h1, h2, h3⟩
theorem fc18 : FC18 base := ⟨k3, k3, k3, k3, k3, k3, k3, k3, k3, k3, k3, k3, k3, k3, k3, k3, k3, k3, k3, k3, k3, k3, k3, k3, k3, k3, k3, k3, k3, k3, k3, k3, k3, k3, k3, k3, k3, k3, k3, k3, k3, k3, k3, k3, k3, k3, k3, k3, k3, k3, k3, k3, k3, k3, k3, ⟨by kernel_rfl, by kernel_rfl⟩⟩
theorem gAw : EOk (n_awake18, [], .b true) := eqE t54
end Go.Lyc.T
