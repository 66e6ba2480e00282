/-
  What is given to the law by runs. No conditions: definitions and laws.
-/
import Derived.Test.YtmioclbmbindhaaGreatDoorMemo0
import Derived.Test.YtmioclbmbindhaaGreatDoorW3
set_option linter.all false
noncomputable section
namespace Go.Lyc.T
open Go.Lyc Go.RowKit Go.Proofs
variable [Tok] [TokOk]
set_option maxRecDepth 100000
set_option maxHeartbeats 0
theorem b8f {e eb : ez} (h : EOk e) (he : e = eb := by kernel_rfl) : EOk eb := he ▸ h
theorem bb {g : Nat} {c : ch} {p : Bool} (h1 : base.funcs.get g = some c := by kernel_rfl) (h2 : base.ext g = 0 := by kernel_rfl) (h3 : base.pure g = p := by kernel_rfl) : base.funcs.get g = some c ∧ base.ext g = 0 ∧ base.pure g = p := ⟨h1, h2, h3⟩
theorem fB : vf base := ⟨bb, bb, bb, bb, bb, bb, bb, bb, bb, bb, bb, bb, bb, bb, bb, bb, bb, bb, bb, bb, bb, bb, bb, bb, bb, bb, bb, bb, bb, bb, bb, bb, bb, bb, bb, bb, bb, bb, bb, bb, bb, bb, bb, bb, bb, bb, bb, bb, bb, bb, bb, bb, bb, bb, bb, bb, bb, bb, bb, bb, bb, ⟨by kernel_rfl, by kernel_rfl⟩, ⟨by kernel_rfl, by kernel_rfl⟩, ⟨by kernel_rfl, by kernel_rfl⟩, by kernel_rfl⟩
theorem fC : vb base := ⟨bb, bb, bb, bb, bb, bb, bb, bb⟩
theorem fE : vc base := ⟨bb, bb, bb, bb, bb, bb, bb, bb⟩
theorem gAw : EOk (rT, [], .b true) := b8f t57
end Go.Lyc.T
