/-
  The logics of the library; what is known of formulas. No conditions: definitions and laws.
-/
import Derived.Test.YtidpbebfkcnlfaaGreatDoorMemo9
import Derived.Test.YtidpbebfkcnlfaaGreatDoorW2
set_option linter.all false
noncomputable section
namespace Go.Lyc.T
open Go.Lyc Go.RowKit Go.Proofs
variable [Tok] [TokOk]
set_option maxRecDepth 100000
set_option maxHeartbeats 0
def lgK1 : Lg := ⟨[75, 49], 254, 1, 0, [], [v38, v40, v41, v42, v43, v44, v46, v47, v48, v49, v50, v51, v53, v54, v55]⟩
theorem rkK1 : EOk (n_LRight, [lgK1.A true], .b true) := by
 have h : e63 = (n_LRight, [lgK1.A true], .b true) := by kernel_rfl
 rw [← h]; exact t63
theorem stK1 (σ : St) : snapshot σ 1000 (lgK1.A true) = some (lgK1.A true) := by kernel_rfl
def lgJ : Lg := ⟨[74], 254, 3, 0, [], [v38, v40, v41, v42, v43, v44, v46, v47, v48, v49, v50, v51, v53, v54]⟩
theorem rkJ : EOk (n_LRight, [lgJ.A true], .b true) := by
 have h : e253 = (n_LRight, [lgJ.A true], .b true) := by kernel_rfl
 rw [← h]; exact t253
theorem stJ (σ : St) : snapshot σ 1000 (lgJ.A true) = some (lgJ.A true) := by kernel_rfl
def lgK2 : Lg := ⟨[75, 50], 1022, 2, 0, [], [v38, v40, v41, v42, v43, v44, v46, v47, v48, v49, v50, v51, v53, v54, v55, v212, v213, v214, v215]⟩
theorem rkK2 : EOk (n_LRight, [lgK2.A true], .b true) := by
 have h : e306 = (n_LRight, [lgK2.A true], .b true) := by kernel_rfl
 rw [← h]; exact t306
theorem stK2 (σ : St) : snapshot σ 1000 (lgK2.A true) = some (lgK2.A true) := by kernel_rfl
def lgK : Lg := ⟨[75], 3326, 4, 0, [], [v38, v40, v41, v42, v43, v44, v46, v47, v48, v49, v50, v51, v53, v54, v55, v253, v256, v259, v261, v262, v264]⟩
theorem rkK : EOk (n_LRight, [lgK.A true], .b true) := by
 have h : e394 = (n_LRight, [lgK.A true], .b true) := by kernel_rfl
 rw [← h]; exact t394
theorem stK (σ : St) : snapshot σ 1000 (lgK.A true) = some (lgK.A true) := by kernel_rfl
def lgT : Lg := ⟨[84], 3326, 4, 1, [], [v38, v40, v41, v42, v43, v44, v46, v47, v48, v49, v50, v51, v53, v54, v55, v253, v256, v259, v261, v262, v264, v280]⟩
theorem rkT : EOk (n_LRight, [lgT.A true], .b true) := by
 have h : e737 = (n_LRight, [lgT.A true], .b true) := by kernel_rfl
 rw [← h]; exact t737
theorem stT (σ : St) : snapshot σ 1000 (lgT.A true) = some (lgT.A true) := by kernel_rfl
def lgS4 : Lg := ⟨[83, 52], 3326, 4, 3, [], [v38, v40, v41, v42, v43, v44, v46, v47, v48, v49, v50, v51, v53, v54, v55, v253, v256, v259, v261, v262, v264, v280, v281]⟩
theorem rkS4 : EOk (n_LRight, [lgS4.A true], .b true) := by
 have h : e757 = (n_LRight, [lgS4.A true], .b true) := by kernel_rfl
 rw [← h]; exact t757
theorem stS4 (σ : St) : snapshot σ 1000 (lgS4.A true) = some (lgS4.A true) := by kernel_rfl
def lgS5 : Lg := ⟨[83, 53], 3326, 4, 7, [], [v38, v40, v41, v42, v43, v44, v46, v47, v48, v49, v50, v51, v53, v54, v55, v253, v256, v259, v261, v262, v264, v280, v281, v282]⟩
theorem rkS5 : EOk (n_LRight, [lgS5.A true], .b true) := by
 have h : e441 = (n_LRight, [lgS5.A true], .b true) := by kernel_rfl
 rw [← h]; exact t441
theorem stS5 (σ : St) : snapshot σ 1000 (lgS5.A true) = some (lgS5.A true) := by kernel_rfl
def lgL : Lg := ⟨[76], 28926, 5, 0, [], [v38, v40, v41, v42, v43, v44, v46, v47, v48, v49, v50, v51, v53, v54, v55, v377, v379, v381, v382, v383, v384, v385, v387, v389, v390, v391, v392, v393, v394, v395, v396]⟩
theorem rkL : EOk (n_LRight, [lgL.A true], .b true) := by
 have h : e857 = (n_LRight, [lgL.A true], .b true) := by kernel_rfl
 rw [← h]; exact t857
theorem stL (σ : St) : snapshot σ 1000 (lgL.A true) = some (lgL.A true) := by kernel_rfl
def lgs : List Lg := [lgK1, lgJ, lgK2, lgK, lgT, lgS4, lgS5, lgL]
theorem lgs_cases {l : Lg} (h : l ∈ lgs) : l = lgK1 ∨ l = lgJ ∨ l = lgK2 ∨ l = lgK ∨ l = lgT ∨ l = lgS4 ∨ l = lgS5 ∨ l = lgL := by simpa only [lgs, List.mem_cons, List.not_mem_nil, or_false] using h
theorem rk {l : Lg} (h : l ∈ lgs) : EOk (n_LRight, [l.A true], .b true) := by
 rcases lgs_cases h with rfl | rfl | rfl | rfl | rfl | rfl | rfl | rfl
 · exact rkK1
 · exact rkJ
 · exact rkK2
 · exact rkK
 · exact rkT
 · exact rkS4
 · exact rkS5
 · exact rkL
theorem st {l : Lg} (h : l ∈ lgs) : ∀ σ, snapshot σ 1000 (l.A true) = some (l.A true) := by
 rcases lgs_cases h with rfl | rfl | rfl | rfl | rfl | rfl | rfl | rfl
 · exact stK1
 · exact stJ
 · exact stK2
 · exact stK
 · exact stT
 · exact stS4
 · exact stS5
 · exact stL
theorem opl {l : Lg} (h : l ∈ lgs) : l.ops < 2 ^ 32 ∧ (l.ops.testBit 14 = false ∨ l.ops.testBit 10 = false) := by
 rcases lgs_cases h with rfl | rfl | rfl | rfl | rfl | rfl | rfl | rfl <;> decide
def baseZ (z : Nat) : Base := { funcs := ft, glob := lookG globL, pure := fun g => cond (Nat.beq g n_sorted) false (Nat.testBit pureM g), fz := z, ext := extF }
theorem baseZ_ok (z : Nat) : BaseOk Tryz.prog (baseZ z) := ⟨base_ok.funcs, base_ok.ext, base_ok.orders⟩
theorem ga (z : Nat) : GA (baseZ z) where
 visit := ⟨by kernel_rfl, by kernel_rfl, by kernel_rfl⟩
 walk := ⟨by kernel_rfl, by kernel_rfl, by kernel_rfl⟩
 walk1 := ⟨by kernel_rfl, by kernel_rfl, by kernel_rfl⟩
 jnode := ⟨by kernel_rfl, by kernel_rfl, by kernel_rfl⟩
 jterm := ⟨by kernel_rfl, by kernel_rfl, by kernel_rfl⟩
 jterms := ⟨by kernel_rfl, by kernel_rfl, by kernel_rfl⟩
 jform := ⟨by kernel_rfl, by kernel_rfl, by kernel_rfl⟩
 checker := ⟨by kernel_rfl, by kernel_rfl, by kernel_rfl⟩
 checker1 := ⟨by kernel_rfl, by kernel_rfl, by kernel_rfl⟩
 sorted := ⟨by kernel_rfl, by kernel_rfl, by kernel_rfl⟩
 Keys := ⟨by kernel_rfl, by kernel_rfl, by kernel_rfl⟩
 Keys1 := ⟨by kernel_rfl, by kernel_rfl, by kernel_rfl⟩
 SortedFunc := ⟨by kernel_rfl, by kernel_rfl, by kernel_rfl⟩
 Collect := ⟨by kernel_rfl, by kernel_rfl, by kernel_rfl⟩
 AppendSeq := ⟨by kernel_rfl, by kernel_rfl, by kernel_rfl⟩
 SortFunc := ⟨by kernel_rfl, by kernel_rfl, by kernel_rfl⟩
 Len := ⟨by kernel_rfl, by kernel_rfl, by kernel_rfl⟩
 Len64 := ⟨by kernel_rfl, by kernel_rfl, by kernel_rfl⟩
 pdq := ⟨by kernel_rfl, by kernel_rfl, by kernel_rfl⟩
 inssort := ⟨by kernel_rfl, by kernel_rfl, by kernel_rfl⟩
 heapSort := ⟨by kernel_rfl, by kernel_rfl, by kernel_rfl⟩
 siftDown := ⟨by kernel_rfl, by kernel_rfl, by kernel_rfl⟩
 breakPat := ⟨by kernel_rfl, by kernel_rfl, by kernel_rfl⟩
 nextPow := ⟨by kernel_rfl, by kernel_rfl, by kernel_rfl⟩
 xorNext := ⟨by kernel_rfl, by kernel_rfl, by kernel_rfl⟩
 choosePivot := ⟨by kernel_rfl, by kernel_rfl, by kernel_rfl⟩
 medianAdj := ⟨by kernel_rfl, by kernel_rfl, by kernel_rfl⟩
 median := ⟨by kernel_rfl, by kernel_rfl, by kernel_rfl⟩
 order2 := ⟨by kernel_rfl, by kernel_rfl, by kernel_rfl⟩
 reverseRange := ⟨by kernel_rfl, by kernel_rfl, by kernel_rfl⟩
 partIns := ⟨by kernel_rfl, by kernel_rfl, by kernel_rfl⟩
 partEq := ⟨by kernel_rfl, by kernel_rfl, by kernel_rfl⟩
 partition := ⟨by kernel_rfl, by kernel_rfl, by kernel_rfl⟩
 Predicates := ⟨by kernel_rfl, by kernel_rfl, by kernel_rfl⟩
 Functions := ⟨by kernel_rfl, by kernel_rfl, by kernel_rfl⟩
 Functions1 := ⟨by kernel_rfl, by kernel_rfl, by kernel_rfl⟩
 visitTerms := ⟨by kernel_rfl, by kernel_rfl, by kernel_rfl⟩
 strCompare := ⟨by kernel_rfl, by kernel_rfl, by kernel_rfl⟩
 CompareString := ⟨by kernel_rfl, by kernel_rfl, by kernel_rfl⟩
 cmpInt := ⟨by kernel_rfl, by kernel_rfl, by kernel_rfl⟩
 isNaNint := ⟨by kernel_rfl, by kernel_rfl, by kernel_rfl⟩
 small_ := ⟨by kernel_rfl, by kernel_rfl, by kernel_rfl⟩
 capital_ := ⟨by kernel_rfl, by kernel_rfl, by kernel_rfl⟩
 digit_ := ⟨by kernel_rfl, by kernel_rfl, by kernel_rfl⟩
 Variable1_ := ⟨by kernel_rfl, by kernel_rfl, by kernel_rfl⟩
 Function1_ := ⟨by kernel_rfl, by kernel_rfl, by kernel_rfl⟩
 alnum_ := ⟨by kernel_rfl, by kernel_rfl, by kernel_rfl⟩
 reserved_ := ⟨by kernel_rfl, by kernel_rfl, by kernel_rfl⟩
 slHasPrefix_ := ⟨by kernel_rfl, by kernel_rfl, by kernel_rfl⟩
 HasPrefix_ := ⟨by kernel_rfl, by kernel_rfl, by kernel_rfl⟩
 Predicate_ := ⟨by kernel_rfl, by kernel_rfl, by kernel_rfl⟩
 Variable_ := ⟨by kernel_rfl, by kernel_rfl, by kernel_rfl⟩
 Function_ := ⟨by kernel_rfl, by kernel_rfl, by kernel_rfl⟩
 formMeta_ := ⟨by kernel_rfl, by kernel_rfl, by kernel_rfl⟩
 termMeta_ := ⟨by kernel_rfl, by kernel_rfl, by kernel_rfl⟩
 named_ := ⟨by kernel_rfl, by kernel_rfl, by kernel_rfl⟩
 instance_ := ⟨by kernel_rfl, by kernel_rfl, by kernel_rfl⟩
 Right_ := ⟨by kernel_rfl, by kernel_rfl, by kernel_rfl⟩
 Ops_ := ⟨by kernel_rfl, by kernel_rfl, by kernel_rfl⟩
 sorted1_ := ⟨by kernel_rfl, by kernel_rfl, by kernel_rfl⟩
 argsAllowed_ := ⟨by kernel_rfl, by kernel_rfl, by kernel_rfl⟩
 sizeT_ := ⟨by kernel_rfl, by kernel_rfl, by kernel_rfl⟩
 Size_ := ⟨by kernel_rfl, by kernel_rfl, by kernel_rfl⟩
 Small_ := ⟨by kernel_rfl, by kernel_rfl, by kernel_rfl⟩
 one_ := ⟨by kernel_rfl, by kernel_rfl, by kernel_rfl⟩
 Allowed_ := ⟨by kernel_rfl, by kernel_rfl, by kernel_rfl⟩
 LRight := ⟨by kernel_rfl, by kernel_rfl⟩
 cmps := by kernel_rfl
 rows := by kernel_rfl
theorem kokZ (z lv : Nat) : KOk Tryz.prog (baseZ z) (KF (baseZ z) lgs lv) := kok (baseZ_ok z) (ga z) (fun l hl B0 => rk hl B0) (fun l hl => st hl) lv
/-- What is known of a formula. -/
abbrev zOf (F : Fm) : Nat := 2 * F.two.dep
theorem dep_two (F : Fm) : F.dep ≤ F.two.dep := by
 have : F ∈ F.two.sub := by simp [Fm.two, Fm.sub, Fm.osub]
 have := Fm.dep_sub this; omega
theorem ok_two {F : Fm} (h : F.ok) : F.two.ok := .mk (by decide) (by decide) (by decide) (by simp) (by show 2 < 2 ^ 62; decide) fun x hx => by
 have hx : x = F ∨ x = .mk 10 [] none (some [F]) := by simpa using hx
 rcases hx with rfl | rfl
 · exact h
 · exact .mk (by decide) (by decide) (by decide) (by simp) (by show 1 < 2 ^ 62; decide) fun x hx => by rw [show x = F by simpa using hx]; exact h
theorem small_E (F : Fm) (h : F.ok) : EOk (n_Small, [.tl true (some 4) [F.A true]], .b (smallB F)) := fun B0 => kokZ (zOf F) (F.dep + 2) _ _ _ (kSml F h.few (by show 2 * F.dep ≤ 2 * F.two.dep + 800; have := dep_two F; omega) (Nat.le_refl _)) B0
theorem allowed_E {l : Lg} (hl : l ∈ lgs) (F G : Fm) (h : G.ok) (hd : G.dep ≤ F.two.dep) : EOk (n_Allowed, [l.A true, G.A true], .b (oneB l.ops l.kind G)) := fun B0 => kokZ (zOf F) 8 _ _ _ (kAll (Nat.le_refl _) l G hl (opl hl).1 h h.few (by show 2 * G.dep ≤ 2 * F.two.dep + 800; omega)) B0
end Go.Lyc.T
