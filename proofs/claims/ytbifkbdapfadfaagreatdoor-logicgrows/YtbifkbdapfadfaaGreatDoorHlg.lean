/-
  The logics of the library, and that LogicGrows returns true. No conditions: definitions and laws.
-/
import Derived.Test.YtbifkbdapfadfaaGreatDoorHemo7
import Derived.Test.YtbifkbdapfadfaaGreatDoorHw2
set_option linter.all false
noncomputable section
namespace Go.Lyc.T
open Go.Lyc Go.RowKit Go.Proofs
set_option maxRecDepth 100000
set_option maxHeartbeats 0
def lgJ : Lg := ⟨[74], 254, 3, 0, [v12, v14, v15, v16, v17, v18, v20, v21, v22, v23, v24, v25, v27, v28], [v30, v32, v33, v34, v35, v36, v38, v39, v40, v41, v42, v43, v45, v46]⟩
theorem nkJ : EOk (n_LNamed, [.s lgJ.nm], .tu [lgJ.A false, nI 0]) := by
 have h : e29 = (n_LNamed, [.s lgJ.nm], .tu [lgJ.A false, nI 0]) := by kernel_rfl
 rw [← h]; exact t29
theorem rkJ : EOk (n_LRight, [lgJ.A true], .b true) := by
 have h : e46 = (n_LRight, [lgJ.A true], .b true) := by kernel_rfl
 rw [← h]; exact t46
theorem sfJ (σ : St) : snapshot σ 1000 (lgJ.A false) = some (lgJ.A true) := by kernel_rfl
theorem stJ (σ : St) : snapshot σ 1000 (lgJ.A true) = some (lgJ.A true) := by kernel_rfl
def lgK1 : Lg := ⟨[75, 49], 254, 1, 0, [v12, v14, v15, v16, v17, v18, v20, v21, v22, v23, v24, v25, v27, v28, v29], [v30, v32, v33, v34, v35, v36, v38, v39, v40, v41, v42, v43, v45, v46, v48]⟩
theorem nkK1 : EOk (n_LNamed, [.s lgK1.nm], .tu [lgK1.A false, nI 0]) := by
 have h : e31 = (n_LNamed, [.s lgK1.nm], .tu [lgK1.A false, nI 0]) := by kernel_rfl
 rw [← h]; exact t31
theorem rkK1 : EOk (n_LRight, [lgK1.A true], .b true) := by
 have h : e48 = (n_LRight, [lgK1.A true], .b true) := by kernel_rfl
 rw [← h]; exact t48
theorem sfK1 (σ : St) : snapshot σ 1000 (lgK1.A false) = some (lgK1.A true) := by kernel_rfl
theorem stK1 (σ : St) : snapshot σ 1000 (lgK1.A true) = some (lgK1.A true) := by kernel_rfl
def lgK2 : Lg := ⟨[75, 50], 1022, 2, 0, [v12, v14, v15, v16, v17, v18, v20, v21, v22, v23, v24, v25, v27, v28, v29, (.ag [(.s [97, 108, 108, 73]), (.tl false (some 7) [(.ag [.nilsl, (.i .u8 16), (.s [63, 65]), v52, .nilsl, (.s [63, 97]), (.b false)])]), (.i .u8 8), (.s [120]), .nilsl, (.tl false (some 4) [v0])]), (.ag [(.s [97, 108, 108, 69]), (.tl false (some 7) [(.ag [.nilsl, (.i .u8 8), (.s [120]), .nilsl, (.tl false (some 4) [v0]), (.s []), (.b false)])]), (.i .u8 16), (.s [63, 65]), v55, .nilsl]), (.ag [(.s [115, 111, 109, 101, 73]), (.tl false (some 7) [(.ag [.nilsl, (.i .u8 16), (.s [63, 65]), v55, .nilsl, (.s []), (.b false)])]), (.i .u8 9), (.s [120]), .nilsl, (.tl false (some 4) [v0])]), (.ag [(.s [115, 111, 109, 101, 69]), (.tl false (some 7) [(.ag [.nilsl, (.i .u8 9), (.s [120]), .nilsl, (.tl false (some 4) [v0]), (.s []), (.b false)]), (.ag [(.tl false (some 4) [v53]), (.i .u8 15), (.s [63, 67]), .nilsl, .nilsl, (.s [63, 97]), (.b false)])]), (.i .u8 15), (.s [63, 67]), .nilsl, .nilsl])], [v30, v32, v33, v34, v35, v36, v38, v39, v40, v41, v42, v43, v45, v46, v48, v56, v57, v58, v59]⟩
theorem nkK2 : EOk (n_LNamed, [.s lgK2.nm], .tu [lgK2.A false, nI 0]) := by
 have h : e82 = (n_LNamed, [.s lgK2.nm], .tu [lgK2.A false, nI 0]) := by kernel_rfl
 rw [← h]; exact t82
theorem rkK2 : EOk (n_LRight, [lgK2.A true], .b true) := by
 have h : e88 = (n_LRight, [lgK2.A true], .b true) := by kernel_rfl
 rw [← h]; exact t88
theorem sfK2 (σ : St) : snapshot σ 1000 (lgK2.A false) = some (lgK2.A true) := by kernel_rfl
theorem stK2 (σ : St) : snapshot σ 1000 (lgK2.A true) = some (lgK2.A true) := by kernel_rfl
def lgK : Lg := ⟨[75], 3326, 4, 0, [v12, v14, v15, v16, v17, v18, v20, v21, v22, v23, v24, v25, v27, v28, v29, v67, v70, v73, v75, v76, v78], [v30, v32, v33, v34, v35, v36, v38, v39, v40, v41, v42, v43, v45, v46, v48, v80, v83, v86, v88, v89, v91]⟩
theorem nkK : EOk (n_LNamed, [.s lgK.nm], .tu [lgK.A false, nI 0]) := by
 have h : e109 = (n_LNamed, [.s lgK.nm], .tu [lgK.A false, nI 0]) := by kernel_rfl
 rw [← h]; exact t109
theorem rkK : EOk (n_LRight, [lgK.A true], .b true) := by
 have h : e116 = (n_LRight, [lgK.A true], .b true) := by kernel_rfl
 rw [← h]; exact t116
theorem sfK (σ : St) : snapshot σ 1000 (lgK.A false) = some (lgK.A true) := by kernel_rfl
theorem stK (σ : St) : snapshot σ 1000 (lgK.A true) = some (lgK.A true) := by kernel_rfl
def lgT : Lg := ⟨[84], 3326, 4, 1, [v12, v14, v15, v16, v17, v18, v20, v21, v22, v23, v24, v25, v27, v28, v29, v67, v70, v73, v75, v76, v78, v94], [v30, v32, v33, v34, v35, v36, v38, v39, v40, v41, v42, v43, v45, v46, v48, v80, v83, v86, v88, v89, v91, v95]⟩
theorem nkT : EOk (n_LNamed, [.s lgT.nm], .tu [lgT.A false, nI 0]) := by
 have h : e117 = (n_LNamed, [.s lgT.nm], .tu [lgT.A false, nI 0]) := by kernel_rfl
 rw [← h]; exact t117
theorem rkT : EOk (n_LRight, [lgT.A true], .b true) := by
 have h : e119 = (n_LRight, [lgT.A true], .b true) := by kernel_rfl
 rw [← h]; exact t119
theorem sfT (σ : St) : snapshot σ 1000 (lgT.A false) = some (lgT.A true) := by kernel_rfl
theorem stT (σ : St) : snapshot σ 1000 (lgT.A true) = some (lgT.A true) := by kernel_rfl
def lgS4 : Lg := ⟨[83, 52], 3326, 4, 3, [v12, v14, v15, v16, v17, v18, v20, v21, v22, v23, v24, v25, v27, v28, v29, v67, v70, v73, v75, v76, v78, v94, v98], [v30, v32, v33, v34, v35, v36, v38, v39, v40, v41, v42, v43, v45, v46, v48, v80, v83, v86, v88, v89, v91, v95, v99]⟩
theorem nkS4 : EOk (n_LNamed, [.s lgS4.nm], .tu [lgS4.A false, nI 0]) := by
 have h : e129 = (n_LNamed, [.s lgS4.nm], .tu [lgS4.A false, nI 0]) := by kernel_rfl
 rw [← h]; exact t129
theorem rkS4 : EOk (n_LRight, [lgS4.A true], .b true) := by
 have h : e131 = (n_LRight, [lgS4.A true], .b true) := by kernel_rfl
 rw [← h]; exact t131
theorem sfS4 (σ : St) : snapshot σ 1000 (lgS4.A false) = some (lgS4.A true) := by kernel_rfl
theorem stS4 (σ : St) : snapshot σ 1000 (lgS4.A true) = some (lgS4.A true) := by kernel_rfl
def lgS5 : Lg := ⟨[83, 53], 3326, 4, 7, [v12, v14, v15, v16, v17, v18, v20, v21, v22, v23, v24, v25, v27, v28, v29, v67, v70, v73, v75, v76, v78, v94, v98, (.ag [(.s [100, 105, 97, 53]), v77, (.i .u8 10), (.s []), .nilsl, (.tl false (some 4) [v63])])], [v30, v32, v33, v34, v35, v36, v38, v39, v40, v41, v42, v43, v45, v46, v48, v80, v83, v86, v88, v89, v91, v95, v99, v102]⟩
theorem nkS5 : EOk (n_LNamed, [.s lgS5.nm], .tu [lgS5.A false, nI 0]) := by
 have h : e136 = (n_LNamed, [.s lgS5.nm], .tu [lgS5.A false, nI 0]) := by kernel_rfl
 rw [← h]; exact t136
theorem rkS5 : EOk (n_LRight, [lgS5.A true], .b true) := by
 have h : e138 = (n_LRight, [lgS5.A true], .b true) := by kernel_rfl
 rw [← h]; exact t138
theorem sfS5 (σ : St) : snapshot σ 1000 (lgS5.A false) = some (lgS5.A true) := by kernel_rfl
theorem stS5 (σ : St) : snapshot σ 1000 (lgS5.A true) = some (lgS5.A true) := by kernel_rfl
def lgL : Lg := ⟨[76], 28926, 5, 0, [v12, v14, v15, v16, v17, v18, v20, v21, v22, v23, v24, v25, v27, v28, v29, (.ag [(.s [110, 101, 120, 116, 73, 48]), v66, (.i .u8 12), (.s []), .nilsl, (.tl false (some 4) [v61])]), (.ag [(.s [110, 101, 120, 116, 73, 49]), (.tl false (some 7) [v111, v69]), (.i .u8 12), (.s []), .nilsl, (.tl false (some 4) [v61])]), (.ag [(.s [110, 101, 120, 116, 73, 50]), (.tl false (some 7) [v111, v112, v72]), (.i .u8 12), (.s []), .nilsl, (.tl false (some 4) [v61])]), (.ag [(.s [110, 101, 120, 116, 73, 51]), (.tl false (some 7) [v111, v112, (.ag [.nilsl, (.i .u8 12), (.s []), .nilsl, (.tl false (some 4) [v4]), (.s []), (.b false)]), v74]), (.i .u8 12), (.s []), .nilsl, (.tl false (some 4) [v61])]), (.ag [(.s [110, 101, 120, 116, 78, 49]), (.tl false (some 7) [(.ag [.nilsl, (.i .u8 3), (.s []), .nilsl, (.tl false (some 4) [v103]), (.s []), (.b false)])]), (.i .u8 12), (.s []), .nilsl, (.tl false (some 4) [v7])]), (.ag [(.s [110, 101, 120, 116, 78, 50]), (.tl false (some 7) [(.ag [.nilsl, (.i .u8 12), (.s []), .nilsl, (.tl false (some 4) [v7]), (.s []), (.b false)])]), (.i .u8 3), (.s []), .nilsl, (.tl false (some 4) [v103])]), (.ag [(.s [97, 108, 119, 73, 48]), v66, (.i .u8 13), (.s []), .nilsl, (.tl false (some 4) [v61])]), (.ag [(.s [97, 108, 119, 73, 49]), (.tl false (some 7) [v113, v69]), (.i .u8 13), (.s []), .nilsl, (.tl false (some 4) [v61])]), (.ag [(.s [97, 108, 119, 73, 50]), (.tl false (some 7) [v113, v114, v72]), (.i .u8 13), (.s []), .nilsl, (.tl false (some 4) [v61])]), (.ag [(.s [97, 108, 119, 73, 51]), (.tl false (some 7) [v113, v114, (.ag [.nilsl, (.i .u8 13), (.s []), .nilsl, (.tl false (some 4) [v4]), (.s []), (.b false)]), v74]), (.i .u8 13), (.s []), .nilsl, (.tl false (some 4) [v61])]), (.ag [(.s [97, 108, 119, 69]), (.tl false (some 7) [v113]), (.i .u8 15), (.s [63, 65]), .nilsl, .nilsl]), (.ag [(.s [97, 108, 119, 88]), (.tl false (some 7) [v113]), (.i .u8 12), (.s []), .nilsl, (.tl false (some 4) [v107])]), (.ag [(.s [105, 110, 100]), (.tl false (some 7) [v10, (.ag [(.tl false (some 4) [v0]), (.i .u8 12), (.s []), .nilsl, (.tl false (some 4) [v0]), (.s []), (.b true)])]), (.i .u8 13), (.s []), .nilsl, (.tl false (some 4) [v0])]), (.ag [(.s [117, 110, 116, 73, 49]), (.tl false (some 7) [v11]), (.i .u8 14), (.s []), .nilsl, (.tl false (some 4) [v0, v1])]), (.ag [(.s [117, 110, 116, 73, 50]), (.tl false (some 7) [v10, (.ag [.nilsl, (.i .u8 12), (.s []), .nilsl, (.tl false (some 4) [v109]), (.s []), (.b false)])]), (.i .u8 14), (.s []), .nilsl, (.tl false (some 4) [v0, v1])]), (.ag [(.s [117, 110, 116, 69]), (.tl false (some 7) [(.ag [.nilsl, (.i .u8 14), (.s []), .nilsl, (.tl false (some 4) [v0, v1]), (.s []), (.b false)]), (.ag [(.tl false (some 4) [v1]), (.i .u8 15), (.s [63, 67]), .nilsl, .nilsl, (.s []), (.b true)]), (.ag [(.tl false (some 4) [v0, v105]), (.i .u8 15), (.s [63, 67]), .nilsl, .nilsl, (.s []), (.b true)])]), (.i .u8 15), (.s [63, 67]), .nilsl, .nilsl])], [v30, v32, v33, v34, v35, v36, v38, v39, v40, v41, v42, v43, v45, v46, v48, v115, v117, v119, v120, v121, v122, v123, v125, v127, v128, v129, v130, v131, v132, v133, v134]⟩
theorem nkL : EOk (n_LNamed, [.s lgL.nm], .tu [lgL.A false, nI 0]) := by
 have h : e170 = (n_LNamed, [.s lgL.nm], .tu [lgL.A false, nI 0]) := by kernel_rfl
 rw [← h]; exact t170
theorem rkL : EOk (n_LRight, [lgL.A true], .b true) := by
 have h : e187 = (n_LRight, [lgL.A true], .b true) := by kernel_rfl
 rw [← h]; exact t187
theorem sfL (σ : St) : snapshot σ 1000 (lgL.A false) = some (lgL.A true) := by kernel_rfl
theorem stL (σ : St) : snapshot σ 1000 (lgL.A true) = some (lgL.A true) := by kernel_rfl
def lgs : List Lg := [lgJ, lgK1, lgK2, lgK, lgT, lgS4, lgS5, lgL]
def prs : List (Lg × Lg) := [(lgJ, lgK1), (lgK1, lgK2), (lgK1, lgK), (lgK, lgT), (lgT, lgS4), (lgS4, lgS5), (lgK1, lgL)]
theorem pk0 : EOk (n_SameRules, [.tl true (some 6) lgJ.rs, .tl true (some 6) (lgK1.rs.take lgJ.ru.length)], .b true) := by
 have h : e63 = (n_SameRules, [.tl true (some 6) lgJ.rs, .tl true (some 6) (lgK1.rs.take lgJ.ru.length)], .b true) := by kernel_rfl
 rw [← h]; exact t63
theorem px0 (σ : St) : snapshot σ 1000 (.tl false (some 6) lgJ.ru) = some (.tl true (some 6) lgJ.rs) := by kernel_rfl
theorem py0 (σ : St) : snapshot σ 1000 (.tl false (some 6) (lgK1.ru.take lgJ.ru.length)) = some (.tl true (some 6) (lgK1.rs.take lgJ.ru.length)) := by kernel_rfl
theorem pk1 : EOk (n_SameRules, [.tl true (some 6) lgK1.rs, .tl true (some 6) (lgK2.rs.take lgK1.ru.length)], .b true) := by
 have h : e90 = (n_SameRules, [.tl true (some 6) lgK1.rs, .tl true (some 6) (lgK2.rs.take lgK1.ru.length)], .b true) := by kernel_rfl
 rw [← h]; exact t90
theorem px1 (σ : St) : snapshot σ 1000 (.tl false (some 6) lgK1.ru) = some (.tl true (some 6) lgK1.rs) := by kernel_rfl
theorem py1 (σ : St) : snapshot σ 1000 (.tl false (some 6) (lgK2.ru.take lgK1.ru.length)) = some (.tl true (some 6) (lgK2.rs.take lgK1.ru.length)) := by kernel_rfl
theorem pk2 : EOk (n_SameRules, [.tl true (some 6) lgK1.rs, .tl true (some 6) (lgK.rs.take lgK1.ru.length)], .b true) := by
 have h : e90 = (n_SameRules, [.tl true (some 6) lgK1.rs, .tl true (some 6) (lgK.rs.take lgK1.ru.length)], .b true) := by kernel_rfl
 rw [← h]; exact t90
theorem px2 (σ : St) : snapshot σ 1000 (.tl false (some 6) lgK1.ru) = some (.tl true (some 6) lgK1.rs) := by kernel_rfl
theorem py2 (σ : St) : snapshot σ 1000 (.tl false (some 6) (lgK.ru.take lgK1.ru.length)) = some (.tl true (some 6) (lgK.rs.take lgK1.ru.length)) := by kernel_rfl
theorem pk3 : EOk (n_SameRules, [.tl true (some 6) lgK.rs, .tl true (some 6) (lgT.rs.take lgK.ru.length)], .b true) := by
 have h : e126 = (n_SameRules, [.tl true (some 6) lgK.rs, .tl true (some 6) (lgT.rs.take lgK.ru.length)], .b true) := by kernel_rfl
 rw [← h]; exact t126
theorem px3 (σ : St) : snapshot σ 1000 (.tl false (some 6) lgK.ru) = some (.tl true (some 6) lgK.rs) := by kernel_rfl
theorem py3 (σ : St) : snapshot σ 1000 (.tl false (some 6) (lgT.ru.take lgK.ru.length)) = some (.tl true (some 6) (lgT.rs.take lgK.ru.length)) := by kernel_rfl
theorem pk4 : EOk (n_SameRules, [.tl true (some 6) lgT.rs, .tl true (some 6) (lgS4.rs.take lgT.ru.length)], .b true) := by
 have h : e133 = (n_SameRules, [.tl true (some 6) lgT.rs, .tl true (some 6) (lgS4.rs.take lgT.ru.length)], .b true) := by kernel_rfl
 rw [← h]; exact t133
theorem px4 (σ : St) : snapshot σ 1000 (.tl false (some 6) lgT.ru) = some (.tl true (some 6) lgT.rs) := by kernel_rfl
theorem py4 (σ : St) : snapshot σ 1000 (.tl false (some 6) (lgS4.ru.take lgT.ru.length)) = some (.tl true (some 6) (lgS4.rs.take lgT.ru.length)) := by kernel_rfl
theorem pk5 : EOk (n_SameRules, [.tl true (some 6) lgS4.rs, .tl true (some 6) (lgS5.rs.take lgS4.ru.length)], .b true) := by
 have h : e140 = (n_SameRules, [.tl true (some 6) lgS4.rs, .tl true (some 6) (lgS5.rs.take lgS4.ru.length)], .b true) := by kernel_rfl
 rw [← h]; exact t140
theorem px5 (σ : St) : snapshot σ 1000 (.tl false (some 6) lgS4.ru) = some (.tl true (some 6) lgS4.rs) := by kernel_rfl
theorem py5 (σ : St) : snapshot σ 1000 (.tl false (some 6) (lgS5.ru.take lgS4.ru.length)) = some (.tl true (some 6) (lgS5.rs.take lgS4.ru.length)) := by kernel_rfl
theorem pk6 : EOk (n_SameRules, [.tl true (some 6) lgK1.rs, .tl true (some 6) (lgL.rs.take lgK1.ru.length)], .b true) := by
 have h : e90 = (n_SameRules, [.tl true (some 6) lgK1.rs, .tl true (some 6) (lgL.rs.take lgK1.ru.length)], .b true) := by kernel_rfl
 rw [← h]; exact t90
theorem px6 (σ : St) : snapshot σ 1000 (.tl false (some 6) lgK1.ru) = some (.tl true (some 6) lgK1.rs) := by kernel_rfl
theorem py6 (σ : St) : snapshot σ 1000 (.tl false (some 6) (lgL.ru.take lgK1.ru.length)) = some (.tl true (some 6) (lgL.rs.take lgK1.ru.length)) := by kernel_rfl
inductive TG : Nat → List AV → AV → Prop
 | named (ar : List AV) (r : AV) (l : Lg) (h : l ∈ lgs) (e : ar = [.s l.nm]) (er : r = .tu [l.A false, nI 0]) : TG n_LNamed ar r
 | right (ar : List AV) (r : AV) (l : Lg) (h : l ∈ lgs) (e : ar = [l.A true]) (er : r = .b true) : TG n_LRight ar r
 | same (ar : List AV) (r : AV) (p : Lg × Lg) (h : p ∈ prs) (e : ar = [.tl true (some 6) p.1.rs, .tl true (some 6) (p.2.rs.take p.1.ru.length)]) (er : r = .b true) : TG n_SameRules ar r
 | awake (ar : List AV) (r : AV) (e : ar = []) (er : r = .b true) : TG n_awake9 ar r
theorem lgs_cases {l : Lg} (h : l ∈ lgs) : l = lgJ ∨ l = lgK1 ∨ l = lgK2 ∨ l = lgK ∨ l = lgT ∨ l = lgS4 ∨ l = lgS5 ∨ l = lgL := by simpa only [lgs, List.mem_cons, List.not_mem_nil, or_false] using h
theorem prs_cases {p : Lg × Lg} (h : p ∈ prs) : p = (lgJ, lgK1) ∨ p = (lgK1, lgK2) ∨ p = (lgK1, lgK) ∨ p = (lgK, lgT) ∨ p = (lgT, lgS4) ∨ p = (lgS4, lgS5) ∨ p = (lgK1, lgL) := by simpa only [prs, List.mem_cons, List.not_mem_nil, or_false] using h
theorem nm_inj : ∀ {l m : Lg}, l ∈ lgs → m ∈ lgs → l.nm = m.nm → l = m := by
 intro l m hl hm h
 rcases lgs_cases hl with rfl | rfl | rfl | rfl | rfl | rfl | rfl | rfl <;> rcases lgs_cases hm with rfl | rfl | rfl | rfl | rfl | rfl | rfl | rfl <;> first | rfl | exact absurd h (by decide)
theorem tg_fn (g : Nat) (ar : List AV) (r r' : AV) (h : TG g ar r) (h' : TG g ar r') : r = r' := by
 cases h with
 | named _ _ l hl e er => cases h' with
  | named _ _ l' hl' e' er' => rw [er, er', nm_inj hl hl' (s_inj (one1 (e.symm.trans e')))]
 | right _ _ l hl e er => cases h' with
  | right _ _ l' hl' e' er' => rw [er, er']
 | same _ _ l hl e er => cases h' with
  | same _ _ l' hl' e' er' => rw [er, er']
 | awake _ _ e er => cases h' with
  | awake _ _ e' er' => rw [er, er']
theorem tg_n (g : Nat) (ar : List AV) (r : AV) (h : TG g ar r) : g = n_LNamed ∨ g = n_LRight ∨ g = n_SameRules ∨ g = n_awake9 := by
 cases h with
 | named _ _ l hl e er => exact .inl rfl
 | right _ _ l hl e er => exact .inr (.inl rfl)
 | same _ _ l hl e er => exact .inr (.inr (.inl rfl))
 | awake _ _ e er => exact .inr (.inr (.inr rfl))
theorem aw : EOk (n_awake9, [], .b true) := by
 have h : e230 = (n_awake9, [], .b true) := by kernel_rfl
 rw [← h]; exact t230
theorem nk {l : Lg} (h : l ∈ lgs) : EOk (n_LNamed, [.s l.nm], .tu [l.A false, nI 0]) := by
 rcases lgs_cases h with rfl | rfl | rfl | rfl | rfl | rfl | rfl | rfl
 · exact nkJ
 · exact nkK1
 · exact nkK2
 · exact nkK
 · exact nkT
 · exact nkS4
 · exact nkS5
 · exact nkL
theorem rk {l : Lg} (h : l ∈ lgs) : EOk (n_LRight, [l.A true], .b true) := by
 rcases lgs_cases h with rfl | rfl | rfl | rfl | rfl | rfl | rfl | rfl
 · exact rkJ
 · exact rkK1
 · exact rkK2
 · exact rkK
 · exact rkT
 · exact rkS4
 · exact rkS5
 · exact rkL
theorem sf {l : Lg} (h : l ∈ lgs) : ∀ σ, snapshot σ 1000 (l.A false) = some (l.A true) := by
 rcases lgs_cases h with rfl | rfl | rfl | rfl | rfl | rfl | rfl | rfl
 · exact sfJ
 · exact sfK1
 · exact sfK2
 · exact sfK
 · exact sfT
 · exact sfS4
 · exact sfS5
 · exact sfL
theorem st {l : Lg} (h : l ∈ lgs) : ∀ σ, snapshot σ 1000 (l.A true) = some (l.A true) := by
 rcases lgs_cases h with rfl | rfl | rfl | rfl | rfl | rfl | rfl | rfl
 · exact stJ
 · exact stK1
 · exact stK2
 · exact stK
 · exact stT
 · exact stS4
 · exact stS5
 · exact stL
theorem pk {p : Lg × Lg} (h : p ∈ prs) : EOk (n_SameRules, [.tl true (some 6) p.1.rs, .tl true (some 6) (p.2.rs.take p.1.ru.length)], .b true) := by
 rcases prs_cases h with rfl | rfl | rfl | rfl | rfl | rfl | rfl
 · exact pk0
 · exact pk1
 · exact pk2
 · exact pk3
 · exact pk4
 · exact pk5
 · exact pk6
theorem tok : KOk Tryz.prog base TG := by
 intro g ar r h B0
 cases h with
 | named _ _ l hl e er => subst e er; exact nk hl B0
 | right _ _ l hl e er => subst e er; exact rk hl B0
 | same _ _ p hp e er => subst e er; exact pk hp B0
 | awake _ _ e er => subst e er; exact aw B0
theorem opl {l : Lg} (h : l ∈ lgs) : l.ops < 2 ^ 32 := by
 rcases lgs_cases h with rfl | rfl | rfl | rfl | rfl | rfl | rfl | rfl <;> decide
theorem prK {p : Lg × Lg} (h : p ∈ prs) (h1 : p.1 ∈ lgs) (h2 : p.2 ∈ lgs) : PairK base (KG TG 450) p.1 p.2 := by
 have hs : ∃ x y, (∀ σ, snapshot σ 1000 (.tl false (some 6) p.1.ru) = some x) ∧ (∀ σ, snapshot σ 1000 (.tl false (some 6) (p.2.ru.take p.1.ru.length)) = some y) ∧ KG TG 450 n_SameRules [x, y] (.b true) := by
  refine ⟨.tl true (some 6) p.1.rs, .tl true (some 6) (p.2.rs.take p.1.ru.length), ?_, ?_, .tab _ _ _ (.same _ _ p h rfl rfl)⟩
  · rcases prs_cases h with rfl | rfl | rfl | rfl | rfl | rfl | rfl
    · exact px0
    · exact px1
    · exact px2
    · exact px3
    · exact px4
    · exact px5
    · exact px6
  · rcases prs_cases h with rfl | rfl | rfl | rfl | rfl | rfl | rfl
    · exact py0
    · exact py1
    · exact py2
    · exact py3
    · exact py4
    · exact py5
    · exact py6
 have hb : p.1.ru.length ≤ p.2.ru.length ∧ sub_ p.1.ops p.2.ops ∧ atomsOf p.1.kind ≤ atomsOf p.2.kind ∧ funsOf p.1.kind ≤ funsOf p.2.kind := by
  rcases prs_cases h with rfl | rfl | rfl | rfl | rfl | rfl | rfl <;> decide +kernel
 exact ⟨.tab _ _ _ (.named _ _ p.1 h1 rfl rfl), .tab _ _ _ (.named _ _ p.2 h2 rfl rfl), hb.1, hb.2.1, opl h1, opl h2, hb.2.2.1, hb.2.2.2, sf h1, sf h2, hs⟩
theorem pr_i : ∀ i, i < 7 → ∃ p, p ∈ prs ∧ p.1 ∈ lgs ∧ p.2 ∈ lgs ∧ p.1.nm = (pairN i).1 ∧ p.2.nm = (pairN i).2 := by
 intro i hi
 have : i = 0 ∨ i = 1 ∨ i = 2 ∨ i = 3 ∨ i = 4 ∨ i = 5 ∨ i = 6 := by omega
 rcases this with rfl | rfl | rfl | rfl | rfl | rfl | rfl
 · exact ⟨(lgJ, lgK1), by simp [prs], by simp [lgs], by simp [lgs], rfl, rfl⟩
 · exact ⟨(lgK1, lgK2), by simp [prs], by simp [lgs], by simp [lgs], rfl, rfl⟩
 · exact ⟨(lgK1, lgK), by simp [prs], by simp [lgs], by simp [lgs], rfl, rfl⟩
 · exact ⟨(lgK, lgT), by simp [prs], by simp [lgs], by simp [lgs], rfl, rfl⟩
 · exact ⟨(lgT, lgS4), by simp [prs], by simp [lgs], by simp [lgs], rfl, rfl⟩
 · exact ⟨(lgS4, lgS5), by simp [prs], by simp [lgs], by simp [lgs], rfl, rfl⟩
 · exact ⟨(lgK1, lgL), by simp [prs], by simp [lgs], by simp [lgs], rfl, rfl⟩
theorem ga : GA base where
 visit := ⟨by kernel_rfl, by kernel_rfl, by kernel_rfl⟩
 walk := ⟨by kernel_rfl, by kernel_rfl, by kernel_rfl⟩
 walk1 := ⟨by kernel_rfl, by kernel_rfl, by kernel_rfl⟩
 jnode := ⟨by kernel_rfl, by kernel_rfl, by kernel_rfl⟩
 jterm := ⟨by kernel_rfl, by kernel_rfl, by kernel_rfl⟩
 jterms := ⟨by kernel_rfl, by kernel_rfl, by kernel_rfl⟩
 jform := ⟨by kernel_rfl, by kernel_rfl, by kernel_rfl⟩
 checker := ⟨by kernel_rfl, by kernel_rfl, by kernel_rfl⟩
 checker1 := ⟨by kernel_rfl, by kernel_rfl, by kernel_rfl⟩
 v := ⟨by kernel_rfl, by kernel_rfl, by kernel_rfl⟩
 fn := ⟨by kernel_rfl, by kernel_rfl, by kernel_rfl⟩
 atom8 := ⟨by kernel_rfl, by kernel_rfl, by kernel_rfl⟩
 join8 := ⟨by kernel_rfl, by kernel_rfl, by kernel_rfl⟩
 sorted := ⟨by kernel_rfl, by kernel_rfl, by kernel_rfl⟩
 Keys := ⟨by kernel_rfl, by kernel_rfl, by kernel_rfl⟩
 Keys1 := ⟨by kernel_rfl, by kernel_rfl, by kernel_rfl⟩
 SortedFunc := ⟨by kernel_rfl, by kernel_rfl, by kernel_rfl⟩
 Collect := ⟨by kernel_rfl, by kernel_rfl, by kernel_rfl⟩
 AppendSeq := ⟨by kernel_rfl, by kernel_rfl, by kernel_rfl⟩
 SortFunc := ⟨by kernel_rfl, by kernel_rfl, by kernel_rfl⟩
 Len := ⟨by kernel_rfl, by kernel_rfl, by kernel_rfl⟩
 Len64 := ⟨by kernel_rfl, by kernel_rfl, by kernel_rfl⟩
 pdq := ⟨by kernel_rfl, by kernel_rfl, by kernel_rfl⟩
 inssort := ⟨by kernel_rfl, by kernel_rfl, by kernel_rfl⟩
 Predicates := ⟨by kernel_rfl, by kernel_rfl, by kernel_rfl⟩
 Functions := ⟨by kernel_rfl, by kernel_rfl, by kernel_rfl⟩
 Functions1 := ⟨by kernel_rfl, by kernel_rfl, by kernel_rfl⟩
 visitTerms := ⟨by kernel_rfl, by kernel_rfl, by kernel_rfl⟩
 strCompare := ⟨by kernel_rfl, by kernel_rfl, by kernel_rfl⟩
 CompareString := ⟨by kernel_rfl, by kernel_rfl, by kernel_rfl⟩
 cmpInt := ⟨by kernel_rfl, by kernel_rfl, by kernel_rfl⟩
 isNaNint := ⟨by kernel_rfl, by kernel_rfl, by kernel_rfl⟩
 small_ := ⟨by kernel_rfl, by kernel_rfl, by kernel_rfl⟩
 capital_ := ⟨by kernel_rfl, by kernel_rfl, by kernel_rfl⟩
 digit_ := ⟨by kernel_rfl, by kernel_rfl, by kernel_rfl⟩
 Variable1_ := ⟨by kernel_rfl, by kernel_rfl, by kernel_rfl⟩
 Function1_ := ⟨by kernel_rfl, by kernel_rfl, by kernel_rfl⟩
 alnum_ := ⟨by kernel_rfl, by kernel_rfl, by kernel_rfl⟩
 reserved_ := ⟨by kernel_rfl, by kernel_rfl, by kernel_rfl⟩
 slHasPrefix_ := ⟨by kernel_rfl, by kernel_rfl, by kernel_rfl⟩
 HasPrefix_ := ⟨by kernel_rfl, by kernel_rfl, by kernel_rfl⟩
 Predicate_ := ⟨by kernel_rfl, by kernel_rfl, by kernel_rfl⟩
 Variable_ := ⟨by kernel_rfl, by kernel_rfl, by kernel_rfl⟩
 Function_ := ⟨by kernel_rfl, by kernel_rfl, by kernel_rfl⟩
 formMeta_ := ⟨by kernel_rfl, by kernel_rfl, by kernel_rfl⟩
 termMeta_ := ⟨by kernel_rfl, by kernel_rfl, by kernel_rfl⟩
 named_ := ⟨by kernel_rfl, by kernel_rfl, by kernel_rfl⟩
 instance_ := ⟨by kernel_rfl, by kernel_rfl, by kernel_rfl⟩
 Right_ := ⟨by kernel_rfl, by kernel_rfl, by kernel_rfl⟩
 Ops_ := ⟨by kernel_rfl, by kernel_rfl, by kernel_rfl⟩
 stripped_ := ⟨by kernel_rfl, by kernel_rfl, by kernel_rfl⟩
 BuiltTerm_ := ⟨by kernel_rfl, by kernel_rfl, by kernel_rfl⟩
 Built_ := ⟨by kernel_rfl, by kernel_rfl, by kernel_rfl⟩
 sorted1_ := ⟨by kernel_rfl, by kernel_rfl, by kernel_rfl⟩
 argsAllowed_ := ⟨by kernel_rfl, by kernel_rfl, by kernel_rfl⟩
 one_ := ⟨by kernel_rfl, by kernel_rfl, by kernel_rfl⟩
 Allowed_ := ⟨by kernel_rfl, by kernel_rfl, by kernel_rfl⟩
 LogicGrows_ := ⟨by kernel_rfl, by kernel_rfl, by kernel_rfl⟩
 LNamed := ⟨by kernel_rfl, by kernel_rfl⟩
 LRight := ⟨by kernel_rfl, by kernel_rfl⟩
 SameRules := ⟨by kernel_rfl, by kernel_rfl⟩
 awake9 := ⟨by kernel_rfl, by kernel_rfl⟩
 cmps := by kernel_rfl
 rows := by kernel_rfl
theorem bytesA_snap (o : Option (List Nat)) (σ : St) : snapshot σ 1000 (bytesA o) = some (bytesA o) := snap_osl (k := 999) (g := uB) (g' := uB) fun x _ => rfl
theorem grows (o : Option (List Nat)) (ho : ∀ c ∈ o.getD [], c < 256) (bare : Bool) : EOk (n_LogicGrows, [bytesA o, .b bare], .b true) := by
 intro B0
 obtain ⟨n, d, hw, hn, hd⟩ := builtF_wt (o.getD [])
 have hdep := hw.dep
 have hb := hw.bf
 have hsd := hb.strip_dep
 have hB := hw.bare
 have hG : ∃ G, G = cond bare (builtF (o.getD [])).strip (builtF (o.getD [])) ∧ Bf G ∧ G.dep ≤ 400 ∧ (bare = true → Bare n d G) := by
  cases bare with
  | true => exact ⟨_, rfl, hB.bf, by show (builtF (o.getD [])).strip.dep ≤ 400; omega, fun _ => hB⟩
  | false => exact ⟨_, rfl, hb, by show (builtF (o.getD [])).dep ≤ 400; omega, fun h => by cases h⟩
 obtain ⟨G, e, hbG, hdG, hBG⟩ := hG
 have hA : ∀ {l : Lg}, l ∈ lgs → KG TG 450 n_Allowed [l.A true, G.A true] (.b (oneB l.ops l.kind G)) := fun {l} h => .allowed _ _ l G ⟨hbG, hdG, opl h⟩ (st h) (.right _ _ l h rfl rfl) (by omega) rfl rfl
 have hk1 : lgK1 ∈ lgs := by simp [lgs]
 refine entryK base_ok (kok base_ok ga tg_fn tg_n tok 450) _ ga.LogicGrows_.1 rfl rfl rfl rfl (eb _).1 (eb _).2 (LogicGrows_go (KG.fn tg_fn tg_n) o bare (builtF (o.getD [])) G e (by omega) hdG (bytesA_snap o) (.built _ _ o ho (by omega) rfl rfl) ga.Built_.2 (.strip _ _ _ ⟨hb, by omega⟩ (by omega) rfl rfl) ga.stripped_.2 ga.LNamed ga.Allowed_.2 ga.SameRules (.tab _ _ _ (.awake _ _ rfl rfl)) ga.awake9 (fun i hi => ?_) lgK1 (.tab _ _ _ (.named _ _ lgK1 hk1 rfl rfl)) (sf hk1) (hA hk1) (fun h => (hBG h).one (by omega) (by omega) (fun op h1 h7 => ?_)) _ rfl) B0
 · obtain ⟨p, h, h1, h2, h3, h4⟩ := pr_i i hi
   exact ⟨p.1, p.2, h3, h4, prK h h1 h2, hA h1, hA h2⟩
 · have : op = 1 ∨ op = 2 ∨ op = 3 ∨ op = 4 ∨ op = 5 ∨ op = 6 ∨ op = 7 := by omega
   rcases this with rfl | rfl | rfl | rfl | rfl | rfl | rfl <;> decide
end Go.Lyc.T
