/-
  What is given to the law by runs. No conditions: definitions and laws.
-/
import Derived.Test.YthpafliegleiaaaGreatDoorMemo0
import Derived.Test.YthpafliegleiaaaGreatDoorW2
set_option linter.all false
noncomputable section
namespace Go.Lyc.T
open Go.Lyc Go.RowKit Go.Proofs
variable [Tok] [TokOk]
set_option maxRecDepth 100000
set_option maxHeartbeats 0
theorem eqE {e e' : En} (h : EOk e) (he : e = e' := by kernel_rfl) : EOk e' := he ▸ h
theorem k3 {g : Nat} {c : AFunc} {p : Bool} (h1 : base.funcs.get g = some c := by kernel_rfl) (h2 : base.ext g = 0 := by kernel_rfl) (h3 : base.pure g = p := by kernel_rfl) : base.funcs.get g = some c ∧ base.ext g = 0 ∧ base.pure g = p := ⟨h1, h2, h3⟩
theorem fb : FB base := ⟨k3, k3, k3, k3, k3, k3, k3, k3, k3, k3, k3, k3, k3, k3, k3, k3, k3, k3, k3, k3, k3, k3, k3, k3, k3, k3, k3, k3, k3, k3, k3, k3, k3, k3, k3, k3, k3, k3, k3, k3, k3, k3, k3, k3, k3, k3, k3, k3, k3, k3, k3, k3, k3, k3, k3, k3, k3, by decide +kernel⟩
def lcF : List AV := [(.s [75, 49]), (.i .u32 254), (.i .u8 1), (.i .u8 0), (.tl false (some 6) [v59, v62, v64, v66, v68, v69, v71, v73, v75, v77, v79, v81, v83, v85, (.ag [(.s [114, 97, 97]), (.tl false (some 7) [v57]), (.i .u8 15), (.s [63, 65]), .nilsl, .nilsl])])]
def jcF : List AV := [(.s [74]), (.i .u32 254), (.i .u8 3), (.i .u8 0), (.tl false (some 6) [v59, v62, v64, v66, v68, v69, v71, v73, v75, v77, v79, v81, v83, v85])]
def rlV : AV := (.tl true (some 6) [v90, v92, v93, v94, v95, v97, v99, v100, v101, v102, v103, v104, v106, v107, v108])
abbrev laV : AV := .ag (lgC [75, 49] rlV)
abbrev lgV : AV := .tu [.ag lcF, .ag jcF]
theorem gSt : EOk (n_SameTerms, [.nilsl, .nilsl], .b true) := eqE t183
theorem gLog : EOk (n_logics, [], lgV) := eqE t107
theorem gAw : EOk (n_awake18, [], .b true) := eqE t182
theorem gN1 : EOk (n_named, [uB 1, .s [80]], .b true) := ek0
theorem gN2 : EOk (n_named, [uB 1, .s [81]], .b true) := ek0
theorem gN3 : EOk (n_named, [uB 0, .s []], .b true) := ek0
theorem gKk : EOk (n_kindOf, [.i .u8 1], .tu [.it 145 vals, .b true]) := ek0
abbrev kkE : List En := [(n_kindOf, [.i .u8 1], .tu [.it 145 vals, .b true])]
def baseM : Base := { base with meth := fun t n => cond (Nat.beq t 145) (methG Tryz.prog 145 n) none }
theorem meth_ok (t : TypeId) (n : String) (g : Nat) (h : cond (Nat.beq t 145) (methG Tryz.prog 145 n) none = some g) : MethIs Tryz.prog t n g := by
 cases e : Nat.beq t 145 with
 | true =>
  rw [e] at h
  obtain rfl := Nat.eq_of_beq_eq_true e
  exact methIs_at h (by kernel_rfl)
 | false => rw [e] at h; cases h
theorem baseM_ok : BaseOk Tryz.prog baseM := ⟨base_ok.funcs, base_ok.ext, base_ok.orders, meth_ok⟩
theorem ekM (l : List En) (hl : AllOk l) {e : En} (hr : runsTo baseM l 100000 e = true := by decide +kernel) : EOk e := fun B0 => TabOk.entry baseM_ok (fun e he => hl.mem e he) hr B0
theorem gKs : EOk (n_Sizes, [.i .u8 1], nI 1) := ekM kkE ⟨gKk, trivial⟩
theorem gLl : EOk (n_logical, [laV], .b true) := ekM kkE ⟨gKk, trivial⟩
theorem gLs {a c : List Nat} (ha : a = nP ∨ a = nQ) (hc : c = nP ∨ c = nQ) : EOk (n_LessS, [.s a, .s c], .b (lssL a c)) := by rcases ha with rfl | rfl <;> rcases hc with rfl | rfl <;> exact ek0
abbrev lsE : List En := [(n_LessS, [.s nP, .s nP], .b (lssL nP nP)), (n_LessS, [.s nP, .s nQ], .b (lssL nP nQ)), (n_LessS, [.s nQ, .s nP], .b (lssL nQ nP)), (n_LessS, [.s nQ, .s nQ], .b (lssL nQ nQ))]
theorem lsOk : AllOk lsE := ⟨gLs (.inl rfl) (.inl rfl), gLs (.inl rfl) (.inr rfl), gLs (.inr rfl) (.inl rfl), gLs (.inr rfl) (.inr rfl), trivial⟩
theorem gIs (p q : Bool) : EOk (n_isNames, [nsB p q], .b true) := by cases p <;> cases q <;> exact ek lsE lsOk
abbrev isE : List En := [(n_isNames, [nsB false false], .b true), (n_isNames, [nsB false true], .b true), (n_isNames, [nsB true false], .b true), (n_isNames, [nsB true true], .b true)]
theorem isOk : AllOk isE := ⟨gIs _ _, gIs _ _, gIs _ _, gIs _ _, trivial⟩
theorem gCo (p q : Bool) (x : List Nat) (hx : x ∈ nmB p q) : EOk (n_ContainsS, [nsB p q, .s x], .b true) := by
 have hx := nmB_mem.1 hx
 cases p <;> cases q <;> simp only [Bool.false_eq_true, and_false, and_true, or_false, false_or, or_self] at hx <;> (first | (rcases hx with rfl | rfl) | subst hx) <;> exact ek lsE lsOk
theorem gVa (p q : Bool) (v : Nat) (hv : v < 2 ^ (nmB p q).length) : EOk (n_valuation, [.ag (mdC true p q v)], .tu [nsF p q, nI v, .b true]) := by
 have h4 : v = 0 ∨ v = 1 ∨ v = 2 ∨ v = 3 := by
  have : 2 ^ (nmB p q).length ≤ 4 := by cases p <;> cases q <;> decide
  omega
 rcases h4 with rfl | rfl | rfl | rfl <;> cases p <;> cases q <;> first | exact absurd hv (by decide) | exact ek lsE lsOk
theorem gMo (p q : Bool) (v : Nat) (hv : v < 2 ^ (nmB p q).length) : EOk (n_tModel, [nsB p q, nI v], .tu [.ag (mdC false p q v), nI 0]) := by
 have h4 : v = 0 ∨ v = 1 ∨ v = 2 ∨ v = 3 := by
  have : 2 ^ (nmB p q).length ≤ 4 := by cases p <;> cases q <;> decide
  omega
 rcases h4 with rfl | rfl | rfl | rfl <;> cases p <;> cases q <;> first | exact absurd hv (by decide) | exact ek isE isOk
variable [Pat]
def baseN : Base := { base with glob := fun g => cond (Nat.beq g 12) (some patA) (base.glob g), meth := fun t n => cond (Nat.beq t 145) (methG Tryz.prog 145 n) none }
theorem baseN_ok : BaseOk Tryz.prog baseN := ⟨base_ok.funcs, base_ok.ext, base_ok.orders, meth_ok⟩
theorem up {g : Nat} {ar : List AV} {r : AV} (h : EOk (g, ar, r)) : Kn Tryz.prog baseN g ar r := fun B0 => ⟨(h B0).1, fun k rd w us h1 h2 h3 => (h B0).2 k rd w us h1 (fun g v hv => h2 g v (by
 show cond (Nat.beq g 12) (some patA) (base.glob g) = some v
 have hv : base.glob g = some v := hv
 cases e : Nat.beq g 12 with
 | true =>
  obtain rfl := Nat.eq_of_beq_eq_true e
  rw [show base.glob 12 = none from by kernel_rfl] at hv
  cases hv
 | false => exact hv)) h3⟩
theorem k3N {g : Nat} {c : AFunc} {p : Bool} (h1 : base.funcs.get g = some c := by kernel_rfl) (h2 : base.ext g = 0 := by kernel_rfl) (h3 : base.pure g = p := by kernel_rfl) : baseN.funcs.get g = some c ∧ baseN.ext g = 0 ∧ baseN.pure g = p := ⟨h1, h2, h3⟩
theorem mN {n : String} {g : Nat} (h : methG Tryz.prog 145 n = some g := by kernel_rfl) : baseN.meth 145 n = some g := h
theorem fbN : FB baseN := ⟨k3N, k3N, k3N, k3N, k3N, k3N, k3N, k3N, k3N, k3N, k3N, k3N, k3N, k3N, k3N, k3N, k3N, k3N, k3N, k3N, k3N, k3N, k3N, k3N, k3N, k3N, k3N, k3N, k3N, k3N, k3N, k3N, k3N, k3N, k3N, k3N, k3N, k3N, k3N, k3N, k3N, k3N, k3N, k3N, k3N, k3N, k3N, k3N, k3N, k3N, k3N, k3N, k3N, k3N, k3N, k3N, k3N, fb.fl⟩
theorem flN : ∀ g ∈ [n_Right, n_LessS, n_isNames, n_ContainsS, n_valuation, n_tModel, n_kindOf, n_Sizes, n_logical], base.ext g = 0 ∧ base.pure g = true := by decide +kernel
theorem fhN : FH baseN 145 := ⟨k3N, k3N, k3N, k3N, k3N, k3N, k3N, k3N, k3N, k3N, k3N, k3N, k3N, k3N, k3N, k3N, k3N, k3N, k3N, k3N, k3N, k3N, k3N, k3N, k3N, k3N, k3N, k3N, k3N, k3N, k3N, k3N, k3N, k3N, k3N, k3N, k3N, k3N, k3N, k3N, k3N, k3N, flN, rfl, mN, mN, mN, mN, mN⟩
theorem frN : FRt baseN := ⟨k3N, k3N, k3N, k3N, ⟨(by kernel_rfl : base.ext n_named = 0), (by kernel_rfl : base.pure n_named = true)⟩, (by kernel_rfl : base.glob n_rows = some (.ag rowsL))⟩
theorem ghN : GH Tryz.prog baseN 145 laV := ⟨fun a ha c hc => up (gLs ha hc), fun p q => up (gIs p q), fun p q x hx => up (gCo p q x hx), fun p q v hv => up (gVa p q v hv), fun p q v hv => up (gMo p q v hv), up gKk, up gKs, up gLl, fun a ha => E_rightN baseN_ok frN (up gN1) (up gN2) (up gN3) a ha⟩
end Go.Lyc.T
