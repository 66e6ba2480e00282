/-
  What is given to the law by runs. No conditions: definitions and laws.
-/
import Derived.Test.YtiakhfkclbnpoaaGreatDoorMemo0
import Derived.Test.YtiakhfkclbnpoaaGreatDoorW3
set_option linter.all false
noncomputable section
namespace Go.Lyc.T
open Go.Lyc Go.RowKit Go.Proofs
variable [Tok] [TokOk]
set_option maxRecDepth 100000
set_option maxHeartbeats 0
theorem kY {e c4 : bm} (h : EOk e) (he : e = c4 := by kernel_rfl) : EOk c4 := he ▸ h
theorem k3 {g : Nat} {c : aN} {p : Bool} (h1 : base.funcs.get g = some c := by kernel_rfl) (h2 : base.ext g = 0 := by kernel_rfl) (h3 : base.pure g = p := by kernel_rfl) : base.funcs.get g = some c ∧ base.ext g = 0 ∧ base.pure g = p := ⟨h1, h2, h3⟩
theorem fb : mg base := ⟨k3, k3, k3, k3, k3, k3, k3, k3, k3, k3, k3, k3, k3, k3, k3, k3, k3, k3, k3, k3, k3, k3, k3, k3, k3, k3, k3, k3, k3, k3, k3, k3, k3, k3, k3, k3, k3, k3, k3, k3, k3, k3, k3, k3, k3, k3, k3, k3, k3, k3, k3, k3, k3, k3, k3, k3, k3, by decide +kernel⟩
theorem e6 : LO base := ⟨k3, k3, k3, k3, k3, k3, k3, k3, k3, k3, k3, k3, k3, k3, k3, k3, k3, k3, k3, k3, k3, k3, k3, k3, k3, k3, k3, k3, k3, k3, ⟨by kernel_rfl, by kernel_rfl⟩, ⟨by kernel_rfl, by kernel_rfl⟩, by kernel_rfl, by kernel_rfl⟩
def J7 : List dj := jr ++ [⟨[105, 102, 102, 73], [s3 mA eC, s3 eC mA], ir 3 mA eC⟩, ⟨[105, 102, 102, 69, 49], [hO (ir 3 mA eC), hO mA], eC⟩, ⟨[105, 102, 102, 69, 50], [hO (ir 3 mA eC), hO eC], mA⟩, ⟨[114, 97, 97], [s3 (rJ mA) nn], mA⟩]
def GH : iF := ⟨[75, 49], 254, 1, 0, [], J7.map dj.A⟩
def a8o : List AV := [(.s [75, 49]), (.i .u32 254), (.i .u8 1), (.i .u8 0), (.a_ false (some 6) [LX, LY, LZ, L0, L1, L2, L3, L5, L6, L7, L8, L9, L_, Ma, (.R [(.s [114, 97, 97]), (.a_ false (some 7) [Tt]), (.i .u8 15), (.s [63, 65]), .af, .af])])]
def a8p : List AV := [(.s [74]), (.i .u32 254), (.i .u8 3), (.i .u8 0), (.a_ false (some 6) [LX, LY, LZ, L0, L1, L2, L3, L5, L6, L7, L8, L9, L_, Ma])]
abbrev laV : AV := GH.A true
abbrev lgV : AV := .a0 [.R a8o, .R a8p]
theorem c7l : EOk (vN, [.af, .af], .b true) := kY t181
theorem a8q : EOk (lr, [laV], .b true) := kY t141
theorem c7m : EOk (vK, [], lgV) := kY t107
theorem c7n : EOk (xr, [], .b true) := kY t180
theorem c7o : ∀ r ∈ jr, EOk (xB, [r.A], .b true) := by
 intro r aq;simp only [jr, dB, NQ, or_false] at aq;rcases aq with rfl | rfl | rfl | rfl | rfl | rfl | rfl | rfl | rfl | rfl | rfl
 · exact kY t111
 · exact kY t115
 · exact kY t116
 · exact kY t118
 · exact kY t120
 · exact kY t122
 · exact kY t125
 · exact kY t127
 · exact kY t130
 · exact kY t133
 · exact kY t134
theorem gSc : ∀ r < 9, ∀ p ∈ rowM r, EOk (LD, [p.1.A true], .b true) := by
 intro r aq p aw;have h : ∀ F ∈ [mA, eC, (ir 0 mA eC), (ir 1 mA eC), (ir 2 mA eC), (rJ mA), nn], EOk (LD, [F.A true], .b true) := by
  intro F b2;simp only [dB, NQ, or_false] at b2;rcases b2 with rfl | rfl | rfl | rfl | rfl | rfl | rfl
  · exact kY t9
  · exact kY t16
  · exact kY t3
  · exact kY t24
  · exact kY t48
  · exact kY t63
  · exact kY t70
 refine h _ ?_;have : r = 0 ∨ r = 1 ∨ r = 2 ∨ r = 3 ∨ r = 4 ∨ r = 5 ∨ r = 6 ∨ r = 7 ∨ r = 8 := by omega
 rcases this with rfl | rfl | rfl | rfl | rfl | rfl | rfl | rfl | rfl <;> simp only [rowM, dB, NQ, or_false] at aw <;> (first | (rcases aw with rfl | rfl | rfl) | (rcases aw with rfl | rfl)) <;> simp
theorem PZ (a : PF) : EOk (lb, [fa (qn a.op), .s a.bO], .b true) := c6l (b := base) (P := Tryz.prog) (cl (e := (lb, [fa 1, .s [80]], .b true))) (cl (e := (lb, [fa 1, .s [81]], .b true))) (cl (e := (lb, [fa 0, .s []], .b true))) a
theorem a8r : ∀ J, bM J (base.bp + 1000) laV = some laV := λJ => by kernel_rfl
theorem giv : x9 Tryz.prog base laV lgV := ⟨c7l, λa ha => a4N base_ok e6 PZ a ha, λa ha => c6k base_ok e6 PZ GH I bw a8r a8q a ha, a8q, c7o, c7m, c7n⟩
theorem leafs : Gu (base.env []) := by
 intro g v h;have h : (g, v) ∈ Js := OQ h;simp only [Js, dB, NQ, or_false, yS] at h;rcases h with ⟨_, rfl⟩ | ⟨_, rfl⟩ | ⟨_, rfl⟩ | ⟨_, rfl⟩ <;> exact ⟨_, rfl, nY.1 (by kernel_rfl)⟩
theorem lgOk : CL base GH J7 := ⟨rfl, ⟨_, rfl⟩, by decide, by
 intro r aq;simp only [J7, jr, C5, yQ, dB, NQ, or_false] at aq;rcases aq with rfl | rfl | rfl | rfl | rfl | rfl | rfl | rfl | rfl | rfl | rfl | rfl | rfl | rfl | rfl <;> exact ⟨bw, λJ => by kernel_rfl⟩, a8r⟩
theorem lcOk : SX base GH a8o a8p := ⟨⟨rfl, rfl⟩, λJ => by kernel_rfl, by kernel_rfl⟩
end Go.Lyc.T
