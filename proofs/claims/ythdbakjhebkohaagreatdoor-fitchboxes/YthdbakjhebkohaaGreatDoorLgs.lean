/-
  What is given to the law by runs. No conditions: definitions and laws.
-/
import Derived.Test.YthdbakjhebkohaaGreatDoorMemo0
import Derived.Test.YthdbakjhebkohaaGreatDoorW3
set_option linter.all false
noncomputable section
namespace Go.Lyc.T
open Go.Lyc Go.RowKit Go.Proofs
variable [Tok] [TokOk]
set_option maxRecDepth 100000
set_option maxHeartbeats 0
theorem kJ {e dS : bn} (h : EOk e) (he : e = dS := by kernel_rfl) : EOk dS := he ▸ h
theorem bg {g : Nat} {c : aP} {p : Bool} (h1 : base.funcs.get g = some c := by kernel_rfl) (h2 : base.ext g = 0 := by kernel_rfl) (h3 : base.pure g = p := by kernel_rfl) : base.funcs.get g = some c ∧ base.ext g = 0 ∧ base.pure g = p := ⟨h1, h2, h3⟩
theorem fb : kZ base := ⟨bg, bg, bg, bg, bg, bg, bg, bg, bg, bg, bg, bg, bg, bg, bg, bg, bg, bg, bg, bg, bg, bg, bg, bg, bg, bg, bg, bg, bg, bg, bg, bg, bg, bg, bg, bg, bg, bg, bg, bg, bg, bg, bg, bg, bg, bg, bg, bg, bg, bg, bg, bg, bg, bg, bg, bg, bg, bg, by decide +kernel⟩
theorem aB : a2W base := ⟨bg, bg, bg, bg, bg, bg, bg, bg, bg, bg, bg, bg, bg, bg, bg, bg, bg, bg, bg, bg, bg, bg, bg, bg, bg, bg, bg, bg, bg, bg, ⟨by kernel_rfl, by kernel_rfl⟩, ⟨by kernel_rfl, by kernel_rfl⟩, by kernel_rfl, by kernel_rfl⟩
def SF : List dj := iz ++ [⟨[105, 102, 102, 73], [nA mA c1, nA c1 mA], gm 3 mA c1⟩, ⟨[105, 102, 102, 69, 49], [hv (gm 3 mA c1), hv mA], c1⟩, ⟨[105, 102, 102, 69, 50], [hv (gm 3 mA c1), hv c1], mA⟩, ⟨[114, 97, 97], [nA (re mA) m0], mA⟩]
def K2 : lu := ⟨[75, 49], 254, 1, 0, [], SF.map dj.A⟩
def a6f : List AV := [(.s [75, 49]), (.i .u32 254), (.i .u8 1), (.i .u8 0), (.a_ false (some 6) [Kl, Km, Kn, Ko, Kp, Kq, Kr, Kt, Ku, Kv, Kw, Kx, Ky, Kz, (.ah [(.s [114, 97, 97]), (.a_ false (some 7) [R1]), (.i .u8 15), (.s [63, 65]), .af, .af])])]
def a6g : List AV := [(.s [74]), (.i .u32 254), (.i .u8 3), (.i .u8 0), (.a_ false (some 6) [Kl, Km, Kn, Ko, Kp, Kq, Kr, Kt, Ku, Kv, Kw, Kx, Ky, Kz])]
abbrev laV : AV := K2.A true
abbrev lgV : AV := .a9 [.ah a6f, .ah a6g]
theorem c5e : EOk (vb, [.af, .af], .b true) := kJ t181
theorem a6h : EOk (n6, [laV], .b true) := kJ t141
theorem c5f : EOk (u9, [], lgV) := kJ t107
theorem c5g : EOk (wH, [], .b true) := kJ t180
theorem c5h : ∀ r ∈ iz, EOk (wO, [r.A], .b true) := by
 intro r al;simp only [iz, dF, gT, or_false] at al;rcases al with rfl | rfl | rfl | rfl | rfl | rfl | rfl | rfl | rfl | rfl | rfl
 · exact kJ t111
 · exact kJ t115
 · exact kJ t116
 · exact kJ t118
 · exact kJ t120
 · exact kJ t122
 · exact kJ t125
 · exact kJ t127
 · exact kJ t130
 · exact kJ t133
 · exact kJ t134
theorem gSc : ∀ r < 9, ∀ p ∈ rowM r, EOk (zf, [p.1.A true], .b true) := by
 intro r al p au;have h : ∀ F ∈ [mA, c1, (gm 0 mA c1), (gm 1 mA c1), (gm 2 mA c1), (re mA), m0], EOk (zf, [F.A true], .b true) := by
  intro F b4;simp only [dF, gT, or_false] at b4;rcases b4 with rfl | rfl | rfl | rfl | rfl | rfl | rfl
  · exact kJ t9
  · exact kJ t16
  · exact kJ t3
  · exact kJ t24
  · exact kJ t48
  · exact kJ t63
  · exact kJ t70
 refine h _ ?_;have : r = 0 ∨ r = 1 ∨ r = 2 ∨ r = 3 ∨ r = 4 ∨ r = 5 ∨ r = 6 ∨ r = 7 ∨ r = 8 := by omega
 rcases this with rfl | rfl | rfl | rfl | rfl | rfl | rfl | rfl | rfl <;> simp only [rowM, dF, gT, or_false] at au <;> (first | (rcases au with rfl | rfl | rfl) | (rcases au with rfl | rfl)) <;> simp
theorem a6i (a : PF) : EOk (nj, [uB (tE a.op), .s a.b7], .b true) := c5a (b := base) (P := Tryz.prog) (cl (e := (nj, [uB 1, .s [80]], .b true))) (cl (e := (nj, [uB 1, .s [81]], .b true))) (cl (e := (nj, [uB 0, .s []], .b true))) a
theorem a6j : ∀ J, bT J (base.bt + 1000) laV = some laV := λJ => by kernel_rfl
theorem giv : rh Tryz.prog base laV lgV := ⟨c5e, λa ha => a3d base_ok aB a6i a ha, λa ha => c4Y base_ok aB a6i K2 I ca a6j a6h a ha, a6h, c5h, c5f, c5g⟩
theorem leafs : Fk (base.env []) := by
 intro g v h;have h : (g, v) ∈ H_ := Na h;simp only [H_, dF, gT, or_false, xV] at h;rcases h with ⟨_, rfl⟩ | ⟨_, rfl⟩ | ⟨_, rfl⟩ | ⟨_, rfl⟩ <;> exact ⟨_, rfl, m4.1 (by kernel_rfl)⟩
theorem lgOk : zj base K2 SF := ⟨rfl, ⟨_, rfl⟩, by decide, by
 intro r al;simp only [SF, iz, Cg, vW, dF, gT, or_false] at al;rcases al with rfl | rfl | rfl | rfl | rfl | rfl | rfl | rfl | rfl | rfl | rfl | rfl | rfl | rfl | rfl <;> exact ⟨ca, λJ => by kernel_rfl⟩, a6j⟩
theorem lcOk : RC base K2 a6f a6g := ⟨⟨rfl, rfl⟩, λJ => by kernel_rfl, by kernel_rfl⟩
end Go.Lyc.T
