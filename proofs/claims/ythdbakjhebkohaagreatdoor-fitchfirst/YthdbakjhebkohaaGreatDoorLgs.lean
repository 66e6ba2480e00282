/-
  What is given to the law by runs. No conditions: definitions and laws.
-/
import Derived.Test.YthdbakjhebkohaaGreatDoorMemo0
import Derived.Test.YthdbakjhebkohaaGreatDoorW3
set_option linter.all false
noncomputable section
namespace Go.Lyc.T
open Go.Lyc Go.RowKit Go.Proofs
variable [Tok] [TokOk]
set_option maxRecDepth 100000
set_option maxHeartbeats 0
theorem jz {e eg : bd} (h : EOk e) (he : e = eg := by kernel_rfl) : EOk eg := he ▸ h
theorem bc {g : Nat} {c : aI} {p : Bool} (h1 : base.funcs.get g = some c := by kernel_rfl) (h2 : base.ext g = 0 := by kernel_rfl) (h3 : base.pure g = p := by kernel_rfl) : base.funcs.get g = some c ∧ base.ext g = 0 ∧ base.pure g = p := ⟨h1, h2, h3⟩
theorem fb : jU base := ⟨bc, bc, bc, bc, bc, bc, bc, bc, bc, bc, bc, bc, bc, bc, bc, bc, bc, bc, bc, bc, bc, bc, bc, bc, bc, bc, bc, bc, bc, bc, bc, bc, bc, bc, bc, bc, bc, bc, bc, bc, bc, bc, bc, bc, bc, bc, bc, bc, bc, bc, bc, bc, bc, bc, bc, bc, bc, by decide +kernel⟩
theorem ay : XI base := ⟨bc, bc, bc, bc, bc, bc, bc, bc, bc, bc, bc, bc, bc, bc, bc, bc, bc, bc, bc, bc, bc, bc, bc, bc, bc, bc, bc, bc, bc, bc, ⟨by kernel_rfl, by kernel_rfl⟩, ⟨by kernel_rfl, by kernel_rfl⟩, by kernel_rfl, by kernel_rfl⟩
def Ot : List dn := ih ++ [⟨[105, 102, 102, 73], [qe mA dM, qe dM mA], gS 3 mA dM⟩, ⟨[105, 102, 102, 69, 49], [gr (gS 3 mA dM), gr mA], dM⟩, ⟨[105, 102, 102, 69, 50], [gr (gS 3 mA dM), gr dM], mA⟩, ⟨[114, 97, 97], [qe (o9 mA) lp], mA⟩]
def Hq : lN := ⟨[75, 49], 254, 1, 0, [], Ot.map dn.A⟩
def a0k : List AV := [(.s [75, 49]), (.i .u32 254), (.i .u8 1), (.i .u8 0), (.a7 false (some 6) [GF, GG, GH, GI, GK, GL, GM, GP, GQ, GS, GV, GW, GX, GY, (.ag [(.s [114, 97, 97]), (.a7 false (some 7) [NN]), (.i .u8 15), (.s [63, 65]), .ae, .ae])])]
def a0l : List AV := [(.s [74]), (.i .u32 254), (.i .u8 3), (.i .u8 0), (.a7 false (some 6) [GF, GG, GH, GI, GK, GL, GM, GP, GQ, GS, GV, GW, GX, GY])]
abbrev laV : AV := Hq.A true
abbrev lgV : AV := .a6 [.ag a0k, .ag a0l]
theorem b8w : EOk (sr, [.ae, .ae], .b true) := jz t181
theorem a0m : EOk (mm, [laV], .b true) := jz t141
theorem b8x : EOk (sm, [], lgV) := jz t107
theorem b8y : EOk (tI, [], .b true) := jz t180
theorem b8z : ∀ r ∈ ih, EOk (tQ, [r.A], .b true) := by
 intro r ak;simp only [ih, List.mem_cons, List.not_mem_nil, or_false] at ak;rcases ak with rfl | rfl | rfl | rfl | rfl | rfl | rfl | rfl | rfl | rfl | rfl
 · exact jz t111
 · exact jz t115
 · exact jz t116
 · exact jz t118
 · exact jz t120
 · exact jz t122
 · exact jz t125
 · exact jz t127
 · exact jz t130
 · exact jz t133
 · exact jz t134
theorem gSc : ∀ r < 9, ∀ p ∈ rowM r, EOk (GC, [p.1.A true], .b true) := by
 intro r ak p ar;have h : ∀ F ∈ [mA, dM, (gS 0 mA dM), (gS 1 mA dM), (gS 2 mA dM), (o9 mA), lp], EOk (GC, [F.A true], .b true) := by
  intro F b_;simp only [List.mem_cons, List.not_mem_nil, or_false] at b_;rcases b_ with rfl | rfl | rfl | rfl | rfl | rfl | rfl
  · exact jz t9
  · exact jz t16
  · exact jz t3
  · exact jz t24
  · exact jz t48
  · exact jz t63
  · exact jz t70
 refine h _ ?_;have : r = 0 ∨ r = 1 ∨ r = 2 ∨ r = 3 ∨ r = 4 ∨ r = 5 ∨ r = 6 ∨ r = 7 ∨ r = 8 := by omega
 rcases this with rfl | rfl | rfl | rfl | rfl | rfl | rfl | rfl | rfl <;> simp only [rowM, List.mem_cons, List.not_mem_nil, or_false] at ar <;> (first | (rcases ar with rfl | rfl | rfl) | (rcases ar with rfl | rfl)) <;> simp
theorem a0n (a : PF) : EOk (lH, [uB (q9 a.op), .s a.bZ], .b true) := b8s (b := base) (P := Tryz.prog) (b7 (e := (lH, [uB 1, .s [80]], .b true))) (b7 (e := (lH, [uB 1, .s [81]], .b true))) (b7 (e := (lH, [uB 0, .s []], .b true))) a
theorem a0o : ∀ J, bG J (base.bn + 1000) laV = some laV := λJ => by kernel_rfl
theorem giv : wB Tryz.prog base laV lgV := ⟨b8w, λa ha => XP base_ok ay a0n a ha, λa ha => b8q base_ok ay a0n Hq I (by decide) a0o a0m a ha, a0m, b8z, b8x, b8y⟩
theorem leafs : B_ (base.env []) := by
 intro g v h;have h : (g, v) ∈ Et := Js h;simp only [Et, List.mem_cons, List.not_mem_nil, or_false, Prod.mk.injEq] at h;rcases h with ⟨_, rfl⟩ | ⟨_, rfl⟩ | ⟨_, rfl⟩ | ⟨_, rfl⟩ <;> exact ⟨_, rfl, List.all_eq_true.1 (by kernel_rfl)⟩
theorem lgOk : NA base Hq Ot := ⟨rfl, ⟨_, rfl⟩, by decide, by
 intro r ak;simp only [Ot, ih, List.cons_append, List.nil_append, List.mem_cons, List.not_mem_nil, or_false] at ak;rcases ak with rfl | rfl | rfl | rfl | rfl | rfl | rfl | rfl | rfl | rfl | rfl | rfl | rfl | rfl | rfl <;> exact ⟨by decide, λJ => by kernel_rfl⟩, a0o⟩
theorem lcOk : NB base Hq a0k a0l := ⟨⟨rfl, rfl⟩, λJ => by kernel_rfl, by kernel_rfl⟩
end Go.Lyc.T
