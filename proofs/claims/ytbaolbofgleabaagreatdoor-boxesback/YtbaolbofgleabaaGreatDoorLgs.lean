/-
  What is given to the law by runs. No conditions: definitions and laws.
-/
import Derived.Test.YtbaolbofgleabaaGreatDoorMemo1
import Derived.Test.YtbaolbofgleabaaGreatDoorW4
set_option linter.all false
noncomputable section
namespace Go.Lyc.T
open Go.Lyc Go.RowKit Go.Proofs
variable [Tok] [TokOk]
set_option maxRecDepth 100000
set_option maxHeartbeats 0
theorem lq {e d_ : dA} (h : EOk e) (he : e = d_ := by kernel_rfl) : EOk d_ := he ▸ h
theorem k3 {g : Nat} {c : gr} {p : Bool} (h1 : base.funcs.get g = some c := by kernel_rfl) (h2 : base.ext g = 0 := by kernel_rfl) (h3 : base.pure g = p := by kernel_rfl) : base.funcs.get g = some c ∧ base.ext g = 0 ∧ base.pure g = p := ⟨h1, h2, h3⟩
theorem fb : oh base := ⟨k3, k3, k3, k3, k3, k3, k3, k3, k3, k3, k3, k3, k3, k3, k3, k3, k3, k3, k3, k3, k3, k3, k3, k3, k3, k3, k3, k3, k3, k3, k3, k3, k3, k3, k3, k3, k3, k3, k3, k3, k3, k3, k3, k3, k3, k3, k3, k3, k3, k3, k3, k3, k3, k3, k3, k3, k3, by decide +kernel⟩
theorem ftr : WI base := ⟨k3, k3, k3, k3, k3, k3, k3, k3, k3, k3, k3, k3, k3, k3, k3, k3, k3, k3, k3, k3, k3, k3, k3, k3, k3, k3, k3, k3, k3, k3, k3, k3, k3, k3, k3, k3, k3, ⟨by kernel_rfl, by kernel_rfl⟩⟩
theorem cR : a6w base := ⟨k3, k3, k3, k3, k3, k3, k3, k3, k3, k3, k3, k3, k3, k3, k3, k3, k3, k3, k3, k3, k3, k3, k3, k3, k3, k3, k3, k3, k3, k3, ⟨by kernel_rfl, by kernel_rfl⟩, ⟨by kernel_rfl, by kernel_rfl⟩, by kernel_rfl, by kernel_rfl⟩
def restJ : List bw := [⟨[105, 102, 102, 73], [tX mA ec, tX ec mA], iA 3 mA ec⟩, ⟨[105, 102, 102, 69, 49], [iB (iA 3 mA ec), iB mA], ec⟩, ⟨[105, 102, 102, 69, 50], [iB (iA 3 mA ec), iB ec], mA⟩]
def restK : List bw := restJ ++ [⟨[114, 97, 97], [tX (qJ mA) m_], mA⟩]
def lgK1 : hz := ⟨[75, 49], 254, 1, 0, [], (rulesP ++ restK).map bw.A⟩
def lgJ : hz := ⟨[74], 254, 3, 0, [], (rulesP ++ restJ).map bw.A⟩
def lcF : List AV := [(.s [75, 49]), (.i .u32 254), (.i .u8 1), (.i .u8 0), (.aV false (some 6) [Jd, Je, Jf, Jg, Jh, Ji, Jj, Jk, v30, Jl, Jm, Jn, Jo, Jp, WR])]
def jcF : List AV := [(.s [74]), (.i .u32 254), (.i .u8 3), (.i .u8 0), (.aV false (some 6) [Jd, Je, Jf, Jg, Jh, Ji, Jj, Jk, v30, Jl, Jm, Jn, Jo, Jp])]
theorem a7O : EOk (wH, [.nilsl, .nilsl], .b true) := lq t75
theorem a7P : EOk (mo, [lgK1.A true], .b true) := lq t55
theorem gNK : EOk (sy, [.s [75, 49]], .bg [.aj lcF, ag 0]) := lq t22
theorem gNJ : EOk (sy, [.s [74]], .bg [.aj jcF, ag 0]) := lq t23
theorem a7Q : EOk (mo, [lgJ.A true], .b true) := fy [Pd,Pe,Pf,Pg,Ph,Pj,Jx,Pk,Pl,Pm,Pn,Po,Pp,Pq,Pr] ⟨t40,t41,t42,t43,t44,t45,t46,t47,t48,t49,t50,t51,t52,t53,t54,trivial⟩
theorem gAw : EOk (tD, [], .b true) := lq t76
theorem a7R : ∀ r ∈ rulesP, EOk (ym, [r.A], .b true) := by
 intro r ak;simp only [rulesP, c2, hj, or_false] at ak;rcases ak with rfl | rfl | rfl | rfl | rfl | rfl | rfl | rfl | rfl | rfl | rfl
 · exact lq t40
 · exact lq t41
 · exact lq t42
 · exact lq t43
 · exact lq t44
 · exact lq t45
 · exact lq t46
 · exact lq t47
 · exact lq t48
 · exact lq t49
 · exact lq t50
theorem gSc : ∀ r < 11, ∀ p ∈ rowM r, EOk (MB, [p.1.A true], .b true) := by
 intro r ak p an;have h : ∀ F ∈ [mA, ec, (iA 0 mA ec), (iA 1 mA ec), (iA 2 mA ec), (qJ mA), m_], EOk (MB, [F.A true], .b true) := by
  intro F bL;simp only [c2, hj, or_false] at bL;rcases bL with rfl | rfl | rfl | rfl | rfl | rfl | rfl
  · exact lq t2
  · exact lq t4
  · exact lq t0
  · exact lq t6
  · exact lq t11
  · exact lq t14
  · exact lq t16
 refine h _ ?_;have : r = 0 ∨ r = 1 ∨ r = 2 ∨ r = 3 ∨ r = 4 ∨ r = 5 ∨ r = 6 ∨ r = 7 ∨ r = 8 ∨ r = 9 ∨ r = 10 := by omega
 rcases this with rfl | rfl | rfl | rfl | rfl | rfl | rfl | rfl | rfl | rfl | rfl <;> simp only [rowM, c2, hj, or_false] at an <;> (first | (rcases an with rfl | rfl | rfl) | (rcases an with rfl | rfl)) <;> simp
theorem Ps (a : PF) : EOk (oN, [uB (u4 a.op), .s a.aW], .b true) := c8O (b := base) (P := Tryz.prog) (kl (e := (oN, [uB 1, .s [80]], .b true))) (kl (e := (oN, [uB 1, .s [81]], .b true))) (kl (e := (oN, [uB 0, .s []], .b true))) a
theorem a7S : ∀ J, bt J (base.bh + 1000) (lgK1.A true) = some (lgK1.A true) := λJ => by kernel_rfl
theorem a7T : ∀ J, bt J (base.bh + 1000) (lgJ.A true) = some (lgJ.A true) := λJ => by kernel_rfl
theorem givK : y9 Tryz.prog base (lgK1.A true) .nilsl := ⟨a7O, λa ha => WO base_ok cR Ps a ha, λa ha => a6D base_ok cR Ps lgK1 I b_ a7S a7P a ha, a7P, a7R⟩
theorem givJ : y9 Tryz.prog base (lgJ.A true) .nilsl := ⟨a7O, λa ha => WO base_ok cR Ps a ha, λa ha => a6D base_ok cR Ps lgJ I b_ a7T a7Q a ha, a7Q, a7R⟩
theorem leafs : I7 (base.env []) := by
 intro g v h;have h : (g, v) ∈ Mi := RH h;simp only [Mi, c2, hj, or_false, zK] at h;rcases h with ⟨_, rfl⟩ | ⟨_, rfl⟩ | ⟨_, rfl⟩ | ⟨_, rfl⟩ <;> exact ⟨_, rfl, pk.1 (by kernel_rfl)⟩
theorem rK {p : bw->Prop} (h : ∀ r ∈ rulesP ++ restK, p r) : ∀ r ∈ rulesP ++ restJ, p r := λr ak => h r (by rw [restK, ← iJ]; exact zI _ ak)
theorem a7U : ∀ r ∈ rulesP ++ restK, r.cg.length < 4 ∧ ∀ J, bt J (base.bh + 1000) r.A = some r.A := by
 intro r ak;simp only [restK, restJ, rulesP, zf, xI, c2, hj, or_false] at ak;rcases ak with rfl | rfl | rfl | rfl | rfl | rfl | rfl | rfl | rfl | rfl | rfl | rfl | rfl | rfl | rfl <;> exact ⟨b_, λJ => by kernel_rfl⟩
theorem ps9 : ∀ r ∈ rulesP ++ restK, ∀ J, bt J (base.bh + 999) r.A = some r.A := by
 intro r ak;simp only [restK, restJ, rulesP, zf, xI, c2, hj, or_false] at ak;rcases ak with rfl | rfl | rfl | rfl | rfl | rfl | rfl | rfl | rfl | rfl | rfl | rfl | rfl | rfl | rfl <;> exact λJ => by kernel_rfl
theorem nmK : (rulesP ++ restK).Pairwise (λx y => x.aW ≠ y.aW) := by decide +kernel
theorem nmJ_ : (rulesP ++ restJ).Pairwise (λx y => x.aW ≠ y.aW) := by decide +kernel
theorem okK : Eo base lgK1 (rulesP ++ restK) := ⟨rfl, ⟨_, rfl⟩, by decide, λr ak => ⟨Nat.lt_trans (a7U r ak).1 b_, (a7U r ak).2⟩, a7S⟩
theorem okJ : Eo base lgJ (rulesP ++ restJ) := ⟨rfl, ⟨_, rfl⟩, by decide, rK okK.aE, a7T⟩
theorem lcK : lcF.length = 5 ∧ ∀ J, bt J (base.bh + 1000) (.aj lcF) = some (lgK1.A true) := ⟨rfl, λJ => by kernel_rfl⟩
theorem lcJ : jcF.length = 5 ∧ ∀ J, bt J (base.bh + 1000) (.aj jcF) = some (lgJ.A true) := ⟨rfl, λJ => by kernel_rfl⟩
end Go.Lyc.T
