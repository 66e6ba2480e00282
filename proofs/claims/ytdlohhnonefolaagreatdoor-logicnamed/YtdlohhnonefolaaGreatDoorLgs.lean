/-
  What is given to the law by runs. No conditions: definitions and laws.
-/
import Derived.Test.YtdlohhnonefolaaGreatDoorMemo5
set_option linter.all false
noncomputable section
namespace Go.Lyc.T
open Go.Lyc.C Go.Lyc Go.RowKit Go.Proofs
variable [Tok] [TokOk]
set_option maxRecDepth 1000000
set_option maxHeartbeats 0
theorem eqE {e e' : En} (h : EOk e) (he : e = e' := by kernel_rfl) : EOk e' := he ▸ h
theorem k3 {g : Nat} {c : AFunc} {p : Bool} (h1 : base.funcs.get g = some c := by kernel_rfl) (h2 : base.ext g = 0 := by kernel_rfl) (h3 : base.pure g = p := by kernel_rfl) : base.funcs.get g = some c ∧ base.ext g = 0 ∧ base.pure g = p := ⟨h1, h2, h3⟩
theorem k2 {g : Nat} (h2 : base.ext g = 0 := by kernel_rfl) (h3 : base.pure g = true := by kernel_rfl) : base.ext g = 0 ∧ base.pure g = true := ⟨h2, h3⟩
def obs : List ObjE := [e93, e147, e191, e274, e309, e315, e325, e414, e506]
theorem obs_ok : AllO obs := ⟨t93, t147, t191, t274, t309, t315, t325, t414, t506, trivial⟩
abbrev bo : Base := base.ob obs
theorem bo_ok : BaseOk Tryz.prog bo := BaseOk.ob base_ok obs_ok.mem
theorem fln : FLn bo := ⟨k3, k3, k3, k3, k3, k3, k3, k3, k3, k3, k3, k3, k3, k3, k3, by kernel_rfl, k2 (g := n_SameLogic), k2 (g := n_LRight), k2 (g := n_awake9), k2 (g := n_rNamed9), k2 (g := n_rLibrary), by kernel_rfl⟩

def A0 : AV := v166
def S0 : AV := v166
theorem g0 : Lv.good (lvOf e93) A0 = true := by decide +kernel
theorem s0 : EOk (6, [A0, S0], .b true) := eqE t111
theorem b0 : Both Tryz.prog bo [75, 49] v79 := ⟨lvOf e93, A0, S0, by kernel_rfl, Lv.good_ok g0, snapAll (by decide +kernel), ofB obs s0, ofB obs (eqE t145), ⟨_, _, _, _, rfl⟩⟩
def A1 : AV := v171
def S1 : AV := v171
theorem g1 : Lv.good (lvOf e147) A1 = true := by decide +kernel
theorem s1 : EOk (6, [A1, S1], .b true) := eqE t148
theorem b1 : Both Tryz.prog bo [74] v80 := ⟨lvOf e147, A1, S1, by kernel_rfl, Lv.good_ok g1, snapAll (by decide +kernel), ofB obs s1, ofB obs (eqE t149), ⟨_, _, _, _, rfl⟩⟩
def A2 : AV := v197
def S2 : AV := v197
theorem g2 : Lv.good (lvOf e191) A2 = true := by decide +kernel
theorem s2 : EOk (6, [A2, S2], .b true) := eqE t202
theorem b2 : Both Tryz.prog bo [75, 50] v90 := ⟨lvOf e191, A2, S2, by kernel_rfl, Lv.good_ok g2, snapAll (by decide +kernel), ofB obs s2, ofB obs (eqE t216), ⟨_, _, _, _, rfl⟩⟩
def A3 : AV := v244
def S3 : AV := v244
theorem g3 : Lv.good (lvOf e274) A3 = true := by decide +kernel
theorem s3 : EOk (6, [A3, S3], .b true) := eqE t287
theorem b3 : Both Tryz.prog bo [75] v113 := ⟨lvOf e274, A3, S3, by kernel_rfl, Lv.good_ok g3, snapAll (by decide +kernel), ofB obs s3, ofB obs (eqE t308), ⟨_, _, _, _, rfl⟩⟩
def A4 : AV := v248
def S4 : AV := v248
theorem g4 : Lv.good (lvOf e309) A4 = true := by decide +kernel
theorem s4 : EOk (6, [A4, S4], .b true) := eqE t310
theorem b4 : Both Tryz.prog bo [84] v117 := ⟨lvOf e309, A4, S4, by kernel_rfl, Lv.good_ok g4, snapAll (by decide +kernel), ofB obs s4, ofB obs (eqE t312), ⟨_, _, _, _, rfl⟩⟩
def A5 : AV := v252
def S5 : AV := v252
theorem g5 : Lv.good (lvOf e315) A5 = true := by decide +kernel
theorem s5 : EOk (6, [A5, S5], .b true) := eqE t318
theorem b5 : Both Tryz.prog bo [83, 52] v120 := ⟨lvOf e315, A5, S5, by kernel_rfl, Lv.good_ok g5, snapAll (by decide +kernel), ofB obs s5, ofB obs (eqE t322), ⟨_, _, _, _, rfl⟩⟩
def A6 : AV := v256
def S6 : AV := v256
theorem g6 : Lv.good (lvOf e325) A6 = true := by decide +kernel
theorem s6 : EOk (6, [A6, S6], .b true) := eqE t328
theorem b6 : Both Tryz.prog bo [83, 53] v122 := ⟨lvOf e325, A6, S6, by kernel_rfl, Lv.good_ok g6, snapAll (by decide +kernel), ofB obs s6, ofB obs (eqE t332), ⟨_, _, _, _, rfl⟩⟩
def A7 : AV := v325
def S7 : AV := v325
theorem g7 : Lv.good (lvOf e414) A7 = true := by decide +kernel
theorem s7 : EOk (6, [A7, S7], .b true) := eqE t432
theorem b7 : Both Tryz.prog bo [76] v144 := ⟨lvOf e414, A7, S7, by kernel_rfl, Lv.good_ok g7, snapAll (by decide +kernel), ofB obs s7, ofB obs (eqE t475), ⟨_, _, _, _, rfl⟩⟩
def libL : List AV := [v79, v80, v90, v113, v117, v120, v122, v144]
theorem bl : BothL Tryz.prog bo lnL libL := ⟨b0, b1, b2, b3, b4, b5, b6, b7, trivial⟩
theorem kl_ : EOk (9, [], .tl false (some 5) libL) := eqE t94
theorem ka_ : EOk (11, [], .b true) := eqE t498
theorem n0 : EOk (n_LogicNamed, [.s [75, 49]], .b true) := toB obs (logicNamed_E (a := (.s [75, 49])) bo_ok rfl fln bl (ofB obs kl_) (ofB obs ka_) (fun _ => rfl) (l := lvOf e93) (e := 0) (ok := true) (.inl ⟨rfl, rfl⟩) (by kernel_rfl) (Lv.good_ok g0) (ofB obs (eqE t95 rfl)) ⟨rfl, rfl⟩ (snapAll (n := 1000) (r := S0) (by decide +kernel)) (ofB obs s0))
theorem n1 : EOk (n_LogicNamed, [.s [74]], .b true) := toB obs (logicNamed_E (a := (.s [74])) bo_ok rfl fln bl (ofB obs kl_) (ofB obs ka_) (fun _ => rfl) (l := lvOf e147) (e := 0) (ok := true) (.inl ⟨rfl, rfl⟩) (by kernel_rfl) (Lv.good_ok g1) (ofB obs (eqE t499 rfl)) ⟨rfl, rfl⟩ (snapAll (n := 1000) (r := S1) (by decide +kernel)) (ofB obs s1))
theorem n2 : EOk (n_LogicNamed, [.s [75, 50]], .b true) := toB obs (logicNamed_E (a := (.s [75, 50])) bo_ok rfl fln bl (ofB obs kl_) (ofB obs ka_) (fun _ => rfl) (l := lvOf e191) (e := 0) (ok := true) (.inl ⟨rfl, rfl⟩) (by kernel_rfl) (Lv.good_ok g2) (ofB obs (eqE t500 rfl)) ⟨rfl, rfl⟩ (snapAll (n := 1000) (r := S2) (by decide +kernel)) (ofB obs s2))
theorem n3 : EOk (n_LogicNamed, [.s [75]], .b true) := toB obs (logicNamed_E (a := (.s [75])) bo_ok rfl fln bl (ofB obs kl_) (ofB obs ka_) (fun _ => rfl) (l := lvOf e274) (e := 0) (ok := true) (.inl ⟨rfl, rfl⟩) (by kernel_rfl) (Lv.good_ok g3) (ofB obs (eqE t501 rfl)) ⟨rfl, rfl⟩ (snapAll (n := 1000) (r := S3) (by decide +kernel)) (ofB obs s3))
theorem n4 : EOk (n_LogicNamed, [.s [84]], .b true) := toB obs (logicNamed_E (a := (.s [84])) bo_ok rfl fln bl (ofB obs kl_) (ofB obs ka_) (fun _ => rfl) (l := lvOf e309) (e := 0) (ok := true) (.inl ⟨rfl, rfl⟩) (by kernel_rfl) (Lv.good_ok g4) (ofB obs (eqE t502 rfl)) ⟨rfl, rfl⟩ (snapAll (n := 1000) (r := S4) (by decide +kernel)) (ofB obs s4))
theorem n5 : EOk (n_LogicNamed, [.s [83, 52]], .b true) := toB obs (logicNamed_E (a := (.s [83, 52])) bo_ok rfl fln bl (ofB obs kl_) (ofB obs ka_) (fun _ => rfl) (l := lvOf e315) (e := 0) (ok := true) (.inl ⟨rfl, rfl⟩) (by kernel_rfl) (Lv.good_ok g5) (ofB obs (eqE t503 rfl)) ⟨rfl, rfl⟩ (snapAll (n := 1000) (r := S5) (by decide +kernel)) (ofB obs s5))
theorem n6 : EOk (n_LogicNamed, [.s [83, 53]], .b true) := toB obs (logicNamed_E (a := (.s [83, 53])) bo_ok rfl fln bl (ofB obs kl_) (ofB obs ka_) (fun _ => rfl) (l := lvOf e325) (e := 0) (ok := true) (.inl ⟨rfl, rfl⟩) (by kernel_rfl) (Lv.good_ok g6) (ofB obs (eqE t504 rfl)) ⟨rfl, rfl⟩ (snapAll (n := 1000) (r := S6) (by decide +kernel)) (ofB obs s6))
theorem n7 : EOk (n_LogicNamed, [.s [76]], .b true) := toB obs (logicNamed_E (a := (.s [76])) bo_ok rfl fln bl (ofB obs kl_) (ofB obs ka_) (fun _ => rfl) (l := lvOf e414) (e := 0) (ok := true) (.inl ⟨rfl, rfl⟩) (by kernel_rfl) (Lv.good_ok g7) (ofB obs (eqE t505 rfl)) ⟨rfl, rfl⟩ (snapAll (n := 1000) (r := S7) (by decide +kernel)) (ofB obs s7))
def A8 : AV := v334
theorem g8 : Lv.good (lvOf e506) A8 = true := by decide +kernel
theorem s8 : EOk (6, [A8, A8], .b true) := eqE t508
theorem n8 : EOk (n_LogicNamed, [.sx lnL], .b true) := toB obs (logicNamed_E (a := .sx lnL) bo_ok rfl fln bl (ofB obs kl_) (ofB obs ka_) (fun _ => rfl) (l := lvOf e506) (e := 6) (ok := false) (.inr ⟨rfl, rfl⟩) (by kernel_rfl) (Lv.good_ok g8) (ofB obs (eqE t507 rfl)) ⟨rfl, rfl⟩ (snapAll (n := 1000) (r := A8) (by decide +kernel)) (ofB obs s8))
theorem nAll : AllOk (lnL.map fun l => (n_LogicNamed, [.s l], .b true)) := ⟨n0, n1, n2, n3, n4, n5, n6, n7, trivial⟩
end Go.Lyc.T
