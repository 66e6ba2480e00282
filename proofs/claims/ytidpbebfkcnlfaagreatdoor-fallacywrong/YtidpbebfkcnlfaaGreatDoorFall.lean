/-
  The law, whatever the formula, by cases. No conditions: laws.
-/
import Derived.Test.YtidpbebfkcnlfaaGreatDoorRun0
import Derived.Test.YtidpbebfkcnlfaaGreatDoorRun1
import Derived.Test.YtidpbebfkcnlfaaGreatDoorRun2
import Derived.Test.YtidpbebfkcnlfaaGreatDoorRun3
import Derived.Test.YtidpbebfkcnlfaaGreatDoorRun4
import Derived.Test.YtidpbebfkcnlfaaGreatDoorRun5
import Derived.Test.YtidpbebfkcnlfaaGreatDoorRun6
import Derived.Test.YtidpbebfkcnlfaaGreatDoorRun7
import Derived.KernelRfl
set_option linter.all false
noncomputable section
namespace Go.Lyc.T
open Go.Lyc Go.RowKit Go.Proofs
set_option maxRecDepth 1000000
set_option maxHeartbeats 0
theorem sbF (F : Fm) (n : Nat) : letI := tokOf F; elemF (sb (n + 1)) tokF = F.A true := by
 letI := tokOf F
 unfold Fm.A
 rw [Fm.cells_eq]; rfl
theorem EOk.sb {F : Fm} {g : Nat} {ar : List AV} {r : AV} (h : letI := tokOf F; EOk (g, ar.map (Go.Lyc.sb 6), r)) : letI := tokOf F; EOk (g, ar, r) := by
 letI := tokOf F
 haveI := tokOf_ok F
 exact fun B0 => SpecEntry.sb 6 (h B0)
def smallTo (b : Bool) : Nat × List AV × AV := (n_Small, [.tl true (some 4) [tokF]], .b b)
theorem gSm (F : Fm) (hF : F.ok) : letI := tokOf F; EOk (smallTo (smallB F)) := by
 letI := tokOf F
 haveI := tokOf_ok F
 refine EOk.sb ?_
 have e : [AV.tl true (some 4) [tokF]].map (Go.Lyc.sb 6) = [.tl true (some 4) [F.A true]] := by
  show [AV.tl true (some 4) [elemF (Go.Lyc.sb 5) tokF]] = _
  rw [sbF F 4]
 rw [e]; exact small_E F hF
def alTo (l : Lg) (b : Bool) : Nat × List AV × AV := (n_Allowed, [l.A true, tokF], .b b)
def twoTo (l : Lg) : Nat × List AV × AV := (n_Allowed, [l.A true, .ag [.i .u8 14, .s [], .nilsl, .tl true (some 4) [tokF, .ag [.i .u8 10, .s [], .nilsl, .tl true (some 4) [tokF]]]]], .b false)

theorem sbL0 [Tok] [TokOk] {l : Lg} (hl : l ∈ lgs) : Go.Lyc.sb 6 (l.A true) = l.A true := by
 rcases lgs_cases hl with rfl | rfl | rfl | rfl | rfl | rfl | rfl | rfl <;> kernel_rfl
theorem sbL {l : Lg} (hl : l ∈ lgs) (F : Fm) : letI := tokOf F; Go.Lyc.sb 6 (l.A true) = l.A true := by
 letI := tokOf F
 haveI := tokOf_ok F
 exact sbL0 hl
theorem gAl (F : Fm) (hF : F.ok) {l : Lg} (hl : l ∈ lgs) : letI := tokOf F; EOk (alTo l (oneB l.ops l.kind F)) := by
 letI := tokOf F
 haveI := tokOf_ok F
 refine EOk.sb ?_
 have e : [l.A true, tokF].map (Go.Lyc.sb 6) = [l.A true, F.A true] := by
  show [Go.Lyc.sb 6 (l.A true), elemF (Go.Lyc.sb 5) tokF] = _
  rw [sbF F 4, sbL hl F]
 rw [e]; exact allowed_E hl F F hF (dep_two F)
theorem gTw (F : Fm) (hF : F.ok) {l : Lg} (hl : l ∈ lgs) : letI := tokOf F; EOk (twoTo l) := by
 letI := tokOf F
 haveI := tokOf_ok F
 refine EOk.sb ?_
 have e : [l.A true, .ag [.i .u8 14, .s [], .nilsl, .tl true (some 4) [tokF, .ag [.i .u8 10, .s [], .nilsl, .tl true (some 4) [tokF]]]]].map (Go.Lyc.sb 6) = [l.A true, F.two.A true] := by
  show [Go.Lyc.sb 6 (l.A true), AV.ag [.i .u8 14, .s [], .nilsl, .tl true (some 4) [elemF (Go.Lyc.sb 4) tokF, .ag [.i .u8 10, .s [], .nilsl, .tl true (some 4) [elemF (Go.Lyc.sb 2) tokF]]]]] = _
  rw [sbF F 3, sbF F 1, sbL hl F]
  have h1 : (Fm.mk 10 [] none (some [F])).A true = .ag [.i .u8 10, .s [], .nilsl, .tl true (some 4) [F.A true]] := by unfold Fm.A; rw [Fm.cells_eq]; rfl
  have h2 : F.two.A true = .ag [.i .u8 14, .s [], .nilsl, .tl true (some 4) [F.A true, (Fm.mk 10 [] none (some [F])).A true]] := by unfold Fm.two; rw [Fm.A, Fm.cells_eq]; rfl
  rw [h2, h1]
 rw [e]
 have := allowed_E hl F F.two (ok_two hF) (Nat.le_refl _)
 rwa [two_not (opl hl).2] at this
section
variable [Tok] [TokOk]
def lawX (w f nm : AV) : Nat × List AV × AV := (n_FallacyWrong, lawA w f nm, .b true)
abbrev um1 : AV := .um .u8 1 0
theorem big (h : EOk (smallTo false)) : EOk (lawX um1 um1 (.sx [])) := eok [e469, smallTo false] ⟨t469, h, trivial⟩ (by decide +kernel)
theorem rfK1 (h : EOk (smallTo true)) (h2 : EOk (alTo lgK1 false)) : EOk (lawX (.um .u8 8 0) um1 (.sx [])) := eok [e469, smallTo true, e471, e23, alTo lgK1 false] ⟨t469, h, t471, t23, h2, trivial⟩ (by decide +kernel)
theorem eaK1 : e472 = alTo lgK1 true := by kernel_rfl
theorem etK1 : e667 = twoTo lgK1 := by kernel_rfl
theorem rfJ (h : EOk (smallTo true)) (h2 : EOk (alTo lgJ false)) : EOk (lawX (.um .u8 8 1) um1 (.sx [])) := eok [e469, smallTo true, e471, e250, alTo lgJ false] ⟨t469, h, t471, t250, h2, trivial⟩ (by decide +kernel)
theorem eaJ : e676 = alTo lgJ true := by kernel_rfl
theorem etJ : e686 = twoTo lgJ := by kernel_rfl
theorem rfK2 (h : EOk (smallTo true)) (h2 : EOk (alTo lgK2 false)) : EOk (lawX (.um .u8 8 2) um1 (.sx [])) := eok [e469, smallTo true, e471, e292, alTo lgK2 false] ⟨t469, h, t471, t292, h2, trivial⟩ (by decide +kernel)
theorem eaK2 : e694 = alTo lgK2 true := by kernel_rfl
theorem etK2 : e704 = twoTo lgK2 := by kernel_rfl
theorem rfK (h : EOk (smallTo true)) (h2 : EOk (alTo lgK false)) : EOk (lawX (.um .u8 8 3) um1 (.sx [])) := eok [e469, smallTo true, e471, e373, alTo lgK false] ⟨t469, h, t471, t373, h2, trivial⟩ (by decide +kernel)
theorem eaK : e712 = alTo lgK true := by kernel_rfl
theorem etK : e722 = twoTo lgK := by kernel_rfl
theorem rfT (h : EOk (smallTo true)) (h2 : EOk (alTo lgT false)) : EOk (lawX (.um .u8 8 4) um1 (.sx [])) := eok [e469, smallTo true, e471, e730, alTo lgT false] ⟨t469, h, t471, t730, h2, trivial⟩ (by decide +kernel)
theorem eaT : e731 = alTo lgT true := by kernel_rfl
theorem etT : e742 = twoTo lgT := by kernel_rfl
theorem rfS4 (h : EOk (smallTo true)) (h2 : EOk (alTo lgS4 false)) : EOk (lawX (.um .u8 8 5) um1 (.sx [])) := eok [e469, smallTo true, e471, e750, alTo lgS4 false] ⟨t469, h, t471, t750, h2, trivial⟩ (by decide +kernel)
theorem eaS4 : e751 = alTo lgS4 true := by kernel_rfl
theorem etS4 : e762 = twoTo lgS4 := by kernel_rfl
theorem rfS5 (h : EOk (smallTo true)) (h2 : EOk (alTo lgS5 false)) : EOk (lawX (.um .u8 8 6) um1 (.sx [])) := eok [e469, smallTo true, e471, e435, alTo lgS5 false] ⟨t469, h, t471, t435, h2, trivial⟩ (by decide +kernel)
theorem eaS5 : e770 = alTo lgS5 true := by kernel_rfl
theorem etS5 : e780 = twoTo lgS5 := by kernel_rfl
theorem rfL (h : EOk (smallTo true)) (h2 : EOk (alTo lgL false)) : EOk (lawX (.um .u8 8 7) um1 (.sx [])) := eok [e469, smallTo true, e471, e811, alTo lgL false] ⟨t469, h, t471, t811, h2, trivial⟩ (by decide +kernel)
theorem eaL : e812 = alTo lgL true := by kernel_rfl
theorem etL : e862 = twoTo lgL := by kernel_rfl
theorem es : e470 = smallTo true := by kernel_rfl
theorem alK1 (hS : EOk (smallTo true)) (hA : EOk (alTo lgK1 true)) (hT : EOk (twoTo lgK1)) {j : Nat} (hj : j < 6) {nm : AV} (hn : nm ∈ nmA) : EOk (lawX (.um .u8 8 0) (.um .u8 6 j) nm) := by
 rw [← es] at hS
 rw [← eaK1] at hA
 rw [← etK1] at hT
 match j, hj with
 | 0, _ => exact law_of w00 (r00 hS hA) hn
 | 1, _ => exact law_of w01 (r01 hS hA) hn
 | 2, _ => exact law_of w02 (r02 hS hA) hn
 | 3, _ => exact law_of w03 (r03 hS hA hT) hn
 | 4, _ => exact law_of w04 (r04 hS hA) hn
 | 5, _ => exact law_of w05 (r05 hS hA) hn
theorem alJ (hS : EOk (smallTo true)) (hA : EOk (alTo lgJ true)) (hT : EOk (twoTo lgJ)) {j : Nat} (hj : j < 6) {nm : AV} (hn : nm ∈ nmA) : EOk (lawX (.um .u8 8 1) (.um .u8 6 j) nm) := by
 rw [← es] at hS
 rw [← eaJ] at hA
 rw [← etJ] at hT
 match j, hj with
 | 0, _ => exact law_of w10 (r10 hS hA) hn
 | 1, _ => exact law_of w11 (r11 hS hA) hn
 | 2, _ => exact law_of w12 (r12 hS hA) hn
 | 3, _ => exact law_of w13 (r13 hS hA hT) hn
 | 4, _ => exact law_of w14 (r14 hS hA) hn
 | 5, _ => exact law_of w15 (r15 hS hA) hn
theorem alK2 (hS : EOk (smallTo true)) (hA : EOk (alTo lgK2 true)) (hT : EOk (twoTo lgK2)) {j : Nat} (hj : j < 6) {nm : AV} (hn : nm ∈ nmA) : EOk (lawX (.um .u8 8 2) (.um .u8 6 j) nm) := by
 rw [← es] at hS
 rw [← eaK2] at hA
 rw [← etK2] at hT
 match j, hj with
 | 0, _ => exact law_of w20 (r20 hS hA) hn
 | 1, _ => exact law_of w21 (r21 hS hA) hn
 | 2, _ => exact law_of w22 (r22 hS hA) hn
 | 3, _ => exact law_of w23 (r23 hS hA hT) hn
 | 4, _ => exact law_of w24 (r24 hS hA) hn
 | 5, _ => exact law_of w25 (r25 hS hA) hn
theorem alK (hS : EOk (smallTo true)) (hA : EOk (alTo lgK true)) (hT : EOk (twoTo lgK)) {j : Nat} (hj : j < 6) {nm : AV} (hn : nm ∈ nmA) : EOk (lawX (.um .u8 8 3) (.um .u8 6 j) nm) := by
 rw [← es] at hS
 rw [← eaK] at hA
 rw [← etK] at hT
 match j, hj with
 | 0, _ => exact law_of w30 (r30 hS hA) hn
 | 1, _ => exact law_of w31 (r31 hS hA) hn
 | 2, _ => exact law_of w32 (r32 hS hA) hn
 | 3, _ => exact law_of w33 (r33 hS hA hT) hn
 | 4, _ => exact law_of w34 (r34 hS hA) hn
 | 5, _ => exact law_of w35 (r35 hS hA) hn
theorem alT (hS : EOk (smallTo true)) (hA : EOk (alTo lgT true)) (hT : EOk (twoTo lgT)) {j : Nat} (hj : j < 6) {nm : AV} (hn : nm ∈ nmA) : EOk (lawX (.um .u8 8 4) (.um .u8 6 j) nm) := by
 rw [← es] at hS
 rw [← eaT] at hA
 rw [← etT] at hT
 match j, hj with
 | 0, _ => exact law_of w40 (r40 hS hA) hn
 | 1, _ => exact law_of w41 (r41 hS hA) hn
 | 2, _ => exact law_of w42 (r42 hS hA) hn
 | 3, _ => exact law_of w43 (r43 hS hA hT) hn
 | 4, _ => exact law_of w44 (r44 hS hA) hn
 | 5, _ => exact law_of w45 (r45 hS hA) hn
theorem alS4 (hS : EOk (smallTo true)) (hA : EOk (alTo lgS4 true)) (hT : EOk (twoTo lgS4)) {j : Nat} (hj : j < 6) {nm : AV} (hn : nm ∈ nmA) : EOk (lawX (.um .u8 8 5) (.um .u8 6 j) nm) := by
 rw [← es] at hS
 rw [← eaS4] at hA
 rw [← etS4] at hT
 match j, hj with
 | 0, _ => exact law_of w50 (r50 hS hA) hn
 | 1, _ => exact law_of w51 (r51 hS hA) hn
 | 2, _ => exact law_of w52 (r52 hS hA) hn
 | 3, _ => exact law_of w53 (r53 hS hA hT) hn
 | 4, _ => exact law_of w54 (r54 hS hA) hn
 | 5, _ => exact law_of w55 (r55 hS hA) hn
theorem alS5 (hS : EOk (smallTo true)) (hA : EOk (alTo lgS5 true)) (hT : EOk (twoTo lgS5)) {j : Nat} (hj : j < 6) {nm : AV} (hn : nm ∈ nmA) : EOk (lawX (.um .u8 8 6) (.um .u8 6 j) nm) := by
 rw [← es] at hS
 rw [← eaS5] at hA
 rw [← etS5] at hT
 match j, hj with
 | 0, _ => exact law_of w60 (r60 hS hA) hn
 | 1, _ => exact law_of w61 (r61 hS hA) hn
 | 2, _ => exact law_of w62 (r62 hS hA) hn
 | 3, _ => exact law_of w63 (r63 hS hA hT) hn
 | 4, _ => exact law_of w64 (r64 hS hA) hn
 | 5, _ => exact law_of w65 (r65 hS hA) hn
theorem alL (hS : EOk (smallTo true)) (hA : EOk (alTo lgL true)) (hT : EOk (twoTo lgL)) {j : Nat} (hj : j < 6) {nm : AV} (hn : nm ∈ nmA) : EOk (lawX (.um .u8 8 7) (.um .u8 6 j) nm) := by
 rw [← es] at hS
 rw [← eaL] at hA
 rw [← etL] at hT
 match j, hj with
 | 0, _ => exact law_of w70 (r70 hS hA) hn
 | 1, _ => exact law_of w71 (r71 hS hA) hn
 | 2, _ => exact law_of w72 (r72 hS hA) hn
 | 3, _ => exact law_of w73 (r73 hS hA hT) hn
 | 4, _ => exact law_of w74 (r74 hS hA) hn
 | 5, _ => exact law_of w75 (r75 hS hA) hn
end
/-- The law, whatever the formula. -/
theorem fwAll (F : Fm) (hF : F.ok) {k j : Nat} (hk : k < 8) (hj : j < 6) {nm : AV} (hn : nm ∈ nmA) : letI := tokOf F;
  EOk (lawX um1 um1 (.sx [])) ∨ EOk (lawX (.um .u8 8 k) um1 (.sx [])) ∨ EOk (lawX (.um .u8 8 k) (.um .u8 6 j) nm) := by
 letI := tokOf F
 haveI := tokOf_ok F
 have h1 := gSm F hF
 cases hs : smallB F with
 | false => rw [hs] at h1; exact .inl (big h1)
 | true =>
  rw [hs] at h1
  match k, hk with
  | 0, _ =>
   have h2 := gAl F hF (l := lgK1) (by simp [lgs])
   cases ho : oneB lgK1.ops lgK1.kind F with
   | false => rw [ho] at h2; exact .inr (.inl (rfK1 h1 h2))
   | true => rw [ho] at h2; exact .inr (.inr (alK1 h1 h2 (gTw F hF (by simp [lgs])) hj hn))
  | 1, _ =>
   have h2 := gAl F hF (l := lgJ) (by simp [lgs])
   cases ho : oneB lgJ.ops lgJ.kind F with
   | false => rw [ho] at h2; exact .inr (.inl (rfJ h1 h2))
   | true => rw [ho] at h2; exact .inr (.inr (alJ h1 h2 (gTw F hF (by simp [lgs])) hj hn))
  | 2, _ =>
   have h2 := gAl F hF (l := lgK2) (by simp [lgs])
   cases ho : oneB lgK2.ops lgK2.kind F with
   | false => rw [ho] at h2; exact .inr (.inl (rfK2 h1 h2))
   | true => rw [ho] at h2; exact .inr (.inr (alK2 h1 h2 (gTw F hF (by simp [lgs])) hj hn))
  | 3, _ =>
   have h2 := gAl F hF (l := lgK) (by simp [lgs])
   cases ho : oneB lgK.ops lgK.kind F with
   | false => rw [ho] at h2; exact .inr (.inl (rfK h1 h2))
   | true => rw [ho] at h2; exact .inr (.inr (alK h1 h2 (gTw F hF (by simp [lgs])) hj hn))
  | 4, _ =>
   have h2 := gAl F hF (l := lgT) (by simp [lgs])
   cases ho : oneB lgT.ops lgT.kind F with
   | false => rw [ho] at h2; exact .inr (.inl (rfT h1 h2))
   | true => rw [ho] at h2; exact .inr (.inr (alT h1 h2 (gTw F hF (by simp [lgs])) hj hn))
  | 5, _ =>
   have h2 := gAl F hF (l := lgS4) (by simp [lgs])
   cases ho : oneB lgS4.ops lgS4.kind F with
   | false => rw [ho] at h2; exact .inr (.inl (rfS4 h1 h2))
   | true => rw [ho] at h2; exact .inr (.inr (alS4 h1 h2 (gTw F hF (by simp [lgs])) hj hn))
  | 6, _ =>
   have h2 := gAl F hF (l := lgS5) (by simp [lgs])
   cases ho : oneB lgS5.ops lgS5.kind F with
   | false => rw [ho] at h2; exact .inr (.inl (rfS5 h1 h2))
   | true => rw [ho] at h2; exact .inr (.inr (alS5 h1 h2 (gTw F hF (by simp [lgs])) hj hn))
  | 7, _ =>
   have h2 := gAl F hF (l := lgL) (by simp [lgs])
   cases ho : oneB lgL.ops lgL.kind F with
   | false => rw [ho] at h2; exact .inr (.inl (rfL h1 h2))
   | true => rw [ho] at h2; exact .inr (.inr (alL h1 h2 (gTw F hF (by simp [lgs])) hj hn))
/-- The law's arguments. -/
theorem tok_R (F : Fm) {w : World} {B : Nat} {us : List Value} (h : RI w B (F.cells true) us) : letI := tokOf F; ∀ u : Value, u.cells.toList = us → us.length = 4 → R w (fun _ => none) (fun _ => False) B tokF u := by
 letI := tokOf F
 haveI := tokOf_ok F
 intro u hu hl
 have h := h
 have h : RL w (fun _ => none) (fun _ => False) B (F.cells true) us := h
 rw [Fm.cells_eq] at h
 obtain ⟨u0, u1, u2, u3, rfl⟩ : ∃ a b c d, us = [a, b, c, d] := by
  match us, hl with
  | [a, b, c, d], _ => exact ⟨a, b, c, d, rfl⟩
 have sl : ∀ {sh : Option Nat} {v : AV} {x : Value}, (v = .nilsl ∨ ∃ l, v = .tl true sh l) → R w (fun _ => none) (fun _ => False) B v x → ∃ a l c, x = .slice a l c := by
  rintro sh v x (rfl | ⟨l, rfl⟩) hx
  · cases hx; exact ⟨_, _, _, rfl⟩
  · cases hx <;> exact ⟨_, _, _, rfl⟩
 have r0 := h.2 0 (by simp) (by simp)
 have r1 := h.2 1 (by simp) (by simp)
 have r2 := h.2 2 (by simp) (by simp)
 have r3 := h.2 3 (by simp) (by simp)
 simp only [List.getElem_cons_zero, List.getElem_cons_succ] at r0 r1 r2 r3
 obtain ⟨a2, l2, c2, e2⟩ := sl (sh := some 3) (v := tmsA true F.oargs) (by cases F.oargs with | none => exact .inl rfl | some l => exact .inr ⟨_, rfl⟩) r2
 obtain ⟨a3, l3, c3, e3⟩ := sl (sh := some 4) (v := fmsA true F.osub) (by cases F.osub with | none => exact .inl rfl | some l => exact .inr ⟨_, rfl⟩) r3
 have k0 : R w (fun _ => none) (fun _ => False) B (.y 0) u0 := by
  cases r0; exact .y (.i _ _)
 have k1 : R w (fun _ => none) (fun _ => False) B (.y 1) u1 := by
  cases r1 with
  | s l hn => exact .y (.s _ hn)
 have key := R.agL (w := w) (m := fun _ => none) (O := fun _ => False) (B := B) (l := [.y 0, .y 1, .yt true 0, .yt true 1]) (vs := [u0, u1, u2, u3]) (RL.cons k0 (RL.cons k1 (RL.cons (.yt e2 r2) (RL.cons (.yt e3 r3) RL.nil)))) (by simp [conf])
 have hu2 : u = .agg [u0, u1, u2, u3].toArray := by
  cases u with
  | agg vs => have hv : vs.toList = [u0, u1, u2, u3] := hu; rw [← hv]
  | _ => cases hu
 rw [hu2]; exact key
end Go.Lyc.T
