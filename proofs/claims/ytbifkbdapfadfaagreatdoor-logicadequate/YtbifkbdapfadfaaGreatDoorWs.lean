/-
  What sound computes: walks. No conditions: laws of these functions' code.
-/
import Derived.Test.YtbifkbdapfadfaaGreatDoorWa
set_option linter.all false
noncomputable section
namespace Go.Lyc
open Go.RowKit Go.Lyc.T

section
variable {b : Base} (hB : BA b)
/-- What is known, with 'sound'. -/
structure BS (b : Base) : Prop where
  f_sound : b.funcs.get n_sound = some c_sound
  p_sound : b.pure n_sound = true
  e_sound : b.ext n_sound = 0

include hB in
set_option maxHeartbeats 0 in
theorem sound_go (p : Plc) (hp : p.ok) (r : SRl) (hr : r.wf) (s : Sets) (hs : s.ok p) (body : ACode) (hb : c_sound.body = some body) :
    GoF (b.envK (KP 21)) 80 body (argF [p.A, r.A, s.A]) ⟨.nil, 0⟩ (fun x f σ' => x = .ret ∧ freeze σ' 0 60 (f 6) = some (.b (soundN p s r))) := by
  cases hb
  have hpn := hp.n
  have h63 := p60 _ hpn
  have hall := all_lt p
  have hl63 := Nat.lt_trans hall h63
  have kall : ∀ σ : St, snapshot σ 60 p.A = some p.A := fun σ => p.snp.le (by omega) σ
  have ksets : ∀ σ : St, snapshot σ 60 s.A = some s.A := fun σ => s.snp.le (by omega) σ
  have khold : ∀ F : SFm, F.wf → F.dep ≤ 20 → KP 21 n_hold [p.A, F.A, s.A] (nI (holdN p s F)) := fun F hF h20 => .hold p hp F hF (by omega) h20 s hs
  refine GoF.seq (GoF.region (GoO.box (v := p.A) 0 rfl rfl rfl rfl rfl rfl fun σ1 hn1 h0 _ => GoO.box (v := r.A) (c := r.cells) 1 hn1 rfl rfl rfl rfl rfl fun σ2 hn2 h1 k1 => GoO.box (v := s.A) 2 hn2 rfl rfl rfl rfl rfl fun σ hn h2 k2 => ?_))
  replace h1 := k2 _ _ h1
  replace h0 := k2 _ _ (k1 _ _ h0)
  clear k1 k2 hn1 hn2
  repeat (first | refine GoO.go rfl rfl rfl rfl ?_ | refine GoO.ld h0 rfl rfl rfl rfl ?_ | refine GoO.ld h2 rfl rfl rfl rfl ?_ | refine GoO.cmp rfl rfl rfl rfl rfl ?_ | refine GoO.off rfl rfl ?_ | refine GoO.nil ?_)
  refine GoF.seq (GoF.region ?_)
  repeat (first | refine GoO.go rfl rfl rfl rfl ?_ | refine GoO.ld h0 rfl rfl rfl rfl ?_ | refine GoO.ld h2 rfl rfl rfl rfl ?_ | refine GoO.cmp rfl rfl rfl rfl rfl ?_ | refine GoO.off rfl rfl ?_ | refine GoO.nil ?_)
  refine GoO.known KP.fn hB.e_all hB.p_all (KP.all p hp) rfl rfl rfl (snaps1 (kall σ)) ?_
  repeat (first | refine GoO.go rfl rfl rfl rfl ?_ | refine GoO.ld h0 rfl rfl rfl rfl ?_ | refine GoO.ld h2 rfl rfl rfl rfl ?_ | refine GoO.cmp rfl rfl rfl rfl rfl ?_ | refine GoO.off rfl rfl ?_ | refine GoO.nil ?_)
  refine GoF.seq (GoF.seq (GoF.region ?_))
  repeat (first | refine GoO.go rfl rfl rfl rfl ?_ | refine GoO.ld h0 rfl rfl rfl rfl ?_ | refine GoO.ld h2 rfl rfl rfl rfl ?_ | refine GoO.cmp rfl rfl rfl rfl rfl ?_ | refine GoO.off rfl rfl ?_ | refine GoO.nil ?_)
  refine GoO.ld h1 rfl rfl rfl (SRl.ldP r) ?_
  refine GoO.len rfl rfl rfl slA_lenM ?_
  repeat (first | refine GoO.go rfl rfl rfl rfl ?_ | refine GoO.ld h0 rfl rfl rfl rfl ?_ | refine GoO.ld h2 rfl rfl rfl rfl ?_ | refine GoO.cmp rfl rfl rfl rfl rfl ?_ | refine GoO.off rfl rfl ?_ | refine GoO.nil ?_)
  refine GoF.block ?_
  refine GoF.loop (fun m f σ' => 3 ≤ σ'.next ∧ σ'.get 0 = some (.cells (p.cells true)) ∧ σ'.get 1 = some (.cells r.cells) ∧ σ'.get 2 = some (.cells [nI s.1, nI s.2.1, nI s.2.2.1, nI s.2.2.2]) ∧ ∃ i w, i + m = r.prems.length ∧ w < 2 ^ p.n ∧ soundL p s r.concl (r.prems.drop i) w = soundN p s r ∧
    sat [(3, .p (some (0, 0))), (4, .p (some (1, 0))), (5, .p (some (2, 0))), (6, .b false), (7, nI w), (17, slA true (some 7) (r.prems.map SPr.A)), (18, nI r.prems.length), (19, nI i)] f) ?_ r.prems.length
    ⟨by omega, h0, h1, h2, 0, p.all, by omega, hall, by rw [List.drop_zero]; rfl, rfl, rfl, rfl, rfl, rfl, rfl, rfl, rfl, trivial⟩
  clear h0 h1 h2 hn
  intro m g σ ⟨hn, h0, h1, h2, i, w, hi, hw, hrest, hL⟩
  refine GoF.norm _ hL fun g => ?_
  clear hL
  repeat (first | refine GoO.go rfl rfl rfl rfl ?_ | refine GoO.ld h0 rfl rfl rfl rfl ?_ | refine GoO.ld h2 rfl rfl rfl rfl ?_ | refine GoO.cmp rfl rfl rfl rfl rfl ?_ | refine GoO.off rfl rfl ?_ | refine GoO.nil ?_ | refine GoF.seq ?_ | refine GoF.region ?_ | refine GoF.skip ?_ | refine GoF.block ?_)
  refine GoF.cnd rfl (fun ht => ?_) (fun hf => ?_)
  · have hlt : i < r.prems.length := of_decide_eq_true ht
    rw [List.drop_eq_getElem_cons hlt] at hrest
    generalize hq : r.prems[i] = q at hrest
    have hrf := hr.few
    have hqw : q.wf := hr.prems q (by rw [← hq]; exact List.getElem_mem hlt)
    refine GoF.skip (GoF.seq (GoF.block (GoF.seq (GoF.region ?_))))
    refine GoO.idx (v := .tp true q.A) rfl rfl rfl rfl (by rw [← hq]; exact slA_idxM hlt) ?_
    refine GoO.ldt rfl rfl rfl (SPr.conf q) ?_
    generalize hk : σ.next = k at hn
    refine GoO.var (v := q.A) (c := q.cells) k hk rfl rfl rfl (SPr.conf q) rfl q.len fun τ hn1 h3 k1 => ?_
    replace h0 := k1 _ _ h0
    replace h1 := k1 _ _ h1
    replace h2 := k1 _ _ h2
    clear hk k1 σ
    refine GoO.nil (GoF.seq (GoF.region ?_))
    repeat (first | refine GoO.go rfl rfl rfl rfl ?_ | refine GoO.ld h0 rfl rfl rfl rfl ?_ | refine GoO.ld h2 rfl rfl rfl rfl ?_ | refine GoO.cmp rfl rfl rfl rfl rfl ?_ | refine GoO.off rfl rfl ?_ | refine GoO.nil ?_)
    refine GoO.known KP.fn hB.e_all hB.p_all (KP.all p hp) rfl rfl rfl (snaps1 (kall τ)) ?_
    repeat (first | refine GoO.go rfl rfl rfl rfl ?_ | refine GoO.ld h0 rfl rfl rfl rfl ?_ | refine GoO.ld h2 rfl rfl rfl rfl ?_ | refine GoO.cmp rfl rfl rfl rfl rfl ?_ | refine GoO.off rfl rfl ?_ | refine GoO.nil ?_)
    refine GoF.cut' [(3, .p (some (0, 0))), (4, .p (some (1, 0))), (5, .p (some (2, 0))), (6, .b false), (7, nI w), (9, .p (some (k, 0))), (10, nI (hypsN p s q.hyps p.all)), (17, slA true (some 7) (r.prems.map SPr.A)), (18, nI r.prems.length), (19, nI i)]
      (fun σ' => k < σ'.next ∧ σ'.get 0 = some (.cells (p.cells true)) ∧ σ'.get 1 = some (.cells r.cells) ∧ σ'.get 2 = some (.cells [nI s.1, nI s.2.1, nI s.2.2.1, nI s.2.2.2]) ∧ σ'.get k = some (.cells q.cells)) ?_ ?_
    · refine GoF.seq (GoF.region ?_)
      repeat (first | refine GoO.go rfl rfl rfl rfl ?_ | refine GoO.ld h0 rfl rfl rfl rfl ?_ | refine GoO.ld h2 rfl rfl rfl rfl ?_ | refine GoO.cmp rfl rfl rfl rfl rfl ?_ | refine GoO.off rfl rfl ?_ | refine GoO.nil ?_)
      refine GoO.ld h3 rfl rfl rfl (SPr.ldH q) ?_
      refine GoO.len rfl rfl rfl slA_lenM ?_
      repeat (first | refine GoO.go rfl rfl rfl rfl ?_ | refine GoO.ld h0 rfl rfl rfl rfl ?_ | refine GoO.ld h2 rfl rfl rfl rfl ?_ | refine GoO.cmp rfl rfl rfl rfl rfl ?_ | refine GoO.off rfl rfl ?_ | refine GoO.nil ?_)
      refine GoF.block ?_
      refine GoF.loop (fun m f σ' => k < σ'.next ∧ σ'.get 0 = some (.cells (p.cells true)) ∧ σ'.get 1 = some (.cells r.cells) ∧ σ'.get 2 = some (.cells [nI s.1, nI s.2.1, nI s.2.2.1, nI s.2.2.2]) ∧ σ'.get k = some (.cells q.cells) ∧ ∃ j h, j + m = q.hyps.length ∧ h < 2 ^ p.n ∧ hypsN p s (q.hyps.drop j) h = hypsN p s q.hyps p.all ∧
        sat [(3, .p (some (0, 0))), (4, .p (some (1, 0))), (5, .p (some (2, 0))), (6, .b false), (7, nI w), (9, .p (some (k, 0))), (10, nI h), (17, slA true (some 7) (r.prems.map SPr.A)), (18, nI r.prems.length), (19, nI i), (26, slA true (some 4) (q.hyps.map SFm.A)), (27, nI q.hyps.length), (28, nI j)] f) ?_ q.hyps.length
        ⟨by omega, h0, h1, h2, h3, 0, p.all, by omega, hall, by rw [List.drop_zero], rfl, rfl, rfl, rfl, rfl, rfl, rfl, rfl, rfl, rfl, rfl, rfl, rfl, trivial⟩
      clear h0 h1 h2 h3
      intro m' g σ ⟨hk, h0, h1, h2, h3, j, h, hj, hh, hrest', hL⟩
      refine GoF.norm _ hL fun g => ?_
      clear hL
      repeat (first | refine GoO.go rfl rfl rfl rfl ?_ | refine GoO.ld h0 rfl rfl rfl rfl ?_ | refine GoO.ld h2 rfl rfl rfl rfl ?_ | refine GoO.cmp rfl rfl rfl rfl rfl ?_ | refine GoO.off rfl rfl ?_ | refine GoO.nil ?_ | refine GoF.seq ?_ | refine GoF.region ?_ | refine GoF.skip ?_ | refine GoF.block ?_)
      refine GoF.cnd rfl (fun ht => ?_) (fun hf => ?_)
      · have hlj : j < q.hyps.length := of_decide_eq_true ht
        rw [List.drop_eq_getElem_cons hlj] at hrest'
        generalize hF : q.hyps[j] = F at hrest'
        have hFw : F.wf ∧ F.dep ≤ 20 := hqw.hyps F (by rw [← hF]; exact List.getElem_mem hlj)
        refine GoF.skip (GoF.seq (GoF.block (GoF.seq (GoF.region ?_))))
        refine GoO.idx (v := .tp true F.A) rfl rfl rfl rfl (by rw [← hF]; exact slA_idxM hlj) ?_
        refine GoO.ldt rfl rfl rfl (SFm.conf F) ?_
        refine GoO.var (v := F.A) (c := F.cells) σ.next rfl rfl rfl rfl (SFm.conf F) rfl F.len fun τ' hn2 h4 k2 => ?_
        replace h0 := k2 _ _ h0
        replace h1 := k2 _ _ h1
        replace h2 := k2 _ _ h2
        replace h3 := k2 _ _ h3
        refine GoO.nil (GoF.region ?_)
        repeat (first | refine GoO.go rfl rfl rfl rfl ?_ | refine GoO.ld h0 rfl rfl rfl rfl ?_ | refine GoO.ld h2 rfl rfl rfl rfl ?_ | refine GoO.cmp rfl rfl rfl rfl rfl ?_ | refine GoO.off rfl rfl ?_ | refine GoO.nil ?_)
        refine GoO.ld h4 rfl rfl rfl (SFm.ld0 F) ?_
        repeat (first | refine GoO.go rfl rfl rfl rfl ?_ | refine GoO.ld h0 rfl rfl rfl rfl ?_ | refine GoO.ld h2 rfl rfl rfl rfl ?_ | refine GoO.cmp rfl rfl rfl rfl rfl ?_ | refine GoO.off rfl rfl ?_ | refine GoO.nil ?_)
        refine GoO.known KP.fn hB.e_hold hB.p_hold (khold F hFw.1 hFw.2) rfl rfl rfl (snaps3 (kall _) (SFm.snpA F hFw.2 hFw.1 _) (ksets _)) ?_
        refine GoO.bin rfl rfl rfl rfl (bin_and (Nat.lt_trans hh h63) (Nat.lt_trans (holdN_lt p s hs _ F (Nat.le_refl _)) h63)) ?_
        repeat (first | refine GoO.go rfl rfl rfl rfl ?_ | refine GoO.ld h0 rfl rfl rfl rfl ?_ | refine GoO.ld h2 rfl rfl rfl rfl ?_ | refine GoO.cmp rfl rfl rfl rfl rfl ?_ | refine GoO.off rfl rfl ?_ | refine GoO.nil ?_)
        refine GoF.region ?_
        refine GoO.bin (a := nI j) (b := nI 1) rfl rfl rfl rfl (bin_add (by have := hqw.few; omega)) ?_
        repeat (first | refine GoO.go rfl rfl rfl rfl ?_ | refine GoO.ld h0 rfl rfl rfl rfl ?_ | refine GoO.ld h2 rfl rfl rfl rfl ?_ | refine GoO.cmp rfl rfl rfl rfl rfl ?_ | refine GoO.off rfl rfl ?_ | refine GoO.nil ?_)
        exact ⟨m' - 1, by omega, by omega, h0, h1, h2, h3, j + 1, _, by omega, and_lt hh, hrest', rfl, rfl, rfl, rfl, rfl, rfl, rfl, rfl, rfl, rfl, rfl, rfl, rfl, trivial⟩
      · have hge : ¬ j < q.hyps.length := of_decide_eq_false hf
        obtain rfl : j = q.hyps.length := by omega
        rw [List.drop_length] at hrest'
        refine GoF.exit ⟨rfl, ⟨hk, h0, h1, h2, h3⟩, rfl, rfl, rfl, rfl, rfl, rfl, ?_, rfl, rfl, rfl, trivial⟩
        rw [← hrest']; rfl
    clear h0 h1 h2 h3
    intro g σ ⟨hk, h0, h1, h2, h3⟩
    have hset := setN_lt hs q
    have hhyp : hypsN p s q.hyps p.all < 2 ^ p.n := hypsN_lt hall
    have hcon := holdN_lt p s hs _ q.concl (Nat.le_refl _)
    refine GoF.seq (GoF.draw rfl rfl ?_)
    repeat (first | refine GoP.go rfl rfl rfl rfl ?_ | refine GoP.ld h0 rfl rfl rfl rfl ?_ | refine GoP.ld h2 rfl rfl rfl rfl ?_ | refine GoP.cmp rfl rfl rfl rfl rfl ?_ | refine GoP.off rfl rfl ?_ | refine GoP.nil ?_)
    refine GoP.ldw h0 rfl rfl rfl rfl (Snp.eqb 60 _ (p.snp.le (by omega))) ?_
    repeat (first | refine GoP.go rfl rfl rfl rfl ?_ | refine GoP.ld h0 rfl rfl rfl rfl ?_ | refine GoP.ld h2 rfl rfl rfl rfl ?_ | refine GoP.cmp rfl rfl rfl rfl rfl ?_ | refine GoP.off rfl rfl ?_ | refine GoP.nil ?_)
    refine GoP.ldw h3 rfl rfl rfl (SPr.ldC q) (Snp.eqb 60 _ (SFm.snpA _ hqw.concl.2 hqw.concl.1)) ?_
    refine GoP.ldw h2 rfl rfl rfl rfl (Snp.eqb 60 _ (s.snp.le (by omega))) ?_
    refine GoP.known KP.fn hB.e_all hB.p_all (KP.all p hp) rfl rfl rfl (snaps1 (kall σ)) ?_
    refine GoP.bin rfl rfl rfl rfl (bin_andNot hl63 (Nat.lt_trans hhyp h63)) ?_
    refine GoP.known KP.fn hB.e_hold hB.p_hold (khold q.concl hqw.concl.1 hqw.concl.2) rfl rfl rfl (snaps3 (kall _) (SFm.snpA _ hqw.concl.2 hqw.concl.1 _) (ksets _)) ?_
    refine GoP.bin rfl rfl rfl rfl (bin_or (Nat.lt_trans (andN_le _ _ hall) h63) (Nat.lt_trans hcon h63)) ?_
    repeat (first | refine GoP.go rfl rfl rfl rfl ?_ | refine GoP.ld h0 rfl rfl rfl rfl ?_ | refine GoP.ld h2 rfl rfl rfl rfl ?_ | refine GoP.cmp rfl rfl rfl rfl rfl ?_ | refine GoP.off rfl rfl ?_ | refine GoP.nil ?_)
    refine GoF.norm [(3, .p (some (0, 0))), (4, .p (some (1, 0))), (5, .p (some (2, 0))), (6, .b false), (7, nI w), (9, .p (some (k, 0))), (13, nI (setN p s q)), (17, slA true (some 7) (r.prems.map SPr.A)), (18, nI r.prems.length), (19, nI i)] ⟨rfl, rfl, rfl, rfl, rfl, rfl, rfl, rfl, rfl, rfl, trivial⟩ fun g => ?_
    have hset63 := Nat.lt_trans hset h63
    have hwstep : stepW p s w q < 2 ^ p.n := stepW_lt hw
    have hend : ∀ (w' : Nat) (g : Nat → AV) (σ' : St), k < σ'.next → σ'.get 0 = some (.cells (p.cells true)) → σ'.get 1 = some (.cells r.cells) → σ'.get 2 = some (.cells [nI s.1, nI s.2.1, nI s.2.2.1, nI s.2.2.2]) → w' = stepW p s w q → ¬ (q.closed = true ∧ setN p s q ≠ p.all) →
        sat [(3, .p (some (0, 0))), (4, .p (some (1, 0))), (5, .p (some (2, 0))), (6, .b false), (7, nI w'), (17, slA true (some 7) (r.prems.map SPr.A)), (18, nI r.prems.length), (19, nI (i + 1))] g →
        ∃ m', m' < m ∧ 3 ≤ σ'.next ∧ σ'.get 0 = some (.cells (p.cells true)) ∧ σ'.get 1 = some (.cells r.cells) ∧ σ'.get 2 = some (.cells [nI s.1, nI s.2.1, nI s.2.2.1, nI s.2.2.2]) ∧ ∃ i w, i + m' = r.prems.length ∧ w < 2 ^ p.n ∧ soundL p s r.concl (r.prems.drop i) w = soundN p s r ∧
          sat [(3, .p (some (0, 0))), (4, .p (some (1, 0))), (5, .p (some (2, 0))), (6, .b false), (7, nI w), (17, slA true (some 7) (r.prems.map SPr.A)), (18, nI r.prems.length), (19, nI i)] g :=
      fun w' g σ' a1 a2 a3 a4 hw' hn hL => ⟨m - 1, by omega, by omega, a2, a3, a4, i + 1, w', by omega, by rw [hw']; exact hwstep, by rw [hw', ← hrest]; rw [soundL, if_neg hn], hL⟩
    refine GoF.seq (GoF.block ?_)
    refine GoF.cut [(3, .p (some (0, 0))), (4, .p (some (1, 0))), (5, .p (some (2, 0))), (6, .b false), (7, nI w), (9, .p (some (k, 0))), (13, nI (setN p s q)), (17, slA true (some 7) (r.prems.map SPr.A)), (18, nI r.prems.length), (19, nI i), (49, .b (q.closed && !decide (setN p s q = p.all)))] ?_ fun g => ?_
    · refine GoF.region ?_
      repeat (first | refine GoO.go rfl rfl rfl rfl ?_ | refine GoO.ld h0 rfl rfl rfl rfl ?_ | refine GoO.ld h2 rfl rfl rfl rfl ?_ | refine GoO.cmp rfl rfl rfl rfl rfl ?_ | refine GoO.off rfl rfl ?_ | refine GoO.nil ?_)
      refine GoO.ld h3 rfl rfl rfl (SPr.ldX q) ?_
      cases hcl : q.closed with
      | false =>
        repeat (first | refine GoO.go rfl rfl rfl rfl ?_ | refine GoO.ld h0 rfl rfl rfl rfl ?_ | refine GoO.ld h2 rfl rfl rfl rfl ?_ | refine GoO.cmp rfl rfl rfl rfl rfl ?_ | refine GoO.off rfl rfl ?_ | refine GoO.nil ?_)
        exact ⟨rfl, rfl, rfl, rfl, rfl, rfl, rfl, rfl, rfl, rfl, rfl, rfl, rfl, trivial⟩
      | true =>
        repeat (first | refine GoO.go rfl rfl rfl rfl ?_ | refine GoO.ld h0 rfl rfl rfl rfl ?_ | refine GoO.ld h2 rfl rfl rfl rfl ?_ | refine GoO.cmp rfl rfl rfl rfl rfl ?_ | refine GoO.off rfl rfl ?_ | refine GoO.nil ?_)
        refine GoO.known KP.fn hB.e_all hB.p_all (KP.all p hp) rfl rfl rfl (snaps1 (kall σ)) ?_
        repeat (first | refine GoO.go rfl rfl rfl rfl ?_ | refine GoO.ld h0 rfl rfl rfl rfl ?_ | refine GoO.ld h2 rfl rfl rfl rfl ?_ | refine GoO.cmp rfl rfl rfl rfl rfl ?_ | refine GoO.off rfl rfl ?_ | refine GoO.nil ?_)
        exact ⟨rfl, rfl, rfl, rfl, rfl, rfl, rfl, rfl, rfl, rfl, rfl, rfl, rfl, trivial⟩
    refine GoF.cnd rfl (fun h => ?_) (fun h => ?_)
    · have hst : q.closed = true ∧ setN p s q ≠ p.all := by simpa using h
      repeat (first | refine GoO.go rfl rfl rfl rfl ?_ | refine GoO.ld h0 rfl rfl rfl rfl ?_ | refine GoO.ld h2 rfl rfl rfl rfl ?_ | refine GoO.cmp rfl rfl rfl rfl rfl ?_ | refine GoO.off rfl rfl ?_ | refine GoO.nil ?_ | refine GoF.seq ?_ | refine GoF.region ?_ | refine GoF.skip ?_ | refine GoF.block ?_)
      refine GoF.ret ⟨rfl, ?_⟩
      show some (AV.b true) = _
      rw [← hrest, soundL, if_pos hst]
    · have hst : ¬ (q.closed = true ∧ setN p s q ≠ p.all) := by intro hc; simp [hc.1, hc.2] at h
      refine GoF.seq (GoF.region ?_)
      repeat (first | refine GoO.go rfl rfl rfl rfl ?_ | refine GoO.ld h0 rfl rfl rfl rfl ?_ | refine GoO.ld h2 rfl rfl rfl rfl ?_ | refine GoO.cmp rfl rfl rfl rfl rfl ?_ | refine GoO.off rfl rfl ?_ | refine GoO.nil ?_)
      refine GoO.ld h3 rfl rfl rfl (SPr.ldX q) ?_
      repeat (first | refine GoO.go rfl rfl rfl rfl ?_ | refine GoO.ld h0 rfl rfl rfl rfl ?_ | refine GoO.ld h2 rfl rfl rfl rfl ?_ | refine GoO.cmp rfl rfl rfl rfl rfl ?_ | refine GoO.off rfl rfl ?_ | refine GoO.nil ?_)
      refine GoF.cnd rfl (fun hcl => ?_) (fun hcl => ?_)
      · refine GoF.exit ?_
        refine GoF.region ?_
        refine GoO.bin (a := nI i) (b := nI 1) rfl rfl rfl rfl (bin_add (by omega)) ?_
        repeat (first | refine GoO.go rfl rfl rfl rfl ?_ | refine GoO.ld h0 rfl rfl rfl rfl ?_ | refine GoO.ld h2 rfl rfl rfl rfl ?_ | refine GoO.cmp rfl rfl rfl rfl rfl ?_ | refine GoO.off rfl rfl ?_ | refine GoO.nil ?_)
        exact hend w _ σ hk h0 h1 h2 (by rw [stepW, if_pos hcl]) hst ⟨rfl, rfl, rfl, rfl, rfl, rfl, rfl, rfl, trivial⟩
      · have hws : stepW p s w q = w &&& onN p (setN p s q) := by rw [stepW, hcl]; rfl
        refine GoF.seq (GoF.region ?_)
        repeat (first | refine GoO.go rfl rfl rfl rfl ?_ | refine GoO.ld h0 rfl rfl rfl rfl ?_ | refine GoO.ld h2 rfl rfl rfl rfl ?_ | refine GoO.cmp rfl rfl rfl rfl rfl ?_ | refine GoO.off rfl rfl ?_ | refine GoO.nil ?_)
        refine GoF.cnd rfl (fun hkd => ?_) (fun hkd => ?_)
        · have hkd : p.kind = 3 := of_decide_eq_true hkd
          refine GoF.region ?_
          repeat (first | refine GoO.go rfl rfl rfl rfl ?_ | refine GoO.ld h0 rfl rfl rfl rfl ?_ | refine GoO.ld h2 rfl rfl rfl rfl ?_ | refine GoO.cmp rfl rfl rfl rfl rfl ?_ | refine GoO.off rfl rfl ?_ | refine GoO.nil ?_)
          refine GoO.known KP.fn hB.e_later hB.p_later (KP.later p hp _ hset) rfl rfl rfl (snaps2 (kall _) rfl) ?_
          repeat (first | refine GoO.go rfl rfl rfl rfl ?_ | refine GoO.ld h0 rfl rfl rfl rfl ?_ | refine GoO.ld h2 rfl rfl rfl rfl ?_ | refine GoO.cmp rfl rfl rfl rfl rfl ?_ | refine GoO.off rfl rfl ?_ | refine GoO.nil ?_)
          refine GoF.region ?_
          repeat (first | refine GoO.go rfl rfl rfl rfl ?_ | refine GoO.ld h0 rfl rfl rfl rfl ?_ | refine GoO.ld h2 rfl rfl rfl rfl ?_ | refine GoO.cmp rfl rfl rfl rfl rfl ?_ | refine GoO.off rfl rfl ?_ | refine GoO.nil ?_)
          refine GoO.bin rfl rfl rfl rfl (bin_and (Nat.lt_trans hw h63) (Nat.lt_trans (laterN_lt p _) h63)) ?_
          repeat (first | refine GoO.go rfl rfl rfl rfl ?_ | refine GoO.ld h0 rfl rfl rfl rfl ?_ | refine GoO.ld h2 rfl rfl rfl rfl ?_ | refine GoO.cmp rfl rfl rfl rfl rfl ?_ | refine GoO.off rfl rfl ?_ | refine GoO.nil ?_)
          refine GoF.region ?_
          refine GoO.bin (a := nI i) (b := nI 1) rfl rfl rfl rfl (bin_add (by omega)) ?_
          repeat (first | refine GoO.go rfl rfl rfl rfl ?_ | refine GoO.ld h0 rfl rfl rfl rfl ?_ | refine GoO.ld h2 rfl rfl rfl rfl ?_ | refine GoO.cmp rfl rfl rfl rfl rfl ?_ | refine GoO.off rfl rfl ?_ | refine GoO.nil ?_)
          exact hend _ _ σ hk h0 h1 h2 (by rw [hws, onN, if_pos hkd]) hst ⟨rfl, rfl, rfl, rfl, rfl, rfl, rfl, rfl, trivial⟩
        · have hkd : ¬ p.kind = 3 := of_decide_eq_false hkd
          refine GoF.skip ?_
          refine GoF.region ?_
          repeat (first | refine GoO.go rfl rfl rfl rfl ?_ | refine GoO.ld h0 rfl rfl rfl rfl ?_ | refine GoO.ld h2 rfl rfl rfl rfl ?_ | refine GoO.cmp rfl rfl rfl rfl rfl ?_ | refine GoO.off rfl rfl ?_ | refine GoO.nil ?_)
          refine GoO.bin rfl rfl rfl rfl (bin_and (Nat.lt_trans hw h63) hset63) ?_
          repeat (first | refine GoO.go rfl rfl rfl rfl ?_ | refine GoO.ld h0 rfl rfl rfl rfl ?_ | refine GoO.ld h2 rfl rfl rfl rfl ?_ | refine GoO.cmp rfl rfl rfl rfl rfl ?_ | refine GoO.off rfl rfl ?_ | refine GoO.nil ?_)
          refine GoF.region ?_
          refine GoO.bin (a := nI i) (b := nI 1) rfl rfl rfl rfl (bin_add (by omega)) ?_
          repeat (first | refine GoO.go rfl rfl rfl rfl ?_ | refine GoO.ld h0 rfl rfl rfl rfl ?_ | refine GoO.ld h2 rfl rfl rfl rfl ?_ | refine GoO.cmp rfl rfl rfl rfl rfl ?_ | refine GoO.off rfl rfl ?_ | refine GoO.nil ?_)
          exact hend _ _ σ hk h0 h1 h2 (by rw [hws, onN, if_neg hkd]) hst ⟨rfl, rfl, rfl, rfl, rfl, rfl, rfl, rfl, trivial⟩
  · have hge : ¬ i < r.prems.length := of_decide_eq_false hf
    obtain rfl : i = r.prems.length := by omega
    rw [List.drop_length] at hrest
    refine GoF.exit ?_
    refine GoF.seq (GoF.region ?_)
    repeat (first | refine GoO.go rfl rfl rfl rfl ?_ | refine GoO.ld h0 rfl rfl rfl rfl ?_ | refine GoO.ld h2 rfl rfl rfl rfl ?_ | refine GoO.cmp rfl rfl rfl rfl rfl ?_ | refine GoO.off rfl rfl ?_ | refine GoO.nil ?_)
    refine GoO.ld h1 rfl rfl rfl (SRl.ldC r) ?_
    repeat (first | refine GoO.go rfl rfl rfl rfl ?_ | refine GoO.ld h0 rfl rfl rfl rfl ?_ | refine GoO.ld h2 rfl rfl rfl rfl ?_ | refine GoO.cmp rfl rfl rfl rfl rfl ?_ | refine GoO.off rfl rfl ?_ | refine GoO.nil ?_)
    refine GoO.known KP.fn hB.e_hold hB.p_hold (khold r.concl hr.concl.1 hr.concl.2) rfl rfl rfl (snaps3 (kall _) (SFm.snpA _ hr.concl.2 hr.concl.1 _) (ksets _)) ?_
    refine GoO.bin rfl rfl rfl rfl (bin_andNot (Nat.lt_trans hw h63) (Nat.lt_trans (holdN_lt p s hs _ r.concl (Nat.le_refl _)) h63)) ?_
    refine GoO.bin (b := nI 0) rfl rfl rfl rfl bin_eqk ?_
    repeat (first | refine GoO.go rfl rfl rfl rfl ?_ | refine GoO.ld h0 rfl rfl rfl rfl ?_ | refine GoO.ld h2 rfl rfl rfl rfl ?_ | refine GoO.cmp rfl rfl rfl rfl rfl ?_ | refine GoO.off rfl rfl ?_ | refine GoO.nil ?_)
    refine GoF.ret ⟨rfl, ?_⟩
    rw [← hrest]; rfl
end
end Go.Lyc
