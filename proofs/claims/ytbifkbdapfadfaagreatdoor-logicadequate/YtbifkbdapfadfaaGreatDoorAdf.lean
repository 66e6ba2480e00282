/-
  From the walks to what is known of 'adequate'. No conditions: small laws.
-/
import Derived.Test.YtbifkbdapfadfaaGreatDoorWd
import Derived.Test.YtbifkbdapfadfaaGreatDoorWq
import Derived.KernelRfl
set_option linter.all false
noncomputable section
namespace Go.Lyc.T
open Go.Lyc Go.RowKit Go.Proofs
set_option maxRecDepth 100000
set_option maxHeartbeats 0

theorem ba : BA base := ⟨by kernel_rfl, by kernel_rfl, by kernel_rfl, by kernel_rfl, by kernel_rfl, by kernel_rfl, by kernel_rfl, by kernel_rfl, by kernel_rfl, by kernel_rfl, by kernel_rfl, by kernel_rfl⟩
theorem bq : BQ base := ⟨by kernel_rfl, by kernel_rfl, by kernel_rfl, by kernel_rfl, by kernel_rfl, by kernel_rfl, by kernel_rfl, by kernel_rfl, by kernel_rfl, by kernel_rfl⟩
theorem bp : BP base := ⟨by kernel_rfl, by kernel_rfl, by kernel_rfl, by kernel_rfl⟩
theorem f_sound : base.funcs.get n_sound = some c_sound := by kernel_rfl
theorem f_adequate : base.funcs.get n_adequate = some c_adequate := by kernel_rfl
def KN : Nat → List AV → AV → Prop := fun _ _ _ => False
theorem kn_ok : KOk Tryz.prog base KN := fun _ _ _ h => h.elim
theorem kp_ok : ∀ d, KOk Tryz.prog base (KP d)
  | 0, g, ar, r, h, B0 => by
    cases h with
    | all p hp => exact entryK base_ok kn_ok _ ba.f_all rfl rfl rfl rfl rfl (Snp.eqb 60 _ (Snp.i 59 _ _)) (all_go p hp _ rfl) B0
    | later p hp set h => exact entryK base_ok kn_ok _ ba.f_later rfl rfl rfl rfl rfl (Snp.eqb 60 _ (Snp.i 59 _ _)) (later_go p hp set h _ rfl) B0
    | hold p hp f hf hd h20 s hs => omega
  | d + 1, g, ar, r, h, B0 => by
    cases h with
    | all p hp => exact entryK base_ok kn_ok _ ba.f_all rfl rfl rfl rfl rfl (Snp.eqb 60 _ (Snp.i 59 _ _)) (all_go p hp _ rfl) B0
    | later p hp set h => exact entryK base_ok kn_ok _ ba.f_later rfl rfl rfl rfl rfl (Snp.eqb 60 _ (Snp.i 59 _ _)) (later_go p hp set h _ rfl) B0
    | hold p hp f hf hd h20 s hs => exact entryK base_ok (kp_ok d) _ ba.f_hold rfl rfl rfl rfl rfl (Snp.eqb 60 _ (Snp.i 59 _ _)) (hold_go ba p hp f hf (by omega) h20 s hs _ rfl) B0
theorem sound_ok (p : Plc) (hp : p.ok) (r : SRl) (hr : r.wf) (s : Sets) (hs : s.ok p) (B0 : Nat) : SpecEntry Tryz.prog (base.env []) B0 n_sound [p.A, r.A, s.A] (.b (soundN p s r)) :=
  entryK base_ok (kp_ok 21) _ f_sound rfl rfl rfl rfl rfl (Snp.eqb 60 _ (Snp.b 59 _)) (sound_go ba p hp r hr s hs _ rfl) B0
theorem places_ok (l : SLg) (n : Nat) (hn : n ≤ 3) (hkd : l.kind = 3 ∨ l.kind = 4) (hfr : l.frame < 8) : EOk (n_places, [l.A, nI n], slA false (some 3) ((placesN l.kind l.frame n).map fun p => .ag (p.cells false))) := fun B0 =>
  entryK base_ok kn_ok _ bp.f_places rfl rfl rfl rfl (ps_fresh _) (ps_eqb _) (places_go bp l n hn hkd hfr _ rfl) B0
theorem adq (l : SLg) (hl : Snp 59 l.rules) (r : SRl) (hr : r.wf) (n k : Nat) (hm : EOk (n_metas, [r.A], nI k)) (hk4 : k ≤ 4) (ps : List Plc) (hp : EOk (n_places, [l.A, nI n], slA false (some 3) (ps.map fun p => .ag (p.cells false)))) (hok : ∀ p ∈ ps, p.ok) (hlen : ps.length ≤ 1000)
    (hs : ∀ p ∈ ps, ∀ code, code < 2 ^ (k * p.n) → okK l.kind p code k = true → soundN p (setsK p code k) r = true) : EOk (n_adequate, [l.A, r.A, nI n], .b true) := fun B0 => by
  have hK : KOk Tryz.prog base (KQ (fun r' k' => r' = r ∧ k' = k) (fun l' n' ps' => l' = l ∧ n' = n ∧ ps' = ps)) := fun g ar v h B0 => by
    cases h with
    | all p hp => exact kp_ok 0 _ _ _ (.all p hp) B0
    | later p hp set h => exact kp_ok 0 _ _ _ (.later p hp set h) B0
    | sound p hp r hr s hs => exact sound_ok p hp r hr s hs B0
    | metas r' k' h => obtain ⟨rfl, rfl⟩ := h; exact hm B0
    | places l' n' ps' h => obtain ⟨rfl, rfl, rfl⟩ := h; exact hp B0
  exact entryK base_ok hK _ f_adequate rfl rfl rfl rfl rfl (Snp.eqb 60 _ (Snp.b 59 _)) (adequate_go bq (fun r' k k' h h' => h.2.trans h'.2.symm) (fun l n a b h h' => h.2.2.trans h'.2.2.symm) l hl r hr n k ⟨rfl, rfl⟩ hk4 ps ⟨rfl, rfl, rfl⟩ hok hlen hs _ rfl) B0
theorem nth_mem {α : Type} : ∀ {l : List α} {i : Nat} {x : α}, nth l i = some x → x ∈ l
  | [], _, _, h => by cases h
  | y :: l, 0, x, h => by cases h; simp
  | y :: l, i + 1, x, h => List.mem_cons_of_mem _ (nth_mem (l := l) (i := i) h)
theorem isP : ∀ i, i < 15 → ∃ x, ruleN i = rl x ∧ x ∈ propR ++ raaR := fun i hi => by
  have : i = 0 ∨ i = 1 ∨ i = 2 ∨ i = 3 ∨ i = 4 ∨ i = 5 ∨ i = 6 ∨ i = 7 ∨ i = 8 ∨ i = 9 ∨ i = 10 ∨ i = 11 ∨ i = 12 ∨ i = 13 ∨ i = 14 := by omega
  rcases this with rfl | rfl | rfl | rfl | rfl | rfl | rfl | rfl | rfl | rfl | rfl | rfl | rfl | rfl | rfl
  · exact ⟨_, rfl, nth_mem (i := 0) rfl⟩
  · exact ⟨_, rfl, nth_mem (i := 1) rfl⟩
  · exact ⟨_, rfl, nth_mem (i := 2) rfl⟩
  · exact ⟨_, rfl, nth_mem (i := 3) rfl⟩
  · exact ⟨_, rfl, nth_mem (i := 4) rfl⟩
  · exact ⟨_, rfl, nth_mem (i := 5) rfl⟩
  · exact ⟨_, rfl, nth_mem (i := 6) rfl⟩
  · exact ⟨_, rfl, nth_mem (i := 7) rfl⟩
  · exact ⟨_, rfl, nth_mem (i := 8) rfl⟩
  · exact ⟨_, rfl, nth_mem (i := 9) rfl⟩
  · exact ⟨_, rfl, nth_mem (i := 10) rfl⟩
  · exact ⟨_, rfl, nth_mem (i := 11) rfl⟩
  · exact ⟨_, rfl, nth_mem (i := 12) rfl⟩
  · exact ⟨_, rfl, nth_mem (i := 13) rfl⟩
  · exact ⟨_, rfl, nth_mem (i := 14) rfl⟩
theorem isM : ∀ i, 15 ≤ i → i < 21 → ∃ x, ruleN i = rl x ∧ x ∈ modalR := fun i h hi => by
  have : i = 15 ∨ i = 16 ∨ i = 17 ∨ i = 18 ∨ i = 19 ∨ i = 20 := by omega
  rcases this with rfl | rfl | rfl | rfl | rfl | rfl
  · exact ⟨_, rfl, nth_mem (i := 0) rfl⟩
  · exact ⟨_, rfl, nth_mem (i := 1) rfl⟩
  · exact ⟨_, rfl, nth_mem (i := 2) rfl⟩
  · exact ⟨_, rfl, nth_mem (i := 3) rfl⟩
  · exact ⟨_, rfl, nth_mem (i := 4) rfl⟩
  · exact ⟨_, rfl, nth_mem (i := 5) rfl⟩
/-- Of a modal logic: that its kind, its frame and these numbers are so. -/
def mB (l : SLg) (i n k : Nat) : Bool := decide (l.kind = 4 ∧ l.frame < 8 ∧ n ≤ 3 ∧ k ≤ 4 ∧ (i < 21 ∨ (i = 21 ∧ l.frame &&& 1 ≠ 0) ∨ (i = 22 ∧ l.frame &&& 2 ≠ 0) ∨ (i = 23 ∧ l.frame &&& 2 ≠ 0 ∧ l.frame &&& 4 ≠ 0)))
theorem am (l : SLg) (hl : snpB 59 l.rules = true) (i n k : Nat) (hm : EOk (n_metas, [(ruleN i).A], nI k)) (h : mB l i n k = true) : EOk (n_adequate, [l.A, (ruleN i).A, nI n], .b true) := by
  obtain ⟨hk, hf8, hn, hk4, hi⟩ := of_decide_eq_true h
  have hp := places_ok l n hn (.inr hk) hf8
  refine adq l (snpB_ok _ _ hl) _ (SRl.wf_of (ruleN_wf i (by omega))) n k hm hk4 _ hp (placesN_ok hn) (placesN_len _ _ _ hn) fun p hpm code _ _ => ?_
  rw [hk] at hpm
  obtain ⟨hpo, hpk, hpn, h1, h4, h2⟩ := places_modal hn p hpm
  have hk3 : p.kind ≠ 3 := by rw [hpk]; decide
  rcases hi with h | ⟨rfl, hf⟩ | ⟨rfl, hf⟩ | ⟨rfl, hf⟩
  · by_cases h15 : i < 15
    · obtain ⟨x, hx, hm⟩ := isP i h15
      rw [hx]; exact prop_sound hk3 x hm
    · obtain ⟨x, hx, hm⟩ := isM i (by omega) h
      rw [hx]; exact modal_sound hpo hk3 x hm
  · exact refl_sound hpo hk3 (h1 hf) _ (nth_mem (i := 0) rfl)
  · exact tran_sound hpo hk3 (h2 hf) _ (nth_mem (i := 0) rfl)
  · exact sym_sound hpo hk3 (h4 hf.2) (h2 hf.1) _ (nth_mem (i := 0) rfl)
def okB (p : Plc) : Bool := Nat.beq p.sees.length p.n && (Nat.ble p.n 3 && (allB (fun x => Nat.blt x (2 ^ p.n)) p.sees && !Nat.beq p.kind 3))
theorem okB_ok {p : Plc} (h : okB p = true) : p.ok ∧ p.kind ≠ 3 := by
  unfold okB at h
  simp only [Bool.and_eq_true, Bool.not_eq_true'] at h
  exact ⟨⟨Nat.eq_of_beq_eq_true h.1, Nat.le_of_ble_eq_true h.2.1, fun x hx => Nat.le_of_ble_eq_true (allB_mem h.2.2.1 x hx)⟩, fun e => by rw [e] at h; cases h.2.2.2⟩
def pB (i k : Nat) (ps : List Plc) : Bool := Nat.blt i 15 && (Nat.ble k 4 && (allB okB ps && Nat.ble ps.length 1000))
/-- By rules of propositions, where the kind is none of forcing. -/
theorem ap (l : SLg) (hl : snpB 59 l.rules = true) (i n k : Nat) (ps : List Plc) (hm : EOk (n_metas, [(ruleN i).A], nI k)) (hp : EOk (n_places, [l.A, nI n], slA false (some 3) (ps.map fun p => .ag (p.cells false)))) (h : pB i k ps = true) : EOk (n_adequate, [l.A, (ruleN i).A, nI n], .b true) := by
  unfold pB at h
  simp only [Bool.and_eq_true] at h
  have hi : i < 15 := Nat.le_of_ble_eq_true h.1
  obtain ⟨x, hx, hmx⟩ := isP i hi
  refine adq l (snpB_ok _ _ hl) _ (SRl.wf_of (ruleN_wf i (by omega))) n k hm (Nat.le_of_ble_eq_true h.2.1) ps hp (fun p hp => (okB_ok (allB_mem h.2.2.1 p hp)).1) (Nat.le_of_ble_eq_true h.2.2.2) fun p hpm code _ _ => ?_
  rw [hx]; exact prop_sound (okB_ok (allB_mem h.2.2.1 p hpm)).2 x hmx
/-- By turning over all codes. -/
theorem ac (l : SLg) (hl : snpB 59 l.rules = true) (i n k : Nat) (ps : List Plc) (hm : EOk (n_metas, [(ruleN i).A], nI k)) (hp : EOk (n_places, [l.A, nI n], slA false (some 3) (ps.map fun p => .ag (p.cells false)))) (h : (Nat.blt i 40 && (Nat.ble k 4 && (allB okB ps && Nat.ble ps.length 1000))) = true)
    (hc : chk l.kind ps k (ruleN i) = true) : EOk (n_adequate, [l.A, (ruleN i).A, nI n], .b true) := by
  simp only [Bool.and_eq_true] at h
  exact adq l (snpB_ok _ _ hl) _ (SRl.wf_of (ruleN_wf i (Nat.le_of_ble_eq_true h.1))) n k hm (Nat.le_of_ble_eq_true h.2.1) ps hp (fun p hp => (okB_ok (allB_mem h.2.2.1 p hp)).1) (Nat.le_of_ble_eq_true h.2.2.2) (chk_true hc)
theorem aj (l : SLg) (hl : snpB 59 l.rules = true) (i n k : Nat) (hm : EOk (n_metas, [(ruleN i).A], nI k)) (h : decide (l.kind = 3 ∧ l.frame < 8 ∧ n ≤ 3 ∧ k ≤ 4 ∧ i < 40) = true) (hc : chk l.kind (placesN l.kind l.frame n) k (ruleN i) = true) : EOk (n_adequate, [l.A, (ruleN i).A, nI n], .b true) := by
  obtain ⟨hk, hf, hn, hk4, hi⟩ := of_decide_eq_true h
  exact adq l (snpB_ok _ _ hl) _ (SRl.wf_of (ruleN_wf i hi)) n k hm hk4 _ (places_ok l n hn (.inl hk) hf) (placesN_ok hn) (placesN_len _ _ _ hn) (chk_true hc)
end Go.Lyc.T
