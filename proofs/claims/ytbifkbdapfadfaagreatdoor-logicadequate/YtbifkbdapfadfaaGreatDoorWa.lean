/-
  What all, later, hold compute: walks. No conditions: laws of these functions' code.
-/
import Derived.Test.YtbifkbdapfadfaaGreatDoorNames
set_option linter.all false
noncomputable section
namespace Go.Lyc
open Go.RowKit Go.Lyc.T

/-- What is known of these functions. -/
inductive KP (d : Nat) : Nat → List AV → AV → Prop
  | all (p : Plc) (hp : p.ok) : KP d n_all [p.A] (nI p.all)
  | later (p : Plc) (hp : p.ok) (set : Nat) (h : set < 2 ^ p.n) : KP d n_later [p.A, nI set] (nI (laterN p set))
  | hold (p : Plc) (hp : p.ok) (f : SFm) (hf : f.wf) (hd : f.dep < d) (h20 : f.dep ≤ 20) (s : Sets) (hs : s.ok p) : KP d n_hold [p.A, f.A, s.A] (nI (holdN p s f))
structure BA (b : Base) : Prop where
  f_all : b.funcs.get n_all = some c_all
  f_later : b.funcs.get n_later = some c_later
  f_hold : b.funcs.get n_hold = some c_hold
  f_hold1 : b.funcs.get n_hold1 = some c_hold1
  p_all : b.pure n_all = true
  p_later : b.pure n_later = true
  p_hold : b.pure n_hold = true
  p_hold1 : b.pure n_hold1 = false
  e_all : b.ext n_all = 0
  e_later : b.ext n_later = 0
  e_hold : b.ext n_hold = 0
  e_hold1 : b.ext n_hold1 = 0
theorem KP.fn {d : Nat} : ∀ g ar r r', KP d g ar r → KP d g ar r' → r = r' := fun g ar r r' h h' => by
  cases h with
  | all p hp =>
    generalize hq : [p.A] = ar' at h'
    cases h' with
    | all q hq' => rw [Plc.A_inj (List.cons.inj hq).1]
  | later p hp set h =>
    generalize hq : [p.A, nI set] = ar' at h'
    cases h' with
    | later q _ set' _ =>
      simp only [List.cons.injEq, and_true] at hq
      rw [Plc.A_inj hq.1, nI_inj hq.2]
  | hold p hp f hf hd h20 s hs =>
    generalize hq : [p.A, f.A, s.A] = ar' at h'
    cases h' with
    | hold q _ f' _ _ _ s' _ =>
      simp only [List.cons.injEq, and_true] at hq
      rw [Plc.A_inj hq.1, Sets.A_inj hq.2.2, SFm.A_inj f f' (by have := hq.2.1; unfold SFm.A at this; injection this)]

section
variable {b : Base} (hB : BA b) {K : Nat → List AV → AV → Prop}
theorem freeze_i {σ : St} {k : IntKind} {x : Int} : freeze σ 0 60 (.i k x) = some (.i k x) := rfl
theorem freeze_b {σ : St} {x : Bool} : freeze σ 0 60 (.b x) = some (.b x) := rfl
theorem p60 (n : Nat) (h : n ≤ 3) : 2 ^ n < 2 ^ 63 := Nat.pow_lt_pow_right (by omega) (by omega)

theorem all_go (p : Plc) (hp : p.ok) (body : ACode) (hb : c_all.body = some body) :
    GoF (b.envK K) 7 body (argF [p.A]) ⟨.nil, 0⟩ (fun x f σ' => x = .ret ∧ freeze σ' 0 60 (f 2) = some (nI p.all)) := by
  cases hb
  have hp3 := hp.n
  refine GoF.seq (GoF.region (GoO.box (v := p.A) 0 rfl rfl rfl rfl rfl rfl fun σ hn h0 _ => ?_))
  repeat (first | refine GoO.go rfl rfl rfl rfl ?_ | refine GoO.ld h0 rfl rfl rfl rfl ?_ | refine GoO.cmp rfl rfl rfl rfl rfl ?_ | refine GoO.off rfl rfl ?_ | refine GoO.nil ?_ | refine GoF.seq ?_ | refine GoF.region ?_ | refine GoF.skip ?_ | refine GoF.block ?_)
  refine GoO.bin (b := nI p.n) rfl rfl rfl rfl (bin_shl1 (by omega)) ?_
  refine GoO.bin rfl rfl rfl rfl (bin_sub (Nat.two_pow_pos _) (p60 _ hp3)) ?_
  repeat (first | refine GoO.go rfl rfl rfl rfl ?_ | refine GoO.ld h0 rfl rfl rfl rfl ?_ | refine GoO.cmp rfl rfl rfl rfl rfl ?_ | refine GoO.off rfl rfl ?_ | refine GoO.nil ?_ | refine GoF.seq ?_ | refine GoF.region ?_ | refine GoF.skip ?_ | refine GoF.block ?_)
  exact GoF.ret ⟨rfl, freeze_i⟩
theorem later_go (p : Plc) (hp : p.ok) (set : Nat) (hs : set < 2 ^ p.n) (body : ACode) (hb : c_later.body = some body) :
    GoF (b.envK K) 26 body (argF [p.A, nI set]) ⟨.nil, 0⟩ (fun x f σ' => x = .ret ∧ freeze σ' 0 60 (f 4) = some (nI (laterN p set))) := by
  cases hb
  have hpn := hp.n
  have h63 := p60 _ hpn
  refine GoF.seq (GoF.region (GoO.box (v := p.A) 0 rfl rfl rfl rfl rfl rfl fun σ hn h0 _ => ?_))
  repeat (first | refine GoO.go rfl rfl rfl rfl ?_ | refine GoO.ld h0 rfl rfl rfl rfl ?_ | refine GoO.cmp rfl rfl rfl rfl rfl ?_ | refine GoO.off rfl rfl ?_ | refine GoO.nil ?_ | refine GoF.seq ?_ | refine GoF.region ?_ | refine GoF.skip ?_ | refine GoF.block ?_)
  refine GoF.loop (fun m f σ' => σ' = σ ∧ ∃ w, w + m = p.n ∧ f 9 = nI w ∧ f 5 = nI (laterU p set w) ∧ f 2 = .p (some (0, 0)) ∧ f 1 = nI set ∧ f 8 = nI p.n) ?_ p.n ⟨rfl, 0, by omega, rfl, rfl, rfl, rfl, rfl⟩
  intro m g σ' ⟨e1, w, hw, h9, h5, h2, h1, h8⟩
  subst e1
  refine GoF.norm [(9, nI w), (5, nI (laterU p set w)), (2, .p (some (0, 0))), (1, nI set), (8, nI p.n)] ⟨h9, h5, h2, h1, h8, trivial⟩ fun g => ?_
  repeat (first | refine GoO.go rfl rfl rfl rfl ?_ | refine GoO.ld h0 rfl rfl rfl rfl ?_ | refine GoO.cmp rfl rfl rfl rfl rfl ?_ | refine GoO.off rfl rfl ?_ | refine GoO.nil ?_ | refine GoF.seq ?_ | refine GoF.region ?_ | refine GoF.skip ?_ | refine GoF.block ?_)
  refine GoF.cnd rfl (fun ht => ?_) (fun hf => ?_)
  · have hlt : w < p.n := of_decide_eq_true ht
    have hU : laterU p set w < 2 ^ 63 := Nat.lt_trans (laterU_lt p set w) (Nat.pow_lt_pow_right (by omega) (by omega))
    have hsee : p.sees.getD w 0 < 2 ^ 63 := by
      have hl : w < p.sees.length := by rw [hp.len]; exact hlt
      have := hp.lt (p.sees.getD w 0) (by rw [List.getD_eq_getElem?_getD, List.getElem?_eq_getElem hl]; exact List.getElem_mem hl)
      exact Nat.lt_trans this h63
    repeat (first | refine GoO.go rfl rfl rfl rfl ?_ | refine GoO.ld h0 rfl rfl rfl rfl ?_ | refine GoO.cmp rfl rfl rfl rfl rfl ?_ | refine GoO.off rfl rfl ?_ | refine GoO.nil ?_ | refine GoF.seq ?_ | refine GoF.region ?_ | refine GoF.skip ?_ | refine GoF.block ?_)
    refine GoO.val rfl rfl (op_idxSl .i64 (.tl true none (p.sees.map nI)) w _ rfl rfl (idxSlA_tl (nth_map_nI (by rw [hp.len]; exact hlt)))) ?_
    repeat (first | refine GoO.go rfl rfl rfl rfl ?_ | refine GoO.ld h0 rfl rfl rfl rfl ?_ | refine GoO.cmp rfl rfl rfl rfl rfl ?_ | refine GoO.off rfl rfl ?_ | refine GoO.nil ?_ | refine GoF.seq ?_ | refine GoF.region ?_ | refine GoF.skip ?_ | refine GoF.block ?_)
    refine GoO.bin rfl rfl rfl rfl (bin_andNot hsee (Nat.lt_trans hs h63)) ?_
    refine GoO.bin (b := nI 0) rfl rfl rfl rfl bin_eqk ?_
    repeat (first | refine GoO.go rfl rfl rfl rfl ?_ | refine GoO.ld h0 rfl rfl rfl rfl ?_ | refine GoO.cmp rfl rfl rfl rfl rfl ?_ | refine GoO.off rfl rfl ?_ | refine GoO.nil ?_ | refine GoF.seq ?_ | refine GoF.region ?_ | refine GoF.skip ?_ | refine GoF.block ?_)
    refine GoF.cnd rfl (fun h => ?_) (fun h => ?_)
    · repeat (first | refine GoO.go rfl rfl rfl rfl ?_ | refine GoO.ld h0 rfl rfl rfl rfl ?_ | refine GoO.cmp rfl rfl rfl rfl rfl ?_ | refine GoO.off rfl rfl ?_ | refine GoO.nil ?_ | refine GoF.seq ?_ | refine GoF.region ?_ | refine GoF.skip ?_ | refine GoF.block ?_)
      refine GoO.bin (a := nI 1) (b := nI w) rfl rfl rfl rfl (bin_shl1 (by omega)) ?_
      refine GoO.bin rfl rfl rfl rfl (bin_or hU (Nat.pow_lt_pow_right (by omega) (by omega))) ?_
      repeat (first | refine GoO.go rfl rfl rfl rfl ?_ | refine GoO.ld h0 rfl rfl rfl rfl ?_ | refine GoO.cmp rfl rfl rfl rfl rfl ?_ | refine GoO.off rfl rfl ?_ | refine GoO.nil ?_ | refine GoF.seq ?_ | refine GoF.region ?_ | refine GoF.skip ?_ | refine GoF.block ?_)
      refine GoO.bin (a := nI w) (b := nI 1) rfl rfl rfl rfl (bin_add (by omega)) ?_
      repeat (first | refine GoO.go rfl rfl rfl rfl ?_ | refine GoO.ld h0 rfl rfl rfl rfl ?_ | refine GoO.cmp rfl rfl rfl rfl rfl ?_ | refine GoO.off rfl rfl ?_ | refine GoO.nil ?_ | refine GoF.seq ?_ | refine GoF.region ?_ | refine GoF.skip ?_ | refine GoF.block ?_)
      refine ⟨m - 1, by omega, rfl, w + 1, by omega, rfl, ?_, rfl, rfl, rfl⟩
      have e : andN (p.sees.getD w 0) set = 0 := of_decide_eq_true h
      show nI (laterU p set w ||| 2 ^ w) = nI (laterU p set (w + 1))
      rw [laterU, e]; rfl
    · repeat (first | refine GoO.go rfl rfl rfl rfl ?_ | refine GoO.ld h0 rfl rfl rfl rfl ?_ | refine GoO.cmp rfl rfl rfl rfl rfl ?_ | refine GoO.off rfl rfl ?_ | refine GoO.nil ?_ | refine GoF.seq ?_ | refine GoF.region ?_ | refine GoF.skip ?_ | refine GoF.block ?_)
      refine GoO.bin (a := nI w) (b := nI 1) rfl rfl rfl rfl (bin_add (by omega)) ?_
      repeat (first | refine GoO.go rfl rfl rfl rfl ?_ | refine GoO.ld h0 rfl rfl rfl rfl ?_ | refine GoO.cmp rfl rfl rfl rfl rfl ?_ | refine GoO.off rfl rfl ?_ | refine GoO.nil ?_ | refine GoF.seq ?_ | refine GoF.region ?_ | refine GoF.skip ?_ | refine GoF.block ?_)
      refine ⟨m - 1, by omega, rfl, w + 1, by omega, rfl, ?_, rfl, rfl, rfl⟩
      have e : andN (p.sees.getD w 0) set ≠ 0 := of_decide_eq_false h
      show nI (laterU p set w) = nI (laterU p set (w + 1))
      rw [laterU, show Nat.beq (andN (p.sees.getD w 0) set) 0 = false from by cases hb : Nat.beq (andN (p.sees.getD w 0) set) 0 with | false => rfl | true => exact absurd (Nat.eq_of_beq_eq_true hb) e]; rfl
  · have hge : ¬ w < p.n := of_decide_eq_false hf
    have hw' : w = p.n := by omega
    subst hw'
    refine GoF.exit ?_
    repeat (first | refine GoO.go rfl rfl rfl rfl ?_ | refine GoO.ld h0 rfl rfl rfl rfl ?_ | refine GoO.cmp rfl rfl rfl rfl rfl ?_ | refine GoO.off rfl rfl ?_ | refine GoO.nil ?_ | refine GoF.seq ?_ | refine GoF.region ?_ | refine GoF.skip ?_ | refine GoF.block ?_)
    exact GoF.ret ⟨rfl, freeze_i⟩

include hB in
theorem hold1_go {d : Nat} (p : Plc) (hp : p.ok) (x : Nat) (hx : x < 2 ^ p.n) (σ : St) (h0 : σ.get 0 = some (.cells (p.cells true))) (body : ACode) (hb : c_hold1.body = some body) :
    GoF (b.envK (KP d)) 11 body (argF [nI x, .p (some (0, 0))]) σ (fun y f σ' => y = .ret ∧ f 3 = nI (onN p x) ∧ σ' = σ) := by
  cases hb
  repeat (first | refine GoO.go rfl rfl rfl rfl ?_ | refine GoO.ld h0 rfl rfl rfl rfl ?_ | refine GoO.cmp rfl rfl rfl rfl rfl ?_ | refine GoO.off rfl rfl ?_ | refine GoO.nil ?_ | refine GoF.seq ?_ | refine GoF.region ?_ | refine GoF.skip ?_ | refine GoF.block ?_)
  refine GoF.cnd rfl (fun h => ?_) (fun h => ?_)
  · have hk : p.kind = 3 := of_decide_eq_true h
    repeat (first | refine GoO.go rfl rfl rfl rfl ?_ | refine GoO.ld h0 rfl rfl rfl rfl ?_ | refine GoO.cmp rfl rfl rfl rfl rfl ?_ | refine GoO.off rfl rfl ?_ | refine GoO.nil ?_ | refine GoF.seq ?_ | refine GoF.region ?_ | refine GoF.skip ?_ | refine GoF.block ?_)
    refine GoO.known KP.fn hB.e_later hB.p_later (KP.later p hp x hx) rfl rfl rfl (snaps2 (p.snp.le (by omega) σ) rfl) ?_
    repeat (first | refine GoO.go rfl rfl rfl rfl ?_ | refine GoO.ld h0 rfl rfl rfl rfl ?_ | refine GoO.cmp rfl rfl rfl rfl rfl ?_ | refine GoO.off rfl rfl ?_ | refine GoO.nil ?_ | refine GoF.seq ?_ | refine GoF.region ?_ | refine GoF.skip ?_ | refine GoF.block ?_)
    refine GoF.ret ⟨rfl, ?_, rfl⟩
    show nI (laterN p x) = nI (onN p x)
    rw [onN, if_pos hk]
  · have hk : ¬ p.kind = 3 := of_decide_eq_false h
    repeat (first | refine GoO.go rfl rfl rfl rfl ?_ | refine GoO.ld h0 rfl rfl rfl rfl ?_ | refine GoO.cmp rfl rfl rfl rfl rfl ?_ | refine GoO.off rfl rfl ?_ | refine GoO.nil ?_ | refine GoF.seq ?_ | refine GoF.region ?_ | refine GoF.skip ?_ | refine GoF.block ?_)
    refine GoF.ret ⟨rfl, ?_, rfl⟩
    show nI x = nI (onN p x)
    rw [onN, if_neg hk]
include hB in
set_option maxHeartbeats 0 in
theorem hold_go {d : Nat} (p : Plc) (hp : p.ok) (F : SFm) (hf : F.wf) (hd : F.dep ≤ d) (h20 : F.dep ≤ 20) (s : Sets) (hs : s.ok p) (body : ACode) (hb : c_hold.body = some body) :
    GoF (b.envK (KP d)) 130 body (argF [p.A, F.A, s.A]) ⟨.nil, 0⟩ (fun x f σ' => x = .ret ∧ freeze σ' 0 60 (f 6) = some (nI (holdN p s F))) := by
  cases hb
  have hpn := hp.n
  have h63 := p60 _ hpn
  have hall := all_lt p
  have hA := F.snpA h20 hf
  have hsub : ∀ i, ((holdNs p s F.sub).getD i 0) < 2 ^ p.n := fun i => by
    rw [holdNs_eq, List.getD_eq_getElem?_getD, List.getElem?_map]
    cases hi : F.sub[i]? with
    | none => exact Nat.two_pow_pos _
    | some g => exact holdN_lt p s hs _ g (Nat.le_refl _)
  have hres : holdN p s F = opN p F.op (s.get (F.name.getD 1 0 - 65)) ((holdNs p s F.sub).getD 0 0) ((holdNs p s F.sub).getD 1 0) := by cases F; rw [holdN]; rfl
  rw [hres]
  have hsb : ∀ i, (h : i < F.sub.length) → KP d n_hold [p.A, (F.sub[i]).A, s.A] (nI ((holdNs p s F.sub).getD i 0)) := fun i h => by
    have e : (holdNs p s F.sub).getD i 0 = holdN p s F.sub[i] := by
      rw [holdNs_eq, List.getD_eq_getElem?_getD, List.getElem?_map, List.getElem?_eq_getElem h]; rfl
    rw [e]
    have := SFm.dep_sub (List.getElem_mem h)
    exact .hold p hp _ (hf.sub _ (List.getElem_mem h)) (by omega) (by omega) s hs
  have hsn : ∀ i, (h : i < F.sub.length) → Snp 60 (F.sub[i]).A := fun i h => by
    have := SFm.dep_sub (List.getElem_mem h)
    exact SFm.snpA _ (by omega) (hf.sub _ (List.getElem_mem h))
  have hmeta := hf.meta
  have hsub' := hsub
  have hcells := F.cells_eq
  revert hres hA
  generalize hsa : (holdNs p s F.sub).getD 0 0 = a
  generalize hsb' : (holdNs p s F.sub).getD 1 0 = bb
  intro _ _
  refine GoF.seq (GoF.region (GoO.box (v := p.A) 0 rfl rfl rfl rfl rfl rfl fun σ1 hn1 h0 _ => GoO.box (v := F.A) 1 hn1 rfl rfl rfl rfl hcells fun σ2 hn2 h1 k1 => GoO.box (v := s.A) 2 hn2 rfl rfl rfl rfl rfl fun σ hn h2 k2 => ?_))
  replace h1 := k2 _ _ h1
  replace h0 := k2 _ _ (k1 _ _ h0)
  clear k1 k2 hn1 hn2 hn
  repeat (first | refine GoO.go rfl rfl rfl rfl ?_ | refine GoO.ld h0 rfl rfl rfl rfl ?_ | refine GoO.ld h1 rfl rfl rfl rfl ?_ | refine GoO.ld h2 rfl rfl rfl rfl ?_ | refine GoO.cmp rfl rfl rfl rfl rfl ?_ | refine GoO.off rfl rfl ?_ | refine GoO.nil ?_)
  refine GoF.seq (GoF.region ?_)
  repeat (first | refine GoO.go rfl rfl rfl rfl ?_ | refine GoO.ld h0 rfl rfl rfl rfl ?_ | refine GoO.ld h1 rfl rfl rfl rfl ?_ | refine GoO.ld h2 rfl rfl rfl rfl ?_ | refine GoO.cmp rfl rfl rfl rfl rfl ?_ | refine GoO.off rfl rfl ?_ | refine GoO.nil ?_)
  refine GoF.cut [(3, .p (some (0, 0))), (4, .p (some (1, 0))), (5, .p (some (2, 0))), (6, nI 0), (7, nI a), (8, nI 0)] ?_ fun g => ?_
  · repeat (first | refine GoO.go rfl rfl rfl rfl ?_ | refine GoO.ld h0 rfl rfl rfl rfl ?_ | refine GoO.ld h1 rfl rfl rfl rfl ?_ | refine GoO.ld h2 rfl rfl rfl rfl ?_ | refine GoO.cmp rfl rfl rfl rfl rfl ?_ | refine GoO.off rfl rfl ?_ | refine GoO.nil ?_ | refine GoF.seq ?_ | refine GoF.region ?_ | refine GoF.skip ?_ | refine GoF.block ?_)
    refine GoO.len rfl rfl rfl slA_lenM ?_
    refine GoO.bin (b := nI 0) rfl rfl rfl rfl bin_gtr ?_
    refine GoO.nil ?_
    refine GoF.cnd rfl (fun h => ?_) (fun h => ?_)
    · have hl : 0 < F.sub.length := of_decide_eq_true h
      refine GoF.draw rfl rfl ?_
      repeat (first | refine GoP.go rfl rfl rfl rfl ?_ | refine GoP.ld h0 rfl rfl rfl rfl ?_ | refine GoP.ld h1 rfl rfl rfl rfl ?_ | refine GoP.ld h2 rfl rfl rfl rfl ?_ | refine GoP.cmp rfl rfl rfl rfl rfl ?_ | refine GoP.off rfl rfl ?_ | refine GoP.nil ?_)
      refine GoP.idx (j := 0) rfl rfl rfl rfl (slA_idxM hl) ?_
      refine GoP.ldt rfl rfl rfl (SFm.conf _) ?_
      repeat (first | refine GoP.go rfl rfl rfl rfl ?_ | refine GoP.ld h0 rfl rfl rfl rfl ?_ | refine GoP.ld h1 rfl rfl rfl rfl ?_ | refine GoP.ld h2 rfl rfl rfl rfl ?_ | refine GoP.cmp rfl rfl rfl rfl rfl ?_ | refine GoP.off rfl rfl ?_ | refine GoP.nil ?_)
      refine GoP.known KP.fn hB.e_hold hB.p_hold (hsb 0 hl) rfl rfl rfl (snaps3 (p.snp.le (by omega) σ) (hsn 0 hl σ) (s.snp.le (by omega) σ)) ?_
      repeat (first | refine GoP.go rfl rfl rfl rfl ?_ | refine GoP.ld h0 rfl rfl rfl rfl ?_ | refine GoP.ld h1 rfl rfl rfl rfl ?_ | refine GoP.ld h2 rfl rfl rfl rfl ?_ | refine GoP.cmp rfl rfl rfl rfl rfl ?_ | refine GoP.off rfl rfl ?_ | refine GoP.nil ?_)
      exact ⟨rfl, rfl, rfl, rfl, rfl, rfl, by rw [← hsa]; rfl, rfl, trivial⟩
    · have hl : F.sub.length = 0 := by have := of_decide_eq_false h; omega
      refine GoF.skip ⟨rfl, rfl, rfl, rfl, rfl, rfl, ?_, rfl, trivial⟩
      show nI 0 = nI a
      rw [← hsa, List.eq_nil_of_length_eq_zero hl]; simp [holdNs]
  refine GoF.cut [(3, .p (some (0, 0))), (4, .p (some (1, 0))), (5, .p (some (2, 0))), (6, nI 0), (7, nI a), (8, nI bb)] ?_ fun g => ?_
  · repeat (first | refine GoO.go rfl rfl rfl rfl ?_ | refine GoO.ld h0 rfl rfl rfl rfl ?_ | refine GoO.ld h1 rfl rfl rfl rfl ?_ | refine GoO.ld h2 rfl rfl rfl rfl ?_ | refine GoO.cmp rfl rfl rfl rfl rfl ?_ | refine GoO.off rfl rfl ?_ | refine GoO.nil ?_ | refine GoF.seq ?_ | refine GoF.region ?_ | refine GoF.skip ?_ | refine GoF.block ?_)
    refine GoO.len rfl rfl rfl slA_lenM ?_
    refine GoO.bin (b := nI 1) rfl rfl rfl rfl bin_gtr ?_
    refine GoO.nil ?_
    refine GoF.cnd rfl (fun h => ?_) (fun h => ?_)
    · have hl : 1 < F.sub.length := of_decide_eq_true h
      refine GoF.draw rfl rfl ?_
      repeat (first | refine GoP.go rfl rfl rfl rfl ?_ | refine GoP.ld h0 rfl rfl rfl rfl ?_ | refine GoP.ld h1 rfl rfl rfl rfl ?_ | refine GoP.ld h2 rfl rfl rfl rfl ?_ | refine GoP.cmp rfl rfl rfl rfl rfl ?_ | refine GoP.off rfl rfl ?_ | refine GoP.nil ?_)
      refine GoP.idx (j := 1) rfl rfl rfl rfl (slA_idxM hl) ?_
      refine GoP.ldt rfl rfl rfl (SFm.conf _) ?_
      repeat (first | refine GoP.go rfl rfl rfl rfl ?_ | refine GoP.ld h0 rfl rfl rfl rfl ?_ | refine GoP.ld h1 rfl rfl rfl rfl ?_ | refine GoP.ld h2 rfl rfl rfl rfl ?_ | refine GoP.cmp rfl rfl rfl rfl rfl ?_ | refine GoP.off rfl rfl ?_ | refine GoP.nil ?_)
      refine GoP.known KP.fn hB.e_hold hB.p_hold (hsb 1 hl) rfl rfl rfl (snaps3 (p.snp.le (by omega) σ) (hsn 1 hl σ) (s.snp.le (by omega) σ)) ?_
      repeat (first | refine GoP.go rfl rfl rfl rfl ?_ | refine GoP.ld h0 rfl rfl rfl rfl ?_ | refine GoP.ld h1 rfl rfl rfl rfl ?_ | refine GoP.ld h2 rfl rfl rfl rfl ?_ | refine GoP.cmp rfl rfl rfl rfl rfl ?_ | refine GoP.off rfl rfl ?_ | refine GoP.nil ?_)
      exact ⟨rfl, rfl, rfl, rfl, rfl, rfl, rfl, by rw [← hsb']; rfl, trivial⟩
    · have hl : F.sub.length ≤ 1 := by have := of_decide_eq_false h; omega
      refine GoF.skip ⟨rfl, rfl, rfl, rfl, rfl, rfl, rfl, ?_, trivial⟩
      show nI 0 = nI bb
      rw [← hsb', holdNs_eq, List.getD_eq_getElem?_getD, List.getElem?_eq_none (by simpa using hl)]; rfl
  clear hsb hsn hsub
  have ha : a < 2 ^ p.n := by rw [← hsa]; exact hsub' 0
  have hb2 : bb < 2 ^ p.n := by rw [← hsb']; exact hsub' 1
  have ha63 := Nat.lt_trans ha h63
  have hb63 := Nat.lt_trans hb2 h63
  have hl63 := Nat.lt_trans hall h63
  have hnot := andN_le p.all a hall
  have hc1 : ∀ (x : Nat), x < 2 ^ p.n → ∀ (body : ACode), c_hold1.body = some body → GoF (b.envK (KP d)) 11 body (argF [nI x, .p (some (0, 0))]) σ (fun y f σ' => y = .ret ∧ f 3 = nI (onN p x) ∧ σ' = σ) := fun x hx body hb => hold1_go hB p hp x hx σ h0 body hb
  repeat (first | refine GoO.go rfl rfl rfl rfl ?_ | refine GoO.ld h0 rfl rfl rfl rfl ?_ | refine GoO.ld h1 rfl rfl rfl rfl ?_ | refine GoO.ld h2 rfl rfl rfl rfl ?_ | refine GoO.cmp rfl rfl rfl rfl rfl ?_ | refine GoO.off rfl rfl ?_ | refine GoO.nil ?_)
  refine GoF.seq (GoF.region ?_)
  repeat (first | refine GoO.go rfl rfl rfl rfl ?_ | refine GoO.ld h0 rfl rfl rfl rfl ?_ | refine GoO.ld h1 rfl rfl rfl rfl ?_ | refine GoO.ld h2 rfl rfl rfl rfl ?_ | refine GoO.cmp rfl rfl rfl rfl rfl ?_ | refine GoO.off rfl rfl ?_ | refine GoO.nil ?_)
  refine GoF.seq (GoF.seq (GoF.region ?_))
  repeat (first | refine GoO.go rfl rfl rfl rfl ?_ | refine GoO.ld h0 rfl rfl rfl rfl ?_ | refine GoO.ld h1 rfl rfl rfl rfl ?_ | refine GoO.ld h2 rfl rfl rfl rfl ?_ | refine GoO.cmp rfl rfl rfl rfl rfl ?_ | refine GoO.off rfl rfl ?_ | refine GoO.nil ?_)
  refine GoF.norm [(3, .p (some (0, 0))), (4, .p (some (1, 0))), (5, .p (some (2, 0))), (6, nI 0), (7, nI a), (8, nI bb), (9, .f (.func n_hold1) [] [.p (some (0, 0))]), (36, .i .u8 (Int.ofNat F.op))] ⟨rfl, rfl, rfl, rfl, rfl, rfl, rfl, rfl, trivial⟩ fun g => ?_
  refine GoF.block (GoF.seq (GoF.region ?_))
  refine GoO.bin (b := .i .u8 (Int.ofNat 15)) rfl rfl rfl rfl bin_eqk ?_
  repeat (first | refine GoO.go rfl rfl rfl rfl ?_ | refine GoO.ld h0 rfl rfl rfl rfl ?_ | refine GoO.ld h1 rfl rfl rfl rfl ?_ | refine GoO.ld h2 rfl rfl rfl rfl ?_ | refine GoO.cmp rfl rfl rfl rfl rfl ?_ | refine GoO.off rfl rfl ?_ | refine GoO.nil ?_)
  refine GoF.cnd rfl (fun h => ?_) (fun h => ?_)
  · have hop : F.op = 15 := of_decide_eq_true h
    obtain ⟨x, c, hnm, h65, h68⟩ := hmeta hop
    rw [hnm] at h1 ⊢
    rw [hop]
    have : c = 65 ∨ c = 66 ∨ c = 67 ∨ c = 68 := by omega
    rcases this with rfl | rfl | rfl | rfl
    all_goals
      repeat (first | refine GoO.go rfl rfl rfl rfl ?_ | refine GoO.ld h0 rfl rfl rfl rfl ?_ | refine GoO.ld h1 rfl rfl rfl rfl ?_ | refine GoO.ld h2 rfl rfl rfl rfl ?_ | refine GoO.cmp rfl rfl rfl rfl rfl ?_ | refine GoO.off rfl rfl ?_ | refine GoO.nil ?_ | refine GoF.seq ?_ | refine GoF.region ?_ | refine GoF.skip ?_ | refine GoF.block ?_)
      refine GoO.val rfl rfl rfl ?_
      repeat (first | refine GoO.go rfl rfl rfl rfl ?_ | refine GoO.ld h0 rfl rfl rfl rfl ?_ | refine GoO.ld h1 rfl rfl rfl rfl ?_ | refine GoO.ld h2 rfl rfl rfl rfl ?_ | refine GoO.cmp rfl rfl rfl rfl rfl ?_ | refine GoO.off rfl rfl ?_ | refine GoO.nil ?_ | refine GoF.seq ?_ | refine GoF.region ?_ | refine GoF.skip ?_ | refine GoF.block ?_)
      exact GoF.ret ⟨rfl, rfl⟩
  have n15 : ¬ F.op = 15 := of_decide_eq_false h
  refine GoF.seq (GoF.region ?_)
  refine GoO.bin (b := .i .u8 (Int.ofNat 3)) rfl rfl rfl rfl bin_eqk ?_
  repeat (first | refine GoO.go rfl rfl rfl rfl ?_ | refine GoO.ld h0 rfl rfl rfl rfl ?_ | refine GoO.ld h1 rfl rfl rfl rfl ?_ | refine GoO.ld h2 rfl rfl rfl rfl ?_ | refine GoO.cmp rfl rfl rfl rfl rfl ?_ | refine GoO.off rfl rfl ?_ | refine GoO.nil ?_)
  refine GoF.cnd rfl (fun h => ?_) (fun h => ?_)
  · have hop : F.op = 3 := of_decide_eq_true h
    rw [hop]
    repeat (first | refine GoO.go rfl rfl rfl rfl ?_ | refine GoO.ld h0 rfl rfl rfl rfl ?_ | refine GoO.ld h1 rfl rfl rfl rfl ?_ | refine GoO.ld h2 rfl rfl rfl rfl ?_ | refine GoO.cmp rfl rfl rfl rfl rfl ?_ | refine GoO.off rfl rfl ?_ | refine GoO.nil ?_ | refine GoF.seq ?_ | refine GoF.region ?_ | refine GoF.skip ?_ | refine GoF.block ?_)
    refine GoO.known KP.fn hB.e_all hB.p_all (KP.all p hp) rfl rfl rfl (snaps1 (p.snp.le (by omega) σ)) ?_
    repeat (first | refine GoO.go rfl rfl rfl rfl ?_ | refine GoO.ld h0 rfl rfl rfl rfl ?_ | refine GoO.ld h1 rfl rfl rfl rfl ?_ | refine GoO.ld h2 rfl rfl rfl rfl ?_ | refine GoO.cmp rfl rfl rfl rfl rfl ?_ | refine GoO.off rfl rfl ?_ | refine GoO.nil ?_)
    refine GoO.bin rfl rfl rfl rfl (bin_andNot hl63 ha63) ?_
    refine GoO.run rfl rfl rfl hB.e_hold1 hB.p_hold1 hB.f_hold1 rfl rfl rfl rfl ((hc1 _ hnot _ rfl).mono fun y f σ' ⟨e1, e2, e3⟩ => ⟨e1, ?_⟩)
    subst e3
    rw [e2]
    repeat (first | refine GoO.go rfl rfl rfl rfl ?_ | refine GoO.ld h0 rfl rfl rfl rfl ?_ | refine GoO.ld h1 rfl rfl rfl rfl ?_ | refine GoO.ld h2 rfl rfl rfl rfl ?_ | refine GoO.cmp rfl rfl rfl rfl rfl ?_ | refine GoO.off rfl rfl ?_ | refine GoO.nil ?_ | refine GoF.seq ?_ | refine GoF.region ?_ | refine GoF.skip ?_ | refine GoF.block ?_)
    exact GoF.ret ⟨rfl, rfl⟩
  have n3 : ¬ F.op = 3 := of_decide_eq_false h
  refine GoF.seq (GoF.region ?_)
  refine GoO.bin (b := .i .u8 (Int.ofNat 4)) rfl rfl rfl rfl bin_eqk ?_
  repeat (first | refine GoO.go rfl rfl rfl rfl ?_ | refine GoO.ld h0 rfl rfl rfl rfl ?_ | refine GoO.ld h1 rfl rfl rfl rfl ?_ | refine GoO.ld h2 rfl rfl rfl rfl ?_ | refine GoO.cmp rfl rfl rfl rfl rfl ?_ | refine GoO.off rfl rfl ?_ | refine GoO.nil ?_)
  refine GoF.cnd rfl (fun h => ?_) (fun h => ?_)
  · have hop : F.op = 4 := of_decide_eq_true h
    rw [hop]
    refine GoF.seq (GoF.region ?_)
    repeat (first | refine GoO.go rfl rfl rfl rfl ?_ | refine GoO.ld h0 rfl rfl rfl rfl ?_ | refine GoO.ld h1 rfl rfl rfl rfl ?_ | refine GoO.ld h2 rfl rfl rfl rfl ?_ | refine GoO.cmp rfl rfl rfl rfl rfl ?_ | refine GoO.off rfl rfl ?_ | refine GoO.nil ?_)
    refine GoO.bin rfl rfl rfl rfl (bin_and ha63 hb63) ?_
    repeat (first | refine GoO.go rfl rfl rfl rfl ?_ | refine GoO.ld h0 rfl rfl rfl rfl ?_ | refine GoO.ld h1 rfl rfl rfl rfl ?_ | refine GoO.ld h2 rfl rfl rfl rfl ?_ | refine GoO.cmp rfl rfl rfl rfl rfl ?_ | refine GoO.off rfl rfl ?_ | refine GoO.nil ?_ | refine GoF.seq ?_ | refine GoF.region ?_ | refine GoF.skip ?_ | refine GoF.block ?_)
    exact GoF.ret ⟨rfl, rfl⟩
  have n4 : ¬ F.op = 4 := of_decide_eq_false h
  refine GoF.seq (GoF.region ?_)
  refine GoO.bin (b := .i .u8 (Int.ofNat 5)) rfl rfl rfl rfl bin_eqk ?_
  repeat (first | refine GoO.go rfl rfl rfl rfl ?_ | refine GoO.ld h0 rfl rfl rfl rfl ?_ | refine GoO.ld h1 rfl rfl rfl rfl ?_ | refine GoO.ld h2 rfl rfl rfl rfl ?_ | refine GoO.cmp rfl rfl rfl rfl rfl ?_ | refine GoO.off rfl rfl ?_ | refine GoO.nil ?_)
  refine GoF.cnd rfl (fun h => ?_) (fun h => ?_)
  · have hop : F.op = 5 := of_decide_eq_true h
    rw [hop]
    refine GoF.seq (GoF.region ?_)
    repeat (first | refine GoO.go rfl rfl rfl rfl ?_ | refine GoO.ld h0 rfl rfl rfl rfl ?_ | refine GoO.ld h1 rfl rfl rfl rfl ?_ | refine GoO.ld h2 rfl rfl rfl rfl ?_ | refine GoO.cmp rfl rfl rfl rfl rfl ?_ | refine GoO.off rfl rfl ?_ | refine GoO.nil ?_)
    refine GoO.bin rfl rfl rfl rfl (bin_or ha63 hb63) ?_
    repeat (first | refine GoO.go rfl rfl rfl rfl ?_ | refine GoO.ld h0 rfl rfl rfl rfl ?_ | refine GoO.ld h1 rfl rfl rfl rfl ?_ | refine GoO.ld h2 rfl rfl rfl rfl ?_ | refine GoO.cmp rfl rfl rfl rfl rfl ?_ | refine GoO.off rfl rfl ?_ | refine GoO.nil ?_ | refine GoF.seq ?_ | refine GoF.region ?_ | refine GoF.skip ?_ | refine GoF.block ?_)
    exact GoF.ret ⟨rfl, rfl⟩
  have n5 : ¬ F.op = 5 := of_decide_eq_false h
  refine GoF.seq (GoF.region ?_)
  refine GoO.bin (b := .i .u8 (Int.ofNat 6)) rfl rfl rfl rfl bin_eqk ?_
  repeat (first | refine GoO.go rfl rfl rfl rfl ?_ | refine GoO.ld h0 rfl rfl rfl rfl ?_ | refine GoO.ld h1 rfl rfl rfl rfl ?_ | refine GoO.ld h2 rfl rfl rfl rfl ?_ | refine GoO.cmp rfl rfl rfl rfl rfl ?_ | refine GoO.off rfl rfl ?_ | refine GoO.nil ?_)
  refine GoF.cnd rfl (fun h => ?_) (fun h => ?_)
  · have hop : F.op = 6 := of_decide_eq_true h
    rw [hop]
    refine GoF.seq (GoF.region ?_)
    repeat (first | refine GoO.go rfl rfl rfl rfl ?_ | refine GoO.ld h0 rfl rfl rfl rfl ?_ | refine GoO.ld h1 rfl rfl rfl rfl ?_ | refine GoO.ld h2 rfl rfl rfl rfl ?_ | refine GoO.cmp rfl rfl rfl rfl rfl ?_ | refine GoO.off rfl rfl ?_ | refine GoO.nil ?_)
    refine GoO.known KP.fn hB.e_all hB.p_all (KP.all p hp) rfl rfl rfl (snaps1 (p.snp.le (by omega) σ)) ?_
    repeat (first | refine GoO.go rfl rfl rfl rfl ?_ | refine GoO.ld h0 rfl rfl rfl rfl ?_ | refine GoO.ld h1 rfl rfl rfl rfl ?_ | refine GoO.ld h2 rfl rfl rfl rfl ?_ | refine GoO.cmp rfl rfl rfl rfl rfl ?_ | refine GoO.off rfl rfl ?_ | refine GoO.nil ?_)
    refine GoO.bin rfl rfl rfl rfl (bin_andNot hl63 ha63) ?_
    repeat (first | refine GoO.go rfl rfl rfl rfl ?_ | refine GoO.ld h0 rfl rfl rfl rfl ?_ | refine GoO.ld h1 rfl rfl rfl rfl ?_ | refine GoO.ld h2 rfl rfl rfl rfl ?_ | refine GoO.cmp rfl rfl rfl rfl rfl ?_ | refine GoO.off rfl rfl ?_ | refine GoO.nil ?_)
    refine GoO.bin rfl rfl rfl rfl (bin_or (Nat.lt_trans hnot h63) hb63) ?_
    refine GoO.run rfl rfl rfl hB.e_hold1 hB.p_hold1 hB.f_hold1 rfl rfl rfl rfl ((hc1 _ (Nat.or_lt_two_pow hnot hb2) _ rfl).mono fun y f σ' ⟨e1, e2, e3⟩ => ⟨e1, ?_⟩)
    subst e3
    rw [e2]
    repeat (first | refine GoO.go rfl rfl rfl rfl ?_ | refine GoO.ld h0 rfl rfl rfl rfl ?_ | refine GoO.ld h1 rfl rfl rfl rfl ?_ | refine GoO.ld h2 rfl rfl rfl rfl ?_ | refine GoO.cmp rfl rfl rfl rfl rfl ?_ | refine GoO.off rfl rfl ?_ | refine GoO.nil ?_ | refine GoF.seq ?_ | refine GoF.region ?_ | refine GoF.skip ?_ | refine GoF.block ?_)
    exact GoF.ret ⟨rfl, rfl⟩
  have n6 : ¬ F.op = 6 := of_decide_eq_false h
  refine GoF.seq (GoF.region ?_)
  refine GoO.bin (b := .i .u8 (Int.ofNat 7)) rfl rfl rfl rfl bin_eqk ?_
  repeat (first | refine GoO.go rfl rfl rfl rfl ?_ | refine GoO.ld h0 rfl rfl rfl rfl ?_ | refine GoO.ld h1 rfl rfl rfl rfl ?_ | refine GoO.ld h2 rfl rfl rfl rfl ?_ | refine GoO.cmp rfl rfl rfl rfl rfl ?_ | refine GoO.off rfl rfl ?_ | refine GoO.nil ?_)
  refine GoF.cnd rfl (fun h => ?_) (fun h => ?_)
  · have hop : F.op = 7 := of_decide_eq_true h
    rw [hop]
    refine GoF.seq (GoF.region ?_)
    repeat (first | refine GoO.go rfl rfl rfl rfl ?_ | refine GoO.ld h0 rfl rfl rfl rfl ?_ | refine GoO.ld h1 rfl rfl rfl rfl ?_ | refine GoO.ld h2 rfl rfl rfl rfl ?_ | refine GoO.cmp rfl rfl rfl rfl rfl ?_ | refine GoO.off rfl rfl ?_ | refine GoO.nil ?_)
    refine GoO.known KP.fn hB.e_all hB.p_all (KP.all p hp) rfl rfl rfl (snaps1 (p.snp.le (by omega) σ)) ?_
    repeat (first | refine GoO.go rfl rfl rfl rfl ?_ | refine GoO.ld h0 rfl rfl rfl rfl ?_ | refine GoO.ld h1 rfl rfl rfl rfl ?_ | refine GoO.ld h2 rfl rfl rfl rfl ?_ | refine GoO.cmp rfl rfl rfl rfl rfl ?_ | refine GoO.off rfl rfl ?_ | refine GoO.nil ?_)
    refine GoO.bin rfl rfl rfl rfl (bin_xor ha63 hb63) ?_
    refine GoO.bin rfl rfl rfl rfl (bin_andNot hl63 (Nat.lt_trans (Nat.xor_lt_two_pow ha hb2) h63)) ?_
    refine GoO.run rfl rfl rfl hB.e_hold1 hB.p_hold1 hB.f_hold1 rfl rfl rfl rfl ((hc1 _ (andN_le _ _ hall) _ rfl).mono fun y f σ' ⟨e1, e2, e3⟩ => ⟨e1, ?_⟩)
    subst e3
    rw [e2]
    repeat (first | refine GoO.go rfl rfl rfl rfl ?_ | refine GoO.ld h0 rfl rfl rfl rfl ?_ | refine GoO.ld h1 rfl rfl rfl rfl ?_ | refine GoO.ld h2 rfl rfl rfl rfl ?_ | refine GoO.cmp rfl rfl rfl rfl rfl ?_ | refine GoO.off rfl rfl ?_ | refine GoO.nil ?_ | refine GoF.seq ?_ | refine GoF.region ?_ | refine GoF.skip ?_ | refine GoF.block ?_)
    exact GoF.ret ⟨rfl, rfl⟩
  have n7 : ¬ F.op = 7 := of_decide_eq_false h
  refine GoF.cut [(3, .p (some (0, 0))), (4, .p (some (1, 0))), (5, .p (some (2, 0))), (6, nI 0), (7, nI a), (8, nI bb), (9, .f (.func n_hold1) [] [.p (some (0, 0))]), (36, .i .u8 (Int.ofNat F.op)), (83, .b (decide (F.op = 10 ∨ F.op = 12)))] ?_ fun g => ?_
  · refine GoF.seq (GoF.region ?_)
    refine GoO.bin (b := .i .u8 (Int.ofNat 10)) rfl rfl rfl rfl bin_eqk ?_
    repeat (first | refine GoO.go rfl rfl rfl rfl ?_ | refine GoO.ld h0 rfl rfl rfl rfl ?_ | refine GoO.ld h1 rfl rfl rfl rfl ?_ | refine GoO.ld h2 rfl rfl rfl rfl ?_ | refine GoO.cmp rfl rfl rfl rfl rfl ?_ | refine GoO.off rfl rfl ?_ | refine GoO.nil ?_)
    refine GoF.cnd rfl (fun h => ?_) (fun h => ?_)
    · have hop : F.op = 10 := of_decide_eq_true h
      refine GoF.skip ⟨rfl, rfl, rfl, rfl, rfl, rfl, rfl, rfl, rfl, rfl, ?_, trivial⟩
      show AV.b (decide (F.op = 10)) = _
      simp [hop]
    · have hop : ¬ F.op = 10 := of_decide_eq_false h
      refine GoF.region ?_
      refine GoO.bin (b := .i .u8 (Int.ofNat 12)) rfl rfl rfl rfl bin_eqk ?_
      repeat (first | refine GoO.go rfl rfl rfl rfl ?_ | refine GoO.ld h0 rfl rfl rfl rfl ?_ | refine GoO.ld h1 rfl rfl rfl rfl ?_ | refine GoO.ld h2 rfl rfl rfl rfl ?_ | refine GoO.cmp rfl rfl rfl rfl rfl ?_ | refine GoO.off rfl rfl ?_ | refine GoO.nil ?_)
      refine ⟨rfl, rfl, rfl, rfl, rfl, rfl, rfl, rfl, rfl, rfl, ?_, trivial⟩
      show AV.b (decide (F.op = 12)) = _
      simp [hop]
  refine GoF.cnd rfl (fun h => ?_) (fun h => ?_)
  · have hop : F.op = 10 ∨ F.op = 12 := of_decide_eq_true h
    have e : opN p F.op (s.get (F.name.getD 1 0 - 65)) a bb = laterN p a := by rcases hop with hop | hop <;> rw [hop] <;> rfl
    rw [e]
    repeat (first | refine GoO.go rfl rfl rfl rfl ?_ | refine GoO.ld h0 rfl rfl rfl rfl ?_ | refine GoO.ld h1 rfl rfl rfl rfl ?_ | refine GoO.ld h2 rfl rfl rfl rfl ?_ | refine GoO.cmp rfl rfl rfl rfl rfl ?_ | refine GoO.off rfl rfl ?_ | refine GoO.nil ?_ | refine GoF.seq ?_ | refine GoF.region ?_ | refine GoF.skip ?_ | refine GoF.block ?_)
    refine GoO.known KP.fn hB.e_later hB.p_later (KP.later p hp a ha) rfl rfl rfl (snaps2 (p.snp.le (by omega) σ) rfl) ?_
    repeat (first | refine GoO.go rfl rfl rfl rfl ?_ | refine GoO.ld h0 rfl rfl rfl rfl ?_ | refine GoO.ld h1 rfl rfl rfl rfl ?_ | refine GoO.ld h2 rfl rfl rfl rfl ?_ | refine GoO.cmp rfl rfl rfl rfl rfl ?_ | refine GoO.off rfl rfl ?_ | refine GoO.nil ?_ | refine GoF.seq ?_ | refine GoF.region ?_ | refine GoF.skip ?_ | refine GoF.block ?_)
    exact GoF.ret ⟨rfl, rfl⟩
  have n1012 : ¬ (F.op = 10 ∨ F.op = 12) := of_decide_eq_false h
  refine GoF.seq (GoF.region ?_)
  refine GoO.bin (b := .i .u8 (Int.ofNat 11)) rfl rfl rfl rfl bin_eqk ?_
  repeat (first | refine GoO.go rfl rfl rfl rfl ?_ | refine GoO.ld h0 rfl rfl rfl rfl ?_ | refine GoO.ld h1 rfl rfl rfl rfl ?_ | refine GoO.ld h2 rfl rfl rfl rfl ?_ | refine GoO.cmp rfl rfl rfl rfl rfl ?_ | refine GoO.off rfl rfl ?_ | refine GoO.nil ?_)
  refine GoF.cnd rfl (fun h => ?_) (fun h => ?_)
  · have hop : F.op = 11 := of_decide_eq_true h
    rw [hop]
    refine GoF.seq (GoF.draw rfl rfl ?_)
    repeat (first | refine GoP.go rfl rfl rfl rfl ?_ | refine GoP.ld h0 rfl rfl rfl rfl ?_ | refine GoP.ld h1 rfl rfl rfl rfl ?_ | refine GoP.ld h2 rfl rfl rfl rfl ?_ | refine GoP.cmp rfl rfl rfl rfl rfl ?_ | refine GoP.off rfl rfl ?_ | refine GoP.nil ?_)
    refine GoP.ldw h0 rfl rfl rfl rfl (Snp.eqb 60 _ (p.snp.le (by omega))) ?_
    refine GoP.ldw h0 rfl rfl rfl rfl (Snp.eqb 60 _ (p.snp.le (by omega))) ?_
    repeat (first | refine GoP.go rfl rfl rfl rfl ?_ | refine GoP.ld h0 rfl rfl rfl rfl ?_ | refine GoP.ld h1 rfl rfl rfl rfl ?_ | refine GoP.ld h2 rfl rfl rfl rfl ?_ | refine GoP.cmp rfl rfl rfl rfl rfl ?_ | refine GoP.off rfl rfl ?_ | refine GoP.nil ?_)
    refine GoP.known KP.fn hB.e_all hB.p_all (KP.all p hp) rfl rfl rfl (snaps1 (p.snp.le (by omega) σ)) ?_
    refine GoP.known KP.fn hB.e_all hB.p_all (KP.all p hp) rfl rfl rfl (snaps1 (p.snp.le (by omega) σ)) ?_
    refine GoP.bin rfl rfl rfl rfl (bin_andNot hl63 ha63) ?_
    refine GoP.known KP.fn hB.e_later hB.p_later (KP.later p hp _ hnot) rfl rfl rfl (snaps2 (p.snp.le (by omega) σ) rfl) ?_
    refine GoP.bin rfl rfl rfl rfl (bin_andNot hl63 (Nat.lt_trans (laterN_lt p _) h63)) ?_
    repeat (first | refine GoP.go rfl rfl rfl rfl ?_ | refine GoP.ld h0 rfl rfl rfl rfl ?_ | refine GoP.ld h1 rfl rfl rfl rfl ?_ | refine GoP.ld h2 rfl rfl rfl rfl ?_ | refine GoP.cmp rfl rfl rfl rfl rfl ?_ | refine GoP.off rfl rfl ?_ | refine GoP.nil ?_)
    exact GoF.ret ⟨rfl, rfl⟩
  have n11 : ¬ F.op = 11 := of_decide_eq_false h
  refine GoF.seq (GoF.region ?_)
  refine GoO.bin (b := .i .u8 (Int.ofNat 13)) rfl rfl rfl rfl bin_eqk ?_
  repeat (first | refine GoO.go rfl rfl rfl rfl ?_ | refine GoO.ld h0 rfl rfl rfl rfl ?_ | refine GoO.ld h1 rfl rfl rfl rfl ?_ | refine GoO.ld h2 rfl rfl rfl rfl ?_ | refine GoO.cmp rfl rfl rfl rfl rfl ?_ | refine GoO.off rfl rfl ?_ | refine GoO.nil ?_)
  refine GoF.cnd rfl (fun h => ?_) (fun h => ?_)
  · have hop : F.op = 13 := of_decide_eq_true h
    rw [hop]
    repeat (first | refine GoO.go rfl rfl rfl rfl ?_ | refine GoO.ld h0 rfl rfl rfl rfl ?_ | refine GoO.ld h1 rfl rfl rfl rfl ?_ | refine GoO.ld h2 rfl rfl rfl rfl ?_ | refine GoO.cmp rfl rfl rfl rfl rfl ?_ | refine GoO.off rfl rfl ?_ | refine GoO.nil ?_ | refine GoF.seq ?_ | refine GoF.region ?_ | refine GoF.skip ?_ | refine GoF.block ?_)
    refine GoF.loop (fun m f σ' => σ' = σ ∧ ∃ k, k + m = p.n ∧ sat [(3, .p (some (0, 0))), (10, nI (alwaysN p a k)), (104, nI p.n), (105, nI k)] f) ?_ p.n ⟨rfl, 0, by omega, rfl, rfl, rfl, rfl, trivial⟩
    intro m g σ' ⟨e1, k, hk, hL⟩
    rw [e1]
    clear e1 σ'
    refine GoF.norm _ hL fun g => ?_
    clear hL
    have hak := alwaysN_lt ha k
    repeat (first | refine GoO.go rfl rfl rfl rfl ?_ | refine GoO.ld h0 rfl rfl rfl rfl ?_ | refine GoO.ld h1 rfl rfl rfl rfl ?_ | refine GoO.ld h2 rfl rfl rfl rfl ?_ | refine GoO.cmp rfl rfl rfl rfl rfl ?_ | refine GoO.off rfl rfl ?_ | refine GoO.nil ?_ | refine GoF.seq ?_ | refine GoF.region ?_ | refine GoF.skip ?_ | refine GoF.block ?_)
    refine GoF.cnd rfl (fun ht => ?_) (fun hf => ?_)
    · have hlt : k < p.n := of_decide_eq_true ht
      repeat (first | refine GoO.go rfl rfl rfl rfl ?_ | refine GoO.ld h0 rfl rfl rfl rfl ?_ | refine GoO.ld h1 rfl rfl rfl rfl ?_ | refine GoO.ld h2 rfl rfl rfl rfl ?_ | refine GoO.cmp rfl rfl rfl rfl rfl ?_ | refine GoO.off rfl rfl ?_ | refine GoO.nil ?_ | refine GoF.seq ?_ | refine GoF.region ?_ | refine GoF.skip ?_ | refine GoF.block ?_)
      refine GoO.known KP.fn hB.e_later hB.p_later (KP.later p hp _ hak) rfl rfl rfl (snaps2 (p.snp.le (by omega) σ) rfl) ?_
      refine GoO.bin rfl rfl rfl rfl (bin_and (Nat.lt_trans hak h63) (Nat.lt_trans (laterN_lt p _) h63)) ?_
      repeat (first | refine GoO.go rfl rfl rfl rfl ?_ | refine GoO.ld h0 rfl rfl rfl rfl ?_ | refine GoO.ld h1 rfl rfl rfl rfl ?_ | refine GoO.ld h2 rfl rfl rfl rfl ?_ | refine GoO.cmp rfl rfl rfl rfl rfl ?_ | refine GoO.off rfl rfl ?_ | refine GoO.nil ?_ | refine GoF.seq ?_ | refine GoF.region ?_ | refine GoF.skip ?_ | refine GoF.block ?_)
      refine GoO.bin (a := nI k) (b := nI 1) rfl rfl rfl rfl (bin_add (by omega)) ?_
      repeat (first | refine GoO.go rfl rfl rfl rfl ?_ | refine GoO.ld h0 rfl rfl rfl rfl ?_ | refine GoO.ld h1 rfl rfl rfl rfl ?_ | refine GoO.ld h2 rfl rfl rfl rfl ?_ | refine GoO.cmp rfl rfl rfl rfl rfl ?_ | refine GoO.off rfl rfl ?_ | refine GoO.nil ?_ | refine GoF.seq ?_ | refine GoF.region ?_ | refine GoF.skip ?_ | refine GoF.block ?_)
      exact ⟨m - 1, by omega, rfl, k + 1, by omega, rfl, rfl, rfl, rfl, trivial⟩
    · have hge : ¬ k < p.n := of_decide_eq_false hf
      obtain rfl : k = p.n := by omega
      refine GoF.exit ?_
      repeat (first | refine GoO.go rfl rfl rfl rfl ?_ | refine GoO.ld h0 rfl rfl rfl rfl ?_ | refine GoO.ld h1 rfl rfl rfl rfl ?_ | refine GoO.ld h2 rfl rfl rfl rfl ?_ | refine GoO.cmp rfl rfl rfl rfl rfl ?_ | refine GoO.off rfl rfl ?_ | refine GoO.nil ?_ | refine GoF.seq ?_ | refine GoF.region ?_ | refine GoF.skip ?_ | refine GoF.block ?_)
      exact GoF.ret ⟨rfl, rfl⟩
  have n13 : ¬ F.op = 13 := of_decide_eq_false h
  refine GoF.seq (GoF.region ?_)
  refine GoO.bin (b := .i .u8 (Int.ofNat 14)) rfl rfl rfl rfl bin_eqk ?_
  repeat (first | refine GoO.go rfl rfl rfl rfl ?_ | refine GoO.ld h0 rfl rfl rfl rfl ?_ | refine GoO.ld h1 rfl rfl rfl rfl ?_ | refine GoO.ld h2 rfl rfl rfl rfl ?_ | refine GoO.cmp rfl rfl rfl rfl rfl ?_ | refine GoO.off rfl rfl ?_ | refine GoO.nil ?_)
  refine GoF.cnd rfl (fun h => ?_) (fun h => ?_)
  · have hop : F.op = 14 := of_decide_eq_true h
    rw [hop]
    repeat (first | refine GoO.go rfl rfl rfl rfl ?_ | refine GoO.ld h0 rfl rfl rfl rfl ?_ | refine GoO.ld h1 rfl rfl rfl rfl ?_ | refine GoO.ld h2 rfl rfl rfl rfl ?_ | refine GoO.cmp rfl rfl rfl rfl rfl ?_ | refine GoO.off rfl rfl ?_ | refine GoO.nil ?_ | refine GoF.seq ?_ | refine GoF.region ?_ | refine GoF.skip ?_ | refine GoF.block ?_)
    refine GoF.loop (fun m f σ' => σ' = σ ∧ ∃ k, k + m = p.n ∧ sat [(3, .p (some (0, 0))), (7, nI a), (11, nI (untilN p a bb k)), (118, nI p.n), (119, nI k)] f) ?_ p.n ⟨rfl, 0, by omega, rfl, rfl, rfl, rfl, rfl, trivial⟩
    intro m g σ' ⟨e1, k, hk, hL⟩
    rw [e1]
    clear e1 σ'
    refine GoF.norm _ hL fun g => ?_
    clear hL
    have hak := untilN_lt ha hb2 k
    repeat (first | refine GoO.go rfl rfl rfl rfl ?_ | refine GoO.ld h0 rfl rfl rfl rfl ?_ | refine GoO.ld h1 rfl rfl rfl rfl ?_ | refine GoO.ld h2 rfl rfl rfl rfl ?_ | refine GoO.cmp rfl rfl rfl rfl rfl ?_ | refine GoO.off rfl rfl ?_ | refine GoO.nil ?_ | refine GoF.seq ?_ | refine GoF.region ?_ | refine GoF.skip ?_ | refine GoF.block ?_)
    refine GoF.cnd rfl (fun ht => ?_) (fun hf => ?_)
    · have hlt : k < p.n := of_decide_eq_true ht
      repeat (first | refine GoO.go rfl rfl rfl rfl ?_ | refine GoO.ld h0 rfl rfl rfl rfl ?_ | refine GoO.ld h1 rfl rfl rfl rfl ?_ | refine GoO.ld h2 rfl rfl rfl rfl ?_ | refine GoO.cmp rfl rfl rfl rfl rfl ?_ | refine GoO.off rfl rfl ?_ | refine GoO.nil ?_ | refine GoF.seq ?_ | refine GoF.region ?_ | refine GoF.skip ?_ | refine GoF.block ?_)
      refine GoO.known KP.fn hB.e_later hB.p_later (KP.later p hp _ hak) rfl rfl rfl (snaps2 (p.snp.le (by omega) σ) rfl) ?_
      refine GoO.bin rfl rfl rfl rfl (bin_and ha63 (Nat.lt_trans (laterN_lt p _) h63)) ?_
      refine GoO.bin rfl rfl rfl rfl (bin_or (Nat.lt_trans hak h63) (Nat.lt_trans (and_lt ha) h63)) ?_
      repeat (first | refine GoO.go rfl rfl rfl rfl ?_ | refine GoO.ld h0 rfl rfl rfl rfl ?_ | refine GoO.ld h1 rfl rfl rfl rfl ?_ | refine GoO.ld h2 rfl rfl rfl rfl ?_ | refine GoO.cmp rfl rfl rfl rfl rfl ?_ | refine GoO.off rfl rfl ?_ | refine GoO.nil ?_ | refine GoF.seq ?_ | refine GoF.region ?_ | refine GoF.skip ?_ | refine GoF.block ?_)
      refine GoO.bin (a := nI k) (b := nI 1) rfl rfl rfl rfl (bin_add (by omega)) ?_
      repeat (first | refine GoO.go rfl rfl rfl rfl ?_ | refine GoO.ld h0 rfl rfl rfl rfl ?_ | refine GoO.ld h1 rfl rfl rfl rfl ?_ | refine GoO.ld h2 rfl rfl rfl rfl ?_ | refine GoO.cmp rfl rfl rfl rfl rfl ?_ | refine GoO.off rfl rfl ?_ | refine GoO.nil ?_ | refine GoF.seq ?_ | refine GoF.region ?_ | refine GoF.skip ?_ | refine GoF.block ?_)
      exact ⟨m - 1, by omega, rfl, k + 1, by omega, rfl, rfl, rfl, rfl, rfl, trivial⟩
    · have hge : ¬ k < p.n := of_decide_eq_false hf
      obtain rfl : k = p.n := by omega
      refine GoF.exit ?_
      repeat (first | refine GoO.go rfl rfl rfl rfl ?_ | refine GoO.ld h0 rfl rfl rfl rfl ?_ | refine GoO.ld h1 rfl rfl rfl rfl ?_ | refine GoO.ld h2 rfl rfl rfl rfl ?_ | refine GoO.cmp rfl rfl rfl rfl rfl ?_ | refine GoO.off rfl rfl ?_ | refine GoO.nil ?_ | refine GoF.seq ?_ | refine GoF.region ?_ | refine GoF.skip ?_ | refine GoF.block ?_)
      exact GoF.ret ⟨rfl, rfl⟩
  have n14 : ¬ F.op = 14 := of_decide_eq_false h
  have e : opN p F.op (s.get (F.name.getD 1 0 - 65)) a bb = 0 := by unfold opN; simp only [n15, n3, n4, n5, n6, n7, n1012, n11, n13, n14, if_false]
  rw [e]
  repeat (first | refine GoO.go rfl rfl rfl rfl ?_ | refine GoO.ld h0 rfl rfl rfl rfl ?_ | refine GoO.ld h1 rfl rfl rfl rfl ?_ | refine GoO.ld h2 rfl rfl rfl rfl ?_ | refine GoO.cmp rfl rfl rfl rfl rfl ?_ | refine GoO.off rfl rfl ?_ | refine GoO.nil ?_ | refine GoF.seq ?_ | refine GoF.region ?_ | refine GoF.skip ?_ | refine GoF.block ?_)
  exact GoF.ret ⟨rfl, rfl⟩
end
end Go.Lyc
