/-
  What places computes: walks. No conditions: laws of these functions' code.
-/
import Derived.Test.YtbifkbdapfadfaaGreatDoorNames
set_option linter.all false
noncomputable section
namespace Go.Lyc
open Go.RowKit Go.Lyc.T

structure BP (b : Base) : Prop where
  f_places : b.funcs.get n_places = some c_places
  f_places1 : b.funcs.get n_places1 = some c_places1
  p_places1 : b.pure n_places1 = false
  e_places1 : b.ext n_places1 = 0
section
variable {b : Base} (hB : BP b) {K : Nat → List AV → AV → Prop}
theorem places1_go (n code x y z a0 : Nat) (hx : x < n) (hn : n ≤ 3) (hy : y ≤ 3) (σ : St) (h1 : σ.get z = some (.cells [.sl a0 0 n none (some n)])) (h2 : σ.get a0 = some (.cells ((List.range n).map fun w => nI (seesN n code w)))) (body : ACode) (hb : c_places1.body = some body) :
    GoF (b.envK K) 14 body (argF [nI x, nI y, .p (some (z, 0))]) σ (fun e f σ' => e = .ret ∧ f 5 = .b (seeB n code x y) ∧ σ' = σ) := by
  cases hb
  have hl := seesN_lt n code x
  have h63 : 2 ^ n < 2 ^ 63 := Nat.pow_lt_pow_right (by omega) (by omega)
  repeat (first | refine GoO.go rfl rfl rfl rfl ?_ | refine GoO.ld h1 rfl rfl rfl rfl ?_ | refine GoO.cmp rfl rfl rfl rfl rfl ?_ | refine GoO.off rfl rfl ?_ | refine GoO.nil ?_ | refine GoF.seq ?_ | refine GoF.region ?_ | refine GoF.skip ?_ | refine GoF.block ?_)
  refine GoO.idx (j := x) rfl rfl rfl rfl (idxSlA_sl (σ := σ) hx) ?_
  refine GoO.ld h2 rfl rfl rfl (seen_ld n code x hx) ?_
  repeat (first | refine GoO.go rfl rfl rfl rfl ?_ | refine GoO.ld h1 rfl rfl rfl rfl ?_ | refine GoO.cmp rfl rfl rfl rfl rfl ?_ | refine GoO.off rfl rfl ?_ | refine GoO.nil ?_ | refine GoF.seq ?_ | refine GoF.region ?_ | refine GoF.skip ?_ | refine GoF.block ?_)
  refine GoO.bin (a := nI (seesN n code x)) (b := nI y) rfl rfl rfl rfl (bin_shr (by omega)) ?_
  refine GoO.bin (b := nI 1) rfl rfl rfl rfl (bin_and (Nat.lt_of_le_of_lt (Nat.div_le_self _ _) (by omega)) (by omega)) ?_
  refine GoO.bin (b := nI 1) rfl rfl rfl rfl bin_eqk ?_
  repeat (first | refine GoO.go rfl rfl rfl rfl ?_ | refine GoO.ld h1 rfl rfl rfl rfl ?_ | refine GoO.cmp rfl rfl rfl rfl rfl ?_ | refine GoO.off rfl rfl ?_ | refine GoO.nil ?_ | refine GoF.seq ?_ | refine GoF.region ?_ | refine GoF.skip ?_ | refine GoF.block ?_)
  exact GoF.ret ⟨rfl, rfl, rfl⟩

/-- What has been put out. -/
def OutR (n kind : Nat) (σ : St) (v : AV) (ps : List (Nat × Nat)) : Prop :=
  Acc σ (some 3) v (ps.map fun x => .ag [nI n, .sl x.2 0 n none (some n), .i .u8 (Int.ofNat kind)]) ∧ (∀ x ∈ ps, σ.get x.2 = some (.cells ((List.range n).map fun w => nI (seesN n x.1 w)))) ∧ ∀ x ∈ ps, v.at? ≠ some x.2
theorem OutR.keep {n kind : Nat} {σ σ' : St} {v : AV} {ps : List (Nat × Nat)} (h : OutR n kind σ v ps) (hk : ∀ i o, σ.get i = some o → σ'.get i = some o) : OutR n kind σ' v ps :=
  ⟨h.1.keep fun i o _ ho => hk i o ho, fun x hx => hk _ _ (h.2.1 x hx), h.2.2⟩

include hB in
set_option maxHeartbeats 0 in
theorem places_go (l : SLg) (n : Nat) (hn : n ≤ 3) (hkd : l.kind = 3 ∨ l.kind = 4) (hfr : l.frame < 8) (body : ACode) (hb : c_places.body = some body) :
    GoF (b.envK K) 202 body (argF [l.A, nI n]) ⟨.nil, 0⟩ (fun x f σ' => x = .ret ∧ freeze σ' 0 60 (f 4) = some (slA false (some 3) ((placesN l.kind l.frame n).map fun p => .ag (p.cells false)))) := by
  cases hb
  have hnn : n * n ≤ 9 := Nat.le_trans (Nat.mul_le_mul hn hn) (by omega)
  have hp9 : 2 ^ (n * n) ≤ 2 ^ 9 := Nat.pow_le_pow_right (by omega) hnn
  refine GoF.seq (GoF.region (GoO.box (v := l.A) (c := l.cells) 0 rfl rfl rfl rfl rfl rfl fun σ hn0 h0 _ => ?_))
  repeat (first | refine GoO.go rfl rfl rfl rfl ?_ | refine GoO.ld h0 rfl rfl rfl rfl ?_ | refine GoO.cmp rfl rfl rfl rfl rfl ?_ | refine GoO.off rfl rfl ?_ | refine GoO.nil ?_)
  refine GoF.seq (GoF.region ?_)
  repeat (first | refine GoO.go rfl rfl rfl rfl ?_ | refine GoO.ld h0 rfl rfl rfl rfl ?_ | refine GoO.cmp rfl rfl rfl rfl rfl ?_ | refine GoO.off rfl rfl ?_ | refine GoO.nil ?_)
  refine GoF.cut [(1, nI n), (2, .p (some (0, 0))), (5, .nilsl)] ?_ fun g => ?_
  · refine GoF.seq (GoF.region ?_)
    repeat (first | refine GoO.go rfl rfl rfl rfl ?_ | refine GoO.ld h0 rfl rfl rfl rfl ?_ | refine GoO.cmp rfl rfl rfl rfl rfl ?_ | refine GoO.off rfl rfl ?_ | refine GoO.nil ?_)
    refine GoF.block ?_
    refine GoF.cut [(1, nI n), (2, .p (some (0, 0))), (5, .nilsl), (20, .i .u8 (Int.ofNat l.kind)), (21, .b false)] ?_ fun g => ?_
    · refine GoF.seq (GoF.region ?_)
      refine GoO.bin (a := .i .u8 (Int.ofNat l.kind)) (b := .i .u8 (Int.ofNat 1)) rfl rfl rfl rfl bin_eqk ?_
      repeat (first | refine GoO.go rfl rfl rfl rfl ?_ | refine GoO.ld h0 rfl rfl rfl rfl ?_ | refine GoO.cmp rfl rfl rfl rfl rfl ?_ | refine GoO.off rfl rfl ?_ | refine GoO.nil ?_)
      refine GoF.cnd rfl (fun h => absurd (of_decide_eq_true h) (by omega)) (fun _ => ?_)
      refine GoF.region ?_
      refine GoO.bin (a := .i .u8 (Int.ofNat l.kind)) (b := .i .u8 (Int.ofNat 2)) (v := .b false) rfl rfl rfl rfl (by rw [bin_eqk, decide_eq_false (by omega)]) ?_
      repeat (first | refine GoO.go rfl rfl rfl rfl ?_ | refine GoO.ld h0 rfl rfl rfl rfl ?_ | refine GoO.cmp rfl rfl rfl rfl rfl ?_ | refine GoO.off rfl rfl ?_ | refine GoO.nil ?_)
      exact ⟨rfl, rfl, rfl, rfl, rfl, rfl, rfl, trivial⟩
    refine GoF.cnd rfl (fun h => by cases h) (fun _ => ?_)
    refine GoF.seq (GoF.region ?_)
    refine GoO.bin (a := .i .u8 (Int.ofNat l.kind)) (b := .i .u8 (Int.ofNat 5)) (v := .b false) rfl rfl rfl rfl (by rw [bin_eqk, decide_eq_false (by omega)]) ?_
    repeat (first | refine GoO.go rfl rfl rfl rfl ?_ | refine GoO.ld h0 rfl rfl rfl rfl ?_ | refine GoO.cmp rfl rfl rfl rfl rfl ?_ | refine GoO.off rfl rfl ?_ | refine GoO.nil ?_)
    refine GoF.cnd rfl (fun h => by cases h) (fun _ => ?_)
    exact GoF.skip ⟨rfl, rfl, rfl, rfl, rfl, trivial⟩
  refine GoF.seq (GoF.seq (GoF.region ?_))
  repeat (first | refine GoO.go rfl rfl rfl rfl ?_ | refine GoO.ld h0 rfl rfl rfl rfl ?_ | refine GoO.cmp rfl rfl rfl rfl rfl ?_ | refine GoO.off rfl rfl ?_ | refine GoO.nil ?_)
  refine GoO.bin (a := nI n) (b := nI n) rfl rfl rfl rfl (bin_mul (by omega)) ?_
  refine GoO.bin (a := nI 1) (b := nI (n * n)) rfl rfl rfl rfl (bin_shl1 (by omega)) ?_
  repeat (first | refine GoO.go rfl rfl rfl rfl ?_ | refine GoO.ld h0 rfl rfl rfl rfl ?_ | refine GoO.cmp rfl rfl rfl rfl rfl ?_ | refine GoO.off rfl rfl ?_ | refine GoO.nil ?_)
  refine GoF.block ?_
  generalize hfe : (if l.kind = 3 then 3 else l.frame) = fr
  have hfr8 : fr < 8 := by rw [← hfe]; split <;> omega
  refine GoF.loop (fun m f σ' => 1 ≤ σ'.next ∧ σ'.get 0 = some (.cells l.cells) ∧ ∃ c v ps, c + m = 2 ^ (n * n) ∧ OutR n l.kind σ' v ps ∧ v.at? ≠ some 0 ∧ ps.length ≤ c ∧ ps.map (·.1) ++ codesN l.kind fr n m c = codesN l.kind fr n (2 ^ (n * n)) 0 ∧
    sat [(1, nI n), (2, .p (some (0, 0))), (5, v), (66, nI (2 ^ (n * n))), (67, nI c)] f) ?_ (2 ^ (n * n))
    ⟨by omega, h0, 0, .nilsl, [], by omega, ⟨.nil, by simp, by simp⟩, by simp [AV.at?], by simp, rfl, rfl, rfl, rfl, rfl, rfl, trivial⟩
  clear h0 hn0
  intro m g σ ⟨hn0, h0, c, v, ps, hc, hO, hv0, hpl, hcodes, hL⟩
  refine GoF.norm _ hL fun g => ?_
  clear hL
  repeat (first | refine GoO.go rfl rfl rfl rfl ?_ | refine GoO.ld h0 rfl rfl rfl rfl ?_ | refine GoO.cmp rfl rfl rfl rfl rfl ?_ | refine GoO.off rfl rfl ?_ | refine GoO.nil ?_ | refine GoF.seq ?_ | refine GoF.region ?_ | refine GoF.skip ?_ | refine GoF.block ?_)
  refine GoF.cnd rfl (fun ht => ?_) (fun hf => ?_)
  · have hlt : c < 2 ^ (n * n) := of_decide_eq_true ht
    refine GoF.skip (GoF.seq (GoF.block (GoF.seq (GoF.region ?_))))
    repeat (first | refine GoO.go rfl rfl rfl rfl ?_ | refine GoO.ld h0 rfl rfl rfl rfl ?_ | refine GoO.cmp rfl rfl rfl rfl rfl ?_ | refine GoO.off rfl rfl ?_ | refine GoO.nil ?_)
    refine GoF.seq (GoF.region ?_)
    repeat (first | refine GoO.go rfl rfl rfl rfl ?_ | refine GoO.ld h0 rfl rfl rfl rfl ?_ | refine GoO.cmp rfl rfl rfl rfl rfl ?_ | refine GoO.off rfl rfl ?_ | refine GoO.nil ?_)
    generalize hk : σ.next = k at hn0
    refine GoO.mkSlice (a := n) (m := n) k hk rfl rfl rfl rfl ⟨Nat.le_refl _, by omega, by omega⟩ (fillC_zero n c hn) fun σ1 hn1 h1 k1 => ?_
    refine GoO.var (v := .sl k 0 n none (some n)) (c := [.sl k 0 n none (some n)]) (k + 1) hn1 rfl rfl rfl rfl rfl rfl fun σ2 hn2 h2 k2 => ?_
    replace h1 := k2 _ _ h1
    have hkeep : ∀ i o, σ.get i = some o → σ2.get i = some o := fun i o ho => k2 _ _ (k1 _ _ ho)
    have hold : ∀ i o, σ.get i = some o → i < k := fun i o ho => by have := St.get_lt ho; omega
    clear k1 k2 hn1 σ1
    refine GoO.nil ?_
    refine GoF.cut' [(1, nI n), (2, .p (some (0, 0))), (5, v), (10, nI c), (11, .p (some (k + 1, 0))), (66, nI (2 ^ (n * n))), (67, nI c)] (fun σ' => σ'.next = k + 2 ∧ (∀ i o, σ.get i = some o → σ'.get i = some o) ∧ σ'.get k = some (.cells ((List.range n).map fun w => nI (seesN n c w))) ∧ σ'.get (k + 1) = some (.cells [.sl k 0 n none (some n)])) ?_ ?_
    · refine GoF.seq (GoF.region ?_)
      repeat (first | refine GoO.go rfl rfl rfl rfl ?_ | refine GoO.ld h0 rfl rfl rfl rfl ?_ | refine GoO.cmp rfl rfl rfl rfl rfl ?_ | refine GoO.off rfl rfl ?_ | refine GoO.nil ?_)
      refine GoF.block ?_
      refine GoF.loop (fun m f σ' => σ'.next = k + 2 ∧ (∀ i o, σ.get i = some o → σ'.get i = some o) ∧ σ'.get (k + 1) = some (.cells [.sl k 0 n none (some n)]) ∧ ∃ w, w + m = n ∧ σ'.get k = some (.cells (fillC n c w)) ∧
        sat [(1, nI n), (2, .p (some (0, 0))), (5, v), (10, nI c), (11, .p (some (k + 1, 0))), (66, nI (2 ^ (n * n))), (67, nI c), (72, nI n), (73, nI w)] f) ?_ n
        ⟨hn2, hkeep, h2, 0, by omega, h1, rfl, rfl, rfl, rfl, rfl, rfl, rfl, rfl, rfl, trivial⟩
      clear hn2 hkeep h1 h2 σ2
      intro m' g τ ⟨hn2, hkeep, h2, w, hw, h1, hL⟩
      refine GoF.norm _ hL fun g => ?_
      clear hL
      repeat (first | refine GoO.go rfl rfl rfl rfl ?_ | refine GoO.ld h2 rfl rfl rfl rfl ?_ | refine GoO.cmp rfl rfl rfl rfl rfl ?_ | refine GoO.off rfl rfl ?_ | refine GoO.nil ?_ | refine GoF.seq ?_ | refine GoF.region ?_ | refine GoF.skip ?_ | refine GoF.block ?_)
      refine GoF.cnd rfl (fun ht => ?_) (fun hf => ?_)
      · have hwlt : w < n := of_decide_eq_true ht
        have hwn : w * n ≤ 9 := Nat.le_trans (Nat.mul_le_mul (Nat.le_of_lt hwlt) (Nat.le_refl n)) hnn
        refine GoF.skip (GoF.seq (GoF.block (GoF.seq (GoF.region ?_))))
        repeat (first | refine GoO.go rfl rfl rfl rfl ?_ | refine GoO.ld h2 rfl rfl rfl rfl ?_ | refine GoO.cmp rfl rfl rfl rfl rfl ?_ | refine GoO.off rfl rfl ?_ | refine GoO.nil ?_)
        refine GoF.drawE (pre := [_, _, _, _, _, _, _, _, _, _, _, _]) rfl rfl ?_
        repeat (first | refine GoP.go rfl rfl rfl rfl ?_ | refine GoP.ld h2 rfl rfl rfl rfl ?_ | refine GoP.cmp rfl rfl rfl rfl rfl ?_ | refine GoP.off rfl rfl ?_ | refine GoP.nil ?_)
        refine GoP.bin (a := nI w) (b := nI n) rfl rfl rfl rfl (bin_mul (by omega)) ?_
        refine GoP.bin (a := nI c) (b := nI (w * n)) rfl rfl rfl rfl (bin_shr (by omega)) ?_
        repeat (first | refine GoP.go rfl rfl rfl rfl ?_ | refine GoP.ld h2 rfl rfl rfl rfl ?_ | refine GoP.cmp rfl rfl rfl rfl rfl ?_ | refine GoP.off rfl rfl ?_ | refine GoP.nil ?_)
        refine GoP.bin (a := nI 1) (b := nI n) rfl rfl rfl rfl (bin_shl1 (by omega)) ?_
        refine GoP.bin (b := nI 1) rfl rfl rfl rfl (bin_sub (Nat.two_pow_pos _) (Nat.pow_lt_pow_right (by omega) (by omega))) ?_
        refine GoP.bin rfl rfl rfl rfl (bin_and (Nat.lt_of_le_of_lt (Nat.div_le_self _ _) (by omega)) (Nat.lt_of_le_of_lt (Nat.sub_le _ _) (Nat.pow_lt_pow_right (by omega) (by omega)))) ?_
        refine GoP.idx (j := w) rfl rfl rfl rfl (idxSlA_sl (σ := τ) hwlt) ?_
        refine GoP.nil ⟨rfl, undefA, _, op_store h1 rfl rfl rfl (fillC_snoc n c w hn hwlt), ?_⟩
        have hz := set_get (o' := .cells (fillC n c (w + 1))) h1
        have hkeep' : ∀ i o, σ.get i = some o → (τ.set k (.cells (fillC n c (w + 1)))).get i = some o := fun i o ho => hz.2 i o (by have := hold i o ho; omega) (hkeep i o ho)
        refine GoF.region ?_
        refine GoO.bin (a := nI w) (b := nI 1) rfl rfl rfl rfl (bin_add (by omega)) ?_
        repeat (first | refine GoO.go rfl rfl rfl rfl ?_ | refine GoO.ld h2 rfl rfl rfl rfl ?_ | refine GoO.cmp rfl rfl rfl rfl rfl ?_ | refine GoO.off rfl rfl ?_ | refine GoO.nil ?_)
        exact ⟨m' - 1, by omega, hn2, hkeep', hz.2 _ _ (by omega) h2, w + 1, by omega, hz.1, rfl, rfl, rfl, rfl, rfl, rfl, rfl, rfl, rfl, trivial⟩
      · have hge : ¬ w < n := of_decide_eq_false hf
        obtain rfl : w = n := by omega
        exact GoF.exit ⟨rfl, ⟨hn2, hkeep, by rw [← fillC_all]; exact h1, h2⟩, rfl, rfl, rfl, rfl, rfl, rfl, rfl, trivial⟩
    clear hn2 hkeep h1 h2 σ2
    intro g τ ⟨hn2, hkeep, h1, h2⟩
    have hsee : ∀ x y, x < n → y < n → ∀ body, c_places1.body = some body → GoF (b.envK K) 14 body (argF [nI x, nI y, .p (some (k + 1, 0))]) τ (fun e f σ' => e = .ret ∧ f 5 = .b (seeB n c x y) ∧ σ' = τ) :=
      fun x y hx hy body hb => places1_go n c x y (k + 1) k hx hn (by omega) τ h2 h1 body hb
    replace h0 := hkeep _ _ h0
    refine GoF.seq (GoF.region ?_)
    repeat (first | refine GoO.go rfl rfl rfl rfl ?_ | refine GoO.ld h0 rfl rfl rfl rfl ?_ | refine GoO.cmp rfl rfl rfl rfl rfl ?_ | refine GoO.off rfl rfl ?_ | refine GoO.nil ?_)
    refine GoF.seq (GoF.region ?_)
    repeat (first | refine GoO.go rfl rfl rfl rfl ?_ | refine GoO.ld h0 rfl rfl rfl rfl ?_ | refine GoO.cmp rfl rfl rfl rfl rfl ?_ | refine GoO.off rfl rfl ?_ | refine GoO.nil ?_)
    refine GoF.cut [(1, nI n), (2, .p (some (0, 0))), (5, v), (11, .p (some (k + 1, 0))), (13, .f (.func n_places1) [] [.p (some (k + 1, 0))]), (14, .i .u8 (Int.ofNat fr)), (66, nI (2 ^ (n * n))), (67, nI c)] ?_ fun g => ?_
    · refine GoF.seq (GoF.region ?_)
      repeat (first | refine GoO.go rfl rfl rfl rfl ?_ | refine GoO.ld h0 rfl rfl rfl rfl ?_ | refine GoO.cmp rfl rfl rfl rfl rfl ?_ | refine GoO.off rfl rfl ?_ | refine GoO.nil ?_)
      refine GoF.cnd rfl (fun h => ?_) (fun h => ?_)
      · have hk3 : l.kind = 3 := of_decide_eq_true h
        rw [if_pos hk3] at hfe
        refine GoF.region ?_
        repeat (first | refine GoO.go rfl rfl rfl rfl ?_ | refine GoO.ld h0 rfl rfl rfl rfl ?_ | refine GoO.cmp rfl rfl rfl rfl rfl ?_ | refine GoO.off rfl rfl ?_ | refine GoO.nil ?_)
        exact ⟨rfl, rfl, rfl, rfl, rfl, rfl, rfl, by rw [← hfe]; rfl, rfl, rfl, trivial⟩
      · have hk3 : ¬ l.kind = 3 := of_decide_eq_false h
        rw [if_neg hk3] at hfe
        exact GoF.skip ⟨rfl, rfl, rfl, rfl, rfl, rfl, rfl, by rw [← hfe]; rfl, rfl, rfl, trivial⟩
    refine GoF.seq (GoF.region ?_)
    repeat (first | refine GoO.go rfl rfl rfl rfl ?_ | refine GoO.ld h0 rfl rfl rfl rfl ?_ | refine GoO.cmp rfl rfl rfl rfl rfl ?_ | refine GoO.off rfl rfl ?_ | refine GoO.nil ?_)
    refine GoF.cut [(1, nI n), (2, .p (some (0, 0))), (5, v), (11, .p (some (k + 1, 0))), (15, .b (okP l.kind fr n c)), (66, nI (2 ^ (n * n))), (67, nI c)] ?_ fun g => ?_
    · refine GoF.seq (GoF.region ?_)
      repeat (first | refine GoO.go rfl rfl rfl rfl ?_ | refine GoO.ld h0 rfl rfl rfl rfl ?_ | refine GoO.cmp rfl rfl rfl rfl rfl ?_ | refine GoO.off rfl rfl ?_ | refine GoO.nil ?_)
      refine GoF.block ?_
      refine GoF.loop (fun m f σ' => σ' = τ ∧ ∃ x ok, x + m = n ∧ upA l.kind fr n c m x ok = okP l.kind fr n c ∧
        sat [(1, nI n), (2, .p (some (0, 0))), (5, v), (11, .p (some (k + 1, 0))), (13, .f (.func n_places1) [] [.p (some (k + 1, 0))]), (14, .i .u8 (Int.ofNat fr)), (15, .b ok), (66, nI (2 ^ (n * n))), (67, nI c), (95, nI n), (96, nI x)] f) ?_ n
        ⟨rfl, 0, true, by omega, rfl, rfl, rfl, rfl, rfl, rfl, rfl, rfl, rfl, rfl, rfl, rfl, trivial⟩
      intro m1 g σ' ⟨e1, x, okx, hx, hokx, hL⟩
      rw [e1]; clear e1 σ'
      refine GoF.norm _ hL fun g => ?_
      clear hL
      repeat (first | refine GoO.go rfl rfl rfl rfl ?_ | refine GoO.ld h0 rfl rfl rfl rfl ?_ | refine GoO.cmp rfl rfl rfl rfl rfl ?_ | refine GoO.off rfl rfl ?_ | refine GoO.nil ?_ | refine GoF.seq ?_ | refine GoF.region ?_ | refine GoF.skip ?_ | refine GoF.block ?_)
      refine GoF.cnd rfl (fun ht => ?_) (fun hf => ?_)
      · have hxn : x < n := of_decide_eq_true ht
        obtain ⟨m1, rfl⟩ : ∃ j, m1 = j + 1 := ⟨m1 - 1, by omega⟩
        refine GoF.skip (GoF.seq (GoF.block (GoF.seq (GoF.region ?_))))
        repeat (first | refine GoO.go rfl rfl rfl rfl ?_ | refine GoO.ld h0 rfl rfl rfl rfl ?_ | refine GoO.cmp rfl rfl rfl rfl rfl ?_ | refine GoO.off rfl rfl ?_ | refine GoO.nil ?_)
        refine GoF.cut [(1, nI n), (2, .p (some (0, 0))), (5, v), (11, .p (some (k + 1, 0))), (13, .f (.func n_places1) [] [.p (some (k + 1, 0))]), (14, .i .u8 (Int.ofNat fr)), (15, .b (stA fr n c x okx)), (16, nI x), (95, nI n), (96, nI x), (66, nI (2 ^ (n * n))), (67, nI c)] ?_ fun g => ?_
        · refine GoF.region ?_
          cases okx with
          | false =>
            repeat (first | refine GoO.go rfl rfl rfl rfl ?_ | refine GoO.ld h0 rfl rfl rfl rfl ?_ | refine GoO.cmp rfl rfl rfl rfl rfl ?_ | refine GoO.off rfl rfl ?_ | refine GoO.nil ?_)
            exact ⟨rfl, rfl, rfl, rfl, rfl, rfl, rfl, rfl, congrArg AV.b (by simp only [stA, Bool.false_and] <;> rfl), rfl, rfl, rfl, rfl, rfl, trivial⟩
          | true =>
            repeat (first | refine GoO.go rfl rfl rfl rfl ?_ | refine GoO.ld h0 rfl rfl rfl rfl ?_ | refine GoO.cmp rfl rfl rfl rfl rfl ?_ | refine GoO.off rfl rfl ?_ | refine GoO.nil ?_)
            by_cases hb : fr &&& 1 = 0
            · skip
              refine GoO.bin (a := .i .u8 (Int.ofNat fr)) (b := .i .u8 (Int.ofNat 1)) rfl rfl rfl rfl (bin_and8 (by omega) (by omega)) ?_
              refine GoO.bin (a := .i .u8 (Int.ofNat (fr &&& 1))) (b := .i .u8 (Int.ofNat 0)) (v := .b true) rfl rfl rfl rfl (by rw [bin_eqk, decide_eq_true hb]) ?_
              repeat (first | refine GoO.go rfl rfl rfl rfl ?_ | refine GoO.ld h0 rfl rfl rfl rfl ?_ | refine GoO.cmp rfl rfl rfl rfl rfl ?_ | refine GoO.off rfl rfl ?_ | refine GoO.nil ?_)
              exact ⟨rfl, rfl, rfl, rfl, rfl, rfl, rfl, rfl, congrArg AV.b (by simp only [stA, decide_eq_true hb] <;> rfl), rfl, rfl, rfl, rfl, rfl, trivial⟩
            · skip
              refine GoO.bin (a := .i .u8 (Int.ofNat fr)) (b := .i .u8 (Int.ofNat 1)) rfl rfl rfl rfl (bin_and8 (by omega) (by omega)) ?_
              refine GoO.bin (a := .i .u8 (Int.ofNat (fr &&& 1))) (b := .i .u8 (Int.ofNat 0)) (v := .b false) rfl rfl rfl rfl (by rw [bin_eqk, decide_eq_false hb]) ?_
              repeat (first | refine GoO.go rfl rfl rfl rfl ?_ | refine GoO.ld h0 rfl rfl rfl rfl ?_ | refine GoO.cmp rfl rfl rfl rfl rfl ?_ | refine GoO.off rfl rfl ?_ | refine GoO.nil ?_)
              refine GoO.run rfl rfl rfl hB.e_places1 hB.p_places1 hB.f_places1 rfl rfl rfl rfl ((hsee x x hxn hxn _ rfl).mono fun x0 f0 σ0 ⟨e1, e2, e3⟩ => ⟨e1, ?_⟩)
              rw [e3, e2]
              cases hs : seeB n c x x
              all_goals repeat (first | refine GoO.go rfl rfl rfl rfl ?_ | refine GoO.ld h0 rfl rfl rfl rfl ?_ | refine GoO.cmp rfl rfl rfl rfl rfl ?_ | refine GoO.off rfl rfl ?_ | refine GoO.nil ?_)
              all_goals exact ⟨rfl, rfl, rfl, rfl, rfl, rfl, rfl, rfl, congrArg AV.b (by simp only [stA, decide_eq_false hb, hs] <;> rfl), rfl, rfl, rfl, rfl, rfl, trivial⟩
        refine GoF.seq (GoF.region ?_)
        repeat (first | refine GoO.go rfl rfl rfl rfl ?_ | refine GoO.ld h0 rfl rfl rfl rfl ?_ | refine GoO.cmp rfl rfl rfl rfl rfl ?_ | refine GoO.off rfl rfl ?_ | refine GoO.nil ?_)
        refine GoF.block ?_
        refine GoF.loop (fun m f σ' => σ' = τ ∧ ∃ y ok, y + m = n ∧ upB l.kind fr n c x m y ok = upB l.kind fr n c x n 0 (stA fr n c x okx) ∧ sat [(1, nI n), (2, .p (some (0, 0))), (5, v), (11, .p (some (k + 1, 0))), (13, .f (.func n_places1) [] [.p (some (k + 1, 0))]), (14, .i .u8 (Int.ofNat fr)), (15, .b ok), (16, nI x), (95, nI n), (96, nI x), (111, nI n), (112, nI y), (66, nI (2 ^ (n * n))), (67, nI c)] f) ?_ n
          ⟨rfl, 0, _, by omega, rfl, rfl, rfl, rfl, rfl, rfl, rfl, rfl, rfl, rfl, rfl, rfl, rfl, rfl, rfl, trivial⟩
        intro m2 g σ' ⟨e1, y, ok, hy, hok, hL⟩
        rw [e1]; clear e1 σ'
        refine GoF.norm _ hL fun g => ?_
        clear hL
        repeat (first | refine GoO.go rfl rfl rfl rfl ?_ | refine GoO.ld h0 rfl rfl rfl rfl ?_ | refine GoO.cmp rfl rfl rfl rfl rfl ?_ | refine GoO.off rfl rfl ?_ | refine GoO.nil ?_ | refine GoF.seq ?_ | refine GoF.region ?_ | refine GoF.skip ?_ | refine GoF.block ?_)
        refine GoF.cnd rfl (fun ht => ?_) (fun hf => ?_)
        · have hyn : y < n := of_decide_eq_true ht
          obtain ⟨m2, rfl⟩ : ∃ j, m2 = j + 1 := ⟨m2 - 1, by omega⟩
          refine GoF.skip (GoF.seq (GoF.block (GoF.seq (GoF.region ?_))))
          repeat (first | refine GoO.go rfl rfl rfl rfl ?_ | refine GoO.ld h0 rfl rfl rfl rfl ?_ | refine GoO.cmp rfl rfl rfl rfl rfl ?_ | refine GoO.off rfl rfl ?_ | refine GoO.nil ?_)
          refine GoF.cut [(1, nI n), (2, .p (some (0, 0))), (5, v), (11, .p (some (k + 1, 0))), (13, .f (.func n_places1) [] [.p (some (k + 1, 0))]), (14, .i .u8 (Int.ofNat fr)), (15, .b (stB l.kind fr n c x y ok)), (16, nI x), (17, nI y), (95, nI n), (96, nI x), (111, nI n), (112, nI y), (66, nI (2 ^ (n * n))), (67, nI c)] ?_ fun g => ?_
          · refine GoF.region ?_
            cases ok with
            | false =>
              repeat (first | refine GoO.go rfl rfl rfl rfl ?_ | refine GoO.ld h0 rfl rfl rfl rfl ?_ | refine GoO.cmp rfl rfl rfl rfl rfl ?_ | refine GoO.off rfl rfl ?_ | refine GoO.nil ?_)
              exact ⟨rfl, rfl, rfl, rfl, rfl, rfl, rfl, rfl, congrArg AV.b (by simp only [stB, Bool.false_and] <;> rfl), rfl, rfl, rfl, rfl, rfl, rfl, rfl, rfl, trivial⟩
            | true =>
              repeat (first | refine GoO.go rfl rfl rfl rfl ?_ | refine GoO.ld h0 rfl rfl rfl rfl ?_ | refine GoO.cmp rfl rfl rfl rfl rfl ?_ | refine GoO.off rfl rfl ?_ | refine GoO.nil ?_)
              by_cases hb : fr &&& 4 = 0
              · skip
                refine GoO.bin (a := .i .u8 (Int.ofNat fr)) (b := .i .u8 (Int.ofNat 4)) rfl rfl rfl rfl (bin_and8 (by omega) (by omega)) ?_
                refine GoO.bin (a := .i .u8 (Int.ofNat (fr &&& 4))) (b := .i .u8 (Int.ofNat 0)) (v := .b true) rfl rfl rfl rfl (by rw [bin_eqk, decide_eq_true hb]) ?_
                repeat (first | refine GoO.go rfl rfl rfl rfl ?_ | refine GoO.ld h0 rfl rfl rfl rfl ?_ | refine GoO.off rfl rfl ?_ | refine GoO.nil ?_)
                refine GoO.norm [(1, nI n), (2, .p (some (0, 0))), (5, v), (11, .p (some (k + 1, 0))), (13, .f (.func n_places1) [] [.p (some (k + 1, 0))]), (14, .i .u8 (Int.ofNat fr)), (16, nI x), (17, nI y), (95, nI n), (96, nI x), (111, nI n), (112, nI y), (134, .b true), (136, .i .u8 (Int.ofNat l.kind)), (66, nI (2 ^ (n * n))), (67, nI c)] ⟨rfl, rfl, rfl, rfl, rfl, rfl, rfl, rfl, rfl, rfl, rfl, rfl, rfl, rfl, rfl, rfl, trivial⟩ fun g => ?_
                by_cases hk3 : l.kind = 3
                · refine GoO.bin (a := .i .u8 (Int.ofNat l.kind)) (b := .i .u8 (Int.ofNat 3)) (v := .b false) rfl rfl rfl rfl (by rw [bin_neqk, decide_eq_true hk3]; rfl) ?_
                  repeat (first | refine GoO.go rfl rfl rfl rfl ?_ | refine GoO.ld h0 rfl rfl rfl rfl ?_ | refine GoO.off rfl rfl ?_ | refine GoO.nil ?_)
                  by_cases hxy : x = y
                  · refine GoO.bin (a := nI x) (b := nI y) (v := .b true) rfl rfl rfl rfl (by rw [bin_eqk, decide_eq_true hxy]) ?_
                    repeat (first | refine GoO.go rfl rfl rfl rfl ?_ | refine GoO.ld h0 rfl rfl rfl rfl ?_ | refine GoO.cmp rfl rfl rfl rfl rfl ?_ | refine GoO.off rfl rfl ?_ | refine GoO.nil ?_)
                    exact ⟨rfl, rfl, rfl, rfl, rfl, rfl, rfl, rfl, congrArg AV.b (by simp only [stB, decide_eq_true hb, decide_eq_true hk3, decide_eq_true hxy] <;> rfl), rfl, rfl, rfl, rfl, rfl, rfl, rfl, rfl, trivial⟩
                  · refine GoO.bin (a := nI x) (b := nI y) (v := .b false) rfl rfl rfl rfl (by rw [bin_eqk, decide_eq_false hxy]) ?_
                    repeat (first | refine GoO.go rfl rfl rfl rfl ?_ | refine GoO.ld h0 rfl rfl rfl rfl ?_ | refine GoO.cmp rfl rfl rfl rfl rfl ?_ | refine GoO.off rfl rfl ?_ | refine GoO.nil ?_)
                    refine GoO.run rfl rfl rfl hB.e_places1 hB.p_places1 hB.f_places1 rfl rfl rfl rfl ((hsee x y hxn hyn _ rfl).mono fun x0 f0 σ0 ⟨e1, e2, e3⟩ => ⟨e1, ?_⟩)
                    rw [e3, e2]
                    refine GoO.norm [(1, nI n), (2, .p (some (0, 0))), (5, v), (11, .p (some (k + 1, 0))), (13, .f (.func n_places1) [] [.p (some (k + 1, 0))]), (14, .i .u8 (Int.ofNat fr)), (16, nI x), (17, nI y), (95, nI n), (96, nI x), (111, nI n), (112, nI y), (134, .b true), (143, .b false), (147, .b (seeB n c x y)), (66, nI (2 ^ (n * n))), (67, nI c)] ⟨rfl, rfl, rfl, rfl, rfl, rfl, rfl, rfl, rfl, rfl, rfl, rfl, rfl, rfl, rfl, rfl, rfl, trivial⟩ fun g => ?_
                    cases hs3 : seeB n c x y
                    · repeat (first | refine GoO.go rfl rfl rfl rfl ?_ | refine GoO.ld h0 rfl rfl rfl rfl ?_ | refine GoO.cmp rfl rfl rfl rfl rfl ?_ | refine GoO.off rfl rfl ?_ | refine GoO.nil ?_)
                      exact ⟨rfl, rfl, rfl, rfl, rfl, rfl, rfl, rfl, congrArg AV.b (by simp only [stB, decide_eq_true hb, decide_eq_true hk3, decide_eq_false hxy, hs3] <;> rfl), rfl, rfl, rfl, rfl, rfl, rfl, rfl, rfl, trivial⟩
                    · repeat (first | refine GoO.go rfl rfl rfl rfl ?_ | refine GoO.ld h0 rfl rfl rfl rfl ?_ | refine GoO.cmp rfl rfl rfl rfl rfl ?_ | refine GoO.off rfl rfl ?_ | refine GoO.nil ?_)
                      refine GoO.run rfl rfl rfl hB.e_places1 hB.p_places1 hB.f_places1 rfl rfl rfl rfl ((hsee y x hyn hxn _ rfl).mono fun x0 f0 σ0 ⟨e1, e2, e3⟩ => ⟨e1, ?_⟩)
                      rw [e3, e2]
                      refine GoO.norm [(1, nI n), (2, .p (some (0, 0))), (5, v), (11, .p (some (k + 1, 0))), (13, .f (.func n_places1) [] [.p (some (k + 1, 0))]), (14, .i .u8 (Int.ofNat fr)), (16, nI x), (17, nI y), (95, nI n), (96, nI x), (111, nI n), (112, nI y), (134, .b true), (150, .b false), (154, .b (seeB n c y x)), (66, nI (2 ^ (n * n))), (67, nI c)] ⟨rfl, rfl, rfl, rfl, rfl, rfl, rfl, rfl, rfl, rfl, rfl, rfl, rfl, rfl, rfl, rfl, rfl, trivial⟩ fun g => ?_
                      cases hs4 : seeB n c y x
                      all_goals repeat (first | refine GoO.go rfl rfl rfl rfl ?_ | refine GoO.ld h0 rfl rfl rfl rfl ?_ | refine GoO.cmp rfl rfl rfl rfl rfl ?_ | refine GoO.off rfl rfl ?_ | refine GoO.nil ?_)
                      all_goals exact ⟨rfl, rfl, rfl, rfl, rfl, rfl, rfl, rfl, congrArg AV.b (by simp only [stB, decide_eq_true hb, decide_eq_true hk3, decide_eq_false hxy, hs3, hs4] <;> rfl), rfl, rfl, rfl, rfl, rfl, rfl, rfl, rfl, trivial⟩
                · refine GoO.bin (a := .i .u8 (Int.ofNat l.kind)) (b := .i .u8 (Int.ofNat 3)) (v := .b true) rfl rfl rfl rfl (by rw [bin_neqk, decide_eq_false hk3]; rfl) ?_
                  repeat (first | refine GoO.go rfl rfl rfl rfl ?_ | refine GoO.ld h0 rfl rfl rfl rfl ?_ | refine GoO.cmp rfl rfl rfl rfl rfl ?_ | refine GoO.off rfl rfl ?_ | refine GoO.nil ?_)
                  exact ⟨rfl, rfl, rfl, rfl, rfl, rfl, rfl, rfl, congrArg AV.b (by simp only [stB, decide_eq_true hb, decide_eq_false hk3] <;> rfl), rfl, rfl, rfl, rfl, rfl, rfl, rfl, rfl, trivial⟩
              · skip
                refine GoO.bin (a := .i .u8 (Int.ofNat fr)) (b := .i .u8 (Int.ofNat 4)) rfl rfl rfl rfl (bin_and8 (by omega) (by omega)) ?_
                refine GoO.bin (a := .i .u8 (Int.ofNat (fr &&& 4))) (b := .i .u8 (Int.ofNat 0)) (v := .b false) rfl rfl rfl rfl (by rw [bin_eqk, decide_eq_false hb]) ?_
                repeat (first | refine GoO.go rfl rfl rfl rfl ?_ | refine GoO.ld h0 rfl rfl rfl rfl ?_ | refine GoO.cmp rfl rfl rfl rfl rfl ?_ | refine GoO.off rfl rfl ?_ | refine GoO.nil ?_)
                refine GoO.run rfl rfl rfl hB.e_places1 hB.p_places1 hB.f_places1 rfl rfl rfl rfl ((hsee x y hxn hyn _ rfl).mono fun x0 f0 σ0 ⟨e1, e2, e3⟩ => ⟨e1, ?_⟩)
                rw [e3, e2]
                refine GoO.norm [(1, nI n), (2, .p (some (0, 0))), (5, v), (11, .p (some (k + 1, 0))), (13, .f (.func n_places1) [] [.p (some (k + 1, 0))]), (14, .i .u8 (Int.ofNat fr)), (16, nI x), (17, nI y), (95, nI n), (96, nI x), (111, nI n), (112, nI y), (116, .b true), (120, .b false), (124, .b (seeB n c x y)), (66, nI (2 ^ (n * n))), (67, nI c)] ⟨rfl, rfl, rfl, rfl, rfl, rfl, rfl, rfl, rfl, rfl, rfl, rfl, rfl, rfl, rfl, rfl, rfl, trivial⟩ fun g => ?_
                cases hs1 : seeB n c x y
                · repeat (first | refine GoO.go rfl rfl rfl rfl ?_ | refine GoO.ld h0 rfl rfl rfl rfl ?_ | refine GoO.off rfl rfl ?_ | refine GoO.nil ?_)
                  refine GoO.norm [(1, nI n), (2, .p (some (0, 0))), (5, v), (11, .p (some (k + 1, 0))), (13, .f (.func n_places1) [] [.p (some (k + 1, 0))]), (14, .i .u8 (Int.ofNat fr)), (16, nI x), (17, nI y), (95, nI n), (96, nI x), (111, nI n), (112, nI y), (134, .b true), (136, .i .u8 (Int.ofNat l.kind)), (66, nI (2 ^ (n * n))), (67, nI c)] ⟨rfl, rfl, rfl, rfl, rfl, rfl, rfl, rfl, rfl, rfl, rfl, rfl, rfl, rfl, rfl, rfl, trivial⟩ fun g => ?_
                  by_cases hk3 : l.kind = 3
                  · refine GoO.bin (a := .i .u8 (Int.ofNat l.kind)) (b := .i .u8 (Int.ofNat 3)) (v := .b false) rfl rfl rfl rfl (by rw [bin_neqk, decide_eq_true hk3]; rfl) ?_
                    repeat (first | refine GoO.go rfl rfl rfl rfl ?_ | refine GoO.ld h0 rfl rfl rfl rfl ?_ | refine GoO.off rfl rfl ?_ | refine GoO.nil ?_)
                    by_cases hxy : x = y
                    · refine GoO.bin (a := nI x) (b := nI y) (v := .b true) rfl rfl rfl rfl (by rw [bin_eqk, decide_eq_true hxy]) ?_
                      repeat (first | refine GoO.go rfl rfl rfl rfl ?_ | refine GoO.ld h0 rfl rfl rfl rfl ?_ | refine GoO.cmp rfl rfl rfl rfl rfl ?_ | refine GoO.off rfl rfl ?_ | refine GoO.nil ?_)
                      exact ⟨rfl, rfl, rfl, rfl, rfl, rfl, rfl, rfl, congrArg AV.b (by simp only [stB, decide_eq_false hb, hs1, decide_eq_true hk3, decide_eq_true hxy] <;> rfl), rfl, rfl, rfl, rfl, rfl, rfl, rfl, rfl, trivial⟩
                    · refine GoO.bin (a := nI x) (b := nI y) (v := .b false) rfl rfl rfl rfl (by rw [bin_eqk, decide_eq_false hxy]) ?_
                      repeat (first | refine GoO.go rfl rfl rfl rfl ?_ | refine GoO.ld h0 rfl rfl rfl rfl ?_ | refine GoO.cmp rfl rfl rfl rfl rfl ?_ | refine GoO.off rfl rfl ?_ | refine GoO.nil ?_)
                      refine GoO.run rfl rfl rfl hB.e_places1 hB.p_places1 hB.f_places1 rfl rfl rfl rfl ((hsee x y hxn hyn _ rfl).mono fun x0 f0 σ0 ⟨e1, e2, e3⟩ => ⟨e1, ?_⟩)
                      rw [e3, e2]
                      refine GoO.norm [(1, nI n), (2, .p (some (0, 0))), (5, v), (11, .p (some (k + 1, 0))), (13, .f (.func n_places1) [] [.p (some (k + 1, 0))]), (14, .i .u8 (Int.ofNat fr)), (16, nI x), (17, nI y), (95, nI n), (96, nI x), (111, nI n), (112, nI y), (134, .b true), (143, .b false), (147, .b (seeB n c x y)), (66, nI (2 ^ (n * n))), (67, nI c)] ⟨rfl, rfl, rfl, rfl, rfl, rfl, rfl, rfl, rfl, rfl, rfl, rfl, rfl, rfl, rfl, rfl, rfl, trivial⟩ fun g => ?_
                      rw [hs1]
                      repeat (first | refine GoO.go rfl rfl rfl rfl ?_ | refine GoO.ld h0 rfl rfl rfl rfl ?_ | refine GoO.cmp rfl rfl rfl rfl rfl ?_ | refine GoO.off rfl rfl ?_ | refine GoO.nil ?_)
                      exact ⟨rfl, rfl, rfl, rfl, rfl, rfl, rfl, rfl, congrArg AV.b (by simp only [stB, decide_eq_false hb, hs1, decide_eq_true hk3, decide_eq_false hxy] <;> rfl), rfl, rfl, rfl, rfl, rfl, rfl, rfl, rfl, trivial⟩
                  · refine GoO.bin (a := .i .u8 (Int.ofNat l.kind)) (b := .i .u8 (Int.ofNat 3)) (v := .b true) rfl rfl rfl rfl (by rw [bin_neqk, decide_eq_false hk3]; rfl) ?_
                    repeat (first | refine GoO.go rfl rfl rfl rfl ?_ | refine GoO.ld h0 rfl rfl rfl rfl ?_ | refine GoO.cmp rfl rfl rfl rfl rfl ?_ | refine GoO.off rfl rfl ?_ | refine GoO.nil ?_)
                    exact ⟨rfl, rfl, rfl, rfl, rfl, rfl, rfl, rfl, congrArg AV.b (by simp only [stB, decide_eq_false hb, hs1, decide_eq_false hk3] <;> rfl), rfl, rfl, rfl, rfl, rfl, rfl, rfl, rfl, trivial⟩
                · repeat (first | refine GoO.go rfl rfl rfl rfl ?_ | refine GoO.ld h0 rfl rfl rfl rfl ?_ | refine GoO.cmp rfl rfl rfl rfl rfl ?_ | refine GoO.off rfl rfl ?_ | refine GoO.nil ?_)
                  refine GoO.run rfl rfl rfl hB.e_places1 hB.p_places1 hB.f_places1 rfl rfl rfl rfl ((hsee y x hyn hxn _ rfl).mono fun x0 f0 σ0 ⟨e1, e2, e3⟩ => ⟨e1, ?_⟩)
                  rw [e3, e2]
                  refine GoO.norm [(1, nI n), (2, .p (some (0, 0))), (5, v), (11, .p (some (k + 1, 0))), (13, .f (.func n_places1) [] [.p (some (k + 1, 0))]), (14, .i .u8 (Int.ofNat fr)), (16, nI x), (17, nI y), (95, nI n), (96, nI x), (111, nI n), (112, nI y), (116, .b true), (127, .b false), (131, .b (seeB n c y x)), (66, nI (2 ^ (n * n))), (67, nI c)] ⟨rfl, rfl, rfl, rfl, rfl, rfl, rfl, rfl, rfl, rfl, rfl, rfl, rfl, rfl, rfl, rfl, rfl, trivial⟩ fun g => ?_
                  cases hs2 : seeB n c y x
                  · repeat (first | refine GoO.go rfl rfl rfl rfl ?_ | refine GoO.ld h0 rfl rfl rfl rfl ?_ | refine GoO.cmp rfl rfl rfl rfl rfl ?_ | refine GoO.off rfl rfl ?_ | refine GoO.nil ?_)
                    exact ⟨rfl, rfl, rfl, rfl, rfl, rfl, rfl, rfl, congrArg AV.b (by simp only [stB, decide_eq_false hb, hs1, hs2] <;> rfl), rfl, rfl, rfl, rfl, rfl, rfl, rfl, rfl, trivial⟩
                  · repeat (first | refine GoO.go rfl rfl rfl rfl ?_ | refine GoO.ld h0 rfl rfl rfl rfl ?_ | refine GoO.off rfl rfl ?_ | refine GoO.nil ?_)
                    refine GoO.norm [(1, nI n), (2, .p (some (0, 0))), (5, v), (11, .p (some (k + 1, 0))), (13, .f (.func n_places1) [] [.p (some (k + 1, 0))]), (14, .i .u8 (Int.ofNat fr)), (16, nI x), (17, nI y), (95, nI n), (96, nI x), (111, nI n), (112, nI y), (134, .b true), (136, .i .u8 (Int.ofNat l.kind)), (66, nI (2 ^ (n * n))), (67, nI c)] ⟨rfl, rfl, rfl, rfl, rfl, rfl, rfl, rfl, rfl, rfl, rfl, rfl, rfl, rfl, rfl, rfl, trivial⟩ fun g => ?_
                    by_cases hk3 : l.kind = 3
                    · refine GoO.bin (a := .i .u8 (Int.ofNat l.kind)) (b := .i .u8 (Int.ofNat 3)) (v := .b false) rfl rfl rfl rfl (by rw [bin_neqk, decide_eq_true hk3]; rfl) ?_
                      repeat (first | refine GoO.go rfl rfl rfl rfl ?_ | refine GoO.ld h0 rfl rfl rfl rfl ?_ | refine GoO.off rfl rfl ?_ | refine GoO.nil ?_)
                      by_cases hxy : x = y
                      · refine GoO.bin (a := nI x) (b := nI y) (v := .b true) rfl rfl rfl rfl (by rw [bin_eqk, decide_eq_true hxy]) ?_
                        repeat (first | refine GoO.go rfl rfl rfl rfl ?_ | refine GoO.ld h0 rfl rfl rfl rfl ?_ | refine GoO.cmp rfl rfl rfl rfl rfl ?_ | refine GoO.off rfl rfl ?_ | refine GoO.nil ?_)
                        exact ⟨rfl, rfl, rfl, rfl, rfl, rfl, rfl, rfl, congrArg AV.b (by simp only [stB, decide_eq_false hb, hs1, hs2, decide_eq_true hk3, decide_eq_true hxy] <;> rfl), rfl, rfl, rfl, rfl, rfl, rfl, rfl, rfl, trivial⟩
                      · refine GoO.bin (a := nI x) (b := nI y) (v := .b false) rfl rfl rfl rfl (by rw [bin_eqk, decide_eq_false hxy]) ?_
                        repeat (first | refine GoO.go rfl rfl rfl rfl ?_ | refine GoO.ld h0 rfl rfl rfl rfl ?_ | refine GoO.cmp rfl rfl rfl rfl rfl ?_ | refine GoO.off rfl rfl ?_ | refine GoO.nil ?_)
                        refine GoO.run rfl rfl rfl hB.e_places1 hB.p_places1 hB.f_places1 rfl rfl rfl rfl ((hsee x y hxn hyn _ rfl).mono fun x0 f0 σ0 ⟨e1, e2, e3⟩ => ⟨e1, ?_⟩)
                        rw [e3, e2]
                        refine GoO.norm [(1, nI n), (2, .p (some (0, 0))), (5, v), (11, .p (some (k + 1, 0))), (13, .f (.func n_places1) [] [.p (some (k + 1, 0))]), (14, .i .u8 (Int.ofNat fr)), (16, nI x), (17, nI y), (95, nI n), (96, nI x), (111, nI n), (112, nI y), (134, .b true), (143, .b false), (147, .b (seeB n c x y)), (66, nI (2 ^ (n * n))), (67, nI c)] ⟨rfl, rfl, rfl, rfl, rfl, rfl, rfl, rfl, rfl, rfl, rfl, rfl, rfl, rfl, rfl, rfl, rfl, trivial⟩ fun g => ?_
                        rw [hs1]
                        repeat (first | refine GoO.go rfl rfl rfl rfl ?_ | refine GoO.ld h0 rfl rfl rfl rfl ?_ | refine GoO.cmp rfl rfl rfl rfl rfl ?_ | refine GoO.off rfl rfl ?_ | refine GoO.nil ?_)
                        refine GoO.run rfl rfl rfl hB.e_places1 hB.p_places1 hB.f_places1 rfl rfl rfl rfl ((hsee y x hyn hxn _ rfl).mono fun x0 f0 σ0 ⟨e1, e2, e3⟩ => ⟨e1, ?_⟩)
                        rw [e3, e2]
                        refine GoO.norm [(1, nI n), (2, .p (some (0, 0))), (5, v), (11, .p (some (k + 1, 0))), (13, .f (.func n_places1) [] [.p (some (k + 1, 0))]), (14, .i .u8 (Int.ofNat fr)), (16, nI x), (17, nI y), (95, nI n), (96, nI x), (111, nI n), (112, nI y), (134, .b true), (150, .b false), (154, .b (seeB n c y x)), (66, nI (2 ^ (n * n))), (67, nI c)] ⟨rfl, rfl, rfl, rfl, rfl, rfl, rfl, rfl, rfl, rfl, rfl, rfl, rfl, rfl, rfl, rfl, rfl, trivial⟩ fun g => ?_
                        rw [hs2]
                        repeat (first | refine GoO.go rfl rfl rfl rfl ?_ | refine GoO.ld h0 rfl rfl rfl rfl ?_ | refine GoO.cmp rfl rfl rfl rfl rfl ?_ | refine GoO.off rfl rfl ?_ | refine GoO.nil ?_)
                        exact ⟨rfl, rfl, rfl, rfl, rfl, rfl, rfl, rfl, congrArg AV.b (by simp only [stB, decide_eq_false hb, hs1, hs2, decide_eq_true hk3, decide_eq_false hxy] <;> rfl), rfl, rfl, rfl, rfl, rfl, rfl, rfl, rfl, trivial⟩
                    · refine GoO.bin (a := .i .u8 (Int.ofNat l.kind)) (b := .i .u8 (Int.ofNat 3)) (v := .b true) rfl rfl rfl rfl (by rw [bin_neqk, decide_eq_false hk3]; rfl) ?_
                      repeat (first | refine GoO.go rfl rfl rfl rfl ?_ | refine GoO.ld h0 rfl rfl rfl rfl ?_ | refine GoO.cmp rfl rfl rfl rfl rfl ?_ | refine GoO.off rfl rfl ?_ | refine GoO.nil ?_)
                      exact ⟨rfl, rfl, rfl, rfl, rfl, rfl, rfl, rfl, congrArg AV.b (by simp only [stB, decide_eq_false hb, hs1, hs2, decide_eq_false hk3] <;> rfl), rfl, rfl, rfl, rfl, rfl, rfl, rfl, rfl, trivial⟩
          refine GoF.seq (GoF.region ?_)
          repeat (first | refine GoO.go rfl rfl rfl rfl ?_ | refine GoO.ld h0 rfl rfl rfl rfl ?_ | refine GoO.cmp rfl rfl rfl rfl rfl ?_ | refine GoO.off rfl rfl ?_ | refine GoO.nil ?_)
          refine GoF.block ?_
          refine GoF.loop (fun m f σ' => σ' = τ ∧ ∃ w ok', w + m = n ∧ upC fr n c x y m w ok' = upC fr n c x y n 0 (stB l.kind fr n c x y ok) ∧ sat [(1, nI n), (2, .p (some (0, 0))), (5, v), (11, .p (some (k + 1, 0))), (13, .f (.func n_places1) [] [.p (some (k + 1, 0))]), (14, .i .u8 (Int.ofNat fr)), (15, .b ok'), (16, nI x), (17, nI y), (95, nI n), (96, nI x), (111, nI n), (112, nI y), (158, nI n), (159, nI w), (66, nI (2 ^ (n * n))), (67, nI c)] f) ?_ n
            ⟨rfl, 0, _, by omega, rfl, rfl, rfl, rfl, rfl, rfl, rfl, rfl, rfl, rfl, rfl, rfl, rfl, rfl, rfl, rfl, rfl, rfl, trivial⟩
          intro m3 g σ' ⟨e1, w, ok', hw, hok', hL⟩
          rw [e1]; clear e1 σ'
          refine GoF.norm _ hL fun g => ?_
          clear hL
          repeat (first | refine GoO.go rfl rfl rfl rfl ?_ | refine GoO.ld h0 rfl rfl rfl rfl ?_ | refine GoO.cmp rfl rfl rfl rfl rfl ?_ | refine GoO.off rfl rfl ?_ | refine GoO.nil ?_ | refine GoF.seq ?_ | refine GoF.region ?_ | refine GoF.skip ?_ | refine GoF.block ?_)
          refine GoF.cnd rfl (fun ht => ?_) (fun hf => ?_)
          · have hwn : w < n := of_decide_eq_true ht
            obtain ⟨m3, rfl⟩ : ∃ j, m3 = j + 1 := ⟨m3 - 1, by omega⟩
            generalize ok' = ok at *
            refine GoF.skip ?_
            refine GoF.cut [(1, nI n), (2, .p (some (0, 0))), (5, v), (11, .p (some (k + 1, 0))), (13, .f (.func n_places1) [] [.p (some (k + 1, 0))]), (14, .i .u8 (Int.ofNat fr)), (15, .b (stC fr n c x y w ok)), (16, nI x), (17, nI y), (95, nI n), (96, nI x), (111, nI n), (112, nI y), (158, nI n), (159, nI w), (66, nI (2 ^ (n * n))), (67, nI c)] ?_ fun g => ?_
            · refine GoF.block (GoF.seq (GoF.region ?_))
              repeat (first | refine GoO.go rfl rfl rfl rfl ?_ | refine GoO.ld h0 rfl rfl rfl rfl ?_ | refine GoO.cmp rfl rfl rfl rfl rfl ?_ | refine GoO.off rfl rfl ?_ | refine GoO.nil ?_)
              refine GoF.region ?_
              cases ok with
              | false =>
                repeat (first | refine GoO.go rfl rfl rfl rfl ?_ | refine GoO.ld h0 rfl rfl rfl rfl ?_ | refine GoO.cmp rfl rfl rfl rfl rfl ?_ | refine GoO.off rfl rfl ?_ | refine GoO.nil ?_)
                exact ⟨rfl, rfl, rfl, rfl, rfl, rfl, rfl, rfl, congrArg AV.b (by simp only [stC, Bool.false_and] <;> rfl), rfl, rfl, rfl, rfl, rfl, rfl, rfl, rfl, rfl, rfl, trivial⟩
              | true =>
                repeat (first | refine GoO.go rfl rfl rfl rfl ?_ | refine GoO.ld h0 rfl rfl rfl rfl ?_ | refine GoO.cmp rfl rfl rfl rfl rfl ?_ | refine GoO.off rfl rfl ?_ | refine GoO.nil ?_)
                by_cases hb : fr &&& 2 = 0
                · skip
                  refine GoO.bin (a := .i .u8 (Int.ofNat fr)) (b := .i .u8 (Int.ofNat 2)) rfl rfl rfl rfl (bin_and8 (by omega) (by omega)) ?_
                  refine GoO.bin (a := .i .u8 (Int.ofNat (fr &&& 2))) (b := .i .u8 (Int.ofNat 0)) (v := .b true) rfl rfl rfl rfl (by rw [bin_eqk, decide_eq_true hb]) ?_
                  repeat (first | refine GoO.go rfl rfl rfl rfl ?_ | refine GoO.ld h0 rfl rfl rfl rfl ?_ | refine GoO.cmp rfl rfl rfl rfl rfl ?_ | refine GoO.off rfl rfl ?_ | refine GoO.nil ?_)
                  exact ⟨rfl, rfl, rfl, rfl, rfl, rfl, rfl, rfl, congrArg AV.b (by simp only [stC, decide_eq_true hb] <;> rfl), rfl, rfl, rfl, rfl, rfl, rfl, rfl, rfl, rfl, rfl, trivial⟩
                · skip
                  refine GoO.bin (a := .i .u8 (Int.ofNat fr)) (b := .i .u8 (Int.ofNat 2)) rfl rfl rfl rfl (bin_and8 (by omega) (by omega)) ?_
                  refine GoO.bin (a := .i .u8 (Int.ofNat (fr &&& 2))) (b := .i .u8 (Int.ofNat 0)) (v := .b false) rfl rfl rfl rfl (by rw [bin_eqk, decide_eq_false hb]) ?_
                  repeat (first | refine GoO.go rfl rfl rfl rfl ?_ | refine GoO.ld h0 rfl rfl rfl rfl ?_ | refine GoO.cmp rfl rfl rfl rfl rfl ?_ | refine GoO.off rfl rfl ?_ | refine GoO.nil ?_)
                  refine GoO.run rfl rfl rfl hB.e_places1 hB.p_places1 hB.f_places1 rfl rfl rfl rfl ((hsee x y hxn hyn _ rfl).mono fun x0 f0 σ0 ⟨e1, e2, e3⟩ => ⟨e1, ?_⟩)
                  rw [e3, e2]
                  refine GoO.norm [(1, nI n), (2, .p (some (0, 0))), (5, v), (11, .p (some (k + 1, 0))), (13, .f (.func n_places1) [] [.p (some (k + 1, 0))]), (14, .i .u8 (Int.ofNat fr)), (16, nI x), (17, nI y), (18, nI w), (95, nI n), (96, nI x), (111, nI n), (112, nI y), (158, nI n), (159, nI w), (163, .b true), (167, .b false), (171, .b (seeB n c x y)), (66, nI (2 ^ (n * n))), (67, nI c)] ⟨rfl, rfl, rfl, rfl, rfl, rfl, rfl, rfl, rfl, rfl, rfl, rfl, rfl, rfl, rfl, rfl, rfl, rfl, rfl, rfl, trivial⟩ fun g => ?_
                  cases hs1 : seeB n c x y
                  · repeat (first | refine GoO.go rfl rfl rfl rfl ?_ | refine GoO.ld h0 rfl rfl rfl rfl ?_ | refine GoO.cmp rfl rfl rfl rfl rfl ?_ | refine GoO.off rfl rfl ?_ | refine GoO.nil ?_)
                    exact ⟨rfl, rfl, rfl, rfl, rfl, rfl, rfl, rfl, congrArg AV.b (by simp only [stC, decide_eq_false hb, hs1] <;> rfl), rfl, rfl, rfl, rfl, rfl, rfl, rfl, rfl, rfl, rfl, trivial⟩
                  · repeat (first | refine GoO.go rfl rfl rfl rfl ?_ | refine GoO.ld h0 rfl rfl rfl rfl ?_ | refine GoO.cmp rfl rfl rfl rfl rfl ?_ | refine GoO.off rfl rfl ?_ | refine GoO.nil ?_)
                    refine GoO.run rfl rfl rfl hB.e_places1 hB.p_places1 hB.f_places1 rfl rfl rfl rfl ((hsee y w hyn hwn _ rfl).mono fun x0 f0 σ0 ⟨e1, e2, e3⟩ => ⟨e1, ?_⟩)
                    rw [e3, e2]
                    refine GoO.norm [(1, nI n), (2, .p (some (0, 0))), (5, v), (11, .p (some (k + 1, 0))), (13, .f (.func n_places1) [] [.p (some (k + 1, 0))]), (14, .i .u8 (Int.ofNat fr)), (16, nI x), (17, nI y), (18, nI w), (95, nI n), (96, nI x), (111, nI n), (112, nI y), (158, nI n), (159, nI w), (163, .b true), (174, .b false), (178, .b (seeB n c y w)), (66, nI (2 ^ (n * n))), (67, nI c)] ⟨rfl, rfl, rfl, rfl, rfl, rfl, rfl, rfl, rfl, rfl, rfl, rfl, rfl, rfl, rfl, rfl, rfl, rfl, rfl, rfl, trivial⟩ fun g => ?_
                    cases hs2 : seeB n c y w
                    · repeat (first | refine GoO.go rfl rfl rfl rfl ?_ | refine GoO.ld h0 rfl rfl rfl rfl ?_ | refine GoO.cmp rfl rfl rfl rfl rfl ?_ | refine GoO.off rfl rfl ?_ | refine GoO.nil ?_)
                      exact ⟨rfl, rfl, rfl, rfl, rfl, rfl, rfl, rfl, congrArg AV.b (by simp only [stC, decide_eq_false hb, hs1, hs2] <;> rfl), rfl, rfl, rfl, rfl, rfl, rfl, rfl, rfl, rfl, rfl, trivial⟩
                    · repeat (first | refine GoO.go rfl rfl rfl rfl ?_ | refine GoO.ld h0 rfl rfl rfl rfl ?_ | refine GoO.cmp rfl rfl rfl rfl rfl ?_ | refine GoO.off rfl rfl ?_ | refine GoO.nil ?_)
                      refine GoO.run rfl rfl rfl hB.e_places1 hB.p_places1 hB.f_places1 rfl rfl rfl rfl ((hsee x w hxn hwn _ rfl).mono fun x0 f0 σ0 ⟨e1, e2, e3⟩ => ⟨e1, ?_⟩)
                      rw [e3, e2]
                      refine GoO.norm [(1, nI n), (2, .p (some (0, 0))), (5, v), (11, .p (some (k + 1, 0))), (13, .f (.func n_places1) [] [.p (some (k + 1, 0))]), (14, .i .u8 (Int.ofNat fr)), (16, nI x), (17, nI y), (18, nI w), (95, nI n), (96, nI x), (111, nI n), (112, nI y), (158, nI n), (159, nI w), (163, .b true), (181, .b false), (185, .b (seeB n c x w)), (66, nI (2 ^ (n * n))), (67, nI c)] ⟨rfl, rfl, rfl, rfl, rfl, rfl, rfl, rfl, rfl, rfl, rfl, rfl, rfl, rfl, rfl, rfl, rfl, rfl, rfl, rfl, trivial⟩ fun g => ?_
                      cases hs3 : seeB n c x w
                      all_goals repeat (first | refine GoO.go rfl rfl rfl rfl ?_ | refine GoO.ld h0 rfl rfl rfl rfl ?_ | refine GoO.cmp rfl rfl rfl rfl rfl ?_ | refine GoO.off rfl rfl ?_ | refine GoO.nil ?_)
                      all_goals exact ⟨rfl, rfl, rfl, rfl, rfl, rfl, rfl, rfl, congrArg AV.b (by simp only [stC, decide_eq_false hb, hs1, hs2, hs3] <;> rfl), rfl, rfl, rfl, rfl, rfl, rfl, rfl, rfl, rfl, rfl, trivial⟩
            refine GoF.region ?_
            refine GoO.bin (a := nI w) (b := nI 1) rfl rfl rfl rfl (bin_add (by omega)) ?_
            repeat (first | refine GoO.go rfl rfl rfl rfl ?_ | refine GoO.ld h0 rfl rfl rfl rfl ?_ | refine GoO.cmp rfl rfl rfl rfl rfl ?_ | refine GoO.off rfl rfl ?_ | refine GoO.nil ?_)
            exact ⟨m3, by omega, rfl, w + 1, _, by omega, hok', rfl, rfl, rfl, rfl, rfl, rfl, rfl, rfl, rfl, rfl, rfl, rfl, rfl, rfl, rfl, rfl, rfl, trivial⟩
          · have hge : ¬ w < n := of_decide_eq_false hf
            obtain rfl : m3 = 0 := by omega
            refine GoF.exit ?_
            refine GoF.region ?_
            refine GoO.bin (a := nI y) (b := nI 1) rfl rfl rfl rfl (bin_add (by omega)) ?_
            repeat (first | refine GoO.go rfl rfl rfl rfl ?_ | refine GoO.ld h0 rfl rfl rfl rfl ?_ | refine GoO.cmp rfl rfl rfl rfl rfl ?_ | refine GoO.off rfl rfl ?_ | refine GoO.nil ?_)
            have hok' : ok' = upC fr n c x y n 0 (stB l.kind fr n c x y ok) := hok'
            exact ⟨m2, by omega, rfl, y + 1, ok', by omega, by rw [hok']; exact hok, rfl, rfl, rfl, rfl, rfl, rfl, rfl, rfl, rfl, rfl, rfl, rfl, rfl, rfl, trivial⟩
        · have hge : ¬ y < n := of_decide_eq_false hf
          obtain rfl : m2 = 0 := by omega
          refine GoF.exit ?_
          refine GoF.region ?_
          refine GoO.bin (a := nI x) (b := nI 1) rfl rfl rfl rfl (bin_add (by omega)) ?_
          repeat (first | refine GoO.go rfl rfl rfl rfl ?_ | refine GoO.ld h0 rfl rfl rfl rfl ?_ | refine GoO.cmp rfl rfl rfl rfl rfl ?_ | refine GoO.off rfl rfl ?_ | refine GoO.nil ?_)
          have hok : ok = upB l.kind fr n c x n 0 (stA fr n c x okx) := hok
          exact ⟨m1, by omega, rfl, x + 1, ok, by omega, by rw [hok]; exact hokx, rfl, rfl, rfl, rfl, rfl, rfl, rfl, rfl, rfl, rfl, rfl, trivial⟩
      · have hge : ¬ x < n := of_decide_eq_false hf
        obtain rfl : m1 = 0 := by omega
        have hokx : okx = okP l.kind fr n c := hokx
        exact GoF.exit ⟨rfl, rfl, rfl, rfl, rfl, rfl, by rw [← hokx]; rfl, rfl, rfl, trivial⟩
    refine GoF.seq (GoF.region ?_)
    repeat (first | refine GoO.go rfl rfl rfl rfl ?_ | refine GoO.ld h0 rfl rfl rfl rfl ?_ | refine GoO.cmp rfl rfl rfl rfl rfl ?_ | refine GoO.off rfl rfl ?_ | refine GoO.nil ?_)
    have hend : ∀ (v' : AV) (ps' : List (Nat × Nat)) (σ' : St) (g : Nat → AV), 1 ≤ σ'.next → σ'.get 0 = some (.cells l.cells) → OutR n l.kind σ' v' ps' → v'.at? ≠ some 0 → ps'.length ≤ c + 1 → ps'.map (·.1) ++ codesN l.kind fr n (m - 1) (c + 1) = codesN l.kind fr n (2 ^ (n * n)) 0 →
        sat [(1, nI n), (2, .p (some (0, 0))), (5, v'), (66, nI (2 ^ (n * n))), (67, nI (c + 1))] g →
        ∃ m', m' < m ∧ 1 ≤ σ'.next ∧ σ'.get 0 = some (.cells l.cells) ∧ ∃ c v ps, c + m' = 2 ^ (n * n) ∧ OutR n l.kind σ' v ps ∧ v.at? ≠ some 0 ∧ ps.length ≤ c ∧ ps.map (·.1) ++ codesN l.kind fr n m' c = codesN l.kind fr n (2 ^ (n * n)) 0 ∧
          sat [(1, nI n), (2, .p (some (0, 0))), (5, v), (66, nI (2 ^ (n * n))), (67, nI c)] g :=
      fun v' ps' σ' g a1 a2 a3 a4 a5 a6 a7 => ⟨m - 1, by omega, a1, a2, c + 1, v', ps', by omega, a3, a4, a5, a6, a7⟩
    have hcs : codesN l.kind fr n m c = if okP l.kind fr n c then c :: codesN l.kind fr n (m - 1) (c + 1) else codesN l.kind fr n (m - 1) (c + 1) := by
      obtain ⟨j, rfl⟩ : ∃ j, m = j + 1 := ⟨m - 1, by omega⟩
      rfl
    have hOt := hO.keep hkeep
    have hvk : ∀ i, v.at? = some i → i < k := fun i hi => by have := hO.1.lt hi; omega
    refine GoF.cnd rfl (fun hok => ?_) (fun hok => ?_)
    · rw [hok] at hcs
      refine GoF.region ?_
      repeat (first | refine GoO.go rfl rfl rfl rfl ?_ | refine GoO.ld h0 rfl rfl rfl rfl ?_ | refine GoO.ld h2 rfl rfl rfl rfl ?_ | refine GoO.cmp rfl rfl rfl rfl rfl ?_ | refine GoO.off rfl rfl ?_ | refine GoO.nil ?_)
      refine GoO.push1 (bytes := 40) (y := .ag [nI n, .sl k 0 n none (some n), .i .u8 (Int.ofNat l.kind)]) hOt.1 rfl rfl rfl (by rw [List.length_map]; omega) rfl rfl fun v' σ' b1 b2 b3 b4 => ?_
      repeat (first | refine GoO.go rfl rfl rfl rfl ?_ | refine GoO.ld h0 rfl rfl rfl rfl ?_ | refine GoO.cmp rfl rfl rfl rfl rfl ?_ | refine GoO.off rfl rfl ?_ | refine GoO.nil ?_)
      refine GoF.region ?_
      refine GoO.bin (a := nI c) (b := nI 1) rfl rfl rfl rfl (bin_add (by omega)) ?_
      repeat (first | refine GoO.go rfl rfl rfl rfl ?_ | refine GoO.ld h0 rfl rfl rfl rfl ?_ | refine GoO.cmp rfl rfl rfl rfl rfl ?_ | refine GoO.off rfl rfl ?_ | refine GoO.nil ?_)
      have hvne : v.at? ≠ some k := fun h => by have := hvk _ h; omega
      refine hend v' (ps ++ [(c, k)]) σ' _ (by omega) (b4 _ _ hv0 h0) ⟨?_, fun x hx => ?_, fun x hx => ?_⟩ (by rw [b2]; intro h; injection h with h; omega) (by rw [List.length_append, List.length_singleton]; omega) ?_ ⟨rfl, rfl, rfl, rfl, rfl, trivial⟩
      · rw [List.map_append]; exact b1
      · rcases List.mem_append.1 hx with hx | hx
        · exact b4 _ _ (hOt.2.2 x hx) (hOt.2.1 x hx)
        · rw [List.mem_singleton.1 hx]
          exact b4 _ _ hvne h1
      · rw [b2]
        intro h
        injection h with h
        rcases List.mem_append.1 hx with hx | hx
        · have := St.get_lt (hOt.2.1 x hx); omega
        · rw [List.mem_singleton.1 hx] at h
          have h : τ.next + 1 = k := h
          omega
      · rw [← hcodes, hcs, List.map_append, List.append_assoc]; rfl
    · rw [hok] at hcs
      refine GoF.skip ?_
      refine GoF.region ?_
      refine GoO.bin (a := nI c) (b := nI 1) rfl rfl rfl rfl (bin_add (by omega)) ?_
      repeat (first | refine GoO.go rfl rfl rfl rfl ?_ | refine GoO.ld h0 rfl rfl rfl rfl ?_ | refine GoO.cmp rfl rfl rfl rfl rfl ?_ | refine GoO.off rfl rfl ?_ | refine GoO.nil ?_)
      exact hend v ps τ _ (by omega) h0 hOt hv0 (by omega) (by rw [← hcodes, hcs]; rfl) ⟨rfl, rfl, rfl, rfl, rfl, trivial⟩
  · have hge : ¬ c < 2 ^ (n * n) := of_decide_eq_false hf
    refine GoF.exit ?_
    repeat (first | refine GoO.go rfl rfl rfl rfl ?_ | refine GoO.ld h0 rfl rfl rfl rfl ?_ | refine GoO.cmp rfl rfl rfl rfl rfl ?_ | refine GoO.off rfl rfl ?_ | refine GoO.nil ?_ | refine GoF.seq ?_ | refine GoF.region ?_ | refine GoF.skip ?_ | refine GoF.block ?_)
    refine GoF.ret ⟨rfl, ?_⟩
    obtain rfl : m = 0 := by omega
    rw [show codesN l.kind fr n 0 c = [] from rfl, List.append_nil] at hcodes
    have hps : (placesN l.kind l.frame n).map (fun p => AV.ag (p.cells false)) = ps.map fun x => AV.ag [nI n, .tl false none ((List.range n).map fun w => nI (seesN n x.1 w)), .i .u8 (Int.ofNat l.kind)] := by
      rw [placesN, hfe, ← hcodes, List.map_map, List.map_map]
      refine List.map_congr_left fun x _ => ?_
      show AV.ag (Plc.cells false (plcOf n l.kind x.1)) = _
      simp [Plc.cells, plcOf, Function.comp_def]
    rw [hps]
    refine hO.1.freeze (n := 59) (mapO_map fun x hx => ?_)
    have hs := hO.2.1 x hx
    have e1 : freeze σ 0 58 (.sl x.2 0 n none (some n)) = some (.tl false none ((List.range n).map fun w => nI (seesN n x.1 w))) := by
      refine freeze_sl (n := 57) hs ?_ (mapO_id fun y hy => ?_)
      · have := elems_flat (sh := none) (xs := (List.range n).map fun w => nI (seesN n x.1 w)) (r := []) (fun y hy => by obtain ⟨w, _, rfl⟩ := List.mem_map.1 hy; rfl)
        rw [List.length_map, List.length_range, List.append_nil] at this
        rw [← this]
        congr 1
        induction (List.range n) with
        | nil => rfl
        | cons a t ih => rw [List.map_cons, List.flatMap_cons, ← ih]; rfl
      · obtain ⟨w, _, rfl⟩ := List.mem_map.1 hy; rfl
    show (match mapO (freeze σ 0 58) [nI n, .sl x.2 0 n none (some n), .i .u8 (Int.ofNat l.kind)] with | none => none | some l => some (AV.ag l)) = _
    rw [mapO_cons', mapO_cons', e1]; rfl
end
end Go.Lyc
