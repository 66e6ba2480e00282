/-
  What adequate computes: walks. No conditions: laws of these functions' code.
-/
import Derived.Test.YtbifkbdapfadfaaGreatDoorWs
set_option linter.all false
noncomputable section
namespace Go.Lyc
open Go.RowKit Go.Lyc.T

/-- What is known, as 'adequate' wants it. -/
inductive KQ (mt : SRl → Nat → Prop) (pl : SLg → Nat → List Plc → Prop) : Nat → List AV → AV → Prop
  | all (p : Plc) (hp : p.ok) : KQ mt pl n_all [p.A] (nI p.all)
  | later (p : Plc) (hp : p.ok) (set : Nat) (h : set < 2 ^ p.n) : KQ mt pl n_later [p.A, nI set] (nI (laterN p set))
  | sound (p : Plc) (hp : p.ok) (r : SRl) (hr : r.wf) (s : Sets) (hs : s.ok p) : KQ mt pl n_sound [p.A, r.A, s.A] (.b (soundN p s r))
  | metas (r : SRl) (k : Nat) (h : mt r k) : KQ mt pl n_metas [r.A] (nI k)
  | places (l : SLg) (n : Nat) (ps : List Plc) (h : pl l n ps) : KQ mt pl n_places [l.A, nI n] (slA false (some 3) (ps.map fun p => .ag (p.cells false)))
theorem KQ.fn {mt : SRl → Nat → Prop} {pl : SLg → Nat → List Plc → Prop} (hmt : ∀ r k k', mt r k → mt r k' → k = k') (hpl : ∀ l n a b, pl l n a → pl l n b → a = b) : ∀ g ar r r', KQ mt pl g ar r → KQ mt pl g ar r' → r = r' := fun g ar r r' h h' => by
  cases h with
  | all p hp =>
    generalize hq : [p.A] = ar' at h'
    cases h' with
    | all q hq' => rw [Plc.A_inj (List.cons.inj hq).1]
  | later p hp set h =>
    generalize hq : [p.A, nI set] = ar' at h'
    cases h' with
    | later q _ set' _ =>
      simp only [List.cons.injEq, and_true] at hq
      rw [Plc.A_inj hq.1, nI_inj hq.2]
  | sound p hp r hr s hs =>
    generalize hq : [p.A, r.A, s.A] = ar' at h'
    cases h' with
    | sound q _ r' _ s' _ =>
      simp only [List.cons.injEq, and_true] at hq
      rw [Plc.A_inj hq.1, SRl.A_inj hq.2.1, Sets.A_inj hq.2.2]
  | metas r k h =>
    generalize hq : [r.A] = ar' at h'
    cases h' with
    | metas r' k' h' =>
      simp only [List.cons.injEq, and_true] at hq
      rw [SRl.A_inj hq] at h
      rw [hmt _ _ _ h h']
  | places l n ps h =>
    generalize hq : [l.A, nI n] = ar' at h'
    cases h' with
    | places l' n' ps' h' =>
      simp only [List.cons.injEq, and_true] at hq
      rw [SLg.A_inj hq.1, nI_inj hq.2] at h
      rw [hpl _ _ _ _ h h']
structure BQ (b : Base) : Prop where
  p_all : b.pure n_all = true
  e_all : b.ext n_all = 0
  p_later : b.pure n_later = true
  e_later : b.ext n_later = 0
  p_sound : b.pure n_sound = true
  e_sound : b.ext n_sound = 0
  p_metas : b.pure n_metas = true
  e_metas : b.ext n_metas = 0
  p_places : b.pure n_places = true
  e_places : b.ext n_places = 0

section
variable {b : Base} (hB : BQ b) {mt : SRl → Nat → Prop} {pl : SLg → Nat → List Plc → Prop} (hmt : ∀ r k k', mt r k → mt r k' → k = k') (hpl : ∀ l n a b, pl l n a → pl l n b → a = b)

include hB hmt hpl in
set_option maxHeartbeats 0 in
theorem adequate_go (l : SLg) (hl : Snp 59 l.rules) (r : SRl) (hr : r.wf) (n k : Nat) (hk : mt r k) (hk4 : k ≤ 4) (ps : List Plc) (hps : pl l n ps) (hok : ∀ p ∈ ps, p.ok) (hlen : ps.length ≤ 1000)
    (hs : ∀ p ∈ ps, ∀ code, code < 2 ^ (k * p.n) → okK l.kind p code k = true → soundN p (setsK p code k) r = true) (body : ACode) (hb : c_adequate.body = some body) :
    GoF (b.envK (KQ mt pl)) 75 body (argF [l.A, r.A, nI n]) ⟨.nil, 0⟩ (fun x f σ' => x = .ret ∧ freeze σ' 0 60 (f 6) = some (.b true)) := by
  cases hb
  have hf := KQ.fn hmt hpl
  refine GoF.seq (GoF.region (GoO.box (v := l.A) (c := l.cells) 0 rfl rfl rfl rfl rfl rfl fun σ1 hn1 h0 _ => GoO.box (v := r.A) (c := r.cells) 1 hn1 rfl rfl rfl rfl rfl fun σ hn h1 k1 => ?_))
  replace h0 := k1 _ _ h0
  clear k1 hn1
  repeat (first | refine GoO.go rfl rfl rfl rfl ?_ | refine GoO.ld h0 rfl rfl rfl rfl ?_ | refine GoO.cmp rfl rfl rfl rfl rfl ?_ | refine GoO.off rfl rfl ?_ | refine GoO.nil ?_)
  refine GoF.seq (GoF.region ?_)
  refine GoO.ld h1 rfl rfl rfl (SRl.ld0 r) ?_
  refine GoO.known hf hB.e_metas hB.p_metas (KQ.metas r k hk) rfl rfl rfl (snaps1 (r.snp hr _)) ?_
  repeat (first | refine GoO.go rfl rfl rfl rfl ?_ | refine GoO.ld h0 rfl rfl rfl rfl ?_ | refine GoO.cmp rfl rfl rfl rfl rfl ?_ | refine GoO.off rfl rfl ?_ | refine GoO.nil ?_)
  refine GoF.seq (GoF.seq (GoF.region ?_))
  repeat (first | refine GoO.go rfl rfl rfl rfl ?_ | refine GoO.ld h0 rfl rfl rfl rfl ?_ | refine GoO.cmp rfl rfl rfl rfl rfl ?_ | refine GoO.off rfl rfl ?_ | refine GoO.nil ?_)
  refine GoO.known hf hB.e_places hB.p_places (KQ.places l n ps hps) rfl rfl rfl (snaps2 (l.snp hl _) rfl) ?_
  refine GoO.len rfl rfl rfl slA_lenM ?_
  repeat (first | refine GoO.go rfl rfl rfl rfl ?_ | refine GoO.ld h0 rfl rfl rfl rfl ?_ | refine GoO.cmp rfl rfl rfl rfl rfl ?_ | refine GoO.off rfl rfl ?_ | refine GoO.nil ?_)
  refine GoF.block ?_
  refine GoF.loop (fun m f σ' => 2 ≤ σ'.next ∧ σ'.get 0 = some (.cells l.cells) ∧ σ'.get 1 = some (.cells r.cells) ∧ ∃ i, i + m = ps.length ∧
    sat [(3, .p (some (0, 0))), (4, .p (some (1, 0))), (7, nI k), (18, slA false (some 3) (ps.map fun p => .ag (p.cells false))), (19, nI ps.length), (20, nI i)] f) ?_ ps.length
    ⟨by omega, h0, h1, 0, by omega, rfl, rfl, rfl, rfl, rfl, rfl, trivial⟩
  clear h0 h1 hn
  intro m g σ ⟨hn, h0, h1, i, hi, hL⟩
  refine GoF.norm _ hL fun g => ?_
  clear hL
  repeat (first | refine GoO.go rfl rfl rfl rfl ?_ | refine GoO.ld h0 rfl rfl rfl rfl ?_ | refine GoO.cmp rfl rfl rfl rfl rfl ?_ | refine GoO.off rfl rfl ?_ | refine GoO.nil ?_ | refine GoF.seq ?_ | refine GoF.region ?_ | refine GoF.skip ?_ | refine GoF.block ?_)
  refine GoF.cnd rfl (fun ht => ?_) (fun hf => ?_)
  · have hlt : i < ps.length := of_decide_eq_true ht
    generalize hpe : ps[i] = p
    have hpm : p ∈ ps := by rw [← hpe]; exact List.getElem_mem hlt
    have hp := hok p hpm
    replace hs := hs p hpm
    have hpn := hp.n
    have h63 := p60 _ hpn
    have hall := all_lt p
    have hl63 := Nat.lt_trans hall h63
    have hkn : k * p.n ≤ 12 := Nat.le_trans (Nat.mul_le_mul hk4 hpn) (by omega)
    have h12 : 2 ^ (k * p.n) ≤ 2 ^ 12 := Nat.pow_le_pow_right (by omega) hkn
    refine GoF.skip (GoF.seq (GoF.block (GoF.seq (GoF.region ?_))))
    refine GoO.idx (v := .tp false (.ag (p.cells false))) rfl rfl rfl rfl (by rw [← hpe]; exact slA_idxM hlt) ?_
    refine GoO.ldt rfl rfl rfl rfl ?_
    generalize hke : σ.next = q at hn
    refine GoO.var (v := .ag (p.cells false)) (c := p.cells false) q hke rfl rfl rfl rfl rfl rfl fun τ hn1 h2 k1 => ?_
    replace h0 := k1 _ _ h0
    replace h1 := k1 _ _ h1
    clear hke k1 σ
    refine GoO.nil (GoF.seq (GoF.region ?_))
    repeat (first | refine GoO.go rfl rfl rfl rfl ?_ | refine GoO.ld h0 rfl rfl rfl rfl ?_ | refine GoO.ld h2 rfl rfl rfl rfl ?_ | refine GoO.cmp rfl rfl rfl rfl rfl ?_ | refine GoO.off rfl rfl ?_ | refine GoO.nil ?_)
    refine GoO.bin (a := nI k) (b := nI p.n) rfl rfl rfl rfl (bin_mul (by omega)) ?_
    refine GoO.bin (a := nI 1) (b := nI (k * p.n)) rfl rfl rfl rfl (bin_shl1 (by omega)) ?_
    repeat (first | refine GoO.go rfl rfl rfl rfl ?_ | refine GoO.ld h0 rfl rfl rfl rfl ?_ | refine GoO.ld h2 rfl rfl rfl rfl ?_ | refine GoO.cmp rfl rfl rfl rfl rfl ?_ | refine GoO.off rfl rfl ?_ | refine GoO.nil ?_)
    refine GoF.block ?_
    refine GoF.loop (fun m' f σ' => q < σ'.next ∧ σ'.get 0 = some (.cells l.cells) ∧ σ'.get 1 = some (.cells r.cells) ∧ σ'.get q = some (.cells (p.cells false)) ∧ ∃ code, code + m' = 2 ^ (k * p.n) ∧
      sat [(3, .p (some (0, 0))), (4, .p (some (1, 0))), (7, nI k), (9, .p (some (q, 0))), (18, slA false (some 3) (ps.map fun p => .ag (p.cells false))), (19, nI ps.length), (20, nI i), (28, nI (2 ^ (k * p.n))), (29, nI code)] f) ?_ (2 ^ (k * p.n))
      ⟨by omega, h0, h1, h2, 0, by omega, rfl, rfl, rfl, rfl, rfl, rfl, rfl, rfl, rfl, trivial⟩
    clear h0 h1 h2 hn1
    intro m' g σ ⟨hnq, h0, h1, h2, code, hcode, hL⟩
    refine GoF.norm _ hL fun g => ?_
    clear hL
    repeat (first | refine GoO.go rfl rfl rfl rfl ?_ | refine GoO.ld h0 rfl rfl rfl rfl ?_ | refine GoO.ld h2 rfl rfl rfl rfl ?_ | refine GoO.cmp rfl rfl rfl rfl rfl ?_ | refine GoO.off rfl rfl ?_ | refine GoO.nil ?_ | refine GoF.seq ?_ | refine GoF.region ?_ | refine GoF.skip ?_ | refine GoF.block ?_)
    refine GoF.cnd rfl (fun ht => ?_) (fun hf => ?_)
    · have hclt : code < 2 ^ (k * p.n) := of_decide_eq_true ht
      refine GoF.skip (GoF.seq (GoF.block (GoF.seq (GoF.region ?_))))
      repeat (first | refine GoO.go rfl rfl rfl rfl ?_ | refine GoO.ld h0 rfl rfl rfl rfl ?_ | refine GoO.ld h2 rfl rfl rfl rfl ?_ | refine GoO.cmp rfl rfl rfl rfl rfl ?_ | refine GoO.off rfl rfl ?_ | refine GoO.nil ?_)
      refine GoF.seq (GoF.region ?_)
      generalize hke : σ.next = z at hnq
      refine GoO.alloc z hke rfl rfl rfl fun τ hn1 h3 k1 => ?_
      replace h0 := k1 _ _ h0
      replace h1 := k1 _ _ h1
      replace h2 := k1 _ _ h2
      clear hke k1 σ
      refine GoO.nil (GoF.seq (GoF.region ?_))
      repeat (first | refine GoO.go rfl rfl rfl rfl ?_ | refine GoO.ld h0 rfl rfl rfl rfl ?_ | refine GoO.ld h2 rfl rfl rfl rfl ?_ | refine GoO.cmp rfl rfl rfl rfl rfl ?_ | refine GoO.off rfl rfl ?_ | refine GoO.nil ?_)
      -- the sets
      refine GoF.cut' [(3, .p (some (0, 0))), (4, .p (some (1, 0))), (7, nI k), (9, .p (some (q, 0))), (11, .p (some (z, 0))), (12, .b (okK l.kind p code k)), (18, slA false (some 3) (ps.map fun p => .ag (p.cells false))), (19, nI ps.length), (20, nI i), (28, nI (2 ^ (k * p.n))), (29, nI code)]
        (fun σ' => z < σ'.next ∧ σ'.get 0 = some (.cells l.cells) ∧ σ'.get 1 = some (.cells r.cells) ∧ σ'.get q = some (.cells (p.cells false)) ∧ σ'.get z = some (.cells [nI (setsK p code k).1, nI (setsK p code k).2.1, nI (setsK p code k).2.2.1, nI (setsK p code k).2.2.2])) ?_ ?_
      · refine GoF.seq (GoF.region ?_)
        repeat (first | refine GoO.go rfl rfl rfl rfl ?_ | refine GoO.ld h0 rfl rfl rfl rfl ?_ | refine GoO.ld h2 rfl rfl rfl rfl ?_ | refine GoO.cmp rfl rfl rfl rfl rfl ?_ | refine GoO.off rfl rfl ?_ | refine GoO.nil ?_)
        refine GoF.block ?_
        refine GoF.loop (fun m'' f σ' => z < σ'.next ∧ σ'.get 0 = some (.cells l.cells) ∧ σ'.get 1 = some (.cells r.cells) ∧ σ'.get q = some (.cells (p.cells false)) ∧ ∃ j, j + m'' = k ∧
          σ'.get z = some (.cells [nI (setsK p code j).1, nI (setsK p code j).2.1, nI (setsK p code j).2.2.1, nI (setsK p code j).2.2.2]) ∧
          sat [(3, .p (some (0, 0))), (4, .p (some (1, 0))), (7, nI k), (9, .p (some (q, 0))), (10, nI code), (11, .p (some (z, 0))), (12, .b (okK l.kind p code j)), (18, slA false (some 3) (ps.map fun p => .ag (p.cells false))), (19, nI ps.length), (20, nI i), (28, nI (2 ^ (k * p.n))), (29, nI code), (32, nI k), (33, nI j)] f) ?_ k
          ⟨by omega, h0, h1, h2, 0, by omega, h3, rfl, rfl, rfl, rfl, rfl, rfl, rfl, rfl, rfl, rfl, rfl, rfl, rfl, rfl, trivial⟩
        clear h0 h1 h2 h3 hn1
        intro m'' g σ ⟨hnz, h0, h1, h2, j, hj, h3, hL⟩
        refine GoF.norm _ hL fun g => ?_
        clear hL
        repeat (first | refine GoO.go rfl rfl rfl rfl ?_ | refine GoO.ld h0 rfl rfl rfl rfl ?_ | refine GoO.ld h2 rfl rfl rfl rfl ?_ | refine GoO.cmp rfl rfl rfl rfl rfl ?_ | refine GoO.off rfl rfl ?_ | refine GoO.nil ?_ | refine GoF.seq ?_ | refine GoF.region ?_ | refine GoF.skip ?_ | refine GoF.block ?_)
        refine GoF.cnd rfl (fun ht => ?_) (fun hf => ?_)
        · have hjk : j < k := of_decide_eq_true ht
          have hjn : j * p.n ≤ 12 := Nat.le_trans (Nat.mul_le_mul (Nat.le_of_lt (Nat.lt_of_lt_of_le hjk hk4)) hpn) (by omega)
          refine GoF.skip (GoF.seq (GoF.block (GoF.seq (GoF.region ?_))))
          repeat (first | refine GoO.go rfl rfl rfl rfl ?_ | refine GoO.ld h0 rfl rfl rfl rfl ?_ | refine GoO.ld h2 rfl rfl rfl rfl ?_ | refine GoO.cmp rfl rfl rfl rfl rfl ?_ | refine GoO.off rfl rfl ?_ | refine GoO.nil ?_)
          refine GoF.seq (GoF.drawE (pre := [_, _, _, _, _, _, _, _, _, _, _]) rfl rfl ?_)
          repeat (first | refine GoP.go rfl rfl rfl rfl ?_ | refine GoP.ld h0 rfl rfl rfl rfl ?_ | refine GoP.ld h2 rfl rfl rfl rfl ?_ | refine GoP.cmp rfl rfl rfl rfl rfl ?_ | refine GoP.off rfl rfl ?_ | refine GoP.nil ?_)
          refine GoP.ldw h2 rfl rfl rfl rfl (Snp.eqb 60 _ (Snp.i 59 _ _)) ?_
          refine GoP.bin (a := nI j) (b := nI p.n) rfl rfl rfl rfl (bin_mul (by omega)) ?_
          refine GoP.bin (a := nI code) (b := nI (j * p.n)) rfl rfl rfl rfl (bin_shr (by omega)) ?_
          repeat (first | refine GoP.go rfl rfl rfl rfl ?_ | refine GoP.ld h0 rfl rfl rfl rfl ?_ | refine GoP.ld h2 rfl rfl rfl rfl ?_ | refine GoP.cmp rfl rfl rfl rfl rfl ?_ | refine GoP.off rfl rfl ?_ | refine GoP.nil ?_)
          refine GoP.known hf hB.e_all hB.p_all (KQ.all p hp) rfl rfl rfl (snaps1 (Plc.snapF false p _)) ?_
          refine GoP.bin rfl rfl rfl rfl (bin_and (Nat.lt_of_le_of_lt (Nat.div_le_self _ _) (by omega)) hl63) ?_
          refine GoP.val rfl rfl (op_idxArr (j := j) rfl rfl (by omega)) ?_
          refine GoP.nil ⟨rfl, undefA, _, op_store h3 rfl rfl rfl (setsK_snoc' p code j (by omega)), ?_⟩
          have hz := set_get (o' := .cells [nI (setsK p code (j + 1)).1, nI (setsK p code (j + 1)).2.1, nI (setsK p code (j + 1)).2.2.1, nI (setsK p code (j + 1)).2.2.2]) h3
          replace h0 := hz.2 _ _ (by omega) h0
          replace h1 := hz.2 _ _ (by omega) h1
          replace h2 := hz.2 _ _ (by omega) h2
          have h4 := hz.1
          have hnz' : z < (σ.set z (.cells [nI (setsK p code (j + 1)).1, nI (setsK p code (j + 1)).2.1, nI (setsK p code (j + 1)).2.2.1, nI (setsK p code (j + 1)).2.2.2])).next := hnz
          refine GoF.norm' [(3, .p (some (0, 0))), (4, .p (some (1, 0))), (7, nI k), (9, .p (some (q, 0))), (10, nI code), (11, .p (some (z, 0))), (12, .b (okK l.kind p code j)), (13, nI j), (18, slA false (some 3) (ps.map fun p => .ag (p.cells false))), (19, nI ps.length), (20, nI i), (28, nI (2 ^ (k * p.n))), (29, nI code), (32, nI k), (33, nI j)]
            (fun σ' => z < σ'.next ∧ σ'.get 0 = some (.cells l.cells) ∧ σ'.get 1 = some (.cells r.cells) ∧ σ'.get q = some (.cells (p.cells false)) ∧ σ'.get z = some (.cells [nI (setsK p code (j + 1)).1, nI (setsK p code (j + 1)).2.1, nI (setsK p code (j + 1)).2.2.1, nI (setsK p code (j + 1)).2.2.2]))
            ⟨rfl, rfl, rfl, rfl, rfl, rfl, rfl, rfl, rfl, rfl, rfl, rfl, rfl, rfl, rfl, trivial⟩ ⟨hnz', h0, h1, h2, h4⟩ fun g σ ⟨hnz, h0, h1, h2, h3⟩ => ?_
          have hend : ∀ (v : Bool) (g : Nat → AV), v = okK l.kind p code (j + 1) →
              sat [(3, .p (some (0, 0))), (4, .p (some (1, 0))), (7, nI k), (9, .p (some (q, 0))), (10, nI code), (11, .p (some (z, 0))), (12, .b v), (18, slA false (some 3) (ps.map fun p => .ag (p.cells false))), (19, nI ps.length), (20, nI i), (28, nI (2 ^ (k * p.n))), (29, nI code), (32, nI k), (33, nI (j + 1))] g →
              ∃ m', m' < m'' ∧ z < σ.next ∧ σ.get 0 = some (.cells l.cells) ∧ σ.get 1 = some (.cells r.cells) ∧ σ.get q = some (.cells (p.cells false)) ∧ ∃ j, j + m' = k ∧
                σ.get z = some (.cells [nI (setsK p code j).1, nI (setsK p code j).2.1, nI (setsK p code j).2.2.1, nI (setsK p code j).2.2.2]) ∧
                sat [(3, .p (some (0, 0))), (4, .p (some (1, 0))), (7, nI k), (9, .p (some (q, 0))), (10, nI code), (11, .p (some (z, 0))), (12, .b (okK l.kind p code j)), (18, slA false (some 3) (ps.map fun p => .ag (p.cells false))), (19, nI ps.length), (20, nI i), (28, nI (2 ^ (k * p.n))), (29, nI code), (32, nI k), (33, nI j)] g :=
            fun v g hv hL => ⟨m'' - 1, by omega, hnz, h0, h1, h2, j + 1, by omega, h3, by rw [← hv]; exact hL⟩
          cases hokj : okK l.kind p code j with
          | false =>
            refine GoF.draw rfl rfl ?_
            repeat (first | refine GoP.go rfl rfl rfl rfl ?_ | refine GoP.ld h0 rfl rfl rfl rfl ?_ | refine GoP.ld h2 rfl rfl rfl rfl ?_ | refine GoP.ld h3 rfl rfl rfl rfl ?_ | refine GoP.cmp rfl rfl rfl rfl rfl ?_ | refine GoP.off rfl rfl ?_ | refine GoP.nil ?_)
            refine GoF.region ?_
            refine GoO.bin (a := nI j) (b := nI 1) rfl rfl rfl rfl (bin_add (by omega)) ?_
            repeat (first | refine GoO.go rfl rfl rfl rfl ?_ | refine GoO.ld h0 rfl rfl rfl rfl ?_ | refine GoO.ld h2 rfl rfl rfl rfl ?_ | refine GoO.cmp rfl rfl rfl rfl rfl ?_ | refine GoO.off rfl rfl ?_ | refine GoO.nil ?_)
            exact hend false _ (by rw [okK, hokj]; rfl) ⟨rfl, rfl, rfl, rfl, rfl, rfl, rfl, rfl, rfl, rfl, rfl, rfl, rfl, rfl, trivial⟩
          | true =>
            by_cases hkd : l.kind = 3
            · refine GoF.draw rfl rfl ?_
              refine GoP.go rfl rfl rfl rfl ?_
              refine GoP.go rfl rfl rfl rfl ?_
              refine GoP.go rfl rfl rfl rfl ?_
              refine GoP.ld h0 rfl rfl rfl rfl ?_
              refine GoP.bin (a := .i .u8 (Int.ofNat l.kind)) (b := .i .u8 (Int.ofNat 3)) (v := .b false) rfl rfl rfl rfl (by rw [bin_neqk, hkd]; rfl) ?_
              repeat (first | refine GoP.go rfl rfl rfl rfl ?_ | refine GoP.ld h0 rfl rfl rfl rfl ?_ | refine GoP.ld h2 rfl rfl rfl rfl ?_ | refine GoP.cmp rfl rfl rfl rfl rfl ?_ | refine GoP.off rfl rfl ?_ | refine GoP.nil ?_)
              refine GoP.val rfl rfl (op_idxArr (j := j) rfl rfl (by omega)) ?_
              refine GoP.ld h3 rfl rfl rfl (setsK_ld p code j (by omega)) ?_
              repeat (first | refine GoP.go rfl rfl rfl rfl ?_ | refine GoP.ld h0 rfl rfl rfl rfl ?_ | refine GoP.ld h2 rfl rfl rfl rfl ?_ | refine GoP.cmp rfl rfl rfl rfl rfl ?_ | refine GoP.off rfl rfl ?_ | refine GoP.nil ?_)
              refine GoP.val rfl rfl (op_idxArr (j := j) rfl rfl (by omega)) ?_
              refine GoP.ldw h3 rfl rfl rfl (setsK_ld p code j (by omega)) (Snp.eqb 60 _ (Snp.i 59 _ _)) ?_
              refine GoP.known hf hB.e_later hB.p_later (KQ.later p hp _ (bitsN_lt p code j)) rfl rfl rfl (snaps2 (Plc.snapF false p _) rfl) ?_
              refine GoP.bin rfl rfl rfl rfl bin_eqk ?_
              repeat (first | refine GoP.go rfl rfl rfl rfl ?_ | refine GoP.ld h0 rfl rfl rfl rfl ?_ | refine GoP.ld h2 rfl rfl rfl rfl ?_ | refine GoP.cmp rfl rfl rfl rfl rfl ?_ | refine GoP.off rfl rfl ?_ | refine GoP.nil ?_)
              refine GoF.region ?_
              refine GoO.bin (a := nI j) (b := nI 1) rfl rfl rfl rfl (bin_add (by omega)) ?_
              repeat (first | refine GoO.go rfl rfl rfl rfl ?_ | refine GoO.ld h0 rfl rfl rfl rfl ?_ | refine GoO.ld h2 rfl rfl rfl rfl ?_ | refine GoO.cmp rfl rfl rfl rfl rfl ?_ | refine GoO.off rfl rfl ?_ | refine GoO.nil ?_)
              exact hend _ _ (by rw [okK, hokj, hkd]; rfl) ⟨rfl, rfl, rfl, rfl, rfl, rfl, rfl, rfl, rfl, rfl, rfl, rfl, rfl, rfl, trivial⟩
            · refine GoF.draw rfl rfl ?_
              refine GoP.go rfl rfl rfl rfl ?_
              refine GoP.go rfl rfl rfl rfl ?_
              refine GoP.go rfl rfl rfl rfl ?_
              refine GoP.ld h0 rfl rfl rfl rfl ?_
              refine GoP.bin (a := .i .u8 (Int.ofNat l.kind)) (b := .i .u8 (Int.ofNat 3)) (v := .b true) rfl rfl rfl rfl (by rw [bin_neqk, decide_eq_false hkd]; rfl) ?_
              repeat (first | refine GoP.go rfl rfl rfl rfl ?_ | refine GoP.ld h0 rfl rfl rfl rfl ?_ | refine GoP.ld h2 rfl rfl rfl rfl ?_ | refine GoP.cmp rfl rfl rfl rfl rfl ?_ | refine GoP.off rfl rfl ?_ | refine GoP.nil ?_)
              refine GoF.region ?_
              refine GoO.bin (a := nI j) (b := nI 1) rfl rfl rfl rfl (bin_add (by omega)) ?_
              repeat (first | refine GoO.go rfl rfl rfl rfl ?_ | refine GoO.ld h0 rfl rfl rfl rfl ?_ | refine GoO.ld h2 rfl rfl rfl rfl ?_ | refine GoO.cmp rfl rfl rfl rfl rfl ?_ | refine GoO.off rfl rfl ?_ | refine GoO.nil ?_)
              exact hend true _ (by rw [okK, hokj, decide_eq_false hkd]; rfl) ⟨rfl, rfl, rfl, rfl, rfl, rfl, rfl, rfl, rfl, rfl, rfl, rfl, rfl, rfl, trivial⟩
        · have hge : ¬ j < k := of_decide_eq_false hf
          obtain rfl : j = k := by omega
          exact GoF.exit ⟨rfl, ⟨hnz, h0, h1, h2, h3⟩, rfl, rfl, rfl, rfl, rfl, rfl, rfl, rfl, rfl, rfl, rfl, trivial⟩
      clear h0 h1 h2 h3 hn1
      intro g σ ⟨hnz, h0, h1, h2, h3⟩
      have hend : ∀ (g : Nat → AV),
          sat [(3, .p (some (0, 0))), (4, .p (some (1, 0))), (7, nI k), (9, .p (some (q, 0))), (18, slA false (some 3) (ps.map fun p => .ag (p.cells false))), (19, nI ps.length), (20, nI i), (28, nI (2 ^ (k * p.n))), (29, nI (code + 1))] g →
          ∃ m'', m'' < m' ∧ q < σ.next ∧ σ.get 0 = some (.cells l.cells) ∧ σ.get 1 = some (.cells r.cells) ∧ σ.get q = some (.cells (p.cells false)) ∧ ∃ code, code + m'' = 2 ^ (k * p.n) ∧
            sat [(3, .p (some (0, 0))), (4, .p (some (1, 0))), (7, nI k), (9, .p (some (q, 0))), (18, slA false (some 3) (ps.map fun p => .ag (p.cells false))), (19, nI ps.length), (20, nI i), (28, nI (2 ^ (k * p.n))), (29, nI code)] g :=
        fun g hL => ⟨m' - 1, by omega, by omega, h0, h1, h2, code + 1, by omega, hL⟩
      have hso := hs code hclt
      refine GoF.seq (GoF.region ?_)
      cases hokk : okK l.kind p code k with
      | false =>
        repeat (first | refine GoO.go rfl rfl rfl rfl ?_ | refine GoO.ld h0 rfl rfl rfl rfl ?_ | refine GoO.ld h2 rfl rfl rfl rfl ?_ | refine GoO.cmp rfl rfl rfl rfl rfl ?_ | refine GoO.off rfl rfl ?_ | refine GoO.nil ?_)
        refine GoF.cnd rfl (fun h => by cases h) (fun _ => ?_)
        refine GoF.skip ?_
        refine GoF.region ?_
        refine GoO.bin (a := nI code) (b := nI 1) rfl rfl rfl rfl (bin_add (by omega)) ?_
        repeat (first | refine GoO.go rfl rfl rfl rfl ?_ | refine GoO.ld h0 rfl rfl rfl rfl ?_ | refine GoO.ld h2 rfl rfl rfl rfl ?_ | refine GoO.cmp rfl rfl rfl rfl rfl ?_ | refine GoO.off rfl rfl ?_ | refine GoO.nil ?_)
        exact hend _ ⟨rfl, rfl, rfl, rfl, rfl, rfl, rfl, rfl, rfl, trivial⟩
      | true =>
        repeat (first | refine GoO.go rfl rfl rfl rfl ?_ | refine GoO.ld h0 rfl rfl rfl rfl ?_ | refine GoO.ld h2 rfl rfl rfl rfl ?_ | refine GoO.cmp rfl rfl rfl rfl rfl ?_ | refine GoO.off rfl rfl ?_ | refine GoO.nil ?_)
        refine GoO.ld h1 rfl rfl rfl (SRl.ld0 r) ?_
        refine GoO.ld (v := (setsK p code k).A) h3 rfl rfl rfl rfl ?_
        refine GoO.known hf hB.e_sound hB.p_sound (KQ.sound p hp r hr _ (setsK_ok p code k)) rfl rfl rfl (snaps3 (Plc.snapF false p _) (r.snp hr _) ((Sets.snp _).le (by omega) _)) ?_
        rw [hso hokk]
        repeat (first | refine GoO.go rfl rfl rfl rfl ?_ | refine GoO.ld h0 rfl rfl rfl rfl ?_ | refine GoO.ld h2 rfl rfl rfl rfl ?_ | refine GoO.cmp rfl rfl rfl rfl rfl ?_ | refine GoO.off rfl rfl ?_ | refine GoO.nil ?_)
        refine GoF.cnd rfl (fun h => by cases h) (fun _ => ?_)
        refine GoF.skip ?_
        refine GoF.region ?_
        refine GoO.bin (a := nI code) (b := nI 1) rfl rfl rfl rfl (bin_add (by omega)) ?_
        repeat (first | refine GoO.go rfl rfl rfl rfl ?_ | refine GoO.ld h0 rfl rfl rfl rfl ?_ | refine GoO.ld h2 rfl rfl rfl rfl ?_ | refine GoO.cmp rfl rfl rfl rfl rfl ?_ | refine GoO.off rfl rfl ?_ | refine GoO.nil ?_)
        exact hend _ ⟨rfl, rfl, rfl, rfl, rfl, rfl, rfl, rfl, rfl, trivial⟩
    · have hge : ¬ code < 2 ^ (k * p.n) := of_decide_eq_false hf
      refine GoF.exit ?_
      refine GoF.region ?_
      refine GoO.bin (a := nI i) (b := nI 1) rfl rfl rfl rfl (bin_add (by omega)) ?_
      repeat (first | refine GoO.go rfl rfl rfl rfl ?_ | refine GoO.ld h0 rfl rfl rfl rfl ?_ | refine GoO.cmp rfl rfl rfl rfl rfl ?_ | refine GoO.off rfl rfl ?_ | refine GoO.nil ?_)
      exact ⟨m - 1, by omega, by omega, h0, h1, i + 1, by omega, rfl, rfl, rfl, rfl, rfl, rfl, trivial⟩
  · refine GoF.exit ?_
    repeat (first | refine GoO.go rfl rfl rfl rfl ?_ | refine GoO.ld h0 rfl rfl rfl rfl ?_ | refine GoO.cmp rfl rfl rfl rfl rfl ?_ | refine GoO.off rfl rfl ?_ | refine GoO.nil ?_ | refine GoF.seq ?_ | refine GoF.region ?_ | refine GoF.skip ?_ | refine GoF.block ?_)
    exact GoF.ret ⟨rfl, rfl⟩
end
end Go.Lyc
