/-
  What functions of the program compute: walks, part 2. No conditions: definitions and laws.
-/
import Derived.Test.YtbifkbdapfadfaaGreatDoorHw1
set_option linter.all false
noncomputable section
namespace Go.Lyc
open Go.RowKit Go.Lyc.T
section
variable {b : Base} {K : Nat → List AV → AV → Prop} (hf : ∀ g ar r r', K g ar r → K g ar r' → r = r')
theorem Functions1_go (hh : Here (b.envK K) n_Functions1 c_Functions1) (t : Tm) {mid bx : Nat} {ks : List Sy} (σ : St) (hm : σ.get mid = some (.map (setE symA 0 ks) ks.length)) (hbx : σ.get bx = some (.cells [.m (some mid)])) :
  GoesCall (b.envK K) 0 (.f (.func n_Functions1) [] [.p (some (bx, 0))]) [t.A true] σ (fun r σ' => r = .ok (.b true) ∧ σ'.get mid = some (.map (setE symA 0 (funT t ks)) (funT t ks).length) ∧ Keep (fun i => i = mid) σ σ') := by
 refine GoesCall.code hh.e hh.p hh.f rfl rfl rfl rfl ?_
 have hlt := St.get_lt hm
 have hltb := St.get_lt hbx
 refine GoF.seq (GoF.region (GoO.box (v := t.A true) (c := t.cells true) σ.next rfl rfl rfl rfl rfl rfl fun τ hn h1 k1 => ?_))
 refine GoO.go rfl rfl rfl rfl ?_
 replace hm := k1 _ _ hm
 replace hbx := k1 _ _ hbx
 refine GoO.nil (GoF.seq (GoF.seq (GoF.region ?_)))
 refine GoO.go rfl rfl rfl rfl ?_
 refine GoO.ld h1 rfl rfl rfl (Tm.ldV true t) ?_
 refine GoO.go rfl rfl rfl rfl ?_
 have fin : ∀ {f : Nat → AV} {τ2 : St}, τ2.get mid = some (.map (setE symA 0 (funT t ks)) (funT t ks).length) → τ2.next = τ.next → (∀ i o, i ≠ mid → τ.get i = some o → τ2.get i = some o) → GoF (b.envK K) 14 (.seq (.region [⟨(some 3), .mv (.c (.b true)), none, []⟩]) .ret) f τ2 (fun x f' σ' => x = .ret ∧ Ret.ok (f' 3) = .ok (.b true) ∧ σ'.get mid = some (.map (setE symA 0 (funT t ks)) (funT t ks).length) ∧ Keep (fun i => i = mid) σ σ') := by
  intro f τ2 g1 g2 g3
  refine GoF.seq (GoF.region ?_)
  refine GoO.go rfl rfl rfl rfl ?_
  exact GoO.nil (GoF.ret ⟨rfl, rfl, g1, by omega, fun i o hi ho => g3 i o hi (k1 i o ho)⟩)
 refine GoO.nil (GoF.cnd (t := !t.var) rfl (fun h => ?_) (fun h => ?_))
 ·have hv : t.var = false := by cases hv : t.var with | false => rfl | true => rw [hv] at h; cases h
  refine GoF.region ?_
  refine GoO.ld (v := .m (some mid)) hbx rfl rfl rfl rfl ?_
  refine GoO.go rfl rfl rfl rfl ?_
  refine GoO.ld h1 rfl rfl rfl (Tm.ldN true t) ?_
  refine GoO.go rfl rfl rfl rfl ?_
  refine GoO.ld h1 rfl rfl rfl (Tm.ldA true t) ?_
  refine GoO.len rfl rfl rfl tmsA_len ?_
  refine GoO.go (v := symA (t.name, t.args.length)) rfl rfl rfl rfl ?_
  refine GoO.mapUpdS (ka := symA) (k := (t.name, t.args.length)) keyEq_sym hm rfl rfl fun τ3 n6 h6 k6 => ?_
  exact GoO.nil (fin (by unfold funT; rw [if_pos hv]; exact h6) n6 k6)
 ·have hv : ¬ t.var = false := fun hv => by rw [hv] at h; cases h
  exact GoF.skip (fin (by unfold funT; rw [if_neg hv]; exact hm) rfl fun i o _ h => h)
include hf in
theorem Functions_go (hs : SrtH b K) (hh : Here (b.envK K) n_Functions c_Functions) (h1f : Here (b.envK K) n_Functions1 c_Functions1) (hvt : Here (b.envK K) n_visitTerms c_visitTerms) (hv : Here (b.envK K) n_visit c_visit) (hw1 : Here (b.envK K) n_walk1 c_walk1) (hw : Here (b.envK K) n_walk c_walk) (F : Fm) (hF : F.few) (hn12 : (funsN F).length ≤ 12) (σ : St) :
  GoesCall (b.envK K) 0 (.f (.func n_Functions) [] []) [F.A true] σ (fun r σ' => ∃ (v : AV) (c : List Sy), r = .ok v ∧ c.Perm (funsN F) ∧ Acc σ' (some 2) v (c.map symA) ∧ (∀ a, v.at? = some a → σ.next ≤ a) ∧ More σ σ') := by
 generalize hk : σ.next = k
 refine GoesCall.codeX (d := k + 4) hh.e hh.p hh.f rfl rfl rfl rfl ?_
 refine GoX.seqA (GoF.region (GoO.box (v := F.A true) (c := F.cells true) k hk rfl rfl rfl rfl rfl fun σ1 hn1 h1 k1 => ?_))
 repeat (first | refine GoO.go rfl rfl rfl rfl ?_ | refine GoO.cmp rfl rfl rfl rfl rfl ?_ | refine GoO.off rfl rfl ?_ | refine GoO.nil ?_)
 refine ⟨rfl, GoX.seqA (GoF.region (GoO.mkMap (k + 1) hn1 rfl fun σ2 hn2 h2 k2 => ?_))⟩
 refine GoO.var (v := .m (some (k + 1))) (c := [.m (some (k + 1))]) (k + 2) hn2 rfl rfl rfl rfl rfl rfl fun σ3 hn3 h3 k3 => ?_
 replace h1 := k3 _ _ (k2 _ _ h1)
 replace h2 := k3 _ _ h2
 refine GoO.nil ⟨rfl, GoX.seqB (GoX.seqA (GoF.region ?_))⟩
 refine GoO.ld h1 rfl rfl rfl (Fm.ld true F) ?_
 refine GoO.callG rfl rfl rfl (walkG hw true F σ3 (k + 3) hn3) fun r σ4 ⟨e1, hn4, h4, k4⟩ => ⟨_, e1, ?_⟩
 replace h1 := k4 _ _ h1
 replace h2 := k4 _ _ h2
 replace h3 := k4 _ _ h3
 have kk : ∀ i o, σ.get i = some o → σ4.get i = some o := fun i o ho => k4 i o (k3 i o (k2 i o (k1 i o ho)))
 refine GoO.nil ⟨rfl, GoX.block ?_⟩
 refine GoX.walk hv hw1 true (fun i => i = k + 1 ∨ i = k + 2) (fun l τ => ∃ ks, funsL l ks = funsN F ∧ τ.get (k + 1) = some (.map (setE symA 0 ks) ks.length) ∧ τ.get (k + 2) = some (.cells [.m (some (k + 1))])) (k + 4) hn4 rfl rfl hF h4 (fun i hi => by omega) (fun l τ τ' ⟨ks, a1, a2, a3⟩ hk => ⟨ks, a1, hk _ _ (.inl rfl) a2, hk _ _ (.inr rfl) a3⟩) ⟨[], rfl, h2, h3⟩ ?_ ?_
 ·intro G rest τ hG hτ ⟨ks, a1, a2, a3⟩
  refine GoF.region ?_
  refine GoO.var (v := G.A true) (c := G.cells true) τ.next rfl rfl rfl rfl (Fm.conf true G) rfl (Fm.len true G) fun τ1 hn4 h4 k4 => ?_
  refine GoO.nil ⟨rfl, .of (by omega) k4, fun τ2 hn5 k5 => ?_⟩
  replace h4 := k5 _ _ (by omega) h4
  replace a2 := k5 _ _ (by omega) (k4 _ _ a2)
  replace a3 := k5 _ _ (by omega) (k4 _ _ a3)
  refine GoF.block (GoF.region ?_)
  repeat (first | refine GoO.go rfl rfl rfl rfl ?_ | refine GoO.cmp rfl rfl rfl rfl rfl ?_ | refine GoO.off rfl rfl ?_ | refine GoO.nil ?_)
  refine GoO.ld h4 rfl rfl rfl (Fm.ldA true G) ?_
  refine GoO.go rfl rfl rfl rfl ?_
  refine GoO.callG rfl rfl rfl (visitTerms_go hvt true (W := fun i => i = k + 1) (B := k + 2) (fun i hi => by omega) (fun l τ => ∃ ks', funsT l ks' = funsT (Tm.partsL G.args) ks ∧ τ.get (k + 1) = some (.map (setE symA 0 ks') ks'.length) ∧ τ.get (k + 2) = some (.cells [.m (some (k + 1))]))
   (fun l τ τ' ⟨ks', b1, b2, b3⟩ _ hk => ⟨ks', b1, hk _ _ b2, hk _ _ b3⟩) (.f (.func n_Functions1) [] [.p (some (k + 2, 0))]) ?_ (Tm.deps G.args + 1) G.oargs [] τ2 (by show Tm.deps G.args < _; omega) hG.arg hG.alen (by omega) ⟨ks, by rw [List.append_nil]; rfl, a2, a3⟩) fun r τ3 ⟨e1, ⟨ks', b1, b2, b3⟩, K3⟩ => ⟨_, e1, ?_⟩
  ·rintro t rest' τ ht hB ⟨ks', b1, b2, b3⟩
   refine (Functions1_go h1f t τ b2 b3).mono fun r τ' ⟨e1, c2, K⟩ => ⟨e1, ⟨_, b1, c2, K.keep _ _ (by omega) b3⟩, K⟩
  ·have b1 : ks' = funsT (Tm.partsL G.args) ks := b1
   subst b1
   exact GoO.nil ⟨rfl, ⟨_, a1, b2, b3⟩, K3.next, fun i o hi ho => K3.keep i o (fun e => hi (.inl e)) ho⟩
 ·intro τ ⟨ks, a1, a2, a3⟩ hτ hd hold
  have a1 : ks = funsN F := a1
  subst a1
  refine ⟨rfl, rfl, ?_⟩
  refine GoF.seq (GoF.region ?_)
  refine GoO.ld (v := .m (some (k + 1))) a3 rfl rfl rfl rfl ?_
  refine GoO.callG rfl rfl rfl (sorted_go hf hs.sorted hs.keys hs.sfn hs.col hs.app hs.keys1 hs.srt hs.len hs.len64 hs.pdq hs.ins hs.cmp hs.ec hn12 τ a2) fun r τ2 ⟨v, c, e1, b1, b2, b3, b4⟩ => ⟨_, e1, ?_⟩
  refine GoO.go rfl rfl rfl rfl ?_
  have hn := b4.1
  have hset := set_get (o' := AO.dead) (b4.2 _ _ hd)
  refine GoO.nil (GoF.ret ⟨rfl, b4.2 _ _ hd, v, c, rfl, b1, b2.keep fun i o hi ho => hset.2 i o (by have := b3 i hi; omega) ho, fun a e => by have := b3 a e; omega, by show σ.next ≤ τ2.next; omega, fun i o ho => ?_⟩)
  have := St.get_lt ho
  exact hset.2 i o (by omega) (b4.2 i o (hold i o (by omega) (kk i o ho)))
def atomsOf (kind : Nat) : Nat := if kind = 2 then 2 else 0
def funsOf (kind : Nat) : Nat := if kind = 2 then 1 else 0
def allLe (n : Nat) (l : List Sy) : Bool := l.all fun s => decide (s.2 ≤ n)
def argsB (kind : Nat) (F : Fm) : Bool := allLe (atomsOf kind) (predsN F) && allLe (funsOf kind) (funsN F)
theorem allLe_perm {n : Nat} {l m : List Sy} (h : l.Perm m) : allLe n l = allLe n m := by
 unfold allLe
 rw [Bool.eq_iff_iff, List.all_eq_true, List.all_eq_true]
 exact ⟨fun hl x hx => hl x (h.mem_iff.2 hx), fun hl x hx => hl x (h.mem_iff.1 hx)⟩
theorem allLe_take {n : Nat} {l : List Sy} {i : Nat} (hi : i < l.length) (h : allLe n (l.take i) = true) : (l[i].2 ≤ n → allLe n (l.take (i + 1)) = true) ∧ (¬ l[i].2 ≤ n → allLe n l = false) := by
 refine ⟨fun h2 => ?_, fun h2 => ?_⟩
 ·rw [List.take_succ_eq_append_getElem hi]
  unfold allLe at *
  rw [List.all_append, h, Bool.true_and, List.all_cons, decide_eq_true h2]; rfl
 ·unfold allLe
  cases hb : l.all (fun s => decide (s.2 ≤ n)) with
  | false => rfl
  | true => exact absurd (of_decide_eq_true (List.all_eq_true.1 hb _ (List.getElem_mem hi))) h2
include hf in
theorem argsAllowed_go (hs : SrtH b K) (hp : Here (b.envK K) n_Predicates c_Predicates) (hh : Here (b.envK K) n_Functions c_Functions) (h1f : Here (b.envK K) n_Functions1 c_Functions1) (hvt : Here (b.envK K) n_visitTerms c_visitTerms) (hv : Here (b.envK K) n_visit c_visit) (hw1 : Here (b.envK K) n_walk1 c_walk1) (hw : Here (b.envK K) n_walk c_walk)
  (kind : Nat) (F : Fm) (hF : F.few) (hp12 : (predsN F).length ≤ 12) (hn12 : (funsN F).length ≤ 12) (body : ACode) (hb : c_argsAllowed.body = some body) : GoF (b.envK K) 37 body (argF [.i .u8 (Int.ofNat kind), F.A true]) ⟨.nil, 0⟩ (Done 4 (.b (argsB kind F))) := by
 cases hb
 refine GoF.seq (GoF.region (GoO.box (v := F.A true) (c := F.cells true) 0 rfl rfl rfl rfl rfl rfl fun σ1 hn1 h1 k1 => ?_))
 refine GoO.go rfl rfl rfl rfl ?_
 refine GoO.nil (GoF.seq (GoF.region ?_))
 refine GoO.go rfl rfl rfl rfl ?_
 refine GoO.go rfl rfl rfl rfl ?_
 refine GoO.nil (GoF.seq ?_)
 refine GoF.seq (GoF.region ?_)
 refine GoO.go rfl rfl rfl rfl ?_
 refine GoO.bin (a := .i .u8 (Int.ofNat kind)) (b := .i .u8 (Int.ofNat 2)) (v := .b (decide (kind = 2))) rfl rfl rfl rfl (bin_cmp rfl) ?_
 refine GoO.nil ?_
 suffices hrest : ∀ g, GoF (b.envK K) 37 _ (upds [(3, .p (some (0, 0))), (5, nI (atomsOf kind)), (6, nI (funsOf kind))] g) σ1 (Done 4 (.b (argsB kind F))) by
  refine GoF.cnd rfl (fun h => ?_) (fun h => ?_)
  ·have hk : kind = 2 := of_decide_eq_true h
   refine GoF.region ?_
   refine GoO.go rfl rfl rfl rfl ?_
   refine GoO.go rfl rfl rfl rfl ?_
   refine GoO.nil (GoF.norm [(3, .p (some (0, 0))), (5, nI (atomsOf kind)), (6, nI (funsOf kind))] ⟨rfl, ?_, ?_, trivial⟩ hrest)
   ·unfold atomsOf; rw [if_pos hk]; rfl
   ·unfold funsOf; rw [if_pos hk]; rfl
  ·have hk : ¬ kind = 2 := of_decide_eq_false h
   refine GoF.skip (GoF.norm [(3, .p (some (0, 0))), (5, nI (atomsOf kind)), (6, nI (funsOf kind))] ⟨rfl, ?_, ?_, trivial⟩ hrest)
   ·unfold atomsOf; rw [if_neg hk]; rfl
   ·unfold funsOf; rw [if_neg hk]; rfl
 intro g
 generalize hat : atomsOf kind = na
 generalize hfu : funsOf kind = nf
 refine GoF.seq (GoF.seq (GoF.region ?_))
 refine GoO.ld h1 rfl rfl rfl (Fm.ld true F) ?_
 refine GoO.callG rfl rfl rfl (Predicates_go hf hs hp hv hw1 hw F hF hp12 σ1) fun r σ2 ⟨v, c, e1, b1, b2, b3, b4⟩ => ⟨_, e1, ?_⟩
 refine GoO.len (m := c.length) rfl rfl rfl (by have := b2.len (τ := σ2); rwa [List.length_map] at this) ?_
 refine GoO.go rfl rfl rfl rfl ?_
 refine GoO.nil (GoF.block ?_)
 have hc12 : c.length ≤ 12 := by have := b1.length_eq; omega
 have hall : allLe na c = allLe na (predsN F) := allLe_perm b1
 refine GoF.loop (fun m f τ => ∃ i, i + m = c.length ∧ allLe na (c.take i) = true ∧ Acc τ (some 2) v (c.map symA) ∧ (∀ a, v.at? = some a → σ1.next ≤ a) ∧ σ1.next ≤ τ.next ∧ τ.get 0 = some (.cells (F.cells true)) ∧
  sat [(3, .p (some (0, 0))), (5, nI na), (6, nI nf), (14, v), (15, nI c.length), (16, nI i)] f) ?_ c.length ⟨0, by omega, rfl, b2, b3, b4.1, b4.2 _ _ h1, rfl, rfl, rfl, rfl, rfl, rfl, trivial⟩
 clear b1 b2 b3 b4 h1 hn1 k1
 intro m g τ ⟨i, hi, hle, hA, hat', hn, h1, hL⟩
 refine GoF.norm _ hL fun g => ?_
 clear hL
 refine GoF.seq (GoF.region ?_)
 refine GoO.bin (a := nI i) (b := nI c.length) (v := .b (decide (i < c.length))) rfl rfl rfl rfl (bin_cmp rfl) ?_
 refine GoO.nil (GoF.seq ?_)
 refine GoF.cnd rfl (fun ht => ?_) (fun hfl => ?_)
 ·have hlt : i < c.length := of_decide_eq_true ht
  obtain ⟨o, hvo, ho, hcf⟩ := hA.inv (by rw [List.length_map]; omega)
  rw [List.length_map] at hvo
  subst hvo
  refine GoF.skip (GoF.seq (GoF.block (GoF.seq (GoF.region ?_))))
  have e1 : takeSh (some 2) (((c.map symA).flatMap AV.cells).drop (0 + i * shN (some 2))) = some (symA c[i]) := by
   rw [take_elem (by rw [List.length_map]; omega) hcf, List.getElem_map]
  refine GoO.idx (j := i) rfl rfl rfl rfl (idxSlA_sl hlt) ?_
  refine GoO.ld (v := symA c[i]) ho rfl rfl rfl e1 ?_
  refine GoO.var (v := symA c[i]) (c := [.s c[i].1, nI c[i].2]) τ.next rfl rfl rfl rfl rfl rfl rfl fun τ2 hn2 h4 k2 => ?_
  refine GoO.nil (GoF.seq (GoF.region ?_))
  refine GoO.go rfl rfl rfl rfl ?_
  refine GoO.ld (v := nI c[i].2) h4 rfl rfl rfl rfl ?_
  refine GoO.go rfl rfl rfl rfl ?_
  refine GoO.bin (a := nI c[i].2) (b := nI na) (v := .b (decide (na < c[i].2))) rfl rfl rfl rfl (bin_cmp rfl) ?_
  refine GoO.nil (GoF.cnd rfl (fun h => ?_) (fun h => ?_))
  ·have hgt : na < c[i].2 := of_decide_eq_true h
   refine GoF.seq (GoF.region ?_)
   refine GoO.go rfl rfl rfl rfl ?_
   refine GoO.nil (GoF.ret ⟨rfl, ?_⟩)
   have := (allLe_take hlt hle).2 (by omega)
   show some (AV.b false) = _
   unfold argsB
   rw [hat, ← hall, this]; rfl
  ·have hng : ¬ na < c[i].2 := of_decide_eq_false h
   refine GoF.skip (GoF.region ?_)
   refine GoO.bin (a := nI i) (b := nI 1) rfl rfl rfl rfl (bin_add (by omega)) ?_
   refine GoO.go rfl rfl rfl rfl ?_
   exact GoO.nil ⟨m - 1, by omega, i + 1, by omega, (allLe_take hlt hle).1 (by omega), hA.keep fun i o _ ho => k2 i o ho, hat', by omega, k2 _ _ h1, rfl, rfl, rfl, rfl, rfl, rfl, trivial⟩
 ·have hge : ¬ i < c.length := of_decide_eq_false hfl
  obtain rfl : i = c.length := by omega
  rw [List.take_length, hall] at hle
  refine GoF.exit ?_
  clear hA hat' hall hc12 hn
  have ea : argsB kind F = allLe nf (funsN F) := by unfold argsB; rw [hat, hfu, hle]; rfl
  rw [ea]
  refine GoF.seq (GoF.seq (GoF.region ?_))
  refine GoO.ld h1 rfl rfl rfl (Fm.ld true F) ?_
  refine GoO.callG rfl rfl rfl (Functions_go hf hs hh h1f hvt hv hw1 hw F hF hn12 τ) fun r σ2 ⟨v, c, e1, b1, b2, b3, b4⟩ => ⟨_, e1, ?_⟩
  refine GoO.len (m := c.length) rfl rfl rfl (by have := b2.len (τ := σ2); rwa [List.length_map] at this) ?_
  refine GoO.go rfl rfl rfl rfl ?_
  refine GoO.nil (GoF.block ?_)
  have hc12 : c.length ≤ 12 := by have := b1.length_eq; omega
  have hall : allLe nf c = allLe nf (funsN F) := allLe_perm b1
  refine GoF.loop (fun m f τ => ∃ i, i + m = c.length ∧ allLe nf (c.take i) = true ∧ Acc τ (some 2) v (c.map symA) ∧
   sat [(6, nI nf), (26, v), (27, nI c.length), (28, nI i)] f) ?_ c.length ⟨0, by omega, rfl, b2, rfl, rfl, rfl, rfl, trivial⟩
  clear b1 b2 b3 b4 h1
  intro m g τ ⟨i, hi, hle, hA, hL⟩
  refine GoF.norm _ hL fun g => ?_
  clear hL
  refine GoF.seq (GoF.region ?_)
  refine GoO.bin (a := nI i) (b := nI c.length) (v := .b (decide (i < c.length))) rfl rfl rfl rfl (bin_cmp rfl) ?_
  refine GoO.nil (GoF.seq ?_)
  refine GoF.cnd rfl (fun ht => ?_) (fun hfl => ?_)
  ·have hlt : i < c.length := of_decide_eq_true ht
   obtain ⟨o, hvo, ho, hcf⟩ := hA.inv (by rw [List.length_map]; omega)
   rw [List.length_map] at hvo
   subst hvo
   refine GoF.skip (GoF.seq (GoF.block (GoF.seq (GoF.region ?_))))
   have e1 : takeSh (some 2) (((c.map symA).flatMap AV.cells).drop (0 + i * shN (some 2))) = some (symA c[i]) := by
    rw [take_elem (by rw [List.length_map]; omega) hcf, List.getElem_map]
   refine GoO.idx (j := i) rfl rfl rfl rfl (idxSlA_sl hlt) ?_
   refine GoO.ld (v := symA c[i]) ho rfl rfl rfl e1 ?_
   refine GoO.var (v := symA c[i]) (c := [.s c[i].1, nI c[i].2]) τ.next rfl rfl rfl rfl rfl rfl rfl fun τ2 hn2 h4 k2 => ?_
   refine GoO.nil (GoF.seq (GoF.region ?_))
   refine GoO.go rfl rfl rfl rfl ?_
   refine GoO.ld (v := nI c[i].2) h4 rfl rfl rfl rfl ?_
   refine GoO.go rfl rfl rfl rfl ?_
   refine GoO.bin (a := nI c[i].2) (b := nI nf) (v := .b (decide (nf < c[i].2))) rfl rfl rfl rfl (bin_cmp rfl) ?_
   refine GoO.nil (GoF.cnd rfl (fun h => ?_) (fun h => ?_))
   ·have hgt : nf < c[i].2 := of_decide_eq_true h
    refine GoF.seq (GoF.region ?_)
    refine GoO.go rfl rfl rfl rfl ?_
    refine GoO.nil (GoF.ret ⟨rfl, ?_⟩)
    have := (allLe_take hlt hle).2 (by omega)
    show some (AV.b false) = _
    rw [← hall, this]
   ·have hng : ¬ nf < c[i].2 := of_decide_eq_false h
    refine GoF.skip (GoF.region ?_)
    refine GoO.bin (a := nI i) (b := nI 1) rfl rfl rfl rfl (bin_add (by omega)) ?_
    refine GoO.go rfl rfl rfl rfl ?_
    exact GoO.nil ⟨m - 1, by omega, i + 1, by omega, (allLe_take hlt hle).1 (by omega), hA.keep fun i o _ ho => k2 i o ho, rfl, rfl, rfl, rfl, trivial⟩
  ·have hge : ¬ i < c.length := of_decide_eq_false hfl
   obtain rfl : i = c.length := by omega
   rw [List.take_length, hall] at hle
   refine GoF.exit ?_
   refine GoF.seq (GoF.region ?_)
   refine GoO.go rfl rfl rfl rfl ?_
   refine GoO.nil (GoF.ret ⟨rfl, ?_⟩)
   show some (AV.b true) = _
   rw [hle]
end
end Go.Lyc
end
noncomputable section
namespace Go.Lyc
open Go.RowKit Go.Lyc.T
abbrev sub_ (a b : Nat) : Prop := a &&& b = a
theorem andN_zero {a b : Nat} : andN a b = 0 ↔ sub_ a b := by
 unfold andN
 constructor
 ·intro h
  have := congrArg (fun x => x ^^^ (a &&& b)) h
  simp only [Nat.xor_assoc, Nat.xor_self, Nat.xor_zero, Nat.zero_xor] at this
  exact this.symm
 ·intro h
  have h : a &&& b = a := h
  rw [h, Nat.xor_self]
theorem sub_trans {a b c : Nat} (h1 : sub_ a b) (h2 : sub_ b c) : sub_ a c := by
 have h1 : a &&& b = a := h1
 have h2 : b &&& c = b := h2
 show a &&& c = a
 rw [← h1, Nat.and_assoc, h2]
theorem sub_or {a b c : Nat} (h1 : sub_ a c) (h2 : sub_ b c) : sub_ (a ||| b) c := by
 have h1 : a &&& c = a := h1
 have h2 : b &&& c = b := h2
 show (a ||| b) &&& c = _
 rw [Nat.and_or_distrib_right, h1, h2]
theorem opsL_sub {c : Nat} : ∀ {l : List Fm} {m : Nat}, sub_ m c → (∀ f ∈ l, sub_ (opM f) c) → sub_ (opsL l m) c
 | [], _, h, _ => h
 | f :: l, m, h, hl => by
  show sub_ (opsL l (m ||| opM f)) c
  exact opsL_sub (sub_or h (hl f (by simp))) fun g hg => hl g (List.mem_cons_of_mem _ hg)
theorem bin_andNot32 {a b : Nat} (ha : a < 2 ^ 32) (hb : b < 2 ^ 32) : binop .andNot (.i .u32 (Int.ofNat a)) (.i .u32 (Int.ofNat b)) = some (.i .u32 (Int.ofNat (andN a b))) := by
 have h : (BitVec.ofInt IntKind.u32.bits (Int.ofNat a) &&& ~~~ BitVec.ofInt IntKind.u32.bits (Int.ofNat b)).toNat = andN a b := by
  have e : ∀ x y : BitVec IntKind.u32.bits, x &&& ~~~ y = x ^^^ (x &&& y) := fun x y => by ext i; simp; cases x[i] <;> cases y[i] <;> rfl
  rw [e, BitVec.toNat_xor, BitVec.toNat_and, ofInt32 a ha, ofInt32 b hb]; rfl
 show some (AV.i .u32 (IntKind.wrap .u32 ((BitVec.ofInt IntKind.u32.bits (Int.ofNat a) &&& ~~~ BitVec.ofInt IntKind.u32.bits (Int.ofNat b)).toNat : Int))) = _
 rw [h, wrap32 (andN_le a b ha)]; rfl
def oneB (ops kind : Nat) (F : Fm) : Bool := rightB F && (decide (andN (opsN F) ops = 0) && argsB kind F)
theorem allLe_mono {n m : Nat} (h : n ≤ m) {l : List Sy} (hl : allLe n l = true) : allLe m l = true := by
 unfold allLe at *
 rw [List.all_eq_true] at *
 exact fun x hx => decide_eq_true (Nat.le_trans (of_decide_eq_true (hl x hx)) h)
theorem oneB_mono {o1 o2 k1 k2 : Nat} (ho : sub_ o1 o2) (ha : atomsOf k1 ≤ atomsOf k2) (hf : funsOf k1 ≤ funsOf k2) {F : Fm} (h : oneB o1 k1 F = true) : oneB o2 k2 F = true := by
 unfold oneB argsB at *
 simp only [Bool.and_eq_true, decide_eq_true_eq] at *
 exact ⟨h.1, andN_zero.2 (sub_trans (andN_zero.1 h.2.1) ho), allLe_mono ha h.2.2.1, allLe_mono hf h.2.2.2⟩
theorem nodup_len : ∀ {l S : List Sy}, l.Nodup → (∀ x ∈ l, x ∈ S) → l.length ≤ S.length
 | [], _, _, _ => Nat.zero_le _
 | x :: l, S, h, hs => by
  have hx := hs x (by simp)
  have h := List.nodup_cons.1 h
  have := nodup_len (S := S.erase x) h.2 fun y hy => (List.mem_erase_of_ne (fun e => h.1 (by rw [← e]; exact hy))).2 (hs y (List.mem_cons_of_mem _ hy))
  rw [List.length_erase_of_mem hx] at this
  have : 0 < S.length := List.length_pos_of_mem hx
  simp only [List.length_cons]; omega
abbrev Few (S ks : List Sy) : Prop := ks.Nodup ∧ ∀ x ∈ ks, x ∈ S
theorem Few.ins {S ks : List Sy} {x : Sy} (h : Few S ks) (hx : x ∈ S) : Few S (insE x ks) := by
 unfold insE
 split
 ·exact h
 ·rename_i hn
  refine ⟨List.nodup_append.2 ⟨h.1, by simp, fun a ha b hb => ?_⟩, fun y hy => ?_⟩
  ·rw [List.mem_singleton.1 hb]
   exact fun e => hn (by rw [← e]; exact ha)
  ·rcases List.mem_append.1 hy with hy | hy
   ·exact h.2 y hy
   ·rw [List.mem_singleton.1 hy]; exact hx
theorem predsL_few {S : List Sy} : ∀ {l : List Fm} {ks : List Sy}, Few S ks → (∀ f ∈ l, f.op = 1 → (f.name, f.args.length) ∈ S) → Few S (predsL l ks)
 | [], _, h, _ => h
 | f :: l, ks, h, hl => by
  show Few S (predsL l (predF f ks))
  refine predsL_few ?_ fun g hg => hl g (List.mem_cons_of_mem _ hg)
  unfold predF
  split
  ·exact h.ins (hl f (by simp) ‹_›)
  ·exact h
theorem funsT_few {S : List Sy} : ∀ {l : List Tm} {ks : List Sy}, Few S ks → (∀ f ∈ l, f.var = false → (f.name, f.args.length) ∈ S) → Few S (funsT l ks)
 | [], _, h, _ => h
 | f :: l, ks, h, hl => by
  show Few S (funsT l (funT f ks))
  refine funsT_few ?_ fun g hg => hl g (List.mem_cons_of_mem _ hg)
  unfold funT
  split
  ·exact h.ins (hl f (by simp) ‹_›)
  ·exact h
theorem funsL_few {S : List Sy} : ∀ {l : List Fm} {ks : List Sy}, Few S ks → (∀ g ∈ l, ∀ f ∈ Tm.partsL g.args, f.var = false → (f.name, f.args.length) ∈ S) → Few S (funsL l ks)
 | [], _, h, _ => h
 | g :: l, ks, h, hl => by
  show Few S (funsL l (funsT (Tm.partsL g.args) ks))
  exact funsL_few (funsT_few h fun f hf => hl g (by simp) f hf) fun f hf => hl f (List.mem_cons_of_mem _ hf)
def symS : List Sy := [([80], 1), ([81], 0), ([82], 2), ([80], 0), ([82], 0)]
def funS : List Sy := [([102], 1), ([97], 0)]
def Tm.fine (t : Tm) : Prop := t.ok ∧ t.few ∧ ∀ u ∈ t.parts, u.var = false → (u.name, u.args.length) ∈ funS
theorem baseT_fine (q : Nat) : (baseT q).fine := by
 unfold baseT
 have hv : ∀ c, (vT c).fine := fun c => by
  refine ⟨.mk (by show 1 < _; omega) (by simp) (by simp), .mk (by simp) (by simp), fun u hu h => ?_⟩
  unfold vT at hu
  rw [Tm.parts] at hu
  rw [List.mem_singleton.1 hu] at h; cases h
 repeat' split
 ·exact hv _
 ·exact hv _
 ·exact hv _
 ·refine ⟨.mk (by show 1 < _; omega) (by simp) (by simp), .mk (by simp) (by simp), fun u hu h => ?_⟩
  rw [Tm.parts] at hu
  rw [List.mem_singleton.1 hu]
  simp [funS, Tm.name, Tm.args, Tm.oargs]
theorem fT_fine {t : Tm} (h : t.fine) : (fT t).fine := by
 have hm : ∀ x ∈ (some [t]).getD [], x = t := fun x hx => by simpa using hx
 refine ⟨.mk (by show 1 < _; omega) (by simp) fun x hx => by rw [hm x hx]; exact h.1, .mk (by simp) fun x hx => by rw [hm x hx]; exact h.2.1, fun u hu hv => ?_⟩
 unfold fT at hu
 rw [Tm.parts, Tm.partsL, Tm.partsL, List.append_nil] at hu
 rcases List.mem_cons.1 hu with rfl | hu
 ·simp [funS, Tm.name, Tm.args, Tm.oargs]
 ·exact h.2.2 u hu hv
theorem builtT_fine (c : Nat) : (builtT c).fine := by
 unfold builtT
 generalize (c / 4) % 3 = k
 induction k with
 | zero => exact baseT_fine _
 | succ k ih => exact fT_fine ih
inductive Bf : Fm → Prop
 | atm (nm : List Nat) (a : Option (List Tm)) (hn : nm.length < 2 ^ 62) (ha : ∀ t ∈ a.getD [], t.fine) (hs : (nm, (a.getD []).length) ∈ symS) : Bf (.mk 1 nm a none)
 | fal : Bf (.mk 2 [] none none)
 | un (op : Nat) (nm : List Nat) (F : Fm) (ho : op = 3 ∨ op = 8 ∨ op = 9) (hn : nm.length < 2 ^ 62) (h : Bf F) : Bf (.mk op nm none (some [F]))
 | bi (op : Nat) (F G : Fm) (ho : 4 ≤ op ∧ op < 8) (h : Bf F) (h2 : Bf G) : Bf (.mk op [] none (some [F, G]))
theorem symS_le {nm : List Nat} {k : Nat} (h : (nm, k) ∈ symS) : k ≤ 2 := by
 simp only [symS, List.mem_cons, Prod.mk.injEq, List.not_mem_nil, or_false] at h
 omega
theorem Bf.ok {F : Fm} (h : Bf F) : F.ok := by
 induction h with
 | atm nm a hn ha hs => exact .mk (by omega) hn (by have := symS_le hs; omega) (fun x hx => (ha x hx).1) (by simp) (by simp)
 | fal => exact .mk (by omega) (by simp) (by simp) (by simp) (by simp) (by simp)
 | un op nm F ho hn h ih => exact .mk (by omega) hn (by simp) (by simp) (by simp) (fun x hx => by rw [show x = F from by simpa using hx]; exact ih)
 | bi op F G ho h h2 ih ih2 => exact .mk (by omega) (by simp) (by simp) (by simp) (by simp) (fun x hx => by
   have : x = F ∨ x = G := by simpa using hx
   rcases this with rfl | rfl <;> assumption)
theorem Bf.few {F : Fm} (h : Bf F) : F.few := by
 induction h with
 | atm nm a hn ha hs => exact .mk (by have := symS_le hs; omega) (fun x hx => (ha x hx).2.1) (by simp) (by simp)
 | fal => exact .mk (by simp) (by simp) (by simp) (by simp)
 | un op nm F ho hn h ih => exact .mk (by simp) (by simp) (by simp) (fun x hx => by rw [show x = F from by simpa using hx]; exact ih)
 | bi op F G ho h h2 ih ih2 => exact .mk (by simp) (by simp) (by simp) (fun x hx => by
   have : x = F ∨ x = G := by simpa using hx
   rcases this with rfl | rfl <;> assumption)
theorem partsL_all {P : Tm → Prop} : ∀ {l : List Tm}, (∀ t ∈ l, ∀ u ∈ t.parts, P u) → ∀ u ∈ Tm.partsL l, P u
 | [], _, u, hu => by simp [Tm.partsL] at hu
 | t :: l, h, u, hu => by
  rw [Tm.partsL] at hu
  rcases List.mem_append.1 hu with hu | hu
  ·exact h t (by simp) u hu
  ·exact partsL_all (fun t ht => h t (List.mem_cons_of_mem _ ht)) u hu
theorem Bf.syms {F : Fm} (h : Bf F) : ∀ G ∈ F.parts, (G.op = 1 → (G.name, G.args.length) ∈ symS) ∧ ∀ u ∈ Tm.partsL G.args, u.var = false → (u.name, u.args.length) ∈ funS := by
 have no : ∀ (op : Nat) (nm : List Nat) (s : Option (List Fm)), op ≠ 1 → ((Fm.mk op nm none s).op = 1 → ((Fm.mk op nm none s).name, (Fm.mk op nm none s).args.length) ∈ symS) ∧ ∀ u ∈ Tm.partsL (Fm.mk op nm none s).args, u.var = false → (u.name, u.args.length) ∈ funS := fun op nm s ho => ⟨fun h => absurd h ho, fun u hu => by simp [Fm.args, Fm.oargs, Tm.partsL] at hu⟩
 induction h with
 | atm nm a hn ha hs =>
  intro G hG
  rw [Fm.parts] at hG
  rw [List.mem_singleton.1 hG]
  exact ⟨fun _ => hs, partsL_all fun t ht u hu hv => (ha t ht).2.2 u hu hv⟩
 | fal =>
  intro G hG
  rw [Fm.parts] at hG
  rw [List.mem_singleton.1 hG]
  exact no _ _ _ (by omega)
 | un op nm F ho hn h ih =>
  intro G hG
  rw [Fm.parts, Fm.partsL, Fm.partsL, List.append_nil] at hG
  rcases List.mem_cons.1 hG with rfl | hG
  ·exact no _ _ _ (by omega)
  ·exact ih G hG
 | bi op F G ho h h2 ih ih2 =>
  intro H hG
  rw [Fm.parts, Fm.partsL, Fm.partsL, Fm.partsL, List.append_nil] at hG
  rcases List.mem_cons.1 hG with rfl | hG
  ·exact no _ _ _ (by omega)
  ·rcases List.mem_append.1 hG with hG | hG
   ·exact ih H hG
   ·exact ih2 H hG
theorem Bf.preds {F : Fm} (h : Bf F) : Few symS (predsN F) := predsL_few ⟨by simp, by simp⟩ fun G hG => (h.syms G hG).1
theorem Bf.funs {F : Fm} (h : Bf F) : Few funS (funsN F) := funsL_few ⟨by simp, by simp⟩ fun G hG => (h.syms G hG).2
theorem Bf.preds12 {F : Fm} (h : Bf F) : (predsN F).length ≤ 12 := Nat.le_trans (nodup_len h.preds.1 h.preds.2) (by decide)
theorem Bf.funs12 {F : Fm} (h : Bf F) : (funsN F).length ≤ 12 := Nat.le_trans (nodup_len h.funs.1 h.funs.2) (by decide)
end Go.Lyc
end
noncomputable section
namespace Go.Lyc
open Go.RowKit Go.Lyc.T
inductive Wt : Nat → Nat → Fm → Prop
 | atm (nm : List Nat) (a : Option (List Tm)) (h : Bf (.mk 1 nm a none)) (hd : (Fm.mk 1 nm a none).dep ≤ 4) : Wt 1 1 (.mk 1 nm a none)
 | fal : Wt 1 1 (.mk 2 [] none none)
 | neg {n d : Nat} {F : Fm} (h : Wt n d F) : Wt (n + 1) (d + 1) (.mk 3 [] none (some [F]))
 | q {n d : Nat} {F : Fm} (op : Nat) (nm : List Nat) (ho : op = 8 ∨ op = 9) (hn : nm.length < 2 ^ 62) (h : Wt n d F) : Wt (n + 1) (d + 1) (.mk op nm none (some [F]))
 | bi {n d m e : Nat} {F G : Fm} (op : Nat) (ho : 4 ≤ op ∧ op < 8) (h : Wt n d F) (h2 : Wt m e G) : Wt (n + m + 1) (d + e) (.mk op [] none (some [F, G]))
theorem Wt.bf {n d : Nat} {F : Fm} (h : Wt n d F) : Bf F := by
 induction h with
 | atm nm a h hd => exact h
 | fal => exact .fal
 | neg h ih => exact .un 3 [] _ (.inl rfl) (by simp) ih
 | q op nm ho hn h ih => exact .un op nm _ (.inr ho) hn ih
 | bi op ho h h2 ih ih2 => exact .bi op _ _ ho ih ih2
theorem Wt.pos {n d : Nat} {F : Fm} (h : Wt n d F) : 1 ≤ n ∧ 1 ≤ d := by
 induction h with
 | atm nm a h hd => omega
 | fal => omega
 | neg h ih => omega
 | q op nm ho hn h ih => omega
 | bi op ho h h2 ih ih2 => omega
theorem Wt.dep {n d : Nat} {F : Fm} (h : Wt n d F) : F.dep ≤ d + 3 := by
 induction h with
 | atm nm a h hd => omega
 | fal => rw [Fm.dep_eq]; show max (Tm.deps []) (Fm.deps []) + 1 ≤ _; rw [Tm.deps, Fm.deps]; omega
 | neg h ih => rw [mk1_dep]; omega
 | q op nm ho hn h ih => rw [mk1_dep]; omega
 | bi op ho h h2 ih ih2 => rw [mk2_dep]; have := h.pos; have := h2.pos; omega
structure Bare (n d : Nat) (F : Fm) : Prop where
 bf : Bf F
 dep : F.dep ≤ d
 right : ∀ depth L, depth + d ≤ 41 → n ≤ L → ∃ L', formJ false 40 F depth L = some L' ∧ L ≤ L' + n
 parts : ∀ G ∈ F.parts, 1 ≤ G.op ∧ G.op ≤ 7 ∧ G.args = []
theorem nodeJ_ok {depth L : Nat} (h : depth ≤ 40) (hL : 1 ≤ L) : nodeJ 40 depth L = some (L - 1) := by
 cases L with
 | zero => omega
 | succ L => rw [nodeJ, if_pos h]; rfl
theorem bare_atom {nm : List Nat} (h : (nm, 0) ∈ symS) (hp : isPred nm = true) (hl : nm.length < 2 ^ 62) : Bare 1 1 (.mk 1 nm none none) := by
 refine ⟨.atm nm none hl (by simp) h, by rw [Fm.dep_eq]; show max (Tm.deps []) (Fm.deps []) + 1 ≤ _; rw [Tm.deps, Fm.deps]; omega, fun depth L hd hL => ?_, fun G hG => ?_⟩
 ·refine ⟨L - 1, ?_, by omega⟩
  rw [formJ, nodeJ_ok (by omega) hL]
  show (if _ then termsJ false 40 [] (depth + 1) (L - 1) else none) = _
  rw [termsJ, if_pos]
  exact ⟨by omega, rfl, hp, by show 0 ≤ 4; omega, rfl, fun h => by omega⟩
 ·rw [Fm.parts] at hG
  rw [List.mem_singleton.1 hG]
  exact ⟨Nat.le_refl _, by show 1 ≤ 7; omega, rfl⟩
theorem bare_fal : Bare 1 1 (.mk 2 [] none none) := by
 refine ⟨.fal, by rw [Fm.dep_eq]; show max (Tm.deps []) (Fm.deps []) + 1 ≤ _; rw [Tm.deps, Fm.deps]; omega, fun depth L hd hL => ?_, fun G hG => ?_⟩
 ·refine ⟨L - 1, ?_, by omega⟩
  rw [formJ, nodeJ_ok (by omega) hL]
  show (if _ then termsJ false 40 [] (depth + 1) (L - 1) else none) = _
  rw [termsJ, if_pos]
  exact ⟨by omega, rfl, rfl, by show 0 ≤ 0; omega, rfl, fun h => by omega⟩
 ·rw [Fm.parts] at hG
  rw [List.mem_singleton.1 hG]
  exact ⟨by show 1 ≤ 2; omega, by show 2 ≤ 7; omega, rfl⟩
theorem Bare.neg {n d : Nat} {F : Fm} (h : Bare n d F) : Bare (n + 1) (d + 1) (.mk 3 [] none (some [F])) := by
 refine ⟨.un 3 [] F (.inl rfl) (by simp) h.bf, by rw [mk1_dep]; have := h.dep; omega, fun depth L hd hL => ?_, fun G hG => ?_⟩
 ·obtain ⟨L', e, hl⟩ := h.right (depth + 1) (L - 1) (by omega) (by omega)
  refine ⟨L', ?_, by omega⟩
  rw [formJ, nodeJ_ok (by omega) (by omega)]
  show (if _ then (match termsJ false 40 [] (depth + 1) (L - 1) with | none => none | some L => formsJ false 40 [F] (depth + 1) L) else none) = _
  rw [termsJ, if_pos ⟨by omega, rfl, rfl, by show 0 ≤ 0; omega, rfl, fun h => by omega⟩]
  show formsJ false 40 [F] (depth + 1) (L - 1) = _
  rw [formsJ, e]
  show formsJ false 40 [] (depth + 1) L' = _
  rw [formsJ]
 ·rw [Fm.parts, Fm.partsL, Fm.partsL, List.append_nil] at hG
  rcases List.mem_cons.1 hG with rfl | hG
  ·exact ⟨by show 1 ≤ 3; omega, by show 3 ≤ 7; omega, rfl⟩
  ·exact h.parts G hG
theorem Bare.bi {n d m e : Nat} {F G : Fm} {op : Nat} (ho : 4 ≤ op ∧ op < 8) (h : Bare n d F) (h2 : Bare m e G) (hp : 1 ≤ d ∧ 1 ≤ e) : Bare (n + m + 1) (d + e) (.mk op [] none (some [F, G])) := by
 refine ⟨.bi op F G ho h.bf h2.bf, by rw [mk2_dep]; have := h.dep; have := h2.dep; omega, fun depth L hd hL => ?_, fun H hG => ?_⟩
 ·obtain ⟨L1, e1, hl1⟩ := h.right (depth + 1) (L - 1) (by omega) (by omega)
  obtain ⟨L2, e2, hl2⟩ := h2.right (depth + 1) L1 (by omega) (by omega)
  refine ⟨L2, ?_, by omega⟩
  rw [formJ, nodeJ_ok (by omega) (by omega)]
  show (if _ then (match termsJ false 40 [] (depth + 1) (L - 1) with | none => none | some L => formsJ false 40 [F, G] (depth + 1) L) else none) = _
  have hr : rowR op = true ∧ rowN op = 0 ∧ rowB op = 2 := by
   have : op = 4 ∨ op = 5 ∨ op = 6 ∨ op = 7 := by omega
   rcases this with rfl | rfl | rfl | rfl <;> exact ⟨rfl, rfl, rfl⟩
  rw [termsJ, if_pos ⟨by omega, by rw [hr.1]; rfl, by rw [hr.2.1]; rfl, by show 0 ≤ _; omega, by rw [hr.2.2]; rfl, fun h => by omega⟩]
  show formsJ false 40 [F, G] (depth + 1) (L - 1) = _
  rw [formsJ, e1]
  show formsJ false 40 [G] (depth + 1) L1 = _
  rw [formsJ, e2]
  show formsJ false 40 [] (depth + 1) L2 = _
  rw [formsJ]
 ·rw [Fm.parts, Fm.partsL, Fm.partsL, Fm.partsL, List.append_nil] at hG
  rcases List.mem_cons.1 hG with rfl | hG
  ·exact ⟨by show 1 ≤ op; omega, by show op ≤ 7; omega, rfl⟩
  ·rcases List.mem_append.1 hG with hG | hG
   ·exact h.parts H hG
   ·exact h2.parts H hG
theorem Bare.le {n d n' d' : Nat} {F : Fm} (h : Bare n d F) (hn : n ≤ n') (hd : d ≤ d') : Bare n' d' F := ⟨h.bf, by have := h.dep; omega, fun depth L h1 h2 => by obtain ⟨L', e, hl⟩ := h.right depth L (by omega) (by omega); exact ⟨L', e, by omega⟩, h.parts⟩
theorem symS_bare {nm : List Nat} {k : Nat} (h : (nm, k) ∈ symS) : (nm, 0) ∈ symS ∧ isPred nm = true := by
 simp only [symS, List.mem_cons, Prod.mk.injEq, List.not_mem_nil, or_false] at h
 rcases h with ⟨rfl, _⟩ | ⟨rfl, _⟩ | ⟨rfl, _⟩ | ⟨rfl, _⟩ | ⟨rfl, _⟩ <;> refine ⟨by simp [symS], by decide⟩
theorem Wt.bare {n d : Nat} {F : Fm} (h : Wt n d F) : Bare n d F.strip := by
 induction h with
 | atm nm a h hd =>
  rw [Fm.strip]
  cases h with
  | atm _ _ hn ha hs => exact bare_atom (symS_bare hs).1 (symS_bare hs).2 hn
 | fal => rw [Fm.strip]; exact bare_fal
 | neg h ih =>
  rw [Fm.strip, if_neg (by omega), Fm.strips, Fm.strips]
  exact ih.neg
 | q op nm ho hn h ih =>
  rw [Fm.strip, if_pos ho, Fm.stripH]
  exact ih.le (by omega) (by omega)
 | bi op ho h h2 ih ih2 =>
  rw [Fm.strip, if_neg (by omega), Fm.strips, Fm.strips, Fm.strips]
  exact ih.bi ho ih2 ⟨h.pos.2, h2.pos.2⟩
inductive Stk : List Fm → Nat → Nat → Prop
 | nil : Stk [] 0 0
 | snoc {s : List Fm} {N D n d : Nat} {F : Fm} (h : Stk s N D) (hF : Wt n d F) : Stk (s ++ [F]) (N + n) (D + d)
theorem Stk.last {s : List Fm} {N D : Nat} (h : Stk s N D) (hs : 1 ≤ s.length) : ∃ s' N' D' n d F, s = s' ++ [F] ∧ Stk s' N' D' ∧ Wt n d F ∧ N = N' + n ∧ D = D' + d ∧ lastN s 1 = F ∧ s.take (s.length - 1) = s' := by
 cases h with
 | nil => simp at hs
 | snoc h hF =>
  rename_i s' N' D' n d F
  refine ⟨s', N', D', n, d, F, rfl, h, hF, rfl, rfl, ?_, ?_⟩
  ·unfold lastN
   simp
  ·simp
theorem Stk.step {s : List Fm} {N D c k : Nat} (h : Stk s N D) : ∃ N' D', Stk (stepB c s k).1 N' D' ∧ N' ≤ N + 1 ∧ D' ≤ D + 1 := by
 have at1 : ∀ nm a, (Bf (.mk 1 nm a none)) → (Fm.mk 1 nm a none).dep ≤ 4 → ∃ N' D', Stk (s ++ [.mk 1 nm a none]) N' D' ∧ N' ≤ N + 1 ∧ D' ≤ D + 1 := fun nm a h1 h2 => ⟨_, _, h.snoc (.atm nm a h1 h2), by omega, by omega⟩
 unfold stepB
 split
 ·exact at1 _ _ (.atm [80] (some [builtT (c / 12)]) (by show 1 < _; omega) (fun t ht => by rw [show t = builtT (c / 12) from by simpa using ht]; exact builtT_fine _) (by simp [symS])) (Pf_dep _)
 split
 ·exact at1 _ _ (.atm [81] none (by show 1 < _; omega) (by simp) (by simp [symS])) (by have := Qf_dep; show Qf.dep ≤ 4; omega)
 split
 ·exact at1 _ _ (.atm [82] (some [builtT (c / 12 % 4), builtT (c / 12 / 4)]) (by show 1 < _; omega) (fun t ht => by
   have : t = builtT (c / 12 % 4) ∨ t = builtT (c / 12 / 4) := by simpa using ht
   rcases this with rfl | rfl <;> exact builtT_fine _) (by simp [symS])) (Rf_dep _)
 split
 ·rename_i hc
  obtain ⟨s', N', D', n, d, F, rfl, h1, h2, rfl, rfl, h3, h4⟩ := h.last hc.2
  rw [h4, h3]
  exact ⟨_, _, h1.snoc h2.neg, by omega, by omega⟩
 split
 ·rename_i hc
  obtain ⟨s', N', D', n, d, F, rfl, h1, h2, rfl, rfl, h3, h4⟩ := h.last (by omega)
  obtain ⟨s2, N2, D2, n2, d2, F2, rfl, g1, g2, rfl, rfl, g3, g4⟩ := h1.last (by
   have := hc.2.2
   simp only [List.length_append, List.length_singleton] at this; omega)
  have e2 : lastN (s2 ++ [F2] ++ [F]) 2 = F2 := by
   unfold lastN
   simp
  have e3 : (s2 ++ [F2] ++ [F]).take ((s2 ++ [F2] ++ [F]).length - 2) = s2 := by simp
  rw [e2, e3, h3]
  exact ⟨_, _, g1.snoc (Wt.bi _ (by omega) g2 h2), by omega, by omega⟩
 split
 ·rename_i hc
  obtain ⟨s', N', D', n, d, F, rfl, h1, h2, rfl, rfl, h3, h4⟩ := h.last hc.2.1
  rw [h4, h3]
  exact ⟨_, _, h1.snoc (Wt.q _ _ (by omega) (by
                         unfold nameQ; repeat' split
                         all_goals (show 1 < _; omega)) h2), by omega, by omega⟩
 ·exact ⟨N, D, h, by omega, by omega⟩
theorem Stk.run : ∀ {l : List Nat} {p : List Fm × Nat} {N D : Nat}, Stk p.1 N D → ∃ N' D', Stk (runB l p).1 N' D' ∧ N' ≤ N + l.length ∧ D' ≤ D + l.length
 | [], p, N, D, h => ⟨N, D, h, by simp, by simp⟩
 | c :: l, p, N, D, h => by
  obtain ⟨N1, D1, h1, a1, a2⟩ := h.step (c := c) (k := p.2)
  obtain ⟨N2, D2, h2, b1, b2⟩ := Stk.run (l := l) (p := stepB c p.1 p.2) h1
  exact ⟨N2, D2, h2, by simp only [List.length_cons]; omega, by simp only [List.length_cons]; omega⟩
theorem Stk.len {s : List Fm} {N D : Nat} (h : Stk s N D) : s.length ≤ N := by
 induction h with
 | nil => simp
 | snoc h hF ih => have := hF.pos; simp only [List.length_append, List.length_singleton]; omega
theorem Stk.fin {s : List Fm} {N D : Nat} (h : Stk s N D) : s = [] ∨ ∃ n d, Wt n d (finB s) ∧ n ≤ N + s.length ∧ d ≤ D := by
 induction h with
 | nil => exact .inl rfl
 | snoc h hF ih =>
  rename_i s N D n d F
  refine .inr ?_
  rcases ih with rfl | ⟨n', d', ih, h1, h2⟩
  ·exact ⟨n, d, hF, by omega, by omega⟩
  ·cases s with
   | nil => exact ⟨n, d, hF, by omega, by omega⟩
   | cons f l =>
    refine ⟨n' + n + 1, d' + d, ?_, by simp only [List.length_append, List.length_cons, List.length_nil] at *; omega, by omega⟩
    show Wt _ _ (orsB f (l ++ [F]))
    rw [orsB_snoc]
    exact Wt.bi 5 (by omega) ih hF
theorem builtF_wt (l : List Nat) : ∃ n d, Wt n d (builtF l) ∧ n ≤ 48 ∧ d ≤ 24 := by
 unfold builtF
 obtain ⟨N, D, h, h1, h2⟩ := Stk.run (l := l.take 24) (p := ([], 0)) .nil
 have h3 : (l.take 24).length ≤ 24 := by rw [List.length_take]; omega
 have := h.len
 rcases h.fin with e | ⟨n, d, hw, a1, a2⟩
 ·rw [e]; exact ⟨1, 1, .fal, by omega, by omega⟩
 ·exact ⟨n, d, hw, by omega, by omega⟩
theorem funsL_none : ∀ {l : List Fm} {ks : List Sy}, (∀ g ∈ l, g.args = []) → funsL l ks = ks
 | [], _, _ => rfl
 | g :: l, ks, h => by
  show funsL l (funsT (Tm.partsL g.args) ks) = ks
  rw [h g (by simp), Tm.partsL]
  exact funsL_none fun f hf => h f (List.mem_cons_of_mem _ hf)
theorem Bare.one {n d ops kind : Nat} {F : Fm} (h : Bare n d F) (hn : n ≤ 400) (hd : d ≤ 40) (ho : ∀ op, 1 ≤ op → op ≤ 7 → sub_ (2 ^ op) ops) : oneB ops kind F = true := by
 unfold oneB argsB
 have h1 : rightB F = true := by
  unfold rightB
  obtain ⟨L', e, _⟩ := h.right 1 400 (by omega) hn
  rw [e]; rfl
 have h2 : andN (opsN F) ops = 0 := by
  refine andN_zero.2 (opsL_sub (Nat.zero_and _) fun f hf => ?_)
  obtain ⟨a, b, _⟩ := h.parts f hf
  unfold opM
  rw [if_pos (by omega)]
  exact ho _ a b
 have h3 : allLe (atomsOf kind) (predsN F) = true := by
  have : Few ((predsN F).filter fun s => s.2 = 0) (predsN F) ∨ True := .inr trivial
  unfold allLe
  rw [List.all_eq_true]
  have key : ∀ (l : List Fm) (ks : List Sy), (∀ f ∈ l, f.args = []) → (∀ s ∈ ks, s.2 = 0) → ∀ s ∈ predsL l ks, s.2 = 0 := by
   intro l
   induction l with
   | nil => intro ks _ h; exact h
   | cons f l ih =>
    intro ks hl hks
    refine ih (predF f ks) (fun g hg => hl g (List.mem_cons_of_mem _ hg)) ?_
    unfold predF
    split
    ·intro s hs
     unfold insE at hs
     split at hs
     ·exact hks s hs
     ·rcases List.mem_append.1 hs with hs | hs
      ·exact hks s hs
      ·rw [List.mem_singleton.1 hs, hl f (by simp)]; rfl
    ·exact hks
  intro s hs
  rw [key F.parts [] (fun f hf => (h.parts f hf).2.2) (by simp) s hs]
  exact decide_eq_true (Nat.zero_le _)
 have h4 : allLe (funsOf kind) (funsN F) = true := by
  unfold funsN
  rw [funsL_none fun f hf => (h.parts f hf).2.2]; rfl
 rw [h1, decide_eq_true h2, h3, h4]; rfl
end Go.Lyc
end
noncomputable section
namespace Go.Lyc
open Go.RowKit Go.Lyc.T
structure Lg where
 nm : List Nat
 ops : Nat
 kind : Nat
 fr : Nat
 ru : List AV
 rs : List AV
def Lg.cells (o : Bool) (l : Lg) : List AV := [.s l.nm, .i .u32 (Int.ofNat l.ops), .i .u8 (Int.ofNat l.kind), .i .u8 (Int.ofNat l.fr), .tl o (some 6) (cond o l.rs l.ru)]
def Lg.A (o : Bool) (l : Lg) : AV := .ag (l.cells o)
section
variable {b : Base} {K : Nat → List AV → AV → Prop} (hf : ∀ g ar r r', K g ar r → K g ar r' → r = r')
include hf in
theorem one_go (F : Fm) (h400 : F.dep ≤ 400) (hR : K n_Right [F.A true] (.b (rightB F))) (eR : b.ext n_Right = 0 ∧ b.pure n_Right = true) (hO : K n_Ops [F.A true] (.i .u32 (Int.ofNat (opsN F)))) (eO : b.ext n_Ops = 0 ∧ b.pure n_Ops = true)
  (l : Lg) (hl : l.ops < 2 ^ 32) (hA : K n_argsAllowed [.i .u8 (Int.ofNat l.kind), F.A true] (.b (argsB l.kind F))) (eA : b.ext n_argsAllowed = 0 ∧ b.pure n_argsAllowed = true) (body : ACode) (hb : c_one.body = some body) : GoF (b.envK K) 21 body (argF [l.A true, F.A true]) ⟨.nil, 0⟩ (Done 4 (.b (oneB l.ops l.kind F))) := by
 cases hb
 have hsn : ∀ σ, snapshot σ 1000 (F.A true) = some (F.A true) := fun σ => Fm.snap σ true F.dep F 1000 (Nat.le_refl _) (by omega)
 refine GoF.seq (GoF.region (GoO.box (v := l.A true) (c := l.cells true) 0 rfl rfl rfl rfl rfl rfl fun σ1 hn1 h1 k1 => ?_))
 refine GoO.box (v := F.A true) (c := F.cells true) 1 hn1 rfl rfl rfl rfl rfl fun σ2 hn2 h2 k2 => ?_
 replace h1 := k2 _ _ h1
 refine GoO.go rfl rfl rfl rfl ?_
 refine GoO.nil (GoF.seq (GoF.draw rfl rfl ?_))
 refine GoP.ld h2 rfl rfl rfl (Fm.ld true F) ?_
 refine GoP.known hf eR.1 eR.2 hR rfl rfl rfl (snaps1 (hsn _)) ?_
 unfold oneB
 cases hr : rightB F with
 | false =>
  repeat (first | refine GoP.go rfl rfl rfl rfl ?_ | refine GoP.cmp rfl rfl rfl rfl rfl ?_ | refine GoP.off rfl rfl ?_ | refine GoP.nil ?_)
  exact GoF.ret ⟨rfl, rfl⟩
 | true =>
  refine GoP.go rfl rfl rfl rfl ?_
  refine GoP.ld h2 rfl rfl rfl (Fm.ld true F) ?_
  refine GoP.go rfl rfl rfl rfl ?_
  refine GoP.ldw (v := .i .u32 (Int.ofNat l.ops)) h1 rfl rfl rfl rfl (Snp.eqb 1000 _ (Snp.i 999 _ _)) ?_
  refine GoP.known hf eO.1 eO.2 hO rfl rfl rfl (snaps1 (hsn _)) ?_
  refine GoP.bin (a := .i .u32 (Int.ofNat (opsN F))) (b := .i .u32 (Int.ofNat l.ops)) rfl rfl rfl rfl (bin_andNot32 (opsL_lt (Nat.two_pow_pos _)) hl) ?_
  refine GoP.bin (a := .i .u32 (Int.ofNat (andN (opsN F) l.ops))) (b := .i .u32 (Int.ofNat 0)) (v := .b (decide (andN (opsN F) l.ops = 0))) rfl rfl rfl rfl (bin_cmp rfl) ?_
  refine GoP.go rfl rfl rfl rfl ?_
  by_cases ho : andN (opsN F) l.ops = 0
  ·rw [show decide (andN (opsN F) l.ops = 0) = true from decide_eq_true ho]
   refine GoP.go rfl rfl rfl rfl ?_
   refine GoP.go rfl rfl rfl rfl ?_
   refine GoP.ld (v := .i .u8 (Int.ofNat l.kind)) h1 rfl rfl rfl rfl ?_
   refine GoP.ld h2 rfl rfl rfl (Fm.ld true F) ?_
   refine GoP.known hf eA.1 eA.2 hA rfl rfl rfl (snaps2 rfl (hsn _)) ?_
   repeat (first | refine GoP.go rfl rfl rfl rfl ?_ | refine GoP.cmp rfl rfl rfl rfl rfl ?_ | refine GoP.off rfl rfl ?_ | refine GoP.nil ?_)
   exact GoF.ret ⟨rfl, rfl⟩
  ·rw [show decide (andN (opsN F) l.ops = 0) = false from decide_eq_false ho]
   repeat (first | refine GoP.go rfl rfl rfl rfl ?_ | refine GoP.cmp rfl rfl rfl rfl rfl ?_ | refine GoP.off rfl rfl ?_ | refine GoP.nil ?_)
   exact GoF.ret ⟨rfl, rfl⟩
include hf in
theorem Allowed_go (F : Fm) (h400 : F.dep ≤ 400) (l : Lg) (hls : ∀ σ, snapshot σ 1000 (l.A true) = some (l.A true)) (hL : K n_LRight [l.A true] (.b true)) (eL : b.ext n_LRight = 0 ∧ b.pure n_LRight = true) (h1 : K n_one [l.A true, F.A true] (.b (oneB l.ops l.kind F))) (e1 : b.ext n_one = 0 ∧ b.pure n_one = true)
  (body : ACode) (hb : c_Allowed.body = some body) : GoF (b.envK K) 12 body (argF [l.A true, F.A true]) ⟨.nil, 0⟩ (Done 4 (.b (oneB l.ops l.kind F))) := by
 cases hb
 have hsn : ∀ σ, snapshot σ 1000 (F.A true) = some (F.A true) := fun σ => Fm.snap σ true F.dep F 1000 (Nat.le_refl _) (by omega)
 refine GoF.seq (GoF.region (GoO.box (v := l.A true) (c := l.cells true) 0 rfl rfl rfl rfl rfl rfl fun σ1 hn1 g1 k1 => ?_))
 refine GoO.box (v := F.A true) (c := F.cells true) 1 hn1 rfl rfl rfl rfl rfl fun σ2 hn2 g2 k2 => ?_
 replace g1 := k2 _ _ g1
 refine GoO.go rfl rfl rfl rfl ?_
 refine GoO.nil (GoF.seq (GoF.region ?_))
 refine GoO.ld (v := l.A true) g1 rfl rfl rfl rfl ?_
 refine GoO.known hf eL.1 eL.2 hL rfl rfl rfl (snaps1 (hls _)) ?_
 refine GoO.go rfl rfl rfl rfl ?_
 refine GoO.ld (v := l.A true) g1 rfl rfl rfl rfl ?_
 refine GoO.ld g2 rfl rfl rfl (Fm.ld true F) ?_
 refine GoO.known hf e1.1 e1.2 h1 rfl rfl rfl (snaps2 (hls _) (hsn _)) ?_
 repeat (first | refine GoO.go rfl rfl rfl rfl ?_ | refine GoO.cmp rfl rfl rfl rfl rfl ?_ | refine GoO.off rfl rfl ?_ | refine GoO.nil ?_)
 exact GoF.ret ⟨rfl, rfl⟩
def pairN (i : Nat) : List Nat × List Nat := ([([74], [75, 49]), ([75, 49], [75, 50]), ([75, 49], [75]), ([75], [84]), ([84], [83, 52]), ([83, 52], [83, 53]), ([75, 49], [76])] : List (List Nat × List Nat)).getD i ([], [])
def bytesA (l : Option (List Nat)) : AV := osl true none (l.map fun l => l.map uB)
structure PairK (b : Base) (K : Nat → List AV → AV → Prop) (l m : Lg) : Prop where
 lnk : K n_LNamed [.s l.nm] (.tu [l.A false, nI 0])
 mnk : K n_LNamed [.s m.nm] (.tu [m.A false, nI 0])
 le : l.ru.length ≤ m.ru.length
 ops : sub_ l.ops m.ops
 opl : l.ops < 2 ^ 32
 opm : m.ops < 2 ^ 32
 at' : atomsOf l.kind ≤ atomsOf m.kind
 fu : funsOf l.kind ≤ funsOf m.kind
 sl : ∀ σ, snapshot σ 1000 (l.A false) = some (l.A true)
 sm : ∀ σ, snapshot σ 1000 (m.A false) = some (m.A true)
 same : ∃ x y, (∀ σ, snapshot σ 1000 (.tl false (some 6) l.ru) = some x) ∧ (∀ σ, snapshot σ 1000 (.tl false (some 6) (m.ru.take l.ru.length)) = some y) ∧ K n_SameRules [x, y] (.b true)
theorem op_sliceTl {ev : AOpd → Option AV} {σ : St} {sh : Option Nat} {s hi : AOpd} {o : Bool} {xs : List AV} {k : Nat} (h1 : ev s = some (.tl o sh xs)) (h2 : ev hi = some (nI k)) (hk : k ≤ xs.length) : opx 0 ev σ (.sliceSl sh s none (some hi) none) = some (.val (.tl o sh (xs.take k)) σ) := by
 have e : sliceA ev sh (.tl o sh xs) none (some hi) none = some (.tl o sh (xs.take k)) := by
  have b1 : ∀ d, bndO ev (some hi) d = some k := fun d => by unfold bndO; simp only [h2]; rfl
  unfold sliceA
  simp only [if_pos]
  rw [b1]
  show (match some 0, some k with | some l, some h => _ | _, _ => none) = _
  simp [Nat.ble_eq_true_of_le hk]
 show (match ev s with | some v => (match sliceA ev sh v none (some hi) none with | some v => some (OpR.val v σ) | none => none) | none => none) = _
 rw [h1]
 show (match sliceA ev sh (.tl o sh xs) none (some hi) none with | some v => some (OpR.val v σ) | none => none) = _
 rw [e]
end
end Go.Lyc
end
noncomputable section
namespace Go.Lyc
open Go.RowKit Go.Lyc.T
section
variable {b : Base} {K : Nat → List AV → AV → Prop} (hf : ∀ g ar r r', K g ar r → K g ar r' → r = r')
def pairsC : List AV := [.s [74], .s [75, 49], .s [75, 49], .s [75, 50], .s [75, 49], .s [75], .s [75], .s [84], .s [84], .s [83, 52], .s [83, 52], .s [83, 53], .s [75, 49], .s [76]]
theorem pairs_ld {i : Nat} (h : i < 7) : takeSh (some 2) (pairsC.drop (0 + i * shN (some 2))) = some (.ag [.s (pairN i).1, .s (pairN i).2]) := by
 have : i = 0 ∨ i = 1 ∨ i = 2 ∨ i = 3 ∨ i = 4 ∨ i = 5 ∨ i = 6 := by omega
 rcases this with rfl | rfl | rfl | rfl | rfl | rfl | rfl <;> rfl
include hf in
theorem LogicGrows_go (l : Option (List Nat)) (bare : Bool) (F G : Fm) (hG : G = cond bare F.strip F) (hF4 : F.dep ≤ 400) (hG4 : G.dep ≤ 400) (hbs : ∀ σ, snapshot σ 1000 (bytesA l) = some (bytesA l))
  (hB : K n_Built [bytesA l] (F.A false)) (eB : b.ext n_Built = 0 ∧ b.pure n_Built = true) (hS : K n_stripped [F.A true] (F.strip.A false)) (eS : b.ext n_stripped = 0 ∧ b.pure n_stripped = true)
  (eN : b.ext n_LNamed = 0 ∧ b.pure n_LNamed = true) (eA : b.ext n_Allowed = 0 ∧ b.pure n_Allowed = true) (eR : b.ext n_SameRules = 0 ∧ b.pure n_SameRules = true) (hW : K n_awake9 [] (.b true)) (eW : b.ext n_awake9 = 0 ∧ b.pure n_awake9 = true)
  (hP : ∀ i, i < 7 → ∃ l m, l.nm = (pairN i).1 ∧ m.nm = (pairN i).2 ∧ PairK b K l m ∧ K n_Allowed [l.A true, G.A true] (.b (oneB l.ops l.kind G)) ∧ K n_Allowed [m.A true, G.A true] (.b (oneB m.ops m.kind G)))
  (k1 : Lg) (hk1 : K n_LNamed [.s [75, 49]] (.tu [k1.A false, nI 0])) (hk1s : ∀ σ, snapshot σ 1000 (k1.A false) = some (k1.A true)) (hk1A : K n_Allowed [k1.A true, G.A true] (.b (oneB k1.ops k1.kind G))) (hk1b : bare = true → oneB k1.ops k1.kind G = true)
  (body : ACode) (hb : c_LogicGrows.body = some body) : GoF (b.envK K) 107 body (argF [bytesA l, .b bare]) ⟨.nil, 0⟩ (Done 4 (.b true)) := by
 cases hb
 have hFs : ∀ σ, snapshot σ 1000 (F.A false) = some (F.A true) := fun σ => Fm.snap σ false F.dep F 1000 (Nat.le_refl _) (by omega)
 have hGs : ∀ σ, snapshot σ 1000 (G.A false) = some (G.A true) := fun σ => Fm.snap σ false G.dep G 1000 (Nat.le_refl _) (by omega)
 refine GoF.seq (GoF.region ?_)
 refine GoO.go rfl rfl rfl rfl ?_
 refine GoO.nil (GoF.seq (GoF.region ?_))
 refine GoO.go rfl rfl rfl rfl ?_
 refine GoO.known hf eB.1 eB.2 hB rfl rfl rfl (snaps1 (hbs _)) ?_
 refine GoO.var (v := F.A false) (c := F.cells false) 0 rfl rfl rfl rfl (Fm.conf false F) rfl (Fm.len false F) fun σ hn h0 _ => ?_
 refine GoO.nil (GoF.seq ?_)
 refine GoF.seq (GoF.region ?_)
 refine GoO.go rfl rfl rfl rfl ?_
 refine GoO.nil ?_
 suffices hrest : ∀ σ g, σ.next = 1 → σ.get 0 = some (.cells (G.cells false)) → GoF (b.envK K) 107 _ (upds [(1, .b bare), (5, .p (some (0, 0)))] g) σ (Done 4 (.b true)) by
  refine GoF.cnd (t := bare) rfl (fun h => ?_) (fun h => ?_)
  ·subst h
   refine GoF.region ?_
   refine GoO.ld h0 rfl rfl rfl (Fm.ld false F) ?_
   refine GoO.known hf eS.1 eS.2 hS rfl rfl rfl (snaps1 (hFs _)) ?_
   refine GoO.store (c' := F.strip.cells false) h0 rfl rfl rfl (Fm.conf false _) (storeAll (by rw [Fm.len]; exact (Fm.len false _))) fun σ2 n2 h2 k2 => ?_
   refine GoO.nil (GoF.norm [(1, .b true), (5, .p (some (0, 0)))] ⟨rfl, rfl, trivial⟩ fun g => hrest σ2 g (by omega) (by rw [hG]; exact h2))
  ·subst h
   exact GoF.skip (GoF.norm [(1, .b false), (5, .p (some (0, 0)))] ⟨rfl, rfl, trivial⟩ fun g => hrest σ g hn (by rw [hG]; exact h0))
 clear h0 hn
 intro σ g hn h0
 refine GoF.seq (GoF.seq (GoF.region ?_))
 refine GoO.go (v := .ag [.s [74], .s [75, 49]]) rfl rfl rfl rfl ?_
 refine GoO.go (v := .ag [.s [75, 49], .s [75, 50]]) rfl rfl rfl rfl ?_
 refine GoO.go (v := .ag [.s [75, 49], .s [75]]) rfl rfl rfl rfl ?_
 refine GoO.go (v := .ag [.s [75], .s [84]]) rfl rfl rfl rfl ?_
 refine GoO.go (v := .ag [.s [84], .s [83, 52]]) rfl rfl rfl rfl ?_
 refine GoO.go (v := .ag [.s [83, 52], .s [83, 53]]) rfl rfl rfl rfl ?_
 refine GoO.go (v := .ag [.s [75, 49], .s [76]]) rfl rfl rfl rfl ?_
 refine GoO.bsl (c := pairsC) 1 hn rfl rfl rfl fun σ1 n1 h1 q1 => ?_
 replace h0 := q1 _ _ h0
 refine GoO.len (m := 7) rfl rfl rfl rfl ?_
 refine GoO.go rfl rfl rfl rfl ?_
 refine GoO.nil (GoF.block ?_)
 refine GoF.loop (fun m f τ => ∃ i, i + m = 7 ∧ 2 ≤ τ.next ∧ τ.get 0 = some (.cells (G.cells false)) ∧ τ.get 1 = some (.cells pairsC) ∧
  sat [(1, .b bare), (5, .p (some (0, 0))), (26, .sl 1 0 7 (some 2) (some 7)), (27, nI 7), (28, nI i)] f) ?_ 7 ⟨0, by omega, by omega, h0, h1, rfl, rfl, rfl, rfl, rfl, trivial⟩
 clear h0 h1 n1 q1 hn
 intro m g τ ⟨i, hi, hn, h0, h1, hL⟩
 refine GoF.norm _ hL fun g => ?_
 clear hL
 refine GoF.seq (GoF.region ?_)
 refine GoO.bin (a := nI i) (b := nI 7) (v := .b (decide (i < 7))) rfl rfl rfl rfl (bin_cmp rfl) ?_
 refine GoO.nil (GoF.seq ?_)
 refine GoF.cnd rfl (fun ht => ?_) (fun hfl => ?_)
 ·have hlt : i < 7 := of_decide_eq_true ht
  obtain ⟨L, M, e1, e2, hp, hLA, hMA⟩ := hP i hlt
  refine GoF.skip (GoF.seq (GoF.block (GoF.seq (GoF.region ?_))))
  refine GoO.idx (j := i) rfl rfl rfl rfl (idxSlA_sl hlt) ?_
  refine GoO.ld h1 rfl rfl rfl (pairs_ld hlt) ?_
  rw [← e1, ← e2]
  generalize hz : τ.next = z at hn
  refine GoO.var (v := .ag [.s L.nm, .s M.nm]) (c := [.s L.nm, .s M.nm]) z hz rfl rfl rfl rfl rfl rfl fun τ1 n1 g1 q1 => ?_
  refine GoO.nil (GoF.seq (GoF.region ?_))
  refine GoO.go rfl rfl rfl rfl ?_
  refine GoO.ld (v := .s L.nm) g1 rfl rfl rfl rfl ?_
  refine GoO.known hf eN.1 eN.2 hp.lnk rfl rfl rfl (snaps1 rfl) ?_
  refine GoO.go rfl rfl rfl rfl ?_
  refine GoO.go rfl rfl rfl rfl ?_
  refine GoO.go rfl rfl rfl rfl ?_
  refine GoO.var (v := L.A false) (c := L.cells false) (z + 1) n1 rfl rfl rfl rfl rfl rfl fun τ2 n2 g2 q2 => ?_
  refine GoO.go rfl rfl rfl rfl ?_
  refine GoO.nil (GoF.seq (GoF.region ?_))
  refine GoO.go rfl rfl rfl rfl ?_
  refine GoO.ld (v := .s M.nm) (q2 _ _ g1) rfl rfl rfl rfl ?_
  refine GoO.known hf eN.1 eN.2 hp.mnk rfl rfl rfl (snaps1 rfl) ?_
  refine GoO.go rfl rfl rfl rfl ?_
  refine GoO.go rfl rfl rfl rfl ?_
  refine GoO.go rfl rfl rfl rfl ?_
  refine GoO.var (v := M.A false) (c := M.cells false) (z + 2) n2 rfl rfl rfl rfl rfl rfl fun τ3 n3 g3 q3 => ?_
  replace g2 := q3 _ _ g2
  replace h0 := q3 _ _ (q2 _ _ (q1 _ _ h0))
  replace h1 := q3 _ _ (q2 _ _ (q1 _ _ h1))
  clear q1 q2 q3 g1
  refine GoO.go rfl rfl rfl rfl ?_
  refine GoO.nil (GoF.norm [(1, .b bare), (5, .p (some (0, 0))), (8, .p (some (z + 1, 0))), (9, nI 0), (10, .p (some (z + 2, 0))), (11, nI 0), (26, .sl 1 0 7 (some 2) (some 7)), (27, nI 7), (28, nI i)] ⟨rfl, rfl, rfl, rfl, rfl, rfl, rfl, rfl, rfl, trivial⟩ fun g => ?_)
  refine GoF.cut [(1, .b bare), (5, .p (some (0, 0))), (8, .p (some (z + 1, 0))), (10, .p (some (z + 2, 0))), (26, .sl 1 0 7 (some 2) (some 7)), (27, nI 7), (28, nI i)] (GoF.seq (GoF.region ?_)) fun g => ?_
  ·refine GoO.go rfl rfl rfl rfl ?_
   refine GoO.bin (a := nI 0) (b := nI 0) (v := .b false) rfl rfl rfl rfl rfl ?_
   refine GoO.go rfl rfl rfl rfl ?_
   refine GoO.go rfl rfl rfl rfl ?_
   refine GoO.bin (a := nI 0) (b := nI 0) (v := .b false) rfl rfl rfl rfl rfl ?_
   refine GoO.go rfl rfl rfl rfl ?_
   refine GoO.go rfl rfl rfl rfl ?_
   refine GoO.go rfl rfl rfl rfl ?_
   refine GoO.ld (v := .tl false (some 6) L.ru) g2 rfl rfl rfl rfl ?_
   refine GoO.len (m := L.ru.length) rfl rfl rfl rfl ?_
   refine GoO.go rfl rfl rfl rfl ?_
   refine GoO.ld (v := .tl false (some 6) M.ru) g3 rfl rfl rfl rfl ?_
   refine GoO.len (m := M.ru.length) rfl rfl rfl rfl ?_
   refine GoO.bin (a := nI L.ru.length) (b := nI M.ru.length) (v := .b false) rfl rfl rfl rfl (bin_cmp (by show some (AV.b (decide (M.ru.length < L.ru.length))) = _; rw [decide_eq_false (by have := hp.le; omega)])) ?_
   refine GoO.go rfl rfl rfl rfl ?_
   refine GoO.go rfl rfl rfl rfl ?_
   refine GoO.go rfl rfl rfl rfl ?_
   refine GoO.ld (v := .i .u32 (Int.ofNat L.ops)) g2 rfl rfl rfl rfl ?_
   refine GoO.go rfl rfl rfl rfl ?_
   refine GoO.ld (v := .i .u32 (Int.ofNat M.ops)) g3 rfl rfl rfl rfl ?_
   refine GoO.bin (a := .i .u32 (Int.ofNat L.ops)) (b := .i .u32 (Int.ofNat M.ops)) rfl rfl rfl rfl (bin_andNot32 hp.opl hp.opm) ?_
   rw [andN_zero.2 hp.ops]
   refine GoO.bin (a := .i .u32 (Int.ofNat 0)) (b := .i .u32 (Int.ofNat 0)) (v := .b false) rfl rfl rfl rfl rfl ?_
   refine GoO.go rfl rfl rfl rfl ?_
   refine GoO.go rfl rfl rfl rfl ?_
   refine GoO.ld (v := L.A false) g2 rfl rfl rfl rfl ?_
   refine GoO.ld h0 rfl rfl rfl (Fm.ld false G) ?_
   refine GoO.known hf eA.1 eA.2 hLA rfl rfl rfl (snaps2 (hp.sl _) (hGs _)) ?_
   cases hol : oneB L.ops L.kind G with
   | true =>
    have hom := oneB_mono hp.ops hp.at' hp.fu hol
    refine GoO.go rfl rfl rfl rfl ?_
    refine GoO.ld (v := M.A false) g3 rfl rfl rfl rfl ?_
    refine GoO.ld h0 rfl rfl rfl (Fm.ld false G) ?_
    refine GoO.known hf eA.1 eA.2 hMA rfl rfl rfl (snaps2 (hp.sm _) (hGs _)) ?_
    rw [hom]
    repeat (first | refine GoO.go rfl rfl rfl rfl ?_ | refine GoO.cmp rfl rfl rfl rfl rfl ?_ | refine GoO.off rfl rfl ?_ | refine GoO.nil ?_)
    exact GoF.cnd rfl (fun h => by cases h) fun _ => GoF.skip ⟨rfl, rfl, rfl, rfl, rfl, rfl, rfl, rfl, rfl, trivial⟩
   | false =>
    repeat (first | refine GoO.go rfl rfl rfl rfl ?_ | refine GoO.cmp rfl rfl rfl rfl rfl ?_ | refine GoO.off rfl rfl ?_ | refine GoO.nil ?_)
    exact GoF.cnd rfl (fun h => by cases h) fun _ => GoF.skip ⟨rfl, rfl, rfl, rfl, rfl, rfl, rfl, rfl, rfl, trivial⟩
  ·obtain ⟨x, y, hx, hy, hsame⟩ := hp.same
   refine GoF.seq (GoF.draw rfl rfl ?_)
   refine GoP.go rfl rfl rfl rfl ?_
   refine GoP.ld (v := .tl false (some 6) L.ru) g2 rfl rfl rfl rfl ?_
   refine GoP.go rfl rfl rfl rfl ?_
   refine GoP.ld (v := .tl false (some 6) M.ru) g3 rfl rfl rfl rfl ?_
   refine GoP.go rfl rfl rfl rfl ?_
   refine GoP.ld (v := .tl false (some 6) L.ru) g2 rfl rfl rfl rfl ?_
   refine GoP.val rfl rfl (op_len (m := L.ru.length) rfl rfl) ?_
   refine GoP.val rfl rfl (op_sliceTl rfl rfl hp.le) ?_
   refine GoP.known hf eR.1 eR.2 hsame rfl rfl rfl (snaps2 (hx _) (hy _)) ?_
   repeat (first | refine GoP.go rfl rfl rfl rfl ?_ | refine GoP.cmp rfl rfl rfl rfl rfl ?_ | refine GoP.off rfl rfl ?_ | refine GoP.nil ?_)
   refine GoF.cnd rfl (fun h => by cases h) fun _ => GoF.skip ?_
   refine GoF.region ?_
   refine GoO.bin (a := nI i) (b := nI 1) rfl rfl rfl rfl (bin_add (by omega)) ?_
   refine GoO.go rfl rfl rfl rfl ?_
   exact GoO.nil ⟨m - 1, by omega, i + 1, by omega, by omega, h0, h1, rfl, rfl, rfl, rfl, rfl, trivial⟩
 ·refine GoF.exit ?_
  refine GoF.seq (GoF.region ?_)
  refine GoO.known hf eN.1 eN.2 hk1 rfl rfl rfl (snaps1 rfl) ?_
  refine GoO.go rfl rfl rfl rfl ?_
  refine GoO.go rfl rfl rfl rfl ?_
  refine GoO.go rfl rfl rfl rfl ?_
  refine GoO.var (v := k1.A false) (c := k1.cells false) τ.next rfl rfl rfl rfl rfl rfl rfl fun τ2 n2 g2 q2 => ?_
  replace h0 := q2 _ _ h0
  refine GoO.go rfl rfl rfl rfl ?_
  refine GoO.nil (GoF.seq (GoF.region ?_))
  refine GoO.go rfl rfl rfl rfl ?_
  refine GoO.bin (a := nI 0) (b := nI 0) (v := .b true) rfl rfl rfl rfl rfl ?_
  refine GoO.go rfl rfl rfl rfl ?_
  refine GoO.go rfl rfl rfl rfl ?_
  cases bare with
  | true =>
   refine GoO.go rfl rfl rfl rfl ?_
   refine GoO.go rfl rfl rfl rfl ?_
   refine GoO.ld (v := k1.A false) g2 rfl rfl rfl rfl ?_
   refine GoO.ld h0 rfl rfl rfl (Fm.ld false G) ?_
   refine GoO.known hf eA.1 eA.2 hk1A rfl rfl rfl (snaps2 (hk1s _) (hGs _)) ?_
   rw [hk1b rfl]
   refine GoO.go rfl rfl rfl rfl ?_
   refine GoO.go rfl rfl rfl rfl ?_
   refine GoO.go rfl rfl rfl rfl ?_
   refine GoO.known hf eW.1 eW.2 hW rfl rfl rfl rfl ?_
   repeat (first | refine GoO.go rfl rfl rfl rfl ?_ | refine GoO.cmp rfl rfl rfl rfl rfl ?_ | refine GoO.off rfl rfl ?_ | refine GoO.nil ?_)
   exact GoF.ret ⟨rfl, rfl⟩
  | false =>
   refine GoO.go rfl rfl rfl rfl ?_
   refine GoO.go rfl rfl rfl rfl ?_
   refine GoO.off rfl rfl ?_
   refine GoO.off rfl rfl ?_
   refine GoO.off rfl rfl ?_
   refine GoO.go rfl rfl rfl rfl ?_
   refine GoO.go rfl rfl rfl rfl ?_
   refine GoO.go rfl rfl rfl rfl ?_
   refine GoO.known hf eW.1 eW.2 hW rfl rfl rfl rfl ?_
   repeat (first | refine GoO.go rfl rfl rfl rfl ?_ | refine GoO.cmp rfl rfl rfl rfl rfl ?_ | refine GoO.off rfl rfl ?_ | refine GoO.nil ?_)
   exact GoF.ret ⟨rfl, rfl⟩
end
end Go.Lyc
end
noncomputable section
namespace Go.Lyc
open Go.RowKit Go.Lyc.T
theorem GoesCall.ext {env : Env} {floor k g : Nat} {args : List AV} {v : AV} {σ : St} {Q : Ret → St → Prop} (he : env.ext g = k + 1) (hx : extRow (k + 1) args = some v) (h : Q (.ok v) σ) : GoesCall env floor (.f (.func g) [] []) args σ Q := by
 refine Ev.one (x := (.ok v, σ)) (fun F => ?_) h
 show callF env (exec env F) floor g ([] ++ args ++ []) σ = _
 unfold callF
 rw [he, List.nil_append, List.append_nil]
 show (match extRow (k + 1) args with | some v => some [(Ret.ok v, σ)] | none => none) = _
 rw [hx]
section
variable {b : Base} {K : Nat → List AV → AV → Prop}
theorem CompareString_go (hh : Here (b.envK K) n_CompareString c_CompareString) (ex : b.ext n_cmpstring = 2) (x y : List Nat) (σ : St) : GoesCall (b.envK K) 0 (.f (.func n_CompareString) [] []) [.s x, .s y] σ (fun r σ' => r = .ok (.i .i64 (cmpS x y)) ∧ σ' = σ) := by
 refine GoesCall.code hh.e hh.p hh.f rfl rfl rfl rfl ?_
 refine GoF.seq (GoF.region ?_)
 refine GoO.go rfl rfl rfl rfl ?_
 refine GoO.nil (GoF.seq (GoF.region ?_))
 refine GoO.go rfl rfl rfl rfl ?_
 refine GoO.go rfl rfl rfl rfl ?_
 refine GoO.callG (R := fun r σ' => r = .ok (.i .i64 (cmpS x y)) ∧ σ' = σ) rfl rfl rfl (GoesCall.ext (k := 1) ex rfl ⟨rfl, rfl⟩) fun r σ2 ⟨e1, e2⟩ => ⟨_, e1, ?_⟩
 refine GoO.go rfl rfl rfl rfl ?_
 exact GoO.nil (GoF.ret ⟨rfl, rfl, e2⟩)
theorem strCompare_go (hh : Here (b.envK K) n_strCompare c_strCompare) (h2 : Here (b.envK K) n_CompareString c_CompareString) (ex : b.ext n_cmpstring = 2) (x y : List Nat) (σ : St) : GoesCall (b.envK K) 0 (.f (.func n_strCompare) [] []) [.s x, .s y] σ (fun r σ' => r = .ok (.i .i64 (cmpS x y)) ∧ σ' = σ) := by
 refine GoesCall.code hh.e hh.p hh.f rfl rfl rfl rfl ?_
 refine GoF.seq (GoF.region ?_)
 refine GoO.go rfl rfl rfl rfl ?_
 refine GoO.nil (GoF.seq (GoF.region ?_))
 refine GoO.go rfl rfl rfl rfl ?_
 refine GoO.go rfl rfl rfl rfl ?_
 refine GoO.callG rfl rfl rfl (CompareString_go h2 ex x y σ) fun r σ2 ⟨e1, e2⟩ => ⟨_, e1, ?_⟩
 refine GoO.go rfl rfl rfl rfl ?_
 exact GoO.nil (GoF.ret ⟨rfl, rfl, e2⟩)
theorem isNaNint_go (hh : Here (b.envK K) n_isNaNint c_isNaNint) (x : Nat) (σ : St) : GoesCall (b.envK K) 0 (.f (.func n_isNaNint) [] []) [nI x] σ (fun r σ' => r = .ok (.b false) ∧ σ' = σ) := by
 refine GoesCall.code hh.e hh.p hh.f rfl rfl rfl rfl ?_
 refine GoF.seq (GoF.region ?_)
 refine GoO.go rfl rfl rfl rfl ?_
 refine GoO.nil (GoF.seq (GoF.region ?_))
 refine GoO.go rfl rfl rfl rfl ?_
 refine GoO.go rfl rfl rfl rfl ?_
 refine GoO.bin (a := nI x) (b := nI x) (v := .b false) rfl rfl rfl rfl (bin_cmp (by show some (AV.b (!decide (x = x))) = _; rw [decide_eq_true rfl]; rfl)) ?_
 refine GoO.go rfl rfl rfl rfl ?_
 exact GoO.nil (GoF.ret ⟨rfl, rfl, rfl⟩)
theorem cmpInt_go (hh : Here (b.envK K) n_cmpInt c_cmpInt) (h2 : Here (b.envK K) n_isNaNint c_isNaNint) (x y : Nat) (σ : St) : GoesCall (b.envK K) 0 (.f (.func n_cmpInt) [] []) [nI x, nI y] σ (fun r σ' => r = .ok (.i .i64 (cmpN x y)) ∧ σ' = σ) := by
 refine GoesCall.code hh.e hh.p hh.f rfl rfl rfl rfl ?_
 refine GoF.seq (GoF.region ?_)
 refine GoO.go rfl rfl rfl rfl ?_
 refine GoO.nil (GoF.seq (GoF.region ?_))
 refine GoO.go rfl rfl rfl rfl ?_
 refine GoO.callG rfl rfl rfl (isNaNint_go h2 x σ) fun r σ2 ⟨e1, e2⟩ => ⟨_, e1, ?_⟩
 subst e2
 refine GoO.go rfl rfl rfl rfl ?_
 refine GoO.nil (GoF.seq (GoF.region ?_))
 refine GoO.go rfl rfl rfl rfl ?_
 refine GoO.callG rfl rfl rfl (isNaNint_go h2 y σ2) fun r σ3 ⟨e1, e2⟩ => ⟨_, e1, ?_⟩
 subst e2
 refine GoO.go rfl rfl rfl rfl ?_
 refine GoO.nil (GoF.seq (GoF.seq (GoF.region ?_)))
 refine GoO.go rfl rfl rfl rfl ?_
 refine GoO.nil (GoF.cnd rfl (fun h => by cases h) fun _ => GoF.skip ?_)
 refine GoF.seq (GoF.seq (GoF.region ?_))
 refine GoO.go rfl rfl rfl rfl ?_
 refine GoO.nil (GoF.cnd rfl (fun h => by cases h) fun _ => GoF.skip ?_)
 refine GoF.seq (GoF.seq (GoF.region ?_))
 refine GoO.go rfl rfl rfl rfl ?_
 refine GoO.go rfl rfl rfl rfl ?_
 refine GoO.bin (a := nI x) (b := nI y) (v := .b (decide (x < y))) rfl rfl rfl rfl (bin_cmp rfl) ?_
 refine GoO.nil (GoF.cnd rfl (fun h => ?_) fun h => GoF.skip ?_)
 ·refine GoF.seq (GoF.region ?_)
  refine GoO.go rfl rfl rfl rfl ?_
  refine GoO.nil (GoF.ret ⟨rfl, ?_, rfl⟩)
  unfold cmpN; rw [if_pos (of_decide_eq_true h)]; rfl
 have h1 := of_decide_eq_false h
 refine GoF.seq (GoF.seq (GoF.region ?_))
 refine GoO.go rfl rfl rfl rfl ?_
 refine GoO.go rfl rfl rfl rfl ?_
 refine GoO.bin (a := nI x) (b := nI y) (v := .b (decide (y < x))) rfl rfl rfl rfl (bin_cmp rfl) ?_
 refine GoO.nil (GoF.cnd rfl (fun h => ?_) fun h => GoF.skip ?_)
 ·refine GoF.seq (GoF.region ?_)
  refine GoO.go rfl rfl rfl rfl ?_
  refine GoO.nil (GoF.ret ⟨rfl, ?_, rfl⟩)
  unfold cmpN; rw [if_neg h1, if_pos (of_decide_eq_true h)]; rfl
 have h2 := of_decide_eq_false h
 refine GoF.seq (GoF.region ?_)
 refine GoO.go rfl rfl rfl rfl ?_
 refine GoO.nil (GoF.ret ⟨rfl, ?_, rfl⟩)
 unfold cmpN; rw [if_neg h1, if_neg h2]; rfl
theorem sorted1_go (h1 : Here (b.envK K) n_strCompare c_strCompare) (h2 : Here (b.envK K) n_CompareString c_CompareString) (ex : b.ext n_cmpstring = 2) (h3 : Here (b.envK K) n_cmpInt c_cmpInt) (h4 : Here (b.envK K) n_isNaNint c_isNaNint) (x y : Sy) (body : ACode) (hb : c_sorted1.body = some body) :
  GoF (b.envK K) 19 body (argF [symA x, symA y]) ⟨.nil, 0⟩ (Done 4 (.i .i64 (cmpSy x y))) := by
 cases hb
 refine GoF.seq (GoF.region (GoO.box (v := symA x) (c := [.s x.1, nI x.2]) 0 rfl rfl rfl rfl rfl rfl fun σ1 n1 g1 q1 => ?_))
 refine GoO.box (v := symA y) (c := [.s y.1, nI y.2]) 1 n1 rfl rfl rfl rfl rfl fun σ n2 g2 q2 => ?_
 replace g1 := q2 _ _ g1
 refine GoO.go rfl rfl rfl rfl ?_
 refine GoO.nil (GoF.seq (GoF.seq (GoF.region ?_)))
 refine GoO.go rfl rfl rfl rfl ?_
 refine GoO.ld (v := .s x.1) g1 rfl rfl rfl rfl ?_
 refine GoO.go rfl rfl rfl rfl ?_
 refine GoO.ld (v := .s y.1) g2 rfl rfl rfl rfl ?_
 refine GoO.callG rfl rfl rfl (strCompare_go h1 h2 ex x.1 y.1 σ) fun r σ2 ⟨e1, e2⟩ => ⟨_, e1, ?_⟩
 subst e2
 refine GoO.go rfl rfl rfl rfl ?_
 refine GoO.nil (GoF.seq (GoF.region ?_))
 refine GoO.go rfl rfl rfl rfl ?_
 refine GoO.bin (a := .i .i64 (cmpS x.1 y.1)) (b := .i .i64 0) (v := .b (!decide (cmpS x.1 y.1 = 0))) rfl rfl rfl rfl rfl ?_
 refine GoO.nil (GoF.cnd rfl (fun h => ?_) fun h => GoF.skip ?_)
 ·have hne : ¬ cmpS x.1 y.1 = 0 := fun e => by rw [decide_eq_true e] at h; cases h
  refine GoF.seq (GoF.region ?_)
  refine GoO.go rfl rfl rfl rfl ?_
  refine GoO.go rfl rfl rfl rfl ?_
  refine GoO.nil (GoF.ret ⟨rfl, ?_⟩)
  unfold cmpSy; rw [if_neg hne]; rfl
 ·have he : cmpS x.1 y.1 = 0 := Classical.byContradiction fun e => by rw [decide_eq_false e] at h; cases h
  refine GoF.seq (GoF.region ?_)
  refine GoO.go rfl rfl rfl rfl ?_
  refine GoO.ld (v := nI x.2) g1 rfl rfl rfl rfl ?_
  refine GoO.go rfl rfl rfl rfl ?_
  refine GoO.ld (v := nI y.2) g2 rfl rfl rfl rfl ?_
  refine GoO.callG rfl rfl rfl (cmpInt_go h3 h4 x.2 y.2 σ2) fun r σ3 ⟨e1, e2⟩ => ⟨_, e1, ?_⟩
  refine GoO.go rfl rfl rfl rfl ?_
  refine GoO.nil (GoF.ret ⟨rfl, ?_⟩)
  unfold cmpSy; rw [if_pos he]; rfl
end
end Go.Lyc
end
noncomputable section
namespace Go.Lyc
open Go.RowKit Go.Lyc.T
inductive KG (T : Nat → List AV → AV → Prop) (lv : Nat) : Nat → List AV → AV → Prop
 | tab (g : Nat) (ar : List AV) (r : AV) (h : T g ar r) : KG T lv g ar r
 | small (ar : List AV) (r : AV) (c : Nat) (hl : 1 ≤ lv) (e : ar = [uB c]) (er : r = .b (isSmall c)) : KG T lv n_small ar r
 | capital (ar : List AV) (r : AV) (c : Nat) (hl : 1 ≤ lv) (e : ar = [uB c]) (er : r = .b (isCap c)) : KG T lv n_capital ar r
 | digit (ar : List AV) (r : AV) (c : Nat) (hl : 1 ≤ lv) (e : ar = [uB c]) (er : r = .b (isDig c)) : KG T lv n_digit ar r
 | var1 (ar : List AV) (r : AV) (c : Nat) (hl : 1 ≤ lv) (e : ar = [uB c]) (er : r = .b (isVar1 c)) : KG T lv n_Variable1 ar r
 | fun1 (ar : List AV) (r : AV) (c : Nat) (hl : 1 ≤ lv) (e : ar = [uB c]) (er : r = .b (isFun1 c)) : KG T lv n_Function1 ar r
 | alnum (ar : List AV) (r : AV) (c : Nat) (hl : 2 ≤ lv) (e : ar = [uB c]) (er : r = .b (isAl c)) : KG T lv n_alnum ar r
 | resv (ar : List AV) (r : AV) (l : List Nat) (hl : 1 ≤ lv) (e : ar = [.s l]) (er : r = .b (Go.Lyc.resv l)) : KG T lv n_reserved ar r
 | slpre (ar : List AV) (r : AV) (x y : List Nat) (hl : 1 ≤ lv) (e : ar = [.s x, .s y]) (er : r = .b (prefB x y)) : KG T lv n_slHasPrefix ar r
 | pre (ar : List AV) (r : AV) (x y : List Nat) (hl : 2 ≤ lv) (e : ar = [.s x, .s y]) (er : r = .b (prefB x y)) : KG T lv n_HasPrefix ar r
 | pred (ar : List AV) (r : AV) (l : List Nat) (hn : l.length < 2 ^ 62) (hl : 3 ≤ lv) (e : ar = [.s l]) (er : r = .b (isPred l)) : KG T lv n_Predicate ar r
 | var (ar : List AV) (r : AV) (l : List Nat) (hn : l.length < 2 ^ 62) (hl : 3 ≤ lv) (e : ar = [.s l]) (er : r = .b (isVar l)) : KG T lv n_Variable ar r
 | func (ar : List AV) (r : AV) (l : List Nat) (hn : l.length < 2 ^ 62) (hl : 3 ≤ lv) (e : ar = [.s l]) (er : r = .b (isFun l)) : KG T lv n_Function ar r
 | fmeta (ar : List AV) (r : AV) (l : List Nat) (hn : l.length < 2 ^ 62) (hl : 4 ≤ lv) (e : ar = [.s l]) (er : r = .b (isFMeta l)) : KG T lv n_formMeta ar r
 | tmeta (ar : List AV) (r : AV) (l : List Nat) (hn : l.length < 2 ^ 62) (hl : 4 ≤ lv) (e : ar = [.s l]) (er : r = .b (isTMeta l)) : KG T lv n_termMeta ar r
 | named (ar : List AV) (r : AV) (k : Nat) (l : List Nat) (hn : l.length < 2 ^ 62) (hl : 5 ≤ lv) (e : ar = [.i .u8 (Int.ofNat k), .s l]) (er : r = .b (namedB k l)) : KG T lv n_named ar r
 | inst (ar : List AV) (r : AV) (a : Option (List Tm)) (hn : (a.getD []).length < 2 ^ 62 ∧ ∀ t ∈ a.getD [], t.name.length < 2 ^ 62 ∧ t.dep ≤ 400) (hl : 5 ≤ lv) (e : ar = [tmsA true a]) (er : r = .b (instB (a.getD []))) : KG T lv n_instance ar r
 | right (ar : List AV) (r : AV) (F : Fm) (hF : F.ok ∧ F.dep ≤ 400) (hl : 6 ≤ lv) (e : ar = [F.A true]) (er : r = .b (rightB F)) : KG T lv n_Right ar r
 | ops (ar : List AV) (r : AV) (F : Fm) (hF : F.few) (hl : 1 ≤ lv) (e : ar = [F.A true]) (er : r = .i .u32 (Int.ofNat (opsN F))) : KG T lv n_Ops ar r
 | strip (ar : List AV) (r : AV) (F : Fm) (hF : Bf F ∧ F.dep ≤ 400) (hl : F.dep ≤ lv) (e : ar = [F.A true]) (er : r = F.strip.A false) : KG T lv n_stripped ar r
 | bterm (ar : List AV) (r : AV) (c : Nat) (hc : c < 256) (hl : 1 ≤ lv) (e : ar = [uB c]) (er : r = (builtT c).A false) : KG T lv n_BuiltTerm ar r
 | built (ar : List AV) (r : AV) (l : Option (List Nat)) (hc : ∀ c ∈ l.getD [], c < 256) (hl : 2 ≤ lv) (e : ar = [bytesA l]) (er : r = (builtF (l.getD [])).A false) : KG T lv n_Built ar r
 | srt1 (ar : List AV) (r : AV) (x y : Sy) (hl : 1 ≤ lv) (e : ar = [symA x, symA y]) (er : r = .i .i64 (cmpSy x y)) : KG T lv n_sorted1 ar r
 | args (ar : List AV) (r : AV) (k : Nat) (F : Fm) (hF : F.few ∧ (predsN F).length ≤ 12 ∧ (funsN F).length ≤ 12) (hl : 2 ≤ lv) (e : ar = [.i .u8 (Int.ofNat k), F.A true]) (er : r = .b (argsB k F)) : KG T lv n_argsAllowed ar r
 | one (ar : List AV) (r : AV) (l : Lg) (F : Fm) (hF : Bf F ∧ F.dep ≤ 400 ∧ l.ops < 2 ^ 32) (hl : 7 ≤ lv) (e : ar = [l.A true, F.A true]) (er : r = .b (oneB l.ops l.kind F)) : KG T lv n_one ar r
 | allowed (ar : List AV) (r : AV) (l : Lg) (F : Fm) (hF : Bf F ∧ F.dep ≤ 400 ∧ l.ops < 2 ^ 32) (hs : ∀ σ, snapshot σ 1000 (l.A true) = some (l.A true)) (hT : T n_LRight [l.A true] (.b true)) (hl : 8 ≤ lv) (e : ar = [l.A true, F.A true]) (er : r = .b (oneB l.ops l.kind F)) : KG T lv n_Allowed ar r
theorem one1 {a b : AV} (h : [a] = [b]) : a = b := by injection h
theorem one2 {a b c d : AV} (h : [a, b] = [c, d]) : a = c ∧ b = d := by injection h with h1 h2; injection h2 with h2; exact ⟨h1, h2⟩
theorem uB_inj {a b : Nat} (h : uB a = uB b) : a = b := by injection h with _ h; exact Int.ofNat.inj h
theorem s_inj {a b : List Nat} (h : AV.s a = .s b) : a = b := by injection h
theorem symA_inj {a b : Sy} (h : symA a = symA b) : a = b := by
 obtain ⟨a1, a2⟩ := a
 obtain ⟨b1, b2⟩ := b
 injection h with h
 injection h with h1 h2
 injection h2 with h2 _
 injection h2 with _ h2
 exact Prod.ext (s_inj h1) (Int.ofNat.inj h2)
theorem bytesA_inj {a b : Option (List Nat)} (h : bytesA a = bytesA b) : a = b := by
 cases a with
 | none => cases b with
  | none => rfl
  | some m => cases h
 | some l => cases b with
  | none => cases h
  | some m =>
   injection h with _ _ h
   rw [map_inj_on (fun x _ y h => uB_inj h) h]
theorem Lg.A_inj {l m : Lg} (h : l.A true = m.A true) : l.ops = m.ops ∧ l.kind = m.kind := by
 injection h with h
 injection h with _ h
 injection h with h1 h
 injection h with h2 _
 injection h1 with _ h1
 injection h2 with _ h2
 exact ⟨Int.ofNat.inj h1, Int.ofNat.inj h2⟩
section
variable {T : Nat → List AV → AV → Prop} (hTf : ∀ g ar r r', T g ar r → T g ar r' → r = r') (hTg : ∀ g ar r, T g ar r → g = n_LNamed ∨ g = n_LRight ∨ g = n_SameRules ∨ g = n_awake9)
include hTf hTg in
theorem KG.fn {lv : Nat} (g : Nat) (ar : List AV) (r r' : AV) (h : KG T lv g ar r) (h' : KG T lv g ar r') : r = r' := by
 cases h with
 | tab _ _ _ h =>
  have hg := hTg _ _ _ h
  cases h' with
  | tab _ _ _ h' => exact hTf _ _ _ _ h h'
  | _ => exact absurd hg (by decide)
 | small _ _ c hl e er => cases h' with
  | tab _ _ _ h => have hg := hTg _ _ _ h; exact absurd hg (by decide)
  | small _ _ c' hl' e' er' => rw [er, er', uB_inj (one1 (e.symm.trans e'))]
 | capital _ _ c hl e er => cases h' with
  | tab _ _ _ h => have hg := hTg _ _ _ h; exact absurd hg (by decide)
  | capital _ _ c' hl' e' er' => rw [er, er', uB_inj (one1 (e.symm.trans e'))]
 | digit _ _ c hl e er => cases h' with
  | tab _ _ _ h => have hg := hTg _ _ _ h; exact absurd hg (by decide)
  | digit _ _ c' hl' e' er' => rw [er, er', uB_inj (one1 (e.symm.trans e'))]
 | var1 _ _ c hl e er => cases h' with
  | tab _ _ _ h => have hg := hTg _ _ _ h; exact absurd hg (by decide)
  | var1 _ _ c' hl' e' er' => rw [er, er', uB_inj (one1 (e.symm.trans e'))]
 | fun1 _ _ c hl e er => cases h' with
  | tab _ _ _ h => have hg := hTg _ _ _ h; exact absurd hg (by decide)
  | fun1 _ _ c' hl' e' er' => rw [er, er', uB_inj (one1 (e.symm.trans e'))]
 | alnum _ _ c hl e er => cases h' with
  | tab _ _ _ h => have hg := hTg _ _ _ h; exact absurd hg (by decide)
  | alnum _ _ c' hl' e' er' => rw [er, er', uB_inj (one1 (e.symm.trans e'))]
 | resv _ _ c hl e er => cases h' with
  | tab _ _ _ h => have hg := hTg _ _ _ h; exact absurd hg (by decide)
  | resv _ _ c' hl' e' er' => rw [er, er', s_inj (one1 (e.symm.trans e'))]
 | slpre _ _ x y hl e er => cases h' with
  | tab _ _ _ h => have hg := hTg _ _ _ h; exact absurd hg (by decide)
  | slpre _ _ x' y' hl' e' er' => have := one2 (e.symm.trans e'); rw [er, er', s_inj this.1, s_inj this.2]
 | pre _ _ x y hl e er => cases h' with
  | tab _ _ _ h => have hg := hTg _ _ _ h; exact absurd hg (by decide)
  | pre _ _ x' y' hl' e' er' => have := one2 (e.symm.trans e'); rw [er, er', s_inj this.1, s_inj this.2]
 | pred _ _ l hn hl e er => cases h' with
  | tab _ _ _ h => have hg := hTg _ _ _ h; exact absurd hg (by decide)
  | pred _ _ l' hn' hl' e' er' => rw [er, er', s_inj (one1 (e.symm.trans e'))]
 | var _ _ l hn hl e er => cases h' with
  | tab _ _ _ h => have hg := hTg _ _ _ h; exact absurd hg (by decide)
  | var _ _ l' hn' hl' e' er' => rw [er, er', s_inj (one1 (e.symm.trans e'))]
 | func _ _ l hn hl e er => cases h' with
  | tab _ _ _ h => have hg := hTg _ _ _ h; exact absurd hg (by decide)
  | func _ _ l' hn' hl' e' er' => rw [er, er', s_inj (one1 (e.symm.trans e'))]
 | fmeta _ _ l hn hl e er => cases h' with
  | tab _ _ _ h => have hg := hTg _ _ _ h; exact absurd hg (by decide)
  | fmeta _ _ l' hn' hl' e' er' => rw [er, er', s_inj (one1 (e.symm.trans e'))]
 | tmeta _ _ l hn hl e er => cases h' with
  | tab _ _ _ h => have hg := hTg _ _ _ h; exact absurd hg (by decide)
  | tmeta _ _ l' hn' hl' e' er' => rw [er, er', s_inj (one1 (e.symm.trans e'))]
 | named _ _ k l hn hl e er => cases h' with
  | tab _ _ _ h => have hg := hTg _ _ _ h; exact absurd hg (by decide)
  | named _ _ k' l' hn' hl' e' er' => have := one2 (e.symm.trans e'); rw [er, er', uB_inj this.1, s_inj this.2]
 | inst _ _ a hn hl e er => cases h' with
  | tab _ _ _ h => have hg := hTg _ _ _ h; exact absurd hg (by decide)
  | inst _ _ a' hn' hl' e' er' => rw [er, er', tmsA_inj (one1 (e.symm.trans e'))]
 | right _ _ F hF hl e er => cases h' with
  | tab _ _ _ h => have hg := hTg _ _ _ h; exact absurd hg (by decide)
  | right _ _ F' hF' hl' e' er' => rw [er, er', Fm.A_inj (one1 (e.symm.trans e'))]
 | ops _ _ F hF hl e er => cases h' with
  | tab _ _ _ h => have hg := hTg _ _ _ h; exact absurd hg (by decide)
  | ops _ _ F' hF' hl' e' er' => rw [er, er', Fm.A_inj (one1 (e.symm.trans e'))]
 | strip _ _ F hF hl e er => cases h' with
  | tab _ _ _ h => have hg := hTg _ _ _ h; exact absurd hg (by decide)
  | strip _ _ F' hF' hl' e' er' => rw [er, er', Fm.A_inj (one1 (e.symm.trans e'))]
 | bterm _ _ c hc hl e er => cases h' with
  | tab _ _ _ h => have hg := hTg _ _ _ h; exact absurd hg (by decide)
  | bterm _ _ c' hc' hl' e' er' => rw [er, er', uB_inj (one1 (e.symm.trans e'))]
 | built _ _ l hc hl e er => cases h' with
  | tab _ _ _ h => have hg := hTg _ _ _ h; exact absurd hg (by decide)
  | built _ _ l' hc' hl' e' er' => rw [er, er', bytesA_inj (one1 (e.symm.trans e'))]
 | srt1 _ _ x y hl e er => cases h' with
  | tab _ _ _ h => have hg := hTg _ _ _ h; exact absurd hg (by decide)
  | srt1 _ _ x' y' hl' e' er' => have := one2 (e.symm.trans e'); rw [er, er', symA_inj this.1, symA_inj this.2]
 | args _ _ k F hF hl e er => cases h' with
  | tab _ _ _ h => have hg := hTg _ _ _ h; exact absurd hg (by decide)
  | args _ _ k' F' hF' hl' e' er' => have := one2 (e.symm.trans e'); rw [er, er', uB_inj this.1, Fm.A_inj this.2]
 | one _ _ l F hF hl e er => cases h' with
  | tab _ _ _ h => have hg := hTg _ _ _ h; exact absurd hg (by decide)
  | one _ _ l' F' hF' hl' e' er' => have := one2 (e.symm.trans e'); rw [er, er', (Lg.A_inj this.1).1, (Lg.A_inj this.1).2, Fm.A_inj this.2]
 | allowed _ _ l F hF hs hT hl e er => cases h' with
  | tab _ _ _ h => have hg := hTg _ _ _ h; exact absurd hg (by decide)
  | allowed _ _ l' F' hF' hs' hT' hl' e' er' => have := one2 (e.symm.trans e'); rw [er, er', (Lg.A_inj this.1).1, (Lg.A_inj this.1).2, Fm.A_inj this.2]
end
end Go.Lyc
end
noncomputable section
namespace Go.Lyc
open Go.RowKit Go.Lyc.T
abbrev HB (b : Base) (g : Nat) (c : AFunc) : Prop := b.funcs.get g = some c ∧ b.ext g = 0 ∧ b.pure g = false
abbrev PB (b : Base) (g : Nat) (c : AFunc) : Prop := b.funcs.get g = some c ∧ b.ext g = 0 ∧ b.pure g = true
theorem HB.h {b : Base} {K : Nat → List AV → AV → Prop} {g : Nat} {c : AFunc} (h : HB b g c) : Here (b.envK K) g c := ⟨h.1, h.2.1, h.2.2⟩
structure GA (b : Base) : Prop where
 visit : HB b n_visit c_visit
 walk : HB b n_walk c_walk
 walk1 : HB b n_walk1 c_walk1
 jnode : HB b n_jnode c_jnode
 jterm : HB b n_jterm c_jterm
 jterms : HB b n_jterms c_jterms
 jform : HB b n_jform c_jform
 checker : HB b n_checker c_checker
 checker1 : HB b n_checker1 c_checker1
 v : HB b n_v c_v
 fn : HB b n_fn c_fn
 atom8 : HB b n_atom8 c_atom8
 join8 : HB b n_join8 c_join8
 sorted : HB b n_sorted c_sorted
 Keys : HB b n_Keys c_Keys
 Keys1 : HB b n_Keys1 c_Keys1
 SortedFunc : HB b n_SortedFunc c_SortedFunc
 Collect : HB b n_Collect c_Collect
 AppendSeq : HB b n_AppendSeq c_AppendSeq
 SortFunc : HB b n_SortFunc c_SortFunc
 Len : HB b n_Len c_Len
 Len64 : HB b n_Len64 c_Len64
 pdq : HB b n_pdq c_pdq
 inssort : HB b n_inssort c_inssort
 Predicates : HB b n_Predicates c_Predicates
 Functions : HB b n_Functions c_Functions
 Functions1 : HB b n_Functions1 c_Functions1
 visitTerms : HB b n_visitTerms c_visitTerms
 strCompare : HB b n_strCompare c_strCompare
 CompareString : HB b n_CompareString c_CompareString
 cmpInt : HB b n_cmpInt c_cmpInt
 isNaNint : HB b n_isNaNint c_isNaNint
 small_ : PB b n_small c_small
 capital_ : PB b n_capital c_capital
 digit_ : PB b n_digit c_digit
 Variable1_ : PB b n_Variable1 c_Variable1
 Function1_ : PB b n_Function1 c_Function1
 alnum_ : PB b n_alnum c_alnum
 reserved_ : PB b n_reserved c_reserved
 slHasPrefix_ : PB b n_slHasPrefix c_slHasPrefix
 HasPrefix_ : PB b n_HasPrefix c_HasPrefix
 Predicate_ : PB b n_Predicate c_Predicate
 Variable_ : PB b n_Variable c_Variable
 Function_ : PB b n_Function c_Function
 formMeta_ : PB b n_formMeta c_formMeta
 termMeta_ : PB b n_termMeta c_termMeta
 named_ : PB b n_named c_named
 instance_ : PB b n_instance c_instance
 Right_ : PB b n_Right c_Right
 Ops_ : PB b n_Ops c_Ops
 stripped_ : PB b n_stripped c_stripped
 BuiltTerm_ : PB b n_BuiltTerm c_BuiltTerm
 Built_ : PB b n_Built c_Built
 sorted1_ : PB b n_sorted1 c_sorted1
 argsAllowed_ : PB b n_argsAllowed c_argsAllowed
 one_ : PB b n_one c_one
 Allowed_ : PB b n_Allowed c_Allowed
 LogicGrows_ : PB b n_LogicGrows c_LogicGrows
 LNamed : b.ext n_LNamed = 0 ∧ b.pure n_LNamed = true
 LRight : b.ext n_LRight = 0 ∧ b.pure n_LRight = true
 SameRules : b.ext n_SameRules = 0 ∧ b.pure n_SameRules = true
 awake9 : b.ext n_awake9 = 0 ∧ b.pure n_awake9 = true
 cmps : b.ext n_cmpstring = 2
 rows : b.glob n_rows = some (.ag rowsL)
section
variable {P : Program} {b : Base} (hb : BaseOk P b) (ga : GA b) {T : Nat → List AV → AV → Prop} (hTf : ∀ g ar r r', T g ar r → T g ar r' → r = r') (hTg : ∀ g ar r, T g ar r → g = n_LNamed ∨ g = n_LRight ∨ g = n_SameRules ∨ g = n_awake9) (hTok : KOk P b T)
theorem eb (x : Bool) : freshA 1000 (.b x) = true ∧ AV.eqb 1000 (.b x) (.b x) = true := ⟨rfl, Snp.eqb 1000 _ (Snp.b 999 _)⟩
theorem ei (k : IntKind) (x : Int) : freshA 1000 (.i k x) = true ∧ AV.eqb 1000 (.i k x) (.i k x) = true := ⟨rfl, Snp.eqb 1000 _ (Snp.i 999 _ _)⟩
theorem Bf.strip_dep {F : Fm} (h : Bf F) : F.strip.dep ≤ F.dep := by
 induction h with
 | atm nm a hn ha hs => rw [Fm.strip, Fm.dep_eq, Fm.dep_eq]; show max (Tm.deps []) (Fm.deps []) + 1 ≤ _; rw [Tm.deps, Fm.deps]; omega
 | fal => rw [Fm.strip]; exact Nat.le_refl _
 | un op nm F ho hn h ih =>
  rcases ho with rfl | ho
  ·rw [Fm.strip, if_neg (by omega), Fm.strips, Fm.strips, mk1_dep]
   show (Fm.mk 3 nm none (some [F.strip])).dep ≤ _
   rw [mk1_dep]; omega
  ·rw [Fm.strip, if_pos ho, Fm.stripH, mk1_dep]; omega
 | bi op F G ho h h2 ih ih2 =>
  rw [Fm.strip, if_neg (by omega), Fm.strips, Fm.strips, Fm.strips, mk2_dep]
  show (Fm.mk op [] none (some [F.strip, G.strip])).dep ≤ _
  rw [mk2_dep]; omega
theorem Bf.sub {F : Fm} (h : Bf F) : ∀ G ∈ F.sub, Bf G := by
 cases h with
 | atm nm a hn ha hs => intro G hG; simp [Fm.sub, Fm.osub] at hG
 | fal => intro G hG; simp [Fm.sub, Fm.osub] at hG
 | un op nm F ho hn h => intro G hG; rw [show G = F from by simpa [Fm.sub, Fm.osub] using hG]; exact h
 | bi op F G ho h h2 =>
  intro H hG
  have : H = F ∨ H = G := by simpa [Fm.sub, Fm.osub] using hG
  rcases this with rfl | rfl <;> assumption
theorem Bf.shape {F : Fm} (h : Bf F) : F.sub.length < 1000 ∧ (F.op = 8 ∨ F.op = 9 → 0 < F.sub.length) := by
 cases h with
 | atm nm a hn ha hs => exact ⟨by simp [Fm.sub, Fm.osub], fun h => by simp [Fm.op] at h⟩
 | fal => exact ⟨by simp [Fm.sub, Fm.osub], fun h => by simp [Fm.op] at h⟩
 | un op nm F ho hn h => exact ⟨by simp [Fm.sub, Fm.osub], fun _ => by simp [Fm.sub, Fm.osub]⟩
 | bi op F G ho h h2 => exact ⟨by simp [Fm.sub, Fm.osub], fun _ => by simp [Fm.sub, Fm.osub]⟩
include ga hTf hTg in
theorem nmK {lv : Nat} (h : 5 ≤ lv) : NmK b (KG T lv) where
 fn := KG.fn hTf hTg
 var l hl := .var _ _ l hl (by omega) rfl rfl
 fun_ l hl := .func _ _ l hl (by omega) rfl rfl
 tmeta l hl := .tmeta _ _ l hl (by omega) rfl rfl
 named k l hl := .named _ _ k l hl h rfl rfl
 inst a h1 h2 := .inst _ _ a ⟨h1, h2⟩ h rfl rfl
 e_var := ga.Variable_.2
 e_fun := ga.Function_.2
 e_tmeta := ga.termMeta_.2
 e_named := ga.named_.2
 e_inst := ga.instance_.2
 node := ga.jnode.h
 term := ga.jterm.h
 terms := ga.jterms.h
 form := ga.jform.h
include ga in
theorem srtH {lv : Nat} (h : 1 ≤ lv) : SrtH b (KG T lv) where
 sorted := ga.sorted.h
 keys := ga.Keys.h
 sfn := ga.SortedFunc.h
 col := ga.Collect.h
 app := ga.AppendSeq.h
 keys1 := ga.Keys1.h
 srt := ga.SortFunc.h
 len := ga.Len.h
 len64 := ga.Len64.h
 pdq := ga.pdq.h
 ins := ga.inssort.h
 cmp x y := .srt1 _ _ x y h rfl rfl
 ec := ga.sorted1_.2
include hb ga hTf hTg hTok in
theorem kok : ∀ lv, KOk P b (KG T lv) := by
 intro lv
 induction lv with
 | zero =>
  intro g ar r h B0
  cases h with
  | tab _ _ _ h => exact hTok _ _ _ h B0
  | strip _ _ F hF hl e er => rw [Fm.dep_eq] at hl; omega
  | _ => omega
 | succ lv ih =>
  have hf := KG.fn hTf hTg (lv := lv)
  intro g ar r h B0
  cases h with
  | tab _ _ _ h => exact hTok _ _ _ h B0
  | small _ _ c hl e er => subst e er; exact entryK hb ih _ ga.small_.1 rfl rfl rfl rfl (eb _).1 (eb _).2 (small_go c _ rfl) B0
  | capital _ _ c hl e er => subst e er; exact entryK hb ih _ ga.capital_.1 rfl rfl rfl rfl (eb _).1 (eb _).2 (capital_go c _ rfl) B0
  | digit _ _ c hl e er => subst e er; exact entryK hb ih _ ga.digit_.1 rfl rfl rfl rfl (eb _).1 (eb _).2 (digit_go c _ rfl) B0
  | var1 _ _ c hl e er => subst e er; exact entryK hb ih _ ga.Variable1_.1 rfl rfl rfl rfl (eb _).1 (eb _).2 (Variable1_go c _ rfl) B0
  | fun1 _ _ c hl e er => subst e er; exact entryK hb ih _ ga.Function1_.1 rfl rfl rfl rfl (eb _).1 (eb _).2 (Function1_go c _ rfl) B0
  | alnum _ _ c hl e er => subst e er; exact entryK hb ih _ ga.alnum_.1 rfl rfl rfl rfl (eb _).1 (eb _).2 (alnum_go hf (fun c => .small _ _ c (by omega) rfl rfl) (fun c => .capital _ _ c (by omega) rfl rfl) (fun c => .digit _ _ c (by omega) rfl rfl) ga.small_.2 ga.capital_.2 ga.digit_.2 c _ rfl) B0
  | resv _ _ l hl e er => subst e er; exact entryK hb ih _ ga.reserved_.1 rfl rfl rfl rfl (eb _).1 (eb _).2 (reserved_go l _ rfl) B0
  | slpre _ _ x y hl e er => subst e er; exact entryK hb ih _ ga.slHasPrefix_.1 rfl rfl rfl rfl (eb _).1 (eb _).2 (slHasPrefix_go x y _ rfl) B0
  | pre _ _ x y hl e er => subst e er; exact entryK hb ih _ ga.HasPrefix_.1 rfl rfl rfl rfl (eb _).1 (eb _).2 (HasPrefix_go hf (fun x y => .slpre _ _ x y (by omega) rfl rfl) ga.slHasPrefix_.2 x y _ rfl) B0
  | pred _ _ l hn hl e er => subst e er; exact entryK hb ih _ ga.Predicate_.1 rfl rfl rfl rfl (eb _).1 (eb _).2 (Predicate_go hf (fun c => .capital _ _ c (by omega) rfl rfl) ga.capital_.2 (fun c => .alnum _ _ c (by omega) rfl rfl) ga.alnum_.2 (fun l => .resv _ _ l (by omega) rfl rfl) ga.reserved_.2 ga.checker1.h ga.checker.h l hn _ rfl) B0
  | var _ _ l hn hl e er => subst e er; exact entryK hb ih _ ga.Variable_.1 rfl rfl rfl rfl (eb _).1 (eb _).2 (Variable_go hf (fun c => .var1 _ _ c (by omega) rfl rfl) ga.Variable1_.2 (fun c => .digit _ _ c (by omega) rfl rfl) ga.digit_.2 (fun l => .resv _ _ l (by omega) rfl rfl) ga.reserved_.2 ga.checker1.h ga.checker.h l hn _ rfl) B0
  | func _ _ l hn hl e er => subst e er; exact entryK hb ih _ ga.Function_.1 rfl rfl rfl rfl (eb _).1 (eb _).2 (Function_go hf (fun c => .fun1 _ _ c (by omega) rfl rfl) ga.Function1_.2 (fun c => .alnum _ _ c (by omega) rfl rfl) ga.alnum_.2 (fun l => .resv _ _ l (by omega) rfl rfl) ga.reserved_.2 ga.checker1.h ga.checker.h l hn _ rfl) B0
  | fmeta _ _ l hn hl e er => subst e er; exact entryK hb ih _ ga.formMeta_.1 rfl rfl rfl rfl (eb _).1 (eb _).2 (formMeta_go hf (fun l hl => .pred _ _ l hl (by omega) rfl rfl) ga.Predicate_.2 (fun x y _ _ => .pre _ _ x y (by omega) rfl rfl) ga.HasPrefix_.2 l hn _ rfl) B0
  | tmeta _ _ l hn hl e er => subst e er; exact entryK hb ih _ ga.termMeta_.1 rfl rfl rfl rfl (eb _).1 (eb _).2 (termMeta_go hf (fun l hl => .func _ _ l hl (by omega) rfl rfl) ga.Function_.2 (fun x y _ _ => .pre _ _ x y (by omega) rfl rfl) ga.HasPrefix_.2 l hn _ rfl) B0
  | named _ _ k l hn hl e er => subst e er; exact entryK hb ih _ ga.named_.1 rfl rfl rfl rfl (eb _).1 (eb _).2 (named_go hf (fun l hl => .pred _ _ l hl (by omega) rfl rfl) ga.Predicate_.2 (fun l hl => .var _ _ l hl (by omega) rfl rfl) ga.Variable_.2 (fun l hl => .fmeta _ _ l hl (by omega) rfl rfl) ga.formMeta_.2 k l hn _ rfl) B0
  | inst _ _ a hn hl e er => subst e er; exact entryK hb ih _ ga.instance_.1 rfl rfl rfl rfl (eb _).1 (eb _).2 (instance_go hf (fun l hl => .var _ _ l hl (by omega) rfl rfl) ga.Variable_.2 (fun l hl => .tmeta _ _ l hl (by omega) rfl rfl) ga.termMeta_.2 a hn.1 (fun t ht => (hn.2 t ht).1) _ rfl) B0
  | right _ _ F hF hl e er => subst e er; exact entryK hb ih _ ga.Right_.1 rfl rfl rfl rfl (eb _).1 (eb _).2 (Right_go (nmK ga hTf hTg (by omega)) ga.rows F hF.2 hF.1 _ rfl) B0
  | ops _ _ F hF hl e er => subst e er; exact entryX hb ih _ ga.Ops_.1 rfl rfl rfl rfl (ei _ _).1 (ei _ _).2 (Ops_go ga.visit.h ga.walk1.h ga.walk.h F hF _ rfl) B0
  | strip _ _ F hF hl e er =>
   subst e er
   have hd := hF.1.strip_dep
   have hs := hF.1.shape
   exact entryB hb ih _ ga.stripped_.1 rfl rfl rfl rfl (Fm.res _ (by have := hF.2; omega)).1 (Fm.res _ (by have := hF.2; omega)).2 (stripped_go hf ga.stripped_.2.1 ga.stripped_.2.2 F (fun G hG => .strip _ _ G ⟨hF.1.sub G hG, by have := Fm.dep_sub hG; have := hF.2; omega⟩ (by have := Fm.dep_sub hG; omega) rfl rfl) hF.2 hs.1 hF.1.ok.op hs.2 _ rfl) B0
  | bterm _ _ c hc hl e er => subst e er; exact entryB hb ih _ ga.BuiltTerm_.1 rfl rfl rfl rfl (Tm.res _ (by have := builtT_dep c; omega)).1 (Tm.res _ (by have := builtT_dep c; omega)).2 (BuiltTerm_go ga.v.h ga.fn.h c hc _ rfl) B0
  | built _ _ l hc hl e er =>
   subst e er
   obtain ⟨n, d, hw, h1, h2⟩ := builtF_wt (l.getD [])
   have hd := hw.dep
   exact entryB hb ih _ ga.Built_.1 rfl rfl rfl rfl (Fm.res _ (by omega)).1 (Fm.res _ (by omega)).2 (Built_go hf ga.atom8.h ga.join8.h (fun c hc => .bterm _ _ c hc (by omega) rfl rfl) ga.BuiltTerm_.2 (l.getD []) hc (bytesA l) (fun τ => osl_len) (fun i h => osl_idx h) _ rfl) B0
  | srt1 _ _ x y hl e er => subst e er; exact entryK hb ih _ ga.sorted1_.1 rfl rfl rfl rfl (ei _ _).1 (ei _ _).2 (sorted1_go ga.strCompare.h ga.CompareString.h ga.cmps ga.cmpInt.h ga.isNaNint.h x y _ rfl) B0
  | args _ _ k F hF hl e er => subst e er; exact entryK hb ih _ ga.argsAllowed_.1 rfl rfl rfl rfl (eb _).1 (eb _).2 (argsAllowed_go hf (srtH ga (by omega)) ga.Predicates.h ga.Functions.h ga.Functions1.h ga.visitTerms.h ga.visit.h ga.walk1.h ga.walk.h k F hF.1 hF.2.1 hF.2.2 _ rfl) B0
  | one _ _ l F hF hl e er => subst e er; exact entryK hb ih _ ga.one_.1 rfl rfl rfl rfl (eb _).1 (eb _).2 (one_go hf F hF.2.1 (.right _ _ F ⟨hF.1.ok, hF.2.1⟩ (by omega) rfl rfl) ga.Right_.2 (.ops _ _ F hF.1.few (by omega) rfl rfl) ga.Ops_.2 l hF.2.2 (.args _ _ l.kind F ⟨hF.1.few, hF.1.preds12, hF.1.funs12⟩ (by omega) rfl rfl) ga.argsAllowed_.2 _ rfl) B0
  | allowed _ _ l F hF hs hT hl e er => subst e er; exact entryK hb ih _ ga.Allowed_.1 rfl rfl rfl rfl (eb _).1 (eb _).2 (Allowed_go hf F hF.2.1 l hs (.tab _ _ _ hT) ga.LRight (.one _ _ l F hF (by omega) rfl rfl) ga.one_.2 _ rfl) B0
end
end Go.Lyc
end
